/- Contracts of uniform functions: how large, laid anew, equal to itself. Written by our own fam.py. Conditions: as each theorem says. -/
import Derived.Test.YthnidhkfelfkdabMachV
namespace Go.Proofs.Ythnidhkfelfkdab.Mach
open Go
set_option linter.unusedVariables false
set_option linter.unusedSimpArgs false

def s_BarS : Sh := (.sl (.st [(.int .i64), (.int .i64)]))
abbrev T_Bar := (Int) × (Int) × Unit
abbrev T_BarS := Nat × (Nat → T_Bar)
def f_szBarS (v : T_BarS) (m : Int) : Int := if m - v.1 < 0 then -1 else m - v.1
def s_Graph : Sh := (.st [(.int .i64), (.sl (.st [(.int .i64), (.int .i64)]))])
abbrev T_Graph := (Int) × (T_BarS) × Unit
def f_szGraph (v : T_Graph) (m : Int) : Int := if (f_szBarS v.2.1 m) < 0 then -1 else ((f_szBarS v.2.1 m))
def s_Bar : Sh := (.st [(.int .i64), (.int .i64)])
def S_toBarS (v : T_BarS) (k : Nat) : St :=
  ⟨[.p (.seq true 2 (v.1) (fun i => [.int .i64 ((v.2 i).1), .int .i64 ((v.2 i).2.1)])), .p .any, .p .any, .ar 2 0 0 v.1, .p (.int .i64 k)] ++ List.replicate 18 anyA, [(0, ⟨false, 2, v.1, fun i => [.p (.int .i64 (if i < k then (v.2 i).1 else 0)), .p (.int .i64 (if i < k then (v.2 i).2.1 else 0))]⟩)], 1⟩
def S_eqBarS (v : T_BarS) (k : Nat) : St :=
  ⟨[.p (.seq true 2 (v.1) (fun i => [.int .i64 ((v.2 i).1), .int .i64 ((v.2 i).2.1)])), .p (.seq true 2 (v.1) (fun i => [.int .i64 ((v.2 i).1), .int .i64 ((v.2 i).2.1)])), .p .any, .p .any, .p .any, .p (.int .i64 k)] ++ List.replicate 21 anyA, [], 0⟩
def s_IntS : Sh := (.sl (.int .i64))
abbrev T_IntS := Nat × (Nat → Int)
def S_toIntS (v : T_IntS) (k : Nat) : St :=
  ⟨[.p (.seq true 1 (v.1) (fun i => [.int .i64 ((v.2 i))])), .p .any, .p .any, .ar 1 0 0 v.1, .p (.int .i64 k)] ++ List.replicate 17 anyA, [(0, ⟨false, 1, v.1, fun i => [.p (.int .i64 (if i < k then (v.2 i) else 0))]⟩)], 1⟩
def S_eqIntS (v : T_IntS) (k : Nat) : St :=
  ⟨[.p (.seq true 1 (v.1) (fun i => [.int .i64 ((v.2 i))])), .p (.seq true 1 (v.1) (fun i => [.int .i64 ((v.2 i))])), .p .any, .p .any, .p .any, .p (.int .i64 k)] ++ List.replicate 20 anyA, [], 0⟩
def S_markIntS (v : T_IntS) (m : Int) (k : Nat) : St :=
  ⟨[.ar 1 0 0 v.1, .p (.int .i64 (m + (k : Int))), .p .any, .p .any, .p .any, .p (.int .i64 k)] ++ List.replicate 13 anyA, [(0, ⟨false, 1, v.1, fun i => [.p (.int .i64 (if i < k then m + (i : Int) else (v.2 i)))]⟩)], 1⟩
def S_markBarS (v : T_BarS) (m : Int) (k : Nat) : St :=
  ⟨[.ar 2 0 0 v.1, .p (.int .i64 (m + 2 * (k : Int))), .p .any, .p .any, .p .any, .p (.int .i64 k)] ++ List.replicate 21 anyA, [(0, ⟨false, 2, v.1, fun i => [.p (.int .i64 (if i < k then m + 2 * (i : Int) else (v.2 i).1)), .p (.int .i64 (if i < k then m + 2 * (i : Int) + 1 else (v.2 i).2.1))]⟩)], 1⟩
def S_markBarS_1 (v : T_BarS) (m : Int) (k : Nat) : St :=
  ⟨[.ar 2 0 0 v.1, .p (.int .i64 (m + 2 * (k : Int) + 1)), .p .any, .p .any, .p .any, .p (.int .i64 k)] ++ List.replicate 21 anyA, [(0, ⟨false, 2, v.1, fun i => [.p (.int .i64 (if i < k + 1 then m + 2 * (i : Int) else (v.2 i).1)), .p (.int .i64 (if i < k then m + 2 * (i : Int) + 1 else (v.2 i).2.1))]⟩)], 1⟩
def S_heldBarS (n : Nat) (m : Int) (k : Nat) : St :=
  ⟨[.p (.seq true 2 n (fun i => [.int .i64 (m + 2 * (i : Int)), .int .i64 (m + 2 * (i : Int) + 1)])), .p (.int .i64 (m + 2 * (k : Int))), .p .any, .p .any, .p .any, .p (.int .i64 k)] ++ List.replicate 25 anyA, [], 0⟩
def s_GainBarS : Sh := (.sl (.st [(.int .i64), (.int .i64), (.int .i64), (.int .i64)]))
abbrev T_GainBar := (Int) × (Int) × (Int) × (Int) × Unit
abbrev T_GainBarS := Nat × (Nat → T_GainBar)
def f_szGainBarS (v : T_GainBarS) (m : Int) : Int := if m - v.1 < 0 then -1 else m - v.1
def s_GainGraph : Sh := (.st [(.int .i64), (.sl (.st [(.int .i64), (.int .i64), (.int .i64), (.int .i64)]))])
abbrev T_GainGraph := (Int) × (T_GainBarS) × Unit
def f_szGainGraph (v : T_GainGraph) (m : Int) : Int := if (f_szGainBarS v.2.1 m) < 0 then -1 else ((f_szGainBarS v.2.1 m))
def s_GainBar : Sh := (.st [(.int .i64), (.int .i64), (.int .i64), (.int .i64)])
def S_toGainBarS (v : T_GainBarS) (k : Nat) : St :=
  ⟨[.p (.seq true 4 (v.1) (fun i => [.int .i64 ((v.2 i).1), .int .i64 ((v.2 i).2.1), .int .i64 ((v.2 i).2.2.1), .int .i64 ((v.2 i).2.2.2.1)])), .p .any, .p .any, .ar 4 0 0 v.1, .p (.int .i64 k)] ++ List.replicate 18 anyA, [(0, ⟨false, 4, v.1, fun i => [.p (.int .i64 (if i < k then (v.2 i).1 else 0)), .p (.int .i64 (if i < k then (v.2 i).2.1 else 0)), .p (.int .i64 (if i < k then (v.2 i).2.2.1 else 0)), .p (.int .i64 (if i < k then (v.2 i).2.2.2.1 else 0))]⟩)], 1⟩
def S_eqGainBarS (v : T_GainBarS) (k : Nat) : St :=
  ⟨[.p (.seq true 4 (v.1) (fun i => [.int .i64 ((v.2 i).1), .int .i64 ((v.2 i).2.1), .int .i64 ((v.2 i).2.2.1), .int .i64 ((v.2 i).2.2.2.1)])), .p (.seq true 4 (v.1) (fun i => [.int .i64 ((v.2 i).1), .int .i64 ((v.2 i).2.1), .int .i64 ((v.2 i).2.2.1), .int .i64 ((v.2 i).2.2.2.1)])), .p .any, .p .any, .p .any, .p (.int .i64 k)] ++ List.replicate 21 anyA, [], 0⟩
def S_markGainBarS (v : T_GainBarS) (m : Int) (k : Nat) : St :=
  ⟨[.ar 4 0 0 v.1, .p (.int .i64 (m + 4 * (k : Int))), .p .any, .p .any, .p .any, .p (.int .i64 k)] ++ List.replicate 35 anyA, [(0, ⟨false, 4, v.1, fun i => [.p (.int .i64 (if i < k then m + 4 * (i : Int) else (v.2 i).1)), .p (.int .i64 (if i < k then m + 4 * (i : Int) + 1 else (v.2 i).2.1)), .p (.int .i64 (if i < k then m + 4 * (i : Int) + 2 else (v.2 i).2.2.1)), .p (.int .i64 (if i < k then m + 4 * (i : Int) + 3 else (v.2 i).2.2.2.1))]⟩)], 1⟩
def S_markGainBarS_1 (v : T_GainBarS) (m : Int) (k : Nat) : St :=
  ⟨[.ar 4 0 0 v.1, .p (.int .i64 (m + 4 * (k : Int) + 1)), .p .any, .p .any, .p .any, .p (.int .i64 k)] ++ List.replicate 35 anyA, [(0, ⟨false, 4, v.1, fun i => [.p (.int .i64 (if i < k + 1 then m + 4 * (i : Int) else (v.2 i).1)), .p (.int .i64 (if i < k then m + 4 * (i : Int) + 1 else (v.2 i).2.1)), .p (.int .i64 (if i < k then m + 4 * (i : Int) + 2 else (v.2 i).2.2.1)), .p (.int .i64 (if i < k then m + 4 * (i : Int) + 3 else (v.2 i).2.2.2.1))]⟩)], 1⟩
def S_markGainBarS_2 (v : T_GainBarS) (m : Int) (k : Nat) : St :=
  ⟨[.ar 4 0 0 v.1, .p (.int .i64 (m + 4 * (k : Int) + 2)), .p .any, .p .any, .p .any, .p (.int .i64 k)] ++ List.replicate 35 anyA, [(0, ⟨false, 4, v.1, fun i => [.p (.int .i64 (if i < k + 1 then m + 4 * (i : Int) else (v.2 i).1)), .p (.int .i64 (if i < k + 1 then m + 4 * (i : Int) + 1 else (v.2 i).2.1)), .p (.int .i64 (if i < k then m + 4 * (i : Int) + 2 else (v.2 i).2.2.1)), .p (.int .i64 (if i < k then m + 4 * (i : Int) + 3 else (v.2 i).2.2.2.1))]⟩)], 1⟩
def S_markGainBarS_3 (v : T_GainBarS) (m : Int) (k : Nat) : St :=
  ⟨[.ar 4 0 0 v.1, .p (.int .i64 (m + 4 * (k : Int) + 3)), .p .any, .p .any, .p .any, .p (.int .i64 k)] ++ List.replicate 35 anyA, [(0, ⟨false, 4, v.1, fun i => [.p (.int .i64 (if i < k + 1 then m + 4 * (i : Int) else (v.2 i).1)), .p (.int .i64 (if i < k + 1 then m + 4 * (i : Int) + 1 else (v.2 i).2.1)), .p (.int .i64 (if i < k + 1 then m + 4 * (i : Int) + 2 else (v.2 i).2.2.1)), .p (.int .i64 (if i < k then m + 4 * (i : Int) + 3 else (v.2 i).2.2.2.1))]⟩)], 1⟩

theorem p_szBarS_a (v : T_BarS) (m : Int) :
    pathOb Try.prog Try.f36 0 [.reg [oT], .reg [oT, oT, oT, oT, oT], .reg [oT, oT], .dec true, .reg [oT]] [.code (bodyOf Try.f36)] (start Try.f36 [] 0 [.p (.seq true 2 (v.1) (fun i => [.int .i64 ((v.2 i).1), .int .i64 ((v.2 i).2.1)])), .p (.int .i64 m)]) [] 1 [] (.p (.int .i64 (-1))) =
    some [(((-9223372036854775808) : Int) ≤ (m - (↑v.fst : Int))),
  (((m - (↑v.fst : Int)) : Int) ≤ 9223372036854775807),
  ((decide (m - (↑v.fst : Int) < 0)) = true),
  (((-1) : Int) = (-1))] := by kernel_rfl

theorem p_szBarS_b (v : T_BarS) (m : Int) :
    pathOb Try.prog Try.f36 0 [.reg [oT], .reg [oT, oT, oT, oT, oT], .reg [oT, oT], .dec false, .reg [oT, oT]] [.code (bodyOf Try.f36)] (start Try.f36 [] 0 [.p (.seq true 2 (v.1) (fun i => [.int .i64 ((v.2 i).1), .int .i64 ((v.2 i).2.1)])), .p (.int .i64 m)]) [] 1 [] (.p (.int .i64 (m - v.1))) =
    some [(((-9223372036854775808) : Int) ≤ (m - (↑v.fst : Int))),
  (((m - (↑v.fst : Int)) : Int) ≤ 9223372036854775807),
  ((decide (m - (↑v.fst : Int) < 0)) = false),
  (((m - (↑v.fst : Int)) : Int) = (m - (↑v.fst : Int)))] := by kernel_rfl

theorem p_szGraph_0 (v : T_Graph) (m : Int) :
    pathOb Try.prog Try.f9 0 [.reg [oT, oT], .reg [oT, oT, oT, ⟨true, (some ⟨[], [], 1, [], .p (.int .i64 (f_szBarS v.2.1 m))⟩), none⟩, oT], .reg [oT, oT], .dec true, .reg [oT]] [.code (bodyOf Try.f9)] (start Try.f9 [] 0 [.agg [.p (.int .i64 (v.1)), .p (.seq true 2 (v.2.1.1) (fun i => [.int .i64 ((v.2.1.2 i).1), .int .i64 ((v.2.1.2 i).2.1)]))], .p (.int .i64 m)]) [] 1 [] (.p (.int .i64 (-1))) =
    some [((0 : Nat) < 1),
  Con (Try.prog) 36 0 [] [.p (.seq true 2 (v.snd.fst.fst) (fun i => [.int .i64 ((v.snd.fst.snd i).fst), .int .i64 ((v.snd.fst.snd i).snd.fst)])), .p (.int .i64 (m))] [] (.p (.int .i64 (f_szBarS v.snd.fst m))),
  ((decide (f_szBarS v.snd.fst m < 0)) = true),
  (((-1) : Int) = (-1))] := by kernel_rfl

theorem p_szGraph_e (v : T_Graph) (m : Int) :
    pathOb Try.prog Try.f9 0 [.reg [oT, oT], .reg [oT, oT, oT, ⟨true, (some ⟨[], [], 1, [], .p (.int .i64 (f_szBarS v.2.1 m))⟩), none⟩, oT], .reg [oT, oT], .dec false, .reg [oT, oT]] [.code (bodyOf Try.f9)] (start Try.f9 [] 0 [.agg [.p (.int .i64 (v.1)), .p (.seq true 2 (v.2.1.1) (fun i => [.int .i64 ((v.2.1.2 i).1), .int .i64 ((v.2.1.2 i).2.1)]))], .p (.int .i64 m)]) [] 1 [] (.p (.int .i64 (f_szBarS v.2.1 m))) =
    some [((0 : Nat) < 1),
  Con (Try.prog) 36 0 [] [.p (.seq true 2 (v.snd.fst.fst) (fun i => [.int .i64 ((v.snd.fst.snd i).fst), .int .i64 ((v.snd.fst.snd i).snd.fst)])), .p (.int .i64 (m))] [] (.p (.int .i64 (f_szBarS v.snd.fst m))),
  ((decide (f_szBarS v.snd.fst m < 0)) = false),
  (((f_szBarS v.snd.fst m) : Int) = (f_szBarS v.snd.fst m))] := by kernel_rfl

theorem p_toBar (v : T_Bar) :
    pathOb Try.prog Try.f103 0 [.reg [oT, oT], .reg [oT], .reg [oT, oT, oT, oT], .reg [oT, oT, oT, oT], .reg [oT, oT]] [.code (bodyOf Try.f103)] (start Try.f103 [] 0 [.agg [.p (.int .i64 (v.1)), .p (.int .i64 (v.2.1))]]) [] 1 [] (.agg [.p (.int .i64 (v.1)), .p (.int .i64 (v.2.1))]) =
    some [((0 : Nat) < 1),
  ((0 : Nat) < 1),
  (((true) = true) → ((1 : Nat) = 1)),
  ((0 : Nat) < 1),
  ((0 : Nat) < 1),
  (((true) = true) → ((1 : Nat) = 1)),
  ((0 : Nat) < 1),
  ((0 : Nat) < 1),
  (((true) = true) → ((1 : Nat) = 1)),
  ((0 : Nat) < 1),
  (((v.fst) : Int) = (v.fst)),
  (((v.snd.fst) : Int) = (v.snd.fst))] := by kernel_rfl

theorem p_toBarS_a (v : T_BarS) :
    pieceOb Try.prog 0 [.reg [oT], .reg [oT, oT, oT, oT], .reg [oT], .head] [.code (bodyOf Try.f45)] (start Try.f45 [] 0 [.p (.seq true 2 (v.1) (fun i => [.int .i64 ((v.2 i).1), .int .i64 ((v.2 i).2.1)]))]) [96] 1 (S_toBarS v 0) =
    some ([.code (cAt (bodyOf Try.f45) [1, 1, 0, 1, 0, 0]), .inLoop (cAt (bodyOf Try.f45) [1, 1, 0, 1, 0, 0]), .inBlock 0, .code (cAt (bodyOf Try.f45) [1, 1, 1])], [((0 : Int) ≤ ((↑v.fst : Int))),
  ((((↑v.fst : Int)) : Int) ≤ ((↑v.fst : Int))),
  ((((↑v.fst : Int) * (↑16 : Int)) : Int) ≤ 281474976710656),
  ((((↑v.fst : Int)) : Int) ≤ 9223372036854775807),
  (((v.fst) : Nat) = (v.fst)),
  (∀ i : Nat, ((((i) : Nat) < (v.fst)) → (([.int .i64 ((v.snd i).fst), .int .i64 ((v.snd i).snd.fst)] : List PV) = [.int .i64 ((v.snd i).fst), .int .i64 ((v.snd i).snd.fst)]))),
  ((0 : Nat) = 0),
  (((v.fst) : Nat) = (v.fst)),
  ((0 : Int) = ((↑0 : Int))),
  ((2 : Nat) = 2),
  (((v.fst) : Nat) ≤ (v.fst)),
  (∀ i : Nat, ((((i) : Nat) < (v.fst)) → (All [] ∧ (([.p (.int .i64 0), .p (.int .i64 0)] : List AV) = [.p (.int .i64 (if i < 0 then (v.snd i).fst else 0)), .p (.int .i64 (if i < 0 then (v.snd i).snd.fst else 0))]))))]) := by kernel_rfl

theorem p_toBarS_b (v : T_BarS) (k : Nat) :
    pieceOb Try.prog 0 [.reg [oT, oT, oT, oT], .dec true, .reg [oT, oT, oT, oT, oT, oT, ⟨true, (some ⟨[], [], 1, [], .agg [.p (.int .i64 ((v.2 k).1)), .p (.int .i64 ((v.2 k).2.1))]⟩), none⟩, oT, oT], .reg [oT, oT, oT], .head] [.code (cAt (bodyOf Try.f45) [1, 1, 0, 1, 0, 0]), .inLoop (cAt (bodyOf Try.f45) [1, 1, 0, 1, 0, 0]), .inBlock 0, .code (cAt (bodyOf Try.f45) [1, 1, 1])] (S_toBarS v k) [0] 1 (S_toBarS v (k + 1)) =
    some ([.code (cAt (bodyOf Try.f45) [1, 1, 0, 1, 0, 0]), .inLoop (cAt (bodyOf Try.f45) [1, 1, 0, 1, 0, 0]), .inBlock 0, .code (cAt (bodyOf Try.f45) [1, 1, 1])], [((decide ((↑k : Int) < (↑v.fst : Int))) = true),
  ((0 : Int) ≤ ((↑k : Int))),
  ((((↑k : Int)) : Int) < ((↑v.fst : Int))),
  Con (Try.prog) 103 0 [] [.agg [.p (.int .i64 ((v.snd k).fst)), .p (.int .i64 ((v.snd k).snd.fst))]] [] (.agg [.p (.int .i64 ((v.snd k).fst)), .p (.int .i64 ((v.snd k).snd.fst))]),
  ((0 : Int) ≤ ((↑k : Int))),
  ((((↑k : Int)) : Int) < ((↑v.fst : Int))),
  (((k) : Nat) < (v.fst)),
  (((false) = true) → (((v.fst) : Nat) = 1)),
  (((-9223372036854775808) : Int) ≤ ((↑k : Int) + 1)),
  ((((↑k : Int) + 1) : Int) ≤ 9223372036854775807),
  (((v.fst) : Nat) = (v.fst)),
  (∀ i : Nat, ((((i) : Nat) < (v.fst)) → (([.int .i64 ((v.snd i).fst), .int .i64 ((v.snd i).snd.fst)] : List PV) = [.int .i64 ((v.snd i).fst), .int .i64 ((v.snd i).snd.fst)]))),
  ((0 : Nat) = 0),
  (((v.fst) : Nat) = (v.fst)),
  ((((↑k : Int) + 1) : Int) = ((↑(k + 1) : Int))),
  ((2 : Nat) = 2),
  (((v.fst) : Nat) ≤ (v.fst)),
  (∀ i : Nat, ((((i) : Nat) < (v.fst)) → (All (cvtL false [(0, ⟨false, 2, (v.fst), (fun i_1 => (if (i_1 = k) then [.p (.int .i64 ((v.snd k).fst)), .p (.int .i64 ((v.snd k).snd.fst))] else [.p (.int .i64 (if i_1 < k then (v.snd i_1).fst else 0)), .p (.int .i64 (if i_1 < k then (v.snd i_1).snd.fst else 0))]))⟩)] [0] 1 (if (i = k) then [.p (.int .i64 ((v.snd k).fst)), .p (.int .i64 ((v.snd k).snd.fst))] else [.p (.int .i64 (if i < k then (v.snd i).fst else 0)), .p (.int .i64 (if i < k then (v.snd i).snd.fst else 0))])).2 ∧ (((cvtL false [(0, ⟨false, 2, (v.fst), (fun i_1 => (if (i_1 = k) then [.p (.int .i64 ((v.snd k).fst)), .p (.int .i64 ((v.snd k).snd.fst))] else [.p (.int .i64 (if i_1 < k then (v.snd i_1).fst else 0)), .p (.int .i64 (if i_1 < k then (v.snd i_1).snd.fst else 0))]))⟩)] [0] 1 (if (i = k) then [.p (.int .i64 ((v.snd k).fst)), .p (.int .i64 ((v.snd k).snd.fst))] else [.p (.int .i64 (if i < k then (v.snd i).fst else 0)), .p (.int .i64 (if i < k then (v.snd i).snd.fst else 0))])).1 : List AV) = [.p (.int .i64 (if i < k + 1 then (v.snd i).fst else 0)), .p (.int .i64 (if i < k + 1 then (v.snd i).snd.fst else 0))]))))]) := by kernel_rfl

theorem p_toBarS_c (v : T_BarS) (k : Nat) :
    pathOb Try.prog Try.f45 0 [.reg [oT, oT, oT, oT], .dec false, .reg [oT, oT]] [.code (cAt (bodyOf Try.f45) [1, 1, 0, 1, 0, 0]), .inLoop (cAt (bodyOf Try.f45) [1, 1, 0, 1, 0, 0]), .inBlock 0, .code (cAt (bodyOf Try.f45) [1, 1, 1])] (S_toBarS v k) [0] 1 [(0, ⟨false, 2, v.1, fun i => [.p (.int .i64 ((v.2 i).1)), .p (.int .i64 ((v.2 i).2.1))]⟩)] (.ar 2 0 0 (v.1)) =
    some [((decide ((↑k : Int) < (↑v.fst : Int))) = false),
  ((0 : Nat) = 0),
  (((v.fst) : Nat) = (v.fst)),
  ((2 : Nat) = 2),
  (((v.fst) : Nat) ≤ (v.fst)),
  (∀ i : Nat, ((((i) : Nat) < (v.fst)) → (All [] ∧ (([.p (.int .i64 (if i < k then (v.snd i).fst else 0)), .p (.int .i64 (if i < k then (v.snd i).snd.fst else 0))] : List AV) = [.p (.int .i64 ((v.snd i).fst)), .p (.int .i64 ((v.snd i).snd.fst))])))),
  (∀ i : Nat, ((((i) : Nat) < (v.fst)) → All []))] := by kernel_rfl

theorem p_toGraph (v : T_Graph) :
    pathOb Try.prog Try.f11 0 [.reg [oT, oT], .reg [oT], .reg [oT, oT, oT, oT], .reg [oT, oT, ⟨true, (some ⟨[], [], 1, [(0, ⟨false, 2, v.2.1.1, fun i => [.p (.int .i64 ((v.2.1.2 i).1)), .p (.int .i64 ((v.2.1.2 i).2.1))]⟩)], .ar 2 0 0 (v.2.1.1)⟩), none⟩, oT, oT], .reg [oT, oT]] [.code (bodyOf Try.f11)] (start Try.f11 [] 0 [.agg [.p (.int .i64 (v.1)), .p (.seq true 2 (v.2.1.1) (fun i => [.int .i64 ((v.2.1.2 i).1), .int .i64 ((v.2.1.2 i).2.1)]))]]) [288] 1 [(0, ⟨false, 2, v.2.1.1, fun i => [.p (.int .i64 ((v.2.1.2 i).1)), .p (.int .i64 ((v.2.1.2 i).2.1))]⟩)] (.agg [.p (.int .i64 (v.1)), .ar 2 0 0 (v.2.1.1)]) =
    some [((0 : Nat) < 1),
  ((0 : Nat) < 1),
  (((true) = true) → ((1 : Nat) = 1)),
  ((0 : Nat) < 1),
  Con (Try.prog) 45 0 [] [.p (.seq true 2 (v.snd.fst.fst) (fun i => [.int .i64 ((v.snd.fst.snd i).fst), .int .i64 ((v.snd.fst.snd i).snd.fst)]))] [(0, ⟨false, 2, (v.snd.fst.fst), (fun i => [.p (.int .i64 ((v.snd.fst.snd i).fst)), .p (.int .i64 ((v.snd.fst.snd i).snd.fst))])⟩)] (.ar 2 0 0 (v.snd.fst.fst)),
  ((0 : Nat) < 1),
  (((true) = true) → ((1 : Nat) = 1)),
  ((0 : Nat) < 1),
  ((0 : Nat) < 1),
  (((true) = true) → ((1 : Nat) = 1)),
  ((0 : Nat) < 1),
  (((v.fst) : Int) = (v.fst)),
  ((0 : Nat) = 0),
  (((v.snd.fst.fst) : Nat) = (v.snd.fst.fst)),
  ((2 : Nat) = 2),
  (((v.snd.fst.fst) : Nat) ≤ (v.snd.fst.fst)),
  (∀ i : Nat, ((((i) : Nat) < (v.snd.fst.fst)) → (All [] ∧ (([.p (.int .i64 ((v.snd.fst.snd i).fst)), .p (.int .i64 ((v.snd.fst.snd i).snd.fst))] : List AV) = [.p (.int .i64 ((v.snd.fst.snd i).fst)), .p (.int .i64 ((v.snd.fst.snd i).snd.fst))])))),
  (∀ i : Nat, ((((i) : Nat) < (v.snd.fst.fst)) → All []))] := by kernel_rfl

theorem p_eqBar (v : T_Bar) :
    pathOb Try.prog Try.f109 0 [.reg [oT, oT, oT], .reg [oT, oT, oT, oT, oT], .dec false, .reg [oT, oT, oT, oT, oT], .dec false, .reg [oT]] [.code (bodyOf Try.f109)] (start Try.f109 [] 0 [.agg [.p (.int .i64 (v.1)), .p (.int .i64 (v.2.1))], .agg [.p (.int .i64 (v.1)), .p (.int .i64 (v.2.1))]]) [] 1 [] (.p (.bool true)) =
    some [((0 : Nat) < 1),
  ((0 : Nat) < 1),
  ((v.fst != v.fst) = false),
  ((0 : Nat) < 1),
  ((0 : Nat) < 1),
  ((v.snd.fst != v.snd.fst) = false),
  (true = true)] := by kernel_rfl

theorem p_eqBarS_a (v : T_BarS) :
    pieceOb Try.prog 0 [.reg [oT], .reg [oT, oT, oT, oT, oT], .dec false, .reg [oT], .head] [.code (bodyOf Try.f55)] (start Try.f55 [] 0 [.p (.seq true 2 (v.1) (fun i => [.int .i64 ((v.2 i).1), .int .i64 ((v.2 i).2.1)])), .p (.seq true 2 (v.1) (fun i => [.int .i64 ((v.2 i).1), .int .i64 ((v.2 i).2.1)]))]) [] 1 (S_eqBarS v 0) =
    some ([.code (cAt (bodyOf Try.f55) [1, 1, 0, 1, 0, 0]), .inLoop (cAt (bodyOf Try.f55) [1, 1, 0, 1, 0, 0]), .inBlock 0, .code (cAt (bodyOf Try.f55) [1, 1, 1])], [(((↑v.fst : Int) != (↑v.fst : Int)) = false),
  (((v.fst) : Nat) = (v.fst)),
  (∀ i : Nat, ((((i) : Nat) < (v.fst)) → (([.int .i64 ((v.snd i).fst), .int .i64 ((v.snd i).snd.fst)] : List PV) = [.int .i64 ((v.snd i).fst), .int .i64 ((v.snd i).snd.fst)]))),
  (((v.fst) : Nat) = (v.fst)),
  (∀ i : Nat, ((((i) : Nat) < (v.fst)) → (([.int .i64 ((v.snd i).fst), .int .i64 ((v.snd i).snd.fst)] : List PV) = [.int .i64 ((v.snd i).fst), .int .i64 ((v.snd i).snd.fst)]))),
  ((0 : Int) = ((↑0 : Int)))]) := by kernel_rfl

theorem p_eqBarS_b (v : T_BarS) (k : Nat) :
    pieceOb Try.prog 0 [.reg [oT, oT, oT, oT], .dec true, .reg [oT, oT, oT, oT, oT, oT, oT, oT, ⟨true, (some ⟨[], [], 1, [], .p (.bool true)⟩), none⟩, oT], .dec false, .reg [oT, oT, oT], .head] [.code (cAt (bodyOf Try.f55) [1, 1, 0, 1, 0, 0]), .inLoop (cAt (bodyOf Try.f55) [1, 1, 0, 1, 0, 0]), .inBlock 0, .code (cAt (bodyOf Try.f55) [1, 1, 1])] (S_eqBarS v k) [] 1 (S_eqBarS v (k + 1)) =
    some ([.code (cAt (bodyOf Try.f55) [1, 1, 0, 1, 0, 0]), .inLoop (cAt (bodyOf Try.f55) [1, 1, 0, 1, 0, 0]), .inBlock 0, .code (cAt (bodyOf Try.f55) [1, 1, 1])], [((decide ((↑k : Int) < (↑v.fst : Int))) = true),
  ((0 : Int) ≤ ((↑k : Int))),
  ((((↑k : Int)) : Int) < ((↑v.fst : Int))),
  ((0 : Int) ≤ ((↑k : Int))),
  ((((↑k : Int)) : Int) < ((↑v.fst : Int))),
  Con (Try.prog) 109 0 [] [.agg [.p (.int .i64 ((v.snd k).fst)), .p (.int .i64 ((v.snd k).snd.fst))], .agg [.p (.int .i64 ((v.snd k).fst)), .p (.int .i64 ((v.snd k).snd.fst))]] [] (.p (.bool true)),
  ((!true) = false),
  (((-9223372036854775808) : Int) ≤ ((↑k : Int) + 1)),
  ((((↑k : Int) + 1) : Int) ≤ 9223372036854775807),
  (((v.fst) : Nat) = (v.fst)),
  (∀ i : Nat, ((((i) : Nat) < (v.fst)) → (([.int .i64 ((v.snd i).fst), .int .i64 ((v.snd i).snd.fst)] : List PV) = [.int .i64 ((v.snd i).fst), .int .i64 ((v.snd i).snd.fst)]))),
  (((v.fst) : Nat) = (v.fst)),
  (∀ i : Nat, ((((i) : Nat) < (v.fst)) → (([.int .i64 ((v.snd i).fst), .int .i64 ((v.snd i).snd.fst)] : List PV) = [.int .i64 ((v.snd i).fst), .int .i64 ((v.snd i).snd.fst)]))),
  ((((↑k : Int) + 1) : Int) = ((↑(k + 1) : Int)))]) := by kernel_rfl

theorem p_eqBarS_c (v : T_BarS) (k : Nat) :
    pathOb Try.prog Try.f55 0 [.reg [oT, oT, oT, oT], .dec false, .reg [oT]] [.code (cAt (bodyOf Try.f55) [1, 1, 0, 1, 0, 0]), .inLoop (cAt (bodyOf Try.f55) [1, 1, 0, 1, 0, 0]), .inBlock 0, .code (cAt (bodyOf Try.f55) [1, 1, 1])] (S_eqBarS v k) [] 1 [] (.p (.bool true)) =
    some [((decide ((↑k : Int) < (↑v.fst : Int))) = false),
  (true = true)] := by kernel_rfl

theorem p_eqGraph (v : T_Graph) :
    pathOb Try.prog Try.f13 0 [.reg [oT, oT, oT], .reg [oT, oT, oT, oT, oT], .dec false, .reg [oT, oT, oT, oT, ⟨true, (some ⟨[], [], 1, [], .p (.bool true)⟩), none⟩, oT], .dec false, .reg [oT]] [.code (bodyOf Try.f13)] (start Try.f13 [] 0 [.agg [.p (.int .i64 (v.1)), .p (.seq true 2 (v.2.1.1) (fun i => [.int .i64 ((v.2.1.2 i).1), .int .i64 ((v.2.1.2 i).2.1)]))], .agg [.p (.int .i64 (v.1)), .p (.seq true 2 (v.2.1.1) (fun i => [.int .i64 ((v.2.1.2 i).1), .int .i64 ((v.2.1.2 i).2.1)]))]]) [] 1 [] (.p (.bool true)) =
    some [((0 : Nat) < 1),
  ((0 : Nat) < 1),
  ((v.fst != v.fst) = false),
  ((0 : Nat) < 1),
  ((0 : Nat) < 1),
  Con (Try.prog) 55 0 [] [.p (.seq true 2 (v.snd.fst.fst) (fun i => [.int .i64 ((v.snd.fst.snd i).fst), .int .i64 ((v.snd.fst.snd i).snd.fst)])), .p (.seq true 2 (v.snd.fst.fst) (fun i => [.int .i64 ((v.snd.fst.snd i).fst), .int .i64 ((v.snd.fst.snd i).snd.fst)]))] [] (.p (.bool true)),
  ((!true) = false),
  (true = true)] := by kernel_rfl

theorem p_toIntS_a (v : T_IntS) :
    pieceOb Try.prog 0 [.reg [oT], .reg [oT, oT, oT, oT], .reg [oT], .head] [.code (bodyOf Try.f15)] (start Try.f15 [] 0 [.p (.seq true 1 (v.1) (fun i => [.int .i64 ((v.2 i))]))]) [96] 1 (S_toIntS v 0) =
    some ([.code (cAt (bodyOf Try.f15) [1, 1, 0, 1, 0, 0]), .inLoop (cAt (bodyOf Try.f15) [1, 1, 0, 1, 0, 0]), .inBlock 0, .code (cAt (bodyOf Try.f15) [1, 1, 1])], [((0 : Int) ≤ ((↑v.fst : Int))),
  ((((↑v.fst : Int)) : Int) ≤ ((↑v.fst : Int))),
  ((((↑v.fst : Int) * (↑8 : Int)) : Int) ≤ 281474976710656),
  ((((↑v.fst : Int)) : Int) ≤ 9223372036854775807),
  (((v.fst) : Nat) = (v.fst)),
  (∀ i : Nat, ((((i) : Nat) < (v.fst)) → (([.int .i64 (v.snd i)] : List PV) = [.int .i64 (v.snd i)]))),
  ((0 : Nat) = 0),
  (((v.fst) : Nat) = (v.fst)),
  ((0 : Int) = ((↑0 : Int))),
  ((1 : Nat) = 1),
  (((v.fst) : Nat) ≤ (v.fst)),
  (∀ i : Nat, ((((i) : Nat) < (v.fst)) → (All [] ∧ (([.p (.int .i64 0)] : List AV) = [.p (.int .i64 (if i < 0 then v.snd i else 0))]))))]) := by kernel_rfl

theorem p_toIntS_b (v : T_IntS) (k : Nat) :
    pieceOb Try.prog 0 [.reg [oT, oT, oT, oT], .dec true, .reg [oT, oT, oT, oT, oT, oT, oT, oT], .reg [oT, oT, oT], .head] [.code (cAt (bodyOf Try.f15) [1, 1, 0, 1, 0, 0]), .inLoop (cAt (bodyOf Try.f15) [1, 1, 0, 1, 0, 0]), .inBlock 0, .code (cAt (bodyOf Try.f15) [1, 1, 1])] (S_toIntS v k) [0] 1 (S_toIntS v (k + 1)) =
    some ([.code (cAt (bodyOf Try.f15) [1, 1, 0, 1, 0, 0]), .inLoop (cAt (bodyOf Try.f15) [1, 1, 0, 1, 0, 0]), .inBlock 0, .code (cAt (bodyOf Try.f15) [1, 1, 1])], [((decide ((↑k : Int) < (↑v.fst : Int))) = true),
  ((0 : Int) ≤ ((↑k : Int))),
  ((((↑k : Int)) : Int) < ((↑v.fst : Int))),
  ((0 : Int) ≤ ((↑k : Int))),
  ((((↑k : Int)) : Int) < ((↑v.fst : Int))),
  (((k) : Nat) < (v.fst)),
  (((false) = true) → (((v.fst) : Nat) = 1)),
  (((-9223372036854775808) : Int) ≤ ((↑k : Int) + 1)),
  ((((↑k : Int) + 1) : Int) ≤ 9223372036854775807),
  (((v.fst) : Nat) = (v.fst)),
  (∀ i : Nat, ((((i) : Nat) < (v.fst)) → (([.int .i64 (v.snd i)] : List PV) = [.int .i64 (v.snd i)]))),
  ((0 : Nat) = 0),
  (((v.fst) : Nat) = (v.fst)),
  ((((↑k : Int) + 1) : Int) = ((↑(k + 1) : Int))),
  ((1 : Nat) = 1),
  (((v.fst) : Nat) ≤ (v.fst)),
  (∀ i : Nat, ((((i) : Nat) < (v.fst)) → (All (cvtL false [(0, ⟨false, 1, (v.fst), (fun i_1 => (if (i_1 = k) then [.p (.int .i64 (v.snd k))] else [.p (.int .i64 (if i_1 < k then v.snd i_1 else 0))]))⟩)] [0] 1 (if (i = k) then [.p (.int .i64 (v.snd k))] else [.p (.int .i64 (if i < k then v.snd i else 0))])).2 ∧ (((cvtL false [(0, ⟨false, 1, (v.fst), (fun i_1 => (if (i_1 = k) then [.p (.int .i64 (v.snd k))] else [.p (.int .i64 (if i_1 < k then v.snd i_1 else 0))]))⟩)] [0] 1 (if (i = k) then [.p (.int .i64 (v.snd k))] else [.p (.int .i64 (if i < k then v.snd i else 0))])).1 : List AV) = [.p (.int .i64 (if i < k + 1 then v.snd i else 0))]))))]) := by kernel_rfl

theorem p_toIntS_c (v : T_IntS) (k : Nat) :
    pathOb Try.prog Try.f15 0 [.reg [oT, oT, oT, oT], .dec false, .reg [oT, oT]] [.code (cAt (bodyOf Try.f15) [1, 1, 0, 1, 0, 0]), .inLoop (cAt (bodyOf Try.f15) [1, 1, 0, 1, 0, 0]), .inBlock 0, .code (cAt (bodyOf Try.f15) [1, 1, 1])] (S_toIntS v k) [0] 1 [(0, ⟨false, 1, v.1, fun i => [.p (.int .i64 ((v.2 i)))]⟩)] (.ar 1 0 0 (v.1)) =
    some [((decide ((↑k : Int) < (↑v.fst : Int))) = false),
  ((0 : Nat) = 0),
  (((v.fst) : Nat) = (v.fst)),
  ((1 : Nat) = 1),
  (((v.fst) : Nat) ≤ (v.fst)),
  (∀ i : Nat, ((((i) : Nat) < (v.fst)) → (All [] ∧ (([.p (.int .i64 (if i < k then v.snd i else 0))] : List AV) = [.p (.int .i64 (v.snd i))])))),
  (∀ i : Nat, ((((i) : Nat) < (v.fst)) → All []))] := by kernel_rfl

theorem p_eqIntS_a (v : T_IntS) :
    pieceOb Try.prog 0 [.reg [oT], .reg [oT, oT, oT, oT, oT], .dec false, .reg [oT], .head] [.code (bodyOf Try.f17)] (start Try.f17 [] 0 [.p (.seq true 1 (v.1) (fun i => [.int .i64 ((v.2 i))])), .p (.seq true 1 (v.1) (fun i => [.int .i64 ((v.2 i))]))]) [] 1 (S_eqIntS v 0) =
    some ([.code (cAt (bodyOf Try.f17) [1, 1, 0, 1, 0, 0]), .inLoop (cAt (bodyOf Try.f17) [1, 1, 0, 1, 0, 0]), .inBlock 0, .code (cAt (bodyOf Try.f17) [1, 1, 1])], [(((↑v.fst : Int) != (↑v.fst : Int)) = false),
  (((v.fst) : Nat) = (v.fst)),
  (∀ i : Nat, ((((i) : Nat) < (v.fst)) → (([.int .i64 (v.snd i)] : List PV) = [.int .i64 (v.snd i)]))),
  (((v.fst) : Nat) = (v.fst)),
  (∀ i : Nat, ((((i) : Nat) < (v.fst)) → (([.int .i64 (v.snd i)] : List PV) = [.int .i64 (v.snd i)]))),
  ((0 : Int) = ((↑0 : Int)))]) := by kernel_rfl

theorem p_eqIntS_b (v : T_IntS) (k : Nat) :
    pieceOb Try.prog 0 [.reg [oT, oT, oT, oT], .dec true, .reg [oT, oT, oT, oT, oT, oT, oT, oT, oT], .dec false, .reg [oT, oT, oT], .head] [.code (cAt (bodyOf Try.f17) [1, 1, 0, 1, 0, 0]), .inLoop (cAt (bodyOf Try.f17) [1, 1, 0, 1, 0, 0]), .inBlock 0, .code (cAt (bodyOf Try.f17) [1, 1, 1])] (S_eqIntS v k) [] 1 (S_eqIntS v (k + 1)) =
    some ([.code (cAt (bodyOf Try.f17) [1, 1, 0, 1, 0, 0]), .inLoop (cAt (bodyOf Try.f17) [1, 1, 0, 1, 0, 0]), .inBlock 0, .code (cAt (bodyOf Try.f17) [1, 1, 1])], [((decide ((↑k : Int) < (↑v.fst : Int))) = true),
  ((0 : Int) ≤ ((↑k : Int))),
  ((((↑k : Int)) : Int) < ((↑v.fst : Int))),
  ((0 : Int) ≤ ((↑k : Int))),
  ((((↑k : Int)) : Int) < ((↑v.fst : Int))),
  ((v.snd k != v.snd k) = false),
  (((-9223372036854775808) : Int) ≤ ((↑k : Int) + 1)),
  ((((↑k : Int) + 1) : Int) ≤ 9223372036854775807),
  (((v.fst) : Nat) = (v.fst)),
  (∀ i : Nat, ((((i) : Nat) < (v.fst)) → (([.int .i64 (v.snd i)] : List PV) = [.int .i64 (v.snd i)]))),
  (((v.fst) : Nat) = (v.fst)),
  (∀ i : Nat, ((((i) : Nat) < (v.fst)) → (([.int .i64 (v.snd i)] : List PV) = [.int .i64 (v.snd i)]))),
  ((((↑k : Int) + 1) : Int) = ((↑(k + 1) : Int)))]) := by kernel_rfl

theorem p_eqIntS_c (v : T_IntS) (k : Nat) :
    pathOb Try.prog Try.f17 0 [.reg [oT, oT, oT, oT], .dec false, .reg [oT]] [.code (cAt (bodyOf Try.f17) [1, 1, 0, 1, 0, 0]), .inLoop (cAt (bodyOf Try.f17) [1, 1, 0, 1, 0, 0]), .inBlock 0, .code (cAt (bodyOf Try.f17) [1, 1, 1])] (S_eqIntS v k) [] 1 [] (.p (.bool true)) =
    some [((decide ((↑k : Int) < (↑v.fst : Int))) = false),
  (true = true)] := by kernel_rfl

theorem p_markIntS_a (v : T_IntS) (m : Int) :
    pieceOb Try.prog 1 [.reg [oT], .reg [oT], .head] [.code (bodyOf Try.f19)] (start Try.f19 [(0, ⟨false, 1, v.1, fun i => [.p (.int .i64 ((v.2 i)))]⟩)] 1 [.ar 1 0 0 v.1, .p (.int .i64 m)]) [0] 1 (S_markIntS v m 0) =
    some ([.code (cAt (bodyOf Try.f19) [1, 0, 1, 0, 0]), .inLoop (cAt (bodyOf Try.f19) [1, 0, 1, 0, 0]), .inBlock 0, .code (cAt (bodyOf Try.f19) [1, 1])], [((0 : Nat) = 0),
  (((v.fst) : Nat) = (v.fst)),
  (((m) : Int) = (m + (↑0 : Int))),
  ((0 : Int) = ((↑0 : Int))),
  ((1 : Nat) = 1),
  (((v.fst) : Nat) ≤ (v.fst)),
  (∀ i : Nat, ((((i) : Nat) < (v.fst)) → (All [] ∧ (([.p (.int .i64 (v.snd i))] : List AV) = [.p (.int .i64 (if i < 0 then m + (↑i : Int) else v.snd i))]))))]) := by kernel_rfl

theorem p_markIntS_b0 (v : T_IntS) (m : Int) (k : Nat) :
    pieceOb Try.prog 1 [.reg [oT, oT, oT, oT], .dec true, .reg [oT, oT, oT, oT, oT], .reg [oT, oT, oT], .reg [oT, oT, oT], .head] [.code (cAt (bodyOf Try.f19) [1, 0, 1, 0, 0]), .inLoop (cAt (bodyOf Try.f19) [1, 0, 1, 0, 0]), .inBlock 0, .code (cAt (bodyOf Try.f19) [1, 1])] (S_markIntS v m k) [0] 1 (S_markIntS v m (k + 1)) =
    some ([.code (cAt (bodyOf Try.f19) [1, 0, 1, 0, 0]), .inLoop (cAt (bodyOf Try.f19) [1, 0, 1, 0, 0]), .inBlock 0, .code (cAt (bodyOf Try.f19) [1, 1])], [((decide ((↑k : Int) < (↑v.fst : Int))) = true),
  ((0 : Int) ≤ ((↑k : Int))),
  ((((↑k : Int)) : Int) < ((↑v.fst : Int))),
  (((k) : Nat) < (v.fst)),
  (((false) = true) → (((v.fst) : Nat) = 1)),
  (((-9223372036854775808) : Int) ≤ (m + (↑k : Int) + 1)),
  (((m + (↑k : Int) + 1) : Int) ≤ 9223372036854775807),
  (((-9223372036854775808) : Int) ≤ ((↑k : Int) + 1)),
  ((((↑k : Int) + 1) : Int) ≤ 9223372036854775807),
  ((0 : Nat) = 0),
  (((v.fst) : Nat) = (v.fst)),
  (((m + (↑k : Int) + 1) : Int) = (m + (↑(k + 1) : Int))),
  ((((↑k : Int) + 1) : Int) = ((↑(k + 1) : Int))),
  ((1 : Nat) = 1),
  (((v.fst) : Nat) ≤ (v.fst)),
  (∀ i : Nat, ((((i) : Nat) < (v.fst)) → (All (cvtL false [(0, ⟨false, 1, (v.fst), (fun i_1 => (if (i_1 = k) then [.p (.int .i64 (m + (↑k : Int)))] else [.p (.int .i64 (if i_1 < k then m + (↑i_1 : Int) else v.snd i_1))]))⟩)] [0] 1 (if (i = k) then [.p (.int .i64 (m + (↑k : Int)))] else [.p (.int .i64 (if i < k then m + (↑i : Int) else v.snd i))])).2 ∧ (((cvtL false [(0, ⟨false, 1, (v.fst), (fun i_1 => (if (i_1 = k) then [.p (.int .i64 (m + (↑k : Int)))] else [.p (.int .i64 (if i_1 < k then m + (↑i_1 : Int) else v.snd i_1))]))⟩)] [0] 1 (if (i = k) then [.p (.int .i64 (m + (↑k : Int)))] else [.p (.int .i64 (if i < k then m + (↑i : Int) else v.snd i))])).1 : List AV) = [.p (.int .i64 (if i < k + 1 then m + (↑i : Int) else v.snd i))]))))]) := by kernel_rfl

theorem p_markIntS_c (v : T_IntS) (m : Int) (k : Nat) :
    pathOb Try.prog Try.f19 1 [.reg [oT, oT, oT, oT], .dec false, .reg [oT, oT]] [.code (cAt (bodyOf Try.f19) [1, 0, 1, 0, 0]), .inLoop (cAt (bodyOf Try.f19) [1, 0, 1, 0, 0]), .inBlock 0, .code (cAt (bodyOf Try.f19) [1, 1])] (S_markIntS v m k) [0] 1 [(0, ⟨false, 1, v.1, fun i => [.p (.int .i64 (m + (i : Int)))]⟩)] (.p (.int .i64 (m + (v.1 : Int)))) =
    some [((decide ((↑k : Int) < (↑v.fst : Int))) = false),
  (((m + (↑k : Int)) : Int) = (m + (↑v.fst : Int))),
  ((1 : Nat) = 1),
  (((v.fst) : Nat) ≤ (v.fst)),
  (∀ i : Nat, ((((i) : Nat) < (v.fst)) → (All [] ∧ (([.p (.int .i64 (if i < k then m + (↑i : Int) else v.snd i))] : List AV) = [.p (.int .i64 (m + (↑i : Int)))])))),
  (∀ i : Nat, ((((i) : Nat) < (v.fst)) → All []))] := by kernel_rfl

theorem p_markBarS_a (v : T_BarS) (m : Int) :
    pieceOb Try.prog 1 [.reg [oT], .reg [oT], .head] [.code (bodyOf Try.f64)] (start Try.f64 [(0, ⟨false, 2, v.1, fun i => [.p (.int .i64 ((v.2 i).1)), .p (.int .i64 ((v.2 i).2.1))]⟩)] 1 [.ar 2 0 0 v.1, .p (.int .i64 m)]) [0] 1 (S_markBarS v m 0) =
    some ([.code (cAt (bodyOf Try.f64) [1, 0, 1, 0, 0]), .inLoop (cAt (bodyOf Try.f64) [1, 0, 1, 0, 0]), .inBlock 0, .code (cAt (bodyOf Try.f64) [1, 1])], [((0 : Nat) = 0),
  (((v.fst) : Nat) = (v.fst)),
  (((m) : Int) = (m + 2 * (↑0 : Int))),
  ((0 : Int) = ((↑0 : Int))),
  ((2 : Nat) = 2),
  (((v.fst) : Nat) ≤ (v.fst)),
  (∀ i : Nat, ((((i) : Nat) < (v.fst)) → (All [] ∧ (([.p (.int .i64 ((v.snd i).fst)), .p (.int .i64 ((v.snd i).snd.fst))] : List AV) = [.p (.int .i64 (if i < 0 then m + 2 * (↑i : Int) else (v.snd i).fst)), .p (.int .i64 (if i < 0 then m + 2 * (↑i : Int) + 1 else (v.snd i).snd.fst))]))))]) := by kernel_rfl

theorem p_markBarS_b0 (v : T_BarS) (m : Int) (k : Nat) :
    pieceOb Try.prog 1 [.reg [oT, oT, oT, oT], .dec true, .reg [oT, oT, oT, oT, oT, oT], .reg [oT, oT, oT], .head] [.code (cAt (bodyOf Try.f64) [1, 0, 1, 0, 0]), .inLoop (cAt (bodyOf Try.f64) [1, 0, 1, 0, 0]), .inBlock 0, .code (cAt (bodyOf Try.f64) [1, 1])] (S_markBarS v m k) [0] 1 (S_markBarS_1 v m k) =
    some ([.code (cAt (bodyOf Try.f64) [1, 0, 1, 0, 0, 1, 0, 0, 1, 1, 0]), .code (cAt (bodyOf Try.f64) [1, 0, 1, 0, 0, 1, 0, 0, 1, 1, 1]), .inBlock 1, .code (cAt (bodyOf Try.f64) [1, 0, 1, 0, 0, 1, 1]), .inLoop (cAt (bodyOf Try.f64) [1, 0, 1, 0, 0]), .inBlock 0, .code (cAt (bodyOf Try.f64) [1, 1])], [((decide ((↑k : Int) < (↑v.fst : Int))) = true),
  ((0 : Int) ≤ ((↑k : Int))),
  ((((↑k : Int)) : Int) < ((↑v.fst : Int))),
  (((k) : Nat) < (v.fst)),
  (((false) = true) → (((v.fst) : Nat) = 1)),
  (((-9223372036854775808) : Int) ≤ (m + 2 * (↑k : Int) + 1)),
  (((m + 2 * (↑k : Int) + 1) : Int) ≤ 9223372036854775807),
  ((0 : Nat) = 0),
  (((v.fst) : Nat) = (v.fst)),
  (((m + 2 * (↑k : Int) + 1) : Int) = (m + 2 * (↑k : Int) + 1)),
  ((((↑k : Int)) : Int) = ((↑k : Int))),
  ((2 : Nat) = 2),
  (((v.fst) : Nat) ≤ (v.fst)),
  (∀ i : Nat, ((((i) : Nat) < (v.fst)) → (All (cvtL false [(0, ⟨false, 2, (v.fst), (fun i_1 => (if (i_1 = k) then [.p (.int .i64 (m + 2 * (↑k : Int))), .p (.int .i64 (if (↑k : Int).toNat + 0 < k then m + 2 * (↑k : Int) + 1 else (v.snd k).snd.fst))] else [.p (.int .i64 (if i_1 < k then m + 2 * (↑i_1 : Int) else (v.snd i_1).fst)), .p (.int .i64 (if i_1 < k then m + 2 * (↑i_1 : Int) + 1 else (v.snd i_1).snd.fst))]))⟩)] [0] 1 (if (i = k) then [.p (.int .i64 (m + 2 * (↑k : Int))), .p (.int .i64 (if (↑k : Int).toNat + 0 < k then m + 2 * (↑k : Int) + 1 else (v.snd k).snd.fst))] else [.p (.int .i64 (if i < k then m + 2 * (↑i : Int) else (v.snd i).fst)), .p (.int .i64 (if i < k then m + 2 * (↑i : Int) + 1 else (v.snd i).snd.fst))])).2 ∧ (((cvtL false [(0, ⟨false, 2, (v.fst), (fun i_1 => (if (i_1 = k) then [.p (.int .i64 (m + 2 * (↑k : Int))), .p (.int .i64 (if (↑k : Int).toNat + 0 < k then m + 2 * (↑k : Int) + 1 else (v.snd k).snd.fst))] else [.p (.int .i64 (if i_1 < k then m + 2 * (↑i_1 : Int) else (v.snd i_1).fst)), .p (.int .i64 (if i_1 < k then m + 2 * (↑i_1 : Int) + 1 else (v.snd i_1).snd.fst))]))⟩)] [0] 1 (if (i = k) then [.p (.int .i64 (m + 2 * (↑k : Int))), .p (.int .i64 (if (↑k : Int).toNat + 0 < k then m + 2 * (↑k : Int) + 1 else (v.snd k).snd.fst))] else [.p (.int .i64 (if i < k then m + 2 * (↑i : Int) else (v.snd i).fst)), .p (.int .i64 (if i < k then m + 2 * (↑i : Int) + 1 else (v.snd i).snd.fst))])).1 : List AV) = [.p (.int .i64 (if i < k + 1 then m + 2 * (↑i : Int) else (v.snd i).fst)), .p (.int .i64 (if i < k then m + 2 * (↑i : Int) + 1 else (v.snd i).snd.fst))]))))]) := by kernel_rfl

theorem p_markBarS_b1 (v : T_BarS) (m : Int) (k : Nat) :
    pieceOb Try.prog 1 [.reg [oT, oT, oT, oT, oT, oT], .reg [oT, oT, oT], .reg [oT, oT, oT], .head] [.code (cAt (bodyOf Try.f64) [1, 0, 1, 0, 0, 1, 0, 0, 1, 1, 0]), .code (cAt (bodyOf Try.f64) [1, 0, 1, 0, 0, 1, 0, 0, 1, 1, 1]), .inBlock 1, .code (cAt (bodyOf Try.f64) [1, 0, 1, 0, 0, 1, 1]), .inLoop (cAt (bodyOf Try.f64) [1, 0, 1, 0, 0]), .inBlock 0, .code (cAt (bodyOf Try.f64) [1, 1])] (S_markBarS_1 v m k) [0] 1 (S_markBarS v m (k + 1)) =
    some ([.code (cAt (bodyOf Try.f64) [1, 0, 1, 0, 0]), .inLoop (cAt (bodyOf Try.f64) [1, 0, 1, 0, 0]), .inBlock 0, .code (cAt (bodyOf Try.f64) [1, 1])], [((0 : Int) ≤ ((↑k : Int))),
  ((((↑k : Int)) : Int) < ((↑v.fst : Int))),
  (((k) : Nat) < (v.fst)),
  (((false) = true) → (((v.fst) : Nat) = 1)),
  (((-9223372036854775808) : Int) ≤ (m + 2 * (↑k : Int) + 1 + 1)),
  (((m + 2 * (↑k : Int) + 1 + 1) : Int) ≤ 9223372036854775807),
  (((-9223372036854775808) : Int) ≤ ((↑k : Int) + 1)),
  ((((↑k : Int) + 1) : Int) ≤ 9223372036854775807),
  ((0 : Nat) = 0),
  (((v.fst) : Nat) = (v.fst)),
  (((m + 2 * (↑k : Int) + 1 + 1) : Int) = (m + 2 * (↑(k + 1) : Int))),
  ((((↑k : Int) + 1) : Int) = ((↑(k + 1) : Int))),
  ((2 : Nat) = 2),
  (((v.fst) : Nat) ≤ (v.fst)),
  (∀ i : Nat, ((((i) : Nat) < (v.fst)) → (All (cvtL false [(0, ⟨false, 2, (v.fst), (fun i_1 => (if (i_1 = k) then [.p (.int .i64 (if (↑k : Int).toNat + 0 < k + 1 then m + 2 * (↑k : Int) else (v.snd k).fst)), .p (.int .i64 (m + 2 * (↑k : Int) + 1))] else [.p (.int .i64 (if i_1 < k + 1 then m + 2 * (↑i_1 : Int) else (v.snd i_1).fst)), .p (.int .i64 (if i_1 < k then m + 2 * (↑i_1 : Int) + 1 else (v.snd i_1).snd.fst))]))⟩)] [0] 1 (if (i = k) then [.p (.int .i64 (if (↑k : Int).toNat + 0 < k + 1 then m + 2 * (↑k : Int) else (v.snd k).fst)), .p (.int .i64 (m + 2 * (↑k : Int) + 1))] else [.p (.int .i64 (if i < k + 1 then m + 2 * (↑i : Int) else (v.snd i).fst)), .p (.int .i64 (if i < k then m + 2 * (↑i : Int) + 1 else (v.snd i).snd.fst))])).2 ∧ (((cvtL false [(0, ⟨false, 2, (v.fst), (fun i_1 => (if (i_1 = k) then [.p (.int .i64 (if (↑k : Int).toNat + 0 < k + 1 then m + 2 * (↑k : Int) else (v.snd k).fst)), .p (.int .i64 (m + 2 * (↑k : Int) + 1))] else [.p (.int .i64 (if i_1 < k + 1 then m + 2 * (↑i_1 : Int) else (v.snd i_1).fst)), .p (.int .i64 (if i_1 < k then m + 2 * (↑i_1 : Int) + 1 else (v.snd i_1).snd.fst))]))⟩)] [0] 1 (if (i = k) then [.p (.int .i64 (if (↑k : Int).toNat + 0 < k + 1 then m + 2 * (↑k : Int) else (v.snd k).fst)), .p (.int .i64 (m + 2 * (↑k : Int) + 1))] else [.p (.int .i64 (if i < k + 1 then m + 2 * (↑i : Int) else (v.snd i).fst)), .p (.int .i64 (if i < k then m + 2 * (↑i : Int) + 1 else (v.snd i).snd.fst))])).1 : List AV) = [.p (.int .i64 (if i < k + 1 then m + 2 * (↑i : Int) else (v.snd i).fst)), .p (.int .i64 (if i < k + 1 then m + 2 * (↑i : Int) + 1 else (v.snd i).snd.fst))]))))]) := by kernel_rfl

theorem p_markBarS_c (v : T_BarS) (m : Int) (k : Nat) :
    pathOb Try.prog Try.f64 1 [.reg [oT, oT, oT, oT], .dec false, .reg [oT, oT]] [.code (cAt (bodyOf Try.f64) [1, 0, 1, 0, 0]), .inLoop (cAt (bodyOf Try.f64) [1, 0, 1, 0, 0]), .inBlock 0, .code (cAt (bodyOf Try.f64) [1, 1])] (S_markBarS v m k) [0] 1 [(0, ⟨false, 2, v.1, fun i => [.p (.int .i64 (m + 2 * (i : Int))), .p (.int .i64 (m + 2 * (i : Int) + 1))]⟩)] (.p (.int .i64 (m + 2 * (v.1 : Int)))) =
    some [((decide ((↑k : Int) < (↑v.fst : Int))) = false),
  (((m + 2 * (↑k : Int)) : Int) = (m + 2 * (↑v.fst : Int))),
  ((2 : Nat) = 2),
  (((v.fst) : Nat) ≤ (v.fst)),
  (∀ i : Nat, ((((i) : Nat) < (v.fst)) → (All [] ∧ (([.p (.int .i64 (if i < k then m + 2 * (↑i : Int) else (v.snd i).fst)), .p (.int .i64 (if i < k then m + 2 * (↑i : Int) + 1 else (v.snd i).snd.fst))] : List AV) = [.p (.int .i64 (m + 2 * (↑i : Int))), .p (.int .i64 (m + 2 * (↑i : Int) + 1))])))),
  (∀ i : Nat, ((((i) : Nat) < (v.fst)) → All []))] := by kernel_rfl

theorem p_markGraph (v : T_Graph) (m : Int) :
    pathOb Try.prog Try.f18 1 [.reg [oT, oT], .reg [oT, oT, oT, ⟨true, (some ⟨[0], [], 1, [(0, ⟨false, 2, v.2.1.1, fun i => [.p (.int .i64 (m + 2 * (i : Int))), .p (.int .i64 (m + 2 * (i : Int) + 1))]⟩)], .p (.int .i64 (m + 2 * (v.2.1.1 : Int)))⟩), none⟩, oT], .reg [oT, oT]] [.code (bodyOf Try.f18)] (start Try.f18 [(0, ⟨false, 2, v.2.1.1, fun i => [.p (.int .i64 ((v.2.1.2 i).1)), .p (.int .i64 ((v.2.1.2 i).2.1))]⟩)] 1 [.agg [.p (.int .i64 (v.1)), .ar 2 0 0 v.2.1.1], .p (.int .i64 m)]) [0] 1 [(0, ⟨false, 2, v.2.1.1, fun i => [.p (.int .i64 (m + 2 * (i : Int))), .p (.int .i64 (m + 2 * (i : Int) + 1))]⟩)] (.p (.int .i64 (m + 2 * (v.2.1.1 : Int)))) =
    some [((0 : Nat) < 1),
  (∀ i : Nat, ((((i) : Nat) < (v.snd.fst.fst)) → All [])),
  Con (Try.prog) 64 1 [(0, ⟨false, 2, (v.snd.fst.fst), (fun i => [.p (.int .i64 ((v.snd.fst.snd i).fst)), .p (.int .i64 ((v.snd.fst.snd i).snd.fst))])⟩)] [.ar 2 0 0 (v.snd.fst.fst), .p (.int .i64 (m))] [(0, ⟨false, 2, (v.snd.fst.fst), (fun i => [.p (.int .i64 (m + 2 * (↑i : Int))), .p (.int .i64 (m + 2 * (↑i : Int) + 1))])⟩)] (.p (.int .i64 (m + 2 * (↑v.snd.fst.fst : Int)))),
  (((m + 2 * (↑v.snd.fst.fst : Int)) : Int) = (m + 2 * (↑v.snd.fst.fst : Int))),
  ((2 : Nat) = 2),
  (((v.snd.fst.fst) : Nat) ≤ (v.snd.fst.fst)),
  (∀ i : Nat, ((((i) : Nat) < (v.snd.fst.fst)) → (All [] ∧ (([.p (.int .i64 (m + 2 * (↑i : Int))), .p (.int .i64 (m + 2 * (↑i : Int) + 1))] : List AV) = [.p (.int .i64 (m + 2 * (↑i : Int))), .p (.int .i64 (m + 2 * (↑i : Int) + 1))])))),
  (∀ i : Nat, ((((i) : Nat) < (v.snd.fst.fst)) → All []))] := by kernel_rfl

theorem p_heldBarS_a (n : Nat) (m : Int) :
    pieceOb Try.prog 0 [.reg [oT], .reg [oT], .head] [.code (bodyOf Try.f65)] (start Try.f65 [] 0 [.p (.seq true 2 n (fun i => [.int .i64 (m + 2 * (i : Int)), .int .i64 (m + 2 * (i : Int) + 1)])), .p (.int .i64 m)]) [] 1 (S_heldBarS n m 0) =
    some ([.code (cAt (bodyOf Try.f65) [1, 0, 1, 0, 0]), .inLoop (cAt (bodyOf Try.f65) [1, 0, 1, 0, 0]), .inBlock 0, .code (cAt (bodyOf Try.f65) [1, 1])], [(((n) : Nat) = (n)),
  (∀ i : Nat, ((((i) : Nat) < (n)) → (([.int .i64 (m + 2 * (↑i : Int)), .int .i64 (m + 2 * (↑i : Int) + 1)] : List PV) = [.int .i64 (m + 2 * (↑i : Int)), .int .i64 (m + 2 * (↑i : Int) + 1)]))),
  (((m) : Int) = (m + 2 * (↑0 : Int))),
  ((0 : Int) = ((↑0 : Int)))]) := by kernel_rfl

theorem p_heldBarS_b (n : Nat) (m : Int) (k : Nat) :
    pieceOb Try.prog 0 [.reg [oT, oT, oT, oT], .dec true, .reg [oT, oT, oT, oT, oT, oT, oT], .dec false, .reg [oT, oT, oT], .reg [oT, oT, oT, oT, oT, oT, oT], .dec false, .reg [oT, oT, oT], .reg [oT, oT, oT], .head] [.code (cAt (bodyOf Try.f65) [1, 0, 1, 0, 0]), .inLoop (cAt (bodyOf Try.f65) [1, 0, 1, 0, 0]), .inBlock 0, .code (cAt (bodyOf Try.f65) [1, 1])] (S_heldBarS n m k) [] 1 (S_heldBarS n m (k + 1)) =
    some ([.code (cAt (bodyOf Try.f65) [1, 0, 1, 0, 0]), .inLoop (cAt (bodyOf Try.f65) [1, 0, 1, 0, 0]), .inBlock 0, .code (cAt (bodyOf Try.f65) [1, 1])], [((decide ((↑k : Int) < (↑n : Int))) = true),
  ((0 : Int) ≤ ((↑k : Int))),
  ((((↑k : Int)) : Int) < ((↑n : Int))),
  ((m + 2 * (↑k : Int) != m + 2 * (↑k : Int)) = false),
  (((-9223372036854775808) : Int) ≤ (m + 2 * (↑k : Int) + 1)),
  (((m + 2 * (↑k : Int) + 1) : Int) ≤ 9223372036854775807),
  ((0 : Int) ≤ ((↑k : Int))),
  ((((↑k : Int)) : Int) < ((↑n : Int))),
  ((m + 2 * (↑k : Int) + 1 != m + 2 * (↑k : Int) + 1) = false),
  (((-9223372036854775808) : Int) ≤ (m + 2 * (↑k : Int) + 1 + 1)),
  (((m + 2 * (↑k : Int) + 1 + 1) : Int) ≤ 9223372036854775807),
  (((-9223372036854775808) : Int) ≤ ((↑k : Int) + 1)),
  ((((↑k : Int) + 1) : Int) ≤ 9223372036854775807),
  (((n) : Nat) = (n)),
  (∀ i : Nat, ((((i) : Nat) < (n)) → (([.int .i64 (m + 2 * (↑i : Int)), .int .i64 (m + 2 * (↑i : Int) + 1)] : List PV) = [.int .i64 (m + 2 * (↑i : Int)), .int .i64 (m + 2 * (↑i : Int) + 1)]))),
  (((m + 2 * (↑k : Int) + 1 + 1) : Int) = (m + 2 * (↑(k + 1) : Int))),
  ((((↑k : Int) + 1) : Int) = ((↑(k + 1) : Int)))]) := by kernel_rfl

theorem p_heldBarS_c (n : Nat) (m : Int) (k : Nat) :
    pathOb Try.prog Try.f65 0 [.reg [oT, oT, oT, oT], .dec false, .reg [oT, oT]] [.code (cAt (bodyOf Try.f65) [1, 0, 1, 0, 0]), .inLoop (cAt (bodyOf Try.f65) [1, 0, 1, 0, 0]), .inBlock 0, .code (cAt (bodyOf Try.f65) [1, 1])] (S_heldBarS n m k) [] 1 [] (.p (.int .i64 (m + 2 * (n : Int)))) =
    some [((decide ((↑k : Int) < (↑n : Int))) = false),
  (((m + 2 * (↑k : Int)) : Int) = (m + 2 * (↑n : Int)))] := by kernel_rfl

theorem p_heldGraph (v : T_Graph) (m : Int) :
    pathOb Try.prog Try.f20 0 [.reg [oT, oT], .reg [oT, oT, oT, ⟨true, (some ⟨[], [], 1, [], .p (.int .i64 (m + 2 * (v.2.1.1 : Int)))⟩), none⟩, oT], .reg [oT, oT], .dec false, .reg [oT, oT]] [.code (bodyOf Try.f20)] (start Try.f20 [] 0 [.agg [.p (.int .i64 (v.1)), .p (.seq true 2 v.2.1.1 (fun i => [.int .i64 (m + 2 * (i : Int)), .int .i64 (m + 2 * (i : Int) + 1)]))], .p (.int .i64 m)]) [] 1 [] (.p (.int .i64 (m + 2 * (v.2.1.1 : Int)))) =
    some [((0 : Nat) < 1),
  Con (Try.prog) 65 0 [] [.p (.seq true 2 (v.snd.fst.fst) (fun i => [.int .i64 (m + 2 * (↑i : Int)), .int .i64 (m + 2 * (↑i : Int) + 1)])), .p (.int .i64 (m))] [] (.p (.int .i64 (m + 2 * (↑v.snd.fst.fst : Int)))),
  ((decide (m + 2 * (↑v.snd.fst.fst : Int) < 0)) = false),
  (((m + 2 * (↑v.snd.fst.fst : Int)) : Int) = (m + 2 * (↑v.snd.fst.fst : Int)))] := by kernel_rfl

theorem p_szGainBarS_a (v : T_GainBarS) (m : Int) :
    pathOb Try.prog Try.f66 0 [.reg [oT], .reg [oT, oT, oT, oT, oT], .reg [oT, oT], .dec true, .reg [oT]] [.code (bodyOf Try.f66)] (start Try.f66 [] 0 [.p (.seq true 4 (v.1) (fun i => [.int .i64 ((v.2 i).1), .int .i64 ((v.2 i).2.1), .int .i64 ((v.2 i).2.2.1), .int .i64 ((v.2 i).2.2.2.1)])), .p (.int .i64 m)]) [] 1 [] (.p (.int .i64 (-1))) =
    some [(((-9223372036854775808) : Int) ≤ (m - (↑v.fst : Int))),
  (((m - (↑v.fst : Int)) : Int) ≤ 9223372036854775807),
  ((decide (m - (↑v.fst : Int) < 0)) = true),
  (((-1) : Int) = (-1))] := by kernel_rfl

theorem p_szGainBarS_b (v : T_GainBarS) (m : Int) :
    pathOb Try.prog Try.f66 0 [.reg [oT], .reg [oT, oT, oT, oT, oT], .reg [oT, oT], .dec false, .reg [oT, oT]] [.code (bodyOf Try.f66)] (start Try.f66 [] 0 [.p (.seq true 4 (v.1) (fun i => [.int .i64 ((v.2 i).1), .int .i64 ((v.2 i).2.1), .int .i64 ((v.2 i).2.2.1), .int .i64 ((v.2 i).2.2.2.1)])), .p (.int .i64 m)]) [] 1 [] (.p (.int .i64 (m - v.1))) =
    some [(((-9223372036854775808) : Int) ≤ (m - (↑v.fst : Int))),
  (((m - (↑v.fst : Int)) : Int) ≤ 9223372036854775807),
  ((decide (m - (↑v.fst : Int) < 0)) = false),
  (((m - (↑v.fst : Int)) : Int) = (m - (↑v.fst : Int)))] := by kernel_rfl

theorem p_szGainGraph_0 (v : T_GainGraph) (m : Int) :
    pathOb Try.prog Try.f21 0 [.reg [oT, oT], .reg [oT, oT, oT, ⟨true, (some ⟨[], [], 1, [], .p (.int .i64 (f_szGainBarS v.2.1 m))⟩), none⟩, oT], .reg [oT, oT], .dec true, .reg [oT]] [.code (bodyOf Try.f21)] (start Try.f21 [] 0 [.agg [.p (.int .i64 (v.1)), .p (.seq true 4 (v.2.1.1) (fun i => [.int .i64 ((v.2.1.2 i).1), .int .i64 ((v.2.1.2 i).2.1), .int .i64 ((v.2.1.2 i).2.2.1), .int .i64 ((v.2.1.2 i).2.2.2.1)]))], .p (.int .i64 m)]) [] 1 [] (.p (.int .i64 (-1))) =
    some [((0 : Nat) < 1),
  Con (Try.prog) 66 0 [] [.p (.seq true 4 (v.snd.fst.fst) (fun i => [.int .i64 ((v.snd.fst.snd i).fst), .int .i64 ((v.snd.fst.snd i).snd.fst), .int .i64 ((v.snd.fst.snd i).snd.snd.fst), .int .i64 ((v.snd.fst.snd i).snd.snd.snd.fst)])), .p (.int .i64 (m))] [] (.p (.int .i64 (f_szGainBarS v.snd.fst m))),
  ((decide (f_szGainBarS v.snd.fst m < 0)) = true),
  (((-1) : Int) = (-1))] := by kernel_rfl

theorem p_szGainGraph_e (v : T_GainGraph) (m : Int) :
    pathOb Try.prog Try.f21 0 [.reg [oT, oT], .reg [oT, oT, oT, ⟨true, (some ⟨[], [], 1, [], .p (.int .i64 (f_szGainBarS v.2.1 m))⟩), none⟩, oT], .reg [oT, oT], .dec false, .reg [oT, oT]] [.code (bodyOf Try.f21)] (start Try.f21 [] 0 [.agg [.p (.int .i64 (v.1)), .p (.seq true 4 (v.2.1.1) (fun i => [.int .i64 ((v.2.1.2 i).1), .int .i64 ((v.2.1.2 i).2.1), .int .i64 ((v.2.1.2 i).2.2.1), .int .i64 ((v.2.1.2 i).2.2.2.1)]))], .p (.int .i64 m)]) [] 1 [] (.p (.int .i64 (f_szGainBarS v.2.1 m))) =
    some [((0 : Nat) < 1),
  Con (Try.prog) 66 0 [] [.p (.seq true 4 (v.snd.fst.fst) (fun i => [.int .i64 ((v.snd.fst.snd i).fst), .int .i64 ((v.snd.fst.snd i).snd.fst), .int .i64 ((v.snd.fst.snd i).snd.snd.fst), .int .i64 ((v.snd.fst.snd i).snd.snd.snd.fst)])), .p (.int .i64 (m))] [] (.p (.int .i64 (f_szGainBarS v.snd.fst m))),
  ((decide (f_szGainBarS v.snd.fst m < 0)) = false),
  (((f_szGainBarS v.snd.fst m) : Int) = (f_szGainBarS v.snd.fst m))] := by kernel_rfl

theorem p_toGainBar (v : T_GainBar) :
    pathOb Try.prog Try.f117 0 [.reg [oT, oT], .reg [oT], .reg [oT, oT, oT, oT], .reg [oT, oT, oT, oT], .reg [oT, oT, oT, oT], .reg [oT, oT, oT, oT], .reg [oT, oT]] [.code (bodyOf Try.f117)] (start Try.f117 [] 0 [.agg [.p (.int .i64 (v.1)), .p (.int .i64 (v.2.1)), .p (.int .i64 (v.2.2.1)), .p (.int .i64 (v.2.2.2.1))]]) [] 1 [] (.agg [.p (.int .i64 (v.1)), .p (.int .i64 (v.2.1)), .p (.int .i64 (v.2.2.1)), .p (.int .i64 (v.2.2.2.1))]) =
    some [((0 : Nat) < 1),
  ((0 : Nat) < 1),
  (((true) = true) → ((1 : Nat) = 1)),
  ((0 : Nat) < 1),
  ((0 : Nat) < 1),
  (((true) = true) → ((1 : Nat) = 1)),
  ((0 : Nat) < 1),
  ((0 : Nat) < 1),
  (((true) = true) → ((1 : Nat) = 1)),
  ((0 : Nat) < 1),
  ((0 : Nat) < 1),
  (((true) = true) → ((1 : Nat) = 1)),
  ((0 : Nat) < 1),
  ((0 : Nat) < 1),
  (((true) = true) → ((1 : Nat) = 1)),
  ((0 : Nat) < 1),
  (((v.fst) : Int) = (v.fst)),
  (((v.snd.fst) : Int) = (v.snd.fst)),
  (((v.snd.snd.fst) : Int) = (v.snd.snd.fst)),
  (((v.snd.snd.snd.fst) : Int) = (v.snd.snd.snd.fst))] := by kernel_rfl

theorem p_toGainBarS_a (v : T_GainBarS) :
    pieceOb Try.prog 0 [.reg [oT], .reg [oT, oT, oT, oT], .reg [oT], .head] [.code (bodyOf Try.f68)] (start Try.f68 [] 0 [.p (.seq true 4 (v.1) (fun i => [.int .i64 ((v.2 i).1), .int .i64 ((v.2 i).2.1), .int .i64 ((v.2 i).2.2.1), .int .i64 ((v.2 i).2.2.2.1)]))]) [96] 1 (S_toGainBarS v 0) =
    some ([.code (cAt (bodyOf Try.f68) [1, 1, 0, 1, 0, 0]), .inLoop (cAt (bodyOf Try.f68) [1, 1, 0, 1, 0, 0]), .inBlock 0, .code (cAt (bodyOf Try.f68) [1, 1, 1])], [((0 : Int) ≤ ((↑v.fst : Int))),
  ((((↑v.fst : Int)) : Int) ≤ ((↑v.fst : Int))),
  ((((↑v.fst : Int) * (↑32 : Int)) : Int) ≤ 281474976710656),
  ((((↑v.fst : Int)) : Int) ≤ 9223372036854775807),
  (((v.fst) : Nat) = (v.fst)),
  (∀ i : Nat, ((((i) : Nat) < (v.fst)) → (([.int .i64 ((v.snd i).fst), .int .i64 ((v.snd i).snd.fst), .int .i64 ((v.snd i).snd.snd.fst), .int .i64 ((v.snd i).snd.snd.snd.fst)] : List PV) = [.int .i64 ((v.snd i).fst), .int .i64 ((v.snd i).snd.fst), .int .i64 ((v.snd i).snd.snd.fst), .int .i64 ((v.snd i).snd.snd.snd.fst)]))),
  ((0 : Nat) = 0),
  (((v.fst) : Nat) = (v.fst)),
  ((0 : Int) = ((↑0 : Int))),
  ((4 : Nat) = 4),
  (((v.fst) : Nat) ≤ (v.fst)),
  (∀ i : Nat, ((((i) : Nat) < (v.fst)) → (All [] ∧ (([.p (.int .i64 0), .p (.int .i64 0), .p (.int .i64 0), .p (.int .i64 0)] : List AV) = [.p (.int .i64 (if i < 0 then (v.snd i).fst else 0)), .p (.int .i64 (if i < 0 then (v.snd i).snd.fst else 0)), .p (.int .i64 (if i < 0 then (v.snd i).snd.snd.fst else 0)), .p (.int .i64 (if i < 0 then (v.snd i).snd.snd.snd.fst else 0))]))))]) := by kernel_rfl

theorem p_toGainBarS_b (v : T_GainBarS) (k : Nat) :
    pieceOb Try.prog 0 [.reg [oT, oT, oT, oT], .dec true, .reg [oT, oT, oT, oT, oT, oT, ⟨true, (some ⟨[], [], 1, [], .agg [.p (.int .i64 ((v.2 k).1)), .p (.int .i64 ((v.2 k).2.1)), .p (.int .i64 ((v.2 k).2.2.1)), .p (.int .i64 ((v.2 k).2.2.2.1))]⟩), none⟩, oT, oT], .reg [oT, oT, oT], .head] [.code (cAt (bodyOf Try.f68) [1, 1, 0, 1, 0, 0]), .inLoop (cAt (bodyOf Try.f68) [1, 1, 0, 1, 0, 0]), .inBlock 0, .code (cAt (bodyOf Try.f68) [1, 1, 1])] (S_toGainBarS v k) [0] 1 (S_toGainBarS v (k + 1)) =
    some ([.code (cAt (bodyOf Try.f68) [1, 1, 0, 1, 0, 0]), .inLoop (cAt (bodyOf Try.f68) [1, 1, 0, 1, 0, 0]), .inBlock 0, .code (cAt (bodyOf Try.f68) [1, 1, 1])], [((decide ((↑k : Int) < (↑v.fst : Int))) = true),
  ((0 : Int) ≤ ((↑k : Int))),
  ((((↑k : Int)) : Int) < ((↑v.fst : Int))),
  Con (Try.prog) 117 0 [] [.agg [.p (.int .i64 ((v.snd k).fst)), .p (.int .i64 ((v.snd k).snd.fst)), .p (.int .i64 ((v.snd k).snd.snd.fst)), .p (.int .i64 ((v.snd k).snd.snd.snd.fst))]] [] (.agg [.p (.int .i64 ((v.snd k).fst)), .p (.int .i64 ((v.snd k).snd.fst)), .p (.int .i64 ((v.snd k).snd.snd.fst)), .p (.int .i64 ((v.snd k).snd.snd.snd.fst))]),
  ((0 : Int) ≤ ((↑k : Int))),
  ((((↑k : Int)) : Int) < ((↑v.fst : Int))),
  (((k) : Nat) < (v.fst)),
  (((false) = true) → (((v.fst) : Nat) = 1)),
  (((-9223372036854775808) : Int) ≤ ((↑k : Int) + 1)),
  ((((↑k : Int) + 1) : Int) ≤ 9223372036854775807),
  (((v.fst) : Nat) = (v.fst)),
  (∀ i : Nat, ((((i) : Nat) < (v.fst)) → (([.int .i64 ((v.snd i).fst), .int .i64 ((v.snd i).snd.fst), .int .i64 ((v.snd i).snd.snd.fst), .int .i64 ((v.snd i).snd.snd.snd.fst)] : List PV) = [.int .i64 ((v.snd i).fst), .int .i64 ((v.snd i).snd.fst), .int .i64 ((v.snd i).snd.snd.fst), .int .i64 ((v.snd i).snd.snd.snd.fst)]))),
  ((0 : Nat) = 0),
  (((v.fst) : Nat) = (v.fst)),
  ((((↑k : Int) + 1) : Int) = ((↑(k + 1) : Int))),
  ((4 : Nat) = 4),
  (((v.fst) : Nat) ≤ (v.fst)),
  (∀ i : Nat, ((((i) : Nat) < (v.fst)) → (All (cvtL false [(0, ⟨false, 4, (v.fst), (fun i_1 => (if (i_1 = k) then [.p (.int .i64 ((v.snd k).fst)), .p (.int .i64 ((v.snd k).snd.fst)), .p (.int .i64 ((v.snd k).snd.snd.fst)), .p (.int .i64 ((v.snd k).snd.snd.snd.fst))] else [.p (.int .i64 (if i_1 < k then (v.snd i_1).fst else 0)), .p (.int .i64 (if i_1 < k then (v.snd i_1).snd.fst else 0)), .p (.int .i64 (if i_1 < k then (v.snd i_1).snd.snd.fst else 0)), .p (.int .i64 (if i_1 < k then (v.snd i_1).snd.snd.snd.fst else 0))]))⟩)] [0] 1 (if (i = k) then [.p (.int .i64 ((v.snd k).fst)), .p (.int .i64 ((v.snd k).snd.fst)), .p (.int .i64 ((v.snd k).snd.snd.fst)), .p (.int .i64 ((v.snd k).snd.snd.snd.fst))] else [.p (.int .i64 (if i < k then (v.snd i).fst else 0)), .p (.int .i64 (if i < k then (v.snd i).snd.fst else 0)), .p (.int .i64 (if i < k then (v.snd i).snd.snd.fst else 0)), .p (.int .i64 (if i < k then (v.snd i).snd.snd.snd.fst else 0))])).2 ∧ (((cvtL false [(0, ⟨false, 4, (v.fst), (fun i_1 => (if (i_1 = k) then [.p (.int .i64 ((v.snd k).fst)), .p (.int .i64 ((v.snd k).snd.fst)), .p (.int .i64 ((v.snd k).snd.snd.fst)), .p (.int .i64 ((v.snd k).snd.snd.snd.fst))] else [.p (.int .i64 (if i_1 < k then (v.snd i_1).fst else 0)), .p (.int .i64 (if i_1 < k then (v.snd i_1).snd.fst else 0)), .p (.int .i64 (if i_1 < k then (v.snd i_1).snd.snd.fst else 0)), .p (.int .i64 (if i_1 < k then (v.snd i_1).snd.snd.snd.fst else 0))]))⟩)] [0] 1 (if (i = k) then [.p (.int .i64 ((v.snd k).fst)), .p (.int .i64 ((v.snd k).snd.fst)), .p (.int .i64 ((v.snd k).snd.snd.fst)), .p (.int .i64 ((v.snd k).snd.snd.snd.fst))] else [.p (.int .i64 (if i < k then (v.snd i).fst else 0)), .p (.int .i64 (if i < k then (v.snd i).snd.fst else 0)), .p (.int .i64 (if i < k then (v.snd i).snd.snd.fst else 0)), .p (.int .i64 (if i < k then (v.snd i).snd.snd.snd.fst else 0))])).1 : List AV) = [.p (.int .i64 (if i < k + 1 then (v.snd i).fst else 0)), .p (.int .i64 (if i < k + 1 then (v.snd i).snd.fst else 0)), .p (.int .i64 (if i < k + 1 then (v.snd i).snd.snd.fst else 0)), .p (.int .i64 (if i < k + 1 then (v.snd i).snd.snd.snd.fst else 0))]))))]) := by kernel_rfl

theorem p_toGainBarS_c (v : T_GainBarS) (k : Nat) :
    pathOb Try.prog Try.f68 0 [.reg [oT, oT, oT, oT], .dec false, .reg [oT, oT]] [.code (cAt (bodyOf Try.f68) [1, 1, 0, 1, 0, 0]), .inLoop (cAt (bodyOf Try.f68) [1, 1, 0, 1, 0, 0]), .inBlock 0, .code (cAt (bodyOf Try.f68) [1, 1, 1])] (S_toGainBarS v k) [0] 1 [(0, ⟨false, 4, v.1, fun i => [.p (.int .i64 ((v.2 i).1)), .p (.int .i64 ((v.2 i).2.1)), .p (.int .i64 ((v.2 i).2.2.1)), .p (.int .i64 ((v.2 i).2.2.2.1))]⟩)] (.ar 4 0 0 (v.1)) =
    some [((decide ((↑k : Int) < (↑v.fst : Int))) = false),
  ((0 : Nat) = 0),
  (((v.fst) : Nat) = (v.fst)),
  ((4 : Nat) = 4),
  (((v.fst) : Nat) ≤ (v.fst)),
  (∀ i : Nat, ((((i) : Nat) < (v.fst)) → (All [] ∧ (([.p (.int .i64 (if i < k then (v.snd i).fst else 0)), .p (.int .i64 (if i < k then (v.snd i).snd.fst else 0)), .p (.int .i64 (if i < k then (v.snd i).snd.snd.fst else 0)), .p (.int .i64 (if i < k then (v.snd i).snd.snd.snd.fst else 0))] : List AV) = [.p (.int .i64 ((v.snd i).fst)), .p (.int .i64 ((v.snd i).snd.fst)), .p (.int .i64 ((v.snd i).snd.snd.fst)), .p (.int .i64 ((v.snd i).snd.snd.snd.fst))])))),
  (∀ i : Nat, ((((i) : Nat) < (v.fst)) → All []))] := by kernel_rfl

theorem p_toGainGraph (v : T_GainGraph) :
    pathOb Try.prog Try.f23 0 [.reg [oT, oT], .reg [oT], .reg [oT, oT, oT, oT], .reg [oT, oT, ⟨true, (some ⟨[], [], 1, [(0, ⟨false, 4, v.2.1.1, fun i => [.p (.int .i64 ((v.2.1.2 i).1)), .p (.int .i64 ((v.2.1.2 i).2.1)), .p (.int .i64 ((v.2.1.2 i).2.2.1)), .p (.int .i64 ((v.2.1.2 i).2.2.2.1))]⟩)], .ar 4 0 0 (v.2.1.1)⟩), none⟩, oT, oT], .reg [oT, oT]] [.code (bodyOf Try.f23)] (start Try.f23 [] 0 [.agg [.p (.int .i64 (v.1)), .p (.seq true 4 (v.2.1.1) (fun i => [.int .i64 ((v.2.1.2 i).1), .int .i64 ((v.2.1.2 i).2.1), .int .i64 ((v.2.1.2 i).2.2.1), .int .i64 ((v.2.1.2 i).2.2.2.1)]))]]) [288] 1 [(0, ⟨false, 4, v.2.1.1, fun i => [.p (.int .i64 ((v.2.1.2 i).1)), .p (.int .i64 ((v.2.1.2 i).2.1)), .p (.int .i64 ((v.2.1.2 i).2.2.1)), .p (.int .i64 ((v.2.1.2 i).2.2.2.1))]⟩)] (.agg [.p (.int .i64 (v.1)), .ar 4 0 0 (v.2.1.1)]) =
    some [((0 : Nat) < 1),
  ((0 : Nat) < 1),
  (((true) = true) → ((1 : Nat) = 1)),
  ((0 : Nat) < 1),
  Con (Try.prog) 68 0 [] [.p (.seq true 4 (v.snd.fst.fst) (fun i => [.int .i64 ((v.snd.fst.snd i).fst), .int .i64 ((v.snd.fst.snd i).snd.fst), .int .i64 ((v.snd.fst.snd i).snd.snd.fst), .int .i64 ((v.snd.fst.snd i).snd.snd.snd.fst)]))] [(0, ⟨false, 4, (v.snd.fst.fst), (fun i => [.p (.int .i64 ((v.snd.fst.snd i).fst)), .p (.int .i64 ((v.snd.fst.snd i).snd.fst)), .p (.int .i64 ((v.snd.fst.snd i).snd.snd.fst)), .p (.int .i64 ((v.snd.fst.snd i).snd.snd.snd.fst))])⟩)] (.ar 4 0 0 (v.snd.fst.fst)),
  ((0 : Nat) < 1),
  (((true) = true) → ((1 : Nat) = 1)),
  ((0 : Nat) < 1),
  ((0 : Nat) < 1),
  (((true) = true) → ((1 : Nat) = 1)),
  ((0 : Nat) < 1),
  (((v.fst) : Int) = (v.fst)),
  ((0 : Nat) = 0),
  (((v.snd.fst.fst) : Nat) = (v.snd.fst.fst)),
  ((4 : Nat) = 4),
  (((v.snd.fst.fst) : Nat) ≤ (v.snd.fst.fst)),
  (∀ i : Nat, ((((i) : Nat) < (v.snd.fst.fst)) → (All [] ∧ (([.p (.int .i64 ((v.snd.fst.snd i).fst)), .p (.int .i64 ((v.snd.fst.snd i).snd.fst)), .p (.int .i64 ((v.snd.fst.snd i).snd.snd.fst)), .p (.int .i64 ((v.snd.fst.snd i).snd.snd.snd.fst))] : List AV) = [.p (.int .i64 ((v.snd.fst.snd i).fst)), .p (.int .i64 ((v.snd.fst.snd i).snd.fst)), .p (.int .i64 ((v.snd.fst.snd i).snd.snd.fst)), .p (.int .i64 ((v.snd.fst.snd i).snd.snd.snd.fst))])))),
  (∀ i : Nat, ((((i) : Nat) < (v.snd.fst.fst)) → All []))] := by kernel_rfl

theorem p_eqGainBar (v : T_GainBar) :
    pathOb Try.prog Try.f119 0 [.reg [oT, oT, oT], .reg [oT, oT, oT, oT, oT], .dec false, .reg [oT, oT, oT, oT, oT], .dec false, .reg [oT, oT, oT, oT, oT], .dec false, .reg [oT, oT, oT, oT, oT], .dec false, .reg [oT]] [.code (bodyOf Try.f119)] (start Try.f119 [] 0 [.agg [.p (.int .i64 (v.1)), .p (.int .i64 (v.2.1)), .p (.int .i64 (v.2.2.1)), .p (.int .i64 (v.2.2.2.1))], .agg [.p (.int .i64 (v.1)), .p (.int .i64 (v.2.1)), .p (.int .i64 (v.2.2.1)), .p (.int .i64 (v.2.2.2.1))]]) [] 1 [] (.p (.bool true)) =
    some [((0 : Nat) < 1),
  ((0 : Nat) < 1),
  ((v.fst != v.fst) = false),
  ((0 : Nat) < 1),
  ((0 : Nat) < 1),
  ((v.snd.fst != v.snd.fst) = false),
  ((0 : Nat) < 1),
  ((0 : Nat) < 1),
  ((v.snd.snd.fst != v.snd.snd.fst) = false),
  ((0 : Nat) < 1),
  ((0 : Nat) < 1),
  ((v.snd.snd.snd.fst != v.snd.snd.snd.fst) = false),
  (true = true)] := by kernel_rfl

theorem p_eqGainBarS_a (v : T_GainBarS) :
    pieceOb Try.prog 0 [.reg [oT], .reg [oT, oT, oT, oT, oT], .dec false, .reg [oT], .head] [.code (bodyOf Try.f71)] (start Try.f71 [] 0 [.p (.seq true 4 (v.1) (fun i => [.int .i64 ((v.2 i).1), .int .i64 ((v.2 i).2.1), .int .i64 ((v.2 i).2.2.1), .int .i64 ((v.2 i).2.2.2.1)])), .p (.seq true 4 (v.1) (fun i => [.int .i64 ((v.2 i).1), .int .i64 ((v.2 i).2.1), .int .i64 ((v.2 i).2.2.1), .int .i64 ((v.2 i).2.2.2.1)]))]) [] 1 (S_eqGainBarS v 0) =
    some ([.code (cAt (bodyOf Try.f71) [1, 1, 0, 1, 0, 0]), .inLoop (cAt (bodyOf Try.f71) [1, 1, 0, 1, 0, 0]), .inBlock 0, .code (cAt (bodyOf Try.f71) [1, 1, 1])], [(((↑v.fst : Int) != (↑v.fst : Int)) = false),
  (((v.fst) : Nat) = (v.fst)),
  (∀ i : Nat, ((((i) : Nat) < (v.fst)) → (([.int .i64 ((v.snd i).fst), .int .i64 ((v.snd i).snd.fst), .int .i64 ((v.snd i).snd.snd.fst), .int .i64 ((v.snd i).snd.snd.snd.fst)] : List PV) = [.int .i64 ((v.snd i).fst), .int .i64 ((v.snd i).snd.fst), .int .i64 ((v.snd i).snd.snd.fst), .int .i64 ((v.snd i).snd.snd.snd.fst)]))),
  (((v.fst) : Nat) = (v.fst)),
  (∀ i : Nat, ((((i) : Nat) < (v.fst)) → (([.int .i64 ((v.snd i).fst), .int .i64 ((v.snd i).snd.fst), .int .i64 ((v.snd i).snd.snd.fst), .int .i64 ((v.snd i).snd.snd.snd.fst)] : List PV) = [.int .i64 ((v.snd i).fst), .int .i64 ((v.snd i).snd.fst), .int .i64 ((v.snd i).snd.snd.fst), .int .i64 ((v.snd i).snd.snd.snd.fst)]))),
  ((0 : Int) = ((↑0 : Int)))]) := by kernel_rfl

theorem p_eqGainBarS_b (v : T_GainBarS) (k : Nat) :
    pieceOb Try.prog 0 [.reg [oT, oT, oT, oT], .dec true, .reg [oT, oT, oT, oT, oT, oT, oT, oT, ⟨true, (some ⟨[], [], 1, [], .p (.bool true)⟩), none⟩, oT], .dec false, .reg [oT, oT, oT], .head] [.code (cAt (bodyOf Try.f71) [1, 1, 0, 1, 0, 0]), .inLoop (cAt (bodyOf Try.f71) [1, 1, 0, 1, 0, 0]), .inBlock 0, .code (cAt (bodyOf Try.f71) [1, 1, 1])] (S_eqGainBarS v k) [] 1 (S_eqGainBarS v (k + 1)) =
    some ([.code (cAt (bodyOf Try.f71) [1, 1, 0, 1, 0, 0]), .inLoop (cAt (bodyOf Try.f71) [1, 1, 0, 1, 0, 0]), .inBlock 0, .code (cAt (bodyOf Try.f71) [1, 1, 1])], [((decide ((↑k : Int) < (↑v.fst : Int))) = true),
  ((0 : Int) ≤ ((↑k : Int))),
  ((((↑k : Int)) : Int) < ((↑v.fst : Int))),
  ((0 : Int) ≤ ((↑k : Int))),
  ((((↑k : Int)) : Int) < ((↑v.fst : Int))),
  Con (Try.prog) 119 0 [] [.agg [.p (.int .i64 ((v.snd k).fst)), .p (.int .i64 ((v.snd k).snd.fst)), .p (.int .i64 ((v.snd k).snd.snd.fst)), .p (.int .i64 ((v.snd k).snd.snd.snd.fst))], .agg [.p (.int .i64 ((v.snd k).fst)), .p (.int .i64 ((v.snd k).snd.fst)), .p (.int .i64 ((v.snd k).snd.snd.fst)), .p (.int .i64 ((v.snd k).snd.snd.snd.fst))]] [] (.p (.bool true)),
  ((!true) = false),
  (((-9223372036854775808) : Int) ≤ ((↑k : Int) + 1)),
  ((((↑k : Int) + 1) : Int) ≤ 9223372036854775807),
  (((v.fst) : Nat) = (v.fst)),
  (∀ i : Nat, ((((i) : Nat) < (v.fst)) → (([.int .i64 ((v.snd i).fst), .int .i64 ((v.snd i).snd.fst), .int .i64 ((v.snd i).snd.snd.fst), .int .i64 ((v.snd i).snd.snd.snd.fst)] : List PV) = [.int .i64 ((v.snd i).fst), .int .i64 ((v.snd i).snd.fst), .int .i64 ((v.snd i).snd.snd.fst), .int .i64 ((v.snd i).snd.snd.snd.fst)]))),
  (((v.fst) : Nat) = (v.fst)),
  (∀ i : Nat, ((((i) : Nat) < (v.fst)) → (([.int .i64 ((v.snd i).fst), .int .i64 ((v.snd i).snd.fst), .int .i64 ((v.snd i).snd.snd.fst), .int .i64 ((v.snd i).snd.snd.snd.fst)] : List PV) = [.int .i64 ((v.snd i).fst), .int .i64 ((v.snd i).snd.fst), .int .i64 ((v.snd i).snd.snd.fst), .int .i64 ((v.snd i).snd.snd.snd.fst)]))),
  ((((↑k : Int) + 1) : Int) = ((↑(k + 1) : Int)))]) := by kernel_rfl

theorem p_eqGainBarS_c (v : T_GainBarS) (k : Nat) :
    pathOb Try.prog Try.f71 0 [.reg [oT, oT, oT, oT], .dec false, .reg [oT]] [.code (cAt (bodyOf Try.f71) [1, 1, 0, 1, 0, 0]), .inLoop (cAt (bodyOf Try.f71) [1, 1, 0, 1, 0, 0]), .inBlock 0, .code (cAt (bodyOf Try.f71) [1, 1, 1])] (S_eqGainBarS v k) [] 1 [] (.p (.bool true)) =
    some [((decide ((↑k : Int) < (↑v.fst : Int))) = false),
  (true = true)] := by kernel_rfl

theorem p_eqGainGraph (v : T_GainGraph) :
    pathOb Try.prog Try.f25 0 [.reg [oT, oT, oT], .reg [oT, oT, oT, oT, oT], .dec false, .reg [oT, oT, oT, oT, ⟨true, (some ⟨[], [], 1, [], .p (.bool true)⟩), none⟩, oT], .dec false, .reg [oT]] [.code (bodyOf Try.f25)] (start Try.f25 [] 0 [.agg [.p (.int .i64 (v.1)), .p (.seq true 4 (v.2.1.1) (fun i => [.int .i64 ((v.2.1.2 i).1), .int .i64 ((v.2.1.2 i).2.1), .int .i64 ((v.2.1.2 i).2.2.1), .int .i64 ((v.2.1.2 i).2.2.2.1)]))], .agg [.p (.int .i64 (v.1)), .p (.seq true 4 (v.2.1.1) (fun i => [.int .i64 ((v.2.1.2 i).1), .int .i64 ((v.2.1.2 i).2.1), .int .i64 ((v.2.1.2 i).2.2.1), .int .i64 ((v.2.1.2 i).2.2.2.1)]))]]) [] 1 [] (.p (.bool true)) =
    some [((0 : Nat) < 1),
  ((0 : Nat) < 1),
  ((v.fst != v.fst) = false),
  ((0 : Nat) < 1),
  ((0 : Nat) < 1),
  Con (Try.prog) 71 0 [] [.p (.seq true 4 (v.snd.fst.fst) (fun i => [.int .i64 ((v.snd.fst.snd i).fst), .int .i64 ((v.snd.fst.snd i).snd.fst), .int .i64 ((v.snd.fst.snd i).snd.snd.fst), .int .i64 ((v.snd.fst.snd i).snd.snd.snd.fst)])), .p (.seq true 4 (v.snd.fst.fst) (fun i => [.int .i64 ((v.snd.fst.snd i).fst), .int .i64 ((v.snd.fst.snd i).snd.fst), .int .i64 ((v.snd.fst.snd i).snd.snd.fst), .int .i64 ((v.snd.fst.snd i).snd.snd.snd.fst)]))] [] (.p (.bool true)),
  ((!true) = false),
  (true = true)] := by kernel_rfl

theorem p_markGainBarS_a (v : T_GainBarS) (m : Int) :
    pieceOb Try.prog 1 [.reg [oT], .reg [oT], .head] [.code (bodyOf Try.f72)] (start Try.f72 [(0, ⟨false, 4, v.1, fun i => [.p (.int .i64 ((v.2 i).1)), .p (.int .i64 ((v.2 i).2.1)), .p (.int .i64 ((v.2 i).2.2.1)), .p (.int .i64 ((v.2 i).2.2.2.1))]⟩)] 1 [.ar 4 0 0 v.1, .p (.int .i64 m)]) [0] 1 (S_markGainBarS v m 0) =
    some ([.code (cAt (bodyOf Try.f72) [1, 0, 1, 0, 0]), .inLoop (cAt (bodyOf Try.f72) [1, 0, 1, 0, 0]), .inBlock 0, .code (cAt (bodyOf Try.f72) [1, 1])], [((0 : Nat) = 0),
  (((v.fst) : Nat) = (v.fst)),
  (((m) : Int) = (m + 4 * (↑0 : Int))),
  ((0 : Int) = ((↑0 : Int))),
  ((4 : Nat) = 4),
  (((v.fst) : Nat) ≤ (v.fst)),
  (∀ i : Nat, ((((i) : Nat) < (v.fst)) → (All [] ∧ (([.p (.int .i64 ((v.snd i).fst)), .p (.int .i64 ((v.snd i).snd.fst)), .p (.int .i64 ((v.snd i).snd.snd.fst)), .p (.int .i64 ((v.snd i).snd.snd.snd.fst))] : List AV) = [.p (.int .i64 (if i < 0 then m + 4 * (↑i : Int) else (v.snd i).fst)), .p (.int .i64 (if i < 0 then m + 4 * (↑i : Int) + 1 else (v.snd i).snd.fst)), .p (.int .i64 (if i < 0 then m + 4 * (↑i : Int) + 2 else (v.snd i).snd.snd.fst)), .p (.int .i64 (if i < 0 then m + 4 * (↑i : Int) + 3 else (v.snd i).snd.snd.snd.fst))]))))]) := by kernel_rfl

theorem p_markGainBarS_b0 (v : T_GainBarS) (m : Int) (k : Nat) :
    pieceOb Try.prog 1 [.reg [oT, oT, oT, oT], .dec true, .reg [oT, oT, oT, oT, oT, oT], .reg [oT, oT, oT], .head] [.code (cAt (bodyOf Try.f72) [1, 0, 1, 0, 0]), .inLoop (cAt (bodyOf Try.f72) [1, 0, 1, 0, 0]), .inBlock 0, .code (cAt (bodyOf Try.f72) [1, 1])] (S_markGainBarS v m k) [0] 1 (S_markGainBarS_1 v m k) =
    some ([.code (cAt (bodyOf Try.f72) [1, 0, 1, 0, 0, 1, 0, 0, 1, 1, 0]), .code (cAt (bodyOf Try.f72) [1, 0, 1, 0, 0, 1, 0, 0, 1, 1, 1]), .inBlock 1, .code (cAt (bodyOf Try.f72) [1, 0, 1, 0, 0, 1, 1]), .inLoop (cAt (bodyOf Try.f72) [1, 0, 1, 0, 0]), .inBlock 0, .code (cAt (bodyOf Try.f72) [1, 1])], [((decide ((↑k : Int) < (↑v.fst : Int))) = true),
  ((0 : Int) ≤ ((↑k : Int))),
  ((((↑k : Int)) : Int) < ((↑v.fst : Int))),
  (((k) : Nat) < (v.fst)),
  (((false) = true) → (((v.fst) : Nat) = 1)),
  (((-9223372036854775808) : Int) ≤ (m + 4 * (↑k : Int) + 1)),
  (((m + 4 * (↑k : Int) + 1) : Int) ≤ 9223372036854775807),
  ((0 : Nat) = 0),
  (((v.fst) : Nat) = (v.fst)),
  (((m + 4 * (↑k : Int) + 1) : Int) = (m + 4 * (↑k : Int) + 1)),
  ((((↑k : Int)) : Int) = ((↑k : Int))),
  ((4 : Nat) = 4),
  (((v.fst) : Nat) ≤ (v.fst)),
  (∀ i : Nat, ((((i) : Nat) < (v.fst)) → (All (cvtL false [(0, ⟨false, 4, (v.fst), (fun i_1 => (if (i_1 = k) then [.p (.int .i64 (m + 4 * (↑k : Int))), .p (.int .i64 (if (↑k : Int).toNat + 0 < k then m + 4 * (↑k : Int) + 1 else (v.snd k).snd.fst)), .p (.int .i64 (if (↑k : Int).toNat + 0 < k then m + 4 * (↑k : Int) + 2 else (v.snd k).snd.snd.fst)), .p (.int .i64 (if (↑k : Int).toNat + 0 < k then m + 4 * (↑k : Int) + 3 else (v.snd k).snd.snd.snd.fst))] else [.p (.int .i64 (if i_1 < k then m + 4 * (↑i_1 : Int) else (v.snd i_1).fst)), .p (.int .i64 (if i_1 < k then m + 4 * (↑i_1 : Int) + 1 else (v.snd i_1).snd.fst)), .p (.int .i64 (if i_1 < k then m + 4 * (↑i_1 : Int) + 2 else (v.snd i_1).snd.snd.fst)), .p (.int .i64 (if i_1 < k then m + 4 * (↑i_1 : Int) + 3 else (v.snd i_1).snd.snd.snd.fst))]))⟩)] [0] 1 (if (i = k) then [.p (.int .i64 (m + 4 * (↑k : Int))), .p (.int .i64 (if (↑k : Int).toNat + 0 < k then m + 4 * (↑k : Int) + 1 else (v.snd k).snd.fst)), .p (.int .i64 (if (↑k : Int).toNat + 0 < k then m + 4 * (↑k : Int) + 2 else (v.snd k).snd.snd.fst)), .p (.int .i64 (if (↑k : Int).toNat + 0 < k then m + 4 * (↑k : Int) + 3 else (v.snd k).snd.snd.snd.fst))] else [.p (.int .i64 (if i < k then m + 4 * (↑i : Int) else (v.snd i).fst)), .p (.int .i64 (if i < k then m + 4 * (↑i : Int) + 1 else (v.snd i).snd.fst)), .p (.int .i64 (if i < k then m + 4 * (↑i : Int) + 2 else (v.snd i).snd.snd.fst)), .p (.int .i64 (if i < k then m + 4 * (↑i : Int) + 3 else (v.snd i).snd.snd.snd.fst))])).2 ∧ (((cvtL false [(0, ⟨false, 4, (v.fst), (fun i_1 => (if (i_1 = k) then [.p (.int .i64 (m + 4 * (↑k : Int))), .p (.int .i64 (if (↑k : Int).toNat + 0 < k then m + 4 * (↑k : Int) + 1 else (v.snd k).snd.fst)), .p (.int .i64 (if (↑k : Int).toNat + 0 < k then m + 4 * (↑k : Int) + 2 else (v.snd k).snd.snd.fst)), .p (.int .i64 (if (↑k : Int).toNat + 0 < k then m + 4 * (↑k : Int) + 3 else (v.snd k).snd.snd.snd.fst))] else [.p (.int .i64 (if i_1 < k then m + 4 * (↑i_1 : Int) else (v.snd i_1).fst)), .p (.int .i64 (if i_1 < k then m + 4 * (↑i_1 : Int) + 1 else (v.snd i_1).snd.fst)), .p (.int .i64 (if i_1 < k then m + 4 * (↑i_1 : Int) + 2 else (v.snd i_1).snd.snd.fst)), .p (.int .i64 (if i_1 < k then m + 4 * (↑i_1 : Int) + 3 else (v.snd i_1).snd.snd.snd.fst))]))⟩)] [0] 1 (if (i = k) then [.p (.int .i64 (m + 4 * (↑k : Int))), .p (.int .i64 (if (↑k : Int).toNat + 0 < k then m + 4 * (↑k : Int) + 1 else (v.snd k).snd.fst)), .p (.int .i64 (if (↑k : Int).toNat + 0 < k then m + 4 * (↑k : Int) + 2 else (v.snd k).snd.snd.fst)), .p (.int .i64 (if (↑k : Int).toNat + 0 < k then m + 4 * (↑k : Int) + 3 else (v.snd k).snd.snd.snd.fst))] else [.p (.int .i64 (if i < k then m + 4 * (↑i : Int) else (v.snd i).fst)), .p (.int .i64 (if i < k then m + 4 * (↑i : Int) + 1 else (v.snd i).snd.fst)), .p (.int .i64 (if i < k then m + 4 * (↑i : Int) + 2 else (v.snd i).snd.snd.fst)), .p (.int .i64 (if i < k then m + 4 * (↑i : Int) + 3 else (v.snd i).snd.snd.snd.fst))])).1 : List AV) = [.p (.int .i64 (if i < k + 1 then m + 4 * (↑i : Int) else (v.snd i).fst)), .p (.int .i64 (if i < k then m + 4 * (↑i : Int) + 1 else (v.snd i).snd.fst)), .p (.int .i64 (if i < k then m + 4 * (↑i : Int) + 2 else (v.snd i).snd.snd.fst)), .p (.int .i64 (if i < k then m + 4 * (↑i : Int) + 3 else (v.snd i).snd.snd.snd.fst))]))))]) := by kernel_rfl

theorem p_markGainBarS_b1 (v : T_GainBarS) (m : Int) (k : Nat) :
    pieceOb Try.prog 1 [.reg [oT, oT, oT, oT, oT, oT], .reg [oT, oT, oT], .head] [.code (cAt (bodyOf Try.f72) [1, 0, 1, 0, 0, 1, 0, 0, 1, 1, 0]), .code (cAt (bodyOf Try.f72) [1, 0, 1, 0, 0, 1, 0, 0, 1, 1, 1]), .inBlock 1, .code (cAt (bodyOf Try.f72) [1, 0, 1, 0, 0, 1, 1]), .inLoop (cAt (bodyOf Try.f72) [1, 0, 1, 0, 0]), .inBlock 0, .code (cAt (bodyOf Try.f72) [1, 1])] (S_markGainBarS_1 v m k) [0] 1 (S_markGainBarS_2 v m k) =
    some ([.code (cAt (bodyOf Try.f72) [1, 0, 1, 0, 0, 1, 0, 0, 1, 1, 1, 1, 0]), .code (cAt (bodyOf Try.f72) [1, 0, 1, 0, 0, 1, 0, 0, 1, 1, 1, 1, 1]), .inBlock 1, .code (cAt (bodyOf Try.f72) [1, 0, 1, 0, 0, 1, 1]), .inLoop (cAt (bodyOf Try.f72) [1, 0, 1, 0, 0]), .inBlock 0, .code (cAt (bodyOf Try.f72) [1, 1])], [((0 : Int) ≤ ((↑k : Int))),
  ((((↑k : Int)) : Int) < ((↑v.fst : Int))),
  (((k) : Nat) < (v.fst)),
  (((false) = true) → (((v.fst) : Nat) = 1)),
  (((-9223372036854775808) : Int) ≤ (m + 4 * (↑k : Int) + 1 + 1)),
  (((m + 4 * (↑k : Int) + 1 + 1) : Int) ≤ 9223372036854775807),
  ((0 : Nat) = 0),
  (((v.fst) : Nat) = (v.fst)),
  (((m + 4 * (↑k : Int) + 1 + 1) : Int) = (m + 4 * (↑k : Int) + 2)),
  ((((↑k : Int)) : Int) = ((↑k : Int))),
  ((4 : Nat) = 4),
  (((v.fst) : Nat) ≤ (v.fst)),
  (∀ i : Nat, ((((i) : Nat) < (v.fst)) → (All (cvtL false [(0, ⟨false, 4, (v.fst), (fun i_1 => (if (i_1 = k) then [.p (.int .i64 (if (↑k : Int).toNat + 0 < k + 1 then m + 4 * (↑k : Int) else (v.snd k).fst)), .p (.int .i64 (m + 4 * (↑k : Int) + 1)), .p (.int .i64 (if (↑k : Int).toNat + 0 < k then m + 4 * (↑k : Int) + 2 else (v.snd k).snd.snd.fst)), .p (.int .i64 (if (↑k : Int).toNat + 0 < k then m + 4 * (↑k : Int) + 3 else (v.snd k).snd.snd.snd.fst))] else [.p (.int .i64 (if i_1 < k + 1 then m + 4 * (↑i_1 : Int) else (v.snd i_1).fst)), .p (.int .i64 (if i_1 < k then m + 4 * (↑i_1 : Int) + 1 else (v.snd i_1).snd.fst)), .p (.int .i64 (if i_1 < k then m + 4 * (↑i_1 : Int) + 2 else (v.snd i_1).snd.snd.fst)), .p (.int .i64 (if i_1 < k then m + 4 * (↑i_1 : Int) + 3 else (v.snd i_1).snd.snd.snd.fst))]))⟩)] [0] 1 (if (i = k) then [.p (.int .i64 (if (↑k : Int).toNat + 0 < k + 1 then m + 4 * (↑k : Int) else (v.snd k).fst)), .p (.int .i64 (m + 4 * (↑k : Int) + 1)), .p (.int .i64 (if (↑k : Int).toNat + 0 < k then m + 4 * (↑k : Int) + 2 else (v.snd k).snd.snd.fst)), .p (.int .i64 (if (↑k : Int).toNat + 0 < k then m + 4 * (↑k : Int) + 3 else (v.snd k).snd.snd.snd.fst))] else [.p (.int .i64 (if i < k + 1 then m + 4 * (↑i : Int) else (v.snd i).fst)), .p (.int .i64 (if i < k then m + 4 * (↑i : Int) + 1 else (v.snd i).snd.fst)), .p (.int .i64 (if i < k then m + 4 * (↑i : Int) + 2 else (v.snd i).snd.snd.fst)), .p (.int .i64 (if i < k then m + 4 * (↑i : Int) + 3 else (v.snd i).snd.snd.snd.fst))])).2 ∧ (((cvtL false [(0, ⟨false, 4, (v.fst), (fun i_1 => (if (i_1 = k) then [.p (.int .i64 (if (↑k : Int).toNat + 0 < k + 1 then m + 4 * (↑k : Int) else (v.snd k).fst)), .p (.int .i64 (m + 4 * (↑k : Int) + 1)), .p (.int .i64 (if (↑k : Int).toNat + 0 < k then m + 4 * (↑k : Int) + 2 else (v.snd k).snd.snd.fst)), .p (.int .i64 (if (↑k : Int).toNat + 0 < k then m + 4 * (↑k : Int) + 3 else (v.snd k).snd.snd.snd.fst))] else [.p (.int .i64 (if i_1 < k + 1 then m + 4 * (↑i_1 : Int) else (v.snd i_1).fst)), .p (.int .i64 (if i_1 < k then m + 4 * (↑i_1 : Int) + 1 else (v.snd i_1).snd.fst)), .p (.int .i64 (if i_1 < k then m + 4 * (↑i_1 : Int) + 2 else (v.snd i_1).snd.snd.fst)), .p (.int .i64 (if i_1 < k then m + 4 * (↑i_1 : Int) + 3 else (v.snd i_1).snd.snd.snd.fst))]))⟩)] [0] 1 (if (i = k) then [.p (.int .i64 (if (↑k : Int).toNat + 0 < k + 1 then m + 4 * (↑k : Int) else (v.snd k).fst)), .p (.int .i64 (m + 4 * (↑k : Int) + 1)), .p (.int .i64 (if (↑k : Int).toNat + 0 < k then m + 4 * (↑k : Int) + 2 else (v.snd k).snd.snd.fst)), .p (.int .i64 (if (↑k : Int).toNat + 0 < k then m + 4 * (↑k : Int) + 3 else (v.snd k).snd.snd.snd.fst))] else [.p (.int .i64 (if i < k + 1 then m + 4 * (↑i : Int) else (v.snd i).fst)), .p (.int .i64 (if i < k then m + 4 * (↑i : Int) + 1 else (v.snd i).snd.fst)), .p (.int .i64 (if i < k then m + 4 * (↑i : Int) + 2 else (v.snd i).snd.snd.fst)), .p (.int .i64 (if i < k then m + 4 * (↑i : Int) + 3 else (v.snd i).snd.snd.snd.fst))])).1 : List AV) = [.p (.int .i64 (if i < k + 1 then m + 4 * (↑i : Int) else (v.snd i).fst)), .p (.int .i64 (if i < k + 1 then m + 4 * (↑i : Int) + 1 else (v.snd i).snd.fst)), .p (.int .i64 (if i < k then m + 4 * (↑i : Int) + 2 else (v.snd i).snd.snd.fst)), .p (.int .i64 (if i < k then m + 4 * (↑i : Int) + 3 else (v.snd i).snd.snd.snd.fst))]))))]) := by kernel_rfl

theorem p_markGainBarS_b2 (v : T_GainBarS) (m : Int) (k : Nat) :
    pieceOb Try.prog 1 [.reg [oT, oT, oT, oT, oT, oT], .reg [oT, oT, oT], .head] [.code (cAt (bodyOf Try.f72) [1, 0, 1, 0, 0, 1, 0, 0, 1, 1, 1, 1, 0]), .code (cAt (bodyOf Try.f72) [1, 0, 1, 0, 0, 1, 0, 0, 1, 1, 1, 1, 1]), .inBlock 1, .code (cAt (bodyOf Try.f72) [1, 0, 1, 0, 0, 1, 1]), .inLoop (cAt (bodyOf Try.f72) [1, 0, 1, 0, 0]), .inBlock 0, .code (cAt (bodyOf Try.f72) [1, 1])] (S_markGainBarS_2 v m k) [0] 1 (S_markGainBarS_3 v m k) =
    some ([.code (cAt (bodyOf Try.f72) [1, 0, 1, 0, 0, 1, 0, 0, 1, 1, 1, 1, 1, 1, 0]), .code (cAt (bodyOf Try.f72) [1, 0, 1, 0, 0, 1, 0, 0, 1, 1, 1, 1, 1, 1, 1]), .inBlock 1, .code (cAt (bodyOf Try.f72) [1, 0, 1, 0, 0, 1, 1]), .inLoop (cAt (bodyOf Try.f72) [1, 0, 1, 0, 0]), .inBlock 0, .code (cAt (bodyOf Try.f72) [1, 1])], [((0 : Int) ≤ ((↑k : Int))),
  ((((↑k : Int)) : Int) < ((↑v.fst : Int))),
  (((k) : Nat) < (v.fst)),
  (((false) = true) → (((v.fst) : Nat) = 1)),
  (((-9223372036854775808) : Int) ≤ (m + 4 * (↑k : Int) + 2 + 1)),
  (((m + 4 * (↑k : Int) + 2 + 1) : Int) ≤ 9223372036854775807),
  ((0 : Nat) = 0),
  (((v.fst) : Nat) = (v.fst)),
  (((m + 4 * (↑k : Int) + 2 + 1) : Int) = (m + 4 * (↑k : Int) + 3)),
  ((((↑k : Int)) : Int) = ((↑k : Int))),
  ((4 : Nat) = 4),
  (((v.fst) : Nat) ≤ (v.fst)),
  (∀ i : Nat, ((((i) : Nat) < (v.fst)) → (All (cvtL false [(0, ⟨false, 4, (v.fst), (fun i_1 => (if (i_1 = k) then [.p (.int .i64 (if (↑k : Int).toNat + 0 < k + 1 then m + 4 * (↑k : Int) else (v.snd k).fst)), .p (.int .i64 (if (↑k : Int).toNat + 0 < k + 1 then m + 4 * (↑k : Int) + 1 else (v.snd k).snd.fst)), .p (.int .i64 (m + 4 * (↑k : Int) + 2)), .p (.int .i64 (if (↑k : Int).toNat + 0 < k then m + 4 * (↑k : Int) + 3 else (v.snd k).snd.snd.snd.fst))] else [.p (.int .i64 (if i_1 < k + 1 then m + 4 * (↑i_1 : Int) else (v.snd i_1).fst)), .p (.int .i64 (if i_1 < k + 1 then m + 4 * (↑i_1 : Int) + 1 else (v.snd i_1).snd.fst)), .p (.int .i64 (if i_1 < k then m + 4 * (↑i_1 : Int) + 2 else (v.snd i_1).snd.snd.fst)), .p (.int .i64 (if i_1 < k then m + 4 * (↑i_1 : Int) + 3 else (v.snd i_1).snd.snd.snd.fst))]))⟩)] [0] 1 (if (i = k) then [.p (.int .i64 (if (↑k : Int).toNat + 0 < k + 1 then m + 4 * (↑k : Int) else (v.snd k).fst)), .p (.int .i64 (if (↑k : Int).toNat + 0 < k + 1 then m + 4 * (↑k : Int) + 1 else (v.snd k).snd.fst)), .p (.int .i64 (m + 4 * (↑k : Int) + 2)), .p (.int .i64 (if (↑k : Int).toNat + 0 < k then m + 4 * (↑k : Int) + 3 else (v.snd k).snd.snd.snd.fst))] else [.p (.int .i64 (if i < k + 1 then m + 4 * (↑i : Int) else (v.snd i).fst)), .p (.int .i64 (if i < k + 1 then m + 4 * (↑i : Int) + 1 else (v.snd i).snd.fst)), .p (.int .i64 (if i < k then m + 4 * (↑i : Int) + 2 else (v.snd i).snd.snd.fst)), .p (.int .i64 (if i < k then m + 4 * (↑i : Int) + 3 else (v.snd i).snd.snd.snd.fst))])).2 ∧ (((cvtL false [(0, ⟨false, 4, (v.fst), (fun i_1 => (if (i_1 = k) then [.p (.int .i64 (if (↑k : Int).toNat + 0 < k + 1 then m + 4 * (↑k : Int) else (v.snd k).fst)), .p (.int .i64 (if (↑k : Int).toNat + 0 < k + 1 then m + 4 * (↑k : Int) + 1 else (v.snd k).snd.fst)), .p (.int .i64 (m + 4 * (↑k : Int) + 2)), .p (.int .i64 (if (↑k : Int).toNat + 0 < k then m + 4 * (↑k : Int) + 3 else (v.snd k).snd.snd.snd.fst))] else [.p (.int .i64 (if i_1 < k + 1 then m + 4 * (↑i_1 : Int) else (v.snd i_1).fst)), .p (.int .i64 (if i_1 < k + 1 then m + 4 * (↑i_1 : Int) + 1 else (v.snd i_1).snd.fst)), .p (.int .i64 (if i_1 < k then m + 4 * (↑i_1 : Int) + 2 else (v.snd i_1).snd.snd.fst)), .p (.int .i64 (if i_1 < k then m + 4 * (↑i_1 : Int) + 3 else (v.snd i_1).snd.snd.snd.fst))]))⟩)] [0] 1 (if (i = k) then [.p (.int .i64 (if (↑k : Int).toNat + 0 < k + 1 then m + 4 * (↑k : Int) else (v.snd k).fst)), .p (.int .i64 (if (↑k : Int).toNat + 0 < k + 1 then m + 4 * (↑k : Int) + 1 else (v.snd k).snd.fst)), .p (.int .i64 (m + 4 * (↑k : Int) + 2)), .p (.int .i64 (if (↑k : Int).toNat + 0 < k then m + 4 * (↑k : Int) + 3 else (v.snd k).snd.snd.snd.fst))] else [.p (.int .i64 (if i < k + 1 then m + 4 * (↑i : Int) else (v.snd i).fst)), .p (.int .i64 (if i < k + 1 then m + 4 * (↑i : Int) + 1 else (v.snd i).snd.fst)), .p (.int .i64 (if i < k then m + 4 * (↑i : Int) + 2 else (v.snd i).snd.snd.fst)), .p (.int .i64 (if i < k then m + 4 * (↑i : Int) + 3 else (v.snd i).snd.snd.snd.fst))])).1 : List AV) = [.p (.int .i64 (if i < k + 1 then m + 4 * (↑i : Int) else (v.snd i).fst)), .p (.int .i64 (if i < k + 1 then m + 4 * (↑i : Int) + 1 else (v.snd i).snd.fst)), .p (.int .i64 (if i < k + 1 then m + 4 * (↑i : Int) + 2 else (v.snd i).snd.snd.fst)), .p (.int .i64 (if i < k then m + 4 * (↑i : Int) + 3 else (v.snd i).snd.snd.snd.fst))]))))]) := by kernel_rfl

theorem p_markGainBarS_b3 (v : T_GainBarS) (m : Int) (k : Nat) :
    pieceOb Try.prog 1 [.reg [oT, oT, oT, oT, oT, oT], .reg [oT, oT, oT], .reg [oT, oT, oT], .head] [.code (cAt (bodyOf Try.f72) [1, 0, 1, 0, 0, 1, 0, 0, 1, 1, 1, 1, 1, 1, 0]), .code (cAt (bodyOf Try.f72) [1, 0, 1, 0, 0, 1, 0, 0, 1, 1, 1, 1, 1, 1, 1]), .inBlock 1, .code (cAt (bodyOf Try.f72) [1, 0, 1, 0, 0, 1, 1]), .inLoop (cAt (bodyOf Try.f72) [1, 0, 1, 0, 0]), .inBlock 0, .code (cAt (bodyOf Try.f72) [1, 1])] (S_markGainBarS_3 v m k) [0] 1 (S_markGainBarS v m (k + 1)) =
    some ([.code (cAt (bodyOf Try.f72) [1, 0, 1, 0, 0]), .inLoop (cAt (bodyOf Try.f72) [1, 0, 1, 0, 0]), .inBlock 0, .code (cAt (bodyOf Try.f72) [1, 1])], [((0 : Int) ≤ ((↑k : Int))),
  ((((↑k : Int)) : Int) < ((↑v.fst : Int))),
  (((k) : Nat) < (v.fst)),
  (((false) = true) → (((v.fst) : Nat) = 1)),
  (((-9223372036854775808) : Int) ≤ (m + 4 * (↑k : Int) + 3 + 1)),
  (((m + 4 * (↑k : Int) + 3 + 1) : Int) ≤ 9223372036854775807),
  (((-9223372036854775808) : Int) ≤ ((↑k : Int) + 1)),
  ((((↑k : Int) + 1) : Int) ≤ 9223372036854775807),
  ((0 : Nat) = 0),
  (((v.fst) : Nat) = (v.fst)),
  (((m + 4 * (↑k : Int) + 3 + 1) : Int) = (m + 4 * (↑(k + 1) : Int))),
  ((((↑k : Int) + 1) : Int) = ((↑(k + 1) : Int))),
  ((4 : Nat) = 4),
  (((v.fst) : Nat) ≤ (v.fst)),
  (∀ i : Nat, ((((i) : Nat) < (v.fst)) → (All (cvtL false [(0, ⟨false, 4, (v.fst), (fun i_1 => (if (i_1 = k) then [.p (.int .i64 (if (↑k : Int).toNat + 0 < k + 1 then m + 4 * (↑k : Int) else (v.snd k).fst)), .p (.int .i64 (if (↑k : Int).toNat + 0 < k + 1 then m + 4 * (↑k : Int) + 1 else (v.snd k).snd.fst)), .p (.int .i64 (if (↑k : Int).toNat + 0 < k + 1 then m + 4 * (↑k : Int) + 2 else (v.snd k).snd.snd.fst)), .p (.int .i64 (m + 4 * (↑k : Int) + 3))] else [.p (.int .i64 (if i_1 < k + 1 then m + 4 * (↑i_1 : Int) else (v.snd i_1).fst)), .p (.int .i64 (if i_1 < k + 1 then m + 4 * (↑i_1 : Int) + 1 else (v.snd i_1).snd.fst)), .p (.int .i64 (if i_1 < k + 1 then m + 4 * (↑i_1 : Int) + 2 else (v.snd i_1).snd.snd.fst)), .p (.int .i64 (if i_1 < k then m + 4 * (↑i_1 : Int) + 3 else (v.snd i_1).snd.snd.snd.fst))]))⟩)] [0] 1 (if (i = k) then [.p (.int .i64 (if (↑k : Int).toNat + 0 < k + 1 then m + 4 * (↑k : Int) else (v.snd k).fst)), .p (.int .i64 (if (↑k : Int).toNat + 0 < k + 1 then m + 4 * (↑k : Int) + 1 else (v.snd k).snd.fst)), .p (.int .i64 (if (↑k : Int).toNat + 0 < k + 1 then m + 4 * (↑k : Int) + 2 else (v.snd k).snd.snd.fst)), .p (.int .i64 (m + 4 * (↑k : Int) + 3))] else [.p (.int .i64 (if i < k + 1 then m + 4 * (↑i : Int) else (v.snd i).fst)), .p (.int .i64 (if i < k + 1 then m + 4 * (↑i : Int) + 1 else (v.snd i).snd.fst)), .p (.int .i64 (if i < k + 1 then m + 4 * (↑i : Int) + 2 else (v.snd i).snd.snd.fst)), .p (.int .i64 (if i < k then m + 4 * (↑i : Int) + 3 else (v.snd i).snd.snd.snd.fst))])).2 ∧ (((cvtL false [(0, ⟨false, 4, (v.fst), (fun i_1 => (if (i_1 = k) then [.p (.int .i64 (if (↑k : Int).toNat + 0 < k + 1 then m + 4 * (↑k : Int) else (v.snd k).fst)), .p (.int .i64 (if (↑k : Int).toNat + 0 < k + 1 then m + 4 * (↑k : Int) + 1 else (v.snd k).snd.fst)), .p (.int .i64 (if (↑k : Int).toNat + 0 < k + 1 then m + 4 * (↑k : Int) + 2 else (v.snd k).snd.snd.fst)), .p (.int .i64 (m + 4 * (↑k : Int) + 3))] else [.p (.int .i64 (if i_1 < k + 1 then m + 4 * (↑i_1 : Int) else (v.snd i_1).fst)), .p (.int .i64 (if i_1 < k + 1 then m + 4 * (↑i_1 : Int) + 1 else (v.snd i_1).snd.fst)), .p (.int .i64 (if i_1 < k + 1 then m + 4 * (↑i_1 : Int) + 2 else (v.snd i_1).snd.snd.fst)), .p (.int .i64 (if i_1 < k then m + 4 * (↑i_1 : Int) + 3 else (v.snd i_1).snd.snd.snd.fst))]))⟩)] [0] 1 (if (i = k) then [.p (.int .i64 (if (↑k : Int).toNat + 0 < k + 1 then m + 4 * (↑k : Int) else (v.snd k).fst)), .p (.int .i64 (if (↑k : Int).toNat + 0 < k + 1 then m + 4 * (↑k : Int) + 1 else (v.snd k).snd.fst)), .p (.int .i64 (if (↑k : Int).toNat + 0 < k + 1 then m + 4 * (↑k : Int) + 2 else (v.snd k).snd.snd.fst)), .p (.int .i64 (m + 4 * (↑k : Int) + 3))] else [.p (.int .i64 (if i < k + 1 then m + 4 * (↑i : Int) else (v.snd i).fst)), .p (.int .i64 (if i < k + 1 then m + 4 * (↑i : Int) + 1 else (v.snd i).snd.fst)), .p (.int .i64 (if i < k + 1 then m + 4 * (↑i : Int) + 2 else (v.snd i).snd.snd.fst)), .p (.int .i64 (if i < k then m + 4 * (↑i : Int) + 3 else (v.snd i).snd.snd.snd.fst))])).1 : List AV) = [.p (.int .i64 (if i < k + 1 then m + 4 * (↑i : Int) else (v.snd i).fst)), .p (.int .i64 (if i < k + 1 then m + 4 * (↑i : Int) + 1 else (v.snd i).snd.fst)), .p (.int .i64 (if i < k + 1 then m + 4 * (↑i : Int) + 2 else (v.snd i).snd.snd.fst)), .p (.int .i64 (if i < k + 1 then m + 4 * (↑i : Int) + 3 else (v.snd i).snd.snd.snd.fst))]))))]) := by kernel_rfl

theorem p_markGainBarS_c (v : T_GainBarS) (m : Int) (k : Nat) :
    pathOb Try.prog Try.f72 1 [.reg [oT, oT, oT, oT], .dec false, .reg [oT, oT]] [.code (cAt (bodyOf Try.f72) [1, 0, 1, 0, 0]), .inLoop (cAt (bodyOf Try.f72) [1, 0, 1, 0, 0]), .inBlock 0, .code (cAt (bodyOf Try.f72) [1, 1])] (S_markGainBarS v m k) [0] 1 [(0, ⟨false, 4, v.1, fun i => [.p (.int .i64 (m + 4 * (i : Int))), .p (.int .i64 (m + 4 * (i : Int) + 1)), .p (.int .i64 (m + 4 * (i : Int) + 2)), .p (.int .i64 (m + 4 * (i : Int) + 3))]⟩)] (.p (.int .i64 (m + 4 * (v.1 : Int)))) =
    some [((decide ((↑k : Int) < (↑v.fst : Int))) = false),
  (((m + 4 * (↑k : Int)) : Int) = (m + 4 * (↑v.fst : Int))),
  ((4 : Nat) = 4),
  (((v.fst) : Nat) ≤ (v.fst)),
  (∀ i : Nat, ((((i) : Nat) < (v.fst)) → (All [] ∧ (([.p (.int .i64 (if i < k then m + 4 * (↑i : Int) else (v.snd i).fst)), .p (.int .i64 (if i < k then m + 4 * (↑i : Int) + 1 else (v.snd i).snd.fst)), .p (.int .i64 (if i < k then m + 4 * (↑i : Int) + 2 else (v.snd i).snd.snd.fst)), .p (.int .i64 (if i < k then m + 4 * (↑i : Int) + 3 else (v.snd i).snd.snd.snd.fst))] : List AV) = [.p (.int .i64 (m + 4 * (↑i : Int))), .p (.int .i64 (m + 4 * (↑i : Int) + 1)), .p (.int .i64 (m + 4 * (↑i : Int) + 2)), .p (.int .i64 (m + 4 * (↑i : Int) + 3))])))),
  (∀ i : Nat, ((((i) : Nat) < (v.fst)) → All []))] := by kernel_rfl

theorem p_markGainGraph (v : T_GainGraph) (m : Int) :
    pathOb Try.prog Try.f26 1 [.reg [oT, oT], .reg [oT, oT, oT, ⟨true, (some ⟨[0], [], 1, [(0, ⟨false, 4, v.2.1.1, fun i => [.p (.int .i64 (m + 4 * (i : Int))), .p (.int .i64 (m + 4 * (i : Int) + 1)), .p (.int .i64 (m + 4 * (i : Int) + 2)), .p (.int .i64 (m + 4 * (i : Int) + 3))]⟩)], .p (.int .i64 (m + 4 * (v.2.1.1 : Int)))⟩), none⟩, oT], .reg [oT, oT]] [.code (bodyOf Try.f26)] (start Try.f26 [(0, ⟨false, 4, v.2.1.1, fun i => [.p (.int .i64 ((v.2.1.2 i).1)), .p (.int .i64 ((v.2.1.2 i).2.1)), .p (.int .i64 ((v.2.1.2 i).2.2.1)), .p (.int .i64 ((v.2.1.2 i).2.2.2.1))]⟩)] 1 [.agg [.p (.int .i64 (v.1)), .ar 4 0 0 v.2.1.1], .p (.int .i64 m)]) [0] 1 [(0, ⟨false, 4, v.2.1.1, fun i => [.p (.int .i64 (m + 4 * (i : Int))), .p (.int .i64 (m + 4 * (i : Int) + 1)), .p (.int .i64 (m + 4 * (i : Int) + 2)), .p (.int .i64 (m + 4 * (i : Int) + 3))]⟩)] (.p (.int .i64 (m + 4 * (v.2.1.1 : Int)))) =
    some [((0 : Nat) < 1),
  (∀ i : Nat, ((((i) : Nat) < (v.snd.fst.fst)) → All [])),
  Con (Try.prog) 72 1 [(0, ⟨false, 4, (v.snd.fst.fst), (fun i => [.p (.int .i64 ((v.snd.fst.snd i).fst)), .p (.int .i64 ((v.snd.fst.snd i).snd.fst)), .p (.int .i64 ((v.snd.fst.snd i).snd.snd.fst)), .p (.int .i64 ((v.snd.fst.snd i).snd.snd.snd.fst))])⟩)] [.ar 4 0 0 (v.snd.fst.fst), .p (.int .i64 (m))] [(0, ⟨false, 4, (v.snd.fst.fst), (fun i => [.p (.int .i64 (m + 4 * (↑i : Int))), .p (.int .i64 (m + 4 * (↑i : Int) + 1)), .p (.int .i64 (m + 4 * (↑i : Int) + 2)), .p (.int .i64 (m + 4 * (↑i : Int) + 3))])⟩)] (.p (.int .i64 (m + 4 * (↑v.snd.fst.fst : Int)))),
  (((m + 4 * (↑v.snd.fst.fst : Int)) : Int) = (m + 4 * (↑v.snd.fst.fst : Int))),
  ((4 : Nat) = 4),
  (((v.snd.fst.fst) : Nat) ≤ (v.snd.fst.fst)),
  (∀ i : Nat, ((((i) : Nat) < (v.snd.fst.fst)) → (All [] ∧ (([.p (.int .i64 (m + 4 * (↑i : Int))), .p (.int .i64 (m + 4 * (↑i : Int) + 1)), .p (.int .i64 (m + 4 * (↑i : Int) + 2)), .p (.int .i64 (m + 4 * (↑i : Int) + 3))] : List AV) = [.p (.int .i64 (m + 4 * (↑i : Int))), .p (.int .i64 (m + 4 * (↑i : Int) + 1)), .p (.int .i64 (m + 4 * (↑i : Int) + 2)), .p (.int .i64 (m + 4 * (↑i : Int) + 3))])))),
  (∀ i : Nat, ((((i) : Nat) < (v.snd.fst.fst)) → All []))] := by kernel_rfl

theorem con_szBarS (v : T_BarS) (k : okS s_BarS v) (m : Int) (h0 : 0 ≤ m) (h1 : m ≤ 1048576) : Con Try.prog 36 0 [] [.p (.seq true 2 (v.1) (fun i => [.int .i64 ((v.2 i).1), .int .i64 ((v.2 i).2.1)])), .p (.int .i64 m)] [] (.p (.int .i64 (f_szBarS v m))) := by
  refine con_start Try.func36 rfl (by kernel_rfl) rfl (fun c hc => ?_)
  have hn := k.1
  by_cases h : m - v.1 < 0
  · rw [show f_szBarS v m = -1 by simp [f_szBarS, h]]
    refine path_ok mixed Try.func36 hc (p_szBarS_a v m) ?_
    simp only [All]
    repeat' (first | exact trivial | with_reducible apply And.intro)
    all_goals (first | omega | rfl | (intros; first | assumption | exact True.intro | rfl | exact absurd (show false = true by assumption) Bool.false_ne_true | ((repeat' (first | assumption | apply anda | apply notf)); done)) | (simp; omega))
  · rw [show f_szBarS v m = m - v.1 by simp [f_szBarS, h]]
    refine path_ok mixed Try.func36 hc (p_szBarS_b v m) ?_
    simp only [All]
    repeat' (first | exact trivial | with_reducible apply And.intro)
    all_goals (first | omega | rfl | (intros; first | assumption | exact True.intro | rfl | exact absurd (show false = true by assumption) Bool.false_ne_true | ((repeat' (first | assumption | apply anda | apply notf)); done)) | (simp; omega))

theorem le_szBarS (v : T_BarS) (m : Int) (h0 : 0 ≤ m) : f_szBarS v m ≤ m := by
  unfold f_szBarS; split <;> omega

theorem sm_szBarS (v : T_BarS) (m : Int) (h1 : m ≤ 1048576) (h : ¬ f_szBarS v m < 0) : smS s_BarS v := by
  unfold f_szBarS at h
  split at h
  · omega
  · exact ⟨by omega, fun i hi => by simp [smS, smL]⟩

theorem con_szGraph (v : T_Graph) (k : okS s_Graph v) (m : Int) (h0 : 0 ≤ m) (h1 : m ≤ 1048576) : Con Try.prog 9 0 [] [.agg [.p (.int .i64 (v.1)), .p (.seq true 2 (v.2.1.1) (fun i => [.int .i64 ((v.2.1.2 i).1), .int .i64 ((v.2.1.2 i).2.1)]))], .p (.int .i64 m)] [] (.p (.int .i64 (f_szGraph v m))) := by
  refine con_start Try.func9 rfl (by kernel_rfl) rfl (fun c hc => ?_)
  have l0 := le_szBarS v.2.1 m (by omega)
  by_cases g0 : (f_szBarS v.2.1 m) < 0
  · rw [show f_szGraph v m = -1 by simp [f_szGraph, g0]]
    refine path_ok mixed Try.func9 hc (p_szGraph_0 v m) ?_
    simp only [All]
    repeat' (first | exact trivial | with_reducible apply And.intro)
    all_goals (first | omega | rfl | (intros; first | assumption | exact True.intro | rfl | exact absurd (show false = true by assumption) Bool.false_ne_true | ((repeat' (first | assumption | apply anda | apply notf)); done)) | (exact con_szBarS v.2.1 k.2.1 m (by omega) (by omega)) | (simp; omega))
  rw [show f_szGraph v m = (f_szBarS v.2.1 m) by simp [f_szGraph, g0]]
  refine path_ok mixed Try.func9 hc (p_szGraph_e v m) ?_
  simp only [All]
  repeat' (first | exact trivial | with_reducible apply And.intro)
  all_goals (first | omega | rfl | (intros; first | assumption | exact True.intro | rfl | exact absurd (show false = true by assumption) Bool.false_ne_true | ((repeat' (first | assumption | apply anda | apply notf)); done)) | (exact con_szBarS v.2.1 k.2.1 m (by omega) (by omega)) | (simp; omega))

theorem le_szGraph (v : T_Graph) (m : Int) (h0 : 0 ≤ m) : f_szGraph v m ≤ m := by
  have l0 := le_szBarS v.2.1 m h0
  by_cases g0 : (f_szBarS v.2.1 m) < 0
  · simp only [f_szGraph, g0, if_true, if_false]; omega
  simp only [f_szGraph, g0, if_false]; omega

theorem sm_szGraph (v : T_Graph) (m : Int) (h0 : 0 ≤ m) (h1 : m ≤ 1048576) (h : ¬ f_szGraph v m < 0) : smS s_Graph v := by
  have l0 := le_szBarS v.2.1 m (by omega)
  have g0 : ¬ (f_szBarS v.2.1 m) < 0 := by
    intro g; apply h; simp only [f_szGraph, g, if_true, if_false]; omega
  exact ⟨by simp [smS, smL], sm_szBarS v.2.1 m (by omega) g0, True.intro⟩

theorem con_toBar (v : T_Bar) (hs : smS s_Bar v) : Con Try.prog 103 0 [] [.agg [.p (.int .i64 (v.1)), .p (.int .i64 (v.2.1))]] [] (.agg [.p (.int .i64 (v.1)), .p (.int .i64 (v.2.1))]) := by
  refine con_start Try.func103 rfl (by kernel_rfl) rfl (fun c hc => ?_)
  refine path_ok mixed Try.func103 hc (p_toBar v) ?_
  simp only [All]
  repeat' (first | exact trivial | with_reducible apply And.intro)
  all_goals (first | omega | rfl | (intros; first | assumption | exact True.intro | rfl | exact absurd (show false = true by assumption) Bool.false_ne_true | ((repeat' (first | assumption | apply anda | apply notf)); done)) | (intro i hi; simp [hi, All]))

theorem con_toBarS (v : T_BarS) (hs : smS s_BarS v) : Con Try.prog 45 0 [] [.p (.seq true 2 (v.1) (fun i => [.int .i64 ((v.2 i).1), .int .i64 ((v.2 i).2.1)]))] [(0, ⟨false, 2, v.1, fun i => [.p (.int .i64 ((v.2 i).1)), .p (.int .i64 ((v.2 i).2.1))]⟩)] (.ar 2 0 0 (v.1)) := by
  refine con_start Try.func45 rfl (by kernel_rfl) rfl (fun c hc => ?_)
  have hn := hs.1
  have lp : ∀ m k, k + m = v.1 → Run Try.prog c 45 [.code (cAt (bodyOf Try.f45) [1, 1, 0, 1, 0, 0]), .inLoop (cAt (bodyOf Try.f45) [1, 1, 0, 1, 0, 0]), .inBlock 0, .code (cAt (bodyOf Try.f45) [1, 1, 1])] (S_toBarS v k) (Post c [(0, ⟨false, 2, v.1, fun i => [.p (.int .i64 ((v.2 i).1)), .p (.int .i64 ((v.2 i).2.1))]⟩)] (.ar 2 0 0 (v.1))) := by
    intro m
    induction m with
    | zero =>
      intro k hk
      refine path_ok mixed Try.func45 hc (p_toBarS_c v k) ?_
      simp only [All]
      repeat' (first | exact trivial | with_reducible apply And.intro)
      all_goals (first | omega | rfl | (intros; first | assumption | exact True.intro | rfl | exact absurd (show false = true by assumption) Bool.false_ne_true | ((repeat' (first | assumption | apply anda | apply notf)); done)) | (intro i hi; (have hik : i < k := by omega); simp [hik, All]) | (simp; try omega))
    | succ m ih =>
      intro k hk
      have hlt : decide ((k : Int) < (v.1 : Int)) = true := by simp; omega
      refine piece_ok mixed hc (p_toBarS_b v k) ?_ (ih (k + 1) (by omega))
      simp only [All]
      repeat' (first | exact trivial | with_reducible apply And.intro)
      all_goals (first | omega | rfl | (intros; first | assumption | exact True.intro | rfl | exact absurd (show false = true by assumption) Bool.false_ne_true | ((repeat' (first | assumption | apply anda | apply notf)); done)) | (exact con_toBar (v.2 k) (hs.2 k (by omega))) | (intro i hi; by_cases h : i = k <;> simp [h, Nat.lt_succ_iff_lt_or_eq, cvtL, cvt, tg, tru, All]))
  refine piece_ok mixed hc (p_toBarS_a v) ?_ (lp v.1 0 (by omega))
  simp only [All]
  repeat' (first | exact trivial | with_reducible apply And.intro)
  all_goals (first | omega | rfl | (intros; first | assumption | exact True.intro | rfl | exact absurd (show false = true by assumption) Bool.false_ne_true | ((repeat' (first | assumption | apply anda | apply notf)); done)) | (intro i hi; simp [All]))

theorem con_toGraph (v : T_Graph) (hs : smS s_Graph v) : Con Try.prog 11 0 [] [.agg [.p (.int .i64 (v.1)), .p (.seq true 2 (v.2.1.1) (fun i => [.int .i64 ((v.2.1.2 i).1), .int .i64 ((v.2.1.2 i).2.1)]))]] [(0, ⟨false, 2, v.2.1.1, fun i => [.p (.int .i64 ((v.2.1.2 i).1)), .p (.int .i64 ((v.2.1.2 i).2.1))]⟩)] (.agg [.p (.int .i64 (v.1)), .ar 2 0 0 (v.2.1.1)]) := by
  refine con_start Try.func11 rfl (by kernel_rfl) rfl (fun c hc => ?_)
  refine path_ok mixed Try.func11 hc (p_toGraph v) ?_
  simp only [All]
  repeat' (first | exact trivial | with_reducible apply And.intro)
  all_goals (first | omega | rfl | (intros; first | assumption | exact True.intro | rfl | exact absurd (show false = true by assumption) Bool.false_ne_true | ((repeat' (first | assumption | apply anda | apply notf)); done)) | (exact con_toBarS v.2.1 hs.2.1) | (intro i hi; simp [hi, All]))

theorem con_eqBar (v : T_Bar) (hs : smS s_Bar v) : Con Try.prog 109 0 [] [.agg [.p (.int .i64 (v.1)), .p (.int .i64 (v.2.1))], .agg [.p (.int .i64 (v.1)), .p (.int .i64 (v.2.1))]] [] (.p (.bool true)) := by
  refine con_start Try.func109 rfl (by kernel_rfl) rfl (fun c hc => ?_)
  refine path_ok mixed Try.func109 hc (p_eqBar v) ?_
  simp only [All]
  repeat' (first | exact trivial | with_reducible apply And.intro)
  all_goals (first | omega | rfl | (intros; first | assumption | exact True.intro | rfl | exact absurd (show false = true by assumption) Bool.false_ne_true | ((repeat' (first | assumption | apply anda | apply notf)); done)) | simp)

theorem con_eqBarS (v : T_BarS) (hs : smS s_BarS v) : Con Try.prog 55 0 [] [.p (.seq true 2 (v.1) (fun i => [.int .i64 ((v.2 i).1), .int .i64 ((v.2 i).2.1)])), .p (.seq true 2 (v.1) (fun i => [.int .i64 ((v.2 i).1), .int .i64 ((v.2 i).2.1)]))] [] (.p (.bool true)) := by
  refine con_start Try.func55 rfl (by kernel_rfl) rfl (fun c hc => ?_)
  have hn := hs.1
  have lp : ∀ m k, k + m = v.1 → Run Try.prog c 55 [.code (cAt (bodyOf Try.f55) [1, 1, 0, 1, 0, 0]), .inLoop (cAt (bodyOf Try.f55) [1, 1, 0, 1, 0, 0]), .inBlock 0, .code (cAt (bodyOf Try.f55) [1, 1, 1])] (S_eqBarS v k) (Post c [] (.p (.bool true))) := by
    intro m
    induction m with
    | zero =>
      intro k hk
      refine path_ok mixed Try.func55 hc (p_eqBarS_c v k) ?_
      simp only [All]
      repeat' (first | exact trivial | with_reducible apply And.intro)
      all_goals (first | omega | rfl | (intros; first | assumption | exact True.intro | rfl | exact absurd (show false = true by assumption) Bool.false_ne_true | ((repeat' (first | assumption | apply anda | apply notf)); done)) | (simp; try omega))
    | succ m ih =>
      intro k hk
      have hlt : decide ((k : Int) < (v.1 : Int)) = true := by simp; omega
      refine piece_ok mixed hc (p_eqBarS_b v k) ?_ (ih (k + 1) (by omega))
      simp only [All]
      repeat' (first | exact trivial | with_reducible apply And.intro)
      all_goals (first | omega | rfl | (intros; first | assumption | exact True.intro | rfl | exact absurd (show false = true by assumption) Bool.false_ne_true | ((repeat' (first | assumption | apply anda | apply notf)); done)) | (exact con_eqBar (v.2 k) (hs.2 k (by omega))) | simp)
  refine piece_ok mixed hc (p_eqBarS_a v) ?_ (lp v.1 0 (by omega))
  simp only [All]
  repeat' (first | exact trivial | with_reducible apply And.intro)
  all_goals (first | omega | rfl | (intros; first | assumption | exact True.intro | rfl | exact absurd (show false = true by assumption) Bool.false_ne_true | ((repeat' (first | assumption | apply anda | apply notf)); done)) | simp)

theorem con_eqGraph (v : T_Graph) (hs : smS s_Graph v) : Con Try.prog 13 0 [] [.agg [.p (.int .i64 (v.1)), .p (.seq true 2 (v.2.1.1) (fun i => [.int .i64 ((v.2.1.2 i).1), .int .i64 ((v.2.1.2 i).2.1)]))], .agg [.p (.int .i64 (v.1)), .p (.seq true 2 (v.2.1.1) (fun i => [.int .i64 ((v.2.1.2 i).1), .int .i64 ((v.2.1.2 i).2.1)]))]] [] (.p (.bool true)) := by
  refine con_start Try.func13 rfl (by kernel_rfl) rfl (fun c hc => ?_)
  refine path_ok mixed Try.func13 hc (p_eqGraph v) ?_
  simp only [All]
  repeat' (first | exact trivial | with_reducible apply And.intro)
  all_goals (first | omega | rfl | (intros; first | assumption | exact True.intro | rfl | exact absurd (show false = true by assumption) Bool.false_ne_true | ((repeat' (first | assumption | apply anda | apply notf)); done)) | (exact con_eqBarS v.2.1 hs.2.1) | simp)

theorem con_toIntS (v : T_IntS) (hs : smS s_IntS v) : Con Try.prog 15 0 [] [.p (.seq true 1 (v.1) (fun i => [.int .i64 ((v.2 i))]))] [(0, ⟨false, 1, v.1, fun i => [.p (.int .i64 ((v.2 i)))]⟩)] (.ar 1 0 0 (v.1)) := by
  refine con_start Try.func15 rfl (by kernel_rfl) rfl (fun c hc => ?_)
  have hn := hs.1
  have lp : ∀ m k, k + m = v.1 → Run Try.prog c 15 [.code (cAt (bodyOf Try.f15) [1, 1, 0, 1, 0, 0]), .inLoop (cAt (bodyOf Try.f15) [1, 1, 0, 1, 0, 0]), .inBlock 0, .code (cAt (bodyOf Try.f15) [1, 1, 1])] (S_toIntS v k) (Post c [(0, ⟨false, 1, v.1, fun i => [.p (.int .i64 ((v.2 i)))]⟩)] (.ar 1 0 0 (v.1))) := by
    intro m
    induction m with
    | zero =>
      intro k hk
      refine path_ok mixed Try.func15 hc (p_toIntS_c v k) ?_
      simp only [All]
      repeat' (first | exact trivial | with_reducible apply And.intro)
      all_goals (first | omega | rfl | (intros; first | assumption | exact True.intro | rfl | exact absurd (show false = true by assumption) Bool.false_ne_true | ((repeat' (first | assumption | apply anda | apply notf)); done)) | (intro i hi; (have hik : i < k := by omega); simp [hik, All]) | (simp; try omega))
    | succ m ih =>
      intro k hk
      have hlt : decide ((k : Int) < (v.1 : Int)) = true := by simp; omega
      refine piece_ok mixed hc (p_toIntS_b v k) ?_ (ih (k + 1) (by omega))
      simp only [All]
      repeat' (first | exact trivial | with_reducible apply And.intro)
      all_goals (first | omega | rfl | (intros; first | assumption | exact True.intro | rfl | exact absurd (show false = true by assumption) Bool.false_ne_true | ((repeat' (first | assumption | apply anda | apply notf)); done)) | (intro i hi; by_cases h : i = k <;> simp [h, Nat.lt_succ_iff_lt_or_eq, cvtL, cvt, tg, tru, All]))
  refine piece_ok mixed hc (p_toIntS_a v) ?_ (lp v.1 0 (by omega))
  simp only [All]
  repeat' (first | exact trivial | with_reducible apply And.intro)
  all_goals (first | omega | rfl | (intros; first | assumption | exact True.intro | rfl | exact absurd (show false = true by assumption) Bool.false_ne_true | ((repeat' (first | assumption | apply anda | apply notf)); done)) | (intro i hi; simp [All]))

theorem con_eqIntS (v : T_IntS) (hs : smS s_IntS v) : Con Try.prog 17 0 [] [.p (.seq true 1 (v.1) (fun i => [.int .i64 ((v.2 i))])), .p (.seq true 1 (v.1) (fun i => [.int .i64 ((v.2 i))]))] [] (.p (.bool true)) := by
  refine con_start Try.func17 rfl (by kernel_rfl) rfl (fun c hc => ?_)
  have hn := hs.1
  have lp : ∀ m k, k + m = v.1 → Run Try.prog c 17 [.code (cAt (bodyOf Try.f17) [1, 1, 0, 1, 0, 0]), .inLoop (cAt (bodyOf Try.f17) [1, 1, 0, 1, 0, 0]), .inBlock 0, .code (cAt (bodyOf Try.f17) [1, 1, 1])] (S_eqIntS v k) (Post c [] (.p (.bool true))) := by
    intro m
    induction m with
    | zero =>
      intro k hk
      refine path_ok mixed Try.func17 hc (p_eqIntS_c v k) ?_
      simp only [All]
      repeat' (first | exact trivial | with_reducible apply And.intro)
      all_goals (first | omega | rfl | (intros; first | assumption | exact True.intro | rfl | exact absurd (show false = true by assumption) Bool.false_ne_true | ((repeat' (first | assumption | apply anda | apply notf)); done)) | (simp; try omega))
    | succ m ih =>
      intro k hk
      have hlt : decide ((k : Int) < (v.1 : Int)) = true := by simp; omega
      refine piece_ok mixed hc (p_eqIntS_b v k) ?_ (ih (k + 1) (by omega))
      simp only [All]
      repeat' (first | exact trivial | with_reducible apply And.intro)
      all_goals (first | omega | rfl | (intros; first | assumption | exact True.intro | rfl | exact absurd (show false = true by assumption) Bool.false_ne_true | ((repeat' (first | assumption | apply anda | apply notf)); done)) | simp)
  refine piece_ok mixed hc (p_eqIntS_a v) ?_ (lp v.1 0 (by omega))
  simp only [All]
  repeat' (first | exact trivial | with_reducible apply And.intro)
  all_goals (first | omega | rfl | (intros; first | assumption | exact True.intro | rfl | exact absurd (show false = true by assumption) Bool.false_ne_true | ((repeat' (first | assumption | apply anda | apply notf)); done)) | simp)

theorem con_markIntS (v : T_IntS) (m : Int) (hn : v.1 ≤ 1048576) (h0 : 0 ≤ m) (h1 : m ≤ 1099511627776) : Con Try.prog 19 1 [(0, ⟨false, 1, v.1, fun i => [.p (.int .i64 ((v.2 i)))]⟩)] [.ar 1 0 0 v.1, .p (.int .i64 m)] [(0, ⟨false, 1, v.1, fun i => [.p (.int .i64 (m + (i : Int)))]⟩)] (.p (.int .i64 (m + (v.1 : Int)))) := by
  refine con_start Try.func19 rfl (by kernel_rfl) rfl (fun c hc => ?_)
  have lp : ∀ q j, j + q = v.1 → Run Try.prog c 19 [.code (cAt (bodyOf Try.f19) [1, 0, 1, 0, 0]), .inLoop (cAt (bodyOf Try.f19) [1, 0, 1, 0, 0]), .inBlock 0, .code (cAt (bodyOf Try.f19) [1, 1])] (S_markIntS v m j) (Post c [(0, ⟨false, 1, v.1, fun i => [.p (.int .i64 (m + (i : Int)))]⟩)] (.p (.int .i64 (m + (v.1 : Int))))) := by
    intro q
    induction q with
    | zero =>
      intro j hj
      have e : j = v.1 := by omega
      have hd : decide ((j : Int) < (v.1 : Int)) = false := by simp; omega
      refine path_ok mixed Try.func19 hc (p_markIntS_c v m j) ?_
      simp only [All]
      repeat' (first | exact trivial | with_reducible apply And.intro)
      all_goals (first | omega | rfl | (intros; first | assumption | exact True.intro | rfl | exact absurd (show false = true by assumption) Bool.false_ne_true | ((repeat' (first | assumption | apply anda | apply notf)); done)) | (intro i hi; (have hik : i < j := by omega); simp [hik, All]) | (simp; try omega))
    | succ q ih =>
      intro j hj
      have hlt : decide ((j : Int) < (v.1 : Int)) = true := by simp; omega
      refine piece_ok mixed hc (p_markIntS_b0 v m j) ?_ (ih (j + 1) (by omega))
      ·
        simp only [All]
        repeat' (first | exact trivial | with_reducible apply And.intro)
        all_goals (first | omega | rfl | (intros; first | assumption | exact True.intro | rfl | exact absurd (show false = true by assumption) Bool.false_ne_true | ((repeat' (first | assumption | apply anda | apply notf)); done)) | (intro i hi; by_cases h : i = j <;> simp [h, Nat.lt_succ_iff_lt_or_eq, cvtL, cvt, tg, tru, All]))
  refine piece_ok mixed hc (p_markIntS_a v m) ?_ (lp v.1 0 (by omega))
  simp only [All]
  repeat' (first | exact trivial | with_reducible apply And.intro)
  all_goals (first | omega | rfl | (intros; first | assumption | exact True.intro | rfl | exact absurd (show false = true by assumption) Bool.false_ne_true | ((repeat' (first | assumption | apply anda | apply notf)); done)) | (intro i hi; simp [All]))

theorem con_markBarS (v : T_BarS) (m : Int) (hn : v.1 ≤ 1048576) (h0 : 0 ≤ m) (h1 : m ≤ 1099511627776) : Con Try.prog 64 1 [(0, ⟨false, 2, v.1, fun i => [.p (.int .i64 ((v.2 i).1)), .p (.int .i64 ((v.2 i).2.1))]⟩)] [.ar 2 0 0 v.1, .p (.int .i64 m)] [(0, ⟨false, 2, v.1, fun i => [.p (.int .i64 (m + 2 * (i : Int))), .p (.int .i64 (m + 2 * (i : Int) + 1))]⟩)] (.p (.int .i64 (m + 2 * (v.1 : Int)))) := by
  refine con_start Try.func64 rfl (by kernel_rfl) rfl (fun c hc => ?_)
  have lp : ∀ q j, j + q = v.1 → Run Try.prog c 64 [.code (cAt (bodyOf Try.f64) [1, 0, 1, 0, 0]), .inLoop (cAt (bodyOf Try.f64) [1, 0, 1, 0, 0]), .inBlock 0, .code (cAt (bodyOf Try.f64) [1, 1])] (S_markBarS v m j) (Post c [(0, ⟨false, 2, v.1, fun i => [.p (.int .i64 (m + 2 * (i : Int))), .p (.int .i64 (m + 2 * (i : Int) + 1))]⟩)] (.p (.int .i64 (m + 2 * (v.1 : Int))))) := by
    intro q
    induction q with
    | zero =>
      intro j hj
      have e : j = v.1 := by omega
      have hd : decide ((j : Int) < (v.1 : Int)) = false := by simp; omega
      refine path_ok mixed Try.func64 hc (p_markBarS_c v m j) ?_
      simp only [All]
      repeat' (first | exact trivial | with_reducible apply And.intro)
      all_goals (first | omega | rfl | (intros; first | assumption | exact True.intro | rfl | exact absurd (show false = true by assumption) Bool.false_ne_true | ((repeat' (first | assumption | apply anda | apply notf)); done)) | (intro i hi; (have hik : i < j := by omega); simp [hik, All]) | (simp; try omega))
    | succ q ih =>
      intro j hj
      have hlt : decide ((j : Int) < (v.1 : Int)) = true := by simp; omega
      refine piece_ok mixed hc (p_markBarS_b0 v m j) ?_ ?_
      ·
        simp only [All]
        repeat' (first | exact trivial | with_reducible apply And.intro)
        all_goals (first | omega | rfl | (intros; first | assumption | exact True.intro | rfl | exact absurd (show false = true by assumption) Bool.false_ne_true | ((repeat' (first | assumption | apply anda | apply notf)); done)) | (intro i hi; by_cases h : i = j <;> simp [h, Nat.lt_succ_iff_lt_or_eq, cvtL, cvt, tg, tru, All]))
      refine piece_ok mixed hc (p_markBarS_b1 v m j) ?_ (ih (j + 1) (by omega))
      ·
        simp only [All]
        repeat' (first | exact trivial | with_reducible apply And.intro)
        all_goals (first | omega | rfl | (intros; first | assumption | exact True.intro | rfl | exact absurd (show false = true by assumption) Bool.false_ne_true | ((repeat' (first | assumption | apply anda | apply notf)); done)) | (intro i hi; by_cases h : i = j <;> simp [h, Nat.lt_succ_iff_lt_or_eq, cvtL, cvt, tg, tru, All]))
  refine piece_ok mixed hc (p_markBarS_a v m) ?_ (lp v.1 0 (by omega))
  simp only [All]
  repeat' (first | exact trivial | with_reducible apply And.intro)
  all_goals (first | omega | rfl | (intros; first | assumption | exact True.intro | rfl | exact absurd (show false = true by assumption) Bool.false_ne_true | ((repeat' (first | assumption | apply anda | apply notf)); done)) | (intro i hi; simp [All]))

theorem con_markGraph (v : T_Graph) (m : Int) (h_0 : v.2.1.1 ≤ 1048576) (h0 : 0 ≤ m) (h1 : m ≤ 1099494850560) : Con Try.prog 18 1 [(0, ⟨false, 2, v.2.1.1, fun i => [.p (.int .i64 ((v.2.1.2 i).1)), .p (.int .i64 ((v.2.1.2 i).2.1))]⟩)] [.agg [.p (.int .i64 (v.1)), .ar 2 0 0 v.2.1.1], .p (.int .i64 m)] [(0, ⟨false, 2, v.2.1.1, fun i => [.p (.int .i64 (m + 2 * (i : Int))), .p (.int .i64 (m + 2 * (i : Int) + 1))]⟩)] (.p (.int .i64 (m + 2 * (v.2.1.1 : Int)))) := by
  refine con_start Try.func18 rfl (by kernel_rfl) rfl (fun c hc => ?_)
  refine path_ok mixed Try.func18 hc (p_markGraph v m) ?_
  simp only [All]
  repeat' (first | exact trivial | with_reducible apply And.intro)
  all_goals (first | omega | rfl | (intros; first | assumption | exact True.intro | rfl | exact absurd (show false = true by assumption) Bool.false_ne_true | ((repeat' (first | assumption | apply anda | apply notf)); done)) | (exact con_markBarS v.2.1 _ h_0 (by omega) (by omega)) | (intro i hi; simp [All]))

theorem con_heldBarS (n : Nat) (m : Int) (hn : n ≤ 1048576) (h0 : 0 ≤ m) (h1 : m ≤ 1099511627776) : Con Try.prog 65 0 [] [.p (.seq true 2 n (fun i => [.int .i64 (m + 2 * (i : Int)), .int .i64 (m + 2 * (i : Int) + 1)])), .p (.int .i64 m)] [] (.p (.int .i64 (m + 2 * (n : Int)))) := by
  refine con_start Try.func65 rfl (by kernel_rfl) rfl (fun c hc => ?_)
  have lp : ∀ q j, j + q = n → Run Try.prog c 65 [.code (cAt (bodyOf Try.f65) [1, 0, 1, 0, 0]), .inLoop (cAt (bodyOf Try.f65) [1, 0, 1, 0, 0]), .inBlock 0, .code (cAt (bodyOf Try.f65) [1, 1])] (S_heldBarS n m j) (Post c [] (.p (.int .i64 (m + 2 * (n : Int))))) := by
    intro q
    induction q with
    | zero =>
      intro j hj
      have hd : decide ((j : Int) < (n : Int)) = false := by simp; omega
      refine path_ok mixed Try.func65 hc (p_heldBarS_c n m j) ?_
      simp only [All]
      repeat' (first | exact trivial | with_reducible apply And.intro)
      all_goals (first | omega | rfl | (intros; first | assumption | exact True.intro | rfl | exact absurd (show false = true by assumption) Bool.false_ne_true | ((repeat' (first | assumption | apply anda | apply notf)); done)) | (simp; try omega))
    | succ q ih =>
      intro j hj
      have hlt : decide ((j : Int) < (n : Int)) = true := by simp; omega
      refine piece_ok mixed hc (p_heldBarS_b n m j) ?_ (ih (j + 1) (by omega))
      simp only [All]
      repeat' (first | exact trivial | with_reducible apply And.intro)
      all_goals (first | omega | rfl | (intros; first | assumption | exact True.intro | rfl | exact absurd (show false = true by assumption) Bool.false_ne_true | ((repeat' (first | assumption | apply anda | apply notf)); done)) | (simp; done) | (simp; omega))
  refine piece_ok mixed hc (p_heldBarS_a n m) ?_ (lp n 0 (by omega))
  simp only [All]
  repeat' (first | exact trivial | with_reducible apply And.intro)
  all_goals (first | omega | rfl | (intros; first | assumption | exact True.intro | rfl | exact absurd (show false = true by assumption) Bool.false_ne_true | ((repeat' (first | assumption | apply anda | apply notf)); done)) | simp)

theorem con_heldGraph (v : T_Graph) (m : Int) (h_0 : v.2.1.1 ≤ 1048576) (h0 : 0 ≤ m) (h1 : m ≤ 1099494850560) : Con Try.prog 20 0 [] [.agg [.p (.int .i64 (v.1)), .p (.seq true 2 v.2.1.1 (fun i => [.int .i64 (m + 2 * (i : Int)), .int .i64 (m + 2 * (i : Int) + 1)]))], .p (.int .i64 m)] [] (.p (.int .i64 (m + 2 * (v.2.1.1 : Int)))) := by
  refine con_start Try.func20 rfl (by kernel_rfl) rfl (fun c hc => ?_)
  refine path_ok mixed Try.func20 hc (p_heldGraph v m) ?_
  simp only [All]
  repeat' (first | exact trivial | with_reducible apply And.intro)
  all_goals (first | omega | rfl | (intros; first | assumption | exact True.intro | rfl | exact absurd (show false = true by assumption) Bool.false_ne_true | ((repeat' (first | assumption | apply anda | apply notf)); done)) | (exact con_heldBarS v.2.1.1 _ h_0 (by omega) (by omega)) | (simp; omega))

theorem con_szGainBarS (v : T_GainBarS) (k : okS s_GainBarS v) (m : Int) (h0 : 0 ≤ m) (h1 : m ≤ 1048576) : Con Try.prog 66 0 [] [.p (.seq true 4 (v.1) (fun i => [.int .i64 ((v.2 i).1), .int .i64 ((v.2 i).2.1), .int .i64 ((v.2 i).2.2.1), .int .i64 ((v.2 i).2.2.2.1)])), .p (.int .i64 m)] [] (.p (.int .i64 (f_szGainBarS v m))) := by
  refine con_start Try.func66 rfl (by kernel_rfl) rfl (fun c hc => ?_)
  have hn := k.1
  by_cases h : m - v.1 < 0
  · rw [show f_szGainBarS v m = -1 by simp [f_szGainBarS, h]]
    refine path_ok mixed Try.func66 hc (p_szGainBarS_a v m) ?_
    simp only [All]
    repeat' (first | exact trivial | with_reducible apply And.intro)
    all_goals (first | omega | rfl | (intros; first | assumption | exact True.intro | rfl | exact absurd (show false = true by assumption) Bool.false_ne_true | ((repeat' (first | assumption | apply anda | apply notf)); done)) | (simp; omega))
  · rw [show f_szGainBarS v m = m - v.1 by simp [f_szGainBarS, h]]
    refine path_ok mixed Try.func66 hc (p_szGainBarS_b v m) ?_
    simp only [All]
    repeat' (first | exact trivial | with_reducible apply And.intro)
    all_goals (first | omega | rfl | (intros; first | assumption | exact True.intro | rfl | exact absurd (show false = true by assumption) Bool.false_ne_true | ((repeat' (first | assumption | apply anda | apply notf)); done)) | (simp; omega))

theorem le_szGainBarS (v : T_GainBarS) (m : Int) (h0 : 0 ≤ m) : f_szGainBarS v m ≤ m := by
  unfold f_szGainBarS; split <;> omega

theorem sm_szGainBarS (v : T_GainBarS) (m : Int) (h1 : m ≤ 1048576) (h : ¬ f_szGainBarS v m < 0) : smS s_GainBarS v := by
  unfold f_szGainBarS at h
  split at h
  · omega
  · exact ⟨by omega, fun i hi => by simp [smS, smL]⟩

theorem con_szGainGraph (v : T_GainGraph) (k : okS s_GainGraph v) (m : Int) (h0 : 0 ≤ m) (h1 : m ≤ 1048576) : Con Try.prog 21 0 [] [.agg [.p (.int .i64 (v.1)), .p (.seq true 4 (v.2.1.1) (fun i => [.int .i64 ((v.2.1.2 i).1), .int .i64 ((v.2.1.2 i).2.1), .int .i64 ((v.2.1.2 i).2.2.1), .int .i64 ((v.2.1.2 i).2.2.2.1)]))], .p (.int .i64 m)] [] (.p (.int .i64 (f_szGainGraph v m))) := by
  refine con_start Try.func21 rfl (by kernel_rfl) rfl (fun c hc => ?_)
  have l0 := le_szGainBarS v.2.1 m (by omega)
  by_cases g0 : (f_szGainBarS v.2.1 m) < 0
  · rw [show f_szGainGraph v m = -1 by simp [f_szGainGraph, g0]]
    refine path_ok mixed Try.func21 hc (p_szGainGraph_0 v m) ?_
    simp only [All]
    repeat' (first | exact trivial | with_reducible apply And.intro)
    all_goals (first | omega | rfl | (intros; first | assumption | exact True.intro | rfl | exact absurd (show false = true by assumption) Bool.false_ne_true | ((repeat' (first | assumption | apply anda | apply notf)); done)) | (exact con_szGainBarS v.2.1 k.2.1 m (by omega) (by omega)) | (simp; omega))
  rw [show f_szGainGraph v m = (f_szGainBarS v.2.1 m) by simp [f_szGainGraph, g0]]
  refine path_ok mixed Try.func21 hc (p_szGainGraph_e v m) ?_
  simp only [All]
  repeat' (first | exact trivial | with_reducible apply And.intro)
  all_goals (first | omega | rfl | (intros; first | assumption | exact True.intro | rfl | exact absurd (show false = true by assumption) Bool.false_ne_true | ((repeat' (first | assumption | apply anda | apply notf)); done)) | (exact con_szGainBarS v.2.1 k.2.1 m (by omega) (by omega)) | (simp; omega))

theorem le_szGainGraph (v : T_GainGraph) (m : Int) (h0 : 0 ≤ m) : f_szGainGraph v m ≤ m := by
  have l0 := le_szGainBarS v.2.1 m h0
  by_cases g0 : (f_szGainBarS v.2.1 m) < 0
  · simp only [f_szGainGraph, g0, if_true, if_false]; omega
  simp only [f_szGainGraph, g0, if_false]; omega

theorem sm_szGainGraph (v : T_GainGraph) (m : Int) (h0 : 0 ≤ m) (h1 : m ≤ 1048576) (h : ¬ f_szGainGraph v m < 0) : smS s_GainGraph v := by
  have l0 := le_szGainBarS v.2.1 m (by omega)
  have g0 : ¬ (f_szGainBarS v.2.1 m) < 0 := by
    intro g; apply h; simp only [f_szGainGraph, g, if_true, if_false]; omega
  exact ⟨by simp [smS, smL], sm_szGainBarS v.2.1 m (by omega) g0, True.intro⟩

theorem con_toGainBar (v : T_GainBar) (hs : smS s_GainBar v) : Con Try.prog 117 0 [] [.agg [.p (.int .i64 (v.1)), .p (.int .i64 (v.2.1)), .p (.int .i64 (v.2.2.1)), .p (.int .i64 (v.2.2.2.1))]] [] (.agg [.p (.int .i64 (v.1)), .p (.int .i64 (v.2.1)), .p (.int .i64 (v.2.2.1)), .p (.int .i64 (v.2.2.2.1))]) := by
  refine con_start Try.func117 rfl (by kernel_rfl) rfl (fun c hc => ?_)
  refine path_ok mixed Try.func117 hc (p_toGainBar v) ?_
  simp only [All]
  repeat' (first | exact trivial | with_reducible apply And.intro)
  all_goals (first | omega | rfl | (intros; first | assumption | exact True.intro | rfl | exact absurd (show false = true by assumption) Bool.false_ne_true | ((repeat' (first | assumption | apply anda | apply notf)); done)) | (intro i hi; simp [hi, All]))

theorem con_toGainBarS (v : T_GainBarS) (hs : smS s_GainBarS v) : Con Try.prog 68 0 [] [.p (.seq true 4 (v.1) (fun i => [.int .i64 ((v.2 i).1), .int .i64 ((v.2 i).2.1), .int .i64 ((v.2 i).2.2.1), .int .i64 ((v.2 i).2.2.2.1)]))] [(0, ⟨false, 4, v.1, fun i => [.p (.int .i64 ((v.2 i).1)), .p (.int .i64 ((v.2 i).2.1)), .p (.int .i64 ((v.2 i).2.2.1)), .p (.int .i64 ((v.2 i).2.2.2.1))]⟩)] (.ar 4 0 0 (v.1)) := by
  refine con_start Try.func68 rfl (by kernel_rfl) rfl (fun c hc => ?_)
  have hn := hs.1
  have lp : ∀ m k, k + m = v.1 → Run Try.prog c 68 [.code (cAt (bodyOf Try.f68) [1, 1, 0, 1, 0, 0]), .inLoop (cAt (bodyOf Try.f68) [1, 1, 0, 1, 0, 0]), .inBlock 0, .code (cAt (bodyOf Try.f68) [1, 1, 1])] (S_toGainBarS v k) (Post c [(0, ⟨false, 4, v.1, fun i => [.p (.int .i64 ((v.2 i).1)), .p (.int .i64 ((v.2 i).2.1)), .p (.int .i64 ((v.2 i).2.2.1)), .p (.int .i64 ((v.2 i).2.2.2.1))]⟩)] (.ar 4 0 0 (v.1))) := by
    intro m
    induction m with
    | zero =>
      intro k hk
      refine path_ok mixed Try.func68 hc (p_toGainBarS_c v k) ?_
      simp only [All]
      repeat' (first | exact trivial | with_reducible apply And.intro)
      all_goals (first | omega | rfl | (intros; first | assumption | exact True.intro | rfl | exact absurd (show false = true by assumption) Bool.false_ne_true | ((repeat' (first | assumption | apply anda | apply notf)); done)) | (intro i hi; (have hik : i < k := by omega); simp [hik, All]) | (simp; try omega))
    | succ m ih =>
      intro k hk
      have hlt : decide ((k : Int) < (v.1 : Int)) = true := by simp; omega
      refine piece_ok mixed hc (p_toGainBarS_b v k) ?_ (ih (k + 1) (by omega))
      simp only [All]
      repeat' (first | exact trivial | with_reducible apply And.intro)
      all_goals (first | omega | rfl | (intros; first | assumption | exact True.intro | rfl | exact absurd (show false = true by assumption) Bool.false_ne_true | ((repeat' (first | assumption | apply anda | apply notf)); done)) | (exact con_toGainBar (v.2 k) (hs.2 k (by omega))) | (intro i hi; by_cases h : i = k <;> simp [h, Nat.lt_succ_iff_lt_or_eq, cvtL, cvt, tg, tru, All]))
  refine piece_ok mixed hc (p_toGainBarS_a v) ?_ (lp v.1 0 (by omega))
  simp only [All]
  repeat' (first | exact trivial | with_reducible apply And.intro)
  all_goals (first | omega | rfl | (intros; first | assumption | exact True.intro | rfl | exact absurd (show false = true by assumption) Bool.false_ne_true | ((repeat' (first | assumption | apply anda | apply notf)); done)) | (intro i hi; simp [All]))

theorem con_toGainGraph (v : T_GainGraph) (hs : smS s_GainGraph v) : Con Try.prog 23 0 [] [.agg [.p (.int .i64 (v.1)), .p (.seq true 4 (v.2.1.1) (fun i => [.int .i64 ((v.2.1.2 i).1), .int .i64 ((v.2.1.2 i).2.1), .int .i64 ((v.2.1.2 i).2.2.1), .int .i64 ((v.2.1.2 i).2.2.2.1)]))]] [(0, ⟨false, 4, v.2.1.1, fun i => [.p (.int .i64 ((v.2.1.2 i).1)), .p (.int .i64 ((v.2.1.2 i).2.1)), .p (.int .i64 ((v.2.1.2 i).2.2.1)), .p (.int .i64 ((v.2.1.2 i).2.2.2.1))]⟩)] (.agg [.p (.int .i64 (v.1)), .ar 4 0 0 (v.2.1.1)]) := by
  refine con_start Try.func23 rfl (by kernel_rfl) rfl (fun c hc => ?_)
  refine path_ok mixed Try.func23 hc (p_toGainGraph v) ?_
  simp only [All]
  repeat' (first | exact trivial | with_reducible apply And.intro)
  all_goals (first | omega | rfl | (intros; first | assumption | exact True.intro | rfl | exact absurd (show false = true by assumption) Bool.false_ne_true | ((repeat' (first | assumption | apply anda | apply notf)); done)) | (exact con_toGainBarS v.2.1 hs.2.1) | (intro i hi; simp [hi, All]))

theorem con_eqGainBar (v : T_GainBar) (hs : smS s_GainBar v) : Con Try.prog 119 0 [] [.agg [.p (.int .i64 (v.1)), .p (.int .i64 (v.2.1)), .p (.int .i64 (v.2.2.1)), .p (.int .i64 (v.2.2.2.1))], .agg [.p (.int .i64 (v.1)), .p (.int .i64 (v.2.1)), .p (.int .i64 (v.2.2.1)), .p (.int .i64 (v.2.2.2.1))]] [] (.p (.bool true)) := by
  refine con_start Try.func119 rfl (by kernel_rfl) rfl (fun c hc => ?_)
  refine path_ok mixed Try.func119 hc (p_eqGainBar v) ?_
  simp only [All]
  repeat' (first | exact trivial | with_reducible apply And.intro)
  all_goals (first | omega | rfl | (intros; first | assumption | exact True.intro | rfl | exact absurd (show false = true by assumption) Bool.false_ne_true | ((repeat' (first | assumption | apply anda | apply notf)); done)) | simp)

theorem con_eqGainBarS (v : T_GainBarS) (hs : smS s_GainBarS v) : Con Try.prog 71 0 [] [.p (.seq true 4 (v.1) (fun i => [.int .i64 ((v.2 i).1), .int .i64 ((v.2 i).2.1), .int .i64 ((v.2 i).2.2.1), .int .i64 ((v.2 i).2.2.2.1)])), .p (.seq true 4 (v.1) (fun i => [.int .i64 ((v.2 i).1), .int .i64 ((v.2 i).2.1), .int .i64 ((v.2 i).2.2.1), .int .i64 ((v.2 i).2.2.2.1)]))] [] (.p (.bool true)) := by
  refine con_start Try.func71 rfl (by kernel_rfl) rfl (fun c hc => ?_)
  have hn := hs.1
  have lp : ∀ m k, k + m = v.1 → Run Try.prog c 71 [.code (cAt (bodyOf Try.f71) [1, 1, 0, 1, 0, 0]), .inLoop (cAt (bodyOf Try.f71) [1, 1, 0, 1, 0, 0]), .inBlock 0, .code (cAt (bodyOf Try.f71) [1, 1, 1])] (S_eqGainBarS v k) (Post c [] (.p (.bool true))) := by
    intro m
    induction m with
    | zero =>
      intro k hk
      refine path_ok mixed Try.func71 hc (p_eqGainBarS_c v k) ?_
      simp only [All]
      repeat' (first | exact trivial | with_reducible apply And.intro)
      all_goals (first | omega | rfl | (intros; first | assumption | exact True.intro | rfl | exact absurd (show false = true by assumption) Bool.false_ne_true | ((repeat' (first | assumption | apply anda | apply notf)); done)) | (simp; try omega))
    | succ m ih =>
      intro k hk
      have hlt : decide ((k : Int) < (v.1 : Int)) = true := by simp; omega
      refine piece_ok mixed hc (p_eqGainBarS_b v k) ?_ (ih (k + 1) (by omega))
      simp only [All]
      repeat' (first | exact trivial | with_reducible apply And.intro)
      all_goals (first | omega | rfl | (intros; first | assumption | exact True.intro | rfl | exact absurd (show false = true by assumption) Bool.false_ne_true | ((repeat' (first | assumption | apply anda | apply notf)); done)) | (exact con_eqGainBar (v.2 k) (hs.2 k (by omega))) | simp)
  refine piece_ok mixed hc (p_eqGainBarS_a v) ?_ (lp v.1 0 (by omega))
  simp only [All]
  repeat' (first | exact trivial | with_reducible apply And.intro)
  all_goals (first | omega | rfl | (intros; first | assumption | exact True.intro | rfl | exact absurd (show false = true by assumption) Bool.false_ne_true | ((repeat' (first | assumption | apply anda | apply notf)); done)) | simp)

theorem con_eqGainGraph (v : T_GainGraph) (hs : smS s_GainGraph v) : Con Try.prog 25 0 [] [.agg [.p (.int .i64 (v.1)), .p (.seq true 4 (v.2.1.1) (fun i => [.int .i64 ((v.2.1.2 i).1), .int .i64 ((v.2.1.2 i).2.1), .int .i64 ((v.2.1.2 i).2.2.1), .int .i64 ((v.2.1.2 i).2.2.2.1)]))], .agg [.p (.int .i64 (v.1)), .p (.seq true 4 (v.2.1.1) (fun i => [.int .i64 ((v.2.1.2 i).1), .int .i64 ((v.2.1.2 i).2.1), .int .i64 ((v.2.1.2 i).2.2.1), .int .i64 ((v.2.1.2 i).2.2.2.1)]))]] [] (.p (.bool true)) := by
  refine con_start Try.func25 rfl (by kernel_rfl) rfl (fun c hc => ?_)
  refine path_ok mixed Try.func25 hc (p_eqGainGraph v) ?_
  simp only [All]
  repeat' (first | exact trivial | with_reducible apply And.intro)
  all_goals (first | omega | rfl | (intros; first | assumption | exact True.intro | rfl | exact absurd (show false = true by assumption) Bool.false_ne_true | ((repeat' (first | assumption | apply anda | apply notf)); done)) | (exact con_eqGainBarS v.2.1 hs.2.1) | simp)

theorem con_markGainBarS (v : T_GainBarS) (m : Int) (hn : v.1 ≤ 1048576) (h0 : 0 ≤ m) (h1 : m ≤ 1099511627776) : Con Try.prog 72 1 [(0, ⟨false, 4, v.1, fun i => [.p (.int .i64 ((v.2 i).1)), .p (.int .i64 ((v.2 i).2.1)), .p (.int .i64 ((v.2 i).2.2.1)), .p (.int .i64 ((v.2 i).2.2.2.1))]⟩)] [.ar 4 0 0 v.1, .p (.int .i64 m)] [(0, ⟨false, 4, v.1, fun i => [.p (.int .i64 (m + 4 * (i : Int))), .p (.int .i64 (m + 4 * (i : Int) + 1)), .p (.int .i64 (m + 4 * (i : Int) + 2)), .p (.int .i64 (m + 4 * (i : Int) + 3))]⟩)] (.p (.int .i64 (m + 4 * (v.1 : Int)))) := by
  refine con_start Try.func72 rfl (by kernel_rfl) rfl (fun c hc => ?_)
  have lp : ∀ q j, j + q = v.1 → Run Try.prog c 72 [.code (cAt (bodyOf Try.f72) [1, 0, 1, 0, 0]), .inLoop (cAt (bodyOf Try.f72) [1, 0, 1, 0, 0]), .inBlock 0, .code (cAt (bodyOf Try.f72) [1, 1])] (S_markGainBarS v m j) (Post c [(0, ⟨false, 4, v.1, fun i => [.p (.int .i64 (m + 4 * (i : Int))), .p (.int .i64 (m + 4 * (i : Int) + 1)), .p (.int .i64 (m + 4 * (i : Int) + 2)), .p (.int .i64 (m + 4 * (i : Int) + 3))]⟩)] (.p (.int .i64 (m + 4 * (v.1 : Int))))) := by
    intro q
    induction q with
    | zero =>
      intro j hj
      have e : j = v.1 := by omega
      have hd : decide ((j : Int) < (v.1 : Int)) = false := by simp; omega
      refine path_ok mixed Try.func72 hc (p_markGainBarS_c v m j) ?_
      simp only [All]
      repeat' (first | exact trivial | with_reducible apply And.intro)
      all_goals (first | omega | rfl | (intros; first | assumption | exact True.intro | rfl | exact absurd (show false = true by assumption) Bool.false_ne_true | ((repeat' (first | assumption | apply anda | apply notf)); done)) | (intro i hi; (have hik : i < j := by omega); simp [hik, All]) | (simp; try omega))
    | succ q ih =>
      intro j hj
      have hlt : decide ((j : Int) < (v.1 : Int)) = true := by simp; omega
      refine piece_ok mixed hc (p_markGainBarS_b0 v m j) ?_ ?_
      ·
        simp only [All]
        repeat' (first | exact trivial | with_reducible apply And.intro)
        all_goals (first | omega | rfl | (intros; first | assumption | exact True.intro | rfl | exact absurd (show false = true by assumption) Bool.false_ne_true | ((repeat' (first | assumption | apply anda | apply notf)); done)) | (intro i hi; by_cases h : i = j <;> simp [h, Nat.lt_succ_iff_lt_or_eq, cvtL, cvt, tg, tru, All]))
      refine piece_ok mixed hc (p_markGainBarS_b1 v m j) ?_ ?_
      ·
        simp only [All]
        repeat' (first | exact trivial | with_reducible apply And.intro)
        all_goals (first | omega | rfl | (intros; first | assumption | exact True.intro | rfl | exact absurd (show false = true by assumption) Bool.false_ne_true | ((repeat' (first | assumption | apply anda | apply notf)); done)) | (intro i hi; by_cases h : i = j <;> simp [h, Nat.lt_succ_iff_lt_or_eq, cvtL, cvt, tg, tru, All]))
      refine piece_ok mixed hc (p_markGainBarS_b2 v m j) ?_ ?_
      ·
        simp only [All]
        repeat' (first | exact trivial | with_reducible apply And.intro)
        all_goals (first | omega | rfl | (intros; first | assumption | exact True.intro | rfl | exact absurd (show false = true by assumption) Bool.false_ne_true | ((repeat' (first | assumption | apply anda | apply notf)); done)) | (intro i hi; by_cases h : i = j <;> simp [h, Nat.lt_succ_iff_lt_or_eq, cvtL, cvt, tg, tru, All]))
      refine piece_ok mixed hc (p_markGainBarS_b3 v m j) ?_ (ih (j + 1) (by omega))
      ·
        simp only [All]
        repeat' (first | exact trivial | with_reducible apply And.intro)
        all_goals (first | omega | rfl | (intros; first | assumption | exact True.intro | rfl | exact absurd (show false = true by assumption) Bool.false_ne_true | ((repeat' (first | assumption | apply anda | apply notf)); done)) | (intro i hi; by_cases h : i = j <;> simp [h, Nat.lt_succ_iff_lt_or_eq, cvtL, cvt, tg, tru, All]))
  refine piece_ok mixed hc (p_markGainBarS_a v m) ?_ (lp v.1 0 (by omega))
  simp only [All]
  repeat' (first | exact trivial | with_reducible apply And.intro)
  all_goals (first | omega | rfl | (intros; first | assumption | exact True.intro | rfl | exact absurd (show false = true by assumption) Bool.false_ne_true | ((repeat' (first | assumption | apply anda | apply notf)); done)) | (intro i hi; simp [All]))

theorem con_markGainGraph (v : T_GainGraph) (m : Int) (h_0 : v.2.1.1 ≤ 1048576) (h0 : 0 ≤ m) (h1 : m ≤ 1099494850560) : Con Try.prog 26 1 [(0, ⟨false, 4, v.2.1.1, fun i => [.p (.int .i64 ((v.2.1.2 i).1)), .p (.int .i64 ((v.2.1.2 i).2.1)), .p (.int .i64 ((v.2.1.2 i).2.2.1)), .p (.int .i64 ((v.2.1.2 i).2.2.2.1))]⟩)] [.agg [.p (.int .i64 (v.1)), .ar 4 0 0 v.2.1.1], .p (.int .i64 m)] [(0, ⟨false, 4, v.2.1.1, fun i => [.p (.int .i64 (m + 4 * (i : Int))), .p (.int .i64 (m + 4 * (i : Int) + 1)), .p (.int .i64 (m + 4 * (i : Int) + 2)), .p (.int .i64 (m + 4 * (i : Int) + 3))]⟩)] (.p (.int .i64 (m + 4 * (v.2.1.1 : Int)))) := by
  refine con_start Try.func26 rfl (by kernel_rfl) rfl (fun c hc => ?_)
  refine path_ok mixed Try.func26 hc (p_markGainGraph v m) ?_
  simp only [All]
  repeat' (first | exact trivial | with_reducible apply And.intro)
  all_goals (first | omega | rfl | (intros; first | assumption | exact True.intro | rfl | exact absurd (show false = true by assumption) Bool.false_ne_true | ((repeat' (first | assumption | apply anda | apply notf)); done)) | (exact con_markGainBarS v.2.1 _ h_0 (by omega) (by omega)) | (intro i hi; simp [All]))

end Go.Proofs.Ythnidhkfelfkdab.Mach
