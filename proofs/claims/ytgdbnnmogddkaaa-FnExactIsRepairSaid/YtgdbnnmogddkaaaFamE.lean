/- Contracts of uniform functions: how large, laid anew, equal to itself. Written by our own fam.py. Conditions: as each theorem says. -/
import Derived.Test.YtgdbnnmogddkaaaMachV
namespace Go.Proofs.Ytgdbnnmogddkaaa.Mach
open Go
set_option linter.unusedVariables false
set_option linter.unusedSimpArgs false

def s_BarS : Sh := (.sl (.st [(.int .i64), (.int .i64)]))
abbrev T_Bar := (Int) × (Int) × Unit
abbrev T_BarS := Nat × (Nat → T_Bar)
def f_szBarS (v : T_BarS) (m : Int) : Int := if m - v.1 < 0 then -1 else m - v.1
def s_Graph : Sh := (.st [(.int .i64), (.sl (.st [(.int .i64), (.int .i64)]))])
abbrev T_Graph := (Int) × (T_BarS) × Unit
def f_szGraph (v : T_Graph) (m : Int) : Int := if (f_szBarS v.2.1 m) < 0 then -1 else ((f_szBarS v.2.1 m))
def s_IntS : Sh := (.sl (.int .i64))
abbrev T_IntS := Nat × (Nat → Int)
def f_szIntS (v : T_IntS) (m : Int) : Int := if m - v.1 < 0 then -1 else m - v.1
def s_Pinned : Sh := (.st [(.st [(.int .i64), (.sl (.st [(.int .i64), (.int .i64)]))]), (.sl (.int .i64))])
abbrev T_Pinned := (T_Graph) × (T_IntS) × Unit
def f_szPinned (v : T_Pinned) (m : Int) : Int := if (f_szGraph v.1 m) < 0 then -1 else (if (f_szIntS v.2.1 (f_szGraph v.1 m)) < 0 then -1 else ((f_szIntS v.2.1 (f_szGraph v.1 m))))
def s_Bar : Sh := (.st [(.int .i64), (.int .i64)])
def S_toBarS (v : T_BarS) (k : Nat) : St :=
  ⟨[.p (.seq true 2 (v.1) (fun i => [.int .i64 ((v.2 i).1), .int .i64 ((v.2 i).2.1)])), .p .any, .p .any, .ar 2 0 0 v.1, .p (.int .i64 k)] ++ List.replicate 18 anyA, [(0, ⟨false, 2, v.1, fun i => [.p (.int .i64 (if i < k then (v.2 i).1 else 0)), .p (.int .i64 (if i < k then (v.2 i).2.1 else 0))]⟩)], 1⟩
def S_toIntS (v : T_IntS) (k : Nat) : St :=
  ⟨[.p (.seq true 1 (v.1) (fun i => [.int .i64 ((v.2 i))])), .p .any, .p .any, .ar 1 0 0 v.1, .p (.int .i64 k)] ++ List.replicate 17 anyA, [(0, ⟨false, 1, v.1, fun i => [.p (.int .i64 (if i < k then (v.2 i) else 0))]⟩)], 1⟩
def S_eqBarS (v : T_BarS) (k : Nat) : St :=
  ⟨[.p (.seq true 2 (v.1) (fun i => [.int .i64 ((v.2 i).1), .int .i64 ((v.2 i).2.1)])), .p (.seq true 2 (v.1) (fun i => [.int .i64 ((v.2 i).1), .int .i64 ((v.2 i).2.1)])), .p .any, .p .any, .p .any, .p (.int .i64 k)] ++ List.replicate 21 anyA, [], 0⟩
def S_eqIntS (v : T_IntS) (k : Nat) : St :=
  ⟨[.p (.seq true 1 (v.1) (fun i => [.int .i64 ((v.2 i))])), .p (.seq true 1 (v.1) (fun i => [.int .i64 ((v.2 i))])), .p .any, .p .any, .p .any, .p (.int .i64 k)] ++ List.replicate 20 anyA, [], 0⟩
def q1_BarS (a b : T_Bar) : Bool := a.1 == b.1 && (a.2.1 == b.2.1 && true)
def qT_BarS (g h : Nat → T_Bar) : Nat → Bool
  | 0 => true
  | k + 1 => qT_BarS g h k && q1_BarS (g k) (h k)
def q_BarS (v u : T_BarS) : Bool := if v.1 = u.1 then qT_BarS v.2 u.2 v.1 else false
def S_seBarS (v u : T_BarS) (k : Nat) : St :=
  ⟨[.p (.seq true 2 (v.1) (fun i => [.int .i64 ((v.2 i).1), .int .i64 ((v.2 i).2.1)])), .p (.seq true 2 (u.1) (fun i => [.int .i64 ((u.2 i).1), .int .i64 ((u.2 i).2.1)]))] ++ List.replicate 10 anyA ++ [.p (.int .i64 v.1), .p (.int .i64 k)] ++ List.replicate 12 anyA, [], 0⟩
def S_markIntS (v : T_IntS) (m : Int) (k : Nat) : St :=
  ⟨[.ar 1 0 0 v.1, .p (.int .i64 (m + (k : Int))), .p .any, .p .any, .p .any, .p (.int .i64 k)] ++ List.replicate 13 anyA, [(0, ⟨false, 1, v.1, fun i => [.p (.int .i64 (if i < k then m + (i : Int) else (v.2 i)))]⟩)], 1⟩
def S_heldIntS (n : Nat) (m : Int) (k : Nat) : St :=
  ⟨[.p (.seq true 1 n (fun i => [.int .i64 (m + (i : Int))])), .p (.int .i64 (m + (k : Int))), .p .any, .p .any, .p .any, .p (.int .i64 k)] ++ List.replicate 15 anyA, [], 0⟩
def S_markBarS (v : T_BarS) (m : Int) (k : Nat) : St :=
  ⟨[.ar 2 0 0 v.1, .p (.int .i64 (m + 2 * (k : Int))), .p .any, .p .any, .p .any, .p (.int .i64 k)] ++ List.replicate 21 anyA, [(0, ⟨false, 2, v.1, fun i => [.p (.int .i64 (if i < k then m + 2 * (i : Int) else (v.2 i).1)), .p (.int .i64 (if i < k then m + 2 * (i : Int) + 1 else (v.2 i).2.1))]⟩)], 1⟩
def S_markBarS_1 (v : T_BarS) (m : Int) (k : Nat) : St :=
  ⟨[.ar 2 0 0 v.1, .p (.int .i64 (m + 2 * (k : Int) + 1)), .p .any, .p .any, .p .any, .p (.int .i64 k)] ++ List.replicate 21 anyA, [(0, ⟨false, 2, v.1, fun i => [.p (.int .i64 (if i < k + 1 then m + 2 * (i : Int) else (v.2 i).1)), .p (.int .i64 (if i < k then m + 2 * (i : Int) + 1 else (v.2 i).2.1))]⟩)], 1⟩
def S_heldBarS (n : Nat) (m : Int) (k : Nat) : St :=
  ⟨[.p (.seq true 2 n (fun i => [.int .i64 (m + 2 * (i : Int)), .int .i64 (m + 2 * (i : Int) + 1)])), .p (.int .i64 (m + 2 * (k : Int))), .p .any, .p .any, .p .any, .p (.int .i64 k)] ++ List.replicate 25 anyA, [], 0⟩

theorem p_szBarS_a (v : T_BarS) (m : Int) :
    pathOb Try.prog Try.f16 0 [.reg [oT], .reg [oT, oT, oT, oT, oT], .reg [oT, oT], .dec true, .reg [oT]] [.code (bodyOf Try.f16)] (start Try.f16 [] 0 [.p (.seq true 2 (v.1) (fun i => [.int .i64 ((v.2 i).1), .int .i64 ((v.2 i).2.1)])), .p (.int .i64 m)]) [] 1 [] (.p (.int .i64 (-1))) =
    some [(((-9223372036854775808) : Int) ≤ (m - (↑v.fst : Int))),
  (((m - (↑v.fst : Int)) : Int) ≤ 9223372036854775807),
  ((decide (m - (↑v.fst : Int) < 0)) = true),
  (((-1) : Int) = (-1))] := by kernel_rfl

theorem p_szBarS_b (v : T_BarS) (m : Int) :
    pathOb Try.prog Try.f16 0 [.reg [oT], .reg [oT, oT, oT, oT, oT], .reg [oT, oT], .dec false, .reg [oT, oT]] [.code (bodyOf Try.f16)] (start Try.f16 [] 0 [.p (.seq true 2 (v.1) (fun i => [.int .i64 ((v.2 i).1), .int .i64 ((v.2 i).2.1)])), .p (.int .i64 m)]) [] 1 [] (.p (.int .i64 (m - v.1))) =
    some [(((-9223372036854775808) : Int) ≤ (m - (↑v.fst : Int))),
  (((m - (↑v.fst : Int)) : Int) ≤ 9223372036854775807),
  ((decide (m - (↑v.fst : Int) < 0)) = false),
  (((m - (↑v.fst : Int)) : Int) = (m - (↑v.fst : Int)))] := by kernel_rfl

theorem p_szGraph_0 (v : T_Graph) (m : Int) :
    pathOb Try.prog Try.f31 0 [.reg [oT, oT], .reg [oT, oT, oT, ⟨true, (some ⟨[], [], 1, [], .p (.int .i64 (f_szBarS v.2.1 m))⟩), none⟩, oT], .reg [oT, oT], .dec true, .reg [oT]] [.code (bodyOf Try.f31)] (start Try.f31 [] 0 [.agg [.p (.int .i64 (v.1)), .p (.seq true 2 (v.2.1.1) (fun i => [.int .i64 ((v.2.1.2 i).1), .int .i64 ((v.2.1.2 i).2.1)]))], .p (.int .i64 m)]) [] 1 [] (.p (.int .i64 (-1))) =
    some [((0 : Nat) < 1),
  Con (Try.prog) 16 0 [] [.p (.seq true 2 (v.snd.fst.fst) (fun i => [.int .i64 ((v.snd.fst.snd i).fst), .int .i64 ((v.snd.fst.snd i).snd.fst)])), .p (.int .i64 (m))] [] (.p (.int .i64 (f_szBarS v.snd.fst m))),
  ((decide (f_szBarS v.snd.fst m < 0)) = true),
  (((-1) : Int) = (-1))] := by kernel_rfl

theorem p_szGraph_e (v : T_Graph) (m : Int) :
    pathOb Try.prog Try.f31 0 [.reg [oT, oT], .reg [oT, oT, oT, ⟨true, (some ⟨[], [], 1, [], .p (.int .i64 (f_szBarS v.2.1 m))⟩), none⟩, oT], .reg [oT, oT], .dec false, .reg [oT, oT]] [.code (bodyOf Try.f31)] (start Try.f31 [] 0 [.agg [.p (.int .i64 (v.1)), .p (.seq true 2 (v.2.1.1) (fun i => [.int .i64 ((v.2.1.2 i).1), .int .i64 ((v.2.1.2 i).2.1)]))], .p (.int .i64 m)]) [] 1 [] (.p (.int .i64 (f_szBarS v.2.1 m))) =
    some [((0 : Nat) < 1),
  Con (Try.prog) 16 0 [] [.p (.seq true 2 (v.snd.fst.fst) (fun i => [.int .i64 ((v.snd.fst.snd i).fst), .int .i64 ((v.snd.fst.snd i).snd.fst)])), .p (.int .i64 (m))] [] (.p (.int .i64 (f_szBarS v.snd.fst m))),
  ((decide (f_szBarS v.snd.fst m < 0)) = false),
  (((f_szBarS v.snd.fst m) : Int) = (f_szBarS v.snd.fst m))] := by kernel_rfl

theorem p_szIntS_a (v : T_IntS) (m : Int) :
    pathOb Try.prog Try.f45 0 [.reg [oT], .reg [oT, oT, oT, oT, oT], .reg [oT, oT], .dec true, .reg [oT]] [.code (bodyOf Try.f45)] (start Try.f45 [] 0 [.p (.seq true 1 (v.1) (fun i => [.int .i64 ((v.2 i))])), .p (.int .i64 m)]) [] 1 [] (.p (.int .i64 (-1))) =
    some [(((-9223372036854775808) : Int) ≤ (m - (↑v.fst : Int))),
  (((m - (↑v.fst : Int)) : Int) ≤ 9223372036854775807),
  ((decide (m - (↑v.fst : Int) < 0)) = true),
  (((-1) : Int) = (-1))] := by kernel_rfl

theorem p_szIntS_b (v : T_IntS) (m : Int) :
    pathOb Try.prog Try.f45 0 [.reg [oT], .reg [oT, oT, oT, oT, oT], .reg [oT, oT], .dec false, .reg [oT, oT]] [.code (bodyOf Try.f45)] (start Try.f45 [] 0 [.p (.seq true 1 (v.1) (fun i => [.int .i64 ((v.2 i))])), .p (.int .i64 m)]) [] 1 [] (.p (.int .i64 (m - v.1))) =
    some [(((-9223372036854775808) : Int) ≤ (m - (↑v.fst : Int))),
  (((m - (↑v.fst : Int)) : Int) ≤ 9223372036854775807),
  ((decide (m - (↑v.fst : Int) < 0)) = false),
  (((m - (↑v.fst : Int)) : Int) = (m - (↑v.fst : Int)))] := by kernel_rfl

theorem p_szPinned_0 (v : T_Pinned) (m : Int) :
    pathOb Try.prog Try.f11 0 [.reg [oT, oT], .reg [oT, oT, oT, ⟨true, (some ⟨[], [], 1, [], .p (.int .i64 (f_szGraph v.1 m))⟩), none⟩, oT], .reg [oT, oT], .dec true, .reg [oT]] [.code (bodyOf Try.f11)] (start Try.f11 [] 0 [.agg [.p (.int .i64 (v.1.1)), .p (.seq true 2 (v.1.2.1.1) (fun i => [.int .i64 ((v.1.2.1.2 i).1), .int .i64 ((v.1.2.1.2 i).2.1)])), .p (.seq true 1 (v.2.1.1) (fun i => [.int .i64 ((v.2.1.2 i))]))], .p (.int .i64 m)]) [] 1 [] (.p (.int .i64 (-1))) =
    some [((0 : Nat) < 1),
  Con (Try.prog) 31 0 [] [.agg [.p (.int .i64 (v.fst.fst)), .p (.seq true 2 (v.fst.snd.fst.fst) (fun i => [.int .i64 ((v.fst.snd.fst.snd i).fst), .int .i64 ((v.fst.snd.fst.snd i).snd.fst)]))], .p (.int .i64 (m))] [] (.p (.int .i64 (f_szGraph v.fst m))),
  ((decide (f_szGraph v.fst m < 0)) = true),
  (((-1) : Int) = (-1))] := by kernel_rfl

theorem p_szPinned_1 (v : T_Pinned) (m : Int) :
    pathOb Try.prog Try.f11 0 [.reg [oT, oT], .reg [oT, oT, oT, ⟨true, (some ⟨[], [], 1, [], .p (.int .i64 (f_szGraph v.1 m))⟩), none⟩, oT], .reg [oT, oT], .dec false, .reg [oT, oT, oT, ⟨true, (some ⟨[], [], 1, [], .p (.int .i64 (f_szIntS v.2.1 (f_szGraph v.1 m)))⟩), none⟩, oT], .reg [oT, oT], .dec true, .reg [oT]] [.code (bodyOf Try.f11)] (start Try.f11 [] 0 [.agg [.p (.int .i64 (v.1.1)), .p (.seq true 2 (v.1.2.1.1) (fun i => [.int .i64 ((v.1.2.1.2 i).1), .int .i64 ((v.1.2.1.2 i).2.1)])), .p (.seq true 1 (v.2.1.1) (fun i => [.int .i64 ((v.2.1.2 i))]))], .p (.int .i64 m)]) [] 1 [] (.p (.int .i64 (-1))) =
    some [((0 : Nat) < 1),
  Con (Try.prog) 31 0 [] [.agg [.p (.int .i64 (v.fst.fst)), .p (.seq true 2 (v.fst.snd.fst.fst) (fun i => [.int .i64 ((v.fst.snd.fst.snd i).fst), .int .i64 ((v.fst.snd.fst.snd i).snd.fst)]))], .p (.int .i64 (m))] [] (.p (.int .i64 (f_szGraph v.fst m))),
  ((decide (f_szGraph v.fst m < 0)) = false),
  ((0 : Nat) < 1),
  Con (Try.prog) 45 0 [] [.p (.seq true 1 (v.snd.fst.fst) (fun i => [.int .i64 (v.snd.fst.snd i)])), .p (.int .i64 (f_szGraph v.fst m))] [] (.p (.int .i64 (f_szIntS v.snd.fst (f_szGraph v.fst m)))),
  ((decide (f_szIntS v.snd.fst (f_szGraph v.fst m) < 0)) = true),
  (((-1) : Int) = (-1))] := by kernel_rfl

theorem p_szPinned_e (v : T_Pinned) (m : Int) :
    pathOb Try.prog Try.f11 0 [.reg [oT, oT], .reg [oT, oT, oT, ⟨true, (some ⟨[], [], 1, [], .p (.int .i64 (f_szGraph v.1 m))⟩), none⟩, oT], .reg [oT, oT], .dec false, .reg [oT, oT, oT, ⟨true, (some ⟨[], [], 1, [], .p (.int .i64 (f_szIntS v.2.1 (f_szGraph v.1 m)))⟩), none⟩, oT], .reg [oT, oT], .dec false, .reg [oT, oT]] [.code (bodyOf Try.f11)] (start Try.f11 [] 0 [.agg [.p (.int .i64 (v.1.1)), .p (.seq true 2 (v.1.2.1.1) (fun i => [.int .i64 ((v.1.2.1.2 i).1), .int .i64 ((v.1.2.1.2 i).2.1)])), .p (.seq true 1 (v.2.1.1) (fun i => [.int .i64 ((v.2.1.2 i))]))], .p (.int .i64 m)]) [] 1 [] (.p (.int .i64 (f_szIntS v.2.1 (f_szGraph v.1 m)))) =
    some [((0 : Nat) < 1),
  Con (Try.prog) 31 0 [] [.agg [.p (.int .i64 (v.fst.fst)), .p (.seq true 2 (v.fst.snd.fst.fst) (fun i => [.int .i64 ((v.fst.snd.fst.snd i).fst), .int .i64 ((v.fst.snd.fst.snd i).snd.fst)]))], .p (.int .i64 (m))] [] (.p (.int .i64 (f_szGraph v.fst m))),
  ((decide (f_szGraph v.fst m < 0)) = false),
  ((0 : Nat) < 1),
  Con (Try.prog) 45 0 [] [.p (.seq true 1 (v.snd.fst.fst) (fun i => [.int .i64 (v.snd.fst.snd i)])), .p (.int .i64 (f_szGraph v.fst m))] [] (.p (.int .i64 (f_szIntS v.snd.fst (f_szGraph v.fst m)))),
  ((decide (f_szIntS v.snd.fst (f_szGraph v.fst m) < 0)) = false),
  (((f_szIntS v.snd.fst (f_szGraph v.fst m)) : Int) = (f_szIntS v.snd.fst (f_szGraph v.fst m)))] := by kernel_rfl

theorem p_toBar (v : T_Bar) :
    pathOb Try.prog Try.f61 0 [.reg [oT, oT], .reg [oT], .reg [oT, oT, oT, oT], .reg [oT, oT, oT, oT], .reg [oT, oT]] [.code (bodyOf Try.f61)] (start Try.f61 [] 0 [.agg [.p (.int .i64 (v.1)), .p (.int .i64 (v.2.1))]]) [] 1 [] (.agg [.p (.int .i64 (v.1)), .p (.int .i64 (v.2.1))]) =
    some [((0 : Nat) < 1),
  ((0 : Nat) < 1),
  (((true) = true) → ((1 : Nat) = 1)),
  ((0 : Nat) < 1),
  ((0 : Nat) < 1),
  (((true) = true) → ((1 : Nat) = 1)),
  ((0 : Nat) < 1),
  ((0 : Nat) < 1),
  (((true) = true) → ((1 : Nat) = 1)),
  ((0 : Nat) < 1),
  (((v.fst) : Int) = (v.fst)),
  (((v.snd.fst) : Int) = (v.snd.fst))] := by kernel_rfl

theorem p_toBarS_a (v : T_BarS) :
    pieceOb Try.prog 0 [.reg [oT], .reg [oT, oT, oT, oT], .reg [oT], .head] [.code (bodyOf Try.f18)] (start Try.f18 [] 0 [.p (.seq true 2 (v.1) (fun i => [.int .i64 ((v.2 i).1), .int .i64 ((v.2 i).2.1)]))]) [96] 1 (S_toBarS v 0) =
    some ([.code (cAt (bodyOf Try.f18) [1, 1, 0, 1, 0, 0]), .inLoop (cAt (bodyOf Try.f18) [1, 1, 0, 1, 0, 0]), .inBlock 0, .code (cAt (bodyOf Try.f18) [1, 1, 1])], [((0 : Int) ≤ ((↑v.fst : Int))),
  ((((↑v.fst : Int)) : Int) ≤ ((↑v.fst : Int))),
  ((((↑v.fst : Int) * (↑16 : Int)) : Int) ≤ 281474976710656),
  ((((↑v.fst : Int)) : Int) ≤ 9223372036854775807),
  (((v.fst) : Nat) = (v.fst)),
  (∀ i : Nat, ((((i) : Nat) < (v.fst)) → (([.int .i64 ((v.snd i).fst), .int .i64 ((v.snd i).snd.fst)] : List PV) = [.int .i64 ((v.snd i).fst), .int .i64 ((v.snd i).snd.fst)]))),
  ((0 : Nat) = 0),
  (((v.fst) : Nat) = (v.fst)),
  ((0 : Int) = ((↑0 : Int))),
  ((2 : Nat) = 2),
  (((v.fst) : Nat) ≤ (v.fst)),
  (∀ i : Nat, ((((i) : Nat) < (v.fst)) → (All [] ∧ (([.p (.int .i64 0), .p (.int .i64 0)] : List AV) = [.p (.int .i64 (if i < 0 then (v.snd i).fst else 0)), .p (.int .i64 (if i < 0 then (v.snd i).snd.fst else 0))]))))]) := by kernel_rfl

theorem p_toBarS_b (v : T_BarS) (k : Nat) :
    pieceOb Try.prog 0 [.reg [oT, oT, oT, oT], .dec true, .reg [oT, oT, oT, oT, oT, oT, ⟨true, (some ⟨[], [], 1, [], .agg [.p (.int .i64 ((v.2 k).1)), .p (.int .i64 ((v.2 k).2.1))]⟩), none⟩, oT, oT], .reg [oT, oT, oT], .head] [.code (cAt (bodyOf Try.f18) [1, 1, 0, 1, 0, 0]), .inLoop (cAt (bodyOf Try.f18) [1, 1, 0, 1, 0, 0]), .inBlock 0, .code (cAt (bodyOf Try.f18) [1, 1, 1])] (S_toBarS v k) [0] 1 (S_toBarS v (k + 1)) =
    some ([.code (cAt (bodyOf Try.f18) [1, 1, 0, 1, 0, 0]), .inLoop (cAt (bodyOf Try.f18) [1, 1, 0, 1, 0, 0]), .inBlock 0, .code (cAt (bodyOf Try.f18) [1, 1, 1])], [((decide ((↑k : Int) < (↑v.fst : Int))) = true),
  ((0 : Int) ≤ ((↑k : Int))),
  ((((↑k : Int)) : Int) < ((↑v.fst : Int))),
  Con (Try.prog) 61 0 [] [.agg [.p (.int .i64 ((v.snd k).fst)), .p (.int .i64 ((v.snd k).snd.fst))]] [] (.agg [.p (.int .i64 ((v.snd k).fst)), .p (.int .i64 ((v.snd k).snd.fst))]),
  ((0 : Int) ≤ ((↑k : Int))),
  ((((↑k : Int)) : Int) < ((↑v.fst : Int))),
  (((k) : Nat) < (v.fst)),
  (((false) = true) → (((v.fst) : Nat) = 1)),
  (((-9223372036854775808) : Int) ≤ ((↑k : Int) + 1)),
  ((((↑k : Int) + 1) : Int) ≤ 9223372036854775807),
  (((v.fst) : Nat) = (v.fst)),
  (∀ i : Nat, ((((i) : Nat) < (v.fst)) → (([.int .i64 ((v.snd i).fst), .int .i64 ((v.snd i).snd.fst)] : List PV) = [.int .i64 ((v.snd i).fst), .int .i64 ((v.snd i).snd.fst)]))),
  ((0 : Nat) = 0),
  (((v.fst) : Nat) = (v.fst)),
  ((((↑k : Int) + 1) : Int) = ((↑(k + 1) : Int))),
  ((2 : Nat) = 2),
  (((v.fst) : Nat) ≤ (v.fst)),
  (∀ i : Nat, ((((i) : Nat) < (v.fst)) → (All (cvtL false [(0, ⟨false, 2, (v.fst), (fun i_1 => (if (i_1 = k) then [.p (.int .i64 ((v.snd k).fst)), .p (.int .i64 ((v.snd k).snd.fst))] else [.p (.int .i64 (if i_1 < k then (v.snd i_1).fst else 0)), .p (.int .i64 (if i_1 < k then (v.snd i_1).snd.fst else 0))]))⟩)] [0] 1 (if (i = k) then [.p (.int .i64 ((v.snd k).fst)), .p (.int .i64 ((v.snd k).snd.fst))] else [.p (.int .i64 (if i < k then (v.snd i).fst else 0)), .p (.int .i64 (if i < k then (v.snd i).snd.fst else 0))])).2 ∧ (((cvtL false [(0, ⟨false, 2, (v.fst), (fun i_1 => (if (i_1 = k) then [.p (.int .i64 ((v.snd k).fst)), .p (.int .i64 ((v.snd k).snd.fst))] else [.p (.int .i64 (if i_1 < k then (v.snd i_1).fst else 0)), .p (.int .i64 (if i_1 < k then (v.snd i_1).snd.fst else 0))]))⟩)] [0] 1 (if (i = k) then [.p (.int .i64 ((v.snd k).fst)), .p (.int .i64 ((v.snd k).snd.fst))] else [.p (.int .i64 (if i < k then (v.snd i).fst else 0)), .p (.int .i64 (if i < k then (v.snd i).snd.fst else 0))])).1 : List AV) = [.p (.int .i64 (if i < k + 1 then (v.snd i).fst else 0)), .p (.int .i64 (if i < k + 1 then (v.snd i).snd.fst else 0))]))))]) := by kernel_rfl

theorem p_toBarS_c (v : T_BarS) (k : Nat) :
    pathOb Try.prog Try.f18 0 [.reg [oT, oT, oT, oT], .dec false, .reg [oT, oT]] [.code (cAt (bodyOf Try.f18) [1, 1, 0, 1, 0, 0]), .inLoop (cAt (bodyOf Try.f18) [1, 1, 0, 1, 0, 0]), .inBlock 0, .code (cAt (bodyOf Try.f18) [1, 1, 1])] (S_toBarS v k) [0] 1 [(0, ⟨false, 2, v.1, fun i => [.p (.int .i64 ((v.2 i).1)), .p (.int .i64 ((v.2 i).2.1))]⟩)] (.ar 2 0 0 (v.1)) =
    some [((decide ((↑k : Int) < (↑v.fst : Int))) = false),
  ((0 : Nat) = 0),
  (((v.fst) : Nat) = (v.fst)),
  ((2 : Nat) = 2),
  (((v.fst) : Nat) ≤ (v.fst)),
  (∀ i : Nat, ((((i) : Nat) < (v.fst)) → (All [] ∧ (([.p (.int .i64 (if i < k then (v.snd i).fst else 0)), .p (.int .i64 (if i < k then (v.snd i).snd.fst else 0))] : List AV) = [.p (.int .i64 ((v.snd i).fst)), .p (.int .i64 ((v.snd i).snd.fst))])))),
  (∀ i : Nat, ((((i) : Nat) < (v.fst)) → All []))] := by kernel_rfl

theorem p_toGraph (v : T_Graph) :
    pathOb Try.prog Try.f33 0 [.reg [oT, oT], .reg [oT], .reg [oT, oT, oT, oT], .reg [oT, oT, ⟨true, (some ⟨[], [], 1, [(0, ⟨false, 2, v.2.1.1, fun i => [.p (.int .i64 ((v.2.1.2 i).1)), .p (.int .i64 ((v.2.1.2 i).2.1))]⟩)], .ar 2 0 0 (v.2.1.1)⟩), none⟩, oT, oT], .reg [oT, oT]] [.code (bodyOf Try.f33)] (start Try.f33 [] 0 [.agg [.p (.int .i64 (v.1)), .p (.seq true 2 (v.2.1.1) (fun i => [.int .i64 ((v.2.1.2 i).1), .int .i64 ((v.2.1.2 i).2.1)]))]]) [288] 1 [(0, ⟨false, 2, v.2.1.1, fun i => [.p (.int .i64 ((v.2.1.2 i).1)), .p (.int .i64 ((v.2.1.2 i).2.1))]⟩)] (.agg [.p (.int .i64 (v.1)), .ar 2 0 0 (v.2.1.1)]) =
    some [((0 : Nat) < 1),
  ((0 : Nat) < 1),
  (((true) = true) → ((1 : Nat) = 1)),
  ((0 : Nat) < 1),
  Con (Try.prog) 18 0 [] [.p (.seq true 2 (v.snd.fst.fst) (fun i => [.int .i64 ((v.snd.fst.snd i).fst), .int .i64 ((v.snd.fst.snd i).snd.fst)]))] [(0, ⟨false, 2, (v.snd.fst.fst), (fun i => [.p (.int .i64 ((v.snd.fst.snd i).fst)), .p (.int .i64 ((v.snd.fst.snd i).snd.fst))])⟩)] (.ar 2 0 0 (v.snd.fst.fst)),
  ((0 : Nat) < 1),
  (((true) = true) → ((1 : Nat) = 1)),
  ((0 : Nat) < 1),
  ((0 : Nat) < 1),
  (((true) = true) → ((1 : Nat) = 1)),
  ((0 : Nat) < 1),
  (((v.fst) : Int) = (v.fst)),
  ((0 : Nat) = 0),
  (((v.snd.fst.fst) : Nat) = (v.snd.fst.fst)),
  ((2 : Nat) = 2),
  (((v.snd.fst.fst) : Nat) ≤ (v.snd.fst.fst)),
  (∀ i : Nat, ((((i) : Nat) < (v.snd.fst.fst)) → (All [] ∧ (([.p (.int .i64 ((v.snd.fst.snd i).fst)), .p (.int .i64 ((v.snd.fst.snd i).snd.fst))] : List AV) = [.p (.int .i64 ((v.snd.fst.snd i).fst)), .p (.int .i64 ((v.snd.fst.snd i).snd.fst))])))),
  (∀ i : Nat, ((((i) : Nat) < (v.snd.fst.fst)) → All []))] := by kernel_rfl

theorem p_toIntS_a (v : T_IntS) :
    pieceOb Try.prog 0 [.reg [oT], .reg [oT, oT, oT, oT], .reg [oT], .head] [.code (bodyOf Try.f51)] (start Try.f51 [] 0 [.p (.seq true 1 (v.1) (fun i => [.int .i64 ((v.2 i))]))]) [96] 1 (S_toIntS v 0) =
    some ([.code (cAt (bodyOf Try.f51) [1, 1, 0, 1, 0, 0]), .inLoop (cAt (bodyOf Try.f51) [1, 1, 0, 1, 0, 0]), .inBlock 0, .code (cAt (bodyOf Try.f51) [1, 1, 1])], [((0 : Int) ≤ ((↑v.fst : Int))),
  ((((↑v.fst : Int)) : Int) ≤ ((↑v.fst : Int))),
  ((((↑v.fst : Int) * (↑8 : Int)) : Int) ≤ 281474976710656),
  ((((↑v.fst : Int)) : Int) ≤ 9223372036854775807),
  (((v.fst) : Nat) = (v.fst)),
  (∀ i : Nat, ((((i) : Nat) < (v.fst)) → (([.int .i64 (v.snd i)] : List PV) = [.int .i64 (v.snd i)]))),
  ((0 : Nat) = 0),
  (((v.fst) : Nat) = (v.fst)),
  ((0 : Int) = ((↑0 : Int))),
  ((1 : Nat) = 1),
  (((v.fst) : Nat) ≤ (v.fst)),
  (∀ i : Nat, ((((i) : Nat) < (v.fst)) → (All [] ∧ (([.p (.int .i64 0)] : List AV) = [.p (.int .i64 (if i < 0 then v.snd i else 0))]))))]) := by kernel_rfl

theorem p_toIntS_b (v : T_IntS) (k : Nat) :
    pieceOb Try.prog 0 [.reg [oT, oT, oT, oT], .dec true, .reg [oT, oT, oT, oT, oT, oT, oT, oT], .reg [oT, oT, oT], .head] [.code (cAt (bodyOf Try.f51) [1, 1, 0, 1, 0, 0]), .inLoop (cAt (bodyOf Try.f51) [1, 1, 0, 1, 0, 0]), .inBlock 0, .code (cAt (bodyOf Try.f51) [1, 1, 1])] (S_toIntS v k) [0] 1 (S_toIntS v (k + 1)) =
    some ([.code (cAt (bodyOf Try.f51) [1, 1, 0, 1, 0, 0]), .inLoop (cAt (bodyOf Try.f51) [1, 1, 0, 1, 0, 0]), .inBlock 0, .code (cAt (bodyOf Try.f51) [1, 1, 1])], [((decide ((↑k : Int) < (↑v.fst : Int))) = true),
  ((0 : Int) ≤ ((↑k : Int))),
  ((((↑k : Int)) : Int) < ((↑v.fst : Int))),
  ((0 : Int) ≤ ((↑k : Int))),
  ((((↑k : Int)) : Int) < ((↑v.fst : Int))),
  (((k) : Nat) < (v.fst)),
  (((false) = true) → (((v.fst) : Nat) = 1)),
  (((-9223372036854775808) : Int) ≤ ((↑k : Int) + 1)),
  ((((↑k : Int) + 1) : Int) ≤ 9223372036854775807),
  (((v.fst) : Nat) = (v.fst)),
  (∀ i : Nat, ((((i) : Nat) < (v.fst)) → (([.int .i64 (v.snd i)] : List PV) = [.int .i64 (v.snd i)]))),
  ((0 : Nat) = 0),
  (((v.fst) : Nat) = (v.fst)),
  ((((↑k : Int) + 1) : Int) = ((↑(k + 1) : Int))),
  ((1 : Nat) = 1),
  (((v.fst) : Nat) ≤ (v.fst)),
  (∀ i : Nat, ((((i) : Nat) < (v.fst)) → (All (cvtL false [(0, ⟨false, 1, (v.fst), (fun i_1 => (if (i_1 = k) then [.p (.int .i64 (v.snd k))] else [.p (.int .i64 (if i_1 < k then v.snd i_1 else 0))]))⟩)] [0] 1 (if (i = k) then [.p (.int .i64 (v.snd k))] else [.p (.int .i64 (if i < k then v.snd i else 0))])).2 ∧ (((cvtL false [(0, ⟨false, 1, (v.fst), (fun i_1 => (if (i_1 = k) then [.p (.int .i64 (v.snd k))] else [.p (.int .i64 (if i_1 < k then v.snd i_1 else 0))]))⟩)] [0] 1 (if (i = k) then [.p (.int .i64 (v.snd k))] else [.p (.int .i64 (if i < k then v.snd i else 0))])).1 : List AV) = [.p (.int .i64 (if i < k + 1 then v.snd i else 0))]))))]) := by kernel_rfl

theorem p_toIntS_c (v : T_IntS) (k : Nat) :
    pathOb Try.prog Try.f51 0 [.reg [oT, oT, oT, oT], .dec false, .reg [oT, oT]] [.code (cAt (bodyOf Try.f51) [1, 1, 0, 1, 0, 0]), .inLoop (cAt (bodyOf Try.f51) [1, 1, 0, 1, 0, 0]), .inBlock 0, .code (cAt (bodyOf Try.f51) [1, 1, 1])] (S_toIntS v k) [0] 1 [(0, ⟨false, 1, v.1, fun i => [.p (.int .i64 ((v.2 i)))]⟩)] (.ar 1 0 0 (v.1)) =
    some [((decide ((↑k : Int) < (↑v.fst : Int))) = false),
  ((0 : Nat) = 0),
  (((v.fst) : Nat) = (v.fst)),
  ((1 : Nat) = 1),
  (((v.fst) : Nat) ≤ (v.fst)),
  (∀ i : Nat, ((((i) : Nat) < (v.fst)) → (All [] ∧ (([.p (.int .i64 (if i < k then v.snd i else 0))] : List AV) = [.p (.int .i64 (v.snd i))])))),
  (∀ i : Nat, ((((i) : Nat) < (v.fst)) → All []))] := by kernel_rfl

theorem p_toPinned (v : T_Pinned) :
    pathOb Try.prog Try.f13 0 [.reg [oT, oT], .reg [oT], .reg [oT, oT, ⟨true, (some ⟨[], [], 1, [(0, ⟨false, 2, v.1.2.1.1, fun i => [.p (.int .i64 ((v.1.2.1.2 i).1)), .p (.int .i64 ((v.1.2.1.2 i).2.1))]⟩)], .agg [.p (.int .i64 (v.1.1)), .ar 2 0 0 (v.1.2.1.1)]⟩), none⟩, oT, oT], .reg [oT, oT, ⟨true, (some ⟨[], [], 1, [(0, ⟨false, 1, v.2.1.1, fun i => [.p (.int .i64 ((v.2.1.2 i)))]⟩)], .ar 1 0 0 (v.2.1.1)⟩), none⟩, oT, oT], .reg [oT, oT]] [.code (bodyOf Try.f13)] (start Try.f13 [] 0 [.agg [.p (.int .i64 (v.1.1)), .p (.seq true 2 (v.1.2.1.1) (fun i => [.int .i64 ((v.1.2.1.2 i).1), .int .i64 ((v.1.2.1.2 i).2.1)])), .p (.seq true 1 (v.2.1.1) (fun i => [.int .i64 ((v.2.1.2 i))]))]]) [160, 320] 1 [(0, ⟨false, 2, v.1.2.1.1, fun i => [.p (.int .i64 ((v.1.2.1.2 i).1)), .p (.int .i64 ((v.1.2.1.2 i).2.1))]⟩), (1, ⟨false, 1, v.2.1.1, fun i => [.p (.int .i64 ((v.2.1.2 i)))]⟩)] (.agg [.p (.int .i64 (v.1.1)), .ar 2 0 0 (v.1.2.1.1), .ar 1 1 0 (v.2.1.1)]) =
    some [((0 : Nat) < 1),
  Con (Try.prog) 33 0 [] [.agg [.p (.int .i64 (v.fst.fst)), .p (.seq true 2 (v.fst.snd.fst.fst) (fun i => [.int .i64 ((v.fst.snd.fst.snd i).fst), .int .i64 ((v.fst.snd.fst.snd i).snd.fst)]))]] [(0, ⟨false, 2, (v.fst.snd.fst.fst), (fun i => [.p (.int .i64 ((v.fst.snd.fst.snd i).fst)), .p (.int .i64 ((v.fst.snd.fst.snd i).snd.fst))])⟩)] (.agg [.p (.int .i64 (v.fst.fst)), .ar 2 0 0 (v.fst.snd.fst.fst)]),
  ((0 : Nat) < 1),
  (((true) = true) → ((1 : Nat) = 1)),
  ((0 : Nat) < 1),
  Con (Try.prog) 51 0 [] [.p (.seq true 1 (v.snd.fst.fst) (fun i => [.int .i64 (v.snd.fst.snd i)]))] [(0, ⟨false, 1, (v.snd.fst.fst), (fun i => [.p (.int .i64 (v.snd.fst.snd i))])⟩)] (.ar 1 0 0 (v.snd.fst.fst)),
  ((0 : Nat) < 1),
  (((true) = true) → ((1 : Nat) = 1)),
  ((0 : Nat) < 1),
  ((0 : Nat) < 1),
  (((true) = true) → ((1 : Nat) = 1)),
  ((0 : Nat) < 1),
  (((v.fst.fst) : Int) = (v.fst.fst)),
  ((0 : Nat) = 0),
  (((v.fst.snd.fst.fst) : Nat) = (v.fst.snd.fst.fst)),
  ((0 : Nat) = 0),
  (((v.snd.fst.fst) : Nat) = (v.snd.fst.fst)),
  ((2 : Nat) = 2),
  (((v.fst.snd.fst.fst) : Nat) ≤ (v.fst.snd.fst.fst)),
  (∀ i : Nat, ((((i) : Nat) < (v.fst.snd.fst.fst)) → (All [] ∧ (([.p (.int .i64 ((v.fst.snd.fst.snd i).fst)), .p (.int .i64 ((v.fst.snd.fst.snd i).snd.fst))] : List AV) = [.p (.int .i64 ((v.fst.snd.fst.snd i).fst)), .p (.int .i64 ((v.fst.snd.fst.snd i).snd.fst))])))),
  ((1 : Nat) = 1),
  (((v.snd.fst.fst) : Nat) ≤ (v.snd.fst.fst)),
  (∀ i : Nat, ((((i) : Nat) < (v.snd.fst.fst)) → (All [] ∧ (([.p (.int .i64 (v.snd.fst.snd i))] : List AV) = [.p (.int .i64 (v.snd.fst.snd i))])))),
  (∀ i : Nat, ((((i) : Nat) < (v.fst.snd.fst.fst)) → All [])),
  (∀ i : Nat, ((((i) : Nat) < (v.snd.fst.fst)) → All []))] := by kernel_rfl

theorem p_eqBar (v : T_Bar) :
    pathOb Try.prog Try.f64 0 [.reg [oT, oT, oT], .reg [oT, oT, oT, oT, oT], .dec false, .reg [oT, oT, oT, oT, oT], .dec false, .reg [oT]] [.code (bodyOf Try.f64)] (start Try.f64 [] 0 [.agg [.p (.int .i64 (v.1)), .p (.int .i64 (v.2.1))], .agg [.p (.int .i64 (v.1)), .p (.int .i64 (v.2.1))]]) [] 1 [] (.p (.bool true)) =
    some [((0 : Nat) < 1),
  ((0 : Nat) < 1),
  ((v.fst != v.fst) = false),
  ((0 : Nat) < 1),
  ((0 : Nat) < 1),
  ((v.snd.fst != v.snd.fst) = false),
  (true = true)] := by kernel_rfl

theorem p_eqBarS_a (v : T_BarS) :
    pieceOb Try.prog 0 [.reg [oT], .reg [oT, oT, oT, oT, oT], .dec false, .reg [oT], .head] [.code (bodyOf Try.f20)] (start Try.f20 [] 0 [.p (.seq true 2 (v.1) (fun i => [.int .i64 ((v.2 i).1), .int .i64 ((v.2 i).2.1)])), .p (.seq true 2 (v.1) (fun i => [.int .i64 ((v.2 i).1), .int .i64 ((v.2 i).2.1)]))]) [] 1 (S_eqBarS v 0) =
    some ([.code (cAt (bodyOf Try.f20) [1, 1, 0, 1, 0, 0]), .inLoop (cAt (bodyOf Try.f20) [1, 1, 0, 1, 0, 0]), .inBlock 0, .code (cAt (bodyOf Try.f20) [1, 1, 1])], [(((↑v.fst : Int) != (↑v.fst : Int)) = false),
  (((v.fst) : Nat) = (v.fst)),
  (∀ i : Nat, ((((i) : Nat) < (v.fst)) → (([.int .i64 ((v.snd i).fst), .int .i64 ((v.snd i).snd.fst)] : List PV) = [.int .i64 ((v.snd i).fst), .int .i64 ((v.snd i).snd.fst)]))),
  (((v.fst) : Nat) = (v.fst)),
  (∀ i : Nat, ((((i) : Nat) < (v.fst)) → (([.int .i64 ((v.snd i).fst), .int .i64 ((v.snd i).snd.fst)] : List PV) = [.int .i64 ((v.snd i).fst), .int .i64 ((v.snd i).snd.fst)]))),
  ((0 : Int) = ((↑0 : Int)))]) := by kernel_rfl

theorem p_eqBarS_b (v : T_BarS) (k : Nat) :
    pieceOb Try.prog 0 [.reg [oT, oT, oT, oT], .dec true, .reg [oT, oT, oT, oT, oT, oT, oT, oT, ⟨true, (some ⟨[], [], 1, [], .p (.bool true)⟩), none⟩, oT], .dec false, .reg [oT, oT, oT], .head] [.code (cAt (bodyOf Try.f20) [1, 1, 0, 1, 0, 0]), .inLoop (cAt (bodyOf Try.f20) [1, 1, 0, 1, 0, 0]), .inBlock 0, .code (cAt (bodyOf Try.f20) [1, 1, 1])] (S_eqBarS v k) [] 1 (S_eqBarS v (k + 1)) =
    some ([.code (cAt (bodyOf Try.f20) [1, 1, 0, 1, 0, 0]), .inLoop (cAt (bodyOf Try.f20) [1, 1, 0, 1, 0, 0]), .inBlock 0, .code (cAt (bodyOf Try.f20) [1, 1, 1])], [((decide ((↑k : Int) < (↑v.fst : Int))) = true),
  ((0 : Int) ≤ ((↑k : Int))),
  ((((↑k : Int)) : Int) < ((↑v.fst : Int))),
  ((0 : Int) ≤ ((↑k : Int))),
  ((((↑k : Int)) : Int) < ((↑v.fst : Int))),
  Con (Try.prog) 64 0 [] [.agg [.p (.int .i64 ((v.snd k).fst)), .p (.int .i64 ((v.snd k).snd.fst))], .agg [.p (.int .i64 ((v.snd k).fst)), .p (.int .i64 ((v.snd k).snd.fst))]] [] (.p (.bool true)),
  ((!true) = false),
  (((-9223372036854775808) : Int) ≤ ((↑k : Int) + 1)),
  ((((↑k : Int) + 1) : Int) ≤ 9223372036854775807),
  (((v.fst) : Nat) = (v.fst)),
  (∀ i : Nat, ((((i) : Nat) < (v.fst)) → (([.int .i64 ((v.snd i).fst), .int .i64 ((v.snd i).snd.fst)] : List PV) = [.int .i64 ((v.snd i).fst), .int .i64 ((v.snd i).snd.fst)]))),
  (((v.fst) : Nat) = (v.fst)),
  (∀ i : Nat, ((((i) : Nat) < (v.fst)) → (([.int .i64 ((v.snd i).fst), .int .i64 ((v.snd i).snd.fst)] : List PV) = [.int .i64 ((v.snd i).fst), .int .i64 ((v.snd i).snd.fst)]))),
  ((((↑k : Int) + 1) : Int) = ((↑(k + 1) : Int)))]) := by kernel_rfl

theorem p_eqBarS_c (v : T_BarS) (k : Nat) :
    pathOb Try.prog Try.f20 0 [.reg [oT, oT, oT, oT], .dec false, .reg [oT]] [.code (cAt (bodyOf Try.f20) [1, 1, 0, 1, 0, 0]), .inLoop (cAt (bodyOf Try.f20) [1, 1, 0, 1, 0, 0]), .inBlock 0, .code (cAt (bodyOf Try.f20) [1, 1, 1])] (S_eqBarS v k) [] 1 [] (.p (.bool true)) =
    some [((decide ((↑k : Int) < (↑v.fst : Int))) = false),
  (true = true)] := by kernel_rfl

theorem p_eqGraph (v : T_Graph) :
    pathOb Try.prog Try.f35 0 [.reg [oT, oT, oT], .reg [oT, oT, oT, oT, oT], .dec false, .reg [oT, oT, oT, oT, ⟨true, (some ⟨[], [], 1, [], .p (.bool true)⟩), none⟩, oT], .dec false, .reg [oT]] [.code (bodyOf Try.f35)] (start Try.f35 [] 0 [.agg [.p (.int .i64 (v.1)), .p (.seq true 2 (v.2.1.1) (fun i => [.int .i64 ((v.2.1.2 i).1), .int .i64 ((v.2.1.2 i).2.1)]))], .agg [.p (.int .i64 (v.1)), .p (.seq true 2 (v.2.1.1) (fun i => [.int .i64 ((v.2.1.2 i).1), .int .i64 ((v.2.1.2 i).2.1)]))]]) [] 1 [] (.p (.bool true)) =
    some [((0 : Nat) < 1),
  ((0 : Nat) < 1),
  ((v.fst != v.fst) = false),
  ((0 : Nat) < 1),
  ((0 : Nat) < 1),
  Con (Try.prog) 20 0 [] [.p (.seq true 2 (v.snd.fst.fst) (fun i => [.int .i64 ((v.snd.fst.snd i).fst), .int .i64 ((v.snd.fst.snd i).snd.fst)])), .p (.seq true 2 (v.snd.fst.fst) (fun i => [.int .i64 ((v.snd.fst.snd i).fst), .int .i64 ((v.snd.fst.snd i).snd.fst)]))] [] (.p (.bool true)),
  ((!true) = false),
  (true = true)] := by kernel_rfl

theorem p_eqIntS_a (v : T_IntS) :
    pieceOb Try.prog 0 [.reg [oT], .reg [oT, oT, oT, oT, oT], .dec false, .reg [oT], .head] [.code (bodyOf Try.f58)] (start Try.f58 [] 0 [.p (.seq true 1 (v.1) (fun i => [.int .i64 ((v.2 i))])), .p (.seq true 1 (v.1) (fun i => [.int .i64 ((v.2 i))]))]) [] 1 (S_eqIntS v 0) =
    some ([.code (cAt (bodyOf Try.f58) [1, 1, 0, 1, 0, 0]), .inLoop (cAt (bodyOf Try.f58) [1, 1, 0, 1, 0, 0]), .inBlock 0, .code (cAt (bodyOf Try.f58) [1, 1, 1])], [(((↑v.fst : Int) != (↑v.fst : Int)) = false),
  (((v.fst) : Nat) = (v.fst)),
  (∀ i : Nat, ((((i) : Nat) < (v.fst)) → (([.int .i64 (v.snd i)] : List PV) = [.int .i64 (v.snd i)]))),
  (((v.fst) : Nat) = (v.fst)),
  (∀ i : Nat, ((((i) : Nat) < (v.fst)) → (([.int .i64 (v.snd i)] : List PV) = [.int .i64 (v.snd i)]))),
  ((0 : Int) = ((↑0 : Int)))]) := by kernel_rfl

theorem p_eqIntS_b (v : T_IntS) (k : Nat) :
    pieceOb Try.prog 0 [.reg [oT, oT, oT, oT], .dec true, .reg [oT, oT, oT, oT, oT, oT, oT, oT, oT], .dec false, .reg [oT, oT, oT], .head] [.code (cAt (bodyOf Try.f58) [1, 1, 0, 1, 0, 0]), .inLoop (cAt (bodyOf Try.f58) [1, 1, 0, 1, 0, 0]), .inBlock 0, .code (cAt (bodyOf Try.f58) [1, 1, 1])] (S_eqIntS v k) [] 1 (S_eqIntS v (k + 1)) =
    some ([.code (cAt (bodyOf Try.f58) [1, 1, 0, 1, 0, 0]), .inLoop (cAt (bodyOf Try.f58) [1, 1, 0, 1, 0, 0]), .inBlock 0, .code (cAt (bodyOf Try.f58) [1, 1, 1])], [((decide ((↑k : Int) < (↑v.fst : Int))) = true),
  ((0 : Int) ≤ ((↑k : Int))),
  ((((↑k : Int)) : Int) < ((↑v.fst : Int))),
  ((0 : Int) ≤ ((↑k : Int))),
  ((((↑k : Int)) : Int) < ((↑v.fst : Int))),
  ((v.snd k != v.snd k) = false),
  (((-9223372036854775808) : Int) ≤ ((↑k : Int) + 1)),
  ((((↑k : Int) + 1) : Int) ≤ 9223372036854775807),
  (((v.fst) : Nat) = (v.fst)),
  (∀ i : Nat, ((((i) : Nat) < (v.fst)) → (([.int .i64 (v.snd i)] : List PV) = [.int .i64 (v.snd i)]))),
  (((v.fst) : Nat) = (v.fst)),
  (∀ i : Nat, ((((i) : Nat) < (v.fst)) → (([.int .i64 (v.snd i)] : List PV) = [.int .i64 (v.snd i)]))),
  ((((↑k : Int) + 1) : Int) = ((↑(k + 1) : Int)))]) := by kernel_rfl

theorem p_eqIntS_c (v : T_IntS) (k : Nat) :
    pathOb Try.prog Try.f58 0 [.reg [oT, oT, oT, oT], .dec false, .reg [oT]] [.code (cAt (bodyOf Try.f58) [1, 1, 0, 1, 0, 0]), .inLoop (cAt (bodyOf Try.f58) [1, 1, 0, 1, 0, 0]), .inBlock 0, .code (cAt (bodyOf Try.f58) [1, 1, 1])] (S_eqIntS v k) [] 1 [] (.p (.bool true)) =
    some [((decide ((↑k : Int) < (↑v.fst : Int))) = false),
  (true = true)] := by kernel_rfl

theorem p_eqPinned (v : T_Pinned) :
    pathOb Try.prog Try.f15 0 [.reg [oT, oT, oT], .reg [oT, oT, oT, oT, ⟨true, (some ⟨[], [], 1, [], .p (.bool true)⟩), none⟩, oT], .dec false, .reg [oT, oT, oT, oT, ⟨true, (some ⟨[], [], 1, [], .p (.bool true)⟩), none⟩, oT], .dec false, .reg [oT]] [.code (bodyOf Try.f15)] (start Try.f15 [] 0 [.agg [.p (.int .i64 (v.1.1)), .p (.seq true 2 (v.1.2.1.1) (fun i => [.int .i64 ((v.1.2.1.2 i).1), .int .i64 ((v.1.2.1.2 i).2.1)])), .p (.seq true 1 (v.2.1.1) (fun i => [.int .i64 ((v.2.1.2 i))]))], .agg [.p (.int .i64 (v.1.1)), .p (.seq true 2 (v.1.2.1.1) (fun i => [.int .i64 ((v.1.2.1.2 i).1), .int .i64 ((v.1.2.1.2 i).2.1)])), .p (.seq true 1 (v.2.1.1) (fun i => [.int .i64 ((v.2.1.2 i))]))]]) [] 1 [] (.p (.bool true)) =
    some [((0 : Nat) < 1),
  ((0 : Nat) < 1),
  Con (Try.prog) 35 0 [] [.agg [.p (.int .i64 (v.fst.fst)), .p (.seq true 2 (v.fst.snd.fst.fst) (fun i => [.int .i64 ((v.fst.snd.fst.snd i).fst), .int .i64 ((v.fst.snd.fst.snd i).snd.fst)]))], .agg [.p (.int .i64 (v.fst.fst)), .p (.seq true 2 (v.fst.snd.fst.fst) (fun i => [.int .i64 ((v.fst.snd.fst.snd i).fst), .int .i64 ((v.fst.snd.fst.snd i).snd.fst)]))]] [] (.p (.bool true)),
  ((!true) = false),
  ((0 : Nat) < 1),
  ((0 : Nat) < 1),
  Con (Try.prog) 58 0 [] [.p (.seq true 1 (v.snd.fst.fst) (fun i => [.int .i64 (v.snd.fst.snd i)])), .p (.seq true 1 (v.snd.fst.fst) (fun i => [.int .i64 (v.snd.fst.snd i)]))] [] (.p (.bool true)),
  ((!true) = false),
  (true = true)] := by kernel_rfl

theorem p_seBarS_z (v u : T_BarS) :
    pathOb Try.prog Try.f119 0 [.reg [oT], .reg [oT, oT, oT, oT, oT], .dec true, .reg [oT]] [.code (bodyOf Try.f119)] (start Try.f119 [] 0 [.p (.seq true 2 (v.1) (fun i => [.int .i64 ((v.2 i).1), .int .i64 ((v.2 i).2.1)])), .p (.seq true 2 (u.1) (fun i => [.int .i64 ((u.2 i).1), .int .i64 ((u.2 i).2.1)]))]) [] 1 [] (.p (.bool false)) =
    some [(((↑v.fst : Int) != (↑u.fst : Int)) = true),
  (false = false)] := by kernel_rfl

theorem p_seBarS_a (v u : T_BarS) :
    pieceOb Try.prog 0 [.reg [oT], .reg [oT, oT, oT, oT, oT], .dec false, .reg [oT, oT, oT], .head] [.code (bodyOf Try.f119)] (start Try.f119 [] 0 [.p (.seq true 2 (v.1) (fun i => [.int .i64 ((v.2 i).1), .int .i64 ((v.2 i).2.1)])), .p (.seq true 2 (u.1) (fun i => [.int .i64 ((u.2 i).1), .int .i64 ((u.2 i).2.1)]))]) [] 1 (S_seBarS v u 0) =
    some ([.code (cAt (bodyOf Try.f119) [1, 1, 0, 1, 0, 0]), .inLoop (cAt (bodyOf Try.f119) [1, 1, 0, 1, 0, 0]), .inBlock 0, .code (cAt (bodyOf Try.f119) [1, 1, 1])], [(((↑v.fst : Int) != (↑u.fst : Int)) = false),
  (((v.fst) : Nat) = (v.fst)),
  (∀ i : Nat, ((((i) : Nat) < (v.fst)) → (([.int .i64 ((v.snd i).fst), .int .i64 ((v.snd i).snd.fst)] : List PV) = [.int .i64 ((v.snd i).fst), .int .i64 ((v.snd i).snd.fst)]))),
  (((u.fst) : Nat) = (u.fst)),
  (∀ i : Nat, ((((i) : Nat) < (u.fst)) → (([.int .i64 ((u.snd i).fst), .int .i64 ((u.snd i).snd.fst)] : List PV) = [.int .i64 ((u.snd i).fst), .int .i64 ((u.snd i).snd.fst)]))),
  ((((↑v.fst : Int)) : Int) = ((↑v.fst : Int))),
  ((0 : Int) = ((↑0 : Int)))]) := by kernel_rfl

theorem p_seBarS_b (v u : T_BarS) (k : Nat) :
    pieceOb Try.prog 0 [.reg [oT], .dec true, .reg [oT, oT], .reg [oT, oT, oT, oT, oT, oT, oT, oT, oT], .dec false, .reg [oT, oT], .head] [.code (cAt (bodyOf Try.f119) [1, 1, 0, 1, 0, 0]), .inLoop (cAt (bodyOf Try.f119) [1, 1, 0, 1, 0, 0]), .inBlock 0, .code (cAt (bodyOf Try.f119) [1, 1, 1])] (S_seBarS v u k) [] 1 (S_seBarS v u (k + 1)) =
    some ([.code (cAt (bodyOf Try.f119) [1, 1, 0, 1, 0, 0]), .inLoop (cAt (bodyOf Try.f119) [1, 1, 0, 1, 0, 0]), .inBlock 0, .code (cAt (bodyOf Try.f119) [1, 1, 1])], [((decide ((↑k : Int) < (↑v.fst : Int))) = true),
  ((0 : Int) ≤ ((↑k : Int))),
  ((((↑k : Int)) : Int) < ((↑v.fst : Int))),
  ((0 : Int) ≤ ((↑k : Int))),
  ((((↑k : Int)) : Int) < ((↑u.fst : Int))),
  ((!((v.snd k).fst == (u.snd k).fst && ((v.snd k).snd.fst == (u.snd k).snd.fst && true))) = false),
  (((-9223372036854775808) : Int) ≤ ((↑k : Int) + 1)),
  ((((↑k : Int) + 1) : Int) ≤ 9223372036854775807),
  (((v.fst) : Nat) = (v.fst)),
  (∀ i : Nat, ((((i) : Nat) < (v.fst)) → (([.int .i64 ((v.snd i).fst), .int .i64 ((v.snd i).snd.fst)] : List PV) = [.int .i64 ((v.snd i).fst), .int .i64 ((v.snd i).snd.fst)]))),
  (((u.fst) : Nat) = (u.fst)),
  (∀ i : Nat, ((((i) : Nat) < (u.fst)) → (([.int .i64 ((u.snd i).fst), .int .i64 ((u.snd i).snd.fst)] : List PV) = [.int .i64 ((u.snd i).fst), .int .i64 ((u.snd i).snd.fst)]))),
  ((((↑v.fst : Int)) : Int) = ((↑v.fst : Int))),
  ((((↑k : Int) + 1) : Int) = ((↑(k + 1) : Int)))]) := by kernel_rfl

theorem p_seBarS_c (v u : T_BarS) (k : Nat) :
    pathOb Try.prog Try.f119 0 [.reg [oT], .dec true, .reg [oT, oT], .reg [oT, oT, oT, oT, oT, oT, oT, oT, oT], .dec true, .reg [oT]] [.code (cAt (bodyOf Try.f119) [1, 1, 0, 1, 0, 0]), .inLoop (cAt (bodyOf Try.f119) [1, 1, 0, 1, 0, 0]), .inBlock 0, .code (cAt (bodyOf Try.f119) [1, 1, 1])] (S_seBarS v u k) [] 1 [] (.p (.bool false)) =
    some [((decide ((↑k : Int) < (↑v.fst : Int))) = true),
  ((0 : Int) ≤ ((↑k : Int))),
  ((((↑k : Int)) : Int) < ((↑v.fst : Int))),
  ((0 : Int) ≤ ((↑k : Int))),
  ((((↑k : Int)) : Int) < ((↑u.fst : Int))),
  ((!((v.snd k).fst == (u.snd k).fst && ((v.snd k).snd.fst == (u.snd k).snd.fst && true))) = true),
  (false = false)] := by kernel_rfl

theorem p_seBarS_d (v u : T_BarS) (k : Nat) :
    pathOb Try.prog Try.f119 0 [.reg [oT], .dec false, .reg [oT]] [.code (cAt (bodyOf Try.f119) [1, 1, 0, 1, 0, 0]), .inLoop (cAt (bodyOf Try.f119) [1, 1, 0, 1, 0, 0]), .inBlock 0, .code (cAt (bodyOf Try.f119) [1, 1, 1])] (S_seBarS v u k) [] 1 [] (.p (.bool true)) =
    some [((decide ((↑k : Int) < (↑v.fst : Int))) = false),
  (true = true)] := by kernel_rfl

theorem p_markIntS_a (v : T_IntS) (m : Int) :
    pieceOb Try.prog 1 [.reg [oT], .reg [oT], .head] [.code (bodyOf Try.f65)] (start Try.f65 [(0, ⟨false, 1, v.1, fun i => [.p (.int .i64 ((v.2 i)))]⟩)] 1 [.ar 1 0 0 v.1, .p (.int .i64 m)]) [0] 1 (S_markIntS v m 0) =
    some ([.code (cAt (bodyOf Try.f65) [1, 0, 1, 0, 0]), .inLoop (cAt (bodyOf Try.f65) [1, 0, 1, 0, 0]), .inBlock 0, .code (cAt (bodyOf Try.f65) [1, 1])], [((0 : Nat) = 0),
  (((v.fst) : Nat) = (v.fst)),
  (((m) : Int) = (m + (↑0 : Int))),
  ((0 : Int) = ((↑0 : Int))),
  ((1 : Nat) = 1),
  (((v.fst) : Nat) ≤ (v.fst)),
  (∀ i : Nat, ((((i) : Nat) < (v.fst)) → (All [] ∧ (([.p (.int .i64 (v.snd i))] : List AV) = [.p (.int .i64 (if i < 0 then m + (↑i : Int) else v.snd i))]))))]) := by kernel_rfl

theorem p_markIntS_b0 (v : T_IntS) (m : Int) (k : Nat) :
    pieceOb Try.prog 1 [.reg [oT, oT, oT, oT], .dec true, .reg [oT, oT, oT, oT, oT], .reg [oT, oT, oT], .reg [oT, oT, oT], .head] [.code (cAt (bodyOf Try.f65) [1, 0, 1, 0, 0]), .inLoop (cAt (bodyOf Try.f65) [1, 0, 1, 0, 0]), .inBlock 0, .code (cAt (bodyOf Try.f65) [1, 1])] (S_markIntS v m k) [0] 1 (S_markIntS v m (k + 1)) =
    some ([.code (cAt (bodyOf Try.f65) [1, 0, 1, 0, 0]), .inLoop (cAt (bodyOf Try.f65) [1, 0, 1, 0, 0]), .inBlock 0, .code (cAt (bodyOf Try.f65) [1, 1])], [((decide ((↑k : Int) < (↑v.fst : Int))) = true),
  ((0 : Int) ≤ ((↑k : Int))),
  ((((↑k : Int)) : Int) < ((↑v.fst : Int))),
  (((k) : Nat) < (v.fst)),
  (((false) = true) → (((v.fst) : Nat) = 1)),
  (((-9223372036854775808) : Int) ≤ (m + (↑k : Int) + 1)),
  (((m + (↑k : Int) + 1) : Int) ≤ 9223372036854775807),
  (((-9223372036854775808) : Int) ≤ ((↑k : Int) + 1)),
  ((((↑k : Int) + 1) : Int) ≤ 9223372036854775807),
  ((0 : Nat) = 0),
  (((v.fst) : Nat) = (v.fst)),
  (((m + (↑k : Int) + 1) : Int) = (m + (↑(k + 1) : Int))),
  ((((↑k : Int) + 1) : Int) = ((↑(k + 1) : Int))),
  ((1 : Nat) = 1),
  (((v.fst) : Nat) ≤ (v.fst)),
  (∀ i : Nat, ((((i) : Nat) < (v.fst)) → (All (cvtL false [(0, ⟨false, 1, (v.fst), (fun i_1 => (if (i_1 = k) then [.p (.int .i64 (m + (↑k : Int)))] else [.p (.int .i64 (if i_1 < k then m + (↑i_1 : Int) else v.snd i_1))]))⟩)] [0] 1 (if (i = k) then [.p (.int .i64 (m + (↑k : Int)))] else [.p (.int .i64 (if i < k then m + (↑i : Int) else v.snd i))])).2 ∧ (((cvtL false [(0, ⟨false, 1, (v.fst), (fun i_1 => (if (i_1 = k) then [.p (.int .i64 (m + (↑k : Int)))] else [.p (.int .i64 (if i_1 < k then m + (↑i_1 : Int) else v.snd i_1))]))⟩)] [0] 1 (if (i = k) then [.p (.int .i64 (m + (↑k : Int)))] else [.p (.int .i64 (if i < k then m + (↑i : Int) else v.snd i))])).1 : List AV) = [.p (.int .i64 (if i < k + 1 then m + (↑i : Int) else v.snd i))]))))]) := by kernel_rfl

theorem p_markIntS_c (v : T_IntS) (m : Int) (k : Nat) :
    pathOb Try.prog Try.f65 1 [.reg [oT, oT, oT, oT], .dec false, .reg [oT, oT]] [.code (cAt (bodyOf Try.f65) [1, 0, 1, 0, 0]), .inLoop (cAt (bodyOf Try.f65) [1, 0, 1, 0, 0]), .inBlock 0, .code (cAt (bodyOf Try.f65) [1, 1])] (S_markIntS v m k) [0] 1 [(0, ⟨false, 1, v.1, fun i => [.p (.int .i64 (m + (i : Int)))]⟩)] (.p (.int .i64 (m + (v.1 : Int)))) =
    some [((decide ((↑k : Int) < (↑v.fst : Int))) = false),
  (((m + (↑k : Int)) : Int) = (m + (↑v.fst : Int))),
  ((1 : Nat) = 1),
  (((v.fst) : Nat) ≤ (v.fst)),
  (∀ i : Nat, ((((i) : Nat) < (v.fst)) → (All [] ∧ (([.p (.int .i64 (if i < k then m + (↑i : Int) else v.snd i))] : List AV) = [.p (.int .i64 (m + (↑i : Int)))])))),
  (∀ i : Nat, ((((i) : Nat) < (v.fst)) → All []))] := by kernel_rfl

theorem p_heldIntS_a (n : Nat) (m : Int) :
    pieceOb Try.prog 0 [.reg [oT], .reg [oT], .head] [.code (bodyOf Try.f66)] (start Try.f66 [] 0 [.p (.seq true 1 n (fun i => [.int .i64 (m + (i : Int))])), .p (.int .i64 m)]) [] 1 (S_heldIntS n m 0) =
    some ([.code (cAt (bodyOf Try.f66) [1, 0, 1, 0, 0]), .inLoop (cAt (bodyOf Try.f66) [1, 0, 1, 0, 0]), .inBlock 0, .code (cAt (bodyOf Try.f66) [1, 1])], [(((n) : Nat) = (n)),
  (∀ i : Nat, ((((i) : Nat) < (n)) → (([.int .i64 (m + (↑i : Int))] : List PV) = [.int .i64 (m + (↑i : Int))]))),
  (((m) : Int) = (m + (↑0 : Int))),
  ((0 : Int) = ((↑0 : Int)))]) := by kernel_rfl

theorem p_heldIntS_b (n : Nat) (m : Int) (k : Nat) :
    pieceOb Try.prog 0 [.reg [oT, oT, oT, oT], .dec true, .reg [oT, oT, oT, oT, oT, oT], .dec false, .reg [oT, oT, oT], .reg [oT, oT, oT], .head] [.code (cAt (bodyOf Try.f66) [1, 0, 1, 0, 0]), .inLoop (cAt (bodyOf Try.f66) [1, 0, 1, 0, 0]), .inBlock 0, .code (cAt (bodyOf Try.f66) [1, 1])] (S_heldIntS n m k) [] 1 (S_heldIntS n m (k + 1)) =
    some ([.code (cAt (bodyOf Try.f66) [1, 0, 1, 0, 0]), .inLoop (cAt (bodyOf Try.f66) [1, 0, 1, 0, 0]), .inBlock 0, .code (cAt (bodyOf Try.f66) [1, 1])], [((decide ((↑k : Int) < (↑n : Int))) = true),
  ((0 : Int) ≤ ((↑k : Int))),
  ((((↑k : Int)) : Int) < ((↑n : Int))),
  ((m + (↑k : Int) != m + (↑k : Int)) = false),
  (((-9223372036854775808) : Int) ≤ (m + (↑k : Int) + 1)),
  (((m + (↑k : Int) + 1) : Int) ≤ 9223372036854775807),
  (((-9223372036854775808) : Int) ≤ ((↑k : Int) + 1)),
  ((((↑k : Int) + 1) : Int) ≤ 9223372036854775807),
  (((n) : Nat) = (n)),
  (∀ i : Nat, ((((i) : Nat) < (n)) → (([.int .i64 (m + (↑i : Int))] : List PV) = [.int .i64 (m + (↑i : Int))]))),
  (((m + (↑k : Int) + 1) : Int) = (m + (↑(k + 1) : Int))),
  ((((↑k : Int) + 1) : Int) = ((↑(k + 1) : Int)))]) := by kernel_rfl

theorem p_heldIntS_c (n : Nat) (m : Int) (k : Nat) :
    pathOb Try.prog Try.f66 0 [.reg [oT, oT, oT, oT], .dec false, .reg [oT, oT]] [.code (cAt (bodyOf Try.f66) [1, 0, 1, 0, 0]), .inLoop (cAt (bodyOf Try.f66) [1, 0, 1, 0, 0]), .inBlock 0, .code (cAt (bodyOf Try.f66) [1, 1])] (S_heldIntS n m k) [] 1 [] (.p (.int .i64 (m + (n : Int)))) =
    some [((decide ((↑k : Int) < (↑n : Int))) = false),
  (((m + (↑k : Int)) : Int) = (m + (↑n : Int)))] := by kernel_rfl

theorem p_markBarS_a (v : T_BarS) (m : Int) :
    pieceOb Try.prog 1 [.reg [oT], .reg [oT], .head] [.code (bodyOf Try.f22)] (start Try.f22 [(0, ⟨false, 2, v.1, fun i => [.p (.int .i64 ((v.2 i).1)), .p (.int .i64 ((v.2 i).2.1))]⟩)] 1 [.ar 2 0 0 v.1, .p (.int .i64 m)]) [0] 1 (S_markBarS v m 0) =
    some ([.code (cAt (bodyOf Try.f22) [1, 0, 1, 0, 0]), .inLoop (cAt (bodyOf Try.f22) [1, 0, 1, 0, 0]), .inBlock 0, .code (cAt (bodyOf Try.f22) [1, 1])], [((0 : Nat) = 0),
  (((v.fst) : Nat) = (v.fst)),
  (((m) : Int) = (m + 2 * (↑0 : Int))),
  ((0 : Int) = ((↑0 : Int))),
  ((2 : Nat) = 2),
  (((v.fst) : Nat) ≤ (v.fst)),
  (∀ i : Nat, ((((i) : Nat) < (v.fst)) → (All [] ∧ (([.p (.int .i64 ((v.snd i).fst)), .p (.int .i64 ((v.snd i).snd.fst))] : List AV) = [.p (.int .i64 (if i < 0 then m + 2 * (↑i : Int) else (v.snd i).fst)), .p (.int .i64 (if i < 0 then m + 2 * (↑i : Int) + 1 else (v.snd i).snd.fst))]))))]) := by kernel_rfl

theorem p_markBarS_b0 (v : T_BarS) (m : Int) (k : Nat) :
    pieceOb Try.prog 1 [.reg [oT, oT, oT, oT], .dec true, .reg [oT, oT, oT, oT, oT, oT], .reg [oT, oT, oT], .head] [.code (cAt (bodyOf Try.f22) [1, 0, 1, 0, 0]), .inLoop (cAt (bodyOf Try.f22) [1, 0, 1, 0, 0]), .inBlock 0, .code (cAt (bodyOf Try.f22) [1, 1])] (S_markBarS v m k) [0] 1 (S_markBarS_1 v m k) =
    some ([.code (cAt (bodyOf Try.f22) [1, 0, 1, 0, 0, 1, 0, 0, 1, 1, 0]), .code (cAt (bodyOf Try.f22) [1, 0, 1, 0, 0, 1, 0, 0, 1, 1, 1]), .inBlock 1, .code (cAt (bodyOf Try.f22) [1, 0, 1, 0, 0, 1, 1]), .inLoop (cAt (bodyOf Try.f22) [1, 0, 1, 0, 0]), .inBlock 0, .code (cAt (bodyOf Try.f22) [1, 1])], [((decide ((↑k : Int) < (↑v.fst : Int))) = true),
  ((0 : Int) ≤ ((↑k : Int))),
  ((((↑k : Int)) : Int) < ((↑v.fst : Int))),
  (((k) : Nat) < (v.fst)),
  (((false) = true) → (((v.fst) : Nat) = 1)),
  (((-9223372036854775808) : Int) ≤ (m + 2 * (↑k : Int) + 1)),
  (((m + 2 * (↑k : Int) + 1) : Int) ≤ 9223372036854775807),
  ((0 : Nat) = 0),
  (((v.fst) : Nat) = (v.fst)),
  (((m + 2 * (↑k : Int) + 1) : Int) = (m + 2 * (↑k : Int) + 1)),
  ((((↑k : Int)) : Int) = ((↑k : Int))),
  ((2 : Nat) = 2),
  (((v.fst) : Nat) ≤ (v.fst)),
  (∀ i : Nat, ((((i) : Nat) < (v.fst)) → (All (cvtL false [(0, ⟨false, 2, (v.fst), (fun i_1 => (if (i_1 = k) then [.p (.int .i64 (m + 2 * (↑k : Int))), .p (.int .i64 (if (↑k : Int).toNat + 0 < k then m + 2 * (↑k : Int) + 1 else (v.snd k).snd.fst))] else [.p (.int .i64 (if i_1 < k then m + 2 * (↑i_1 : Int) else (v.snd i_1).fst)), .p (.int .i64 (if i_1 < k then m + 2 * (↑i_1 : Int) + 1 else (v.snd i_1).snd.fst))]))⟩)] [0] 1 (if (i = k) then [.p (.int .i64 (m + 2 * (↑k : Int))), .p (.int .i64 (if (↑k : Int).toNat + 0 < k then m + 2 * (↑k : Int) + 1 else (v.snd k).snd.fst))] else [.p (.int .i64 (if i < k then m + 2 * (↑i : Int) else (v.snd i).fst)), .p (.int .i64 (if i < k then m + 2 * (↑i : Int) + 1 else (v.snd i).snd.fst))])).2 ∧ (((cvtL false [(0, ⟨false, 2, (v.fst), (fun i_1 => (if (i_1 = k) then [.p (.int .i64 (m + 2 * (↑k : Int))), .p (.int .i64 (if (↑k : Int).toNat + 0 < k then m + 2 * (↑k : Int) + 1 else (v.snd k).snd.fst))] else [.p (.int .i64 (if i_1 < k then m + 2 * (↑i_1 : Int) else (v.snd i_1).fst)), .p (.int .i64 (if i_1 < k then m + 2 * (↑i_1 : Int) + 1 else (v.snd i_1).snd.fst))]))⟩)] [0] 1 (if (i = k) then [.p (.int .i64 (m + 2 * (↑k : Int))), .p (.int .i64 (if (↑k : Int).toNat + 0 < k then m + 2 * (↑k : Int) + 1 else (v.snd k).snd.fst))] else [.p (.int .i64 (if i < k then m + 2 * (↑i : Int) else (v.snd i).fst)), .p (.int .i64 (if i < k then m + 2 * (↑i : Int) + 1 else (v.snd i).snd.fst))])).1 : List AV) = [.p (.int .i64 (if i < k + 1 then m + 2 * (↑i : Int) else (v.snd i).fst)), .p (.int .i64 (if i < k then m + 2 * (↑i : Int) + 1 else (v.snd i).snd.fst))]))))]) := by kernel_rfl

theorem p_markBarS_b1 (v : T_BarS) (m : Int) (k : Nat) :
    pieceOb Try.prog 1 [.reg [oT, oT, oT, oT, oT, oT], .reg [oT, oT, oT], .reg [oT, oT, oT], .head] [.code (cAt (bodyOf Try.f22) [1, 0, 1, 0, 0, 1, 0, 0, 1, 1, 0]), .code (cAt (bodyOf Try.f22) [1, 0, 1, 0, 0, 1, 0, 0, 1, 1, 1]), .inBlock 1, .code (cAt (bodyOf Try.f22) [1, 0, 1, 0, 0, 1, 1]), .inLoop (cAt (bodyOf Try.f22) [1, 0, 1, 0, 0]), .inBlock 0, .code (cAt (bodyOf Try.f22) [1, 1])] (S_markBarS_1 v m k) [0] 1 (S_markBarS v m (k + 1)) =
    some ([.code (cAt (bodyOf Try.f22) [1, 0, 1, 0, 0]), .inLoop (cAt (bodyOf Try.f22) [1, 0, 1, 0, 0]), .inBlock 0, .code (cAt (bodyOf Try.f22) [1, 1])], [((0 : Int) ≤ ((↑k : Int))),
  ((((↑k : Int)) : Int) < ((↑v.fst : Int))),
  (((k) : Nat) < (v.fst)),
  (((false) = true) → (((v.fst) : Nat) = 1)),
  (((-9223372036854775808) : Int) ≤ (m + 2 * (↑k : Int) + 1 + 1)),
  (((m + 2 * (↑k : Int) + 1 + 1) : Int) ≤ 9223372036854775807),
  (((-9223372036854775808) : Int) ≤ ((↑k : Int) + 1)),
  ((((↑k : Int) + 1) : Int) ≤ 9223372036854775807),
  ((0 : Nat) = 0),
  (((v.fst) : Nat) = (v.fst)),
  (((m + 2 * (↑k : Int) + 1 + 1) : Int) = (m + 2 * (↑(k + 1) : Int))),
  ((((↑k : Int) + 1) : Int) = ((↑(k + 1) : Int))),
  ((2 : Nat) = 2),
  (((v.fst) : Nat) ≤ (v.fst)),
  (∀ i : Nat, ((((i) : Nat) < (v.fst)) → (All (cvtL false [(0, ⟨false, 2, (v.fst), (fun i_1 => (if (i_1 = k) then [.p (.int .i64 (if (↑k : Int).toNat + 0 < k + 1 then m + 2 * (↑k : Int) else (v.snd k).fst)), .p (.int .i64 (m + 2 * (↑k : Int) + 1))] else [.p (.int .i64 (if i_1 < k + 1 then m + 2 * (↑i_1 : Int) else (v.snd i_1).fst)), .p (.int .i64 (if i_1 < k then m + 2 * (↑i_1 : Int) + 1 else (v.snd i_1).snd.fst))]))⟩)] [0] 1 (if (i = k) then [.p (.int .i64 (if (↑k : Int).toNat + 0 < k + 1 then m + 2 * (↑k : Int) else (v.snd k).fst)), .p (.int .i64 (m + 2 * (↑k : Int) + 1))] else [.p (.int .i64 (if i < k + 1 then m + 2 * (↑i : Int) else (v.snd i).fst)), .p (.int .i64 (if i < k then m + 2 * (↑i : Int) + 1 else (v.snd i).snd.fst))])).2 ∧ (((cvtL false [(0, ⟨false, 2, (v.fst), (fun i_1 => (if (i_1 = k) then [.p (.int .i64 (if (↑k : Int).toNat + 0 < k + 1 then m + 2 * (↑k : Int) else (v.snd k).fst)), .p (.int .i64 (m + 2 * (↑k : Int) + 1))] else [.p (.int .i64 (if i_1 < k + 1 then m + 2 * (↑i_1 : Int) else (v.snd i_1).fst)), .p (.int .i64 (if i_1 < k then m + 2 * (↑i_1 : Int) + 1 else (v.snd i_1).snd.fst))]))⟩)] [0] 1 (if (i = k) then [.p (.int .i64 (if (↑k : Int).toNat + 0 < k + 1 then m + 2 * (↑k : Int) else (v.snd k).fst)), .p (.int .i64 (m + 2 * (↑k : Int) + 1))] else [.p (.int .i64 (if i < k + 1 then m + 2 * (↑i : Int) else (v.snd i).fst)), .p (.int .i64 (if i < k then m + 2 * (↑i : Int) + 1 else (v.snd i).snd.fst))])).1 : List AV) = [.p (.int .i64 (if i < k + 1 then m + 2 * (↑i : Int) else (v.snd i).fst)), .p (.int .i64 (if i < k + 1 then m + 2 * (↑i : Int) + 1 else (v.snd i).snd.fst))]))))]) := by kernel_rfl

theorem p_markBarS_c (v : T_BarS) (m : Int) (k : Nat) :
    pathOb Try.prog Try.f22 1 [.reg [oT, oT, oT, oT], .dec false, .reg [oT, oT]] [.code (cAt (bodyOf Try.f22) [1, 0, 1, 0, 0]), .inLoop (cAt (bodyOf Try.f22) [1, 0, 1, 0, 0]), .inBlock 0, .code (cAt (bodyOf Try.f22) [1, 1])] (S_markBarS v m k) [0] 1 [(0, ⟨false, 2, v.1, fun i => [.p (.int .i64 (m + 2 * (i : Int))), .p (.int .i64 (m + 2 * (i : Int) + 1))]⟩)] (.p (.int .i64 (m + 2 * (v.1 : Int)))) =
    some [((decide ((↑k : Int) < (↑v.fst : Int))) = false),
  (((m + 2 * (↑k : Int)) : Int) = (m + 2 * (↑v.fst : Int))),
  ((2 : Nat) = 2),
  (((v.fst) : Nat) ≤ (v.fst)),
  (∀ i : Nat, ((((i) : Nat) < (v.fst)) → (All [] ∧ (([.p (.int .i64 (if i < k then m + 2 * (↑i : Int) else (v.snd i).fst)), .p (.int .i64 (if i < k then m + 2 * (↑i : Int) + 1 else (v.snd i).snd.fst))] : List AV) = [.p (.int .i64 (m + 2 * (↑i : Int))), .p (.int .i64 (m + 2 * (↑i : Int) + 1))])))),
  (∀ i : Nat, ((((i) : Nat) < (v.fst)) → All []))] := by kernel_rfl

theorem p_heldBarS_a (n : Nat) (m : Int) :
    pieceOb Try.prog 0 [.reg [oT], .reg [oT], .head] [.code (bodyOf Try.f30)] (start Try.f30 [] 0 [.p (.seq true 2 n (fun i => [.int .i64 (m + 2 * (i : Int)), .int .i64 (m + 2 * (i : Int) + 1)])), .p (.int .i64 m)]) [] 1 (S_heldBarS n m 0) =
    some ([.code (cAt (bodyOf Try.f30) [1, 0, 1, 0, 0]), .inLoop (cAt (bodyOf Try.f30) [1, 0, 1, 0, 0]), .inBlock 0, .code (cAt (bodyOf Try.f30) [1, 1])], [(((n) : Nat) = (n)),
  (∀ i : Nat, ((((i) : Nat) < (n)) → (([.int .i64 (m + 2 * (↑i : Int)), .int .i64 (m + 2 * (↑i : Int) + 1)] : List PV) = [.int .i64 (m + 2 * (↑i : Int)), .int .i64 (m + 2 * (↑i : Int) + 1)]))),
  (((m) : Int) = (m + 2 * (↑0 : Int))),
  ((0 : Int) = ((↑0 : Int)))]) := by kernel_rfl

theorem p_heldBarS_b (n : Nat) (m : Int) (k : Nat) :
    pieceOb Try.prog 0 [.reg [oT, oT, oT, oT], .dec true, .reg [oT, oT, oT, oT, oT, oT, oT], .dec false, .reg [oT, oT, oT], .reg [oT, oT, oT, oT, oT, oT, oT], .dec false, .reg [oT, oT, oT], .reg [oT, oT, oT], .head] [.code (cAt (bodyOf Try.f30) [1, 0, 1, 0, 0]), .inLoop (cAt (bodyOf Try.f30) [1, 0, 1, 0, 0]), .inBlock 0, .code (cAt (bodyOf Try.f30) [1, 1])] (S_heldBarS n m k) [] 1 (S_heldBarS n m (k + 1)) =
    some ([.code (cAt (bodyOf Try.f30) [1, 0, 1, 0, 0]), .inLoop (cAt (bodyOf Try.f30) [1, 0, 1, 0, 0]), .inBlock 0, .code (cAt (bodyOf Try.f30) [1, 1])], [((decide ((↑k : Int) < (↑n : Int))) = true),
  ((0 : Int) ≤ ((↑k : Int))),
  ((((↑k : Int)) : Int) < ((↑n : Int))),
  ((m + 2 * (↑k : Int) != m + 2 * (↑k : Int)) = false),
  (((-9223372036854775808) : Int) ≤ (m + 2 * (↑k : Int) + 1)),
  (((m + 2 * (↑k : Int) + 1) : Int) ≤ 9223372036854775807),
  ((0 : Int) ≤ ((↑k : Int))),
  ((((↑k : Int)) : Int) < ((↑n : Int))),
  ((m + 2 * (↑k : Int) + 1 != m + 2 * (↑k : Int) + 1) = false),
  (((-9223372036854775808) : Int) ≤ (m + 2 * (↑k : Int) + 1 + 1)),
  (((m + 2 * (↑k : Int) + 1 + 1) : Int) ≤ 9223372036854775807),
  (((-9223372036854775808) : Int) ≤ ((↑k : Int) + 1)),
  ((((↑k : Int) + 1) : Int) ≤ 9223372036854775807),
  (((n) : Nat) = (n)),
  (∀ i : Nat, ((((i) : Nat) < (n)) → (([.int .i64 (m + 2 * (↑i : Int)), .int .i64 (m + 2 * (↑i : Int) + 1)] : List PV) = [.int .i64 (m + 2 * (↑i : Int)), .int .i64 (m + 2 * (↑i : Int) + 1)]))),
  (((m + 2 * (↑k : Int) + 1 + 1) : Int) = (m + 2 * (↑(k + 1) : Int))),
  ((((↑k : Int) + 1) : Int) = ((↑(k + 1) : Int)))]) := by kernel_rfl

theorem p_heldBarS_c (n : Nat) (m : Int) (k : Nat) :
    pathOb Try.prog Try.f30 0 [.reg [oT, oT, oT, oT], .dec false, .reg [oT, oT]] [.code (cAt (bodyOf Try.f30) [1, 0, 1, 0, 0]), .inLoop (cAt (bodyOf Try.f30) [1, 0, 1, 0, 0]), .inBlock 0, .code (cAt (bodyOf Try.f30) [1, 1])] (S_heldBarS n m k) [] 1 [] (.p (.int .i64 (m + 2 * (n : Int)))) =
    some [((decide ((↑k : Int) < (↑n : Int))) = false),
  (((m + 2 * (↑k : Int)) : Int) = (m + 2 * (↑n : Int)))] := by kernel_rfl

theorem p_markGraph (v : T_Graph) (m : Int) :
    pathOb Try.prog Try.f36 1 [.reg [oT, oT], .reg [oT, oT, oT, ⟨true, (some ⟨[0], [], 1, [(0, ⟨false, 2, v.2.1.1, fun i => [.p (.int .i64 (m + 2 * (i : Int))), .p (.int .i64 (m + 2 * (i : Int) + 1))]⟩)], .p (.int .i64 (m + 2 * (v.2.1.1 : Int)))⟩), none⟩, oT], .reg [oT, oT]] [.code (bodyOf Try.f36)] (start Try.f36 [(0, ⟨false, 2, v.2.1.1, fun i => [.p (.int .i64 ((v.2.1.2 i).1)), .p (.int .i64 ((v.2.1.2 i).2.1))]⟩)] 1 [.agg [.p (.int .i64 (v.1)), .ar 2 0 0 v.2.1.1], .p (.int .i64 m)]) [0] 1 [(0, ⟨false, 2, v.2.1.1, fun i => [.p (.int .i64 (m + 2 * (i : Int))), .p (.int .i64 (m + 2 * (i : Int) + 1))]⟩)] (.p (.int .i64 (m + 2 * (v.2.1.1 : Int)))) =
    some [((0 : Nat) < 1),
  (∀ i : Nat, ((((i) : Nat) < (v.snd.fst.fst)) → All [])),
  Con (Try.prog) 22 1 [(0, ⟨false, 2, (v.snd.fst.fst), (fun i => [.p (.int .i64 ((v.snd.fst.snd i).fst)), .p (.int .i64 ((v.snd.fst.snd i).snd.fst))])⟩)] [.ar 2 0 0 (v.snd.fst.fst), .p (.int .i64 (m))] [(0, ⟨false, 2, (v.snd.fst.fst), (fun i => [.p (.int .i64 (m + 2 * (↑i : Int))), .p (.int .i64 (m + 2 * (↑i : Int) + 1))])⟩)] (.p (.int .i64 (m + 2 * (↑v.snd.fst.fst : Int)))),
  (((m + 2 * (↑v.snd.fst.fst : Int)) : Int) = (m + 2 * (↑v.snd.fst.fst : Int))),
  ((2 : Nat) = 2),
  (((v.snd.fst.fst) : Nat) ≤ (v.snd.fst.fst)),
  (∀ i : Nat, ((((i) : Nat) < (v.snd.fst.fst)) → (All [] ∧ (([.p (.int .i64 (m + 2 * (↑i : Int))), .p (.int .i64 (m + 2 * (↑i : Int) + 1))] : List AV) = [.p (.int .i64 (m + 2 * (↑i : Int))), .p (.int .i64 (m + 2 * (↑i : Int) + 1))])))),
  (∀ i : Nat, ((((i) : Nat) < (v.snd.fst.fst)) → All []))] := by kernel_rfl

theorem p_heldGraph (v : T_Graph) (m : Int) :
    pathOb Try.prog Try.f37 0 [.reg [oT, oT], .reg [oT, oT, oT, ⟨true, (some ⟨[], [], 1, [], .p (.int .i64 (m + 2 * (v.2.1.1 : Int)))⟩), none⟩, oT], .reg [oT, oT], .dec false, .reg [oT, oT]] [.code (bodyOf Try.f37)] (start Try.f37 [] 0 [.agg [.p (.int .i64 (v.1)), .p (.seq true 2 v.2.1.1 (fun i => [.int .i64 (m + 2 * (i : Int)), .int .i64 (m + 2 * (i : Int) + 1)]))], .p (.int .i64 m)]) [] 1 [] (.p (.int .i64 (m + 2 * (v.2.1.1 : Int)))) =
    some [((0 : Nat) < 1),
  Con (Try.prog) 30 0 [] [.p (.seq true 2 (v.snd.fst.fst) (fun i => [.int .i64 (m + 2 * (↑i : Int)), .int .i64 (m + 2 * (↑i : Int) + 1)])), .p (.int .i64 (m))] [] (.p (.int .i64 (m + 2 * (↑v.snd.fst.fst : Int)))),
  ((decide (m + 2 * (↑v.snd.fst.fst : Int) < 0)) = false),
  (((m + 2 * (↑v.snd.fst.fst : Int)) : Int) = (m + 2 * (↑v.snd.fst.fst : Int)))] := by kernel_rfl

theorem p_markPinned (v : T_Pinned) (m : Int) :
    pathOb Try.prog Try.f21 2 [.reg [oT, oT], .reg [oT, oT, oT, ⟨true, (some ⟨[0], [], 1, [(0, ⟨false, 2, v.1.2.1.1, fun i => [.p (.int .i64 (m + 2 * (i : Int))), .p (.int .i64 (m + 2 * (i : Int) + 1))]⟩)], .p (.int .i64 (m + 2 * (v.1.2.1.1 : Int)))⟩), none⟩, oT], .reg [oT, oT, oT, ⟨true, (some ⟨[1], [], 1, [(0, ⟨false, 1, v.2.1.1, fun i => [.p (.int .i64 (m + 2 * (v.1.2.1.1 : Int) + (i : Int)))]⟩)], .p (.int .i64 (m + 2 * (v.1.2.1.1 : Int) + (v.2.1.1 : Int)))⟩), none⟩, oT], .reg [oT, oT]] [.code (bodyOf Try.f21)] (start Try.f21 [(0, ⟨false, 2, v.1.2.1.1, fun i => [.p (.int .i64 ((v.1.2.1.2 i).1)), .p (.int .i64 ((v.1.2.1.2 i).2.1))]⟩), (1, ⟨false, 1, v.2.1.1, fun i => [.p (.int .i64 ((v.2.1.2 i)))]⟩)] 2 [.agg [.p (.int .i64 (v.1.1)), .ar 2 0 0 v.1.2.1.1, .ar 1 1 0 v.2.1.1], .p (.int .i64 m)]) [0, 1] 1 [(0, ⟨false, 2, v.1.2.1.1, fun i => [.p (.int .i64 (m + 2 * (i : Int))), .p (.int .i64 (m + 2 * (i : Int) + 1))]⟩), (1, ⟨false, 1, v.2.1.1, fun i => [.p (.int .i64 (m + 2 * (v.1.2.1.1 : Int) + (i : Int)))]⟩)] (.p (.int .i64 (m + 2 * (v.1.2.1.1 : Int) + (v.2.1.1 : Int)))) =
    some [((0 : Nat) < 1),
  (∀ i : Nat, ((((i) : Nat) < (v.fst.snd.fst.fst)) → All [])),
  Con (Try.prog) 36 1 [(0, ⟨false, 2, (v.fst.snd.fst.fst), (fun i => [.p (.int .i64 ((v.fst.snd.fst.snd i).fst)), .p (.int .i64 ((v.fst.snd.fst.snd i).snd.fst))])⟩)] [.agg [.p (.int .i64 (v.fst.fst)), .ar 2 0 0 (v.fst.snd.fst.fst)], .p (.int .i64 (m))] [(0, ⟨false, 2, (v.fst.snd.fst.fst), (fun i => [.p (.int .i64 (m + 2 * (↑i : Int))), .p (.int .i64 (m + 2 * (↑i : Int) + 1))])⟩)] (.p (.int .i64 (m + 2 * (↑v.fst.snd.fst.fst : Int)))),
  ((0 : Nat) < 1),
  (∀ i : Nat, ((((i) : Nat) < (v.snd.fst.fst)) → All [])),
  Con (Try.prog) 65 1 [(0, ⟨false, 1, (v.snd.fst.fst), (fun i => [.p (.int .i64 (v.snd.fst.snd i))])⟩)] [.ar 1 0 0 (v.snd.fst.fst), .p (.int .i64 (m + 2 * (↑v.fst.snd.fst.fst : Int)))] [(0, ⟨false, 1, (v.snd.fst.fst), (fun i => [.p (.int .i64 (m + 2 * (↑v.fst.snd.fst.fst : Int) + (↑i : Int)))])⟩)] (.p (.int .i64 (m + 2 * (↑v.fst.snd.fst.fst : Int) + (↑v.snd.fst.fst : Int)))),
  (((m + 2 * (↑v.fst.snd.fst.fst : Int) + (↑v.snd.fst.fst : Int)) : Int) = (m + 2 * (↑v.fst.snd.fst.fst : Int) + (↑v.snd.fst.fst : Int))),
  ((2 : Nat) = 2),
  (((v.fst.snd.fst.fst) : Nat) ≤ (v.fst.snd.fst.fst)),
  (∀ i : Nat, ((((i) : Nat) < (v.fst.snd.fst.fst)) → (All [] ∧ (([.p (.int .i64 (m + 2 * (↑i : Int))), .p (.int .i64 (m + 2 * (↑i : Int) + 1))] : List AV) = [.p (.int .i64 (m + 2 * (↑i : Int))), .p (.int .i64 (m + 2 * (↑i : Int) + 1))])))),
  ((1 : Nat) = 1),
  (((v.snd.fst.fst) : Nat) ≤ (v.snd.fst.fst)),
  (∀ i : Nat, ((((i) : Nat) < (v.snd.fst.fst)) → (All [] ∧ (([.p (.int .i64 (m + 2 * (↑v.fst.snd.fst.fst : Int) + (↑i : Int)))] : List AV) = [.p (.int .i64 (m + 2 * (↑v.fst.snd.fst.fst : Int) + (↑i : Int)))])))),
  (∀ i : Nat, ((((i) : Nat) < (v.fst.snd.fst.fst)) → All [])),
  (∀ i : Nat, ((((i) : Nat) < (v.snd.fst.fst)) → All []))] := by kernel_rfl

theorem p_heldPinned (v : T_Pinned) (m : Int) :
    pathOb Try.prog Try.f23 0 [.reg [oT, oT], .reg [oT, oT, oT, ⟨true, (some ⟨[], [], 1, [], .p (.int .i64 (m + 2 * (v.1.2.1.1 : Int)))⟩), none⟩, oT], .reg [oT, oT], .dec false, .reg [oT, oT, oT, ⟨true, (some ⟨[], [], 1, [], .p (.int .i64 (m + 2 * (v.1.2.1.1 : Int) + (v.2.1.1 : Int)))⟩), none⟩, oT], .reg [oT, oT], .dec false, .reg [oT, oT]] [.code (bodyOf Try.f23)] (start Try.f23 [] 0 [.agg [.p (.int .i64 (v.1.1)), .p (.seq true 2 v.1.2.1.1 (fun i => [.int .i64 (m + 2 * (i : Int)), .int .i64 (m + 2 * (i : Int) + 1)])), .p (.seq true 1 v.2.1.1 (fun i => [.int .i64 (m + 2 * (v.1.2.1.1 : Int) + (i : Int))]))], .p (.int .i64 m)]) [] 1 [] (.p (.int .i64 (m + 2 * (v.1.2.1.1 : Int) + (v.2.1.1 : Int)))) =
    some [((0 : Nat) < 1),
  Con (Try.prog) 37 0 [] [.agg [.p (.int .i64 (v.fst.fst)), .p (.seq true 2 (v.fst.snd.fst.fst) (fun i => [.int .i64 (m + 2 * (↑i : Int)), .int .i64 (m + 2 * (↑i : Int) + 1)]))], .p (.int .i64 (m))] [] (.p (.int .i64 (m + 2 * (↑v.fst.snd.fst.fst : Int)))),
  ((decide (m + 2 * (↑v.fst.snd.fst.fst : Int) < 0)) = false),
  ((0 : Nat) < 1),
  Con (Try.prog) 66 0 [] [.p (.seq true 1 (v.snd.fst.fst) (fun i => [.int .i64 (m + 2 * (↑v.fst.snd.fst.fst : Int) + (↑i : Int))])), .p (.int .i64 (m + 2 * (↑v.fst.snd.fst.fst : Int)))] [] (.p (.int .i64 (m + 2 * (↑v.fst.snd.fst.fst : Int) + (↑v.snd.fst.fst : Int)))),
  ((decide (m + 2 * (↑v.fst.snd.fst.fst : Int) + (↑v.snd.fst.fst : Int) < 0)) = false),
  (((m + 2 * (↑v.fst.snd.fst.fst : Int) + (↑v.snd.fst.fst : Int)) : Int) = (m + 2 * (↑v.fst.snd.fst.fst : Int) + (↑v.snd.fst.fst : Int)))] := by kernel_rfl

theorem con_szBarS (v : T_BarS) (k : okS s_BarS v) (m : Int) (h0 : 0 ≤ m) (h1 : m ≤ 1048576) : Con Try.prog 16 0 [] [.p (.seq true 2 (v.1) (fun i => [.int .i64 ((v.2 i).1), .int .i64 ((v.2 i).2.1)])), .p (.int .i64 m)] [] (.p (.int .i64 (f_szBarS v m))) := by
  refine con_start Try.func16 rfl (by kernel_rfl) rfl (fun c hc => ?_)
  have hn := k.1
  by_cases h : m - v.1 < 0
  · rw [show f_szBarS v m = -1 by simp [f_szBarS, h]]
    refine path_ok mixed Try.func16 hc (p_szBarS_a v m) ?_
    simp only [All]
    repeat' (first | exact trivial | with_reducible apply And.intro)
    all_goals (first | omega | rfl | (intros; first | assumption | exact True.intro | rfl | exact absurd (show false = true by assumption) Bool.false_ne_true | ((repeat' (first | assumption | apply anda | apply notf)); done)) | (simp; omega))
  · rw [show f_szBarS v m = m - v.1 by simp [f_szBarS, h]]
    refine path_ok mixed Try.func16 hc (p_szBarS_b v m) ?_
    simp only [All]
    repeat' (first | exact trivial | with_reducible apply And.intro)
    all_goals (first | omega | rfl | (intros; first | assumption | exact True.intro | rfl | exact absurd (show false = true by assumption) Bool.false_ne_true | ((repeat' (first | assumption | apply anda | apply notf)); done)) | (simp; omega))

theorem le_szBarS (v : T_BarS) (m : Int) (h0 : 0 ≤ m) : f_szBarS v m ≤ m := by
  unfold f_szBarS; split <;> omega

theorem sm_szBarS (v : T_BarS) (m : Int) (h1 : m ≤ 1048576) (h : ¬ f_szBarS v m < 0) : smS s_BarS v := by
  unfold f_szBarS at h
  split at h
  · omega
  · exact ⟨by omega, fun i hi => by simp [smS, smL]⟩

theorem con_szGraph (v : T_Graph) (k : okS s_Graph v) (m : Int) (h0 : 0 ≤ m) (h1 : m ≤ 1048576) : Con Try.prog 31 0 [] [.agg [.p (.int .i64 (v.1)), .p (.seq true 2 (v.2.1.1) (fun i => [.int .i64 ((v.2.1.2 i).1), .int .i64 ((v.2.1.2 i).2.1)]))], .p (.int .i64 m)] [] (.p (.int .i64 (f_szGraph v m))) := by
  refine con_start Try.func31 rfl (by kernel_rfl) rfl (fun c hc => ?_)
  have l0 := le_szBarS v.2.1 m (by omega)
  by_cases g0 : (f_szBarS v.2.1 m) < 0
  · rw [show f_szGraph v m = -1 by simp [f_szGraph, g0]]
    refine path_ok mixed Try.func31 hc (p_szGraph_0 v m) ?_
    simp only [All]
    repeat' (first | exact trivial | with_reducible apply And.intro)
    all_goals (first | omega | rfl | (intros; first | assumption | exact True.intro | rfl | exact absurd (show false = true by assumption) Bool.false_ne_true | ((repeat' (first | assumption | apply anda | apply notf)); done)) | (exact con_szBarS v.2.1 k.2.1 m (by omega) (by omega)) | (simp; omega))
  rw [show f_szGraph v m = (f_szBarS v.2.1 m) by simp [f_szGraph, g0]]
  refine path_ok mixed Try.func31 hc (p_szGraph_e v m) ?_
  simp only [All]
  repeat' (first | exact trivial | with_reducible apply And.intro)
  all_goals (first | omega | rfl | (intros; first | assumption | exact True.intro | rfl | exact absurd (show false = true by assumption) Bool.false_ne_true | ((repeat' (first | assumption | apply anda | apply notf)); done)) | (exact con_szBarS v.2.1 k.2.1 m (by omega) (by omega)) | (simp; omega))

theorem le_szGraph (v : T_Graph) (m : Int) (h0 : 0 ≤ m) : f_szGraph v m ≤ m := by
  have l0 := le_szBarS v.2.1 m h0
  by_cases g0 : (f_szBarS v.2.1 m) < 0
  · simp only [f_szGraph, g0, if_true, if_false]; omega
  simp only [f_szGraph, g0, if_false]; omega

theorem sm_szGraph (v : T_Graph) (m : Int) (h0 : 0 ≤ m) (h1 : m ≤ 1048576) (h : ¬ f_szGraph v m < 0) : smS s_Graph v := by
  have l0 := le_szBarS v.2.1 m (by omega)
  have g0 : ¬ (f_szBarS v.2.1 m) < 0 := by
    intro g; apply h; simp only [f_szGraph, g, if_true, if_false]; omega
  exact ⟨by simp [smS, smL], sm_szBarS v.2.1 m (by omega) g0, True.intro⟩

theorem con_szIntS (v : T_IntS) (k : okS s_IntS v) (m : Int) (h0 : 0 ≤ m) (h1 : m ≤ 1048576) : Con Try.prog 45 0 [] [.p (.seq true 1 (v.1) (fun i => [.int .i64 ((v.2 i))])), .p (.int .i64 m)] [] (.p (.int .i64 (f_szIntS v m))) := by
  refine con_start Try.func45 rfl (by kernel_rfl) rfl (fun c hc => ?_)
  have hn := k.1
  by_cases h : m - v.1 < 0
  · rw [show f_szIntS v m = -1 by simp [f_szIntS, h]]
    refine path_ok mixed Try.func45 hc (p_szIntS_a v m) ?_
    simp only [All]
    repeat' (first | exact trivial | with_reducible apply And.intro)
    all_goals (first | omega | rfl | (intros; first | assumption | exact True.intro | rfl | exact absurd (show false = true by assumption) Bool.false_ne_true | ((repeat' (first | assumption | apply anda | apply notf)); done)) | (simp; omega))
  · rw [show f_szIntS v m = m - v.1 by simp [f_szIntS, h]]
    refine path_ok mixed Try.func45 hc (p_szIntS_b v m) ?_
    simp only [All]
    repeat' (first | exact trivial | with_reducible apply And.intro)
    all_goals (first | omega | rfl | (intros; first | assumption | exact True.intro | rfl | exact absurd (show false = true by assumption) Bool.false_ne_true | ((repeat' (first | assumption | apply anda | apply notf)); done)) | (simp; omega))

theorem le_szIntS (v : T_IntS) (m : Int) (h0 : 0 ≤ m) : f_szIntS v m ≤ m := by
  unfold f_szIntS; split <;> omega

theorem sm_szIntS (v : T_IntS) (m : Int) (h1 : m ≤ 1048576) (h : ¬ f_szIntS v m < 0) : smS s_IntS v := by
  unfold f_szIntS at h
  split at h
  · omega
  · exact ⟨by omega, fun i hi => by simp [smS, smL]⟩

theorem con_szPinned (v : T_Pinned) (k : okS s_Pinned v) (m : Int) (h0 : 0 ≤ m) (h1 : m ≤ 1048576) : Con Try.prog 11 0 [] [.agg [.p (.int .i64 (v.1.1)), .p (.seq true 2 (v.1.2.1.1) (fun i => [.int .i64 ((v.1.2.1.2 i).1), .int .i64 ((v.1.2.1.2 i).2.1)])), .p (.seq true 1 (v.2.1.1) (fun i => [.int .i64 ((v.2.1.2 i))]))], .p (.int .i64 m)] [] (.p (.int .i64 (f_szPinned v m))) := by
  refine con_start Try.func11 rfl (by kernel_rfl) rfl (fun c hc => ?_)
  have l0 := le_szGraph v.1 m (by omega)
  by_cases g0 : (f_szGraph v.1 m) < 0
  · rw [show f_szPinned v m = -1 by simp [f_szPinned, g0]]
    refine path_ok mixed Try.func11 hc (p_szPinned_0 v m) ?_
    simp only [All]
    repeat' (first | exact trivial | with_reducible apply And.intro)
    all_goals (first | omega | rfl | (intros; first | assumption | exact True.intro | rfl | exact absurd (show false = true by assumption) Bool.false_ne_true | ((repeat' (first | assumption | apply anda | apply notf)); done)) | (exact con_szGraph v.1 k.1 m (by omega) (by omega)) | (simp; omega))
  have l1 := le_szIntS v.2.1 (f_szGraph v.1 m) (by omega)
  by_cases g1 : (f_szIntS v.2.1 (f_szGraph v.1 m)) < 0
  · rw [show f_szPinned v m = -1 by simp [f_szPinned, g0, g1]]
    refine path_ok mixed Try.func11 hc (p_szPinned_1 v m) ?_
    simp only [All]
    repeat' (first | exact trivial | with_reducible apply And.intro)
    all_goals (first | omega | rfl | (intros; first | assumption | exact True.intro | rfl | exact absurd (show false = true by assumption) Bool.false_ne_true | ((repeat' (first | assumption | apply anda | apply notf)); done)) | (exact con_szGraph v.1 k.1 m (by omega) (by omega)) | (exact con_szIntS v.2.1 k.2.1 (f_szGraph v.1 m) (by omega) (by omega)) | (simp; omega))
  rw [show f_szPinned v m = (f_szIntS v.2.1 (f_szGraph v.1 m)) by simp [f_szPinned, g0, g1]]
  refine path_ok mixed Try.func11 hc (p_szPinned_e v m) ?_
  simp only [All]
  repeat' (first | exact trivial | with_reducible apply And.intro)
  all_goals (first | omega | rfl | (intros; first | assumption | exact True.intro | rfl | exact absurd (show false = true by assumption) Bool.false_ne_true | ((repeat' (first | assumption | apply anda | apply notf)); done)) | (exact con_szGraph v.1 k.1 m (by omega) (by omega)) | (exact con_szIntS v.2.1 k.2.1 (f_szGraph v.1 m) (by omega) (by omega)) | (simp; omega))

theorem le_szPinned (v : T_Pinned) (m : Int) (h0 : 0 ≤ m) : f_szPinned v m ≤ m := by
  have l0 := le_szGraph v.1 m h0
  by_cases g0 : (f_szGraph v.1 m) < 0
  · simp only [f_szPinned, g0, if_true, if_false]; omega
  have l1 := le_szIntS v.2.1 (f_szGraph v.1 m) (by omega)
  by_cases g1 : (f_szIntS v.2.1 (f_szGraph v.1 m)) < 0
  · simp only [f_szPinned, g0, g1, if_true, if_false]; omega
  simp only [f_szPinned, g0, g1, if_false]; omega

theorem sm_szPinned (v : T_Pinned) (m : Int) (h0 : 0 ≤ m) (h1 : m ≤ 1048576) (h : ¬ f_szPinned v m < 0) : smS s_Pinned v := by
  have l0 := le_szGraph v.1 m (by omega)
  have g0 : ¬ (f_szGraph v.1 m) < 0 := by
    intro g; apply h; simp only [f_szPinned, g, if_true, if_false]; omega
  have l1 := le_szIntS v.2.1 (f_szGraph v.1 m) (by omega)
  have g1 : ¬ (f_szIntS v.2.1 (f_szGraph v.1 m)) < 0 := by
    intro g; apply h; simp only [f_szPinned, g0, g, if_true, if_false]; omega
  exact ⟨sm_szGraph v.1 m (by omega) (by omega) g0, sm_szIntS v.2.1 (f_szGraph v.1 m) (by omega) g1, True.intro⟩

theorem con_toBar (v : T_Bar) (hs : smS s_Bar v) : Con Try.prog 61 0 [] [.agg [.p (.int .i64 (v.1)), .p (.int .i64 (v.2.1))]] [] (.agg [.p (.int .i64 (v.1)), .p (.int .i64 (v.2.1))]) := by
  refine con_start Try.func61 rfl (by kernel_rfl) rfl (fun c hc => ?_)
  refine path_ok mixed Try.func61 hc (p_toBar v) ?_
  simp only [All]
  repeat' (first | exact trivial | with_reducible apply And.intro)
  all_goals (first | omega | rfl | (intros; first | assumption | exact True.intro | rfl | exact absurd (show false = true by assumption) Bool.false_ne_true | ((repeat' (first | assumption | apply anda | apply notf)); done)) | (intro i hi; simp [hi, All]))

theorem con_toBarS (v : T_BarS) (hs : smS s_BarS v) : Con Try.prog 18 0 [] [.p (.seq true 2 (v.1) (fun i => [.int .i64 ((v.2 i).1), .int .i64 ((v.2 i).2.1)]))] [(0, ⟨false, 2, v.1, fun i => [.p (.int .i64 ((v.2 i).1)), .p (.int .i64 ((v.2 i).2.1))]⟩)] (.ar 2 0 0 (v.1)) := by
  refine con_start Try.func18 rfl (by kernel_rfl) rfl (fun c hc => ?_)
  have hn := hs.1
  have lp : ∀ m k, k + m = v.1 → Run Try.prog c 18 [.code (cAt (bodyOf Try.f18) [1, 1, 0, 1, 0, 0]), .inLoop (cAt (bodyOf Try.f18) [1, 1, 0, 1, 0, 0]), .inBlock 0, .code (cAt (bodyOf Try.f18) [1, 1, 1])] (S_toBarS v k) (Post c [(0, ⟨false, 2, v.1, fun i => [.p (.int .i64 ((v.2 i).1)), .p (.int .i64 ((v.2 i).2.1))]⟩)] (.ar 2 0 0 (v.1))) := by
    intro m
    induction m with
    | zero =>
      intro k hk
      refine path_ok mixed Try.func18 hc (p_toBarS_c v k) ?_
      simp only [All]
      repeat' (first | exact trivial | with_reducible apply And.intro)
      all_goals (first | omega | rfl | (intros; first | assumption | exact True.intro | rfl | exact absurd (show false = true by assumption) Bool.false_ne_true | ((repeat' (first | assumption | apply anda | apply notf)); done)) | (intro i hi; (have hik : i < k := by omega); simp [hik, All]) | (simp; try omega))
    | succ m ih =>
      intro k hk
      have hlt : decide ((k : Int) < (v.1 : Int)) = true := by simp; omega
      refine piece_ok mixed hc (p_toBarS_b v k) ?_ (ih (k + 1) (by omega))
      simp only [All]
      repeat' (first | exact trivial | with_reducible apply And.intro)
      all_goals (first | omega | rfl | (intros; first | assumption | exact True.intro | rfl | exact absurd (show false = true by assumption) Bool.false_ne_true | ((repeat' (first | assumption | apply anda | apply notf)); done)) | (exact con_toBar (v.2 k) (hs.2 k (by omega))) | (intro i hi; by_cases h : i = k <;> simp [h, Nat.lt_succ_iff_lt_or_eq, cvtL, cvt, tg, tru, All]))
  refine piece_ok mixed hc (p_toBarS_a v) ?_ (lp v.1 0 (by omega))
  simp only [All]
  repeat' (first | exact trivial | with_reducible apply And.intro)
  all_goals (first | omega | rfl | (intros; first | assumption | exact True.intro | rfl | exact absurd (show false = true by assumption) Bool.false_ne_true | ((repeat' (first | assumption | apply anda | apply notf)); done)) | (intro i hi; simp [All]))

theorem con_toGraph (v : T_Graph) (hs : smS s_Graph v) : Con Try.prog 33 0 [] [.agg [.p (.int .i64 (v.1)), .p (.seq true 2 (v.2.1.1) (fun i => [.int .i64 ((v.2.1.2 i).1), .int .i64 ((v.2.1.2 i).2.1)]))]] [(0, ⟨false, 2, v.2.1.1, fun i => [.p (.int .i64 ((v.2.1.2 i).1)), .p (.int .i64 ((v.2.1.2 i).2.1))]⟩)] (.agg [.p (.int .i64 (v.1)), .ar 2 0 0 (v.2.1.1)]) := by
  refine con_start Try.func33 rfl (by kernel_rfl) rfl (fun c hc => ?_)
  refine path_ok mixed Try.func33 hc (p_toGraph v) ?_
  simp only [All]
  repeat' (first | exact trivial | with_reducible apply And.intro)
  all_goals (first | omega | rfl | (intros; first | assumption | exact True.intro | rfl | exact absurd (show false = true by assumption) Bool.false_ne_true | ((repeat' (first | assumption | apply anda | apply notf)); done)) | (exact con_toBarS v.2.1 hs.2.1) | (intro i hi; simp [hi, All]))

theorem con_toIntS (v : T_IntS) (hs : smS s_IntS v) : Con Try.prog 51 0 [] [.p (.seq true 1 (v.1) (fun i => [.int .i64 ((v.2 i))]))] [(0, ⟨false, 1, v.1, fun i => [.p (.int .i64 ((v.2 i)))]⟩)] (.ar 1 0 0 (v.1)) := by
  refine con_start Try.func51 rfl (by kernel_rfl) rfl (fun c hc => ?_)
  have hn := hs.1
  have lp : ∀ m k, k + m = v.1 → Run Try.prog c 51 [.code (cAt (bodyOf Try.f51) [1, 1, 0, 1, 0, 0]), .inLoop (cAt (bodyOf Try.f51) [1, 1, 0, 1, 0, 0]), .inBlock 0, .code (cAt (bodyOf Try.f51) [1, 1, 1])] (S_toIntS v k) (Post c [(0, ⟨false, 1, v.1, fun i => [.p (.int .i64 ((v.2 i)))]⟩)] (.ar 1 0 0 (v.1))) := by
    intro m
    induction m with
    | zero =>
      intro k hk
      refine path_ok mixed Try.func51 hc (p_toIntS_c v k) ?_
      simp only [All]
      repeat' (first | exact trivial | with_reducible apply And.intro)
      all_goals (first | omega | rfl | (intros; first | assumption | exact True.intro | rfl | exact absurd (show false = true by assumption) Bool.false_ne_true | ((repeat' (first | assumption | apply anda | apply notf)); done)) | (intro i hi; (have hik : i < k := by omega); simp [hik, All]) | (simp; try omega))
    | succ m ih =>
      intro k hk
      have hlt : decide ((k : Int) < (v.1 : Int)) = true := by simp; omega
      refine piece_ok mixed hc (p_toIntS_b v k) ?_ (ih (k + 1) (by omega))
      simp only [All]
      repeat' (first | exact trivial | with_reducible apply And.intro)
      all_goals (first | omega | rfl | (intros; first | assumption | exact True.intro | rfl | exact absurd (show false = true by assumption) Bool.false_ne_true | ((repeat' (first | assumption | apply anda | apply notf)); done)) | (intro i hi; by_cases h : i = k <;> simp [h, Nat.lt_succ_iff_lt_or_eq, cvtL, cvt, tg, tru, All]))
  refine piece_ok mixed hc (p_toIntS_a v) ?_ (lp v.1 0 (by omega))
  simp only [All]
  repeat' (first | exact trivial | with_reducible apply And.intro)
  all_goals (first | omega | rfl | (intros; first | assumption | exact True.intro | rfl | exact absurd (show false = true by assumption) Bool.false_ne_true | ((repeat' (first | assumption | apply anda | apply notf)); done)) | (intro i hi; simp [All]))

theorem con_toPinned (v : T_Pinned) (hs : smS s_Pinned v) : Con Try.prog 13 0 [] [.agg [.p (.int .i64 (v.1.1)), .p (.seq true 2 (v.1.2.1.1) (fun i => [.int .i64 ((v.1.2.1.2 i).1), .int .i64 ((v.1.2.1.2 i).2.1)])), .p (.seq true 1 (v.2.1.1) (fun i => [.int .i64 ((v.2.1.2 i))]))]] [(0, ⟨false, 2, v.1.2.1.1, fun i => [.p (.int .i64 ((v.1.2.1.2 i).1)), .p (.int .i64 ((v.1.2.1.2 i).2.1))]⟩), (1, ⟨false, 1, v.2.1.1, fun i => [.p (.int .i64 ((v.2.1.2 i)))]⟩)] (.agg [.p (.int .i64 (v.1.1)), .ar 2 0 0 (v.1.2.1.1), .ar 1 1 0 (v.2.1.1)]) := by
  refine con_start Try.func13 rfl (by kernel_rfl) rfl (fun c hc => ?_)
  refine path_ok mixed Try.func13 hc (p_toPinned v) ?_
  simp only [All]
  repeat' (first | exact trivial | with_reducible apply And.intro)
  all_goals (first | omega | rfl | (intros; first | assumption | exact True.intro | rfl | exact absurd (show false = true by assumption) Bool.false_ne_true | ((repeat' (first | assumption | apply anda | apply notf)); done)) | (exact con_toGraph v.1 hs.1) | (exact con_toIntS v.2.1 hs.2.1) | (intro i hi; simp [hi, All]))

theorem con_eqBar (v : T_Bar) (hs : smS s_Bar v) : Con Try.prog 64 0 [] [.agg [.p (.int .i64 (v.1)), .p (.int .i64 (v.2.1))], .agg [.p (.int .i64 (v.1)), .p (.int .i64 (v.2.1))]] [] (.p (.bool true)) := by
  refine con_start Try.func64 rfl (by kernel_rfl) rfl (fun c hc => ?_)
  refine path_ok mixed Try.func64 hc (p_eqBar v) ?_
  simp only [All]
  repeat' (first | exact trivial | with_reducible apply And.intro)
  all_goals (first | omega | rfl | (intros; first | assumption | exact True.intro | rfl | exact absurd (show false = true by assumption) Bool.false_ne_true | ((repeat' (first | assumption | apply anda | apply notf)); done)) | simp)

theorem con_eqBarS (v : T_BarS) (hs : smS s_BarS v) : Con Try.prog 20 0 [] [.p (.seq true 2 (v.1) (fun i => [.int .i64 ((v.2 i).1), .int .i64 ((v.2 i).2.1)])), .p (.seq true 2 (v.1) (fun i => [.int .i64 ((v.2 i).1), .int .i64 ((v.2 i).2.1)]))] [] (.p (.bool true)) := by
  refine con_start Try.func20 rfl (by kernel_rfl) rfl (fun c hc => ?_)
  have hn := hs.1
  have lp : ∀ m k, k + m = v.1 → Run Try.prog c 20 [.code (cAt (bodyOf Try.f20) [1, 1, 0, 1, 0, 0]), .inLoop (cAt (bodyOf Try.f20) [1, 1, 0, 1, 0, 0]), .inBlock 0, .code (cAt (bodyOf Try.f20) [1, 1, 1])] (S_eqBarS v k) (Post c [] (.p (.bool true))) := by
    intro m
    induction m with
    | zero =>
      intro k hk
      refine path_ok mixed Try.func20 hc (p_eqBarS_c v k) ?_
      simp only [All]
      repeat' (first | exact trivial | with_reducible apply And.intro)
      all_goals (first | omega | rfl | (intros; first | assumption | exact True.intro | rfl | exact absurd (show false = true by assumption) Bool.false_ne_true | ((repeat' (first | assumption | apply anda | apply notf)); done)) | (simp; try omega))
    | succ m ih =>
      intro k hk
      have hlt : decide ((k : Int) < (v.1 : Int)) = true := by simp; omega
      refine piece_ok mixed hc (p_eqBarS_b v k) ?_ (ih (k + 1) (by omega))
      simp only [All]
      repeat' (first | exact trivial | with_reducible apply And.intro)
      all_goals (first | omega | rfl | (intros; first | assumption | exact True.intro | rfl | exact absurd (show false = true by assumption) Bool.false_ne_true | ((repeat' (first | assumption | apply anda | apply notf)); done)) | (exact con_eqBar (v.2 k) (hs.2 k (by omega))) | simp)
  refine piece_ok mixed hc (p_eqBarS_a v) ?_ (lp v.1 0 (by omega))
  simp only [All]
  repeat' (first | exact trivial | with_reducible apply And.intro)
  all_goals (first | omega | rfl | (intros; first | assumption | exact True.intro | rfl | exact absurd (show false = true by assumption) Bool.false_ne_true | ((repeat' (first | assumption | apply anda | apply notf)); done)) | simp)

theorem con_eqGraph (v : T_Graph) (hs : smS s_Graph v) : Con Try.prog 35 0 [] [.agg [.p (.int .i64 (v.1)), .p (.seq true 2 (v.2.1.1) (fun i => [.int .i64 ((v.2.1.2 i).1), .int .i64 ((v.2.1.2 i).2.1)]))], .agg [.p (.int .i64 (v.1)), .p (.seq true 2 (v.2.1.1) (fun i => [.int .i64 ((v.2.1.2 i).1), .int .i64 ((v.2.1.2 i).2.1)]))]] [] (.p (.bool true)) := by
  refine con_start Try.func35 rfl (by kernel_rfl) rfl (fun c hc => ?_)
  refine path_ok mixed Try.func35 hc (p_eqGraph v) ?_
  simp only [All]
  repeat' (first | exact trivial | with_reducible apply And.intro)
  all_goals (first | omega | rfl | (intros; first | assumption | exact True.intro | rfl | exact absurd (show false = true by assumption) Bool.false_ne_true | ((repeat' (first | assumption | apply anda | apply notf)); done)) | (exact con_eqBarS v.2.1 hs.2.1) | simp)

theorem con_eqIntS (v : T_IntS) (hs : smS s_IntS v) : Con Try.prog 58 0 [] [.p (.seq true 1 (v.1) (fun i => [.int .i64 ((v.2 i))])), .p (.seq true 1 (v.1) (fun i => [.int .i64 ((v.2 i))]))] [] (.p (.bool true)) := by
  refine con_start Try.func58 rfl (by kernel_rfl) rfl (fun c hc => ?_)
  have hn := hs.1
  have lp : ∀ m k, k + m = v.1 → Run Try.prog c 58 [.code (cAt (bodyOf Try.f58) [1, 1, 0, 1, 0, 0]), .inLoop (cAt (bodyOf Try.f58) [1, 1, 0, 1, 0, 0]), .inBlock 0, .code (cAt (bodyOf Try.f58) [1, 1, 1])] (S_eqIntS v k) (Post c [] (.p (.bool true))) := by
    intro m
    induction m with
    | zero =>
      intro k hk
      refine path_ok mixed Try.func58 hc (p_eqIntS_c v k) ?_
      simp only [All]
      repeat' (first | exact trivial | with_reducible apply And.intro)
      all_goals (first | omega | rfl | (intros; first | assumption | exact True.intro | rfl | exact absurd (show false = true by assumption) Bool.false_ne_true | ((repeat' (first | assumption | apply anda | apply notf)); done)) | (simp; try omega))
    | succ m ih =>
      intro k hk
      have hlt : decide ((k : Int) < (v.1 : Int)) = true := by simp; omega
      refine piece_ok mixed hc (p_eqIntS_b v k) ?_ (ih (k + 1) (by omega))
      simp only [All]
      repeat' (first | exact trivial | with_reducible apply And.intro)
      all_goals (first | omega | rfl | (intros; first | assumption | exact True.intro | rfl | exact absurd (show false = true by assumption) Bool.false_ne_true | ((repeat' (first | assumption | apply anda | apply notf)); done)) | simp)
  refine piece_ok mixed hc (p_eqIntS_a v) ?_ (lp v.1 0 (by omega))
  simp only [All]
  repeat' (first | exact trivial | with_reducible apply And.intro)
  all_goals (first | omega | rfl | (intros; first | assumption | exact True.intro | rfl | exact absurd (show false = true by assumption) Bool.false_ne_true | ((repeat' (first | assumption | apply anda | apply notf)); done)) | simp)

theorem con_eqPinned (v : T_Pinned) (hs : smS s_Pinned v) : Con Try.prog 15 0 [] [.agg [.p (.int .i64 (v.1.1)), .p (.seq true 2 (v.1.2.1.1) (fun i => [.int .i64 ((v.1.2.1.2 i).1), .int .i64 ((v.1.2.1.2 i).2.1)])), .p (.seq true 1 (v.2.1.1) (fun i => [.int .i64 ((v.2.1.2 i))]))], .agg [.p (.int .i64 (v.1.1)), .p (.seq true 2 (v.1.2.1.1) (fun i => [.int .i64 ((v.1.2.1.2 i).1), .int .i64 ((v.1.2.1.2 i).2.1)])), .p (.seq true 1 (v.2.1.1) (fun i => [.int .i64 ((v.2.1.2 i))]))]] [] (.p (.bool true)) := by
  refine con_start Try.func15 rfl (by kernel_rfl) rfl (fun c hc => ?_)
  refine path_ok mixed Try.func15 hc (p_eqPinned v) ?_
  simp only [All]
  repeat' (first | exact trivial | with_reducible apply And.intro)
  all_goals (first | omega | rfl | (intros; first | assumption | exact True.intro | rfl | exact absurd (show false = true by assumption) Bool.false_ne_true | ((repeat' (first | assumption | apply anda | apply notf)); done)) | (exact con_eqGraph v.1 hs.1) | (exact con_eqIntS v.2.1 hs.2.1) | simp)

theorem qT_BarS_bad (g h : Nat → T_Bar) (k : Nat) (e : q1_BarS (g k) (h k) = false) : ∀ n, k < n → qT_BarS g h n = false
  | 0, h' => by omega
  | n + 1, h' => by
    by_cases e' : k = n
    · subst e'; simp [qT_BarS, e]
    · simp [qT_BarS, qT_BarS_bad g h k e n (by omega)]

theorem con_seBarS (v u : T_BarS) (hv : v.1 ≤ 1048576) : Con Try.prog 119 0 [] [.p (.seq true 2 (v.1) (fun i => [.int .i64 ((v.2 i).1), .int .i64 ((v.2 i).2.1)])), .p (.seq true 2 (u.1) (fun i => [.int .i64 ((u.2 i).1), .int .i64 ((u.2 i).2.1)]))] [] (.p (.bool (q_BarS v u))) := by
  refine con_start Try.func119 rfl (by kernel_rfl) rfl (fun c hc => ?_)
  by_cases hz : v.1 = u.1
  · rw [show q_BarS v u = qT_BarS v.2 u.2 v.1 by simp [q_BarS, hz]]
    have lp : ∀ m k, k + m = v.1 → qT_BarS v.2 u.2 k = true → Run Try.prog c 119 [.code (cAt (bodyOf Try.f119) [1, 1, 0, 1, 0, 0]), .inLoop (cAt (bodyOf Try.f119) [1, 1, 0, 1, 0, 0]), .inBlock 0, .code (cAt (bodyOf Try.f119) [1, 1, 1])] (S_seBarS v u k) (Post c [] (.p (.bool (qT_BarS v.2 u.2 v.1)))) := by
      intro m
      induction m with
      | zero =>
        intro k hk hg
        rw [show qT_BarS v.2 u.2 v.1 = true by rw [show v.1 = k by omega]; exact hg]
        have hd : decide ((k : Int) < (v.1 : Int)) = false := by simp; omega
        refine path_ok mixed Try.func119 hc (p_seBarS_d v u k) ?_
        simp only [All]
        repeat' (first | exact trivial | with_reducible apply And.intro)
        all_goals (first | omega | rfl | (intros; first | assumption | exact True.intro | rfl | exact absurd (show false = true by assumption) Bool.false_ne_true | ((repeat' (first | assumption | apply anda | apply notf)); done)))
      | succ m ih =>
        intro k hk hg
        have hd : decide ((k : Int) < (v.1 : Int)) = true := by simp; omega
        cases he : q1_BarS (v.2 k) (u.2 k) with
        | false =>
          rw [qT_BarS_bad _ _ k he v.1 (by omega)]
          have he' : (!q1_BarS (v.2 k) (u.2 k)) = true := notf he
          refine path_ok mixed Try.func119 hc (p_seBarS_c v u k) ?_
          simp only [All]
          repeat' (first | exact trivial | with_reducible apply And.intro)
          all_goals (first | omega | rfl | (intros; first | assumption | exact True.intro | rfl | exact absurd (show false = true by assumption) Bool.false_ne_true | ((repeat' (first | assumption | apply anda | apply notf)); done)) | exact he')
        | true =>
          have he' : (!q1_BarS (v.2 k) (u.2 k)) = false := nott he
          refine piece_ok mixed hc (p_seBarS_b v u k) ?_ (ih (k + 1) (by omega) (by simp [qT_BarS, hg, he]))
          simp only [All]
          repeat' (first | exact trivial | with_reducible apply And.intro)
          all_goals (first | omega | rfl | (intros; first | assumption | exact True.intro | rfl | exact absurd (show false = true by assumption) Bool.false_ne_true | ((repeat' (first | assumption | apply anda | apply notf)); done)) | exact he')
    refine piece_ok mixed hc (p_seBarS_a v u) ?_ (lp v.1 0 (by omega) rfl)
    simp only [All]
    repeat' (first | exact trivial | with_reducible apply And.intro)
    all_goals (first | omega | rfl | (intros; first | assumption | exact True.intro | rfl | exact absurd (show false = true by assumption) Bool.false_ne_true | ((repeat' (first | assumption | apply anda | apply notf)); done)) | (simp; omega))
  · rw [show q_BarS v u = false by simp [q_BarS, hz]]
    refine path_ok mixed Try.func119 hc (p_seBarS_z v u) ?_
    simp only [All]
    repeat' (first | exact trivial | with_reducible apply And.intro)
    all_goals (first | omega | rfl | (intros; first | assumption | exact True.intro | rfl | exact absurd (show false = true by assumption) Bool.false_ne_true | ((repeat' (first | assumption | apply anda | apply notf)); done)) | (simp; omega))

theorem con_markIntS (v : T_IntS) (m : Int) (hn : v.1 ≤ 1048576) (h0 : 0 ≤ m) (h1 : m ≤ 1099511627776) : Con Try.prog 65 1 [(0, ⟨false, 1, v.1, fun i => [.p (.int .i64 ((v.2 i)))]⟩)] [.ar 1 0 0 v.1, .p (.int .i64 m)] [(0, ⟨false, 1, v.1, fun i => [.p (.int .i64 (m + (i : Int)))]⟩)] (.p (.int .i64 (m + (v.1 : Int)))) := by
  refine con_start Try.func65 rfl (by kernel_rfl) rfl (fun c hc => ?_)
  have lp : ∀ q j, j + q = v.1 → Run Try.prog c 65 [.code (cAt (bodyOf Try.f65) [1, 0, 1, 0, 0]), .inLoop (cAt (bodyOf Try.f65) [1, 0, 1, 0, 0]), .inBlock 0, .code (cAt (bodyOf Try.f65) [1, 1])] (S_markIntS v m j) (Post c [(0, ⟨false, 1, v.1, fun i => [.p (.int .i64 (m + (i : Int)))]⟩)] (.p (.int .i64 (m + (v.1 : Int))))) := by
    intro q
    induction q with
    | zero =>
      intro j hj
      have e : j = v.1 := by omega
      have hd : decide ((j : Int) < (v.1 : Int)) = false := by simp; omega
      refine path_ok mixed Try.func65 hc (p_markIntS_c v m j) ?_
      simp only [All]
      repeat' (first | exact trivial | with_reducible apply And.intro)
      all_goals (first | omega | rfl | (intros; first | assumption | exact True.intro | rfl | exact absurd (show false = true by assumption) Bool.false_ne_true | ((repeat' (first | assumption | apply anda | apply notf)); done)) | (intro i hi; (have hik : i < j := by omega); simp [hik, All]) | (simp; try omega))
    | succ q ih =>
      intro j hj
      have hlt : decide ((j : Int) < (v.1 : Int)) = true := by simp; omega
      refine piece_ok mixed hc (p_markIntS_b0 v m j) ?_ (ih (j + 1) (by omega))
      ·
        simp only [All]
        repeat' (first | exact trivial | with_reducible apply And.intro)
        all_goals (first | omega | rfl | (intros; first | assumption | exact True.intro | rfl | exact absurd (show false = true by assumption) Bool.false_ne_true | ((repeat' (first | assumption | apply anda | apply notf)); done)) | (intro i hi; by_cases h : i = j <;> simp [h, Nat.lt_succ_iff_lt_or_eq, cvtL, cvt, tg, tru, All]))
  refine piece_ok mixed hc (p_markIntS_a v m) ?_ (lp v.1 0 (by omega))
  simp only [All]
  repeat' (first | exact trivial | with_reducible apply And.intro)
  all_goals (first | omega | rfl | (intros; first | assumption | exact True.intro | rfl | exact absurd (show false = true by assumption) Bool.false_ne_true | ((repeat' (first | assumption | apply anda | apply notf)); done)) | (intro i hi; simp [All]))

theorem con_heldIntS (n : Nat) (m : Int) (hn : n ≤ 1048576) (h0 : 0 ≤ m) (h1 : m ≤ 1099511627776) : Con Try.prog 66 0 [] [.p (.seq true 1 n (fun i => [.int .i64 (m + (i : Int))])), .p (.int .i64 m)] [] (.p (.int .i64 (m + (n : Int)))) := by
  refine con_start Try.func66 rfl (by kernel_rfl) rfl (fun c hc => ?_)
  have lp : ∀ q j, j + q = n → Run Try.prog c 66 [.code (cAt (bodyOf Try.f66) [1, 0, 1, 0, 0]), .inLoop (cAt (bodyOf Try.f66) [1, 0, 1, 0, 0]), .inBlock 0, .code (cAt (bodyOf Try.f66) [1, 1])] (S_heldIntS n m j) (Post c [] (.p (.int .i64 (m + (n : Int))))) := by
    intro q
    induction q with
    | zero =>
      intro j hj
      have hd : decide ((j : Int) < (n : Int)) = false := by simp; omega
      refine path_ok mixed Try.func66 hc (p_heldIntS_c n m j) ?_
      simp only [All]
      repeat' (first | exact trivial | with_reducible apply And.intro)
      all_goals (first | omega | rfl | (intros; first | assumption | exact True.intro | rfl | exact absurd (show false = true by assumption) Bool.false_ne_true | ((repeat' (first | assumption | apply anda | apply notf)); done)) | (simp; try omega))
    | succ q ih =>
      intro j hj
      have hlt : decide ((j : Int) < (n : Int)) = true := by simp; omega
      refine piece_ok mixed hc (p_heldIntS_b n m j) ?_ (ih (j + 1) (by omega))
      simp only [All]
      repeat' (first | exact trivial | with_reducible apply And.intro)
      all_goals (first | omega | rfl | (intros; first | assumption | exact True.intro | rfl | exact absurd (show false = true by assumption) Bool.false_ne_true | ((repeat' (first | assumption | apply anda | apply notf)); done)) | (simp; done) | (simp; omega))
  refine piece_ok mixed hc (p_heldIntS_a n m) ?_ (lp n 0 (by omega))
  simp only [All]
  repeat' (first | exact trivial | with_reducible apply And.intro)
  all_goals (first | omega | rfl | (intros; first | assumption | exact True.intro | rfl | exact absurd (show false = true by assumption) Bool.false_ne_true | ((repeat' (first | assumption | apply anda | apply notf)); done)) | simp)

theorem con_markBarS (v : T_BarS) (m : Int) (hn : v.1 ≤ 1048576) (h0 : 0 ≤ m) (h1 : m ≤ 1099511627776) : Con Try.prog 22 1 [(0, ⟨false, 2, v.1, fun i => [.p (.int .i64 ((v.2 i).1)), .p (.int .i64 ((v.2 i).2.1))]⟩)] [.ar 2 0 0 v.1, .p (.int .i64 m)] [(0, ⟨false, 2, v.1, fun i => [.p (.int .i64 (m + 2 * (i : Int))), .p (.int .i64 (m + 2 * (i : Int) + 1))]⟩)] (.p (.int .i64 (m + 2 * (v.1 : Int)))) := by
  refine con_start Try.func22 rfl (by kernel_rfl) rfl (fun c hc => ?_)
  have lp : ∀ q j, j + q = v.1 → Run Try.prog c 22 [.code (cAt (bodyOf Try.f22) [1, 0, 1, 0, 0]), .inLoop (cAt (bodyOf Try.f22) [1, 0, 1, 0, 0]), .inBlock 0, .code (cAt (bodyOf Try.f22) [1, 1])] (S_markBarS v m j) (Post c [(0, ⟨false, 2, v.1, fun i => [.p (.int .i64 (m + 2 * (i : Int))), .p (.int .i64 (m + 2 * (i : Int) + 1))]⟩)] (.p (.int .i64 (m + 2 * (v.1 : Int))))) := by
    intro q
    induction q with
    | zero =>
      intro j hj
      have e : j = v.1 := by omega
      have hd : decide ((j : Int) < (v.1 : Int)) = false := by simp; omega
      refine path_ok mixed Try.func22 hc (p_markBarS_c v m j) ?_
      simp only [All]
      repeat' (first | exact trivial | with_reducible apply And.intro)
      all_goals (first | omega | rfl | (intros; first | assumption | exact True.intro | rfl | exact absurd (show false = true by assumption) Bool.false_ne_true | ((repeat' (first | assumption | apply anda | apply notf)); done)) | (intro i hi; (have hik : i < j := by omega); simp [hik, All]) | (simp; try omega))
    | succ q ih =>
      intro j hj
      have hlt : decide ((j : Int) < (v.1 : Int)) = true := by simp; omega
      refine piece_ok mixed hc (p_markBarS_b0 v m j) ?_ ?_
      ·
        simp only [All]
        repeat' (first | exact trivial | with_reducible apply And.intro)
        all_goals (first | omega | rfl | (intros; first | assumption | exact True.intro | rfl | exact absurd (show false = true by assumption) Bool.false_ne_true | ((repeat' (first | assumption | apply anda | apply notf)); done)) | (intro i hi; by_cases h : i = j <;> simp [h, Nat.lt_succ_iff_lt_or_eq, cvtL, cvt, tg, tru, All]))
      refine piece_ok mixed hc (p_markBarS_b1 v m j) ?_ (ih (j + 1) (by omega))
      ·
        simp only [All]
        repeat' (first | exact trivial | with_reducible apply And.intro)
        all_goals (first | omega | rfl | (intros; first | assumption | exact True.intro | rfl | exact absurd (show false = true by assumption) Bool.false_ne_true | ((repeat' (first | assumption | apply anda | apply notf)); done)) | (intro i hi; by_cases h : i = j <;> simp [h, Nat.lt_succ_iff_lt_or_eq, cvtL, cvt, tg, tru, All]))
  refine piece_ok mixed hc (p_markBarS_a v m) ?_ (lp v.1 0 (by omega))
  simp only [All]
  repeat' (first | exact trivial | with_reducible apply And.intro)
  all_goals (first | omega | rfl | (intros; first | assumption | exact True.intro | rfl | exact absurd (show false = true by assumption) Bool.false_ne_true | ((repeat' (first | assumption | apply anda | apply notf)); done)) | (intro i hi; simp [All]))

theorem con_heldBarS (n : Nat) (m : Int) (hn : n ≤ 1048576) (h0 : 0 ≤ m) (h1 : m ≤ 1099511627776) : Con Try.prog 30 0 [] [.p (.seq true 2 n (fun i => [.int .i64 (m + 2 * (i : Int)), .int .i64 (m + 2 * (i : Int) + 1)])), .p (.int .i64 m)] [] (.p (.int .i64 (m + 2 * (n : Int)))) := by
  refine con_start Try.func30 rfl (by kernel_rfl) rfl (fun c hc => ?_)
  have lp : ∀ q j, j + q = n → Run Try.prog c 30 [.code (cAt (bodyOf Try.f30) [1, 0, 1, 0, 0]), .inLoop (cAt (bodyOf Try.f30) [1, 0, 1, 0, 0]), .inBlock 0, .code (cAt (bodyOf Try.f30) [1, 1])] (S_heldBarS n m j) (Post c [] (.p (.int .i64 (m + 2 * (n : Int))))) := by
    intro q
    induction q with
    | zero =>
      intro j hj
      have hd : decide ((j : Int) < (n : Int)) = false := by simp; omega
      refine path_ok mixed Try.func30 hc (p_heldBarS_c n m j) ?_
      simp only [All]
      repeat' (first | exact trivial | with_reducible apply And.intro)
      all_goals (first | omega | rfl | (intros; first | assumption | exact True.intro | rfl | exact absurd (show false = true by assumption) Bool.false_ne_true | ((repeat' (first | assumption | apply anda | apply notf)); done)) | (simp; try omega))
    | succ q ih =>
      intro j hj
      have hlt : decide ((j : Int) < (n : Int)) = true := by simp; omega
      refine piece_ok mixed hc (p_heldBarS_b n m j) ?_ (ih (j + 1) (by omega))
      simp only [All]
      repeat' (first | exact trivial | with_reducible apply And.intro)
      all_goals (first | omega | rfl | (intros; first | assumption | exact True.intro | rfl | exact absurd (show false = true by assumption) Bool.false_ne_true | ((repeat' (first | assumption | apply anda | apply notf)); done)) | (simp; done) | (simp; omega))
  refine piece_ok mixed hc (p_heldBarS_a n m) ?_ (lp n 0 (by omega))
  simp only [All]
  repeat' (first | exact trivial | with_reducible apply And.intro)
  all_goals (first | omega | rfl | (intros; first | assumption | exact True.intro | rfl | exact absurd (show false = true by assumption) Bool.false_ne_true | ((repeat' (first | assumption | apply anda | apply notf)); done)) | simp)

theorem con_markGraph (v : T_Graph) (m : Int) (h_0 : v.2.1.1 ≤ 1048576) (h0 : 0 ≤ m) (h1 : m ≤ 1099494850560) : Con Try.prog 36 1 [(0, ⟨false, 2, v.2.1.1, fun i => [.p (.int .i64 ((v.2.1.2 i).1)), .p (.int .i64 ((v.2.1.2 i).2.1))]⟩)] [.agg [.p (.int .i64 (v.1)), .ar 2 0 0 v.2.1.1], .p (.int .i64 m)] [(0, ⟨false, 2, v.2.1.1, fun i => [.p (.int .i64 (m + 2 * (i : Int))), .p (.int .i64 (m + 2 * (i : Int) + 1))]⟩)] (.p (.int .i64 (m + 2 * (v.2.1.1 : Int)))) := by
  refine con_start Try.func36 rfl (by kernel_rfl) rfl (fun c hc => ?_)
  refine path_ok mixed Try.func36 hc (p_markGraph v m) ?_
  simp only [All]
  repeat' (first | exact trivial | with_reducible apply And.intro)
  all_goals (first | omega | rfl | (intros; first | assumption | exact True.intro | rfl | exact absurd (show false = true by assumption) Bool.false_ne_true | ((repeat' (first | assumption | apply anda | apply notf)); done)) | (exact con_markBarS v.2.1 _ h_0 (by omega) (by omega)) | (intro i hi; simp [All]))

theorem con_heldGraph (v : T_Graph) (m : Int) (h_0 : v.2.1.1 ≤ 1048576) (h0 : 0 ≤ m) (h1 : m ≤ 1099494850560) : Con Try.prog 37 0 [] [.agg [.p (.int .i64 (v.1)), .p (.seq true 2 v.2.1.1 (fun i => [.int .i64 (m + 2 * (i : Int)), .int .i64 (m + 2 * (i : Int) + 1)]))], .p (.int .i64 m)] [] (.p (.int .i64 (m + 2 * (v.2.1.1 : Int)))) := by
  refine con_start Try.func37 rfl (by kernel_rfl) rfl (fun c hc => ?_)
  refine path_ok mixed Try.func37 hc (p_heldGraph v m) ?_
  simp only [All]
  repeat' (first | exact trivial | with_reducible apply And.intro)
  all_goals (first | omega | rfl | (intros; first | assumption | exact True.intro | rfl | exact absurd (show false = true by assumption) Bool.false_ne_true | ((repeat' (first | assumption | apply anda | apply notf)); done)) | (exact con_heldBarS v.2.1.1 _ h_0 (by omega) (by omega)) | (simp; omega))

theorem con_markPinned (v : T_Pinned) (m : Int) (h_0 : v.1.2.1.1 ≤ 1048576) (h_1 : v.2.1.1 ≤ 1048576) (h0 : 0 ≤ m) (h1 : m ≤ 1099478073344) : Con Try.prog 21 2 [(0, ⟨false, 2, v.1.2.1.1, fun i => [.p (.int .i64 ((v.1.2.1.2 i).1)), .p (.int .i64 ((v.1.2.1.2 i).2.1))]⟩), (1, ⟨false, 1, v.2.1.1, fun i => [.p (.int .i64 ((v.2.1.2 i)))]⟩)] [.agg [.p (.int .i64 (v.1.1)), .ar 2 0 0 v.1.2.1.1, .ar 1 1 0 v.2.1.1], .p (.int .i64 m)] [(0, ⟨false, 2, v.1.2.1.1, fun i => [.p (.int .i64 (m + 2 * (i : Int))), .p (.int .i64 (m + 2 * (i : Int) + 1))]⟩), (1, ⟨false, 1, v.2.1.1, fun i => [.p (.int .i64 (m + 2 * (v.1.2.1.1 : Int) + (i : Int)))]⟩)] (.p (.int .i64 (m + 2 * (v.1.2.1.1 : Int) + (v.2.1.1 : Int)))) := by
  refine con_start Try.func21 rfl (by kernel_rfl) rfl (fun c hc => ?_)
  refine path_ok mixed Try.func21 hc (p_markPinned v m) ?_
  simp only [All]
  repeat' (first | exact trivial | with_reducible apply And.intro)
  all_goals (first | omega | rfl | (intros; first | assumption | exact True.intro | rfl | exact absurd (show false = true by assumption) Bool.false_ne_true | ((repeat' (first | assumption | apply anda | apply notf)); done)) | (exact con_markGraph v.1 _ h_0 (by omega) (by omega)) | (exact con_markIntS v.2.1 _ h_1 (by omega) (by omega)) | (intro i hi; simp [All]))

theorem con_heldPinned (v : T_Pinned) (m : Int) (h_0 : v.1.2.1.1 ≤ 1048576) (h_1 : v.2.1.1 ≤ 1048576) (h0 : 0 ≤ m) (h1 : m ≤ 1099478073344) : Con Try.prog 23 0 [] [.agg [.p (.int .i64 (v.1.1)), .p (.seq true 2 v.1.2.1.1 (fun i => [.int .i64 (m + 2 * (i : Int)), .int .i64 (m + 2 * (i : Int) + 1)])), .p (.seq true 1 v.2.1.1 (fun i => [.int .i64 (m + 2 * (v.1.2.1.1 : Int) + (i : Int))]))], .p (.int .i64 m)] [] (.p (.int .i64 (m + 2 * (v.1.2.1.1 : Int) + (v.2.1.1 : Int)))) := by
  refine con_start Try.func23 rfl (by kernel_rfl) rfl (fun c hc => ?_)
  refine path_ok mixed Try.func23 hc (p_heldPinned v m) ?_
  simp only [All]
  repeat' (first | exact trivial | with_reducible apply And.intro)
  all_goals (first | omega | rfl | (intros; first | assumption | exact True.intro | rfl | exact absurd (show false = true by assumption) Bool.false_ne_true | ((repeat' (first | assumption | apply anda | apply notf)); done)) | (exact con_heldGraph v.1 _ h_0 (by omega) (by omega)) | (exact con_heldIntS v.2.1.1 _ h_1 (by omega) (by omega)) | (simp; omega))

end Go.Proofs.Ytgdbnnmogddkaaa.Mach
