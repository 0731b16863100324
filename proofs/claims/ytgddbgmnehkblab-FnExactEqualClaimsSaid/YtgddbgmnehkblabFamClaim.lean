/- Contracts of uniform functions: how large, laid anew, equal to itself. Written by our own fam.py. Conditions: as each theorem says. -/
import Derived.Test.YtgddbgmnehkblabFamSite
namespace Go.Proofs.Ytgddbgmnehkblab.Mach
open Go
set_option linter.unusedVariables false
set_option linter.unusedSimpArgs false

def s_PlaceS : Sh := (.sl (.st [(.int .i64), (.int .i64)]))
abbrev T_Place := (Int) × (Int) × Unit
abbrev T_PlaceS := Nat × (Nat → T_Place)
def f_szPlaceS (v : T_PlaceS) (m : Int) : Int := if m - v.1 < 0 then -1 else m - v.1
def s_Framework : Sh := (.st [(.st [(.int .i64), (.sl (.st [(.int .i64), (.int .i64)]))]), (.sl (.st [(.int .i64), (.int .i64)]))])
abbrev T_Framework := (T_Graph) × (T_PlaceS) × Unit
def f_szFramework (v : T_Framework) (m : Int) : Int := if (f_szGraph v.1 m) < 0 then -1 else (if (f_szPlaceS v.2.1 (f_szGraph v.1 m)) < 0 then -1 else ((f_szPlaceS v.2.1 (f_szGraph v.1 m))))
def s_Tensegrity : Sh := (.st [(.st [(.st [(.int .i64), (.sl (.st [(.int .i64), (.int .i64)]))]), (.sl (.st [(.int .i64), (.int .i64)]))]), (.sl (.int .i64))])
abbrev T_Tensegrity := (T_Framework) × (T_IntS) × Unit
def f_szTensegrity (v : T_Tensegrity) (m : Int) : Int := if (f_szFramework v.1 m) < 0 then -1 else (if (f_szIntS v.2.1 (f_szFramework v.1 m)) < 0 then -1 else ((f_szIntS v.2.1 (f_szFramework v.1 m))))
def s_StepS : Sh := (.sl (.st [(.int .i64), (.int .i64), (.int .i64), (.int .i64), (.int .i64)]))
abbrev T_Step := (Int) × (Int) × (Int) × (Int) × (Int) × Unit
abbrev T_StepS := Nat × (Nat → T_Step)
def f_szStepS (v : T_StepS) (m : Int) : Int := if m - v.1 < 0 then -1 else m - v.1
def s_Claim : Sh := (.st [(.int .i64), (.st [(.int .i64), (.sl (.st [(.int .i64), (.int .i64)]))]), (.st [(.st [(.st [(.int .i64), (.sl (.st [(.int .i64), (.int .i64)]))]), (.sl (.st [(.int .i64), (.int .i64)]))]), (.sl (.int .i64))]), (.sl (.st [(.int .i64), (.int .i64), (.int .i64), (.int .i64), (.int .i64)])), (.sl (.int .i64))])
abbrev T_Claim := (Int) × (T_Graph) × (T_Tensegrity) × (T_StepS) × (T_IntS) × Unit
def f_szClaim (v : T_Claim) (m : Int) : Int := if (f_szGraph v.2.1 m) < 0 then -1 else (if (f_szTensegrity v.2.2.1 (f_szGraph v.2.1 m)) < 0 then -1 else (if (f_szStepS v.2.2.2.1 (f_szTensegrity v.2.2.1 (f_szGraph v.2.1 m))) < 0 then -1 else (if (f_szIntS v.2.2.2.2.1 (f_szStepS v.2.2.2.1 (f_szTensegrity v.2.2.1 (f_szGraph v.2.1 m)))) < 0 then -1 else ((f_szIntS v.2.2.2.2.1 (f_szStepS v.2.2.2.1 (f_szTensegrity v.2.2.1 (f_szGraph v.2.1 m))))))))
def s_Place : Sh := (.st [(.int .i64), (.int .i64)])
def S_toPlaceS (v : T_PlaceS) (k : Nat) : St :=
  ⟨[.p (.seq true 2 (v.1) (fun i => [.int .i64 ((v.2 i).1), .int .i64 ((v.2 i).2.1)])), .p .any, .p .any, .ar 2 0 0 v.1, .p (.int .i64 k)] ++ List.replicate 18 anyA, [(0, ⟨false, 2, v.1, fun i => [.p (.int .i64 (if i < k then (v.2 i).1 else 0)), .p (.int .i64 (if i < k then (v.2 i).2.1 else 0))]⟩)], 1⟩
def s_Step : Sh := (.st [(.int .i64), (.int .i64), (.int .i64), (.int .i64), (.int .i64)])
def S_toStepS (v : T_StepS) (k : Nat) : St :=
  ⟨[.p (.seq true 5 (v.1) (fun i => [.int .i64 ((v.2 i).1), .int .i64 ((v.2 i).2.1), .int .i64 ((v.2 i).2.2.1), .int .i64 ((v.2 i).2.2.2.1), .int .i64 ((v.2 i).2.2.2.2.1)])), .p .any, .p .any, .ar 5 0 0 v.1, .p (.int .i64 k)] ++ List.replicate 18 anyA, [(0, ⟨false, 5, v.1, fun i => [.p (.int .i64 (if i < k then (v.2 i).1 else 0)), .p (.int .i64 (if i < k then (v.2 i).2.1 else 0)), .p (.int .i64 (if i < k then (v.2 i).2.2.1 else 0)), .p (.int .i64 (if i < k then (v.2 i).2.2.2.1 else 0)), .p (.int .i64 (if i < k then (v.2 i).2.2.2.2.1 else 0))]⟩)], 1⟩
def S_eqPlaceS (v : T_PlaceS) (k : Nat) : St :=
  ⟨[.p (.seq true 2 (v.1) (fun i => [.int .i64 ((v.2 i).1), .int .i64 ((v.2 i).2.1)])), .p (.seq true 2 (v.1) (fun i => [.int .i64 ((v.2 i).1), .int .i64 ((v.2 i).2.1)])), .p .any, .p .any, .p .any, .p (.int .i64 k)] ++ List.replicate 21 anyA, [], 0⟩
def S_eqStepS (v : T_StepS) (k : Nat) : St :=
  ⟨[.p (.seq true 5 (v.1) (fun i => [.int .i64 ((v.2 i).1), .int .i64 ((v.2 i).2.1), .int .i64 ((v.2 i).2.2.1), .int .i64 ((v.2 i).2.2.2.1), .int .i64 ((v.2 i).2.2.2.2.1)])), .p (.seq true 5 (v.1) (fun i => [.int .i64 ((v.2 i).1), .int .i64 ((v.2 i).2.1), .int .i64 ((v.2 i).2.2.1), .int .i64 ((v.2 i).2.2.2.1), .int .i64 ((v.2 i).2.2.2.2.1)])), .p .any, .p .any, .p .any, .p (.int .i64 k)] ++ List.replicate 21 anyA, [], 0⟩
def q1_PlaceS (a b : T_Place) : Bool := a.1 == b.1 && (a.2.1 == b.2.1 && true)
def qT_PlaceS (g h : Nat → T_Place) : Nat → Bool
  | 0 => true
  | k + 1 => qT_PlaceS g h k && q1_PlaceS (g k) (h k)
def q_PlaceS (v u : T_PlaceS) : Bool := if v.1 = u.1 then qT_PlaceS v.2 u.2 v.1 else false
def S_sePlaceS (v u : T_PlaceS) (k : Nat) : St :=
  ⟨[.p (.seq true 2 (v.1) (fun i => [.int .i64 ((v.2 i).1), .int .i64 ((v.2 i).2.1)])), .p (.seq true 2 (u.1) (fun i => [.int .i64 ((u.2 i).1), .int .i64 ((u.2 i).2.1)]))] ++ List.replicate 10 anyA ++ [.p (.int .i64 v.1), .p (.int .i64 k)] ++ List.replicate 12 anyA, [], 0⟩
def q1_StepS (a b : T_Step) : Bool := a.1 == b.1 && (a.2.1 == b.2.1 && (a.2.2.1 == b.2.2.1 && (a.2.2.2.1 == b.2.2.2.1 && (a.2.2.2.2.1 == b.2.2.2.2.1 && true))))
def qT_StepS (g h : Nat → T_Step) : Nat → Bool
  | 0 => true
  | k + 1 => qT_StepS g h k && q1_StepS (g k) (h k)
def q_StepS (v u : T_StepS) : Bool := if v.1 = u.1 then qT_StepS v.2 u.2 v.1 else false
def S_seStepS (v u : T_StepS) (k : Nat) : St :=
  ⟨[.p (.seq true 5 (v.1) (fun i => [.int .i64 ((v.2 i).1), .int .i64 ((v.2 i).2.1), .int .i64 ((v.2 i).2.2.1), .int .i64 ((v.2 i).2.2.2.1), .int .i64 ((v.2 i).2.2.2.2.1)])), .p (.seq true 5 (u.1) (fun i => [.int .i64 ((u.2 i).1), .int .i64 ((u.2 i).2.1), .int .i64 ((u.2 i).2.2.1), .int .i64 ((u.2 i).2.2.2.1), .int .i64 ((u.2 i).2.2.2.2.1)]))] ++ List.replicate 10 anyA ++ [.p (.int .i64 v.1), .p (.int .i64 k)] ++ List.replicate 12 anyA, [], 0⟩
def S_ls_AreSameSteps_StepS (v u : T_StepS) (k : Nat) : St :=
  ⟨[.p (.seq true 5 (v.1) (fun i => [.int .i64 ((v.2 i).1), .int .i64 ((v.2 i).2.1), .int .i64 ((v.2 i).2.2.1), .int .i64 ((v.2 i).2.2.2.1), .int .i64 ((v.2 i).2.2.2.2.1)])), .p (.seq true 5 (u.1) (fun i => [.int .i64 ((u.2 i).1), .int .i64 ((u.2 i).2.1), .int .i64 ((u.2 i).2.2.1), .int .i64 ((u.2 i).2.2.2.1), .int .i64 ((u.2 i).2.2.2.2.1)])), .p .any, .p .any, .p .any, .p (.int .i64 k)] ++ List.replicate 20 anyA, [], 0⟩

theorem p_szPlaceS_a (v : T_PlaceS) (m : Int) :
    pathOb Try.prog Try.f113 0 [.reg [oT], .reg [oT, oT, oT, oT, oT], .reg [oT, oT], .dec true, .reg [oT]] [.code (bodyOf Try.f113)] (start Try.f113 [] 0 [.p (.seq true 2 (v.1) (fun i => [.int .i64 ((v.2 i).1), .int .i64 ((v.2 i).2.1)])), .p (.int .i64 m)]) [] 1 [] (.p (.int .i64 (-1))) =
    some [(((-9223372036854775808) : Int) ≤ (m - (↑v.fst : Int))),
  (((m - (↑v.fst : Int)) : Int) ≤ 9223372036854775807),
  ((decide (m - (↑v.fst : Int) < 0)) = true),
  (((-1) : Int) = (-1))] := by kernel_rfl

theorem p_szPlaceS_b (v : T_PlaceS) (m : Int) :
    pathOb Try.prog Try.f113 0 [.reg [oT], .reg [oT, oT, oT, oT, oT], .reg [oT, oT], .dec false, .reg [oT, oT]] [.code (bodyOf Try.f113)] (start Try.f113 [] 0 [.p (.seq true 2 (v.1) (fun i => [.int .i64 ((v.2 i).1), .int .i64 ((v.2 i).2.1)])), .p (.int .i64 m)]) [] 1 [] (.p (.int .i64 (m - v.1))) =
    some [(((-9223372036854775808) : Int) ≤ (m - (↑v.fst : Int))),
  (((m - (↑v.fst : Int)) : Int) ≤ 9223372036854775807),
  ((decide (m - (↑v.fst : Int) < 0)) = false),
  (((m - (↑v.fst : Int)) : Int) = (m - (↑v.fst : Int)))] := by kernel_rfl

theorem p_szFramework_0 (v : T_Framework) (m : Int) :
    pathOb Try.prog Try.f91 0 [.reg [oT, oT], .reg [oT, oT, oT, ⟨true, (some ⟨[], [], 1, [], .p (.int .i64 (f_szGraph v.1 m))⟩)⟩, oT], .reg [oT, oT], .dec true, .reg [oT]] [.code (bodyOf Try.f91)] (start Try.f91 [] 0 [.agg [.p (.int .i64 (v.1.1)), .p (.seq true 2 (v.1.2.1.1) (fun i => [.int .i64 ((v.1.2.1.2 i).1), .int .i64 ((v.1.2.1.2 i).2.1)])), .p (.seq true 2 (v.2.1.1) (fun i => [.int .i64 ((v.2.1.2 i).1), .int .i64 ((v.2.1.2 i).2.1)]))], .p (.int .i64 m)]) [] 1 [] (.p (.int .i64 (-1))) =
    some [((0 : Nat) < 1),
  Con (Try.prog) 36 0 [] [.agg [.p (.int .i64 (v.fst.fst)), .p (.seq true 2 (v.fst.snd.fst.fst) (fun i => [.int .i64 ((v.fst.snd.fst.snd i).fst), .int .i64 ((v.fst.snd.fst.snd i).snd.fst)]))], .p (.int .i64 (m))] [] (.p (.int .i64 (f_szGraph v.fst m))),
  ((decide (f_szGraph v.fst m < 0)) = true),
  (((-1) : Int) = (-1))] := by kernel_rfl

theorem p_szFramework_1 (v : T_Framework) (m : Int) :
    pathOb Try.prog Try.f91 0 [.reg [oT, oT], .reg [oT, oT, oT, ⟨true, (some ⟨[], [], 1, [], .p (.int .i64 (f_szGraph v.1 m))⟩)⟩, oT], .reg [oT, oT], .dec false, .reg [oT, oT, oT, ⟨true, (some ⟨[], [], 1, [], .p (.int .i64 (f_szPlaceS v.2.1 (f_szGraph v.1 m)))⟩)⟩, oT], .reg [oT, oT], .dec true, .reg [oT]] [.code (bodyOf Try.f91)] (start Try.f91 [] 0 [.agg [.p (.int .i64 (v.1.1)), .p (.seq true 2 (v.1.2.1.1) (fun i => [.int .i64 ((v.1.2.1.2 i).1), .int .i64 ((v.1.2.1.2 i).2.1)])), .p (.seq true 2 (v.2.1.1) (fun i => [.int .i64 ((v.2.1.2 i).1), .int .i64 ((v.2.1.2 i).2.1)]))], .p (.int .i64 m)]) [] 1 [] (.p (.int .i64 (-1))) =
    some [((0 : Nat) < 1),
  Con (Try.prog) 36 0 [] [.agg [.p (.int .i64 (v.fst.fst)), .p (.seq true 2 (v.fst.snd.fst.fst) (fun i => [.int .i64 ((v.fst.snd.fst.snd i).fst), .int .i64 ((v.fst.snd.fst.snd i).snd.fst)]))], .p (.int .i64 (m))] [] (.p (.int .i64 (f_szGraph v.fst m))),
  ((decide (f_szGraph v.fst m < 0)) = false),
  ((0 : Nat) < 1),
  Con (Try.prog) 113 0 [] [.p (.seq true 2 (v.snd.fst.fst) (fun i => [.int .i64 ((v.snd.fst.snd i).fst), .int .i64 ((v.snd.fst.snd i).snd.fst)])), .p (.int .i64 (f_szGraph v.fst m))] [] (.p (.int .i64 (f_szPlaceS v.snd.fst (f_szGraph v.fst m)))),
  ((decide (f_szPlaceS v.snd.fst (f_szGraph v.fst m) < 0)) = true),
  (((-1) : Int) = (-1))] := by kernel_rfl

theorem p_szFramework_e (v : T_Framework) (m : Int) :
    pathOb Try.prog Try.f91 0 [.reg [oT, oT], .reg [oT, oT, oT, ⟨true, (some ⟨[], [], 1, [], .p (.int .i64 (f_szGraph v.1 m))⟩)⟩, oT], .reg [oT, oT], .dec false, .reg [oT, oT, oT, ⟨true, (some ⟨[], [], 1, [], .p (.int .i64 (f_szPlaceS v.2.1 (f_szGraph v.1 m)))⟩)⟩, oT], .reg [oT, oT], .dec false, .reg [oT, oT]] [.code (bodyOf Try.f91)] (start Try.f91 [] 0 [.agg [.p (.int .i64 (v.1.1)), .p (.seq true 2 (v.1.2.1.1) (fun i => [.int .i64 ((v.1.2.1.2 i).1), .int .i64 ((v.1.2.1.2 i).2.1)])), .p (.seq true 2 (v.2.1.1) (fun i => [.int .i64 ((v.2.1.2 i).1), .int .i64 ((v.2.1.2 i).2.1)]))], .p (.int .i64 m)]) [] 1 [] (.p (.int .i64 (f_szPlaceS v.2.1 (f_szGraph v.1 m)))) =
    some [((0 : Nat) < 1),
  Con (Try.prog) 36 0 [] [.agg [.p (.int .i64 (v.fst.fst)), .p (.seq true 2 (v.fst.snd.fst.fst) (fun i => [.int .i64 ((v.fst.snd.fst.snd i).fst), .int .i64 ((v.fst.snd.fst.snd i).snd.fst)]))], .p (.int .i64 (m))] [] (.p (.int .i64 (f_szGraph v.fst m))),
  ((decide (f_szGraph v.fst m < 0)) = false),
  ((0 : Nat) < 1),
  Con (Try.prog) 113 0 [] [.p (.seq true 2 (v.snd.fst.fst) (fun i => [.int .i64 ((v.snd.fst.snd i).fst), .int .i64 ((v.snd.fst.snd i).snd.fst)])), .p (.int .i64 (f_szGraph v.fst m))] [] (.p (.int .i64 (f_szPlaceS v.snd.fst (f_szGraph v.fst m)))),
  ((decide (f_szPlaceS v.snd.fst (f_szGraph v.fst m) < 0)) = false),
  (((f_szPlaceS v.snd.fst (f_szGraph v.fst m)) : Int) = (f_szPlaceS v.snd.fst (f_szGraph v.fst m)))] := by kernel_rfl

theorem p_szTensegrity_0 (v : T_Tensegrity) (m : Int) :
    pathOb Try.prog Try.f58 0 [.reg [oT, oT], .reg [oT, oT, oT, ⟨true, (some ⟨[], [], 1, [], .p (.int .i64 (f_szFramework v.1 m))⟩)⟩, oT], .reg [oT, oT], .dec true, .reg [oT]] [.code (bodyOf Try.f58)] (start Try.f58 [] 0 [.agg [.p (.int .i64 (v.1.1.1)), .p (.seq true 2 (v.1.1.2.1.1) (fun i => [.int .i64 ((v.1.1.2.1.2 i).1), .int .i64 ((v.1.1.2.1.2 i).2.1)])), .p (.seq true 2 (v.1.2.1.1) (fun i => [.int .i64 ((v.1.2.1.2 i).1), .int .i64 ((v.1.2.1.2 i).2.1)])), .p (.seq true 1 (v.2.1.1) (fun i => [.int .i64 ((v.2.1.2 i))]))], .p (.int .i64 m)]) [] 1 [] (.p (.int .i64 (-1))) =
    some [((0 : Nat) < 1),
  Con (Try.prog) 91 0 [] [.agg [.p (.int .i64 (v.fst.fst.fst)), .p (.seq true 2 (v.fst.fst.snd.fst.fst) (fun i => [.int .i64 ((v.fst.fst.snd.fst.snd i).fst), .int .i64 ((v.fst.fst.snd.fst.snd i).snd.fst)])), .p (.seq true 2 (v.fst.snd.fst.fst) (fun i => [.int .i64 ((v.fst.snd.fst.snd i).fst), .int .i64 ((v.fst.snd.fst.snd i).snd.fst)]))], .p (.int .i64 (m))] [] (.p (.int .i64 (f_szFramework v.fst m))),
  ((decide (f_szFramework v.fst m < 0)) = true),
  (((-1) : Int) = (-1))] := by kernel_rfl

theorem p_szTensegrity_1 (v : T_Tensegrity) (m : Int) :
    pathOb Try.prog Try.f58 0 [.reg [oT, oT], .reg [oT, oT, oT, ⟨true, (some ⟨[], [], 1, [], .p (.int .i64 (f_szFramework v.1 m))⟩)⟩, oT], .reg [oT, oT], .dec false, .reg [oT, oT, oT, ⟨true, (some ⟨[], [], 1, [], .p (.int .i64 (f_szIntS v.2.1 (f_szFramework v.1 m)))⟩)⟩, oT], .reg [oT, oT], .dec true, .reg [oT]] [.code (bodyOf Try.f58)] (start Try.f58 [] 0 [.agg [.p (.int .i64 (v.1.1.1)), .p (.seq true 2 (v.1.1.2.1.1) (fun i => [.int .i64 ((v.1.1.2.1.2 i).1), .int .i64 ((v.1.1.2.1.2 i).2.1)])), .p (.seq true 2 (v.1.2.1.1) (fun i => [.int .i64 ((v.1.2.1.2 i).1), .int .i64 ((v.1.2.1.2 i).2.1)])), .p (.seq true 1 (v.2.1.1) (fun i => [.int .i64 ((v.2.1.2 i))]))], .p (.int .i64 m)]) [] 1 [] (.p (.int .i64 (-1))) =
    some [((0 : Nat) < 1),
  Con (Try.prog) 91 0 [] [.agg [.p (.int .i64 (v.fst.fst.fst)), .p (.seq true 2 (v.fst.fst.snd.fst.fst) (fun i => [.int .i64 ((v.fst.fst.snd.fst.snd i).fst), .int .i64 ((v.fst.fst.snd.fst.snd i).snd.fst)])), .p (.seq true 2 (v.fst.snd.fst.fst) (fun i => [.int .i64 ((v.fst.snd.fst.snd i).fst), .int .i64 ((v.fst.snd.fst.snd i).snd.fst)]))], .p (.int .i64 (m))] [] (.p (.int .i64 (f_szFramework v.fst m))),
  ((decide (f_szFramework v.fst m < 0)) = false),
  ((0 : Nat) < 1),
  Con (Try.prog) 60 0 [] [.p (.seq true 1 (v.snd.fst.fst) (fun i => [.int .i64 (v.snd.fst.snd i)])), .p (.int .i64 (f_szFramework v.fst m))] [] (.p (.int .i64 (f_szIntS v.snd.fst (f_szFramework v.fst m)))),
  ((decide (f_szIntS v.snd.fst (f_szFramework v.fst m) < 0)) = true),
  (((-1) : Int) = (-1))] := by kernel_rfl

theorem p_szTensegrity_e (v : T_Tensegrity) (m : Int) :
    pathOb Try.prog Try.f58 0 [.reg [oT, oT], .reg [oT, oT, oT, ⟨true, (some ⟨[], [], 1, [], .p (.int .i64 (f_szFramework v.1 m))⟩)⟩, oT], .reg [oT, oT], .dec false, .reg [oT, oT, oT, ⟨true, (some ⟨[], [], 1, [], .p (.int .i64 (f_szIntS v.2.1 (f_szFramework v.1 m)))⟩)⟩, oT], .reg [oT, oT], .dec false, .reg [oT, oT]] [.code (bodyOf Try.f58)] (start Try.f58 [] 0 [.agg [.p (.int .i64 (v.1.1.1)), .p (.seq true 2 (v.1.1.2.1.1) (fun i => [.int .i64 ((v.1.1.2.1.2 i).1), .int .i64 ((v.1.1.2.1.2 i).2.1)])), .p (.seq true 2 (v.1.2.1.1) (fun i => [.int .i64 ((v.1.2.1.2 i).1), .int .i64 ((v.1.2.1.2 i).2.1)])), .p (.seq true 1 (v.2.1.1) (fun i => [.int .i64 ((v.2.1.2 i))]))], .p (.int .i64 m)]) [] 1 [] (.p (.int .i64 (f_szIntS v.2.1 (f_szFramework v.1 m)))) =
    some [((0 : Nat) < 1),
  Con (Try.prog) 91 0 [] [.agg [.p (.int .i64 (v.fst.fst.fst)), .p (.seq true 2 (v.fst.fst.snd.fst.fst) (fun i => [.int .i64 ((v.fst.fst.snd.fst.snd i).fst), .int .i64 ((v.fst.fst.snd.fst.snd i).snd.fst)])), .p (.seq true 2 (v.fst.snd.fst.fst) (fun i => [.int .i64 ((v.fst.snd.fst.snd i).fst), .int .i64 ((v.fst.snd.fst.snd i).snd.fst)]))], .p (.int .i64 (m))] [] (.p (.int .i64 (f_szFramework v.fst m))),
  ((decide (f_szFramework v.fst m < 0)) = false),
  ((0 : Nat) < 1),
  Con (Try.prog) 60 0 [] [.p (.seq true 1 (v.snd.fst.fst) (fun i => [.int .i64 (v.snd.fst.snd i)])), .p (.int .i64 (f_szFramework v.fst m))] [] (.p (.int .i64 (f_szIntS v.snd.fst (f_szFramework v.fst m)))),
  ((decide (f_szIntS v.snd.fst (f_szFramework v.fst m) < 0)) = false),
  (((f_szIntS v.snd.fst (f_szFramework v.fst m)) : Int) = (f_szIntS v.snd.fst (f_szFramework v.fst m)))] := by kernel_rfl

theorem p_szStepS_a (v : T_StepS) (m : Int) :
    pathOb Try.prog Try.f59 0 [.reg [oT], .reg [oT, oT, oT, oT, oT], .reg [oT, oT], .dec true, .reg [oT]] [.code (bodyOf Try.f59)] (start Try.f59 [] 0 [.p (.seq true 5 (v.1) (fun i => [.int .i64 ((v.2 i).1), .int .i64 ((v.2 i).2.1), .int .i64 ((v.2 i).2.2.1), .int .i64 ((v.2 i).2.2.2.1), .int .i64 ((v.2 i).2.2.2.2.1)])), .p (.int .i64 m)]) [] 1 [] (.p (.int .i64 (-1))) =
    some [(((-9223372036854775808) : Int) ≤ (m - (↑v.fst : Int))),
  (((m - (↑v.fst : Int)) : Int) ≤ 9223372036854775807),
  ((decide (m - (↑v.fst : Int) < 0)) = true),
  (((-1) : Int) = (-1))] := by kernel_rfl

theorem p_szStepS_b (v : T_StepS) (m : Int) :
    pathOb Try.prog Try.f59 0 [.reg [oT], .reg [oT, oT, oT, oT, oT], .reg [oT, oT], .dec false, .reg [oT, oT]] [.code (bodyOf Try.f59)] (start Try.f59 [] 0 [.p (.seq true 5 (v.1) (fun i => [.int .i64 ((v.2 i).1), .int .i64 ((v.2 i).2.1), .int .i64 ((v.2 i).2.2.1), .int .i64 ((v.2 i).2.2.2.1), .int .i64 ((v.2 i).2.2.2.2.1)])), .p (.int .i64 m)]) [] 1 [] (.p (.int .i64 (m - v.1))) =
    some [(((-9223372036854775808) : Int) ≤ (m - (↑v.fst : Int))),
  (((m - (↑v.fst : Int)) : Int) ≤ 9223372036854775807),
  ((decide (m - (↑v.fst : Int) < 0)) = false),
  (((m - (↑v.fst : Int)) : Int) = (m - (↑v.fst : Int)))] := by kernel_rfl

theorem p_szClaim_0 (v : T_Claim) (m : Int) :
    pathOb Try.prog Try.f23 0 [.reg [oT, oT], .reg [oT, oT, oT, ⟨true, (some ⟨[], [], 1, [], .p (.int .i64 (f_szGraph v.2.1 m))⟩)⟩, oT], .reg [oT, oT], .dec true, .reg [oT]] [.code (bodyOf Try.f23)] (start Try.f23 [] 0 [.agg [.p (.int .i64 (v.1)), .p (.int .i64 (v.2.1.1)), .p (.seq true 2 (v.2.1.2.1.1) (fun i => [.int .i64 ((v.2.1.2.1.2 i).1), .int .i64 ((v.2.1.2.1.2 i).2.1)])), .p (.int .i64 (v.2.2.1.1.1.1)), .p (.seq true 2 (v.2.2.1.1.1.2.1.1) (fun i => [.int .i64 ((v.2.2.1.1.1.2.1.2 i).1), .int .i64 ((v.2.2.1.1.1.2.1.2 i).2.1)])), .p (.seq true 2 (v.2.2.1.1.2.1.1) (fun i => [.int .i64 ((v.2.2.1.1.2.1.2 i).1), .int .i64 ((v.2.2.1.1.2.1.2 i).2.1)])), .p (.seq true 1 (v.2.2.1.2.1.1) (fun i => [.int .i64 ((v.2.2.1.2.1.2 i))])), .p (.seq true 5 (v.2.2.2.1.1) (fun i => [.int .i64 ((v.2.2.2.1.2 i).1), .int .i64 ((v.2.2.2.1.2 i).2.1), .int .i64 ((v.2.2.2.1.2 i).2.2.1), .int .i64 ((v.2.2.2.1.2 i).2.2.2.1), .int .i64 ((v.2.2.2.1.2 i).2.2.2.2.1)])), .p (.seq true 1 (v.2.2.2.2.1.1) (fun i => [.int .i64 ((v.2.2.2.2.1.2 i))]))], .p (.int .i64 m)]) [] 1 [] (.p (.int .i64 (-1))) =
    some [((0 : Nat) < 1),
  Con (Try.prog) 36 0 [] [.agg [.p (.int .i64 (v.snd.fst.fst)), .p (.seq true 2 (v.snd.fst.snd.fst.fst) (fun i => [.int .i64 ((v.snd.fst.snd.fst.snd i).fst), .int .i64 ((v.snd.fst.snd.fst.snd i).snd.fst)]))], .p (.int .i64 (m))] [] (.p (.int .i64 (f_szGraph v.snd.fst m))),
  ((decide (f_szGraph v.snd.fst m < 0)) = true),
  (((-1) : Int) = (-1))] := by kernel_rfl

theorem p_szClaim_1 (v : T_Claim) (m : Int) :
    pathOb Try.prog Try.f23 0 [.reg [oT, oT], .reg [oT, oT, oT, ⟨true, (some ⟨[], [], 1, [], .p (.int .i64 (f_szGraph v.2.1 m))⟩)⟩, oT], .reg [oT, oT], .dec false, .reg [oT, oT, oT, ⟨true, (some ⟨[], [], 1, [], .p (.int .i64 (f_szTensegrity v.2.2.1 (f_szGraph v.2.1 m)))⟩)⟩, oT], .reg [oT, oT], .dec true, .reg [oT]] [.code (bodyOf Try.f23)] (start Try.f23 [] 0 [.agg [.p (.int .i64 (v.1)), .p (.int .i64 (v.2.1.1)), .p (.seq true 2 (v.2.1.2.1.1) (fun i => [.int .i64 ((v.2.1.2.1.2 i).1), .int .i64 ((v.2.1.2.1.2 i).2.1)])), .p (.int .i64 (v.2.2.1.1.1.1)), .p (.seq true 2 (v.2.2.1.1.1.2.1.1) (fun i => [.int .i64 ((v.2.2.1.1.1.2.1.2 i).1), .int .i64 ((v.2.2.1.1.1.2.1.2 i).2.1)])), .p (.seq true 2 (v.2.2.1.1.2.1.1) (fun i => [.int .i64 ((v.2.2.1.1.2.1.2 i).1), .int .i64 ((v.2.2.1.1.2.1.2 i).2.1)])), .p (.seq true 1 (v.2.2.1.2.1.1) (fun i => [.int .i64 ((v.2.2.1.2.1.2 i))])), .p (.seq true 5 (v.2.2.2.1.1) (fun i => [.int .i64 ((v.2.2.2.1.2 i).1), .int .i64 ((v.2.2.2.1.2 i).2.1), .int .i64 ((v.2.2.2.1.2 i).2.2.1), .int .i64 ((v.2.2.2.1.2 i).2.2.2.1), .int .i64 ((v.2.2.2.1.2 i).2.2.2.2.1)])), .p (.seq true 1 (v.2.2.2.2.1.1) (fun i => [.int .i64 ((v.2.2.2.2.1.2 i))]))], .p (.int .i64 m)]) [] 1 [] (.p (.int .i64 (-1))) =
    some [((0 : Nat) < 1),
  Con (Try.prog) 36 0 [] [.agg [.p (.int .i64 (v.snd.fst.fst)), .p (.seq true 2 (v.snd.fst.snd.fst.fst) (fun i => [.int .i64 ((v.snd.fst.snd.fst.snd i).fst), .int .i64 ((v.snd.fst.snd.fst.snd i).snd.fst)]))], .p (.int .i64 (m))] [] (.p (.int .i64 (f_szGraph v.snd.fst m))),
  ((decide (f_szGraph v.snd.fst m < 0)) = false),
  ((0 : Nat) < 1),
  Con (Try.prog) 58 0 [] [.agg [.p (.int .i64 (v.snd.snd.fst.fst.fst.fst)), .p (.seq true 2 (v.snd.snd.fst.fst.fst.snd.fst.fst) (fun i => [.int .i64 ((v.snd.snd.fst.fst.fst.snd.fst.snd i).fst), .int .i64 ((v.snd.snd.fst.fst.fst.snd.fst.snd i).snd.fst)])), .p (.seq true 2 (v.snd.snd.fst.fst.snd.fst.fst) (fun i => [.int .i64 ((v.snd.snd.fst.fst.snd.fst.snd i).fst), .int .i64 ((v.snd.snd.fst.fst.snd.fst.snd i).snd.fst)])), .p (.seq true 1 (v.snd.snd.fst.snd.fst.fst) (fun i => [.int .i64 (v.snd.snd.fst.snd.fst.snd i)]))], .p (.int .i64 (f_szGraph v.snd.fst m))] [] (.p (.int .i64 (f_szTensegrity v.snd.snd.fst (f_szGraph v.snd.fst m)))),
  ((decide (f_szTensegrity v.snd.snd.fst (f_szGraph v.snd.fst m) < 0)) = true),
  (((-1) : Int) = (-1))] := by kernel_rfl

theorem p_szClaim_2 (v : T_Claim) (m : Int) :
    pathOb Try.prog Try.f23 0 [.reg [oT, oT], .reg [oT, oT, oT, ⟨true, (some ⟨[], [], 1, [], .p (.int .i64 (f_szGraph v.2.1 m))⟩)⟩, oT], .reg [oT, oT], .dec false, .reg [oT, oT, oT, ⟨true, (some ⟨[], [], 1, [], .p (.int .i64 (f_szTensegrity v.2.2.1 (f_szGraph v.2.1 m)))⟩)⟩, oT], .reg [oT, oT], .dec false, .reg [oT, oT, oT, ⟨true, (some ⟨[], [], 1, [], .p (.int .i64 (f_szStepS v.2.2.2.1 (f_szTensegrity v.2.2.1 (f_szGraph v.2.1 m))))⟩)⟩, oT], .reg [oT, oT], .dec true, .reg [oT]] [.code (bodyOf Try.f23)] (start Try.f23 [] 0 [.agg [.p (.int .i64 (v.1)), .p (.int .i64 (v.2.1.1)), .p (.seq true 2 (v.2.1.2.1.1) (fun i => [.int .i64 ((v.2.1.2.1.2 i).1), .int .i64 ((v.2.1.2.1.2 i).2.1)])), .p (.int .i64 (v.2.2.1.1.1.1)), .p (.seq true 2 (v.2.2.1.1.1.2.1.1) (fun i => [.int .i64 ((v.2.2.1.1.1.2.1.2 i).1), .int .i64 ((v.2.2.1.1.1.2.1.2 i).2.1)])), .p (.seq true 2 (v.2.2.1.1.2.1.1) (fun i => [.int .i64 ((v.2.2.1.1.2.1.2 i).1), .int .i64 ((v.2.2.1.1.2.1.2 i).2.1)])), .p (.seq true 1 (v.2.2.1.2.1.1) (fun i => [.int .i64 ((v.2.2.1.2.1.2 i))])), .p (.seq true 5 (v.2.2.2.1.1) (fun i => [.int .i64 ((v.2.2.2.1.2 i).1), .int .i64 ((v.2.2.2.1.2 i).2.1), .int .i64 ((v.2.2.2.1.2 i).2.2.1), .int .i64 ((v.2.2.2.1.2 i).2.2.2.1), .int .i64 ((v.2.2.2.1.2 i).2.2.2.2.1)])), .p (.seq true 1 (v.2.2.2.2.1.1) (fun i => [.int .i64 ((v.2.2.2.2.1.2 i))]))], .p (.int .i64 m)]) [] 1 [] (.p (.int .i64 (-1))) =
    some [((0 : Nat) < 1),
  Con (Try.prog) 36 0 [] [.agg [.p (.int .i64 (v.snd.fst.fst)), .p (.seq true 2 (v.snd.fst.snd.fst.fst) (fun i => [.int .i64 ((v.snd.fst.snd.fst.snd i).fst), .int .i64 ((v.snd.fst.snd.fst.snd i).snd.fst)]))], .p (.int .i64 (m))] [] (.p (.int .i64 (f_szGraph v.snd.fst m))),
  ((decide (f_szGraph v.snd.fst m < 0)) = false),
  ((0 : Nat) < 1),
  Con (Try.prog) 58 0 [] [.agg [.p (.int .i64 (v.snd.snd.fst.fst.fst.fst)), .p (.seq true 2 (v.snd.snd.fst.fst.fst.snd.fst.fst) (fun i => [.int .i64 ((v.snd.snd.fst.fst.fst.snd.fst.snd i).fst), .int .i64 ((v.snd.snd.fst.fst.fst.snd.fst.snd i).snd.fst)])), .p (.seq true 2 (v.snd.snd.fst.fst.snd.fst.fst) (fun i => [.int .i64 ((v.snd.snd.fst.fst.snd.fst.snd i).fst), .int .i64 ((v.snd.snd.fst.fst.snd.fst.snd i).snd.fst)])), .p (.seq true 1 (v.snd.snd.fst.snd.fst.fst) (fun i => [.int .i64 (v.snd.snd.fst.snd.fst.snd i)]))], .p (.int .i64 (f_szGraph v.snd.fst m))] [] (.p (.int .i64 (f_szTensegrity v.snd.snd.fst (f_szGraph v.snd.fst m)))),
  ((decide (f_szTensegrity v.snd.snd.fst (f_szGraph v.snd.fst m) < 0)) = false),
  ((0 : Nat) < 1),
  Con (Try.prog) 59 0 [] [.p (.seq true 5 (v.snd.snd.snd.fst.fst) (fun i => [.int .i64 ((v.snd.snd.snd.fst.snd i).fst), .int .i64 ((v.snd.snd.snd.fst.snd i).snd.fst), .int .i64 ((v.snd.snd.snd.fst.snd i).snd.snd.fst), .int .i64 ((v.snd.snd.snd.fst.snd i).snd.snd.snd.fst), .int .i64 ((v.snd.snd.snd.fst.snd i).snd.snd.snd.snd.fst)])), .p (.int .i64 (f_szTensegrity v.snd.snd.fst (f_szGraph v.snd.fst m)))] [] (.p (.int .i64 (f_szStepS v.snd.snd.snd.fst (f_szTensegrity v.snd.snd.fst (f_szGraph v.snd.fst m))))),
  ((decide (f_szStepS v.snd.snd.snd.fst (f_szTensegrity v.snd.snd.fst (f_szGraph v.snd.fst m)) < 0)) = true),
  (((-1) : Int) = (-1))] := by kernel_rfl

theorem p_szClaim_3 (v : T_Claim) (m : Int) :
    pathOb Try.prog Try.f23 0 [.reg [oT, oT], .reg [oT, oT, oT, ⟨true, (some ⟨[], [], 1, [], .p (.int .i64 (f_szGraph v.2.1 m))⟩)⟩, oT], .reg [oT, oT], .dec false, .reg [oT, oT, oT, ⟨true, (some ⟨[], [], 1, [], .p (.int .i64 (f_szTensegrity v.2.2.1 (f_szGraph v.2.1 m)))⟩)⟩, oT], .reg [oT, oT], .dec false, .reg [oT, oT, oT, ⟨true, (some ⟨[], [], 1, [], .p (.int .i64 (f_szStepS v.2.2.2.1 (f_szTensegrity v.2.2.1 (f_szGraph v.2.1 m))))⟩)⟩, oT], .reg [oT, oT], .dec false, .reg [oT, oT, oT, ⟨true, (some ⟨[], [], 1, [], .p (.int .i64 (f_szIntS v.2.2.2.2.1 (f_szStepS v.2.2.2.1 (f_szTensegrity v.2.2.1 (f_szGraph v.2.1 m)))))⟩)⟩, oT], .reg [oT, oT], .dec true, .reg [oT]] [.code (bodyOf Try.f23)] (start Try.f23 [] 0 [.agg [.p (.int .i64 (v.1)), .p (.int .i64 (v.2.1.1)), .p (.seq true 2 (v.2.1.2.1.1) (fun i => [.int .i64 ((v.2.1.2.1.2 i).1), .int .i64 ((v.2.1.2.1.2 i).2.1)])), .p (.int .i64 (v.2.2.1.1.1.1)), .p (.seq true 2 (v.2.2.1.1.1.2.1.1) (fun i => [.int .i64 ((v.2.2.1.1.1.2.1.2 i).1), .int .i64 ((v.2.2.1.1.1.2.1.2 i).2.1)])), .p (.seq true 2 (v.2.2.1.1.2.1.1) (fun i => [.int .i64 ((v.2.2.1.1.2.1.2 i).1), .int .i64 ((v.2.2.1.1.2.1.2 i).2.1)])), .p (.seq true 1 (v.2.2.1.2.1.1) (fun i => [.int .i64 ((v.2.2.1.2.1.2 i))])), .p (.seq true 5 (v.2.2.2.1.1) (fun i => [.int .i64 ((v.2.2.2.1.2 i).1), .int .i64 ((v.2.2.2.1.2 i).2.1), .int .i64 ((v.2.2.2.1.2 i).2.2.1), .int .i64 ((v.2.2.2.1.2 i).2.2.2.1), .int .i64 ((v.2.2.2.1.2 i).2.2.2.2.1)])), .p (.seq true 1 (v.2.2.2.2.1.1) (fun i => [.int .i64 ((v.2.2.2.2.1.2 i))]))], .p (.int .i64 m)]) [] 1 [] (.p (.int .i64 (-1))) =
    some [((0 : Nat) < 1),
  Con (Try.prog) 36 0 [] [.agg [.p (.int .i64 (v.snd.fst.fst)), .p (.seq true 2 (v.snd.fst.snd.fst.fst) (fun i => [.int .i64 ((v.snd.fst.snd.fst.snd i).fst), .int .i64 ((v.snd.fst.snd.fst.snd i).snd.fst)]))], .p (.int .i64 (m))] [] (.p (.int .i64 (f_szGraph v.snd.fst m))),
  ((decide (f_szGraph v.snd.fst m < 0)) = false),
  ((0 : Nat) < 1),
  Con (Try.prog) 58 0 [] [.agg [.p (.int .i64 (v.snd.snd.fst.fst.fst.fst)), .p (.seq true 2 (v.snd.snd.fst.fst.fst.snd.fst.fst) (fun i => [.int .i64 ((v.snd.snd.fst.fst.fst.snd.fst.snd i).fst), .int .i64 ((v.snd.snd.fst.fst.fst.snd.fst.snd i).snd.fst)])), .p (.seq true 2 (v.snd.snd.fst.fst.snd.fst.fst) (fun i => [.int .i64 ((v.snd.snd.fst.fst.snd.fst.snd i).fst), .int .i64 ((v.snd.snd.fst.fst.snd.fst.snd i).snd.fst)])), .p (.seq true 1 (v.snd.snd.fst.snd.fst.fst) (fun i => [.int .i64 (v.snd.snd.fst.snd.fst.snd i)]))], .p (.int .i64 (f_szGraph v.snd.fst m))] [] (.p (.int .i64 (f_szTensegrity v.snd.snd.fst (f_szGraph v.snd.fst m)))),
  ((decide (f_szTensegrity v.snd.snd.fst (f_szGraph v.snd.fst m) < 0)) = false),
  ((0 : Nat) < 1),
  Con (Try.prog) 59 0 [] [.p (.seq true 5 (v.snd.snd.snd.fst.fst) (fun i => [.int .i64 ((v.snd.snd.snd.fst.snd i).fst), .int .i64 ((v.snd.snd.snd.fst.snd i).snd.fst), .int .i64 ((v.snd.snd.snd.fst.snd i).snd.snd.fst), .int .i64 ((v.snd.snd.snd.fst.snd i).snd.snd.snd.fst), .int .i64 ((v.snd.snd.snd.fst.snd i).snd.snd.snd.snd.fst)])), .p (.int .i64 (f_szTensegrity v.snd.snd.fst (f_szGraph v.snd.fst m)))] [] (.p (.int .i64 (f_szStepS v.snd.snd.snd.fst (f_szTensegrity v.snd.snd.fst (f_szGraph v.snd.fst m))))),
  ((decide (f_szStepS v.snd.snd.snd.fst (f_szTensegrity v.snd.snd.fst (f_szGraph v.snd.fst m)) < 0)) = false),
  ((0 : Nat) < 1),
  Con (Try.prog) 60 0 [] [.p (.seq true 1 (v.snd.snd.snd.snd.fst.fst) (fun i => [.int .i64 (v.snd.snd.snd.snd.fst.snd i)])), .p (.int .i64 (f_szStepS v.snd.snd.snd.fst (f_szTensegrity v.snd.snd.fst (f_szGraph v.snd.fst m))))] [] (.p (.int .i64 (f_szIntS v.snd.snd.snd.snd.fst (f_szStepS v.snd.snd.snd.fst (f_szTensegrity v.snd.snd.fst (f_szGraph v.snd.fst m)))))),
  ((decide (f_szIntS v.snd.snd.snd.snd.fst (f_szStepS v.snd.snd.snd.fst (f_szTensegrity v.snd.snd.fst (f_szGraph v.snd.fst m))) < 0)) = true),
  (((-1) : Int) = (-1))] := by kernel_rfl

theorem p_szClaim_e (v : T_Claim) (m : Int) :
    pathOb Try.prog Try.f23 0 [.reg [oT, oT], .reg [oT, oT, oT, ⟨true, (some ⟨[], [], 1, [], .p (.int .i64 (f_szGraph v.2.1 m))⟩)⟩, oT], .reg [oT, oT], .dec false, .reg [oT, oT, oT, ⟨true, (some ⟨[], [], 1, [], .p (.int .i64 (f_szTensegrity v.2.2.1 (f_szGraph v.2.1 m)))⟩)⟩, oT], .reg [oT, oT], .dec false, .reg [oT, oT, oT, ⟨true, (some ⟨[], [], 1, [], .p (.int .i64 (f_szStepS v.2.2.2.1 (f_szTensegrity v.2.2.1 (f_szGraph v.2.1 m))))⟩)⟩, oT], .reg [oT, oT], .dec false, .reg [oT, oT, oT, ⟨true, (some ⟨[], [], 1, [], .p (.int .i64 (f_szIntS v.2.2.2.2.1 (f_szStepS v.2.2.2.1 (f_szTensegrity v.2.2.1 (f_szGraph v.2.1 m)))))⟩)⟩, oT], .reg [oT, oT], .dec false, .reg [oT, oT]] [.code (bodyOf Try.f23)] (start Try.f23 [] 0 [.agg [.p (.int .i64 (v.1)), .p (.int .i64 (v.2.1.1)), .p (.seq true 2 (v.2.1.2.1.1) (fun i => [.int .i64 ((v.2.1.2.1.2 i).1), .int .i64 ((v.2.1.2.1.2 i).2.1)])), .p (.int .i64 (v.2.2.1.1.1.1)), .p (.seq true 2 (v.2.2.1.1.1.2.1.1) (fun i => [.int .i64 ((v.2.2.1.1.1.2.1.2 i).1), .int .i64 ((v.2.2.1.1.1.2.1.2 i).2.1)])), .p (.seq true 2 (v.2.2.1.1.2.1.1) (fun i => [.int .i64 ((v.2.2.1.1.2.1.2 i).1), .int .i64 ((v.2.2.1.1.2.1.2 i).2.1)])), .p (.seq true 1 (v.2.2.1.2.1.1) (fun i => [.int .i64 ((v.2.2.1.2.1.2 i))])), .p (.seq true 5 (v.2.2.2.1.1) (fun i => [.int .i64 ((v.2.2.2.1.2 i).1), .int .i64 ((v.2.2.2.1.2 i).2.1), .int .i64 ((v.2.2.2.1.2 i).2.2.1), .int .i64 ((v.2.2.2.1.2 i).2.2.2.1), .int .i64 ((v.2.2.2.1.2 i).2.2.2.2.1)])), .p (.seq true 1 (v.2.2.2.2.1.1) (fun i => [.int .i64 ((v.2.2.2.2.1.2 i))]))], .p (.int .i64 m)]) [] 1 [] (.p (.int .i64 (f_szIntS v.2.2.2.2.1 (f_szStepS v.2.2.2.1 (f_szTensegrity v.2.2.1 (f_szGraph v.2.1 m)))))) =
    some [((0 : Nat) < 1),
  Con (Try.prog) 36 0 [] [.agg [.p (.int .i64 (v.snd.fst.fst)), .p (.seq true 2 (v.snd.fst.snd.fst.fst) (fun i => [.int .i64 ((v.snd.fst.snd.fst.snd i).fst), .int .i64 ((v.snd.fst.snd.fst.snd i).snd.fst)]))], .p (.int .i64 (m))] [] (.p (.int .i64 (f_szGraph v.snd.fst m))),
  ((decide (f_szGraph v.snd.fst m < 0)) = false),
  ((0 : Nat) < 1),
  Con (Try.prog) 58 0 [] [.agg [.p (.int .i64 (v.snd.snd.fst.fst.fst.fst)), .p (.seq true 2 (v.snd.snd.fst.fst.fst.snd.fst.fst) (fun i => [.int .i64 ((v.snd.snd.fst.fst.fst.snd.fst.snd i).fst), .int .i64 ((v.snd.snd.fst.fst.fst.snd.fst.snd i).snd.fst)])), .p (.seq true 2 (v.snd.snd.fst.fst.snd.fst.fst) (fun i => [.int .i64 ((v.snd.snd.fst.fst.snd.fst.snd i).fst), .int .i64 ((v.snd.snd.fst.fst.snd.fst.snd i).snd.fst)])), .p (.seq true 1 (v.snd.snd.fst.snd.fst.fst) (fun i => [.int .i64 (v.snd.snd.fst.snd.fst.snd i)]))], .p (.int .i64 (f_szGraph v.snd.fst m))] [] (.p (.int .i64 (f_szTensegrity v.snd.snd.fst (f_szGraph v.snd.fst m)))),
  ((decide (f_szTensegrity v.snd.snd.fst (f_szGraph v.snd.fst m) < 0)) = false),
  ((0 : Nat) < 1),
  Con (Try.prog) 59 0 [] [.p (.seq true 5 (v.snd.snd.snd.fst.fst) (fun i => [.int .i64 ((v.snd.snd.snd.fst.snd i).fst), .int .i64 ((v.snd.snd.snd.fst.snd i).snd.fst), .int .i64 ((v.snd.snd.snd.fst.snd i).snd.snd.fst), .int .i64 ((v.snd.snd.snd.fst.snd i).snd.snd.snd.fst), .int .i64 ((v.snd.snd.snd.fst.snd i).snd.snd.snd.snd.fst)])), .p (.int .i64 (f_szTensegrity v.snd.snd.fst (f_szGraph v.snd.fst m)))] [] (.p (.int .i64 (f_szStepS v.snd.snd.snd.fst (f_szTensegrity v.snd.snd.fst (f_szGraph v.snd.fst m))))),
  ((decide (f_szStepS v.snd.snd.snd.fst (f_szTensegrity v.snd.snd.fst (f_szGraph v.snd.fst m)) < 0)) = false),
  ((0 : Nat) < 1),
  Con (Try.prog) 60 0 [] [.p (.seq true 1 (v.snd.snd.snd.snd.fst.fst) (fun i => [.int .i64 (v.snd.snd.snd.snd.fst.snd i)])), .p (.int .i64 (f_szStepS v.snd.snd.snd.fst (f_szTensegrity v.snd.snd.fst (f_szGraph v.snd.fst m))))] [] (.p (.int .i64 (f_szIntS v.snd.snd.snd.snd.fst (f_szStepS v.snd.snd.snd.fst (f_szTensegrity v.snd.snd.fst (f_szGraph v.snd.fst m)))))),
  ((decide (f_szIntS v.snd.snd.snd.snd.fst (f_szStepS v.snd.snd.snd.fst (f_szTensegrity v.snd.snd.fst (f_szGraph v.snd.fst m))) < 0)) = false),
  (((f_szIntS v.snd.snd.snd.snd.fst (f_szStepS v.snd.snd.snd.fst (f_szTensegrity v.snd.snd.fst (f_szGraph v.snd.fst m)))) : Int) = (f_szIntS v.snd.snd.snd.snd.fst (f_szStepS v.snd.snd.snd.fst (f_szTensegrity v.snd.snd.fst (f_szGraph v.snd.fst m)))))] := by kernel_rfl

theorem p_toPlace (v : T_Place) :
    pathOb Try.prog Try.f121 0 [.reg [oT, oT], .reg [oT], .reg [oT, oT, oT, oT], .reg [oT, oT, oT, oT], .reg [oT, oT]] [.code (bodyOf Try.f121)] (start Try.f121 [] 0 [.agg [.p (.int .i64 (v.1)), .p (.int .i64 (v.2.1))]]) [] 1 [] (.agg [.p (.int .i64 (v.1)), .p (.int .i64 (v.2.1))]) =
    some [((0 : Nat) < 1),
  ((0 : Nat) < 1),
  (((true) = true) → ((1 : Nat) = 1)),
  ((0 : Nat) < 1),
  ((0 : Nat) < 1),
  (((true) = true) → ((1 : Nat) = 1)),
  ((0 : Nat) < 1),
  ((0 : Nat) < 1),
  (((true) = true) → ((1 : Nat) = 1)),
  ((0 : Nat) < 1),
  (((v.fst) : Int) = (v.fst)),
  (((v.snd.fst) : Int) = (v.snd.fst))] := by kernel_rfl

theorem p_toPlaceS_a (v : T_PlaceS) :
    pieceOb Try.prog 0 [.reg [oT], .reg [oT, oT, oT, oT], .reg [oT], .head] [.code (bodyOf Try.f114)] (start Try.f114 [] 0 [.p (.seq true 2 (v.1) (fun i => [.int .i64 ((v.2 i).1), .int .i64 ((v.2 i).2.1)]))]) [96] 1 (S_toPlaceS v 0) =
    some ([.code (cAt (bodyOf Try.f114) [1, 1, 0, 1, 0, 0]), .inLoop (cAt (bodyOf Try.f114) [1, 1, 0, 1, 0, 0]), .inBlock 0, .code (cAt (bodyOf Try.f114) [1, 1, 1])], [((0 : Int) ≤ ((↑v.fst : Int))),
  ((((↑v.fst : Int)) : Int) ≤ ((↑v.fst : Int))),
  ((((↑v.fst : Int) * (↑16 : Int)) : Int) ≤ 281474976710656),
  ((((↑v.fst : Int)) : Int) ≤ 9223372036854775807),
  (((v.fst) : Nat) = (v.fst)),
  (∀ i : Nat, ((((i) : Nat) < (v.fst)) → (([.int .i64 ((v.snd i).fst), .int .i64 ((v.snd i).snd.fst)] : List PV) = [.int .i64 ((v.snd i).fst), .int .i64 ((v.snd i).snd.fst)]))),
  ((0 : Nat) = 0),
  (((v.fst) : Nat) = (v.fst)),
  ((0 : Int) = ((↑0 : Int))),
  ((2 : Nat) = 2),
  (((v.fst) : Nat) ≤ (v.fst)),
  (∀ i : Nat, ((((i) : Nat) < (v.fst)) → (All [] ∧ (([.p (.int .i64 0), .p (.int .i64 0)] : List AV) = [.p (.int .i64 (if i < 0 then (v.snd i).fst else 0)), .p (.int .i64 (if i < 0 then (v.snd i).snd.fst else 0))]))))]) := by kernel_rfl

theorem p_toPlaceS_b (v : T_PlaceS) (k : Nat) :
    pieceOb Try.prog 0 [.reg [oT, oT, oT, oT], .dec true, .reg [oT, oT, oT, oT, oT, oT, ⟨true, (some ⟨[], [], 1, [], .agg [.p (.int .i64 ((v.2 k).1)), .p (.int .i64 ((v.2 k).2.1))]⟩)⟩, oT, oT], .reg [oT, oT, oT], .head] [.code (cAt (bodyOf Try.f114) [1, 1, 0, 1, 0, 0]), .inLoop (cAt (bodyOf Try.f114) [1, 1, 0, 1, 0, 0]), .inBlock 0, .code (cAt (bodyOf Try.f114) [1, 1, 1])] (S_toPlaceS v k) [0] 1 (S_toPlaceS v (k + 1)) =
    some ([.code (cAt (bodyOf Try.f114) [1, 1, 0, 1, 0, 0]), .inLoop (cAt (bodyOf Try.f114) [1, 1, 0, 1, 0, 0]), .inBlock 0, .code (cAt (bodyOf Try.f114) [1, 1, 1])], [((decide ((↑k : Int) < (↑v.fst : Int))) = true),
  ((0 : Int) ≤ ((↑k : Int))),
  ((((↑k : Int)) : Int) < ((↑v.fst : Int))),
  Con (Try.prog) 121 0 [] [.agg [.p (.int .i64 ((v.snd k).fst)), .p (.int .i64 ((v.snd k).snd.fst))]] [] (.agg [.p (.int .i64 ((v.snd k).fst)), .p (.int .i64 ((v.snd k).snd.fst))]),
  ((0 : Int) ≤ ((↑k : Int))),
  ((((↑k : Int)) : Int) < ((↑v.fst : Int))),
  (((k) : Nat) < (v.fst)),
  (((false) = true) → (((v.fst) : Nat) = 1)),
  (((-9223372036854775808) : Int) ≤ ((↑k : Int) + 1)),
  ((((↑k : Int) + 1) : Int) ≤ 9223372036854775807),
  (((v.fst) : Nat) = (v.fst)),
  (∀ i : Nat, ((((i) : Nat) < (v.fst)) → (([.int .i64 ((v.snd i).fst), .int .i64 ((v.snd i).snd.fst)] : List PV) = [.int .i64 ((v.snd i).fst), .int .i64 ((v.snd i).snd.fst)]))),
  ((0 : Nat) = 0),
  (((v.fst) : Nat) = (v.fst)),
  ((((↑k : Int) + 1) : Int) = ((↑(k + 1) : Int))),
  ((2 : Nat) = 2),
  (((v.fst) : Nat) ≤ (v.fst)),
  (∀ i : Nat, ((((i) : Nat) < (v.fst)) → (All (cvtL false [(0, ⟨false, 2, (v.fst), (fun i_1 => (if (i_1 = k) then [.p (.int .i64 ((v.snd k).fst)), .p (.int .i64 ((v.snd k).snd.fst))] else [.p (.int .i64 (if i_1 < k then (v.snd i_1).fst else 0)), .p (.int .i64 (if i_1 < k then (v.snd i_1).snd.fst else 0))]))⟩)] [0] 1 (if (i = k) then [.p (.int .i64 ((v.snd k).fst)), .p (.int .i64 ((v.snd k).snd.fst))] else [.p (.int .i64 (if i < k then (v.snd i).fst else 0)), .p (.int .i64 (if i < k then (v.snd i).snd.fst else 0))])).2 ∧ (((cvtL false [(0, ⟨false, 2, (v.fst), (fun i_1 => (if (i_1 = k) then [.p (.int .i64 ((v.snd k).fst)), .p (.int .i64 ((v.snd k).snd.fst))] else [.p (.int .i64 (if i_1 < k then (v.snd i_1).fst else 0)), .p (.int .i64 (if i_1 < k then (v.snd i_1).snd.fst else 0))]))⟩)] [0] 1 (if (i = k) then [.p (.int .i64 ((v.snd k).fst)), .p (.int .i64 ((v.snd k).snd.fst))] else [.p (.int .i64 (if i < k then (v.snd i).fst else 0)), .p (.int .i64 (if i < k then (v.snd i).snd.fst else 0))])).1 : List AV) = [.p (.int .i64 (if i < k + 1 then (v.snd i).fst else 0)), .p (.int .i64 (if i < k + 1 then (v.snd i).snd.fst else 0))]))))]) := by kernel_rfl

theorem p_toPlaceS_c (v : T_PlaceS) (k : Nat) :
    pathOb Try.prog Try.f114 0 [.reg [oT, oT, oT, oT], .dec false, .reg [oT, oT]] [.code (cAt (bodyOf Try.f114) [1, 1, 0, 1, 0, 0]), .inLoop (cAt (bodyOf Try.f114) [1, 1, 0, 1, 0, 0]), .inBlock 0, .code (cAt (bodyOf Try.f114) [1, 1, 1])] (S_toPlaceS v k) [0] 1 [(0, ⟨false, 2, v.1, fun i => [.p (.int .i64 ((v.2 i).1)), .p (.int .i64 ((v.2 i).2.1))]⟩)] (.ar 2 0 0 (v.1)) =
    some [((decide ((↑k : Int) < (↑v.fst : Int))) = false),
  ((0 : Nat) = 0),
  (((v.fst) : Nat) = (v.fst)),
  ((2 : Nat) = 2),
  (((v.fst) : Nat) ≤ (v.fst)),
  (∀ i : Nat, ((((i) : Nat) < (v.fst)) → (All [] ∧ (([.p (.int .i64 (if i < k then (v.snd i).fst else 0)), .p (.int .i64 (if i < k then (v.snd i).snd.fst else 0))] : List AV) = [.p (.int .i64 ((v.snd i).fst)), .p (.int .i64 ((v.snd i).snd.fst))])))),
  (∀ i : Nat, ((((i) : Nat) < (v.fst)) → All []))] := by kernel_rfl

theorem p_toFramework (v : T_Framework) :
    pathOb Try.prog Try.f92 0 [.reg [oT, oT], .reg [oT], .reg [oT, oT, ⟨true, (some ⟨[], [], 1, [(0, ⟨false, 2, v.1.2.1.1, fun i => [.p (.int .i64 ((v.1.2.1.2 i).1)), .p (.int .i64 ((v.1.2.1.2 i).2.1))]⟩)], .agg [.p (.int .i64 (v.1.1)), .ar 2 0 0 (v.1.2.1.1)]⟩)⟩, oT, oT], .reg [oT, oT, ⟨true, (some ⟨[], [], 1, [(0, ⟨false, 2, v.2.1.1, fun i => [.p (.int .i64 ((v.2.1.2 i).1)), .p (.int .i64 ((v.2.1.2 i).2.1))]⟩)], .ar 2 0 0 (v.2.1.1)⟩)⟩, oT, oT], .reg [oT, oT]] [.code (bodyOf Try.f92)] (start Try.f92 [] 0 [.agg [.p (.int .i64 (v.1.1)), .p (.seq true 2 (v.1.2.1.1) (fun i => [.int .i64 ((v.1.2.1.2 i).1), .int .i64 ((v.1.2.1.2 i).2.1)])), .p (.seq true 2 (v.2.1.1) (fun i => [.int .i64 ((v.2.1.2 i).1), .int .i64 ((v.2.1.2 i).2.1)]))]]) [160, 320] 1 [(0, ⟨false, 2, v.1.2.1.1, fun i => [.p (.int .i64 ((v.1.2.1.2 i).1)), .p (.int .i64 ((v.1.2.1.2 i).2.1))]⟩), (1, ⟨false, 2, v.2.1.1, fun i => [.p (.int .i64 ((v.2.1.2 i).1)), .p (.int .i64 ((v.2.1.2 i).2.1))]⟩)] (.agg [.p (.int .i64 (v.1.1)), .ar 2 0 0 (v.1.2.1.1), .ar 2 1 0 (v.2.1.1)]) =
    some [((0 : Nat) < 1),
  Con (Try.prog) 38 0 [] [.agg [.p (.int .i64 (v.fst.fst)), .p (.seq true 2 (v.fst.snd.fst.fst) (fun i => [.int .i64 ((v.fst.snd.fst.snd i).fst), .int .i64 ((v.fst.snd.fst.snd i).snd.fst)]))]] [(0, ⟨false, 2, (v.fst.snd.fst.fst), (fun i => [.p (.int .i64 ((v.fst.snd.fst.snd i).fst)), .p (.int .i64 ((v.fst.snd.fst.snd i).snd.fst))])⟩)] (.agg [.p (.int .i64 (v.fst.fst)), .ar 2 0 0 (v.fst.snd.fst.fst)]),
  ((0 : Nat) < 1),
  (((true) = true) → ((1 : Nat) = 1)),
  ((0 : Nat) < 1),
  Con (Try.prog) 114 0 [] [.p (.seq true 2 (v.snd.fst.fst) (fun i => [.int .i64 ((v.snd.fst.snd i).fst), .int .i64 ((v.snd.fst.snd i).snd.fst)]))] [(0, ⟨false, 2, (v.snd.fst.fst), (fun i => [.p (.int .i64 ((v.snd.fst.snd i).fst)), .p (.int .i64 ((v.snd.fst.snd i).snd.fst))])⟩)] (.ar 2 0 0 (v.snd.fst.fst)),
  ((0 : Nat) < 1),
  (((true) = true) → ((1 : Nat) = 1)),
  ((0 : Nat) < 1),
  ((0 : Nat) < 1),
  (((true) = true) → ((1 : Nat) = 1)),
  ((0 : Nat) < 1),
  (((v.fst.fst) : Int) = (v.fst.fst)),
  ((0 : Nat) = 0),
  (((v.fst.snd.fst.fst) : Nat) = (v.fst.snd.fst.fst)),
  ((0 : Nat) = 0),
  (((v.snd.fst.fst) : Nat) = (v.snd.fst.fst)),
  ((2 : Nat) = 2),
  (((v.fst.snd.fst.fst) : Nat) ≤ (v.fst.snd.fst.fst)),
  (∀ i : Nat, ((((i) : Nat) < (v.fst.snd.fst.fst)) → (All [] ∧ (([.p (.int .i64 ((v.fst.snd.fst.snd i).fst)), .p (.int .i64 ((v.fst.snd.fst.snd i).snd.fst))] : List AV) = [.p (.int .i64 ((v.fst.snd.fst.snd i).fst)), .p (.int .i64 ((v.fst.snd.fst.snd i).snd.fst))])))),
  ((2 : Nat) = 2),
  (((v.snd.fst.fst) : Nat) ≤ (v.snd.fst.fst)),
  (∀ i : Nat, ((((i) : Nat) < (v.snd.fst.fst)) → (All [] ∧ (([.p (.int .i64 ((v.snd.fst.snd i).fst)), .p (.int .i64 ((v.snd.fst.snd i).snd.fst))] : List AV) = [.p (.int .i64 ((v.snd.fst.snd i).fst)), .p (.int .i64 ((v.snd.fst.snd i).snd.fst))])))),
  (∀ i : Nat, ((((i) : Nat) < (v.fst.snd.fst.fst)) → All [])),
  (∀ i : Nat, ((((i) : Nat) < (v.snd.fst.fst)) → All []))] := by kernel_rfl

theorem p_toTensegrity (v : T_Tensegrity) :
    pathOb Try.prog Try.f63 0 [.reg [oT, oT], .reg [oT], .reg [oT, oT, ⟨true, (some ⟨[], [], 1, [(0, ⟨false, 2, v.1.1.2.1.1, fun i => [.p (.int .i64 ((v.1.1.2.1.2 i).1)), .p (.int .i64 ((v.1.1.2.1.2 i).2.1))]⟩), (1, ⟨false, 2, v.1.2.1.1, fun i => [.p (.int .i64 ((v.1.2.1.2 i).1)), .p (.int .i64 ((v.1.2.1.2 i).2.1))]⟩)], .agg [.p (.int .i64 (v.1.1.1)), .ar 2 0 0 (v.1.1.2.1.1), .ar 2 1 0 (v.1.2.1.1)]⟩)⟩, oT, oT], .reg [oT, oT, ⟨true, (some ⟨[], [], 1, [(0, ⟨false, 1, v.2.1.1, fun i => [.p (.int .i64 ((v.2.1.2 i)))]⟩)], .ar 1 0 0 (v.2.1.1)⟩)⟩, oT, oT], .reg [oT, oT]] [.code (bodyOf Try.f63)] (start Try.f63 [] 0 [.agg [.p (.int .i64 (v.1.1.1)), .p (.seq true 2 (v.1.1.2.1.1) (fun i => [.int .i64 ((v.1.1.2.1.2 i).1), .int .i64 ((v.1.1.2.1.2 i).2.1)])), .p (.seq true 2 (v.1.2.1.1) (fun i => [.int .i64 ((v.1.2.1.2 i).1), .int .i64 ((v.1.2.1.2 i).2.1)])), .p (.seq true 1 (v.2.1.1) (fun i => [.int .i64 ((v.2.1.2 i))]))]]) [160, 161, 320] 1 [(0, ⟨false, 2, v.1.1.2.1.1, fun i => [.p (.int .i64 ((v.1.1.2.1.2 i).1)), .p (.int .i64 ((v.1.1.2.1.2 i).2.1))]⟩), (1, ⟨false, 2, v.1.2.1.1, fun i => [.p (.int .i64 ((v.1.2.1.2 i).1)), .p (.int .i64 ((v.1.2.1.2 i).2.1))]⟩), (2, ⟨false, 1, v.2.1.1, fun i => [.p (.int .i64 ((v.2.1.2 i)))]⟩)] (.agg [.p (.int .i64 (v.1.1.1)), .ar 2 0 0 (v.1.1.2.1.1), .ar 2 1 0 (v.1.2.1.1), .ar 1 2 0 (v.2.1.1)]) =
    some [((0 : Nat) < 1),
  Con (Try.prog) 92 0 [] [.agg [.p (.int .i64 (v.fst.fst.fst)), .p (.seq true 2 (v.fst.fst.snd.fst.fst) (fun i => [.int .i64 ((v.fst.fst.snd.fst.snd i).fst), .int .i64 ((v.fst.fst.snd.fst.snd i).snd.fst)])), .p (.seq true 2 (v.fst.snd.fst.fst) (fun i => [.int .i64 ((v.fst.snd.fst.snd i).fst), .int .i64 ((v.fst.snd.fst.snd i).snd.fst)]))]] [(0, ⟨false, 2, (v.fst.fst.snd.fst.fst), (fun i => [.p (.int .i64 ((v.fst.fst.snd.fst.snd i).fst)), .p (.int .i64 ((v.fst.fst.snd.fst.snd i).snd.fst))])⟩), (1, ⟨false, 2, (v.fst.snd.fst.fst), (fun i => [.p (.int .i64 ((v.fst.snd.fst.snd i).fst)), .p (.int .i64 ((v.fst.snd.fst.snd i).snd.fst))])⟩)] (.agg [.p (.int .i64 (v.fst.fst.fst)), .ar 2 0 0 (v.fst.fst.snd.fst.fst), .ar 2 1 0 (v.fst.snd.fst.fst)]),
  ((0 : Nat) < 1),
  (((true) = true) → ((1 : Nat) = 1)),
  ((0 : Nat) < 1),
  Con (Try.prog) 12 0 [] [.p (.seq true 1 (v.snd.fst.fst) (fun i => [.int .i64 (v.snd.fst.snd i)]))] [(0, ⟨false, 1, (v.snd.fst.fst), (fun i => [.p (.int .i64 (v.snd.fst.snd i))])⟩)] (.ar 1 0 0 (v.snd.fst.fst)),
  ((0 : Nat) < 1),
  (((true) = true) → ((1 : Nat) = 1)),
  ((0 : Nat) < 1),
  ((0 : Nat) < 1),
  (((true) = true) → ((1 : Nat) = 1)),
  ((0 : Nat) < 1),
  (((v.fst.fst.fst) : Int) = (v.fst.fst.fst)),
  ((0 : Nat) = 0),
  (((v.fst.fst.snd.fst.fst) : Nat) = (v.fst.fst.snd.fst.fst)),
  ((0 : Nat) = 0),
  (((v.fst.snd.fst.fst) : Nat) = (v.fst.snd.fst.fst)),
  ((0 : Nat) = 0),
  (((v.snd.fst.fst) : Nat) = (v.snd.fst.fst)),
  ((2 : Nat) = 2),
  (((v.fst.fst.snd.fst.fst) : Nat) ≤ (v.fst.fst.snd.fst.fst)),
  (∀ i : Nat, ((((i) : Nat) < (v.fst.fst.snd.fst.fst)) → (All [] ∧ (([.p (.int .i64 ((v.fst.fst.snd.fst.snd i).fst)), .p (.int .i64 ((v.fst.fst.snd.fst.snd i).snd.fst))] : List AV) = [.p (.int .i64 ((v.fst.fst.snd.fst.snd i).fst)), .p (.int .i64 ((v.fst.fst.snd.fst.snd i).snd.fst))])))),
  ((2 : Nat) = 2),
  (((v.fst.snd.fst.fst) : Nat) ≤ (v.fst.snd.fst.fst)),
  (∀ i : Nat, ((((i) : Nat) < (v.fst.snd.fst.fst)) → (All [] ∧ (([.p (.int .i64 ((v.fst.snd.fst.snd i).fst)), .p (.int .i64 ((v.fst.snd.fst.snd i).snd.fst))] : List AV) = [.p (.int .i64 ((v.fst.snd.fst.snd i).fst)), .p (.int .i64 ((v.fst.snd.fst.snd i).snd.fst))])))),
  ((1 : Nat) = 1),
  (((v.snd.fst.fst) : Nat) ≤ (v.snd.fst.fst)),
  (∀ i : Nat, ((((i) : Nat) < (v.snd.fst.fst)) → (All [] ∧ (([.p (.int .i64 (v.snd.fst.snd i))] : List AV) = [.p (.int .i64 (v.snd.fst.snd i))])))),
  (∀ i : Nat, ((((i) : Nat) < (v.fst.fst.snd.fst.fst)) → All [])),
  (∀ i : Nat, ((((i) : Nat) < (v.fst.snd.fst.fst)) → All [])),
  (∀ i : Nat, ((((i) : Nat) < (v.snd.fst.fst)) → All []))] := by kernel_rfl

theorem p_toStep (v : T_Step) :
    pathOb Try.prog Try.f93 0 [.reg [oT, oT], .reg [oT], .reg [oT, oT, oT, oT], .reg [oT, oT, oT, oT], .reg [oT, oT, oT, oT], .reg [oT, oT, oT, oT], .reg [oT, oT, oT, oT], .reg [oT, oT]] [.code (bodyOf Try.f93)] (start Try.f93 [] 0 [.agg [.p (.int .i64 (v.1)), .p (.int .i64 (v.2.1)), .p (.int .i64 (v.2.2.1)), .p (.int .i64 (v.2.2.2.1)), .p (.int .i64 (v.2.2.2.2.1))]]) [] 1 [] (.agg [.p (.int .i64 (v.1)), .p (.int .i64 (v.2.1)), .p (.int .i64 (v.2.2.1)), .p (.int .i64 (v.2.2.2.1)), .p (.int .i64 (v.2.2.2.2.1))]) =
    some [((0 : Nat) < 1),
  ((0 : Nat) < 1),
  (((true) = true) → ((1 : Nat) = 1)),
  ((0 : Nat) < 1),
  ((0 : Nat) < 1),
  (((true) = true) → ((1 : Nat) = 1)),
  ((0 : Nat) < 1),
  ((0 : Nat) < 1),
  (((true) = true) → ((1 : Nat) = 1)),
  ((0 : Nat) < 1),
  ((0 : Nat) < 1),
  (((true) = true) → ((1 : Nat) = 1)),
  ((0 : Nat) < 1),
  ((0 : Nat) < 1),
  (((true) = true) → ((1 : Nat) = 1)),
  ((0 : Nat) < 1),
  ((0 : Nat) < 1),
  (((true) = true) → ((1 : Nat) = 1)),
  ((0 : Nat) < 1),
  (((v.fst) : Int) = (v.fst)),
  (((v.snd.fst) : Int) = (v.snd.fst)),
  (((v.snd.snd.fst) : Int) = (v.snd.snd.fst)),
  (((v.snd.snd.snd.fst) : Int) = (v.snd.snd.snd.fst)),
  (((v.snd.snd.snd.snd.fst) : Int) = (v.snd.snd.snd.snd.fst))] := by kernel_rfl

theorem p_toStepS_a (v : T_StepS) :
    pieceOb Try.prog 0 [.reg [oT], .reg [oT, oT, oT, oT], .reg [oT], .head] [.code (bodyOf Try.f64)] (start Try.f64 [] 0 [.p (.seq true 5 (v.1) (fun i => [.int .i64 ((v.2 i).1), .int .i64 ((v.2 i).2.1), .int .i64 ((v.2 i).2.2.1), .int .i64 ((v.2 i).2.2.2.1), .int .i64 ((v.2 i).2.2.2.2.1)]))]) [96] 1 (S_toStepS v 0) =
    some ([.code (cAt (bodyOf Try.f64) [1, 1, 0, 1, 0, 0]), .inLoop (cAt (bodyOf Try.f64) [1, 1, 0, 1, 0, 0]), .inBlock 0, .code (cAt (bodyOf Try.f64) [1, 1, 1])], [((0 : Int) ≤ ((↑v.fst : Int))),
  ((((↑v.fst : Int)) : Int) ≤ ((↑v.fst : Int))),
  ((((↑v.fst : Int) * (↑40 : Int)) : Int) ≤ 281474976710656),
  ((((↑v.fst : Int)) : Int) ≤ 9223372036854775807),
  (((v.fst) : Nat) = (v.fst)),
  (∀ i : Nat, ((((i) : Nat) < (v.fst)) → (([.int .i64 ((v.snd i).fst), .int .i64 ((v.snd i).snd.fst), .int .i64 ((v.snd i).snd.snd.fst), .int .i64 ((v.snd i).snd.snd.snd.fst), .int .i64 ((v.snd i).snd.snd.snd.snd.fst)] : List PV) = [.int .i64 ((v.snd i).fst), .int .i64 ((v.snd i).snd.fst), .int .i64 ((v.snd i).snd.snd.fst), .int .i64 ((v.snd i).snd.snd.snd.fst), .int .i64 ((v.snd i).snd.snd.snd.snd.fst)]))),
  ((0 : Nat) = 0),
  (((v.fst) : Nat) = (v.fst)),
  ((0 : Int) = ((↑0 : Int))),
  ((5 : Nat) = 5),
  (((v.fst) : Nat) ≤ (v.fst)),
  (∀ i : Nat, ((((i) : Nat) < (v.fst)) → (All [] ∧ (([.p (.int .i64 0), .p (.int .i64 0), .p (.int .i64 0), .p (.int .i64 0), .p (.int .i64 0)] : List AV) = [.p (.int .i64 (if i < 0 then (v.snd i).fst else 0)), .p (.int .i64 (if i < 0 then (v.snd i).snd.fst else 0)), .p (.int .i64 (if i < 0 then (v.snd i).snd.snd.fst else 0)), .p (.int .i64 (if i < 0 then (v.snd i).snd.snd.snd.fst else 0)), .p (.int .i64 (if i < 0 then (v.snd i).snd.snd.snd.snd.fst else 0))]))))]) := by kernel_rfl

theorem p_toStepS_b (v : T_StepS) (k : Nat) :
    pieceOb Try.prog 0 [.reg [oT, oT, oT, oT], .dec true, .reg [oT, oT, oT, oT, oT, oT, ⟨true, (some ⟨[], [], 1, [], .agg [.p (.int .i64 ((v.2 k).1)), .p (.int .i64 ((v.2 k).2.1)), .p (.int .i64 ((v.2 k).2.2.1)), .p (.int .i64 ((v.2 k).2.2.2.1)), .p (.int .i64 ((v.2 k).2.2.2.2.1))]⟩)⟩, oT, oT], .reg [oT, oT, oT], .head] [.code (cAt (bodyOf Try.f64) [1, 1, 0, 1, 0, 0]), .inLoop (cAt (bodyOf Try.f64) [1, 1, 0, 1, 0, 0]), .inBlock 0, .code (cAt (bodyOf Try.f64) [1, 1, 1])] (S_toStepS v k) [0] 1 (S_toStepS v (k + 1)) =
    some ([.code (cAt (bodyOf Try.f64) [1, 1, 0, 1, 0, 0]), .inLoop (cAt (bodyOf Try.f64) [1, 1, 0, 1, 0, 0]), .inBlock 0, .code (cAt (bodyOf Try.f64) [1, 1, 1])], [((decide ((↑k : Int) < (↑v.fst : Int))) = true),
  ((0 : Int) ≤ ((↑k : Int))),
  ((((↑k : Int)) : Int) < ((↑v.fst : Int))),
  Con (Try.prog) 93 0 [] [.agg [.p (.int .i64 ((v.snd k).fst)), .p (.int .i64 ((v.snd k).snd.fst)), .p (.int .i64 ((v.snd k).snd.snd.fst)), .p (.int .i64 ((v.snd k).snd.snd.snd.fst)), .p (.int .i64 ((v.snd k).snd.snd.snd.snd.fst))]] [] (.agg [.p (.int .i64 ((v.snd k).fst)), .p (.int .i64 ((v.snd k).snd.fst)), .p (.int .i64 ((v.snd k).snd.snd.fst)), .p (.int .i64 ((v.snd k).snd.snd.snd.fst)), .p (.int .i64 ((v.snd k).snd.snd.snd.snd.fst))]),
  ((0 : Int) ≤ ((↑k : Int))),
  ((((↑k : Int)) : Int) < ((↑v.fst : Int))),
  (((k) : Nat) < (v.fst)),
  (((false) = true) → (((v.fst) : Nat) = 1)),
  (((-9223372036854775808) : Int) ≤ ((↑k : Int) + 1)),
  ((((↑k : Int) + 1) : Int) ≤ 9223372036854775807),
  (((v.fst) : Nat) = (v.fst)),
  (∀ i : Nat, ((((i) : Nat) < (v.fst)) → (([.int .i64 ((v.snd i).fst), .int .i64 ((v.snd i).snd.fst), .int .i64 ((v.snd i).snd.snd.fst), .int .i64 ((v.snd i).snd.snd.snd.fst), .int .i64 ((v.snd i).snd.snd.snd.snd.fst)] : List PV) = [.int .i64 ((v.snd i).fst), .int .i64 ((v.snd i).snd.fst), .int .i64 ((v.snd i).snd.snd.fst), .int .i64 ((v.snd i).snd.snd.snd.fst), .int .i64 ((v.snd i).snd.snd.snd.snd.fst)]))),
  ((0 : Nat) = 0),
  (((v.fst) : Nat) = (v.fst)),
  ((((↑k : Int) + 1) : Int) = ((↑(k + 1) : Int))),
  ((5 : Nat) = 5),
  (((v.fst) : Nat) ≤ (v.fst)),
  (∀ i : Nat, ((((i) : Nat) < (v.fst)) → (All (cvtL false [(0, ⟨false, 5, (v.fst), (fun i_1 => (if (i_1 = k) then [.p (.int .i64 ((v.snd k).fst)), .p (.int .i64 ((v.snd k).snd.fst)), .p (.int .i64 ((v.snd k).snd.snd.fst)), .p (.int .i64 ((v.snd k).snd.snd.snd.fst)), .p (.int .i64 ((v.snd k).snd.snd.snd.snd.fst))] else [.p (.int .i64 (if i_1 < k then (v.snd i_1).fst else 0)), .p (.int .i64 (if i_1 < k then (v.snd i_1).snd.fst else 0)), .p (.int .i64 (if i_1 < k then (v.snd i_1).snd.snd.fst else 0)), .p (.int .i64 (if i_1 < k then (v.snd i_1).snd.snd.snd.fst else 0)), .p (.int .i64 (if i_1 < k then (v.snd i_1).snd.snd.snd.snd.fst else 0))]))⟩)] [0] 1 (if (i = k) then [.p (.int .i64 ((v.snd k).fst)), .p (.int .i64 ((v.snd k).snd.fst)), .p (.int .i64 ((v.snd k).snd.snd.fst)), .p (.int .i64 ((v.snd k).snd.snd.snd.fst)), .p (.int .i64 ((v.snd k).snd.snd.snd.snd.fst))] else [.p (.int .i64 (if i < k then (v.snd i).fst else 0)), .p (.int .i64 (if i < k then (v.snd i).snd.fst else 0)), .p (.int .i64 (if i < k then (v.snd i).snd.snd.fst else 0)), .p (.int .i64 (if i < k then (v.snd i).snd.snd.snd.fst else 0)), .p (.int .i64 (if i < k then (v.snd i).snd.snd.snd.snd.fst else 0))])).2 ∧ (((cvtL false [(0, ⟨false, 5, (v.fst), (fun i_1 => (if (i_1 = k) then [.p (.int .i64 ((v.snd k).fst)), .p (.int .i64 ((v.snd k).snd.fst)), .p (.int .i64 ((v.snd k).snd.snd.fst)), .p (.int .i64 ((v.snd k).snd.snd.snd.fst)), .p (.int .i64 ((v.snd k).snd.snd.snd.snd.fst))] else [.p (.int .i64 (if i_1 < k then (v.snd i_1).fst else 0)), .p (.int .i64 (if i_1 < k then (v.snd i_1).snd.fst else 0)), .p (.int .i64 (if i_1 < k then (v.snd i_1).snd.snd.fst else 0)), .p (.int .i64 (if i_1 < k then (v.snd i_1).snd.snd.snd.fst else 0)), .p (.int .i64 (if i_1 < k then (v.snd i_1).snd.snd.snd.snd.fst else 0))]))⟩)] [0] 1 (if (i = k) then [.p (.int .i64 ((v.snd k).fst)), .p (.int .i64 ((v.snd k).snd.fst)), .p (.int .i64 ((v.snd k).snd.snd.fst)), .p (.int .i64 ((v.snd k).snd.snd.snd.fst)), .p (.int .i64 ((v.snd k).snd.snd.snd.snd.fst))] else [.p (.int .i64 (if i < k then (v.snd i).fst else 0)), .p (.int .i64 (if i < k then (v.snd i).snd.fst else 0)), .p (.int .i64 (if i < k then (v.snd i).snd.snd.fst else 0)), .p (.int .i64 (if i < k then (v.snd i).snd.snd.snd.fst else 0)), .p (.int .i64 (if i < k then (v.snd i).snd.snd.snd.snd.fst else 0))])).1 : List AV) = [.p (.int .i64 (if i < k + 1 then (v.snd i).fst else 0)), .p (.int .i64 (if i < k + 1 then (v.snd i).snd.fst else 0)), .p (.int .i64 (if i < k + 1 then (v.snd i).snd.snd.fst else 0)), .p (.int .i64 (if i < k + 1 then (v.snd i).snd.snd.snd.fst else 0)), .p (.int .i64 (if i < k + 1 then (v.snd i).snd.snd.snd.snd.fst else 0))]))))]) := by kernel_rfl

theorem p_toStepS_c (v : T_StepS) (k : Nat) :
    pathOb Try.prog Try.f64 0 [.reg [oT, oT, oT, oT], .dec false, .reg [oT, oT]] [.code (cAt (bodyOf Try.f64) [1, 1, 0, 1, 0, 0]), .inLoop (cAt (bodyOf Try.f64) [1, 1, 0, 1, 0, 0]), .inBlock 0, .code (cAt (bodyOf Try.f64) [1, 1, 1])] (S_toStepS v k) [0] 1 [(0, ⟨false, 5, v.1, fun i => [.p (.int .i64 ((v.2 i).1)), .p (.int .i64 ((v.2 i).2.1)), .p (.int .i64 ((v.2 i).2.2.1)), .p (.int .i64 ((v.2 i).2.2.2.1)), .p (.int .i64 ((v.2 i).2.2.2.2.1))]⟩)] (.ar 5 0 0 (v.1)) =
    some [((decide ((↑k : Int) < (↑v.fst : Int))) = false),
  ((0 : Nat) = 0),
  (((v.fst) : Nat) = (v.fst)),
  ((5 : Nat) = 5),
  (((v.fst) : Nat) ≤ (v.fst)),
  (∀ i : Nat, ((((i) : Nat) < (v.fst)) → (All [] ∧ (([.p (.int .i64 (if i < k then (v.snd i).fst else 0)), .p (.int .i64 (if i < k then (v.snd i).snd.fst else 0)), .p (.int .i64 (if i < k then (v.snd i).snd.snd.fst else 0)), .p (.int .i64 (if i < k then (v.snd i).snd.snd.snd.fst else 0)), .p (.int .i64 (if i < k then (v.snd i).snd.snd.snd.snd.fst else 0))] : List AV) = [.p (.int .i64 ((v.snd i).fst)), .p (.int .i64 ((v.snd i).snd.fst)), .p (.int .i64 ((v.snd i).snd.snd.fst)), .p (.int .i64 ((v.snd i).snd.snd.snd.fst)), .p (.int .i64 ((v.snd i).snd.snd.snd.snd.fst))])))),
  (∀ i : Nat, ((((i) : Nat) < (v.fst)) → All []))] := by kernel_rfl

theorem p_toClaim (v : T_Claim) :
    pathOb Try.prog Try.f25 0 [.reg [oT, oT], .reg [oT], .reg [oT, oT, oT, oT], .reg [oT, oT, ⟨true, (some ⟨[], [], 1, [(0, ⟨false, 2, v.2.1.2.1.1, fun i => [.p (.int .i64 ((v.2.1.2.1.2 i).1)), .p (.int .i64 ((v.2.1.2.1.2 i).2.1))]⟩)], .agg [.p (.int .i64 (v.2.1.1)), .ar 2 0 0 (v.2.1.2.1.1)]⟩)⟩, oT, oT], .reg [oT, oT, ⟨true, (some ⟨[], [], 1, [(0, ⟨false, 2, v.2.2.1.1.1.2.1.1, fun i => [.p (.int .i64 ((v.2.2.1.1.1.2.1.2 i).1)), .p (.int .i64 ((v.2.2.1.1.1.2.1.2 i).2.1))]⟩), (1, ⟨false, 2, v.2.2.1.1.2.1.1, fun i => [.p (.int .i64 ((v.2.2.1.1.2.1.2 i).1)), .p (.int .i64 ((v.2.2.1.1.2.1.2 i).2.1))]⟩), (2, ⟨false, 1, v.2.2.1.2.1.1, fun i => [.p (.int .i64 ((v.2.2.1.2.1.2 i)))]⟩)], .agg [.p (.int .i64 (v.2.2.1.1.1.1)), .ar 2 0 0 (v.2.2.1.1.1.2.1.1), .ar 2 1 0 (v.2.2.1.1.2.1.1), .ar 1 2 0 (v.2.2.1.2.1.1)]⟩)⟩, oT, oT], .reg [oT, oT, ⟨true, (some ⟨[], [], 1, [(0, ⟨false, 5, v.2.2.2.1.1, fun i => [.p (.int .i64 ((v.2.2.2.1.2 i).1)), .p (.int .i64 ((v.2.2.2.1.2 i).2.1)), .p (.int .i64 ((v.2.2.2.1.2 i).2.2.1)), .p (.int .i64 ((v.2.2.2.1.2 i).2.2.2.1)), .p (.int .i64 ((v.2.2.2.1.2 i).2.2.2.2.1))]⟩)], .ar 5 0 0 (v.2.2.2.1.1)⟩)⟩, oT, oT], .reg [oT, oT, ⟨true, (some ⟨[], [], 1, [(0, ⟨false, 1, v.2.2.2.2.1.1, fun i => [.p (.int .i64 ((v.2.2.2.2.1.2 i)))]⟩)], .ar 1 0 0 (v.2.2.2.2.1.1)⟩)⟩, oT, oT], .reg [oT, oT]] [.code (bodyOf Try.f25)] (start Try.f25 [] 0 [.agg [.p (.int .i64 (v.1)), .p (.int .i64 (v.2.1.1)), .p (.seq true 2 (v.2.1.2.1.1) (fun i => [.int .i64 ((v.2.1.2.1.2 i).1), .int .i64 ((v.2.1.2.1.2 i).2.1)])), .p (.int .i64 (v.2.2.1.1.1.1)), .p (.seq true 2 (v.2.2.1.1.1.2.1.1) (fun i => [.int .i64 ((v.2.2.1.1.1.2.1.2 i).1), .int .i64 ((v.2.2.1.1.1.2.1.2 i).2.1)])), .p (.seq true 2 (v.2.2.1.1.2.1.1) (fun i => [.int .i64 ((v.2.2.1.1.2.1.2 i).1), .int .i64 ((v.2.2.1.1.2.1.2 i).2.1)])), .p (.seq true 1 (v.2.2.1.2.1.1) (fun i => [.int .i64 ((v.2.2.1.2.1.2 i))])), .p (.seq true 5 (v.2.2.2.1.1) (fun i => [.int .i64 ((v.2.2.2.1.2 i).1), .int .i64 ((v.2.2.2.1.2 i).2.1), .int .i64 ((v.2.2.2.1.2 i).2.2.1), .int .i64 ((v.2.2.2.1.2 i).2.2.2.1), .int .i64 ((v.2.2.2.1.2 i).2.2.2.2.1)])), .p (.seq true 1 (v.2.2.2.2.1.1) (fun i => [.int .i64 ((v.2.2.2.2.1.2 i))]))]]) [288, 448, 449, 450, 608, 768] 1 [(0, ⟨false, 2, v.2.1.2.1.1, fun i => [.p (.int .i64 ((v.2.1.2.1.2 i).1)), .p (.int .i64 ((v.2.1.2.1.2 i).2.1))]⟩), (1, ⟨false, 2, v.2.2.1.1.1.2.1.1, fun i => [.p (.int .i64 ((v.2.2.1.1.1.2.1.2 i).1)), .p (.int .i64 ((v.2.2.1.1.1.2.1.2 i).2.1))]⟩), (2, ⟨false, 2, v.2.2.1.1.2.1.1, fun i => [.p (.int .i64 ((v.2.2.1.1.2.1.2 i).1)), .p (.int .i64 ((v.2.2.1.1.2.1.2 i).2.1))]⟩), (3, ⟨false, 1, v.2.2.1.2.1.1, fun i => [.p (.int .i64 ((v.2.2.1.2.1.2 i)))]⟩), (4, ⟨false, 5, v.2.2.2.1.1, fun i => [.p (.int .i64 ((v.2.2.2.1.2 i).1)), .p (.int .i64 ((v.2.2.2.1.2 i).2.1)), .p (.int .i64 ((v.2.2.2.1.2 i).2.2.1)), .p (.int .i64 ((v.2.2.2.1.2 i).2.2.2.1)), .p (.int .i64 ((v.2.2.2.1.2 i).2.2.2.2.1))]⟩), (5, ⟨false, 1, v.2.2.2.2.1.1, fun i => [.p (.int .i64 ((v.2.2.2.2.1.2 i)))]⟩)] (.agg [.p (.int .i64 (v.1)), .p (.int .i64 (v.2.1.1)), .ar 2 0 0 (v.2.1.2.1.1), .p (.int .i64 (v.2.2.1.1.1.1)), .ar 2 1 0 (v.2.2.1.1.1.2.1.1), .ar 2 2 0 (v.2.2.1.1.2.1.1), .ar 1 3 0 (v.2.2.1.2.1.1), .ar 5 4 0 (v.2.2.2.1.1), .ar 1 5 0 (v.2.2.2.2.1.1)]) =
    some [((0 : Nat) < 1),
  ((0 : Nat) < 1),
  (((true) = true) → ((1 : Nat) = 1)),
  ((0 : Nat) < 1),
  Con (Try.prog) 38 0 [] [.agg [.p (.int .i64 (v.snd.fst.fst)), .p (.seq true 2 (v.snd.fst.snd.fst.fst) (fun i => [.int .i64 ((v.snd.fst.snd.fst.snd i).fst), .int .i64 ((v.snd.fst.snd.fst.snd i).snd.fst)]))]] [(0, ⟨false, 2, (v.snd.fst.snd.fst.fst), (fun i => [.p (.int .i64 ((v.snd.fst.snd.fst.snd i).fst)), .p (.int .i64 ((v.snd.fst.snd.fst.snd i).snd.fst))])⟩)] (.agg [.p (.int .i64 (v.snd.fst.fst)), .ar 2 0 0 (v.snd.fst.snd.fst.fst)]),
  ((0 : Nat) < 1),
  (((true) = true) → ((1 : Nat) = 1)),
  ((0 : Nat) < 1),
  Con (Try.prog) 63 0 [] [.agg [.p (.int .i64 (v.snd.snd.fst.fst.fst.fst)), .p (.seq true 2 (v.snd.snd.fst.fst.fst.snd.fst.fst) (fun i => [.int .i64 ((v.snd.snd.fst.fst.fst.snd.fst.snd i).fst), .int .i64 ((v.snd.snd.fst.fst.fst.snd.fst.snd i).snd.fst)])), .p (.seq true 2 (v.snd.snd.fst.fst.snd.fst.fst) (fun i => [.int .i64 ((v.snd.snd.fst.fst.snd.fst.snd i).fst), .int .i64 ((v.snd.snd.fst.fst.snd.fst.snd i).snd.fst)])), .p (.seq true 1 (v.snd.snd.fst.snd.fst.fst) (fun i => [.int .i64 (v.snd.snd.fst.snd.fst.snd i)]))]] [(0, ⟨false, 2, (v.snd.snd.fst.fst.fst.snd.fst.fst), (fun i => [.p (.int .i64 ((v.snd.snd.fst.fst.fst.snd.fst.snd i).fst)), .p (.int .i64 ((v.snd.snd.fst.fst.fst.snd.fst.snd i).snd.fst))])⟩), (1, ⟨false, 2, (v.snd.snd.fst.fst.snd.fst.fst), (fun i => [.p (.int .i64 ((v.snd.snd.fst.fst.snd.fst.snd i).fst)), .p (.int .i64 ((v.snd.snd.fst.fst.snd.fst.snd i).snd.fst))])⟩), (2, ⟨false, 1, (v.snd.snd.fst.snd.fst.fst), (fun i => [.p (.int .i64 (v.snd.snd.fst.snd.fst.snd i))])⟩)] (.agg [.p (.int .i64 (v.snd.snd.fst.fst.fst.fst)), .ar 2 0 0 (v.snd.snd.fst.fst.fst.snd.fst.fst), .ar 2 1 0 (v.snd.snd.fst.fst.snd.fst.fst), .ar 1 2 0 (v.snd.snd.fst.snd.fst.fst)]),
  ((0 : Nat) < 1),
  (((true) = true) → ((1 : Nat) = 1)),
  ((0 : Nat) < 1),
  Con (Try.prog) 64 0 [] [.p (.seq true 5 (v.snd.snd.snd.fst.fst) (fun i => [.int .i64 ((v.snd.snd.snd.fst.snd i).fst), .int .i64 ((v.snd.snd.snd.fst.snd i).snd.fst), .int .i64 ((v.snd.snd.snd.fst.snd i).snd.snd.fst), .int .i64 ((v.snd.snd.snd.fst.snd i).snd.snd.snd.fst), .int .i64 ((v.snd.snd.snd.fst.snd i).snd.snd.snd.snd.fst)]))] [(0, ⟨false, 5, (v.snd.snd.snd.fst.fst), (fun i => [.p (.int .i64 ((v.snd.snd.snd.fst.snd i).fst)), .p (.int .i64 ((v.snd.snd.snd.fst.snd i).snd.fst)), .p (.int .i64 ((v.snd.snd.snd.fst.snd i).snd.snd.fst)), .p (.int .i64 ((v.snd.snd.snd.fst.snd i).snd.snd.snd.fst)), .p (.int .i64 ((v.snd.snd.snd.fst.snd i).snd.snd.snd.snd.fst))])⟩)] (.ar 5 0 0 (v.snd.snd.snd.fst.fst)),
  ((0 : Nat) < 1),
  (((true) = true) → ((1 : Nat) = 1)),
  ((0 : Nat) < 1),
  Con (Try.prog) 12 0 [] [.p (.seq true 1 (v.snd.snd.snd.snd.fst.fst) (fun i => [.int .i64 (v.snd.snd.snd.snd.fst.snd i)]))] [(0, ⟨false, 1, (v.snd.snd.snd.snd.fst.fst), (fun i => [.p (.int .i64 (v.snd.snd.snd.snd.fst.snd i))])⟩)] (.ar 1 0 0 (v.snd.snd.snd.snd.fst.fst)),
  ((0 : Nat) < 1),
  (((true) = true) → ((1 : Nat) = 1)),
  ((0 : Nat) < 1),
  ((0 : Nat) < 1),
  (((true) = true) → ((1 : Nat) = 1)),
  ((0 : Nat) < 1),
  (((v.fst) : Int) = (v.fst)),
  (((v.snd.fst.fst) : Int) = (v.snd.fst.fst)),
  ((0 : Nat) = 0),
  (((v.snd.fst.snd.fst.fst) : Nat) = (v.snd.fst.snd.fst.fst)),
  (((v.snd.snd.fst.fst.fst.fst) : Int) = (v.snd.snd.fst.fst.fst.fst)),
  ((0 : Nat) = 0),
  (((v.snd.snd.fst.fst.fst.snd.fst.fst) : Nat) = (v.snd.snd.fst.fst.fst.snd.fst.fst)),
  ((0 : Nat) = 0),
  (((v.snd.snd.fst.fst.snd.fst.fst) : Nat) = (v.snd.snd.fst.fst.snd.fst.fst)),
  ((0 : Nat) = 0),
  (((v.snd.snd.fst.snd.fst.fst) : Nat) = (v.snd.snd.fst.snd.fst.fst)),
  ((0 : Nat) = 0),
  (((v.snd.snd.snd.fst.fst) : Nat) = (v.snd.snd.snd.fst.fst)),
  ((0 : Nat) = 0),
  (((v.snd.snd.snd.snd.fst.fst) : Nat) = (v.snd.snd.snd.snd.fst.fst)),
  ((2 : Nat) = 2),
  (((v.snd.fst.snd.fst.fst) : Nat) ≤ (v.snd.fst.snd.fst.fst)),
  (∀ i : Nat, ((((i) : Nat) < (v.snd.fst.snd.fst.fst)) → (All [] ∧ (([.p (.int .i64 ((v.snd.fst.snd.fst.snd i).fst)), .p (.int .i64 ((v.snd.fst.snd.fst.snd i).snd.fst))] : List AV) = [.p (.int .i64 ((v.snd.fst.snd.fst.snd i).fst)), .p (.int .i64 ((v.snd.fst.snd.fst.snd i).snd.fst))])))),
  ((2 : Nat) = 2),
  (((v.snd.snd.fst.fst.fst.snd.fst.fst) : Nat) ≤ (v.snd.snd.fst.fst.fst.snd.fst.fst)),
  (∀ i : Nat, ((((i) : Nat) < (v.snd.snd.fst.fst.fst.snd.fst.fst)) → (All [] ∧ (([.p (.int .i64 ((v.snd.snd.fst.fst.fst.snd.fst.snd i).fst)), .p (.int .i64 ((v.snd.snd.fst.fst.fst.snd.fst.snd i).snd.fst))] : List AV) = [.p (.int .i64 ((v.snd.snd.fst.fst.fst.snd.fst.snd i).fst)), .p (.int .i64 ((v.snd.snd.fst.fst.fst.snd.fst.snd i).snd.fst))])))),
  ((2 : Nat) = 2),
  (((v.snd.snd.fst.fst.snd.fst.fst) : Nat) ≤ (v.snd.snd.fst.fst.snd.fst.fst)),
  (∀ i : Nat, ((((i) : Nat) < (v.snd.snd.fst.fst.snd.fst.fst)) → (All [] ∧ (([.p (.int .i64 ((v.snd.snd.fst.fst.snd.fst.snd i).fst)), .p (.int .i64 ((v.snd.snd.fst.fst.snd.fst.snd i).snd.fst))] : List AV) = [.p (.int .i64 ((v.snd.snd.fst.fst.snd.fst.snd i).fst)), .p (.int .i64 ((v.snd.snd.fst.fst.snd.fst.snd i).snd.fst))])))),
  ((1 : Nat) = 1),
  (((v.snd.snd.fst.snd.fst.fst) : Nat) ≤ (v.snd.snd.fst.snd.fst.fst)),
  (∀ i : Nat, ((((i) : Nat) < (v.snd.snd.fst.snd.fst.fst)) → (All [] ∧ (([.p (.int .i64 (v.snd.snd.fst.snd.fst.snd i))] : List AV) = [.p (.int .i64 (v.snd.snd.fst.snd.fst.snd i))])))),
  ((5 : Nat) = 5),
  (((v.snd.snd.snd.fst.fst) : Nat) ≤ (v.snd.snd.snd.fst.fst)),
  (∀ i : Nat, ((((i) : Nat) < (v.snd.snd.snd.fst.fst)) → (All [] ∧ (([.p (.int .i64 ((v.snd.snd.snd.fst.snd i).fst)), .p (.int .i64 ((v.snd.snd.snd.fst.snd i).snd.fst)), .p (.int .i64 ((v.snd.snd.snd.fst.snd i).snd.snd.fst)), .p (.int .i64 ((v.snd.snd.snd.fst.snd i).snd.snd.snd.fst)), .p (.int .i64 ((v.snd.snd.snd.fst.snd i).snd.snd.snd.snd.fst))] : List AV) = [.p (.int .i64 ((v.snd.snd.snd.fst.snd i).fst)), .p (.int .i64 ((v.snd.snd.snd.fst.snd i).snd.fst)), .p (.int .i64 ((v.snd.snd.snd.fst.snd i).snd.snd.fst)), .p (.int .i64 ((v.snd.snd.snd.fst.snd i).snd.snd.snd.fst)), .p (.int .i64 ((v.snd.snd.snd.fst.snd i).snd.snd.snd.snd.fst))])))),
  ((1 : Nat) = 1),
  (((v.snd.snd.snd.snd.fst.fst) : Nat) ≤ (v.snd.snd.snd.snd.fst.fst)),
  (∀ i : Nat, ((((i) : Nat) < (v.snd.snd.snd.snd.fst.fst)) → (All [] ∧ (([.p (.int .i64 (v.snd.snd.snd.snd.fst.snd i))] : List AV) = [.p (.int .i64 (v.snd.snd.snd.snd.fst.snd i))])))),
  (∀ i : Nat, ((((i) : Nat) < (v.snd.fst.snd.fst.fst)) → All [])),
  (∀ i : Nat, ((((i) : Nat) < (v.snd.snd.fst.fst.fst.snd.fst.fst)) → All [])),
  (∀ i : Nat, ((((i) : Nat) < (v.snd.snd.fst.fst.snd.fst.fst)) → All [])),
  (∀ i : Nat, ((((i) : Nat) < (v.snd.snd.fst.snd.fst.fst)) → All [])),
  (∀ i : Nat, ((((i) : Nat) < (v.snd.snd.snd.fst.fst)) → All [])),
  (∀ i : Nat, ((((i) : Nat) < (v.snd.snd.snd.snd.fst.fst)) → All []))] := by kernel_rfl

theorem p_eqPlace (v : T_Place) :
    pathOb Try.prog Try.f122 0 [.reg [oT, oT, oT], .reg [oT, oT, oT, oT, oT], .dec false, .reg [oT, oT, oT, oT, oT], .dec false, .reg [oT]] [.code (bodyOf Try.f122)] (start Try.f122 [] 0 [.agg [.p (.int .i64 (v.1)), .p (.int .i64 (v.2.1))], .agg [.p (.int .i64 (v.1)), .p (.int .i64 (v.2.1))]]) [] 1 [] (.p (.bool true)) =
    some [((0 : Nat) < 1),
  ((0 : Nat) < 1),
  ((v.fst != v.fst) = false),
  ((0 : Nat) < 1),
  ((0 : Nat) < 1),
  ((v.snd.fst != v.snd.fst) = false),
  (true = true)] := by kernel_rfl

theorem p_eqPlaceS_a (v : T_PlaceS) :
    pieceOb Try.prog 0 [.reg [oT], .reg [oT, oT, oT, oT, oT], .dec false, .reg [oT], .head] [.code (bodyOf Try.f115)] (start Try.f115 [] 0 [.p (.seq true 2 (v.1) (fun i => [.int .i64 ((v.2 i).1), .int .i64 ((v.2 i).2.1)])), .p (.seq true 2 (v.1) (fun i => [.int .i64 ((v.2 i).1), .int .i64 ((v.2 i).2.1)]))]) [] 1 (S_eqPlaceS v 0) =
    some ([.code (cAt (bodyOf Try.f115) [1, 1, 0, 1, 0, 0]), .inLoop (cAt (bodyOf Try.f115) [1, 1, 0, 1, 0, 0]), .inBlock 0, .code (cAt (bodyOf Try.f115) [1, 1, 1])], [(((↑v.fst : Int) != (↑v.fst : Int)) = false),
  (((v.fst) : Nat) = (v.fst)),
  (∀ i : Nat, ((((i) : Nat) < (v.fst)) → (([.int .i64 ((v.snd i).fst), .int .i64 ((v.snd i).snd.fst)] : List PV) = [.int .i64 ((v.snd i).fst), .int .i64 ((v.snd i).snd.fst)]))),
  (((v.fst) : Nat) = (v.fst)),
  (∀ i : Nat, ((((i) : Nat) < (v.fst)) → (([.int .i64 ((v.snd i).fst), .int .i64 ((v.snd i).snd.fst)] : List PV) = [.int .i64 ((v.snd i).fst), .int .i64 ((v.snd i).snd.fst)]))),
  ((0 : Int) = ((↑0 : Int)))]) := by kernel_rfl

theorem p_eqPlaceS_b (v : T_PlaceS) (k : Nat) :
    pieceOb Try.prog 0 [.reg [oT, oT, oT, oT], .dec true, .reg [oT, oT, oT, oT, oT, oT, oT, oT, ⟨true, (some ⟨[], [], 1, [], .p (.bool true)⟩)⟩, oT], .dec false, .reg [oT, oT, oT], .head] [.code (cAt (bodyOf Try.f115) [1, 1, 0, 1, 0, 0]), .inLoop (cAt (bodyOf Try.f115) [1, 1, 0, 1, 0, 0]), .inBlock 0, .code (cAt (bodyOf Try.f115) [1, 1, 1])] (S_eqPlaceS v k) [] 1 (S_eqPlaceS v (k + 1)) =
    some ([.code (cAt (bodyOf Try.f115) [1, 1, 0, 1, 0, 0]), .inLoop (cAt (bodyOf Try.f115) [1, 1, 0, 1, 0, 0]), .inBlock 0, .code (cAt (bodyOf Try.f115) [1, 1, 1])], [((decide ((↑k : Int) < (↑v.fst : Int))) = true),
  ((0 : Int) ≤ ((↑k : Int))),
  ((((↑k : Int)) : Int) < ((↑v.fst : Int))),
  ((0 : Int) ≤ ((↑k : Int))),
  ((((↑k : Int)) : Int) < ((↑v.fst : Int))),
  Con (Try.prog) 122 0 [] [.agg [.p (.int .i64 ((v.snd k).fst)), .p (.int .i64 ((v.snd k).snd.fst))], .agg [.p (.int .i64 ((v.snd k).fst)), .p (.int .i64 ((v.snd k).snd.fst))]] [] (.p (.bool true)),
  ((!true) = false),
  (((-9223372036854775808) : Int) ≤ ((↑k : Int) + 1)),
  ((((↑k : Int) + 1) : Int) ≤ 9223372036854775807),
  (((v.fst) : Nat) = (v.fst)),
  (∀ i : Nat, ((((i) : Nat) < (v.fst)) → (([.int .i64 ((v.snd i).fst), .int .i64 ((v.snd i).snd.fst)] : List PV) = [.int .i64 ((v.snd i).fst), .int .i64 ((v.snd i).snd.fst)]))),
  (((v.fst) : Nat) = (v.fst)),
  (∀ i : Nat, ((((i) : Nat) < (v.fst)) → (([.int .i64 ((v.snd i).fst), .int .i64 ((v.snd i).snd.fst)] : List PV) = [.int .i64 ((v.snd i).fst), .int .i64 ((v.snd i).snd.fst)]))),
  ((((↑k : Int) + 1) : Int) = ((↑(k + 1) : Int)))]) := by kernel_rfl

theorem p_eqPlaceS_c (v : T_PlaceS) (k : Nat) :
    pathOb Try.prog Try.f115 0 [.reg [oT, oT, oT, oT], .dec false, .reg [oT]] [.code (cAt (bodyOf Try.f115) [1, 1, 0, 1, 0, 0]), .inLoop (cAt (bodyOf Try.f115) [1, 1, 0, 1, 0, 0]), .inBlock 0, .code (cAt (bodyOf Try.f115) [1, 1, 1])] (S_eqPlaceS v k) [] 1 [] (.p (.bool true)) =
    some [((decide ((↑k : Int) < (↑v.fst : Int))) = false),
  (true = true)] := by kernel_rfl

theorem p_eqFramework (v : T_Framework) :
    pathOb Try.prog Try.f96 0 [.reg [oT, oT, oT], .reg [oT, oT, oT, oT, ⟨true, (some ⟨[], [], 1, [], .p (.bool true)⟩)⟩, oT], .dec false, .reg [oT, oT, oT, oT, ⟨true, (some ⟨[], [], 1, [], .p (.bool true)⟩)⟩, oT], .dec false, .reg [oT]] [.code (bodyOf Try.f96)] (start Try.f96 [] 0 [.agg [.p (.int .i64 (v.1.1)), .p (.seq true 2 (v.1.2.1.1) (fun i => [.int .i64 ((v.1.2.1.2 i).1), .int .i64 ((v.1.2.1.2 i).2.1)])), .p (.seq true 2 (v.2.1.1) (fun i => [.int .i64 ((v.2.1.2 i).1), .int .i64 ((v.2.1.2 i).2.1)]))], .agg [.p (.int .i64 (v.1.1)), .p (.seq true 2 (v.1.2.1.1) (fun i => [.int .i64 ((v.1.2.1.2 i).1), .int .i64 ((v.1.2.1.2 i).2.1)])), .p (.seq true 2 (v.2.1.1) (fun i => [.int .i64 ((v.2.1.2 i).1), .int .i64 ((v.2.1.2 i).2.1)]))]]) [] 1 [] (.p (.bool true)) =
    some [((0 : Nat) < 1),
  ((0 : Nat) < 1),
  Con (Try.prog) 40 0 [] [.agg [.p (.int .i64 (v.fst.fst)), .p (.seq true 2 (v.fst.snd.fst.fst) (fun i => [.int .i64 ((v.fst.snd.fst.snd i).fst), .int .i64 ((v.fst.snd.fst.snd i).snd.fst)]))], .agg [.p (.int .i64 (v.fst.fst)), .p (.seq true 2 (v.fst.snd.fst.fst) (fun i => [.int .i64 ((v.fst.snd.fst.snd i).fst), .int .i64 ((v.fst.snd.fst.snd i).snd.fst)]))]] [] (.p (.bool true)),
  ((!true) = false),
  ((0 : Nat) < 1),
  ((0 : Nat) < 1),
  Con (Try.prog) 115 0 [] [.p (.seq true 2 (v.snd.fst.fst) (fun i => [.int .i64 ((v.snd.fst.snd i).fst), .int .i64 ((v.snd.fst.snd i).snd.fst)])), .p (.seq true 2 (v.snd.fst.fst) (fun i => [.int .i64 ((v.snd.fst.snd i).fst), .int .i64 ((v.snd.fst.snd i).snd.fst)]))] [] (.p (.bool true)),
  ((!true) = false),
  (true = true)] := by kernel_rfl

theorem p_eqTensegrity (v : T_Tensegrity) :
    pathOb Try.prog Try.f67 0 [.reg [oT, oT, oT], .reg [oT, oT, oT, oT, ⟨true, (some ⟨[], [], 1, [], .p (.bool true)⟩)⟩, oT], .dec false, .reg [oT, oT, oT, oT, ⟨true, (some ⟨[], [], 1, [], .p (.bool true)⟩)⟩, oT], .dec false, .reg [oT]] [.code (bodyOf Try.f67)] (start Try.f67 [] 0 [.agg [.p (.int .i64 (v.1.1.1)), .p (.seq true 2 (v.1.1.2.1.1) (fun i => [.int .i64 ((v.1.1.2.1.2 i).1), .int .i64 ((v.1.1.2.1.2 i).2.1)])), .p (.seq true 2 (v.1.2.1.1) (fun i => [.int .i64 ((v.1.2.1.2 i).1), .int .i64 ((v.1.2.1.2 i).2.1)])), .p (.seq true 1 (v.2.1.1) (fun i => [.int .i64 ((v.2.1.2 i))]))], .agg [.p (.int .i64 (v.1.1.1)), .p (.seq true 2 (v.1.1.2.1.1) (fun i => [.int .i64 ((v.1.1.2.1.2 i).1), .int .i64 ((v.1.1.2.1.2 i).2.1)])), .p (.seq true 2 (v.1.2.1.1) (fun i => [.int .i64 ((v.1.2.1.2 i).1), .int .i64 ((v.1.2.1.2 i).2.1)])), .p (.seq true 1 (v.2.1.1) (fun i => [.int .i64 ((v.2.1.2 i))]))]]) [] 1 [] (.p (.bool true)) =
    some [((0 : Nat) < 1),
  ((0 : Nat) < 1),
  Con (Try.prog) 96 0 [] [.agg [.p (.int .i64 (v.fst.fst.fst)), .p (.seq true 2 (v.fst.fst.snd.fst.fst) (fun i => [.int .i64 ((v.fst.fst.snd.fst.snd i).fst), .int .i64 ((v.fst.fst.snd.fst.snd i).snd.fst)])), .p (.seq true 2 (v.fst.snd.fst.fst) (fun i => [.int .i64 ((v.fst.snd.fst.snd i).fst), .int .i64 ((v.fst.snd.fst.snd i).snd.fst)]))], .agg [.p (.int .i64 (v.fst.fst.fst)), .p (.seq true 2 (v.fst.fst.snd.fst.fst) (fun i => [.int .i64 ((v.fst.fst.snd.fst.snd i).fst), .int .i64 ((v.fst.fst.snd.fst.snd i).snd.fst)])), .p (.seq true 2 (v.fst.snd.fst.fst) (fun i => [.int .i64 ((v.fst.snd.fst.snd i).fst), .int .i64 ((v.fst.snd.fst.snd i).snd.fst)]))]] [] (.p (.bool true)),
  ((!true) = false),
  ((0 : Nat) < 1),
  ((0 : Nat) < 1),
  Con (Try.prog) 15 0 [] [.p (.seq true 1 (v.snd.fst.fst) (fun i => [.int .i64 (v.snd.fst.snd i)])), .p (.seq true 1 (v.snd.fst.fst) (fun i => [.int .i64 (v.snd.fst.snd i)]))] [] (.p (.bool true)),
  ((!true) = false),
  (true = true)] := by kernel_rfl

theorem p_eqStep (v : T_Step) :
    pathOb Try.prog Try.f97 0 [.reg [oT, oT, oT], .reg [oT, oT, oT, oT, oT], .dec false, .reg [oT, oT, oT, oT, oT], .dec false, .reg [oT, oT, oT, oT, oT], .dec false, .reg [oT, oT, oT, oT, oT], .dec false, .reg [oT, oT, oT, oT, oT], .dec false, .reg [oT]] [.code (bodyOf Try.f97)] (start Try.f97 [] 0 [.agg [.p (.int .i64 (v.1)), .p (.int .i64 (v.2.1)), .p (.int .i64 (v.2.2.1)), .p (.int .i64 (v.2.2.2.1)), .p (.int .i64 (v.2.2.2.2.1))], .agg [.p (.int .i64 (v.1)), .p (.int .i64 (v.2.1)), .p (.int .i64 (v.2.2.1)), .p (.int .i64 (v.2.2.2.1)), .p (.int .i64 (v.2.2.2.2.1))]]) [] 1 [] (.p (.bool true)) =
    some [((0 : Nat) < 1),
  ((0 : Nat) < 1),
  ((v.fst != v.fst) = false),
  ((0 : Nat) < 1),
  ((0 : Nat) < 1),
  ((v.snd.fst != v.snd.fst) = false),
  ((0 : Nat) < 1),
  ((0 : Nat) < 1),
  ((v.snd.snd.fst != v.snd.snd.fst) = false),
  ((0 : Nat) < 1),
  ((0 : Nat) < 1),
  ((v.snd.snd.snd.fst != v.snd.snd.snd.fst) = false),
  ((0 : Nat) < 1),
  ((0 : Nat) < 1),
  ((v.snd.snd.snd.snd.fst != v.snd.snd.snd.snd.fst) = false),
  (true = true)] := by kernel_rfl

theorem p_eqStepS_a (v : T_StepS) :
    pieceOb Try.prog 0 [.reg [oT], .reg [oT, oT, oT, oT, oT], .dec false, .reg [oT], .head] [.code (bodyOf Try.f68)] (start Try.f68 [] 0 [.p (.seq true 5 (v.1) (fun i => [.int .i64 ((v.2 i).1), .int .i64 ((v.2 i).2.1), .int .i64 ((v.2 i).2.2.1), .int .i64 ((v.2 i).2.2.2.1), .int .i64 ((v.2 i).2.2.2.2.1)])), .p (.seq true 5 (v.1) (fun i => [.int .i64 ((v.2 i).1), .int .i64 ((v.2 i).2.1), .int .i64 ((v.2 i).2.2.1), .int .i64 ((v.2 i).2.2.2.1), .int .i64 ((v.2 i).2.2.2.2.1)]))]) [] 1 (S_eqStepS v 0) =
    some ([.code (cAt (bodyOf Try.f68) [1, 1, 0, 1, 0, 0]), .inLoop (cAt (bodyOf Try.f68) [1, 1, 0, 1, 0, 0]), .inBlock 0, .code (cAt (bodyOf Try.f68) [1, 1, 1])], [(((↑v.fst : Int) != (↑v.fst : Int)) = false),
  (((v.fst) : Nat) = (v.fst)),
  (∀ i : Nat, ((((i) : Nat) < (v.fst)) → (([.int .i64 ((v.snd i).fst), .int .i64 ((v.snd i).snd.fst), .int .i64 ((v.snd i).snd.snd.fst), .int .i64 ((v.snd i).snd.snd.snd.fst), .int .i64 ((v.snd i).snd.snd.snd.snd.fst)] : List PV) = [.int .i64 ((v.snd i).fst), .int .i64 ((v.snd i).snd.fst), .int .i64 ((v.snd i).snd.snd.fst), .int .i64 ((v.snd i).snd.snd.snd.fst), .int .i64 ((v.snd i).snd.snd.snd.snd.fst)]))),
  (((v.fst) : Nat) = (v.fst)),
  (∀ i : Nat, ((((i) : Nat) < (v.fst)) → (([.int .i64 ((v.snd i).fst), .int .i64 ((v.snd i).snd.fst), .int .i64 ((v.snd i).snd.snd.fst), .int .i64 ((v.snd i).snd.snd.snd.fst), .int .i64 ((v.snd i).snd.snd.snd.snd.fst)] : List PV) = [.int .i64 ((v.snd i).fst), .int .i64 ((v.snd i).snd.fst), .int .i64 ((v.snd i).snd.snd.fst), .int .i64 ((v.snd i).snd.snd.snd.fst), .int .i64 ((v.snd i).snd.snd.snd.snd.fst)]))),
  ((0 : Int) = ((↑0 : Int)))]) := by kernel_rfl

theorem p_eqStepS_b (v : T_StepS) (k : Nat) :
    pieceOb Try.prog 0 [.reg [oT, oT, oT, oT], .dec true, .reg [oT, oT, oT, oT, oT, oT, oT, oT, ⟨true, (some ⟨[], [], 1, [], .p (.bool true)⟩)⟩, oT], .dec false, .reg [oT, oT, oT], .head] [.code (cAt (bodyOf Try.f68) [1, 1, 0, 1, 0, 0]), .inLoop (cAt (bodyOf Try.f68) [1, 1, 0, 1, 0, 0]), .inBlock 0, .code (cAt (bodyOf Try.f68) [1, 1, 1])] (S_eqStepS v k) [] 1 (S_eqStepS v (k + 1)) =
    some ([.code (cAt (bodyOf Try.f68) [1, 1, 0, 1, 0, 0]), .inLoop (cAt (bodyOf Try.f68) [1, 1, 0, 1, 0, 0]), .inBlock 0, .code (cAt (bodyOf Try.f68) [1, 1, 1])], [((decide ((↑k : Int) < (↑v.fst : Int))) = true),
  ((0 : Int) ≤ ((↑k : Int))),
  ((((↑k : Int)) : Int) < ((↑v.fst : Int))),
  ((0 : Int) ≤ ((↑k : Int))),
  ((((↑k : Int)) : Int) < ((↑v.fst : Int))),
  Con (Try.prog) 97 0 [] [.agg [.p (.int .i64 ((v.snd k).fst)), .p (.int .i64 ((v.snd k).snd.fst)), .p (.int .i64 ((v.snd k).snd.snd.fst)), .p (.int .i64 ((v.snd k).snd.snd.snd.fst)), .p (.int .i64 ((v.snd k).snd.snd.snd.snd.fst))], .agg [.p (.int .i64 ((v.snd k).fst)), .p (.int .i64 ((v.snd k).snd.fst)), .p (.int .i64 ((v.snd k).snd.snd.fst)), .p (.int .i64 ((v.snd k).snd.snd.snd.fst)), .p (.int .i64 ((v.snd k).snd.snd.snd.snd.fst))]] [] (.p (.bool true)),
  ((!true) = false),
  (((-9223372036854775808) : Int) ≤ ((↑k : Int) + 1)),
  ((((↑k : Int) + 1) : Int) ≤ 9223372036854775807),
  (((v.fst) : Nat) = (v.fst)),
  (∀ i : Nat, ((((i) : Nat) < (v.fst)) → (([.int .i64 ((v.snd i).fst), .int .i64 ((v.snd i).snd.fst), .int .i64 ((v.snd i).snd.snd.fst), .int .i64 ((v.snd i).snd.snd.snd.fst), .int .i64 ((v.snd i).snd.snd.snd.snd.fst)] : List PV) = [.int .i64 ((v.snd i).fst), .int .i64 ((v.snd i).snd.fst), .int .i64 ((v.snd i).snd.snd.fst), .int .i64 ((v.snd i).snd.snd.snd.fst), .int .i64 ((v.snd i).snd.snd.snd.snd.fst)]))),
  (((v.fst) : Nat) = (v.fst)),
  (∀ i : Nat, ((((i) : Nat) < (v.fst)) → (([.int .i64 ((v.snd i).fst), .int .i64 ((v.snd i).snd.fst), .int .i64 ((v.snd i).snd.snd.fst), .int .i64 ((v.snd i).snd.snd.snd.fst), .int .i64 ((v.snd i).snd.snd.snd.snd.fst)] : List PV) = [.int .i64 ((v.snd i).fst), .int .i64 ((v.snd i).snd.fst), .int .i64 ((v.snd i).snd.snd.fst), .int .i64 ((v.snd i).snd.snd.snd.fst), .int .i64 ((v.snd i).snd.snd.snd.snd.fst)]))),
  ((((↑k : Int) + 1) : Int) = ((↑(k + 1) : Int)))]) := by kernel_rfl

theorem p_eqStepS_c (v : T_StepS) (k : Nat) :
    pathOb Try.prog Try.f68 0 [.reg [oT, oT, oT, oT], .dec false, .reg [oT]] [.code (cAt (bodyOf Try.f68) [1, 1, 0, 1, 0, 0]), .inLoop (cAt (bodyOf Try.f68) [1, 1, 0, 1, 0, 0]), .inBlock 0, .code (cAt (bodyOf Try.f68) [1, 1, 1])] (S_eqStepS v k) [] 1 [] (.p (.bool true)) =
    some [((decide ((↑k : Int) < (↑v.fst : Int))) = false),
  (true = true)] := by kernel_rfl

theorem p_eqClaim (v : T_Claim) :
    pathOb Try.prog Try.f27 0 [.reg [oT, oT, oT], .reg [oT, oT, oT, oT, oT], .dec false, .reg [oT, oT, oT, oT, ⟨true, (some ⟨[], [], 1, [], .p (.bool true)⟩)⟩, oT], .dec false, .reg [oT, oT, oT, oT, ⟨true, (some ⟨[], [], 1, [], .p (.bool true)⟩)⟩, oT], .dec false, .reg [oT, oT, oT, oT, ⟨true, (some ⟨[], [], 1, [], .p (.bool true)⟩)⟩, oT], .dec false, .reg [oT, oT, oT, oT, ⟨true, (some ⟨[], [], 1, [], .p (.bool true)⟩)⟩, oT], .dec false, .reg [oT]] [.code (bodyOf Try.f27)] (start Try.f27 [] 0 [.agg [.p (.int .i64 (v.1)), .p (.int .i64 (v.2.1.1)), .p (.seq true 2 (v.2.1.2.1.1) (fun i => [.int .i64 ((v.2.1.2.1.2 i).1), .int .i64 ((v.2.1.2.1.2 i).2.1)])), .p (.int .i64 (v.2.2.1.1.1.1)), .p (.seq true 2 (v.2.2.1.1.1.2.1.1) (fun i => [.int .i64 ((v.2.2.1.1.1.2.1.2 i).1), .int .i64 ((v.2.2.1.1.1.2.1.2 i).2.1)])), .p (.seq true 2 (v.2.2.1.1.2.1.1) (fun i => [.int .i64 ((v.2.2.1.1.2.1.2 i).1), .int .i64 ((v.2.2.1.1.2.1.2 i).2.1)])), .p (.seq true 1 (v.2.2.1.2.1.1) (fun i => [.int .i64 ((v.2.2.1.2.1.2 i))])), .p (.seq true 5 (v.2.2.2.1.1) (fun i => [.int .i64 ((v.2.2.2.1.2 i).1), .int .i64 ((v.2.2.2.1.2 i).2.1), .int .i64 ((v.2.2.2.1.2 i).2.2.1), .int .i64 ((v.2.2.2.1.2 i).2.2.2.1), .int .i64 ((v.2.2.2.1.2 i).2.2.2.2.1)])), .p (.seq true 1 (v.2.2.2.2.1.1) (fun i => [.int .i64 ((v.2.2.2.2.1.2 i))]))], .agg [.p (.int .i64 (v.1)), .p (.int .i64 (v.2.1.1)), .p (.seq true 2 (v.2.1.2.1.1) (fun i => [.int .i64 ((v.2.1.2.1.2 i).1), .int .i64 ((v.2.1.2.1.2 i).2.1)])), .p (.int .i64 (v.2.2.1.1.1.1)), .p (.seq true 2 (v.2.2.1.1.1.2.1.1) (fun i => [.int .i64 ((v.2.2.1.1.1.2.1.2 i).1), .int .i64 ((v.2.2.1.1.1.2.1.2 i).2.1)])), .p (.seq true 2 (v.2.2.1.1.2.1.1) (fun i => [.int .i64 ((v.2.2.1.1.2.1.2 i).1), .int .i64 ((v.2.2.1.1.2.1.2 i).2.1)])), .p (.seq true 1 (v.2.2.1.2.1.1) (fun i => [.int .i64 ((v.2.2.1.2.1.2 i))])), .p (.seq true 5 (v.2.2.2.1.1) (fun i => [.int .i64 ((v.2.2.2.1.2 i).1), .int .i64 ((v.2.2.2.1.2 i).2.1), .int .i64 ((v.2.2.2.1.2 i).2.2.1), .int .i64 ((v.2.2.2.1.2 i).2.2.2.1), .int .i64 ((v.2.2.2.1.2 i).2.2.2.2.1)])), .p (.seq true 1 (v.2.2.2.2.1.1) (fun i => [.int .i64 ((v.2.2.2.2.1.2 i))]))]]) [] 1 [] (.p (.bool true)) =
    some [((0 : Nat) < 1),
  ((0 : Nat) < 1),
  ((v.fst != v.fst) = false),
  ((0 : Nat) < 1),
  ((0 : Nat) < 1),
  Con (Try.prog) 40 0 [] [.agg [.p (.int .i64 (v.snd.fst.fst)), .p (.seq true 2 (v.snd.fst.snd.fst.fst) (fun i => [.int .i64 ((v.snd.fst.snd.fst.snd i).fst), .int .i64 ((v.snd.fst.snd.fst.snd i).snd.fst)]))], .agg [.p (.int .i64 (v.snd.fst.fst)), .p (.seq true 2 (v.snd.fst.snd.fst.fst) (fun i => [.int .i64 ((v.snd.fst.snd.fst.snd i).fst), .int .i64 ((v.snd.fst.snd.fst.snd i).snd.fst)]))]] [] (.p (.bool true)),
  ((!true) = false),
  ((0 : Nat) < 1),
  ((0 : Nat) < 1),
  Con (Try.prog) 67 0 [] [.agg [.p (.int .i64 (v.snd.snd.fst.fst.fst.fst)), .p (.seq true 2 (v.snd.snd.fst.fst.fst.snd.fst.fst) (fun i => [.int .i64 ((v.snd.snd.fst.fst.fst.snd.fst.snd i).fst), .int .i64 ((v.snd.snd.fst.fst.fst.snd.fst.snd i).snd.fst)])), .p (.seq true 2 (v.snd.snd.fst.fst.snd.fst.fst) (fun i => [.int .i64 ((v.snd.snd.fst.fst.snd.fst.snd i).fst), .int .i64 ((v.snd.snd.fst.fst.snd.fst.snd i).snd.fst)])), .p (.seq true 1 (v.snd.snd.fst.snd.fst.fst) (fun i => [.int .i64 (v.snd.snd.fst.snd.fst.snd i)]))], .agg [.p (.int .i64 (v.snd.snd.fst.fst.fst.fst)), .p (.seq true 2 (v.snd.snd.fst.fst.fst.snd.fst.fst) (fun i => [.int .i64 ((v.snd.snd.fst.fst.fst.snd.fst.snd i).fst), .int .i64 ((v.snd.snd.fst.fst.fst.snd.fst.snd i).snd.fst)])), .p (.seq true 2 (v.snd.snd.fst.fst.snd.fst.fst) (fun i => [.int .i64 ((v.snd.snd.fst.fst.snd.fst.snd i).fst), .int .i64 ((v.snd.snd.fst.fst.snd.fst.snd i).snd.fst)])), .p (.seq true 1 (v.snd.snd.fst.snd.fst.fst) (fun i => [.int .i64 (v.snd.snd.fst.snd.fst.snd i)]))]] [] (.p (.bool true)),
  ((!true) = false),
  ((0 : Nat) < 1),
  ((0 : Nat) < 1),
  Con (Try.prog) 68 0 [] [.p (.seq true 5 (v.snd.snd.snd.fst.fst) (fun i => [.int .i64 ((v.snd.snd.snd.fst.snd i).fst), .int .i64 ((v.snd.snd.snd.fst.snd i).snd.fst), .int .i64 ((v.snd.snd.snd.fst.snd i).snd.snd.fst), .int .i64 ((v.snd.snd.snd.fst.snd i).snd.snd.snd.fst), .int .i64 ((v.snd.snd.snd.fst.snd i).snd.snd.snd.snd.fst)])), .p (.seq true 5 (v.snd.snd.snd.fst.fst) (fun i => [.int .i64 ((v.snd.snd.snd.fst.snd i).fst), .int .i64 ((v.snd.snd.snd.fst.snd i).snd.fst), .int .i64 ((v.snd.snd.snd.fst.snd i).snd.snd.fst), .int .i64 ((v.snd.snd.snd.fst.snd i).snd.snd.snd.fst), .int .i64 ((v.snd.snd.snd.fst.snd i).snd.snd.snd.snd.fst)]))] [] (.p (.bool true)),
  ((!true) = false),
  ((0 : Nat) < 1),
  ((0 : Nat) < 1),
  Con (Try.prog) 15 0 [] [.p (.seq true 1 (v.snd.snd.snd.snd.fst.fst) (fun i => [.int .i64 (v.snd.snd.snd.snd.fst.snd i)])), .p (.seq true 1 (v.snd.snd.snd.snd.fst.fst) (fun i => [.int .i64 (v.snd.snd.snd.snd.fst.snd i)]))] [] (.p (.bool true)),
  ((!true) = false),
  (true = true)] := by kernel_rfl

theorem p_sePlaceS_z (v u : T_PlaceS) :
    pathOb Try.prog Try.f94 0 [.reg [oT], .reg [oT, oT, oT, oT, oT], .dec true, .reg [oT]] [.code (bodyOf Try.f94)] (start Try.f94 [] 0 [.p (.seq true 2 (v.1) (fun i => [.int .i64 ((v.2 i).1), .int .i64 ((v.2 i).2.1)])), .p (.seq true 2 (u.1) (fun i => [.int .i64 ((u.2 i).1), .int .i64 ((u.2 i).2.1)]))]) [] 1 [] (.p (.bool false)) =
    some [(((↑v.fst : Int) != (↑u.fst : Int)) = true),
  (false = false)] := by kernel_rfl

theorem p_sePlaceS_a (v u : T_PlaceS) :
    pieceOb Try.prog 0 [.reg [oT], .reg [oT, oT, oT, oT, oT], .dec false, .reg [oT, oT, oT], .head] [.code (bodyOf Try.f94)] (start Try.f94 [] 0 [.p (.seq true 2 (v.1) (fun i => [.int .i64 ((v.2 i).1), .int .i64 ((v.2 i).2.1)])), .p (.seq true 2 (u.1) (fun i => [.int .i64 ((u.2 i).1), .int .i64 ((u.2 i).2.1)]))]) [] 1 (S_sePlaceS v u 0) =
    some ([.code (cAt (bodyOf Try.f94) [1, 1, 0, 1, 0, 0]), .inLoop (cAt (bodyOf Try.f94) [1, 1, 0, 1, 0, 0]), .inBlock 0, .code (cAt (bodyOf Try.f94) [1, 1, 1])], [(((↑v.fst : Int) != (↑u.fst : Int)) = false),
  (((v.fst) : Nat) = (v.fst)),
  (∀ i : Nat, ((((i) : Nat) < (v.fst)) → (([.int .i64 ((v.snd i).fst), .int .i64 ((v.snd i).snd.fst)] : List PV) = [.int .i64 ((v.snd i).fst), .int .i64 ((v.snd i).snd.fst)]))),
  (((u.fst) : Nat) = (u.fst)),
  (∀ i : Nat, ((((i) : Nat) < (u.fst)) → (([.int .i64 ((u.snd i).fst), .int .i64 ((u.snd i).snd.fst)] : List PV) = [.int .i64 ((u.snd i).fst), .int .i64 ((u.snd i).snd.fst)]))),
  ((((↑v.fst : Int)) : Int) = ((↑v.fst : Int))),
  ((0 : Int) = ((↑0 : Int)))]) := by kernel_rfl

theorem p_sePlaceS_b (v u : T_PlaceS) (k : Nat) :
    pieceOb Try.prog 0 [.reg [oT], .dec true, .reg [oT, oT], .reg [oT, oT, oT, oT, oT, oT, oT, oT, oT], .dec false, .reg [oT, oT], .head] [.code (cAt (bodyOf Try.f94) [1, 1, 0, 1, 0, 0]), .inLoop (cAt (bodyOf Try.f94) [1, 1, 0, 1, 0, 0]), .inBlock 0, .code (cAt (bodyOf Try.f94) [1, 1, 1])] (S_sePlaceS v u k) [] 1 (S_sePlaceS v u (k + 1)) =
    some ([.code (cAt (bodyOf Try.f94) [1, 1, 0, 1, 0, 0]), .inLoop (cAt (bodyOf Try.f94) [1, 1, 0, 1, 0, 0]), .inBlock 0, .code (cAt (bodyOf Try.f94) [1, 1, 1])], [((decide ((↑k : Int) < (↑v.fst : Int))) = true),
  ((0 : Int) ≤ ((↑k : Int))),
  ((((↑k : Int)) : Int) < ((↑v.fst : Int))),
  ((0 : Int) ≤ ((↑k : Int))),
  ((((↑k : Int)) : Int) < ((↑u.fst : Int))),
  ((!((v.snd k).fst == (u.snd k).fst && ((v.snd k).snd.fst == (u.snd k).snd.fst && true))) = false),
  (((-9223372036854775808) : Int) ≤ ((↑k : Int) + 1)),
  ((((↑k : Int) + 1) : Int) ≤ 9223372036854775807),
  (((v.fst) : Nat) = (v.fst)),
  (∀ i : Nat, ((((i) : Nat) < (v.fst)) → (([.int .i64 ((v.snd i).fst), .int .i64 ((v.snd i).snd.fst)] : List PV) = [.int .i64 ((v.snd i).fst), .int .i64 ((v.snd i).snd.fst)]))),
  (((u.fst) : Nat) = (u.fst)),
  (∀ i : Nat, ((((i) : Nat) < (u.fst)) → (([.int .i64 ((u.snd i).fst), .int .i64 ((u.snd i).snd.fst)] : List PV) = [.int .i64 ((u.snd i).fst), .int .i64 ((u.snd i).snd.fst)]))),
  ((((↑v.fst : Int)) : Int) = ((↑v.fst : Int))),
  ((((↑k : Int) + 1) : Int) = ((↑(k + 1) : Int)))]) := by kernel_rfl

theorem p_sePlaceS_c (v u : T_PlaceS) (k : Nat) :
    pathOb Try.prog Try.f94 0 [.reg [oT], .dec true, .reg [oT, oT], .reg [oT, oT, oT, oT, oT, oT, oT, oT, oT], .dec true, .reg [oT]] [.code (cAt (bodyOf Try.f94) [1, 1, 0, 1, 0, 0]), .inLoop (cAt (bodyOf Try.f94) [1, 1, 0, 1, 0, 0]), .inBlock 0, .code (cAt (bodyOf Try.f94) [1, 1, 1])] (S_sePlaceS v u k) [] 1 [] (.p (.bool false)) =
    some [((decide ((↑k : Int) < (↑v.fst : Int))) = true),
  ((0 : Int) ≤ ((↑k : Int))),
  ((((↑k : Int)) : Int) < ((↑v.fst : Int))),
  ((0 : Int) ≤ ((↑k : Int))),
  ((((↑k : Int)) : Int) < ((↑u.fst : Int))),
  ((!((v.snd k).fst == (u.snd k).fst && ((v.snd k).snd.fst == (u.snd k).snd.fst && true))) = true),
  (false = false)] := by kernel_rfl

theorem p_sePlaceS_d (v u : T_PlaceS) (k : Nat) :
    pathOb Try.prog Try.f94 0 [.reg [oT], .dec false, .reg [oT]] [.code (cAt (bodyOf Try.f94) [1, 1, 0, 1, 0, 0]), .inLoop (cAt (bodyOf Try.f94) [1, 1, 0, 1, 0, 0]), .inBlock 0, .code (cAt (bodyOf Try.f94) [1, 1, 1])] (S_sePlaceS v u k) [] 1 [] (.p (.bool true)) =
    some [((decide ((↑k : Int) < (↑v.fst : Int))) = false),
  (true = true)] := by kernel_rfl

theorem p_seStepS_z (v u : T_StepS) :
    pathOb Try.prog Try.f95 0 [.reg [oT], .reg [oT, oT, oT, oT, oT], .dec true, .reg [oT]] [.code (bodyOf Try.f95)] (start Try.f95 [] 0 [.p (.seq true 5 (v.1) (fun i => [.int .i64 ((v.2 i).1), .int .i64 ((v.2 i).2.1), .int .i64 ((v.2 i).2.2.1), .int .i64 ((v.2 i).2.2.2.1), .int .i64 ((v.2 i).2.2.2.2.1)])), .p (.seq true 5 (u.1) (fun i => [.int .i64 ((u.2 i).1), .int .i64 ((u.2 i).2.1), .int .i64 ((u.2 i).2.2.1), .int .i64 ((u.2 i).2.2.2.1), .int .i64 ((u.2 i).2.2.2.2.1)]))]) [] 1 [] (.p (.bool false)) =
    some [(((↑v.fst : Int) != (↑u.fst : Int)) = true),
  (false = false)] := by kernel_rfl

theorem p_seStepS_a (v u : T_StepS) :
    pieceOb Try.prog 0 [.reg [oT], .reg [oT, oT, oT, oT, oT], .dec false, .reg [oT, oT, oT], .head] [.code (bodyOf Try.f95)] (start Try.f95 [] 0 [.p (.seq true 5 (v.1) (fun i => [.int .i64 ((v.2 i).1), .int .i64 ((v.2 i).2.1), .int .i64 ((v.2 i).2.2.1), .int .i64 ((v.2 i).2.2.2.1), .int .i64 ((v.2 i).2.2.2.2.1)])), .p (.seq true 5 (u.1) (fun i => [.int .i64 ((u.2 i).1), .int .i64 ((u.2 i).2.1), .int .i64 ((u.2 i).2.2.1), .int .i64 ((u.2 i).2.2.2.1), .int .i64 ((u.2 i).2.2.2.2.1)]))]) [] 1 (S_seStepS v u 0) =
    some ([.code (cAt (bodyOf Try.f95) [1, 1, 0, 1, 0, 0]), .inLoop (cAt (bodyOf Try.f95) [1, 1, 0, 1, 0, 0]), .inBlock 0, .code (cAt (bodyOf Try.f95) [1, 1, 1])], [(((↑v.fst : Int) != (↑u.fst : Int)) = false),
  (((v.fst) : Nat) = (v.fst)),
  (∀ i : Nat, ((((i) : Nat) < (v.fst)) → (([.int .i64 ((v.snd i).fst), .int .i64 ((v.snd i).snd.fst), .int .i64 ((v.snd i).snd.snd.fst), .int .i64 ((v.snd i).snd.snd.snd.fst), .int .i64 ((v.snd i).snd.snd.snd.snd.fst)] : List PV) = [.int .i64 ((v.snd i).fst), .int .i64 ((v.snd i).snd.fst), .int .i64 ((v.snd i).snd.snd.fst), .int .i64 ((v.snd i).snd.snd.snd.fst), .int .i64 ((v.snd i).snd.snd.snd.snd.fst)]))),
  (((u.fst) : Nat) = (u.fst)),
  (∀ i : Nat, ((((i) : Nat) < (u.fst)) → (([.int .i64 ((u.snd i).fst), .int .i64 ((u.snd i).snd.fst), .int .i64 ((u.snd i).snd.snd.fst), .int .i64 ((u.snd i).snd.snd.snd.fst), .int .i64 ((u.snd i).snd.snd.snd.snd.fst)] : List PV) = [.int .i64 ((u.snd i).fst), .int .i64 ((u.snd i).snd.fst), .int .i64 ((u.snd i).snd.snd.fst), .int .i64 ((u.snd i).snd.snd.snd.fst), .int .i64 ((u.snd i).snd.snd.snd.snd.fst)]))),
  ((((↑v.fst : Int)) : Int) = ((↑v.fst : Int))),
  ((0 : Int) = ((↑0 : Int)))]) := by kernel_rfl

theorem p_seStepS_b (v u : T_StepS) (k : Nat) :
    pieceOb Try.prog 0 [.reg [oT], .dec true, .reg [oT, oT], .reg [oT, oT, oT, oT, oT, oT, oT, oT, oT], .dec false, .reg [oT, oT], .head] [.code (cAt (bodyOf Try.f95) [1, 1, 0, 1, 0, 0]), .inLoop (cAt (bodyOf Try.f95) [1, 1, 0, 1, 0, 0]), .inBlock 0, .code (cAt (bodyOf Try.f95) [1, 1, 1])] (S_seStepS v u k) [] 1 (S_seStepS v u (k + 1)) =
    some ([.code (cAt (bodyOf Try.f95) [1, 1, 0, 1, 0, 0]), .inLoop (cAt (bodyOf Try.f95) [1, 1, 0, 1, 0, 0]), .inBlock 0, .code (cAt (bodyOf Try.f95) [1, 1, 1])], [((decide ((↑k : Int) < (↑v.fst : Int))) = true),
  ((0 : Int) ≤ ((↑k : Int))),
  ((((↑k : Int)) : Int) < ((↑v.fst : Int))),
  ((0 : Int) ≤ ((↑k : Int))),
  ((((↑k : Int)) : Int) < ((↑u.fst : Int))),
  ((!((v.snd k).fst == (u.snd k).fst && ((v.snd k).snd.fst == (u.snd k).snd.fst && ((v.snd k).snd.snd.fst == (u.snd k).snd.snd.fst && ((v.snd k).snd.snd.snd.fst == (u.snd k).snd.snd.snd.fst && ((v.snd k).snd.snd.snd.snd.fst == (u.snd k).snd.snd.snd.snd.fst && true)))))) = false),
  (((-9223372036854775808) : Int) ≤ ((↑k : Int) + 1)),
  ((((↑k : Int) + 1) : Int) ≤ 9223372036854775807),
  (((v.fst) : Nat) = (v.fst)),
  (∀ i : Nat, ((((i) : Nat) < (v.fst)) → (([.int .i64 ((v.snd i).fst), .int .i64 ((v.snd i).snd.fst), .int .i64 ((v.snd i).snd.snd.fst), .int .i64 ((v.snd i).snd.snd.snd.fst), .int .i64 ((v.snd i).snd.snd.snd.snd.fst)] : List PV) = [.int .i64 ((v.snd i).fst), .int .i64 ((v.snd i).snd.fst), .int .i64 ((v.snd i).snd.snd.fst), .int .i64 ((v.snd i).snd.snd.snd.fst), .int .i64 ((v.snd i).snd.snd.snd.snd.fst)]))),
  (((u.fst) : Nat) = (u.fst)),
  (∀ i : Nat, ((((i) : Nat) < (u.fst)) → (([.int .i64 ((u.snd i).fst), .int .i64 ((u.snd i).snd.fst), .int .i64 ((u.snd i).snd.snd.fst), .int .i64 ((u.snd i).snd.snd.snd.fst), .int .i64 ((u.snd i).snd.snd.snd.snd.fst)] : List PV) = [.int .i64 ((u.snd i).fst), .int .i64 ((u.snd i).snd.fst), .int .i64 ((u.snd i).snd.snd.fst), .int .i64 ((u.snd i).snd.snd.snd.fst), .int .i64 ((u.snd i).snd.snd.snd.snd.fst)]))),
  ((((↑v.fst : Int)) : Int) = ((↑v.fst : Int))),
  ((((↑k : Int) + 1) : Int) = ((↑(k + 1) : Int)))]) := by kernel_rfl

theorem p_seStepS_c (v u : T_StepS) (k : Nat) :
    pathOb Try.prog Try.f95 0 [.reg [oT], .dec true, .reg [oT, oT], .reg [oT, oT, oT, oT, oT, oT, oT, oT, oT], .dec true, .reg [oT]] [.code (cAt (bodyOf Try.f95) [1, 1, 0, 1, 0, 0]), .inLoop (cAt (bodyOf Try.f95) [1, 1, 0, 1, 0, 0]), .inBlock 0, .code (cAt (bodyOf Try.f95) [1, 1, 1])] (S_seStepS v u k) [] 1 [] (.p (.bool false)) =
    some [((decide ((↑k : Int) < (↑v.fst : Int))) = true),
  ((0 : Int) ≤ ((↑k : Int))),
  ((((↑k : Int)) : Int) < ((↑v.fst : Int))),
  ((0 : Int) ≤ ((↑k : Int))),
  ((((↑k : Int)) : Int) < ((↑u.fst : Int))),
  ((!((v.snd k).fst == (u.snd k).fst && ((v.snd k).snd.fst == (u.snd k).snd.fst && ((v.snd k).snd.snd.fst == (u.snd k).snd.snd.fst && ((v.snd k).snd.snd.snd.fst == (u.snd k).snd.snd.snd.fst && ((v.snd k).snd.snd.snd.snd.fst == (u.snd k).snd.snd.snd.snd.fst && true)))))) = true),
  (false = false)] := by kernel_rfl

theorem p_seStepS_d (v u : T_StepS) (k : Nat) :
    pathOb Try.prog Try.f95 0 [.reg [oT], .dec false, .reg [oT]] [.code (cAt (bodyOf Try.f95) [1, 1, 0, 1, 0, 0]), .inLoop (cAt (bodyOf Try.f95) [1, 1, 0, 1, 0, 0]), .inBlock 0, .code (cAt (bodyOf Try.f95) [1, 1, 1])] (S_seStepS v u k) [] 1 [] (.p (.bool true)) =
    some [((decide ((↑k : Int) < (↑v.fst : Int))) = false),
  (true = true)] := by kernel_rfl

theorem p_ls_AreSameSteps_StepS_z (v u : T_StepS) :
    pathOb Try.prog Try.f62 0 [.reg [oT], .reg [oT, oT, oT, oT, oT], .dec true, .reg [oT]] [.code (bodyOf Try.f62)] (start Try.f62 [] 0 [.p (.seq true 5 (v.1) (fun i => [.int .i64 ((v.2 i).1), .int .i64 ((v.2 i).2.1), .int .i64 ((v.2 i).2.2.1), .int .i64 ((v.2 i).2.2.2.1), .int .i64 ((v.2 i).2.2.2.2.1)])), .p (.seq true 5 (u.1) (fun i => [.int .i64 ((u.2 i).1), .int .i64 ((u.2 i).2.1), .int .i64 ((u.2 i).2.2.1), .int .i64 ((u.2 i).2.2.2.1), .int .i64 ((u.2 i).2.2.2.2.1)]))]) [] 1 [] (.p (.bool false)) =
    some [(((↑v.fst : Int) != (↑u.fst : Int)) = true),
  (false = false)] := by kernel_rfl

theorem p_ls_AreSameSteps_StepS_a (v u : T_StepS) :
    pieceOb Try.prog 0 [.reg [oT], .reg [oT, oT, oT, oT, oT], .dec false, .reg [oT], .head] [.code (bodyOf Try.f62)] (start Try.f62 [] 0 [.p (.seq true 5 (v.1) (fun i => [.int .i64 ((v.2 i).1), .int .i64 ((v.2 i).2.1), .int .i64 ((v.2 i).2.2.1), .int .i64 ((v.2 i).2.2.2.1), .int .i64 ((v.2 i).2.2.2.2.1)])), .p (.seq true 5 (u.1) (fun i => [.int .i64 ((u.2 i).1), .int .i64 ((u.2 i).2.1), .int .i64 ((u.2 i).2.2.1), .int .i64 ((u.2 i).2.2.2.1), .int .i64 ((u.2 i).2.2.2.2.1)]))]) [] 1 (S_ls_AreSameSteps_StepS v u 0) =
    some ([.code (cAt (bodyOf Try.f62) [1, 1, 0, 1, 0, 0]), .inLoop (cAt (bodyOf Try.f62) [1, 1, 0, 1, 0, 0]), .inBlock 0, .code (cAt (bodyOf Try.f62) [1, 1, 1])], [(((↑v.fst : Int) != (↑u.fst : Int)) = false),
  (((v.fst) : Nat) = (v.fst)),
  (∀ i : Nat, ((((i) : Nat) < (v.fst)) → (([.int .i64 ((v.snd i).fst), .int .i64 ((v.snd i).snd.fst), .int .i64 ((v.snd i).snd.snd.fst), .int .i64 ((v.snd i).snd.snd.snd.fst), .int .i64 ((v.snd i).snd.snd.snd.snd.fst)] : List PV) = [.int .i64 ((v.snd i).fst), .int .i64 ((v.snd i).snd.fst), .int .i64 ((v.snd i).snd.snd.fst), .int .i64 ((v.snd i).snd.snd.snd.fst), .int .i64 ((v.snd i).snd.snd.snd.snd.fst)]))),
  (((u.fst) : Nat) = (u.fst)),
  (∀ i : Nat, ((((i) : Nat) < (u.fst)) → (([.int .i64 ((u.snd i).fst), .int .i64 ((u.snd i).snd.fst), .int .i64 ((u.snd i).snd.snd.fst), .int .i64 ((u.snd i).snd.snd.snd.fst), .int .i64 ((u.snd i).snd.snd.snd.snd.fst)] : List PV) = [.int .i64 ((u.snd i).fst), .int .i64 ((u.snd i).snd.fst), .int .i64 ((u.snd i).snd.snd.fst), .int .i64 ((u.snd i).snd.snd.snd.fst), .int .i64 ((u.snd i).snd.snd.snd.snd.fst)]))),
  ((0 : Int) = ((↑0 : Int)))]) := by kernel_rfl

theorem p_ls_AreSameSteps_StepS_b (v u : T_StepS) (k : Nat) :
    pieceOb Try.prog 0 [.reg [oT, oT, oT, oT], .dec true, .reg [oT, oT, oT, oT, oT, oT, oT, oT, oT], .dec false, .reg [oT, oT, oT], .head] [.code (cAt (bodyOf Try.f62) [1, 1, 0, 1, 0, 0]), .inLoop (cAt (bodyOf Try.f62) [1, 1, 0, 1, 0, 0]), .inBlock 0, .code (cAt (bodyOf Try.f62) [1, 1, 1])] (S_ls_AreSameSteps_StepS v u k) [] 1 (S_ls_AreSameSteps_StepS v u (k + 1)) =
    some ([.code (cAt (bodyOf Try.f62) [1, 1, 0, 1, 0, 0]), .inLoop (cAt (bodyOf Try.f62) [1, 1, 0, 1, 0, 0]), .inBlock 0, .code (cAt (bodyOf Try.f62) [1, 1, 1])], [((decide ((↑k : Int) < (↑v.fst : Int))) = true),
  ((0 : Int) ≤ ((↑k : Int))),
  ((((↑k : Int)) : Int) < ((↑v.fst : Int))),
  ((0 : Int) ≤ ((↑k : Int))),
  ((((↑k : Int)) : Int) < ((↑u.fst : Int))),
  ((!((v.snd k).fst == (u.snd k).fst && ((v.snd k).snd.fst == (u.snd k).snd.fst && ((v.snd k).snd.snd.fst == (u.snd k).snd.snd.fst && ((v.snd k).snd.snd.snd.fst == (u.snd k).snd.snd.snd.fst && ((v.snd k).snd.snd.snd.snd.fst == (u.snd k).snd.snd.snd.snd.fst && true)))))) = false),
  (((-9223372036854775808) : Int) ≤ ((↑k : Int) + 1)),
  ((((↑k : Int) + 1) : Int) ≤ 9223372036854775807),
  (((v.fst) : Nat) = (v.fst)),
  (∀ i : Nat, ((((i) : Nat) < (v.fst)) → (([.int .i64 ((v.snd i).fst), .int .i64 ((v.snd i).snd.fst), .int .i64 ((v.snd i).snd.snd.fst), .int .i64 ((v.snd i).snd.snd.snd.fst), .int .i64 ((v.snd i).snd.snd.snd.snd.fst)] : List PV) = [.int .i64 ((v.snd i).fst), .int .i64 ((v.snd i).snd.fst), .int .i64 ((v.snd i).snd.snd.fst), .int .i64 ((v.snd i).snd.snd.snd.fst), .int .i64 ((v.snd i).snd.snd.snd.snd.fst)]))),
  (((u.fst) : Nat) = (u.fst)),
  (∀ i : Nat, ((((i) : Nat) < (u.fst)) → (([.int .i64 ((u.snd i).fst), .int .i64 ((u.snd i).snd.fst), .int .i64 ((u.snd i).snd.snd.fst), .int .i64 ((u.snd i).snd.snd.snd.fst), .int .i64 ((u.snd i).snd.snd.snd.snd.fst)] : List PV) = [.int .i64 ((u.snd i).fst), .int .i64 ((u.snd i).snd.fst), .int .i64 ((u.snd i).snd.snd.fst), .int .i64 ((u.snd i).snd.snd.snd.fst), .int .i64 ((u.snd i).snd.snd.snd.snd.fst)]))),
  ((((↑k : Int) + 1) : Int) = ((↑(k + 1) : Int)))]) := by kernel_rfl

theorem p_ls_AreSameSteps_StepS_c (v u : T_StepS) (k : Nat) :
    pathOb Try.prog Try.f62 0 [.reg [oT, oT, oT, oT], .dec true, .reg [oT, oT, oT, oT, oT, oT, oT, oT, oT], .dec true, .reg [oT]] [.code (cAt (bodyOf Try.f62) [1, 1, 0, 1, 0, 0]), .inLoop (cAt (bodyOf Try.f62) [1, 1, 0, 1, 0, 0]), .inBlock 0, .code (cAt (bodyOf Try.f62) [1, 1, 1])] (S_ls_AreSameSteps_StepS v u k) [] 1 [] (.p (.bool false)) =
    some [((decide ((↑k : Int) < (↑v.fst : Int))) = true),
  ((0 : Int) ≤ ((↑k : Int))),
  ((((↑k : Int)) : Int) < ((↑v.fst : Int))),
  ((0 : Int) ≤ ((↑k : Int))),
  ((((↑k : Int)) : Int) < ((↑u.fst : Int))),
  ((!((v.snd k).fst == (u.snd k).fst && ((v.snd k).snd.fst == (u.snd k).snd.fst && ((v.snd k).snd.snd.fst == (u.snd k).snd.snd.fst && ((v.snd k).snd.snd.snd.fst == (u.snd k).snd.snd.snd.fst && ((v.snd k).snd.snd.snd.snd.fst == (u.snd k).snd.snd.snd.snd.fst && true)))))) = true),
  (false = false)] := by kernel_rfl

theorem p_ls_AreSameSteps_StepS_d (v u : T_StepS) (k : Nat) :
    pathOb Try.prog Try.f62 0 [.reg [oT, oT, oT, oT], .dec false, .reg [oT]] [.code (cAt (bodyOf Try.f62) [1, 1, 0, 1, 0, 0]), .inLoop (cAt (bodyOf Try.f62) [1, 1, 0, 1, 0, 0]), .inBlock 0, .code (cAt (bodyOf Try.f62) [1, 1, 1])] (S_ls_AreSameSteps_StepS v u k) [] 1 [] (.p (.bool true)) =
    some [((decide ((↑k : Int) < (↑v.fst : Int))) = false),
  (true = true)] := by kernel_rfl

theorem con_szPlaceS (v : T_PlaceS) (k : okS s_PlaceS v) (m : Int) (h0 : 0 ≤ m) (h1 : m ≤ 1048576) : Con Try.prog 113 0 [] [.p (.seq true 2 (v.1) (fun i => [.int .i64 ((v.2 i).1), .int .i64 ((v.2 i).2.1)])), .p (.int .i64 m)] [] (.p (.int .i64 (f_szPlaceS v m))) := by
  refine con_start Try.func113 rfl (by kernel_rfl) rfl (fun c hc => ?_)
  have hn := k.1
  by_cases h : m - v.1 < 0
  · rw [show f_szPlaceS v m = -1 by simp [f_szPlaceS, h]]
    refine path_ok mixed Try.func113 hc (p_szPlaceS_a v m) ?_
    simp only [All]
    repeat' (first | exact trivial | with_reducible apply And.intro)
    all_goals (first | omega | rfl | (intros; first | assumption | exact True.intro | rfl | exact absurd (show false = true by assumption) Bool.false_ne_true | ((repeat' (first | assumption | apply anda | apply notf)); done)) | (simp; omega))
  · rw [show f_szPlaceS v m = m - v.1 by simp [f_szPlaceS, h]]
    refine path_ok mixed Try.func113 hc (p_szPlaceS_b v m) ?_
    simp only [All]
    repeat' (first | exact trivial | with_reducible apply And.intro)
    all_goals (first | omega | rfl | (intros; first | assumption | exact True.intro | rfl | exact absurd (show false = true by assumption) Bool.false_ne_true | ((repeat' (first | assumption | apply anda | apply notf)); done)) | (simp; omega))

theorem le_szPlaceS (v : T_PlaceS) (m : Int) (h0 : 0 ≤ m) : f_szPlaceS v m ≤ m := by
  unfold f_szPlaceS; split <;> omega

theorem sm_szPlaceS (v : T_PlaceS) (m : Int) (h1 : m ≤ 1048576) (h : ¬ f_szPlaceS v m < 0) : smS s_PlaceS v := by
  unfold f_szPlaceS at h
  split at h
  · omega
  · exact ⟨by omega, fun i hi => by simp [smS, smL]⟩

theorem con_szFramework (v : T_Framework) (k : okS s_Framework v) (m : Int) (h0 : 0 ≤ m) (h1 : m ≤ 1048576) : Con Try.prog 91 0 [] [.agg [.p (.int .i64 (v.1.1)), .p (.seq true 2 (v.1.2.1.1) (fun i => [.int .i64 ((v.1.2.1.2 i).1), .int .i64 ((v.1.2.1.2 i).2.1)])), .p (.seq true 2 (v.2.1.1) (fun i => [.int .i64 ((v.2.1.2 i).1), .int .i64 ((v.2.1.2 i).2.1)]))], .p (.int .i64 m)] [] (.p (.int .i64 (f_szFramework v m))) := by
  refine con_start Try.func91 rfl (by kernel_rfl) rfl (fun c hc => ?_)
  have l0 := le_szGraph v.1 m (by omega)
  by_cases g0 : (f_szGraph v.1 m) < 0
  · rw [show f_szFramework v m = -1 by simp [f_szFramework, g0]]
    refine path_ok mixed Try.func91 hc (p_szFramework_0 v m) ?_
    simp only [All]
    repeat' (first | exact trivial | with_reducible apply And.intro)
    all_goals (first | omega | rfl | (intros; first | assumption | exact True.intro | rfl | exact absurd (show false = true by assumption) Bool.false_ne_true | ((repeat' (first | assumption | apply anda | apply notf)); done)) | (exact con_szGraph v.1 k.1 m (by omega) (by omega)) | (simp; omega))
  have l1 := le_szPlaceS v.2.1 (f_szGraph v.1 m) (by omega)
  by_cases g1 : (f_szPlaceS v.2.1 (f_szGraph v.1 m)) < 0
  · rw [show f_szFramework v m = -1 by simp [f_szFramework, g0, g1]]
    refine path_ok mixed Try.func91 hc (p_szFramework_1 v m) ?_
    simp only [All]
    repeat' (first | exact trivial | with_reducible apply And.intro)
    all_goals (first | omega | rfl | (intros; first | assumption | exact True.intro | rfl | exact absurd (show false = true by assumption) Bool.false_ne_true | ((repeat' (first | assumption | apply anda | apply notf)); done)) | (exact con_szGraph v.1 k.1 m (by omega) (by omega)) | (exact con_szPlaceS v.2.1 k.2.1 (f_szGraph v.1 m) (by omega) (by omega)) | (simp; omega))
  rw [show f_szFramework v m = (f_szPlaceS v.2.1 (f_szGraph v.1 m)) by simp [f_szFramework, g0, g1]]
  refine path_ok mixed Try.func91 hc (p_szFramework_e v m) ?_
  simp only [All]
  repeat' (first | exact trivial | with_reducible apply And.intro)
  all_goals (first | omega | rfl | (intros; first | assumption | exact True.intro | rfl | exact absurd (show false = true by assumption) Bool.false_ne_true | ((repeat' (first | assumption | apply anda | apply notf)); done)) | (exact con_szGraph v.1 k.1 m (by omega) (by omega)) | (exact con_szPlaceS v.2.1 k.2.1 (f_szGraph v.1 m) (by omega) (by omega)) | (simp; omega))

theorem le_szFramework (v : T_Framework) (m : Int) (h0 : 0 ≤ m) : f_szFramework v m ≤ m := by
  have l0 := le_szGraph v.1 m h0
  by_cases g0 : (f_szGraph v.1 m) < 0
  · simp only [f_szFramework, g0, if_true, if_false]; omega
  have l1 := le_szPlaceS v.2.1 (f_szGraph v.1 m) (by omega)
  by_cases g1 : (f_szPlaceS v.2.1 (f_szGraph v.1 m)) < 0
  · simp only [f_szFramework, g0, g1, if_true, if_false]; omega
  simp only [f_szFramework, g0, g1, if_false]; omega

theorem sm_szFramework (v : T_Framework) (m : Int) (h0 : 0 ≤ m) (h1 : m ≤ 1048576) (h : ¬ f_szFramework v m < 0) : smS s_Framework v := by
  have l0 := le_szGraph v.1 m (by omega)
  have g0 : ¬ (f_szGraph v.1 m) < 0 := by
    intro g; apply h; simp only [f_szFramework, g, if_true, if_false]; omega
  have l1 := le_szPlaceS v.2.1 (f_szGraph v.1 m) (by omega)
  have g1 : ¬ (f_szPlaceS v.2.1 (f_szGraph v.1 m)) < 0 := by
    intro g; apply h; simp only [f_szFramework, g0, g, if_true, if_false]; omega
  exact ⟨sm_szGraph v.1 m (by omega) (by omega) g0, sm_szPlaceS v.2.1 (f_szGraph v.1 m) (by omega) g1, True.intro⟩

theorem con_szTensegrity (v : T_Tensegrity) (k : okS s_Tensegrity v) (m : Int) (h0 : 0 ≤ m) (h1 : m ≤ 1048576) : Con Try.prog 58 0 [] [.agg [.p (.int .i64 (v.1.1.1)), .p (.seq true 2 (v.1.1.2.1.1) (fun i => [.int .i64 ((v.1.1.2.1.2 i).1), .int .i64 ((v.1.1.2.1.2 i).2.1)])), .p (.seq true 2 (v.1.2.1.1) (fun i => [.int .i64 ((v.1.2.1.2 i).1), .int .i64 ((v.1.2.1.2 i).2.1)])), .p (.seq true 1 (v.2.1.1) (fun i => [.int .i64 ((v.2.1.2 i))]))], .p (.int .i64 m)] [] (.p (.int .i64 (f_szTensegrity v m))) := by
  refine con_start Try.func58 rfl (by kernel_rfl) rfl (fun c hc => ?_)
  have l0 := le_szFramework v.1 m (by omega)
  by_cases g0 : (f_szFramework v.1 m) < 0
  · rw [show f_szTensegrity v m = -1 by simp [f_szTensegrity, g0]]
    refine path_ok mixed Try.func58 hc (p_szTensegrity_0 v m) ?_
    simp only [All]
    repeat' (first | exact trivial | with_reducible apply And.intro)
    all_goals (first | omega | rfl | (intros; first | assumption | exact True.intro | rfl | exact absurd (show false = true by assumption) Bool.false_ne_true | ((repeat' (first | assumption | apply anda | apply notf)); done)) | (exact con_szFramework v.1 k.1 m (by omega) (by omega)) | (simp; omega))
  have l1 := le_szIntS v.2.1 (f_szFramework v.1 m) (by omega)
  by_cases g1 : (f_szIntS v.2.1 (f_szFramework v.1 m)) < 0
  · rw [show f_szTensegrity v m = -1 by simp [f_szTensegrity, g0, g1]]
    refine path_ok mixed Try.func58 hc (p_szTensegrity_1 v m) ?_
    simp only [All]
    repeat' (first | exact trivial | with_reducible apply And.intro)
    all_goals (first | omega | rfl | (intros; first | assumption | exact True.intro | rfl | exact absurd (show false = true by assumption) Bool.false_ne_true | ((repeat' (first | assumption | apply anda | apply notf)); done)) | (exact con_szFramework v.1 k.1 m (by omega) (by omega)) | (exact con_szIntS v.2.1 k.2.1 (f_szFramework v.1 m) (by omega) (by omega)) | (simp; omega))
  rw [show f_szTensegrity v m = (f_szIntS v.2.1 (f_szFramework v.1 m)) by simp [f_szTensegrity, g0, g1]]
  refine path_ok mixed Try.func58 hc (p_szTensegrity_e v m) ?_
  simp only [All]
  repeat' (first | exact trivial | with_reducible apply And.intro)
  all_goals (first | omega | rfl | (intros; first | assumption | exact True.intro | rfl | exact absurd (show false = true by assumption) Bool.false_ne_true | ((repeat' (first | assumption | apply anda | apply notf)); done)) | (exact con_szFramework v.1 k.1 m (by omega) (by omega)) | (exact con_szIntS v.2.1 k.2.1 (f_szFramework v.1 m) (by omega) (by omega)) | (simp; omega))

theorem le_szTensegrity (v : T_Tensegrity) (m : Int) (h0 : 0 ≤ m) : f_szTensegrity v m ≤ m := by
  have l0 := le_szFramework v.1 m h0
  by_cases g0 : (f_szFramework v.1 m) < 0
  · simp only [f_szTensegrity, g0, if_true, if_false]; omega
  have l1 := le_szIntS v.2.1 (f_szFramework v.1 m) (by omega)
  by_cases g1 : (f_szIntS v.2.1 (f_szFramework v.1 m)) < 0
  · simp only [f_szTensegrity, g0, g1, if_true, if_false]; omega
  simp only [f_szTensegrity, g0, g1, if_false]; omega

theorem sm_szTensegrity (v : T_Tensegrity) (m : Int) (h0 : 0 ≤ m) (h1 : m ≤ 1048576) (h : ¬ f_szTensegrity v m < 0) : smS s_Tensegrity v := by
  have l0 := le_szFramework v.1 m (by omega)
  have g0 : ¬ (f_szFramework v.1 m) < 0 := by
    intro g; apply h; simp only [f_szTensegrity, g, if_true, if_false]; omega
  have l1 := le_szIntS v.2.1 (f_szFramework v.1 m) (by omega)
  have g1 : ¬ (f_szIntS v.2.1 (f_szFramework v.1 m)) < 0 := by
    intro g; apply h; simp only [f_szTensegrity, g0, g, if_true, if_false]; omega
  exact ⟨sm_szFramework v.1 m (by omega) (by omega) g0, sm_szIntS v.2.1 (f_szFramework v.1 m) (by omega) g1, True.intro⟩

theorem con_szStepS (v : T_StepS) (k : okS s_StepS v) (m : Int) (h0 : 0 ≤ m) (h1 : m ≤ 1048576) : Con Try.prog 59 0 [] [.p (.seq true 5 (v.1) (fun i => [.int .i64 ((v.2 i).1), .int .i64 ((v.2 i).2.1), .int .i64 ((v.2 i).2.2.1), .int .i64 ((v.2 i).2.2.2.1), .int .i64 ((v.2 i).2.2.2.2.1)])), .p (.int .i64 m)] [] (.p (.int .i64 (f_szStepS v m))) := by
  refine con_start Try.func59 rfl (by kernel_rfl) rfl (fun c hc => ?_)
  have hn := k.1
  by_cases h : m - v.1 < 0
  · rw [show f_szStepS v m = -1 by simp [f_szStepS, h]]
    refine path_ok mixed Try.func59 hc (p_szStepS_a v m) ?_
    simp only [All]
    repeat' (first | exact trivial | with_reducible apply And.intro)
    all_goals (first | omega | rfl | (intros; first | assumption | exact True.intro | rfl | exact absurd (show false = true by assumption) Bool.false_ne_true | ((repeat' (first | assumption | apply anda | apply notf)); done)) | (simp; omega))
  · rw [show f_szStepS v m = m - v.1 by simp [f_szStepS, h]]
    refine path_ok mixed Try.func59 hc (p_szStepS_b v m) ?_
    simp only [All]
    repeat' (first | exact trivial | with_reducible apply And.intro)
    all_goals (first | omega | rfl | (intros; first | assumption | exact True.intro | rfl | exact absurd (show false = true by assumption) Bool.false_ne_true | ((repeat' (first | assumption | apply anda | apply notf)); done)) | (simp; omega))

theorem le_szStepS (v : T_StepS) (m : Int) (h0 : 0 ≤ m) : f_szStepS v m ≤ m := by
  unfold f_szStepS; split <;> omega

theorem sm_szStepS (v : T_StepS) (m : Int) (h1 : m ≤ 1048576) (h : ¬ f_szStepS v m < 0) : smS s_StepS v := by
  unfold f_szStepS at h
  split at h
  · omega
  · exact ⟨by omega, fun i hi => by simp [smS, smL]⟩

theorem con_szClaim (v : T_Claim) (k : okS s_Claim v) (m : Int) (h0 : 0 ≤ m) (h1 : m ≤ 1048576) : Con Try.prog 23 0 [] [.agg [.p (.int .i64 (v.1)), .p (.int .i64 (v.2.1.1)), .p (.seq true 2 (v.2.1.2.1.1) (fun i => [.int .i64 ((v.2.1.2.1.2 i).1), .int .i64 ((v.2.1.2.1.2 i).2.1)])), .p (.int .i64 (v.2.2.1.1.1.1)), .p (.seq true 2 (v.2.2.1.1.1.2.1.1) (fun i => [.int .i64 ((v.2.2.1.1.1.2.1.2 i).1), .int .i64 ((v.2.2.1.1.1.2.1.2 i).2.1)])), .p (.seq true 2 (v.2.2.1.1.2.1.1) (fun i => [.int .i64 ((v.2.2.1.1.2.1.2 i).1), .int .i64 ((v.2.2.1.1.2.1.2 i).2.1)])), .p (.seq true 1 (v.2.2.1.2.1.1) (fun i => [.int .i64 ((v.2.2.1.2.1.2 i))])), .p (.seq true 5 (v.2.2.2.1.1) (fun i => [.int .i64 ((v.2.2.2.1.2 i).1), .int .i64 ((v.2.2.2.1.2 i).2.1), .int .i64 ((v.2.2.2.1.2 i).2.2.1), .int .i64 ((v.2.2.2.1.2 i).2.2.2.1), .int .i64 ((v.2.2.2.1.2 i).2.2.2.2.1)])), .p (.seq true 1 (v.2.2.2.2.1.1) (fun i => [.int .i64 ((v.2.2.2.2.1.2 i))]))], .p (.int .i64 m)] [] (.p (.int .i64 (f_szClaim v m))) := by
  refine con_start Try.func23 rfl (by kernel_rfl) rfl (fun c hc => ?_)
  have l0 := le_szGraph v.2.1 m (by omega)
  by_cases g0 : (f_szGraph v.2.1 m) < 0
  · rw [show f_szClaim v m = -1 by simp [f_szClaim, g0]]
    refine path_ok mixed Try.func23 hc (p_szClaim_0 v m) ?_
    simp only [All]
    repeat' (first | exact trivial | with_reducible apply And.intro)
    all_goals (first | omega | rfl | (intros; first | assumption | exact True.intro | rfl | exact absurd (show false = true by assumption) Bool.false_ne_true | ((repeat' (first | assumption | apply anda | apply notf)); done)) | (exact con_szGraph v.2.1 k.2.1 m (by omega) (by omega)) | (simp; omega))
  have l1 := le_szTensegrity v.2.2.1 (f_szGraph v.2.1 m) (by omega)
  by_cases g1 : (f_szTensegrity v.2.2.1 (f_szGraph v.2.1 m)) < 0
  · rw [show f_szClaim v m = -1 by simp [f_szClaim, g0, g1]]
    refine path_ok mixed Try.func23 hc (p_szClaim_1 v m) ?_
    simp only [All]
    repeat' (first | exact trivial | with_reducible apply And.intro)
    all_goals (first | omega | rfl | (intros; first | assumption | exact True.intro | rfl | exact absurd (show false = true by assumption) Bool.false_ne_true | ((repeat' (first | assumption | apply anda | apply notf)); done)) | (exact con_szGraph v.2.1 k.2.1 m (by omega) (by omega)) | (exact con_szTensegrity v.2.2.1 k.2.2.1 (f_szGraph v.2.1 m) (by omega) (by omega)) | (simp; omega))
  have l2 := le_szStepS v.2.2.2.1 (f_szTensegrity v.2.2.1 (f_szGraph v.2.1 m)) (by omega)
  by_cases g2 : (f_szStepS v.2.2.2.1 (f_szTensegrity v.2.2.1 (f_szGraph v.2.1 m))) < 0
  · rw [show f_szClaim v m = -1 by simp [f_szClaim, g0, g1, g2]]
    refine path_ok mixed Try.func23 hc (p_szClaim_2 v m) ?_
    simp only [All]
    repeat' (first | exact trivial | with_reducible apply And.intro)
    all_goals (first | omega | rfl | (intros; first | assumption | exact True.intro | rfl | exact absurd (show false = true by assumption) Bool.false_ne_true | ((repeat' (first | assumption | apply anda | apply notf)); done)) | (exact con_szGraph v.2.1 k.2.1 m (by omega) (by omega)) | (exact con_szTensegrity v.2.2.1 k.2.2.1 (f_szGraph v.2.1 m) (by omega) (by omega)) | (exact con_szStepS v.2.2.2.1 k.2.2.2.1 (f_szTensegrity v.2.2.1 (f_szGraph v.2.1 m)) (by omega) (by omega)) | (simp; omega))
  have l3 := le_szIntS v.2.2.2.2.1 (f_szStepS v.2.2.2.1 (f_szTensegrity v.2.2.1 (f_szGraph v.2.1 m))) (by omega)
  by_cases g3 : (f_szIntS v.2.2.2.2.1 (f_szStepS v.2.2.2.1 (f_szTensegrity v.2.2.1 (f_szGraph v.2.1 m)))) < 0
  · rw [show f_szClaim v m = -1 by simp [f_szClaim, g0, g1, g2, g3]]
    refine path_ok mixed Try.func23 hc (p_szClaim_3 v m) ?_
    simp only [All]
    repeat' (first | exact trivial | with_reducible apply And.intro)
    all_goals (first | omega | rfl | (intros; first | assumption | exact True.intro | rfl | exact absurd (show false = true by assumption) Bool.false_ne_true | ((repeat' (first | assumption | apply anda | apply notf)); done)) | (exact con_szGraph v.2.1 k.2.1 m (by omega) (by omega)) | (exact con_szTensegrity v.2.2.1 k.2.2.1 (f_szGraph v.2.1 m) (by omega) (by omega)) | (exact con_szStepS v.2.2.2.1 k.2.2.2.1 (f_szTensegrity v.2.2.1 (f_szGraph v.2.1 m)) (by omega) (by omega)) | (exact con_szIntS v.2.2.2.2.1 k.2.2.2.2.1 (f_szStepS v.2.2.2.1 (f_szTensegrity v.2.2.1 (f_szGraph v.2.1 m))) (by omega) (by omega)) | (simp; omega))
  rw [show f_szClaim v m = (f_szIntS v.2.2.2.2.1 (f_szStepS v.2.2.2.1 (f_szTensegrity v.2.2.1 (f_szGraph v.2.1 m)))) by simp [f_szClaim, g0, g1, g2, g3]]
  refine path_ok mixed Try.func23 hc (p_szClaim_e v m) ?_
  simp only [All]
  repeat' (first | exact trivial | with_reducible apply And.intro)
  all_goals (first | omega | rfl | (intros; first | assumption | exact True.intro | rfl | exact absurd (show false = true by assumption) Bool.false_ne_true | ((repeat' (first | assumption | apply anda | apply notf)); done)) | (exact con_szGraph v.2.1 k.2.1 m (by omega) (by omega)) | (exact con_szTensegrity v.2.2.1 k.2.2.1 (f_szGraph v.2.1 m) (by omega) (by omega)) | (exact con_szStepS v.2.2.2.1 k.2.2.2.1 (f_szTensegrity v.2.2.1 (f_szGraph v.2.1 m)) (by omega) (by omega)) | (exact con_szIntS v.2.2.2.2.1 k.2.2.2.2.1 (f_szStepS v.2.2.2.1 (f_szTensegrity v.2.2.1 (f_szGraph v.2.1 m))) (by omega) (by omega)) | (simp; omega))

theorem le_szClaim (v : T_Claim) (m : Int) (h0 : 0 ≤ m) : f_szClaim v m ≤ m := by
  have l0 := le_szGraph v.2.1 m h0
  by_cases g0 : (f_szGraph v.2.1 m) < 0
  · simp only [f_szClaim, g0, if_true, if_false]; omega
  have l1 := le_szTensegrity v.2.2.1 (f_szGraph v.2.1 m) (by omega)
  by_cases g1 : (f_szTensegrity v.2.2.1 (f_szGraph v.2.1 m)) < 0
  · simp only [f_szClaim, g0, g1, if_true, if_false]; omega
  have l2 := le_szStepS v.2.2.2.1 (f_szTensegrity v.2.2.1 (f_szGraph v.2.1 m)) (by omega)
  by_cases g2 : (f_szStepS v.2.2.2.1 (f_szTensegrity v.2.2.1 (f_szGraph v.2.1 m))) < 0
  · simp only [f_szClaim, g0, g1, g2, if_true, if_false]; omega
  have l3 := le_szIntS v.2.2.2.2.1 (f_szStepS v.2.2.2.1 (f_szTensegrity v.2.2.1 (f_szGraph v.2.1 m))) (by omega)
  by_cases g3 : (f_szIntS v.2.2.2.2.1 (f_szStepS v.2.2.2.1 (f_szTensegrity v.2.2.1 (f_szGraph v.2.1 m)))) < 0
  · simp only [f_szClaim, g0, g1, g2, g3, if_true, if_false]; omega
  simp only [f_szClaim, g0, g1, g2, g3, if_false]; omega

theorem sm_szClaim (v : T_Claim) (m : Int) (h0 : 0 ≤ m) (h1 : m ≤ 1048576) (h : ¬ f_szClaim v m < 0) : smS s_Claim v := by
  have l0 := le_szGraph v.2.1 m (by omega)
  have g0 : ¬ (f_szGraph v.2.1 m) < 0 := by
    intro g; apply h; simp only [f_szClaim, g, if_true, if_false]; omega
  have l1 := le_szTensegrity v.2.2.1 (f_szGraph v.2.1 m) (by omega)
  have g1 : ¬ (f_szTensegrity v.2.2.1 (f_szGraph v.2.1 m)) < 0 := by
    intro g; apply h; simp only [f_szClaim, g0, g, if_true, if_false]; omega
  have l2 := le_szStepS v.2.2.2.1 (f_szTensegrity v.2.2.1 (f_szGraph v.2.1 m)) (by omega)
  have g2 : ¬ (f_szStepS v.2.2.2.1 (f_szTensegrity v.2.2.1 (f_szGraph v.2.1 m))) < 0 := by
    intro g; apply h; simp only [f_szClaim, g0, g1, g, if_true, if_false]; omega
  have l3 := le_szIntS v.2.2.2.2.1 (f_szStepS v.2.2.2.1 (f_szTensegrity v.2.2.1 (f_szGraph v.2.1 m))) (by omega)
  have g3 : ¬ (f_szIntS v.2.2.2.2.1 (f_szStepS v.2.2.2.1 (f_szTensegrity v.2.2.1 (f_szGraph v.2.1 m)))) < 0 := by
    intro g; apply h; simp only [f_szClaim, g0, g1, g2, g, if_true, if_false]; omega
  exact ⟨by simp [smS, smL], sm_szGraph v.2.1 m (by omega) (by omega) g0, sm_szTensegrity v.2.2.1 (f_szGraph v.2.1 m) (by omega) (by omega) g1, sm_szStepS v.2.2.2.1 (f_szTensegrity v.2.2.1 (f_szGraph v.2.1 m)) (by omega) g2, sm_szIntS v.2.2.2.2.1 (f_szStepS v.2.2.2.1 (f_szTensegrity v.2.2.1 (f_szGraph v.2.1 m))) (by omega) g3, True.intro⟩

theorem con_toPlace (v : T_Place) (hs : smS s_Place v) : Con Try.prog 121 0 [] [.agg [.p (.int .i64 (v.1)), .p (.int .i64 (v.2.1))]] [] (.agg [.p (.int .i64 (v.1)), .p (.int .i64 (v.2.1))]) := by
  refine con_start Try.func121 rfl (by kernel_rfl) rfl (fun c hc => ?_)
  refine path_ok mixed Try.func121 hc (p_toPlace v) ?_
  simp only [All]
  repeat' (first | exact trivial | with_reducible apply And.intro)
  all_goals (first | omega | rfl | (intros; first | assumption | exact True.intro | rfl | exact absurd (show false = true by assumption) Bool.false_ne_true | ((repeat' (first | assumption | apply anda | apply notf)); done)) | (intro i hi; simp [hi, All]))

theorem con_toPlaceS (v : T_PlaceS) (hs : smS s_PlaceS v) : Con Try.prog 114 0 [] [.p (.seq true 2 (v.1) (fun i => [.int .i64 ((v.2 i).1), .int .i64 ((v.2 i).2.1)]))] [(0, ⟨false, 2, v.1, fun i => [.p (.int .i64 ((v.2 i).1)), .p (.int .i64 ((v.2 i).2.1))]⟩)] (.ar 2 0 0 (v.1)) := by
  refine con_start Try.func114 rfl (by kernel_rfl) rfl (fun c hc => ?_)
  have hn := hs.1
  have lp : ∀ m k, k + m = v.1 → Run Try.prog c 114 [.code (cAt (bodyOf Try.f114) [1, 1, 0, 1, 0, 0]), .inLoop (cAt (bodyOf Try.f114) [1, 1, 0, 1, 0, 0]), .inBlock 0, .code (cAt (bodyOf Try.f114) [1, 1, 1])] (S_toPlaceS v k) (Post c [(0, ⟨false, 2, v.1, fun i => [.p (.int .i64 ((v.2 i).1)), .p (.int .i64 ((v.2 i).2.1))]⟩)] (.ar 2 0 0 (v.1))) := by
    intro m
    induction m with
    | zero =>
      intro k hk
      refine path_ok mixed Try.func114 hc (p_toPlaceS_c v k) ?_
      simp only [All]
      repeat' (first | exact trivial | with_reducible apply And.intro)
      all_goals (first | omega | rfl | (intros; first | assumption | exact True.intro | rfl | exact absurd (show false = true by assumption) Bool.false_ne_true | ((repeat' (first | assumption | apply anda | apply notf)); done)) | (intro i hi; (have hik : i < k := by omega); simp [hik, All]) | (simp; try omega))
    | succ m ih =>
      intro k hk
      have hlt : decide ((k : Int) < (v.1 : Int)) = true := by simp; omega
      refine piece_ok mixed hc (p_toPlaceS_b v k) ?_ (ih (k + 1) (by omega))
      simp only [All]
      repeat' (first | exact trivial | with_reducible apply And.intro)
      all_goals (first | omega | rfl | (intros; first | assumption | exact True.intro | rfl | exact absurd (show false = true by assumption) Bool.false_ne_true | ((repeat' (first | assumption | apply anda | apply notf)); done)) | (exact con_toPlace (v.2 k) (hs.2 k (by omega))) | (intro i hi; by_cases h : i = k <;> simp [h, Nat.lt_succ_iff_lt_or_eq, cvtL, cvt, tg, tru, All]))
  refine piece_ok mixed hc (p_toPlaceS_a v) ?_ (lp v.1 0 (by omega))
  simp only [All]
  repeat' (first | exact trivial | with_reducible apply And.intro)
  all_goals (first | omega | rfl | (intros; first | assumption | exact True.intro | rfl | exact absurd (show false = true by assumption) Bool.false_ne_true | ((repeat' (first | assumption | apply anda | apply notf)); done)) | (intro i hi; simp [All]))

theorem con_toFramework (v : T_Framework) (hs : smS s_Framework v) : Con Try.prog 92 0 [] [.agg [.p (.int .i64 (v.1.1)), .p (.seq true 2 (v.1.2.1.1) (fun i => [.int .i64 ((v.1.2.1.2 i).1), .int .i64 ((v.1.2.1.2 i).2.1)])), .p (.seq true 2 (v.2.1.1) (fun i => [.int .i64 ((v.2.1.2 i).1), .int .i64 ((v.2.1.2 i).2.1)]))]] [(0, ⟨false, 2, v.1.2.1.1, fun i => [.p (.int .i64 ((v.1.2.1.2 i).1)), .p (.int .i64 ((v.1.2.1.2 i).2.1))]⟩), (1, ⟨false, 2, v.2.1.1, fun i => [.p (.int .i64 ((v.2.1.2 i).1)), .p (.int .i64 ((v.2.1.2 i).2.1))]⟩)] (.agg [.p (.int .i64 (v.1.1)), .ar 2 0 0 (v.1.2.1.1), .ar 2 1 0 (v.2.1.1)]) := by
  refine con_start Try.func92 rfl (by kernel_rfl) rfl (fun c hc => ?_)
  refine path_ok mixed Try.func92 hc (p_toFramework v) ?_
  simp only [All]
  repeat' (first | exact trivial | with_reducible apply And.intro)
  all_goals (first | omega | rfl | (intros; first | assumption | exact True.intro | rfl | exact absurd (show false = true by assumption) Bool.false_ne_true | ((repeat' (first | assumption | apply anda | apply notf)); done)) | (exact con_toGraph v.1 hs.1) | (exact con_toPlaceS v.2.1 hs.2.1) | (intro i hi; simp [hi, All]))

theorem con_toTensegrity (v : T_Tensegrity) (hs : smS s_Tensegrity v) : Con Try.prog 63 0 [] [.agg [.p (.int .i64 (v.1.1.1)), .p (.seq true 2 (v.1.1.2.1.1) (fun i => [.int .i64 ((v.1.1.2.1.2 i).1), .int .i64 ((v.1.1.2.1.2 i).2.1)])), .p (.seq true 2 (v.1.2.1.1) (fun i => [.int .i64 ((v.1.2.1.2 i).1), .int .i64 ((v.1.2.1.2 i).2.1)])), .p (.seq true 1 (v.2.1.1) (fun i => [.int .i64 ((v.2.1.2 i))]))]] [(0, ⟨false, 2, v.1.1.2.1.1, fun i => [.p (.int .i64 ((v.1.1.2.1.2 i).1)), .p (.int .i64 ((v.1.1.2.1.2 i).2.1))]⟩), (1, ⟨false, 2, v.1.2.1.1, fun i => [.p (.int .i64 ((v.1.2.1.2 i).1)), .p (.int .i64 ((v.1.2.1.2 i).2.1))]⟩), (2, ⟨false, 1, v.2.1.1, fun i => [.p (.int .i64 ((v.2.1.2 i)))]⟩)] (.agg [.p (.int .i64 (v.1.1.1)), .ar 2 0 0 (v.1.1.2.1.1), .ar 2 1 0 (v.1.2.1.1), .ar 1 2 0 (v.2.1.1)]) := by
  refine con_start Try.func63 rfl (by kernel_rfl) rfl (fun c hc => ?_)
  refine path_ok mixed Try.func63 hc (p_toTensegrity v) ?_
  simp only [All]
  repeat' (first | exact trivial | with_reducible apply And.intro)
  all_goals (first | omega | rfl | (intros; first | assumption | exact True.intro | rfl | exact absurd (show false = true by assumption) Bool.false_ne_true | ((repeat' (first | assumption | apply anda | apply notf)); done)) | (exact con_toFramework v.1 hs.1) | (exact con_toIntS v.2.1 hs.2.1) | (intro i hi; simp [hi, All]))

theorem con_toStep (v : T_Step) (hs : smS s_Step v) : Con Try.prog 93 0 [] [.agg [.p (.int .i64 (v.1)), .p (.int .i64 (v.2.1)), .p (.int .i64 (v.2.2.1)), .p (.int .i64 (v.2.2.2.1)), .p (.int .i64 (v.2.2.2.2.1))]] [] (.agg [.p (.int .i64 (v.1)), .p (.int .i64 (v.2.1)), .p (.int .i64 (v.2.2.1)), .p (.int .i64 (v.2.2.2.1)), .p (.int .i64 (v.2.2.2.2.1))]) := by
  refine con_start Try.func93 rfl (by kernel_rfl) rfl (fun c hc => ?_)
  refine path_ok mixed Try.func93 hc (p_toStep v) ?_
  simp only [All]
  repeat' (first | exact trivial | with_reducible apply And.intro)
  all_goals (first | omega | rfl | (intros; first | assumption | exact True.intro | rfl | exact absurd (show false = true by assumption) Bool.false_ne_true | ((repeat' (first | assumption | apply anda | apply notf)); done)) | (intro i hi; simp [hi, All]))

theorem con_toStepS (v : T_StepS) (hs : smS s_StepS v) : Con Try.prog 64 0 [] [.p (.seq true 5 (v.1) (fun i => [.int .i64 ((v.2 i).1), .int .i64 ((v.2 i).2.1), .int .i64 ((v.2 i).2.2.1), .int .i64 ((v.2 i).2.2.2.1), .int .i64 ((v.2 i).2.2.2.2.1)]))] [(0, ⟨false, 5, v.1, fun i => [.p (.int .i64 ((v.2 i).1)), .p (.int .i64 ((v.2 i).2.1)), .p (.int .i64 ((v.2 i).2.2.1)), .p (.int .i64 ((v.2 i).2.2.2.1)), .p (.int .i64 ((v.2 i).2.2.2.2.1))]⟩)] (.ar 5 0 0 (v.1)) := by
  refine con_start Try.func64 rfl (by kernel_rfl) rfl (fun c hc => ?_)
  have hn := hs.1
  have lp : ∀ m k, k + m = v.1 → Run Try.prog c 64 [.code (cAt (bodyOf Try.f64) [1, 1, 0, 1, 0, 0]), .inLoop (cAt (bodyOf Try.f64) [1, 1, 0, 1, 0, 0]), .inBlock 0, .code (cAt (bodyOf Try.f64) [1, 1, 1])] (S_toStepS v k) (Post c [(0, ⟨false, 5, v.1, fun i => [.p (.int .i64 ((v.2 i).1)), .p (.int .i64 ((v.2 i).2.1)), .p (.int .i64 ((v.2 i).2.2.1)), .p (.int .i64 ((v.2 i).2.2.2.1)), .p (.int .i64 ((v.2 i).2.2.2.2.1))]⟩)] (.ar 5 0 0 (v.1))) := by
    intro m
    induction m with
    | zero =>
      intro k hk
      refine path_ok mixed Try.func64 hc (p_toStepS_c v k) ?_
      simp only [All]
      repeat' (first | exact trivial | with_reducible apply And.intro)
      all_goals (first | omega | rfl | (intros; first | assumption | exact True.intro | rfl | exact absurd (show false = true by assumption) Bool.false_ne_true | ((repeat' (first | assumption | apply anda | apply notf)); done)) | (intro i hi; (have hik : i < k := by omega); simp [hik, All]) | (simp; try omega))
    | succ m ih =>
      intro k hk
      have hlt : decide ((k : Int) < (v.1 : Int)) = true := by simp; omega
      refine piece_ok mixed hc (p_toStepS_b v k) ?_ (ih (k + 1) (by omega))
      simp only [All]
      repeat' (first | exact trivial | with_reducible apply And.intro)
      all_goals (first | omega | rfl | (intros; first | assumption | exact True.intro | rfl | exact absurd (show false = true by assumption) Bool.false_ne_true | ((repeat' (first | assumption | apply anda | apply notf)); done)) | (exact con_toStep (v.2 k) (hs.2 k (by omega))) | (intro i hi; by_cases h : i = k <;> simp [h, Nat.lt_succ_iff_lt_or_eq, cvtL, cvt, tg, tru, All]))
  refine piece_ok mixed hc (p_toStepS_a v) ?_ (lp v.1 0 (by omega))
  simp only [All]
  repeat' (first | exact trivial | with_reducible apply And.intro)
  all_goals (first | omega | rfl | (intros; first | assumption | exact True.intro | rfl | exact absurd (show false = true by assumption) Bool.false_ne_true | ((repeat' (first | assumption | apply anda | apply notf)); done)) | (intro i hi; simp [All]))

theorem con_toClaim (v : T_Claim) (hs : smS s_Claim v) : Con Try.prog 25 0 [] [.agg [.p (.int .i64 (v.1)), .p (.int .i64 (v.2.1.1)), .p (.seq true 2 (v.2.1.2.1.1) (fun i => [.int .i64 ((v.2.1.2.1.2 i).1), .int .i64 ((v.2.1.2.1.2 i).2.1)])), .p (.int .i64 (v.2.2.1.1.1.1)), .p (.seq true 2 (v.2.2.1.1.1.2.1.1) (fun i => [.int .i64 ((v.2.2.1.1.1.2.1.2 i).1), .int .i64 ((v.2.2.1.1.1.2.1.2 i).2.1)])), .p (.seq true 2 (v.2.2.1.1.2.1.1) (fun i => [.int .i64 ((v.2.2.1.1.2.1.2 i).1), .int .i64 ((v.2.2.1.1.2.1.2 i).2.1)])), .p (.seq true 1 (v.2.2.1.2.1.1) (fun i => [.int .i64 ((v.2.2.1.2.1.2 i))])), .p (.seq true 5 (v.2.2.2.1.1) (fun i => [.int .i64 ((v.2.2.2.1.2 i).1), .int .i64 ((v.2.2.2.1.2 i).2.1), .int .i64 ((v.2.2.2.1.2 i).2.2.1), .int .i64 ((v.2.2.2.1.2 i).2.2.2.1), .int .i64 ((v.2.2.2.1.2 i).2.2.2.2.1)])), .p (.seq true 1 (v.2.2.2.2.1.1) (fun i => [.int .i64 ((v.2.2.2.2.1.2 i))]))]] [(0, ⟨false, 2, v.2.1.2.1.1, fun i => [.p (.int .i64 ((v.2.1.2.1.2 i).1)), .p (.int .i64 ((v.2.1.2.1.2 i).2.1))]⟩), (1, ⟨false, 2, v.2.2.1.1.1.2.1.1, fun i => [.p (.int .i64 ((v.2.2.1.1.1.2.1.2 i).1)), .p (.int .i64 ((v.2.2.1.1.1.2.1.2 i).2.1))]⟩), (2, ⟨false, 2, v.2.2.1.1.2.1.1, fun i => [.p (.int .i64 ((v.2.2.1.1.2.1.2 i).1)), .p (.int .i64 ((v.2.2.1.1.2.1.2 i).2.1))]⟩), (3, ⟨false, 1, v.2.2.1.2.1.1, fun i => [.p (.int .i64 ((v.2.2.1.2.1.2 i)))]⟩), (4, ⟨false, 5, v.2.2.2.1.1, fun i => [.p (.int .i64 ((v.2.2.2.1.2 i).1)), .p (.int .i64 ((v.2.2.2.1.2 i).2.1)), .p (.int .i64 ((v.2.2.2.1.2 i).2.2.1)), .p (.int .i64 ((v.2.2.2.1.2 i).2.2.2.1)), .p (.int .i64 ((v.2.2.2.1.2 i).2.2.2.2.1))]⟩), (5, ⟨false, 1, v.2.2.2.2.1.1, fun i => [.p (.int .i64 ((v.2.2.2.2.1.2 i)))]⟩)] (.agg [.p (.int .i64 (v.1)), .p (.int .i64 (v.2.1.1)), .ar 2 0 0 (v.2.1.2.1.1), .p (.int .i64 (v.2.2.1.1.1.1)), .ar 2 1 0 (v.2.2.1.1.1.2.1.1), .ar 2 2 0 (v.2.2.1.1.2.1.1), .ar 1 3 0 (v.2.2.1.2.1.1), .ar 5 4 0 (v.2.2.2.1.1), .ar 1 5 0 (v.2.2.2.2.1.1)]) := by
  refine con_start Try.func25 rfl (by kernel_rfl) rfl (fun c hc => ?_)
  refine path_ok mixed Try.func25 hc (p_toClaim v) ?_
  simp only [All]
  repeat' (first | exact trivial | with_reducible apply And.intro)
  all_goals (first | omega | rfl | (intros; first | assumption | exact True.intro | rfl | exact absurd (show false = true by assumption) Bool.false_ne_true | ((repeat' (first | assumption | apply anda | apply notf)); done)) | (exact con_toGraph v.2.1 hs.2.1) | (exact con_toTensegrity v.2.2.1 hs.2.2.1) | (exact con_toStepS v.2.2.2.1 hs.2.2.2.1) | (exact con_toIntS v.2.2.2.2.1 hs.2.2.2.2.1) | (intro i hi; simp [hi, All]))

theorem con_eqPlace (v : T_Place) (hs : smS s_Place v) : Con Try.prog 122 0 [] [.agg [.p (.int .i64 (v.1)), .p (.int .i64 (v.2.1))], .agg [.p (.int .i64 (v.1)), .p (.int .i64 (v.2.1))]] [] (.p (.bool true)) := by
  refine con_start Try.func122 rfl (by kernel_rfl) rfl (fun c hc => ?_)
  refine path_ok mixed Try.func122 hc (p_eqPlace v) ?_
  simp only [All]
  repeat' (first | exact trivial | with_reducible apply And.intro)
  all_goals (first | omega | rfl | (intros; first | assumption | exact True.intro | rfl | exact absurd (show false = true by assumption) Bool.false_ne_true | ((repeat' (first | assumption | apply anda | apply notf)); done)) | simp)

theorem con_eqPlaceS (v : T_PlaceS) (hs : smS s_PlaceS v) : Con Try.prog 115 0 [] [.p (.seq true 2 (v.1) (fun i => [.int .i64 ((v.2 i).1), .int .i64 ((v.2 i).2.1)])), .p (.seq true 2 (v.1) (fun i => [.int .i64 ((v.2 i).1), .int .i64 ((v.2 i).2.1)]))] [] (.p (.bool true)) := by
  refine con_start Try.func115 rfl (by kernel_rfl) rfl (fun c hc => ?_)
  have hn := hs.1
  have lp : ∀ m k, k + m = v.1 → Run Try.prog c 115 [.code (cAt (bodyOf Try.f115) [1, 1, 0, 1, 0, 0]), .inLoop (cAt (bodyOf Try.f115) [1, 1, 0, 1, 0, 0]), .inBlock 0, .code (cAt (bodyOf Try.f115) [1, 1, 1])] (S_eqPlaceS v k) (Post c [] (.p (.bool true))) := by
    intro m
    induction m with
    | zero =>
      intro k hk
      refine path_ok mixed Try.func115 hc (p_eqPlaceS_c v k) ?_
      simp only [All]
      repeat' (first | exact trivial | with_reducible apply And.intro)
      all_goals (first | omega | rfl | (intros; first | assumption | exact True.intro | rfl | exact absurd (show false = true by assumption) Bool.false_ne_true | ((repeat' (first | assumption | apply anda | apply notf)); done)) | (simp; try omega))
    | succ m ih =>
      intro k hk
      have hlt : decide ((k : Int) < (v.1 : Int)) = true := by simp; omega
      refine piece_ok mixed hc (p_eqPlaceS_b v k) ?_ (ih (k + 1) (by omega))
      simp only [All]
      repeat' (first | exact trivial | with_reducible apply And.intro)
      all_goals (first | omega | rfl | (intros; first | assumption | exact True.intro | rfl | exact absurd (show false = true by assumption) Bool.false_ne_true | ((repeat' (first | assumption | apply anda | apply notf)); done)) | (exact con_eqPlace (v.2 k) (hs.2 k (by omega))) | simp)
  refine piece_ok mixed hc (p_eqPlaceS_a v) ?_ (lp v.1 0 (by omega))
  simp only [All]
  repeat' (first | exact trivial | with_reducible apply And.intro)
  all_goals (first | omega | rfl | (intros; first | assumption | exact True.intro | rfl | exact absurd (show false = true by assumption) Bool.false_ne_true | ((repeat' (first | assumption | apply anda | apply notf)); done)) | simp)

theorem con_eqFramework (v : T_Framework) (hs : smS s_Framework v) : Con Try.prog 96 0 [] [.agg [.p (.int .i64 (v.1.1)), .p (.seq true 2 (v.1.2.1.1) (fun i => [.int .i64 ((v.1.2.1.2 i).1), .int .i64 ((v.1.2.1.2 i).2.1)])), .p (.seq true 2 (v.2.1.1) (fun i => [.int .i64 ((v.2.1.2 i).1), .int .i64 ((v.2.1.2 i).2.1)]))], .agg [.p (.int .i64 (v.1.1)), .p (.seq true 2 (v.1.2.1.1) (fun i => [.int .i64 ((v.1.2.1.2 i).1), .int .i64 ((v.1.2.1.2 i).2.1)])), .p (.seq true 2 (v.2.1.1) (fun i => [.int .i64 ((v.2.1.2 i).1), .int .i64 ((v.2.1.2 i).2.1)]))]] [] (.p (.bool true)) := by
  refine con_start Try.func96 rfl (by kernel_rfl) rfl (fun c hc => ?_)
  refine path_ok mixed Try.func96 hc (p_eqFramework v) ?_
  simp only [All]
  repeat' (first | exact trivial | with_reducible apply And.intro)
  all_goals (first | omega | rfl | (intros; first | assumption | exact True.intro | rfl | exact absurd (show false = true by assumption) Bool.false_ne_true | ((repeat' (first | assumption | apply anda | apply notf)); done)) | (exact con_eqGraph v.1 hs.1) | (exact con_eqPlaceS v.2.1 hs.2.1) | simp)

theorem con_eqTensegrity (v : T_Tensegrity) (hs : smS s_Tensegrity v) : Con Try.prog 67 0 [] [.agg [.p (.int .i64 (v.1.1.1)), .p (.seq true 2 (v.1.1.2.1.1) (fun i => [.int .i64 ((v.1.1.2.1.2 i).1), .int .i64 ((v.1.1.2.1.2 i).2.1)])), .p (.seq true 2 (v.1.2.1.1) (fun i => [.int .i64 ((v.1.2.1.2 i).1), .int .i64 ((v.1.2.1.2 i).2.1)])), .p (.seq true 1 (v.2.1.1) (fun i => [.int .i64 ((v.2.1.2 i))]))], .agg [.p (.int .i64 (v.1.1.1)), .p (.seq true 2 (v.1.1.2.1.1) (fun i => [.int .i64 ((v.1.1.2.1.2 i).1), .int .i64 ((v.1.1.2.1.2 i).2.1)])), .p (.seq true 2 (v.1.2.1.1) (fun i => [.int .i64 ((v.1.2.1.2 i).1), .int .i64 ((v.1.2.1.2 i).2.1)])), .p (.seq true 1 (v.2.1.1) (fun i => [.int .i64 ((v.2.1.2 i))]))]] [] (.p (.bool true)) := by
  refine con_start Try.func67 rfl (by kernel_rfl) rfl (fun c hc => ?_)
  refine path_ok mixed Try.func67 hc (p_eqTensegrity v) ?_
  simp only [All]
  repeat' (first | exact trivial | with_reducible apply And.intro)
  all_goals (first | omega | rfl | (intros; first | assumption | exact True.intro | rfl | exact absurd (show false = true by assumption) Bool.false_ne_true | ((repeat' (first | assumption | apply anda | apply notf)); done)) | (exact con_eqFramework v.1 hs.1) | (exact con_eqIntS v.2.1 hs.2.1) | simp)

theorem con_eqStep (v : T_Step) (hs : smS s_Step v) : Con Try.prog 97 0 [] [.agg [.p (.int .i64 (v.1)), .p (.int .i64 (v.2.1)), .p (.int .i64 (v.2.2.1)), .p (.int .i64 (v.2.2.2.1)), .p (.int .i64 (v.2.2.2.2.1))], .agg [.p (.int .i64 (v.1)), .p (.int .i64 (v.2.1)), .p (.int .i64 (v.2.2.1)), .p (.int .i64 (v.2.2.2.1)), .p (.int .i64 (v.2.2.2.2.1))]] [] (.p (.bool true)) := by
  refine con_start Try.func97 rfl (by kernel_rfl) rfl (fun c hc => ?_)
  refine path_ok mixed Try.func97 hc (p_eqStep v) ?_
  simp only [All]
  repeat' (first | exact trivial | with_reducible apply And.intro)
  all_goals (first | omega | rfl | (intros; first | assumption | exact True.intro | rfl | exact absurd (show false = true by assumption) Bool.false_ne_true | ((repeat' (first | assumption | apply anda | apply notf)); done)) | simp)

theorem con_eqStepS (v : T_StepS) (hs : smS s_StepS v) : Con Try.prog 68 0 [] [.p (.seq true 5 (v.1) (fun i => [.int .i64 ((v.2 i).1), .int .i64 ((v.2 i).2.1), .int .i64 ((v.2 i).2.2.1), .int .i64 ((v.2 i).2.2.2.1), .int .i64 ((v.2 i).2.2.2.2.1)])), .p (.seq true 5 (v.1) (fun i => [.int .i64 ((v.2 i).1), .int .i64 ((v.2 i).2.1), .int .i64 ((v.2 i).2.2.1), .int .i64 ((v.2 i).2.2.2.1), .int .i64 ((v.2 i).2.2.2.2.1)]))] [] (.p (.bool true)) := by
  refine con_start Try.func68 rfl (by kernel_rfl) rfl (fun c hc => ?_)
  have hn := hs.1
  have lp : ∀ m k, k + m = v.1 → Run Try.prog c 68 [.code (cAt (bodyOf Try.f68) [1, 1, 0, 1, 0, 0]), .inLoop (cAt (bodyOf Try.f68) [1, 1, 0, 1, 0, 0]), .inBlock 0, .code (cAt (bodyOf Try.f68) [1, 1, 1])] (S_eqStepS v k) (Post c [] (.p (.bool true))) := by
    intro m
    induction m with
    | zero =>
      intro k hk
      refine path_ok mixed Try.func68 hc (p_eqStepS_c v k) ?_
      simp only [All]
      repeat' (first | exact trivial | with_reducible apply And.intro)
      all_goals (first | omega | rfl | (intros; first | assumption | exact True.intro | rfl | exact absurd (show false = true by assumption) Bool.false_ne_true | ((repeat' (first | assumption | apply anda | apply notf)); done)) | (simp; try omega))
    | succ m ih =>
      intro k hk
      have hlt : decide ((k : Int) < (v.1 : Int)) = true := by simp; omega
      refine piece_ok mixed hc (p_eqStepS_b v k) ?_ (ih (k + 1) (by omega))
      simp only [All]
      repeat' (first | exact trivial | with_reducible apply And.intro)
      all_goals (first | omega | rfl | (intros; first | assumption | exact True.intro | rfl | exact absurd (show false = true by assumption) Bool.false_ne_true | ((repeat' (first | assumption | apply anda | apply notf)); done)) | (exact con_eqStep (v.2 k) (hs.2 k (by omega))) | simp)
  refine piece_ok mixed hc (p_eqStepS_a v) ?_ (lp v.1 0 (by omega))
  simp only [All]
  repeat' (first | exact trivial | with_reducible apply And.intro)
  all_goals (first | omega | rfl | (intros; first | assumption | exact True.intro | rfl | exact absurd (show false = true by assumption) Bool.false_ne_true | ((repeat' (first | assumption | apply anda | apply notf)); done)) | simp)

theorem con_eqClaim (v : T_Claim) (hs : smS s_Claim v) : Con Try.prog 27 0 [] [.agg [.p (.int .i64 (v.1)), .p (.int .i64 (v.2.1.1)), .p (.seq true 2 (v.2.1.2.1.1) (fun i => [.int .i64 ((v.2.1.2.1.2 i).1), .int .i64 ((v.2.1.2.1.2 i).2.1)])), .p (.int .i64 (v.2.2.1.1.1.1)), .p (.seq true 2 (v.2.2.1.1.1.2.1.1) (fun i => [.int .i64 ((v.2.2.1.1.1.2.1.2 i).1), .int .i64 ((v.2.2.1.1.1.2.1.2 i).2.1)])), .p (.seq true 2 (v.2.2.1.1.2.1.1) (fun i => [.int .i64 ((v.2.2.1.1.2.1.2 i).1), .int .i64 ((v.2.2.1.1.2.1.2 i).2.1)])), .p (.seq true 1 (v.2.2.1.2.1.1) (fun i => [.int .i64 ((v.2.2.1.2.1.2 i))])), .p (.seq true 5 (v.2.2.2.1.1) (fun i => [.int .i64 ((v.2.2.2.1.2 i).1), .int .i64 ((v.2.2.2.1.2 i).2.1), .int .i64 ((v.2.2.2.1.2 i).2.2.1), .int .i64 ((v.2.2.2.1.2 i).2.2.2.1), .int .i64 ((v.2.2.2.1.2 i).2.2.2.2.1)])), .p (.seq true 1 (v.2.2.2.2.1.1) (fun i => [.int .i64 ((v.2.2.2.2.1.2 i))]))], .agg [.p (.int .i64 (v.1)), .p (.int .i64 (v.2.1.1)), .p (.seq true 2 (v.2.1.2.1.1) (fun i => [.int .i64 ((v.2.1.2.1.2 i).1), .int .i64 ((v.2.1.2.1.2 i).2.1)])), .p (.int .i64 (v.2.2.1.1.1.1)), .p (.seq true 2 (v.2.2.1.1.1.2.1.1) (fun i => [.int .i64 ((v.2.2.1.1.1.2.1.2 i).1), .int .i64 ((v.2.2.1.1.1.2.1.2 i).2.1)])), .p (.seq true 2 (v.2.2.1.1.2.1.1) (fun i => [.int .i64 ((v.2.2.1.1.2.1.2 i).1), .int .i64 ((v.2.2.1.1.2.1.2 i).2.1)])), .p (.seq true 1 (v.2.2.1.2.1.1) (fun i => [.int .i64 ((v.2.2.1.2.1.2 i))])), .p (.seq true 5 (v.2.2.2.1.1) (fun i => [.int .i64 ((v.2.2.2.1.2 i).1), .int .i64 ((v.2.2.2.1.2 i).2.1), .int .i64 ((v.2.2.2.1.2 i).2.2.1), .int .i64 ((v.2.2.2.1.2 i).2.2.2.1), .int .i64 ((v.2.2.2.1.2 i).2.2.2.2.1)])), .p (.seq true 1 (v.2.2.2.2.1.1) (fun i => [.int .i64 ((v.2.2.2.2.1.2 i))]))]] [] (.p (.bool true)) := by
  refine con_start Try.func27 rfl (by kernel_rfl) rfl (fun c hc => ?_)
  refine path_ok mixed Try.func27 hc (p_eqClaim v) ?_
  simp only [All]
  repeat' (first | exact trivial | with_reducible apply And.intro)
  all_goals (first | omega | rfl | (intros; first | assumption | exact True.intro | rfl | exact absurd (show false = true by assumption) Bool.false_ne_true | ((repeat' (first | assumption | apply anda | apply notf)); done)) | (exact con_eqGraph v.2.1 hs.2.1) | (exact con_eqTensegrity v.2.2.1 hs.2.2.1) | (exact con_eqStepS v.2.2.2.1 hs.2.2.2.1) | (exact con_eqIntS v.2.2.2.2.1 hs.2.2.2.2.1) | simp)

theorem qT_PlaceS_bad (g h : Nat → T_Place) (k : Nat) (e : q1_PlaceS (g k) (h k) = false) : ∀ n, k < n → qT_PlaceS g h n = false
  | 0, h' => by omega
  | n + 1, h' => by
    by_cases e' : k = n
    · subst e'; simp [qT_PlaceS, e]
    · simp [qT_PlaceS, qT_PlaceS_bad g h k e n (by omega)]

theorem con_sePlaceS (v u : T_PlaceS) (hv : v.1 ≤ 1048576) : Con Try.prog 94 0 [] [.p (.seq true 2 (v.1) (fun i => [.int .i64 ((v.2 i).1), .int .i64 ((v.2 i).2.1)])), .p (.seq true 2 (u.1) (fun i => [.int .i64 ((u.2 i).1), .int .i64 ((u.2 i).2.1)]))] [] (.p (.bool (q_PlaceS v u))) := by
  refine con_start Try.func94 rfl (by kernel_rfl) rfl (fun c hc => ?_)
  by_cases hz : v.1 = u.1
  · rw [show q_PlaceS v u = qT_PlaceS v.2 u.2 v.1 by simp [q_PlaceS, hz]]
    have lp : ∀ m k, k + m = v.1 → qT_PlaceS v.2 u.2 k = true → Run Try.prog c 94 [.code (cAt (bodyOf Try.f94) [1, 1, 0, 1, 0, 0]), .inLoop (cAt (bodyOf Try.f94) [1, 1, 0, 1, 0, 0]), .inBlock 0, .code (cAt (bodyOf Try.f94) [1, 1, 1])] (S_sePlaceS v u k) (Post c [] (.p (.bool (qT_PlaceS v.2 u.2 v.1)))) := by
      intro m
      induction m with
      | zero =>
        intro k hk hg
        rw [show qT_PlaceS v.2 u.2 v.1 = true by rw [show v.1 = k by omega]; exact hg]
        have hd : decide ((k : Int) < (v.1 : Int)) = false := by simp; omega
        refine path_ok mixed Try.func94 hc (p_sePlaceS_d v u k) ?_
        simp only [All]
        repeat' (first | exact trivial | with_reducible apply And.intro)
        all_goals (first | omega | rfl | (intros; first | assumption | exact True.intro | rfl | exact absurd (show false = true by assumption) Bool.false_ne_true | ((repeat' (first | assumption | apply anda | apply notf)); done)))
      | succ m ih =>
        intro k hk hg
        have hd : decide ((k : Int) < (v.1 : Int)) = true := by simp; omega
        cases he : q1_PlaceS (v.2 k) (u.2 k) with
        | false =>
          rw [qT_PlaceS_bad _ _ k he v.1 (by omega)]
          have he' : (!q1_PlaceS (v.2 k) (u.2 k)) = true := notf he
          refine path_ok mixed Try.func94 hc (p_sePlaceS_c v u k) ?_
          simp only [All]
          repeat' (first | exact trivial | with_reducible apply And.intro)
          all_goals (first | omega | rfl | (intros; first | assumption | exact True.intro | rfl | exact absurd (show false = true by assumption) Bool.false_ne_true | ((repeat' (first | assumption | apply anda | apply notf)); done)) | exact he')
        | true =>
          have he' : (!q1_PlaceS (v.2 k) (u.2 k)) = false := nott he
          refine piece_ok mixed hc (p_sePlaceS_b v u k) ?_ (ih (k + 1) (by omega) (by simp [qT_PlaceS, hg, he]))
          simp only [All]
          repeat' (first | exact trivial | with_reducible apply And.intro)
          all_goals (first | omega | rfl | (intros; first | assumption | exact True.intro | rfl | exact absurd (show false = true by assumption) Bool.false_ne_true | ((repeat' (first | assumption | apply anda | apply notf)); done)) | exact he')
    refine piece_ok mixed hc (p_sePlaceS_a v u) ?_ (lp v.1 0 (by omega) rfl)
    simp only [All]
    repeat' (first | exact trivial | with_reducible apply And.intro)
    all_goals (first | omega | rfl | (intros; first | assumption | exact True.intro | rfl | exact absurd (show false = true by assumption) Bool.false_ne_true | ((repeat' (first | assumption | apply anda | apply notf)); done)) | (simp; omega))
  · rw [show q_PlaceS v u = false by simp [q_PlaceS, hz]]
    refine path_ok mixed Try.func94 hc (p_sePlaceS_z v u) ?_
    simp only [All]
    repeat' (first | exact trivial | with_reducible apply And.intro)
    all_goals (first | omega | rfl | (intros; first | assumption | exact True.intro | rfl | exact absurd (show false = true by assumption) Bool.false_ne_true | ((repeat' (first | assumption | apply anda | apply notf)); done)) | (simp; omega))

theorem qT_StepS_bad (g h : Nat → T_Step) (k : Nat) (e : q1_StepS (g k) (h k) = false) : ∀ n, k < n → qT_StepS g h n = false
  | 0, h' => by omega
  | n + 1, h' => by
    by_cases e' : k = n
    · subst e'; simp [qT_StepS, e]
    · simp [qT_StepS, qT_StepS_bad g h k e n (by omega)]

theorem con_seStepS (v u : T_StepS) (hv : v.1 ≤ 1048576) : Con Try.prog 95 0 [] [.p (.seq true 5 (v.1) (fun i => [.int .i64 ((v.2 i).1), .int .i64 ((v.2 i).2.1), .int .i64 ((v.2 i).2.2.1), .int .i64 ((v.2 i).2.2.2.1), .int .i64 ((v.2 i).2.2.2.2.1)])), .p (.seq true 5 (u.1) (fun i => [.int .i64 ((u.2 i).1), .int .i64 ((u.2 i).2.1), .int .i64 ((u.2 i).2.2.1), .int .i64 ((u.2 i).2.2.2.1), .int .i64 ((u.2 i).2.2.2.2.1)]))] [] (.p (.bool (q_StepS v u))) := by
  refine con_start Try.func95 rfl (by kernel_rfl) rfl (fun c hc => ?_)
  by_cases hz : v.1 = u.1
  · rw [show q_StepS v u = qT_StepS v.2 u.2 v.1 by simp [q_StepS, hz]]
    have lp : ∀ m k, k + m = v.1 → qT_StepS v.2 u.2 k = true → Run Try.prog c 95 [.code (cAt (bodyOf Try.f95) [1, 1, 0, 1, 0, 0]), .inLoop (cAt (bodyOf Try.f95) [1, 1, 0, 1, 0, 0]), .inBlock 0, .code (cAt (bodyOf Try.f95) [1, 1, 1])] (S_seStepS v u k) (Post c [] (.p (.bool (qT_StepS v.2 u.2 v.1)))) := by
      intro m
      induction m with
      | zero =>
        intro k hk hg
        rw [show qT_StepS v.2 u.2 v.1 = true by rw [show v.1 = k by omega]; exact hg]
        have hd : decide ((k : Int) < (v.1 : Int)) = false := by simp; omega
        refine path_ok mixed Try.func95 hc (p_seStepS_d v u k) ?_
        simp only [All]
        repeat' (first | exact trivial | with_reducible apply And.intro)
        all_goals (first | omega | rfl | (intros; first | assumption | exact True.intro | rfl | exact absurd (show false = true by assumption) Bool.false_ne_true | ((repeat' (first | assumption | apply anda | apply notf)); done)))
      | succ m ih =>
        intro k hk hg
        have hd : decide ((k : Int) < (v.1 : Int)) = true := by simp; omega
        cases he : q1_StepS (v.2 k) (u.2 k) with
        | false =>
          rw [qT_StepS_bad _ _ k he v.1 (by omega)]
          have he' : (!q1_StepS (v.2 k) (u.2 k)) = true := notf he
          refine path_ok mixed Try.func95 hc (p_seStepS_c v u k) ?_
          simp only [All]
          repeat' (first | exact trivial | with_reducible apply And.intro)
          all_goals (first | omega | rfl | (intros; first | assumption | exact True.intro | rfl | exact absurd (show false = true by assumption) Bool.false_ne_true | ((repeat' (first | assumption | apply anda | apply notf)); done)) | exact he')
        | true =>
          have he' : (!q1_StepS (v.2 k) (u.2 k)) = false := nott he
          refine piece_ok mixed hc (p_seStepS_b v u k) ?_ (ih (k + 1) (by omega) (by simp [qT_StepS, hg, he]))
          simp only [All]
          repeat' (first | exact trivial | with_reducible apply And.intro)
          all_goals (first | omega | rfl | (intros; first | assumption | exact True.intro | rfl | exact absurd (show false = true by assumption) Bool.false_ne_true | ((repeat' (first | assumption | apply anda | apply notf)); done)) | exact he')
    refine piece_ok mixed hc (p_seStepS_a v u) ?_ (lp v.1 0 (by omega) rfl)
    simp only [All]
    repeat' (first | exact trivial | with_reducible apply And.intro)
    all_goals (first | omega | rfl | (intros; first | assumption | exact True.intro | rfl | exact absurd (show false = true by assumption) Bool.false_ne_true | ((repeat' (first | assumption | apply anda | apply notf)); done)) | (simp; omega))
  · rw [show q_StepS v u = false by simp [q_StepS, hz]]
    refine path_ok mixed Try.func95 hc (p_seStepS_z v u) ?_
    simp only [All]
    repeat' (first | exact trivial | with_reducible apply And.intro)
    all_goals (first | omega | rfl | (intros; first | assumption | exact True.intro | rfl | exact absurd (show false = true by assumption) Bool.false_ne_true | ((repeat' (first | assumption | apply anda | apply notf)); done)) | (simp; omega))

theorem con_ls_AreSameSteps_StepS (v u : T_StepS) (hv : v.1 ≤ 1048576) : Con Try.prog 62 0 [] [.p (.seq true 5 (v.1) (fun i => [.int .i64 ((v.2 i).1), .int .i64 ((v.2 i).2.1), .int .i64 ((v.2 i).2.2.1), .int .i64 ((v.2 i).2.2.2.1), .int .i64 ((v.2 i).2.2.2.2.1)])), .p (.seq true 5 (u.1) (fun i => [.int .i64 ((u.2 i).1), .int .i64 ((u.2 i).2.1), .int .i64 ((u.2 i).2.2.1), .int .i64 ((u.2 i).2.2.2.1), .int .i64 ((u.2 i).2.2.2.2.1)]))] [] (.p (.bool (q_StepS v u))) := by
  refine con_start Try.func62 rfl (by kernel_rfl) rfl (fun c hc => ?_)
  by_cases hz : v.1 = u.1
  · rw [show q_StepS v u = qT_StepS v.2 u.2 v.1 by simp [q_StepS, hz]]
    have lp : ∀ m k, k + m = v.1 → qT_StepS v.2 u.2 k = true → Run Try.prog c 62 [.code (cAt (bodyOf Try.f62) [1, 1, 0, 1, 0, 0]), .inLoop (cAt (bodyOf Try.f62) [1, 1, 0, 1, 0, 0]), .inBlock 0, .code (cAt (bodyOf Try.f62) [1, 1, 1])] (S_ls_AreSameSteps_StepS v u k) (Post c [] (.p (.bool (qT_StepS v.2 u.2 v.1)))) := by
      intro m
      induction m with
      | zero =>
        intro k hk hg
        rw [show qT_StepS v.2 u.2 v.1 = true by rw [show v.1 = k by omega]; exact hg]
        have hd : decide ((k : Int) < (v.1 : Int)) = false := by simp; omega
        refine path_ok mixed Try.func62 hc (p_ls_AreSameSteps_StepS_d v u k) ?_
        simp only [All]
        repeat' (first | exact trivial | with_reducible apply And.intro)
        all_goals (first | omega | rfl | (intros; first | assumption | exact True.intro | rfl | exact absurd (show false = true by assumption) Bool.false_ne_true | ((repeat' (first | assumption | apply anda | apply notf)); done)))
      | succ m ih =>
        intro k hk hg
        have hd : decide ((k : Int) < (v.1 : Int)) = true := by simp; omega
        cases he : q1_StepS (v.2 k) (u.2 k) with
        | false =>
          rw [qT_StepS_bad _ _ k he v.1 (by omega)]
          have he' : (!q1_StepS (v.2 k) (u.2 k)) = true := notf he
          refine path_ok mixed Try.func62 hc (p_ls_AreSameSteps_StepS_c v u k) ?_
          simp only [All]
          repeat' (first | exact trivial | with_reducible apply And.intro)
          all_goals (first | omega | rfl | (intros; first | assumption | exact True.intro | rfl | exact absurd (show false = true by assumption) Bool.false_ne_true | ((repeat' (first | assumption | apply anda | apply notf)); done)) | exact he')
        | true =>
          have he' : (!q1_StepS (v.2 k) (u.2 k)) = false := nott he
          refine piece_ok mixed hc (p_ls_AreSameSteps_StepS_b v u k) ?_ (ih (k + 1) (by omega) (by simp [qT_StepS, hg, he]))
          simp only [All]
          repeat' (first | exact trivial | with_reducible apply And.intro)
          all_goals (first | omega | rfl | (intros; first | assumption | exact True.intro | rfl | exact absurd (show false = true by assumption) Bool.false_ne_true | ((repeat' (first | assumption | apply anda | apply notf)); done)) | exact he')
    refine piece_ok mixed hc (p_ls_AreSameSteps_StepS_a v u) ?_ (lp v.1 0 (by omega) rfl)
    simp only [All]
    repeat' (first | exact trivial | with_reducible apply And.intro)
    all_goals (first | omega | rfl | (intros; first | assumption | exact True.intro | rfl | exact absurd (show false = true by assumption) Bool.false_ne_true | ((repeat' (first | assumption | apply anda | apply notf)); done)) | (simp; omega))
  · rw [show q_StepS v u = false by simp [q_StepS, hz]]
    refine path_ok mixed Try.func62 hc (p_ls_AreSameSteps_StepS_z v u) ?_
    simp only [All]
    repeat' (first | exact trivial | with_reducible apply And.intro)
    all_goals (first | omega | rfl | (intros; first | assumption | exact True.intro | rfl | exact absurd (show false = true by assumption) Bool.false_ne_true | ((repeat' (first | assumption | apply anda | apply notf)); done)) | (simp; omega))

end Go.Proofs.Ytgddbgmnehkblab.Mach
