/- The law FnExactSwitchGains as a contract: it answers true. Written by our own lawtop2.py. Conditions: lengths that values can have. -/
import Derived.Test.YtgddbgmnehkblaaSwitch
namespace Go.Proofs.Ytgddbgmnehkblaa.Mach
open Go
set_option linter.unusedVariables false
set_option linter.unusedSimpArgs false

theorem p_FnExactSwitchGains_0 (v0 : T_GainGraph) (v1 : Int) (v2 : Int) (v3 : Int) :
    pathOb Try.prog Try.f7 0 [.reg [oT, oT], .reg [oT], .reg [oT, oT, ⟨true, (some ⟨[], [], 1, [], .p (.int .i64 (f_szGainGraph v0 1048576))⟩)⟩, oT], .reg [oT, oT], .dec true, .reg [oT]] [.code (bodyOf Try.f7)] (start Try.f7 [] 0 [.agg [.p (.int .i64 (v0.1)), .p (.seq true 4 (v0.2.1.1) (fun i => [.int .i64 ((v0.2.1.2 i).1), .int .i64 ((v0.2.1.2 i).2.1), .int .i64 ((v0.2.1.2 i).2.2.1), .int .i64 ((v0.2.1.2 i).2.2.2.1)]))], .p (.int .i64 (v1)), .p (.int .i64 (v2)), .p (.int .i64 (v3))]) [] 1 [] (.p (.bool true)) =
    some [((0 : Nat) < 1),
  Con (Try.prog) 16 0 [] [.agg [.p (.int .i64 (v0.fst)), .p (.seq true 4 (v0.snd.fst.fst) (fun i => [.int .i64 ((v0.snd.fst.snd i).fst), .int .i64 ((v0.snd.fst.snd i).snd.fst), .int .i64 ((v0.snd.fst.snd i).snd.snd.fst), .int .i64 ((v0.snd.fst.snd i).snd.snd.snd.fst)]))], .p (.int .i64 1048576)] [] (.p (.int .i64 (f_szGainGraph v0 1048576))),
  ((decide (f_szGainGraph v0 1048576 < 0)) = true),
  (true = true)] := by kernel_rfl
theorem p_FnExactSwitchGains_e (v0 : T_GainGraph) (v1 : Int) (v2 : Int) (v3 : Int) :
    pathOb Try.prog Try.f7 0 [.reg [oT, oT], .reg [oT], .reg [oT, oT, ⟨true, (some ⟨[], [], 1, [], .p (.int .i64 (f_szGainGraph v0 1048576))⟩)⟩, oT], .reg [oT, oT], .dec false, .reg [oT, ⟨true, (some ⟨[], [], 1, [(0, ⟨false, 4, v0.2.1.1, fun i => [.p (.int .i64 ((v0.2.1.2 i).1)), .p (.int .i64 ((v0.2.1.2 i).2.1)), .p (.int .i64 ((v0.2.1.2 i).2.2.1)), .p (.int .i64 ((v0.2.1.2 i).2.2.2.1))]⟩)], .agg [.p (.int .i64 (v0.1)), .ar 4 0 0 (v0.2.1.1)]⟩)⟩, oT, oT, oT, ⟨true, (some ⟨[], [], 1, [(0, ⟨false, 4, (swR v0 v1 v2 v3).2.1.1, fun i => [.p (.int .i64 (((swR v0 v1 v2 v3).2.1.2 i).1)), .p (.int .i64 (((swR v0 v1 v2 v3).2.1.2 i).2.1)), .p (.int .i64 (((swR v0 v1 v2 v3).2.1.2 i).2.2.1)), .p (.int .i64 (((swR v0 v1 v2 v3).2.1.2 i).2.2.2.1))]⟩)], .tup [.agg [.p (.int .i64 ((swR v0 v1 v2 v3).1)), .ar 4 0 0 ((swR v0 v1 v2 v3).2.1.1)], .p (.bool ((swF v0 v1 v2 v3)))]⟩)⟩, oT, oT, oT, oT, oT, oT], .reg [oT, ⟨true, (some ⟨[], [], 1, [(0, ⟨false, 4, v0.2.1.1, fun i => [.p (.int .i64 ((v0.2.1.2 i).1)), .p (.int .i64 ((v0.2.1.2 i).2.1)), .p (.int .i64 ((v0.2.1.2 i).2.2.1)), .p (.int .i64 ((v0.2.1.2 i).2.2.2.1))]⟩)], .agg [.p (.int .i64 (v0.1)), .ar 4 0 0 (v0.2.1.1)]⟩)⟩, oT, oT], .reg [oT, oT, oT, oT, ⟨true, (some ⟨[], [], 1, [(0, ⟨false, 4, (swR v0 v1 v2 v3).2.1.1, fun i => [.p (.int .i64 (((swR v0 v1 v2 v3).2.1.2 i).1)), .p (.int .i64 (((swR v0 v1 v2 v3).2.1.2 i).2.1)), .p (.int .i64 (((swR v0 v1 v2 v3).2.1.2 i).2.2.1)), .p (.int .i64 (((swR v0 v1 v2 v3).2.1.2 i).2.2.2.1))]⟩)], .tup [.agg [.p (.int .i64 ((swR v0 v1 v2 v3).1)), .ar 4 0 0 ((swR v0 v1 v2 v3).2.1.1)], .p (.bool ((swF v0 v1 v2 v3)))]⟩)⟩, oT, oT, oT, oT, oT, oT], .reg [oT, oT, ⟨true, (some ⟨[], [], 1, [], .p (.bool true)⟩)⟩, oT, oT, oT, oT, oT, oT], .dec false, .reg [oT, oT, ⟨true, (some ⟨[], [], 1, [(0, ⟨false, 4, v0.2.1.1, fun i => [.p (.int .i64 ((v0.2.1.2 i).1)), .p (.int .i64 ((v0.2.1.2 i).2.1)), .p (.int .i64 ((v0.2.1.2 i).2.2.1)), .p (.int .i64 ((v0.2.1.2 i).2.2.2.1))]⟩)], .agg [.p (.int .i64 (v0.1)), .ar 4 0 0 (v0.2.1.1)]⟩)⟩, ⟨true, (some ⟨[], [], 1, [], .p (.bool true)⟩)⟩, oT], .dec false, .reg [oT], .reg [oT, oT, ⟨true, (some ⟨[704], [], 1, [(0, ⟨false, 4, v0.2.1.1, fun i => [.p (.int .i64 (1 + 4 * (i : Int))), .p (.int .i64 (1 + 4 * (i : Int) + 1)), .p (.int .i64 (1 + 4 * (i : Int) + 2)), .p (.int .i64 (1 + 4 * (i : Int) + 3))]⟩)], .p (.int .i64 (1 + 4 * (v0.2.1.1 : Int)))⟩)⟩, oT], .reg [oT, oT, oT, oT, oT, ⟨true, (some ⟨[], [], 1, [], .p (.bool true)⟩)⟩, oT, oT, oT, oT, oT, oT, oT], .dec false, .reg [oT], .reg [oT, oT, ⟨true, (some ⟨[928], [], 1, [(0, ⟨false, 4, (swR v0 v1 v2 v3).2.1.1, fun i => [.p (.int .i64 (1 + 4 * (i : Int))), .p (.int .i64 (1 + 4 * (i : Int) + 1)), .p (.int .i64 (1 + 4 * (i : Int) + 2)), .p (.int .i64 (1 + 4 * (i : Int) + 3))]⟩)], .p (.int .i64 (1 + 4 * ((swR v0 v1 v2 v3).2.1.1 : Int)))⟩)⟩, oT], .reg [oT], .reg [oT, oT, ⟨true, (some ⟨[], [], 1, [], .p (.int .i64 (1 + 4 * ((swR v0 v1 v2 v3).2.1.1 : Int)))⟩)⟩, oT], .reg [oT, oT], .dec false, .reg [oT, oT, oT], .dec false, .reg [oT, ⟨true, (some ⟨[], [], 1, [(0, ⟨false, 4, v0.2.1.1, fun i => [.p (.int .i64 ((v0.2.1.2 i).1)), .p (.int .i64 ((v0.2.1.2 i).2.1)), .p (.int .i64 ((v0.2.1.2 i).2.2.1)), .p (.int .i64 ((v0.2.1.2 i).2.2.2.1))]⟩)], .agg [.p (.int .i64 (v0.1)), .ar 4 0 0 (v0.2.1.1)]⟩)⟩, oT, oT, oT, ⟨true, (some ⟨[], [], 1, [(0, ⟨false, 4, (swR v0 v1 v2 v3).2.1.1, fun i => [.p (.int .i64 (((swR v0 v1 v2 v3).2.1.2 i).1)), .p (.int .i64 (((swR v0 v1 v2 v3).2.1.2 i).2.1)), .p (.int .i64 (((swR v0 v1 v2 v3).2.1.2 i).2.2.1)), .p (.int .i64 (((swR v0 v1 v2 v3).2.1.2 i).2.2.2.1))]⟩)], .tup [.agg [.p (.int .i64 ((swR v0 v1 v2 v3).1)), .ar 4 0 0 ((swR v0 v1 v2 v3).2.1.1)], .p (.bool ((swF v0 v1 v2 v3)))]⟩)⟩, oT, oT, oT, oT, oT, oT], .reg [oT, oT, ⟨true, (some ⟨[], [], 1, [], .p (.bool true)⟩)⟩, oT, oT, oT, oT, oT, oT], .dec false, .reg [oT], .reg [oT, oT, ⟨true, (some ⟨[], [], 1, [], .p (.int .i64 (1 + 4 * ((swR v0 v1 v2 v3).2.1.1 : Int)))⟩)⟩, oT], .reg [oT, oT], .dec false, .reg [oT, oT, oT], .dec false, .reg [oT]] [.code (bodyOf Try.f7)] (start Try.f7 [] 0 [.agg [.p (.int .i64 (v0.1)), .p (.seq true 4 (v0.2.1.1) (fun i => [.int .i64 ((v0.2.1.2 i).1), .int .i64 ((v0.2.1.2 i).2.1), .int .i64 ((v0.2.1.2 i).2.2.1), .int .i64 ((v0.2.1.2 i).2.2.2.1)]))], .p (.int .i64 (v1)), .p (.int .i64 (v2)), .p (.int .i64 (v3))]) [] 1 [] (.p (.bool true)) =
    some [((0 : Nat) < 1),
  Con (Try.prog) 16 0 [] [.agg [.p (.int .i64 (v0.fst)), .p (.seq true 4 (v0.snd.fst.fst) (fun i => [.int .i64 ((v0.snd.fst.snd i).fst), .int .i64 ((v0.snd.fst.snd i).snd.fst), .int .i64 ((v0.snd.fst.snd i).snd.snd.fst), .int .i64 ((v0.snd.fst.snd i).snd.snd.snd.fst)]))], .p (.int .i64 1048576)] [] (.p (.int .i64 (f_szGainGraph v0 1048576))),
  ((decide (f_szGainGraph v0 1048576 < 0)) = false),
  ((0 : Nat) < 1),
  Con (Try.prog) 18 0 [] [.agg [.p (.int .i64 (v0.fst)), .p (.seq true 4 (v0.snd.fst.fst) (fun i => [.int .i64 ((v0.snd.fst.snd i).fst), .int .i64 ((v0.snd.fst.snd i).snd.fst), .int .i64 ((v0.snd.fst.snd i).snd.snd.fst), .int .i64 ((v0.snd.fst.snd i).snd.snd.snd.fst)]))]] [(0, ⟨false, 4, (v0.snd.fst.fst), (fun i => [.p (.int .i64 ((v0.snd.fst.snd i).fst)), .p (.int .i64 ((v0.snd.fst.snd i).snd.fst)), .p (.int .i64 ((v0.snd.fst.snd i).snd.snd.fst)), .p (.int .i64 ((v0.snd.fst.snd i).snd.snd.snd.fst))])⟩)] (.agg [.p (.int .i64 (v0.fst)), .ar 4 0 0 (v0.snd.fst.fst)]),
  ((4 : Nat) = 4),
  (((v0.snd.fst.fst) : Nat) ≤ (v0.snd.fst.fst)),
  Con (Try.prog) 23 0 [] [.agg [.p (.int .i64 (v0.fst)), .p (.seq true 4 (v0.snd.fst.fst) (fun i => [.int .i64 ((v0.snd.fst.snd i).fst), .int .i64 ((v0.snd.fst.snd i).snd.fst), .int .i64 ((v0.snd.fst.snd i).snd.snd.fst), .int .i64 ((v0.snd.fst.snd i).snd.snd.snd.fst)]))], .p (.int .i64 (v1)), .p (.int .i64 (v2)), .p (.int .i64 (v3))] [(0, ⟨false, 4, ((swR v0 v1 v2 v3).snd.fst.fst), (fun i => [.p (.int .i64 (((swR v0 v1 v2 v3).snd.fst.snd i).fst)), .p (.int .i64 (((swR v0 v1 v2 v3).snd.fst.snd i).snd.fst)), .p (.int .i64 (((swR v0 v1 v2 v3).snd.fst.snd i).snd.snd.fst)), .p (.int .i64 (((swR v0 v1 v2 v3).snd.fst.snd i).snd.snd.snd.fst))])⟩)] (.tup [.agg [.p (.int .i64 ((swR v0 v1 v2 v3).fst)), .ar 4 0 0 ((swR v0 v1 v2 v3).snd.fst.fst)], .p (.bool (swF v0 v1 v2 v3))]),
  ((0 : Nat) < 1),
  (((true) = true) → ((1 : Nat) = 1)),
  ((0 : Nat) < 1),
  Con (Try.prog) 18 0 [] [.agg [.p (.int .i64 (v0.fst)), .p (.seq true 4 (v0.snd.fst.fst) (fun i => [.int .i64 ((v0.snd.fst.snd i).fst), .int .i64 ((v0.snd.fst.snd i).snd.fst), .int .i64 ((v0.snd.fst.snd i).snd.snd.fst), .int .i64 ((v0.snd.fst.snd i).snd.snd.snd.fst)]))]] [(0, ⟨false, 4, (v0.snd.fst.fst), (fun i => [.p (.int .i64 ((v0.snd.fst.snd i).fst)), .p (.int .i64 ((v0.snd.fst.snd i).snd.fst)), .p (.int .i64 ((v0.snd.fst.snd i).snd.snd.fst)), .p (.int .i64 ((v0.snd.fst.snd i).snd.snd.snd.fst))])⟩)] (.agg [.p (.int .i64 (v0.fst)), .ar 4 0 0 (v0.snd.fst.fst)]),
  ((0 : Nat) < 1),
  (((true) = true) → ((1 : Nat) = 1)),
  ((0 : Nat) < 1),
  ((4 : Nat) = 4),
  (((v0.snd.fst.fst) : Nat) ≤ (v0.snd.fst.fst)),
  Con (Try.prog) 24 0 [] [.agg [.p (.int .i64 (v0.fst)), .p (.seq true 4 (v0.snd.fst.fst) (fun i => [.int .i64 ((v0.snd.fst.snd i).fst), .int .i64 ((v0.snd.fst.snd i).snd.fst), .int .i64 ((v0.snd.fst.snd i).snd.snd.fst), .int .i64 ((v0.snd.fst.snd i).snd.snd.snd.fst)]))], .p (.int .i64 (v1)), .p (.int .i64 (v2)), .p (.int .i64 (v3))] [(0, ⟨false, 4, ((swR v0 v1 v2 v3).snd.fst.fst), (fun i => [.p (.int .i64 (((swR v0 v1 v2 v3).snd.fst.snd i).fst)), .p (.int .i64 (((swR v0 v1 v2 v3).snd.fst.snd i).snd.fst)), .p (.int .i64 (((swR v0 v1 v2 v3).snd.fst.snd i).snd.snd.fst)), .p (.int .i64 (((swR v0 v1 v2 v3).snd.fst.snd i).snd.snd.snd.fst))])⟩)] (.tup [.agg [.p (.int .i64 ((swR v0 v1 v2 v3).fst)), .ar 4 0 0 ((swR v0 v1 v2 v3).snd.fst.fst)], .p (.bool (swF v0 v1 v2 v3))]),
  ((0 : Nat) < 1),
  (((true) = true) → ((1 : Nat) = 1)),
  ((0 : Nat) < 1),
  ((0 : Nat) < 1),
  ((4 : Nat) = 4),
  ((((swR v0 v1 v2 v3).snd.fst.fst) : Nat) ≤ ((swR v0 v1 v2 v3).snd.fst.fst)),
  ((4 : Nat) = 4),
  ((((swR v0 v1 v2 v3).snd.fst.fst) : Nat) ≤ ((swR v0 v1 v2 v3).snd.fst.fst)),
  Con (Try.prog) 20 0 [] [.agg [.p (.int .i64 ((swR v0 v1 v2 v3).fst)), .p (.seq true 4 ((swR v0 v1 v2 v3).snd.fst.fst) (fun i => [.int .i64 (((swR v0 v1 v2 v3).snd.fst.snd i).fst), .int .i64 (((swR v0 v1 v2 v3).snd.fst.snd i).snd.fst), .int .i64 (((swR v0 v1 v2 v3).snd.fst.snd i).snd.snd.fst), .int .i64 (((swR v0 v1 v2 v3).snd.fst.snd i).snd.snd.snd.fst)]))], .agg [.p (.int .i64 ((swR v0 v1 v2 v3).fst)), .p (.seq true 4 ((swR v0 v1 v2 v3).snd.fst.fst) (fun i => [.int .i64 (((swR v0 v1 v2 v3).snd.fst.snd i).fst), .int .i64 (((swR v0 v1 v2 v3).snd.fst.snd i).snd.fst), .int .i64 (((swR v0 v1 v2 v3).snd.fst.snd i).snd.snd.fst), .int .i64 (((swR v0 v1 v2 v3).snd.fst.snd i).snd.snd.snd.fst)]))]] [] (.p (.bool true)),
  (((!!true) = true) → ((!!true) = true)),
  (((!!true) = true) → ((!!true) = true)),
  (((!true) = false) → ((!!true) = true)),
  ((bif !true then true else !swF v0 v1 v2 v3 == swF v0 v1 v2 v3) = false),
  ((0 : Nat) < 1),
  ((0 : Nat) < 1),
  Con (Try.prog) 18 0 [] [.agg [.p (.int .i64 (v0.fst)), .p (.seq true 4 (v0.snd.fst.fst) (fun i => [.int .i64 ((v0.snd.fst.snd i).fst), .int .i64 ((v0.snd.fst.snd i).snd.fst), .int .i64 ((v0.snd.fst.snd i).snd.snd.fst), .int .i64 ((v0.snd.fst.snd i).snd.snd.snd.fst)]))]] [(0, ⟨false, 4, (v0.snd.fst.fst), (fun i => [.p (.int .i64 ((v0.snd.fst.snd i).fst)), .p (.int .i64 ((v0.snd.fst.snd i).snd.fst)), .p (.int .i64 ((v0.snd.fst.snd i).snd.snd.fst)), .p (.int .i64 ((v0.snd.fst.snd i).snd.snd.snd.fst))])⟩)] (.agg [.p (.int .i64 (v0.fst)), .ar 4 0 0 (v0.snd.fst.fst)]),
  ((4 : Nat) = 4),
  (((v0.snd.fst.fst) : Nat) ≤ (v0.snd.fst.fst)),
  ((4 : Nat) = 4),
  (((v0.snd.fst.fst) : Nat) ≤ (v0.snd.fst.fst)),
  Con (Try.prog) 20 0 [] [.agg [.p (.int .i64 (v0.fst)), .p (.seq true 4 (v0.snd.fst.fst) (fun i => [.int .i64 ((v0.snd.fst.snd i).fst), .int .i64 ((v0.snd.fst.snd i).snd.fst), .int .i64 ((v0.snd.fst.snd i).snd.snd.fst), .int .i64 ((v0.snd.fst.snd i).snd.snd.snd.fst)]))], .agg [.p (.int .i64 (v0.fst)), .p (.seq true 4 (v0.snd.fst.fst) (fun i => [.int .i64 ((v0.snd.fst.snd i).fst), .int .i64 ((v0.snd.fst.snd i).snd.fst), .int .i64 ((v0.snd.fst.snd i).snd.snd.fst), .int .i64 ((v0.snd.fst.snd i).snd.snd.snd.fst)]))]] [] (.p (.bool true)),
  ((!true) = false),
  ((0 : Nat) < 1),
  (∀ i : Nat, ((((i) : Nat) < (v0.snd.fst.fst)) → All [])),
  Con (Try.prog) 25 1 [(0, ⟨false, 4, (v0.snd.fst.fst), (fun i => [.p (.int .i64 ((v0.snd.fst.snd i).fst)), .p (.int .i64 ((v0.snd.fst.snd i).snd.fst)), .p (.int .i64 ((v0.snd.fst.snd i).snd.snd.fst)), .p (.int .i64 ((v0.snd.fst.snd i).snd.snd.snd.fst))])⟩)] [.agg [.p (.int .i64 (v0.fst)), .ar 4 0 0 (v0.snd.fst.fst)], .p (.int .i64 1)] [(0, ⟨false, 4, (v0.snd.fst.fst), (fun i => [.p (.int .i64 (1 + 4 * (↑i : Int))), .p (.int .i64 (1 + 4 * (↑i : Int) + 1)), .p (.int .i64 (1 + 4 * (↑i : Int) + 2)), .p (.int .i64 (1 + 4 * (↑i : Int) + 3))])⟩)] (.p (.int .i64 (1 + 4 * (↑v0.snd.fst.fst : Int)))),
  (((!decide (1 + 4 * (↑v0.snd.fst.fst : Int) < 0)) = true) → ((0 : Nat) < 1)),
  (((!decide (1 + 4 * (↑v0.snd.fst.fst : Int) < 0)) = true) → ((0 : Nat) < 1)),
  (((!decide (1 + 4 * (↑v0.snd.fst.fst : Int) < 0)) = true) → ((!decide (1 + 4 * (↑v0.snd.fst.fst : Int) < 0)) = true)),
  (((!decide (1 + 4 * (↑v0.snd.fst.fst : Int) < 0)) = true) → ((!decide (1 + 4 * (↑v0.snd.fst.fst : Int) < 0)) = true)),
  (((!decide (1 + 4 * (↑v0.snd.fst.fst : Int) < 0)) = true) → ((4 : Nat) = 4)),
  (((!decide (1 + 4 * (↑v0.snd.fst.fst : Int) < 0)) = true) → ((((swR v0 v1 v2 v3).snd.fst.fst) : Nat) ≤ ((swR v0 v1 v2 v3).snd.fst.fst))),
  (((!decide (1 + 4 * (↑v0.snd.fst.fst : Int) < 0)) = true) → ((4 : Nat) = 4)),
  (((!decide (1 + 4 * (↑v0.snd.fst.fst : Int) < 0)) = true) → ((((swR v0 v1 v2 v3).snd.fst.fst) : Nat) ≤ ((swR v0 v1 v2 v3).snd.fst.fst))),
  (((!decide (1 + 4 * (↑v0.snd.fst.fst : Int) < 0)) = true) → Con (Try.prog) 20 0 [] [.agg [.p (.int .i64 ((swR v0 v1 v2 v3).fst)), .p (.seq true 4 ((swR v0 v1 v2 v3).snd.fst.fst) (fun i => [.int .i64 (((swR v0 v1 v2 v3).snd.fst.snd i).fst), .int .i64 (((swR v0 v1 v2 v3).snd.fst.snd i).snd.fst), .int .i64 (((swR v0 v1 v2 v3).snd.fst.snd i).snd.snd.fst), .int .i64 (((swR v0 v1 v2 v3).snd.fst.snd i).snd.snd.snd.fst)]))], .agg [.p (.int .i64 ((swR v0 v1 v2 v3).fst)), .p (.seq true 4 ((swR v0 v1 v2 v3).snd.fst.fst) (fun i => [.int .i64 (((swR v0 v1 v2 v3).snd.fst.snd i).fst), .int .i64 (((swR v0 v1 v2 v3).snd.fst.snd i).snd.fst), .int .i64 (((swR v0 v1 v2 v3).snd.fst.snd i).snd.snd.fst), .int .i64 (((swR v0 v1 v2 v3).snd.fst.snd i).snd.snd.snd.fst)]))]] [] (.p (.bool true))),
  (((!decide (1 + 4 * (↑v0.snd.fst.fst : Int) < 0)) = true) → ((!decide (1 + 4 * (↑v0.snd.fst.fst : Int) < 0)) = true)),
  (((decide (1 + 4 * (↑v0.snd.fst.fst : Int) < 0)) = false) → ((!decide (1 + 4 * (↑v0.snd.fst.fst : Int) < 0)) = true)),
  (((!bif decide (1 + 4 * (↑v0.snd.fst.fst : Int) < 0) then true else !true) = true) → ((!bif decide (1 + 4 * (↑v0.snd.fst.fst : Int) < 0) then true else !true) = true)),
  (((!bif decide (1 + 4 * (↑v0.snd.fst.fst : Int) < 0) then true else !true) = true) → ((!bif decide (1 + 4 * (↑v0.snd.fst.fst : Int) < 0) then true else !true) = true)),
  (((bif decide (1 + 4 * (↑v0.snd.fst.fst : Int) < 0) then true else !true) = false) → ((!bif decide (1 + 4 * (↑v0.snd.fst.fst : Int) < 0) then true else !true) = true)),
  ((bif bif decide (1 + 4 * (↑v0.snd.fst.fst : Int) < 0) then true else !true then true else !swF v0 v1 v2 v3 == swF v0 v1 v2 v3) = false),
  ((0 : Nat) < 1),
  (∀ i : Nat, ((((i) : Nat) < ((swR v0 v1 v2 v3).snd.fst.fst)) → All [])),
  Con (Try.prog) 25 1 [(0, ⟨false, 4, ((swR v0 v1 v2 v3).snd.fst.fst), (fun i => [.p (.int .i64 (((swR v0 v1 v2 v3).snd.fst.snd i).fst)), .p (.int .i64 (((swR v0 v1 v2 v3).snd.fst.snd i).snd.fst)), .p (.int .i64 (((swR v0 v1 v2 v3).snd.fst.snd i).snd.snd.fst)), .p (.int .i64 (((swR v0 v1 v2 v3).snd.fst.snd i).snd.snd.snd.fst))])⟩)] [.agg [.p (.int .i64 ((swR v0 v1 v2 v3).fst)), .ar 4 0 0 ((swR v0 v1 v2 v3).snd.fst.fst)], .p (.int .i64 1)] [(0, ⟨false, 4, ((swR v0 v1 v2 v3).snd.fst.fst), (fun i => [.p (.int .i64 (1 + 4 * (↑i : Int))), .p (.int .i64 (1 + 4 * (↑i : Int) + 1)), .p (.int .i64 (1 + 4 * (↑i : Int) + 2)), .p (.int .i64 (1 + 4 * (↑i : Int) + 3))])⟩)] (.p (.int .i64 (1 + 4 * (↑(swR v0 v1 v2 v3).snd.fst.fst : Int)))),
  ((0 : Nat) < 1),
  ((4 : Nat) = 4),
  ((((swR v0 v1 v2 v3).snd.fst.fst) : Nat) ≤ ((swR v0 v1 v2 v3).snd.fst.fst)),
  Con (Try.prog) 26 0 [] [.agg [.p (.int .i64 ((swR v0 v1 v2 v3).fst)), .p (.seq true 4 ((swR v0 v1 v2 v3).snd.fst.fst) (fun i => [.int .i64 (1 + 4 * (↑i : Int)), .int .i64 (1 + 4 * (↑i : Int) + 1), .int .i64 (1 + 4 * (↑i : Int) + 2), .int .i64 (1 + 4 * (↑i : Int) + 3)]))], .p (.int .i64 1)] [] (.p (.int .i64 (1 + 4 * (↑(swR v0 v1 v2 v3).snd.fst.fst : Int)))),
  ((decide (1 + 4 * (↑(swR v0 v1 v2 v3).snd.fst.fst : Int) < 0)) = false),
  ((1 + 4 * (↑(swR v0 v1 v2 v3).snd.fst.fst : Int) != 1 + 4 * (↑(swR v0 v1 v2 v3).snd.fst.fst : Int)) = false),
  ((0 : Nat) < 1),
  Con (Try.prog) 18 0 [] [.agg [.p (.int .i64 (v0.fst)), .p (.seq true 4 (v0.snd.fst.fst) (fun i => [.int .i64 ((v0.snd.fst.snd i).fst), .int .i64 ((v0.snd.fst.snd i).snd.fst), .int .i64 ((v0.snd.fst.snd i).snd.snd.fst), .int .i64 ((v0.snd.fst.snd i).snd.snd.snd.fst)]))]] [(0, ⟨false, 4, (v0.snd.fst.fst), (fun i => [.p (.int .i64 ((v0.snd.fst.snd i).fst)), .p (.int .i64 ((v0.snd.fst.snd i).snd.fst)), .p (.int .i64 ((v0.snd.fst.snd i).snd.snd.fst)), .p (.int .i64 ((v0.snd.fst.snd i).snd.snd.snd.fst))])⟩)] (.agg [.p (.int .i64 (v0.fst)), .ar 4 0 0 (v0.snd.fst.fst)]),
  ((4 : Nat) = 4),
  (((v0.snd.fst.fst) : Nat) ≤ (v0.snd.fst.fst)),
  Con (Try.prog) 24 0 [] [.agg [.p (.int .i64 (v0.fst)), .p (.seq true 4 (v0.snd.fst.fst) (fun i => [.int .i64 ((v0.snd.fst.snd i).fst), .int .i64 ((v0.snd.fst.snd i).snd.fst), .int .i64 ((v0.snd.fst.snd i).snd.snd.fst), .int .i64 ((v0.snd.fst.snd i).snd.snd.snd.fst)]))], .p (.int .i64 (v1)), .p (.int .i64 (v2)), .p (.int .i64 (v3))] [(0, ⟨false, 4, ((swR v0 v1 v2 v3).snd.fst.fst), (fun i => [.p (.int .i64 (((swR v0 v1 v2 v3).snd.fst.snd i).fst)), .p (.int .i64 (((swR v0 v1 v2 v3).snd.fst.snd i).snd.fst)), .p (.int .i64 (((swR v0 v1 v2 v3).snd.fst.snd i).snd.snd.fst)), .p (.int .i64 (((swR v0 v1 v2 v3).snd.fst.snd i).snd.snd.snd.fst))])⟩)] (.tup [.agg [.p (.int .i64 ((swR v0 v1 v2 v3).fst)), .ar 4 0 0 ((swR v0 v1 v2 v3).snd.fst.fst)], .p (.bool (swF v0 v1 v2 v3))]),
  ((0 : Nat) < 1),
  (((true) = true) → ((1 : Nat) = 1)),
  ((0 : Nat) < 1),
  ((0 : Nat) < 1),
  ((4 : Nat) = 4),
  ((((swR v0 v1 v2 v3).snd.fst.fst) : Nat) ≤ ((swR v0 v1 v2 v3).snd.fst.fst)),
  ((4 : Nat) = 4),
  ((((swR v0 v1 v2 v3).snd.fst.fst) : Nat) ≤ ((swR v0 v1 v2 v3).snd.fst.fst)),
  Con (Try.prog) 20 0 [] [.agg [.p (.int .i64 ((swR v0 v1 v2 v3).fst)), .p (.seq true 4 ((swR v0 v1 v2 v3).snd.fst.fst) (fun i => [.int .i64 (((swR v0 v1 v2 v3).snd.fst.snd i).fst), .int .i64 (((swR v0 v1 v2 v3).snd.fst.snd i).snd.fst), .int .i64 (((swR v0 v1 v2 v3).snd.fst.snd i).snd.snd.fst), .int .i64 (((swR v0 v1 v2 v3).snd.fst.snd i).snd.snd.snd.fst)]))], .agg [.p (.int .i64 ((swR v0 v1 v2 v3).fst)), .p (.seq true 4 ((swR v0 v1 v2 v3).snd.fst.fst) (fun i => [.int .i64 (((swR v0 v1 v2 v3).snd.fst.snd i).fst), .int .i64 (((swR v0 v1 v2 v3).snd.fst.snd i).snd.fst), .int .i64 (((swR v0 v1 v2 v3).snd.fst.snd i).snd.snd.fst), .int .i64 (((swR v0 v1 v2 v3).snd.fst.snd i).snd.snd.snd.fst)]))]] [] (.p (.bool true)),
  (((!!true) = true) → ((!!true) = true)),
  (((!!true) = true) → ((!!true) = true)),
  (((!true) = false) → ((!!true) = true)),
  ((bif !true then true else !swF v0 v1 v2 v3 == swF v0 v1 v2 v3) = false),
  ((0 : Nat) < 1),
  ((4 : Nat) = 4),
  ((((swR v0 v1 v2 v3).snd.fst.fst) : Nat) ≤ ((swR v0 v1 v2 v3).snd.fst.fst)),
  Con (Try.prog) 26 0 [] [.agg [.p (.int .i64 ((swR v0 v1 v2 v3).fst)), .p (.seq true 4 ((swR v0 v1 v2 v3).snd.fst.fst) (fun i => [.int .i64 (1 + 4 * (↑i : Int)), .int .i64 (1 + 4 * (↑i : Int) + 1), .int .i64 (1 + 4 * (↑i : Int) + 2), .int .i64 (1 + 4 * (↑i : Int) + 3)]))], .p (.int .i64 1)] [] (.p (.int .i64 (1 + 4 * (↑(swR v0 v1 v2 v3).snd.fst.fst : Int)))),
  ((decide (1 + 4 * (↑(swR v0 v1 v2 v3).snd.fst.fst : Int) < 0)) = false),
  ((1 + 4 * (↑(swR v0 v1 v2 v3).snd.fst.fst : Int) != 1 + 4 * (↑(swR v0 v1 v2 v3).snd.fst.fst : Int)) = false),
  (true = true)] := by kernel_rfl

theorem con_law_FnExactSwitchGains (v0 : T_GainGraph) (v1 : Int) (v2 : Int) (v3 : Int) (k0 : okS s_GainGraph v0) (k1 : okS (.int .i64) v1) (k2 : okS (.int .i64) v2) (k3 : okS (.int .i64) v3) : Con Try.prog 7 0 [] [.agg [.p (.int .i64 (v0.1)), .p (.seq true 4 (v0.2.1.1) (fun i => [.int .i64 ((v0.2.1.2 i).1), .int .i64 ((v0.2.1.2 i).2.1), .int .i64 ((v0.2.1.2 i).2.2.1), .int .i64 ((v0.2.1.2 i).2.2.2.1)]))], .p (.int .i64 (v1)), .p (.int .i64 (v2)), .p (.int .i64 (v3))] [] (.p (.bool true)) := by
  refine con_start Try.func7 rfl (by kernel_rfl) rfl (fun c hc => ?_)
  simp only [okS, imin, imax] at k1
  simp only [okS, imin, imax] at k2
  simp only [okS, imin, imax] at k3
  have l0 := le_szGainGraph v0 1048576 (by omega)
  by_cases g0 : (f_szGainGraph v0 1048576) < 0
  · refine path_ok mixed Try.func7 hc (p_FnExactSwitchGains_0 v0 v1 v2 v3) ?_
    simp only [All]
    repeat' (first | exact trivial | with_reducible apply And.intro)
    all_goals (first | omega | rfl | (intros; first | assumption | exact True.intro | rfl | exact absurd (show false = true by assumption) Bool.false_ne_true | ((repeat' (first | assumption | apply anda | apply notf)); done)) | (exact con_szGainGraph v0 k0 _ (by omega) (by omega)) | (simp; omega))
  have hs0 := sm_szGainGraph v0 1048576 (by omega) (by omega) g0
  have hr0 := sm_swR v0 v1 v2 v3 hs0
  have n_0 : v0.2.1.1 ≤ 1048576 := hs0.2.1.1
  have n_1 : (swR v0 v1 v2 v3).2.1.1 ≤ 1048576 := hr0.2.1.1
  refine path_ok mixed Try.func7 hc (p_FnExactSwitchGains_e v0 v1 v2 v3) ?_
  simp only [All]
  repeat' (first | exact trivial | with_reducible apply And.intro)
  all_goals (first | omega | rfl | (intros; first | assumption | exact True.intro | rfl | exact absurd (show false = true by assumption) Bool.false_ne_true | ((repeat' (first | assumption | apply anda | apply notf)); done)) | (exact con_szGainGraph v0 k0 _ (by omega) (by omega)) | (exact con_toGainGraph v0 hs0) | (exact con_SwitchGains_s v0 v1 v2 v3 hs0) | (exact con_SwitchGains_i v0 v1 v2 v3 hs0) | (intros; exact con_eqGainGraph (swR v0 v1 v2 v3) hr0) | (intros; exact con_eqGainGraph v0 hs0) | (intros; exact con_markGainGraph v0 _ hs0.2.1.1 (by omega) (by omega)) | (intros; exact con_markGainGraph (swR v0 v1 v2 v3) _ hr0.2.1.1 (by omega) (by omega)) | (intros; exact con_heldGainGraph (swR v0 v1 v2 v3) _ hr0.2.1.1 (by omega) (by omega)) | (simp; try omega))

end Go.Proofs.Ytgddbgmnehkblaa.Mach
