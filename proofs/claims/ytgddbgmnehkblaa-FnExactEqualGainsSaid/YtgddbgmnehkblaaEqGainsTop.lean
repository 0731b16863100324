/- The law FnExactEqualGains as a contract: it answers true. Written by our own lawtop.py. Conditions: lengths that values can have. -/
import Derived.Test.YtgddbgmnehkblaaEqGains
namespace Go.Proofs.Ytgddbgmnehkblaa.Mach
open Go
set_option linter.unusedVariables false
set_option linter.unusedSimpArgs false

theorem p_FnExactEqualGains_0 (v0 : T_GainGraph) (v1 : T_GainGraph) :
    pathOb Try.prog Try.f6 0 [.reg [oT, oT, oT], .reg [oT], .reg [oT, oT, ⟨true, (some ⟨[], [], 1, [], .p (.int .i64 (f_szGainGraph v0 1048576))⟩)⟩, oT], .reg [oT, oT], .dec true, .reg [oT]] [.code (bodyOf Try.f6)] (start Try.f6 [] 0 [.agg [.p (.int .i64 (v0.1)), .p (.seq true 4 (v0.2.1.1) (fun i => [.int .i64 ((v0.2.1.2 i).1), .int .i64 ((v0.2.1.2 i).2.1), .int .i64 ((v0.2.1.2 i).2.2.1), .int .i64 ((v0.2.1.2 i).2.2.2.1)]))], .agg [.p (.int .i64 (v1.1)), .p (.seq true 4 (v1.2.1.1) (fun i => [.int .i64 ((v1.2.1.2 i).1), .int .i64 ((v1.2.1.2 i).2.1), .int .i64 ((v1.2.1.2 i).2.2.1), .int .i64 ((v1.2.1.2 i).2.2.2.1)]))]]) [] 1 [] (.p (.bool true)) =
    some [((0 : Nat) < 1),
  Con (Try.prog) 16 0 [] [.agg [.p (.int .i64 (v0.fst)), .p (.seq true 4 (v0.snd.fst.fst) (fun i => [.int .i64 ((v0.snd.fst.snd i).fst), .int .i64 ((v0.snd.fst.snd i).snd.fst), .int .i64 ((v0.snd.fst.snd i).snd.snd.fst), .int .i64 ((v0.snd.fst.snd i).snd.snd.snd.fst)]))], .p (.int .i64 1048576)] [] (.p (.int .i64 (f_szGainGraph v0 1048576))),
  ((decide (f_szGainGraph v0 1048576 < 0)) = true),
  (true = true)] := by kernel_rfl
theorem p_FnExactEqualGains_1 (v0 : T_GainGraph) (v1 : T_GainGraph) :
    pathOb Try.prog Try.f6 0 [.reg [oT, oT, oT], .reg [oT], .reg [oT, oT, ⟨true, (some ⟨[], [], 1, [], .p (.int .i64 (f_szGainGraph v0 1048576))⟩)⟩, oT], .reg [oT, oT], .dec false, .reg [oT, oT, ⟨true, (some ⟨[], [], 1, [], .p (.int .i64 (f_szGainGraph v1 (f_szGainGraph v0 1048576)))⟩)⟩, oT], .reg [oT, oT], .dec true, .reg [oT]] [.code (bodyOf Try.f6)] (start Try.f6 [] 0 [.agg [.p (.int .i64 (v0.1)), .p (.seq true 4 (v0.2.1.1) (fun i => [.int .i64 ((v0.2.1.2 i).1), .int .i64 ((v0.2.1.2 i).2.1), .int .i64 ((v0.2.1.2 i).2.2.1), .int .i64 ((v0.2.1.2 i).2.2.2.1)]))], .agg [.p (.int .i64 (v1.1)), .p (.seq true 4 (v1.2.1.1) (fun i => [.int .i64 ((v1.2.1.2 i).1), .int .i64 ((v1.2.1.2 i).2.1), .int .i64 ((v1.2.1.2 i).2.2.1), .int .i64 ((v1.2.1.2 i).2.2.2.1)]))]]) [] 1 [] (.p (.bool true)) =
    some [((0 : Nat) < 1),
  Con (Try.prog) 16 0 [] [.agg [.p (.int .i64 (v0.fst)), .p (.seq true 4 (v0.snd.fst.fst) (fun i => [.int .i64 ((v0.snd.fst.snd i).fst), .int .i64 ((v0.snd.fst.snd i).snd.fst), .int .i64 ((v0.snd.fst.snd i).snd.snd.fst), .int .i64 ((v0.snd.fst.snd i).snd.snd.snd.fst)]))], .p (.int .i64 1048576)] [] (.p (.int .i64 (f_szGainGraph v0 1048576))),
  ((decide (f_szGainGraph v0 1048576 < 0)) = false),
  ((0 : Nat) < 1),
  Con (Try.prog) 16 0 [] [.agg [.p (.int .i64 (v1.fst)), .p (.seq true 4 (v1.snd.fst.fst) (fun i => [.int .i64 ((v1.snd.fst.snd i).fst), .int .i64 ((v1.snd.fst.snd i).snd.fst), .int .i64 ((v1.snd.fst.snd i).snd.snd.fst), .int .i64 ((v1.snd.fst.snd i).snd.snd.snd.fst)]))], .p (.int .i64 (f_szGainGraph v0 1048576))] [] (.p (.int .i64 (f_szGainGraph v1 (f_szGainGraph v0 1048576)))),
  ((decide (f_szGainGraph v1 (f_szGainGraph v0 1048576) < 0)) = true),
  (true = true)] := by kernel_rfl
theorem p_FnExactEqualGains_e (v0 : T_GainGraph) (v1 : T_GainGraph) :
    pathOb Try.prog Try.f6 0 [.reg [oT, oT, oT], .reg [oT], .reg [oT, oT, ⟨true, (some ⟨[], [], 1, [], .p (.int .i64 (f_szGainGraph v0 1048576))⟩)⟩, oT], .reg [oT, oT], .dec false, .reg [oT, oT, ⟨true, (some ⟨[], [], 1, [], .p (.int .i64 (f_szGainGraph v1 (f_szGainGraph v0 1048576)))⟩)⟩, oT], .reg [oT, oT], .dec false, .reg [oT, ⟨true, (some ⟨[], [], 1, [(0, ⟨false, 4, v0.2.1.1, fun i => [.p (.int .i64 ((v0.2.1.2 i).1)), .p (.int .i64 ((v0.2.1.2 i).2.1)), .p (.int .i64 ((v0.2.1.2 i).2.2.1)), .p (.int .i64 ((v0.2.1.2 i).2.2.2.1))]⟩)], .agg [.p (.int .i64 (v0.1)), .ar 4 0 0 (v0.2.1.1)]⟩)⟩, oT, ⟨true, (some ⟨[], [], 1, [(0, ⟨false, 4, v1.2.1.1, fun i => [.p (.int .i64 ((v1.2.1.2 i).1)), .p (.int .i64 ((v1.2.1.2 i).2.1)), .p (.int .i64 ((v1.2.1.2 i).2.2.1)), .p (.int .i64 ((v1.2.1.2 i).2.2.2.1))]⟩)], .agg [.p (.int .i64 (v1.1)), .ar 4 0 0 (v1.2.1.1)]⟩)⟩, ⟨true, (some ⟨[], [], 1, [], .p (.bool (eqGains v0 v1))⟩)⟩, oT], .reg [oT, ⟨true, (some ⟨[], [], 1, [(0, ⟨false, 4, v0.2.1.1, fun i => [.p (.int .i64 ((v0.2.1.2 i).1)), .p (.int .i64 ((v0.2.1.2 i).2.1)), .p (.int .i64 ((v0.2.1.2 i).2.2.1)), .p (.int .i64 ((v0.2.1.2 i).2.2.2.1))]⟩)], .agg [.p (.int .i64 (v0.1)), .ar 4 0 0 (v0.2.1.1)]⟩)⟩, oT, oT], .reg [oT, ⟨true, (some ⟨[], [], 1, [(0, ⟨false, 4, v1.2.1.1, fun i => [.p (.int .i64 ((v1.2.1.2 i).1)), .p (.int .i64 ((v1.2.1.2 i).2.1)), .p (.int .i64 ((v1.2.1.2 i).2.2.1)), .p (.int .i64 ((v1.2.1.2 i).2.2.2.1))]⟩)], .agg [.p (.int .i64 (v1.1)), .ar 4 0 0 (v1.2.1.1)]⟩)⟩, oT, oT], .reg [oT, oT, ⟨true, (some ⟨[], [], 1, [], .p (.bool (eqGains v0 v1))⟩)⟩, oT], .reg [oT, oT, oT], .dec false, .reg [oT, oT, ⟨true, (some ⟨[], [], 1, [(0, ⟨false, 4, v0.2.1.1, fun i => [.p (.int .i64 ((v0.2.1.2 i).1)), .p (.int .i64 ((v0.2.1.2 i).2.1)), .p (.int .i64 ((v0.2.1.2 i).2.2.1)), .p (.int .i64 ((v0.2.1.2 i).2.2.2.1))]⟩)], .agg [.p (.int .i64 (v0.1)), .ar 4 0 0 (v0.2.1.1)]⟩)⟩, ⟨true, (some ⟨[], [], 1, [], .p (.bool true)⟩)⟩, oT], .dec false, .reg [oT, oT, ⟨true, (some ⟨[], [], 1, [(0, ⟨false, 4, v1.2.1.1, fun i => [.p (.int .i64 ((v1.2.1.2 i).1)), .p (.int .i64 ((v1.2.1.2 i).2.1)), .p (.int .i64 ((v1.2.1.2 i).2.2.1)), .p (.int .i64 ((v1.2.1.2 i).2.2.2.1))]⟩)], .agg [.p (.int .i64 (v1.1)), .ar 4 0 0 (v1.2.1.1)]⟩)⟩, ⟨true, (some ⟨[], [], 1, [], .p (.bool true)⟩)⟩, oT], .dec false, .reg [oT]] [.code (bodyOf Try.f6)] (start Try.f6 [] 0 [.agg [.p (.int .i64 (v0.1)), .p (.seq true 4 (v0.2.1.1) (fun i => [.int .i64 ((v0.2.1.2 i).1), .int .i64 ((v0.2.1.2 i).2.1), .int .i64 ((v0.2.1.2 i).2.2.1), .int .i64 ((v0.2.1.2 i).2.2.2.1)]))], .agg [.p (.int .i64 (v1.1)), .p (.seq true 4 (v1.2.1.1) (fun i => [.int .i64 ((v1.2.1.2 i).1), .int .i64 ((v1.2.1.2 i).2.1), .int .i64 ((v1.2.1.2 i).2.2.1), .int .i64 ((v1.2.1.2 i).2.2.2.1)]))]]) [] 1 [] (.p (.bool true)) =
    some [((0 : Nat) < 1),
  Con (Try.prog) 16 0 [] [.agg [.p (.int .i64 (v0.fst)), .p (.seq true 4 (v0.snd.fst.fst) (fun i => [.int .i64 ((v0.snd.fst.snd i).fst), .int .i64 ((v0.snd.fst.snd i).snd.fst), .int .i64 ((v0.snd.fst.snd i).snd.snd.fst), .int .i64 ((v0.snd.fst.snd i).snd.snd.snd.fst)]))], .p (.int .i64 1048576)] [] (.p (.int .i64 (f_szGainGraph v0 1048576))),
  ((decide (f_szGainGraph v0 1048576 < 0)) = false),
  ((0 : Nat) < 1),
  Con (Try.prog) 16 0 [] [.agg [.p (.int .i64 (v1.fst)), .p (.seq true 4 (v1.snd.fst.fst) (fun i => [.int .i64 ((v1.snd.fst.snd i).fst), .int .i64 ((v1.snd.fst.snd i).snd.fst), .int .i64 ((v1.snd.fst.snd i).snd.snd.fst), .int .i64 ((v1.snd.fst.snd i).snd.snd.snd.fst)]))], .p (.int .i64 (f_szGainGraph v0 1048576))] [] (.p (.int .i64 (f_szGainGraph v1 (f_szGainGraph v0 1048576)))),
  ((decide (f_szGainGraph v1 (f_szGainGraph v0 1048576) < 0)) = false),
  ((0 : Nat) < 1),
  Con (Try.prog) 18 0 [] [.agg [.p (.int .i64 (v0.fst)), .p (.seq true 4 (v0.snd.fst.fst) (fun i => [.int .i64 ((v0.snd.fst.snd i).fst), .int .i64 ((v0.snd.fst.snd i).snd.fst), .int .i64 ((v0.snd.fst.snd i).snd.snd.fst), .int .i64 ((v0.snd.fst.snd i).snd.snd.snd.fst)]))]] [(0, ⟨false, 4, (v0.snd.fst.fst), (fun i => [.p (.int .i64 ((v0.snd.fst.snd i).fst)), .p (.int .i64 ((v0.snd.fst.snd i).snd.fst)), .p (.int .i64 ((v0.snd.fst.snd i).snd.snd.fst)), .p (.int .i64 ((v0.snd.fst.snd i).snd.snd.snd.fst))])⟩)] (.agg [.p (.int .i64 (v0.fst)), .ar 4 0 0 (v0.snd.fst.fst)]),
  ((0 : Nat) < 1),
  Con (Try.prog) 18 0 [] [.agg [.p (.int .i64 (v1.fst)), .p (.seq true 4 (v1.snd.fst.fst) (fun i => [.int .i64 ((v1.snd.fst.snd i).fst), .int .i64 ((v1.snd.fst.snd i).snd.fst), .int .i64 ((v1.snd.fst.snd i).snd.snd.fst), .int .i64 ((v1.snd.fst.snd i).snd.snd.snd.fst)]))]] [(0, ⟨false, 4, (v1.snd.fst.fst), (fun i => [.p (.int .i64 ((v1.snd.fst.snd i).fst)), .p (.int .i64 ((v1.snd.fst.snd i).snd.fst)), .p (.int .i64 ((v1.snd.fst.snd i).snd.snd.fst)), .p (.int .i64 ((v1.snd.fst.snd i).snd.snd.snd.fst))])⟩)] (.agg [.p (.int .i64 (v1.fst)), .ar 4 0 0 (v1.snd.fst.fst)]),
  ((4 : Nat) = 4),
  (((v0.snd.fst.fst) : Nat) ≤ (v0.snd.fst.fst)),
  ((4 : Nat) = 4),
  (((v1.snd.fst.fst) : Nat) ≤ (v1.snd.fst.fst)),
  Con (Try.prog) 21 0 [] [.agg [.p (.int .i64 (v0.fst)), .p (.seq true 4 (v0.snd.fst.fst) (fun i => [.int .i64 ((v0.snd.fst.snd i).fst), .int .i64 ((v0.snd.fst.snd i).snd.fst), .int .i64 ((v0.snd.fst.snd i).snd.snd.fst), .int .i64 ((v0.snd.fst.snd i).snd.snd.snd.fst)]))], .agg [.p (.int .i64 (v1.fst)), .p (.seq true 4 (v1.snd.fst.fst) (fun i => [.int .i64 ((v1.snd.fst.snd i).fst), .int .i64 ((v1.snd.fst.snd i).snd.fst), .int .i64 ((v1.snd.fst.snd i).snd.snd.fst), .int .i64 ((v1.snd.fst.snd i).snd.snd.snd.fst)]))]] [] (.p (.bool (eqGains v0 v1))),
  ((0 : Nat) < 1),
  Con (Try.prog) 18 0 [] [.agg [.p (.int .i64 (v0.fst)), .p (.seq true 4 (v0.snd.fst.fst) (fun i => [.int .i64 ((v0.snd.fst.snd i).fst), .int .i64 ((v0.snd.fst.snd i).snd.fst), .int .i64 ((v0.snd.fst.snd i).snd.snd.fst), .int .i64 ((v0.snd.fst.snd i).snd.snd.snd.fst)]))]] [(0, ⟨false, 4, (v0.snd.fst.fst), (fun i => [.p (.int .i64 ((v0.snd.fst.snd i).fst)), .p (.int .i64 ((v0.snd.fst.snd i).snd.fst)), .p (.int .i64 ((v0.snd.fst.snd i).snd.snd.fst)), .p (.int .i64 ((v0.snd.fst.snd i).snd.snd.snd.fst))])⟩)] (.agg [.p (.int .i64 (v0.fst)), .ar 4 0 0 (v0.snd.fst.fst)]),
  ((0 : Nat) < 1),
  (((true) = true) → ((1 : Nat) = 1)),
  ((0 : Nat) < 1),
  Con (Try.prog) 18 0 [] [.agg [.p (.int .i64 (v1.fst)), .p (.seq true 4 (v1.snd.fst.fst) (fun i => [.int .i64 ((v1.snd.fst.snd i).fst), .int .i64 ((v1.snd.fst.snd i).snd.fst), .int .i64 ((v1.snd.fst.snd i).snd.snd.fst), .int .i64 ((v1.snd.fst.snd i).snd.snd.snd.fst)]))]] [(0, ⟨false, 4, (v1.snd.fst.fst), (fun i => [.p (.int .i64 ((v1.snd.fst.snd i).fst)), .p (.int .i64 ((v1.snd.fst.snd i).snd.fst)), .p (.int .i64 ((v1.snd.fst.snd i).snd.snd.fst)), .p (.int .i64 ((v1.snd.fst.snd i).snd.snd.snd.fst))])⟩)] (.agg [.p (.int .i64 (v1.fst)), .ar 4 0 0 (v1.snd.fst.fst)]),
  ((0 : Nat) < 1),
  (((true) = true) → ((1 : Nat) = 1)),
  ((0 : Nat) < 1),
  ((0 : Nat) < 1),
  ((4 : Nat) = 4),
  (((v0.snd.fst.fst) : Nat) ≤ (v0.snd.fst.fst)),
  ((4 : Nat) = 4),
  (((v1.snd.fst.fst) : Nat) ≤ (v1.snd.fst.fst)),
  Con (Try.prog) 22 0 [] [.agg [.p (.int .i64 (v0.fst)), .p (.seq true 4 (v0.snd.fst.fst) (fun i => [.int .i64 ((v0.snd.fst.snd i).fst), .int .i64 ((v0.snd.fst.snd i).snd.fst), .int .i64 ((v0.snd.fst.snd i).snd.snd.fst), .int .i64 ((v0.snd.fst.snd i).snd.snd.snd.fst)]))], .agg [.p (.int .i64 (v1.fst)), .p (.seq true 4 (v1.snd.fst.fst) (fun i => [.int .i64 ((v1.snd.fst.snd i).fst), .int .i64 ((v1.snd.fst.snd i).snd.fst), .int .i64 ((v1.snd.fst.snd i).snd.snd.fst), .int .i64 ((v1.snd.fst.snd i).snd.snd.snd.fst)]))]] [] (.p (.bool (eqGains v0 v1))),
  ((!eqGains v0 v1 == eqGains v0 v1) = false),
  ((0 : Nat) < 1),
  ((0 : Nat) < 1),
  Con (Try.prog) 18 0 [] [.agg [.p (.int .i64 (v0.fst)), .p (.seq true 4 (v0.snd.fst.fst) (fun i => [.int .i64 ((v0.snd.fst.snd i).fst), .int .i64 ((v0.snd.fst.snd i).snd.fst), .int .i64 ((v0.snd.fst.snd i).snd.snd.fst), .int .i64 ((v0.snd.fst.snd i).snd.snd.snd.fst)]))]] [(0, ⟨false, 4, (v0.snd.fst.fst), (fun i => [.p (.int .i64 ((v0.snd.fst.snd i).fst)), .p (.int .i64 ((v0.snd.fst.snd i).snd.fst)), .p (.int .i64 ((v0.snd.fst.snd i).snd.snd.fst)), .p (.int .i64 ((v0.snd.fst.snd i).snd.snd.snd.fst))])⟩)] (.agg [.p (.int .i64 (v0.fst)), .ar 4 0 0 (v0.snd.fst.fst)]),
  ((4 : Nat) = 4),
  (((v0.snd.fst.fst) : Nat) ≤ (v0.snd.fst.fst)),
  ((4 : Nat) = 4),
  (((v0.snd.fst.fst) : Nat) ≤ (v0.snd.fst.fst)),
  Con (Try.prog) 20 0 [] [.agg [.p (.int .i64 (v0.fst)), .p (.seq true 4 (v0.snd.fst.fst) (fun i => [.int .i64 ((v0.snd.fst.snd i).fst), .int .i64 ((v0.snd.fst.snd i).snd.fst), .int .i64 ((v0.snd.fst.snd i).snd.snd.fst), .int .i64 ((v0.snd.fst.snd i).snd.snd.snd.fst)]))], .agg [.p (.int .i64 (v0.fst)), .p (.seq true 4 (v0.snd.fst.fst) (fun i => [.int .i64 ((v0.snd.fst.snd i).fst), .int .i64 ((v0.snd.fst.snd i).snd.fst), .int .i64 ((v0.snd.fst.snd i).snd.snd.fst), .int .i64 ((v0.snd.fst.snd i).snd.snd.snd.fst)]))]] [] (.p (.bool true)),
  ((!true) = false),
  ((0 : Nat) < 1),
  ((0 : Nat) < 1),
  Con (Try.prog) 18 0 [] [.agg [.p (.int .i64 (v1.fst)), .p (.seq true 4 (v1.snd.fst.fst) (fun i => [.int .i64 ((v1.snd.fst.snd i).fst), .int .i64 ((v1.snd.fst.snd i).snd.fst), .int .i64 ((v1.snd.fst.snd i).snd.snd.fst), .int .i64 ((v1.snd.fst.snd i).snd.snd.snd.fst)]))]] [(0, ⟨false, 4, (v1.snd.fst.fst), (fun i => [.p (.int .i64 ((v1.snd.fst.snd i).fst)), .p (.int .i64 ((v1.snd.fst.snd i).snd.fst)), .p (.int .i64 ((v1.snd.fst.snd i).snd.snd.fst)), .p (.int .i64 ((v1.snd.fst.snd i).snd.snd.snd.fst))])⟩)] (.agg [.p (.int .i64 (v1.fst)), .ar 4 0 0 (v1.snd.fst.fst)]),
  ((4 : Nat) = 4),
  (((v1.snd.fst.fst) : Nat) ≤ (v1.snd.fst.fst)),
  ((4 : Nat) = 4),
  (((v1.snd.fst.fst) : Nat) ≤ (v1.snd.fst.fst)),
  Con (Try.prog) 20 0 [] [.agg [.p (.int .i64 (v1.fst)), .p (.seq true 4 (v1.snd.fst.fst) (fun i => [.int .i64 ((v1.snd.fst.snd i).fst), .int .i64 ((v1.snd.fst.snd i).snd.fst), .int .i64 ((v1.snd.fst.snd i).snd.snd.fst), .int .i64 ((v1.snd.fst.snd i).snd.snd.snd.fst)]))], .agg [.p (.int .i64 (v1.fst)), .p (.seq true 4 (v1.snd.fst.fst) (fun i => [.int .i64 ((v1.snd.fst.snd i).fst), .int .i64 ((v1.snd.fst.snd i).snd.fst), .int .i64 ((v1.snd.fst.snd i).snd.snd.fst), .int .i64 ((v1.snd.fst.snd i).snd.snd.snd.fst)]))]] [] (.p (.bool true)),
  ((!true) = false),
  (true = true)] := by kernel_rfl

theorem con_law_FnExactEqualGains (v0 : T_GainGraph) (v1 : T_GainGraph) (k0 : okS s_GainGraph v0) (k1 : okS s_GainGraph v1) : Con Try.prog 6 0 [] [.agg [.p (.int .i64 (v0.1)), .p (.seq true 4 (v0.2.1.1) (fun i => [.int .i64 ((v0.2.1.2 i).1), .int .i64 ((v0.2.1.2 i).2.1), .int .i64 ((v0.2.1.2 i).2.2.1), .int .i64 ((v0.2.1.2 i).2.2.2.1)]))], .agg [.p (.int .i64 (v1.1)), .p (.seq true 4 (v1.2.1.1) (fun i => [.int .i64 ((v1.2.1.2 i).1), .int .i64 ((v1.2.1.2 i).2.1), .int .i64 ((v1.2.1.2 i).2.2.1), .int .i64 ((v1.2.1.2 i).2.2.2.1)]))]] [] (.p (.bool true)) := by
  refine con_start Try.func6 rfl (by kernel_rfl) rfl (fun c hc => ?_)
  have l0 := le_szGainGraph v0 1048576 (by omega)
  by_cases g0 : (f_szGainGraph v0 1048576) < 0
  · refine path_ok mixed Try.func6 hc (p_FnExactEqualGains_0 v0 v1) ?_
    simp only [All]
    repeat' (first | exact trivial | with_reducible apply And.intro)
    all_goals (first | rfl | (intros; first | assumption | trivial | rfl | ((repeat' (first | assumption | apply anda | apply notf)); done)) | omega | (exact con_szGainGraph v0 k0 _ (by omega) (by omega)) | (simp; omega))
  have hs0 := sm_szGainGraph v0 1048576 (by omega) (by omega) g0
  have l1 := le_szGainGraph v1 (f_szGainGraph v0 1048576) (by omega)
  by_cases g1 : (f_szGainGraph v1 (f_szGainGraph v0 1048576)) < 0
  · refine path_ok mixed Try.func6 hc (p_FnExactEqualGains_1 v0 v1) ?_
    simp only [All]
    repeat' (first | exact trivial | with_reducible apply And.intro)
    all_goals (first | rfl | (intros; first | assumption | trivial | rfl | ((repeat' (first | assumption | apply anda | apply notf)); done)) | omega | (exact con_szGainGraph v0 k0 _ (by omega) (by omega)) | (exact con_szGainGraph v1 k1 _ (by omega) (by omega)) | (simp; omega))
  have hs1 := sm_szGainGraph v1 (f_szGainGraph v0 1048576) (by omega) (by omega) g1
  refine path_ok mixed Try.func6 hc (p_FnExactEqualGains_e v0 v1) ?_
  simp only [All]
  repeat' (first | exact trivial | with_reducible apply And.intro)
  all_goals (first | rfl | (intros; first | assumption | trivial | rfl | ((repeat' (first | assumption | apply anda | apply notf)); done)) | omega | (exact con_szGainGraph v0 k0 _ (by omega) (by omega)) | (exact con_szGainGraph v1 k1 _ (by omega) (by omega)) | (exact con_toGainGraph v0 hs0) | (exact con_toGainGraph v1 hs1) | (exact con_EqualGains_s v0 v1 hs0 hs1) | (exact con_EqualGains_i v0 v1 hs0 hs1) | (exact con_eqGainGraph v0 hs0) | (exact con_eqGainGraph v1 hs1) | (simp; try omega))

end Go.Proofs.Ytgddbgmnehkblaa.Mach
