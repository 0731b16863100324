/- The law FnExactUnrolledGraph as a contract: it answers true. Written by our own lawtop2.py. Conditions: lengths that values can have. -/
import Derived.Test.YthnidhkfelfkdabUnr
namespace Go.Proofs.Ythnidhkfelfkdab.Mach
open Go
set_option linter.unusedVariables false
set_option linter.unusedSimpArgs false

theorem p_FnExactUnrolledGraph_0 (v0 : T_GainGraph) :
    pathOb Try.prog Try.f5 0 [.reg [oT, oT], .reg [oT], .reg [oT, oT, ⟨true, (some ⟨[], [], 1, [], .p (.int .i64 (f_szGainGraph v0 1048576))⟩), none⟩, oT], .reg [oT, oT], .dec true, .reg [oT]] [.code (bodyOf Try.f5)] (start Try.f5 [] 0 [.agg [.p (.int .i64 (v0.1)), .p (.seq true 4 (v0.2.1.1) (fun i => [.int .i64 ((v0.2.1.2 i).1), .int .i64 ((v0.2.1.2 i).2.1), .int .i64 ((v0.2.1.2 i).2.2.1), .int .i64 ((v0.2.1.2 i).2.2.2.1)]))]]) [] 1 [] (.p (.bool true)) =
    some [((0 : Nat) < 1),
  Con (Try.prog) 21 0 [] [.agg [.p (.int .i64 (v0.fst)), .p (.seq true 4 (v0.snd.fst.fst) (fun i => [.int .i64 ((v0.snd.fst.snd i).fst), .int .i64 ((v0.snd.fst.snd i).snd.fst), .int .i64 ((v0.snd.fst.snd i).snd.snd.fst), .int .i64 ((v0.snd.fst.snd i).snd.snd.snd.fst)]))], .p (.int .i64 1048576)] [] (.p (.int .i64 (f_szGainGraph v0 1048576))),
  ((decide (f_szGainGraph v0 1048576 < 0)) = true),
  (true = true)] := by kernel_rfl
theorem p_FnExactUnrolledGraph_e (v0 : T_GainGraph) :
    pathOb Try.prog Try.f5 0 [.reg [oT, oT], .reg [oT], .reg [oT, oT, ⟨true, (some ⟨[], [], 1, [], .p (.int .i64 (f_szGainGraph v0 1048576))⟩), none⟩, oT], .reg [oT, oT], .dec false, .reg [oT, ⟨true, (some ⟨[], [], 1, [(0, ⟨false, 4, v0.2.1.1, fun i => [.p (.int .i64 ((v0.2.1.2 i).1)), .p (.int .i64 ((v0.2.1.2 i).2.1)), .p (.int .i64 ((v0.2.1.2 i).2.2.1)), .p (.int .i64 ((v0.2.1.2 i).2.2.2.1))]⟩)], .agg [.p (.int .i64 (v0.1)), .ar 4 0 0 (v0.2.1.1)]⟩), none⟩, ⟨true, (some ⟨[], [], 1, [(0, ⟨false, 2, (unG v0).2.1.1, fun i => [.p (.int .i64 (((unG v0).2.1.2 i).1)), .p (.int .i64 (((unG v0).2.1.2 i).2.1))]⟩)], .tup [.agg [.p (.int .i64 ((unG v0).1)), .ar 2 0 0 ((unG v0).2.1.1)], .p (.bool ((unB v0)))]⟩), none⟩, oT, oT, oT, oT, oT, oT], .reg [oT, ⟨true, (some ⟨[], [], 1, [(0, ⟨false, 4, v0.2.1.1, fun i => [.p (.int .i64 ((v0.2.1.2 i).1)), .p (.int .i64 ((v0.2.1.2 i).2.1)), .p (.int .i64 ((v0.2.1.2 i).2.2.1)), .p (.int .i64 ((v0.2.1.2 i).2.2.2.1))]⟩)], .agg [.p (.int .i64 (v0.1)), .ar 4 0 0 (v0.2.1.1)]⟩), none⟩, oT, oT], .reg [oT, ⟨true, (some ⟨[], [], 1, [(0, ⟨false, 2, (unG v0).2.1.1, fun i => [.p (.int .i64 (((unG v0).2.1.2 i).1)), .p (.int .i64 (((unG v0).2.1.2 i).2.1))]⟩)], .tup [.agg [.p (.int .i64 ((unG v0).1)), .ar 2 0 0 ((unG v0).2.1.1)], .p (.bool ((unB v0)))]⟩), none⟩, oT, oT, oT, oT, oT, oT], .reg [oT, oT, ⟨true, (some ⟨[], [], 1, [], .p (.bool true)⟩), none⟩, oT, oT, oT, oT, oT, oT], .dec false, .reg [oT, oT, ⟨true, (some ⟨[], [], 1, [(0, ⟨false, 4, v0.2.1.1, fun i => [.p (.int .i64 ((v0.2.1.2 i).1)), .p (.int .i64 ((v0.2.1.2 i).2.1)), .p (.int .i64 ((v0.2.1.2 i).2.2.1)), .p (.int .i64 ((v0.2.1.2 i).2.2.2.1))]⟩)], .agg [.p (.int .i64 (v0.1)), .ar 4 0 0 (v0.2.1.1)]⟩), none⟩, ⟨true, (some ⟨[], [], 1, [], .p (.bool true)⟩), none⟩, oT], .dec false, .reg [oT], .reg [oT, oT, ⟨true, (some ⟨[608], [], 1, [(0, ⟨false, 4, v0.2.1.1, fun i => [.p (.int .i64 (1 + 4 * (i : Int))), .p (.int .i64 (1 + 4 * (i : Int) + 1)), .p (.int .i64 (1 + 4 * (i : Int) + 2)), .p (.int .i64 (1 + 4 * (i : Int) + 3))]⟩)], .p (.int .i64 (1 + 4 * (v0.2.1.1 : Int)))⟩), none⟩, oT], .reg [oT, oT, oT, oT, oT, ⟨true, (some ⟨[], [], 1, [], .p (.bool true)⟩), none⟩, oT, oT, oT, oT, oT, oT, oT], .dec false, .reg [oT], .reg [oT, oT, ⟨true, (some ⟨[736], [], 1, [(0, ⟨false, 2, (unG v0).2.1.1, fun i => [.p (.int .i64 (1 + 2 * (i : Int))), .p (.int .i64 (1 + 2 * (i : Int) + 1))]⟩)], .p (.int .i64 (1 + 2 * ((unG v0).2.1.1 : Int)))⟩), none⟩, oT], .reg [oT], .reg [oT, oT, ⟨true, (some ⟨[], [], 1, [], .p (.int .i64 (1 + 2 * ((unG v0).2.1.1 : Int)))⟩), none⟩, oT], .reg [oT, oT], .dec false, .reg [oT, oT, oT], .dec false, .reg [oT, ⟨true, (some ⟨[], [], 1, [(0, ⟨false, 4, v0.2.1.1, fun i => [.p (.int .i64 ((v0.2.1.2 i).1)), .p (.int .i64 ((v0.2.1.2 i).2.1)), .p (.int .i64 ((v0.2.1.2 i).2.2.1)), .p (.int .i64 ((v0.2.1.2 i).2.2.2.1))]⟩)], .agg [.p (.int .i64 (v0.1)), .ar 4 0 0 (v0.2.1.1)]⟩), none⟩, ⟨true, (some ⟨[], [], 1, [(0, ⟨false, 2, (unG v0).2.1.1, fun i => [.p (.int .i64 (((unG v0).2.1.2 i).1)), .p (.int .i64 (((unG v0).2.1.2 i).2.1))]⟩)], .tup [.agg [.p (.int .i64 ((unG v0).1)), .ar 2 0 0 ((unG v0).2.1.1)], .p (.bool ((unB v0)))]⟩), none⟩, oT, oT, oT, oT, oT, oT], .reg [oT, oT, ⟨true, (some ⟨[], [], 1, [], .p (.bool true)⟩), none⟩, oT, oT, oT, oT, oT, oT], .dec false, .reg [oT], .reg [oT, oT, ⟨true, (some ⟨[], [], 1, [], .p (.int .i64 (1 + 2 * ((unG v0).2.1.1 : Int)))⟩), none⟩, oT], .reg [oT, oT], .dec false, .reg [oT, oT, oT], .dec false, .reg [oT]] [.code (bodyOf Try.f5)] (start Try.f5 [] 0 [.agg [.p (.int .i64 (v0.1)), .p (.seq true 4 (v0.2.1.1) (fun i => [.int .i64 ((v0.2.1.2 i).1), .int .i64 ((v0.2.1.2 i).2.1), .int .i64 ((v0.2.1.2 i).2.2.1), .int .i64 ((v0.2.1.2 i).2.2.2.1)]))]]) [] 1 [] (.p (.bool true)) =
    some [((0 : Nat) < 1),
  Con (Try.prog) 21 0 [] [.agg [.p (.int .i64 (v0.fst)), .p (.seq true 4 (v0.snd.fst.fst) (fun i => [.int .i64 ((v0.snd.fst.snd i).fst), .int .i64 ((v0.snd.fst.snd i).snd.fst), .int .i64 ((v0.snd.fst.snd i).snd.snd.fst), .int .i64 ((v0.snd.fst.snd i).snd.snd.snd.fst)]))], .p (.int .i64 1048576)] [] (.p (.int .i64 (f_szGainGraph v0 1048576))),
  ((decide (f_szGainGraph v0 1048576 < 0)) = false),
  ((0 : Nat) < 1),
  Con (Try.prog) 23 0 [] [.agg [.p (.int .i64 (v0.fst)), .p (.seq true 4 (v0.snd.fst.fst) (fun i => [.int .i64 ((v0.snd.fst.snd i).fst), .int .i64 ((v0.snd.fst.snd i).snd.fst), .int .i64 ((v0.snd.fst.snd i).snd.snd.fst), .int .i64 ((v0.snd.fst.snd i).snd.snd.snd.fst)]))]] [(0, ⟨false, 4, (v0.snd.fst.fst), (fun i => [.p (.int .i64 ((v0.snd.fst.snd i).fst)), .p (.int .i64 ((v0.snd.fst.snd i).snd.fst)), .p (.int .i64 ((v0.snd.fst.snd i).snd.snd.fst)), .p (.int .i64 ((v0.snd.fst.snd i).snd.snd.snd.fst))])⟩)] (.agg [.p (.int .i64 (v0.fst)), .ar 4 0 0 (v0.snd.fst.fst)]),
  ((4 : Nat) = 4),
  (((v0.snd.fst.fst) : Nat) ≤ (v0.snd.fst.fst)),
  Con (Try.prog) 22 0 [] [.agg [.p (.int .i64 (v0.fst)), .p (.seq true 4 (v0.snd.fst.fst) (fun i => [.int .i64 ((v0.snd.fst.snd i).fst), .int .i64 ((v0.snd.fst.snd i).snd.fst), .int .i64 ((v0.snd.fst.snd i).snd.snd.fst), .int .i64 ((v0.snd.fst.snd i).snd.snd.snd.fst)]))]] [(0, ⟨false, 2, ((unG v0).snd.fst.fst), (fun i => [.p (.int .i64 (((unG v0).snd.fst.snd i).fst)), .p (.int .i64 (((unG v0).snd.fst.snd i).snd.fst))])⟩)] (.tup [.agg [.p (.int .i64 ((unG v0).fst)), .ar 2 0 0 ((unG v0).snd.fst.fst)], .p (.bool (unB v0))]),
  ((0 : Nat) < 1),
  (((true) = true) → ((1 : Nat) = 1)),
  ((0 : Nat) < 1),
  Con (Try.prog) 23 0 [] [.agg [.p (.int .i64 (v0.fst)), .p (.seq true 4 (v0.snd.fst.fst) (fun i => [.int .i64 ((v0.snd.fst.snd i).fst), .int .i64 ((v0.snd.fst.snd i).snd.fst), .int .i64 ((v0.snd.fst.snd i).snd.snd.fst), .int .i64 ((v0.snd.fst.snd i).snd.snd.snd.fst)]))]] [(0, ⟨false, 4, (v0.snd.fst.fst), (fun i => [.p (.int .i64 ((v0.snd.fst.snd i).fst)), .p (.int .i64 ((v0.snd.fst.snd i).snd.fst)), .p (.int .i64 ((v0.snd.fst.snd i).snd.snd.fst)), .p (.int .i64 ((v0.snd.fst.snd i).snd.snd.snd.fst))])⟩)] (.agg [.p (.int .i64 (v0.fst)), .ar 4 0 0 (v0.snd.fst.fst)]),
  ((0 : Nat) < 1),
  (((true) = true) → ((1 : Nat) = 1)),
  ((0 : Nat) < 1),
  ((4 : Nat) = 4),
  (((v0.snd.fst.fst) : Nat) ≤ (v0.snd.fst.fst)),
  Con (Try.prog) 24 0 [] [.agg [.p (.int .i64 (v0.fst)), .p (.seq true 4 (v0.snd.fst.fst) (fun i => [.int .i64 ((v0.snd.fst.snd i).fst), .int .i64 ((v0.snd.fst.snd i).snd.fst), .int .i64 ((v0.snd.fst.snd i).snd.snd.fst), .int .i64 ((v0.snd.fst.snd i).snd.snd.snd.fst)]))]] [(0, ⟨false, 2, ((unG v0).snd.fst.fst), (fun i => [.p (.int .i64 (((unG v0).snd.fst.snd i).fst)), .p (.int .i64 (((unG v0).snd.fst.snd i).snd.fst))])⟩)] (.tup [.agg [.p (.int .i64 ((unG v0).fst)), .ar 2 0 0 ((unG v0).snd.fst.fst)], .p (.bool (unB v0))]),
  ((0 : Nat) < 1),
  (((true) = true) → ((1 : Nat) = 1)),
  ((0 : Nat) < 1),
  ((0 : Nat) < 1),
  ((2 : Nat) = 2),
  ((((unG v0).snd.fst.fst) : Nat) ≤ ((unG v0).snd.fst.fst)),
  ((2 : Nat) = 2),
  ((((unG v0).snd.fst.fst) : Nat) ≤ ((unG v0).snd.fst.fst)),
  Con (Try.prog) 13 0 [] [.agg [.p (.int .i64 ((unG v0).fst)), .p (.seq true 2 ((unG v0).snd.fst.fst) (fun i => [.int .i64 (((unG v0).snd.fst.snd i).fst), .int .i64 (((unG v0).snd.fst.snd i).snd.fst)]))], .agg [.p (.int .i64 ((unG v0).fst)), .p (.seq true 2 ((unG v0).snd.fst.fst) (fun i => [.int .i64 (((unG v0).snd.fst.snd i).fst), .int .i64 (((unG v0).snd.fst.snd i).snd.fst)]))]] [] (.p (.bool true)),
  (((!!true) = true) → ((!!true) = true)),
  (((!!true) = true) → ((!!true) = true)),
  (((!true) = false) → ((!!true) = true)),
  ((bif !true then true else !unB v0 == unB v0) = false),
  ((0 : Nat) < 1),
  ((0 : Nat) < 1),
  Con (Try.prog) 23 0 [] [.agg [.p (.int .i64 (v0.fst)), .p (.seq true 4 (v0.snd.fst.fst) (fun i => [.int .i64 ((v0.snd.fst.snd i).fst), .int .i64 ((v0.snd.fst.snd i).snd.fst), .int .i64 ((v0.snd.fst.snd i).snd.snd.fst), .int .i64 ((v0.snd.fst.snd i).snd.snd.snd.fst)]))]] [(0, ⟨false, 4, (v0.snd.fst.fst), (fun i => [.p (.int .i64 ((v0.snd.fst.snd i).fst)), .p (.int .i64 ((v0.snd.fst.snd i).snd.fst)), .p (.int .i64 ((v0.snd.fst.snd i).snd.snd.fst)), .p (.int .i64 ((v0.snd.fst.snd i).snd.snd.snd.fst))])⟩)] (.agg [.p (.int .i64 (v0.fst)), .ar 4 0 0 (v0.snd.fst.fst)]),
  ((4 : Nat) = 4),
  (((v0.snd.fst.fst) : Nat) ≤ (v0.snd.fst.fst)),
  ((4 : Nat) = 4),
  (((v0.snd.fst.fst) : Nat) ≤ (v0.snd.fst.fst)),
  Con (Try.prog) 25 0 [] [.agg [.p (.int .i64 (v0.fst)), .p (.seq true 4 (v0.snd.fst.fst) (fun i => [.int .i64 ((v0.snd.fst.snd i).fst), .int .i64 ((v0.snd.fst.snd i).snd.fst), .int .i64 ((v0.snd.fst.snd i).snd.snd.fst), .int .i64 ((v0.snd.fst.snd i).snd.snd.snd.fst)]))], .agg [.p (.int .i64 (v0.fst)), .p (.seq true 4 (v0.snd.fst.fst) (fun i => [.int .i64 ((v0.snd.fst.snd i).fst), .int .i64 ((v0.snd.fst.snd i).snd.fst), .int .i64 ((v0.snd.fst.snd i).snd.snd.fst), .int .i64 ((v0.snd.fst.snd i).snd.snd.snd.fst)]))]] [] (.p (.bool true)),
  ((!true) = false),
  ((0 : Nat) < 1),
  (∀ i : Nat, ((((i) : Nat) < (v0.snd.fst.fst)) → All [])),
  Con (Try.prog) 26 1 [(0, ⟨false, 4, (v0.snd.fst.fst), (fun i => [.p (.int .i64 ((v0.snd.fst.snd i).fst)), .p (.int .i64 ((v0.snd.fst.snd i).snd.fst)), .p (.int .i64 ((v0.snd.fst.snd i).snd.snd.fst)), .p (.int .i64 ((v0.snd.fst.snd i).snd.snd.snd.fst))])⟩)] [.agg [.p (.int .i64 (v0.fst)), .ar 4 0 0 (v0.snd.fst.fst)], .p (.int .i64 1)] [(0, ⟨false, 4, (v0.snd.fst.fst), (fun i => [.p (.int .i64 (1 + 4 * (↑i : Int))), .p (.int .i64 (1 + 4 * (↑i : Int) + 1)), .p (.int .i64 (1 + 4 * (↑i : Int) + 2)), .p (.int .i64 (1 + 4 * (↑i : Int) + 3))])⟩)] (.p (.int .i64 (1 + 4 * (↑v0.snd.fst.fst : Int)))),
  (((!decide (1 + 4 * (↑v0.snd.fst.fst : Int) < 0)) = true) → ((0 : Nat) < 1)),
  (((!decide (1 + 4 * (↑v0.snd.fst.fst : Int) < 0)) = true) → ((0 : Nat) < 1)),
  (((!decide (1 + 4 * (↑v0.snd.fst.fst : Int) < 0)) = true) → ((!decide (1 + 4 * (↑v0.snd.fst.fst : Int) < 0)) = true)),
  (((!decide (1 + 4 * (↑v0.snd.fst.fst : Int) < 0)) = true) → ((!decide (1 + 4 * (↑v0.snd.fst.fst : Int) < 0)) = true)),
  (((!decide (1 + 4 * (↑v0.snd.fst.fst : Int) < 0)) = true) → ((2 : Nat) = 2)),
  (((!decide (1 + 4 * (↑v0.snd.fst.fst : Int) < 0)) = true) → ((((unG v0).snd.fst.fst) : Nat) ≤ ((unG v0).snd.fst.fst))),
  (((!decide (1 + 4 * (↑v0.snd.fst.fst : Int) < 0)) = true) → ((2 : Nat) = 2)),
  (((!decide (1 + 4 * (↑v0.snd.fst.fst : Int) < 0)) = true) → ((((unG v0).snd.fst.fst) : Nat) ≤ ((unG v0).snd.fst.fst))),
  (((!decide (1 + 4 * (↑v0.snd.fst.fst : Int) < 0)) = true) → Con (Try.prog) 13 0 [] [.agg [.p (.int .i64 ((unG v0).fst)), .p (.seq true 2 ((unG v0).snd.fst.fst) (fun i => [.int .i64 (((unG v0).snd.fst.snd i).fst), .int .i64 (((unG v0).snd.fst.snd i).snd.fst)]))], .agg [.p (.int .i64 ((unG v0).fst)), .p (.seq true 2 ((unG v0).snd.fst.fst) (fun i => [.int .i64 (((unG v0).snd.fst.snd i).fst), .int .i64 (((unG v0).snd.fst.snd i).snd.fst)]))]] [] (.p (.bool true))),
  (((!decide (1 + 4 * (↑v0.snd.fst.fst : Int) < 0)) = true) → ((!decide (1 + 4 * (↑v0.snd.fst.fst : Int) < 0)) = true)),
  (((decide (1 + 4 * (↑v0.snd.fst.fst : Int) < 0)) = false) → ((!decide (1 + 4 * (↑v0.snd.fst.fst : Int) < 0)) = true)),
  (((!bif decide (1 + 4 * (↑v0.snd.fst.fst : Int) < 0) then true else !true) = true) → ((!bif decide (1 + 4 * (↑v0.snd.fst.fst : Int) < 0) then true else !true) = true)),
  (((!bif decide (1 + 4 * (↑v0.snd.fst.fst : Int) < 0) then true else !true) = true) → ((!bif decide (1 + 4 * (↑v0.snd.fst.fst : Int) < 0) then true else !true) = true)),
  (((bif decide (1 + 4 * (↑v0.snd.fst.fst : Int) < 0) then true else !true) = false) → ((!bif decide (1 + 4 * (↑v0.snd.fst.fst : Int) < 0) then true else !true) = true)),
  ((bif bif decide (1 + 4 * (↑v0.snd.fst.fst : Int) < 0) then true else !true then true else !unB v0 == unB v0) = false),
  ((0 : Nat) < 1),
  (∀ i : Nat, ((((i) : Nat) < ((unG v0).snd.fst.fst)) → All [])),
  Con (Try.prog) 18 1 [(0, ⟨false, 2, ((unG v0).snd.fst.fst), (fun i => [.p (.int .i64 (((unG v0).snd.fst.snd i).fst)), .p (.int .i64 (((unG v0).snd.fst.snd i).snd.fst))])⟩)] [.agg [.p (.int .i64 ((unG v0).fst)), .ar 2 0 0 ((unG v0).snd.fst.fst)], .p (.int .i64 1)] [(0, ⟨false, 2, ((unG v0).snd.fst.fst), (fun i => [.p (.int .i64 (1 + 2 * (↑i : Int))), .p (.int .i64 (1 + 2 * (↑i : Int) + 1))])⟩)] (.p (.int .i64 (1 + 2 * (↑(unG v0).snd.fst.fst : Int)))),
  ((0 : Nat) < 1),
  ((2 : Nat) = 2),
  ((((unG v0).snd.fst.fst) : Nat) ≤ ((unG v0).snd.fst.fst)),
  Con (Try.prog) 20 0 [] [.agg [.p (.int .i64 ((unG v0).fst)), .p (.seq true 2 ((unG v0).snd.fst.fst) (fun i => [.int .i64 (1 + 2 * (↑i : Int)), .int .i64 (1 + 2 * (↑i : Int) + 1)]))], .p (.int .i64 1)] [] (.p (.int .i64 (1 + 2 * (↑(unG v0).snd.fst.fst : Int)))),
  ((decide (1 + 2 * (↑(unG v0).snd.fst.fst : Int) < 0)) = false),
  ((1 + 2 * (↑(unG v0).snd.fst.fst : Int) != 1 + 2 * (↑(unG v0).snd.fst.fst : Int)) = false),
  ((0 : Nat) < 1),
  Con (Try.prog) 23 0 [] [.agg [.p (.int .i64 (v0.fst)), .p (.seq true 4 (v0.snd.fst.fst) (fun i => [.int .i64 ((v0.snd.fst.snd i).fst), .int .i64 ((v0.snd.fst.snd i).snd.fst), .int .i64 ((v0.snd.fst.snd i).snd.snd.fst), .int .i64 ((v0.snd.fst.snd i).snd.snd.snd.fst)]))]] [(0, ⟨false, 4, (v0.snd.fst.fst), (fun i => [.p (.int .i64 ((v0.snd.fst.snd i).fst)), .p (.int .i64 ((v0.snd.fst.snd i).snd.fst)), .p (.int .i64 ((v0.snd.fst.snd i).snd.snd.fst)), .p (.int .i64 ((v0.snd.fst.snd i).snd.snd.snd.fst))])⟩)] (.agg [.p (.int .i64 (v0.fst)), .ar 4 0 0 (v0.snd.fst.fst)]),
  ((4 : Nat) = 4),
  (((v0.snd.fst.fst) : Nat) ≤ (v0.snd.fst.fst)),
  Con (Try.prog) 24 0 [] [.agg [.p (.int .i64 (v0.fst)), .p (.seq true 4 (v0.snd.fst.fst) (fun i => [.int .i64 ((v0.snd.fst.snd i).fst), .int .i64 ((v0.snd.fst.snd i).snd.fst), .int .i64 ((v0.snd.fst.snd i).snd.snd.fst), .int .i64 ((v0.snd.fst.snd i).snd.snd.snd.fst)]))]] [(0, ⟨false, 2, ((unG v0).snd.fst.fst), (fun i => [.p (.int .i64 (((unG v0).snd.fst.snd i).fst)), .p (.int .i64 (((unG v0).snd.fst.snd i).snd.fst))])⟩)] (.tup [.agg [.p (.int .i64 ((unG v0).fst)), .ar 2 0 0 ((unG v0).snd.fst.fst)], .p (.bool (unB v0))]),
  ((0 : Nat) < 1),
  (((true) = true) → ((1 : Nat) = 1)),
  ((0 : Nat) < 1),
  ((0 : Nat) < 1),
  ((2 : Nat) = 2),
  ((((unG v0).snd.fst.fst) : Nat) ≤ ((unG v0).snd.fst.fst)),
  ((2 : Nat) = 2),
  ((((unG v0).snd.fst.fst) : Nat) ≤ ((unG v0).snd.fst.fst)),
  Con (Try.prog) 13 0 [] [.agg [.p (.int .i64 ((unG v0).fst)), .p (.seq true 2 ((unG v0).snd.fst.fst) (fun i => [.int .i64 (((unG v0).snd.fst.snd i).fst), .int .i64 (((unG v0).snd.fst.snd i).snd.fst)]))], .agg [.p (.int .i64 ((unG v0).fst)), .p (.seq true 2 ((unG v0).snd.fst.fst) (fun i => [.int .i64 (((unG v0).snd.fst.snd i).fst), .int .i64 (((unG v0).snd.fst.snd i).snd.fst)]))]] [] (.p (.bool true)),
  (((!!true) = true) → ((!!true) = true)),
  (((!!true) = true) → ((!!true) = true)),
  (((!true) = false) → ((!!true) = true)),
  ((bif !true then true else !unB v0 == unB v0) = false),
  ((0 : Nat) < 1),
  ((2 : Nat) = 2),
  ((((unG v0).snd.fst.fst) : Nat) ≤ ((unG v0).snd.fst.fst)),
  Con (Try.prog) 20 0 [] [.agg [.p (.int .i64 ((unG v0).fst)), .p (.seq true 2 ((unG v0).snd.fst.fst) (fun i => [.int .i64 (1 + 2 * (↑i : Int)), .int .i64 (1 + 2 * (↑i : Int) + 1)]))], .p (.int .i64 1)] [] (.p (.int .i64 (1 + 2 * (↑(unG v0).snd.fst.fst : Int)))),
  ((decide (1 + 2 * (↑(unG v0).snd.fst.fst : Int) < 0)) = false),
  ((1 + 2 * (↑(unG v0).snd.fst.fst : Int) != 1 + 2 * (↑(unG v0).snd.fst.fst : Int)) = false),
  (true = true)] := by kernel_rfl

theorem con_law_FnExactUnrolledGraph (v0 : T_GainGraph) (k0 : okS s_GainGraph v0) : Con Try.prog 5 0 [] [.agg [.p (.int .i64 (v0.1)), .p (.seq true 4 (v0.2.1.1) (fun i => [.int .i64 ((v0.2.1.2 i).1), .int .i64 ((v0.2.1.2 i).2.1), .int .i64 ((v0.2.1.2 i).2.2.1), .int .i64 ((v0.2.1.2 i).2.2.2.1)]))]] [] (.p (.bool true)) := by
  refine con_start Try.func5 rfl (by kernel_rfl) rfl (fun c hc => ?_)
  have l0 := le_szGainGraph v0 1048576 (by omega)
  by_cases g0 : (f_szGainGraph v0 1048576) < 0
  · refine path_ok mixed Try.func5 hc (p_FnExactUnrolledGraph_0 v0) ?_
    simp only [All]
    repeat' (first | exact trivial | with_reducible apply And.intro)
    all_goals (first | omega | rfl | (intros; first | assumption | exact True.intro | rfl | exact absurd (show false = true by assumption) Bool.false_ne_true | ((repeat' (first | assumption | apply anda | apply notf)); done)) | (exact con_szGainGraph v0 k0 _ (by omega) (by omega)) | (simp; omega))
  have hs0 := sm_szGainGraph v0 1048576 (by omega) (by omega) g0
  have hr0 : smS s_Graph (unG v0) := sm_graph (by have := unG_le v0; omega)
  have n_0 : v0.2.1.1 ≤ 1048576 := hs0.2.1.1
  have n_1 : (unG v0).2.1.1 ≤ 1048576 := hr0.2.1.1
  refine path_ok mixed Try.func5 hc (p_FnExactUnrolledGraph_e v0) ?_
  simp only [All]
  repeat' (first | exact trivial | with_reducible apply And.intro)
  all_goals (first | omega | rfl | (intros; first | assumption | exact True.intro | rfl | exact absurd (show false = true by assumption) Bool.false_ne_true | ((repeat' (first | assumption | apply anda | apply notf)); done)) | (exact con_szGainGraph v0 k0 _ (by omega) (by omega)) | (exact con_toGainGraph v0 hs0) | (exact con_Unr_s v0 hs0) | (exact con_Unr_i v0 hs0) | (intros; exact con_eqGraph (unG v0) hr0) | (intros; exact con_eqGainGraph v0 hs0) | (intros; exact con_markGainGraph v0 _ hs0.2.1.1 (by omega) (by omega)) | (intros; exact con_markGraph (unG v0) _ hr0.2.1.1 (by omega) (by omega)) | (intros; exact con_heldGraph (unG v0) _ hr0.2.1.1 (by omega) (by omega)) | (intros; exact con_heldBarS _ _ (by omega) (by omega) (by omega)) | (cases unB v0 <;> rfl) | (simp; try omega))

end Go.Proofs.Ythnidhkfelfkdab.Mach
