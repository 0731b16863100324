/- The law FnExactApplyRepair as a contract: it answers true. Written by our own lawtop2.py. Conditions: lengths that values can have. -/
import Derived.Test.YtgdbnnmogddkaaaRep
namespace Go.Proofs.Ytgdbnnmogddkaaa.Mach
open Go
set_option linter.unusedVariables false
set_option linter.unusedSimpArgs false

theorem p_FnExactApplyRepair_0 (v0 : T_Pinned) (v1 : T_BarS) :
    pathOb Try.prog Try.f4 0 [.reg [oT, oT], .reg [oT], .reg [oT, oT, ⟨true, (some ⟨[], [], 1, [], .p (.int .i64 (f_szPinned v0 1048576))⟩), none⟩, oT], .reg [oT, oT], .dec true, .reg [oT]] [.code (bodyOf Try.f4)] (start Try.f4 [] 0 [.agg [.p (.int .i64 (v0.1.1)), .p (.seq true 2 (v0.1.2.1.1) (fun i => [.int .i64 ((v0.1.2.1.2 i).1), .int .i64 ((v0.1.2.1.2 i).2.1)])), .p (.seq true 1 (v0.2.1.1) (fun i => [.int .i64 ((v0.2.1.2 i))]))], .p (.seq true 2 (v1.1) (fun i => [.int .i64 ((v1.2 i).1), .int .i64 ((v1.2 i).2.1)]))]) [] 1 [] (.p (.bool true)) =
    some [((0 : Nat) < 1),
  Con (Try.prog) 11 0 [] [.agg [.p (.int .i64 (v0.fst.fst)), .p (.seq true 2 (v0.fst.snd.fst.fst) (fun i => [.int .i64 ((v0.fst.snd.fst.snd i).fst), .int .i64 ((v0.fst.snd.fst.snd i).snd.fst)])), .p (.seq true 1 (v0.snd.fst.fst) (fun i => [.int .i64 (v0.snd.fst.snd i)]))], .p (.int .i64 1048576)] [] (.p (.int .i64 (f_szPinned v0 1048576))),
  ((decide (f_szPinned v0 1048576 < 0)) = true),
  (true = true)] := by kernel_rfl
theorem p_FnExactApplyRepair_1 (v0 : T_Pinned) (v1 : T_BarS) :
    pathOb Try.prog Try.f4 0 [.reg [oT, oT], .reg [oT], .reg [oT, oT, ⟨true, (some ⟨[], [], 1, [], .p (.int .i64 (f_szPinned v0 1048576))⟩), none⟩, oT], .reg [oT, oT], .dec false, .reg [oT, oT, ⟨true, (some ⟨[], [], 1, [], .p (.int .i64 (f_szBarS v1 (f_szPinned v0 1048576)))⟩), none⟩, oT], .reg [oT, oT], .dec true, .reg [oT]] [.code (bodyOf Try.f4)] (start Try.f4 [] 0 [.agg [.p (.int .i64 (v0.1.1)), .p (.seq true 2 (v0.1.2.1.1) (fun i => [.int .i64 ((v0.1.2.1.2 i).1), .int .i64 ((v0.1.2.1.2 i).2.1)])), .p (.seq true 1 (v0.2.1.1) (fun i => [.int .i64 ((v0.2.1.2 i))]))], .p (.seq true 2 (v1.1) (fun i => [.int .i64 ((v1.2 i).1), .int .i64 ((v1.2 i).2.1)]))]) [] 1 [] (.p (.bool true)) =
    some [((0 : Nat) < 1),
  Con (Try.prog) 11 0 [] [.agg [.p (.int .i64 (v0.fst.fst)), .p (.seq true 2 (v0.fst.snd.fst.fst) (fun i => [.int .i64 ((v0.fst.snd.fst.snd i).fst), .int .i64 ((v0.fst.snd.fst.snd i).snd.fst)])), .p (.seq true 1 (v0.snd.fst.fst) (fun i => [.int .i64 (v0.snd.fst.snd i)]))], .p (.int .i64 1048576)] [] (.p (.int .i64 (f_szPinned v0 1048576))),
  ((decide (f_szPinned v0 1048576 < 0)) = false),
  Con (Try.prog) 16 0 [] [.p (.seq true 2 (v1.fst) (fun i => [.int .i64 ((v1.snd i).fst), .int .i64 ((v1.snd i).snd.fst)])), .p (.int .i64 (f_szPinned v0 1048576))] [] (.p (.int .i64 (f_szBarS v1 (f_szPinned v0 1048576)))),
  ((decide (f_szBarS v1 (f_szPinned v0 1048576) < 0)) = true),
  (true = true)] := by kernel_rfl
theorem p_FnExactApplyRepair_e (v0 : T_Pinned) (v1 : T_BarS) :
    pathOb Try.prog Try.f4 0 [.reg [oT, oT], .reg [oT], .reg [oT, oT, ⟨true, (some ⟨[], [], 1, [], .p (.int .i64 (f_szPinned v0 1048576))⟩), none⟩, oT], .reg [oT, oT], .dec false, .reg [oT, oT, ⟨true, (some ⟨[], [], 1, [], .p (.int .i64 (f_szBarS v1 (f_szPinned v0 1048576)))⟩), none⟩, oT], .reg [oT, oT], .dec false, .reg [oT, ⟨true, (some ⟨[], [], 1, [(0, ⟨false, 2, v0.1.2.1.1, fun i => [.p (.int .i64 ((v0.1.2.1.2 i).1)), .p (.int .i64 ((v0.1.2.1.2 i).2.1))]⟩), (1, ⟨false, 1, v0.2.1.1, fun i => [.p (.int .i64 ((v0.2.1.2 i)))]⟩)], .agg [.p (.int .i64 (v0.1.1)), .ar 2 0 0 (v0.1.2.1.1), .ar 1 1 0 (v0.2.1.1)]⟩), none⟩, oT, ⟨true, (some ⟨[], [], 1, [(0, ⟨false, 2, v1.1, fun i => [.p (.int .i64 ((v1.2 i).1)), .p (.int .i64 ((v1.2 i).2.1))]⟩)], .ar 2 0 0 (v1.1)⟩), none⟩, ⟨true, (some ⟨[], [], 1, [(0, ⟨false, 2, (arP v0 v1).1.2.1.1, fun i => [.p (.int .i64 (((arP v0 v1).1.2.1.2 i).1)), .p (.int .i64 (((arP v0 v1).1.2.1.2 i).2.1))]⟩), (1, ⟨false, 1, (arP v0 v1).2.1.1, fun i => [.p (.int .i64 (((arP v0 v1).2.1.2 i)))]⟩)], .tup [.agg [.p (.int .i64 ((arP v0 v1).1.1)), .ar 2 0 0 ((arP v0 v1).1.2.1.1), .ar 1 1 0 ((arP v0 v1).2.1.1)], .p (.bool ((arB v0 v1)))]⟩), none⟩, oT, oT, oT, oT, oT, oT], .reg [oT, ⟨true, (some ⟨[], [], 1, [(0, ⟨false, 2, v0.1.2.1.1, fun i => [.p (.int .i64 ((v0.1.2.1.2 i).1)), .p (.int .i64 ((v0.1.2.1.2 i).2.1))]⟩), (1, ⟨false, 1, v0.2.1.1, fun i => [.p (.int .i64 ((v0.2.1.2 i)))]⟩)], .agg [.p (.int .i64 (v0.1.1)), .ar 2 0 0 (v0.1.2.1.1), .ar 1 1 0 (v0.2.1.1)]⟩), none⟩, oT, oT], .reg [oT, ⟨true, (some ⟨[], [], 1, [(0, ⟨false, 2, v1.1, fun i => [.p (.int .i64 ((v1.2 i).1)), .p (.int .i64 ((v1.2 i).2.1))]⟩)], .ar 2 0 0 (v1.1)⟩), none⟩, oT], .reg [oT, oT, ⟨true, (some ⟨[], [], 1, [(0, ⟨false, 2, (arP v0 v1).1.2.1.1, fun i => [.p (.int .i64 (((arP v0 v1).1.2.1.2 i).1)), .p (.int .i64 (((arP v0 v1).1.2.1.2 i).2.1))]⟩), (1, ⟨false, 1, (arP v0 v1).2.1.1, fun i => [.p (.int .i64 (((arP v0 v1).2.1.2 i)))]⟩)], .tup [.agg [.p (.int .i64 ((arP v0 v1).1.1)), .ar 2 0 0 ((arP v0 v1).1.2.1.1), .ar 1 1 0 ((arP v0 v1).2.1.1)], .p (.bool ((arB v0 v1)))]⟩), none⟩, oT, oT, oT, oT, oT, oT], .reg [oT, oT, ⟨true, (some ⟨[], [], 1, [], .p (.bool true)⟩), none⟩, oT, oT, oT, oT, oT, oT], .dec false, .reg [oT, oT, ⟨true, (some ⟨[], [], 1, [(0, ⟨false, 2, v0.1.2.1.1, fun i => [.p (.int .i64 ((v0.1.2.1.2 i).1)), .p (.int .i64 ((v0.1.2.1.2 i).2.1))]⟩), (1, ⟨false, 1, v0.2.1.1, fun i => [.p (.int .i64 ((v0.2.1.2 i)))]⟩)], .agg [.p (.int .i64 (v0.1.1)), .ar 2 0 0 (v0.1.2.1.1), .ar 1 1 0 (v0.2.1.1)]⟩), none⟩, ⟨true, (some ⟨[], [], 1, [], .p (.bool true)⟩), none⟩, oT], .dec false, .reg [oT, oT, ⟨true, (some ⟨[], [], 1, [(0, ⟨false, 2, v1.1, fun i => [.p (.int .i64 ((v1.2 i).1)), .p (.int .i64 ((v1.2 i).2.1))]⟩)], .ar 2 0 0 (v1.1)⟩), none⟩, ⟨true, (some ⟨[], [], 1, [], .p (.bool true)⟩), none⟩, oT], .dec false, .reg [oT], .reg [oT, oT, ⟨true, (some ⟨[864, 865], [], 1, [(0, ⟨false, 2, v0.1.2.1.1, fun i => [.p (.int .i64 (1 + 2 * (i : Int))), .p (.int .i64 (1 + 2 * (i : Int) + 1))]⟩), (1, ⟨false, 1, v0.2.1.1, fun i => [.p (.int .i64 (1 + 2 * (v0.1.2.1.1 : Int) + (i : Int)))]⟩)], .p (.int .i64 (1 + 2 * (v0.1.2.1.1 : Int) + (v0.2.1.1 : Int)))⟩), none⟩, oT], .reg [oT, oT, ⟨true, (some ⟨[992], [], 1, [(0, ⟨false, 2, v1.1, fun i => [.p (.int .i64 (1 + 2 * (v0.1.2.1.1 : Int) + (v0.2.1.1 : Int) + 2 * (i : Int))), .p (.int .i64 (1 + 2 * (v0.1.2.1.1 : Int) + (v0.2.1.1 : Int) + 2 * (i : Int) + 1))]⟩)], .p (.int .i64 (1 + 2 * (v0.1.2.1.1 : Int) + (v0.2.1.1 : Int) + 2 * (v1.1 : Int)))⟩), none⟩, oT], .reg [oT, oT, oT, oT, oT, ⟨true, (some ⟨[], [], 1, [], .p (.bool true)⟩), none⟩, oT, oT, oT, oT, oT, oT, oT], .dec false, .reg [oT], .reg [oT, oT, ⟨true, (some ⟨[1120, 1121], [], 1, [(0, ⟨false, 2, (arP v0 v1).1.2.1.1, fun i => [.p (.int .i64 (1 + 2 * (i : Int))), .p (.int .i64 (1 + 2 * (i : Int) + 1))]⟩), (1, ⟨false, 1, (arP v0 v1).2.1.1, fun i => [.p (.int .i64 (1 + 2 * ((arP v0 v1).1.2.1.1 : Int) + (i : Int)))]⟩)], .p (.int .i64 (1 + 2 * ((arP v0 v1).1.2.1.1 : Int) + ((arP v0 v1).2.1.1 : Int)))⟩), none⟩, oT], .reg [oT], .reg [oT, oT, ⟨true, (some ⟨[], [], 1, [], .p (.int .i64 (1 + 2 * ((arP v0 v1).1.2.1.1 : Int) + ((arP v0 v1).2.1.1 : Int)))⟩), none⟩, oT], .reg [oT, oT], .dec false, .reg [oT, oT, oT], .dec false, .reg [oT, ⟨true, (some ⟨[], [], 1, [(0, ⟨false, 2, v0.1.2.1.1, fun i => [.p (.int .i64 ((v0.1.2.1.2 i).1)), .p (.int .i64 ((v0.1.2.1.2 i).2.1))]⟩), (1, ⟨false, 1, v0.2.1.1, fun i => [.p (.int .i64 ((v0.2.1.2 i)))]⟩)], .agg [.p (.int .i64 (v0.1.1)), .ar 2 0 0 (v0.1.2.1.1), .ar 1 1 0 (v0.2.1.1)]⟩), none⟩, oT, ⟨true, (some ⟨[], [], 1, [(0, ⟨false, 2, v1.1, fun i => [.p (.int .i64 ((v1.2 i).1)), .p (.int .i64 ((v1.2 i).2.1))]⟩)], .ar 2 0 0 (v1.1)⟩), none⟩, ⟨true, (some ⟨[], [], 1, [(0, ⟨false, 2, (arP v0 v1).1.2.1.1, fun i => [.p (.int .i64 (((arP v0 v1).1.2.1.2 i).1)), .p (.int .i64 (((arP v0 v1).1.2.1.2 i).2.1))]⟩), (1, ⟨false, 1, (arP v0 v1).2.1.1, fun i => [.p (.int .i64 (((arP v0 v1).2.1.2 i)))]⟩)], .tup [.agg [.p (.int .i64 ((arP v0 v1).1.1)), .ar 2 0 0 ((arP v0 v1).1.2.1.1), .ar 1 1 0 ((arP v0 v1).2.1.1)], .p (.bool ((arB v0 v1)))]⟩), none⟩, oT, oT, oT, oT, oT, oT], .reg [oT, oT, ⟨true, (some ⟨[], [], 1, [], .p (.bool true)⟩), none⟩, oT, oT, oT, oT, oT, oT], .dec false, .reg [oT], .reg [oT, oT, ⟨true, (some ⟨[], [], 1, [], .p (.int .i64 (1 + 2 * ((arP v0 v1).1.2.1.1 : Int) + ((arP v0 v1).2.1.1 : Int)))⟩), none⟩, oT], .reg [oT, oT], .dec false, .reg [oT, oT, oT], .dec false, .reg [oT]] [.code (bodyOf Try.f4)] (start Try.f4 [] 0 [.agg [.p (.int .i64 (v0.1.1)), .p (.seq true 2 (v0.1.2.1.1) (fun i => [.int .i64 ((v0.1.2.1.2 i).1), .int .i64 ((v0.1.2.1.2 i).2.1)])), .p (.seq true 1 (v0.2.1.1) (fun i => [.int .i64 ((v0.2.1.2 i))]))], .p (.seq true 2 (v1.1) (fun i => [.int .i64 ((v1.2 i).1), .int .i64 ((v1.2 i).2.1)]))]) [] 1 [] (.p (.bool true)) =
    some [((0 : Nat) < 1),
  Con (Try.prog) 11 0 [] [.agg [.p (.int .i64 (v0.fst.fst)), .p (.seq true 2 (v0.fst.snd.fst.fst) (fun i => [.int .i64 ((v0.fst.snd.fst.snd i).fst), .int .i64 ((v0.fst.snd.fst.snd i).snd.fst)])), .p (.seq true 1 (v0.snd.fst.fst) (fun i => [.int .i64 (v0.snd.fst.snd i)]))], .p (.int .i64 1048576)] [] (.p (.int .i64 (f_szPinned v0 1048576))),
  ((decide (f_szPinned v0 1048576 < 0)) = false),
  Con (Try.prog) 16 0 [] [.p (.seq true 2 (v1.fst) (fun i => [.int .i64 ((v1.snd i).fst), .int .i64 ((v1.snd i).snd.fst)])), .p (.int .i64 (f_szPinned v0 1048576))] [] (.p (.int .i64 (f_szBarS v1 (f_szPinned v0 1048576)))),
  ((decide (f_szBarS v1 (f_szPinned v0 1048576) < 0)) = false),
  ((0 : Nat) < 1),
  Con (Try.prog) 13 0 [] [.agg [.p (.int .i64 (v0.fst.fst)), .p (.seq true 2 (v0.fst.snd.fst.fst) (fun i => [.int .i64 ((v0.fst.snd.fst.snd i).fst), .int .i64 ((v0.fst.snd.fst.snd i).snd.fst)])), .p (.seq true 1 (v0.snd.fst.fst) (fun i => [.int .i64 (v0.snd.fst.snd i)]))]] [(0, ⟨false, 2, (v0.fst.snd.fst.fst), (fun i => [.p (.int .i64 ((v0.fst.snd.fst.snd i).fst)), .p (.int .i64 ((v0.fst.snd.fst.snd i).snd.fst))])⟩), (1, ⟨false, 1, (v0.snd.fst.fst), (fun i => [.p (.int .i64 (v0.snd.fst.snd i))])⟩)] (.agg [.p (.int .i64 (v0.fst.fst)), .ar 2 0 0 (v0.fst.snd.fst.fst), .ar 1 1 0 (v0.snd.fst.fst)]),
  Con (Try.prog) 18 0 [] [.p (.seq true 2 (v1.fst) (fun i => [.int .i64 ((v1.snd i).fst), .int .i64 ((v1.snd i).snd.fst)]))] [(0, ⟨false, 2, (v1.fst), (fun i => [.p (.int .i64 ((v1.snd i).fst)), .p (.int .i64 ((v1.snd i).snd.fst))])⟩)] (.ar 2 0 0 (v1.fst)),
  ((2 : Nat) = 2),
  (((v0.fst.snd.fst.fst) : Nat) ≤ (v0.fst.snd.fst.fst)),
  ((1 : Nat) = 1),
  (((v0.snd.fst.fst) : Nat) ≤ (v0.snd.fst.fst)),
  ((2 : Nat) = 2),
  (((v1.fst) : Nat) ≤ (v1.fst)),
  Con (Try.prog) 17 0 [] [.agg [.p (.int .i64 (v0.fst.fst)), .p (.seq true 2 (v0.fst.snd.fst.fst) (fun i => [.int .i64 ((v0.fst.snd.fst.snd i).fst), .int .i64 ((v0.fst.snd.fst.snd i).snd.fst)])), .p (.seq true 1 (v0.snd.fst.fst) (fun i => [.int .i64 (v0.snd.fst.snd i)]))], .p (.seq true 2 (v1.fst) (fun i => [.int .i64 ((v1.snd i).fst), .int .i64 ((v1.snd i).snd.fst)]))] [(0, ⟨false, 2, ((arP v0 v1).fst.snd.fst.fst), (fun i => [.p (.int .i64 (((arP v0 v1).fst.snd.fst.snd i).fst)), .p (.int .i64 (((arP v0 v1).fst.snd.fst.snd i).snd.fst))])⟩), (1, ⟨false, 1, ((arP v0 v1).snd.fst.fst), (fun i => [.p (.int .i64 ((arP v0 v1).snd.fst.snd i))])⟩)] (.tup [.agg [.p (.int .i64 ((arP v0 v1).fst.fst)), .ar 2 0 0 ((arP v0 v1).fst.snd.fst.fst), .ar 1 1 0 ((arP v0 v1).snd.fst.fst)], .p (.bool (arB v0 v1))]),
  ((0 : Nat) < 1),
  (((true) = true) → ((1 : Nat) = 1)),
  ((0 : Nat) < 1),
  Con (Try.prog) 13 0 [] [.agg [.p (.int .i64 (v0.fst.fst)), .p (.seq true 2 (v0.fst.snd.fst.fst) (fun i => [.int .i64 ((v0.fst.snd.fst.snd i).fst), .int .i64 ((v0.fst.snd.fst.snd i).snd.fst)])), .p (.seq true 1 (v0.snd.fst.fst) (fun i => [.int .i64 (v0.snd.fst.snd i)]))]] [(0, ⟨false, 2, (v0.fst.snd.fst.fst), (fun i => [.p (.int .i64 ((v0.fst.snd.fst.snd i).fst)), .p (.int .i64 ((v0.fst.snd.fst.snd i).snd.fst))])⟩), (1, ⟨false, 1, (v0.snd.fst.fst), (fun i => [.p (.int .i64 (v0.snd.fst.snd i))])⟩)] (.agg [.p (.int .i64 (v0.fst.fst)), .ar 2 0 0 (v0.fst.snd.fst.fst), .ar 1 1 0 (v0.snd.fst.fst)]),
  ((0 : Nat) < 1),
  (((true) = true) → ((1 : Nat) = 1)),
  Con (Try.prog) 18 0 [] [.p (.seq true 2 (v1.fst) (fun i => [.int .i64 ((v1.snd i).fst), .int .i64 ((v1.snd i).snd.fst)]))] [(0, ⟨false, 2, (v1.fst), (fun i => [.p (.int .i64 ((v1.snd i).fst)), .p (.int .i64 ((v1.snd i).snd.fst))])⟩)] (.ar 2 0 0 (v1.fst)),
  ((0 : Nat) < 1),
  ((2 : Nat) = 2),
  (((v0.fst.snd.fst.fst) : Nat) ≤ (v0.fst.snd.fst.fst)),
  ((1 : Nat) = 1),
  (((v0.snd.fst.fst) : Nat) ≤ (v0.snd.fst.fst)),
  ((2 : Nat) = 2),
  (((v1.fst) : Nat) ≤ (v1.fst)),
  Con (Try.prog) 19 0 [] [.agg [.p (.int .i64 (v0.fst.fst)), .p (.seq true 2 (v0.fst.snd.fst.fst) (fun i => [.int .i64 ((v0.fst.snd.fst.snd i).fst), .int .i64 ((v0.fst.snd.fst.snd i).snd.fst)])), .p (.seq true 1 (v0.snd.fst.fst) (fun i => [.int .i64 (v0.snd.fst.snd i)]))], .p (.seq true 2 (v1.fst) (fun i => [.int .i64 ((v1.snd i).fst), .int .i64 ((v1.snd i).snd.fst)]))] [(0, ⟨false, 2, ((arP v0 v1).fst.snd.fst.fst), (fun i => [.p (.int .i64 (((arP v0 v1).fst.snd.fst.snd i).fst)), .p (.int .i64 (((arP v0 v1).fst.snd.fst.snd i).snd.fst))])⟩), (1, ⟨false, 1, ((arP v0 v1).snd.fst.fst), (fun i => [.p (.int .i64 ((arP v0 v1).snd.fst.snd i))])⟩)] (.tup [.agg [.p (.int .i64 ((arP v0 v1).fst.fst)), .ar 2 0 0 ((arP v0 v1).fst.snd.fst.fst), .ar 1 1 0 ((arP v0 v1).snd.fst.fst)], .p (.bool (arB v0 v1))]),
  ((0 : Nat) < 1),
  (((true) = true) → ((1 : Nat) = 1)),
  ((0 : Nat) < 1),
  ((0 : Nat) < 1),
  ((2 : Nat) = 2),
  ((((arP v0 v1).fst.snd.fst.fst) : Nat) ≤ ((arP v0 v1).fst.snd.fst.fst)),
  ((1 : Nat) = 1),
  ((((arP v0 v1).snd.fst.fst) : Nat) ≤ ((arP v0 v1).snd.fst.fst)),
  ((2 : Nat) = 2),
  ((((arP v0 v1).fst.snd.fst.fst) : Nat) ≤ ((arP v0 v1).fst.snd.fst.fst)),
  ((1 : Nat) = 1),
  ((((arP v0 v1).snd.fst.fst) : Nat) ≤ ((arP v0 v1).snd.fst.fst)),
  Con (Try.prog) 15 0 [] [.agg [.p (.int .i64 ((arP v0 v1).fst.fst)), .p (.seq true 2 ((arP v0 v1).fst.snd.fst.fst) (fun i => [.int .i64 (((arP v0 v1).fst.snd.fst.snd i).fst), .int .i64 (((arP v0 v1).fst.snd.fst.snd i).snd.fst)])), .p (.seq true 1 ((arP v0 v1).snd.fst.fst) (fun i => [.int .i64 ((arP v0 v1).snd.fst.snd i)]))], .agg [.p (.int .i64 ((arP v0 v1).fst.fst)), .p (.seq true 2 ((arP v0 v1).fst.snd.fst.fst) (fun i => [.int .i64 (((arP v0 v1).fst.snd.fst.snd i).fst), .int .i64 (((arP v0 v1).fst.snd.fst.snd i).snd.fst)])), .p (.seq true 1 ((arP v0 v1).snd.fst.fst) (fun i => [.int .i64 ((arP v0 v1).snd.fst.snd i)]))]] [] (.p (.bool true)),
  (((!!true) = true) → ((!!true) = true)),
  (((!!true) = true) → ((!!true) = true)),
  (((!true) = false) → ((!!true) = true)),
  ((bif !true then true else !arB v0 v1 == arB v0 v1) = false),
  ((0 : Nat) < 1),
  ((0 : Nat) < 1),
  Con (Try.prog) 13 0 [] [.agg [.p (.int .i64 (v0.fst.fst)), .p (.seq true 2 (v0.fst.snd.fst.fst) (fun i => [.int .i64 ((v0.fst.snd.fst.snd i).fst), .int .i64 ((v0.fst.snd.fst.snd i).snd.fst)])), .p (.seq true 1 (v0.snd.fst.fst) (fun i => [.int .i64 (v0.snd.fst.snd i)]))]] [(0, ⟨false, 2, (v0.fst.snd.fst.fst), (fun i => [.p (.int .i64 ((v0.fst.snd.fst.snd i).fst)), .p (.int .i64 ((v0.fst.snd.fst.snd i).snd.fst))])⟩), (1, ⟨false, 1, (v0.snd.fst.fst), (fun i => [.p (.int .i64 (v0.snd.fst.snd i))])⟩)] (.agg [.p (.int .i64 (v0.fst.fst)), .ar 2 0 0 (v0.fst.snd.fst.fst), .ar 1 1 0 (v0.snd.fst.fst)]),
  ((2 : Nat) = 2),
  (((v0.fst.snd.fst.fst) : Nat) ≤ (v0.fst.snd.fst.fst)),
  ((1 : Nat) = 1),
  (((v0.snd.fst.fst) : Nat) ≤ (v0.snd.fst.fst)),
  ((2 : Nat) = 2),
  (((v0.fst.snd.fst.fst) : Nat) ≤ (v0.fst.snd.fst.fst)),
  ((1 : Nat) = 1),
  (((v0.snd.fst.fst) : Nat) ≤ (v0.snd.fst.fst)),
  Con (Try.prog) 15 0 [] [.agg [.p (.int .i64 (v0.fst.fst)), .p (.seq true 2 (v0.fst.snd.fst.fst) (fun i => [.int .i64 ((v0.fst.snd.fst.snd i).fst), .int .i64 ((v0.fst.snd.fst.snd i).snd.fst)])), .p (.seq true 1 (v0.snd.fst.fst) (fun i => [.int .i64 (v0.snd.fst.snd i)]))], .agg [.p (.int .i64 (v0.fst.fst)), .p (.seq true 2 (v0.fst.snd.fst.fst) (fun i => [.int .i64 ((v0.fst.snd.fst.snd i).fst), .int .i64 ((v0.fst.snd.fst.snd i).snd.fst)])), .p (.seq true 1 (v0.snd.fst.fst) (fun i => [.int .i64 (v0.snd.fst.snd i)]))]] [] (.p (.bool true)),
  ((!true) = false),
  Con (Try.prog) 18 0 [] [.p (.seq true 2 (v1.fst) (fun i => [.int .i64 ((v1.snd i).fst), .int .i64 ((v1.snd i).snd.fst)]))] [(0, ⟨false, 2, (v1.fst), (fun i => [.p (.int .i64 ((v1.snd i).fst)), .p (.int .i64 ((v1.snd i).snd.fst))])⟩)] (.ar 2 0 0 (v1.fst)),
  ((2 : Nat) = 2),
  (((v1.fst) : Nat) ≤ (v1.fst)),
  ((2 : Nat) = 2),
  (((v1.fst) : Nat) ≤ (v1.fst)),
  Con (Try.prog) 20 0 [] [.p (.seq true 2 (v1.fst) (fun i => [.int .i64 ((v1.snd i).fst), .int .i64 ((v1.snd i).snd.fst)])), .p (.seq true 2 (v1.fst) (fun i => [.int .i64 ((v1.snd i).fst), .int .i64 ((v1.snd i).snd.fst)]))] [] (.p (.bool true)),
  ((!true) = false),
  ((0 : Nat) < 1),
  (∀ i : Nat, ((((i) : Nat) < (v0.fst.snd.fst.fst)) → All [])),
  (∀ i : Nat, ((((i) : Nat) < (v0.snd.fst.fst)) → All [])),
  Con (Try.prog) 21 2 [(0, ⟨false, 2, (v0.fst.snd.fst.fst), (fun i => [.p (.int .i64 ((v0.fst.snd.fst.snd i).fst)), .p (.int .i64 ((v0.fst.snd.fst.snd i).snd.fst))])⟩), (1, ⟨false, 1, (v0.snd.fst.fst), (fun i => [.p (.int .i64 (v0.snd.fst.snd i))])⟩)] [.agg [.p (.int .i64 (v0.fst.fst)), .ar 2 0 0 (v0.fst.snd.fst.fst), .ar 1 1 0 (v0.snd.fst.fst)], .p (.int .i64 1)] [(0, ⟨false, 2, (v0.fst.snd.fst.fst), (fun i => [.p (.int .i64 (1 + 2 * (↑i : Int))), .p (.int .i64 (1 + 2 * (↑i : Int) + 1))])⟩), (1, ⟨false, 1, (v0.snd.fst.fst), (fun i => [.p (.int .i64 (1 + 2 * (↑v0.fst.snd.fst.fst : Int) + (↑i : Int)))])⟩)] (.p (.int .i64 (1 + 2 * (↑v0.fst.snd.fst.fst : Int) + (↑v0.snd.fst.fst : Int)))),
  (∀ i : Nat, ((((i) : Nat) < (v1.fst)) → All [])),
  Con (Try.prog) 22 1 [(0, ⟨false, 2, (v1.fst), (fun i => [.p (.int .i64 ((v1.snd i).fst)), .p (.int .i64 ((v1.snd i).snd.fst))])⟩)] [.ar 2 0 0 (v1.fst), .p (.int .i64 (1 + 2 * (↑v0.fst.snd.fst.fst : Int) + (↑v0.snd.fst.fst : Int)))] [(0, ⟨false, 2, (v1.fst), (fun i => [.p (.int .i64 (1 + 2 * (↑v0.fst.snd.fst.fst : Int) + (↑v0.snd.fst.fst : Int) + 2 * (↑i : Int))), .p (.int .i64 (1 + 2 * (↑v0.fst.snd.fst.fst : Int) + (↑v0.snd.fst.fst : Int) + 2 * (↑i : Int) + 1))])⟩)] (.p (.int .i64 (1 + 2 * (↑v0.fst.snd.fst.fst : Int) + (↑v0.snd.fst.fst : Int) + 2 * (↑v1.fst : Int)))),
  (((!decide (1 + 2 * (↑v0.fst.snd.fst.fst : Int) + (↑v0.snd.fst.fst : Int) + 2 * (↑v1.fst : Int) < 0)) = true) → ((0 : Nat) < 1)),
  (((!decide (1 + 2 * (↑v0.fst.snd.fst.fst : Int) + (↑v0.snd.fst.fst : Int) + 2 * (↑v1.fst : Int) < 0)) = true) → ((0 : Nat) < 1)),
  (((!decide (1 + 2 * (↑v0.fst.snd.fst.fst : Int) + (↑v0.snd.fst.fst : Int) + 2 * (↑v1.fst : Int) < 0)) = true) → ((!decide (1 + 2 * (↑v0.fst.snd.fst.fst : Int) + (↑v0.snd.fst.fst : Int) + 2 * (↑v1.fst : Int) < 0)) = true)),
  (((!decide (1 + 2 * (↑v0.fst.snd.fst.fst : Int) + (↑v0.snd.fst.fst : Int) + 2 * (↑v1.fst : Int) < 0)) = true) → ((!decide (1 + 2 * (↑v0.fst.snd.fst.fst : Int) + (↑v0.snd.fst.fst : Int) + 2 * (↑v1.fst : Int) < 0)) = true)),
  (((!decide (1 + 2 * (↑v0.fst.snd.fst.fst : Int) + (↑v0.snd.fst.fst : Int) + 2 * (↑v1.fst : Int) < 0)) = true) → ((2 : Nat) = 2)),
  (((!decide (1 + 2 * (↑v0.fst.snd.fst.fst : Int) + (↑v0.snd.fst.fst : Int) + 2 * (↑v1.fst : Int) < 0)) = true) → ((((arP v0 v1).fst.snd.fst.fst) : Nat) ≤ ((arP v0 v1).fst.snd.fst.fst))),
  (((!decide (1 + 2 * (↑v0.fst.snd.fst.fst : Int) + (↑v0.snd.fst.fst : Int) + 2 * (↑v1.fst : Int) < 0)) = true) → ((1 : Nat) = 1)),
  (((!decide (1 + 2 * (↑v0.fst.snd.fst.fst : Int) + (↑v0.snd.fst.fst : Int) + 2 * (↑v1.fst : Int) < 0)) = true) → ((((arP v0 v1).snd.fst.fst) : Nat) ≤ ((arP v0 v1).snd.fst.fst))),
  (((!decide (1 + 2 * (↑v0.fst.snd.fst.fst : Int) + (↑v0.snd.fst.fst : Int) + 2 * (↑v1.fst : Int) < 0)) = true) → ((2 : Nat) = 2)),
  (((!decide (1 + 2 * (↑v0.fst.snd.fst.fst : Int) + (↑v0.snd.fst.fst : Int) + 2 * (↑v1.fst : Int) < 0)) = true) → ((((arP v0 v1).fst.snd.fst.fst) : Nat) ≤ ((arP v0 v1).fst.snd.fst.fst))),
  (((!decide (1 + 2 * (↑v0.fst.snd.fst.fst : Int) + (↑v0.snd.fst.fst : Int) + 2 * (↑v1.fst : Int) < 0)) = true) → ((1 : Nat) = 1)),
  (((!decide (1 + 2 * (↑v0.fst.snd.fst.fst : Int) + (↑v0.snd.fst.fst : Int) + 2 * (↑v1.fst : Int) < 0)) = true) → ((((arP v0 v1).snd.fst.fst) : Nat) ≤ ((arP v0 v1).snd.fst.fst))),
  (((!decide (1 + 2 * (↑v0.fst.snd.fst.fst : Int) + (↑v0.snd.fst.fst : Int) + 2 * (↑v1.fst : Int) < 0)) = true) → Con (Try.prog) 15 0 [] [.agg [.p (.int .i64 ((arP v0 v1).fst.fst)), .p (.seq true 2 ((arP v0 v1).fst.snd.fst.fst) (fun i => [.int .i64 (((arP v0 v1).fst.snd.fst.snd i).fst), .int .i64 (((arP v0 v1).fst.snd.fst.snd i).snd.fst)])), .p (.seq true 1 ((arP v0 v1).snd.fst.fst) (fun i => [.int .i64 ((arP v0 v1).snd.fst.snd i)]))], .agg [.p (.int .i64 ((arP v0 v1).fst.fst)), .p (.seq true 2 ((arP v0 v1).fst.snd.fst.fst) (fun i => [.int .i64 (((arP v0 v1).fst.snd.fst.snd i).fst), .int .i64 (((arP v0 v1).fst.snd.fst.snd i).snd.fst)])), .p (.seq true 1 ((arP v0 v1).snd.fst.fst) (fun i => [.int .i64 ((arP v0 v1).snd.fst.snd i)]))]] [] (.p (.bool true))),
  (((!decide (1 + 2 * (↑v0.fst.snd.fst.fst : Int) + (↑v0.snd.fst.fst : Int) + 2 * (↑v1.fst : Int) < 0)) = true) → ((!decide (1 + 2 * (↑v0.fst.snd.fst.fst : Int) + (↑v0.snd.fst.fst : Int) + 2 * (↑v1.fst : Int) < 0)) = true)),
  (((decide (1 + 2 * (↑v0.fst.snd.fst.fst : Int) + (↑v0.snd.fst.fst : Int) + 2 * (↑v1.fst : Int) < 0)) = false) → ((!decide (1 + 2 * (↑v0.fst.snd.fst.fst : Int) + (↑v0.snd.fst.fst : Int) + 2 * (↑v1.fst : Int) < 0)) = true)),
  (((!bif decide (1 + 2 * (↑v0.fst.snd.fst.fst : Int) + (↑v0.snd.fst.fst : Int) + 2 * (↑v1.fst : Int) < 0) then true else !true) = true) → ((!bif decide (1 + 2 * (↑v0.fst.snd.fst.fst : Int) + (↑v0.snd.fst.fst : Int) + 2 * (↑v1.fst : Int) < 0) then true else !true) = true)),
  (((!bif decide (1 + 2 * (↑v0.fst.snd.fst.fst : Int) + (↑v0.snd.fst.fst : Int) + 2 * (↑v1.fst : Int) < 0) then true else !true) = true) → ((!bif decide (1 + 2 * (↑v0.fst.snd.fst.fst : Int) + (↑v0.snd.fst.fst : Int) + 2 * (↑v1.fst : Int) < 0) then true else !true) = true)),
  (((bif decide (1 + 2 * (↑v0.fst.snd.fst.fst : Int) + (↑v0.snd.fst.fst : Int) + 2 * (↑v1.fst : Int) < 0) then true else !true) = false) → ((!bif decide (1 + 2 * (↑v0.fst.snd.fst.fst : Int) + (↑v0.snd.fst.fst : Int) + 2 * (↑v1.fst : Int) < 0) then true else !true) = true)),
  ((bif bif decide (1 + 2 * (↑v0.fst.snd.fst.fst : Int) + (↑v0.snd.fst.fst : Int) + 2 * (↑v1.fst : Int) < 0) then true else !true then true else !arB v0 v1 == arB v0 v1) = false),
  ((0 : Nat) < 1),
  (∀ i : Nat, ((((i) : Nat) < ((arP v0 v1).fst.snd.fst.fst)) → All [])),
  (∀ i : Nat, ((((i) : Nat) < ((arP v0 v1).snd.fst.fst)) → All [])),
  Con (Try.prog) 21 2 [(0, ⟨false, 2, ((arP v0 v1).fst.snd.fst.fst), (fun i => [.p (.int .i64 (((arP v0 v1).fst.snd.fst.snd i).fst)), .p (.int .i64 (((arP v0 v1).fst.snd.fst.snd i).snd.fst))])⟩), (1, ⟨false, 1, ((arP v0 v1).snd.fst.fst), (fun i => [.p (.int .i64 ((arP v0 v1).snd.fst.snd i))])⟩)] [.agg [.p (.int .i64 ((arP v0 v1).fst.fst)), .ar 2 0 0 ((arP v0 v1).fst.snd.fst.fst), .ar 1 1 0 ((arP v0 v1).snd.fst.fst)], .p (.int .i64 1)] [(0, ⟨false, 2, ((arP v0 v1).fst.snd.fst.fst), (fun i => [.p (.int .i64 (1 + 2 * (↑i : Int))), .p (.int .i64 (1 + 2 * (↑i : Int) + 1))])⟩), (1, ⟨false, 1, ((arP v0 v1).snd.fst.fst), (fun i => [.p (.int .i64 (1 + 2 * (↑(arP v0 v1).fst.snd.fst.fst : Int) + (↑i : Int)))])⟩)] (.p (.int .i64 (1 + 2 * (↑(arP v0 v1).fst.snd.fst.fst : Int) + (↑(arP v0 v1).snd.fst.fst : Int)))),
  ((0 : Nat) < 1),
  ((2 : Nat) = 2),
  ((((arP v0 v1).fst.snd.fst.fst) : Nat) ≤ ((arP v0 v1).fst.snd.fst.fst)),
  ((1 : Nat) = 1),
  ((((arP v0 v1).snd.fst.fst) : Nat) ≤ ((arP v0 v1).snd.fst.fst)),
  Con (Try.prog) 23 0 [] [.agg [.p (.int .i64 ((arP v0 v1).fst.fst)), .p (.seq true 2 ((arP v0 v1).fst.snd.fst.fst) (fun i => [.int .i64 (1 + 2 * (↑i : Int)), .int .i64 (1 + 2 * (↑i : Int) + 1)])), .p (.seq true 1 ((arP v0 v1).snd.fst.fst) (fun i => [.int .i64 (1 + 2 * (↑(arP v0 v1).fst.snd.fst.fst : Int) + (↑i : Int))]))], .p (.int .i64 1)] [] (.p (.int .i64 (1 + 2 * (↑(arP v0 v1).fst.snd.fst.fst : Int) + (↑(arP v0 v1).snd.fst.fst : Int)))),
  ((decide (1 + 2 * (↑(arP v0 v1).fst.snd.fst.fst : Int) + (↑(arP v0 v1).snd.fst.fst : Int) < 0)) = false),
  ((1 + 2 * (↑(arP v0 v1).fst.snd.fst.fst : Int) + (↑(arP v0 v1).snd.fst.fst : Int) != 1 + 2 * (↑(arP v0 v1).fst.snd.fst.fst : Int) + (↑(arP v0 v1).snd.fst.fst : Int)) = false),
  ((0 : Nat) < 1),
  Con (Try.prog) 13 0 [] [.agg [.p (.int .i64 (v0.fst.fst)), .p (.seq true 2 (v0.fst.snd.fst.fst) (fun i => [.int .i64 ((v0.fst.snd.fst.snd i).fst), .int .i64 ((v0.fst.snd.fst.snd i).snd.fst)])), .p (.seq true 1 (v0.snd.fst.fst) (fun i => [.int .i64 (v0.snd.fst.snd i)]))]] [(0, ⟨false, 2, (v0.fst.snd.fst.fst), (fun i => [.p (.int .i64 ((v0.fst.snd.fst.snd i).fst)), .p (.int .i64 ((v0.fst.snd.fst.snd i).snd.fst))])⟩), (1, ⟨false, 1, (v0.snd.fst.fst), (fun i => [.p (.int .i64 (v0.snd.fst.snd i))])⟩)] (.agg [.p (.int .i64 (v0.fst.fst)), .ar 2 0 0 (v0.fst.snd.fst.fst), .ar 1 1 0 (v0.snd.fst.fst)]),
  Con (Try.prog) 18 0 [] [.p (.seq true 2 (v1.fst) (fun i => [.int .i64 ((v1.snd i).fst), .int .i64 ((v1.snd i).snd.fst)]))] [(0, ⟨false, 2, (v1.fst), (fun i => [.p (.int .i64 ((v1.snd i).fst)), .p (.int .i64 ((v1.snd i).snd.fst))])⟩)] (.ar 2 0 0 (v1.fst)),
  ((2 : Nat) = 2),
  (((v0.fst.snd.fst.fst) : Nat) ≤ (v0.fst.snd.fst.fst)),
  ((1 : Nat) = 1),
  (((v0.snd.fst.fst) : Nat) ≤ (v0.snd.fst.fst)),
  ((2 : Nat) = 2),
  (((v1.fst) : Nat) ≤ (v1.fst)),
  Con (Try.prog) 19 0 [] [.agg [.p (.int .i64 (v0.fst.fst)), .p (.seq true 2 (v0.fst.snd.fst.fst) (fun i => [.int .i64 ((v0.fst.snd.fst.snd i).fst), .int .i64 ((v0.fst.snd.fst.snd i).snd.fst)])), .p (.seq true 1 (v0.snd.fst.fst) (fun i => [.int .i64 (v0.snd.fst.snd i)]))], .p (.seq true 2 (v1.fst) (fun i => [.int .i64 ((v1.snd i).fst), .int .i64 ((v1.snd i).snd.fst)]))] [(0, ⟨false, 2, ((arP v0 v1).fst.snd.fst.fst), (fun i => [.p (.int .i64 (((arP v0 v1).fst.snd.fst.snd i).fst)), .p (.int .i64 (((arP v0 v1).fst.snd.fst.snd i).snd.fst))])⟩), (1, ⟨false, 1, ((arP v0 v1).snd.fst.fst), (fun i => [.p (.int .i64 ((arP v0 v1).snd.fst.snd i))])⟩)] (.tup [.agg [.p (.int .i64 ((arP v0 v1).fst.fst)), .ar 2 0 0 ((arP v0 v1).fst.snd.fst.fst), .ar 1 1 0 ((arP v0 v1).snd.fst.fst)], .p (.bool (arB v0 v1))]),
  ((0 : Nat) < 1),
  (((true) = true) → ((1 : Nat) = 1)),
  ((0 : Nat) < 1),
  ((0 : Nat) < 1),
  ((2 : Nat) = 2),
  ((((arP v0 v1).fst.snd.fst.fst) : Nat) ≤ ((arP v0 v1).fst.snd.fst.fst)),
  ((1 : Nat) = 1),
  ((((arP v0 v1).snd.fst.fst) : Nat) ≤ ((arP v0 v1).snd.fst.fst)),
  ((2 : Nat) = 2),
  ((((arP v0 v1).fst.snd.fst.fst) : Nat) ≤ ((arP v0 v1).fst.snd.fst.fst)),
  ((1 : Nat) = 1),
  ((((arP v0 v1).snd.fst.fst) : Nat) ≤ ((arP v0 v1).snd.fst.fst)),
  Con (Try.prog) 15 0 [] [.agg [.p (.int .i64 ((arP v0 v1).fst.fst)), .p (.seq true 2 ((arP v0 v1).fst.snd.fst.fst) (fun i => [.int .i64 (((arP v0 v1).fst.snd.fst.snd i).fst), .int .i64 (((arP v0 v1).fst.snd.fst.snd i).snd.fst)])), .p (.seq true 1 ((arP v0 v1).snd.fst.fst) (fun i => [.int .i64 ((arP v0 v1).snd.fst.snd i)]))], .agg [.p (.int .i64 ((arP v0 v1).fst.fst)), .p (.seq true 2 ((arP v0 v1).fst.snd.fst.fst) (fun i => [.int .i64 (((arP v0 v1).fst.snd.fst.snd i).fst), .int .i64 (((arP v0 v1).fst.snd.fst.snd i).snd.fst)])), .p (.seq true 1 ((arP v0 v1).snd.fst.fst) (fun i => [.int .i64 ((arP v0 v1).snd.fst.snd i)]))]] [] (.p (.bool true)),
  (((!!true) = true) → ((!!true) = true)),
  (((!!true) = true) → ((!!true) = true)),
  (((!true) = false) → ((!!true) = true)),
  ((bif !true then true else !arB v0 v1 == arB v0 v1) = false),
  ((0 : Nat) < 1),
  ((2 : Nat) = 2),
  ((((arP v0 v1).fst.snd.fst.fst) : Nat) ≤ ((arP v0 v1).fst.snd.fst.fst)),
  ((1 : Nat) = 1),
  ((((arP v0 v1).snd.fst.fst) : Nat) ≤ ((arP v0 v1).snd.fst.fst)),
  Con (Try.prog) 23 0 [] [.agg [.p (.int .i64 ((arP v0 v1).fst.fst)), .p (.seq true 2 ((arP v0 v1).fst.snd.fst.fst) (fun i => [.int .i64 (1 + 2 * (↑i : Int)), .int .i64 (1 + 2 * (↑i : Int) + 1)])), .p (.seq true 1 ((arP v0 v1).snd.fst.fst) (fun i => [.int .i64 (1 + 2 * (↑(arP v0 v1).fst.snd.fst.fst : Int) + (↑i : Int))]))], .p (.int .i64 1)] [] (.p (.int .i64 (1 + 2 * (↑(arP v0 v1).fst.snd.fst.fst : Int) + (↑(arP v0 v1).snd.fst.fst : Int)))),
  ((decide (1 + 2 * (↑(arP v0 v1).fst.snd.fst.fst : Int) + (↑(arP v0 v1).snd.fst.fst : Int) < 0)) = false),
  ((1 + 2 * (↑(arP v0 v1).fst.snd.fst.fst : Int) + (↑(arP v0 v1).snd.fst.fst : Int) != 1 + 2 * (↑(arP v0 v1).fst.snd.fst.fst : Int) + (↑(arP v0 v1).snd.fst.fst : Int)) = false),
  (true = true)] := by kernel_rfl

theorem con_law_FnExactApplyRepair (v0 : T_Pinned) (v1 : T_BarS) (k0 : okS s_Pinned v0) (k1 : okS s_BarS v1) : Con Try.prog 4 0 [] [.agg [.p (.int .i64 (v0.1.1)), .p (.seq true 2 (v0.1.2.1.1) (fun i => [.int .i64 ((v0.1.2.1.2 i).1), .int .i64 ((v0.1.2.1.2 i).2.1)])), .p (.seq true 1 (v0.2.1.1) (fun i => [.int .i64 ((v0.2.1.2 i))]))], .p (.seq true 2 (v1.1) (fun i => [.int .i64 ((v1.2 i).1), .int .i64 ((v1.2 i).2.1)]))] [] (.p (.bool true)) := by
  refine con_start Try.func4 rfl (by kernel_rfl) rfl (fun c hc => ?_)
  have l0 := le_szPinned v0 1048576 (by omega)
  by_cases g0 : (f_szPinned v0 1048576) < 0
  · refine path_ok mixed Try.func4 hc (p_FnExactApplyRepair_0 v0 v1) ?_
    simp only [All]
    repeat' (first | exact trivial | with_reducible apply And.intro)
    all_goals (first | omega | rfl | (intros; first | assumption | exact True.intro | rfl | exact absurd (show false = true by assumption) Bool.false_ne_true | ((repeat' (first | assumption | apply anda | apply notf)); done)) | (exact con_szPinned v0 k0 _ (by omega) (by omega)) | (simp; omega))
  have hs0 := sm_szPinned v0 1048576 (by omega) (by omega) g0
  have l1 := le_szBarS v1 (f_szPinned v0 1048576) (by omega)
  by_cases g1 : (f_szBarS v1 (f_szPinned v0 1048576)) < 0
  · refine path_ok mixed Try.func4 hc (p_FnExactApplyRepair_1 v0 v1) ?_
    simp only [All]
    repeat' (first | exact trivial | with_reducible apply And.intro)
    all_goals (first | omega | rfl | (intros; first | assumption | exact True.intro | rfl | exact absurd (show false = true by assumption) Bool.false_ne_true | ((repeat' (first | assumption | apply anda | apply notf)); done)) | (exact con_szPinned v0 k0 _ (by omega) (by omega)) | (exact con_szBarS v1 k1 _ (by omega) (by omega)) | (simp; omega))
  have hs1 := sm_szBarS v1 (f_szPinned v0 1048576) (by omega) g1
  have hr0 : smS s_Pinned (arP v0 v1) := sm_pin (by have := arP_le v0 v1; omega) (by have := arP_le v0 v1; omega)
  have n_0 : v0.1.2.1.1 ≤ 1048576 := hs0.1.2.1.1
  have n_1 : v0.2.1.1 ≤ 1048576 := hs0.2.1.1
  have n_2 : v1.1 ≤ 1048576 := hs1.1
  have n_3 : (arP v0 v1).1.2.1.1 ≤ 1048576 := hr0.1.2.1.1
  have n_4 : (arP v0 v1).2.1.1 ≤ 1048576 := hr0.2.1.1
  refine path_ok mixed Try.func4 hc (p_FnExactApplyRepair_e v0 v1) ?_
  simp only [All]
  repeat' (first | exact trivial | with_reducible apply And.intro)
  all_goals (first | omega | rfl | (intros; first | assumption | exact True.intro | rfl | exact absurd (show false = true by assumption) Bool.false_ne_true | ((repeat' (first | assumption | apply anda | apply notf)); done)) | (exact con_szPinned v0 k0 _ (by omega) (by omega)) | (exact con_szBarS v1 k1 _ (by omega) (by omega)) | (exact con_toPinned v0 hs0) | (exact con_toBarS v1 hs1) | (exact con_ApplyRepair_s v0 hs0 v1 hs1.1) | (exact con_ApplyRepair_i v0 hs0 v1 hs1.1) | (intros; exact con_eqPinned (arP v0 v1) hr0) | (intros; exact con_eqPinned v0 hs0) | (intros; exact con_eqBarS v1 hs1) | (intros; exact con_markPinned v0 _ hs0.1.2.1.1 hs0.2.1.1 (by omega) (by omega)) | (intros; exact con_markBarS v1 _ hs1.1 (by omega) (by omega)) | (intros; exact con_markPinned (arP v0 v1) _ hr0.1.2.1.1 hr0.2.1.1 (by omega) (by omega)) | (intros; exact con_heldPinned (arP v0 v1) _ hr0.1.2.1.1 hr0.2.1.1 (by omega) (by omega)) | (intros; exact con_heldBarS _ _ (by omega) (by omega) (by omega)) | (cases arB v0 v1 <;> rfl) | (simp; try omega))

end Go.Proofs.Ytgdbnnmogddkaaa.Mach
