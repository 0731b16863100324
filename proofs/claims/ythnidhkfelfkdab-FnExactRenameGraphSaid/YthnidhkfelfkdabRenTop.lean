/- The law FnExactRenameGraph as a contract: it answers true. Written by our own lawtop2.py. Conditions: lengths that values can have. -/
import Derived.Test.YthnidhkfelfkdabRen
namespace Go.Proofs.Ythnidhkfelfkdab.Mach
open Go
set_option linter.unusedVariables false
set_option linter.unusedSimpArgs false

theorem p_FnExactRenameGraph_l0 (v0 : T_Graph) (v1 : T_IntS) :
    pathOb Try.prog Try.f4 0 [.reg [oT, oT], .reg [oT, oT, oT], .dec true, .reg [oT]] [.code (bodyOf Try.f4)] (start Try.f4 [] 0 [.agg [.p (.int .i64 (v0.1)), .p (.seq true 2 (v0.2.1.1) (fun i => [.int .i64 ((v0.2.1.2 i).1), .int .i64 ((v0.2.1.2 i).2.1)]))], .p (.seq true 1 (v1.1) (fun i => [.int .i64 ((v1.2 i))]))]) [] 1 [] (.p (.bool true)) =
    some [((decide ((↑v1.fst : Int) > 1048576)) = true),
  (true = true)] := by kernel_rfl
theorem p_FnExactRenameGraph_0 (v0 : T_Graph) (v1 : T_IntS) :
    pathOb Try.prog Try.f4 0 [.reg [oT, oT], .reg [oT, oT, oT], .dec false, .reg [oT], .reg [oT, oT, ⟨true, (some ⟨[], [], 1, [], .p (.int .i64 (f_szGraph v0 1048576))⟩), none⟩, oT], .reg [oT, oT], .dec true, .reg [oT]] [.code (bodyOf Try.f4)] (start Try.f4 [] 0 [.agg [.p (.int .i64 (v0.1)), .p (.seq true 2 (v0.2.1.1) (fun i => [.int .i64 ((v0.2.1.2 i).1), .int .i64 ((v0.2.1.2 i).2.1)]))], .p (.seq true 1 (v1.1) (fun i => [.int .i64 ((v1.2 i))]))]) [] 1 [] (.p (.bool true)) =
    some [((decide ((↑v1.fst : Int) > 1048576)) = false),
  ((0 : Nat) < 1),
  Con (Try.prog) 9 0 [] [.agg [.p (.int .i64 (v0.fst)), .p (.seq true 2 (v0.snd.fst.fst) (fun i => [.int .i64 ((v0.snd.fst.snd i).fst), .int .i64 ((v0.snd.fst.snd i).snd.fst)]))], .p (.int .i64 1048576)] [] (.p (.int .i64 (f_szGraph v0 1048576))),
  ((decide (f_szGraph v0 1048576 < 0)) = true),
  (true = true)] := by kernel_rfl
theorem p_FnExactRenameGraph_e (v0 : T_Graph) (v1 : T_IntS) :
    pathOb Try.prog Try.f4 0 [.reg [oT, oT], .reg [oT, oT, oT], .dec false, .reg [oT], .reg [oT, oT, ⟨true, (some ⟨[], [], 1, [], .p (.int .i64 (f_szGraph v0 1048576))⟩), none⟩, oT], .reg [oT, oT], .dec false, .reg [oT, ⟨true, (some ⟨[], [], 1, [(0, ⟨false, 2, v0.2.1.1, fun i => [.p (.int .i64 ((v0.2.1.2 i).1)), .p (.int .i64 ((v0.2.1.2 i).2.1))]⟩)], .agg [.p (.int .i64 (v0.1)), .ar 2 0 0 (v0.2.1.1)]⟩), none⟩, oT, ⟨true, (some ⟨[], [], 1, [(0, ⟨false, 1, v1.1, fun i => [.p (.int .i64 ((v1.2 i)))]⟩)], .ar 1 0 0 (v1.1)⟩), none⟩, ⟨true, (some ⟨[], [], 1, [(0, ⟨false, 2, (rnG v0 v1).2.1.1, fun i => [.p (.int .i64 (((rnG v0 v1).2.1.2 i).1)), .p (.int .i64 (((rnG v0 v1).2.1.2 i).2.1))]⟩)], .tup [.agg [.p (.int .i64 ((rnG v0 v1).1)), .ar 2 0 0 ((rnG v0 v1).2.1.1)], .p (.bool ((rnB v0 v1)))]⟩), none⟩, oT, oT, oT, oT, oT, oT], .reg [oT, ⟨true, (some ⟨[], [], 1, [(0, ⟨false, 2, v0.2.1.1, fun i => [.p (.int .i64 ((v0.2.1.2 i).1)), .p (.int .i64 ((v0.2.1.2 i).2.1))]⟩)], .agg [.p (.int .i64 (v0.1)), .ar 2 0 0 (v0.2.1.1)]⟩), none⟩, oT, oT], .reg [oT, ⟨true, (some ⟨[], [], 1, [(0, ⟨false, 1, v1.1, fun i => [.p (.int .i64 ((v1.2 i)))]⟩)], .ar 1 0 0 (v1.1)⟩), none⟩, oT], .reg [oT, oT, ⟨true, (some ⟨[], [], 1, [(0, ⟨false, 2, (rnG v0 v1).2.1.1, fun i => [.p (.int .i64 (((rnG v0 v1).2.1.2 i).1)), .p (.int .i64 (((rnG v0 v1).2.1.2 i).2.1))]⟩)], .tup [.agg [.p (.int .i64 ((rnG v0 v1).1)), .ar 2 0 0 ((rnG v0 v1).2.1.1)], .p (.bool ((rnB v0 v1)))]⟩), none⟩, oT, oT, oT, oT, oT, oT], .reg [oT, oT, ⟨true, (some ⟨[], [], 1, [], .p (.bool true)⟩), none⟩, oT, oT, oT, oT, oT, oT], .dec false, .reg [oT, oT, ⟨true, (some ⟨[], [], 1, [(0, ⟨false, 2, v0.2.1.1, fun i => [.p (.int .i64 ((v0.2.1.2 i).1)), .p (.int .i64 ((v0.2.1.2 i).2.1))]⟩)], .agg [.p (.int .i64 (v0.1)), .ar 2 0 0 (v0.2.1.1)]⟩), none⟩, ⟨true, (some ⟨[], [], 1, [], .p (.bool true)⟩), none⟩, oT], .dec false, .reg [oT, oT, ⟨true, (some ⟨[], [], 1, [(0, ⟨false, 1, v1.1, fun i => [.p (.int .i64 ((v1.2 i)))]⟩)], .ar 1 0 0 (v1.1)⟩), none⟩, ⟨true, (some ⟨[], [], 1, [], .p (.bool true)⟩), none⟩, oT], .dec false, .reg [oT], .reg [oT, oT, ⟨true, (some ⟨[768], [], 1, [(0, ⟨false, 2, v0.2.1.1, fun i => [.p (.int .i64 (1 + 2 * (i : Int))), .p (.int .i64 (1 + 2 * (i : Int) + 1))]⟩)], .p (.int .i64 (1 + 2 * (v0.2.1.1 : Int)))⟩), none⟩, oT], .reg [oT, oT, ⟨true, (some ⟨[896], [], 1, [(0, ⟨false, 1, v1.1, fun i => [.p (.int .i64 (1 + 2 * (v0.2.1.1 : Int) + (i : Int)))]⟩)], .p (.int .i64 (1 + 2 * (v0.2.1.1 : Int) + (v1.1 : Int)))⟩), none⟩, oT], .reg [oT, oT, oT, oT, oT, ⟨true, (some ⟨[], [], 1, [], .p (.bool true)⟩), none⟩, oT, oT, oT, oT, oT, oT, oT], .dec false, .reg [oT], .reg [oT, oT, ⟨true, (some ⟨[1024], [], 1, [(0, ⟨false, 2, (rnG v0 v1).2.1.1, fun i => [.p (.int .i64 (1 + 2 * (i : Int))), .p (.int .i64 (1 + 2 * (i : Int) + 1))]⟩)], .p (.int .i64 (1 + 2 * ((rnG v0 v1).2.1.1 : Int)))⟩), none⟩, oT], .reg [oT], .reg [oT, oT, ⟨true, (some ⟨[], [], 1, [], .p (.int .i64 (1 + 2 * ((rnG v0 v1).2.1.1 : Int)))⟩), none⟩, oT], .reg [oT, oT], .dec false, .reg [oT, oT, oT], .dec false, .reg [oT, ⟨true, (some ⟨[], [], 1, [(0, ⟨false, 2, v0.2.1.1, fun i => [.p (.int .i64 ((v0.2.1.2 i).1)), .p (.int .i64 ((v0.2.1.2 i).2.1))]⟩)], .agg [.p (.int .i64 (v0.1)), .ar 2 0 0 (v0.2.1.1)]⟩), none⟩, oT, ⟨true, (some ⟨[], [], 1, [(0, ⟨false, 1, v1.1, fun i => [.p (.int .i64 ((v1.2 i)))]⟩)], .ar 1 0 0 (v1.1)⟩), none⟩, ⟨true, (some ⟨[], [], 1, [(0, ⟨false, 2, (rnG v0 v1).2.1.1, fun i => [.p (.int .i64 (((rnG v0 v1).2.1.2 i).1)), .p (.int .i64 (((rnG v0 v1).2.1.2 i).2.1))]⟩)], .tup [.agg [.p (.int .i64 ((rnG v0 v1).1)), .ar 2 0 0 ((rnG v0 v1).2.1.1)], .p (.bool ((rnB v0 v1)))]⟩), none⟩, oT, oT, oT, oT, oT, oT], .reg [oT, oT, ⟨true, (some ⟨[], [], 1, [], .p (.bool true)⟩), none⟩, oT, oT, oT, oT, oT, oT], .dec false, .reg [oT], .reg [oT, oT, ⟨true, (some ⟨[], [], 1, [], .p (.int .i64 (1 + 2 * ((rnG v0 v1).2.1.1 : Int)))⟩), none⟩, oT], .reg [oT, oT], .dec false, .reg [oT, oT, oT], .dec false, .reg [oT]] [.code (bodyOf Try.f4)] (start Try.f4 [] 0 [.agg [.p (.int .i64 (v0.1)), .p (.seq true 2 (v0.2.1.1) (fun i => [.int .i64 ((v0.2.1.2 i).1), .int .i64 ((v0.2.1.2 i).2.1)]))], .p (.seq true 1 (v1.1) (fun i => [.int .i64 ((v1.2 i))]))]) [] 1 [] (.p (.bool true)) =
    some [((decide ((↑v1.fst : Int) > 1048576)) = false),
  ((0 : Nat) < 1),
  Con (Try.prog) 9 0 [] [.agg [.p (.int .i64 (v0.fst)), .p (.seq true 2 (v0.snd.fst.fst) (fun i => [.int .i64 ((v0.snd.fst.snd i).fst), .int .i64 ((v0.snd.fst.snd i).snd.fst)]))], .p (.int .i64 1048576)] [] (.p (.int .i64 (f_szGraph v0 1048576))),
  ((decide (f_szGraph v0 1048576 < 0)) = false),
  ((0 : Nat) < 1),
  Con (Try.prog) 11 0 [] [.agg [.p (.int .i64 (v0.fst)), .p (.seq true 2 (v0.snd.fst.fst) (fun i => [.int .i64 ((v0.snd.fst.snd i).fst), .int .i64 ((v0.snd.fst.snd i).snd.fst)]))]] [(0, ⟨false, 2, (v0.snd.fst.fst), (fun i => [.p (.int .i64 ((v0.snd.fst.snd i).fst)), .p (.int .i64 ((v0.snd.fst.snd i).snd.fst))])⟩)] (.agg [.p (.int .i64 (v0.fst)), .ar 2 0 0 (v0.snd.fst.fst)]),
  Con (Try.prog) 15 0 [] [.p (.seq true 1 (v1.fst) (fun i => [.int .i64 (v1.snd i)]))] [(0, ⟨false, 1, (v1.fst), (fun i => [.p (.int .i64 (v1.snd i))])⟩)] (.ar 1 0 0 (v1.fst)),
  ((2 : Nat) = 2),
  (((v0.snd.fst.fst) : Nat) ≤ (v0.snd.fst.fst)),
  ((1 : Nat) = 1),
  (((v1.fst) : Nat) ≤ (v1.fst)),
  Con (Try.prog) 14 0 [] [.agg [.p (.int .i64 (v0.fst)), .p (.seq true 2 (v0.snd.fst.fst) (fun i => [.int .i64 ((v0.snd.fst.snd i).fst), .int .i64 ((v0.snd.fst.snd i).snd.fst)]))], .p (.seq true 1 (v1.fst) (fun i => [.int .i64 (v1.snd i)]))] [(0, ⟨false, 2, ((rnG v0 v1).snd.fst.fst), (fun i => [.p (.int .i64 (((rnG v0 v1).snd.fst.snd i).fst)), .p (.int .i64 (((rnG v0 v1).snd.fst.snd i).snd.fst))])⟩)] (.tup [.agg [.p (.int .i64 ((rnG v0 v1).fst)), .ar 2 0 0 ((rnG v0 v1).snd.fst.fst)], .p (.bool (rnB v0 v1))]),
  ((0 : Nat) < 1),
  (((true) = true) → ((1 : Nat) = 1)),
  ((0 : Nat) < 1),
  Con (Try.prog) 11 0 [] [.agg [.p (.int .i64 (v0.fst)), .p (.seq true 2 (v0.snd.fst.fst) (fun i => [.int .i64 ((v0.snd.fst.snd i).fst), .int .i64 ((v0.snd.fst.snd i).snd.fst)]))]] [(0, ⟨false, 2, (v0.snd.fst.fst), (fun i => [.p (.int .i64 ((v0.snd.fst.snd i).fst)), .p (.int .i64 ((v0.snd.fst.snd i).snd.fst))])⟩)] (.agg [.p (.int .i64 (v0.fst)), .ar 2 0 0 (v0.snd.fst.fst)]),
  ((0 : Nat) < 1),
  (((true) = true) → ((1 : Nat) = 1)),
  Con (Try.prog) 15 0 [] [.p (.seq true 1 (v1.fst) (fun i => [.int .i64 (v1.snd i)]))] [(0, ⟨false, 1, (v1.fst), (fun i => [.p (.int .i64 (v1.snd i))])⟩)] (.ar 1 0 0 (v1.fst)),
  ((0 : Nat) < 1),
  ((2 : Nat) = 2),
  (((v0.snd.fst.fst) : Nat) ≤ (v0.snd.fst.fst)),
  ((1 : Nat) = 1),
  (((v1.fst) : Nat) ≤ (v1.fst)),
  Con (Try.prog) 16 0 [] [.agg [.p (.int .i64 (v0.fst)), .p (.seq true 2 (v0.snd.fst.fst) (fun i => [.int .i64 ((v0.snd.fst.snd i).fst), .int .i64 ((v0.snd.fst.snd i).snd.fst)]))], .p (.seq true 1 (v1.fst) (fun i => [.int .i64 (v1.snd i)]))] [(0, ⟨false, 2, ((rnG v0 v1).snd.fst.fst), (fun i => [.p (.int .i64 (((rnG v0 v1).snd.fst.snd i).fst)), .p (.int .i64 (((rnG v0 v1).snd.fst.snd i).snd.fst))])⟩)] (.tup [.agg [.p (.int .i64 ((rnG v0 v1).fst)), .ar 2 0 0 ((rnG v0 v1).snd.fst.fst)], .p (.bool (rnB v0 v1))]),
  ((0 : Nat) < 1),
  (((true) = true) → ((1 : Nat) = 1)),
  ((0 : Nat) < 1),
  ((0 : Nat) < 1),
  ((2 : Nat) = 2),
  ((((rnG v0 v1).snd.fst.fst) : Nat) ≤ ((rnG v0 v1).snd.fst.fst)),
  ((2 : Nat) = 2),
  ((((rnG v0 v1).snd.fst.fst) : Nat) ≤ ((rnG v0 v1).snd.fst.fst)),
  Con (Try.prog) 13 0 [] [.agg [.p (.int .i64 ((rnG v0 v1).fst)), .p (.seq true 2 ((rnG v0 v1).snd.fst.fst) (fun i => [.int .i64 (((rnG v0 v1).snd.fst.snd i).fst), .int .i64 (((rnG v0 v1).snd.fst.snd i).snd.fst)]))], .agg [.p (.int .i64 ((rnG v0 v1).fst)), .p (.seq true 2 ((rnG v0 v1).snd.fst.fst) (fun i => [.int .i64 (((rnG v0 v1).snd.fst.snd i).fst), .int .i64 (((rnG v0 v1).snd.fst.snd i).snd.fst)]))]] [] (.p (.bool true)),
  (((!!true) = true) → ((!!true) = true)),
  (((!!true) = true) → ((!!true) = true)),
  (((!true) = false) → ((!!true) = true)),
  ((bif !true then true else !rnB v0 v1 == rnB v0 v1) = false),
  ((0 : Nat) < 1),
  ((0 : Nat) < 1),
  Con (Try.prog) 11 0 [] [.agg [.p (.int .i64 (v0.fst)), .p (.seq true 2 (v0.snd.fst.fst) (fun i => [.int .i64 ((v0.snd.fst.snd i).fst), .int .i64 ((v0.snd.fst.snd i).snd.fst)]))]] [(0, ⟨false, 2, (v0.snd.fst.fst), (fun i => [.p (.int .i64 ((v0.snd.fst.snd i).fst)), .p (.int .i64 ((v0.snd.fst.snd i).snd.fst))])⟩)] (.agg [.p (.int .i64 (v0.fst)), .ar 2 0 0 (v0.snd.fst.fst)]),
  ((2 : Nat) = 2),
  (((v0.snd.fst.fst) : Nat) ≤ (v0.snd.fst.fst)),
  ((2 : Nat) = 2),
  (((v0.snd.fst.fst) : Nat) ≤ (v0.snd.fst.fst)),
  Con (Try.prog) 13 0 [] [.agg [.p (.int .i64 (v0.fst)), .p (.seq true 2 (v0.snd.fst.fst) (fun i => [.int .i64 ((v0.snd.fst.snd i).fst), .int .i64 ((v0.snd.fst.snd i).snd.fst)]))], .agg [.p (.int .i64 (v0.fst)), .p (.seq true 2 (v0.snd.fst.fst) (fun i => [.int .i64 ((v0.snd.fst.snd i).fst), .int .i64 ((v0.snd.fst.snd i).snd.fst)]))]] [] (.p (.bool true)),
  ((!true) = false),
  Con (Try.prog) 15 0 [] [.p (.seq true 1 (v1.fst) (fun i => [.int .i64 (v1.snd i)]))] [(0, ⟨false, 1, (v1.fst), (fun i => [.p (.int .i64 (v1.snd i))])⟩)] (.ar 1 0 0 (v1.fst)),
  ((1 : Nat) = 1),
  (((v1.fst) : Nat) ≤ (v1.fst)),
  ((1 : Nat) = 1),
  (((v1.fst) : Nat) ≤ (v1.fst)),
  Con (Try.prog) 17 0 [] [.p (.seq true 1 (v1.fst) (fun i => [.int .i64 (v1.snd i)])), .p (.seq true 1 (v1.fst) (fun i => [.int .i64 (v1.snd i)]))] [] (.p (.bool true)),
  ((!true) = false),
  ((0 : Nat) < 1),
  (∀ i : Nat, ((((i) : Nat) < (v0.snd.fst.fst)) → All [])),
  Con (Try.prog) 18 1 [(0, ⟨false, 2, (v0.snd.fst.fst), (fun i => [.p (.int .i64 ((v0.snd.fst.snd i).fst)), .p (.int .i64 ((v0.snd.fst.snd i).snd.fst))])⟩)] [.agg [.p (.int .i64 (v0.fst)), .ar 2 0 0 (v0.snd.fst.fst)], .p (.int .i64 1)] [(0, ⟨false, 2, (v0.snd.fst.fst), (fun i => [.p (.int .i64 (1 + 2 * (↑i : Int))), .p (.int .i64 (1 + 2 * (↑i : Int) + 1))])⟩)] (.p (.int .i64 (1 + 2 * (↑v0.snd.fst.fst : Int)))),
  (∀ i : Nat, ((((i) : Nat) < (v1.fst)) → All [])),
  Con (Try.prog) 19 1 [(0, ⟨false, 1, (v1.fst), (fun i => [.p (.int .i64 (v1.snd i))])⟩)] [.ar 1 0 0 (v1.fst), .p (.int .i64 (1 + 2 * (↑v0.snd.fst.fst : Int)))] [(0, ⟨false, 1, (v1.fst), (fun i => [.p (.int .i64 (1 + 2 * (↑v0.snd.fst.fst : Int) + (↑i : Int)))])⟩)] (.p (.int .i64 (1 + 2 * (↑v0.snd.fst.fst : Int) + (↑v1.fst : Int)))),
  (((!decide (1 + 2 * (↑v0.snd.fst.fst : Int) + (↑v1.fst : Int) < 0)) = true) → ((0 : Nat) < 1)),
  (((!decide (1 + 2 * (↑v0.snd.fst.fst : Int) + (↑v1.fst : Int) < 0)) = true) → ((0 : Nat) < 1)),
  (((!decide (1 + 2 * (↑v0.snd.fst.fst : Int) + (↑v1.fst : Int) < 0)) = true) → ((!decide (1 + 2 * (↑v0.snd.fst.fst : Int) + (↑v1.fst : Int) < 0)) = true)),
  (((!decide (1 + 2 * (↑v0.snd.fst.fst : Int) + (↑v1.fst : Int) < 0)) = true) → ((!decide (1 + 2 * (↑v0.snd.fst.fst : Int) + (↑v1.fst : Int) < 0)) = true)),
  (((!decide (1 + 2 * (↑v0.snd.fst.fst : Int) + (↑v1.fst : Int) < 0)) = true) → ((2 : Nat) = 2)),
  (((!decide (1 + 2 * (↑v0.snd.fst.fst : Int) + (↑v1.fst : Int) < 0)) = true) → ((((rnG v0 v1).snd.fst.fst) : Nat) ≤ ((rnG v0 v1).snd.fst.fst))),
  (((!decide (1 + 2 * (↑v0.snd.fst.fst : Int) + (↑v1.fst : Int) < 0)) = true) → ((2 : Nat) = 2)),
  (((!decide (1 + 2 * (↑v0.snd.fst.fst : Int) + (↑v1.fst : Int) < 0)) = true) → ((((rnG v0 v1).snd.fst.fst) : Nat) ≤ ((rnG v0 v1).snd.fst.fst))),
  (((!decide (1 + 2 * (↑v0.snd.fst.fst : Int) + (↑v1.fst : Int) < 0)) = true) → Con (Try.prog) 13 0 [] [.agg [.p (.int .i64 ((rnG v0 v1).fst)), .p (.seq true 2 ((rnG v0 v1).snd.fst.fst) (fun i => [.int .i64 (((rnG v0 v1).snd.fst.snd i).fst), .int .i64 (((rnG v0 v1).snd.fst.snd i).snd.fst)]))], .agg [.p (.int .i64 ((rnG v0 v1).fst)), .p (.seq true 2 ((rnG v0 v1).snd.fst.fst) (fun i => [.int .i64 (((rnG v0 v1).snd.fst.snd i).fst), .int .i64 (((rnG v0 v1).snd.fst.snd i).snd.fst)]))]] [] (.p (.bool true))),
  (((!decide (1 + 2 * (↑v0.snd.fst.fst : Int) + (↑v1.fst : Int) < 0)) = true) → ((!decide (1 + 2 * (↑v0.snd.fst.fst : Int) + (↑v1.fst : Int) < 0)) = true)),
  (((decide (1 + 2 * (↑v0.snd.fst.fst : Int) + (↑v1.fst : Int) < 0)) = false) → ((!decide (1 + 2 * (↑v0.snd.fst.fst : Int) + (↑v1.fst : Int) < 0)) = true)),
  (((!bif decide (1 + 2 * (↑v0.snd.fst.fst : Int) + (↑v1.fst : Int) < 0) then true else !true) = true) → ((!bif decide (1 + 2 * (↑v0.snd.fst.fst : Int) + (↑v1.fst : Int) < 0) then true else !true) = true)),
  (((!bif decide (1 + 2 * (↑v0.snd.fst.fst : Int) + (↑v1.fst : Int) < 0) then true else !true) = true) → ((!bif decide (1 + 2 * (↑v0.snd.fst.fst : Int) + (↑v1.fst : Int) < 0) then true else !true) = true)),
  (((bif decide (1 + 2 * (↑v0.snd.fst.fst : Int) + (↑v1.fst : Int) < 0) then true else !true) = false) → ((!bif decide (1 + 2 * (↑v0.snd.fst.fst : Int) + (↑v1.fst : Int) < 0) then true else !true) = true)),
  ((bif bif decide (1 + 2 * (↑v0.snd.fst.fst : Int) + (↑v1.fst : Int) < 0) then true else !true then true else !rnB v0 v1 == rnB v0 v1) = false),
  ((0 : Nat) < 1),
  (∀ i : Nat, ((((i) : Nat) < ((rnG v0 v1).snd.fst.fst)) → All [])),
  Con (Try.prog) 18 1 [(0, ⟨false, 2, ((rnG v0 v1).snd.fst.fst), (fun i => [.p (.int .i64 (((rnG v0 v1).snd.fst.snd i).fst)), .p (.int .i64 (((rnG v0 v1).snd.fst.snd i).snd.fst))])⟩)] [.agg [.p (.int .i64 ((rnG v0 v1).fst)), .ar 2 0 0 ((rnG v0 v1).snd.fst.fst)], .p (.int .i64 1)] [(0, ⟨false, 2, ((rnG v0 v1).snd.fst.fst), (fun i => [.p (.int .i64 (1 + 2 * (↑i : Int))), .p (.int .i64 (1 + 2 * (↑i : Int) + 1))])⟩)] (.p (.int .i64 (1 + 2 * (↑(rnG v0 v1).snd.fst.fst : Int)))),
  ((0 : Nat) < 1),
  ((2 : Nat) = 2),
  ((((rnG v0 v1).snd.fst.fst) : Nat) ≤ ((rnG v0 v1).snd.fst.fst)),
  Con (Try.prog) 20 0 [] [.agg [.p (.int .i64 ((rnG v0 v1).fst)), .p (.seq true 2 ((rnG v0 v1).snd.fst.fst) (fun i => [.int .i64 (1 + 2 * (↑i : Int)), .int .i64 (1 + 2 * (↑i : Int) + 1)]))], .p (.int .i64 1)] [] (.p (.int .i64 (1 + 2 * (↑(rnG v0 v1).snd.fst.fst : Int)))),
  ((decide (1 + 2 * (↑(rnG v0 v1).snd.fst.fst : Int) < 0)) = false),
  ((1 + 2 * (↑(rnG v0 v1).snd.fst.fst : Int) != 1 + 2 * (↑(rnG v0 v1).snd.fst.fst : Int)) = false),
  ((0 : Nat) < 1),
  Con (Try.prog) 11 0 [] [.agg [.p (.int .i64 (v0.fst)), .p (.seq true 2 (v0.snd.fst.fst) (fun i => [.int .i64 ((v0.snd.fst.snd i).fst), .int .i64 ((v0.snd.fst.snd i).snd.fst)]))]] [(0, ⟨false, 2, (v0.snd.fst.fst), (fun i => [.p (.int .i64 ((v0.snd.fst.snd i).fst)), .p (.int .i64 ((v0.snd.fst.snd i).snd.fst))])⟩)] (.agg [.p (.int .i64 (v0.fst)), .ar 2 0 0 (v0.snd.fst.fst)]),
  Con (Try.prog) 15 0 [] [.p (.seq true 1 (v1.fst) (fun i => [.int .i64 (v1.snd i)]))] [(0, ⟨false, 1, (v1.fst), (fun i => [.p (.int .i64 (v1.snd i))])⟩)] (.ar 1 0 0 (v1.fst)),
  ((2 : Nat) = 2),
  (((v0.snd.fst.fst) : Nat) ≤ (v0.snd.fst.fst)),
  ((1 : Nat) = 1),
  (((v1.fst) : Nat) ≤ (v1.fst)),
  Con (Try.prog) 16 0 [] [.agg [.p (.int .i64 (v0.fst)), .p (.seq true 2 (v0.snd.fst.fst) (fun i => [.int .i64 ((v0.snd.fst.snd i).fst), .int .i64 ((v0.snd.fst.snd i).snd.fst)]))], .p (.seq true 1 (v1.fst) (fun i => [.int .i64 (v1.snd i)]))] [(0, ⟨false, 2, ((rnG v0 v1).snd.fst.fst), (fun i => [.p (.int .i64 (((rnG v0 v1).snd.fst.snd i).fst)), .p (.int .i64 (((rnG v0 v1).snd.fst.snd i).snd.fst))])⟩)] (.tup [.agg [.p (.int .i64 ((rnG v0 v1).fst)), .ar 2 0 0 ((rnG v0 v1).snd.fst.fst)], .p (.bool (rnB v0 v1))]),
  ((0 : Nat) < 1),
  (((true) = true) → ((1 : Nat) = 1)),
  ((0 : Nat) < 1),
  ((0 : Nat) < 1),
  ((2 : Nat) = 2),
  ((((rnG v0 v1).snd.fst.fst) : Nat) ≤ ((rnG v0 v1).snd.fst.fst)),
  ((2 : Nat) = 2),
  ((((rnG v0 v1).snd.fst.fst) : Nat) ≤ ((rnG v0 v1).snd.fst.fst)),
  Con (Try.prog) 13 0 [] [.agg [.p (.int .i64 ((rnG v0 v1).fst)), .p (.seq true 2 ((rnG v0 v1).snd.fst.fst) (fun i => [.int .i64 (((rnG v0 v1).snd.fst.snd i).fst), .int .i64 (((rnG v0 v1).snd.fst.snd i).snd.fst)]))], .agg [.p (.int .i64 ((rnG v0 v1).fst)), .p (.seq true 2 ((rnG v0 v1).snd.fst.fst) (fun i => [.int .i64 (((rnG v0 v1).snd.fst.snd i).fst), .int .i64 (((rnG v0 v1).snd.fst.snd i).snd.fst)]))]] [] (.p (.bool true)),
  (((!!true) = true) → ((!!true) = true)),
  (((!!true) = true) → ((!!true) = true)),
  (((!true) = false) → ((!!true) = true)),
  ((bif !true then true else !rnB v0 v1 == rnB v0 v1) = false),
  ((0 : Nat) < 1),
  ((2 : Nat) = 2),
  ((((rnG v0 v1).snd.fst.fst) : Nat) ≤ ((rnG v0 v1).snd.fst.fst)),
  Con (Try.prog) 20 0 [] [.agg [.p (.int .i64 ((rnG v0 v1).fst)), .p (.seq true 2 ((rnG v0 v1).snd.fst.fst) (fun i => [.int .i64 (1 + 2 * (↑i : Int)), .int .i64 (1 + 2 * (↑i : Int) + 1)]))], .p (.int .i64 1)] [] (.p (.int .i64 (1 + 2 * (↑(rnG v0 v1).snd.fst.fst : Int)))),
  ((decide (1 + 2 * (↑(rnG v0 v1).snd.fst.fst : Int) < 0)) = false),
  ((1 + 2 * (↑(rnG v0 v1).snd.fst.fst : Int) != 1 + 2 * (↑(rnG v0 v1).snd.fst.fst : Int)) = false),
  (true = true)] := by kernel_rfl

theorem con_law_FnExactRenameGraph (v0 : T_Graph) (v1 : T_IntS) (k0 : okS s_Graph v0) (k1 : okS s_IntS v1) : Con Try.prog 4 0 [] [.agg [.p (.int .i64 (v0.1)), .p (.seq true 2 (v0.2.1.1) (fun i => [.int .i64 ((v0.2.1.2 i).1), .int .i64 ((v0.2.1.2 i).2.1)]))], .p (.seq true 1 (v1.1) (fun i => [.int .i64 ((v1.2 i))]))] [] (.p (.bool true)) := by
  refine con_start Try.func4 rfl (by kernel_rfl) rfl (fun c hc => ?_)
  by_cases gl0 : 1048576 < v1.1
  · refine path_ok mixed Try.func4 hc (p_FnExactRenameGraph_l0 v0 v1) ?_
    simp only [All]
    repeat' (first | exact trivial | with_reducible apply And.intro)
    all_goals (first | omega | rfl | (intros; first | assumption | exact True.intro | rfl | exact absurd (show false = true by assumption) Bool.false_ne_true | ((repeat' (first | assumption | apply anda | apply notf)); done)) | (simp; omega))
  have hs1 : smS s_IntS v1 := ⟨by omega, fun i hi => by simp [smS]⟩
  have l0 := le_szGraph v0 1048576 (by omega)
  by_cases g0 : (f_szGraph v0 1048576) < 0
  · refine path_ok mixed Try.func4 hc (p_FnExactRenameGraph_0 v0 v1) ?_
    simp only [All]
    repeat' (first | exact trivial | with_reducible apply And.intro)
    all_goals (first | omega | rfl | (intros; first | assumption | exact True.intro | rfl | exact absurd (show false = true by assumption) Bool.false_ne_true | ((repeat' (first | assumption | apply anda | apply notf)); done)) | (exact con_szGraph v0 k0 _ (by omega) (by omega)) | (simp; omega))
  have hs0 := sm_szGraph v0 1048576 (by omega) (by omega) g0
  have hr0 : smS s_Graph (rnG v0 v1) := sm_graph (by have := rnG_le v0 v1; omega)
  have n_0 : v0.2.1.1 ≤ 1048576 := hs0.2.1.1
  have n_1 : v1.1 ≤ 1048576 := hs1.1
  have n_2 : (rnG v0 v1).2.1.1 ≤ 1048576 := hr0.2.1.1
  refine path_ok mixed Try.func4 hc (p_FnExactRenameGraph_e v0 v1) ?_
  simp only [All]
  repeat' (first | exact trivial | with_reducible apply And.intro)
  all_goals (first | omega | rfl | (intros; first | assumption | exact True.intro | rfl | exact absurd (show false = true by assumption) Bool.false_ne_true | ((repeat' (first | assumption | apply anda | apply notf)); done)) | (exact con_szGraph v0 k0 _ (by omega) (by omega)) | (exact con_toGraph v0 hs0) | (exact con_toIntS v1 hs1) | (exact con_Rename_s v0 hs0 v1 hs1.1) | (exact con_Rename_i v0 hs0 v1 hs1.1) | (intros; exact con_eqGraph (rnG v0 v1) hr0) | (intros; exact con_eqGraph v0 hs0) | (intros; exact con_eqIntS v1 hs1) | (intros; exact con_markGraph v0 _ hs0.2.1.1 (by omega) (by omega)) | (intros; exact con_markIntS v1 _ hs1.1 (by omega) (by omega)) | (intros; exact con_markGraph (rnG v0 v1) _ hr0.2.1.1 (by omega) (by omega)) | (intros; exact con_heldGraph (rnG v0 v1) _ hr0.2.1.1 (by omega) (by omega)) | (intros; exact con_heldBarS _ _ (by omega) (by omega) (by omega)) | (cases rnB v0 v1 <;> rfl) | (simp; try omega))

end Go.Proofs.Ythnidhkfelfkdab.Mach
