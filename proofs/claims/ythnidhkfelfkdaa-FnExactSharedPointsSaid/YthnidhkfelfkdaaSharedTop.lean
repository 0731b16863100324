/- The law FnExactSharedPoints as a contract: it answers true. Written by our own lawtop2.py. Conditions: lengths that values can have. -/
import Derived.Test.YthnidhkfelfkdaaShared
namespace Go.Proofs.Ythnidhkfelfkdaa.Mach
open Go
set_option linter.unusedVariables false
set_option linter.unusedSimpArgs false

theorem p_FnExactSharedPoints_0 (v0 : T_Graph) :
    pathOb Try.prog Try.f7 0 [.reg [oT, oT], .reg [oT], .reg [oT, oT, ⟨true, (some ⟨[], [], 1, [], .p (.int .i64 (f_szGraph v0 1048576))⟩), none⟩, oT], .reg [oT, oT], .dec true, .reg [oT]] [.code (bodyOf Try.f7)] (start Try.f7 [] 0 [.agg [.p (.int .i64 (v0.1)), .p (.seq true 2 (v0.2.1.1) (fun i => [.int .i64 ((v0.2.1.2 i).1), .int .i64 ((v0.2.1.2 i).2.1)]))]]) [] 1 [] (.p (.bool true)) =
    some [((0 : Nat) < 1),
  Con (Try.prog) 11 0 [] [.agg [.p (.int .i64 (v0.fst)), .p (.seq true 2 (v0.snd.fst.fst) (fun i => [.int .i64 ((v0.snd.fst.snd i).fst), .int .i64 ((v0.snd.fst.snd i).snd.fst)]))], .p (.int .i64 1048576)] [] (.p (.int .i64 (f_szGraph v0 1048576))),
  ((decide (f_szGraph v0 1048576 < 0)) = true),
  (true = true)] := by kernel_rfl
theorem p_FnExactSharedPoints_e (v0 : T_Graph) :
    pathOb Try.prog Try.f7 0 [.reg [oT, oT], .reg [oT], .reg [oT, oT, ⟨true, (some ⟨[], [], 1, [], .p (.int .i64 (f_szGraph v0 1048576))⟩), none⟩, oT], .reg [oT, oT], .dec false, .reg [oT, ⟨true, (some ⟨[], [], 1, [(0, ⟨false, 2, v0.2.1.1, fun i => [.p (.int .i64 ((v0.2.1.2 i).1)), .p (.int .i64 ((v0.2.1.2 i).2.1))]⟩)], .agg [.p (.int .i64 (v0.1)), .ar 2 0 0 (v0.2.1.1)]⟩), none⟩, ⟨true, (some ⟨[], [], 1, [(0, ⟨false, 1, (shG v0).1, fun i => [.p (.int .i64 (((shG v0).2 i)))]⟩)], .ar 1 0 0 ((shG v0).1)⟩), none⟩, oT], .reg [oT, ⟨true, (some ⟨[], [], 1, [(0, ⟨false, 2, v0.2.1.1, fun i => [.p (.int .i64 ((v0.2.1.2 i).1)), .p (.int .i64 ((v0.2.1.2 i).2.1))]⟩)], .agg [.p (.int .i64 (v0.1)), .ar 2 0 0 (v0.2.1.1)]⟩), none⟩, oT, oT], .reg [oT, ⟨true, (some ⟨[], [], 1, [(0, ⟨false, 1, (shG v0).1, fun i => [.p (.int .i64 (((shG v0).2 i)))]⟩)], .ar 1 0 0 ((shG v0).1)⟩), none⟩, oT], .reg [oT, oT, ⟨true, (some ⟨[], [], 1, [], .p (.bool true)⟩), none⟩, oT], .dec false, .reg [oT, oT, ⟨true, (some ⟨[], [], 1, [(0, ⟨false, 2, v0.2.1.1, fun i => [.p (.int .i64 ((v0.2.1.2 i).1)), .p (.int .i64 ((v0.2.1.2 i).2.1))]⟩)], .agg [.p (.int .i64 (v0.1)), .ar 2 0 0 (v0.2.1.1)]⟩), none⟩, ⟨true, (some ⟨[], [], 1, [], .p (.bool true)⟩), none⟩, oT], .dec false, .reg [oT], .reg [oT, oT, ⟨true, (some ⟨[448], [], 1, [(0, ⟨false, 2, v0.2.1.1, fun i => [.p (.int .i64 (1 + 2 * (i : Int))), .p (.int .i64 (1 + 2 * (i : Int) + 1))]⟩)], .p (.int .i64 (1 + 2 * (v0.2.1.1 : Int)))⟩), none⟩, oT], .reg [oT, oT, oT, oT, oT, ⟨true, (some ⟨[], [], 1, [], .p (.bool true)⟩), none⟩, oT, oT], .dec false, .reg [oT], .reg [oT, oT, ⟨true, (some ⟨[576], [], 1, [(0, ⟨false, 1, (shG v0).1, fun i => [.p (.int .i64 (1 + (i : Int)))]⟩)], .p (.int .i64 (1 + ((shG v0).1 : Int)))⟩), none⟩, oT], .reg [oT], .reg [oT, oT, ⟨true, (some ⟨[], [], 1, [], .p (.int .i64 (1 + ((shG v0).1 : Int)))⟩), none⟩, oT], .reg [oT, oT], .dec false, .reg [oT, oT, oT], .dec false, .reg [oT, ⟨true, (some ⟨[], [], 1, [(0, ⟨false, 2, v0.2.1.1, fun i => [.p (.int .i64 ((v0.2.1.2 i).1)), .p (.int .i64 ((v0.2.1.2 i).2.1))]⟩)], .agg [.p (.int .i64 (v0.1)), .ar 2 0 0 (v0.2.1.1)]⟩), none⟩, ⟨true, (some ⟨[], [], 1, [(0, ⟨false, 1, (shG v0).1, fun i => [.p (.int .i64 (((shG v0).2 i)))]⟩)], .ar 1 0 0 ((shG v0).1)⟩), none⟩, oT], .reg [oT, oT, ⟨true, (some ⟨[], [], 1, [], .p (.bool true)⟩), none⟩, oT], .dec false, .reg [oT], .reg [oT, oT, ⟨true, (some ⟨[], [], 1, [], .p (.int .i64 (1 + ((shG v0).1 : Int)))⟩), none⟩, oT], .reg [oT, oT], .dec false, .reg [oT, oT, oT], .dec false, .reg [oT]] [.code (bodyOf Try.f7)] (start Try.f7 [] 0 [.agg [.p (.int .i64 (v0.1)), .p (.seq true 2 (v0.2.1.1) (fun i => [.int .i64 ((v0.2.1.2 i).1), .int .i64 ((v0.2.1.2 i).2.1)]))]]) [] 1 [] (.p (.bool true)) =
    some [((0 : Nat) < 1),
  Con (Try.prog) 11 0 [] [.agg [.p (.int .i64 (v0.fst)), .p (.seq true 2 (v0.snd.fst.fst) (fun i => [.int .i64 ((v0.snd.fst.snd i).fst), .int .i64 ((v0.snd.fst.snd i).snd.fst)]))], .p (.int .i64 1048576)] [] (.p (.int .i64 (f_szGraph v0 1048576))),
  ((decide (f_szGraph v0 1048576 < 0)) = false),
  ((0 : Nat) < 1),
  Con (Try.prog) 13 0 [] [.agg [.p (.int .i64 (v0.fst)), .p (.seq true 2 (v0.snd.fst.fst) (fun i => [.int .i64 ((v0.snd.fst.snd i).fst), .int .i64 ((v0.snd.fst.snd i).snd.fst)]))]] [(0, ⟨false, 2, (v0.snd.fst.fst), (fun i => [.p (.int .i64 ((v0.snd.fst.snd i).fst)), .p (.int .i64 ((v0.snd.fst.snd i).snd.fst))])⟩)] (.agg [.p (.int .i64 (v0.fst)), .ar 2 0 0 (v0.snd.fst.fst)]),
  ((2 : Nat) = 2),
  (((v0.snd.fst.fst) : Nat) ≤ (v0.snd.fst.fst)),
  Con (Try.prog) 27 0 [] [.agg [.p (.int .i64 (v0.fst)), .p (.seq true 2 (v0.snd.fst.fst) (fun i => [.int .i64 ((v0.snd.fst.snd i).fst), .int .i64 ((v0.snd.fst.snd i).snd.fst)]))]] [(0, ⟨false, 1, ((shG v0).fst), (fun i => [.p (.int .i64 ((shG v0).snd i))])⟩)] (.ar 1 0 0 ((shG v0).fst)),
  ((0 : Nat) < 1),
  Con (Try.prog) 13 0 [] [.agg [.p (.int .i64 (v0.fst)), .p (.seq true 2 (v0.snd.fst.fst) (fun i => [.int .i64 ((v0.snd.fst.snd i).fst), .int .i64 ((v0.snd.fst.snd i).snd.fst)]))]] [(0, ⟨false, 2, (v0.snd.fst.fst), (fun i => [.p (.int .i64 ((v0.snd.fst.snd i).fst)), .p (.int .i64 ((v0.snd.fst.snd i).snd.fst))])⟩)] (.agg [.p (.int .i64 (v0.fst)), .ar 2 0 0 (v0.snd.fst.fst)]),
  ((0 : Nat) < 1),
  (((true) = true) → ((1 : Nat) = 1)),
  ((0 : Nat) < 1),
  ((2 : Nat) = 2),
  (((v0.snd.fst.fst) : Nat) ≤ (v0.snd.fst.fst)),
  Con (Try.prog) 28 0 [] [.agg [.p (.int .i64 (v0.fst)), .p (.seq true 2 (v0.snd.fst.fst) (fun i => [.int .i64 ((v0.snd.fst.snd i).fst), .int .i64 ((v0.snd.fst.snd i).snd.fst)]))]] [(0, ⟨false, 1, ((shG v0).fst), (fun i => [.p (.int .i64 ((shG v0).snd i))])⟩)] (.ar 1 0 0 ((shG v0).fst)),
  ((1 : Nat) = 1),
  ((((shG v0).fst) : Nat) ≤ ((shG v0).fst)),
  ((1 : Nat) = 1),
  ((((shG v0).fst) : Nat) ≤ ((shG v0).fst)),
  Con (Try.prog) 18 0 [] [.p (.seq true 1 ((shG v0).fst) (fun i => [.int .i64 ((shG v0).snd i)])), .p (.seq true 1 ((shG v0).fst) (fun i => [.int .i64 ((shG v0).snd i)]))] [] (.p (.bool true)),
  ((!true) = false),
  ((0 : Nat) < 1),
  ((0 : Nat) < 1),
  Con (Try.prog) 13 0 [] [.agg [.p (.int .i64 (v0.fst)), .p (.seq true 2 (v0.snd.fst.fst) (fun i => [.int .i64 ((v0.snd.fst.snd i).fst), .int .i64 ((v0.snd.fst.snd i).snd.fst)]))]] [(0, ⟨false, 2, (v0.snd.fst.fst), (fun i => [.p (.int .i64 ((v0.snd.fst.snd i).fst)), .p (.int .i64 ((v0.snd.fst.snd i).snd.fst))])⟩)] (.agg [.p (.int .i64 (v0.fst)), .ar 2 0 0 (v0.snd.fst.fst)]),
  ((2 : Nat) = 2),
  (((v0.snd.fst.fst) : Nat) ≤ (v0.snd.fst.fst)),
  ((2 : Nat) = 2),
  (((v0.snd.fst.fst) : Nat) ≤ (v0.snd.fst.fst)),
  Con (Try.prog) 15 0 [] [.agg [.p (.int .i64 (v0.fst)), .p (.seq true 2 (v0.snd.fst.fst) (fun i => [.int .i64 ((v0.snd.fst.snd i).fst), .int .i64 ((v0.snd.fst.snd i).snd.fst)]))], .agg [.p (.int .i64 (v0.fst)), .p (.seq true 2 (v0.snd.fst.fst) (fun i => [.int .i64 ((v0.snd.fst.snd i).fst), .int .i64 ((v0.snd.fst.snd i).snd.fst)]))]] [] (.p (.bool true)),
  ((!true) = false),
  ((0 : Nat) < 1),
  (∀ i : Nat, ((((i) : Nat) < (v0.snd.fst.fst)) → All [])),
  Con (Try.prog) 19 1 [(0, ⟨false, 2, (v0.snd.fst.fst), (fun i => [.p (.int .i64 ((v0.snd.fst.snd i).fst)), .p (.int .i64 ((v0.snd.fst.snd i).snd.fst))])⟩)] [.agg [.p (.int .i64 (v0.fst)), .ar 2 0 0 (v0.snd.fst.fst)], .p (.int .i64 1)] [(0, ⟨false, 2, (v0.snd.fst.fst), (fun i => [.p (.int .i64 (1 + 2 * (↑i : Int))), .p (.int .i64 (1 + 2 * (↑i : Int) + 1))])⟩)] (.p (.int .i64 (1 + 2 * (↑v0.snd.fst.fst : Int)))),
  (((!decide (1 + 2 * (↑v0.snd.fst.fst : Int) < 0)) = true) → ((!decide (1 + 2 * (↑v0.snd.fst.fst : Int) < 0)) = true)),
  (((!decide (1 + 2 * (↑v0.snd.fst.fst : Int) < 0)) = true) → ((!decide (1 + 2 * (↑v0.snd.fst.fst : Int) < 0)) = true)),
  (((!decide (1 + 2 * (↑v0.snd.fst.fst : Int) < 0)) = true) → ((1 : Nat) = 1)),
  (((!decide (1 + 2 * (↑v0.snd.fst.fst : Int) < 0)) = true) → ((((shG v0).fst) : Nat) ≤ ((shG v0).fst))),
  (((!decide (1 + 2 * (↑v0.snd.fst.fst : Int) < 0)) = true) → ((1 : Nat) = 1)),
  (((!decide (1 + 2 * (↑v0.snd.fst.fst : Int) < 0)) = true) → ((((shG v0).fst) : Nat) ≤ ((shG v0).fst))),
  (((!decide (1 + 2 * (↑v0.snd.fst.fst : Int) < 0)) = true) → Con (Try.prog) 18 0 [] [.p (.seq true 1 ((shG v0).fst) (fun i => [.int .i64 ((shG v0).snd i)])), .p (.seq true 1 ((shG v0).fst) (fun i => [.int .i64 ((shG v0).snd i)]))] [] (.p (.bool true))),
  (((!decide (1 + 2 * (↑v0.snd.fst.fst : Int) < 0)) = true) → ((!decide (1 + 2 * (↑v0.snd.fst.fst : Int) < 0)) = true)),
  (((decide (1 + 2 * (↑v0.snd.fst.fst : Int) < 0)) = false) → ((!decide (1 + 2 * (↑v0.snd.fst.fst : Int) < 0)) = true)),
  ((bif decide (1 + 2 * (↑v0.snd.fst.fst : Int) < 0) then true else !true) = false),
  (∀ i : Nat, ((((i) : Nat) < ((shG v0).fst)) → All [])),
  Con (Try.prog) 20 1 [(0, ⟨false, 1, ((shG v0).fst), (fun i => [.p (.int .i64 ((shG v0).snd i))])⟩)] [.ar 1 0 0 ((shG v0).fst), .p (.int .i64 1)] [(0, ⟨false, 1, ((shG v0).fst), (fun i => [.p (.int .i64 (1 + (↑i : Int)))])⟩)] (.p (.int .i64 (1 + (↑(shG v0).fst : Int)))),
  ((1 : Nat) = 1),
  ((((shG v0).fst) : Nat) ≤ ((shG v0).fst)),
  Con (Try.prog) 21 0 [] [.p (.seq true 1 ((shG v0).fst) (fun i => [.int .i64 (1 + (↑i : Int))])), .p (.int .i64 1)] [] (.p (.int .i64 (1 + (↑(shG v0).fst : Int)))),
  ((decide (1 + (↑(shG v0).fst : Int) < 0)) = false),
  ((1 + (↑(shG v0).fst : Int) != 1 + (↑(shG v0).fst : Int)) = false),
  ((0 : Nat) < 1),
  Con (Try.prog) 13 0 [] [.agg [.p (.int .i64 (v0.fst)), .p (.seq true 2 (v0.snd.fst.fst) (fun i => [.int .i64 ((v0.snd.fst.snd i).fst), .int .i64 ((v0.snd.fst.snd i).snd.fst)]))]] [(0, ⟨false, 2, (v0.snd.fst.fst), (fun i => [.p (.int .i64 ((v0.snd.fst.snd i).fst)), .p (.int .i64 ((v0.snd.fst.snd i).snd.fst))])⟩)] (.agg [.p (.int .i64 (v0.fst)), .ar 2 0 0 (v0.snd.fst.fst)]),
  ((2 : Nat) = 2),
  (((v0.snd.fst.fst) : Nat) ≤ (v0.snd.fst.fst)),
  Con (Try.prog) 28 0 [] [.agg [.p (.int .i64 (v0.fst)), .p (.seq true 2 (v0.snd.fst.fst) (fun i => [.int .i64 ((v0.snd.fst.snd i).fst), .int .i64 ((v0.snd.fst.snd i).snd.fst)]))]] [(0, ⟨false, 1, ((shG v0).fst), (fun i => [.p (.int .i64 ((shG v0).snd i))])⟩)] (.ar 1 0 0 ((shG v0).fst)),
  ((1 : Nat) = 1),
  ((((shG v0).fst) : Nat) ≤ ((shG v0).fst)),
  ((1 : Nat) = 1),
  ((((shG v0).fst) : Nat) ≤ ((shG v0).fst)),
  Con (Try.prog) 18 0 [] [.p (.seq true 1 ((shG v0).fst) (fun i => [.int .i64 ((shG v0).snd i)])), .p (.seq true 1 ((shG v0).fst) (fun i => [.int .i64 ((shG v0).snd i)]))] [] (.p (.bool true)),
  ((!true) = false),
  ((1 : Nat) = 1),
  ((((shG v0).fst) : Nat) ≤ ((shG v0).fst)),
  Con (Try.prog) 21 0 [] [.p (.seq true 1 ((shG v0).fst) (fun i => [.int .i64 (1 + (↑i : Int))])), .p (.int .i64 1)] [] (.p (.int .i64 (1 + (↑(shG v0).fst : Int)))),
  ((decide (1 + (↑(shG v0).fst : Int) < 0)) = false),
  ((1 + (↑(shG v0).fst : Int) != 1 + (↑(shG v0).fst : Int)) = false),
  (true = true)] := by kernel_rfl

theorem con_law_FnExactSharedPoints (v0 : T_Graph) (k0 : okS s_Graph v0) : Con Try.prog 7 0 [] [.agg [.p (.int .i64 (v0.1)), .p (.seq true 2 (v0.2.1.1) (fun i => [.int .i64 ((v0.2.1.2 i).1), .int .i64 ((v0.2.1.2 i).2.1)]))]] [] (.p (.bool true)) := by
  refine con_start Try.func7 rfl (by kernel_rfl) rfl (fun c hc => ?_)
  have l0 := le_szGraph v0 1048576 (by omega)
  by_cases g0 : (f_szGraph v0 1048576) < 0
  · refine path_ok mixed Try.func7 hc (p_FnExactSharedPoints_0 v0) ?_
    simp only [All]
    repeat' (first | exact trivial | with_reducible apply And.intro)
    all_goals (first | omega | rfl | (intros; first | assumption | exact True.intro | rfl | exact absurd (show false = true by assumption) Bool.false_ne_true | ((repeat' (first | assumption | apply anda | apply notf)); done)) | (exact con_szGraph v0 k0 _ (by omega) (by omega)) | (simp; omega))
  have hs0 := sm_szGraph v0 1048576 (by omega) (by omega) g0
  have hr0 := sm_shG v0
  have n_0 : v0.2.1.1 ≤ 1048576 := hs0.2.1.1
  have n_1 : (shG v0).1 ≤ 1048576 := hr0.1
  refine path_ok mixed Try.func7 hc (p_FnExactSharedPoints_e v0) ?_
  simp only [All]
  repeat' (first | exact trivial | with_reducible apply And.intro)
  all_goals (first | omega | rfl | (intros; first | assumption | exact True.intro | rfl | exact absurd (show false = true by assumption) Bool.false_ne_true | ((repeat' (first | assumption | apply anda | apply notf)); done)) | (exact con_szGraph v0 k0 _ (by omega) (by omega)) | (exact con_toGraph v0 hs0) | (exact con_SharedPoints_s v0 hs0) | (exact con_SharedPoints_i v0 hs0) | (intros; exact con_eqIntS (shG v0) hr0) | (intros; exact con_eqGraph v0 hs0) | (intros; exact con_markGraph v0 _ hs0.2.1.1 (by omega) (by omega)) | (intros; exact con_markIntS (shG v0) _ hr0.1 (by omega) (by omega)) | (intros; exact con_heldIntS (shG v0).1 _ hr0.1 (by omega) (by omega)) | (simp; try omega))

end Go.Proofs.Ythnidhkfelfkdaa.Mach
