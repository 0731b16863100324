/- The law FnExactIsBalanced as a contract: it answers true. Written by our own lawtop.py. Conditions: lengths that values can have. -/
import Derived.Test.YtgddbgmnehkblabBalD
namespace Go.Proofs.Ytgddbgmnehkblab.Mach
open Go
set_option linter.unusedVariables false
set_option linter.unusedSimpArgs false

theorem p_FnExactIsBalanced_l0 (v0 : T_GainGraph) (v1 : T_IntS) :
    pathOb Try.prog Try.f3 0 [.reg [oT, oT], .reg [oT, oT, oT], .dec true, .reg [oT]] [.code (bodyOf Try.f3)] (start Try.f3 [] 0 [.agg [.p (.int .i64 (v0.1)), .p (.seq true 4 (v0.2.1.1) (fun i => [.int .i64 ((v0.2.1.2 i).1), .int .i64 ((v0.2.1.2 i).2.1), .int .i64 ((v0.2.1.2 i).2.2.1), .int .i64 ((v0.2.1.2 i).2.2.2.1)]))], .p (.seq true 1 (v1.1) (fun i => [.int .i64 ((v1.2 i))]))]) [] 1 [] (.p (.bool true)) =
    some [((decide ((↑v1.fst : Int) > 1048576)) = true),
  (true = true)] := by kernel_rfl
theorem p_FnExactIsBalanced_0 (v0 : T_GainGraph) (v1 : T_IntS) :
    pathOb Try.prog Try.f3 0 [.reg [oT, oT], .reg [oT, oT, oT], .dec false, .reg [oT], .reg [oT, oT, ⟨true, (some ⟨[], [], 1, [], .p (.int .i64 (f_szGainGraph v0 1048576))⟩), none⟩, oT], .reg [oT, oT], .dec true, .reg [oT]] [.code (bodyOf Try.f3)] (start Try.f3 [] 0 [.agg [.p (.int .i64 (v0.1)), .p (.seq true 4 (v0.2.1.1) (fun i => [.int .i64 ((v0.2.1.2 i).1), .int .i64 ((v0.2.1.2 i).2.1), .int .i64 ((v0.2.1.2 i).2.2.1), .int .i64 ((v0.2.1.2 i).2.2.2.1)]))], .p (.seq true 1 (v1.1) (fun i => [.int .i64 ((v1.2 i))]))]) [] 1 [] (.p (.bool true)) =
    some [((decide ((↑v1.fst : Int) > 1048576)) = false),
  ((0 : Nat) < 1),
  Con (Try.prog) 9 0 [] [.agg [.p (.int .i64 (v0.fst)), .p (.seq true 4 (v0.snd.fst.fst) (fun i => [.int .i64 ((v0.snd.fst.snd i).fst), .int .i64 ((v0.snd.fst.snd i).snd.fst), .int .i64 ((v0.snd.fst.snd i).snd.snd.fst), .int .i64 ((v0.snd.fst.snd i).snd.snd.snd.fst)]))], .p (.int .i64 1048576)] [] (.p (.int .i64 (f_szGainGraph v0 1048576))),
  ((decide (f_szGainGraph v0 1048576 < 0)) = true),
  (true = true)] := by kernel_rfl
theorem p_FnExactIsBalanced_e (v0 : T_GainGraph) (v1 : T_IntS) :
    pathOb Try.prog Try.f3 0 [.reg [oT, oT], .reg [oT, oT, oT], .dec false, .reg [oT], .reg [oT, oT, ⟨true, (some ⟨[], [], 1, [], .p (.int .i64 (f_szGainGraph v0 1048576))⟩), none⟩, oT], .reg [oT, oT], .dec false, .reg [oT, ⟨true, (some ⟨[], [], 1, [(0, ⟨false, 4, v0.2.1.1, fun i => [.p (.int .i64 ((v0.2.1.2 i).1)), .p (.int .i64 ((v0.2.1.2 i).2.1)), .p (.int .i64 ((v0.2.1.2 i).2.2.1)), .p (.int .i64 ((v0.2.1.2 i).2.2.2.1))]⟩)], .agg [.p (.int .i64 (v0.1)), .ar 4 0 0 (v0.2.1.1)]⟩), none⟩, oT, ⟨true, (some ⟨[], [], 1, [(0, ⟨false, 1, v1.1, fun i => [.p (.int .i64 ((v1.2 i)))]⟩)], .ar 1 0 0 (v1.1)⟩), none⟩, ⟨true, (some ⟨[], [], 1, [], .p (.bool (isBalF v0 v1))⟩), none⟩, oT], .reg [oT, ⟨true, (some ⟨[], [], 1, [(0, ⟨false, 4, v0.2.1.1, fun i => [.p (.int .i64 ((v0.2.1.2 i).1)), .p (.int .i64 ((v0.2.1.2 i).2.1)), .p (.int .i64 ((v0.2.1.2 i).2.2.1)), .p (.int .i64 ((v0.2.1.2 i).2.2.2.1))]⟩)], .agg [.p (.int .i64 (v0.1)), .ar 4 0 0 (v0.2.1.1)]⟩), none⟩, oT, oT], .reg [oT, ⟨true, (some ⟨[], [], 1, [(0, ⟨false, 1, v1.1, fun i => [.p (.int .i64 ((v1.2 i)))]⟩)], .ar 1 0 0 (v1.1)⟩), none⟩, oT], .reg [oT, oT, ⟨true, (some ⟨[], [], 1, [], .p (.bool (isBalF v0 v1))⟩), none⟩, oT], .reg [oT, oT, oT], .dec false, .reg [oT, oT, ⟨true, (some ⟨[], [], 1, [(0, ⟨false, 4, v0.2.1.1, fun i => [.p (.int .i64 ((v0.2.1.2 i).1)), .p (.int .i64 ((v0.2.1.2 i).2.1)), .p (.int .i64 ((v0.2.1.2 i).2.2.1)), .p (.int .i64 ((v0.2.1.2 i).2.2.2.1))]⟩)], .agg [.p (.int .i64 (v0.1)), .ar 4 0 0 (v0.2.1.1)]⟩), none⟩, ⟨true, (some ⟨[], [], 1, [], .p (.bool true)⟩), none⟩, oT], .dec false, .reg [oT, oT, ⟨true, (some ⟨[], [], 1, [(0, ⟨false, 1, v1.1, fun i => [.p (.int .i64 ((v1.2 i)))]⟩)], .ar 1 0 0 (v1.1)⟩), none⟩, ⟨true, (some ⟨[], [], 1, [], .p (.bool true)⟩), none⟩, oT], .dec false, .reg [oT]] [.code (bodyOf Try.f3)] (start Try.f3 [] 0 [.agg [.p (.int .i64 (v0.1)), .p (.seq true 4 (v0.2.1.1) (fun i => [.int .i64 ((v0.2.1.2 i).1), .int .i64 ((v0.2.1.2 i).2.1), .int .i64 ((v0.2.1.2 i).2.2.1), .int .i64 ((v0.2.1.2 i).2.2.2.1)]))], .p (.seq true 1 (v1.1) (fun i => [.int .i64 ((v1.2 i))]))]) [] 1 [] (.p (.bool true)) =
    some [((decide ((↑v1.fst : Int) > 1048576)) = false),
  ((0 : Nat) < 1),
  Con (Try.prog) 9 0 [] [.agg [.p (.int .i64 (v0.fst)), .p (.seq true 4 (v0.snd.fst.fst) (fun i => [.int .i64 ((v0.snd.fst.snd i).fst), .int .i64 ((v0.snd.fst.snd i).snd.fst), .int .i64 ((v0.snd.fst.snd i).snd.snd.fst), .int .i64 ((v0.snd.fst.snd i).snd.snd.snd.fst)]))], .p (.int .i64 1048576)] [] (.p (.int .i64 (f_szGainGraph v0 1048576))),
  ((decide (f_szGainGraph v0 1048576 < 0)) = false),
  ((0 : Nat) < 1),
  Con (Try.prog) 11 0 [] [.agg [.p (.int .i64 (v0.fst)), .p (.seq true 4 (v0.snd.fst.fst) (fun i => [.int .i64 ((v0.snd.fst.snd i).fst), .int .i64 ((v0.snd.fst.snd i).snd.fst), .int .i64 ((v0.snd.fst.snd i).snd.snd.fst), .int .i64 ((v0.snd.fst.snd i).snd.snd.snd.fst)]))]] [(0, ⟨false, 4, (v0.snd.fst.fst), (fun i => [.p (.int .i64 ((v0.snd.fst.snd i).fst)), .p (.int .i64 ((v0.snd.fst.snd i).snd.fst)), .p (.int .i64 ((v0.snd.fst.snd i).snd.snd.fst)), .p (.int .i64 ((v0.snd.fst.snd i).snd.snd.snd.fst))])⟩)] (.agg [.p (.int .i64 (v0.fst)), .ar 4 0 0 (v0.snd.fst.fst)]),
  Con (Try.prog) 12 0 [] [.p (.seq true 1 (v1.fst) (fun i => [.int .i64 (v1.snd i)]))] [(0, ⟨false, 1, (v1.fst), (fun i => [.p (.int .i64 (v1.snd i))])⟩)] (.ar 1 0 0 (v1.fst)),
  ((4 : Nat) = 4),
  (((v0.snd.fst.fst) : Nat) ≤ (v0.snd.fst.fst)),
  ((1 : Nat) = 1),
  (((v1.fst) : Nat) ≤ (v1.fst)),
  Con (Try.prog) 10 0 [] [.agg [.p (.int .i64 (v0.fst)), .p (.seq true 4 (v0.snd.fst.fst) (fun i => [.int .i64 ((v0.snd.fst.snd i).fst), .int .i64 ((v0.snd.fst.snd i).snd.fst), .int .i64 ((v0.snd.fst.snd i).snd.snd.fst), .int .i64 ((v0.snd.fst.snd i).snd.snd.snd.fst)]))], .p (.seq true 1 (v1.fst) (fun i => [.int .i64 (v1.snd i)]))] [] (.p (.bool (isBalF v0 v1))),
  ((0 : Nat) < 1),
  Con (Try.prog) 11 0 [] [.agg [.p (.int .i64 (v0.fst)), .p (.seq true 4 (v0.snd.fst.fst) (fun i => [.int .i64 ((v0.snd.fst.snd i).fst), .int .i64 ((v0.snd.fst.snd i).snd.fst), .int .i64 ((v0.snd.fst.snd i).snd.snd.fst), .int .i64 ((v0.snd.fst.snd i).snd.snd.snd.fst)]))]] [(0, ⟨false, 4, (v0.snd.fst.fst), (fun i => [.p (.int .i64 ((v0.snd.fst.snd i).fst)), .p (.int .i64 ((v0.snd.fst.snd i).snd.fst)), .p (.int .i64 ((v0.snd.fst.snd i).snd.snd.fst)), .p (.int .i64 ((v0.snd.fst.snd i).snd.snd.snd.fst))])⟩)] (.agg [.p (.int .i64 (v0.fst)), .ar 4 0 0 (v0.snd.fst.fst)]),
  ((0 : Nat) < 1),
  (((true) = true) → ((1 : Nat) = 1)),
  Con (Try.prog) 12 0 [] [.p (.seq true 1 (v1.fst) (fun i => [.int .i64 (v1.snd i)]))] [(0, ⟨false, 1, (v1.fst), (fun i => [.p (.int .i64 (v1.snd i))])⟩)] (.ar 1 0 0 (v1.fst)),
  ((0 : Nat) < 1),
  ((4 : Nat) = 4),
  (((v0.snd.fst.fst) : Nat) ≤ (v0.snd.fst.fst)),
  ((1 : Nat) = 1),
  (((v1.fst) : Nat) ≤ (v1.fst)),
  Con (Try.prog) 13 0 [] [.agg [.p (.int .i64 (v0.fst)), .p (.seq true 4 (v0.snd.fst.fst) (fun i => [.int .i64 ((v0.snd.fst.snd i).fst), .int .i64 ((v0.snd.fst.snd i).snd.fst), .int .i64 ((v0.snd.fst.snd i).snd.snd.fst), .int .i64 ((v0.snd.fst.snd i).snd.snd.snd.fst)]))], .p (.seq true 1 (v1.fst) (fun i => [.int .i64 (v1.snd i)]))] [] (.p (.bool (isBalF v0 v1))),
  ((!isBalF v0 v1 == isBalF v0 v1) = false),
  ((0 : Nat) < 1),
  ((0 : Nat) < 1),
  Con (Try.prog) 11 0 [] [.agg [.p (.int .i64 (v0.fst)), .p (.seq true 4 (v0.snd.fst.fst) (fun i => [.int .i64 ((v0.snd.fst.snd i).fst), .int .i64 ((v0.snd.fst.snd i).snd.fst), .int .i64 ((v0.snd.fst.snd i).snd.snd.fst), .int .i64 ((v0.snd.fst.snd i).snd.snd.snd.fst)]))]] [(0, ⟨false, 4, (v0.snd.fst.fst), (fun i => [.p (.int .i64 ((v0.snd.fst.snd i).fst)), .p (.int .i64 ((v0.snd.fst.snd i).snd.fst)), .p (.int .i64 ((v0.snd.fst.snd i).snd.snd.fst)), .p (.int .i64 ((v0.snd.fst.snd i).snd.snd.snd.fst))])⟩)] (.agg [.p (.int .i64 (v0.fst)), .ar 4 0 0 (v0.snd.fst.fst)]),
  ((4 : Nat) = 4),
  (((v0.snd.fst.fst) : Nat) ≤ (v0.snd.fst.fst)),
  ((4 : Nat) = 4),
  (((v0.snd.fst.fst) : Nat) ≤ (v0.snd.fst.fst)),
  Con (Try.prog) 14 0 [] [.agg [.p (.int .i64 (v0.fst)), .p (.seq true 4 (v0.snd.fst.fst) (fun i => [.int .i64 ((v0.snd.fst.snd i).fst), .int .i64 ((v0.snd.fst.snd i).snd.fst), .int .i64 ((v0.snd.fst.snd i).snd.snd.fst), .int .i64 ((v0.snd.fst.snd i).snd.snd.snd.fst)]))], .agg [.p (.int .i64 (v0.fst)), .p (.seq true 4 (v0.snd.fst.fst) (fun i => [.int .i64 ((v0.snd.fst.snd i).fst), .int .i64 ((v0.snd.fst.snd i).snd.fst), .int .i64 ((v0.snd.fst.snd i).snd.snd.fst), .int .i64 ((v0.snd.fst.snd i).snd.snd.snd.fst)]))]] [] (.p (.bool true)),
  ((!true) = false),
  Con (Try.prog) 12 0 [] [.p (.seq true 1 (v1.fst) (fun i => [.int .i64 (v1.snd i)]))] [(0, ⟨false, 1, (v1.fst), (fun i => [.p (.int .i64 (v1.snd i))])⟩)] (.ar 1 0 0 (v1.fst)),
  ((1 : Nat) = 1),
  (((v1.fst) : Nat) ≤ (v1.fst)),
  ((1 : Nat) = 1),
  (((v1.fst) : Nat) ≤ (v1.fst)),
  Con (Try.prog) 15 0 [] [.p (.seq true 1 (v1.fst) (fun i => [.int .i64 (v1.snd i)])), .p (.seq true 1 (v1.fst) (fun i => [.int .i64 (v1.snd i)]))] [] (.p (.bool true)),
  ((!true) = false),
  (true = true)] := by kernel_rfl

theorem con_law_FnExactIsBalanced (v0 : T_GainGraph) (v1 : T_IntS) (k0 : okS s_GainGraph v0) (k1 : okS s_IntS v1) : Con Try.prog 3 0 [] [.agg [.p (.int .i64 (v0.1)), .p (.seq true 4 (v0.2.1.1) (fun i => [.int .i64 ((v0.2.1.2 i).1), .int .i64 ((v0.2.1.2 i).2.1), .int .i64 ((v0.2.1.2 i).2.2.1), .int .i64 ((v0.2.1.2 i).2.2.2.1)]))], .p (.seq true 1 (v1.1) (fun i => [.int .i64 ((v1.2 i))]))] [] (.p (.bool true)) := by
  refine con_start Try.func3 rfl (by kernel_rfl) rfl (fun c hc => ?_)
  by_cases gl0 : 1048576 < v1.1
  · refine path_ok mixed Try.func3 hc (p_FnExactIsBalanced_l0 v0 v1) ?_
    simp only [All]
    repeat' (first | exact trivial | with_reducible apply And.intro)
    all_goals (first | omega | rfl | (intros; first | assumption | exact True.intro | rfl | exact absurd (show false = true by assumption) Bool.false_ne_true | ((repeat' (first | assumption | apply anda | apply notf)); done)) | (simp; omega))
  have hs1 : smS s_IntS v1 := ⟨by omega, fun i hi => by simp [smS]⟩
  have l0 := le_szGainGraph v0 1048576 (by omega)
  by_cases g0 : (f_szGainGraph v0 1048576) < 0
  · refine path_ok mixed Try.func3 hc (p_FnExactIsBalanced_0 v0 v1) ?_
    simp only [All]
    repeat' (first | exact trivial | with_reducible apply And.intro)
    all_goals (first | omega | rfl | (intros; first | assumption | exact True.intro | rfl | exact absurd (show false = true by assumption) Bool.false_ne_true | ((repeat' (first | assumption | apply anda | apply notf)); done)) | (exact con_szGainGraph v0 k0 _ (by omega) (by omega)) | (simp; omega))
  have hs0 := sm_szGainGraph v0 1048576 (by omega) (by omega) g0
  refine path_ok mixed Try.func3 hc (p_FnExactIsBalanced_e v0 v1) ?_
  simp only [All]
  repeat' (first | exact trivial | with_reducible apply And.intro)
  all_goals (first | omega | rfl | (intros; first | assumption | exact True.intro | rfl | exact absurd (show false = true by assumption) Bool.false_ne_true | ((repeat' (first | assumption | apply anda | apply notf)); done)) | (exact con_szGainGraph v0 k0 _ (by omega) (by omega)) | (exact con_toGainGraph v0 hs0) | (exact con_toIntS v1 hs1) | (exact con_IsBalanced_s v0 hs0 v1 (by omega)) | (exact con_IsBalanced_i v0 hs0 v1 (by omega)) | (exact con_eqGainGraph v0 hs0) | (exact con_eqIntS v1 hs1) | (simp; try omega))

end Go.Proofs.Ytgddbgmnehkblab.Mach
