/- The law FnExactCountByBodies as a contract: it answers true. Written by our own lawtop.py. Conditions: lengths that values can have. -/
import Derived.Test.YthnidhkfelfkdaaPebL
namespace Go.Proofs.Ythnidhkfelfkdaa.Mach
open Go
set_option linter.unusedVariables false
set_option linter.unusedSimpArgs false

theorem p_FnExactCountByBodies_0 (v0 : T_Graph) :
    pathOb Try.prog Try.f4 0 [.reg [oT, oT], .reg [oT], .reg [oT, oT, ⟨true, (some ⟨[], [], 1, [], .p (.int .i64 (f_szGraph v0 1048576))⟩), none⟩, oT], .reg [oT, oT], .dec true, .reg [oT]] [.code (bodyOf Try.f4)] (start Try.f4 [] 0 [.agg [.p (.int .i64 (v0.1)), .p (.seq true 2 (v0.2.1.1) (fun i => [.int .i64 ((v0.2.1.2 i).1), .int .i64 ((v0.2.1.2 i).2.1)]))]]) [] 1 [] (.p (.bool true)) =
    some [((0 : Nat) < 1),
  Con (Try.prog) 11 0 [] [.agg [.p (.int .i64 (v0.fst)), .p (.seq true 2 (v0.snd.fst.fst) (fun i => [.int .i64 ((v0.snd.fst.snd i).fst), .int .i64 ((v0.snd.fst.snd i).snd.fst)]))], .p (.int .i64 1048576)] [] (.p (.int .i64 (f_szGraph v0 1048576))),
  ((decide (f_szGraph v0 1048576 < 0)) = true),
  (true = true)] := by kernel_rfl
theorem p_FnExactCountByBodies_e (v0 : T_Graph) :
    pathOb Try.prog Try.f4 0 [.reg [oT, oT], .reg [oT], .reg [oT, oT, ⟨true, (some ⟨[], [], 1, [], .p (.int .i64 (f_szGraph v0 1048576))⟩), none⟩, oT], .reg [oT, oT], .dec false, .reg [oT, ⟨true, (some ⟨[], [], 1, [(0, ⟨false, 2, v0.2.1.1, fun i => [.p (.int .i64 ((v0.2.1.2 i).1)), .p (.int .i64 ((v0.2.1.2 i).2.1))]⟩)], .agg [.p (.int .i64 (v0.1)), .ar 2 0 0 (v0.2.1.1)]⟩), none⟩, ⟨true, (some ⟨[], [], 1, [], .p (.int .i64 (cbF v0))⟩), none⟩, oT], .reg [oT, ⟨true, (some ⟨[], [], 1, [(0, ⟨false, 2, v0.2.1.1, fun i => [.p (.int .i64 ((v0.2.1.2 i).1)), .p (.int .i64 ((v0.2.1.2 i).2.1))]⟩)], .agg [.p (.int .i64 (v0.1)), .ar 2 0 0 (v0.2.1.1)]⟩), none⟩, oT, oT], .reg [oT, ⟨true, (some ⟨[], [], 1, [], .p (.int .i64 (cbF v0))⟩), none⟩, oT], .reg [oT, oT, oT], .dec false, .reg [oT, oT, ⟨true, (some ⟨[], [], 1, [(0, ⟨false, 2, v0.2.1.1, fun i => [.p (.int .i64 ((v0.2.1.2 i).1)), .p (.int .i64 ((v0.2.1.2 i).2.1))]⟩)], .agg [.p (.int .i64 (v0.1)), .ar 2 0 0 (v0.2.1.1)]⟩), none⟩, ⟨true, (some ⟨[], [], 1, [], .p (.bool true)⟩), none⟩, oT], .dec false, .reg [oT]] [.code (bodyOf Try.f4)] (start Try.f4 [] 0 [.agg [.p (.int .i64 (v0.1)), .p (.seq true 2 (v0.2.1.1) (fun i => [.int .i64 ((v0.2.1.2 i).1), .int .i64 ((v0.2.1.2 i).2.1)]))]]) [] 1 [] (.p (.bool true)) =
    some [((0 : Nat) < 1),
  Con (Try.prog) 11 0 [] [.agg [.p (.int .i64 (v0.fst)), .p (.seq true 2 (v0.snd.fst.fst) (fun i => [.int .i64 ((v0.snd.fst.snd i).fst), .int .i64 ((v0.snd.fst.snd i).snd.fst)]))], .p (.int .i64 1048576)] [] (.p (.int .i64 (f_szGraph v0 1048576))),
  ((decide (f_szGraph v0 1048576 < 0)) = false),
  ((0 : Nat) < 1),
  Con (Try.prog) 13 0 [] [.agg [.p (.int .i64 (v0.fst)), .p (.seq true 2 (v0.snd.fst.fst) (fun i => [.int .i64 ((v0.snd.fst.snd i).fst), .int .i64 ((v0.snd.fst.snd i).snd.fst)]))]] [(0, ⟨false, 2, (v0.snd.fst.fst), (fun i => [.p (.int .i64 ((v0.snd.fst.snd i).fst)), .p (.int .i64 ((v0.snd.fst.snd i).snd.fst))])⟩)] (.agg [.p (.int .i64 (v0.fst)), .ar 2 0 0 (v0.snd.fst.fst)]),
  ((2 : Nat) = 2),
  (((v0.snd.fst.fst) : Nat) ≤ (v0.snd.fst.fst)),
  Con (Try.prog) 12 0 [] [.agg [.p (.int .i64 (v0.fst)), .p (.seq true 2 (v0.snd.fst.fst) (fun i => [.int .i64 ((v0.snd.fst.snd i).fst), .int .i64 ((v0.snd.fst.snd i).snd.fst)]))]] [] (.p (.int .i64 (cbF v0))),
  ((0 : Nat) < 1),
  Con (Try.prog) 13 0 [] [.agg [.p (.int .i64 (v0.fst)), .p (.seq true 2 (v0.snd.fst.fst) (fun i => [.int .i64 ((v0.snd.fst.snd i).fst), .int .i64 ((v0.snd.fst.snd i).snd.fst)]))]] [(0, ⟨false, 2, (v0.snd.fst.fst), (fun i => [.p (.int .i64 ((v0.snd.fst.snd i).fst)), .p (.int .i64 ((v0.snd.fst.snd i).snd.fst))])⟩)] (.agg [.p (.int .i64 (v0.fst)), .ar 2 0 0 (v0.snd.fst.fst)]),
  ((0 : Nat) < 1),
  (((true) = true) → ((1 : Nat) = 1)),
  ((0 : Nat) < 1),
  ((2 : Nat) = 2),
  (((v0.snd.fst.fst) : Nat) ≤ (v0.snd.fst.fst)),
  Con (Try.prog) 14 0 [] [.agg [.p (.int .i64 (v0.fst)), .p (.seq true 2 (v0.snd.fst.fst) (fun i => [.int .i64 ((v0.snd.fst.snd i).fst), .int .i64 ((v0.snd.fst.snd i).snd.fst)]))]] [] (.p (.int .i64 (cbF v0))),
  ((cbF v0 != cbF v0) = false),
  ((0 : Nat) < 1),
  ((0 : Nat) < 1),
  Con (Try.prog) 13 0 [] [.agg [.p (.int .i64 (v0.fst)), .p (.seq true 2 (v0.snd.fst.fst) (fun i => [.int .i64 ((v0.snd.fst.snd i).fst), .int .i64 ((v0.snd.fst.snd i).snd.fst)]))]] [(0, ⟨false, 2, (v0.snd.fst.fst), (fun i => [.p (.int .i64 ((v0.snd.fst.snd i).fst)), .p (.int .i64 ((v0.snd.fst.snd i).snd.fst))])⟩)] (.agg [.p (.int .i64 (v0.fst)), .ar 2 0 0 (v0.snd.fst.fst)]),
  ((2 : Nat) = 2),
  (((v0.snd.fst.fst) : Nat) ≤ (v0.snd.fst.fst)),
  ((2 : Nat) = 2),
  (((v0.snd.fst.fst) : Nat) ≤ (v0.snd.fst.fst)),
  Con (Try.prog) 15 0 [] [.agg [.p (.int .i64 (v0.fst)), .p (.seq true 2 (v0.snd.fst.fst) (fun i => [.int .i64 ((v0.snd.fst.snd i).fst), .int .i64 ((v0.snd.fst.snd i).snd.fst)]))], .agg [.p (.int .i64 (v0.fst)), .p (.seq true 2 (v0.snd.fst.fst) (fun i => [.int .i64 ((v0.snd.fst.snd i).fst), .int .i64 ((v0.snd.fst.snd i).snd.fst)]))]] [] (.p (.bool true)),
  ((!true) = false),
  (true = true)] := by kernel_rfl

theorem con_law_FnExactCountByBodies (v0 : T_Graph) (k0 : okS s_Graph v0) : Con Try.prog 4 0 [] [.agg [.p (.int .i64 (v0.1)), .p (.seq true 2 (v0.2.1.1) (fun i => [.int .i64 ((v0.2.1.2 i).1), .int .i64 ((v0.2.1.2 i).2.1)]))]] [] (.p (.bool true)) := by
  refine con_start Try.func4 rfl (by kernel_rfl) rfl (fun c hc => ?_)
  have l0 := le_szGraph v0 1048576 (by omega)
  by_cases g0 : (f_szGraph v0 1048576) < 0
  · refine path_ok mixed Try.func4 hc (p_FnExactCountByBodies_0 v0) ?_
    simp only [All]
    repeat' (first | exact trivial | with_reducible apply And.intro)
    all_goals (first | omega | rfl | (intros; first | assumption | exact True.intro | rfl | exact absurd (show false = true by assumption) Bool.false_ne_true | ((repeat' (first | assumption | apply anda | apply notf)); done)) | (exact con_szGraph v0 k0 _ (by omega) (by omega)) | (simp; omega))
  have hs0 := sm_szGraph v0 1048576 (by omega) (by omega) g0
  refine path_ok mixed Try.func4 hc (p_FnExactCountByBodies_e v0) ?_
  simp only [All]
  repeat' (first | exact trivial | with_reducible apply And.intro)
  all_goals (first | omega | rfl | (intros; first | assumption | exact True.intro | rfl | exact absurd (show false = true by assumption) Bool.false_ne_true | ((repeat' (first | assumption | apply anda | apply notf)); done)) | (exact con_szGraph v0 k0 _ (by omega) (by omega)) | (exact con_toGraph v0 hs0) | (exact con_CountByBodies_s v0 hs0) | (exact con_CountByBodies_i v0 hs0) | (exact con_eqGraph v0 hs0) | (simp; try omega))

end Go.Proofs.Ythnidhkfelfkdaa.Mach
