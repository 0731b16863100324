/- The law FnExactBodyCount as a contract: it answers true. Written by our own lawtop.py. Conditions: lengths that values can have. -/
import Derived.Test.YtgddbgmnehkblabBodyCnt
namespace Go.Proofs.Ytgddbgmnehkblab.Mach
open Go
set_option linter.unusedVariables false
set_option linter.unusedSimpArgs false

theorem p_FnExactBodyCount_0 (v0 : T_Graph) :
    pathOb Try.prog Try.f8 0 [.reg [oT, oT], .reg [oT], .reg [oT, oT, ⟨true, (some ⟨[], [], 1, [], .p (.int .i64 (f_szGraph v0 1048576))⟩), none⟩, oT], .reg [oT, oT], .dec true, .reg [oT]] [.code (bodyOf Try.f8)] (start Try.f8 [] 0 [.agg [.p (.int .i64 (v0.1)), .p (.seq true 2 (v0.2.1.1) (fun i => [.int .i64 ((v0.2.1.2 i).1), .int .i64 ((v0.2.1.2 i).2.1)]))]]) [] 1 [] (.p (.bool true)) =
    some [((0 : Nat) < 1),
  Con (Try.prog) 36 0 [] [.agg [.p (.int .i64 (v0.fst)), .p (.seq true 2 (v0.snd.fst.fst) (fun i => [.int .i64 ((v0.snd.fst.snd i).fst), .int .i64 ((v0.snd.fst.snd i).snd.fst)]))], .p (.int .i64 1048576)] [] (.p (.int .i64 (f_szGraph v0 1048576))),
  ((decide (f_szGraph v0 1048576 < 0)) = true),
  (true = true)] := by kernel_rfl
theorem p_FnExactBodyCount_e (v0 : T_Graph) :
    pathOb Try.prog Try.f8 0 [.reg [oT, oT], .reg [oT], .reg [oT, oT, ⟨true, (some ⟨[], [], 1, [], .p (.int .i64 (f_szGraph v0 1048576))⟩), none⟩, oT], .reg [oT, oT], .dec false, .reg [oT, ⟨true, (some ⟨[], [], 1, [(0, ⟨false, 2, v0.2.1.1, fun i => [.p (.int .i64 ((v0.2.1.2 i).1)), .p (.int .i64 ((v0.2.1.2 i).2.1))]⟩)], .agg [.p (.int .i64 (v0.1)), .ar 2 0 0 (v0.2.1.1)]⟩), none⟩, ⟨true, (some ⟨[], [], 1, [], .p (.int .i64 ((compsG v0).1 : Nat))⟩), none⟩, oT], .reg [oT, ⟨true, (some ⟨[], [], 1, [(0, ⟨false, 2, v0.2.1.1, fun i => [.p (.int .i64 ((v0.2.1.2 i).1)), .p (.int .i64 ((v0.2.1.2 i).2.1))]⟩)], .agg [.p (.int .i64 (v0.1)), .ar 2 0 0 (v0.2.1.1)]⟩), none⟩, oT, oT], .reg [oT, ⟨true, (some ⟨[], [], 1, [], .p (.int .i64 ((compsG v0).1 : Nat))⟩), none⟩, oT], .reg [oT, oT, oT], .dec false, .reg [oT, oT, ⟨true, (some ⟨[], [], 1, [(0, ⟨false, 2, v0.2.1.1, fun i => [.p (.int .i64 ((v0.2.1.2 i).1)), .p (.int .i64 ((v0.2.1.2 i).2.1))]⟩)], .agg [.p (.int .i64 (v0.1)), .ar 2 0 0 (v0.2.1.1)]⟩), none⟩, ⟨true, (some ⟨[], [], 1, [], .p (.bool true)⟩), none⟩, oT], .dec false, .reg [oT]] [.code (bodyOf Try.f8)] (start Try.f8 [] 0 [.agg [.p (.int .i64 (v0.1)), .p (.seq true 2 (v0.2.1.1) (fun i => [.int .i64 ((v0.2.1.2 i).1), .int .i64 ((v0.2.1.2 i).2.1)]))]]) [] 1 [] (.p (.bool true)) =
    some [((0 : Nat) < 1),
  Con (Try.prog) 36 0 [] [.agg [.p (.int .i64 (v0.fst)), .p (.seq true 2 (v0.snd.fst.fst) (fun i => [.int .i64 ((v0.snd.fst.snd i).fst), .int .i64 ((v0.snd.fst.snd i).snd.fst)]))], .p (.int .i64 1048576)] [] (.p (.int .i64 (f_szGraph v0 1048576))),
  ((decide (f_szGraph v0 1048576 < 0)) = false),
  ((0 : Nat) < 1),
  Con (Try.prog) 38 0 [] [.agg [.p (.int .i64 (v0.fst)), .p (.seq true 2 (v0.snd.fst.fst) (fun i => [.int .i64 ((v0.snd.fst.snd i).fst), .int .i64 ((v0.snd.fst.snd i).snd.fst)]))]] [(0, ⟨false, 2, (v0.snd.fst.fst), (fun i => [.p (.int .i64 ((v0.snd.fst.snd i).fst)), .p (.int .i64 ((v0.snd.fst.snd i).snd.fst))])⟩)] (.agg [.p (.int .i64 (v0.fst)), .ar 2 0 0 (v0.snd.fst.fst)]),
  ((2 : Nat) = 2),
  (((v0.snd.fst.fst) : Nat) ≤ (v0.snd.fst.fst)),
  Con (Try.prog) 37 0 [] [.agg [.p (.int .i64 (v0.fst)), .p (.seq true 2 (v0.snd.fst.fst) (fun i => [.int .i64 ((v0.snd.fst.snd i).fst), .int .i64 ((v0.snd.fst.snd i).snd.fst)]))]] [] (.p (.int .i64 ((↑(compsG v0).fst : Int)))),
  ((0 : Nat) < 1),
  Con (Try.prog) 38 0 [] [.agg [.p (.int .i64 (v0.fst)), .p (.seq true 2 (v0.snd.fst.fst) (fun i => [.int .i64 ((v0.snd.fst.snd i).fst), .int .i64 ((v0.snd.fst.snd i).snd.fst)]))]] [(0, ⟨false, 2, (v0.snd.fst.fst), (fun i => [.p (.int .i64 ((v0.snd.fst.snd i).fst)), .p (.int .i64 ((v0.snd.fst.snd i).snd.fst))])⟩)] (.agg [.p (.int .i64 (v0.fst)), .ar 2 0 0 (v0.snd.fst.fst)]),
  ((0 : Nat) < 1),
  (((true) = true) → ((1 : Nat) = 1)),
  ((0 : Nat) < 1),
  ((2 : Nat) = 2),
  (((v0.snd.fst.fst) : Nat) ≤ (v0.snd.fst.fst)),
  Con (Try.prog) 39 0 [] [.agg [.p (.int .i64 (v0.fst)), .p (.seq true 2 (v0.snd.fst.fst) (fun i => [.int .i64 ((v0.snd.fst.snd i).fst), .int .i64 ((v0.snd.fst.snd i).snd.fst)]))]] [] (.p (.int .i64 ((↑(compsG v0).fst : Int)))),
  (((↑(compsG v0).fst : Int) != (↑(compsG v0).fst : Int)) = false),
  ((0 : Nat) < 1),
  ((0 : Nat) < 1),
  Con (Try.prog) 38 0 [] [.agg [.p (.int .i64 (v0.fst)), .p (.seq true 2 (v0.snd.fst.fst) (fun i => [.int .i64 ((v0.snd.fst.snd i).fst), .int .i64 ((v0.snd.fst.snd i).snd.fst)]))]] [(0, ⟨false, 2, (v0.snd.fst.fst), (fun i => [.p (.int .i64 ((v0.snd.fst.snd i).fst)), .p (.int .i64 ((v0.snd.fst.snd i).snd.fst))])⟩)] (.agg [.p (.int .i64 (v0.fst)), .ar 2 0 0 (v0.snd.fst.fst)]),
  ((2 : Nat) = 2),
  (((v0.snd.fst.fst) : Nat) ≤ (v0.snd.fst.fst)),
  ((2 : Nat) = 2),
  (((v0.snd.fst.fst) : Nat) ≤ (v0.snd.fst.fst)),
  Con (Try.prog) 40 0 [] [.agg [.p (.int .i64 (v0.fst)), .p (.seq true 2 (v0.snd.fst.fst) (fun i => [.int .i64 ((v0.snd.fst.snd i).fst), .int .i64 ((v0.snd.fst.snd i).snd.fst)]))], .agg [.p (.int .i64 (v0.fst)), .p (.seq true 2 (v0.snd.fst.fst) (fun i => [.int .i64 ((v0.snd.fst.snd i).fst), .int .i64 ((v0.snd.fst.snd i).snd.fst)]))]] [] (.p (.bool true)),
  ((!true) = false),
  (true = true)] := by kernel_rfl

theorem con_law_FnExactBodyCount (v0 : T_Graph) (k0 : okS s_Graph v0) : Con Try.prog 8 0 [] [.agg [.p (.int .i64 (v0.1)), .p (.seq true 2 (v0.2.1.1) (fun i => [.int .i64 ((v0.2.1.2 i).1), .int .i64 ((v0.2.1.2 i).2.1)]))]] [] (.p (.bool true)) := by
  refine con_start Try.func8 rfl (by kernel_rfl) rfl (fun c hc => ?_)
  have l0 := le_szGraph v0 1048576 (by omega)
  by_cases g0 : (f_szGraph v0 1048576) < 0
  · refine path_ok mixed Try.func8 hc (p_FnExactBodyCount_0 v0) ?_
    simp only [All]
    repeat' (first | exact trivial | with_reducible apply And.intro)
    all_goals (first | omega | rfl | (intros; first | assumption | exact True.intro | rfl | exact absurd (show false = true by assumption) Bool.false_ne_true | ((repeat' (first | assumption | apply anda | apply notf)); done)) | (exact con_szGraph v0 k0 _ (by omega) (by omega)) | (simp; omega))
  have hs0 := sm_szGraph v0 1048576 (by omega) (by omega) g0
  refine path_ok mixed Try.func8 hc (p_FnExactBodyCount_e v0) ?_
  simp only [All]
  repeat' (first | exact trivial | with_reducible apply And.intro)
  all_goals (first | omega | rfl | (intros; first | assumption | exact True.intro | rfl | exact absurd (show false = true by assumption) Bool.false_ne_true | ((repeat' (first | assumption | apply anda | apply notf)); done)) | (exact con_szGraph v0 k0 _ (by omega) (by omega)) | (exact con_toGraph v0 hs0) | (exact con_BodyCount_s v0 hs0) | (exact con_BodyCount_i v0 hs0) | (exact con_eqGraph v0 hs0) | (simp; try omega))

end Go.Proofs.Ytgddbgmnehkblab.Mach
