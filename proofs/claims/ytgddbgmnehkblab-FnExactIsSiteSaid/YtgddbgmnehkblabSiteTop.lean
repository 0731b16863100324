/- The law FnExactIsSite as a contract: it answers true. Written by our own lawtop.py. Conditions: lengths that values can have. -/
import Derived.Test.YtgddbgmnehkblabSite
namespace Go.Proofs.Ytgddbgmnehkblab.Mach
open Go
set_option linter.unusedVariables false
set_option linter.unusedSimpArgs false

theorem p_FnExactIsSite_0 (v0 : T_Site) :
    pathOb Try.prog Try.f5 0 [.reg [oT, oT], .reg [oT], .reg [oT, oT, ⟨true, (some ⟨[], [], 1, [], .p (.int .i64 (f_szSite v0 1048576))⟩)⟩, oT], .reg [oT, oT], .dec true, .reg [oT]] [.code (bodyOf Try.f5)] (start Try.f5 [] 0 [.agg [.p (.int .i64 (v0.1.1.1)), .p (.seq true 2 (v0.1.1.2.1.1) (fun i => [.int .i64 ((v0.1.1.2.1.2 i).1), .int .i64 ((v0.1.1.2.1.2 i).2.1)])), .p (.seq true 1 (v0.1.2.1.1) (fun i => [.int .i64 ((v0.1.2.1.2 i))])), .p (.seq true 1 (v0.2.1.1) (fun i => [.str ((v0.2.1.2 i))]))]]) [] 1 [] (.p (.bool true)) =
    some [((0 : Nat) < 1),
  Con (Try.prog) 16 0 [] [.agg [.p (.int .i64 (v0.fst.fst.fst)), .p (.seq true 2 (v0.fst.fst.snd.fst.fst) (fun i => [.int .i64 ((v0.fst.fst.snd.fst.snd i).fst), .int .i64 ((v0.fst.fst.snd.fst.snd i).snd.fst)])), .p (.seq true 1 (v0.fst.snd.fst.fst) (fun i => [.int .i64 (v0.fst.snd.fst.snd i)])), .p (.seq true 1 (v0.snd.fst.fst) (fun i => [.str (v0.snd.fst.snd i)]))], .p (.int .i64 1048576)] [] (.p (.int .i64 (f_szSite v0 1048576))),
  ((decide (f_szSite v0 1048576 < 0)) = true),
  (true = true)] := by kernel_rfl
theorem p_FnExactIsSite_e (v0 : T_Site) :
    pathOb Try.prog Try.f5 0 [.reg [oT, oT], .reg [oT], .reg [oT, oT, ⟨true, (some ⟨[], [], 1, [], .p (.int .i64 (f_szSite v0 1048576))⟩)⟩, oT], .reg [oT, oT], .dec false, .reg [oT, ⟨true, (some ⟨[], [], 1, [(0, ⟨false, 2, v0.1.1.2.1.1, fun i => [.p (.int .i64 ((v0.1.1.2.1.2 i).1)), .p (.int .i64 ((v0.1.1.2.1.2 i).2.1))]⟩), (1, ⟨false, 1, v0.1.2.1.1, fun i => [.p (.int .i64 ((v0.1.2.1.2 i)))]⟩), (2, ⟨false, 1, v0.2.1.1, fun i => [.p (.str ((v0.2.1.2 i)))]⟩)], .agg [.p (.int .i64 (v0.1.1.1)), .ar 2 0 0 (v0.1.1.2.1.1), .ar 1 1 0 (v0.1.2.1.1), .ar 1 2 0 (v0.2.1.1)]⟩)⟩, ⟨true, (some ⟨[], [], 1, [], .p (.bool (siteF v0))⟩)⟩, oT], .reg [oT, ⟨true, (some ⟨[], [], 1, [(0, ⟨false, 2, v0.1.1.2.1.1, fun i => [.p (.int .i64 ((v0.1.1.2.1.2 i).1)), .p (.int .i64 ((v0.1.1.2.1.2 i).2.1))]⟩), (1, ⟨false, 1, v0.1.2.1.1, fun i => [.p (.int .i64 ((v0.1.2.1.2 i)))]⟩), (2, ⟨false, 1, v0.2.1.1, fun i => [.p (.str ((v0.2.1.2 i)))]⟩)], .agg [.p (.int .i64 (v0.1.1.1)), .ar 2 0 0 (v0.1.1.2.1.1), .ar 1 1 0 (v0.1.2.1.1), .ar 1 2 0 (v0.2.1.1)]⟩)⟩, oT, oT], .reg [oT, ⟨true, (some ⟨[], [], 1, [], .p (.bool (siteF v0))⟩)⟩, oT], .reg [oT, oT, oT], .dec false, .reg [oT, oT, ⟨true, (some ⟨[], [], 1, [(0, ⟨false, 2, v0.1.1.2.1.1, fun i => [.p (.int .i64 ((v0.1.1.2.1.2 i).1)), .p (.int .i64 ((v0.1.1.2.1.2 i).2.1))]⟩), (1, ⟨false, 1, v0.1.2.1.1, fun i => [.p (.int .i64 ((v0.1.2.1.2 i)))]⟩), (2, ⟨false, 1, v0.2.1.1, fun i => [.p (.str ((v0.2.1.2 i)))]⟩)], .agg [.p (.int .i64 (v0.1.1.1)), .ar 2 0 0 (v0.1.1.2.1.1), .ar 1 1 0 (v0.1.2.1.1), .ar 1 2 0 (v0.2.1.1)]⟩)⟩, ⟨true, (some ⟨[], [], 1, [], .p (.bool true)⟩)⟩, oT], .dec false, .reg [oT]] [.code (bodyOf Try.f5)] (start Try.f5 [] 0 [.agg [.p (.int .i64 (v0.1.1.1)), .p (.seq true 2 (v0.1.1.2.1.1) (fun i => [.int .i64 ((v0.1.1.2.1.2 i).1), .int .i64 ((v0.1.1.2.1.2 i).2.1)])), .p (.seq true 1 (v0.1.2.1.1) (fun i => [.int .i64 ((v0.1.2.1.2 i))])), .p (.seq true 1 (v0.2.1.1) (fun i => [.str ((v0.2.1.2 i))]))]]) [] 1 [] (.p (.bool true)) =
    some [((0 : Nat) < 1),
  Con (Try.prog) 16 0 [] [.agg [.p (.int .i64 (v0.fst.fst.fst)), .p (.seq true 2 (v0.fst.fst.snd.fst.fst) (fun i => [.int .i64 ((v0.fst.fst.snd.fst.snd i).fst), .int .i64 ((v0.fst.fst.snd.fst.snd i).snd.fst)])), .p (.seq true 1 (v0.fst.snd.fst.fst) (fun i => [.int .i64 (v0.fst.snd.fst.snd i)])), .p (.seq true 1 (v0.snd.fst.fst) (fun i => [.str (v0.snd.fst.snd i)]))], .p (.int .i64 1048576)] [] (.p (.int .i64 (f_szSite v0 1048576))),
  ((decide (f_szSite v0 1048576 < 0)) = false),
  ((0 : Nat) < 1),
  Con (Try.prog) 18 0 [] [.agg [.p (.int .i64 (v0.fst.fst.fst)), .p (.seq true 2 (v0.fst.fst.snd.fst.fst) (fun i => [.int .i64 ((v0.fst.fst.snd.fst.snd i).fst), .int .i64 ((v0.fst.fst.snd.fst.snd i).snd.fst)])), .p (.seq true 1 (v0.fst.snd.fst.fst) (fun i => [.int .i64 (v0.fst.snd.fst.snd i)])), .p (.seq true 1 (v0.snd.fst.fst) (fun i => [.str (v0.snd.fst.snd i)]))]] [(0, ⟨false, 2, (v0.fst.fst.snd.fst.fst), (fun i => [.p (.int .i64 ((v0.fst.fst.snd.fst.snd i).fst)), .p (.int .i64 ((v0.fst.fst.snd.fst.snd i).snd.fst))])⟩), (1, ⟨false, 1, (v0.fst.snd.fst.fst), (fun i => [.p (.int .i64 (v0.fst.snd.fst.snd i))])⟩), (2, ⟨false, 1, (v0.snd.fst.fst), (fun i => [.p (.str (v0.snd.fst.snd i))])⟩)] (.agg [.p (.int .i64 (v0.fst.fst.fst)), .ar 2 0 0 (v0.fst.fst.snd.fst.fst), .ar 1 1 0 (v0.fst.snd.fst.fst), .ar 1 2 0 (v0.snd.fst.fst)]),
  ((2 : Nat) = 2),
  (((v0.fst.fst.snd.fst.fst) : Nat) ≤ (v0.fst.fst.snd.fst.fst)),
  ((1 : Nat) = 1),
  (((v0.fst.snd.fst.fst) : Nat) ≤ (v0.fst.snd.fst.fst)),
  ((1 : Nat) = 1),
  (((v0.snd.fst.fst) : Nat) ≤ (v0.snd.fst.fst)),
  Con (Try.prog) 21 0 [] [.agg [.p (.int .i64 (v0.fst.fst.fst)), .p (.seq true 2 (v0.fst.fst.snd.fst.fst) (fun i => [.int .i64 ((v0.fst.fst.snd.fst.snd i).fst), .int .i64 ((v0.fst.fst.snd.fst.snd i).snd.fst)])), .p (.seq true 1 (v0.fst.snd.fst.fst) (fun i => [.int .i64 (v0.fst.snd.fst.snd i)])), .p (.seq true 1 (v0.snd.fst.fst) (fun i => [.str (v0.snd.fst.snd i)]))]] [] (.p (.bool (siteF v0))),
  ((0 : Nat) < 1),
  Con (Try.prog) 18 0 [] [.agg [.p (.int .i64 (v0.fst.fst.fst)), .p (.seq true 2 (v0.fst.fst.snd.fst.fst) (fun i => [.int .i64 ((v0.fst.fst.snd.fst.snd i).fst), .int .i64 ((v0.fst.fst.snd.fst.snd i).snd.fst)])), .p (.seq true 1 (v0.fst.snd.fst.fst) (fun i => [.int .i64 (v0.fst.snd.fst.snd i)])), .p (.seq true 1 (v0.snd.fst.fst) (fun i => [.str (v0.snd.fst.snd i)]))]] [(0, ⟨false, 2, (v0.fst.fst.snd.fst.fst), (fun i => [.p (.int .i64 ((v0.fst.fst.snd.fst.snd i).fst)), .p (.int .i64 ((v0.fst.fst.snd.fst.snd i).snd.fst))])⟩), (1, ⟨false, 1, (v0.fst.snd.fst.fst), (fun i => [.p (.int .i64 (v0.fst.snd.fst.snd i))])⟩), (2, ⟨false, 1, (v0.snd.fst.fst), (fun i => [.p (.str (v0.snd.fst.snd i))])⟩)] (.agg [.p (.int .i64 (v0.fst.fst.fst)), .ar 2 0 0 (v0.fst.fst.snd.fst.fst), .ar 1 1 0 (v0.fst.snd.fst.fst), .ar 1 2 0 (v0.snd.fst.fst)]),
  ((0 : Nat) < 1),
  (((true) = true) → ((1 : Nat) = 1)),
  ((0 : Nat) < 1),
  ((2 : Nat) = 2),
  (((v0.fst.fst.snd.fst.fst) : Nat) ≤ (v0.fst.fst.snd.fst.fst)),
  ((1 : Nat) = 1),
  (((v0.fst.snd.fst.fst) : Nat) ≤ (v0.fst.snd.fst.fst)),
  ((1 : Nat) = 1),
  (((v0.snd.fst.fst) : Nat) ≤ (v0.snd.fst.fst)),
  Con (Try.prog) 22 0 [] [.agg [.p (.int .i64 (v0.fst.fst.fst)), .p (.seq true 2 (v0.fst.fst.snd.fst.fst) (fun i => [.int .i64 ((v0.fst.fst.snd.fst.snd i).fst), .int .i64 ((v0.fst.fst.snd.fst.snd i).snd.fst)])), .p (.seq true 1 (v0.fst.snd.fst.fst) (fun i => [.int .i64 (v0.fst.snd.fst.snd i)])), .p (.seq true 1 (v0.snd.fst.fst) (fun i => [.str (v0.snd.fst.snd i)]))]] [] (.p (.bool (siteF v0))),
  ((!siteF v0 == siteF v0) = false),
  ((0 : Nat) < 1),
  ((0 : Nat) < 1),
  Con (Try.prog) 18 0 [] [.agg [.p (.int .i64 (v0.fst.fst.fst)), .p (.seq true 2 (v0.fst.fst.snd.fst.fst) (fun i => [.int .i64 ((v0.fst.fst.snd.fst.snd i).fst), .int .i64 ((v0.fst.fst.snd.fst.snd i).snd.fst)])), .p (.seq true 1 (v0.fst.snd.fst.fst) (fun i => [.int .i64 (v0.fst.snd.fst.snd i)])), .p (.seq true 1 (v0.snd.fst.fst) (fun i => [.str (v0.snd.fst.snd i)]))]] [(0, ⟨false, 2, (v0.fst.fst.snd.fst.fst), (fun i => [.p (.int .i64 ((v0.fst.fst.snd.fst.snd i).fst)), .p (.int .i64 ((v0.fst.fst.snd.fst.snd i).snd.fst))])⟩), (1, ⟨false, 1, (v0.fst.snd.fst.fst), (fun i => [.p (.int .i64 (v0.fst.snd.fst.snd i))])⟩), (2, ⟨false, 1, (v0.snd.fst.fst), (fun i => [.p (.str (v0.snd.fst.snd i))])⟩)] (.agg [.p (.int .i64 (v0.fst.fst.fst)), .ar 2 0 0 (v0.fst.fst.snd.fst.fst), .ar 1 1 0 (v0.fst.snd.fst.fst), .ar 1 2 0 (v0.snd.fst.fst)]),
  ((2 : Nat) = 2),
  (((v0.fst.fst.snd.fst.fst) : Nat) ≤ (v0.fst.fst.snd.fst.fst)),
  ((1 : Nat) = 1),
  (((v0.fst.snd.fst.fst) : Nat) ≤ (v0.fst.snd.fst.fst)),
  ((1 : Nat) = 1),
  (((v0.snd.fst.fst) : Nat) ≤ (v0.snd.fst.fst)),
  ((2 : Nat) = 2),
  (((v0.fst.fst.snd.fst.fst) : Nat) ≤ (v0.fst.fst.snd.fst.fst)),
  ((1 : Nat) = 1),
  (((v0.fst.snd.fst.fst) : Nat) ≤ (v0.fst.snd.fst.fst)),
  ((1 : Nat) = 1),
  (((v0.snd.fst.fst) : Nat) ≤ (v0.snd.fst.fst)),
  Con (Try.prog) 20 0 [] [.agg [.p (.int .i64 (v0.fst.fst.fst)), .p (.seq true 2 (v0.fst.fst.snd.fst.fst) (fun i => [.int .i64 ((v0.fst.fst.snd.fst.snd i).fst), .int .i64 ((v0.fst.fst.snd.fst.snd i).snd.fst)])), .p (.seq true 1 (v0.fst.snd.fst.fst) (fun i => [.int .i64 (v0.fst.snd.fst.snd i)])), .p (.seq true 1 (v0.snd.fst.fst) (fun i => [.str (v0.snd.fst.snd i)]))], .agg [.p (.int .i64 (v0.fst.fst.fst)), .p (.seq true 2 (v0.fst.fst.snd.fst.fst) (fun i => [.int .i64 ((v0.fst.fst.snd.fst.snd i).fst), .int .i64 ((v0.fst.fst.snd.fst.snd i).snd.fst)])), .p (.seq true 1 (v0.fst.snd.fst.fst) (fun i => [.int .i64 (v0.fst.snd.fst.snd i)])), .p (.seq true 1 (v0.snd.fst.fst) (fun i => [.str (v0.snd.fst.snd i)]))]] [] (.p (.bool true)),
  ((!true) = false),
  (true = true)] := by kernel_rfl

theorem con_law_FnExactIsSite (v0 : T_Site) (k0 : okS s_Site v0) : Con Try.prog 5 0 [] [.agg [.p (.int .i64 (v0.1.1.1)), .p (.seq true 2 (v0.1.1.2.1.1) (fun i => [.int .i64 ((v0.1.1.2.1.2 i).1), .int .i64 ((v0.1.1.2.1.2 i).2.1)])), .p (.seq true 1 (v0.1.2.1.1) (fun i => [.int .i64 ((v0.1.2.1.2 i))])), .p (.seq true 1 (v0.2.1.1) (fun i => [.str ((v0.2.1.2 i))]))]] [] (.p (.bool true)) := by
  refine con_start Try.func5 rfl (by kernel_rfl) rfl (fun c hc => ?_)
  have l0 := le_szSite v0 1048576 (by omega)
  by_cases g0 : (f_szSite v0 1048576) < 0
  · refine path_ok mixed Try.func5 hc (p_FnExactIsSite_0 v0) ?_
    simp only [All]
    repeat' (first | exact trivial | with_reducible apply And.intro)
    all_goals (first | omega | rfl | (intros; first | assumption | exact True.intro | rfl | exact absurd (show false = true by assumption) Bool.false_ne_true | ((repeat' (first | assumption | apply anda | apply notf)); done)) | (exact con_szSite v0 k0 _ (by omega) (by omega)) | (simp; omega))
  have hs0 := sm_szSite v0 1048576 (by omega) (by omega) g0
  refine path_ok mixed Try.func5 hc (p_FnExactIsSite_e v0) ?_
  simp only [All]
  repeat' (first | exact trivial | with_reducible apply And.intro)
  all_goals (first | omega | rfl | (intros; first | assumption | exact True.intro | rfl | exact absurd (show false = true by assumption) Bool.false_ne_true | ((repeat' (first | assumption | apply anda | apply notf)); done)) | (exact con_szSite v0 k0 _ (by omega) (by omega)) | (exact con_toSite v0 hs0) | (exact con_IsSite_s v0 hs0) | (exact con_IsSite_i v0 hs0) | (exact con_eqSite v0 hs0) | (simp; try omega))

end Go.Proofs.Ytgddbgmnehkblab.Mach
