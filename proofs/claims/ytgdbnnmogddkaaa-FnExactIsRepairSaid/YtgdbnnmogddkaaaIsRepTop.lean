/- The law FnExactIsRepair as a contract: it answers true. Written by our own lawtop.py. Conditions: lengths that values can have. -/
import Derived.Test.YtgdbnnmogddkaaaFre
namespace Go.Proofs.Ytgdbnnmogddkaaa.Mach
open Go
set_option linter.unusedVariables false
set_option linter.unusedSimpArgs false

theorem p_FnExactIsRepair_0 (v0 : T_Pinned) (v1 : T_BarS) :
    pathOb Try.prog Try.f5 0 [.reg [oT, oT], .reg [oT], .reg [oT, oT, ⟨true, (some ⟨[], [], 1, [], .p (.int .i64 (f_szPinned v0 1048576))⟩), none⟩, oT], .reg [oT, oT], .dec true, .reg [oT]] [.code (bodyOf Try.f5)] (start Try.f5 [] 0 [.agg [.p (.int .i64 (v0.1.1)), .p (.seq true 2 (v0.1.2.1.1) (fun i => [.int .i64 ((v0.1.2.1.2 i).1), .int .i64 ((v0.1.2.1.2 i).2.1)])), .p (.seq true 1 (v0.2.1.1) (fun i => [.int .i64 ((v0.2.1.2 i))]))], .p (.seq true 2 (v1.1) (fun i => [.int .i64 ((v1.2 i).1), .int .i64 ((v1.2 i).2.1)]))]) [] 1 [] (.p (.bool true)) =
    some [((0 : Nat) < 1),
  Con (Try.prog) 11 0 [] [.agg [.p (.int .i64 (v0.fst.fst)), .p (.seq true 2 (v0.fst.snd.fst.fst) (fun i => [.int .i64 ((v0.fst.snd.fst.snd i).fst), .int .i64 ((v0.fst.snd.fst.snd i).snd.fst)])), .p (.seq true 1 (v0.snd.fst.fst) (fun i => [.int .i64 (v0.snd.fst.snd i)]))], .p (.int .i64 1048576)] [] (.p (.int .i64 (f_szPinned v0 1048576))),
  ((decide (f_szPinned v0 1048576 < 0)) = true),
  (true = true)] := by kernel_rfl
theorem p_FnExactIsRepair_1 (v0 : T_Pinned) (v1 : T_BarS) :
    pathOb Try.prog Try.f5 0 [.reg [oT, oT], .reg [oT], .reg [oT, oT, ⟨true, (some ⟨[], [], 1, [], .p (.int .i64 (f_szPinned v0 1048576))⟩), none⟩, oT], .reg [oT, oT], .dec false, .reg [oT, oT, ⟨true, (some ⟨[], [], 1, [], .p (.int .i64 (f_szBarS v1 (f_szPinned v0 1048576)))⟩), none⟩, oT], .reg [oT, oT], .dec true, .reg [oT]] [.code (bodyOf Try.f5)] (start Try.f5 [] 0 [.agg [.p (.int .i64 (v0.1.1)), .p (.seq true 2 (v0.1.2.1.1) (fun i => [.int .i64 ((v0.1.2.1.2 i).1), .int .i64 ((v0.1.2.1.2 i).2.1)])), .p (.seq true 1 (v0.2.1.1) (fun i => [.int .i64 ((v0.2.1.2 i))]))], .p (.seq true 2 (v1.1) (fun i => [.int .i64 ((v1.2 i).1), .int .i64 ((v1.2 i).2.1)]))]) [] 1 [] (.p (.bool true)) =
    some [((0 : Nat) < 1),
  Con (Try.prog) 11 0 [] [.agg [.p (.int .i64 (v0.fst.fst)), .p (.seq true 2 (v0.fst.snd.fst.fst) (fun i => [.int .i64 ((v0.fst.snd.fst.snd i).fst), .int .i64 ((v0.fst.snd.fst.snd i).snd.fst)])), .p (.seq true 1 (v0.snd.fst.fst) (fun i => [.int .i64 (v0.snd.fst.snd i)]))], .p (.int .i64 1048576)] [] (.p (.int .i64 (f_szPinned v0 1048576))),
  ((decide (f_szPinned v0 1048576 < 0)) = false),
  Con (Try.prog) 16 0 [] [.p (.seq true 2 (v1.fst) (fun i => [.int .i64 ((v1.snd i).fst), .int .i64 ((v1.snd i).snd.fst)])), .p (.int .i64 (f_szPinned v0 1048576))] [] (.p (.int .i64 (f_szBarS v1 (f_szPinned v0 1048576)))),
  ((decide (f_szBarS v1 (f_szPinned v0 1048576) < 0)) = true),
  (true = true)] := by kernel_rfl
theorem p_FnExactIsRepair_e (v0 : T_Pinned) (v1 : T_BarS) :
    pathOb Try.prog Try.f5 0 [.reg [oT, oT], .reg [oT], .reg [oT, oT, ⟨true, (some ⟨[], [], 1, [], .p (.int .i64 (f_szPinned v0 1048576))⟩), none⟩, oT], .reg [oT, oT], .dec false, .reg [oT, oT, ⟨true, (some ⟨[], [], 1, [], .p (.int .i64 (f_szBarS v1 (f_szPinned v0 1048576)))⟩), none⟩, oT], .reg [oT, oT], .dec false, .reg [oT, ⟨true, (some ⟨[], [], 1, [(0, ⟨false, 2, v0.1.2.1.1, fun i => [.p (.int .i64 ((v0.1.2.1.2 i).1)), .p (.int .i64 ((v0.1.2.1.2 i).2.1))]⟩), (1, ⟨false, 1, v0.2.1.1, fun i => [.p (.int .i64 ((v0.2.1.2 i)))]⟩)], .agg [.p (.int .i64 (v0.1.1)), .ar 2 0 0 (v0.1.2.1.1), .ar 1 1 0 (v0.2.1.1)]⟩), none⟩, oT, ⟨true, (some ⟨[], [], 1, [(0, ⟨false, 2, v1.1, fun i => [.p (.int .i64 ((v1.2 i).1)), .p (.int .i64 ((v1.2 i).2.1))]⟩)], .ar 2 0 0 (v1.1)⟩), none⟩, ⟨true, (some ⟨[], [], 1, [], .p (.bool (irB v0 v1))⟩), none⟩, oT], .reg [oT, ⟨true, (some ⟨[], [], 1, [(0, ⟨false, 2, v0.1.2.1.1, fun i => [.p (.int .i64 ((v0.1.2.1.2 i).1)), .p (.int .i64 ((v0.1.2.1.2 i).2.1))]⟩), (1, ⟨false, 1, v0.2.1.1, fun i => [.p (.int .i64 ((v0.2.1.2 i)))]⟩)], .agg [.p (.int .i64 (v0.1.1)), .ar 2 0 0 (v0.1.2.1.1), .ar 1 1 0 (v0.2.1.1)]⟩), none⟩, oT, oT], .reg [oT, ⟨true, (some ⟨[], [], 1, [(0, ⟨false, 2, v1.1, fun i => [.p (.int .i64 ((v1.2 i).1)), .p (.int .i64 ((v1.2 i).2.1))]⟩)], .ar 2 0 0 (v1.1)⟩), none⟩, oT], .reg [oT, oT, ⟨true, (some ⟨[], [], 1, [], .p (.bool (irB v0 v1))⟩), none⟩, oT], .reg [oT, oT, oT], .dec false, .reg [oT, oT, ⟨true, (some ⟨[], [], 1, [(0, ⟨false, 2, v0.1.2.1.1, fun i => [.p (.int .i64 ((v0.1.2.1.2 i).1)), .p (.int .i64 ((v0.1.2.1.2 i).2.1))]⟩), (1, ⟨false, 1, v0.2.1.1, fun i => [.p (.int .i64 ((v0.2.1.2 i)))]⟩)], .agg [.p (.int .i64 (v0.1.1)), .ar 2 0 0 (v0.1.2.1.1), .ar 1 1 0 (v0.2.1.1)]⟩), none⟩, ⟨true, (some ⟨[], [], 1, [], .p (.bool true)⟩), none⟩, oT], .dec false, .reg [oT, oT, ⟨true, (some ⟨[], [], 1, [(0, ⟨false, 2, v1.1, fun i => [.p (.int .i64 ((v1.2 i).1)), .p (.int .i64 ((v1.2 i).2.1))]⟩)], .ar 2 0 0 (v1.1)⟩), none⟩, ⟨true, (some ⟨[], [], 1, [], .p (.bool true)⟩), none⟩, oT], .dec false, .reg [oT]] [.code (bodyOf Try.f5)] (start Try.f5 [] 0 [.agg [.p (.int .i64 (v0.1.1)), .p (.seq true 2 (v0.1.2.1.1) (fun i => [.int .i64 ((v0.1.2.1.2 i).1), .int .i64 ((v0.1.2.1.2 i).2.1)])), .p (.seq true 1 (v0.2.1.1) (fun i => [.int .i64 ((v0.2.1.2 i))]))], .p (.seq true 2 (v1.1) (fun i => [.int .i64 ((v1.2 i).1), .int .i64 ((v1.2 i).2.1)]))]) [] 1 [] (.p (.bool true)) =
    some [((0 : Nat) < 1),
  Con (Try.prog) 11 0 [] [.agg [.p (.int .i64 (v0.fst.fst)), .p (.seq true 2 (v0.fst.snd.fst.fst) (fun i => [.int .i64 ((v0.fst.snd.fst.snd i).fst), .int .i64 ((v0.fst.snd.fst.snd i).snd.fst)])), .p (.seq true 1 (v0.snd.fst.fst) (fun i => [.int .i64 (v0.snd.fst.snd i)]))], .p (.int .i64 1048576)] [] (.p (.int .i64 (f_szPinned v0 1048576))),
  ((decide (f_szPinned v0 1048576 < 0)) = false),
  Con (Try.prog) 16 0 [] [.p (.seq true 2 (v1.fst) (fun i => [.int .i64 ((v1.snd i).fst), .int .i64 ((v1.snd i).snd.fst)])), .p (.int .i64 (f_szPinned v0 1048576))] [] (.p (.int .i64 (f_szBarS v1 (f_szPinned v0 1048576)))),
  ((decide (f_szBarS v1 (f_szPinned v0 1048576) < 0)) = false),
  ((0 : Nat) < 1),
  Con (Try.prog) 13 0 [] [.agg [.p (.int .i64 (v0.fst.fst)), .p (.seq true 2 (v0.fst.snd.fst.fst) (fun i => [.int .i64 ((v0.fst.snd.fst.snd i).fst), .int .i64 ((v0.fst.snd.fst.snd i).snd.fst)])), .p (.seq true 1 (v0.snd.fst.fst) (fun i => [.int .i64 (v0.snd.fst.snd i)]))]] [(0, ⟨false, 2, (v0.fst.snd.fst.fst), (fun i => [.p (.int .i64 ((v0.fst.snd.fst.snd i).fst)), .p (.int .i64 ((v0.fst.snd.fst.snd i).snd.fst))])⟩), (1, ⟨false, 1, (v0.snd.fst.fst), (fun i => [.p (.int .i64 (v0.snd.fst.snd i))])⟩)] (.agg [.p (.int .i64 (v0.fst.fst)), .ar 2 0 0 (v0.fst.snd.fst.fst), .ar 1 1 0 (v0.snd.fst.fst)]),
  Con (Try.prog) 18 0 [] [.p (.seq true 2 (v1.fst) (fun i => [.int .i64 ((v1.snd i).fst), .int .i64 ((v1.snd i).snd.fst)]))] [(0, ⟨false, 2, (v1.fst), (fun i => [.p (.int .i64 ((v1.snd i).fst)), .p (.int .i64 ((v1.snd i).snd.fst))])⟩)] (.ar 2 0 0 (v1.fst)),
  ((2 : Nat) = 2),
  (((v0.fst.snd.fst.fst) : Nat) ≤ (v0.fst.snd.fst.fst)),
  ((1 : Nat) = 1),
  (((v0.snd.fst.fst) : Nat) ≤ (v0.snd.fst.fst)),
  ((2 : Nat) = 2),
  (((v1.fst) : Nat) ≤ (v1.fst)),
  Con (Try.prog) 24 0 [] [.agg [.p (.int .i64 (v0.fst.fst)), .p (.seq true 2 (v0.fst.snd.fst.fst) (fun i => [.int .i64 ((v0.fst.snd.fst.snd i).fst), .int .i64 ((v0.fst.snd.fst.snd i).snd.fst)])), .p (.seq true 1 (v0.snd.fst.fst) (fun i => [.int .i64 (v0.snd.fst.snd i)]))], .p (.seq true 2 (v1.fst) (fun i => [.int .i64 ((v1.snd i).fst), .int .i64 ((v1.snd i).snd.fst)]))] [] (.p (.bool (irB v0 v1))),
  ((0 : Nat) < 1),
  Con (Try.prog) 13 0 [] [.agg [.p (.int .i64 (v0.fst.fst)), .p (.seq true 2 (v0.fst.snd.fst.fst) (fun i => [.int .i64 ((v0.fst.snd.fst.snd i).fst), .int .i64 ((v0.fst.snd.fst.snd i).snd.fst)])), .p (.seq true 1 (v0.snd.fst.fst) (fun i => [.int .i64 (v0.snd.fst.snd i)]))]] [(0, ⟨false, 2, (v0.fst.snd.fst.fst), (fun i => [.p (.int .i64 ((v0.fst.snd.fst.snd i).fst)), .p (.int .i64 ((v0.fst.snd.fst.snd i).snd.fst))])⟩), (1, ⟨false, 1, (v0.snd.fst.fst), (fun i => [.p (.int .i64 (v0.snd.fst.snd i))])⟩)] (.agg [.p (.int .i64 (v0.fst.fst)), .ar 2 0 0 (v0.fst.snd.fst.fst), .ar 1 1 0 (v0.snd.fst.fst)]),
  ((0 : Nat) < 1),
  (((true) = true) → ((1 : Nat) = 1)),
  Con (Try.prog) 18 0 [] [.p (.seq true 2 (v1.fst) (fun i => [.int .i64 ((v1.snd i).fst), .int .i64 ((v1.snd i).snd.fst)]))] [(0, ⟨false, 2, (v1.fst), (fun i => [.p (.int .i64 ((v1.snd i).fst)), .p (.int .i64 ((v1.snd i).snd.fst))])⟩)] (.ar 2 0 0 (v1.fst)),
  ((0 : Nat) < 1),
  ((2 : Nat) = 2),
  (((v0.fst.snd.fst.fst) : Nat) ≤ (v0.fst.snd.fst.fst)),
  ((1 : Nat) = 1),
  (((v0.snd.fst.fst) : Nat) ≤ (v0.snd.fst.fst)),
  ((2 : Nat) = 2),
  (((v1.fst) : Nat) ≤ (v1.fst)),
  Con (Try.prog) 25 0 [] [.agg [.p (.int .i64 (v0.fst.fst)), .p (.seq true 2 (v0.fst.snd.fst.fst) (fun i => [.int .i64 ((v0.fst.snd.fst.snd i).fst), .int .i64 ((v0.fst.snd.fst.snd i).snd.fst)])), .p (.seq true 1 (v0.snd.fst.fst) (fun i => [.int .i64 (v0.snd.fst.snd i)]))], .p (.seq true 2 (v1.fst) (fun i => [.int .i64 ((v1.snd i).fst), .int .i64 ((v1.snd i).snd.fst)]))] [] (.p (.bool (irB v0 v1))),
  ((!irB v0 v1 == irB v0 v1) = false),
  ((0 : Nat) < 1),
  ((0 : Nat) < 1),
  Con (Try.prog) 13 0 [] [.agg [.p (.int .i64 (v0.fst.fst)), .p (.seq true 2 (v0.fst.snd.fst.fst) (fun i => [.int .i64 ((v0.fst.snd.fst.snd i).fst), .int .i64 ((v0.fst.snd.fst.snd i).snd.fst)])), .p (.seq true 1 (v0.snd.fst.fst) (fun i => [.int .i64 (v0.snd.fst.snd i)]))]] [(0, ⟨false, 2, (v0.fst.snd.fst.fst), (fun i => [.p (.int .i64 ((v0.fst.snd.fst.snd i).fst)), .p (.int .i64 ((v0.fst.snd.fst.snd i).snd.fst))])⟩), (1, ⟨false, 1, (v0.snd.fst.fst), (fun i => [.p (.int .i64 (v0.snd.fst.snd i))])⟩)] (.agg [.p (.int .i64 (v0.fst.fst)), .ar 2 0 0 (v0.fst.snd.fst.fst), .ar 1 1 0 (v0.snd.fst.fst)]),
  ((2 : Nat) = 2),
  (((v0.fst.snd.fst.fst) : Nat) ≤ (v0.fst.snd.fst.fst)),
  ((1 : Nat) = 1),
  (((v0.snd.fst.fst) : Nat) ≤ (v0.snd.fst.fst)),
  ((2 : Nat) = 2),
  (((v0.fst.snd.fst.fst) : Nat) ≤ (v0.fst.snd.fst.fst)),
  ((1 : Nat) = 1),
  (((v0.snd.fst.fst) : Nat) ≤ (v0.snd.fst.fst)),
  Con (Try.prog) 15 0 [] [.agg [.p (.int .i64 (v0.fst.fst)), .p (.seq true 2 (v0.fst.snd.fst.fst) (fun i => [.int .i64 ((v0.fst.snd.fst.snd i).fst), .int .i64 ((v0.fst.snd.fst.snd i).snd.fst)])), .p (.seq true 1 (v0.snd.fst.fst) (fun i => [.int .i64 (v0.snd.fst.snd i)]))], .agg [.p (.int .i64 (v0.fst.fst)), .p (.seq true 2 (v0.fst.snd.fst.fst) (fun i => [.int .i64 ((v0.fst.snd.fst.snd i).fst), .int .i64 ((v0.fst.snd.fst.snd i).snd.fst)])), .p (.seq true 1 (v0.snd.fst.fst) (fun i => [.int .i64 (v0.snd.fst.snd i)]))]] [] (.p (.bool true)),
  ((!true) = false),
  Con (Try.prog) 18 0 [] [.p (.seq true 2 (v1.fst) (fun i => [.int .i64 ((v1.snd i).fst), .int .i64 ((v1.snd i).snd.fst)]))] [(0, ⟨false, 2, (v1.fst), (fun i => [.p (.int .i64 ((v1.snd i).fst)), .p (.int .i64 ((v1.snd i).snd.fst))])⟩)] (.ar 2 0 0 (v1.fst)),
  ((2 : Nat) = 2),
  (((v1.fst) : Nat) ≤ (v1.fst)),
  ((2 : Nat) = 2),
  (((v1.fst) : Nat) ≤ (v1.fst)),
  Con (Try.prog) 20 0 [] [.p (.seq true 2 (v1.fst) (fun i => [.int .i64 ((v1.snd i).fst), .int .i64 ((v1.snd i).snd.fst)])), .p (.seq true 2 (v1.fst) (fun i => [.int .i64 ((v1.snd i).fst), .int .i64 ((v1.snd i).snd.fst)]))] [] (.p (.bool true)),
  ((!true) = false),
  (true = true)] := by kernel_rfl

theorem con_law_FnExactIsRepair (v0 : T_Pinned) (v1 : T_BarS) (k0 : okS s_Pinned v0) (k1 : okS s_BarS v1) : Con Try.prog 5 0 [] [.agg [.p (.int .i64 (v0.1.1)), .p (.seq true 2 (v0.1.2.1.1) (fun i => [.int .i64 ((v0.1.2.1.2 i).1), .int .i64 ((v0.1.2.1.2 i).2.1)])), .p (.seq true 1 (v0.2.1.1) (fun i => [.int .i64 ((v0.2.1.2 i))]))], .p (.seq true 2 (v1.1) (fun i => [.int .i64 ((v1.2 i).1), .int .i64 ((v1.2 i).2.1)]))] [] (.p (.bool true)) := by
  refine con_start Try.func5 rfl (by kernel_rfl) rfl (fun c hc => ?_)
  have l0 := le_szPinned v0 1048576 (by omega)
  by_cases g0 : (f_szPinned v0 1048576) < 0
  · refine path_ok mixed Try.func5 hc (p_FnExactIsRepair_0 v0 v1) ?_
    simp only [All]
    repeat' (first | exact trivial | with_reducible apply And.intro)
    all_goals (first | omega | rfl | (intros; first | assumption | exact True.intro | rfl | exact absurd (show false = true by assumption) Bool.false_ne_true | ((repeat' (first | assumption | apply anda | apply notf)); done)) | (exact con_szPinned v0 k0 _ (by omega) (by omega)) | (simp; omega))
  have hs0 := sm_szPinned v0 1048576 (by omega) (by omega) g0
  have l1 := le_szBarS v1 (f_szPinned v0 1048576) (by omega)
  by_cases g1 : (f_szBarS v1 (f_szPinned v0 1048576)) < 0
  · refine path_ok mixed Try.func5 hc (p_FnExactIsRepair_1 v0 v1) ?_
    simp only [All]
    repeat' (first | exact trivial | with_reducible apply And.intro)
    all_goals (first | omega | rfl | (intros; first | assumption | exact True.intro | rfl | exact absurd (show false = true by assumption) Bool.false_ne_true | ((repeat' (first | assumption | apply anda | apply notf)); done)) | (exact con_szPinned v0 k0 _ (by omega) (by omega)) | (exact con_szBarS v1 k1 _ (by omega) (by omega)) | (simp; omega))
  have hs1 := sm_szBarS v1 (f_szPinned v0 1048576) (by omega) g1
  refine path_ok mixed Try.func5 hc (p_FnExactIsRepair_e v0 v1) ?_
  simp only [All]
  repeat' (first | exact trivial | with_reducible apply And.intro)
  all_goals (first | omega | rfl | (intros; first | assumption | exact True.intro | rfl | exact absurd (show false = true by assumption) Bool.false_ne_true | ((repeat' (first | assumption | apply anda | apply notf)); done)) | (exact con_szPinned v0 k0 _ (by omega) (by omega)) | (exact con_szBarS v1 k1 _ (by omega) (by omega)) | (exact con_toPinned v0 hs0) | (exact con_toBarS v1 hs1) | (exact con_IsRepair_s v0 hs0 v1 hs1.1) | (exact con_IsRepair_i v0 hs0 v1 hs1.1) | (exact con_eqPinned v0 hs0) | (exact con_eqBarS v1 hs1) | (simp; try omega))

end Go.Proofs.Ytgdbnnmogddkaaa.Mach
