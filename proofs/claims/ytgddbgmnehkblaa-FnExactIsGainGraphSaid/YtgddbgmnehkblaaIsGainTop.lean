/- The law FnExactIsGainGraph as a contract: it answers true. Conditions: lengths that a slice can have. -/
import Derived.Test.YtgddbgmnehkblaaIsGain
namespace Go.Proofs.Ytgddbgmnehkblaa.Mach
open Go
set_option linter.unusedVariables false
set_option linter.unusedSimpArgs false

def rowsG (v : T_GainGraph) (i : Nat) : List AV := [.p (.int .i64 (v.2.1.2 i).1), .p (.int .i64 (v.2.1.2 i).2.1), .p (.int .i64 (v.2.1.2 i).2.2.1), .p (.int .i64 (v.2.1.2 i).2.2.2.1)]
theorem p5a (v : T_GainGraph) :
    pathOb Try.prog Try.f5 0 [.reg [oT, oT], .reg [oT], .reg [oT, oT, ⟨true, (some ⟨[], [], 1, [], .p (.int .i64 (f_szGainGraph v 1048576))⟩)⟩, oT], .reg [oT, oT], .dec true, .reg [oT]] [.code (bodyOf Try.f5)] (start Try.f5 [] 0 [gainA v]) [] 1 [] (.p (.bool true)) =
    some [((0 : Nat) < 1),
  Con (Try.prog) 16 0 [] [.agg [.p (.int .i64 (v.fst)), .p (.seq true 4 (v.snd.fst.fst) (fun i => [.int .i64 ((v.snd.fst.snd i).fst), .int .i64 ((v.snd.fst.snd i).snd.fst), .int .i64 ((v.snd.fst.snd i).snd.snd.fst), .int .i64 ((v.snd.fst.snd i).snd.snd.snd.fst)]))], .p (.int .i64 1048576)] [] (.p (.int .i64 (f_szGainGraph v 1048576))),
  ((decide (f_szGainGraph v 1048576 < 0)) = true),
  (true = true)] := by kernel_rfl
theorem p5b (v : T_GainGraph) :
    pathOb Try.prog Try.f5 0 [.reg [oT, oT], .reg [oT], .reg [oT, oT, ⟨true, (some ⟨[], [], 1, [], .p (.int .i64 (f_szGainGraph v 1048576))⟩)⟩, oT], .reg [oT, oT], .dec false, .reg [oT, ⟨true, (some ⟨[], [], 1, [(0, ⟨false, 4, v.2.1.1, rowsG v⟩)], .agg [.p (.int .i64 v.1), .ar 4 0 0 v.2.1.1]⟩)⟩, ⟨true, (some ⟨[], [], 1, [], .p (.bool (isGainF v))⟩)⟩, oT], .reg [oT, ⟨true, (some ⟨[], [], 1, [(0, ⟨false, 4, v.2.1.1, rowsG v⟩)], .agg [.p (.int .i64 v.1), .ar 4 0 0 v.2.1.1]⟩)⟩, oT, oT], .reg [oT, ⟨true, (some ⟨[], [], 1, [], .p (.bool (isGainF v))⟩)⟩, oT], .reg [oT, oT, oT], .dec false, .reg [oT, oT, ⟨true, (some ⟨[], [], 1, [(0, ⟨false, 4, v.2.1.1, rowsG v⟩)], .agg [.p (.int .i64 v.1), .ar 4 0 0 v.2.1.1]⟩)⟩, ⟨true, (some ⟨[], [], 1, [], .p (.bool true)⟩)⟩, oT], .dec false, .reg [oT]] [.code (bodyOf Try.f5)] (start Try.f5 [] 0 [gainA v]) [] 1 [] (.p (.bool true)) =
    some [((0 : Nat) < 1),
  Con (Try.prog) 16 0 [] [.agg [.p (.int .i64 (v.fst)), .p (.seq true 4 (v.snd.fst.fst) (fun i => [.int .i64 ((v.snd.fst.snd i).fst), .int .i64 ((v.snd.fst.snd i).snd.fst), .int .i64 ((v.snd.fst.snd i).snd.snd.fst), .int .i64 ((v.snd.fst.snd i).snd.snd.snd.fst)]))], .p (.int .i64 1048576)] [] (.p (.int .i64 (f_szGainGraph v 1048576))),
  ((decide (f_szGainGraph v 1048576 < 0)) = false),
  ((0 : Nat) < 1),
  Con (Try.prog) 18 0 [] [.agg [.p (.int .i64 (v.fst)), .p (.seq true 4 (v.snd.fst.fst) (fun i => [.int .i64 ((v.snd.fst.snd i).fst), .int .i64 ((v.snd.fst.snd i).snd.fst), .int .i64 ((v.snd.fst.snd i).snd.snd.fst), .int .i64 ((v.snd.fst.snd i).snd.snd.snd.fst)]))]] [(0, ⟨false, 4, (v.snd.fst.fst), (fun i => [.p (.int .i64 ((v.snd.fst.snd i).fst)), .p (.int .i64 ((v.snd.fst.snd i).snd.fst)), .p (.int .i64 ((v.snd.fst.snd i).snd.snd.fst)), .p (.int .i64 ((v.snd.fst.snd i).snd.snd.snd.fst))])⟩)] (.agg [.p (.int .i64 (v.fst)), .ar 4 0 0 (v.snd.fst.fst)]),
  ((4 : Nat) = 4),
  (((v.snd.fst.fst) : Nat) ≤ (v.snd.fst.fst)),
  Con (Try.prog) 17 0 [] [.agg [.p (.int .i64 (v.fst)), .p (.seq true 4 (v.snd.fst.fst) (fun i => [.int .i64 ((v.snd.fst.snd i).fst), .int .i64 ((v.snd.fst.snd i).snd.fst), .int .i64 ((v.snd.fst.snd i).snd.snd.fst), .int .i64 ((v.snd.fst.snd i).snd.snd.snd.fst)]))]] [] (.p (.bool (isGainF v))),
  ((0 : Nat) < 1),
  Con (Try.prog) 18 0 [] [.agg [.p (.int .i64 (v.fst)), .p (.seq true 4 (v.snd.fst.fst) (fun i => [.int .i64 ((v.snd.fst.snd i).fst), .int .i64 ((v.snd.fst.snd i).snd.fst), .int .i64 ((v.snd.fst.snd i).snd.snd.fst), .int .i64 ((v.snd.fst.snd i).snd.snd.snd.fst)]))]] [(0, ⟨false, 4, (v.snd.fst.fst), (fun i => [.p (.int .i64 ((v.snd.fst.snd i).fst)), .p (.int .i64 ((v.snd.fst.snd i).snd.fst)), .p (.int .i64 ((v.snd.fst.snd i).snd.snd.fst)), .p (.int .i64 ((v.snd.fst.snd i).snd.snd.snd.fst))])⟩)] (.agg [.p (.int .i64 (v.fst)), .ar 4 0 0 (v.snd.fst.fst)]),
  ((0 : Nat) < 1),
  (((true) = true) → ((1 : Nat) = 1)),
  ((0 : Nat) < 1),
  ((4 : Nat) = 4),
  (((v.snd.fst.fst) : Nat) ≤ (v.snd.fst.fst)),
  Con (Try.prog) 19 0 [] [.agg [.p (.int .i64 (v.fst)), .p (.seq true 4 (v.snd.fst.fst) (fun i => [.int .i64 ((v.snd.fst.snd i).fst), .int .i64 ((v.snd.fst.snd i).snd.fst), .int .i64 ((v.snd.fst.snd i).snd.snd.fst), .int .i64 ((v.snd.fst.snd i).snd.snd.snd.fst)]))]] [] (.p (.bool (isGainF v))),
  ((!isGainF v == isGainF v) = false),
  ((0 : Nat) < 1),
  ((0 : Nat) < 1),
  Con (Try.prog) 18 0 [] [.agg [.p (.int .i64 (v.fst)), .p (.seq true 4 (v.snd.fst.fst) (fun i => [.int .i64 ((v.snd.fst.snd i).fst), .int .i64 ((v.snd.fst.snd i).snd.fst), .int .i64 ((v.snd.fst.snd i).snd.snd.fst), .int .i64 ((v.snd.fst.snd i).snd.snd.snd.fst)]))]] [(0, ⟨false, 4, (v.snd.fst.fst), (fun i => [.p (.int .i64 ((v.snd.fst.snd i).fst)), .p (.int .i64 ((v.snd.fst.snd i).snd.fst)), .p (.int .i64 ((v.snd.fst.snd i).snd.snd.fst)), .p (.int .i64 ((v.snd.fst.snd i).snd.snd.snd.fst))])⟩)] (.agg [.p (.int .i64 (v.fst)), .ar 4 0 0 (v.snd.fst.fst)]),
  ((4 : Nat) = 4),
  (((v.snd.fst.fst) : Nat) ≤ (v.snd.fst.fst)),
  ((4 : Nat) = 4),
  (((v.snd.fst.fst) : Nat) ≤ (v.snd.fst.fst)),
  Con (Try.prog) 20 0 [] [.agg [.p (.int .i64 (v.fst)), .p (.seq true 4 (v.snd.fst.fst) (fun i => [.int .i64 ((v.snd.fst.snd i).fst), .int .i64 ((v.snd.fst.snd i).snd.fst), .int .i64 ((v.snd.fst.snd i).snd.snd.fst), .int .i64 ((v.snd.fst.snd i).snd.snd.snd.fst)]))], .agg [.p (.int .i64 (v.fst)), .p (.seq true 4 (v.snd.fst.fst) (fun i => [.int .i64 ((v.snd.fst.snd i).fst), .int .i64 ((v.snd.fst.snd i).snd.fst), .int .i64 ((v.snd.fst.snd i).snd.snd.fst), .int .i64 ((v.snd.fst.snd i).snd.snd.snd.fst)]))]] [] (.p (.bool true)),
  ((!true) = false),
  (true = true)] := by kernel_rfl

theorem con_law_IsGain (v : T_GainGraph) (k : okS s_GainGraph v) : Con Try.prog 5 0 [] [gainA v] [] (.p (.bool true)) := by
  refine con_start Try.func5 rfl (by kernel_rfl) rfl (fun c hc => ?_)
  by_cases h : f_szGainGraph v 1048576 < 0
  · refine path_ok mixed Try.func5 hc (p5a v) ?_
    simp only [All]
    repeat' (first | exact trivial | with_reducible apply And.intro)
    all_goals (first | rfl | (intros; first | assumption | trivial | rfl | ((repeat' (first | assumption | apply anda | apply notf)); done)) | omega | (exact con_szGainGraph v k _ (by omega) (by omega)) | (simp; omega))
  · have hs := sm_szGainGraph v 1048576 (by omega) (by omega) h
    refine path_ok mixed Try.func5 hc (p5b v) ?_
    simp only [All]
    repeat' (first | exact trivial | with_reducible apply And.intro)
    all_goals (first | rfl | (intros; first | assumption | trivial | rfl | ((repeat' (first | assumption | apply anda | apply notf)); done)) | omega | (exact con_szGainGraph v k _ (by omega) (by omega)) | (exact con_toGainGraph v hs) | (exact con_IsGainGraph_s v hs) | (exact con_IsGainGraph_i v hs) | (exact con_eqGainGraph v hs) | (simp; try omega))

end Go.Proofs.Ytgddbgmnehkblaa.Mach
