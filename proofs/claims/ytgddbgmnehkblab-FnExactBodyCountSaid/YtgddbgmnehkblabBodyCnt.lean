/- The number of rigid bodies: both programs count alike. Conditions: as each theorem says. -/
import Derived.Test.YtgddbgmnehkblabPebM
namespace Go.Proofs.Ytgddbgmnehkblab.Mach
open Go
set_option linter.unusedVariables false
set_option linter.unusedSimpArgs false

theorem bcS (v : T_Graph) (cn : Nat) (C : Nat → T_IntS) :
    pathOb Try.prog Try.f37 0 [.reg [oT, oT], .reg [oT, ⟨true, (some ⟨[], [], 1, [(0, ssOb cn C)], .ar 1 0 0 cn⟩), none⟩, oT, oT]] [.code (bodyOf Try.f37)] (start Try.f37 [] 0 [graphA v]) [] 1 [] (.p (.int .i64 cn)) =
    some [((0 : Nat) < 1),
  Con (Try.prog) 77 0 [] [.agg [.p (.int .i64 (v.fst)), .p (.seq true 2 (v.snd.fst.fst) (fun i => [.int .i64 ((v.snd.fst.snd i).fst), .int .i64 ((v.snd.fst.snd i).snd.fst)]))]] [(0, ⟨false, 1, (cn), (fun i => [.p (.seq false 1 ((C i).fst) (fun i_1 => [.int .i64 ((C i).snd i_1)]))])⟩)] (.ar 1 0 0 (cn)),
  ((((↑cn : Int)) : Int) = ((↑cn : Int)))] := by kernel_rfl
theorem bcI (v : T_Graph) (cn : Nat) (C : Nat → T_IntS) :
    pathOb Try.prog Try.f39 0 [.reg [oT, oT], .reg [oT, ⟨true, (some ⟨[], [], 1, [(0, ssOb cn C)], .ar 1 0 0 cn⟩), none⟩, oT, oT]] [.code (bodyOf Try.f39)] (start Try.f39 [] 0 [graphA v]) [] 1 [] (.p (.int .i64 cn)) =
    some [((0 : Nat) < 1),
  Con (Try.prog) 79 0 [] [.agg [.p (.int .i64 (v.fst)), .p (.seq true 2 (v.snd.fst.fst) (fun i => [.int .i64 ((v.snd.fst.snd i).fst), .int .i64 ((v.snd.fst.snd i).snd.fst)]))]] [(0, ⟨false, 1, (cn), (fun i => [.p (.seq false 1 ((C i).fst) (fun i_1 => [.int .i64 ((C i).snd i_1)]))])⟩)] (.ar 1 0 0 (cn)),
  ((((↑cn : Int)) : Int) = ((↑cn : Int)))] := by kernel_rfl

theorem con_BodyCount_s (v : T_Graph) (hs : smS s_Graph v) : Con Try.prog 37 0 [] [graphA v] [] (.p (.int .i64 ((compsG v).1 : Nat))) := by
  have h := con_Comps_s v hs
  refine con_start Try.func37 rfl (by kernel_rfl) rfl (fun c hc => ?_)
  refine path_ok mixed Try.func37 hc (bcS v _ (compsG v).2) ?_
  simp only [All]
  repeat' (first | exact trivial | with_reducible apply And.intro)
  all_goals (first | omega | rfl | (intros; first | assumption | exact True.intro | rfl | exact absurd (show false = true by assumption) Bool.false_ne_true | ((repeat' (first | assumption | apply anda | apply notf)); done)) | (exact h) | (simp; done))

theorem con_BodyCount_i (v : T_Graph) (hs : smS s_Graph v) : Con Try.prog 39 0 [] [graphA v] [] (.p (.int .i64 ((compsG v).1 : Nat))) := by
  have h := con_Comps_i v hs
  refine con_start Try.func39 rfl (by kernel_rfl) rfl (fun c hc => ?_)
  refine path_ok mixed Try.func39 hc (bcI v _ (compsG v).2) ?_
  simp only [All]
  repeat' (first | exact trivial | with_reducible apply And.intro)
  all_goals (first | omega | rfl | (intros; first | assumption | exact True.intro | rfl | exact absurd (show false = true by assumption) Bool.false_ne_true | ((repeat' (first | assumption | apply anda | apply notf)); done)) | (exact h) | (simp; done))

end Go.Proofs.Ytgddbgmnehkblab.Mach
