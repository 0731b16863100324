/- Whether a site is one: both programs' tests. Conditions: as each theorem says. -/
import Derived.Test.YtgddbgmnehkblabPinned3
import Derived.Test.YtgddbgmnehkblabEqSites2
namespace Go.Proofs.Ytgddbgmnehkblab.Mach
open Go
set_option linter.unusedVariables false
set_option linter.unusedSimpArgs false

def siteF (v : T_Site) : Bool := bif pinnedF v.1 then decide ((v.2.1.1 : Int) ≤ 20) else false

theorem p21 (v : T_Site) :
    pathOb Try.prog Try.f21 0 [.reg [oT, oT], .reg [oT, oT, ⟨true, (some ⟨[], [], 1, [], .p (.bool (pinnedF v.1))⟩)⟩, oT, oT, oT, oT, oT, oT, oT]] [.code (bodyOf Try.f21)] (start Try.f21 [] 0 [siteA v]) [] 1 [] (.p (.bool (siteF v))) =
    some [((0 : Nat) < 1),
  Con (Try.prog) 56 0 [] [.agg [.p (.int .i64 (v.fst.fst.fst)), .p (.seq true 2 (v.fst.fst.snd.fst.fst) (fun i => [.int .i64 ((v.fst.fst.snd.fst.snd i).fst), .int .i64 ((v.fst.fst.snd.fst.snd i).snd.fst)])), .p (.seq true 1 (v.fst.snd.fst.fst) (fun i => [.int .i64 (v.fst.snd.fst.snd i)]))]] [] (.p (.bool (pinnedF v.fst))),
  (((pinnedF v.fst) = true) → ((pinnedF v.fst) = true)),
  (((pinnedF v.fst) = true) → ((0 : Nat) < 1)),
  (((pinnedF v.fst) = true) → ((pinnedF v.fst) = true)),
  (((pinnedF v.fst) = true) → ((pinnedF v.fst) = true)),
  (((pinnedF v.fst) = true) → ((pinnedF v.fst) = true)),
  ((bif pinnedF v.fst then decide ((↑v.snd.fst.fst : Int) ≤ 20) else false) = (siteF v))] := by kernel_rfl
theorem p22 (v : T_Site) :
    pathOb Try.prog Try.f22 0 [.reg [oT, oT], .reg [oT, oT, ⟨true, (some ⟨[], [], 1, [], .p (.bool (pinnedF v.1))⟩)⟩, oT, oT, oT, oT, oT, oT, oT]] [.code (bodyOf Try.f22)] (start Try.f22 [] 0 [siteA v]) [] 1 [] (.p (.bool (siteF v))) =
    some [((0 : Nat) < 1),
  Con (Try.prog) 57 0 [] [.agg [.p (.int .i64 (v.fst.fst.fst)), .p (.seq true 2 (v.fst.fst.snd.fst.fst) (fun i => [.int .i64 ((v.fst.fst.snd.fst.snd i).fst), .int .i64 ((v.fst.fst.snd.fst.snd i).snd.fst)])), .p (.seq true 1 (v.fst.snd.fst.fst) (fun i => [.int .i64 (v.fst.snd.fst.snd i)]))]] [] (.p (.bool (pinnedF v.fst))),
  (((pinnedF v.fst) = true) → ((pinnedF v.fst) = true)),
  (((pinnedF v.fst) = true) → ((0 : Nat) < 1)),
  (((pinnedF v.fst) = true) → ((pinnedF v.fst) = true)),
  (((pinnedF v.fst) = true) → ((pinnedF v.fst) = true)),
  (((pinnedF v.fst) = true) → ((pinnedF v.fst) = true)),
  ((bif pinnedF v.fst then decide ((↑v.snd.fst.fst : Int) ≤ 20) else false) = (siteF v))] := by kernel_rfl

theorem con_IsSite_s (v : T_Site) (hs : smS s_Site v) : Con Try.prog 21 0 [] [siteA v] [] (.p (.bool (siteF v))) := by
  refine con_start Try.func21 rfl (by kernel_rfl) rfl (fun c hc => ?_)
  refine path_ok mixed Try.func21 hc (p21 v) ?_
  simp only [All]
  repeat' (first | exact trivial | with_reducible apply And.intro)
  all_goals (first | omega | rfl | (intros; first | assumption | exact True.intro | rfl | exact absurd (show false = true by assumption) Bool.false_ne_true | ((repeat' (first | assumption | apply anda | apply notf)); done)) | (exact con_IsPinned_s v.1 hs.1) | (simp [siteF]))

theorem con_IsSite_i (v : T_Site) (hs : smS s_Site v) : Con Try.prog 22 0 [] [siteA v] [] (.p (.bool (siteF v))) := by
  refine con_start Try.func22 rfl (by kernel_rfl) rfl (fun c hc => ?_)
  refine path_ok mixed Try.func22 hc (p22 v) ?_
  simp only [All]
  repeat' (first | exact trivial | with_reducible apply And.intro)
  all_goals (first | omega | rfl | (intros; first | assumption | exact True.intro | rfl | exact absurd (show false = true by assumption) Bool.false_ne_true | ((repeat' (first | assumption | apply anda | apply notf)); done)) | (exact con_IsPinned_i v.1 hs.1) | (simp [siteF]))

end Go.Proofs.Ytgddbgmnehkblab.Mach
