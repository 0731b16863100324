/- Whether a number lies between two: both programs' tests. Conditions: none. -/
import Derived.Test.YtgdbnnmogddkaaaMachV
namespace Go.Proofs.Ytgdbnnmogddkaaa.Mach
open Go
set_option linter.unusedVariables false
set_option linter.unusedSimpArgs false

def inB (x a b : Int) : Bool := decide (a ≤ x) && decide (x ≤ b)

theorem p36 (x a b : Int) :
    pathOb Try.prog Try.f112 0 [.reg [oT], .reg [oT, oT, oT, oT, oT, oT, oT, oT, oT]] [.code (bodyOf Try.f112)] (start Try.f112 [] 0 [.p (.int .i64 x), .p (.int .i64 a), .p (.int .i64 b)]) [] 1 [] (.p (.bool (inB x a b))) =
    some [(((decide (x ≥ a)) = true) → ((decide (x ≥ a)) = true)),
  (((decide (x ≥ a)) = true) → ((decide (x ≥ a)) = true)),
  (((decide (x ≥ a)) = true) → ((decide (x ≥ a)) = true)),
  ((bif decide (x ≥ a) then decide (x ≤ b) else false) = (inB x a b))] := by kernel_rfl
theorem p37 (x a b : Int) :
    pathOb Try.prog Try.f115 0 [.reg [oT], .reg [oT, oT, oT, oT, oT, oT, oT, oT, oT]] [.code (bodyOf Try.f115)] (start Try.f115 [] 0 [.p (.int .i64 x), .p (.int .i64 a), .p (.int .i64 b)]) [] 1 [] (.p (.bool (inB x a b))) =
    some [(((decide (x ≥ a)) = true) → ((decide (x ≥ a)) = true)),
  (((decide (x ≥ a)) = true) → ((decide (x ≥ a)) = true)),
  (((decide (x ≥ a)) = true) → ((decide (x ≥ a)) = true)),
  ((bif decide (x ≥ a) then decide (x ≤ b) else false) = (inB x a b))] := by kernel_rfl
theorem con_l1In (x a b : Int) : Con Try.prog 112 0 [] [.p (.int .i64 x), .p (.int .i64 a), .p (.int .i64 b)] [] (.p (.bool (inB x a b))) := by
  refine con_start Try.func112 rfl (by kernel_rfl) rfl (fun c hc => ?_)
  refine path_ok mixed Try.func112 hc (p36 x a b) ?_
  simp only [All]
  repeat' (first | exact trivial | with_reducible apply And.intro)
  all_goals (first | omega | rfl | (intros; first | assumption | exact True.intro | rfl | exact absurd (show false = true by assumption) Bool.false_ne_true | ((repeat' (first | assumption | apply anda | apply notf)); done)) | (simp only [inB]; cases decide (a ≤ x) <;> rfl))
theorem con_within (x a b : Int) : Con Try.prog 115 0 [] [.p (.int .i64 x), .p (.int .i64 a), .p (.int .i64 b)] [] (.p (.bool (inB x a b))) := by
  refine con_start Try.func115 rfl (by kernel_rfl) rfl (fun c hc => ?_)
  refine path_ok mixed Try.func115 hc (p37 x a b) ?_
  simp only [All]
  repeat' (first | exact trivial | with_reducible apply And.intro)
  all_goals (first | omega | rfl | (intros; first | assumption | exact True.intro | rfl | exact absurd (show false = true by assumption) Bool.false_ne_true | ((repeat' (first | assumption | apply anda | apply notf)); done)) | (simp only [inB]; cases decide (a ≤ x) <;> rfl))


end Go.Proofs.Ytgdbnnmogddkaaa.Mach
