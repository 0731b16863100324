/- The law FnExactCountRigid as a contract: it answers true. Written by our own lawtop.py. Conditions: lengths that values can have. -/
import Derived.Test.YthnidhkfelfkdaaEnumC
namespace Go.Proofs.Ythnidhkfelfkdaa.Mach
open Go
set_option linter.unusedVariables false
set_option linter.unusedSimpArgs false

theorem p_FnExactCountRigid_e (v0 : Int) :
    pathOb Try.prog Try.f3 0 [.reg [oT], .reg [oT, ⟨true, (some ⟨[], [], 1, [], .p (.int .i64 (crG v0))⟩), none⟩, oT], .reg [oT, ⟨true, (some ⟨[], [], 1, [], .p (.int .i64 (crG v0))⟩), none⟩, oT], .reg [oT, oT, oT], .dec false, .reg [oT]] [.code (bodyOf Try.f3)] (start Try.f3 [] 0 [.p (.int .i64 (v0))]) [] 1 [] (.p (.bool true)) =
    some [Con (Try.prog) 9 0 [] [.p (.int .i64 (v0))] [] (.p (.int .i64 (crG v0))),
  Con (Try.prog) 10 0 [] [.p (.int .i64 (v0))] [] (.p (.int .i64 (crG v0))),
  ((crG v0 != crG v0) = false),
  (true = true)] := by kernel_rfl

theorem con_law_FnExactCountRigid (v0 : Int) (k0 : okS (.int .i64) v0) : Con Try.prog 3 0 [] [.p (.int .i64 (v0))] [] (.p (.bool true)) := by
  refine con_start Try.func3 rfl (by kernel_rfl) rfl (fun c hc => ?_)
  simp only [okS, imin, imax] at k0
  refine path_ok mixed Try.func3 hc (p_FnExactCountRigid_e v0) ?_
  simp only [All]
  repeat' (first | exact trivial | with_reducible apply And.intro)
  all_goals (first | omega | rfl | (intros; first | assumption | exact True.intro | rfl | exact absurd (show false = true by assumption) Bool.false_ne_true | ((repeat' (first | assumption | apply anda | apply notf)); done)) | (exact con_CountRigid_s v0) | (exact con_CountRigid_i v0) | (simp; try omega))

end Go.Proofs.Ythnidhkfelfkdaa.Mach
