/- The law FnExactCountKind as a contract: it answers true. Conditions: lengths below 2^40. -/
import Derived.Test.YtgddbgmnehkblaaCount
namespace Go.Proofs.Ytgddbgmnehkblaa.Mach
open Go
set_option linter.unusedVariables false
set_option linter.unusedSimpArgs false

theorem p4a (n : Nat) (g : Nat → R3) (kind : Int) :
    pathOb Try.prog Try.f4 0 [.reg [oT], .reg [oT], .reg [oT, oT, ⟨true, (some ⟨[], [], 1, [], .p (.int .i64 (-1))⟩)⟩, oT], .reg [oT, oT], .dec true, .reg [oT]] [.code (bodyOf Try.f4)] (start Try.f4 [] 0 [.p (.seq true 3 n (r3 g)), .p (.int .i64 kind)]) [] 1 [] (.p (.bool true)) =
    some [Con (Try.prog) 11 0 [] [.p (.seq true 3 (n) (fun i => [.int .i64 ((g i).a), .int .i64 ((g i).b), .int .i64 ((g i).c)])), .p (.int .i64 1048576)] [] (.p (.int .i64 (-1))),
  ((decide (-1 < 0)) = true),
  (true = true)] := by kernel_rfl
theorem p4b (n : Nat) (g : Nat → R3) (kind : Int) :
    pathOb Try.prog Try.f4 0 [.reg [oT], .reg [oT], .reg [oT, oT, ⟨true, (some ⟨[], [], 1, [], .p (.int .i64 (1048576 - n))⟩)⟩, oT], .reg [oT, oT], .dec false, .reg [oT, ⟨true, (some ⟨[], [], 1, [(0, ⟨false, 3, n, a3 g⟩)], .ar 3 0 0 n⟩)⟩, oT, ⟨true, (some ⟨[], [], 1, [], .p (.int .i64 (cntK g kind n))⟩)⟩, oT], .reg [oT, ⟨true, (some ⟨[], [], 1, [(0, ⟨false, 3, n, a3 g⟩)], .ar 3 0 0 n⟩)⟩, oT], .reg [oT, oT, ⟨true, (some ⟨[], [], 1, [], .p (.int .i64 (cntK g kind n))⟩)⟩, oT], .reg [oT, oT, oT], .dec false, .reg [oT, oT, ⟨true, (some ⟨[], [], 1, [(0, ⟨false, 3, n, a3 g⟩)], .ar 3 0 0 n⟩)⟩, ⟨true, (some ⟨[], [], 1, [], .p (.bool true)⟩)⟩, oT], .dec false, .reg [oT]] [.code (bodyOf Try.f4)] (start Try.f4 [] 0 [.p (.seq true 3 n (r3 g)), .p (.int .i64 kind)]) [] 1 [] (.p (.bool true)) =
    some [Con (Try.prog) 11 0 [] [.p (.seq true 3 (n) (fun i => [.int .i64 ((g i).a), .int .i64 ((g i).b), .int .i64 ((g i).c)])), .p (.int .i64 1048576)] [] (.p (.int .i64 (1048576 - (↑n : Int)))),
  ((decide (1048576 - (↑n : Int) < 0)) = false),
  Con (Try.prog) 13 0 [] [.p (.seq true 3 (n) (fun i => [.int .i64 ((g i).a), .int .i64 ((g i).b), .int .i64 ((g i).c)]))] [(0, ⟨false, 3, (n), (fun i => [.p (.int .i64 ((g i).a)), .p (.int .i64 ((g i).b)), .p (.int .i64 ((g i).c))])⟩)] (.ar 3 0 0 (n)),
  ((3 : Nat) = 3),
  (((n) : Nat) ≤ (n)),
  Con (Try.prog) 12 0 [] [.p (.seq true 3 (n) (fun i => [.int .i64 ((g i).a), .int .i64 ((g i).b), .int .i64 ((g i).c)])), .p (.int .i64 (kind))] [] (.p (.int .i64 (cntK g kind n))),
  Con (Try.prog) 13 0 [] [.p (.seq true 3 (n) (fun i => [.int .i64 ((g i).a), .int .i64 ((g i).b), .int .i64 ((g i).c)]))] [(0, ⟨false, 3, (n), (fun i => [.p (.int .i64 ((g i).a)), .p (.int .i64 ((g i).b)), .p (.int .i64 ((g i).c))])⟩)] (.ar 3 0 0 (n)),
  ((3 : Nat) = 3),
  (((n) : Nat) ≤ (n)),
  Con (Try.prog) 14 0 [] [.p (.seq true 3 (n) (fun i => [.int .i64 ((g i).a), .int .i64 ((g i).b), .int .i64 ((g i).c)])), .p (.int .i64 (kind))] [] (.p (.int .i64 (cntK g kind n))),
  ((cntK g kind n != cntK g kind n) = false),
  Con (Try.prog) 13 0 [] [.p (.seq true 3 (n) (fun i => [.int .i64 ((g i).a), .int .i64 ((g i).b), .int .i64 ((g i).c)]))] [(0, ⟨false, 3, (n), (fun i => [.p (.int .i64 ((g i).a)), .p (.int .i64 ((g i).b)), .p (.int .i64 ((g i).c))])⟩)] (.ar 3 0 0 (n)),
  ((3 : Nat) = 3),
  (((n) : Nat) ≤ (n)),
  ((3 : Nat) = 3),
  (((n) : Nat) ≤ (n)),
  Con (Try.prog) 15 0 [] [.p (.seq true 3 (n) (fun i => [.int .i64 ((g i).a), .int .i64 ((g i).b), .int .i64 ((g i).c)])), .p (.seq true 3 (n) (fun i => [.int .i64 ((g i).a), .int .i64 ((g i).b), .int .i64 ((g i).c)]))] [] (.p (.bool true)),
  ((!true) = false),
  (true = true)] := by kernel_rfl

theorem con4 (n : Nat) (g : Nat → R3) (kind : Int) (hl : n ≤ 9223372036854775807) :
    Con Try.prog 4 0 [] [.p (.seq true 3 n (r3 g)), .p (.int .i64 kind)] [] (.p (.bool true)) := by
  refine con_start Try.func4 rfl (by kernel_rfl) rfl (fun c hc => ?_)
  by_cases h : n ≤ 1048576
  · refine path_ok mixed Try.func4 hc (p4b n g kind) ?_
    simp only [All]
    repeat' (first | exact trivial | with_reducible apply And.intro)
    all_goals (first | rfl | (intros; first | trivial | rfl) | omega | assumption | (exact con11b _ _ _ hl (by omega) (by omega) (by omega)) | (exact con13 _ _ h) | (exact con12 _ _ _ h) | (exact con14 _ _ _ h) | (exact con15 _ _ h) | (simp; try omega))
  · refine path_ok mixed Try.func4 hc (p4a n g kind) ?_
    simp only [All]
    repeat' (first | exact trivial | with_reducible apply And.intro)
    all_goals (first | rfl | (intros; first | trivial | rfl) | omega | assumption | (exact con11a _ _ _ hl (by omega) (by omega) (by omega)))

end Go.Proofs.Ytgddbgmnehkblaa.Mach
