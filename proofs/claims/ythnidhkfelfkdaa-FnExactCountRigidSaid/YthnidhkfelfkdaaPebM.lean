/- Rigid components of any graph: both programs find the same. Conditions: as each theorem says. -/
import Derived.Test.YthnidhkfelfkdaaPebK
namespace Go.Proofs.Ythnidhkfelfkdaa.Mach
open Go
set_option linter.unusedVariables false
set_option linter.unusedSimpArgs false

theorem mSy (v : T_Graph) :
    pathOb Try.prog Try.f36 0 [.reg [oT, oT], .reg [oT, oT], .reg [oT], .loop, .reg [oT, oT, oT, oT, oT, oT, oT, ⟨true, (some ⟨[], [], 1, [], .p (.bool false)⟩), none⟩, oT], .dec false, .reg [oT, oT]] [.code (bodyOf Try.f36)] (start Try.f36 [] 0 [graphA v]) [64] 1 [(0, ssOb 0 (fun _ => (0, fun _ => 0)))] (.ar 1 0 0 0) =
    some [((0 : Nat) < 1),
  (((decide (0 < (↑v.snd.fst.fst : Int))) = true) → ((0 : Nat) < 1)),
  (((decide (0 < (↑v.snd.fst.fst : Int))) = true) → ((decide (0 < (↑v.snd.fst.fst : Int))) = true)),
  (((decide (0 < (↑v.snd.fst.fst : Int))) = true) → Con (Try.prog) 35 0 [] [.agg [.p (.int .i64 (v.fst)), .p (.seq true 2 (v.snd.fst.fst) (fun i => [.int .i64 ((v.snd.fst.snd i).fst), .int .i64 ((v.snd.fst.snd i).snd.fst)]))]] [] (.p (.bool false))),
  (((decide (0 < (↑v.snd.fst.fst : Int))) = true) → ((decide (0 < (↑v.snd.fst.fst : Int))) = true)),
  ((bif decide (0 < (↑v.snd.fst.fst : Int)) then false else false) = false),
  ((0 : Nat) = 0),
  ((0 : Nat) = 0),
  ((1 : Nat) = 1),
  ((0 : Nat) ≤ 0),
  (∀ i : Nat, ((((i) : Nat) < 0) → (All [] ∧ (([.p .any] : List AV) = [.p (.seq false 1 0 (fun i_1 => [.int .i64 ((0, fun x => 0).snd i_1)]))])))),
  (∀ i : Nat, ((((i) : Nat) < 0) → All [(false = false), (∀ i_1 : Nat, ((((i_1) : Nat) < 0) → All []))]))] := by kernel_rfl
theorem mIy (v : T_Graph) :
    pathOb Try.prog Try.f39 0 [.reg [oT, oT], .reg [oT, oT], .reg [oT, ⟨true, (some ⟨[], [], 1, [], .p (.bool false)⟩), none⟩, oT], .dec true, .reg [oT, oT]] [.code (bodyOf Try.f39)] (start Try.f39 [] 0 [graphA v]) [64] 1 [(0, ssOb 0 (fun _ => (0, fun _ => 0)))] (.ar 1 0 0 0) =
    some [((0 : Nat) < 1),
  Con (Try.prog) 38 0 [] [.agg [.p (.int .i64 (v.fst)), .p (.seq true 2 (v.snd.fst.fst) (fun i => [.int .i64 ((v.snd.fst.snd i).fst), .int .i64 ((v.snd.fst.snd i).snd.fst)]))]] [] (.p (.bool false)),
  ((!false) = true),
  ((0 : Nat) = 0),
  ((0 : Nat) = 0),
  ((1 : Nat) = 1),
  ((0 : Nat) ≤ 0),
  (∀ i : Nat, ((((i) : Nat) < 0) → (All [] ∧ (([.p .any] : List AV) = [.p (.seq false 1 0 (fun i_1 => [.int .i64 ((0, fun x => 0).snd i_1)]))])))),
  (∀ i : Nat, ((((i) : Nat) < 0) → All [(false = false), (∀ i_1 : Nat, ((((i_1) : Nat) < 0) → All []))]))] := by kernel_rfl

theorem con_Comps_s (v : T_Graph) (hs : smS s_Graph v) : Con Try.prog 36 0 [] [graphA v] [(0, ssOb (compsG v).1 (compsG v).2)] (.ar 1 0 0 (compsG v).1) := by
  cases hg : isGraphF v with
  | false =>
    have hcg := con_IsGraph_s v hs
    rw [hg] at hcg
    rw [show compsG v = (0, fun _ => (0, fun _ => 0)) by simp [compsG, hg]]
    refine con_start Try.func36 rfl (by kernel_rfl) rfl (fun c hc => ?_)
    refine path_ok mixed Try.func36 hc (mSy v) ?_
    simp only [All]
    repeat' (first | exact trivial | with_reducible apply And.intro)
    all_goals (first | omega | rfl | (intros; first | assumption | exact True.intro | rfl | exact absurd (show false = true by assumption) Bool.false_ne_true | ((repeat' (first | assumption | apply anda | apply notf)); done)) | (intros; exact hcg) | (simp; done) | (intro i hi; simp [All]))
  | true =>
    obtain ⟨N, nb, g, rfl⟩ := graph_cases v hg
    rw [show compsG ((N : Int), (nb, g), ()) = compsD N nb g nb by simp [compsG, hg]]
    exact con_ComponentsOf_s hg

theorem con_Comps_i (v : T_Graph) (hs : smS s_Graph v) : Con Try.prog 39 0 [] [graphA v] [(0, ssOb (compsG v).1 (compsG v).2)] (.ar 1 0 0 (compsG v).1) := by
  cases hg : isGraphF v with
  | false =>
    have hcg := con_IsGraph_i v hs
    rw [hg] at hcg
    rw [show compsG v = (0, fun _ => (0, fun _ => 0)) by simp [compsG, hg]]
    refine con_start Try.func39 rfl (by kernel_rfl) rfl (fun c hc => ?_)
    refine path_ok mixed Try.func39 hc (mIy v) ?_
    simp only [All]
    repeat' (first | exact trivial | with_reducible apply And.intro)
    all_goals (first | omega | rfl | (intros; first | assumption | exact True.intro | rfl | exact absurd (show false = true by assumption) Bool.false_ne_true | ((repeat' (first | assumption | apply anda | apply notf)); done)) | (intros; exact hcg) | (simp; done) | (intro i hi; simp [All]))
  | true =>
    obtain ⟨N, nb, g, rfl⟩ := graph_cases v hg
    rw [show compsG ((N : Int), (nb, g), ()) = compsD N nb g nb by simp [compsG, hg]]
    exact con_ComponentsOf_i hg

theorem compsG_le (v : T_Graph) : (compsG v).1 ≤ 24 ∧ ∀ j, j < (compsG v).1 → ((compsG v).2 j).1 ≤ 8 := by
  unfold compsG
  split
  · rename_i hg
    obtain ⟨N, nb, g, rfl⟩ := graph_cases v hg
    obtain ⟨hN, hnb, _⟩ := graph_in hg
    obtain ⟨h1, h2⟩ := compsD_le N nb g nb
    simp only [Int.toNat_natCast]
    exact ⟨by omega, fun j hj => by have := h2 j hj; omega⟩
  · exact ⟨by show 0 ≤ 24; omega, fun j hj => absurd hj (Nat.not_lt_zero _)⟩

end Go.Proofs.Ythnidhkfelfkdaa.Mach
