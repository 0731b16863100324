/- Implied bars and ranks: contracts taken from PebI and PebJ, for a seat that has no impl.IsImplied. Conditions: as each theorem says. -/
import Derived.Test.YtgdbnnmogddkaaaPebH
import Derived.Test.YtgdbnnmogddkaaaRen
namespace Go.Proofs.Ytgdbnnmogddkaaa.Mach
open Go
set_option linter.unusedVariables false
set_option linter.unusedSimpArgs false

theorem rIs (g g' : Nat → T_Bar) (nb nb' N : Nat) (a b : Int) (r1 r0 : Nat) :
    pathOb Try.prog Try.f98 0 [.reg [oT, oT], .reg [oT, ⟨true, (some ⟨[], [], 1, [], .p (.bool true)⟩), none⟩, oT, oT, oT, oT, oT, oT, oT, oT, oT, oT, oT, oT, oT, oT, oT, oT, oT, oT, oT, oT, oT], .dec false, .reg [oT, oT, oT, oT, oT, oT, oT, oT, ⟨true, (some ⟨[], [], 1, [(0, brOb nb' g')], .agg [.p (.int .i64 N), .ar 2 0 0 nb']⟩), none⟩, oT, oT], .reg [oT, oT, oT, oT, oT, ⟨true, (some ⟨[], [], 1, [], .p (.int .i64 r1)⟩), none⟩, oT, ⟨true, (some ⟨[], [], 1, [], .p (.int .i64 r0)⟩), none⟩, oT, oT, oT]] [.code (bodyOf Try.f98)] (start Try.f98 [] 0 [grG g nb N, .p (.int .i64 a), .p (.int .i64 b)]) [] 1 [] (.p (.bool (bif a == b then true else (r1 : Int) == (r0 : Int)))) =
    some [((0 : Nat) < 1),
  Con (Try.prog) 73 0 [] [.agg [.p (.int .i64 ((↑N : Int))), .p (.seq true 2 (nb) (fun i => [.int .i64 ((g i).fst), .int .i64 ((g i).snd.fst)]))]] [] (.p (.bool true)),
  (((!!true) = true) → ((!!true) = true)),
  (((!true) = false) → ((!!true) = true)),
  (((!bif !true then true else decide (a < 0)) = true) → ((!bif !true then true else decide (a < 0)) = true)),
  (((bif !true then true else decide (a < 0)) = false) → ((!bif !true then true else decide (a < 0)) = true)),
  (((!bif bif !true then true else decide (a < 0) then true else decide (b < 0)) = true) → ((!bif bif !true then true else decide (a < 0) then true else decide (b < 0)) = true)),
  (((!bif bif !true then true else decide (a < 0) then true else decide (b < 0)) = true) → ((0 : Nat) < 1)),
  (((!bif bif !true then true else decide (a < 0) then true else decide (b < 0)) = true) → ((!bif bif !true then true else decide (a < 0) then true else decide (b < 0)) = true)),
  (((!bif bif !true then true else decide (a < 0) then true else decide (b < 0)) = true) → ((!bif bif !true then true else decide (a < 0) then true else decide (b < 0)) = true)),
  (((bif bif !true then true else decide (a < 0) then true else decide (b < 0)) = false) → ((!bif bif !true then true else decide (a < 0) then true else decide (b < 0)) = true)),
  (((!bif bif bif !true then true else decide (a < 0) then true else decide (b < 0) then true else decide (a ≥ (↑N : Int))) = true) → ((!bif bif bif !true then true else decide (a < 0) then true else decide (b < 0) then true else decide (a ≥ (↑N : Int))) = true)),
  (((!bif bif bif !true then true else decide (a < 0) then true else decide (b < 0) then true else decide (a ≥ (↑N : Int))) = true) → ((0 : Nat) < 1)),
  (((!bif bif bif !true then true else decide (a < 0) then true else decide (b < 0) then true else decide (a ≥ (↑N : Int))) = true) → ((!bif bif bif !true then true else decide (a < 0) then true else decide (b < 0) then true else decide (a ≥ (↑N : Int))) = true)),
  (((!bif bif bif !true then true else decide (a < 0) then true else decide (b < 0) then true else decide (a ≥ (↑N : Int))) = true) → ((!bif bif bif !true then true else decide (a < 0) then true else decide (b < 0) then true else decide (a ≥ (↑N : Int))) = true)),
  (((bif bif bif !true then true else decide (a < 0) then true else decide (b < 0) then true else decide (a ≥ (↑N : Int))) = false) → ((!bif bif bif !true then true else decide (a < 0) then true else decide (b < 0) then true else decide (a ≥ (↑N : Int))) = true)),
  ((bif bif bif bif !true then true else decide (a < 0) then true else decide (b < 0) then true else decide (a ≥ (↑N : Int)) then true else decide (b ≥ (↑N : Int))) = false),
  ((0 : Nat) < 1),
  Con (Try.prog) 108 0 [] [.agg [.p (.int .i64 ((↑N : Int))), .p (.seq true 2 (nb) (fun i => [.int .i64 ((g i).fst), .int .i64 ((g i).snd.fst)]))], .agg [.p (.int .i64 (if false = true then if b > a then b else a else if b < a then b else a)), .p (.int .i64 (if true = true then if b > a then b else a else if b < a then b else a))]] [(0, ⟨false, 2, (nb'), (fun i => [.p (.int .i64 ((g' i).fst)), .p (.int .i64 ((g' i).snd.fst))])⟩)] (.agg [.p (.int .i64 ((↑N : Int))), .ar 2 0 0 (nb')]),
  ((0 : Nat) < 1),
  (((true) = true) → ((1 : Nat) = 1)),
  (((!a == b) = true) → ((0 : Nat) < 1)),
  (((!a == b) = true) → ((!a == b) = true)),
  (((!a == b) = true) → ((2 : Nat) = 2)),
  (((!a == b) = true) → (((nb') : Nat) ≤ (nb'))),
  (((!a == b) = true) → Con (Try.prog) 127 0 [] [.agg [.p (.int .i64 ((↑N : Int))), .p (.seq true 2 (nb') (fun i => [.int .i64 ((g' i).fst), .int .i64 ((g' i).snd.fst)]))]] [] (.p (.int .i64 ((↑r1 : Int))))),
  (((!a == b) = true) → ((0 : Nat) < 1)),
  (((!a == b) = true) → ((!a == b) = true)),
  (((!a == b) = true) → Con (Try.prog) 127 0 [] [.agg [.p (.int .i64 ((↑N : Int))), .p (.seq true 2 (nb) (fun i => [.int .i64 ((g i).fst), .int .i64 ((g i).snd.fst)]))]] [] (.p (.int .i64 ((↑r0 : Int))))),
  (((!a == b) = true) → ((!a == b) = true)),
  (((!a == b) = true) → ((!a == b) = true)),
  (((a == b) = false) → ((!a == b) = true)),
  ((bif a == b then true else (↑r1 : Int) == (↑r0 : Int)) = (bif a == b then true else (↑r1 : Int) == (↑r0 : Int)))] := by kernel_rfl
theorem rRank (g : Nat → T_Bar) (nb N m : Nat) (F T Q : Nat → Int) :
    pathOb Try.prog Try.f130 0 [.reg [oT], .reg [oT, oT, ⟨true, (some ⟨[], [], 1, pebR N m F T Q, pebO N m 0⟩), none⟩, oT, oT, oT]] [.code (bodyOf Try.f130)] (start Try.f130 [] 0 [.p (.int .i64 N), brL g nb]) [] 1 [] (.p (.int .i64 m)) =
    some [Con (Try.prog) 140 0 [] [.p (.int .i64 ((↑N : Int))), .p (.seq true 2 (nb) (fun i => [.int .i64 ((g i).fst), .int .i64 ((g i).snd.fst)])), .p (.int .i64 2), .p (.int .i64 3)] [(0, ⟨false, 1, (N), (fun i => [.p (.int .i64 (F i))])⟩), (1, ⟨false, 1, (m), (fun i => [.p (.int .i64 (T i))])⟩), (2, ⟨false, 1, (m), (fun i => [.p (.int .i64 (Q i))])⟩)] (.agg [.ar 1 0 0 (N), .ar 1 1 0 (m), .ar 1 2 0 (m)]),
  ((((↑m : Int)) : Int) = ((↑m : Int)))] := by kernel_rfl
theorem rRaise (g : Nat → T_Bar) (nb N : Nat) (x : T_Bar) (r1 r0 : Nat) :
    pathOb Try.prog Try.f105 0 [.reg [oT, oT], .reg [oT, oT, oT, oT, oT, oT, oT, ⟨true, (some ⟨[], [], 1, [], .p (.int .i64 r1)⟩), none⟩, oT, oT, ⟨true, (some ⟨[], [], 1, [], .p (.int .i64 r0)⟩), none⟩, oT, oT]] [.code (bodyOf Try.f105)] (start Try.f105 [] 0 [.p (.int .i64 N), brL g nb, brA x]) [] 1 [] (.p (.bool (decide ((r1 : Int) > (r0 : Int))))) =
    some [((0 : Nat) ≤ 0),
  ((((0 + nb) * 16) : Nat) ≤ 140737488355328),
  (((0 + nb) : Nat) ≤ 9223372036854775807),
  ((0 : Nat) < 1),
  ((1 : Nat) ≤ 1),
  (((0 + nb) : Nat) ≤ (0 + nb)),
  ((((0 + nb + 1) * 16) : Nat) ≤ 140737488355328),
  (((0 + nb + 1) : Nat) ≤ 9223372036854775807),
  ((2 : Nat) = 2),
  (((0 + nb + 1) : Nat) ≤ (0 + nb + 1)),
  Con (Try.prog) 130 0 [] [.p (.int .i64 ((↑N : Int))), .p (.seq true 2 (0 + nb + 1) (fun i => [(cellP true (if (i < 0 + nb) then [.p (.int .i64 ((g i).fst)), .p (.int .i64 ((g i).snd.fst))] else [.p (.int .i64 (x.fst)), .p (.int .i64 (x.snd.fst))]) 0), (cellP true (if (i < 0 + nb) then [.p (.int .i64 ((g i).fst)), .p (.int .i64 ((g i).snd.fst))] else [.p (.int .i64 (x.fst)), .p (.int .i64 (x.snd.fst))]) 1)]))] [] (.p (.int .i64 ((↑r1 : Int)))),
  Con (Try.prog) 130 0 [] [.p (.int .i64 ((↑N : Int))), .p (.seq true 2 (nb) (fun i => [.int .i64 ((g i).fst), .int .i64 ((g i).snd.fst)]))] [] (.p (.int .i64 ((↑r0 : Int)))),
  ((decide ((↑r1 : Int) > (↑r0 : Int))) = (decide ((↑r1 : Int) > (↑r0 : Int))))] := by kernel_rfl

def bL (g : Nat → T_Bar) : Nat → List (Nat × Nat)
  | 0 => []
  | n + 1 => bL g n ++ [brN (g n)]

theorem bL_mem (g : Nat → T_Bar) (y : Nat × Nat) : ∀ n, y ∈ bL g n ↔ ∃ s, s < n ∧ brN (g s) = y
  | 0 => by
    constructor
    · intro h; cases h
    · rintro ⟨s, h, _⟩; exact absurd h (Nat.not_lt_zero _)
  | n + 1 => by
    simp only [bL, List.mem_append, List.mem_singleton, bL_mem g y n]
    constructor
    · rintro (⟨s, h1, h2⟩ | h)
      · exact ⟨s, by omega, h2⟩
      · exact ⟨n, by omega, h.symm⟩
    · rintro ⟨s, h1, h2⟩
      by_cases e : s = n
      · right; rw [← e]; exact h2.symm
      · exact .inl ⟨s, by omega, h2⟩

theorem acc_greedy (N k l : Nat) (g : Nat → T_Bar) : ∀ n, (accI N k l g n).map (fun i => brN (g i)) = Mat.greedy N k l [] (bL g n)
  | 0 => rfl
  | n + 1 => by
    have ih := acc_greedy N k l g n
    simp only [accI, bL, Mat.greedy_append, Mat.greedy]
    rw [← ih]
    split
    · rw [List.map_append]; rfl
    · rfl

theorem acc_len (N k l : Nat) (g : Nat → T_Bar) (n : Nat) : (accI N k l g n).length = (Mat.greedy N k l [] (bL g n)).length := by
  rw [← acc_greedy, List.length_map]

def OkBars (N nb : Nat) (g : Nat → T_Bar) : Prop := ∀ e, e < nb → 0 ≤ (g e).1 ∧ (g e).1 < (g e).2.1 ∧ (g e).2.1 < N

theorem bL_good {N nb : Nat} {g : Nat → T_Bar} (h : OkBars N nb g) : ∀ x ∈ bL g nb, Mat.GoodBar N x := by
  intro x hx
  obtain ⟨s, h1, h2⟩ := (bL_mem g x nb).1 hx
  have := h s h1
  rw [← h2]
  simp only [Mat.GoodBar, brN]
  omega

/-- Lists of the same bars have the same rank. -/
theorem acc_same {N n n' : Nat} {g g' : Nat → T_Bar} (h : OkBars N n g) (hm : ∀ y, (∃ s, s < n ∧ g s = y) ↔ ∃ s, s < n' ∧ g' s = y) : (accI N 2 3 g n).length = (accI N 2 3 g' n').length := by
  rw [acc_len, acc_len]
  refine Mat.rank_same _ _ (bL_good h) (fun x => ?_)
  rw [bL_mem, bL_mem]
  constructor
  · rintro ⟨s, h1, h2⟩
    obtain ⟨t, h3, h4⟩ := (hm (g s)).1 ⟨s, h1, rfl⟩
    exact ⟨t, h3, by rw [h4, h2]⟩
  · rintro ⟨s, h1, h2⟩
    obtain ⟨t, h3, h4⟩ := (hm (g' s)).2 ⟨s, h1, rfl⟩
    exact ⟨t, h3, by rw [h4, h2]⟩

theorem acc_congr (N k l : Nat) {g g' : Nat → T_Bar} : ∀ n, (∀ i, i < n → g i = g' i) → accI N k l g n = accI N k l g' n
  | 0, _ => rfl
  | n + 1, h => by
    have ih := acc_congr N k l n (fun i hi => h i (by omega))
    have hb : (accI N k l g n).map (fun i => brN (g i)) = (accI N k l g' n).map (fun i => brN (g' i)) := by
      rw [ih]
      refine List.map_congr_left (fun i hi => ?_)
      rw [h i (by
        have : ∀ n, ∀ i ∈ accI N k l g' n, i < n := by
          intro n
          induction n with
          | zero => intro i hi; cases hi
          | succ n ih2 =>
            intro i hi
            simp only [accI] at hi
            split at hi
            · rcases List.mem_append.1 hi with h | h
              · have := ih2 i h; omega
              · rw [List.mem_singleton] at h; omega
            · have := ih2 i hi; omega
        have := this n i hi
        omega)]
    simp only [accI]
    rw [hb, h n (by omega), ih]

theorem acc_mono (N k l : Nat) (g : Nat → T_Bar) (n : Nat) : (accI N k l g n).length ≤ (accI N k l g (n + 1)).length := by
  simp only [accI]
  split
  · simp
  · exact Nat.le_refl _

theorem con_planeRank {N nb : Nat} {g : Nat → T_Bar} (hb : OkBars N nb g) (hN : N ≤ 1048576) (hnb : nb ≤ 1048576) : Con Try.prog 130 0 [] [.p (.int .i64 N), brL g nb] [] (.p (.int .i64 ((accI N 2 3 g nb).length : Nat))) := by
  obtain ⟨m, F, T, Q, hc1, hp, hq⟩ := con_play (N := N) (k := 2) (l := 3) hb (by omega) (by omega) hN hnb
  rw [← hq, qL_length]
  refine con_start Try.func130 rfl (by kernel_rfl) rfl (fun c hc => ?_)
  refine path_ok mixed Try.func130 hc (rRank g nb N m F T Q) ?_
  simp only [All]
  repeat' (first | exact trivial | with_reducible apply And.intro)
  all_goals (first | omega | rfl | (intros; first | assumption | exact True.intro | rfl | exact absurd (show false = true by assumption) Bool.false_ne_true | ((repeat' (first | assumption | apply anda | apply notf)); done)) | (exact hc1) | (intro i hi; simp [All]))

theorem ok_snoc {N nb : Nat} {g : Nat → T_Bar} {x : T_Bar} (hb : OkBars N nb g) (hx : 0 ≤ x.1 ∧ x.1 < x.2.1 ∧ x.2.1 < N) : OkBars N (nb + 1) (snoc nb g x) := by
  intro e he
  by_cases h : e < nb
  · rw [snoc_lt h]; exact hb e h
  · rw [snoc_ge h]; exact hx

theorem con_raises {N nb : Nat} {g : Nat → T_Bar} {x : T_Bar} (hb : OkBars N nb g) (hx : 0 ≤ x.1 ∧ x.1 < x.2.1 ∧ x.2.1 < N) (hN : N ≤ 1048576) (hnb : nb ≤ 1000000) :
    Con Try.prog 105 0 [] [.p (.int .i64 N), brL g nb, brA x] [] (.p (.bool (decide (((accI N 2 3 (snoc nb g x) (nb + 1)).length : Int) > ((accI N 2 3 g nb).length : Int))))) := by
  have h0 := con_planeRank hb hN (by omega)
  have h1 := con_planeRank (ok_snoc hb hx) hN (by omega)
  refine con_start Try.func105 rfl (by kernel_rfl) rfl (fun c hc => ?_)
  refine path_ok mixed Try.func105 hc (rRaise g nb N x _ _) ?_
  simp only [All]
  repeat' (first | exact trivial | with_reducible apply And.intro)
  all_goals (first | omega | rfl | (intros; first | assumption | exact True.intro | rfl | exact absurd (show false = true by assumption) Bool.false_ne_true | ((repeat' (first | assumption | apply anda | apply notf)); done)) | (exact h0) | (refine Con.arg_ext h1 ?_; simp only [brL, wkL, wk, wkP, beq_self_eq_true, Bool.and_self, if_true, ikEq, List.append_nil, List.cons_append, List.nil_append, All]; refine ⟨trivial, by omega, fun i hi => ?_, trivial⟩; simp only [Nat.zero_add]; by_cases h : i < nb <;> simp [h, cellP, tg, tru, snoc]))

noncomputable def impB (N nb : Nat) (g : Nat → T_Bar) (a b : Int) : Bool :=
  bif a == b then true else (((accI N 2 3 (snoc nb g (brX a b)) (nb + 1)).length : Nat) : Int) == (((accI N 2 3 g nb).length : Nat) : Int)

theorem brX_ok {N : Nat} {a b : Int} (ha : 0 ≤ a ∧ a < N) (hb : 0 ≤ b ∧ b < N) (hab : a ≠ b) : 0 ≤ (brX a b).1 ∧ (brX a b).1 < (brX a b).2.1 ∧ (brX a b).2.1 < N := by
  simp only [brX]
  by_cases h : b < a
  · rw [if_pos h, if_neg (by omega)]; omega
  · rw [if_neg h, if_pos (by omega)]; omega

theorem con_IsImplied_s {N nb : Nat} {g : Nat → T_Bar} (hg : isGraphF ((N : Int), (nb, g), ()) = true) (hok : OkBars N nb g) (hN : 1 ≤ N ∧ N ≤ 8) (hnb : nb ≤ 24) {a b : Int} (ha : 0 ≤ a ∧ a < N) (hb : 0 ≤ b ∧ b < N) :
    Con Try.prog 98 0 [] [grG g nb N, .p (.int .i64 a), .p (.int .i64 b)] [] (.p (.bool (impB N nb g a b))) := by
  have hsm : smS s_Graph ((N : Int), (nb, g), ()) := ⟨by simp [smS, smL], ⟨by show nb ≤ 1048576; omega, fun i hi => by simp [smS, smL]⟩, True.intro⟩
  have hcg := con_IsGraph_s ((N : Int), (nb, g), ()) hsm
  rw [hg] at hcg
  have hp := con_l2Put g nb N (brX a b) (by omega)
  have hr0 := con_l6Rank hok hN (by omega)
  have hr1 : a ≠ b → Con Try.prog 127 0 [] [grG (insR g nb (brX a b)).2 (insR g nb (brX a b)).1 N] [] (.p (.int .i64 ((accI N 2 3 (snoc nb g (brX a b)) (nb + 1)).length : Nat))) := by
    intro hab
    have hx := brX_ok ha hb hab
    have hm : ∀ y, (∃ s, s < (insR g nb (brX a b)).1 ∧ (insR g nb (brX a b)).2 s = y) ↔ ∃ s, s < nb + 1 ∧ snoc nb g (brX a b) s = y := fun y => by rw [insR_mem, snoc_mem]
    have hok' : OkBars N (insR g nb (brX a b)).1 (insR g nb (brX a b)).2 := by
      intro e he
      obtain ⟨s, h1, h2⟩ := (hm _).1 ⟨e, he, rfl⟩
      rw [← h2]
      exact ok_snoc hok hx s h1
    rw [← acc_same hok' hm]
    exact con_l6Rank hok' hN (by rw [insR_n]; omega)
  refine con_start Try.func98 rfl (by kernel_rfl) rfl (fun c hc => ?_)
  have hcond : (bif bif bif bif !true then true else decide (a < 0) then true else decide (b < 0) then true else decide (a ≥ (N : Int)) then true else decide (b ≥ (N : Int))) = false := by
    have h1 : ¬ a < 0 := by omega
    have h2 : ¬ b < 0 := by omega
    have h3 : ¬ (N : Int) ≤ a := by omega
    have h4 : ¬ (N : Int) ≤ b := by omega
    simp [h1, h2, h3, h4]
  refine path_ok mixed Try.func98 hc (rIs g (insR g nb (brX a b)).2 nb (insR g nb (brX a b)).1 N a b (accI N 2 3 (snoc nb g (brX a b)) (nb + 1)).length (accI N 2 3 g nb).length) ?_
  simp only [All]
  repeat' (first | exact trivial | with_reducible apply And.intro)
  all_goals (first | omega | rfl | (intros; first | assumption | exact True.intro | rfl | exact absurd (show false = true by assumption) Bool.false_ne_true | ((repeat' (first | assumption | apply anda | apply notf)); done)) | (exact hcg) | (exact hcond) | (exact hp) | (intro h; exact hr1 (by simpa using h)) | (intros; exact hr0) | (simp; done))

theorem goodB_in (N : Int) (g : Nat → T_Bar) : ∀ n, goodB N g n = true → ∀ e, e < n → badB N g e = false
  | 0, _, e, he => by omega
  | n + 1, h, e, he => by
    simp only [goodB, Bool.and_eq_true, Bool.not_eq_true'] at h
    by_cases h' : e = n
    · subst h'; exact h.2
    · exact goodB_in N g n h.1 e (by omega)

theorem graph_in {N nb : Nat} {g : Nat → T_Bar} (h : isGraphF ((N : Int), (nb, g), ()) = true) : (1 ≤ N ∧ N ≤ 8) ∧ nb ≤ 24 ∧ OkBars N nb g := by
  unfold isGraphF at h
  split at h
  case isFalse => cases h
  rename_i hc
  obtain ⟨h1, h2⟩ := hc
  simp only [inB, Bool.and_eq_true, decide_eq_true_eq] at h1
  refine ⟨by omega, h2, fun e he => ?_⟩
  have hb := goodB_in (N : Int) g nb h e he
  unfold badB at hb
  by_cases a1 : (g e).1 < 0
  · simp [a1] at hb
  by_cases a2 : (g e).1 ≥ (g e).2.1
  · simp [a2] at hb
  by_cases a3 : (g e).2.1 ≥ (N : Int)
  · simp [a3] at hb
  omega

end Go.Proofs.Ytgdbnnmogddkaaa.Mach
