/- What the law Gk needs, part 5 of 5: the abstract machine and the contracts of the functions. Conditions: as each theorem says. -/
import Derived.Test.YtgdbnnmogddkaaaGkP4
namespace Go.Proofs.Ytgdbnnmogddkaaa.Mach
open Go
set_option linter.unusedVariables false
set_option linter.unusedSimpArgs false
noncomputable def rkG (v : T_Graph) : Nat := (accI v.1.toNat 2 3 v.2.1.2 v.2.1.1).length
noncomputable def frGr (v : T_Graph) : Int := if isGraphF v = true then maxI v.1 - (rkG v : Int) else -1
noncomputable def mrG (v : T_Graph) : Bool := bif frGr v == 0 then (v.2.1.1 : Int) == (rkG v : Int) else false
theorem maxI_b {n : Int} (h : n ≤ 8) : 0 ≤ maxI n ∧ maxI n ≤ 13 := by
  unfold maxI; split <;> omega
theorem con_FreedomOf_s (v : T_Graph) (hs : smS s_Graph v) : Con Try.prog 165 0 [] [graphA v] [] (.p (.int .i64 (frGr v))) := by
  have hcg := con_IsGraph_s v hs
  cases hg : isGraphF v with
  | false =>
    rw [hg] at hcg
    rw [show frGr v = -1 by simp [frGr, hg]]
    refine con_start Try.func165 rfl (by kernel_rfl) rfl (fun c hc => ?_)
    refine path_ok mixed Try.func165 hc (eFy_s v) ?_
    simp only [All]
    repeat' (first | exact trivial | with_reducible apply And.intro)
    all_goals (first | exact aG _ | exact aP _ _ | exact aA _ _ | exact aE _ | omega | rfl | (intros; first | assumption | exact True.intro | rfl | exact absurd (show false = true by assumption) Bool.false_ne_true | ((repeat' (first | assumption | apply anda | apply notf)); done)) | (intros; exact hcg) | (simp; done))
  | true =>
    rw [hg] at hcg
    obtain ⟨N, nb, g, rfl⟩ := graph_cases v hg
    obtain ⟨hN, hnb, _⟩ := graph_in hg
    have hr := con_RankOf_s hg 2 3 (by omega) (by omega)
    have hl := accI_len N 2 3 g nb
    have hm := maxI_b (n := (N : Int)) (by omega)
    rw [show frGr ((N : Int), (nb, g), ()) = maxI N - ((accI N 2 3 g nb).length : Nat) by simp [frGr, hg, rkG]]
    refine con_start Try.func165 rfl (by kernel_rfl) rfl (fun c hc => ?_)
    refine path_ok mixed Try.func165 hc (eFz_s g nb N (accI N 2 3 g nb).length) ?_
    simp only [All]
    repeat' (first | exact trivial | with_reducible apply And.intro)
    all_goals (first | exact aG _ | exact aP _ _ | exact aA _ _ | exact aE _ | omega | rfl | (intros; first | assumption | exact True.intro | rfl | exact absurd (show false = true by assumption) Bool.false_ne_true | ((repeat' (first | assumption | apply anda | apply notf)); done)) | (intros; exact hcg) | (exact hr) | (simp only [if_true]; show _ ≤ maxI N - _; omega) | (simp only [if_true]; show maxI N - _ ≤ _; omega) | (simp; done) | (simp only [if_true]; rfl))
theorem con_FreedomOf_i (v : T_Graph) (hs : smS s_Graph v) : Con Try.prog 154 0 [] [graphA v] [] (.p (.int .i64 (frGr v))) := by
  have hcg := con_IsGraph_i v hs
  cases hg : isGraphF v with
  | false =>
    rw [hg] at hcg
    rw [show frGr v = -1 by simp [frGr, hg]]
    refine con_start Try.func154 rfl (by kernel_rfl) rfl (fun c hc => ?_)
    refine path_ok mixed Try.func154 hc (eFy_i v) ?_
    simp only [All]
    repeat' (first | exact trivial | with_reducible apply And.intro)
    all_goals (first | exact aG _ | exact aP _ _ | exact aA _ _ | exact aE _ | omega | rfl | (intros; first | assumption | exact True.intro | rfl | exact absurd (show false = true by assumption) Bool.false_ne_true | ((repeat' (first | assumption | apply anda | apply notf)); done)) | (intros; exact hcg) | (simp; done))
  | true =>
    rw [hg] at hcg
    obtain ⟨N, nb, g, rfl⟩ := graph_cases v hg
    obtain ⟨hN, hnb, _⟩ := graph_in hg
    have hr := con_RankOf_i hg 2 3 (by omega) (by omega)
    have hl := accI_len N 2 3 g nb
    have hm := maxI_b (n := (N : Int)) (by omega)
    rw [show frGr ((N : Int), (nb, g), ()) = maxI N - ((accI N 2 3 g nb).length : Nat) by simp [frGr, hg, rkG]]
    refine con_start Try.func154 rfl (by kernel_rfl) rfl (fun c hc => ?_)
    refine path_ok mixed Try.func154 hc (eFz_i g nb N (accI N 2 3 g nb).length) ?_
    simp only [All]
    repeat' (first | exact trivial | with_reducible apply And.intro)
    all_goals (first | exact aG _ | exact aP _ _ | exact aA _ _ | exact aE _ | omega | rfl | (intros; first | assumption | exact True.intro | rfl | exact absurd (show false = true by assumption) Bool.false_ne_true | ((repeat' (first | assumption | apply anda | apply notf)); done)) | (intros; exact hcg) | (exact hr) | (simp only [if_true]; show _ ≤ maxI N - _; omega) | (simp only [if_true]; show maxI N - _ ≤ _; omega) | (simp; done) | (simp only [if_true]; rfl))
theorem con_IsRigid_s (v : T_Graph) (hs : smS s_Graph v) : Con Try.prog 152 0 [] [graphA v] [] (.p (.bool (frGr v == 0))) := by
  have hf := con_FreedomOf_s v hs
  refine con_start Try.func152 rfl (by kernel_rfl) rfl (fun c hc => ?_)
  refine path_ok mixed Try.func152 hc (eR_s v _) ?_
  simp only [All]
  repeat' (first | exact trivial | with_reducible apply And.intro)
  all_goals (first | exact aG _ | exact aP _ _ | exact aA _ _ | exact aE _ | omega | rfl | (intros; first | assumption | exact True.intro | rfl | exact absurd (show false = true by assumption) Bool.false_ne_true | ((repeat' (first | assumption | apply anda | apply notf)); done)) | (exact hf) | (simp; done))
theorem con_IsRigid_i (v : T_Graph) (hs : smS s_Graph v) : Con Try.prog 135 0 [] [graphA v] [] (.p (.bool (frGr v == 0))) := by
  have hf := con_FreedomOf_i v hs
  refine con_start Try.func135 rfl (by kernel_rfl) rfl (fun c hc => ?_)
  refine path_ok mixed Try.func135 hc (eR_i v _) ?_
  simp only [All]
  repeat' (first | exact trivial | with_reducible apply And.intro)
  all_goals (first | exact aG _ | exact aP _ _ | exact aA _ _ | exact aE _ | omega | rfl | (intros; first | assumption | exact True.intro | rfl | exact absurd (show false = true by assumption) Bool.false_ne_true | ((repeat' (first | assumption | apply anda | apply notf)); done)) | (exact hf) | (simp; done))
theorem frG_graph {v : T_Graph} (h : (frGr v == 0) = true) : isGraphF v = true := by
  cases hg : isGraphF v with
  | true => rfl
  | false => simp [frGr, hg] at h
theorem con_IsMin_s (v : T_Graph) (hs : smS s_Graph v) : Con Try.prog 134 0 [] [graphA v] [] (.p (.bool (mrG v))) := by
  have hf := con_IsRigid_s v hs
  have hr : (frGr v == 0) = true → Con Try.prog 153 0 [] [graphA v, .p (.int .i64 2), .p (.int .i64 3)] [] (.p (.int .i64 (rkG v : Nat))) := by
    intro h
    have hg := frG_graph h
    obtain ⟨N, nb, g, rfl⟩ := graph_cases v hg
    exact con_RankOf_s hg 2 3 (by omega) (by omega)
  refine con_start Try.func134 rfl (by kernel_rfl) rfl (fun c hc => ?_)
  refine path_ok mixed Try.func134 hc (eM_s v (frGr v == 0) (rkG v)) ?_
  simp only [All]
  repeat' (first | exact trivial | with_reducible apply And.intro)
  all_goals (first | exact aG _ | exact aP _ _ | exact aA _ _ | exact aE _ | omega | rfl | (intros; first | assumption | exact True.intro | rfl | exact absurd (show false = true by assumption) Bool.false_ne_true | ((repeat' (first | assumption | apply anda | apply notf)); done)) | (exact hf) | (intro h; exact hr h) | (intro h; exact h) | (simp; done) | rfl)
theorem con_IsMin_i (v : T_Graph) (hs : smS s_Graph v) : Con Try.prog 125 0 [] [graphA v] [] (.p (.bool (mrG v))) := by
  have hf := con_IsRigid_i v hs
  have hr : (frGr v == 0) = true → Con Try.prog 136 0 [] [graphA v, .p (.int .i64 2), .p (.int .i64 3)] [] (.p (.int .i64 (rkG v : Nat))) := by
    intro h
    have hg := frG_graph h
    obtain ⟨N, nb, g, rfl⟩ := graph_cases v hg
    exact con_RankOf_i hg 2 3 (by omega) (by omega)
  refine con_start Try.func125 rfl (by kernel_rfl) rfl (fun c hc => ?_)
  rw [show mrG v = (bif frGr v == 0 then (rkG v : Int) == (v.2.1.1 : Int) else false) by unfold mrG; rw [show ((v.2.1.1 : Int) == (rkG v : Int)) = ((rkG v : Int) == (v.2.1.1 : Int)) from by rw [Bool.eq_iff_iff]; simp only [beq_iff_eq]; exact eq_comm]]
  refine path_ok mixed Try.func125 hc (eM_i v (frGr v == 0) (rkG v)) ?_
  simp only [All]
  repeat' (first | exact trivial | with_reducible apply And.intro)
  all_goals (first | exact aG _ | exact aP _ _ | exact aA _ _ | exact aE _ | omega | rfl | (intros; first | assumption | exact True.intro | rfl | exact absurd (show false = true by assumption) Bool.false_ne_true | ((repeat' (first | assumption | apply anda | apply notf)); done)) | (exact hf) | (intro h; exact hr h) | (intro h; exact h) | (simp; done) | rfl)
def zB : T_BarS := (0, fun _ => (0, 0, ()))
def cinF (a : Nat) : Nat → Nat → T_BarS → T_BarS
  | _, 0, x => x
  | b, d + 1, x => cinF a (b + 1) d (x.1 + 1, snoc x.1 x.2 ((a : Int), (b : Int), ()))
def cgF (n : Nat) : Nat → Nat → T_BarS → T_BarS
  | _, 0, x => x
  | a, d + 1, x => cgF n (a + 1) d (cinF a (a + 1) (n - (a + 1)) x)
def cgD (n : Nat) : T_BarS := cgF n 0 n zB
theorem cinF_n (a : Nat) : ∀ d b x, (cinF a b d x).1 = x.1 + d := by
  intro d
  induction d with
  | zero => intro b x; rfl
  | succ d ih => intro b x; rw [cinF, ih]; simp only; omega
theorem con_Complete_s (n : Nat) (h1 : 1 ≤ n) (h7 : n ≤ 7) : Con Try.prog 121 0 [] [.p (.int .i64 n)] [(0, brOb (cgD n).1 (cgD n).2)] (.agg [.p (.int .i64 n), .ar 2 0 0 (cgD n).1]) := by
  have hin := con_l1In n 1 7
  rw [show inB (n : Int) 1 7 = true by simp [inB]; omega] at hin
  refine con_start Try.func121 rfl (by kernel_rfl) rfl (fun c hc => ?_)
  have li : ∀ a, a < n → ∀ d b cc h, b + d = n → cc + d ≤ 8 * a + 8 → Run Try.prog c 121 [.code (cAt (bodyOf Try.f121) [1, 1, 1, 0, 1, 0, 0]), .inLoop (cAt (bodyOf Try.f121) [1, 1, 1, 0, 1, 0, 0]), .inBlock 0, .code (cAt (bodyOf Try.f121) [1, 1, 1, 1])] (SGs n (a + 1) (cinF a b d (cc, h)).1 (cinF a b d (cc, h)).2) (Post c [(0, brOb (cgD n).1 (cgD n).2)] (.agg [.p (.int .i64 n), .ar 2 0 0 (cgD n).1])) →
      Run Try.prog c 121 [.code (cAt (bodyOf Try.f121) [1, 1, 1, 0, 1, 0, 0, 1, 0, 0, 1, 0, 0]), .inLoop (cAt (bodyOf Try.f121) [1, 1, 1, 0, 1, 0, 0, 1, 0, 0, 1, 0, 0]), .inBlock 2, .inBlock 1, .code (cAt (bodyOf Try.f121) [1, 1, 1, 0, 1, 0, 0, 1, 1]), .inLoop (cAt (bodyOf Try.f121) [1, 1, 1, 0, 1, 0, 0]), .inBlock 0, .code (cAt (bodyOf Try.f121) [1, 1, 1, 1])] (SGs1 n a b cc h) (Post c [(0, brOb (cgD n).1 (cgD n).2)] (.agg [.p (.int .i64 n), .ar 2 0 0 (cgD n).1])) := by
    intro a ha d
    induction d with
    | zero =>
      intro b cc h hb hcc hk
      have hd : decide ((b : Int) < (n : Int)) = false := by simp; omega
      refine piece_ok mixed hc (eGs3 n a b cc h) ?_ hk
      simp only [All]
      repeat' (first | exact trivial | with_reducible apply And.intro)
      all_goals (first | exact aG _ | exact aP _ _ | exact aA _ _ | exact aE _ | omega | rfl | (intros; first | assumption | exact True.intro | rfl | exact absurd (show false = true by assumption) Bool.false_ne_true | ((repeat' (first | assumption | apply anda | apply notf)); done)) | (exact hd) | (intro j hj; simp [All, aEt]))
    | succ d ih =>
      intro b cc h hb hcc hk
      have hd : decide ((b : Int) < (n : Int)) = true := by simp; omega
      refine piece_ok mixed hc (eGs2 n a b cc h) ?_ (ih (b + 1) (cc + 1) _ (by omega) (by omega) hk)
      simp only [All]
      repeat' (first | exact trivial | with_reducible apply And.intro)
      all_goals (first | exact aG _ | exact aP _ _ | exact aA _ _ | exact aE _ | omega | rfl | (intros; first | assumption | exact True.intro | rfl | exact absurd (show false = true by assumption) Bool.false_ne_true | ((repeat' (first | assumption | apply anda | apply notf)); done)) | (exact hd) | (intro j hj; by_cases h' : j < cc <;> simp [h', snoc, cvtL, cvt, tg, tru, All]))
  have lo : ∀ d a cc h, a + d = n → cc ≤ 8 * a → cgF n a d (cc, h) = cgD n → Run Try.prog c 121 [.code (cAt (bodyOf Try.f121) [1, 1, 1, 0, 1, 0, 0]), .inLoop (cAt (bodyOf Try.f121) [1, 1, 1, 0, 1, 0, 0]), .inBlock 0, .code (cAt (bodyOf Try.f121) [1, 1, 1, 1])] (SGs n a cc h) (Post c [(0, brOb (cgD n).1 (cgD n).2)] (.agg [.p (.int .i64 n), .ar 2 0 0 (cgD n).1])) := by
    intro d
    induction d with
    | zero =>
      intro a cc h ha hcc he
      have hd : decide ((a : Int) < (n : Int)) = false := by simp; omega
      rw [← he]
      refine path_ok mixed Try.func121 hc (eGse n a cc h) ?_
      simp only [All]
      repeat' (first | exact trivial | with_reducible apply And.intro)
      all_goals (first | exact aG _ | exact aP _ _ | exact aA _ _ | exact aE _ | omega | rfl | (intros; first | assumption | exact True.intro | rfl | exact absurd (show false = true by assumption) Bool.false_ne_true | ((repeat' (first | assumption | apply anda | apply notf)); done)) | (exact hd) | (intro j hj; simp [All, aEt]))
    | succ d ih =>
      intro a cc h ha hcc he
      have hd : decide ((a : Int) < (n : Int)) = true := by simp; omega
      have hn := cinF_n a (n - (a + 1)) (a + 1) (cc, h)
      refine piece_ok mixed hc (eGs1 n a cc h) ?_ (li a (by omega) (n - (a + 1)) (a + 1) cc h (by omega) (by omega) (ih (a + 1) _ _ (by omega) (by rw [hn]; simp only; omega) he))
      simp only [All]
      repeat' (first | exact trivial | with_reducible apply And.intro)
      all_goals (first | exact aG _ | exact aP _ _ | exact aA _ _ | exact aE _ | omega | rfl | (intros; first | assumption | exact True.intro | rfl | exact absurd (show false = true by assumption) Bool.false_ne_true | ((repeat' (first | assumption | apply anda | apply notf)); done)) | (exact hd) | (intro j hj; simp [All, aEt]))
  refine piece_ok mixed hc (eGs0 n) ?_ (lo n 0 0 _ (by omega) (by omega) rfl)
  simp only [All]
  repeat' (first | exact trivial | with_reducible apply And.intro)
  all_goals (first | exact aG _ | exact aP _ _ | exact aA _ _ | exact aE _ | omega | rfl | (intros; first | assumption | exact True.intro | rfl | exact absurd (show false = true by assumption) Bool.false_ne_true | ((repeat' (first | assumption | apply anda | apply notf)); done)) | (exact hin) | rfl | (simp; done) | (intro j hj; simp [All, aEt]))
theorem con_Complete_i (n : Nat) (h1 : 1 ≤ n) (h7 : n ≤ 7) : Con Try.prog 122 0 [] [.p (.int .i64 n)] [(0, brOb (cgD n).1 (cgD n).2)] (.agg [.p (.int .i64 n), .ar 2 0 0 (cgD n).1]) := by
  have hin := con_within n 1 7
  rw [show inB (n : Int) 1 7 = true by simp [inB]; omega] at hin
  refine con_start Try.func122 rfl (by kernel_rfl) rfl (fun c hc => ?_)
  have li : ∀ a, a < n → ∀ d b cc h, b + d = n → cc + d ≤ 8 * a + 8 → Run Try.prog c 122 [.code (cAt (bodyOf Try.f122) [1, 1, 1, 0, 1, 0, 0]), .inLoop (cAt (bodyOf Try.f122) [1, 1, 1, 0, 1, 0, 0]), .inBlock 0, .code (cAt (bodyOf Try.f122) [1, 1, 1, 1])] (SGi n (a + 1) (cinF a b d (cc, h)).1 (cinF a b d (cc, h)).2) (Post c [(0, brOb (cgD n).1 (cgD n).2)] (.agg [.p (.int .i64 n), .ar 2 0 0 (cgD n).1])) →
      Run Try.prog c 122 [.code (cAt (bodyOf Try.f122) [1, 1, 1, 0, 1, 0, 0, 1, 1, 0, 0, 1, 1, 0, 0]), .inLoop (cAt (bodyOf Try.f122) [1, 1, 1, 0, 1, 0, 0, 1, 1, 0, 0, 1, 1, 0, 0]), .inBlock 2, .inBlock 1, .code (cAt (bodyOf Try.f122) [1, 1, 1, 0, 1, 0, 0, 1, 1, 1]), .inLoop (cAt (bodyOf Try.f122) [1, 1, 1, 0, 1, 0, 0]), .inBlock 0, .code (cAt (bodyOf Try.f122) [1, 1, 1, 1])] (SGi1 n a b cc h) (Post c [(0, brOb (cgD n).1 (cgD n).2)] (.agg [.p (.int .i64 n), .ar 2 0 0 (cgD n).1])) := by
    intro a ha d
    induction d with
    | zero =>
      intro b cc h hb hcc hk
      have hd : decide ((b : Int) < (n : Int)) = false := by simp; omega
      refine piece_ok mixed hc (eGi3 n a b cc h) ?_ hk
      simp only [All]
      repeat' (first | exact trivial | with_reducible apply And.intro)
      all_goals (first | exact aG _ | exact aP _ _ | exact aA _ _ | exact aE _ | omega | rfl | (intros; first | assumption | exact True.intro | rfl | exact absurd (show false = true by assumption) Bool.false_ne_true | ((repeat' (first | assumption | apply anda | apply notf)); done)) | (exact hd) | (intro j hj; simp [All, aEt]))
    | succ d ih =>
      intro b cc h hb hcc hk
      have hd : decide ((b : Int) < (n : Int)) = true := by simp; omega
      refine piece_ok mixed hc (eGi2 n a b cc h) ?_ (ih (b + 1) (cc + 1) _ (by omega) (by omega) hk)
      simp only [All]
      repeat' (first | exact trivial | with_reducible apply And.intro)
      all_goals (first | exact aG _ | exact aP _ _ | exact aA _ _ | exact aE _ | omega | rfl | (intros; first | assumption | exact True.intro | rfl | exact absurd (show false = true by assumption) Bool.false_ne_true | ((repeat' (first | assumption | apply anda | apply notf)); done)) | (exact hd) | (intro j hj; by_cases h' : j < cc <;> simp [h', snoc, cvtL, cvt, tg, tru, All]))
  have lo : ∀ d a cc h, a + d = n → cc ≤ 8 * a → cgF n a d (cc, h) = cgD n → Run Try.prog c 122 [.code (cAt (bodyOf Try.f122) [1, 1, 1, 0, 1, 0, 0]), .inLoop (cAt (bodyOf Try.f122) [1, 1, 1, 0, 1, 0, 0]), .inBlock 0, .code (cAt (bodyOf Try.f122) [1, 1, 1, 1])] (SGi n a cc h) (Post c [(0, brOb (cgD n).1 (cgD n).2)] (.agg [.p (.int .i64 n), .ar 2 0 0 (cgD n).1])) := by
    intro d
    induction d with
    | zero =>
      intro a cc h ha hcc he
      have hd : decide ((a : Int) < (n : Int)) = false := by simp; omega
      rw [← he]
      refine path_ok mixed Try.func122 hc (eGie n a cc h) ?_
      simp only [All]
      repeat' (first | exact trivial | with_reducible apply And.intro)
      all_goals (first | exact aG _ | exact aP _ _ | exact aA _ _ | exact aE _ | omega | rfl | (intros; first | assumption | exact True.intro | rfl | exact absurd (show false = true by assumption) Bool.false_ne_true | ((repeat' (first | assumption | apply anda | apply notf)); done)) | (exact hd) | (intro j hj; simp [All, aEt]))
    | succ d ih =>
      intro a cc h ha hcc he
      have hd : decide ((a : Int) < (n : Int)) = true := by simp; omega
      have hn := cinF_n a (n - (a + 1)) (a + 1) (cc, h)
      refine piece_ok mixed hc (eGi1 n a cc h) ?_ (li a (by omega) (n - (a + 1)) (a + 1) cc h (by omega) (by omega) (ih (a + 1) _ _ (by omega) (by rw [hn]; simp only; omega) he))
      simp only [All]
      repeat' (first | exact trivial | with_reducible apply And.intro)
      all_goals (first | exact aG _ | exact aP _ _ | exact aA _ _ | exact aE _ | omega | rfl | (intros; first | assumption | exact True.intro | rfl | exact absurd (show false = true by assumption) Bool.false_ne_true | ((repeat' (first | assumption | apply anda | apply notf)); done)) | (exact hd) | (intro j hj; simp [All, aEt]))
  refine piece_ok mixed hc (eGi0 n) ?_ (lo n 0 0 _ (by omega) (by omega) rfl)
  simp only [All]
  repeat' (first | exact trivial | with_reducible apply And.intro)
  all_goals (first | exact aG _ | exact aP _ _ | exact aA _ _ | exact aE _ | omega | rfl | (intros; first | assumption | exact True.intro | rfl | exact absurd (show false = true by assumption) Bool.false_ne_true | ((repeat' (first | assumption | apply anda | apply notf)); done)) | (exact hin) | rfl | (simp; done) | (intro j hj; simp [All, aEt]))
theorem cgD_le (n : Nat) (h : n ≤ 5) : (cgD n).1 ≤ 10 := by
  rcases n with _ | _ | _ | _ | _ | _ | n
  · decide
  · decide
  · decide
  · decide
  · decide
  · decide
  · omega
def sF (w : Int) : Nat → Nat → T_IntS → T_IntS
  | _, 0, x => x
  | i, d + 1, x => sF w (i + 1) d (bif btE w i then (x.1 + 1, snocI x.1 x.2 i) else x)
def obF (S : T_IntS) (A : Nat → T_Bar) : Nat → Nat → T_BarS → T_BarS
  | _, 0, x => x
  | i, d + 1, x => obF S A (i + 1) d (bif hasI S.2 i S.1 then (x.1 + 1, snoc x.1 x.2 (A i)) else x)
def bF (w : Int) (A : Nat → T_Bar) : Nat → Nat → T_BarS → T_BarS
  | _, 0, x => x
  | i, d + 1, x => bF w A (i + 1) d (bif btE w i then (x.1 + 1, snoc x.1 x.2 (A i)) else x)
theorem has_snocI (f : Nat → Int) (p y : Int) (c : Nat) : hasI (snocI c f p) y (c + 1) = (hasI f y c || p == y) := by
  have h1 : ∀ k, k ≤ c → hasI (snocI c f p) y k = hasI f y k := by
    intro k
    induction k with
    | zero => intro _; rfl
    | succ k ih => intro hk; rw [hasI, hasI, ih (by omega)]; simp [snocI, show k < c by omega]
  rw [hasI, h1 c (Nat.le_refl c)]; simp [snocI]
theorem has_sF (w : Int) : ∀ d i x (y : Nat), hasI (sF w i d x).2 y (sF w i d x).1 = (hasI x.2 y x.1 || (decide (i ≤ y ∧ y < i + d) && btE w y)) := by
  intro d
  induction d with
  | zero => intro i x y; simp only [sF]; rw [show decide (i ≤ y ∧ y < i + 0) = false from decide_eq_false (by omega)]; simp
  | succ d ih =>
    intro i x y
    rw [sF, ih]
    by_cases hy : y = i
    · subst hy
      rw [show decide (y + 1 ≤ y ∧ y < y + 1 + d) = false from decide_eq_false (by omega), show decide (y ≤ y ∧ y < y + (d + 1)) = true from decide_eq_true (by omega)]
      cases hb : btE w y with
      | true => simp only [cond_true]; rw [has_snocI]; simp
      | false => simp
    · rw [show decide (i + 1 ≤ y ∧ y < i + 1 + d) = decide (i ≤ y ∧ y < i + (d + 1)) by rw [decide_eq_decide]; omega]
      cases hb : btE w i with
      | true =>
        simp only [cond_true]; rw [has_snocI, show (((i : Nat) : Int) == (y : Int)) = false by simp; omega]; simp
      | false => simp
theorem sF_n (w : Int) (A : Nat → T_Bar) : ∀ d i x y, x.1 = y.1 → (bF w A i d x).1 = (sF w i d y).1 := by
  intro d
  induction d with
  | zero => intro i x y h; exact h
  | succ d ih =>
    intro i x y h
    rw [bF, sF]
    exact ih _ _ _ (by cases btE w i <;> simp [h])
theorem sF_le (w : Int) : ∀ d i x, (sF w i d x).1 ≤ x.1 + d := by
  intro d
  induction d with
  | zero => intro i x; exact Nat.le_refl _
  | succ d ih =>
    intro i x
    rw [sF]
    have := ih (i + 1) (bif btE w i then (x.1 + 1, snocI x.1 x.2 i) else x)
    cases h : btE w i <;> simp only [h, cond_true, cond_false] at this ⊢ <;> omega
theorem obF_bF (w : Int) (S : T_IntS) (A : Nat → T_Bar) : ∀ (d i : Nat) (x : T_BarS), (∀ j : Nat, i ≤ j → j < i + d → hasI S.2 (j : Int) S.1 = btE w j) → obF S A i d x = bF w A i d x := by
  intro d
  induction d with
  | zero => intro i x h; rfl
  | succ d ih =>
    intro i x h
    rw [obF, bF, h i (by omega) (by omega)]
    exact ih _ _ (fun j h1 h2 => h j (by omega) (by omega))
theorem con_setOfE (w M : Nat) (hM : M ≤ 100) : Con Try.prog 123 0 [] [.p (.int .i64 w), .p (.int .i64 M)] [(0, iOb (sF w 0 M (0, fun _ => 0)).1 (sF w 0 M (0, fun _ => 0)).2)] (.ar 1 0 0 (sF w 0 M (0, fun _ => 0)).1) := by
  refine con_start Try.func123 rfl (by kernel_rfl) rfl (fun c hc => ?_)
  generalize hR : sF w 0 M (0, fun _ => 0) = R
  have lp : ∀ d i cc f, i + d = M → cc ≤ i → sF w i d (cc, f) = R → Run Try.prog c 123 [.code (cAt (bodyOf Try.f123) [1, 1, 0, 1, 0, 0]), .inLoop (cAt (bodyOf Try.f123) [1, 1, 0, 1, 0, 0]), .inBlock 0, .code (cAt (bodyOf Try.f123) [1, 1, 1])] (SSo w M i cc f) (Post c [(0, iOb R.1 R.2)] (.ar 1 0 0 R.1)) := by
    intro d
    induction d with
    | zero =>
      intro i cc f hi hcc he
      have hd : decide ((i : Int) < (M : Int)) = false := by simp; omega
      rw [← he]
      refine path_ok mixed Try.func123 hc (eSe w M i cc f) ?_
      simp only [All]
      repeat' (first | exact trivial | with_reducible apply And.intro)
      all_goals (first | exact aG _ | exact aP _ _ | exact aA _ _ | exact aE _ | omega | rfl | (intros; first | assumption | exact True.intro | rfl | exact absurd (show false = true by assumption) Bool.false_ne_true | ((repeat' (first | assumption | apply anda | apply notf)); done)) | (exact hd) | (intro j hj; simp [All, aEt]))
    | succ d ih =>
      intro i cc f hi hcc he
      have hd : decide ((i : Int) < (M : Int)) = true := by simp; omega
      rw [sF] at he
      cases hb : btE w i with
      | true =>
        rw [hb] at he
        have hb' : (bitI BinOp.and IntKind.i64 (shrI IntKind.i64 (w : Int) (i : Int)) 1 == 1) = true := hb
        refine piece_ok mixed hc (eSt w M i cc f) ?_ (ih (i + 1) (cc + 1) _ (by omega) (by omega) he)
        simp only [All]
        repeat' (first | exact trivial | with_reducible apply And.intro)
        all_goals (first | exact aG _ | exact aP _ _ | exact aA _ _ | exact aE _ | omega | rfl | (intros; first | assumption | exact True.intro | rfl | exact absurd (show false = true by assumption) Bool.false_ne_true | ((repeat' (first | assumption | apply anda | apply notf)); done)) | (exact hd) | (exact hb') | (intro j hj; by_cases h' : j < cc <;> simp [h', snocI, cvtL, cvt, tg, tru, All]))
      | false =>
        rw [hb] at he
        have hb' : (bitI BinOp.and IntKind.i64 (shrI IntKind.i64 (w : Int) (i : Int)) 1 == 1) = false := hb
        refine piece_ok mixed hc (eSf w M i cc f) ?_ (ih (i + 1) cc _ (by omega) (by omega) he)
        simp only [All]
        repeat' (first | exact trivial | with_reducible apply And.intro)
        all_goals (first | exact aG _ | exact aP _ _ | exact aA _ _ | exact aE _ | omega | rfl | (intros; first | assumption | exact True.intro | rfl | exact absurd (show false = true by assumption) Bool.false_ne_true | ((repeat' (first | assumption | apply anda | apply notf)); done)) | (exact hd) | (exact hb') | (intro j hj; simp [All, aEt]))
  refine piece_ok mixed hc (eSz w M) ?_ (lp M 0 0 _ (by omega) (by omega) hR)
  simp only [All]
  repeat' (first | exact trivial | with_reducible apply And.intro)
  all_goals (first | exact aG _ | exact aP _ _ | exact aA _ _ | exact aE _ | omega | rfl | (intros; first | assumption | exact True.intro | rfl | exact absurd (show false = true by assumption) Bool.false_ne_true | ((repeat' (first | assumption | apply anda | apply notf)); done)) | (intro j hj; simp [All, aEt]))
theorem con_OnlyBars (n : Int) (M : Nat) (A : Nat → T_Bar) (S : T_IntS) (hM : M ≤ 100) (hS : S.1 ≤ 1000) :
    Con Try.prog 124 0 [] [gaI n M A, inL S] [(0, brOb (obF S A 0 M zB).1 (obF S A 0 M zB).2)] (.agg [.p (.int .i64 n), .ar 2 0 0 (obF S A 0 M zB).1]) := by
  refine con_start Try.func124 rfl (by kernel_rfl) rfl (fun c hc => ?_)
  generalize hR : obF S A 0 M zB = R
  have lp : ∀ d i cc f, i + d = M → cc ≤ i → obF S A i d (cc, f) = R → Run Try.prog c 124 [.code (cAt (bodyOf Try.f124) [1, 1, 0, 1, 0, 0]), .inLoop (cAt (bodyOf Try.f124) [1, 1, 0, 1, 0, 0]), .inBlock 0, .code (cAt (bodyOf Try.f124) [1, 1, 1])] (SOb n M A S i cc f) (Post c [(0, brOb R.1 R.2)] (.agg [.p (.int .i64 n), .ar 2 0 0 R.1])) := by
    intro d
    induction d with
    | zero =>
      intro i cc f hi hcc he
      have hd : decide ((i : Int) < (M : Int)) = false := by simp; omega
      rw [← he]
      refine path_ok mixed Try.func124 hc (eOe n M A S i cc f) ?_
      simp only [All]
      repeat' (first | exact trivial | with_reducible apply And.intro)
      all_goals (first | exact aG _ | exact aP _ _ | exact aA _ _ | exact aE _ | omega | rfl | (intros; first | assumption | exact True.intro | rfl | exact absurd (show false = true by assumption) Bool.false_ne_true | ((repeat' (first | assumption | apply anda | apply notf)); done)) | (exact hd) | (intro j hj; simp [All, aEt]))
    | succ d ih =>
      intro i cc f hi hcc he
      have hd : decide ((i : Int) < (M : Int)) = true := by simp; omega
      have hh := con_Contains S (i : Int) (by omega)
      rw [obF] at he
      cases hb : hasI S.2 i S.1 with
      | true =>
        rw [hb] at he hh
        refine piece_ok mixed hc (eOt n M A S i cc f) ?_ (ih (i + 1) (cc + 1) _ (by omega) (by omega) he)
        simp only [All]
        repeat' (first | exact trivial | with_reducible apply And.intro)
        all_goals (first | exact aG _ | exact aP _ _ | exact aA _ _ | exact aE _ | omega | rfl | (intros; first | assumption | exact True.intro | rfl | exact absurd (show false = true by assumption) Bool.false_ne_true | ((repeat' (first | assumption | apply anda | apply notf)); done)) | (exact hd) | (exact hh) | (intro j hj; by_cases h' : j < cc <;> simp [h', snoc, cvtL, cvt, tg, tru, All]))
      | false =>
        rw [hb] at he hh
        refine piece_ok mixed hc (eOf n M A S i cc f) ?_ (ih (i + 1) cc _ (by omega) (by omega) he)
        simp only [All]
        repeat' (first | exact trivial | with_reducible apply And.intro)
        all_goals (first | exact aG _ | exact aP _ _ | exact aA _ _ | exact aE _ | omega | rfl | (intros; first | assumption | exact True.intro | rfl | exact absurd (show false = true by assumption) Bool.false_ne_true | ((repeat' (first | assumption | apply anda | apply notf)); done)) | (exact hd) | (exact hh) | (intro j hj; simp [All, aEt]))
  refine piece_ok mixed hc (eOz n M A S) ?_ (lp M 0 0 _ (by omega) (by omega) hR)
  simp only [All]
  repeat' (first | exact trivial | with_reducible apply And.intro)
  all_goals (first | exact aG _ | exact aP _ _ | exact aA _ _ | exact aE _ | omega | rfl | (intros; first | assumption | exact True.intro | rfl | exact absurd (show false = true by assumption) Bool.false_ne_true | ((repeat' (first | assumption | apply anda | apply notf)); done)) | (simp; done) | (intro j hj; simp [All, aEt]))
end Go.Proofs.Ytgdbnnmogddkaaa.Mach
namespace Go.Proofs.Ytgdbnnmogddkaaa.Mach
open Go
set_option linter.unusedVariables false
set_option linter.unusedSimpArgs false
noncomputable def gF (n : Nat) (M : Nat) (A : Nat → T_Bar) : Nat → Nat → Nat × (Nat → T_BarS) → Nat × (Nat → T_BarS)
  | _, 0, x => x
  | w, d + 1, x => gF n M A (w + 1) d (bif (bif ((bF w A 0 M zB).1 : Int) == maxI n then mrG ((n : Int), bF w A 0 M zB, ()) else false) then (x.1 + 1, snocB x.1 x.2 (bF w A 0 M zB)) else x)
def zG : Nat × (Nat → T_BarS) := (0, fun _ => (0, fun _ => (0, 0, ())))
noncomputable def gD (n : Nat) : Nat × (Nat → T_BarS) := gF n (cgD n).1 (cgD n).2 0 (2 ^ (cgD n).1) zG
noncomputable def rgG (n : Int) : Nat × (Nat → T_BarS) := bif inB n 1 5 then gD n.toNat else zG
theorem shl_pow (M : Nat) (h : M ≤ 10) : shlI .i64 1 (M : Int) = ((2 ^ M : Nat) : Int) := by
  rcases M with _ | _ | _ | _ | _ | _ | _ | _ | _ | _ | _ | M
  all_goals first | rfl | omega
theorem pow_le (M : Nat) (h : M ≤ 10) : 2 ^ M ≤ 1024 := Nat.pow_le_pow_right (by omega) h
theorem sm_bF (n : Nat) (w : Int) (A : Nat → T_Bar) (M : Nat) (hM : M ≤ 10) : smS s_Graph ((n : Int), bF w A 0 M zB, ()) := by
  have h1 := sF_n w A M 0 zB (0, fun _ => 0) rfl
  have h2 := sF_le w M 0 (0, fun _ => 0)
  simp only at h2
  exact ⟨trivial, ⟨by show (bF w A 0 M zB).1 ≤ 1048576; omega, fun i hi => by simp [smS, smL]⟩, trivial⟩
theorem con_Choose (n : Nat) (tg' : Int) (M : Nat) (A : Nat → T_Bar) (hM : M ≤ 10) (ht : tg' = maxI n) :
    Con Try.prog 120 0 [] [brL A M, .p (.int .i64 n), .p (.int .i64 tg')] [(0, gsOb n (gF n M A 0 (2 ^ M) zG).1 (gF n M A 0 (2 ^ M) zG).2)] (.ar 2 0 0 (gF n M A 0 (2 ^ M) zG).1) := by
  refine con_start Try.func120 rfl (by kernel_rfl) rfl (fun c hc => ?_)
  have hsh := shl_pow M hM
  have hpw := pow_le M hM
  generalize hR : gF n M A 0 (2 ^ M) zG = R
  have li : ∀ w : Nat, ∀ d (i : Nat) k h cc G, i + d = M → k ≤ i → cc ≤ w → w < 2 ^ M → bF w A i d (k, h) = bF w A 0 M zB →
      (∀ cc' G', (bif (bif ((bF w A 0 M zB).1 : Int) == maxI n then mrG ((n : Int), bF w A 0 M zB, ()) else false) then (cc + 1, snocB cc G (bF w A 0 M zB)) else (cc, G)) = (cc', G') →
        Run Try.prog c 120 [.code (cAt (bodyOf Try.f120) [1, 1, 0, 1, 0, 0]), .inLoop (cAt (bodyOf Try.f120) [1, 1, 0, 1, 0, 0]), .inBlock 0, .code (cAt (bodyOf Try.f120) [1, 1, 1])] (SRgs n tg' M A (w + 1) cc' G') (Post c [(0, gsOb n R.1 R.2)] (.ar 2 0 0 R.1))) →
      Run Try.prog c 120 [.code (cAt (bodyOf Try.f120) [1, 1, 0, 1, 0, 0, 1, 0, 0, 1, 0, 1, 0, 0]), .inLoop (cAt (bodyOf Try.f120) [1, 1, 0, 1, 0, 0, 1, 0, 0, 1, 0, 1, 0, 0]), .inBlock 2, .code (cAt (bodyOf Try.f120) [1, 1, 0, 1, 0, 0, 1, 0, 0, 1, 1]), .inBlock 1, .code (cAt (bodyOf Try.f120) [1, 1, 0, 1, 0, 0, 1, 1]), .inLoop (cAt (bodyOf Try.f120) [1, 1, 0, 1, 0, 0]), .inBlock 0, .code (cAt (bodyOf Try.f120) [1, 1, 1])] (SRs1 n tg' M A w cc G i k h) (Post c [(0, gsOb n R.1 R.2)] (.ar 2 0 0 R.1)) := by
    intro w d
    induction d with
    | zero =>
      intro i k h cc G hi hk hcc hw he hn
      have hd : decide ((i : Int) < (M : Int)) = false := by simp; omega
      rw [bF] at he
      have hmr := con_IsMin_s ((n : Int), bF w A 0 M zB, ()) (sm_bF n w A M hM)
      rw [← he] at hmr hn
      cases hb : (bif ((k : Int) == maxI n) then mrG ((n : Int), (k, h), ()) else false) with
      | true =>
        have hb' : (bif ((k : Int) == tg') then mrG ((n : Int), (k, h), ()) else false) = true := by rw [ht]; exact hb
        rw [show (bif (((k, h) : T_BarS).1 : Int) == maxI n then mrG ((n : Int), (k, h), ()) else false) = true from hb] at hn
        refine piece_ok mixed hc (eC3t n tg' M A w cc G i k h (mrG ((n : Int), (k, h), ()))) ?_ (hn _ _ rfl)
        simp only [All]
        repeat' (first | exact trivial | with_reducible apply And.intro)
        all_goals (first | exact aG _ | exact aP _ _ | exact aA _ _ | exact aE _ | omega | rfl | (intros; first | assumption | exact True.intro | rfl | exact absurd (show false = true by assumption) Bool.false_ne_true | ((repeat' (first | assumption | apply anda | apply notf)); done)) | (exact hd) | (exact hb') | (intro _; exact hmr) | (intro h9; exact h9) | (simp; done) | (intro j hj; by_cases h' : j < cc <;> simp [h', snocB, cvtL, cvt, lendP, cellP, tab, idx, List.lookup, brOb, tg, tru, All]))
      | false =>
        have hb' : (bif ((k : Int) == tg') then mrG ((n : Int), (k, h), ()) else false) = false := by rw [ht]; exact hb
        rw [show (bif (((k, h) : T_BarS).1 : Int) == maxI n then mrG ((n : Int), (k, h), ()) else false) = false from hb] at hn
        refine piece_ok mixed hc (eC3f n tg' M A w cc G i k h (mrG ((n : Int), (k, h), ()))) ?_ (hn _ _ rfl)
        simp only [All]
        repeat' (first | exact trivial | with_reducible apply And.intro)
        all_goals (first | exact aG _ | exact aP _ _ | exact aA _ _ | exact aE _ | omega | rfl | (intros; first | assumption | exact True.intro | rfl | exact absurd (show false = true by assumption) Bool.false_ne_true | ((repeat' (first | assumption | apply anda | apply notf)); done)) | (exact hd) | (exact hb') | (intro _; exact hmr) | (intro h9; exact h9) | (simp; done) | (intro j hj; simp [All, aEt]))
    | succ d ih =>
      intro i k h cc G hi hk hcc hw he hn
      have hd : decide ((i : Int) < (M : Int)) = true := by simp; omega
      rw [bF] at he
      cases hb : btE w i with
      | true =>
        rw [hb] at he
        have hb' : (bitI BinOp.and IntKind.i64 (shrI IntKind.i64 (w : Int) (i : Int)) 1 == 1) = true := hb
        refine piece_ok mixed hc (eC2t n tg' M A w cc G i k h) ?_ (ih (i + 1) (k + 1) _ cc G (by omega) (by omega) hcc hw he hn)
        simp only [All]
        repeat' (first | exact trivial | with_reducible apply And.intro)
        all_goals (first | exact aG _ | exact aP _ _ | exact aA _ _ | exact aE _ | omega | rfl | (intros; first | assumption | exact True.intro | rfl | exact absurd (show false = true by assumption) Bool.false_ne_true | ((repeat' (first | assumption | apply anda | apply notf)); done)) | (exact hd) | (exact hb') | (intro j hj; by_cases h' : j < k <;> simp [h', snoc, cvtL, cvt, tg, tru, All]))
      | false =>
        rw [hb] at he
        have hb' : (bitI BinOp.and IntKind.i64 (shrI IntKind.i64 (w : Int) (i : Int)) 1 == 1) = false := hb
        refine piece_ok mixed hc (eC2f n tg' M A w cc G i k h) ?_ (ih (i + 1) k _ cc G (by omega) (by omega) hcc hw he hn)
        simp only [All]
        repeat' (first | exact trivial | with_reducible apply And.intro)
        all_goals (first | exact aG _ | exact aP _ _ | exact aA _ _ | exact aE _ | omega | rfl | (intros; first | assumption | exact True.intro | rfl | exact absurd (show false = true by assumption) Bool.false_ne_true | ((repeat' (first | assumption | apply anda | apply notf)); done)) | (exact hd) | (exact hb') | (intro j hj; simp [All, aEt]))
  have hnx : ∀ (w cc : Nat) (G : Nat → T_BarS) {d : Nat}, w + (d + 1) = 2 ^ M → cc ≤ w → gF n M A (w + 1) d (bif (bif ((bF w A 0 M zB).1 : Int) == maxI n then mrG ((n : Int), bF w A 0 M zB, ()) else false) then (cc + 1, snocB cc G (bF w A 0 M zB)) else (cc, G)) = R →
      (∀ w cc G, w + d = 2 ^ M → cc ≤ w → gF n M A w d (cc, G) = R →
        Run Try.prog c 120 [.code (cAt (bodyOf Try.f120) [1, 1, 0, 1, 0, 0]), .inLoop (cAt (bodyOf Try.f120) [1, 1, 0, 1, 0, 0]), .inBlock 0, .code (cAt (bodyOf Try.f120) [1, 1, 1])] (SRgs n tg' M A w cc G) (Post c [(0, gsOb n R.1 R.2)] (.ar 2 0 0 R.1))) →
      ∀ cc' G', (bif (bif ((bF w A 0 M zB).1 : Int) == maxI n then mrG ((n : Int), bF w A 0 M zB, ()) else false) then (cc + 1, snocB cc G (bF w A 0 M zB)) else (cc, G)) = (cc', G') →
        Run Try.prog c 120 [.code (cAt (bodyOf Try.f120) [1, 1, 0, 1, 0, 0]), .inLoop (cAt (bodyOf Try.f120) [1, 1, 0, 1, 0, 0]), .inBlock 0, .code (cAt (bodyOf Try.f120) [1, 1, 1])] (SRgs n tg' M A (w + 1) cc' G') (Post c [(0, gsOb n R.1 R.2)] (.ar 2 0 0 R.1)) := by
    intro w cc G d hw hcc he ih cc' G' h2
    refine ih (w + 1) cc' G' (by omega) ?_ ?_
    · generalize (bif ((bF w A 0 M zB).1 : Int) == maxI n then mrG ((n : Int), bF w A 0 M zB, ()) else false) = b at h2
      cases b
      · cases h2; omega
      · cases h2; omega
    · rw [← h2]; exact he
  have lo : ∀ d w cc G, w + d = 2 ^ M → cc ≤ w → gF n M A w d (cc, G) = R →
      Run Try.prog c 120 [.code (cAt (bodyOf Try.f120) [1, 1, 0, 1, 0, 0]), .inLoop (cAt (bodyOf Try.f120) [1, 1, 0, 1, 0, 0]), .inBlock 0, .code (cAt (bodyOf Try.f120) [1, 1, 1])] (SRgs n tg' M A w cc G) (Post c [(0, gsOb n R.1 R.2)] (.ar 2 0 0 R.1)) := by
    intro d
    induction d with
    | zero =>
      intro w cc G hw hcc he
      have hd : decide ((w : Int) < shlI .i64 1 (M : Int)) = false := by rw [hsh]; exact decide_eq_false (by omega)
      rw [← he]
      refine path_ok mixed Try.func120 hc (eCe n tg' M A w cc G) ?_
      simp only [All]
      repeat' (first | exact trivial | with_reducible apply And.intro)
      all_goals (first | exact aG _ | exact aP _ _ | exact aA _ _ | exact aE _ | omega | rfl | (intros; first | assumption | exact True.intro | rfl | exact absurd (show false = true by assumption) Bool.false_ne_true | ((repeat' (first | assumption | apply anda | apply notf)); done)) | (exact hd) | (intro j hj; simp [All, aEt]))
    | succ d ih =>
      intro w cc G hw hcc he
      have hd : decide ((w : Int) < shlI .i64 1 (M : Int)) = true := by rw [hsh]; exact decide_eq_true (by omega)
      rw [gF] at he
      refine piece_ok mixed hc (eC1 n tg' M A w cc G) ?_ (li w M 0 0 _ cc G (by omega) (by omega) hcc (by omega) rfl (hnx w cc G hw hcc he ih))
      simp only [All]
      repeat' (first | exact trivial | with_reducible apply And.intro)
      all_goals (first | exact aG _ | exact aP _ _ | exact aA _ _ | exact aE _ | omega | rfl | (intros; first | assumption | exact True.intro | rfl | exact absurd (show false = true by assumption) Bool.false_ne_true | ((repeat' (first | assumption | apply anda | apply notf)); done)) | (exact hd) | (intro j hj; simp [All, aEt]; done) | (intro j hj; exact absurd hj (Nat.not_lt_zero _)))
  refine piece_ok mixed hc (eCz n tg' M A) ?_ (lo (2 ^ M) 0 0 _ (by omega) (by omega) hR)
  simp only [All]
  repeat' (first | exact trivial | with_reducible apply And.intro)
  all_goals (first | exact aG _ | exact aP _ _ | exact aA _ _ | exact aE _ | omega | rfl | (intros; first | assumption | exact True.intro | rfl | exact absurd (show false = true by assumption) Bool.false_ne_true | ((repeat' (first | assumption | apply anda | apply notf)); done)) | (simp; done) | (intro j hj; exact absurd hj (Nat.not_lt_zero _)))
theorem con_RigidGraphs_s (n : Int) : Con Try.prog 87 0 [] [.p (.int .i64 n)] [(0, gsOb n (rgG n).1 (rgG n).2)] (.tup [.ar 2 0 0 (rgG n).1, .p (.bool (inB n 1 5))]) := by
  have hin := con_l1In n 1 5
  cases hb : inB n 1 5 with
  | false =>
    rw [hb] at hin
    rw [show rgG n = zG by rw [rgG, hb]; rfl]
    refine con_start Try.func87 rfl (by kernel_rfl) rfl (fun c hc => ?_)
    refine path_ok mixed Try.func87 hc (eDy n) ?_
    simp only [All]
    repeat' (first | exact trivial | with_reducible apply And.intro)
    all_goals (first | exact aG _ | exact aP _ _ | exact aA _ _ | exact aE _ | omega | rfl | (intros; first | assumption | exact True.intro | rfl | exact absurd (show false = true by assumption) Bool.false_ne_true | ((repeat' (first | assumption | apply anda | apply notf)); done)) | (exact hin) | (simp; done) | (intro j hj; exact absurd hj (Nat.not_lt_zero _)))
  | true =>
    rw [hb] at hin
    have h15 : 1 ≤ n ∧ n ≤ 5 := by simpa [inB] using hb
    obtain ⟨m, rfl⟩ : ∃ m : Nat, n = (m : Int) := ⟨n.toNat, by omega⟩
    rw [show rgG (m : Int) = gD m by rw [rgG, hb]; rfl]
    have hcg := con_Complete_s m (by omega) (by omega)
    have hM := cgD_le m (by omega)
    have hch := con_Choose m (maxI m) (cgD m).1 (cgD m).2 hM rfl
    refine con_start Try.func87 rfl (by kernel_rfl) rfl (fun c hc => ?_)
    refine path_ok mixed Try.func87 hc (eDz m (cgD m).1 (cgD m).2 (gD m).1 (gD m).2) ?_
    simp only [All]
    repeat' (first | exact trivial | with_reducible apply And.intro)
    all_goals (first | exact aG _ | exact aP _ _ | exact aA _ _ | exact aE _ | omega | rfl | (intros; first | assumption | exact True.intro | rfl | exact absurd (show false = true by assumption) Bool.false_ne_true | ((repeat' (first | assumption | apply anda | apply notf)); done)) | (exact hin) | (exact hcg) | (exact hch) | (simp; done) | (intro j hj; simp [All, aEt]))
theorem con_RigidGraphs_i (n : Int) : Con Try.prog 89 0 [] [.p (.int .i64 n)] [(0, gsOb n (rgG n).1 (rgG n).2)] (.tup [.ar 2 0 0 (rgG n).1, .p (.bool (inB n 1 5))]) := by
  have hin := con_within n 1 5
  cases hb : inB n 1 5 with
  | false =>
    rw [hb] at hin
    rw [show rgG n = zG by rw [rgG, hb]; rfl]
    refine con_start Try.func89 rfl (by kernel_rfl) rfl (fun c hc => ?_)
    refine path_ok mixed Try.func89 hc (eIy n) ?_
    simp only [All]
    repeat' (first | exact trivial | with_reducible apply And.intro)
    all_goals (first | exact aG _ | exact aP _ _ | exact aA _ _ | exact aE _ | omega | rfl | (intros; first | assumption | exact True.intro | rfl | exact absurd (show false = true by assumption) Bool.false_ne_true | ((repeat' (first | assumption | apply anda | apply notf)); done)) | (exact hin) | (simp; done) | (intro j hj; exact absurd hj (Nat.not_lt_zero _)))
  | true =>
    rw [hb] at hin
    have h15 : 1 ≤ n ∧ n ≤ 5 := by simpa [inB] using hb
    obtain ⟨m, rfl⟩ : ∃ m : Nat, n = (m : Int) := ⟨n.toNat, by omega⟩
    rw [show rgG (m : Int) = gD m by rw [rgG, hb]; rfl]
    have hcg := con_Complete_i m (by omega) (by omega)
    have hM := cgD_le m (by omega)
    unfold gD
    generalize (cgD m).1 = M at hcg hM ⊢
    generalize (cgD m).2 = A at hcg ⊢
    have hsh := shl_pow M hM
    have hpw := pow_le M hM
    refine con_start Try.func89 rfl (by kernel_rfl) rfl (fun c hc => ?_)
    generalize hR : gF m M A 0 (2 ^ M) zG = R
    have lo : ∀ d w cc G, w + d = 2 ^ M → cc ≤ w → gF m M A w d (cc, G) = R →
        Run Try.prog c 89 [.code (cAt (bodyOf Try.f89) [1, 1, 1, 1, 0, 1, 0, 0]), .inLoop (cAt (bodyOf Try.f89) [1, 1, 1, 1, 0, 1, 0, 0]), .inBlock 0, .code (cAt (bodyOf Try.f89) [1, 1, 1, 1, 1])] (SRgi m M A w cc G) (Post c [(0, gsOb m R.1 R.2)] (.tup [.ar 2 0 0 R.1, .p (.bool true)])) := by
      intro d
      induction d with
      | zero =>
        intro w cc G hw hcc he
        have hd : decide ((w : Int) < shlI .i64 1 (M : Int)) = false := by rw [hsh]; exact decide_eq_false (by omega)
        rw [← he]
        refine path_ok mixed Try.func89 hc (eIe m M A w cc G) ?_
        simp only [All]
        repeat' (first | exact trivial | with_reducible apply And.intro)
        all_goals (first | exact aG _ | exact aP _ _ | exact aA _ _ | exact aE _ | omega | rfl | (intros; first | assumption | exact True.intro | rfl | exact absurd (show false = true by assumption) Bool.false_ne_true | ((repeat' (first | assumption | apply anda | apply notf)); done)) | (exact hd) | (intro j hj; simp [All, aEt]))
      | succ d ih =>
        intro w cc G hw hcc he
        have hd : decide ((w : Int) < shlI .i64 1 (M : Int)) = true := by rw [hsh]; exact decide_eq_true (by omega)
        rw [gF] at he
        have hset := con_setOfE w M (by omega)
        have hSn := sF_n w A M 0 zB (0, fun _ => 0) rfl
        have hSl := sF_le w M 0 (0, fun _ => 0)
        have hSh := fun y => has_sF w M 0 (0, fun _ => 0) y
        generalize sF w 0 M (0, fun _ => 0) = S at hset hSn hSl hSh
        have hob := con_OnlyBars m M A S (by omega) (by simp only at hSl; omega)
        rw [obF_bF w S A M 0 zB (fun j h1 h2 => by rw [hSh j, decide_eq_true (by omega)]; simp [hasI])] at hob
        have hmr := con_IsMin_i ((m : Int), bF w A 0 M zB, ()) (sm_bF m w A M hM)
        generalize bF w A 0 M zB = x at hob hmr he hSn
        rw [hSn] at he
        cases h1 : ((S.1 : Int) == maxI m) with
        | false =>
          rw [h1] at he
          have h1' : ((S.1 : Int) != maxI m) = true := by rw [bne, h1]; rfl
          refine piece_ok mixed hc (eI1 m M A w cc G S) ?_ (ih (w + 1) cc G (by omega) (by omega) he)
          simp only [All]
          repeat' (first | exact trivial | with_reducible apply And.intro)
          all_goals (first | exact aG _ | exact aP _ _ | exact aA _ _ | exact aE _ | omega | rfl | (intros; first | assumption | exact True.intro | rfl | exact absurd (show false = true by assumption) Bool.false_ne_true | ((repeat' (first | assumption | apply anda | apply notf)); done)) | (exact hd) | (exact hset) | (exact h1') | (simp; done) | (intro j hj; simp [All, aEt]))
        | true =>
          rw [h1] at he
          have h1' : ((S.1 : Int) != maxI m) = false := by rw [bne, h1]; rfl
          cases h2 : mrG ((m : Int), x, ()) with
          | true =>
            rw [h2] at he hmr
            refine piece_ok mixed hc (eI2 m M A w cc G S x) ?_ (ih (w + 1) (cc + 1) _ (by omega) (by omega) he)
            simp only [All]
            repeat' (first | exact trivial | with_reducible apply And.intro)
            all_goals (first | exact aG _ | exact aP _ _ | exact aA _ _ | exact aE _ | omega | rfl | (intros; first | assumption | exact True.intro | rfl | exact absurd (show false = true by assumption) Bool.false_ne_true | ((repeat' (first | assumption | apply anda | apply notf)); done)) | (exact hd) | (exact hset) | (exact h1') | (exact hob) | (exact hmr) | (simp; done) | (intro j hj; by_cases h' : j < cc <;> simp [h', snocB, cvtL, cvt, lendP, cellP, tab, idx, List.lookup, brOb, tg, tru, All]; done) | (intro j hj; simp [All, aEt]))
          | false =>
            rw [h2] at he hmr
            refine piece_ok mixed hc (eI3 m M A w cc G S x) ?_ (ih (w + 1) cc G (by omega) (by omega) he)
            simp only [All]
            repeat' (first | exact trivial | with_reducible apply And.intro)
            all_goals (first | exact aG _ | exact aP _ _ | exact aA _ _ | exact aE _ | omega | rfl | (intros; first | assumption | exact True.intro | rfl | exact absurd (show false = true by assumption) Bool.false_ne_true | ((repeat' (first | assumption | apply anda | apply notf)); done)) | (exact hd) | (exact hset) | (exact h1') | (exact hob) | (exact hmr) | (simp; done) | (intro j hj; simp [All, aEt]))
    refine piece_ok mixed hc (eIz m M A) ?_ (lo (2 ^ M) 0 0 _ (by omega) (by omega) hR)
    simp only [All]
    repeat' (first | exact trivial | with_reducible apply And.intro)
    all_goals (first | exact aG _ | exact aP _ _ | exact aA _ _ | exact aE _ | omega | rfl | (intros; first | assumption | exact True.intro | rfl | exact absurd (show false = true by assumption) Bool.false_ne_true | ((repeat' (first | assumption | apply anda | apply notf)); done)) | (exact hin) | (exact hcg) | rfl | (simp; done) | (intro j hj; exact absurd hj (Nat.not_lt_zero _)) | (intro j hj; simp [All, aEt]))
end Go.Proofs.Ytgdbnnmogddkaaa.Mach
namespace Go.Proofs.Ytgdbnnmogddkaaa.Mach
open Go
set_option linter.unusedVariables false
set_option linter.unusedSimpArgs false
def byO (n : Nat) (f : Nat → Int) : Ob := ⟨false, 1, n, fun i => [.p (.int .u8 (f i))]⟩
def swF (i j : Nat) (f : Nat → Int) (r : Nat) : Int := if r = j then f i else if r = i then f j else f r
def apF (n : Nat) (f : Nat → Int) (x : Int) (r : Nat) : Int := if r < n then f r else x
def SFs (m : Int) (o : ByteArray) (ng : Bool) : St :=
  ⟨[.p (.int .i64 m), .p .any, .p .any, .p (.str o), .p (.bool ng)] ++ List.replicate 26 anyA, [], 0⟩
def SFi (n m : Int) (l : Nat) (f : Nat → Int) : St :=
  ⟨[.p (.int .i64 n), .p .any, .p .any, .ar 1 0 0 l, .p (.int .i64 m)] ++ List.replicate 54 anyA, [(0, byO l f)], 1⟩
def SFr (l i : Nat) (j : Int) (f : Nat → Int) : St :=
  ⟨[.p .any, .p .any, .p .any, .ar 1 0 0 l, .p .any, .p .any, .p (.int .i64 i), .p (.int .i64 j)] ++ List.replicate 51 anyA, [(0, byO l f)], 1⟩
theorem fS0 (n : Int) (s : ByteArray) :
    pathOb Try.prog Try.f47 0 [.reg [oT], .reg [oT, oT], .dec true, .reg [oT]] [.code (bodyOf Try.f47)] (start Try.f47 [] 0 [.p (.int .i64 n)]) [] 1 [] (.p (.str s)) =
    some [((n == 0) = true),
  (ByteArray.mk #[48] = s)] := by kernel_rfl
theorem fSz (n : Int) (o : ByteArray) :
    pieceOb Try.prog 0 [.reg [oT], .reg [oT, oT], .dec false, .reg [oT], .reg [oT, oT, oT], .head] [.code (bodyOf Try.f47)] (start Try.f47 [] 0 [.p (.int .i64 n)]) [] 1 (SFs n o (decide (n < 0))) =
    some ([.code (cAt (bodyOf Try.f47) [1, 1, 1, 1, 0, 0, 0]), .inLoop (cAt (bodyOf Try.f47) [1, 1, 1, 1, 0, 0, 0]), .inBlock 0, .code (cAt (bodyOf Try.f47) [1, 1, 1, 1, 1])], [((n == 0) = false),
  (AI n),
  (ByteArray.mk #[] = o),
  ((decide (n < 0)) = (decide (n < 0)))]) := by kernel_rfl
theorem fSn (m m2 : Int) (o o2 : ByteArray) (ng : Bool) :
    pieceOb Try.prog 0 [.reg [oT, oT], .dec true, .reg [oT, oF, oT], .reg [oT, oT], .dec true, .reg [oT, oT, oT], .reg [oT, oT, oT, oT, oT, oT, oT, oT], .reg [oT, oF, oT], .head] [.code (cAt (bodyOf Try.f47) [1, 1, 1, 1, 0, 0, 0]), .inLoop (cAt (bodyOf Try.f47) [1, 1, 1, 1, 0, 0, 0]), .inBlock 0, .code (cAt (bodyOf Try.f47) [1, 1, 1, 1, 1])] (SFs m o ng) [] 1 (SFs m2 o2 ng) =
    some ([.code (cAt (bodyOf Try.f47) [1, 1, 1, 1, 0, 0, 0]), .inLoop (cAt (bodyOf Try.f47) [1, 1, 1, 1, 0, 0, 0]), .inBlock 0, .code (cAt (bodyOf Try.f47) [1, 1, 1, 1, 1])], [((m != 0) = true),
  ((10 : Int) ≠ 0),
  ((decide (m.tmod 10 < 0)) = true),
  (((-9223372036854775808) : Int) ≤ (0 - m.tmod 10)),
  (((0 - m.tmod 10) : Int) ≤ 9223372036854775807),
  (((-9223372036854775808) : Int) ≤ (48 + (0 - m.tmod 10))),
  (((48 + (0 - m.tmod 10)) : Int) ≤ 9223372036854775807),
  ((0 : Int) ≤ (48 + (0 - m.tmod 10))),
  (((48 + (0 - m.tmod 10)) : Int) ≤ 255),
  ((1 : Nat) ≤ 1),
  (okBytes 1 (fun i => [.p (.int .u8 (48 + (0 - m.tmod 10)))])),
  ((((bytesOf 1 fun i => [AV.p (PV.int IntKind.u8 (48 + (0 - m.tmod 10)))]).size + o.size) : Nat) ≤ 9223372036854775807),
  ((10 : Int) ≠ 0),
  (((IntKind.i64.wrap (m.tdiv 10)) : Int) = m2),
  ((bytesOf 1 fun i => [AV.p (PV.int IntKind.u8 (48 + (0 - m.tmod 10)))]) ++ o = o2),
  (ng = ng)]) := by kernel_rfl
theorem fSp (m m2 : Int) (o o2 : ByteArray) (ng : Bool) :
    pieceOb Try.prog 0 [.reg [oT, oT], .dec true, .reg [oT, oF, oT], .reg [oT, oT], .dec false, .reg [oT, oT, oT, oT, oT, oT, oT, oT], .reg [oT, oF, oT], .head] [.code (cAt (bodyOf Try.f47) [1, 1, 1, 1, 0, 0, 0]), .inLoop (cAt (bodyOf Try.f47) [1, 1, 1, 1, 0, 0, 0]), .inBlock 0, .code (cAt (bodyOf Try.f47) [1, 1, 1, 1, 1])] (SFs m o ng) [] 1 (SFs m2 o2 ng) =
    some ([.code (cAt (bodyOf Try.f47) [1, 1, 1, 1, 0, 0, 0]), .inLoop (cAt (bodyOf Try.f47) [1, 1, 1, 1, 0, 0, 0]), .inBlock 0, .code (cAt (bodyOf Try.f47) [1, 1, 1, 1, 1])], [((m != 0) = true),
  ((10 : Int) ≠ 0),
  ((decide (m.tmod 10 < 0)) = false),
  (((-9223372036854775808) : Int) ≤ (48 + m.tmod 10)),
  (((48 + m.tmod 10) : Int) ≤ 9223372036854775807),
  ((0 : Int) ≤ (48 + m.tmod 10)),
  (((48 + m.tmod 10) : Int) ≤ 255),
  ((1 : Nat) ≤ 1),
  (okBytes 1 (fun i => [.p (.int .u8 (48 + m.tmod 10))])),
  ((((bytesOf 1 fun i => [AV.p (PV.int IntKind.u8 (48 + m.tmod 10))]).size + o.size) : Nat) ≤ 9223372036854775807),
  ((10 : Int) ≠ 0),
  (((IntKind.i64.wrap (m.tdiv 10)) : Int) = m2),
  ((bytesOf 1 fun i => [AV.p (PV.int IntKind.u8 (48 + m.tmod 10))]) ++ o = o2),
  (ng = ng)]) := by kernel_rfl
theorem fSt (m : Int) (o s : ByteArray) (ng : Bool) :
    pathOb Try.prog Try.f47 0 [.reg [oT, oT], .dec false, .reg [oT], .dec true, .reg [oT, oT, oT]] [.code (cAt (bodyOf Try.f47) [1, 1, 1, 1, 0, 0, 0]), .inLoop (cAt (bodyOf Try.f47) [1, 1, 1, 1, 0, 0, 0]), .inBlock 0, .code (cAt (bodyOf Try.f47) [1, 1, 1, 1, 1])] (SFs m o ng) [] 1 [] (.p (.str s)) =
    some [((m != 0) = false),
  (ng = true),
  ((((ByteArray.mk #[45]).size + o.size) : Nat) ≤ 9223372036854775807),
  (ByteArray.mk #[45] ++ o = s)] := by kernel_rfl
theorem fSf (m : Int) (o s : ByteArray) (ng : Bool) :
    pathOb Try.prog Try.f47 0 [.reg [oT, oT], .dec false, .reg [oT], .dec false, .reg [oT, oT]] [.code (cAt (bodyOf Try.f47) [1, 1, 1, 1, 0, 0, 0]), .inLoop (cAt (bodyOf Try.f47) [1, 1, 1, 1, 0, 0, 0]), .inBlock 0, .code (cAt (bodyOf Try.f47) [1, 1, 1, 1, 1])] (SFs m o ng) [] 1 [] (.p (.str s)) =
    some [((m != 0) = false),
  (ng = false),
  (o = s)] := by kernel_rfl
theorem fI0 (n : Int) (s : ByteArray) :
    pathOb Try.prog Try.f53 0 [.reg [oT], .reg [oT, oT], .dec true, .reg [oT]] [.code (bodyOf Try.f53)] (start Try.f53 [] 0 [.p (.int .i64 n)]) [] 1 [] (.p (.str s)) =
    some [((n == 0) = true),
  (ByteArray.mk #[48] = s)] := by kernel_rfl
theorem fIz (n : Int) :
    pieceOb Try.prog 0 [.reg [oT], .reg [oT, oT], .dec false, .reg [oT, oT], .reg [oT, oT], .head] [.code (bodyOf Try.f53)] (start Try.f53 [] 0 [.p (.int .i64 n)]) [96] 1 (SFi n n 0 (fun _ => 0)) =
    some ([.code (cAt (bodyOf Try.f53) [1, 1, 1, 0, 1, 0, 0]), .inLoop (cAt (bodyOf Try.f53) [1, 1, 1, 0, 1, 0, 0]), .inBlock 0, .code (cAt (bodyOf Try.f53) [1, 1, 1, 1])], [((n == 0) = false),
  (AI n),
  (AN 0),
  (AN 0),
  (AI n),
  (AN 1),
  ((0 : Nat) ≤ 0),
  (AA 0 (fun i => [.p (.int .u8 0)]))]) := by kernel_rfl
theorem fIn (n m m2 : Int) (l : Nat) (f : Nat → Int) (x : Int) :
    pieceOb Try.prog 0 [.reg [oT, oT], .dec true, .reg [oT, oF, oT], .reg [oT, oT], .dec true, .reg [oT, oT, oT], .reg [oT, oT, oT, oT, oT, oT, oT], .reg [oT, oF, oT], .head] [.code (cAt (bodyOf Try.f53) [1, 1, 1, 0, 1, 0, 0]), .inLoop (cAt (bodyOf Try.f53) [1, 1, 1, 0, 1, 0, 0]), .inBlock 0, .code (cAt (bodyOf Try.f53) [1, 1, 1, 1])] (SFi n m l f) [481] 1 (SFi n m2 (l + 1) (apF l f x)) =
    some ([.code (cAt (bodyOf Try.f53) [1, 1, 1, 0, 1, 0, 0]), .inLoop (cAt (bodyOf Try.f53) [1, 1, 1, 0, 1, 0, 0]), .inBlock 0, .code (cAt (bodyOf Try.f53) [1, 1, 1, 1])], [((m != 0) = true),
  ((10 : Int) ≠ 0),
  ((decide (m.tmod 10 < 0)) = true),
  (((-9223372036854775808) : Int) ≤ (0 - m.tmod 10)),
  (((0 - m.tmod 10) : Int) ≤ 9223372036854775807),
  (((-9223372036854775808) : Int) ≤ (48 + (0 - m.tmod 10))),
  (((48 + (0 - m.tmod 10)) : Int) ≤ 9223372036854775807),
  ((0 : Int) ≤ (48 + (0 - m.tmod 10))),
  (((48 + (0 - m.tmod 10)) : Int) ≤ 255),
  ((1 : Nat) ≤ 1),
  ((l : Nat) ≤ l),
  ((((l + 1) * 1) : Nat) ≤ 140737488355328),
  (((l + 1) : Nat) ≤ 9223372036854775807),
  ((10 : Int) ≠ 0),
  (AI n),
  (AN 0),
  (AN ((l + 1))),
  (((IntKind.i64.wrap (m.tdiv 10)) : Int) = m2),
  (AN 1),
  (((l + 1) : Nat) ≤ (l + 1)),
  (∀ i : Nat, (((i : Nat) < (l + 1)) → (All (cvtL false [(481, ⟨false, 1, (l + 1), (fun i_1 => (if (i_1 < l) then [.p (.int .u8 (f i_1))] else [.p (.int .u8 (48 + (0 - m.tmod 10)))]))⟩), (449, ⟨false, 1, 1, (fun i_1 => [.p (.int .u8 (48 + (0 - m.tmod 10)))])⟩)] [481] 1 (if (i < l) then [.p (.int .u8 (f i))] else [.p (.int .u8 (48 + (0 - m.tmod 10)))])).2 ∧ (((cvtL false [(481, ⟨false, 1, (l + 1), (fun i_1 => (if (i_1 < l) then [.p (.int .u8 (f i_1))] else [.p (.int .u8 (48 + (0 - m.tmod 10)))]))⟩), (449, ⟨false, 1, 1, (fun i_1 => [.p (.int .u8 (48 + (0 - m.tmod 10)))])⟩)] [481] 1 (if (i < l) then [.p (.int .u8 (f i))] else [.p (.int .u8 (48 + (0 - m.tmod 10)))])).1 : List AV) = [.p (.int .u8 (apF l f x i))]))))]) := by kernel_rfl
theorem fIp (n m m2 : Int) (l : Nat) (f : Nat → Int) (x : Int) :
    pieceOb Try.prog 0 [.reg [oT, oT], .dec true, .reg [oT, oF, oT], .reg [oT, oT], .dec false, .reg [oT, oT, oT, oT, oT, oT, oT], .reg [oT, oF, oT], .head] [.code (cAt (bodyOf Try.f53) [1, 1, 1, 0, 1, 0, 0]), .inLoop (cAt (bodyOf Try.f53) [1, 1, 1, 0, 1, 0, 0]), .inBlock 0, .code (cAt (bodyOf Try.f53) [1, 1, 1, 1])] (SFi n m l f) [385] 1 (SFi n m2 (l + 1) (apF l f x)) =
    some ([.code (cAt (bodyOf Try.f53) [1, 1, 1, 0, 1, 0, 0]), .inLoop (cAt (bodyOf Try.f53) [1, 1, 1, 0, 1, 0, 0]), .inBlock 0, .code (cAt (bodyOf Try.f53) [1, 1, 1, 1])], [((m != 0) = true),
  ((10 : Int) ≠ 0),
  ((decide (m.tmod 10 < 0)) = false),
  (((-9223372036854775808) : Int) ≤ (48 + m.tmod 10)),
  (((48 + m.tmod 10) : Int) ≤ 9223372036854775807),
  ((0 : Int) ≤ (48 + m.tmod 10)),
  (((48 + m.tmod 10) : Int) ≤ 255),
  ((1 : Nat) ≤ 1),
  ((l : Nat) ≤ l),
  ((((l + 1) * 1) : Nat) ≤ 140737488355328),
  (((l + 1) : Nat) ≤ 9223372036854775807),
  ((10 : Int) ≠ 0),
  (AI n),
  (AN 0),
  (AN ((l + 1))),
  (((IntKind.i64.wrap (m.tdiv 10)) : Int) = m2),
  (AN 1),
  (((l + 1) : Nat) ≤ (l + 1)),
  (∀ i : Nat, (((i : Nat) < (l + 1)) → (All (cvtL false [(385, ⟨false, 1, (l + 1), (fun i_1 => (if (i_1 < l) then [.p (.int .u8 (f i_1))] else [.p (.int .u8 (48 + m.tmod 10))]))⟩), (353, ⟨false, 1, 1, (fun i_1 => [.p (.int .u8 (48 + m.tmod 10))])⟩)] [385] 1 (if (i < l) then [.p (.int .u8 (f i))] else [.p (.int .u8 (48 + m.tmod 10))])).2 ∧ (((cvtL false [(385, ⟨false, 1, (l + 1), (fun i_1 => (if (i_1 < l) then [.p (.int .u8 (f i_1))] else [.p (.int .u8 (48 + m.tmod 10))]))⟩), (353, ⟨false, 1, 1, (fun i_1 => [.p (.int .u8 (48 + m.tmod 10))])⟩)] [385] 1 (if (i < l) then [.p (.int .u8 (f i))] else [.p (.int .u8 (48 + m.tmod 10))])).1 : List AV) = [.p (.int .u8 (apF l f x i))]))))]) := by kernel_rfl
theorem fIt (n m : Int) (l : Nat) (f : Nat → Int) :
    pieceOb Try.prog 0 [.reg [oT, oT], .dec false, .reg [oT, oT], .dec true, .reg [oT, oT, oT, oT], .reg [oT, oT, oT, oT, oT], .head] [.code (cAt (bodyOf Try.f53) [1, 1, 1, 0, 1, 0, 0]), .inLoop (cAt (bodyOf Try.f53) [1, 1, 1, 0, 1, 0, 0]), .inBlock 0, .code (cAt (bodyOf Try.f53) [1, 1, 1, 1])] (SFi n m l f) [193] 1 (SFr (l + 1) 0 (((l + 1 : Nat) : Int) - 1) (apF l f 45)) =
    some ([.code (cAt (bodyOf Try.f53) [1, 1, 1, 1, 1, 0, 1, 0, 0]), .inLoop (cAt (bodyOf Try.f53) [1, 1, 1, 1, 1, 0, 1, 0, 0]), .inBlock 2, .code (cAt (bodyOf Try.f53) [1, 1, 1, 1, 1, 1])], [((m != 0) = false),
  ((decide (n < 0)) = true),
  ((1 : Nat) ≤ 1),
  ((l : Nat) ≤ l),
  ((((l + 1) * 1) : Nat) ≤ 140737488355328),
  (((l + 1) : Nat) ≤ 9223372036854775807),
  (((-9223372036854775808) : Int) ≤ ((↑(l + 1) : Int) - 1)),
  ((((↑(l + 1) : Int) - 1) : Int) ≤ 9223372036854775807),
  (AN 0),
  (AN ((l + 1))),
  ((0 : Int) = (↑0 : Int)),
  (AI (((↑(l + 1) : Int) - 1))),
  (AN 1),
  (((l + 1) : Nat) ≤ (l + 1)),
  (∀ i : Nat, (((i : Nat) < (l + 1)) → (All (cvtL false [(193, ⟨false, 1, (l + 1), (fun i_1 => (if (i_1 < l) then [.p (.int .u8 (f i_1))] else [.p (.int .u8 45)]))⟩), (161, ⟨false, 1, 1, (fun i_1 => [.p (.int .u8 45)])⟩)] [193] 1 (if (i < l) then [.p (.int .u8 (f i))] else [.p (.int .u8 45)])).2 ∧ (((cvtL false [(193, ⟨false, 1, (l + 1), (fun i_1 => (if (i_1 < l) then [.p (.int .u8 (f i_1))] else [.p (.int .u8 45)]))⟩), (161, ⟨false, 1, 1, (fun i_1 => [.p (.int .u8 45)])⟩)] [193] 1 (if (i < l) then [.p (.int .u8 (f i))] else [.p (.int .u8 45)])).1 : List AV) = [.p (.int .u8 (apF l f 45 i))]))))]) := by kernel_rfl
theorem fIf (n m : Int) (l : Nat) (f : Nat → Int) :
    pieceOb Try.prog 0 [.reg [oT, oT], .dec false, .reg [oT, oT], .dec false, .reg [oT, oT, oT, oT, oT], .head] [.code (cAt (bodyOf Try.f53) [1, 1, 1, 0, 1, 0, 0]), .inLoop (cAt (bodyOf Try.f53) [1, 1, 1, 0, 1, 0, 0]), .inBlock 0, .code (cAt (bodyOf Try.f53) [1, 1, 1, 1])] (SFi n m l f) [0] 1 (SFr l 0 ((l : Int) - 1) f) =
    some ([.code (cAt (bodyOf Try.f53) [1, 1, 1, 1, 1, 0, 1, 0, 0]), .inLoop (cAt (bodyOf Try.f53) [1, 1, 1, 1, 1, 0, 1, 0, 0]), .inBlock 2, .code (cAt (bodyOf Try.f53) [1, 1, 1, 1, 1, 1])], [((m != 0) = false),
  ((decide (n < 0)) = false),
  (((-9223372036854775808) : Int) ≤ ((↑l : Int) - 1)),
  ((((↑l : Int) - 1) : Int) ≤ 9223372036854775807),
  (AN 0),
  (AN l),
  ((0 : Int) = (↑0 : Int)),
  (AI (((↑l : Int) - 1))),
  (AN 1),
  ((l : Nat) ≤ l),
  (AA l (fun i => [.p (.int .u8 (f i))]))]) := by kernel_rfl
theorem fIs (l i : Nat) (j : Int) (f : Nat → Int) :
    pieceOb Try.prog 0 [.reg [oT, oT, oT], .dec true, .reg [oT, oT, oT, oT, oT, oT, oT, oT, oT, oT, oT, oT, oT, oT, oT, oT], .reg [oT, oT, oT, oT, oT, oT], .head] [.code (cAt (bodyOf Try.f53) [1, 1, 1, 1, 1, 0, 1, 0, 0]), .inLoop (cAt (bodyOf Try.f53) [1, 1, 1, 1, 1, 0, 1, 0, 0]), .inBlock 2, .code (cAt (bodyOf Try.f53) [1, 1, 1, 1, 1, 1])] (SFr l i j f) [0] 1 (SFr l (i + 1) (j - 1) (swF i j.toNat f)) =
    some ([.code (cAt (bodyOf Try.f53) [1, 1, 1, 1, 1, 0, 1, 0, 0]), .inLoop (cAt (bodyOf Try.f53) [1, 1, 1, 1, 1, 0, 1, 0, 0]), .inBlock 2, .code (cAt (bodyOf Try.f53) [1, 1, 1, 1, 1, 1])], [((decide ((↑i : Int) < j)) = true),
  ((0 : Int) ≤ j),
  ((j : Int) < (↑l : Int)),
  ((j.toNat : Nat) < l),
  ((0 : Int) ≤ (↑i : Int)),
  (((↑i : Int) : Int) < (↑l : Int)),
  ((i : Nat) < l),
  ((0 : Int) ≤ (↑i : Int)),
  (((↑i : Int) : Int) < (↑l : Int)),
  ((i : Nat) < l),
  ((false = true) → ((l : Nat) = 1)),
  ((0 : Int) ≤ j),
  ((j : Int) < (↑l : Int)),
  ((j.toNat : Nat) < l),
  ((false = true) → ((l : Nat) = 1)),
  (((-9223372036854775808) : Int) ≤ ((↑i : Int) + 1)),
  ((((↑i : Int) + 1) : Int) ≤ 9223372036854775807),
  (((-9223372036854775808) : Int) ≤ (j - 1)),
  (((j - 1) : Int) ≤ 9223372036854775807),
  (AN 0),
  (AN l),
  ((((↑i : Int) + 1) : Int) = (↑(i + 1) : Int)),
  (AI ((j - 1))),
  (AN 1),
  ((l : Nat) ≤ l),
  (∀ i_1 : Nat, (((i_1 : Nat) < l) → (All (cvtL false [(0, ⟨false, 1, l, (fun i_2 => (if (i_2 = j.toNat) then [.p (.int .u8 (f i))] else (if (i_2 = i) then [.p (.int .u8 (f j.toNat))] else [.p (.int .u8 (f i_2))])))⟩)] [0] 1 (if (i_1 = j.toNat) then [.p (.int .u8 (f i))] else (if (i_1 = i) then [.p (.int .u8 (f j.toNat))] else [.p (.int .u8 (f i_1))]))).2 ∧ (((cvtL false [(0, ⟨false, 1, l, (fun i_2 => (if (i_2 = j.toNat) then [.p (.int .u8 (f i))] else (if (i_2 = i) then [.p (.int .u8 (f j.toNat))] else [.p (.int .u8 (f i_2))])))⟩)] [0] 1 (if (i_1 = j.toNat) then [.p (.int .u8 (f i))] else (if (i_1 = i) then [.p (.int .u8 (f j.toNat))] else [.p (.int .u8 (f i_1))]))).1 : List AV) = [.p (.int .u8 (swF i j.toNat f i_1))]))))]) := by kernel_rfl
theorem fIe (l i : Nat) (j : Int) (f : Nat → Int) (s : ByteArray) :
    pathOb Try.prog Try.f53 0 [.reg [oT, oT, oT], .dec false, .reg [oT, oT, oT]] [.code (cAt (bodyOf Try.f53) [1, 1, 1, 1, 1, 0, 1, 0, 0]), .inLoop (cAt (bodyOf Try.f53) [1, 1, 1, 1, 1, 0, 1, 0, 0]), .inBlock 2, .code (cAt (bodyOf Try.f53) [1, 1, 1, 1, 1, 1])] (SFr l i j f) [] 1 [] (.p (.str s)) =
    some [((decide ((↑i : Int) < j)) = false),
  ((l : Nat) ≤ l),
  (okBytes l (fun i_1 => [.p (.int .u8 (f i_1))])),
  ((bytesOf l fun i => [AV.p (PV.int IntKind.u8 (f i))]) = s)] := by kernel_rfl
def dg : Nat → Nat → List Int
  | 0, _ => []
  | f + 1, m => if m = 0 then [] else (48 + ((m % 10 : Nat) : Int)) :: dg f (m / 10)
def bs (l : List Int) : ByteArray := l.foldl (fun r n => r.push (UInt8.ofNat n.toNat)) ByteArray.empty
def fmtL (n : Int) : List Int := dg 20 n.natAbs ++ (if n < 0 then [45] else [])
def fmtI (n : Int) : ByteArray := if n = 0 then bs [48] else bs (fmtL n).reverse
theorem bs_fold (l : List Int) : ∀ s : ByteArray, (l.foldl (fun r n => r.push (UInt8.ofNat n.toNat)) s).data = s.data ++ (l.map fun n => UInt8.ofNat n.toNat).toArray := by
  induction l with
  | nil => intro s; simp
  | cons x l ih =>
    intro s
    simp only [List.foldl_cons, ih, List.map_cons]
    show s.data.push (UInt8.ofNat x.toNat) ++ _ = _
    simp
theorem bs_data (l : List Int) : (bs l).data = (l.map fun n => UInt8.ofNat n.toNat).toArray := by
  rw [bs, bs_fold]
  show #[] ++ _ = _
  simp
theorem bs_append (a b : List Int) : bs (a ++ b) = bs a ++ bs b := by
  apply ByteArray.ext
  rw [bs_data, ByteArray.data_append, bs_data, bs_data]
  simp
theorem bs_size (l : List Int) : (bs l).size = l.length := by
  show (bs l).data.size = _
  rw [bs_data]; simp
theorem bytesOf_bs (m : Nat) (f : Nat → Int) : bytesOf m (fun i => [.p (.int .u8 (f i))]) = bs ((List.range m).map f) := rfl
theorem tm10 (c : Int) : c.tmod 10 = if 0 ≤ c then ((c.natAbs % 10 : Nat) : Int) else -((c.natAbs % 10 : Nat) : Int) := by
  obtain ⟨k, rfl | rfl⟩ := c.eq_nat_or_neg
  · rw [if_pos (by omega), Int.natAbs_natCast]; rfl
  · by_cases h : k = 0
    · subst h; rfl
    · rw [if_neg (by omega), Int.neg_tmod, Int.natAbs_neg, Int.natAbs_natCast]; rfl
theorem td10 (c : Int) : c.tdiv 10 = if 0 ≤ c then ((c.natAbs / 10 : Nat) : Int) else -((c.natAbs / 10 : Nat) : Int) := by
  obtain ⟨k, rfl | rfl⟩ := c.eq_nat_or_neg
  · rw [if_pos (by omega), Int.natAbs_natCast]; rfl
  · by_cases h : k = 0
    · subst h; rfl
    · rw [if_neg (by omega), Int.neg_tdiv, Int.natAbs_neg, Int.natAbs_natCast]; rfl
theorem td_abs (c : Int) : (c.tdiv 10).natAbs = c.natAbs / 10 := by
  rw [td10]; split <;> omega
theorem dg_len : ∀ f m, (dg f m).length ≤ f
  | 0, _ => Nat.le_refl _
  | f + 1, m => by
    simp only [dg]
    split
    · simp
    · have := dg_len f (m / 10); simp; omega
theorem fmt_size (n : Int) : (fmtI n).size ≤ 21 := by
  unfold fmtI
  split
  · simp [bs_size]
  · rw [bs_size, fmtL, List.length_reverse, List.length_append]
    have := dg_len 20 n.natAbs
    split <;> simp <;> omega
theorem con_FormatInt_s (n : Int) (h0 : -9223372036854775808 ≤ n) (h1 : n ≤ 9223372036854775807) : Con Try.prog 47 0 [] [.p (.int .i64 n)] [] (.p (.str (fmtI n))) := by
  refine con_start Try.func47 rfl (by kernel_rfl) rfl (fun c hc => ?_)
  by_cases hz : n = 0
  · subst hz
    refine path_ok mixed Try.func47 hc (fS0 0 (fmtI 0)) ?_
    simp only [All]
    repeat' (first | exact trivial | with_reducible apply And.intro)
    all_goals (first | exact aG _ | exact aP _ _ | exact aA _ _ | exact aE _ | omega | rfl | (intros; first | assumption | exact True.intro | rfl | exact absurd (show false = true by assumption) Bool.false_ne_true | ((repeat' (first | assumption | apply anda | apply notf)); done)) | rfl | (exact ByteArray.ext (by rw [fmtI, if_pos rfl, bs_data]; rfl)))
  have hz' : (n == 0) = false := by simpa using hz
  have lp : ∀ f m l, l.length + f = 20 → m.natAbs < 10 ^ f → dg 20 n.natAbs = l ++ dg f m.natAbs → (n < 0 → m ≤ 0) → (0 ≤ n → 0 ≤ m) → -9223372036854775808 ≤ m → m ≤ 9223372036854775807 →
      Run Try.prog c 47 [.code (cAt (bodyOf Try.f47) [1, 1, 1, 1, 0, 0, 0]), .inLoop (cAt (bodyOf Try.f47) [1, 1, 1, 1, 0, 0, 0]), .inBlock 0, .code (cAt (bodyOf Try.f47) [1, 1, 1, 1, 1])] (SFs m (bs l.reverse) (decide (n < 0))) (Post c [] (.p (.str (fmtI n)))) := by
    have fin : ∀ l, dg 20 n.natAbs = l → l.length ≤ 20 → Run Try.prog c 47 [.code (cAt (bodyOf Try.f47) [1, 1, 1, 1, 0, 0, 0]), .inLoop (cAt (bodyOf Try.f47) [1, 1, 1, 1, 0, 0, 0]), .inBlock 0, .code (cAt (bodyOf Try.f47) [1, 1, 1, 1, 1])] (SFs 0 (bs l.reverse) (decide (n < 0))) (Post c [] (.p (.str (fmtI n)))) := by
      intro l hl hl2
      have hsz := bs_size l.reverse
      rw [List.length_reverse] at hsz
      by_cases hn : n < 0
      · rw [decide_eq_true hn]
        refine path_ok mixed Try.func47 hc (fSt 0 (bs l.reverse) (fmtI n) true) ?_
        simp only [All]
        repeat' (first | exact trivial | with_reducible apply And.intro)
        all_goals (first | exact aG _ | exact aP _ _ | exact aA _ _ | exact aE _ | omega | rfl | (intros; first | assumption | exact True.intro | rfl | exact absurd (show false = true by assumption) Bool.false_ne_true | ((repeat' (first | assumption | apply anda | apply notf)); done)) | (show _ + (bs l.reverse).size ≤ _; rw [hsz]; show 1 + l.length ≤ _; omega) | (rw [fmtI, if_neg hz, fmtL, if_pos hn, hl, List.reverse_append, bs_append]; exact congrArg (· ++ bs l.reverse) (ByteArray.ext (by rw [bs_data]; rfl))))
      · rw [decide_eq_false hn]
        refine path_ok mixed Try.func47 hc (fSf 0 (bs l.reverse) (fmtI n) false) ?_
        simp only [All]
        repeat' (first | exact trivial | with_reducible apply And.intro)
        all_goals (first | exact aG _ | exact aP _ _ | exact aA _ _ | exact aE _ | omega | rfl | (intros; first | assumption | exact True.intro | rfl | exact absurd (show false = true by assumption) Bool.false_ne_true | ((repeat' (first | assumption | apply anda | apply notf)); done)) | (rw [fmtI, if_neg hz, fmtL, if_neg hn, hl, List.append_nil]))
    intro f
    induction f with
    | zero =>
      intro m l hl hm hd hs1 hs2 hb1 hb2
      obtain rfl : m = 0 := by simp at hm; omega
      exact fin l (by rw [hd]; simp [dg]) (by omega)
    | succ f ih =>
      intro m l hl hm hd hs1 hs2 hb1 hb2
      by_cases hm0 : m = 0
      · subst hm0
        exact fin l (by rw [hd]; simp [dg]) (by omega)
      have hmt : (m != 0) = true := by simpa using hm0
      have hma : m.natAbs ≠ 0 := by omega
      have htd := td10 m
      have hrec := ih (m.tdiv 10) (l ++ [48 + ((m.natAbs % 10 : Nat) : Int)]) (by simp; omega) (by rw [td_abs]; rw [Nat.pow_succ] at hm; omega) (by rw [hd, td_abs, dg, if_neg hma]; simp) (by intro h; rw [htd]; split <;> omega) (by intro h; rw [htd]; split <;> omega) (by rw [htd]; split <;> omega) (by rw [htd]; split <;> omega)
      have hw : IntKind.i64.wrap (m.tdiv 10) = m.tdiv 10 := wrap_in (k := .i64) (by show (-9223372036854775808 : Int) ≤ _; rw [htd]; split <;> omega) (by show _ ≤ (9223372036854775807 : Int); rw [htd]; split <;> omega)
      have htm := tm10 m
      have hsz := bs_size l.reverse
      rw [List.length_reverse] at hsz
      have hb : ∀ d : Int, bytesOf 1 (fun _ => [.p (.int .u8 (48 + d))]) = bs [48 + d] := fun d => rfl
      have hout : ∀ d : Int, d = ((m.natAbs % 10 : Nat) : Int) → bs [48 + d] ++ bs l.reverse = bs (l ++ [48 + ((m.natAbs % 10 : Nat) : Int)]).reverse := by
        intro d hd'
        rw [List.reverse_append, bs_append, hd']; rfl
      by_cases hneg : m.tmod 10 < 0
      · have hng : decide (m.tmod 10 < 0) = true := decide_eq_true hneg
        have hd' : 0 - m.tmod 10 = ((m.natAbs % 10 : Nat) : Int) := by rw [htm] at hneg ⊢; split at hneg <;> simp_all <;> omega
        refine piece_ok mixed hc (fSn m (m.tdiv 10) (bs l.reverse) (bs (l ++ [48 + ((m.natAbs % 10 : Nat) : Int)]).reverse) (decide (n < 0))) ?_ hrec
        simp only [All]
        repeat' (first | exact trivial | with_reducible apply And.intro)
        all_goals (first | exact aG _ | exact aP _ _ | exact aA _ _ | exact aE _ | omega | rfl | (intros; first | assumption | exact True.intro | rfl | exact absurd (show false = true by assumption) Bool.false_ne_true | ((repeat' (first | assumption | apply anda | apply notf)); done)) | (exact hmt) | (exact hng) | (exact hw) | (intro i hi; exact ⟨_, rfl⟩) | (show (bs [48 + (0 - m.tmod 10)]).size + (bs l.reverse).size ≤ _; rw [hsz, bs_size]; show 1 + l.length ≤ _; omega) | (exact hout _ hd') | (show (_ : Int) ≤ _; rw [hd']; omega) | (simp only [imin, imax]; omega))
      · have hng : decide (m.tmod 10 < 0) = false := decide_eq_false hneg
        have hd' : m.tmod 10 = ((m.natAbs % 10 : Nat) : Int) := by rw [htm] at hneg ⊢; split at hneg <;> simp_all <;> omega
        refine piece_ok mixed hc (fSp m (m.tdiv 10) (bs l.reverse) (bs (l ++ [48 + ((m.natAbs % 10 : Nat) : Int)]).reverse) (decide (n < 0))) ?_ hrec
        simp only [All]
        repeat' (first | exact trivial | with_reducible apply And.intro)
        all_goals (first | exact aG _ | exact aP _ _ | exact aA _ _ | exact aE _ | omega | rfl | (intros; first | assumption | exact True.intro | rfl | exact absurd (show false = true by assumption) Bool.false_ne_true | ((repeat' (first | assumption | apply anda | apply notf)); done)) | (exact hmt) | (exact hng) | (exact hw) | (intro i hi; exact ⟨_, rfl⟩) | (show (bs [48 + m.tmod 10]).size + (bs l.reverse).size ≤ _; rw [hsz, bs_size]; show 1 + l.length ≤ _; omega) | (exact hout _ hd') | (show (_ : Int) ≤ _; rw [hd']; omega) | (simp only [imin, imax]; omega))
  refine piece_ok mixed hc (fSz n (bs [])) ?_ (lp 20 n [] rfl (by omega) rfl (fun h => by omega) (fun h => h) h0 h1)
  simp only [All]
  repeat' (first | exact trivial | with_reducible apply And.intro)
  all_goals (first | exact aG _ | exact aP _ _ | exact aA _ _ | exact aE _ | omega | rfl | (intros; first | assumption | exact True.intro | rfl | exact absurd (show false = true by assumption) Bool.false_ne_true | ((repeat' (first | assumption | apply anda | apply notf)); done)) | (exact hz') | rfl)
def lsI (n : Nat) (f : Nat → Int) : List Int := (List.range n).map f
theorem lsI_ap (n : Nat) (f : Nat → Int) (x : Int) : lsI (n + 1) (apF n f x) = lsI n f ++ [x] := by
  simp only [lsI, List.range_succ, List.map_append, List.map_cons, List.map_nil]
  congr 1
  · exact List.map_congr_left (fun i hi => by simp [apF, List.mem_range.1 hi])
  · simp [apF]
theorem lsI_rev (n : Nat) (f g : Nat → Int) (h : ∀ r, r < n → g r = f (n - 1 - r)) : lsI n g = (lsI n f).reverse := by
  apply List.ext_getElem
  · simp [lsI]
  · intro i h1 h2
    simp only [lsI, List.length_map, List.length_range] at h1
    simp [lsI, h i h1]
theorem con_FormatInt_i (n : Int) (h0 : -9223372036854775808 ≤ n) (h1 : n ≤ 9223372036854775807) : Con Try.prog 53 0 [] [.p (.int .i64 n)] [] (.p (.str (fmtI n))) := by
  refine con_start Try.func53 rfl (by kernel_rfl) rfl (fun c hc => ?_)
  by_cases hz : n = 0
  · subst hz
    refine path_ok mixed Try.func53 hc (fI0 0 (fmtI 0)) ?_
    simp only [All]
    repeat' (first | exact trivial | with_reducible apply And.intro)
    all_goals (first | exact aG _ | exact aP _ _ | exact aA _ _ | exact aE _ | omega | rfl | (intros; first | assumption | exact True.intro | rfl | exact absurd (show false = true by assumption) Bool.false_ne_true | ((repeat' (first | assumption | apply anda | apply notf)); done)) | rfl | (exact ByteArray.ext (by rw [fmtI, if_pos rfl, bs_data]; rfl)))
  have hz' : (n == 0) = false := by simpa using hz
  have lr : ∀ L f0, L ≤ 21 → lsI L f0 = fmtL n → ∀ d i f, i + d = L → i ≤ L → 2 * i ≤ L + 1 → (∀ r, r < L → f r = if r < i ∨ L - i ≤ r then f0 (L - 1 - r) else f0 r) →
      Run Try.prog c 53 [.code (cAt (bodyOf Try.f53) [1, 1, 1, 1, 1, 0, 1, 0, 0]), .inLoop (cAt (bodyOf Try.f53) [1, 1, 1, 1, 1, 0, 1, 0, 0]), .inBlock 2, .code (cAt (bodyOf Try.f53) [1, 1, 1, 1, 1, 1])] (SFr L i ((L : Int) - 1 - i) f) (Post c [] (.p (.str (fmtI n)))) := by
    intro L f0 hL hl d
    have fin : ∀ i f, i ≤ L → 2 * i ≤ L + 1 → L ≤ 2 * i + 1 → (∀ r, r < L → f r = if r < i ∨ L - i ≤ r then f0 (L - 1 - r) else f0 r) →
        Run Try.prog c 53 [.code (cAt (bodyOf Try.f53) [1, 1, 1, 1, 1, 0, 1, 0, 0]), .inLoop (cAt (bodyOf Try.f53) [1, 1, 1, 1, 1, 0, 1, 0, 0]), .inBlock 2, .code (cAt (bodyOf Try.f53) [1, 1, 1, 1, 1, 1])] (SFr L i ((L : Int) - 1 - i) f) (Post c [] (.p (.str (fmtI n)))) := by
      intro i f hi hi2 hi3 hf
      have hd : decide ((i : Int) < (L : Int) - 1 - i) = false := decide_eq_false (by omega)
      have hrev : ∀ r, r < L → f r = f0 (L - 1 - r) := by
        intro r hr
        rw [hf r hr]
        split
        · rfl
        · rename_i h
          rw [show L - 1 - r = r by omega]
      have he := lsI_rev L f0 f hrev
      refine path_ok mixed Try.func53 hc (fIe L i ((L : Int) - 1 - i) f (fmtI n)) ?_
      simp only [All]
      repeat' (first | exact trivial | with_reducible apply And.intro)
      all_goals (first | exact aG _ | exact aP _ _ | exact aA _ _ | exact aE _ | omega | rfl | (intros; first | assumption | exact True.intro | rfl | exact absurd (show false = true by assumption) Bool.false_ne_true | ((repeat' (first | assumption | apply anda | apply notf)); done)) | (exact hd) | (intro r hr; exact ⟨_, rfl⟩) | (rw [bytesOf_bs]; show bs (lsI L f) = _; rw [he, hl, fmtI, if_neg hz]))
    induction d with
    | zero =>
      intro i f hi hi1 hi2 hf
      exact fin i f hi1 hi2 (by omega) hf
    | succ d ih =>
      intro i f hi hi1 hi2 hf
      by_cases hlt : (i : Int) < (L : Int) - 1 - i
      · have hd : decide ((i : Int) < (L : Int) - 1 - i) = true := decide_eq_true hlt
        have hj : ((L : Int) - 1 - i).toNat = L - 1 - i := by omega
        have hrec := ih (i + 1) (swF i ((L : Int) - 1 - i).toNat f) (by omega) (by omega) (by omega) (by
          intro r hr
          rw [hj]
          unfold swF
          by_cases e1 : r = L - 1 - i
          · rw [if_pos e1, if_pos (by omega), hf i (by omega), if_neg (by omega), e1]
            rw [show L - 1 - (L - 1 - i) = i by omega]
          · rw [if_neg e1]
            by_cases e2 : r = i
            · rw [if_pos e2, if_pos (by omega), hf (L - 1 - i) (by omega), if_neg (by omega), e2]
            · rw [if_neg e2, hf r hr]
              by_cases e3 : r < i ∨ L - i ≤ r
              · rw [if_pos e3, if_pos (by omega)]
              · rw [if_neg e3, if_neg (by omega)])
        rw [show (L : Int) - 1 - ((i + 1 : Nat) : Int) = (L : Int) - 1 - i - 1 by omega] at hrec
        refine piece_ok mixed hc (fIs L i ((L : Int) - 1 - i) f) ?_ hrec
        simp only [All]
        repeat' (first | exact trivial | with_reducible apply And.intro)
        all_goals (first | exact aG _ | exact aP _ _ | exact aA _ _ | exact aE _ | omega | rfl | (intros; first | assumption | exact True.intro | rfl | exact absurd (show false = true by assumption) Bool.false_ne_true | ((repeat' (first | assumption | apply anda | apply notf)); done)) | (exact hd) | (intro r hr; generalize ((L : Int) - 1 - i).toNat = J; by_cases e1 : r = J <;> by_cases e2 : r = i <;> (first | (subst e2; simp [e1, swF, cvtL, cvt, tg, tru, All]; done) | (simp [e1, e2, swF, cvtL, cvt, tg, tru, All]; done))) | (simp only [imin, imax]; omega))
      · exact fin i f hi1 hi2 (by omega) hf
  have lp : ∀ f m l g, l + f = 20 → m.natAbs < 10 ^ f → dg 20 n.natAbs = lsI l g ++ dg f m.natAbs → (n < 0 → m ≤ 0) → (0 ≤ n → 0 ≤ m) → -9223372036854775808 ≤ m → m ≤ 9223372036854775807 →
      Run Try.prog c 53 [.code (cAt (bodyOf Try.f53) [1, 1, 1, 0, 1, 0, 0]), .inLoop (cAt (bodyOf Try.f53) [1, 1, 1, 0, 1, 0, 0]), .inBlock 0, .code (cAt (bodyOf Try.f53) [1, 1, 1, 1])] (SFi n m l g) (Post c [] (.p (.str (fmtI n)))) := by
    have fin : ∀ l g, dg 20 n.natAbs = lsI l g → l ≤ 20 → Run Try.prog c 53 [.code (cAt (bodyOf Try.f53) [1, 1, 1, 0, 1, 0, 0]), .inLoop (cAt (bodyOf Try.f53) [1, 1, 1, 0, 1, 0, 0]), .inBlock 0, .code (cAt (bodyOf Try.f53) [1, 1, 1, 1])] (SFi n 0 l g) (Post c [] (.p (.str (fmtI n)))) := by
      intro l g hl hl2
      by_cases hn : n < 0
      · have hd : decide (n < 0) = true := decide_eq_true hn
        have hr := lr (l + 1) (apF l g 45) (by omega) (by rw [lsI_ap, fmtL, if_pos hn, hl]) (l + 1) 0 (apF l g 45) (by omega) (by omega) (by omega) (fun r hr => by rw [if_neg (by omega)])
        rw [show ((l + 1 : Nat) : Int) - 1 - ((0 : Nat) : Int) = ((l + 1 : Nat) : Int) - 1 by omega] at hr
        refine piece_ok mixed hc (fIt n 0 l g) ?_ hr
        simp only [All]
        repeat' (first | exact trivial | with_reducible apply And.intro)
        all_goals (first | exact aG _ | exact aP _ _ | exact aA _ _ | exact aE _ | omega | rfl | (intros; first | assumption | exact True.intro | rfl | exact absurd (show false = true by assumption) Bool.false_ne_true | ((repeat' (first | assumption | apply anda | apply notf)); done)) | (exact hd) | (intro j hj; by_cases h' : j < l <;> simp [h', apF, cvtL, cvt, tg, tru, All]; done) | (simp only [imin, imax]; omega))
      · have hd : decide (n < 0) = false := decide_eq_false hn
        have hr := lr l g (by omega) (by rw [fmtL, if_neg hn, hl, List.append_nil]) l 0 g (by omega) (by omega) (by omega) (fun r hr => by rw [if_neg (by omega)])
        rw [show (l : Int) - 1 - ((0 : Nat) : Int) = (l : Int) - 1 by omega] at hr
        refine piece_ok mixed hc (fIf n 0 l g) ?_ hr
        simp only [All]
        repeat' (first | exact trivial | with_reducible apply And.intro)
        all_goals (first | exact aG _ | exact aP _ _ | exact aA _ _ | exact aE _ | omega | rfl | (intros; first | assumption | exact True.intro | rfl | exact absurd (show false = true by assumption) Bool.false_ne_true | ((repeat' (first | assumption | apply anda | apply notf)); done)) | (exact hd) | (intro j hj; simp [All, aEt]; done) | (simp only [imin, imax]; omega))
    intro f
    induction f with
    | zero =>
      intro m l g hl hm hd hs1 hs2 hb1 hb2
      obtain rfl : m = 0 := by simp at hm; omega
      exact fin l g (by rw [hd]; simp [dg]) (by omega)
    | succ f ih =>
      intro m l g hl hm hd hs1 hs2 hb1 hb2
      by_cases hm0 : m = 0
      · subst hm0
        exact fin l g (by rw [hd]; simp [dg]) (by omega)
      have hmt : (m != 0) = true := by simpa using hm0
      have hma : m.natAbs ≠ 0 := by omega
      have htd := td10 m
      have hrec := ih (m.tdiv 10) (l + 1) (apF l g (48 + ((m.natAbs % 10 : Nat) : Int))) (by omega) (by rw [td_abs]; rw [Nat.pow_succ] at hm; omega) (by rw [hd, td_abs, dg, if_neg hma, lsI_ap]; simp) (by intro h; rw [htd]; split <;> omega) (by intro h; rw [htd]; split <;> omega) (by rw [htd]; split <;> omega) (by rw [htd]; split <;> omega)
      have hw : IntKind.i64.wrap (m.tdiv 10) = m.tdiv 10 := wrap_in (k := .i64) (by show (-9223372036854775808 : Int) ≤ _; rw [htd]; split <;> omega) (by show _ ≤ (9223372036854775807 : Int); rw [htd]; split <;> omega)
      have htm := tm10 m
      by_cases hneg : m.tmod 10 < 0
      · have hng : decide (m.tmod 10 < 0) = true := decide_eq_true hneg
        have hd' : 0 - m.tmod 10 = ((m.natAbs % 10 : Nat) : Int) := by rw [htm] at hneg ⊢; split at hneg <;> simp_all <;> omega
        refine piece_ok mixed hc (fIn n m (m.tdiv 10) l g (48 + ((m.natAbs % 10 : Nat) : Int))) ?_ hrec
        simp only [All]
        repeat' (first | exact trivial | with_reducible apply And.intro)
        all_goals (first | exact aG _ | exact aP _ _ | exact aA _ _ | exact aE _ | omega | rfl | (intros; first | assumption | exact True.intro | rfl | exact absurd (show false = true by assumption) Bool.false_ne_true | ((repeat' (first | assumption | apply anda | apply notf)); done)) | (exact hmt) | (exact hng) | (exact hw) | (intro j hj; by_cases h' : j < l <;> simp [h', hd', apF, cvtL, cvt, tg, tru, All]; done) | (show (_ : Int) ≤ _; rw [hd']; omega) | (simp only [imin, imax]; omega))
      · have hng : decide (m.tmod 10 < 0) = false := decide_eq_false hneg
        have hd' : m.tmod 10 = ((m.natAbs % 10 : Nat) : Int) := by rw [htm] at hneg ⊢; split at hneg <;> simp_all <;> omega
        refine piece_ok mixed hc (fIp n m (m.tdiv 10) l g (48 + ((m.natAbs % 10 : Nat) : Int))) ?_ hrec
        simp only [All]
        repeat' (first | exact trivial | with_reducible apply And.intro)
        all_goals (first | exact aG _ | exact aP _ _ | exact aA _ _ | exact aE _ | omega | rfl | (intros; first | assumption | exact True.intro | rfl | exact absurd (show false = true by assumption) Bool.false_ne_true | ((repeat' (first | assumption | apply anda | apply notf)); done)) | (exact hmt) | (exact hng) | (exact hw) | (intro j hj; by_cases h' : j < l <;> simp [h', hd', apF, cvtL, cvt, tg, tru, All]; done) | (show (_ : Int) ≤ _; rw [hd']; omega) | (simp only [imin, imax]; omega))
  refine piece_ok mixed hc (fIz n) ?_ (lp 20 n 0 (fun _ => 0) rfl (by omega) (by simp [lsI]) (fun h => by omega) (fun h => h) h0 h1)
  simp only [All]
  repeat' (first | exact trivial | with_reducible apply And.intro)
  all_goals (first | exact aG _ | exact aP _ _ | exact aA _ _ | exact aE _ | omega | rfl | (intros; first | assumption | exact True.intro | rfl | exact absurd (show false = true by assumption) Bool.false_ne_true | ((repeat' (first | assumption | apply anda | apply notf)); done)) | (exact hz') | (intro j hj; exact absurd hj (Nat.not_lt_zero _)) | rfl)
end Go.Proofs.Ytgdbnnmogddkaaa.Mach
namespace Go.Proofs.Ytgdbnnmogddkaaa.Mach
open Go
set_option linter.unusedVariables false
set_option linter.unusedSimpArgs false
def sE : ByteArray := ⟨#[]⟩
def sSp : ByteArray := ⟨#[32]⟩
end Go.Proofs.Ytgdbnnmogddkaaa.Mach
namespace Go.Proofs.Ytgdbnnmogddkaaa.Mach
open Go
set_option linter.unusedVariables false
set_option linter.unusedSimpArgs false
def sCol : ByteArray := ⟨#[58]⟩
def sDash : ByteArray := ⟨#[45]⟩
def gzA (g : Nat → T_Bar) (nb : Nat) (N : Int) : AV := .agg [.p (.int .i64 N), brL g nb]
def gzO (g : Nat → T_Bar) (nb : Nat) (N : Int) : Ob := ⟨true, 2, 1, fun _ => [.p (.int .i64 N), brL g nb]⟩
def FGi (g : Nat → T_Bar) (nb : Nat) (N : Int) (i : Nat) (s : ByteArray) : St :=
  ⟨[gzA g nb N, .pt 2 0 0 0, .p .any, .p (.str s)] ++ List.replicate 10 anyA ++ [brL g nb, .p (.int .i64 nb), .p (.int .i64 i)] ++ List.replicate 16 anyA, [(0, gzO g nb N)], 1⟩
def FGs (g : Nat → T_Bar) (nb : Nat) (N : Int) (i : Nat) (s : ByteArray) : St :=
  ⟨[gzA g nb N, .pt 2 0 0 0, .p .any, .p (.str s), .p (.int .i64 i)] ++ List.replicate 34 anyA, [(0, gzO g nb N)], 1⟩
theorem yG0 (g : Nat → T_Bar) (nb : Nat) (N : Int) :
    pathOb Try.prog Try.f90 0 [.reg [oT, oT], .reg [oT, ⟨true, (some ⟨[], [], [], 1, [], .p (.bool false)⟩), none⟩, oT], .dec true, .reg [oT]] [.code (bodyOf Try.f90)] (start Try.f90 [] 0 [gzA g nb N]) [] 1 [] (.p (.str sE)) =
    some [((0 : Nat) < 1),
  Con Try.prog 77 0 [] [.agg [.p (.int .i64 N), .p (.seq true 2 nb (fun i => [.int .i64 ((g i).1), .int .i64 ((g i).2.1)]))]] [] (.p (.bool false)),
  ((!false) = true),
  (ByteArray.mk #[] = sE)] := by kernel_rfl
theorem yGz (g : Nat → T_Bar) (nb : Nat) (N : Int) (t : ByteArray) :
    pieceOb Try.prog 0 [.reg [oT, oT], .reg [oT, ⟨true, (some ⟨[], [], [], 1, [], .p (.bool true)⟩), none⟩, oT], .dec false, .reg [oT, oT, ⟨true, (some ⟨[], [], [], 1, [], .p (.str t)⟩), none⟩, oT, oT], .reg [oT, oT, oT, oT], .head] [.code (bodyOf Try.f90)] (start Try.f90 [] 0 [gzA g nb N]) [0] 1 (FGi g nb N 0 (t ++ sCol)) =
    some ([.code (cAt (bodyOf Try.f90) [1, 1, 1, 0, 1, 0, 0]), .inLoop (cAt (bodyOf Try.f90) [1, 1, 1, 0, 1, 0, 0]), .inBlock 0, .code (cAt (bodyOf Try.f90) [1, 1, 1, 1])], [((0 : Nat) < 1),
  Con Try.prog 77 0 [] [.agg [.p (.int .i64 N), .p (.seq true 2 nb (fun i => [.int .i64 ((g i).1), .int .i64 ((g i).2.1)]))]] [] (.p (.bool true)),
  ((!true) = false),
  ((0 : Nat) < 1),
  Con Try.prog 53 0 [] [.p (.int .i64 N)] [] (.p (.str t)),
  (((t.size + (ByteArray.mk #[58]).size) : Nat) ≤ 9223372036854775807),
  ((0 : Nat) < 1),
  (AI N),
  (AN nb),
  (AP nb (fun i => [.int .i64 ((g i).1), .int .i64 ((g i).2.1)])),
  (AN 0),
  (t ++ ByteArray.mk #[58] = t ++ sCol),
  (AN nb),
  (AP nb (fun i => [.int .i64 ((g i).1), .int .i64 ((g i).2.1)])),
  (AI ((↑nb : Int))),
  ((0 : Int) = (↑0 : Int)),
  ((([AV.p (PV.int IntKind.i64 N), brL g nb].length) : Nat) = 2),
  ((1 : Nat) ≤ 1),
  ((1 : Nat) ≤ 1),
  (AI N),
  (AN nb),
  (AP nb (fun i => [.int .i64 ((g i).1), .int .i64 ((g i).2.1)]))]) := by kernel_rfl
theorem yGt (g : Nat → T_Bar) (nb : Nat) (N : Int) (i : Nat) (s t u : ByteArray) :
    pieceOb Try.prog 0 [.reg [oT], .dec true, .reg [oT, oT, oT, oT], .reg [oT, oT, oT, oT, ⟨true, (some ⟨[], [], [], 1, [], .p (.str t)⟩), none⟩, oT, oT, oT, oT, ⟨true, (some ⟨[], [], [], 1, [], .p (.str u)⟩), none⟩, oT, oT], .reg [oT, oT], .head] [.code (cAt (bodyOf Try.f90) [1, 1, 1, 0, 1, 0, 0]), .inLoop (cAt (bodyOf Try.f90) [1, 1, 1, 0, 1, 0, 0]), .inBlock 0, .code (cAt (bodyOf Try.f90) [1, 1, 1, 1])] (FGi g nb N i s) [0] 1 (FGi g nb N (i + 1) ((((s ++ sSp) ++ t) ++ sDash) ++ u)) =
    some ([.code (cAt (bodyOf Try.f90) [1, 1, 1, 0, 1, 0, 0]), .inLoop (cAt (bodyOf Try.f90) [1, 1, 1, 0, 1, 0, 0]), .inBlock 0, .code (cAt (bodyOf Try.f90) [1, 1, 1, 1])], [((decide ((↑i : Int) < (↑nb : Int))) = true),
  ((0 : Int) ≤ (↑i : Int)),
  (((↑i : Int) : Int) < (↑nb : Int)),
  ((0 : Nat) < 1),
  ((true = true) → (AN 1)),
  (((s.size + (ByteArray.mk #[32]).size) : Nat) ≤ 9223372036854775807),
  ((0 : Nat) < 1),
  Con Try.prog 53 0 [] [.p (.int .i64 ((g i).1))] [] (.p (.str t)),
  ((((s ++ ByteArray.mk #[32]).size + t.size) : Nat) ≤ 9223372036854775807),
  ((((s ++ ByteArray.mk #[32] ++ t).size + (ByteArray.mk #[45]).size) : Nat) ≤ 9223372036854775807),
  ((0 : Nat) < 1),
  Con Try.prog 53 0 [] [.p (.int .i64 ((g i).2.1))] [] (.p (.str u)),
  ((((s ++ ByteArray.mk #[32] ++ t ++ ByteArray.mk #[45]).size + u.size) : Nat) ≤ 9223372036854775807),
  (((-9223372036854775808) : Int) ≤ ((↑i : Int) + 1)),
  ((((↑i : Int) + 1) : Int) ≤ 9223372036854775807),
  (AI N),
  (AN nb),
  (AP nb (fun i_1 => [.int .i64 ((g i_1).1), .int .i64 ((g i_1).2.1)])),
  (AN 0),
  (s ++ ByteArray.mk #[32] ++ t ++ ByteArray.mk #[45] ++ u = s ++ sSp ++ t ++ sDash ++ u),
  (AN nb),
  (AP nb (fun i_1 => [.int .i64 ((g i_1).1), .int .i64 ((g i_1).2.1)])),
  (AI ((↑nb : Int))),
  ((((↑i : Int) + 1) : Int) = (↑(i + 1) : Int)),
  (AN 2),
  ((1 : Nat) ≤ 1),
  ((1 : Nat) ≤ 1),
  (AI N),
  (AN nb),
  (AP nb (fun i_1 => [.int .i64 ((g i_1).1), .int .i64 ((g i_1).2.1)]))]) := by kernel_rfl
theorem yGe (g : Nat → T_Bar) (nb : Nat) (N : Int) (i : Nat) (s : ByteArray) :
    pathOb Try.prog Try.f90 0 [.reg [oT], .dec false, .reg [oT, oT]] [.code (cAt (bodyOf Try.f90) [1, 1, 1, 0, 1, 0, 0]), .inLoop (cAt (bodyOf Try.f90) [1, 1, 1, 0, 1, 0, 0]), .inBlock 0, .code (cAt (bodyOf Try.f90) [1, 1, 1, 1])] (FGi g nb N i s) [] 1 [] (.p (.str s)) =
    some [((decide ((↑i : Int) < (↑nb : Int))) = false),
  (s = s)] := by kernel_rfl
theorem zG0 (g : Nat → T_Bar) (nb : Nat) (N : Int) :
    pathOb Try.prog Try.f88 0 [.reg [oT, oT], .reg [oT, ⟨true, (some ⟨[], [], [], 1, [], .p (.bool false)⟩), none⟩, oT], .dec true, .reg [oT]] [.code (bodyOf Try.f88)] (start Try.f88 [] 0 [gzA g nb N]) [] 1 [] (.p (.str sE)) =
    some [((0 : Nat) < 1),
  Con Try.prog 73 0 [] [.agg [.p (.int .i64 N), .p (.seq true 2 nb (fun i => [.int .i64 ((g i).1), .int .i64 ((g i).2.1)]))]] [] (.p (.bool false)),
  ((!false) = true),
  (ByteArray.mk #[] = sE)] := by kernel_rfl
theorem zGz (g : Nat → T_Bar) (nb : Nat) (N : Int) (t : ByteArray) :
    pieceOb Try.prog 0 [.reg [oT, oT], .reg [oT, ⟨true, (some ⟨[], [], [], 1, [], .p (.bool true)⟩), none⟩, oT], .dec false, .reg [oT, oT, ⟨true, (some ⟨[], [], [], 1, [], .p (.str t)⟩), none⟩, oT, oT], .reg [oT], .head] [.code (bodyOf Try.f88)] (start Try.f88 [] 0 [gzA g nb N]) [0] 1 (FGs g nb N 0 (t ++ sCol)) =
    some ([.code (cAt (bodyOf Try.f88) [1, 1, 1, 0, 1, 0, 0]), .inLoop (cAt (bodyOf Try.f88) [1, 1, 1, 0, 1, 0, 0]), .inBlock 0, .code (cAt (bodyOf Try.f88) [1, 1, 1, 1])], [((0 : Nat) < 1),
  Con Try.prog 73 0 [] [.agg [.p (.int .i64 N), .p (.seq true 2 nb (fun i => [.int .i64 ((g i).1), .int .i64 ((g i).2.1)]))]] [] (.p (.bool true)),
  ((!true) = false),
  ((0 : Nat) < 1),
  Con Try.prog 47 0 [] [.p (.int .i64 N)] [] (.p (.str t)),
  (((t.size + (ByteArray.mk #[58]).size) : Nat) ≤ 9223372036854775807),
  (AI N),
  (AN nb),
  (AP nb (fun i => [.int .i64 ((g i).1), .int .i64 ((g i).2.1)])),
  (AN 0),
  (t ++ ByteArray.mk #[58] = t ++ sCol),
  ((0 : Int) = (↑0 : Int)),
  ((([AV.p (PV.int IntKind.i64 N), brL g nb].length) : Nat) = 2),
  ((1 : Nat) ≤ 1),
  ((1 : Nat) ≤ 1),
  (AI N),
  (AN nb),
  (AP nb (fun i => [.int .i64 ((g i).1), .int .i64 ((g i).2.1)]))]) := by kernel_rfl
theorem zGt (g : Nat → T_Bar) (nb : Nat) (N : Int) (i : Nat) (s t u : ByteArray) :
    pieceOb Try.prog 0 [.reg [oT, oT, oT, oT, oT], .dec true, .reg [oT, oT, oT, oT, oT, oT, oT, oT, ⟨true, (some ⟨[], [], [], 1, [], .p (.str t)⟩), none⟩, oT, oT, oT, oT, oT, oT, oT, oT, ⟨true, (some ⟨[], [], [], 1, [], .p (.str u)⟩), none⟩, oT, oT], .reg [oT, oT, oT], .head] [.code (cAt (bodyOf Try.f88) [1, 1, 1, 0, 1, 0, 0]), .inLoop (cAt (bodyOf Try.f88) [1, 1, 1, 0, 1, 0, 0]), .inBlock 0, .code (cAt (bodyOf Try.f88) [1, 1, 1, 1])] (FGs g nb N i s) [0] 1 (FGs g nb N (i + 1) ((((s ++ sSp) ++ t) ++ sDash) ++ u)) =
    some ([.code (cAt (bodyOf Try.f88) [1, 1, 1, 0, 1, 0, 0]), .inLoop (cAt (bodyOf Try.f88) [1, 1, 1, 0, 1, 0, 0]), .inBlock 0, .code (cAt (bodyOf Try.f88) [1, 1, 1, 1])], [((0 : Nat) < 1),
  ((decide ((↑i : Int) < (↑nb : Int))) = true),
  (((s.size + (ByteArray.mk #[32]).size) : Nat) ≤ 9223372036854775807),
  ((0 : Nat) < 1),
  ((0 : Int) ≤ (↑i : Int)),
  (((↑i : Int) : Int) < (↑nb : Int)),
  Con Try.prog 47 0 [] [.p (.int .i64 ((g i).1))] [] (.p (.str t)),
  ((((s ++ ByteArray.mk #[32]).size + t.size) : Nat) ≤ 9223372036854775807),
  ((((s ++ ByteArray.mk #[32] ++ t).size + (ByteArray.mk #[45]).size) : Nat) ≤ 9223372036854775807),
  ((0 : Nat) < 1),
  ((0 : Int) ≤ (↑i : Int)),
  (((↑i : Int) : Int) < (↑nb : Int)),
  Con Try.prog 47 0 [] [.p (.int .i64 ((g i).2.1))] [] (.p (.str u)),
  ((((s ++ ByteArray.mk #[32] ++ t ++ ByteArray.mk #[45]).size + u.size) : Nat) ≤ 9223372036854775807),
  (((-9223372036854775808) : Int) ≤ ((↑i : Int) + 1)),
  ((((↑i : Int) + 1) : Int) ≤ 9223372036854775807),
  (AI N),
  (AN nb),
  (AP nb (fun i_1 => [.int .i64 ((g i_1).1), .int .i64 ((g i_1).2.1)])),
  (AN 0),
  (s ++ ByteArray.mk #[32] ++ t ++ ByteArray.mk #[45] ++ u = s ++ sSp ++ t ++ sDash ++ u),
  ((((↑i : Int) + 1) : Int) = (↑(i + 1) : Int)),
  (AN 2),
  ((1 : Nat) ≤ 1),
  ((1 : Nat) ≤ 1),
  (AI N),
  (AN nb),
  (AP nb (fun i_1 => [.int .i64 ((g i_1).1), .int .i64 ((g i_1).2.1)]))]) := by kernel_rfl
theorem zGe (g : Nat → T_Bar) (nb : Nat) (N : Int) (i : Nat) (s : ByteArray) :
    pathOb Try.prog Try.f88 0 [.reg [oT, oT, oT, oT, oT], .dec false, .reg [oT, oT]] [.code (cAt (bodyOf Try.f88) [1, 1, 1, 0, 1, 0, 0]), .inLoop (cAt (bodyOf Try.f88) [1, 1, 1, 0, 1, 0, 0]), .inBlock 0, .code (cAt (bodyOf Try.f88) [1, 1, 1, 1])] (FGs g nb N i s) [] 1 [] (.p (.str s)) =
    some [((0 : Nat) < 1),
  ((decide ((↑i : Int) < (↑nb : Int))) = false),
  (s = s)] := by kernel_rfl
theorem z32 : (ByteArray.mk #[32]).size = 1 := rfl
theorem z45 : (ByteArray.mk #[45]).size = 1 := rfl
theorem z58 : (ByteArray.mk #[58]).size = 1 := rfl
theorem zSp : sSp.size = 1 := rfl
theorem zCol : sCol.size = 1 := rfl
theorem zDash : sDash.size = 1 := rfl
def grT (N : Int) (g : Nat → T_Bar) : Nat → ByteArray
  | 0 => fmtI N ++ sCol
  | i + 1 => (((grT N g i ++ sSp) ++ fmtI (g i).1) ++ sDash) ++ fmtI (g i).2.1
theorem grT_size (N : Int) (g : Nat → T_Bar) : ∀ i, (grT N g i).size ≤ 22 + i * 44
  | 0 => by
    have := fmt_size N
    rw [grT, ByteArray.size_append, zCol]; omega
  | i + 1 => by
    have := grT_size N g i
    have h1 := fmt_size (g i).1
    have h2 := fmt_size (g i).2.1
    rw [grT]
    simp only [ByteArray.size_append, zSp, zDash]
    omega
def isG (g : Nat → T_Bar) (nb : Nat) (N : Int) : Bool := isGraphF (N, (nb, g), ())
def gfB (g : Nat → T_Bar) (nb : Nat) (N : Int) : ByteArray := if isG g nb N = true then grT N g nb else sE
theorem isG_in {g : Nat → T_Bar} {nb : Nat} {N : Int} (h : isG g nb N = true) : (1 ≤ N ∧ N ≤ 8) ∧ nb ≤ 24 ∧ ∀ e, e < nb → 0 ≤ (g e).1 ∧ (g e).1 < (g e).2.1 ∧ (g e).2.1 < N := by
  unfold isG at h
  have hN : 1 ≤ N := by
    unfold isGraphF at h
    split at h
    case isFalse => cases h
    rename_i hc
    have h4 := hc.1
    simp only [inB, Bool.and_eq_true, decide_eq_true_eq] at h4
    exact h4.1
  obtain ⟨M, rfl⟩ : ∃ M : Nat, N = M := ⟨N.toNat, by omega⟩
  obtain ⟨h1, h2, h3⟩ := graph_in h
  exact ⟨by omega, h2, h3⟩
theorem smG (g : Nat → T_Bar) (nb : Nat) (N : Int) (h : nb ≤ 1048576) : smS s_Graph (N, (nb, g), ()) := ⟨by simp [smS, smL], ⟨h, fun i hi => by simp [smS, smL]⟩, True.intro⟩
theorem con_FormatGraph_i (g : Nat → T_Bar) (nb : Nat) (N : Int) (hn : nb ≤ 1048576) : Con Try.prog 90 0 [] [gzA g nb N] [] (.p (.str (gfB g nb N))) := by
  have hg := con_IsGraph_i (N, (nb, g), ()) (smG g nb N hn)
  change Con Try.prog 77 0 [] [gzA g nb N] [] (.p (.bool (isG g nb N))) at hg
  refine con_start Try.func90 rfl (by kernel_rfl) rfl (fun c hc => ?_)
  cases hb : isG g nb N with
  | false =>
    rw [hb] at hg
    rw [show gfB g nb N = sE by simp [gfB, hb]]
    refine path_ok mixed Try.func90 hc (yG0 g nb N) ?_
    simp only [All]
    repeat' (first | exact trivial | with_reducible apply And.intro)
    all_goals (first | exact aG _ | exact aP _ _ | exact aA _ _ | exact aE _ | omega | rfl | (intros; first | assumption | exact True.intro | rfl | exact absurd (show false = true by assumption) Bool.false_ne_true | ((repeat' (first | assumption | apply anda | apply notf)); done)) | (exact hg) | rfl)
  | true =>
    rw [hb] at hg
    rw [show gfB g nb N = grT N g nb by simp [gfB, hb]]
    obtain ⟨hN, hnb, hok⟩ := isG_in hb
    have lo : ∀ d i, i + d = nb → Run Try.prog c 90 [.code (cAt (bodyOf Try.f90) [1, 1, 1, 0, 1, 0, 0]), .inLoop (cAt (bodyOf Try.f90) [1, 1, 1, 0, 1, 0, 0]), .inBlock 0, .code (cAt (bodyOf Try.f90) [1, 1, 1, 1])] (FGi g nb N i (grT N g i)) (Post c [] (.p (.str (grT N g nb)))) := by
      intro d
      induction d with
      | zero =>
        intro i hi
        obtain rfl : i = nb := by omega
        have hd : decide ((i : Int) < (i : Int)) = false := by simp
        refine path_ok mixed Try.func90 hc (yGe g i N i _) ?_
        simp only [All]
        repeat' (first | exact trivial | with_reducible apply And.intro)
        all_goals (first | exact aG _ | exact aP _ _ | exact aA _ _ | exact aE _ | omega | rfl | (intros; first | assumption | exact True.intro | rfl | exact absurd (show false = true by assumption) Bool.false_ne_true | ((repeat' (first | assumption | apply anda | apply notf)); done)) | (exact hd))
      | succ d ih =>
        intro i hi
        have hd : decide ((i : Int) < (nb : Int)) = true := decide_eq_true (by omega)
        have hrec := ih (i + 1) (by omega)
        have hbar := hok i (by omega)
        have hz := grT_size N g i
        have c1 := con_FormatInt_i (g i).1 (by omega) (by omega)
        have c2 := con_FormatInt_i (g i).2.1 (by omega) (by omega)
        have s1 := fmt_size (g i).1
        have s2 := fmt_size (g i).2.1
        rw [grT] at hrec
        generalize grT N g i = s at hrec hz ⊢
        generalize fmtI (g i).1 = t at hrec c1 s1
        generalize fmtI (g i).2.1 = u at hrec c2 s2
        refine piece_ok mixed hc (yGt g nb N i s t u) ?_ hrec
        simp only [All]
        repeat' (first | exact trivial | with_reducible apply And.intro)
        all_goals (first | exact aG _ | exact aP _ _ | exact aA _ _ | exact aE _ | omega | rfl | (intros; first | assumption | exact True.intro | rfl | exact absurd (show false = true by assumption) Bool.false_ne_true | ((repeat' (first | assumption | apply anda | apply notf)); done)) | (exact hd) | (exact c1) | (exact c2) | (simp only [ByteArray.size_append, z32, z45]; omega) | (simp; omega))
    have c0 := con_FormatInt_i N (by omega) (by omega)
    have s0 := fmt_size N
    refine piece_ok mixed hc (yGz g nb N (fmtI N)) ?_ (lo nb 0 (by omega))
    simp only [All]
    repeat' (first | exact trivial | with_reducible apply And.intro)
    all_goals (first | exact aG _ | exact aP _ _ | exact aA _ _ | exact aE _ | omega | rfl | (intros; first | assumption | exact True.intro | rfl | exact absurd (show false = true by assumption) Bool.false_ne_true | ((repeat' (first | assumption | apply anda | apply notf)); done)) | (exact hg) | (exact c0) | rfl | (simp only [ByteArray.size_append, z58]; omega) | (simp; done))
theorem con_FormatGraph_s (g : Nat → T_Bar) (nb : Nat) (N : Int) (hn : nb ≤ 1048576) : Con Try.prog 88 0 [] [gzA g nb N] [] (.p (.str (gfB g nb N))) := by
  have hg := con_IsGraph_s (N, (nb, g), ()) (smG g nb N hn)
  change Con Try.prog 73 0 [] [gzA g nb N] [] (.p (.bool (isG g nb N))) at hg
  refine con_start Try.func88 rfl (by kernel_rfl) rfl (fun c hc => ?_)
  cases hb : isG g nb N with
  | false =>
    rw [hb] at hg
    rw [show gfB g nb N = sE by simp [gfB, hb]]
    refine path_ok mixed Try.func88 hc (zG0 g nb N) ?_
    simp only [All]
    repeat' (first | exact trivial | with_reducible apply And.intro)
    all_goals (first | exact aG _ | exact aP _ _ | exact aA _ _ | exact aE _ | omega | rfl | (intros; first | assumption | exact True.intro | rfl | exact absurd (show false = true by assumption) Bool.false_ne_true | ((repeat' (first | assumption | apply anda | apply notf)); done)) | (exact hg) | rfl)
  | true =>
    rw [hb] at hg
    rw [show gfB g nb N = grT N g nb by simp [gfB, hb]]
    obtain ⟨hN, hnb, hok⟩ := isG_in hb
    have lo : ∀ d i, i + d = nb → Run Try.prog c 88 [.code (cAt (bodyOf Try.f88) [1, 1, 1, 0, 1, 0, 0]), .inLoop (cAt (bodyOf Try.f88) [1, 1, 1, 0, 1, 0, 0]), .inBlock 0, .code (cAt (bodyOf Try.f88) [1, 1, 1, 1])] (FGs g nb N i (grT N g i)) (Post c [] (.p (.str (grT N g nb)))) := by
      intro d
      induction d with
      | zero =>
        intro i hi
        obtain rfl : i = nb := by omega
        have hd : decide ((i : Int) < (i : Int)) = false := by simp
        refine path_ok mixed Try.func88 hc (zGe g i N i _) ?_
        simp only [All]
        repeat' (first | exact trivial | with_reducible apply And.intro)
        all_goals (first | exact aG _ | exact aP _ _ | exact aA _ _ | exact aE _ | omega | rfl | (intros; first | assumption | exact True.intro | rfl | exact absurd (show false = true by assumption) Bool.false_ne_true | ((repeat' (first | assumption | apply anda | apply notf)); done)) | (exact hd))
      | succ d ih =>
        intro i hi
        have hd : decide ((i : Int) < (nb : Int)) = true := decide_eq_true (by omega)
        have hrec := ih (i + 1) (by omega)
        have hbar := hok i (by omega)
        have hz := grT_size N g i
        have c1 := con_FormatInt_s (g i).1 (by omega) (by omega)
        have c2 := con_FormatInt_s (g i).2.1 (by omega) (by omega)
        have s1 := fmt_size (g i).1
        have s2 := fmt_size (g i).2.1
        rw [grT] at hrec
        generalize grT N g i = s at hrec hz ⊢
        generalize fmtI (g i).1 = t at hrec c1 s1
        generalize fmtI (g i).2.1 = u at hrec c2 s2
        refine piece_ok mixed hc (zGt g nb N i s t u) ?_ hrec
        simp only [All]
        repeat' (first | exact trivial | with_reducible apply And.intro)
        all_goals (first | exact aG _ | exact aP _ _ | exact aA _ _ | exact aE _ | omega | rfl | (intros; first | assumption | exact True.intro | rfl | exact absurd (show false = true by assumption) Bool.false_ne_true | ((repeat' (first | assumption | apply anda | apply notf)); done)) | (exact hd) | (exact c1) | (exact c2) | (simp only [ByteArray.size_append, z32, z45]; omega) | (simp; omega))
    have c0 := con_FormatInt_s N (by omega) (by omega)
    have s0 := fmt_size N
    refine piece_ok mixed hc (zGz g nb N (fmtI N)) ?_ (lo nb 0 (by omega))
    simp only [All]
    repeat' (first | exact trivial | with_reducible apply And.intro)
    all_goals (first | exact aG _ | exact aP _ _ | exact aA _ _ | exact aE _ | omega | rfl | (intros; first | assumption | exact True.intro | rfl | exact absurd (show false = true by assumption) Bool.false_ne_true | ((repeat' (first | assumption | apply anda | apply notf)); done)) | (exact hg) | (exact c0) | rfl | (simp only [ByteArray.size_append, z58]; omega) | (simp; done))
end Go.Proofs.Ytgdbnnmogddkaaa.Mach
namespace Go.Proofs.Ytgdbnnmogddkaaa.Mach
open Go
set_option linter.unusedVariables false
set_option linter.unusedSimpArgs false
def stOt (n : Nat) (f : Nat → ByteArray) : Ob := ⟨false, 1, n, fun i => [.p (.str (f i))]⟩
def stLt (n : Nat) (f : Nat → ByteArray) : AV := .p (.seq true 1 n (fun i => [.str (f i)]))
def kM : ByteArray := ⟨#[109]⟩
def mkF (g f : Nat → ByteArray) (k i : Nat) : ByteArray := if i < k then g i else f i
def STm (m : Int) (o : ByteArray) : St := ⟨[.p (.int .i64 m), .p .any, .p .any, .p (.str o)] ++ List.replicate 16 anyA, [], 0⟩
def STk (n k : Nat) (m : Int) (g f : Nat → ByteArray) : St :=
  ⟨[.ar 1 0 0 n, .p (.int .i64 (m + k)), .p .any, .p .any, .p .any, .p (.int .i64 k)] ++ List.replicate 14 anyA, [(0, stOt n (mkF g f k))], 1⟩
def STh (n k : Nat) (m : Int) (g : Nat → ByteArray) : St :=
  ⟨[stLt n g, .p (.int .i64 (m + k)), .p .any, .p .any, .p .any, .p (.int .i64 k)] ++ List.replicate 16 anyA, [], 0⟩
theorem tMz (k : Int) :
    pieceOb Try.prog 0 [.reg [oT], .reg [oT, oT], .dec false, .reg [oT], .head] [.code (bodyOf Try.f92)] (start Try.f92 [] 0 [.p (.int .i64 k)]) [] 1 (STm k ⟨#[]⟩) =
    some ([.code (cAt (bodyOf Try.f92) [1, 1, 1, 0, 0, 0]), .inLoop (cAt (bodyOf Try.f92) [1, 1, 1, 0, 0, 0]), .inBlock 0, .code (cAt (bodyOf Try.f92) [1, 1, 1, 1])], [((decide (k ≤ 0)) = false),
  (AI k),
  (ByteArray.mk #[] = ByteArray.mk #[])]) := by kernel_rfl
theorem tMa (m : Int) (o o2 : ByteArray) :
    pieceOb Try.prog 0 [.reg [oT, oT], .dec true, .reg [oT, oT, oT, oT, oT, oT, oT, oT, oT], .reg [oT, oT, oT], .head] [.code (cAt (bodyOf Try.f92) [1, 1, 1, 0, 0, 0]), .inLoop (cAt (bodyOf Try.f92) [1, 1, 1, 0, 0, 0]), .inBlock 0, .code (cAt (bodyOf Try.f92) [1, 1, 1, 1])] (STm m o) [] 1 (STm (m / 10) o2) =
    some ([.code (cAt (bodyOf Try.f92) [1, 1, 1, 0, 0, 0]), .inLoop (cAt (bodyOf Try.f92) [1, 1, 1, 0, 0, 0]), .inBlock 0, .code (cAt (bodyOf Try.f92) [1, 1, 1, 1])], [((decide (m > 0)) = true),
  ((0 : Int) ≤ m),
  ((0 : Int) < 10),
  (((-9223372036854775808) : Int) ≤ (48 + m % 10)),
  (((48 + m % 10) : Int) ≤ 9223372036854775807),
  ((0 : Int) ≤ (48 + m % 10)),
  (((48 + m % 10) : Int) ≤ 255),
  ((1 : Nat) ≤ 1),
  (okBytes 1 (fun i => [.p (.int .u8 (48 + m % 10))])),
  ((((bytesOf 1 fun i => [AV.p (PV.int IntKind.u8 (48 + m % 10))]).size + o.size) : Nat) ≤ 9223372036854775807),
  ((0 : Int) ≤ m),
  ((0 : Int) < 10),
  (((m / 10) : Int) ≤ 9223372036854775807),
  (AI ((m / 10))),
  ((bytesOf 1 fun i => [AV.p (PV.int IntKind.u8 (48 + m % 10))]) ++ o = o2)]) := by kernel_rfl
theorem tMe (m : Int) (o s : ByteArray) :
    pathOb Try.prog Try.f92 0 [.reg [oT, oT], .dec false, .reg [oT, oT, oT]] [.code (cAt (bodyOf Try.f92) [1, 1, 1, 0, 0, 0]), .inLoop (cAt (bodyOf Try.f92) [1, 1, 1, 0, 0, 0]), .inBlock 0, .code (cAt (bodyOf Try.f92) [1, 1, 1, 1])] (STm m o) [] 1 [] (.p (.str s)) =
    some [((decide (m > 0)) = false),
  ((((ByteArray.mk #[109]).size + o.size) : Nat) ≤ 9223372036854775807),
  (ByteArray.mk #[109] ++ o = s)] := by kernel_rfl
theorem tKz (n : Nat) (m : Int) (g f : Nat → ByteArray) :
    pieceOb Try.prog 1 [.reg [oT], .reg [oT], .head] [.code (bodyOf Try.f43)] (start Try.f43 [(0, stOt n f)] 1 [.ar 1 0 0 n, .p (.int .i64 m)]) [0] 1 (STk n 0 m g f) =
    some ([.code (cAt (bodyOf Try.f43) [1, 0, 1, 0, 0]), .inLoop (cAt (bodyOf Try.f43) [1, 0, 1, 0, 0]), .inBlock 0, .code (cAt (bodyOf Try.f43) [1, 1])], [(AN 0),
  (AN n),
  ((m : Int) = (m + (↑0 : Int))),
  ((0 : Int) = (↑0 : Int)),
  (AN 1),
  ((n : Nat) ≤ n),
  (∀ i : Nat, (((i : Nat) < n) → (All [] ∧ (([.p (.str (f i))] : List AV) = [.p (.str (mkF g f 0 i))]))))]) := by kernel_rfl
theorem tKa (n k : Nat) (m : Int) (g f : Nat → ByteArray) :
    pieceOb Try.prog 1 [.reg [oT, oT, oT, oT], .dec true, .reg [oT, oT, oT, ⟨true, (some ⟨[], [], [], 1, [], .p (.str (g k))⟩), none⟩, oT, oT], .reg [oT, oT, oT], .reg [oT, oT, oT], .head] [.code (cAt (bodyOf Try.f43) [1, 0, 1, 0, 0]), .inLoop (cAt (bodyOf Try.f43) [1, 0, 1, 0, 0]), .inBlock 0, .code (cAt (bodyOf Try.f43) [1, 1])] (STk n k m g f) [0] 1 (STk n (k + 1) m g f) =
    some ([.code (cAt (bodyOf Try.f43) [1, 0, 1, 0, 0]), .inLoop (cAt (bodyOf Try.f43) [1, 0, 1, 0, 0]), .inBlock 0, .code (cAt (bodyOf Try.f43) [1, 1])], [((decide ((↑k : Int) < (↑n : Int))) = true),
  Con Try.prog 92 0 [] [.p (.int .i64 (m + (↑k : Int)))] [] (.p (.str (g k))),
  ((0 : Int) ≤ (↑k : Int)),
  (((↑k : Int) : Int) < (↑n : Int)),
  ((k : Nat) < n),
  ((false = true) → ((n : Nat) = 1)),
  (((-9223372036854775808) : Int) ≤ (m + (↑k : Int) + 1)),
  (((m + (↑k : Int) + 1) : Int) ≤ 9223372036854775807),
  (((-9223372036854775808) : Int) ≤ ((↑k : Int) + 1)),
  ((((↑k : Int) + 1) : Int) ≤ 9223372036854775807),
  (AN 0),
  (AN n),
  (((m + (↑k : Int) + 1) : Int) = (m + (↑(k + 1) : Int))),
  ((((↑k : Int) + 1) : Int) = (↑(k + 1) : Int)),
  (AN 1),
  ((n : Nat) ≤ n),
  (∀ i : Nat, (((i : Nat) < n) → (All (cvtL false [(0, ⟨false, 1, n, (fun i_1 => (if (i_1 = k) then [.p (.str (g k))] else [.p (.str (mkF g f k i_1))]))⟩)] [0] 1 (if (i = k) then [.p (.str (g k))] else [.p (.str (mkF g f k i))])).2 ∧ (((cvtL false [(0, ⟨false, 1, n, (fun i_1 => (if (i_1 = k) then [.p (.str (g k))] else [.p (.str (mkF g f k i_1))]))⟩)] [0] 1 (if (i = k) then [.p (.str (g k))] else [.p (.str (mkF g f k i))])).1 : List AV) = [.p (.str (mkF g f (k + 1) i))]))))]) := by kernel_rfl
theorem tKe (n k : Nat) (m : Int) (g f : Nat → ByteArray) :
    pathOb Try.prog Try.f43 1 [.reg [oT, oT, oT, oT], .dec false, .reg [oT, oT]] [.code (cAt (bodyOf Try.f43) [1, 0, 1, 0, 0]), .inLoop (cAt (bodyOf Try.f43) [1, 0, 1, 0, 0]), .inBlock 0, .code (cAt (bodyOf Try.f43) [1, 1])] (STk n k m g f) [0] 1 [(0, stOt n g)] (.p (.int .i64 (m + k))) =
    some [((decide ((↑k : Int) < (↑n : Int))) = false),
  (AI ((m + (↑k : Int)))),
  (AN 1),
  ((n : Nat) ≤ n),
  (∀ i : Nat, (((i : Nat) < n) → (All [] ∧ (([.p (.str (mkF g f k i))] : List AV) = [.p (.str (g i))])))),
  (AE n)] := by kernel_rfl
theorem tHz (n : Nat) (m : Int) (g : Nat → ByteArray) :
    pieceOb Try.prog 0 [.reg [oT], .reg [oT], .head] [.code (bodyOf Try.f44)] (start Try.f44 [] 0 [stLt n g, .p (.int .i64 m)]) [] 1 (STh n 0 m g) =
    some ([.code (cAt (bodyOf Try.f44) [1, 0, 1, 0, 0]), .inLoop (cAt (bodyOf Try.f44) [1, 0, 1, 0, 0]), .inBlock 0, .code (cAt (bodyOf Try.f44) [1, 1])], [(AN n),
  (AP n (fun i => [.str (g i)])),
  ((m : Int) = (m + (↑0 : Int))),
  ((0 : Int) = (↑0 : Int))]) := by kernel_rfl
theorem tHa (n k : Nat) (m : Int) (g : Nat → ByteArray) :
    pieceOb Try.prog 0 [.reg [oT, oT, oT, oT], .dec true, .reg [oT, oT, oT, oT, oT, ⟨true, (some ⟨[], [], [], 1, [], .p (.str (g k))⟩), none⟩, oT], .dec false, .reg [oT, oT, oT], .reg [oT, oT, oT], .head] [.code (cAt (bodyOf Try.f44) [1, 0, 1, 0, 0]), .inLoop (cAt (bodyOf Try.f44) [1, 0, 1, 0, 0]), .inBlock 0, .code (cAt (bodyOf Try.f44) [1, 1])] (STh n k m g) [] 1 (STh n (k + 1) m g) =
    some ([.code (cAt (bodyOf Try.f44) [1, 0, 1, 0, 0]), .inLoop (cAt (bodyOf Try.f44) [1, 0, 1, 0, 0]), .inBlock 0, .code (cAt (bodyOf Try.f44) [1, 1])], [((decide ((↑k : Int) < (↑n : Int))) = true),
  ((0 : Int) ≤ (↑k : Int)),
  (((↑k : Int) : Int) < (↑n : Int)),
  Con Try.prog 92 0 [] [.p (.int .i64 (m + (↑k : Int)))] [] (.p (.str (g k))),
  ((!(g k).toList == (g k).toList) = false),
  (((-9223372036854775808) : Int) ≤ (m + (↑k : Int) + 1)),
  (((m + (↑k : Int) + 1) : Int) ≤ 9223372036854775807),
  (((-9223372036854775808) : Int) ≤ ((↑k : Int) + 1)),
  ((((↑k : Int) + 1) : Int) ≤ 9223372036854775807),
  (AN n),
  (AP n (fun i => [.str (g i)])),
  (((m + (↑k : Int) + 1) : Int) = (m + (↑(k + 1) : Int))),
  ((((↑k : Int) + 1) : Int) = (↑(k + 1) : Int))]) := by kernel_rfl
theorem tHe (n k : Nat) (m : Int) (g : Nat → ByteArray) :
    pathOb Try.prog Try.f44 0 [.reg [oT, oT, oT, oT], .dec false, .reg [oT, oT]] [.code (cAt (bodyOf Try.f44) [1, 0, 1, 0, 0]), .inLoop (cAt (bodyOf Try.f44) [1, 0, 1, 0, 0]), .inBlock 0, .code (cAt (bodyOf Try.f44) [1, 1])] (STh n k m g) [] 1 [] (.p (.int .i64 (m + k))) =
    some [((decide ((↑k : Int) < (↑n : Int))) = false),
  (AI ((m + (↑k : Int))))] := by kernel_rfl
def mtB (k : Int) : ByteArray := kM ++ bs (dg 20 k.natAbs).reverse
theorem con_markText (k : Int) (h0 : 0 < k) (h1 : k ≤ 9223372036854775807) : Con Try.prog 92 0 [] [.p (.int .i64 k)] [] (.p (.str (mtB k))) := by
  refine con_start Try.func92 rfl (by kernel_rfl) rfl (fun c hc => ?_)
  have hz : decide (k ≤ 0) = false := decide_eq_false (by omega)
  have lp : ∀ f m l, l.length + f = 20 → m.natAbs < 10 ^ f → dg 20 k.natAbs = l ++ dg f m.natAbs → 0 ≤ m → m ≤ 9223372036854775807 →
      Run Try.prog c 92 [.code (cAt (bodyOf Try.f92) [1, 1, 1, 0, 0, 0]), .inLoop (cAt (bodyOf Try.f92) [1, 1, 1, 0, 0, 0]), .inBlock 0, .code (cAt (bodyOf Try.f92) [1, 1, 1, 1])] (STm m (bs l.reverse)) (Post c [] (.p (.str (mtB k)))) := by
    have fin : ∀ l, dg 20 k.natAbs = l → l.length ≤ 20 → Run Try.prog c 92 [.code (cAt (bodyOf Try.f92) [1, 1, 1, 0, 0, 0]), .inLoop (cAt (bodyOf Try.f92) [1, 1, 1, 0, 0, 0]), .inBlock 0, .code (cAt (bodyOf Try.f92) [1, 1, 1, 1])] (STm 0 (bs l.reverse)) (Post c [] (.p (.str (mtB k)))) := by
      intro l hl hl2
      have hsz := bs_size l.reverse
      rw [List.length_reverse] at hsz
      refine path_ok mixed Try.func92 hc (tMe 0 (bs l.reverse) (mtB k)) ?_
      simp only [All]
      repeat' (first | exact trivial | with_reducible apply And.intro)
      all_goals (first | exact aG _ | exact aP _ _ | exact aA _ _ | exact aE _ | omega | rfl | (intros; first | assumption | exact True.intro | rfl | exact absurd (show false = true by assumption) Bool.false_ne_true | ((repeat' (first | assumption | apply anda | apply notf)); done)) | (show _ + (bs l.reverse).size ≤ _; rw [hsz]; show 1 + l.length ≤ _; omega) | (rw [mtB, hl]; rfl))
    intro f
    induction f with
    | zero =>
      intro m l hl hm hd hs hb
      obtain rfl : m = 0 := by simp at hm; omega
      exact fin l (by rw [hd]; simp [dg]) (by omega)
    | succ f ih =>
      intro m l hl hm hd hs hb
      by_cases hm0 : m = 0
      · subst hm0
        exact fin l (by rw [hd]; simp [dg]) (by omega)
      have hmt : decide (m > 0) = true := decide_eq_true (by omega)
      have hma : m.natAbs ≠ 0 := by omega
      have hdiv : (m / 10).natAbs = m.natAbs / 10 := by omega
      have hrec := ih (m / 10) (l ++ [48 + ((m.natAbs % 10 : Nat) : Int)]) (by simp; omega) (by rw [hdiv]; rw [Nat.pow_succ] at hm; omega) (by rw [hd, hdiv, dg, if_neg hma]; simp) (by omega) (by omega)
      have hmod : m % 10 = ((m.natAbs % 10 : Nat) : Int) := by omega
      have hsz := bs_size l.reverse
      rw [List.length_reverse] at hsz
      have hout : bs [48 + m % 10] ++ bs l.reverse = bs (l ++ [48 + ((m.natAbs % 10 : Nat) : Int)]).reverse := by
        rw [List.reverse_append, bs_append, hmod]; rfl
      refine piece_ok mixed hc (tMa m (bs l.reverse) (bs (l ++ [48 + ((m.natAbs % 10 : Nat) : Int)]).reverse)) ?_ hrec
      simp only [All]
      repeat' (first | exact trivial | with_reducible apply And.intro)
      all_goals (first | exact aG _ | exact aP _ _ | exact aA _ _ | exact aE _ | omega | rfl | (intros; first | assumption | exact True.intro | rfl | exact absurd (show false = true by assumption) Bool.false_ne_true | ((repeat' (first | assumption | apply anda | apply notf)); done)) | (exact hmt) | (intro i hi; exact ⟨_, rfl⟩) | (show (bs [48 + m % 10]).size + (bs l.reverse).size ≤ _; rw [hsz, bs_size]; show 1 + l.length ≤ _; omega) | (exact hout) | (simp only [imin, imax]; omega))
  refine piece_ok mixed hc (tMz k) ?_ (lp 20 k [] rfl (by omega) rfl (by omega) h1)
  simp only [All]
  repeat' (first | exact trivial | with_reducible apply And.intro)
  all_goals (first | exact aG _ | exact aP _ _ | exact aA _ _ | exact aE _ | omega | rfl | (intros; first | assumption | exact True.intro | rfl | exact absurd (show false = true by assumption) Bool.false_ne_true | ((repeat' (first | assumption | apply anda | apply notf)); done)) | (exact hz) | rfl)
theorem con_markTexts (n : Nat) (f : Nat → ByteArray) (m : Int) (hn : n ≤ 1048576) (h0 : 0 < m) (h1 : m ≤ 1099511627776) :
    Con Try.prog 43 1 [(0, stOt n f)] [.ar 1 0 0 n, .p (.int .i64 m)] [(0, stOt n (fun i => mtB (m + i)))] (.p (.int .i64 (m + n))) := by
  refine con_start Try.func43 rfl (by kernel_rfl) rfl (fun c hc => ?_)
  have lo : ∀ d k, k + d = n → Run Try.prog c 43 [.code (cAt (bodyOf Try.f43) [1, 0, 1, 0, 0]), .inLoop (cAt (bodyOf Try.f43) [1, 0, 1, 0, 0]), .inBlock 0, .code (cAt (bodyOf Try.f43) [1, 1])] (STk n k m (fun i => mtB (m + i)) f) (Post c [(0, stOt n (fun i => mtB (m + i)))] (.p (.int .i64 (m + n)))) := by
    intro d
    induction d with
    | zero =>
      intro k hk
      obtain rfl : k = n := by omega
      have hd : decide ((k : Int) < (k : Int)) = false := by simp
      refine path_ok mixed Try.func43 hc (tKe k k m (fun i => mtB (m + i)) f) ?_
      simp only [All]
      repeat' (first | exact trivial | with_reducible apply And.intro)
      all_goals (first | exact aG _ | exact aP _ _ | exact aA _ _ | exact aE _ | omega | rfl | (intros; first | assumption | exact True.intro | rfl | exact absurd (show false = true by assumption) Bool.false_ne_true | ((repeat' (first | assumption | apply anda | apply notf)); done)) | (exact hd) | (intro t ht; simp [mkF, ht, cvtL, cvt, tg, tru, All]; done) | (intros; simp [All, aEt, ntAL, ntA, ntP, ntL]; done))
    | succ d ih =>
      intro k hk
      have hd : decide ((k : Int) < (n : Int)) = true := decide_eq_true (by omega)
      have ct := con_markText (m + k) (by omega) (by omega)
      refine piece_ok mixed hc (tKa n k m (fun i => mtB (m + i)) f) ?_ (ih (k + 1) (by omega))
      simp only [All]
      repeat' (first | exact trivial | with_reducible apply And.intro)
      all_goals (first | exact aG _ | exact aP _ _ | exact aA _ _ | exact aE _ | omega | rfl | (intros; first | assumption | exact True.intro | rfl | exact absurd (show false = true by assumption) Bool.false_ne_true | ((repeat' (first | assumption | apply anda | apply notf)); done)) | (exact hd) | (exact ct) | (intro t ht; by_cases h1 : t = k; (subst h1; simp [mkF, cvtL, cvt, tg, tru, All]); (simp [h1, mkF, show (t < k + 1) = (t < k) by (apply propext; omega), cvtL, cvt, tg, tru, All])))
  refine piece_ok mixed hc (tKz n m (fun i => mtB (m + i)) f) ?_ (lo n 0 (by omega))
  simp only [All]
  repeat' (first | exact trivial | with_reducible apply And.intro)
  all_goals (first | exact aG _ | exact aP _ _ | exact aA _ _ | exact aE _ | omega | rfl | (intros; first | assumption | exact True.intro | rfl | exact absurd (show false = true by assumption) Bool.false_ne_true | ((repeat' (first | assumption | apply anda | apply notf)); done)) | (intro t ht; simp [mkF, cvtL, cvt, tg, tru, All]))
theorem con_heldTexts (n : Nat) (m : Int) (hn : n ≤ 1048576) (h0 : 0 < m) (h1 : m ≤ 1099511627776) :
    Con Try.prog 44 0 [] [stLt n (fun i => mtB (m + i)), .p (.int .i64 m)] [] (.p (.int .i64 (m + n))) := by
  refine con_start Try.func44 rfl (by kernel_rfl) rfl (fun c hc => ?_)
  have lo : ∀ d k, k + d = n → Run Try.prog c 44 [.code (cAt (bodyOf Try.f44) [1, 0, 1, 0, 0]), .inLoop (cAt (bodyOf Try.f44) [1, 0, 1, 0, 0]), .inBlock 0, .code (cAt (bodyOf Try.f44) [1, 1])] (STh n k m (fun i => mtB (m + i))) (Post c [] (.p (.int .i64 (m + n)))) := by
    intro d
    induction d with
    | zero =>
      intro k hk
      obtain rfl : k = n := by omega
      have hd : decide ((k : Int) < (k : Int)) = false := by simp
      refine path_ok mixed Try.func44 hc (tHe k k m (fun i => mtB (m + i))) ?_
      simp only [All]
      repeat' (first | exact trivial | with_reducible apply And.intro)
      all_goals (first | exact aG _ | exact aP _ _ | exact aA _ _ | exact aE _ | omega | rfl | (intros; first | assumption | exact True.intro | rfl | exact absurd (show false = true by assumption) Bool.false_ne_true | ((repeat' (first | assumption | apply anda | apply notf)); done)) | (exact hd))
    | succ d ih =>
      intro k hk
      have hd : decide ((k : Int) < (n : Int)) = true := decide_eq_true (by omega)
      have ct := con_markText (m + k) (by omega) (by omega)
      refine piece_ok mixed hc (tHa n k m (fun i => mtB (m + i))) ?_ (ih (k + 1) (by omega))
      simp only [All]
      repeat' (first | exact trivial | with_reducible apply And.intro)
      all_goals (first | exact aG _ | exact aP _ _ | exact aA _ _ | exact aE _ | omega | rfl | (intros; first | assumption | exact True.intro | rfl | exact absurd (show false = true by assumption) Bool.false_ne_true | ((repeat' (first | assumption | apply anda | apply notf)); done)) | (exact hd) | (exact ct) | (simp; done) | (intro t ht; simp [All, aEt]))
  refine piece_ok mixed hc (tHz n m (fun i => mtB (m + i))) ?_ (lo n 0 (by omega))
  simp only [All]
  repeat' (first | exact trivial | with_reducible apply And.intro)
  all_goals (first | exact aG _ | exact aP _ _ | exact aA _ _ | exact aE _ | omega | rfl | (intros; first | assumption | exact True.intro | rfl | exact absurd (show false = true by assumption) Bool.false_ne_true | ((repeat' (first | assumption | apply anda | apply notf)); done)) | (intro t ht; simp [All, aEt]))
end Go.Proofs.Ytgdbnnmogddkaaa.Mach
namespace Go.Proofs.Ytgdbnnmogddkaaa.Mach
open Go Go.Sort
set_option linter.unusedVariables false
set_option linter.unusedSimpArgs false
def snT (n : Nat) (h : Nat → ByteArray) (x : ByteArray) (s : Nat) : ByteArray := if s < n then h s else x
def SKx (n : Nat) (f : Nat → ByteArray) (x : ByteArray) (k : Nat) : St :=
  ⟨[stLt n f, .p (.str x)] ++ List.replicate 4 anyA ++ [stLt n f, .p (.int .i64 n), .p (.int .i64 k)] ++ List.replicate 10 anyA, [], 0⟩
def SKi (n : Int) (i c m : Nat) (f : Nat → ByteArray) (G : Nat → T_BarS) : St :=
  ⟨[.p (.int .i64 n), .p .any, .p .any, .ar 1 0 0 c, .ar 2 1 0 m] ++ List.replicate 15 anyA ++ [.ar 2 1 0 m, .p (.int .i64 m), .p (.int .i64 i)] ++ List.replicate 20 anyA, [(0, stOt c f), (1, gsOb n m G)], 2⟩
def SKs (n : Int) (i c m : Nat) (f : Nat → ByteArray) (G : Nat → T_BarS) : St :=
  ⟨[.p (.int .i64 n), .p .any, .p .any, .ar 1 0 0 c, .ar 2 1 0 m, .p .any, .p (.int .i64 i)] ++ List.replicate 53 anyA, [(0, stOt c f), (1, gsOb n m G)], 2⟩
def SKs1 (n : Int) (i c m : Nat) (f : Nat → ByteArray) (G : Nat → T_BarS) (s : ByteArray) (b : Bool) (k : Nat) : St :=
  ⟨[.p (.int .i64 n), .p .any, .p .any, .ar 1 0 0 c, .ar 2 1 0 m, .p .any, .p (.int .i64 i), .p .any, .p .any, .p (.str s), .p (.bool b), .p (.int .i64 k)] ++ List.replicate 48 anyA, [(0, stOt c f), (1, gsOb n m G)], 2⟩
theorem kXa (n : Nat) (f : Nat → ByteArray) (x : ByteArray) :
    pieceOb Try.prog 0 [.reg [oT], .reg [oT, oT, oT], .head] [.code (bodyOf Try.f126)] (start Try.f126 [] 0 [stLt n f, .p (.str x)]) [] 1 (SKx n f x 0) =
    some ([.code (cAt (bodyOf Try.f126) [1, 0, 1, 0, 0]), .inLoop (cAt (bodyOf Try.f126) [1, 0, 1, 0, 0]), .inBlock 0, .code (cAt (bodyOf Try.f126) [1, 1])], [(AN n),
  (AP n (fun i => [.str (f i)])),
  (x = x),
  (AN n),
  (AP n (fun i => [.str (f i)])),
  (AI ((↑n : Int))),
  ((0 : Int) = (↑0 : Int))]) := by kernel_rfl
theorem kXb (n : Nat) (f : Nat → ByteArray) (x : ByteArray) (k : Nat) :
    pieceOb Try.prog 0 [.reg [oT], .dec true, .reg [oT, oT], .reg [oT, oT, oT, oT, oT, oT], .dec false, .reg [oT, oT], .head] [.code (cAt (bodyOf Try.f126) [1, 0, 1, 0, 0]), .inLoop (cAt (bodyOf Try.f126) [1, 0, 1, 0, 0]), .inBlock 0, .code (cAt (bodyOf Try.f126) [1, 1])] (SKx n f x k) [] 1 (SKx n f x (k + 1)) =
    some ([.code (cAt (bodyOf Try.f126) [1, 0, 1, 0, 0]), .inLoop (cAt (bodyOf Try.f126) [1, 0, 1, 0, 0]), .inBlock 0, .code (cAt (bodyOf Try.f126) [1, 1])], [((decide ((↑k : Int) < (↑n : Int))) = true),
  ((0 : Int) ≤ (↑k : Int)),
  (((↑k : Int) : Int) < (↑n : Int)),
  ((x.toList == (f k).toList) = false),
  (((-9223372036854775808) : Int) ≤ ((↑k : Int) + 1)),
  ((((↑k : Int) + 1) : Int) ≤ 9223372036854775807),
  (AN n),
  (AP n (fun i => [.str (f i)])),
  (x = x),
  (AN n),
  (AP n (fun i => [.str (f i)])),
  (AI ((↑n : Int))),
  ((((↑k : Int) + 1) : Int) = (↑(k + 1) : Int))]) := by kernel_rfl
theorem kXc (n : Nat) (f : Nat → ByteArray) (x : ByteArray) (k : Nat) :
    pathOb Try.prog Try.f126 0 [.reg [oT], .dec true, .reg [oT, oT], .reg [oT, oT, oT, oT, oT, oT], .dec true, .reg [oT, oT]] [.code (cAt (bodyOf Try.f126) [1, 0, 1, 0, 0]), .inLoop (cAt (bodyOf Try.f126) [1, 0, 1, 0, 0]), .inBlock 0, .code (cAt (bodyOf Try.f126) [1, 1])] (SKx n f x k) [] 1 [] (.p (.int .i64 k)) =
    some [((decide ((↑k : Int) < (↑n : Int))) = true),
  ((0 : Int) ≤ (↑k : Int)),
  (((↑k : Int) : Int) < (↑n : Int)),
  ((x.toList == (f k).toList) = true),
  (AI ((↑k : Int)))] := by kernel_rfl
theorem kXd (n : Nat) (f : Nat → ByteArray) (x : ByteArray) (k : Nat) :
    pathOb Try.prog Try.f126 0 [.reg [oT], .dec false, .reg [oT]] [.code (cAt (bodyOf Try.f126) [1, 0, 1, 0, 0]), .inLoop (cAt (bodyOf Try.f126) [1, 0, 1, 0, 0]), .inBlock 0, .code (cAt (bodyOf Try.f126) [1, 1])] (SKx n f x k) [] 1 [] (.p (.int .i64 (-1))) =
    some [((decide ((↑k : Int) < (↑n : Int))) = false),
  (AI ((-1)))] := by kernel_rfl
theorem kXe (n : Nat) (f : Nat → ByteArray) (x : ByteArray) (r : Int) :
    pathOb Try.prog Try.f91 0 [.reg [oT], .reg [oT, oT, ⟨true, (some ⟨[], [], [], 1, [], .p (.int .i64 r)⟩), none⟩, oT, oT]] [.code (bodyOf Try.f91)] (start Try.f91 [] 0 [stLt n f, .p (.str x)]) [] 1 [] (.p (.bool (decide (r ≥ 0)))) =
    some [Con Try.prog 126 0 [] [.p (.seq true 1 n (fun i => [.str (f i)])), .p (.str x)] [] (.p (.int .i64 r)),
  ((decide (r ≥ 0)) = (decide (r ≥ 0)))] := by kernel_rfl
theorem kIy (n : Int) :
    pathOb Try.prog Try.f41 0 [.reg [oT], .reg [oT, oT], .reg [oT, oT], .dec true, .reg [oT, oT]] [.code (bodyOf Try.f41)] (start Try.f41 [] 0 [.p (.int .i64 n)]) [32] 1 [(0, stOt 0 (fun _ => ⟨#[]⟩))] (.ar 1 0 0 0) =
    some [((decide (n > 4)) = true),
  (AN 0),
  (AN 0),
  (AN 1),
  ((0 : Nat) ≤ 0),
  (AA 0 (fun i => [.p (.str (ByteArray.mk #[]))])),
  (AE 0)] := by kernel_rfl
theorem kIz (n : Int) (m : Nat) (G : Nat → T_BarS) (q : Bool) :
    pieceOb Try.prog 0 [.reg [oT], .reg [oT, oT], .reg [oT, oT], .dec false, .reg [oT, ⟨true, (some ⟨[], [], [], 1, [(0, gsOb n m G)], .tup [.ar 2 0 0 m, .p (.bool q)]⟩), none⟩, oT, oT, oT, oT, oT], .reg [oT, oT, oT], .head] [.code (bodyOf Try.f41)] (start Try.f41 [] 0 [.p (.int .i64 n)]) [32, 192] 1 (SKi n 0 0 m (fun _ => ⟨#[]⟩) G) =
    some ([.code (cAt (bodyOf Try.f41) [1, 1, 1, 1, 0, 1, 0, 0]), .inLoop (cAt (bodyOf Try.f41) [1, 1, 1, 1, 0, 1, 0, 0]), .inBlock 0, .code (cAt (bodyOf Try.f41) [1, 1, 1, 1, 1])], [((decide (n > 4)) = false),
  Con Try.prog 89 0 [] [.p (.int .i64 n)] [(0, ⟨false, 2, m, (fun i => [.p (.int .i64 n), .p (.seq false 2 ((G i).1) (fun i_1 => [.int .i64 (((G i).2 i_1).1), .int .i64 (((G i).2 i_1).2.1)]))])⟩)] (.tup [.ar 2 0 0 m, .p (.bool q)]),
  (AI n),
  (AN 0),
  (AN 0),
  (AN 0),
  (AN m),
  (AN 0),
  (AN m),
  (AI ((↑m : Int))),
  ((0 : Int) = (↑0 : Int)),
  (AN 1),
  ((0 : Nat) ≤ 0),
  (AA 0 (fun i => [.p (.str (ByteArray.mk #[]))])),
  (AN 2),
  ((m : Nat) ≤ m),
  (AA m (fun i => [.p (.int .i64 n), .p (.seq false 2 ((G i).1) (fun i_1 => [.int .i64 (((G i).2 i_1).1), .int .i64 (((G i).2 i_1).2.1)]))]))]) := by kernel_rfl
theorem kIa (n : Int) (i c m : Nat) (f : Nat → ByteArray) (G : Nat → T_BarS) (u : T_Graph) (q : Bool) (s : ByteArray) :
    pieceOb Try.prog 0 [.reg [oT], .dec true, .reg [oT, oT, oT, oT], .reg [oT, ⟨true, (some ⟨[], [], [], 1, [(0, brOb u.2.1.1 u.2.1.2)], .tup [.agg [.p (.int .i64 u.1), .ar 2 0 0 u.2.1.1], .p (.bool q)]⟩), none⟩, oT, oT, oT, oT, oT, oT], .reg [oT, ⟨true, (some ⟨[], [], [], 1, [], .p (.str s)⟩), none⟩, oT], .reg [oT, oT, ⟨true, (some ⟨[], [], [], 1, [], .p (.bool false)⟩), none⟩, oT], .dec true, .reg [oT, oT, oT, oT, oT], .reg [oT, oT], .head] [.code (cAt (bodyOf Try.f41) [1, 1, 1, 1, 0, 1, 0, 0]), .inLoop (cAt (bodyOf Try.f41) [1, 1, 1, 1, 0, 1, 0, 0]), .inBlock 0, .code (cAt (bodyOf Try.f41) [1, 1, 1, 1, 1])] (SKi n i c m f G) [738, 1] 1 (SKi n (i + 1) (c + 1) m (snT c f s) G) =
    some ([.code (cAt (bodyOf Try.f41) [1, 1, 1, 1, 0, 1, 0, 0]), .inLoop (cAt (bodyOf Try.f41) [1, 1, 1, 1, 0, 1, 0, 0]), .inBlock 0, .code (cAt (bodyOf Try.f41) [1, 1, 1, 1, 1])], [((decide ((↑i : Int) < (↑m : Int))) = true),
  ((0 : Int) ≤ (↑i : Int)),
  (((↑i : Int) : Int) < (↑m : Int)),
  ((i : Nat) < m),
  ((0 : Nat) < 1),
  ((true = true) → (AN 1)),
  ((0 : Nat) < 1),
  Con Try.prog 34 0 [] [.agg [.p (.int .i64 n), .p (.seq true 2 ((G i).1) (fun i_1 => [.int .i64 (((G i).2 i_1).1), .int .i64 (((G i).2 i_1).2.1)]))]] [(0, ⟨false, 2, u.2.1.1, (fun i_1 => [.p (.int .i64 ((u.2.1.2 i_1).1)), .p (.int .i64 ((u.2.1.2 i_1).2.1))])⟩)] (.tup [.agg [.p (.int .i64 u.1), .ar 2 0 0 u.2.1.1], .p (.bool q)]),
  ((0 : Nat) < 1),
  ((true = true) → (AN 1)),
  ((0 : Nat) < 1),
  (AN 2),
  ((u.2.1.1 : Nat) ≤ u.2.1.1),
  Con Try.prog 90 0 [] [.agg [.p (.int .i64 u.1), .p (.seq true 2 u.2.1.1 (fun i_1 => [.int .i64 ((u.2.1.2 i_1).1), .int .i64 ((u.2.1.2 i_1).2.1)]))]] [] (.p (.str s)),
  (AN 1),
  ((c : Nat) ≤ c),
  Con Try.prog 91 0 [] [.p (.seq true 1 c (fun i_1 => [.str (f i_1)])), .p (.str s)] [] (.p (.bool false)),
  ((!false) = true),
  ((1 : Nat) ≤ 1),
  ((c : Nat) ≤ c),
  ((((c + 1) * 16) : Nat) ≤ 140737488355328),
  (((c + 1) : Nat) ≤ 9223372036854775807),
  (((-9223372036854775808) : Int) ≤ ((↑i : Int) + 1)),
  ((((↑i : Int) + 1) : Int) ≤ 9223372036854775807),
  (AI n),
  (AN 0),
  (AN ((c + 1))),
  (AN 0),
  (AN m),
  (AN 0),
  (AN m),
  (AI ((↑m : Int))),
  ((((↑i : Int) + 1) : Int) = (↑(i + 1) : Int)),
  (AN 1),
  (((c + 1) : Nat) ≤ (c + 1)),
  (∀ i_1 : Nat, (((i_1 : Nat) < (c + 1)) → (All (cvtL false [(738, ⟨false, 1, (c + 1), (fun i_2 => (if (i_2 < c) then [.p (.str (f i_2))] else [.p (.str s)]))⟩), (706, ⟨false, 1, 1, (fun i_2 => [.p (.str s)])⟩), (322, ⟨true, 2, 1, (fun i_2 => [.p (.int .i64 u.1), .ar 2 194 0 u.2.1.1])⟩), (194, ⟨false, 2, u.2.1.1, (fun i_2 => [.p (.int .i64 ((u.2.1.2 i_2).1)), .p (.int .i64 ((u.2.1.2 i_2).2.1))])⟩), (98, ⟨true, 2, 1, (fun i_2 => [.p (.int .i64 n), .p (.seq false 2 ((G i).1) (fun i_3 => [.int .i64 (((G i).2 i_3).1), .int .i64 (((G i).2 i_3).2.1)]))])⟩), (1, ⟨false, 2, m, (fun i_2 => [.p (.int .i64 n), .p (.seq false 2 ((G i_2).1) (fun i_3 => [.int .i64 (((G i_2).2 i_3).1), .int .i64 (((G i_2).2 i_3).2.1)]))])⟩)] [738, 1] 1 (if (i_1 < c) then [.p (.str (f i_1))] else [.p (.str s)])).2 ∧ (((cvtL false [(738, ⟨false, 1, (c + 1), (fun i_2 => (if (i_2 < c) then [.p (.str (f i_2))] else [.p (.str s)]))⟩), (706, ⟨false, 1, 1, (fun i_2 => [.p (.str s)])⟩), (322, ⟨true, 2, 1, (fun i_2 => [.p (.int .i64 u.1), .ar 2 194 0 u.2.1.1])⟩), (194, ⟨false, 2, u.2.1.1, (fun i_2 => [.p (.int .i64 ((u.2.1.2 i_2).1)), .p (.int .i64 ((u.2.1.2 i_2).2.1))])⟩), (98, ⟨true, 2, 1, (fun i_2 => [.p (.int .i64 n), .p (.seq false 2 ((G i).1) (fun i_3 => [.int .i64 (((G i).2 i_3).1), .int .i64 (((G i).2 i_3).2.1)]))])⟩), (1, ⟨false, 2, m, (fun i_2 => [.p (.int .i64 n), .p (.seq false 2 ((G i_2).1) (fun i_3 => [.int .i64 (((G i_2).2 i_3).1), .int .i64 (((G i_2).2 i_3).2.1)]))])⟩)] [738, 1] 1 (if (i_1 < c) then [.p (.str (f i_1))] else [.p (.str s)])).1 : List AV) = [.p (.str (snT c f s i_1))])))),
  (AN 2),
  ((m : Nat) ≤ m),
  (AA m (fun i_1 => [.p (.int .i64 n), .p (.seq false 2 ((G i_1).1) (fun i_2 => [.int .i64 (((G i_1).2 i_2).1), .int .i64 (((G i_1).2 i_2).2.1)]))]))]) := by kernel_rfl
theorem kIb (n : Int) (i c m : Nat) (f : Nat → ByteArray) (G : Nat → T_BarS) (u : T_Graph) (q : Bool) (s : ByteArray) :
    pieceOb Try.prog 0 [.reg [oT], .dec true, .reg [oT, oT, oT, oT], .reg [oT, ⟨true, (some ⟨[], [], [], 1, [(0, brOb u.2.1.1 u.2.1.2)], .tup [.agg [.p (.int .i64 u.1), .ar 2 0 0 u.2.1.1], .p (.bool q)]⟩), none⟩, oT, oT, oT, oT, oT, oT], .reg [oT, ⟨true, (some ⟨[], [], [], 1, [], .p (.str s)⟩), none⟩, oT], .reg [oT, oT, ⟨true, (some ⟨[], [], [], 1, [], .p (.bool true)⟩), none⟩, oT], .dec false, .reg [oT, oT], .head] [.code (cAt (bodyOf Try.f41) [1, 1, 1, 1, 0, 1, 0, 0]), .inLoop (cAt (bodyOf Try.f41) [1, 1, 1, 1, 0, 1, 0, 0]), .inBlock 0, .code (cAt (bodyOf Try.f41) [1, 1, 1, 1, 1])] (SKi n i c m f G) [0, 1] 1 (SKi n (i + 1) c m f G) =
    some ([.code (cAt (bodyOf Try.f41) [1, 1, 1, 1, 0, 1, 0, 0]), .inLoop (cAt (bodyOf Try.f41) [1, 1, 1, 1, 0, 1, 0, 0]), .inBlock 0, .code (cAt (bodyOf Try.f41) [1, 1, 1, 1, 1])], [((decide ((↑i : Int) < (↑m : Int))) = true),
  ((0 : Int) ≤ (↑i : Int)),
  (((↑i : Int) : Int) < (↑m : Int)),
  ((i : Nat) < m),
  ((0 : Nat) < 1),
  ((true = true) → (AN 1)),
  ((0 : Nat) < 1),
  Con Try.prog 34 0 [] [.agg [.p (.int .i64 n), .p (.seq true 2 ((G i).1) (fun i_1 => [.int .i64 (((G i).2 i_1).1), .int .i64 (((G i).2 i_1).2.1)]))]] [(0, ⟨false, 2, u.2.1.1, (fun i_1 => [.p (.int .i64 ((u.2.1.2 i_1).1)), .p (.int .i64 ((u.2.1.2 i_1).2.1))])⟩)] (.tup [.agg [.p (.int .i64 u.1), .ar 2 0 0 u.2.1.1], .p (.bool q)]),
  ((0 : Nat) < 1),
  ((true = true) → (AN 1)),
  ((0 : Nat) < 1),
  (AN 2),
  ((u.2.1.1 : Nat) ≤ u.2.1.1),
  Con Try.prog 90 0 [] [.agg [.p (.int .i64 u.1), .p (.seq true 2 u.2.1.1 (fun i_1 => [.int .i64 ((u.2.1.2 i_1).1), .int .i64 ((u.2.1.2 i_1).2.1)]))]] [] (.p (.str s)),
  (AN 1),
  ((c : Nat) ≤ c),
  Con Try.prog 91 0 [] [.p (.seq true 1 c (fun i_1 => [.str (f i_1)])), .p (.str s)] [] (.p (.bool true)),
  ((!true) = false),
  (((-9223372036854775808) : Int) ≤ ((↑i : Int) + 1)),
  ((((↑i : Int) + 1) : Int) ≤ 9223372036854775807),
  (AI n),
  (AN 0),
  (AN c),
  (AN 0),
  (AN m),
  (AN 0),
  (AN m),
  (AI ((↑m : Int))),
  ((((↑i : Int) + 1) : Int) = (↑(i + 1) : Int)),
  (AN 1),
  ((c : Nat) ≤ c),
  (AA c (fun i_1 => [.p (.str (f i_1))])),
  (AN 2),
  ((m : Nat) ≤ m),
  (AA m (fun i_1 => [.p (.int .i64 n), .p (.seq false 2 ((G i_1).1) (fun i_2 => [.int .i64 (((G i_1).2 i_2).1), .int .i64 (((G i_1).2 i_2).2.1)]))]))]) := by kernel_rfl
theorem kIe (n : Int) (i c m : Nat) (f : Nat → ByteArray) (G : Nat → T_BarS) :
    pathOb Try.prog Try.f41 0 [.reg [oT], .dec false, .reg [oT, oT]] [.code (cAt (bodyOf Try.f41) [1, 1, 1, 1, 0, 1, 0, 0]), .inLoop (cAt (bodyOf Try.f41) [1, 1, 1, 1, 0, 1, 0, 0]), .inBlock 0, .code (cAt (bodyOf Try.f41) [1, 1, 1, 1, 1])] (SKi n i c m f G) [0] 1 [(0, stOt c f)] (.ar 1 0 0 c) =
    some [((decide ((↑i : Int) < (↑m : Int))) = false),
  (AN 0),
  (AN c),
  (AN 1),
  ((c : Nat) ≤ c),
  (AA c (fun i_1 => [.p (.str (f i_1))])),
  (AE c)] := by kernel_rfl
theorem kSz (n : Int) (m : Nat) (G : Nat → T_BarS) (q : Bool) :
    pieceOb Try.prog 0 [.reg [oT], .reg [oT, oT], .reg [oT, ⟨true, (some ⟨[], [], [], 1, [(0, gsOb n m G)], .tup [.ar 2 0 0 m, .p (.bool q)]⟩), none⟩, oT, oT, oT, oT, oT], .reg [oT], .head] [.code (bodyOf Try.f40)] (start Try.f40 [] 0 [.p (.int .i64 n)]) [32, 128] 1 (SKs n 0 0 m (fun _ => ⟨#[]⟩) G) =
    some ([.code (cAt (bodyOf Try.f40) [1, 1, 1, 0, 1, 0, 0]), .inLoop (cAt (bodyOf Try.f40) [1, 1, 1, 0, 1, 0, 0]), .inBlock 0, .code (cAt (bodyOf Try.f40) [1, 1, 1, 1])], [Con Try.prog 87 0 [] [.p (.int .i64 n)] [(0, ⟨false, 2, m, (fun i => [.p (.int .i64 n), .p (.seq false 2 ((G i).1) (fun i_1 => [.int .i64 (((G i).2 i_1).1), .int .i64 (((G i).2 i_1).2.1)]))])⟩)] (.tup [.ar 2 0 0 m, .p (.bool q)]),
  (AI n),
  (AN 0),
  (AN 0),
  (AN 0),
  (AN m),
  ((0 : Int) = (↑0 : Int)),
  (AN 1),
  ((0 : Nat) ≤ 0),
  (AA 0 (fun i => [.p (.str (ByteArray.mk #[]))])),
  (AN 2),
  ((m : Nat) ≤ m),
  (AA m (fun i => [.p (.int .i64 n), .p (.seq false 2 ((G i).1) (fun i_1 => [.int .i64 (((G i).2 i_1).1), .int .i64 (((G i).2 i_1).2.1)]))]))]) := by kernel_rfl
theorem kSa (n : Int) (i c m : Nat) (f : Nat → ByteArray) (G : Nat → T_BarS) (u : T_Graph) (q : Bool) (s : ByteArray) :
    pieceOb Try.prog 0 [.reg [oT, oT, oT, oT, oT, oT, oT, oT], .dec true, .reg [oT, oT, oT, oT, ⟨true, (some ⟨[], [], [], 1, [(0, brOb u.2.1.1 u.2.1.2)], .tup [.agg [.p (.int .i64 u.1), .ar 2 0 0 u.2.1.1], .p (.bool q)]⟩), none⟩, oT, oT, oT, oT, oT, oT], .reg [oT, ⟨true, (some ⟨[], [], [], 1, [], .p (.str s)⟩), none⟩, oT], .reg [oT], .reg [oT], .head] [.code (cAt (bodyOf Try.f40) [1, 1, 1, 0, 1, 0, 0]), .inLoop (cAt (bodyOf Try.f40) [1, 1, 1, 0, 1, 0, 0]), .inBlock 0, .code (cAt (bodyOf Try.f40) [1, 1, 1, 1])] (SKs n i c m f G) [0, 1] 1 (SKs1 n i c m f G s false 0) =
    some ([.code (cAt (bodyOf Try.f40) [1, 1, 1, 0, 1, 0, 0, 1, 0, 0, 1, 1, 1, 0, 1, 0, 0]), .inLoop (cAt (bodyOf Try.f40) [1, 1, 1, 0, 1, 0, 0, 1, 0, 0, 1, 1, 1, 0, 1, 0, 0]), .inBlock 2, .code (cAt (bodyOf Try.f40) [1, 1, 1, 0, 1, 0, 0, 1, 0, 0, 1, 1, 1, 1]), .inBlock 1, .code (cAt (bodyOf Try.f40) [1, 1, 1, 0, 1, 0, 0, 1, 1]), .inLoop (cAt (bodyOf Try.f40) [1, 1, 1, 0, 1, 0, 0]), .inBlock 0, .code (cAt (bodyOf Try.f40) [1, 1, 1, 1])], [(AG (decide ((↑i : Int) < (↑m : Int)))),
  (AG (decide ((↑i : Int) < (↑m : Int)))),
  ((bif decide ((↑i : Int) < (↑m : Int)) then decide (n ≤ 4) else false) = true),
  ((0 : Int) ≤ (↑i : Int)),
  (((↑i : Int) : Int) < (↑m : Int)),
  ((i : Nat) < m),
  Con Try.prog 32 0 [] [.agg [.p (.int .i64 n), .p (.seq true 2 ((G i).1) (fun i_1 => [.int .i64 (((G i).2 i_1).1), .int .i64 (((G i).2 i_1).2.1)]))]] [(0, ⟨false, 2, u.2.1.1, (fun i_1 => [.p (.int .i64 ((u.2.1.2 i_1).1)), .p (.int .i64 ((u.2.1.2 i_1).2.1))])⟩)] (.tup [.agg [.p (.int .i64 u.1), .ar 2 0 0 u.2.1.1], .p (.bool q)]),
  ((0 : Nat) < 1),
  ((true = true) → (AN 1)),
  ((0 : Nat) < 1),
  (AN 2),
  ((u.2.1.1 : Nat) ≤ u.2.1.1),
  Con Try.prog 88 0 [] [.agg [.p (.int .i64 u.1), .p (.seq true 2 u.2.1.1 (fun i_1 => [.int .i64 ((u.2.1.2 i_1).1), .int .i64 ((u.2.1.2 i_1).2.1)]))]] [] (.p (.str s)),
  (AI n),
  (AN 0),
  (AN c),
  (AN 0),
  (AN m),
  (AI ((↑i : Int))),
  (s = s),
  (false = false),
  ((0 : Int) = (↑0 : Int)),
  (AN 1),
  ((c : Nat) ≤ c),
  (AA c (fun i_1 => [.p (.str (f i_1))])),
  (AN 2),
  ((m : Nat) ≤ m),
  (AA m (fun i_1 => [.p (.int .i64 n), .p (.seq false 2 ((G i_1).1) (fun i_2 => [.int .i64 (((G i_1).2 i_2).1), .int .i64 (((G i_1).2 i_2).2.1)]))]))]) := by kernel_rfl
theorem kSb (n : Int) (i c m : Nat) (f : Nat → ByteArray) (G : Nat → T_BarS) (s : ByteArray) (b : Bool) (k : Nat) :
    pieceOb Try.prog 0 [.reg [oT, oT, oT, oT], .dec true, .reg [oT, oT, oT, oT, oT, oT, oT, oT, oT, oT], .reg [oT, oT, oT], .head] [.code (cAt (bodyOf Try.f40) [1, 1, 1, 0, 1, 0, 0, 1, 0, 0, 1, 1, 1, 0, 1, 0, 0]), .inLoop (cAt (bodyOf Try.f40) [1, 1, 1, 0, 1, 0, 0, 1, 0, 0, 1, 1, 1, 0, 1, 0, 0]), .inBlock 2, .code (cAt (bodyOf Try.f40) [1, 1, 1, 0, 1, 0, 0, 1, 0, 0, 1, 1, 1, 1]), .inBlock 1, .code (cAt (bodyOf Try.f40) [1, 1, 1, 0, 1, 0, 0, 1, 1]), .inLoop (cAt (bodyOf Try.f40) [1, 1, 1, 0, 1, 0, 0]), .inBlock 0, .code (cAt (bodyOf Try.f40) [1, 1, 1, 1])] (SKs1 n i c m f G s b k) [0, 1] 1 (SKs1 n i c m f G s (bif b then true else ((f k).toList == s.toList)) (k + 1)) =
    some ([.code (cAt (bodyOf Try.f40) [1, 1, 1, 0, 1, 0, 0, 1, 0, 0, 1, 1, 1, 0, 1, 0, 0]), .inLoop (cAt (bodyOf Try.f40) [1, 1, 1, 0, 1, 0, 0, 1, 0, 0, 1, 1, 1, 0, 1, 0, 0]), .inBlock 2, .code (cAt (bodyOf Try.f40) [1, 1, 1, 0, 1, 0, 0, 1, 0, 0, 1, 1, 1, 1]), .inBlock 1, .code (cAt (bodyOf Try.f40) [1, 1, 1, 0, 1, 0, 0, 1, 1]), .inLoop (cAt (bodyOf Try.f40) [1, 1, 1, 0, 1, 0, 0]), .inBlock 0, .code (cAt (bodyOf Try.f40) [1, 1, 1, 1])], [((decide ((↑k : Int) < (↑c : Int))) = true),
  (AG (!b)),
  (AG (!b)),
  (((!b) = true) → ((0 : Int) ≤ (↑k : Int))),
  (((!b) = true) → (((↑k : Int) : Int) < (↑c : Int))),
  (AG (!b)),
  (((!b) = true) → ((k : Nat) < c)),
  (AG (!b)),
  (AG (!b)),
  ((b = false) → ((!b) = true)),
  (((-9223372036854775808) : Int) ≤ ((↑k : Int) + 1)),
  ((((↑k : Int) + 1) : Int) ≤ 9223372036854775807),
  (AI n),
  (AN 0),
  (AN c),
  (AN 0),
  (AN m),
  (AI ((↑i : Int))),
  (s = s),
  ((bif b then true else (f k).toList == s.toList) = (bif b then true else (f k).toList == s.toList)),
  ((((↑k : Int) + 1) : Int) = (↑(k + 1) : Int)),
  (AN 1),
  ((c : Nat) ≤ c),
  (AA c (fun i_1 => [.p (.str (f i_1))])),
  (AN 2),
  ((m : Nat) ≤ m),
  (AA m (fun i_1 => [.p (.int .i64 n), .p (.seq false 2 ((G i_1).1) (fun i_2 => [.int .i64 (((G i_1).2 i_2).1), .int .i64 (((G i_1).2 i_2).2.1)]))]))]) := by kernel_rfl
theorem kSc (n : Int) (i c m : Nat) (f : Nat → ByteArray) (G : Nat → T_BarS) (s : ByteArray) (k : Nat) :
    pieceOb Try.prog 0 [.reg [oT, oT, oT, oT], .dec false, .reg [oT, oT], .dec true, .reg [oT, oT, oT, oT, oT], .reg [oT, oT, oT], .head] [.code (cAt (bodyOf Try.f40) [1, 1, 1, 0, 1, 0, 0, 1, 0, 0, 1, 1, 1, 0, 1, 0, 0]), .inLoop (cAt (bodyOf Try.f40) [1, 1, 1, 0, 1, 0, 0, 1, 0, 0, 1, 1, 1, 0, 1, 0, 0]), .inBlock 2, .code (cAt (bodyOf Try.f40) [1, 1, 1, 0, 1, 0, 0, 1, 0, 0, 1, 1, 1, 1]), .inBlock 1, .code (cAt (bodyOf Try.f40) [1, 1, 1, 0, 1, 0, 0, 1, 1]), .inLoop (cAt (bodyOf Try.f40) [1, 1, 1, 0, 1, 0, 0]), .inBlock 0, .code (cAt (bodyOf Try.f40) [1, 1, 1, 1])] (SKs1 n i c m f G s false k) [290, 1] 1 (SKs n (i + 1) (c + 1) m (snT c f s) G) =
    some ([.code (cAt (bodyOf Try.f40) [1, 1, 1, 0, 1, 0, 0]), .inLoop (cAt (bodyOf Try.f40) [1, 1, 1, 0, 1, 0, 0]), .inBlock 0, .code (cAt (bodyOf Try.f40) [1, 1, 1, 1])], [((decide ((↑k : Int) < (↑c : Int))) = false),
  ((!false) = true),
  ((1 : Nat) ≤ 1),
  ((c : Nat) ≤ c),
  ((((c + 1) * 16) : Nat) ≤ 140737488355328),
  (((c + 1) : Nat) ≤ 9223372036854775807),
  (((-9223372036854775808) : Int) ≤ ((↑i : Int) + 1)),
  ((((↑i : Int) + 1) : Int) ≤ 9223372036854775807),
  (AI n),
  (AN 0),
  (AN ((c + 1))),
  (AN 0),
  (AN m),
  ((((↑i : Int) + 1) : Int) = (↑(i + 1) : Int)),
  (AN 1),
  (((c + 1) : Nat) ≤ (c + 1)),
  (∀ i_1 : Nat, (((i_1 : Nat) < (c + 1)) → (All (cvtL false [(290, ⟨false, 1, (c + 1), (fun i_2 => (if (i_2 < c) then [.p (.str (f i_2))] else [.p (.str s)]))⟩), (258, ⟨false, 1, 1, (fun i_2 => [.p (.str s)])⟩), (1, ⟨false, 2, m, (fun i_2 => [.p (.int .i64 n), .p (.seq false 2 ((G i_2).1) (fun i_3 => [.int .i64 (((G i_2).2 i_3).1), .int .i64 (((G i_2).2 i_3).2.1)]))])⟩)] [290, 1] 1 (if (i_1 < c) then [.p (.str (f i_1))] else [.p (.str s)])).2 ∧ (((cvtL false [(290, ⟨false, 1, (c + 1), (fun i_2 => (if (i_2 < c) then [.p (.str (f i_2))] else [.p (.str s)]))⟩), (258, ⟨false, 1, 1, (fun i_2 => [.p (.str s)])⟩), (1, ⟨false, 2, m, (fun i_2 => [.p (.int .i64 n), .p (.seq false 2 ((G i_2).1) (fun i_3 => [.int .i64 (((G i_2).2 i_3).1), .int .i64 (((G i_2).2 i_3).2.1)]))])⟩)] [290, 1] 1 (if (i_1 < c) then [.p (.str (f i_1))] else [.p (.str s)])).1 : List AV) = [.p (.str (snT c f s i_1))])))),
  (AN 2),
  ((m : Nat) ≤ m),
  (AA m (fun i_1 => [.p (.int .i64 n), .p (.seq false 2 ((G i_1).1) (fun i_2 => [.int .i64 (((G i_1).2 i_2).1), .int .i64 (((G i_1).2 i_2).2.1)]))]))]) := by kernel_rfl
theorem kSd (n : Int) (i c m : Nat) (f : Nat → ByteArray) (G : Nat → T_BarS) (s : ByteArray) (k : Nat) :
    pieceOb Try.prog 0 [.reg [oT, oT, oT, oT], .dec false, .reg [oT, oT], .dec false, .reg [oT, oT, oT], .head] [.code (cAt (bodyOf Try.f40) [1, 1, 1, 0, 1, 0, 0, 1, 0, 0, 1, 1, 1, 0, 1, 0, 0]), .inLoop (cAt (bodyOf Try.f40) [1, 1, 1, 0, 1, 0, 0, 1, 0, 0, 1, 1, 1, 0, 1, 0, 0]), .inBlock 2, .code (cAt (bodyOf Try.f40) [1, 1, 1, 0, 1, 0, 0, 1, 0, 0, 1, 1, 1, 1]), .inBlock 1, .code (cAt (bodyOf Try.f40) [1, 1, 1, 0, 1, 0, 0, 1, 1]), .inLoop (cAt (bodyOf Try.f40) [1, 1, 1, 0, 1, 0, 0]), .inBlock 0, .code (cAt (bodyOf Try.f40) [1, 1, 1, 1])] (SKs1 n i c m f G s true k) [0, 1] 1 (SKs n (i + 1) c m f G) =
    some ([.code (cAt (bodyOf Try.f40) [1, 1, 1, 0, 1, 0, 0]), .inLoop (cAt (bodyOf Try.f40) [1, 1, 1, 0, 1, 0, 0]), .inBlock 0, .code (cAt (bodyOf Try.f40) [1, 1, 1, 1])], [((decide ((↑k : Int) < (↑c : Int))) = false),
  ((!true) = false),
  (((-9223372036854775808) : Int) ≤ ((↑i : Int) + 1)),
  ((((↑i : Int) + 1) : Int) ≤ 9223372036854775807),
  (AI n),
  (AN 0),
  (AN c),
  (AN 0),
  (AN m),
  ((((↑i : Int) + 1) : Int) = (↑(i + 1) : Int)),
  (AN 1),
  ((c : Nat) ≤ c),
  (AA c (fun i_1 => [.p (.str (f i_1))])),
  (AN 2),
  ((m : Nat) ≤ m),
  (AA m (fun i_1 => [.p (.int .i64 n), .p (.seq false 2 ((G i_1).1) (fun i_2 => [.int .i64 (((G i_1).2 i_2).1), .int .i64 (((G i_1).2 i_2).2.1)]))]))]) := by kernel_rfl
theorem kSe (n : Int) (i c m : Nat) (f : Nat → ByteArray) (G : Nat → T_BarS) :
    pathOb Try.prog Try.f40 0 [.reg [oT, oT, oT, oT, oT, oT, oT, oT], .dec false, .reg [oT, oT]] [.code (cAt (bodyOf Try.f40) [1, 1, 1, 0, 1, 0, 0]), .inLoop (cAt (bodyOf Try.f40) [1, 1, 1, 0, 1, 0, 0]), .inBlock 0, .code (cAt (bodyOf Try.f40) [1, 1, 1, 1])] (SKs n i c m f G) [0] 1 [(0, stOt c f)] (.ar 1 0 0 c) =
    some [(AG (decide ((↑i : Int) < (↑m : Int)))),
  (AG (decide ((↑i : Int) < (↑m : Int)))),
  ((bif decide ((↑i : Int) < (↑m : Int)) then decide (n ≤ 4) else false) = false),
  (AN 0),
  (AN c),
  (AN 1),
  ((c : Nat) ≤ c),
  (AA c (fun i_1 => [.p (.str (f i_1))])),
  (AE c)] := by kernel_rfl
def hasT (f : Nat → ByteArray) (x : ByteArray) : Nat → Bool
  | 0 => false
  | k + 1 => bif hasT f x k then true else ((f k).toList == x.toList)
theorem beqT (a b : List UInt8) : (a == b) = (b == a) := by
  cases h : (a == b) with
  | true => rw [beq_iff_eq] at h; subst h; simp
  | false =>
    have : ¬ b = a := fun e => by rw [e] at h; simp at h
    simp [this]
theorem hasT_hit (f : Nat → ByteArray) (x : ByteArray) (k : Nat) (h : ((f k).toList == x.toList) = true) : ∀ n, k < n → hasT f x n = true
  | 0, h' => absurd h' (Nat.not_lt_zero _)
  | n + 1, h' => by
    simp only [hasT]
    by_cases e : k = n
    · subst e; rw [h]; cases hasT f x k <;> rfl
    · rw [hasT_hit f x k h n (by omega)]; rfl
theorem con_IndexT (n : Nat) (f : Nat → ByteArray) (x : ByteArray) (hn : n ≤ 1048576) : ∃ r : Int, decide (r ≥ 0) = hasT f x n ∧ Con Try.prog 126 0 [] [stLt n f, .p (.str x)] [] (.p (.int .i64 r)) := by
  by_cases hh : hasT f x n = true
  · have ex : ∃ k, k < n ∧ ((f k).toList == x.toList) = true ∧ ∀ j, j < k → ((f j).toList == x.toList) = false := by
      have : ∀ n, hasT f x n = true → ∃ k, k < n ∧ ((f k).toList == x.toList) = true ∧ ∀ j, j < k → ((f j).toList == x.toList) = false := by
        intro n
        induction n with
        | zero => intro h; cases h
        | succ n ih =>
          intro h
          cases h' : hasT f x n with
          | true =>
            obtain ⟨k, h1, h2, h3⟩ := ih h'
            exact ⟨k, by omega, h2, h3⟩
          | false =>
            rw [hasT, h', cond_false] at h
            refine ⟨n, by omega, h, fun j hj => ?_⟩
            cases e : ((f j).toList == x.toList) with
            | false => rfl
            | true => rw [hasT_hit f x j e n hj] at h'; cases h'
      exact this n hh
    obtain ⟨k, h1, h2, h3⟩ := ex
    refine ⟨k, by rw [hh]; exact decide_eq_true (by omega), ?_⟩
    refine con_start Try.func126 rfl (by kernel_rfl) rfl (fun c hc => ?_)
    have lo : ∀ d j, j + d = k → Run Try.prog c 126 [.code (cAt (bodyOf Try.f126) [1, 0, 1, 0, 0]), .inLoop (cAt (bodyOf Try.f126) [1, 0, 1, 0, 0]), .inBlock 0, .code (cAt (bodyOf Try.f126) [1, 1])] (SKx n f x j) (Post c [] (.p (.int .i64 k))) := by
      intro d
      induction d with
      | zero =>
        intro j hj
        obtain rfl : j = k := by omega
        have hd : decide ((j : Int) < (n : Int)) = true := decide_eq_true (by omega)
        rw [beqT] at h2
        refine path_ok mixed Try.func126 hc (kXc n f x j) ?_
        simp only [All]
        repeat' (first | exact trivial | with_reducible apply And.intro)
        all_goals (first | exact aG _ | exact aP _ _ | exact aA _ _ | exact aE _ | omega | rfl | (intros; first | assumption | exact True.intro | rfl | exact absurd (show false = true by assumption) Bool.false_ne_true | ((repeat' (first | assumption | apply anda | apply notf)); done)) | (exact hd) | (exact h2))
      | succ d ih =>
        intro j hj
        have hd : decide ((j : Int) < (n : Int)) = true := decide_eq_true (by omega)
        have h4 := h3 j (by omega)
        rw [beqT] at h4
        refine piece_ok mixed hc (kXb n f x j) ?_ (ih (j + 1) (by omega))
        simp only [All]
        repeat' (first | exact trivial | with_reducible apply And.intro)
        all_goals (first | exact aG _ | exact aP _ _ | exact aA _ _ | exact aE _ | omega | rfl | (intros; first | assumption | exact True.intro | rfl | exact absurd (show false = true by assumption) Bool.false_ne_true | ((repeat' (first | assumption | apply anda | apply notf)); done)) | (exact hd) | (exact h4) | (intro t ht; simp [All, aEt]))
    refine piece_ok mixed hc (kXa n f x) ?_ (lo k 0 (by omega))
    simp only [All]
    repeat' (first | exact trivial | with_reducible apply And.intro)
    all_goals (first | exact aG _ | exact aP _ _ | exact aA _ _ | exact aE _ | omega | rfl | (intros; first | assumption | exact True.intro | rfl | exact absurd (show false = true by assumption) Bool.false_ne_true | ((repeat' (first | assumption | apply anda | apply notf)); done)) | (intro t ht; simp [All, aEt]))
  · have hh : hasT f x n = false := by simpa using hh
    refine ⟨-1, by rw [hh]; rfl, ?_⟩
    refine con_start Try.func126 rfl (by kernel_rfl) rfl (fun c hc => ?_)
    have lo : ∀ d j, j + d = n → Run Try.prog c 126 [.code (cAt (bodyOf Try.f126) [1, 0, 1, 0, 0]), .inLoop (cAt (bodyOf Try.f126) [1, 0, 1, 0, 0]), .inBlock 0, .code (cAt (bodyOf Try.f126) [1, 1])] (SKx n f x j) (Post c [] (.p (.int .i64 (-1)))) := by
      intro d
      induction d with
      | zero =>
        intro j hj
        obtain rfl : j = n := by omega
        have hd : decide ((j : Int) < (j : Int)) = false := by simp
        refine path_ok mixed Try.func126 hc (kXd j f x j) ?_
        simp only [All]
        repeat' (first | exact trivial | with_reducible apply And.intro)
        all_goals (first | exact aG _ | exact aP _ _ | exact aA _ _ | exact aE _ | omega | rfl | (intros; first | assumption | exact True.intro | rfl | exact absurd (show false = true by assumption) Bool.false_ne_true | ((repeat' (first | assumption | apply anda | apply notf)); done)) | (exact hd))
      | succ d ih =>
        intro j hj
        have hd : decide ((j : Int) < (n : Int)) = true := decide_eq_true (by omega)
        have h4 : ((f j).toList == x.toList) = false := by
          cases e : ((f j).toList == x.toList) with
          | false => rfl
          | true => rw [hasT_hit f x j e n (by omega)] at hh; cases hh
        rw [beqT] at h4
        refine piece_ok mixed hc (kXb n f x j) ?_ (ih (j + 1) (by omega))
        simp only [All]
        repeat' (first | exact trivial | with_reducible apply And.intro)
        all_goals (first | exact aG _ | exact aP _ _ | exact aA _ _ | exact aE _ | omega | rfl | (intros; first | assumption | exact True.intro | rfl | exact absurd (show false = true by assumption) Bool.false_ne_true | ((repeat' (first | assumption | apply anda | apply notf)); done)) | (exact hd) | (exact h4) | (intro t ht; simp [All, aEt]))
    refine piece_ok mixed hc (kXa n f x) ?_ (lo n 0 (by omega))
    simp only [All]
    repeat' (first | exact trivial | with_reducible apply And.intro)
    all_goals (first | exact aG _ | exact aP _ _ | exact aA _ _ | exact aE _ | omega | rfl | (intros; first | assumption | exact True.intro | rfl | exact absurd (show false = true by assumption) Bool.false_ne_true | ((repeat' (first | assumption | apply anda | apply notf)); done)) | (intro t ht; simp [All, aEt]))
theorem con_ContainsT (n : Nat) (f : Nat → ByteArray) (x : ByteArray) (hn : n ≤ 1048576) : Con Try.prog 91 0 [] [stLt n f, .p (.str x)] [] (.p (.bool (hasT f x n))) := by
  obtain ⟨r, hr, hcon⟩ := con_IndexT n f x hn
  rw [← hr]
  refine con_start Try.func91 rfl (by kernel_rfl) rfl (fun c hc => ?_)
  refine path_ok mixed Try.func91 hc (kXe n f x r) ?_
  simp only [All]
  repeat' (first | exact trivial | with_reducible apply And.intro)
  all_goals (first | exact aG _ | exact aP _ _ | exact aA _ _ | exact aE _ | omega | rfl | (intros; first | assumption | exact True.intro | rfl | exact absurd (show false = true by assumption) Bool.false_ne_true | ((repeat' (first | assumption | apply anda | apply notf)); done)) | (exact hcon))
theorem gF_in (n M : Nat) (A : Nat → T_Bar) (hM : M ≤ 10) : ∀ d w (x : Nat × (Nat → T_BarS)), x.1 ≤ w → (∀ i, i < x.1 → (x.2 i).1 ≤ 1048576) → (gF n M A w d x).1 ≤ w + d ∧ ∀ i, i < (gF n M A w d x).1 → ((gF n M A w d x).2 i).1 ≤ 1048576
  | 0, w, x, h1, h2 => ⟨h1, h2⟩
  | d + 1, w, x, h1, h2 => by
    rw [gF]
    have hsm := (sm_bF n w A M hM).2.1.1
    have ih := fun y h1 h2 => gF_in n M A hM d (w + 1) y h1 h2
    generalize (bif ((bF w A 0 M zB).1 : Int) == maxI n then mrG ((n : Int), bF w A 0 M zB, ()) else false) = b at *
    cases b with
    | false =>
      rw [cond_false]
      have := ih x (by omega) h2
      exact ⟨by omega, this.2⟩
    | true =>
      rw [cond_true]
      have := ih (x.1 + 1, snocB x.1 x.2 (bF w A 0 M zB)) (by show x.1 + 1 ≤ _; omega) (fun i hi => by
        show (if i < x.1 then (x.2 i).1 else (bF w A 0 M zB).1) ≤ _
        split
        · rename_i h; exact h2 i h
        · exact hsm)
      exact ⟨by omega, this.2⟩
theorem rgG_in (n : Int) : (rgG n).1 ≤ 1024 ∧ ∀ i, i < (rgG n).1 → ((rgG n).2 i).1 ≤ 1048576 := by
  unfold rgG
  cases hb : inB n 1 5 with
  | false => exact ⟨Nat.zero_le _, fun i hi => absurd hi (Nat.not_lt_zero _)⟩
  | true =>
    have h15 : 1 ≤ n ∧ n ≤ 5 := by simpa [inB] using hb
    have hM := cgD_le n.toNat (by omega)
    have := gF_in n.toNat (cgD n.toNat).1 (cgD n.toNat).2 hM (2 ^ (cgD n.toNat).1) 0 zG (Nat.le_refl _) (fun i hi => absurd hi (Nat.not_lt_zero _))
    have hp := pow_le (cgD n.toNat).1 hM
    exact ⟨by show (gD n.toNat).1 ≤ _; unfold gD; omega, this.2⟩
abbrev LT := Nat × (Nat → ByteArray)
noncomputable def kdS (n : Int) (G : Nat → T_BarS) (i : Nat) : ByteArray := gfB (cnG (n, G i, ())).2.1.2 (cnG (n, G i, ())).2.1.1 (cnG (n, G i, ())).1
noncomputable def kdD (n : Int) (G : Nat → T_BarS) : Nat → LT
  | 0 => (0, fun _ => ⟨#[]⟩)
  | i + 1 => if hasT (kdD n G i).2 (kdS n G i) (kdD n G i).1 = true then kdD n G i else ((kdD n G i).1 + 1, snT (kdD n G i).1 (kdD n G i).2 (kdS n G i))
noncomputable def kdR (n : Int) : LT := if n > 4 then (0, fun _ => ⟨#[]⟩) else kdD n (rgG n).2 (rgG n).1
theorem kdD_n (n : Int) (G : Nat → T_BarS) : ∀ i, (kdD n G i).1 ≤ i
  | 0 => Nat.le_refl _
  | i + 1 => by
    have := kdD_n n G i
    simp only [kdD]
    split
    · omega
    · show (kdD n G i).1 + 1 ≤ _; omega
theorem kdR_n (n : Int) : (kdR n).1 ≤ 1024 := by
  unfold kdR
  split
  · exact Nat.zero_le _
  · have := kdD_n n (rgG n).2 (rgG n).1
    have := (rgG_in n).1
    omega
theorem con_Kinds_i (n : Int) : Con Try.prog 41 0 [] [.p (.int .i64 n)] [(0, stOt (kdR n).1 (kdR n).2)] (.ar 1 0 0 (kdR n).1) := by
  refine con_start Try.func41 rfl (by kernel_rfl) rfl (fun c hc => ?_)
  by_cases hn : n > 4
  · rw [show kdR n = (0, fun _ => ⟨#[]⟩) by simp [kdR, hn]]
    have hd : decide (n > 4) = true := decide_eq_true hn
    refine path_ok mixed Try.func41 hc (kIy n) ?_
    simp only [All]
    repeat' (first | exact trivial | with_reducible apply And.intro)
    all_goals (first | exact aG _ | exact aP _ _ | exact aA _ _ | exact aE _ | omega | rfl | (intros; first | assumption | exact True.intro | rfl | exact absurd (show false = true by assumption) Bool.false_ne_true | ((repeat' (first | assumption | apply anda | apply notf)); done)) | (exact hd) | (intro t ht; exact absurd ht (Nat.not_lt_zero _)))
  · rw [show kdR n = kdD n (rgG n).2 (rgG n).1 by simp [kdR, hn]]
    have hd : decide (n > 4) = false := decide_eq_false hn
    have cr := con_RigidGraphs_i n
    have hin := rgG_in n
    generalize rgG n = Q at *
    generalize hR : kdD n Q.2 Q.1 = R
    have lo : ∀ d i, i + d = Q.1 → Run Try.prog c 41 [.code (cAt (bodyOf Try.f41) [1, 1, 1, 1, 0, 1, 0, 0]), .inLoop (cAt (bodyOf Try.f41) [1, 1, 1, 1, 0, 1, 0, 0]), .inBlock 0, .code (cAt (bodyOf Try.f41) [1, 1, 1, 1, 1])] (SKi n i (kdD n Q.2 i).1 Q.1 (kdD n Q.2 i).2 Q.2) (Post c [(0, stOt R.1 R.2)] (.ar 1 0 0 R.1)) := by
      intro d
      induction d with
      | zero =>
        intro i hi
        obtain rfl : i = Q.1 := by omega
        have hd0 : decide ((Q.1 : Int) < (Q.1 : Int)) = false := by simp
        rw [hR]
        refine path_ok mixed Try.func41 hc (kIe n Q.1 R.1 Q.1 R.2 Q.2) ?_
        simp only [All]
        repeat' (first | exact trivial | with_reducible apply And.intro)
        all_goals (first | exact aG _ | exact aP _ _ | exact aA _ _ | exact aE _ | omega | rfl | (intros; first | assumption | exact True.intro | rfl | exact absurd (show false = true by assumption) Bool.false_ne_true | ((repeat' (first | assumption | apply anda | apply notf)); done)) | (exact hd0) | (intros; simp [All, aEt, ntAL, ntA, ntP, ntL]; done))
      | succ d ih =>
        intro i hi
        have hrec := ih (i + 1) (by omega)
        have hd0 : decide ((i : Int) < (Q.1 : Int)) = true := decide_eq_true (by omega)
        have hcn := cnG_n (n, Q.2 i, ())
        have c1 := con_Canon_i (n, Q.2 i, ()) (sm_graph (hin.2 i (by omega)))
        have c2 := con_FormatGraph_i (cnG (n, Q.2 i, ())).2.1.2 (cnG (n, Q.2 i, ())).2.1.1 (cnG (n, Q.2 i, ())).1 (by omega)
        have hk := kdD_n n Q.2 i
        have c3 := con_ContainsT (kdD n Q.2 i).1 (kdD n Q.2 i).2 (kdS n Q.2 i) (by omega)
        have e : kdD n Q.2 (i + 1) = if hasT (kdD n Q.2 i).2 (kdS n Q.2 i) (kdD n Q.2 i).1 = true then kdD n Q.2 i else ((kdD n Q.2 i).1 + 1, snT (kdD n Q.2 i).1 (kdD n Q.2 i).2 (kdS n Q.2 i)) := rfl
        change Con _ _ _ _ _ _ (.p (.str (kdS n Q.2 i))) at c2
        generalize kdS n Q.2 i = s at *
        generalize kdD n Q.2 i = q at *
        cases hh : hasT q.2 s q.1 with
        | true =>
          rw [hh] at c3 e
          rw [e, if_pos rfl] at hrec
          refine piece_ok mixed hc (kIb n i q.1 Q.1 q.2 Q.2 (cnG (n, Q.2 i, ())) (cnB (n, Q.2 i, ())) s) ?_ hrec
          simp only [All]
          repeat' (first | exact trivial | with_reducible apply And.intro)
          all_goals (first | exact aG _ | exact aP _ _ | exact aA _ _ | exact aE _ | omega | rfl | (intros; first | assumption | exact True.intro | rfl | exact absurd (show false = true by assumption) Bool.false_ne_true | ((repeat' (first | assumption | apply anda | apply notf)); done)) | (exact hd0) | (exact c1) | (exact c2) | (exact c3) | (intros; simp [All, aEt]; done))
        | false =>
          rw [hh] at c3 e
          rw [e, if_neg (by simp)] at hrec
          refine piece_ok mixed hc (kIa n i q.1 Q.1 q.2 Q.2 (cnG (n, Q.2 i, ())) (cnB (n, Q.2 i, ())) s) ?_ hrec
          simp only [All]
          repeat' (first | exact trivial | with_reducible apply And.intro)
          all_goals (first | exact aG _ | exact aP _ _ | exact aA _ _ | exact aE _ | omega | rfl | (intros; first | assumption | exact True.intro | rfl | exact absurd (show false = true by assumption) Bool.false_ne_true | ((repeat' (first | assumption | apply anda | apply notf)); done)) | (exact hd0) | (exact c1) | (exact c2) | (exact c3) | (intro t ht; by_cases h' : t < q.1 <;> simp [h', snT, cvtL, cvt, tg, tru, All]; done) | (intros; simp [All, aEt]; done))
    refine piece_ok mixed hc (kIz n Q.1 Q.2 (inB n 1 5)) ?_ (lo Q.1 0 (by omega))
    simp only [All]
    repeat' (first | exact trivial | with_reducible apply And.intro)
    all_goals (first | exact aG _ | exact aP _ _ | exact aA _ _ | exact aE _ | omega | rfl | (intros; first | assumption | exact True.intro | rfl | exact absurd (show false = true by assumption) Bool.false_ne_true | ((repeat' (first | assumption | apply anda | apply notf)); done)) | (exact hd) | (exact cr) | (intro t ht; exact absurd ht (Nat.not_lt_zero _)) | (intros; simp [All, aEt]; done))
theorem con_Kinds_s (n : Int) : Con Try.prog 40 0 [] [.p (.int .i64 n)] [(0, stOt (kdR n).1 (kdR n).2)] (.ar 1 0 0 (kdR n).1) := by
  refine con_start Try.func40 rfl (by kernel_rfl) rfl (fun c hc => ?_)
  have cr := con_RigidGraphs_s n
  have hin := rgG_in n
  by_cases hn : n > 4
  · rw [show kdR n = (0, fun _ => ⟨#[]⟩) by simp [kdR, hn]]
    generalize rgG n = Q at *
    have hd0 : (bif decide (((0 : Nat) : Int) < (Q.1 : Int)) then decide (n ≤ 4) else false) = false := by
      rw [decide_eq_false (show ¬ n ≤ 4 by omega)]; cases decide (((0 : Nat) : Int) < (Q.1 : Int)) <;> rfl
    have he : Run Try.prog c 40 [.code (cAt (bodyOf Try.f40) [1, 1, 1, 0, 1, 0, 0]), .inLoop (cAt (bodyOf Try.f40) [1, 1, 1, 0, 1, 0, 0]), .inBlock 0, .code (cAt (bodyOf Try.f40) [1, 1, 1, 1])] (SKs n 0 0 Q.1 (fun _ => ⟨#[]⟩) Q.2) (Post c [(0, stOt 0 (fun _ => ⟨#[]⟩))] (.ar 1 0 0 0)) := by
      refine path_ok mixed Try.func40 hc (kSe n 0 0 Q.1 (fun _ => ⟨#[]⟩) Q.2) ?_
      simp only [All]
      repeat' (first | exact trivial | with_reducible apply And.intro)
      all_goals (first | exact aG _ | exact aP _ _ | exact aA _ _ | exact aE _ | omega | rfl | (intros; first | assumption | exact True.intro | rfl | exact absurd (show false = true by assumption) Bool.false_ne_true | ((repeat' (first | assumption | apply anda | apply notf)); done)) | (exact hd0) | (intro t ht; exact absurd ht (Nat.not_lt_zero _)) | (intros; simp [All, aEt, ntAL, ntA, ntP, ntL]; done))
    refine piece_ok mixed hc (kSz n Q.1 Q.2 (inB n 1 5)) ?_ he
    simp only [All]
    repeat' (first | exact trivial | with_reducible apply And.intro)
    all_goals (first | exact aG _ | exact aP _ _ | exact aA _ _ | exact aE _ | omega | rfl | (intros; first | assumption | exact True.intro | rfl | exact absurd (show false = true by assumption) Bool.false_ne_true | ((repeat' (first | assumption | apply anda | apply notf)); done)) | (exact cr) | (intro t ht; exact absurd ht (Nat.not_lt_zero _)) | (intros; simp [All, aEt]; done))
  · rw [show kdR n = kdD n (rgG n).2 (rgG n).1 by simp [kdR, hn]]
    generalize rgG n = Q at *
    generalize hR : kdD n Q.2 Q.1 = R
    have lj : ∀ i s (q : LT), q.1 ≤ 1024 → (Run Try.prog c 40 [.code (cAt (bodyOf Try.f40) [1, 1, 1, 0, 1, 0, 0, 1, 0, 0, 1, 1, 1, 0, 1, 0, 0]), .inLoop (cAt (bodyOf Try.f40) [1, 1, 1, 0, 1, 0, 0, 1, 0, 0, 1, 1, 1, 0, 1, 0, 0]), .inBlock 2, .code (cAt (bodyOf Try.f40) [1, 1, 1, 0, 1, 0, 0, 1, 0, 0, 1, 1, 1, 1]), .inBlock 1, .code (cAt (bodyOf Try.f40) [1, 1, 1, 0, 1, 0, 0, 1, 1]), .inLoop (cAt (bodyOf Try.f40) [1, 1, 1, 0, 1, 0, 0]), .inBlock 0, .code (cAt (bodyOf Try.f40) [1, 1, 1, 1])] (SKs1 n i q.1 Q.1 q.2 Q.2 s (hasT q.2 s q.1) q.1) (Post c [(0, stOt R.1 R.2)] (.ar 1 0 0 R.1))) →
        ∀ d k, k + d = q.1 → Run Try.prog c 40 [.code (cAt (bodyOf Try.f40) [1, 1, 1, 0, 1, 0, 0, 1, 0, 0, 1, 1, 1, 0, 1, 0, 0]), .inLoop (cAt (bodyOf Try.f40) [1, 1, 1, 0, 1, 0, 0, 1, 0, 0, 1, 1, 1, 0, 1, 0, 0]), .inBlock 2, .code (cAt (bodyOf Try.f40) [1, 1, 1, 0, 1, 0, 0, 1, 0, 0, 1, 1, 1, 1]), .inBlock 1, .code (cAt (bodyOf Try.f40) [1, 1, 1, 0, 1, 0, 0, 1, 1]), .inLoop (cAt (bodyOf Try.f40) [1, 1, 1, 0, 1, 0, 0]), .inBlock 0, .code (cAt (bodyOf Try.f40) [1, 1, 1, 1])] (SKs1 n i q.1 Q.1 q.2 Q.2 s (hasT q.2 s k) k) (Post c [(0, stOt R.1 R.2)] (.ar 1 0 0 R.1)) := by
      intro i s q hq hk d
      induction d with
      | zero =>
        intro k hk'
        obtain rfl : k = q.1 := by omega
        exact hk
      | succ d ih =>
        intro k hk'
        have hd0 : decide ((k : Int) < (q.1 : Int)) = true := decide_eq_true (by omega)
        refine piece_ok mixed hc (kSb n i q.1 Q.1 q.2 Q.2 s (hasT q.2 s k) k) ?_ (ih (k + 1) (by omega))
        simp only [All]
        repeat' (first | exact trivial | with_reducible apply And.intro)
        all_goals (first | exact aG _ | exact aP _ _ | exact aA _ _ | exact aE _ | omega | rfl | (intros; first | assumption | exact True.intro | rfl | exact absurd (show false = true by assumption) Bool.false_ne_true | ((repeat' (first | assumption | apply anda | apply notf)); done)) | (exact hd0) | (intros; simp [All, aEt]; done))
    have lo : ∀ d i, i + d = Q.1 → Run Try.prog c 40 [.code (cAt (bodyOf Try.f40) [1, 1, 1, 0, 1, 0, 0]), .inLoop (cAt (bodyOf Try.f40) [1, 1, 1, 0, 1, 0, 0]), .inBlock 0, .code (cAt (bodyOf Try.f40) [1, 1, 1, 1])] (SKs n i (kdD n Q.2 i).1 Q.1 (kdD n Q.2 i).2 Q.2) (Post c [(0, stOt R.1 R.2)] (.ar 1 0 0 R.1)) := by
      intro d
      induction d with
      | zero =>
        intro i hi
        obtain rfl : i = Q.1 := by omega
        have hd0 : (bif decide ((Q.1 : Int) < (Q.1 : Int)) then decide (n ≤ 4) else false) = false := by
          rw [decide_eq_false (show ¬ (Q.1 : Int) < (Q.1 : Int) by omega)]; rfl
        rw [hR]
        refine path_ok mixed Try.func40 hc (kSe n Q.1 R.1 Q.1 R.2 Q.2) ?_
        simp only [All]
        repeat' (first | exact trivial | with_reducible apply And.intro)
        all_goals (first | exact aG _ | exact aP _ _ | exact aA _ _ | exact aE _ | omega | rfl | (intros; first | assumption | exact True.intro | rfl | exact absurd (show false = true by assumption) Bool.false_ne_true | ((repeat' (first | assumption | apply anda | apply notf)); done)) | (exact hd0) | (intros; simp [All, aEt, ntAL, ntA, ntP, ntL]; done))
      | succ d ih =>
        intro i hi
        have hrec := ih (i + 1) (by omega)
        have hd0 : (bif decide ((i : Int) < (Q.1 : Int)) then decide (n ≤ 4) else false) = true := by
          rw [decide_eq_true (show (i : Int) < (Q.1 : Int) by omega), decide_eq_true (show n ≤ 4 by omega)]; rfl
        have hcn := cnG_n (n, Q.2 i, ())
        have c1 := con_Canon_s (n, Q.2 i, ()) (sm_graph (hin.2 i (by omega)))
        have c2 := con_FormatGraph_s (cnG (n, Q.2 i, ())).2.1.2 (cnG (n, Q.2 i, ())).2.1.1 (cnG (n, Q.2 i, ())).1 (by omega)
        have hk := kdD_n n Q.2 i
        have e : kdD n Q.2 (i + 1) = if hasT (kdD n Q.2 i).2 (kdS n Q.2 i) (kdD n Q.2 i).1 = true then kdD n Q.2 i else ((kdD n Q.2 i).1 + 1, snT (kdD n Q.2 i).1 (kdD n Q.2 i).2 (kdS n Q.2 i)) := rfl
        change Con _ _ _ _ _ _ (.p (.str (kdS n Q.2 i))) at c2
        generalize kdS n Q.2 i = s at *
        generalize kdD n Q.2 i = q at *
        have hnext : Run Try.prog c 40 [.code (cAt (bodyOf Try.f40) [1, 1, 1, 0, 1, 0, 0, 1, 0, 0, 1, 1, 1, 0, 1, 0, 0]), .inLoop (cAt (bodyOf Try.f40) [1, 1, 1, 0, 1, 0, 0, 1, 0, 0, 1, 1, 1, 0, 1, 0, 0]), .inBlock 2, .code (cAt (bodyOf Try.f40) [1, 1, 1, 0, 1, 0, 0, 1, 0, 0, 1, 1, 1, 1]), .inBlock 1, .code (cAt (bodyOf Try.f40) [1, 1, 1, 0, 1, 0, 0, 1, 1]), .inLoop (cAt (bodyOf Try.f40) [1, 1, 1, 0, 1, 0, 0]), .inBlock 0, .code (cAt (bodyOf Try.f40) [1, 1, 1, 1])] (SKs1 n i q.1 Q.1 q.2 Q.2 s (hasT q.2 s q.1) q.1) (Post c [(0, stOt R.1 R.2)] (.ar 1 0 0 R.1)) := by
          have hd1 : decide ((q.1 : Int) < (q.1 : Int)) = false := by simp
          cases hh : hasT q.2 s q.1 with
          | true =>
            rw [hh, if_pos rfl] at e
            rw [e] at hrec
            refine piece_ok mixed hc (kSd n i q.1 Q.1 q.2 Q.2 s q.1) ?_ hrec
            simp only [All]
            repeat' (first | exact trivial | with_reducible apply And.intro)
            all_goals (first | exact aG _ | exact aP _ _ | exact aA _ _ | exact aE _ | omega | rfl | (intros; first | assumption | exact True.intro | rfl | exact absurd (show false = true by assumption) Bool.false_ne_true | ((repeat' (first | assumption | apply anda | apply notf)); done)) | (exact hd1) | (intros; simp [All, aEt]; done))
          | false =>
            rw [hh, if_neg (by simp)] at e
            rw [e] at hrec
            refine piece_ok mixed hc (kSc n i q.1 Q.1 q.2 Q.2 s q.1) ?_ hrec
            simp only [All]
            repeat' (first | exact trivial | with_reducible apply And.intro)
            all_goals (first | exact aG _ | exact aP _ _ | exact aA _ _ | exact aE _ | omega | rfl | (intros; first | assumption | exact True.intro | rfl | exact absurd (show false = true by assumption) Bool.false_ne_true | ((repeat' (first | assumption | apply anda | apply notf)); done)) | (exact hd1) | (intro t ht; by_cases h' : t < q.1 <;> simp [h', snT, cvtL, cvt, tg, tru, All]; done) | (intros; simp [All, aEt]; done))
        refine piece_ok mixed hc (kSa n i q.1 Q.1 q.2 Q.2 (cnG (n, Q.2 i, ())) (cnB (n, Q.2 i, ())) s) ?_ (lj i s q (by omega) hnext q.1 0 (by omega))
        simp only [All]
        repeat' (first | exact trivial | with_reducible apply And.intro)
        all_goals (first | exact aG _ | exact aP _ _ | exact aA _ _ | exact aE _ | omega | rfl | (intros; first | assumption | exact True.intro | rfl | exact absurd (show false = true by assumption) Bool.false_ne_true | ((repeat' (first | assumption | apply anda | apply notf)); done)) | (exact hd0) | (exact c1) | (exact c2) | (intros; simp [All, aEt]; done))
    refine piece_ok mixed hc (kSz n Q.1 Q.2 (inB n 1 5)) ?_ (lo Q.1 0 (by omega))
    simp only [All]
    repeat' (first | exact trivial | with_reducible apply And.intro)
    all_goals (first | exact aG _ | exact aP _ _ | exact aA _ _ | exact aE _ | omega | rfl | (intros; first | assumption | exact True.intro | rfl | exact absurd (show false = true by assumption) Bool.false_ne_true | ((repeat' (first | assumption | apply anda | apply notf)); done)) | (exact cr) | (intro t ht; exact absurd ht (Nat.not_lt_zero _)) | (intros; simp [All, aEt]; done))
end Go.Proofs.Ytgdbnnmogddkaaa.Mach
namespace Go.Proofs.Ytgdbnnmogddkaaa.Mach
open Go
set_option linter.unusedVariables false
set_option linter.unusedSimpArgs false
def STe (n k : Nat) (f : Nat → ByteArray) : St :=
  ⟨[stLt n f, stLt n f, .p .any, .p .any, .p .any, .p (.int .i64 k)] ++ List.replicate 20 anyA, [], 0⟩
theorem tEa (n : Nat) (f : Nat → ByteArray) :
    pieceOb Try.prog 0 [.reg [oT], .reg [oT, oT, oT, oT, oT], .dec false, .reg [oT], .head] [.code (bodyOf Try.f42)] (start Try.f42 [] 0 [stLt n f, stLt n f]) [] 1 (STe n 0 f) =
    some ([.code (cAt (bodyOf Try.f42) [1, 1, 0, 1, 0, 0]), .inLoop (cAt (bodyOf Try.f42) [1, 1, 0, 1, 0, 0]), .inBlock 0, .code (cAt (bodyOf Try.f42) [1, 1, 1])], [(((↑n : Int) != (↑n : Int)) = false),
  (AN n),
  (AP n (fun i => [.str (f i)])),
  (AN n),
  (AP n (fun i => [.str (f i)])),
  ((0 : Int) = (↑0 : Int))]) := by kernel_rfl
theorem tEb (n k : Nat) (f : Nat → ByteArray) :
    pieceOb Try.prog 0 [.reg [oT, oT, oT, oT], .dec true, .reg [oT, oT, oT, oT, oT, oT, oT, oT, oT], .dec false, .reg [oT, oT, oT], .head] [.code (cAt (bodyOf Try.f42) [1, 1, 0, 1, 0, 0]), .inLoop (cAt (bodyOf Try.f42) [1, 1, 0, 1, 0, 0]), .inBlock 0, .code (cAt (bodyOf Try.f42) [1, 1, 1])] (STe n k f) [] 1 (STe n (k + 1) f) =
    some ([.code (cAt (bodyOf Try.f42) [1, 1, 0, 1, 0, 0]), .inLoop (cAt (bodyOf Try.f42) [1, 1, 0, 1, 0, 0]), .inBlock 0, .code (cAt (bodyOf Try.f42) [1, 1, 1])], [((decide ((↑k : Int) < (↑n : Int))) = true),
  ((0 : Int) ≤ (↑k : Int)),
  (((↑k : Int) : Int) < (↑n : Int)),
  ((0 : Int) ≤ (↑k : Int)),
  (((↑k : Int) : Int) < (↑n : Int)),
  ((!(f k).toList == (f k).toList) = false),
  (((-9223372036854775808) : Int) ≤ ((↑k : Int) + 1)),
  ((((↑k : Int) + 1) : Int) ≤ 9223372036854775807),
  (AN n),
  (AP n (fun i => [.str (f i)])),
  (AN n),
  (AP n (fun i => [.str (f i)])),
  ((((↑k : Int) + 1) : Int) = (↑(k + 1) : Int))]) := by kernel_rfl
theorem tEc (n k : Nat) (f : Nat → ByteArray) :
    pathOb Try.prog Try.f42 0 [.reg [oT, oT, oT, oT], .dec false, .reg [oT]] [.code (cAt (bodyOf Try.f42) [1, 1, 0, 1, 0, 0]), .inLoop (cAt (bodyOf Try.f42) [1, 1, 0, 1, 0, 0]), .inBlock 0, .code (cAt (bodyOf Try.f42) [1, 1, 1])] (STe n k f) [] 1 [] (.p (.bool true)) =
    some [((decide ((↑k : Int) < (↑n : Int))) = false),
  (true = true)] := by kernel_rfl
theorem tLaw (n : Int) (c : Nat) (f : Nat → ByteArray) :
    pathOb Try.prog Try.f10 0 [.reg [oT], .reg [oT, ⟨true, (some ⟨[], [], [], 1, [(0, stOt c f)], .ar 1 0 0 c⟩), none⟩, oT], .reg [oT, ⟨true, (some ⟨[], [], [], 1, [(0, stOt c f)], .ar 1 0 0 c⟩), none⟩, oT], .reg [oT, oT, ⟨true, (some ⟨[], [], [], 1, [], .p (.bool true)⟩), none⟩, oT], .dec false, .reg [oT], .reg [oT, oT, ⟨true, (some ⟨[160], [], [], 1, [(0, stOt c (fun i => mtB (1 + (i : Int))))], .p (.int .i64 (1 + (c : Int)))⟩), none⟩, oT], .reg [oT], .reg [oT, oT, ⟨true, (some ⟨[], [], [], 1, [], .p (.int .i64 (1 + (c : Int)))⟩), none⟩, oT], .reg [oT, oT], .dec false, .reg [oT, oT, oT], .dec false, .reg [oT, ⟨true, (some ⟨[], [], [], 1, [(0, stOt c f)], .ar 1 0 0 c⟩), none⟩, oT], .reg [oT, oT, ⟨true, (some ⟨[], [], [], 1, [], .p (.bool true)⟩), none⟩, oT], .dec false, .reg [oT], .reg [oT, oT, ⟨true, (some ⟨[], [], [], 1, [], .p (.int .i64 (1 + (c : Int)))⟩), none⟩, oT], .reg [oT, oT], .dec false, .reg [oT, oT, oT], .dec false, .reg [oT]] [.code (bodyOf Try.f10)] (start Try.f10 [] 0 [.p (.int .i64 n)]) [] 1 [] (.p (.bool true)) =
    some [Con Try.prog 40 0 [] [.p (.int .i64 n)] [(0, ⟨false, 1, c, (fun i => [.p (.str (f i))])⟩)] (.ar 1 0 0 c),
  Con Try.prog 41 0 [] [.p (.int .i64 n)] [(0, ⟨false, 1, c, (fun i => [.p (.str (f i))])⟩)] (.ar 1 0 0 c),
  (AN 1),
  ((c : Nat) ≤ c),
  (AN 1),
  ((c : Nat) ≤ c),
  Con Try.prog 42 0 [] [.p (.seq true 1 c (fun i => [.str (f i)])), .p (.seq true 1 c (fun i => [.str (f i)]))] [] (.p (.bool true)),
  ((!true) = false),
  (AE c),
  Con Try.prog 43 1 [(0, ⟨false, 1, c, (fun i => [.p (.str (f i))])⟩)] [.ar 1 0 0 c, .p (.int .i64 1)] [(0, ⟨false, 1, c, (fun i => [.p (.str (mtB (1 + (↑i : Int))))])⟩)] (.p (.int .i64 (1 + (↑c : Int)))),
  (AN 1),
  ((c : Nat) ≤ c),
  Con Try.prog 44 0 [] [.p (.seq true 1 c (fun i => [.str (mtB (1 + (↑i : Int)))])), .p (.int .i64 1)] [] (.p (.int .i64 (1 + (↑c : Int)))),
  ((decide (1 + (↑c : Int) < 0)) = false),
  ((1 + (↑c : Int) != 1 + (↑c : Int)) = false),
  Con Try.prog 41 0 [] [.p (.int .i64 n)] [(0, ⟨false, 1, c, (fun i => [.p (.str (f i))])⟩)] (.ar 1 0 0 c),
  (AN 1),
  ((c : Nat) ≤ c),
  (AN 1),
  ((c : Nat) ≤ c),
  Con Try.prog 42 0 [] [.p (.seq true 1 c (fun i => [.str (f i)])), .p (.seq true 1 c (fun i => [.str (f i)]))] [] (.p (.bool true)),
  ((!true) = false),
  (AN 1),
  ((c : Nat) ≤ c),
  Con Try.prog 44 0 [] [.p (.seq true 1 c (fun i => [.str (mtB (1 + (↑i : Int)))])), .p (.int .i64 1)] [] (.p (.int .i64 (1 + (↑c : Int)))),
  ((decide (1 + (↑c : Int) < 0)) = false),
  ((1 + (↑c : Int) != 1 + (↑c : Int)) = false),
  (true = true)] := by kernel_rfl
theorem con_eqTexts (n : Nat) (f : Nat → ByteArray) (hn : n ≤ 1048576) : Con Try.prog 42 0 [] [stLt n f, stLt n f] [] (.p (.bool true)) := by
  refine con_start Try.func42 rfl (by kernel_rfl) rfl (fun c hc => ?_)
  have lp : ∀ m k, k + m = n → Run Try.prog c 42 [.code (cAt (bodyOf Try.f42) [1, 1, 0, 1, 0, 0]), .inLoop (cAt (bodyOf Try.f42) [1, 1, 0, 1, 0, 0]), .inBlock 0, .code (cAt (bodyOf Try.f42) [1, 1, 1])] (STe n k f) (Post c [] (.p (.bool true))) := by
    intro m
    induction m with
    | zero =>
      intro k hk
      refine path_ok mixed Try.func42 hc (tEc n k f) ?_
      simp only [All]
      repeat' (first | exact trivial | with_reducible apply And.intro)
      all_goals (first | exact aG _ | exact aP _ _ | exact aA _ _ | exact aE _ | omega | rfl | (intros; first | assumption | exact True.intro | rfl | exact absurd (show false = true by assumption) Bool.false_ne_true | ((repeat' (first | assumption | apply anda | apply notf)); done)) | (simp; try omega))
    | succ m ih =>
      intro k hk
      have hlt : decide ((k : Int) < (n : Int)) = true := by simp; omega
      refine piece_ok mixed hc (tEb n k f) ?_ (ih (k + 1) (by omega))
      simp only [All]
      repeat' (first | exact trivial | with_reducible apply And.intro)
      all_goals (first | exact aG _ | exact aP _ _ | exact aA _ _ | exact aE _ | omega | rfl | (intros; first | assumption | exact True.intro | rfl | exact absurd (show false = true by assumption) Bool.false_ne_true | ((repeat' (first | assumption | apply anda | apply notf)); done)) | simp)
  refine piece_ok mixed hc (tEa n f) ?_ (lp n 0 (by omega))
  simp only [All]
  repeat' (first | exact trivial | with_reducible apply And.intro)
  all_goals (first | exact aG _ | exact aP _ _ | exact aA _ _ | exact aE _ | omega | rfl | (intros; first | assumption | exact True.intro | rfl | exact absurd (show false = true by assumption) Bool.false_ne_true | ((repeat' (first | assumption | apply anda | apply notf)); done)) | simp)
theorem con_law_FnExactKindsOfRigid (n : Int) (k0 : okS (.int .i64) n) : Con Try.prog 10 0 [] [.p (.int .i64 n)] [] (.p (.bool true)) := by
  have hn := kdR_n n
  have c1 := con_Kinds_s n
  have c2 := con_Kinds_i n
  generalize kdR n = R at *
  have c3 := con_eqTexts R.1 R.2 (by omega)
  have c4 := con_markTexts R.1 R.2 1 (by omega) (by omega) (by omega)
  have c5 := con_heldTexts R.1 1 (by omega) (by omega) (by omega)
  refine con_start Try.func10 rfl (by kernel_rfl) rfl (fun c hc => ?_)
  refine path_ok mixed Try.func10 hc (tLaw n R.1 R.2) ?_
  simp only [All]
  repeat' (first | exact trivial | with_reducible apply And.intro)
  all_goals (first | exact aG _ | exact aP _ _ | exact aA _ _ | exact aE _ | omega | rfl | (intros; first | assumption | exact True.intro | rfl | exact absurd (show false = true by assumption) Bool.false_ne_true | ((repeat' (first | assumption | apply anda | apply notf)); done)) | (exact c1) | (exact c2) | (exact c3) | (exact c4) | (exact c5) | (simp; done) | (simp; omega))
end Go.Proofs.Ytgdbnnmogddkaaa.Mach
