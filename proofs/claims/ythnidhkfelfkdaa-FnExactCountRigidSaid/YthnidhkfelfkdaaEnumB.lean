/- Minimally rigid graphs counted: both programs count alike. Conditions: as each theorem says. -/
import Derived.Test.YthnidhkfelfkdaaEnumA
namespace Go.Proofs.Ythnidhkfelfkdaa.Mach
open Go
set_option linter.unusedVariables false
set_option linter.unusedSimpArgs false

noncomputable def rkG (v : T_Graph) : Nat := (accI v.1.toNat 2 3 v.2.1.2 v.2.1.1).length
noncomputable def frG (v : T_Graph) : Int := if isGraphF v = true then maxI v.1 - (rkG v : Int) else -1
noncomputable def mrG (v : T_Graph) : Bool := bif frG v == 0 then (v.2.1.1 : Int) == (rkG v : Int) else false

theorem maxI_b {n : Int} (h : n ≤ 8) : 0 ≤ maxI n ∧ maxI n ≤ 13 := by
  unfold maxI; split <;> omega

theorem con_FreedomOf_s (v : T_Graph) (hs : smS s_Graph v) : Con Try.prog 81 0 [] [graphA v] [] (.p (.int .i64 (frG v))) := by
  have hcg := con_IsGraph_s v hs
  cases hg : isGraphF v with
  | false =>
    rw [hg] at hcg
    rw [show frG v = -1 by simp [frG, hg]]
    refine con_start Try.func81 rfl (by kernel_rfl) rfl (fun c hc => ?_)
    refine path_ok mixed Try.func81 hc (eFy_s v) ?_
    simp only [All]
    repeat' (first | exact trivial | with_reducible apply And.intro)
    all_goals (first | omega | rfl | (intros; first | assumption | exact True.intro | rfl | exact absurd (show false = true by assumption) Bool.false_ne_true | ((repeat' (first | assumption | apply anda | apply notf)); done)) | (intros; exact hcg) | (simp; done))
  | true =>
    rw [hg] at hcg
    obtain ⟨N, nb, g, rfl⟩ := graph_cases v hg
    obtain ⟨hN, hnb, _⟩ := graph_in hg
    have hr := con_RankOf_s hg 2 3 (by omega) (by omega)
    have hl := accI_len N 2 3 g nb
    have hm := maxI_b (n := (N : Int)) (by omega)
    rw [show frG ((N : Int), (nb, g), ()) = maxI N - ((accI N 2 3 g nb).length : Nat) by simp [frG, hg, rkG]]
    refine con_start Try.func81 rfl (by kernel_rfl) rfl (fun c hc => ?_)
    refine path_ok mixed Try.func81 hc (eFz_s g nb N (accI N 2 3 g nb).length) ?_
    simp only [All]
    repeat' (first | exact trivial | with_reducible apply And.intro)
    all_goals (first | omega | rfl | (intros; first | assumption | exact True.intro | rfl | exact absurd (show false = true by assumption) Bool.false_ne_true | ((repeat' (first | assumption | apply anda | apply notf)); done)) | (intros; exact hcg) | (exact hr) | (simp only [if_true]; show _ ≤ maxI N - _; omega) | (simp only [if_true]; show maxI N - _ ≤ _; omega) | (simp; done) | (simp only [if_true]; rfl))

theorem con_FreedomOf_i (v : T_Graph) (hs : smS s_Graph v) : Con Try.prog 74 0 [] [graphA v] [] (.p (.int .i64 (frG v))) := by
  have hcg := con_IsGraph_i v hs
  cases hg : isGraphF v with
  | false =>
    rw [hg] at hcg
    rw [show frG v = -1 by simp [frG, hg]]
    refine con_start Try.func74 rfl (by kernel_rfl) rfl (fun c hc => ?_)
    refine path_ok mixed Try.func74 hc (eFy_i v) ?_
    simp only [All]
    repeat' (first | exact trivial | with_reducible apply And.intro)
    all_goals (first | omega | rfl | (intros; first | assumption | exact True.intro | rfl | exact absurd (show false = true by assumption) Bool.false_ne_true | ((repeat' (first | assumption | apply anda | apply notf)); done)) | (intros; exact hcg) | (simp; done))
  | true =>
    rw [hg] at hcg
    obtain ⟨N, nb, g, rfl⟩ := graph_cases v hg
    obtain ⟨hN, hnb, _⟩ := graph_in hg
    have hr := con_RankOf_i hg 2 3 (by omega) (by omega)
    have hl := accI_len N 2 3 g nb
    have hm := maxI_b (n := (N : Int)) (by omega)
    rw [show frG ((N : Int), (nb, g), ()) = maxI N - ((accI N 2 3 g nb).length : Nat) by simp [frG, hg, rkG]]
    refine con_start Try.func74 rfl (by kernel_rfl) rfl (fun c hc => ?_)
    refine path_ok mixed Try.func74 hc (eFz_i g nb N (accI N 2 3 g nb).length) ?_
    simp only [All]
    repeat' (first | exact trivial | with_reducible apply And.intro)
    all_goals (first | omega | rfl | (intros; first | assumption | exact True.intro | rfl | exact absurd (show false = true by assumption) Bool.false_ne_true | ((repeat' (first | assumption | apply anda | apply notf)); done)) | (intros; exact hcg) | (exact hr) | (simp only [if_true]; show _ ≤ maxI N - _; omega) | (simp only [if_true]; show maxI N - _ ≤ _; omega) | (simp; done) | (simp only [if_true]; rfl))

theorem con_IsRigid_s (v : T_Graph) (hs : smS s_Graph v) : Con Try.prog 71 0 [] [graphA v] [] (.p (.bool (frG v == 0))) := by
  have hf := con_FreedomOf_s v hs
  refine con_start Try.func71 rfl (by kernel_rfl) rfl (fun c hc => ?_)
  refine path_ok mixed Try.func71 hc (eR_s v _) ?_
  simp only [All]
  repeat' (first | exact trivial | with_reducible apply And.intro)
  all_goals (first | omega | rfl | (intros; first | assumption | exact True.intro | rfl | exact absurd (show false = true by assumption) Bool.false_ne_true | ((repeat' (first | assumption | apply anda | apply notf)); done)) | (exact hf) | (simp; done))

theorem con_IsRigid_i (v : T_Graph) (hs : smS s_Graph v) : Con Try.prog 66 0 [] [graphA v] [] (.p (.bool (frG v == 0))) := by
  have hf := con_FreedomOf_i v hs
  refine con_start Try.func66 rfl (by kernel_rfl) rfl (fun c hc => ?_)
  refine path_ok mixed Try.func66 hc (eR_i v _) ?_
  simp only [All]
  repeat' (first | exact trivial | with_reducible apply And.intro)
  all_goals (first | omega | rfl | (intros; first | assumption | exact True.intro | rfl | exact absurd (show false = true by assumption) Bool.false_ne_true | ((repeat' (first | assumption | apply anda | apply notf)); done)) | (exact hf) | (simp; done))

theorem frG_graph {v : T_Graph} (h : (frG v == 0) = true) : isGraphF v = true := by
  cases hg : isGraphF v with
  | true => rfl
  | false => simp [frG, hg] at h

theorem con_IsMin_s (v : T_Graph) (hs : smS s_Graph v) : Con Try.prog 64 0 [] [graphA v] [] (.p (.bool (mrG v))) := by
  have hf := con_IsRigid_s v hs
  have hr : (frG v == 0) = true → Con Try.prog 72 0 [] [graphA v, .p (.int .i64 2), .p (.int .i64 3)] [] (.p (.int .i64 (rkG v : Nat))) := by
    intro h
    have hg := frG_graph h
    obtain ⟨N, nb, g, rfl⟩ := graph_cases v hg
    exact con_RankOf_s hg 2 3 (by omega) (by omega)
  refine con_start Try.func64 rfl (by kernel_rfl) rfl (fun c hc => ?_)
  refine path_ok mixed Try.func64 hc (eM_s v (frG v == 0) (rkG v)) ?_
  simp only [All]
  repeat' (first | exact trivial | with_reducible apply And.intro)
  all_goals (first | omega | rfl | (intros; first | assumption | exact True.intro | rfl | exact absurd (show false = true by assumption) Bool.false_ne_true | ((repeat' (first | assumption | apply anda | apply notf)); done)) | (exact hf) | (intro h; exact hr h) | (intro h; exact h) | (simp; done) | rfl)

theorem con_IsMin_i (v : T_Graph) (hs : smS s_Graph v) : Con Try.prog 50 0 [] [graphA v] [] (.p (.bool (mrG v))) := by
  have hf := con_IsRigid_i v hs
  have hr : (frG v == 0) = true → Con Try.prog 67 0 [] [graphA v, .p (.int .i64 2), .p (.int .i64 3)] [] (.p (.int .i64 (rkG v : Nat))) := by
    intro h
    have hg := frG_graph h
    obtain ⟨N, nb, g, rfl⟩ := graph_cases v hg
    exact con_RankOf_i hg 2 3 (by omega) (by omega)
  refine con_start Try.func50 rfl (by kernel_rfl) rfl (fun c hc => ?_)
  rw [show mrG v = (bif frG v == 0 then (rkG v : Int) == (v.2.1.1 : Int) else false) by unfold mrG; rw [show ((v.2.1.1 : Int) == (rkG v : Int)) = ((rkG v : Int) == (v.2.1.1 : Int)) from by rw [Bool.eq_iff_iff]; simp only [beq_iff_eq]; exact eq_comm]]
  refine path_ok mixed Try.func50 hc (eM_i v (frG v == 0) (rkG v)) ?_
  simp only [All]
  repeat' (first | exact trivial | with_reducible apply And.intro)
  all_goals (first | omega | rfl | (intros; first | assumption | exact True.intro | rfl | exact absurd (show false = true by assumption) Bool.false_ne_true | ((repeat' (first | assumption | apply anda | apply notf)); done)) | (exact hf) | (intro h; exact hr h) | (intro h; exact h) | (simp; done) | rfl)

def zB : T_BarS := (0, fun _ => (0, 0, ()))
def cinF (a : Nat) : Nat → Nat → T_BarS → T_BarS
  | _, 0, x => x
  | b, d + 1, x => cinF a (b + 1) d (x.1 + 1, snoc x.1 x.2 ((a : Int), (b : Int), ()))
def cgF (n : Nat) : Nat → Nat → T_BarS → T_BarS
  | _, 0, x => x
  | a, d + 1, x => cgF n (a + 1) d (cinF a (a + 1) (n - (a + 1)) x)
def cgD (n : Nat) : T_BarS := cgF n 0 n zB

theorem cinF_n (a : Nat) : ∀ d b x, (cinF a b d x).1 = x.1 + d := by
  intro d
  induction d with
  | zero => intro b x; rfl
  | succ d ih => intro b x; rw [cinF, ih]; simp only; omega

theorem con_Complete_s (n : Nat) (h1 : 1 ≤ n) (h7 : n ≤ 7) : Con Try.prog 45 0 [] [.p (.int .i64 n)] [(0, brOb (cgD n).1 (cgD n).2)] (.agg [.p (.int .i64 n), .ar 2 0 0 (cgD n).1]) := by
  have hin := con_l1In n 1 7
  rw [show inB (n : Int) 1 7 = true by simp [inB]; omega] at hin
  refine con_start Try.func45 rfl (by kernel_rfl) rfl (fun c hc => ?_)
  have li : ∀ a, a < n → ∀ d b cc h, b + d = n → cc + d ≤ 8 * a + 8 → Run Try.prog c 45 [.code (cAt (bodyOf Try.f45) [1, 1, 1, 0, 1, 0, 0]), .inLoop (cAt (bodyOf Try.f45) [1, 1, 1, 0, 1, 0, 0]), .inBlock 0, .code (cAt (bodyOf Try.f45) [1, 1, 1, 1])] (SGs n (a + 1) (cinF a b d (cc, h)).1 (cinF a b d (cc, h)).2) (Post c [(0, brOb (cgD n).1 (cgD n).2)] (.agg [.p (.int .i64 n), .ar 2 0 0 (cgD n).1])) →
      Run Try.prog c 45 [.code (cAt (bodyOf Try.f45) [1, 1, 1, 0, 1, 0, 0, 1, 0, 0, 1, 0, 0]), .inLoop (cAt (bodyOf Try.f45) [1, 1, 1, 0, 1, 0, 0, 1, 0, 0, 1, 0, 0]), .inBlock 2, .inBlock 1, .code (cAt (bodyOf Try.f45) [1, 1, 1, 0, 1, 0, 0, 1, 1]), .inLoop (cAt (bodyOf Try.f45) [1, 1, 1, 0, 1, 0, 0]), .inBlock 0, .code (cAt (bodyOf Try.f45) [1, 1, 1, 1])] (SGs1 n a b cc h) (Post c [(0, brOb (cgD n).1 (cgD n).2)] (.agg [.p (.int .i64 n), .ar 2 0 0 (cgD n).1])) := by
    intro a ha d
    induction d with
    | zero =>
      intro b cc h hb hcc hk
      have hd : decide ((b : Int) < (n : Int)) = false := by simp; omega
      refine piece_ok mixed hc (eGs3 n a b cc h) ?_ hk
      simp only [All]
      repeat' (first | exact trivial | with_reducible apply And.intro)
      all_goals (first | omega | rfl | (intros; first | assumption | exact True.intro | rfl | exact absurd (show false = true by assumption) Bool.false_ne_true | ((repeat' (first | assumption | apply anda | apply notf)); done)) | (exact hd) | (intro j hj; simp [All]))
    | succ d ih =>
      intro b cc h hb hcc hk
      have hd : decide ((b : Int) < (n : Int)) = true := by simp; omega
      refine piece_ok mixed hc (eGs2 n a b cc h) ?_ (ih (b + 1) (cc + 1) _ (by omega) (by omega) hk)
      simp only [All]
      repeat' (first | exact trivial | with_reducible apply And.intro)
      all_goals (first | omega | rfl | (intros; first | assumption | exact True.intro | rfl | exact absurd (show false = true by assumption) Bool.false_ne_true | ((repeat' (first | assumption | apply anda | apply notf)); done)) | (exact hd) | (intro j hj; by_cases h' : j < cc <;> simp [h', snoc, cvtL, cvt, tg, tru, All]))
  have lo : ∀ d a cc h, a + d = n → cc ≤ 8 * a → cgF n a d (cc, h) = cgD n → Run Try.prog c 45 [.code (cAt (bodyOf Try.f45) [1, 1, 1, 0, 1, 0, 0]), .inLoop (cAt (bodyOf Try.f45) [1, 1, 1, 0, 1, 0, 0]), .inBlock 0, .code (cAt (bodyOf Try.f45) [1, 1, 1, 1])] (SGs n a cc h) (Post c [(0, brOb (cgD n).1 (cgD n).2)] (.agg [.p (.int .i64 n), .ar 2 0 0 (cgD n).1])) := by
    intro d
    induction d with
    | zero =>
      intro a cc h ha hcc he
      have hd : decide ((a : Int) < (n : Int)) = false := by simp; omega
      rw [← he]
      refine path_ok mixed Try.func45 hc (eGse n a cc h) ?_
      simp only [All]
      repeat' (first | exact trivial | with_reducible apply And.intro)
      all_goals (first | omega | rfl | (intros; first | assumption | exact True.intro | rfl | exact absurd (show false = true by assumption) Bool.false_ne_true | ((repeat' (first | assumption | apply anda | apply notf)); done)) | (exact hd) | (intro j hj; simp [All]))
    | succ d ih =>
      intro a cc h ha hcc he
      have hd : decide ((a : Int) < (n : Int)) = true := by simp; omega
      have hn := cinF_n a (n - (a + 1)) (a + 1) (cc, h)
      refine piece_ok mixed hc (eGs1 n a cc h) ?_ (li a (by omega) (n - (a + 1)) (a + 1) cc h (by omega) (by omega) (ih (a + 1) _ _ (by omega) (by rw [hn]; simp only; omega) he))
      simp only [All]
      repeat' (first | exact trivial | with_reducible apply And.intro)
      all_goals (first | omega | rfl | (intros; first | assumption | exact True.intro | rfl | exact absurd (show false = true by assumption) Bool.false_ne_true | ((repeat' (first | assumption | apply anda | apply notf)); done)) | (exact hd) | (intro j hj; simp [All]))
  refine piece_ok mixed hc (eGs0 n) ?_ (lo n 0 0 _ (by omega) (by omega) rfl)
  simp only [All]
  repeat' (first | exact trivial | with_reducible apply And.intro)
  all_goals (first | omega | rfl | (intros; first | assumption | exact True.intro | rfl | exact absurd (show false = true by assumption) Bool.false_ne_true | ((repeat' (first | assumption | apply anda | apply notf)); done)) | (exact hin) | rfl | (simp; done) | (intro j hj; simp [All]))

theorem con_Complete_i (n : Nat) (h1 : 1 ≤ n) (h7 : n ≤ 7) : Con Try.prog 47 0 [] [.p (.int .i64 n)] [(0, brOb (cgD n).1 (cgD n).2)] (.agg [.p (.int .i64 n), .ar 2 0 0 (cgD n).1]) := by
  have hin := con_within n 1 7
  rw [show inB (n : Int) 1 7 = true by simp [inB]; omega] at hin
  refine con_start Try.func47 rfl (by kernel_rfl) rfl (fun c hc => ?_)
  have li : ∀ a, a < n → ∀ d b cc h, b + d = n → cc + d ≤ 8 * a + 8 → Run Try.prog c 47 [.code (cAt (bodyOf Try.f47) [1, 1, 1, 0, 1, 0, 0]), .inLoop (cAt (bodyOf Try.f47) [1, 1, 1, 0, 1, 0, 0]), .inBlock 0, .code (cAt (bodyOf Try.f47) [1, 1, 1, 1])] (SGi n (a + 1) (cinF a b d (cc, h)).1 (cinF a b d (cc, h)).2) (Post c [(0, brOb (cgD n).1 (cgD n).2)] (.agg [.p (.int .i64 n), .ar 2 0 0 (cgD n).1])) →
      Run Try.prog c 47 [.code (cAt (bodyOf Try.f47) [1, 1, 1, 0, 1, 0, 0, 1, 1, 0, 0, 1, 1, 0, 0]), .inLoop (cAt (bodyOf Try.f47) [1, 1, 1, 0, 1, 0, 0, 1, 1, 0, 0, 1, 1, 0, 0]), .inBlock 2, .inBlock 1, .code (cAt (bodyOf Try.f47) [1, 1, 1, 0, 1, 0, 0, 1, 1, 1]), .inLoop (cAt (bodyOf Try.f47) [1, 1, 1, 0, 1, 0, 0]), .inBlock 0, .code (cAt (bodyOf Try.f47) [1, 1, 1, 1])] (SGi1 n a b cc h) (Post c [(0, brOb (cgD n).1 (cgD n).2)] (.agg [.p (.int .i64 n), .ar 2 0 0 (cgD n).1])) := by
    intro a ha d
    induction d with
    | zero =>
      intro b cc h hb hcc hk
      have hd : decide ((b : Int) < (n : Int)) = false := by simp; omega
      refine piece_ok mixed hc (eGi3 n a b cc h) ?_ hk
      simp only [All]
      repeat' (first | exact trivial | with_reducible apply And.intro)
      all_goals (first | omega | rfl | (intros; first | assumption | exact True.intro | rfl | exact absurd (show false = true by assumption) Bool.false_ne_true | ((repeat' (first | assumption | apply anda | apply notf)); done)) | (exact hd) | (intro j hj; simp [All]))
    | succ d ih =>
      intro b cc h hb hcc hk
      have hd : decide ((b : Int) < (n : Int)) = true := by simp; omega
      refine piece_ok mixed hc (eGi2 n a b cc h) ?_ (ih (b + 1) (cc + 1) _ (by omega) (by omega) hk)
      simp only [All]
      repeat' (first | exact trivial | with_reducible apply And.intro)
      all_goals (first | omega | rfl | (intros; first | assumption | exact True.intro | rfl | exact absurd (show false = true by assumption) Bool.false_ne_true | ((repeat' (first | assumption | apply anda | apply notf)); done)) | (exact hd) | (intro j hj; by_cases h' : j < cc <;> simp [h', snoc, cvtL, cvt, tg, tru, All]))
  have lo : ∀ d a cc h, a + d = n → cc ≤ 8 * a → cgF n a d (cc, h) = cgD n → Run Try.prog c 47 [.code (cAt (bodyOf Try.f47) [1, 1, 1, 0, 1, 0, 0]), .inLoop (cAt (bodyOf Try.f47) [1, 1, 1, 0, 1, 0, 0]), .inBlock 0, .code (cAt (bodyOf Try.f47) [1, 1, 1, 1])] (SGi n a cc h) (Post c [(0, brOb (cgD n).1 (cgD n).2)] (.agg [.p (.int .i64 n), .ar 2 0 0 (cgD n).1])) := by
    intro d
    induction d with
    | zero =>
      intro a cc h ha hcc he
      have hd : decide ((a : Int) < (n : Int)) = false := by simp; omega
      rw [← he]
      refine path_ok mixed Try.func47 hc (eGie n a cc h) ?_
      simp only [All]
      repeat' (first | exact trivial | with_reducible apply And.intro)
      all_goals (first | omega | rfl | (intros; first | assumption | exact True.intro | rfl | exact absurd (show false = true by assumption) Bool.false_ne_true | ((repeat' (first | assumption | apply anda | apply notf)); done)) | (exact hd) | (intro j hj; simp [All]))
    | succ d ih =>
      intro a cc h ha hcc he
      have hd : decide ((a : Int) < (n : Int)) = true := by simp; omega
      have hn := cinF_n a (n - (a + 1)) (a + 1) (cc, h)
      refine piece_ok mixed hc (eGi1 n a cc h) ?_ (li a (by omega) (n - (a + 1)) (a + 1) cc h (by omega) (by omega) (ih (a + 1) _ _ (by omega) (by rw [hn]; simp only; omega) he))
      simp only [All]
      repeat' (first | exact trivial | with_reducible apply And.intro)
      all_goals (first | omega | rfl | (intros; first | assumption | exact True.intro | rfl | exact absurd (show false = true by assumption) Bool.false_ne_true | ((repeat' (first | assumption | apply anda | apply notf)); done)) | (exact hd) | (intro j hj; simp [All]))
  refine piece_ok mixed hc (eGi0 n) ?_ (lo n 0 0 _ (by omega) (by omega) rfl)
  simp only [All]
  repeat' (first | exact trivial | with_reducible apply And.intro)
  all_goals (first | omega | rfl | (intros; first | assumption | exact True.intro | rfl | exact absurd (show false = true by assumption) Bool.false_ne_true | ((repeat' (first | assumption | apply anda | apply notf)); done)) | (exact hin) | rfl | (simp; done) | (intro j hj; simp [All]))

theorem cgD_le (n : Nat) (h : n ≤ 5) : (cgD n).1 ≤ 10 := by
  rcases n with _ | _ | _ | _ | _ | _ | n
  · decide
  · decide
  · decide
  · decide
  · decide
  · decide
  · omega

def sF (w : Int) : Nat → Nat → T_IntS → T_IntS
  | _, 0, x => x
  | i, d + 1, x => sF w (i + 1) d (bif btI w i then (x.1 + 1, snocI x.1 x.2 i) else x)
def obF (S : T_IntS) (A : Nat → T_Bar) : Nat → Nat → T_BarS → T_BarS
  | _, 0, x => x
  | i, d + 1, x => obF S A (i + 1) d (bif hasI S.2 i S.1 then (x.1 + 1, snoc x.1 x.2 (A i)) else x)
def bF (w : Int) (A : Nat → T_Bar) : Nat → Nat → T_BarS → T_BarS
  | _, 0, x => x
  | i, d + 1, x => bF w A (i + 1) d (bif btI w i then (x.1 + 1, snoc x.1 x.2 (A i)) else x)

theorem has_snocI (f : Nat → Int) (p y : Int) (c : Nat) : hasI (snocI c f p) y (c + 1) = (hasI f y c || p == y) := by
  have h1 : ∀ k, k ≤ c → hasI (snocI c f p) y k = hasI f y k := by
    intro k
    induction k with
    | zero => intro _; rfl
    | succ k ih => intro hk; rw [hasI, hasI, ih (by omega)]; simp [snocI, show k < c by omega]
  rw [hasI, h1 c (Nat.le_refl c)]; simp [snocI]

theorem has_sF (w : Int) : ∀ d i x (y : Nat), hasI (sF w i d x).2 y (sF w i d x).1 = (hasI x.2 y x.1 || (decide (i ≤ y ∧ y < i + d) && btI w y)) := by
  intro d
  induction d with
  | zero => intro i x y; simp only [sF]; rw [show decide (i ≤ y ∧ y < i + 0) = false from decide_eq_false (by omega)]; simp
  | succ d ih =>
    intro i x y
    rw [sF, ih]
    by_cases hy : y = i
    · subst hy
      rw [show decide (y + 1 ≤ y ∧ y < y + 1 + d) = false from decide_eq_false (by omega), show decide (y ≤ y ∧ y < y + (d + 1)) = true from decide_eq_true (by omega)]
      cases hb : btI w y with
      | true => simp only [cond_true]; rw [has_snocI]; simp
      | false => simp
    · rw [show decide (i + 1 ≤ y ∧ y < i + 1 + d) = decide (i ≤ y ∧ y < i + (d + 1)) by rw [decide_eq_decide]; omega]
      cases hb : btI w i with
      | true =>
        simp only [cond_true]; rw [has_snocI, show (((i : Nat) : Int) == (y : Int)) = false by simp; omega]; simp
      | false => simp

theorem sF_n (w : Int) (A : Nat → T_Bar) : ∀ d i x y, x.1 = y.1 → (bF w A i d x).1 = (sF w i d y).1 := by
  intro d
  induction d with
  | zero => intro i x y h; exact h
  | succ d ih =>
    intro i x y h
    rw [bF, sF]
    exact ih _ _ _ (by cases btI w i <;> simp [h])

theorem sF_le (w : Int) : ∀ d i x, (sF w i d x).1 ≤ x.1 + d := by
  intro d
  induction d with
  | zero => intro i x; exact Nat.le_refl _
  | succ d ih =>
    intro i x
    rw [sF]
    have := ih (i + 1) (bif btI w i then (x.1 + 1, snocI x.1 x.2 i) else x)
    cases h : btI w i <;> simp only [h, cond_true, cond_false] at this ⊢ <;> omega

theorem obF_bF (w : Int) (S : T_IntS) (A : Nat → T_Bar) : ∀ (d i : Nat) (x : T_BarS), (∀ j : Nat, i ≤ j → j < i + d → hasI S.2 (j : Int) S.1 = btI w j) → obF S A i d x = bF w A i d x := by
  intro d
  induction d with
  | zero => intro i x h; rfl
  | succ d ih =>
    intro i x h
    rw [obF, bF, h i (by omega) (by omega)]
    exact ih _ _ (fun j h1 h2 => h j (by omega) (by omega))

theorem con_setOf (w M : Nat) (hM : M ≤ 100) : Con Try.prog 48 0 [] [.p (.int .i64 w), .p (.int .i64 M)] [(0, iOb (sF w 0 M (0, fun _ => 0)).1 (sF w 0 M (0, fun _ => 0)).2)] (.ar 1 0 0 (sF w 0 M (0, fun _ => 0)).1) := by
  refine con_start Try.func48 rfl (by kernel_rfl) rfl (fun c hc => ?_)
  generalize hR : sF w 0 M (0, fun _ => 0) = R
  have lp : ∀ d i cc f, i + d = M → cc ≤ i → sF w i d (cc, f) = R → Run Try.prog c 48 [.code (cAt (bodyOf Try.f48) [1, 1, 0, 1, 0, 0]), .inLoop (cAt (bodyOf Try.f48) [1, 1, 0, 1, 0, 0]), .inBlock 0, .code (cAt (bodyOf Try.f48) [1, 1, 1])] (SSo w M i cc f) (Post c [(0, iOb R.1 R.2)] (.ar 1 0 0 R.1)) := by
    intro d
    induction d with
    | zero =>
      intro i cc f hi hcc he
      have hd : decide ((i : Int) < (M : Int)) = false := by simp; omega
      rw [← he]
      refine path_ok mixed Try.func48 hc (eSe w M i cc f) ?_
      simp only [All]
      repeat' (first | exact trivial | with_reducible apply And.intro)
      all_goals (first | omega | rfl | (intros; first | assumption | exact True.intro | rfl | exact absurd (show false = true by assumption) Bool.false_ne_true | ((repeat' (first | assumption | apply anda | apply notf)); done)) | (exact hd) | (intro j hj; simp [All]))
    | succ d ih =>
      intro i cc f hi hcc he
      have hd : decide ((i : Int) < (M : Int)) = true := by simp; omega
      rw [sF] at he
      cases hb : btI w i with
      | true =>
        rw [hb] at he
        have hb' : (bitI BinOp.and IntKind.i64 (shrI IntKind.i64 (w : Int) (i : Int)) 1 == 1) = true := hb
        refine piece_ok mixed hc (eSt w M i cc f) ?_ (ih (i + 1) (cc + 1) _ (by omega) (by omega) he)
        simp only [All]
        repeat' (first | exact trivial | with_reducible apply And.intro)
        all_goals (first | omega | rfl | (intros; first | assumption | exact True.intro | rfl | exact absurd (show false = true by assumption) Bool.false_ne_true | ((repeat' (first | assumption | apply anda | apply notf)); done)) | (exact hd) | (exact hb') | (intro j hj; by_cases h' : j < cc <;> simp [h', snocI, cvtL, cvt, tg, tru, All]))
      | false =>
        rw [hb] at he
        have hb' : (bitI BinOp.and IntKind.i64 (shrI IntKind.i64 (w : Int) (i : Int)) 1 == 1) = false := hb
        refine piece_ok mixed hc (eSf w M i cc f) ?_ (ih (i + 1) cc _ (by omega) (by omega) he)
        simp only [All]
        repeat' (first | exact trivial | with_reducible apply And.intro)
        all_goals (first | omega | rfl | (intros; first | assumption | exact True.intro | rfl | exact absurd (show false = true by assumption) Bool.false_ne_true | ((repeat' (first | assumption | apply anda | apply notf)); done)) | (exact hd) | (exact hb') | (intro j hj; simp [All]))
  refine piece_ok mixed hc (eSz w M) ?_ (lp M 0 0 _ (by omega) (by omega) hR)
  simp only [All]
  repeat' (first | exact trivial | with_reducible apply And.intro)
  all_goals (first | omega | rfl | (intros; first | assumption | exact True.intro | rfl | exact absurd (show false = true by assumption) Bool.false_ne_true | ((repeat' (first | assumption | apply anda | apply notf)); done)) | (intro j hj; simp [All]))

theorem con_OnlyBars (n : Int) (M : Nat) (A : Nat → T_Bar) (S : T_IntS) (hM : M ≤ 100) (hS : S.1 ≤ 1000) :
    Con Try.prog 49 0 [] [gaI n M A, inL S] [(0, brOb (obF S A 0 M zB).1 (obF S A 0 M zB).2)] (.agg [.p (.int .i64 n), .ar 2 0 0 (obF S A 0 M zB).1]) := by
  refine con_start Try.func49 rfl (by kernel_rfl) rfl (fun c hc => ?_)
  generalize hR : obF S A 0 M zB = R
  have lp : ∀ d i cc f, i + d = M → cc ≤ i → obF S A i d (cc, f) = R → Run Try.prog c 49 [.code (cAt (bodyOf Try.f49) [1, 1, 0, 1, 0, 0]), .inLoop (cAt (bodyOf Try.f49) [1, 1, 0, 1, 0, 0]), .inBlock 0, .code (cAt (bodyOf Try.f49) [1, 1, 1])] (SOb n M A S i cc f) (Post c [(0, brOb R.1 R.2)] (.agg [.p (.int .i64 n), .ar 2 0 0 R.1])) := by
    intro d
    induction d with
    | zero =>
      intro i cc f hi hcc he
      have hd : decide ((i : Int) < (M : Int)) = false := by simp; omega
      rw [← he]
      refine path_ok mixed Try.func49 hc (eOe n M A S i cc f) ?_
      simp only [All]
      repeat' (first | exact trivial | with_reducible apply And.intro)
      all_goals (first | omega | rfl | (intros; first | assumption | exact True.intro | rfl | exact absurd (show false = true by assumption) Bool.false_ne_true | ((repeat' (first | assumption | apply anda | apply notf)); done)) | (exact hd) | (intro j hj; simp [All]))
    | succ d ih =>
      intro i cc f hi hcc he
      have hd : decide ((i : Int) < (M : Int)) = true := by simp; omega
      have hh := con_Contains S (i : Int) (by omega)
      rw [obF] at he
      cases hb : hasI S.2 i S.1 with
      | true =>
        rw [hb] at he hh
        refine piece_ok mixed hc (eOt n M A S i cc f) ?_ (ih (i + 1) (cc + 1) _ (by omega) (by omega) he)
        simp only [All]
        repeat' (first | exact trivial | with_reducible apply And.intro)
        all_goals (first | omega | rfl | (intros; first | assumption | exact True.intro | rfl | exact absurd (show false = true by assumption) Bool.false_ne_true | ((repeat' (first | assumption | apply anda | apply notf)); done)) | (exact hd) | (exact hh) | (intro j hj; by_cases h' : j < cc <;> simp [h', snoc, cvtL, cvt, tg, tru, All]))
      | false =>
        rw [hb] at he hh
        refine piece_ok mixed hc (eOf n M A S i cc f) ?_ (ih (i + 1) cc _ (by omega) (by omega) he)
        simp only [All]
        repeat' (first | exact trivial | with_reducible apply And.intro)
        all_goals (first | omega | rfl | (intros; first | assumption | exact True.intro | rfl | exact absurd (show false = true by assumption) Bool.false_ne_true | ((repeat' (first | assumption | apply anda | apply notf)); done)) | (exact hd) | (exact hh) | (intro j hj; simp [All]))
  refine piece_ok mixed hc (eOz n M A S) ?_ (lp M 0 0 _ (by omega) (by omega) hR)
  simp only [All]
  repeat' (first | exact trivial | with_reducible apply And.intro)
  all_goals (first | omega | rfl | (intros; first | assumption | exact True.intro | rfl | exact absurd (show false = true by assumption) Bool.false_ne_true | ((repeat' (first | assumption | apply anda | apply notf)); done)) | (simp; done) | (intro j hj; simp [All]))

end Go.Proofs.Ythnidhkfelfkdaa.Mach
