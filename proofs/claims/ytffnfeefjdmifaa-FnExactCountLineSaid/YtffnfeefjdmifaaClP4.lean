/- What the law Cl needs, part 4 of 5: the abstract machine and the contracts of the functions. Conditions: as each theorem says. -/
import Derived.Laws.Strings
import Derived.Test.YtffnfeefjdmifaaClP3
namespace Go.Proofs.Ytffnfeefjdmifaa.Mach
open Go
set_option linter.unusedVariables false
set_option linter.unusedSimpArgs false
theorem con_IsRange_i (k l : Nat) (hk : 1 ≤ k ∧ k ≤ 3) (hl : l + 1 ≤ 2 * k) : Con Try.prog 122 0 [] [.p (.int .i64 k), .p (.int .i64 l)] [] (.p (.bool true)) := by
  have h1 := con_within k 1 3
  rw [show inB k 1 3 = true by simp [inB]; omega] at h1
  have h2 := con_within l 0 (2 * (k : Int) - 1)
  rw [show inB l 0 (2 * (k : Int) - 1) = true by simp [inB]; omega] at h2
  refine con_start Try.func122 rfl (by kernel_rfl) rfl (fun c hc => ?_)
  refine path_ok mixed Try.func122 hc (nRi k l) ?_
  simp only [All]
  repeat' (first | exact trivial | with_reducible apply And.intro)
  all_goals (first | exact aG _ | exact aP _ _ | exact aA _ _ | exact aE _ | omega | rfl | (intros; first | assumption | exact True.intro | rfl | exact absurd (show false = true by assumption) Bool.false_ne_true | ((repeat' (first | assumption | apply anda | apply notf)); done)) | (exact h1) | (intros; exact h2) | (intros; omega) | (simp; done))
theorem con_IsRange_s (k l : Nat) (hk : 1 ≤ k ∧ k ≤ 3) (hl : l + 1 ≤ 2 * k) : Con Try.prog 119 0 [] [.p (.int .i64 k), .p (.int .i64 l)] [] (.p (.bool true)) := by
  have h1 := con_l1In k 1 3
  rw [show inB k 1 3 = true by simp [inB]; omega] at h1
  refine con_start Try.func119 rfl (by kernel_rfl) rfl (fun c hc => ?_)
  refine path_ok mixed Try.func119 hc (nRs k l) ?_
  simp only [All]
  repeat' (first | exact trivial | with_reducible apply And.intro)
  all_goals (first | exact aG _ | exact aP _ _ | exact aA _ _ | exact aE _ | omega | rfl | (intros; first | assumption | exact True.intro | rfl | exact absurd (show false = true by assumption) Bool.false_ne_true | ((repeat' (first | assumption | apply anda | apply notf)); done)) | (exact h1) | (intros; omega) | (simp; omega))
def NonN (Q : Nat → Int) (m : Nat) : Prop := ∀ j, j < m → 0 ≤ Q j
theorem con_RunPebbles_i {N nb : Nat} {g : Nat → T_Bar} (hg : isGraphF ((N : Int), (nb, g), ()) = true) (k l : Nat) (hk : 1 ≤ k ∧ k ≤ 3) (hl : l + 1 ≤ 2 * k) :
    ∃ m F T Q, Con Try.prog 120 0 [] [grG g nb N, .p (.int .i64 k), .p (.int .i64 l)] (pebR N m F T Q) (.tup [pebO N m 0, .p (.bool true)]) ∧ m ≤ 24 ∧ NonN Q m ∧ qL Q m = accI N k l g nb := by
  obtain ⟨hN, hnb, hok⟩ := graph_in hg
  have hsm : smS s_Graph ((N : Int), (nb, g), ()) := ⟨by simp [smS, smL], ⟨by show nb ≤ 1048576; omega, fun i hi => by simp [smS, smL]⟩, True.intro⟩
  have hcg := con_IsGraph_i ((N : Int), (nb, g), ()) hsm
  rw [hg] at hcg
  have hr := con_IsRange_i k l hk hl
  obtain ⟨m, F, T, Q, hc1, hp, hq⟩ := con_play (N := N) (k := k) (l := l) hok (by omega) (by omega) (by omega) (by omega)
  have hm : m ≤ 24 := by
    have := accI_len N k l g nb
    rw [← hq, qL_length] at this; omega
  refine ⟨m, F, T, Q, ?_, hm, fun j hj => (hp.q j hj).1, hq⟩
  refine con_start Try.func120 rfl (by kernel_rfl) rfl (fun c hc => ?_)
  refine path_ok mixed Try.func120 hc (nUi g nb N k l m F T Q) ?_
  simp only [All]
  repeat' (first | exact trivial | with_reducible apply And.intro)
  all_goals (first | exact aG _ | exact aP _ _ | exact aA _ _ | exact aE _ | omega | rfl | (intros; first | assumption | exact True.intro | rfl | exact absurd (show false = true by assumption) Bool.false_ne_true | ((repeat' (first | assumption | apply anda | apply notf)); done)) | (exact hcg) | (intros; exact hr) | (exact hc1) | (simp; done) | (intro i hi; simp [All]))
theorem con_RankOf_i {N nb : Nat} {g : Nat → T_Bar} (hg : isGraphF ((N : Int), (nb, g), ()) = true) (k l : Nat) (hk : 1 ≤ k ∧ k ≤ 3) (hl : l + 1 ≤ 2 * k) :
    Con Try.prog 65 0 [] [grG g nb N, .p (.int .i64 k), .p (.int .i64 l)] [] (.p (.int .i64 ((accI N k l g nb).length : Nat))) := by
  obtain ⟨m, F, T, Q, hrun, hm, hn, hq⟩ := con_RunPebbles_i hg k l hk hl
  rw [← hq, qL_length]
  refine con_start Try.func65 rfl (by kernel_rfl) rfl (fun c hc => ?_)
  refine path_ok mixed Try.func65 hc (nKi g nb N k l m F T Q) ?_
  simp only [All]
  repeat' (first | exact trivial | with_reducible apply And.intro)
  all_goals (first | exact aG _ | exact aP _ _ | exact aA _ _ | exact aE _ | omega | rfl | (intros; first | assumption | exact True.intro | rfl | exact absurd (show false = true by assumption) Bool.false_ne_true | ((repeat' (first | assumption | apply anda | apply notf)); done)) | (exact hrun) | (simp; done) | (intro i hi; simp [All]))
theorem con_l4Tail (N m : Nat) (F T Q : Nat → Int) (x : Int) (hm : m ≤ 1048576) : Con Try.prog 179 0 [] [pebD N m F T Q, .p (.int .i64 x)] [] (.p (.int .i64 (tcI T m x))) := by
  have hle : ∀ i, 0 ≤ tcI T i x ∧ tcI T i x ≤ i := by
    intro i
    induction i with
    | zero => simp [tcI]
    | succ i ih => simp only [tcI]; split <;> omega
  refine con_start Try.func179 rfl (by kernel_rfl) rfl (fun c hc => ?_)
  have lp : ∀ d i, i + d = m → Run Try.prog c 179 [.code (cAt (bodyOf Try.f179) [1, 1, 0, 1, 0, 0]), .inLoop (cAt (bodyOf Try.f179) [1, 1, 0, 1, 0, 0]), .inBlock 0, .code (cAt (bodyOf Try.f179) [1, 1, 1])] (ST0 N m F T Q x i) (Post c [] (.p (.int .i64 (tcI T m x)))) := by
    intro d
    induction d with
    | zero =>
      intro i hi
      have hi' : i = m := by omega
      have hd : decide ((i : Int) < (m : Int)) = false := by simp; omega
      rw [show tcI T m x = tcI T i x by rw [hi']]
      refine path_ok mixed Try.func179 hc (nTe N m F T Q x i) ?_
      simp only [All]
      repeat' (first | exact trivial | with_reducible apply And.intro)
      all_goals (first | exact aG _ | exact aP _ _ | exact aA _ _ | exact aE _ | omega | rfl | (intros; first | assumption | exact True.intro | rfl | exact absurd (show false = true by assumption) Bool.false_ne_true | ((repeat' (first | assumption | apply anda | apply notf)); done)) | (exact hd) | (simp; done))
    | succ d ih =>
      intro i hi
      have hd : decide ((i : Int) < (m : Int)) = true := by simp; omega
      have hl := hle i
      by_cases h : T i = x
      · have hb : (T i == x) = true := by simp [h]
        refine piece_ok mixed hc (nTt N m F T Q x i) ?_ (ih (i + 1) (by omega))
        simp only [All]
        repeat' (first | exact trivial | with_reducible apply And.intro)
        all_goals (first | exact aG _ | exact aP _ _ | exact aA _ _ | exact aE _ | omega | rfl | (intros; first | assumption | exact True.intro | rfl | exact absurd (show false = true by assumption) Bool.false_ne_true | ((repeat' (first | assumption | apply anda | apply notf)); done)) | (exact hb) | (simp only [tcI, h, if_true]; done) | (simp only [tcI, h, if_true]; omega) | (intro j hj; simp [All]))
      · have hb : (T i == x) = false := by simp [h]
        refine piece_ok mixed hc (nTf N m F T Q x i) ?_ (ih (i + 1) (by omega))
        simp only [All]
        repeat' (first | exact trivial | with_reducible apply And.intro)
        all_goals (first | exact aG _ | exact aP _ _ | exact aA _ _ | exact aE _ | omega | rfl | (intros; first | assumption | exact True.intro | rfl | exact absurd (show false = true by assumption) Bool.false_ne_true | ((repeat' (first | assumption | apply anda | apply notf)); done)) | (exact hb) | (simp only [tcI, h, if_false]; omega) | (intro j hj; simp [All]))
  refine piece_ok mixed hc (nTz N m F T Q x) ?_ (lp m 0 (by omega))
  simp only [All]
  repeat' (first | exact trivial | with_reducible apply And.intro)
  all_goals (first | exact aG _ | exact aP _ _ | exact aA _ _ | exact aE _ | omega | rfl | (intros; first | assumption | exact True.intro | rfl | exact absurd (show false = true by assumption) Bool.false_ne_true | ((repeat' (first | assumption | apply anda | apply notf)); done)) | (intro j hj; simp [All]))
def Asc (Q : Nat → Int) (m : Nat) : Prop := ∀ j, j + 1 < m → Q j < Q (j + 1)
theorem badI_f {N k nb m : Nat} {g : Nat → T_Bar} {F T Q : Nat → Int} (hp : PInv N k nb m g F T Q) (ha : Asc Q m) (i : Nat) (hi : i < m) : badI g nb T Q i = false := by
  have h1 := hp.q i hi
  have h2 := hp.t i hi
  have a1 : decide (Q i < 0) = false := by simp; omega
  have a2 : decide (Q i ≥ (nb : Int)) = false := by simp; omega
  have a3 : (bif decide ((i : Int) > 0) then decide (Q ((i : Int) - 1).toNat ≥ Q i) else false) = false := by
    by_cases h : i = 0
    · subst h; rfl
    · have := ha (i - 1) (by omega)
      have e : ((i : Int) - 1).toNat = i - 1 := by omega
      rw [show i - 1 + 1 = i by omega] at this
      rw [e]
      have h4 : decide (Q (i - 1) ≥ Q i) = false := by simp; omega
      rw [h4]
      cases decide ((i : Int) > 0) <;> rfl
  have a4 : (bif T i != (g (Q i).toNat).1 then T i != (g (Q i).toNat).2.1 else false) = false := by
    rcases h2 with e | e
    · rw [show (T i != (g (Q i).toNat).1) = false by simp [e]]; rfl
    · rw [show (T i != (g (Q i).toNat).2.1) = false by simp [e]]
      cases (T i != (g (Q i).toNat).1) <;> rfl
  unfold badI
  rw [a1, a2, a3, a4]
  rfl
theorem con_IsPebbles {N k nb m : Nat} {g : Nat → T_Bar} {F T Q : Nat → Int} (hp : PInv N k nb m g F T Q) (ha : Asc Q m) (hg : isGraphF ((N : Int), (nb, g), ()) = true) (hk : 1 ≤ k ∧ k ≤ 3) (hm : m ≤ 1048576) :
    Con Try.prog 160 0 [] [grG g nb N, .p (.int .i64 k), pebD N m F T Q] [] (.p (.bool true)) := by
  obtain ⟨hN, hnb, hok⟩ := graph_in hg
  have hsm : smS s_Graph ((N : Int), (nb, g), ()) := ⟨by simp [smS, smL], ⟨by show nb ≤ 1048576; omega, fun i hi => by simp [smS, smL]⟩, True.intro⟩
  have hcg := con_IsGraph_s ((N : Int), (nb, g), ()) hsm
  rw [hg] at hcg
  have h1 := con_l1In k 1 3
  rw [show inB k 1 3 = true by simp [inB]; omega] at h1
  refine con_start Try.func160 rfl (by kernel_rfl) rfl (fun c hc => ?_)
  have lp1 : ∀ d i, i + d = N → Run Try.prog c 160 [.code (cAt (bodyOf Try.f160) [1, 1, 1, 0, 1, 0, 0]), .inLoop (cAt (bodyOf Try.f160) [1, 1, 1, 0, 1, 0, 0]), .inBlock 2, .code (cAt (bodyOf Try.f160) [1, 1, 1, 1])] (SI1 g nb N k m F T Q i) (Post c [] (.p (.bool true))) := by
    intro d
    induction d with
    | zero =>
      intro i hi
      have hd : decide ((i : Int) < (N : Int)) = false := by simp; omega
      refine path_ok mixed Try.func160 hc (nIe g nb N k m F T Q i) ?_
      simp only [All]
      repeat' (first | exact trivial | with_reducible apply And.intro)
      all_goals (first | exact aG _ | exact aP _ _ | exact aA _ _ | exact aE _ | omega | rfl | (intros; first | assumption | exact True.intro | rfl | exact absurd (show false = true by assumption) Bool.false_ne_true | ((repeat' (first | assumption | apply anda | apply notf)); done)) | (exact hd) | (simp; done))
    | succ d ih =>
      intro i hi
      have hd : decide ((i : Int) < (N : Int)) = true := by simp; omega
      have ht := con_l4Tail N m F T Q i hm
      have hf0 := hp.f0 i (by omega)
      have hsum := hp.sum i (by omega)
      have htn := tcI_nonneg T i m
      have hb : (bif decide (F i < 0) then true else F i + tcI T m i != (k : Int)) = false := by
        have h4 : decide (F i < 0) = false := by simp; omega
        rw [h4]
        simp [hsum]
      refine piece_ok mixed hc (nI1 g nb N k m F T Q i) ?_ (ih (i + 1) (by omega))
      simp only [All]
      repeat' (first | exact trivial | with_reducible apply And.intro)
      all_goals (first | exact aG _ | exact aP _ _ | exact aA _ _ | exact aE _ | omega | rfl | (intros; first | assumption | exact True.intro | rfl | exact absurd (show false = true by assumption) Bool.false_ne_true | ((repeat' (first | assumption | apply anda | apply notf)); done)) | (intros; exact ht) | (exact hb) | (intros; omega) | (intro j hj; simp [All]))
  have lp0 : ∀ d i, i + d = m → Run Try.prog c 160 [.code (cAt (bodyOf Try.f160) [1, 1, 0, 1, 0, 0]), .inLoop (cAt (bodyOf Try.f160) [1, 1, 0, 1, 0, 0]), .inBlock 0, .code (cAt (bodyOf Try.f160) [1, 1, 1])] (SI0 g nb N k m F T Q i) (Post c [] (.p (.bool true))) := by
    intro d
    induction d with
    | zero =>
      intro i hi
      have hd : decide ((i : Int) < (m : Int)) = false := by simp; omega
      refine piece_ok mixed hc (nI01 g nb N k m F T Q i) ?_ (lp1 N 0 (by omega))
      simp only [All]
      repeat' (first | exact trivial | with_reducible apply And.intro)
      all_goals (first | exact aG _ | exact aP _ _ | exact aA _ _ | exact aE _ | omega | rfl | (intros; first | assumption | exact True.intro | rfl | exact absurd (show false = true by assumption) Bool.false_ne_true | ((repeat' (first | assumption | apply anda | apply notf)); done)) | (exact hd) | (intro j hj; simp [All]))
    | succ d ih =>
      intro i hi
      have him : i < m := by omega
      have hd : decide ((i : Int) < (m : Int)) = true := by simp; omega
      have hbad := badI_f hp ha i him
      have hq := hp.q i him
      refine piece_ok mixed hc (nI0 g nb N k m F T Q i) ?_ (ih (i + 1) (by omega))
      simp only [All]
      repeat' (first | exact trivial | with_reducible apply And.intro)
      all_goals (first | exact aG _ | exact aP _ _ | exact aA _ _ | exact aE _ | omega | rfl | (intros; first | assumption | exact True.intro | rfl | exact absurd (show false = true by assumption) Bool.false_ne_true | ((repeat' (first | assumption | apply anda | apply notf)); done)) | (exact hbad) | (intros; omega) | (intro h; have := idx_lt h him; omega) | (intro h; show (0 : Int) ≤ Q i ∧ Q i < nb; omega) | (intro j hj; simp [All]))
  refine piece_ok mixed hc (nIz g nb N k m F T Q) ?_ (lp0 m 0 (by omega))
  simp only [All]
  repeat' (first | exact trivial | with_reducible apply And.intro)
  all_goals (first | exact aG _ | exact aP _ _ | exact aA _ _ | exact aE _ | omega | rfl | (intros; first | assumption | exact True.intro | rfl | exact absurd (show false = true by assumption) Bool.false_ne_true | ((repeat' (first | assumption | apply anda | apply notf)); done)) | (exact hcg) | (intros; exact h1) | (simp; done) | (intro j hj; simp [All]))
theorem con_PlaceBar {N k nb m l e : Nat} {g : Nat → T_Bar} {F T Q : Nat → Int} (hp : PInv N k nb m g F T Q) (ha : Asc Q m) (hlt : ∀ j, j < m → Q j < e) (hg : isGraphF ((N : Int), (nb, g), ()) = true) (hk : 1 ≤ k ∧ k ≤ 3) (hl : l + 1 ≤ 2 * k) (hm : m ≤ 1000) (he : e < nb)
    (hsp : Mat.Sparse N k l (plL g Q m)) :
    (∃ F' T', Con Try.prog 145 0 [] [grG g nb N, .p (.int .i64 k), .p (.int .i64 l), pebD N m F T Q, .p (.int .i64 (e : Nat))] (pebR N (m + 1) F' T' (fun s => if s < m then Q s else e)) (.tup [pebO N (m + 1) 0, .p (.bool true)]) ∧
      PInv N k nb (m + 1) g F' T' (fun s => if s < m then Q s else e) ∧ Mat.Sparse N k l (plL g Q m ++ [brN (g e)])) ∨
    (Con Try.prog 145 0 [] [grG g nb N, .p (.int .i64 k), .p (.int .i64 l), pebD N m F T Q, .p (.int .i64 (e : Nat))] (pebR N m F T Q) (.tup [pebO N m 0, .p (.bool false)]) ∧ ¬ Mat.Sparse N k l (plL g Q m ++ [brN (g e)])) := by
  obtain ⟨hN, hnb, hok⟩ := graph_in hg
  have hbar := hok e he
  have hip := con_IsPebbles hp ha hg hk (by omega)
  have hir := con_IsRange_s k l hk hl
  have hcc := con_l4Copy N m F T Q (by omega) (by omega)
  have hb : (bif bif bif bif !true then true else !true then true else decide ((e : Int) < 0) then true else decide ((e : Int) ≥ (nb : Int)) then true else bif decide ((m : Int) > 0) then decide (Q ((m : Int) - 1).toNat ≥ (e : Int)) else false) = false := by
    have b1 : decide ((e : Int) < 0) = false := decide_eq_false (by omega)
    have b2 : decide ((e : Int) ≥ (nb : Int)) = false := by simp; omega
    have b3 : (bif decide ((m : Int) > 0) then decide (Q ((m : Int) - 1).toNat ≥ (e : Int)) else false) = false := by
      by_cases h : m = 0
      · subst h; rfl
      · have := hlt ((m : Int) - 1).toNat (by omega)
        have h4 : decide (Q ((m : Int) - 1).toNat ≥ (e : Int)) = false := decide_eq_false (by omega)
        rw [h4]
        cases decide ((m : Int) > 0) <;> rfl
    rw [b1, b2, b3]; rfl
  obtain ⟨F1, T1, r, hc1, h1, h2, h3⟩ := con_l4Gather (l := l) (a := (g e).1) (b := (g e).2.1) hp (by omega) (by omega) (by omega) (by omega) (by omega) (by omega) (by omega)
  have hlA := h1.le (v := (g e).1.toNat) (by omega)
  have hlB := h1.le (v := (g e).2.1.toNat) (by omega)
  cases r with
  | false =>
    right
    refine ⟨?_, h3 rfl⟩
    refine con_start Try.func145 rfl (by kernel_rfl) rfl (fun c hc => ?_)
    refine path_ok mixed Try.func145 hc (nPf g nb N k l m e F T Q F1 T1) ?_
    simp only [All]
    repeat' (first | exact trivial | with_reducible apply And.intro)
    all_goals (first | exact aG _ | exact aP _ _ | exact aA _ _ | exact aE _ | omega | rfl | (intros; first | assumption | exact True.intro | rfl | exact absurd (show false = true by assumption) Bool.false_ne_true | ((repeat' (first | assumption | apply anda | apply notf)); done)) | (exact hip) | (intros; exact hir) | (exact hb) | (exact hc1) | (exact hcc) | (simp; done) | (intro h; have := idx_lt h (Nat.lt_succ_self m); omega) | (intro i hi; simp [All]))
  | true =>
    left
    have hw := h2 rfl
    have hacc : Mat.Sparse N k l (plL g Q m ++ [brN (g e)]) := by
      have := (h1.game l).accept (by rw [barsOf_gm]; exact hsp) (g e).1.toNat (g e).2.1.toNat ⟨by show (g e).1.toNat ≠ (g e).2.1.toNat; omega, by show (g e).1.toNat < N; omega, by show (g e).2.1.toNat < N; omega⟩
        (by show l + 1 ≤ (F1 (g e).1.toNat).toNat + (F1 (g e).2.1.toNat).toNat; omega)
      rw [barsOf_gm] at this
      exact this
    by_cases hz : F1 (g e).1.toNat = 0
    · have hzb : (F1 (g e).1.toNat == 0) = true := by simp [hz]
      refine ⟨_, _, ?_, h1.placed e he (g e).2.1 (.inr rfl) (by omega), hacc⟩
      refine con_start Try.func145 rfl (by kernel_rfl) rfl (fun c hc => ?_)
      refine path_ok mixed Try.func145 hc (nPb g nb N k l m e F T Q F1 T1) ?_
      simp only [All]
      repeat' (first | exact trivial | with_reducible apply And.intro)
      all_goals (first | exact aG _ | exact aP _ _ | exact aA _ _ | exact aE _ | omega | rfl | (intros; first | assumption | exact True.intro | rfl | exact absurd (show false = true by assumption) Bool.false_ne_true | ((repeat' (first | assumption | apply anda | apply notf)); done)) | (exact hip) | (intros; exact hir) | (exact hb) | (exact hc1) | (exact hzb) | (simp; done) | (intro h; have := idx_lt h (Nat.lt_succ_self m); omega) | (intro i hi; simp [All]; done) | (intro i hi; by_cases h : i < m <;> simp [h, cvtL, cvt, tg, tru, All]; done) | (intro i hi; by_cases h : i = (g e).2.1.toNat <;> simp [h, cvtL, cvt, tg, tru, All]))
    · have hzb : (F1 (g e).1.toNat == 0) = false := by simp [hz]
      refine ⟨_, _, ?_, h1.placed e he (g e).1 (.inl rfl) (by omega), hacc⟩
      refine con_start Try.func145 rfl (by kernel_rfl) rfl (fun c hc => ?_)
      refine path_ok mixed Try.func145 hc (nPa g nb N k l m e F T Q F1 T1) ?_
      simp only [All]
      repeat' (first | exact trivial | with_reducible apply And.intro)
      all_goals (first | exact aG _ | exact aP _ _ | exact aA _ _ | exact aE _ | omega | rfl | (intros; first | assumption | exact True.intro | rfl | exact absurd (show false = true by assumption) Bool.false_ne_true | ((repeat' (first | assumption | apply anda | apply notf)); done)) | (exact hip) | (intros; exact hir) | (exact hb) | (exact hc1) | (exact hzb) | (simp; done) | (intro h; have := idx_lt h (Nat.lt_succ_self m); omega) | (intro i hi; simp [All]; done) | (intro i hi; by_cases h : i < m <;> simp [h, cvtL, cvt, tg, tru, All]; done) | (intro i hi; by_cases h : i = (g e).1.toNat <;> simp [h, cvtL, cvt, tg, tru, All]))
theorem con_RunPebbles_s {N nb : Nat} {g : Nat → T_Bar} (hg : isGraphF ((N : Int), (nb, g), ()) = true) (k l : Nat) (hk : 1 ≤ k ∧ k ≤ 3) (hl : l + 1 ≤ 2 * k) :
    ∃ m F T Q, Con Try.prog 118 0 [] [grG g nb N, .p (.int .i64 k), .p (.int .i64 l)] (pebR N m F T Q) (.tup [pebO N m 0, .p (.bool true)]) ∧ m ≤ 24 ∧ NonN Q m ∧ qL Q m = accI N k l g nb := by
  obtain ⟨hN, hnb, hok⟩ := graph_in hg
  have hr := con_IsRange_s k l hk hl
  have hn := con_NewPebbles (nb := nb) (g := g) (N := N) (k := k) (by omega) hk hg (by omega)
  have lp : ∀ d i m F T Q, i + d = nb → PInv N k nb m g F T Q → Asc Q m → (∀ j, j < m → Q j < (i : Nat)) → qL Q m = accI N k l g i →
      ∃ m' F' T' Q', (∀ c, c.n = 0 → Run Try.prog c 118 [.code (cAt (bodyOf Try.f118) [1, 1, 1, 0, 1, 0, 0]), .inLoop (cAt (bodyOf Try.f118) [1, 1, 1, 0, 1, 0, 0]), .inBlock 0, .code (cAt (bodyOf Try.f118) [1, 1, 1, 1])] (SRu g nb N k l m F T Q i) (Post c (pebR N m' F' T' Q') (.tup [pebO N m' 0, .p (.bool true)]))) ∧ NonN Q' m' ∧ qL Q' m' = accI N k l g nb := by
    intro d
    induction d with
    | zero =>
      intro i m F T Q hi hp ha hlt hq
      have hi' : i = nb := by omega
      refine ⟨m, F, T, Q, fun c hc => ?_, fun j hj => (hp.q j hj).1, by rw [hq, hi']⟩
      have hd : decide ((i : Int) < (nb : Int)) = false := by simp; omega
      refine path_ok mixed Try.func118 hc (nUe g nb N k l m F T Q i) ?_
      simp only [All]
      repeat' (first | exact trivial | with_reducible apply And.intro)
      all_goals (first | exact aG _ | exact aP _ _ | exact aA _ _ | exact aE _ | omega | rfl | (intros; first | assumption | exact True.intro | rfl | exact absurd (show false = true by assumption) Bool.false_ne_true | ((repeat' (first | assumption | apply anda | apply notf)); done)) | (exact hd) | (intro j hj; simp [All]))
    | succ d ih =>
      intro i m F T Q hi hp ha hlt hq
      have hd : decide ((i : Int) < (nb : Int)) = true := by simp; omega
      have hm : m ≤ 24 := by
        have := accI_len N k l g i
        rw [← hq, qL_length] at this; omega
      have hsp : Mat.Sparse N k l (plL g Q m) := by rw [plL_qL, hq]; exact accI_sparse N k l g i
      rcases con_PlaceBar (e := i) hp ha hlt hg hk hl (by omega) (by omega) hsp with ⟨F1, T1, hc1, hp1, hs1⟩ | ⟨hc1, hs1⟩
      · obtain ⟨m', F', T', Q', hrun, h2⟩ := ih (i + 1) (m + 1) F1 T1 _ (by omega) hp1 (fun j hj => by
          show (if j < m then Q j else (i : Int)) < (if j + 1 < m then Q (j + 1) else (i : Int))
          rw [if_pos (show j < m by omega)]
          by_cases h : j + 1 < m
          · rw [if_pos h]; exact ha j h
          · rw [if_neg h]; exact hlt j (by omega)) (fun j hj => by
          show (if j < m then Q j else (i : Int)) < ((i + 1 : Nat) : Int)
          by_cases h : j < m
          · rw [if_pos h]; have := hlt j h; omega
          · rw [if_neg h]; omega) (by
          simp only [accI]
          rw [← hq, ← plL_qL, if_pos hs1]
          simp only [qL, Nat.lt_irrefl, if_false, Int.toNat_natCast]
          rw [qL_congr (Q' := Q) m (fun j hj => by simp only [hj, if_true])])
        refine ⟨m', F', T', Q', fun c hc => ?_, h2⟩
        refine piece_ok mixed hc (nUl g nb N k l m (m + 1) F T Q F1 T1 (fun s => if s < m then Q s else i) i true) ?_ (hrun c hc)
        simp only [All]
        repeat' (first | exact trivial | with_reducible apply And.intro)
        all_goals (first | exact aG _ | exact aP _ _ | exact aA _ _ | exact aE _ | omega | rfl | (intros; first | assumption | exact True.intro | rfl | exact absurd (show false = true by assumption) Bool.false_ne_true | ((repeat' (first | assumption | apply anda | apply notf)); done)) | (exact hd) | (exact hc1) | (intro j hj; simp [All]))
      · obtain ⟨m', F', T', Q', hrun, h2⟩ := ih (i + 1) m F T Q (by omega) hp ha (fun j hj => by have := hlt j hj; omega) (by
          simp only [accI]
          rw [← hq, ← plL_qL, if_neg hs1])
        refine ⟨m', F', T', Q', fun c hc => ?_, h2⟩
        refine piece_ok mixed hc (nUl g nb N k l m m F T Q F T Q i false) ?_ (hrun c hc)
        simp only [All]
        repeat' (first | exact trivial | with_reducible apply And.intro)
        all_goals (first | exact aG _ | exact aP _ _ | exact aA _ _ | exact aE _ | omega | rfl | (intros; first | assumption | exact True.intro | rfl | exact absurd (show false = true by assumption) Bool.false_ne_true | ((repeat' (first | assumption | apply anda | apply notf)); done)) | (exact hd) | (exact hc1) | (intro j hj; simp [All]))
  obtain ⟨m, F, T, Q, hrun, hnn, hq⟩ := lp nb 0 0 _ _ _ (by omega) (PInv.start hok) (fun j hj => by omega) (fun j hj => absurd hj (Nat.not_lt_zero _)) rfl
  have hm : m ≤ 24 := by
    have := accI_len N k l g nb
    rw [← hq, qL_length] at this; omega
  refine ⟨m, F, T, Q, ?_, hm, hnn, hq⟩
  refine con_start Try.func118 rfl (by kernel_rfl) rfl (fun c hc => ?_)
  refine piece_ok mixed hc (nUz g nb N k l) ?_ (hrun c hc)
  simp only [All]
  repeat' (first | exact trivial | with_reducible apply And.intro)
  all_goals (first | exact aG _ | exact aP _ _ | exact aA _ _ | exact aE _ | omega | rfl | (intros; first | assumption | exact True.intro | rfl | exact absurd (show false = true by assumption) Bool.false_ne_true | ((repeat' (first | assumption | apply anda | apply notf)); done)) | (exact hn) | (intros; exact hr) | (simp; done) | (intro j hj; simp [All]))
theorem con_RankOf_s {N nb : Nat} {g : Nat → T_Bar} (hg : isGraphF ((N : Int), (nb, g), ()) = true) (k l : Nat) (hk : 1 ≤ k ∧ k ≤ 3) (hl : l + 1 ≤ 2 * k) :
    Con Try.prog 57 0 [] [grG g nb N, .p (.int .i64 k), .p (.int .i64 l)] [] (.p (.int .i64 ((accI N k l g nb).length : Nat))) := by
  obtain ⟨m, F, T, Q, hrun, hm, hn, hq⟩ := con_RunPebbles_s hg k l hk hl
  rw [← hq, qL_length]
  refine con_start Try.func57 rfl (by kernel_rfl) rfl (fun c hc => ?_)
  refine path_ok mixed Try.func57 hc (nKs g nb N k l m F T Q) ?_
  simp only [All]
  repeat' (first | exact trivial | with_reducible apply And.intro)
  all_goals (first | exact aG _ | exact aP _ _ | exact aA _ _ | exact aE _ | omega | rfl | (intros; first | assumption | exact True.intro | rfl | exact absurd (show false = true by assumption) Bool.false_ne_true | ((repeat' (first | assumption | apply anda | apply notf)); done)) | (exact hrun) | (simp; done) | (intro i hi; simp [All]))
end Go.Proofs.Ytffnfeefjdmifaa.Mach
namespace Go.Proofs.Ytffnfeefjdmifaa.Mach
open Go
def btI (w i : Int) : Bool := bitI .and .i64 (shrI .i64 w i) 1 == 1
theorem shr_nat (m i : Nat) (hi : i < 62) : shrI .i64 (m : Int) (i : Int) = ((m >>> i : Nat) : Int) := by
  unfold shrI
  have : min (i : Int).toNat IntKind.i64.bits = i := by simp [IntKind.bits]; omega
  rw [this, Int.fdiv_eq_ediv_of_nonneg _ (Int.le_of_lt (Int.pow_pos (by omega))), Nat.shiftRight_eq_div_pow]
  simp
theorem bv_nat (x : Nat) : BitVec.ofInt 64 (x : Int) = BitVec.ofNat 64 x := by
  simp
theorem bt_test (m : Nat) (i : Nat) (hm : m < 2 ^ 62) (hi : i < 62) : btI (m : Int) (i : Int) = m.testBit i := by
  unfold btI
  rw [shr_nat m i hi]
  have hle : m >>> i ≤ m := Nat.shiftRight_le m i
  rw [Nat.testBit_eq_decide_div_mod_eq, ← Nat.shiftRight_eq_div_pow]
  generalize m >>> i = x at hle ⊢
  have e : bitI .and .i64 ((x : Nat) : Int) 1 = ((x % 2 : Nat) : Int) := by
    unfold bitI
    have e1 : (BitVec.ofInt IntKind.i64.bits ((x : Nat) : Int) &&& BitVec.ofInt IntKind.i64.bits 1).toNat = x % 2 := by
      rw [BitVec.toNat_and]
      show ((BitVec.ofInt 64 ((x : Nat) : Int)).toNat &&& 1) = _
      rw [bv_nat, BitVec.toNat_ofNat, Nat.mod_eq_of_lt (by omega), Nat.and_one_is_mod]
    simp only [e1]
    exact wrap_in (by simp only [imin]; omega) (by simp only [imax]; omega)
  rw [e]
  rcases Nat.mod_two_eq_zero_or_one x with h | h <;> simp [h]
theorem shl_nat (e : Nat) (he : e < 62) : shlI .i64 1 (e : Int) = ((2 ^ e : Nat) : Int) := by
  unfold shlI
  have : min (e : Int).toNat IntKind.i64.bits = e := by simp [IntKind.bits]; omega
  rw [this]
  have h2 : 2 ^ e < 2 ^ 62 := Nat.pow_lt_pow_right (by omega) he
  have h3 : (1 : Int) * 2 ^ e = ((2 ^ e : Nat) : Int) := by simp
  rw [h3]
  generalize 2 ^ e = q at h2
  exact wrap_in (by simp only [imin]; omega) (by simp only [imax]; omega)
end Go.Proofs.Ytffnfeefjdmifaa.Mach
namespace Go.Proofs.Ytffnfeefjdmifaa.Mach
open Go
set_option linter.unusedVariables false
set_option linter.unusedSimpArgs false
def GSo (w M i c : Nat) (f : Nat → Int) : St := ⟨[.p (.int .i64 w), .p (.int .i64 M), .p .any, .p .any, .p .any, .ar 1 0 0 c, .p .any, .p .any, .p (.int .i64 M), .p (.int .i64 i)] ++ List.replicate 13 anyA, [(0, iOb c f)], 1⟩
def GSl (w M i c : Nat) (f : Nat → Int) : St := ⟨[.p (.int .i64 M), .p (.int .i64 w), .p .any, .p .any, .p .any, .ar 1 0 0 c, .p (.int .i64 i)] ++ List.replicate 16 anyA, [(0, iOb c f)], 1⟩
theorem gOz (w M : Nat) :
    pieceOb Try.prog 0 [.reg [oT], .reg [oT, oT], .reg [oT, oT], .head] [.code (bodyOf Try.f42)] (start Try.f42 [] 0 [.p (.int .i64 w), .p (.int .i64 M)]) [32] 1 (GSo w M 0 0 (fun _ => 0)) =
    some ([.code (cAt (bodyOf Try.f42) [1, 1, 0, 1, 0, 0]), .inLoop (cAt (bodyOf Try.f42) [1, 1, 0, 1, 0, 0]), .inBlock 0, .code (cAt (bodyOf Try.f42) [1, 1, 1])], [(AI ((↑w : Int))),
  (AI ((↑M : Int))),
  (AN 0),
  (AN 0),
  (AI ((↑M : Int))),
  ((0 : Int) = (↑0 : Int)),
  (AN 1),
  ((0 : Nat) ≤ 0),
  (∀ i : Nat, (((i : Nat) < 0) → (All [] ∧ (([.p .any] : List AV) = [.p (.int .i64 0)]))))]) := by kernel_rfl
theorem gOt (w M i c : Nat) (f : Nat → Int) :
    pieceOb Try.prog 0 [.reg [oT], .dec true, .reg [oT, oT], .reg [oT, oT, oT, oT, oT], .dec true, .reg [oT, oT, oT, oT, oT], .reg [oT, oT], .head] [.code (cAt (bodyOf Try.f42) [1, 1, 0, 1, 0, 0]), .inLoop (cAt (bodyOf Try.f42) [1, 1, 0, 1, 0, 0]), .inBlock 0, .code (cAt (bodyOf Try.f42) [1, 1, 1])] (GSo w M i c f) [353] 1 (GSo w M (i + 1) (c + 1) (fun s => if s < c then f s else i)) =
    some ([.code (cAt (bodyOf Try.f42) [1, 1, 0, 1, 0, 0]), .inLoop (cAt (bodyOf Try.f42) [1, 1, 0, 1, 0, 0]), .inBlock 0, .code (cAt (bodyOf Try.f42) [1, 1, 1])], [((decide ((↑i : Int) < (↑M : Int))) = true),
  ((0 : Int) ≤ (↑i : Int)),
  ((bitI BinOp.and IntKind.i64 (shrI IntKind.i64 (↑w : Int) (↑i : Int)) 1 == 1) = true),
  ((1 : Nat) ≤ 1),
  ((c : Nat) ≤ c),
  ((((c + 1) * 8) : Nat) ≤ 140737488355328),
  (((c + 1) : Nat) ≤ 9223372036854775807),
  (((-9223372036854775808) : Int) ≤ ((↑i : Int) + 1)),
  ((((↑i : Int) + 1) : Int) ≤ 9223372036854775807),
  (AI ((↑w : Int))),
  (AI ((↑M : Int))),
  (AN 0),
  (AN ((c + 1))),
  (AI ((↑M : Int))),
  ((((↑i : Int) + 1) : Int) = (↑(i + 1) : Int)),
  (AN 1),
  (((c + 1) : Nat) ≤ (c + 1)),
  (∀ i_1 : Nat, (((i_1 : Nat) < (c + 1)) → (All (cvtL false [(353, ⟨false, 1, (c + 1), (fun i_2 => (if (i_2 < c) then [.p (.int .i64 (f i_2))] else [.p (.int .i64 (↑i : Int))]))⟩), (321, ⟨false, 1, 1, (fun i_2 => [.p (.int .i64 (↑i : Int))])⟩)] [353] 1 (if (i_1 < c) then [.p (.int .i64 (f i_1))] else [.p (.int .i64 (↑i : Int))])).2 ∧ (((cvtL false [(353, ⟨false, 1, (c + 1), (fun i_2 => (if (i_2 < c) then [.p (.int .i64 (f i_2))] else [.p (.int .i64 (↑i : Int))]))⟩), (321, ⟨false, 1, 1, (fun i_2 => [.p (.int .i64 (↑i : Int))])⟩)] [353] 1 (if (i_1 < c) then [.p (.int .i64 (f i_1))] else [.p (.int .i64 (↑i : Int))])).1 : List AV) = [.p (.int .i64 (if i_1 < c then f i_1 else (↑i : Int)))]))))]) := by kernel_rfl
theorem gOf (w M i c : Nat) (f : Nat → Int) :
    pieceOb Try.prog 0 [.reg [oT], .dec true, .reg [oT, oT], .reg [oT, oT, oT, oT, oT], .dec false, .reg [oT, oT], .head] [.code (cAt (bodyOf Try.f42) [1, 1, 0, 1, 0, 0]), .inLoop (cAt (bodyOf Try.f42) [1, 1, 0, 1, 0, 0]), .inBlock 0, .code (cAt (bodyOf Try.f42) [1, 1, 1])] (GSo w M i c f) [0] 1 (GSo w M (i + 1) c f) =
    some ([.code (cAt (bodyOf Try.f42) [1, 1, 0, 1, 0, 0]), .inLoop (cAt (bodyOf Try.f42) [1, 1, 0, 1, 0, 0]), .inBlock 0, .code (cAt (bodyOf Try.f42) [1, 1, 1])], [((decide ((↑i : Int) < (↑M : Int))) = true),
  ((0 : Int) ≤ (↑i : Int)),
  ((bitI BinOp.and IntKind.i64 (shrI IntKind.i64 (↑w : Int) (↑i : Int)) 1 == 1) = false),
  (((-9223372036854775808) : Int) ≤ ((↑i : Int) + 1)),
  ((((↑i : Int) + 1) : Int) ≤ 9223372036854775807),
  (AI ((↑w : Int))),
  (AI ((↑M : Int))),
  (AN 0),
  (AN c),
  (AI ((↑M : Int))),
  ((((↑i : Int) + 1) : Int) = (↑(i + 1) : Int)),
  (AN 1),
  ((c : Nat) ≤ c),
  (AA c (fun i_1 => [.p (.int .i64 (f i_1))]))]) := by kernel_rfl
theorem gOe (w M i c : Nat) (f : Nat → Int) :
    pathOb Try.prog Try.f42 0 [.reg [oT], .dec false, .reg [oT, oT]] [.code (cAt (bodyOf Try.f42) [1, 1, 0, 1, 0, 0]), .inLoop (cAt (bodyOf Try.f42) [1, 1, 0, 1, 0, 0]), .inBlock 0, .code (cAt (bodyOf Try.f42) [1, 1, 1])] (GSo w M i c f) [0] 1 [(0, iOb c f)] (.ar 1 0 0 c) =
    some [((decide ((↑i : Int) < (↑M : Int))) = false),
  (AN 0),
  (AN c),
  (AN 1),
  ((c : Nat) ≤ c),
  (AA c (fun i_1 => [.p (.int .i64 (f i_1))])),
  (AE c)] := by kernel_rfl
theorem gLz (w M : Nat) :
    pieceOb Try.prog 0 [.reg [oT], .reg [oT, oT], .reg [oT], .head] [.code (bodyOf Try.f76)] (start Try.f76 [] 0 [.p (.int .i64 M), .p (.int .i64 w)]) [32] 1 (GSl w M 0 0 (fun _ => 0)) =
    some ([.code (cAt (bodyOf Try.f76) [1, 1, 0, 1, 0, 0]), .inLoop (cAt (bodyOf Try.f76) [1, 1, 0, 1, 0, 0]), .inBlock 0, .code (cAt (bodyOf Try.f76) [1, 1, 1])], [(AI ((↑M : Int))),
  (AI ((↑w : Int))),
  (AN 0),
  (AN 0),
  ((0 : Int) = (↑0 : Int)),
  (AN 1),
  ((0 : Nat) ≤ 0),
  (∀ i : Nat, (((i : Nat) < 0) → (All [] ∧ (([.p .any] : List AV) = [.p (.int .i64 0)]))))]) := by kernel_rfl
theorem gLt (w M i c : Nat) (f : Nat → Int) :
    pieceOb Try.prog 0 [.reg [oT, oT, oT], .dec true, .reg [oT, oT, oT, oT, oT], .dec true, .reg [oT, oT, oT, oT, oT], .reg [oT, oT, oT], .head] [.code (cAt (bodyOf Try.f76) [1, 1, 0, 1, 0, 0]), .inLoop (cAt (bodyOf Try.f76) [1, 1, 0, 1, 0, 0]), .inBlock 0, .code (cAt (bodyOf Try.f76) [1, 1, 1])] (GSl w M i c f) [353] 1 (GSl w M (i + 1) (c + 1) (fun s => if s < c then f s else i)) =
    some ([.code (cAt (bodyOf Try.f76) [1, 1, 0, 1, 0, 0]), .inLoop (cAt (bodyOf Try.f76) [1, 1, 0, 1, 0, 0]), .inBlock 0, .code (cAt (bodyOf Try.f76) [1, 1, 1])], [((decide ((↑i : Int) < (↑M : Int))) = true),
  ((0 : Int) ≤ (↑i : Int)),
  ((bitI BinOp.and IntKind.i64 (shrI IntKind.i64 (↑w : Int) (↑i : Int)) 1 == 1) = true),
  ((1 : Nat) ≤ 1),
  ((c : Nat) ≤ c),
  ((((c + 1) * 8) : Nat) ≤ 140737488355328),
  (((c + 1) : Nat) ≤ 9223372036854775807),
  (((-9223372036854775808) : Int) ≤ ((↑i : Int) + 1)),
  ((((↑i : Int) + 1) : Int) ≤ 9223372036854775807),
  (AI ((↑M : Int))),
  (AI ((↑w : Int))),
  (AN 0),
  (AN ((c + 1))),
  ((((↑i : Int) + 1) : Int) = (↑(i + 1) : Int)),
  (AN 1),
  (((c + 1) : Nat) ≤ (c + 1)),
  (∀ i_1 : Nat, (((i_1 : Nat) < (c + 1)) → (All (cvtL false [(353, ⟨false, 1, (c + 1), (fun i_2 => (if (i_2 < c) then [.p (.int .i64 (f i_2))] else [.p (.int .i64 (↑i : Int))]))⟩), (321, ⟨false, 1, 1, (fun i_2 => [.p (.int .i64 (↑i : Int))])⟩)] [353] 1 (if (i_1 < c) then [.p (.int .i64 (f i_1))] else [.p (.int .i64 (↑i : Int))])).2 ∧ (((cvtL false [(353, ⟨false, 1, (c + 1), (fun i_2 => (if (i_2 < c) then [.p (.int .i64 (f i_2))] else [.p (.int .i64 (↑i : Int))]))⟩), (321, ⟨false, 1, 1, (fun i_2 => [.p (.int .i64 (↑i : Int))])⟩)] [353] 1 (if (i_1 < c) then [.p (.int .i64 (f i_1))] else [.p (.int .i64 (↑i : Int))])).1 : List AV) = [.p (.int .i64 (if i_1 < c then f i_1 else (↑i : Int)))]))))]) := by kernel_rfl
theorem gLf (w M i c : Nat) (f : Nat → Int) :
    pieceOb Try.prog 0 [.reg [oT, oT, oT], .dec true, .reg [oT, oT, oT, oT, oT], .dec false, .reg [oT, oT, oT], .head] [.code (cAt (bodyOf Try.f76) [1, 1, 0, 1, 0, 0]), .inLoop (cAt (bodyOf Try.f76) [1, 1, 0, 1, 0, 0]), .inBlock 0, .code (cAt (bodyOf Try.f76) [1, 1, 1])] (GSl w M i c f) [0] 1 (GSl w M (i + 1) c f) =
    some ([.code (cAt (bodyOf Try.f76) [1, 1, 0, 1, 0, 0]), .inLoop (cAt (bodyOf Try.f76) [1, 1, 0, 1, 0, 0]), .inBlock 0, .code (cAt (bodyOf Try.f76) [1, 1, 1])], [((decide ((↑i : Int) < (↑M : Int))) = true),
  ((0 : Int) ≤ (↑i : Int)),
  ((bitI BinOp.and IntKind.i64 (shrI IntKind.i64 (↑w : Int) (↑i : Int)) 1 == 1) = false),
  (((-9223372036854775808) : Int) ≤ ((↑i : Int) + 1)),
  ((((↑i : Int) + 1) : Int) ≤ 9223372036854775807),
  (AI ((↑M : Int))),
  (AI ((↑w : Int))),
  (AN 0),
  (AN c),
  ((((↑i : Int) + 1) : Int) = (↑(i + 1) : Int)),
  (AN 1),
  ((c : Nat) ≤ c),
  (AA c (fun i_1 => [.p (.int .i64 (f i_1))]))]) := by kernel_rfl
theorem gLe (w M i c : Nat) (f : Nat → Int) :
    pathOb Try.prog Try.f76 0 [.reg [oT, oT, oT], .dec false, .reg [oT, oT]] [.code (cAt (bodyOf Try.f76) [1, 1, 0, 1, 0, 0]), .inLoop (cAt (bodyOf Try.f76) [1, 1, 0, 1, 0, 0]), .inBlock 0, .code (cAt (bodyOf Try.f76) [1, 1, 1])] (GSl w M i c f) [0] 1 [(0, iOb c f)] (.ar 1 0 0 c) =
    some [((decide ((↑i : Int) < (↑M : Int))) = false),
  (AN 0),
  (AN c),
  (AN 1),
  ((c : Nat) ≤ c),
  (AA c (fun i_1 => [.p (.int .i64 (f i_1))])),
  (AE c)] := by kernel_rfl
def stD (w : Nat) : Nat → T_IntS
  | 0 => (0, fun _ => 0)
  | i + 1 => if btI w i = true then ((stD w i).1 + 1, fun s => if s < (stD w i).1 then (stD w i).2 s else i) else stD w i
theorem stD_n (w : Nat) : ∀ i, (stD w i).1 ≤ i
  | 0 => Nat.le_refl _
  | i + 1 => by
    have := stD_n w i
    simp only [stD]
    split
    · show (stD w i).1 + 1 ≤ i + 1; omega
    · omega
theorem con_setOf (w M : Nat) (hM : M ≤ 62) : Con Try.prog 42 0 [] [.p (.int .i64 w), .p (.int .i64 M)] [(0, iOb (stD w M).1 (stD w M).2)] (.ar 1 0 0 (stD w M).1) := by
  refine con_start Try.func42 rfl (by kernel_rfl) rfl (fun c hc => ?_)
  generalize hR : stD w M = R
  have lo : ∀ d i, i + d = M → Run Try.prog c 42 [.code (cAt (bodyOf Try.f42) [1, 1, 0, 1, 0, 0]), .inLoop (cAt (bodyOf Try.f42) [1, 1, 0, 1, 0, 0]), .inBlock 0, .code (cAt (bodyOf Try.f42) [1, 1, 1])] (GSo w M i (stD w i).1 (stD w i).2) (Post c [(0, iOb R.1 R.2)] (.ar 1 0 0 R.1)) := by
    intro d
    induction d with
    | zero =>
      intro i hi
      obtain rfl : i = M := by omega
      have hd : decide ((i : Int) < (i : Int)) = false := by simp
      rw [hR]
      refine path_ok mixed Try.func42 hc (gOe w i i R.1 R.2) ?_
      simp only [All]
      repeat' (first | exact trivial | with_reducible apply And.intro)
      all_goals (first | exact aG _ | exact aP _ _ | exact aA _ _ | exact aE _ | omega | rfl | (intros; first | assumption | exact True.intro | rfl | exact absurd (show false = true by assumption) Bool.false_ne_true | ((repeat' (first | assumption | apply anda | apply notf)); done)) | (exact hd) | (intro t ht; simp [All]))
    | succ d ih =>
      intro i hi
      have hd : decide ((i : Int) < (M : Int)) = true := decide_eq_true (by omega)
      have hrec := ih (i + 1) (by omega)
      have hn := stD_n w i
      cases hb : btI w i with
      | true =>
        rw [show stD w (i + 1) = ((stD w i).1 + 1, fun s => if s < (stD w i).1 then (stD w i).2 s else i) by simp [stD, hb]] at hrec
        generalize stD w i = q at hn hrec ⊢
        refine piece_ok mixed hc (gOt w M i q.1 q.2) ?_ hrec
        simp only [All]
        repeat' (first | exact trivial | with_reducible apply And.intro)
        all_goals (first | exact aG _ | exact aP _ _ | exact aA _ _ | exact aE _ | omega | rfl | (intros; first | assumption | exact True.intro | rfl | exact absurd (show false = true by assumption) Bool.false_ne_true | ((repeat' (first | assumption | apply anda | apply notf)); done)) | (exact hd) | (exact hb) | (intro t ht; by_cases h' : t < q.1 <;> simp [h', cvtL, cvt, tg, tru, All]))
      | false =>
        rw [show stD w (i + 1) = stD w i by simp [stD, hb]] at hrec
        generalize stD w i = q at hn hrec ⊢
        refine piece_ok mixed hc (gOf w M i q.1 q.2) ?_ hrec
        simp only [All]
        repeat' (first | exact trivial | with_reducible apply And.intro)
        all_goals (first | exact aG _ | exact aP _ _ | exact aA _ _ | exact aE _ | omega | rfl | (intros; first | assumption | exact True.intro | rfl | exact absurd (show false = true by assumption) Bool.false_ne_true | ((repeat' (first | assumption | apply anda | apply notf)); done)) | (exact hd) | (exact hb) | (intro t ht; simp [All]))
  refine piece_ok mixed hc (gOz w M) ?_ (lo M 0 (by omega))
  simp only [All]
  repeat' (first | exact trivial | with_reducible apply And.intro)
  all_goals (first | exact aG _ | exact aP _ _ | exact aA _ _ | exact aE _ | omega | rfl | (intros; first | assumption | exact True.intro | rfl | exact absurd (show false = true by assumption) Bool.false_ne_true | ((repeat' (first | assumption | apply anda | apply notf)); done)) | (intro t ht; exact absurd ht (Nat.not_lt_zero _)) | (intro t ht; simp [All]))
theorem con_l3Set (w M : Nat) (hM : M ≤ 62) : Con Try.prog 76 0 [] [.p (.int .i64 M), .p (.int .i64 w)] [(0, iOb (stD w M).1 (stD w M).2)] (.ar 1 0 0 (stD w M).1) := by
  refine con_start Try.func76 rfl (by kernel_rfl) rfl (fun c hc => ?_)
  generalize hR : stD w M = R
  have lo : ∀ d i, i + d = M → Run Try.prog c 76 [.code (cAt (bodyOf Try.f76) [1, 1, 0, 1, 0, 0]), .inLoop (cAt (bodyOf Try.f76) [1, 1, 0, 1, 0, 0]), .inBlock 0, .code (cAt (bodyOf Try.f76) [1, 1, 1])] (GSl w M i (stD w i).1 (stD w i).2) (Post c [(0, iOb R.1 R.2)] (.ar 1 0 0 R.1)) := by
    intro d
    induction d with
    | zero =>
      intro i hi
      obtain rfl : i = M := by omega
      have hd : decide ((i : Int) < (i : Int)) = false := by simp
      rw [hR]
      refine path_ok mixed Try.func76 hc (gLe w i i R.1 R.2) ?_
      simp only [All]
      repeat' (first | exact trivial | with_reducible apply And.intro)
      all_goals (first | exact aG _ | exact aP _ _ | exact aA _ _ | exact aE _ | omega | rfl | (intros; first | assumption | exact True.intro | rfl | exact absurd (show false = true by assumption) Bool.false_ne_true | ((repeat' (first | assumption | apply anda | apply notf)); done)) | (exact hd) | (intro t ht; simp [All]))
    | succ d ih =>
      intro i hi
      have hd : decide ((i : Int) < (M : Int)) = true := decide_eq_true (by omega)
      have hrec := ih (i + 1) (by omega)
      have hn := stD_n w i
      cases hb : btI w i with
      | true =>
        rw [show stD w (i + 1) = ((stD w i).1 + 1, fun s => if s < (stD w i).1 then (stD w i).2 s else i) by simp [stD, hb]] at hrec
        generalize stD w i = q at hn hrec ⊢
        refine piece_ok mixed hc (gLt w M i q.1 q.2) ?_ hrec
        simp only [All]
        repeat' (first | exact trivial | with_reducible apply And.intro)
        all_goals (first | exact aG _ | exact aP _ _ | exact aA _ _ | exact aE _ | omega | rfl | (intros; first | assumption | exact True.intro | rfl | exact absurd (show false = true by assumption) Bool.false_ne_true | ((repeat' (first | assumption | apply anda | apply notf)); done)) | (exact hd) | (exact hb) | (intro t ht; by_cases h' : t < q.1 <;> simp [h', cvtL, cvt, tg, tru, All]))
      | false =>
        rw [show stD w (i + 1) = stD w i by simp [stD, hb]] at hrec
        generalize stD w i = q at hn hrec ⊢
        refine piece_ok mixed hc (gLf w M i q.1 q.2) ?_ hrec
        simp only [All]
        repeat' (first | exact trivial | with_reducible apply And.intro)
        all_goals (first | exact aG _ | exact aP _ _ | exact aA _ _ | exact aE _ | omega | rfl | (intros; first | assumption | exact True.intro | rfl | exact absurd (show false = true by assumption) Bool.false_ne_true | ((repeat' (first | assumption | apply anda | apply notf)); done)) | (exact hd) | (exact hb) | (intro t ht; simp [All]))
  refine piece_ok mixed hc (gLz w M) ?_ (lo M 0 (by omega))
  simp only [All]
  repeat' (first | exact trivial | with_reducible apply And.intro)
  all_goals (first | exact aG _ | exact aP _ _ | exact aA _ _ | exact aE _ | omega | rfl | (intros; first | assumption | exact True.intro | rfl | exact absurd (show false = true by assumption) Bool.false_ne_true | ((repeat' (first | assumption | apply anda | apply notf)); done)) | (intro t ht; exact absurd ht (Nat.not_lt_zero _)) | (intro t ht; simp [All]))
end Go.Proofs.Ytffnfeefjdmifaa.Mach
namespace Go.Proofs.Ytffnfeefjdmifaa.Mach
open Go
set_option linter.unusedVariables false
set_option linter.unusedSimpArgs false
def hasI (g : Nat → Int) (x : Int) : Nat → Bool
  | 0 => false
  | k + 1 => hasI g x k || g k == x
def inL (v : T_IntS) : AV := .p (.seq true 1 v.1 (fun i => [.int .i64 (v.2 i)]))
def S85 (v : T_IntS) (x : Int) (k : Nat) : St :=
  ⟨[inL v, .p (.int .i64 x), .p .any, .p .any, .p .any, .p (.int .i64 k)] ++ List.replicate 12 anyA, [], 0⟩
def S112 (v : T_IntS) (x : Int) (k : Nat) : St :=
  ⟨[inL v, .p (.int .i64 x)] ++ List.replicate 5 anyA ++ [.p (.int .i64 v.1), .p (.int .i64 k)] ++ List.replicate 10 anyA, [], 0⟩
theorem p85a (v : T_IntS) (x : Int) :
    pieceOb Try.prog 0 [.reg [oT], .reg [oT], .head] [.code (bodyOf Try.f113)] (start Try.f113 [] 0 [inL v, .p (.int .i64 x)]) [] 1 (S85 v x 0) =
    some ([.code (cAt (bodyOf Try.f113) [1, 0, 1, 0, 0]), .inLoop (cAt (bodyOf Try.f113) [1, 0, 1, 0, 0]), .inBlock 0, .code (cAt (bodyOf Try.f113) [1, 1])], [(AN v.1),
  (AP v.1 (fun i => [.int .i64 (v.2 i)])),
  (AI x),
  ((0 : Int) = (↑0 : Int))]) := by kernel_rfl
theorem p85b (v : T_IntS) (x : Int) (k : Nat) :
    pieceOb Try.prog 0 [.reg [oT, oT, oT, oT], .dec true, .reg [oT, oT, oT, oT, oT, oT], .dec false, .reg [oT, oT, oT], .head] [.code (cAt (bodyOf Try.f113) [1, 0, 1, 0, 0]), .inLoop (cAt (bodyOf Try.f113) [1, 0, 1, 0, 0]), .inBlock 0, .code (cAt (bodyOf Try.f113) [1, 1])] (S85 v x k) [] 1 (S85 v x (k + 1)) =
    some ([.code (cAt (bodyOf Try.f113) [1, 0, 1, 0, 0]), .inLoop (cAt (bodyOf Try.f113) [1, 0, 1, 0, 0]), .inBlock 0, .code (cAt (bodyOf Try.f113) [1, 1])], [((decide ((↑k : Int) < (↑v.1 : Int))) = true),
  ((0 : Int) ≤ (↑k : Int)),
  (((↑k : Int) : Int) < (↑v.1 : Int)),
  ((v.2 k == x) = false),
  (((-9223372036854775808) : Int) ≤ ((↑k : Int) + 1)),
  ((((↑k : Int) + 1) : Int) ≤ 9223372036854775807),
  (AN v.1),
  (AP v.1 (fun i => [.int .i64 (v.2 i)])),
  (AI x),
  ((((↑k : Int) + 1) : Int) = (↑(k + 1) : Int))]) := by kernel_rfl
theorem p85c (v : T_IntS) (x : Int) (k : Nat) :
    pathOb Try.prog Try.f113 0 [.reg [oT, oT, oT, oT], .dec true, .reg [oT, oT, oT, oT, oT, oT], .dec true, .reg [oT]] [.code (cAt (bodyOf Try.f113) [1, 0, 1, 0, 0]), .inLoop (cAt (bodyOf Try.f113) [1, 0, 1, 0, 0]), .inBlock 0, .code (cAt (bodyOf Try.f113) [1, 1])] (S85 v x k) [] 1 [] (.p (.bool true)) =
    some [((decide ((↑k : Int) < (↑v.1 : Int))) = true),
  ((0 : Int) ≤ (↑k : Int)),
  (((↑k : Int) : Int) < (↑v.1 : Int)),
  ((v.2 k == x) = true),
  (true = true)] := by kernel_rfl
theorem p85d (v : T_IntS) (x : Int) (k : Nat) :
    pathOb Try.prog Try.f113 0 [.reg [oT, oT, oT, oT], .dec false, .reg [oT]] [.code (cAt (bodyOf Try.f113) [1, 0, 1, 0, 0]), .inLoop (cAt (bodyOf Try.f113) [1, 0, 1, 0, 0]), .inBlock 0, .code (cAt (bodyOf Try.f113) [1, 1])] (S85 v x k) [] 1 [] (.p (.bool false)) =
    some [((decide ((↑k : Int) < (↑v.1 : Int))) = false),
  (false = false)] := by kernel_rfl
theorem p112a (v : T_IntS) (x : Int) :
    pieceOb Try.prog 0 [.reg [oT], .reg [oT, oT, oT], .head] [.code (bodyOf Try.f139)] (start Try.f139 [] 0 [inL v, .p (.int .i64 x)]) [] 1 (S112 v x 0) =
    some ([.code (cAt (bodyOf Try.f139) [1, 0, 1, 0, 0]), .inLoop (cAt (bodyOf Try.f139) [1, 0, 1, 0, 0]), .inBlock 0, .code (cAt (bodyOf Try.f139) [1, 1])], [(AN v.1),
  (AP v.1 (fun i => [.int .i64 (v.2 i)])),
  (AI x),
  (AI ((↑v.1 : Int))),
  ((0 : Int) = (↑0 : Int))]) := by kernel_rfl
theorem p112b (v : T_IntS) (x : Int) (k : Nat) :
    pieceOb Try.prog 0 [.reg [oT], .dec true, .reg [oT, oT], .reg [oT, oT, oT, oT, oT, oT], .dec false, .reg [oT, oT], .head] [.code (cAt (bodyOf Try.f139) [1, 0, 1, 0, 0]), .inLoop (cAt (bodyOf Try.f139) [1, 0, 1, 0, 0]), .inBlock 0, .code (cAt (bodyOf Try.f139) [1, 1])] (S112 v x k) [] 1 (S112 v x (k + 1)) =
    some ([.code (cAt (bodyOf Try.f139) [1, 0, 1, 0, 0]), .inLoop (cAt (bodyOf Try.f139) [1, 0, 1, 0, 0]), .inBlock 0, .code (cAt (bodyOf Try.f139) [1, 1])], [((decide ((↑k : Int) < (↑v.1 : Int))) = true),
  ((0 : Int) ≤ (↑k : Int)),
  (((↑k : Int) : Int) < (↑v.1 : Int)),
  ((x == v.2 k) = false),
  (((-9223372036854775808) : Int) ≤ ((↑k : Int) + 1)),
  ((((↑k : Int) + 1) : Int) ≤ 9223372036854775807),
  (AN v.1),
  (AP v.1 (fun i => [.int .i64 (v.2 i)])),
  (AI x),
  (AI ((↑v.1 : Int))),
  ((((↑k : Int) + 1) : Int) = (↑(k + 1) : Int))]) := by kernel_rfl
theorem p112c (v : T_IntS) (x : Int) (k : Nat) :
    pathOb Try.prog Try.f139 0 [.reg [oT], .dec true, .reg [oT, oT], .reg [oT, oT, oT, oT, oT, oT], .dec true, .reg [oT, oT]] [.code (cAt (bodyOf Try.f139) [1, 0, 1, 0, 0]), .inLoop (cAt (bodyOf Try.f139) [1, 0, 1, 0, 0]), .inBlock 0, .code (cAt (bodyOf Try.f139) [1, 1])] (S112 v x k) [] 1 [] (.p (.int .i64 k)) =
    some [((decide ((↑k : Int) < (↑v.1 : Int))) = true),
  ((0 : Int) ≤ (↑k : Int)),
  (((↑k : Int) : Int) < (↑v.1 : Int)),
  ((x == v.2 k) = true),
  (AI ((↑k : Int)))] := by kernel_rfl
theorem p112d (v : T_IntS) (x : Int) (k : Nat) :
    pathOb Try.prog Try.f139 0 [.reg [oT], .dec false, .reg [oT]] [.code (cAt (bodyOf Try.f139) [1, 0, 1, 0, 0]), .inLoop (cAt (bodyOf Try.f139) [1, 0, 1, 0, 0]), .inBlock 0, .code (cAt (bodyOf Try.f139) [1, 1])] (S112 v x k) [] 1 [] (.p (.int .i64 (-1))) =
    some [((decide ((↑k : Int) < (↑v.1 : Int))) = false),
  (AI ((-1)))] := by kernel_rfl
theorem p90 (v : T_IntS) (x r : Int) :
    pathOb Try.prog Try.f108 0 [.reg [oT], .reg [oT, oT, ⟨true, (some ⟨[], [], [], 1, [], .p (.int .i64 r)⟩), none⟩, oT, oT]] [.code (bodyOf Try.f108)] (start Try.f108 [] 0 [inL v, .p (.int .i64 x)]) [] 1 [] (.p (.bool (decide (r ≥ 0)))) =
    some [Con Try.prog 139 0 [] [.p (.seq true 1 v.1 (fun i => [.int .i64 (v.2 i)])), .p (.int .i64 x)] [] (.p (.int .i64 r)),
  ((decide (r ≥ 0)) = (decide (r ≥ 0)))] := by kernel_rfl
theorem hasI_hit (g : Nat → Int) (x : Int) (k : Nat) (h : (g k == x) = true) : ∀ n, k < n → hasI g x n = true
  | 0, h' => by omega
  | n + 1, h' => by
    by_cases e : k = n
    · subst e; simp [hasI, h]
    · simp [hasI, hasI_hit g x k h n (by omega)]
theorem con_l2Has (v : T_IntS) (x : Int) (hn : v.1 ≤ 1048576) : Con Try.prog 113 0 [] [inL v, .p (.int .i64 x)] [] (.p (.bool (hasI v.2 x v.1))) := by
  refine con_start Try.func113 rfl (by kernel_rfl) rfl (fun c hc => ?_)
  have lp : ∀ m k, k + m = v.1 → hasI v.2 x k = false → Run Try.prog c 113 [.code (cAt (bodyOf Try.f113) [1, 0, 1, 0, 0]), .inLoop (cAt (bodyOf Try.f113) [1, 0, 1, 0, 0]), .inBlock 0, .code (cAt (bodyOf Try.f113) [1, 1])] (S85 v x k) (Post c [] (.p (.bool (hasI v.2 x v.1)))) := by
    intro m
    induction m with
    | zero =>
      intro k hk hg
      rw [show hasI v.2 x v.1 = false by rw [show v.1 = k by omega]; exact hg]
      have hd : decide ((k : Int) < (v.1 : Int)) = false := by simp; omega
      refine path_ok mixed Try.func113 hc (p85d v x k) ?_
      simp only [All]
      repeat' (first | exact trivial | with_reducible apply And.intro)
      all_goals (first | exact aG _ | exact aP _ _ | exact aA _ _ | exact aE _ | omega | rfl | (intros; first | assumption | exact True.intro | rfl | exact absurd (show false = true by assumption) Bool.false_ne_true | ((repeat' (first | assumption | apply anda | apply notf)); done)))
    | succ m ih =>
      intro k hk hg
      have hd : decide ((k : Int) < (v.1 : Int)) = true := by simp; omega
      cases he : (v.2 k == x) with
      | true =>
        rw [hasI_hit v.2 x k he v.1 (by omega)]
        refine path_ok mixed Try.func113 hc (p85c v x k) ?_
        simp only [All]
        repeat' (first | exact trivial | with_reducible apply And.intro)
        all_goals (first | exact aG _ | exact aP _ _ | exact aA _ _ | exact aE _ | omega | rfl | (intros; first | assumption | exact True.intro | rfl | exact absurd (show false = true by assumption) Bool.false_ne_true | ((repeat' (first | assumption | apply anda | apply notf)); done)) | (exact he))
      | false =>
        refine piece_ok mixed hc (p85b v x k) ?_ (ih (k + 1) (by omega) (by simp only [hasI, hg, he]; rfl))
        simp only [All]
        repeat' (first | exact trivial | with_reducible apply And.intro)
        all_goals (first | exact aG _ | exact aP _ _ | exact aA _ _ | exact aE _ | omega | rfl | (intros; first | assumption | exact True.intro | rfl | exact absurd (show false = true by assumption) Bool.false_ne_true | ((repeat' (first | assumption | apply anda | apply notf)); done)) | (exact he))
  refine piece_ok mixed hc (p85a v x) ?_ (lp v.1 0 (by omega) rfl)
  simp only [All]
  repeat' (first | exact trivial | with_reducible apply And.intro)
  all_goals (first | exact aG _ | exact aP _ _ | exact aA _ _ | exact aE _ | omega | rfl | (intros; first | assumption | exact True.intro | rfl | exact absurd (show false = true by assumption) Bool.false_ne_true | ((repeat' (first | assumption | apply anda | apply notf)); done)))
theorem con_Index (v : T_IntS) (x : Int) (hn : v.1 ≤ 1048576) : ∃ r : Int, decide (r ≥ 0) = hasI v.2 x v.1 ∧ Con Try.prog 139 0 [] [inL v, .p (.int .i64 x)] [] (.p (.int .i64 r)) := by
  have key : (∃ k, k < v.1 ∧ hasI v.2 x k = false ∧ (v.2 k == x) = true) ∨ hasI v.2 x v.1 = false := by
    have gen : ∀ n, (∃ k, k < n ∧ hasI v.2 x k = false ∧ (v.2 k == x) = true) ∨ hasI v.2 x n = false := by
      intro n
      induction n with
      | zero => exact .inr rfl
      | succ n ih =>
        rcases ih with ⟨k, h1, h2⟩ | h
        · exact .inl ⟨k, by omega, h2⟩
        · cases he : (v.2 n == x) with
          | true => exact .inl ⟨n, by omega, h, he⟩
          | false => exact .inr (by simp only [hasI, h, he]; rfl)
    exact gen v.1
  rcases key with ⟨q, hq, hq1, hq2⟩ | hno
  · refine ⟨(q : Int), by rw [hasI_hit v.2 x q hq2 v.1 hq]; simp, ?_⟩
    refine con_start Try.func139 rfl (by kernel_rfl) rfl (fun c hc => ?_)
    have lp : ∀ m k, k + m = q → Run Try.prog c 139 [.code (cAt (bodyOf Try.f139) [1, 0, 1, 0, 0]), .inLoop (cAt (bodyOf Try.f139) [1, 0, 1, 0, 0]), .inBlock 0, .code (cAt (bodyOf Try.f139) [1, 1])] (S112 v x k) (Post c [] (.p (.int .i64 (q : Int)))) := by
      intro m
      induction m with
      | zero =>
        intro k hk
        obtain rfl : k = q := by omega
        have hd : decide ((k : Int) < (v.1 : Int)) = true := by simp; omega
        have he : (x == v.2 k) = true := by rw [beq_iff_eq] at hq2 ⊢; exact hq2.symm
        refine path_ok mixed Try.func139 hc (p112c v x k) ?_
        simp only [All]
        repeat' (first | exact trivial | with_reducible apply And.intro)
        all_goals (first | exact aG _ | exact aP _ _ | exact aA _ _ | exact aE _ | omega | rfl | (intros; first | assumption | exact True.intro | rfl | exact absurd (show false = true by assumption) Bool.false_ne_true | ((repeat' (first | assumption | apply anda | apply notf)); done)) | (exact he))
      | succ m ih =>
        intro k hk
        have hd : decide ((k : Int) < (v.1 : Int)) = true := by simp; omega
        have he : (x == v.2 k) = false := by
          cases h : (v.2 k == x) with
          | true => rw [hasI_hit v.2 x k h q (by omega)] at hq1; cases hq1
          | false =>
            simp only [beq_eq_false_iff_ne, ne_eq] at h ⊢
            exact fun e => h e.symm
        refine piece_ok mixed hc (p112b v x k) ?_ (ih (k + 1) (by omega))
        simp only [All]
        repeat' (first | exact trivial | with_reducible apply And.intro)
        all_goals (first | exact aG _ | exact aP _ _ | exact aA _ _ | exact aE _ | omega | rfl | (intros; first | assumption | exact True.intro | rfl | exact absurd (show false = true by assumption) Bool.false_ne_true | ((repeat' (first | assumption | apply anda | apply notf)); done)) | (exact he))
    refine piece_ok mixed hc (p112a v x) ?_ (lp q 0 (by omega))
    simp only [All]
    repeat' (first | exact trivial | with_reducible apply And.intro)
    all_goals (first | exact aG _ | exact aP _ _ | exact aA _ _ | exact aE _ | omega | rfl | (intros; first | assumption | exact True.intro | rfl | exact absurd (show false = true by assumption) Bool.false_ne_true | ((repeat' (first | assumption | apply anda | apply notf)); done)))
  · refine ⟨-1, by rw [hno]; rfl, ?_⟩
    refine con_start Try.func139 rfl (by kernel_rfl) rfl (fun c hc => ?_)
    have lp : ∀ m k, k + m = v.1 → Run Try.prog c 139 [.code (cAt (bodyOf Try.f139) [1, 0, 1, 0, 0]), .inLoop (cAt (bodyOf Try.f139) [1, 0, 1, 0, 0]), .inBlock 0, .code (cAt (bodyOf Try.f139) [1, 1])] (S112 v x k) (Post c [] (.p (.int .i64 (-1)))) := by
      intro m
      induction m with
      | zero =>
        intro k hk
        have hd : decide ((k : Int) < (v.1 : Int)) = false := by simp; omega
        refine path_ok mixed Try.func139 hc (p112d v x k) ?_
        simp only [All]
        repeat' (first | exact trivial | with_reducible apply And.intro)
        all_goals (first | exact aG _ | exact aP _ _ | exact aA _ _ | exact aE _ | omega | rfl | (intros; first | assumption | exact True.intro | rfl | exact absurd (show false = true by assumption) Bool.false_ne_true | ((repeat' (first | assumption | apply anda | apply notf)); done)))
      | succ m ih =>
        intro k hk
        have hd : decide ((k : Int) < (v.1 : Int)) = true := by simp; omega
        have he : (x == v.2 k) = false := by
          cases h : (v.2 k == x) with
          | true => rw [hasI_hit v.2 x k h v.1 (by omega)] at hno; cases hno
          | false =>
            simp only [beq_eq_false_iff_ne, ne_eq] at h ⊢
            exact fun e => h e.symm
        refine piece_ok mixed hc (p112b v x k) ?_ (ih (k + 1) (by omega))
        simp only [All]
        repeat' (first | exact trivial | with_reducible apply And.intro)
        all_goals (first | exact aG _ | exact aP _ _ | exact aA _ _ | exact aE _ | omega | rfl | (intros; first | assumption | exact True.intro | rfl | exact absurd (show false = true by assumption) Bool.false_ne_true | ((repeat' (first | assumption | apply anda | apply notf)); done)) | (exact he))
    refine piece_ok mixed hc (p112a v x) ?_ (lp v.1 0 (by omega))
    simp only [All]
    repeat' (first | exact trivial | with_reducible apply And.intro)
    all_goals (first | exact aG _ | exact aP _ _ | exact aA _ _ | exact aE _ | omega | rfl | (intros; first | assumption | exact True.intro | rfl | exact absurd (show false = true by assumption) Bool.false_ne_true | ((repeat' (first | assumption | apply anda | apply notf)); done)))
theorem con_Contains (v : T_IntS) (x : Int) (hn : v.1 ≤ 1048576) : Con Try.prog 108 0 [] [inL v, .p (.int .i64 x)] [] (.p (.bool (hasI v.2 x v.1))) := by
  obtain ⟨r, hr, hcon⟩ := con_Index v x hn
  rw [← hr]
  refine con_start Try.func108 rfl (by kernel_rfl) rfl (fun c hc => ?_)
  refine path_ok mixed Try.func108 hc (p90 v x r) ?_
  simp only [All]
  repeat' (first | exact trivial | with_reducible apply And.intro)
  all_goals (first | exact aG _ | exact aP _ _ | exact aA _ _ | exact aE _ | omega | rfl | (intros; first | assumption | exact True.intro | rfl | exact absurd (show false = true by assumption) Bool.false_ne_true | ((repeat' (first | assumption | apply anda | apply notf)); done)) | (exact hcon))
end Go.Proofs.Ytffnfeefjdmifaa.Mach
namespace Go.Proofs.Ytffnfeefjdmifaa.Mach
open Go
set_option linter.unusedVariables false
set_option linter.unusedSimpArgs false
def niP : AV := .agg [.p .nil, .p .nil, .p .nil]
def bvI (w v : Int) : Int := bitI .and .i64 (shrI .i64 w v) 1
def bwI (w a b : Int) : Int := bitI .and .i64 (bitI .and .i64 (shrI .i64 w a) (shrI .i64 w b)) 1
def CRi (g : Nat → T_Bar) (nb N k l m : Nat) (F T Q : Nat → Int) (i c : Nat) (f : Nat → Int) : St :=
  ⟨[grG g nb N, .p (.int .i64 k), .p (.int .i64 l), .pt 2 0 0 0, .p .any, .p .any, .p .any, .ar 1 1 0 c, .pt 3 2 0 0, .p (.bool true)] ++ List.replicate 11 anyA ++ [.p (.int .i64 nb), .p (.int .i64 i)] ++ List.replicate 16 anyA,
   [(0, bxG g nb N), (1, iOb c f), (2, bxP N m 3), (3, iOb N F), (4, iOb m T), (5, iOb m Q)], 6⟩
def CRs (g : Nat → T_Bar) (nb N k l m : Nat) (F T Q : Nat → Int) (i c : Nat) (f : Nat → Int) : St :=
  ⟨[grG g nb N, .p (.int .i64 k), .p (.int .i64 l), .pt 2 0 0 0, .p .any, .p .any, .p .any, .ar 1 1 0 c, .pt 3 2 0 0, .p (.bool true), .p (.int .i64 i)] ++ List.replicate 28 anyA,
   [(0, bxG g nb N), (1, iOb c f), (2, bxP N m 3), (3, iOb N F), (4, iOb m T), (5, iOb m Q)], 6⟩
def CSp (g : Nat → T_Bar) (nb N : Nat) (w : T_IntS) (i c : Nat) (f : Nat → Int) : St :=
  ⟨[grG g nb N, inL w, .pt 2 0 0 0, .p .any, .p .any, .ar 1 1 0 c, .p (.int .i64 i)] ++ List.replicate 31 anyA, [(0, bxG g nb N), (1, iOb c f)], 2⟩
def CO0 (g : Nat → T_Bar) (nb N k l w : Nat) : St :=
  ⟨[grG g nb N, .p (.int .i64 k), .p (.int .i64 l), .pt 2 0 0 0, .p .any, .p .any, .p .any, .p .any, .p (.int .i64 w)] ++ List.replicate 70 anyA, [(0, bxG g nb N)], 1⟩
def CO1 (g : Nat → T_Bar) (nb N k l w : Nat) (s : Int) (v : Nat) : St :=
  ⟨[grG g nb N, .p (.int .i64 k), .p (.int .i64 l), .pt 2 0 0 0, .p .any, .p .any, .p .any, .p .any, .p (.int .i64 w), .p (.int .i64 s), .p (.int .i64 0)] ++ List.replicate 21 anyA ++ [.p (.int .i64 N), .p (.int .i64 v)] ++ List.replicate 45 anyA, [(0, bxG g nb N)], 1⟩
def CO2 (g : Nat → T_Bar) (nb N k l w : Nat) (s q : Int) (i : Nat) : St :=
  ⟨[grG g nb N, .p (.int .i64 k), .p (.int .i64 l), .pt 2 0 0 0, .p .any, .p .any, .p .any, .p .any, .p (.int .i64 w), .p (.int .i64 s), .p (.int .i64 q)] ++ List.replicate 33 anyA ++ [brL g nb, .p (.int .i64 nb), .p (.int .i64 i)] ++ List.replicate 32 anyA, [(0, bxG g nb N)], 1⟩
def CQ0 (g : Nat → T_Bar) (nb N k l w : Nat) : St :=
  ⟨[grG g nb N, .p (.int .i64 k), .p (.int .i64 l), .pt 2 0 0 0, .p .any, .p .any, .p .any, .p .any, .p (.int .i64 w)] ++ List.replicate 41 anyA, [(0, bxG g nb N)], 1⟩
theorem wRi (k l : Int) :
    pathOb Try.prog Try.f122 0 [.reg [oT], .reg [oT, ⟨true, (some ⟨[], [], [], 1, [], .p (.bool (inB k 1 3))⟩), none⟩, oT, oT, oT, oT, oT, ⟨true, (some ⟨[], [], [], 1, [], .p (.bool (inB l 0 (2 * k - 1)))⟩), none⟩, oT, oT]] [.code (bodyOf Try.f122)] (start Try.f122 [] 0 [.p (.int .i64 k), .p (.int .i64 l)]) [] 1 [] (.p (.bool (bif inB k 1 3 then inB l 0 (2 * k - 1) else false))) =
    some [Con Try.prog 40 0 [] [.p (.int .i64 k), .p (.int .i64 1), .p (.int .i64 3)] [] (.p (.bool (inB k 1 3))),
  (AG (inB k 1 3)),
  (((inB k 1 3) = true) → (((-9223372036854775808) : Int) ≤ (2 * k))),
  (((inB k 1 3) = true) → (((2 * k) : Int) ≤ 9223372036854775807)),
  (AG (inB k 1 3)),
  (((inB k 1 3) = true) → (((-9223372036854775808) : Int) ≤ (2 * k - 1))),
  (((inB k 1 3) = true) → (((2 * k - 1) : Int) ≤ 9223372036854775807)),
  (AG (inB k 1 3)),
  (AG (inB k 1 3)),
  (((inB k 1 3) = true) → Con Try.prog 40 0 [] [.p (.int .i64 l), .p (.int .i64 0), .p (.int .i64 (2 * k - 1))] [] (.p (.bool (inB l 0 (2 * k - 1))))),
  (AG (inB k 1 3)),
  ((bif inB k 1 3 then inB l 0 (2 * k - 1) else false) = (bif inB k 1 3 then inB l 0 (2 * k - 1) else false))] := by kernel_rfl
theorem wRs (k l : Int) :
    pathOb Try.prog Try.f119 0 [.reg [oT], .reg [oT, ⟨true, (some ⟨[], [], [], 1, [], .p (.bool (inB k 1 3))⟩), none⟩, oT, oT, oT, oT, oT, oT, oT, oT, oT, oT, oT]] [.code (bodyOf Try.f119)] (start Try.f119 [] 0 [.p (.int .i64 k), .p (.int .i64 l)]) [] 1 [] (.p (.bool (bif bif inB k 1 3 then decide (l ≥ 0) else false then decide (l < 2 * k) else false))) =
    some [Con Try.prog 37 0 [] [.p (.int .i64 k), .p (.int .i64 1), .p (.int .i64 3)] [] (.p (.bool (inB k 1 3))),
  (AG (inB k 1 3)),
  (AG (inB k 1 3)),
  (AG (bif inB k 1 3 then decide (l ≥ 0) else false)),
  (((bif inB k 1 3 then decide (l ≥ 0) else false) = true) → (((-9223372036854775808) : Int) ≤ (2 * k))),
  (((bif inB k 1 3 then decide (l ≥ 0) else false) = true) → (((2 * k) : Int) ≤ 9223372036854775807)),
  (AG (bif inB k 1 3 then decide (l ≥ 0) else false)),
  (AG (bif inB k 1 3 then decide (l ≥ 0) else false)),
  (AG (bif inB k 1 3 then decide (l ≥ 0) else false)),
  ((bif bif inB k 1 3 then decide (l ≥ 0) else false then decide (l < 2 * k) else false) = (bif bif inB k 1 3 then decide (l ≥ 0) else false then decide (l < 2 * k) else false))] := by kernel_rfl
theorem wUi (v : T_Graph) (k l : Int) (a b : Bool) :
    pathOb Try.prog Try.f120 0 [.reg [oT, oT, oT], .reg [oT, ⟨true, (some ⟨[], [], [], 1, [], .p (.bool a)⟩), none⟩, oT, oT, oT, oT, ⟨true, (some ⟨[], [], [], 1, [], .p (.bool b)⟩), none⟩, oT, oT], .dec true, .reg [oT, oT, oT]] [.code (bodyOf Try.f120)] (start Try.f120 [] 0 [graphA v, .p (.int .i64 k), .p (.int .i64 l)]) [] 1 [] (.tup [niP, .p (.bool false)]) =
    some [((0 : Nat) < 1),
  Con Try.prog 101 0 [] [.agg [.p (.int .i64 v.1), .p (.seq true 2 v.2.1.1 (fun i => [.int .i64 ((v.2.1.2 i).1), .int .i64 ((v.2.1.2 i).2.1)]))]] [] (.p (.bool a)),
  (AG (!!a)),
  (AG (!!a)),
  (((!!a) = true) → Con Try.prog 122 0 [] [.p (.int .i64 k), .p (.int .i64 l)] [] (.p (.bool b))),
  (AG (!!a)),
  (((!a) = false) → ((!!a) = true)),
  ((bif !a then true else !b) = true),
  ((0 : Nat) < 1),
  ((true = true) → (AN 1)),
  ((0 : Nat) < 1),
  (false = false)] := by kernel_rfl
theorem wKi (v : T_Graph) (k l : Int) :
    pathOb Try.prog Try.f65 0 [.reg [oT, oT], .reg [oT, oT, oT, ⟨true, (some ⟨[], [], [], 1, [], .tup [niP, .p (.bool false)]⟩), none⟩, oT, oT, oT, oT, oT, oT], .reg [oT, oT], .dec true, .reg [oT]] [.code (bodyOf Try.f65)] (start Try.f65 [] 0 [graphA v, .p (.int .i64 k), .p (.int .i64 l)]) [] 1 [] (.p (.int .i64 (-1))) =
    some [((0 : Nat) < 1),
  Con Try.prog 120 0 [] [.agg [.p (.int .i64 v.1), .p (.seq true 2 v.2.1.1 (fun i => [.int .i64 ((v.2.1.2 i).1), .int .i64 ((v.2.1.2 i).2.1)]))], .p (.int .i64 k), .p (.int .i64 l)] [] (.tup [.agg [.p (.nil), .p (.nil), .p (.nil)], .p (.bool false)]),
  ((0 : Nat) < 1),
  ((true = true) → (AN 1)),
  ((!false) = true),
  (AI ((-1)))] := by kernel_rfl
theorem wNs (v : T_Graph) (k : Int) (a b : Bool) :
    pathOb Try.prog Try.f144 0 [.reg [oT, oT, oT], .reg [oT, oT, oT, oT, oT, oT], .reg [oT, ⟨true, (some ⟨[], [], [], 1, [], .p (.bool a)⟩), none⟩, oT, oT, oT, ⟨true, (some ⟨[], [], [], 1, [], .p (.bool b)⟩), none⟩, oT, oT], .dec true, .reg [oT, oT, oT]] [.code (bodyOf Try.f144)] (start Try.f144 [] 0 [graphA v, .p (.int .i64 k)]) [] 1 [] (.tup [niP, .p (.bool false)]) =
    some [((0 : Nat) < 1),
  ((true = true) → (AN 1)),
  ((0 : Nat) < 1),
  Con Try.prog 110 0 [] [.agg [.p (.int .i64 v.1), .p (.seq true 2 v.2.1.1 (fun i => [.int .i64 ((v.2.1.2 i).1), .int .i64 ((v.2.1.2 i).2.1)]))]] [] (.p (.bool a)),
  (AG (!!a)),
  (((!!a) = true) → Con Try.prog 37 0 [] [.p (.int .i64 k), .p (.int .i64 1), .p (.int .i64 3)] [] (.p (.bool b))),
  (AG (!!a)),
  (((!a) = false) → ((!!a) = true)),
  ((bif !a then true else !b) = true),
  ((0 : Nat) < 1),
  ((true = true) → (AN 1)),
  ((0 : Nat) < 1),
  (false = false)] := by kernel_rfl
theorem wUs (v : T_Graph) (k l : Int) (b : Bool) :
    pathOb Try.prog Try.f118 0 [.reg [oT, oT, oT], .reg [oT, oT, ⟨true, (some ⟨[], [], [], 1, [], .tup [niP, .p (.bool false)]⟩), none⟩, oT, oT, oT, oT, oT, oT], .reg [oT, oT, oT, oT, oT, ⟨true, (some ⟨[], [], [], 1, [], .p (.bool b)⟩), none⟩, oT, oT], .dec true, .reg [oT, oT, oT]] [.code (bodyOf Try.f118)] (start Try.f118 [] 0 [graphA v, .p (.int .i64 k), .p (.int .i64 l)]) [] 1 [] (.tup [niP, .p (.bool false)]) =
    some [((0 : Nat) < 1),
  Con Try.prog 144 0 [] [.agg [.p (.int .i64 v.1), .p (.seq true 2 v.2.1.1 (fun i => [.int .i64 ((v.2.1.2 i).1), .int .i64 ((v.2.1.2 i).2.1)]))], .p (.int .i64 k)] [] (.tup [.agg [.p (.nil), .p (.nil), .p (.nil)], .p (.bool false)]),
  ((0 : Nat) < 1),
  ((true = true) → (AN 1)),
  (AG (!!false)),
  (AG (!!false)),
  (((!!false) = true) → Con Try.prog 119 0 [] [.p (.int .i64 k), .p (.int .i64 l)] [] (.p (.bool b))),
  (AG (!!false)),
  (((!false) = false) → ((!!false) = true)),
  ((bif !false then true else !b) = true),
  ((0 : Nat) < 1),
  ((true = true) → (AN 1)),
  ((0 : Nat) < 1),
  (false = false)] := by kernel_rfl
theorem wUt (g : Nat → T_Bar) (nb N k : Nat) (l : Int) :
    pathOb Try.prog Try.f118 0 [.reg [oT, oT, oT], .reg [oT, oT, ⟨true, (some ⟨[], [], [], 1, pebR N 0 (fun _ => k) (fun _ => 0) (fun _ => 0), .tup [pebO N 0 0, .p (.bool true)]⟩), none⟩, oT, oT, oT, oT, oT, oT], .reg [oT, oT, oT, oT, oT, ⟨true, (some ⟨[], [], [], 1, [], .p (.bool false)⟩), none⟩, oT, oT], .dec true, .reg [oT, oT, oT]] [.code (bodyOf Try.f118)] (start Try.f118 [] 0 [grG g nb N, .p (.int .i64 k), .p (.int .i64 l)]) [] 1 [] (.tup [niP, .p (.bool false)]) =
    some [((0 : Nat) < 1),
  Con Try.prog 144 0 [] [.agg [.p (.int .i64 (↑N : Int)), .p (.seq true 2 nb (fun i => [.int .i64 ((g i).1), .int .i64 ((g i).2.1)]))], .p (.int .i64 (↑k : Int))] [(0, ⟨false, 1, N, (fun i => [.p (.int .i64 (↑k : Int))])⟩), (1, ⟨false, 1, 0, (fun i => [.p (.int .i64 0)])⟩), (2, ⟨false, 1, 0, (fun i => [.p (.int .i64 0)])⟩)] (.tup [.agg [.ar 1 0 0 N, .ar 1 1 0 0, .ar 1 2 0 0], .p (.bool true)]),
  ((0 : Nat) < 1),
  ((true = true) → (AN 1)),
  (AG (!!true)),
  (AG (!!true)),
  (((!!true) = true) → Con Try.prog 119 0 [] [.p (.int .i64 (↑k : Int)), .p (.int .i64 l)] [] (.p (.bool false))),
  (AG (!!true)),
  (((!true) = false) → ((!!true) = true)),
  ((bif !true then true else !false) = true),
  ((0 : Nat) < 1),
  ((true = true) → (AN 1)),
  ((0 : Nat) < 1),
  (false = false)] := by kernel_rfl
theorem wKs (v : T_Graph) (k l : Int) :
    pathOb Try.prog Try.f57 0 [.reg [oT, oT], .reg [oT, oT, oT, ⟨true, (some ⟨[], [], [], 1, [], .tup [niP, .p (.bool false)]⟩), none⟩, oT, oT, oT, oT, oT, oT], .reg [oT, oT], .dec true, .reg [oT]] [.code (bodyOf Try.f57)] (start Try.f57 [] 0 [graphA v, .p (.int .i64 k), .p (.int .i64 l)]) [] 1 [] (.p (.int .i64 (-1))) =
    some [((0 : Nat) < 1),
  Con Try.prog 118 0 [] [.agg [.p (.int .i64 v.1), .p (.seq true 2 v.2.1.1 (fun i => [.int .i64 ((v.2.1.2 i).1), .int .i64 ((v.2.1.2 i).2.1)]))], .p (.int .i64 k), .p (.int .i64 l)] [] (.tup [.agg [.p (.nil), .p (.nil), .p (.nil)], .p (.bool false)]),
  ((0 : Nat) < 1),
  ((true = true) → (AN 1)),
  ((!false) = true),
  (AI ((-1)))] := by kernel_rfl
theorem wJz (g : Nat → T_Bar) (nb N k l m : Nat) (F T Q : Nat → Int) :
    pieceOb Try.prog 0 [.reg [oT, oT], .reg [oT, oT], .reg [oT, oT, oT, ⟨true, (some ⟨[], [], [], 1, pebR N m F T Q, .tup [pebO N m 0, .p (.bool true)]⟩), none⟩, oT, oT, oT, oT, oT, oT], .reg [oT, oT, oT, oT], .head] [.code (bodyOf Try.f73)] (start Try.f73 [] 0 [grG g nb N, .p (.int .i64 k), .p (.int .i64 l)]) [0, 64, 352, 224, 225, 226] 1 (CRi g nb N k l m F T Q 0 0 (fun _ => 0)) =
    some ([.code (cAt (bodyOf Try.f73) [1, 1, 1, 0, 1, 0, 0]), .inLoop (cAt (bodyOf Try.f73) [1, 1, 1, 0, 1, 0, 0]), .inBlock 0, .code (cAt (bodyOf Try.f73) [1, 1, 1, 1])], [((0 : Nat) < 1),
  Con Try.prog 120 0 [] [.agg [.p (.int .i64 (↑N : Int)), .p (.seq true 2 nb (fun i => [.int .i64 ((g i).1), .int .i64 ((g i).2.1)]))], .p (.int .i64 (↑k : Int)), .p (.int .i64 (↑l : Int))] [(0, ⟨false, 1, N, (fun i => [.p (.int .i64 (F i))])⟩), (1, ⟨false, 1, m, (fun i => [.p (.int .i64 (T i))])⟩), (2, ⟨false, 1, m, (fun i => [.p (.int .i64 (Q i))])⟩)] (.tup [.agg [.ar 1 0 0 N, .ar 1 1 0 m, .ar 1 2 0 m], .p (.bool true)]),
  ((0 : Nat) < 1),
  ((true = true) → (AN 1)),
  ((0 : Nat) < 1),
  (AI ((↑N : Int))),
  (AN nb),
  (AP nb (fun i => [.int .i64 ((g i).1), .int .i64 ((g i).2.1)])),
  (AI ((↑k : Int))),
  (AI ((↑l : Int))),
  (AN 0),
  (AN 0),
  (AN 0),
  (AN 0),
  (true = true),
  (AI ((↑nb : Int))),
  ((0 : Int) = (↑0 : Int)),
  ((([AV.p (PV.int IntKind.i64 (↑N : Int)), brL g nb].length) : Nat) = 2),
  ((1 : Nat) ≤ 1),
  ((1 : Nat) ≤ 1),
  (AI ((↑N : Int))),
  (AN nb),
  (AP nb (fun i => [.int .i64 ((g i).1), .int .i64 ((g i).2.1)])),
  (AN 1),
  ((0 : Nat) ≤ 0),
  (∀ i : Nat, (((i : Nat) < 0) → (All [] ∧ (([.p .any] : List AV) = [.p (.int .i64 0)])))),
  ((((List.map (fun v => AV.p (absV v)) [Value.slice none 0 0, Value.slice none 0 0, Value.slice none 0 0]).length) : Nat) = 3),
  ((1 : Nat) ≤ 1),
  ((1 : Nat) ≤ 1),
  (AN 0),
  (AN N),
  (AN 0),
  (AN m),
  (AN 0),
  (AN m),
  (AN 1),
  ((N : Nat) ≤ N),
  (AA N (fun i => [.p (.int .i64 (F i))])),
  (AN 1),
  ((m : Nat) ≤ m),
  (AA m (fun i => [.p (.int .i64 (T i))])),
  (AN 1),
  ((m : Nat) ≤ m),
  (AA m (fun i => [.p (.int .i64 (Q i))]))]) := by kernel_rfl
theorem wJt (g : Nat → T_Bar) (nb N k l m : Nat) (F T Q : Nat → Int) (i c : Nat) (f : Nat → Int) :
    pieceOb Try.prog 0 [.reg [oT], .dec true, .reg [oT, oT], .reg [oT, oT, oT, oT, oT, ⟨true, (some ⟨[], [], [], 1, [], .p (.bool false)⟩), none⟩, oT, oT], .dec true, .reg [oT, oT, oT, oT, oT], .reg [oT, oT], .head] [.code (cAt (bodyOf Try.f73) [1, 1, 1, 0, 1, 0, 0]), .inLoop (cAt (bodyOf Try.f73) [1, 1, 1, 0, 1, 0, 0]), .inBlock 0, .code (cAt (bodyOf Try.f73) [1, 1, 1, 1])] (CRi g nb N k l m F T Q i c f) [0, 454, 2, 3, 4, 5] 1 (CRi g nb N k l m F T Q (i + 1) (c + 1) (fun s => if s < c then f s else i)) =
    some ([.code (cAt (bodyOf Try.f73) [1, 1, 1, 0, 1, 0, 0]), .inLoop (cAt (bodyOf Try.f73) [1, 1, 1, 0, 1, 0, 0]), .inBlock 0, .code (cAt (bodyOf Try.f73) [1, 1, 1, 1])], [((decide ((↑i : Int) < (↑nb : Int))) = true),
  (AG true),
  ((true = true) → ((0 : Nat) < 1)),
  (AG true),
  (AG true),
  ((true = true) → (AN 1)),
  ((true = true) → ((m : Nat) ≤ m)),
  ((true = true) → Con Try.prog 108 0 [] [.p (.seq true 1 m (fun i_1 => [.int .i64 (Q i_1)])), .p (.int .i64 (↑i : Int))] [] (.p (.bool false))),
  (AG true),
  (AG true),
  ((bif true then !false else false) = true),
  ((1 : Nat) ≤ 1),
  ((c : Nat) ≤ c),
  ((((c + 1) * 8) : Nat) ≤ 140737488355328),
  (((c + 1) : Nat) ≤ 9223372036854775807),
  (((-9223372036854775808) : Int) ≤ ((↑i : Int) + 1)),
  ((((↑i : Int) + 1) : Int) ≤ 9223372036854775807),
  (AI ((↑N : Int))),
  (AN nb),
  (AP nb (fun i_1 => [.int .i64 ((g i_1).1), .int .i64 ((g i_1).2.1)])),
  (AI ((↑k : Int))),
  (AI ((↑l : Int))),
  (AN 0),
  (AN 0),
  (AN ((c + 1))),
  (AN 0),
  (true = true),
  (AI ((↑nb : Int))),
  ((((↑i : Int) + 1) : Int) = (↑(i + 1) : Int)),
  (AN 2),
  ((1 : Nat) ≤ 1),
  ((1 : Nat) ≤ 1),
  (AI ((↑N : Int))),
  (AN nb),
  (AP nb (fun i_1 => [.int .i64 ((g i_1).1), .int .i64 ((g i_1).2.1)])),
  (AN 1),
  (((c + 1) : Nat) ≤ (c + 1)),
  (∀ i_1 : Nat, (((i_1 : Nat) < (c + 1)) → (All (cvtL false [(454, ⟨false, 1, (c + 1), (fun i_2 => (if (i_2 < c) then [.p (.int .i64 (f i_2))] else [.p (.int .i64 (↑i : Int))]))⟩), (422, ⟨false, 1, 1, (fun i_2 => [.p (.int .i64 (↑i : Int))])⟩), (0, ⟨true, 2, 1, (fun i_2 => [.p (.int .i64 (↑N : Int)), .p (.seq true 2 nb (fun i_3 => [.int .i64 ((g i_3).1), .int .i64 ((g i_3).2.1)]))])⟩), (2, ⟨true, 3, 1, (fun i_2 => [.ar 1 3 0 N, .ar 1 4 0 m, .ar 1 5 0 m])⟩), (3, ⟨false, 1, N, (fun i_2 => [.p (.int .i64 (F i_2))])⟩), (4, ⟨false, 1, m, (fun i_2 => [.p (.int .i64 (T i_2))])⟩), (5, ⟨false, 1, m, (fun i_2 => [.p (.int .i64 (Q i_2))])⟩)] [0, 454, 2, 3, 4, 5] 1 (if (i_1 < c) then [.p (.int .i64 (f i_1))] else [.p (.int .i64 (↑i : Int))])).2 ∧ (((cvtL false [(454, ⟨false, 1, (c + 1), (fun i_2 => (if (i_2 < c) then [.p (.int .i64 (f i_2))] else [.p (.int .i64 (↑i : Int))]))⟩), (422, ⟨false, 1, 1, (fun i_2 => [.p (.int .i64 (↑i : Int))])⟩), (0, ⟨true, 2, 1, (fun i_2 => [.p (.int .i64 (↑N : Int)), .p (.seq true 2 nb (fun i_3 => [.int .i64 ((g i_3).1), .int .i64 ((g i_3).2.1)]))])⟩), (2, ⟨true, 3, 1, (fun i_2 => [.ar 1 3 0 N, .ar 1 4 0 m, .ar 1 5 0 m])⟩), (3, ⟨false, 1, N, (fun i_2 => [.p (.int .i64 (F i_2))])⟩), (4, ⟨false, 1, m, (fun i_2 => [.p (.int .i64 (T i_2))])⟩), (5, ⟨false, 1, m, (fun i_2 => [.p (.int .i64 (Q i_2))])⟩)] [0, 454, 2, 3, 4, 5] 1 (if (i_1 < c) then [.p (.int .i64 (f i_1))] else [.p (.int .i64 (↑i : Int))])).1 : List AV) = [.p (.int .i64 (if i_1 < c then f i_1 else (↑i : Int)))])))),
  (AN 3),
  ((1 : Nat) ≤ 1),
  ((1 : Nat) ≤ 1),
  (AN 0),
  (AN N),
  (AN 0),
  (AN m),
  (AN 0),
  (AN m),
  (AN 1),
  ((N : Nat) ≤ N),
  (AA N (fun i_1 => [.p (.int .i64 (F i_1))])),
  (AN 1),
  ((m : Nat) ≤ m),
  (AA m (fun i_1 => [.p (.int .i64 (T i_1))])),
  (AN 1),
  ((m : Nat) ≤ m),
  (AA m (fun i_1 => [.p (.int .i64 (Q i_1))]))]) := by kernel_rfl
theorem wJf (g : Nat → T_Bar) (nb N k l m : Nat) (F T Q : Nat → Int) (i c : Nat) (f : Nat → Int) :
    pieceOb Try.prog 0 [.reg [oT], .dec true, .reg [oT, oT], .reg [oT, oT, oT, oT, oT, ⟨true, (some ⟨[], [], [], 1, [], .p (.bool true)⟩), none⟩, oT, oT], .dec false, .reg [oT, oT], .head] [.code (cAt (bodyOf Try.f73) [1, 1, 1, 0, 1, 0, 0]), .inLoop (cAt (bodyOf Try.f73) [1, 1, 1, 0, 1, 0, 0]), .inBlock 0, .code (cAt (bodyOf Try.f73) [1, 1, 1, 1])] (CRi g nb N k l m F T Q i c f) [0, 1, 2, 3, 4, 5] 1 (CRi g nb N k l m F T Q (i + 1) c f) =
    some ([.code (cAt (bodyOf Try.f73) [1, 1, 1, 0, 1, 0, 0]), .inLoop (cAt (bodyOf Try.f73) [1, 1, 1, 0, 1, 0, 0]), .inBlock 0, .code (cAt (bodyOf Try.f73) [1, 1, 1, 1])], [((decide ((↑i : Int) < (↑nb : Int))) = true),
  (AG true),
  ((true = true) → ((0 : Nat) < 1)),
  (AG true),
  (AG true),
  ((true = true) → (AN 1)),
  ((true = true) → ((m : Nat) ≤ m)),
  ((true = true) → Con Try.prog 108 0 [] [.p (.seq true 1 m (fun i_1 => [.int .i64 (Q i_1)])), .p (.int .i64 (↑i : Int))] [] (.p (.bool true))),
  (AG true),
  (AG true),
  ((bif true then !true else false) = false),
  (((-9223372036854775808) : Int) ≤ ((↑i : Int) + 1)),
  ((((↑i : Int) + 1) : Int) ≤ 9223372036854775807),
  (AI ((↑N : Int))),
  (AN nb),
  (AP nb (fun i_1 => [.int .i64 ((g i_1).1), .int .i64 ((g i_1).2.1)])),
  (AI ((↑k : Int))),
  (AI ((↑l : Int))),
  (AN 0),
  (AN 0),
  (AN c),
  (AN 0),
  (true = true),
  (AI ((↑nb : Int))),
  ((((↑i : Int) + 1) : Int) = (↑(i + 1) : Int)),
  (AN 2),
  ((1 : Nat) ≤ 1),
  ((1 : Nat) ≤ 1),
  (AI ((↑N : Int))),
  (AN nb),
  (AP nb (fun i_1 => [.int .i64 ((g i_1).1), .int .i64 ((g i_1).2.1)])),
  (AN 1),
  ((c : Nat) ≤ c),
  (AA c (fun i_1 => [.p (.int .i64 (f i_1))])),
  (AN 3),
  ((1 : Nat) ≤ 1),
  ((1 : Nat) ≤ 1),
  (AN 0),
  (AN N),
  (AN 0),
  (AN m),
  (AN 0),
  (AN m),
  (AN 1),
  ((N : Nat) ≤ N),
  (AA N (fun i_1 => [.p (.int .i64 (F i_1))])),
  (AN 1),
  ((m : Nat) ≤ m),
  (AA m (fun i_1 => [.p (.int .i64 (T i_1))])),
  (AN 1),
  ((m : Nat) ≤ m),
  (AA m (fun i_1 => [.p (.int .i64 (Q i_1))]))]) := by kernel_rfl
theorem wJe (g : Nat → T_Bar) (nb N k l m : Nat) (F T Q : Nat → Int) (i c : Nat) (f : Nat → Int) :
    pathOb Try.prog Try.f73 0 [.reg [oT], .dec false, .reg [oT, oT]] [.code (cAt (bodyOf Try.f73) [1, 1, 1, 0, 1, 0, 0]), .inLoop (cAt (bodyOf Try.f73) [1, 1, 1, 0, 1, 0, 0]), .inBlock 0, .code (cAt (bodyOf Try.f73) [1, 1, 1, 1])] (CRi g nb N k l m F T Q i c f) [1] 1 [(0, iOb c f)] (.ar 1 0 0 c) =
    some [((decide ((↑i : Int) < (↑nb : Int))) = false),
  (AN 0),
  (AN c),
  (AN 1),
  ((c : Nat) ≤ c),
  (AA c (fun i_1 => [.p (.int .i64 (f i_1))])),
  (AE c)] := by kernel_rfl
theorem wHz (g : Nat → T_Bar) (nb N k l m : Nat) (F T Q : Nat → Int) :
    pieceOb Try.prog 0 [.reg [oT, oT], .reg [oT, oT], .reg [oT, oT, oT, ⟨true, (some ⟨[], [], [], 1, pebR N m F T Q, .tup [pebO N m 0, .p (.bool true)]⟩), none⟩, oT, oT, oT, oT, oT, oT], .reg [oT], .head] [.code (bodyOf Try.f64)] (start Try.f64 [] 0 [grG g nb N, .p (.int .i64 k), .p (.int .i64 l)]) [0, 64, 352, 224, 225, 226] 1 (CRs g nb N k l m F T Q 0 0 (fun _ => 0)) =
    some ([.code (cAt (bodyOf Try.f64) [1, 1, 1, 0, 1, 0, 0]), .inLoop (cAt (bodyOf Try.f64) [1, 1, 1, 0, 1, 0, 0]), .inBlock 0, .code (cAt (bodyOf Try.f64) [1, 1, 1, 1])], [((0 : Nat) < 1),
  Con Try.prog 118 0 [] [.agg [.p (.int .i64 (↑N : Int)), .p (.seq true 2 nb (fun i => [.int .i64 ((g i).1), .int .i64 ((g i).2.1)]))], .p (.int .i64 (↑k : Int)), .p (.int .i64 (↑l : Int))] [(0, ⟨false, 1, N, (fun i => [.p (.int .i64 (F i))])⟩), (1, ⟨false, 1, m, (fun i => [.p (.int .i64 (T i))])⟩), (2, ⟨false, 1, m, (fun i => [.p (.int .i64 (Q i))])⟩)] (.tup [.agg [.ar 1 0 0 N, .ar 1 1 0 m, .ar 1 2 0 m], .p (.bool true)]),
  ((0 : Nat) < 1),
  ((true = true) → (AN 1)),
  (AI ((↑N : Int))),
  (AN nb),
  (AP nb (fun i => [.int .i64 ((g i).1), .int .i64 ((g i).2.1)])),
  (AI ((↑k : Int))),
  (AI ((↑l : Int))),
  (AN 0),
  (AN 0),
  (AN 0),
  (AN 0),
  (true = true),
  ((0 : Int) = (↑0 : Int)),
  ((([AV.p (PV.int IntKind.i64 (↑N : Int)), brL g nb].length) : Nat) = 2),
  ((1 : Nat) ≤ 1),
  ((1 : Nat) ≤ 1),
  (AI ((↑N : Int))),
  (AN nb),
  (AP nb (fun i => [.int .i64 ((g i).1), .int .i64 ((g i).2.1)])),
  (AN 1),
  ((0 : Nat) ≤ 0),
  (∀ i : Nat, (((i : Nat) < 0) → (All [] ∧ (([.p .any] : List AV) = [.p (.int .i64 0)])))),
  ((((List.map (fun v => AV.p (absV v)) [Value.slice none 0 0, Value.slice none 0 0, Value.slice none 0 0]).length) : Nat) = 3),
  ((1 : Nat) ≤ 1),
  ((1 : Nat) ≤ 1),
  (AN 0),
  (AN N),
  (AN 0),
  (AN m),
  (AN 0),
  (AN m),
  (AN 1),
  ((N : Nat) ≤ N),
  (AA N (fun i => [.p (.int .i64 (F i))])),
  (AN 1),
  ((m : Nat) ≤ m),
  (AA m (fun i => [.p (.int .i64 (T i))])),
  (AN 1),
  ((m : Nat) ≤ m),
  (AA m (fun i => [.p (.int .i64 (Q i))]))]) := by kernel_rfl
theorem wHt (g : Nat → T_Bar) (nb N k l m : Nat) (F T Q : Nat → Int) (i c : Nat) (f : Nat → Int) :
    pieceOb Try.prog 0 [.reg [oT, oT, oT, oT, oT, oT, oT, oT], .dec true, .reg [oT, oT, oT, ⟨true, (some ⟨[], [], [], 1, [], .p (.bool false)⟩), none⟩, oT], .dec true, .reg [oT, oT, oT, oT, oT], .reg [oT, oT, oT], .head] [.code (cAt (bodyOf Try.f64) [1, 1, 1, 0, 1, 0, 0]), .inLoop (cAt (bodyOf Try.f64) [1, 1, 1, 0, 1, 0, 0]), .inBlock 0, .code (cAt (bodyOf Try.f64) [1, 1, 1, 1])] (CRs g nb N k l m F T Q i c f) [0, 518, 2, 3, 4, 5] 1 (CRs g nb N k l m F T Q (i + 1) (c + 1) (fun s => if s < c then f s else i)) =
    some ([.code (cAt (bodyOf Try.f64) [1, 1, 1, 0, 1, 0, 0]), .inLoop (cAt (bodyOf Try.f64) [1, 1, 1, 0, 1, 0, 0]), .inBlock 0, .code (cAt (bodyOf Try.f64) [1, 1, 1, 1])], [((0 : Nat) < 1),
  (AG (decide ((↑i : Int) < (↑nb : Int)))),
  ((bif decide ((↑i : Int) < (↑nb : Int)) then true else false) = true),
  ((0 : Nat) < 1),
  (AN 1),
  ((m : Nat) ≤ m),
  Con Try.prog 113 0 [] [.p (.seq true 1 m (fun i_1 => [.int .i64 (Q i_1)])), .p (.int .i64 (↑i : Int))] [] (.p (.bool false)),
  ((!false) = true),
  ((1 : Nat) ≤ 1),
  ((c : Nat) ≤ c),
  ((((c + 1) * 8) : Nat) ≤ 140737488355328),
  (((c + 1) : Nat) ≤ 9223372036854775807),
  (((-9223372036854775808) : Int) ≤ ((↑i : Int) + 1)),
  ((((↑i : Int) + 1) : Int) ≤ 9223372036854775807),
  (AI ((↑N : Int))),
  (AN nb),
  (AP nb (fun i_1 => [.int .i64 ((g i_1).1), .int .i64 ((g i_1).2.1)])),
  (AI ((↑k : Int))),
  (AI ((↑l : Int))),
  (AN 0),
  (AN 0),
  (AN ((c + 1))),
  (AN 0),
  (true = true),
  ((((↑i : Int) + 1) : Int) = (↑(i + 1) : Int)),
  (AN 2),
  ((1 : Nat) ≤ 1),
  ((1 : Nat) ≤ 1),
  (AI ((↑N : Int))),
  (AN nb),
  (AP nb (fun i_1 => [.int .i64 ((g i_1).1), .int .i64 ((g i_1).2.1)])),
  (AN 1),
  (((c + 1) : Nat) ≤ (c + 1)),
  (∀ i_1 : Nat, (((i_1 : Nat) < (c + 1)) → (All (cvtL false [(518, ⟨false, 1, (c + 1), (fun i_2 => (if (i_2 < c) then [.p (.int .i64 (f i_2))] else [.p (.int .i64 (↑i : Int))]))⟩), (486, ⟨false, 1, 1, (fun i_2 => [.p (.int .i64 (↑i : Int))])⟩), (0, ⟨true, 2, 1, (fun i_2 => [.p (.int .i64 (↑N : Int)), .p (.seq true 2 nb (fun i_3 => [.int .i64 ((g i_3).1), .int .i64 ((g i_3).2.1)]))])⟩), (2, ⟨true, 3, 1, (fun i_2 => [.ar 1 3 0 N, .ar 1 4 0 m, .ar 1 5 0 m])⟩), (3, ⟨false, 1, N, (fun i_2 => [.p (.int .i64 (F i_2))])⟩), (4, ⟨false, 1, m, (fun i_2 => [.p (.int .i64 (T i_2))])⟩), (5, ⟨false, 1, m, (fun i_2 => [.p (.int .i64 (Q i_2))])⟩)] [0, 518, 2, 3, 4, 5] 1 (if (i_1 < c) then [.p (.int .i64 (f i_1))] else [.p (.int .i64 (↑i : Int))])).2 ∧ (((cvtL false [(518, ⟨false, 1, (c + 1), (fun i_2 => (if (i_2 < c) then [.p (.int .i64 (f i_2))] else [.p (.int .i64 (↑i : Int))]))⟩), (486, ⟨false, 1, 1, (fun i_2 => [.p (.int .i64 (↑i : Int))])⟩), (0, ⟨true, 2, 1, (fun i_2 => [.p (.int .i64 (↑N : Int)), .p (.seq true 2 nb (fun i_3 => [.int .i64 ((g i_3).1), .int .i64 ((g i_3).2.1)]))])⟩), (2, ⟨true, 3, 1, (fun i_2 => [.ar 1 3 0 N, .ar 1 4 0 m, .ar 1 5 0 m])⟩), (3, ⟨false, 1, N, (fun i_2 => [.p (.int .i64 (F i_2))])⟩), (4, ⟨false, 1, m, (fun i_2 => [.p (.int .i64 (T i_2))])⟩), (5, ⟨false, 1, m, (fun i_2 => [.p (.int .i64 (Q i_2))])⟩)] [0, 518, 2, 3, 4, 5] 1 (if (i_1 < c) then [.p (.int .i64 (f i_1))] else [.p (.int .i64 (↑i : Int))])).1 : List AV) = [.p (.int .i64 (if i_1 < c then f i_1 else (↑i : Int)))])))),
  (AN 3),
  ((1 : Nat) ≤ 1),
  ((1 : Nat) ≤ 1),
  (AN 0),
  (AN N),
  (AN 0),
  (AN m),
  (AN 0),
  (AN m),
  (AN 1),
  ((N : Nat) ≤ N),
  (AA N (fun i_1 => [.p (.int .i64 (F i_1))])),
  (AN 1),
  ((m : Nat) ≤ m),
  (AA m (fun i_1 => [.p (.int .i64 (T i_1))])),
  (AN 1),
  ((m : Nat) ≤ m),
  (AA m (fun i_1 => [.p (.int .i64 (Q i_1))]))]) := by kernel_rfl
theorem wHf (g : Nat → T_Bar) (nb N k l m : Nat) (F T Q : Nat → Int) (i c : Nat) (f : Nat → Int) :
    pieceOb Try.prog 0 [.reg [oT, oT, oT, oT, oT, oT, oT, oT], .dec true, .reg [oT, oT, oT, ⟨true, (some ⟨[], [], [], 1, [], .p (.bool true)⟩), none⟩, oT], .dec false, .reg [oT, oT, oT], .head] [.code (cAt (bodyOf Try.f64) [1, 1, 1, 0, 1, 0, 0]), .inLoop (cAt (bodyOf Try.f64) [1, 1, 1, 0, 1, 0, 0]), .inBlock 0, .code (cAt (bodyOf Try.f64) [1, 1, 1, 1])] (CRs g nb N k l m F T Q i c f) [0, 1, 2, 3, 4, 5] 1 (CRs g nb N k l m F T Q (i + 1) c f) =
    some ([.code (cAt (bodyOf Try.f64) [1, 1, 1, 0, 1, 0, 0]), .inLoop (cAt (bodyOf Try.f64) [1, 1, 1, 0, 1, 0, 0]), .inBlock 0, .code (cAt (bodyOf Try.f64) [1, 1, 1, 1])], [((0 : Nat) < 1),
  (AG (decide ((↑i : Int) < (↑nb : Int)))),
  ((bif decide ((↑i : Int) < (↑nb : Int)) then true else false) = true),
  ((0 : Nat) < 1),
  (AN 1),
  ((m : Nat) ≤ m),
  Con Try.prog 113 0 [] [.p (.seq true 1 m (fun i_1 => [.int .i64 (Q i_1)])), .p (.int .i64 (↑i : Int))] [] (.p (.bool true)),
  ((!true) = false),
  (((-9223372036854775808) : Int) ≤ ((↑i : Int) + 1)),
  ((((↑i : Int) + 1) : Int) ≤ 9223372036854775807),
  (AI ((↑N : Int))),
  (AN nb),
  (AP nb (fun i_1 => [.int .i64 ((g i_1).1), .int .i64 ((g i_1).2.1)])),
  (AI ((↑k : Int))),
  (AI ((↑l : Int))),
  (AN 0),
  (AN 0),
  (AN c),
  (AN 0),
  (true = true),
  ((((↑i : Int) + 1) : Int) = (↑(i + 1) : Int)),
  (AN 2),
  ((1 : Nat) ≤ 1),
  ((1 : Nat) ≤ 1),
  (AI ((↑N : Int))),
  (AN nb),
  (AP nb (fun i_1 => [.int .i64 ((g i_1).1), .int .i64 ((g i_1).2.1)])),
  (AN 1),
  ((c : Nat) ≤ c),
  (AA c (fun i_1 => [.p (.int .i64 (f i_1))])),
  (AN 3),
  ((1 : Nat) ≤ 1),
  ((1 : Nat) ≤ 1),
  (AN 0),
  (AN N),
  (AN 0),
  (AN m),
  (AN 0),
  (AN m),
  (AN 1),
  ((N : Nat) ≤ N),
  (AA N (fun i_1 => [.p (.int .i64 (F i_1))])),
  (AN 1),
  ((m : Nat) ≤ m),
  (AA m (fun i_1 => [.p (.int .i64 (T i_1))])),
  (AN 1),
  ((m : Nat) ≤ m),
  (AA m (fun i_1 => [.p (.int .i64 (Q i_1))]))]) := by kernel_rfl
theorem wHe (g : Nat → T_Bar) (nb N k l m : Nat) (F T Q : Nat → Int) (i c : Nat) (f : Nat → Int) :
    pathOb Try.prog Try.f64 0 [.reg [oT, oT, oT, oT, oT, oT, oT, oT], .dec false, .reg [oT, oT]] [.code (cAt (bodyOf Try.f64) [1, 1, 1, 0, 1, 0, 0]), .inLoop (cAt (bodyOf Try.f64) [1, 1, 1, 0, 1, 0, 0]), .inBlock 0, .code (cAt (bodyOf Try.f64) [1, 1, 1, 1])] (CRs g nb N k l m F T Q i c f) [1] 1 [(0, iOb c f)] (.ar 1 0 0 c) =
    some [((0 : Nat) < 1),
  (AG (decide ((↑i : Int) < (↑nb : Int)))),
  ((bif decide ((↑i : Int) < (↑nb : Int)) then true else false) = false),
  (AN 0),
  (AN c),
  (AN 1),
  ((c : Nat) ≤ c),
  (AA c (fun i_1 => [.p (.int .i64 (f i_1))])),
  (AE c)] := by kernel_rfl
theorem wPz (g : Nat → T_Bar) (nb N : Nat) (w : T_IntS) :
    pieceOb Try.prog 0 [.reg [oT, oT], .reg [oT, oT], .reg [oT], .head] [.code (bodyOf Try.f49)] (start Try.f49 [] 0 [grG g nb N, inL w]) [0, 64] 1 (CSp g nb N w 0 0 (fun _ => 0)) =
    some ([.code (cAt (bodyOf Try.f49) [1, 1, 0, 1, 0, 0]), .inLoop (cAt (bodyOf Try.f49) [1, 1, 0, 1, 0, 0]), .inBlock 0, .code (cAt (bodyOf Try.f49) [1, 1, 1])], [(AI ((↑N : Int))),
  (AN nb),
  (AP nb (fun i => [.int .i64 ((g i).1), .int .i64 ((g i).2.1)])),
  (AN w.1),
  (AP w.1 (fun i => [.int .i64 (w.2 i)])),
  (AN 0),
  (AN 0),
  (AN 0),
  ((0 : Int) = (↑0 : Int)),
  ((([AV.p (PV.int IntKind.i64 (↑N : Int)), brL g nb].length) : Nat) = 2),
  ((1 : Nat) ≤ 1),
  ((1 : Nat) ≤ 1),
  (AI ((↑N : Int))),
  (AN nb),
  (AP nb (fun i => [.int .i64 ((g i).1), .int .i64 ((g i).2.1)])),
  (AN 1),
  ((0 : Nat) ≤ 0),
  (∀ i : Nat, (((i : Nat) < 0) → (All [] ∧ (([.p .any] : List AV) = [.p (.int .i64 0)]))))]) := by kernel_rfl
theorem wPt (g : Nat → T_Bar) (nb N : Nat) (w : T_IntS) (i c : Nat) (f : Nat → Int) :
    pieceOb Try.prog 0 [.reg [oT, oT, oT, oT, oT], .dec true, .reg [oT, oT, oT, oT, oT, oT, oT, ⟨true, (some ⟨[], [], [], 1, [], .p (.bool true)⟩), none⟩, oT, oT, oT, oT, oT, oT, oT, oT, ⟨true, (some ⟨[], [], [], 1, [], .p (.bool true)⟩), none⟩, oT], .dec true, .reg [oT, oT, oT, oT, oT], .reg [oT, oT, oT], .head] [.code (cAt (bodyOf Try.f49) [1, 1, 0, 1, 0, 0]), .inLoop (cAt (bodyOf Try.f49) [1, 1, 0, 1, 0, 0]), .inBlock 0, .code (cAt (bodyOf Try.f49) [1, 1, 1])] (CSp g nb N w i c f) [0, 834] 1 (CSp g nb N w (i + 1) (c + 1) (fun s => if s < c then f s else i)) =
    some ([.code (cAt (bodyOf Try.f49) [1, 1, 0, 1, 0, 0]), .inLoop (cAt (bodyOf Try.f49) [1, 1, 0, 1, 0, 0]), .inBlock 0, .code (cAt (bodyOf Try.f49) [1, 1, 1])], [((0 : Nat) < 1),
  ((decide ((↑i : Int) < (↑nb : Int))) = true),
  ((0 : Nat) < 1),
  ((0 : Int) ≤ (↑i : Int)),
  (((↑i : Int) : Int) < (↑nb : Int)),
  Con Try.prog 113 0 [] [.p (.seq true 1 w.1 (fun i_1 => [.int .i64 (w.2 i_1)])), .p (.int .i64 ((g i).1))] [] (.p (.bool true)),
  (AG true),
  ((true = true) → ((0 : Nat) < 1)),
  (AG true),
  (AG true),
  ((true = true) → ((0 : Int) ≤ (↑i : Int))),
  ((true = true) → (((↑i : Int) : Int) < (↑nb : Int))),
  (AG true),
  (AG true),
  (AG true),
  (AG true),
  ((true = true) → Con Try.prog 113 0 [] [.p (.seq true 1 w.1 (fun i_1 => [.int .i64 (w.2 i_1)])), .p (.int .i64 ((g i).2.1))] [] (.p (.bool true))),
  (AG true),
  ((bif true then true else false) = true),
  ((1 : Nat) ≤ 1),
  ((c : Nat) ≤ c),
  ((((c + 1) * 8) : Nat) ≤ 140737488355328),
  (((c + 1) : Nat) ≤ 9223372036854775807),
  (((-9223372036854775808) : Int) ≤ ((↑i : Int) + 1)),
  ((((↑i : Int) + 1) : Int) ≤ 9223372036854775807),
  (AI ((↑N : Int))),
  (AN nb),
  (AP nb (fun i_1 => [.int .i64 ((g i_1).1), .int .i64 ((g i_1).2.1)])),
  (AN w.1),
  (AP w.1 (fun i_1 => [.int .i64 (w.2 i_1)])),
  (AN 0),
  (AN 0),
  (AN ((c + 1))),
  ((((↑i : Int) + 1) : Int) = (↑(i + 1) : Int)),
  (AN 2),
  ((1 : Nat) ≤ 1),
  ((1 : Nat) ≤ 1),
  (AI ((↑N : Int))),
  (AN nb),
  (AP nb (fun i_1 => [.int .i64 ((g i_1).1), .int .i64 ((g i_1).2.1)])),
  (AN 1),
  (((c + 1) : Nat) ≤ (c + 1)),
  (∀ i_1 : Nat, (((i_1 : Nat) < (c + 1)) → (All (cvtL false [(834, ⟨false, 1, (c + 1), (fun i_2 => (if (i_2 < c) then [.p (.int .i64 (f i_2))] else [.p (.int .i64 (↑i : Int))]))⟩), (802, ⟨false, 1, 1, (fun i_2 => [.p (.int .i64 (↑i : Int))])⟩), (0, ⟨true, 2, 1, (fun i_2 => [.p (.int .i64 (↑N : Int)), .p (.seq true 2 nb (fun i_3 => [.int .i64 ((g i_3).1), .int .i64 ((g i_3).2.1)]))])⟩)] [0, 834] 1 (if (i_1 < c) then [.p (.int .i64 (f i_1))] else [.p (.int .i64 (↑i : Int))])).2 ∧ (((cvtL false [(834, ⟨false, 1, (c + 1), (fun i_2 => (if (i_2 < c) then [.p (.int .i64 (f i_2))] else [.p (.int .i64 (↑i : Int))]))⟩), (802, ⟨false, 1, 1, (fun i_2 => [.p (.int .i64 (↑i : Int))])⟩), (0, ⟨true, 2, 1, (fun i_2 => [.p (.int .i64 (↑N : Int)), .p (.seq true 2 nb (fun i_3 => [.int .i64 ((g i_3).1), .int .i64 ((g i_3).2.1)]))])⟩)] [0, 834] 1 (if (i_1 < c) then [.p (.int .i64 (f i_1))] else [.p (.int .i64 (↑i : Int))])).1 : List AV) = [.p (.int .i64 (if i_1 < c then f i_1 else (↑i : Int)))]))))]) := by kernel_rfl
theorem wPf (g : Nat → T_Bar) (nb N : Nat) (w : T_IntS) (i c : Nat) (f : Nat → Int) (a b : Bool) :
    pieceOb Try.prog 0 [.reg [oT, oT, oT, oT, oT], .dec true, .reg [oT, oT, oT, oT, oT, oT, oT, ⟨true, (some ⟨[], [], [], 1, [], .p (.bool a)⟩), none⟩, oT, oT, oT, oT, oT, oT, oT, oT, ⟨true, (some ⟨[], [], [], 1, [], .p (.bool b)⟩), none⟩, oT], .dec false, .reg [oT, oT, oT], .head] [.code (cAt (bodyOf Try.f49) [1, 1, 0, 1, 0, 0]), .inLoop (cAt (bodyOf Try.f49) [1, 1, 0, 1, 0, 0]), .inBlock 0, .code (cAt (bodyOf Try.f49) [1, 1, 1])] (CSp g nb N w i c f) [0, 1] 1 (CSp g nb N w (i + 1) c f) =
    some ([.code (cAt (bodyOf Try.f49) [1, 1, 0, 1, 0, 0]), .inLoop (cAt (bodyOf Try.f49) [1, 1, 0, 1, 0, 0]), .inBlock 0, .code (cAt (bodyOf Try.f49) [1, 1, 1])], [((0 : Nat) < 1),
  ((decide ((↑i : Int) < (↑nb : Int))) = true),
  ((0 : Nat) < 1),
  ((0 : Int) ≤ (↑i : Int)),
  (((↑i : Int) : Int) < (↑nb : Int)),
  Con Try.prog 113 0 [] [.p (.seq true 1 w.1 (fun i_1 => [.int .i64 (w.2 i_1)])), .p (.int .i64 ((g i).1))] [] (.p (.bool a)),
  (AG a),
  ((a = true) → ((0 : Nat) < 1)),
  (AG a),
  (AG a),
  ((a = true) → ((0 : Int) ≤ (↑i : Int))),
  ((a = true) → (((↑i : Int) : Int) < (↑nb : Int))),
  (AG a),
  (AG a),
  (AG a),
  (AG a),
  ((a = true) → Con Try.prog 113 0 [] [.p (.seq true 1 w.1 (fun i_1 => [.int .i64 (w.2 i_1)])), .p (.int .i64 ((g i).2.1))] [] (.p (.bool b))),
  (AG a),
  ((bif a then b else false) = false),
  (((-9223372036854775808) : Int) ≤ ((↑i : Int) + 1)),
  ((((↑i : Int) + 1) : Int) ≤ 9223372036854775807),
  (AI ((↑N : Int))),
  (AN nb),
  (AP nb (fun i_1 => [.int .i64 ((g i_1).1), .int .i64 ((g i_1).2.1)])),
  (AN w.1),
  (AP w.1 (fun i_1 => [.int .i64 (w.2 i_1)])),
  (AN 0),
  (AN 0),
  (AN c),
  ((((↑i : Int) + 1) : Int) = (↑(i + 1) : Int)),
  (AN 2),
  ((1 : Nat) ≤ 1),
  ((1 : Nat) ≤ 1),
  (AI ((↑N : Int))),
  (AN nb),
  (AP nb (fun i_1 => [.int .i64 ((g i_1).1), .int .i64 ((g i_1).2.1)])),
  (AN 1),
  ((c : Nat) ≤ c),
  (AA c (fun i_1 => [.p (.int .i64 (f i_1))]))]) := by kernel_rfl
theorem wPe (g : Nat → T_Bar) (nb N : Nat) (w : T_IntS) (i c : Nat) (f : Nat → Int) :
    pathOb Try.prog Try.f49 0 [.reg [oT, oT, oT, oT, oT], .dec false, .reg [oT, oT]] [.code (cAt (bodyOf Try.f49) [1, 1, 0, 1, 0, 0]), .inLoop (cAt (bodyOf Try.f49) [1, 1, 0, 1, 0, 0]), .inBlock 0, .code (cAt (bodyOf Try.f49) [1, 1, 1])] (CSp g nb N w i c f) [1] 1 [(0, iOb c f)] (.ar 1 0 0 c) =
    some [((0 : Nat) < 1),
  ((decide ((↑i : Int) < (↑nb : Int))) = false),
  (AN 0),
  (AN c),
  (AN 1),
  ((c : Nat) ≤ c),
  (AA c (fun i_1 => [.p (.int .i64 (f i_1))])),
  (AE c)] := by kernel_rfl
theorem wOz (g : Nat → T_Bar) (nb N k l : Nat) :
    pieceOb Try.prog 0 [.reg [oT, oT, oT], .reg [oT, ⟨true, (some ⟨[], [], [], 1, [], .p (.bool true)⟩), none⟩, oT, oT, oT, oT, ⟨true, (some ⟨[], [], [], 1, [], .p (.bool true)⟩), none⟩, oT, oT], .dec false, .reg [oT], .head] [.code (bodyOf Try.f71)] (start Try.f71 [] 0 [grG g nb N, .p (.int .i64 k), .p (.int .i64 l)]) [0] 1 (CO0 g nb N k l 1) =
    some ([.code (cAt (bodyOf Try.f71) [1, 1, 0, 1, 0, 0]), .inLoop (cAt (bodyOf Try.f71) [1, 1, 0, 1, 0, 0]), .inBlock 0, .code (cAt (bodyOf Try.f71) [1, 1, 1])], [((0 : Nat) < 1),
  Con Try.prog 101 0 [] [.agg [.p (.int .i64 (↑N : Int)), .p (.seq true 2 nb (fun i => [.int .i64 ((g i).1), .int .i64 ((g i).2.1)]))]] [] (.p (.bool true)),
  (AG (!!true)),
  (AG (!!true)),
  (((!!true) = true) → Con Try.prog 122 0 [] [.p (.int .i64 (↑k : Int)), .p (.int .i64 (↑l : Int))] [] (.p (.bool true))),
  (AG (!!true)),
  (((!true) = false) → ((!!true) = true)),
  ((bif !true then true else !true) = false),
  (AI ((↑N : Int))),
  (AN nb),
  (AP nb (fun i => [.int .i64 ((g i).1), .int .i64 ((g i).2.1)])),
  (AI ((↑k : Int))),
  (AI ((↑l : Int))),
  (AN 0),
  ((1 : Int) = (↑1 : Int)),
  ((([AV.p (PV.int IntKind.i64 (↑N : Int)), brL g nb].length) : Nat) = 2),
  ((1 : Nat) ≤ 1),
  ((1 : Nat) ≤ 1),
  (AI ((↑N : Int))),
  (AN nb),
  (AP nb (fun i => [.int .i64 ((g i).1), .int .i64 ((g i).2.1)]))]) := by kernel_rfl
theorem wOa (g : Nat → T_Bar) (nb N k l w : Nat) :
    pieceOb Try.prog 0 [.reg [oT, oT, oT, oT, oT], .dec true, .reg [oT, oT], .reg [oT, oT, oT], .head] [.code (cAt (bodyOf Try.f71) [1, 1, 0, 1, 0, 0]), .inLoop (cAt (bodyOf Try.f71) [1, 1, 0, 1, 0, 0]), .inBlock 0, .code (cAt (bodyOf Try.f71) [1, 1, 1])] (CO0 g nb N k l w) [0] 1 (CO1 g nb N k l w 0 0) =
    some ([.code (cAt (bodyOf Try.f71) [1, 1, 0, 1, 0, 0, 1, 0, 0, 1, 0, 1, 0, 0]), .inLoop (cAt (bodyOf Try.f71) [1, 1, 0, 1, 0, 0, 1, 0, 0, 1, 0, 1, 0, 0]), .inBlock 2, .code (cAt (bodyOf Try.f71) [1, 1, 0, 1, 0, 0, 1, 0, 0, 1, 1]), .inBlock 1, .code (cAt (bodyOf Try.f71) [1, 1, 0, 1, 0, 0, 1, 1]), .inLoop (cAt (bodyOf Try.f71) [1, 1, 0, 1, 0, 0]), .inBlock 0, .code (cAt (bodyOf Try.f71) [1, 1, 1])], [((0 : Nat) < 1),
  ((0 : Int) ≤ (↑N : Int)),
  ((decide ((↑w : Int) < shlI IntKind.i64 1 (↑N : Int))) = true),
  ((0 : Nat) < 1),
  (AI ((↑N : Int))),
  (AN nb),
  (AP nb (fun i => [.int .i64 ((g i).1), .int .i64 ((g i).2.1)])),
  (AI ((↑k : Int))),
  (AI ((↑l : Int))),
  (AN 0),
  (AI ((↑w : Int))),
  (AI 0),
  (AI 0),
  (AI ((↑N : Int))),
  ((0 : Int) = (↑0 : Int)),
  (AN 2),
  ((1 : Nat) ≤ 1),
  ((1 : Nat) ≤ 1),
  (AI ((↑N : Int))),
  (AN nb),
  (AP nb (fun i => [.int .i64 ((g i).1), .int .i64 ((g i).2.1)]))]) := by kernel_rfl
theorem wOe (g : Nat → T_Bar) (nb N k l w : Nat) :
    pathOb Try.prog Try.f71 0 [.reg [oT, oT, oT, oT, oT], .dec false, .reg [oT, oT, oT]] [.code (cAt (bodyOf Try.f71) [1, 1, 0, 1, 0, 0]), .inLoop (cAt (bodyOf Try.f71) [1, 1, 0, 1, 0, 0]), .inBlock 0, .code (cAt (bodyOf Try.f71) [1, 1, 1])] (CO0 g nb N k l w) [161] 1 [(0, iOb 0 (fun _ => 0))] (.tup [.ar 1 0 0 0, .p (.bool false)]) =
    some [((0 : Nat) < 1),
  ((0 : Int) ≤ (↑N : Int)),
  ((decide ((↑w : Int) < shlI IntKind.i64 1 (↑N : Int))) = false),
  (AN 0),
  (AN 0),
  (false = false),
  (AN 1),
  ((0 : Nat) ≤ 0),
  (∀ i : Nat, (((i : Nat) < 0) → (All [] ∧ (([.p .any] : List AV) = [.p (.int .i64 0)])))),
  (AE 0)] := by kernel_rfl
theorem wOb (g : Nat → T_Bar) (nb N k l w : Nat) (s : Int) (v : Nat) :
    pieceOb Try.prog 0 [.reg [oT], .dec true, .reg [oT, oT], .reg [oT, oT, oT, oT, oT, oT, oT], .reg [oT, oT], .head] [.code (cAt (bodyOf Try.f71) [1, 1, 0, 1, 0, 0, 1, 0, 0, 1, 0, 1, 0, 0]), .inLoop (cAt (bodyOf Try.f71) [1, 1, 0, 1, 0, 0, 1, 0, 0, 1, 0, 1, 0, 0]), .inBlock 2, .code (cAt (bodyOf Try.f71) [1, 1, 0, 1, 0, 0, 1, 0, 0, 1, 1]), .inBlock 1, .code (cAt (bodyOf Try.f71) [1, 1, 0, 1, 0, 0, 1, 1]), .inLoop (cAt (bodyOf Try.f71) [1, 1, 0, 1, 0, 0]), .inBlock 0, .code (cAt (bodyOf Try.f71) [1, 1, 1])] (CO1 g nb N k l w s v) [0] 1 (CO1 g nb N k l w (s + bvI w v) (v + 1)) =
    some ([.code (cAt (bodyOf Try.f71) [1, 1, 0, 1, 0, 0, 1, 0, 0, 1, 0, 1, 0, 0]), .inLoop (cAt (bodyOf Try.f71) [1, 1, 0, 1, 0, 0, 1, 0, 0, 1, 0, 1, 0, 0]), .inBlock 2, .code (cAt (bodyOf Try.f71) [1, 1, 0, 1, 0, 0, 1, 0, 0, 1, 1]), .inBlock 1, .code (cAt (bodyOf Try.f71) [1, 1, 0, 1, 0, 0, 1, 1]), .inLoop (cAt (bodyOf Try.f71) [1, 1, 0, 1, 0, 0]), .inBlock 0, .code (cAt (bodyOf Try.f71) [1, 1, 1])], [((decide ((↑v : Int) < (↑N : Int))) = true),
  ((0 : Int) ≤ (↑v : Int)),
  (((-9223372036854775808) : Int) ≤ (s + bitI BinOp.and IntKind.i64 (shrI IntKind.i64 (↑w : Int) (↑v : Int)) 1)),
  (((s + bitI BinOp.and IntKind.i64 (shrI IntKind.i64 (↑w : Int) (↑v : Int)) 1) : Int) ≤ 9223372036854775807),
  (((-9223372036854775808) : Int) ≤ ((↑v : Int) + 1)),
  ((((↑v : Int) + 1) : Int) ≤ 9223372036854775807),
  (AI ((↑N : Int))),
  (AN nb),
  (AP nb (fun i => [.int .i64 ((g i).1), .int .i64 ((g i).2.1)])),
  (AI ((↑k : Int))),
  (AI ((↑l : Int))),
  (AN 0),
  (AI ((↑w : Int))),
  (((s + bitI BinOp.and IntKind.i64 (shrI IntKind.i64 (↑w : Int) (↑v : Int)) 1) : Int) = (s + bvI (↑w : Int) (↑v : Int))),
  (AI 0),
  (AI ((↑N : Int))),
  ((((↑v : Int) + 1) : Int) = (↑(v + 1) : Int)),
  (AN 2),
  ((1 : Nat) ≤ 1),
  ((1 : Nat) ≤ 1),
  (AI ((↑N : Int))),
  (AN nb),
  (AP nb (fun i => [.int .i64 ((g i).1), .int .i64 ((g i).2.1)]))]) := by kernel_rfl
theorem wOc (g : Nat → T_Bar) (nb N k l w : Nat) (s : Int) (v : Nat) :
    pieceOb Try.prog 0 [.reg [oT], .dec false, .reg [oT, oT, oT, oT], .head] [.code (cAt (bodyOf Try.f71) [1, 1, 0, 1, 0, 0, 1, 0, 0, 1, 0, 1, 0, 0]), .inLoop (cAt (bodyOf Try.f71) [1, 1, 0, 1, 0, 0, 1, 0, 0, 1, 0, 1, 0, 0]), .inBlock 2, .code (cAt (bodyOf Try.f71) [1, 1, 0, 1, 0, 0, 1, 0, 0, 1, 1]), .inBlock 1, .code (cAt (bodyOf Try.f71) [1, 1, 0, 1, 0, 0, 1, 1]), .inLoop (cAt (bodyOf Try.f71) [1, 1, 0, 1, 0, 0]), .inBlock 0, .code (cAt (bodyOf Try.f71) [1, 1, 1])] (CO1 g nb N k l w s v) [0] 1 (CO2 g nb N k l w s 0 0) =
    some ([.code (cAt (bodyOf Try.f71) [1, 1, 0, 1, 0, 0, 1, 0, 0, 1, 1, 0, 1, 0, 0]), .inLoop (cAt (bodyOf Try.f71) [1, 1, 0, 1, 0, 0, 1, 0, 0, 1, 1, 0, 1, 0, 0]), .inBlock 4, .code (cAt (bodyOf Try.f71) [1, 1, 0, 1, 0, 0, 1, 0, 0, 1, 1, 1]), .inBlock 1, .code (cAt (bodyOf Try.f71) [1, 1, 0, 1, 0, 0, 1, 1]), .inLoop (cAt (bodyOf Try.f71) [1, 1, 0, 1, 0, 0]), .inBlock 0, .code (cAt (bodyOf Try.f71) [1, 1, 1])], [((decide ((↑v : Int) < (↑N : Int))) = false),
  ((0 : Nat) < 1),
  (AI ((↑N : Int))),
  (AN nb),
  (AP nb (fun i => [.int .i64 ((g i).1), .int .i64 ((g i).2.1)])),
  (AI ((↑k : Int))),
  (AI ((↑l : Int))),
  (AN 0),
  (AI ((↑w : Int))),
  (AI s),
  (AI 0),
  (AN nb),
  (AP nb (fun i => [.int .i64 ((g i).1), .int .i64 ((g i).2.1)])),
  (AI ((↑nb : Int))),
  ((0 : Int) = (↑0 : Int)),
  (AN 2),
  ((1 : Nat) ≤ 1),
  ((1 : Nat) ≤ 1),
  (AI ((↑N : Int))),
  (AN nb),
  (AP nb (fun i => [.int .i64 ((g i).1), .int .i64 ((g i).2.1)]))]) := by kernel_rfl
theorem wOd (g : Nat → T_Bar) (nb N k l w : Nat) (s q : Int) (i : Nat) :
    pieceOb Try.prog 0 [.reg [oT], .dec true, .reg [oT, oT, oT, oT], .reg [oT, oT, oT, oT, oT, oT, oT, oT, oT, oT, oT, oT, oT], .reg [oT, oT], .head] [.code (cAt (bodyOf Try.f71) [1, 1, 0, 1, 0, 0, 1, 0, 0, 1, 1, 0, 1, 0, 0]), .inLoop (cAt (bodyOf Try.f71) [1, 1, 0, 1, 0, 0, 1, 0, 0, 1, 1, 0, 1, 0, 0]), .inBlock 4, .code (cAt (bodyOf Try.f71) [1, 1, 0, 1, 0, 0, 1, 0, 0, 1, 1, 1]), .inBlock 1, .code (cAt (bodyOf Try.f71) [1, 1, 0, 1, 0, 0, 1, 1]), .inLoop (cAt (bodyOf Try.f71) [1, 1, 0, 1, 0, 0]), .inBlock 0, .code (cAt (bodyOf Try.f71) [1, 1, 1])] (CO2 g nb N k l w s q i) [0] 1 (CO2 g nb N k l w s (q + bwI w (g i).1 (g i).2.1) (i + 1)) =
    some ([.code (cAt (bodyOf Try.f71) [1, 1, 0, 1, 0, 0, 1, 0, 0, 1, 1, 0, 1, 0, 0]), .inLoop (cAt (bodyOf Try.f71) [1, 1, 0, 1, 0, 0, 1, 0, 0, 1, 1, 0, 1, 0, 0]), .inBlock 4, .code (cAt (bodyOf Try.f71) [1, 1, 0, 1, 0, 0, 1, 0, 0, 1, 1, 1]), .inBlock 1, .code (cAt (bodyOf Try.f71) [1, 1, 0, 1, 0, 0, 1, 1]), .inLoop (cAt (bodyOf Try.f71) [1, 1, 0, 1, 0, 0]), .inBlock 0, .code (cAt (bodyOf Try.f71) [1, 1, 1])], [((decide ((↑i : Int) < (↑nb : Int))) = true),
  ((0 : Int) ≤ (↑i : Int)),
  (((↑i : Int) : Int) < (↑nb : Int)),
  ((0 : Nat) < 1),
  ((true = true) → (AN 1)),
  ((0 : Nat) < 1),
  ((0 : Int) ≤ ((g i).1)),
  ((0 : Nat) < 1),
  ((0 : Int) ≤ ((g i).2.1)),
  (((-9223372036854775808) : Int) ≤ (q + bitI BinOp.and IntKind.i64 (bitI BinOp.and IntKind.i64 (shrI IntKind.i64 (↑w : Int) (g i).1) (shrI IntKind.i64 (↑w : Int) (g i).2.1)) 1)),
  (((q + bitI BinOp.and IntKind.i64 (bitI BinOp.and IntKind.i64 (shrI IntKind.i64 (↑w : Int) (g i).1) (shrI IntKind.i64 (↑w : Int) (g i).2.1)) 1) : Int) ≤ 9223372036854775807),
  (((-9223372036854775808) : Int) ≤ ((↑i : Int) + 1)),
  ((((↑i : Int) + 1) : Int) ≤ 9223372036854775807),
  (AI ((↑N : Int))),
  (AN nb),
  (AP nb (fun i_1 => [.int .i64 ((g i_1).1), .int .i64 ((g i_1).2.1)])),
  (AI ((↑k : Int))),
  (AI ((↑l : Int))),
  (AN 0),
  (AI ((↑w : Int))),
  (AI s),
  (((q + bitI BinOp.and IntKind.i64 (bitI BinOp.and IntKind.i64 (shrI IntKind.i64 (↑w : Int) (g i).1) (shrI IntKind.i64 (↑w : Int) (g i).2.1)) 1) : Int) = (q + bwI (↑w : Int) (g i).1 (g i).2.1)),
  (AN nb),
  (AP nb (fun i_1 => [.int .i64 ((g i_1).1), .int .i64 ((g i_1).2.1)])),
  (AI ((↑nb : Int))),
  ((((↑i : Int) + 1) : Int) = (↑(i + 1) : Int)),
  (AN 2),
  ((1 : Nat) ≤ 1),
  ((1 : Nat) ≤ 1),
  (AI ((↑N : Int))),
  (AN nb),
  (AP nb (fun i_1 => [.int .i64 ((g i_1).1), .int .i64 ((g i_1).2.1)]))]) := by kernel_rfl
theorem wOt (g : Nat → T_Bar) (nb N k l w : Nat) (s q : Int) (i c : Nat) (f : Nat → Int) :
    pathOb Try.prog Try.f71 0 [.reg [oT], .dec false, .reg [oT, oT, oT, oT, oT, oT, oT, oT, oT, oT, oT], .dec true, .reg [oT, oT, oT, ⟨true, (some ⟨[], [], [], 1, [(0, iOb c f)], .ar 1 0 0 c⟩), none⟩, oT, oT]] [.code (cAt (bodyOf Try.f71) [1, 1, 0, 1, 0, 0, 1, 0, 0, 1, 1, 0, 1, 0, 0]), .inLoop (cAt (bodyOf Try.f71) [1, 1, 0, 1, 0, 0, 1, 0, 0, 1, 1, 0, 1, 0, 0]), .inBlock 4, .code (cAt (bodyOf Try.f71) [1, 1, 0, 1, 0, 0, 1, 0, 0, 1, 1, 1]), .inBlock 1, .code (cAt (bodyOf Try.f71) [1, 1, 0, 1, 0, 0, 1, 1]), .inLoop (cAt (bodyOf Try.f71) [1, 1, 0, 1, 0, 0]), .inBlock 0, .code (cAt (bodyOf Try.f71) [1, 1, 1])] (CO2 g nb N k l w s q i) [481] 1 [(0, iOb c f)] (.tup [.ar 1 0 0 c, .p (.bool true)]) =
    some [((decide ((↑i : Int) < (↑nb : Int))) = false),
  (AG (decide (q > 0))),
  (AG (decide (q > 0))),
  (((decide (q > 0)) = true) → (((-9223372036854775808) : Int) ≤ ((↑k : Int) * s))),
  (((decide (q > 0)) = true) → ((((↑k : Int) * s) : Int) ≤ 9223372036854775807)),
  (AG (decide (q > 0))),
  (AG (decide (q > 0))),
  (((decide (q > 0)) = true) → (((-9223372036854775808) : Int) ≤ ((↑k : Int) * s - (↑l : Int)))),
  (((decide (q > 0)) = true) → ((((↑k : Int) * s - (↑l : Int)) : Int) ≤ 9223372036854775807)),
  (AG (decide (q > 0))),
  (AG (decide (q > 0))),
  (AG (decide (q > 0))),
  ((bif decide (q > 0) then decide (q > (↑k : Int) * s - (↑l : Int)) else false) = true),
  ((0 : Nat) < 1),
  Con Try.prog 42 0 [] [.p (.int .i64 (↑w : Int)), .p (.int .i64 (↑N : Int))] [(0, ⟨false, 1, c, (fun i_1 => [.p (.int .i64 (f i_1))])⟩)] (.ar 1 0 0 c),
  (AN 0),
  (AN c),
  (true = true),
  (AN 1),
  ((c : Nat) ≤ c),
  (AA c (fun i_1 => [.p (.int .i64 (f i_1))])),
  (AE c)] := by kernel_rfl
theorem wOf (g : Nat → T_Bar) (nb N k l w : Nat) (s q : Int) (i : Nat) :
    pieceOb Try.prog 0 [.reg [oT], .dec false, .reg [oT, oT, oT, oT, oT, oT, oT, oT, oT, oT, oT], .dec false, .reg [oT, oT, oT], .head] [.code (cAt (bodyOf Try.f71) [1, 1, 0, 1, 0, 0, 1, 0, 0, 1, 1, 0, 1, 0, 0]), .inLoop (cAt (bodyOf Try.f71) [1, 1, 0, 1, 0, 0, 1, 0, 0, 1, 1, 0, 1, 0, 0]), .inBlock 4, .code (cAt (bodyOf Try.f71) [1, 1, 0, 1, 0, 0, 1, 0, 0, 1, 1, 1]), .inBlock 1, .code (cAt (bodyOf Try.f71) [1, 1, 0, 1, 0, 0, 1, 1]), .inLoop (cAt (bodyOf Try.f71) [1, 1, 0, 1, 0, 0]), .inBlock 0, .code (cAt (bodyOf Try.f71) [1, 1, 1])] (CO2 g nb N k l w s q i) [0] 1 (CO0 g nb N k l (w + 1)) =
    some ([.code (cAt (bodyOf Try.f71) [1, 1, 0, 1, 0, 0]), .inLoop (cAt (bodyOf Try.f71) [1, 1, 0, 1, 0, 0]), .inBlock 0, .code (cAt (bodyOf Try.f71) [1, 1, 1])], [((decide ((↑i : Int) < (↑nb : Int))) = false),
  (AG (decide (q > 0))),
  (AG (decide (q > 0))),
  (((decide (q > 0)) = true) → (((-9223372036854775808) : Int) ≤ ((↑k : Int) * s))),
  (((decide (q > 0)) = true) → ((((↑k : Int) * s) : Int) ≤ 9223372036854775807)),
  (AG (decide (q > 0))),
  (AG (decide (q > 0))),
  (((decide (q > 0)) = true) → (((-9223372036854775808) : Int) ≤ ((↑k : Int) * s - (↑l : Int)))),
  (((decide (q > 0)) = true) → ((((↑k : Int) * s - (↑l : Int)) : Int) ≤ 9223372036854775807)),
  (AG (decide (q > 0))),
  (AG (decide (q > 0))),
  (AG (decide (q > 0))),
  ((bif decide (q > 0) then decide (q > (↑k : Int) * s - (↑l : Int)) else false) = false),
  (((-9223372036854775808) : Int) ≤ ((↑w : Int) + 1)),
  ((((↑w : Int) + 1) : Int) ≤ 9223372036854775807),
  (AI ((↑N : Int))),
  (AN nb),
  (AP nb (fun i_1 => [.int .i64 ((g i_1).1), .int .i64 ((g i_1).2.1)])),
  (AI ((↑k : Int))),
  (AI ((↑l : Int))),
  (AN 0),
  ((((↑w : Int) + 1) : Int) = (↑(w + 1) : Int)),
  (AN 2),
  ((1 : Nat) ≤ 1),
  ((1 : Nat) ≤ 1),
  (AI ((↑N : Int))),
  (AN nb),
  (AP nb (fun i_1 => [.int .i64 ((g i_1).1), .int .i64 ((g i_1).2.1)]))]) := by kernel_rfl
theorem wQz (g : Nat → T_Bar) (nb N k l : Nat) :
    pieceOb Try.prog 0 [.reg [oT, oT, oT], .reg [oT, ⟨true, (some ⟨[], [], [], 1, [], .p (.bool true)⟩), none⟩, oT, oT, oT, oT, ⟨true, (some ⟨[], [], [], 1, [], .p (.bool true)⟩), none⟩, oT, oT], .dec false, .reg [oT], .head] [.code (bodyOf Try.f62)] (start Try.f62 [] 0 [grG g nb N, .p (.int .i64 k), .p (.int .i64 l)]) [0] 1 (CQ0 g nb N k l 1) =
    some ([.code (cAt (bodyOf Try.f62) [1, 1, 0, 1, 0, 0]), .inLoop (cAt (bodyOf Try.f62) [1, 1, 0, 1, 0, 0]), .inBlock 0, .code (cAt (bodyOf Try.f62) [1, 1, 1])], [((0 : Nat) < 1),
  Con Try.prog 110 0 [] [.agg [.p (.int .i64 (↑N : Int)), .p (.seq true 2 nb (fun i => [.int .i64 ((g i).1), .int .i64 ((g i).2.1)]))]] [] (.p (.bool true)),
  (AG (!!true)),
  (AG (!!true)),
  (((!!true) = true) → Con Try.prog 119 0 [] [.p (.int .i64 (↑k : Int)), .p (.int .i64 (↑l : Int))] [] (.p (.bool true))),
  (AG (!!true)),
  (((!true) = false) → ((!!true) = true)),
  ((bif !true then true else !true) = false),
  (AI ((↑N : Int))),
  (AN nb),
  (AP nb (fun i => [.int .i64 ((g i).1), .int .i64 ((g i).2.1)])),
  (AI ((↑k : Int))),
  (AI ((↑l : Int))),
  (AN 0),
  ((1 : Int) = (↑1 : Int)),
  ((([AV.p (PV.int IntKind.i64 (↑N : Int)), brL g nb].length) : Nat) = 2),
  ((1 : Nat) ≤ 1),
  ((1 : Nat) ≤ 1),
  (AI ((↑N : Int))),
  (AN nb),
  (AP nb (fun i => [.int .i64 ((g i).1), .int .i64 ((g i).2.1)]))]) := by kernel_rfl
theorem wQt (g : Nat → T_Bar) (nb N k l w c d : Nat) (f f2 : Nat → Int) :
    pathOb Try.prog Try.f62 0 [.reg [oT, oT, oT, oT, oT], .dec true, .reg [oT, oT, oT, ⟨true, (some ⟨[], [], [], 1, [(0, iOb c f)], .ar 1 0 0 c⟩), none⟩, oT], .reg [oT, oT, ⟨true, (some ⟨[], [], [], 1, [(0, iOb d f2)], .ar 1 0 0 d⟩), none⟩, oT, oT], .reg [oT, oT, oT, oT, oT, oT, oT, oT, oT, oT, oT, oT], .dec true, .reg [oT, oT, oT]] [.code (cAt (bodyOf Try.f62) [1, 1, 0, 1, 0, 0]), .inLoop (cAt (bodyOf Try.f62) [1, 1, 0, 1, 0, 0]), .inBlock 0, .code (cAt (bodyOf Try.f62) [1, 1, 1])] (CQ0 g nb N k l w) [257] 1 [(0, iOb c f)] (.tup [.ar 1 0 0 c, .p (.bool true)]) =
    some [((0 : Nat) < 1),
  ((0 : Int) ≤ (↑N : Int)),
  ((decide ((↑w : Int) < shlI IntKind.i64 1 (↑N : Int))) = true),
  ((0 : Nat) < 1),
  Con Try.prog 76 0 [] [.p (.int .i64 (↑N : Int)), .p (.int .i64 (↑w : Int))] [(0, ⟨false, 1, c, (fun i => [.p (.int .i64 (f i))])⟩)] (.ar 1 0 0 c),
  ((0 : Nat) < 1),
  (AN 1),
  ((c : Nat) ≤ c),
  Con Try.prog 49 0 [] [.agg [.p (.int .i64 (↑N : Int)), .p (.seq true 2 nb (fun i => [.int .i64 ((g i).1), .int .i64 ((g i).2.1)]))], .p (.seq true 1 c (fun i => [.int .i64 (f i)]))] [(0, ⟨false, 1, d, (fun i => [.p (.int .i64 (f2 i))])⟩)] (.ar 1 0 0 d),
  (AG (decide ((↑d : Int) > 0))),
  (AG (decide ((↑d : Int) > 0))),
  (AG (decide ((↑d : Int) > 0))),
  (((decide ((↑d : Int) > 0)) = true) → (((-9223372036854775808) : Int) ≤ ((↑k : Int) * (↑c : Int)))),
  (((decide ((↑d : Int) > 0)) = true) → ((((↑k : Int) * (↑c : Int)) : Int) ≤ 9223372036854775807)),
  (AG (decide ((↑d : Int) > 0))),
  (AG (decide ((↑d : Int) > 0))),
  (((decide ((↑d : Int) > 0)) = true) → (((-9223372036854775808) : Int) ≤ ((↑k : Int) * (↑c : Int) - (↑l : Int)))),
  (((decide ((↑d : Int) > 0)) = true) → ((((↑k : Int) * (↑c : Int) - (↑l : Int)) : Int) ≤ 9223372036854775807)),
  (AG (decide ((↑d : Int) > 0))),
  (AG (decide ((↑d : Int) > 0))),
  (AG (decide ((↑d : Int) > 0))),
  ((bif decide ((↑d : Int) > 0) then decide ((↑d : Int) > (↑k : Int) * (↑c : Int) - (↑l : Int)) else false) = true),
  (AN 0),
  (AN c),
  (true = true),
  (AN 1),
  ((c : Nat) ≤ c),
  (AA c (fun i => [.p (.int .i64 (f i))])),
  (AE c)] := by kernel_rfl
theorem wQf (g : Nat → T_Bar) (nb N k l w c d : Nat) (f f2 : Nat → Int) :
    pieceOb Try.prog 0 [.reg [oT, oT, oT, oT, oT], .dec true, .reg [oT, oT, oT, ⟨true, (some ⟨[], [], [], 1, [(0, iOb c f)], .ar 1 0 0 c⟩), none⟩, oT], .reg [oT, oT, ⟨true, (some ⟨[], [], [], 1, [(0, iOb d f2)], .ar 1 0 0 d⟩), none⟩, oT, oT], .reg [oT, oT, oT, oT, oT, oT, oT, oT, oT, oT, oT, oT], .dec false, .reg [oT, oT, oT], .head] [.code (cAt (bodyOf Try.f62) [1, 1, 0, 1, 0, 0]), .inLoop (cAt (bodyOf Try.f62) [1, 1, 0, 1, 0, 0]), .inBlock 0, .code (cAt (bodyOf Try.f62) [1, 1, 1])] (CQ0 g nb N k l w) [0] 1 (CQ0 g nb N k l (w + 1)) =
    some ([.code (cAt (bodyOf Try.f62) [1, 1, 0, 1, 0, 0]), .inLoop (cAt (bodyOf Try.f62) [1, 1, 0, 1, 0, 0]), .inBlock 0, .code (cAt (bodyOf Try.f62) [1, 1, 1])], [((0 : Nat) < 1),
  ((0 : Int) ≤ (↑N : Int)),
  ((decide ((↑w : Int) < shlI IntKind.i64 1 (↑N : Int))) = true),
  ((0 : Nat) < 1),
  Con Try.prog 76 0 [] [.p (.int .i64 (↑N : Int)), .p (.int .i64 (↑w : Int))] [(0, ⟨false, 1, c, (fun i => [.p (.int .i64 (f i))])⟩)] (.ar 1 0 0 c),
  ((0 : Nat) < 1),
  (AN 1),
  ((c : Nat) ≤ c),
  Con Try.prog 49 0 [] [.agg [.p (.int .i64 (↑N : Int)), .p (.seq true 2 nb (fun i => [.int .i64 ((g i).1), .int .i64 ((g i).2.1)]))], .p (.seq true 1 c (fun i => [.int .i64 (f i)]))] [(0, ⟨false, 1, d, (fun i => [.p (.int .i64 (f2 i))])⟩)] (.ar 1 0 0 d),
  (AG (decide ((↑d : Int) > 0))),
  (AG (decide ((↑d : Int) > 0))),
  (AG (decide ((↑d : Int) > 0))),
  (((decide ((↑d : Int) > 0)) = true) → (((-9223372036854775808) : Int) ≤ ((↑k : Int) * (↑c : Int)))),
  (((decide ((↑d : Int) > 0)) = true) → ((((↑k : Int) * (↑c : Int)) : Int) ≤ 9223372036854775807)),
  (AG (decide ((↑d : Int) > 0))),
  (AG (decide ((↑d : Int) > 0))),
  (((decide ((↑d : Int) > 0)) = true) → (((-9223372036854775808) : Int) ≤ ((↑k : Int) * (↑c : Int) - (↑l : Int)))),
  (((decide ((↑d : Int) > 0)) = true) → ((((↑k : Int) * (↑c : Int) - (↑l : Int)) : Int) ≤ 9223372036854775807)),
  (AG (decide ((↑d : Int) > 0))),
  (AG (decide ((↑d : Int) > 0))),
  (AG (decide ((↑d : Int) > 0))),
  ((bif decide ((↑d : Int) > 0) then decide ((↑d : Int) > (↑k : Int) * (↑c : Int) - (↑l : Int)) else false) = false),
  (((-9223372036854775808) : Int) ≤ ((↑w : Int) + 1)),
  ((((↑w : Int) + 1) : Int) ≤ 9223372036854775807),
  (AI ((↑N : Int))),
  (AN nb),
  (AP nb (fun i => [.int .i64 ((g i).1), .int .i64 ((g i).2.1)])),
  (AI ((↑k : Int))),
  (AI ((↑l : Int))),
  (AN 0),
  ((((↑w : Int) + 1) : Int) = (↑(w + 1) : Int)),
  (AN 2),
  ((1 : Nat) ≤ 1),
  ((1 : Nat) ≤ 1),
  (AI ((↑N : Int))),
  (AN nb),
  (AP nb (fun i => [.int .i64 ((g i).1), .int .i64 ((g i).2.1)]))]) := by kernel_rfl
theorem wQe (g : Nat → T_Bar) (nb N k l w : Nat) :
    pathOb Try.prog Try.f62 0 [.reg [oT, oT, oT, oT, oT], .dec false, .reg [oT, oT, oT]] [.code (cAt (bodyOf Try.f62) [1, 1, 0, 1, 0, 0]), .inLoop (cAt (bodyOf Try.f62) [1, 1, 0, 1, 0, 0]), .inBlock 0, .code (cAt (bodyOf Try.f62) [1, 1, 1])] (CQ0 g nb N k l w) [161] 1 [(0, iOb 0 (fun _ => 0))] (.tup [.ar 1 0 0 0, .p (.bool false)]) =
    some [((0 : Nat) < 1),
  ((0 : Int) ≤ (↑N : Int)),
  ((decide ((↑w : Int) < shlI IntKind.i64 1 (↑N : Int))) = false),
  (AN 0),
  (AN 0),
  (false = false),
  (AN 1),
  ((0 : Nat) ≤ 0),
  (∀ i : Nat, (((i : Nat) < 0) → (All [] ∧ (([.p .any] : List AV) = [.p (.int .i64 0)])))),
  (AE 0)] := by kernel_rfl
theorem wSi (g : Nat → T_Bar) (nb N k l c : Nat) (f : Nat → Int) (d : Bool) :
    pathOb Try.prog Try.f69 0 [.reg [oT, oT], .reg [oT, oT, oT, ⟨true, (some ⟨[], [], [], 1, [(0, iOb c f)], .tup [.ar 1 0 0 c, .p (.bool d)]⟩), none⟩, oT, oT, oT, oT, oT], .reg [oT, ⟨true, (some ⟨[], [], [], 1, [], .p (.bool true)⟩), none⟩, oT, oT, oT, ⟨true, (some ⟨[], [], [], 1, [], .p (.bool true)⟩), none⟩, oT, oT, oT, oT, oT, oT]] [.code (bodyOf Try.f69)] (start Try.f69 [] 0 [grG g nb N, .p (.int .i64 k), .p (.int .i64 l)]) [] 1 [] (.p (.bool (!d))) =
    some [((0 : Nat) < 1),
  Con Try.prog 71 0 [] [.agg [.p (.int .i64 (↑N : Int)), .p (.seq true 2 nb (fun i => [.int .i64 ((g i).1), .int .i64 ((g i).2.1)]))], .p (.int .i64 (↑k : Int)), .p (.int .i64 (↑l : Int))] [(0, ⟨false, 1, c, (fun i => [.p (.int .i64 (f i))])⟩)] (.tup [.ar 1 0 0 c, .p (.bool d)]),
  ((0 : Nat) < 1),
  Con Try.prog 101 0 [] [.agg [.p (.int .i64 (↑N : Int)), .p (.seq true 2 nb (fun i => [.int .i64 ((g i).1), .int .i64 ((g i).2.1)]))]] [] (.p (.bool true)),
  (AG true),
  (AG true),
  ((true = true) → Con Try.prog 122 0 [] [.p (.int .i64 (↑k : Int)), .p (.int .i64 (↑l : Int))] [] (.p (.bool true))),
  (AG true),
  (AG (bif true then true else false)),
  (AG (bif true then true else false)),
  ((bif bif true then true else false then !d else false) = (!d))] := by kernel_rfl
theorem wSs (g : Nat → T_Bar) (nb N k l c : Nat) (f : Nat → Int) (d : Bool) :
    pathOb Try.prog Try.f60 0 [.reg [oT, oT], .reg [oT, oT, oT, ⟨true, (some ⟨[], [], [], 1, [(0, iOb c f)], .tup [.ar 1 0 0 c, .p (.bool d)]⟩), none⟩, oT, oT, oT, oT, oT], .reg [oT, ⟨true, (some ⟨[], [], [], 1, [], .p (.bool true)⟩), none⟩, oT, oT, oT, ⟨true, (some ⟨[], [], [], 1, [], .p (.bool true)⟩), none⟩, oT, oT, oT, oT, oT, oT]] [.code (bodyOf Try.f60)] (start Try.f60 [] 0 [grG g nb N, .p (.int .i64 k), .p (.int .i64 l)]) [] 1 [] (.p (.bool (!d))) =
    some [((0 : Nat) < 1),
  Con Try.prog 62 0 [] [.agg [.p (.int .i64 (↑N : Int)), .p (.seq true 2 nb (fun i => [.int .i64 ((g i).1), .int .i64 ((g i).2.1)]))], .p (.int .i64 (↑k : Int)), .p (.int .i64 (↑l : Int))] [(0, ⟨false, 1, c, (fun i => [.p (.int .i64 (f i))])⟩)] (.tup [.ar 1 0 0 c, .p (.bool d)]),
  ((0 : Nat) < 1),
  Con Try.prog 110 0 [] [.agg [.p (.int .i64 (↑N : Int)), .p (.seq true 2 nb (fun i => [.int .i64 ((g i).1), .int .i64 ((g i).2.1)]))]] [] (.p (.bool true)),
  (AG true),
  (AG true),
  ((true = true) → Con Try.prog 119 0 [] [.p (.int .i64 (↑k : Int)), .p (.int .i64 (↑l : Int))] [] (.p (.bool true))),
  (AG true),
  (AG (bif true then true else false)),
  (AG (bif true then true else false)),
  ((bif bif true then true else false then !d else false) = (!d))] := by kernel_rfl
theorem wTi (g : Nat → T_Bar) (nb N k l : Nat) (d : Bool) :
    pathOb Try.prog Try.f70 0 [.reg [oT, oT], .reg [oT, oT, oT, ⟨true, (some ⟨[], [], [], 1, [], .p (.bool d)⟩), none⟩, oT, oT, oT, oT, oT, oT, oT, oT, oT, oT, oT, oT, oT, oT]] [.code (bodyOf Try.f70)] (start Try.f70 [] 0 [grG g nb N, .p (.int .i64 k), .p (.int .i64 l)]) [] 1 [] (.p (.bool (bif d then (nb : Int) == max 0 ((k : Int) * N - l) else false))) =
    some [((0 : Nat) < 1),
  Con Try.prog 69 0 [] [.agg [.p (.int .i64 (↑N : Int)), .p (.seq true 2 nb (fun i => [.int .i64 ((g i).1), .int .i64 ((g i).2.1)]))], .p (.int .i64 (↑k : Int)), .p (.int .i64 (↑l : Int))] [] (.p (.bool d)),
  (AG d),
  ((d = true) → ((0 : Nat) < 1)),
  (AG d),
  (AG d),
  ((d = true) → ((0 : Nat) < 1)),
  (AG d),
  (AG d),
  ((d = true) → (((-9223372036854775808) : Int) ≤ ((↑k : Int) * (↑N : Int)))),
  ((d = true) → ((((↑k : Int) * (↑N : Int)) : Int) ≤ 9223372036854775807)),
  (AG d),
  (AG d),
  ((d = true) → (((-9223372036854775808) : Int) ≤ ((↑k : Int) * (↑N : Int) - (↑l : Int)))),
  ((d = true) → ((((↑k : Int) * (↑N : Int) - (↑l : Int)) : Int) ≤ 9223372036854775807)),
  (AG d),
  (AG d),
  (AG d),
  (AG d),
  ((bif d then (↑nb : Int) == if true = true then if (↑k : Int) * (↑N : Int) - (↑l : Int) > 0 then (↑k : Int) * (↑N : Int) - (↑l : Int) else 0 else if (↑k : Int) * (↑N : Int) - (↑l : Int) < 0 then (↑k : Int) * (↑N : Int) - (↑l : Int) else 0 else false) = (bif d then (↑nb : Int) == max 0 ((↑k : Int) * (↑N : Int) - (↑l : Int)) else false))] := by kernel_rfl
theorem wTs (g : Nat → T_Bar) (nb N k l : Nat) (d : Bool) :
    pathOb Try.prog Try.f61 0 [.reg [oT, oT], .reg [oT, oT, oT, ⟨true, (some ⟨[], [], [], 1, [], .p (.bool d)⟩), none⟩, oT, oT, oT, oT, oT, oT, oT, oT, oT, oT, oT, oT, oT, oT]] [.code (bodyOf Try.f61)] (start Try.f61 [] 0 [grG g nb N, .p (.int .i64 k), .p (.int .i64 l)]) [] 1 [] (.p (.bool (bif d then (nb : Int) == max 0 ((k : Int) * N - l) else false))) =
    some [((0 : Nat) < 1),
  Con Try.prog 60 0 [] [.agg [.p (.int .i64 (↑N : Int)), .p (.seq true 2 nb (fun i => [.int .i64 ((g i).1), .int .i64 ((g i).2.1)]))], .p (.int .i64 (↑k : Int)), .p (.int .i64 (↑l : Int))] [] (.p (.bool d)),
  (AG d),
  ((d = true) → ((0 : Nat) < 1)),
  (AG d),
  (AG d),
  ((d = true) → ((0 : Nat) < 1)),
  (AG d),
  (AG d),
  ((d = true) → (((-9223372036854775808) : Int) ≤ ((↑k : Int) * (↑N : Int)))),
  ((d = true) → ((((↑k : Int) * (↑N : Int)) : Int) ≤ 9223372036854775807)),
  (AG d),
  (AG d),
  ((d = true) → (((-9223372036854775808) : Int) ≤ ((↑k : Int) * (↑N : Int) - (↑l : Int)))),
  ((d = true) → ((((↑k : Int) * (↑N : Int) - (↑l : Int)) : Int) ≤ 9223372036854775807)),
  (AG d),
  (AG d),
  (AG d),
  (AG d),
  ((bif d then (↑nb : Int) == if true = true then if (↑k : Int) * (↑N : Int) - (↑l : Int) > 0 then (↑k : Int) * (↑N : Int) - (↑l : Int) else 0 else if (↑k : Int) * (↑N : Int) - (↑l : Int) < 0 then (↑k : Int) * (↑N : Int) - (↑l : Int) else 0 else false) = (bif d then (↑nb : Int) == max 0 ((↑k : Int) * (↑N : Int) - (↑l : Int)) else false))] := by kernel_rfl
end Go.Proofs.Ytffnfeefjdmifaa.Mach
namespace Go.Proofs.Ytffnfeefjdmifaa.Mach
open Go
set_option linter.unusedVariables false
set_option linter.unusedSimpArgs false
theorem and_nat (x y : Nat) (hx : x < 2 ^ 62) (hy : y < 2 ^ 62) : bitI .and .i64 (x : Int) (y : Int) = ((x &&& y : Nat) : Int) := by
  unfold bitI
  have e1 : (BitVec.ofInt IntKind.i64.bits (x : Int) &&& BitVec.ofInt IntKind.i64.bits (y : Int)).toNat = x &&& y := by
    rw [BitVec.toNat_and]
    show (BitVec.ofInt 64 (x : Int)).toNat &&& (BitVec.ofInt 64 (y : Int)).toNat = _
    rw [bv_nat, bv_nat, BitVec.toNat_ofNat, BitVec.toNat_ofNat, Nat.mod_eq_of_lt (by omega), Nat.mod_eq_of_lt (by omega)]
  simp only [e1]
  have : x &&& y ≤ x := Nat.and_le_left
  exact wrap_in (by simp only [imin]; omega) (by simp only [imax]; omega)
theorem and_one (x : Nat) (hx : x < 2 ^ 62) : bitI .and .i64 (x : Int) 1 = if x.testBit 0 then 1 else 0 := by
  rw [show (1 : Int) = ((1 : Nat) : Int) from rfl, and_nat x 1 hx (by omega), Nat.and_one_is_mod, Nat.testBit_zero]
  rcases Nat.mod_two_eq_zero_or_one x with h | h <;> simp [h]
theorem bvI_nat (m i : Nat) (hm : m < 2 ^ 62) (hi : i < 62) : bvI (m : Int) (i : Int) = if btI (m : Int) (i : Int) then 1 else 0 := by
  rw [bt_test m i hm hi]
  unfold bvI
  have := Nat.shiftRight_le m i
  rw [shr_nat m i hi, and_one _ (by omega), Nat.testBit_shiftRight]
  simp
theorem bwI_nat (m a b : Nat) (hm : m < 2 ^ 62) (ha : a < 62) (hb : b < 62) : bwI (m : Int) (a : Int) (b : Int) = if (btI (m : Int) (a : Int) && btI (m : Int) (b : Int)) then 1 else 0 := by
  rw [bt_test m a hm ha, bt_test m b hm hb]
  unfold bwI
  have h1 := Nat.shiftRight_le m a
  have h2 := Nat.shiftRight_le m b
  have h3 : (m >>> a) &&& (m >>> b) ≤ m >>> a := Nat.and_le_left
  rw [shr_nat m a ha, shr_nat m b hb, and_nat _ _ (by omega) (by omega), and_one _ (by omega), Nat.testBit_and, Nat.testBit_shiftRight, Nat.testBit_shiftRight]
  simp
def flt (p : Nat → Bool) : Nat → T_IntS
  | 0 => (0, fun _ => 0)
  | i + 1 => if p i = true then ((flt p i).1 + 1, fun s => if s < (flt p i).1 then (flt p i).2 s else i) else flt p i
theorem flt_n (p : Nat → Bool) : ∀ i, (flt p i).1 ≤ i
  | 0 => Nat.le_refl _
  | i + 1 => by
    have := flt_n p i
    simp only [flt]
    split
    · show (flt p i).1 + 1 ≤ i + 1; omega
    · omega
theorem flt_t {p : Nat → Bool} {i : Nat} (h : p i = true) : flt p (i + 1) = ((flt p i).1 + 1, fun s => if s < (flt p i).1 then (flt p i).2 s else i) := by simp [flt, h]
theorem flt_f {p : Nat → Bool} {i : Nat} (h : p i = false) : flt p (i + 1) = flt p i := by simp [flt, h]
theorem hasI_congr (f g : Nat → Int) (x : Int) : ∀ n, (∀ i, i < n → f i = g i) → hasI f x n = hasI g x n
  | 0, _ => rfl
  | n + 1, h => by simp only [hasI, hasI_congr f g x n (fun i hi => h i (by omega)), h n (by omega)]
theorem hasI_stD (w : Nat) (x : Int) : ∀ i, hasI (stD w i).2 x (stD w i).1 = (decide (0 ≤ x ∧ x < i) && btI w x)
  | 0 => by
    have : decide (0 ≤ x ∧ x < ((0 : Nat) : Int)) = false := decide_eq_false (by omega)
    rw [this]; rfl
  | i + 1 => by
    have ih := hasI_stD w x i
    by_cases hx : x = i
    · subst hx
      have h1 : decide (0 ≤ (i : Int) ∧ (i : Int) < (i : Int)) = false := decide_eq_false (by omega)
      have h2 : decide (0 ≤ (i : Int) ∧ (i : Int) < ((i + 1 : Nat) : Int)) = true := decide_eq_true (by omega)
      rw [h1] at ih
      rw [h2]
      cases hb : btI w i with
      | true =>
        rw [show stD w (i + 1) = ((stD w i).1 + 1, fun s => if s < (stD w i).1 then (stD w i).2 s else i) by simp [stD, hb]]
        simp [hasI]
      | false =>
        rw [show stD w (i + 1) = stD w i by simp [stD, hb]]
        rw [ih]; rfl
    · have h1 : decide (0 ≤ x ∧ x < ((i + 1 : Nat) : Int)) = decide (0 ≤ x ∧ x < (i : Int)) := by
        rw [decide_eq_decide]; omega
      rw [h1, ← ih]
      cases hb : btI w i with
      | true =>
        rw [show stD w (i + 1) = ((stD w i).1 + 1, fun s => if s < (stD w i).1 then (stD w i).2 s else i) by simp [stD, hb]]
        simp only [hasI, Nat.lt_irrefl, if_false]
        rw [show (((i : Nat) : Int) == x) = false from beq_eq_false_iff_ne.2 (fun h => hx h.symm), Bool.or_false]
        exact hasI_congr _ _ x _ (fun j hj => by simp only [hj, if_true])
      | false => rw [show stD w (i + 1) = stD w i by simp [stD, hb]]
theorem hasI_qL (Q : Nat → Int) (e : Nat) : ∀ m, NonN Q m → hasI Q (e : Int) m = decide (e ∈ qL Q m)
  | 0, _ => by simp [hasI, qL]
  | m + 1, h => by
    have h0 := h m (by omega)
    rw [hasI, hasI_qL Q e m (fun j hj => h j (by omega)), qL, Bool.eq_iff_iff]
    simp only [Bool.or_eq_true, decide_eq_true_eq, beq_iff_eq, List.mem_append, List.mem_singleton]
    constructor
    · rintro (h1 | h1)
      · exact .inl h1
      · right; omega
    · rintro (h1 | h1)
      · exact .inl h1
      · right; omega
def rgF (k l : Int) : Bool := bif inB k 1 3 then inB l 0 (2 * k - 1) else false
theorem rg_iff (k l : Int) : rgF k l = true ↔ (1 ≤ k ∧ k ≤ 3) ∧ 0 ≤ l ∧ l + 1 ≤ 2 * k := by
  unfold rgF
  cases h : inB k 1 3 with
  | false =>
    simp [inB] at h
    simp
    intro h1 h2
    exact absurd h2 (by have := h h1; omega)
  | true =>
    simp [inB] at h
    simp [inB]
    omega
theorem con_IsRange (k l : Int) : Con Try.prog 122 0 [] [.p (.int .i64 k), .p (.int .i64 l)] [] (.p (.bool (rgF k l))) ∧
    Con Try.prog 119 0 [] [.p (.int .i64 k), .p (.int .i64 l)] [] (.p (.bool (rgF k l))) := by
  have h3 : inB k 1 3 = true → 1 ≤ k ∧ k ≤ 3 := by intro h; simpa [inB] using h
  constructor
  · have h1 := con_within k 1 3
    have h2 := con_within l 0 (2 * k - 1)
    refine con_start Try.func122 rfl (by kernel_rfl) rfl (fun c hc => ?_)
    refine path_ok mixed Try.func122 hc (wRi k l) ?_
    simp only [All]
    repeat' (first | exact trivial | with_reducible apply And.intro)
    all_goals (first | exact aG _ | exact aP _ _ | exact aA _ _ | exact aE _ | omega | rfl | (intros; first | assumption | exact True.intro | rfl | exact absurd (show false = true by assumption) Bool.false_ne_true | ((repeat' (first | assumption | apply anda | apply notf)); done)) | (exact h1) | (intro _; exact h2) | (intro h; have := h3 h; omega))
  · have h1 := con_l1In k 1 3
    have h4 : (bif inB k 1 3 then decide (l ≥ 0) else false) = true → 1 ≤ k ∧ k ≤ 3 := by
      intro h
      cases hb : inB k 1 3 with
      | false => rw [hb] at h; cases h
      | true => exact h3 hb
    have e : rgF k l = (bif bif inB k 1 3 then decide (l ≥ 0) else false then decide (l < 2 * k) else false) := by
      unfold rgF inB
      cases h : decide (1 ≤ k) && decide (k ≤ 3) with
      | false => rfl
      | true =>
        simp only [cond_true]
        rw [Bool.eq_iff_iff]
        simp only [Bool.and_eq_true, decide_eq_true_eq]
        by_cases h0 : l ≥ 0
        · rw [decide_eq_true h0]; simp only [cond_true, decide_eq_true_eq]; omega
        · rw [decide_eq_false h0]; simp only [cond_false, Bool.false_eq_true, iff_false]; omega
    rw [e]
    refine con_start Try.func119 rfl (by kernel_rfl) rfl (fun c hc => ?_)
    refine path_ok mixed Try.func119 hc (wRs k l) ?_
    simp only [All]
    repeat' (first | exact trivial | with_reducible apply And.intro)
    all_goals (first | exact aG _ | exact aP _ _ | exact aA _ _ | exact aE _ | omega | rfl | (intros; first | assumption | exact True.intro | rfl | exact absurd (show false = true by assumption) Bool.false_ne_true | ((repeat' (first | assumption | apply anda | apply notf)); done)) | (exact h1) | (intro h; have := h4 h; omega))
def okF (v : T_Graph) (k l : Int) : Bool := isGraphF v && rgF k l
theorem con_RankOf_i0 (v : T_Graph) (hs : smS s_Graph v) (k l : Int) (h : okF v k l = false) : Con Try.prog 65 0 [] [graphA v, .p (.int .i64 k), .p (.int .i64 l)] [] (.p (.int .i64 (-1))) := by
  have h1 := con_IsGraph_i v hs
  have h2 := (con_IsRange k l).1
  have hd : (bif !(isGraphF v) then true else !(rgF k l)) = true := by
    unfold okF at h
    cases hg : isGraphF v with
    | false => rfl
    | true => rw [hg] at h; simp at h; simp [h]
  have hr : Con Try.prog 120 0 [] [graphA v, .p (.int .i64 k), .p (.int .i64 l)] [] (.tup [niP, .p (.bool false)]) := by
    refine con_start Try.func120 rfl (by kernel_rfl) rfl (fun c hc => ?_)
    refine path_ok mixed Try.func120 hc (wUi v k l (isGraphF v) (rgF k l)) ?_
    simp only [All]
    repeat' (first | exact trivial | with_reducible apply And.intro)
    all_goals (first | exact aG _ | exact aP _ _ | exact aA _ _ | exact aE _ | omega | rfl | (intros; first | assumption | exact True.intro | rfl | exact absurd (show false = true by assumption) Bool.false_ne_true | ((repeat' (first | assumption | apply anda | apply notf)); done)) | (exact h1) | (intro _; exact h2) | (exact hd) | (simp; done))
  refine con_start Try.func65 rfl (by kernel_rfl) rfl (fun c hc => ?_)
  refine path_ok mixed Try.func65 hc (wKi v k l) ?_
  simp only [All]
  repeat' (first | exact trivial | with_reducible apply And.intro)
  all_goals (first | exact aG _ | exact aP _ _ | exact aA _ _ | exact aE _ | omega | rfl | (intros; first | assumption | exact True.intro | rfl | exact absurd (show false = true by assumption) Bool.false_ne_true | ((repeat' (first | assumption | apply anda | apply notf)); done)) | (exact hr))
theorem con_RankOf_s0 (v : T_Graph) (hs : smS s_Graph v) (k l : Int) (h : okF v k l = false) : Con Try.prog 57 0 [] [graphA v, .p (.int .i64 k), .p (.int .i64 l)] [] (.p (.int .i64 (-1))) := by
  have h1 := con_IsGraph_s v hs
  have h2 := (con_IsRange k l).2
  have h3 := con_l1In k 1 3
  have hr : Con Try.prog 118 0 [] [graphA v, .p (.int .i64 k), .p (.int .i64 l)] [] (.tup [niP, .p (.bool false)]) := by
    by_cases hg : isGraphF v = true ∧ inB k 1 3 = true
    · obtain ⟨N, ⟨nb, g⟩, u⟩ := v
      have hk : 1 ≤ k ∧ k ≤ 3 := by have := hg.2; simpa [inB] using this
      have hN : 1 ≤ N ∧ N ≤ 8 ∧ nb ≤ 24 := by
        have := hg.1
        unfold isGraphF at this
        split at this
        case isFalse => cases this
        rename_i hc
        obtain ⟨h4, h5⟩ := hc
        simp only [inB, Bool.and_eq_true, decide_eq_true_eq] at h4
        exact ⟨h4.1, h4.2, h5⟩
      obtain ⟨M, rfl⟩ : ∃ M : Nat, N = M := ⟨N.toNat, by omega⟩
      obtain ⟨K, rfl⟩ : ∃ K : Nat, k = K := ⟨k.toNat, by omega⟩
      have hn := con_NewPebbles (nb := nb) (g := g) (N := M) (k := K) (by omega) (by omega) hg.1 (by omega)
      have hrg : rgF K l = false := by
        unfold okF at h; rw [hg.1] at h; simpa using h
      rw [hrg] at h2
      refine con_start Try.func118 rfl (by kernel_rfl) rfl (fun c hc => ?_)
      refine path_ok mixed Try.func118 hc (wUt g nb M K l) ?_
      simp only [All]
      repeat' (first | exact trivial | with_reducible apply And.intro)
      all_goals (first | exact aG _ | exact aP _ _ | exact aA _ _ | exact aE _ | omega | rfl | (intros; first | assumption | exact True.intro | rfl | exact absurd (show false = true by assumption) Bool.false_ne_true | ((repeat' (first | assumption | apply anda | apply notf)); done)) | (exact hn) | (intro _; exact h2) | (simp; done) | (intro i hi; simp [All]))
    · have hd : (bif !(isGraphF v) then true else !(inB k 1 3)) = true := by
        cases hb : isGraphF v with
        | false => rfl
        | true =>
          cases hb2 : inB k 1 3 with
          | false => rfl
          | true => exact absurd ⟨hb, hb2⟩ hg
      have hn : Con Try.prog 144 0 [] [graphA v, .p (.int .i64 k)] [] (.tup [niP, .p (.bool false)]) := by
        refine con_start Try.func144 rfl (by kernel_rfl) rfl (fun c hc => ?_)
        refine path_ok mixed Try.func144 hc (wNs v k (isGraphF v) (inB k 1 3)) ?_
        simp only [All]
        repeat' (first | exact trivial | with_reducible apply And.intro)
        all_goals (first | exact aG _ | exact aP _ _ | exact aA _ _ | exact aE _ | omega | rfl | (intros; first | assumption | exact True.intro | rfl | exact absurd (show false = true by assumption) Bool.false_ne_true | ((repeat' (first | assumption | apply anda | apply notf)); done)) | (exact h1) | (intro _; exact h3) | (exact hd) | (simp; done))
      refine con_start Try.func118 rfl (by kernel_rfl) rfl (fun c hc => ?_)
      refine path_ok mixed Try.func118 hc (wUs v k l (rgF k l)) ?_
      simp only [All]
      repeat' (first | exact trivial | with_reducible apply And.intro)
      all_goals (first | exact aG _ | exact aP _ _ | exact aA _ _ | exact aE _ | omega | rfl | (intros; first | assumption | exact True.intro | rfl | exact absurd (show false = true by assumption) Bool.false_ne_true | ((repeat' (first | assumption | apply anda | apply notf)); done)) | (exact hn) | (intro _; exact h2) | (simp; done))
  refine con_start Try.func57 rfl (by kernel_rfl) rfl (fun c hc => ?_)
  refine path_ok mixed Try.func57 hc (wKs v k l) ?_
  simp only [All]
  repeat' (first | exact trivial | with_reducible apply And.intro)
  all_goals (first | exact aG _ | exact aP _ _ | exact aA _ _ | exact aE _ | omega | rfl | (intros; first | assumption | exact True.intro | rfl | exact absurd (show false = true by assumption) Bool.false_ne_true | ((repeat' (first | assumption | apply anda | apply notf)); done)) | (exact hr))
noncomputable def rjP (N k l : Nat) (g : Nat → T_Bar) (nb : Nat) (e : Nat) : Bool := !decide (e ∈ accI N k l g nb)
theorem con_Rejected_i {N nb : Nat} {g : Nat → T_Bar} (hg : isGraphF ((N : Int), (nb, g), ()) = true) (k l : Nat) (hk : 1 ≤ k ∧ k ≤ 3) (hl : l + 1 ≤ 2 * k) :
    Con Try.prog 73 0 [] [grG g nb N, .p (.int .i64 k), .p (.int .i64 l)] [(0, iOb (flt (rjP N k l g nb) nb).1 (flt (rjP N k l g nb) nb).2)] (.ar 1 0 0 (flt (rjP N k l g nb) nb).1) := by
  obtain ⟨hN, hnb, hok⟩ := graph_in hg
  obtain ⟨m, F, T, Q, hrun, hm, hn, hq⟩ := con_RunPebbles_i hg k l hk hl
  generalize hp : rjP N k l g nb = p
  have hpe : ∀ e, hasI Q (e : Nat) m = !p e := by
    intro e
    rw [hasI_qL Q e m hn, hq, ← hp]
    simp [rjP]
  refine con_start Try.func73 rfl (by kernel_rfl) rfl (fun c hc => ?_)
  generalize hR : flt p nb = R
  have lo : ∀ d i, i + d = nb → Run Try.prog c 73 [.code (cAt (bodyOf Try.f73) [1, 1, 1, 0, 1, 0, 0]), .inLoop (cAt (bodyOf Try.f73) [1, 1, 1, 0, 1, 0, 0]), .inBlock 0, .code (cAt (bodyOf Try.f73) [1, 1, 1, 1])] (CRi g nb N k l m F T Q i (flt p i).1 (flt p i).2) (Post c [(0, iOb R.1 R.2)] (.ar 1 0 0 R.1)) := by
    intro d
    induction d with
    | zero =>
      intro i hi
      obtain rfl : i = nb := by omega
      have hd : decide ((i : Int) < (i : Int)) = false := by simp
      rw [hR]
      refine path_ok mixed Try.func73 hc (wJe g i N k l m F T Q i R.1 R.2) ?_
      simp only [All]
      repeat' (first | exact trivial | with_reducible apply And.intro)
      all_goals (first | exact aG _ | exact aP _ _ | exact aA _ _ | exact aE _ | omega | rfl | (intros; first | assumption | exact True.intro | rfl | exact absurd (show false = true by assumption) Bool.false_ne_true | ((repeat' (first | assumption | apply anda | apply notf)); done)) | (exact hd) | (intro t ht; simp [All]))
    | succ d ih =>
      intro i hi
      have hd : decide ((i : Int) < (nb : Int)) = true := decide_eq_true (by omega)
      have hrec := ih (i + 1) (by omega)
      have hc1 := con_Contains (m, Q) (i : Nat) (by show m ≤ 1048576; omega)
      have hfn := flt_n p i
      rw [show hasI (m, Q).2 (i : Nat) (m, Q).1 = !p i from hpe i] at hc1
      cases hb : p i with
      | true =>
        rw [hb] at hc1
        rw [flt_t hb] at hrec
        generalize flt p i = q at hfn hrec ⊢
        refine piece_ok mixed hc (wJt g nb N k l m F T Q i q.1 q.2) ?_ hrec
        simp only [All]
        repeat' (first | exact trivial | with_reducible apply And.intro)
        all_goals (first | exact aG _ | exact aP _ _ | exact aA _ _ | exact aE _ | omega | rfl | (intros; first | assumption | exact True.intro | rfl | exact absurd (show false = true by assumption) Bool.false_ne_true | ((repeat' (first | assumption | apply anda | apply notf)); done)) | (exact hd) | (intro _; exact hc1) | (simp; done) | (simp; omega) | (intro t ht; by_cases h' : t < q.1 <;> (simp [h', cvtL, cvt, tg, tru, All]; done)) | (intro t ht; simp [All]))
      | false =>
        rw [hb] at hc1
        rw [flt_f hb] at hrec
        generalize flt p i = q at hfn hrec ⊢
        refine piece_ok mixed hc (wJf g nb N k l m F T Q i q.1 q.2) ?_ hrec
        simp only [All]
        repeat' (first | exact trivial | with_reducible apply And.intro)
        all_goals (first | exact aG _ | exact aP _ _ | exact aA _ _ | exact aE _ | omega | rfl | (intros; first | assumption | exact True.intro | rfl | exact absurd (show false = true by assumption) Bool.false_ne_true | ((repeat' (first | assumption | apply anda | apply notf)); done)) | (exact hd) | (intro _; exact hc1) | (simp; done) | (simp; omega) | (intro t ht; simp [All]))
  refine piece_ok mixed hc (wJz g nb N k l m F T Q) ?_ (lo nb 0 (by omega))
  simp only [All]
  repeat' (first | exact trivial | with_reducible apply And.intro)
  all_goals (first | exact aG _ | exact aP _ _ | exact aA _ _ | exact aE _ | omega | rfl | (intros; first | assumption | exact True.intro | rfl | exact absurd (show false = true by assumption) Bool.false_ne_true | ((repeat' (first | assumption | apply anda | apply notf)); done)) | (exact hrun) | (simp; done) | (intro t ht; exact absurd ht (Nat.not_lt_zero _)) | (intro t ht; simp [All]))
theorem con_Rejected_s {N nb : Nat} {g : Nat → T_Bar} (hg : isGraphF ((N : Int), (nb, g), ()) = true) (k l : Nat) (hk : 1 ≤ k ∧ k ≤ 3) (hl : l + 1 ≤ 2 * k) :
    Con Try.prog 64 0 [] [grG g nb N, .p (.int .i64 k), .p (.int .i64 l)] [(0, iOb (flt (rjP N k l g nb) nb).1 (flt (rjP N k l g nb) nb).2)] (.ar 1 0 0 (flt (rjP N k l g nb) nb).1) := by
  obtain ⟨hN, hnb, hok⟩ := graph_in hg
  obtain ⟨m, F, T, Q, hrun, hm, hn, hq⟩ := con_RunPebbles_s hg k l hk hl
  generalize hp : rjP N k l g nb = p
  have hpe : ∀ e, hasI Q (e : Nat) m = !p e := by
    intro e
    rw [hasI_qL Q e m hn, hq, ← hp]
    simp [rjP]
  refine con_start Try.func64 rfl (by kernel_rfl) rfl (fun c hc => ?_)
  generalize hR : flt p nb = R
  have lo : ∀ d i, i + d = nb → Run Try.prog c 64 [.code (cAt (bodyOf Try.f64) [1, 1, 1, 0, 1, 0, 0]), .inLoop (cAt (bodyOf Try.f64) [1, 1, 1, 0, 1, 0, 0]), .inBlock 0, .code (cAt (bodyOf Try.f64) [1, 1, 1, 1])] (CRs g nb N k l m F T Q i (flt p i).1 (flt p i).2) (Post c [(0, iOb R.1 R.2)] (.ar 1 0 0 R.1)) := by
    intro d
    induction d with
    | zero =>
      intro i hi
      obtain rfl : i = nb := by omega
      have hd : decide ((i : Int) < (i : Int)) = false := by simp
      rw [hR]
      refine path_ok mixed Try.func64 hc (wHe g i N k l m F T Q i R.1 R.2) ?_
      simp only [All]
      repeat' (first | exact trivial | with_reducible apply And.intro)
      all_goals (first | exact aG _ | exact aP _ _ | exact aA _ _ | exact aE _ | omega | rfl | (intros; first | assumption | exact True.intro | rfl | exact absurd (show false = true by assumption) Bool.false_ne_true | ((repeat' (first | assumption | apply anda | apply notf)); done)) | (rw [hd]; rfl) | (intro t ht; simp [All]))
    | succ d ih =>
      intro i hi
      have hd : decide ((i : Int) < (nb : Int)) = true := decide_eq_true (by omega)
      have hrec := ih (i + 1) (by omega)
      have hc1 := con_l2Has (m, Q) (i : Nat) (by show m ≤ 1048576; omega)
      have hfn := flt_n p i
      rw [show hasI (m, Q).2 (i : Nat) (m, Q).1 = !p i from hpe i] at hc1
      cases hb : p i with
      | true =>
        rw [hb] at hc1
        rw [flt_t hb] at hrec
        generalize flt p i = q at hfn hrec ⊢
        refine piece_ok mixed hc (wHt g nb N k l m F T Q i q.1 q.2) ?_ hrec
        simp only [All]
        repeat' (first | exact trivial | with_reducible apply And.intro)
        all_goals (first | exact aG _ | exact aP _ _ | exact aA _ _ | exact aE _ | omega | rfl | (intros; first | assumption | exact True.intro | rfl | exact absurd (show false = true by assumption) Bool.false_ne_true | ((repeat' (first | assumption | apply anda | apply notf)); done)) | (rw [hd]; rfl) | (exact hc1) | (simp; done) | (simp; omega) | (intro t ht; by_cases h' : t < q.1 <;> (simp [h', cvtL, cvt, tg, tru, All]; done)) | (intro t ht; simp [All]))
      | false =>
        rw [hb] at hc1
        rw [flt_f hb] at hrec
        generalize flt p i = q at hfn hrec ⊢
        refine piece_ok mixed hc (wHf g nb N k l m F T Q i q.1 q.2) ?_ hrec
        simp only [All]
        repeat' (first | exact trivial | with_reducible apply And.intro)
        all_goals (first | exact aG _ | exact aP _ _ | exact aA _ _ | exact aE _ | omega | rfl | (intros; first | assumption | exact True.intro | rfl | exact absurd (show false = true by assumption) Bool.false_ne_true | ((repeat' (first | assumption | apply anda | apply notf)); done)) | (rw [hd]; rfl) | (exact hc1) | (simp; done) | (simp; omega) | (intro t ht; simp [All]))
  refine piece_ok mixed hc (wHz g nb N k l m F T Q) ?_ (lo nb 0 (by omega))
  simp only [All]
  repeat' (first | exact trivial | with_reducible apply And.intro)
  all_goals (first | exact aG _ | exact aP _ _ | exact aA _ _ | exact aE _ | omega | rfl | (intros; first | assumption | exact True.intro | rfl | exact absurd (show false = true by assumption) Bool.false_ne_true | ((repeat' (first | assumption | apply anda | apply notf)); done)) | (exact hrun) | (simp; done) | (intro t ht; exact absurd ht (Nat.not_lt_zero _)) | (intro t ht; simp [All]))
def spP (g : Nat → T_Bar) (w : Nat) (e : Nat) : Bool := btI w (g e).1 && btI w (g e).2.1
theorem con_SpannedBars {N nb : Nat} {g : Nat → T_Bar} (hok : OkBars N nb g) (hN : N ≤ 8) (hnb : nb ≤ 24) (w : Nat) :
    Con Try.prog 49 0 [] [grG g nb N, inL (stD w N)] [(0, iOb (flt (spP g w) nb).1 (flt (spP g w) nb).2)] (.ar 1 0 0 (flt (spP g w) nb).1) := by
  refine con_start Try.func49 rfl (by kernel_rfl) rfl (fun c hc => ?_)
  generalize hp : spP g w = p
  generalize hR : flt p nb = R
  have hS := stD_n w N
  have lo : ∀ d i, i + d = nb → Run Try.prog c 49 [.code (cAt (bodyOf Try.f49) [1, 1, 0, 1, 0, 0]), .inLoop (cAt (bodyOf Try.f49) [1, 1, 0, 1, 0, 0]), .inBlock 0, .code (cAt (bodyOf Try.f49) [1, 1, 1])] (CSp g nb N (stD w N) i (flt p i).1 (flt p i).2) (Post c [(0, iOb R.1 R.2)] (.ar 1 0 0 R.1)) := by
    intro d
    induction d with
    | zero =>
      intro i hi
      obtain rfl : i = nb := by omega
      have hd : decide ((i : Int) < (i : Int)) = false := by simp
      rw [hR]
      refine path_ok mixed Try.func49 hc (wPe g i N (stD w N) i R.1 R.2) ?_
      simp only [All]
      repeat' (first | exact trivial | with_reducible apply And.intro)
      all_goals (first | exact aG _ | exact aP _ _ | exact aA _ _ | exact aE _ | omega | rfl | (intros; first | assumption | exact True.intro | rfl | exact absurd (show false = true by assumption) Bool.false_ne_true | ((repeat' (first | assumption | apply anda | apply notf)); done)) | (exact hd) | (intro t ht; simp [All]))
    | succ d ih =>
      intro i hi
      have hd : decide ((i : Int) < (nb : Int)) = true := decide_eq_true (by omega)
      have hrec := ih (i + 1) (by omega)
      have hbar := hok i (by omega)
      have hfn := flt_n p i
      have hc1 := con_l2Has (stD w N) (g i).1 (by omega)
      have hc2 := con_l2Has (stD w N) (g i).2.1 (by omega)
      rw [hasI_stD, decide_eq_true (by omega), Bool.true_and] at hc1 hc2
      have hpe : p i = (btI w (g i).1 && btI w (g i).2.1) := by rw [← hp]; rfl
      cases hb : p i with
      | true =>
        rw [hb] at hpe
        have hh : btI w (g i).1 = true ∧ btI w (g i).2.1 = true := by
          have := hpe.symm; simpa using this
        rw [hh.1] at hc1
        rw [hh.2] at hc2
        rw [flt_t hb] at hrec
        generalize flt p i = q at hfn hrec ⊢
        refine piece_ok mixed hc (wPt g nb N (stD w N) i q.1 q.2) ?_ hrec
        simp only [All]
        repeat' (first | exact trivial | with_reducible apply And.intro)
        all_goals (first | exact aG _ | exact aP _ _ | exact aA _ _ | exact aE _ | omega | rfl | (intros; first | assumption | exact True.intro | rfl | exact absurd (show false = true by assumption) Bool.false_ne_true | ((repeat' (first | assumption | apply anda | apply notf)); done)) | (exact hd) | (exact hc1) | (intro _; exact hc2) | (simp; done) | (simp; omega) | (intro t ht; by_cases h' : t < q.1 <;> (simp [h', cvtL, cvt, tg, tru, All]; done)) | (intro t ht; simp [All]))
      | false =>
        have hbf : (bif btI w (g i).1 then btI w (g i).2.1 else false) = false := by
          rw [hb] at hpe
          rw [hpe]
          cases btI w (g i).1 <;> rfl
        rw [flt_f hb] at hrec
        generalize flt p i = q at hfn hrec ⊢
        refine piece_ok mixed hc (wPf g nb N (stD w N) i q.1 q.2 (btI w (g i).1) (btI w (g i).2.1)) ?_ hrec
        simp only [All]
        repeat' (first | exact trivial | with_reducible apply And.intro)
        all_goals (first | exact aG _ | exact aP _ _ | exact aA _ _ | exact aE _ | omega | rfl | (intros; first | assumption | exact True.intro | rfl | exact absurd (show false = true by assumption) Bool.false_ne_true | ((repeat' (first | assumption | apply anda | apply notf)); done)) | (exact hd) | (exact hc1) | (intro _; exact hc2) | (exact hbf) | (simp; done) | (intro _; omega) | (simp; omega) | (intro t ht; simp [All]))
  refine piece_ok mixed hc (wPz g nb N (stD w N)) ?_ (lo nb 0 (by omega))
  simp only [All]
  repeat' (first | exact trivial | with_reducible apply And.intro)
  all_goals (first | exact aG _ | exact aP _ _ | exact aA _ _ | exact aE _ | omega | rfl | (intros; first | assumption | exact True.intro | rfl | exact absurd (show false = true by assumption) Bool.false_ne_true | ((repeat' (first | assumption | apply anda | apply notf)); done)) | (simp; done) | (intro t ht; exact absurd ht (Nat.not_lt_zero _)) | (intro t ht; simp [All]))
def ovB (g : Nat → T_Bar) (nb N k l w : Nat) : Bool :=
  bif decide (((flt (spP g w) nb).1 : Int) > 0) then decide (((flt (spP g w) nb).1 : Int) > (k : Int) * ((stD w N).1 : Int) - (l : Int)) else false
def ovS (g : Nat → T_Bar) (nb N k l : Nat) : Nat → Nat → T_IntS × Bool
  | 0, _ => ((0, fun _ => 0), false)
  | d + 1, w => if ovB g nb N k l w = true then (stD w N, true) else ovS g nb N k l d (w + 1)
theorem ks_le {k s : Nat} (hk : k ≤ 3) (hs : s ≤ 8) : 0 ≤ (k : Int) * (s : Int) ∧ (k : Int) * (s : Int) ≤ 24 := by
  have : k * s ≤ 3 * 8 := Nat.mul_le_mul hk hs
  rw [← Int.natCast_mul]
  omega
theorem con_Over_s {N nb : Nat} {g : Nat → T_Bar} (hg : isGraphF ((N : Int), (nb, g), ()) = true) (k l : Nat) (hk : 1 ≤ k ∧ k ≤ 3) (hl : l + 1 ≤ 2 * k) {R : T_IntS × Bool} (hR : ovS g nb N k l (2 ^ N - 1) 1 = R) :
    Con Try.prog 62 0 [] [grG g nb N, .p (.int .i64 k), .p (.int .i64 l)] [(0, iOb R.1.1 R.1.2)] (.tup [.ar 1 0 0 R.1.1, .p (.bool R.2)]) := by
  obtain ⟨hN, hnb, hok⟩ := graph_in hg
  have hsm : smS s_Graph ((N : Int), (nb, g), ()) := ⟨by simp [smS, smL], ⟨by show nb ≤ 1048576; omega, fun i hi => by simp [smS, smL]⟩, True.intro⟩
  have hcg := con_IsGraph_s ((N : Int), (nb, g), ()) hsm
  rw [hg] at hcg
  have hr := con_IsRange_s k l hk hl
  have hP : 2 ^ N ≤ 2 ^ 8 := Nat.pow_le_pow_right (by omega) hN.2
  have hP1 : 1 ≤ 2 ^ N := Nat.one_le_two_pow
  have hsh := shl_nat N (by omega)
  refine con_start Try.func62 rfl (by kernel_rfl) rfl (fun c hc => ?_)
  have lo : ∀ d w, w + d = 2 ^ N → ovS g nb N k l d w = R → Run Try.prog c 62 [.code (cAt (bodyOf Try.f62) [1, 1, 0, 1, 0, 0]), .inLoop (cAt (bodyOf Try.f62) [1, 1, 0, 1, 0, 0]), .inBlock 0, .code (cAt (bodyOf Try.f62) [1, 1, 1])] (CQ0 g nb N k l w) (Post c [(0, iOb R.1.1 R.1.2)] (.tup [.ar 1 0 0 R.1.1, .p (.bool R.2)])) := by
    intro d
    induction d with
    | zero =>
      intro w hw hRw
      have hd : decide ((w : Int) < shlI IntKind.i64 1 (N : Int)) = false := by rw [hsh]; exact decide_eq_false (by omega)
      rw [← hRw]
      refine path_ok mixed Try.func62 hc (wQe g nb N k l w) ?_
      simp only [All]
      repeat' (first | exact trivial | with_reducible apply And.intro)
      all_goals (first | exact aG _ | exact aP _ _ | exact aA _ _ | exact aE _ | omega | rfl | (intros; first | assumption | exact True.intro | rfl | exact absurd (show false = true by assumption) Bool.false_ne_true | ((repeat' (first | assumption | apply anda | apply notf)); done)) | (exact hd) | (intro t ht; exact absurd ht (Nat.not_lt_zero _)) | (simp; done))
    | succ d ih =>
      intro w hw hRw
      have hd : decide ((w : Int) < shlI IntKind.i64 1 (N : Int)) = true := by rw [hsh]; exact decide_eq_true (by omega)
      have hset := con_l3Set w N (by omega)
      have hsp := con_SpannedBars hok hN.2 hnb w
      have hks := ks_le (k := k) (s := (stD w N).1) (by omega) (by have := stD_n w N; omega)
      have hov : ovB g nb N k l w = (bif decide (((flt (spP g w) nb).1 : Int) > 0) then decide (((flt (spP g w) nb).1 : Int) > (k : Int) * ((stD w N).1 : Int) - (l : Int)) else false) := rfl
      rw [ovS] at hRw
      by_cases hb : ovB g nb N k l w = true
      · rw [if_pos hb] at hRw
        rw [hb] at hov
        rw [← hRw]
        generalize stD w N = q at *
        generalize flt (spP g w) nb = y at *
        refine path_ok mixed Try.func62 hc (wQt g nb N k l w q.1 y.1 q.2 y.2) ?_
        simp only [All]
        repeat' (first | exact trivial | with_reducible apply And.intro)
        all_goals (first | exact aG _ | exact aP _ _ | exact aA _ _ | exact aE _ | omega | rfl | (intros; first | assumption | exact True.intro | rfl | exact absurd (show false = true by assumption) Bool.false_ne_true | ((repeat' (first | assumption | apply anda | apply notf)); done)) | (exact hd) | (exact hset) | (exact hsp) | (exact hov.symm) | (simp; done) | (intro _; omega) | (intro t ht; simp [All]))
      · rw [if_neg hb] at hRw
        rw [show ovB g nb N k l w = false by simpa using hb] at hov
        have hrec := ih (w + 1) (by omega) hRw
        clear hRw hb
        generalize stD w N = q at *
        generalize flt (spP g w) nb = y at *
        refine piece_ok mixed hc (wQf g nb N k l w q.1 y.1 q.2 y.2) ?_ hrec
        simp only [All]
        repeat' (first | exact trivial | with_reducible apply And.intro)
        all_goals (first | exact aG _ | exact aP _ _ | exact aA _ _ | exact aE _ | omega | rfl | (intros; first | assumption | exact True.intro | rfl | exact absurd (show false = true by assumption) Bool.false_ne_true | ((repeat' (first | assumption | apply anda | apply notf)); done)) | (exact hd) | (exact hset) | (exact hsp) | (exact hov.symm) | (simp; done) | (intro _; omega) | (simp; omega) | (intro t ht; simp [All]))
  refine piece_ok mixed hc (wQz g nb N k l) ?_ (lo (2 ^ N - 1) 1 (by omega) hR)
  simp only [All]
  repeat' (first | exact trivial | with_reducible apply And.intro)
  all_goals (first | exact aG _ | exact aP _ _ | exact aA _ _ | exact aE _ | omega | rfl | (intros; first | assumption | exact True.intro | rfl | exact absurd (show false = true by assumption) Bool.false_ne_true | ((repeat' (first | assumption | apply anda | apply notf)); done)) | (exact hcg) | (intro _; exact hr) | (simp; done) | (intro t ht; simp [All]))
theorem con_Over_i {N nb : Nat} {g : Nat → T_Bar} (hg : isGraphF ((N : Int), (nb, g), ()) = true) (k l : Nat) (hk : 1 ≤ k ∧ k ≤ 3) (hl : l + 1 ≤ 2 * k) {R : T_IntS × Bool} (hR : ovS g nb N k l (2 ^ N - 1) 1 = R) :
    Con Try.prog 71 0 [] [grG g nb N, .p (.int .i64 k), .p (.int .i64 l)] [(0, iOb R.1.1 R.1.2)] (.tup [.ar 1 0 0 R.1.1, .p (.bool R.2)]) := by
  obtain ⟨hN, hnb, hok⟩ := graph_in hg
  have hsm : smS s_Graph ((N : Int), (nb, g), ()) := ⟨by simp [smS, smL], ⟨by show nb ≤ 1048576; omega, fun i hi => by simp [smS, smL]⟩, True.intro⟩
  have hcg := con_IsGraph_i ((N : Int), (nb, g), ()) hsm
  rw [hg] at hcg
  have hr := con_IsRange_i k l hk hl
  have hP : 2 ^ N ≤ 2 ^ 8 := Nat.pow_le_pow_right (by omega) hN.2
  have hP1 : 1 ≤ 2 ^ N := Nat.one_le_two_pow
  have hsh := shl_nat N (by omega)
  refine con_start Try.func71 rfl (by kernel_rfl) rfl (fun c hc => ?_)
  generalize hG : (Post c [(0, iOb R.1.1 R.1.2)] (.tup [.ar 1 0 0 R.1.1, .p (.bool R.2)])) = G
  have l2 : ∀ w, w < 2 ^ N → (ovB g nb N k l w = true → R = (stD w N, true)) → (ovB g nb N k l w = false → Run Try.prog c 71 [.code (cAt (bodyOf Try.f71) [1, 1, 0, 1, 0, 0]), .inLoop (cAt (bodyOf Try.f71) [1, 1, 0, 1, 0, 0]), .inBlock 0, .code (cAt (bodyOf Try.f71) [1, 1, 1])] (CO0 g nb N k l (w + 1)) G) →
      ∀ d i, i + d = nb → Run Try.prog c 71 [.code (cAt (bodyOf Try.f71) [1, 1, 0, 1, 0, 0, 1, 0, 0, 1, 1, 0, 1, 0, 0]), .inLoop (cAt (bodyOf Try.f71) [1, 1, 0, 1, 0, 0, 1, 0, 0, 1, 1, 0, 1, 0, 0]), .inBlock 4, .code (cAt (bodyOf Try.f71) [1, 1, 0, 1, 0, 0, 1, 0, 0, 1, 1, 1]), .inBlock 1, .code (cAt (bodyOf Try.f71) [1, 1, 0, 1, 0, 0, 1, 1]), .inLoop (cAt (bodyOf Try.f71) [1, 1, 0, 1, 0, 0]), .inBlock 0, .code (cAt (bodyOf Try.f71) [1, 1, 1])] (CO2 g nb N k l w ((stD w N).1 : Nat) ((flt (spP g w) i).1 : Nat) i) G := by
    intro w hw hT hF d
    have hks := ks_le (k := k) (s := (stD w N).1) (by omega) (by have := stD_n w N; omega)
    induction d with
    | zero =>
      intro i hi
      obtain rfl : i = nb := by omega
      have hd : decide ((i : Int) < (i : Int)) = false := by simp
      have hov : ovB g i N k l w = (bif decide (((flt (spP g w) i).1 : Int) > 0) then decide (((flt (spP g w) i).1 : Int) > (k : Int) * ((stD w N).1 : Int) - (l : Int)) else false) := rfl
      cases hb : ovB g i N k l w with
      | true =>
        rw [hb] at hov
        have hset := con_setOf w N (by omega)
        rw [← hG, hT hb]
        clear hT hF
        generalize stD w N = q at *
        generalize flt (spP g w) i = y at *
        refine path_ok mixed Try.func71 hc (wOt g i N k l w q.1 y.1 i q.1 q.2) ?_
        simp only [All]
        repeat' (first | exact trivial | with_reducible apply And.intro)
        all_goals (first | exact aG _ | exact aP _ _ | exact aA _ _ | exact aE _ | omega | rfl | (intros; first | assumption | exact True.intro | rfl | exact absurd (show false = true by assumption) Bool.false_ne_true | ((repeat' (first | assumption | apply anda | apply notf)); done)) | (exact hd) | (exact hset) | (exact hov.symm) | (simp; done) | (intro _; omega) | (intro t ht; simp [All]))
      | false =>
        rw [hb] at hov
        have hrec := hF hb
        clear hT hF
        generalize stD w N = q at *
        generalize flt (spP g w) i = y at *
        refine piece_ok mixed hc (wOf g i N k l w q.1 y.1 i) ?_ hrec
        simp only [All]
        repeat' (first | exact trivial | with_reducible apply And.intro)
        all_goals (first | exact aG _ | exact aP _ _ | exact aA _ _ | exact aE _ | omega | rfl | (intros; first | assumption | exact True.intro | rfl | exact absurd (show false = true by assumption) Bool.false_ne_true | ((repeat' (first | assumption | apply anda | apply notf)); done)) | (exact hd) | (exact hov.symm) | (simp; done) | (intro _; omega) | (simp; omega) | (intro t ht; simp [All]))
    | succ d ih =>
      intro i hi
      have hd : decide ((i : Int) < (nb : Int)) = true := decide_eq_true (by omega)
      have hrec := ih (i + 1) (by omega)
      have hbar := hok i (by omega)
      have hfn := flt_n (spP g w) i
      have hbw : bwI w (g i).1 (g i).2.1 = if spP g w i then 1 else 0 := by
        have := bwI_nat w (g i).1.toNat (g i).2.1.toNat (by omega) (by omega) (by omega)
        rw [Int.toNat_of_nonneg (by omega), Int.toNat_of_nonneg (by omega)] at this
        exact this
      have e : ((flt (spP g w) (i + 1)).1 : Int) = ((flt (spP g w) i).1 : Nat) + bwI w (g i).1 (g i).2.1 := by
        rw [hbw]
        cases hb : spP g w i with
        | true => rw [flt_t hb]; rfl
        | false => rw [flt_f hb]; simp
      rw [e] at hrec
      have hbb : 0 ≤ bwI w (g i).1 (g i).2.1 ∧ bwI w (g i).1 (g i).2.1 ≤ 1 := by rw [hbw]; split <;> omega
      have hbb2 : 0 ≤ bitI BinOp.and IntKind.i64 (bitI BinOp.and IntKind.i64 (shrI IntKind.i64 (w : Int) (g i).1) (shrI IntKind.i64 (w : Int) (g i).2.1)) 1 ∧ bitI BinOp.and IntKind.i64 (bitI BinOp.and IntKind.i64 (shrI IntKind.i64 (w : Int) (g i).1) (shrI IntKind.i64 (w : Int) (g i).2.1)) 1 ≤ 1 := hbb
      refine piece_ok mixed hc (wOd g nb N k l w _ _ i) ?_ hrec
      simp only [All]
      repeat' (first | exact trivial | with_reducible apply And.intro)
      all_goals (first | exact aG _ | exact aP _ _ | exact aA _ _ | exact aE _ | omega | rfl | (intros; first | assumption | exact True.intro | rfl | exact absurd (show false = true by assumption) Bool.false_ne_true | ((repeat' (first | assumption | apply anda | apply notf)); done)) | (exact hd) | (simp; done) | omega | (simp; omega) | (intro t ht; simp [All]))
  have l1 : ∀ w, w < 2 ^ N → (Run Try.prog c 71 [.code (cAt (bodyOf Try.f71) [1, 1, 0, 1, 0, 0, 1, 0, 0, 1, 1, 0, 1, 0, 0]), .inLoop (cAt (bodyOf Try.f71) [1, 1, 0, 1, 0, 0, 1, 0, 0, 1, 1, 0, 1, 0, 0]), .inBlock 4, .code (cAt (bodyOf Try.f71) [1, 1, 0, 1, 0, 0, 1, 0, 0, 1, 1, 1]), .inBlock 1, .code (cAt (bodyOf Try.f71) [1, 1, 0, 1, 0, 0, 1, 1]), .inLoop (cAt (bodyOf Try.f71) [1, 1, 0, 1, 0, 0]), .inBlock 0, .code (cAt (bodyOf Try.f71) [1, 1, 1])] (CO2 g nb N k l w ((stD w N).1 : Nat) 0 0) G) →
      ∀ d v, v + d = N → Run Try.prog c 71 [.code (cAt (bodyOf Try.f71) [1, 1, 0, 1, 0, 0, 1, 0, 0, 1, 0, 1, 0, 0]), .inLoop (cAt (bodyOf Try.f71) [1, 1, 0, 1, 0, 0, 1, 0, 0, 1, 0, 1, 0, 0]), .inBlock 2, .code (cAt (bodyOf Try.f71) [1, 1, 0, 1, 0, 0, 1, 0, 0, 1, 1]), .inBlock 1, .code (cAt (bodyOf Try.f71) [1, 1, 0, 1, 0, 0, 1, 1]), .inLoop (cAt (bodyOf Try.f71) [1, 1, 0, 1, 0, 0]), .inBlock 0, .code (cAt (bodyOf Try.f71) [1, 1, 1])] (CO1 g nb N k l w ((stD w v).1 : Nat) v) G := by
    intro w hw hnx d
    induction d with
    | zero =>
      intro v hv
      obtain rfl : v = N := by omega
      have hd : decide ((v : Int) < (v : Int)) = false := by simp
      refine piece_ok mixed hc (wOc g nb v k l w _ v) ?_ hnx
      simp only [All]
      repeat' (first | exact trivial | with_reducible apply And.intro)
      all_goals (first | exact aG _ | exact aP _ _ | exact aA _ _ | exact aE _ | omega | rfl | (intros; first | assumption | exact True.intro | rfl | exact absurd (show false = true by assumption) Bool.false_ne_true | ((repeat' (first | assumption | apply anda | apply notf)); done)) | (exact hd) | (simp; done) | (simp; omega) | (intro t ht; simp [All]))
    | succ d ih =>
      intro v hv
      have hd : decide ((v : Int) < (N : Int)) = true := decide_eq_true (by omega)
      have hrec := ih (v + 1) (by omega)
      have hsn := stD_n w v
      have hbv := bvI_nat w v (by omega) (by omega)
      have e : ((stD w (v + 1)).1 : Int) = ((stD w v).1 : Nat) + bvI w v := by
        rw [hbv]
        cases hb : btI w v with
        | true => simp [stD, hb]
        | false => simp [stD, hb]
      rw [e] at hrec
      have hbb : 0 ≤ bvI w v ∧ bvI w v ≤ 1 := by rw [hbv]; split <;> omega
      have hbb2 : 0 ≤ bitI BinOp.and IntKind.i64 (shrI IntKind.i64 (w : Int) (v : Int)) 1 ∧ bitI BinOp.and IntKind.i64 (shrI IntKind.i64 (w : Int) (v : Int)) 1 ≤ 1 := hbb
      refine piece_ok mixed hc (wOb g nb N k l w _ v) ?_ hrec
      simp only [All]
      repeat' (first | exact trivial | with_reducible apply And.intro)
      all_goals (first | exact aG _ | exact aP _ _ | exact aA _ _ | exact aE _ | omega | rfl | (intros; first | assumption | exact True.intro | rfl | exact absurd (show false = true by assumption) Bool.false_ne_true | ((repeat' (first | assumption | apply anda | apply notf)); done)) | (exact hd) | (simp; done) | omega | (simp; omega) | (intro t ht; simp [All]))
  have lo : ∀ d w, w + d = 2 ^ N → ovS g nb N k l d w = R → Run Try.prog c 71 [.code (cAt (bodyOf Try.f71) [1, 1, 0, 1, 0, 0]), .inLoop (cAt (bodyOf Try.f71) [1, 1, 0, 1, 0, 0]), .inBlock 0, .code (cAt (bodyOf Try.f71) [1, 1, 1])] (CO0 g nb N k l w) G := by
    intro d
    induction d with
    | zero =>
      intro w hw hRw
      have hd : decide ((w : Int) < shlI IntKind.i64 1 (N : Int)) = false := by rw [hsh]; exact decide_eq_false (by omega)
      rw [← hG, ← hRw]
      refine path_ok mixed Try.func71 hc (wOe g nb N k l w) ?_
      simp only [All]
      repeat' (first | exact trivial | with_reducible apply And.intro)
      all_goals (first | exact aG _ | exact aP _ _ | exact aA _ _ | exact aE _ | omega | rfl | (intros; first | assumption | exact True.intro | rfl | exact absurd (show false = true by assumption) Bool.false_ne_true | ((repeat' (first | assumption | apply anda | apply notf)); done)) | (exact hd) | (intro t ht; exact absurd ht (Nat.not_lt_zero _)) | (simp; done))
    | succ d ih =>
      intro w hw hRw
      have hd : decide ((w : Int) < shlI IntKind.i64 1 (N : Int)) = true := by rw [hsh]; exact decide_eq_true (by omega)
      rw [ovS] at hRw
      have hnx := l2 w (by omega) (fun hb => by rw [if_pos hb] at hRw; exact hRw.symm) (fun hb => ih (w + 1) (by omega) (by rw [hb] at hRw; simpa using hRw)) nb 0 (by omega)
      have hny := l1 w (by omega) hnx N 0 (by omega)
      refine piece_ok mixed hc (wOa g nb N k l w) ?_ hny
      simp only [All]
      repeat' (first | exact trivial | with_reducible apply And.intro)
      all_goals (first | exact aG _ | exact aP _ _ | exact aA _ _ | exact aE _ | omega | rfl | (intros; first | assumption | exact True.intro | rfl | exact absurd (show false = true by assumption) Bool.false_ne_true | ((repeat' (first | assumption | apply anda | apply notf)); done)) | (exact hd) | (simp; done) | (intro t ht; simp [All]))
  refine piece_ok mixed hc (wOz g nb N k l) ?_ (lo (2 ^ N - 1) 1 (by omega) hR)
  simp only [All]
  repeat' (first | exact trivial | with_reducible apply And.intro)
  all_goals (first | exact aG _ | exact aP _ _ | exact aA _ _ | exact aE _ | omega | rfl | (intros; first | assumption | exact True.intro | rfl | exact absurd (show false = true by assumption) Bool.false_ne_true | ((repeat' (first | assumption | apply anda | apply notf)); done)) | (exact hcg) | (intro _; exact hr) | (simp; done) | (intro t ht; simp [All]))
end Go.Proofs.Ytffnfeefjdmifaa.Mach
namespace Go.Proofs.Ytffnfeefjdmifaa.Mach
open Go
set_option linter.unusedVariables false
set_option linter.unusedSimpArgs false
def byO (n : Nat) (f : Nat → Int) : Ob := ⟨false, 1, n, fun i => [.p (.int .u8 (f i))]⟩
def swF (i j : Nat) (f : Nat → Int) (r : Nat) : Int := if r = j then f i else if r = i then f j else f r
def apF (n : Nat) (f : Nat → Int) (x : Int) (r : Nat) : Int := if r < n then f r else x
def SFs (m : Int) (o : ByteArray) (ng : Bool) : St :=
  ⟨[.p (.int .i64 m), .p .any, .p .any, .p (.str o), .p (.bool ng)] ++ List.replicate 26 anyA, [], 0⟩
def SFi (n m : Int) (l : Nat) (f : Nat → Int) : St :=
  ⟨[.p (.int .i64 n), .p .any, .p .any, .ar 1 0 0 l, .p (.int .i64 m)] ++ List.replicate 54 anyA, [(0, byO l f)], 1⟩
def SFr (l i : Nat) (j : Int) (f : Nat → Int) : St :=
  ⟨[.p .any, .p .any, .p .any, .ar 1 0 0 l, .p .any, .p .any, .p (.int .i64 i), .p (.int .i64 j)] ++ List.replicate 51 anyA, [(0, byO l f)], 1⟩
theorem fS0 (n : Int) (s : ByteArray) :
    pathOb Try.prog Try.f58 0 [.reg [oT], .reg [oT, oT], .dec true, .reg [oT]] [.code (bodyOf Try.f58)] (start Try.f58 [] 0 [.p (.int .i64 n)]) [] 1 [] (.p (.str s)) =
    some [((n == 0) = true),
  (ByteArray.mk #[48] = s)] := by kernel_rfl
theorem fSz (n : Int) (o : ByteArray) :
    pieceOb Try.prog 0 [.reg [oT], .reg [oT, oT], .dec false, .reg [oT], .reg [oT, oT, oT], .head] [.code (bodyOf Try.f58)] (start Try.f58 [] 0 [.p (.int .i64 n)]) [] 1 (SFs n o (decide (n < 0))) =
    some ([.code (cAt (bodyOf Try.f58) [1, 1, 1, 1, 0, 0, 0]), .inLoop (cAt (bodyOf Try.f58) [1, 1, 1, 1, 0, 0, 0]), .inBlock 0, .code (cAt (bodyOf Try.f58) [1, 1, 1, 1, 1])], [((n == 0) = false),
  (AI n),
  (ByteArray.mk #[] = o),
  ((decide (n < 0)) = (decide (n < 0)))]) := by kernel_rfl
theorem fSn (m m2 : Int) (o o2 : ByteArray) (ng : Bool) :
    pieceOb Try.prog 0 [.reg [oT, oT], .dec true, .reg [oT, oF, oT], .reg [oT, oT], .dec true, .reg [oT, oT, oT], .reg [oT, oT, oT, oT, oT, oT, oT, oT], .reg [oT, oF, oT], .head] [.code (cAt (bodyOf Try.f58) [1, 1, 1, 1, 0, 0, 0]), .inLoop (cAt (bodyOf Try.f58) [1, 1, 1, 1, 0, 0, 0]), .inBlock 0, .code (cAt (bodyOf Try.f58) [1, 1, 1, 1, 1])] (SFs m o ng) [] 1 (SFs m2 o2 ng) =
    some ([.code (cAt (bodyOf Try.f58) [1, 1, 1, 1, 0, 0, 0]), .inLoop (cAt (bodyOf Try.f58) [1, 1, 1, 1, 0, 0, 0]), .inBlock 0, .code (cAt (bodyOf Try.f58) [1, 1, 1, 1, 1])], [((m != 0) = true),
  ((10 : Int) ≠ 0),
  ((decide (m.tmod 10 < 0)) = true),
  (((-9223372036854775808) : Int) ≤ (0 - m.tmod 10)),
  (((0 - m.tmod 10) : Int) ≤ 9223372036854775807),
  (((-9223372036854775808) : Int) ≤ (48 + (0 - m.tmod 10))),
  (((48 + (0 - m.tmod 10)) : Int) ≤ 9223372036854775807),
  ((0 : Int) ≤ (48 + (0 - m.tmod 10))),
  (((48 + (0 - m.tmod 10)) : Int) ≤ 255),
  ((1 : Nat) ≤ 1),
  (okBytes 1 (fun i => [.p (.int .u8 (48 + (0 - m.tmod 10)))])),
  ((((bytesOf 1 fun i => [AV.p (PV.int IntKind.u8 (48 + (0 - m.tmod 10)))]).size + o.size) : Nat) ≤ 9223372036854775807),
  ((10 : Int) ≠ 0),
  (((IntKind.i64.wrap (m.tdiv 10)) : Int) = m2),
  ((bytesOf 1 fun i => [AV.p (PV.int IntKind.u8 (48 + (0 - m.tmod 10)))]) ++ o = o2),
  (ng = ng)]) := by kernel_rfl
theorem fSp (m m2 : Int) (o o2 : ByteArray) (ng : Bool) :
    pieceOb Try.prog 0 [.reg [oT, oT], .dec true, .reg [oT, oF, oT], .reg [oT, oT], .dec false, .reg [oT, oT, oT, oT, oT, oT, oT, oT], .reg [oT, oF, oT], .head] [.code (cAt (bodyOf Try.f58) [1, 1, 1, 1, 0, 0, 0]), .inLoop (cAt (bodyOf Try.f58) [1, 1, 1, 1, 0, 0, 0]), .inBlock 0, .code (cAt (bodyOf Try.f58) [1, 1, 1, 1, 1])] (SFs m o ng) [] 1 (SFs m2 o2 ng) =
    some ([.code (cAt (bodyOf Try.f58) [1, 1, 1, 1, 0, 0, 0]), .inLoop (cAt (bodyOf Try.f58) [1, 1, 1, 1, 0, 0, 0]), .inBlock 0, .code (cAt (bodyOf Try.f58) [1, 1, 1, 1, 1])], [((m != 0) = true),
  ((10 : Int) ≠ 0),
  ((decide (m.tmod 10 < 0)) = false),
  (((-9223372036854775808) : Int) ≤ (48 + m.tmod 10)),
  (((48 + m.tmod 10) : Int) ≤ 9223372036854775807),
  ((0 : Int) ≤ (48 + m.tmod 10)),
  (((48 + m.tmod 10) : Int) ≤ 255),
  ((1 : Nat) ≤ 1),
  (okBytes 1 (fun i => [.p (.int .u8 (48 + m.tmod 10))])),
  ((((bytesOf 1 fun i => [AV.p (PV.int IntKind.u8 (48 + m.tmod 10))]).size + o.size) : Nat) ≤ 9223372036854775807),
  ((10 : Int) ≠ 0),
  (((IntKind.i64.wrap (m.tdiv 10)) : Int) = m2),
  ((bytesOf 1 fun i => [AV.p (PV.int IntKind.u8 (48 + m.tmod 10))]) ++ o = o2),
  (ng = ng)]) := by kernel_rfl
theorem fSt (m : Int) (o s : ByteArray) (ng : Bool) :
    pathOb Try.prog Try.f58 0 [.reg [oT, oT], .dec false, .reg [oT], .dec true, .reg [oT, oT, oT]] [.code (cAt (bodyOf Try.f58) [1, 1, 1, 1, 0, 0, 0]), .inLoop (cAt (bodyOf Try.f58) [1, 1, 1, 1, 0, 0, 0]), .inBlock 0, .code (cAt (bodyOf Try.f58) [1, 1, 1, 1, 1])] (SFs m o ng) [] 1 [] (.p (.str s)) =
    some [((m != 0) = false),
  (ng = true),
  ((((ByteArray.mk #[45]).size + o.size) : Nat) ≤ 9223372036854775807),
  (ByteArray.mk #[45] ++ o = s)] := by kernel_rfl
theorem fSf (m : Int) (o s : ByteArray) (ng : Bool) :
    pathOb Try.prog Try.f58 0 [.reg [oT, oT], .dec false, .reg [oT], .dec false, .reg [oT, oT]] [.code (cAt (bodyOf Try.f58) [1, 1, 1, 1, 0, 0, 0]), .inLoop (cAt (bodyOf Try.f58) [1, 1, 1, 1, 0, 0, 0]), .inBlock 0, .code (cAt (bodyOf Try.f58) [1, 1, 1, 1, 1])] (SFs m o ng) [] 1 [] (.p (.str s)) =
    some [((m != 0) = false),
  (ng = false),
  (o = s)] := by kernel_rfl
theorem fI0 (n : Int) (s : ByteArray) :
    pathOb Try.prog Try.f67 0 [.reg [oT], .reg [oT, oT], .dec true, .reg [oT]] [.code (bodyOf Try.f67)] (start Try.f67 [] 0 [.p (.int .i64 n)]) [] 1 [] (.p (.str s)) =
    some [((n == 0) = true),
  (ByteArray.mk #[48] = s)] := by kernel_rfl
theorem fIz (n : Int) :
    pieceOb Try.prog 0 [.reg [oT], .reg [oT, oT], .dec false, .reg [oT, oT], .reg [oT, oT], .head] [.code (bodyOf Try.f67)] (start Try.f67 [] 0 [.p (.int .i64 n)]) [96] 1 (SFi n n 0 (fun _ => 0)) =
    some ([.code (cAt (bodyOf Try.f67) [1, 1, 1, 0, 1, 0, 0]), .inLoop (cAt (bodyOf Try.f67) [1, 1, 1, 0, 1, 0, 0]), .inBlock 0, .code (cAt (bodyOf Try.f67) [1, 1, 1, 1])], [((n == 0) = false),
  (AI n),
  (AN 0),
  (AN 0),
  (AI n),
  (AN 1),
  ((0 : Nat) ≤ 0),
  (∀ i : Nat, (((i : Nat) < 0) → (All [] ∧ (([.p .any] : List AV) = [.p (.int .u8 0)]))))]) := by kernel_rfl
theorem fIn (n m m2 : Int) (l : Nat) (f : Nat → Int) (x : Int) :
    pieceOb Try.prog 0 [.reg [oT, oT], .dec true, .reg [oT, oF, oT], .reg [oT, oT], .dec true, .reg [oT, oT, oT], .reg [oT, oT, oT, oT, oT, oT, oT], .reg [oT, oF, oT], .head] [.code (cAt (bodyOf Try.f67) [1, 1, 1, 0, 1, 0, 0]), .inLoop (cAt (bodyOf Try.f67) [1, 1, 1, 0, 1, 0, 0]), .inBlock 0, .code (cAt (bodyOf Try.f67) [1, 1, 1, 1])] (SFi n m l f) [481] 1 (SFi n m2 (l + 1) (apF l f x)) =
    some ([.code (cAt (bodyOf Try.f67) [1, 1, 1, 0, 1, 0, 0]), .inLoop (cAt (bodyOf Try.f67) [1, 1, 1, 0, 1, 0, 0]), .inBlock 0, .code (cAt (bodyOf Try.f67) [1, 1, 1, 1])], [((m != 0) = true),
  ((10 : Int) ≠ 0),
  ((decide (m.tmod 10 < 0)) = true),
  (((-9223372036854775808) : Int) ≤ (0 - m.tmod 10)),
  (((0 - m.tmod 10) : Int) ≤ 9223372036854775807),
  (((-9223372036854775808) : Int) ≤ (48 + (0 - m.tmod 10))),
  (((48 + (0 - m.tmod 10)) : Int) ≤ 9223372036854775807),
  ((0 : Int) ≤ (48 + (0 - m.tmod 10))),
  (((48 + (0 - m.tmod 10)) : Int) ≤ 255),
  ((1 : Nat) ≤ 1),
  ((l : Nat) ≤ l),
  ((((l + 1) * 1) : Nat) ≤ 140737488355328),
  (((l + 1) : Nat) ≤ 9223372036854775807),
  ((10 : Int) ≠ 0),
  (AI n),
  (AN 0),
  (AN ((l + 1))),
  (((IntKind.i64.wrap (m.tdiv 10)) : Int) = m2),
  (AN 1),
  (((l + 1) : Nat) ≤ (l + 1)),
  (∀ i : Nat, (((i : Nat) < (l + 1)) → (All (cvtL false [(481, ⟨false, 1, (l + 1), (fun i_1 => (if (i_1 < l) then [.p (.int .u8 (f i_1))] else [.p (.int .u8 (48 + (0 - m.tmod 10)))]))⟩), (449, ⟨false, 1, 1, (fun i_1 => [.p (.int .u8 (48 + (0 - m.tmod 10)))])⟩)] [481] 1 (if (i < l) then [.p (.int .u8 (f i))] else [.p (.int .u8 (48 + (0 - m.tmod 10)))])).2 ∧ (((cvtL false [(481, ⟨false, 1, (l + 1), (fun i_1 => (if (i_1 < l) then [.p (.int .u8 (f i_1))] else [.p (.int .u8 (48 + (0 - m.tmod 10)))]))⟩), (449, ⟨false, 1, 1, (fun i_1 => [.p (.int .u8 (48 + (0 - m.tmod 10)))])⟩)] [481] 1 (if (i < l) then [.p (.int .u8 (f i))] else [.p (.int .u8 (48 + (0 - m.tmod 10)))])).1 : List AV) = [.p (.int .u8 (apF l f x i))]))))]) := by kernel_rfl
theorem fIp (n m m2 : Int) (l : Nat) (f : Nat → Int) (x : Int) :
    pieceOb Try.prog 0 [.reg [oT, oT], .dec true, .reg [oT, oF, oT], .reg [oT, oT], .dec false, .reg [oT, oT, oT, oT, oT, oT, oT], .reg [oT, oF, oT], .head] [.code (cAt (bodyOf Try.f67) [1, 1, 1, 0, 1, 0, 0]), .inLoop (cAt (bodyOf Try.f67) [1, 1, 1, 0, 1, 0, 0]), .inBlock 0, .code (cAt (bodyOf Try.f67) [1, 1, 1, 1])] (SFi n m l f) [385] 1 (SFi n m2 (l + 1) (apF l f x)) =
    some ([.code (cAt (bodyOf Try.f67) [1, 1, 1, 0, 1, 0, 0]), .inLoop (cAt (bodyOf Try.f67) [1, 1, 1, 0, 1, 0, 0]), .inBlock 0, .code (cAt (bodyOf Try.f67) [1, 1, 1, 1])], [((m != 0) = true),
  ((10 : Int) ≠ 0),
  ((decide (m.tmod 10 < 0)) = false),
  (((-9223372036854775808) : Int) ≤ (48 + m.tmod 10)),
  (((48 + m.tmod 10) : Int) ≤ 9223372036854775807),
  ((0 : Int) ≤ (48 + m.tmod 10)),
  (((48 + m.tmod 10) : Int) ≤ 255),
  ((1 : Nat) ≤ 1),
  ((l : Nat) ≤ l),
  ((((l + 1) * 1) : Nat) ≤ 140737488355328),
  (((l + 1) : Nat) ≤ 9223372036854775807),
  ((10 : Int) ≠ 0),
  (AI n),
  (AN 0),
  (AN ((l + 1))),
  (((IntKind.i64.wrap (m.tdiv 10)) : Int) = m2),
  (AN 1),
  (((l + 1) : Nat) ≤ (l + 1)),
  (∀ i : Nat, (((i : Nat) < (l + 1)) → (All (cvtL false [(385, ⟨false, 1, (l + 1), (fun i_1 => (if (i_1 < l) then [.p (.int .u8 (f i_1))] else [.p (.int .u8 (48 + m.tmod 10))]))⟩), (353, ⟨false, 1, 1, (fun i_1 => [.p (.int .u8 (48 + m.tmod 10))])⟩)] [385] 1 (if (i < l) then [.p (.int .u8 (f i))] else [.p (.int .u8 (48 + m.tmod 10))])).2 ∧ (((cvtL false [(385, ⟨false, 1, (l + 1), (fun i_1 => (if (i_1 < l) then [.p (.int .u8 (f i_1))] else [.p (.int .u8 (48 + m.tmod 10))]))⟩), (353, ⟨false, 1, 1, (fun i_1 => [.p (.int .u8 (48 + m.tmod 10))])⟩)] [385] 1 (if (i < l) then [.p (.int .u8 (f i))] else [.p (.int .u8 (48 + m.tmod 10))])).1 : List AV) = [.p (.int .u8 (apF l f x i))]))))]) := by kernel_rfl
theorem fIt (n m : Int) (l : Nat) (f : Nat → Int) :
    pieceOb Try.prog 0 [.reg [oT, oT], .dec false, .reg [oT, oT], .dec true, .reg [oT, oT, oT, oT], .reg [oT, oT, oT, oT, oT], .head] [.code (cAt (bodyOf Try.f67) [1, 1, 1, 0, 1, 0, 0]), .inLoop (cAt (bodyOf Try.f67) [1, 1, 1, 0, 1, 0, 0]), .inBlock 0, .code (cAt (bodyOf Try.f67) [1, 1, 1, 1])] (SFi n m l f) [193] 1 (SFr (l + 1) 0 (((l + 1 : Nat) : Int) - 1) (apF l f 45)) =
    some ([.code (cAt (bodyOf Try.f67) [1, 1, 1, 1, 1, 0, 1, 0, 0]), .inLoop (cAt (bodyOf Try.f67) [1, 1, 1, 1, 1, 0, 1, 0, 0]), .inBlock 2, .code (cAt (bodyOf Try.f67) [1, 1, 1, 1, 1, 1])], [((m != 0) = false),
  ((decide (n < 0)) = true),
  ((1 : Nat) ≤ 1),
  ((l : Nat) ≤ l),
  ((((l + 1) * 1) : Nat) ≤ 140737488355328),
  (((l + 1) : Nat) ≤ 9223372036854775807),
  (((-9223372036854775808) : Int) ≤ ((↑(l + 1) : Int) - 1)),
  ((((↑(l + 1) : Int) - 1) : Int) ≤ 9223372036854775807),
  (AN 0),
  (AN ((l + 1))),
  ((0 : Int) = (↑0 : Int)),
  (AI (((↑(l + 1) : Int) - 1))),
  (AN 1),
  (((l + 1) : Nat) ≤ (l + 1)),
  (∀ i : Nat, (((i : Nat) < (l + 1)) → (All (cvtL false [(193, ⟨false, 1, (l + 1), (fun i_1 => (if (i_1 < l) then [.p (.int .u8 (f i_1))] else [.p (.int .u8 45)]))⟩), (161, ⟨false, 1, 1, (fun i_1 => [.p (.int .u8 45)])⟩)] [193] 1 (if (i < l) then [.p (.int .u8 (f i))] else [.p (.int .u8 45)])).2 ∧ (((cvtL false [(193, ⟨false, 1, (l + 1), (fun i_1 => (if (i_1 < l) then [.p (.int .u8 (f i_1))] else [.p (.int .u8 45)]))⟩), (161, ⟨false, 1, 1, (fun i_1 => [.p (.int .u8 45)])⟩)] [193] 1 (if (i < l) then [.p (.int .u8 (f i))] else [.p (.int .u8 45)])).1 : List AV) = [.p (.int .u8 (apF l f 45 i))]))))]) := by kernel_rfl
theorem fIf (n m : Int) (l : Nat) (f : Nat → Int) :
    pieceOb Try.prog 0 [.reg [oT, oT], .dec false, .reg [oT, oT], .dec false, .reg [oT, oT, oT, oT, oT], .head] [.code (cAt (bodyOf Try.f67) [1, 1, 1, 0, 1, 0, 0]), .inLoop (cAt (bodyOf Try.f67) [1, 1, 1, 0, 1, 0, 0]), .inBlock 0, .code (cAt (bodyOf Try.f67) [1, 1, 1, 1])] (SFi n m l f) [0] 1 (SFr l 0 ((l : Int) - 1) f) =
    some ([.code (cAt (bodyOf Try.f67) [1, 1, 1, 1, 1, 0, 1, 0, 0]), .inLoop (cAt (bodyOf Try.f67) [1, 1, 1, 1, 1, 0, 1, 0, 0]), .inBlock 2, .code (cAt (bodyOf Try.f67) [1, 1, 1, 1, 1, 1])], [((m != 0) = false),
  ((decide (n < 0)) = false),
  (((-9223372036854775808) : Int) ≤ ((↑l : Int) - 1)),
  ((((↑l : Int) - 1) : Int) ≤ 9223372036854775807),
  (AN 0),
  (AN l),
  ((0 : Int) = (↑0 : Int)),
  (AI (((↑l : Int) - 1))),
  (AN 1),
  ((l : Nat) ≤ l),
  (AA l (fun i => [.p (.int .u8 (f i))]))]) := by kernel_rfl
theorem fIs (l i : Nat) (j : Int) (f : Nat → Int) :
    pieceOb Try.prog 0 [.reg [oT, oT, oT], .dec true, .reg [oT, oT, oT, oT, oT, oT, oT, oT, oT, oT, oT, oT, oT, oT, oT, oT], .reg [oT, oT, oT, oT, oT, oT], .head] [.code (cAt (bodyOf Try.f67) [1, 1, 1, 1, 1, 0, 1, 0, 0]), .inLoop (cAt (bodyOf Try.f67) [1, 1, 1, 1, 1, 0, 1, 0, 0]), .inBlock 2, .code (cAt (bodyOf Try.f67) [1, 1, 1, 1, 1, 1])] (SFr l i j f) [0] 1 (SFr l (i + 1) (j - 1) (swF i j.toNat f)) =
    some ([.code (cAt (bodyOf Try.f67) [1, 1, 1, 1, 1, 0, 1, 0, 0]), .inLoop (cAt (bodyOf Try.f67) [1, 1, 1, 1, 1, 0, 1, 0, 0]), .inBlock 2, .code (cAt (bodyOf Try.f67) [1, 1, 1, 1, 1, 1])], [((decide ((↑i : Int) < j)) = true),
  ((0 : Int) ≤ j),
  ((j : Int) < (↑l : Int)),
  ((j.toNat : Nat) < l),
  ((0 : Int) ≤ (↑i : Int)),
  (((↑i : Int) : Int) < (↑l : Int)),
  ((i : Nat) < l),
  ((0 : Int) ≤ (↑i : Int)),
  (((↑i : Int) : Int) < (↑l : Int)),
  ((i : Nat) < l),
  ((false = true) → ((l : Nat) = 1)),
  ((0 : Int) ≤ j),
  ((j : Int) < (↑l : Int)),
  ((j.toNat : Nat) < l),
  ((false = true) → ((l : Nat) = 1)),
  (((-9223372036854775808) : Int) ≤ ((↑i : Int) + 1)),
  ((((↑i : Int) + 1) : Int) ≤ 9223372036854775807),
  (((-9223372036854775808) : Int) ≤ (j - 1)),
  (((j - 1) : Int) ≤ 9223372036854775807),
  (AN 0),
  (AN l),
  ((((↑i : Int) + 1) : Int) = (↑(i + 1) : Int)),
  (AI ((j - 1))),
  (AN 1),
  ((l : Nat) ≤ l),
  (∀ i_1 : Nat, (((i_1 : Nat) < l) → (All (cvtL false [(0, ⟨false, 1, l, (fun i_2 => (if (i_2 = j.toNat) then [.p (.int .u8 (f i))] else (if (i_2 = i) then [.p (.int .u8 (f j.toNat))] else [.p (.int .u8 (f i_2))])))⟩)] [0] 1 (if (i_1 = j.toNat) then [.p (.int .u8 (f i))] else (if (i_1 = i) then [.p (.int .u8 (f j.toNat))] else [.p (.int .u8 (f i_1))]))).2 ∧ (((cvtL false [(0, ⟨false, 1, l, (fun i_2 => (if (i_2 = j.toNat) then [.p (.int .u8 (f i))] else (if (i_2 = i) then [.p (.int .u8 (f j.toNat))] else [.p (.int .u8 (f i_2))])))⟩)] [0] 1 (if (i_1 = j.toNat) then [.p (.int .u8 (f i))] else (if (i_1 = i) then [.p (.int .u8 (f j.toNat))] else [.p (.int .u8 (f i_1))]))).1 : List AV) = [.p (.int .u8 (swF i j.toNat f i_1))]))))]) := by kernel_rfl
theorem fIe (l i : Nat) (j : Int) (f : Nat → Int) (s : ByteArray) :
    pathOb Try.prog Try.f67 0 [.reg [oT, oT, oT], .dec false, .reg [oT, oT, oT]] [.code (cAt (bodyOf Try.f67) [1, 1, 1, 1, 1, 0, 1, 0, 0]), .inLoop (cAt (bodyOf Try.f67) [1, 1, 1, 1, 1, 0, 1, 0, 0]), .inBlock 2, .code (cAt (bodyOf Try.f67) [1, 1, 1, 1, 1, 1])] (SFr l i j f) [] 1 [] (.p (.str s)) =
    some [((decide ((↑i : Int) < j)) = false),
  ((l : Nat) ≤ l),
  (okBytes l (fun i_1 => [.p (.int .u8 (f i_1))])),
  ((bytesOf l fun i => [AV.p (PV.int IntKind.u8 (f i))]) = s)] := by kernel_rfl
def dg : Nat → Nat → List Int
  | 0, _ => []
  | f + 1, m => if m = 0 then [] else (48 + ((m % 10 : Nat) : Int)) :: dg f (m / 10)
def bs (l : List Int) : ByteArray := l.foldl (fun r n => r.push (UInt8.ofNat n.toNat)) ByteArray.empty
def fmtL (n : Int) : List Int := dg 20 n.natAbs ++ (if n < 0 then [45] else [])
def fmtI (n : Int) : ByteArray := if n = 0 then bs [48] else bs (fmtL n).reverse
theorem bs_fold (l : List Int) : ∀ s : ByteArray, (l.foldl (fun r n => r.push (UInt8.ofNat n.toNat)) s).data = s.data ++ (l.map fun n => UInt8.ofNat n.toNat).toArray := by
  induction l with
  | nil => intro s; simp
  | cons x l ih =>
    intro s
    simp only [List.foldl_cons, ih, List.map_cons]
    show s.data.push (UInt8.ofNat x.toNat) ++ _ = _
    simp
theorem bs_data (l : List Int) : (bs l).data = (l.map fun n => UInt8.ofNat n.toNat).toArray := by
  rw [bs, bs_fold]
  show #[] ++ _ = _
  simp
theorem bs_append (a b : List Int) : bs (a ++ b) = bs a ++ bs b := by
  apply ByteArray.ext
  rw [bs_data, ByteArray.data_append, bs_data, bs_data]
  simp
theorem bs_size (l : List Int) : (bs l).size = l.length := by
  show (bs l).data.size = _
  rw [bs_data]; simp
theorem bytesOf_bs (m : Nat) (f : Nat → Int) : bytesOf m (fun i => [.p (.int .u8 (f i))]) = bs ((List.range m).map f) := rfl
theorem tm10 (c : Int) : c.tmod 10 = if 0 ≤ c then ((c.natAbs % 10 : Nat) : Int) else -((c.natAbs % 10 : Nat) : Int) := by
  obtain ⟨k, rfl | rfl⟩ := c.eq_nat_or_neg
  · rw [if_pos (by omega), Int.natAbs_natCast]; rfl
  · by_cases h : k = 0
    · subst h; rfl
    · rw [if_neg (by omega), Int.neg_tmod, Int.natAbs_neg, Int.natAbs_natCast]; rfl
theorem td10 (c : Int) : c.tdiv 10 = if 0 ≤ c then ((c.natAbs / 10 : Nat) : Int) else -((c.natAbs / 10 : Nat) : Int) := by
  obtain ⟨k, rfl | rfl⟩ := c.eq_nat_or_neg
  · rw [if_pos (by omega), Int.natAbs_natCast]; rfl
  · by_cases h : k = 0
    · subst h; rfl
    · rw [if_neg (by omega), Int.neg_tdiv, Int.natAbs_neg, Int.natAbs_natCast]; rfl
theorem td_abs (c : Int) : (c.tdiv 10).natAbs = c.natAbs / 10 := by
  rw [td10]; split <;> omega
theorem dg_len : ∀ f m, (dg f m).length ≤ f
  | 0, _ => Nat.le_refl _
  | f + 1, m => by
    simp only [dg]
    split
    · simp
    · have := dg_len f (m / 10); simp; omega
theorem fmt_size (n : Int) : (fmtI n).size ≤ 21 := by
  unfold fmtI
  split
  · simp [bs_size]
  · rw [bs_size, fmtL, List.length_reverse, List.length_append]
    have := dg_len 20 n.natAbs
    split <;> simp <;> omega
theorem con_FormatInt_s (n : Int) (h0 : -9223372036854775808 ≤ n) (h1 : n ≤ 9223372036854775807) : Con Try.prog 58 0 [] [.p (.int .i64 n)] [] (.p (.str (fmtI n))) := by
  refine con_start Try.func58 rfl (by kernel_rfl) rfl (fun c hc => ?_)
  by_cases hz : n = 0
  · subst hz
    refine path_ok mixed Try.func58 hc (fS0 0 (fmtI 0)) ?_
    simp only [All]
    repeat' (first | exact trivial | with_reducible apply And.intro)
    all_goals (first | exact aG _ | exact aP _ _ | exact aA _ _ | exact aE _ | omega | rfl | (intros; first | assumption | exact True.intro | rfl | exact absurd (show false = true by assumption) Bool.false_ne_true | ((repeat' (first | assumption | apply anda | apply notf)); done)) | rfl | (exact ByteArray.ext (by rw [fmtI, if_pos rfl, bs_data]; rfl)))
  have hz' : (n == 0) = false := by simpa using hz
  have lp : ∀ f m l, l.length + f = 20 → m.natAbs < 10 ^ f → dg 20 n.natAbs = l ++ dg f m.natAbs → (n < 0 → m ≤ 0) → (0 ≤ n → 0 ≤ m) → -9223372036854775808 ≤ m → m ≤ 9223372036854775807 →
      Run Try.prog c 58 [.code (cAt (bodyOf Try.f58) [1, 1, 1, 1, 0, 0, 0]), .inLoop (cAt (bodyOf Try.f58) [1, 1, 1, 1, 0, 0, 0]), .inBlock 0, .code (cAt (bodyOf Try.f58) [1, 1, 1, 1, 1])] (SFs m (bs l.reverse) (decide (n < 0))) (Post c [] (.p (.str (fmtI n)))) := by
    have fin : ∀ l, dg 20 n.natAbs = l → l.length ≤ 20 → Run Try.prog c 58 [.code (cAt (bodyOf Try.f58) [1, 1, 1, 1, 0, 0, 0]), .inLoop (cAt (bodyOf Try.f58) [1, 1, 1, 1, 0, 0, 0]), .inBlock 0, .code (cAt (bodyOf Try.f58) [1, 1, 1, 1, 1])] (SFs 0 (bs l.reverse) (decide (n < 0))) (Post c [] (.p (.str (fmtI n)))) := by
      intro l hl hl2
      have hsz := bs_size l.reverse
      rw [List.length_reverse] at hsz
      by_cases hn : n < 0
      · rw [decide_eq_true hn]
        refine path_ok mixed Try.func58 hc (fSt 0 (bs l.reverse) (fmtI n) true) ?_
        simp only [All]
        repeat' (first | exact trivial | with_reducible apply And.intro)
        all_goals (first | exact aG _ | exact aP _ _ | exact aA _ _ | exact aE _ | omega | rfl | (intros; first | assumption | exact True.intro | rfl | exact absurd (show false = true by assumption) Bool.false_ne_true | ((repeat' (first | assumption | apply anda | apply notf)); done)) | (show _ + (bs l.reverse).size ≤ _; rw [hsz]; show 1 + l.length ≤ _; omega) | (rw [fmtI, if_neg hz, fmtL, if_pos hn, hl, List.reverse_append, bs_append]; exact congrArg (· ++ bs l.reverse) (ByteArray.ext (by rw [bs_data]; rfl))))
      · rw [decide_eq_false hn]
        refine path_ok mixed Try.func58 hc (fSf 0 (bs l.reverse) (fmtI n) false) ?_
        simp only [All]
        repeat' (first | exact trivial | with_reducible apply And.intro)
        all_goals (first | exact aG _ | exact aP _ _ | exact aA _ _ | exact aE _ | omega | rfl | (intros; first | assumption | exact True.intro | rfl | exact absurd (show false = true by assumption) Bool.false_ne_true | ((repeat' (first | assumption | apply anda | apply notf)); done)) | (rw [fmtI, if_neg hz, fmtL, if_neg hn, hl, List.append_nil]))
    intro f
    induction f with
    | zero =>
      intro m l hl hm hd hs1 hs2 hb1 hb2
      obtain rfl : m = 0 := by simp at hm; omega
      exact fin l (by rw [hd]; simp [dg]) (by omega)
    | succ f ih =>
      intro m l hl hm hd hs1 hs2 hb1 hb2
      by_cases hm0 : m = 0
      · subst hm0
        exact fin l (by rw [hd]; simp [dg]) (by omega)
      have hmt : (m != 0) = true := by simpa using hm0
      have hma : m.natAbs ≠ 0 := by omega
      have htd := td10 m
      have hrec := ih (m.tdiv 10) (l ++ [48 + ((m.natAbs % 10 : Nat) : Int)]) (by simp; omega) (by rw [td_abs]; rw [Nat.pow_succ] at hm; omega) (by rw [hd, td_abs, dg, if_neg hma]; simp) (by intro h; rw [htd]; split <;> omega) (by intro h; rw [htd]; split <;> omega) (by rw [htd]; split <;> omega) (by rw [htd]; split <;> omega)
      have hw : IntKind.i64.wrap (m.tdiv 10) = m.tdiv 10 := wrap_in (k := .i64) (by show (-9223372036854775808 : Int) ≤ _; rw [htd]; split <;> omega) (by show _ ≤ (9223372036854775807 : Int); rw [htd]; split <;> omega)
      have htm := tm10 m
      have hsz := bs_size l.reverse
      rw [List.length_reverse] at hsz
      have hb : ∀ d : Int, bytesOf 1 (fun _ => [.p (.int .u8 (48 + d))]) = bs [48 + d] := fun d => rfl
      have hout : ∀ d : Int, d = ((m.natAbs % 10 : Nat) : Int) → bs [48 + d] ++ bs l.reverse = bs (l ++ [48 + ((m.natAbs % 10 : Nat) : Int)]).reverse := by
        intro d hd'
        rw [List.reverse_append, bs_append, hd']; rfl
      by_cases hneg : m.tmod 10 < 0
      · have hng : decide (m.tmod 10 < 0) = true := decide_eq_true hneg
        have hd' : 0 - m.tmod 10 = ((m.natAbs % 10 : Nat) : Int) := by rw [htm] at hneg ⊢; split at hneg <;> simp_all <;> omega
        refine piece_ok mixed hc (fSn m (m.tdiv 10) (bs l.reverse) (bs (l ++ [48 + ((m.natAbs % 10 : Nat) : Int)]).reverse) (decide (n < 0))) ?_ hrec
        simp only [All]
        repeat' (first | exact trivial | with_reducible apply And.intro)
        all_goals (first | exact aG _ | exact aP _ _ | exact aA _ _ | exact aE _ | omega | rfl | (intros; first | assumption | exact True.intro | rfl | exact absurd (show false = true by assumption) Bool.false_ne_true | ((repeat' (first | assumption | apply anda | apply notf)); done)) | (exact hmt) | (exact hng) | (exact hw) | (intro i hi; exact ⟨_, rfl⟩) | (show (bs [48 + (0 - m.tmod 10)]).size + (bs l.reverse).size ≤ _; rw [hsz, bs_size]; show 1 + l.length ≤ _; omega) | (exact hout _ hd') | (show (_ : Int) ≤ _; rw [hd']; omega) | (simp only [imin, imax]; omega))
      · have hng : decide (m.tmod 10 < 0) = false := decide_eq_false hneg
        have hd' : m.tmod 10 = ((m.natAbs % 10 : Nat) : Int) := by rw [htm] at hneg ⊢; split at hneg <;> simp_all <;> omega
        refine piece_ok mixed hc (fSp m (m.tdiv 10) (bs l.reverse) (bs (l ++ [48 + ((m.natAbs % 10 : Nat) : Int)]).reverse) (decide (n < 0))) ?_ hrec
        simp only [All]
        repeat' (first | exact trivial | with_reducible apply And.intro)
        all_goals (first | exact aG _ | exact aP _ _ | exact aA _ _ | exact aE _ | omega | rfl | (intros; first | assumption | exact True.intro | rfl | exact absurd (show false = true by assumption) Bool.false_ne_true | ((repeat' (first | assumption | apply anda | apply notf)); done)) | (exact hmt) | (exact hng) | (exact hw) | (intro i hi; exact ⟨_, rfl⟩) | (show (bs [48 + m.tmod 10]).size + (bs l.reverse).size ≤ _; rw [hsz, bs_size]; show 1 + l.length ≤ _; omega) | (exact hout _ hd') | (show (_ : Int) ≤ _; rw [hd']; omega) | (simp only [imin, imax]; omega))
  refine piece_ok mixed hc (fSz n (bs [])) ?_ (lp 20 n [] rfl (by omega) rfl (fun h => by omega) (fun h => h) h0 h1)
  simp only [All]
  repeat' (first | exact trivial | with_reducible apply And.intro)
  all_goals (first | exact aG _ | exact aP _ _ | exact aA _ _ | exact aE _ | omega | rfl | (intros; first | assumption | exact True.intro | rfl | exact absurd (show false = true by assumption) Bool.false_ne_true | ((repeat' (first | assumption | apply anda | apply notf)); done)) | (exact hz') | rfl)
def lsI (n : Nat) (f : Nat → Int) : List Int := (List.range n).map f
theorem lsI_ap (n : Nat) (f : Nat → Int) (x : Int) : lsI (n + 1) (apF n f x) = lsI n f ++ [x] := by
  simp only [lsI, List.range_succ, List.map_append, List.map_cons, List.map_nil]
  congr 1
  · exact List.map_congr_left (fun i hi => by simp [apF, List.mem_range.1 hi])
  · simp [apF]
theorem lsI_rev (n : Nat) (f g : Nat → Int) (h : ∀ r, r < n → g r = f (n - 1 - r)) : lsI n g = (lsI n f).reverse := by
  apply List.ext_getElem
  · simp [lsI]
  · intro i h1 h2
    simp only [lsI, List.length_map, List.length_range] at h1
    simp [lsI, h i h1]
theorem con_FormatInt_i (n : Int) (h0 : -9223372036854775808 ≤ n) (h1 : n ≤ 9223372036854775807) : Con Try.prog 67 0 [] [.p (.int .i64 n)] [] (.p (.str (fmtI n))) := by
  refine con_start Try.func67 rfl (by kernel_rfl) rfl (fun c hc => ?_)
  by_cases hz : n = 0
  · subst hz
    refine path_ok mixed Try.func67 hc (fI0 0 (fmtI 0)) ?_
    simp only [All]
    repeat' (first | exact trivial | with_reducible apply And.intro)
    all_goals (first | exact aG _ | exact aP _ _ | exact aA _ _ | exact aE _ | omega | rfl | (intros; first | assumption | exact True.intro | rfl | exact absurd (show false = true by assumption) Bool.false_ne_true | ((repeat' (first | assumption | apply anda | apply notf)); done)) | rfl | (exact ByteArray.ext (by rw [fmtI, if_pos rfl, bs_data]; rfl)))
  have hz' : (n == 0) = false := by simpa using hz
  have lr : ∀ L f0, L ≤ 21 → lsI L f0 = fmtL n → ∀ d i f, i + d = L → i ≤ L → 2 * i ≤ L + 1 → (∀ r, r < L → f r = if r < i ∨ L - i ≤ r then f0 (L - 1 - r) else f0 r) →
      Run Try.prog c 67 [.code (cAt (bodyOf Try.f67) [1, 1, 1, 1, 1, 0, 1, 0, 0]), .inLoop (cAt (bodyOf Try.f67) [1, 1, 1, 1, 1, 0, 1, 0, 0]), .inBlock 2, .code (cAt (bodyOf Try.f67) [1, 1, 1, 1, 1, 1])] (SFr L i ((L : Int) - 1 - i) f) (Post c [] (.p (.str (fmtI n)))) := by
    intro L f0 hL hl d
    have fin : ∀ i f, i ≤ L → 2 * i ≤ L + 1 → L ≤ 2 * i + 1 → (∀ r, r < L → f r = if r < i ∨ L - i ≤ r then f0 (L - 1 - r) else f0 r) →
        Run Try.prog c 67 [.code (cAt (bodyOf Try.f67) [1, 1, 1, 1, 1, 0, 1, 0, 0]), .inLoop (cAt (bodyOf Try.f67) [1, 1, 1, 1, 1, 0, 1, 0, 0]), .inBlock 2, .code (cAt (bodyOf Try.f67) [1, 1, 1, 1, 1, 1])] (SFr L i ((L : Int) - 1 - i) f) (Post c [] (.p (.str (fmtI n)))) := by
      intro i f hi hi2 hi3 hf
      have hd : decide ((i : Int) < (L : Int) - 1 - i) = false := decide_eq_false (by omega)
      have hrev : ∀ r, r < L → f r = f0 (L - 1 - r) := by
        intro r hr
        rw [hf r hr]
        split
        · rfl
        · rename_i h
          rw [show L - 1 - r = r by omega]
      have he := lsI_rev L f0 f hrev
      refine path_ok mixed Try.func67 hc (fIe L i ((L : Int) - 1 - i) f (fmtI n)) ?_
      simp only [All]
      repeat' (first | exact trivial | with_reducible apply And.intro)
      all_goals (first | exact aG _ | exact aP _ _ | exact aA _ _ | exact aE _ | omega | rfl | (intros; first | assumption | exact True.intro | rfl | exact absurd (show false = true by assumption) Bool.false_ne_true | ((repeat' (first | assumption | apply anda | apply notf)); done)) | (exact hd) | (intro r hr; exact ⟨_, rfl⟩) | (rw [bytesOf_bs]; show bs (lsI L f) = _; rw [he, hl, fmtI, if_neg hz]))
    induction d with
    | zero =>
      intro i f hi hi1 hi2 hf
      exact fin i f hi1 hi2 (by omega) hf
    | succ d ih =>
      intro i f hi hi1 hi2 hf
      by_cases hlt : (i : Int) < (L : Int) - 1 - i
      · have hd : decide ((i : Int) < (L : Int) - 1 - i) = true := decide_eq_true hlt
        have hj : ((L : Int) - 1 - i).toNat = L - 1 - i := by omega
        have hrec := ih (i + 1) (swF i ((L : Int) - 1 - i).toNat f) (by omega) (by omega) (by omega) (by
          intro r hr
          rw [hj]
          unfold swF
          by_cases e1 : r = L - 1 - i
          · rw [if_pos e1, if_pos (by omega), hf i (by omega), if_neg (by omega), e1]
            rw [show L - 1 - (L - 1 - i) = i by omega]
          · rw [if_neg e1]
            by_cases e2 : r = i
            · rw [if_pos e2, if_pos (by omega), hf (L - 1 - i) (by omega), if_neg (by omega), e2]
            · rw [if_neg e2, hf r hr]
              by_cases e3 : r < i ∨ L - i ≤ r
              · rw [if_pos e3, if_pos (by omega)]
              · rw [if_neg e3, if_neg (by omega)])
        rw [show (L : Int) - 1 - ((i + 1 : Nat) : Int) = (L : Int) - 1 - i - 1 by omega] at hrec
        refine piece_ok mixed hc (fIs L i ((L : Int) - 1 - i) f) ?_ hrec
        simp only [All]
        repeat' (first | exact trivial | with_reducible apply And.intro)
        all_goals (first | exact aG _ | exact aP _ _ | exact aA _ _ | exact aE _ | omega | rfl | (intros; first | assumption | exact True.intro | rfl | exact absurd (show false = true by assumption) Bool.false_ne_true | ((repeat' (first | assumption | apply anda | apply notf)); done)) | (exact hd) | (intro r hr; generalize ((L : Int) - 1 - i).toNat = J; by_cases e1 : r = J <;> by_cases e2 : r = i <;> (first | (subst e2; simp [e1, swF, cvtL, cvt, tg, tru, All]; done) | (simp [e1, e2, swF, cvtL, cvt, tg, tru, All]; done))) | (simp only [imin, imax]; omega))
      · exact fin i f hi1 hi2 (by omega) hf
  have lp : ∀ f m l g, l + f = 20 → m.natAbs < 10 ^ f → dg 20 n.natAbs = lsI l g ++ dg f m.natAbs → (n < 0 → m ≤ 0) → (0 ≤ n → 0 ≤ m) → -9223372036854775808 ≤ m → m ≤ 9223372036854775807 →
      Run Try.prog c 67 [.code (cAt (bodyOf Try.f67) [1, 1, 1, 0, 1, 0, 0]), .inLoop (cAt (bodyOf Try.f67) [1, 1, 1, 0, 1, 0, 0]), .inBlock 0, .code (cAt (bodyOf Try.f67) [1, 1, 1, 1])] (SFi n m l g) (Post c [] (.p (.str (fmtI n)))) := by
    have fin : ∀ l g, dg 20 n.natAbs = lsI l g → l ≤ 20 → Run Try.prog c 67 [.code (cAt (bodyOf Try.f67) [1, 1, 1, 0, 1, 0, 0]), .inLoop (cAt (bodyOf Try.f67) [1, 1, 1, 0, 1, 0, 0]), .inBlock 0, .code (cAt (bodyOf Try.f67) [1, 1, 1, 1])] (SFi n 0 l g) (Post c [] (.p (.str (fmtI n)))) := by
      intro l g hl hl2
      by_cases hn : n < 0
      · have hd : decide (n < 0) = true := decide_eq_true hn
        have hr := lr (l + 1) (apF l g 45) (by omega) (by rw [lsI_ap, fmtL, if_pos hn, hl]) (l + 1) 0 (apF l g 45) (by omega) (by omega) (by omega) (fun r hr => by rw [if_neg (by omega)])
        rw [show ((l + 1 : Nat) : Int) - 1 - ((0 : Nat) : Int) = ((l + 1 : Nat) : Int) - 1 by omega] at hr
        refine piece_ok mixed hc (fIt n 0 l g) ?_ hr
        simp only [All]
        repeat' (first | exact trivial | with_reducible apply And.intro)
        all_goals (first | exact aG _ | exact aP _ _ | exact aA _ _ | exact aE _ | omega | rfl | (intros; first | assumption | exact True.intro | rfl | exact absurd (show false = true by assumption) Bool.false_ne_true | ((repeat' (first | assumption | apply anda | apply notf)); done)) | (exact hd) | (intro j hj; by_cases h' : j < l <;> simp [h', apF, cvtL, cvt, tg, tru, All]; done) | (simp only [imin, imax]; omega))
      · have hd : decide (n < 0) = false := decide_eq_false hn
        have hr := lr l g (by omega) (by rw [fmtL, if_neg hn, hl, List.append_nil]) l 0 g (by omega) (by omega) (by omega) (fun r hr => by rw [if_neg (by omega)])
        rw [show (l : Int) - 1 - ((0 : Nat) : Int) = (l : Int) - 1 by omega] at hr
        refine piece_ok mixed hc (fIf n 0 l g) ?_ hr
        simp only [All]
        repeat' (first | exact trivial | with_reducible apply And.intro)
        all_goals (first | exact aG _ | exact aP _ _ | exact aA _ _ | exact aE _ | omega | rfl | (intros; first | assumption | exact True.intro | rfl | exact absurd (show false = true by assumption) Bool.false_ne_true | ((repeat' (first | assumption | apply anda | apply notf)); done)) | (exact hd) | (intro j hj; simp [All]; done) | (simp only [imin, imax]; omega))
    intro f
    induction f with
    | zero =>
      intro m l g hl hm hd hs1 hs2 hb1 hb2
      obtain rfl : m = 0 := by simp at hm; omega
      exact fin l g (by rw [hd]; simp [dg]) (by omega)
    | succ f ih =>
      intro m l g hl hm hd hs1 hs2 hb1 hb2
      by_cases hm0 : m = 0
      · subst hm0
        exact fin l g (by rw [hd]; simp [dg]) (by omega)
      have hmt : (m != 0) = true := by simpa using hm0
      have hma : m.natAbs ≠ 0 := by omega
      have htd := td10 m
      have hrec := ih (m.tdiv 10) (l + 1) (apF l g (48 + ((m.natAbs % 10 : Nat) : Int))) (by omega) (by rw [td_abs]; rw [Nat.pow_succ] at hm; omega) (by rw [hd, td_abs, dg, if_neg hma, lsI_ap]; simp) (by intro h; rw [htd]; split <;> omega) (by intro h; rw [htd]; split <;> omega) (by rw [htd]; split <;> omega) (by rw [htd]; split <;> omega)
      have hw : IntKind.i64.wrap (m.tdiv 10) = m.tdiv 10 := wrap_in (k := .i64) (by show (-9223372036854775808 : Int) ≤ _; rw [htd]; split <;> omega) (by show _ ≤ (9223372036854775807 : Int); rw [htd]; split <;> omega)
      have htm := tm10 m
      by_cases hneg : m.tmod 10 < 0
      · have hng : decide (m.tmod 10 < 0) = true := decide_eq_true hneg
        have hd' : 0 - m.tmod 10 = ((m.natAbs % 10 : Nat) : Int) := by rw [htm] at hneg ⊢; split at hneg <;> simp_all <;> omega
        refine piece_ok mixed hc (fIn n m (m.tdiv 10) l g (48 + ((m.natAbs % 10 : Nat) : Int))) ?_ hrec
        simp only [All]
        repeat' (first | exact trivial | with_reducible apply And.intro)
        all_goals (first | exact aG _ | exact aP _ _ | exact aA _ _ | exact aE _ | omega | rfl | (intros; first | assumption | exact True.intro | rfl | exact absurd (show false = true by assumption) Bool.false_ne_true | ((repeat' (first | assumption | apply anda | apply notf)); done)) | (exact hmt) | (exact hng) | (exact hw) | (intro j hj; by_cases h' : j < l <;> simp [h', hd', apF, cvtL, cvt, tg, tru, All]; done) | (show (_ : Int) ≤ _; rw [hd']; omega) | (simp only [imin, imax]; omega))
      · have hng : decide (m.tmod 10 < 0) = false := decide_eq_false hneg
        have hd' : m.tmod 10 = ((m.natAbs % 10 : Nat) : Int) := by rw [htm] at hneg ⊢; split at hneg <;> simp_all <;> omega
        refine piece_ok mixed hc (fIp n m (m.tdiv 10) l g (48 + ((m.natAbs % 10 : Nat) : Int))) ?_ hrec
        simp only [All]
        repeat' (first | exact trivial | with_reducible apply And.intro)
        all_goals (first | exact aG _ | exact aP _ _ | exact aA _ _ | exact aE _ | omega | rfl | (intros; first | assumption | exact True.intro | rfl | exact absurd (show false = true by assumption) Bool.false_ne_true | ((repeat' (first | assumption | apply anda | apply notf)); done)) | (exact hmt) | (exact hng) | (exact hw) | (intro j hj; by_cases h' : j < l <;> simp [h', hd', apF, cvtL, cvt, tg, tru, All]; done) | (show (_ : Int) ≤ _; rw [hd']; omega) | (simp only [imin, imax]; omega))
  refine piece_ok mixed hc (fIz n) ?_ (lp 20 n 0 (fun _ => 0) rfl (by omega) (by simp [lsI]) (fun h => by omega) (fun h => h) h0 h1)
  simp only [All]
  repeat' (first | exact trivial | with_reducible apply And.intro)
  all_goals (first | exact aG _ | exact aP _ _ | exact aA _ _ | exact aE _ | omega | rfl | (intros; first | assumption | exact True.intro | rfl | exact absurd (show false = true by assumption) Bool.false_ne_true | ((repeat' (first | assumption | apply anda | apply notf)); done)) | (exact hz') | (intro j hj; exact absurd hj (Nat.not_lt_zero _)) | rfl)
end Go.Proofs.Ytffnfeefjdmifaa.Mach
namespace Go.Proofs.Ytffnfeefjdmifaa.Mach
open Go
set_option linter.unusedVariables false
set_option linter.unusedSimpArgs false
def sE : ByteArray := ⟨#[]⟩
def sC : ByteArray := ⟨#[44]⟩
def sSp : ByteArray := ⟨#[32]⟩
def sL : ByteArray := ⟨#[123]⟩
def sR : ByteArray := ⟨#[125]⟩
def sNone : ByteArray := ⟨#[110, 111, 110, 101]⟩
def strL (n : Nat) (f : Nat → ByteArray) : AV := .p (.seq true 1 n (fun i => [.str (f i)]))
def stOb (n : Nat) (f : Nat → ByteArray) : Ob := ⟨false, 1, n, fun i => [.p (.str (f i))]⟩
def setsL (n : Nat) (C : Nat → T_IntS) : AV := .p (.seq true 1 n (fun i => [.seq true 1 (C i).1 (fun s => [.int .i64 ((C i).2 s)])]))
def SJ (n : Nat) (f : Nat → ByteArray) (by_ : ByteArray) (k : Nat) (s : ByteArray) : St :=
  ⟨[strL n f, .p (.str by_), .p .any, .p .any, .p .any, .p (.str s), .p .any, .p .any, strL n f, .p (.int .i64 n), .p (.int .i64 k)] ++ List.replicate 14 anyA, [], 0⟩
def SNm (v : T_IntS) (k : Nat) (f : Nat → ByteArray) : St :=
  ⟨[inL v, .p .any, .p .any, .ar 1 0 0 k, .p .any, .p .any, .p .any, inL v, .p (.int .i64 v.1), .p (.int .i64 k)] ++ List.replicate 11 anyA, [(0, stOb k f)], 1⟩
def SFm (n : Nat) (C : Nat → T_IntS) (k : Nat) (f : Nat → ByteArray) : St :=
  ⟨[setsL n C, .p .any, .p .any, .ar 1 0 0 k] ++ List.replicate 6 anyA ++ [setsL n C, .p (.int .i64 n), .p (.int .i64 k)] ++ List.replicate 13 anyA, [(0, stOb k f)], 1⟩
def SFo (n : Nat) (C : Nat → T_IntS) (i : Nat) (s : ByteArray) : St :=
  ⟨[setsL n C, .p .any, .p .any, .p (.str s), .p (.int .i64 i)] ++ List.replicate 41 anyA, [], 0⟩
def SFn (n : Nat) (C : Nat → T_IntS) (i k : Nat) (s : ByteArray) : St :=
  ⟨[setsL n C, .p .any, .p .any, .p (.str s), .p (.int .i64 i), .p (.int .i64 k)] ++ List.replicate 40 anyA, [], 0⟩
theorem jJz (n : Nat) (f : Nat → ByteArray) (by_ : ByteArray) :
    pieceOb Try.prog 0 [.reg [oT], .reg [oT], .reg [oT, oT, oT], .head] [.code (bodyOf Try.f121)] (start Try.f121 [] 0 [strL n f, .p (.str by_)]) [] 1 (SJ n f by_ 0 sE) =
    some ([.code (cAt (bodyOf Try.f121) [1, 1, 0, 1, 0, 0]), .inLoop (cAt (bodyOf Try.f121) [1, 1, 0, 1, 0, 0]), .inBlock 0, .code (cAt (bodyOf Try.f121) [1, 1, 1])], [(AN n),
  (AP n (fun i => [.str (f i)])),
  (by_ = by_),
  (ByteArray.mk #[] = sE),
  (AN n),
  (AP n (fun i => [.str (f i)])),
  (AI ((↑n : Int))),
  ((0 : Int) = (↑0 : Int))]) := by kernel_rfl
theorem jJt (n : Nat) (f : Nat → ByteArray) (by_ : ByteArray) (k : Nat) (s : ByteArray) :
    pieceOb Try.prog 0 [.reg [oT], .dec true, .reg [oT, oT, oT, oT, oT], .reg [oT, oT], .dec true, .reg [oT, oT, oT, oT], .reg [oT, oT, oT, oT], .reg [oT, oT], .head] [.code (cAt (bodyOf Try.f121) [1, 1, 0, 1, 0, 0]), .inLoop (cAt (bodyOf Try.f121) [1, 1, 0, 1, 0, 0]), .inBlock 0, .code (cAt (bodyOf Try.f121) [1, 1, 1])] (SJ n f by_ k s) [] 1 (SJ n f by_ (k + 1) ((s ++ by_) ++ f k)) =
    some ([.code (cAt (bodyOf Try.f121) [1, 1, 0, 1, 0, 0]), .inLoop (cAt (bodyOf Try.f121) [1, 1, 0, 1, 0, 0]), .inBlock 0, .code (cAt (bodyOf Try.f121) [1, 1, 1])], [((decide ((↑k : Int) < (↑n : Int))) = true),
  ((0 : Int) ≤ (↑k : Int)),
  (((↑k : Int) : Int) < (↑n : Int)),
  ((decide ((↑k : Int) > 0)) = true),
  (((s.size + by_.size) : Nat) ≤ 9223372036854775807),
  ((((s ++ by_).size + (f k).size) : Nat) ≤ 9223372036854775807),
  (((-9223372036854775808) : Int) ≤ ((↑k : Int) + 1)),
  ((((↑k : Int) + 1) : Int) ≤ 9223372036854775807),
  (AN n),
  (AP n (fun i => [.str (f i)])),
  (by_ = by_),
  (s ++ by_ ++ f k = s ++ by_ ++ f k),
  (AN n),
  (AP n (fun i => [.str (f i)])),
  (AI ((↑n : Int))),
  ((((↑k : Int) + 1) : Int) = (↑(k + 1) : Int))]) := by kernel_rfl
theorem jJf (n : Nat) (f : Nat → ByteArray) (by_ : ByteArray) (k : Nat) (s : ByteArray) :
    pieceOb Try.prog 0 [.reg [oT], .dec true, .reg [oT, oT, oT, oT, oT], .reg [oT, oT], .dec false, .reg [oT, oT, oT, oT], .reg [oT, oT], .head] [.code (cAt (bodyOf Try.f121) [1, 1, 0, 1, 0, 0]), .inLoop (cAt (bodyOf Try.f121) [1, 1, 0, 1, 0, 0]), .inBlock 0, .code (cAt (bodyOf Try.f121) [1, 1, 1])] (SJ n f by_ k s) [] 1 (SJ n f by_ (k + 1) (s ++ f k)) =
    some ([.code (cAt (bodyOf Try.f121) [1, 1, 0, 1, 0, 0]), .inLoop (cAt (bodyOf Try.f121) [1, 1, 0, 1, 0, 0]), .inBlock 0, .code (cAt (bodyOf Try.f121) [1, 1, 1])], [((decide ((↑k : Int) < (↑n : Int))) = true),
  ((0 : Int) ≤ (↑k : Int)),
  (((↑k : Int) : Int) < (↑n : Int)),
  ((decide ((↑k : Int) > 0)) = false),
  (((s.size + (f k).size) : Nat) ≤ 9223372036854775807),
  (((-9223372036854775808) : Int) ≤ ((↑k : Int) + 1)),
  ((((↑k : Int) + 1) : Int) ≤ 9223372036854775807),
  (AN n),
  (AP n (fun i => [.str (f i)])),
  (by_ = by_),
  (s ++ f k = s ++ f k),
  (AN n),
  (AP n (fun i => [.str (f i)])),
  (AI ((↑n : Int))),
  ((((↑k : Int) + 1) : Int) = (↑(k + 1) : Int))]) := by kernel_rfl
theorem jJe (n : Nat) (f : Nat → ByteArray) (by_ : ByteArray) (k : Nat) (s : ByteArray) :
    pathOb Try.prog Try.f121 0 [.reg [oT], .dec false, .reg [oT, oT]] [.code (cAt (bodyOf Try.f121) [1, 1, 0, 1, 0, 0]), .inLoop (cAt (bodyOf Try.f121) [1, 1, 0, 1, 0, 0]), .inBlock 0, .code (cAt (bodyOf Try.f121) [1, 1, 1])] (SJ n f by_ k s) [] 1 [] (.p (.str s)) =
    some [((decide ((↑k : Int) < (↑n : Int))) = false),
  (s = s)] := by kernel_rfl
theorem jNz (v : T_IntS) (f : Nat → ByteArray) :
    pieceOb Try.prog 0 [.reg [oT], .reg [oT, oT], .reg [oT, oT, oT], .head] [.code (bodyOf Try.f123)] (start Try.f123 [] 0 [inL v]) [32] 1 (SNm v 0 f) =
    some ([.code (cAt (bodyOf Try.f123) [1, 1, 0, 1, 0, 0]), .inLoop (cAt (bodyOf Try.f123) [1, 1, 0, 1, 0, 0]), .inBlock 0, .code (cAt (bodyOf Try.f123) [1, 1, 1])], [(AN v.1),
  (AP v.1 (fun i => [.int .i64 (v.2 i)])),
  (AN 0),
  (AN 0),
  (AN v.1),
  (AP v.1 (fun i => [.int .i64 (v.2 i)])),
  (AI ((↑v.1 : Int))),
  ((0 : Int) = (↑0 : Int)),
  (AN 1),
  ((0 : Nat) ≤ 0),
  (∀ i : Nat, (((i : Nat) < 0) → (All [] ∧ (([.p .any] : List AV) = [.p (.str (f i))]))))]) := by kernel_rfl
theorem jNt (v : T_IntS) (k : Nat) (f : Nat → ByteArray) (s : ByteArray) :
    pieceOb Try.prog 0 [.reg [oT], .dec true, .reg [oT, oT, oT], .reg [oT, oT, ⟨true, (some ⟨[], [], [], 1, [], .p (.str s)⟩), none⟩, oT, oT, oT], .reg [oT, oT], .head] [.code (cAt (bodyOf Try.f123) [1, 1, 0, 1, 0, 0]), .inLoop (cAt (bodyOf Try.f123) [1, 1, 0, 1, 0, 0]), .inBlock 0, .code (cAt (bodyOf Try.f123) [1, 1, 1])] (SNm v k f) [257] 1 (SNm v (k + 1) f) =
    some ([.code (cAt (bodyOf Try.f123) [1, 1, 0, 1, 0, 0]), .inLoop (cAt (bodyOf Try.f123) [1, 1, 0, 1, 0, 0]), .inBlock 0, .code (cAt (bodyOf Try.f123) [1, 1, 1])], [((decide ((↑k : Int) < (↑v.1 : Int))) = true),
  ((0 : Int) ≤ (↑k : Int)),
  (((↑k : Int) : Int) < (↑v.1 : Int)),
  Con Try.prog 67 0 [] [.p (.int .i64 (v.2 k))] [] (.p (.str s)),
  ((1 : Nat) ≤ 1),
  ((k : Nat) ≤ k),
  ((((k + 1) * 16) : Nat) ≤ 140737488355328),
  (((k + 1) : Nat) ≤ 9223372036854775807),
  (((-9223372036854775808) : Int) ≤ ((↑k : Int) + 1)),
  ((((↑k : Int) + 1) : Int) ≤ 9223372036854775807),
  (AN v.1),
  (AP v.1 (fun i => [.int .i64 (v.2 i)])),
  (AN 0),
  (AN ((k + 1))),
  (AN v.1),
  (AP v.1 (fun i => [.int .i64 (v.2 i)])),
  (AI ((↑v.1 : Int))),
  ((((↑k : Int) + 1) : Int) = (↑(k + 1) : Int)),
  (AN 1),
  (((k + 1) : Nat) ≤ (k + 1)),
  (∀ i : Nat, (((i : Nat) < (k + 1)) → (All (cvtL false [(257, ⟨false, 1, (k + 1), (fun i_1 => (if (i_1 < k) then [.p (.str (f i_1))] else [.p (.str s)]))⟩), (225, ⟨false, 1, 1, (fun i_1 => [.p (.str s)])⟩)] [257] 1 (if (i < k) then [.p (.str (f i))] else [.p (.str s)])).2 ∧ (((cvtL false [(257, ⟨false, 1, (k + 1), (fun i_1 => (if (i_1 < k) then [.p (.str (f i_1))] else [.p (.str s)]))⟩), (225, ⟨false, 1, 1, (fun i_1 => [.p (.str s)])⟩)] [257] 1 (if (i < k) then [.p (.str (f i))] else [.p (.str s)])).1 : List AV) = [.p (.str (f i))]))))]) := by kernel_rfl
theorem jNe (v : T_IntS) (k : Nat) (f : Nat → ByteArray) (s : ByteArray) :
    pathOb Try.prog Try.f123 0 [.reg [oT], .dec false, .reg [oT, ⟨true, (some ⟨[], [], [], 1, [], .p (.str s)⟩), none⟩, oT]] [.code (cAt (bodyOf Try.f123) [1, 1, 0, 1, 0, 0]), .inLoop (cAt (bodyOf Try.f123) [1, 1, 0, 1, 0, 0]), .inBlock 0, .code (cAt (bodyOf Try.f123) [1, 1, 1])] (SNm v k f) [] 1 [] (.p (.str s)) =
    some [((decide ((↑k : Int) < (↑v.1 : Int))) = false),
  (AN 1),
  ((k : Nat) ≤ k),
  Con Try.prog 121 0 [] [.p (.seq true 1 k (fun i => [.str (f i)])), .p (.str (ByteArray.mk #[44]))] [] (.p (.str s)),
  (s = s)] := by kernel_rfl
theorem jFn (n : Nat) (C : Nat → T_IntS) :
    pathOb Try.prog Try.f72 0 [.reg [oT], .reg [oT, oT, oT], .dec true, .reg [oT]] [.code (bodyOf Try.f72)] (start Try.f72 [] 0 [setsL n C]) [] 1 [] (.p (.str sNone)) =
    some [(((↑n : Int) == 0) = true),
  (ByteArray.mk #[110, 111, 110, 101] = sNone)] := by kernel_rfl
theorem jFz (n : Nat) (C : Nat → T_IntS) (f : Nat → ByteArray) :
    pieceOb Try.prog 0 [.reg [oT], .reg [oT, oT, oT], .dec false, .reg [oT, oT], .reg [oT, oT, oT], .head] [.code (bodyOf Try.f72)] (start Try.f72 [] 0 [setsL n C]) [128] 1 (SFm n C 0 f) =
    some ([.code (cAt (bodyOf Try.f72) [1, 1, 1, 0, 1, 0, 0]), .inLoop (cAt (bodyOf Try.f72) [1, 1, 1, 0, 1, 0, 0]), .inBlock 0, .code (cAt (bodyOf Try.f72) [1, 1, 1, 1])], [(((↑n : Int) == 0) = false),
  (AN n),
  (AP n (fun i => [.seq true 1 ((C i).1) (fun i_1 => [.int .i64 ((C i).2 i_1)])])),
  (AN 0),
  (AN 0),
  (AN n),
  (AP n (fun i => [.seq true 1 ((C i).1) (fun i_1 => [.int .i64 ((C i).2 i_1)])])),
  (AI ((↑n : Int))),
  ((0 : Int) = (↑0 : Int)),
  (AN 1),
  ((0 : Nat) ≤ 0),
  (∀ i : Nat, (((i : Nat) < 0) → (All [] ∧ (([.p .any] : List AV) = [.p (.str (f i))]))))]) := by kernel_rfl
theorem jFt (n : Nat) (C : Nat → T_IntS) (k : Nat) (f : Nat → ByteArray) (s : ByteArray) :
    pieceOb Try.prog 0 [.reg [oT], .dec true, .reg [oT, oT, oT], .reg [oT, oT, ⟨true, (some ⟨[], [], [], 1, [], .p (.str s)⟩), none⟩, oT, oT, oT, oT, oT], .reg [oT, oT], .head] [.code (cAt (bodyOf Try.f72) [1, 1, 1, 0, 1, 0, 0]), .inLoop (cAt (bodyOf Try.f72) [1, 1, 1, 0, 1, 0, 0]), .inBlock 0, .code (cAt (bodyOf Try.f72) [1, 1, 1, 1])] (SFm n C k f) [321] 1 (SFm n C (k + 1) f) =
    some ([.code (cAt (bodyOf Try.f72) [1, 1, 1, 0, 1, 0, 0]), .inLoop (cAt (bodyOf Try.f72) [1, 1, 1, 0, 1, 0, 0]), .inBlock 0, .code (cAt (bodyOf Try.f72) [1, 1, 1, 1])], [((decide ((↑k : Int) < (↑n : Int))) = true),
  ((0 : Int) ≤ (↑k : Int)),
  (((↑k : Int) : Int) < (↑n : Int)),
  Con Try.prog 123 0 [] [.p (.seq true 1 ((C k).1) (fun i => [.int .i64 ((C k).2 i)]))] [] (.p (.str s)),
  ((((ByteArray.mk #[123]).size + s.size) : Nat) ≤ 9223372036854775807),
  ((((ByteArray.mk #[123] ++ s).size + (ByteArray.mk #[125]).size) : Nat) ≤ 9223372036854775807),
  ((1 : Nat) ≤ 1),
  ((k : Nat) ≤ k),
  ((((k + 1) * 16) : Nat) ≤ 140737488355328),
  (((k + 1) : Nat) ≤ 9223372036854775807),
  (((-9223372036854775808) : Int) ≤ ((↑k : Int) + 1)),
  ((((↑k : Int) + 1) : Int) ≤ 9223372036854775807),
  (AN n),
  (AP n (fun i => [.seq true 1 ((C i).1) (fun i_1 => [.int .i64 ((C i).2 i_1)])])),
  (AN 0),
  (AN ((k + 1))),
  (AN n),
  (AP n (fun i => [.seq true 1 ((C i).1) (fun i_1 => [.int .i64 ((C i).2 i_1)])])),
  (AI ((↑n : Int))),
  ((((↑k : Int) + 1) : Int) = (↑(k + 1) : Int)),
  (AN 1),
  (((k + 1) : Nat) ≤ (k + 1)),
  (∀ i : Nat, (((i : Nat) < (k + 1)) → (All (cvtL false [(321, ⟨false, 1, (k + 1), (fun i_1 => (if (i_1 < k) then [.p (.str (f i_1))] else [.p (.str (ByteArray.mk #[123] ++ s ++ ByteArray.mk #[125]))]))⟩), (289, ⟨false, 1, 1, (fun i_1 => [.p (.str (ByteArray.mk #[123] ++ s ++ ByteArray.mk #[125]))])⟩)] [321] 1 (if (i < k) then [.p (.str (f i))] else [.p (.str (ByteArray.mk #[123] ++ s ++ ByteArray.mk #[125]))])).2 ∧ (((cvtL false [(321, ⟨false, 1, (k + 1), (fun i_1 => (if (i_1 < k) then [.p (.str (f i_1))] else [.p (.str (ByteArray.mk #[123] ++ s ++ ByteArray.mk #[125]))]))⟩), (289, ⟨false, 1, 1, (fun i_1 => [.p (.str (ByteArray.mk #[123] ++ s ++ ByteArray.mk #[125]))])⟩)] [321] 1 (if (i < k) then [.p (.str (f i))] else [.p (.str (ByteArray.mk #[123] ++ s ++ ByteArray.mk #[125]))])).1 : List AV) = [.p (.str (f i))]))))]) := by kernel_rfl
theorem jFe (n : Nat) (C : Nat → T_IntS) (k : Nat) (f : Nat → ByteArray) (s : ByteArray) :
    pathOb Try.prog Try.f72 0 [.reg [oT], .dec false, .reg [oT, ⟨true, (some ⟨[], [], [], 1, [], .p (.str s)⟩), none⟩, oT]] [.code (cAt (bodyOf Try.f72) [1, 1, 1, 0, 1, 0, 0]), .inLoop (cAt (bodyOf Try.f72) [1, 1, 1, 0, 1, 0, 0]), .inBlock 0, .code (cAt (bodyOf Try.f72) [1, 1, 1, 1])] (SFm n C k f) [] 1 [] (.p (.str s)) =
    some [((decide ((↑k : Int) < (↑n : Int))) = false),
  (AN 1),
  ((k : Nat) ≤ k),
  Con Try.prog 121 0 [] [.p (.seq true 1 k (fun i => [.str (f i)])), .p (.str (ByteArray.mk #[32]))] [] (.p (.str s)),
  (s = s)] := by kernel_rfl
theorem jGz (n : Nat) (C : Nat → T_IntS) :
    pieceOb Try.prog 0 [.reg [oT], .reg [oT], .reg [oT], .head] [.code (bodyOf Try.f63)] (start Try.f63 [] 0 [setsL n C]) [] 1 (SFo n C 0 sE) =
    some ([.code (cAt (bodyOf Try.f63) [1, 1, 0, 1, 0, 0]), .inLoop (cAt (bodyOf Try.f63) [1, 1, 0, 1, 0, 0]), .inBlock 0, .code (cAt (bodyOf Try.f63) [1, 1, 1])], [(AN n),
  (AP n (fun i => [.seq true 1 ((C i).1) (fun i_1 => [.int .i64 ((C i).2 i_1)])])),
  (ByteArray.mk #[] = sE),
  ((0 : Int) = (↑0 : Int))]) := by kernel_rfl
theorem jGa (n : Nat) (C : Nat → T_IntS) (i : Nat) (s : ByteArray) :
    pieceOb Try.prog 0 [.reg [oT, oT, oT, oT], .dec true, .reg [oT, oT], .dec true, .reg [oT, oT, oT], .reg [oT, oT, oT], .reg [oT], .head] [.code (cAt (bodyOf Try.f63) [1, 1, 0, 1, 0, 0]), .inLoop (cAt (bodyOf Try.f63) [1, 1, 0, 1, 0, 0]), .inBlock 0, .code (cAt (bodyOf Try.f63) [1, 1, 1])] (SFo n C i s) [] 1 (SFn n C i 0 ((s ++ sSp) ++ sL)) =
    some ([.code (cAt (bodyOf Try.f63) [1, 1, 0, 1, 0, 0, 1, 0, 0, 1, 1, 0, 1, 0, 0]), .inLoop (cAt (bodyOf Try.f63) [1, 1, 0, 1, 0, 0, 1, 0, 0, 1, 1, 0, 1, 0, 0]), .inBlock 2, .code (cAt (bodyOf Try.f63) [1, 1, 0, 1, 0, 0, 1, 0, 0, 1, 1, 1]), .inBlock 1, .code (cAt (bodyOf Try.f63) [1, 1, 0, 1, 0, 0, 1, 1]), .inLoop (cAt (bodyOf Try.f63) [1, 1, 0, 1, 0, 0]), .inBlock 0, .code (cAt (bodyOf Try.f63) [1, 1, 1])], [((decide ((↑i : Int) < (↑n : Int))) = true),
  ((decide ((↑i : Int) > 0)) = true),
  (((s.size + (ByteArray.mk #[32]).size) : Nat) ≤ 9223372036854775807),
  ((((s ++ ByteArray.mk #[32]).size + (ByteArray.mk #[123]).size) : Nat) ≤ 9223372036854775807),
  (AN n),
  (AP n (fun i_1 => [.seq true 1 ((C i_1).1) (fun i_2 => [.int .i64 ((C i_1).2 i_2)])])),
  (s ++ ByteArray.mk #[32] ++ ByteArray.mk #[123] = s ++ sSp ++ sL),
  (AI ((↑i : Int))),
  ((0 : Int) = (↑0 : Int))]) := by kernel_rfl
theorem jGb (n : Nat) (C : Nat → T_IntS) (i : Nat) (s : ByteArray) :
    pieceOb Try.prog 0 [.reg [oT, oT, oT, oT], .dec true, .reg [oT, oT], .dec false, .reg [oT, oT, oT], .reg [oT], .head] [.code (cAt (bodyOf Try.f63) [1, 1, 0, 1, 0, 0]), .inLoop (cAt (bodyOf Try.f63) [1, 1, 0, 1, 0, 0]), .inBlock 0, .code (cAt (bodyOf Try.f63) [1, 1, 1])] (SFo n C i s) [] 1 (SFn n C i 0 (s ++ sL)) =
    some ([.code (cAt (bodyOf Try.f63) [1, 1, 0, 1, 0, 0, 1, 0, 0, 1, 1, 0, 1, 0, 0]), .inLoop (cAt (bodyOf Try.f63) [1, 1, 0, 1, 0, 0, 1, 0, 0, 1, 1, 0, 1, 0, 0]), .inBlock 2, .code (cAt (bodyOf Try.f63) [1, 1, 0, 1, 0, 0, 1, 0, 0, 1, 1, 1]), .inBlock 1, .code (cAt (bodyOf Try.f63) [1, 1, 0, 1, 0, 0, 1, 1]), .inLoop (cAt (bodyOf Try.f63) [1, 1, 0, 1, 0, 0]), .inBlock 0, .code (cAt (bodyOf Try.f63) [1, 1, 1])], [((decide ((↑i : Int) < (↑n : Int))) = true),
  ((decide ((↑i : Int) > 0)) = false),
  (((s.size + (ByteArray.mk #[123]).size) : Nat) ≤ 9223372036854775807),
  (AN n),
  (AP n (fun i_1 => [.seq true 1 ((C i_1).1) (fun i_2 => [.int .i64 ((C i_1).2 i_2)])])),
  (s ++ ByteArray.mk #[123] = s ++ sL),
  (AI ((↑i : Int))),
  ((0 : Int) = (↑0 : Int))]) := by kernel_rfl
theorem jGc (n : Nat) (C : Nat → T_IntS) (i k : Nat) (s t : ByteArray) :
    pieceOb Try.prog 0 [.reg [oT, oT, oT, oT, oT, oT, oT], .dec true, .reg [oT, oT], .dec true, .reg [oT, oT, oT], .reg [oT, oT, oT, oT, oT, oT, oT, oT, ⟨true, (some ⟨[], [], [], 1, [], .p (.str t)⟩), none⟩, oT, oT], .reg [oT, oT, oT], .head] [.code (cAt (bodyOf Try.f63) [1, 1, 0, 1, 0, 0, 1, 0, 0, 1, 1, 0, 1, 0, 0]), .inLoop (cAt (bodyOf Try.f63) [1, 1, 0, 1, 0, 0, 1, 0, 0, 1, 1, 0, 1, 0, 0]), .inBlock 2, .code (cAt (bodyOf Try.f63) [1, 1, 0, 1, 0, 0, 1, 0, 0, 1, 1, 1]), .inBlock 1, .code (cAt (bodyOf Try.f63) [1, 1, 0, 1, 0, 0, 1, 1]), .inLoop (cAt (bodyOf Try.f63) [1, 1, 0, 1, 0, 0]), .inBlock 0, .code (cAt (bodyOf Try.f63) [1, 1, 1])] (SFn n C i k s) [] 1 (SFn n C i (k + 1) ((s ++ sC) ++ t)) =
    some ([.code (cAt (bodyOf Try.f63) [1, 1, 0, 1, 0, 0, 1, 0, 0, 1, 1, 0, 1, 0, 0]), .inLoop (cAt (bodyOf Try.f63) [1, 1, 0, 1, 0, 0, 1, 0, 0, 1, 1, 0, 1, 0, 0]), .inBlock 2, .code (cAt (bodyOf Try.f63) [1, 1, 0, 1, 0, 0, 1, 0, 0, 1, 1, 1]), .inBlock 1, .code (cAt (bodyOf Try.f63) [1, 1, 0, 1, 0, 0, 1, 1]), .inLoop (cAt (bodyOf Try.f63) [1, 1, 0, 1, 0, 0]), .inBlock 0, .code (cAt (bodyOf Try.f63) [1, 1, 1])], [((0 : Int) ≤ (↑i : Int)),
  (((↑i : Int) : Int) < (↑n : Int)),
  ((decide ((↑k : Int) < (↑(C (↑i : Int).toNat).1 : Int))) = true),
  ((decide ((↑k : Int) > 0)) = true),
  (((s.size + (ByteArray.mk #[44]).size) : Nat) ≤ 9223372036854775807),
  ((0 : Int) ≤ (↑i : Int)),
  (((↑i : Int) : Int) < (↑n : Int)),
  ((0 : Int) ≤ (↑k : Int)),
  (((↑k : Int) : Int) < (↑(C i).1 : Int)),
  Con Try.prog 58 0 [] [.p (.int .i64 ((C i).2 k))] [] (.p (.str t)),
  ((((s ++ ByteArray.mk #[44]).size + t.size) : Nat) ≤ 9223372036854775807),
  (((-9223372036854775808) : Int) ≤ ((↑k : Int) + 1)),
  ((((↑k : Int) + 1) : Int) ≤ 9223372036854775807),
  (AN n),
  (AP n (fun i_1 => [.seq true 1 ((C i_1).1) (fun i_2 => [.int .i64 ((C i_1).2 i_2)])])),
  (s ++ ByteArray.mk #[44] ++ t = s ++ sC ++ t),
  (AI ((↑i : Int))),
  ((((↑k : Int) + 1) : Int) = (↑(k + 1) : Int))]) := by kernel_rfl
theorem jGd (n : Nat) (C : Nat → T_IntS) (i k : Nat) (s t : ByteArray) :
    pieceOb Try.prog 0 [.reg [oT, oT, oT, oT, oT, oT, oT], .dec true, .reg [oT, oT], .dec false, .reg [oT, oT, oT, oT, oT, oT, oT, oT, ⟨true, (some ⟨[], [], [], 1, [], .p (.str t)⟩), none⟩, oT, oT], .reg [oT, oT, oT], .head] [.code (cAt (bodyOf Try.f63) [1, 1, 0, 1, 0, 0, 1, 0, 0, 1, 1, 0, 1, 0, 0]), .inLoop (cAt (bodyOf Try.f63) [1, 1, 0, 1, 0, 0, 1, 0, 0, 1, 1, 0, 1, 0, 0]), .inBlock 2, .code (cAt (bodyOf Try.f63) [1, 1, 0, 1, 0, 0, 1, 0, 0, 1, 1, 1]), .inBlock 1, .code (cAt (bodyOf Try.f63) [1, 1, 0, 1, 0, 0, 1, 1]), .inLoop (cAt (bodyOf Try.f63) [1, 1, 0, 1, 0, 0]), .inBlock 0, .code (cAt (bodyOf Try.f63) [1, 1, 1])] (SFn n C i k s) [] 1 (SFn n C i (k + 1) (s ++ t)) =
    some ([.code (cAt (bodyOf Try.f63) [1, 1, 0, 1, 0, 0, 1, 0, 0, 1, 1, 0, 1, 0, 0]), .inLoop (cAt (bodyOf Try.f63) [1, 1, 0, 1, 0, 0, 1, 0, 0, 1, 1, 0, 1, 0, 0]), .inBlock 2, .code (cAt (bodyOf Try.f63) [1, 1, 0, 1, 0, 0, 1, 0, 0, 1, 1, 1]), .inBlock 1, .code (cAt (bodyOf Try.f63) [1, 1, 0, 1, 0, 0, 1, 1]), .inLoop (cAt (bodyOf Try.f63) [1, 1, 0, 1, 0, 0]), .inBlock 0, .code (cAt (bodyOf Try.f63) [1, 1, 1])], [((0 : Int) ≤ (↑i : Int)),
  (((↑i : Int) : Int) < (↑n : Int)),
  ((decide ((↑k : Int) < (↑(C (↑i : Int).toNat).1 : Int))) = true),
  ((decide ((↑k : Int) > 0)) = false),
  ((0 : Int) ≤ (↑i : Int)),
  (((↑i : Int) : Int) < (↑n : Int)),
  ((0 : Int) ≤ (↑k : Int)),
  (((↑k : Int) : Int) < (↑(C i).1 : Int)),
  Con Try.prog 58 0 [] [.p (.int .i64 ((C i).2 k))] [] (.p (.str t)),
  (((s.size + t.size) : Nat) ≤ 9223372036854775807),
  (((-9223372036854775808) : Int) ≤ ((↑k : Int) + 1)),
  ((((↑k : Int) + 1) : Int) ≤ 9223372036854775807),
  (AN n),
  (AP n (fun i_1 => [.seq true 1 ((C i_1).1) (fun i_2 => [.int .i64 ((C i_1).2 i_2)])])),
  (s ++ t = s ++ t),
  (AI ((↑i : Int))),
  ((((↑k : Int) + 1) : Int) = (↑(k + 1) : Int))]) := by kernel_rfl
theorem jGe (n : Nat) (C : Nat → T_IntS) (i k : Nat) (s : ByteArray) :
    pieceOb Try.prog 0 [.reg [oT, oT, oT, oT, oT, oT, oT], .dec false, .reg [oT, oT, oT], .reg [oT, oT, oT], .head] [.code (cAt (bodyOf Try.f63) [1, 1, 0, 1, 0, 0, 1, 0, 0, 1, 1, 0, 1, 0, 0]), .inLoop (cAt (bodyOf Try.f63) [1, 1, 0, 1, 0, 0, 1, 0, 0, 1, 1, 0, 1, 0, 0]), .inBlock 2, .code (cAt (bodyOf Try.f63) [1, 1, 0, 1, 0, 0, 1, 0, 0, 1, 1, 1]), .inBlock 1, .code (cAt (bodyOf Try.f63) [1, 1, 0, 1, 0, 0, 1, 1]), .inLoop (cAt (bodyOf Try.f63) [1, 1, 0, 1, 0, 0]), .inBlock 0, .code (cAt (bodyOf Try.f63) [1, 1, 1])] (SFn n C i k s) [] 1 (SFo n C (i + 1) (s ++ sR)) =
    some ([.code (cAt (bodyOf Try.f63) [1, 1, 0, 1, 0, 0]), .inLoop (cAt (bodyOf Try.f63) [1, 1, 0, 1, 0, 0]), .inBlock 0, .code (cAt (bodyOf Try.f63) [1, 1, 1])], [((0 : Int) ≤ (↑i : Int)),
  (((↑i : Int) : Int) < (↑n : Int)),
  ((decide ((↑k : Int) < (↑(C (↑i : Int).toNat).1 : Int))) = false),
  (((s.size + (ByteArray.mk #[125]).size) : Nat) ≤ 9223372036854775807),
  (((-9223372036854775808) : Int) ≤ ((↑i : Int) + 1)),
  ((((↑i : Int) + 1) : Int) ≤ 9223372036854775807),
  (AN n),
  (AP n (fun i_1 => [.seq true 1 ((C i_1).1) (fun i_2 => [.int .i64 ((C i_1).2 i_2)])])),
  (s ++ ByteArray.mk #[125] = s ++ sR),
  ((((↑i : Int) + 1) : Int) = (↑(i + 1) : Int))]) := by kernel_rfl
theorem jGn (n : Nat) (C : Nat → T_IntS) (i : Nat) (s : ByteArray) :
    pathOb Try.prog Try.f63 0 [.reg [oT, oT, oT, oT], .dec false, .reg [oT, oT], .dec true, .reg [oT]] [.code (cAt (bodyOf Try.f63) [1, 1, 0, 1, 0, 0]), .inLoop (cAt (bodyOf Try.f63) [1, 1, 0, 1, 0, 0]), .inBlock 0, .code (cAt (bodyOf Try.f63) [1, 1, 1])] (SFo n C i s) [] 1 [] (.p (.str sNone)) =
    some [((decide ((↑i : Int) < (↑n : Int))) = false),
  ((s.toList == (ByteArray.mk #[]).toList) = true),
  (ByteArray.mk #[110, 111, 110, 101] = sNone)] := by kernel_rfl
theorem jGy (n : Nat) (C : Nat → T_IntS) (i : Nat) (s : ByteArray) :
    pathOb Try.prog Try.f63 0 [.reg [oT, oT, oT, oT], .dec false, .reg [oT, oT], .dec false, .reg [oT, oT]] [.code (cAt (bodyOf Try.f63) [1, 1, 0, 1, 0, 0]), .inLoop (cAt (bodyOf Try.f63) [1, 1, 0, 1, 0, 0]), .inBlock 0, .code (cAt (bodyOf Try.f63) [1, 1, 1])] (SFo n C i s) [] 1 [] (.p (.str s)) =
    some [((decide ((↑i : Int) < (↑n : Int))) = false),
  ((s.toList == (ByteArray.mk #[]).toList) = false),
  (s = s)] := by kernel_rfl
theorem jKl (n : Nat) (f : Nat → ByteArray) (s : ByteArray) :
    pathOb Try.prog Try.f66 0 [.reg [oT], .reg [oT, ⟨true, (some ⟨[], [], [], 1, [], .p (.str s)⟩), none⟩, oT]] [.code (bodyOf Try.f66)] (start Try.f66 [] 0 [strL n f]) [] 1 [] (.p (.str s)) =
    some [Con Try.prog 121 0 [] [.p (.seq true 1 n (fun i => [.str (f i)])), .p (.str (ByteArray.mk #[32]))] [] (.p (.str s)),
  (s = s)] := by kernel_rfl
theorem jSn (s : ByteArray) (n : Nat) (f : Nat → ByteArray) :
    pathOb Try.prog Try.f68 0 [.reg [oT], .reg [oT, oT], .dec true, .reg [oT, oT]] [.code (bodyOf Try.f68)] (start Try.f68 [] 0 [.p (.str s), .p (.bool false), strL n f]) [] 1 [] (.p (.str s)) =
    some [((!false) = true),
  (s = s)] := by kernel_rfl
theorem jSy (s t : ByteArray) (n : Nat) (f : Nat → ByteArray) :
    pathOb Try.prog Try.f68 0 [.reg [oT], .reg [oT, oT], .dec false, .reg [oT, oT, oT, oT, ⟨true, (some ⟨[], [], [], 1, [], .p (.str t)⟩), none⟩, oT]] [.code (bodyOf Try.f68)] (start Try.f68 [] 0 [.p (.str s), .p (.bool true), strL n f]) [] 1 [] (.p (.str t)) =
    some [((!true) = false),
  ((1 : Nat) ≤ 1),
  ((((1 + n) * 16) : Nat) ≤ 140737488355328),
  (((1 + n) : Nat) ≤ 9223372036854775807),
  (AN 1),
  (((1 + n) : Nat) ≤ (1 + n)),
  Con Try.prog 66 0 [] [.p (.seq true 1 (1 + n) (fun i => [(cellP true (if (i < 1) then [.p (.str s)] else [.p (.str (f (i - 1)))]) 0)]))] [] (.p (.str t)),
  (t = t)] := by kernel_rfl
theorem jYy (s : ByteArray) :
    pathOb Try.prog Try.f59 0 [.reg [oT], .reg [oT], .dec true, .reg [oT, oT]] [.code (bodyOf Try.f59)] (start Try.f59 [] 0 [.p (.bool true), .p (.str s)]) [] 1 [] (.p (.str s)) =
    some [(true = true),
  (s = s)] := by kernel_rfl
theorem jYn (s : ByteArray) :
    pathOb Try.prog Try.f59 0 [.reg [oT], .reg [oT], .dec false, .reg [oT]] [.code (bodyOf Try.f59)] (start Try.f59 [] 0 [.p (.bool false), .p (.str s)]) [] 1 [] (.p (.str sE)) =
    some [(false = false),
  (ByteArray.mk #[] = sE)] := by kernel_rfl
end Go.Proofs.Ytffnfeefjdmifaa.Mach
namespace Go.Proofs.Ytffnfeefjdmifaa.Mach
open Go
set_option linter.unusedVariables false
set_option linter.unusedSimpArgs false
def joinB (by_ : ByteArray) (f : Nat → ByteArray) : Nat → ByteArray
  | 0 => sE
  | n + 1 => (if 0 < n then joinB by_ f n ++ by_ else joinB by_ f n) ++ f n
theorem joinB_0 (by_ : ByteArray) (f : Nat → ByteArray) : joinB by_ f 0 = sE := rfl
theorem joinB_pos (by_ : ByteArray) (f : Nat → ByteArray) {n : Nat} (h : 0 < n) : joinB by_ f (n + 1) = (joinB by_ f n ++ by_) ++ f n := by simp [joinB, h]
theorem joinB_one (by_ : ByteArray) (f : Nat → ByteArray) : joinB by_ f (0 + 1) = sE ++ f 0 := rfl
theorem joinB_size (by_ : ByteArray) (f : Nat → ByteArray) (B : Nat) : ∀ n, (∀ i, i < n → (f i).size ≤ B) → (joinB by_ f n).size ≤ n * (B + by_.size)
  | 0, _ => (Nat.zero_le _ : 0 ≤ _)
  | n + 1, h => by
    have ih := joinB_size by_ f B n (fun i hi => h i (by omega))
    have := h n (by omega)
    simp only [joinB]
    rw [Nat.add_mul, ByteArray.size_append]
    split
    · rw [ByteArray.size_append]; omega
    · omega
theorem sE_app (s : ByteArray) : sE ++ s = s := ByteArray.empty_append
theorem app_sE (s : ByteArray) : s ++ sE = s := ByteArray.append_empty
theorem str_nil (s : ByteArray) : (s.toList == (ByteArray.mk #[]).toList) = decide (s.size = 0) := by
  rw [ByteArray.toList_eq, ByteArray.toList_eq]
  rw [Bool.eq_iff_iff]
  simp only [beq_iff_eq, decide_eq_true_eq]
  constructor
  · intro h
    show s.data.size = 0
    rw [← Array.length_toList, h]; rfl
  · intro h
    have : s.data.toList.length = 0 := by rw [Array.length_toList]; exact h
    rw [List.length_eq_zero_iff.1 this]
theorem con_glued (n : Nat) (f : Nat → ByteArray) (by_ : ByteArray) (B : Nat) (hn : n ≤ 1048577) (hB : B ≤ 1099511627776) (hby : by_.size ≤ 1000) (hf : ∀ i, i < n → (f i).size ≤ B) :
    Con Try.prog 121 0 [] [strL n f, .p (.str by_)] [] (.p (.str (joinB by_ f n))) := by
  have hsz : ∀ k, k ≤ n → (joinB by_ f k).size ≤ 1048577 * 1099511628776 := by
    intro k hk
    have h1 := joinB_size by_ f B k (fun i hi => hf i (by omega))
    have h2 : k * (B + by_.size) ≤ 1048577 * 1099511628776 := Nat.mul_le_mul (by omega) (by omega)
    omega
  refine con_start Try.func121 rfl (by kernel_rfl) rfl (fun c hc => ?_)
  have lo : ∀ d k, k + d = n → Run Try.prog c 121 [.code (cAt (bodyOf Try.f121) [1, 1, 0, 1, 0, 0]), .inLoop (cAt (bodyOf Try.f121) [1, 1, 0, 1, 0, 0]), .inBlock 0, .code (cAt (bodyOf Try.f121) [1, 1, 1])] (SJ n f by_ k (joinB by_ f k)) (Post c [] (.p (.str (joinB by_ f n)))) := by
    intro d
    induction d with
    | zero =>
      intro k hk
      obtain rfl : k = n := by omega
      have hd : decide ((k : Int) < (k : Int)) = false := by simp
      refine path_ok mixed Try.func121 hc (jJe k f by_ k _) ?_
      simp only [All]
      repeat' (first | exact trivial | with_reducible apply And.intro)
      all_goals (first | exact aG _ | exact aP _ _ | exact aA _ _ | exact aE _ | omega | rfl | (intros; first | assumption | exact True.intro | rfl | exact absurd (show false = true by assumption) Bool.false_ne_true | ((repeat' (first | assumption | apply anda | apply notf)); done)) | (exact hd))
    | succ d ih =>
      intro k hk
      have hd : decide ((k : Int) < (n : Int)) = true := decide_eq_true (by omega)
      have hrec := ih (k + 1) (by omega)
      have h1 := hsz k (by omega)
      have h2 := hf k (by omega)
      by_cases h0 : 0 < k
      · have hg : decide ((k : Int) > 0) = true := decide_eq_true (by omega)
        rw [joinB_pos by_ f h0] at hrec
        generalize joinB by_ f k = s at hrec h1 ⊢
        refine piece_ok mixed hc (jJt n f by_ k s) ?_ hrec
        simp only [All]
        repeat' (first | exact trivial | with_reducible apply And.intro)
        all_goals (first | exact aG _ | exact aP _ _ | exact aA _ _ | exact aE _ | omega | rfl | (intros; first | assumption | exact True.intro | rfl | exact absurd (show false = true by assumption) Bool.false_ne_true | ((repeat' (first | assumption | apply anda | apply notf)); done)) | (exact hd) | (exact hg) | (rw [ByteArray.size_append]; omega) | (simp; omega))
      · obtain rfl : k = 0 := by omega
        have hg : decide (((0 : Nat) : Int) > 0) = false := by simp
        rw [joinB_one] at hrec
        rw [joinB_0] at h1 ⊢
        refine piece_ok mixed hc (jJf n f by_ 0 sE) ?_ hrec
        simp only [All]
        repeat' (first | exact trivial | with_reducible apply And.intro)
        all_goals (first | exact aG _ | exact aP _ _ | exact aA _ _ | exact aE _ | omega | rfl | (intros; first | assumption | exact True.intro | rfl | exact absurd (show false = true by assumption) Bool.false_ne_true | ((repeat' (first | assumption | apply anda | apply notf)); done)) | (exact hd) | (exact hg) | (simp; omega))
  refine piece_ok mixed hc (jJz n f by_) ?_ (lo n 0 (by omega))
  simp only [All]
  repeat' (first | exact trivial | with_reducible apply And.intro)
  all_goals (first | exact aG _ | exact aP _ _ | exact aA _ _ | exact aE _ | omega | rfl | (intros; first | assumption | exact True.intro | rfl | exact absurd (show false = true by assumption) Bool.false_ne_true | ((repeat' (first | assumption | apply anda | apply notf)); done)) | (simp; omega))
def In64 (v : T_IntS) : Prop := ∀ i, i < v.1 → -9223372036854775808 ≤ v.2 i ∧ v.2 i ≤ 9223372036854775807
def nmB (v : T_IntS) : ByteArray := joinB sC (fun i => fmtI (v.2 i)) v.1
theorem sC_size : sC.size = 1 := rfl
theorem nmB_size (v : T_IntS) : (nmB v).size ≤ v.1 * 22 := joinB_size sC _ 21 v.1 (fun i hi => fmt_size _)
theorem con_numbers (v : T_IntS) (hn : v.1 ≤ 1048576) (hv : In64 v) : Con Try.prog 123 0 [] [inL v] [] (.p (.str (nmB v))) := by
  have cg := con_glued v.1 (fun i => fmtI (v.2 i)) sC 21 (by omega) (by omega) (by rw [sC_size]; omega) (fun i hi => fmt_size _)
  refine con_start Try.func123 rfl (by kernel_rfl) rfl (fun c hc => ?_)
  have lo : ∀ d k, k + d = v.1 → Run Try.prog c 123 [.code (cAt (bodyOf Try.f123) [1, 1, 0, 1, 0, 0]), .inLoop (cAt (bodyOf Try.f123) [1, 1, 0, 1, 0, 0]), .inBlock 0, .code (cAt (bodyOf Try.f123) [1, 1, 1])] (SNm v k (fun i => fmtI (v.2 i))) (Post c [] (.p (.str (nmB v)))) := by
    intro d
    induction d with
    | zero =>
      intro k hk
      obtain rfl : k = v.1 := by omega
      have hd : decide ((v.1 : Int) < (v.1 : Int)) = false := by simp
      refine path_ok mixed Try.func123 hc (jNe v v.1 (fun i => fmtI (v.2 i)) (nmB v)) ?_
      simp only [All]
      repeat' (first | exact trivial | with_reducible apply And.intro)
      all_goals (first | exact aG _ | exact aP _ _ | exact aA _ _ | exact aE _ | omega | rfl | (intros; first | assumption | exact True.intro | rfl | exact absurd (show false = true by assumption) Bool.false_ne_true | ((repeat' (first | assumption | apply anda | apply notf)); done)) | (exact hd) | (exact cg) | (intro t ht; simp [All]))
    | succ d ih =>
      intro k hk
      have hd : decide ((k : Int) < (v.1 : Int)) = true := decide_eq_true (by omega)
      have hvk := hv k (by omega)
      have cf := con_FormatInt_i (v.2 k) hvk.1 hvk.2
      refine piece_ok mixed hc (jNt v k (fun i => fmtI (v.2 i)) (fmtI (v.2 k))) ?_ (ih (k + 1) (by omega))
      simp only [All]
      repeat' (first | exact trivial | with_reducible apply And.intro)
      all_goals (first | exact aG _ | exact aP _ _ | exact aA _ _ | exact aE _ | omega | rfl | (intros; first | assumption | exact True.intro | rfl | exact absurd (show false = true by assumption) Bool.false_ne_true | ((repeat' (first | assumption | apply anda | apply notf)); done)) | (exact hd) | (exact cf) | (intro t ht; rcases Nat.lt_or_eq_of_le (Nat.le_of_lt_succ ht) with h' | h' <;> (simp [h', cvtL, cvt, tg, tru, All]; done)) | (simp; omega))
  refine piece_ok mixed hc (jNz v (fun i => fmtI (v.2 i))) ?_ (lo v.1 0 (by omega))
  simp only [All]
  repeat' (first | exact trivial | with_reducible apply And.intro)
  all_goals (first | exact aG _ | exact aP _ _ | exact aA _ _ | exact aE _ | omega | rfl | (intros; first | assumption | exact True.intro | rfl | exact absurd (show false = true by assumption) Bool.false_ne_true | ((repeat' (first | assumption | apply anda | apply notf)); done)) | (intro t ht; exact absurd ht (Nat.not_lt_zero _)) | (intro t ht; simp [All]) | (simp; omega))
def stB (v : T_IntS) : ByteArray := (sL ++ nmB v) ++ sR
def fsB (n : Nat) (C : Nat → T_IntS) : ByteArray := if n = 0 then sNone else joinB sSp (fun i => stB (C i)) n
theorem stB_size (v : T_IntS) : (stB v).size ≤ v.1 * 22 + 2 ∧ 2 ≤ (stB v).size := by
  have := nmB_size v
  unfold stB
  rw [ByteArray.size_append, ByteArray.size_append]
  show 1 + _ + 1 ≤ _ ∧ 2 ≤ 1 + _ + 1
  omega
theorem con_FormatSets_i (n : Nat) (C : Nat → T_IntS) (hn : n ≤ 1048576) (hC : ∀ i, i < n → (C i).1 ≤ 1048576 ∧ In64 (C i)) : Con Try.prog 72 0 [] [setsL n C] [] (.p (.str (fsB n C))) := by
  have cg := con_glued n (fun i => stB (C i)) sSp 30000000 (by omega) (by omega) (by show 1 ≤ 1000; omega) (fun i hi => by have := stB_size (C i); have := hC i hi; omega)
  refine con_start Try.func72 rfl (by kernel_rfl) rfl (fun c hc => ?_)
  by_cases h0 : n = 0
  · have hd : ((n : Int) == 0) = true := by rw [h0]; rfl
    rw [show fsB n C = sNone by simp [fsB, h0]]
    refine path_ok mixed Try.func72 hc (jFn n C) ?_
    simp only [All]
    repeat' (first | exact trivial | with_reducible apply And.intro)
    all_goals (first | exact aG _ | exact aP _ _ | exact aA _ _ | exact aE _ | omega | rfl | (intros; first | assumption | exact True.intro | rfl | exact absurd (show false = true by assumption) Bool.false_ne_true | ((repeat' (first | assumption | apply anda | apply notf)); done)) | (exact hd))
  · have hd0 : ((n : Int) == 0) = false := beq_eq_false_iff_ne.2 (by omega)
    rw [show fsB n C = joinB sSp (fun i => stB (C i)) n by simp [fsB, h0]]
    have lo : ∀ d k, k + d = n → Run Try.prog c 72 [.code (cAt (bodyOf Try.f72) [1, 1, 1, 0, 1, 0, 0]), .inLoop (cAt (bodyOf Try.f72) [1, 1, 1, 0, 1, 0, 0]), .inBlock 0, .code (cAt (bodyOf Try.f72) [1, 1, 1, 1])] (SFm n C k (fun i => stB (C i))) (Post c [] (.p (.str (joinB sSp (fun i => stB (C i)) n)))) := by
      intro d
      induction d with
      | zero =>
        intro k hk
        obtain rfl : k = n := by omega
        have hd : decide ((k : Int) < (k : Int)) = false := by simp
        refine path_ok mixed Try.func72 hc (jFe k C k (fun i => stB (C i)) _) ?_
        simp only [All]
        repeat' (first | exact trivial | with_reducible apply And.intro)
        all_goals (first | exact aG _ | exact aP _ _ | exact aA _ _ | exact aE _ | omega | rfl | (intros; first | assumption | exact True.intro | rfl | exact absurd (show false = true by assumption) Bool.false_ne_true | ((repeat' (first | assumption | apply anda | apply notf)); done)) | (exact hd) | (exact cg) | (intro t ht; simp [All]))
      | succ d ih =>
        intro k hk
        have hd : decide ((k : Int) < (n : Int)) = true := decide_eq_true (by omega)
        have hCk := hC k (by omega)
        have cn := con_numbers (C k) hCk.1 hCk.2
        have h1 := nmB_size (C k)
        have e : stB (C k) = ByteArray.mk #[123] ++ nmB (C k) ++ ByteArray.mk #[125] := rfl
        refine piece_ok mixed hc (jFt n C k (fun i => stB (C i)) (nmB (C k))) ?_ (ih (k + 1) (by omega))
        simp only [All]
        repeat' (first | exact trivial | with_reducible apply And.intro)
        all_goals (first | exact aG _ | exact aP _ _ | exact aA _ _ | exact aE _ | omega | rfl | (intros; first | assumption | exact True.intro | rfl | exact absurd (show false = true by assumption) Bool.false_ne_true | ((repeat' (first | assumption | apply anda | apply notf)); done)) | (exact hd) | (exact cn) | (show 1 + _ ≤ _; omega) | (rw [ByteArray.size_append]; show 1 + _ + 1 ≤ _; omega) | (intro t ht; rcases Nat.lt_or_eq_of_le (Nat.le_of_lt_succ ht) with h' | h' <;> (simp [h', e, cvtL, cvt, tg, tru, All]; done)) | (simp; omega))
    refine piece_ok mixed hc (jFz n C (fun i => stB (C i))) ?_ (lo n 0 (by omega))
    simp only [All]
    repeat' (first | exact trivial | with_reducible apply And.intro)
    all_goals (first | exact aG _ | exact aP _ _ | exact aA _ _ | exact aE _ | omega | rfl | (intros; first | assumption | exact True.intro | rfl | exact absurd (show false = true by assumption) Bool.false_ne_true | ((repeat' (first | assumption | apply anda | apply notf)); done)) | (exact hd0) | (intro t ht; exact absurd ht (Nat.not_lt_zero _)) | (intro t ht; simp [All]) | (simp; omega))
theorem con_FormatSets_s (n : Nat) (C : Nat → T_IntS) (hn : n ≤ 1048576) (hC : ∀ i, i < n → (C i).1 ≤ 1048576 ∧ In64 (C i)) : Con Try.prog 63 0 [] [setsL n C] [] (.p (.str (fsB n C))) := by
  refine con_start Try.func63 rfl (by kernel_rfl) rfl (fun c hc => ?_)
  let F : Nat → ByteArray := fun i => stB (C i)
  have hsz : ∀ k, k ≤ n → (joinB sSp F k).size ≤ k * 30000001 := fun k hk => joinB_size sSp F 30000000 k (fun i hi => by have := stB_size (C i); have := hC i (by omega); show (stB (C i)).size ≤ _; omega)
  have li : ∀ i, i < n → ∀ s : ByteArray, s.size ≤ 40000000000000 → (Run Try.prog c 63 [.code (cAt (bodyOf Try.f63) [1, 1, 0, 1, 0, 0]), .inLoop (cAt (bodyOf Try.f63) [1, 1, 0, 1, 0, 0]), .inBlock 0, .code (cAt (bodyOf Try.f63) [1, 1, 1])] (SFo n C (i + 1) ((s ++ nmB (C i)) ++ sR)) (Post c [] (.p (.str (fsB n C))))) →
      ∀ d k, k + d = (C i).1 → Run Try.prog c 63 [.code (cAt (bodyOf Try.f63) [1, 1, 0, 1, 0, 0, 1, 0, 0, 1, 1, 0, 1, 0, 0]), .inLoop (cAt (bodyOf Try.f63) [1, 1, 0, 1, 0, 0, 1, 0, 0, 1, 1, 0, 1, 0, 0]), .inBlock 2, .code (cAt (bodyOf Try.f63) [1, 1, 0, 1, 0, 0, 1, 0, 0, 1, 1, 1]), .inBlock 1, .code (cAt (bodyOf Try.f63) [1, 1, 0, 1, 0, 0, 1, 1]), .inLoop (cAt (bodyOf Try.f63) [1, 1, 0, 1, 0, 0]), .inBlock 0, .code (cAt (bodyOf Try.f63) [1, 1, 1])] (SFn n C i k (s ++ joinB sC (fun j => fmtI ((C i).2 j)) k)) (Post c [] (.p (.str (fsB n C)))) := by
    intro i hi s hs hk d
    have hCi := hC i hi
    have hz : ∀ k, (joinB sC (fun j => fmtI ((C i).2 j)) k).size ≤ k * 22 := fun k => joinB_size sC _ 21 k (fun j hj => fmt_size _)
    induction d with
    | zero =>
      intro k hkn
      obtain rfl : k = (C i).1 := by omega
      have hd : decide (((C i).1 : Int) < ((C i).1 : Int)) = false := by simp
      have h1 := hz (C i).1
      refine piece_ok mixed hc (jGe n C i (C i).1 _) ?_ hk
      simp only [All]
      repeat' (first | exact trivial | with_reducible apply And.intro)
      all_goals (first | exact aG _ | exact aP _ _ | exact aA _ _ | exact aE _ | omega | rfl | (intros; first | assumption | exact True.intro | rfl | exact absurd (show false = true by assumption) Bool.false_ne_true | ((repeat' (first | assumption | apply anda | apply notf)); done)) | (exact hd) | (rw [ByteArray.size_append]; show _ + _ + 1 ≤ _; omega) | (simp; omega))
    | succ d ih =>
      intro k hkn
      have hd : decide ((k : Int) < ((C i).1 : Int)) = true := decide_eq_true (by omega)
      have hrec := ih (k + 1) (by omega)
      have hvk := hCi.2 k (by omega)
      have cf := con_FormatInt_s ((C i).2 k) hvk.1 hvk.2
      have h1 := hz k
      have h2 := fmt_size ((C i).2 k)
      by_cases h0 : 0 < k
      · have hg : decide ((k : Int) > 0) = true := decide_eq_true (by omega)
        rw [joinB_pos sC _ h0, ← ByteArray.append_assoc, ← ByteArray.append_assoc] at hrec
        generalize joinB sC (fun j => fmtI ((C i).2 j)) k = q at hrec h1 ⊢
        refine piece_ok mixed hc (jGc n C i k (s ++ q) (fmtI ((C i).2 k))) ?_ hrec
        simp only [All]
        repeat' (first | exact trivial | with_reducible apply And.intro)
        all_goals (first | exact aG _ | exact aP _ _ | exact aA _ _ | exact aE _ | omega | rfl | (intros; first | assumption | exact True.intro | rfl | exact absurd (show false = true by assumption) Bool.false_ne_true | ((repeat' (first | assumption | apply anda | apply notf)); done)) | (exact hd) | (exact hg) | (exact cf) | (rw [ByteArray.size_append]; show _ + 1 ≤ _; omega) | (rw [ByteArray.size_append, ByteArray.size_append]; show _ + 1 + _ ≤ _; omega) | (simp; omega))
      · obtain rfl : k = 0 := by omega
        have hg : decide (((0 : Nat) : Int) > 0) = false := by simp
        rw [joinB_one, sE_app] at hrec
        rw [joinB_0, app_sE]
        refine piece_ok mixed hc (jGd n C i 0 s (fmtI ((C i).2 0))) ?_ hrec
        simp only [All]
        repeat' (first | exact trivial | with_reducible apply And.intro)
        all_goals (first | exact aG _ | exact aP _ _ | exact aA _ _ | exact aE _ | omega | rfl | (intros; first | assumption | exact True.intro | rfl | exact absurd (show false = true by assumption) Bool.false_ne_true | ((repeat' (first | assumption | apply anda | apply notf)); done)) | (exact hd) | (exact hg) | (exact cf) | (simp; omega))
  have lo : ∀ d i, i + d = n → Run Try.prog c 63 [.code (cAt (bodyOf Try.f63) [1, 1, 0, 1, 0, 0]), .inLoop (cAt (bodyOf Try.f63) [1, 1, 0, 1, 0, 0]), .inBlock 0, .code (cAt (bodyOf Try.f63) [1, 1, 1])] (SFo n C i (joinB sSp F i)) (Post c [] (.p (.str (fsB n C)))) := by
    intro d
    induction d with
    | zero =>
      intro i hi
      obtain rfl : i = n := by omega
      have hd : decide ((i : Int) < (i : Int)) = false := by simp
      have hs := str_nil (joinB sSp F i)
      by_cases h0 : i = 0
      · rw [show fsB i C = sNone by simp [fsB, h0]]
        rw [decide_eq_true (by rw [h0]; rfl)] at hs
        refine path_ok mixed Try.func63 hc (jGn i C i _) ?_
        simp only [All]
        repeat' (first | exact trivial | with_reducible apply And.intro)
        all_goals (first | exact aG _ | exact aP _ _ | exact aA _ _ | exact aE _ | omega | rfl | (intros; first | assumption | exact True.intro | rfl | exact absurd (show false = true by assumption) Bool.false_ne_true | ((repeat' (first | assumption | apply anda | apply notf)); done)) | (exact hd) | (exact hs))
      · rw [show fsB i C = joinB sSp F i by simp only [fsB, h0, if_false]; rfl]
        have hp : 0 < (joinB sSp F i).size := by
          obtain ⟨m, rfl⟩ : ∃ m, i = m + 1 := ⟨i - 1, by omega⟩
          simp only [joinB]
          rw [ByteArray.size_append]
          have h3 := stB_size (C m)
          show 0 < _ + (stB (C m)).size
          omega
        rw [decide_eq_false (by omega)] at hs
        refine path_ok mixed Try.func63 hc (jGy i C i _) ?_
        simp only [All]
        repeat' (first | exact trivial | with_reducible apply And.intro)
        all_goals (first | exact aG _ | exact aP _ _ | exact aA _ _ | exact aE _ | omega | rfl | (intros; first | assumption | exact True.intro | rfl | exact absurd (show false = true by assumption) Bool.false_ne_true | ((repeat' (first | assumption | apply anda | apply notf)); done)) | (exact hd) | (exact hs))
    | succ d ih =>
      intro i hi
      have hd : decide ((i : Int) < (n : Int)) = true := decide_eq_true (by omega)
      have hrec := ih (i + 1) (by omega)
      have h1 := hsz i (by omega)
      by_cases h0 : 0 < i
      · have hg : decide ((i : Int) > 0) = true := decide_eq_true (by omega)
        rw [joinB_pos sSp F h0] at hrec
        have e : (joinB sSp F i ++ sSp) ++ F i = (((joinB sSp F i ++ sSp) ++ sL) ++ nmB (C i)) ++ sR := by
          show (joinB sSp F i ++ sSp) ++ ((sL ++ nmB (C i)) ++ sR) = _
          simp only [ByteArray.append_assoc]
        rw [e] at hrec
        have hnx := li i (by omega) ((joinB sSp F i ++ sSp) ++ sL) (by rw [ByteArray.size_append, ByteArray.size_append]; show _ + 1 + 1 ≤ _; omega) hrec (C i).1 0 (by omega)
        rw [joinB_0, app_sE] at hnx
        generalize joinB sSp F i = q at hnx h1 ⊢
        refine piece_ok mixed hc (jGa n C i q) ?_ hnx
        simp only [All]
        repeat' (first | exact trivial | with_reducible apply And.intro)
        all_goals (first | exact aG _ | exact aP _ _ | exact aA _ _ | exact aE _ | omega | rfl | (intros; first | assumption | exact True.intro | rfl | exact absurd (show false = true by assumption) Bool.false_ne_true | ((repeat' (first | assumption | apply anda | apply notf)); done)) | (exact hd) | (exact hg) | (show _ + 1 ≤ _; omega) | (rw [ByteArray.size_append]; show _ + 1 + 1 ≤ _; omega) | (simp; omega))
      · obtain rfl : i = 0 := by omega
        have hg : decide (((0 : Nat) : Int) > 0) = false := by simp
        rw [joinB_one] at hrec
        have e : sE ++ F 0 = ((sE ++ sL) ++ nmB (C 0)) ++ sR := by
          show sE ++ ((sL ++ nmB (C 0)) ++ sR) = _
          simp only [ByteArray.append_assoc]
        rw [e] at hrec
        have hnx := li 0 (by omega) (sE ++ sL) (by show 1 ≤ _; omega) hrec (C 0).1 0 (by omega)
        rw [joinB_0, app_sE] at hnx
        rw [joinB_0]
        refine piece_ok mixed hc (jGb n C 0 sE) ?_ hnx
        simp only [All]
        repeat' (first | exact trivial | with_reducible apply And.intro)
        all_goals (first | exact aG _ | exact aP _ _ | exact aA _ _ | exact aE _ | omega | rfl | (intros; first | assumption | exact True.intro | rfl | exact absurd (show false = true by assumption) Bool.false_ne_true | ((repeat' (first | assumption | apply anda | apply notf)); done)) | (exact hd) | (exact hg) | (show 0 + 1 ≤ _; omega) | (simp; omega))
  refine piece_ok mixed hc (jGz n C) ?_ (lo n 0 (by omega))
  simp only [All]
  repeat' (first | exact trivial | with_reducible apply And.intro)
  all_goals (first | exact aG _ | exact aP _ _ | exact aA _ _ | exact aE _ | omega | rfl | (intros; first | assumption | exact True.intro | rfl | exact absurd (show false = true by assumption) Bool.false_ne_true | ((repeat' (first | assumption | apply anda | apply notf)); done)) | (simp; omega))
def prB (s : ByteArray) (f : Nat → ByteArray) (i : Nat) : ByteArray := if i < 1 then s else f (i - 1)
theorem con_line (n : Nat) (f : Nat → ByteArray) (B : Nat) (hn : n ≤ 1048577) (hB : B ≤ 1099511627776) (hf : ∀ i, i < n → (f i).size ≤ B) : Con Try.prog 66 0 [] [strL n f] [] (.p (.str (joinB sSp f n))) := by
  have cg := con_glued n f sSp B hn hB (by show 1 ≤ 1000; omega) hf
  refine con_start Try.func66 rfl (by kernel_rfl) rfl (fun c hc => ?_)
  refine path_ok mixed Try.func66 hc (jKl n f _) ?_
  simp only [All]
  repeat' (first | exact trivial | with_reducible apply And.intro)
  all_goals (first | exact aG _ | exact aP _ _ | exact aA _ _ | exact aE _ | omega | rfl | (intros; first | assumption | exact True.intro | rfl | exact absurd (show false = true by assumption) Bool.false_ne_true | ((repeat' (first | assumption | apply anda | apply notf)); done)) | (exact cg))
def soB (s : ByteArray) (is : Bool) (n : Nat) (f : Nat → ByteArray) : ByteArray := if is = true then joinB sSp (prB s f) (1 + n) else s
theorem con_ifSo (s : ByteArray) (is : Bool) (n : Nat) (f : Nat → ByteArray) (B : Nat) (hn : n ≤ 1048576) (hB : B ≤ 1099511627776) (hs : s.size ≤ B) (hf : ∀ i, i < n → (f i).size ≤ B) :
    Con Try.prog 68 0 [] [.p (.str s), .p (.bool is), strL n f] [] (.p (.str (soB s is n f))) := by
  refine con_start Try.func68 rfl (by kernel_rfl) rfl (fun c hc => ?_)
  cases is with
  | false =>
    rw [show soB s false n f = s by simp [soB]]
    refine path_ok mixed Try.func68 hc (jSn s n f) ?_
    simp only [All]
    repeat' (first | exact trivial | with_reducible apply And.intro)
    all_goals (first | exact aG _ | exact aP _ _ | exact aA _ _ | exact aE _ | omega | rfl | (intros; first | assumption | exact True.intro | rfl | exact absurd (show false = true by assumption) Bool.false_ne_true | ((repeat' (first | assumption | apply anda | apply notf)); done)) | rfl)
  | true =>
    rw [show soB s true n f = joinB sSp (prB s f) (1 + n) by simp [soB]]
    have cl := con_line (1 + n) (prB s f) B (by omega) hB (fun i hi => by
      unfold prB
      split
      · exact hs
      · exact hf _ (by omega))
    have e : (.p (.seq true 1 (1 + n) (fun i => [cellP true (if i < 1 then [.p (.str s)] else [.p (.str (f (i - 1)))]) 0])) : AV) = strL (1 + n) (prB s f) := by
      unfold strL prB
      congr 2
      funext i
      by_cases h : i < 1 <;> simp [h, cellP, tg, tru]
    rw [← e] at cl
    refine path_ok mixed Try.func68 hc (jSy s _ n f) ?_
    simp only [All]
    repeat' (first | exact trivial | with_reducible apply And.intro)
    all_goals (first | exact aG _ | exact aP _ _ | exact aA _ _ | exact aE _ | omega | rfl | (intros; first | assumption | exact True.intro | rfl | exact absurd (show false = true by assumption) Bool.false_ne_true | ((repeat' (first | assumption | apply anda | apply notf)); done)) | rfl | (exact cl) | (simp; omega))
def yesB (b : Bool) (s : ByteArray) : ByteArray := if b = true then s else sE
theorem con_l34Yes (b : Bool) (s : ByteArray) : Con Try.prog 59 0 [] [.p (.bool b), .p (.str s)] [] (.p (.str (yesB b s))) := by
  refine con_start Try.func59 rfl (by kernel_rfl) rfl (fun c hc => ?_)
  cases b with
  | false =>
    refine path_ok mixed Try.func59 hc (jYn s) ?_
    simp only [All]
    repeat' (first | exact trivial | with_reducible apply And.intro)
    all_goals (first | exact aG _ | exact aP _ _ | exact aA _ _ | exact aE _ | omega | rfl | (intros; first | assumption | exact True.intro | rfl | exact absurd (show false = true by assumption) Bool.false_ne_true | ((repeat' (first | assumption | apply anda | apply notf)); done)) | rfl)
  | true =>
    refine path_ok mixed Try.func59 hc (jYy s) ?_
    simp only [All]
    repeat' (first | exact trivial | with_reducible apply And.intro)
    all_goals (first | exact aG _ | exact aP _ _ | exact aA _ _ | exact aE _ | omega | rfl | (intros; first | assumption | exact True.intro | rfl | exact absurd (show false = true by assumption) Bool.false_ne_true | ((repeat' (first | assumption | apply anda | apply notf)); done)) | rfl)
end Go.Proofs.Ytffnfeefjdmifaa.Mach
namespace Go.Proofs.Ytffnfeefjdmifaa.Mach
open Go
set_option linter.unusedVariables false
set_option linter.unusedSimpArgs false
def wdRank : ByteArray := ⟨#[114, 97, 110, 107]⟩
def wdSparse : ByteArray := ⟨#[115, 112, 97, 114, 115, 101]⟩
def wdTight : ByteArray := ⟨#[116, 105, 103, 104, 116]⟩
def wdOver : ByteArray := ⟨#[111, 118, 101, 114]⟩
def wdRej : ByteArray := ⟨#[114, 101, 106, 101, 99, 116, 101, 100]⟩
def wsRank : ByteArray := ⟨#[114, 97, 110, 107, 32]⟩
def wsSparse : ByteArray := ⟨#[32, 115, 112, 97, 114, 115, 101]⟩
def wsTight : ByteArray := ⟨#[32, 116, 105, 103, 104, 116]⟩
def wsOver : ByteArray := ⟨#[32, 111, 118, 101, 114, 32]⟩
def wsRej : ByteArray := ⟨#[32, 114, 101, 106, 101, 99, 116, 101, 100, 32]⟩
theorem xLi0 (v : T_Graph) (k l : Int) :
    pathOb Try.prog Try.f24 0 [.reg [oT, oT], .reg [oT, oT, oT, ⟨true, (some ⟨[], [], [], 1, [], .p (.int .i64 (-1))⟩), none⟩, oT], .reg [oT, oT], .dec true, .reg [oT]] [.code (bodyOf Try.f24)] (start Try.f24 [] 0 [graphA v, .p (.int .i64 k), .p (.int .i64 l)]) [] 1 [] (.p (.str sE)) =
    some [((0 : Nat) < 1),
  Con Try.prog 65 0 [] [.agg [.p (.int .i64 v.1), .p (.seq true 2 v.2.1.1 (fun i => [.int .i64 ((v.2.1.2 i).1), .int .i64 ((v.2.1.2 i).2.1)]))], .p (.int .i64 k), .p (.int .i64 l)] [] (.p (.int .i64 (-1))),
  ((decide (-1 < 0)) = true),
  (ByteArray.mk #[] = sE)] := by kernel_rfl
theorem xLs0 (v : T_Graph) (k l : Int) :
    pathOb Try.prog Try.f23 0 [.reg [oT, oT], .reg [oT, oT, oT, ⟨true, (some ⟨[], [], [], 1, [], .p (.int .i64 (-1))⟩), none⟩, oT], .reg [oT, oT], .dec true, .reg [oT]] [.code (bodyOf Try.f23)] (start Try.f23 [] 0 [graphA v, .p (.int .i64 k), .p (.int .i64 l)]) [] 1 [] (.p (.str sE)) =
    some [((0 : Nat) < 1),
  Con Try.prog 57 0 [] [.agg [.p (.int .i64 v.1), .p (.seq true 2 v.2.1.1 (fun i => [.int .i64 ((v.2.1.2 i).1), .int .i64 ((v.2.1.2 i).2.1)]))], .p (.int .i64 k), .p (.int .i64 l)] [] (.p (.int .i64 (-1))),
  ((decide (-1 < 0)) = true),
  (ByteArray.mk #[] = sE)] := by kernel_rfl
theorem xLi (g : Nat → T_Bar) (nb N k l r c j : Nat) (f f2 : Nat → Int) (a b d : Bool) (fr s1 s2 s3 fs s4 fj s5 : ByteArray) :
    pathOb Try.prog Try.f24 0 [.reg [oT, oT], .reg [oT, oT, oT, ⟨true, (some ⟨[], [], [], 1, [], .p (.int .i64 r)⟩), none⟩, oT], .reg [oT, oT], .dec false, .reg [oT, ⟨true, (some ⟨[], [], [], 1, [], .p (.str fr)⟩), none⟩, oT, ⟨true, (some ⟨[], [], [], 1, [], .p (.str s1)⟩), none⟩, oT], .reg [oT, oT, oT, oT, ⟨true, (some ⟨[], [], [], 1, [], .p (.bool a)⟩), none⟩, oT, ⟨true, (some ⟨[], [], [], 1, [], .p (.str s2)⟩), none⟩, oT], .reg [oT, oT, oT, oT, ⟨true, (some ⟨[], [], [], 1, [], .p (.bool b)⟩), none⟩, oT, ⟨true, (some ⟨[], [], [], 1, [], .p (.str s3)⟩), none⟩, oT], .reg [oT, oT, oT, ⟨true, (some ⟨[], [], [], 1, [(0, iOb c f)], .tup [.ar 1 0 0 c, .p (.bool d)]⟩), none⟩, oT, oT, oT, oT, oT], .reg [oT, oT, oT, oT, ⟨true, (some ⟨[], [], [1056], 2, [], .p (.str fs)⟩), none⟩, oT, ⟨true, (some ⟨[], [], [], 1, [], .p (.str s4)⟩), none⟩, oT], .reg [oT, oT, oT, oT, ⟨true, (some ⟨[], [], [], 1, [(0, iOb j f2)], .ar 1 0 0 j⟩), none⟩, oT, ⟨true, (some ⟨[], [], [], 1, [], .p (.str fj)⟩), none⟩, oT, ⟨true, (some ⟨[], [], [], 1, [], .p (.str s5)⟩), none⟩, oT]] [.code (bodyOf Try.f24)] (start Try.f24 [] 0 [grG g nb N, .p (.int .i64 k), .p (.int .i64 l)]) [] 1 [] (.p (.str s5)) =
    some [((0 : Nat) < 1),
  Con Try.prog 65 0 [] [.agg [.p (.int .i64 (↑N : Int)), .p (.seq true 2 nb (fun i => [.int .i64 ((g i).1), .int .i64 ((g i).2.1)]))], .p (.int .i64 (↑k : Int)), .p (.int .i64 (↑l : Int))] [] (.p (.int .i64 (↑r : Int))),
  ((decide ((↑r : Int) < 0)) = false),
  Con Try.prog 67 0 [] [.p (.int .i64 (↑r : Int))] [] (.p (.str fr)),
  (AN 1),
  ((2 : Nat) ≤ 2),
  Con Try.prog 66 0 [] [.p (.seq true 1 2 (fun i => [(cellP true [(List.getD ([.p (.str (ByteArray.mk #[114, 97, 110, 107])), .p (.str fr)] : List AV) (rowIx 2 i * 1) (.p .any))] 0)]))] [] (.p (.str s1)),
  ((0 : Nat) < 1),
  Con Try.prog 69 0 [] [.agg [.p (.int .i64 (↑N : Int)), .p (.seq true 2 nb (fun i => [.int .i64 ((g i).1), .int .i64 ((g i).2.1)]))], .p (.int .i64 (↑k : Int)), .p (.int .i64 (↑l : Int))] [] (.p (.bool a)),
  (AN 1),
  ((1 : Nat) ≤ 1),
  Con Try.prog 68 0 [] [.p (.str s1), .p (.bool a), .p (.seq true 1 1 (fun i => [.str (ByteArray.mk #[115, 112, 97, 114, 115, 101])]))] [] (.p (.str s2)),
  ((0 : Nat) < 1),
  Con Try.prog 70 0 [] [.agg [.p (.int .i64 (↑N : Int)), .p (.seq true 2 nb (fun i => [.int .i64 ((g i).1), .int .i64 ((g i).2.1)]))], .p (.int .i64 (↑k : Int)), .p (.int .i64 (↑l : Int))] [] (.p (.bool b)),
  (AN 1),
  ((1 : Nat) ≤ 1),
  Con Try.prog 68 0 [] [.p (.str s2), .p (.bool b), .p (.seq true 1 1 (fun i => [.str (ByteArray.mk #[116, 105, 103, 104, 116])]))] [] (.p (.str s3)),
  ((0 : Nat) < 1),
  Con Try.prog 71 0 [] [.agg [.p (.int .i64 (↑N : Int)), .p (.seq true 2 nb (fun i => [.int .i64 ((g i).1), .int .i64 ((g i).2.1)]))], .p (.int .i64 (↑k : Int)), .p (.int .i64 (↑l : Int))] [(0, ⟨false, 1, c, (fun i => [.p (.int .i64 (f i))])⟩)] (.tup [.ar 1 0 0 c, .p (.bool d)]),
  (AN 1),
  ((1 : Nat) ≤ 1),
  (∀ i : Nat, (((i : Nat) < 1) → All [(AN 1), ((c : Nat) ≤ c)])),
  Con Try.prog 72 0 [] [.p (.seq true 1 1 (fun i => [.seq true 1 c (fun i_1 => [.int .i64 (f i_1)])]))] [] (.p (.str fs)),
  (AN 1),
  ((2 : Nat) ≤ 2),
  Con Try.prog 68 0 [] [.p (.str s3), .p (.bool d), .p (.seq true 1 2 (fun i => [(cellP true [(List.getD ([.p (.str (ByteArray.mk #[111, 118, 101, 114])), .p (.str fs)] : List AV) (rowIx 2 i * 1) (.p .any))] 0)]))] [] (.p (.str s4)),
  ((0 : Nat) < 1),
  Con Try.prog 73 0 [] [.agg [.p (.int .i64 (↑N : Int)), .p (.seq true 2 nb (fun i => [.int .i64 ((g i).1), .int .i64 ((g i).2.1)]))], .p (.int .i64 (↑k : Int)), .p (.int .i64 (↑l : Int))] [(0, ⟨false, 1, j, (fun i => [.p (.int .i64 (f2 i))])⟩)] (.ar 1 0 0 j),
  Con Try.prog 67 0 [] [.p (.int .i64 (↑j : Int))] [] (.p (.str fj)),
  (AN 1),
  ((3 : Nat) ≤ 3),
  Con Try.prog 66 0 [] [.p (.seq true 1 3 (fun i => [(cellP true [(List.getD ([.p (.str s4), .p (.str (ByteArray.mk #[114, 101, 106, 101, 99, 116, 101, 100])), .p (.str fj)] : List AV) (rowIx 3 i * 1) (.p .any))] 0)]))] [] (.p (.str s5)),
  (s5 = s5)] := by kernel_rfl
theorem xLs1 (g : Nat → T_Bar) (nb N k l r c j : Nat) (f f2 : Nat → Int) (a b : Bool) (fr s2 s3 fs fj : ByteArray) :
    pathOb Try.prog Try.f23 0 [.reg [oT, oT], .reg [oT, oT, oT, ⟨true, (some ⟨[], [], [], 1, [], .p (.int .i64 r)⟩), none⟩, oT], .reg [oT, oT], .dec false, .reg [oT, ⟨true, (some ⟨[], [], [], 1, [], .p (.str fr)⟩), none⟩, oT, oT, oT, oT, ⟨true, (some ⟨[], [], [], 1, [], .p (.bool a)⟩), none⟩, ⟨true, (some ⟨[], [], [], 1, [], .p (.str s2)⟩), none⟩, oT, oT, oT, oT, ⟨true, (some ⟨[], [], [], 1, [], .p (.bool b)⟩), none⟩, ⟨true, (some ⟨[], [], [], 1, [], .p (.str s3)⟩), none⟩, oT, oT], .reg [oT, oT, oT, ⟨true, (some ⟨[], [], [], 1, [(0, iOb c f)], .tup [.ar 1 0 0 c, .p (.bool true)]⟩), none⟩, oT, oT, oT, oT, oT], .reg [oT], .dec true, .reg [oT, oT, oT, oT, ⟨true, (some ⟨[], [], [896], 2, [], .p (.str fs)⟩), none⟩, oT, oT], .reg [oT, oT, oT, oT, oT, ⟨true, (some ⟨[], [], [], 1, [(0, iOb j f2)], .ar 1 0 0 j⟩), none⟩, oT, ⟨true, (some ⟨[], [], [], 1, [], .p (.str fj)⟩), none⟩, oT, oT]] [.code (bodyOf Try.f23)] (start Try.f23 [] 0 [grG g nb N, .p (.int .i64 k), .p (.int .i64 l)]) [] 1 [] (.p (.str (((((((wsRank ++ fr) ++ s2) ++ s3) ++ wsOver) ++ fs) ++ wsRej) ++ fj))) =
    some [((0 : Nat) < 1),
  Con Try.prog 57 0 [] [.agg [.p (.int .i64 (↑N : Int)), .p (.seq true 2 nb (fun i => [.int .i64 ((g i).1), .int .i64 ((g i).2.1)]))], .p (.int .i64 (↑k : Int)), .p (.int .i64 (↑l : Int))] [] (.p (.int .i64 (↑r : Int))),
  ((decide ((↑r : Int) < 0)) = false),
  Con Try.prog 58 0 [] [.p (.int .i64 (↑r : Int))] [] (.p (.str fr)),
  ((((ByteArray.mk #[114, 97, 110, 107, 32]).size + fr.size) : Nat) ≤ 9223372036854775807),
  ((0 : Nat) < 1),
  Con Try.prog 60 0 [] [.agg [.p (.int .i64 (↑N : Int)), .p (.seq true 2 nb (fun i => [.int .i64 ((g i).1), .int .i64 ((g i).2.1)]))], .p (.int .i64 (↑k : Int)), .p (.int .i64 (↑l : Int))] [] (.p (.bool a)),
  Con Try.prog 59 0 [] [.p (.bool a), .p (.str (ByteArray.mk #[32, 115, 112, 97, 114, 115, 101]))] [] (.p (.str s2)),
  ((((ByteArray.mk #[114, 97, 110, 107, 32] ++ fr).size + s2.size) : Nat) ≤ 9223372036854775807),
  ((0 : Nat) < 1),
  Con Try.prog 61 0 [] [.agg [.p (.int .i64 (↑N : Int)), .p (.seq true 2 nb (fun i => [.int .i64 ((g i).1), .int .i64 ((g i).2.1)]))], .p (.int .i64 (↑k : Int)), .p (.int .i64 (↑l : Int))] [] (.p (.bool b)),
  Con Try.prog 59 0 [] [.p (.bool b), .p (.str (ByteArray.mk #[32, 116, 105, 103, 104, 116]))] [] (.p (.str s3)),
  ((((ByteArray.mk #[114, 97, 110, 107, 32] ++ fr ++ s2).size + s3.size) : Nat) ≤ 9223372036854775807),
  ((0 : Nat) < 1),
  Con Try.prog 62 0 [] [.agg [.p (.int .i64 (↑N : Int)), .p (.seq true 2 nb (fun i => [.int .i64 ((g i).1), .int .i64 ((g i).2.1)]))], .p (.int .i64 (↑k : Int)), .p (.int .i64 (↑l : Int))] [(0, ⟨false, 1, c, (fun i => [.p (.int .i64 (f i))])⟩)] (.tup [.ar 1 0 0 c, .p (.bool true)]),
  (true = true),
  ((((ByteArray.mk #[114, 97, 110, 107, 32] ++ fr ++ s2 ++ s3).size + (ByteArray.mk #[32, 111, 118, 101, 114, 32]).size) : Nat) ≤ 9223372036854775807),
  (AN 1),
  ((1 : Nat) ≤ 1),
  (∀ i : Nat, (((i : Nat) < 1) → All [(AN 1), ((c : Nat) ≤ c)])),
  Con Try.prog 63 0 [] [.p (.seq true 1 1 (fun i => [.seq true 1 c (fun i_1 => [.int .i64 (f i_1)])]))] [] (.p (.str fs)),
  ((((ByteArray.mk #[114, 97, 110, 107, 32] ++ fr ++ s2 ++ s3 ++ ByteArray.mk #[32, 111, 118, 101, 114, 32]).size + fs.size) : Nat) ≤ 9223372036854775807),
  ((((ByteArray.mk #[114, 97, 110, 107, 32] ++ fr ++ s2 ++ s3 ++ ByteArray.mk #[32, 111, 118, 101, 114, 32] ++ fs).size + (ByteArray.mk #[32, 114, 101, 106, 101, 99, 116, 101, 100, 32]).size) : Nat) ≤ 9223372036854775807),
  ((0 : Nat) < 1),
  Con Try.prog 64 0 [] [.agg [.p (.int .i64 (↑N : Int)), .p (.seq true 2 nb (fun i => [.int .i64 ((g i).1), .int .i64 ((g i).2.1)]))], .p (.int .i64 (↑k : Int)), .p (.int .i64 (↑l : Int))] [(0, ⟨false, 1, j, (fun i => [.p (.int .i64 (f2 i))])⟩)] (.ar 1 0 0 j),
  Con Try.prog 58 0 [] [.p (.int .i64 (↑j : Int))] [] (.p (.str fj)),
  ((((ByteArray.mk #[114, 97, 110, 107, 32] ++ fr ++ s2 ++ s3 ++ ByteArray.mk #[32, 111, 118, 101, 114, 32] ++ fs ++ ByteArray.mk #[32, 114, 101, 106, 101, 99, 116, 101, 100, 32]).size + fj.size) : Nat) ≤ 9223372036854775807),
  (ByteArray.mk #[114, 97, 110, 107, 32] ++ fr ++ s2 ++ s3 ++ ByteArray.mk #[32, 111, 118, 101, 114, 32] ++ fs ++ ByteArray.mk #[32, 114, 101, 106, 101, 99, 116, 101, 100, 32] ++ fj = wsRank ++ fr ++ s2 ++ s3 ++ wsOver ++ fs ++ wsRej ++ fj)] := by kernel_rfl
theorem xLs2 (g : Nat → T_Bar) (nb N k l r c j : Nat) (f f2 : Nat → Int) (a b : Bool) (fr s2 s3 fj : ByteArray) :
    pathOb Try.prog Try.f23 0 [.reg [oT, oT], .reg [oT, oT, oT, ⟨true, (some ⟨[], [], [], 1, [], .p (.int .i64 r)⟩), none⟩, oT], .reg [oT, oT], .dec false, .reg [oT, ⟨true, (some ⟨[], [], [], 1, [], .p (.str fr)⟩), none⟩, oT, oT, oT, oT, ⟨true, (some ⟨[], [], [], 1, [], .p (.bool a)⟩), none⟩, ⟨true, (some ⟨[], [], [], 1, [], .p (.str s2)⟩), none⟩, oT, oT, oT, oT, ⟨true, (some ⟨[], [], [], 1, [], .p (.bool b)⟩), none⟩, ⟨true, (some ⟨[], [], [], 1, [], .p (.str s3)⟩), none⟩, oT, oT], .reg [oT, oT, oT, ⟨true, (some ⟨[], [], [], 1, [(0, iOb c f)], .tup [.ar 1 0 0 c, .p (.bool false)]⟩), none⟩, oT, oT, oT, oT, oT], .reg [oT], .dec false, .reg [oT, oT, oT, oT, oT, ⟨true, (some ⟨[], [], [], 1, [(0, iOb j f2)], .ar 1 0 0 j⟩), none⟩, oT, ⟨true, (some ⟨[], [], [], 1, [], .p (.str fj)⟩), none⟩, oT, oT]] [.code (bodyOf Try.f23)] (start Try.f23 [] 0 [grG g nb N, .p (.int .i64 k), .p (.int .i64 l)]) [] 1 [] (.p (.str (((((wsRank ++ fr) ++ s2) ++ s3) ++ wsRej) ++ fj))) =
    some [((0 : Nat) < 1),
  Con Try.prog 57 0 [] [.agg [.p (.int .i64 (↑N : Int)), .p (.seq true 2 nb (fun i => [.int .i64 ((g i).1), .int .i64 ((g i).2.1)]))], .p (.int .i64 (↑k : Int)), .p (.int .i64 (↑l : Int))] [] (.p (.int .i64 (↑r : Int))),
  ((decide ((↑r : Int) < 0)) = false),
  Con Try.prog 58 0 [] [.p (.int .i64 (↑r : Int))] [] (.p (.str fr)),
  ((((ByteArray.mk #[114, 97, 110, 107, 32]).size + fr.size) : Nat) ≤ 9223372036854775807),
  ((0 : Nat) < 1),
  Con Try.prog 60 0 [] [.agg [.p (.int .i64 (↑N : Int)), .p (.seq true 2 nb (fun i => [.int .i64 ((g i).1), .int .i64 ((g i).2.1)]))], .p (.int .i64 (↑k : Int)), .p (.int .i64 (↑l : Int))] [] (.p (.bool a)),
  Con Try.prog 59 0 [] [.p (.bool a), .p (.str (ByteArray.mk #[32, 115, 112, 97, 114, 115, 101]))] [] (.p (.str s2)),
  ((((ByteArray.mk #[114, 97, 110, 107, 32] ++ fr).size + s2.size) : Nat) ≤ 9223372036854775807),
  ((0 : Nat) < 1),
  Con Try.prog 61 0 [] [.agg [.p (.int .i64 (↑N : Int)), .p (.seq true 2 nb (fun i => [.int .i64 ((g i).1), .int .i64 ((g i).2.1)]))], .p (.int .i64 (↑k : Int)), .p (.int .i64 (↑l : Int))] [] (.p (.bool b)),
  Con Try.prog 59 0 [] [.p (.bool b), .p (.str (ByteArray.mk #[32, 116, 105, 103, 104, 116]))] [] (.p (.str s3)),
  ((((ByteArray.mk #[114, 97, 110, 107, 32] ++ fr ++ s2).size + s3.size) : Nat) ≤ 9223372036854775807),
  ((0 : Nat) < 1),
  Con Try.prog 62 0 [] [.agg [.p (.int .i64 (↑N : Int)), .p (.seq true 2 nb (fun i => [.int .i64 ((g i).1), .int .i64 ((g i).2.1)]))], .p (.int .i64 (↑k : Int)), .p (.int .i64 (↑l : Int))] [(0, ⟨false, 1, c, (fun i => [.p (.int .i64 (f i))])⟩)] (.tup [.ar 1 0 0 c, .p (.bool false)]),
  (false = false),
  ((((ByteArray.mk #[114, 97, 110, 107, 32] ++ fr ++ s2 ++ s3).size + (ByteArray.mk #[32, 114, 101, 106, 101, 99, 116, 101, 100, 32]).size) : Nat) ≤ 9223372036854775807),
  ((0 : Nat) < 1),
  Con Try.prog 64 0 [] [.agg [.p (.int .i64 (↑N : Int)), .p (.seq true 2 nb (fun i => [.int .i64 ((g i).1), .int .i64 ((g i).2.1)]))], .p (.int .i64 (↑k : Int)), .p (.int .i64 (↑l : Int))] [(0, ⟨false, 1, j, (fun i => [.p (.int .i64 (f2 i))])⟩)] (.ar 1 0 0 j),
  Con Try.prog 58 0 [] [.p (.int .i64 (↑j : Int))] [] (.p (.str fj)),
  ((((ByteArray.mk #[114, 97, 110, 107, 32] ++ fr ++ s2 ++ s3 ++ ByteArray.mk #[32, 114, 101, 106, 101, 99, 116, 101, 100, 32]).size + fj.size) : Nat) ≤ 9223372036854775807),
  (ByteArray.mk #[114, 97, 110, 107, 32] ++ fr ++ s2 ++ s3 ++ ByteArray.mk #[32, 114, 101, 106, 101, 99, 116, 101, 100, 32] ++ fj = wsRank ++ fr ++ s2 ++ s3 ++ wsRej ++ fj)] := by kernel_rfl
end Go.Proofs.Ytffnfeefjdmifaa.Mach
