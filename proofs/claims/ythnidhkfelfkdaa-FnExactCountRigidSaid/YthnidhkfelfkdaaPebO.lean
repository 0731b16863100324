/- The rank by the pebble game: both programs reckon the same. Conditions: as each theorem says. -/
import Derived.Test.YthnidhkfelfkdaaPebN
namespace Go.Proofs.Ythnidhkfelfkdaa.Mach
open Go
set_option linter.unusedVariables false
set_option linter.unusedSimpArgs false

theorem con_IsRange_i (k l : Nat) (hk : 1 ≤ k ∧ k ≤ 3) (hl : l + 1 ≤ 2 * k) : Con Try.prog 83 0 [] [.p (.int .i64 k), .p (.int .i64 l)] [] (.p (.bool true)) := by
  have h1 := con_within k 1 3
  rw [show inB k 1 3 = true by simp [inB]; omega] at h1
  have h2 := con_within l 0 (2 * (k : Int) - 1)
  rw [show inB l 0 (2 * (k : Int) - 1) = true by simp [inB]; omega] at h2
  refine con_start Try.func83 rfl (by kernel_rfl) rfl (fun c hc => ?_)
  refine path_ok mixed Try.func83 hc (nRi k l) ?_
  simp only [All]
  repeat' (first | exact trivial | with_reducible apply And.intro)
  all_goals (first | omega | rfl | (intros; first | assumption | exact True.intro | rfl | exact absurd (show false = true by assumption) Bool.false_ne_true | ((repeat' (first | assumption | apply anda | apply notf)); done)) | (exact h1) | (intros; exact h2) | (intros; omega) | (simp; done))

theorem con_IsRange_s (k l : Nat) (hk : 1 ≤ k ∧ k ≤ 3) (hl : l + 1 ≤ 2 * k) : Con Try.prog 88 0 [] [.p (.int .i64 k), .p (.int .i64 l)] [] (.p (.bool true)) := by
  have h1 := con_l1In k 1 3
  rw [show inB k 1 3 = true by simp [inB]; omega] at h1
  refine con_start Try.func88 rfl (by kernel_rfl) rfl (fun c hc => ?_)
  refine path_ok mixed Try.func88 hc (nRs k l) ?_
  simp only [All]
  repeat' (first | exact trivial | with_reducible apply And.intro)
  all_goals (first | omega | rfl | (intros; first | assumption | exact True.intro | rfl | exact absurd (show false = true by assumption) Bool.false_ne_true | ((repeat' (first | assumption | apply anda | apply notf)); done)) | (exact h1) | (intros; omega) | (simp; omega))

theorem con_RankOf_i {N nb : Nat} {g : Nat → T_Bar} (hg : isGraphF ((N : Int), (nb, g), ()) = true) (k l : Nat) (hk : 1 ≤ k ∧ k ≤ 3) (hl : l + 1 ≤ 2 * k) :
    Con Try.prog 67 0 [] [grG g nb N, .p (.int .i64 k), .p (.int .i64 l)] [] (.p (.int .i64 ((accI N k l g nb).length : Nat))) := by
  obtain ⟨hN, hnb, hok⟩ := graph_in hg
  have hsm : smS s_Graph ((N : Int), (nb, g), ()) := ⟨by simp [smS, smL], ⟨by show nb ≤ 1048576; omega, fun i hi => by simp [smS, smL]⟩, True.intro⟩
  have hcg := con_IsGraph_i ((N : Int), (nb, g), ()) hsm
  rw [hg] at hcg
  have hr := con_IsRange_i k l hk hl
  obtain ⟨m, F, T, Q, hc1, hp, hq⟩ := con_play (N := N) (k := k) (l := l) hok (by omega) (by omega) (by omega) (by omega)
  have hm : m ≤ 24 := by
    have := accI_len N k l g nb
    rw [← hq, qL_length] at this; omega
  have hrun : Con Try.prog 75 0 [] [grG g nb N, .p (.int .i64 k), .p (.int .i64 l)] (pebR N m F T Q) (.tup [pebO N m 0, .p (.bool true)]) := by
    refine con_start Try.func75 rfl (by kernel_rfl) rfl (fun c hc => ?_)
    refine path_ok mixed Try.func75 hc (nUi g nb N k l m F T Q) ?_
    simp only [All]
    repeat' (first | exact trivial | with_reducible apply And.intro)
    all_goals (first | omega | rfl | (intros; first | assumption | exact True.intro | rfl | exact absurd (show false = true by assumption) Bool.false_ne_true | ((repeat' (first | assumption | apply anda | apply notf)); done)) | (exact hcg) | (intros; exact hr) | (exact hc1) | (simp; done) | (intro i hi; simp [All]))
  rw [← hq, qL_length]
  refine con_start Try.func67 rfl (by kernel_rfl) rfl (fun c hc => ?_)
  refine path_ok mixed Try.func67 hc (nKi g nb N k l m F T Q) ?_
  simp only [All]
  repeat' (first | exact trivial | with_reducible apply And.intro)
  all_goals (first | omega | rfl | (intros; first | assumption | exact True.intro | rfl | exact absurd (show false = true by assumption) Bool.false_ne_true | ((repeat' (first | assumption | apply anda | apply notf)); done)) | (exact hrun) | (simp; done) | (intro i hi; simp [All]))

theorem con_l4Tail (N m : Nat) (F T Q : Nat → Int) (x : Int) (hm : m ≤ 1048576) : Con Try.prog 99 0 [] [pebD N m F T Q, .p (.int .i64 x)] [] (.p (.int .i64 (tcI T m x))) := by
  have hle : ∀ i, 0 ≤ tcI T i x ∧ tcI T i x ≤ i := by
    intro i
    induction i with
    | zero => simp [tcI]
    | succ i ih => simp only [tcI]; split <;> omega
  refine con_start Try.func99 rfl (by kernel_rfl) rfl (fun c hc => ?_)
  have lp : ∀ d i, i + d = m → Run Try.prog c 99 [.code (cAt (bodyOf Try.f99) [1, 1, 0, 1, 0, 0]), .inLoop (cAt (bodyOf Try.f99) [1, 1, 0, 1, 0, 0]), .inBlock 0, .code (cAt (bodyOf Try.f99) [1, 1, 1])] (ST0 N m F T Q x i) (Post c [] (.p (.int .i64 (tcI T m x)))) := by
    intro d
    induction d with
    | zero =>
      intro i hi
      have hi' : i = m := by omega
      have hd : decide ((i : Int) < (m : Int)) = false := by simp; omega
      rw [show tcI T m x = tcI T i x by rw [hi']]
      refine path_ok mixed Try.func99 hc (nTe N m F T Q x i) ?_
      simp only [All]
      repeat' (first | exact trivial | with_reducible apply And.intro)
      all_goals (first | omega | rfl | (intros; first | assumption | exact True.intro | rfl | exact absurd (show false = true by assumption) Bool.false_ne_true | ((repeat' (first | assumption | apply anda | apply notf)); done)) | (exact hd) | (simp; done))
    | succ d ih =>
      intro i hi
      have hd : decide ((i : Int) < (m : Int)) = true := by simp; omega
      have hl := hle i
      by_cases h : T i = x
      · have hb : (T i == x) = true := by simp [h]
        refine piece_ok mixed hc (nTt N m F T Q x i) ?_ (ih (i + 1) (by omega))
        simp only [All]
        repeat' (first | exact trivial | with_reducible apply And.intro)
        all_goals (first | omega | rfl | (intros; first | assumption | exact True.intro | rfl | exact absurd (show false = true by assumption) Bool.false_ne_true | ((repeat' (first | assumption | apply anda | apply notf)); done)) | (exact hb) | (simp only [tcI, h, if_true]; done) | (simp only [tcI, h, if_true]; omega) | (intro j hj; simp [All]))
      · have hb : (T i == x) = false := by simp [h]
        refine piece_ok mixed hc (nTf N m F T Q x i) ?_ (ih (i + 1) (by omega))
        simp only [All]
        repeat' (first | exact trivial | with_reducible apply And.intro)
        all_goals (first | omega | rfl | (intros; first | assumption | exact True.intro | rfl | exact absurd (show false = true by assumption) Bool.false_ne_true | ((repeat' (first | assumption | apply anda | apply notf)); done)) | (exact hb) | (simp only [tcI, h, if_false]; omega) | (intro j hj; simp [All]))
  refine piece_ok mixed hc (nTz N m F T Q x) ?_ (lp m 0 (by omega))
  simp only [All]
  repeat' (first | exact trivial | with_reducible apply And.intro)
  all_goals (first | omega | rfl | (intros; first | assumption | exact True.intro | rfl | exact absurd (show false = true by assumption) Bool.false_ne_true | ((repeat' (first | assumption | apply anda | apply notf)); done)) | (intro j hj; simp [All]))

def Asc (Q : Nat → Int) (m : Nat) : Prop := ∀ j, j + 1 < m → Q j < Q (j + 1)

theorem badI_f {N k nb m : Nat} {g : Nat → T_Bar} {F T Q : Nat → Int} (hp : PInv N k nb m g F T Q) (ha : Asc Q m) (i : Nat) (hi : i < m) : badI g nb T Q i = false := by
  have h1 := hp.q i hi
  have h2 := hp.t i hi
  have a1 : decide (Q i < 0) = false := by simp; omega
  have a2 : decide (Q i ≥ (nb : Int)) = false := by simp; omega
  have a3 : (bif decide ((i : Int) > 0) then decide (Q ((i : Int) - 1).toNat ≥ Q i) else false) = false := by
    by_cases h : i = 0
    · subst h; rfl
    · have := ha (i - 1) (by omega)
      have e : ((i : Int) - 1).toNat = i - 1 := by omega
      rw [show i - 1 + 1 = i by omega] at this
      rw [e]
      have h4 : decide (Q (i - 1) ≥ Q i) = false := by simp; omega
      rw [h4]
      cases decide ((i : Int) > 0) <;> rfl
  have a4 : (bif T i != (g (Q i).toNat).1 then T i != (g (Q i).toNat).2.1 else false) = false := by
    rcases h2 with e | e
    · rw [show (T i != (g (Q i).toNat).1) = false by simp [e]]; rfl
    · rw [show (T i != (g (Q i).toNat).2.1) = false by simp [e]]
      cases (T i != (g (Q i).toNat).1) <;> rfl
  unfold badI
  rw [a1, a2, a3, a4]
  rfl

theorem con_IsPebbles {N k nb m : Nat} {g : Nat → T_Bar} {F T Q : Nat → Int} (hp : PInv N k nb m g F T Q) (ha : Asc Q m) (hg : isGraphF ((N : Int), (nb, g), ()) = true) (hk : 1 ≤ k ∧ k ≤ 3) (hm : m ≤ 1048576) :
    Con Try.prog 94 0 [] [grG g nb N, .p (.int .i64 k), pebD N m F T Q] [] (.p (.bool true)) := by
  obtain ⟨hN, hnb, hok⟩ := graph_in hg
  have hsm : smS s_Graph ((N : Int), (nb, g), ()) := ⟨by simp [smS, smL], ⟨by show nb ≤ 1048576; omega, fun i hi => by simp [smS, smL]⟩, True.intro⟩
  have hcg := con_IsGraph_s ((N : Int), (nb, g), ()) hsm
  rw [hg] at hcg
  have h1 := con_l1In k 1 3
  rw [show inB k 1 3 = true by simp [inB]; omega] at h1
  refine con_start Try.func94 rfl (by kernel_rfl) rfl (fun c hc => ?_)
  have lp1 : ∀ d i, i + d = N → Run Try.prog c 94 [.code (cAt (bodyOf Try.f94) [1, 1, 1, 0, 1, 0, 0]), .inLoop (cAt (bodyOf Try.f94) [1, 1, 1, 0, 1, 0, 0]), .inBlock 2, .code (cAt (bodyOf Try.f94) [1, 1, 1, 1])] (SI1 g nb N k m F T Q i) (Post c [] (.p (.bool true))) := by
    intro d
    induction d with
    | zero =>
      intro i hi
      have hd : decide ((i : Int) < (N : Int)) = false := by simp; omega
      refine path_ok mixed Try.func94 hc (nIe g nb N k m F T Q i) ?_
      simp only [All]
      repeat' (first | exact trivial | with_reducible apply And.intro)
      all_goals (first | omega | rfl | (intros; first | assumption | exact True.intro | rfl | exact absurd (show false = true by assumption) Bool.false_ne_true | ((repeat' (first | assumption | apply anda | apply notf)); done)) | (exact hd) | (simp; done))
    | succ d ih =>
      intro i hi
      have hd : decide ((i : Int) < (N : Int)) = true := by simp; omega
      have ht := con_l4Tail N m F T Q i hm
      have hf0 := hp.f0 i (by omega)
      have hsum := hp.sum i (by omega)
      have htn := tcI_nonneg T i m
      have hb : (bif decide (F i < 0) then true else F i + tcI T m i != (k : Int)) = false := by
        have h4 : decide (F i < 0) = false := by simp; omega
        rw [h4]
        simp [hsum]
      refine piece_ok mixed hc (nI1 g nb N k m F T Q i) ?_ (ih (i + 1) (by omega))
      simp only [All]
      repeat' (first | exact trivial | with_reducible apply And.intro)
      all_goals (first | omega | rfl | (intros; first | assumption | exact True.intro | rfl | exact absurd (show false = true by assumption) Bool.false_ne_true | ((repeat' (first | assumption | apply anda | apply notf)); done)) | (intros; exact ht) | (exact hb) | (intros; omega) | (intro j hj; simp [All]))
  have lp0 : ∀ d i, i + d = m → Run Try.prog c 94 [.code (cAt (bodyOf Try.f94) [1, 1, 0, 1, 0, 0]), .inLoop (cAt (bodyOf Try.f94) [1, 1, 0, 1, 0, 0]), .inBlock 0, .code (cAt (bodyOf Try.f94) [1, 1, 1])] (SI0 g nb N k m F T Q i) (Post c [] (.p (.bool true))) := by
    intro d
    induction d with
    | zero =>
      intro i hi
      have hd : decide ((i : Int) < (m : Int)) = false := by simp; omega
      refine piece_ok mixed hc (nI01 g nb N k m F T Q i) ?_ (lp1 N 0 (by omega))
      simp only [All]
      repeat' (first | exact trivial | with_reducible apply And.intro)
      all_goals (first | omega | rfl | (intros; first | assumption | exact True.intro | rfl | exact absurd (show false = true by assumption) Bool.false_ne_true | ((repeat' (first | assumption | apply anda | apply notf)); done)) | (exact hd) | (intro j hj; simp [All]))
    | succ d ih =>
      intro i hi
      have him : i < m := by omega
      have hd : decide ((i : Int) < (m : Int)) = true := by simp; omega
      have hbad := badI_f hp ha i him
      have hq := hp.q i him
      refine piece_ok mixed hc (nI0 g nb N k m F T Q i) ?_ (ih (i + 1) (by omega))
      simp only [All]
      repeat' (first | exact trivial | with_reducible apply And.intro)
      all_goals (first | omega | rfl | (intros; first | assumption | exact True.intro | rfl | exact absurd (show false = true by assumption) Bool.false_ne_true | ((repeat' (first | assumption | apply anda | apply notf)); done)) | (exact hbad) | (intros; omega) | (intro h; have := idx_lt h him; omega) | (intro h; show (0 : Int) ≤ Q i ∧ Q i < nb; omega) | (intro j hj; simp [All]))
  refine piece_ok mixed hc (nIz g nb N k m F T Q) ?_ (lp0 m 0 (by omega))
  simp only [All]
  repeat' (first | exact trivial | with_reducible apply And.intro)
  all_goals (first | omega | rfl | (intros; first | assumption | exact True.intro | rfl | exact absurd (show false = true by assumption) Bool.false_ne_true | ((repeat' (first | assumption | apply anda | apply notf)); done)) | (exact hcg) | (intros; exact h1) | (simp; done) | (intro j hj; simp [All]))

theorem con_PlaceBar {N k nb m l e : Nat} {g : Nat → T_Bar} {F T Q : Nat → Int} (hp : PInv N k nb m g F T Q) (ha : Asc Q m) (hlt : ∀ j, j < m → Q j < e) (hg : isGraphF ((N : Int), (nb, g), ()) = true) (hk : 1 ≤ k ∧ k ≤ 3) (hl : l + 1 ≤ 2 * k) (hm : m ≤ 1000) (he : e < nb)
    (hsp : Mat.Sparse N k l (plL g Q m)) :
    (∃ F' T', Con Try.prog 89 0 [] [grG g nb N, .p (.int .i64 k), .p (.int .i64 l), pebD N m F T Q, .p (.int .i64 (e : Nat))] (pebR N (m + 1) F' T' (fun s => if s < m then Q s else e)) (.tup [pebO N (m + 1) 0, .p (.bool true)]) ∧
      PInv N k nb (m + 1) g F' T' (fun s => if s < m then Q s else e) ∧ Mat.Sparse N k l (plL g Q m ++ [brN (g e)])) ∨
    (Con Try.prog 89 0 [] [grG g nb N, .p (.int .i64 k), .p (.int .i64 l), pebD N m F T Q, .p (.int .i64 (e : Nat))] (pebR N m F T Q) (.tup [pebO N m 0, .p (.bool false)]) ∧ ¬ Mat.Sparse N k l (plL g Q m ++ [brN (g e)])) := by
  obtain ⟨hN, hnb, hok⟩ := graph_in hg
  have hbar := hok e he
  have hip := con_IsPebbles hp ha hg hk (by omega)
  have hir := con_IsRange_s k l hk hl
  have hcc := con_l4Copy N m F T Q (by omega) (by omega)
  have hb : (bif bif bif bif !true then true else !true then true else decide ((e : Int) < 0) then true else decide ((e : Int) ≥ (nb : Int)) then true else bif decide ((m : Int) > 0) then decide (Q ((m : Int) - 1).toNat ≥ (e : Int)) else false) = false := by
    have b1 : decide ((e : Int) < 0) = false := decide_eq_false (by omega)
    have b2 : decide ((e : Int) ≥ (nb : Int)) = false := by simp; omega
    have b3 : (bif decide ((m : Int) > 0) then decide (Q ((m : Int) - 1).toNat ≥ (e : Int)) else false) = false := by
      by_cases h : m = 0
      · subst h; rfl
      · have := hlt ((m : Int) - 1).toNat (by omega)
        have h4 : decide (Q ((m : Int) - 1).toNat ≥ (e : Int)) = false := decide_eq_false (by omega)
        rw [h4]
        cases decide ((m : Int) > 0) <;> rfl
    rw [b1, b2, b3]; rfl
  obtain ⟨F1, T1, r, hc1, h1, h2, h3⟩ := con_l4Gather (l := l) (a := (g e).1) (b := (g e).2.1) hp (by omega) (by omega) (by omega) (by omega) (by omega) (by omega) (by omega)
  have hlA := h1.le (v := (g e).1.toNat) (by omega)
  have hlB := h1.le (v := (g e).2.1.toNat) (by omega)
  cases r with
  | false =>
    right
    refine ⟨?_, h3 rfl⟩
    refine con_start Try.func89 rfl (by kernel_rfl) rfl (fun c hc => ?_)
    refine path_ok mixed Try.func89 hc (nPf g nb N k l m e F T Q F1 T1) ?_
    simp only [All]
    repeat' (first | exact trivial | with_reducible apply And.intro)
    all_goals (first | omega | rfl | (intros; first | assumption | exact True.intro | rfl | exact absurd (show false = true by assumption) Bool.false_ne_true | ((repeat' (first | assumption | apply anda | apply notf)); done)) | (exact hip) | (intros; exact hir) | (exact hb) | (exact hc1) | (exact hcc) | (simp; done) | (intro h; have := idx_lt h (Nat.lt_succ_self m); omega) | (intro i hi; simp [All]))
  | true =>
    left
    have hw := h2 rfl
    have hacc : Mat.Sparse N k l (plL g Q m ++ [brN (g e)]) := by
      have := (h1.game l).accept (by rw [barsOf_gm]; exact hsp) (g e).1.toNat (g e).2.1.toNat ⟨by show (g e).1.toNat ≠ (g e).2.1.toNat; omega, by show (g e).1.toNat < N; omega, by show (g e).2.1.toNat < N; omega⟩
        (by show l + 1 ≤ (F1 (g e).1.toNat).toNat + (F1 (g e).2.1.toNat).toNat; omega)
      rw [barsOf_gm] at this
      exact this
    by_cases hz : F1 (g e).1.toNat = 0
    · have hzb : (F1 (g e).1.toNat == 0) = true := by simp [hz]
      refine ⟨_, _, ?_, h1.placed e he (g e).2.1 (.inr rfl) (by omega), hacc⟩
      refine con_start Try.func89 rfl (by kernel_rfl) rfl (fun c hc => ?_)
      refine path_ok mixed Try.func89 hc (nPb g nb N k l m e F T Q F1 T1) ?_
      simp only [All]
      repeat' (first | exact trivial | with_reducible apply And.intro)
      all_goals (first | omega | rfl | (intros; first | assumption | exact True.intro | rfl | exact absurd (show false = true by assumption) Bool.false_ne_true | ((repeat' (first | assumption | apply anda | apply notf)); done)) | (exact hip) | (intros; exact hir) | (exact hb) | (exact hc1) | (exact hzb) | (simp; done) | (intro h; have := idx_lt h (Nat.lt_succ_self m); omega) | (intro i hi; simp [All]; done) | (intro i hi; by_cases h : i < m <;> simp [h, cvtL, cvt, tg, tru, All]; done) | (intro i hi; by_cases h : i = (g e).2.1.toNat <;> simp [h, cvtL, cvt, tg, tru, All]))
    · have hzb : (F1 (g e).1.toNat == 0) = false := by simp [hz]
      refine ⟨_, _, ?_, h1.placed e he (g e).1 (.inl rfl) (by omega), hacc⟩
      refine con_start Try.func89 rfl (by kernel_rfl) rfl (fun c hc => ?_)
      refine path_ok mixed Try.func89 hc (nPa g nb N k l m e F T Q F1 T1) ?_
      simp only [All]
      repeat' (first | exact trivial | with_reducible apply And.intro)
      all_goals (first | omega | rfl | (intros; first | assumption | exact True.intro | rfl | exact absurd (show false = true by assumption) Bool.false_ne_true | ((repeat' (first | assumption | apply anda | apply notf)); done)) | (exact hip) | (intros; exact hir) | (exact hb) | (exact hc1) | (exact hzb) | (simp; done) | (intro h; have := idx_lt h (Nat.lt_succ_self m); omega) | (intro i hi; simp [All]; done) | (intro i hi; by_cases h : i < m <;> simp [h, cvtL, cvt, tg, tru, All]; done) | (intro i hi; by_cases h : i = (g e).1.toNat <;> simp [h, cvtL, cvt, tg, tru, All]))

theorem con_RankOf_s {N nb : Nat} {g : Nat → T_Bar} (hg : isGraphF ((N : Int), (nb, g), ()) = true) (k l : Nat) (hk : 1 ≤ k ∧ k ≤ 3) (hl : l + 1 ≤ 2 * k) :
    Con Try.prog 72 0 [] [grG g nb N, .p (.int .i64 k), .p (.int .i64 l)] [] (.p (.int .i64 ((accI N k l g nb).length : Nat))) := by
  obtain ⟨hN, hnb, hok⟩ := graph_in hg
  have hr := con_IsRange_s k l hk hl
  have hn := con_NewPebbles (nb := nb) (g := g) (N := N) (k := k) (by omega) hk hg (by omega)
  have lp : ∀ d i m F T Q, i + d = nb → PInv N k nb m g F T Q → Asc Q m → (∀ j, j < m → Q j < (i : Nat)) → qL Q m = accI N k l g i →
      ∃ m' F' T' Q', (∀ c, c.n = 0 → Run Try.prog c 82 [.code (cAt (bodyOf Try.f82) [1, 1, 1, 0, 1, 0, 0]), .inLoop (cAt (bodyOf Try.f82) [1, 1, 1, 0, 1, 0, 0]), .inBlock 0, .code (cAt (bodyOf Try.f82) [1, 1, 1, 1])] (SRu g nb N k l m F T Q i) (Post c (pebR N m' F' T' Q') (.tup [pebO N m' 0, .p (.bool true)]))) ∧ qL Q' m' = accI N k l g nb := by
    intro d
    induction d with
    | zero =>
      intro i m F T Q hi hp ha hlt hq
      have hi' : i = nb := by omega
      refine ⟨m, F, T, Q, fun c hc => ?_, by rw [hq, hi']⟩
      have hd : decide ((i : Int) < (nb : Int)) = false := by simp; omega
      refine path_ok mixed Try.func82 hc (nUe g nb N k l m F T Q i) ?_
      simp only [All]
      repeat' (first | exact trivial | with_reducible apply And.intro)
      all_goals (first | omega | rfl | (intros; first | assumption | exact True.intro | rfl | exact absurd (show false = true by assumption) Bool.false_ne_true | ((repeat' (first | assumption | apply anda | apply notf)); done)) | (exact hd) | (intro j hj; simp [All]))
    | succ d ih =>
      intro i m F T Q hi hp ha hlt hq
      have hd : decide ((i : Int) < (nb : Int)) = true := by simp; omega
      have hm : m ≤ 24 := by
        have := accI_len N k l g i
        rw [← hq, qL_length] at this; omega
      have hsp : Mat.Sparse N k l (plL g Q m) := by rw [plL_qL, hq]; exact accI_sparse N k l g i
      rcases con_PlaceBar (e := i) hp ha hlt hg hk hl (by omega) (by omega) hsp with ⟨F1, T1, hc1, hp1, hs1⟩ | ⟨hc1, hs1⟩
      · obtain ⟨m', F', T', Q', hrun, h2⟩ := ih (i + 1) (m + 1) F1 T1 _ (by omega) hp1 (fun j hj => by
          show (if j < m then Q j else (i : Int)) < (if j + 1 < m then Q (j + 1) else (i : Int))
          rw [if_pos (show j < m by omega)]
          by_cases h : j + 1 < m
          · rw [if_pos h]; exact ha j h
          · rw [if_neg h]; exact hlt j (by omega)) (fun j hj => by
          show (if j < m then Q j else (i : Int)) < ((i + 1 : Nat) : Int)
          by_cases h : j < m
          · rw [if_pos h]; have := hlt j h; omega
          · rw [if_neg h]; omega) (by
          simp only [accI]
          rw [← hq, ← plL_qL, if_pos hs1]
          simp only [qL, Nat.lt_irrefl, if_false, Int.toNat_natCast]
          rw [qL_congr (Q' := Q) m (fun j hj => by simp only [hj, if_true])])
        refine ⟨m', F', T', Q', fun c hc => ?_, h2⟩
        refine piece_ok mixed hc (nUl g nb N k l m (m + 1) F T Q F1 T1 (fun s => if s < m then Q s else i) i true) ?_ (hrun c hc)
        simp only [All]
        repeat' (first | exact trivial | with_reducible apply And.intro)
        all_goals (first | omega | rfl | (intros; first | assumption | exact True.intro | rfl | exact absurd (show false = true by assumption) Bool.false_ne_true | ((repeat' (first | assumption | apply anda | apply notf)); done)) | (exact hd) | (exact hc1) | (intro j hj; simp [All]))
      · obtain ⟨m', F', T', Q', hrun, h2⟩ := ih (i + 1) m F T Q (by omega) hp ha (fun j hj => by have := hlt j hj; omega) (by
          simp only [accI]
          rw [← hq, ← plL_qL, if_neg hs1])
        refine ⟨m', F', T', Q', fun c hc => ?_, h2⟩
        refine piece_ok mixed hc (nUl g nb N k l m m F T Q F T Q i false) ?_ (hrun c hc)
        simp only [All]
        repeat' (first | exact trivial | with_reducible apply And.intro)
        all_goals (first | omega | rfl | (intros; first | assumption | exact True.intro | rfl | exact absurd (show false = true by assumption) Bool.false_ne_true | ((repeat' (first | assumption | apply anda | apply notf)); done)) | (exact hd) | (exact hc1) | (intro j hj; simp [All]))
  obtain ⟨m, F, T, Q, hrun, hq⟩ := lp nb 0 0 _ _ _ (by omega) (PInv.start hok) (fun j hj => by omega) (fun j hj => absurd hj (Nat.not_lt_zero _)) rfl
  have hru : Con Try.prog 82 0 [] [grG g nb N, .p (.int .i64 k), .p (.int .i64 l)] (pebR N m F T Q) (.tup [pebO N m 0, .p (.bool true)]) := by
    refine con_start Try.func82 rfl (by kernel_rfl) rfl (fun c hc => ?_)
    refine piece_ok mixed hc (nUz g nb N k l) ?_ (hrun c hc)
    simp only [All]
    repeat' (first | exact trivial | with_reducible apply And.intro)
    all_goals (first | omega | rfl | (intros; first | assumption | exact True.intro | rfl | exact absurd (show false = true by assumption) Bool.false_ne_true | ((repeat' (first | assumption | apply anda | apply notf)); done)) | (exact hn) | (intros; exact hr) | (simp; done) | (intro j hj; simp [All]))
  rw [← hq, qL_length]
  refine con_start Try.func72 rfl (by kernel_rfl) rfl (fun c hc => ?_)
  refine path_ok mixed Try.func72 hc (nKs g nb N k l m F T Q) ?_
  simp only [All]
  repeat' (first | exact trivial | with_reducible apply And.intro)
  all_goals (first | omega | rfl | (intros; first | assumption | exact True.intro | rfl | exact absurd (show false = true by assumption) Bool.false_ne_true | ((repeat' (first | assumption | apply anda | apply notf)); done)) | (exact hru) | (simp; done) | (intro i hi; simp [All]))

end Go.Proofs.Ythnidhkfelfkdaa.Mach
