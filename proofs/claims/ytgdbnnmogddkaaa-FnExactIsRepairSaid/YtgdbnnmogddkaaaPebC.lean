/- The pebble game of the program: one pebble is moved. Conditions: as each theorem says. -/
import Derived.Test.YtgdbnnmogddkaaaPebB
namespace Go.Proofs.Ytgdbnnmogddkaaa.Mach
open Go
set_option linter.unusedVariables false
set_option linter.unusedSimpArgs false

theorem con_other (x : T_Bar) (v : Int) : Con Try.prog 176 0 [] [brA x, .p (.int .i64 v)] [] (.p (.int .i64 (othF x v))) := by
  refine con_start Try.func176 rfl (by kernel_rfl) rfl (fun c hc => ?_)
  by_cases h : x.1 = v
  · have hb : (x.1 == v) = true := by simp [h]
    rw [show othF x v = x.2.1 by simp [othF, h]]
    refine path_ok mixed Try.func176 hc (pOtherT x v) ?_
    simp only [All]
    repeat' (first | exact trivial | with_reducible apply And.intro)
    all_goals (first | omega | rfl | (intros; first | assumption | exact True.intro | rfl | exact absurd (show false = true by assumption) Bool.false_ne_true | ((repeat' (first | assumption | apply anda | apply notf)); done)) | simp)
  · have hb : (x.1 == v) = false := by simp [h]
    rw [show othF x v = x.1 by simp [othF, h]]
    refine path_ok mixed Try.func176 hc (pOtherF x v) ?_
    simp only [All]
    repeat' (first | exact trivial | with_reducible apply And.intro)
    all_goals (first | omega | rfl | (intros; first | assumption | exact True.intro | rfl | exact absurd (show false = true by assumption) Bool.false_ne_true | ((repeat' (first | assumption | apply anda | apply notf)); done)) | simp)

theorem run_path {N nb m : Nat} {g : Nat → T_Bar} {F F1 T Q td V : Nat → Int} {a b v : Int} {tn : Nat} (h : BInv N m g F T Q td V a b tn) (hN : N ≤ 1048576) (hm : m ≤ 1048576) :
    ∀ s, s < tn → ∀ T' : Nat → Int, TInv m g T Q td V T' v s → ∃ T'' s', (∀ c, c.n = 4 → Run Try.prog c 174 [.code (cAt (bodyOf Try.f174) [1, 1, 1, 0, 1, 0, 0, 1, 0, 0, 1, 0, 0, 1, 1, 0, 0, 1, 1, 1, 1, 1, 1, 1, 1, 0, 1, 0, 0]), .inLoop (cAt (bodyOf Try.f174) [1, 1, 1, 0, 1, 0, 0, 1, 0, 0, 1, 0, 0, 1, 1, 0, 0, 1, 1, 1, 1, 1, 1, 1, 1, 0, 1, 0, 0]), .inBlock 4, .code (cAt (bodyOf Try.f174) [1, 1, 1, 0, 1, 0, 0, 1, 0, 0, 1, 0, 0, 1, 1, 0, 0, 1, 1, 1, 1, 1, 1, 1, 1, 1]), .inBlock 3, .code (cAt (bodyOf Try.f174) [1, 1, 1, 0, 1, 0, 0, 1, 0, 0, 1, 0, 0, 1, 1, 1]), .inLoop (cAt (bodyOf Try.f174) [1, 1, 1, 0, 1, 0, 0, 1, 0, 0, 1, 0, 0]), .inBlock 2, .inBlock 1, .code (cAt (bodyOf Try.f174) [1, 1, 1, 0, 1, 0, 0, 1, 1]), .inLoop (cAt (bodyOf Try.f174) [1, 1, 1, 0, 1, 0, 0]), .inBlock 0, .code (cAt (bodyOf Try.f174) [1, 1, 1, 1])] (SP g nb N m F1 T' Q td V a b (td s) tn) (Post c (pebH N m F1 T'' Q) (.p (.bool true)))) ∧
      TInv m g T Q td V T'' v s' ∧ td s' = a := by
  intro s
  induction s using Nat.strongRecOn with
  | ind s ih =>
    intro hs T' ht
    by_cases he : td s = a
    · refine ⟨T', s, fun c hc => ?_, ht, he⟩
      have hb : (td s != a) = false := by simp [he]
      refine path_ok mixed Try.func174 hc (pMp2 g nb N m F1 T' Q td V a b (td s) tn) ?_
      simp only [All]
      repeat' (first | exact trivial | with_reducible apply And.intro)
      all_goals (first | omega | rfl | (intros; first | assumption | exact True.intro | rfl | exact absurd (show false = true by assumption) Bool.false_ne_true | ((repeat' (first | assumption | apply anda | apply notf)); done)) | (exact hb) | (intro i hi; simp [All]))
    · have hs1 : 1 ≤ s := by
        cases s with
        | zero => exact absurd h.td0 he
        | succ s => omega
      obtain ⟨j, hj, hVs, s', hs', hk, ht', _, _⟩ := ht.step h hs hs1
      obtain ⟨T'', s'', hrun, h1, h2⟩ := ih s' hs' (by omega) _ ht'
      refine ⟨T'', s'', fun c hc => ?_, h1, h2⟩
      have hb : (td s != a) = true := by simp [he]
      have hmg : mget td V tn (td s) 0 = (j : Int) := by
        unfold mget
        rw [mget_at td V (td s) 0 s rfl tn 0 (by omega) (by omega) (fun i _ hi => h.inj i s hi hs)]
        exact hVs
      have hmM : mget (fun i => keyA ((mapOb tn td V).f i)) (fun i => valA ((mapOb tn td V).f i)) tn (td s) 0 = (j : Int) := hmg
      refine piece_ok mixed hc (pMp1 g nb N m F1 T' Q td V a b (td s) 0 tn) ?_ (by rw [hmg]; simp only [Int.toNat_natCast]; rw [hk]; exact hrun c hc)
      simp only [All]
      repeat' (first | exact trivial | with_reducible apply And.intro)
      all_goals (first | omega | rfl | (intros; first | assumption | exact True.intro | rfl | exact absurd (show false = true by assumption) Bool.false_ne_true | ((repeat' (first | assumption | apply anda | apply notf)); done)) | (exact hb) | (rw [hmM]; omega) | (rw [hmM, hmg]; done) | (intro i hi; simp [All]; done) | (simp only [hmM, hmg, Int.toNat_natCast]; intro i hi; by_cases h : i = j <;> simp [h, cvtL, cvt, tg, tru, All]))

/-- What a search comes to. -/
def OutG (N k nb m : Nat) (g : Nat → T_Bar) (F T Q : Nat → Int) (a b : Int) (i tn : Nat) (td V : Nat → Int) : Prop :=
  ∃ F' T' r, (∀ c, c.n = 4 → Run Try.prog c 174 [.code (cAt (bodyOf Try.f174) [1, 1, 1, 0, 1, 0, 0]), .inLoop (cAt (bodyOf Try.f174) [1, 1, 1, 0, 1, 0, 0]), .inBlock 0, .code (cAt (bodyOf Try.f174) [1, 1, 1, 1])] (SO g nb N m F T Q td V a b i tn) (Post c (pebH N m F' T' Q) (.p (.bool r)))) ∧ Moved N k nb m g F T Q a b F' T' r
def MidG (N k nb m : Nat) (g : Nat → T_Bar) (F T Q : Nat → Int) (a b : Int) (i j tn : Nat) (td V : Nat → Int) : Prop :=
  ∃ F' T' r, (∀ c, c.n = 4 → Run Try.prog c 174 [.code (cAt (bodyOf Try.f174) [1, 1, 1, 0, 1, 0, 0, 1, 0, 0, 1, 0, 0]), .inLoop (cAt (bodyOf Try.f174) [1, 1, 1, 0, 1, 0, 0, 1, 0, 0, 1, 0, 0]), .inBlock 2, .inBlock 1, .code (cAt (bodyOf Try.f174) [1, 1, 1, 0, 1, 0, 0, 1, 1]), .inLoop (cAt (bodyOf Try.f174) [1, 1, 1, 0, 1, 0, 0]), .inBlock 0, .code (cAt (bodyOf Try.f174) [1, 1, 1, 1])] (SM g nb N m F T Q td V a b i j tn) (Post c (pebH N m F' T' Q) (.p (.bool r)))) ∧ Moved N k nb m g F T Q a b F' T' r

theorem PInv.le {N k nb m : Nat} {g : Nat → T_Bar} {F T Q : Nat → Int} (hp : PInv N k nb m g F T Q) {v : Nat} (hv : v < N) : 0 ≤ F v ∧ F v ≤ k := by
  have h1 := hp.f0 v hv
  have h2 := hp.sum v hv
  have h3 := tcI_nonneg T v m
  omega

theorem run_mid {N k nb m : Nat} {g : Nat → T_Bar} {F T Q : Nat → Int} {a b : Int} (hp : PInv N k nb m g F T Q) (hk : k ≤ 1048576) (hN : N ≤ 1048576) (hm : m ≤ 1048576) (hnb : nb ≤ 1048576)
    (ha : 0 ≤ a ∧ a < N) (hb : 0 ≤ b ∧ b < N) (hab : a ≠ b) (i : Nat)
    (ih : ∀ tn td V, i + 1 ≤ tn → BInv N m g F T Q td V a b tn → BZero F td b tn → BClo m g T Q td (i + 1) 0 tn → OutG N k nb m g F T Q a b (i + 1) tn td V) :
    ∀ e j tn td V, j + e = m → i < tn → BInv N m g F T Q td V a b tn → BZero F td b tn → BClo m g T Q td i j tn → MidG N k nb m g F T Q a b i j tn td V := by
  intro e
  induction e with
  | zero =>
    intro j tn td V hj hi hbi hz hcl
    have htn := pigeon N tn td hbi.rng hbi.inj
    obtain ⟨F', T', r, hrun, hmv⟩ := ih tn td V (by omega) hbi hz (fun i' j' hij hi' hT => by
      rcases hij with ⟨h1, h2⟩ | ⟨h1, h2⟩
      · by_cases e : i' = i
        · exact hcl i' j' (.inr ⟨e, by omega⟩) hi' hT
        · exact hcl i' j' (.inl ⟨by omega, h2⟩) hi' hT
      · omega)
    refine ⟨F', T', r, fun c hc => ?_, hmv⟩
    have hd : decide ((j : Int) < (m : Int)) = false := by simp; omega
    refine piece_ok mixed hc (pMm0 g nb N m F T Q td V a b i j tn) ?_ (hrun c hc)
    simp only [All]
    repeat' (first | exact trivial | with_reducible apply And.intro)
    all_goals (first | omega | rfl | (intros; first | assumption | exact True.intro | rfl | exact absurd (show false = true by assumption) Bool.false_ne_true | ((repeat' (first | assumption | apply anda | apply notf)); done)) | (intro i hi; simp [All]))
  | succ e ihe =>
    intro j tn td V hj hi hbi hz hcl
    have htn := pigeon N tn td hbi.rng hbi.inj
    have hjm : j < m := by omega
    have hd : decide ((j : Int) < (m : Int)) = true := by simp; omega
    have hq := hp.q j hjm
    have hbar := hp.bars (Q j).toNat (by omega)
    have hrg := hbi.rng i hi
    by_cases hT : T j = td i
    · have ht1 : (T j != td i) = false := by simp [hT]
      obtain ⟨v, hv⟩ : ∃ v, othF (g (Q j).toNat) (td i) = v := ⟨_, rfl⟩
      have hvr : 0 ≤ v ∧ v < N := by rw [← hv]; exact othF_in hbar
      have hcon := con_other (g (Q j).toNat) (td i)
      rw [hv] at hcon
      cases hh : mhas td tn v with
      | true =>
        have hhM : mhas (fun i => keyA ((mapOb tn td V).f i)) tn v = true := hh
        obtain ⟨s, hs1, hs2⟩ := (mhas_iff td tn v).1 hh
        obtain ⟨F', T', r, hrun, hmv⟩ := ihe (j + 1) tn td V (by omega) hi hbi hz (fun i' j' hij hi' hTT => by
          by_cases e : i' = i ∧ j' = j
          · obtain ⟨rfl, rfl⟩ := e
            exact ⟨s, hs1, by rw [hs2, hv]⟩
          · exact hcl i' j' (by omega) hi' hTT)
        refine ⟨F', T', r, fun c hc => ?_, hmv⟩
        refine piece_ok mixed hc (pMm2 g nb N m F T Q td V a b v i j tn) ?_ (hrun c hc)
        simp only [All]
        repeat' (first | exact trivial | with_reducible apply And.intro)
        all_goals (first | omega | rfl | (intros; first | assumption | exact True.intro | rfl | exact absurd (show false = true by assumption) Bool.false_ne_true | ((repeat' (first | assumption | apply anda | apply notf)); done)) | (exact ht1) | (exact hcon) | (exact hhM) | (intro i hi; simp [All]))
      | false =>
        have hhM : mhas (fun i => keyA ((mapOb tn td V).f i)) tn v = false := hh
        have hno : ∀ s, s < tn → td s ≠ v := by
          intro s hs e
          have := (mhas_iff td tn v).2 ⟨s, hs, e⟩
          rw [hh] at this; cases this
        have hadd := hbi.add hi hjm hT hv hvr hno
        have hF := hp.le (v := v.toNat) (by omega)
        cases hcd : (bif v == b then true else F v.toNat == 0) with
        | true =>
          have hzv : v = b ∨ F v.toNat = 0 := by
            by_cases e : v = b
            · exact .inl e
            · right
              have : (v == b) = false := by simp [e]
              rw [this] at hcd
              simpa using hcd
          obtain ⟨F', T', r, hrun, hmv⟩ := ihe (j + 1) (tn + 1) _ _ (by omega) (by omega) hadd (fun s h1 h2 => by
            show (if s < tn then td s else v) = b ∨ F (if s < tn then td s else v).toNat = 0
            by_cases e : s < tn
            · rw [if_pos e]; exact hz s h1 e
            · rw [if_neg e]; exact hzv) (fun i' j' hij hi' hTT => by
            have hi2 : i' < tn := by omega
            have hTT' : T j' = td i' := by rw [hTT]; show (if i' < tn then td i' else v) = _; rw [if_pos hi2]
            show ∃ s, s < tn + 1 ∧ (if s < tn then td s else v) = othF (g (Q j').toNat) (if i' < tn then td i' else v)
            rw [if_pos hi2]
            by_cases e : i' = i ∧ j' = j
            · obtain ⟨rfl, rfl⟩ := e
              exact ⟨tn, by omega, by rw [if_neg (Nat.lt_irrefl tn), hv]⟩
            · obtain ⟨s, h1, h2⟩ := hcl i' j' (by omega) hi2 hTT'
              exact ⟨s, by omega, by rw [if_pos h1]; exact h2⟩)
          refine ⟨F', T', r, fun c hc => ?_, hmv⟩
          refine piece_ok mixed hc (pMm3 g nb N m F T Q td V a b v i j tn) ?_ (hrun c hc)
          simp only [All]
          repeat' (first | exact trivial | with_reducible apply And.intro)
          all_goals (first | omega | rfl | (intros; first | assumption | exact True.intro | rfl | exact absurd (show false = true by assumption) Bool.false_ne_true | ((repeat' (first | assumption | apply anda | apply notf)); done)) | (exact ht1) | (exact hcon) | (exact hhM) | (exact hcd) | (intro i hi; simp [All]; done) | (intro i hi; by_cases h : i < tn <;> simp [h, cvtL, cvt, tg, tru, All]))
        | false =>
          have hvb : v ≠ b := by
            intro e
            rw [show (v == b) = true by simp [e]] at hcd
            cases hcd
          have hFv : F v.toNat ≠ 0 := by
            intro e
            rw [show (v == b) = false by simp [hvb]] at hcd
            simp [e] at hcd
          have hva : v ≠ a := by
            have := hno 0 (by have := hbi.n1; omega)
            rw [hbi.td0] at this
            exact Ne.symm this
          have ht0 : TInv m g T Q (fun s => if s < tn then td s else v) (fun s => if s < tn then V s else j) T v tn := by
            refine ⟨fun _ _ _ => rfl, hp.t, fun x => ?_⟩
            show _ = tcI T m x + _ - (if (if tn < tn then td tn else v) = x then 1 else 0)
            simp only [Nat.lt_irrefl, if_false]
            omega
          obtain ⟨T'', s', hrun, h1, h2⟩ := run_path (nb := nb) (F1 := fun x => if x = a.toNat then (if x = v.toNat then F x - 1 else F x) + 1 else (if x = v.toNat then F x - 1 else F x)) hadd hN hm tn (by omega) T ht0
          refine ⟨_, T'', true, fun c hc => ?_, moved_yes hp ha hb hab hvr hva hvb hFv h1 h2⟩
          have hFa := hp.le (v := a.toNat) (by omega)
          have hrun' := hrun c hc
          simp only [Nat.lt_irrefl, if_false] at hrun'
          refine piece_ok mixed hc (pMm4 g nb N m F T Q td V a b v i j tn) ?_ ?_
          ·
            simp only [All]
            repeat' (first | exact trivial | with_reducible apply And.intro)
            all_goals (first | omega | rfl | (intros; first | assumption | exact True.intro | rfl | exact absurd (show false = true by assumption) Bool.false_ne_true | ((repeat' (first | assumption | apply anda | apply notf)); done)) | (exact ht1) | (exact hcon) | (exact hhM) | (exact hcd) | (intros; omega) | (intro i hi; simp [All]; done) | (intro i hi; by_cases h : i < tn <;> simp [h, cvtL, cvt, tg, tru, All]; done) | (intro i hi; by_cases h : i = v.toNat <;> simp [h, cvtL, cvt, tg, tru, All]))
          · have hF1 : (fun s => if s = v.toNat then F s - 1 else F s) a.toNat = F a.toNat := by
              show (if a.toNat = v.toNat then F a.toNat - 1 else F a.toNat) = _
              rw [if_neg (by omega)]
            obtain ⟨F1, hF1d⟩ : ∃ F1 : Nat → Int, F1 = (fun s => if s = v.toNat then F s - 1 else F s) := ⟨_, rfl⟩
            have hFF : (fun x => if x = a.toNat then (if x = v.toNat then F x - 1 else F x) + 1 else (if x = v.toNat then F x - 1 else F x)) = (fun s => if s = a.toNat then F1 s + 1 else F1 s) := by
              subst hF1d; rfl
            rw [hFF] at hrun' ⊢
            rw [← hF1d] at hF1 ⊢
            refine piece_ok mixed hc (pMm5 g nb N m F1 T Q _ _ a b v (tn + 1)) ?_ hrun'
            simp only [All]
            repeat' (first | exact trivial | with_reducible apply And.intro)
            all_goals (first | omega | rfl | (intros; first | assumption | exact True.intro | rfl | exact absurd (show false = true by assumption) Bool.false_ne_true | ((repeat' (first | assumption | apply anda | apply notf)); done)) | (rw [hF1]; omega) | (intro i hi; simp [All]; done) | (intro i hi; by_cases h : i = a.toNat <;> simp [h, cvtL, cvt, tg, tru, All]))
    · have ht1 : (T j != td i) = true := by simp [hT]
      obtain ⟨F', T', r, hrun, hmv⟩ := ihe (j + 1) tn td V (by omega) hi hbi hz (fun i' j' hij hi' hTT => by
        by_cases e : i' = i ∧ j' = j
        · obtain ⟨rfl, rfl⟩ := e
          exact absurd hTT hT
        · exact hcl i' j' (by omega) hi' hTT)
      refine ⟨F', T', r, fun c hc => ?_, hmv⟩
      refine piece_ok mixed hc (pMm1 g nb N m F T Q td V a b i j tn) ?_ (hrun c hc)
      simp only [All]
      repeat' (first | exact trivial | with_reducible apply And.intro)
      all_goals (first | omega | rfl | (intros; first | assumption | exact True.intro | rfl | exact absurd (show false = true by assumption) Bool.false_ne_true | ((repeat' (first | assumption | apply anda | apply notf)); done)) | (exact ht1) | (intro i hi; simp [All]))

theorem run_out {N k nb m : Nat} {g : Nat → T_Bar} {F T Q : Nat → Int} {a b : Int} (hp : PInv N k nb m g F T Q) (hk : k ≤ 1048576) (hN : N ≤ 1048576) (hm : m ≤ 1048576) (hnb : nb ≤ 1048576)
    (ha : 0 ≤ a ∧ a < N) (hb : 0 ≤ b ∧ b < N) (hab : a ≠ b) : ∀ d i tn td V, N + 1 ≤ i + d → i ≤ tn → BInv N m g F T Q td V a b tn → BZero F td b tn → BClo m g T Q td i 0 tn → OutG N k nb m g F T Q a b i tn td V := by
  intro d
  induction d with
  | zero =>
    intro i tn td V hd hi hbi _ _
    have := pigeon N tn td hbi.rng hbi.inj
    omega
  | succ d ih =>
    intro i tn td V hd hi hbi hz hcl
    have htn := pigeon N tn td hbi.rng hbi.inj
    by_cases hit : i < tn
    · have hd' : decide ((i : Int) < (tn : Int)) = true := by simp; omega
      obtain ⟨F', T', r, hrun, hmv⟩ := run_mid hp hk hN hm hnb ha hb hab i (fun tn td V h1 h2 h3 h4 => ih (i + 1) tn td V (by omega) h1 h2 h3 h4) m 0 tn td V (by omega) hit hbi hz hcl
      refine ⟨F', T', r, fun c hc => ?_, hmv⟩
      refine piece_ok mixed hc (pMo1 g nb N m F T Q td V a b i tn) ?_ (hrun c hc)
      simp only [All]
      repeat' (first | exact trivial | with_reducible apply And.intro)
      all_goals (first | omega | rfl | (intros; first | assumption | exact True.intro | rfl | exact absurd (show false = true by assumption) Bool.false_ne_true | ((repeat' (first | assumption | apply anda | apply notf)); done)) | (intro i hi; simp [All]))
    · have hd' : decide ((i : Int) < (tn : Int)) = false := by simp; omega
      obtain rfl : i = tn := by omega
      refine ⟨F, T, false, fun c hc => ?_, moved_no hp hbi hz hcl⟩
      refine path_ok mixed Try.func174 hc (pMo2 g nb N m F T Q td V a b i i) ?_
      simp only [All]
      repeat' (first | exact trivial | with_reducible apply And.intro)
      all_goals (first | omega | rfl | (intros; first | assumption | exact True.intro | rfl | exact absurd (show false = true by assumption) Bool.false_ne_true | ((repeat' (first | assumption | apply anda | apply notf)); done)) | (intro i hi; simp [All]))

/-- One pebble is moved, or cannot be. -/
theorem con_moveTo {N k nb m : Nat} {g : Nat → T_Bar} {F T Q : Nat → Int} {a b : Int} (hp : PInv N k nb m g F T Q) (hk : k ≤ 1048576) (hN : N ≤ 1048576) (hm : m ≤ 1048576) (hnb : nb ≤ 1048576)
    (ha : 0 ≤ a ∧ a < N) (hb : 0 ≤ b ∧ b < N) (hab : a ≠ b) : ∃ F' T' r, Con Try.prog 174 4 (pebH N m F T Q) [brL g nb, .pt 3 0 0 0, .p (.int .i64 a), .p (.int .i64 b)] (pebH N m F' T' Q) (.p (.bool r)) ∧
      Moved N k nb m g F T Q a b F' T' r := by
  obtain ⟨F', T', r, hrun, hmv⟩ := run_out hp hk hN hm hnb ha hb hab (N + 1) 0 1 (fun _ => a) (fun _ => -1) (by omega) (by omega)
    ⟨by omega, rfl, fun s hs => ha, fun s s' h1 h2 => by omega, fun s h1 h2 => by omega⟩ (fun s h1 h2 => by omega) (fun i' j' h => by omega)
  refine ⟨F', T', r, ?_, hmv⟩
  refine con_start Try.func174 rfl (by kernel_rfl) rfl (fun c hc => ?_)
  refine piece_ok mixed hc (pMz g nb N m F T Q a b) ?_ (hrun c hc)
  simp only [All]
  repeat' (first | exact trivial | with_reducible apply And.intro)
  all_goals (first | omega | rfl | (intros; first | assumption | exact True.intro | rfl | exact absurd (show false = true by assumption) Bool.false_ne_true | ((repeat' (first | assumption | apply anda | apply notf)); done)) | (intro i hi; simp [All]))

end Go.Proofs.Ytgdbnnmogddkaaa.Mach
