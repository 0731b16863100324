/- The pebble game of the reference: one pebble is moved. Conditions: as each theorem says. -/
import Derived.Test.YtgdbnnmogddkaaaPebF
namespace Go.Proofs.Ytgdbnnmogddkaaa.Mach
open Go
set_option linter.unusedVariables false
set_option linter.unusedSimpArgs false

theorem con_l4Other (x : T_Bar) (v : Int) (h1 : 0 ≤ x.1 ∧ x.1 ≤ 1048576) (h2 : 0 ≤ x.2.1 ∧ x.2.1 ≤ 1048576) (h3 : 0 ≤ v ∧ v ≤ 1048576) : Con Try.prog 168 0 [] [brA x, .p (.int .i64 v)] [] (.p (.int .i64 (x.1 + x.2.1 - v))) := by
  refine con_start Try.func168 rfl (by kernel_rfl) rfl (fun c hc => ?_)
  refine path_ok mixed Try.func168 hc (qOt x v) ?_
  simp only [All]
  repeat' (first | exact trivial | with_reducible apply And.intro)
  all_goals (first | omega | rfl | (intros; first | assumption | exact True.intro | rfl | exact absurd (show false = true by assumption) Bool.false_ne_true | ((repeat' (first | assumption | apply anda | apply notf)); done)) | simp)

theorem con_l4Copy (N m : Nat) (F T Q : Nat → Int) (hN : N ≤ 1048576) (hm : m ≤ 1048576) : Con Try.prog 156 0 [] [pebD N m F T Q] (pebR N m F T Q) (pebO N m 0) := by
  refine con_start Try.func156 rfl (by kernel_rfl) rfl (fun c hc => ?_)
  refine path_ok mixed Try.func156 hc (qCp N m F T Q) ?_
  simp only [All]
  repeat' (first | exact trivial | with_reducible apply And.intro)
  all_goals (first | omega | rfl | (intros; first | assumption | exact True.intro | rfl | exact absurd (show false = true by assumption) Bool.false_ne_true | ((repeat' (first | assumption | apply anda | apply notf)); done)) | (intro i hi; simp [All]))

theorem oth_sum {x : T_Bar} {y z : Int} (h : y = x.1 ∨ y = x.2.1) (hz : othF x y = z) : x.1 + x.2.1 - z = y ∧ x.1 + x.2.1 - y = z := by
  unfold othF at hz
  by_cases e : x.1 = y
  · rw [if_pos e] at hz; omega
  · rw [if_neg e] at hz
    rcases h with h | h
    · exact absurd h.symm e
    · omega

theorem run_shift {N nb m : Nat} {g : Nat → T_Bar} {F F0 F1 T Q td FR : Nat → Int} {a b u : Int} {tn : Nat} (h : BInv N m g F T Q td (fun s => FR (td s).toNat) a b tn) (hN : N ≤ 1048576) (hm : m ≤ 1048576) (hnb : nb ≤ 1048576)
    (hq : ∀ j, j < m → 0 ≤ Q j ∧ Q j < nb) (hbar : ∀ e, e < nb → 0 ≤ (g e).1 ∧ (g e).1 < (g e).2.1 ∧ (g e).2.1 < N) (hT : ∀ j, j < m → T j = (g (Q j).toNat).1 ∨ T j = (g (Q j).toNat).2.1) :
    ∀ s, s < tn → ∀ T' : Nat → Int, TInv m g T Q td (fun s => FR (td s).toNat) T' u s → ∃ T'' s', (∀ c, c.n = 0 → Run Try.prog c 169 [.code (cAt (bodyOf Try.f169) [1, 1, 1, 1, 1, 0, 0, 0]), .inLoop (cAt (bodyOf Try.f169) [1, 1, 1, 1, 1, 0, 0, 0]), .inBlock 0, .code (cAt (bodyOf Try.f169) [1, 1, 1, 1, 1, 1])] (SSl g nb N m F0 T Q FR F1 T' a u (td s)) (Post c (pebR N m F1 T'' Q) (pebO N m 0))) ∧
      TInv m g T Q td (fun s => FR (td s).toNat) T'' u s' ∧ td s' = a := by
  intro s
  induction s using Nat.strongRecOn with
  | ind s ih =>
    intro hs T' ht
    by_cases he : td s = a
    · refine ⟨T', s, fun c hc => ?_, ht, he⟩
      have hb : (td s != a) = false := by simp [he]
      refine path_ok mixed Try.func169 hc (qSe g nb N m F0 T Q FR F1 T' a u (td s)) ?_
      simp only [All]
      repeat' (first | exact trivial | with_reducible apply And.intro)
      all_goals (first | omega | rfl | (intros; first | assumption | exact True.intro | rfl | exact absurd (show false = true by assumption) Bool.false_ne_true | ((repeat' (first | assumption | apply anda | apply notf)); done)) | (exact hb) | (intro i hi; simp [All]))
    · have hs1 : 1 ≤ s := by
        cases s with
        | zero => exact absurd h.td0 he
        | succ s => omega
      obtain ⟨j, hj, hVs, s', hs', hk, ht', hTj, hoth⟩ := ht.step h hs hs1
      have hVs : FR (td s).toNat = (j : Int) := hVs
      obtain ⟨T'', s'', hrun, h1, h2⟩ := ih s' hs' (by omega) _ ht'
      refine ⟨T'', s'', fun c hc => ?_, h1, h2⟩
      have hb : (td s != a) = true := by simp [he]
      have hqj := hq j hj
      have hbj := hbar (Q j).toNat (by omega)
      have hrs := h.rng s hs
      have hsum := (oth_sum (by rw [← hTj]; exact hT j hj) hoth).1
      have hcon := con_l4Other (g (Q j).toNat) (td s) (by omega) (by omega) (by omega)
      rw [hsum] at hcon
      refine piece_ok mixed hc (qSl g nb N m F0 T Q FR F1 T' a u (td s) (td s')) ?_ (by rw [hVs]; simp only [Int.toNat_natCast]; exact hrun c hc)
      simp only [All]
      repeat' (first | exact trivial | with_reducible apply And.intro)
      all_goals (first | omega | rfl | (intros; first | assumption | exact True.intro | rfl | exact absurd (show false = true by assumption) Bool.false_ne_true | ((repeat' (first | assumption | apply anda | apply notf)); done)) | (exact hb) | (rw [hVs]; simp only [Int.toNat_natCast]; omega) | (rw [hVs]; simp only [Int.toNat_natCast]; exact hcon) | (intro i hi; simp [All]; done) | (simp only [hVs, Int.toNat_natCast]; intro i hi; by_cases h : i = j <;> simp [h, cvtL, cvt, tg, tru, All]))

theorem BInv.congrV {N m : Nat} {g : Nat → T_Bar} {F T Q td V V' : Nat → Int} {a b : Int} {tn : Nat} (h : BInv N m g F T Q td V a b tn) (hv : ∀ s, s < tn → V s = V' s) : BInv N m g F T Q td V' a b tn :=
  ⟨h.n1, h.td0, h.rng, h.inj, fun s h1 h2 => by rw [← hv s h2]; exact h.par s h1 h2⟩

/-- The reference's move, its path known. -/
theorem con_l4Shift {N k nb m : Nat} {g : Nat → T_Bar} {F T Q td FR : Nat → Int} {a b u : Int} {tn : Nat} (hp : PInv N k nb m g F T Q) (hk : k ≤ 1048576) (hN : N ≤ 1048576) (hm : m ≤ 1048576) (hnb : nb ≤ 1048576)
    (h : BInv N m g F T Q td (fun s => FR (td s).toNat) a b (tn + 1)) (htn : td tn = u) (ha : 0 ≤ a ∧ a < N) (hu : 0 ≤ u ∧ u < N) (hua : u ≠ a) :
    ∃ T'' s', Con Try.prog 169 0 [] [grG g nb N, pebD N m F T Q, inD N FR, .p (.int .i64 a), .p (.int .i64 u)] (pebR N m (fun x => if x = a.toNat then (if x = u.toNat then F x - 1 else F x) + 1 else (if x = u.toNat then F x - 1 else F x)) T'' Q) (pebO N m 0) ∧
      TInv m g T Q td (fun s => FR (td s).toNat) T'' u s' ∧ td s' = a := by
  have ht0 : TInv m g T Q td (fun s => FR (td s).toNat) T u tn := ⟨fun _ _ _ => rfl, hp.t, fun x => by rw [htn]; omega⟩
  obtain ⟨T'', s', hrun, h1, h2⟩ := run_shift (nb := nb) (F0 := F) (F1 := fun x => if x = a.toNat then (if x = u.toNat then F x - 1 else F x) + 1 else (if x = u.toNat then F x - 1 else F x)) h hN hm hnb hp.q hp.bars hp.t tn (by omega) T ht0
  refine ⟨T'', s', ?_, h1, h2⟩
  rw [htn] at hrun
  have hFa := hp.le (v := a.toNat) (by omega)
  have hFu := hp.le (v := u.toNat) (by omega)
  have hcc := con_l4Copy N m F T Q hN hm
  refine con_start Try.func169 rfl (by kernel_rfl) rfl (fun c hc => ?_)
  have hrun' := hrun c hc
  refine piece_ok mixed hc (qSz g nb N m F T Q FR a u) ?_ ?_
  ·
    simp only [All]
    repeat' (first | exact trivial | with_reducible apply And.intro)
    all_goals (first | omega | rfl | (intros; first | assumption | exact True.intro | rfl | exact absurd (show false = true by assumption) Bool.false_ne_true | ((repeat' (first | assumption | apply anda | apply notf)); done)) | (exact hcc) | (intro i hi; simp [All]; done) | (intro i hi; by_cases h : i = u.toNat <;> simp [h, cvtL, cvt, tg, tru, All]))
  · have hF1 : (fun s => if s = u.toNat then F s - 1 else F s) a.toNat = F a.toNat := by
      show (if a.toNat = u.toNat then F a.toNat - 1 else F a.toNat) = _
      rw [if_neg (by omega)]
    obtain ⟨F1, hF1d⟩ : ∃ F1 : Nat → Int, F1 = (fun s => if s = u.toNat then F s - 1 else F s) := ⟨_, rfl⟩
    have hFF : (fun x => if x = a.toNat then (if x = u.toNat then F x - 1 else F x) + 1 else (if x = u.toNat then F x - 1 else F x)) = (fun s => if s = a.toNat then F1 s + 1 else F1 s) := by
      subst hF1d; rfl
    rw [hFF] at hrun' ⊢
    rw [← hF1d] at hF1 ⊢
    refine piece_ok mixed hc (qSa g nb N m F T Q FR F1 T a u) ?_ hrun'
    simp only [All]
    repeat' (first | exact trivial | with_reducible apply And.intro)
    all_goals (first | omega | rfl | (intros; first | assumption | exact True.intro | rfl | exact absurd (show false = true by assumption) Bool.false_ne_true | ((repeat' (first | assumption | apply anda | apply notf)); done)) | (rw [hF1]; omega) | (intro i hi; simp [All]; done) | (intro i hi; by_cases h : i = a.toNat <;> simp [h, cvtL, cvt, tg, tru, All]))

/-- What the reference's search comes to. -/
inductive FindR (N k nb m : Nat) (g : Nat → T_Bar) (F T Q : Nat → Int) (a b : Int) : Hp → AV → Prop
  | yes (F' T' : Nat → Int) (h : Moved N k nb m g F T Q a b F' T' true) : FindR N k nb m g F T Q a b (pebR3 N m F T Q F' T' Q) (.tup [pebO N m 3, .p (.bool true)])
  | no (h : Moved N k nb m g F T Q a b F T false) : FindR N k nb m g F T Q a b (pebR N m F T Q) (.tup [pebO N m 0, .p (.bool false)])

def OutS (N k nb m : Nat) (g : Nat → T_Bar) (F T Q : Nat → Int) (a b : Int) (i tn : Nat) (td FR : Nat → Int) (SN : Nat → Bool) : Prop :=
  ∃ H' res, (∀ c, c.n = 3 → Run Try.prog c 157 [.code (cAt (bodyOf Try.f157) [1, 1, 1, 1, 1, 1, 0, 1, 0, 0]), .inLoop (cAt (bodyOf Try.f157) [1, 1, 1, 1, 1, 1, 0, 1, 0, 0]), .inBlock 2, .code (cAt (bodyOf Try.f157) [1, 1, 1, 1, 1, 1, 1])] (SF1 g nb N m F T Q td FR SN a b i tn) (Post c H' res)) ∧ FindR N k nb m g F T Q a b H' res
def MidS (N k nb m : Nat) (g : Nat → T_Bar) (F T Q : Nat → Int) (a b : Int) (i j tn : Nat) (td FR : Nat → Int) (SN : Nat → Bool) : Prop :=
  ∃ H' res, (∀ c, c.n = 3 → Run Try.prog c 157 [.code (cAt (bodyOf Try.f157) [1, 1, 1, 1, 1, 1, 0, 1, 0, 0, 1, 0, 0, 1, 1, 0, 0]), .inLoop (cAt (bodyOf Try.f157) [1, 1, 1, 1, 1, 1, 0, 1, 0, 0, 1, 0, 0, 1, 1, 0, 0]), .inBlock 4, .inBlock 3, .code (cAt (bodyOf Try.f157) [1, 1, 1, 1, 1, 1, 0, 1, 0, 0, 1, 1]), .inLoop (cAt (bodyOf Try.f157) [1, 1, 1, 1, 1, 1, 0, 1, 0, 0]), .inBlock 2, .code (cAt (bodyOf Try.f157) [1, 1, 1, 1, 1, 1, 1])] (SF2 g nb N m F T Q td FR SN a b (td i) i j tn) (Post c H' res)) ∧ FindR N k nb m g F T Q a b H' res

def SeenI (N : Nat) (td : Nat → Int) (SN : Nat → Bool) (tn : Nat) : Prop := ∀ x : Nat, x < N → (SN x = true ↔ ∃ s, s < tn ∧ td s = x)

theorem mid_s {N k nb m : Nat} {g : Nat → T_Bar} {F T Q : Nat → Int} {a b : Int} (hp : PInv N k nb m g F T Q) (hk : k ≤ 1048576) (hN : N ≤ 1048576) (hm : m ≤ 1048576) (hnb : nb ≤ 1048576)
    (ha : 0 ≤ a ∧ a < N) (hb : 0 ≤ b ∧ b < N) (hab : a ≠ b) (i : Nat)
    (ih : ∀ tn td FR SN, i + 1 ≤ tn → BInv N m g F T Q td (fun s => FR (td s).toNat) a b tn → SeenI N td SN tn → BZero F td b tn → BClo m g T Q td (i + 1) 0 tn → OutS N k nb m g F T Q a b (i + 1) tn td FR SN) :
    ∀ e j tn td FR SN, j + e = m → i < tn → BInv N m g F T Q td (fun s => FR (td s).toNat) a b tn → SeenI N td SN tn → BZero F td b tn → BClo m g T Q td i j tn → MidS N k nb m g F T Q a b i j tn td FR SN := by
  intro e
  induction e with
  | zero =>
    intro j tn td FR SN hj hi hbi hsn hz hcl
    have htn := pigeon N tn td hbi.rng hbi.inj
    obtain ⟨H', res, hrun, hmv⟩ := ih tn td FR SN (by omega) hbi hsn hz (fun i' j' hij hi' hT => by
      rcases hij with ⟨h1, h2⟩ | ⟨h1, h2⟩
      · by_cases e : i' = i
        · exact hcl i' j' (.inr ⟨e, by omega⟩) hi' hT
        · exact hcl i' j' (.inl ⟨by omega, h2⟩) hi' hT
      · omega)
    refine ⟨H', res, fun c hc => ?_, hmv⟩
    have hd : decide ((j : Int) < (m : Int)) = false := by simp; omega
    refine piece_ok mixed hc (qF2e g nb N m F T Q td FR SN a b (td i) i j tn) ?_ (hrun c hc)
    simp only [All]
    repeat' (first | exact trivial | with_reducible apply And.intro)
    all_goals (first | omega | rfl | (intros; first | assumption | exact True.intro | rfl | exact absurd (show false = true by assumption) Bool.false_ne_true | ((repeat' (first | assumption | apply anda | apply notf)); done)) | (intro i hi; simp [All]))
  | succ e ihe =>
    intro j tn td FR SN hj hi hbi hsn hz hcl
    have htn := pigeon N tn td hbi.rng hbi.inj
    have hjm : j < m := by omega
    have hd : decide ((j : Int) < (m : Int)) = true := by simp; omega
    have hq := hp.q j hjm
    have hbar := hp.bars (Q j).toNat (by omega)
    have hrg := hbi.rng i hi
    by_cases hT : T j = td i
    · have ht1 : (T j != td i) = false := by simp [hT]
      obtain ⟨v, hv⟩ : ∃ v, othF (g (Q j).toNat) (td i) = v := ⟨_, rfl⟩
      have hvr : 0 ≤ v ∧ v < N := by rw [← hv]; exact othF_in hbar
      have hsum := (oth_sum (by rw [← hT]; exact hp.t j hjm) hv).2
      have hcon := con_l4Other (g (Q j).toNat) (td i) (by omega) (by omega) (by omega)
      rw [hsum] at hcon
      cases hh : SN v.toNat with
      | true =>
        obtain ⟨s, hs1, hs2⟩ := (hsn v.toNat (by omega)).1 hh
        obtain ⟨H', res, hrun, hmv⟩ := ihe (j + 1) tn td FR SN (by omega) hi hbi hsn hz (fun i' j' hij hi' hTT => by
          by_cases e : i' = i ∧ j' = j
          · obtain ⟨rfl, rfl⟩ := e
            exact ⟨s, hs1, by rw [hs2, hv]; omega⟩
          · exact hcl i' j' (by omega) hi' hTT)
        refine ⟨H', res, fun c hc => ?_, hmv⟩
        refine piece_ok mixed hc (qF2b g nb N m F T Q td FR SN a b (td i) v i j tn) ?_ (hrun c hc)
        simp only [All]
        repeat' (first | exact trivial | with_reducible apply And.intro)
        all_goals (first | omega | rfl | (intros; first | assumption | exact True.intro | rfl | exact absurd (show false = true by assumption) Bool.false_ne_true | ((repeat' (first | assumption | apply anda | apply notf)); done)) | (exact ht1) | (exact hcon) | (exact hh) | (intro i hi; simp [All]))
      | false =>
        have hno : ∀ s, s < tn → td s ≠ v := by
          intro s hs e
          have := (hsn v.toNat (by omega)).2 ⟨s, hs, by omega⟩
          rw [hh] at this; cases this
        have hadd0 := hbi.add hi hjm hT hv hvr hno
        have hadd : BInv N m g F T Q (fun s => if s < tn then td s else v) (fun s => (fun x => if x = v.toNat then (j : Int) else FR x) ((fun s => if s < tn then td s else v) s).toNat) a b (tn + 1) := by
          refine hadd0.congrV (fun s hs => ?_)
          show (if s < tn then FR (td s).toNat else (j : Int)) = (if (if s < tn then td s else v).toNat = v.toNat then (j : Int) else FR (if s < tn then td s else v).toNat)
          by_cases e : s < tn
          · have h1 := hno s e
            have h2 := hbi.rng s e
            rw [if_pos e, if_pos e, if_neg (show ¬ (td s).toNat = v.toNat by omega)]
          · rw [if_neg e, if_neg e, if_pos rfl]
        have hF := hp.le (v := v.toNat) (by omega)
        cases hcd : (bif v != b then decide (F v.toNat > 0) else false) with
        | false =>
          have hzv : v = b ∨ F v.toNat = 0 := by
            by_cases e : v = b
            · exact .inl e
            · right
              have : (v != b) = true := by simp [e]
              rw [this] at hcd
              simp at hcd
              omega
          obtain ⟨H', res, hrun, hmv⟩ := ihe (j + 1) (tn + 1) (fun s => if s < tn then td s else v) (fun x => if x = v.toNat then (j : Int) else FR x) (fun s => if s = v.toNat then true else SN s) (by omega) (by omega) hadd (fun x hx => by
            show (if x = v.toNat then true else SN x) = true ↔ ∃ s, s < tn + 1 ∧ (if s < tn then td s else v) = x
            by_cases e : x = v.toNat
            · rw [if_pos e]
              exact ⟨fun _ => ⟨tn, by omega, by rw [if_neg (Nat.lt_irrefl tn)]; omega⟩, fun _ => rfl⟩
            · rw [if_neg e, hsn x hx]
              constructor
              · rintro ⟨s, h1, h2⟩; exact ⟨s, by omega, by rw [if_pos h1]; exact h2⟩
              · rintro ⟨s, h1, h2⟩
                by_cases e2 : s < tn
                · rw [if_pos e2] at h2; exact ⟨s, e2, h2⟩
                · rw [if_neg e2] at h2; omega) (fun s h1 h2 => by
            show (if s < tn then td s else v) = b ∨ F (if s < tn then td s else v).toNat = 0
            by_cases e : s < tn
            · rw [if_pos e]; exact hz s h1 e
            · rw [if_neg e]; exact hzv) (fun i' j' hij hi' hTT => by
            have hi2 : i' < tn := by omega
            have hTT' : T j' = td i' := by rw [hTT]; show (if i' < tn then td i' else v) = _; rw [if_pos hi2]
            show ∃ s, s < tn + 1 ∧ (if s < tn then td s else v) = othF (g (Q j').toNat) (if i' < tn then td i' else v)
            rw [if_pos hi2]
            by_cases e : i' = i ∧ j' = j
            · obtain ⟨rfl, rfl⟩ := e
              exact ⟨tn, by omega, by rw [if_neg (Nat.lt_irrefl tn), hv]⟩
            · obtain ⟨s, h1, h2⟩ := hcl i' j' (by omega) hi2 hTT'
              exact ⟨s, by omega, by rw [if_pos h1]; exact h2⟩)
          refine ⟨H', res, fun c hc => ?_, hmv⟩
          have hrun' := hrun c hc
          simp only [hi, if_true] at hrun'
          refine piece_ok mixed hc (qF2c g nb N m F T Q td FR SN a b (td i) v i j tn) ?_ hrun'
          simp only [All]
          repeat' (first | exact trivial | with_reducible apply And.intro)
          all_goals (first | omega | rfl | (intros; first | assumption | exact True.intro | rfl | exact absurd (show false = true by assumption) Bool.false_ne_true | ((repeat' (first | assumption | apply anda | apply notf)); done)) | (exact ht1) | (exact hcon) | (exact hh) | (exact hcd) | (intros; omega) | (intro i hi; simp [All]; done) | (intro i hi; by_cases h : i < tn <;> simp [h, cvtL, cvt, tg, tru, All]; done) | (intro i hi; by_cases h : i = v.toNat <;> simp [h, cvtL, cvt, tg, tru, All]))
        | true =>
          have hvb : v ≠ b := by
            intro e
            rw [show (v != b) = false by simp [e]] at hcd
            cases hcd
          have hFv : F v.toNat ≠ 0 := by
            intro e
            rw [show (v != b) = true by simp [hvb]] at hcd
            simp [e] at hcd
          have hva : v ≠ a := by
            have := hno 0 (by have := hbi.n1; omega)
            rw [hbi.td0] at this
            exact Ne.symm this
          obtain ⟨T'', s', hcs, h1, h2⟩ := con_l4Shift (td := fun s => if s < tn then td s else v) (FR := fun x => if x = v.toNat then (j : Int) else FR x) (tn := tn) hp hk hN hm hnb hadd (by show (if tn < tn then td tn else v) = v; rw [if_neg (Nat.lt_irrefl tn)]) ha hvr hva
          refine ⟨_, _, fun c hc => ?_, .yes _ T'' (moved_yes hp ha hb hab hvr hva hvb hFv h1 h2)⟩
          refine piece_ok mixed hc (qF2d g nb N m F T Q td FR SN a b (td i) v i j tn) ?_ ?_
          ·
            simp only [All]
            repeat' (first | exact trivial | with_reducible apply And.intro)
            all_goals (first | omega | rfl | (intros; first | assumption | exact True.intro | rfl | exact absurd (show false = true by assumption) Bool.false_ne_true | ((repeat' (first | assumption | apply anda | apply notf)); done)) | (exact ht1) | (exact hcon) | (exact hh) | (exact hcd) | (intros; omega) | (intro i hi; simp [All]; done) | (intro i hi; by_cases h : i = v.toNat <;> simp [h, cvtL, cvt, tg, tru, All]))
          · refine path_ok mixed Try.func157 hc (qF3 g nb N m F T Q (fun s => if s = v.toNat then (j : Int) else FR s) _ T'' a b v) ?_
            simp only [All]
            repeat' (first | exact trivial | with_reducible apply And.intro)
            all_goals (first | omega | rfl | (intros; first | assumption | exact True.intro | rfl | exact absurd (show false = true by assumption) Bool.false_ne_true | ((repeat' (first | assumption | apply anda | apply notf)); done)) | (exact hcs) | (intro i hi; simp [All]))
    · have ht1 : (T j != td i) = true := by simp [hT]
      obtain ⟨H', res, hrun, hmv⟩ := ihe (j + 1) tn td FR SN (by omega) hi hbi hsn hz (fun i' j' hij hi' hTT => by
        by_cases e : i' = i ∧ j' = j
        · obtain ⟨rfl, rfl⟩ := e
          exact absurd hTT hT
        · exact hcl i' j' (by omega) hi' hTT)
      refine ⟨H', res, fun c hc => ?_, hmv⟩
      refine piece_ok mixed hc (qF2a g nb N m F T Q td FR SN a b (td i) i j tn) ?_ (hrun c hc)
      simp only [All]
      repeat' (first | exact trivial | with_reducible apply And.intro)
      all_goals (first | omega | rfl | (intros; first | assumption | exact True.intro | rfl | exact absurd (show false = true by assumption) Bool.false_ne_true | ((repeat' (first | assumption | apply anda | apply notf)); done)) | (exact ht1) | (intro i hi; simp [All]))

theorem out_s {N k nb m : Nat} {g : Nat → T_Bar} {F T Q : Nat → Int} {a b : Int} (hp : PInv N k nb m g F T Q) (hk : k ≤ 1048576) (hN : N ≤ 1048576) (hm : m ≤ 1048576) (hnb : nb ≤ 1048576)
    (ha : 0 ≤ a ∧ a < N) (hb : 0 ≤ b ∧ b < N) (hab : a ≠ b) : ∀ d i tn td FR SN, N + 1 ≤ i + d → i ≤ tn → BInv N m g F T Q td (fun s => FR (td s).toNat) a b tn → SeenI N td SN tn → BZero F td b tn → BClo m g T Q td i 0 tn → OutS N k nb m g F T Q a b i tn td FR SN := by
  intro d
  induction d with
  | zero =>
    intro i tn td FR SN hd hi hbi _ _ _
    have := pigeon N tn td hbi.rng hbi.inj
    omega
  | succ d ih =>
    intro i tn td FR SN hd hi hbi hsn hz hcl
    have htn := pigeon N tn td hbi.rng hbi.inj
    by_cases hit : i < tn
    · have hd' : decide ((i : Int) < (tn : Int)) = true := by simp; omega
      obtain ⟨H', res, hrun, hmv⟩ := mid_s hp hk hN hm hnb ha hb hab i (fun tn td FR SN h1 h2 h3 h4 h5 => ih (i + 1) tn td FR SN (by omega) h1 h2 h3 h4 h5) m 0 tn td FR SN (by omega) hit hbi hsn hz hcl
      refine ⟨H', res, fun c hc => ?_, hmv⟩
      refine piece_ok mixed hc (qF1 g nb N m F T Q td FR SN a b i tn) ?_ (hrun c hc)
      simp only [All]
      repeat' (first | exact trivial | with_reducible apply And.intro)
      all_goals (first | omega | rfl | (intros; first | assumption | exact True.intro | rfl | exact absurd (show false = true by assumption) Bool.false_ne_true | ((repeat' (first | assumption | apply anda | apply notf)); done)) | (intro i hi; simp [All]))
    · have hd' : decide ((i : Int) < (tn : Int)) = false := by simp; omega
      obtain rfl : i = tn := by omega
      refine ⟨_, _, fun c hc => ?_, .no (moved_no hp hbi hz hcl)⟩
      refine path_ok mixed Try.func157 hc (qF1e g nb N m F T Q td FR SN a b i i) ?_
      simp only [All]
      repeat' (first | exact trivial | with_reducible apply And.intro)
      all_goals (first | omega | rfl | (intros; first | assumption | exact True.intro | rfl | exact absurd (show false = true by assumption) Bool.false_ne_true | ((repeat' (first | assumption | apply anda | apply notf)); done)) | (intro i hi; simp [All]))

/-- The reference's search for a pebble. -/
theorem con_l4Find {N k nb m : Nat} {g : Nat → T_Bar} {F T Q : Nat → Int} {a b : Int} (hp : PInv N k nb m g F T Q) (hk : k ≤ 1048576) (hN : N ≤ 1048576) (hm : m ≤ 1048576) (hnb : nb ≤ 1048576)
    (ha : 0 ≤ a ∧ a < N) (hb : 0 ≤ b ∧ b < N) (hab : a ≠ b) : ∃ H' res, Con Try.prog 157 3 (pebR N m F T Q) [grG g nb N, pebO N m 0, .p (.int .i64 a), .p (.int .i64 b)] H' res ∧ FindR N k nb m g F T Q a b H' res := by
  obtain ⟨H', res, hrun, hmv⟩ := out_s hp hk hN hm hnb ha hb hab (N + 1) 0 1 (fun _ => a) (fun _ => -1) (fun s => if s = a.toNat then true else false) (by omega) (by omega)
    ⟨by omega, rfl, fun s hs => ha, fun s s' h1 h2 => by omega, fun s h1 h2 => by omega⟩ (fun x hx => by
      show (if x = a.toNat then true else false) = true ↔ ∃ s, s < 1 ∧ a = x
      by_cases e : x = a.toNat
      · rw [if_pos e]; exact ⟨fun _ => ⟨0, by omega, by omega⟩, fun _ => rfl⟩
      · rw [if_neg e]; exact ⟨(fun h => by cases h), (fun ⟨s, h1, h2⟩ => by omega)⟩) (fun s h1 h2 => by omega) (fun i' j' h => by omega)
  refine ⟨H', res, ?_, hmv⟩
  refine con_start Try.func157 rfl (by kernel_rfl) rfl (fun c hc => ?_)
  have lp0 : ∀ d i, i + d = N → Run Try.prog c 157 [.code (cAt (bodyOf Try.f157) [1, 1, 0, 1, 0, 0]), .inLoop (cAt (bodyOf Try.f157) [1, 1, 0, 1, 0, 0]), .inBlock 0, .code (cAt (bodyOf Try.f157) [1, 1, 1])] (SF0 g nb N m F T Q a b i) (Post c H' res) := by
    intro d
    induction d with
    | zero =>
      intro i hi
      obtain rfl : i = N := by omega
      have hd : decide ((i : Int) < (i : Int)) = false := by simp
      refine piece_ok mixed hc (qF01 g nb i m F T Q a b i) ?_ (hrun c hc)
      simp only [All]
      repeat' (first | exact trivial | with_reducible apply And.intro)
      all_goals (first | omega | rfl | (intros; first | assumption | exact True.intro | rfl | exact absurd (show false = true by assumption) Bool.false_ne_true | ((repeat' (first | assumption | apply anda | apply notf)); done)) | (intro j hj; simp [All]; done) | (intro j hj; simp [hj, All]; done) | (intro j hj; by_cases h : j = a.toNat <;> simp [h, cvtL, cvt, tg, tru, All]))
    | succ d ih =>
      intro i hi
      have hd : decide ((i : Int) < (N : Int)) = true := by simp; omega
      refine piece_ok mixed hc (qF0 g nb N m F T Q a b i) ?_ (ih (i + 1) (by omega))
      simp only [All]
      repeat' (first | exact trivial | with_reducible apply And.intro)
      all_goals (first | omega | rfl | (intros; first | assumption | exact True.intro | rfl | exact absurd (show false = true by assumption) Bool.false_ne_true | ((repeat' (first | assumption | apply anda | apply notf)); done)) | (intro j hj; simp [All]; done) | (intro j hj; by_cases h : j = i <;> simp [h, Nat.lt_succ_iff_lt_or_eq, cvtL, cvt, tg, tru, All]))
  refine piece_ok mixed hc (qFz g nb N m F T Q a b) ?_ (lp0 N 0 (by omega))
  simp only [All]
  repeat' (first | exact trivial | with_reducible apply And.intro)
  all_goals (first | omega | rfl | (intros; first | assumption | exact True.intro | rfl | exact absurd (show false = true by assumption) Bool.false_ne_true | ((repeat' (first | assumption | apply anda | apply notf)); done)) | (intro i hi; simp [All]))

end Go.Proofs.Ytgdbnnmogddkaaa.Mach
