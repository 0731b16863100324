/- Whether some bars of a gain graph are balanced: the contract of the reference. Conditions: as each theorem says. -/
import Derived.Test.YtgddbgmnehkblabBalC
namespace Go.Proofs.Ytgddbgmnehkblab.Mach
open Go BL
set_option linter.unusedVariables false
set_option linter.unusedSimpArgs false

theorem con_IsBalanced_s (v : T_GainGraph) (hs : smS s_GainGraph v) (u : T_IntS) (hn : u.1 ≤ 1048576) :
    Con Try.prog 10 0 [] [gnA v.2.1.2 v.2.1.1 v.1, inS u.1 u.2] [] (.p (.bool (isBalF v u))) := by
  have hset := con_l29Set v hs u hn
  cases hgs : goodS v.2.1.1 u.2 u.1 with
  | false =>
    rw [hgs] at hset
    rw [show isBalF v u = false by rw [isBalF, hgs]; rfl]
    refine con_start Try.func10 rfl (by kernel_rfl) rfl (fun c hc => ?_)
    refine path_ok mixed Try.func10 hc (bSz v.2.1.2 v.2.1.1 v.1 u.1 u.2) ?_
    simp only [All]
    repeat' (first | exact trivial | with_reducible apply And.intro)
    all_goals (first | omega | rfl | (intros; first | assumption | exact True.intro | rfl | exact absurd (show false = true by assumption) Bool.false_ne_true | ((repeat' (first | assumption | apply anda | apply notf)); done)) | (exact hset) | rfl)
  | true =>
    cases hgg : isGainF v with
    | false =>
      rw [hgs, hgg] at hset
      rw [show isBalF v u = false by rw [isBalF, hgs, hgg]; rfl]
      refine con_start Try.func10 rfl (by kernel_rfl) rfl (fun c hc => ?_)
      refine path_ok mixed Try.func10 hc (bSz v.2.1.2 v.2.1.1 v.1 u.1 u.2) ?_
      simp only [All]
      repeat' (first | exact trivial | with_reducible apply And.intro)
      all_goals (first | omega | rfl | (intros; first | assumption | exact True.intro | rfl | exact absurd (show false = true by assumption) Bool.false_ne_true | ((repeat' (first | assumption | apply anda | apply notf)); done)) | (exact hset) | rfl)
    | true =>
      rw [hgs, hgg] at hset
      obtain ⟨N, nb, g, rfl, hN1, hN4, hnb, hg⟩ := gain_in hgg
      obtain ⟨n, s⟩ := u
      rw [show isBalF ((N : Int), (nb, g), ()) (n, s) = balP g N n s by rw [isBalF]; simp only at hgs ⊢; rw [hgs, hgg]; rfl]
      simp only at hset hgs ⊢
      have hnn := goodS_n hgs
      have hok := esO_ok hg hgs
      have hin : ∀ i, i < n → (0 ≤ s i ∧ s i < nb) ∧ barOk N (g (s i).toNat) := fun i hi => by
        have h1 := goodS_in hgs i hi
        exact ⟨⟨h1.1, h1.2.1⟩, hg _ (by omega)⟩
      unfold barOk at hin
      generalize hB : balP g N n s = B
      refine con_start Try.func10 rfl (by kernel_rfl) rfl (fun c hc => ?_)
      have l3 : ∀ K X Y, (∀ v, -1152 ≤ X v ∧ X v ≤ 1152) → (∀ v, -1152 ≤ Y v ∧ Y v ≤ 1152) → (esO g N n s).Good K X Y → (∀ v, v < N → K v = true) →
          ∀ d i, i + d = n → (∀ j, j < i → X ((esO g N n s).a j) + (esO g N n s).x j = X ((esO g N n s).b j) ∧ Y ((esO g N n s).a j) + (esO g N n s).y j = Y ((esO g N n s).b j)) →
          Run Try.prog c 10 [.code (cAt (bodyOf Try.f10) [1, 1, 1, 1, 1, 1, 0, 1, 0, 0]), .inLoop (cAt (bodyOf Try.f10) [1, 1, 1, 1, 1, 1, 0, 1, 0, 0]), .inBlock 6, .code (cAt (bodyOf Try.f10) [1, 1, 1, 1, 1, 1, 1])] (SB3 g nb N n s K X Y i) (Post c [] (.p (.bool B))) := by
        intro K X Y hX hY hgd hK d
        induction d with
        | zero =>
          intro i hi hp
          have hd : decide ((i : Int) < (n : Int)) = false := by simp; omega
          have hall : ∀ j, j < n → j < i := fun j hj => by omega
          rw [← hB, balP_t ⟨X, Y, fun j hj => hp j (hall j hj)⟩]
          refine path_ok mixed Try.func10 hc (bS3e g nb N n s K X Y i) ?_
          simp only [All]
          repeat' (first | exact trivial | with_reducible apply And.intro)
          all_goals (first | omega | rfl | (intros; first | assumption | exact True.intro | rfl | exact absurd (show false = true by assumption) Bool.false_ne_true | ((repeat' (first | assumption | apply anda | apply notf)); done)) | (exact hd) | rfl)
        | succ d ih =>
          intro i hi hp
          have hin' : i < n := by omega
          have hd : decide ((i : Int) < (n : Int)) = true := by simp; omega
          have hb := hin i hin'
          have xa := hX (g (s i).toNat).1.toNat
          have xb := hX (g (s i).toNat).2.1.toNat
          have ya := hY (g (s i).toNat).1.toNat
          have yb := hY (g (s i).toNat).2.1.toNat
          by_cases hz : X (g (s i).toNat).1.toNat + (g (s i).toNat).2.2.1 = X (g (s i).toNat).2.1.toNat ∧ Y (g (s i).toNat).1.toNat + (g (s i).toNat).2.2.2.1 = Y (g (s i).toNat).2.1.toNat
          · have hz' : (bif X (g (s i).toNat).1.toNat + (g (s i).toNat).2.2.1 != X (g (s i).toNat).2.1.toNat then true else Y (g (s i).toNat).1.toNat + (g (s i).toNat).2.2.2.1 != Y (g (s i).toNat).2.1.toNat) = false := by
              rw [hz.1, hz.2]; simp
            refine piece_ok mixed hc (bS3 g nb N n s K X Y i) ?_ (ih (i + 1) (by omega) (fun j hj => ?_))
            ·
              simp only [All]
              repeat' (first | exact trivial | with_reducible apply And.intro)
              all_goals (first | omega | rfl | (intros; first | assumption | exact True.intro | rfl | exact absurd (show false = true by assumption) Bool.false_ne_true | ((repeat' (first | assumption | apply anda | apply notf)); done)) | (exact hd) | (exact hz') | (intro h; exact h) | (intro h; rw [h]; rfl) | (intro h; omega) | (intro j hj; simp [All]))
            · by_cases hji : j = i
              · rw [hji]; exact hz
              · exact hp j (by omega)
          · have hz' : (bif X (g (s i).toNat).1.toNat + (g (s i).toNat).2.2.1 != X (g (s i).toNat).2.1.toNat then true else Y (g (s i).toNat).1.toNat + (g (s i).toNat).2.2.2.1 != Y (g (s i).toNat).2.1.toNat) = true := by
              cases h1 : (X (g (s i).toNat).1.toNat + (g (s i).toNat).2.2.1 != X (g (s i).toNat).2.1.toNat) with
              | true => rfl
              | false =>
                cases h2 : (Y (g (s i).toNat).1.toNat + (g (s i).toNat).2.2.2.1 != Y (g (s i).toNat).2.1.toNat) with
                | true => rfl
                | false => exact absurd ⟨by simpa using h1, by simpa using h2⟩ hz
            rw [← hB, balP_f (fun ⟨p, q, hpq⟩ => by
              have h1 := hpq i hin'
              have h2 := hgd p q hpq i hin' (hK _ (hok.ha i hin')) (hK _ (hok.hb i hin'))
              simp only [esO, gb] at h1 h2
              omega)]
            refine path_ok mixed Try.func10 hc (bS3t g nb N n s K X Y i) ?_
            simp only [All]
            repeat' (first | exact trivial | with_reducible apply And.intro)
            all_goals (first | omega | rfl | (intros; first | assumption | exact True.intro | rfl | exact absurd (show false = true by assumption) Bool.false_ne_true | ((repeat' (first | assumption | apply anda | apply notf)); done)) | (exact hd) | (exact hz') | (intro h; exact h) | (intro h; rw [h]; rfl) | (intro h; omega) | (intro j hj; simp [All]))
      have l0 : ∀ d a K X Y, a + d = N → (esO g N n s).Closed K → (esO g N n s).Good K X Y → (∀ v, v < a → K v = true) → (∀ v, -(9 * (32 * (a : Int))) ≤ X v ∧ X v ≤ 9 * (32 * (a : Int))) → (∀ v, -(9 * (32 * (a : Int))) ≤ Y v ∧ Y v ≤ 9 * (32 * (a : Int))) →
          Run Try.prog c 10 [.code (cAt (bodyOf Try.f10) [1, 1, 1, 1, 1, 0, 1, 0, 0]), .inLoop (cAt (bodyOf Try.f10) [1, 1, 1, 1, 1, 0, 1, 0, 0]), .inBlock 0, .code (cAt (bodyOf Try.f10) [1, 1, 1, 1, 1, 1])] (SB0 g nb N n s K X Y a) (Post c [] (.p (.bool B))) := by
        intro d
        induction d with
        | zero =>
          intro a K X Y ha hcl hgd hK hX hY
          obtain rfl : a = N := by omega
          have hd : decide ((a : Int) < (a : Int)) = false := by simp
          refine piece_ok mixed hc (bS0e g nb a n s K X Y a) ?_ (l3 K X Y (fun v => by have := hX v; omega) (fun v => by have := hY v; omega) hgd hK n 0 (by omega) (fun j hj => absurd hj (Nat.not_lt_zero _)))
          simp only [All]
          repeat' (first | exact trivial | with_reducible apply And.intro)
          all_goals (first | omega | rfl | (intros; first | assumption | exact True.intro | rfl | exact absurd (show false = true by assumption) Bool.false_ne_true | ((repeat' (first | assumption | apply anda | apply notf)); done)) | (exact hd) | (simp; done) | (intro j hj; simp [All]))
        | succ d ih =>
          intro a K0 X0 Y0 ha hcl hgd hK hX hY
          have haN : a < N := by omega
          have hd : decide ((a : Int) < (N : Int)) = true := by simp; omega
          cases hka : K0 a with
          | true =>
            refine piece_ok mixed hc (bSk g nb N n s K0 X0 Y0 a) ?_ (ih (a + 1) K0 X0 Y0 (by omega) hcl hgd (fun v hv => ?_) (fun v => by have := hX v; omega) (fun v => by have := hY v; omega))
            ·
              simp only [All]
              repeat' (first | exact trivial | with_reducible apply And.intro)
              all_goals (first | omega | rfl | (intros; first | assumption | exact True.intro | rfl | exact absurd (show false = true by assumption) Bool.false_ne_true | ((repeat' (first | assumption | apply anda | apply notf)); done)) | (exact hd) | (exact hka) | (simp; done) | (intro j hj; simp [All]))
            · by_cases hva : v = a
              · rw [hva]; exact hka
              · exact hK v (by omega)
          | false =>
            have l1 : ∀ d m K X Y, m + d = N → (esO g N n s).Ph K0 a K X Y → (esO g N n s).Sw K m 0 → (∀ v, -(9 * (32 * (a : Int) + 8 * m)) ≤ X v ∧ X v ≤ 9 * (32 * (a : Int) + 8 * m)) → (∀ v, -(9 * (32 * (a : Int) + 8 * m)) ≤ Y v ∧ Y v ≤ 9 * (32 * (a : Int) + 8 * m)) →
                Run Try.prog c 10 [.code (cAt (bodyOf Try.f10) [1, 1, 1, 1, 1, 0, 1, 0, 0, 1, 0, 0, 1, 1, 1, 0, 0]), .inLoop (cAt (bodyOf Try.f10) [1, 1, 1, 1, 1, 0, 1, 0, 0, 1, 0, 0, 1, 1, 1, 0, 0]), .inBlock 2, .inBlock 1, .code (cAt (bodyOf Try.f10) [1, 1, 1, 1, 1, 0, 1, 0, 0, 1, 1]), .inLoop (cAt (bodyOf Try.f10) [1, 1, 1, 1, 1, 0, 1, 0, 0]), .inBlock 0, .code (cAt (bodyOf Try.f10) [1, 1, 1, 1, 1, 1])] (SB1 g nb N n s K X Y a m) (Post c [] (.p (.bool B))) := by
              intro d1
              induction d1 with
              | zero =>
                intro m K X Y hm hph hsw hX hY
                obtain rfl : m = N := by omega
                have hd1 : decide ((m : Int) < (m : Int)) = false := by simp
                refine piece_ok mixed hc (bS1e g nb m n s K X Y a m) ?_ (ih (a + 1) K X Y (by omega) hsw.fin hph.done (fun v hv => ?_) (fun v => by have := hX v; omega) (fun v => by have := hY v; omega))
                ·
                  simp only [All]
                  repeat' (first | exact trivial | with_reducible apply And.intro)
                  all_goals (first | omega | rfl | (intros; first | assumption | exact True.intro | rfl | exact absurd (show false = true by assumption) Bool.false_ne_true | ((repeat' (first | assumption | apply anda | apply notf)); done)) | (exact hd1) | (simp; done) | (intro j hj; simp [All]))
                · by_cases hva : v = a
                  · rw [hva]; exact hph.kr
                  · exact hph.le v (hK v (by omega))
              | succ d1 ih1 =>
                intro m K X Y hm hph hsw hX hY
                have hd1 : decide ((m : Int) < (N : Int)) = true := by simp; omega
                have l2 : ∀ d i K X Y, i + d = n → (esO g N n s).Ph K0 a K X Y → (esO g N n s).Sw K m i → (∀ v, -(9 * (32 * (a : Int) + 8 * m + i)) ≤ X v ∧ X v ≤ 9 * (32 * (a : Int) + 8 * m + i)) → (∀ v, -(9 * (32 * (a : Int) + 8 * m + i)) ≤ Y v ∧ Y v ≤ 9 * (32 * (a : Int) + 8 * m + i)) →
                    Run Try.prog c 10 [.code (cAt (bodyOf Try.f10) [1, 1, 1, 1, 1, 0, 1, 0, 0, 1, 0, 0, 1, 1, 1, 0, 0, 1, 0, 0, 1, 0, 0]), .inLoop (cAt (bodyOf Try.f10) [1, 1, 1, 1, 1, 0, 1, 0, 0, 1, 0, 0, 1, 1, 1, 0, 0, 1, 0, 0, 1, 0, 0]), .inBlock 4, .inBlock 3, .code (cAt (bodyOf Try.f10) [1, 1, 1, 1, 1, 0, 1, 0, 0, 1, 0, 0, 1, 1, 1, 0, 0, 1, 1]), .inLoop (cAt (bodyOf Try.f10) [1, 1, 1, 1, 1, 0, 1, 0, 0, 1, 0, 0, 1, 1, 1, 0, 0]), .inBlock 2, .inBlock 1, .code (cAt (bodyOf Try.f10) [1, 1, 1, 1, 1, 0, 1, 0, 0, 1, 1]), .inLoop (cAt (bodyOf Try.f10) [1, 1, 1, 1, 1, 0, 1, 0, 0]), .inBlock 0, .code (cAt (bodyOf Try.f10) [1, 1, 1, 1, 1, 1])] (SB2 g nb N n s K X Y a m i) (Post c [] (.p (.bool B))) := by
                  intro d2
                  induction d2 with
                  | zero =>
                    intro i K X Y hi hph hsw hX hY
                    have hd2 : decide ((i : Int) < (n : Int)) = false := by simp; omega
                    have hsw' : (esO g N n s).Sw K m (esO g N n s).n := by
                      rw [show i = (esO g N n s).n from by show i = n; omega] at hsw; exact hsw
                    refine piece_ok mixed hc (bS2e g nb N n s K X Y a m i) ?_ (ih1 (m + 1) K X Y (by omega) hph hsw'.next (fun v => by have := hX v; omega) (fun v => by have := hY v; omega))
                    simp only [All]
                    repeat' (first | exact trivial | with_reducible apply And.intro)
                    all_goals (first | omega | rfl | (intros; first | assumption | exact True.intro | rfl | exact absurd (show false = true by assumption) Bool.false_ne_true | ((repeat' (first | assumption | apply anda | apply notf)); done)) | (exact hd2) | (simp; done) | (intro j hj; simp [All]))
                  | succ d2 ih2 =>
                    intro i K X Y hi hph hsw hX hY
                    have hin' : i < n := by omega
                    have hd2 : decide ((i : Int) < (n : Int)) = true := by simp; omega
                    have hb := hin i hin'
                    have xa := hX (g (s i).toNat).1.toNat
                    have xb := hX (g (s i).toNat).2.1.toNat
                    have ya := hY (g (s i).toNat).1.toNat
                    have yb := hY (g (s i).toNat).2.1.toNat
                    have hcli := hcl i hin'
                    cases hA : K (g (s i).toNat).1.toNat with
                    | true =>
                      cases hBb : K (g (s i).toNat).2.1.toNat with
                      | true =>
                        have t1 : (bif K (g (s i).toNat).1.toNat then !K (g (s i).toNat).2.1.toNat else false) = false := by rw [hA, hBb]; rfl
                        have t2 : (bif K (g (s i).toNat).2.1.toNat then !K (g (s i).toNat).1.toNat else false) = false := by rw [hA, hBb]; rfl
                        refine piece_ok mixed hc (bS2c g nb N n s K X Y a m i) ?_ (ih2 (i + 1) K X Y (by omega) hph (hsw.skip (by show K (g (s i).toNat).1.toNat = K (g (s i).toNat).2.1.toNat; rw [hA, hBb])) (fun v => by have := hX v; omega) (fun v => by have := hY v; omega))
                        simp only [All]
                        repeat' (first | exact trivial | with_reducible apply And.intro)
                        all_goals (first | omega | rfl | (intros; first | assumption | exact True.intro | rfl | exact absurd (show false = true by assumption) Bool.false_ne_true | ((repeat' (first | assumption | apply anda | apply notf)); done)) | (exact hd2) | (exact t1) | (exact t2) | (intro h; exact h) | (intro h; omega) | (simp; done) | (intro j hj; simp [All]))
                      | false =>
                        have t1 : (bif K (g (s i).toNat).1.toNat then !K (g (s i).toNat).2.1.toNat else false) = true := by rw [hA, hBb]; rfl
                        refine piece_ok mixed hc (bS2a g nb N n s K X Y a m i) ?_ (ih2 (i + 1) _ _ _ (by omega) (hph.add hA hBb hcli (fun p q hpq => hpq i hin')) (hsw.add (hok.hb i hin') hBb (by show ¬ K (g (s i).toNat).1.toNat = K (g (s i).toNat).2.1.toNat; rw [hA, hBb]; exact Bool.noConfusion) hin') (up_le _ _ _ _ (fun v => by have := hX v; omega) (by show _ ≤ X (g (s i).toNat).1.toNat + (g (s i).toNat).2.2.1 ∧ X (g (s i).toNat).1.toNat + (g (s i).toNat).2.2.1 ≤ _; omega)) (up_le _ _ _ _ (fun v => by have := hY v; omega) (by show _ ≤ Y (g (s i).toNat).1.toNat + (g (s i).toNat).2.2.2.1 ∧ Y (g (s i).toNat).1.toNat + (g (s i).toNat).2.2.2.1 ≤ _; omega)))
                        simp only [All]
                        repeat' (first | exact trivial | with_reducible apply And.intro)
                        all_goals (first | omega | rfl | (intros; first | assumption | exact True.intro | rfl | exact absurd (show false = true by assumption) Bool.false_ne_true | ((repeat' (first | assumption | apply anda | apply notf)); done)) | (exact hd2) | (exact t1) | (intro h; exact h) | (intro h; omega) | (simp; done) | (intro j hj; simp [All]; done) | (intro j hj; by_cases h' : j = (g (s i).toNat).2.1.toNat <;> simp [h', up, gb, cvtL, cvt, tg, tru, All]))
                    | false =>
                      cases hBb : K (g (s i).toNat).2.1.toNat with
                      | false =>
                        have t1 : (bif K (g (s i).toNat).1.toNat then !K (g (s i).toNat).2.1.toNat else false) = false := by rw [hA, hBb]; rfl
                        have t2 : (bif K (g (s i).toNat).2.1.toNat then !K (g (s i).toNat).1.toNat else false) = false := by rw [hA, hBb]; rfl
                        refine piece_ok mixed hc (bS2c g nb N n s K X Y a m i) ?_ (ih2 (i + 1) K X Y (by omega) hph (hsw.skip (by show K (g (s i).toNat).1.toNat = K (g (s i).toNat).2.1.toNat; rw [hA, hBb])) (fun v => by have := hX v; omega) (fun v => by have := hY v; omega))
                        simp only [All]
                        repeat' (first | exact trivial | with_reducible apply And.intro)
                        all_goals (first | omega | rfl | (intros; first | assumption | exact True.intro | rfl | exact absurd (show false = true by assumption) Bool.false_ne_true | ((repeat' (first | assumption | apply anda | apply notf)); done)) | (exact hd2) | (exact t1) | (exact t2) | (intro h; exact h) | (intro h; omega) | (simp; done) | (intro j hj; simp [All]))
                      | true =>
                        have t1 : (bif K (g (s i).toNat).1.toNat then !K (g (s i).toNat).2.1.toNat else false) = false := by rw [hA, hBb]; rfl
                        have t2 : (bif K (g (s i).toNat).2.1.toNat then !K (g (s i).toNat).1.toNat else false) = true := by rw [hA, hBb]; rfl
                        have hadd := hph.add (dx := -(g (s i).toNat).2.2.1) (dy := -(g (s i).toNat).2.2.2.1) hBb hA hcli.symm (fun p q hpq => by
                          have h1 := hpq i hin'
                          simp only [esO, gb] at h1
                          omega)
                        rw [show X (g (s i).toNat).2.1.toNat + -(g (s i).toNat).2.2.1 = X (g (s i).toNat).2.1.toNat - (g (s i).toNat).2.2.1 by omega, show Y (g (s i).toNat).2.1.toNat + -(g (s i).toNat).2.2.2.1 = Y (g (s i).toNat).2.1.toNat - (g (s i).toNat).2.2.2.1 by omega] at hadd
                        refine piece_ok mixed hc (bS2b g nb N n s K X Y a m i) ?_ (ih2 (i + 1) _ _ _ (by omega) hadd (hsw.add (hok.ha i hin') hA (by show ¬ K (g (s i).toNat).1.toNat = K (g (s i).toNat).2.1.toNat; rw [hA, hBb]; exact Bool.noConfusion) hin') (up_le _ _ _ _ (fun v => by have := hX v; omega) (by show _ ≤ X (g (s i).toNat).2.1.toNat - (g (s i).toNat).2.2.1 ∧ X (g (s i).toNat).2.1.toNat - (g (s i).toNat).2.2.1 ≤ _; omega)) (up_le _ _ _ _ (fun v => by have := hY v; omega) (by show _ ≤ Y (g (s i).toNat).2.1.toNat - (g (s i).toNat).2.2.2.1 ∧ Y (g (s i).toNat).2.1.toNat - (g (s i).toNat).2.2.2.1 ≤ _; omega)))
                        simp only [All]
                        repeat' (first | exact trivial | with_reducible apply And.intro)
                        all_goals (first | omega | rfl | (intros; first | assumption | exact True.intro | rfl | exact absurd (show false = true by assumption) Bool.false_ne_true | ((repeat' (first | assumption | apply anda | apply notf)); done)) | (exact hd2) | (exact t1) | (exact t2) | (intro h; exact h) | (intro h; omega) | (simp; done) | (intro j hj; simp [All]; done) | (intro j hj; by_cases h' : j = (g (s i).toNat).1.toNat <;> simp [h', up, gb, cvtL, cvt, tg, tru, All]))
                refine piece_ok mixed hc (bS1 g nb N n s K X Y a m) ?_ (l2 n 0 K X Y (by omega) hph hsw (fun v => by have := hX v; omega) (fun v => by have := hY v; omega))
                simp only [All]
                repeat' (first | exact trivial | with_reducible apply And.intro)
                all_goals (first | omega | rfl | (intros; first | assumption | exact True.intro | rfl | exact absurd (show false = true by assumption) Bool.false_ne_true | ((repeat' (first | assumption | apply anda | apply notf)); done)) | (exact hd1) | (simp; done) | (intro j hj; simp [All]))
            refine piece_ok mixed hc (bSn g nb N n s K0 X0 Y0 a) ?_ (l1 N 0 (up K0 a true) X0 Y0 (by omega) ⟨hcl, hgd, fun v hv => ?_, up_same _ _ _, fun p q hpq v hv hv0 => ?_⟩ (.inr (.inr ⟨?_, fun j hj => absurd hj (Nat.not_lt_zero _)⟩)) (fun v => by have := hX v; omega) (fun v => by have := hY v; omega))
            ·
              simp only [All]
              repeat' (first | exact trivial | with_reducible apply And.intro)
              all_goals (first | omega | rfl | (intros; first | assumption | exact True.intro | rfl | exact absurd (show false = true by assumption) Bool.false_ne_true | ((repeat' (first | assumption | apply anda | apply notf)); done)) | (exact hd) | (exact hka) | (simp; done) | (intro j hj; simp [All]; done) | (intro j hj; by_cases h' : j = a <;> simp [h', up, cvtL, cvt, tg, tru, All]))
            · by_cases hva : v = a
              · rw [hva]; exact up_same _ _ _
              · rw [up_ne _ _ _ _ hva]; exact hv
            · by_cases hva : v = a
              · rw [hva]; exact ⟨rfl, rfl⟩
              · rw [up_ne _ _ _ _ hva, hv0] at hv; cases hv
            · exact cnt_pos _ a (up_same _ _ _) N haN
      refine piece_ok mixed hc (bSa g nb N n s) ?_ (l0 N 0 _ _ _ (by omega) (fun i hi => rfl) (fun p q hpq i hi h1 => by cases h1) (fun v hv => absurd hv (Nat.not_lt_zero _)) (fun v => by simp) (fun v => by simp))
      simp only [All]
      repeat' (first | exact trivial | with_reducible apply And.intro)
      all_goals (first | omega | rfl | (intros; first | assumption | exact True.intro | rfl | exact absurd (show false = true by assumption) Bool.false_ne_true | ((repeat' (first | assumption | apply anda | apply notf)); done)) | (exact hset) | (simp; done) | (intro j hj; simp [All]))

end Go.Proofs.Ytgddbgmnehkblab.Mach
