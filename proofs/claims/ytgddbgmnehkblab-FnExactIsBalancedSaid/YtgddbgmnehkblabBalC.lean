/- Whether some bars of a gain graph are balanced: the contracts of both programs. Conditions: as each theorem says. -/
import Derived.Test.YtgddbgmnehkblabBalB
namespace Go.Proofs.Ytgddbgmnehkblab.Mach
open Go BL
set_option linter.unusedVariables false
set_option linter.unusedSimpArgs false

def barOk (N : Nat) (b : T_GainBar) : Prop := 0 ≤ b.1 ∧ b.1 ≤ b.2.1 ∧ b.2.1 < N ∧ -9 ≤ b.2.2.1 ∧ b.2.2.1 ≤ 9 ∧ -9 ≤ b.2.2.2.1 ∧ b.2.2.2.1 ≤ 9
theorem badG_ok {N : Int} {b : T_GainBar} (h : badG N b = false) : 0 ≤ b.1 ∧ b.1 ≤ b.2.1 ∧ b.2.1 < N ∧ -9 ≤ b.2.2.1 ∧ b.2.2.1 ≤ 9 ∧ -9 ≤ b.2.2.2.1 ∧ b.2.2.2.1 ≤ 9 := by
  unfold badG at h
  cases h1 : decide (b.1 < 0) <;> cases h2 : decide (b.1 > b.2.1) <;> cases h3 : decide (b.2.1 ≥ N) <;> cases h4 : inB b.2.2.1 (-9) 9 <;> cases h5 : inB b.2.2.2.1 (-9) 9 <;> simp [h1, h2, h3, h4, h5] at h
  simp only [inB, Bool.and_eq_true, decide_eq_true_eq, decide_eq_false_iff_not] at h1 h2 h3 h4 h5
  omega
theorem goodG_all {v : T_GainGraph} : ∀ {n : Nat}, goodG v n = true → ∀ k, k < n → badG v.1 (v.2.1.2 k) = false
  | 0, _ => fun k hk => absurd hk (Nat.not_lt_zero _)
  | n + 1, h => by
    simp only [goodG, Bool.and_eq_true, Bool.not_eq_true'] at h
    intro k hk
    by_cases e' : k = n
    · rw [e']; exact h.2
    · exact goodG_all h.1 k (by omega)
theorem gain_in {v : T_GainGraph} (h : isGainF v = true) : ∃ N nb : Nat, ∃ g, v = ((N : Int), (nb, g), ()) ∧ 1 ≤ N ∧ N ≤ 4 ∧ nb ≤ 8 ∧ ∀ i, i < nb → barOk N (g i) := by
  obtain ⟨n, ⟨nb, g⟩, u⟩ := v
  simp only [isGainF, inB, Bool.and_eq_true, decide_eq_true_eq] at h
  refine ⟨n.toNat, nb, g, ?_, by omega, by omega, h.2.2, fun i hi => ?_⟩
  · rw [show ((n.toNat : Nat) : Int) = n by omega]
  · have h2 := badG_ok (goodG_all h.1 i hi)
    simp only at h2
    unfold barOk
    omega
theorem goodS_n {nb : Nat} {s : Nat → Int} {n : Nat} (h : goodS nb s n = true) : n ≤ nb := by
  cases n with
  | zero => omega
  | succ n => have := goodS_in h n (by omega); omega
theorem esO_ok {N nb n : Nat} {g : Nat → T_GainBar} {s : Nat → Int} (hg : ∀ i, i < nb → barOk N (g i)) (hs : goodS nb s n = true) : (esO g N n s).Ok := by
  constructor
  · intro i hi
    have h1 := goodS_in hs i hi
    have h2 := hg (s i).toNat (by omega)
    unfold barOk at h2
    show (g (s i).toNat).1.toNat < N
    omega
  · intro i hi
    have h1 := goodS_in hs i hi
    have h2 := hg (s i).toNat (by omega)
    unfold barOk at h2
    show (g (s i).toNat).2.1.toNat < N
    omega

theorem balP_t {g : Nat → T_GainBar} {N n : Nat} {s : Nat → Int} (h : (esO g N n s).Bal) : balP g N n s = true := by
  classical
  unfold balP; exact decide_eq_true h
theorem balP_f {g : Nat → T_GainBar} {N n : Nat} {s : Nat → Int} (h : ¬ (esO g N n s).Bal) : balP g N n s = false := by
  classical
  unfold balP; exact decide_eq_false h

theorem con_balanced {N nb n : Nat} {g : Nat → T_GainBar} {s : Nat → Int} (hN : 1 ≤ N ∧ N ≤ 4) (hnb : nb ≤ 8) (hg : ∀ i, i < nb → barOk N (g i)) (hs : goodS nb s n = true) :
    Con Try.prog 46 0 [] [gnA g nb N, inS n s] [] (.p (.bool (balP g N n s))) := by
  have hn := goodS_n hs
  have hok := esO_ok hg hs
  refine con_start Try.func46 rfl (by kernel_rfl) rfl (fun c hc => ?_)
  have l1 : ∀ d k R X Y, k + d = n → (esO g N n s).Uf k R X Y → (∀ v, -mb k ≤ X v ∧ X v ≤ mb k) → (∀ v, -mb k ≤ Y v ∧ Y v ≤ mb k) →
      Run Try.prog c 46 [.code (cAt (bodyOf Try.f46) [1, 1, 1, 1, 0, 1, 0, 0]), .inLoop (cAt (bodyOf Try.f46) [1, 1, 1, 1, 0, 1, 0, 0]), .inBlock 2, .code (cAt (bodyOf Try.f46) [1, 1, 1, 1, 1])] (SY1 g nb N n s R X Y k) (Post c [] (.p (.bool (balP g N n s)))) := by
    intro d
    induction d with
    | zero =>
      intro k R X Y hk hu hX hY
      have hd : decide ((k : Int) < (n : Int)) = false := by simp; omega
      have hall : ∀ i, i < n → i < k := fun i hi => by omega
      rw [balP_t ⟨X, Y, fun i hi => (hu.i1 i (hall i hi)).2⟩]
      refine path_ok mixed Try.func46 hc (bY1e g nb N n s R X Y k) ?_
      simp only [All]
      repeat' (first | exact trivial | with_reducible apply And.intro)
      all_goals (first | omega | rfl | (intros; first | assumption | exact True.intro | rfl | exact absurd (show false = true by assumption) Bool.false_ne_true | ((repeat' (first | assumption | apply anda | apply notf)); done)) | (exact hd) | rfl)
    | succ d ih =>
      intro k R X Y hk hu hX hY
      have hkn : k < n := by omega
      have hd : decide ((k : Int) < (n : Int)) = true := by simp; omega
      have hi := goodS_in hs k hkn
      have hb := hg (s k).toNat (by omega)
      unfold barOk at hb
      have hm := mb_le (k + 1) (by omega)
      simp only [mb] at hm
      have xa := hX (g (s k).toNat).1.toNat
      have xb := hX (g (s k).toNat).2.1.toNat
      have ya := hY (g (s k).toNat).1.toNat
      have yb := hY (g (s k).toNat).2.1.toNat
      by_cases hr : R (g (s k).toNat).2.1.toNat = R (g (s k).toNat).1.toNat
      · have hr' : (R (g (s k).toNat).2.1.toNat == R (g (s k).toNat).1.toNat) = true := by rw [hr]; exact beq_self_eq_true _
        by_cases hz : X (g (s k).toNat).1.toNat + (g (s k).toNat).2.2.1 - X (g (s k).toNat).2.1.toNat = 0 ∧ Y (g (s k).toNat).1.toNat + (g (s k).toNat).2.2.2.1 - Y (g (s k).toNat).2.1.toNat = 0
        · have hz' : (bif X (g (s k).toNat).1.toNat + (g (s k).toNat).2.2.1 - X (g (s k).toNat).2.1.toNat != 0 then true else Y (g (s k).toNat).1.toNat + (g (s k).toNat).2.2.2.1 - Y (g (s k).toNat).2.1.toNat != 0) = false := by
            rw [hz.1, hz.2]; rfl
          refine piece_ok mixed hc (bY1c g nb N n s R X Y k) ?_ (ih (k + 1) R X Y (by omega) ⟨?_, hu.i2⟩ (fun v => by have := hX v; simp only [mb]; omega) (fun v => by have := hY v; simp only [mb]; omega))
          ·
            simp only [All]
            repeat' (first | exact trivial | with_reducible apply And.intro)
            all_goals (first | omega | rfl | (intros; first | assumption | exact True.intro | rfl | exact absurd (show false = true by assumption) Bool.false_ne_true | ((repeat' (first | assumption | apply anda | apply notf)); done)) | (exact hd) | (exact hr') | (exact hz') | (intro h; exact h) | (intro h; rw [h]; rfl) | (intro h; omega) | (intro j hj; simp [All]))
          · intro j hj
            by_cases hjk : j = k
            · subst hjk
              refine ⟨hr.symm, ?_, ?_⟩
              · show X (g (s j).toNat).1.toNat + (g (s j).toNat).2.2.1 = X (g (s j).toNat).2.1.toNat; omega
              · show Y (g (s j).toNat).1.toNat + (g (s j).toNat).2.2.2.1 = Y (g (s j).toNat).2.1.toNat; omega
            · exact hu.i1 j (by omega)
        · have hz' : (bif X (g (s k).toNat).1.toNat + (g (s k).toNat).2.2.1 - X (g (s k).toNat).2.1.toNat != 0 then true else Y (g (s k).toNat).1.toNat + (g (s k).toNat).2.2.2.1 - Y (g (s k).toNat).2.1.toNat != 0) = true := by
            cases h1 : (X (g (s k).toNat).1.toNat + (g (s k).toNat).2.2.1 - X (g (s k).toNat).2.1.toNat != 0) with
            | true => rfl
            | false =>
              cases h2 : (Y (g (s k).toNat).1.toNat + (g (s k).toNat).2.2.2.1 - Y (g (s k).toNat).2.1.toNat != 0) with
              | true => rfl
              | false => exact absurd ⟨by simpa using h1, by simpa using h2⟩ hz
          rw [balP_f (fun ⟨p, q, hpq⟩ => by
            have h1 := hpq k hkn
            have h2 := hu.i2 p q hpq _ _ (hok.ha k hkn) (hok.hb k hkn) hr.symm
            simp only [esO, gb] at h1 h2
            omega)]
          refine path_ok mixed Try.func46 hc (bY1t g nb N n s R X Y k) ?_
          simp only [All]
          repeat' (first | exact trivial | with_reducible apply And.intro)
          all_goals (first | omega | rfl | (intros; first | assumption | exact True.intro | rfl | exact absurd (show false = true by assumption) Bool.false_ne_true | ((repeat' (first | assumption | apply anda | apply notf)); done)) | (exact hd) | (exact hr') | (exact hz') | (intro h; exact h) | (intro h; rw [h]; rfl) | (intro h; omega) | (intro j hj; simp [All]))
      · have hr' : (R (g (s k).toNat).2.1.toNat == R (g (s k).toNat).1.toNat) = false := by simp; exact hr
        have hmg := hu.merge hok hkn hr _ _ rfl rfl
        simp only [esO, gb] at hmg
        generalize hdx : X (g (s k).toNat).1.toNat + (g (s k).toNat).2.2.1 - X (g (s k).toNat).2.1.toNat = dx at hmg
        generalize hdy : Y (g (s k).toNat).1.toNat + (g (s k).toNat).2.2.2.1 - Y (g (s k).toNat).2.1.toNat = dy at hmg
        generalize hfr : R (g (s k).toNat).2.1.toNat = fr at hmg
        generalize hto : R (g (s k).toNat).1.toNat = to' at hmg
        have hX3 : ∀ v, -mb (k + 1) ≤ X v ∧ X v ≤ mb (k + 1) := fun v => by have := hX v; simp only [mb]; omega
        have hY3 : ∀ v, -mb (k + 1) ≤ Y v ∧ Y v ≤ mb (k + 1) := fun v => by have := hY v; simp only [mb]; omega
        have hX4 : ∀ v, -mb (k + 1) ≤ X v + dx ∧ X v + dx ≤ mb (k + 1) := fun v => by have := hX v; simp only [mb]; omega
        have hY4 : ∀ v, -mb (k + 1) ≤ Y v + dy ∧ Y v + dy ≤ mb (k + 1) := fun v => by have := hY v; simp only [mb]; omega
        have hm2 := mb_le (k + 1) (by omega)
        have l2 : ∀ e v, v + e = N → Run Try.prog c 46 [.code (cAt (bodyOf Try.f46) [1, 1, 1, 1, 0, 1, 0, 0, 1, 1, 0, 0, 1, 1, 1, 1, 1, 1, 0, 0]), .inLoop (cAt (bodyOf Try.f46) [1, 1, 1, 1, 0, 1, 0, 0, 1, 1, 0, 0, 1, 1, 1, 1, 1, 1, 0, 0]), .inBlock 4, .inBlock 3, .code (cAt (bodyOf Try.f46) [1, 1, 1, 1, 0, 1, 0, 0, 1, 1, 1]), .inLoop (cAt (bodyOf Try.f46) [1, 1, 1, 1, 0, 1, 0, 0]), .inBlock 2, .code (cAt (bodyOf Try.f46) [1, 1, 1, 1, 1])] (SY2 g nb N n s (mR R R fr v (fun _ => to')) (mR R X fr v (fun u => X u + dx)) (mR R Y fr v (fun u => Y u + dy)) k dx dy fr to' v) (Post c [] (.p (.bool (balP g N n s)))) := by
          intro e
          induction e with
          | zero =>
            intro v hv
            obtain rfl : v = N := by omega
            have hd2 : decide ((v : Int) < (v : Int)) = false := by simp
            refine piece_ok mixed hc (bY2e g nb v n s _ _ _ k dx dy fr to' v) ?_ (ih (k + 1) _ _ _ (by omega) hmg (mR_le _ _ _ _ _ _ hX3 hX4) (mR_le _ _ _ _ _ _ hY3 hY4))
            simp only [All]
            repeat' (first | exact trivial | with_reducible apply And.intro)
            all_goals (first | omega | rfl | (intros; first | assumption | exact True.intro | rfl | exact absurd (show false = true by assumption) Bool.false_ne_true | ((repeat' (first | assumption | apply anda | apply notf)); done)) | (exact hd2) | (simp; done) | (intro j hj; simp [All]))
          | succ e ih2 =>
            intro v hv
            have hd2 : decide ((v : Int) < (N : Int)) = true := by simp; omega
            have e1 := mR_at R R fr (fun _ => to') v
            by_cases h3 : R v = fr
            · have h3' : (mR R R fr v (fun _ => to') v == fr) = true := by rw [e1, h3]; exact beq_self_eq_true _
              have h5 := hX4 v
              have h6 := hY4 v
              have q1 := mR_up R R fr (fun _ => to') v h3
              have q2 := mR_up R X fr (fun u => X u + dx) v h3
              have q3 := mR_up R Y fr (fun u => Y u + dy) v h3
              have h7 := ih2 (v + 1) (by omega)
              rw [← q1, ← q2, ← q3] at h7
              refine piece_ok mixed hc (bY2t g nb N n s _ _ _ k dx dy fr to' v) ?_ (piece_ok mixed hc (bY2u g nb N n s _ _ _ k dx dy fr to' v) ?_ (cast (by simp only [mR_at]) h7))
              ·
                simp only [All]
                repeat' (first | exact trivial | with_reducible apply And.intro)
                all_goals (first | omega | rfl | (intros; first | assumption | exact True.intro | rfl | exact absurd (show false = true by assumption) Bool.false_ne_true | ((repeat' (first | assumption | apply anda | apply notf)); done)) | (exact hd2) | (exact h3') | (simp only [mR_at]; omega) | (intro j hj; by_cases h' : j = v <;> simp [h', up, mR_at, cvtL, cvt, tg, tru, All]))
              ·
                simp only [All]
                repeat' (first | exact trivial | with_reducible apply And.intro)
                all_goals (first | omega | rfl | (intros; first | assumption | exact True.intro | rfl | exact absurd (show false = true by assumption) Bool.false_ne_true | ((repeat' (first | assumption | apply anda | apply notf)); done)) | (exact hd2) | (exact h3') | (simp only [mR_at]; omega) | (intro j hj; by_cases h' : j = v <;> simp [h', up, mR_at, cvtL, cvt, tg, tru, All]))
            · have h3' : (mR R R fr v (fun _ => to') v == fr) = false := by rw [e1]; simp; exact h3
              have h7 := ih2 (v + 1) (by omega)
              rw [← mR_skip R R fr _ v h3, ← mR_skip R X fr _ v h3, ← mR_skip R Y fr _ v h3] at h7
              refine piece_ok mixed hc (bY2n g nb N n s _ _ _ k dx dy fr to' v) ?_ h7
              simp only [All]
              repeat' (first | exact trivial | with_reducible apply And.intro)
              all_goals (first | omega | rfl | (intros; first | assumption | exact True.intro | rfl | exact absurd (show false = true by assumption) Bool.false_ne_true | ((repeat' (first | assumption | apply anda | apply notf)); done)) | (exact hd2) | (exact h3') | (simp; done) | (intro j hj; simp [All]))
        have h8 := l2 N 0 (by omega)
        have z1 : ∀ F G, mR R F fr 0 G = F := fun F G => by funext u; simp [mR]
        rw [z1, z1, z1] at h8
        subst hdx hdy hfr hto
        refine piece_ok mixed hc (bY1m g nb N n s R X Y k) ?_ h8
        simp only [All]
        repeat' (first | exact trivial | with_reducible apply And.intro)
        all_goals (first | omega | rfl | (intros; first | assumption | exact True.intro | rfl | exact absurd (show false = true by assumption) Bool.false_ne_true | ((repeat' (first | assumption | apply anda | apply notf)); done)) | (exact hd) | (exact hr') | (simp; done) | (intro j hj; simp [All]))
  have l0 : ∀ d k R, k + d = N → (∀ v, v < k → R v = (v : Int)) → Run Try.prog c 46 [.code (cAt (bodyOf Try.f46) [1, 1, 1, 0, 1, 0, 0]), .inLoop (cAt (bodyOf Try.f46) [1, 1, 1, 0, 1, 0, 0]), .inBlock 0, .code (cAt (bodyOf Try.f46) [1, 1, 1, 1])] (SY0 g nb N n s R (fun _ => 0) (fun _ => 0) k) (Post c [] (.p (.bool (balP g N n s)))) := by
    intro d
    induction d with
    | zero =>
      intro k R hk hR
      obtain rfl : k = N := by omega
      have hd : decide ((k : Int) < (k : Int)) = false := by simp
      refine piece_ok mixed hc (bY0e g nb k n s R _ _ k) ?_ (l1 n 0 R _ _ (by omega) ⟨fun j hj => absurd hj (Nat.not_lt_zero _), fun p q hpq u v hu hv huv => ?_⟩ (fun v => by simp [mb]) (fun v => by simp [mb]))
      ·
        simp only [All]
        repeat' (first | exact trivial | with_reducible apply And.intro)
        all_goals (first | omega | rfl | (intros; first | assumption | exact True.intro | rfl | exact absurd (show false = true by assumption) Bool.false_ne_true | ((repeat' (first | assumption | apply anda | apply notf)); done)) | (exact hd) | (simp; done) | (intro j hj; simp [All]))
      · rw [hR u hu, hR v hv] at huv
        have : u = v := by omega
        subst this; exact ⟨rfl, rfl⟩
    | succ d ih =>
      intro k R hk hR
      have hd : decide ((k : Int) < (N : Int)) = true := by simp; omega
      refine piece_ok mixed hc (bY0 g nb N n s R _ _ k) ?_ (ih (k + 1) _ (by omega) (fun v hv => ?_))
      ·
        simp only [All]
        repeat' (first | exact trivial | with_reducible apply And.intro)
        all_goals (first | omega | rfl | (intros; first | assumption | exact True.intro | rfl | exact absurd (show false = true by assumption) Bool.false_ne_true | ((repeat' (first | assumption | apply anda | apply notf)); done)) | (exact hd) | (intro j hj; by_cases h' : j = k <;> simp [h', up, cvtL, cvt, tg, tru, All]))
      · by_cases h' : v = k
        · rw [h']; exact up_same _ _ _
        · rw [up_ne _ _ _ _ h']; exact hR v (by omega)
  refine piece_ok mixed hc (bYa g nb N n s) ?_ (l0 N 0 _ (by omega) (fun v hv => absurd hv (Nat.not_lt_zero _)))
  simp only [All]
  repeat' (first | exact trivial | with_reducible apply And.intro)
  all_goals (first | omega | rfl | (intros; first | assumption | exact True.intro | rfl | exact absurd (show false = true by assumption) Bool.false_ne_true | ((repeat' (first | assumption | apply anda | apply notf)); done)) | (simp; done) | (intro j hj; simp [All]))

theorem con_IsBalanced_i (v : T_GainGraph) (hs : smS s_GainGraph v) (u : T_IntS) (hn : u.1 ≤ 1048576) :
    Con Try.prog 13 0 [] [gnA v.2.1.2 v.2.1.1 v.1, inS u.1 u.2] [] (.p (.bool (isBalF v u))) := by
  have hcg := con_IsGainGraph_i v hs
  have hnb : v.2.1.1 ≤ 1048576 := hs.2.1.1
  obtain ⟨n, s⟩ := u
  refine con_start Try.func13 rfl (by kernel_rfl) rfl (fun c hc => ?_)
  have lp : ∀ d k, k + d = n → goodS v.2.1.1 s k = true → Run Try.prog c 13 [.code (cAt (bodyOf Try.f13) [1, 0, 1, 0, 0]), .inLoop (cAt (bodyOf Try.f13) [1, 0, 1, 0, 0]), .inBlock 0, .code (cAt (bodyOf Try.f13) [1, 1])] (SZ0 v.2.1.2 v.2.1.1 v.1 n s k) (Post c [] (.p (.bool (isBalF v (n, s))))) := by
    intro d
    induction d with
    | zero =>
      intro k hk hg
      have e : k = n := by omega
      have hd : decide ((k : Int) < (n : Int)) = false := by simp; omega
      have hbl : isGainF v = true → Con Try.prog 46 0 [] [gnA v.2.1.2 v.2.1.1 v.1, inS n s] [] (.p (.bool (balP v.2.1.2 v.1.toNat n s))) := by
        intro h
        obtain ⟨N, nb, g, rfl, h1, h2, h3, h4⟩ := gain_in h
        rw [e] at hg
        exact con_balanced ⟨h1, h2⟩ h3 h4 hg
      rw [show isBalF v (n, s) = (bif isGainF v then balP v.2.1.2 v.1.toNat n s else false) by rw [isBalF]; simp only; rw [← e, hg]; rfl]
      refine path_ok mixed Try.func13 hc (bZd v.2.1.2 v.2.1.1 v.1 n s k (isGainF v) (balP v.2.1.2 v.1.toNat n s)) ?_
      simp only [All]
      repeat' (first | exact trivial | with_reducible apply And.intro)
      all_goals (first | omega | rfl | (intros; first | assumption | exact True.intro | rfl | exact absurd (show false = true by assumption) Bool.false_ne_true | ((repeat' (first | assumption | apply anda | apply notf)); done)) | (exact hd) | (exact hcg) | (intro h; exact hbl h) | (intro h; exact h) | rfl)
    | succ d ih =>
      intro k hk hg
      have hd : decide ((k : Int) < (n : Int)) = true := by simp; omega
      have hk' : k < n := by omega
      have hw := con_within (s k) 0 ((v.2.1.1 : Int) - 1)
      cases hb : badZ v.2.1.1 s k with
      | true =>
        rw [show isBalF v (n, s) = false by rw [isBalF]; simp only; rw [goodS_bad v.2.1.1 s k (by rw [← badZ_S]; exact hb) n hk']; rfl]
        refine path_ok mixed Try.func13 hc (bZc v.2.1.2 v.2.1.1 v.1 n s k) ?_
        simp only [All]
        repeat' (first | exact trivial | with_reducible apply And.intro)
        all_goals (first | omega | rfl | (intros; first | assumption | exact True.intro | rfl | exact absurd (show false = true by assumption) Bool.false_ne_true | ((repeat' (first | assumption | apply anda | apply notf)); done)) | (exact hd) | (exact hw) | (exact hb) | (intro h; exact h) | (intro h; rw [h]; rfl) | (intro h1 h2; rw [h1, h2]; rfl) | (intro h; have := idx_ltB h hk'; omega) | (intro h; omega))
      | false =>
        refine piece_ok mixed hc (bZb v.2.1.2 v.2.1.1 v.1 n s k) ?_ (ih (k + 1) (by omega) (by rw [badZ_S] at hb; simp [goodS, hg, hb]))
        simp only [All]
        repeat' (first | exact trivial | with_reducible apply And.intro)
        all_goals (first | omega | rfl | (intros; first | assumption | exact True.intro | rfl | exact absurd (show false = true by assumption) Bool.false_ne_true | ((repeat' (first | assumption | apply anda | apply notf)); done)) | (exact hd) | (exact hw) | (exact hb) | (intro h; exact h) | (intro h; rw [h]; rfl) | (intro h1 h2; rw [h1, h2]; rfl) | (intro h; have := idx_ltB h hk'; omega) | (intro h; omega))
  refine piece_ok mixed hc (bZa v.2.1.2 v.2.1.1 v.1 n s) ?_ (lp n 0 (by omega) rfl)
  simp only [All]
  repeat' (first | exact trivial | with_reducible apply And.intro)
  all_goals (first | omega | rfl | (intros; first | assumption | exact True.intro | rfl | exact absurd (show false = true by assumption) Bool.false_ne_true | ((repeat' (first | assumption | apply anda | apply notf)); done)) | (simp; done))

end Go.Proofs.Ytgddbgmnehkblab.Mach
