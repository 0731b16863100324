/- Whether some bars of a gain graph are balanced: both programs answer the same. Conditions: as each theorem says. -/
import Derived.Test.YtgddbgmnehkblabBal
namespace Go.Proofs.Ytgddbgmnehkblab.Mach
open Go
set_option linter.unusedVariables false
set_option linter.unusedSimpArgs false

namespace BL
/-- bars as numbers -/
structure Es where
  n : Nat
  N : Nat
  a : Nat → Nat
  b : Nat → Nat
  x : Nat → Int
  y : Nat → Int
structure Es.Ok (e : Es) : Prop where
  ha : ∀ i, i < e.n → e.a i < e.N
  hb : ∀ i, i < e.n → e.b i < e.N
def Es.Pot (e : Es) (p q : Nat → Int) : Prop := ∀ i, i < e.n → p (e.a i) + e.x i = p (e.b i) ∧ q (e.a i) + e.y i = q (e.b i)
def Es.Bal (e : Es) : Prop := ∃ p q, e.Pot p q
def Es.Closed (e : Es) (K : Nat → Bool) : Prop := ∀ i, i < e.n → K (e.a i) = K (e.b i)
def Es.Good (e : Es) (K : Nat → Bool) (X Y : Nat → Int) : Prop :=
  ∀ p q, e.Pot p q → ∀ i, i < e.n → K (e.a i) = true → K (e.b i) = true → p (e.a i) - X (e.a i) = p (e.b i) - X (e.b i) ∧ q (e.a i) - Y (e.a i) = q (e.b i) - Y (e.b i)
/-- within a phase that began at r, with K0 known before -/
structure Es.Ph (e : Es) (K0 : Nat → Bool) (r : Nat) (K : Nat → Bool) (X Y : Nat → Int) : Prop where
  c0 : e.Closed K0
  g0 : e.Good K0 X Y
  le : ∀ v, K0 v = true → K v = true
  kr : K r = true
  ph : ∀ p q, e.Pot p q → ∀ v, K v = true → K0 v = false → p v - X v = p r - X r ∧ q v - Y v = q r - Y r

theorem up_same {α : Type} (F : Nat → α) (k : Nat) (x : α) : up F k x k = x := by simp [up]
theorem up_ne {α : Type} (F : Nat → α) (k v : Nat) (x : α) (h : v ≠ k) : up F k x v = F v := by simp [up, h]

theorem Es.Ph.add {e : Es} {K0 : Nat → Bool} {r : Nat} {K : Nat → Bool} {X Y : Nat → Int} (h : e.Ph K0 r K X Y) {u w : Nat} {dx dy : Int}
    (hu : K u = true) (hw : K w = false) (hK0 : K0 u = K0 w) (hp : ∀ p q, e.Pot p q → p u + dx = p w ∧ q u + dy = q w) :
    e.Ph K0 r (up K w true) (up X w (X u + dx)) (up Y w (Y u + dy)) := by
  have hw0 : K0 w = false := by
    cases h' : K0 w with
    | false => rfl
    | true => rw [h.le w h'] at hw; cases hw
  have hrw : r ≠ w := fun h' => by rw [← h', h.kr] at hw; cases hw
  have huw : u ≠ w := fun h' => by rw [h', hw] at hu; cases hu
  refine ⟨h.c0, ?_, ?_, ?_, ?_⟩
  · intro p q hpq i hi h1 h2
    have n1 : e.a i ≠ w := fun h' => by rw [h', hw0] at h1; cases h1
    have n2 : e.b i ≠ w := fun h' => by rw [h', hw0] at h2; cases h2
    rw [up_ne _ _ _ _ n1, up_ne _ _ _ _ n2, up_ne _ _ _ _ n1, up_ne _ _ _ _ n2]
    exact h.g0 p q hpq i hi h1 h2
  · intro v hv
    by_cases hvw : v = w
    · rw [hvw]; exact up_same _ _ _
    · rw [up_ne _ _ _ _ hvw]; exact h.le v hv
  · rw [up_ne _ _ _ _ hrw]; exact h.kr
  · intro p q hpq v hv hv0
    rw [up_ne X _ _ _ hrw, up_ne Y _ _ _ hrw]
    by_cases hvw : v = w
    · subst hvw
      rw [up_same, up_same]
      have h1 := h.ph p q hpq u hu (by rw [hK0]; exact hw0)
      have h2 := hp p q hpq
      omega
    · rw [up_ne _ _ _ _ hvw] at hv
      rw [up_ne _ _ _ _ hvw, up_ne _ _ _ _ hvw]
      exact h.ph p q hpq v hv hv0

theorem Es.Ph.done {e : Es} {K0 : Nat → Bool} {r : Nat} {K : Nat → Bool} {X Y : Nat → Int} (h : e.Ph K0 r K X Y) : e.Good K X Y := by
  intro p q hpq i hi h1 h2
  have hc := h.c0 i hi
  cases h0 : K0 (e.a i) with
  | true => exact h.g0 p q hpq i hi h0 (by rw [← hc]; exact h0)
  | false =>
    have a1 := h.ph p q hpq (e.a i) h1 h0
    have a2 := h.ph p q hpq (e.b i) h2 (by rw [← hc]; exact h0)
    omega

def cnt (K : Nat → Bool) : Nat → Nat
  | 0 => 0
  | v + 1 => cnt K v + (if K v = true then 1 else 0)
theorem cnt_le (K : Nat → Bool) : ∀ n, cnt K n ≤ n
  | 0 => Nat.le_refl _
  | n + 1 => by have := cnt_le K n; simp only [cnt]; split <;> omega
theorem cnt_congr (K L : Nat → Bool) : ∀ n, (∀ v, v < n → K v = L v) → cnt K n = cnt L n
  | 0, _ => rfl
  | n + 1, h => by simp only [cnt]; rw [cnt_congr K L n (fun v hv => h v (by omega)), h n (by omega)]
theorem cnt_up (K : Nat → Bool) (w : Nat) (hw : K w = false) : ∀ n, w < n → cnt (up K w true) n = cnt K n + 1
  | 0, h => by omega
  | n + 1, h => by
    simp only [cnt]
    by_cases hn : w = n
    · subst hn
      rw [cnt_congr (up K w true) K w (fun v hv => up_ne _ _ _ _ (by omega)), up_same, hw]; simp
    · rw [cnt_up K w hw n (by omega), up_ne _ _ _ _ (by omega)]; omega
theorem cnt_pos (K : Nat → Bool) (w : Nat) (hw : K w = true) : ∀ n, w < n → 1 ≤ cnt K n
  | 0, h => by omega
  | n + 1, h => by
    simp only [cnt]
    by_cases hn : w = n
    · subst hn; rw [hw]; simp
    · have := cnt_pos K w hw n (by omega); omega

/-- the sweeps' progress: sweep m, at bar i -/
def Es.Sw (e : Es) (K : Nat → Bool) (m i : Nat) : Prop :=
  e.Closed K ∨ m + 2 ≤ cnt K e.N ∨ (m + 1 ≤ cnt K e.N ∧ ∀ j, j < i → K (e.a j) = K (e.b j))

theorem Es.Sw.add {e : Es} {K : Nat → Bool} {m i : Nat} (h : e.Sw K m i) {w : Nat} (hw : w < e.N) (hK : K w = false) (hn : ¬ K (e.a i) = K (e.b i)) (hi : i < e.n) :
    e.Sw (up K w true) m (i + 1) := by
  right; left
  rw [cnt_up K w hK e.N hw]
  rcases h with h | h | h
  · exact absurd (h i hi) hn
  · omega
  · omega

theorem Es.Sw.skip {e : Es} {K : Nat → Bool} {m i : Nat} (h : e.Sw K m i) (hn : K (e.a i) = K (e.b i)) : e.Sw K m (i + 1) := by
  rcases h with h | h | h
  · exact .inl h
  · exact .inr (.inl h)
  · refine .inr (.inr ⟨h.1, fun j hj => ?_⟩)
    by_cases hji : j = i
    · rw [hji]; exact hn
    · exact h.2 j (by omega)

theorem Es.Sw.next {e : Es} {K : Nat → Bool} {m : Nat} (h : e.Sw K m e.n) : e.Sw K (m + 1) 0 := by
  rcases h with h | h | h
  · exact .inl h
  · exact .inr (.inr ⟨h, fun j hj => absurd hj (Nat.not_lt_zero _)⟩)
  · exact .inl h.2

theorem Es.Sw.fin {e : Es} {K : Nat → Bool} (h : e.Sw K e.N 0) : e.Closed K := by
  have := cnt_le K e.N
  rcases h with h | h | h
  · exact h
  · omega
  · omega

/-- the union-find side, after k bars -/
structure Es.Uf (e : Es) (k : Nat) (R X Y : Nat → Int) : Prop where
  i1 : ∀ j, j < k → R (e.a j) = R (e.b j) ∧ X (e.a j) + e.x j = X (e.b j) ∧ Y (e.a j) + e.y j = Y (e.b j)
  i2 : ∀ p q, e.Pot p q → ∀ u v, u < e.N → v < e.N → R u = R v → p u - X u = p v - X v ∧ q u - Y u = q v - Y v

def mR (R F : Nat → Int) (fr : Int) (n : Nat) (G : Nat → Int) (u : Nat) : Int := if u < n ∧ R u = fr then G u else F u

theorem mR_up (R F : Nat → Int) (fr : Int) (G : Nat → Int) (v : Nat) (h : R v = fr) : up (mR R F fr v G) v (G v) = mR R F fr (v + 1) G := by
  funext u
  simp only [up, mR]
  by_cases hu : u = v
  · subst hu; rw [if_pos rfl, if_pos ⟨by omega, h⟩]
  · rw [if_neg hu]
    by_cases h2 : u < v ∧ R u = fr
    · rw [if_pos h2, if_pos ⟨by omega, h2.2⟩]
    · rw [if_neg h2, if_neg (fun h3 => h2 ⟨by omega, h3.2⟩)]

theorem mR_skip (R F : Nat → Int) (fr : Int) (G : Nat → Int) (v : Nat) (h : ¬ R v = fr) : mR R F fr v G = mR R F fr (v + 1) G := by
  funext u
  simp only [mR]
  by_cases h2 : u < v ∧ R u = fr
  · rw [if_pos h2, if_pos ⟨by omega, h2.2⟩]
  · rw [if_neg h2, if_neg (fun h3 => ?_)]
    have hn : u ≠ v := fun h4 => h (by rw [← h4]; exact h3.2)
    exact h2 ⟨by omega, h3.2⟩

theorem mR_at (R F : Nat → Int) (fr : Int) (G : Nat → Int) (v : Nat) : mR R F fr v G v = F v := by simp [mR]

theorem Es.Uf.merge {e : Es} (he : e.Ok) {k : Nat} {R X Y : Nat → Int} (h : e.Uf k R X Y) (hk : k < e.n) (hne : ¬ R (e.b k) = R (e.a k)) (dx dy : Int)
    (hx : dx = X (e.a k) + e.x k - X (e.b k)) (hy : dy = Y (e.a k) + e.y k - Y (e.b k)) :
    e.Uf (k + 1) (mR R R (R (e.b k)) e.N (fun _ => R (e.a k))) (mR R X (R (e.b k)) e.N (fun u => X u + dx)) (mR R Y (R (e.b k)) e.N (fun u => Y u + dy)) := by
  have hin : ∀ u, u < e.N → ∀ F G, mR R F (R (e.b k)) e.N G u = if R u = R (e.b k) then G u else F u := by
    intro u hu F G
    simp only [mR]
    by_cases h1 : R u = R (e.b k)
    · rw [if_pos ⟨hu, h1⟩, if_pos h1]
    · rw [if_neg (fun h2 => h1 h2.2), if_neg h1]
  constructor
  · intro j hj
    by_cases hjk : j = k
    · subst hjk
      rw [hin _ (he.ha j hk), hin _ (he.hb j hk), hin _ (he.ha j hk), hin _ (he.hb j hk), hin _ (he.ha j hk), hin _ (he.hb j hk)]
      simp only [if_true, if_neg (fun h' => hne (Eq.symm h'))]
      refine ⟨trivial, ?_, ?_⟩ <;> omega
    · have h1 := h.i1 j (by omega)
      rw [hin _ (he.ha j (by omega)), hin _ (he.hb j (by omega)), hin _ (he.ha j (by omega)), hin _ (he.hb j (by omega)), hin _ (he.ha j (by omega)), hin _ (he.hb j (by omega)), ← h1.1]
      by_cases h2 : R (e.a j) = R (e.b k)
      · simp only [if_pos h2]; refine ⟨trivial, ?_, ?_⟩ <;> omega
      · simp only [if_neg h2]; exact ⟨trivial, h1.2⟩
  · intro p q hpq u v hu hv
    rw [hin u hu, hin v hv, hin u hu, hin v hv, hin u hu, hin v hv]
    have hb := hpq k hk
    by_cases h1 : R u = R (e.b k)
    · by_cases h2 : R v = R (e.b k)
      · simp only [if_pos h1, if_pos h2]; intro _
        have := h.i2 p q hpq u v hu hv (by rw [h1, h2]); omega
      · simp only [if_pos h1, if_neg h2]; intro h3
        have a1 := h.i2 p q hpq u (e.b k) hu (he.hb k hk) h1
        have a2 := h.i2 p q hpq (e.a k) v (he.ha k hk) hv h3
        omega
    · by_cases h2 : R v = R (e.b k)
      · simp only [if_neg h1, if_pos h2]; intro h3
        have a1 := h.i2 p q hpq v (e.b k) hv (he.hb k hk) h2
        have a2 := h.i2 p q hpq (e.a k) u (he.ha k hk) hu h3.symm
        omega
      · simp only [if_neg h1, if_neg h2]; intro h3
        exact h.i2 p q hpq u v hu hv h3

theorem mR_le (R F : Nat → Int) (fr : Int) (n : Nat) (G : Nat → Int) (B : Int) (hF : ∀ v, -B ≤ F v ∧ F v ≤ B) (hG : ∀ v, -B ≤ G v ∧ G v ≤ B) : ∀ v, -B ≤ mR R F fr n G v ∧ mR R F fr n G v ≤ B := by
  intro v; simp only [mR]; split
  · exact hG v
  · exact hF v
theorem up_le (F : Nat → Int) (k : Nat) (x B : Int) (hF : ∀ v, -B ≤ F v ∧ F v ≤ B) (hx : -B ≤ x ∧ x ≤ B) : ∀ v, -B ≤ up F k x v ∧ up F k x v ≤ B := by
  intro v; simp only [up]; split
  · exact hx
  · exact hF v
def mb : Nat → Int
  | 0 => 0
  | k + 1 => 3 * mb k + 9
theorem mb_le (k : Nat) (h : k ≤ 8) : 0 ≤ mb k ∧ mb k ≤ 100000 := by
  rcases k with _ | _ | _ | _ | _ | _ | _ | _ | _ | k
  all_goals first | decide | omega
end BL
open BL

def goodS (nb : Nat) (s : Nat → Int) : Nat → Bool
  | 0 => true
  | k + 1 => goodS nb s k && !badS nb s k
theorem goodS_bad (nb : Nat) (s : Nat → Int) (k : Nat) (h : badS nb s k = true) : ∀ n, k < n → goodS nb s n = false
  | 0, h' => by omega
  | n + 1, h' => by
    by_cases e' : k = n
    · subst e'; simp [goodS, h]
    · simp [goodS, goodS_bad nb s k h n (by omega)]
theorem idx_ltB {b : Bool} {k n : Nat} (h : (b && decide ((k : Int) > 0)) = true) (hk : k < n) : 0 ≤ (k : Int) - 1 ∧ (k : Int) - 1 < n ∧ -9223372036854775808 ≤ (k : Int) - 1 ∧ (k : Int) - 1 ≤ n := by
  simp at h
  omega
theorem badZ_S (nb : Nat) (s : Nat → Int) (k : Nat) : badZ nb s k = badS nb s k := by
  have : (!inB (s k) 0 ((nb : Int) - 1)) = (bif decide (s k < 0) then true else decide (s k ≥ (nb : Int))) := by
    rw [Bool.eq_iff_iff]; simp [inB]; omega
  rw [badZ, badS, this]
theorem goodS_in {nb : Nat} {s : Nat → Int} : ∀ {n : Nat}, goodS nb s n = true → (∀ i, i < n → 0 ≤ s i ∧ s i < nb ∧ (i : Int) ≤ s i)
  | 0, _ => fun i hi => absurd hi (Nat.not_lt_zero _)
  | n + 1, h => by
    simp only [goodS, Bool.and_eq_true, Bool.not_eq_true'] at h
    have ih := goodS_in h.1
    intro i hi
    by_cases e' : i = n
    · subst e'
      have hb := h.2
      simp only [badS] at hb
      cases h1 : decide (s i < 0) with
      | true => rw [h1] at hb; cases hb
      | false =>
        cases h2 : decide (s i ≥ (nb : Int)) with
        | true => rw [h1, h2] at hb; cases hb
        | false =>
          have h1' := of_decide_eq_false h1
          have h2' := of_decide_eq_false h2
          refine ⟨by omega, by omega, ?_⟩
          cases i with
          | zero => omega
          | succ j =>
            rw [h1, h2, show decide (((j + 1 : Nat) : Int) > 0) = true from decide_eq_true (by omega), show (((j + 1 : Nat) : Int) - 1).toNat = j by omega] at hb
            have h3 := of_decide_eq_false hb
            have := (ih j (by omega)).2.2
            omega
    · exact ih i (by omega)

def esO (g : Nat → T_GainBar) (N n : Nat) (s : Nat → Int) : Es :=
  ⟨n, N, fun i => (gb g s i).1.toNat, fun i => (gb g s i).2.1.toNat, fun i => (gb g s i).2.2.1, fun i => (gb g s i).2.2.2.1⟩
open Classical in
noncomputable def balP (g : Nat → T_GainBar) (N n : Nat) (s : Nat → Int) : Bool := decide (esO g N n s).Bal
noncomputable def isBalF (v : T_GainGraph) (u : T_IntS) : Bool := bif goodS v.2.1.1 u.2 u.1 then (bif isGainF v then balP v.2.1.2 v.1.toNat u.1 u.2 else false) else false

theorem con_l29Set (v : T_GainGraph) (hs : smS s_GainGraph v) (u : T_IntS) (hn : u.1 ≤ 1048576) :
    Con Try.prog 42 0 [] [gnA v.2.1.2 v.2.1.1 v.1, inS u.1 u.2] [] (.p (.bool (bif goodS v.2.1.1 u.2 u.1 then isGainF v else false))) := by
  have hcg := con_IsGainGraph_s v hs
  obtain ⟨n, s⟩ := u
  refine con_start Try.func42 rfl (by kernel_rfl) rfl (fun c hc => ?_)
  have lp : ∀ d k, k + d = n → goodS v.2.1.1 s k = true → Run Try.prog c 42 [.code (cAt (bodyOf Try.f42) [1, 0, 1, 0, 0]), .inLoop (cAt (bodyOf Try.f42) [1, 0, 1, 0, 0]), .inBlock 0, .code (cAt (bodyOf Try.f42) [1, 1])] (SBl v.2.1.2 v.2.1.1 v.1 n s k) (Post c [] (.p (.bool (bif goodS v.2.1.1 s n then isGainF v else false)))) := by
    intro d
    induction d with
    | zero =>
      intro k hk hg
      have e : k = n := by omega
      have hd : decide ((k : Int) < (n : Int)) = false := by simp; omega
      rw [show goodS v.2.1.1 s n = true by rw [← e]; exact hg]
      refine path_ok mixed Try.func42 hc (bLd v.2.1.2 v.2.1.1 v.1 n s k (isGainF v)) ?_
      simp only [All]
      repeat' (first | exact trivial | with_reducible apply And.intro)
      all_goals (first | omega | rfl | (intros; first | assumption | exact True.intro | rfl | exact absurd (show false = true by assumption) Bool.false_ne_true | ((repeat' (first | assumption | apply anda | apply notf)); done)) | (exact hd) | (exact hcg) | rfl)
    | succ d ih =>
      intro k hk hg
      have hd : decide ((k : Int) < (n : Int)) = true := by simp; omega
      have hk' : k < n := by omega
      cases hb : badS v.2.1.1 s k with
      | true =>
        rw [goodS_bad v.2.1.1 s k hb n hk']
        refine path_ok mixed Try.func42 hc (bLc v.2.1.2 v.2.1.1 v.1 n s k) ?_
        simp only [All]
        repeat' (first | exact trivial | with_reducible apply And.intro)
        all_goals (first | omega | rfl | (intros; first | assumption | exact True.intro | rfl | exact absurd (show false = true by assumption) Bool.false_ne_true | ((repeat' (first | assumption | apply anda | apply notf)); done)) | (exact hd) | (exact hb) | (intro h; exact h) | (intro h; rw [h]; rfl) | (intro h1 h2; rw [h1, h2]; rfl) | (intro h; have := idx_ltB h hk'; omega) | (intro h; omega))
      | false =>
        refine piece_ok mixed hc (bLb v.2.1.2 v.2.1.1 v.1 n s k) ?_ (ih (k + 1) (by omega) (by simp [goodS, hg, hb]))
        simp only [All]
        repeat' (first | exact trivial | with_reducible apply And.intro)
        all_goals (first | omega | rfl | (intros; first | assumption | exact True.intro | rfl | exact absurd (show false = true by assumption) Bool.false_ne_true | ((repeat' (first | assumption | apply anda | apply notf)); done)) | (exact hd) | (exact hb) | (intro h; exact h) | (intro h; rw [h]; rfl) | (intro h1 h2; rw [h1, h2]; rfl) | (intro h; have := idx_ltB h hk'; omega) | (intro h; omega))
  refine piece_ok mixed hc (bLa v.2.1.2 v.2.1.1 v.1 n s) ?_ (lp n 0 (by omega) rfl)
  simp only [All]
  repeat' (first | exact trivial | with_reducible apply And.intro)
  all_goals (first | omega | rfl | (intros; first | assumption | exact True.intro | rfl | exact absurd (show false = true by assumption) Bool.false_ne_true | ((repeat' (first | assumption | apply anda | apply notf)); done)) | (simp; done))

end Go.Proofs.Ytgddbgmnehkblab.Mach
