/- Plain facts: the sparsity matroid of plane frameworks, and what a state of the pebble game says of sparsity. Conditions: as each theorem says. -/
import Derived.Test.YtgdbnnmogddkaaaMachV
namespace Go.Proofs.Ytgdbnnmogddkaaa.Mat
set_option linter.unusedVariables false

def cardR (R : Nat → Bool) : Nat → Nat
  | 0 => 0
  | n + 1 => cardR R n + (R n).toNat
def inn (R : Nat → Bool) (x : Nat × Nat) : Bool := R x.1 && R x.2
def cnt (R : Nat → Bool) : List (Nat × Nat) → Nat
  | [] => 0
  | x :: l => (inn R x).toNat + cnt R l
def Sparse (N k l : Nat) (I : List (Nat × Nat)) : Prop := ∀ R, 0 < cnt R I → cnt R I + l ≤ k * cardR R N
def uni (R S : Nat → Bool) (v : Nat) : Bool := R v || S v
def cap2 (R S : Nat → Bool) (v : Nat) : Bool := R v && S v

theorem card_uni (R S : Nat → Bool) : ∀ n, cardR (uni R S) n + cardR (cap2 R S) n = cardR R n + cardR S n
  | 0 => rfl
  | n + 1 => by
    have := card_uni R S n
    simp only [cardR, uni, cap2] at *
    cases R n <;> cases S n <;> simp <;> omega

theorem cnt_uni (R S : Nat → Bool) : ∀ l, cnt R l + cnt S l ≤ cnt (uni R S) l + cnt (cap2 R S) l
  | [] => by simp [cnt]
  | x :: l => by
    have := cnt_uni R S l
    simp only [cnt, inn, uni, cap2] at *
    cases R x.1 <;> cases S x.1 <;> cases R x.2 <;> cases S x.2 <;> simp <;> omega

theorem cnt_mono (R S : Nat → Bool) (h : ∀ v, R v = true → S v = true) : ∀ l, cnt R l ≤ cnt S l
  | [] => Nat.le_refl _
  | x :: l => by
    have := cnt_mono R S h l
    have h1 := h x.1; have h2 := h x.2
    simp only [cnt, inn]
    cases e : R x.1 <;> cases f : R x.2 <;> simp_all <;> omega

theorem card_mono (R S : Nat → Bool) (h : ∀ v, R v = true → S v = true) : ∀ n, cardR R n ≤ cardR S n
  | 0 => Nat.le_refl _
  | n + 1 => by
    have := card_mono R S h n
    have h1 := h n
    simp only [cardR]
    cases e : R n <;> simp_all <;> omega

theorem card_le (R : Nat → Bool) : ∀ n, cardR R n ≤ n
  | 0 => Nat.le_refl _
  | n + 1 => by have := card_le R n; simp only [cardR]; cases R n <;> simp <;> omega

theorem card_one (R : Nat → Bool) (a : Nat) (h : R a = true) : ∀ n, a < n → 1 ≤ cardR R n
  | 0, h' => by omega
  | n + 1, h' => by
    simp only [cardR]
    by_cases e : a = n
    · subst e; simp [h]
    · have := card_one R a h n (by omega); omega

theorem card_two (R : Nat → Bool) (a b : Nat) (h : R a = true) (hb : R b = true) (hn : a ≠ b) : ∀ n, a < n → b < n → 2 ≤ cardR R n
  | 0, h', _ => by omega
  | n + 1, h', h'' => by
    simp only [cardR]
    by_cases e : a = n
    · subst e
      have := card_one R b hb a (by omega); simp [h]; omega
    · by_cases e' : b = n
      · subst e'
        have := card_one R a h b (by omega); simp [hb]; omega
      · have := card_two R a b h hb hn n (by omega) (by omega); omega

theorem card_single (a : Nat) : ∀ n, cardR (fun v => v == a) n ≤ 1 ∧ (n ≤ a → cardR (fun v => v == a) n = 0)
  | 0 => by simp [cardR]
  | n + 1 => by
    obtain ⟨h1, h2⟩ := card_single a n
    simp only [cardR]
    by_cases e : n = a
    · subst e; rw [h2 (Nat.le_refl _)]; simp
    · rw [show (n == a) = false by simp [e]]; exact ⟨h1, fun h => h2 (by omega)⟩

theorem card_pair (a b n : Nat) : cardR (fun v => v == a || v == b) n ≤ 2 := by
  have h := card_uni (fun v => v == a) (fun v => v == b) n
  have h1 := (card_single a n).1
  have h2 := (card_single b n).1
  have e : cardR (uni (fun v => v == a) (fun v => v == b)) n = cardR (fun v => v == a || v == b) n := rfl
  omega

/-- equal cardinality and inclusion: the same set below n -/
theorem card_eq (R S : Nat → Bool) (h : ∀ v, R v = true → S v = true) : ∀ n, cardR S n ≤ cardR R n → ∀ v, v < n → S v = true → R v = true
  | 0, _, v, hv, _ => by omega
  | n + 1, hc, v, hv, hs => by
    have hm := card_mono R S h n
    have h1 := h n
    simp only [cardR] at hc
    by_cases e : v = n
    · subst e
      cases er : R v
      · rw [er, hs] at hc; simp at hc; omega
      · rfl
    · refine card_eq R S h n ?_ v (by omega) hs
      cases er : R n <;> cases es : S n <;> simp_all <;> omega

def Tight (N : Nat) (I : List (Nat × Nat)) (R : Nat → Bool) : Prop := cnt R I + 3 = 2 * cardR R N

theorem tight_union {N : Nat} {I : List (Nat × Nat)} (hI : Sparse N 2 3 I) {R S : Nat → Bool} (h1 : Tight N I R) (h2 : Tight N I S)
    (a b : Nat) (hab : a ≠ b) (ha : a < N) (hb : b < N) (ra : R a = true) (rb : R b = true) (sa : S a = true) (sb : S b = true) : Tight N I (uni R S) := by
  have c1 := card_uni R S N
  have c2 := cnt_uni R S I
  have c3 := cnt_mono R (uni R S) (fun v h => by simp [uni, h]) I
  have c4 := hI (uni R S)
  have c5 := hI (cap2 R S)
  have c6 := card_two (cap2 R S) a b (by simp [cap2, ra, sa]) (by simp [cap2, rb, sb]) hab N ha hb
  unfold Tight at *
  by_cases e : 0 < cnt (cap2 R S) I
  · have := c5 e; have := c4 (by omega); omega
  · have := c4 (by omega); omega

/-- a tight set with the ends of a bar, as large as may be -/
theorem biggest {N : Nat} {I : List (Nat × Nat)} (x : Nat × Nat) (h : ∃ R, Tight N I R ∧ inn R x = true) :
    ∃ R, Tight N I R ∧ inn R x = true ∧ ∀ S, Tight N I S → inn S x = true → cardR S N ≤ cardR R N := by
  have key : ∀ d, ∀ R, Tight N I R → inn R x = true → N - cardR R N ≤ d →
      ∃ R, Tight N I R ∧ inn R x = true ∧ ∀ S, Tight N I S → inn S x = true → cardR S N ≤ cardR R N := by
    intro d
    induction d with
    | zero =>
      intro R h1 h2 h3
      exact ⟨R, h1, h2, fun S _ _ => by have := card_le S N; omega⟩
    | succ d ih =>
      intro R h1 h2 h3
      by_cases hS : ∃ S, Tight N I S ∧ inn S x = true ∧ cardR R N < cardR S N
      · obtain ⟨S, s1, s2, s3⟩ := hS
        exact ih S s1 s2 (by omega)
      · refine ⟨R, h1, h2, fun S s1 s2 => ?_⟩
        by_cases e : cardR S N ≤ cardR R N
        · exact e
        · exact absurd ⟨S, s1, s2, by omega⟩ hS
  obtain ⟨R, h1, h2⟩ := h
  exact key _ R h1 h2 (Nat.le_refl _)

def GoodBar (N : Nat) (x : Nat × Nat) : Prop := x.1 ≠ x.2 ∧ x.1 < N ∧ x.2 < N

/-- blocks: tight sets so that every bar lies in just one -/
def total (N : Nat) : List (Nat → Bool) → Nat
  | [] => 0
  | R :: F => (2 * cardR R N - 3) + total N F
def cntAll (F : List (Nat → Bool)) (I : List (Nat × Nat)) : Nat := match F with
  | [] => 0
  | R :: F => cnt R I + cntAll F I
def homes (x : Nat × Nat) : List (Nat → Bool) → Nat
  | [] => 0
  | R :: F => (inn R x).toNat + homes x F

theorem cntAll_nil (F : List (Nat → Bool)) : cntAll F [] = 0 := by
  induction F with
  | nil => rfl
  | cons R F ih => simp [cntAll, cnt, ih]

theorem cntAll_cons (F : List (Nat → Bool)) (x : Nat × Nat) (l : List (Nat × Nat)) : cntAll F (x :: l) = homes x F + cntAll F l := by
  induction F with
  | nil => rfl
  | cons R F ih => simp only [cntAll, cnt, homes, ih]; omega

theorem cntAll_length (F : List (Nat → Bool)) : ∀ l : List (Nat × Nat), (∀ x ∈ l, homes x F = 1) → cntAll F l = l.length
  | [], _ => cntAll_nil F
  | x :: l, h => by
    rw [cntAll_cons, h x (by simp), cntAll_length F l (fun y hy => h y (by simp [hy]))]; simp; omega

theorem cntAll_tight {N : Nat} {I : List (Nat × Nat)} : ∀ F : List (Nat → Bool), (∀ R ∈ F, Tight N I R) → cntAll F I = total N F
  | [], _ => rfl
  | R :: F, h => by
    have h1 := h R (by simp)
    unfold Tight at h1
    simp only [cntAll, total, cntAll_tight F (fun S hS => h S (by simp [hS]))]; omega

theorem cntAll_sparse {N : Nat} {J : List (Nat × Nat)} (hJ : Sparse N 2 3 J) : ∀ F : List (Nat → Bool), cntAll F J ≤ total N F
  | [] => Nat.le_refl _
  | R :: F => by
    have h1 := hJ R
    have := cntAll_sparse hJ F
    simp only [cntAll, total]
    by_cases e : 0 < cnt R J
    · have := h1 e; omega
    · omega

theorem blocks {N : Nat} {I : List (Nat × Nat)} (hI : Sparse N 2 3 I) (L : List (Nat × Nat)) (hL : ∀ x ∈ L, GoodBar N x)
    (hT : ∀ x ∈ L, ∃ R, Tight N I R ∧ inn R x = true) : ∀ M : List (Nat × Nat), (∀ x ∈ M, x ∈ L) →
      ∃ F : List (Nat → Bool), (∀ R ∈ F, Tight N I R) ∧ (∀ R ∈ F, ∃ x ∈ L, inn R x = true ∧ ∀ S, Tight N I S → inn S x = true → cardR S N ≤ cardR R N) ∧
        (∀ x ∈ L, homes x F ≤ 1) ∧ (∀ x ∈ M, homes x F = 1)
  | [], _ => ⟨[], by simp, by simp, by simp [homes], by simp⟩
  | y :: M, hM => by
    obtain ⟨F, f1, f2, f3, f4⟩ := blocks hI L hL hT M (fun x hx => hM x (by simp [hx]))
    by_cases hy : homes y F = 1
    · refine ⟨F, f1, f2, f3, fun x hx => ?_⟩
      rcases List.mem_cons.mp hx with e | e
      · rw [e]; exact hy
      · exact f4 x e
    · have hyL : y ∈ L := hM y (by simp)
      have hy0 : homes y F = 0 := by have := f3 y hyL; omega
      obtain ⟨B, b1, b2, b3⟩ := biggest y (hT y hyL)
      -- a bar of L in B has no home in F
      have key : ∀ x ∈ L, inn B x = true → homes x F = 0 := by
        intro x hx hBx
        have none : ∀ F' : List (Nat → Bool), (∀ R ∈ F', R ∈ F) → homes x F' = 0 := by
          intro F'
          induction F' with
          | nil => intro _; rfl
          | cons R F' ih =>
            intro hs
            have h0 := ih (fun S hS => hs S (by simp [hS]))
            simp only [homes, h0]
            cases e : inn R x with
            | false => simp
            | true =>
              exfalso
              have hR := hs R (by simp)
              obtain ⟨w, hw, w1, w2⟩ := f2 R hR
              have hg := hL x hx
              simp only [inn, Bool.and_eq_true] at e hBx b2 w1
              have hu := tight_union hI (f1 R hR) b1 x.1 x.2 hg.1 hg.2.1 hg.2.2 e.1 e.2 hBx.1 hBx.2
              have hc := w2 _ hu (by simp [inn, uni, w1.1, w1.2])
              have heq := card_eq R (uni R B) (fun v h => by simp [uni, h]) N hc
              have gy := hL y hyL
              have r1 := heq y.1 gy.2.1 (by simp [uni, b2.1])
              have r2 := heq y.2 gy.2.2 (by simp [uni, b2.2])
              -- then y has a home
              have : ∀ F'' : List (Nat → Bool), R ∈ F'' → 1 ≤ homes y F'' := by
                intro F''
                induction F'' with
                | nil => intro h; cases h
                | cons S F'' ih2 =>
                  intro h
                  simp only [homes]
                  rcases List.mem_cons.mp h with e2 | e2
                  · subst e2; simp [inn, r1, r2]
                  · have := ih2 e2; omega
              have := this F hR
              omega
        exact none F (fun R h => h)
      refine ⟨B :: F, ?_, ?_, ?_, ?_⟩
      · intro R hR
        rcases List.mem_cons.mp hR with e | e
        · rw [e]; exact b1
        · exact f1 R e
      · intro R hR
        rcases List.mem_cons.mp hR with e | e
        · rw [e]; exact ⟨y, hyL, b2, b3⟩
        · exact f2 R e
      · intro x hx
        simp only [homes]
        cases e : inn B x with
        | true => rw [key x hx e]; simp
        | false => simpa using f3 x hx
      · intro x hx
        simp only [homes]
        rcases List.mem_cons.mp hx with e | e
        · subst e; rw [b2, hy0]; simp
        · have h1 := f4 x e
          cases e2 : inn B x with
          | true => have := key x (hM x hx) e2; omega
          | false => simpa using h1

theorem rank_le {N : Nat} {I J : List (Nat × Nat)} (L : List (Nat × Nat)) (hL : ∀ x ∈ L, GoodBar N x) (hI : Sparse N 2 3 I) (hIL : ∀ x ∈ I, x ∈ L)
    (hT : ∀ x ∈ L, ∃ R, Tight N I R ∧ inn R x = true) (hJ : Sparse N 2 3 J) (hJL : ∀ x ∈ J, x ∈ L) : J.length ≤ I.length := by
  obtain ⟨F, f1, _, _, f4⟩ := blocks hI L hL hT L (fun x h => h)
  have e1 := cntAll_length F I (fun x hx => f4 x (hIL x hx))
  have e2 := cntAll_length F J (fun x hx => f4 x (hJL x hx))
  have e3 := cntAll_tight F f1
  have e4 := cntAll_sparse hJ F
  omega

open Classical in
noncomputable def greedy (N k l : Nat) : List (Nat × Nat) → List (Nat × Nat) → List (Nat × Nat)
  | acc, [] => acc
  | acc, x :: xs => if Sparse N k l (acc ++ [x]) then greedy N k l (acc ++ [x]) xs else greedy N k l acc xs

theorem cnt_append (R : Nat → Bool) : ∀ a b : List (Nat × Nat), cnt R (a ++ b) = cnt R a + cnt R b
  | [], b => by simp [cnt]
  | x :: a, b => by simp only [List.cons_append, cnt, cnt_append R a b]; omega

theorem greedy_append (N k l : Nat) : ∀ (xs ys acc : List (Nat × Nat)), greedy N k l acc (xs ++ ys) = greedy N k l (greedy N k l acc xs) ys
  | [], ys, acc => rfl
  | x :: xs, ys, acc => by
    simp only [List.cons_append, greedy]
    split
    · exact greedy_append N k l xs ys _
    · exact greedy_append N k l xs ys _

theorem greedy_sparse (N k l : Nat) : ∀ (xs acc : List (Nat × Nat)), Sparse N k l acc → Sparse N k l (greedy N k l acc xs)
  | [], acc, h => h
  | x :: xs, acc, h => by
    simp only [greedy]
    split
    · next h' => exact greedy_sparse N k l xs _ h'
    · exact greedy_sparse N k l xs acc h

theorem greedy_pre (N k l : Nat) : ∀ (xs acc : List (Nat × Nat)), ∃ t, greedy N k l acc xs = acc ++ t ∧ ∀ x ∈ t, x ∈ xs
  | [], acc => ⟨[], by simp [greedy], by simp⟩
  | x :: xs, acc => by
    simp only [greedy]
    split
    · obtain ⟨t, h1, h2⟩ := greedy_pre N k l xs (acc ++ [x])
      refine ⟨x :: t, by simp [h1], fun y hy => ?_⟩
      rcases List.mem_cons.mp hy with e | e
      · simp [e]
      · simp [h2 y e]
    · obtain ⟨t, h1, h2⟩ := greedy_pre N k l xs acc
      exact ⟨t, h1, fun y hy => by simp [h2 y hy]⟩

theorem sparse_nil (N k l : Nat) : Sparse N k l [] := fun R h => by simp [cnt] at h

theorem tight_pre {N : Nat} {I t : List (Nat × Nat)} {R : Nat → Bool} (hs : Sparse N 2 3 (I ++ t)) (h : Tight N I R) : Tight N (I ++ t) R := by
  have h1 := hs R
  have h2 := cnt_append R I t
  unfold Tight at *
  have := h1 (by omega)
  omega

theorem greedy_tight {N : Nat} : ∀ (xs acc : List (Nat × Nat)), (∀ x ∈ xs, GoodBar N x) → Sparse N 2 3 acc → ∀ x ∈ xs, ∃ R, Tight N (greedy N 2 3 acc xs) R ∧ inn R x = true
  | [], acc, _, _, x, hx => by cases hx
  | y :: xs, acc, hg, hs, x, hx => by
    simp only [greedy]
    have hgy := hg y (by simp)
    split
    · next h' =>
      rcases List.mem_cons.mp hx with e | e
      · subst e
        obtain ⟨t, ht, _⟩ := greedy_pre N 2 3 xs (acc ++ [x])
        have hs' := greedy_sparse N 2 3 xs _ h'
        refine ⟨fun v => v == x.1 || v == x.2, ?_, by simp [inn]⟩
        rw [ht] at hs' ⊢
        refine tight_pre hs' ?_
        have c1 := h' (fun v => v == x.1 || v == x.2) (by rw [cnt_append]; simp [cnt, inn])
        have c2 : 1 ≤ cnt (fun v => v == x.1 || v == x.2) (acc ++ [x]) := by rw [cnt_append]; simp [cnt, inn]
        have c3 := card_pair x.1 x.2 N
        unfold Tight; omega
      · exact greedy_tight xs _ (fun z hz => hg z (by simp [hz])) h' x e
    · next h' =>
      rcases List.mem_cons.mp hx with e | e
      · subst e
        obtain ⟨t, ht, _⟩ := greedy_pre N 2 3 xs acc
        have hs' := greedy_sparse N 2 3 xs acc hs
        obtain ⟨R, hR⟩ := Classical.not_forall.mp h'
        obtain ⟨hp, hq⟩ := Classical.not_imp.mp hR
        rw [cnt_append] at hp hq
        have hc : cnt R [x] = (inn R x).toNat := by simp [cnt]
        have h1 := hs R
        cases e2 : inn R x with
        | false => rw [hc, e2] at hp hq; simp at hp hq; have := h1 hp; omega
        | true =>
          rw [hc, e2] at hp hq
          simp only [Bool.toNat_true] at hp hq
          refine ⟨R, ?_, e2⟩
          rw [ht] at hs' ⊢
          refine tight_pre hs' ?_
          simp only [inn, Bool.and_eq_true] at e2
          have c6 := card_two R x.1 x.2 e2.1 e2.2 hgy.1 N hgy.2.1 hgy.2.2
          unfold Tight
          by_cases e3 : 0 < cnt R acc
          · have := h1 e3; omega
          · omega
      · exact greedy_tight xs acc (fun z hz => hg z (by simp [hz])) hs x e

theorem rank_same {N : Nat} (L M : List (Nat × Nat)) (hL : ∀ x ∈ L, GoodBar N x) (h : ∀ x, x ∈ L ↔ x ∈ M) : (greedy N 2 3 [] L).length = (greedy N 2 3 [] M).length := by
  have hM : ∀ x ∈ M, GoodBar N x := fun x hx => hL x ((h x).mpr hx)
  obtain ⟨t, ht, hti⟩ := greedy_pre N 2 3 L []
  obtain ⟨s, hs, hsi⟩ := greedy_pre N 2 3 M []
  simp only [List.nil_append] at ht hs
  have sl := greedy_sparse N 2 3 L [] (sparse_nil N 2 3)
  have sm := greedy_sparse N 2 3 M [] (sparse_nil N 2 3)
  have tl := greedy_tight L [] hL (sparse_nil N 2 3)
  have tm := greedy_tight M [] hM (sparse_nil N 2 3)
  have a := rank_le L hL sl (by rw [ht]; exact hti) tl sm (by rw [hs]; exact fun x hx => (h x).mpr (hsi x hx))
  have b := rank_le M hM sm (by rw [hs]; exact hsi) tm sl (by rw [ht]; exact fun x hx => (h x).mp (hti x hx))
  omega

-- pebbles: a placed bar with its tail
abbrev PB := Nat × (Nat × Nat)
def tc (v : Nat) : List PB → Nat
  | [] => 0
  | p :: l => (p.1 == v).toNat + tc v l
def outR (R : Nat → Bool) : List PB → Nat
  | [] => 0
  | p :: l => (R p.1).toNat + outR R l
def barsOf : List PB → List (Nat × Nat)
  | [] => []
  | p :: l => p.2 :: barsOf l
def sumR (R : Nat → Bool) (f : Nat → Nat) : Nat → Nat
  | 0 => 0
  | n + 1 => sumR R f n + (if R n then f n else 0)

theorem sumR_zero (R : Nat → Bool) : ∀ N, sumR R (fun v => tc v []) N = 0
  | 0 => rfl
  | n + 1 => by
    have := sumR_zero R n
    have e : tc n [] = 0 := rfl
    simp only [sumR]; rw [this, e]; simp

theorem sumR_tc (R : Nat → Bool) (N : Nat) : ∀ l : List PB, (∀ p ∈ l, p.1 < N) → sumR R (fun v => tc v l) N = outR R l
  | [], _ => by
    simp only [outR]
    exact sumR_zero R N
  | p :: l, h => by
    have ih := sumR_tc R N l (fun q hq => h q (by simp [hq]))
    have hp := h p (by simp)
    simp only [outR, ← ih]
    have key : ∀ n, sumR R (fun v => tc v (p :: l)) n = (if p.1 < n then (R p.1).toNat else 0) + sumR R (fun v => tc v l) n := by
      intro n
      induction n with
      | zero => simp [sumR]
      | succ n ih2 =>
        simp only [sumR]
        rw [ih2]
        have et : tc n (p :: l) = (p.1 == n).toNat + tc n l := rfl
        rw [et]
        by_cases e : p.1 = n
        · subst e
          rw [if_neg (Nat.lt_irrefl _), if_pos (Nat.lt_succ_self _)]
          cases R p.1 <;> simp; omega
        · have e1 : (p.1 == n) = false := by simp [e]
          have e1 : (p.1 == n).toNat = 0 := by rw [e1]; rfl
          rw [e1]
          by_cases e2 : p.1 < n
          · rw [if_pos e2, if_pos (show p.1 < n + 1 by omega)]; cases R n <;> simp <;> omega
          · rw [if_neg e2, if_neg (show ¬ p.1 < n + 1 by omega)]; cases R n <;> simp
    rw [key N, if_pos hp]

theorem sumR_add (R : Nat → Bool) (f g : Nat → Nat) (k : Nat) : ∀ N, (∀ v, v < N → f v + g v = k) → sumR R f N + sumR R g N = k * cardR R N
  | 0, _ => by simp [sumR, cardR]
  | n + 1, h => by
    have ih := sumR_add R f g k n (fun v hv => h v (by omega))
    have h1 := h n (by omega)
    simp only [sumR, cardR, Nat.mul_add]
    cases R n <;> simp <;> omega

theorem cnt_out_le (R : Nat → Bool) : ∀ l : List PB, (∀ p ∈ l, p.1 = p.2.1 ∨ p.1 = p.2.2) → cnt R (barsOf l) ≤ outR R l
  | [], _ => Nat.le_refl _
  | p :: l, h => by
    have ih := cnt_out_le R l (fun q hq => h q (by simp [hq]))
    have hp := h p (by simp)
    simp only [barsOf, cnt, outR, inn]
    rcases hp with e | e <;> rw [e] <;> cases R p.2.1 <;> cases R p.2.2 <;> simp <;> omega

theorem cnt_out_eq (R : Nat → Bool) : ∀ l : List PB, (∀ p ∈ l, p.1 = p.2.1 ∨ p.1 = p.2.2) → (∀ p ∈ l, R p.1 = true → inn R p.2 = true) → cnt R (barsOf l) = outR R l
  | [], _, _ => rfl
  | p :: l, h, hc => by
    have ih := cnt_out_eq R l (fun q hq => h q (by simp [hq])) (fun q hq => hc q (by simp [hq]))
    have hp := h p (by simp)
    have hq := hc p (by simp)
    simp only [barsOf, cnt, outR, inn, ih] at *
    rcases hp with e | e <;> rw [e] at hq ⊢ <;> cases e1 : R p.2.1 <;> cases e2 : R p.2.2 <;> simp_all

theorem sumR_two (R : Nat → Bool) (f : Nat → Nat) (a b : Nat) (hab : a ≠ b) (ra : R a = true) (rb : R b = true) : ∀ N, a < N → b < N → f a + f b ≤ sumR R f N := by
  have one : ∀ c, R c = true → ∀ N, c < N → f c ≤ sumR R f N := by
    intro c hc N
    induction N with
    | zero => omega
    | succ n ih =>
      intro h
      simp only [sumR]
      by_cases e : c = n
      · subst e; simp [hc]
      · have := ih (by omega); omega
  intro N
  induction N with
  | zero => omega
  | succ n ih =>
    intro h1 h2
    simp only [sumR]
    by_cases e : a = n
    · subst e; have := one b rb a (by omega); simp [ra]; omega
    · by_cases e' : b = n
      · subst e'; have := one a ra b (by omega); simp [rb]; omega
      · have := ih (by omega) (by omega); omega

theorem sumR_only (R : Nat → Bool) (f : Nat → Nat) (a b : Nat) (hab : a ≠ b) (h0 : ∀ v, R v = true → v ≠ a → v ≠ b → f v = 0) : ∀ N, sumR R f N ≤ f a + f b := by
  have key : ∀ N, sumR R f N ≤ (if a < N then f a else 0) + (if b < N then f b else 0) := by
    intro N
    induction N with
    | zero => simp [sumR]
    | succ n ih =>
      simp only [sumR]
      by_cases e : a = n
      · subst e
        rw [if_neg (Nat.lt_irrefl a)] at ih
        rw [if_pos (Nat.lt_succ_self a)]
        have : (if R a = true then f a else 0) ≤ f a := by split <;> omega
        by_cases q : b < a
        · rw [if_pos q] at ih; rw [if_pos (show b < a + 1 by omega)]; omega
        · rw [if_neg q] at ih; omega
      · by_cases e' : b = n
        · subst e'
          rw [if_neg (Nat.lt_irrefl b)] at ih
          rw [if_pos (Nat.lt_succ_self b)]
          have : (if R b = true then f b else 0) ≤ f b := by split <;> omega
          by_cases q : a < b
          · rw [if_pos q] at ih; rw [if_pos (show a < b + 1 by omega)]; omega
          · rw [if_neg q] at ih; omega
        · have e1 : (if R n = true then f n else 0) = 0 := by
            split
            · next h => exact h0 n h (Ne.symm e) (Ne.symm e')
            · rfl
          rw [e1]
          by_cases q : a < n <;> by_cases q' : b < n <;> simp only [q, q', if_true, if_false] at ih <;> (first | rw [if_pos (show a < n + 1 by omega)] | rw [if_neg (show ¬ a < n + 1 by omega)]) <;> (first | rw [if_pos (show b < n + 1 by omega)] | rw [if_neg (show ¬ b < n + 1 by omega)]) <;> omega
  intro N
  have := key N
  have h1 : (if a < N then f a else 0) ≤ f a := by split <;> omega
  have h2 : (if b < N then f b else 0) ≤ f b := by split <;> omega
  omega

/-- a state of the game -/
structure Game (N k l : Nat) (free : Nat → Nat) (P : List PB) : Prop where
  ends : ∀ p ∈ P, p.1 = p.2.1 ∨ p.1 = p.2.2
  good : ∀ p ∈ P, GoodBar N p.2
  sum : ∀ v, v < N → free v + tc v P = k

theorem Game.lt {N k l : Nat} {free : Nat → Nat} {P : List PB} (h : Game N k l free P) : ∀ p ∈ P, p.1 < N := by
  intro p hp
  have := h.good p hp
  rcases h.ends p hp with e | e
  · rw [e]; exact this.2.1
  · rw [e]; exact this.2.2

theorem Game.accept {N k l : Nat} {free : Nat → Nat} {P : List PB} (h : Game N k l free P) (hs : Sparse N k l (barsOf P)) (a b : Nat) (hab : GoodBar N (a, b)) (hf : l + 1 ≤ free a + free b) :
    Sparse N k l (barsOf P ++ [(a, b)]) := by
  intro R hp
  rw [cnt_append] at hp ⊢
  have hc : cnt R [(a, b)] = (inn R (a, b)).toNat := by simp [cnt]
  have h1 := hs R
  rw [hc] at hp ⊢
  cases e : inn R (a, b) with
  | false => rw [e] at hp; simp at hp ⊢; exact h1 hp
  | true =>
    have e' := e
    simp only [inn, Bool.and_eq_true] at e'
    have c1 := cnt_out_le R P h.ends
    have c2 := sumR_tc R N P h.lt
    have c3 := sumR_add R free (fun v => tc v P) k N h.sum
    have c4 := sumR_two R free a b hab.1 e'.1 e'.2 N hab.2.1 hab.2.2
    simp only [Bool.toNat_true]; omega

theorem Game.reject {N k l : Nat} {free : Nat → Nat} {P : List PB} (h : Game N k l free P) (a b : Nat) (hab : GoodBar N (a, b)) (hf : free a + free b ≤ l) (R : Nat → Bool)
    (ra : R a = true) (rb : R b = true) (hcl : ∀ p ∈ P, R p.1 = true → inn R p.2 = true) (h0 : ∀ v, R v = true → v ≠ a → v ≠ b → free v = 0) :
    ¬ Sparse N k l (barsOf P ++ [(a, b)]) := by
  intro hs
  have h1 := hs R
  rw [cnt_append] at h1
  have hc : cnt R [(a, b)] = 1 := by simp [cnt, inn, ra, rb]
  rw [hc] at h1
  have c1 := cnt_out_eq R P h.ends hcl
  have c2 := sumR_tc R N P h.lt
  have c3 := sumR_add R free (fun v => tc v P) k N h.sum
  have c4 := sumR_only R free a b hab.1 h0 N
  have := h1 (by omega)
  omega

end Go.Proofs.Ytgdbnnmogddkaaa.Mat
