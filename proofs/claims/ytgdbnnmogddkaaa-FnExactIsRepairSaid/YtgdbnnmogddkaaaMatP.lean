/- Plain facts: points held together by few bars or by all bars: the same rank, and what stands fast. Conditions: as each theorem says. -/
import Derived.Test.YtgdbnnmogddkaaaMat
namespace Go.Proofs.Ytgdbnnmogddkaaa.Mat
set_option linter.unusedVariables false
set_option linter.unusedSimpArgs false

noncomputable def rk (N : Nat) (L : List (Nat × Nat)) : Nat := (greedy N 2 3 [] L).length
def Imp (N : Nat) (I : List (Nat × Nat)) (a b : Nat) : Prop := ∃ R, Tight N I R ∧ R a = true ∧ R b = true

theorem cnt_tri (A B C : Nat → Bool) : ∀ l, cnt A l + cnt B l + cnt C l ≤ cnt (uni (uni A B) C) l + cnt (cap2 A B) l + cnt (cap2 A C) l + cnt (cap2 B C) l
  | [] => by simp [cnt]
  | x :: l => by
    have := cnt_tri A B C l
    simp only [cnt, inn, uni, cap2] at *
    cases A x.1 <;> cases B x.1 <;> cases C x.1 <;> cases A x.2 <;> cases B x.2 <;> cases C x.2 <;> simp <;> omega

theorem card_tri (A B C : Nat → Bool) : ∀ n, cardR A n + cardR B n + cardR C n + cardR (cap2 (cap2 A B) C) n = cardR (uni (uni A B) C) n + cardR (cap2 A B) n + cardR (cap2 A C) n + cardR (cap2 B C) n
  | 0 => rfl
  | n + 1 => by
    have := card_tri A B C n
    simp only [cardR, uni, cap2] at *
    cases A n <;> cases B n <;> cases C n <;> simp <;> omega

theorem cnt_zero_of {N : Nat} {I : List (Nat × Nat)} (hI : Sparse N 2 3 I) {R : Nat → Bool} (h : cardR R N ≤ 1) : cnt R I = 0 := by
  have := hI R
  by_cases e : 0 < cnt R I
  · have := this e; omega
  · omega

theorem tight_union2 {N : Nat} {I : List (Nat × Nat)} (hI : Sparse N 2 3 I) {R S : Nat → Bool} (h1 : Tight N I R) (h2 : Tight N I S) (h : 2 ≤ cardR (cap2 R S) N) : Tight N I (uni R S) := by
  have c1 := card_uni R S N
  have c2 := cnt_uni R S I
  have c3 := cnt_mono R (uni R S) (fun v h => by simp [uni, h]) I
  have c4 := hI (uni R S)
  have c5 := hI (cap2 R S)
  unfold Tight at *
  by_cases e : 0 < cnt (cap2 R S) I
  · have := c5 e; have := c4 (by omega); omega
  · have := c4 (by omega); omega

theorem card_none (R : Nat → Bool) : ∀ n, (∀ v, v < n → R v = false) → cardR R n = 0
  | 0, _ => rfl
  | n + 1, h => by simp [cardR, card_none R n (fun v hv => h v (by omega)), h n (by omega)]

theorem card_one_only (R : Nat → Bool) (a : Nat) (ra : R a = true) : ∀ n, a < n → cardR R n ≤ 1 → ∀ v, v < n → R v = true → v = a := by
  intro n ha h v hv hr
  by_cases e : v = a
  · exact e
  · have := card_two R v a hr ra e n hv ha
    omega

theorem tight_tri {N : Nat} {I : List (Nat × Nat)} (hI : Sparse N 2 3 I) {a b c : Nat} (ha : a < N) (hb : b < N) (hc : c < N) (hab : a ≠ b) (hac : a ≠ c) (hbc : b ≠ c)
    (h1 : Imp N I a b) (h2 : Imp N I a c) (h3 : Imp N I b c) : ∃ R, Tight N I R ∧ R a = true ∧ R b = true ∧ R c = true := by
  obtain ⟨A, tA, a1, a2⟩ := h1
  obtain ⟨B, tB, b1, b2⟩ := h2
  obtain ⟨C, tC, c1, c2⟩ := h3
  by_cases k1 : 2 ≤ cardR (cap2 A B) N
  · exact ⟨_, tight_union2 hI tA tB k1, by simp [uni, a1], by simp [uni, a2], by simp [uni, b2]⟩
  by_cases k2 : 2 ≤ cardR (cap2 A C) N
  · exact ⟨_, tight_union2 hI tA tC k2, by simp [uni, a1], by simp [uni, a2], by simp [uni, c2]⟩
  by_cases k3 : 2 ≤ cardR (cap2 B C) N
  · exact ⟨_, tight_union2 hI tB tC k3, by simp [uni, b1], by simp [uni, c1], by simp [uni, b2]⟩
  cases ca : C a with
  | true => exact ⟨C, tC, ca, c1, c2⟩
  | false =>
    have e1 : cardR (cap2 (cap2 A B) C) N = 0 := by
      refine card_none _ _ (fun v hv => ?_)
      cases e : cap2 (cap2 A B) C v with
      | false => rfl
      | true =>
        simp only [cap2, Bool.and_eq_true] at e
        have := card_one_only (cap2 A B) a (by simp [cap2, a1, b1]) N ha (by omega) v hv (by simp [cap2, e.1.1, e.1.2])
        subst this
        rw [ca] at e
        exact absurd e.2 (by simp)
    have f1 := cnt_tri A B C I
    have f2 := card_tri A B C N
    have g1 := card_one (cap2 A B) a (by simp [cap2, a1, b1]) N ha
    have g2 := card_one (cap2 A C) b (by simp [cap2, a2, c1]) N hb
    have g3 := card_one (cap2 B C) c (by simp [cap2, b2, c2]) N hc
    have z1 := cnt_zero_of hI (R := cap2 A B) (by omega)
    have z2 := cnt_zero_of hI (R := cap2 A C) (by omega)
    have z3 := cnt_zero_of hI (R := cap2 B C) (by omega)
    have c4 := hI (uni (uni A B) C)
    have m1 := cnt_mono A (uni (uni A B) C) (fun v h => by simp [uni, h]) I
    refine ⟨uni (uni A B) C, ?_, by simp [uni, a1], by simp [uni, a2], by simp [uni, b2]⟩
    have d1 := card_two A a b a1 a2 hab N ha hb
    unfold Tight at *
    have := c4 (by omega)
    omega

theorem ground_tight {N : Nat} {I : List (Nat × Nat)} (hI : Sparse N 2 3 I) (gr : Nat → Nat) : ∀ m, 2 ≤ m → (∀ i, i < m → gr i < N) → (∀ i j, i < j → j < m → gr i ≠ gr j) →
    (∀ i, 1 ≤ i → i < m → Imp N I (gr 0) (gr i)) → (∀ i, 2 ≤ i → i < m → Imp N I (gr 1) (gr i)) → ∃ R, Tight N I R ∧ ∀ i, i < m → R (gr i) = true
  | 0, h, _, _, _, _ => absurd h (by omega)
  | 1, h, _, _, _, _ => absurd h (by omega)
  | 2, _, hN, hd, h0, h1 => by
    obtain ⟨R, t, r1, r2⟩ := h0 1 (Nat.le_refl _) (by omega)
    refine ⟨R, t, fun i hi => ?_⟩
    rcases (show i = 0 ∨ i = 1 by omega) with rfl | rfl
    · exact r1
    · exact r2
  | m + 3, _, hN, hd, h0, h1 => by
    obtain ⟨R, t, r⟩ := ground_tight hI gr (m + 2) (by omega) (fun i hi => hN i (by omega)) (fun i j h1 h2 => hd i j h1 (by omega)) (fun i h1 h2 => h0 i h1 (by omega)) (fun i h2 h3 => h1 i h2 (by omega))
    obtain ⟨T, tt, t0, t1, t2⟩ := tight_tri hI (hN 0 (by omega)) (hN 1 (by omega)) (hN (m + 2) (by omega)) (hd 0 1 (by omega) (by omega)) (hd 0 (m + 2) (by omega) (by omega)) (hd 1 (m + 2) (by omega) (by omega))
      (h0 1 (Nat.le_refl _) (by omega)) (h0 (m + 2) (by omega) (by omega)) (h1 (m + 2) (by omega) (by omega))
    refine ⟨_, tight_union hI t tt (gr 0) (gr 1) (hd 0 1 (by omega) (by omega)) (hN 0 (by omega)) (hN 1 (by omega)) (r 0 (by omega)) (r 1 (by omega)) t0 t1, fun i hi => ?_⟩
    rcases Nat.lt_or_ge i (m + 2) with h | h
    · simp [uni, r i h]
    · obtain rfl : i = m + 2 := by omega
      simp [uni, t2]

theorem not_sparse_of_tight {N : Nat} {I : List (Nat × Nat)} {R : Nat → Bool} (h : Tight N I R) {x : Nat × Nat} (hx : inn R x = true) : ¬ Sparse N 2 3 (I ++ [x]) := by
  intro hs
  have h1 := hs R
  rw [cnt_append] at h1
  have hc : cnt R [x] = 1 := by simp [cnt, hx]
  rw [hc] at h1
  have := h1 (by omega)
  unfold Tight at h
  omega

theorem greedy_skip {N : Nat} {I : List (Nat × Nat)} : ∀ xs : List (Nat × Nat), (∀ x ∈ xs, ∃ R, Tight N I R ∧ inn R x = true) → greedy N 2 3 I xs = I
  | [], _ => rfl
  | x :: xs, h => by
    obtain ⟨R, t, r⟩ := h x (by simp)
    simp only [greedy]
    rw [if_neg (not_sparse_of_tight t r)]
    exact greedy_skip xs (fun y hy => h y (by simp [hy]))

/-- The ground's few bars. -/
structure Grd (N m : Nat) (gr : Nat → Nat) (S : List (Nat × Nat)) : Prop where
  two : 2 ≤ m
  lt : ∀ i, i < m → gr i < N
  ne : ∀ i j, i < j → j < m → gr i ≠ gr j
  b0 : ∀ i, 1 ≤ i → i < m → (gr 0, gr i) ∈ S
  b1 : ∀ i, 2 ≤ i → i < m → (gr 1, gr i) ∈ S

theorem Grd.tight {N m : Nat} {gr : Nat → Nat} {S L : List (Nat × Nat)} (h : Grd N m gr S) (hL : ∀ x ∈ L, GoodBar N x) (hs : ∀ x ∈ S, x ∈ L) :
    ∃ R, Tight N (greedy N 2 3 [] L) R ∧ ∀ i, i < m → R (gr i) = true := by
  have ht := greedy_tight L [] hL (sparse_nil N 2 3)
  have imp : ∀ x ∈ S, Imp N (greedy N 2 3 [] L) x.1 x.2 := by
    intro x hx
    obtain ⟨R, t, r⟩ := ht x (hs x hx)
    simp only [inn, Bool.and_eq_true] at r
    exact ⟨R, t, r.1, r.2⟩
  exact ground_tight (greedy_sparse N 2 3 L [] (sparse_nil N 2 3)) gr m h.two h.lt h.ne (fun i h1 h2 => imp _ (h.b0 i h1 h2)) (fun i h1 h2 => imp _ (h.b1 i h1 h2))

/-- All bars of the ground give no more than its few. -/
theorem Grd.same {N m : Nat} {gr : Nat → Nat} {S L M : List (Nat × Nat)} (h : Grd N m gr S) (hL : ∀ x ∈ L, GoodBar N x) (hM : ∀ x ∈ M, GoodBar N x) (hs : ∀ x ∈ S, x ∈ L) (hLM : ∀ x ∈ L, x ∈ M)
    (hML : ∀ x ∈ M, x ∈ L ∨ ∃ i j, i < m ∧ j < m ∧ x = (gr i, gr j)) : rk N M = rk N L := by
  obtain ⟨R, t, r⟩ := h.tight hL hs
  have e1 : rk N M = rk N (L ++ M) := rank_same M (L ++ M) hM (fun x => by
    simp only [List.mem_append]
    exact ⟨fun h => .inr h, fun h' => h'.elim (hLM x) id⟩)
  rw [e1]
  unfold rk
  rw [greedy_append, greedy_skip M (fun x hx => ?_)]
  rcases hML x hx with h' | ⟨i, j, hi, hj, rfl⟩
  · exact greedy_tight L [] hL (sparse_nil N 2 3) x h'
  · exact ⟨R, t, by simp [inn, r i hi, r j hj]⟩

/-- One more bar raises the rank just when no tight set has both its ends. -/
theorem rk_same_iff {N : Nat} {L : List (Nat × Nat)} (hL : ∀ x ∈ L, GoodBar N x) {a b : Nat} (hx : GoodBar N (a, b)) : rk N (L ++ [(a, b)]) = rk N L ↔ Imp N (greedy N 2 3 [] L) a b := by
  unfold rk
  rw [greedy_append]
  simp only [greedy]
  constructor
  · intro he
    split at he
    · simp at he
    · rename_i hn
      obtain ⟨R, t, r⟩ := greedy_tight (L ++ [(a, b)]) [] (fun x h => by
        rcases List.mem_append.1 h with h | h
        · exact hL x h
        · simp only [List.mem_cons, List.not_mem_nil, or_false] at h; subst h; exact hx) (sparse_nil N 2 3) (a, b) (by simp)
      rw [greedy_append] at t
      simp only [greedy] at t
      rw [if_neg hn] at t
      simp only [inn, Bool.and_eq_true] at r
      exact ⟨R, t, r.1, r.2⟩
  · rintro ⟨R, t, r1, r2⟩
    rw [if_neg (not_sparse_of_tight t (by simp [inn, r1, r2]))]

theorem rk_le_succ {N : Nat} {L : List (Nat × Nat)} (x : Nat × Nat) : rk N L ≤ rk N (L ++ [x]) ∧ rk N (L ++ [x]) ≤ rk N L + 1 := by
  unfold rk
  rw [greedy_append]
  simp only [greedy]
  split
  · simp
  · simp

/-- What stands fast against two points of the ground stands fast against all. -/
theorem Grd.steady {N m : Nat} {gr : Nat → Nat} {S L : List (Nat × Nat)} (h : Grd N m gr S) (hL : ∀ x ∈ L, GoodBar N x) (hs : ∀ x ∈ S, x ∈ L) {v : Nat} (hv : v < N) :
    ((gr 0 = v ∨ rk N (L ++ [(gr 0, v)]) = rk N L) ∧ (gr 1 = v ∨ rk N (L ++ [(gr 1, v)]) = rk N L)) ↔ ∀ i, i < m → gr i = v ∨ rk N (L ++ [(gr i, v)]) = rk N L := by
  have h2 := h.two
  constructor
  · rintro ⟨h0, h1⟩ i hi
    by_cases e : gr i = v
    · exact .inl e
    right
    rw [rk_same_iff hL ⟨e, h.lt i hi, hv⟩]
    obtain ⟨R, t, r⟩ := h.tight hL hs
    by_cases e0 : gr 0 = v
    · exact ⟨R, t, r i hi, by rw [← e0]; exact r 0 (by omega)⟩
    by_cases e1 : gr 1 = v
    · exact ⟨R, t, r i hi, by rw [← e1]; exact r 1 (by omega)⟩
    have i0 := (rk_same_iff hL (a := gr 0) (b := v) ⟨e0, h.lt 0 (by omega), hv⟩).1 (h0.resolve_left e0)
    have i1 := (rk_same_iff hL (a := gr 1) (b := v) ⟨e1, h.lt 1 (by omega), hv⟩).1 (h1.resolve_left e1)
    have hsp := greedy_sparse N 2 3 L [] (sparse_nil N 2 3)
    obtain ⟨T, tt, t0, t1, t2⟩ := tight_tri hsp (h.lt 0 (by omega)) (h.lt 1 (by omega)) hv (h.ne 0 1 (by omega) (by omega)) e0 e1 ⟨R, t, r 0 (by omega), r 1 (by omega)⟩ i0 i1
    exact ⟨_, tight_union hsp t tt (gr 0) (gr 1) (h.ne 0 1 (by omega) (by omega)) (h.lt 0 (by omega)) (h.lt 1 (by omega)) (r 0 (by omega)) (r 1 (by omega)) t0 t1, by simp [uni, r i hi], by simp [uni, t2]⟩
  · intro h'
    exact ⟨h' 0 (by omega), h' 1 (by omega)⟩

end Go.Proofs.Ytgdbnnmogddkaaa.Mat
