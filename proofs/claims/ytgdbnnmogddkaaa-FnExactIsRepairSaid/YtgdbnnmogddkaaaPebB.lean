/- The pebble game of the program: what a search and a move keep. Plain facts. Conditions: as each theorem says. -/
import Derived.Test.YtgdbnnmogddkaaaPebA
namespace Go.Proofs.Ytgdbnnmogddkaaa.Mach
open Go
set_option linter.unusedVariables false
set_option linter.unusedSimpArgs false

def tcI (T : Nat → Int) : Nat → Int → Int
  | 0, _ => 0
  | m + 1, v => tcI T m v + if T m = v then 1 else 0

/-- A state of the game: free pebbles, tails, placed bars. -/
structure PInv (N k nb m : Nat) (g : Nat → T_Bar) (F T Q : Nat → Int) : Prop where
  bars : ∀ e, e < nb → 0 ≤ (g e).1 ∧ (g e).1 < (g e).2.1 ∧ (g e).2.1 < N
  q : ∀ j, j < m → 0 ≤ Q j ∧ Q j < nb
  t : ∀ j, j < m → T j = (g (Q j).toNat).1 ∨ T j = (g (Q j).toNat).2.1
  f0 : ∀ v, v < N → 0 ≤ F v
  sum : ∀ v : Nat, v < N → F v + tcI T m v = k

theorem tcI_upd (T : Nat → Int) (j : Nat) (u x : Int) : ∀ m, j < m → tcI (fun s => if s = j then u else T s) m x = tcI T m x + (if u = x then 1 else 0) - (if T j = x then 1 else 0) := by
  have out : ∀ m, m ≤ j → tcI (fun s => if s = j then u else T s) m x = tcI T m x := by
    intro m
    induction m with
    | zero => intro _; rfl
    | succ m ih =>
      intro h
      simp only [tcI, show ¬ m = j by omega, if_false]
      rw [ih (by omega)]
  intro m
  induction m with
  | zero => omega
  | succ m ih =>
    intro h
    by_cases e : j = m
    · subst e
      simp only [tcI, if_true]
      rw [out j (Nat.le_refl _)]
      omega
    · simp only [tcI, show ¬ m = j by omega, if_false]
      rw [ih (by omega)]
      omega

theorem tcI_nonneg (T : Nat → Int) (x : Int) : ∀ m, 0 ≤ tcI T m x
  | 0 => Int.le_refl 0
  | m + 1 => by have := tcI_nonneg T x m; simp only [tcI]; split <;> omega

theorem mgo_some (K V : Nat → Int) (v : Int) : ∀ n s, (mgo K V v n s).isSome = true ↔ ∃ i, s ≤ i ∧ i < s + n ∧ K i = v
  | 0, s => by simp [mgo]; intro i h1 h2; omega
  | n + 1, s => by
    simp only [mgo]
    by_cases h : K s = v
    · simp only [h, if_true, Option.isSome_some, true_iff]
      exact ⟨s, Nat.le_refl _, by omega, h⟩
    · rw [if_neg h, mgo_some K V v n (s + 1)]
      constructor
      · rintro ⟨i, h1, h2, h3⟩; exact ⟨i, by omega, by omega, h3⟩
      · rintro ⟨i, h1, h2, h3⟩
        have : i ≠ s := fun e => h (by rw [← e]; exact h3)
        exact ⟨i, by omega, by omega, h3⟩

theorem mhas_iff (K : Nat → Int) (n : Nat) (v : Int) : mhas K n v = true ↔ ∃ i, i < n ∧ K i = v := by
  unfold mhas
  rw [mgo_some]
  simp

theorem mget_at (K V : Nat → Int) (v d : Int) (p : Nat) (hv : K p = v) : ∀ n s, s ≤ p → p < s + n → (∀ i, s ≤ i → i < p → K i ≠ v) → mgo K V v n s = some (p, V p)
  | 0, s, h1, h2, _ => by omega
  | n + 1, s, h1, h2, h3 => by
    simp only [mgo]
    by_cases e : s = p
    · subst e; rw [if_pos hv]
    · rw [if_neg (h3 s (Nat.le_refl _) (by omega)), mget_at K V v d p hv n (s + 1) (by omega) (by omega) (fun i h4 h5 => h3 i (by omega) h5)]

/-- Different numbers below N are at most N. -/
theorem pigeon : ∀ (N n : Nat) (td : Nat → Int), (∀ s, s < n → 0 ≤ td s ∧ td s < N) → (∀ s s', s < s' → s' < n → td s ≠ td s') → n ≤ N
  | 0, n, td, h, _ => by
    cases n with
    | zero => exact Nat.le_refl _
    | succ n => have := h 0 (by omega); omega
  | N + 1, n, td, h, hi => by
    by_cases hs : ∃ s, s < n ∧ td s = N
    · obtain ⟨s, h1, h2⟩ := hs
      have := pigeon N (n - 1) (fun x => if x < s then td x else td (x + 1)) (fun x hx => by
        have hne : ∀ y, y < n → y ≠ s → td y ≠ N := by
          intro y hy hys e
          rcases Nat.lt_or_gt_of_ne hys with h' | h'
          · exact hi y s h' h1 (by rw [e, h2])
          · exact hi s y h' hy (by rw [e, h2])
        show 0 ≤ (if x < s then td x else td (x + 1)) ∧ (if x < s then td x else td (x + 1)) < N
        split
        · have := h x (by omega); have := hne x (by omega) (by omega); omega
        · have := h (x + 1) (by omega); have := hne (x + 1) (by omega) (by omega); omega) (fun x y hxy hy => by
        show (if x < s then td x else td (x + 1)) ≠ (if y < s then td y else td (y + 1))
        split <;> split
        · exact hi x y hxy (by omega)
        · exact hi x (y + 1) (by omega) (by omega)
        · omega
        · exact hi (x + 1) (y + 1) (by omega) (by omega))
      omega
    · have := pigeon N n td (fun s hs' => by
        have := h s hs'
        have : td s ≠ N := fun e => hs ⟨s, hs', e⟩
        omega) hi
      omega

/-- A search: what has been met. -/
structure BInv (N m : Nat) (g : Nat → T_Bar) (F T Q td V : Nat → Int) (a b : Int) (tn : Nat) : Prop where
  n1 : 1 ≤ tn
  td0 : td 0 = a
  rng : ∀ s, s < tn → 0 ≤ td s ∧ td s < N
  inj : ∀ s s', s < s' → s' < tn → td s ≠ td s'
  par : ∀ s, 1 ≤ s → s < tn → ∃ j : Nat, j < m ∧ V s = j ∧ ∃ s', s' < s ∧ T j = td s' ∧ othF (g (Q j).toNat) (td s') = td s

def BZero (F td : Nat → Int) (b : Int) (tn : Nat) : Prop := ∀ s, 1 ≤ s → s < tn → td s = b ∨ F (td s).toNat = 0
def BClo (m : Nat) (g : Nat → T_Bar) (T Q td : Nat → Int) (i j tn : Nat) : Prop :=
  ∀ i' j', (i' < i ∧ j' < m) ∨ (i' = i ∧ j' < j) → i' < tn → T j' = td i' → ∃ s, s < tn ∧ td s = othF (g (Q j').toNat) (td i')

theorem BInv.add {N m : Nat} {g : Nat → T_Bar} {F T Q td V : Nat → Int} {a b : Int} {tn : Nat} (h : BInv N m g F T Q td V a b tn) {i j : Nat} (hi : i < tn) (hj : j < m) (ht : T j = td i) {v : Int}
    (hv : othF (g (Q j).toNat) (td i) = v) (hr : 0 ≤ v ∧ v < N) (hno : ∀ s, s < tn → td s ≠ v) :
    BInv N m g F T Q (fun s => if s < tn then td s else v) (fun s => if s < tn then V s else j) a b (tn + 1) := by
  have hn1 := h.n1
  refine ⟨by omega, ?_, fun s hs => ?_, fun s s' h1 h2 => ?_, fun s h1 h2 => ?_⟩
  · show (if 0 < tn then td 0 else v) = a
    rw [if_pos (by omega)]; exact h.td0
  · show 0 ≤ (if s < tn then td s else v) ∧ (if s < tn then td s else v) < N
    split
    · exact h.rng s (by assumption)
    · exact hr
  · show (if s < tn then td s else v) ≠ (if s' < tn then td s' else v)
    rw [if_pos (show s < tn by omega)]
    split
    · exact h.inj s s' h1 (by assumption)
    · exact hno s (by omega)
  · by_cases hs : s < tn
    · obtain ⟨j', g1, g2, s', g3, g4, g5⟩ := h.par s h1 hs
      refine ⟨j', g1, by simp only [hs, if_true]; exact g2, s', g3, ?_, ?_⟩
      · show T j' = (if s' < tn then td s' else v)
        rw [if_pos (by omega)]; exact g4
      · show othF (g (Q j').toNat) (if s' < tn then td s' else v) = (if s < tn then td s else v)
        rw [if_pos (by omega), if_pos hs]; exact g5
    · refine ⟨j, hj, by simp only [hs, if_false], i, by omega, ?_, ?_⟩
      · show T j = (if i < tn then td i else v)
        rw [if_pos hi]; exact ht
      · show othF (g (Q j).toNat) (if i < tn then td i else v) = (if s < tn then td s else v)
        rw [if_pos hi, if_neg hs]; exact hv

theorem othF_in {x : T_Bar} {v : Int} {N : Nat} (h : 0 ≤ x.1 ∧ x.1 < x.2.1 ∧ x.2.1 < N) : 0 ≤ othF x v ∧ othF x v < N := by
  unfold othF; split <;> omega

theorem othF_end {x : T_Bar} (v : Int) : othF x v = x.1 ∨ othF x v = x.2.1 := by
  unfold othF; split
  · exact .inr rfl
  · exact .inl rfl

/-- The path turned round, down to a place of the search. -/
structure TInv (m : Nat) (g : Nat → T_Bar) (T Q td V T' : Nat → Int) (v : Int) (s : Nat) : Prop where
  keep : ∀ p, 1 ≤ p → p ≤ s → T' (V p).toNat = T (V p).toNat
  t : ∀ j, j < m → T' j = (g (Q j).toNat).1 ∨ T' j = (g (Q j).toNat).2.1
  cnt : ∀ x, tcI T' m x = tcI T m x + (if v = x then 1 else 0) - (if td s = x then 1 else 0)

theorem TInv.step {N m : Nat} {g : Nat → T_Bar} {F T Q td V : Nat → Int} {a b : Int} {tn : Nat} (h : BInv N m g F T Q td V a b tn) {T' : Nat → Int} {v : Int} {s : Nat} (hs : s < tn) (hs1 : 1 ≤ s)
    (ht : TInv m g T Q td V T' v s) : ∃ j : Nat, j < m ∧ V s = j ∧ ∃ s', s' < s ∧ T' j = td s' ∧ TInv m g T Q td V (fun x => if x = j then td s else T' x) v s' ∧ T j = td s' ∧ othF (g (Q j).toNat) (td s') = td s := by
  obtain ⟨j, g1, g2, s', g3, g4, g5⟩ := h.par s hs1 hs
  have hk : T' j = td s' := by
    have := ht.keep s hs1 (Nat.le_refl _)
    rw [g2] at this
    simp only [Int.toNat_natCast] at this
    rw [this, g4]
  refine ⟨j, g1, g2, s', g3, hk, ⟨fun p h1 h2 => ?_, fun j' hj' => ?_, fun x => ?_⟩, g4, g5⟩
  · obtain ⟨jp, e1, e2, sp, e3, e4, e5⟩ := h.par p h1 (by omega)
    have hne : jp ≠ j := by
      intro e
      subst e
      rw [g4] at e4
      rw [← e4, g5] at e5
      exact h.inj p s (by omega) hs e5.symm
    have := ht.keep p h1 (by omega)
    rw [e2] at this ⊢
    simp only [Int.toNat_natCast] at this ⊢
    rw [if_neg hne]; exact this
  · show (if j' = j then td s else T' j') = _ ∨ (if j' = j then td s else T' j') = _
    by_cases e : j' = j
    · subst e
      rw [if_pos rfl, ← g5]
      exact othF_end _
    · rw [if_neg e]; exact ht.t j' hj'
  · rw [tcI_upd T' j (td s) x m g1, ht.cnt x, hk]
    omega

/-- What a move of one pebble comes to. -/
structure Moved (N k nb m : Nat) (g : Nat → T_Bar) (F T Q : Nat → Int) (a b : Int) (F' T' : Nat → Int) (r : Bool) : Prop where
  inv : PInv N k nb m g F' T' Q
  yes : r = true → F' a.toNat = F a.toNat + 1 ∧ F' b.toNat = F b.toNat
  no : r = false → F' = F ∧ T' = T ∧ ∃ R : Nat → Bool, R a.toNat = true ∧ (∀ j, j < m → R (T j).toNat = true → R (othF (g (Q j).toNat) (T j)).toNat = true) ∧ ∀ v : Nat, R v = true → (v : Int) ≠ a → (v : Int) ≠ b → F v = 0

open Classical in
theorem moved_no {N k nb m : Nat} {g : Nat → T_Bar} {F T Q td V : Nat → Int} {a b : Int} {tn : Nat} (hp : PInv N k nb m g F T Q) (h : BInv N m g F T Q td V a b tn) (hz : BZero F td b tn) (hc : BClo m g T Q td tn 0 tn) :
    Moved N k nb m g F T Q a b F T false := by
  refine ⟨hp, (fun e => by cases e), fun _ => ⟨rfl, rfl, fun v => decide (∃ s, s < tn ∧ td s = v), ?_, fun j hj hR => ?_, fun v hR h1 h2 => ?_⟩⟩
  · have hn := h.n1
    have := h.rng 0 (by omega)
    rw [h.td0] at this
    exact decide_eq_true ⟨0, by omega, by rw [h.td0]; omega⟩
  · obtain ⟨s, h1, h2⟩ := of_decide_eq_true hR
    have hT : 0 ≤ T j := by
      have hb := hp.bars (Q j).toNat (by have := hp.q j hj; omega)
      rcases hp.t j hj with e | e <;> rw [e] <;> omega
    have hTs : T j = td s := by omega
    obtain ⟨s', h3, h4⟩ := hc s j (.inl ⟨h1, hj⟩) h1 hTs
    refine decide_eq_true ⟨s', h3, ?_⟩
    have := h.rng s' h3
    rw [hTs, ← h4]; omega
  · obtain ⟨s, h3, h4⟩ := of_decide_eq_true hR
    have hs1 : 1 ≤ s := by
      cases s with
      | zero => exact absurd (by rw [← h4, h.td0]) h1
      | succ s => omega
    rcases hz s hs1 h3 with e | e
    · exact absurd (by rw [← h4, e]) h2
    · rw [h4] at e; simpa using e

theorem moved_yes {N k nb m : Nat} {g : Nat → T_Bar} {F T Q td V T' : Nat → Int} {a b v : Int} {s : Nat} (hp : PInv N k nb m g F T Q) (ha : 0 ≤ a ∧ a < N) (hb : 0 ≤ b ∧ b < N) (hab : a ≠ b) (hv : 0 ≤ v ∧ v < N) (hva : v ≠ a) (hvb : v ≠ b) (hF : F v.toNat ≠ 0)
    (ht : TInv m g T Q td V T' v s) (hs : td s = a) :
    Moved N k nb m g F T Q a b (fun x => if x = a.toNat then (if x = v.toNat then F x - 1 else F x) + 1 else (if x = v.toNat then F x - 1 else F x)) T' true := by
  refine ⟨⟨hp.bars, hp.q, ht.t, fun x hx => ?_, fun x hx => ?_⟩, fun _ => ⟨?_, ?_⟩, (fun e => by cases e)⟩
  · have h1 := hp.f0 x hx
    show 0 ≤ (if x = a.toNat then (if x = v.toNat then F x - 1 else F x) + 1 else (if x = v.toNat then F x - 1 else F x))
    by_cases e : x = v.toNat
    · rw [← e] at hF
      rw [if_neg (show ¬ x = a.toNat by omega), if_pos e]; omega
    · by_cases e' : x = a.toNat
      · rw [if_pos e', if_neg e]; omega
      · rw [if_neg e', if_neg e]; omega
  · have h1 := hp.sum x hx
    have h2 := ht.cnt x
    rw [hs] at h2
    show (if x = a.toNat then (if x = v.toNat then F x - 1 else F x) + 1 else (if x = v.toNat then F x - 1 else F x)) + tcI T' m x = k
    by_cases e1 : x = a.toNat
    · have e2 : ¬ x = v.toNat := by omega
      have e3 : ¬ v = (x : Int) := by omega
      have e4 : a = (x : Int) := by omega
      rw [if_pos e1, if_neg e2]
      rw [if_neg e3, if_pos e4] at h2
      omega
    · have e4 : ¬ a = (x : Int) := by omega
      rw [if_neg e1]
      rw [if_neg e4] at h2
      by_cases e2 : x = v.toNat
      · have e3 : v = (x : Int) := by omega
        rw [if_pos e2]
        rw [if_pos e3] at h2
        omega
      · have e3 : ¬ v = (x : Int) := by omega
        rw [if_neg e2]
        rw [if_neg e3] at h2
        omega
  · show (if a.toNat = a.toNat then (if a.toNat = v.toNat then F a.toNat - 1 else F a.toNat) + 1 else _) = _
    rw [if_pos rfl, if_neg (by omega)]
  · show (if b.toNat = a.toNat then _ else (if b.toNat = v.toNat then F b.toNat - 1 else F b.toNat)) = _
    rw [if_neg (by omega), if_neg (by omega)]

end Go.Proofs.Ytgdbnnmogddkaaa.Mach
