/- The abstract machine: changes of the abstract heap (a new object, a store, an append), and what they do to the relation with the model's memory. No conditions beyond those of each lemma. -/
import Derived.Test.YtgdbnnmogddkaaaMachA
namespace Go.Proofs.Ytgdbnnmogddkaaa.Mach
open Go

def hdel (k : Nat) : Hp → Hp
  | [] => []
  | (j, x) :: r => if k = j then hdel k r else (j, x) :: hdel k r

def hput (k : Nat) (ob : Ob) (H : Hp) : Hp := (k, ob) :: hdel k H

theorem lookup_hdel (k j : Nat) (H : Hp) : (hdel k H).lookup j = if j = k then none else H.lookup j := by
  induction H with
  | nil => simp [hdel]
  | cons e r ih =>
    obtain ⟨i, x⟩ := e
    simp only [hdel]
    by_cases hki : k = i
    · subst hki
      simp only [if_true, ih]
      by_cases hj : j = k
      · simp [hj]
      · have : (j == k) = false := by simpa using hj
        simp [hj, List.lookup_cons, this]
    · simp only [hki, if_false, List.lookup_cons, ih]
      by_cases hji : j = i
      · subst hji; simp [Ne.symm hki]
      · have : (j == i) = false := by simpa using hji
        simp [this]

theorem lookup_hput (k j : Nat) (ob : Ob) (H : Hp) : (hput k ob H).lookup j = if j = k then some ob else H.lookup j := by
  simp only [hput, List.lookup_cons, lookup_hdel]
  by_cases h : j = k
  · subst h; simp
  · have : (j == k) = false := by simpa using h
    simp [this, h]

def upd (β : Nat → Option Addr) (k : Nat) (a : Addr) (j : Nat) : Option Addr := if j = k then some a else β j

theorem ownOf_sub {β : Nat → Option Addr} {H H0 : Hp} (hsub : ∀ j x, H0.lookup j = some x → H.lookup j = some x) {b : Nat} (h : ownOf β H0 b) : ownOf β H b := by
  obtain ⟨o, ob, a, h1, h2, h3⟩ := h
  exact ⟨o, ob, a, hsub _ _ h1, h2, h3⟩

theorem ow_sub {X : Nat → Prop} {β : Nat → Option Addr} {H H0 : Hp} (hsub : ∀ j x, H0.lookup j = some x → H.lookup j = some x) {t : Bool} {b : Nat} (h : ow X β H0 t b) : ow X β H t b :=
  h.imp (ownOf_sub hsub) id

theorem Ext.sub {w : World} {own own' : Bool → Nat → Prop} (h : ∀ t b, own' t b → own t b) : Ext w own w own' :=
  ⟨rfl, rfl, rfl, Nat.le_refl _, fun _ _ _ _ => rfl, fun t b _ h' => h t b h', fun _ c e f h => ⟨c, e, f, h, Nat.le_refl _⟩, fun _ es ck h => ⟨es, ck, h⟩⟩

/-- Fewer objects. -/
theorem HR.sub {w : World} {X : Nat → Prop} {β : Nat → Option Addr} {H H0 : Hp} (hH : HR w β (ow X β H) H) (hsub : ∀ j x, H0.lookup j = some x → H.lookup j = some x) :
    HR w β (ow X β H0) H0 := by
  intro o ob ho
  rcases hH o ob (hsub _ _ ho) with h | ⟨b, base, cells, elem, h1, h2, h3⟩ | h
  · exact .inl h
  · refine .inr (.inl ⟨b, base, cells, elem, h1, h2, fun i hi j hj => ?_⟩)
    obtain ⟨v, hv, h1', h2'⟩ := h3 i hi j hj
    exact ⟨v, hv, h1', h2'.ext (Ext.sub fun t b => ow_sub hsub) (fun _ _ h => h)⟩
  · exact .inr (.inr h)

theorem Sep.sub {β : Nat → Option Addr} {H H0 : Hp} (hS : Sep β H) (hsub : ∀ j x, H0.lookup j = some x → H.lookup j = some x) : Sep β H0 :=
  fun o o' ob ob' a a' h1 h2 h3 h4 h5 => hS o o' ob ob' a a' (hsub _ _ h1) (hsub _ _ h2) h3 h4 h5

structure Placed (X : Nat → Prop) (w : World) (β : Nat → Option Addr) (H : Hp) (w' : World) (β' : Nat → Option Addr) (H' : Hp) (k : Nat) : Prop where
  hr : HR w' β' (ow X β' H') H'
  sep : Sep β' H'
  ext : Ext w (ow X β H) w' (ow X β' H')
  mono : ∀ o a, β o = some a → β' o = some a
  dom : ∀ j, β' j ≠ none → β j ≠ none ∨ j = k
  own : ∀ b, ownOf β' H' b → ownOf β H b ∨ w.heap.size ≤ b

/-- An object is laid, or laid anew, in block b. -/
theorem place {X : Nat → Prop} {w w' : World} {β : Nat → Option Addr} {H H0 : Hp} {k b base : Nat} {ob : Ob} {cells : Array Value} {elem : TypeId}
    (hH : HR w β (ow X β H) H) (hS : Sep β H)
    (hsub : ∀ j x, H0.lookup j = some x → H.lookup j = some x) (hk : H0.lookup k = none)
    (hβ : β k = none ∨ β k = some ⟨b, base, none⟩)
    (hos : w'.os = w.os) (htape : w'.tape = w.tape) (hout : w'.output = w.output) (hsize : w.heap.size ≤ w'.heap.size)
    (hoth : ∀ c, c < w.heap.size → c ≠ b → w'.heap[c]? = w.heap[c]?)
    (hb : w'.heap[b]? = some (.cells cells elem (0, 0)))
    (hfree : ∀ j x a, H0.lookup j = some x → β j = some a → a.block ≠ b)
    (hown : b < w.heap.size → ownOf β H b ∧ ∃ c0 e0 f0, w.heap[b]? = some (.cells c0 e0 f0) ∧ c0.size ≤ cells.size)
    (hcells : ∀ i, i < ob.n → ∀ j, j < ob.z → ∃ v, cells[base + (i * ob.z + j)]? = some v ∧ One v ∧ VR w β (ow X β H) ((ob.f i).getD j anyA) v) :
    Placed X w β H w' (upd β k ⟨b, base, none⟩) (hput k ob H0) k := by
  have mono : ∀ o a, β o = some a → upd β k ⟨b, base, none⟩ o = some a := by
    intro o a ho
    unfold upd
    split
    · rename_i hok; subst hok; rcases hβ with h | h
      · rw [h] at ho; cases ho
      · rw [← ho, h]
    · exact ho
  have own' : ∀ c, ownOf (upd β k ⟨b, base, none⟩) (hput k ob H0) c → c = b ∨ (ownOf β H c) := by
    rintro c ⟨o, x, a, h1, h2, h3⟩
    rw [lookup_hput] at h1
    unfold upd at h2
    by_cases hok : o = k
    · subst hok
      simp only [if_true, Option.some.injEq] at h2
      subst h2
      exact .inl h3.symm
    · simp only [hok, if_false] at h1 h2
      exact .inr ⟨o, x, a, hsub _ _ h1, h2, h3⟩
  have ext : Ext w (ow X β H) w' (ow X (upd β k ⟨b, base, none⟩) (hput k ob H0)) := by
    refine ⟨hos, htape, hout, hsize, fun t c hc hn => ?_, fun t c hc ho => ?_, fun c cs e f hc => ?_, fun c es1 ck1 hc => ?_⟩
    · refine hoth c hc (fun he => ?_)
      subst he
      exact hn (.inl (hown hc).1)
    · rcases ho with ho | ho
      · rcases own' c ho with h | h
        · subst h; exact .inl (hown hc).1
        · exact .inl h
      · exact .inr ho
    · have hlt : c < w.heap.size := (Array.getElem?_eq_some_iff.1 hc).1
      by_cases hcb : c = b
      · subst hcb
        obtain ⟨c0, e0, f0, h1, h2⟩ := (hown hlt).2
        rw [hc] at h1
        cases h1
        exact ⟨cells, elem, _, hb, h2⟩
      · exact ⟨cs, e, f, by rw [hoth c hlt hcb]; exact hc, Nat.le_refl _⟩
    · have hlt : c < w.heap.size := (Array.getElem?_eq_some_iff.1 hc).1
      by_cases hcb : c = b
      · subst hcb
        obtain ⟨c0, e0, f0, h1, h2⟩ := (hown hlt).2
        rw [hc] at h1
        cases h1
      · exact ⟨es1, ck1, by rw [hoth c hlt hcb]; exact hc⟩
  refine ⟨?_, ?_, ext, mono, ?_, ?_⟩
  · intro o x ho
    rw [lookup_hput] at ho
    by_cases hok : o = k
    · subst hok
      simp only [if_true, Option.some.injEq] at ho
      subst ho
      refine .inr (.inl ⟨b, base, cells, elem, by simp [upd], hb, fun i hi j hj => ?_⟩)
      obtain ⟨v, h1, h2, h3⟩ := hcells i hi j hj
      exact ⟨v, h1, h2, h3.ext ext mono⟩
    · simp only [hok, if_false] at ho
      rcases hH o x (hsub _ _ ho) with h | ⟨c, base', cells', elem', h1, h2, h3⟩ | ⟨hz, hbx, c, es, ck, h1, h2, h3⟩
      · exact .inl ⟨by simp [upd, hok, h.1], h.2⟩
      · have hcb : c ≠ b := fun he => hfree o x _ ho h1 he
        have hlt : c < w.heap.size := (Array.getElem?_eq_some_iff.1 h2).1
        refine .inr (.inl ⟨c, base', cells', elem', mono _ _ h1, by rw [hoth c hlt hcb]; exact h2, fun i hi j hj => ?_⟩)
        obtain ⟨v, h4, h5, h6⟩ := h3 i hi j hj
        exact ⟨v, h4, h5, h6.ext ext mono⟩
      · have hcb : c ≠ b := fun he => hfree o x _ ho h1 he
        have hlt : c < w.heap.size := (Array.getElem?_eq_some_iff.1 h2).1
        exact .inr (.inr ⟨hz, hbx, c, es, ck, mono _ _ h1, by rw [hoth c hlt hcb]; exact h2, h3⟩)
  · intro o o' x x' a a' h1 h2 h3 h4 h5
    rw [lookup_hput] at h1 h2
    unfold upd at h3 h4
    by_cases ho : o = k
    · by_cases ho' : o' = k
      · rw [ho, ho']
      · simp only [ho, if_true, Option.some.injEq] at h3
        simp only [ho', if_false] at h2 h4
        subst h3
        exact absurd h5.symm (hfree o' x' a' h2 h4)
    · by_cases ho' : o' = k
      · simp only [ho', if_true, Option.some.injEq] at h4
        simp only [ho, if_false] at h1 h3
        subst h4
        exact absurd h5 (hfree o x a h1 h3)
      · simp only [ho, ho', if_false] at h1 h2 h3 h4
        exact hS o o' x x' a a' (hsub _ _ h1) (hsub _ _ h2) h3 h4 h5
  · intro j hj
    unfold upd at hj
    split at hj
    · rename_i h; exact .inr h
    · exact .inl hj
  · intro c hc
    rcases own' c hc with h | h
    · subst h
      by_cases hlt : c < w.heap.size
      · exact .inl (hown hlt).1
      · exact .inr (by omega)
    · exact .inl h

/-- The same for a map. -/
theorem place_map {X : Nat → Prop} {w w' : World} {β : Nat → Option Addr} {H H0 : Hp} {k b : Nat} {ob : Ob} {es : Array MapEntry} {clock : Nat}
    (hH : HR w β (ow X β H) H) (hS : Sep β H)
    (hsub : ∀ j x, H0.lookup j = some x → H.lookup j = some x) (hk : H0.lookup k = none)
    (hβ : β k = none ∨ β k = some ⟨b, 0, none⟩)
    (hos : w'.os = w.os) (htape : w'.tape = w.tape) (hout : w'.output = w.output) (hsize : w.heap.size ≤ w'.heap.size)
    (hoth : ∀ c, c < w.heap.size → c ≠ b → w'.heap[c]? = w.heap[c]?)
    (hb : w'.heap[b]? = some (.map es clock))
    (hfree : ∀ j x a, H0.lookup j = some x → β j = some a → a.block ≠ b)
    (hown : b < w.heap.size → ownOf β H b ∧ ∃ es0 ck0, w.heap[b]? = some (.map es0 ck0))
    (hz : ob.z = 0) (hbx : ob.bx = false) (hsz : es.size = ob.n)
    (hrows : ∃ K V : Nat → Int, ∀ i, i < ob.n → ob.f i = [.p (.int .i64 (K i)), .p (.int .i64 (V i))] ∧ ∃ e, es[i]? = some e ∧ e.key = .int .i64 (K i) ∧ e.val = .int .i64 (V i)) :
    Placed X w β H w' (upd β k ⟨b, 0, none⟩) (hput k ob H0) k := by
  have mono : ∀ o a, β o = some a → upd β k ⟨b, 0, none⟩ o = some a := by
    intro o a ho
    unfold upd
    split
    · rename_i hok; subst hok; rcases hβ with h | h
      · rw [h] at ho; cases ho
      · rw [← ho, h]
    · exact ho
  have own' : ∀ c, ownOf (upd β k ⟨b, 0, none⟩) (hput k ob H0) c → c = b ∨ (ownOf β H c) := by
    rintro c ⟨o, x, a, h1, h2, h3⟩
    rw [lookup_hput] at h1
    unfold upd at h2
    by_cases hok : o = k
    · subst hok
      simp only [if_true, Option.some.injEq] at h2
      subst h2
      exact .inl h3.symm
    · simp only [hok, if_false] at h1 h2
      exact .inr ⟨o, x, a, hsub _ _ h1, h2, h3⟩
  have ext : Ext w (ow X β H) w' (ow X (upd β k ⟨b, 0, none⟩) (hput k ob H0)) := by
    refine ⟨hos, htape, hout, hsize, fun t c hc hn => ?_, fun t c hc ho => ?_, fun c cs e f hc => ?_, fun c es1 ck1 hc => ?_⟩
    · refine hoth c hc (fun he => ?_)
      subst he
      exact hn (.inl (hown hc).1)
    · rcases ho with ho | ho
      · rcases own' c ho with h | h
        · subst h; exact .inl (hown hc).1
        · exact .inl h
      · exact .inr ho
    · have hlt : c < w.heap.size := (Array.getElem?_eq_some_iff.1 hc).1
      by_cases hcb : c = b
      · subst hcb
        obtain ⟨es0, ck0, h1⟩ := (hown hlt).2
        rw [hc] at h1
        cases h1
      · exact ⟨cs, e, f, by rw [hoth c hlt hcb]; exact hc, Nat.le_refl _⟩
    · have hlt : c < w.heap.size := (Array.getElem?_eq_some_iff.1 hc).1
      by_cases hcb : c = b
      · subst hcb
        exact ⟨es, clock, hb⟩
      · exact ⟨es1, ck1, by rw [hoth c hlt hcb]; exact hc⟩
  refine ⟨?_, ?_, ext, mono, ?_, ?_⟩
  · intro o x ho
    rw [lookup_hput] at ho
    by_cases hok : o = k
    · subst hok
      simp only [if_true, Option.some.injEq] at ho
      subst ho
      exact .inr (.inr ⟨hz, hbx, b, es, clock, by simp [upd], hb, hsz, hrows⟩)
    · simp only [hok, if_false] at ho
      rcases hH o x (hsub _ _ ho) with h | ⟨c, base', cells', elem', h1, h2, h3⟩ | ⟨hz', hbx', c, es', ck, h1, h2, h3⟩
      · exact .inl ⟨by simp [upd, hok, h.1], h.2⟩
      · have hcb : c ≠ b := fun he => hfree o x _ ho h1 he
        have hlt : c < w.heap.size := (Array.getElem?_eq_some_iff.1 h2).1
        refine .inr (.inl ⟨c, base', cells', elem', mono _ _ h1, by rw [hoth c hlt hcb]; exact h2, fun i hi j hj => ?_⟩)
        obtain ⟨v, h4, h5, h6⟩ := h3 i hi j hj
        exact ⟨v, h4, h5, h6.ext ext mono⟩
      · have hcb : c ≠ b := fun he => hfree o x _ ho h1 he
        have hlt : c < w.heap.size := (Array.getElem?_eq_some_iff.1 h2).1
        exact .inr (.inr ⟨hz', hbx', c, es', ck, mono _ _ h1, by rw [hoth c hlt hcb]; exact h2, h3⟩)
  · intro o o' x x' a a' h1 h2 h3 h4 h5
    rw [lookup_hput] at h1 h2
    unfold upd at h3 h4
    by_cases ho : o = k
    · by_cases ho' : o' = k
      · rw [ho, ho']
      · simp only [ho, if_true, Option.some.injEq] at h3
        simp only [ho', if_false] at h2 h4
        subst h3
        exact absurd h5.symm (hfree o' x' a' h2 h4)
    · by_cases ho' : o' = k
      · simp only [ho', if_true, Option.some.injEq] at h4
        simp only [ho, if_false] at h1 h3
        subst h4
        exact absurd h5 (hfree o x a h1 h3)
      · simp only [ho, ho', if_false] at h1 h2 h3 h4
        exact hS o o' x x' a a' (hsub _ _ h1) (hsub _ _ h2) h3 h4 h5
  · intro j hj
    unfold upd at hj
    split at hj
    · rename_i h; exact .inr h
    · exact .inl hj
  · intro c hc
    rcases own' c hc with h | h
    · subst h
      by_cases hlt : c < w.heap.size
      · exact .inl (hown hlt).1
      · exact .inr (by omega)
    · exact .inl h

theorem hdel_hdel (k : Nat) (l : Hp) : hdel k (hdel k l) = hdel k l := by
  induction l with
  | nil => rfl
  | cons e r ih =>
    obtain ⟨i, x⟩ := e
    simp only [hdel]
    split
    · exact ih
    · rename_i hne
      simp only [hdel, hne, if_false, ih]

theorem hput_hdel (k : Nat) (ob : Ob) (H : Hp) : hput k ob (hdel k H) = hput k ob H := by
  unfold hput; rw [hdel_hdel]

theorem upd_self {β : Nat → Option Addr} {k : Nat} {a : Addr} (h : β k = some a) : upd β k a = β := by
  funext j
  unfold upd
  split
  · rename_i e; rw [e, h]
  · rfl

/-- A new object in a new block; some objects may go. -/
theorem place_new {X : Nat → Prop} {w w' : World} {β : Nat → Option Addr} {H H0 : Hp} {k : Nat} {ob : Ob} {cells : Array Value} {elem : TypeId}
    (hH : HR w β (ow X β H) H) (hS : Sep β H) (hsub : ∀ j x, H0.lookup j = some x → H.lookup j = some x) (hβ : β k = none)
    (hos : w'.os = w.os) (htape : w'.tape = w.tape) (hout : w'.output = w.output) (hheap : w'.heap = w.heap.push (.cells cells elem))
    (hcells : ∀ i, i < ob.n → ∀ j, j < ob.z → ∃ v, cells[i * ob.z + j]? = some v ∧ One v ∧ VR w β (ow X β H) ((ob.f i).getD j anyA) v) :
    Placed X w β H w' (upd β k ⟨w.heap.size, 0, none⟩) (hput k ob H0) k := by
  have hs : ∀ j x, (hdel k H0).lookup j = some x → H.lookup j = some x := by
    intro j x h
    rw [lookup_hdel] at h
    split at h
    · cases h
    · exact hsub _ _ h
  rw [← hput_hdel k ob H0]
  refine place (cells := cells) (elem := elem) hH hS hs (by rw [lookup_hdel]; simp) (.inl hβ) hos htape hout (by rw [hheap]; simp) (fun c hc _ => ?_) (by rw [hheap]; simp) (fun j x a h1 h2 he => ?_) (fun h => absurd h (Nat.lt_irrefl _)) (by simpa using hcells)
  · rw [hheap, Array.getElem?_push, if_neg (Nat.ne_of_lt hc)]
  · have hlt : a.block < w.heap.size := by
      rcases hH j x (hs _ _ h1) with h | ⟨b, base, cs, e, h3, h4, _⟩ | ⟨_, _, b, es, ck, h3, h4, _⟩
      · rw [h.1] at h2; cases h2
      · rw [h2] at h3; cases h3; exact (Array.getElem?_eq_some_iff.1 h4).1
      · rw [h2] at h3; cases h3; exact (Array.getElem?_eq_some_iff.1 h4).1
    omega

end Go.Proofs.Ytgdbnnmogddkaaa.Mach
