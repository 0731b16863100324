/- The abstract machine: contracts of functions; what a callee sees of its caller's values. Conditions: as in MachD. -/
import Derived.Test.YtgdbnnmogddkaaaMachK
namespace Go.Proofs.Ytgdbnnmogddkaaa.Mach
open Go
set_option linter.unusedVariables false
set_option linter.unusedSimpArgs false

def All : List Prop → Prop
  | [] => True
  | p :: r => p ∧ All r

theorem All_iff (l : List Prop) : All l ↔ ∀ p ∈ l, p := by
  induction l with
  | nil => simp [All]
  | cons p r ih =>
    simp only [All, ih, List.mem_cons]
    exact ⟨fun h q hq => hq.elim (fun e => e ▸ h.1) (h.2 q), fun h => ⟨h p (.inl rfl), fun q hq => h q (.inr hq)⟩⟩

theorem All_app {l r : List Prop} (h : All (l ++ r)) : All l ∧ All r := by
  rw [All_iff] at h
  exact ⟨(All_iff _).2 fun p hp => h p (by simp [hp]), (All_iff _).2 fun p hp => h p (by simp [hp])⟩

/-- The function has a body and is entered when called. -/
def enterable (P : Program) (f : FuncId) : Bool :=
  match P.funcs[f]? with
  | some fn => !(fn.name == "runtime.NumGoroutine") && fn.body.isSome
  | none => false

/-- As 'ow', and nothing borrowed. -/
def fr (X : Nat → Prop) (β : Nat → Option Addr) (H : Hp) (t : Bool) (b : Nat) : Prop := t = true ∨ ow X β H t b

/-- What a call of a function does, its arguments and the objects that it is handed being such: 'n' bounds the numbers of these objects. -/
structure Con (P : Program) (f : FuncId) (n : Nat) (H : Hp) (args : List AV) (H' : Hp) (res : AV) : Prop where
  en : enterable P f = true
  go : ∀ (w : World) (β : Nat → Option Addr) (X : Nat → Prop) (vals : Array Value), (∀ b, X b → b < w.heap.size ∧ ¬ ownOf β H b) →
    HR w β (ow X β H) H → Sep β H → (∀ k, β k ≠ none → k < n) →
    args.length = vals.size → (∀ j, j < args.length → VR w β (ow X β H) (args.getD j anyA) (vals.getD j undef)) →
    Calls P f vals w fun e w' => ∃ v β', e = .returned v ∧ HR w' β' (fr X β' H') H' ∧ Sep β' H' ∧ VR w' β' (fr X β' H') res v ∧
      Ext w (ow X β H) w' (ow X β' H') ∧ (∀ o a, β o = some a → β' o = some a) ∧ (∀ b, ownOf β' H' b → ownOf β H b ∨ w.heap.size ≤ b) ∧ ∀ k, β' k ≠ none → β k ≠ none ∨ (n ≤ k ∧ k < n + 32)

mutual
def ren (r : Nat → Nat) : AV → AV
  | .p v => .p v
  | .ar z o off n => .ar z (r o) off n
  | .pt z o row off => .pt z (r o) row off
  | .ip t cs => .ip t cs
  | .mp o => .mp (r o)
  | .agg cs => .agg (renL r cs)
  | .tup vs => .tup (renL r vs)
  | .cnd g v => .cnd g (ren r v)
def renL (r : Nat → Nat) : List AV → List AV
  | [] => []
  | v :: l => ren r v :: renL r l
end

theorem renL_length (r : Nat → Nat) : ∀ l : List AV, (renL r l).length = l.length
  | [] => by simp [renL]
  | v :: l => by simp [renL, renL_length r l]

theorem renL_getD (r : Nat → Nat) : ∀ (l : List AV) (j : Nat), (renL r l).getD j anyA = ren r (l.getD j anyA)
  | [], j => by simp [renL, ren]
  | v :: l, 0 => by simp [renL]
  | v :: l, j + 1 => by simpa [renL] using renL_getD r l j

def renOb (r : Nat → Nat) (ob : Ob) : Ob := { ob with f := fun i => renL r (ob.f i) }

mutual
def tru : PV → PV
  | .seq _ z n f => .seq true z n (fun i => truL (f i))
  | .any => .any
  | .int k n => .int k n
  | .bool b => .bool b
  | .str s => .str s
  | .nil => .nil
  | .fn f => .fn f
def truL : List PV → List PV
  | [] => []
  | v :: l => tru v :: truL l
end

theorem truL_getD : ∀ (l : List PV) (j : Nat), (truL l).getD j .any = tru (l.getD j .any)
  | [], j => by simp [truL, tru]
  | v :: l, 0 => by simp [truL]
  | v :: l, j + 1 => by simpa [truL] using truL_getD l j

theorem tru_ok {w : World} {own ownc : Bool → Nat → Prop} (hc : ∀ t b, ownc true b → own t b) {v : PV} {x : Value} (h : PR w own v x) : PR w ownc (tru v) x := by
  induction h with
  | any x => simp only [tru]; exact .any x
  | int k n => simp only [tru]; exact .int k n
  | bool b => simp only [tru]; exact .bool b
  | str s => simp only [tru]; exact .str s
  | nil => simp only [tru]; exact .nil
  | seq0 t z f a c => simp only [tru]; exact .seq0 _ _ _ _ _
  | seq t z n f b off c g hb hlt hcc hcell hone _ ih =>
    simp only [tru]
    exact .seq _ _ _ _ b off c g (fun h => hb (hc t b h)) hlt hcc hcell hone (fun i hi j hj => by rw [truL_getD]; exact ih i hi j hj)
  | fn f => simp only [tru]; exact .fn f

def idx (x : Nat) : List Nat → Nat → Option Nat
  | [], _ => none
  | y :: l, k => if x == y then some k else idx x l (k + 1)

def tg (t : Bool) (v : PV) : PV := if t then tru v else v

/-- A cell of a row as pure data. -/
def cellP (t : Bool) (r : List AV) (j : Nat) : PV := match r.getD j anyA with
  | .p v => tg t v
  | _ => .any

/-- What is lent (t = true) or given away (t = false) is pure data. -/
def lendP (t : Bool) (L : Hp) (pass : List Nat) : Nat → AV → PV × List Prop
  | _, .p v => (tg t v, [])
  | 1, .ar z o off n =>
    match idx o pass 0, L.lookup o with
    | none, some ob => (.seq t z n (fun i => tab z fun j => cellP t (ob.f (i + off)) j), [ob.z = z, n + off ≤ ob.n])
    | _, _ => (.any, [])
  | d + 2, .ar z o off n =>
    match idx o pass 0, L.lookup o with
    | none, some ob => (.seq t z n (fun i => tab z fun j => (lendP t L pass (d + 1) ((ob.f (i + off)).getD j anyA)).1),
        [ob.z = z, n + off ≤ ob.n, ∀ i, i < n → All ((tab z fun j => (lendP t L pass (d + 1) ((ob.f (i + off)).getD j anyA)).2).flatten)])
    | _, _ => (.any, [])
  | _, _ => (.any, [])

mutual
/-- A value as the callee sees it, or as it is named anew: what is in 'pass' keeps its place under a new number, all else is pure data. -/
def cvt (t : Bool) (L : Hp) (pass : List Nat) (d : Nat) : AV → AV × List Prop
  | .p v => (.p (tg t v), [])
  | .ar z o off n =>
    match idx o pass 0 with
    | some k => (.ar z k off n, [])
    | none => (.p (lendP t L pass d (.ar z o off n)).1, (lendP t L pass d (.ar z o off n)).2)
  | .pt z o row off =>
    match idx o pass 0 with
    | some k => (.pt z k row off, [])
    | none => (anyA, [])
  | .ip s cs => if t then (anyA, []) else (.ip s cs, [])
  | .mp o =>
    match idx o pass 0 with
    | some k => (.mp k, [])
    | none => (anyA, [])
  | .agg cs => (.agg (cvtL t L pass d cs).1, (cvtL t L pass d cs).2)
  | .tup vs => if t then (anyA, []) else (.tup (cvtL t L pass d vs).1, (cvtL t L pass d vs).2)
  | .cnd _ _ => (anyA, [])
def cvtL (t : Bool) (L : Hp) (pass : List Nat) (d : Nat) : List AV → List AV × List Prop
  | [] => ([], [])
  | v :: l => ((cvt t L pass d v).1 :: (cvtL t L pass d l).1, (cvt t L pass d v).2 ++ (cvtL t L pass d l).2)
end

theorem tg_any (t : Bool) : tg t .any = .any := by cases t <;> simp [tg, tru]

theorem cvtL_length (t : Bool) (L : Hp) (pass : List Nat) (d : Nat) : ∀ l : List AV, (cvtL t L pass d l).1.length = l.length
  | [] => by simp [cvtL]
  | v :: l => by simp [cvtL, cvtL_length t L pass d l]

theorem cvtL_getD (t : Bool) (L : Hp) (pass : List Nat) (d : Nat) : ∀ (l : List AV) (j : Nat), (cvtL t L pass d l).1.getD j anyA = (cvt t L pass d (l.getD j anyA)).1
  | [], j => by simp [cvtL, cvt, tg_any]
  | v :: l, 0 => by simp [cvtL]
  | v :: l, j + 1 => by simpa [cvtL] using cvtL_getD t L pass d l j

theorem cvtL_ob (t : Bool) (L : Hp) (pass : List Nat) (d : Nat) : ∀ (l : List AV) (j : Nat), All (cvtL t L pass d l).2 → All (cvt t L pass d (l.getD j anyA)).2
  | [], j, _ => by simp [cvt, All]
  | v :: l, 0, h => by simp only [cvtL] at h; simpa using (All_app h).1
  | v :: l, j + 1, h => by simp only [cvtL] at h; simpa using cvtL_ob t L pass d l j (All_app h).2

theorem idx_some {x : Nat} : ∀ (l : List Nat) (k m : Nat), idx x l k = some m → k ≤ m ∧ l[m - k]? = some x
  | [], k, m, h => by simp [idx] at h
  | y :: l, k, m, h => by
    simp only [idx] at h
    split at h
    · rename_i e
      have e : x = y := by simpa using e
      cases h
      simp [e]
    · obtain ⟨h1, h2⟩ := idx_some l (k + 1) m h
      refine ⟨by omega, ?_⟩
      have : m - k = (m - (k + 1)) + 1 := by omega
      rw [this]
      simpa using h2

theorem idx_none {x : Nat} : ∀ (l : List Nat) (k : Nat), idx x l k = none → x ∉ l
  | [], k, _ => by simp
  | y :: l, k, h => by
    simp only [idx] at h
    split at h
    · cases h
    · rename_i e
      have e : x ≠ y := by simpa using e
      simp [e, idx_none l (k + 1) h]

/-- The new names for the places of what is passed. -/
def subβ (β : Nat → Option Addr) (pass : List Nat) (k : Nat) : Option Addr := (pass[k]?).bind β

section
variable {X : Nat → Prop} {w : World} {β : Nat → Option Addr} {H L : Hp} {pass : List Nat}

theorem tg_ok {t : Bool} {own ownc : Bool → Nat → Prop} (hc : ∀ t b, ownc t b → own t b) (hc' : ∀ t b, ownc true b → own t b) {v : PV} {x : Value} (h : PR w own v x) : PR w ownc (tg t v) x := by
  cases t with
  | true => exact tru_ok hc' h
  | false => exact h.ext (Ext.sub hc)

/-- A row of cells given away or lent is pure data. -/
theorem lend_ok {t : Bool} {ownc : Bool → Nat → Prop} (hH : HR w β (ow X β H) H) (hL : ∀ o ob, L.lookup o = some ob → H.lookup o = some ob)
    (hc : ∀ t b, ownc t b → ow X β H t b) (hc' : ∀ t b, ownc true b → ow X β H t b)
    (hfree : ∀ o ob a, L.lookup o = some ob → idx o pass 0 = none → β o = some a → ¬ ownc t a.block) :
    ∀ (d : Nat) (x : AV) (v : Value), VR w β (ow X β H) x v → All (lendP t L pass d x).2 → PR w ownc (lendP t L pass d x).1 v := by
  have pm : ∀ {v : PV} {x : Value}, PR w (ow X β H) v x → PR w ownc (tg t v) x := fun h => tg_ok hc hc' h
  have core : ∀ (z o off n : Nat) (v : Value) (ob : Ob) (f : Nat → List PV), VR w β (ow X β H) (.ar z o off n) v → idx o pass 0 = none → L.lookup o = some ob → ob.z = z → n + off ≤ ob.n →
      (∀ i, i < n → ∀ j, j < z → ∀ u, VR w β (ow X β H) ((ob.f (i + off)).getD j anyA) u → PR w ownc ((f i).getD j .any) u) → PR w ownc (.seq t z n f) v := by
    intro z o off n v ob f hv hi hlo hz hn hf
    cases hv with
    | ar0 _ _ _ a => exact .seq0 _ _ _ _ _
    | ar _ _ _ _ b base c cells elem fr hβ hh hsz hc' =>
      by_cases hn0 : n = 0
      · subst hn0; exact .seq0 _ _ _ _ _
      rcases hH o ob (hL _ _ hlo) with h | ⟨b', base', cells', elem', h1, h2, h3⟩ | ⟨_, _, b', es, ck, h1, h2, _⟩
      rotate_left 2
      · rw [hβ] at h1; cases h1; rw [hh] at h2; cases h2
      · rw [h.1] at hβ; cases hβ
      rw [hβ] at h1
      cases h1
      have hcell : ∀ i, i < n → ∀ j, j < z → ∃ u, w.cell? ⟨b, base + off * z + (i * z + j), none⟩ = some u ∧ One u ∧ VR w β (ow X β H) ((ob.f (i + off)).getD j anyA) u := by
        intro i hi' j hj
        obtain ⟨u, g1, g2, g3⟩ := h3 (i + off) (by omega) j (by omega)
        refine ⟨u, ?_, g2, g3⟩
        rw [hz] at g1
        have e : base + off * z + (i * z + j) = base + ((i + off) * z + j) := by rw [Nat.add_mul]; omega
        rw [e]
        simp [World.cell?, h2, g1]
      refine .seq t z n f b (base + off * z) c (fun i j => (w.cell? ⟨b, base + off * z + (i * z + j), none⟩).getD undef) (hfree o ob _ hlo hi hβ) (Array.getElem?_eq_some_iff.1 hh).1 hc' (fun i hi' j hj => ?_) (fun i hi' j hj => ?_) (fun i hi' j hj => ?_)
      · obtain ⟨u, g1, _, _⟩ := hcell i hi' j hj
        rw [g1]; rfl
      · obtain ⟨u, g1, g2, _⟩ := hcell i hi' j hj
        rw [g1]; exact g2
      · obtain ⟨u, g1, _, g3⟩ := hcell i hi' j hj
        rw [g1]; exact hf i hi' j hj u g3
  intro d
  induction d with
  | zero =>
    intro x v hv _
    cases x <;> simp only [lendP] <;> first | exact .any _ | (cases hv; rename_i h; exact pm h)
  | succ d ih =>
    intro x v hv hob
    cases x with
    | p u => simp only [lendP]; cases hv; rename_i h; exact pm h
    | ar z o off n =>
      cases d with
      | zero =>
        simp only [lendP] at hob ⊢
        split at hob
        · rename_i ob hi hlo
          obtain ⟨h1, h2, _⟩ := hob
          refine core z o off n v ob _ hv hi hlo h1 h2 (fun i hi' j hj u hu => ?_)
          rw [tab_getD _ _ _ _ hj]
          unfold cellP
          split
          · rename_i v' hv'
            rw [hv'] at hu
            cases hu; rename_i h; exact pm h
          · exact .any _
        · exact .any _
      | succ d =>
        simp only [lendP] at hob ⊢
        split at hob
        · rename_i ob hi hlo
          obtain ⟨h1, h2, h3, _⟩ := hob
          refine core z o off n v ob _ hv hi hlo h1 h2 (fun i hi' j hj u hu => ?_)
          rw [tab_getD _ _ _ _ hj]
          refine ih _ u hu ?_
          have h4 := h3 i hi'
          rw [All_iff] at h4 ⊢
          intro p hp
          refine h4 p (List.mem_flatten.2 ⟨_, ?_, hp⟩)
          have := tab_getElem? z (fun j => (lendP t L pass (d + 1) ((ob.f (i + off)).getD j anyA)).2) j hj
          exact List.mem_of_getElem? this
        · exact .any _
    | _ => simp only [lendP]; exact .any _

/-- A value as the callee sees it. -/
theorem cvt_ok {t : Bool} {ownc : Bool → Nat → Prop} (hH : HR w β (ow X β H) H) (hL : ∀ o ob, L.lookup o = some ob → H.lookup o = some ob)
    (hc : ∀ t b, ownc t b → ow X β H t b) (hc' : ∀ t b, ownc true b → ow X β H t b)
    (hfree : ∀ o ob a, L.lookup o = some ob → idx o pass 0 = none → β o = some a → ¬ ownc t a.block) (d : Nat) :
    ∀ (x : AV) (v : Value), VR w β (ow X β H) x v → All (cvt t L pass d x).2 → VR w (subβ β pass) ownc (cvt t L pass d x).1 v := by
  have sub : ∀ {o k : Nat} {a : Addr}, idx o pass 0 = some k → β o = some a → subβ β pass k = some a := by
    intro o k a h hβ
    obtain ⟨_, h2⟩ := idx_some pass 0 k h
    simp only [Nat.sub_zero] at h2
    simp [subβ, h2, hβ]
  intro x v hv
  induction hv with
  | p v x h => intro _; simp only [cvt]; exact .p _ _ (tg_ok hc hc' h)
  | ar0 z o off a =>
    intro hob
    simp only [cvt] at hob ⊢
    split
    · exact .ar0 _ _ _ _
    · rename_i hi
      rw [hi] at hob
      exact .p _ _ (lend_ok hH hL hc hc' hfree d _ _ (.ar0 _ _ _ _) hob)
  | ar z o off n b base c cells elem fr hβ hh hsz hcc =>
    intro hob
    simp only [cvt] at hob ⊢
    split
    · rename_i k hi
      exact .ar _ _ _ _ b base c cells elem fr (sub hi hβ) hh hsz hcc
    · rename_i hi
      rw [hi] at hob
      exact .p _ _ (lend_ok hH hL hc hc' hfree d _ _ (.ar _ _ _ _ b base c cells elem fr hβ hh hsz hcc) hob)
  | pt z o row off b base hβ =>
    intro hob
    simp only [cvt]
    split
    · rename_i k hi
      exact .pt _ _ _ _ b base (sub hi hβ)
    · exact .any _
  | ip s cs b off g hb hlt hcell hone hp =>
    intro _
    simp only [cvt]
    split
    · exact .any _
    · exact .ip s cs b off g (fun h => hb (hc s b h)) hlt hcell hone (fun j hj => (hp j hj).ext (Ext.sub hc))
  | mp o b hβ hm =>
    intro hob
    simp only [cvt]
    split
    · rename_i k hi
      exact .mp _ b (sub hi hβ) hm
    · exact .any _
  | agg cs vs hl hone h ih =>
    intro hob
    simp only [cvt] at hob ⊢
    refine .agg _ _ (by rw [cvtL_length]; exact hl) (fun j hj => hone j (by rw [cvtL_length] at hj; exact hj)) (fun j hj => ?_)
    rw [cvtL_getD]
    exact ih j (by rw [cvtL_length] at hj; exact hj) (cvtL_ob t L pass d cs j hob)
  | tup cs vs hl h ih =>
    intro hob
    simp only [cvt] at hob ⊢
    split
    · exact .any _
    · rename_i ht
      rw [if_neg ht] at hob
      refine .tup _ _ (by simp only [cvtL_length]; exact hl) (fun j hj => ?_)
      simp only [cvtL_length] at hj
      simp only [cvtL_getD]
      exact ih j hj (cvtL_ob t L pass d cs j hob)
  | cnd g v x _ _ _ => intro _; simp only [cvt]; exact .any _

/-- Names back. -/
theorem VR.ren {βc β' : Nat → Option Addr} {ownc own' : Bool → Nat → Prop} {r : Nat → Nat} (hβ : ∀ k a, βc k = some a → β' (r k) = some a) (hown : ∀ t b, own' t b → ownc t b) {x : AV} {v : Value}
    (h : VR w βc ownc x v) : VR w β' own' (ren r x) v := by
  induction h with
  | p v x h => simp only [Mach.ren]; exact .p _ _ (h.ext (Ext.sub hown))
  | ar0 z o off a => simp only [Mach.ren]; exact .ar0 _ _ _ _
  | ar z o off n b base c cells elem fr hb hh hsz hc => simp only [Mach.ren]; exact .ar _ _ _ _ b base c cells elem fr (hβ _ _ hb) hh hsz hc
  | pt z o row off b base hb => simp only [Mach.ren]; exact .pt _ _ _ _ b base (hβ _ _ hb)
  | ip s cs b off g hb hlt hcell hone hp => simp only [Mach.ren]; exact .ip s cs b off g (fun h => hb (hown s b h)) hlt hcell hone (fun j hj => (hp j hj).ext (Ext.sub hown))
  | mp o b hb hm => simp only [Mach.ren]; exact .mp _ b (hβ _ _ hb) hm
  | agg cs vs hl hone h ih =>
    simp only [Mach.ren]
    refine .agg _ _ (by rw [renL_length]; exact hl) (fun j hj => hone j (by rw [renL_length] at hj; exact hj)) (fun j hj => ?_)
    rw [renL_getD]
    exact ih j (by rw [renL_length] at hj; exact hj)
  | tup cs vs hl h ih =>
    simp only [Mach.ren]
    refine .tup _ _ (by rw [renL_length]; exact hl) (fun j hj => ?_)
    rw [renL_getD]
    exact ih j (by rw [renL_length] at hj; exact hj)
  | cnd g v x _ h' ih => simp only [Mach.ren]; exact .cnd g _ x ih h'

end
end Go.Proofs.Ytgdbnnmogddkaaa.Mach
