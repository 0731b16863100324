/- The abstract machine: a state seen anew (names, what is forgotten, what is given away), the end of a call, and how a contract is proved. Conditions: as in MachD. -/
import Derived.Test.YtgdbnnmogddkaaaMachQ
namespace Go.Proofs.Ytgdbnnmogddkaaa.Mach
open Go
set_option linter.unusedVariables false
set_option linter.unusedSimpArgs false

def wkP : PV → PV → List Prop
  | .int k n, .int k' n' => if ikEq k k' then [n = n'] else [False]
  | .bool b, .bool b' => [b = b']
  | .str s, .str s' => [s = s']
  | .nil, .nil => []
  | .nil, .seq _ _ n' _ => [n' = 0]
  | .seq t z n f, .seq t' z' n' f' => if t == t' && z == z' then [n = n', ∀ i, i < n → f i = f' i] else [False]
  | .fn f, .fn f' => [f = f']
  | _, .any => []
  | _, _ => [False]

mutual
def wk : AV → AV → List Prop
  | .p v, .p v' => wkP v v'
  | .p v, .ar _ _ _ n' => match v with
    | .nil => [n' = 0]
    | _ => [False]
  | .ar z o off n, .ar z' o' off' n' => if z == z' && o == o' then [off = off', n = n'] else [False]
  | .pt z o row off, .pt z' o' row' off' => if z == z' && o == o' && off == off' then [row = row'] else [False]
  | .ip t cs, .ip t' cs' => [t = t', cs = cs']
  | .mp o, .mp o' => if o == o' then [] else [False]
  | .agg cs, .agg cs' => wkL cs cs'
  | .tup cs, .tup cs' => wkL cs cs'
  | .cnd g v, .cnd g' v' => [g = g', AV.cnd g v = .cnd g v']
  | _, .p .any => []
  | _, _ => [False]
def wkL : List AV → List AV → List Prop
  | [], [] => []
  | v :: l, v' :: l' => wk v v' ++ wkL l l'
  | _, _ => [False]
end

theorem wkL_length : ∀ (l l' : List AV), All (wkL l l') → l.length = l'.length
  | [], [], _ => rfl
  | v :: l, v' :: l', h => by simp only [wkL] at h; simp [wkL_length l l' (All_app h).2]
  | [], _ :: _, h => by simp [wkL, All] at h
  | _ :: _, [], h => by simp [wkL, All] at h

theorem wkL_getD : ∀ (l l' : List AV) (j : Nat), All (wkL l l') → j < l.length → All (wk (l.getD j anyA) (l'.getD j anyA))
  | [], _, j, _, hj => by simp at hj
  | v :: l, v' :: l', 0, h, _ => by simp only [wkL] at h; simpa using (All_app h).1
  | v :: l, v' :: l', j + 1, h, hj => by simp only [wkL] at h; simpa using wkL_getD l l' j (All_app h).2 (by simpa using hj)
  | _ :: _, [], _, h, _ => by simp [wkL, All] at h

theorem seq_ext {w : World} {own : Bool → Nat → Prop} {t : Bool} {z n : Nat} {f f' : Nat → List PV} {x : Value} (h : PR w own (.seq t z n f) x) (hf : ∀ i, i < n → f i = f' i) : PR w own (.seq t z n f') x := by
  cases h with
  | seq0 _ _ _ a c => exact .seq0 _ _ _ _ _
  | seq _ _ _ _ b off c g hb hlt hc hcell hone hp => exact .seq _ _ _ _ b off c g hb hlt hc hcell hone (fun i hi j hj => by rw [← hf i hi]; exact hp i hi j hj)

theorem wkP_ok {w : World} {own : Bool → Nat → Prop} {v v' : PV} {x : Value} (h : PR w own v x) (ho : All (wkP v v')) : PR w own v' x := by
  unfold wkP at ho
  split at ho
  · split at ho
    · rename_i hk
      obtain rfl := ikEq_eq hk
      obtain ⟨rfl, _⟩ := ho; exact h
    · exact ho.1.elim
  · obtain ⟨rfl, _⟩ := ho; exact h
  · obtain ⟨rfl, _⟩ := ho; exact h
  · exact h
  · obtain ⟨rfl, _⟩ := ho; cases h; exact .seq0 _ _ _ _ _
  · split at ho
    · rename_i hz
      simp only [Bool.and_eq_true, beq_iff_eq] at hz
      obtain ⟨rfl, rfl⟩ := hz
      obtain ⟨rfl, hf, _⟩ := ho; exact seq_ext h hf
    · exact ho.1.elim
  · obtain ⟨rfl, _⟩ := ho; exact h
  · exact .any _
  · exact ho.1.elim

theorem wk_ok {w : World} {β : Nat → Option Addr} {own : Bool → Nat → Prop} {v : AV} {x : Value} (h : VR w β own v x) : ∀ v' : AV, All (wk v v') → VR w β own v' x := by
  induction h with
  | p u x hp =>
    intro v' ho
    cases v' <;> simp only [wk] at ho <;> try (exact ho.1.elim)
    · exact .p _ _ (wkP_ok hp ho)
    · split at ho
      · obtain ⟨rfl, _⟩ := ho
        cases hp
        exact .ar0 _ _ _ _
      · exact ho.1.elim
  | ar0 z o off a =>
    intro v' ho
    cases v' with
    | ar z' o' off' n' =>
      simp only [wk] at ho
      split at ho
      · rename_i hz
        simp only [Bool.and_eq_true, beq_iff_eq] at hz
        obtain ⟨rfl, rfl⟩ := hz
        obtain ⟨rfl, rfl, _⟩ := ho
        exact .ar0 _ _ _ _
      · exact ho.1.elim
    | p u => cases u <;> simp only [wk] at ho <;> first | exact .any _ | exact ho.1.elim
    | _ => simp only [wk] at ho; exact ho.1.elim
  | ar z o off n b base c cells elem fr hβ hh hsz hc =>
    intro v' ho
    cases v' with
    | ar z' o' off' n' =>
      simp only [wk] at ho
      split at ho
      · rename_i hz
        simp only [Bool.and_eq_true, beq_iff_eq] at hz
        obtain ⟨rfl, rfl⟩ := hz
        obtain ⟨rfl, rfl, _⟩ := ho
        exact .ar _ _ _ _ b base c cells elem fr hβ hh hsz hc
      · exact ho.1.elim
    | p u => cases u <;> simp only [wk] at ho <;> first | exact .any _ | exact ho.1.elim
    | _ => simp only [wk] at ho; exact ho.1.elim
  | pt z o row off b base hβ =>
    intro v' ho
    cases v' with
    | pt z' o' row' off' =>
      simp only [wk] at ho
      split at ho
      · rename_i hz
        simp only [Bool.and_eq_true, beq_iff_eq] at hz
        obtain ⟨⟨rfl, rfl⟩, rfl⟩ := hz
        obtain ⟨rfl, _⟩ := ho
        exact .pt _ _ _ _ b base hβ
      · exact ho.1.elim
    | p u => cases u <;> simp only [wk] at ho <;> first | exact .any _ | exact ho.1.elim
    | _ => simp only [wk] at ho; exact ho.1.elim
  | ip t cs b off g hb hlt hcell hone hp =>
    intro v' ho
    cases v' with
    | ip t' cs' =>
      simp only [wk] at ho
      obtain ⟨rfl, rfl, _⟩ := ho
      exact .ip t cs b off g hb hlt hcell hone hp
    | p u => cases u <;> simp only [wk] at ho <;> first | exact .any _ | exact ho.1.elim
    | _ => simp only [wk] at ho; exact ho.1.elim
  | mp o b hβ hm =>
    intro v' ho
    cases v' with
    | mp o' =>
      simp only [wk] at ho
      split at ho
      · rename_i hz
        have hz : o = o' := by simpa using hz
        subst hz
        exact .mp _ b hβ hm
      · exact ho.1.elim
    | p u => cases u <;> simp only [wk] at ho <;> first | exact .any _ | exact ho.1.elim
    | _ => simp only [wk] at ho; exact ho.1.elim
  | agg cs vs hl hone h ih =>
    intro v' ho
    cases v' with
    | agg cs' =>
      simp only [wk] at ho
      have hlen := wkL_length _ _ ho
      exact .agg _ _ (by omega) (fun j hj => hone j (by omega)) (fun j hj => ih j (by omega) _ (wkL_getD _ _ j ho (by omega)))
    | p u => cases u <;> simp only [wk] at ho <;> first | exact .any _ | exact ho.1.elim
    | _ => simp only [wk] at ho; exact ho.1.elim
  | tup cs vs hl h ih =>
    intro v' ho
    cases v' with
    | tup cs' =>
      simp only [wk] at ho
      have hlen := wkL_length _ _ ho
      exact .tup _ _ (by omega) (fun j hj => ih j (by omega) _ (wkL_getD _ _ j ho (by omega)))
    | p u => cases u <;> simp only [wk] at ho <;> first | exact .any _ | exact ho.1.elim
    | _ => simp only [wk] at ho; exact ho.1.elim
  | cnd g v x h h' ih =>
    intro v' ho
    cases v' with
    | cnd g' v' =>
      simp only [wk] at ho
      obtain ⟨rfl, he, _⟩ := ho
      rw [← he]
      exact .cnd g v x h h'
    | p u => cases u <;> simp only [wk] at ho <;> first | exact .any _ | exact ho.1.elim
    | _ => simp only [wk] at ho; exact ho.1.elim

/-- The slots seen anew; what is forgotten costs nothing. -/
def cvS (H : Hp) (keep : List Nat) (d : Nat) : List AV → List AV → List Prop
  | _, [] => []
  | [], _ :: _ => [False]
  | s :: l, t :: l' =>
    (match t with
     | .p .any => []
     | _ => (cvt false H keep d s).2 ++ wk (cvt false H keep d s).1 t) ++ cvS H keep d l l'

/-- The objects seen anew. -/
def cvH (H : Hp) (keep : List Nat) (d : Nat) : Hp → List Prop
  | [] => []
  | (k, ob') :: r =>
    (match keep[k]? with
     | some o => (match H.lookup o with
       | some ob =>
         (match ob'.z with
          | 0 => [ob'.n = ob.n, ob.bx = false, ob'.bx = false]
          | _ + 1 => []) ++
         (match ob'.bx with
          | true => [ob.z = ob'.z, ob'.n ≤ ob.n, ob'.n ≤ 1] ++ ((cvtL false H keep d (ob.f 0)).2 ++ wkL (cvtL false H keep d (ob.f 0)).1 (ob'.f 0))
          | false => [ob.z = ob'.z, ob'.n ≤ ob.n, ∀ i, i < ob'.n → All ((cvtL false H keep d (ob.f i)).2) ∧ (cvtL false H keep d (ob.f i)).1 = ob'.f i])
       | none => [False])
     | none => [ob'.n = 0]) ++ cvH H keep d r

def keepB (n : Nat) (keep : List Nat) : Bool := (List.range n).all fun k => keep[k]? == some k

def convOb (n : Nat) (st : St) (keep : List Nat) (d : Nat) (st' : St) : List Prop :=
  (if keepB n keep && nodupB keep && Nat.ble keep.length st'.ctr && Nat.ble n st'.ctr && st'.H.all (fun e => Nat.blt e.1 st'.ctr) then [] else [False]) ++ cvS st.H keep d st.env st'.env ++ cvH st.H keep d st'.H

theorem cvS_ok {H : Hp} {keep : List Nat} {d : Nat} : ∀ (l l' : List AV), All (cvS H keep d l l') → l'.length ≤ l.length ∧ ∀ j, l'.getD j anyA = anyA ∨ (All (cvt false H keep d (l.getD j anyA)).2 ∧ All (wk (cvt false H keep d (l.getD j anyA)).1 (l'.getD j anyA)))
  | l, [], _ => ⟨by simp, fun j => .inl (by simp)⟩
  | [], t :: l', h => by simp [cvS, All] at h
  | s :: l, t :: l', h => by
    simp only [cvS] at h
    obtain ⟨h1, h2⟩ := All_app h
    obtain ⟨g1, g2⟩ := cvS_ok l l' h2
    refine ⟨by simpa using g1, fun j => ?_⟩
    cases j with
    | zero =>
      simp only [List.getD_cons_zero]
      split at h1
      · exact .inl rfl
      · exact .inr (All_app h1)
    | succ j => simpa using g2 j

theorem cvH_ok {H : Hp} {keep : List Nat} {d : Nat} : ∀ (H' : Hp), All (cvH H keep d H') → ∀ k ob', H'.lookup k = some ob' → (keep[k]? = none ∧ ob'.n = 0) ∨ ∃ o ob, keep[k]? = some o ∧ H.lookup o = some ob ∧ ob.z = ob'.z ∧ ob'.n ≤ ob.n ∧
    (∀ i, i < ob'.n → All ((cvtL false H keep d (ob.f i)).2) ∧ ∀ j, (cvtL false H keep d (ob.f i)).1.getD j anyA = (ob'.f i).getD j anyA ∨ All (wk ((cvtL false H keep d (ob.f i)).1.getD j anyA) ((ob'.f i).getD j anyA))) ∧
      (ob'.z = 0 → ob'.n = ob.n ∧ ob'.bx = false ∧ ∀ i, i < ob'.n → (cvtL false H keep d (ob.f i)).1 = ob'.f i)
  | [], _, k, ob', h => by simp at h
  | (j, x) :: r, ha, k, ob', h => by
    simp only [cvH] at ha
    obtain ⟨h1, h2⟩ := All_app ha
    simp only [List.lookup_cons] at h
    by_cases hk : k = j
    · subst hk
      simp only [beq_self_eq_true, Option.some.injEq] at h
      subst h
      split at h1
      · rename_i o hkk
        split at h1
        · rename_i ob hob
          obtain ⟨h0, h1⟩ := All_app h1
          have hz : x.z = 0 → x.n = ob.n ∧ x.bx = false := by
            intro hz
            rw [hz] at h0
            exact ⟨h0.1, h0.2.2.1⟩
          split at h1
          · rename_i hbx
            obtain ⟨⟨g1, g2, g3, _⟩, g5⟩ := All_app h1
            obtain ⟨g6, g7⟩ := All_app g5
            refine .inr ⟨o, ob, hkk, hob, g1, g2, fun i hi => ?_, fun h => by have := (hz h).2; rw [hbx] at this; cases this⟩
            obtain rfl : i = 0 := by omega
            refine ⟨g6, fun j => ?_⟩
            by_cases hj : j < (cvtL false H keep d (ob.f 0)).1.length
            · exact .inr (wkL_getD _ _ j g7 hj)
            · have hl := wkL_length _ _ g7
              left
              rw [List.getD_eq_getElem?_getD, List.getD_eq_getElem?_getD, List.getElem?_eq_none (by omega), List.getElem?_eq_none (by omega)]
          · obtain ⟨g1, g2, g3, _⟩ := h1
            exact .inr ⟨o, ob, hkk, hob, g1, g2, fun i hi => ⟨(g3 i hi).1, fun j => .inl (by rw [(g3 i hi).2])⟩, fun h => ⟨(hz h).1, (hz h).2, fun i hi => (g3 i hi).2⟩⟩
        · exact h1.1.elim
      · rename_i hkk
        exact .inl ⟨hkk, h1.1⟩
    · have : (k == j) = false := by simpa using hk
      rw [this] at h
      exact cvH_ok r h2 k ob' h

section
variable {P : Program} {c : Cx} {f : FuncId} {R : Ending → World → Prop}

/-- The relation, seen anew. -/
theorem Rel.conv {dom : Nat → Prop} {env env' : List AV} {H H' : Hp} {a : Act} {w : World} {β : Nat → Option Addr} {keep : List Nat} {d : Nat} (h : Rel c dom env H a w β)
    (hk : keepB c.n keep = true) (hnd : keep.Nodup) (hS : All (cvS H keep d env env')) (hH : All (cvH H keep d H')) :
    Rel c (fun k => k < keep.length ∨ H'.lookup k ≠ none) env' H' a w (subβ β keep) ∧
      ∀ (x : AV) (v : Value) (x' : AV), VR w β (ow c.X β H) x v → All (cvt false H keep d x).2 → All (wk (cvt false H keep d x).1 x') → VR w (subβ β keep) (ow c.X (subβ β keep) H') x' v := by
  have hh := cvH_ok H' hH
  have cls : ∀ b, ownOf (subβ β keep) H' b → ∃ (k o : Nat) (ob : Ob) (a : Addr), keep[k]? = some o ∧ H.lookup o = some ob ∧ β o = some a ∧ a.block = b := by
    rintro b ⟨k, ob', a, h1, h2, h3⟩
    rcases hh k ob' h1 with ⟨q1, _⟩ | ⟨o, ob, g1, g2, _⟩
    · simp [subβ, q1] at h2
    have : β o = some a := by simpa [subβ, g1] using h2
    exact ⟨k, o, ob, a, g1, g2, this, h3⟩
  have own_own : ∀ b, ownOf (subβ β keep) H' b → ownOf β H b := by
    intro b hb
    obtain ⟨k, o, ob, a, g1, g2, g3, g4⟩ := cls b hb
    exact ⟨o, ob, a, g2, g3, g4⟩
  have hc : ∀ t b, ow c.X (subβ β keep) H' t b → ow c.X β H t b := fun t b h => h.imp (own_own b) id
  have hc' : ∀ t b, ow c.X (subβ β keep) H' true b → ow c.X β H t b := by
    rintro t b (h | ⟨h, _⟩)
    · exact .inl (own_own b h)
    · cases h
  have hfree : ∀ o ob a, H.lookup o = some ob → idx o keep 0 = none → β o = some a → ¬ ow c.X (subβ β keep) H' false a.block := by
    rintro o ob a h1 h2 h3 (h' | ⟨_, h'⟩)
    · obtain ⟨k, o', ob', a', g1, g2, g3, g4⟩ := cls _ h'
      have : o' = o := h.sep o' o ob' ob a' a g2 h1 g3 h3 g4
      subst this
      exact idx_none keep 0 h2 (List.mem_of_getElem? g1)
    · exact (h.xs _ h').2 ⟨o, ob, a, h1, h3, rfl⟩
  have cv := fun (x : AV) (v : Value) (hv : VR w β (ow c.X β H) x v) (hb : All (cvt false H keep d x).2) => cvt_ok (t := false) (L := H) (pass := keep) h.hr (fun _ _ h => h) hc hc' hfree d x v hv hb
  have ext : Ext w (ow c.X β H) w (ow c.X (subβ β keep) H') := Ext.sub hc
  obtain ⟨hl, hs⟩ := cvS_ok env env' hS
  refine ⟨⟨?_, ?_, fun t => ?_, Nat.le_trans hl h.len, h.dfr, fun k hk' => ?_, h.ext.trans ext, fun b hb => ⟨(h.xs b hb).1, fun ho => (h.xs b hb).2 (own_own b ho)⟩, fun b hb => h.own b (own_own b hb), fun k hk' => ?_⟩, ?_⟩
  · intro k ob' hk'
    rcases hh k ob' hk' with ⟨q1, q2⟩ | ⟨o, ob, g1, g2, g3, g4, g5, g6⟩
    · exact .inl ⟨by simp [subβ, q1], q2⟩
    have hβ : subβ β keep k = β o := by simp [subβ, g1]
    rcases h.hr o ob g2 with h' | ⟨b, base, cells, elem, h1, h2, h3⟩ | ⟨m1, m2, b, es, ck, m3, m4, m5, K, V, m6⟩
    rotate_left 2
    · obtain ⟨n1, n2, n3⟩ := g6 (by omega)
      refine .inr (.inr ⟨by omega, n2, b, es, ck, by rw [hβ]; exact m3, m4, by omega, K, V, fun i hi => ⟨?_, (m6 i (by omega)).2⟩⟩)
      rw [← n3 i hi, (m6 i (by omega)).1]
      simp [cvtL, cvt, tg]
    · exact .inl ⟨by rw [hβ]; exact h'.1, by omega⟩
    · refine .inr (.inl ⟨b, base, cells, elem, by rw [hβ]; exact h1, h2, fun i hi j hj => ?_⟩)
      obtain ⟨v, k1, k2, k3⟩ := h3 i (by omega) j (by omega)
      rw [g3] at k1
      refine ⟨v, k1, k2, ?_⟩
      obtain ⟨m1, m2⟩ := g5 i hi
      have hcv := cv _ v k3 (cvtL_ob false H keep d _ j m1)
      rw [← cvtL_getD] at hcv
      rcases m2 j with m2 | m2
      · rw [← m2]; exact hcv
      · exact wk_ok hcv _ m2
  · intro k k' ob ob' a1 a2 h1 h2 h3 h4 h5
    rcases hh k ob h1 with ⟨q1, _⟩ | ⟨o, ob0, g1, g2, _⟩
    · simp [subβ, q1] at h3
    rcases hh k' ob' h2 with ⟨q1, _⟩ | ⟨o', ob0', g1', g2', _⟩
    · simp [subβ, q1] at h4
    have e1 : β o = some a1 := by simpa [subβ, g1] using h3
    have e2 : β o' = some a2 := by simpa [subβ, g1'] using h4
    have := h.sep o o' ob0 ob0' a1 a2 g2 g2' e1 e2 h5
    subst this
    exact nodup_inj hnd g1 g1'
  · rcases hs t with h' | ⟨h1, h2⟩
    · rw [h']; exact .any _
    · exact wk_ok (cv _ _ (h.ev t) h1) _ h2
  · rcases hk' with hk' | hk'
    · left
      by_cases hlt : k < keep.length
      · exact hlt
      · exfalso
        apply hk'
        simp [subβ, List.getElem?_eq_none (Nat.le_of_not_lt hlt)]
    · exact .inr hk'
  · have : keep[k]? = some k := by
      simp only [keepB, List.all_eq_true, List.mem_range] at hk
      simpa using hk k hk'
    rw [← h.init k hk']
    simp [subβ, this]
  · intro x v x' hv h1 h2
    exact wk_ok (cv x v hv h1) x' h2

theorem conv_ok {k : List Item} {st st' : St} (keep : List Nat) (d : Nat) (hob : All (convOb c.n st keep d st')) (hr : Run P c f k st' R) : Run P c f k st R := by
  unfold convOb at hob
  obtain ⟨h12, h3⟩ := All_app hob
  obtain ⟨h1, h2⟩ := All_app h12
  split at h1
  case isFalse => exact h1.1.elim
  rename_i hz
  simp only [Bool.and_eq_true, Nat.ble_eq, List.all_eq_true, Nat.blt_eq] at hz
  obtain ⟨⟨⟨⟨z1, z2⟩, z3⟩, z4⟩, z5⟩ := hz
  intro hn b cs a w β hb1 hb2 hrel
  obtain ⟨hrel', _⟩ := hrel.conv z1 (nodupB_ok z2) h2 h3
  refine hr z4 b cs a w _ hb1 hb2 (hrel'.dom_mono (fun k hk => ?_))
  rcases hk with hk | hk
  · omega
  · cases hl : st'.H.lookup k with
    | none => exact absurd hl hk
    | some ob =>
      have : (k, ob) ∈ st'.H := by
        have := List.lookup_eq_some_iff.1 hl
        obtain ⟨l1, l2, h, _⟩ := this
        rw [h]; simp
      exact z5 _ this

end
end Go.Proofs.Ytgdbnnmogddkaaa.Mach
