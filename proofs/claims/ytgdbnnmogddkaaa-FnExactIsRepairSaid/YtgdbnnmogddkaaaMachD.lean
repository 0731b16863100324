/- The abstract machine: the model's operation does what 'opEval' says, an operation at a time. Conditions: the relation between abstract and real values, and the obligations that 'opEval' lays. -/
import Derived.Test.YtgdbnnmogddkaaaMachC
namespace Go.Proofs.Ytgdbnnmogddkaaa.Mach
open Go
set_option linter.unusedVariables false
set_option linter.unusedSimpArgs false

theorem Placed.same (X : Nat → Prop) (w : World) (β : Nat → Option Addr) (H : Hp) (k : Nat) (hH : HR w β (ow X β H) H) (hS : Sep β H) : Placed X w β H w β H k :=
  ⟨hH, hS, .refl _ _, fun _ _ h => h, fun _ h => .inl h, fun _ h => .inl h⟩

/-- What an operation's run comes to. -/
def OpRes (X : Nat → Prop) (P : Program) (s : Sem Next) (w : World) (β : Nat → Option Addr) (H : Hp) (e : Eff) (k : Nat) : Prop :=
  ∃ v w' β', (s.run P w = .ok (.value v) w' ∨ (s.run P w = .ok .skip w' ∧ v = undef)) ∧ Placed X w β H w' β' (happ H e.wr) k ∧
    VR w' β' (ow X β' (happ H e.wr)) e.v v

section
variable {X : Nat → Prop} {P : Program} {w : World} {β : Nat → Option Addr} {H : Hp} {k : Nat}

theorem OpRes.pure {s : Sem Next} {e : Eff} {v : Value} (hH : HR w β (ow X β H) H) (hS : Sep β H) (hw : e.wr = []) (hr : s.run P w = .ok (.value v) w)
    (hv : VR w β (ow X β H) e.v v) : OpRes X P s w β H e k :=
  ⟨v, w, β, .inl hr, by rw [hw]; exact .same X w β H k hH hS, by rw [hw]; exact hv⟩

theorem run_isAgg {t : TypeId} {d : TypeDesc} (h : P.underlying t = some d) (w : World) : (isAgg t).run P w = .ok (isAggD d) w := by
  unfold isAgg
  simp only [Sem.run_bind, run_underlying h, Result.andThen_ok]
  cases d <;> rfl

theorem run_sizeOf {t : TypeId} {i : TypeInfo} (h : P.info? t = some i) (w : World) : (sizeOf t).run P w = .ok i.size w := by
  simp [sizeOf, typeInfo, h]

theorem Addr.add_plain (b o j : Nat) : (⟨b, o, none⟩ : Addr).add j = ⟨b, o + j, none⟩ := by
  unfold Addr.add; split <;> simp_all

theorem run_loadVar_agg {t : TypeId} {d : TypeDesc} {i : TypeInfo} (h : P.underlying t = some d) (hi : P.info? t = some i) (hd : isAggD d = true) (b off : Nat) (g : Nat → Value)
    (hg : ∀ j, j < i.size → w.cell? ⟨b, off + j, none⟩ = some (g j)) : (loadVar t ⟨b, off, none⟩).run P w = .ok (.agg (tab i.size g).toArray) w := by
  have hl := run_loadCells (P := P) w ⟨b, off, none⟩ i.size g (fun j hj => by rw [Addr.add_plain]; exact hg j hj)
  have ht : ((List.range i.size).map g) = tab i.size g := by
    apply List.ext_getElem?
    intro j
    by_cases hj : j < i.size
    · have h2 := tab_getD i.size g j undef hj
      have hl2 : j < (tab i.size g).length := by rw [tab_length]; exact hj
      rw [List.getD_eq_getElem?_getD, List.getElem?_eq_getElem hl2] at h2
      simp only [Option.getD_some] at h2
      simp [hj, List.getElem?_eq_getElem hl2, h2]
    · simp [hj, List.getElem?_eq_none (show (tab i.size g).length ≤ j by rw [tab_length]; omega)]
  unfold loadVar
  simp only [Sem.run_bind, run_isAgg h, hd, Result.andThen_ok, if_true, run_sizeOf hi, hl, ht, Sem.run_pure]

theorem run_loadVar_one {t : TypeId} {d : TypeDesc} (h : P.underlying t = some d) (hd : isAggD d = false) (a : Addr) (v : Value)
    (hg : w.cell? a = some v) : (loadVar t a).run P w = .ok v w := by
  unfold loadVar
  simp [run_isAgg h, hd, hg]

theorem toArray_getD (l : List Value) (j : Nat) : l.toArray.getD j undef = l.getD j undef := by simp [List.getD_eq_getElem?_getD]

theorem evLoad_ok {L : Hp} {t : TypeId} {a : AV} {x : Value} {e : Eff} (hH : HR w β (ow X β H) H) (hS : Sep β H) (hL : ∀ o ob, L.lookup o = some ob → H.lookup o = some ob)
    (he : evLoad P L t a = some e) (hob : ∀ p ∈ e.ob, p) (hx : VR w β (ow X β H) a x) :
    e.wr = [] ∧ ∃ v, (Instr.loadAt t x).run P w = .ok v w ∧ VR w β (ow X β H) e.v v := by
  unfold evLoad at he
  split at he
  · rename_i d i hd hi
    cases hx <;> simp only [] at he <;> try (cases he; done)
    · rename_i z o row off b base hβ
      split at he
      · rename_i ob hlo
        split at he
        · rename_i hz
          simp only [Bool.and_eq_true, beq_iff_eq, Nat.ble_eq] at hz
          have hcell : row < ob.n → ∀ j, off + j < ob.z → ∃ u, w.cell? ⟨b, base + (row * z + off) + j, none⟩ = some u ∧ One u ∧ VR w β (ow X β H) ((ob.f row).getD (off + j) anyA) u := by
            intro hrow j hj
            rcases hH o ob (hL _ _ hlo) with h | ⟨b', base', cells, elem, h1, h2, h3⟩ | ⟨hz0, _⟩
            rotate_left 2
            · omega
            · rw [h.1] at hβ; cases hβ
            · rw [hβ] at h1
              cases h1
              obtain ⟨u, h4, h5, h6⟩ := h3 row hrow (off + j) hj
              refine ⟨u, ?_, h5, h6⟩
              have e : base + (row * z + off) + j = base + (row * ob.z + (off + j)) := by rw [hz.1]; omega
              rw [e]
              simp [World.cell?, h2, h4]
          split at he
          · rename_i hagg
            simp only [Option.some.injEq] at he
            subst he
            have hrow : row < ob.n := hob _ (by simp)
            refine ⟨rfl, .agg (tab i.size fun j => (w.cell? ⟨b, base + (row * z + off) + j, none⟩).getD undef).toArray, ?_, ?_⟩
            · unfold Instr.loadAt Instr.sureAddr
              simp only [Sem.run_bind, Sem.run_pure, Result.andThen_ok]
              refine run_loadVar_agg hd hi hagg b _ _ (fun j hj => ?_)
              obtain ⟨u, h1, _, _⟩ := hcell hrow j (by omega)
              rw [h1]; rfl
            · refine .agg _ _ (by simp [tab_length]) (fun j hj => ?_) (fun j hj => ?_)
              · rw [tab_length] at hj
                obtain ⟨u, h1, h2, _⟩ := hcell hrow j (by omega)
                rw [toArray_getD, tab_getD _ _ _ _ hj, h1]
                exact h2
              · rw [tab_length] at hj
                obtain ⟨u, h1, _, h3⟩ := hcell hrow j (by omega)
                rw [toArray_getD, tab_getD _ _ _ _ hj, tab_getD _ _ _ _ hj, h1]
                exact h3
          · rename_i hagg
            split at he
            · rename_i h1z
              simp only [Nat.ble_eq] at h1z
              simp only [Option.some.injEq] at he
              subst he
              have hrow : row < ob.n := hob _ (by simp)
              obtain ⟨u, h1, _, h3⟩ := hcell hrow 0 (by omega)
              refine ⟨rfl, u, ?_, by simpa using h3⟩
              unfold Instr.loadAt Instr.sureAddr
              simp only [Sem.run_bind, Sem.run_pure, Result.andThen_ok]
              exact run_loadVar_one hd (by simpa using hagg) _ _ (by simpa using h1)
            · cases he
        · cases he
      · cases he
    · rename_i tg cs b off g hb hlt hcell hone hp
      split at he
      · rename_i hagg
        split at he
        · rename_i hz
          simp only [Nat.ble_eq] at hz
          simp only [Option.some.injEq] at he
          subst he
          refine ⟨rfl, .agg (tab i.size g).toArray, ?_, ?_⟩
          · unfold Instr.loadAt Instr.sureAddr
            simp only [Sem.run_bind, Sem.run_pure, Result.andThen_ok]
            exact run_loadVar_agg hd hi hagg b off g (fun j hj => hcell j (by omega))
          · refine .agg _ _ (by simp [tab_length]) (fun j hj => ?_) (fun j hj => ?_)
            · rw [tab_length] at hj
              rw [toArray_getD, tab_getD _ _ _ _ hj]
              exact hone j (by omega)
            · rw [tab_length] at hj
              rw [toArray_getD, tab_getD _ _ _ _ hj, tab_getD _ _ _ _ hj]
              exact .p _ _ (hp j (by omega))
        · cases he
      · rename_i hagg
        split at he
        · rename_i hz
          simp only [Nat.ble_eq] at hz
          simp only [Option.some.injEq] at he
          subst he
          refine ⟨rfl, g 0, ?_, .p _ _ (hp 0 (by omega))⟩
          unfold Instr.loadAt Instr.sureAddr
          simp only [Sem.run_bind, Sem.run_pure, Result.andThen_ok]
          exact run_loadVar_one hd (by simpa using hagg) _ _ (by simpa using hcell 0 (by omega))
        · cases he
  · cases he

theorem splice_length (z off : Nat) (old new : List AV) : (splice z off old new).length = z := tab_length _ _

theorem splice_getD {z off : Nat} {old new : List AV} {j : Nat} (hj : j < z) :
    (splice z off old new).getD j anyA = if off ≤ j ∧ j < off + new.length then new.getD (j - off) anyA else old.getD j anyA := by
  unfold splice
  rw [tab_getD _ _ _ _ hj]
  by_cases h : off ≤ j ∧ j < off + new.length
  · rw [if_pos h, if_pos (by simp [Nat.blt, h.1]; omega)]
  · rw [if_neg h, if_neg (by simp [Nat.blt]; intro h1; omega)]

/-- A row's cells after a store. -/
theorem row_getElem? (cur : Array Value) (at_ : Nat) (vs : List Value) (hfit : at_ + vs.length ≤ cur.size) (q : Nat) :
    (cur.toList.take at_ ++ vs ++ cur.toList.drop (at_ + vs.length)).toArray[q]? = if at_ ≤ q ∧ q < at_ + vs.length then vs[q - at_]? else cur[q]? := by
  have hl : (cur.toList.take at_).length = at_ := by simp; omega
  simp only [List.getElem?_toArray, List.append_assoc]
  by_cases h1 : q < at_
  · rw [List.getElem?_append_left (by rw [hl]; exact h1), if_neg (by omega)]
    simp [List.getElem?_take, h1]
  · rw [List.getElem?_append_right (by rw [hl]; omega), hl]
    by_cases h2 : q < at_ + vs.length
    · rw [List.getElem?_append_left (by omega), if_pos (by omega)]
    · rw [List.getElem?_append_right (by omega), if_neg (by omega), List.getElem?_drop]
      have : at_ + vs.length + (q - at_ - vs.length) = q := by omega
      rw [this]
      simp

theorem row_size (cur : Array Value) (at_ : Nat) (vs : List Value) (hfit : at_ + vs.length ≤ cur.size) :
    (cur.toList.take at_ ++ vs ++ cur.toList.drop (at_ + vs.length)).toArray.size = cur.size := by
  simp; omega

theorem mul_lt_row {i n z j m : Nat} (hi : i < n) (hj : j < z) (hm : n ≤ m) : i * z + j < m * z := by
  have h1 : (i + 1) * z ≤ m * z := Nat.mul_le_mul_right _ (by omega)
  rw [Nat.succ_mul] at h1
  omega

theorem row_apart {i r z j q : Nat} (hj : j < z) (hq : q < z) (h : i * z + j = r * z + q) : i = r ∧ j = q := by
  have hz : 0 < z := by omega
  have e1 : (i * z + j) / z = i := by
    rw [Nat.mul_comm, Nat.mul_add_div hz, Nat.div_eq_of_lt hj]; omega
  have e2 : (r * z + q) / z = r := by
    rw [Nat.mul_comm, Nat.mul_add_div hz, Nat.div_eq_of_lt hq]; omega
  have e3 : i = r := by rw [← e1, ← e2, h]
  subst e3
  exact ⟨rfl, by omega⟩

theorem evStore_ok {L : Hp} {t : TypeId} {a va : AV} {x v : Value} {e : Eff} (hH : HR w β (ow X β H) H) (hS : Sep β H) (hL : ∀ o ob, L.lookup o = some ob → H.lookup o = some ob)
    (he : evStore P L t a va = some e) (hob : ∀ p ∈ e.ob, p) (hx : VR w β (ow X β H) a x) (hv : VR w β (ow X β H) va v) (q : Nat) :
    ∃ w', (Instr.storeAt t x v).run P w = .ok () w' ∧ Placed X w β H w' β (happ H e.wr) q ∧ e.v = anyA := by
  unfold evStore at he
  split at he
  case h_2 => cases he
  rename_i i hi
  split at he
  case h_2 => cases he
  rename_i z o row off cs hcs
  split at he
  case h_2 => cases he
  rename_i ob hlo
  split at he
  case isFalse => cases he
  rename_i hz
  simp only [Bool.and_eq_true, beq_iff_eq, Nat.ble_eq, Nat.blt_eq] at hz
  obtain ⟨⟨⟨hz1, hz2⟩, hz3⟩, hz4⟩ := hz
  simp only [Option.some.injEq] at he
  subst he
  have hrow : row < ob.n := hob _ (by simp)
  have hbx : ob.bx = true → ob.n = 1 := hob _ (by simp)
  cases hx
  rename_i b base hβ
  have hlo' := hL _ _ hlo
  rcases hH o ob hlo' with h | ⟨b', base', cells, elem, h1, h2, h3⟩ | ⟨hz0, _⟩
  rotate_left 2
  · omega
  · rw [h.1] at hβ; cases hβ
  rw [hβ] at h1
  cases h1
  obtain ⟨hl, hc⟩ := cells_rel hv hcs
  have hvl : v.cells.toList.length = cs.length := by simp [hl]
  have hone : ∀ u ∈ v.cells.toList, u.oneCell' = true := by
    intro u hu
    obtain ⟨j, hj, rfl⟩ := List.getElem_of_mem hu
    have := (hc j (by rw [← hvl]; exact hj)).1
    simpa [One, Array.getD, show j < v.cells.size by simpa using hj] using this
  have hfit : base + (row * z + off) + v.cells.toList.length ≤ cells.size := by
    obtain ⟨u, hu, _⟩ := h3 row hrow (off + cs.length - 1) (by omega)
    have := (Array.getElem?_eq_some_iff.1 hu).1
    rw [hvl]
    rw [hz1] at this
    omega
  have hst := run_storeCells_at P b (base + (row * z + off)) elem v.cells.toList 0 cells w h2 (by simpa using hfit) hone
  refine ⟨w.setRow b (cells.toList.take (base + (row * z + off)) ++ v.cells.toList ++ cells.toList.drop (base + (row * z + off) + v.cells.toList.length)).toArray, ?_, ?_, rfl⟩
  · show (storeVar t ⟨b, base + (row * z + off), none⟩ v).run P w = _
    unfold storeVar
    have hsz : ¬ (v.cells.size ≠ i.size) := by rw [← hl]; simpa using hz3
    simp only [Sem.run_bind, run_sizeOf hi, Result.andThen_ok, hsz, if_false, Sem.run_pure]
    exact hst
  · simp only [happ, Nat.add_zero]
    rw [← hput_hdel o _ H]
    have hp := place (k := o) (ob := { ob with f := setRowF ob row (splice z off (ob.f row) cs) })
      (w' := w.setRow b (cells.toList.take (base + (row * z + off)) ++ v.cells.toList ++ cells.toList.drop (base + (row * z + off) + v.cells.toList.length)).toArray)
      (cells := (cells.toList.take (base + (row * z + off)) ++ v.cells.toList ++ cells.toList.drop (base + (row * z + off) + v.cells.toList.length)).toArray)
      (elem := elem) (b := b) (base := base) hH hS (H0 := hdel o H) ?hsub (by rw [lookup_hdel]; simp) (.inr hβ) rfl rfl rfl (by simp) (fun c _ hcb => setRow_other w b c _ hcb) (setRow_heap w b cells _ elem _ h2) ?hfree ?hown ?hcells
    case hsub =>
      intro j y hj
      rw [lookup_hdel] at hj
      split at hj
      · cases hj
      · exact hj
    case hfree =>
      intro j y a hj ha he
      rw [lookup_hdel] at hj
      split at hj
      · cases hj
      · rename_i hjo
        exact hjo (hS j o y ob a _ hj hlo' ha hβ he)
    case hown =>
      intro _
      exact ⟨⟨o, ob, _, hlo', hβ, rfl⟩, cells, elem, _, h2, by rw [row_size _ _ _ hfit]; exact Nat.le_refl _⟩
    case hcells =>
      intro i' hi' j hj
      simp only at hi' hj ⊢
      rw [row_getElem? _ _ _ hfit]
      have keep : ∀ r : Nat → List AV, (r i' = ob.f i') → ∃ u, cells[base + (i' * ob.z + j)]? = some u ∧ One u ∧ VR w β (ow X β H) ((r i').getD j anyA) u := by
        intro r hr
        rw [hr]
        exact h3 i' hi' j hj
      by_cases hir : i' = row
      · subst hir
        have hrr : setRowF ob i' (splice z off (ob.f i') cs) i' = splice z off (ob.f i') cs := by unfold setRowF; split <;> simp
        rw [hrr, splice_getD (by omega)]
        by_cases hjr : off ≤ j ∧ j < off + cs.length
        · rw [if_pos (by rw [hvl, hz1]; omega), if_pos hjr]
          obtain ⟨g1, g2⟩ := hc (j - off) (by omega)
          refine ⟨v.cells.getD (j - off) undef, ?_, g1, g2⟩
          have hjl : j - off < v.cells.size := by rw [← hl]; omega
          have e : base + (i' * ob.z + j) - (base + (i' * z + off)) = j - off := by rw [hz1]; omega
          rw [e]
          simp [Array.getD, hjl]
        · rw [if_neg (by rw [hvl, hz1]; omega), if_neg hjr]
          exact h3 i' hi' j hj
      · have hnb : ob.bx = false := by
          cases hbb : ob.bx with
          | false => rfl
          | true => have := hbx hbb; omega
        have hrr : setRowF ob row (splice z off (ob.f row) cs) i' = ob.f i' := by unfold setRowF; simp [hnb, hir]
        rw [if_neg, hrr]
        · exact h3 i' hi' j hj
        · rw [hvl]
          rintro ⟨g1, g2⟩
          have := row_apart (i := i') (r := row) (z := z) (j := j) (q := i' * z + j - row * z) (by omega) (by rw [hz1] at g1 g2; omega) (by rw [hz1] at g1; omega)
          exact hir this.1
    rw [upd_self hβ] at hp
    exact ⟨hp.hr, hp.sep, hp.ext, hp.mono, fun j hj => .inl hj, hp.own⟩

end
end Go.Proofs.Ytgdbnnmogddkaaa.Mach
