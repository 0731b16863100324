/- The abstract machine: running code from a configuration. Conditions: as in MachD. -/
import Derived.Test.YtgdbnnmogddkaaaMachP
namespace Go.Proofs.Ytgdbnnmogddkaaa.Mach
open Go
set_option linter.unusedVariables false
set_option linter.unusedSimpArgs false

structure St where
  env : List AV
  H : Hp
  ctr : Nat

/-- From this list of things to do, in a state, the function comes to an end that R allows. -/
def Run (P : Program) (c : Cx) (f : FuncId) (k : List Item) (st : St) (R : Ending → World → Prop) : Prop :=
  c.n ≤ st.ctr → ∀ (b : Frame) (cs : List Frame) (a : Act) (w : World) (β : Nat → Option Addr), b.fn = f → b.kind = .normal → Rel c (fun k => k < st.ctr) st.env st.H a w β →
    ∃ e w' fr, R e w' ∧ Comes P (lone (b.at a k) cs w) (lone fr cs w') e ∧ fr.fn = f ∧ fr.leaving P w' e

/-- A path's script: how each region is met, how each test goes; 'loop': once more round; 'head': up to the head of a round. -/
inductive ScI where
  | reg (ss : List OpS)
  | dec (b : Bool)
  | loop
  | head

section
variable {P : Program} {c : Cx} {f : FuncId} {R : Ending → World → Prop}

theorem Run.step {k k' : List Item} {st : St} (h : ∀ (b : Frame) (cs : List Frame) (a : Act) (w : World), Steps P (lone (b.at a k) cs w) (lone (b.at a k') cs w)) (hr : Run P c f k' st R) : Run P c f k st R := by
  intro hn b cs a w β h1 h2 h3
  obtain ⟨e, w', fr, g1, g2, g3, g4⟩ := hr hn b cs a w β h1 h2 h3
  exact ⟨e, w', fr, g1, g2.of_steps (h b cs a w), g3, g4⟩

def runTo (P : Program) : Nat → List ScI → List Item → St → Option (List Item × St × List Prop)
  | 0, _, _, _ => none
  | fuel + 1, sc, k, st =>
    match k with
    | [] => match sc with
      | [] => some ([], st, [])
      | _ => none
    | .inBlock _ :: k => runTo P fuel sc k st
    | .inScope _ :: k => runTo P fuel sc k st
    | .inLoop body :: k => match sc with
      | .loop :: sc => runTo P fuel sc (.code body :: .inLoop body :: k) st
      | .head :: _ => some (.code body :: .inLoop body :: k, st, [])
      | _ => none
    | .code code :: k =>
      match code with
      | .seq a b => runTo P fuel sc (.code a :: .code b :: k) st
      | .skip => runTo P fuel sc k st
      | .label _ => runTo P fuel sc k st
      | .block id body => runTo P fuel sc (.code body :: .inBlock id :: k) st
      | .scope body => runTo P fuel sc (.code body :: .inScope body :: k) st
      | .exit id => match exitTo id k with
        | some k' => runTo P fuel sc k' st
        | none => none
      | .loop body => match sc with
        | .loop :: sc => runTo P fuel sc (.code body :: .inLoop body :: k) st
        | .head :: _ => some (.code body :: .inLoop body :: k, st, [])
        | _ => none
      | .cond cnd x y => match sc with
        | .dec b :: sc => match evA st.env cnd with
          | .p (.bool v) => match runTo P fuel sc (.code (if b then x else y) :: k) st with
            | some (k', st', ob) => some (k', st', (v = b) :: ob)
            | none => none
          | _ => none
        | _ => none
      | .region rid ops draw => match sc with
        | .head :: _ => some (.code (.region rid ops draw) :: k, st, [])
        | .reg ss :: sc => match runTr P ops st.ctr ss 0 st.env st.H with
          | some (env', H', tr) =>
            if !draw || chk ops tr then
              match runTo P fuel sc k ⟨env', H', st.ctr + 32 * ops.size⟩ with
              | some (k', st', ob) => some (k', st', obsOf tr ++ ob)
              | none => none
            else none
          | none => none
        | _ => none
      | .ret => match sc with
        | [] => some (.code .ret :: k, st, [])
        | _ => none
      | _ => none
    | _ => none

theorem runTo_ok (hm : P.follows .mixedOrders = true) : ∀ (fuel : Nat) (sc : List ScI) (k : List Item) (st : St) (k' : List Item) (st' : St) (ob : List Prop), runTo P fuel sc k st = some (k', st', ob) → (∀ p ∈ ob, p) →
    Run P c f k' st' R → Run P c f k st R := by
  intro fuel
  induction fuel with
  | zero => intro sc k st k' st' ob h; cases h
  | succ fuel ih =>
    intro sc k st k' st' ob h hob hr
    unfold runTo at h
    split at h
    · -- []
      split at h
      · cases h; exact hr
      · cases h
    · exact Run.step (fun b cs a w => .one step_inBlock) (ih _ _ _ _ _ _ h hob hr)
    · exact Run.step (fun b cs a w => .one (step_lone_go (by simp [stepG, stepG.exec, Frame.at]))) (ih _ _ _ _ _ _ h hob hr)
    · split at h
      · exact Run.step (fun b cs a w => .one step_inLoop) (ih _ _ _ _ _ _ h hob hr)
      · cases h; exact Run.step (fun b cs a w => .one step_inLoop) hr
      · cases h
    · rename_i code k
      split at h
      · exact Run.step (fun b cs a w => .one step_seq) (ih _ _ _ _ _ _ h hob hr)
      · exact Run.step (fun b cs a w => .one step_skip) (ih _ _ _ _ _ _ h hob hr)
      · exact Run.step (fun b cs a w => .one step_label) (ih _ _ _ _ _ _ h hob hr)
      · exact Run.step (fun b cs a w => .one step_block) (ih _ _ _ _ _ _ h hob hr)
      · exact Run.step (fun b cs a w => .one (step_lone_go (by simp [stepG, stepG.exec, Frame.at]))) (ih _ _ _ _ _ _ h hob hr)
      · split at h
        · rename_i k2 hk2
          exact Run.step (fun b cs a w => .one (step_exit hk2)) (ih _ _ _ _ _ _ h hob hr)
        · cases h
      · split at h
        · exact Run.step (fun b cs a w => .one step_loop) (ih _ _ _ _ _ _ h hob hr)
        · cases h; exact Run.step (fun b cs a w => .one step_loop) hr
        · cases h
      · -- cond
        rename_i cnd x y
        split at h
        case h_2 => cases h
        rename_i b sc
        split at h
        case h_2 => cases h
        rename_i v hv
        split at h
        case h_2 => cases h
        rename_i k2 st2 ob2 h2
        simp only [Option.some.injEq, Prod.mk.injEq] at h
        obtain ⟨rfl, rfl, rfl⟩ := h
        have hvb : v = b := hob _ (by simp)
        have hrun := ih _ _ _ _ _ _ h2 (fun p hp => hob p (by simp [hp])) hr
        intro hn fr cs a w β h1 h3 hrel
        have hc := evA_ok hrel.ev cnd
        rw [hv] at hc
        have hcv : a.eval cnd = .bool b := by
          generalize a.eval cnd = z at hc
          cases hc with
          | p _ _ hp => cases hp; rw [hvb]
        obtain ⟨e, w', fr', g1, g2, g3, g4⟩ := hrun hn fr cs a w β h1 h3 hrel
        exact ⟨e, w', fr', g1, g2.of_steps (.one (step_cond hcv)), g3, g4⟩
      · -- region
        rename_i id ops draw
        split at h
        case h_1 => cases h; exact hr
        case h_3 => cases h
        rename_i ss sc
        split at h
        case h_2 => cases h
        rename_i env' H' tr htr
        split at h
        case isFalse => cases h
        rename_i hd
        split at h
        case h_2 => cases h
        rename_i k2 st2 ob2 h2
        simp only [Option.some.injEq, Prod.mk.injEq] at h
        obtain ⟨rfl, rfl, rfl⟩ := h
        have hrun := ih _ _ _ _ _ _ h2 (fun p hp => hob p (List.mem_append_right _ hp)) hr
        intro hn fr cs a w β h1 h3 hrel
        have hwp := region_ok (id := id) (draw := draw) (Q := fun ex a' w' => ex = .normal ∧ ∃ β', Rel c (fun k => k < st.ctr + 32 * ops.size) env' H' a' w' β') hm hn htr (fun p hp => hob p (List.mem_append_left _ hp))
          (fun h => by rw [h] at hd; simpa using hd) hrel (fun a' w' β' h => ⟨rfl, β', h⟩)
        obtain ⟨ex, a', w', ⟨rfl, β', hrel'⟩, harr⟩ := hwp fr k cs
        obtain ⟨e, w2, fr', g1, g2, g3, g4⟩ := hrun (by simp only; omega) fr cs a' w' β' h1 h3 hrel'
        exact ⟨e, w2, fr', g1, g2.of_steps harr, g3, g4⟩
      · split at h
        · cases h; exact hr
        · cases h
      · cases h
    · cases h

end
end Go.Proofs.Ytgdbnnmogddkaaa.Mach
