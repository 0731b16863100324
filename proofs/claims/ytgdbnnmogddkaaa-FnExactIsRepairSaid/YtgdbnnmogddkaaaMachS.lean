/- The abstract machine: the end of a call; how a contract is proved. Conditions: as in MachD. -/
import Derived.Test.YtgdbnnmogddkaaaMachR
namespace Go.Proofs.Ytgdbnnmogddkaaa.Mach
open Go
set_option linter.unusedVariables false
set_option linter.unusedSimpArgs false

mutual
def ntP : PV → List Prop
  | .seq t _ n f => [t = false, ∀ i, i < n → All (ntL (f i))]
  | .any => []
  | .int _ _ => []
  | .bool _ => []
  | .str _ => []
  | .nil => []
  | .fn _ => []
def ntL : List PV → List Prop
  | [] => []
  | v :: l => ntP v ++ ntL l
end

mutual
def ntA : AV → List Prop
  | .p v => ntP v
  | .ar _ _ _ _ => []
  | .pt _ _ _ _ => []
  | .ip _ _ => [False]
  | .mp _ => []
  | .agg cs => ntAL cs
  | .tup cs => ntAL cs
  | .cnd _ _ => [False]
def ntAL : List AV → List Prop
  | [] => []
  | v :: l => ntA v ++ ntAL l
end

theorem ntL_getD : ∀ (l : List PV) (j : Nat), All (ntL l) → All (ntP (l.getD j .any))
  | [], j, _ => by simp [ntP, All]
  | v :: l, 0, h => by simp only [ntL] at h; simpa using (All_app h).1
  | v :: l, j + 1, h => by simp only [ntL] at h; simpa using ntL_getD l j (All_app h).2

theorem ntAL_getD : ∀ (l : List AV) (j : Nat), All (ntAL l) → All (ntA (l.getD j anyA))
  | [], j, _ => by simp [ntA, ntP, All]
  | v :: l, 0, h => by simp only [ntAL] at h; simpa using (All_app h).1
  | v :: l, j + 1, h => by simp only [ntAL] at h; simpa using ntAL_getD l j (All_app h).2

section
variable {X : Nat → Prop} {w : World} {β : Nat → Option Addr} {H : Hp}

theorem ntP_ok {v : PV} {x : Value} (h : PR w (ow X β H) v x) : All (ntP v) → PR w (fr X β H) v x := by
  induction h with
  | any x => exact fun _ => .any x
  | int k n => exact fun _ => .int k n
  | bool b => exact fun _ => .bool b
  | str s => exact fun _ => .str s
  | nil => exact fun _ => .nil
  | seq0 t z f a c => exact fun _ => .seq0 _ _ _ _ _
  | seq t z n f b off c g hb hlt hc hcell hone h ih =>
    intro ho
    simp only [ntP] at ho
    obtain ⟨rfl, ho, _⟩ := ho
    exact .seq _ _ _ _ b off c g (fun h => h.elim (fun h => by cases h) hb) hlt hc hcell hone (fun i hi j hj => ih i hi j hj (ntL_getD _ j (ho i hi)))
  | fn f => exact fun _ => .fn f

theorem ntA_ok {v : AV} {x : Value} (h : VR w β (ow X β H) v x) : All (ntA v) → VR w β (fr X β H) v x := by
  induction h with
  | p v x h => exact fun ho => .p _ _ (ntP_ok h ho)
  | ar0 z o off a => exact fun _ => .ar0 _ _ _ _
  | ar z o off n b base c cells elem fr hβ hh hsz hc => exact fun _ => .ar _ _ _ _ b base c cells elem fr hβ hh hsz hc
  | pt z o row off b base hβ => exact fun _ => .pt _ _ _ _ b base hβ
  | ip t cs b off g hb hlt hcell hone hp => intro ho; simp only [ntA] at ho; exact ho.1.elim
  | mp o b hβ hm => exact fun _ => .mp _ b hβ hm
  | agg cs vs hl hone h ih => intro ho; simp only [ntA] at ho; exact .agg _ _ hl hone (fun j hj => ih j hj (ntAL_getD _ j ho))
  | tup cs vs hl h ih => intro ho; simp only [ntA] at ho; exact .tup _ _ hl (fun j hj => ih j hj (ntAL_getD _ j ho))
  | cnd g v x h h' ih => intro ho; simp only [ntA] at ho; exact ho.1.elim
end

/-- A part of a code, by turns: 0 the first part (or the only one), 1 the second. -/
def cAt : Code → List Nat → Code
  | c, [] => c
  | .seq a _, 0 :: p => cAt a p
  | .seq _ b, _ :: p => cAt b p
  | .cond _ a _, 0 :: p => cAt a p
  | .cond _ _ b, _ :: p => cAt b p
  | .block _ a, _ :: p => cAt a p
  | .loop a, _ :: p => cAt a p
  | .scope a, _ :: p => cAt a p
  | c, _ => c

/-- The results' values at a call's end. -/
def resVals (P : Program) (env : List AV) (H : Hp) : List ResultVar → Option (List AV × List Prop)
  | [] => some ([], [])
  | .tmp t :: r => (resVals P env H r).map fun x => (env.getD t anyA :: x.1, x.2)
  | .cell a t :: r =>
    match evLoad P H t (env.getD a anyA) with
    | some e => (resVals P env H r).map fun x => (e.v :: x.1, e.ob ++ x.2)
    | none => none

def resV (P : Program) (env : List AV) (H : Hp) (rs : List ResultVar) : Option (AV × List Prop) :=
  (resVals P env H rs).map fun x => (match x.1 with | [v] => v | vs => .tup vs, x.2)

/-- The objects behind a call hold nothing borrowed. -/
def ntH : Hp → List Prop
  | [] => []
  | (_, ob) :: r => (∀ i, i < ob.n → All (ntAL (ob.f i))) :: ntH r

def retOb (n : Nat) (P : Program) (rs : List ResultVar) (st : St) (keep : List Nat) (d : Nat) (H' : Hp) (res : AV) : List Prop :=
  match resV P st.env st.H rs with
  | some x =>
    (if keepB n keep && nodupB keep && Nat.ble keep.length (n + 32) then [] else [False]) ++ x.2 ++ (cvt false st.H keep d x.1).2 ++ wk (cvt false st.H keep d x.1).1 res ++ cvH st.H keep d H' ++ ntA res ++ ntH H'
  | none => [False]

/-- What a contract asks of a call's end. -/
def Post (c : Cx) (H' : Hp) (res : AV) : Ending → World → Prop := fun e w' => ∃ v β', e = .returned v ∧ HR w' β' (fr c.X β' H') H' ∧ Sep β' H' ∧ VR w' β' (fr c.X β' H') res v ∧
  Ext c.w0 (ow c.X c.β0 c.H0) w' (ow c.X β' H') ∧ (∀ o, o < c.n → β' o = c.β0 o) ∧ (∀ b, ownOf β' H' b → ownOf c.β0 c.H0 b ∨ c.w0.heap.size ≤ b) ∧ ∀ k, β' k ≠ none → k < c.n + 32

section
variable {P : Program} {c : Cx} {f : FuncId}

def resOne (tmps : Array Value) : ResultVar → Sem Value
  | .tmp t => pure (tmps.getD t undef)
  | .cell at_ t => do loadVar t (← asAddr (tmps.getD at_ undef))

theorem resVals_ok {dom : Nat → Prop} {env : List AV} {H : Hp} {a : Act} {w : World} {β : Nat → Option Addr} (h : Rel c dom env H a w β) : ∀ (rs : List ResultVar) (vs : List AV) (ob : List Prop), resVals P env H rs = some (vs, ob) → (∀ p ∈ ob, p) →
    ∃ xs : List Value, (rs.mapM (resOne a.tmps) : Sem (List Value)).run P w = .ok xs w ∧ vs.length = xs.length ∧
      ∀ j, j < vs.length → VR w β (ow c.X β H) (vs.getD j anyA) (xs.getD j undef)
  | [], vs, ob, hr, _ => by
    simp only [resVals, Option.some.injEq, Prod.mk.injEq] at hr
    obtain ⟨rfl, rfl⟩ := hr
    exact ⟨[], by simp, rfl, fun j hj => by simp at hj⟩
  | .tmp t :: r, vs, ob, hr, hob => by
    simp only [resVals] at hr
    cases hr2 : resVals P env H r with
    | none => rw [hr2] at hr; cases hr
    | some x =>
      rw [hr2] at hr
      simp only [Option.map_some, Option.some.injEq, Prod.mk.injEq] at hr
      obtain ⟨rfl, rfl⟩ := hr
      obtain ⟨xs, g1, g2, g3⟩ := resVals_ok h r x.1 x.2 hr2 hob
      refine ⟨a.tmps.getD t undef :: xs, by simp only [List.mapM_cons, resOne, Sem.run_bind, Sem.run_pure, Result.andThen_ok, g1], by simp [g2], fun j hj => ?_⟩
      cases j with
      | zero => simpa using h.ev t
      | succ j => simpa using g3 j (by simpa using hj)
  | .cell at_ t :: r, vs, ob, hr, hob => by
    simp only [resVals] at hr
    split at hr
    case h_2 => cases hr
    rename_i e he
    cases hr2 : resVals P env H r with
    | none => rw [hr2] at hr; cases hr
    | some x =>
      rw [hr2] at hr
      simp only [Option.map_some, Option.some.injEq, Prod.mk.injEq] at hr
      obtain ⟨rfl, rfl⟩ := hr
      obtain ⟨xs, g1, g2, g3⟩ := resVals_ok h r x.1 x.2 hr2 (fun p hp => hob p (List.mem_append_right _ hp))
      obtain ⟨_, v, h1, h2⟩ := evLoad_ok (P := P) h.hr h.sep (fun _ _ h => h) he (fun p hp => hob p (List.mem_append_left _ hp)) (h.ev at_)
      have h1' : (do loadVar t (← asAddr (a.tmps.getD at_ undef)) : Sem Value).run P w = .ok v w := by
        generalize a.tmps.getD at_ undef = y at h1
        cases y with
        | pointer p =>
          cases p with
          | none => simp [Instr.loadAt, Instr.sureAddr] at h1
          | some p => simpa [Instr.loadAt, Instr.sureAddr, asAddr] using h1
        | _ => simp [Instr.loadAt, Instr.sureAddr] at h1
      refine ⟨v :: xs, by
        rw [List.mapM_cons, Sem.run_bind]
        show ((do loadVar t (← asAddr (a.tmps.getD at_ undef)) : Sem Value).run P w).andThen _ = _
        rw [h1']
        simp only [Sem.run_bind, Sem.run_pure, Result.andThen_ok, g1], by simp [g2], fun j hj => ?_⟩
      cases j with
      | zero => simpa using h2
      | succ j => simpa using g3 j (by simpa using hj)

theorem ret_rel {dom : Nat → Prop} {st : St} {a : Act} {w : World} {β : Nat → Option Addr} {fn : Func} {keep : List Nat} {d : Nat} {H' : Hp} {res : AV} (h : Rel c dom st.env st.H a w β)
    (hob : All (retOb c.n P fn.results.toList st keep d H' res)) : ∃ v, (results fn a.tmps).run P w = .ok v w ∧ Post c H' res (.returned v) w := by
  unfold retOb at hob
  split at hob
  case h_2 => exact hob.1.elim
  rename_i x hx
  obtain ⟨hob, o7⟩ := All_app hob
  obtain ⟨hob, o6⟩ := All_app hob
  obtain ⟨hob, o5⟩ := All_app hob
  obtain ⟨hob, o4⟩ := All_app hob
  obtain ⟨hob, o3⟩ := All_app hob
  obtain ⟨o1, o2⟩ := All_app hob
  split at o1
  case isFalse => exact o1.1.elim
  rename_i hz
  simp only [Bool.and_eq_true, Nat.ble_eq] at hz
  obtain ⟨⟨z1, z2⟩, z3⟩ := hz
  unfold resV at hx
  cases hr : resVals P st.env st.H fn.results.toList with
  | none => rw [hr] at hx; cases hx
  | some y =>
    rw [hr] at hx
    simp only [Option.map_some, Option.some.injEq] at hx
    subst hx
    obtain ⟨xs, g1, g2, g3⟩ := resVals_ok (P := P) h _ y.1 y.2 hr ((All_iff _).1 o2)
    obtain ⟨hrel, hval⟩ := h.conv (H' := H') (env' := []) (keep := keep) (d := d) z1 (nodupB_ok z2) (by cases st.env <;> exact trivial) o5
    have hrun : (results fn a.tmps).run P w = .ok (if h : xs.toArray.size = 1 then xs.toArray[0] else .tuple xs.toArray) w := by
      have hfun : results fn a.tmps = (do let vs ← fn.results.mapM (resOne a.tmps); pure (if h : vs.size = 1 then vs[0] else .tuple vs)) := rfl
      rw [hfun, Array.mapM_eq_mapM_toList]
      simp only [Sem.run_bind, Sem.run_map, Result.andThen_ok, Sem.run_pure, g1]
    refine ⟨_, hrun, ?_⟩
    have hv : VR w β (ow c.X β st.H) (match y.1 with | [v] => v | vs => .tup vs) (if h : xs.toArray.size = 1 then xs.toArray[0] else .tuple xs.toArray) := by
      split
      · rename_i v hv
        rw [hv] at g2 g3
        have h1 : xs.toArray.size = 1 := by simpa using g2.symm
        rw [dif_pos h1]
        have := g3 0 (by simp)
        cases xs with
        | nil => simp at g2
        | cons x xs => simpa using this
      · rename_i hne
        have h1 : ¬ xs.toArray.size = 1 := by
          intro h1
          have : y.1.length = 1 := by rw [g2]; simpa using h1
          obtain ⟨v, hv⟩ := List.length_eq_one_iff.1 this
          exact hne v hv
        rw [dif_neg h1]
        exact .tup _ _ (by simpa using g2) (fun j hj => by
          have := g3 j hj
          simpa [Array.getD_eq_getD_getElem?, List.getD_eq_getElem?_getD] using this)
    have hres := hval _ _ res hv o3 o4
    refine ⟨_, subβ β keep, rfl, ?_, hrel.sep, ntA_ok hres o6, hrel.ext, hrel.init, hrel.own, fun k hk => ?_⟩
    · intro k ob hk
      rcases hrel.hr k ob hk with h' | ⟨b, base, cells, elem, h1, h2, h3⟩ | h'
      rotate_left 2
      · exact .inr (.inr h')
      · exact .inl h'
      · refine .inr (.inl ⟨b, base, cells, elem, h1, h2, fun i hi j hj => ?_⟩)
        obtain ⟨v, k1, k2, k3⟩ := h3 i hi j hj
        have hnt : ∀ (l : Hp), All (ntH l) → ∀ k ob, l.lookup k = some ob → ∀ i, i < ob.n → All (ntAL (ob.f i)) := by
          intro l
          induction l with
          | nil => intro _ k ob h; simp at h
          | cons e r ih =>
            obtain ⟨j, y⟩ := e
            intro ha k ob h
            simp only [List.lookup_cons] at h
            by_cases hkj : k = j
            · subst hkj
              simp only [beq_self_eq_true, Option.some.injEq] at h
              subst h
              exact ha.1
            · have : (k == j) = false := by simpa using hkj
              rw [this] at h
              exact ih ha.2 k ob h
        exact ⟨v, k1, k2, ntA_ok k3 (ntAL_getD _ j (hnt H' o7 k ob hk i hi))⟩
    · have : k < keep.length := by
        by_cases hlt : k < keep.length
        · exact hlt
        · exfalso
          apply hk
          simp [subβ, List.getElem?_eq_none (Nat.le_of_not_lt hlt)]
      omega

/-- The end of a call. -/
theorem ret_ok {fn : Func} (hf : P.funcs[f]? = some fn) {k : List Item} (hk : k = [] ∨ ∃ k', k = .code .ret :: k') {st : St} {keep : List Nat} {d : Nat} {H' : Hp} {res : AV}
    (hob : All (retOb c.n P fn.results.toList st keep d H' res)) : Run P c f k st (Post c H' res) := by
  intro hn b cs a w β h1 h2 hrel
  obtain ⟨v, hr, hp⟩ := ret_rel hrel hob
  rcases hk with rfl | ⟨k', rfl⟩
  · exact ⟨.returned v, w, _, hp, .one step_end, h1, rfl, hrel.dfr, h2, fn, by rw [← h1] at hf; exact hf, hr⟩
  · exact ⟨.returned v, w, _, hp, .one step_ret, h1, rfl, hrel.dfr, h2, fn, by rw [← h1] at hf; exact hf, hr⟩

/-- A contract out of a run of the body. -/
theorem con_of_run {fn : Func} {code : Code} (hf : P.funcs[f]? = some fn) (hb : fn.body = some code) (hen : enterable P f = true) {n : Nat} {H H' : Hp} {args : List AV} {res : AV}
    (hkeys : (H.all fun e => Nat.blt e.1 n) = true)
    (hrun : ∀ c : Cx, c.n = n → Run P c f [.code code] ⟨args ++ List.replicate (fn.ntmps - args.length) anyA, H, n⟩ (Post c H' res)) : Con P f n H args H' res := by
  refine ⟨hen, fun w β X vals hX hHR hSep hdom hlen hargs => ?_⟩
  have hrel : Rel ⟨n, X, w, β, H⟩ (fun k => k < n) (args ++ List.replicate (fn.ntmps - args.length) anyA) H { tmps := vals ++ Array.replicate (fn.ntmps - vals.size) undef, defers := [] } w β := by
    refine ⟨hHR, hSep, fun t => ?_, by simp [hlen], rfl, fun k hk => ?_, .refl _ _, hX, fun b hb => .inl hb, fun _ _ => rfl⟩
    · by_cases ht : t < args.length
      · have e1 : (args ++ List.replicate (fn.ntmps - args.length) anyA).getD t anyA = args.getD t anyA := by
          simp [List.getD_eq_getElem?_getD, List.getElem?_append_left ht]
        have e2 : (vals ++ Array.replicate (fn.ntmps - vals.size) undef).getD t undef = vals.getD t undef := by
          simp [Array.getD_eq_getD_getElem?, Array.getElem?_append_left (show t < vals.size by omega)]
        simp only [e1, e2]
        exact hargs t ht
      · have e1 : (args ++ List.replicate (fn.ntmps - args.length) anyA).getD t anyA = anyA := by
          rw [List.getD_eq_getElem?_getD, List.getElem?_append_right (by omega), List.getElem?_replicate]
          split <;> rfl
        rw [e1]
        exact .any _
    · rcases hk with hk | hk
      · exact hdom k hk
      · cases hl : H.lookup k with
        | none => exact absurd hl hk
        | some ob =>
          obtain ⟨l1, l2, h, _⟩ := List.lookup_eq_some_iff.1 hl
          simp only [List.all_eq_true, Nat.blt_eq] at hkeys
          exact hkeys (k, ob) (by rw [h]; simp)
  intro cs
  let b : Frame := { (default : Frame) with fn := f, kind := .normal }
  have henter : Frame.enter P f vals .normal = b.at { tmps := vals ++ Array.replicate (fn.ntmps - vals.size) undef, defers := [] } [.code code] := by
    simp [Frame.enter, Frame.at, hf, hb, b]
  obtain ⟨e, w', fr, g1, g2, g3, g4⟩ := hrun ⟨n, X, w, β, H⟩ rfl (Nat.le_refl _) b cs _ w β rfl rfl hrel
  rw [henter]
  refine ⟨e, w', fr, ?_, g2, g3, g4⟩
  obtain ⟨v, β', p1, p2, p3, p4, p5, p6, p7, p8⟩ := g1
  refine ⟨v, β', p1, p2, p3, p4, p5, fun o a ho => ?_, p7, fun k hk => ?_⟩
  · rw [p6 o (hdom o (by rw [ho]; simp))]; exact ho
  · by_cases hkn : k < n
    · left
      have := p6 k hkn
      simp only at this
      rw [← this]
      exact hk
    · exact .inr ⟨by omega, p8 k hk⟩

end
end Go.Proofs.Ytgdbnnmogddkaaa.Mach
