/- The abstract machine: strings, truth values, slices of slices, made slices, append, composite values. Conditions: as in MachD. -/
import Derived.Test.YtgdbnnmogddkaaaMachE
import Derived.Laws.StructEq
namespace Go.Proofs.Ytgdbnnmogddkaaa.Mach
open Go
set_option linter.unusedVariables false
set_option linter.unusedSimpArgs false

section
variable {X : Nat → Prop} {P : Program} {w : World} {β : Nat → Option Addr} {H : Hp}

theorem equalIn_bool {t : TypeId} (ht : P.underlying t = some .bool) (d : Nat) (a b : Bool) : (Op.equalIn (d + 1) t (.bool a) (.bool b)).run P w = .ok (a == b) w := by
  rw [Op.equalIn.eq_2]
  simp only [Sem.run_bind, run_underlying ht, Result.andThen_ok, Sem.run_pure]

theorem equal_bool {t : TypeId} (ht : P.underlying t = some .bool) (a b : Bool) : (Op.equal t (.bool a) (.bool b)).run P w = .ok (a == b) w :=
  equalIn_bool ht 9999 a b

theorem eqC_ok {d : TypeDesc} {t : TypeId} (hd : P.underlying t = some d) {a b : AV} {x y : Value} {r : Bool} (h : eqC d a b = some r) (hx : VR w β (ow X β H) a x) (hy : VR w β (ow X β H) b y) (n : Nat) :
    isAggD d = false ∧ (Op.equalIn (n + 1) t x y).run P w = .ok r w := by
  unfold eqC at h
  split at h
  · cases hx; rename_i hx; cases hx
    cases hy; rename_i hy; cases hy
    split at h
    case isFalse => cases h
    rename_i hk
    obtain rfl := ikEq_eq hk
    simp only [Option.some.injEq] at h
    subst h
    refine ⟨rfl, ?_⟩
    rw [Op.equalIn.eq_2]
    simp only [Sem.run_bind, run_underlying hd, Result.andThen_ok, Sem.run_pure, if_true]
  · cases hx; rename_i hx; cases hx
    cases hy; rename_i hy; cases hy
    simp only [Option.some.injEq] at h
    subst h
    exact ⟨rfl, equalIn_bool hd n _ _⟩
  · cases h

theorem run_partC {t : TypeId} {d : TypeDesc} (hd : P.underlying t = some d) (ha : isAggD d = false) (cs : Array Value) (off : Nat) (h : off < cs.size) : (part t cs off).run P w = .ok (cs.getD off undef) w := by
  unfold part
  simp only [Sem.run_bind, run_isAgg hd, Result.andThen_ok, ha, Bool.false_eq_true, if_false]
  rw [Array.getElem?_eq_getElem h]
  simp [Array.getD_eq_getD_getElem?, h]

theorem eqFs_ok {xs ys : List AV} {us vs : Array Value} (hx : VR w β (ow X β H) (.agg xs) (.agg us)) (hy : VR w β (ow X β H) (.agg ys) (.agg vs)) (n : Nat) : ∀ (fs : List Field) (off : Nat) (r : Bool),
    eqFs P xs ys fs off = some r → (Op.eqFields (n + 1) us vs fs).run P w = .ok r w
  | [], off, r, h => by
    simp only [eqFs, Option.some.injEq] at h
    subst h
    simp [Op.eqFields]
  | f :: fs, off, r, h => by
    simp only [eqFs] at h
    split at h
    case isFalse => cases h
    rename_i hc
    simp only [Bool.and_eq_true, beq_iff_eq, bne_iff_ne, ne_eq, Nat.blt_eq] at hc
    obtain ⟨⟨⟨c1, c2⟩, c3⟩, c4⟩ := hc
    split at h
    case h_2 => cases h
    rename_i d hd
    split at h
    case h_2 => cases h
    rename_i b r' hb hr
    simp only [Option.some.injEq] at h
    subst h
    cases hx with
    | agg _ _ hl1 ho1 hv1 =>
      cases hy with
      | agg _ _ hl2 ho2 hv2 =>
        obtain ⟨e1, e2⟩ := eqC_ok hd hb (hv1 off c3) (hv2 off c4) n
        have ih := eqFs_ok (.agg _ _ hl1 ho1 hv1) (.agg _ _ hl2 ho2 hv2) n fs (off + 1) r' hr
        simp only [Op.eqFields, c2, ne_eq, not_false_eq_true, if_true, Sem.run_bind, c1, run_partC hd e1 us off (by omega), run_partC hd e1 vs off (by omega), e2, Result.andThen_ok]
        cases b with
        | false => simp
        | true => simpa using ih

theorem equal_struct {t : TypeId} {fs : Array Field} {xs ys : List AV} {us vs : Array Value} {r : Bool} (hs : P.stoodInHeld t = false) (ht : P.underlying t = some (.struct fs)) (hx : VR w β (ow X β H) (.agg xs) (.agg us))
    (hy : VR w β (ow X β H) (.agg ys) (.agg vs)) (h : eqFs P xs ys fs.toList 0 = some r) : (Op.equal t (.agg us) (.agg vs)).run P w = .ok r w := by
  have hf : P.fieldsOf t = fs := by simp [Program.fieldsOf, ht]
  show (Op.equalIn (9999 + 1) t (.agg us) (.agg vs)).run P w = _
  rw [run_equalIn_struct w 9999 t us vs (by rw [hf]; exact ht) hs, hf]
  exact eqFs_ok hx hy 9998 fs.toList 0 r h

theorem evBin_ok {nw : Bool} {op : BinOp} {t : TypeId} {a b : AV} {x y : Value} {e : Eff} (he : evBin P nw op t a b = some e) (hob : ∀ p ∈ e.ob, p)
    (hx : VR w β (ow X β H) a x) (hy : VR w β (ow X β H) b y) :
    e.wr = [] ∧ ∃ v, (binOp op t x y).run P w = .ok v w ∧ VR w β (ow X β H) e.v v := by
  unfold evBin at he
  split at he
  · rename_i k a k' b
    cases hx; rename_i hx; cases hx
    cases hy; rename_i hy; cases hy
    split at he
    · simp only [Option.some.injEq] at he
      subst he
      have h0 : 0 ≤ b := hob _ (by simp)
      have h0' : ¬ b < 0 := by omega
      exact ⟨rfl, .int k (shlI k a b), by simp [binOp, Op.shift, h0', shlI], .p _ _ (.int _ _)⟩
    · simp only [Option.some.injEq] at he
      subst he
      have h0 : 0 ≤ b := hob _ (by simp)
      have h0' : ¬ b < 0 := by omega
      exact ⟨rfl, .int k (shrI k a b), by simp [binOp, Op.shift, h0', shrI], .p _ _ (.int _ _)⟩
    · split at he
      case isFalse => cases he
      rename_i hk
      obtain rfl := ikEq_eq hk
      cases hr : binI nw op k a b with
      | none => rw [hr] at he; cases he
      | some r =>
        rw [hr] at he
        simp only [Option.map_some, Option.some.injEq] at he
        subst he
        obtain ⟨v, h1, h2⟩ := binI_ok (P := P) (w := w) hr hob t (ow X β H)
        exact ⟨rfl, v, h1, .p _ _ h2⟩
  · rename_i a b
    cases hx; rename_i hx; cases hx
    cases hy; rename_i hy; cases hy
    split at he
    · simp only [Option.some.injEq] at he
      subst he
      have h0 : a.size + b.size ≤ 9223372036854775807 := hob _ (by simp)
      have h1 : ¬ ((a.size + b.size : Nat) : Int) > IntKind.i64.max := by
        simp only [IntKind.max, IntKind.signed, IntKind.bits]
        simp
        omega
      refine ⟨rfl, .string (a ++ b), ?_, .p _ _ (.str _)⟩
      simp only [binOp, Op.stringOp, h1, if_false]
      rfl
    · simp only [Option.some.injEq] at he
      subst he
      exact ⟨rfl, .bool (a.toList == b.toList), rfl, .p _ _ (.bool _)⟩
    · simp only [Option.some.injEq] at he
      subst he
      exact ⟨rfl, .bool (!(a.toList == b.toList)), rfl, .p _ _ (.bool _)⟩
    · cases he
  · rename_i a b
    cases hx; rename_i hx; cases hx
    cases hy; rename_i hy; cases hy
    split at he
    case h_2 => cases he
    rename_i ht
    split at he
    · simp only [Option.some.injEq] at he
      subst he
      exact ⟨rfl, .bool (a == b), by
        show (do pure (Value.bool (← Op.equal t (.bool a) (.bool b))) : Sem Value).run P w = _
        simp only [Sem.run_bind, equal_bool ht, Result.andThen_ok, Sem.run_pure], .p _ _ (.bool _)⟩
    · simp only [Option.some.injEq] at he
      subst he
      exact ⟨rfl, .bool (!(a == b)), by
        show (do pure (Value.bool (!(← Op.equal t (.bool a) (.bool b)))) : Sem Value).run P w = _
        simp only [Sem.run_bind, equal_bool ht, Result.andThen_ok, Sem.run_pure], .p _ _ (.bool _)⟩
    · cases he
  · rename_i xs ys
    split at he
    case isFalse => cases he
    rename_i hc
    simp only [Bool.and_eq_true, Bool.not_eq_true'] at hc
    split at he
    case h_2 => cases he
    rename_i fs ht
    have hx' := hx
    have hy' := hy
    cases hx
    cases hy
    split at he
    · obtain ⟨r, hr, rfl⟩ := Option.map_eq_some_iff.1 he
      exact ⟨rfl, .bool r, by
        show (do pure (Value.bool (← Op.equal t (.agg _) (.agg _))) : Sem Value).run P w = _
        simp only [Sem.run_bind, equal_struct hc.1 ht hx' hy' hr, Result.andThen_ok, Sem.run_pure], .p _ _ (.bool _)⟩
    · obtain ⟨r, hr, rfl⟩ := Option.map_eq_some_iff.1 he
      exact ⟨rfl, .bool (!r), by
        show (do pure (Value.bool (!(← Op.equal t (.agg _) (.agg _)))) : Sem Value).run P w = _
        simp only [Sem.run_bind, equal_struct hc.1 ht hx' hy' hr, Result.andThen_ok, Sem.run_pure], .p _ _ (.bool _)⟩
    · cases he
  · cases he

theorem eqGuard_ok {op : BinOp} {t : TypeId} {x y : Operand} {a b : AV} {u v : Value} (hx : VR w β (ow X β H) a u) (hy : VR w β (ow X β H) b v) {nw : Bool} {e : Eff}
    (he : evBin P nw op t a b = some e) : (eqGuard op t x y u v).run P w = .ok () w := by
  unfold evBin at he
  split at he
  · cases hx; rename_i hx; cases hx
    cases hy; rename_i hy; cases hy
    unfold eqGuard; split <;> rfl
  · cases hx; rename_i hx; cases hx
    cases hy; rename_i hy; cases hy
    unfold eqGuard; split <;> rfl
  · cases hx; rename_i hx; cases hx
    cases hy; rename_i hy; cases hy
    unfold eqGuard; split <;> rfl
  · split at he
    case isFalse => cases he
    rename_i hc
    simp only [Bool.and_eq_true, Bool.not_eq_true'] at hc
    cases hx
    cases hy
    cases op <;> simp [eqGuard, hc.2]
  · cases he

theorem evPick_ok {c : Bool} {a b : AV} {x y : Value} {e : Eff} (he : evPick c a b = some e) (hob : ∀ p ∈ e.ob, p)
    (hx : VR w β (ow X β H) a x) (hy : VR w β (ow X β H) b y) :
    e.wr = [] ∧ VR w β (ow X β H) e.v (if c then x else y) := by
  have un : ∀ {v : AV} {u : Value} {r : AV} {f : Bool → List Prop}, unC v = (r, f) → VR w β (ow X β H) v u → (∀ p ∈ f true, p) → VR w β (ow X β H) r u := by
    intro v u r f hu hv hp
    unfold unC at hu
    split at hu
    · simp only [Prod.mk.injEq] at hu
      obtain ⟨rfl, rfl⟩ := hu
      cases hv with
      | cnd _ _ _ h _ => exact h (hp _ (by simp))
    · simp only [Prod.mk.injEq] at hu
      obtain ⟨rfl, rfl⟩ := hu
      exact hv
  unfold evPick at he
  split at he
  · rename_i p f q g h1 h2
    simp only [Option.some.injEq] at he
    subst he
    refine ⟨rfl, ?_⟩
    cases c with
    | true =>
      have := un h1 hx (fun p hp => hob (true = true → p) (List.mem_append_left _ (List.mem_map.2 ⟨p, hp, rfl⟩)) rfl)
      simpa using this
    | false =>
      have := un h2 hy (fun p hp => hob (false = false → p) (List.mem_append_right _ (List.mem_map.2 ⟨p, hp, rfl⟩)) rfl)
      simpa using this
  · rename_i k p f k' q g h1 h2
    split at he
    case isFalse => cases he
    rename_i hk
    obtain rfl := ikEq_eq hk
    simp only [Option.some.injEq] at he
    subst he
    refine ⟨rfl, ?_⟩
    cases c with
    | true =>
      have := un h1 hx (fun p hp => hob (true = true → p) (List.mem_append_left _ (List.mem_map.2 ⟨p, hp, rfl⟩)) rfl)
      simpa using this
    | false =>
      have := un h2 hy (fun p hp => hob (false = false → p) (List.mem_append_right _ (List.mem_map.2 ⟨p, hp, rfl⟩)) rfl)
      simpa using this
  · cases he

theorem evMinMax_ok {mx : Bool} {a b : AV} {x y : Value} {e : Eff} (ts : Array TypeId) (ty : TypeId) (he : evMinMax mx a b = some e)
    (hx : VR w β (ow X β H) a x) (hy : VR w β (ow X β H) b y) :
    e.wr = [] ∧ ∃ v, (if mx then Builtin.max_ ts ty #[x, y] else Builtin.min_ ts ty #[x, y]).run P w = .ok v w ∧ VR w β (ow X β H) e.v v := by
  unfold evMinMax at he
  split at he
  case h_2 => cases he
  cases hx; rename_i hx; cases hx
  cases hy; rename_i hy; cases hy
  simp only [Option.some.injEq] at he
  subst he
  cases mx with
  | true => exact ⟨rfl, _, by simp [Builtin.max_, Builtin.max2], .p _ _ (.int _ _)⟩
  | false => exact ⟨rfl, _, by simp [Builtin.min_, Builtin.min2], .p _ _ (.int _ _)⟩

theorem run_sliceBound {kk : IntKind} {n : Int} {y : Nat} (code : BoundsCode) (h0 : 0 ≤ n) (h1 : n ≤ (y : Int)) : (Instr.sliceBound (.int kk n) y code).run P w = .ok n.toNat w := by
  simp [Instr.sliceBound, asIntOf, h0, h1]

def OptR (R : AV → Value → Prop) : Option AV → Option Value → Prop
  | some a, some v => R a v
  | none, none => True
  | _, _ => False

/-- The two bounds. -/
theorem bounds_ok {lo hi : Option AV} {lo' hi' : Option Value} {len cap : Nat} {l h : Int} (isSlice : Bool) (hlc : len ≤ cap)
    (hlo : boundA lo 0 = some l) (hhi : boundA hi (len : Nat) = some h) (h0 : 0 ≤ l) (h1 : l ≤ h) (h2 : h ≤ (len : Int))
    (rlo : OptR (VR w β (ow X β H)) lo lo')
    (rhi : OptR (VR w β (ow X β H)) hi hi') :
    (Instr.sliceBounds isSlice len cap lo' hi' none).run P w = .ok (l.toNat, h.toNat, cap) w := by
  have hL : ∀ (y : Nat) (code : BoundsCode), l ≤ (y : Int) → (match lo' with | some v => Instr.sliceBound v y code | none => pure 0 : Sem Nat).run P w = .ok l.toNat w := by
    intro y code hy
    cases lo with
    | none =>
      cases lo' with
      | none => simp [boundA] at hlo; subst hlo; simp
      | some v => exact absurd rlo (by simp [OptR])
    | some a =>
      cases lo' with
      | none => exact absurd rlo (by simp [OptR])
      | some v =>
        simp only [OptR] at rlo
        unfold boundA at hlo
        split at hlo
        · rename_i hh; cases hh
        · rename_i kk n hh
          cases hh
          cases rlo; rename_i hp; cases hp
          simp only [Option.some.injEq] at hlo
          subst hlo
          exact run_sliceBound code h0 hy
        · cases hlo
  have hHi : ∀ (code : BoundsCode), (match hi' with | some v => Instr.sliceBound v cap code | none => pure len : Sem Nat).run P w = .ok h.toNat w := by
    intro code
    cases hi with
    | none =>
      cases hi' with
      | none => simp [boundA] at hhi; subst hhi; simp
      | some v => exact absurd rhi (by simp [OptR])
    | some a =>
      cases hi' with
      | none => exact absurd rhi (by simp [OptR])
      | some v =>
        simp only [OptR] at rhi
        unfold boundA at hhi
        split at hhi
        · rename_i hh; cases hh
        · rename_i kk n hh
          cases hh
          cases rhi; rename_i hp; cases hp
          simp only [Option.some.injEq] at hhi
          subst hhi
          exact run_sliceBound code (by omega) (by omega)
        · cases hhi
  have h4 := fun code => hL h.toNat code (by omega)
  cases hi' with
  | none =>
    have h3 := hHi .sliceAcap
    simp only [Sem.run_pure, Result.ok.injEq, and_true] at h3
    cases lo' with
    | none =>
      have h5 := h4 .sliceB
      simp only [Sem.run_pure, Result.ok.injEq, and_true] at h5
      simp only [Instr.sliceBounds, Sem.run_bind, Sem.run_pure, Result.andThen_ok, ← h3, ← h5]
    | some v =>
      have h5 := h4 .sliceB
      simp only [] at h5
      simp only [Instr.sliceBounds, Sem.run_bind, Sem.run_pure, Result.andThen_ok, h3, h5]
      simp [h5]
  | some v =>
    have h3 := hHi (if isSlice then .sliceAcap else .sliceAlen)
    simp only [] at h3
    cases lo' with
    | none =>
      have h5 := h4 .sliceB
      simp only [Sem.run_pure, Result.ok.injEq, and_true] at h5
      simp only [Instr.sliceBounds, Sem.run_bind, Sem.run_pure, Result.andThen_ok, h3, ← h5]
    | some v' =>
      have h5 := h4 .sliceB
      simp only [] at h5
      simp only [Instr.sliceBounds, Sem.run_bind, Sem.run_pure, Result.andThen_ok, h3]
      simp [h5]

end
end Go.Proofs.Ytgdbnnmogddkaaa.Mach
