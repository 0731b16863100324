/- The abstract machine: more operations (new variables, fields, indices, lengths, made slices, sums and comparisons). Conditions: as in MachD. -/
import Derived.Test.YtgdbnnmogddkaaaMachD
namespace Go.Proofs.Ytgdbnnmogddkaaa.Mach
open Go
set_option linter.unusedVariables false
set_option linter.unusedSimpArgs false

section
variable {X : Nat → Prop} {P : Program} {w : World} {β : Nat → Option Addr} {H : Hp}

theorem ip_inv {own : Bool → Nat → Prop} {tg : Bool} {cs : List PV} {x : Value} (h : VR w β own (.ip tg cs) x) :
    ∃ (b off : Nat) (g : Nat → Value), x = .pointer (some ⟨b, off, none⟩) ∧ ¬ own tg b ∧ b < w.heap.size ∧ (∀ j, j < cs.length → w.cell? ⟨b, off + j, none⟩ = some (g j)) ∧ (∀ j, j < cs.length → One (g j)) ∧
      ∀ j, j < cs.length → PR w own (cs.getD j .any) (g j) := by
  cases h with
  | ip _ _ b off g hb hlt hcell hone hp => exact ⟨b, off, g, rfl, hb, hlt, hcell, hone, hp⟩

theorem seq_inv {own : Bool → Nat → Prop} {tg : Bool} {z n : Nat} {f : Nat → List PV} {x : Value} (h : VR w β own (.p (.seq tg z n f)) x) :
    (n = 0 ∧ ∃ a c, x = .slice a 0 c) ∨ ∃ (b off c : Nat) (g : Nat → Nat → Value), x = .slice (some ⟨b, off, none⟩) n c ∧ ¬ own tg b ∧ b < w.heap.size ∧ n ≤ c ∧
      (∀ i, i < n → ∀ j, j < z → w.cell? ⟨b, off + (i * z + j), none⟩ = some (g i j)) ∧ (∀ i, i < n → ∀ j, j < z → One (g i j)) ∧
      ∀ i, i < n → ∀ j, j < z → PR w own ((f i).getD j .any) (g i j) := by
  cases h with
  | p _ _ h =>
    cases h with
    | seq0 _ _ _ a c => exact .inl ⟨rfl, a, c, rfl⟩
    | seq _ _ _ _ b off c g hb hlt hc hcell hone hp => exact .inr ⟨b, off, c, g, rfl, hb, hlt, hc, hcell, hone, hp⟩

theorem mapD {α γ : Type} (g : α → γ) (l : List α) (j : Nat) (d : α) (d' : γ) (hj : j < l.length) : (l.map g).getD j d' = g (l.getD j d) := by
  simp [List.getD_eq_getElem?_getD, hj]

theorem zeroCells_ok {i : TypeInfo} {cs : List AV} (h : zeroCells i = some cs) :
    ∃ z, i.zero = some z ∧ cs.length = i.size ∧ z.cells.size = i.size ∧ ∀ j, j < i.size → ∃ u, z.cells[j]? = some u ∧ One u ∧ ∀ (w : World) (β : Nat → Option Addr) (own : Bool → Nat → Prop), VR w β own (cs.getD j anyA) u := by
  unfold zeroCells at h
  split at h
  case h_2 => cases h
  rename_i z hz
  split at h
  case isFalse => cases h
  rename_i hc
  simp only [Bool.and_eq_true, List.all_eq_true, beq_iff_eq] at hc
  simp only [Option.some.injEq] at h
  subst h
  refine ⟨z, hz, by simp [hc.2], hc.2, fun j hj => ?_⟩
  have hj' : j < z.cells.size := by omega
  refine ⟨z.cells[j], by simp [hj'], hc.1 _ (by simp), fun w β own => ?_⟩
  rw [mapD (fun v => AV.p (absV v)) z.cells.toList j undef anyA (by simpa using hj')]
  have : z.cells.toList.getD j undef = z.cells[j] := by simp [List.getD_eq_getElem?_getD, hj']
  rw [this]
  exact .p _ _ (absV_rel _ _ _)

/-- A new variable with known cells. -/
theorem newVar_ok (hH : HR w β (ow X β H) H) (hS : Sep β H) {k : Nat} (hβ : β k = none) (t : TypeId) (v : Value) {cs : List AV} (hl : cs.length = v.cells.size)
    (hc : ∀ j, j < cs.length → One (v.cells.getD j undef) ∧ VR w β (ow X β H) (cs.getD j anyA) (v.cells.getD j undef)) :
    ∃ w', (newVar t v).run P w = .ok ⟨w.heap.size, 0, none⟩ w' ∧
      Placed X w β H w' (upd β k ⟨w.heap.size, 0, none⟩) (hput k ⟨true, cs.length, 1, fun _ => cs⟩ H) k := by
  refine ⟨w.alloc (.cells v.cells t), by simp [newVar, newRow], ?_⟩
  refine place_new (cells := v.cells) (elem := t) hH hS (fun _ _ h => h) hβ rfl rfl rfl rfl (fun i hi j hj => ?_)
  simp only at hi hj ⊢
  obtain ⟨h1, h2⟩ := hc j hj
  have : i = 0 := by omega
  subst this
  refine ⟨v.cells.getD j undef, ?_, h1, h2⟩
  have : j < v.cells.size := by omega
  simp [Array.getD, this]

theorem evFieldAddr_ok {s : TypeId} {a : AV} {x : Value} {f : Nat} {e : Eff} (he : evFieldAddr P s a f = some e) (hx : VR w β (ow X β H) a x) :
    e.wr = [] ∧ ∃ v, (Instr.fieldAt s x f).run P w = .ok v w ∧ VR w β (ow X β H) e.v v := by
  unfold evFieldAddr at he
  split at he
  case h_2 => cases he
  rename_i fs hs
  split at he
  case h_2 => cases he
  rename_i fl hf
  split at he
  case h_2 => cases he
  rename_i i hi
  split at he
  case isTrue => cases he
  rename_i hsz
  have hsz' : ¬ (i.size = 0) := by simpa using hsz
  have run : ∀ (b o : Nat), (Instr.fieldAt s (.pointer (some ⟨b, o, none⟩)) f).run P w = .ok (.pointer (some ⟨b, o + fl.offset, none⟩)) w := by
    intro b o
    simp [Instr.fieldAt, run_underlying hs, hf, Instr.sureAddr, fieldPlace, run_sizeOf hi, hsz', Addr.add_plain]
  split at he
  · cases hx
    rename_i z o row off b base hβ
    simp only [Option.some.injEq] at he
    subst he
    refine ⟨rfl, _, run _ _, ?_⟩
    have e : base + (row * z + off) + fl.offset = base + (row * z + (off + fl.offset)) := by omega
    rw [e]
    exact .pt _ _ _ _ _ _ hβ
  · split at he
    case isFalse => cases he
    rename_i hle
    simp only [Nat.ble_eq] at hle
    rename_i tg cs _
    obtain ⟨b, off, g, rfl, hb, hlt, hcell, hone, hp⟩ := ip_inv hx
    simp only [Option.some.injEq] at he
    subst he
    refine ⟨rfl, _, run _ _, ?_⟩
    refine .ip _ _ b (off + fl.offset) (fun j => g (fl.offset + j)) hb hlt (fun j hj => ?_) (fun j hj => ?_) (fun j hj => ?_)
    · rw [List.length_drop] at hj
      rw [Nat.add_assoc]
      exact hcell _ (by omega)
    · rw [List.length_drop] at hj
      exact hone _ (by omega)
    · rw [List.length_drop] at hj
      have := hp (fl.offset + j) (by omega)
      simpa [List.getD_eq_getElem?_getD, List.getElem?_drop] using this
  · cases he

theorem run_part_agg {t : TypeId} {d : TypeDesc} {i : TypeInfo} (h : P.underlying t = some d) (hi : P.info? t = some i) (hd : isAggD d = true) (cs : Array Value) (off : Nat) :
    (part t cs off).run P w = .ok (.agg (cs.extract off (off + i.size))) w := by
  unfold part
  simp [run_isAgg h, hd, run_sizeOf hi]

theorem run_part_one {t : TypeId} {d : TypeDesc} (h : P.underlying t = some d) (hd : isAggD d = false) (cs : Array Value) (off : Nat) (v : Value) (hv : cs[off]? = some v) :
    (part t cs off).run P w = .ok v w := by
  unfold part
  simp [run_isAgg h, hd, hv]

theorem evField_ok {s : TypeId} {a : AV} {x : Value} {f : Nat} {e : Eff} (he : evField P s a f = some e) (hx : VR w β (ow X β H) a x) :
    e.wr = [] ∧ ∃ v, (Instr.field s x f).run P w = .ok v w ∧ VR w β (ow X β H) e.v v := by
  unfold evField at he
  split at he
  case h_2 => cases he
  rename_i fs hs
  split at he
  case h_2 => cases he
  rename_i fl hf
  split at he
  case h_2 => cases he
  rename_i d i hd hi
  split at he
  case h_2 => cases he
  rename_i cs
  split at he
  case isFalse => cases he
  rename_i hle
  simp only [Bool.and_eq_true, Nat.ble_eq] at hle
  cases hx
  rename_i vs hl hone h
  split at he
  · rename_i hagg
    simp only [Option.some.injEq] at he
    subst he
    refine ⟨rfl, .agg (vs.extract fl.offset (fl.offset + i.size)), ?_, ?_⟩
    · simp [Instr.field, run_underlying hs, hf, asAgg, run_part_agg hd hi hagg]
    · have e : ∀ j, j < i.size → (vs.extract fl.offset (fl.offset + i.size)).getD j undef = vs.getD (fl.offset + j) undef := by
        intro j hj
        have h1 : j < (vs.extract fl.offset (fl.offset + i.size)).size := by simp; omega
        have h2 : fl.offset + j < vs.size := by omega
        simp only [Array.getD]
        rw [dif_pos h1, dif_pos h2]
        simp
      refine .agg _ _ (by simp [tab_length]; omega) (fun j hj => ?_) (fun j hj => ?_)
      · rw [tab_length] at hj
        rw [e j hj]
        exact hone _ (by omega)
      · rw [tab_length] at hj
        rw [e j hj, tab_getD _ _ _ _ hj]
        exact h _ (by omega)
  · rename_i hagg
    simp only [Option.some.injEq] at he
    subst he
    refine ⟨rfl, vs.getD fl.offset undef, ?_, h _ (by omega)⟩
    have h2 : fl.offset < vs.size := by omega
    have hv : vs[fl.offset]? = some (vs.getD fl.offset undef) := by simp [Array.getD, h2]
    simp only [Instr.field, Sem.run_bind, run_underlying hs, Result.andThen_ok, hf, asAgg, Sem.run_pure]
    exact run_part_one hd (by simpa using hagg) vs _ _ hv

theorem evIndexAddr_ok {t : TypeId} {a ia : AV} {x ix : Value} {e : Eff} (he : evIndexAddr P t a ia = some e) (hob : ∀ p ∈ e.ob, p) (hx : VR w β (ow X β H) a x) (hi : VR w β (ow X β H) ia ix) :
    e.wr = [] ∧ ∃ v, (Instr.indexAt t x ix).run P w = .ok v w ∧ VR w β (ow X β H) e.v v := by
  unfold evIndexAddr at he
  split at he
  case h_2 => cases he
  rename_i kk k
  cases hi
  rename_i hik
  cases hik
  split at he
  · rename_i el hs
    split at he
    case h_2 => cases he
    rename_i i hinfo
    split at he
    · rename_i tg z n f
      split at he
      case isFalse => cases he
      rename_i hz
      have hz : z = i.size := by simpa using hz
      simp only [Option.some.injEq] at he
      subst he
      have h0 : 0 ≤ k := hob _ (by simp)
      have h1 : k < (n : Int) := hob _ (by simp)
      rcases seq_inv hx with ⟨h, _⟩ | ⟨b, off, c, g, rfl, hb, hlt, hc, hcell, hone, hp⟩
      · omega
      · have hkn : k.toNat < n := by omega
        refine ⟨rfl, .pointer (some ⟨b, off + k.toNat * z, none⟩), ?_, ?_⟩
        · simp [Instr.indexAt, asIntOf, run_underlying hs, h0, h1, run_sizeOf hinfo, Addr.add_plain, hz]
        · refine .ip _ _ b _ (g k.toNat) hb hlt (fun j hj => ?_) (fun j hj => ?_) (fun j hj => ?_)
          · rw [tab_length] at hj
            rw [Nat.add_assoc]
            exact hcell _ hkn _ hj
          · rw [tab_length] at hj
            exact hone _ hkn _ hj
          · rw [tab_length] at hj
            rw [tab_getD _ _ _ _ hj]
            exact hp _ hkn _ hj
    · rename_i z o off n
      split at he
      case isFalse => cases he
      rename_i hz
      have hz : z = i.size := by simpa using hz
      simp only [Option.some.injEq] at he
      subst he
      have h0 : 0 ≤ k := hob _ (by simp)
      have h1 : k < (n : Int) := hob _ (by simp)
      cases hx with
      | ar0 => omega
      | ar _ _ _ _ b base c cells elem fr hβ hh hsz hc =>
        refine ⟨rfl, .pointer (some ⟨b, base + off * z + k.toNat * z, none⟩), ?_, ?_⟩
        · simp [Instr.indexAt, asIntOf, run_underlying hs, h0, h1, run_sizeOf hinfo, Addr.add_plain, hz]
        · have e : base + off * z + k.toNat * z = base + ((k.toNat + off) * z + 0) := by rw [Nat.add_mul]; omega
          rw [e]
          exact .pt _ _ _ _ _ _ hβ
    · cases he
  · rename_i len el hs
    split at he
    case h_2 => cases he
    rename_i i hinfo
    split at he
    case h_2 => cases he
    rename_i z o row off
    simp only [Option.some.injEq] at he
    subst he
    have h0 : 0 ≤ k := hob _ (by simp)
    have h1 : k < (len : Int) := hob _ (by simp)
    cases hx
    rename_i b base hβ
    refine ⟨rfl, .pointer (some ⟨b, base + (row * z + off) + k.toNat * i.size, none⟩), ?_, ?_⟩
    · simp [Instr.indexAt, asIntOf, run_underlying hs, Instr.sureAddr, h0, h1, run_sizeOf hinfo, Addr.add_plain]
    · have e : base + (row * z + off) + k.toNat * i.size = base + (row * z + (off + k.toNat * i.size)) := by omega
      rw [e]
      exact .pt _ _ _ _ _ _ hβ
  · cases he

theorem evIndex_ok {t : TypeId} {a ia : AV} {x ix : Value} {e : Eff} (he : evIndex P t a ia = some e) (hob : ∀ p ∈ e.ob, p) (hx : VR w β (ow X β H) a x) (hi : VR w β (ow X β H) ia ix) :
    e.wr = [] ∧ ∃ v, (Instr.index t x ix).run P w = .ok v w ∧ VR w β (ow X β H) e.v v := by
  unfold evIndex at he
  split at he
  case h_2 => cases he
  rename_i kk k
  cases hi
  rename_i hik
  cases hik
  split at he
  · rename_i s hs
    simp only [Option.some.injEq] at he
    subst he
    have h0 : 0 ≤ k := hob _ (by simp)
    have h1 : k < (s.size : Int) := hob _ (by simp)
    cases hx
    rename_i hp
    cases hp
    have hlt : k.toNat < s.size := by omega
    have hd : k.toNat < s.data.size := hlt
    refine ⟨rfl, .int .u8 (s[k.toNat]'hlt).toNat, ?_, ?_⟩
    · simp [Instr.index, asIntOf, run_underlying hs, h0, hlt]
    · have : s.data.getD k.toNat 0 = s[k.toNat]'hlt := by
        simp only [Array.getD]
        rw [dif_pos hd]
        rfl
      simp only [this]
      exact .p _ _ (.int _ _)
  · rename_i len el cs hs
    split at he
    case h_2 => cases he
    rename_i d i hd hinfo
    split at he
    case isTrue => cases he
    rename_i hagg
    split at he
    case isFalse => cases he
    rename_i hle
    simp only [Nat.ble_eq] at hle
    simp only [Option.some.injEq] at he
    subst he
    have h0 : 0 ≤ k := hob _ (by simp)
    have h1 : k < (len : Int) := hob _ (by simp)
    cases hx
    rename_i vs hl hone h
    refine ⟨rfl, vs.getD (k.toNat * i.size) undef, ?_, h _ (by omega)⟩
    have h2 : k.toNat * i.size < vs.size := by omega
    have hv : vs[k.toNat * i.size]? = some (vs.getD (k.toNat * i.size) undef) := by simp [Array.getD, h2]
    have hp := run_part_one (w := w) hd (by simpa using hagg) vs _ _ hv
    simp [Instr.index, asIntOf, run_underlying hs, h0, h1, run_sizeOf hinfo, hp]
  · cases he

theorem evLen_ok {t : TypeId} {a : AV} {x : Value} {e : Eff} (ty : TypeId) (he : evLen P t a = some e) (hx : VR w β (ow X β H) a x) :
    e.wr = [] ∧ ∃ v, (Builtin.len_ #[t] ty #[x]).run P w = .ok v w ∧ VR w β (ow X β H) e.v v := by
  unfold evLen at he
  split at he
  · rename_i s hs
    simp only [Option.some.injEq] at he
    subst he
    cases hx
    rename_i hp
    cases hp
    exact ⟨rfl, goInt s.size, by simp [Builtin.len_, run_underlying hs], .p _ _ (.int _ _)⟩
  · rename_i el tg z n f hs
    simp only [Option.some.injEq] at he
    subst he
    cases hx
    rename_i hp
    cases hp
    · exact ⟨rfl, goInt (0 : Nat), by simp [Builtin.len_, run_underlying hs], .p _ _ (.int _ _)⟩
    · exact ⟨rfl, goInt n, by simp [Builtin.len_, run_underlying hs], .p _ _ (.int _ _)⟩
  · rename_i el hs
    simp only [Option.some.injEq] at he
    subst he
    cases hx
    rename_i hp
    cases hp
    exact ⟨rfl, goInt (0 : Nat), by simp [Builtin.len_, run_underlying hs], .p _ _ (.int _ _)⟩
  · rename_i el z o off n hs
    simp only [Option.some.injEq] at he
    subst he
    cases hx
    · exact ⟨rfl, goInt (0 : Nat), by simp [Builtin.len_, run_underlying hs], .p _ _ (.int _ _)⟩
    · exact ⟨rfl, goInt n, by simp [Builtin.len_, run_underlying hs], .p _ _ (.int _ _)⟩
  · cases he

theorem wr1_ok {nw : Bool} {k : IntKind} {n : Int} (hob : ∀ p ∈ (wr1 nw k n).2, p) (own : Bool → Nat → Prop) : PR w own (wr1 nw k n).1 (.int k (k.wrap n)) := by
  unfold wr1 at *
  cases nw with
  | true =>
    simp only [if_true] at hob ⊢
    rw [wrap_in (hob _ (by simp)) (hob _ (by simp))]
    exact .int _ _
  | false => exact .int _ _

theorem tdiv_in {k : IntKind} {x y : Int} (h0 : 0 ≤ x) (hy : 0 < y) (h1 : x / y ≤ imax k) : k.wrap (x.tdiv y) = x / y := by
  rw [Int.tdiv_eq_ediv_of_nonneg h0]
  refine wrap_in ?_ h1
  have : 0 ≤ x / y := Int.ediv_nonneg h0 (by omega)
  cases k <;> simp only [imin] <;> omega

theorem binI_ok {nw : Bool} {op : BinOp} {k : IntKind} {x y : Int} {r : PV × List Prop} (he : binI nw op k x y = some r) (hob : ∀ p ∈ r.2, p) (t : TypeId) (own : Bool → Nat → Prop) :
    ∃ v, (binOp op t (.int k x) (.int k y)).run P w = .ok v w ∧ PR w own r.1 v := by
  cases op <;> simp only [binI, Option.some.injEq, reduceCtorEq] at he <;> subst he
  case add => exact ⟨_, by simp [binOp, Op.intArith], wr1_ok hob own⟩
  case sub => exact ⟨_, by simp [binOp, Op.intArith], wr1_ok hob own⟩
  case mul => exact ⟨_, by simp [binOp, Op.intArith], wr1_ok hob own⟩
  case quo =>
    cases nw with
    | true =>
      simp only [if_true] at hob ⊢
      have h0 : 0 ≤ x := hob _ (by simp)
      have hy : 0 < y := hob _ (by simp)
      have h1 : x / y ≤ imax k := hob _ (by simp)
      have hne : y ≠ 0 := by omega
      exact ⟨.int k (x / y), by simp [binOp, Op.intDiv, hne, tdiv_in h0 hy h1], .int _ _⟩
    | false =>
      have hne : y ≠ 0 := hob _ (by simp)
      exact ⟨_, by simp [binOp, Op.intDiv, hne], .int _ _⟩
  case rem =>
    cases nw with
    | true =>
      simp only [if_true] at hob ⊢
      have h0 : 0 ≤ x := hob _ (by simp)
      have hy : 0 < y := hob _ (by simp)
      have hne : y ≠ 0 := by omega
      exact ⟨.int k (x % y), by simp [binOp, Op.intDiv, hne, Int.tmod_eq_emod_of_nonneg h0], .int _ _⟩
    | false =>
      have hne : y ≠ 0 := hob _ (by simp)
      exact ⟨_, by simp [binOp, Op.intDiv, hne], .int _ _⟩
  case and => exact ⟨.int k (bitI .and k x y), by simp only [binOp, ne_eq, not_true_eq_false, if_false, Op.intBits]; rfl, .int _ _⟩
  case or => exact ⟨.int k (bitI .or k x y), by simp only [binOp, ne_eq, not_true_eq_false, if_false, Op.intBits]; rfl, .int _ _⟩
  case xor => exact ⟨.int k (bitI .xor k x y), by simp only [binOp, ne_eq, not_true_eq_false, if_false, Op.intBits]; rfl, .int _ _⟩
  case andNot => exact ⟨.int k (bitI .andNot k x y), by simp only [binOp, ne_eq, not_true_eq_false, if_false, Op.intBits]; rfl, .int _ _⟩
  case eql => exact ⟨.bool (x == y), by simp [binOp, Op.intCmp], .bool _⟩
  case neq => exact ⟨.bool (x != y), by simp [binOp, Op.intCmp], .bool _⟩
  case lss => exact ⟨.bool (decide (x < y)), by simp [binOp, Op.intCmp], .bool _⟩
  case leq => exact ⟨.bool (decide (x ≤ y)), by simp [binOp, Op.intCmp], .bool _⟩
  case gtr => exact ⟨.bool (decide (x > y)), by simp [binOp, Op.intCmp], .bool _⟩
  case geq => exact ⟨.bool (decide (x ≥ y)), by simp [binOp, Op.intCmp], .bool _⟩

end
end Go.Proofs.Ytgdbnnmogddkaaa.Mach
