/- The abstract machine: slices cut, made and appended to. Conditions: as in MachD. -/
import Derived.Test.YtgdbnnmogddkaaaMachF
namespace Go.Proofs.Ytgdbnnmogddkaaa.Mach
open Go
set_option linter.unusedVariables false
set_option linter.unusedSimpArgs false

section
variable {X : Nat → Prop} {P : Program} {w : World} {β : Nat → Option Addr} {H : Hp}

theorem evSlice_ok {t : TypeId} {a : AV} {lo hi : Option AV} {x : Value} {lo' hi' : Option Value} {e : Eff} (he : evSlice P t a lo hi = some e) (hob : ∀ p ∈ e.ob, p)
    (hx : VR w β (ow X β H) a x)
    (rlo : OptR (VR w β (ow X β H)) lo lo')
    (rhi : OptR (VR w β (ow X β H)) hi hi') :
    e.wr = [] ∧ ∃ v, (Instr.sliceAt t x lo' hi' none).run P w = .ok v w ∧ VR w β (ow X β H) e.v v := by
  unfold evSlice at he
  split at he
  · rename_i hs
    split at he
    case h_2 => cases he
    rename_i s
    split at he
    case h_2 => cases he
    rename_i l h hl hh
    simp only [Option.some.injEq] at he
    subst he
    have h0 : 0 ≤ l := hob _ (by simp)
    have h1 : l ≤ h := hob _ (by simp)
    have h2 := hob _ (List.mem_cons_of_mem _ (List.mem_cons_of_mem _ (List.mem_cons_self ..)))
    cases hx; rename_i hp; cases hp
    have hb := bounds_ok (P := P) (w := w) (len := s.size) (cap := s.size) false (Nat.le_refl _) hl hh h0 h1 h2 rlo rhi
    refine ⟨rfl, .string (s.extract l.toNat h.toNat), ?_, .p _ _ (.str _)⟩
    simp only [Instr.sliceAt, Instr.slice, Sem.run_bind, run_underlying hs, Result.andThen_ok, hb, Option.isSome_none, Bool.false_eq_true, if_false, Sem.run_pure]
  · rename_i el hs
    split at he
    case h_2 => cases he
    rename_i i hinfo
    have run : ∀ (a : Option Addr) (len cap l h : Nat), (Instr.sliceBounds true len cap lo' hi' none).run P w = .ok (l, h, cap) w →
        (Instr.sliceAt t (.slice a len cap) lo' hi' none).run P w = .ok (.slice (if cap = l then a else a.map (·.add (l * i.size))) (h - l) (cap - l)) w := by
      intro a len cap l h hb
      simp only [Instr.sliceAt, Instr.slice, Sem.run_bind, run_underlying hs, Result.andThen_ok, hb, run_sizeOf hinfo, Sem.run_pure]
    split at he
    · rename_i tg z n f
      split at he
      case h_2 => cases he
      rename_i l h hl hh
      split at he
      case isFalse => cases he
      rename_i hz
      have hz : z = i.size := by simpa using hz
      simp only [Option.some.injEq] at he
      subst he
      have h0 : 0 ≤ l := hob _ (by simp)
      have h1 : l ≤ h := hob _ (by simp)
      have h2 : h ≤ (n : Int) := hob _ (by simp)
      cases hx; rename_i hp
      cases hp with
      | seq0 _ _ _ a c =>
        have hb := bounds_ok (P := P) (w := w) (len := 0) (cap := c) true (Nat.zero_le _) hl hh h0 h1 h2 rlo rhi
        refine ⟨rfl, _, run _ _ _ _ _ hb, .p _ _ ?_⟩
        have e1 : h.toNat - l.toNat = 0 := by omega
        simp only [e1]
        exact .seq0 _ _ _ _ _
      | seq _ _ _ _ b off c g hb' hlt hc hcell hone hp =>
        have hb := bounds_ok (P := P) (w := w) (len := n) (cap := c) true hc hl hh h0 h1 h2 rlo rhi
        refine ⟨rfl, _, run _ _ _ _ _ hb, .p _ _ ?_⟩
        by_cases hcl : c = l.toNat
        · have e1 : h.toNat - l.toNat = 0 := by omega
          simp only [e1]
          exact .seq0 _ _ _ _ _
        · simp only [hcl, if_false, Option.map_some, Addr.add_plain]
          refine .seq _ _ _ _ b (off + l.toNat * i.size) (c - l.toNat) (fun p q => g (p + l.toNat) q) hb' hlt (by omega) (fun p hp' q hq => ?_) (fun p hp' q hq => ?_) (fun p hp' q hq => ?_)
          · have e : off + l.toNat * i.size + (p * z + q) = off + ((p + l.toNat) * z + q) := by rw [Nat.add_mul, hz]; omega
            rw [e]
            exact hcell _ (by omega) _ hq
          · exact hone _ (by omega) _ hq
          · exact hp _ (by omega) _ hq
    · rename_i z o off n
      split at he
      case h_2 => cases he
      rename_i l h hl hh
      split at he
      case isFalse => cases he
      rename_i hz
      have hz : z = i.size := by simpa using hz
      simp only [Option.some.injEq] at he
      subst he
      have h0 : 0 ≤ l := hob _ (by simp)
      have h1 : l ≤ h := hob _ (by simp)
      have h2 : h ≤ (n : Int) := hob _ (by simp)
      cases hx with
      | ar0 _ _ _ a =>
        have hb := bounds_ok (P := P) (w := w) (len := 0) (cap := 0) true (Nat.zero_le _) hl hh h0 h1 h2 rlo rhi
        refine ⟨rfl, _, run _ _ _ _ _ hb, ?_⟩
        have e1 : h.toNat - l.toNat = 0 := by omega
        have e2 : (0 : Nat) - l.toNat = 0 := by omega
        simp only [e1, e2]
        exact .ar0 _ _ _ _
      | ar _ _ _ _ b base c cells elem fr hβ hh' hsz hc =>
        have hb := bounds_ok (P := P) (w := w) (len := n) (cap := c) true hc hl hh h0 h1 h2 rlo rhi
        refine ⟨rfl, _, run _ _ _ _ _ hb, ?_⟩
        by_cases hcl : c = l.toNat
        · have e1 : h.toNat - l.toNat = 0 := by omega
          have e2 : c - l.toNat = 0 := by omega
          simp only [e1, e2]
          exact .ar0 _ _ _ _
        · simp only [hcl, if_false, Option.map_some, Addr.add_plain]
          have e : base + off * z + l.toNat * i.size = base + (l.toNat + off) * z := by rw [Nat.add_mul, hz]; omega
          rw [e]
          refine .ar _ _ _ _ b base (c - l.toNat) cells elem fr hβ hh' ?_ (by omega)
          have : l.toNat + off + (c - l.toNat) = off + c := by omega
          rw [this]
          exact hsz
    · cases he
  · cases he

theorem evMake_ok {k : Nat} {t : TypeId} {la ca : AV} {l c : Value} {e : Eff} (hH : HR w β (ow X β H) H) (hS : Sep β H) (hβ : β k = none)
    (he : evMake P k t la ca = some e) (hob : ∀ p ∈ e.ob, p) (hl : VR w β (ow X β H) la l) (hc : VR w β (ow X β H) ca c) :
    ∃ v w' β', (Instr.makeSlice t l c).run P w = .ok v w' ∧ Placed X w β H w' β' (happ H e.wr) k ∧ VR w' β' (ow X β' (happ H e.wr)) e.v v := by
  unfold evMake at he
  split at he
  case h_2 => cases he
  rename_i el hs
  split at he
  case h_2 => cases he
  rename_i i hinfo
  split at he
  case h_2 => cases he
  rename_i zs kn n km m hzs
  cases hl; rename_i hp; cases hp
  cases hc; rename_i hp; cases hp
  simp only [Option.some.injEq] at he
  subst he
  have h0 : 0 ≤ n := hob _ (by simp)
  have h1 : n ≤ m := hob _ (by simp)
  have h2 : m * i.bytes ≤ 281474976710656 := hob _ (by simp)
  have h3 : m ≤ 9223372036854775807 := hob _ (by simp)
  obtain ⟨z, hz, hzl, hzs', hzc⟩ := zeroCells_ok hzs
  let cells : Array Value := (Array.range (m.toNat * i.size)).map (fun q => z.cells[q % z.cells.size]!)
  have hcells : ∀ q, q < m.toNat * i.size → ∃ u, cells[q]? = some u ∧ u = z.cells[q % i.size]! := by
    intro q hq
    refine ⟨z.cells[q % z.cells.size]!, ?_, by rw [hzs']⟩
    simp only [cells, Array.getElem?_map]
    rw [Array.getElem?_eq_getElem (by simpa using hq)]
    simp
  refine ⟨.slice (some ⟨w.heap.size, 0, none⟩) n.toNat m.toNat, w.alloc (.cells cells el), upd β k ⟨w.heap.size, 0, none⟩, ?_, ?_, ?_⟩
  · have hr := run_make (P := P) w t el i z hs hinfo hz kn km n m h0 h1 (by rw [Int.mul_comm]; exact h2) h3
    exact hr
  · simp only [happ]
    refine place_new (cells := cells) (elem := el) hH hS (fun _ _ h => h) hβ rfl rfl rfl rfl (fun p hp q hq => ?_)
    simp only at hp hq ⊢
    have hlt : p * i.size + q < m.toNat * i.size := mul_lt_row hp hq (by omega)
    obtain ⟨u, hu, hu'⟩ := hcells _ hlt
    obtain ⟨u2, g1, g2, g3⟩ := hzc q hq
    have hmod : (p * i.size + q) % i.size = q := by rw [Nat.mul_comm, Nat.mul_add_mod]; exact Nat.mod_eq_of_lt hq
    have hq' : q < z.cells.size := by omega
    have : u = u2 := by
      rw [hu', hmod]
      simp [hq'] at g1 ⊢
      exact g1
    exact ⟨u, hu, this ▸ g2, this ▸ g3 _ _ _⟩
  · have e : VR (w.alloc (.cells cells el)) (upd β k ⟨w.heap.size, 0, none⟩) (ow X (upd β k ⟨w.heap.size, 0, none⟩) (happ H [(k, some ⟨false, i.size, n.toNat, fun _ => zs⟩)])) (.ar i.size k 0 n.toNat) (.slice (some ⟨w.heap.size, 0 + 0 * i.size, none⟩) n.toNat m.toNat) := by
      refine .ar i.size k 0 n.toNat w.heap.size 0 m.toNat cells el (0, 0) (by simp [upd]) ?_ ?_ (by omega)
      · show (w.heap.push _)[w.heap.size]? = _
        simp
      · simp [cells]
    simpa using e

end
end Go.Proofs.Ytgdbnnmogddkaaa.Mach
