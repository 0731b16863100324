/- The abstract machine: append. Conditions: as in MachD. -/
import Derived.Test.YtgdbnnmogddkaaaMachG
namespace Go.Proofs.Ytgdbnnmogddkaaa.Mach
open Go
set_option linter.unusedVariables false
set_option linter.unusedSimpArgs false

section
variable {X : Nat → Prop} {P : Program} {w : World} {β : Nat → Option Addr} {H : Hp}

theorem tab_getElem? {α : Type} (n : Nat) (f : Nat → α) (j : Nat) (hj : j < n) : (tab n f)[j]? = some (f j) := by
  have hl : j < (tab n f).length := by rw [tab_length]; exact hj
  have h2 := tab_getD n f j (f j) hj
  rw [List.getD_eq_getElem?_getD, List.getElem?_eq_getElem hl] at h2
  rw [List.getElem?_eq_getElem hl]
  simpa using h2

theorem run_loadCells_tab (b off n : Nat) (g : Nat → Value) (h : ∀ j, j < n → w.cell? ⟨b, off + j, none⟩ = some (g j)) :
    (loadCells ⟨b, off, none⟩ n).run P w = .ok (tab n g).toArray w := by
  have hl : n = (tab n g).length := (tab_length n g).symm
  have := run_loadCells_list (P := P) w ⟨b, off, none⟩ (tab n g) (fun j v hv => by
    have hj : j < n := by rw [hl]; exact (List.getElem?_eq_some_iff.1 hv).1
    rw [tab_getElem? n g j hj] at hv
    cases hv
    rw [Addr.add_plain]
    exact h j hj)
  rw [← hl] at this
  exact this

theorem divmod_lt {q m z : Nat} (h : q < m * z) : q / z < m ∧ q % z < z ∧ q / z * z + q % z = q := by
  have hz : 0 < z := by
    rcases Nat.eq_zero_or_pos z with h0 | h0
    · subst h0; omega
    · exact h0
  refine ⟨Nat.div_lt_of_lt_mul (by rw [Nat.mul_comm]; exact h), Nat.mod_lt _ hz, ?_⟩
  rw [Nat.mul_comm]
  exact Nat.div_add_mod q z

/-- The cells of a slice, as an array, in every world with this heap. -/
structure Cells (P : Program) (w : World) (β : Nat → Option Addr) (own : Bool → Nat → Prop) (z m : Nat) (fx : Nat → List AV) (x : Value) (news : Array Value) : Prop where
  size : news.size = m * z
  len : ∀ w2, (Builtin.lenOf x).run P w2 = .ok m w2
  run : ∀ w2 : World, w2.heap = w.heap → (Builtin.firstCells z m x).run P w2 = .ok news w2
  cell : ∀ i, i < m → ∀ j, j < z → ∃ u, news[i * z + j]? = some u ∧ One u ∧ VR w β own ((fx i).getD j anyA) u
  one : ∀ u ∈ news.toList, u.oneCell' = true

theorem cells_mk {z m b off : Nat} {fx : Nat → List AV} {g : Nat → Nat → Value} {len cap : Nat}
    (hcell : ∀ i, i < m → ∀ j, j < z → w.cell? ⟨b, off + (i * z + j), none⟩ = some (g i j)) (hone : ∀ i, i < m → ∀ j, j < z → One (g i j)) {own : Bool → Nat → Prop}
    (hrel : ∀ i, i < m → ∀ j, j < z → VR w β own ((fx i).getD j anyA) (g i j)) :
    Cells P w β own z m fx (.slice (some ⟨b, off, none⟩) m cap) (tab (m * z) fun q => g (q / z) (q % z)).toArray := by
  refine ⟨by simp [tab_length], fun w2 => rfl, fun w2 hw => ?_, fun i hi j hj => ?_, fun u hu => ?_⟩
  · simp only [Builtin.firstCells]
    refine run_loadCells_tab b off (m * z) _ (fun q hq => ?_)
    obtain ⟨h1, h2, h3⟩ := divmod_lt hq
    have := hcell _ h1 _ h2
    rw [h3] at this
    rw [← this]
    simp [World.cell?, hw]
  · have hq := mul_lt_row hi hj (Nat.le_refl m)
    refine ⟨g i j, ?_, hone i hi j hj, hrel i hi j hj⟩
    have hz : 0 < z := by omega
    have e1 : (i * z + j) / z = i := by rw [Nat.mul_comm, Nat.mul_add_div hz, Nat.div_eq_of_lt hj]; omega
    have e2 : (i * z + j) % z = j := by rw [Nat.mul_comm, Nat.mul_add_mod]; exact Nat.mod_eq_of_lt hj
    have := tab_getElem? (m * z) (fun q => g (q / z) (q % z)) _ hq
    simp only [e1, e2] at this
    simpa using this
  · simp only at hu
    obtain ⟨q, hq, rfl⟩ := List.getElem_of_mem hu
    rw [tab_length] at hq
    obtain ⟨h1, h2, _⟩ := divmod_lt hq
    have := hone _ h1 _ h2
    have e := tab_getElem? (m * z) (fun q => g (q / z) (q % z)) q hq
    have e' : (tab (m * z) fun q => g (q / z) (q % z))[q] = g (q / z) (q % z) := by
      rw [List.getElem?_eq_getElem (by rw [tab_length]; exact hq)] at e
      simpa using e
    rw [e']
    exact this

theorem rows_ok {L : Hp} {z : Nat} {x : AV} {xv : Value} {m : Nat} {fx : Nat → List AV} {obx : List Prop} (hH : HR w β (ow X β H) H) (hL : ∀ o ob, L.lookup o = some ob → H.lookup o = some ob)
    (he : rowsOf L z x = some (m, fx, obx)) (hob : ∀ p ∈ obx, p) (hx : VR w β (ow X β H) x xv) :
    ∃ news, Cells P w β (ow X β H) z m fx xv news := by
  have empty : ∀ (a : Option Addr) (c : Nat) (fx : Nat → List AV), Cells P w β (ow X β H) z 0 fx (.slice a 0 c) #[] := by
    intro a c fx
    refine ⟨by simp, fun w2 => rfl, fun w2 _ => ?_, fun i hi => absurd hi (Nat.not_lt_zero _), fun u hu => by simp at hu⟩
    cases a with
    | none => rfl
    | some a => simp [Builtin.firstCells, loadCells, loadCellsFrom]
  unfold rowsOf at he
  split at he
  · simp only [Option.some.injEq, Prod.mk.injEq] at he
    obtain ⟨rfl, rfl, rfl⟩ := he
    cases hx; rename_i hp; cases hp
    exact ⟨_, empty none 0 _⟩
  · rename_i tg z' n f
    split at he
    case isFalse => cases he
    rename_i hz
    have hz : z' = z := by simpa using hz
    subst hz
    simp only [Option.some.injEq, Prod.mk.injEq] at he
    obtain ⟨rfl, rfl, rfl⟩ := he
    cases hx; rename_i hp
    cases hp with
    | seq0 _ _ _ a c => exact ⟨_, empty a c _⟩
    | seq _ _ _ _ b off c g hb hlt hc hcell hone hp =>
      refine ⟨_, cells_mk (len := n) hcell hone (fun i hi j hj => ?_)⟩
      rw [tab_getD _ _ _ _ hj]
      exact .p _ _ (hp i hi j hj)
  · rename_i z' o off n
    split at he
    case isFalse => cases he
    rename_i hz
    have hz : z' = z := by simpa using hz
    subst hz
    cases hlo : L.lookup o with
    | none => rw [hlo] at he; cases he
    | some ob =>
      rw [hlo] at he
      simp only [Option.bind_some] at he
      split at he
      case isFalse => cases he
      rename_i hz
      have hz : ob.z = z' := by simpa using hz
      simp only [Option.some.injEq, Prod.mk.injEq] at he
      obtain ⟨rfl, rfl, rfl⟩ := he
      have hn : n + off ≤ ob.n := hob _ (by simp)
      cases hx with
      | ar0 _ _ _ a => exact ⟨_, empty a 0 _⟩
      | ar _ _ _ _ b base c cells elem fr hβ hh hsz hc =>
        by_cases hn0 : n = 0
        · subst hn0
          exact ⟨_, empty _ c _⟩
        rcases hH o ob (hL _ _ hlo) with h | ⟨b', base', cells', elem', h1, h2, h3⟩ | ⟨_, _, b', es, ck, h1, h2, _⟩
        rotate_left 2
        · rw [hβ] at h1; cases h1; rw [hh] at h2; cases h2
        · rw [h.1] at hβ; cases hβ
        · rw [hβ] at h1
          cases h1
          refine ⟨_, cells_mk (len := n) (g := fun i j => (cells'[base + ((i + off) * z' + j)]?).getD undef) (fun i hi j hj => ?_) (fun i hi j hj => ?_) (fun i hi j hj => ?_)⟩
          · obtain ⟨u, g1, _, _⟩ := h3 (i + off) (by omega) j (by omega)
            rw [hz] at g1
            have e : base + off * z' + (i * z' + j) = base + ((i + off) * z' + j) := by rw [Nat.add_mul]; omega
            rw [e]
            simp [World.cell?, h2, g1]
          · obtain ⟨u, g1, g2, _⟩ := h3 (i + off) (by omega) j (by omega)
            rw [hz] at g1
            rw [g1]
            exact g2
          · obtain ⟨u, g1, _, g3⟩ := h3 (i + off) (by omega) j (by omega)
            rw [hz] at g1
            rw [g1, tab_getD _ _ _ _ hj]
            exact g3
  · cases he

theorem run_append_room' {t ty el : TypeId} {i : TypeInfo} (ht : P.underlying t = some (.slice el)) (hi : P.info? el = some i) {b off n c m : Nat} {x : Value} {news cur : Array Value} {elem : TypeId}
    (hg : w.heap[b]? = some (.cells cur elem (0, 0))) (hlen : (Builtin.lenOf x).run P w = .ok m w) (hf : (Builtin.firstCells i.size m x).run P w = .ok news w) (hone : ∀ u ∈ news.toList, u.oneCell' = true)
    (hroom : n + m ≤ c) (hfit : off + n * i.size + news.size ≤ cur.size) :
    (Builtin.append_ #[t, t] ty #[.slice (some ⟨b, off, none⟩) n c, x]).run P w =
      .ok (.slice (some ⟨b, off, none⟩) (n + m) c) (w.setRow b (cur.toList.take (off + n * i.size) ++ news.toList ++ cur.toList.drop (off + n * i.size + news.toList.length)).toArray) := by
  have hst := run_storeCells_at P b (off + n * i.size) elem news.toList 0 cur w hg (by simpa using hfit) hone
  simp only [Nat.add_zero] at hst
  simp [Builtin.append_, run_underlying ht, sizeOf, typeInfo, hi, hlen, hroom, hf, Addr.add_plain]
  simpa using congrArg (fun r => r.andThen fun _ w' => Result.ok (Value.slice (some ⟨b, off, none⟩) (n + m) c) w') hst

theorem run_append_none' {t ty el : TypeId} {i : TypeInfo} (ht : P.underlying t = some (.slice el)) (hi : P.info? el = some i) {c n m : Nat} {x : Value} {news : Array Value}
    (hlen : (Builtin.lenOf x).run P w = .ok m w) (hf : (Builtin.firstCells i.size m x).run P w = .ok news w) (hroom : n + m ≤ c) :
    (Builtin.append_ #[t, t] ty #[.slice none n c, x]).run P w = .ok (.slice none (n + m) c) w := by
  simp [Builtin.append_, run_underlying ht, sizeOf, typeInfo, hi, hlen, hroom, hf]

theorem run_append_grow' {t ty el : TypeId} {i : TypeInfo} {z : Value} (ht : P.underlying t = some (.slice el)) (hi : P.info? el = some i) (hz : i.zero = some z) {a : Option Addr} {n c m : Nat} {x : Value} {news olds : Array Value}
    (hlen : (Builtin.lenOf x).run P w = .ok m w) (hf : (Builtin.firstCells i.size m x).run P w.drew = .ok news w.drew) (ho : (Builtin.firstCells i.size n (.slice a n c)).run P w.drew = .ok olds w.drew)
    (hg : c < n + m) (h63 : n + m ≤ 9223372036854775807) (hb : (n + m) * i.bytes ≤ 140737488355328) :
    (Builtin.append_ #[t, t] ty #[.slice a n c, x]).run P w =
      .ok (.slice (some ⟨w.heap.size, 0, none⟩) (n + m) (grownCap w (n + m) c el))
        (w.drew.alloc (.cells (olds ++ news ++ Builtin.zeroCells z.cells (grownCap w (n + m) c el - (n + m))) el)) := by
  have hn : ¬ (n + m ≤ c) := by omega
  have h63' : ¬ (9223372036854775807 < ((n : Int) + (m : Int))) := by omega
  have hfit := growslice_fits hg hb
  have h48' : ¬ (281474976710656 < Builtin.nextslicecap (n + m) c * i.bytes) := by omega
  simp [Builtin.append_, run_underlying ht, sizeOf, typeInfo, zeroValue, hi, hz, hlen, hn, h63', h48', Question.forced, hf, ho, newRow, grownCap]

end
end Go.Proofs.Ytgdbnnmogddkaaa.Mach
