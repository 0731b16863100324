/- The abstract machine: composite values. Conditions: as in MachD. -/
import Derived.Test.YtgdbnnmogddkaaaMachI
namespace Go.Proofs.Ytgdbnnmogddkaaa.Mach
open Go
set_option linter.unusedVariables false
set_option linter.unusedSimpArgs false

section
variable {X : Nat → Prop} {P : Program} {w : World} {β : Nat → Option Addr} {H : Hp}

theorem foldl_put (off : Nat) : ∀ (l : List Value) (s : Nat) (arr : Array Value),
    (((l.zipIdx s).foldl (fun cs p => cs.setIfInBounds (off + p.2) p.1) arr).size = arr.size) ∧
    ∀ q, ((l.zipIdx s).foldl (fun cs p => cs.setIfInBounds (off + p.2) p.1) arr)[q]? = if off + s ≤ q ∧ q < off + s + l.length ∧ q < arr.size then l[q - off - s]? else arr[q]?
  | [], s, arr => by refine ⟨rfl, fun q => ?_⟩; rw [if_neg (by simp; omega)]; rfl
  | v :: l, s, arr => by
    simp only [List.zipIdx_cons, List.foldl_cons]
    obtain ⟨h1, h2⟩ := foldl_put off l (s + 1) (arr.setIfInBounds (off + s) v)
    refine ⟨by rw [h1]; simp, fun q => ?_⟩
    rw [h2]
    simp only [Array.size_setIfInBounds, List.length_cons]
    by_cases hq : q = off + s
    · subst hq
      rw [if_neg (by omega)]
      by_cases hs : off + s < arr.size
      · rw [if_pos (by omega)]
        have : off + s - off - s = 0 := by omega
        rw [this]
        simp [hs]
      · rw [if_neg (by omega)]
        simp [hs]
    · by_cases hc : off + (s + 1) ≤ q ∧ q < off + (s + 1) + l.length ∧ q < arr.size
      · rw [if_pos hc, if_pos (by omega)]
        have : q - off - s = (q - off - (s + 1)) + 1 := by omega
        rw [this]
        simp
      · rw [if_neg hc, if_neg (by omega)]
        rw [Array.getElem?_setIfInBounds_ne (by omega)]

/-- Abstract cells and real cells. -/
def CR (w : World) (β : Nat → Option Addr) (own : Bool → Nat → Prop) (cs : List AV) (vs : Array Value) : Prop :=
  cs.length = vs.size ∧ ∀ j, j < cs.length → One (vs.getD j undef) ∧ VR w β own (cs.getD j anyA) (vs.getD j undef)

theorem getD_of {vs : Array Value} {j : Nat} {u : Value} (h : vs[j]? = some u) : vs.getD j undef = u := by
  simp [Array.getD_eq_getD_getElem?, h]

theorem fill_ok {own : Bool → Nat → Prop} {place : Nat → Option (Nat × Nat)} : ∀ (parts : List (Nat × AV)) (parts' : List (Nat × Value)) (cs : List AV) (vs : Array Value) (cs' : List AV),
    CR w β own cs vs → parts.length = parts'.length → (∀ (j : Nat) (p : Nat × AV) (p' : Nat × Value), parts[j]? = some p → parts'[j]? = some p' → p.1 = p'.1 ∧ VR w β own p.2 p'.2) →
    fillA place cs parts = some cs' → ∃ vs', Instr.fill place vs parts' = some vs' ∧ CR w β own cs' vs'
  | [], [], cs, vs, cs', hc, _, _, h => by
    simp only [fillA, Option.some.injEq] at h
    subst h
    exact ⟨vs, rfl, hc⟩
  | [], _ :: _, _, _, _, _, hl, _, _ => by simp at hl
  | _ :: _, [], _, _, _, _, hl, _, _ => by simp at hl
  | (i, v) :: parts, (i', v') :: parts', cs, vs, cs', hc, hl, hp, h => by
    obtain ⟨h1, h2⟩ := hp 0 (i, v) (i', v') rfl rfl
    simp only at h1 h2
    subst h1
    simp only [fillA] at h
    split at h
    case h_2 => cases h
    rename_i off size c hpl hvc
    split at h
    case isFalse => cases h
    rename_i hz
    simp only [Bool.and_eq_true, beq_iff_eq, Nat.ble_eq] at hz
    obtain ⟨g1, g2⟩ := cells_rel h2 hvc
    obtain ⟨f1, f2⟩ := foldl_put off v'.cells.toList 0 vs
    have hnew : CR w β own (splice cs.length off cs c) ((v'.cells.toList.zipIdx 0).foldl (fun cs p => cs.setIfInBounds (off + p.2) p.1) vs) := by
      refine ⟨by rw [splice_length, f1]; exact hc.1, fun j hj => ?_⟩
      rw [splice_length] at hj
      rw [splice_getD hj]
      have hjv : j < vs.size := by rw [← hc.1]; exact hj
      by_cases hin : off ≤ j ∧ j < off + c.length
      · rw [if_pos hin]
        have hlt : j - off < v'.cells.size := by omega
        have e : ((v'.cells.toList.zipIdx 0).foldl (fun cs p => cs.setIfInBounds (off + p.2) p.1) vs)[j]? = some (v'.cells.getD (j - off) undef) := by
          rw [f2, if_pos (by simp; omega)]
          simp [Array.getD_eq_getD_getElem?, hlt]
        rw [getD_of e]
        exact g2 _ (by omega)
      · rw [if_neg hin]
        have e : ((v'.cells.toList.zipIdx 0).foldl (fun cs p => cs.setIfInBounds (off + p.2) p.1) vs)[j]? = some (vs.getD j undef) := by
          rw [f2, if_neg (by simp; omega)]
          simp [Array.getD_eq_getD_getElem?, hjv]
        rw [getD_of e]
        exact hc.2 j hj
    have hz' : (v'.cells.zipIdx.foldl (fun cs x => cs.setIfInBounds (off + x.2) x.1) vs) = ((v'.cells.toList.zipIdx 0).foldl (fun cs p => cs.setIfInBounds (off + p.2) p.1) vs) := by
      rw [← Array.foldl_toList, Array.toList_zipIdx]
    obtain ⟨vs', k1, k2⟩ := fill_ok parts parts' _ _ cs' hnew (by simpa using hl) (fun j p p' hj hj' => hp (j + 1) p p' (by simpa using hj) (by simpa using hj')) h
    refine ⟨vs', ?_, k2⟩
    simp only [Instr.fill, hpl]
    have hcl := hc.1
    rw [if_neg (by simp only [Bool.or_eq_true, bne_iff_ne, ne_eq, decide_eq_true_eq, gt_iff_lt, not_or]; simp; omega)]
    exact (congrArg (fun a => Instr.fill place a parts') hz').trans k1

theorem run_zero {t : TypeId} {i : TypeInfo} {z : Value} (hi : P.info? t = some i) (hz : i.zero = some z) : (zeroValue t).run P w = .ok z w := by
  simp [zeroValue, typeInfo, hi, hz]

theorem zero_CR {i : TypeInfo} {zs : List AV} (h : zeroCells i = some zs) (own : Bool → Nat → Prop) : ∃ z, i.zero = some z ∧ z.cells.size = i.size ∧ CR w β own zs z.cells := by
  obtain ⟨z, h1, h2, h3, h4⟩ := zeroCells_ok h
  refine ⟨z, h1, h3, by omega, fun j hj => ?_⟩
  obtain ⟨u, g1, g2, g3⟩ := h4 j (by omega)
  rw [getD_of g1]
  exact ⟨g2, g3 _ _ _⟩

theorem CR.agg {own : Bool → Nat → Prop} {cs : List AV} {vs : Array Value} (h : CR w β own cs vs) : VR w β own (.agg cs) (.agg vs) :=
  .agg _ _ h.1 (fun j hj => (h.2 j hj).1) (fun j hj => (h.2 j hj).2)

theorem evBuild_ok {t : TypeId} {parts : List (Nat × AV)} {parts' : Array (Nat × Value)} {e : Eff} (he : evBuild P t parts = some e) (hl : parts.length = parts'.toList.length)
    (hp : ∀ (j : Nat) (p : Nat × AV) (p' : Nat × Value), parts[j]? = some p → parts'.toList[j]? = some p' → p.1 = p'.1 ∧ VR w β (ow X β H) p.2 p'.2) :
    e.wr = [] ∧ ∃ v, (Instr.build t parts').run P w = .ok v w ∧ VR w β (ow X β H) e.v v := by
  unfold evBuild at he
  split at he
  · rename_i fs i hu hi
    split at he
    case h_2 => cases he
    rename_i zs hzs
    split at he
    case h_2 => cases he
    rename_i places hpl
    cases hf : fillA (fun j => places[j]?) zs parts with
    | none => rw [hf] at he; cases he
    | some cs =>
      rw [hf] at he
      simp only [Option.map_some, Option.some.injEq] at he
      subst he
      obtain ⟨z, hz, _, hcr⟩ := zero_CR (w := w) (β := β) hzs (ow X β H)
      obtain ⟨vs, h1, h2⟩ := fill_ok parts parts'.toList zs z.cells cs hcr hl hp hf
      refine ⟨rfl, .agg vs, ?_, h2.agg⟩
      have h1' : Instr.fill (fun x => places[x]?) z.cells parts'.toList = some vs := h1
      simp [Instr.build, run_underlying hu, run_zero hi hz, Array.mapM_eq_mapM_toList, run_places w _ _ hpl, h1']
  · rename_i len el i hu hi
    split at he
    case h_2 => cases he
    rename_i zs ie hzs hie
    cases hf : fillA (fun j => some (j * ie.size, ie.size)) zs parts with
    | none => rw [hf] at he; cases he
    | some cs =>
      rw [hf] at he
      simp only [Option.map_some, Option.some.injEq] at he
      subst he
      obtain ⟨z, hz, _, hcr⟩ := zero_CR (w := w) (β := β) hzs (ow X β H)
      obtain ⟨vs, h1, h2⟩ := fill_ok parts parts'.toList zs z.cells cs hcr hl hp hf
      refine ⟨rfl, .agg vs, ?_, h2.agg⟩
      simp [Instr.build, run_underlying hu, run_zero hi hz, run_sizeOf hie, h1]
  · cases he

theorem evBuildSlice_ok {k : Nat} {t : TypeId} {len : Nat} {parts : List (Nat × AV)} {parts' : Array (Nat × Value)} {e : Eff} (hH : HR w β (ow X β H) H) (hS : Sep β H) (hβ : β k = none)
    (he : evBuildSlice P k t len parts = some e) (hl : parts.length = parts'.toList.length)
    (hp : ∀ (j : Nat) (p : Nat × AV) (p' : Nat × Value), parts[j]? = some p → parts'.toList[j]? = some p' → p.1 = p'.1 ∧ VR w β (ow X β H) p.2 p'.2) :
    ∃ v w' β', (Instr.buildSlice t len parts').run P w = .ok v w' ∧ Placed X w β H w' β' (happ H e.wr) k ∧ VR w' β' (ow X β' (happ H e.wr)) e.v v := by
  unfold evBuildSlice at he
  split at he
  case h_2 => cases he
  rename_i el hu
  split at he
  case h_2 => cases he
  rename_i i hi
  split at he
  case h_2 => cases he
  rename_i zs hzs
  split at he
  case isTrue => cases he
  rename_i hsz
  have hsz : i.size ≠ 0 := by simpa using hsz
  split at he
  case isFalse => cases he
  rename_i hle
  simp only [Nat.ble_eq] at hle
  cases hf : fillA (fun j => some (j * i.size, i.size)) (tab (len * i.size) fun j => zs.getD (j % i.size) anyA) parts with
  | none => rw [hf] at he; cases he
  | some cs =>
    rw [hf] at he
    simp only [Option.map_some, Option.some.injEq] at he
    subst he
    obtain ⟨z, hz, hzl, hcr⟩ := zero_CR (w := w) (β := β) hzs (ow X β H)
    let zero : Array Value := if len * i.size = 0 then #[] else z.cells
    have hcr0 : CR w β (ow X β H) (tab (len * i.size) fun j => zs.getD (j % i.size) anyA) ((Array.range (len * i.size)).map (fun q => zero[q % zero.size]!)) := by
      refine ⟨by simp [tab_length], fun j hj => ?_⟩
      rw [tab_length] at hj
      have hne : len * i.size ≠ 0 := by omega
      have hzero : zero = z.cells := by simp [zero, hne]
      have hm : j % i.size < z.cells.size := by rw [hzl]; exact Nat.mod_lt _ (by omega)
      have e : ((Array.range (len * i.size)).map (fun q => zero[q % zero.size]!))[j]? = some (z.cells.getD (j % i.size) undef) := by
        simp only [Array.getElem?_map]
        rw [Array.getElem?_eq_getElem (by simpa using hj)]
        simp [hzero, hzl, Array.getD_eq_getD_getElem?, hm]
        rw [getElem!_pos z.cells _ hm, Array.getElem?_eq_getElem hm]
        rfl
      rw [getD_of e, tab_getD _ _ _ _ hj]
      exact hcr.2 _ (by rw [hcr.1]; exact hm)
    obtain ⟨vs, h1, h2⟩ := fill_ok parts parts'.toList _ _ cs hcr0 hl hp hf
    have hcl : cs.length = len * i.size := by
      have : ∀ (parts : List (Nat × AV)) (c c' : List AV), fillA (fun j => some (j * i.size, i.size)) c parts = some c' → c'.length = c.length := by
        intro parts
        induction parts with
        | nil => intro c c' h; simp only [fillA, Option.some.injEq] at h; rw [h]
        | cons p parts ih =>
          obtain ⟨q, v⟩ := p
          intro c c' h
          simp only [fillA] at h
          split at h
          · split at h
            · rw [ih _ _ h, splice_length]
            · cases h
          · cases h
      rw [this _ _ _ hf, tab_length]
    refine ⟨.slice (some ⟨w.heap.size, 0, none⟩) len len, w.alloc (.cells vs el), upd β k ⟨w.heap.size, 0, none⟩, ?_, ?_, ?_⟩
    · have hnot : ¬ (len * i.size > 2 ^ 24) := by omega
      by_cases h0 : len * i.size = 0
      · have h1' := h1
        simp only [zero, h0, if_true] at h1'
        simp [Instr.buildSlice, run_underlying hu, run_sizeOf hi, hnot, h0, newRow]
        simp at h1'
        simp [h1']
      · have h1' := h1
        simp only [zero, h0, if_false] at h1'
        simp only [Instr.buildSlice, Sem.run_bind, run_underlying hu, Result.andThen_ok, run_sizeOf hi, hnot, if_false, h0, run_zero hi hz, Sem.run_pure, h1', newRow, run_newObj]
        rfl
    · simp only [happ]
      refine place_new (cells := vs) (elem := el) hH hS (fun _ _ h => h) hβ rfl rfl rfl rfl (fun p hp q hq => ?_)
      simp only at hp hq ⊢
      have hlt := mul_lt_row hp hq (Nat.le_refl len)
      obtain ⟨g1, g2⟩ := h2.2 (p * i.size + q) (by omega)
      refine ⟨vs.getD (p * i.size + q) undef, ?_, g1, by rw [tab_getD _ _ _ _ hq, rowIx_lt hp]; exact g2⟩
      have : p * i.size + q < vs.size := by rw [← h2.1]; omega
      simp [Array.getD_eq_getD_getElem?, this]
    · have e : VR (w.alloc (.cells vs el)) (upd β k ⟨w.heap.size, 0, none⟩) (ow X (upd β k ⟨w.heap.size, 0, none⟩) (happ H [(k, some ⟨false, i.size, len, fun r => tab i.size fun j => cs.getD (rowIx len r * i.size + j) anyA⟩)])) (.ar i.size k 0 len) (.slice (some ⟨w.heap.size, 0 + 0 * i.size, none⟩) len len) := by
        refine .ar i.size k 0 len w.heap.size 0 len vs el (0, 0) (by simp [upd]) ?_ ?_ (Nat.le_refl _)
        · show (w.heap.push _)[w.heap.size]? = _
          simp
        · rw [← h2.1, hcl]; simp
      simpa using e


/-! ### Maps -/
theorem findNow_ok (a : Int) (K V : Nat → Int) : ∀ (es : List MapEntry) (s : Nat), (∀ (i : Nat), i < es.length → ∃ e, es[i]? = some e ∧ e.key = .int .i64 (K (s + i)) ∧ e.val = .int .i64 (V (s + i))) →
    Instr.findNow (.int .i64) (.int .i64 a) es s = some ((mgo K V a es.length s).map fun x => (x.1, .int .i64 x.2))
  | [], s, _ => rfl
  | e :: es, s, h => by
    obtain ⟨e', h1, h2, h3⟩ := h 0 (by simp)
    simp only [List.getElem?_cons_zero, Option.some.injEq] at h1
    subst h1
    have ih := findNow_ok a K V es (s + 1) (fun i hi => by
      obtain ⟨e', g1, g2, g3⟩ := h (i + 1) (by simp; omega)
      refine ⟨e', by simpa using g1, ?_, ?_⟩
      · rw [g2]; congr 2; omega
      · rw [g3]; congr 2; omega)
    simp only [Instr.findNow, h2, h3, Instr.sameNow, List.length_cons, mgo, Nat.add_zero]
    by_cases hk : K s = a
    · simp [hk]
    · have hk' : (a == K s) = false := by simpa using Ne.symm hk
      simp only [if_true, hk', if_neg hk]
      exact ih

theorem mgo_isSome (K V V' : Nat → Int) (a : Int) : ∀ m s, (mgo K V a m s).isSome = (mgo K V' a m s).isSome
  | 0, _ => rfl
  | m + 1, s => by
    simp only [mgo]
    split
    · rfl
    · exact mgo_isSome K V V' a m (s + 1)

theorem mgo_congr {K K' V V' : Nat → Int} (a : Int) : ∀ m s, (∀ i, s ≤ i → i < s + m → K i = K' i ∧ V i = V' i) → mgo K V a m s = mgo K' V' a m s
  | 0, _, _ => rfl
  | m + 1, s, h => by
    obtain ⟨h1, h2⟩ := h s (Nat.le_refl _) (by omega)
    simp only [mgo, h1, h2]
    rw [mgo_congr a m (s + 1) (fun i h3 h4 => h i (by omega) (by omega))]

theorem i64T_ok {t : TypeId} (h : i64T P t = true) : P.underlying t = some (.int .i64) := by
  unfold i64T at h
  split at h
  · assumption
  · cases h

theorem run_checkKey {kt : TypeId} (h : P.underlying kt = some (.int .i64)) (em : Bool) (a : Int) : (Instr.checkKey em 10000 kt (.int .i64 a)).run P w = .ok () w := by
  rw [show (10000 : Nat) = 9999 + 1 from rfl, Instr.checkKey]
  simp [run_underlying h]

theorem run_getMap {r : Nat} {es : Array MapEntry} {ck : Nat} (h : w.heap[r]? = some (.map es ck)) : (getObj r).run P w = .ok (.map es ck) w := by simp [getObj, Sem.run, h]

theorem run_setMap {r : Nat} {es : Array MapEntry} {ck : Nat} (o : Obj) (h : w.heap[r]? = some (.map es ck)) : (setObj r o).run P w = .ok () { w with heap := w.heap.setIfInBounds r o } := by simp [setObj, Sem.run, h]

theorem keys_rows {f : Nat → List AV} {n : Nat} {K V : Nat → Int} (h : ∀ i, i < n → f i = [.p (.int .i64 (K i)), .p (.int .i64 (V i))]) (a : Int) :
    mgo (fun i => keyA (f i)) (fun i => valA (f i)) a n 0 = mgo K V a n 0 :=
  mgo_congr a n 0 (fun i _ hi => by rw [h i (by omega)]; exact ⟨rfl, rfl⟩)

theorem makeMap_ok {k : Nat} (hH : HR w β (ow X β H) H) (hS : Sep β H) (hβ : β k = none) (t : TypeId) :
    ∃ v w' β', (Instr.makeMap t none).run P w = .ok v w' ∧ Placed X w β H w' β' (happ H [(k, some ⟨false, 0, 0, fun _ => []⟩)]) k ∧ VR w' β' (ow X β' (happ H [(k, some ⟨false, 0, 0, fun _ => []⟩)])) (.mp k) v := by
  refine ⟨.map (some w.heap.size), { w with heap := w.heap.push (.map #[] 0) }, upd β k ⟨w.heap.size, 0, none⟩, ?_, ?_, .mp _ _ (by simp [upd]) ⟨#[], 0, by simp⟩⟩
  · rfl
  · simp only [happ]
    rw [← hput_hdel k _ H]
    have hs : ∀ j x, (hdel k H).lookup j = some x → H.lookup j = some x := by
      intro j x h
      rw [lookup_hdel] at h
      split at h
      · cases h
      · exact h
    refine place_map (es := #[]) (clock := 0) hH hS hs (by rw [lookup_hdel]; simp) (.inl hβ) rfl rfl rfl (by simp) (fun c hc _ => ?_) (by simp) (fun j x a h1 h2 he => ?_) (fun h => absurd h (Nat.lt_irrefl _)) rfl rfl rfl
      ⟨fun _ => 0, fun _ => 0, fun i hi => absurd hi (Nat.not_lt_zero _)⟩
    · show (w.heap.push _)[c]? = _
      rw [Array.getElem?_push, if_neg (Nat.ne_of_lt hc)]
    · have hlt : a.block < w.heap.size := by
        rcases hH j x (hs _ _ h1) with h | ⟨b, base, cs, e, h3, h4, _⟩ | ⟨_, _, b, es, ck, h3, h4, _⟩
        · rw [h.1] at h2; cases h2
        · rw [h2] at h3; cases h3; exact (Array.getElem?_eq_some_iff.1 h4).1
        · rw [h2] at h3; cases h3; exact (Array.getElem?_eq_some_iff.1 h4).1
      omega

/-- The map behind a reference. -/
theorem map_inv {L : Hp} {o : Nat} {ob : Ob} {x : Value} (hH : HR w β (ow X β H) H) (hL : ∀ o ob, L.lookup o = some ob → H.lookup o = some ob) (hlo : L.lookup o = some ob)
    (hx : VR w β (ow X β H) (.mp o) x) : ∃ b es ck, x = .map (some b) ∧ β o = some ⟨b, 0, none⟩ ∧ w.heap[b]? = some (.map es ck) ∧ es.size = ob.n ∧
      ∃ K V : Nat → Int, ∀ i, i < ob.n → ob.f i = [.p (.int .i64 (K i)), .p (.int .i64 (V i))] ∧ ∃ e, es[i]? = some e ∧ e.key = .int .i64 (K i) ∧ e.val = .int .i64 (V i) := by
  cases hx with
  | mp _ b hβ hm =>
    obtain ⟨es0, ck0, hm⟩ := hm
    rcases hH o ob (hL _ _ hlo) with h | ⟨b', base, cells, elem, h1, h2, h3⟩ | ⟨_, _, b', es, ck, h1, h2, h3⟩
    · rw [h.1] at hβ; cases hβ
    · rw [hβ] at h1; cases h1; rw [hm] at h2; cases h2
    · rw [hβ] at h1; cases h1; exact ⟨b, es, ck, rfl, hβ, h2, h3⟩

theorem find_map {kt : TypeId} (hkt : P.underlying kt = some (.int .i64)) {es : Array MapEntry} {n : Nat} {K V : Nat → Int} (hn : es.size = n) (a : Int)
    (hr : ∀ i, i < n → ∃ e, es[i]? = some e ∧ e.key = .int .i64 (K i) ∧ e.val = .int .i64 (V i)) :
    (Instr.findKey kt (.int .i64 a) es.toList).run P w = .ok ((mgo K V a n 0).map fun x => (x.1, .int .i64 x.2)) w := by
  have h := findNow_ok a K V es.toList 0 (fun i hi => by
    obtain ⟨e, h1, h2, h3⟩ := hr i (by simpa [← hn] using hi)
    exact ⟨e, by simpa using h1, by simpa using h2, by simpa using h3⟩)
  unfold Instr.findKey
  simp only [Sem.run_bind, run_underlying hkt, Result.andThen_ok, h, Sem.run_pure]
  simp [hn]

theorem evLookup_ok {L : Hp} {t : TypeId} {m k : AV} {x y : Value} {ok : Bool} {e : Eff} (hH : HR w β (ow X β H) H) (hL : ∀ o ob, L.lookup o = some ob → H.lookup o = some ob)
    (he : evLookup P L t m k ok = some e) (hx : VR w β (ow X β H) m x) (hy : VR w β (ow X β H) k y) :
    e.wr = [] ∧ ∃ v, (Instr.lookup t x y ok).run P w = .ok v w ∧ VR w β (ow X β H) e.v v := by
  unfold evLookup at he
  split at he
  case h_2 => cases he
  rename_i o a
  split at he
  case h_2 => cases he
  rename_i ob kt et hlo ht
  split at he
  case isFalse => cases he
  rename_i hz
  simp only [Bool.and_eq_true] at hz
  have hkt := i64T_ok hz.2
  split at he
  case h_2 => cases he
  rename_i d hd
  cases hi : P.info? et with
  | none => rw [hi] at hd; cases hd
  | some i =>
    rw [hi] at hd
    simp only [Option.bind_some] at hd
    obtain ⟨b, es, ck, rfl, hβ, hh, hsz, K, V, hr⟩ := map_inv hH hL hlo hx
    cases hy; rename_i hp; cases hp
    have hf := find_map (P := P) (w := w) hkt hsz a (fun i hi => (hr i hi).2)
    have hrows := keys_rows (fun i hi => (hr i hi).1) a
    have hget : mget (fun i => keyA (ob.f i)) (fun i => valA (ob.f i)) ob.n a d = (match mgo K V a ob.n 0 with | some x => x.2 | none => d) := by
      unfold mget; rw [hrows]; cases mgo K V a ob.n 0 <;> rfl
    have hhas : mhas (fun i => keyA (ob.f i)) ob.n a = (mgo K V a ob.n 0).isSome := by
      unfold mhas; rw [mgo_isSome _ _ (fun i => valA (ob.f i)), hrows]
    have hrun : (Instr.lookup t (.map (some b)) (.int .i64 a) ok).run P w =
        .ok (if ok then .tuple #[.int .i64 (match mgo K V a ob.n 0 with | some x => x.2 | none => d), .bool (mgo K V a ob.n 0).isSome] else .int .i64 (match mgo K V a ob.n 0 with | some x => x.2 | none => d)) w := by
      unfold Instr.lookup
      simp only [Sem.run_bind, run_underlying ht, Result.andThen_ok, run_getMap hh, Sem.run_pure, run_checkKey hkt, hf]
      cases mgo K V a ob.n 0 with
      | none => simp [run_zero hi hd]
      | some x => simp
    cases ok with
    | true =>
      simp only [Option.some.injEq] at he
      subst he
      refine ⟨rfl, _, hrun, ?_⟩
      rw [hget, hhas]
      refine .tup _ _ rfl (fun j hj => ?_)
      match j, hj with
      | 0, _ => exact .p _ _ (.int _ _)
      | 1, _ => exact .p _ _ (.bool _)
    | false =>
      simp only [Option.some.injEq] at he
      subst he
      refine ⟨rfl, _, hrun, ?_⟩
      rw [hget]
      exact .p _ _ (.int _ _)

theorem evMapPut_ok {L : Hp} {t : TypeId} {m k v : AV} {x y z : Value} {e : Eff} (hH : HR w β (ow X β H) H) (hS : Sep β H) (hL : ∀ o ob, L.lookup o = some ob → H.lookup o = some ob)
    (he : evMapPut P L t m k v = some e) (hob : ∀ p ∈ e.ob, p) (hx : VR w β (ow X β H) m x) (hy : VR w β (ow X β H) k y) (hv : VR w β (ow X β H) v z) (q : Nat) :
    ∃ w', (Instr.mapUpdate t x y z).run P w = .ok () w' ∧ Placed X w β H w' β (happ H e.wr) q ∧ e.v = anyA := by
  unfold evMapPut at he
  split at he
  case h_2 => cases he
  rename_i o a c
  split at he
  case h_2 => cases he
  rename_i ob kt et hlo ht
  split at he
  case isFalse => cases he
  rename_i hz
  simp only [Bool.and_eq_true] at hz
  have hkt := i64T_ok hz.2
  simp only [Option.some.injEq] at he
  subst he
  have hno : mhas (fun i => keyA (ob.f i)) ob.n a = false := hob _ (by simp)
  obtain ⟨b, es, ck, rfl, hβ, hh, hsz, K, V, hr⟩ := map_inv hH hL hlo hx
  cases hy; rename_i hp; cases hp
  cases hv; rename_i hp; cases hp
  have hf := find_map (P := P) (w := w) hkt hsz a (fun i hi => (hr i hi).2)
  have hrows := keys_rows (fun i hi => (hr i hi).1) a
  have hnone : mgo K V a ob.n 0 = none := by
    have : mhas (fun i => keyA (ob.f i)) ob.n a = (mgo K V a ob.n 0).isSome := by
      unfold mhas; rw [mgo_isSome _ _ (fun i => valA (ob.f i)), hrows]
    rw [hno] at this
    cases h : mgo K V a ob.n 0 with
    | none => rfl
    | some x => rw [h] at this; cases this
  rw [hnone] at hf
  refine ⟨{ w with heap := w.heap.setIfInBounds b (.map (es.push { key := .int .i64 a, val := .int .i64 c, born := ck }) (ck + 1)) }, ?_, ?_, rfl⟩
  · unfold Instr.mapUpdate
    simp only [Sem.run_bind, run_underlying ht, Result.andThen_ok, run_getMap hh, run_checkKey hkt, hf, Option.map_none, run_setMap _ hh]
  · have hlt : b < w.heap.size := (Array.getElem?_eq_some_iff.1 hh).1
    simp only [happ]
    rw [← hput_hdel o _ H]
    have hs : ∀ j x, (hdel o H).lookup j = some x → H.lookup j = some x := by
      intro j x h
      rw [lookup_hdel] at h
      split at h
      · cases h
      · exact h
    have hp := place_map (k := o) (b := b) (ob := ⟨false, 0, ob.n + 1, fun i => if i < ob.n then ob.f i else [.p (.int .i64 a), .p (.int .i64 c)]⟩) (es := es.push { key := .int .i64 a, val := .int .i64 c, born := ck }) (clock := ck + 1)
      (w' := { w with heap := w.heap.setIfInBounds b (.map (es.push { key := .int .i64 a, val := .int .i64 c, born := ck }) (ck + 1)) })
      hH hS hs (by rw [lookup_hdel]; simp) (.inr hβ) rfl rfl rfl (by simp) (fun c' hc hne => by show (w.heap.setIfInBounds b _)[c']? = _; rw [Array.getElem?_setIfInBounds_ne (Ne.symm hne)]) (by simp [hlt])
      (fun j y a' hj ha he => by
        rw [lookup_hdel] at hj
        split at hj
        · cases hj
        · rename_i hjo
          exact hjo (hS j o y ob a' _ hj (hL _ _ hlo) ha hβ he))
      (fun _ => ⟨⟨o, ob, _, hL _ _ hlo, hβ, rfl⟩, es, ck, hh⟩) rfl rfl (by simp [hsz])
      ⟨fun i => if i < ob.n then K i else a, fun i => if i < ob.n then V i else c, fun i hi => by
        simp only at hi ⊢
        by_cases hin : i < ob.n
        · obtain ⟨h1, e, h2, h3, h4⟩ := hr i hin
          simp only [hin, if_true]
          exact ⟨h1, e, by rw [Array.getElem?_push, if_neg (by omega)]; exact h2, h3, h4⟩
        · simp only [hin, if_false]
          exact ⟨trivial, _, by rw [Array.getElem?_push, if_pos (by omega)], rfl, rfl⟩⟩
    rw [upd_self hβ] at hp
    exact ⟨hp.hr, hp.sep, hp.ext, hp.mono, fun j hj => .inl hj, hp.own⟩

end
end Go.Proofs.Ytgdbnnmogddkaaa.Mach
