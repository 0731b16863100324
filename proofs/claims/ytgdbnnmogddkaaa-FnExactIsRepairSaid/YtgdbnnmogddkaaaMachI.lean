/- The abstract machine: append, its soundness. Conditions: as in MachD. -/
import Derived.Test.YtgdbnnmogddkaaaMachH
namespace Go.Proofs.Ytgdbnnmogddkaaa.Mach
open Go
set_option linter.unusedVariables false
set_option linter.unusedSimpArgs false

section
variable {X : Nat → Prop} {P : Program} {w : World} {β : Nat → Option Addr} {H : Hp}

theorem sub_hdel (k : Nat) {H H0 : Hp} (h : ∀ j x, H0.lookup j = some x → H.lookup j = some x) : ∀ j x, (hdel k H0).lookup j = some x → H.lookup j = some x := by
  intro j x hj
  rw [lookup_hdel] at hj
  split at hj
  · cases hj
  · exact h _ _ hj

/-- An empty object without a place; some objects may go. -/
theorem place_empty {H0 : Hp} {k : Nat} {ob : Ob} (hH : HR w β (ow X β H) H) (hS : Sep β H) (hsub : ∀ j x, H0.lookup j = some x → H.lookup j = some x) (hβ : β k = none) (hn : ob.n = 0) :
    Placed X w β H w β (hput k ob H0) k := by
  have own' : ∀ b, ownOf β (hput k ob H0) b → ownOf β H b := by
    rintro b ⟨o, x, a, h1, h2, h3⟩
    rw [lookup_hput] at h1
    split at h1
    · rename_i h; subst h; rw [hβ] at h2; cases h2
    · exact ⟨o, x, a, hsub _ _ h1, h2, h3⟩
  have own'' : ∀ t b, ow X β (hput k ob H0) t b → ow X β H t b := fun t b h => h.imp (own' b) id
  refine ⟨?_, ?_, Ext.sub own'', fun _ _ h => h, fun _ h => .inl h, fun b h => .inl (own' b h)⟩
  · intro o x ho
    rw [lookup_hput] at ho
    split at ho
    · rename_i h
      subst h
      cases ho
      exact .inl ⟨hβ, hn⟩
    · rcases hH o x (hsub _ _ ho) with h | ⟨b, base, cells, elem, h1, h2, h3⟩ | h
      · exact .inl h
      · refine .inr (.inl ⟨b, base, cells, elem, h1, h2, fun i hi j hj => ?_⟩)
        obtain ⟨v, h4, h5, h6⟩ := h3 i hi j hj
        exact ⟨v, h4, h5, h6.ext (Ext.sub own'') (fun _ _ h => h)⟩
      · exact .inr (.inr h)
  · intro o o' x x' a a' h1 h2 h3 h4 h5
    rw [lookup_hput] at h1 h2
    split at h1
    · rename_i h; subst h; rw [hβ] at h3; cases h3
    · split at h2
      · rename_i h; subst h; rw [hβ] at h4; cases h4
      · exact hS o o' x x' a a' (hsub _ _ h1) (hsub _ _ h2) h3 h4 h5

theorem run_append_zero {t ty el : TypeId} {i : TypeInfo} (ht : P.underlying t = some (.slice el)) (hi : P.info? el = some i) {a : Option Addr} {n c : Nat} {x : Value} {news : Array Value}
    (hlen : (Builtin.lenOf x).run P w = .ok 0 w) (hf : (Builtin.firstCells i.size 0 x).run P w = .ok news w) (hnews : news.size = 0) (hroom : n ≤ c) :
    (Builtin.append_ #[t, t] ty #[.slice a n c, x]).run P w = .ok (.slice a n c) w := by
  have : news = #[] := by simpa using hnews
  subst this
  cases a <;> simp [Builtin.append_, run_underlying ht, sizeOf, typeInfo, hi, hlen, hroom, hf, storeCells]

/-- The grown array. -/
theorem grown_ok {k z n m el : Nat} {H0 : Hp} {fs fx : Nat → List AV} {sv xv : Value} {olds news rest : Array Value} (hH : HR w β (ow X β H) H) (hS : Sep β H)
    (hsub : ∀ j x, H0.lookup j = some x → H.lookup j = some x) (hβ : β k = none) (cs : Cells P w β (ow X β H) z n fs sv olds) (cx : Cells P w β (ow X β H) z m fx xv news)
    (f : Nat → List AV) (hf1 : ∀ i, i < n → f i = fs i) (hf2 : ∀ i, i < m → f (n + i) = fx i) (c : Nat) (hc : n + m ≤ c) (hrest : rest.size = (c - (n + m)) * z) :
    Placed X w β H (w.drew.alloc (.cells (olds ++ news ++ rest) el)) (upd β k ⟨w.heap.size, 0, none⟩) (hput k ⟨false, z, n + m, f⟩ H0) k ∧
      VR (w.drew.alloc (.cells (olds ++ news ++ rest) el)) (upd β k ⟨w.heap.size, 0, none⟩) (ow X (upd β k ⟨w.heap.size, 0, none⟩) (hput k ⟨false, z, n + m, f⟩ H0)) (.ar z k 0 (n + m)) (.slice (some ⟨w.heap.size, 0, none⟩) (n + m) c) := by
  constructor
  · refine place_new (cells := olds ++ news ++ rest) (elem := el) hH hS hsub hβ rfl rfl rfl rfl (fun p hp q hq => ?_)
    simp only at hp hq ⊢
    by_cases hpn : p < n
    · obtain ⟨u, h1, h2, h3⟩ := cs.cell p hpn q hq
      have hlt : p * z + q < olds.size := by rw [cs.size]; exact mul_lt_row hpn hq (Nat.le_refl _)
      refine ⟨u, ?_, h2, by rw [hf1 p hpn]; exact h3⟩
      rw [Array.append_assoc, Array.getElem?_append_left hlt]
      exact h1
    · obtain ⟨u, h1, h2, h3⟩ := cx.cell (p - n) (by omega) q hq
      have e0 : p = n + (p - n) := by omega
      have e1 : p * z + q = olds.size + ((p - n) * z + q) := by
        rw [cs.size]
        conv => lhs; rw [e0, Nat.add_mul]
        omega
      have hlt : (p - n) * z + q < news.size := by rw [cx.size]; exact mul_lt_row (by omega) hq (Nat.le_refl _)
      refine ⟨u, ?_, h2, by rw [e0, hf2 _ (by omega)]; exact h3⟩
      rw [Array.append_assoc, Array.getElem?_append_right (by omega), e1]
      rw [Nat.add_sub_cancel_left, Array.getElem?_append_left hlt]
      exact h1
  · have e : VR (w.drew.alloc (.cells (olds ++ news ++ rest) el)) (upd β k ⟨w.heap.size, 0, none⟩) (ow X (upd β k ⟨w.heap.size, 0, none⟩) (hput k ⟨false, z, n + m, f⟩ H0)) (.ar z k 0 (n + m)) (.slice (some ⟨w.heap.size, 0 + 0 * z, none⟩) (n + m) c) := by
      refine .ar z k 0 (n + m) w.heap.size 0 c (olds ++ news ++ rest) el (0, 0) (by simp [upd]) ?_ ?_ hc
      · show (w.heap.push _)[w.heap.size]? = _
        simp
      · simp only [Array.size_append, cs.size, cx.size, hrest, Nat.zero_add]
        rw [← Nat.add_mul, ← Nat.add_mul]
        have : n + m + (c - (n + m)) = c := by omega
        rw [this]
        exact Nat.le_refl _
    simpa using e

theorem evAppend_ok {k : Nat} {L : Hp} {t t' ty : TypeId} {sa xa : AV} {s x : Value} {e : Eff} (hH : HR w β (ow X β H) H) (hS : Sep β H) (hβ : β k = none)
    (hL : ∀ o ob, L.lookup o = some ob → H.lookup o = some ob)
    (he : evAppend P k L t t' sa xa = some e) (hob : ∀ p ∈ e.ob, p) (hs : VR w β (ow X β H) sa s) (hx : VR w β (ow X β H) xa x) :
    ∃ v w' β', (Builtin.append_ #[t, t'] ty #[s, x]).run P w = .ok v w' ∧ Placed X w β H w' β' (happ H e.wr) k ∧ VR w' β' (ow X β' (happ H e.wr)) e.v v := by
  unfold evAppend at he
  split at he
  case isFalse => cases he
  rename_i htt
  have htt : t = t' := by simpa using htt
  subst htt
  split at he
  case h_2 => cases he
  rename_i el ht
  split at he
  case h_2 => cases he
  rename_i i hi
  split at he
  case h_2 => cases he
  rename_i zs m fx obx hzs hrx
  split at he
  case isTrue => cases he
  rename_i hsz
  have hsz : i.size ≠ 0 := by simpa using hsz
  obtain ⟨z0, hz0, hzl, hzs', hzc⟩ := zeroCells_ok hzs
  have hrest : ∀ q : Nat, (Builtin.zeroCells z0.cells q).size = q * i.size := fun q => by rw [size_zeroCells, hzs']
  split at he
  · simp only [Option.some.injEq] at he
    subst he
    cases hs; rename_i hp; cases hp
    obtain ⟨news, cx⟩ := rows_ok (P := P) hH hL hrx (fun p hp => hob p (by simp [hp])) hx
    have hb : m * i.bytes ≤ 140737488355328 := hob _ (by simp)
    have h63 : m ≤ 9223372036854775807 := hob _ (by simp)
    simp only [happ]
    by_cases hm : m = 0
    · subst hm
      refine ⟨_, w, β, run_append_zero ht hi (cx.len w) (cx.run w rfl) (by rw [cx.size]; simp) (Nat.le_refl _), place_empty hH hS (fun _ _ h => h) hβ rfl, .ar0 _ _ _ _⟩
    · have cs : Cells P w β (ow X β H) i.size 0 (fun _ => []) (.slice none 0 0) #[] :=
        ⟨by simp, fun w2 => rfl, fun w2 _ => rfl, fun i hi => absurd hi (Nat.not_lt_zero _), fun u hu => by simp at hu⟩
      have hr := run_append_grow' (P := P) (w := w) (ty := ty) ht hi hz0 (a := none) (n := 0) (c := 0) (cx.len w) (cx.run w.drew rfl) (cs.run w.drew rfl) (by omega) (by omega) (by simpa using hb)
      have hg := grown_ok (P := P) (k := k) (el := el) (rest := Builtin.zeroCells z0.cells (grownCap w (0 + m) 0 el - (0 + m))) hH hS (H0 := H) (fun _ _ h => h) hβ cs cx fx (fun i hi => absurd hi (Nat.not_lt_zero _)) (fun i _ => by rw [Nat.zero_add])
        (grownCap w (0 + m) 0 el) (grownCap_ge _ _ _ _) (hrest _)
      simp only [Nat.zero_add] at hr hg
      exact ⟨_, _, _, hr, hg.1, hg.2⟩
  · rename_i z o off n
    split at he
    case h_2 => cases he
    rename_i ob hlo
    split at he
    case isFalse => cases he
    rename_i hz
    simp only [Bool.and_eq_true, beq_iff_eq, Bool.not_eq_true'] at hz
    obtain ⟨⟨hz1, hz2⟩, hz3⟩ := hz
    subst hz1
    simp only [Option.some.injEq] at he
    subst he
    obtain ⟨news, cx⟩ := rows_ok (P := P) hH hL hrx (fun p hp => hob p (by simp [hp])) hx
    have hnob : n + off ≤ ob.n := hob _ (by simp)
    have hb : (n + m) * i.bytes ≤ 140737488355328 := hob _ (by simp)
    have h63 : n + m ≤ 9223372036854775807 := hob _ (by simp)
    obtain ⟨olds, cs⟩ := rows_ok (P := P) (L := L) (z := i.size) (x := .ar i.size o off n) (m := n) (fx := fun p => tab i.size fun j => (ob.f (p + off)).getD j anyA) (obx := [n + off ≤ ob.n]) hH hL (by simp [rowsOf, hlo, hz2]) (fun p hp => by rw [List.mem_singleton] at hp; rw [hp]; exact hnob) hs
    simp only [happ]
    have hsub : ∀ j y, (hdel o H).lookup j = some y → H.lookup j = some y := sub_hdel o (fun _ _ h => h)
    have grow : ∀ (a : Option Addr) (c : Nat), s = .slice a n c → c < n + m →
        ∃ v w' β', (Builtin.append_ #[t, t] ty #[s, x]).run P w = .ok v w' ∧ Placed X w β H w' β' (hput k ⟨false, i.size, n + m, fun j => if j < n then ob.f (j + off) else fx (j - n)⟩ (hdel o H)) k ∧
          VR w' β' (ow X β' (hput k ⟨false, i.size, n + m, fun j => if j < n then ob.f (j + off) else fx (j - n)⟩ (hdel o H))) (.ar i.size k 0 (n + m)) v := by
      intro a c hsv hcn
      subst hsv
      have hr := run_append_grow' (P := P) (w := w) (ty := ty) ht hi hz0 (a := a) (n := n) (c := c) (cx.len w) (cx.run w.drew rfl) (cs.run w.drew rfl) hcn h63 hb
      have cs' : Cells P w β (ow X β H) i.size n (fun p => ob.f (p + off)) (.slice a n c) olds := by
        refine ⟨cs.size, cs.len, cs.run, fun p hp q hq => ?_, cs.one⟩
        obtain ⟨u, h1, h2, h3⟩ := cs.cell p hp q hq
        rw [tab_getD _ _ _ _ hq] at h3
        exact ⟨u, h1, h2, h3⟩
      have hg := grown_ok (P := P) (k := k) (el := el) (rest := Builtin.zeroCells z0.cells (grownCap w (n + m) c el - (n + m))) hH hS hsub hβ cs' cx
        (fun j => if j < n then ob.f (j + off) else fx (j - n)) (fun p hp => by simp [hp]) (fun p hp => by rw [if_neg (by omega), Nat.add_sub_cancel_left]) (grownCap w (n + m) c el) (grownCap_ge _ _ _ _) (hrest _)
      exact ⟨_, _, _, hr, hg.1, hg.2⟩
    cases hs with
    | ar0 _ _ _ a =>
      by_cases hm : m = 0
      · subst hm
        exact ⟨_, w, β, run_append_zero ht hi (cx.len w) (cx.run w rfl) (by rw [cx.size]; simp) (Nat.le_refl _), place_empty hH hS hsub hβ rfl, .ar0 _ _ _ _⟩
      · exact grow a 0 rfl (by omega)
    | ar _ _ _ _ b base c cells elem fr hβo hh hszc hc =>
      by_cases hroom : n + m ≤ c
      · rcases hH o ob (hL _ _ hlo) with h | ⟨b', base', cells', elem', h1, h2, h3⟩ | ⟨_, _, b', es, ck, h1, h2, _⟩
        rotate_left 2
        · rw [hβo] at h1; cases h1; rw [hh] at h2; cases h2
        · rw [h.1] at hβo; cases hβo
        rw [hβo] at h1
        cases h1
        rw [hh] at h2
        cases h2
        have hnz : n * i.size + news.size = (n + m) * i.size := by rw [cx.size, ← Nat.add_mul]
        have hle : (n + m) * i.size ≤ c * i.size := Nat.mul_le_mul_right _ hroom
        have hexp : (off + c) * i.size = off * i.size + c * i.size := Nat.add_mul _ _ _
        have hfit : base + off * i.size + n * i.size + news.size ≤ cells.size := by omega
        have hfit' : base + off * i.size + n * i.size + news.toList.length ≤ cells.size := by simpa using hfit
        have hr := run_append_room' (P := P) (w := w) (ty := ty) ht hi hh (cx.len w) (cx.run w rfl) cx.one hroom hfit
        refine ⟨_, _, upd β k ⟨b, base + off * i.size, none⟩, hr, ?_, ?_⟩
        · rw [← hput_hdel k _ (hdel o H)]
          refine place (H0 := hdel k (hdel o H)) (b := b) (base := base + off * i.size) (cells := (cells.toList.take (base + off * i.size + n * i.size) ++ news.toList ++ cells.toList.drop (base + off * i.size + n * i.size + news.toList.length)).toArray) (elem := elem)
            hH hS (sub_hdel k hsub) (by rw [lookup_hdel]; simp) (.inl hβ) rfl rfl rfl (by simp) (fun d _ hdb => setRow_other w b d _ hdb) (setRow_heap w b cells _ elem _ hh) ?_ ?_ ?_
          · intro j y a hj ha hab
            rw [lookup_hdel] at hj
            split at hj
            · cases hj
            · rw [lookup_hdel] at hj
              split at hj
              · cases hj
              · rename_i hjo
                exact hjo (hS j o y ob a _ hj (hL _ _ hlo) ha hβo hab)
          · intro _
            exact ⟨⟨o, ob, _, hL _ _ hlo, hβo, rfl⟩, cells, elem, _, hh, by rw [row_size _ _ _ hfit']; exact Nat.le_refl _⟩
          · intro p hp q hq
            simp only at hp hq ⊢
            rw [row_getElem? _ _ _ hfit']
            by_cases hpn : p < n
            · have hlt := mul_lt_row hpn hq (Nat.le_refl n)
              rw [if_neg (by omega)]
              obtain ⟨u, g1, g2, g3⟩ := h3 (p + off) (by omega) q (by omega)
              refine ⟨u, ?_, g2, by simpa [hpn] using g3⟩
              rw [← g1, hz2]
              congr 1
              rw [Nat.add_mul]
              omega
            · obtain ⟨u, g1, g2, g3⟩ := cx.cell (p - n) (by omega) q hq
              have hlt : (p - n) * i.size + q < m * i.size := mul_lt_row (by omega) hq (Nat.le_refl m)
              have e0 : p = n + (p - n) := by omega
              have e1 : p * i.size = n * i.size + (p - n) * i.size := by conv => lhs; rw [e0, Nat.add_mul]
              have hsn : news.toList.length = m * i.size := by simpa using cx.size
              rw [if_pos (by omega)]
              refine ⟨u, ?_, g2, by simpa [hpn] using g3⟩
              have e2 : base + off * i.size + (p * i.size + q) - (base + off * i.size + n * i.size) = (p - n) * i.size + q := by omega
              rw [e2]
              simpa using g1
        · have e : VR (w.setRow b (cells.toList.take (base + off * i.size + n * i.size) ++ news.toList ++ cells.toList.drop (base + off * i.size + n * i.size + news.toList.length)).toArray) (upd β k ⟨b, base + off * i.size, none⟩)
              (ow X (upd β k ⟨b, base + off * i.size, none⟩) (hput k ⟨false, i.size, n + m, fun j => if j < n then ob.f (j + off) else fx (j - n)⟩ (hdel o H))) (.ar i.size k 0 (n + m)) (.slice (some ⟨b, base + off * i.size + 0 * i.size, none⟩) (n + m) c) := by
            refine .ar i.size k 0 (n + m) b (base + off * i.size) c _ elem (0, 0) (by simp [upd]) (setRow_heap w b cells _ elem _ hh) ?_ hroom
            rw [row_size _ _ _ hfit', Nat.zero_add]
            omega
          simpa using e
      · exact grow _ c rfl (by omega)
  · cases he

end
end Go.Proofs.Ytgdbnnmogddkaaa.Mach
