/- The abstract machine: a region, whether it draws its order or not. Conditions: as in MachD. -/
import Derived.Test.YtgdbnnmogddkaaaMachO
namespace Go.Proofs.Ytgdbnnmogddkaaa.Mach
open Go
set_option linter.unusedVariables false
set_option linter.unusedSimpArgs false

section
variable {P : Program} {ops : Array Oper} {base : Nat} {ss : List OpS} {tr : List (List Nat × Eff)} {envN : List AV} {HN : Hp}

theorem chk_ok (h : chk ops tr = true) {j : Nat} (hj : j < ops.size) : (∃ oj, ops[j]? = some oj ∧ ∀ e ∈ oj.after, Region.binds .any e = true → e.on < j) ∧ ∀ i, i < j → waits ops i j = true ∨ apartAt ops tr i j = true := by
  simp only [chk, List.all_eq_true, List.mem_range, Bool.and_eq_true, Bool.or_eq_true] at h
  obtain ⟨h1, h2⟩ := h j hj
  refine ⟨?_, h2⟩
  split at h1
  · rename_i oj hoj
    refine ⟨oj, hoj, fun e he hb => ?_⟩
    have := Array.all_eq_true_iff_forall_mem.1 h1 e he
    simp only [Bool.or_eq_true, Bool.not_eq_true', Nat.blt_eq] at this
    rcases this with h | h
    · rw [h] at hb; cases hb
    · exact h
  · cases h1

/-- The first i operations have come up. -/
def Upto (ops : Array Oper) (i : Nat) (listed : Array Bool) : Prop := listed.size = ops.size ∧ ∀ j, j < ops.size → listed[j]? = some (decide (j < i))

theorem Upto.getD {i : Nat} {listed : Array Bool} (h : Upto ops i listed) {j : Nat} (hj : j < ops.size) (d : Bool) : listed.getD j d = decide (j < i) := by
  rw [Array.getD_eq_getD_getElem?, h.2 j hj]; rfl

theorem Upto.next {i : Nat} {listed : Array Bool} (h : Upto ops i listed) (hi : i < ops.size) : Upto ops (i + 1) (listed.setIfInBounds i true) := by
  refine ⟨by simp [h.1], fun j hj => ?_⟩
  by_cases hij : i = j
  · subst hij
    simp [h.1, hi]
  · rw [Array.getElem?_setIfInBounds_ne hij, h.2 j hj]
    congr 1
    apply decide_eq_decide.2
    omega

theorem AAny_lex (hc : chk ops tr = true) : ∀ (r : List OpS) (i : Nat) (listed : Array Bool) (env : List AV) (H : Hp) (envN : List AV) (HN : Hp) (tr' : List (List Nat × Eff)), runTr P ops base r i env H = some (envN, HN, tr') →
    (∀ k, r[k]? = ss[i + k]?) → (∀ k, tr'[k]? = tr[i + k]?) → Upto ops i listed → AAny P ops base ss tr envN HN r.length listed env H
  | [], i, listed, env, H, envN, HN, tr', hr, hs, ht, hu => by
    have hi := runTr_len [] i env H hr
    simp only [runTr] at hr
    split at hr
    case isFalse => cases hr
    simp only [Option.some.injEq, Prod.mk.injEq] at hr
    obtain ⟨rfl, rfl, rfl⟩ := hr
    refine ⟨?_, rfl, fun _ => rfl⟩
    rw [List.eq_nil_iff_forall_not_mem]
    intro j hj
    obtain ⟨h1, o, ho, _⟩ := mem_ready.1 hj
    have hjl : j < ops.size := (Array.getElem?_eq_some_iff.1 ho).1
    rw [hu.getD hjl] at h1
    simp at h1 hi
    omega
  | s :: r, i, listed, env, H, envN, HN, tr', hr, hs, ht, hu => by
    have hlen := runTr_len _ i env H hr
    simp only [List.length_cons] at hlen
    have hi : i < ops.size := by omega
    simp only [runTr] at hr
    split at hr
    case h_1 => cases hr
    rename_i x hx
    split at hr
    case h_1 => cases hr
    rename_i y hy
    simp only [Option.some.injEq, Prod.mk.injEq] at hr
    obtain ⟨rfl, rfl, rfl⟩ := hr
    have hs0 : ss.getD i ⟨true, none, none⟩ = s := by
      have := hs 0
      simp only [Nat.add_zero, List.getElem?_cons_zero] at this
      rw [List.getD_eq_getElem?_getD, ← this]; rfl
    have ht0 : trOf tr i = x := by
      have := ht 0
      simp only [Nat.add_zero, List.getElem?_cons_zero] at this
      rw [trOf, List.getD_eq_getElem?_getD, ← this]; rfl
    obtain ⟨⟨oi, hoi, hon⟩, _⟩ := chk_ok hc hi
    refine AAny_first r.length listed env H (fun j hj hji hun hw => ?_) ?_ (by rw [hs0, ht0]; exact hx) ?_
    · rw [hu.getD hj] at hun
      simp only [decide_eq_false_iff_not] at hun
      rcases (chk_ok hc hj).2 i (by omega) with h | h
      · rw [h] at hw; cases hw
      · exact h
    · refine mem_ready.2 ⟨by rw [hu.getD hi]; simp, oi, hoi, fun e he hb => ?_⟩
      have := hon e he hb
      rw [hu.getD (by omega)]
      simpa using this
    · rw [ht0]
      exact AAny_lex hc r (i + 1) _ _ _ _ _ y.2.2 hy (fun k => by have := hs (k + 1); simpa [Nat.add_assoc, Nat.add_comm 1 k] using this)
        (fun k => by have := ht (k + 1); simpa [Nat.add_assoc, Nat.add_comm 1 k] using this) (hu.next hi)

theorem Heq.own {β : Nat → Option Addr} {H H2 : Hp} (h : Heq H H2) : ownOf β H = ownOf β H2 := by
  funext b
  unfold ownOf
  simp only [h _]

theorem Rel.heq {c : Cx} {dom : Nat → Prop} {env : List AV} {H H2 : Hp} {a : Act} {w : World} {β : Nat → Option Addr} (h : Rel c dom env H a w β) (hq : Heq H H2) : Rel c dom env H2 a w β := by
  have ho := hq.own (β := β)
  have hw : ow c.X β H = ow c.X β H2 := by funext t b; unfold ow; rw [ho]
  refine ⟨fun o ob hl => ?_, fun o o' ob ob' a a' h1 h2 => h.sep o o' ob ob' a a' (by rw [hq o]; exact h1) (by rw [hq o']; exact h2), by rw [← hw]; exact h.ev, h.len, h.dfr, fun k hk => h.dom k (by rw [hq k]; exact hk), by rw [← hw]; exact h.ext, by rw [← ho]; exact h.xs, by rw [← ho]; exact h.own, h.init⟩
  rw [← hw]
  exact h.hr o ob (by rw [hq o]; exact hl)

def domL (base : Nat) (listed : Array Bool) (k : Nat) : Prop := k < base ∨ ∃ i, listed.getD i false = true ∧ base + 32 * i ≤ k ∧ k < base + 32 * i + 32

theorem AAny_sound {c : Cx} (hn : c.n ≤ base) {Q : Exit → Act → World → Prop} (hob : ∀ i, ∀ p ∈ (trOf tr i).2.ob, p)
    (hQ : ∀ a' w' β', Rel c (fun k => k < base + 32 * ops.size) envN HN a' w' β' → Q .normal a' w') :
    ∀ (fuel : Nat) (listed : Array Bool) (env : List AV) (H : Hp) (a : Act) (w : World) (β : Nat → Option Addr), listed.size = ops.size → Rel c (domL base listed) env H a w β →
      AAny P ops base ss tr envN HN fuel listed env H → wpAny P .any ops Q fuel listed a w := by
  have fin : ∀ (listed : Array Bool) (env : List AV) (H : Hp) (a : Act) (w : World) (β : Nat → Option Addr), listed.size = ops.size → Rel c (domL base listed) env H a w β → env = envN → Heq H HN → Q .normal a w := by
    intro listed env H a w β hl hr he hq
    subst he
    refine hQ a w β ((hr.heq hq).dom_mono (fun k hk => ?_))
    rcases hk with h | ⟨i, h1, h2, h3⟩
    · omega
    · have : i < listed.size := by
        rcases Nat.lt_or_ge i listed.size with h' | h'
        · exact h'
        · simp [Array.getElem?_eq_none h'] at h1
      omega
  intro fuel
  induction fuel with
  | zero => intro listed env H a w β hl hr h; exact ⟨h.1, fin listed env H a w β hl hr h.2.1 h.2.2⟩
  | succ fuel ih =>
    intro listed env H a w β hl hr h
    refine ⟨fun h0 => fin listed env H a w β hl hr (h.1 h0).1 (h.1 h0).2, fun i hi => ?_⟩
    obtain ⟨h1, h2⟩ := h.2 i hi
    obtain ⟨hun, oi, hoi, _⟩ := mem_ready.1 hi
    refine stepOp_ok (rd := (trOf tr i).1) (e := (trOf tr i).2) hr (fun k k1 k2 hd => ?_) hn h1 (hob i) (fun a' w' β' hr' => ?_)
    · rcases hd with hd | ⟨i', g1, g2, g3⟩
      · omega
      · have : i' = i := by omega
        subst this
        rcases Nat.lt_or_ge i' listed.size with h' | h'
        · simp [h'] at hun g1; rw [hun] at g1; cases g1
        · simp [Array.getElem?_eq_none h'] at g1
    · refine ih _ _ _ a' w' β' (by simp [hl]) (hr'.dom_mono (fun k hk => ?_)) h2
      rcases hk with hk | hk
      · rcases hk with hk | ⟨i', g1, g2⟩
        · exact .inl hk
        · exact .inr ⟨i', getD_set_true g1, g2⟩
      · have hil : i < listed.size := by rw [hl]; exact (Array.getElem?_eq_some_iff.1 hoi).1
        exact .inr ⟨i, by simp [Array.getD_eq_getD_getElem?, hil], hk⟩

theorem runTr_tr : ∀ (ss : List OpS) (i : Nat) (env : List AV) (H : Hp) {y : List AV × Hp × List (List Nat × Eff)}, runTr P ops base ss i env H = some y → y.2.2.length = ss.length
  | [], i, env, H, y, hr => by
    simp only [runTr] at hr
    split at hr
    · cases hr; rfl
    · cases hr
  | s :: r, i, env, H, y, hr => by
    simp only [runTr] at hr
    split at hr
    case h_1 => cases hr
    rename_i x hx
    split at hr
    case h_1 => cases hr
    rename_i y hy
    simp only [Option.some.injEq] at hr
    subst hr
    simp [runTr_tr r (i + 1) _ _ hy]

/-- A region. -/
theorem region_ok {c : Cx} {id : Nat} {draw : Bool} {env env' : List AV} {H H' : Hp} {a : Act} {w : World} {β : Nat → Option Addr} (hm : P.follows .mixedOrders = true) (hn : c.n ≤ base)
    (hr : runTr P ops base ss 0 env H = some (env', H', tr)) (hob : ∀ p ∈ obsOf tr, p) (hc : draw = true → chk ops tr = true) (h : Rel c (fun k => k < base) env H a w β)
    {Q : Exit → Act → World → Prop} (hQ : ∀ a' w' β', Rel c (fun k => k < base + 32 * ops.size) env' H' a' w' β' → Q .normal a' w') : (Code.region id ops draw).wp P Q a w := by
  have hlen := runTr_len ss 0 env H hr
  cases draw with
  | false =>
    refine wp_region ?_
    have := seq_ok (Q := Q) hn ss 0 env H a w β env' H' tr hr hob (h.dom_mono (fun k hk => by omega)) hQ
    rw [List.range_eq_range', show ops.size = ss.length by omega]
    exact this
  | true =>
    refine wp_region_any hm ?_
    have hE : ∀ own : Bool → Nat → Prop, Ext w own { w with drawn := w.drawn + 1 } own := fun own => ⟨rfl, rfl, rfl, Nat.le_refl _, fun _ _ _ _ => rfl, fun _ _ _ h => h, fun _ c e f h => ⟨c, e, f, h, Nat.le_refl _⟩, fun _ es ck h => ⟨es, ck, h⟩⟩
    have hd : Rel c (fun k => k < base) env H a { w with drawn := w.drawn + 1 } β :=
      { hr := fun o ob hl => by
          rcases h.hr o ob hl with h' | ⟨b, bs, cells, elem, h1, h2, h3⟩ | h'
          · exact .inl h'
          · refine .inr (.inl ⟨b, bs, cells, elem, h1, h2, fun i hi j hj => ?_⟩)
            obtain ⟨v, g1, g2, g3⟩ := h3 i hi j hj
            exact ⟨v, g1, g2, g3.ext (hE _) (fun _ _ h => h)⟩
          · exact .inr (.inr h')
        sep := h.sep
        ev := fun t => (h.ev t).ext (hE _) (fun _ _ h => h)
        len := h.len, dfr := h.dfr, dom := h.dom
        ext := h.ext.trans (hE _)
        xs := h.xs, own := h.own, init := h.init }
    have hob' : ∀ i, ∀ p ∈ (trOf tr i).2.ob, p := by
      intro i p hp
      unfold trOf at hp
      rw [List.getD_eq_getElem?_getD] at hp
      cases hi : tr[i]? with
      | none => rw [hi] at hp; simp at hp
      | some x =>
        rw [hi] at hp
        exact hob p (List.mem_flatten.2 ⟨x.2.ob, List.mem_map.2 ⟨x, List.mem_of_getElem? hi, rfl⟩, hp⟩)
    have hu : Upto ops 0 (Array.replicate ops.size false) := ⟨by simp, fun j hj => by simp [hj]⟩
    have hlex := AAny_lex (ss := ss) (hc rfl) ss 0 (Array.replicate ops.size false) env H env' H' tr hr (fun k => by simp) (fun k => by simp) hu
    have hl : ss.length = ops.size := by omega
    rw [hl] at hlex
    exact AAny_sound hn hob' hQ ops.size _ env H a _ β (by simp) (hd.dom_mono (fun k hk => .inl hk)) hlex

end
end Go.Proofs.Ytgdbnnmogddkaaa.Mach
