/- What the law Gc needs, part 2 of 3: the abstract machine and the contracts of the functions. Conditions: as each theorem says. -/
import Derived.ProofKit
import Derived.OpenShut
import Derived.Carry
import Derived.Test.YtgdbnnmogddkaaaRows
import Derived.Shelf.SlLaysF0
import Derived.Shelf.SlGeneric
import Derived.Shelf.SlSortCmp.InsertionK
import Derived.Ground.SlsfProg
import Derived.Sort.Grow
import Derived.Sort.Row
import Derived.Shelf.SlSortCmp.NoneTotal
import Derived.Test.YtgdbnnmogddkaaaGcP1
namespace Go.Proofs.Ytgdbnnmogddkaaa.Mach
open Go
set_option linter.unusedVariables false
set_option linter.unusedSimpArgs false
section
variable {P : Program} {ops : Array Oper} {base : Nat} {ss : List OpS} {tr : List (List Nat × Eff)} {envN : List AV} {HN : Hp}
theorem chk_ok (h : chk ops tr = true) {j : Nat} (hj : j < ops.size) : (∃ oj, ops[j]? = some oj ∧ ∀ e ∈ oj.after, Region.binds .any e = true → e.on < j) ∧ ∀ i, i < j → waits ops i j = true ∨ apartAt ops tr i j = true := by
  simp only [chk, List.all_eq_true, List.mem_range, Bool.and_eq_true, Bool.or_eq_true] at h
  obtain ⟨h1, h2⟩ := h j hj
  refine ⟨?_, h2⟩
  split at h1
  · rename_i oj hoj
    refine ⟨oj, hoj, fun e he hb => ?_⟩
    have := Array.all_eq_true_iff_forall_mem.1 h1 e he
    simp only [Bool.or_eq_true, Bool.not_eq_true', Nat.blt_eq] at this
    rcases this with h | h
    · rw [h] at hb; cases hb
    · exact h
  · cases h1
def Upto (ops : Array Oper) (i : Nat) (listed : Array Bool) : Prop := listed.size = ops.size ∧ ∀ j, j < ops.size → listed[j]? = some (decide (j < i))
theorem Upto.getD {i : Nat} {listed : Array Bool} (h : Upto ops i listed) {j : Nat} (hj : j < ops.size) (d : Bool) : listed.getD j d = decide (j < i) := by
  rw [Array.getD_eq_getD_getElem?, h.2 j hj]; rfl
theorem Upto.next {i : Nat} {listed : Array Bool} (h : Upto ops i listed) (hi : i < ops.size) : Upto ops (i + 1) (listed.setIfInBounds i true) := by
  refine ⟨by simp [h.1], fun j hj => ?_⟩
  by_cases hij : i = j
  · subst hij
    simp [h.1, hi]
  · rw [Array.getElem?_setIfInBounds_ne hij, h.2 j hj]
    congr 1
    apply decide_eq_decide.2
    omega
theorem AAny_lex (hc : chk ops tr = true) : ∀ (r : List OpS) (i : Nat) (listed : Array Bool) (env : List AV) (H : Hp) (envN : List AV) (HN : Hp) (tr' : List (List Nat × Eff)), runTr P ops base r i env H = some (envN, HN, tr') →
    (∀ k, r[k]? = ss[i + k]?) → (∀ k, tr'[k]? = tr[i + k]?) → Upto ops i listed → AAny P ops base ss tr envN HN r.length listed env H
  | [], i, listed, env, H, envN, HN, tr', hr, hs, ht, hu => by
    have hi := runTr_len [] i env H hr
    simp only [runTr] at hr
    split at hr
    case isFalse => cases hr
    simp only [Option.some.injEq, Prod.mk.injEq] at hr
    obtain ⟨rfl, rfl, rfl⟩ := hr
    refine ⟨?_, rfl, fun _ => rfl⟩
    rw [List.eq_nil_iff_forall_not_mem]
    intro j hj
    obtain ⟨h1, o, ho, _⟩ := mem_ready.1 hj
    have hjl : j < ops.size := (Array.getElem?_eq_some_iff.1 ho).1
    rw [hu.getD hjl] at h1
    simp at h1 hi
    omega
  | s :: r, i, listed, env, H, envN, HN, tr', hr, hs, ht, hu => by
    have hlen := runTr_len _ i env H hr
    simp only [List.length_cons] at hlen
    have hi : i < ops.size := by omega
    simp only [runTr] at hr
    split at hr
    case h_1 => cases hr
    rename_i x hx
    split at hr
    case h_1 => cases hr
    rename_i y hy
    simp only [Option.some.injEq, Prod.mk.injEq] at hr
    obtain ⟨rfl, rfl, rfl⟩ := hr
    have hs0 : ss.getD i ⟨true, none, none⟩ = s := by
      have := hs 0
      simp only [Nat.add_zero, List.getElem?_cons_zero] at this
      rw [List.getD_eq_getElem?_getD, ← this]; rfl
    have ht0 : trOf tr i = x := by
      have := ht 0
      simp only [Nat.add_zero, List.getElem?_cons_zero] at this
      rw [trOf, List.getD_eq_getElem?_getD, ← this]; rfl
    obtain ⟨⟨oi, hoi, hon⟩, _⟩ := chk_ok hc hi
    refine AAny_first r.length listed env H (fun j hj hji hun hw => ?_) ?_ (by rw [hs0, ht0]; exact hx) ?_
    · rw [hu.getD hj] at hun
      simp only [decide_eq_false_iff_not] at hun
      rcases (chk_ok hc hj).2 i (by omega) with h | h
      · rw [h] at hw; cases hw
      · exact h
    · refine mem_ready.2 ⟨by rw [hu.getD hi]; simp, oi, hoi, fun e he hb => ?_⟩
      have := hon e he hb
      rw [hu.getD (by omega)]
      simpa using this
    · rw [ht0]
      exact AAny_lex hc r (i + 1) _ _ _ _ _ y.2.2 hy (fun k => by have := hs (k + 1); simpa [Nat.add_assoc, Nat.add_comm 1 k] using this)
        (fun k => by have := ht (k + 1); simpa [Nat.add_assoc, Nat.add_comm 1 k] using this) (hu.next hi)
theorem Heq.own {β : Nat → Option Addr} {H H2 : Hp} (h : Heq H H2) : ownOf β H = ownOf β H2 := by
  funext b
  unfold ownOf
  simp only [h _]
theorem Rel.heq {c : Cx} {dom : Nat → Prop} {env : List AV} {H H2 : Hp} {a : Act} {w : World} {β : Nat → Option Addr} (h : Rel c dom env H a w β) (hq : Heq H H2) : Rel c dom env H2 a w β := by
  have ho := hq.own (β := β)
  have hw : ow c.X β H = ow c.X β H2 := by funext t b; unfold ow; rw [ho]
  refine ⟨fun o ob hl => ?_, fun o o' ob ob' a a' h1 h2 => h.sep o o' ob ob' a a' (by rw [hq o]; exact h1) (by rw [hq o']; exact h2), by rw [← hw]; exact h.ev, h.len, h.dfr, fun k hk => h.dom k (by rw [hq k]; exact hk), by rw [← hw]; exact h.ext, by rw [← ho]; exact h.xs, by rw [← ho]; exact h.own, h.init⟩
  rw [← hw]
  exact h.hr o ob (by rw [hq o]; exact hl)
def domL (base : Nat) (listed : Array Bool) (k : Nat) : Prop := k < base ∨ ∃ i, listed.getD i false = true ∧ base + 32 * i ≤ k ∧ k < base + 32 * i + 32
theorem AAny_sound {c : Cx} (hn : c.n ≤ base) {Q : Exit → Act → World → Prop} (hob : ∀ i, ∀ p ∈ (trOf tr i).2.ob, p)
    (hQ : ∀ a' w' β', Rel c (fun k => k < base + 32 * ops.size) envN HN a' w' β' → Q .normal a' w') :
    ∀ (fuel : Nat) (listed : Array Bool) (env : List AV) (H : Hp) (a : Act) (w : World) (β : Nat → Option Addr), listed.size = ops.size → Rel c (domL base listed) env H a w β →
      AAny P ops base ss tr envN HN fuel listed env H → wpAny P .any ops Q fuel listed a w := by
  have fin : ∀ (listed : Array Bool) (env : List AV) (H : Hp) (a : Act) (w : World) (β : Nat → Option Addr), listed.size = ops.size → Rel c (domL base listed) env H a w β → env = envN → Heq H HN → Q .normal a w := by
    intro listed env H a w β hl hr he hq
    subst he
    refine hQ a w β ((hr.heq hq).dom_mono (fun k hk => ?_))
    rcases hk with h | ⟨i, h1, h2, h3⟩
    · omega
    · have : i < listed.size := by
        rcases Nat.lt_or_ge i listed.size with h' | h'
        · exact h'
        · simp [Array.getElem?_eq_none h'] at h1
      omega
  intro fuel
  induction fuel with
  | zero => intro listed env H a w β hl hr h; exact ⟨h.1, fin listed env H a w β hl hr h.2.1 h.2.2⟩
  | succ fuel ih =>
    intro listed env H a w β hl hr h
    refine ⟨fun h0 => fin listed env H a w β hl hr (h.1 h0).1 (h.1 h0).2, fun i hi => ?_⟩
    obtain ⟨h1, h2⟩ := h.2 i hi
    obtain ⟨hun, oi, hoi, _⟩ := mem_ready.1 hi
    refine stepOp_ok (rd := (trOf tr i).1) (e := (trOf tr i).2) hr (fun k k1 k2 hd => ?_) hn h1 (hob i) (fun a' w' β' hr' => ?_)
    · rcases hd with hd | ⟨i', g1, g2, g3⟩
      · omega
      · have : i' = i := by omega
        subst this
        rcases Nat.lt_or_ge i' listed.size with h' | h'
        · simp [h'] at hun g1; rw [hun] at g1; cases g1
        · simp [Array.getElem?_eq_none h'] at g1
    · refine ih _ _ _ a' w' β' (by simp [hl]) (hr'.dom_mono (fun k hk => ?_)) h2
      rcases hk with hk | hk
      · rcases hk with hk | ⟨i', g1, g2⟩
        · exact .inl hk
        · exact .inr ⟨i', getD_set_true g1, g2⟩
      · have hil : i < listed.size := by rw [hl]; exact (Array.getElem?_eq_some_iff.1 hoi).1
        exact .inr ⟨i, by simp [Array.getD_eq_getD_getElem?, hil], hk⟩
theorem region_ok {c : Cx} {id : Nat} {draw : Bool} {env env' : List AV} {H H' : Hp} {a : Act} {w : World} {β : Nat → Option Addr} (hm : P.follows .mixedOrders = true) (hn : c.n ≤ base)
    (hr : runTr P ops base ss 0 env H = some (env', H', tr)) (hob : ∀ p ∈ obsOf tr, p) (hc : draw = true → chk ops tr = true) (h : Rel c (fun k => k < base) env H a w β)
    {Q : Exit → Act → World → Prop} (hQ : ∀ a' w' β', Rel c (fun k => k < base + 32 * ops.size) env' H' a' w' β' → Q .normal a' w') : (Code.region id ops draw).wp P Q a w := by
  have hlen := runTr_len ss 0 env H hr
  cases draw with
  | false =>
    refine wp_region ?_
    have := seq_ok (Q := Q) hn ss 0 env H a w β env' H' tr hr hob (h.dom_mono (fun k hk => by omega)) hQ
    rw [List.range_eq_range', show ops.size = ss.length by omega]
    exact this
  | true =>
    refine wp_region_any hm ?_
    have hE : ∀ own : Bool → Nat → Prop, Ext w own { w with drawn := w.drawn + 1 } own := fun own => ⟨rfl, rfl, rfl, Nat.le_refl _, fun _ _ _ _ => rfl, fun _ _ _ h => h, fun _ c e f h => ⟨c, e, f, h, Nat.le_refl _⟩, fun _ es ck h => ⟨es, ck, h⟩⟩
    have hd : Rel c (fun k => k < base) env H a { w with drawn := w.drawn + 1 } β :=
      { hr := fun o ob hl => by
          rcases h.hr o ob hl with h' | ⟨b, bs, cells, elem, h1, h2, h3⟩ | h'
          · exact .inl h'
          · refine .inr (.inl ⟨b, bs, cells, elem, h1, h2, fun i hi j hj => ?_⟩)
            obtain ⟨v, g1, g2, g3⟩ := h3 i hi j hj
            exact ⟨v, g1, g2, g3.ext (hE _) (fun _ _ h => h)⟩
          · exact .inr (.inr h')
        sep := h.sep
        ev := fun t => (h.ev t).ext (hE _) (fun _ _ h => h)
        len := h.len, dfr := h.dfr, dom := h.dom
        ext := h.ext.trans (hE _)
        xs := h.xs, own := h.own, init := h.init }
    have hob' : ∀ i, ∀ p ∈ (trOf tr i).2.ob, p := by
      intro i p hp
      unfold trOf at hp
      rw [List.getD_eq_getElem?_getD] at hp
      cases hi : tr[i]? with
      | none => rw [hi] at hp; simp at hp
      | some x =>
        rw [hi] at hp
        exact hob p (List.mem_flatten.2 ⟨x.2.ob, List.mem_map.2 ⟨x, List.mem_of_getElem? hi, rfl⟩, hp⟩)
    have hu : Upto ops 0 (Array.replicate ops.size false) := ⟨by simp, fun j hj => by simp [hj]⟩
    have hlex := AAny_lex (ss := ss) (hc rfl) ss 0 (Array.replicate ops.size false) env H env' H' tr hr (fun k => by simp) (fun k => by simp) hu
    have hl : ss.length = ops.size := by omega
    rw [hl] at hlex
    exact AAny_sound hn hob' hQ ops.size _ env H a _ β (by simp) (hd.dom_mono (fun k hk => .inl hk)) hlex
end
end Go.Proofs.Ytgdbnnmogddkaaa.Mach
namespace Go.Proofs.Ytgdbnnmogddkaaa.Mach
open Go
set_option linter.unusedVariables false
set_option linter.unusedSimpArgs false
structure St where
  env : List AV
  H : Hp
  ctr : Nat
def Run (P : Program) (c : Cx) (f : FuncId) (k : List Item) (st : St) (R : Ending → World → Prop) : Prop :=
  c.n ≤ st.ctr → ∀ (b : Frame) (cs : List Frame) (a : Act) (w : World) (β : Nat → Option Addr), b.fn = f → b.kind = .normal → Rel c (fun k => k < st.ctr) st.env st.H a w β →
    ∃ e w' fr, R e w' ∧ Comes P (lone (b.at a k) cs w) (lone fr cs w') e ∧ fr.fn = f ∧ fr.leaving P w' e
inductive ScI where
  | reg (ss : List OpS)
  | dec (b : Bool)
  | loop
  | head
section
variable {P : Program} {c : Cx} {f : FuncId} {R : Ending → World → Prop}
theorem Run.step {k k' : List Item} {st : St} (h : ∀ (b : Frame) (cs : List Frame) (a : Act) (w : World), Steps P (lone (b.at a k) cs w) (lone (b.at a k') cs w)) (hr : Run P c f k' st R) : Run P c f k st R := by
  intro hn b cs a w β h1 h2 h3
  obtain ⟨e, w', fr, g1, g2, g3, g4⟩ := hr hn b cs a w β h1 h2 h3
  exact ⟨e, w', fr, g1, g2.of_steps (h b cs a w), g3, g4⟩
def runTo (P : Program) : Nat → List ScI → List Item → St → Option (List Item × St × List Prop)
  | 0, _, _, _ => none
  | fuel + 1, sc, k, st =>
    match k with
    | [] => match sc with
      | [] => some ([], st, [])
      | _ => none
    | .inBlock _ :: k => runTo P fuel sc k st
    | .inScope _ :: k => runTo P fuel sc k st
    | .inLoop body :: k => match sc with
      | .loop :: sc => runTo P fuel sc (.code body :: .inLoop body :: k) st
      | .head :: _ => some (.code body :: .inLoop body :: k, st, [])
      | _ => none
    | .code code :: k =>
      match code with
      | .seq a b => runTo P fuel sc (.code a :: .code b :: k) st
      | .skip => runTo P fuel sc k st
      | .label _ => runTo P fuel sc k st
      | .block id body => runTo P fuel sc (.code body :: .inBlock id :: k) st
      | .scope body => runTo P fuel sc (.code body :: .inScope body :: k) st
      | .exit id => match exitTo id k with
        | some k' => runTo P fuel sc k' st
        | none => none
      | .loop body => match sc with
        | .loop :: sc => runTo P fuel sc (.code body :: .inLoop body :: k) st
        | .head :: _ => some (.code body :: .inLoop body :: k, st, [])
        | _ => none
      | .cond cnd x y => match sc with
        | .dec b :: sc => match evA st.env cnd with
          | .p (.bool v) => match runTo P fuel sc (.code (if b then x else y) :: k) st with
            | some (k', st', ob) => some (k', st', (v = b) :: ob)
            | none => none
          | _ => none
        | _ => none
      | .region rid ops draw => match sc with
        | .head :: _ => some (.code (.region rid ops draw) :: k, st, [])
        | .reg ss :: sc => match runTr P ops st.ctr ss 0 st.env st.H with
          | some (env', H', tr) =>
            if !draw || chk ops tr then
              match runTo P fuel sc k ⟨env', H', st.ctr + 32 * ops.size⟩ with
              | some (k', st', ob) => some (k', st', obsOf tr ++ ob)
              | none => none
            else none
          | none => none
        | _ => none
      | .ret => match sc with
        | [] => some (.code .ret :: k, st, [])
        | _ => none
      | _ => none
    | _ => none
theorem runTo_ok (hm : P.follows .mixedOrders = true) : ∀ (fuel : Nat) (sc : List ScI) (k : List Item) (st : St) (k' : List Item) (st' : St) (ob : List Prop), runTo P fuel sc k st = some (k', st', ob) → (∀ p ∈ ob, p) →
    Run P c f k' st' R → Run P c f k st R := by
  intro fuel
  induction fuel with
  | zero => intro sc k st k' st' ob h; cases h
  | succ fuel ih =>
    intro sc k st k' st' ob h hob hr
    unfold runTo at h
    split at h
    ·
      split at h
      · cases h; exact hr
      · cases h
    · exact Run.step (fun b cs a w => .one step_inBlock) (ih _ _ _ _ _ _ h hob hr)
    · exact Run.step (fun b cs a w => .one (step_lone_go (by simp [stepG, stepG.exec, Frame.at]))) (ih _ _ _ _ _ _ h hob hr)
    · split at h
      · exact Run.step (fun b cs a w => .one step_inLoop) (ih _ _ _ _ _ _ h hob hr)
      · cases h; exact Run.step (fun b cs a w => .one step_inLoop) hr
      · cases h
    · rename_i code k
      split at h
      · exact Run.step (fun b cs a w => .one step_seq) (ih _ _ _ _ _ _ h hob hr)
      · exact Run.step (fun b cs a w => .one step_skip) (ih _ _ _ _ _ _ h hob hr)
      · exact Run.step (fun b cs a w => .one step_label) (ih _ _ _ _ _ _ h hob hr)
      · exact Run.step (fun b cs a w => .one step_block) (ih _ _ _ _ _ _ h hob hr)
      · exact Run.step (fun b cs a w => .one (step_lone_go (by simp [stepG, stepG.exec, Frame.at]))) (ih _ _ _ _ _ _ h hob hr)
      · split at h
        · rename_i k2 hk2
          exact Run.step (fun b cs a w => .one (step_exit hk2)) (ih _ _ _ _ _ _ h hob hr)
        · cases h
      · split at h
        · exact Run.step (fun b cs a w => .one step_loop) (ih _ _ _ _ _ _ h hob hr)
        · cases h; exact Run.step (fun b cs a w => .one step_loop) hr
        · cases h
      ·
        rename_i cnd x y
        split at h
        case h_2 => cases h
        rename_i b sc
        split at h
        case h_2 => cases h
        rename_i v hv
        split at h
        case h_2 => cases h
        rename_i k2 st2 ob2 h2
        simp only [Option.some.injEq, Prod.mk.injEq] at h
        obtain ⟨rfl, rfl, rfl⟩ := h
        have hvb : v = b := hob _ (by simp)
        have hrun := ih _ _ _ _ _ _ h2 (fun p hp => hob p (by simp [hp])) hr
        intro hn fr cs a w β h1 h3 hrel
        have hc := evA_ok hrel.ev cnd
        rw [hv] at hc
        have hcv : a.eval cnd = .bool b := by
          generalize a.eval cnd = z at hc
          cases hc with
          | p _ _ hp => cases hp; rw [hvb]
        obtain ⟨e, w', fr', g1, g2, g3, g4⟩ := hrun hn fr cs a w β h1 h3 hrel
        exact ⟨e, w', fr', g1, g2.of_steps (.one (step_cond hcv)), g3, g4⟩
      ·
        rename_i id ops draw
        split at h
        case h_1 => cases h; exact hr
        case h_3 => cases h
        rename_i ss sc
        split at h
        case h_2 => cases h
        rename_i env' H' tr htr
        split at h
        case isFalse => cases h
        rename_i hd
        split at h
        case h_2 => cases h
        rename_i k2 st2 ob2 h2
        simp only [Option.some.injEq, Prod.mk.injEq] at h
        obtain ⟨rfl, rfl, rfl⟩ := h
        have hrun := ih _ _ _ _ _ _ h2 (fun p hp => hob p (List.mem_append_right _ hp)) hr
        intro hn fr cs a w β h1 h3 hrel
        have hwp := region_ok (id := id) (draw := draw) (Q := fun ex a' w' => ex = .normal ∧ ∃ β', Rel c (fun k => k < st.ctr + 32 * ops.size) env' H' a' w' β') hm hn htr (fun p hp => hob p (List.mem_append_left _ hp))
          (fun h => by rw [h] at hd; simpa using hd) hrel (fun a' w' β' h => ⟨rfl, β', h⟩)
        obtain ⟨ex, a', w', ⟨rfl, β', hrel'⟩, harr⟩ := hwp fr k cs
        obtain ⟨e, w2, fr', g1, g2, g3, g4⟩ := hrun (by simp only; omega) fr cs a' w' β' h1 h3 hrel'
        exact ⟨e, w2, fr', g1, g2.of_steps harr, g3, g4⟩
      · split at h
        · cases h; exact hr
        · cases h
      · cases h
    · cases h
end
end Go.Proofs.Ytgdbnnmogddkaaa.Mach
namespace Go.Proofs.Ytgdbnnmogddkaaa.Mach
open Go
set_option linter.unusedVariables false
set_option linter.unusedSimpArgs false
def wkP : PV → PV → List Prop
  | .int k n, .int k' n' => if ikEq k k' then [n = n'] else [False]
  | .bool b, .bool b' => [b = b']
  | .str s, .str s' => [s = s']
  | .nil, .nil => []
  | .nil, .seq _ _ n' _ => [n' = 0]
  | .seq t z n f, .seq t' z' n' f' => if t == t' && z == z' then [n = n', ∀ i, i < n → f i = f' i] else [False]
  | .fn f, .fn f' => [f = f']
  | _, .any => []
  | _, _ => [False]
mutual
def wk : AV → AV → List Prop
  | .p v, .p v' => wkP v v'
  | .p v, .ar _ _ _ n' => match v with
    | .nil => [n' = 0]
    | _ => [False]
  | .ar z o off n, .ar z' o' off' n' => if z == z' && o == o' then [off = off', n = n'] else [False]
  | .pt z o row off, .pt z' o' row' off' => if z == z' && o == o' && off == off' then [row = row'] else [False]
  | .ip t cs, .ip t' cs' => [t = t', cs = cs']
  | .mp o, .mp o' => if o == o' then [] else [False]
  | .agg cs, .agg cs' => wkL cs cs'
  | .tup cs, .tup cs' => wkL cs cs'
  | .clo f cs, .clo f' cs' => if f == f' then wkL cs cs' else [False]
  | .cnd g v, .cnd g' v' => [g = g', AV.cnd g v = .cnd g v']
  | _, .p .any => []
  | _, _ => [False]
def wkL : List AV → List AV → List Prop
  | [], [] => []
  | v :: l, v' :: l' => wk v v' ++ wkL l l'
  | _, _ => [False]
end
theorem wkL_length : ∀ (l l' : List AV), All (wkL l l') → l.length = l'.length
  | [], [], _ => rfl
  | v :: l, v' :: l', h => by simp only [wkL] at h; simp [wkL_length l l' (All_app h).2]
  | [], _ :: _, h => by simp [wkL, All] at h
  | _ :: _, [], h => by simp [wkL, All] at h
theorem wkL_getD : ∀ (l l' : List AV) (j : Nat), All (wkL l l') → j < l.length → All (wk (l.getD j anyA) (l'.getD j anyA))
  | [], _, j, _, hj => by simp at hj
  | v :: l, v' :: l', 0, h, _ => by simp only [wkL] at h; simpa using (All_app h).1
  | v :: l, v' :: l', j + 1, h, hj => by simp only [wkL] at h; simpa using wkL_getD l l' j (All_app h).2 (by simpa using hj)
  | _ :: _, [], _, h, _ => by simp [wkL, All] at h
theorem seq_ext {w : World} {own : Bool → Nat → Prop} {t : Bool} {z n : Nat} {f f' : Nat → List PV} {x : Value} (h : PR w own (.seq t z n f) x) (hf : ∀ i, i < n → f i = f' i) : PR w own (.seq t z n f') x := by
  cases h with
  | seq0 _ _ _ a c => exact .seq0 _ _ _ _ _
  | seq _ _ _ _ b off c g hb hlt hc hcell hone hp => exact .seq _ _ _ _ b off c g hb hlt hc hcell hone (fun i hi j hj => by rw [← hf i hi]; exact hp i hi j hj)
theorem wkP_ok {w : World} {own : Bool → Nat → Prop} {v v' : PV} {x : Value} (h : PR w own v x) (ho : All (wkP v v')) : PR w own v' x := by
  unfold wkP at ho
  split at ho
  · split at ho
    · rename_i hk
      obtain rfl := ikEq_eq hk
      obtain ⟨rfl, _⟩ := ho; exact h
    · exact ho.1.elim
  · obtain ⟨rfl, _⟩ := ho; exact h
  · obtain ⟨rfl, _⟩ := ho; exact h
  · exact h
  · obtain ⟨rfl, _⟩ := ho; cases h; exact .seq0 _ _ _ _ _
  · split at ho
    · rename_i hz
      simp only [Bool.and_eq_true, beq_iff_eq] at hz
      obtain ⟨rfl, rfl⟩ := hz
      obtain ⟨rfl, hf, _⟩ := ho; exact seq_ext h hf
    · exact ho.1.elim
  · obtain ⟨rfl, _⟩ := ho; exact h
  · exact .any _
  · exact ho.1.elim
theorem wk_ok {w : World} {β : Nat → Option Addr} {own : Bool → Nat → Prop} {v : AV} {x : Value} (h : VR w β own v x) : ∀ v' : AV, All (wk v v') → VR w β own v' x := by
  induction h with
  | p u x hp =>
    intro v' ho
    cases v' <;> simp only [wk] at ho <;> try (exact ho.1.elim)
    · exact .p _ _ (wkP_ok hp ho)
    · split at ho
      · obtain ⟨rfl, _⟩ := ho
        cases hp
        exact .ar0 _ _ _ _
      · exact ho.1.elim
  | ar0 z o off a =>
    intro v' ho
    cases v' with
    | ar z' o' off' n' =>
      simp only [wk] at ho
      split at ho
      · rename_i hz
        simp only [Bool.and_eq_true, beq_iff_eq] at hz
        obtain ⟨rfl, rfl⟩ := hz
        obtain ⟨rfl, rfl, _⟩ := ho
        exact .ar0 _ _ _ _
      · exact ho.1.elim
    | p u => cases u <;> simp only [wk] at ho <;> first | exact .any _ | exact ho.1.elim
    | _ => simp only [wk] at ho; exact ho.1.elim
  | ar z o off n b base c cells elem fr hβ hh hsz hc =>
    intro v' ho
    cases v' with
    | ar z' o' off' n' =>
      simp only [wk] at ho
      split at ho
      · rename_i hz
        simp only [Bool.and_eq_true, beq_iff_eq] at hz
        obtain ⟨rfl, rfl⟩ := hz
        obtain ⟨rfl, rfl, _⟩ := ho
        exact .ar _ _ _ _ b base c cells elem fr hβ hh hsz hc
      · exact ho.1.elim
    | p u => cases u <;> simp only [wk] at ho <;> first | exact .any _ | exact ho.1.elim
    | _ => simp only [wk] at ho; exact ho.1.elim
  | pt z o row off b base hβ =>
    intro v' ho
    cases v' with
    | pt z' o' row' off' =>
      simp only [wk] at ho
      split at ho
      · rename_i hz
        simp only [Bool.and_eq_true, beq_iff_eq] at hz
        obtain ⟨⟨rfl, rfl⟩, rfl⟩ := hz
        obtain ⟨rfl, _⟩ := ho
        exact .pt _ _ _ _ b base hβ
      · exact ho.1.elim
    | p u => cases u <;> simp only [wk] at ho <;> first | exact .any _ | exact ho.1.elim
    | _ => simp only [wk] at ho; exact ho.1.elim
  | ip t cs b off g hb hlt hcell hone hp =>
    intro v' ho
    cases v' with
    | ip t' cs' =>
      simp only [wk] at ho
      obtain ⟨rfl, rfl, _⟩ := ho
      exact .ip t cs b off g hb hlt hcell hone hp
    | p u => cases u <;> simp only [wk] at ho <;> first | exact .any _ | exact ho.1.elim
    | _ => simp only [wk] at ho; exact ho.1.elim
  | mp o b hβ hm =>
    intro v' ho
    cases v' with
    | mp o' =>
      simp only [wk] at ho
      split at ho
      · rename_i hz
        have hz : o = o' := by simpa using hz
        subst hz
        exact .mp _ b hβ hm
      · exact ho.1.elim
    | p u => cases u <;> simp only [wk] at ho <;> first | exact .any _ | exact ho.1.elim
    | _ => simp only [wk] at ho; exact ho.1.elim
  | agg cs vs hl hone h ih =>
    intro v' ho
    cases v' with
    | agg cs' =>
      simp only [wk] at ho
      have hlen := wkL_length _ _ ho
      exact .agg _ _ (by omega) (fun j hj => hone j (by omega)) (fun j hj => ih j (by omega) _ (wkL_getD _ _ j ho (by omega)))
    | p u => cases u <;> simp only [wk] at ho <;> first | exact .any _ | exact ho.1.elim
    | _ => simp only [wk] at ho; exact ho.1.elim
  | tup cs vs hl h ih =>
    intro v' ho
    cases v' with
    | tup cs' =>
      simp only [wk] at ho
      have hlen := wkL_length _ _ ho
      exact .tup _ _ (by omega) (fun j hj => ih j (by omega) _ (wkL_getD _ _ j ho (by omega)))
    | p u => cases u <;> simp only [wk] at ho <;> first | exact .any _ | exact ho.1.elim
    | _ => simp only [wk] at ho; exact ho.1.elim
  | clo f cs vs hl h ih =>
    intro v' ho
    cases v' with
    | clo f' cs' =>
      simp only [wk] at ho
      split at ho
      · rename_i hz
        have hz : f = f' := by simpa using hz
        subst hz
        have hlen := wkL_length _ _ ho
        exact .clo _ _ _ (by omega) (fun j hj => ih j (by omega) _ (wkL_getD _ _ j ho (by omega)))
      · exact ho.1.elim
    | p u => cases u <;> simp only [wk] at ho <;> first | exact .any _ | exact ho.1.elim
    | _ => simp only [wk] at ho; exact ho.1.elim
  | cnd g v x h h' ih =>
    intro v' ho
    cases v' with
    | cnd g' v' =>
      simp only [wk] at ho
      obtain ⟨rfl, he, _⟩ := ho
      rw [← he]
      exact .cnd g v x h h'
    | p u => cases u <;> simp only [wk] at ho <;> first | exact .any _ | exact ho.1.elim
    | _ => simp only [wk] at ho; exact ho.1.elim
def cvS (H : Hp) (keep : List Nat) (d : Nat) : List AV → List AV → List Prop
  | _, [] => []
  | [], _ :: _ => [False]
  | s :: l, t :: l' =>
    (match t with
     | .p .any => []
     | _ => (cvt false H keep d s).2 ++ wk (cvt false H keep d s).1 t) ++ cvS H keep d l l'
def cvH (H : Hp) (keep : List Nat) (d : Nat) : Hp → List Prop
  | [] => []
  | (k, ob') :: r =>
    (match keep[k]? with
     | some o => (match H.lookup o with
       | some ob =>
         (match ob'.z with
          | 0 => [ob'.n = ob.n, ob.bx = false, ob'.bx = false]
          | _ + 1 => []) ++
         (match ob'.bx with
          | true => [ob.z = ob'.z, ob'.n ≤ ob.n, ob'.n ≤ 1] ++ ((cvtL false H keep d (ob.f 0)).2 ++ wkL (cvtL false H keep d (ob.f 0)).1 (ob'.f 0))
          | false => [ob.z = ob'.z, ob'.n ≤ ob.n, ∀ i, i < ob'.n → All ((cvtL false H keep d (ob.f i)).2) ∧ (cvtL false H keep d (ob.f i)).1 = ob'.f i])
       | none => [False])
     | none => [ob'.n = 0]) ++ cvH H keep d r
def keepB (n m : Nat) (keep : List Nat) (H' : Hp) : Bool := (List.range n).all fun k => keep[k]? == some k || ((H'.lookup k).isNone && match keep[k]? with
  | some q => Nat.ble m q
  | none => false)
def convOb (n : Nat) (st : St) (keep : List Nat) (d : Nat) (st' : St) : List Prop :=
  (if keepB n st.ctr keep st'.H && nodupB keep && Nat.ble keep.length st'.ctr && Nat.ble n st'.ctr && st'.H.all (fun e => Nat.blt e.1 st'.ctr) then [] else [False]) ++ cvS st.H keep d st.env st'.env ++ cvH st.H keep d st'.H
theorem cvS_ok {H : Hp} {keep : List Nat} {d : Nat} : ∀ (l l' : List AV), All (cvS H keep d l l') → l'.length ≤ l.length ∧ ∀ j, l'.getD j anyA = anyA ∨ (All (cvt false H keep d (l.getD j anyA)).2 ∧ All (wk (cvt false H keep d (l.getD j anyA)).1 (l'.getD j anyA)))
  | l, [], _ => ⟨by simp, fun j => .inl (by simp)⟩
  | [], t :: l', h => by simp [cvS, All] at h
  | s :: l, t :: l', h => by
    simp only [cvS] at h
    obtain ⟨h1, h2⟩ := All_app h
    obtain ⟨g1, g2⟩ := cvS_ok l l' h2
    refine ⟨by simpa using g1, fun j => ?_⟩
    cases j with
    | zero =>
      simp only [List.getD_cons_zero]
      split at h1
      · exact .inl rfl
      · exact .inr (All_app h1)
    | succ j => simpa using g2 j
theorem cvH_ok {H : Hp} {keep : List Nat} {d : Nat} : ∀ (H' : Hp), All (cvH H keep d H') → ∀ k ob', H'.lookup k = some ob' → (keep[k]? = none ∧ ob'.n = 0) ∨ ∃ o ob, keep[k]? = some o ∧ H.lookup o = some ob ∧ ob.z = ob'.z ∧ ob'.n ≤ ob.n ∧
    (∀ i, i < ob'.n → All ((cvtL false H keep d (ob.f i)).2) ∧ ∀ j, (cvtL false H keep d (ob.f i)).1.getD j anyA = (ob'.f i).getD j anyA ∨ All (wk ((cvtL false H keep d (ob.f i)).1.getD j anyA) ((ob'.f i).getD j anyA))) ∧
      (ob'.z = 0 → ob'.n = ob.n ∧ ob'.bx = false ∧ ∀ i, i < ob'.n → (cvtL false H keep d (ob.f i)).1 = ob'.f i)
  | [], _, k, ob', h => by simp at h
  | (j, x) :: r, ha, k, ob', h => by
    simp only [cvH] at ha
    obtain ⟨h1, h2⟩ := All_app ha
    simp only [List.lookup_cons] at h
    by_cases hk : k = j
    · subst hk
      simp only [beq_self_eq_true, Option.some.injEq] at h
      subst h
      split at h1
      · rename_i o hkk
        split at h1
        · rename_i ob hob
          obtain ⟨h0, h1⟩ := All_app h1
          have hz : x.z = 0 → x.n = ob.n ∧ x.bx = false := by
            intro hz
            rw [hz] at h0
            exact ⟨h0.1, h0.2.2.1⟩
          split at h1
          · rename_i hbx
            obtain ⟨⟨g1, g2, g3, _⟩, g5⟩ := All_app h1
            obtain ⟨g6, g7⟩ := All_app g5
            refine .inr ⟨o, ob, hkk, hob, g1, g2, fun i hi => ?_, fun h => by have := (hz h).2; rw [hbx] at this; cases this⟩
            obtain rfl : i = 0 := by omega
            refine ⟨g6, fun j => ?_⟩
            by_cases hj : j < (cvtL false H keep d (ob.f 0)).1.length
            · exact .inr (wkL_getD _ _ j g7 hj)
            · have hl := wkL_length _ _ g7
              left
              rw [List.getD_eq_getElem?_getD, List.getD_eq_getElem?_getD, List.getElem?_eq_none (by omega), List.getElem?_eq_none (by omega)]
          · obtain ⟨g1, g2, g3, _⟩ := h1
            exact .inr ⟨o, ob, hkk, hob, g1, g2, fun i hi => ⟨(g3 i hi).1, fun j => .inl (by rw [(g3 i hi).2])⟩, fun h => ⟨(hz h).1, (hz h).2, fun i hi => (g3 i hi).2⟩⟩
        · exact h1.1.elim
      · rename_i hkk
        exact .inl ⟨hkk, h1.1⟩
    · have : (k == j) = false := by simpa using hk
      rw [this] at h
      exact cvH_ok r h2 k ob' h
section
variable {P : Program} {c : Cx} {f : FuncId} {R : Ending → World → Prop}
theorem Rel.conv0 {dom : Nat → Prop} {env env' : List AV} {H H' : Hp} {a : Act} {w : World} {β : Nat → Option Addr} {keep : List Nat} {d : Nat} (h : Rel c dom env H a w β)
    (hnd : keep.Nodup) (hS : All (cvS H keep d env env')) (hH : All (cvH H keep d H')) :
    Rel { c with n := 0 } (fun k => k < keep.length ∨ H'.lookup k ≠ none) env' H' a w (subβ β keep) ∧
      ∀ (x : AV) (v : Value) (x' : AV), VR w β (ow c.X β H) x v → All (cvt false H keep d x).2 → All (wk (cvt false H keep d x).1 x') → VR w (subβ β keep) (ow c.X (subβ β keep) H') x' v := by
  have hh := cvH_ok H' hH
  have cls : ∀ b, ownOf (subβ β keep) H' b → ∃ (k o : Nat) (ob : Ob) (a : Addr), keep[k]? = some o ∧ H.lookup o = some ob ∧ β o = some a ∧ a.block = b := by
    rintro b ⟨k, ob', a, h1, h2, h3⟩
    rcases hh k ob' h1 with ⟨q1, _⟩ | ⟨o, ob, g1, g2, _⟩
    · simp [subβ, q1] at h2
    have : β o = some a := by simpa [subβ, g1] using h2
    exact ⟨k, o, ob, a, g1, g2, this, h3⟩
  have own_own : ∀ b, ownOf (subβ β keep) H' b → ownOf β H b := by
    intro b hb
    obtain ⟨k, o, ob, a, g1, g2, g3, g4⟩ := cls b hb
    exact ⟨o, ob, a, g2, g3, g4⟩
  have hc : ∀ t b, ow c.X (subβ β keep) H' t b → ow c.X β H t b := fun t b h => h.imp (own_own b) id
  have hc' : ∀ t b, ow c.X (subβ β keep) H' true b → ow c.X β H t b := by
    rintro t b (h | ⟨h, _⟩)
    · exact .inl (own_own b h)
    · cases h
  have hfree : ∀ o ob a, H.lookup o = some ob → idx o keep 0 = none → β o = some a → ¬ ow c.X (subβ β keep) H' false a.block := by
    rintro o ob a h1 h2 h3 (h' | ⟨_, h'⟩)
    · obtain ⟨k, o', ob', a', g1, g2, g3, g4⟩ := cls _ h'
      have : o' = o := h.sep o' o ob' ob a' a g2 h1 g3 h3 g4
      subst this
      exact idx_none keep 0 h2 (List.mem_of_getElem? g1)
    · exact (h.xs _ h').2 ⟨o, ob, a, h1, h3, rfl⟩
  have cv := fun (x : AV) (v : Value) (hv : VR w β (ow c.X β H) x v) (hb : All (cvt false H keep d x).2) => cvt_ok (t := false) (L := H) (pass := keep) h.hr (fun _ _ h => h) hc hc' hfree d x v hv hb
  have ext : Ext w (ow c.X β H) w (ow c.X (subβ β keep) H') := Ext.sub hc
  obtain ⟨hl, hs⟩ := cvS_ok env env' hS
  refine ⟨⟨?_, ?_, fun t => ?_, Nat.le_trans hl h.len, h.dfr, fun k hk' => ?_, h.ext.trans ext, fun b hb => ⟨(h.xs b hb).1, fun ho => (h.xs b hb).2 (own_own b ho)⟩, fun b hb => h.own b (own_own b hb), fun k hk' => ?_⟩, ?_⟩
  · intro k ob' hk'
    rcases hh k ob' hk' with ⟨q1, q2⟩ | ⟨o, ob, g1, g2, g3, g4, g5, g6⟩
    · exact .inl ⟨by simp [subβ, q1], q2⟩
    have hβ : subβ β keep k = β o := by simp [subβ, g1]
    rcases h.hr o ob g2 with h' | ⟨b, base, cells, elem, h1, h2, h3⟩ | ⟨m1, m2, b, es, ck, m3, m4, m5, K, V, m6⟩
    rotate_left 2
    · obtain ⟨n1, n2, n3⟩ := g6 (by omega)
      refine .inr (.inr ⟨by omega, n2, b, es, ck, by rw [hβ]; exact m3, m4, by omega, K, V, fun i hi => ⟨?_, (m6 i (by omega)).2⟩⟩)
      rw [← n3 i hi, (m6 i (by omega)).1]
      simp [cvtL, cvt, tg]
    · exact .inl ⟨by rw [hβ]; exact h'.1, by omega⟩
    · refine .inr (.inl ⟨b, base, cells, elem, by rw [hβ]; exact h1, h2, fun i hi j hj => ?_⟩)
      obtain ⟨v, k1, k2, k3⟩ := h3 i (by omega) j (by omega)
      rw [g3] at k1
      refine ⟨v, k1, k2, ?_⟩
      obtain ⟨m1, m2⟩ := g5 i hi
      have hcv := cv _ v k3 (cvtL_ob false H keep d _ j m1)
      rw [← cvtL_getD] at hcv
      rcases m2 j with m2 | m2
      · rw [← m2]; exact hcv
      · exact wk_ok hcv _ m2
  · intro k k' ob ob' a1 a2 h1 h2 h3 h4 h5
    rcases hh k ob h1 with ⟨q1, _⟩ | ⟨o, ob0, g1, g2, _⟩
    · simp [subβ, q1] at h3
    rcases hh k' ob' h2 with ⟨q1, _⟩ | ⟨o', ob0', g1', g2', _⟩
    · simp [subβ, q1] at h4
    have e1 : β o = some a1 := by simpa [subβ, g1] using h3
    have e2 : β o' = some a2 := by simpa [subβ, g1'] using h4
    have := h.sep o o' ob0 ob0' a1 a2 g2 g2' e1 e2 h5
    subst this
    exact nodup_inj hnd g1 g1'
  · rcases hs t with h' | ⟨h1, h2⟩
    · rw [h']; exact .any _
    · exact wk_ok (cv _ _ (h.ev t) h1) _ h2
  · rcases hk' with hk' | hk'
    · left
      by_cases hlt : k < keep.length
      · exact hlt
      · exfalso
        apply hk'
        simp [subβ, List.getElem?_eq_none (Nat.le_of_not_lt hlt)]
    · exact .inr hk'
  · exact absurd hk' (Nat.not_lt_zero _)
  · intro x v x' hv h1 h2
    exact wk_ok (cv x v hv h1) x' h2
def rebβ (c : Cx) (β : Nat → Option Addr) (keep : List Nat) (k : Nat) : Option Addr := if k < c.n then c.β0 k else subβ β keep k
theorem own_agree {β β' : Nat → Option Addr} {H : Hp} (h : ∀ k, H.lookup k ≠ none → β k = β' k) (b : Nat) : ownOf β H b ↔ ownOf β' H b := by
  constructor
  · rintro ⟨o, ob, a, h1, h2, h3⟩
    exact ⟨o, ob, a, h1, by rw [← h o (by rw [h1]; simp)]; exact h2, h3⟩
  · rintro ⟨o, ob, a, h1, h2, h3⟩
    exact ⟨o, ob, a, h1, by rw [h o (by rw [h1]; simp)]; exact h2, h3⟩
theorem Rel.conv {dom : Nat → Prop} {env env' : List AV} {H H' : Hp} {a : Act} {w : World} {β : Nat → Option Addr} {keep : List Nat} {d m : Nat} (h : Rel c dom env H a w β) (hm : ∀ k, m ≤ k → ¬ dom k)
    (hk : keepB c.n m keep H' = true) (hnd : keep.Nodup) (hS : All (cvS H keep d env env')) (hH : All (cvH H keep d H')) :
    Rel c (fun k => k < keep.length ∨ H'.lookup k ≠ none) env' H' a w (rebβ c β keep) ∧
      ∀ (x : AV) (v : Value) (x' : AV), VR w β (ow c.X β H) x v → All (cvt false H keep d x).2 → All (wk (cvt false H keep d x).1 x') → VR w (rebβ c β keep) (ow c.X (rebβ c β keep) H') x' v := by
  obtain ⟨r, rv⟩ := h.conv0 hnd hS hH
  have hkk : ∀ k, k < c.n → keep[k]? = some k ∨ (H'.lookup k = none ∧ ∃ q, keep[k]? = some q ∧ m ≤ q) := by
    intro k hk'
    simp only [keepB, List.all_eq_true, List.mem_range, Bool.or_eq_true, Bool.and_eq_true, beq_iff_eq, Option.isNone_iff_eq_none] at hk
    rcases hk k hk' with h1 | ⟨h1, h2⟩
    · exact .inl h1
    · refine .inr ⟨h1, ?_⟩
      split at h2
      · rename_i q hq
        exact ⟨q, hq, by simpa using h2⟩
      · cases h2
  have sub : ∀ k a, subβ β keep k = some a → rebβ c β keep k = some a := by
    intro k a hs
    unfold rebβ
    by_cases hkn : k < c.n
    · rw [if_pos hkn]
      rcases hkk k hkn with h1 | ⟨_, q, h1, h2⟩
      · rw [← h.init k hkn]
        simpa [subβ, h1] using hs
      · have hq : β q = some a := by simpa [subβ, h1] using hs
        exact absurd (h.dom q (.inl (by rw [hq]; simp))) (hm q h2)
    · rw [if_neg hkn]; exact hs
  have agree : ∀ k, H'.lookup k ≠ none → subβ β keep k = rebβ c β keep k := by
    intro k hl
    unfold rebβ
    by_cases hkn : k < c.n
    · rw [if_pos hkn]
      rcases hkk k hkn with h1 | ⟨h1, _⟩
      · rw [← h.init k hkn]
        simp [subβ, h1]
      · exact absurd h1 hl
    · rw [if_neg hkn]
  have hown : ∀ t b, ow c.X (rebβ c β keep) H' t b → ow c.X (subβ β keep) H' t b := fun t b hb => hb.imp (own_agree agree b).2 id
  have hown2 : ∀ t b, ow c.X (subβ β keep) H' t b → ow c.X (rebβ c β keep) H' t b := fun t b hb => hb.imp (own_agree agree b).1 id
  have tr : ∀ (x : AV) (v : Value), VR w (subβ β keep) (ow c.X (subβ β keep) H') x v → VR w (rebβ c β keep) (ow c.X (rebβ c β keep) H') x v := fun x v hv => hv.ext (Ext.sub hown) (fun o a ho => sub o a ho)
  refine ⟨⟨fun o ob hl => ?_, fun o o' ob ob' a a' h1 h2 h3 h4 h5 => ?_, fun t => tr _ _ (r.ev t), r.len, r.dfr, fun k hk' => ?_, ?_, fun b hb => ⟨(r.xs b hb).1, fun ho => (r.xs b hb).2 ((own_agree agree b).2 ho)⟩, fun b hb => r.own b ((own_agree agree b).2 hb), fun k hk' => ?_⟩, fun x v x' hv h1 h2 => tr _ _ (rv x v x' hv h1 h2)⟩
  · have hb := agree o (by rw [hl]; simp)
    rcases r.hr o ob hl with h' | ⟨b, base, cells, elem, h1, h2, h3⟩ | ⟨m1, m2, b, es, ck, m3, m4⟩
    · exact .inl ⟨by rw [← hb]; exact h'.1, h'.2⟩
    · exact .inr (.inl ⟨b, base, cells, elem, by rw [← hb]; exact h1, h2, fun i hi j hj => by
        obtain ⟨v, k1, k2, k3⟩ := h3 i hi j hj
        exact ⟨v, k1, k2, tr _ _ k3⟩⟩)
    · exact .inr (.inr ⟨m1, m2, b, es, ck, by rw [← hb]; exact m3, m4⟩)
  · rw [← agree o (by rw [h1]; simp)] at h3
    rw [← agree o' (by rw [h2]; simp)] at h4
    exact r.sep o o' ob ob' a a' h1 h2 h3 h4 h5
  · rcases hk' with hk' | hk'
    · unfold rebβ at hk'
      by_cases hkn : k < c.n
      · left
        rcases hkk k hkn with h1 | ⟨_, q, h1, _⟩
        · exact (List.getElem?_eq_some_iff.1 h1).1
        · exact (List.getElem?_eq_some_iff.1 h1).1
      · rw [if_neg hkn] at hk'
        exact r.dom k (.inl hk')
    · exact .inr hk'
  · exact r.ext.trans (Ext.sub hown)
  · unfold rebβ
    rw [if_pos hk']
theorem conv_ok {k : List Item} {st st' : St} (keep : List Nat) (d : Nat) (hob : All (convOb c.n st keep d st')) (hr : Run P c f k st' R) : Run P c f k st R := by
  unfold convOb at hob
  obtain ⟨h12, h3⟩ := All_app hob
  obtain ⟨h1, h2⟩ := All_app h12
  split at h1
  case isFalse => exact h1.1.elim
  rename_i hz
  simp only [Bool.and_eq_true, Nat.ble_eq, List.all_eq_true, Nat.blt_eq] at hz
  obtain ⟨⟨⟨⟨z1, z2⟩, z3⟩, z4⟩, z5⟩ := hz
  intro hn b cs a w β hb1 hb2 hrel
  obtain ⟨hrel', _⟩ := hrel.conv (m := st.ctr) (fun k h1 h2 => absurd h2 (by omega)) z1 (nodupB_ok z2) h2 h3
  refine hr z4 b cs a w _ hb1 hb2 (hrel'.dom_mono (fun k hk => ?_))
  rcases hk with hk | hk
  · omega
  · cases hl : st'.H.lookup k with
    | none => exact absurd hl hk
    | some ob =>
      have : (k, ob) ∈ st'.H := by
        have := List.lookup_eq_some_iff.1 hl
        obtain ⟨l1, l2, h, _⟩ := this
        rw [h]; simp
      exact z5 _ this
end
end Go.Proofs.Ytgdbnnmogddkaaa.Mach
namespace Go.Proofs.Ytgdbnnmogddkaaa.Mach
open Go
set_option linter.unusedVariables false
set_option linter.unusedSimpArgs false
mutual
def ntP : PV → List Prop
  | .seq t _ n f => [t = false, ∀ i, i < n → All (ntL (f i))]
  | .any => []
  | .int _ _ => []
  | .bool _ => []
  | .str _ => []
  | .nil => []
  | .fn _ => []
def ntL : List PV → List Prop
  | [] => []
  | v :: l => ntP v ++ ntL l
end
mutual
def ntA : AV → List Prop
  | .p v => ntP v
  | .ar _ _ _ _ => []
  | .pt _ _ _ _ => []
  | .ip _ _ => [False]
  | .mp _ => []
  | .agg cs => ntAL cs
  | .tup cs => ntAL cs
  | .clo _ cs => ntAL cs
  | .cnd _ _ => [False]
def ntAL : List AV → List Prop
  | [] => []
  | v :: l => ntA v ++ ntAL l
end
theorem ntL_getD : ∀ (l : List PV) (j : Nat), All (ntL l) → All (ntP (l.getD j .any))
  | [], j, _ => by simp [ntP, All]
  | v :: l, 0, h => by simp only [ntL] at h; simpa using (All_app h).1
  | v :: l, j + 1, h => by simp only [ntL] at h; simpa using ntL_getD l j (All_app h).2
theorem ntAL_getD : ∀ (l : List AV) (j : Nat), All (ntAL l) → All (ntA (l.getD j anyA))
  | [], j, _ => by simp [ntA, ntP, All]
  | v :: l, 0, h => by simp only [ntAL] at h; simpa using (All_app h).1
  | v :: l, j + 1, h => by simp only [ntAL] at h; simpa using ntAL_getD l j (All_app h).2
section
variable {X : Nat → Prop} {w : World} {β : Nat → Option Addr} {H : Hp}
theorem ntP_ok {v : PV} {x : Value} (h : PR w (ow X β H) v x) : All (ntP v) → PR w (fr X β H) v x := by
  induction h with
  | any x => exact fun _ => .any x
  | int k n => exact fun _ => .int k n
  | bool b => exact fun _ => .bool b
  | str s => exact fun _ => .str s
  | nil => exact fun _ => .nil
  | seq0 t z f a c => exact fun _ => .seq0 _ _ _ _ _
  | seq t z n f b off c g hb hlt hc hcell hone h ih =>
    intro ho
    simp only [ntP] at ho
    obtain ⟨rfl, ho, _⟩ := ho
    exact .seq _ _ _ _ b off c g (fun h => h.elim (fun h => by cases h) hb) hlt hc hcell hone (fun i hi j hj => ih i hi j hj (ntL_getD _ j (ho i hi)))
  | fn f => exact fun _ => .fn f
theorem ntA_ok {v : AV} {x : Value} (h : VR w β (ow X β H) v x) : All (ntA v) → VR w β (fr X β H) v x := by
  induction h with
  | p v x h => exact fun ho => .p _ _ (ntP_ok h ho)
  | ar0 z o off a => exact fun _ => .ar0 _ _ _ _
  | ar z o off n b base c cells elem fr hβ hh hsz hc => exact fun _ => .ar _ _ _ _ b base c cells elem fr hβ hh hsz hc
  | pt z o row off b base hβ => exact fun _ => .pt _ _ _ _ b base hβ
  | ip t cs b off g hb hlt hcell hone hp => intro ho; simp only [ntA] at ho; exact ho.1.elim
  | mp o b hβ hm => exact fun _ => .mp _ b hβ hm
  | agg cs vs hl hone h ih => intro ho; simp only [ntA] at ho; exact .agg _ _ hl hone (fun j hj => ih j hj (ntAL_getD _ j ho))
  | tup cs vs hl h ih => intro ho; simp only [ntA] at ho; exact .tup _ _ hl (fun j hj => ih j hj (ntAL_getD _ j ho))
  | clo f cs vs hl h ih => intro ho; simp only [ntA] at ho; exact .clo _ _ _ hl (fun j hj => ih j hj (ntAL_getD _ j ho))
  | cnd g v x h h' ih => intro ho; simp only [ntA] at ho; exact ho.1.elim
end
def cAt : Code → List Nat → Code
  | c, [] => c
  | .seq a _, 0 :: p => cAt a p
  | .seq _ b, _ :: p => cAt b p
  | .cond _ a _, 0 :: p => cAt a p
  | .cond _ _ b, _ :: p => cAt b p
  | .block _ a, _ :: p => cAt a p
  | .loop a, _ :: p => cAt a p
  | .scope a, _ :: p => cAt a p
  | c, _ => c
def resVals (P : Program) (env : List AV) (H : Hp) : List ResultVar → Option (List AV × List Prop)
  | [] => some ([], [])
  | .tmp t :: r => (resVals P env H r).map fun x => (env.getD t anyA :: x.1, x.2)
  | .cell a t :: r =>
    match evLoad P H t (env.getD a anyA) with
    | some e => (resVals P env H r).map fun x => (e.v :: x.1, e.ob ++ x.2)
    | none => none
def resV (P : Program) (env : List AV) (H : Hp) (rs : List ResultVar) : Option (AV × List Prop) :=
  (resVals P env H rs).map fun x => (match x.1 with | [v] => v | vs => .tup vs, x.2)
def ntH : Hp → List Prop
  | [] => []
  | (_, ob) :: r => (∀ i, i < ob.n → All (ntAL (ob.f i))) :: ntH r
def retOb (n : Nat) (P : Program) (rs : List ResultVar) (st : St) (keep : List Nat) (d : Nat) (H' : Hp) (res : AV) : List Prop :=
  match resV P st.env st.H rs with
  | some x =>
    (if keepB n st.ctr keep H' && nodupB keep && Nat.ble keep.length (n + 32) then [] else [False]) ++ x.2 ++ (cvt false st.H keep d x.1).2 ++ wk (cvt false st.H keep d x.1).1 res ++ cvH st.H keep d H' ++ ntA res ++ ntH H'
  | none => [False]
def Post (c : Cx) (H' : Hp) (res : AV) : Ending → World → Prop := fun e w' => ∃ v β', e = .returned v ∧ HR w' β' (fr c.X β' H') H' ∧ Sep β' H' ∧ VR w' β' (fr c.X β' H') res v ∧
  Ext c.w0 (ow c.X c.β0 c.H0) w' (ow c.X β' H') ∧ (∀ o, o < c.n → β' o = c.β0 o) ∧ (∀ b, ownOf β' H' b → ownOf c.β0 c.H0 b ∨ c.w0.heap.size ≤ b) ∧ ∀ k, β' k ≠ none → k < c.n + 32
section
variable {P : Program} {c : Cx} {f : FuncId}
def resOne (tmps : Array Value) : ResultVar → Sem Value
  | .tmp t => pure (tmps.getD t undef)
  | .cell at_ t => do loadVar t (← asAddr (tmps.getD at_ undef))
theorem resVals_ok {dom : Nat → Prop} {env : List AV} {H : Hp} {a : Act} {w : World} {β : Nat → Option Addr} (h : Rel c dom env H a w β) : ∀ (rs : List ResultVar) (vs : List AV) (ob : List Prop), resVals P env H rs = some (vs, ob) → (∀ p ∈ ob, p) →
    ∃ xs : List Value, (rs.mapM (resOne a.tmps) : Sem (List Value)).run P w = .ok xs w ∧ vs.length = xs.length ∧
      ∀ j, j < vs.length → VR w β (ow c.X β H) (vs.getD j anyA) (xs.getD j undef)
  | [], vs, ob, hr, _ => by
    simp only [resVals, Option.some.injEq, Prod.mk.injEq] at hr
    obtain ⟨rfl, rfl⟩ := hr
    exact ⟨[], by simp, rfl, fun j hj => by simp at hj⟩
  | .tmp t :: r, vs, ob, hr, hob => by
    simp only [resVals] at hr
    cases hr2 : resVals P env H r with
    | none => rw [hr2] at hr; cases hr
    | some x =>
      rw [hr2] at hr
      simp only [Option.map_some, Option.some.injEq, Prod.mk.injEq] at hr
      obtain ⟨rfl, rfl⟩ := hr
      obtain ⟨xs, g1, g2, g3⟩ := resVals_ok h r x.1 x.2 hr2 hob
      refine ⟨a.tmps.getD t undef :: xs, by simp only [List.mapM_cons, resOne, Sem.run_bind, Sem.run_pure, Result.andThen_ok, g1], by simp [g2], fun j hj => ?_⟩
      cases j with
      | zero => simpa using h.ev t
      | succ j => simpa using g3 j (by simpa using hj)
  | .cell at_ t :: r, vs, ob, hr, hob => by
    simp only [resVals] at hr
    split at hr
    case h_2 => cases hr
    rename_i e he
    cases hr2 : resVals P env H r with
    | none => rw [hr2] at hr; cases hr
    | some x =>
      rw [hr2] at hr
      simp only [Option.map_some, Option.some.injEq, Prod.mk.injEq] at hr
      obtain ⟨rfl, rfl⟩ := hr
      obtain ⟨xs, g1, g2, g3⟩ := resVals_ok h r x.1 x.2 hr2 (fun p hp => hob p (List.mem_append_right _ hp))
      obtain ⟨_, v, h1, h2⟩ := evLoad_ok (P := P) h.hr h.sep (fun _ _ h => h) he (fun p hp => hob p (List.mem_append_left _ hp)) (h.ev at_)
      have h1' : (do loadVar t (← asAddr (a.tmps.getD at_ undef)) : Sem Value).run P w = .ok v w := by
        generalize a.tmps.getD at_ undef = y at h1
        cases y with
        | pointer p =>
          cases p with
          | none => simp [Instr.loadAt, Instr.sureAddr] at h1
          | some p => simpa [Instr.loadAt, Instr.sureAddr, asAddr] using h1
        | _ => simp [Instr.loadAt, Instr.sureAddr] at h1
      refine ⟨v :: xs, by
        rw [List.mapM_cons, Sem.run_bind]
        show ((do loadVar t (← asAddr (a.tmps.getD at_ undef)) : Sem Value).run P w).andThen _ = _
        rw [h1']
        simp only [Sem.run_bind, Sem.run_pure, Result.andThen_ok, g1], by simp [g2], fun j hj => ?_⟩
      cases j with
      | zero => simpa using h2
      | succ j => simpa using g3 j (by simpa using hj)
theorem ret_rel {st : St} {a : Act} {w : World} {β : Nat → Option Addr} {fn : Func} {keep : List Nat} {d : Nat} {H' : Hp} {res : AV} (h : Rel c (fun k => k < st.ctr) st.env st.H a w β)
    (hob : All (retOb c.n P fn.results.toList st keep d H' res)) : ∃ v, (results fn a.tmps).run P w = .ok v w ∧ Post c H' res (.returned v) w := by
  unfold retOb at hob
  split at hob
  case h_2 => exact hob.1.elim
  rename_i x hx
  obtain ⟨hob, o7⟩ := All_app hob
  obtain ⟨hob, o6⟩ := All_app hob
  obtain ⟨hob, o5⟩ := All_app hob
  obtain ⟨hob, o4⟩ := All_app hob
  obtain ⟨hob, o3⟩ := All_app hob
  obtain ⟨o1, o2⟩ := All_app hob
  split at o1
  case isFalse => exact o1.1.elim
  rename_i hz
  simp only [Bool.and_eq_true, Nat.ble_eq] at hz
  obtain ⟨⟨z1, z2⟩, z3⟩ := hz
  unfold resV at hx
  cases hr : resVals P st.env st.H fn.results.toList with
  | none => rw [hr] at hx; cases hx
  | some y =>
    rw [hr] at hx
    simp only [Option.map_some, Option.some.injEq] at hx
    subst hx
    obtain ⟨xs, g1, g2, g3⟩ := resVals_ok (P := P) h _ y.1 y.2 hr ((All_iff _).1 o2)
    obtain ⟨hrel, hval⟩ := h.conv (H' := H') (env' := []) (keep := keep) (d := d) (m := st.ctr) (fun k h1 h2 => absurd h2 (by omega)) z1 (nodupB_ok z2) (by cases st.env <;> exact trivial) o5
    have hrun : (results fn a.tmps).run P w = .ok (if h : xs.toArray.size = 1 then xs.toArray[0] else .tuple xs.toArray) w := by
      have hfun : results fn a.tmps = (do let vs ← fn.results.mapM (resOne a.tmps); pure (if h : vs.size = 1 then vs[0] else .tuple vs)) := rfl
      rw [hfun, Array.mapM_eq_mapM_toList]
      simp only [Sem.run_bind, Sem.run_map, Result.andThen_ok, Sem.run_pure, g1]
    refine ⟨_, hrun, ?_⟩
    have hv : VR w β (ow c.X β st.H) (match y.1 with | [v] => v | vs => .tup vs) (if h : xs.toArray.size = 1 then xs.toArray[0] else .tuple xs.toArray) := by
      split
      · rename_i v hv
        rw [hv] at g2 g3
        have h1 : xs.toArray.size = 1 := by simpa using g2.symm
        rw [dif_pos h1]
        have := g3 0 (by simp)
        cases xs with
        | nil => simp at g2
        | cons x xs => simpa using this
      · rename_i hne
        have h1 : ¬ xs.toArray.size = 1 := by
          intro h1
          have : y.1.length = 1 := by rw [g2]; simpa using h1
          obtain ⟨v, hv⟩ := List.length_eq_one_iff.1 this
          exact hne v hv
        rw [dif_neg h1]
        exact .tup _ _ (by simpa using g2) (fun j hj => by
          have := g3 j hj
          simpa [Array.getD_eq_getD_getElem?, List.getD_eq_getElem?_getD] using this)
    have hres := hval _ _ res hv o3 o4
    refine ⟨_, rebβ c β keep, rfl, ?_, hrel.sep, ntA_ok hres o6, hrel.ext, hrel.init, hrel.own, fun k hk => ?_⟩
    · intro k ob hk
      rcases hrel.hr k ob hk with h' | ⟨b, base, cells, elem, h1, h2, h3⟩ | h'
      rotate_left 2
      · exact .inr (.inr h')
      · exact .inl h'
      · refine .inr (.inl ⟨b, base, cells, elem, h1, h2, fun i hi j hj => ?_⟩)
        obtain ⟨v, k1, k2, k3⟩ := h3 i hi j hj
        have hnt : ∀ (l : Hp), All (ntH l) → ∀ k ob, l.lookup k = some ob → ∀ i, i < ob.n → All (ntAL (ob.f i)) := by
          intro l
          induction l with
          | nil => intro _ k ob h; simp at h
          | cons e r ih =>
            obtain ⟨j, y⟩ := e
            intro ha k ob h
            simp only [List.lookup_cons] at h
            by_cases hkj : k = j
            · subst hkj
              simp only [beq_self_eq_true, Option.some.injEq] at h
              subst h
              exact ha.1
            · have : (k == j) = false := by simpa using hkj
              rw [this] at h
              exact ih ha.2 k ob h
        exact ⟨v, k1, k2, ntA_ok k3 (ntAL_getD _ j (hnt H' o7 k ob hk i hi))⟩
    · unfold rebβ at hk
      by_cases hkn : k < c.n
      · omega
      · rw [if_neg hkn] at hk
        have : k < keep.length := by
          by_cases hlt : k < keep.length
          · exact hlt
          · exfalso
            apply hk
            simp [subβ, List.getElem?_eq_none (Nat.le_of_not_lt hlt)]
        omega
theorem ret_ok {fn : Func} (hf : P.funcs[f]? = some fn) {k : List Item} (hk : k = [] ∨ ∃ k', k = .code .ret :: k') {st : St} {keep : List Nat} {d : Nat} {H' : Hp} {res : AV}
    (hob : All (retOb c.n P fn.results.toList st keep d H' res)) : Run P c f k st (Post c H' res) := by
  intro hn b cs a w β h1 h2 hrel
  obtain ⟨v, hr, hp⟩ := ret_rel hrel hob
  rcases hk with rfl | ⟨k', rfl⟩
  · exact ⟨.returned v, w, _, hp, .one step_end, h1, rfl, hrel.dfr, h2, fn, by rw [← h1] at hf; exact hf, hr⟩
  · exact ⟨.returned v, w, _, hp, .one step_ret, h1, rfl, hrel.dfr, h2, fn, by rw [← h1] at hf; exact hf, hr⟩
theorem con_of_run {fn : Func} {code : Code} (hf : P.funcs[f]? = some fn) (hb : fn.body = some code) (hen : enterable P f = true) {n : Nat} {H H' : Hp} {args : List AV} {res : AV}
    (hkeys : (H.all fun e => Nat.blt e.1 n) = true)
    (hrun : ∀ c : Cx, c.n = n → Run P c f [.code code] ⟨args ++ List.replicate (fn.ntmps - args.length) anyA, H, n⟩ (Post c H' res)) : Con P f n H args H' res := by
  refine ⟨hen, fun w β X vals hX hHR hSep hdom hlen hargs => ?_⟩
  have hrel : Rel ⟨n, X, w, β, H⟩ (fun k => k < n) (args ++ List.replicate (fn.ntmps - args.length) anyA) H { tmps := vals ++ Array.replicate (fn.ntmps - vals.size) undef, defers := [] } w β := by
    refine ⟨hHR, hSep, fun t => ?_, by simp [hlen], rfl, fun k hk => ?_, .refl _ _, hX, fun b hb => .inl hb, fun _ _ => rfl⟩
    · by_cases ht : t < args.length
      · have e1 : (args ++ List.replicate (fn.ntmps - args.length) anyA).getD t anyA = args.getD t anyA := by
          simp [List.getD_eq_getElem?_getD, List.getElem?_append_left ht]
        have e2 : (vals ++ Array.replicate (fn.ntmps - vals.size) undef).getD t undef = vals.getD t undef := by
          simp [Array.getD_eq_getD_getElem?, Array.getElem?_append_left (show t < vals.size by omega)]
        simp only [e1, e2]
        exact hargs t ht
      · have e1 : (args ++ List.replicate (fn.ntmps - args.length) anyA).getD t anyA = anyA := by
          rw [List.getD_eq_getElem?_getD, List.getElem?_append_right (by omega), List.getElem?_replicate]
          split <;> rfl
        rw [e1]
        exact .any _
    · rcases hk with hk | hk
      · exact hdom k hk
      · cases hl : H.lookup k with
        | none => exact absurd hl hk
        | some ob =>
          obtain ⟨l1, l2, h, _⟩ := List.lookup_eq_some_iff.1 hl
          simp only [List.all_eq_true, Nat.blt_eq] at hkeys
          exact hkeys (k, ob) (by rw [h]; simp)
  intro cs
  let b : Frame := { (default : Frame) with fn := f, kind := .normal }
  have henter : Frame.enter P f vals .normal = b.at { tmps := vals ++ Array.replicate (fn.ntmps - vals.size) undef, defers := [] } [.code code] := by
    simp [Frame.enter, Frame.at, hf, hb, b]
  obtain ⟨e, w', fr, g1, g2, g3, g4⟩ := hrun ⟨n, X, w, β, H⟩ rfl (Nat.le_refl _) b cs _ w β rfl rfl hrel
  rw [henter]
  refine ⟨e, w', fr, ?_, g2, g3, g4⟩
  obtain ⟨v, β', p1, p2, p3, p4, p5, p6, p7, p8⟩ := g1
  refine ⟨v, β', p1, p2, p3, p4, p5, fun o a ho => ?_, p7, fun k hk => ?_⟩
  · rw [p6 o (hdom o (by rw [ho]; simp))]; exact ho
  · by_cases hkn : k < n
    · left
      have := p6 k hkn
      simp only at this
      rw [← this]
      exact hk
    · exact .inr ⟨by omega, p8 k hk⟩
end
end Go.Proofs.Ytgdbnnmogddkaaa.Mach
namespace Go.Proofs.Ytgdbnnmogddkaaa.Mach
open Go
set_option linter.unusedVariables false
set_option linter.unusedSimpArgs false
def bodyOf (fn : Func) : Code := fn.body.getD .skip
def oT : OpS := ⟨true, none, none⟩
def isRet : List Item → Bool
  | [] => true
  | .code .ret :: _ => true
  | _ => false
def start (fn : Func) (H : Hp) (n : Nat) (args : List AV) : St := ⟨args ++ List.replicate (fn.ntmps - args.length) anyA, H, n⟩
def pathOb (P : Program) (fn : Func) (n : Nat) (sc : List ScI) (k : List Item) (st : St) (keep : List Nat) (d : Nat) (H' : Hp) (res : AV) : Option (List Prop) :=
  match runTo P 10000 sc k st with
  | some (k', st', ob) => if isRet k' then some (ob ++ retOb n P fn.results.toList st' keep d H' res) else none
  | none => none
def pieceOb (P : Program) (n : Nat) (sc : List ScI) (k : List Item) (st : St) (keep : List Nat) (d : Nat) (st2 : St) : Option (List Item × List Prop) :=
  match runTo P 10000 sc k st with
  | some (k', st', ob) => some (k', ob ++ convOb n st' keep d st2)
  | none => none
section
variable {P : Program} {c : Cx} {f : FuncId} {R : Ending → World → Prop}
theorem path_ok {fn : Func} {n : Nat} {sc : List ScI} {k : List Item} {st : St} {keep : List Nat} {d : Nat} {H' : Hp} {res : AV} {ob : List Prop} (hm : P.follows .mixedOrders = true) (hf : P.funcs[f]? = some fn) (hc : c.n = n)
    (h : pathOb P fn n sc k st keep d H' res = some ob) (hob : All ob) : Run P c f k st (Post c H' res) := by
  unfold pathOb at h
  split at h
  case h_2 => cases h
  rename_i k' st' ob' hr
  split at h
  case isFalse => cases h
  rename_i hret
  simp only [Option.some.injEq] at h
  subst h
  obtain ⟨h1, h2⟩ := All_app hob
  refine runTo_ok hm _ _ _ _ _ _ _ hr ((All_iff _).1 h1) (ret_ok hf ?_ (by rw [hc]; exact h2))
  unfold isRet at hret
  split at hret
  · exact .inl rfl
  · exact .inr ⟨_, rfl⟩
  · cases hret
theorem piece_ok {n : Nat} {sc : List ScI} {k k2 : List Item} {st st2 : St} {keep : List Nat} {d : Nat} {ob : List Prop} (hm : P.follows .mixedOrders = true) (hc : c.n = n)
    (h : pieceOb P n sc k st keep d st2 = some (k2, ob)) (hob : All ob) (hr : Run P c f k2 st2 R) : Run P c f k st R := by
  unfold pieceOb at h
  split at h
  case h_2 => cases h
  rename_i k' st' ob' hr'
  simp only [Option.some.injEq, Prod.mk.injEq] at h
  obtain ⟨rfl, rfl⟩ := h
  obtain ⟨h1, h2⟩ := All_app hob
  exact runTo_ok hm _ _ _ _ _ _ _ hr' ((All_iff _).1 h1) (conv_ok keep d (by rw [hc]; exact h2) hr)
theorem con_start {fn : Func} (hf : P.funcs[f]? = some fn) (hb : fn.body = some (bodyOf fn)) (hen : enterable P f = true) {n : Nat} {H H' : Hp} {args : List AV} {res : AV}
    (hkeys : (H.all fun e => Nat.blt e.1 n) = true) (hrun : ∀ c : Cx, c.n = n → Run P c f [.code (bodyOf fn)] (start fn H n args) (Post c H' res)) : Con P f n H args H' res :=
  con_of_run hf hb hen hkeys hrun
end
end Go.Proofs.Ytgdbnnmogddkaaa.Mach
namespace Go.Proofs.Ytgdbnnmogddkaaa.Mach
open Go
set_option linter.unusedVariables false
set_option linter.unusedSimpArgs false
inductive Sh where
  | int (k : IntKind)
  | bool
  | str
  | st (l : List Sh)
  | sl (s : Sh)
mutual
def Sh.z : Sh → Nat
  | .int _ => 1
  | .bool => 1
  | .str => 1
  | .st l => zL l
  | .sl _ => 1
def zL : List Sh → Nat
  | [] => 0
  | s :: l => s.z + zL l
end
mutual
def Sh.T : Sh → Type
  | .int _ => Int
  | .bool => Bool
  | .str => ByteArray
  | .st l => TL l
  | .sl s => Nat × (Nat → s.T)
def TL : List Sh → Type
  | [] => Unit
  | s :: l => s.T × TL l
end
mutual
def dfl : (s : Sh) → s.T
  | .int _ => (0 : Int)
  | .bool => false
  | .str => ByteArray.empty
  | .st l => dflL l
  | .sl s => ((0 : Nat), fun _ => dfl s)
def dflL : (l : List Sh) → TL l
  | [] => ()
  | s :: l => (dfl s, dflL l)
end
mutual
def enS : (s : Sh) → s.T → List PV
  | .int k, n => [.int k n]
  | .bool, b => [.bool b]
  | .str, x => [.str x]
  | .st l, v => enL l v
  | .sl s, v => [.seq true s.z v.1 fun i => enS s (v.2 i)]
def enL : (l : List Sh) → TL l → List PV
  | [], _ => []
  | s :: l, v => enS s v.1 ++ enL l v.2
end
mutual
def okS : (s : Sh) → s.T → Prop
  | .int k, n => imin k ≤ (show Int from n) ∧ (show Int from n) ≤ imax k
  | .bool, _ => True
  | .str, x => (show ByteArray from x).size ≤ 9223372036854775807
  | .st l, v => okL l v
  | .sl s, v => v.1 ≤ 9223372036854775807 ∧ ∀ i, i < v.1 → okS s (v.2 i)
def okL : (l : List Sh) → TL l → Prop
  | [], _ => True
  | s :: l, v => okS s v.1 ∧ okL l v.2
end
mutual
def fits (P : Program) : Sh → TypeId → Bool
  | .int k, t => match P.underlying t with | some (.int k') => ikEq k k' | _ => false
  | .bool, t => match P.underlying t with | some .bool => true | _ => false
  | .str, t => match P.underlying t with | some .string => true | _ => false
  | .st l, t => match P.underlying t with | some (.struct fs) => P.cellsOf t == zL l && fitsL P l fs.toList 0 | _ => false
  | .sl s, t => match P.underlying t with | some (.slice e) => P.cellsOf e == s.z && Nat.blt 0 s.z && fits P s e | _ => false
def fitsL (P : Program) : List Sh → List Field → Nat → Bool
  | [], [], _ => true
  | s :: l, f :: fs, off => f.offset == off && P.cellsOf f.type == s.z && fits P s f.type && fitsL P l fs (off + s.z)
  | _, _, _ => false
end
def no : Bool → Nat → Prop := ow (fun _ => False) (fun _ => none) []
theorem no_no {t : Bool} {b : Nat} : ¬ no t b := by
  rintro (⟨o, ob, a, h, _⟩ | ⟨_, h⟩)
  · simp at h
  · exact h
inductive Rd (w : World) : List PV → List Value → Prop
  | nil : Rd w [] []
  | cons {v : PV} {x : Value} {l : List PV} {r : List Value} (h : PR w no v x) (h1 : One x) (hr : Rd w l r) : Rd w (v :: l) (x :: r)
theorem Rd.append {w : World} {a b : List PV} {c d : List Value} (h : Rd w a c) (h' : Rd w b d) : Rd w (a ++ b) (c ++ d) := by
  induction h with
  | nil => exact h'
  | cons h h1 hr ih => exact .cons h h1 ih
theorem Rd.length {w : World} {a : List PV} {c : List Value} (h : Rd w a c) : a.length = c.length := by
  induction h with
  | nil => rfl
  | cons h h1 hr ih => simp [ih]
theorem Rd.get {w : World} {a : List PV} {c : List Value} (h : Rd w a c) : ∀ j, j < c.length → PR w no (a.getD j .any) (c.getD j undef) ∧ One (c.getD j undef) := by
  induction h with
  | nil => intro j hj; simp at hj
  | cons h h1 hr ih =>
    intro j hj
    cases j with
    | zero => exact ⟨h, h1⟩
    | succ j => simpa using ih j (by simpa using hj)
section
variable {H : Type} {enc : TypeId × Value → H} {P : Program} {w : World} {base : Nat} {spare : Nat → Bool} {held : Bool}
theorem add_add {b o x y : Nat} : ((⟨b, o, none⟩ : Addr).add x).add y = ⟨b, o + (x + y), none⟩ := by
  unfold Addr.add
  split <;> split <;> simp_all <;> omega
theorem cell_spot {a : Addr} {v : Value} (h : w.cell? a = some v) : a.spot = none ∧ a.block < w.heap.size := by
  unfold World.cell? at h
  split at h
  · rename_i c e f hb
    split at h
    · cases h
    · rename_i hs
      refine ⟨by simpa using hs, ?_⟩
      exact (Array.getElem?_eq_some_iff.1 hb).1
  · cases h
mutual
theorem read : (s : Sh) → ∀ (t : TypeId) (fuel : Nat) (cs : List Value) (x : DataW H × List MemPlace), fits P s t = true → DataW.trod enc P w base spare held fuel t cs = some x → ∃ v : s.T, okS s v ∧ Rd w (enS s v) cs
  | .int k, t, fuel, cs, x, hf, h => by
    simp only [fits] at hf
    split at hf
    case h_2 => cases hf
    rename_i k' hu
    obtain rfl := ikEq_eq hf
    obtain ⟨n, rfl, _, hw⟩ := DataW.trod_int hu h
    refine ⟨n, ?_, .cons (.int _ _) rfl .nil⟩
    simp only [Lit.wf, Bool.and_eq_true, decide_eq_true_eq] at hw
    cases k <;> exact hw
  | .bool, t, fuel, cs, x, hf, h => by
    simp only [fits] at hf
    split at hf
    case h_2 => cases hf
    rename_i hu
    obtain ⟨b, rfl, _⟩ := DataW.trod_bool hu h
    exact ⟨b, by simp [okS], .cons (.bool _) rfl .nil⟩
  | .str, t, fuel, cs, x, hf, h => by
    simp only [fits] at hf
    split at hf
    case h_2 => cases hf
    rename_i hu
    obtain ⟨b, rfl, _, hm⟩ := DataW.trod_string hu h
    exact ⟨b, by simpa [okS, maxLen] using hm, .cons (.str _) rfl .nil⟩
  | .st l, t, fuel, cs, x, hf, h => by
    simp only [fits] at hf
    split at hf
    case h_2 => cases hf
    rename_i fs hu
    simp only [Bool.and_eq_true, beq_iff_eq] at hf
    obtain ⟨xs, n, rfl, rfl, hl, hxs, hall⟩ := DataW.trod_struct hu h
    obtain ⟨v, h1, h2⟩ := readL l fs.toList 0 n cs hf.2 (by omega) (fun i f hi => by
      have hi' : fs[i]? = some f := by simpa using hi
      have := hall i f hi'
      have hlt : i < xs.length := by
        rw [hxs]
        exact (Array.getElem?_eq_some_iff.1 hi').1
      exact ⟨xs[i], by rw [this, List.getElem?_eq_getElem hlt]⟩)
    exact ⟨v, by simpa [okS] using h1, by simpa [enS] using h2⟩
  | .sl s, t, fuel, cs, x, hf, h => by
    simp only [fits] at hf
    split at hf
    case h_2 => cases hf
    rename_i e hu
    simp only [Bool.and_eq_true, beq_iff_eq] at hf
    obtain ⟨⟨hz, hpos⟩, hf⟩ := hf
    have hpos : 0 < s.z := Nat.le_of_ble_eq_true hpos
    rcases DataW.trod_slice hu h with ⟨rfl, _⟩ | ⟨a, len, cap, elems, rest, n, rfl, rfl, rfl, hb, hl, hm, hlen, hel, _⟩
    · exact ⟨((0 : Nat), fun _ => dfl s), by simp [okS], .cons (.seq0 _ _ _ _ _) rfl .nil⟩
    · have key : ∀ i, ∃ y : s.T × List Value, i < len → w.cells? base (a.add (i * s.z)) s.z = some y.2 ∧ okS s y.1 ∧ Rd w (enS s y.1) y.2 := by
        intro i
        by_cases hi : i < len
        · have hx := hel i hi
          rw [List.getElem?_eq_getElem (by omega)] at hx
          obtain ⟨cs', h1, h2⟩ := Option.bind_eq_some_iff.1 hx
          obtain ⟨v, h3, h4⟩ := read s e n cs' _ hf h2
          exact ⟨(v, cs'), fun _ => ⟨by rw [← hz]; exact h1, h3, h4⟩⟩
        · exact ⟨(dfl s, []), fun h => absurd h hi⟩
      obtain ⟨F, hF⟩ := Classical.axiomOfChoice key
      refine ⟨((len : Nat), fun i => (F i).1), ⟨?_, fun i hi => (hF i hi).2.1⟩, .cons ?_ rfl .nil⟩
      · have : maxLen = 9223372036854775807 := rfl
        show len ≤ 9223372036854775807
        omega
      · cases hl0 : len with
        | zero => exact .seq0 _ _ _ _ _
        | succ l' =>
          rw [← hl0]
          have h0 := (hF 0 (by omega)).1
          obtain ⟨_, hcl, hcell⟩ := World.cells?_some h0
          have hc0 := hcell 0 hpos
          rw [List.getElem?_eq_getElem (by omega)] at hc0
          obtain ⟨hs, hlt⟩ := cell_spot hc0
          obtain ⟨b, o, sp⟩ := a
          have hb' : ∀ q, ((⟨b, o, sp⟩ : Addr).add q).block = b := by intro q; unfold Addr.add; split <;> rfl
          have hsp : sp = none := by simpa [Addr.add] using hs
          subst hsp
          have hlt' : b < w.heap.size := by
            have e1 : (((⟨b, o, none⟩ : Addr).add (0 * s.z)).add 0).block = b := by rw [add_add]
            rw [e1] at hlt; exact hlt
          refine .seq _ _ _ _ b o cap (fun i j => (F i).2.getD j undef) no_no hlt' hl (fun i hi j hj => ?_) (fun i hi j hj => ?_) (fun i hi j hj => ?_)
          all_goals
            obtain ⟨g1, g2, g3⟩ := hF i hi
            obtain ⟨_, k1, k2⟩ := World.cells?_some g1
          · have := k2 j hj
            rw [add_add] at this
            rw [this, List.getElem?_eq_getElem (by omega)]
            simp [List.getD_eq_getElem?_getD, List.getElem?_eq_getElem (show j < (F i).2.length by omega)]
          · exact (g3.get j (by omega)).2
          · exact (g3.get j (by omega)).1
theorem readL : (l : List Sh) → ∀ (fs : List Field) (off n : Nat) (cs : List Value), fitsL P l fs off = true → off + zL l = cs.length →
    (∀ (i : Nat) (f : Field), fs[i]? = some f → ∃ x, DataW.trod enc P w base spare held n f.type ((cs.drop f.offset).take (P.cellsOf f.type)) = some x) → ∃ v : TL l, okL l v ∧ Rd w (enL l v) (cs.drop off)
  | [], fs, off, n, cs, hf, hz, h => by
    refine ⟨(), by simp [okL], ?_⟩
    simp only [zL, Nat.add_zero] at hz
    subst hz
    simp only [List.drop_length, enL]
    exact .nil
  | s :: l, [], off, n, cs, hf, hz, h => by simp [fitsL] at hf
  | s :: l, f :: fs, off, n, cs, hf, hz, h => by
    simp only [fitsL, Bool.and_eq_true, beq_iff_eq] at hf
    obtain ⟨⟨⟨h1, h2⟩, h3⟩, h4⟩ := hf
    obtain ⟨x, hx⟩ := h 0 f rfl
    rw [h1, h2] at hx
    obtain ⟨v, g1, g2⟩ := read s f.type n _ x h3 hx
    obtain ⟨r, g3, g4⟩ := readL l fs (off + s.z) n cs h4 (by simp only [zL] at hz; omega) (fun i f' hi => h (i + 1) f' (by simpa using hi))
    refine ⟨(v, r), by simp only [okL]; exact ⟨g1, g3⟩, ?_⟩
    have := g2.append g4
    rw [← List.drop_drop, List.take_append_drop] at this
    simpa only [enL] using this
end
def argA : (s : Sh) → s.T → AV
  | .int k, n => .p (.int k n)
  | .bool, b => .p (.bool b)
  | .str, x => .p (.str x)
  | .st l, v => .agg ((enL l v).map .p)
  | .sl s, v => .p (.seq true s.z v.1 fun i => enS s (v.2 i))
theorem arg_st {l : List Sh} {t : TypeId} {r : Reach} {b0 : Nat} {x : Value} {d : DataW H} {ps : List MemPlace} (hf : fits P (.st l) t = true) (hv : Value.okWide P w r b0 t x) (h : DataW.Trod enc P w base spare held t x d ps) :
    ∃ v : TL l, okL l v ∧ VR w (fun _ => none) no (.agg ((enL l v).map .p)) x := by
  have hf' := hf
  simp only [fits] at hf
  split at hf
  case h_2 => cases hf
  rename_i fs hu
  obtain ⟨cs, rfl, hsz⟩ := WideShapes.okWide_struct hu hv
  obtain ⟨fuel, h⟩ := h
  obtain ⟨v, h1, h2⟩ := read (.st l) t fuel _ _ hf' h
  simp only [enS] at h2
  refine ⟨v, by simpa [okS] using h1, .agg _ _ (by simpa [Value.cells] using h2.length) (fun j hj => ?_) (fun j hj => ?_)⟩
  all_goals
    have hl := h2.length
    simp only [Value.cells, List.length_map, Array.length_toList] at hl hj
    have := h2.get j (by simp [Value.cells]; omega)
    simp only [Value.cells] at this
    rw [show cs.toList.getD j undef = cs.getD j undef by simp [List.getD_eq_getElem?_getD, Array.getD_eq_getD_getElem?]] at this
  · exact this.2
  · have e : ((enL l v).map AV.p).getD j anyA = .p ((enL l v).getD j .any) := by
      simp only [List.getD_eq_getElem?_getD, List.getElem?_map]
      cases (enL l v)[j]? <;> rfl
    rw [e]
    exact .p _ _ this.1
theorem arg_one {s : Sh} {t : TypeId} {x : Value} {d : DataW H} {ps : List MemPlace} (hf : fits P s t = true) (hc : x.cells = #[x]) (h : DataW.Trod enc P w base spare held t x d ps) :
    ∃ v : s.T, okS s v ∧ VR w (fun _ => none) no (.p ((enS s v).getD 0 .any)) x := by
  obtain ⟨fuel, h⟩ := h
  obtain ⟨v, h1, h2⟩ := read s t fuel _ _ hf h
  rw [hc] at h2
  have := h2.get 0 (by simp)
  exact ⟨v, h1, .p _ _ (by simpa using this.1)⟩
theorem arg_ok {r : Reach} {b0 : Nat} {x : Value} {d : DataW H} {ps : List MemPlace} : (s : Sh) → ∀ {t : TypeId}, fits P s t = true → Value.okWide P w r b0 t x → DataW.Trod enc P w base spare held t x d ps →
    ∃ v : s.T, okS s v ∧ VR w (fun _ => none) no (argA s v) x
  | .st l, t, hf, hv, h => by
    obtain ⟨v, h1, h2⟩ := arg_st hf hv h
    exact ⟨v, by simpa [okS] using h1, h2⟩
  | .int k, t, hf, hv, h => by
    have hf' := hf
    simp only [fits] at hf
    split at hf
    case h_2 => cases hf
    rename_i hu
    obtain ⟨y, rfl⟩ := WideShapes.okWide_int hu hv
    obtain ⟨v, h1, h2⟩ := arg_one hf' rfl h
    exact ⟨v, h1, h2⟩
  | .bool, t, hf, hv, h => by
    have hf' := hf
    simp only [fits] at hf
    split at hf
    case h_2 => cases hf
    rename_i hu
    obtain ⟨y, rfl⟩ := WideShapes.okWide_bool hu hv
    obtain ⟨v, h1, h2⟩ := arg_one hf' rfl h
    exact ⟨v, h1, h2⟩
  | .str, t, hf, hv, h => by
    have hf' := hf
    simp only [fits] at hf
    split at hf
    case h_2 => cases hf
    rename_i hu
    obtain ⟨y, rfl⟩ := WideShapes.okWide_string hu hv
    obtain ⟨v, h1, h2⟩ := arg_one hf' rfl h
    exact ⟨v, h1, h2⟩
  | .sl s, t, hf, hv, h => by
    have hf' := hf
    simp only [fits] at hf
    split at hf
    case h_2 => cases hf
    rename_i hu
    obtain ⟨y, z, u, rfl⟩ := WideShapes.okWide_slice hu hv
    obtain ⟨v, h1, h2⟩ := arg_one hf' rfl h
    exact ⟨v, h1, h2⟩
end
theorem law_ok {P : Program} {f : FuncId} {args : List AV} {vals : Array Value} {W : World} (h : Con P f 0 [] args [] (.p (.bool true))) (hl : args.length = vals.size)
    (ha : ∀ j, j < args.length → VR W (fun _ => none) no (args.getD j anyA) (vals.getD j undef)) :
    Calls P f vals W fun e W' => e = .returned (.bool true) ∧ RowKit.Below W.heap.size W W' := by
  refine (h.2 W (fun _ => none) (fun _ => False) vals (fun b h => h.elim) (fun o ob h => by simp at h) (fun o o' ob ob' a a' h => by simp at h) (fun k h => absurd rfl h) hl ha).mono ?_
  rintro e W' ⟨v, β', rfl, _, _, hv, hext, _, _, _⟩
  cases hv with
  | p _ _ hp =>
    cases hp with
    | bool b => exact ⟨rfl, hext.os, hext.tape, hext.output, hext.size, fun k hk => hext.block true k hk no_no⟩
end Go.Proofs.Ytgdbnnmogddkaaa.Mach
namespace Go.Proofs.Ytgdbnnmogddkaaa.Mach
open Go
set_option linter.unusedVariables false
set_option linter.unusedSimpArgs false
mutual
def smS : (s : Sh) → s.T → Prop
  | .int _, _ => True
  | .bool, _ => True
  | .str, x => (show ByteArray from x).size ≤ 1048576
  | .st l, v => smL l v
  | .sl s, v => v.1 ≤ 1048576 ∧ ∀ i, i < v.1 → smS s (v.2 i)
def smL : (l : List Sh) → TL l → Prop
  | [], _ => True
  | s :: l, v => smS s v.1 ∧ smL l v.2
end
theorem notf {b : Bool} (h : b = false) : (!b) = true := by subst h; rfl
theorem nott {b : Bool} (h : b = true) : (!b) = false := by subst h; rfl
theorem anda {a b : Bool} (h : a = true) (h' : b = true) : (a && b) = true := by subst h; subst h'; rfl
theorem mixed : Try.prog.follows .mixedOrders = true := by kernel_rfl
theorem Con.arg_ext {P : Program} {f : FuncId} {n : Nat} {H H' : Hp} {args args' : List AV} {res : AV} (h : Con P f n H args H' res) (hw : All (wkL args' args)) : Con P f n H args' H' res := by
  refine ⟨h.en, fun w β X vals hX hH hS hd hl ha => ?_⟩
  have hlen := wkL_length _ _ hw
  refine h.go w β X vals hX hH hS hd (by omega) (fun j hj => ?_)
  exact wk_ok (ha j (by omega)) _ (wkL_getD _ _ j hw (by omega))
end Go.Proofs.Ytgdbnnmogddkaaa.Mach
namespace Go.Proofs.Ytgdbnnmogddkaaa.Mach
open Go
abbrev AA (n : Nat) (f : Nat → List AV) : Prop := ∀ i, i < n → (All [] ∧ f i = f i)
abbrev AP (n : Nat) (f : Nat → List PV) : Prop := ∀ i, i < n → f i = f i
abbrev AG (b : Bool) : Prop := b = true → b = true
abbrev AE (n : Nat) : Prop := ∀ i, i < n → All []
abbrev AN (n : Nat) : Prop := n = n
abbrev AI (n : Int) : Prop := n = n
theorem aA (n : Nat) (f : Nat → List AV) : AA n f := fun _ _ => ⟨trivial, rfl⟩
theorem aP (n : Nat) (f : Nat → List PV) : AP n f := fun _ _ => rfl
theorem aG (b : Bool) : AG b := fun h => h
theorem aE (n : Nat) : AE n := fun _ _ => trivial
end Go.Proofs.Ytgdbnnmogddkaaa.Mach
namespace Go.Proofs.Ytgdbnnmogddkaaa.Mach
open Go
set_option linter.unusedVariables false
set_option linter.unusedSimpArgs false
def s_BarS : Sh := (.sl (.st [(.int .i64), (.int .i64)]))
abbrev T_Bar := Int × Int × Unit
abbrev T_BarS := Nat × (Nat → T_Bar)
def f_szBarS (v : T_BarS) (m : Int) : Int := if m - v.1 < 0 then -1 else m - v.1
def s_Graph : Sh := (.st [(.int .i64), (.sl (.st [(.int .i64), (.int .i64)]))])
abbrev T_Graph := Int × T_BarS × Unit
def f_szGraph (v : T_Graph) (m : Int) : Int := if (f_szBarS v.2.1 m) < 0 then -1 else (f_szBarS v.2.1 m)
abbrev T_IntS := Nat × (Nat → Int)
def s_Bar : Sh := (.st [(.int .i64), (.int .i64)])
def S_toBarS (v : T_BarS) (k : Nat) : St :=
  ⟨[.p (.seq true 2 v.1 (fun i => [.int .i64 ((v.2 i).1), .int .i64 ((v.2 i).2.1)])), .p .any, .p .any, .ar 2 0 0 v.1, .p (.int .i64 k)] ++ List.replicate 18 anyA, [(0, ⟨false, 2, v.1, fun i => [.p (.int .i64 (if i < k then (v.2 i).1 else 0)), .p (.int .i64 (if i < k then (v.2 i).2.1 else 0))]⟩)], 1⟩
def S_eqBarS (v : T_BarS) (k : Nat) : St :=
  ⟨[.p (.seq true 2 v.1 (fun i => [.int .i64 ((v.2 i).1), .int .i64 ((v.2 i).2.1)])), .p (.seq true 2 v.1 (fun i => [.int .i64 ((v.2 i).1), .int .i64 ((v.2 i).2.1)])), .p .any, .p .any, .p .any, .p (.int .i64 k)] ++ List.replicate 21 anyA, [], 0⟩
def q1_BarS (a b : T_Bar) : Bool := a.1 == b.1 && (a.2.1 == b.2.1 && true)
def qT_BarS (g h : Nat → T_Bar) : Nat → Bool
  | 0 => true
  | k + 1 => qT_BarS g h k && q1_BarS (g k) (h k)
def q_BarS (v u : T_BarS) : Bool := if v.1 = u.1 then qT_BarS v.2 u.2 v.1 else false
def S_seBarS (v u : T_BarS) (k : Nat) : St :=
  ⟨[.p (.seq true 2 v.1 (fun i => [.int .i64 ((v.2 i).1), .int .i64 ((v.2 i).2.1)])), .p (.seq true 2 u.1 (fun i => [.int .i64 ((u.2 i).1), .int .i64 ((u.2 i).2.1)]))] ++ List.replicate 10 anyA ++ [.p (.int .i64 v.1), .p (.int .i64 k)] ++ List.replicate 12 anyA, [], 0⟩
def S_markBarS (v : T_BarS) (m : Int) (k : Nat) : St :=
  ⟨[.ar 2 0 0 v.1, .p (.int .i64 (m + 2 * (k : Int))), .p .any, .p .any, .p .any, .p (.int .i64 k)] ++ List.replicate 21 anyA, [(0, ⟨false, 2, v.1, fun i => [.p (.int .i64 (if i < k then m + 2 * (i : Int) else (v.2 i).1)), .p (.int .i64 (if i < k then m + 2 * (i : Int) + 1 else (v.2 i).2.1))]⟩)], 1⟩
def S_markBarS_1 (v : T_BarS) (m : Int) (k : Nat) : St :=
  ⟨[.ar 2 0 0 v.1, .p (.int .i64 (m + 2 * (k : Int) + 1)), .p .any, .p .any, .p .any, .p (.int .i64 k)] ++ List.replicate 21 anyA, [(0, ⟨false, 2, v.1, fun i => [.p (.int .i64 (if i < k + 1 then m + 2 * (i : Int) else (v.2 i).1)), .p (.int .i64 (if i < k then m + 2 * (i : Int) + 1 else (v.2 i).2.1))]⟩)], 1⟩
def S_heldBarS (n : Nat) (m : Int) (k : Nat) : St :=
  ⟨[.p (.seq true 2 n (fun i => [.int .i64 (m + 2 * (i : Int)), .int .i64 (m + 2 * (i : Int) + 1)])), .p (.int .i64 (m + 2 * (k : Int))), .p .any, .p .any, .p .any, .p (.int .i64 k)] ++ List.replicate 25 anyA, [], 0⟩
theorem p_szBarS_a (v : T_BarS) (m : Int) :
    pathOb Try.prog Try.f16 0 [.reg [oT], .reg [oT, oT, oT, oT, oT], .reg [oT, oT], .dec true, .reg [oT]] [.code (bodyOf Try.f16)] (start Try.f16 [] 0 [.p (.seq true 2 v.1 (fun i => [.int .i64 ((v.2 i).1), .int .i64 ((v.2 i).2.1)])), .p (.int .i64 m)]) [] 1 [] (.p (.int .i64 (-1))) =
    some [(((-9223372036854775808) : Int) ≤ (m - (↑v.1 : Int))),
  (((m - (↑v.1 : Int)) : Int) ≤ 9223372036854775807),
  ((decide (m - (↑v.1 : Int) < 0)) = true),
  (AI ((-1)))] := by kernel_rfl
theorem p_szBarS_b (v : T_BarS) (m : Int) :
    pathOb Try.prog Try.f16 0 [.reg [oT], .reg [oT, oT, oT, oT, oT], .reg [oT, oT], .dec false, .reg [oT, oT]] [.code (bodyOf Try.f16)] (start Try.f16 [] 0 [.p (.seq true 2 v.1 (fun i => [.int .i64 ((v.2 i).1), .int .i64 ((v.2 i).2.1)])), .p (.int .i64 m)]) [] 1 [] (.p (.int .i64 (m - v.1))) =
    some [(((-9223372036854775808) : Int) ≤ (m - (↑v.1 : Int))),
  (((m - (↑v.1 : Int)) : Int) ≤ 9223372036854775807),
  ((decide (m - (↑v.1 : Int) < 0)) = false),
  (AI ((m - (↑v.1 : Int))))] := by kernel_rfl
theorem p_szGraph_0 (v : T_Graph) (m : Int) :
    pathOb Try.prog Try.f31 0 [.reg [oT, oT], .reg [oT, oT, oT, ⟨true, (some ⟨[], [], [], 1, [], .p (.int .i64 (f_szBarS v.2.1 m))⟩), none⟩, oT], .reg [oT, oT], .dec true, .reg [oT]] [.code (bodyOf Try.f31)] (start Try.f31 [] 0 [.agg [.p (.int .i64 v.1), .p (.seq true 2 v.2.1.1 (fun i => [.int .i64 ((v.2.1.2 i).1), .int .i64 ((v.2.1.2 i).2.1)]))], .p (.int .i64 m)]) [] 1 [] (.p (.int .i64 (-1))) =
    some [((0 : Nat) < 1),
  Con Try.prog 16 0 [] [.p (.seq true 2 v.2.1.1 (fun i => [.int .i64 ((v.2.1.2 i).1), .int .i64 ((v.2.1.2 i).2.1)])), .p (.int .i64 m)] [] (.p (.int .i64 (f_szBarS v.2.1 m))),
  ((decide (f_szBarS v.2.1 m < 0)) = true),
  (AI ((-1)))] := by kernel_rfl
theorem p_szGraph_e (v : T_Graph) (m : Int) :
    pathOb Try.prog Try.f31 0 [.reg [oT, oT], .reg [oT, oT, oT, ⟨true, (some ⟨[], [], [], 1, [], .p (.int .i64 (f_szBarS v.2.1 m))⟩), none⟩, oT], .reg [oT, oT], .dec false, .reg [oT, oT]] [.code (bodyOf Try.f31)] (start Try.f31 [] 0 [.agg [.p (.int .i64 v.1), .p (.seq true 2 v.2.1.1 (fun i => [.int .i64 ((v.2.1.2 i).1), .int .i64 ((v.2.1.2 i).2.1)]))], .p (.int .i64 m)]) [] 1 [] (.p (.int .i64 (f_szBarS v.2.1 m))) =
    some [((0 : Nat) < 1),
  Con Try.prog 16 0 [] [.p (.seq true 2 v.2.1.1 (fun i => [.int .i64 ((v.2.1.2 i).1), .int .i64 ((v.2.1.2 i).2.1)])), .p (.int .i64 m)] [] (.p (.int .i64 (f_szBarS v.2.1 m))),
  ((decide (f_szBarS v.2.1 m < 0)) = false),
  (AI ((f_szBarS v.2.1 m)))] := by kernel_rfl
theorem p_toBar (v : T_Bar) :
    pathOb Try.prog Try.f61 0 [.reg [oT, oT], .reg [oT], .reg [oT, oT, oT, oT], .reg [oT, oT, oT, oT], .reg [oT, oT]] [.code (bodyOf Try.f61)] (start Try.f61 [] 0 [.agg [.p (.int .i64 v.1), .p (.int .i64 v.2.1)]]) [] 1 [] (.agg [.p (.int .i64 v.1), .p (.int .i64 v.2.1)]) =
    some [((0 : Nat) < 1),
  ((0 : Nat) < 1),
  ((true = true) → (AN 1)),
  ((0 : Nat) < 1),
  ((0 : Nat) < 1),
  ((true = true) → (AN 1)),
  ((0 : Nat) < 1),
  ((0 : Nat) < 1),
  ((true = true) → (AN 1)),
  ((0 : Nat) < 1),
  (AI v.1),
  (AI v.2.1)] := by kernel_rfl
theorem p_toBarS_a (v : T_BarS) :
    pieceOb Try.prog 0 [.reg [oT], .reg [oT, oT, oT, oT], .reg [oT], .head] [.code (bodyOf Try.f18)] (start Try.f18 [] 0 [.p (.seq true 2 v.1 (fun i => [.int .i64 ((v.2 i).1), .int .i64 ((v.2 i).2.1)]))]) [96] 1 (S_toBarS v 0) =
    some ([.code (cAt (bodyOf Try.f18) [1, 1, 0, 1, 0, 0]), .inLoop (cAt (bodyOf Try.f18) [1, 1, 0, 1, 0, 0]), .inBlock 0, .code (cAt (bodyOf Try.f18) [1, 1, 1])], [((0 : Int) ≤ (↑v.1 : Int)),
  (((↑v.1 : Int) : Int) ≤ (↑v.1 : Int)),
  ((((↑v.1 : Int) * (↑16 : Int)) : Int) ≤ 281474976710656),
  (((↑v.1 : Int) : Int) ≤ 9223372036854775807),
  (AN v.1),
  (AP v.1 (fun i => [.int .i64 ((v.2 i).1), .int .i64 ((v.2 i).2.1)])),
  (AN 0),
  (AN v.1),
  ((0 : Int) = (↑0 : Int)),
  (AN 2),
  ((v.1 : Nat) ≤ v.1),
  (∀ i : Nat, (((i : Nat) < v.1) → (All [] ∧ (([.p (.int .i64 0), .p (.int .i64 0)] : List AV) = [.p (.int .i64 (if i < 0 then (v.2 i).1 else 0)), .p (.int .i64 (if i < 0 then (v.2 i).2.1 else 0))]))))]) := by kernel_rfl
theorem p_toBarS_b (v : T_BarS) (k : Nat) :
    pieceOb Try.prog 0 [.reg [oT, oT, oT, oT], .dec true, .reg [oT, oT, oT, oT, oT, oT, ⟨true, (some ⟨[], [], [], 1, [], .agg [.p (.int .i64 ((v.2 k).1)), .p (.int .i64 ((v.2 k).2.1))]⟩), none⟩, oT, oT], .reg [oT, oT, oT], .head] [.code (cAt (bodyOf Try.f18) [1, 1, 0, 1, 0, 0]), .inLoop (cAt (bodyOf Try.f18) [1, 1, 0, 1, 0, 0]), .inBlock 0, .code (cAt (bodyOf Try.f18) [1, 1, 1])] (S_toBarS v k) [0] 1 (S_toBarS v (k + 1)) =
    some ([.code (cAt (bodyOf Try.f18) [1, 1, 0, 1, 0, 0]), .inLoop (cAt (bodyOf Try.f18) [1, 1, 0, 1, 0, 0]), .inBlock 0, .code (cAt (bodyOf Try.f18) [1, 1, 1])], [((decide ((↑k : Int) < (↑v.1 : Int))) = true),
  ((0 : Int) ≤ (↑k : Int)),
  (((↑k : Int) : Int) < (↑v.1 : Int)),
  Con Try.prog 61 0 [] [.agg [.p (.int .i64 ((v.2 k).1)), .p (.int .i64 ((v.2 k).2.1))]] [] (.agg [.p (.int .i64 ((v.2 k).1)), .p (.int .i64 ((v.2 k).2.1))]),
  ((0 : Int) ≤ (↑k : Int)),
  (((↑k : Int) : Int) < (↑v.1 : Int)),
  ((k : Nat) < v.1),
  ((false = true) → ((v.1 : Nat) = 1)),
  (((-9223372036854775808) : Int) ≤ ((↑k : Int) + 1)),
  ((((↑k : Int) + 1) : Int) ≤ 9223372036854775807),
  (AN v.1),
  (AP v.1 (fun i => [.int .i64 ((v.2 i).1), .int .i64 ((v.2 i).2.1)])),
  (AN 0),
  (AN v.1),
  ((((↑k : Int) + 1) : Int) = (↑(k + 1) : Int)),
  (AN 2),
  ((v.1 : Nat) ≤ v.1),
  (∀ i : Nat, (((i : Nat) < v.1) → (All (cvtL false [(0, ⟨false, 2, v.1, (fun i_1 => (if (i_1 = k) then [.p (.int .i64 ((v.2 k).1)), .p (.int .i64 ((v.2 k).2.1))] else [.p (.int .i64 (if i_1 < k then (v.2 i_1).1 else 0)), .p (.int .i64 (if i_1 < k then (v.2 i_1).2.1 else 0))]))⟩)] [0] 1 (if (i = k) then [.p (.int .i64 ((v.2 k).1)), .p (.int .i64 ((v.2 k).2.1))] else [.p (.int .i64 (if i < k then (v.2 i).1 else 0)), .p (.int .i64 (if i < k then (v.2 i).2.1 else 0))])).2 ∧ (((cvtL false [(0, ⟨false, 2, v.1, (fun i_1 => (if (i_1 = k) then [.p (.int .i64 ((v.2 k).1)), .p (.int .i64 ((v.2 k).2.1))] else [.p (.int .i64 (if i_1 < k then (v.2 i_1).1 else 0)), .p (.int .i64 (if i_1 < k then (v.2 i_1).2.1 else 0))]))⟩)] [0] 1 (if (i = k) then [.p (.int .i64 ((v.2 k).1)), .p (.int .i64 ((v.2 k).2.1))] else [.p (.int .i64 (if i < k then (v.2 i).1 else 0)), .p (.int .i64 (if i < k then (v.2 i).2.1 else 0))])).1 : List AV) = [.p (.int .i64 (if i < k + 1 then (v.2 i).1 else 0)), .p (.int .i64 (if i < k + 1 then (v.2 i).2.1 else 0))]))))]) := by kernel_rfl
theorem p_toBarS_c (v : T_BarS) (k : Nat) :
    pathOb Try.prog Try.f18 0 [.reg [oT, oT, oT, oT], .dec false, .reg [oT, oT]] [.code (cAt (bodyOf Try.f18) [1, 1, 0, 1, 0, 0]), .inLoop (cAt (bodyOf Try.f18) [1, 1, 0, 1, 0, 0]), .inBlock 0, .code (cAt (bodyOf Try.f18) [1, 1, 1])] (S_toBarS v k) [0] 1 [(0, ⟨false, 2, v.1, fun i => [.p (.int .i64 ((v.2 i).1)), .p (.int .i64 ((v.2 i).2.1))]⟩)] (.ar 2 0 0 v.1) =
    some [((decide ((↑k : Int) < (↑v.1 : Int))) = false),
  (AN 0),
  (AN v.1),
  (AN 2),
  ((v.1 : Nat) ≤ v.1),
  (∀ i : Nat, (((i : Nat) < v.1) → (All [] ∧ (([.p (.int .i64 (if i < k then (v.2 i).1 else 0)), .p (.int .i64 (if i < k then (v.2 i).2.1 else 0))] : List AV) = [.p (.int .i64 ((v.2 i).1)), .p (.int .i64 ((v.2 i).2.1))])))),
  (AE v.1)] := by kernel_rfl
theorem p_toGraph (v : T_Graph) :
    pathOb Try.prog Try.f33 0 [.reg [oT, oT], .reg [oT], .reg [oT, oT, oT, oT], .reg [oT, oT, ⟨true, (some ⟨[], [], [], 1, [(0, ⟨false, 2, v.2.1.1, fun i => [.p (.int .i64 ((v.2.1.2 i).1)), .p (.int .i64 ((v.2.1.2 i).2.1))]⟩)], .ar 2 0 0 v.2.1.1⟩), none⟩, oT, oT], .reg [oT, oT]] [.code (bodyOf Try.f33)] (start Try.f33 [] 0 [.agg [.p (.int .i64 v.1), .p (.seq true 2 v.2.1.1 (fun i => [.int .i64 ((v.2.1.2 i).1), .int .i64 ((v.2.1.2 i).2.1)]))]]) [288] 1 [(0, ⟨false, 2, v.2.1.1, fun i => [.p (.int .i64 ((v.2.1.2 i).1)), .p (.int .i64 ((v.2.1.2 i).2.1))]⟩)] (.agg [.p (.int .i64 v.1), .ar 2 0 0 v.2.1.1]) =
    some [((0 : Nat) < 1),
  ((0 : Nat) < 1),
  ((true = true) → (AN 1)),
  ((0 : Nat) < 1),
  Con Try.prog 18 0 [] [.p (.seq true 2 v.2.1.1 (fun i => [.int .i64 ((v.2.1.2 i).1), .int .i64 ((v.2.1.2 i).2.1)]))] [(0, ⟨false, 2, v.2.1.1, (fun i => [.p (.int .i64 ((v.2.1.2 i).1)), .p (.int .i64 ((v.2.1.2 i).2.1))])⟩)] (.ar 2 0 0 v.2.1.1),
  ((0 : Nat) < 1),
  ((true = true) → (AN 1)),
  ((0 : Nat) < 1),
  ((0 : Nat) < 1),
  ((true = true) → (AN 1)),
  ((0 : Nat) < 1),
  (AI v.1),
  (AN 0),
  (AN v.2.1.1),
  (AN 2),
  ((v.2.1.1 : Nat) ≤ v.2.1.1),
  (AA v.2.1.1 (fun i => [.p (.int .i64 ((v.2.1.2 i).1)), .p (.int .i64 ((v.2.1.2 i).2.1))])),
  (AE v.2.1.1)] := by kernel_rfl
theorem p_eqBar (v : T_Bar) :
    pathOb Try.prog Try.f64 0 [.reg [oT, oT, oT], .reg [oT, oT, oT, oT, oT], .dec false, .reg [oT, oT, oT, oT, oT], .dec false, .reg [oT]] [.code (bodyOf Try.f64)] (start Try.f64 [] 0 [.agg [.p (.int .i64 v.1), .p (.int .i64 v.2.1)], .agg [.p (.int .i64 v.1), .p (.int .i64 v.2.1)]]) [] 1 [] (.p (.bool true)) =
    some [((0 : Nat) < 1),
  ((0 : Nat) < 1),
  ((v.1 != v.1) = false),
  ((0 : Nat) < 1),
  ((0 : Nat) < 1),
  ((v.2.1 != v.2.1) = false),
  (true = true)] := by kernel_rfl
theorem p_eqBarS_a (v : T_BarS) :
    pieceOb Try.prog 0 [.reg [oT], .reg [oT, oT, oT, oT, oT], .dec false, .reg [oT], .head] [.code (bodyOf Try.f20)] (start Try.f20 [] 0 [.p (.seq true 2 v.1 (fun i => [.int .i64 ((v.2 i).1), .int .i64 ((v.2 i).2.1)])), .p (.seq true 2 v.1 (fun i => [.int .i64 ((v.2 i).1), .int .i64 ((v.2 i).2.1)]))]) [] 1 (S_eqBarS v 0) =
    some ([.code (cAt (bodyOf Try.f20) [1, 1, 0, 1, 0, 0]), .inLoop (cAt (bodyOf Try.f20) [1, 1, 0, 1, 0, 0]), .inBlock 0, .code (cAt (bodyOf Try.f20) [1, 1, 1])], [(((↑v.1 : Int) != (↑v.1 : Int)) = false),
  (AN v.1),
  (AP v.1 (fun i => [.int .i64 ((v.2 i).1), .int .i64 ((v.2 i).2.1)])),
  (AN v.1),
  (AP v.1 (fun i => [.int .i64 ((v.2 i).1), .int .i64 ((v.2 i).2.1)])),
  ((0 : Int) = (↑0 : Int))]) := by kernel_rfl
theorem p_eqBarS_b (v : T_BarS) (k : Nat) :
    pieceOb Try.prog 0 [.reg [oT, oT, oT, oT], .dec true, .reg [oT, oT, oT, oT, oT, oT, oT, oT, ⟨true, (some ⟨[], [], [], 1, [], .p (.bool true)⟩), none⟩, oT], .dec false, .reg [oT, oT, oT], .head] [.code (cAt (bodyOf Try.f20) [1, 1, 0, 1, 0, 0]), .inLoop (cAt (bodyOf Try.f20) [1, 1, 0, 1, 0, 0]), .inBlock 0, .code (cAt (bodyOf Try.f20) [1, 1, 1])] (S_eqBarS v k) [] 1 (S_eqBarS v (k + 1)) =
    some ([.code (cAt (bodyOf Try.f20) [1, 1, 0, 1, 0, 0]), .inLoop (cAt (bodyOf Try.f20) [1, 1, 0, 1, 0, 0]), .inBlock 0, .code (cAt (bodyOf Try.f20) [1, 1, 1])], [((decide ((↑k : Int) < (↑v.1 : Int))) = true),
  ((0 : Int) ≤ (↑k : Int)),
  (((↑k : Int) : Int) < (↑v.1 : Int)),
  ((0 : Int) ≤ (↑k : Int)),
  (((↑k : Int) : Int) < (↑v.1 : Int)),
  Con Try.prog 64 0 [] [.agg [.p (.int .i64 ((v.2 k).1)), .p (.int .i64 ((v.2 k).2.1))], .agg [.p (.int .i64 ((v.2 k).1)), .p (.int .i64 ((v.2 k).2.1))]] [] (.p (.bool true)),
  ((!true) = false),
  (((-9223372036854775808) : Int) ≤ ((↑k : Int) + 1)),
  ((((↑k : Int) + 1) : Int) ≤ 9223372036854775807),
  (AN v.1),
  (AP v.1 (fun i => [.int .i64 ((v.2 i).1), .int .i64 ((v.2 i).2.1)])),
  (AN v.1),
  (AP v.1 (fun i => [.int .i64 ((v.2 i).1), .int .i64 ((v.2 i).2.1)])),
  ((((↑k : Int) + 1) : Int) = (↑(k + 1) : Int))]) := by kernel_rfl
theorem p_eqBarS_c (v : T_BarS) (k : Nat) :
    pathOb Try.prog Try.f20 0 [.reg [oT, oT, oT, oT], .dec false, .reg [oT]] [.code (cAt (bodyOf Try.f20) [1, 1, 0, 1, 0, 0]), .inLoop (cAt (bodyOf Try.f20) [1, 1, 0, 1, 0, 0]), .inBlock 0, .code (cAt (bodyOf Try.f20) [1, 1, 1])] (S_eqBarS v k) [] 1 [] (.p (.bool true)) =
    some [((decide ((↑k : Int) < (↑v.1 : Int))) = false),
  (true = true)] := by kernel_rfl
theorem p_eqGraph (v : T_Graph) :
    pathOb Try.prog Try.f35 0 [.reg [oT, oT, oT], .reg [oT, oT, oT, oT, oT], .dec false, .reg [oT, oT, oT, oT, ⟨true, (some ⟨[], [], [], 1, [], .p (.bool true)⟩), none⟩, oT], .dec false, .reg [oT]] [.code (bodyOf Try.f35)] (start Try.f35 [] 0 [.agg [.p (.int .i64 v.1), .p (.seq true 2 v.2.1.1 (fun i => [.int .i64 ((v.2.1.2 i).1), .int .i64 ((v.2.1.2 i).2.1)]))], .agg [.p (.int .i64 v.1), .p (.seq true 2 v.2.1.1 (fun i => [.int .i64 ((v.2.1.2 i).1), .int .i64 ((v.2.1.2 i).2.1)]))]]) [] 1 [] (.p (.bool true)) =
    some [((0 : Nat) < 1),
  ((0 : Nat) < 1),
  ((v.1 != v.1) = false),
  ((0 : Nat) < 1),
  ((0 : Nat) < 1),
  Con Try.prog 20 0 [] [.p (.seq true 2 v.2.1.1 (fun i => [.int .i64 ((v.2.1.2 i).1), .int .i64 ((v.2.1.2 i).2.1)])), .p (.seq true 2 v.2.1.1 (fun i => [.int .i64 ((v.2.1.2 i).1), .int .i64 ((v.2.1.2 i).2.1)]))] [] (.p (.bool true)),
  ((!true) = false),
  (true = true)] := by kernel_rfl
theorem p_seBarS_z (v u : T_BarS) :
    pathOb Try.prog Try.f119 0 [.reg [oT], .reg [oT, oT, oT, oT, oT], .dec true, .reg [oT]] [.code (bodyOf Try.f119)] (start Try.f119 [] 0 [.p (.seq true 2 v.1 (fun i => [.int .i64 ((v.2 i).1), .int .i64 ((v.2 i).2.1)])), .p (.seq true 2 u.1 (fun i => [.int .i64 ((u.2 i).1), .int .i64 ((u.2 i).2.1)]))]) [] 1 [] (.p (.bool false)) =
    some [(((↑v.1 : Int) != (↑u.1 : Int)) = true),
  (false = false)] := by kernel_rfl
theorem p_seBarS_a (v u : T_BarS) :
    pieceOb Try.prog 0 [.reg [oT], .reg [oT, oT, oT, oT, oT], .dec false, .reg [oT, oT, oT], .head] [.code (bodyOf Try.f119)] (start Try.f119 [] 0 [.p (.seq true 2 v.1 (fun i => [.int .i64 ((v.2 i).1), .int .i64 ((v.2 i).2.1)])), .p (.seq true 2 u.1 (fun i => [.int .i64 ((u.2 i).1), .int .i64 ((u.2 i).2.1)]))]) [] 1 (S_seBarS v u 0) =
    some ([.code (cAt (bodyOf Try.f119) [1, 1, 0, 1, 0, 0]), .inLoop (cAt (bodyOf Try.f119) [1, 1, 0, 1, 0, 0]), .inBlock 0, .code (cAt (bodyOf Try.f119) [1, 1, 1])], [(((↑v.1 : Int) != (↑u.1 : Int)) = false),
  (AN v.1),
  (AP v.1 (fun i => [.int .i64 ((v.2 i).1), .int .i64 ((v.2 i).2.1)])),
  (AN u.1),
  (AP u.1 (fun i => [.int .i64 ((u.2 i).1), .int .i64 ((u.2 i).2.1)])),
  (AI ((↑v.1 : Int))),
  ((0 : Int) = (↑0 : Int))]) := by kernel_rfl
theorem p_seBarS_b (v u : T_BarS) (k : Nat) :
    pieceOb Try.prog 0 [.reg [oT], .dec true, .reg [oT, oT], .reg [oT, oT, oT, oT, oT, oT, oT, oT, oT], .dec false, .reg [oT, oT], .head] [.code (cAt (bodyOf Try.f119) [1, 1, 0, 1, 0, 0]), .inLoop (cAt (bodyOf Try.f119) [1, 1, 0, 1, 0, 0]), .inBlock 0, .code (cAt (bodyOf Try.f119) [1, 1, 1])] (S_seBarS v u k) [] 1 (S_seBarS v u (k + 1)) =
    some ([.code (cAt (bodyOf Try.f119) [1, 1, 0, 1, 0, 0]), .inLoop (cAt (bodyOf Try.f119) [1, 1, 0, 1, 0, 0]), .inBlock 0, .code (cAt (bodyOf Try.f119) [1, 1, 1])], [((decide ((↑k : Int) < (↑v.1 : Int))) = true),
  ((0 : Int) ≤ (↑k : Int)),
  (((↑k : Int) : Int) < (↑v.1 : Int)),
  ((0 : Int) ≤ (↑k : Int)),
  (((↑k : Int) : Int) < (↑u.1 : Int)),
  ((!((v.2 k).1 == (u.2 k).1 && ((v.2 k).2.1 == (u.2 k).2.1 && true))) = false),
  (((-9223372036854775808) : Int) ≤ ((↑k : Int) + 1)),
  ((((↑k : Int) + 1) : Int) ≤ 9223372036854775807),
  (AN v.1),
  (AP v.1 (fun i => [.int .i64 ((v.2 i).1), .int .i64 ((v.2 i).2.1)])),
  (AN u.1),
  (AP u.1 (fun i => [.int .i64 ((u.2 i).1), .int .i64 ((u.2 i).2.1)])),
  (AI ((↑v.1 : Int))),
  ((((↑k : Int) + 1) : Int) = (↑(k + 1) : Int))]) := by kernel_rfl
theorem p_seBarS_c (v u : T_BarS) (k : Nat) :
    pathOb Try.prog Try.f119 0 [.reg [oT], .dec true, .reg [oT, oT], .reg [oT, oT, oT, oT, oT, oT, oT, oT, oT], .dec true, .reg [oT]] [.code (cAt (bodyOf Try.f119) [1, 1, 0, 1, 0, 0]), .inLoop (cAt (bodyOf Try.f119) [1, 1, 0, 1, 0, 0]), .inBlock 0, .code (cAt (bodyOf Try.f119) [1, 1, 1])] (S_seBarS v u k) [] 1 [] (.p (.bool false)) =
    some [((decide ((↑k : Int) < (↑v.1 : Int))) = true),
  ((0 : Int) ≤ (↑k : Int)),
  (((↑k : Int) : Int) < (↑v.1 : Int)),
  ((0 : Int) ≤ (↑k : Int)),
  (((↑k : Int) : Int) < (↑u.1 : Int)),
  ((!((v.2 k).1 == (u.2 k).1 && ((v.2 k).2.1 == (u.2 k).2.1 && true))) = true),
  (false = false)] := by kernel_rfl
theorem p_seBarS_d (v u : T_BarS) (k : Nat) :
    pathOb Try.prog Try.f119 0 [.reg [oT], .dec false, .reg [oT]] [.code (cAt (bodyOf Try.f119) [1, 1, 0, 1, 0, 0]), .inLoop (cAt (bodyOf Try.f119) [1, 1, 0, 1, 0, 0]), .inBlock 0, .code (cAt (bodyOf Try.f119) [1, 1, 1])] (S_seBarS v u k) [] 1 [] (.p (.bool true)) =
    some [((decide ((↑k : Int) < (↑v.1 : Int))) = false),
  (true = true)] := by kernel_rfl
theorem p_markBarS_a (v : T_BarS) (m : Int) :
    pieceOb Try.prog 1 [.reg [oT], .reg [oT], .head] [.code (bodyOf Try.f22)] (start Try.f22 [(0, ⟨false, 2, v.1, fun i => [.p (.int .i64 ((v.2 i).1)), .p (.int .i64 ((v.2 i).2.1))]⟩)] 1 [.ar 2 0 0 v.1, .p (.int .i64 m)]) [0] 1 (S_markBarS v m 0) =
    some ([.code (cAt (bodyOf Try.f22) [1, 0, 1, 0, 0]), .inLoop (cAt (bodyOf Try.f22) [1, 0, 1, 0, 0]), .inBlock 0, .code (cAt (bodyOf Try.f22) [1, 1])], [(AN 0),
  (AN v.1),
  ((m : Int) = (m + 2 * (↑0 : Int))),
  ((0 : Int) = (↑0 : Int)),
  (AN 2),
  ((v.1 : Nat) ≤ v.1),
  (∀ i : Nat, (((i : Nat) < v.1) → (All [] ∧ (([.p (.int .i64 ((v.2 i).1)), .p (.int .i64 ((v.2 i).2.1))] : List AV) = [.p (.int .i64 (if i < 0 then m + 2 * (↑i : Int) else (v.2 i).1)), .p (.int .i64 (if i < 0 then m + 2 * (↑i : Int) + 1 else (v.2 i).2.1))]))))]) := by kernel_rfl
theorem p_markBarS_b0 (v : T_BarS) (m : Int) (k : Nat) :
    pieceOb Try.prog 1 [.reg [oT, oT, oT, oT], .dec true, .reg [oT, oT, oT, oT, oT, oT], .reg [oT, oT, oT], .head] [.code (cAt (bodyOf Try.f22) [1, 0, 1, 0, 0]), .inLoop (cAt (bodyOf Try.f22) [1, 0, 1, 0, 0]), .inBlock 0, .code (cAt (bodyOf Try.f22) [1, 1])] (S_markBarS v m k) [0] 1 (S_markBarS_1 v m k) =
    some ([.code (cAt (bodyOf Try.f22) [1, 0, 1, 0, 0, 1, 0, 0, 1, 1, 0]), .code (cAt (bodyOf Try.f22) [1, 0, 1, 0, 0, 1, 0, 0, 1, 1, 1]), .inBlock 1, .code (cAt (bodyOf Try.f22) [1, 0, 1, 0, 0, 1, 1]), .inLoop (cAt (bodyOf Try.f22) [1, 0, 1, 0, 0]), .inBlock 0, .code (cAt (bodyOf Try.f22) [1, 1])], [((decide ((↑k : Int) < (↑v.1 : Int))) = true),
  ((0 : Int) ≤ (↑k : Int)),
  (((↑k : Int) : Int) < (↑v.1 : Int)),
  ((k : Nat) < v.1),
  ((false = true) → ((v.1 : Nat) = 1)),
  (((-9223372036854775808) : Int) ≤ (m + 2 * (↑k : Int) + 1)),
  (((m + 2 * (↑k : Int) + 1) : Int) ≤ 9223372036854775807),
  (AN 0),
  (AN v.1),
  (AI ((m + 2 * (↑k : Int) + 1))),
  (AI ((↑k : Int))),
  (AN 2),
  ((v.1 : Nat) ≤ v.1),
  (∀ i : Nat, (((i : Nat) < v.1) → (All (cvtL false [(0, ⟨false, 2, v.1, (fun i_1 => (if (i_1 = k) then [.p (.int .i64 (m + 2 * (↑k : Int))), .p (.int .i64 (if (↑k : Int).toNat + 0 < k then m + 2 * (↑k : Int) + 1 else (v.2 k).2.1))] else [.p (.int .i64 (if i_1 < k then m + 2 * (↑i_1 : Int) else (v.2 i_1).1)), .p (.int .i64 (if i_1 < k then m + 2 * (↑i_1 : Int) + 1 else (v.2 i_1).2.1))]))⟩)] [0] 1 (if (i = k) then [.p (.int .i64 (m + 2 * (↑k : Int))), .p (.int .i64 (if (↑k : Int).toNat + 0 < k then m + 2 * (↑k : Int) + 1 else (v.2 k).2.1))] else [.p (.int .i64 (if i < k then m + 2 * (↑i : Int) else (v.2 i).1)), .p (.int .i64 (if i < k then m + 2 * (↑i : Int) + 1 else (v.2 i).2.1))])).2 ∧ (((cvtL false [(0, ⟨false, 2, v.1, (fun i_1 => (if (i_1 = k) then [.p (.int .i64 (m + 2 * (↑k : Int))), .p (.int .i64 (if (↑k : Int).toNat + 0 < k then m + 2 * (↑k : Int) + 1 else (v.2 k).2.1))] else [.p (.int .i64 (if i_1 < k then m + 2 * (↑i_1 : Int) else (v.2 i_1).1)), .p (.int .i64 (if i_1 < k then m + 2 * (↑i_1 : Int) + 1 else (v.2 i_1).2.1))]))⟩)] [0] 1 (if (i = k) then [.p (.int .i64 (m + 2 * (↑k : Int))), .p (.int .i64 (if (↑k : Int).toNat + 0 < k then m + 2 * (↑k : Int) + 1 else (v.2 k).2.1))] else [.p (.int .i64 (if i < k then m + 2 * (↑i : Int) else (v.2 i).1)), .p (.int .i64 (if i < k then m + 2 * (↑i : Int) + 1 else (v.2 i).2.1))])).1 : List AV) = [.p (.int .i64 (if i < k + 1 then m + 2 * (↑i : Int) else (v.2 i).1)), .p (.int .i64 (if i < k then m + 2 * (↑i : Int) + 1 else (v.2 i).2.1))]))))]) := by kernel_rfl
theorem p_markBarS_b1 (v : T_BarS) (m : Int) (k : Nat) :
    pieceOb Try.prog 1 [.reg [oT, oT, oT, oT, oT, oT], .reg [oT, oT, oT], .reg [oT, oT, oT], .head] [.code (cAt (bodyOf Try.f22) [1, 0, 1, 0, 0, 1, 0, 0, 1, 1, 0]), .code (cAt (bodyOf Try.f22) [1, 0, 1, 0, 0, 1, 0, 0, 1, 1, 1]), .inBlock 1, .code (cAt (bodyOf Try.f22) [1, 0, 1, 0, 0, 1, 1]), .inLoop (cAt (bodyOf Try.f22) [1, 0, 1, 0, 0]), .inBlock 0, .code (cAt (bodyOf Try.f22) [1, 1])] (S_markBarS_1 v m k) [0] 1 (S_markBarS v m (k + 1)) =
    some ([.code (cAt (bodyOf Try.f22) [1, 0, 1, 0, 0]), .inLoop (cAt (bodyOf Try.f22) [1, 0, 1, 0, 0]), .inBlock 0, .code (cAt (bodyOf Try.f22) [1, 1])], [((0 : Int) ≤ (↑k : Int)),
  (((↑k : Int) : Int) < (↑v.1 : Int)),
  ((k : Nat) < v.1),
  ((false = true) → ((v.1 : Nat) = 1)),
  (((-9223372036854775808) : Int) ≤ (m + 2 * (↑k : Int) + 1 + 1)),
  (((m + 2 * (↑k : Int) + 1 + 1) : Int) ≤ 9223372036854775807),
  (((-9223372036854775808) : Int) ≤ ((↑k : Int) + 1)),
  ((((↑k : Int) + 1) : Int) ≤ 9223372036854775807),
  (AN 0),
  (AN v.1),
  (((m + 2 * (↑k : Int) + 1 + 1) : Int) = (m + 2 * (↑(k + 1) : Int))),
  ((((↑k : Int) + 1) : Int) = (↑(k + 1) : Int)),
  (AN 2),
  ((v.1 : Nat) ≤ v.1),
  (∀ i : Nat, (((i : Nat) < v.1) → (All (cvtL false [(0, ⟨false, 2, v.1, (fun i_1 => (if (i_1 = k) then [.p (.int .i64 (if (↑k : Int).toNat + 0 < k + 1 then m + 2 * (↑k : Int) else (v.2 k).1)), .p (.int .i64 (m + 2 * (↑k : Int) + 1))] else [.p (.int .i64 (if i_1 < k + 1 then m + 2 * (↑i_1 : Int) else (v.2 i_1).1)), .p (.int .i64 (if i_1 < k then m + 2 * (↑i_1 : Int) + 1 else (v.2 i_1).2.1))]))⟩)] [0] 1 (if (i = k) then [.p (.int .i64 (if (↑k : Int).toNat + 0 < k + 1 then m + 2 * (↑k : Int) else (v.2 k).1)), .p (.int .i64 (m + 2 * (↑k : Int) + 1))] else [.p (.int .i64 (if i < k + 1 then m + 2 * (↑i : Int) else (v.2 i).1)), .p (.int .i64 (if i < k then m + 2 * (↑i : Int) + 1 else (v.2 i).2.1))])).2 ∧ (((cvtL false [(0, ⟨false, 2, v.1, (fun i_1 => (if (i_1 = k) then [.p (.int .i64 (if (↑k : Int).toNat + 0 < k + 1 then m + 2 * (↑k : Int) else (v.2 k).1)), .p (.int .i64 (m + 2 * (↑k : Int) + 1))] else [.p (.int .i64 (if i_1 < k + 1 then m + 2 * (↑i_1 : Int) else (v.2 i_1).1)), .p (.int .i64 (if i_1 < k then m + 2 * (↑i_1 : Int) + 1 else (v.2 i_1).2.1))]))⟩)] [0] 1 (if (i = k) then [.p (.int .i64 (if (↑k : Int).toNat + 0 < k + 1 then m + 2 * (↑k : Int) else (v.2 k).1)), .p (.int .i64 (m + 2 * (↑k : Int) + 1))] else [.p (.int .i64 (if i < k + 1 then m + 2 * (↑i : Int) else (v.2 i).1)), .p (.int .i64 (if i < k then m + 2 * (↑i : Int) + 1 else (v.2 i).2.1))])).1 : List AV) = [.p (.int .i64 (if i < k + 1 then m + 2 * (↑i : Int) else (v.2 i).1)), .p (.int .i64 (if i < k + 1 then m + 2 * (↑i : Int) + 1 else (v.2 i).2.1))]))))]) := by kernel_rfl
theorem p_markBarS_c (v : T_BarS) (m : Int) (k : Nat) :
    pathOb Try.prog Try.f22 1 [.reg [oT, oT, oT, oT], .dec false, .reg [oT, oT]] [.code (cAt (bodyOf Try.f22) [1, 0, 1, 0, 0]), .inLoop (cAt (bodyOf Try.f22) [1, 0, 1, 0, 0]), .inBlock 0, .code (cAt (bodyOf Try.f22) [1, 1])] (S_markBarS v m k) [0] 1 [(0, ⟨false, 2, v.1, fun i => [.p (.int .i64 (m + 2 * (i : Int))), .p (.int .i64 (m + 2 * (i : Int) + 1))]⟩)] (.p (.int .i64 (m + 2 * (v.1 : Int)))) =
    some [((decide ((↑k : Int) < (↑v.1 : Int))) = false),
  (((m + 2 * (↑k : Int)) : Int) = (m + 2 * (↑v.1 : Int))),
  (AN 2),
  ((v.1 : Nat) ≤ v.1),
  (∀ i : Nat, (((i : Nat) < v.1) → (All [] ∧ (([.p (.int .i64 (if i < k then m + 2 * (↑i : Int) else (v.2 i).1)), .p (.int .i64 (if i < k then m + 2 * (↑i : Int) + 1 else (v.2 i).2.1))] : List AV) = [.p (.int .i64 (m + 2 * (↑i : Int))), .p (.int .i64 (m + 2 * (↑i : Int) + 1))])))),
  (AE v.1)] := by kernel_rfl
theorem p_heldBarS_a (n : Nat) (m : Int) :
    pieceOb Try.prog 0 [.reg [oT], .reg [oT], .head] [.code (bodyOf Try.f30)] (start Try.f30 [] 0 [.p (.seq true 2 n (fun i => [.int .i64 (m + 2 * (i : Int)), .int .i64 (m + 2 * (i : Int) + 1)])), .p (.int .i64 m)]) [] 1 (S_heldBarS n m 0) =
    some ([.code (cAt (bodyOf Try.f30) [1, 0, 1, 0, 0]), .inLoop (cAt (bodyOf Try.f30) [1, 0, 1, 0, 0]), .inBlock 0, .code (cAt (bodyOf Try.f30) [1, 1])], [(AN n),
  (AP n (fun i => [.int .i64 (m + 2 * (↑i : Int)), .int .i64 (m + 2 * (↑i : Int) + 1)])),
  ((m : Int) = (m + 2 * (↑0 : Int))),
  ((0 : Int) = (↑0 : Int))]) := by kernel_rfl
theorem p_heldBarS_b (n : Nat) (m : Int) (k : Nat) :
    pieceOb Try.prog 0 [.reg [oT, oT, oT, oT], .dec true, .reg [oT, oT, oT, oT, oT, oT, oT], .dec false, .reg [oT, oT, oT], .reg [oT, oT, oT, oT, oT, oT, oT], .dec false, .reg [oT, oT, oT], .reg [oT, oT, oT], .head] [.code (cAt (bodyOf Try.f30) [1, 0, 1, 0, 0]), .inLoop (cAt (bodyOf Try.f30) [1, 0, 1, 0, 0]), .inBlock 0, .code (cAt (bodyOf Try.f30) [1, 1])] (S_heldBarS n m k) [] 1 (S_heldBarS n m (k + 1)) =
    some ([.code (cAt (bodyOf Try.f30) [1, 0, 1, 0, 0]), .inLoop (cAt (bodyOf Try.f30) [1, 0, 1, 0, 0]), .inBlock 0, .code (cAt (bodyOf Try.f30) [1, 1])], [((decide ((↑k : Int) < (↑n : Int))) = true),
  ((0 : Int) ≤ (↑k : Int)),
  (((↑k : Int) : Int) < (↑n : Int)),
  ((m + 2 * (↑k : Int) != m + 2 * (↑k : Int)) = false),
  (((-9223372036854775808) : Int) ≤ (m + 2 * (↑k : Int) + 1)),
  (((m + 2 * (↑k : Int) + 1) : Int) ≤ 9223372036854775807),
  ((0 : Int) ≤ (↑k : Int)),
  (((↑k : Int) : Int) < (↑n : Int)),
  ((m + 2 * (↑k : Int) + 1 != m + 2 * (↑k : Int) + 1) = false),
  (((-9223372036854775808) : Int) ≤ (m + 2 * (↑k : Int) + 1 + 1)),
  (((m + 2 * (↑k : Int) + 1 + 1) : Int) ≤ 9223372036854775807),
  (((-9223372036854775808) : Int) ≤ ((↑k : Int) + 1)),
  ((((↑k : Int) + 1) : Int) ≤ 9223372036854775807),
  (AN n),
  (AP n (fun i => [.int .i64 (m + 2 * (↑i : Int)), .int .i64 (m + 2 * (↑i : Int) + 1)])),
  (((m + 2 * (↑k : Int) + 1 + 1) : Int) = (m + 2 * (↑(k + 1) : Int))),
  ((((↑k : Int) + 1) : Int) = (↑(k + 1) : Int))]) := by kernel_rfl
theorem p_heldBarS_c (n : Nat) (m : Int) (k : Nat) :
    pathOb Try.prog Try.f30 0 [.reg [oT, oT, oT, oT], .dec false, .reg [oT, oT]] [.code (cAt (bodyOf Try.f30) [1, 0, 1, 0, 0]), .inLoop (cAt (bodyOf Try.f30) [1, 0, 1, 0, 0]), .inBlock 0, .code (cAt (bodyOf Try.f30) [1, 1])] (S_heldBarS n m k) [] 1 [] (.p (.int .i64 (m + 2 * (n : Int)))) =
    some [((decide ((↑k : Int) < (↑n : Int))) = false),
  (((m + 2 * (↑k : Int)) : Int) = (m + 2 * (↑n : Int)))] := by kernel_rfl
theorem p_markGraph (v : T_Graph) (m : Int) :
    pathOb Try.prog Try.f36 1 [.reg [oT, oT], .reg [oT, oT, oT, ⟨true, (some ⟨[0], [], [], 1, [(0, ⟨false, 2, v.2.1.1, fun i => [.p (.int .i64 (m + 2 * (i : Int))), .p (.int .i64 (m + 2 * (i : Int) + 1))]⟩)], .p (.int .i64 (m + 2 * (v.2.1.1 : Int)))⟩), none⟩, oT], .reg [oT, oT]] [.code (bodyOf Try.f36)] (start Try.f36 [(0, ⟨false, 2, v.2.1.1, fun i => [.p (.int .i64 ((v.2.1.2 i).1)), .p (.int .i64 ((v.2.1.2 i).2.1))]⟩)] 1 [.agg [.p (.int .i64 v.1), .ar 2 0 0 v.2.1.1], .p (.int .i64 m)]) [0] 1 [(0, ⟨false, 2, v.2.1.1, fun i => [.p (.int .i64 (m + 2 * (i : Int))), .p (.int .i64 (m + 2 * (i : Int) + 1))]⟩)] (.p (.int .i64 (m + 2 * (v.2.1.1 : Int)))) =
    some [((0 : Nat) < 1),
  (AE v.2.1.1),
  Con Try.prog 22 1 [(0, ⟨false, 2, v.2.1.1, (fun i => [.p (.int .i64 ((v.2.1.2 i).1)), .p (.int .i64 ((v.2.1.2 i).2.1))])⟩)] [.ar 2 0 0 v.2.1.1, .p (.int .i64 m)] [(0, ⟨false, 2, v.2.1.1, (fun i => [.p (.int .i64 (m + 2 * (↑i : Int))), .p (.int .i64 (m + 2 * (↑i : Int) + 1))])⟩)] (.p (.int .i64 (m + 2 * (↑v.2.1.1 : Int)))),
  (AI ((m + 2 * (↑v.2.1.1 : Int)))),
  (AN 2),
  ((v.2.1.1 : Nat) ≤ v.2.1.1),
  (AA v.2.1.1 (fun i => [.p (.int .i64 (m + 2 * (↑i : Int))), .p (.int .i64 (m + 2 * (↑i : Int) + 1))])),
  (AE v.2.1.1)] := by kernel_rfl
theorem p_heldGraph (v : T_Graph) (m : Int) :
    pathOb Try.prog Try.f37 0 [.reg [oT, oT], .reg [oT, oT, oT, ⟨true, (some ⟨[], [], [], 1, [], .p (.int .i64 (m + 2 * (v.2.1.1 : Int)))⟩), none⟩, oT], .reg [oT, oT], .dec false, .reg [oT, oT]] [.code (bodyOf Try.f37)] (start Try.f37 [] 0 [.agg [.p (.int .i64 v.1), .p (.seq true 2 v.2.1.1 (fun i => [.int .i64 (m + 2 * (i : Int)), .int .i64 (m + 2 * (i : Int) + 1)]))], .p (.int .i64 m)]) [] 1 [] (.p (.int .i64 (m + 2 * (v.2.1.1 : Int)))) =
    some [((0 : Nat) < 1),
  Con Try.prog 30 0 [] [.p (.seq true 2 v.2.1.1 (fun i => [.int .i64 (m + 2 * (↑i : Int)), .int .i64 (m + 2 * (↑i : Int) + 1)])), .p (.int .i64 m)] [] (.p (.int .i64 (m + 2 * (↑v.2.1.1 : Int)))),
  ((decide (m + 2 * (↑v.2.1.1 : Int) < 0)) = false),
  (AI ((m + 2 * (↑v.2.1.1 : Int))))] := by kernel_rfl
theorem con_szBarS (v : T_BarS) (k : okS s_BarS v) (m : Int) (h0 : 0 ≤ m) (h1 : m ≤ 1048576) : Con Try.prog 16 0 [] [.p (.seq true 2 v.1 (fun i => [.int .i64 ((v.2 i).1), .int .i64 ((v.2 i).2.1)])), .p (.int .i64 m)] [] (.p (.int .i64 (f_szBarS v m))) := by
  refine con_start Try.func16 rfl (by kernel_rfl) rfl (fun c hc => ?_)
  have hn := k.1
  by_cases h : m - v.1 < 0
  · rw [show f_szBarS v m = -1 by simp [f_szBarS, h]]
    refine path_ok mixed Try.func16 hc (p_szBarS_a v m) ?_
    simp only [All]
    repeat' (first | exact trivial | with_reducible apply And.intro)
    all_goals (first | exact aG _ | exact aP _ _ | exact aA _ _ | exact aE _ | omega | rfl | (intros; first | assumption | exact True.intro | rfl | exact absurd (show false = true by assumption) Bool.false_ne_true | ((repeat' (first | assumption | apply anda | apply notf)); done)) | (simp; omega))
  · rw [show f_szBarS v m = m - v.1 by simp [f_szBarS, h]]
    refine path_ok mixed Try.func16 hc (p_szBarS_b v m) ?_
    simp only [All]
    repeat' (first | exact trivial | with_reducible apply And.intro)
    all_goals (first | exact aG _ | exact aP _ _ | exact aA _ _ | exact aE _ | omega | rfl | (intros; first | assumption | exact True.intro | rfl | exact absurd (show false = true by assumption) Bool.false_ne_true | ((repeat' (first | assumption | apply anda | apply notf)); done)) | (simp; omega))
theorem le_szBarS (v : T_BarS) (m : Int) (h0 : 0 ≤ m) : f_szBarS v m ≤ m := by
  unfold f_szBarS; split <;> omega
theorem sm_szBarS (v : T_BarS) (m : Int) (h1 : m ≤ 1048576) (h : ¬ f_szBarS v m < 0) : smS s_BarS v := by
  unfold f_szBarS at h
  split at h
  · omega
  · exact ⟨by omega, fun i hi => by simp [smS, smL]⟩
theorem con_szGraph (v : T_Graph) (k : okS s_Graph v) (m : Int) (h0 : 0 ≤ m) (h1 : m ≤ 1048576) : Con Try.prog 31 0 [] [.agg [.p (.int .i64 v.1), .p (.seq true 2 v.2.1.1 (fun i => [.int .i64 ((v.2.1.2 i).1), .int .i64 ((v.2.1.2 i).2.1)]))], .p (.int .i64 m)] [] (.p (.int .i64 (f_szGraph v m))) := by
  refine con_start Try.func31 rfl (by kernel_rfl) rfl (fun c hc => ?_)
  have l0 := le_szBarS v.2.1 m (by omega)
  by_cases g0 : (f_szBarS v.2.1 m) < 0
  · rw [show f_szGraph v m = -1 by simp [f_szGraph, g0]]
    refine path_ok mixed Try.func31 hc (p_szGraph_0 v m) ?_
    simp only [All]
    repeat' (first | exact trivial | with_reducible apply And.intro)
    all_goals (first | exact aG _ | exact aP _ _ | exact aA _ _ | exact aE _ | omega | rfl | (intros; first | assumption | exact True.intro | rfl | exact absurd (show false = true by assumption) Bool.false_ne_true | ((repeat' (first | assumption | apply anda | apply notf)); done)) | (exact con_szBarS v.2.1 k.2.1 m (by omega) (by omega)) | (simp; omega))
  rw [show f_szGraph v m = (f_szBarS v.2.1 m) by simp [f_szGraph, g0]]
  refine path_ok mixed Try.func31 hc (p_szGraph_e v m) ?_
  simp only [All]
  repeat' (first | exact trivial | with_reducible apply And.intro)
  all_goals (first | exact aG _ | exact aP _ _ | exact aA _ _ | exact aE _ | omega | rfl | (intros; first | assumption | exact True.intro | rfl | exact absurd (show false = true by assumption) Bool.false_ne_true | ((repeat' (first | assumption | apply anda | apply notf)); done)) | (exact con_szBarS v.2.1 k.2.1 m (by omega) (by omega)) | (simp; omega))
theorem le_szGraph (v : T_Graph) (m : Int) (h0 : 0 ≤ m) : f_szGraph v m ≤ m := by
  have l0 := le_szBarS v.2.1 m h0
  by_cases g0 : (f_szBarS v.2.1 m) < 0
  · simp only [f_szGraph, g0, if_true, if_false]; omega
  simp only [f_szGraph, g0, if_false]; omega
theorem sm_szGraph (v : T_Graph) (m : Int) (h0 : 0 ≤ m) (h1 : m ≤ 1048576) (h : ¬ f_szGraph v m < 0) : smS s_Graph v := by
  have l0 := le_szBarS v.2.1 m (by omega)
  have g0 : ¬ (f_szBarS v.2.1 m) < 0 := by
    intro g; apply h; simp only [f_szGraph, g, if_true, if_false]; omega
  exact ⟨by simp [smS, smL], sm_szBarS v.2.1 m (by omega) g0, True.intro⟩
theorem con_toBar (v : T_Bar) (hs : smS s_Bar v) : Con Try.prog 61 0 [] [.agg [.p (.int .i64 v.1), .p (.int .i64 v.2.1)]] [] (.agg [.p (.int .i64 v.1), .p (.int .i64 v.2.1)]) := by
  refine con_start Try.func61 rfl (by kernel_rfl) rfl (fun c hc => ?_)
  refine path_ok mixed Try.func61 hc (p_toBar v) ?_
  simp only [All]
  repeat' (first | exact trivial | with_reducible apply And.intro)
  all_goals (first | exact aG _ | exact aP _ _ | exact aA _ _ | exact aE _ | omega | rfl | (intros; first | assumption | exact True.intro | rfl | exact absurd (show false = true by assumption) Bool.false_ne_true | ((repeat' (first | assumption | apply anda | apply notf)); done)) | (intro i hi; simp [hi, All]))
theorem con_toBarS (v : T_BarS) (hs : smS s_BarS v) : Con Try.prog 18 0 [] [.p (.seq true 2 v.1 (fun i => [.int .i64 ((v.2 i).1), .int .i64 ((v.2 i).2.1)]))] [(0, ⟨false, 2, v.1, fun i => [.p (.int .i64 ((v.2 i).1)), .p (.int .i64 ((v.2 i).2.1))]⟩)] (.ar 2 0 0 v.1) := by
  refine con_start Try.func18 rfl (by kernel_rfl) rfl (fun c hc => ?_)
  have hn := hs.1
  have lp : ∀ m k, k + m = v.1 → Run Try.prog c 18 [.code (cAt (bodyOf Try.f18) [1, 1, 0, 1, 0, 0]), .inLoop (cAt (bodyOf Try.f18) [1, 1, 0, 1, 0, 0]), .inBlock 0, .code (cAt (bodyOf Try.f18) [1, 1, 1])] (S_toBarS v k) (Post c [(0, ⟨false, 2, v.1, fun i => [.p (.int .i64 ((v.2 i).1)), .p (.int .i64 ((v.2 i).2.1))]⟩)] (.ar 2 0 0 v.1)) := by
    intro m
    induction m with
    | zero =>
      intro k hk
      refine path_ok mixed Try.func18 hc (p_toBarS_c v k) ?_
      simp only [All]
      repeat' (first | exact trivial | with_reducible apply And.intro)
      all_goals (first | exact aG _ | exact aP _ _ | exact aA _ _ | exact aE _ | omega | rfl | (intros; first | assumption | exact True.intro | rfl | exact absurd (show false = true by assumption) Bool.false_ne_true | ((repeat' (first | assumption | apply anda | apply notf)); done)) | (intro i hi; (have hik : i < k := by omega); simp [hik, All]) | (simp; try omega))
    | succ m ih =>
      intro k hk
      have hlt : decide ((k : Int) < (v.1 : Int)) = true := by simp; omega
      refine piece_ok mixed hc (p_toBarS_b v k) ?_ (ih (k + 1) (by omega))
      simp only [All]
      repeat' (first | exact trivial | with_reducible apply And.intro)
      all_goals (first | exact aG _ | exact aP _ _ | exact aA _ _ | exact aE _ | omega | rfl | (intros; first | assumption | exact True.intro | rfl | exact absurd (show false = true by assumption) Bool.false_ne_true | ((repeat' (first | assumption | apply anda | apply notf)); done)) | (exact con_toBar (v.2 k) (hs.2 k (by omega))) | (intro i hi; by_cases h : i = k <;> simp [h, Nat.lt_succ_iff_lt_or_eq, cvtL, cvt, tg, tru, All]))
  refine piece_ok mixed hc (p_toBarS_a v) ?_ (lp v.1 0 (by omega))
  simp only [All]
  repeat' (first | exact trivial | with_reducible apply And.intro)
  all_goals (first | exact aG _ | exact aP _ _ | exact aA _ _ | exact aE _ | omega | rfl | (intros; first | assumption | exact True.intro | rfl | exact absurd (show false = true by assumption) Bool.false_ne_true | ((repeat' (first | assumption | apply anda | apply notf)); done)) | (intro i hi; simp [All]))
theorem con_toGraph (v : T_Graph) (hs : smS s_Graph v) : Con Try.prog 33 0 [] [.agg [.p (.int .i64 v.1), .p (.seq true 2 v.2.1.1 (fun i => [.int .i64 ((v.2.1.2 i).1), .int .i64 ((v.2.1.2 i).2.1)]))]] [(0, ⟨false, 2, v.2.1.1, fun i => [.p (.int .i64 ((v.2.1.2 i).1)), .p (.int .i64 ((v.2.1.2 i).2.1))]⟩)] (.agg [.p (.int .i64 v.1), .ar 2 0 0 v.2.1.1]) := by
  refine con_start Try.func33 rfl (by kernel_rfl) rfl (fun c hc => ?_)
  refine path_ok mixed Try.func33 hc (p_toGraph v) ?_
  simp only [All]
  repeat' (first | exact trivial | with_reducible apply And.intro)
  all_goals (first | exact aG _ | exact aP _ _ | exact aA _ _ | exact aE _ | omega | rfl | (intros; first | assumption | exact True.intro | rfl | exact absurd (show false = true by assumption) Bool.false_ne_true | ((repeat' (first | assumption | apply anda | apply notf)); done)) | (exact con_toBarS v.2.1 hs.2.1) | (intro i hi; simp [hi, All]))
theorem con_eqBar (v : T_Bar) (hs : smS s_Bar v) : Con Try.prog 64 0 [] [.agg [.p (.int .i64 v.1), .p (.int .i64 v.2.1)], .agg [.p (.int .i64 v.1), .p (.int .i64 v.2.1)]] [] (.p (.bool true)) := by
  refine con_start Try.func64 rfl (by kernel_rfl) rfl (fun c hc => ?_)
  refine path_ok mixed Try.func64 hc (p_eqBar v) ?_
  simp only [All]
  repeat' (first | exact trivial | with_reducible apply And.intro)
  all_goals (first | exact aG _ | exact aP _ _ | exact aA _ _ | exact aE _ | omega | rfl | (intros; first | assumption | exact True.intro | rfl | exact absurd (show false = true by assumption) Bool.false_ne_true | ((repeat' (first | assumption | apply anda | apply notf)); done)) | simp)
theorem con_eqBarS (v : T_BarS) (hs : smS s_BarS v) : Con Try.prog 20 0 [] [.p (.seq true 2 v.1 (fun i => [.int .i64 ((v.2 i).1), .int .i64 ((v.2 i).2.1)])), .p (.seq true 2 v.1 (fun i => [.int .i64 ((v.2 i).1), .int .i64 ((v.2 i).2.1)]))] [] (.p (.bool true)) := by
  refine con_start Try.func20 rfl (by kernel_rfl) rfl (fun c hc => ?_)
  have hn := hs.1
  have lp : ∀ m k, k + m = v.1 → Run Try.prog c 20 [.code (cAt (bodyOf Try.f20) [1, 1, 0, 1, 0, 0]), .inLoop (cAt (bodyOf Try.f20) [1, 1, 0, 1, 0, 0]), .inBlock 0, .code (cAt (bodyOf Try.f20) [1, 1, 1])] (S_eqBarS v k) (Post c [] (.p (.bool true))) := by
    intro m
    induction m with
    | zero =>
      intro k hk
      refine path_ok mixed Try.func20 hc (p_eqBarS_c v k) ?_
      simp only [All]
      repeat' (first | exact trivial | with_reducible apply And.intro)
      all_goals (first | exact aG _ | exact aP _ _ | exact aA _ _ | exact aE _ | omega | rfl | (intros; first | assumption | exact True.intro | rfl | exact absurd (show false = true by assumption) Bool.false_ne_true | ((repeat' (first | assumption | apply anda | apply notf)); done)) | (simp; try omega))
    | succ m ih =>
      intro k hk
      have hlt : decide ((k : Int) < (v.1 : Int)) = true := by simp; omega
      refine piece_ok mixed hc (p_eqBarS_b v k) ?_ (ih (k + 1) (by omega))
      simp only [All]
      repeat' (first | exact trivial | with_reducible apply And.intro)
      all_goals (first | exact aG _ | exact aP _ _ | exact aA _ _ | exact aE _ | omega | rfl | (intros; first | assumption | exact True.intro | rfl | exact absurd (show false = true by assumption) Bool.false_ne_true | ((repeat' (first | assumption | apply anda | apply notf)); done)) | (exact con_eqBar (v.2 k) (hs.2 k (by omega))) | simp)
  refine piece_ok mixed hc (p_eqBarS_a v) ?_ (lp v.1 0 (by omega))
  simp only [All]
  repeat' (first | exact trivial | with_reducible apply And.intro)
  all_goals (first | exact aG _ | exact aP _ _ | exact aA _ _ | exact aE _ | omega | rfl | (intros; first | assumption | exact True.intro | rfl | exact absurd (show false = true by assumption) Bool.false_ne_true | ((repeat' (first | assumption | apply anda | apply notf)); done)) | simp)
theorem con_eqGraph (v : T_Graph) (hs : smS s_Graph v) : Con Try.prog 35 0 [] [.agg [.p (.int .i64 v.1), .p (.seq true 2 v.2.1.1 (fun i => [.int .i64 ((v.2.1.2 i).1), .int .i64 ((v.2.1.2 i).2.1)]))], .agg [.p (.int .i64 v.1), .p (.seq true 2 v.2.1.1 (fun i => [.int .i64 ((v.2.1.2 i).1), .int .i64 ((v.2.1.2 i).2.1)]))]] [] (.p (.bool true)) := by
  refine con_start Try.func35 rfl (by kernel_rfl) rfl (fun c hc => ?_)
  refine path_ok mixed Try.func35 hc (p_eqGraph v) ?_
  simp only [All]
  repeat' (first | exact trivial | with_reducible apply And.intro)
  all_goals (first | exact aG _ | exact aP _ _ | exact aA _ _ | exact aE _ | omega | rfl | (intros; first | assumption | exact True.intro | rfl | exact absurd (show false = true by assumption) Bool.false_ne_true | ((repeat' (first | assumption | apply anda | apply notf)); done)) | (exact con_eqBarS v.2.1 hs.2.1) | simp)
theorem qT_BarS_bad (g h : Nat → T_Bar) (k : Nat) (e : q1_BarS (g k) (h k) = false) : ∀ n, k < n → qT_BarS g h n = false
  | 0, h' => by omega
  | n + 1, h' => by
    by_cases e' : k = n
    · subst e'; simp [qT_BarS, e]
    · simp [qT_BarS, qT_BarS_bad g h k e n (by omega)]
theorem con_seBarS (v u : T_BarS) (hv : v.1 ≤ 1048576) : Con Try.prog 119 0 [] [.p (.seq true 2 v.1 (fun i => [.int .i64 ((v.2 i).1), .int .i64 ((v.2 i).2.1)])), .p (.seq true 2 u.1 (fun i => [.int .i64 ((u.2 i).1), .int .i64 ((u.2 i).2.1)]))] [] (.p (.bool (q_BarS v u))) := by
  refine con_start Try.func119 rfl (by kernel_rfl) rfl (fun c hc => ?_)
  by_cases hz : v.1 = u.1
  · rw [show q_BarS v u = qT_BarS v.2 u.2 v.1 by simp [q_BarS, hz]]
    have lp : ∀ m k, k + m = v.1 → qT_BarS v.2 u.2 k = true → Run Try.prog c 119 [.code (cAt (bodyOf Try.f119) [1, 1, 0, 1, 0, 0]), .inLoop (cAt (bodyOf Try.f119) [1, 1, 0, 1, 0, 0]), .inBlock 0, .code (cAt (bodyOf Try.f119) [1, 1, 1])] (S_seBarS v u k) (Post c [] (.p (.bool (qT_BarS v.2 u.2 v.1)))) := by
      intro m
      induction m with
      | zero =>
        intro k hk hg
        rw [show qT_BarS v.2 u.2 v.1 = true by rw [show v.1 = k by omega]; exact hg]
        have hd : decide ((k : Int) < (v.1 : Int)) = false := by simp; omega
        refine path_ok mixed Try.func119 hc (p_seBarS_d v u k) ?_
        simp only [All]
        repeat' (first | exact trivial | with_reducible apply And.intro)
        all_goals (first | exact aG _ | exact aP _ _ | exact aA _ _ | exact aE _ | omega | rfl | (intros; first | assumption | exact True.intro | rfl | exact absurd (show false = true by assumption) Bool.false_ne_true | ((repeat' (first | assumption | apply anda | apply notf)); done)))
      | succ m ih =>
        intro k hk hg
        have hd : decide ((k : Int) < (v.1 : Int)) = true := by simp; omega
        cases he : q1_BarS (v.2 k) (u.2 k) with
        | false =>
          rw [qT_BarS_bad _ _ k he v.1 (by omega)]
          have he' : (!q1_BarS (v.2 k) (u.2 k)) = true := notf he
          refine path_ok mixed Try.func119 hc (p_seBarS_c v u k) ?_
          simp only [All]
          repeat' (first | exact trivial | with_reducible apply And.intro)
          all_goals (first | exact aG _ | exact aP _ _ | exact aA _ _ | exact aE _ | omega | rfl | (intros; first | assumption | exact True.intro | rfl | exact absurd (show false = true by assumption) Bool.false_ne_true | ((repeat' (first | assumption | apply anda | apply notf)); done)) | exact he')
        | true =>
          have he' : (!q1_BarS (v.2 k) (u.2 k)) = false := nott he
          refine piece_ok mixed hc (p_seBarS_b v u k) ?_ (ih (k + 1) (by omega) (by simp [qT_BarS, hg, he]))
          simp only [All]
          repeat' (first | exact trivial | with_reducible apply And.intro)
          all_goals (first | exact aG _ | exact aP _ _ | exact aA _ _ | exact aE _ | omega | rfl | (intros; first | assumption | exact True.intro | rfl | exact absurd (show false = true by assumption) Bool.false_ne_true | ((repeat' (first | assumption | apply anda | apply notf)); done)) | exact he')
    refine piece_ok mixed hc (p_seBarS_a v u) ?_ (lp v.1 0 (by omega) rfl)
    simp only [All]
    repeat' (first | exact trivial | with_reducible apply And.intro)
    all_goals (first | exact aG _ | exact aP _ _ | exact aA _ _ | exact aE _ | omega | rfl | (intros; first | assumption | exact True.intro | rfl | exact absurd (show false = true by assumption) Bool.false_ne_true | ((repeat' (first | assumption | apply anda | apply notf)); done)) | (simp; omega))
  · rw [show q_BarS v u = false by simp [q_BarS, hz]]
    refine path_ok mixed Try.func119 hc (p_seBarS_z v u) ?_
    simp only [All]
    repeat' (first | exact trivial | with_reducible apply And.intro)
    all_goals (first | exact aG _ | exact aP _ _ | exact aA _ _ | exact aE _ | omega | rfl | (intros; first | assumption | exact True.intro | rfl | exact absurd (show false = true by assumption) Bool.false_ne_true | ((repeat' (first | assumption | apply anda | apply notf)); done)) | (simp; omega))
theorem con_markBarS (v : T_BarS) (m : Int) (hn : v.1 ≤ 1048576) (h0 : 0 ≤ m) (h1 : m ≤ 1099511627776) : Con Try.prog 22 1 [(0, ⟨false, 2, v.1, fun i => [.p (.int .i64 ((v.2 i).1)), .p (.int .i64 ((v.2 i).2.1))]⟩)] [.ar 2 0 0 v.1, .p (.int .i64 m)] [(0, ⟨false, 2, v.1, fun i => [.p (.int .i64 (m + 2 * (i : Int))), .p (.int .i64 (m + 2 * (i : Int) + 1))]⟩)] (.p (.int .i64 (m + 2 * (v.1 : Int)))) := by
  refine con_start Try.func22 rfl (by kernel_rfl) rfl (fun c hc => ?_)
  have lp : ∀ q j, j + q = v.1 → Run Try.prog c 22 [.code (cAt (bodyOf Try.f22) [1, 0, 1, 0, 0]), .inLoop (cAt (bodyOf Try.f22) [1, 0, 1, 0, 0]), .inBlock 0, .code (cAt (bodyOf Try.f22) [1, 1])] (S_markBarS v m j) (Post c [(0, ⟨false, 2, v.1, fun i => [.p (.int .i64 (m + 2 * (i : Int))), .p (.int .i64 (m + 2 * (i : Int) + 1))]⟩)] (.p (.int .i64 (m + 2 * (v.1 : Int))))) := by
    intro q
    induction q with
    | zero =>
      intro j hj
      have e : j = v.1 := by omega
      have hd : decide ((j : Int) < (v.1 : Int)) = false := by simp; omega
      refine path_ok mixed Try.func22 hc (p_markBarS_c v m j) ?_
      simp only [All]
      repeat' (first | exact trivial | with_reducible apply And.intro)
      all_goals (first | exact aG _ | exact aP _ _ | exact aA _ _ | exact aE _ | omega | rfl | (intros; first | assumption | exact True.intro | rfl | exact absurd (show false = true by assumption) Bool.false_ne_true | ((repeat' (first | assumption | apply anda | apply notf)); done)) | (intro i hi; (have hik : i < j := by omega); simp [hik, All]) | (simp; try omega))
    | succ q ih =>
      intro j hj
      have hlt : decide ((j : Int) < (v.1 : Int)) = true := by simp; omega
      refine piece_ok mixed hc (p_markBarS_b0 v m j) ?_ ?_
      ·
        simp only [All]
        repeat' (first | exact trivial | with_reducible apply And.intro)
        all_goals (first | exact aG _ | exact aP _ _ | exact aA _ _ | exact aE _ | omega | rfl | (intros; first | assumption | exact True.intro | rfl | exact absurd (show false = true by assumption) Bool.false_ne_true | ((repeat' (first | assumption | apply anda | apply notf)); done)) | (intro i hi; by_cases h : i = j <;> simp [h, Nat.lt_succ_iff_lt_or_eq, cvtL, cvt, tg, tru, All]))
      refine piece_ok mixed hc (p_markBarS_b1 v m j) ?_ (ih (j + 1) (by omega))
      ·
        simp only [All]
        repeat' (first | exact trivial | with_reducible apply And.intro)
        all_goals (first | exact aG _ | exact aP _ _ | exact aA _ _ | exact aE _ | omega | rfl | (intros; first | assumption | exact True.intro | rfl | exact absurd (show false = true by assumption) Bool.false_ne_true | ((repeat' (first | assumption | apply anda | apply notf)); done)) | (intro i hi; by_cases h : i = j <;> simp [h, Nat.lt_succ_iff_lt_or_eq, cvtL, cvt, tg, tru, All]))
  refine piece_ok mixed hc (p_markBarS_a v m) ?_ (lp v.1 0 (by omega))
  simp only [All]
  repeat' (first | exact trivial | with_reducible apply And.intro)
  all_goals (first | exact aG _ | exact aP _ _ | exact aA _ _ | exact aE _ | omega | rfl | (intros; first | assumption | exact True.intro | rfl | exact absurd (show false = true by assumption) Bool.false_ne_true | ((repeat' (first | assumption | apply anda | apply notf)); done)) | (intro i hi; simp [All]))
theorem con_heldBarS (n : Nat) (m : Int) (hn : n ≤ 1048576) (h0 : 0 ≤ m) (h1 : m ≤ 1099511627776) : Con Try.prog 30 0 [] [.p (.seq true 2 n (fun i => [.int .i64 (m + 2 * (i : Int)), .int .i64 (m + 2 * (i : Int) + 1)])), .p (.int .i64 m)] [] (.p (.int .i64 (m + 2 * (n : Int)))) := by
  refine con_start Try.func30 rfl (by kernel_rfl) rfl (fun c hc => ?_)
  have lp : ∀ q j, j + q = n → Run Try.prog c 30 [.code (cAt (bodyOf Try.f30) [1, 0, 1, 0, 0]), .inLoop (cAt (bodyOf Try.f30) [1, 0, 1, 0, 0]), .inBlock 0, .code (cAt (bodyOf Try.f30) [1, 1])] (S_heldBarS n m j) (Post c [] (.p (.int .i64 (m + 2 * (n : Int))))) := by
    intro q
    induction q with
    | zero =>
      intro j hj
      have hd : decide ((j : Int) < (n : Int)) = false := by simp; omega
      refine path_ok mixed Try.func30 hc (p_heldBarS_c n m j) ?_
      simp only [All]
      repeat' (first | exact trivial | with_reducible apply And.intro)
      all_goals (first | exact aG _ | exact aP _ _ | exact aA _ _ | exact aE _ | omega | rfl | (intros; first | assumption | exact True.intro | rfl | exact absurd (show false = true by assumption) Bool.false_ne_true | ((repeat' (first | assumption | apply anda | apply notf)); done)) | (simp; try omega))
    | succ q ih =>
      intro j hj
      have hlt : decide ((j : Int) < (n : Int)) = true := by simp; omega
      refine piece_ok mixed hc (p_heldBarS_b n m j) ?_ (ih (j + 1) (by omega))
      simp only [All]
      repeat' (first | exact trivial | with_reducible apply And.intro)
      all_goals (first | exact aG _ | exact aP _ _ | exact aA _ _ | exact aE _ | omega | rfl | (intros; first | assumption | exact True.intro | rfl | exact absurd (show false = true by assumption) Bool.false_ne_true | ((repeat' (first | assumption | apply anda | apply notf)); done)) | (simp; done) | (simp; omega))
  refine piece_ok mixed hc (p_heldBarS_a n m) ?_ (lp n 0 (by omega))
  simp only [All]
  repeat' (first | exact trivial | with_reducible apply And.intro)
  all_goals (first | exact aG _ | exact aP _ _ | exact aA _ _ | exact aE _ | omega | rfl | (intros; first | assumption | exact True.intro | rfl | exact absurd (show false = true by assumption) Bool.false_ne_true | ((repeat' (first | assumption | apply anda | apply notf)); done)) | simp)
theorem con_markGraph (v : T_Graph) (m : Int) (h_0 : v.2.1.1 ≤ 1048576) (h0 : 0 ≤ m) (h1 : m ≤ 1099494850560) : Con Try.prog 36 1 [(0, ⟨false, 2, v.2.1.1, fun i => [.p (.int .i64 ((v.2.1.2 i).1)), .p (.int .i64 ((v.2.1.2 i).2.1))]⟩)] [.agg [.p (.int .i64 v.1), .ar 2 0 0 v.2.1.1], .p (.int .i64 m)] [(0, ⟨false, 2, v.2.1.1, fun i => [.p (.int .i64 (m + 2 * (i : Int))), .p (.int .i64 (m + 2 * (i : Int) + 1))]⟩)] (.p (.int .i64 (m + 2 * (v.2.1.1 : Int)))) := by
  refine con_start Try.func36 rfl (by kernel_rfl) rfl (fun c hc => ?_)
  refine path_ok mixed Try.func36 hc (p_markGraph v m) ?_
  simp only [All]
  repeat' (first | exact trivial | with_reducible apply And.intro)
  all_goals (first | exact aG _ | exact aP _ _ | exact aA _ _ | exact aE _ | omega | rfl | (intros; first | assumption | exact True.intro | rfl | exact absurd (show false = true by assumption) Bool.false_ne_true | ((repeat' (first | assumption | apply anda | apply notf)); done)) | (exact con_markBarS v.2.1 _ h_0 (by omega) (by omega)) | (intro i hi; simp [All]))
theorem con_heldGraph (v : T_Graph) (m : Int) (h_0 : v.2.1.1 ≤ 1048576) (h0 : 0 ≤ m) (h1 : m ≤ 1099494850560) : Con Try.prog 37 0 [] [.agg [.p (.int .i64 v.1), .p (.seq true 2 v.2.1.1 (fun i => [.int .i64 (m + 2 * (i : Int)), .int .i64 (m + 2 * (i : Int) + 1)]))], .p (.int .i64 m)] [] (.p (.int .i64 (m + 2 * (v.2.1.1 : Int)))) := by
  refine con_start Try.func37 rfl (by kernel_rfl) rfl (fun c hc => ?_)
  refine path_ok mixed Try.func37 hc (p_heldGraph v m) ?_
  simp only [All]
  repeat' (first | exact trivial | with_reducible apply And.intro)
  all_goals (first | exact aG _ | exact aP _ _ | exact aA _ _ | exact aE _ | omega | rfl | (intros; first | assumption | exact True.intro | rfl | exact absurd (show false = true by assumption) Bool.false_ne_true | ((repeat' (first | assumption | apply anda | apply notf)); done)) | (exact con_heldBarS v.2.1.1 _ h_0 (by omega) (by omega)) | (simp; omega))
end Go.Proofs.Ytgdbnnmogddkaaa.Mach
namespace Go.Proofs.Ytgdbnnmogddkaaa.Mach
open Go
set_option linter.unusedVariables false
set_option linter.unusedSimpArgs false
def inB (x a b : Int) : Bool := decide (a ≤ x) && decide (x ≤ b)
theorem p36 (x a b : Int) :
    pathOb Try.prog Try.f112 0 [.reg [oT], .reg [oT, oT, oT, oT, oT, oT, oT, oT, oT]] [.code (bodyOf Try.f112)] (start Try.f112 [] 0 [.p (.int .i64 x), .p (.int .i64 a), .p (.int .i64 b)]) [] 1 [] (.p (.bool (inB x a b))) =
    some [(AG (decide (x ≥ a))),
  (AG (decide (x ≥ a))),
  (AG (decide (x ≥ a))),
  ((bif decide (x ≥ a) then decide (x ≤ b) else false) = (inB x a b))] := by kernel_rfl
theorem p37 (x a b : Int) :
    pathOb Try.prog Try.f115 0 [.reg [oT], .reg [oT, oT, oT, oT, oT, oT, oT, oT, oT]] [.code (bodyOf Try.f115)] (start Try.f115 [] 0 [.p (.int .i64 x), .p (.int .i64 a), .p (.int .i64 b)]) [] 1 [] (.p (.bool (inB x a b))) =
    some [(AG (decide (x ≥ a))),
  (AG (decide (x ≥ a))),
  (AG (decide (x ≥ a))),
  ((bif decide (x ≥ a) then decide (x ≤ b) else false) = (inB x a b))] := by kernel_rfl
theorem con_l1In (x a b : Int) : Con Try.prog 112 0 [] [.p (.int .i64 x), .p (.int .i64 a), .p (.int .i64 b)] [] (.p (.bool (inB x a b))) := by
  refine con_start Try.func112 rfl (by kernel_rfl) rfl (fun c hc => ?_)
  refine path_ok mixed Try.func112 hc (p36 x a b) ?_
  simp only [All]
  repeat' (first | exact trivial | with_reducible apply And.intro)
  all_goals (first | exact aG _ | exact aP _ _ | exact aA _ _ | exact aE _ | omega | rfl | (intros; first | assumption | exact True.intro | rfl | exact absurd (show false = true by assumption) Bool.false_ne_true | ((repeat' (first | assumption | apply anda | apply notf)); done)) | (simp only [inB]; cases decide (a ≤ x) <;> rfl))
theorem con_within (x a b : Int) : Con Try.prog 115 0 [] [.p (.int .i64 x), .p (.int .i64 a), .p (.int .i64 b)] [] (.p (.bool (inB x a b))) := by
  refine con_start Try.func115 rfl (by kernel_rfl) rfl (fun c hc => ?_)
  refine path_ok mixed Try.func115 hc (p37 x a b) ?_
  simp only [All]
  repeat' (first | exact trivial | with_reducible apply And.intro)
  all_goals (first | exact aG _ | exact aP _ _ | exact aA _ _ | exact aE _ | omega | rfl | (intros; first | assumption | exact True.intro | rfl | exact absurd (show false = true by assumption) Bool.false_ne_true | ((repeat' (first | assumption | apply anda | apply notf)); done)) | (simp only [inB]; cases decide (a ≤ x) <;> rfl))
end Go.Proofs.Ytgdbnnmogddkaaa.Mach
namespace Go.Proofs.Ytgdbnnmogddkaaa.Mach
open Go
set_option linter.unusedVariables false
set_option linter.unusedSimpArgs false
def aft (a b : T_Bar) : Bool := bif decide (a.1 < b.1) then true else bif a.1 == b.1 then decide (a.2.1 ≤ b.2.1) else false
def cmpI (x y : Int) : Int := if x < y then -1 else if x > y then 1 else 0
def cmpB (a b : T_Bar) : Int := if cmpI a.1 b.1 = 0 then cmpI a.2.1 b.2.1 else cmpI a.1 b.1
def badB (N : Int) (g : Nat → T_Bar) (k : Nat) : Bool :=
  bif bif bif decide ((g k).1 < 0) then true else decide ((g k).1 ≥ (g k).2.1) then true else decide ((g k).2.1 ≥ N) then true
    else bif decide ((k : Int) > 0) then !aft (g ((k : Int) - 1).toNat) (g k) else false
def goodB (N : Int) (g : Nat → T_Bar) : Nat → Bool
  | 0 => true
  | k + 1 => goodB N g k && !badB N g k
def isGraphF (v : T_Graph) : Bool := if inB v.1 1 8 = true ∧ v.2.1.1 ≤ 24 then goodB v.1 v.2.1.2 v.2.1.1 else false
def barA (a : T_Bar) : AV := .agg [.p (.int .i64 a.1), .p (.int .i64 a.2.1)]
def graphL (v : T_BarS) : AV := .p (.seq true 2 v.1 (fun i => [.int .i64 (v.2 i).1, .int .i64 (v.2 i).2.1]))
def graphA (v : T_Graph) : AV := .agg [.p (.int .i64 v.1), graphL v.2.1]
def boxG (v : T_Graph) : Ob := ⟨true, 2, 1, fun i => [.p (.int .i64 v.1), graphL v.2.1]⟩
def S48 (v : T_Graph) (k : Nat) : St :=
  ⟨[graphA v, .pt 2 0 0 0, .p .any, .p (.int .i64 k)] ++ List.replicate 55 anyA, [(0, boxG v)], 1⟩
def S51 (v : T_Graph) (k : Nat) : St :=
  ⟨[graphA v, .pt 2 0 0 0] ++ List.replicate 14 anyA ++ [graphL v.2.1, .p (.int .i64 v.2.1.1), .p (.int .i64 k)] ++ List.replicate 37 anyA, [(0, boxG v)], 1⟩
theorem p57 (a b : T_Bar) :
    pathOb Try.prog Try.f113 0 [.reg [oT, oT, oT], .reg [oT, oT, oT, oT, oT, oT, oT, oT, oT, oT, oT, oT, oT, oT, oT, oT, oT, oT, oT, oT]] [.code (bodyOf Try.f113)] (start Try.f113 [] 0 [barA a, barA b]) [] 1 [] (.p (.bool (aft a b))) =
    some [((0 : Nat) < 1),
  ((0 : Nat) < 1),
  (AG (!decide (a.1 < b.1))),
  (((!decide (a.1 < b.1)) = true) → ((0 : Nat) < 1)),
  (AG (!decide (a.1 < b.1))),
  (((!decide (a.1 < b.1)) = true) → ((0 : Nat) < 1)),
  (AG (!decide (a.1 < b.1))),
  (AG (!decide (a.1 < b.1))),
  (AG (!decide (a.1 < b.1))),
  (AG (!decide (a.1 < b.1) && a.1 == b.1)),
  (((!decide (a.1 < b.1) && a.1 == b.1) = true) → ((0 : Nat) < 1)),
  (AG (!decide (a.1 < b.1) && a.1 == b.1)),
  (((!decide (a.1 < b.1) && a.1 == b.1) = true) → ((0 : Nat) < 1)),
  (AG (!decide (a.1 < b.1) && a.1 == b.1)),
  (AG (!decide (a.1 < b.1) && a.1 == b.1)),
  (AG (!decide (a.1 < b.1))),
  (((!decide (a.1 < b.1)) = true) → (((a.1 == b.1) = true) → ((!decide (a.1 < b.1) && a.1 == b.1) = true))),
  (((decide (a.1 < b.1)) = false) → ((!decide (a.1 < b.1)) = true)),
  ((bif decide (a.1 < b.1) then true else bif a.1 == b.1 then decide (a.2.1 ≤ b.2.1) else false) = (aft a b))] := by kernel_rfl
theorem p62a (x y : Int) :
    pathOb Try.prog Try.f117 0 [.reg [oT], .reg [oT, oT, oT, oT], .dec true, .reg [oT]] [.code (bodyOf Try.f117)] (start Try.f117 [] 0 [.p (.int .i64 x), .p (.int .i64 y)]) [] 1 [] (.p (.int .i64 (-1))) =
    some [((decide (x < y)) = true),
  (AI ((-1)))] := by kernel_rfl
theorem p62b (x y : Int) :
    pathOb Try.prog Try.f117 0 [.reg [oT], .reg [oT, oT, oT, oT], .dec false, .reg [oT, oT, oT, oT], .dec true, .reg [oT]] [.code (bodyOf Try.f117)] (start Try.f117 [] 0 [.p (.int .i64 x), .p (.int .i64 y)]) [] 1 [] (.p (.int .i64 1)) =
    some [((decide (x < y)) = false),
  ((decide (x > y)) = true),
  (AI 1)] := by kernel_rfl
theorem p62c (x y : Int) :
    pathOb Try.prog Try.f117 0 [.reg [oT], .reg [oT, oT, oT, oT], .dec false, .reg [oT, oT, oT, oT], .dec false, .reg [oT]] [.code (bodyOf Try.f117)] (start Try.f117 [] 0 [.p (.int .i64 x), .p (.int .i64 y)]) [] 1 [] (.p (.int .i64 0)) =
    some [((decide (x < y)) = false),
  ((decide (x > y)) = false),
  (AI 0)] := by kernel_rfl
theorem p59a (a b : T_Bar) :
    pathOb Try.prog Try.f82 0 [.reg [oT, oT, oT], .reg [oT, oT, oT, oT, ⟨true, (some ⟨[], [], [], 1, [], .p (.int .i64 (cmpI a.1 b.1))⟩), none⟩, oT], .reg [oT, oT], .dec true, .reg [oT, oT]] [.code (bodyOf Try.f82)] (start Try.f82 [] 0 [barA a, barA b]) [] 1 [] (.p (.int .i64 (cmpI a.1 b.1))) =
    some [((0 : Nat) < 1),
  ((0 : Nat) < 1),
  Con Try.prog 117 0 [] [.p (.int .i64 a.1), .p (.int .i64 b.1)] [] (.p (.int .i64 (cmpI a.1 b.1))),
  ((cmpI a.1 b.1 != 0) = true),
  (AI ((cmpI a.1 b.1)))] := by kernel_rfl
theorem p59b (a b : T_Bar) :
    pathOb Try.prog Try.f82 0 [.reg [oT, oT, oT], .reg [oT, oT, oT, oT, ⟨true, (some ⟨[], [], [], 1, [], .p (.int .i64 (cmpI a.1 b.1))⟩), none⟩, oT], .reg [oT, oT], .dec false, .reg [oT, oT, oT, oT, ⟨true, (some ⟨[], [], [], 1, [], .p (.int .i64 (cmpI a.2.1 b.2.1))⟩), none⟩, oT]] [.code (bodyOf Try.f82)] (start Try.f82 [] 0 [barA a, barA b]) [] 1 [] (.p (.int .i64 (cmpI a.2.1 b.2.1))) =
    some [((0 : Nat) < 1),
  ((0 : Nat) < 1),
  Con Try.prog 117 0 [] [.p (.int .i64 a.1), .p (.int .i64 b.1)] [] (.p (.int .i64 (cmpI a.1 b.1))),
  ((cmpI a.1 b.1 != 0) = false),
  ((0 : Nat) < 1),
  ((0 : Nat) < 1),
  Con Try.prog 117 0 [] [.p (.int .i64 a.2.1), .p (.int .i64 b.2.1)] [] (.p (.int .i64 (cmpI a.2.1 b.2.1))),
  (AI ((cmpI a.2.1 b.2.1)))] := by kernel_rfl
theorem p48z (v : T_Graph) :
    pathOb Try.prog Try.f73 0 [.reg [oT, oT], .reg [oT, oT, ⟨true, (some ⟨[], [], [], 1, [], .p (.bool (inB v.1 1 8))⟩), none⟩, oT, oT, oT, oT, oT, oT, oT], .dec true, .reg [oT]] [.code (bodyOf Try.f73)] (start Try.f73 [] 0 [graphA v]) [] 1 [] (.p (.bool false)) =
    some [((0 : Nat) < 1),
  Con Try.prog 112 0 [] [.p (.int .i64 v.1), .p (.int .i64 1), .p (.int .i64 8)] [] (.p (.bool (inB v.1 1 8))),
  (AG (!!inB v.1 1 8)),
  (((!!inB v.1 1 8) = true) → ((0 : Nat) < 1)),
  (AG (!!inB v.1 1 8)),
  (AG (!!inB v.1 1 8)),
  (((!inB v.1 1 8) = false) → ((!!inB v.1 1 8) = true)),
  ((bif !inB v.1 1 8 then true else decide ((↑v.2.1.1 : Int) > 24)) = true),
  (false = false)] := by kernel_rfl
theorem p48a (v : T_Graph) :
    pieceOb Try.prog 0 [.reg [oT, oT], .reg [oT, oT, ⟨true, (some ⟨[], [], [], 1, [], .p (.bool (inB v.1 1 8))⟩), none⟩, oT, oT, oT, oT, oT, oT, oT], .dec false, .reg [oT], .head] [.code (bodyOf Try.f73)] (start Try.f73 [] 0 [graphA v]) [0] 1 (S48 v 0) =
    some ([.code (cAt (bodyOf Try.f73) [1, 1, 0, 1, 0, 0]), .inLoop (cAt (bodyOf Try.f73) [1, 1, 0, 1, 0, 0]), .inBlock 0, .code (cAt (bodyOf Try.f73) [1, 1, 1])], [((0 : Nat) < 1),
  Con Try.prog 112 0 [] [.p (.int .i64 v.1), .p (.int .i64 1), .p (.int .i64 8)] [] (.p (.bool (inB v.1 1 8))),
  (AG (!!inB v.1 1 8)),
  (((!!inB v.1 1 8) = true) → ((0 : Nat) < 1)),
  (AG (!!inB v.1 1 8)),
  (AG (!!inB v.1 1 8)),
  (((!inB v.1 1 8) = false) → ((!!inB v.1 1 8) = true)),
  ((bif !inB v.1 1 8 then true else decide ((↑v.2.1.1 : Int) > 24)) = false),
  (AI v.1),
  (AN v.2.1.1),
  (AP v.2.1.1 (fun i => [.int .i64 ((v.2.1.2 i).1), .int .i64 ((v.2.1.2 i).2.1)])),
  (AN 0),
  ((0 : Int) = (↑0 : Int)),
  ((([AV.p (PV.int IntKind.i64 v.1), graphL v.2.1].length) : Nat) = 2),
  ((1 : Nat) ≤ 1),
  ((1 : Nat) ≤ 1),
  (AI v.1),
  (AN v.2.1.1),
  (AP v.2.1.1 (fun i => [.int .i64 ((v.2.1.2 i).1), .int .i64 ((v.2.1.2 i).2.1)]))]) := by kernel_rfl
theorem p48b (v : T_Graph) (k : Nat) :
    pieceOb Try.prog 0 [.reg [oT, oT, oT, oT, oT], .dec true, .reg [oT, oT, oT, oT, oT, oT, oT], .reg [oT, oT, oT, oT, oT, oT, oT, oT, oT, oT, oT, oT, oT, oT, oT, oT, oT, oT, oT, oT, oT, oT, oT, oT, oT, oT, oT, oT, ⟨true, (some ⟨[], [], [], 1, [], .p (.bool (aft (v.2.1.2 ((k : Int) - 1).toNat) (v.2.1.2 k)))⟩), none⟩, oT, oT, oT], .dec false, .reg [oT, oT, oT], .head] [.code (cAt (bodyOf Try.f73) [1, 1, 0, 1, 0, 0]), .inLoop (cAt (bodyOf Try.f73) [1, 1, 0, 1, 0, 0]), .inBlock 0, .code (cAt (bodyOf Try.f73) [1, 1, 1])] (S48 v k) [0] 1 (S48 v (k + 1)) =
    some ([.code (cAt (bodyOf Try.f73) [1, 1, 0, 1, 0, 0]), .inLoop (cAt (bodyOf Try.f73) [1, 1, 0, 1, 0, 0]), .inBlock 0, .code (cAt (bodyOf Try.f73) [1, 1, 1])], [((0 : Nat) < 1),
  ((decide ((↑k : Int) < (↑v.2.1.1 : Int))) = true),
  ((0 : Nat) < 1),
  ((0 : Int) ≤ (↑k : Int)),
  (((↑k : Int) : Int) < (↑v.2.1.1 : Int)),
  ((0 : Nat) < 1),
  ((true = true) → (AN 1)),
  ((0 : Nat) < 1),
  (AG (!decide ((v.2.1.2 (↑k : Int).toNat).1 < 0))),
  (((!decide ((v.2.1.2 (↑k : Int).toNat).1 < 0)) = true) → ((0 : Nat) < 1)),
  (AG (!decide ((v.2.1.2 (↑k : Int).toNat).1 < 0))),
  (((!decide ((v.2.1.2 (↑k : Int).toNat).1 < 0)) = true) → ((0 : Nat) < 1)),
  (AG (!decide ((v.2.1.2 (↑k : Int).toNat).1 < 0))),
  (AG (!decide ((v.2.1.2 (↑k : Int).toNat).1 < 0))),
  (((decide ((v.2.1.2 (↑k : Int).toNat).1 < 0)) = false) → ((!decide ((v.2.1.2 (↑k : Int).toNat).1 < 0)) = true)),
  (AG (!bif decide ((v.2.1.2 (↑k : Int).toNat).1 < 0) then true else decide ((v.2.1.2 (↑k : Int).toNat).1 ≥ (v.2.1.2 (↑k : Int).toNat).2.1))),
  (((!bif decide ((v.2.1.2 (↑k : Int).toNat).1 < 0) then true else decide ((v.2.1.2 (↑k : Int).toNat).1 ≥ (v.2.1.2 (↑k : Int).toNat).2.1)) = true) → ((0 : Nat) < 1)),
  (AG (!bif decide ((v.2.1.2 (↑k : Int).toNat).1 < 0) then true else decide ((v.2.1.2 (↑k : Int).toNat).1 ≥ (v.2.1.2 (↑k : Int).toNat).2.1))),
  (((!bif decide ((v.2.1.2 (↑k : Int).toNat).1 < 0) then true else decide ((v.2.1.2 (↑k : Int).toNat).1 ≥ (v.2.1.2 (↑k : Int).toNat).2.1)) = true) → ((0 : Nat) < 1)),
  (AG (!bif decide ((v.2.1.2 (↑k : Int).toNat).1 < 0) then true else decide ((v.2.1.2 (↑k : Int).toNat).1 ≥ (v.2.1.2 (↑k : Int).toNat).2.1))),
  (AG (!bif decide ((v.2.1.2 (↑k : Int).toNat).1 < 0) then true else decide ((v.2.1.2 (↑k : Int).toNat).1 ≥ (v.2.1.2 (↑k : Int).toNat).2.1))),
  (((bif decide ((v.2.1.2 (↑k : Int).toNat).1 < 0) then true else decide ((v.2.1.2 (↑k : Int).toNat).1 ≥ (v.2.1.2 (↑k : Int).toNat).2.1)) = false) → ((!bif decide ((v.2.1.2 (↑k : Int).toNat).1 < 0) then true else decide ((v.2.1.2 (↑k : Int).toNat).1 ≥ (v.2.1.2 (↑k : Int).toNat).2.1)) = true)),
  (AG (!bif bif decide ((v.2.1.2 (↑k : Int).toNat).1 < 0) then true else decide ((v.2.1.2 (↑k : Int).toNat).1 ≥ (v.2.1.2 (↑k : Int).toNat).2.1) then true else decide ((v.2.1.2 (↑k : Int).toNat).2.1 ≥ v.1))),
  (AG (!bif bif decide ((v.2.1.2 (↑k : Int).toNat).1 < 0) then true else decide ((v.2.1.2 (↑k : Int).toNat).1 ≥ (v.2.1.2 (↑k : Int).toNat).2.1) then true else decide ((v.2.1.2 (↑k : Int).toNat).2.1 ≥ v.1))),
  (AG ((!bif bif decide ((v.2.1.2 (↑k : Int).toNat).1 < 0) then true else decide ((v.2.1.2 (↑k : Int).toNat).1 ≥ (v.2.1.2 (↑k : Int).toNat).2.1) then true else decide ((v.2.1.2 (↑k : Int).toNat).2.1 ≥ v.1)) && decide ((↑k : Int) > 0))),
  ((((!bif bif decide ((v.2.1.2 (↑k : Int).toNat).1 < 0) then true else decide ((v.2.1.2 (↑k : Int).toNat).1 ≥ (v.2.1.2 (↑k : Int).toNat).2.1) then true else decide ((v.2.1.2 (↑k : Int).toNat).2.1 ≥ v.1)) && decide ((↑k : Int) > 0)) = true) → ((0 : Nat) < 1)),
  (AG ((!bif bif decide ((v.2.1.2 (↑k : Int).toNat).1 < 0) then true else decide ((v.2.1.2 (↑k : Int).toNat).1 ≥ (v.2.1.2 (↑k : Int).toNat).2.1) then true else decide ((v.2.1.2 (↑k : Int).toNat).2.1 ≥ v.1)) && decide ((↑k : Int) > 0))),
  ((((!bif bif decide ((v.2.1.2 (↑k : Int).toNat).1 < 0) then true else decide ((v.2.1.2 (↑k : Int).toNat).1 ≥ (v.2.1.2 (↑k : Int).toNat).2.1) then true else decide ((v.2.1.2 (↑k : Int).toNat).2.1 ≥ v.1)) && decide ((↑k : Int) > 0)) = true) → (((-9223372036854775808) : Int) ≤ ((↑k : Int) - 1))),
  ((((!bif bif decide ((v.2.1.2 (↑k : Int).toNat).1 < 0) then true else decide ((v.2.1.2 (↑k : Int).toNat).1 ≥ (v.2.1.2 (↑k : Int).toNat).2.1) then true else decide ((v.2.1.2 (↑k : Int).toNat).2.1 ≥ v.1)) && decide ((↑k : Int) > 0)) = true) → ((((↑k : Int) - 1) : Int) ≤ 9223372036854775807)),
  (AG ((!bif bif decide ((v.2.1.2 (↑k : Int).toNat).1 < 0) then true else decide ((v.2.1.2 (↑k : Int).toNat).1 ≥ (v.2.1.2 (↑k : Int).toNat).2.1) then true else decide ((v.2.1.2 (↑k : Int).toNat).2.1 ≥ v.1)) && decide ((↑k : Int) > 0))),
  (AG ((!bif bif decide ((v.2.1.2 (↑k : Int).toNat).1 < 0) then true else decide ((v.2.1.2 (↑k : Int).toNat).1 ≥ (v.2.1.2 (↑k : Int).toNat).2.1) then true else decide ((v.2.1.2 (↑k : Int).toNat).2.1 ≥ v.1)) && decide ((↑k : Int) > 0))),
  ((((!bif bif decide ((v.2.1.2 (↑k : Int).toNat).1 < 0) then true else decide ((v.2.1.2 (↑k : Int).toNat).1 ≥ (v.2.1.2 (↑k : Int).toNat).2.1) then true else decide ((v.2.1.2 (↑k : Int).toNat).2.1 ≥ v.1)) && decide ((↑k : Int) > 0)) = true) → ((0 : Int) ≤ ((↑k : Int) - 1))),
  ((((!bif bif decide ((v.2.1.2 (↑k : Int).toNat).1 < 0) then true else decide ((v.2.1.2 (↑k : Int).toNat).1 ≥ (v.2.1.2 (↑k : Int).toNat).2.1) then true else decide ((v.2.1.2 (↑k : Int).toNat).2.1 ≥ v.1)) && decide ((↑k : Int) > 0)) = true) → ((((↑k : Int) - 1) : Int) < (↑v.2.1.1 : Int))),
  (AG ((!bif bif decide ((v.2.1.2 (↑k : Int).toNat).1 < 0) then true else decide ((v.2.1.2 (↑k : Int).toNat).1 ≥ (v.2.1.2 (↑k : Int).toNat).2.1) then true else decide ((v.2.1.2 (↑k : Int).toNat).2.1 ≥ v.1)) && decide ((↑k : Int) > 0))),
  ((((!bif bif decide ((v.2.1.2 (↑k : Int).toNat).1 < 0) then true else decide ((v.2.1.2 (↑k : Int).toNat).1 ≥ (v.2.1.2 (↑k : Int).toNat).2.1) then true else decide ((v.2.1.2 (↑k : Int).toNat).2.1 ≥ v.1)) && decide ((↑k : Int) > 0)) = true) → ((0 : Nat) < 1)),
  (AG ((!bif bif decide ((v.2.1.2 (↑k : Int).toNat).1 < 0) then true else decide ((v.2.1.2 (↑k : Int).toNat).1 ≥ (v.2.1.2 (↑k : Int).toNat).2.1) then true else decide ((v.2.1.2 (↑k : Int).toNat).2.1 ≥ v.1)) && decide ((↑k : Int) > 0))),
  (AG ((!bif bif decide ((v.2.1.2 (↑k : Int).toNat).1 < 0) then true else decide ((v.2.1.2 (↑k : Int).toNat).1 ≥ (v.2.1.2 (↑k : Int).toNat).2.1) then true else decide ((v.2.1.2 (↑k : Int).toNat).2.1 ≥ v.1)) && decide ((↑k : Int) > 0))),
  ((((!bif bif decide ((v.2.1.2 (↑k : Int).toNat).1 < 0) then true else decide ((v.2.1.2 (↑k : Int).toNat).1 ≥ (v.2.1.2 (↑k : Int).toNat).2.1) then true else decide ((v.2.1.2 (↑k : Int).toNat).2.1 ≥ v.1)) && decide ((↑k : Int) > 0)) = true) → Con Try.prog 113 0 [] [.agg [.p (.int .i64 ((v.2.1.2 ((↑k : Int) - 1).toNat).1)), .p (.int .i64 ((v.2.1.2 ((↑k : Int) - 1).toNat).2.1))], .agg [.p (.int .i64 ((v.2.1.2 k).1)), .p (.int .i64 ((v.2.1.2 k).2.1))]] [] (.p (.bool (aft (v.2.1.2 ((↑k : Int) - 1).toNat) (v.2.1.2 k))))),
  (AG ((!bif bif decide ((v.2.1.2 (↑k : Int).toNat).1 < 0) then true else decide ((v.2.1.2 (↑k : Int).toNat).1 ≥ (v.2.1.2 (↑k : Int).toNat).2.1) then true else decide ((v.2.1.2 (↑k : Int).toNat).2.1 ≥ v.1)) && decide ((↑k : Int) > 0))),
  (AG (!bif bif decide ((v.2.1.2 (↑k : Int).toNat).1 < 0) then true else decide ((v.2.1.2 (↑k : Int).toNat).1 ≥ (v.2.1.2 (↑k : Int).toNat).2.1) then true else decide ((v.2.1.2 (↑k : Int).toNat).2.1 ≥ v.1))),
  (((!bif bif decide ((v.2.1.2 (↑k : Int).toNat).1 < 0) then true else decide ((v.2.1.2 (↑k : Int).toNat).1 ≥ (v.2.1.2 (↑k : Int).toNat).2.1) then true else decide ((v.2.1.2 (↑k : Int).toNat).2.1 ≥ v.1)) = true) → (((decide ((↑k : Int) > 0)) = true) → (((!bif bif decide ((v.2.1.2 (↑k : Int).toNat).1 < 0) then true else decide ((v.2.1.2 (↑k : Int).toNat).1 ≥ (v.2.1.2 (↑k : Int).toNat).2.1) then true else decide ((v.2.1.2 (↑k : Int).toNat).2.1 ≥ v.1)) && decide ((↑k : Int) > 0)) = true))),
  (((bif bif decide ((v.2.1.2 (↑k : Int).toNat).1 < 0) then true else decide ((v.2.1.2 (↑k : Int).toNat).1 ≥ (v.2.1.2 (↑k : Int).toNat).2.1) then true else decide ((v.2.1.2 (↑k : Int).toNat).2.1 ≥ v.1)) = false) → ((!bif bif decide ((v.2.1.2 (↑k : Int).toNat).1 < 0) then true else decide ((v.2.1.2 (↑k : Int).toNat).1 ≥ (v.2.1.2 (↑k : Int).toNat).2.1) then true else decide ((v.2.1.2 (↑k : Int).toNat).2.1 ≥ v.1)) = true)),
  ((bif bif bif decide ((v.2.1.2 (↑k : Int).toNat).1 < 0) then true else decide ((v.2.1.2 (↑k : Int).toNat).1 ≥ (v.2.1.2 (↑k : Int).toNat).2.1) then true else decide ((v.2.1.2 (↑k : Int).toNat).2.1 ≥ v.1) then true else bif decide ((↑k : Int) > 0) then !aft (v.2.1.2 ((↑k : Int) - 1).toNat) (v.2.1.2 k) else false) = false),
  (((-9223372036854775808) : Int) ≤ ((↑k : Int) + 1)),
  ((((↑k : Int) + 1) : Int) ≤ 9223372036854775807),
  (AI v.1),
  (AN v.2.1.1),
  (AP v.2.1.1 (fun i => [.int .i64 ((v.2.1.2 i).1), .int .i64 ((v.2.1.2 i).2.1)])),
  (AN 0),
  ((((↑k : Int) + 1) : Int) = (↑(k + 1) : Int)),
  (AN 2),
  ((1 : Nat) ≤ 1),
  ((1 : Nat) ≤ 1),
  (AI v.1),
  (AN v.2.1.1),
  (AP v.2.1.1 (fun i => [.int .i64 ((v.2.1.2 i).1), .int .i64 ((v.2.1.2 i).2.1)]))]) := by kernel_rfl
theorem p48c (v : T_Graph) (k : Nat) :
    pathOb Try.prog Try.f73 0 [.reg [oT, oT, oT, oT, oT], .dec true, .reg [oT, oT, oT, oT, oT, oT, oT], .reg [oT, oT, oT, oT, oT, oT, oT, oT, oT, oT, oT, oT, oT, oT, oT, oT, oT, oT, oT, oT, oT, oT, oT, oT, oT, oT, oT, oT, ⟨true, (some ⟨[], [], [], 1, [], .p (.bool (aft (v.2.1.2 ((k : Int) - 1).toNat) (v.2.1.2 k)))⟩), none⟩, oT, oT, oT], .dec true, .reg [oT]] [.code (cAt (bodyOf Try.f73) [1, 1, 0, 1, 0, 0]), .inLoop (cAt (bodyOf Try.f73) [1, 1, 0, 1, 0, 0]), .inBlock 0, .code (cAt (bodyOf Try.f73) [1, 1, 1])] (S48 v k) [] 1 [] (.p (.bool false)) =
    some [((0 : Nat) < 1),
  ((decide ((↑k : Int) < (↑v.2.1.1 : Int))) = true),
  ((0 : Nat) < 1),
  ((0 : Int) ≤ (↑k : Int)),
  (((↑k : Int) : Int) < (↑v.2.1.1 : Int)),
  ((0 : Nat) < 1),
  ((true = true) → (AN 1)),
  ((0 : Nat) < 1),
  (AG (!decide ((v.2.1.2 (↑k : Int).toNat).1 < 0))),
  (((!decide ((v.2.1.2 (↑k : Int).toNat).1 < 0)) = true) → ((0 : Nat) < 1)),
  (AG (!decide ((v.2.1.2 (↑k : Int).toNat).1 < 0))),
  (((!decide ((v.2.1.2 (↑k : Int).toNat).1 < 0)) = true) → ((0 : Nat) < 1)),
  (AG (!decide ((v.2.1.2 (↑k : Int).toNat).1 < 0))),
  (AG (!decide ((v.2.1.2 (↑k : Int).toNat).1 < 0))),
  (((decide ((v.2.1.2 (↑k : Int).toNat).1 < 0)) = false) → ((!decide ((v.2.1.2 (↑k : Int).toNat).1 < 0)) = true)),
  (AG (!bif decide ((v.2.1.2 (↑k : Int).toNat).1 < 0) then true else decide ((v.2.1.2 (↑k : Int).toNat).1 ≥ (v.2.1.2 (↑k : Int).toNat).2.1))),
  (((!bif decide ((v.2.1.2 (↑k : Int).toNat).1 < 0) then true else decide ((v.2.1.2 (↑k : Int).toNat).1 ≥ (v.2.1.2 (↑k : Int).toNat).2.1)) = true) → ((0 : Nat) < 1)),
  (AG (!bif decide ((v.2.1.2 (↑k : Int).toNat).1 < 0) then true else decide ((v.2.1.2 (↑k : Int).toNat).1 ≥ (v.2.1.2 (↑k : Int).toNat).2.1))),
  (((!bif decide ((v.2.1.2 (↑k : Int).toNat).1 < 0) then true else decide ((v.2.1.2 (↑k : Int).toNat).1 ≥ (v.2.1.2 (↑k : Int).toNat).2.1)) = true) → ((0 : Nat) < 1)),
  (AG (!bif decide ((v.2.1.2 (↑k : Int).toNat).1 < 0) then true else decide ((v.2.1.2 (↑k : Int).toNat).1 ≥ (v.2.1.2 (↑k : Int).toNat).2.1))),
  (AG (!bif decide ((v.2.1.2 (↑k : Int).toNat).1 < 0) then true else decide ((v.2.1.2 (↑k : Int).toNat).1 ≥ (v.2.1.2 (↑k : Int).toNat).2.1))),
  (((bif decide ((v.2.1.2 (↑k : Int).toNat).1 < 0) then true else decide ((v.2.1.2 (↑k : Int).toNat).1 ≥ (v.2.1.2 (↑k : Int).toNat).2.1)) = false) → ((!bif decide ((v.2.1.2 (↑k : Int).toNat).1 < 0) then true else decide ((v.2.1.2 (↑k : Int).toNat).1 ≥ (v.2.1.2 (↑k : Int).toNat).2.1)) = true)),
  (AG (!bif bif decide ((v.2.1.2 (↑k : Int).toNat).1 < 0) then true else decide ((v.2.1.2 (↑k : Int).toNat).1 ≥ (v.2.1.2 (↑k : Int).toNat).2.1) then true else decide ((v.2.1.2 (↑k : Int).toNat).2.1 ≥ v.1))),
  (AG (!bif bif decide ((v.2.1.2 (↑k : Int).toNat).1 < 0) then true else decide ((v.2.1.2 (↑k : Int).toNat).1 ≥ (v.2.1.2 (↑k : Int).toNat).2.1) then true else decide ((v.2.1.2 (↑k : Int).toNat).2.1 ≥ v.1))),
  (AG ((!bif bif decide ((v.2.1.2 (↑k : Int).toNat).1 < 0) then true else decide ((v.2.1.2 (↑k : Int).toNat).1 ≥ (v.2.1.2 (↑k : Int).toNat).2.1) then true else decide ((v.2.1.2 (↑k : Int).toNat).2.1 ≥ v.1)) && decide ((↑k : Int) > 0))),
  ((((!bif bif decide ((v.2.1.2 (↑k : Int).toNat).1 < 0) then true else decide ((v.2.1.2 (↑k : Int).toNat).1 ≥ (v.2.1.2 (↑k : Int).toNat).2.1) then true else decide ((v.2.1.2 (↑k : Int).toNat).2.1 ≥ v.1)) && decide ((↑k : Int) > 0)) = true) → ((0 : Nat) < 1)),
  (AG ((!bif bif decide ((v.2.1.2 (↑k : Int).toNat).1 < 0) then true else decide ((v.2.1.2 (↑k : Int).toNat).1 ≥ (v.2.1.2 (↑k : Int).toNat).2.1) then true else decide ((v.2.1.2 (↑k : Int).toNat).2.1 ≥ v.1)) && decide ((↑k : Int) > 0))),
  ((((!bif bif decide ((v.2.1.2 (↑k : Int).toNat).1 < 0) then true else decide ((v.2.1.2 (↑k : Int).toNat).1 ≥ (v.2.1.2 (↑k : Int).toNat).2.1) then true else decide ((v.2.1.2 (↑k : Int).toNat).2.1 ≥ v.1)) && decide ((↑k : Int) > 0)) = true) → (((-9223372036854775808) : Int) ≤ ((↑k : Int) - 1))),
  ((((!bif bif decide ((v.2.1.2 (↑k : Int).toNat).1 < 0) then true else decide ((v.2.1.2 (↑k : Int).toNat).1 ≥ (v.2.1.2 (↑k : Int).toNat).2.1) then true else decide ((v.2.1.2 (↑k : Int).toNat).2.1 ≥ v.1)) && decide ((↑k : Int) > 0)) = true) → ((((↑k : Int) - 1) : Int) ≤ 9223372036854775807)),
  (AG ((!bif bif decide ((v.2.1.2 (↑k : Int).toNat).1 < 0) then true else decide ((v.2.1.2 (↑k : Int).toNat).1 ≥ (v.2.1.2 (↑k : Int).toNat).2.1) then true else decide ((v.2.1.2 (↑k : Int).toNat).2.1 ≥ v.1)) && decide ((↑k : Int) > 0))),
  (AG ((!bif bif decide ((v.2.1.2 (↑k : Int).toNat).1 < 0) then true else decide ((v.2.1.2 (↑k : Int).toNat).1 ≥ (v.2.1.2 (↑k : Int).toNat).2.1) then true else decide ((v.2.1.2 (↑k : Int).toNat).2.1 ≥ v.1)) && decide ((↑k : Int) > 0))),
  ((((!bif bif decide ((v.2.1.2 (↑k : Int).toNat).1 < 0) then true else decide ((v.2.1.2 (↑k : Int).toNat).1 ≥ (v.2.1.2 (↑k : Int).toNat).2.1) then true else decide ((v.2.1.2 (↑k : Int).toNat).2.1 ≥ v.1)) && decide ((↑k : Int) > 0)) = true) → ((0 : Int) ≤ ((↑k : Int) - 1))),
  ((((!bif bif decide ((v.2.1.2 (↑k : Int).toNat).1 < 0) then true else decide ((v.2.1.2 (↑k : Int).toNat).1 ≥ (v.2.1.2 (↑k : Int).toNat).2.1) then true else decide ((v.2.1.2 (↑k : Int).toNat).2.1 ≥ v.1)) && decide ((↑k : Int) > 0)) = true) → ((((↑k : Int) - 1) : Int) < (↑v.2.1.1 : Int))),
  (AG ((!bif bif decide ((v.2.1.2 (↑k : Int).toNat).1 < 0) then true else decide ((v.2.1.2 (↑k : Int).toNat).1 ≥ (v.2.1.2 (↑k : Int).toNat).2.1) then true else decide ((v.2.1.2 (↑k : Int).toNat).2.1 ≥ v.1)) && decide ((↑k : Int) > 0))),
  ((((!bif bif decide ((v.2.1.2 (↑k : Int).toNat).1 < 0) then true else decide ((v.2.1.2 (↑k : Int).toNat).1 ≥ (v.2.1.2 (↑k : Int).toNat).2.1) then true else decide ((v.2.1.2 (↑k : Int).toNat).2.1 ≥ v.1)) && decide ((↑k : Int) > 0)) = true) → ((0 : Nat) < 1)),
  (AG ((!bif bif decide ((v.2.1.2 (↑k : Int).toNat).1 < 0) then true else decide ((v.2.1.2 (↑k : Int).toNat).1 ≥ (v.2.1.2 (↑k : Int).toNat).2.1) then true else decide ((v.2.1.2 (↑k : Int).toNat).2.1 ≥ v.1)) && decide ((↑k : Int) > 0))),
  (AG ((!bif bif decide ((v.2.1.2 (↑k : Int).toNat).1 < 0) then true else decide ((v.2.1.2 (↑k : Int).toNat).1 ≥ (v.2.1.2 (↑k : Int).toNat).2.1) then true else decide ((v.2.1.2 (↑k : Int).toNat).2.1 ≥ v.1)) && decide ((↑k : Int) > 0))),
  ((((!bif bif decide ((v.2.1.2 (↑k : Int).toNat).1 < 0) then true else decide ((v.2.1.2 (↑k : Int).toNat).1 ≥ (v.2.1.2 (↑k : Int).toNat).2.1) then true else decide ((v.2.1.2 (↑k : Int).toNat).2.1 ≥ v.1)) && decide ((↑k : Int) > 0)) = true) → Con Try.prog 113 0 [] [.agg [.p (.int .i64 ((v.2.1.2 ((↑k : Int) - 1).toNat).1)), .p (.int .i64 ((v.2.1.2 ((↑k : Int) - 1).toNat).2.1))], .agg [.p (.int .i64 ((v.2.1.2 k).1)), .p (.int .i64 ((v.2.1.2 k).2.1))]] [] (.p (.bool (aft (v.2.1.2 ((↑k : Int) - 1).toNat) (v.2.1.2 k))))),
  (AG ((!bif bif decide ((v.2.1.2 (↑k : Int).toNat).1 < 0) then true else decide ((v.2.1.2 (↑k : Int).toNat).1 ≥ (v.2.1.2 (↑k : Int).toNat).2.1) then true else decide ((v.2.1.2 (↑k : Int).toNat).2.1 ≥ v.1)) && decide ((↑k : Int) > 0))),
  (AG (!bif bif decide ((v.2.1.2 (↑k : Int).toNat).1 < 0) then true else decide ((v.2.1.2 (↑k : Int).toNat).1 ≥ (v.2.1.2 (↑k : Int).toNat).2.1) then true else decide ((v.2.1.2 (↑k : Int).toNat).2.1 ≥ v.1))),
  (((!bif bif decide ((v.2.1.2 (↑k : Int).toNat).1 < 0) then true else decide ((v.2.1.2 (↑k : Int).toNat).1 ≥ (v.2.1.2 (↑k : Int).toNat).2.1) then true else decide ((v.2.1.2 (↑k : Int).toNat).2.1 ≥ v.1)) = true) → (((decide ((↑k : Int) > 0)) = true) → (((!bif bif decide ((v.2.1.2 (↑k : Int).toNat).1 < 0) then true else decide ((v.2.1.2 (↑k : Int).toNat).1 ≥ (v.2.1.2 (↑k : Int).toNat).2.1) then true else decide ((v.2.1.2 (↑k : Int).toNat).2.1 ≥ v.1)) && decide ((↑k : Int) > 0)) = true))),
  (((bif bif decide ((v.2.1.2 (↑k : Int).toNat).1 < 0) then true else decide ((v.2.1.2 (↑k : Int).toNat).1 ≥ (v.2.1.2 (↑k : Int).toNat).2.1) then true else decide ((v.2.1.2 (↑k : Int).toNat).2.1 ≥ v.1)) = false) → ((!bif bif decide ((v.2.1.2 (↑k : Int).toNat).1 < 0) then true else decide ((v.2.1.2 (↑k : Int).toNat).1 ≥ (v.2.1.2 (↑k : Int).toNat).2.1) then true else decide ((v.2.1.2 (↑k : Int).toNat).2.1 ≥ v.1)) = true)),
  ((bif bif bif decide ((v.2.1.2 (↑k : Int).toNat).1 < 0) then true else decide ((v.2.1.2 (↑k : Int).toNat).1 ≥ (v.2.1.2 (↑k : Int).toNat).2.1) then true else decide ((v.2.1.2 (↑k : Int).toNat).2.1 ≥ v.1) then true else bif decide ((↑k : Int) > 0) then !aft (v.2.1.2 ((↑k : Int) - 1).toNat) (v.2.1.2 k) else false) = true),
  (false = false)] := by kernel_rfl
theorem p48d (v : T_Graph) (k : Nat) :
    pathOb Try.prog Try.f73 0 [.reg [oT, oT, oT, oT, oT], .dec false, .reg [oT]] [.code (cAt (bodyOf Try.f73) [1, 1, 0, 1, 0, 0]), .inLoop (cAt (bodyOf Try.f73) [1, 1, 0, 1, 0, 0]), .inBlock 0, .code (cAt (bodyOf Try.f73) [1, 1, 1])] (S48 v k) [] 1 [] (.p (.bool true)) =
    some [((0 : Nat) < 1),
  ((decide ((↑k : Int) < (↑v.2.1.1 : Int))) = false),
  (true = true)] := by kernel_rfl
theorem p51z (v : T_Graph) :
    pathOb Try.prog Try.f77 0 [.reg [oT, oT], .reg [oT, oT, ⟨true, (some ⟨[], [], [], 1, [], .p (.bool (inB v.1 1 8))⟩), none⟩, oT, oT, oT, oT, oT, oT, oT], .dec true, .reg [oT]] [.code (bodyOf Try.f77)] (start Try.f77 [] 0 [graphA v]) [] 1 [] (.p (.bool false)) =
    some [((0 : Nat) < 1),
  Con Try.prog 115 0 [] [.p (.int .i64 v.1), .p (.int .i64 1), .p (.int .i64 8)] [] (.p (.bool (inB v.1 1 8))),
  (AG (!!inB v.1 1 8)),
  (((!!inB v.1 1 8) = true) → ((0 : Nat) < 1)),
  (AG (!!inB v.1 1 8)),
  (AG (!!inB v.1 1 8)),
  (((!inB v.1 1 8) = false) → ((!!inB v.1 1 8) = true)),
  ((bif !inB v.1 1 8 then true else decide ((↑v.2.1.1 : Int) > 24)) = true),
  (false = false)] := by kernel_rfl
theorem p51a (v : T_Graph) :
    pieceOb Try.prog 0 [.reg [oT, oT], .reg [oT, oT, ⟨true, (some ⟨[], [], [], 1, [], .p (.bool (inB v.1 1 8))⟩), none⟩, oT, oT, oT, oT, oT, oT, oT], .dec false, .reg [oT, oT, oT, oT], .head] [.code (bodyOf Try.f77)] (start Try.f77 [] 0 [graphA v]) [0] 1 (S51 v 0) =
    some ([.code (cAt (bodyOf Try.f77) [1, 1, 0, 1, 0, 0]), .inLoop (cAt (bodyOf Try.f77) [1, 1, 0, 1, 0, 0]), .inBlock 0, .code (cAt (bodyOf Try.f77) [1, 1, 1])], [((0 : Nat) < 1),
  Con Try.prog 115 0 [] [.p (.int .i64 v.1), .p (.int .i64 1), .p (.int .i64 8)] [] (.p (.bool (inB v.1 1 8))),
  (AG (!!inB v.1 1 8)),
  (((!!inB v.1 1 8) = true) → ((0 : Nat) < 1)),
  (AG (!!inB v.1 1 8)),
  (AG (!!inB v.1 1 8)),
  (((!inB v.1 1 8) = false) → ((!!inB v.1 1 8) = true)),
  ((bif !inB v.1 1 8 then true else decide ((↑v.2.1.1 : Int) > 24)) = false),
  ((0 : Nat) < 1),
  (AI v.1),
  (AN v.2.1.1),
  (AP v.2.1.1 (fun i => [.int .i64 ((v.2.1.2 i).1), .int .i64 ((v.2.1.2 i).2.1)])),
  (AN 0),
  (AN v.2.1.1),
  (AP v.2.1.1 (fun i => [.int .i64 ((v.2.1.2 i).1), .int .i64 ((v.2.1.2 i).2.1)])),
  (AI ((↑v.2.1.1 : Int))),
  ((0 : Int) = (↑0 : Int)),
  ((([AV.p (PV.int IntKind.i64 v.1), graphL v.2.1].length) : Nat) = 2),
  ((1 : Nat) ≤ 1),
  ((1 : Nat) ≤ 1),
  (AI v.1),
  (AN v.2.1.1),
  (AP v.2.1.1 (fun i => [.int .i64 ((v.2.1.2 i).1), .int .i64 ((v.2.1.2 i).2.1)]))]) := by kernel_rfl
theorem p51b (v : T_Graph) (k : Nat) :
    pieceOb Try.prog 0 [.reg [oT], .dec true, .reg [oT, oT, oT, oT, oT, oT], .reg [oT, oT, oT, oT, oT, oT, oT, oT, oT, oT, oT, oT, oT, oT, oT, oT, oT, oT, oT, oT, oT, oT, oT, oT, oT, oT, oT, oT, ⟨true, (some ⟨[], [], [], 1, [], .p (.int .i64 (cmpB (v.2.1.2 ((k : Int) - 1).toNat) (v.2.1.2 k)))⟩), none⟩, oT, oT, oT], .dec false, .reg [oT, oT], .head] [.code (cAt (bodyOf Try.f77) [1, 1, 0, 1, 0, 0]), .inLoop (cAt (bodyOf Try.f77) [1, 1, 0, 1, 0, 0]), .inBlock 0, .code (cAt (bodyOf Try.f77) [1, 1, 1])] (S51 v k) [0] 1 (S51 v (k + 1)) =
    some ([.code (cAt (bodyOf Try.f77) [1, 1, 0, 1, 0, 0]), .inLoop (cAt (bodyOf Try.f77) [1, 1, 0, 1, 0, 0]), .inBlock 0, .code (cAt (bodyOf Try.f77) [1, 1, 1])], [((decide ((↑k : Int) < (↑v.2.1.1 : Int))) = true),
  ((0 : Int) ≤ (↑k : Int)),
  (((↑k : Int) : Int) < (↑v.2.1.1 : Int)),
  ((0 : Nat) < 1),
  ((true = true) → (AN 1)),
  ((0 : Nat) < 1),
  (AG (!decide ((v.2.1.2 (↑k : Int).toNat).1 < 0))),
  (((!decide ((v.2.1.2 (↑k : Int).toNat).1 < 0)) = true) → ((0 : Nat) < 1)),
  (AG (!decide ((v.2.1.2 (↑k : Int).toNat).1 < 0))),
  (((!decide ((v.2.1.2 (↑k : Int).toNat).1 < 0)) = true) → ((0 : Nat) < 1)),
  (AG (!decide ((v.2.1.2 (↑k : Int).toNat).1 < 0))),
  (AG (!decide ((v.2.1.2 (↑k : Int).toNat).1 < 0))),
  (((decide ((v.2.1.2 (↑k : Int).toNat).1 < 0)) = false) → ((!decide ((v.2.1.2 (↑k : Int).toNat).1 < 0)) = true)),
  (AG (!bif decide ((v.2.1.2 (↑k : Int).toNat).1 < 0) then true else decide ((v.2.1.2 (↑k : Int).toNat).1 ≥ (v.2.1.2 (↑k : Int).toNat).2.1))),
  (((!bif decide ((v.2.1.2 (↑k : Int).toNat).1 < 0) then true else decide ((v.2.1.2 (↑k : Int).toNat).1 ≥ (v.2.1.2 (↑k : Int).toNat).2.1)) = true) → ((0 : Nat) < 1)),
  (AG (!bif decide ((v.2.1.2 (↑k : Int).toNat).1 < 0) then true else decide ((v.2.1.2 (↑k : Int).toNat).1 ≥ (v.2.1.2 (↑k : Int).toNat).2.1))),
  (((!bif decide ((v.2.1.2 (↑k : Int).toNat).1 < 0) then true else decide ((v.2.1.2 (↑k : Int).toNat).1 ≥ (v.2.1.2 (↑k : Int).toNat).2.1)) = true) → ((0 : Nat) < 1)),
  (AG (!bif decide ((v.2.1.2 (↑k : Int).toNat).1 < 0) then true else decide ((v.2.1.2 (↑k : Int).toNat).1 ≥ (v.2.1.2 (↑k : Int).toNat).2.1))),
  (AG (!bif decide ((v.2.1.2 (↑k : Int).toNat).1 < 0) then true else decide ((v.2.1.2 (↑k : Int).toNat).1 ≥ (v.2.1.2 (↑k : Int).toNat).2.1))),
  (((bif decide ((v.2.1.2 (↑k : Int).toNat).1 < 0) then true else decide ((v.2.1.2 (↑k : Int).toNat).1 ≥ (v.2.1.2 (↑k : Int).toNat).2.1)) = false) → ((!bif decide ((v.2.1.2 (↑k : Int).toNat).1 < 0) then true else decide ((v.2.1.2 (↑k : Int).toNat).1 ≥ (v.2.1.2 (↑k : Int).toNat).2.1)) = true)),
  (AG (!bif bif decide ((v.2.1.2 (↑k : Int).toNat).1 < 0) then true else decide ((v.2.1.2 (↑k : Int).toNat).1 ≥ (v.2.1.2 (↑k : Int).toNat).2.1) then true else decide ((v.2.1.2 (↑k : Int).toNat).2.1 ≥ v.1))),
  (AG (!bif bif decide ((v.2.1.2 (↑k : Int).toNat).1 < 0) then true else decide ((v.2.1.2 (↑k : Int).toNat).1 ≥ (v.2.1.2 (↑k : Int).toNat).2.1) then true else decide ((v.2.1.2 (↑k : Int).toNat).2.1 ≥ v.1))),
  (AG ((!bif bif decide ((v.2.1.2 (↑k : Int).toNat).1 < 0) then true else decide ((v.2.1.2 (↑k : Int).toNat).1 ≥ (v.2.1.2 (↑k : Int).toNat).2.1) then true else decide ((v.2.1.2 (↑k : Int).toNat).2.1 ≥ v.1)) && decide ((↑k : Int) > 0))),
  ((((!bif bif decide ((v.2.1.2 (↑k : Int).toNat).1 < 0) then true else decide ((v.2.1.2 (↑k : Int).toNat).1 ≥ (v.2.1.2 (↑k : Int).toNat).2.1) then true else decide ((v.2.1.2 (↑k : Int).toNat).2.1 ≥ v.1)) && decide ((↑k : Int) > 0)) = true) → ((0 : Nat) < 1)),
  (AG ((!bif bif decide ((v.2.1.2 (↑k : Int).toNat).1 < 0) then true else decide ((v.2.1.2 (↑k : Int).toNat).1 ≥ (v.2.1.2 (↑k : Int).toNat).2.1) then true else decide ((v.2.1.2 (↑k : Int).toNat).2.1 ≥ v.1)) && decide ((↑k : Int) > 0))),
  ((((!bif bif decide ((v.2.1.2 (↑k : Int).toNat).1 < 0) then true else decide ((v.2.1.2 (↑k : Int).toNat).1 ≥ (v.2.1.2 (↑k : Int).toNat).2.1) then true else decide ((v.2.1.2 (↑k : Int).toNat).2.1 ≥ v.1)) && decide ((↑k : Int) > 0)) = true) → (((-9223372036854775808) : Int) ≤ ((↑k : Int) - 1))),
  ((((!bif bif decide ((v.2.1.2 (↑k : Int).toNat).1 < 0) then true else decide ((v.2.1.2 (↑k : Int).toNat).1 ≥ (v.2.1.2 (↑k : Int).toNat).2.1) then true else decide ((v.2.1.2 (↑k : Int).toNat).2.1 ≥ v.1)) && decide ((↑k : Int) > 0)) = true) → ((((↑k : Int) - 1) : Int) ≤ 9223372036854775807)),
  (AG ((!bif bif decide ((v.2.1.2 (↑k : Int).toNat).1 < 0) then true else decide ((v.2.1.2 (↑k : Int).toNat).1 ≥ (v.2.1.2 (↑k : Int).toNat).2.1) then true else decide ((v.2.1.2 (↑k : Int).toNat).2.1 ≥ v.1)) && decide ((↑k : Int) > 0))),
  (AG ((!bif bif decide ((v.2.1.2 (↑k : Int).toNat).1 < 0) then true else decide ((v.2.1.2 (↑k : Int).toNat).1 ≥ (v.2.1.2 (↑k : Int).toNat).2.1) then true else decide ((v.2.1.2 (↑k : Int).toNat).2.1 ≥ v.1)) && decide ((↑k : Int) > 0))),
  ((((!bif bif decide ((v.2.1.2 (↑k : Int).toNat).1 < 0) then true else decide ((v.2.1.2 (↑k : Int).toNat).1 ≥ (v.2.1.2 (↑k : Int).toNat).2.1) then true else decide ((v.2.1.2 (↑k : Int).toNat).2.1 ≥ v.1)) && decide ((↑k : Int) > 0)) = true) → ((0 : Int) ≤ ((↑k : Int) - 1))),
  ((((!bif bif decide ((v.2.1.2 (↑k : Int).toNat).1 < 0) then true else decide ((v.2.1.2 (↑k : Int).toNat).1 ≥ (v.2.1.2 (↑k : Int).toNat).2.1) then true else decide ((v.2.1.2 (↑k : Int).toNat).2.1 ≥ v.1)) && decide ((↑k : Int) > 0)) = true) → ((((↑k : Int) - 1) : Int) < (↑v.2.1.1 : Int))),
  (AG ((!bif bif decide ((v.2.1.2 (↑k : Int).toNat).1 < 0) then true else decide ((v.2.1.2 (↑k : Int).toNat).1 ≥ (v.2.1.2 (↑k : Int).toNat).2.1) then true else decide ((v.2.1.2 (↑k : Int).toNat).2.1 ≥ v.1)) && decide ((↑k : Int) > 0))),
  ((((!bif bif decide ((v.2.1.2 (↑k : Int).toNat).1 < 0) then true else decide ((v.2.1.2 (↑k : Int).toNat).1 ≥ (v.2.1.2 (↑k : Int).toNat).2.1) then true else decide ((v.2.1.2 (↑k : Int).toNat).2.1 ≥ v.1)) && decide ((↑k : Int) > 0)) = true) → ((0 : Nat) < 1)),
  (AG ((!bif bif decide ((v.2.1.2 (↑k : Int).toNat).1 < 0) then true else decide ((v.2.1.2 (↑k : Int).toNat).1 ≥ (v.2.1.2 (↑k : Int).toNat).2.1) then true else decide ((v.2.1.2 (↑k : Int).toNat).2.1 ≥ v.1)) && decide ((↑k : Int) > 0))),
  (AG ((!bif bif decide ((v.2.1.2 (↑k : Int).toNat).1 < 0) then true else decide ((v.2.1.2 (↑k : Int).toNat).1 ≥ (v.2.1.2 (↑k : Int).toNat).2.1) then true else decide ((v.2.1.2 (↑k : Int).toNat).2.1 ≥ v.1)) && decide ((↑k : Int) > 0))),
  ((((!bif bif decide ((v.2.1.2 (↑k : Int).toNat).1 < 0) then true else decide ((v.2.1.2 (↑k : Int).toNat).1 ≥ (v.2.1.2 (↑k : Int).toNat).2.1) then true else decide ((v.2.1.2 (↑k : Int).toNat).2.1 ≥ v.1)) && decide ((↑k : Int) > 0)) = true) → Con Try.prog 82 0 [] [.agg [.p (.int .i64 ((v.2.1.2 ((↑k : Int) - 1).toNat).1)), .p (.int .i64 ((v.2.1.2 ((↑k : Int) - 1).toNat).2.1))], .agg [.p (.int .i64 ((v.2.1.2 k).1)), .p (.int .i64 ((v.2.1.2 k).2.1))]] [] (.p (.int .i64 (cmpB (v.2.1.2 ((↑k : Int) - 1).toNat) (v.2.1.2 k))))),
  (AG ((!bif bif decide ((v.2.1.2 (↑k : Int).toNat).1 < 0) then true else decide ((v.2.1.2 (↑k : Int).toNat).1 ≥ (v.2.1.2 (↑k : Int).toNat).2.1) then true else decide ((v.2.1.2 (↑k : Int).toNat).2.1 ≥ v.1)) && decide ((↑k : Int) > 0))),
  (AG (!bif bif decide ((v.2.1.2 (↑k : Int).toNat).1 < 0) then true else decide ((v.2.1.2 (↑k : Int).toNat).1 ≥ (v.2.1.2 (↑k : Int).toNat).2.1) then true else decide ((v.2.1.2 (↑k : Int).toNat).2.1 ≥ v.1))),
  (((!bif bif decide ((v.2.1.2 (↑k : Int).toNat).1 < 0) then true else decide ((v.2.1.2 (↑k : Int).toNat).1 ≥ (v.2.1.2 (↑k : Int).toNat).2.1) then true else decide ((v.2.1.2 (↑k : Int).toNat).2.1 ≥ v.1)) = true) → (((decide ((↑k : Int) > 0)) = true) → (((!bif bif decide ((v.2.1.2 (↑k : Int).toNat).1 < 0) then true else decide ((v.2.1.2 (↑k : Int).toNat).1 ≥ (v.2.1.2 (↑k : Int).toNat).2.1) then true else decide ((v.2.1.2 (↑k : Int).toNat).2.1 ≥ v.1)) && decide ((↑k : Int) > 0)) = true))),
  (((bif bif decide ((v.2.1.2 (↑k : Int).toNat).1 < 0) then true else decide ((v.2.1.2 (↑k : Int).toNat).1 ≥ (v.2.1.2 (↑k : Int).toNat).2.1) then true else decide ((v.2.1.2 (↑k : Int).toNat).2.1 ≥ v.1)) = false) → ((!bif bif decide ((v.2.1.2 (↑k : Int).toNat).1 < 0) then true else decide ((v.2.1.2 (↑k : Int).toNat).1 ≥ (v.2.1.2 (↑k : Int).toNat).2.1) then true else decide ((v.2.1.2 (↑k : Int).toNat).2.1 ≥ v.1)) = true)),
  ((bif bif bif decide ((v.2.1.2 (↑k : Int).toNat).1 < 0) then true else decide ((v.2.1.2 (↑k : Int).toNat).1 ≥ (v.2.1.2 (↑k : Int).toNat).2.1) then true else decide ((v.2.1.2 (↑k : Int).toNat).2.1 ≥ v.1) then true else bif decide ((↑k : Int) > 0) then decide (cmpB (v.2.1.2 ((↑k : Int) - 1).toNat) (v.2.1.2 k) > 0) else false) = false),
  (((-9223372036854775808) : Int) ≤ ((↑k : Int) + 1)),
  ((((↑k : Int) + 1) : Int) ≤ 9223372036854775807),
  (AI v.1),
  (AN v.2.1.1),
  (AP v.2.1.1 (fun i => [.int .i64 ((v.2.1.2 i).1), .int .i64 ((v.2.1.2 i).2.1)])),
  (AN 0),
  (AN v.2.1.1),
  (AP v.2.1.1 (fun i => [.int .i64 ((v.2.1.2 i).1), .int .i64 ((v.2.1.2 i).2.1)])),
  (AI ((↑v.2.1.1 : Int))),
  ((((↑k : Int) + 1) : Int) = (↑(k + 1) : Int)),
  (AN 2),
  ((1 : Nat) ≤ 1),
  ((1 : Nat) ≤ 1),
  (AI v.1),
  (AN v.2.1.1),
  (AP v.2.1.1 (fun i => [.int .i64 ((v.2.1.2 i).1), .int .i64 ((v.2.1.2 i).2.1)]))]) := by kernel_rfl
theorem p51c (v : T_Graph) (k : Nat) :
    pathOb Try.prog Try.f77 0 [.reg [oT], .dec true, .reg [oT, oT, oT, oT, oT, oT], .reg [oT, oT, oT, oT, oT, oT, oT, oT, oT, oT, oT, oT, oT, oT, oT, oT, oT, oT, oT, oT, oT, oT, oT, oT, oT, oT, oT, oT, ⟨true, (some ⟨[], [], [], 1, [], .p (.int .i64 (cmpB (v.2.1.2 ((k : Int) - 1).toNat) (v.2.1.2 k)))⟩), none⟩, oT, oT, oT], .dec true, .reg [oT]] [.code (cAt (bodyOf Try.f77) [1, 1, 0, 1, 0, 0]), .inLoop (cAt (bodyOf Try.f77) [1, 1, 0, 1, 0, 0]), .inBlock 0, .code (cAt (bodyOf Try.f77) [1, 1, 1])] (S51 v k) [] 1 [] (.p (.bool false)) =
    some [((decide ((↑k : Int) < (↑v.2.1.1 : Int))) = true),
  ((0 : Int) ≤ (↑k : Int)),
  (((↑k : Int) : Int) < (↑v.2.1.1 : Int)),
  ((0 : Nat) < 1),
  ((true = true) → (AN 1)),
  ((0 : Nat) < 1),
  (AG (!decide ((v.2.1.2 (↑k : Int).toNat).1 < 0))),
  (((!decide ((v.2.1.2 (↑k : Int).toNat).1 < 0)) = true) → ((0 : Nat) < 1)),
  (AG (!decide ((v.2.1.2 (↑k : Int).toNat).1 < 0))),
  (((!decide ((v.2.1.2 (↑k : Int).toNat).1 < 0)) = true) → ((0 : Nat) < 1)),
  (AG (!decide ((v.2.1.2 (↑k : Int).toNat).1 < 0))),
  (AG (!decide ((v.2.1.2 (↑k : Int).toNat).1 < 0))),
  (((decide ((v.2.1.2 (↑k : Int).toNat).1 < 0)) = false) → ((!decide ((v.2.1.2 (↑k : Int).toNat).1 < 0)) = true)),
  (AG (!bif decide ((v.2.1.2 (↑k : Int).toNat).1 < 0) then true else decide ((v.2.1.2 (↑k : Int).toNat).1 ≥ (v.2.1.2 (↑k : Int).toNat).2.1))),
  (((!bif decide ((v.2.1.2 (↑k : Int).toNat).1 < 0) then true else decide ((v.2.1.2 (↑k : Int).toNat).1 ≥ (v.2.1.2 (↑k : Int).toNat).2.1)) = true) → ((0 : Nat) < 1)),
  (AG (!bif decide ((v.2.1.2 (↑k : Int).toNat).1 < 0) then true else decide ((v.2.1.2 (↑k : Int).toNat).1 ≥ (v.2.1.2 (↑k : Int).toNat).2.1))),
  (((!bif decide ((v.2.1.2 (↑k : Int).toNat).1 < 0) then true else decide ((v.2.1.2 (↑k : Int).toNat).1 ≥ (v.2.1.2 (↑k : Int).toNat).2.1)) = true) → ((0 : Nat) < 1)),
  (AG (!bif decide ((v.2.1.2 (↑k : Int).toNat).1 < 0) then true else decide ((v.2.1.2 (↑k : Int).toNat).1 ≥ (v.2.1.2 (↑k : Int).toNat).2.1))),
  (AG (!bif decide ((v.2.1.2 (↑k : Int).toNat).1 < 0) then true else decide ((v.2.1.2 (↑k : Int).toNat).1 ≥ (v.2.1.2 (↑k : Int).toNat).2.1))),
  (((bif decide ((v.2.1.2 (↑k : Int).toNat).1 < 0) then true else decide ((v.2.1.2 (↑k : Int).toNat).1 ≥ (v.2.1.2 (↑k : Int).toNat).2.1)) = false) → ((!bif decide ((v.2.1.2 (↑k : Int).toNat).1 < 0) then true else decide ((v.2.1.2 (↑k : Int).toNat).1 ≥ (v.2.1.2 (↑k : Int).toNat).2.1)) = true)),
  (AG (!bif bif decide ((v.2.1.2 (↑k : Int).toNat).1 < 0) then true else decide ((v.2.1.2 (↑k : Int).toNat).1 ≥ (v.2.1.2 (↑k : Int).toNat).2.1) then true else decide ((v.2.1.2 (↑k : Int).toNat).2.1 ≥ v.1))),
  (AG (!bif bif decide ((v.2.1.2 (↑k : Int).toNat).1 < 0) then true else decide ((v.2.1.2 (↑k : Int).toNat).1 ≥ (v.2.1.2 (↑k : Int).toNat).2.1) then true else decide ((v.2.1.2 (↑k : Int).toNat).2.1 ≥ v.1))),
  (AG ((!bif bif decide ((v.2.1.2 (↑k : Int).toNat).1 < 0) then true else decide ((v.2.1.2 (↑k : Int).toNat).1 ≥ (v.2.1.2 (↑k : Int).toNat).2.1) then true else decide ((v.2.1.2 (↑k : Int).toNat).2.1 ≥ v.1)) && decide ((↑k : Int) > 0))),
  ((((!bif bif decide ((v.2.1.2 (↑k : Int).toNat).1 < 0) then true else decide ((v.2.1.2 (↑k : Int).toNat).1 ≥ (v.2.1.2 (↑k : Int).toNat).2.1) then true else decide ((v.2.1.2 (↑k : Int).toNat).2.1 ≥ v.1)) && decide ((↑k : Int) > 0)) = true) → ((0 : Nat) < 1)),
  (AG ((!bif bif decide ((v.2.1.2 (↑k : Int).toNat).1 < 0) then true else decide ((v.2.1.2 (↑k : Int).toNat).1 ≥ (v.2.1.2 (↑k : Int).toNat).2.1) then true else decide ((v.2.1.2 (↑k : Int).toNat).2.1 ≥ v.1)) && decide ((↑k : Int) > 0))),
  ((((!bif bif decide ((v.2.1.2 (↑k : Int).toNat).1 < 0) then true else decide ((v.2.1.2 (↑k : Int).toNat).1 ≥ (v.2.1.2 (↑k : Int).toNat).2.1) then true else decide ((v.2.1.2 (↑k : Int).toNat).2.1 ≥ v.1)) && decide ((↑k : Int) > 0)) = true) → (((-9223372036854775808) : Int) ≤ ((↑k : Int) - 1))),
  ((((!bif bif decide ((v.2.1.2 (↑k : Int).toNat).1 < 0) then true else decide ((v.2.1.2 (↑k : Int).toNat).1 ≥ (v.2.1.2 (↑k : Int).toNat).2.1) then true else decide ((v.2.1.2 (↑k : Int).toNat).2.1 ≥ v.1)) && decide ((↑k : Int) > 0)) = true) → ((((↑k : Int) - 1) : Int) ≤ 9223372036854775807)),
  (AG ((!bif bif decide ((v.2.1.2 (↑k : Int).toNat).1 < 0) then true else decide ((v.2.1.2 (↑k : Int).toNat).1 ≥ (v.2.1.2 (↑k : Int).toNat).2.1) then true else decide ((v.2.1.2 (↑k : Int).toNat).2.1 ≥ v.1)) && decide ((↑k : Int) > 0))),
  (AG ((!bif bif decide ((v.2.1.2 (↑k : Int).toNat).1 < 0) then true else decide ((v.2.1.2 (↑k : Int).toNat).1 ≥ (v.2.1.2 (↑k : Int).toNat).2.1) then true else decide ((v.2.1.2 (↑k : Int).toNat).2.1 ≥ v.1)) && decide ((↑k : Int) > 0))),
  ((((!bif bif decide ((v.2.1.2 (↑k : Int).toNat).1 < 0) then true else decide ((v.2.1.2 (↑k : Int).toNat).1 ≥ (v.2.1.2 (↑k : Int).toNat).2.1) then true else decide ((v.2.1.2 (↑k : Int).toNat).2.1 ≥ v.1)) && decide ((↑k : Int) > 0)) = true) → ((0 : Int) ≤ ((↑k : Int) - 1))),
  ((((!bif bif decide ((v.2.1.2 (↑k : Int).toNat).1 < 0) then true else decide ((v.2.1.2 (↑k : Int).toNat).1 ≥ (v.2.1.2 (↑k : Int).toNat).2.1) then true else decide ((v.2.1.2 (↑k : Int).toNat).2.1 ≥ v.1)) && decide ((↑k : Int) > 0)) = true) → ((((↑k : Int) - 1) : Int) < (↑v.2.1.1 : Int))),
  (AG ((!bif bif decide ((v.2.1.2 (↑k : Int).toNat).1 < 0) then true else decide ((v.2.1.2 (↑k : Int).toNat).1 ≥ (v.2.1.2 (↑k : Int).toNat).2.1) then true else decide ((v.2.1.2 (↑k : Int).toNat).2.1 ≥ v.1)) && decide ((↑k : Int) > 0))),
  ((((!bif bif decide ((v.2.1.2 (↑k : Int).toNat).1 < 0) then true else decide ((v.2.1.2 (↑k : Int).toNat).1 ≥ (v.2.1.2 (↑k : Int).toNat).2.1) then true else decide ((v.2.1.2 (↑k : Int).toNat).2.1 ≥ v.1)) && decide ((↑k : Int) > 0)) = true) → ((0 : Nat) < 1)),
  (AG ((!bif bif decide ((v.2.1.2 (↑k : Int).toNat).1 < 0) then true else decide ((v.2.1.2 (↑k : Int).toNat).1 ≥ (v.2.1.2 (↑k : Int).toNat).2.1) then true else decide ((v.2.1.2 (↑k : Int).toNat).2.1 ≥ v.1)) && decide ((↑k : Int) > 0))),
  (AG ((!bif bif decide ((v.2.1.2 (↑k : Int).toNat).1 < 0) then true else decide ((v.2.1.2 (↑k : Int).toNat).1 ≥ (v.2.1.2 (↑k : Int).toNat).2.1) then true else decide ((v.2.1.2 (↑k : Int).toNat).2.1 ≥ v.1)) && decide ((↑k : Int) > 0))),
  ((((!bif bif decide ((v.2.1.2 (↑k : Int).toNat).1 < 0) then true else decide ((v.2.1.2 (↑k : Int).toNat).1 ≥ (v.2.1.2 (↑k : Int).toNat).2.1) then true else decide ((v.2.1.2 (↑k : Int).toNat).2.1 ≥ v.1)) && decide ((↑k : Int) > 0)) = true) → Con Try.prog 82 0 [] [.agg [.p (.int .i64 ((v.2.1.2 ((↑k : Int) - 1).toNat).1)), .p (.int .i64 ((v.2.1.2 ((↑k : Int) - 1).toNat).2.1))], .agg [.p (.int .i64 ((v.2.1.2 k).1)), .p (.int .i64 ((v.2.1.2 k).2.1))]] [] (.p (.int .i64 (cmpB (v.2.1.2 ((↑k : Int) - 1).toNat) (v.2.1.2 k))))),
  (AG ((!bif bif decide ((v.2.1.2 (↑k : Int).toNat).1 < 0) then true else decide ((v.2.1.2 (↑k : Int).toNat).1 ≥ (v.2.1.2 (↑k : Int).toNat).2.1) then true else decide ((v.2.1.2 (↑k : Int).toNat).2.1 ≥ v.1)) && decide ((↑k : Int) > 0))),
  (AG (!bif bif decide ((v.2.1.2 (↑k : Int).toNat).1 < 0) then true else decide ((v.2.1.2 (↑k : Int).toNat).1 ≥ (v.2.1.2 (↑k : Int).toNat).2.1) then true else decide ((v.2.1.2 (↑k : Int).toNat).2.1 ≥ v.1))),
  (((!bif bif decide ((v.2.1.2 (↑k : Int).toNat).1 < 0) then true else decide ((v.2.1.2 (↑k : Int).toNat).1 ≥ (v.2.1.2 (↑k : Int).toNat).2.1) then true else decide ((v.2.1.2 (↑k : Int).toNat).2.1 ≥ v.1)) = true) → (((decide ((↑k : Int) > 0)) = true) → (((!bif bif decide ((v.2.1.2 (↑k : Int).toNat).1 < 0) then true else decide ((v.2.1.2 (↑k : Int).toNat).1 ≥ (v.2.1.2 (↑k : Int).toNat).2.1) then true else decide ((v.2.1.2 (↑k : Int).toNat).2.1 ≥ v.1)) && decide ((↑k : Int) > 0)) = true))),
  (((bif bif decide ((v.2.1.2 (↑k : Int).toNat).1 < 0) then true else decide ((v.2.1.2 (↑k : Int).toNat).1 ≥ (v.2.1.2 (↑k : Int).toNat).2.1) then true else decide ((v.2.1.2 (↑k : Int).toNat).2.1 ≥ v.1)) = false) → ((!bif bif decide ((v.2.1.2 (↑k : Int).toNat).1 < 0) then true else decide ((v.2.1.2 (↑k : Int).toNat).1 ≥ (v.2.1.2 (↑k : Int).toNat).2.1) then true else decide ((v.2.1.2 (↑k : Int).toNat).2.1 ≥ v.1)) = true)),
  ((bif bif bif decide ((v.2.1.2 (↑k : Int).toNat).1 < 0) then true else decide ((v.2.1.2 (↑k : Int).toNat).1 ≥ (v.2.1.2 (↑k : Int).toNat).2.1) then true else decide ((v.2.1.2 (↑k : Int).toNat).2.1 ≥ v.1) then true else bif decide ((↑k : Int) > 0) then decide (cmpB (v.2.1.2 ((↑k : Int) - 1).toNat) (v.2.1.2 k) > 0) else false) = true),
  (false = false)] := by kernel_rfl
theorem p51d (v : T_Graph) (k : Nat) :
    pathOb Try.prog Try.f77 0 [.reg [oT], .dec false, .reg [oT]] [.code (cAt (bodyOf Try.f77) [1, 1, 0, 1, 0, 0]), .inLoop (cAt (bodyOf Try.f77) [1, 1, 0, 1, 0, 0]), .inBlock 0, .code (cAt (bodyOf Try.f77) [1, 1, 1])] (S51 v k) [] 1 [] (.p (.bool true)) =
    some [((decide ((↑k : Int) < (↑v.2.1.1 : Int))) = false),
  (true = true)] := by kernel_rfl
theorem con_l2After (a b : T_Bar) : Con Try.prog 113 0 [] [barA a, barA b] [] (.p (.bool (aft a b))) := by
  refine con_start Try.func113 rfl (by kernel_rfl) rfl (fun c hc => ?_)
  refine path_ok mixed Try.func113 hc (p57 a b) ?_
  simp only [All]
  repeat' (first | exact trivial | with_reducible apply And.intro)
  all_goals (first | exact aG _ | exact aP _ _ | exact aA _ _ | exact aE _ | omega | rfl | (intros; first | assumption | exact True.intro | rfl | exact absurd (show false = true by assumption) Bool.false_ne_true | ((repeat' (first | assumption | apply anda | apply notf)); done)))
theorem con_compareInts (x y : Int) : Con Try.prog 117 0 [] [.p (.int .i64 x), .p (.int .i64 y)] [] (.p (.int .i64 (cmpI x y))) := by
  refine con_start Try.func117 rfl (by kernel_rfl) rfl (fun c hc => ?_)
  by_cases h1 : x < y
  · rw [show cmpI x y = -1 by simp [cmpI, h1]]
    refine path_ok mixed Try.func117 hc (p62a x y) ?_
    simp only [All]
    repeat' (first | exact trivial | with_reducible apply And.intro)
    all_goals (first | exact aG _ | exact aP _ _ | exact aA _ _ | exact aE _ | omega | rfl | (intros; first | assumption | exact True.intro | rfl | exact absurd (show false = true by assumption) Bool.false_ne_true | ((repeat' (first | assumption | apply anda | apply notf)); done)) | (simp; omega))
  · by_cases h2 : x > y
    · rw [show cmpI x y = 1 by simp only [cmpI, h1, h2, if_true, if_false]]
      refine path_ok mixed Try.func117 hc (p62b x y) ?_
      simp only [All]
      repeat' (first | exact trivial | with_reducible apply And.intro)
      all_goals (first | exact aG _ | exact aP _ _ | exact aA _ _ | exact aE _ | omega | rfl | (intros; first | assumption | exact True.intro | rfl | exact absurd (show false = true by assumption) Bool.false_ne_true | ((repeat' (first | assumption | apply anda | apply notf)); done)) | (simp; omega))
    · rw [show cmpI x y = 0 by simp only [cmpI, h1, h2, if_false]]
      refine path_ok mixed Try.func117 hc (p62c x y) ?_
      simp only [All]
      repeat' (first | exact trivial | with_reducible apply And.intro)
      all_goals (first | exact aG _ | exact aP _ _ | exact aA _ _ | exact aE _ | omega | rfl | (intros; first | assumption | exact True.intro | rfl | exact absurd (show false = true by assumption) Bool.false_ne_true | ((repeat' (first | assumption | apply anda | apply notf)); done)) | (simp; omega))
theorem con_compareBars (a b : T_Bar) : Con Try.prog 82 0 [] [barA a, barA b] [] (.p (.int .i64 (cmpB a b))) := by
  refine con_start Try.func82 rfl (by kernel_rfl) rfl (fun c hc => ?_)
  by_cases h1 : cmpI a.1 b.1 = 0
  · rw [show cmpB a b = cmpI a.2.1 b.2.1 by simp [cmpB, h1]]
    refine path_ok mixed Try.func82 hc (p59b a b) ?_
    simp only [All]
    repeat' (first | exact trivial | with_reducible apply And.intro)
    all_goals (first | exact aG _ | exact aP _ _ | exact aA _ _ | exact aE _ | omega | rfl | (intros; first | assumption | exact True.intro | rfl | exact absurd (show false = true by assumption) Bool.false_ne_true | ((repeat' (first | assumption | apply anda | apply notf)); done)) | (exact con_compareInts _ _) | (simp [h1]))
  · rw [show cmpB a b = cmpI a.1 b.1 by simp [cmpB, h1]]
    refine path_ok mixed Try.func82 hc (p59a a b) ?_
    simp only [All]
    repeat' (first | exact trivial | with_reducible apply And.intro)
    all_goals (first | exact aG _ | exact aP _ _ | exact aA _ _ | exact aE _ | omega | rfl | (intros; first | assumption | exact True.intro | rfl | exact absurd (show false = true by assumption) Bool.false_ne_true | ((repeat' (first | assumption | apply anda | apply notf)); done)) | (exact con_compareInts _ _) | (simp [h1]))
theorem cmpB_gt (a b : T_Bar) : decide (cmpB a b > 0) = !aft a b := by
  simp only [cmpB, cmpI, aft]
  by_cases h1 : a.1 < b.1
  · simp [h1]
  · by_cases h2 : a.1 > b.1
    · have h3 : ¬ a.1 = b.1 := by omega
      simp [h1, h2, h3]
    · have h3 : a.1 = b.1 := by omega
      simp only [h1, h2, h3, if_true, if_false]
      by_cases h4 : a.2.1 < b.2.1
      · have : a.2.1 ≤ b.2.1 := by omega
        simp [h4, this]
      · by_cases h5 : a.2.1 > b.2.1
        · have : ¬ a.2.1 ≤ b.2.1 := by omega
          simp [h4, h5, this]
        · have : a.2.1 ≤ b.2.1 := by omega
          simp [h4, h5, this]
theorem goodB_bad (N : Int) (g : Nat → T_Bar) (k : Nat) (h : badB N g k = true) : ∀ n, k < n → goodB N g n = false
  | 0, h' => by omega
  | n + 1, h' => by
    by_cases e : k = n
    · subst e; simp [goodB, h]
    · simp [goodB, goodB_bad N g k h n (by omega)]
theorem idx_lt {b : Bool} {k n : Nat} (h : (b && decide ((k : Int) > 0)) = true) (hk : k < n) : 0 ≤ (k : Int) - 1 ∧ (k : Int) - 1 < n ∧ -9223372036854775808 ≤ (k : Int) - 1 ∧ (k : Int) - 1 ≤ n := by
  simp at h
  omega
theorem con_IsGraph_s (v : T_Graph) (hs : smS s_Graph v) : Con Try.prog 73 0 [] [graphA v] [] (.p (.bool (isGraphF v))) := by
  refine con_start Try.func73 rfl (by kernel_rfl) rfl (fun c hc => ?_)
  have hn : v.2.1.1 ≤ 1048576 := hs.2.1.1
  by_cases hz : inB v.1 1 8 = true ∧ v.2.1.1 ≤ 24
  · rw [show isGraphF v = goodB v.1 v.2.1.2 v.2.1.1 by rw [isGraphF, if_pos hz]]
    have lp : ∀ m k, k + m = v.2.1.1 → goodB v.1 v.2.1.2 k = true → Run Try.prog c 73 [.code (cAt (bodyOf Try.f73) [1, 1, 0, 1, 0, 0]), .inLoop (cAt (bodyOf Try.f73) [1, 1, 0, 1, 0, 0]), .inBlock 0, .code (cAt (bodyOf Try.f73) [1, 1, 1])] (S48 v k) (Post c [] (.p (.bool (goodB v.1 v.2.1.2 v.2.1.1)))) := by
      intro m
      induction m with
      | zero =>
        intro k hk hg
        rw [show goodB v.1 v.2.1.2 v.2.1.1 = true by rw [show v.2.1.1 = k by omega]; exact hg]
        have hd : decide ((k : Int) < (v.2.1.1 : Int)) = false := by simp; omega
        refine path_ok mixed Try.func73 hc (p48d v k) ?_
        simp only [All]
        repeat' (first | exact trivial | with_reducible apply And.intro)
        all_goals (first | exact aG _ | exact aP _ _ | exact aA _ _ | exact aE _ | omega | rfl | (intros; first | assumption | exact True.intro | rfl | exact absurd (show false = true by assumption) Bool.false_ne_true | ((repeat' (first | assumption | apply anda | apply notf)); done)))
      | succ m ih =>
        intro k hk hg
        have hd : decide ((k : Int) < (v.2.1.1 : Int)) = true := by simp; omega
        have hkn : k < v.2.1.1 := by omega
        cases he : badB v.1 v.2.1.2 k with
        | true =>
          rw [goodB_bad _ _ k he v.2.1.1 (by omega)]
          refine path_ok mixed Try.func73 hc (p48c v k) ?_
          simp only [All]
          repeat' (first | exact trivial | with_reducible apply And.intro)
          all_goals (first | exact aG _ | exact aP _ _ | exact aA _ _ | exact aE _ | omega | rfl | (intros; first | assumption | exact True.intro | rfl | exact absurd (show false = true by assumption) Bool.false_ne_true | ((repeat' (first | assumption | apply anda | apply notf)); done)) | (intros; exact con_l2After _ _) | (exact he) | (intro h; have := idx_lt h hkn; omega))
        | false =>
          refine piece_ok mixed hc (p48b v k) ?_ (ih (k + 1) (by omega) (by simp [goodB, hg, he]))
          simp only [All]
          repeat' (first | exact trivial | with_reducible apply And.intro)
          all_goals (first | exact aG _ | exact aP _ _ | exact aA _ _ | exact aE _ | omega | rfl | (intros; first | assumption | exact True.intro | rfl | exact absurd (show false = true by assumption) Bool.false_ne_true | ((repeat' (first | assumption | apply anda | apply notf)); done)) | (intros; exact con_l2After _ _) | (exact he) | (intro h; have := idx_lt h hkn; omega) | (simp [All]))
    refine piece_ok mixed hc (p48a v) ?_ (lp v.2.1.1 0 (by omega) rfl)
    simp only [All]
    repeat' (first | exact trivial | with_reducible apply And.intro)
    all_goals (first | exact aG _ | exact aP _ _ | exact aA _ _ | exact aE _ | omega | rfl | (intros; first | assumption | exact True.intro | rfl | exact absurd (show false = true by assumption) Bool.false_ne_true | ((repeat' (first | assumption | apply anda | apply notf)); done)) | (exact con_l1In _ _ _) | (simp [hz.1]; omega) | (simp [All]))
  · rw [show isGraphF v = false by rw [isGraphF, if_neg hz]]
    have hb : (bif !inB v.1 1 8 then true else decide ((v.2.1.1 : Int) > 24)) = true := by
      cases hi : inB v.1 1 8 with
      | false => rfl
      | true =>
        have : ¬ v.2.1.1 ≤ 24 := fun h => hz ⟨hi, h⟩
        simp; omega
    refine path_ok mixed Try.func73 hc (p48z v) ?_
    simp only [All]
    repeat' (first | exact trivial | with_reducible apply And.intro)
    all_goals (first | exact aG _ | exact aP _ _ | exact aA _ _ | exact aE _ | omega | rfl | (intros; first | assumption | exact True.intro | rfl | exact absurd (show false = true by assumption) Bool.false_ne_true | ((repeat' (first | assumption | apply anda | apply notf)); done)) | (exact con_l1In _ _ _))
theorem con_IsGraph_i (v : T_Graph) (hs : smS s_Graph v) : Con Try.prog 77 0 [] [graphA v] [] (.p (.bool (isGraphF v))) := by
  refine con_start Try.func77 rfl (by kernel_rfl) rfl (fun c hc => ?_)
  have hn : v.2.1.1 ≤ 1048576 := hs.2.1.1
  by_cases hz : inB v.1 1 8 = true ∧ v.2.1.1 ≤ 24
  · rw [show isGraphF v = goodB v.1 v.2.1.2 v.2.1.1 by rw [isGraphF, if_pos hz]]
    have lp : ∀ m k, k + m = v.2.1.1 → goodB v.1 v.2.1.2 k = true → Run Try.prog c 77 [.code (cAt (bodyOf Try.f77) [1, 1, 0, 1, 0, 0]), .inLoop (cAt (bodyOf Try.f77) [1, 1, 0, 1, 0, 0]), .inBlock 0, .code (cAt (bodyOf Try.f77) [1, 1, 1])] (S51 v k) (Post c [] (.p (.bool (goodB v.1 v.2.1.2 v.2.1.1)))) := by
      intro m
      induction m with
      | zero =>
        intro k hk hg
        rw [show goodB v.1 v.2.1.2 v.2.1.1 = true by rw [show v.2.1.1 = k by omega]; exact hg]
        have hd : decide ((k : Int) < (v.2.1.1 : Int)) = false := by simp; omega
        refine path_ok mixed Try.func77 hc (p51d v k) ?_
        simp only [All]
        repeat' (first | exact trivial | with_reducible apply And.intro)
        all_goals (first | exact aG _ | exact aP _ _ | exact aA _ _ | exact aE _ | omega | rfl | (intros; first | assumption | exact True.intro | rfl | exact absurd (show false = true by assumption) Bool.false_ne_true | ((repeat' (first | assumption | apply anda | apply notf)); done)))
      | succ m ih =>
        intro k hk hg
        have hd : decide ((k : Int) < (v.2.1.1 : Int)) = true := by simp; omega
        have hkn : k < v.2.1.1 := by omega
        cases he : badB v.1 v.2.1.2 k with
        | true =>
          rw [goodB_bad _ _ k he v.2.1.1 (by omega)]
          have he2 := he
          rw [badB, ← cmpB_gt] at he2
          refine path_ok mixed Try.func77 hc (p51c v k) ?_
          simp only [All]
          repeat' (first | exact trivial | with_reducible apply And.intro)
          all_goals (first | exact aG _ | exact aP _ _ | exact aA _ _ | exact aE _ | omega | rfl | (intros; first | assumption | exact True.intro | rfl | exact absurd (show false = true by assumption) Bool.false_ne_true | ((repeat' (first | assumption | apply anda | apply notf)); done)) | (intros; exact con_compareBars _ _) | (exact he2) | (intro h; have := idx_lt h hkn; omega))
        | false =>
          have he2 := he
          rw [badB, ← cmpB_gt] at he2
          refine piece_ok mixed hc (p51b v k) ?_ (ih (k + 1) (by omega) (by simp [goodB, hg, he]))
          simp only [All]
          repeat' (first | exact trivial | with_reducible apply And.intro)
          all_goals (first | exact aG _ | exact aP _ _ | exact aA _ _ | exact aE _ | omega | rfl | (intros; first | assumption | exact True.intro | rfl | exact absurd (show false = true by assumption) Bool.false_ne_true | ((repeat' (first | assumption | apply anda | apply notf)); done)) | (intros; exact con_compareBars _ _) | (exact he2) | (intro h; have := idx_lt h hkn; omega) | (simp [All]))
    refine piece_ok mixed hc (p51a v) ?_ (lp v.2.1.1 0 (by omega) rfl)
    simp only [All]
    repeat' (first | exact trivial | with_reducible apply And.intro)
    all_goals (first | exact aG _ | exact aP _ _ | exact aA _ _ | exact aE _ | omega | rfl | (intros; first | assumption | exact True.intro | rfl | exact absurd (show false = true by assumption) Bool.false_ne_true | ((repeat' (first | assumption | apply anda | apply notf)); done)) | (exact con_within _ _ _) | (simp [hz.1]; omega) | (simp [All]))
  · rw [show isGraphF v = false by rw [isGraphF, if_neg hz]]
    have hb : (bif !inB v.1 1 8 then true else decide ((v.2.1.1 : Int) > 24)) = true := by
      cases hi : inB v.1 1 8 with
      | false => rfl
      | true =>
        have : ¬ v.2.1.1 ≤ 24 := fun h => hz ⟨hi, h⟩
        simp; omega
    refine path_ok mixed Try.func77 hc (p51z v) ?_
    simp only [All]
    repeat' (first | exact trivial | with_reducible apply And.intro)
    all_goals (first | exact aG _ | exact aP _ _ | exact aA _ _ | exact aE _ | omega | rfl | (intros; first | assumption | exact True.intro | rfl | exact absurd (show false = true by assumption) Bool.false_ne_true | ((repeat' (first | assumption | apply anda | apply notf)); done)) | (exact con_within _ _ _))
end Go.Proofs.Ytgdbnnmogddkaaa.Mach
namespace Go.Proofs
open Go Go.Shelf Go.RowKit Go.Lib Go.Sort
set_option linter.unusedVariables false
set_option linter.unusedSimpArgs false
shelf_lay_g SlLaysF0.n6 Slsf 6 at Try 109 as Try.sortBar
end Go.Proofs
namespace Go.Proofs.Ytgdbnnmogddkaaa.Mach
open Go Go.Shelf Go.RowKit Go.Lib Go.Sort
set_option linter.unusedVariables false
set_option linter.unusedSimpArgs false
def encB (x : T_Bar) : List Value := [.int .i64 x.1, .int .i64 x.2.1]
theorem cmpI_1 {x y : Int} (h : x < y) : cmpI x y = -1 := by simp [cmpI, h]
theorem cmpI_2 {x y : Int} (h : y < x) : cmpI x y = 1 := by
  have h3 : ¬ x < y := by omega
  simp [cmpI, h3, h]
theorem cmpI_3 {x y : Int} (h : ¬ x < y) (h' : ¬ y < x) : cmpI x y = 0 := by simp [cmpI, h, h']
theorem cmp_int (x y : Int) (W : World) : Calls Try.prog 117 #[.int .i64 x, .int .i64 y] W fun e w' => e = .returned (.int .i64 (cmpI x y)) ∧ w' = W := by
  go_enter Try.func117, Try.ntmps117
  by_cases h1 : x < y
  · have hc := cmpI_1 h1
    go_wp2
    go_ret
    exact ⟨by first | rfl | (rw [hc]; rfl), rfl⟩
  · by_cases h2 : y < x
    · have hc := cmpI_2 h2
      go_wp2
      go_ret
      exact ⟨by first | rfl | (rw [hc]; rfl), rfl⟩
    · have hc := cmpI_3 h1 h2
      go_wp2
      go_ret
      exact ⟨by first | rfl | (rw [hc]; rfl), rfl⟩
set_option maxRecDepth 10000 in
set_option maxHeartbeats 1000000 in
theorem cmp_bars4 (a b c d : Int) (W : World) : Calls Try.prog 82 #[.agg #[.int .i64 a, .int .i64 b], .agg #[.int .i64 c, .int .i64 d]] W fun e w' => e = .returned (.int .i64 (if cmpI a c = 0 then cmpI b d else cmpI a c)) ∧ ∃ q os', w' = grow (W.drewN q) os' := by
  have c1 := fun W' => cmp_int a c W'
  have c2 := fun W' => cmp_int b d W'
  generalize cmpI a c = r1 at c1 ⊢
  generalize cmpI b d = r2 at c2 ⊢
  by_cases h : r1 = 0
  · have h9 : (if r1 = 0 then r2 else r1) = r2 := if_pos h
    have c1' : ∀ W' : World, Calls Try.prog 117 #[.int .i64 a, .int .i64 c] W' fun e w' => e = .returned (.int .i64 0) ∧ w' = W' := by rw [← h]; exact c1
    rw [h9]
    clear c1 h9 h
    go_enter Try.func82, Try.ntmps82
    go_wp2_with fail
    go_at_call 117
    refine (c1' _).mono ?_
    rintro e w' ⟨rfl, rfl⟩
    go_wp2_with fail
    go_at_call 117
    refine (c2 _).mono ?_
    rintro e w' ⟨rfl, rfl⟩
    go_wp2
    go_ret
    exact ⟨rfl, 0, _, by rw [alloc_eq_grow, alloc_eq_grow, grow_grow]; rfl⟩
  · have h9 : (if r1 = 0 then r2 else r1) = r1 := if_neg h
    rw [h9]
    clear h9
    go_enter Try.func82, Try.ntmps82
    clear c2
    go_wp2_with fail
    go_at_call 117
    refine (c1 _).mono ?_
    rintro e w' ⟨rfl, rfl⟩
    go_wp2
    go_ret
    exact ⟨rfl, 0, _, by rw [alloc_eq_grow, alloc_eq_grow, grow_grow]; rfl⟩
theorem cmp_bars (x y : T_Bar) (W : World) : Calls Try.prog 82 #[.agg #[.int .i64 x.1, .int .i64 x.2.1], .agg #[.int .i64 y.1, .int .i64 y.2.1]] W fun e w' => e = .returned (.int .i64 (cmpB x y)) ∧ ∃ q os', w' = grow (W.drewN q) os' :=
  cmp_bars4 x.1 x.2.1 y.1 y.2.1 W
end Go.Proofs.Ytgdbnnmogddkaaa.Mach
namespace Go.Proofs.Ytgdbnnmogddkaaa.Mach
open Go Go.Shelf Go.RowKit Go.Sort
set_option linter.unusedVariables false
set_option linter.unusedSimpArgs false
def sW (w : World) (b base q : Nat) (F : Array Value) (os : Array Obj) : World := grow (putRow id (Sort.ahead w q) b base F) os
theorem sW_at {w : World} {b base q : Nat} {F : Array Value} {os : Array Obj} {cells : Array Value} {el : TypeId} {fr : Nat × Nat} (hb : w.heap[b]? = some (.cells cells el fr)) :
    (sW w b base q F os).heap[b]? = some (.cells (putCells id base F cells) el fr) := by
  have hlt : b < w.heap.size := by
    rcases Nat.lt_or_ge b w.heap.size with h | h
    · exact h
    · rw [Array.getElem?_eq_none h] at hb; cases hb
  rw [sW, heap_grow_old _ _ (by rw [size_putRow]; exact hlt)]
  simp only [putRow, mapBlock, heap_ahead, Array.getElem?_modify, if_true, hb, Option.map_some, onCells]
theorem sW_ne {w : World} {b base q c : Nat} {F : Array Value} {os : Array Obj} (hne : c ≠ b) (hlt : c < w.heap.size) :
    (sW w b base q F os).heap[c]? = w.heap[c]? := by
  rw [sW, heap_grow_old _ _ (by rw [size_putRow]; exact hlt)]
  simp only [putRow, mapBlock, heap_ahead, Array.getElem?_modify, if_neg (Ne.symm hne)]
theorem putCells_size (base : Nat) (F cells : Array Value) : (putCells id base F cells).size = cells.size := by simp [putCells]
theorem putCells_in (base : Nat) (F cells : Array Value) (t : Nat) (h : t < F.size) (hs : base + t < cells.size) : (putCells id base F cells)[base + t]? = some F[t]! := by
  simp only [putCells, Array.getElem?_mapIdx, Array.getElem?_eq_getElem hs, Option.map_some, id]
  rw [if_pos ⟨by omega, by omega⟩, show base + t - base = t by omega]
theorem own_one (β : Nat → Option Addr) (ob : Ob) (b : Nat) : ownOf β [(0, ob)] b ↔ ∃ a, β 0 = some a ∧ a.block = b := by
  constructor
  · rintro ⟨o, ob', a, h1, h2, h3⟩
    have : o = 0 := by
      simp only [List.lookup] at h1
      split at h1
      · rename_i h; simpa using h
      · cases h1
    subst this
    exact ⟨a, h2, h3⟩
  · rintro ⟨a, h1, h2⟩
    exact ⟨0, ob, a, rfl, h1, h2⟩
theorem ow_one (X : Nat → Prop) (β : Nat → Option Addr) (ob ob' : Ob) : ow X β [(0, ob)] = ow X β [(0, ob')] := by
  funext t b
  simp only [ow, own_one]
theorem look_one {ob ob' : Ob} {o : Nat} (h : List.lookup o [(0, ob)] = some ob') : o = 0 ∧ ob' = ob := by
  simp only [List.lookup] at h
  split at h
  · rename_i h1
    exact ⟨by simpa using h1, by simpa using h.symm⟩
  · cases h
theorem sW_post {w : World} {β : Nat → Option Addr} {X : Nat → Prop} {z n : Nat} {fo f' : Nat → List AV} {b base q : Nat} {F : Array Value} {os : Array Obj} {cells : Array Value} {el : TypeId} {res : AV} {v : Value}
    (hβ : β 0 = some ⟨b, base, none⟩) (hh : w.heap[b]? = some (.cells cells el (0, 0)))
    (hS : Sep β [(0, ⟨false, z, n, fo⟩)])
    (hsz : base + n * z ≤ cells.size) (hF : F.size = n * z)
    (hrow : ∀ i, i < n → ∀ j, j < z → One (F[i * z + j]!) ∧ ∀ (w : World) (own : Bool → Nat → Prop), VR w β own ((f' i).getD j anyA) (F[i * z + j]!))
    (hv : ∀ own : Bool → Nat → Prop, VR (sW w b base q F os) β own res v) :
    ∃ v' β', Ending.returned v = .returned v' ∧ HR (sW w b base q F os) β' (fr X β' [(0, ⟨false, z, n, f'⟩)]) [(0, ⟨false, z, n, f'⟩)] ∧ Sep β' [(0, ⟨false, z, n, f'⟩)] ∧
      VR (sW w b base q F os) β' (fr X β' [(0, ⟨false, z, n, f'⟩)]) res v' ∧ Ext w (ow X β [(0, ⟨false, z, n, fo⟩)]) (sW w b base q F os) (ow X β' [(0, ⟨false, z, n, f'⟩)]) ∧
      (∀ o a, β o = some a → β' o = some a) ∧ (∀ b, ownOf β' [(0, ⟨false, z, n, f'⟩)] b → ownOf β [(0, ⟨false, z, n, fo⟩)] b ∨ w.heap.size ≤ b) ∧ ∀ k, β' k ≠ none → β k ≠ none ∨ (1 ≤ k ∧ k < 1 + 32) := by
  have hown : ownOf β [(0, ⟨false, z, n, fo⟩)] b := (own_one _ _ _).2 ⟨_, hβ, rfl⟩
  refine ⟨v, β, rfl, ?_, ?_, hv _, ?_, fun o a h => h, fun b' h => .inl ?_, fun k h => .inl h⟩
  · intro o ob hl
    obtain ⟨rfl, rfl⟩ := look_one hl
    refine .inr (.inl ⟨b, base, _, el, hβ, sW_at hh, ?_⟩)
    intro i hi j hj
    change i < n at hi
    change j < z at hj
    show ∃ v, (putCells id base F cells)[base + (i * z + j)]? = some v ∧ One v ∧ _
    have hlt : i * z + j < n * z := by
      have h1 := Nat.mul_le_mul_right z (show i + 1 ≤ n from hi)
      rw [Nat.add_mul, Nat.one_mul] at h1
      have h2 : j < z := hj
      omega
    exact ⟨F[i * z + j]!, putCells_in base F cells _ (by omega) (by omega), (hrow i hi j hj).1, (hrow i hi j hj).2 _ _⟩
  · intro o o' ob ob' a a' h1 h2 h3 h4 h5
    obtain ⟨rfl, rfl⟩ := look_one h1
    obtain ⟨rfl, rfl⟩ := look_one h2
    rfl
  · rw [ow_one X β ⟨false, z, n, f'⟩ ⟨false, z, n, fo⟩]
    refine ⟨rfl, rfl, rfl, by rw [sW, size_grow, size_putRow]; exact Nat.le_add_right _ _, fun t c hc hn => ?_, fun t c hc h => h, fun c cs e f h => ?_, fun c es ck h => ?_⟩
    · refine sW_ne (fun h => hn ?_) hc
      subst h
      exact .inl hown
    · by_cases hcb : c = b
      · subst hcb
        rw [hh] at h
        injection h with h
        injection h with h1 h2 h3
        subst h1
        exact ⟨_, _, _, sW_at hh, by rw [putCells_size]; exact Nat.le_refl _⟩
      · have hlt : c < w.heap.size := by
          rcases Nat.lt_or_ge c w.heap.size with h' | h'
          · exact h'
          · rw [Array.getElem?_eq_none h'] at h; cases h
        exact ⟨cs, e, f, by rw [sW_ne hcb hlt]; exact h, Nat.le_refl _⟩
    · by_cases hcb : c = b
      · subst hcb
        rw [hh] at h
        cases h
      · have hlt : c < w.heap.size := by
          rcases Nat.lt_or_ge c w.heap.size with h' | h'
          · exact h'
          · rw [Array.getElem?_eq_none h'] at h; cases h
        exact ⟨es, ck, by rw [sW_ne hcb hlt]; exact h⟩
  · rw [own_one] at h ⊢; exact h
theorem vr_int {w : World} {β : Nat → Option Addr} {own : Bool → Nat → Prop} {k : IntKind} {x : Int} {v : Value} (h : VR w β own (.p (.int k x)) v) : v = .int k x := by
  cases h with
  | p _ _ hp => cases hp; rfl
end Go.Proofs.Ytgdbnnmogddkaaa.Mach
namespace Go.Proofs.Ytgdbnnmogddkaaa.Mat
set_option linter.unusedVariables false
def inn (R : Nat → Bool) (x : Nat × Nat) : Bool := R x.1 && R x.2
def cnt (R : Nat → Bool) : List (Nat × Nat) → Nat
  | [] => 0
  | x :: l => (inn R x).toNat + cnt R l
def GoodBar (N : Nat) (x : Nat × Nat) : Prop := x.1 ≠ x.2 ∧ x.1 < N ∧ x.2 < N
abbrev PB := Nat × (Nat × Nat)
def tc (v : Nat) : List PB → Nat
  | [] => 0
  | p :: l => (p.1 == v).toNat + tc v l
structure Game (N k l : Nat) (free : Nat → Nat) (P : List PB) : Prop where
  ends : ∀ p ∈ P, p.1 = p.2.1 ∨ p.1 = p.2.2
  good : ∀ p ∈ P, GoodBar N p.2
  sum : ∀ v, v < N → free v + tc v P = k
theorem Game.lt {N k l : Nat} {free : Nat → Nat} {P : List PB} (h : Game N k l free P) : ∀ p ∈ P, p.1 < N := by
  intro p hp
  have := h.good p hp
  rcases h.ends p hp with e | e
  · rw [e]; exact this.2.1
  · rw [e]; exact this.2.2
end Go.Proofs.Ytgdbnnmogddkaaa.Mat
namespace Go.Proofs.Ytgdbnnmogddkaaa.Mach
open Go
set_option linter.unusedVariables false
set_option linter.unusedSimpArgs false
def brL (g : Nat → T_Bar) (nb : Nat) : AV := .p (.seq true 2 nb (fun i => [.int .i64 (g i).1, .int .i64 (g i).2.1]))
def brA (x : T_Bar) : AV := .agg [.p (.int .i64 x.1), .p (.int .i64 x.2.1)]
def iOb (n : Nat) (F : Nat → Int) : Ob := ⟨false, 1, n, fun i => [.p (.int .i64 (F i))]⟩
def othF (x : T_Bar) (v : Int) : Int := if x.1 = v then x.2.1 else x.1
end Go.Proofs.Ytgdbnnmogddkaaa.Mach
namespace Go.Proofs.Ytgdbnnmogddkaaa.Mach
open Go
set_option linter.unusedVariables false
set_option linter.unusedSimpArgs false
def tcI (T : Nat → Int) : Nat → Int → Int
  | 0, _ => 0
  | m + 1, v => tcI T m v + if T m = v then 1 else 0
structure PInv (N k nb m : Nat) (g : Nat → T_Bar) (F T Q : Nat → Int) : Prop where
  bars : ∀ e, e < nb → 0 ≤ (g e).1 ∧ (g e).1 < (g e).2.1 ∧ (g e).2.1 < N
  q : ∀ j, j < m → 0 ≤ Q j ∧ Q j < nb
  t : ∀ j, j < m → T j = (g (Q j).toNat).1 ∨ T j = (g (Q j).toNat).2.1
  f0 : ∀ v, v < N → 0 ≤ F v
  sum : ∀ v : Nat, v < N → F v + tcI T m v = k
theorem tcI_upd (T : Nat → Int) (j : Nat) (u x : Int) : ∀ m, j < m → tcI (fun s => if s = j then u else T s) m x = tcI T m x + (if u = x then 1 else 0) - (if T j = x then 1 else 0) := by
  have out : ∀ m, m ≤ j → tcI (fun s => if s = j then u else T s) m x = tcI T m x := by
    intro m
    induction m with
    | zero => intro _; rfl
    | succ m ih =>
      intro h
      simp only [tcI, show ¬ m = j by omega, if_false]
      rw [ih (by omega)]
  intro m
  induction m with
  | zero => omega
  | succ m ih =>
    intro h
    by_cases e : j = m
    · subst e
      simp only [tcI, if_true]
      rw [out j (Nat.le_refl _)]
      omega
    · simp only [tcI, show ¬ m = j by omega, if_false]
      rw [ih (by omega)]
      omega
theorem tcI_nonneg (T : Nat → Int) (x : Int) : ∀ m, 0 ≤ tcI T m x
  | 0 => Int.le_refl 0
  | m + 1 => by have := tcI_nonneg T x m; simp only [tcI]; split <;> omega
structure BInv (N m : Nat) (g : Nat → T_Bar) (F T Q td V : Nat → Int) (a b : Int) (tn : Nat) : Prop where
  n1 : 1 ≤ tn
  td0 : td 0 = a
  rng : ∀ s, s < tn → 0 ≤ td s ∧ td s < N
  inj : ∀ s s', s < s' → s' < tn → td s ≠ td s'
  par : ∀ s, 1 ≤ s → s < tn → ∃ j : Nat, j < m ∧ V s = j ∧ ∃ s', s' < s ∧ T j = td s' ∧ othF (g (Q j).toNat) (td s') = td s
theorem BInv.add {N m : Nat} {g : Nat → T_Bar} {F T Q td V : Nat → Int} {a b : Int} {tn : Nat} (h : BInv N m g F T Q td V a b tn) {i j : Nat} (hi : i < tn) (hj : j < m) (ht : T j = td i) {v : Int}
    (hv : othF (g (Q j).toNat) (td i) = v) (hr : 0 ≤ v ∧ v < N) (hno : ∀ s, s < tn → td s ≠ v) :
    BInv N m g F T Q (fun s => if s < tn then td s else v) (fun s => if s < tn then V s else j) a b (tn + 1) := by
  have hn1 := h.n1
  refine ⟨by omega, ?_, fun s hs => ?_, fun s s' h1 h2 => ?_, fun s h1 h2 => ?_⟩
  · show (if 0 < tn then td 0 else v) = a
    rw [if_pos (by omega)]; exact h.td0
  · show 0 ≤ (if s < tn then td s else v) ∧ (if s < tn then td s else v) < N
    split
    · exact h.rng s (by assumption)
    · exact hr
  · show (if s < tn then td s else v) ≠ (if s' < tn then td s' else v)
    rw [if_pos (show s < tn by omega)]
    split
    · exact h.inj s s' h1 (by assumption)
    · exact hno s (by omega)
  · by_cases hs : s < tn
    · obtain ⟨j', g1, g2, s', g3, g4, g5⟩ := h.par s h1 hs
      refine ⟨j', g1, by simp only [hs, if_true]; exact g2, s', g3, ?_, ?_⟩
      · show T j' = (if s' < tn then td s' else v)
        rw [if_pos (by omega)]; exact g4
      · show othF (g (Q j').toNat) (if s' < tn then td s' else v) = (if s < tn then td s else v)
        rw [if_pos (by omega), if_pos hs]; exact g5
    · refine ⟨j, hj, by simp only [hs, if_false], i, by omega, ?_, ?_⟩
      · show T j = (if i < tn then td i else v)
        rw [if_pos hi]; exact ht
      · show othF (g (Q j).toNat) (if i < tn then td i else v) = (if s < tn then td s else v)
        rw [if_pos hi, if_neg hs]; exact hv
theorem othF_end {x : T_Bar} (v : Int) : othF x v = x.1 ∨ othF x v = x.2.1 := by
  unfold othF; split
  · exact .inr rfl
  · exact .inl rfl
structure TInv (m : Nat) (g : Nat → T_Bar) (T Q td V T' : Nat → Int) (v : Int) (s : Nat) : Prop where
  keep : ∀ p, 1 ≤ p → p ≤ s → T' (V p).toNat = T (V p).toNat
  t : ∀ j, j < m → T' j = (g (Q j).toNat).1 ∨ T' j = (g (Q j).toNat).2.1
  cnt : ∀ x, tcI T' m x = tcI T m x + (if v = x then 1 else 0) - (if td s = x then 1 else 0)
theorem TInv.step {N m : Nat} {g : Nat → T_Bar} {F T Q td V : Nat → Int} {a b : Int} {tn : Nat} (h : BInv N m g F T Q td V a b tn) {T' : Nat → Int} {v : Int} {s : Nat} (hs : s < tn) (hs1 : 1 ≤ s)
    (ht : TInv m g T Q td V T' v s) : ∃ j : Nat, j < m ∧ V s = j ∧ ∃ s', s' < s ∧ T' j = td s' ∧ TInv m g T Q td V (fun x => if x = j then td s else T' x) v s' ∧ T j = td s' ∧ othF (g (Q j).toNat) (td s') = td s := by
  obtain ⟨j, g1, g2, s', g3, g4, g5⟩ := h.par s hs1 hs
  have hk : T' j = td s' := by
    have := ht.keep s hs1 (Nat.le_refl _)
    rw [g2] at this
    simp only [Int.toNat_natCast] at this
    rw [this, g4]
  refine ⟨j, g1, g2, s', g3, hk, ⟨fun p h1 h2 => ?_, fun j' hj' => ?_, fun x => ?_⟩, g4, g5⟩
  · obtain ⟨jp, e1, e2, sp, e3, e4, e5⟩ := h.par p h1 (by omega)
    have hne : jp ≠ j := by
      intro e
      subst e
      rw [g4] at e4
      rw [← e4, g5] at e5
      exact h.inj p s (by omega) hs e5.symm
    have := ht.keep p h1 (by omega)
    rw [e2] at this ⊢
    simp only [Int.toNat_natCast] at this ⊢
    rw [if_neg hne]; exact this
  · show (if j' = j then td s else T' j') = _ ∨ (if j' = j then td s else T' j') = _
    by_cases e : j' = j
    · subst e
      rw [if_pos rfl, ← g5]
      exact othF_end _
    · rw [if_neg e]; exact ht.t j' hj'
  · rw [tcI_upd T' j (td s) x m g1, ht.cnt x, hk]
    omega
structure Moved (N k nb m : Nat) (g : Nat → T_Bar) (F T Q : Nat → Int) (a b : Int) (F' T' : Nat → Int) (r : Bool) : Prop where
  inv : PInv N k nb m g F' T' Q
  yes : r = true → F' a.toNat = F a.toNat + 1 ∧ F' b.toNat = F b.toNat
  no : r = false → F' = F ∧ T' = T ∧ ∃ R : Nat → Bool, R a.toNat = true ∧ (∀ j, j < m → R (T j).toNat = true → R (othF (g (Q j).toNat) (T j)).toNat = true) ∧ ∀ v : Nat, R v = true → (v : Int) ≠ a → (v : Int) ≠ b → F v = 0
end Go.Proofs.Ytgdbnnmogddkaaa.Mach
namespace Go.Proofs.Ytgdbnnmogddkaaa.Mach
open Go
set_option linter.unusedVariables false
set_option linter.unusedSimpArgs false
theorem PInv.le {N k nb m : Nat} {g : Nat → T_Bar} {F T Q : Nat → Int} (hp : PInv N k nb m g F T Q) {v : Nat} (hv : v < N) : 0 ≤ F v ∧ F v ≤ k := by
  have h1 := hp.f0 v hv
  have h2 := hp.sum v hv
  have h3 := tcI_nonneg T v m
  omega
end Go.Proofs.Ytgdbnnmogddkaaa.Mach
namespace Go.Proofs.Ytgdbnnmogddkaaa.Mach
open Go
set_option linter.unusedVariables false
set_option linter.unusedSimpArgs false
def inD (n : Nat) (F : Nat → Int) : AV := .p (.seq true 1 n (fun i => [.int .i64 (F i)]))
def pebO (N m : Nat) (j : Nat) : AV := .agg [.ar 1 j 0 N, .ar 1 (j + 1) 0 m, .ar 1 (j + 2) 0 m]
def pebR (N m : Nat) (F T Q : Nat → Int) : Hp := [(0, iOb N F), (1, iOb m T), (2, iOb m Q)]
theorem pCi (n : Nat) (F : Nat → Int) :
    pathOb Try.prog Try.f84 0 [.reg [oT], .reg [oT, oT, oT, oT]] [.code (bodyOf Try.f84)] (start Try.f84 [] 0 [inD n F]) [96] 1 [(0, iOb n F)] (.ar 1 0 0 n) =
    some [((0 : Nat) ≤ 0),
  ((((0 + n) * 8) : Nat) ≤ 140737488355328),
  (((0 + n) : Nat) ≤ 9223372036854775807),
  (AN 0),
  (((0 + n) : Nat) = n),
  (AN 1),
  ((n : Nat) ≤ (0 + n)),
  (AA n (fun i => [.p (.int .i64 (F i))])),
  (AE n)] := by kernel_rfl
theorem con_copyInts (n : Nat) (F : Nat → Int) (hn : n ≤ 1048576) : Con Try.prog 84 0 [] [inD n F] [(0, iOb n F)] (.ar 1 0 0 n) := by
  refine con_start Try.func84 rfl (by kernel_rfl) rfl (fun c hc => ?_)
  refine path_ok mixed Try.func84 hc (pCi n F) ?_
  simp only [All]
  repeat' (first | exact trivial | with_reducible apply And.intro)
  all_goals (first | exact aG _ | exact aP _ _ | exact aA _ _ | exact aE _ | omega | rfl | (intros; first | assumption | exact True.intro | rfl | exact absurd (show false = true by assumption) Bool.false_ne_true | ((repeat' (first | assumption | apply anda | apply notf)); done)) | (intro i hi; simp [All]))
theorem PInv.start {N k nb : Nat} {g : Nat → T_Bar} (hb : ∀ e, e < nb → 0 ≤ (g e).1 ∧ (g e).1 < (g e).2.1 ∧ (g e).2.1 < N) : PInv N k nb 0 g (fun _ => (k : Int)) (fun _ => 0) (fun _ => 0) :=
  ⟨hb, fun j hj => absurd hj (Nat.not_lt_zero _), fun j hj => absurd hj (Nat.not_lt_zero _), fun v _ => by show (0 : Int) ≤ k; omega, fun v _ => by show (k : Int) + 0 = k; omega⟩
end Go.Proofs.Ytgdbnnmogddkaaa.Mach
namespace Go.Proofs.Ytgdbnnmogddkaaa.Mach
open Go
set_option linter.unusedVariables false
set_option linter.unusedSimpArgs false
def grG (g : Nat → T_Bar) (nb N : Nat) : AV := .agg [.p (.int .i64 N), brL g nb]
def bxG (g : Nat → T_Bar) (nb N : Nat) : Ob := ⟨true, 2, 1, fun _ => [.p (.int .i64 N), brL g nb]⟩
def pebR3 (N m : Nat) (F T Q F' T' Q' : Nat → Int) : Hp := [(0, iOb N F), (1, iOb m T), (2, iOb m Q), (3, iOb N F'), (4, iOb m T'), (5, iOb m Q')]
end Go.Proofs.Ytgdbnnmogddkaaa.Mach
namespace Go.Proofs.Ytgdbnnmogddkaaa.Mach
open Go
set_option linter.unusedVariables false
set_option linter.unusedSimpArgs false
def brOb (n : Nat) (h : Nat → T_Bar) : Ob := ⟨false, 2, n, fun i => [.p (.int .i64 (h i).1), .p (.int .i64 (h i).2.1)]⟩
def bxB (x : T_Bar) : Ob := ⟨true, 2, 1, fun _ => [.p (.int .i64 x.1), .p (.int .i64 x.2.1)]⟩
def SL (g : Nat → T_Bar) (nb N : Nat) (x : T_Bar) (i n : Nat) (pl : Bool) (h : Nat → T_Bar) : St :=
  ⟨[grG g nb N, brA x, .pt 2 0 0 0, .pt 2 1 0 0, .pt 2 2 0 0, .pt 2 3 0 0, .p (.bool pl), .p (.int .i64 i)] ++ List.replicate 48 anyA,
   [(0, bxG g nb N), (1, bxB x), (2, ⟨true, 2, 1, fun _ => [.p (.int .i64 0), .p .nil]⟩), (3, ⟨true, 2, 1, fun _ => [.p (.int .i64 N), .ar 2 4 0 n]⟩), (4, brOb n h)], 5⟩
def snoc (n : Nat) (h : Nat → T_Bar) (x : T_Bar) (s : Nat) : T_Bar := (if s < n then (h s).1 else x.1, if s < n then (h s).2.1 else x.2.1, ())
theorem rLz (g : Nat → T_Bar) (nb N : Nat) (x : T_Bar) :
    pieceOb Try.prog 0 [.reg [oT, oT, oT], .reg [oT, oT, oT, oT, oT, oT], .reg [oT], .reg [oT], .head] [.code (bodyOf Try.f108)] (start Try.f108 [] 0 [grG g nb N, brA x]) [0, 32, 64, 224, 160] 1 (SL g nb N x 0 0 false (fun _ => (0, 0, ()))) =
    some ([.code (cAt (bodyOf Try.f108) [1, 1, 1, 0, 1, 0, 0]), .inLoop (cAt (bodyOf Try.f108) [1, 1, 1, 0, 1, 0, 0]), .inBlock 0, .code (cAt (bodyOf Try.f108) [1, 1, 1, 1])], [((0 : Nat) < 1),
  ((0 : Nat) < 1),
  ((true = true) → (AN 1)),
  (AI ((↑N : Int))),
  (AN nb),
  (AP nb (fun i => [.int .i64 ((g i).1), .int .i64 ((g i).2.1)])),
  (AI x.1),
  (AI x.2.1),
  (AN 0),
  (AN 0),
  (AN 0),
  (AN 0),
  (false = false),
  ((0 : Int) = (↑0 : Int)),
  ((([AV.p (PV.int IntKind.i64 (↑N : Int)), brL g nb].length) : Nat) = 2),
  ((1 : Nat) ≤ 1),
  ((1 : Nat) ≤ 1),
  (AI ((↑N : Int))),
  (AN nb),
  (AP nb (fun i => [.int .i64 ((g i).1), .int .i64 ((g i).2.1)])),
  ((([AV.p (PV.int IntKind.i64 x.1), AV.p (PV.int IntKind.i64 x.2.1)].length) : Nat) = 2),
  ((1 : Nat) ≤ 1),
  ((1 : Nat) ≤ 1),
  (AI x.1),
  (AI x.2.1),
  ((((List.map (fun v => AV.p (absV v)) [Value.int IntKind.i64 0, Value.slice none 0 0]).length) : Nat) = 2),
  ((1 : Nat) ≤ 1),
  ((1 : Nat) ≤ 1),
  (AI 0),
  ((((List.map (fun v => AV.p (absV v)) [Value.int IntKind.i64 0, Value.slice none 0 0]).length) : Nat) = 2),
  ((1 : Nat) ≤ 1),
  ((1 : Nat) ≤ 1),
  (AI ((↑N : Int))),
  (AN 0),
  (AN 0),
  (AN 2),
  ((0 : Nat) ≤ 0),
  (AA 0 (fun i => [.p (.int .i64 0), .p (.int .i64 0)]))]) := by kernel_rfl
theorem rLa (g : Nat → T_Bar) (nb N : Nat) (x : T_Bar) (i n : Nat) (pl : Bool) (h : Nat → T_Bar) :
    pieceOb Try.prog 0 [.reg [oT, oT, oT, oT, oT], .dec true, .reg [oT, oT, oT, oT, oT, oT, oT, oT, oT, ⟨true, (some ⟨[], [], [], 1, [], .p (.bool (aft (g i) x))⟩), none⟩, oT, oT], .dec true, .reg [oT, oT, oT, oT, oT, oT, oT], .reg [oT], .reg [oT, oT, oT, oT, oT, oT, oT, oT, oT, oT, oT], .reg [oT, oT, oT], .head] [.code (cAt (bodyOf Try.f108) [1, 1, 1, 0, 1, 0, 0]), .inLoop (cAt (bodyOf Try.f108) [1, 1, 1, 0, 1, 0, 0]), .inBlock 0, .code (cAt (bodyOf Try.f108) [1, 1, 1, 1])] (SL g nb N x i n pl h) [0, 1, 2, 3, 1061] 1 (SL g nb N x (i + 1) (n + 1 + 1) true (snoc (n + 1) (snoc n h x) (g i))) =
    some ([.code (cAt (bodyOf Try.f108) [1, 1, 1, 0, 1, 0, 0]), .inLoop (cAt (bodyOf Try.f108) [1, 1, 1, 0, 1, 0, 0]), .inBlock 0, .code (cAt (bodyOf Try.f108) [1, 1, 1, 1])], [((0 : Nat) < 1),
  ((decide ((↑i : Int) < (↑nb : Int))) = true),
  (AG (!pl)),
  (((!pl) = true) → ((0 : Nat) < 1)),
  (AG (!pl)),
  (AG (!pl)),
  (((!pl) = true) → ((0 : Int) ≤ (↑i : Int))),
  (((!pl) = true) → (((↑i : Int) : Int) < (↑nb : Int))),
  (AG (!pl)),
  (((!pl) = true) → ((0 : Nat) < 1)),
  (AG (!pl)),
  (AG (!pl)),
  (((!pl) = true) → Con Try.prog 113 0 [] [.agg [.p (.int .i64 ((g i).1)), .p (.int .i64 ((g i).2.1))], .agg [.p (.int .i64 x.1), .p (.int .i64 x.2.1)]] [] (.p (.bool (aft (g i) x)))),
  (AG (!pl)),
  (AG (!pl)),
  ((bif !pl then !aft (g i) x else false) = true),
  ((0 : Nat) < 1),
  ((0 : Nat) < 1),
  ((1 : Nat) ≤ 1),
  ((n : Nat) ≤ n),
  ((((n + 1) * 16) : Nat) ≤ 140737488355328),
  (((n + 1) : Nat) ≤ 9223372036854775807),
  ((0 : Nat) < 1),
  ((true = true) → (AN 1)),
  ((0 : Nat) < 1),
  ((0 : Nat) < 1),
  ((0 : Int) ≤ (↑i : Int)),
  (((↑i : Int) : Int) < (↑nb : Int)),
  ((1 : Nat) ≤ 1),
  (((n + 1) : Nat) ≤ (n + 1)),
  ((((n + 1 + 1) * 16) : Nat) ≤ 140737488355328),
  (((n + 1 + 1) : Nat) ≤ 9223372036854775807),
  ((0 : Nat) < 1),
  ((true = true) → (AN 1)),
  (((-9223372036854775808) : Int) ≤ ((↑i : Int) + 1)),
  ((((↑i : Int) + 1) : Int) ≤ 9223372036854775807),
  (AI ((↑N : Int))),
  (AN nb),
  (AP nb (fun i_1 => [.int .i64 ((g i_1).1), .int .i64 ((g i_1).2.1)])),
  (AI x.1),
  (AI x.2.1),
  (AN 0),
  (AN 0),
  (AN 0),
  (AN 0),
  (true = true),
  ((((↑i : Int) + 1) : Int) = (↑(i + 1) : Int)),
  (AN 2),
  ((1 : Nat) ≤ 1),
  ((1 : Nat) ≤ 1),
  (AI ((↑N : Int))),
  (AN nb),
  (AP nb (fun i_1 => [.int .i64 ((g i_1).1), .int .i64 ((g i_1).2.1)])),
  (AN 2),
  ((1 : Nat) ≤ 1),
  ((1 : Nat) ≤ 1),
  (AI x.1),
  (AI x.2.1),
  (AN 2),
  ((1 : Nat) ≤ 1),
  ((1 : Nat) ≤ 1),
  (AI 0),
  (AN 2),
  ((1 : Nat) ≤ 1),
  ((1 : Nat) ≤ 1),
  (AI ((↑N : Int))),
  (AN 0),
  (AN ((n + 1 + 1))),
  (AN 2),
  (((n + 1 + 1) : Nat) ≤ (n + 1 + 1)),
  (∀ i_1 : Nat, (((i_1 : Nat) < (n + 1 + 1)) → (All (cvtL false [(3, ⟨true, 2, 1, (fun i_2 => [.p (.int .i64 (↑N : Int)), .ar 2 1061 0 (n + 1 + 1)])⟩), (1061, ⟨false, 2, (n + 1 + 1), (fun i_2 => (if (i_2 < n + 1) then (if (i_2 < n) then [.p (.int .i64 ((h i_2).1)), .p (.int .i64 ((h i_2).2.1))] else [.p (.int .i64 x.1), .p (.int .i64 x.2.1)]) else [.p (.int .i64 ((g i).1)), .p (.int .i64 ((g i).2.1))]))⟩), (1029, ⟨false, 2, 1, (fun i_2 => [.p (.int .i64 ((g i).1)), .p (.int .i64 ((g i).2.1))])⟩), (645, ⟨false, 2, 1, (fun i_2 => [.p (.int .i64 x.1), .p (.int .i64 x.2.1)])⟩), (0, ⟨true, 2, 1, (fun i_2 => [.p (.int .i64 (↑N : Int)), .p (.seq true 2 nb (fun i_3 => [.int .i64 ((g i_3).1), .int .i64 ((g i_3).2.1)]))])⟩), (1, ⟨true, 2, 1, (fun i_2 => [.p (.int .i64 x.1), .p (.int .i64 x.2.1)])⟩), (2, ⟨true, 2, 1, (fun i_2 => [.p (.int .i64 0), .p (.nil)])⟩)] [0, 1, 2, 3, 1061] 1 (if (i_1 < n + 1) then (if (i_1 < n) then [.p (.int .i64 ((h i_1).1)), .p (.int .i64 ((h i_1).2.1))] else [.p (.int .i64 x.1), .p (.int .i64 x.2.1)]) else [.p (.int .i64 ((g i).1)), .p (.int .i64 ((g i).2.1))])).2 ∧ (((cvtL false [(3, ⟨true, 2, 1, (fun i_2 => [.p (.int .i64 (↑N : Int)), .ar 2 1061 0 (n + 1 + 1)])⟩), (1061, ⟨false, 2, (n + 1 + 1), (fun i_2 => (if (i_2 < n + 1) then (if (i_2 < n) then [.p (.int .i64 ((h i_2).1)), .p (.int .i64 ((h i_2).2.1))] else [.p (.int .i64 x.1), .p (.int .i64 x.2.1)]) else [.p (.int .i64 ((g i).1)), .p (.int .i64 ((g i).2.1))]))⟩), (1029, ⟨false, 2, 1, (fun i_2 => [.p (.int .i64 ((g i).1)), .p (.int .i64 ((g i).2.1))])⟩), (645, ⟨false, 2, 1, (fun i_2 => [.p (.int .i64 x.1), .p (.int .i64 x.2.1)])⟩), (0, ⟨true, 2, 1, (fun i_2 => [.p (.int .i64 (↑N : Int)), .p (.seq true 2 nb (fun i_3 => [.int .i64 ((g i_3).1), .int .i64 ((g i_3).2.1)]))])⟩), (1, ⟨true, 2, 1, (fun i_2 => [.p (.int .i64 x.1), .p (.int .i64 x.2.1)])⟩), (2, ⟨true, 2, 1, (fun i_2 => [.p (.int .i64 0), .p (.nil)])⟩)] [0, 1, 2, 3, 1061] 1 (if (i_1 < n + 1) then (if (i_1 < n) then [.p (.int .i64 ((h i_1).1)), .p (.int .i64 ((h i_1).2.1))] else [.p (.int .i64 x.1), .p (.int .i64 x.2.1)]) else [.p (.int .i64 ((g i).1)), .p (.int .i64 ((g i).2.1))])).1 : List AV) = [.p (.int .i64 (if i_1 < n + 1 then if i_1 < n then (h i_1).1 else x.1 else (g i).1)), .p (.int .i64 (if i_1 < n + 1 then if i_1 < n then (h i_1).2.1 else x.2.1 else (g i).2.1))]))))]) := by kernel_rfl
theorem rLb (g : Nat → T_Bar) (nb N : Nat) (x : T_Bar) (i n : Nat) (pl : Bool) (h : Nat → T_Bar) :
    pieceOb Try.prog 0 [.reg [oT, oT, oT, oT, oT], .dec true, .reg [oT, oT, oT, oT, oT, oT, oT, oT, oT, ⟨true, (some ⟨[], [], [], 1, [], .p (.bool (aft (g i) x))⟩), none⟩, oT, oT], .dec false, .reg [oT, oT, oT, oT, oT, oT, oT, oT, oT, oT, oT], .reg [oT, oT, oT], .head] [.code (cAt (bodyOf Try.f108) [1, 1, 1, 0, 1, 0, 0]), .inLoop (cAt (bodyOf Try.f108) [1, 1, 1, 0, 1, 0, 0]), .inBlock 0, .code (cAt (bodyOf Try.f108) [1, 1, 1, 1])] (SL g nb N x i n pl h) [0, 1, 2, 3, 805] 1 (SL g nb N x (i + 1) (n + 1) pl (snoc n h (g i))) =
    some ([.code (cAt (bodyOf Try.f108) [1, 1, 1, 0, 1, 0, 0]), .inLoop (cAt (bodyOf Try.f108) [1, 1, 1, 0, 1, 0, 0]), .inBlock 0, .code (cAt (bodyOf Try.f108) [1, 1, 1, 1])], [((0 : Nat) < 1),
  ((decide ((↑i : Int) < (↑nb : Int))) = true),
  (AG (!pl)),
  (((!pl) = true) → ((0 : Nat) < 1)),
  (AG (!pl)),
  (AG (!pl)),
  (((!pl) = true) → ((0 : Int) ≤ (↑i : Int))),
  (((!pl) = true) → (((↑i : Int) : Int) < (↑nb : Int))),
  (AG (!pl)),
  (((!pl) = true) → ((0 : Nat) < 1)),
  (AG (!pl)),
  (AG (!pl)),
  (((!pl) = true) → Con Try.prog 113 0 [] [.agg [.p (.int .i64 ((g i).1)), .p (.int .i64 ((g i).2.1))], .agg [.p (.int .i64 x.1), .p (.int .i64 x.2.1)]] [] (.p (.bool (aft (g i) x)))),
  (AG (!pl)),
  (AG (!pl)),
  ((bif !pl then !aft (g i) x else false) = false),
  ((0 : Nat) < 1),
  ((0 : Nat) < 1),
  ((0 : Int) ≤ (↑i : Int)),
  (((↑i : Int) : Int) < (↑nb : Int)),
  ((1 : Nat) ≤ 1),
  ((n : Nat) ≤ n),
  ((((n + 1) * 16) : Nat) ≤ 140737488355328),
  (((n + 1) : Nat) ≤ 9223372036854775807),
  ((0 : Nat) < 1),
  ((true = true) → (AN 1)),
  (((-9223372036854775808) : Int) ≤ ((↑i : Int) + 1)),
  ((((↑i : Int) + 1) : Int) ≤ 9223372036854775807),
  (AI ((↑N : Int))),
  (AN nb),
  (AP nb (fun i_1 => [.int .i64 ((g i_1).1), .int .i64 ((g i_1).2.1)])),
  (AI x.1),
  (AI x.2.1),
  (AN 0),
  (AN 0),
  (AN 0),
  (AN 0),
  (pl = pl),
  ((((↑i : Int) + 1) : Int) = (↑(i + 1) : Int)),
  (AN 2),
  ((1 : Nat) ≤ 1),
  ((1 : Nat) ≤ 1),
  (AI ((↑N : Int))),
  (AN nb),
  (AP nb (fun i_1 => [.int .i64 ((g i_1).1), .int .i64 ((g i_1).2.1)])),
  (AN 2),
  ((1 : Nat) ≤ 1),
  ((1 : Nat) ≤ 1),
  (AI x.1),
  (AI x.2.1),
  (AN 2),
  ((1 : Nat) ≤ 1),
  ((1 : Nat) ≤ 1),
  (AI 0),
  (AN 2),
  ((1 : Nat) ≤ 1),
  ((1 : Nat) ≤ 1),
  (AI ((↑N : Int))),
  (AN 0),
  (AN ((n + 1))),
  (AN 2),
  (((n + 1) : Nat) ≤ (n + 1)),
  (∀ i_1 : Nat, (((i_1 : Nat) < (n + 1)) → (All (cvtL false [(3, ⟨true, 2, 1, (fun i_2 => [.p (.int .i64 (↑N : Int)), .ar 2 805 0 (n + 1)])⟩), (805, ⟨false, 2, (n + 1), (fun i_2 => (if (i_2 < n) then [.p (.int .i64 ((h i_2).1)), .p (.int .i64 ((h i_2).2.1))] else [.p (.int .i64 ((g i).1)), .p (.int .i64 ((g i).2.1))]))⟩), (773, ⟨false, 2, 1, (fun i_2 => [.p (.int .i64 ((g i).1)), .p (.int .i64 ((g i).2.1))])⟩), (0, ⟨true, 2, 1, (fun i_2 => [.p (.int .i64 (↑N : Int)), .p (.seq true 2 nb (fun i_3 => [.int .i64 ((g i_3).1), .int .i64 ((g i_3).2.1)]))])⟩), (1, ⟨true, 2, 1, (fun i_2 => [.p (.int .i64 x.1), .p (.int .i64 x.2.1)])⟩), (2, ⟨true, 2, 1, (fun i_2 => [.p (.int .i64 0), .p (.nil)])⟩)] [0, 1, 2, 3, 805] 1 (if (i_1 < n) then [.p (.int .i64 ((h i_1).1)), .p (.int .i64 ((h i_1).2.1))] else [.p (.int .i64 ((g i).1)), .p (.int .i64 ((g i).2.1))])).2 ∧ (((cvtL false [(3, ⟨true, 2, 1, (fun i_2 => [.p (.int .i64 (↑N : Int)), .ar 2 805 0 (n + 1)])⟩), (805, ⟨false, 2, (n + 1), (fun i_2 => (if (i_2 < n) then [.p (.int .i64 ((h i_2).1)), .p (.int .i64 ((h i_2).2.1))] else [.p (.int .i64 ((g i).1)), .p (.int .i64 ((g i).2.1))]))⟩), (773, ⟨false, 2, 1, (fun i_2 => [.p (.int .i64 ((g i).1)), .p (.int .i64 ((g i).2.1))])⟩), (0, ⟨true, 2, 1, (fun i_2 => [.p (.int .i64 (↑N : Int)), .p (.seq true 2 nb (fun i_3 => [.int .i64 ((g i_3).1), .int .i64 ((g i_3).2.1)]))])⟩), (1, ⟨true, 2, 1, (fun i_2 => [.p (.int .i64 x.1), .p (.int .i64 x.2.1)])⟩), (2, ⟨true, 2, 1, (fun i_2 => [.p (.int .i64 0), .p (.nil)])⟩)] [0, 1, 2, 3, 805] 1 (if (i_1 < n) then [.p (.int .i64 ((h i_1).1)), .p (.int .i64 ((h i_1).2.1))] else [.p (.int .i64 ((g i).1)), .p (.int .i64 ((g i).2.1))])).1 : List AV) = [.p (.int .i64 (if i_1 < n then (h i_1).1 else (g i).1)), .p (.int .i64 (if i_1 < n then (h i_1).2.1 else (g i).2.1))]))))]) := by kernel_rfl
theorem rLc (g : Nat → T_Bar) (nb N : Nat) (x : T_Bar) (i n : Nat) (pl : Bool) (h : Nat → T_Bar) :
    pathOb Try.prog Try.f108 0 [.reg [oT, oT, oT, oT, oT], .dec false, .reg [oT, oT], .dec true, .reg [oT, oT, oT, oT, oT, oT, oT], .reg [oT, oT]] [.code (cAt (bodyOf Try.f108) [1, 1, 1, 0, 1, 0, 0]), .inLoop (cAt (bodyOf Try.f108) [1, 1, 1, 0, 1, 0, 0]), .inBlock 0, .code (cAt (bodyOf Try.f108) [1, 1, 1, 1])] (SL g nb N x i n pl h) [357] 1 [(0, brOb (n + 1) (snoc n h x))] (.agg [.p (.int .i64 N), .ar 2 0 0 (n + 1)]) =
    some [((0 : Nat) < 1),
  ((decide ((↑i : Int) < (↑nb : Int))) = false),
  ((!pl) = true),
  ((0 : Nat) < 1),
  ((0 : Nat) < 1),
  ((1 : Nat) ≤ 1),
  ((n : Nat) ≤ n),
  ((((n + 1) * 16) : Nat) ≤ 140737488355328),
  (((n + 1) : Nat) ≤ 9223372036854775807),
  ((0 : Nat) < 1),
  ((true = true) → (AN 1)),
  ((0 : Nat) < 1),
  ((0 : Nat) < 1),
  ((true = true) → (AN 1)),
  ((0 : Nat) < 1),
  (AI ((↑N : Int))),
  (AN 0),
  (AN ((n + 1))),
  (AN 2),
  (((n + 1) : Nat) ≤ (n + 1)),
  (∀ i_1 : Nat, (((i_1 : Nat) < (n + 1)) → (All (cvtL false [(2, ⟨true, 2, 1, (fun i_2 => [.p (.int .i64 (↑N : Int)), .ar 2 357 0 (n + 1)])⟩), (3, ⟨true, 2, 1, (fun i_2 => [.p (.int .i64 (↑N : Int)), .ar 2 357 0 (n + 1)])⟩), (357, ⟨false, 2, (n + 1), (fun i_2 => (if (i_2 < n) then [.p (.int .i64 ((h i_2).1)), .p (.int .i64 ((h i_2).2.1))] else [.p (.int .i64 x.1), .p (.int .i64 x.2.1)]))⟩), (325, ⟨false, 2, 1, (fun i_2 => [.p (.int .i64 x.1), .p (.int .i64 x.2.1)])⟩), (0, ⟨true, 2, 1, (fun i_2 => [.p (.int .i64 (↑N : Int)), .p (.seq true 2 nb (fun i_3 => [.int .i64 ((g i_3).1), .int .i64 ((g i_3).2.1)]))])⟩), (1, ⟨true, 2, 1, (fun i_2 => [.p (.int .i64 x.1), .p (.int .i64 x.2.1)])⟩)] [357] 1 (if (i_1 < n) then [.p (.int .i64 ((h i_1).1)), .p (.int .i64 ((h i_1).2.1))] else [.p (.int .i64 x.1), .p (.int .i64 x.2.1)])).2 ∧ (((cvtL false [(2, ⟨true, 2, 1, (fun i_2 => [.p (.int .i64 (↑N : Int)), .ar 2 357 0 (n + 1)])⟩), (3, ⟨true, 2, 1, (fun i_2 => [.p (.int .i64 (↑N : Int)), .ar 2 357 0 (n + 1)])⟩), (357, ⟨false, 2, (n + 1), (fun i_2 => (if (i_2 < n) then [.p (.int .i64 ((h i_2).1)), .p (.int .i64 ((h i_2).2.1))] else [.p (.int .i64 x.1), .p (.int .i64 x.2.1)]))⟩), (325, ⟨false, 2, 1, (fun i_2 => [.p (.int .i64 x.1), .p (.int .i64 x.2.1)])⟩), (0, ⟨true, 2, 1, (fun i_2 => [.p (.int .i64 (↑N : Int)), .p (.seq true 2 nb (fun i_3 => [.int .i64 ((g i_3).1), .int .i64 ((g i_3).2.1)]))])⟩), (1, ⟨true, 2, 1, (fun i_2 => [.p (.int .i64 x.1), .p (.int .i64 x.2.1)])⟩)] [357] 1 (if (i_1 < n) then [.p (.int .i64 ((h i_1).1)), .p (.int .i64 ((h i_1).2.1))] else [.p (.int .i64 x.1), .p (.int .i64 x.2.1)])).1 : List AV) = [.p (.int .i64 (if i_1 < n then (h i_1).1 else x.1)), .p (.int .i64 (if i_1 < n then (h i_1).2.1 else x.2.1))])))),
  (AE ((n + 1)))] := by kernel_rfl
theorem rLd (g : Nat → T_Bar) (nb N : Nat) (x : T_Bar) (i n : Nat) (pl : Bool) (h : Nat → T_Bar) :
    pathOb Try.prog Try.f108 0 [.reg [oT, oT, oT, oT, oT], .dec false, .reg [oT, oT], .dec false, .reg [oT, oT]] [.code (cAt (bodyOf Try.f108) [1, 1, 1, 0, 1, 0, 0]), .inLoop (cAt (bodyOf Try.f108) [1, 1, 1, 0, 1, 0, 0]), .inBlock 0, .code (cAt (bodyOf Try.f108) [1, 1, 1, 1])] (SL g nb N x i n pl h) [4] 1 [(0, brOb n h)] (.agg [.p (.int .i64 N), .ar 2 0 0 n]) =
    some [((0 : Nat) < 1),
  ((decide ((↑i : Int) < (↑nb : Int))) = false),
  ((!pl) = false),
  ((0 : Nat) < 1),
  ((0 : Nat) < 1),
  ((true = true) → (AN 1)),
  ((0 : Nat) < 1),
  (AI ((↑N : Int))),
  (AN 0),
  (AN n),
  (AN 2),
  ((n : Nat) ≤ n),
  (AA n (fun i_1 => [.p (.int .i64 ((h i_1).1)), .p (.int .i64 ((h i_1).2.1))])),
  (AE n)] := by kernel_rfl
theorem snoc_lt {n : Nat} {h : Nat → T_Bar} {x : T_Bar} {s : Nat} (hs : s < n) : snoc n h x s = h s := by
  simp only [snoc, hs, if_true]
theorem snoc_ge {n : Nat} {h : Nat → T_Bar} {x : T_Bar} {s : Nat} (hs : ¬ s < n) : snoc n h x s = x := by
  simp only [snoc, hs, if_false]
def insD (g : Nat → T_Bar) (x : T_Bar) : Nat → Bool × Nat × (Nat → T_Bar)
  | 0 => (false, 0, fun _ => (0, 0, ()))
  | i + 1 =>
    if (bif !(insD g x i).1 then !aft (g i) x else false) = true then (true, (insD g x i).2.1 + 1 + 1, snoc ((insD g x i).2.1 + 1) (snoc (insD g x i).2.1 (insD g x i).2.2 x) (g i))
    else ((insD g x i).1, (insD g x i).2.1 + 1, snoc (insD g x i).2.1 (insD g x i).2.2 (g i))
def insR (g : Nat → T_Bar) (nb : Nat) (x : T_Bar) : Nat × (Nat → T_Bar) :=
  if (insD g x nb).1 = true then ((insD g x nb).2.1, (insD g x nb).2.2) else ((insD g x nb).2.1 + 1, snoc (insD g x nb).2.1 (insD g x nb).2.2 x)
theorem insD_n (g : Nat → T_Bar) (x : T_Bar) : ∀ i, (insD g x i).2.1 = i + (if (insD g x i).1 = true then 1 else 0)
  | 0 => rfl
  | i + 1 => by
    have ih := insD_n g x i
    simp only [insD]
    split
    · rename_i h
      have hf : (insD g x i).1 = false := by
        cases e : (insD g x i).1 with
        | false => rfl
        | true => rw [e] at h; simp at h
      rw [hf] at ih
      simp only [if_true]
      simp at ih
      omega
    · simp only
      omega
theorem insR_n (g : Nat → T_Bar) (nb : Nat) (x : T_Bar) : (insR g nb x).1 = nb + 1 := by
  have h := insD_n g x nb
  unfold insR
  split
  · rename_i hp; rw [if_pos hp] at h; exact h
  · rename_i hp; rw [if_neg hp] at h; show (insD g x nb).2.1 + 1 = nb + 1; omega
theorem con_l2Put (g : Nat → T_Bar) (nb N : Nat) (x : T_Bar) (hnb : nb ≤ 1048576) : Con Try.prog 108 0 [] [grG g nb N, brA x] [(0, brOb (insR g nb x).1 (insR g nb x).2)] (.agg [.p (.int .i64 N), .ar 2 0 0 (insR g nb x).1]) := by
  refine con_start Try.func108 rfl (by kernel_rfl) rfl (fun c hc => ?_)
  have lp : ∀ d i, i + d = nb → Run Try.prog c 108 [.code (cAt (bodyOf Try.f108) [1, 1, 1, 0, 1, 0, 0]), .inLoop (cAt (bodyOf Try.f108) [1, 1, 1, 0, 1, 0, 0]), .inBlock 0, .code (cAt (bodyOf Try.f108) [1, 1, 1, 1])] (SL g nb N x i (insD g x i).2.1 (insD g x i).1 (insD g x i).2.2) (Post c [(0, brOb (insR g nb x).1 (insR g nb x).2)] (.agg [.p (.int .i64 N), .ar 2 0 0 (insR g nb x).1])) := by
    intro d
    induction d with
    | zero =>
      intro i hi
      obtain rfl : i = nb := by omega
      have hd : decide ((i : Int) < (i : Int)) = false := by simp
      have hn := insD_n g x i
      have hle : (insD g x i).2.1 ≤ i + 1 := by split at hn <;> omega
      cases hp : (insD g x i).1 with
      | true =>
        rw [show insR g i x = ((insD g x i).2.1, (insD g x i).2.2) by simp [insR, hp]]
        refine path_ok mixed Try.func108 hc (rLd g i N x i (insD g x i).2.1 true (insD g x i).2.2) ?_
        simp only [All]
        repeat' (first | exact trivial | with_reducible apply And.intro)
        all_goals (first | exact aG _ | exact aP _ _ | exact aA _ _ | exact aE _ | omega | rfl | (intros; first | assumption | exact True.intro | rfl | exact absurd (show false = true by assumption) Bool.false_ne_true | ((repeat' (first | assumption | apply anda | apply notf)); done)) | (intro i hi; simp [All]))
      | false =>
        rw [show insR g i x = ((insD g x i).2.1 + 1, snoc (insD g x i).2.1 (insD g x i).2.2 x) by simp [insR, hp]]
        refine path_ok mixed Try.func108 hc (rLc g i N x i (insD g x i).2.1 false (insD g x i).2.2) ?_
        simp only [All]
        repeat' (first | exact trivial | with_reducible apply And.intro)
        all_goals (first | exact aG _ | exact aP _ _ | exact aA _ _ | exact aE _ | omega | rfl | (intros; first | assumption | exact True.intro | rfl | exact absurd (show false = true by assumption) Bool.false_ne_true | ((repeat' (first | assumption | apply anda | apply notf)); done)) | (intro j hj; simp [All]; done) | (intro j hj; by_cases h : j < (insD g x i).2.1 <;> simp [h, snoc, cvtL, cvt, tg, tru, All]))
    | succ d ih =>
      intro i hi
      have hd : decide ((i : Int) < (nb : Int)) = true := by simp; omega
      have hn := insD_n g x i
      have hle : (insD g x i).2.1 ≤ i + 1 := by split at hn <;> omega
      have hca := con_l2After (g i) x
      have hs : insD g x (i + 1) = if (bif !(insD g x i).1 then !aft (g i) x else false) = true then (true, (insD g x i).2.1 + 1 + 1, snoc ((insD g x i).2.1 + 1) (snoc (insD g x i).2.1 (insD g x i).2.2 x) (g i)) else ((insD g x i).1, (insD g x i).2.1 + 1, snoc (insD g x i).2.1 (insD g x i).2.2 (g i)) := rfl
      have hih := ih (i + 1) (by omega)
      cases ht : (bif !(insD g x i).1 then !aft (g i) x else false) with
      | true =>
        rw [hs, if_pos ht] at hih
        refine piece_ok mixed hc (rLa g nb N x i (insD g x i).2.1 (insD g x i).1 (insD g x i).2.2) ?_ hih
        simp only [All]
        repeat' (first | exact trivial | with_reducible apply And.intro)
        all_goals (first | exact aG _ | exact aP _ _ | exact aA _ _ | exact aE _ | omega | rfl | (intros; first | assumption | exact True.intro | rfl | exact absurd (show false = true by assumption) Bool.false_ne_true | ((repeat' (first | assumption | apply anda | apply notf)); done)) | (intros; exact hca) | (exact ht) | (intro j hj; simp [All]; done) | (intro j hj; by_cases h : j < (insD g x i).2.1 + 1 <;> by_cases h' : j < (insD g x i).2.1 <;> simp [h, h', snoc, cvtL, cvt, tg, tru, All]) | (simp; omega))
      | false =>
        rw [hs, if_neg (by rw [ht]; simp)] at hih
        refine piece_ok mixed hc (rLb g nb N x i (insD g x i).2.1 (insD g x i).1 (insD g x i).2.2) ?_ hih
        simp only [All]
        repeat' (first | exact trivial | with_reducible apply And.intro)
        all_goals (first | exact aG _ | exact aP _ _ | exact aA _ _ | exact aE _ | omega | rfl | (intros; first | assumption | exact True.intro | rfl | exact absurd (show false = true by assumption) Bool.false_ne_true | ((repeat' (first | assumption | apply anda | apply notf)); done)) | (intros; exact hca) | (exact ht) | (intro j hj; simp [All]; done) | (intro j hj; by_cases h : j < (insD g x i).2.1 <;> simp [h, snoc, cvtL, cvt, tg, tru, All]))
  refine piece_ok mixed hc (rLz g nb N x) ?_ (lp nb 0 (by omega))
  simp only [All]
  repeat' (first | exact trivial | with_reducible apply And.intro)
  all_goals (first | exact aG _ | exact aP _ _ | exact aA _ _ | exact aE _ | omega | rfl | (intros; first | assumption | exact True.intro | rfl | exact absurd (show false = true by assumption) Bool.false_ne_true | ((repeat' (first | assumption | apply anda | apply notf)); done)) | (intro i hi; simp [All]))
end Go.Proofs.Ytgdbnnmogddkaaa.Mach
namespace Go.Proofs.Ytgdbnnmogddkaaa.Mach
open Go Go.Shelf Go.RowKit Go.Lib Go.Sort
set_option linter.unusedVariables false
set_option linter.unusedSimpArgs false
def ltB (x y : T_Bar) : Bool := ltOf cmpB x y
theorem ltB_iff (x y : T_Bar) : ltB x y = true ↔ x.1 < y.1 ∨ (x.1 = y.1 ∧ x.2.1 < y.2.1) := by
  rw [show ltB x y = decide (cmpB x y < 0) from rfl, decide_eq_true_iff]
  unfold cmpB
  rcases Int.lt_trichotomy x.1 y.1 with h | h | h
  · rw [cmpI_1 h]; simp; omega
  · rw [cmpI_3 (x := x.1) (y := y.1) (by omega) (by omega)]
    simp only [if_true]
    rcases Int.lt_trichotomy x.2.1 y.2.1 with h' | h' | h'
    · rw [cmpI_1 h']; simp; omega
    · rw [cmpI_3 (x := x.2.1) (y := y.2.1) (by omega) (by omega)]; simp; omega
    · rw [cmpI_2 h']; simp; omega
  · rw [cmpI_2 h]; simp; omega
theorem swoB : SWO (ltOf cmpB) where
  irrefl x := by
    cases h : ltOf cmpB x x with
    | false => rfl
    | true => have := (ltB_iff x x).1 h; omega
  trans x y z h1 h2 := by
    have h1 := (ltB_iff x y).1 h1
    have h2 := (ltB_iff y z).1 h2
    exact (ltB_iff x z).2 (by omega)
  ntrans x y z h1 h2 := by
    cases h : ltOf cmpB x z with
    | false => rfl
    | true =>
      have h3 := (ltB_iff x z).1 h
      have e1 : ¬ (x.1 < y.1 ∨ (x.1 = y.1 ∧ x.2.1 < y.2.1)) := fun h' => by rw [show ltOf cmpB x y = true from (ltB_iff x y).2 h'] at h1; cases h1
      have e2 : ¬ (y.1 < z.1 ∨ (y.1 = z.1 ∧ y.2.1 < z.2.1)) := fun h' => by rw [show ltOf cmpB y z = true from (ltB_iff y z).2 h'] at h2; cases h2
      omega
theorem totB (x y : T_Bar) (h1 : ltOf cmpB x y = false) (h2 : ltOf cmpB y x = false) : x = y := by
  have e1 : ¬ (x.1 < y.1 ∨ (x.1 = y.1 ∧ x.2.1 < y.2.1)) := fun h' => by rw [show ltOf cmpB x y = true from (ltB_iff x y).2 h'] at h1; cases h1
  have e2 : ¬ (y.1 < x.1 ∨ (y.1 = x.1 ∧ y.2.1 < x.2.1)) := fun h' => by rw [show ltOf cmpB y x = true from (ltB_iff y x).2 h'] at h2; cases h2
  obtain ⟨a, b, ⟨⟩⟩ := x
  obtain ⟨c, d, ⟨⟩⟩ := y
  simp only [Prod.mk.injEq, and_true] at e1 e2 ⊢
  omega
def lstB (n : Nat) (h : Nat → T_Bar) : List T_Bar := (List.range n).map h
def srtL (l : List T_Bar) : List T_Bar := l.mergeSort fun x y => !(ltOf cmpB) y x
def srtB (n : Nat) (h : Nat → T_Bar) (i : Nat) : T_Bar := (srtL (lstB n h)).getD i (0, 0, ())
theorem encB_len (x : T_Bar) : (encB x).length = 2 := rfl
theorem encB_one (x : T_Bar) : ∀ v ∈ encB x, v.oneCell' = true := by
  intro v hv
  simp only [encB, List.mem_cons, List.not_mem_nil, or_false] at hv
  rcases hv with rfl | rfl <;> rfl
theorem srtL_len (l : List T_Bar) : (srtL l).length = l.length := by simp [srtL]
theorem lstB_len (n : Nat) (h : Nat → T_Bar) : (lstB n h).length = n := by simp [lstB]
theorem con_sortBars (n : Nat) (h : Nat → T_Bar) (hn : n ≤ 1048576) :
    Con Try.prog 109 1 [(0, brOb n h)] [.ar 2 0 0 n, .p (.fn 82)] [(0, brOb n (srtB n h))] (.tup []) := by
  refine ⟨by kernel_rfl, fun w β X vals hX hH hS hd hl ha => ?_⟩
  obtain ⟨v0, v1, rfl⟩ : ∃ v0 v1, vals = #[v0, v1] := by
    rcases vals with ⟨l⟩
    match l, hl with
    | [a, b], _ => exact ⟨a, b, rfl⟩
  have h0 : VR w β (ow X β [(0, brOb n h)]) (.ar 2 0 0 n) v0 := ha 0 (by simp)
  have h1 : VR w β (ow X β [(0, brOb n h)]) (.p (.fn 82)) v1 := ha 1 (by simp)
  have e1 : v1 = .func (.func 82) #[] #[] := by
    cases h1 with
    | p _ _ hp => cases hp; rfl
  subst e1
  have hnil : ∀ (w' : World) (own : Bool → Nat → Prop), VR w' β own (.tup []) (.tuple #[]) := fun w' own => .tup [] #[] rfl (fun j hj => absurd hj (Nat.not_lt_zero _))
  rcases Nat.eq_zero_or_pos n with rfl | hpos
  · obtain ⟨p, cap, rfl⟩ : ∃ p cap, v0 = .slice p 0 cap := by
      cases h0 with
      | ar0 => exact ⟨_, _, rfl⟩
      | ar => exact ⟨_, _, rfl⟩
    refine (AnyF.slices_SortFunc_none (P := Try.prog) (ρ := Try.sortBar_ren) { Try.sortBar with } p cap _ w).mono ?_
    rintro e w' ⟨rfl, rfl⟩
    refine ⟨_, β, rfl, ?_, ?_, hnil _ _, ?_, fun o a h => h, fun b' h' => .inl ?_, fun k h => .inl h⟩
    · intro o ob hl
      obtain ⟨rfl, rfl⟩ := look_one hl
      rcases hH 0 _ rfl with ⟨hb, _⟩ | ⟨b, base, cells, el, hβ, hh, _⟩ | hm
      · exact .inl ⟨hb, rfl⟩
      · exact .inr (.inl ⟨b, base, cells, el, hβ, hh, fun i hi => absurd hi (Nat.not_lt_zero _)⟩)
      · exact absurd hm.1 (by simp [brOb])
    · intro o o' ob ob' a a' h1 h2 h3 h4 h5
      obtain ⟨rfl, rfl⟩ := look_one h1
      obtain ⟨rfl, rfl⟩ := look_one h2
      rfl
    · rw [ow_one X β (brOb 0 (srtB 0 h)) (brOb 0 h)]
      exact Ext.refl _ _
    · rw [own_one] at h' ⊢; exact h'
  · cases h0 with
    | ar0 => exact absurd hpos (Nat.lt_irrefl 0)
    | ar _ _ _ _ b base c cells elem fr' hβ hh hsz hc =>
      rcases hH 0 _ rfl with ⟨hb, _⟩ | ⟨b', base', cells', el', hβ', hh', hrw⟩ | hm
      · rw [hb] at hβ; cases hβ
      · rw [hβ] at hβ'
        injection hβ' with hβ'
        injection hβ' with i1 i2 _
        subst i1; subst i2
        rw [hh] at hh'
        injection hh' with hh'
        injection hh' with i1 i2 i3
        subst i1; subst i2; subst i3
        have hcell : ∀ i, i < n → cells[base + (i * 2 + 0)]? = some (.int .i64 (h i).1) ∧ cells[base + (i * 2 + 1)]? = some (.int .i64 (h i).2.1) := by
          intro i hi
          obtain ⟨u, hu1, hu2, hu3⟩ := hrw i hi 0 (by simp [brOb])
          obtain ⟨u', hu1', hu2', hu3'⟩ := hrw i hi 1 (by simp [brOb])
          have := vr_int (k := .i64) (x := (h i).1) hu3
          subst this
          have := vr_int (k := .i64) (x := (h i).2.1) hu3'
          subst this
          exact ⟨hu1, hu1'⟩
        have hend : base + n * 2 ≤ cells.size := by
          have := (hcell (n - 1) (by omega)).2
          rcases Nat.lt_or_ge (base + ((n - 1) * 2 + 1)) cells.size with h' | h'
          · omega
          · rw [Array.getElem?_eq_none h'] at this; cases this
        have hdz : ((lstB n h).toArray).size = n := by simp [lstB]
        have hdi : ∀ i, i < n → ((lstB n h).toArray)[i]! = h i := by
          intro i hi
          rw [getElem!_pos _ i (by rw [hdz]; exact hi)]
          simp [lstB]
        have hHK : HoldsK encB 2 w b base (lstB n h).toArray := by
          intro t ht
          rw [size_flatK, hdz] at ht
          rw [get_flatK _ _ _ _ (by rw [hdz]; exact ht), hdi (t / 2) (by omega)]
          have hc := hcell (t / 2) (by omega)
          rcases Nat.mod_two_eq_zero_or_one t with h2 | h2
          · refine ⟨?_, by simp [World.frozen?, hh]⟩
            rw [h2]
            have : base + t = base + (t / 2 * 2 + 0) := by omega
            simp only [World.cell?, hh]
            rw [this, hc.1]; rfl
          · refine ⟨?_, by simp [World.frozen?, hh]⟩
            rw [h2]
            have : base + t = base + (t / 2 * 2 + 1) := by omega
            simp only [World.cell?, hh]
            rw [this, hc.2]; rfl
        have hblk : b < w.heap.size := by
          rcases Nat.lt_or_ge b w.heap.size with h' | h'
          · exact h'
          · rw [Array.getElem?_eq_none h'] at hh; cases hh
        have eg : ∀ args w, (callFunc 82 args).run Try.prog w = .ok (.enter 82 args) w := enters_of Try.func82 (by kernel_rfl) rfl
        have hcmp : CmpLays Try.prog 82 #[] encB 2 cmpB b base (lstB n h).toArray.size w := fun _ _ _ _ x y => cmp_bars x y _
        have hcon := AnyQ.slices_SortFunc_total Try.sortBar 2 Try.isAgg70 Try.sizeOf70 encB encB_len encB_one cmpB swoB 82 #[] b base c (lstB n h).toArray w eg hcmp hHK hblk (by rw [hdz]; omega) totB
        rw [hdz] at hcon
        change Calls Try.prog 109 _ _ _ at hcon
        rw [show base + 0 * 2 = base by omega]
        refine hcon.mono ?_
        rintro e w' ⟨rfl, q, os, rfl⟩
        refine sW_post (F := flatK encB 2 (srtL (lstB n h)).toArray) hβ hh hS hend (by rw [size_flatK]; simp [srtL_len, lstB_len]) (fun i hi j hj => ?_) (hnil _)
        have hs : ((srtL (lstB n h)).toArray).size = n := by simp [srtL_len, lstB_len]
        have hi2 : i * 2 + j < n * 2 := by omega
        rw [get_flatK _ _ _ _ (by rw [hs]; exact hi2), show (i * 2 + j) / 2 = i by omega, show (i * 2 + j) % 2 = j by omega]
        have hgi : (srtL (lstB n h)).toArray[i]! = srtB n h i := by
          rw [getElem!_pos _ i (by rw [hs]; exact hi), srtB]
          simp [List.getD_eq_getElem?_getD, List.getElem?_eq_getElem (show i < (srtL (lstB n h)).length by rw [srtL_len, lstB_len]; exact hi)]
        rw [hgi]
        rcases (show j = 0 ∨ j = 1 by omega) with rfl | rfl
        · exact ⟨rfl, fun w' own => .p _ _ (.int _ _)⟩
        · exact ⟨rfl, fun w' own => .p _ _ (.int _ _)⟩
      · exact absurd hm.1 (by simp [brOb])
def leB (x y : T_Bar) : Prop := ltB y x = false
theorem leB_iff (x y : T_Bar) : leB x y ↔ x.1 < y.1 ∨ (x.1 = y.1 ∧ x.2.1 ≤ y.2.1) := by
  have h := ltB_iff y x
  unfold leB
  cases hb : ltB y x with
  | false => rw [hb] at h; simp only [Bool.false_eq_true, false_iff] at h; simp only [true_iff]; omega
  | true => rw [hb] at h; simp only [true_iff] at h; simp only [Bool.true_eq_false, false_iff]; omega
theorem aft_iff (x y : T_Bar) : aft x y = true ↔ leB x y := by
  rw [leB_iff]
  unfold aft
  by_cases h1 : x.1 < y.1
  · simp [h1]
  · by_cases h2 : x.1 = y.1 <;> simp [h1, h2]
theorem leB_antisymm (x y : T_Bar) (h1 : leB x y) (h2 : leB y x) : x = y := totB x y h2 h1
theorem srtL_sorted (l : List T_Bar) : (srtL l).Pairwise leB := by
  have h := List.pairwise_mergeSort (le := fun x y => !(ltOf cmpB) y x) (fun a b c h1 h2 => by
    simp only [Bool.not_eq_true'] at *
    have h1 := (leB_iff a b).1 h1
    have h2 := (leB_iff b c).1 h2
    exact (leB_iff a c).2 (by omega)) (fun a b => by
    simp only [Bool.or_eq_true, Bool.not_eq_true']
    rcases (show (a.1 < b.1 ∨ (a.1 = b.1 ∧ a.2.1 ≤ b.2.1)) ∨ (b.1 < a.1 ∨ (b.1 = a.1 ∧ b.2.1 ≤ a.2.1)) by omega) with h | h
    · exact .inl ((leB_iff a b).2 h)
    · exact .inr ((leB_iff b a).2 h)) l
  exact h.imp (fun {a b} h => show ltOf cmpB b a = false by simpa using h)
theorem srtL_perm (l : List T_Bar) : (srtL l).Perm l := List.mergeSort_perm l _
theorem srtL_eq {l m : List T_Bar} (hp : m.Perm l) (hs : m.Pairwise leB) : m = srtL l :=
  List.Perm.eq_of_pairwise (le := leB) (fun a b _ _ h1 h2 => leB_antisymm a b h1 h2) hs (srtL_sorted l) (hp.trans (srtL_perm l).symm)
theorem lstB_succ (n : Nat) (h : Nat → T_Bar) : lstB (n + 1) h = lstB n h ++ [h n] := by simp [lstB, List.range_succ]
theorem lstB_congr {n : Nat} {h h' : Nat → T_Bar} (he : ∀ i, i < n → h i = h' i) : lstB n h = lstB n h' := by
  simp only [lstB]
  exact List.map_congr_left (fun a ha => he a (List.mem_range.1 ha))
theorem lstB_snoc (n : Nat) (h : Nat → T_Bar) (x : T_Bar) : lstB (n + 1) (snoc n h x) = lstB n h ++ [x] := by
  rw [lstB_succ, lstB_congr (h' := h) (fun i hi => snoc_lt hi), snoc_ge (Nat.lt_irrefl n)]
theorem lstB_inj {n : Nat} {h h' : Nat → T_Bar} (he : lstB n h = lstB n h') (i : Nat) (hi : i < n) : h i = h' i := by
  have : (lstB n h)[i]? = (lstB n h')[i]? := by rw [he]
  simpa [lstB, hi] using this
theorem lstB_srt (n : Nat) (h : Nat → T_Bar) : lstB n (srtB n h) = srtL (lstB n h) := by
  refine List.ext_getElem? (fun i => ?_)
  rcases Nat.lt_or_ge i n with hi | hi
  · have : i < (srtL (lstB n h)).length := by rw [srtL_len, lstB_len]; exact hi
    simp only [lstB, List.getElem?_map, List.getElem?_range hi, Option.map_some]
    rw [show srtL (List.map h (List.range n)) = srtL (lstB n h) from rfl, List.getElem?_eq_getElem this]
    simp [srtB, List.getD_eq_getElem?_getD, List.getElem?_eq_getElem this]
  · rw [List.getElem?_eq_none (by rw [lstB_len]; exact hi), List.getElem?_eq_none (by rw [srtL_len, lstB_len]; exact hi)]
theorem insD_list (g : Nat → T_Bar) (x : T_Bar) (nb : Nat) (hs : (lstB nb g).Pairwise leB) : ∀ i, i ≤ nb →
    (lstB (insD g x i).2.1 (insD g x i).2.2).Perm (lstB i g ++ (if (insD g x i).1 = true then [x] else [])) ∧
    (lstB (insD g x i).2.1 (insD g x i).2.2).Pairwise leB ∧ ((insD g x i).1 = false → (lstB (insD g x i).2.1 (insD g x i).2.2) = lstB i g ∧ ∀ s, s < i → leB (g s) x) ∧
    ((insD g x i).1 = true → ∀ s, s < nb → i ≤ s → ∀ y ∈ lstB (insD g x i).2.1 (insD g x i).2.2, leB y (g s)) := by
  have hmono : ∀ s s', s < s' → s' < nb → leB (g s) (g s') := by
    intro s s' h1 h2
    have := List.pairwise_iff_getElem.1 hs s s' (by rw [lstB_len]; omega) (by rw [lstB_len]; omega) h1
    simpa [lstB] using this
  have htr : ∀ {a b c : T_Bar}, leB a b → leB b c → leB a c := by
    intro a b c h1 h2
    have h1 := (leB_iff a b).1 h1
    have h2 := (leB_iff b c).1 h2
    exact (leB_iff a c).2 (by omega)
  intro i
  induction i with
  | zero => intro _; exact ⟨by simp [insD, lstB], by simp [insD, lstB], fun _ => ⟨rfl, fun s h => absurd h (Nat.not_lt_zero _)⟩, fun h => by simp [insD] at h⟩
  | succ i ih =>
    intro hi
    obtain ⟨ih1, ih2, ih3, ih4⟩ := ih (by omega)
    simp only [insD]
    split
    · rename_i ht
      have hf : (insD g x i).1 = false := by
        cases e : (insD g x i).1 with
        | false => rfl
        | true => rw [e] at ht; simp at ht
      rw [hf] at ht
      simp only [Bool.not_false, cond_true, Bool.not_eq_true'] at ht
      have hxg : leB x (g i) := by
        have h1 : ¬ leB (g i) x := fun h => by rw [(aft_iff _ _).2 h] at ht; cases ht
        rw [leB_iff] at h1 ⊢
        omega
      obtain ⟨e1, e2⟩ := ih3 hf
      simp only [if_true]
      rw [lstB_snoc, lstB_snoc, e1]
      have hlt : ∀ y ∈ lstB i g, leB y x ∧ leB y (g i) := by
        intro y hy
        simp only [lstB, List.mem_map, List.mem_range] at hy
        obtain ⟨s, h1, rfl⟩ := hy
        exact ⟨e2 s h1, hmono s i h1 (by omega)⟩
      refine ⟨?_, ?_, fun h => by simp at h, fun _ s hs1 hs2 y hy => ?_⟩
      · rw [lstB_succ, List.append_assoc, List.append_assoc]
        exact List.Perm.append_left _ (List.Perm.swap _ _ _)
      · rw [e1] at ih2
        rw [List.append_assoc, List.pairwise_append]
        refine ⟨ih2, by simp [hxg], fun y hy y' hy' => ?_⟩
        simp only [List.cons_append, List.nil_append, List.mem_cons, List.not_mem_nil, or_false] at hy'
        rcases hy' with rfl | rfl
        · exact (hlt y hy).1
        · exact (hlt y hy).2
      · have his : leB (g i) (g s) := hmono i s (by omega) hs1
        simp only [List.mem_append, List.mem_cons, List.not_mem_nil, or_false] at hy
        rcases hy with (hy | rfl) | rfl
        · exact htr (hlt y hy).2 his
        · exact htr hxg his
        · exact his
    · rename_i ht
      rw [lstB_snoc]
      refine ⟨?_, ?_, fun h => ?_, fun h s hs1 hs2 y hy => ?_⟩
      · rw [lstB_succ, List.append_assoc]
        refine (List.Perm.append_right [g i] ih1).trans ?_
        rw [List.append_assoc]
        exact List.Perm.append_left _ List.perm_append_comm
      · rw [List.pairwise_append]
        refine ⟨ih2, by simp, fun y hy y' hy' => ?_⟩
        simp only [List.mem_cons, List.not_mem_nil, or_false] at hy'
        subst hy'
        cases hp : (insD g x i).1 with
        | true => exact ih4 hp i (by omega) (Nat.le_refl _) y hy
        | false =>
          rw [(ih3 hp).1] at hy
          simp only [lstB, List.mem_map, List.mem_range] at hy
          obtain ⟨s, h1, rfl⟩ := hy
          exact hmono s i h1 (by omega)
      · simp only at h
        obtain ⟨e1, e2⟩ := ih3 h
        refine ⟨by rw [e1, lstB_succ], fun s hs1 => ?_⟩
        rcases Nat.lt_or_ge s i with h' | h'
        · exact e2 s h'
        · obtain rfl : s = i := by omega
          rw [h] at ht
          simp only [Bool.not_false, cond_true, Bool.not_eq_true', Bool.not_eq_false] at ht
          exact (aft_iff _ _).1 ht
      · simp only at h
        simp only [List.mem_append, List.mem_cons, List.not_mem_nil, or_false] at hy
        rcases hy with hy | rfl
        · exact ih4 h s hs1 (by omega) y hy
        · exact hmono i s (by omega) hs1
theorem insR_list (g : Nat → T_Bar) (nb : Nat) (x : T_Bar) (hs : (lstB nb g).Pairwise leB) :
    lstB (insR g nb x).1 (insR g nb x).2 = srtL (lstB nb g ++ [x]) := by
  obtain ⟨h1, h2, h3, h4⟩ := insD_list g x nb hs nb (Nat.le_refl _)
  unfold insR
  split
  · rename_i hp
    rw [if_pos hp] at h1
    exact srtL_eq h1 h2
  · rename_i hp
    have hf : (insD g x nb).1 = false := by simpa using hp
    obtain ⟨e1, e2⟩ := h3 hf
    simp only
    rw [lstB_snoc, e1]
    refine srtL_eq (List.Perm.refl _) ?_
    rw [List.pairwise_append]
    refine ⟨hs, by simp, fun y hy y' hy' => ?_⟩
    simp only [List.mem_cons, List.not_mem_nil, or_false] at hy'
    subst hy'
    simp only [lstB, List.mem_map, List.mem_range] at hy
    obtain ⟨s, h', rfl⟩ := hy
    exact e2 s h'
end Go.Proofs.Ytgdbnnmogddkaaa.Mach
namespace Go.Proofs.Ytgdbnnmogddkaaa.Mach
open Go
set_option linter.unusedVariables false
set_option linter.unusedSimpArgs false
def hasI (g : Nat → Int) (x : Int) : Nat → Bool
  | 0 => false
  | k + 1 => hasI g x k || g k == x
def inL (v : T_IntS) : AV := .p (.seq true 1 v.1 (fun i => [.int .i64 (v.2 i)]))
def S85 (v : T_IntS) (x : Int) (k : Nat) : St :=
  ⟨[inL v, .p (.int .i64 x), .p .any, .p .any, .p .any, .p (.int .i64 k)] ++ List.replicate 12 anyA, [], 0⟩
def S112 (v : T_IntS) (x : Int) (k : Nat) : St :=
  ⟨[inL v, .p (.int .i64 x)] ++ List.replicate 5 anyA ++ [.p (.int .i64 v.1), .p (.int .i64 k)] ++ List.replicate 10 anyA, [], 0⟩
theorem p85a (v : T_IntS) (x : Int) :
    pieceOb Try.prog 0 [.reg [oT], .reg [oT], .head] [.code (bodyOf Try.f93)] (start Try.f93 [] 0 [inL v, .p (.int .i64 x)]) [] 1 (S85 v x 0) =
    some ([.code (cAt (bodyOf Try.f93) [1, 0, 1, 0, 0]), .inLoop (cAt (bodyOf Try.f93) [1, 0, 1, 0, 0]), .inBlock 0, .code (cAt (bodyOf Try.f93) [1, 1])], [(AN v.1),
  (AP v.1 (fun i => [.int .i64 (v.2 i)])),
  (AI x),
  ((0 : Int) = (↑0 : Int))]) := by kernel_rfl
theorem p85b (v : T_IntS) (x : Int) (k : Nat) :
    pieceOb Try.prog 0 [.reg [oT, oT, oT, oT], .dec true, .reg [oT, oT, oT, oT, oT, oT], .dec false, .reg [oT, oT, oT], .head] [.code (cAt (bodyOf Try.f93) [1, 0, 1, 0, 0]), .inLoop (cAt (bodyOf Try.f93) [1, 0, 1, 0, 0]), .inBlock 0, .code (cAt (bodyOf Try.f93) [1, 1])] (S85 v x k) [] 1 (S85 v x (k + 1)) =
    some ([.code (cAt (bodyOf Try.f93) [1, 0, 1, 0, 0]), .inLoop (cAt (bodyOf Try.f93) [1, 0, 1, 0, 0]), .inBlock 0, .code (cAt (bodyOf Try.f93) [1, 1])], [((decide ((↑k : Int) < (↑v.1 : Int))) = true),
  ((0 : Int) ≤ (↑k : Int)),
  (((↑k : Int) : Int) < (↑v.1 : Int)),
  ((v.2 k == x) = false),
  (((-9223372036854775808) : Int) ≤ ((↑k : Int) + 1)),
  ((((↑k : Int) + 1) : Int) ≤ 9223372036854775807),
  (AN v.1),
  (AP v.1 (fun i => [.int .i64 (v.2 i)])),
  (AI x),
  ((((↑k : Int) + 1) : Int) = (↑(k + 1) : Int))]) := by kernel_rfl
theorem p85c (v : T_IntS) (x : Int) (k : Nat) :
    pathOb Try.prog Try.f93 0 [.reg [oT, oT, oT, oT], .dec true, .reg [oT, oT, oT, oT, oT, oT], .dec true, .reg [oT]] [.code (cAt (bodyOf Try.f93) [1, 0, 1, 0, 0]), .inLoop (cAt (bodyOf Try.f93) [1, 0, 1, 0, 0]), .inBlock 0, .code (cAt (bodyOf Try.f93) [1, 1])] (S85 v x k) [] 1 [] (.p (.bool true)) =
    some [((decide ((↑k : Int) < (↑v.1 : Int))) = true),
  ((0 : Int) ≤ (↑k : Int)),
  (((↑k : Int) : Int) < (↑v.1 : Int)),
  ((v.2 k == x) = true),
  (true = true)] := by kernel_rfl
theorem p85d (v : T_IntS) (x : Int) (k : Nat) :
    pathOb Try.prog Try.f93 0 [.reg [oT, oT, oT, oT], .dec false, .reg [oT]] [.code (cAt (bodyOf Try.f93) [1, 0, 1, 0, 0]), .inLoop (cAt (bodyOf Try.f93) [1, 0, 1, 0, 0]), .inBlock 0, .code (cAt (bodyOf Try.f93) [1, 1])] (S85 v x k) [] 1 [] (.p (.bool false)) =
    some [((decide ((↑k : Int) < (↑v.1 : Int))) = false),
  (false = false)] := by kernel_rfl
theorem p112a (v : T_IntS) (x : Int) :
    pieceOb Try.prog 0 [.reg [oT], .reg [oT, oT, oT], .head] [.code (bodyOf Try.f118)] (start Try.f118 [] 0 [inL v, .p (.int .i64 x)]) [] 1 (S112 v x 0) =
    some ([.code (cAt (bodyOf Try.f118) [1, 0, 1, 0, 0]), .inLoop (cAt (bodyOf Try.f118) [1, 0, 1, 0, 0]), .inBlock 0, .code (cAt (bodyOf Try.f118) [1, 1])], [(AN v.1),
  (AP v.1 (fun i => [.int .i64 (v.2 i)])),
  (AI x),
  (AI ((↑v.1 : Int))),
  ((0 : Int) = (↑0 : Int))]) := by kernel_rfl
theorem p112b (v : T_IntS) (x : Int) (k : Nat) :
    pieceOb Try.prog 0 [.reg [oT], .dec true, .reg [oT, oT], .reg [oT, oT, oT, oT, oT, oT], .dec false, .reg [oT, oT], .head] [.code (cAt (bodyOf Try.f118) [1, 0, 1, 0, 0]), .inLoop (cAt (bodyOf Try.f118) [1, 0, 1, 0, 0]), .inBlock 0, .code (cAt (bodyOf Try.f118) [1, 1])] (S112 v x k) [] 1 (S112 v x (k + 1)) =
    some ([.code (cAt (bodyOf Try.f118) [1, 0, 1, 0, 0]), .inLoop (cAt (bodyOf Try.f118) [1, 0, 1, 0, 0]), .inBlock 0, .code (cAt (bodyOf Try.f118) [1, 1])], [((decide ((↑k : Int) < (↑v.1 : Int))) = true),
  ((0 : Int) ≤ (↑k : Int)),
  (((↑k : Int) : Int) < (↑v.1 : Int)),
  ((x == v.2 k) = false),
  (((-9223372036854775808) : Int) ≤ ((↑k : Int) + 1)),
  ((((↑k : Int) + 1) : Int) ≤ 9223372036854775807),
  (AN v.1),
  (AP v.1 (fun i => [.int .i64 (v.2 i)])),
  (AI x),
  (AI ((↑v.1 : Int))),
  ((((↑k : Int) + 1) : Int) = (↑(k + 1) : Int))]) := by kernel_rfl
theorem p112c (v : T_IntS) (x : Int) (k : Nat) :
    pathOb Try.prog Try.f118 0 [.reg [oT], .dec true, .reg [oT, oT], .reg [oT, oT, oT, oT, oT, oT], .dec true, .reg [oT, oT]] [.code (cAt (bodyOf Try.f118) [1, 0, 1, 0, 0]), .inLoop (cAt (bodyOf Try.f118) [1, 0, 1, 0, 0]), .inBlock 0, .code (cAt (bodyOf Try.f118) [1, 1])] (S112 v x k) [] 1 [] (.p (.int .i64 k)) =
    some [((decide ((↑k : Int) < (↑v.1 : Int))) = true),
  ((0 : Int) ≤ (↑k : Int)),
  (((↑k : Int) : Int) < (↑v.1 : Int)),
  ((x == v.2 k) = true),
  (AI ((↑k : Int)))] := by kernel_rfl
theorem p112d (v : T_IntS) (x : Int) (k : Nat) :
    pathOb Try.prog Try.f118 0 [.reg [oT], .dec false, .reg [oT]] [.code (cAt (bodyOf Try.f118) [1, 0, 1, 0, 0]), .inLoop (cAt (bodyOf Try.f118) [1, 0, 1, 0, 0]), .inBlock 0, .code (cAt (bodyOf Try.f118) [1, 1])] (S112 v x k) [] 1 [] (.p (.int .i64 (-1))) =
    some [((decide ((↑k : Int) < (↑v.1 : Int))) = false),
  (AI ((-1)))] := by kernel_rfl
theorem p90 (v : T_IntS) (x r : Int) :
    pathOb Try.prog Try.f83 0 [.reg [oT], .reg [oT, oT, ⟨true, (some ⟨[], [], [], 1, [], .p (.int .i64 r)⟩), none⟩, oT, oT]] [.code (bodyOf Try.f83)] (start Try.f83 [] 0 [inL v, .p (.int .i64 x)]) [] 1 [] (.p (.bool (decide (r ≥ 0)))) =
    some [Con Try.prog 118 0 [] [.p (.seq true 1 v.1 (fun i => [.int .i64 (v.2 i)])), .p (.int .i64 x)] [] (.p (.int .i64 r)),
  ((decide (r ≥ 0)) = (decide (r ≥ 0)))] := by kernel_rfl
theorem hasI_hit (g : Nat → Int) (x : Int) (k : Nat) (h : (g k == x) = true) : ∀ n, k < n → hasI g x n = true
  | 0, h' => by omega
  | n + 1, h' => by
    by_cases e : k = n
    · subst e; simp [hasI, h]
    · simp [hasI, hasI_hit g x k h n (by omega)]
theorem con_l2Has (v : T_IntS) (x : Int) (hn : v.1 ≤ 1048576) : Con Try.prog 93 0 [] [inL v, .p (.int .i64 x)] [] (.p (.bool (hasI v.2 x v.1))) := by
  refine con_start Try.func93 rfl (by kernel_rfl) rfl (fun c hc => ?_)
  have lp : ∀ m k, k + m = v.1 → hasI v.2 x k = false → Run Try.prog c 93 [.code (cAt (bodyOf Try.f93) [1, 0, 1, 0, 0]), .inLoop (cAt (bodyOf Try.f93) [1, 0, 1, 0, 0]), .inBlock 0, .code (cAt (bodyOf Try.f93) [1, 1])] (S85 v x k) (Post c [] (.p (.bool (hasI v.2 x v.1)))) := by
    intro m
    induction m with
    | zero =>
      intro k hk hg
      rw [show hasI v.2 x v.1 = false by rw [show v.1 = k by omega]; exact hg]
      have hd : decide ((k : Int) < (v.1 : Int)) = false := by simp; omega
      refine path_ok mixed Try.func93 hc (p85d v x k) ?_
      simp only [All]
      repeat' (first | exact trivial | with_reducible apply And.intro)
      all_goals (first | exact aG _ | exact aP _ _ | exact aA _ _ | exact aE _ | omega | rfl | (intros; first | assumption | exact True.intro | rfl | exact absurd (show false = true by assumption) Bool.false_ne_true | ((repeat' (first | assumption | apply anda | apply notf)); done)))
    | succ m ih =>
      intro k hk hg
      have hd : decide ((k : Int) < (v.1 : Int)) = true := by simp; omega
      cases he : (v.2 k == x) with
      | true =>
        rw [hasI_hit v.2 x k he v.1 (by omega)]
        refine path_ok mixed Try.func93 hc (p85c v x k) ?_
        simp only [All]
        repeat' (first | exact trivial | with_reducible apply And.intro)
        all_goals (first | exact aG _ | exact aP _ _ | exact aA _ _ | exact aE _ | omega | rfl | (intros; first | assumption | exact True.intro | rfl | exact absurd (show false = true by assumption) Bool.false_ne_true | ((repeat' (first | assumption | apply anda | apply notf)); done)) | (exact he))
      | false =>
        refine piece_ok mixed hc (p85b v x k) ?_ (ih (k + 1) (by omega) (by simp only [hasI, hg, he]; rfl))
        simp only [All]
        repeat' (first | exact trivial | with_reducible apply And.intro)
        all_goals (first | exact aG _ | exact aP _ _ | exact aA _ _ | exact aE _ | omega | rfl | (intros; first | assumption | exact True.intro | rfl | exact absurd (show false = true by assumption) Bool.false_ne_true | ((repeat' (first | assumption | apply anda | apply notf)); done)) | (exact he))
  refine piece_ok mixed hc (p85a v x) ?_ (lp v.1 0 (by omega) rfl)
  simp only [All]
  repeat' (first | exact trivial | with_reducible apply And.intro)
  all_goals (first | exact aG _ | exact aP _ _ | exact aA _ _ | exact aE _ | omega | rfl | (intros; first | assumption | exact True.intro | rfl | exact absurd (show false = true by assumption) Bool.false_ne_true | ((repeat' (first | assumption | apply anda | apply notf)); done)))
theorem con_Index (v : T_IntS) (x : Int) (hn : v.1 ≤ 1048576) : ∃ r : Int, decide (r ≥ 0) = hasI v.2 x v.1 ∧ Con Try.prog 118 0 [] [inL v, .p (.int .i64 x)] [] (.p (.int .i64 r)) := by
  have key : (∃ k, k < v.1 ∧ hasI v.2 x k = false ∧ (v.2 k == x) = true) ∨ hasI v.2 x v.1 = false := by
    have gen : ∀ n, (∃ k, k < n ∧ hasI v.2 x k = false ∧ (v.2 k == x) = true) ∨ hasI v.2 x n = false := by
      intro n
      induction n with
      | zero => exact .inr rfl
      | succ n ih =>
        rcases ih with ⟨k, h1, h2⟩ | h
        · exact .inl ⟨k, by omega, h2⟩
        · cases he : (v.2 n == x) with
          | true => exact .inl ⟨n, by omega, h, he⟩
          | false => exact .inr (by simp only [hasI, h, he]; rfl)
    exact gen v.1
  rcases key with ⟨q, hq, hq1, hq2⟩ | hno
  · refine ⟨(q : Int), by rw [hasI_hit v.2 x q hq2 v.1 hq]; simp, ?_⟩
    refine con_start Try.func118 rfl (by kernel_rfl) rfl (fun c hc => ?_)
    have lp : ∀ m k, k + m = q → Run Try.prog c 118 [.code (cAt (bodyOf Try.f118) [1, 0, 1, 0, 0]), .inLoop (cAt (bodyOf Try.f118) [1, 0, 1, 0, 0]), .inBlock 0, .code (cAt (bodyOf Try.f118) [1, 1])] (S112 v x k) (Post c [] (.p (.int .i64 (q : Int)))) := by
      intro m
      induction m with
      | zero =>
        intro k hk
        obtain rfl : k = q := by omega
        have hd : decide ((k : Int) < (v.1 : Int)) = true := by simp; omega
        have he : (x == v.2 k) = true := by rw [beq_iff_eq] at hq2 ⊢; exact hq2.symm
        refine path_ok mixed Try.func118 hc (p112c v x k) ?_
        simp only [All]
        repeat' (first | exact trivial | with_reducible apply And.intro)
        all_goals (first | exact aG _ | exact aP _ _ | exact aA _ _ | exact aE _ | omega | rfl | (intros; first | assumption | exact True.intro | rfl | exact absurd (show false = true by assumption) Bool.false_ne_true | ((repeat' (first | assumption | apply anda | apply notf)); done)) | (exact he))
      | succ m ih =>
        intro k hk
        have hd : decide ((k : Int) < (v.1 : Int)) = true := by simp; omega
        have he : (x == v.2 k) = false := by
          cases h : (v.2 k == x) with
          | true => rw [hasI_hit v.2 x k h q (by omega)] at hq1; cases hq1
          | false =>
            simp only [beq_eq_false_iff_ne, ne_eq] at h ⊢
            exact fun e => h e.symm
        refine piece_ok mixed hc (p112b v x k) ?_ (ih (k + 1) (by omega))
        simp only [All]
        repeat' (first | exact trivial | with_reducible apply And.intro)
        all_goals (first | exact aG _ | exact aP _ _ | exact aA _ _ | exact aE _ | omega | rfl | (intros; first | assumption | exact True.intro | rfl | exact absurd (show false = true by assumption) Bool.false_ne_true | ((repeat' (first | assumption | apply anda | apply notf)); done)) | (exact he))
    refine piece_ok mixed hc (p112a v x) ?_ (lp q 0 (by omega))
    simp only [All]
    repeat' (first | exact trivial | with_reducible apply And.intro)
    all_goals (first | exact aG _ | exact aP _ _ | exact aA _ _ | exact aE _ | omega | rfl | (intros; first | assumption | exact True.intro | rfl | exact absurd (show false = true by assumption) Bool.false_ne_true | ((repeat' (first | assumption | apply anda | apply notf)); done)))
  · refine ⟨-1, by rw [hno]; rfl, ?_⟩
    refine con_start Try.func118 rfl (by kernel_rfl) rfl (fun c hc => ?_)
    have lp : ∀ m k, k + m = v.1 → Run Try.prog c 118 [.code (cAt (bodyOf Try.f118) [1, 0, 1, 0, 0]), .inLoop (cAt (bodyOf Try.f118) [1, 0, 1, 0, 0]), .inBlock 0, .code (cAt (bodyOf Try.f118) [1, 1])] (S112 v x k) (Post c [] (.p (.int .i64 (-1)))) := by
      intro m
      induction m with
      | zero =>
        intro k hk
        have hd : decide ((k : Int) < (v.1 : Int)) = false := by simp; omega
        refine path_ok mixed Try.func118 hc (p112d v x k) ?_
        simp only [All]
        repeat' (first | exact trivial | with_reducible apply And.intro)
        all_goals (first | exact aG _ | exact aP _ _ | exact aA _ _ | exact aE _ | omega | rfl | (intros; first | assumption | exact True.intro | rfl | exact absurd (show false = true by assumption) Bool.false_ne_true | ((repeat' (first | assumption | apply anda | apply notf)); done)))
      | succ m ih =>
        intro k hk
        have hd : decide ((k : Int) < (v.1 : Int)) = true := by simp; omega
        have he : (x == v.2 k) = false := by
          cases h : (v.2 k == x) with
          | true => rw [hasI_hit v.2 x k h v.1 (by omega)] at hno; cases hno
          | false =>
            simp only [beq_eq_false_iff_ne, ne_eq] at h ⊢
            exact fun e => h e.symm
        refine piece_ok mixed hc (p112b v x k) ?_ (ih (k + 1) (by omega))
        simp only [All]
        repeat' (first | exact trivial | with_reducible apply And.intro)
        all_goals (first | exact aG _ | exact aP _ _ | exact aA _ _ | exact aE _ | omega | rfl | (intros; first | assumption | exact True.intro | rfl | exact absurd (show false = true by assumption) Bool.false_ne_true | ((repeat' (first | assumption | apply anda | apply notf)); done)) | (exact he))
    refine piece_ok mixed hc (p112a v x) ?_ (lp v.1 0 (by omega))
    simp only [All]
    repeat' (first | exact trivial | with_reducible apply And.intro)
    all_goals (first | exact aG _ | exact aP _ _ | exact aA _ _ | exact aE _ | omega | rfl | (intros; first | assumption | exact True.intro | rfl | exact absurd (show false = true by assumption) Bool.false_ne_true | ((repeat' (first | assumption | apply anda | apply notf)); done)))
theorem con_Contains (v : T_IntS) (x : Int) (hn : v.1 ≤ 1048576) : Con Try.prog 83 0 [] [inL v, .p (.int .i64 x)] [] (.p (.bool (hasI v.2 x v.1))) := by
  obtain ⟨r, hr, hcon⟩ := con_Index v x hn
  rw [← hr]
  refine con_start Try.func83 rfl (by kernel_rfl) rfl (fun c hc => ?_)
  refine path_ok mixed Try.func83 hc (p90 v x r) ?_
  simp only [All]
  repeat' (first | exact trivial | with_reducible apply And.intro)
  all_goals (first | exact aG _ | exact aP _ _ | exact aA _ _ | exact aE _ | omega | rfl | (intros; first | assumption | exact True.intro | rfl | exact absurd (show false = true by assumption) Bool.false_ne_true | ((repeat' (first | assumption | apply anda | apply notf)); done)) | (exact hcon))
end Go.Proofs.Ytgdbnnmogddkaaa.Mach
