/- What the law Gnx needs, part 2 of 4: the abstract machine and the contracts of the functions. Conditions: as each theorem says. -/
import Derived.ProofKit
import Derived.OpenShut
import Derived.Carry
import Derived.Test.YtffnfeefjdmifaaRows
import Derived.Test.YtffnfeefjdmifaaGnxP1
namespace Go.Proofs.Ytffnfeefjdmifaa.Mach
open Go
set_option linter.unusedVariables false
set_option linter.unusedSimpArgs false
section
variable {P : Program} {ops : Array Oper} {base : Nat} {ss : List OpS} {tr : List (List Nat × Eff)} {envN : List AV} {HN : Hp}
theorem chk_ok (h : chk ops tr = true) {j : Nat} (hj : j < ops.size) : (∃ oj, ops[j]? = some oj ∧ ∀ e ∈ oj.after, Region.binds .any e = true → e.on < j) ∧ ∀ i, i < j → waits ops i j = true ∨ apartAt ops tr i j = true := by
  simp only [chk, List.all_eq_true, List.mem_range, Bool.and_eq_true, Bool.or_eq_true] at h
  obtain ⟨h1, h2⟩ := h j hj
  refine ⟨?_, h2⟩
  split at h1
  · rename_i oj hoj
    refine ⟨oj, hoj, fun e he hb => ?_⟩
    have := Array.all_eq_true_iff_forall_mem.1 h1 e he
    simp only [Bool.or_eq_true, Bool.not_eq_true', Nat.blt_eq] at this
    rcases this with h | h
    · rw [h] at hb; cases hb
    · exact h
  · cases h1
def Upto (ops : Array Oper) (i : Nat) (listed : Array Bool) : Prop := listed.size = ops.size ∧ ∀ j, j < ops.size → listed[j]? = some (decide (j < i))
theorem Upto.getD {i : Nat} {listed : Array Bool} (h : Upto ops i listed) {j : Nat} (hj : j < ops.size) (d : Bool) : listed.getD j d = decide (j < i) := by
  rw [Array.getD_eq_getD_getElem?, h.2 j hj]; rfl
theorem Upto.next {i : Nat} {listed : Array Bool} (h : Upto ops i listed) (hi : i < ops.size) : Upto ops (i + 1) (listed.setIfInBounds i true) := by
  refine ⟨by simp [h.1], fun j hj => ?_⟩
  by_cases hij : i = j
  · subst hij
    simp [h.1, hi]
  · rw [Array.getElem?_setIfInBounds_ne hij, h.2 j hj]
    congr 1
    apply decide_eq_decide.2
    omega
theorem AAny_lex (hc : chk ops tr = true) : ∀ (r : List OpS) (i : Nat) (listed : Array Bool) (env : List AV) (H : Hp) (envN : List AV) (HN : Hp) (tr' : List (List Nat × Eff)), runTr P ops base r i env H = some (envN, HN, tr') →
    (∀ k, r[k]? = ss[i + k]?) → (∀ k, tr'[k]? = tr[i + k]?) → Upto ops i listed → AAny P ops base ss tr envN HN r.length listed env H
  | [], i, listed, env, H, envN, HN, tr', hr, hs, ht, hu => by
    have hi := runTr_len [] i env H hr
    simp only [runTr] at hr
    split at hr
    case isFalse => cases hr
    simp only [Option.some.injEq, Prod.mk.injEq] at hr
    obtain ⟨rfl, rfl, rfl⟩ := hr
    refine ⟨?_, rfl, fun _ => rfl⟩
    rw [List.eq_nil_iff_forall_not_mem]
    intro j hj
    obtain ⟨h1, o, ho, _⟩ := mem_ready.1 hj
    have hjl : j < ops.size := (Array.getElem?_eq_some_iff.1 ho).1
    rw [hu.getD hjl] at h1
    simp at h1 hi
    omega
  | s :: r, i, listed, env, H, envN, HN, tr', hr, hs, ht, hu => by
    have hlen := runTr_len _ i env H hr
    simp only [List.length_cons] at hlen
    have hi : i < ops.size := by omega
    simp only [runTr] at hr
    split at hr
    case h_1 => cases hr
    rename_i x hx
    split at hr
    case h_1 => cases hr
    rename_i y hy
    simp only [Option.some.injEq, Prod.mk.injEq] at hr
    obtain ⟨rfl, rfl, rfl⟩ := hr
    have hs0 : ss.getD i ⟨true, none, none⟩ = s := by
      have := hs 0
      simp only [Nat.add_zero, List.getElem?_cons_zero] at this
      rw [List.getD_eq_getElem?_getD, ← this]; rfl
    have ht0 : trOf tr i = x := by
      have := ht 0
      simp only [Nat.add_zero, List.getElem?_cons_zero] at this
      rw [trOf, List.getD_eq_getElem?_getD, ← this]; rfl
    obtain ⟨⟨oi, hoi, hon⟩, _⟩ := chk_ok hc hi
    refine AAny_first r.length listed env H (fun j hj hji hun hw => ?_) ?_ (by rw [hs0, ht0]; exact hx) ?_
    · rw [hu.getD hj] at hun
      simp only [decide_eq_false_iff_not] at hun
      rcases (chk_ok hc hj).2 i (by omega) with h | h
      · rw [h] at hw; cases hw
      · exact h
    · refine mem_ready.2 ⟨by rw [hu.getD hi]; simp, oi, hoi, fun e he hb => ?_⟩
      have := hon e he hb
      rw [hu.getD (by omega)]
      simpa using this
    · rw [ht0]
      exact AAny_lex hc r (i + 1) _ _ _ _ _ y.2.2 hy (fun k => by have := hs (k + 1); simpa [Nat.add_assoc, Nat.add_comm 1 k] using this)
        (fun k => by have := ht (k + 1); simpa [Nat.add_assoc, Nat.add_comm 1 k] using this) (hu.next hi)
theorem Heq.own {β : Nat → Option Addr} {H H2 : Hp} (h : Heq H H2) : ownOf β H = ownOf β H2 := by
  funext b
  unfold ownOf
  simp only [h _]
theorem Rel.heq {c : Cx} {dom : Nat → Prop} {env : List AV} {H H2 : Hp} {a : Act} {w : World} {β : Nat → Option Addr} (h : Rel c dom env H a w β) (hq : Heq H H2) : Rel c dom env H2 a w β := by
  have ho := hq.own (β := β)
  have hw : ow c.X β H = ow c.X β H2 := by funext t b; unfold ow; rw [ho]
  refine ⟨fun o ob hl => ?_, fun o o' ob ob' a a' h1 h2 => h.sep o o' ob ob' a a' (by rw [hq o]; exact h1) (by rw [hq o']; exact h2), by rw [← hw]; exact h.ev, h.len, h.dfr, fun k hk => h.dom k (by rw [hq k]; exact hk), by rw [← hw]; exact h.ext, by rw [← ho]; exact h.xs, by rw [← ho]; exact h.own, h.init⟩
  rw [← hw]
  exact h.hr o ob (by rw [hq o]; exact hl)
def domL (base : Nat) (listed : Array Bool) (k : Nat) : Prop := k < base ∨ ∃ i, listed.getD i false = true ∧ base + 32 * i ≤ k ∧ k < base + 32 * i + 32
theorem AAny_sound {c : Cx} (hn : c.n ≤ base) {Q : Exit → Act → World → Prop} (hob : ∀ i, ∀ p ∈ (trOf tr i).2.ob, p)
    (hQ : ∀ a' w' β', Rel c (fun k => k < base + 32 * ops.size) envN HN a' w' β' → Q .normal a' w') :
    ∀ (fuel : Nat) (listed : Array Bool) (env : List AV) (H : Hp) (a : Act) (w : World) (β : Nat → Option Addr), listed.size = ops.size → Rel c (domL base listed) env H a w β →
      AAny P ops base ss tr envN HN fuel listed env H → wpAny P .any ops Q fuel listed a w := by
  have fin : ∀ (listed : Array Bool) (env : List AV) (H : Hp) (a : Act) (w : World) (β : Nat → Option Addr), listed.size = ops.size → Rel c (domL base listed) env H a w β → env = envN → Heq H HN → Q .normal a w := by
    intro listed env H a w β hl hr he hq
    subst he
    refine hQ a w β ((hr.heq hq).dom_mono (fun k hk => ?_))
    rcases hk with h | ⟨i, h1, h2, h3⟩
    · omega
    · have : i < listed.size := by
        rcases Nat.lt_or_ge i listed.size with h' | h'
        · exact h'
        · simp [Array.getElem?_eq_none h'] at h1
      omega
  intro fuel
  induction fuel with
  | zero => intro listed env H a w β hl hr h; exact ⟨h.1, fin listed env H a w β hl hr h.2.1 h.2.2⟩
  | succ fuel ih =>
    intro listed env H a w β hl hr h
    refine ⟨fun h0 => fin listed env H a w β hl hr (h.1 h0).1 (h.1 h0).2, fun i hi => ?_⟩
    obtain ⟨h1, h2⟩ := h.2 i hi
    obtain ⟨hun, oi, hoi, _⟩ := mem_ready.1 hi
    refine stepOp_ok (rd := (trOf tr i).1) (e := (trOf tr i).2) hr (fun k k1 k2 hd => ?_) hn h1 (hob i) (fun a' w' β' hr' => ?_)
    · rcases hd with hd | ⟨i', g1, g2, g3⟩
      · omega
      · have : i' = i := by omega
        subst this
        rcases Nat.lt_or_ge i' listed.size with h' | h'
        · simp [h'] at hun g1; rw [hun] at g1; cases g1
        · simp [Array.getElem?_eq_none h'] at g1
    · refine ih _ _ _ a' w' β' (by simp [hl]) (hr'.dom_mono (fun k hk => ?_)) h2
      rcases hk with hk | hk
      · rcases hk with hk | ⟨i', g1, g2⟩
        · exact .inl hk
        · exact .inr ⟨i', getD_set_true g1, g2⟩
      · have hil : i < listed.size := by rw [hl]; exact (Array.getElem?_eq_some_iff.1 hoi).1
        exact .inr ⟨i, by simp [Array.getD_eq_getD_getElem?, hil], hk⟩
theorem region_ok {c : Cx} {id : Nat} {draw : Bool} {env env' : List AV} {H H' : Hp} {a : Act} {w : World} {β : Nat → Option Addr} (hm : P.follows .mixedOrders = true) (hn : c.n ≤ base)
    (hr : runTr P ops base ss 0 env H = some (env', H', tr)) (hob : ∀ p ∈ obsOf tr, p) (hc : draw = true → chk ops tr = true) (h : Rel c (fun k => k < base) env H a w β)
    {Q : Exit → Act → World → Prop} (hQ : ∀ a' w' β', Rel c (fun k => k < base + 32 * ops.size) env' H' a' w' β' → Q .normal a' w') : (Code.region id ops draw).wp P Q a w := by
  have hlen := runTr_len ss 0 env H hr
  cases draw with
  | false =>
    refine wp_region ?_
    have := seq_ok (Q := Q) hn ss 0 env H a w β env' H' tr hr hob (h.dom_mono (fun k hk => by omega)) hQ
    rw [List.range_eq_range', show ops.size = ss.length by omega]
    exact this
  | true =>
    refine wp_region_any hm ?_
    have hE : ∀ own : Bool → Nat → Prop, Ext w own { w with drawn := w.drawn + 1 } own := fun own => ⟨rfl, rfl, rfl, Nat.le_refl _, fun _ _ _ _ => rfl, fun _ _ _ h => h, fun _ c e f h => ⟨c, e, f, h, Nat.le_refl _⟩, fun _ es ck h => ⟨es, ck, h⟩⟩
    have hd : Rel c (fun k => k < base) env H a { w with drawn := w.drawn + 1 } β :=
      { hr := fun o ob hl => by
          rcases h.hr o ob hl with h' | ⟨b, bs, cells, elem, h1, h2, h3⟩ | h'
          · exact .inl h'
          · refine .inr (.inl ⟨b, bs, cells, elem, h1, h2, fun i hi j hj => ?_⟩)
            obtain ⟨v, g1, g2, g3⟩ := h3 i hi j hj
            exact ⟨v, g1, g2, g3.ext (hE _) (fun _ _ h => h)⟩
          · exact .inr (.inr h')
        sep := h.sep
        ev := fun t => (h.ev t).ext (hE _) (fun _ _ h => h)
        len := h.len, dfr := h.dfr, dom := h.dom
        ext := h.ext.trans (hE _)
        xs := h.xs, own := h.own, init := h.init }
    have hob' : ∀ i, ∀ p ∈ (trOf tr i).2.ob, p := by
      intro i p hp
      unfold trOf at hp
      rw [List.getD_eq_getElem?_getD] at hp
      cases hi : tr[i]? with
      | none => rw [hi] at hp; simp at hp
      | some x =>
        rw [hi] at hp
        exact hob p (List.mem_flatten.2 ⟨x.2.ob, List.mem_map.2 ⟨x, List.mem_of_getElem? hi, rfl⟩, hp⟩)
    have hu : Upto ops 0 (Array.replicate ops.size false) := ⟨by simp, fun j hj => by simp [hj]⟩
    have hlex := AAny_lex (ss := ss) (hc rfl) ss 0 (Array.replicate ops.size false) env H env' H' tr hr (fun k => by simp) (fun k => by simp) hu
    have hl : ss.length = ops.size := by omega
    rw [hl] at hlex
    exact AAny_sound hn hob' hQ ops.size _ env H a _ β (by simp) (hd.dom_mono (fun k hk => .inl hk)) hlex
end
end Go.Proofs.Ytffnfeefjdmifaa.Mach
namespace Go.Proofs.Ytffnfeefjdmifaa.Mach
open Go
set_option linter.unusedVariables false
set_option linter.unusedSimpArgs false
structure St where
  env : List AV
  H : Hp
  ctr : Nat
def Run (P : Program) (c : Cx) (f : FuncId) (k : List Item) (st : St) (R : Ending → World → Prop) : Prop :=
  c.n ≤ st.ctr → ∀ (b : Frame) (cs : List Frame) (a : Act) (w : World) (β : Nat → Option Addr), b.fn = f → b.kind = .normal → Rel c (fun k => k < st.ctr) st.env st.H a w β →
    ∃ e w' fr, R e w' ∧ Comes P (lone (b.at a k) cs w) (lone fr cs w') e ∧ fr.fn = f ∧ fr.leaving P w' e
inductive ScI where
  | reg (ss : List OpS)
  | dec (b : Bool)
  | loop
  | head
section
variable {P : Program} {c : Cx} {f : FuncId} {R : Ending → World → Prop}
theorem Run.step {k k' : List Item} {st : St} (h : ∀ (b : Frame) (cs : List Frame) (a : Act) (w : World), Steps P (lone (b.at a k) cs w) (lone (b.at a k') cs w)) (hr : Run P c f k' st R) : Run P c f k st R := by
  intro hn b cs a w β h1 h2 h3
  obtain ⟨e, w', fr, g1, g2, g3, g4⟩ := hr hn b cs a w β h1 h2 h3
  exact ⟨e, w', fr, g1, g2.of_steps (h b cs a w), g3, g4⟩
def runTo (P : Program) : Nat → List ScI → List Item → St → Option (List Item × St × List Prop)
  | 0, _, _, _ => none
  | fuel + 1, sc, k, st =>
    match k with
    | [] => match sc with
      | [] => some ([], st, [])
      | _ => none
    | .inBlock _ :: k => runTo P fuel sc k st
    | .inScope _ :: k => runTo P fuel sc k st
    | .inLoop body :: k => match sc with
      | .loop :: sc => runTo P fuel sc (.code body :: .inLoop body :: k) st
      | .head :: _ => some (.code body :: .inLoop body :: k, st, [])
      | _ => none
    | .code code :: k =>
      match code with
      | .seq a b => runTo P fuel sc (.code a :: .code b :: k) st
      | .skip => runTo P fuel sc k st
      | .label _ => runTo P fuel sc k st
      | .block id body => runTo P fuel sc (.code body :: .inBlock id :: k) st
      | .scope body => runTo P fuel sc (.code body :: .inScope body :: k) st
      | .exit id => match exitTo id k with
        | some k' => runTo P fuel sc k' st
        | none => none
      | .loop body => match sc with
        | .loop :: sc => runTo P fuel sc (.code body :: .inLoop body :: k) st
        | .head :: _ => some (.code body :: .inLoop body :: k, st, [])
        | _ => none
      | .cond cnd x y => match sc with
        | .dec b :: sc => match evA st.env cnd with
          | .p (.bool v) => match runTo P fuel sc (.code (if b then x else y) :: k) st with
            | some (k', st', ob) => some (k', st', (v = b) :: ob)
            | none => none
          | _ => none
        | _ => none
      | .region rid ops draw => match sc with
        | .head :: _ => some (.code (.region rid ops draw) :: k, st, [])
        | .reg ss :: sc => match runTr P ops st.ctr ss 0 st.env st.H with
          | some (env', H', tr) =>
            if !draw || chk ops tr then
              match runTo P fuel sc k ⟨env', H', st.ctr + 32 * ops.size⟩ with
              | some (k', st', ob) => some (k', st', obsOf tr ++ ob)
              | none => none
            else none
          | none => none
        | _ => none
      | .ret => match sc with
        | [] => some (.code .ret :: k, st, [])
        | _ => none
      | _ => none
    | _ => none
theorem runTo_ok (hm : P.follows .mixedOrders = true) : ∀ (fuel : Nat) (sc : List ScI) (k : List Item) (st : St) (k' : List Item) (st' : St) (ob : List Prop), runTo P fuel sc k st = some (k', st', ob) → (∀ p ∈ ob, p) →
    Run P c f k' st' R → Run P c f k st R := by
  intro fuel
  induction fuel with
  | zero => intro sc k st k' st' ob h; cases h
  | succ fuel ih =>
    intro sc k st k' st' ob h hob hr
    unfold runTo at h
    split at h
    ·
      split at h
      · cases h; exact hr
      · cases h
    · exact Run.step (fun b cs a w => .one step_inBlock) (ih _ _ _ _ _ _ h hob hr)
    · exact Run.step (fun b cs a w => .one (step_lone_go (by simp [stepG, stepG.exec, Frame.at]))) (ih _ _ _ _ _ _ h hob hr)
    · split at h
      · exact Run.step (fun b cs a w => .one step_inLoop) (ih _ _ _ _ _ _ h hob hr)
      · cases h; exact Run.step (fun b cs a w => .one step_inLoop) hr
      · cases h
    · rename_i code k
      split at h
      · exact Run.step (fun b cs a w => .one step_seq) (ih _ _ _ _ _ _ h hob hr)
      · exact Run.step (fun b cs a w => .one step_skip) (ih _ _ _ _ _ _ h hob hr)
      · exact Run.step (fun b cs a w => .one step_label) (ih _ _ _ _ _ _ h hob hr)
      · exact Run.step (fun b cs a w => .one step_block) (ih _ _ _ _ _ _ h hob hr)
      · exact Run.step (fun b cs a w => .one (step_lone_go (by simp [stepG, stepG.exec, Frame.at]))) (ih _ _ _ _ _ _ h hob hr)
      · split at h
        · rename_i k2 hk2
          exact Run.step (fun b cs a w => .one (step_exit hk2)) (ih _ _ _ _ _ _ h hob hr)
        · cases h
      · split at h
        · exact Run.step (fun b cs a w => .one step_loop) (ih _ _ _ _ _ _ h hob hr)
        · cases h; exact Run.step (fun b cs a w => .one step_loop) hr
        · cases h
      ·
        rename_i cnd x y
        split at h
        case h_2 => cases h
        rename_i b sc
        split at h
        case h_2 => cases h
        rename_i v hv
        split at h
        case h_2 => cases h
        rename_i k2 st2 ob2 h2
        simp only [Option.some.injEq, Prod.mk.injEq] at h
        obtain ⟨rfl, rfl, rfl⟩ := h
        have hvb : v = b := hob _ (by simp)
        have hrun := ih _ _ _ _ _ _ h2 (fun p hp => hob p (by simp [hp])) hr
        intro hn fr cs a w β h1 h3 hrel
        have hc := evA_ok hrel.ev cnd
        rw [hv] at hc
        have hcv : a.eval cnd = .bool b := by
          generalize a.eval cnd = z at hc
          cases hc with
          | p _ _ hp => cases hp; rw [hvb]
        obtain ⟨e, w', fr', g1, g2, g3, g4⟩ := hrun hn fr cs a w β h1 h3 hrel
        exact ⟨e, w', fr', g1, g2.of_steps (.one (step_cond hcv)), g3, g4⟩
      ·
        rename_i id ops draw
        split at h
        case h_1 => cases h; exact hr
        case h_3 => cases h
        rename_i ss sc
        split at h
        case h_2 => cases h
        rename_i env' H' tr htr
        split at h
        case isFalse => cases h
        rename_i hd
        split at h
        case h_2 => cases h
        rename_i k2 st2 ob2 h2
        simp only [Option.some.injEq, Prod.mk.injEq] at h
        obtain ⟨rfl, rfl, rfl⟩ := h
        have hrun := ih _ _ _ _ _ _ h2 (fun p hp => hob p (List.mem_append_right _ hp)) hr
        intro hn fr cs a w β h1 h3 hrel
        have hwp := region_ok (id := id) (draw := draw) (Q := fun ex a' w' => ex = .normal ∧ ∃ β', Rel c (fun k => k < st.ctr + 32 * ops.size) env' H' a' w' β') hm hn htr (fun p hp => hob p (List.mem_append_left _ hp))
          (fun h => by rw [h] at hd; simpa using hd) hrel (fun a' w' β' h => ⟨rfl, β', h⟩)
        obtain ⟨ex, a', w', ⟨rfl, β', hrel'⟩, harr⟩ := hwp fr k cs
        obtain ⟨e, w2, fr', g1, g2, g3, g4⟩ := hrun (by simp only; omega) fr cs a' w' β' h1 h3 hrel'
        exact ⟨e, w2, fr', g1, g2.of_steps harr, g3, g4⟩
      · split at h
        · cases h; exact hr
        · cases h
      · cases h
    · cases h
end
end Go.Proofs.Ytffnfeefjdmifaa.Mach
namespace Go.Proofs.Ytffnfeefjdmifaa.Mach
open Go
set_option linter.unusedVariables false
set_option linter.unusedSimpArgs false
def wkP : PV → PV → List Prop
  | .int k n, .int k' n' => if ikEq k k' then [n = n'] else [False]
  | .bool b, .bool b' => [b = b']
  | .str s, .str s' => [s = s']
  | .nil, .nil => []
  | .nil, .seq _ _ n' _ => [n' = 0]
  | .seq t z n f, .seq t' z' n' f' => if t == t' && z == z' then [n = n', ∀ i, i < n → f i = f' i] else [False]
  | .fn f, .fn f' => [f = f']
  | _, .any => []
  | _, _ => [False]
mutual
def wk : AV → AV → List Prop
  | .p v, .p v' => wkP v v'
  | .p v, .ar _ _ _ n' => match v with
    | .nil => [n' = 0]
    | _ => [False]
  | .ar z o off n, .ar z' o' off' n' => if z == z' && o == o' then [off = off', n = n'] else [False]
  | .pt z o row off, .pt z' o' row' off' => if z == z' && o == o' && off == off' then [row = row'] else [False]
  | .ip t cs, .ip t' cs' => [t = t', cs = cs']
  | .mp o, .mp o' => if o == o' then [] else [False]
  | .agg cs, .agg cs' => wkL cs cs'
  | .tup cs, .tup cs' => wkL cs cs'
  | .clo f cs, .clo f' cs' => if f == f' then wkL cs cs' else [False]
  | .cnd g v, .cnd g' v' => [g = g', AV.cnd g v = .cnd g v']
  | _, .p .any => []
  | _, _ => [False]
def wkL : List AV → List AV → List Prop
  | [], [] => []
  | v :: l, v' :: l' => wk v v' ++ wkL l l'
  | _, _ => [False]
end
theorem wkL_length : ∀ (l l' : List AV), All (wkL l l') → l.length = l'.length
  | [], [], _ => rfl
  | v :: l, v' :: l', h => by simp only [wkL] at h; simp [wkL_length l l' (All_app h).2]
  | [], _ :: _, h => by simp [wkL, All] at h
  | _ :: _, [], h => by simp [wkL, All] at h
theorem wkL_getD : ∀ (l l' : List AV) (j : Nat), All (wkL l l') → j < l.length → All (wk (l.getD j anyA) (l'.getD j anyA))
  | [], _, j, _, hj => by simp at hj
  | v :: l, v' :: l', 0, h, _ => by simp only [wkL] at h; simpa using (All_app h).1
  | v :: l, v' :: l', j + 1, h, hj => by simp only [wkL] at h; simpa using wkL_getD l l' j (All_app h).2 (by simpa using hj)
  | _ :: _, [], _, h, _ => by simp [wkL, All] at h
theorem seq_ext {w : World} {own : Bool → Nat → Prop} {t : Bool} {z n : Nat} {f f' : Nat → List PV} {x : Value} (h : PR w own (.seq t z n f) x) (hf : ∀ i, i < n → f i = f' i) : PR w own (.seq t z n f') x := by
  cases h with
  | seq0 _ _ _ a c => exact .seq0 _ _ _ _ _
  | seq _ _ _ _ b off c g hb hlt hc hcell hone hp => exact .seq _ _ _ _ b off c g hb hlt hc hcell hone (fun i hi j hj => by rw [← hf i hi]; exact hp i hi j hj)
theorem wkP_ok {w : World} {own : Bool → Nat → Prop} {v v' : PV} {x : Value} (h : PR w own v x) (ho : All (wkP v v')) : PR w own v' x := by
  unfold wkP at ho
  split at ho
  · split at ho
    · rename_i hk
      obtain rfl := ikEq_eq hk
      obtain ⟨rfl, _⟩ := ho; exact h
    · exact ho.1.elim
  · obtain ⟨rfl, _⟩ := ho; exact h
  · obtain ⟨rfl, _⟩ := ho; exact h
  · exact h
  · obtain ⟨rfl, _⟩ := ho; cases h; exact .seq0 _ _ _ _ _
  · split at ho
    · rename_i hz
      simp only [Bool.and_eq_true, beq_iff_eq] at hz
      obtain ⟨rfl, rfl⟩ := hz
      obtain ⟨rfl, hf, _⟩ := ho; exact seq_ext h hf
    · exact ho.1.elim
  · obtain ⟨rfl, _⟩ := ho; exact h
  · exact .any _
  · exact ho.1.elim
theorem wk_ok {w : World} {β : Nat → Option Addr} {own : Bool → Nat → Prop} {v : AV} {x : Value} (h : VR w β own v x) : ∀ v' : AV, All (wk v v') → VR w β own v' x := by
  induction h with
  | p u x hp =>
    intro v' ho
    cases v' <;> simp only [wk] at ho <;> try (exact ho.1.elim)
    · exact .p _ _ (wkP_ok hp ho)
    · split at ho
      · obtain ⟨rfl, _⟩ := ho
        cases hp
        exact .ar0 _ _ _ _
      · exact ho.1.elim
  | ar0 z o off a =>
    intro v' ho
    cases v' with
    | ar z' o' off' n' =>
      simp only [wk] at ho
      split at ho
      · rename_i hz
        simp only [Bool.and_eq_true, beq_iff_eq] at hz
        obtain ⟨rfl, rfl⟩ := hz
        obtain ⟨rfl, rfl, _⟩ := ho
        exact .ar0 _ _ _ _
      · exact ho.1.elim
    | p u => cases u <;> simp only [wk] at ho <;> first | exact .any _ | exact ho.1.elim
    | _ => simp only [wk] at ho; exact ho.1.elim
  | ar z o off n b base c cells elem fr hβ hh hsz hc =>
    intro v' ho
    cases v' with
    | ar z' o' off' n' =>
      simp only [wk] at ho
      split at ho
      · rename_i hz
        simp only [Bool.and_eq_true, beq_iff_eq] at hz
        obtain ⟨rfl, rfl⟩ := hz
        obtain ⟨rfl, rfl, _⟩ := ho
        exact .ar _ _ _ _ b base c cells elem fr hβ hh hsz hc
      · exact ho.1.elim
    | p u => cases u <;> simp only [wk] at ho <;> first | exact .any _ | exact ho.1.elim
    | _ => simp only [wk] at ho; exact ho.1.elim
  | pt z o row off b base hβ =>
    intro v' ho
    cases v' with
    | pt z' o' row' off' =>
      simp only [wk] at ho
      split at ho
      · rename_i hz
        simp only [Bool.and_eq_true, beq_iff_eq] at hz
        obtain ⟨⟨rfl, rfl⟩, rfl⟩ := hz
        obtain ⟨rfl, _⟩ := ho
        exact .pt _ _ _ _ b base hβ
      · exact ho.1.elim
    | p u => cases u <;> simp only [wk] at ho <;> first | exact .any _ | exact ho.1.elim
    | _ => simp only [wk] at ho; exact ho.1.elim
  | ip t cs b off g hb hlt hcell hone hp =>
    intro v' ho
    cases v' with
    | ip t' cs' =>
      simp only [wk] at ho
      obtain ⟨rfl, rfl, _⟩ := ho
      exact .ip t cs b off g hb hlt hcell hone hp
    | p u => cases u <;> simp only [wk] at ho <;> first | exact .any _ | exact ho.1.elim
    | _ => simp only [wk] at ho; exact ho.1.elim
  | mp o b hβ hm =>
    intro v' ho
    cases v' with
    | mp o' =>
      simp only [wk] at ho
      split at ho
      · rename_i hz
        have hz : o = o' := by simpa using hz
        subst hz
        exact .mp _ b hβ hm
      · exact ho.1.elim
    | p u => cases u <;> simp only [wk] at ho <;> first | exact .any _ | exact ho.1.elim
    | _ => simp only [wk] at ho; exact ho.1.elim
  | agg cs vs hl hone h ih =>
    intro v' ho
    cases v' with
    | agg cs' =>
      simp only [wk] at ho
      have hlen := wkL_length _ _ ho
      exact .agg _ _ (by omega) (fun j hj => hone j (by omega)) (fun j hj => ih j (by omega) _ (wkL_getD _ _ j ho (by omega)))
    | p u => cases u <;> simp only [wk] at ho <;> first | exact .any _ | exact ho.1.elim
    | _ => simp only [wk] at ho; exact ho.1.elim
  | tup cs vs hl h ih =>
    intro v' ho
    cases v' with
    | tup cs' =>
      simp only [wk] at ho
      have hlen := wkL_length _ _ ho
      exact .tup _ _ (by omega) (fun j hj => ih j (by omega) _ (wkL_getD _ _ j ho (by omega)))
    | p u => cases u <;> simp only [wk] at ho <;> first | exact .any _ | exact ho.1.elim
    | _ => simp only [wk] at ho; exact ho.1.elim
  | clo f cs vs hl h ih =>
    intro v' ho
    cases v' with
    | clo f' cs' =>
      simp only [wk] at ho
      split at ho
      · rename_i hz
        have hz : f = f' := by simpa using hz
        subst hz
        have hlen := wkL_length _ _ ho
        exact .clo _ _ _ (by omega) (fun j hj => ih j (by omega) _ (wkL_getD _ _ j ho (by omega)))
      · exact ho.1.elim
    | p u => cases u <;> simp only [wk] at ho <;> first | exact .any _ | exact ho.1.elim
    | _ => simp only [wk] at ho; exact ho.1.elim
  | cnd g v x h h' ih =>
    intro v' ho
    cases v' with
    | cnd g' v' =>
      simp only [wk] at ho
      obtain ⟨rfl, he, _⟩ := ho
      rw [← he]
      exact .cnd g v x h h'
    | p u => cases u <;> simp only [wk] at ho <;> first | exact .any _ | exact ho.1.elim
    | _ => simp only [wk] at ho; exact ho.1.elim
def cvS (H : Hp) (keep : List Nat) (d : Nat) : List AV → List AV → List Prop
  | _, [] => []
  | [], _ :: _ => [False]
  | s :: l, t :: l' =>
    (match t with
     | .p .any => []
     | _ => (cvt false H keep d s).2 ++ wk (cvt false H keep d s).1 t) ++ cvS H keep d l l'
def cvH (H : Hp) (keep : List Nat) (d : Nat) : Hp → List Prop
  | [] => []
  | (k, ob') :: r =>
    (match keep[k]? with
     | some o => (match H.lookup o with
       | some ob =>
         (match ob'.z with
          | 0 => [ob'.n = ob.n, ob.bx = false, ob'.bx = false]
          | _ + 1 => []) ++
         (match ob'.bx with
          | true => [ob.z = ob'.z, ob'.n ≤ ob.n, ob'.n ≤ 1] ++ ((cvtL false H keep d (ob.f 0)).2 ++ wkL (cvtL false H keep d (ob.f 0)).1 (ob'.f 0))
          | false => [ob.z = ob'.z, ob'.n ≤ ob.n, ∀ i, i < ob'.n → All ((cvtL false H keep d (ob.f i)).2) ∧ (cvtL false H keep d (ob.f i)).1 = ob'.f i])
       | none => [False])
     | none => [ob'.n = 0]) ++ cvH H keep d r
def keepB (n m : Nat) (keep : List Nat) (H' : Hp) : Bool := (List.range n).all fun k => keep[k]? == some k || ((H'.lookup k).isNone && match keep[k]? with
  | some q => Nat.ble m q
  | none => false)
def convOb (n : Nat) (st : St) (keep : List Nat) (d : Nat) (st' : St) : List Prop :=
  (if keepB n st.ctr keep st'.H && nodupB keep && Nat.ble keep.length st'.ctr && Nat.ble n st'.ctr && st'.H.all (fun e => Nat.blt e.1 st'.ctr) then [] else [False]) ++ cvS st.H keep d st.env st'.env ++ cvH st.H keep d st'.H
theorem cvS_ok {H : Hp} {keep : List Nat} {d : Nat} : ∀ (l l' : List AV), All (cvS H keep d l l') → l'.length ≤ l.length ∧ ∀ j, l'.getD j anyA = anyA ∨ (All (cvt false H keep d (l.getD j anyA)).2 ∧ All (wk (cvt false H keep d (l.getD j anyA)).1 (l'.getD j anyA)))
  | l, [], _ => ⟨by simp, fun j => .inl (by simp)⟩
  | [], t :: l', h => by simp [cvS, All] at h
  | s :: l, t :: l', h => by
    simp only [cvS] at h
    obtain ⟨h1, h2⟩ := All_app h
    obtain ⟨g1, g2⟩ := cvS_ok l l' h2
    refine ⟨by simpa using g1, fun j => ?_⟩
    cases j with
    | zero =>
      simp only [List.getD_cons_zero]
      split at h1
      · exact .inl rfl
      · exact .inr (All_app h1)
    | succ j => simpa using g2 j
theorem cvH_ok {H : Hp} {keep : List Nat} {d : Nat} : ∀ (H' : Hp), All (cvH H keep d H') → ∀ k ob', H'.lookup k = some ob' → (keep[k]? = none ∧ ob'.n = 0) ∨ ∃ o ob, keep[k]? = some o ∧ H.lookup o = some ob ∧ ob.z = ob'.z ∧ ob'.n ≤ ob.n ∧
    (∀ i, i < ob'.n → All ((cvtL false H keep d (ob.f i)).2) ∧ ∀ j, (cvtL false H keep d (ob.f i)).1.getD j anyA = (ob'.f i).getD j anyA ∨ All (wk ((cvtL false H keep d (ob.f i)).1.getD j anyA) ((ob'.f i).getD j anyA))) ∧
      (ob'.z = 0 → ob'.n = ob.n ∧ ob'.bx = false ∧ ∀ i, i < ob'.n → (cvtL false H keep d (ob.f i)).1 = ob'.f i)
  | [], _, k, ob', h => by simp at h
  | (j, x) :: r, ha, k, ob', h => by
    simp only [cvH] at ha
    obtain ⟨h1, h2⟩ := All_app ha
    simp only [List.lookup_cons] at h
    by_cases hk : k = j
    · subst hk
      simp only [beq_self_eq_true, Option.some.injEq] at h
      subst h
      split at h1
      · rename_i o hkk
        split at h1
        · rename_i ob hob
          obtain ⟨h0, h1⟩ := All_app h1
          have hz : x.z = 0 → x.n = ob.n ∧ x.bx = false := by
            intro hz
            rw [hz] at h0
            exact ⟨h0.1, h0.2.2.1⟩
          split at h1
          · rename_i hbx
            obtain ⟨⟨g1, g2, g3, _⟩, g5⟩ := All_app h1
            obtain ⟨g6, g7⟩ := All_app g5
            refine .inr ⟨o, ob, hkk, hob, g1, g2, fun i hi => ?_, fun h => by have := (hz h).2; rw [hbx] at this; cases this⟩
            obtain rfl : i = 0 := by omega
            refine ⟨g6, fun j => ?_⟩
            by_cases hj : j < (cvtL false H keep d (ob.f 0)).1.length
            · exact .inr (wkL_getD _ _ j g7 hj)
            · have hl := wkL_length _ _ g7
              left
              rw [List.getD_eq_getElem?_getD, List.getD_eq_getElem?_getD, List.getElem?_eq_none (by omega), List.getElem?_eq_none (by omega)]
          · obtain ⟨g1, g2, g3, _⟩ := h1
            exact .inr ⟨o, ob, hkk, hob, g1, g2, fun i hi => ⟨(g3 i hi).1, fun j => .inl (by rw [(g3 i hi).2])⟩, fun h => ⟨(hz h).1, (hz h).2, fun i hi => (g3 i hi).2⟩⟩
        · exact h1.1.elim
      · rename_i hkk
        exact .inl ⟨hkk, h1.1⟩
    · have : (k == j) = false := by simpa using hk
      rw [this] at h
      exact cvH_ok r h2 k ob' h
section
variable {P : Program} {c : Cx} {f : FuncId} {R : Ending → World → Prop}
theorem Rel.conv0 {dom : Nat → Prop} {env env' : List AV} {H H' : Hp} {a : Act} {w : World} {β : Nat → Option Addr} {keep : List Nat} {d : Nat} (h : Rel c dom env H a w β)
    (hnd : keep.Nodup) (hS : All (cvS H keep d env env')) (hH : All (cvH H keep d H')) :
    Rel { c with n := 0 } (fun k => k < keep.length ∨ H'.lookup k ≠ none) env' H' a w (subβ β keep) ∧
      ∀ (x : AV) (v : Value) (x' : AV), VR w β (ow c.X β H) x v → All (cvt false H keep d x).2 → All (wk (cvt false H keep d x).1 x') → VR w (subβ β keep) (ow c.X (subβ β keep) H') x' v := by
  have hh := cvH_ok H' hH
  have cls : ∀ b, ownOf (subβ β keep) H' b → ∃ (k o : Nat) (ob : Ob) (a : Addr), keep[k]? = some o ∧ H.lookup o = some ob ∧ β o = some a ∧ a.block = b := by
    rintro b ⟨k, ob', a, h1, h2, h3⟩
    rcases hh k ob' h1 with ⟨q1, _⟩ | ⟨o, ob, g1, g2, _⟩
    · simp [subβ, q1] at h2
    have : β o = some a := by simpa [subβ, g1] using h2
    exact ⟨k, o, ob, a, g1, g2, this, h3⟩
  have own_own : ∀ b, ownOf (subβ β keep) H' b → ownOf β H b := by
    intro b hb
    obtain ⟨k, o, ob, a, g1, g2, g3, g4⟩ := cls b hb
    exact ⟨o, ob, a, g2, g3, g4⟩
  have hc : ∀ t b, ow c.X (subβ β keep) H' t b → ow c.X β H t b := fun t b h => h.imp (own_own b) id
  have hc' : ∀ t b, ow c.X (subβ β keep) H' true b → ow c.X β H t b := by
    rintro t b (h | ⟨h, _⟩)
    · exact .inl (own_own b h)
    · cases h
  have hfree : ∀ o ob a, H.lookup o = some ob → idx o keep 0 = none → β o = some a → ¬ ow c.X (subβ β keep) H' false a.block := by
    rintro o ob a h1 h2 h3 (h' | ⟨_, h'⟩)
    · obtain ⟨k, o', ob', a', g1, g2, g3, g4⟩ := cls _ h'
      have : o' = o := h.sep o' o ob' ob a' a g2 h1 g3 h3 g4
      subst this
      exact idx_none keep 0 h2 (List.mem_of_getElem? g1)
    · exact (h.xs _ h').2 ⟨o, ob, a, h1, h3, rfl⟩
  have cv := fun (x : AV) (v : Value) (hv : VR w β (ow c.X β H) x v) (hb : All (cvt false H keep d x).2) => cvt_ok (t := false) (L := H) (pass := keep) h.hr (fun _ _ h => h) hc hc' hfree d x v hv hb
  have ext : Ext w (ow c.X β H) w (ow c.X (subβ β keep) H') := Ext.sub hc
  obtain ⟨hl, hs⟩ := cvS_ok env env' hS
  refine ⟨⟨?_, ?_, fun t => ?_, Nat.le_trans hl h.len, h.dfr, fun k hk' => ?_, h.ext.trans ext, fun b hb => ⟨(h.xs b hb).1, fun ho => (h.xs b hb).2 (own_own b ho)⟩, fun b hb => h.own b (own_own b hb), fun k hk' => ?_⟩, ?_⟩
  · intro k ob' hk'
    rcases hh k ob' hk' with ⟨q1, q2⟩ | ⟨o, ob, g1, g2, g3, g4, g5, g6⟩
    · exact .inl ⟨by simp [subβ, q1], q2⟩
    have hβ : subβ β keep k = β o := by simp [subβ, g1]
    rcases h.hr o ob g2 with h' | ⟨b, base, cells, elem, h1, h2, h3⟩ | ⟨m1, m2, b, es, ck, m3, m4, m5, K, V, m6⟩
    rotate_left 2
    · obtain ⟨n1, n2, n3⟩ := g6 (by omega)
      refine .inr (.inr ⟨by omega, n2, b, es, ck, by rw [hβ]; exact m3, m4, by omega, K, V, fun i hi => ⟨?_, (m6 i (by omega)).2⟩⟩)
      rw [← n3 i hi, (m6 i (by omega)).1]
      simp [cvtL, cvt, tg]
    · exact .inl ⟨by rw [hβ]; exact h'.1, by omega⟩
    · refine .inr (.inl ⟨b, base, cells, elem, by rw [hβ]; exact h1, h2, fun i hi j hj => ?_⟩)
      obtain ⟨v, k1, k2, k3⟩ := h3 i (by omega) j (by omega)
      rw [g3] at k1
      refine ⟨v, k1, k2, ?_⟩
      obtain ⟨m1, m2⟩ := g5 i hi
      have hcv := cv _ v k3 (cvtL_ob false H keep d _ j m1)
      rw [← cvtL_getD] at hcv
      rcases m2 j with m2 | m2
      · rw [← m2]; exact hcv
      · exact wk_ok hcv _ m2
  · intro k k' ob ob' a1 a2 h1 h2 h3 h4 h5
    rcases hh k ob h1 with ⟨q1, _⟩ | ⟨o, ob0, g1, g2, _⟩
    · simp [subβ, q1] at h3
    rcases hh k' ob' h2 with ⟨q1, _⟩ | ⟨o', ob0', g1', g2', _⟩
    · simp [subβ, q1] at h4
    have e1 : β o = some a1 := by simpa [subβ, g1] using h3
    have e2 : β o' = some a2 := by simpa [subβ, g1'] using h4
    have := h.sep o o' ob0 ob0' a1 a2 g2 g2' e1 e2 h5
    subst this
    exact nodup_inj hnd g1 g1'
  · rcases hs t with h' | ⟨h1, h2⟩
    · rw [h']; exact .any _
    · exact wk_ok (cv _ _ (h.ev t) h1) _ h2
  · rcases hk' with hk' | hk'
    · left
      by_cases hlt : k < keep.length
      · exact hlt
      · exfalso
        apply hk'
        simp [subβ, List.getElem?_eq_none (Nat.le_of_not_lt hlt)]
    · exact .inr hk'
  · exact absurd hk' (Nat.not_lt_zero _)
  · intro x v x' hv h1 h2
    exact wk_ok (cv x v hv h1) x' h2
def rebβ (c : Cx) (β : Nat → Option Addr) (keep : List Nat) (k : Nat) : Option Addr := if k < c.n then c.β0 k else subβ β keep k
theorem own_agree {β β' : Nat → Option Addr} {H : Hp} (h : ∀ k, H.lookup k ≠ none → β k = β' k) (b : Nat) : ownOf β H b ↔ ownOf β' H b := by
  constructor
  · rintro ⟨o, ob, a, h1, h2, h3⟩
    exact ⟨o, ob, a, h1, by rw [← h o (by rw [h1]; simp)]; exact h2, h3⟩
  · rintro ⟨o, ob, a, h1, h2, h3⟩
    exact ⟨o, ob, a, h1, by rw [h o (by rw [h1]; simp)]; exact h2, h3⟩
theorem Rel.conv {dom : Nat → Prop} {env env' : List AV} {H H' : Hp} {a : Act} {w : World} {β : Nat → Option Addr} {keep : List Nat} {d m : Nat} (h : Rel c dom env H a w β) (hm : ∀ k, m ≤ k → ¬ dom k)
    (hk : keepB c.n m keep H' = true) (hnd : keep.Nodup) (hS : All (cvS H keep d env env')) (hH : All (cvH H keep d H')) :
    Rel c (fun k => k < keep.length ∨ H'.lookup k ≠ none) env' H' a w (rebβ c β keep) ∧
      ∀ (x : AV) (v : Value) (x' : AV), VR w β (ow c.X β H) x v → All (cvt false H keep d x).2 → All (wk (cvt false H keep d x).1 x') → VR w (rebβ c β keep) (ow c.X (rebβ c β keep) H') x' v := by
  obtain ⟨r, rv⟩ := h.conv0 hnd hS hH
  have hkk : ∀ k, k < c.n → keep[k]? = some k ∨ (H'.lookup k = none ∧ ∃ q, keep[k]? = some q ∧ m ≤ q) := by
    intro k hk'
    simp only [keepB, List.all_eq_true, List.mem_range, Bool.or_eq_true, Bool.and_eq_true, beq_iff_eq, Option.isNone_iff_eq_none] at hk
    rcases hk k hk' with h1 | ⟨h1, h2⟩
    · exact .inl h1
    · refine .inr ⟨h1, ?_⟩
      split at h2
      · rename_i q hq
        exact ⟨q, hq, by simpa using h2⟩
      · cases h2
  have sub : ∀ k a, subβ β keep k = some a → rebβ c β keep k = some a := by
    intro k a hs
    unfold rebβ
    by_cases hkn : k < c.n
    · rw [if_pos hkn]
      rcases hkk k hkn with h1 | ⟨_, q, h1, h2⟩
      · rw [← h.init k hkn]
        simpa [subβ, h1] using hs
      · have hq : β q = some a := by simpa [subβ, h1] using hs
        exact absurd (h.dom q (.inl (by rw [hq]; simp))) (hm q h2)
    · rw [if_neg hkn]; exact hs
  have agree : ∀ k, H'.lookup k ≠ none → subβ β keep k = rebβ c β keep k := by
    intro k hl
    unfold rebβ
    by_cases hkn : k < c.n
    · rw [if_pos hkn]
      rcases hkk k hkn with h1 | ⟨h1, _⟩
      · rw [← h.init k hkn]
        simp [subβ, h1]
      · exact absurd h1 hl
    · rw [if_neg hkn]
  have hown : ∀ t b, ow c.X (rebβ c β keep) H' t b → ow c.X (subβ β keep) H' t b := fun t b hb => hb.imp (own_agree agree b).2 id
  have hown2 : ∀ t b, ow c.X (subβ β keep) H' t b → ow c.X (rebβ c β keep) H' t b := fun t b hb => hb.imp (own_agree agree b).1 id
  have tr : ∀ (x : AV) (v : Value), VR w (subβ β keep) (ow c.X (subβ β keep) H') x v → VR w (rebβ c β keep) (ow c.X (rebβ c β keep) H') x v := fun x v hv => hv.ext (Ext.sub hown) (fun o a ho => sub o a ho)
  refine ⟨⟨fun o ob hl => ?_, fun o o' ob ob' a a' h1 h2 h3 h4 h5 => ?_, fun t => tr _ _ (r.ev t), r.len, r.dfr, fun k hk' => ?_, ?_, fun b hb => ⟨(r.xs b hb).1, fun ho => (r.xs b hb).2 ((own_agree agree b).2 ho)⟩, fun b hb => r.own b ((own_agree agree b).2 hb), fun k hk' => ?_⟩, fun x v x' hv h1 h2 => tr _ _ (rv x v x' hv h1 h2)⟩
  · have hb := agree o (by rw [hl]; simp)
    rcases r.hr o ob hl with h' | ⟨b, base, cells, elem, h1, h2, h3⟩ | ⟨m1, m2, b, es, ck, m3, m4⟩
    · exact .inl ⟨by rw [← hb]; exact h'.1, h'.2⟩
    · exact .inr (.inl ⟨b, base, cells, elem, by rw [← hb]; exact h1, h2, fun i hi j hj => by
        obtain ⟨v, k1, k2, k3⟩ := h3 i hi j hj
        exact ⟨v, k1, k2, tr _ _ k3⟩⟩)
    · exact .inr (.inr ⟨m1, m2, b, es, ck, by rw [← hb]; exact m3, m4⟩)
  · rw [← agree o (by rw [h1]; simp)] at h3
    rw [← agree o' (by rw [h2]; simp)] at h4
    exact r.sep o o' ob ob' a a' h1 h2 h3 h4 h5
  · rcases hk' with hk' | hk'
    · unfold rebβ at hk'
      by_cases hkn : k < c.n
      · left
        rcases hkk k hkn with h1 | ⟨_, q, h1, _⟩
        · exact (List.getElem?_eq_some_iff.1 h1).1
        · exact (List.getElem?_eq_some_iff.1 h1).1
      · rw [if_neg hkn] at hk'
        exact r.dom k (.inl hk')
    · exact .inr hk'
  · exact r.ext.trans (Ext.sub hown)
  · unfold rebβ
    rw [if_pos hk']
theorem conv_ok {k : List Item} {st st' : St} (keep : List Nat) (d : Nat) (hob : All (convOb c.n st keep d st')) (hr : Run P c f k st' R) : Run P c f k st R := by
  unfold convOb at hob
  obtain ⟨h12, h3⟩ := All_app hob
  obtain ⟨h1, h2⟩ := All_app h12
  split at h1
  case isFalse => exact h1.1.elim
  rename_i hz
  simp only [Bool.and_eq_true, Nat.ble_eq, List.all_eq_true, Nat.blt_eq] at hz
  obtain ⟨⟨⟨⟨z1, z2⟩, z3⟩, z4⟩, z5⟩ := hz
  intro hn b cs a w β hb1 hb2 hrel
  obtain ⟨hrel', _⟩ := hrel.conv (m := st.ctr) (fun k h1 h2 => absurd h2 (by omega)) z1 (nodupB_ok z2) h2 h3
  refine hr z4 b cs a w _ hb1 hb2 (hrel'.dom_mono (fun k hk => ?_))
  rcases hk with hk | hk
  · omega
  · cases hl : st'.H.lookup k with
    | none => exact absurd hl hk
    | some ob =>
      have : (k, ob) ∈ st'.H := by
        have := List.lookup_eq_some_iff.1 hl
        obtain ⟨l1, l2, h, _⟩ := this
        rw [h]; simp
      exact z5 _ this
end
end Go.Proofs.Ytffnfeefjdmifaa.Mach
namespace Go.Proofs.Ytffnfeefjdmifaa.Mach
open Go
set_option linter.unusedVariables false
set_option linter.unusedSimpArgs false
mutual
def ntP : PV → List Prop
  | .seq t _ n f => [t = false, ∀ i, i < n → All (ntL (f i))]
  | .any => []
  | .int _ _ => []
  | .bool _ => []
  | .str _ => []
  | .nil => []
  | .fn _ => []
def ntL : List PV → List Prop
  | [] => []
  | v :: l => ntP v ++ ntL l
end
mutual
def ntA : AV → List Prop
  | .p v => ntP v
  | .ar _ _ _ _ => []
  | .pt _ _ _ _ => []
  | .ip _ _ => [False]
  | .mp _ => []
  | .agg cs => ntAL cs
  | .tup cs => ntAL cs
  | .clo _ cs => ntAL cs
  | .cnd _ _ => [False]
def ntAL : List AV → List Prop
  | [] => []
  | v :: l => ntA v ++ ntAL l
end
theorem ntL_getD : ∀ (l : List PV) (j : Nat), All (ntL l) → All (ntP (l.getD j .any))
  | [], j, _ => by simp [ntP, All]
  | v :: l, 0, h => by simp only [ntL] at h; simpa using (All_app h).1
  | v :: l, j + 1, h => by simp only [ntL] at h; simpa using ntL_getD l j (All_app h).2
theorem ntAL_getD : ∀ (l : List AV) (j : Nat), All (ntAL l) → All (ntA (l.getD j anyA))
  | [], j, _ => by simp [ntA, ntP, All]
  | v :: l, 0, h => by simp only [ntAL] at h; simpa using (All_app h).1
  | v :: l, j + 1, h => by simp only [ntAL] at h; simpa using ntAL_getD l j (All_app h).2
section
variable {X : Nat → Prop} {w : World} {β : Nat → Option Addr} {H : Hp}
theorem ntP_ok {v : PV} {x : Value} (h : PR w (ow X β H) v x) : All (ntP v) → PR w (fr X β H) v x := by
  induction h with
  | any x => exact fun _ => .any x
  | int k n => exact fun _ => .int k n
  | bool b => exact fun _ => .bool b
  | str s => exact fun _ => .str s
  | nil => exact fun _ => .nil
  | seq0 t z f a c => exact fun _ => .seq0 _ _ _ _ _
  | seq t z n f b off c g hb hlt hc hcell hone h ih =>
    intro ho
    simp only [ntP] at ho
    obtain ⟨rfl, ho, _⟩ := ho
    exact .seq _ _ _ _ b off c g (fun h => h.elim (fun h => by cases h) hb) hlt hc hcell hone (fun i hi j hj => ih i hi j hj (ntL_getD _ j (ho i hi)))
  | fn f => exact fun _ => .fn f
theorem ntA_ok {v : AV} {x : Value} (h : VR w β (ow X β H) v x) : All (ntA v) → VR w β (fr X β H) v x := by
  induction h with
  | p v x h => exact fun ho => .p _ _ (ntP_ok h ho)
  | ar0 z o off a => exact fun _ => .ar0 _ _ _ _
  | ar z o off n b base c cells elem fr hβ hh hsz hc => exact fun _ => .ar _ _ _ _ b base c cells elem fr hβ hh hsz hc
  | pt z o row off b base hβ => exact fun _ => .pt _ _ _ _ b base hβ
  | ip t cs b off g hb hlt hcell hone hp => intro ho; simp only [ntA] at ho; exact ho.1.elim
  | mp o b hβ hm => exact fun _ => .mp _ b hβ hm
  | agg cs vs hl hone h ih => intro ho; simp only [ntA] at ho; exact .agg _ _ hl hone (fun j hj => ih j hj (ntAL_getD _ j ho))
  | tup cs vs hl h ih => intro ho; simp only [ntA] at ho; exact .tup _ _ hl (fun j hj => ih j hj (ntAL_getD _ j ho))
  | clo f cs vs hl h ih => intro ho; simp only [ntA] at ho; exact .clo _ _ _ hl (fun j hj => ih j hj (ntAL_getD _ j ho))
  | cnd g v x h h' ih => intro ho; simp only [ntA] at ho; exact ho.1.elim
end
def cAt : Code → List Nat → Code
  | c, [] => c
  | .seq a _, 0 :: p => cAt a p
  | .seq _ b, _ :: p => cAt b p
  | .cond _ a _, 0 :: p => cAt a p
  | .cond _ _ b, _ :: p => cAt b p
  | .block _ a, _ :: p => cAt a p
  | .loop a, _ :: p => cAt a p
  | .scope a, _ :: p => cAt a p
  | c, _ => c
def resVals (P : Program) (env : List AV) (H : Hp) : List ResultVar → Option (List AV × List Prop)
  | [] => some ([], [])
  | .tmp t :: r => (resVals P env H r).map fun x => (env.getD t anyA :: x.1, x.2)
  | .cell a t :: r =>
    match evLoad P H t (env.getD a anyA) with
    | some e => (resVals P env H r).map fun x => (e.v :: x.1, e.ob ++ x.2)
    | none => none
def resV (P : Program) (env : List AV) (H : Hp) (rs : List ResultVar) : Option (AV × List Prop) :=
  (resVals P env H rs).map fun x => (match x.1 with | [v] => v | vs => .tup vs, x.2)
def ntH : Hp → List Prop
  | [] => []
  | (_, ob) :: r => (∀ i, i < ob.n → All (ntAL (ob.f i))) :: ntH r
def retOb (n : Nat) (P : Program) (rs : List ResultVar) (st : St) (keep : List Nat) (d : Nat) (H' : Hp) (res : AV) : List Prop :=
  match resV P st.env st.H rs with
  | some x =>
    (if keepB n st.ctr keep H' && nodupB keep && Nat.ble keep.length (n + 32) then [] else [False]) ++ x.2 ++ (cvt false st.H keep d x.1).2 ++ wk (cvt false st.H keep d x.1).1 res ++ cvH st.H keep d H' ++ ntA res ++ ntH H'
  | none => [False]
def Post (c : Cx) (H' : Hp) (res : AV) : Ending → World → Prop := fun e w' => ∃ v β', e = .returned v ∧ HR w' β' (fr c.X β' H') H' ∧ Sep β' H' ∧ VR w' β' (fr c.X β' H') res v ∧
  Ext c.w0 (ow c.X c.β0 c.H0) w' (ow c.X β' H') ∧ (∀ o, o < c.n → β' o = c.β0 o) ∧ (∀ b, ownOf β' H' b → ownOf c.β0 c.H0 b ∨ c.w0.heap.size ≤ b) ∧ ∀ k, β' k ≠ none → k < c.n + 32
section
variable {P : Program} {c : Cx} {f : FuncId}
def resOne (tmps : Array Value) : ResultVar → Sem Value
  | .tmp t => pure (tmps.getD t undef)
  | .cell at_ t => do loadVar t (← asAddr (tmps.getD at_ undef))
theorem resVals_ok {dom : Nat → Prop} {env : List AV} {H : Hp} {a : Act} {w : World} {β : Nat → Option Addr} (h : Rel c dom env H a w β) : ∀ (rs : List ResultVar) (vs : List AV) (ob : List Prop), resVals P env H rs = some (vs, ob) → (∀ p ∈ ob, p) →
    ∃ xs : List Value, (rs.mapM (resOne a.tmps) : Sem (List Value)).run P w = .ok xs w ∧ vs.length = xs.length ∧
      ∀ j, j < vs.length → VR w β (ow c.X β H) (vs.getD j anyA) (xs.getD j undef)
  | [], vs, ob, hr, _ => by
    simp only [resVals, Option.some.injEq, Prod.mk.injEq] at hr
    obtain ⟨rfl, rfl⟩ := hr
    exact ⟨[], by simp, rfl, fun j hj => by simp at hj⟩
  | .tmp t :: r, vs, ob, hr, hob => by
    simp only [resVals] at hr
    cases hr2 : resVals P env H r with
    | none => rw [hr2] at hr; cases hr
    | some x =>
      rw [hr2] at hr
      simp only [Option.map_some, Option.some.injEq, Prod.mk.injEq] at hr
      obtain ⟨rfl, rfl⟩ := hr
      obtain ⟨xs, g1, g2, g3⟩ := resVals_ok h r x.1 x.2 hr2 hob
      refine ⟨a.tmps.getD t undef :: xs, by simp only [List.mapM_cons, resOne, Sem.run_bind, Sem.run_pure, Result.andThen_ok, g1], by simp [g2], fun j hj => ?_⟩
      cases j with
      | zero => simpa using h.ev t
      | succ j => simpa using g3 j (by simpa using hj)
  | .cell at_ t :: r, vs, ob, hr, hob => by
    simp only [resVals] at hr
    split at hr
    case h_2 => cases hr
    rename_i e he
    cases hr2 : resVals P env H r with
    | none => rw [hr2] at hr; cases hr
    | some x =>
      rw [hr2] at hr
      simp only [Option.map_some, Option.some.injEq, Prod.mk.injEq] at hr
      obtain ⟨rfl, rfl⟩ := hr
      obtain ⟨xs, g1, g2, g3⟩ := resVals_ok h r x.1 x.2 hr2 (fun p hp => hob p (List.mem_append_right _ hp))
      obtain ⟨_, v, h1, h2⟩ := evLoad_ok (P := P) h.hr h.sep (fun _ _ h => h) he (fun p hp => hob p (List.mem_append_left _ hp)) (h.ev at_)
      have h1' : (do loadVar t (← asAddr (a.tmps.getD at_ undef)) : Sem Value).run P w = .ok v w := by
        generalize a.tmps.getD at_ undef = y at h1
        cases y with
        | pointer p =>
          cases p with
          | none => simp [Instr.loadAt, Instr.sureAddr] at h1
          | some p => simpa [Instr.loadAt, Instr.sureAddr, asAddr] using h1
        | _ => simp [Instr.loadAt, Instr.sureAddr] at h1
      refine ⟨v :: xs, by
        rw [List.mapM_cons, Sem.run_bind]
        show ((do loadVar t (← asAddr (a.tmps.getD at_ undef)) : Sem Value).run P w).andThen _ = _
        rw [h1']
        simp only [Sem.run_bind, Sem.run_pure, Result.andThen_ok, g1], by simp [g2], fun j hj => ?_⟩
      cases j with
      | zero => simpa using h2
      | succ j => simpa using g3 j (by simpa using hj)
theorem ret_rel {st : St} {a : Act} {w : World} {β : Nat → Option Addr} {fn : Func} {keep : List Nat} {d : Nat} {H' : Hp} {res : AV} (h : Rel c (fun k => k < st.ctr) st.env st.H a w β)
    (hob : All (retOb c.n P fn.results.toList st keep d H' res)) : ∃ v, (results fn a.tmps).run P w = .ok v w ∧ Post c H' res (.returned v) w := by
  unfold retOb at hob
  split at hob
  case h_2 => exact hob.1.elim
  rename_i x hx
  obtain ⟨hob, o7⟩ := All_app hob
  obtain ⟨hob, o6⟩ := All_app hob
  obtain ⟨hob, o5⟩ := All_app hob
  obtain ⟨hob, o4⟩ := All_app hob
  obtain ⟨hob, o3⟩ := All_app hob
  obtain ⟨o1, o2⟩ := All_app hob
  split at o1
  case isFalse => exact o1.1.elim
  rename_i hz
  simp only [Bool.and_eq_true, Nat.ble_eq] at hz
  obtain ⟨⟨z1, z2⟩, z3⟩ := hz
  unfold resV at hx
  cases hr : resVals P st.env st.H fn.results.toList with
  | none => rw [hr] at hx; cases hx
  | some y =>
    rw [hr] at hx
    simp only [Option.map_some, Option.some.injEq] at hx
    subst hx
    obtain ⟨xs, g1, g2, g3⟩ := resVals_ok (P := P) h _ y.1 y.2 hr ((All_iff _).1 o2)
    obtain ⟨hrel, hval⟩ := h.conv (H' := H') (env' := []) (keep := keep) (d := d) (m := st.ctr) (fun k h1 h2 => absurd h2 (by omega)) z1 (nodupB_ok z2) (by cases st.env <;> exact trivial) o5
    have hrun : (results fn a.tmps).run P w = .ok (if h : xs.toArray.size = 1 then xs.toArray[0] else .tuple xs.toArray) w := by
      have hfun : results fn a.tmps = (do let vs ← fn.results.mapM (resOne a.tmps); pure (if h : vs.size = 1 then vs[0] else .tuple vs)) := rfl
      rw [hfun, Array.mapM_eq_mapM_toList]
      simp only [Sem.run_bind, Sem.run_map, Result.andThen_ok, Sem.run_pure, g1]
    refine ⟨_, hrun, ?_⟩
    have hv : VR w β (ow c.X β st.H) (match y.1 with | [v] => v | vs => .tup vs) (if h : xs.toArray.size = 1 then xs.toArray[0] else .tuple xs.toArray) := by
      split
      · rename_i v hv
        rw [hv] at g2 g3
        have h1 : xs.toArray.size = 1 := by simpa using g2.symm
        rw [dif_pos h1]
        have := g3 0 (by simp)
        cases xs with
        | nil => simp at g2
        | cons x xs => simpa using this
      · rename_i hne
        have h1 : ¬ xs.toArray.size = 1 := by
          intro h1
          have : y.1.length = 1 := by rw [g2]; simpa using h1
          obtain ⟨v, hv⟩ := List.length_eq_one_iff.1 this
          exact hne v hv
        rw [dif_neg h1]
        exact .tup _ _ (by simpa using g2) (fun j hj => by
          have := g3 j hj
          simpa [Array.getD_eq_getD_getElem?, List.getD_eq_getElem?_getD] using this)
    have hres := hval _ _ res hv o3 o4
    refine ⟨_, rebβ c β keep, rfl, ?_, hrel.sep, ntA_ok hres o6, hrel.ext, hrel.init, hrel.own, fun k hk => ?_⟩
    · intro k ob hk
      rcases hrel.hr k ob hk with h' | ⟨b, base, cells, elem, h1, h2, h3⟩ | h'
      rotate_left 2
      · exact .inr (.inr h')
      · exact .inl h'
      · refine .inr (.inl ⟨b, base, cells, elem, h1, h2, fun i hi j hj => ?_⟩)
        obtain ⟨v, k1, k2, k3⟩ := h3 i hi j hj
        have hnt : ∀ (l : Hp), All (ntH l) → ∀ k ob, l.lookup k = some ob → ∀ i, i < ob.n → All (ntAL (ob.f i)) := by
          intro l
          induction l with
          | nil => intro _ k ob h; simp at h
          | cons e r ih =>
            obtain ⟨j, y⟩ := e
            intro ha k ob h
            simp only [List.lookup_cons] at h
            by_cases hkj : k = j
            · subst hkj
              simp only [beq_self_eq_true, Option.some.injEq] at h
              subst h
              exact ha.1
            · have : (k == j) = false := by simpa using hkj
              rw [this] at h
              exact ih ha.2 k ob h
        exact ⟨v, k1, k2, ntA_ok k3 (ntAL_getD _ j (hnt H' o7 k ob hk i hi))⟩
    · unfold rebβ at hk
      by_cases hkn : k < c.n
      · omega
      · rw [if_neg hkn] at hk
        have : k < keep.length := by
          by_cases hlt : k < keep.length
          · exact hlt
          · exfalso
            apply hk
            simp [subβ, List.getElem?_eq_none (Nat.le_of_not_lt hlt)]
        omega
theorem ret_ok {fn : Func} (hf : P.funcs[f]? = some fn) {k : List Item} (hk : k = [] ∨ ∃ k', k = .code .ret :: k') {st : St} {keep : List Nat} {d : Nat} {H' : Hp} {res : AV}
    (hob : All (retOb c.n P fn.results.toList st keep d H' res)) : Run P c f k st (Post c H' res) := by
  intro hn b cs a w β h1 h2 hrel
  obtain ⟨v, hr, hp⟩ := ret_rel hrel hob
  rcases hk with rfl | ⟨k', rfl⟩
  · exact ⟨.returned v, w, _, hp, .one step_end, h1, rfl, hrel.dfr, h2, fn, by rw [← h1] at hf; exact hf, hr⟩
  · exact ⟨.returned v, w, _, hp, .one step_ret, h1, rfl, hrel.dfr, h2, fn, by rw [← h1] at hf; exact hf, hr⟩
theorem con_of_run {fn : Func} {code : Code} (hf : P.funcs[f]? = some fn) (hb : fn.body = some code) (hen : enterable P f = true) {n : Nat} {H H' : Hp} {args : List AV} {res : AV}
    (hkeys : (H.all fun e => Nat.blt e.1 n) = true)
    (hrun : ∀ c : Cx, c.n = n → Run P c f [.code code] ⟨args ++ List.replicate (fn.ntmps - args.length) anyA, H, n⟩ (Post c H' res)) : Con P f n H args H' res := by
  refine ⟨hen, fun w β X vals hX hHR hSep hdom hlen hargs => ?_⟩
  have hrel : Rel ⟨n, X, w, β, H⟩ (fun k => k < n) (args ++ List.replicate (fn.ntmps - args.length) anyA) H { tmps := vals ++ Array.replicate (fn.ntmps - vals.size) undef, defers := [] } w β := by
    refine ⟨hHR, hSep, fun t => ?_, by simp [hlen], rfl, fun k hk => ?_, .refl _ _, hX, fun b hb => .inl hb, fun _ _ => rfl⟩
    · by_cases ht : t < args.length
      · have e1 : (args ++ List.replicate (fn.ntmps - args.length) anyA).getD t anyA = args.getD t anyA := by
          simp [List.getD_eq_getElem?_getD, List.getElem?_append_left ht]
        have e2 : (vals ++ Array.replicate (fn.ntmps - vals.size) undef).getD t undef = vals.getD t undef := by
          simp [Array.getD_eq_getD_getElem?, Array.getElem?_append_left (show t < vals.size by omega)]
        simp only [e1, e2]
        exact hargs t ht
      · have e1 : (args ++ List.replicate (fn.ntmps - args.length) anyA).getD t anyA = anyA := by
          rw [List.getD_eq_getElem?_getD, List.getElem?_append_right (by omega), List.getElem?_replicate]
          split <;> rfl
        rw [e1]
        exact .any _
    · rcases hk with hk | hk
      · exact hdom k hk
      · cases hl : H.lookup k with
        | none => exact absurd hl hk
        | some ob =>
          obtain ⟨l1, l2, h, _⟩ := List.lookup_eq_some_iff.1 hl
          simp only [List.all_eq_true, Nat.blt_eq] at hkeys
          exact hkeys (k, ob) (by rw [h]; simp)
  intro cs
  let b : Frame := { (default : Frame) with fn := f, kind := .normal }
  have henter : Frame.enter P f vals .normal = b.at { tmps := vals ++ Array.replicate (fn.ntmps - vals.size) undef, defers := [] } [.code code] := by
    simp [Frame.enter, Frame.at, hf, hb, b]
  obtain ⟨e, w', fr, g1, g2, g3, g4⟩ := hrun ⟨n, X, w, β, H⟩ rfl (Nat.le_refl _) b cs _ w β rfl rfl hrel
  rw [henter]
  refine ⟨e, w', fr, ?_, g2, g3, g4⟩
  obtain ⟨v, β', p1, p2, p3, p4, p5, p6, p7, p8⟩ := g1
  refine ⟨v, β', p1, p2, p3, p4, p5, fun o a ho => ?_, p7, fun k hk => ?_⟩
  · rw [p6 o (hdom o (by rw [ho]; simp))]; exact ho
  · by_cases hkn : k < n
    · left
      have := p6 k hkn
      simp only at this
      rw [← this]
      exact hk
    · exact .inr ⟨by omega, p8 k hk⟩
end
end Go.Proofs.Ytffnfeefjdmifaa.Mach
namespace Go.Proofs.Ytffnfeefjdmifaa.Mach
open Go
set_option linter.unusedVariables false
set_option linter.unusedSimpArgs false
def bodyOf (fn : Func) : Code := fn.body.getD .skip
def oT : OpS := ⟨true, none, none⟩
def isRet : List Item → Bool
  | [] => true
  | .code .ret :: _ => true
  | _ => false
def start (fn : Func) (H : Hp) (n : Nat) (args : List AV) : St := ⟨args ++ List.replicate (fn.ntmps - args.length) anyA, H, n⟩
def pathOb (P : Program) (fn : Func) (n : Nat) (sc : List ScI) (k : List Item) (st : St) (keep : List Nat) (d : Nat) (H' : Hp) (res : AV) : Option (List Prop) :=
  match runTo P 10000 sc k st with
  | some (k', st', ob) => if isRet k' then some (ob ++ retOb n P fn.results.toList st' keep d H' res) else none
  | none => none
def pieceOb (P : Program) (n : Nat) (sc : List ScI) (k : List Item) (st : St) (keep : List Nat) (d : Nat) (st2 : St) : Option (List Item × List Prop) :=
  match runTo P 10000 sc k st with
  | some (k', st', ob) => some (k', ob ++ convOb n st' keep d st2)
  | none => none
section
variable {P : Program} {c : Cx} {f : FuncId} {R : Ending → World → Prop}
theorem path_ok {fn : Func} {n : Nat} {sc : List ScI} {k : List Item} {st : St} {keep : List Nat} {d : Nat} {H' : Hp} {res : AV} {ob : List Prop} (hm : P.follows .mixedOrders = true) (hf : P.funcs[f]? = some fn) (hc : c.n = n)
    (h : pathOb P fn n sc k st keep d H' res = some ob) (hob : All ob) : Run P c f k st (Post c H' res) := by
  unfold pathOb at h
  split at h
  case h_2 => cases h
  rename_i k' st' ob' hr
  split at h
  case isFalse => cases h
  rename_i hret
  simp only [Option.some.injEq] at h
  subst h
  obtain ⟨h1, h2⟩ := All_app hob
  refine runTo_ok hm _ _ _ _ _ _ _ hr ((All_iff _).1 h1) (ret_ok hf ?_ (by rw [hc]; exact h2))
  unfold isRet at hret
  split at hret
  · exact .inl rfl
  · exact .inr ⟨_, rfl⟩
  · cases hret
theorem piece_ok {n : Nat} {sc : List ScI} {k k2 : List Item} {st st2 : St} {keep : List Nat} {d : Nat} {ob : List Prop} (hm : P.follows .mixedOrders = true) (hc : c.n = n)
    (h : pieceOb P n sc k st keep d st2 = some (k2, ob)) (hob : All ob) (hr : Run P c f k2 st2 R) : Run P c f k st R := by
  unfold pieceOb at h
  split at h
  case h_2 => cases h
  rename_i k' st' ob' hr'
  simp only [Option.some.injEq, Prod.mk.injEq] at h
  obtain ⟨rfl, rfl⟩ := h
  obtain ⟨h1, h2⟩ := All_app hob
  exact runTo_ok hm _ _ _ _ _ _ _ hr' ((All_iff _).1 h1) (conv_ok keep d (by rw [hc]; exact h2) hr)
theorem con_start {fn : Func} (hf : P.funcs[f]? = some fn) (hb : fn.body = some (bodyOf fn)) (hen : enterable P f = true) {n : Nat} {H H' : Hp} {args : List AV} {res : AV}
    (hkeys : (H.all fun e => Nat.blt e.1 n) = true) (hrun : ∀ c : Cx, c.n = n → Run P c f [.code (bodyOf fn)] (start fn H n args) (Post c H' res)) : Con P f n H args H' res :=
  con_of_run hf hb hen hkeys hrun
end
end Go.Proofs.Ytffnfeefjdmifaa.Mach
namespace Go.Proofs.Ytffnfeefjdmifaa.Mach
open Go
set_option linter.unusedVariables false
set_option linter.unusedSimpArgs false
inductive Sh where
  | int (k : IntKind)
  | bool
  | str
  | st (l : List Sh)
  | sl (s : Sh)
mutual
def Sh.z : Sh → Nat
  | .int _ => 1
  | .bool => 1
  | .str => 1
  | .st l => zL l
  | .sl _ => 1
def zL : List Sh → Nat
  | [] => 0
  | s :: l => s.z + zL l
end
mutual
def Sh.T : Sh → Type
  | .int _ => Int
  | .bool => Bool
  | .str => ByteArray
  | .st l => TL l
  | .sl s => Nat × (Nat → s.T)
def TL : List Sh → Type
  | [] => Unit
  | s :: l => s.T × TL l
end
mutual
def dfl : (s : Sh) → s.T
  | .int _ => (0 : Int)
  | .bool => false
  | .str => ByteArray.empty
  | .st l => dflL l
  | .sl s => ((0 : Nat), fun _ => dfl s)
def dflL : (l : List Sh) → TL l
  | [] => ()
  | s :: l => (dfl s, dflL l)
end
mutual
def enS : (s : Sh) → s.T → List PV
  | .int k, n => [.int k n]
  | .bool, b => [.bool b]
  | .str, x => [.str x]
  | .st l, v => enL l v
  | .sl s, v => [.seq true s.z v.1 fun i => enS s (v.2 i)]
def enL : (l : List Sh) → TL l → List PV
  | [], _ => []
  | s :: l, v => enS s v.1 ++ enL l v.2
end
mutual
def okS : (s : Sh) → s.T → Prop
  | .int k, n => imin k ≤ (show Int from n) ∧ (show Int from n) ≤ imax k
  | .bool, _ => True
  | .str, x => (show ByteArray from x).size ≤ 9223372036854775807
  | .st l, v => okL l v
  | .sl s, v => v.1 ≤ 9223372036854775807 ∧ ∀ i, i < v.1 → okS s (v.2 i)
def okL : (l : List Sh) → TL l → Prop
  | [], _ => True
  | s :: l, v => okS s v.1 ∧ okL l v.2
end
mutual
def fits (P : Program) : Sh → TypeId → Bool
  | .int k, t => match P.underlying t with | some (.int k') => ikEq k k' | _ => false
  | .bool, t => match P.underlying t with | some .bool => true | _ => false
  | .str, t => match P.underlying t with | some .string => true | _ => false
  | .st l, t => match P.underlying t with | some (.struct fs) => P.cellsOf t == zL l && fitsL P l fs.toList 0 | _ => false
  | .sl s, t => match P.underlying t with | some (.slice e) => P.cellsOf e == s.z && Nat.blt 0 s.z && fits P s e | _ => false
def fitsL (P : Program) : List Sh → List Field → Nat → Bool
  | [], [], _ => true
  | s :: l, f :: fs, off => f.offset == off && P.cellsOf f.type == s.z && fits P s f.type && fitsL P l fs (off + s.z)
  | _, _, _ => false
end
def no : Bool → Nat → Prop := ow (fun _ => False) (fun _ => none) []
theorem no_no {t : Bool} {b : Nat} : ¬ no t b := by
  rintro (⟨o, ob, a, h, _⟩ | ⟨_, h⟩)
  · simp at h
  · exact h
inductive Rd (w : World) : List PV → List Value → Prop
  | nil : Rd w [] []
  | cons {v : PV} {x : Value} {l : List PV} {r : List Value} (h : PR w no v x) (h1 : One x) (hr : Rd w l r) : Rd w (v :: l) (x :: r)
theorem Rd.append {w : World} {a b : List PV} {c d : List Value} (h : Rd w a c) (h' : Rd w b d) : Rd w (a ++ b) (c ++ d) := by
  induction h with
  | nil => exact h'
  | cons h h1 hr ih => exact .cons h h1 ih
theorem Rd.length {w : World} {a : List PV} {c : List Value} (h : Rd w a c) : a.length = c.length := by
  induction h with
  | nil => rfl
  | cons h h1 hr ih => simp [ih]
theorem Rd.get {w : World} {a : List PV} {c : List Value} (h : Rd w a c) : ∀ j, j < c.length → PR w no (a.getD j .any) (c.getD j undef) ∧ One (c.getD j undef) := by
  induction h with
  | nil => intro j hj; simp at hj
  | cons h h1 hr ih =>
    intro j hj
    cases j with
    | zero => exact ⟨h, h1⟩
    | succ j => simpa using ih j (by simpa using hj)
section
variable {H : Type} {enc : TypeId × Value → H} {P : Program} {w : World} {base : Nat} {spare : Nat → Bool} {held : Bool}
theorem add_add {b o x y : Nat} : ((⟨b, o, none⟩ : Addr).add x).add y = ⟨b, o + (x + y), none⟩ := by
  unfold Addr.add
  split <;> split <;> simp_all <;> omega
theorem cell_spot {a : Addr} {v : Value} (h : w.cell? a = some v) : a.spot = none ∧ a.block < w.heap.size := by
  unfold World.cell? at h
  split at h
  · rename_i c e f hb
    split at h
    · cases h
    · rename_i hs
      refine ⟨by simpa using hs, ?_⟩
      exact (Array.getElem?_eq_some_iff.1 hb).1
  · cases h
mutual
theorem read : (s : Sh) → ∀ (t : TypeId) (fuel : Nat) (cs : List Value) (x : DataW H × List MemPlace), fits P s t = true → DataW.trod enc P w base spare held fuel t cs = some x → ∃ v : s.T, okS s v ∧ Rd w (enS s v) cs
  | .int k, t, fuel, cs, x, hf, h => by
    simp only [fits] at hf
    split at hf
    case h_2 => cases hf
    rename_i k' hu
    obtain rfl := ikEq_eq hf
    obtain ⟨n, rfl, _, hw⟩ := DataW.trod_int hu h
    refine ⟨n, ?_, .cons (.int _ _) rfl .nil⟩
    simp only [Lit.wf, Bool.and_eq_true, decide_eq_true_eq] at hw
    cases k <;> exact hw
  | .bool, t, fuel, cs, x, hf, h => by
    simp only [fits] at hf
    split at hf
    case h_2 => cases hf
    rename_i hu
    obtain ⟨b, rfl, _⟩ := DataW.trod_bool hu h
    exact ⟨b, by simp [okS], .cons (.bool _) rfl .nil⟩
  | .str, t, fuel, cs, x, hf, h => by
    simp only [fits] at hf
    split at hf
    case h_2 => cases hf
    rename_i hu
    obtain ⟨b, rfl, _, hm⟩ := DataW.trod_string hu h
    exact ⟨b, by simpa [okS, maxLen] using hm, .cons (.str _) rfl .nil⟩
  | .st l, t, fuel, cs, x, hf, h => by
    simp only [fits] at hf
    split at hf
    case h_2 => cases hf
    rename_i fs hu
    simp only [Bool.and_eq_true, beq_iff_eq] at hf
    obtain ⟨xs, n, rfl, rfl, hl, hxs, hall⟩ := DataW.trod_struct hu h
    obtain ⟨v, h1, h2⟩ := readL l fs.toList 0 n cs hf.2 (by omega) (fun i f hi => by
      have hi' : fs[i]? = some f := by simpa using hi
      have := hall i f hi'
      have hlt : i < xs.length := by
        rw [hxs]
        exact (Array.getElem?_eq_some_iff.1 hi').1
      exact ⟨xs[i], by rw [this, List.getElem?_eq_getElem hlt]⟩)
    exact ⟨v, by simpa [okS] using h1, by simpa [enS] using h2⟩
  | .sl s, t, fuel, cs, x, hf, h => by
    simp only [fits] at hf
    split at hf
    case h_2 => cases hf
    rename_i e hu
    simp only [Bool.and_eq_true, beq_iff_eq] at hf
    obtain ⟨⟨hz, hpos⟩, hf⟩ := hf
    have hpos : 0 < s.z := Nat.le_of_ble_eq_true hpos
    rcases DataW.trod_slice hu h with ⟨rfl, _⟩ | ⟨a, len, cap, elems, rest, n, rfl, rfl, rfl, hb, hl, hm, hlen, hel, _⟩
    · exact ⟨((0 : Nat), fun _ => dfl s), by simp [okS], .cons (.seq0 _ _ _ _ _) rfl .nil⟩
    · have key : ∀ i, ∃ y : s.T × List Value, i < len → w.cells? base (a.add (i * s.z)) s.z = some y.2 ∧ okS s y.1 ∧ Rd w (enS s y.1) y.2 := by
        intro i
        by_cases hi : i < len
        · have hx := hel i hi
          rw [List.getElem?_eq_getElem (by omega)] at hx
          obtain ⟨cs', h1, h2⟩ := Option.bind_eq_some_iff.1 hx
          obtain ⟨v, h3, h4⟩ := read s e n cs' _ hf h2
          exact ⟨(v, cs'), fun _ => ⟨by rw [← hz]; exact h1, h3, h4⟩⟩
        · exact ⟨(dfl s, []), fun h => absurd h hi⟩
      obtain ⟨F, hF⟩ := Classical.axiomOfChoice key
      refine ⟨((len : Nat), fun i => (F i).1), ⟨?_, fun i hi => (hF i hi).2.1⟩, .cons ?_ rfl .nil⟩
      · have : maxLen = 9223372036854775807 := rfl
        show len ≤ 9223372036854775807
        omega
      · cases hl0 : len with
        | zero => exact .seq0 _ _ _ _ _
        | succ l' =>
          rw [← hl0]
          have h0 := (hF 0 (by omega)).1
          obtain ⟨_, hcl, hcell⟩ := World.cells?_some h0
          have hc0 := hcell 0 hpos
          rw [List.getElem?_eq_getElem (by omega)] at hc0
          obtain ⟨hs, hlt⟩ := cell_spot hc0
          obtain ⟨b, o, sp⟩ := a
          have hb' : ∀ q, ((⟨b, o, sp⟩ : Addr).add q).block = b := by intro q; unfold Addr.add; split <;> rfl
          have hsp : sp = none := by simpa [Addr.add] using hs
          subst hsp
          have hlt' : b < w.heap.size := by
            have e1 : (((⟨b, o, none⟩ : Addr).add (0 * s.z)).add 0).block = b := by rw [add_add]
            rw [e1] at hlt; exact hlt
          refine .seq _ _ _ _ b o cap (fun i j => (F i).2.getD j undef) no_no hlt' hl (fun i hi j hj => ?_) (fun i hi j hj => ?_) (fun i hi j hj => ?_)
          all_goals
            obtain ⟨g1, g2, g3⟩ := hF i hi
            obtain ⟨_, k1, k2⟩ := World.cells?_some g1
          · have := k2 j hj
            rw [add_add] at this
            rw [this, List.getElem?_eq_getElem (by omega)]
            simp [List.getD_eq_getElem?_getD, List.getElem?_eq_getElem (show j < (F i).2.length by omega)]
          · exact (g3.get j (by omega)).2
          · exact (g3.get j (by omega)).1
theorem readL : (l : List Sh) → ∀ (fs : List Field) (off n : Nat) (cs : List Value), fitsL P l fs off = true → off + zL l = cs.length →
    (∀ (i : Nat) (f : Field), fs[i]? = some f → ∃ x, DataW.trod enc P w base spare held n f.type ((cs.drop f.offset).take (P.cellsOf f.type)) = some x) → ∃ v : TL l, okL l v ∧ Rd w (enL l v) (cs.drop off)
  | [], fs, off, n, cs, hf, hz, h => by
    refine ⟨(), by simp [okL], ?_⟩
    simp only [zL, Nat.add_zero] at hz
    subst hz
    simp only [List.drop_length, enL]
    exact .nil
  | s :: l, [], off, n, cs, hf, hz, h => by simp [fitsL] at hf
  | s :: l, f :: fs, off, n, cs, hf, hz, h => by
    simp only [fitsL, Bool.and_eq_true, beq_iff_eq] at hf
    obtain ⟨⟨⟨h1, h2⟩, h3⟩, h4⟩ := hf
    obtain ⟨x, hx⟩ := h 0 f rfl
    rw [h1, h2] at hx
    obtain ⟨v, g1, g2⟩ := read s f.type n _ x h3 hx
    obtain ⟨r, g3, g4⟩ := readL l fs (off + s.z) n cs h4 (by simp only [zL] at hz; omega) (fun i f' hi => h (i + 1) f' (by simpa using hi))
    refine ⟨(v, r), by simp only [okL]; exact ⟨g1, g3⟩, ?_⟩
    have := g2.append g4
    rw [← List.drop_drop, List.take_append_drop] at this
    simpa only [enL] using this
end
def argA : (s : Sh) → s.T → AV
  | .int k, n => .p (.int k n)
  | .bool, b => .p (.bool b)
  | .str, x => .p (.str x)
  | .st l, v => .agg ((enL l v).map .p)
  | .sl s, v => .p (.seq true s.z v.1 fun i => enS s (v.2 i))
theorem arg_st {l : List Sh} {t : TypeId} {r : Reach} {b0 : Nat} {x : Value} {d : DataW H} {ps : List MemPlace} (hf : fits P (.st l) t = true) (hv : Value.okWide P w r b0 t x) (h : DataW.Trod enc P w base spare held t x d ps) :
    ∃ v : TL l, okL l v ∧ VR w (fun _ => none) no (.agg ((enL l v).map .p)) x := by
  have hf' := hf
  simp only [fits] at hf
  split at hf
  case h_2 => cases hf
  rename_i fs hu
  obtain ⟨cs, rfl, hsz⟩ := WideShapes.okWide_struct hu hv
  obtain ⟨fuel, h⟩ := h
  obtain ⟨v, h1, h2⟩ := read (.st l) t fuel _ _ hf' h
  simp only [enS] at h2
  refine ⟨v, by simpa [okS] using h1, .agg _ _ (by simpa [Value.cells] using h2.length) (fun j hj => ?_) (fun j hj => ?_)⟩
  all_goals
    have hl := h2.length
    simp only [Value.cells, List.length_map, Array.length_toList] at hl hj
    have := h2.get j (by simp [Value.cells]; omega)
    simp only [Value.cells] at this
    rw [show cs.toList.getD j undef = cs.getD j undef by simp [List.getD_eq_getElem?_getD, Array.getD_eq_getD_getElem?]] at this
  · exact this.2
  · have e : ((enL l v).map AV.p).getD j anyA = .p ((enL l v).getD j .any) := by
      simp only [List.getD_eq_getElem?_getD, List.getElem?_map]
      cases (enL l v)[j]? <;> rfl
    rw [e]
    exact .p _ _ this.1
theorem arg_one {s : Sh} {t : TypeId} {x : Value} {d : DataW H} {ps : List MemPlace} (hf : fits P s t = true) (hc : x.cells = #[x]) (h : DataW.Trod enc P w base spare held t x d ps) :
    ∃ v : s.T, okS s v ∧ VR w (fun _ => none) no (.p ((enS s v).getD 0 .any)) x := by
  obtain ⟨fuel, h⟩ := h
  obtain ⟨v, h1, h2⟩ := read s t fuel _ _ hf h
  rw [hc] at h2
  have := h2.get 0 (by simp)
  exact ⟨v, h1, .p _ _ (by simpa using this.1)⟩
theorem arg_ok {r : Reach} {b0 : Nat} {x : Value} {d : DataW H} {ps : List MemPlace} : (s : Sh) → ∀ {t : TypeId}, fits P s t = true → Value.okWide P w r b0 t x → DataW.Trod enc P w base spare held t x d ps →
    ∃ v : s.T, okS s v ∧ VR w (fun _ => none) no (argA s v) x
  | .st l, t, hf, hv, h => by
    obtain ⟨v, h1, h2⟩ := arg_st hf hv h
    exact ⟨v, by simpa [okS] using h1, h2⟩
  | .int k, t, hf, hv, h => by
    have hf' := hf
    simp only [fits] at hf
    split at hf
    case h_2 => cases hf
    rename_i hu
    obtain ⟨y, rfl⟩ := WideShapes.okWide_int hu hv
    obtain ⟨v, h1, h2⟩ := arg_one hf' rfl h
    exact ⟨v, h1, h2⟩
  | .bool, t, hf, hv, h => by
    have hf' := hf
    simp only [fits] at hf
    split at hf
    case h_2 => cases hf
    rename_i hu
    obtain ⟨y, rfl⟩ := WideShapes.okWide_bool hu hv
    obtain ⟨v, h1, h2⟩ := arg_one hf' rfl h
    exact ⟨v, h1, h2⟩
  | .str, t, hf, hv, h => by
    have hf' := hf
    simp only [fits] at hf
    split at hf
    case h_2 => cases hf
    rename_i hu
    obtain ⟨y, rfl⟩ := WideShapes.okWide_string hu hv
    obtain ⟨v, h1, h2⟩ := arg_one hf' rfl h
    exact ⟨v, h1, h2⟩
  | .sl s, t, hf, hv, h => by
    have hf' := hf
    simp only [fits] at hf
    split at hf
    case h_2 => cases hf
    rename_i hu
    obtain ⟨y, z, u, rfl⟩ := WideShapes.okWide_slice hu hv
    obtain ⟨v, h1, h2⟩ := arg_one hf' rfl h
    exact ⟨v, h1, h2⟩
end
theorem law_ok {P : Program} {f : FuncId} {args : List AV} {vals : Array Value} {W : World} (h : Con P f 0 [] args [] (.p (.bool true))) (hl : args.length = vals.size)
    (ha : ∀ j, j < args.length → VR W (fun _ => none) no (args.getD j anyA) (vals.getD j undef)) :
    Calls P f vals W fun e W' => e = .returned (.bool true) ∧ RowKit.Below W.heap.size W W' := by
  refine (h.2 W (fun _ => none) (fun _ => False) vals (fun b h => h.elim) (fun o ob h => by simp at h) (fun o o' ob ob' a a' h => by simp at h) (fun k h => absurd rfl h) hl ha).mono ?_
  rintro e W' ⟨v, β', rfl, _, _, hv, hext, _, _, _⟩
  cases hv with
  | p _ _ hp =>
    cases hp with
    | bool b => exact ⟨rfl, hext.os, hext.tape, hext.output, hext.size, fun k hk => hext.block true k hk no_no⟩
end Go.Proofs.Ytffnfeefjdmifaa.Mach
namespace Go.Proofs.Ytffnfeefjdmifaa.Mach
open Go
set_option linter.unusedVariables false
set_option linter.unusedSimpArgs false
mutual
def smS : (s : Sh) → s.T → Prop
  | .int _, _ => True
  | .bool, _ => True
  | .str, x => (show ByteArray from x).size ≤ 1048576
  | .st l, v => smL l v
  | .sl s, v => v.1 ≤ 1048576 ∧ ∀ i, i < v.1 → smS s (v.2 i)
def smL : (l : List Sh) → TL l → Prop
  | [], _ => True
  | s :: l, v => smS s v.1 ∧ smL l v.2
end
theorem notf {b : Bool} (h : b = false) : (!b) = true := by subst h; rfl
theorem anda {a b : Bool} (h : a = true) (h' : b = true) : (a && b) = true := by subst h; subst h'; rfl
theorem mixed : Try.prog.follows .mixedOrders = true := by kernel_rfl
end Go.Proofs.Ytffnfeefjdmifaa.Mach
namespace Go.Proofs.Ytffnfeefjdmifaa.Mach
open Go
abbrev AA (n : Nat) (f : Nat → List AV) : Prop := ∀ i, i < n → (All [] ∧ f i = f i)
abbrev AP (n : Nat) (f : Nat → List PV) : Prop := ∀ i, i < n → f i = f i
abbrev AG (b : Bool) : Prop := b = true → b = true
abbrev AE (n : Nat) : Prop := ∀ i, i < n → All []
abbrev AN (n : Nat) : Prop := n = n
abbrev AI (n : Int) : Prop := n = n
theorem aA (n : Nat) (f : Nat → List AV) : AA n f := fun _ _ => ⟨trivial, rfl⟩
theorem aP (n : Nat) (f : Nat → List PV) : AP n f := fun _ _ => rfl
theorem aG (b : Bool) : AG b := fun h => h
theorem aE (n : Nat) : AE n := fun _ _ => trivial
end Go.Proofs.Ytffnfeefjdmifaa.Mach
namespace Go.Proofs.Ytffnfeefjdmifaa.Mach
open Go
set_option linter.unusedVariables false
set_option linter.unusedSimpArgs false
abbrev T_IntS := Nat × (Nat → Int)
def s_GainBarS : Sh := (.sl (.st [(.int .i64), (.int .i64), (.int .i64), (.int .i64)]))
abbrev T_GainBar := Int × Int × Int × Int × Unit
abbrev T_GainBarS := Nat × (Nat → T_GainBar)
def f_szGainBarS (v : T_GainBarS) (m : Int) : Int := if m - v.1 < 0 then -1 else m - v.1
def s_GainGraph : Sh := (.st [(.int .i64), (.sl (.st [(.int .i64), (.int .i64), (.int .i64), (.int .i64)]))])
abbrev T_GainGraph := Int × T_GainBarS × Unit
def f_szGainGraph (v : T_GainGraph) (m : Int) : Int := if (f_szGainBarS v.2.1 m) < 0 then -1 else (f_szGainBarS v.2.1 m)
def s_GainBar : Sh := (.st [(.int .i64), (.int .i64), (.int .i64), (.int .i64)])
def S_toGainBarS (v : T_GainBarS) (k : Nat) : St :=
  ⟨[.p (.seq true 4 v.1 (fun i => [.int .i64 ((v.2 i).1), .int .i64 ((v.2 i).2.1), .int .i64 ((v.2 i).2.2.1), .int .i64 ((v.2 i).2.2.2.1)])), .p .any, .p .any, .ar 4 0 0 v.1, .p (.int .i64 k)] ++ List.replicate 18 anyA, [(0, ⟨false, 4, v.1, fun i => [.p (.int .i64 (if i < k then (v.2 i).1 else 0)), .p (.int .i64 (if i < k then (v.2 i).2.1 else 0)), .p (.int .i64 (if i < k then (v.2 i).2.2.1 else 0)), .p (.int .i64 (if i < k then (v.2 i).2.2.2.1 else 0))]⟩)], 1⟩
def S_eqGainBarS (v : T_GainBarS) (k : Nat) : St :=
  ⟨[.p (.seq true 4 v.1 (fun i => [.int .i64 ((v.2 i).1), .int .i64 ((v.2 i).2.1), .int .i64 ((v.2 i).2.2.1), .int .i64 ((v.2 i).2.2.2.1)])), .p (.seq true 4 v.1 (fun i => [.int .i64 ((v.2 i).1), .int .i64 ((v.2 i).2.1), .int .i64 ((v.2 i).2.2.1), .int .i64 ((v.2 i).2.2.2.1)])), .p .any, .p .any, .p .any, .p (.int .i64 k)] ++ List.replicate 21 anyA, [], 0⟩
theorem p_szGainBarS_a (v : T_GainBarS) (m : Int) :
    pathOb Try.prog Try.f74 0 [.reg [oT], .reg [oT, oT, oT, oT, oT], .reg [oT, oT], .dec true, .reg [oT]] [.code (bodyOf Try.f74)] (start Try.f74 [] 0 [.p (.seq true 4 v.1 (fun i => [.int .i64 ((v.2 i).1), .int .i64 ((v.2 i).2.1), .int .i64 ((v.2 i).2.2.1), .int .i64 ((v.2 i).2.2.2.1)])), .p (.int .i64 m)]) [] 1 [] (.p (.int .i64 (-1))) =
    some [(((-9223372036854775808) : Int) ≤ (m - (↑v.1 : Int))),
  (((m - (↑v.1 : Int)) : Int) ≤ 9223372036854775807),
  ((decide (m - (↑v.1 : Int) < 0)) = true),
  (AI ((-1)))] := by kernel_rfl
theorem p_szGainBarS_b (v : T_GainBarS) (m : Int) :
    pathOb Try.prog Try.f74 0 [.reg [oT], .reg [oT, oT, oT, oT, oT], .reg [oT, oT], .dec false, .reg [oT, oT]] [.code (bodyOf Try.f74)] (start Try.f74 [] 0 [.p (.seq true 4 v.1 (fun i => [.int .i64 ((v.2 i).1), .int .i64 ((v.2 i).2.1), .int .i64 ((v.2 i).2.2.1), .int .i64 ((v.2 i).2.2.2.1)])), .p (.int .i64 m)]) [] 1 [] (.p (.int .i64 (m - v.1))) =
    some [(((-9223372036854775808) : Int) ≤ (m - (↑v.1 : Int))),
  (((m - (↑v.1 : Int)) : Int) ≤ 9223372036854775807),
  ((decide (m - (↑v.1 : Int) < 0)) = false),
  (AI ((m - (↑v.1 : Int))))] := by kernel_rfl
theorem p_szGainGraph_0 (v : T_GainGraph) (m : Int) :
    pathOb Try.prog Try.f25 0 [.reg [oT, oT], .reg [oT, oT, oT, ⟨true, (some ⟨[], [], [], 1, [], .p (.int .i64 (f_szGainBarS v.2.1 m))⟩), none⟩, oT], .reg [oT, oT], .dec true, .reg [oT]] [.code (bodyOf Try.f25)] (start Try.f25 [] 0 [.agg [.p (.int .i64 v.1), .p (.seq true 4 v.2.1.1 (fun i => [.int .i64 ((v.2.1.2 i).1), .int .i64 ((v.2.1.2 i).2.1), .int .i64 ((v.2.1.2 i).2.2.1), .int .i64 ((v.2.1.2 i).2.2.2.1)]))], .p (.int .i64 m)]) [] 1 [] (.p (.int .i64 (-1))) =
    some [((0 : Nat) < 1),
  Con Try.prog 74 0 [] [.p (.seq true 4 v.2.1.1 (fun i => [.int .i64 ((v.2.1.2 i).1), .int .i64 ((v.2.1.2 i).2.1), .int .i64 ((v.2.1.2 i).2.2.1), .int .i64 ((v.2.1.2 i).2.2.2.1)])), .p (.int .i64 m)] [] (.p (.int .i64 (f_szGainBarS v.2.1 m))),
  ((decide (f_szGainBarS v.2.1 m < 0)) = true),
  (AI ((-1)))] := by kernel_rfl
theorem p_szGainGraph_e (v : T_GainGraph) (m : Int) :
    pathOb Try.prog Try.f25 0 [.reg [oT, oT], .reg [oT, oT, oT, ⟨true, (some ⟨[], [], [], 1, [], .p (.int .i64 (f_szGainBarS v.2.1 m))⟩), none⟩, oT], .reg [oT, oT], .dec false, .reg [oT, oT]] [.code (bodyOf Try.f25)] (start Try.f25 [] 0 [.agg [.p (.int .i64 v.1), .p (.seq true 4 v.2.1.1 (fun i => [.int .i64 ((v.2.1.2 i).1), .int .i64 ((v.2.1.2 i).2.1), .int .i64 ((v.2.1.2 i).2.2.1), .int .i64 ((v.2.1.2 i).2.2.2.1)]))], .p (.int .i64 m)]) [] 1 [] (.p (.int .i64 (f_szGainBarS v.2.1 m))) =
    some [((0 : Nat) < 1),
  Con Try.prog 74 0 [] [.p (.seq true 4 v.2.1.1 (fun i => [.int .i64 ((v.2.1.2 i).1), .int .i64 ((v.2.1.2 i).2.1), .int .i64 ((v.2.1.2 i).2.2.1), .int .i64 ((v.2.1.2 i).2.2.2.1)])), .p (.int .i64 m)] [] (.p (.int .i64 (f_szGainBarS v.2.1 m))),
  ((decide (f_szGainBarS v.2.1 m < 0)) = false),
  (AI ((f_szGainBarS v.2.1 m)))] := by kernel_rfl
theorem p_toGainBar (v : T_GainBar) :
    pathOb Try.prog Try.f125 0 [.reg [oT, oT], .reg [oT], .reg [oT, oT, oT, oT], .reg [oT, oT, oT, oT], .reg [oT, oT, oT, oT], .reg [oT, oT, oT, oT], .reg [oT, oT]] [.code (bodyOf Try.f125)] (start Try.f125 [] 0 [.agg [.p (.int .i64 v.1), .p (.int .i64 v.2.1), .p (.int .i64 v.2.2.1), .p (.int .i64 v.2.2.2.1)]]) [] 1 [] (.agg [.p (.int .i64 v.1), .p (.int .i64 v.2.1), .p (.int .i64 v.2.2.1), .p (.int .i64 v.2.2.2.1)]) =
    some [((0 : Nat) < 1),
  ((0 : Nat) < 1),
  ((true = true) → (AN 1)),
  ((0 : Nat) < 1),
  ((0 : Nat) < 1),
  ((true = true) → (AN 1)),
  ((0 : Nat) < 1),
  ((0 : Nat) < 1),
  ((true = true) → (AN 1)),
  ((0 : Nat) < 1),
  ((0 : Nat) < 1),
  ((true = true) → (AN 1)),
  ((0 : Nat) < 1),
  ((0 : Nat) < 1),
  ((true = true) → (AN 1)),
  ((0 : Nat) < 1),
  (AI v.1),
  (AI v.2.1),
  (AI v.2.2.1),
  (AI v.2.2.2.1)] := by kernel_rfl
theorem p_toGainBarS_a (v : T_GainBarS) :
    pieceOb Try.prog 0 [.reg [oT], .reg [oT, oT, oT, oT], .reg [oT], .head] [.code (bodyOf Try.f79)] (start Try.f79 [] 0 [.p (.seq true 4 v.1 (fun i => [.int .i64 ((v.2 i).1), .int .i64 ((v.2 i).2.1), .int .i64 ((v.2 i).2.2.1), .int .i64 ((v.2 i).2.2.2.1)]))]) [96] 1 (S_toGainBarS v 0) =
    some ([.code (cAt (bodyOf Try.f79) [1, 1, 0, 1, 0, 0]), .inLoop (cAt (bodyOf Try.f79) [1, 1, 0, 1, 0, 0]), .inBlock 0, .code (cAt (bodyOf Try.f79) [1, 1, 1])], [((0 : Int) ≤ (↑v.1 : Int)),
  (((↑v.1 : Int) : Int) ≤ (↑v.1 : Int)),
  ((((↑v.1 : Int) * (↑32 : Int)) : Int) ≤ 281474976710656),
  (((↑v.1 : Int) : Int) ≤ 9223372036854775807),
  (AN v.1),
  (AP v.1 (fun i => [.int .i64 ((v.2 i).1), .int .i64 ((v.2 i).2.1), .int .i64 ((v.2 i).2.2.1), .int .i64 ((v.2 i).2.2.2.1)])),
  (AN 0),
  (AN v.1),
  ((0 : Int) = (↑0 : Int)),
  (AN 4),
  ((v.1 : Nat) ≤ v.1),
  (∀ i : Nat, (((i : Nat) < v.1) → (All [] ∧ (([.p (.int .i64 0), .p (.int .i64 0), .p (.int .i64 0), .p (.int .i64 0)] : List AV) = [.p (.int .i64 (if i < 0 then (v.2 i).1 else 0)), .p (.int .i64 (if i < 0 then (v.2 i).2.1 else 0)), .p (.int .i64 (if i < 0 then (v.2 i).2.2.1 else 0)), .p (.int .i64 (if i < 0 then (v.2 i).2.2.2.1 else 0))]))))]) := by kernel_rfl
theorem p_toGainBarS_b (v : T_GainBarS) (k : Nat) :
    pieceOb Try.prog 0 [.reg [oT, oT, oT, oT], .dec true, .reg [oT, oT, oT, oT, oT, oT, ⟨true, (some ⟨[], [], [], 1, [], .agg [.p (.int .i64 ((v.2 k).1)), .p (.int .i64 ((v.2 k).2.1)), .p (.int .i64 ((v.2 k).2.2.1)), .p (.int .i64 ((v.2 k).2.2.2.1))]⟩), none⟩, oT, oT], .reg [oT, oT, oT], .head] [.code (cAt (bodyOf Try.f79) [1, 1, 0, 1, 0, 0]), .inLoop (cAt (bodyOf Try.f79) [1, 1, 0, 1, 0, 0]), .inBlock 0, .code (cAt (bodyOf Try.f79) [1, 1, 1])] (S_toGainBarS v k) [0] 1 (S_toGainBarS v (k + 1)) =
    some ([.code (cAt (bodyOf Try.f79) [1, 1, 0, 1, 0, 0]), .inLoop (cAt (bodyOf Try.f79) [1, 1, 0, 1, 0, 0]), .inBlock 0, .code (cAt (bodyOf Try.f79) [1, 1, 1])], [((decide ((↑k : Int) < (↑v.1 : Int))) = true),
  ((0 : Int) ≤ (↑k : Int)),
  (((↑k : Int) : Int) < (↑v.1 : Int)),
  Con Try.prog 125 0 [] [.agg [.p (.int .i64 ((v.2 k).1)), .p (.int .i64 ((v.2 k).2.1)), .p (.int .i64 ((v.2 k).2.2.1)), .p (.int .i64 ((v.2 k).2.2.2.1))]] [] (.agg [.p (.int .i64 ((v.2 k).1)), .p (.int .i64 ((v.2 k).2.1)), .p (.int .i64 ((v.2 k).2.2.1)), .p (.int .i64 ((v.2 k).2.2.2.1))]),
  ((0 : Int) ≤ (↑k : Int)),
  (((↑k : Int) : Int) < (↑v.1 : Int)),
  ((k : Nat) < v.1),
  ((false = true) → ((v.1 : Nat) = 1)),
  (((-9223372036854775808) : Int) ≤ ((↑k : Int) + 1)),
  ((((↑k : Int) + 1) : Int) ≤ 9223372036854775807),
  (AN v.1),
  (AP v.1 (fun i => [.int .i64 ((v.2 i).1), .int .i64 ((v.2 i).2.1), .int .i64 ((v.2 i).2.2.1), .int .i64 ((v.2 i).2.2.2.1)])),
  (AN 0),
  (AN v.1),
  ((((↑k : Int) + 1) : Int) = (↑(k + 1) : Int)),
  (AN 4),
  ((v.1 : Nat) ≤ v.1),
  (∀ i : Nat, (((i : Nat) < v.1) → (All (cvtL false [(0, ⟨false, 4, v.1, (fun i_1 => (if (i_1 = k) then [.p (.int .i64 ((v.2 k).1)), .p (.int .i64 ((v.2 k).2.1)), .p (.int .i64 ((v.2 k).2.2.1)), .p (.int .i64 ((v.2 k).2.2.2.1))] else [.p (.int .i64 (if i_1 < k then (v.2 i_1).1 else 0)), .p (.int .i64 (if i_1 < k then (v.2 i_1).2.1 else 0)), .p (.int .i64 (if i_1 < k then (v.2 i_1).2.2.1 else 0)), .p (.int .i64 (if i_1 < k then (v.2 i_1).2.2.2.1 else 0))]))⟩)] [0] 1 (if (i = k) then [.p (.int .i64 ((v.2 k).1)), .p (.int .i64 ((v.2 k).2.1)), .p (.int .i64 ((v.2 k).2.2.1)), .p (.int .i64 ((v.2 k).2.2.2.1))] else [.p (.int .i64 (if i < k then (v.2 i).1 else 0)), .p (.int .i64 (if i < k then (v.2 i).2.1 else 0)), .p (.int .i64 (if i < k then (v.2 i).2.2.1 else 0)), .p (.int .i64 (if i < k then (v.2 i).2.2.2.1 else 0))])).2 ∧ (((cvtL false [(0, ⟨false, 4, v.1, (fun i_1 => (if (i_1 = k) then [.p (.int .i64 ((v.2 k).1)), .p (.int .i64 ((v.2 k).2.1)), .p (.int .i64 ((v.2 k).2.2.1)), .p (.int .i64 ((v.2 k).2.2.2.1))] else [.p (.int .i64 (if i_1 < k then (v.2 i_1).1 else 0)), .p (.int .i64 (if i_1 < k then (v.2 i_1).2.1 else 0)), .p (.int .i64 (if i_1 < k then (v.2 i_1).2.2.1 else 0)), .p (.int .i64 (if i_1 < k then (v.2 i_1).2.2.2.1 else 0))]))⟩)] [0] 1 (if (i = k) then [.p (.int .i64 ((v.2 k).1)), .p (.int .i64 ((v.2 k).2.1)), .p (.int .i64 ((v.2 k).2.2.1)), .p (.int .i64 ((v.2 k).2.2.2.1))] else [.p (.int .i64 (if i < k then (v.2 i).1 else 0)), .p (.int .i64 (if i < k then (v.2 i).2.1 else 0)), .p (.int .i64 (if i < k then (v.2 i).2.2.1 else 0)), .p (.int .i64 (if i < k then (v.2 i).2.2.2.1 else 0))])).1 : List AV) = [.p (.int .i64 (if i < k + 1 then (v.2 i).1 else 0)), .p (.int .i64 (if i < k + 1 then (v.2 i).2.1 else 0)), .p (.int .i64 (if i < k + 1 then (v.2 i).2.2.1 else 0)), .p (.int .i64 (if i < k + 1 then (v.2 i).2.2.2.1 else 0))]))))]) := by kernel_rfl
theorem p_toGainBarS_c (v : T_GainBarS) (k : Nat) :
    pathOb Try.prog Try.f79 0 [.reg [oT, oT, oT, oT], .dec false, .reg [oT, oT]] [.code (cAt (bodyOf Try.f79) [1, 1, 0, 1, 0, 0]), .inLoop (cAt (bodyOf Try.f79) [1, 1, 0, 1, 0, 0]), .inBlock 0, .code (cAt (bodyOf Try.f79) [1, 1, 1])] (S_toGainBarS v k) [0] 1 [(0, ⟨false, 4, v.1, fun i => [.p (.int .i64 ((v.2 i).1)), .p (.int .i64 ((v.2 i).2.1)), .p (.int .i64 ((v.2 i).2.2.1)), .p (.int .i64 ((v.2 i).2.2.2.1))]⟩)] (.ar 4 0 0 v.1) =
    some [((decide ((↑k : Int) < (↑v.1 : Int))) = false),
  (AN 0),
  (AN v.1),
  (AN 4),
  ((v.1 : Nat) ≤ v.1),
  (∀ i : Nat, (((i : Nat) < v.1) → (All [] ∧ (([.p (.int .i64 (if i < k then (v.2 i).1 else 0)), .p (.int .i64 (if i < k then (v.2 i).2.1 else 0)), .p (.int .i64 (if i < k then (v.2 i).2.2.1 else 0)), .p (.int .i64 (if i < k then (v.2 i).2.2.2.1 else 0))] : List AV) = [.p (.int .i64 ((v.2 i).1)), .p (.int .i64 ((v.2 i).2.1)), .p (.int .i64 ((v.2 i).2.2.1)), .p (.int .i64 ((v.2 i).2.2.2.1))])))),
  (AE v.1)] := by kernel_rfl
theorem p_toGainGraph (v : T_GainGraph) :
    pathOb Try.prog Try.f27 0 [.reg [oT, oT], .reg [oT], .reg [oT, oT, oT, oT], .reg [oT, oT, ⟨true, (some ⟨[], [], [], 1, [(0, ⟨false, 4, v.2.1.1, fun i => [.p (.int .i64 ((v.2.1.2 i).1)), .p (.int .i64 ((v.2.1.2 i).2.1)), .p (.int .i64 ((v.2.1.2 i).2.2.1)), .p (.int .i64 ((v.2.1.2 i).2.2.2.1))]⟩)], .ar 4 0 0 v.2.1.1⟩), none⟩, oT, oT], .reg [oT, oT]] [.code (bodyOf Try.f27)] (start Try.f27 [] 0 [.agg [.p (.int .i64 v.1), .p (.seq true 4 v.2.1.1 (fun i => [.int .i64 ((v.2.1.2 i).1), .int .i64 ((v.2.1.2 i).2.1), .int .i64 ((v.2.1.2 i).2.2.1), .int .i64 ((v.2.1.2 i).2.2.2.1)]))]]) [288] 1 [(0, ⟨false, 4, v.2.1.1, fun i => [.p (.int .i64 ((v.2.1.2 i).1)), .p (.int .i64 ((v.2.1.2 i).2.1)), .p (.int .i64 ((v.2.1.2 i).2.2.1)), .p (.int .i64 ((v.2.1.2 i).2.2.2.1))]⟩)] (.agg [.p (.int .i64 v.1), .ar 4 0 0 v.2.1.1]) =
    some [((0 : Nat) < 1),
  ((0 : Nat) < 1),
  ((true = true) → (AN 1)),
  ((0 : Nat) < 1),
  Con Try.prog 79 0 [] [.p (.seq true 4 v.2.1.1 (fun i => [.int .i64 ((v.2.1.2 i).1), .int .i64 ((v.2.1.2 i).2.1), .int .i64 ((v.2.1.2 i).2.2.1), .int .i64 ((v.2.1.2 i).2.2.2.1)]))] [(0, ⟨false, 4, v.2.1.1, (fun i => [.p (.int .i64 ((v.2.1.2 i).1)), .p (.int .i64 ((v.2.1.2 i).2.1)), .p (.int .i64 ((v.2.1.2 i).2.2.1)), .p (.int .i64 ((v.2.1.2 i).2.2.2.1))])⟩)] (.ar 4 0 0 v.2.1.1),
  ((0 : Nat) < 1),
  ((true = true) → (AN 1)),
  ((0 : Nat) < 1),
  ((0 : Nat) < 1),
  ((true = true) → (AN 1)),
  ((0 : Nat) < 1),
  (AI v.1),
  (AN 0),
  (AN v.2.1.1),
  (AN 4),
  ((v.2.1.1 : Nat) ≤ v.2.1.1),
  (AA v.2.1.1 (fun i => [.p (.int .i64 ((v.2.1.2 i).1)), .p (.int .i64 ((v.2.1.2 i).2.1)), .p (.int .i64 ((v.2.1.2 i).2.2.1)), .p (.int .i64 ((v.2.1.2 i).2.2.2.1))])),
  (AE v.2.1.1)] := by kernel_rfl
theorem p_eqGainBar (v : T_GainBar) :
    pathOb Try.prog Try.f129 0 [.reg [oT, oT, oT], .reg [oT, oT, oT, oT, oT], .dec false, .reg [oT, oT, oT, oT, oT], .dec false, .reg [oT, oT, oT, oT, oT], .dec false, .reg [oT, oT, oT, oT, oT], .dec false, .reg [oT]] [.code (bodyOf Try.f129)] (start Try.f129 [] 0 [.agg [.p (.int .i64 v.1), .p (.int .i64 v.2.1), .p (.int .i64 v.2.2.1), .p (.int .i64 v.2.2.2.1)], .agg [.p (.int .i64 v.1), .p (.int .i64 v.2.1), .p (.int .i64 v.2.2.1), .p (.int .i64 v.2.2.2.1)]]) [] 1 [] (.p (.bool true)) =
    some [((0 : Nat) < 1),
  ((0 : Nat) < 1),
  ((v.1 != v.1) = false),
  ((0 : Nat) < 1),
  ((0 : Nat) < 1),
  ((v.2.1 != v.2.1) = false),
  ((0 : Nat) < 1),
  ((0 : Nat) < 1),
  ((v.2.2.1 != v.2.2.1) = false),
  ((0 : Nat) < 1),
  ((0 : Nat) < 1),
  ((v.2.2.2.1 != v.2.2.2.1) = false),
  (true = true)] := by kernel_rfl
theorem p_eqGainBarS_a (v : T_GainBarS) :
    pieceOb Try.prog 0 [.reg [oT], .reg [oT, oT, oT, oT, oT], .dec false, .reg [oT], .head] [.code (bodyOf Try.f82)] (start Try.f82 [] 0 [.p (.seq true 4 v.1 (fun i => [.int .i64 ((v.2 i).1), .int .i64 ((v.2 i).2.1), .int .i64 ((v.2 i).2.2.1), .int .i64 ((v.2 i).2.2.2.1)])), .p (.seq true 4 v.1 (fun i => [.int .i64 ((v.2 i).1), .int .i64 ((v.2 i).2.1), .int .i64 ((v.2 i).2.2.1), .int .i64 ((v.2 i).2.2.2.1)]))]) [] 1 (S_eqGainBarS v 0) =
    some ([.code (cAt (bodyOf Try.f82) [1, 1, 0, 1, 0, 0]), .inLoop (cAt (bodyOf Try.f82) [1, 1, 0, 1, 0, 0]), .inBlock 0, .code (cAt (bodyOf Try.f82) [1, 1, 1])], [(((↑v.1 : Int) != (↑v.1 : Int)) = false),
  (AN v.1),
  (AP v.1 (fun i => [.int .i64 ((v.2 i).1), .int .i64 ((v.2 i).2.1), .int .i64 ((v.2 i).2.2.1), .int .i64 ((v.2 i).2.2.2.1)])),
  (AN v.1),
  (AP v.1 (fun i => [.int .i64 ((v.2 i).1), .int .i64 ((v.2 i).2.1), .int .i64 ((v.2 i).2.2.1), .int .i64 ((v.2 i).2.2.2.1)])),
  ((0 : Int) = (↑0 : Int))]) := by kernel_rfl
theorem p_eqGainBarS_b (v : T_GainBarS) (k : Nat) :
    pieceOb Try.prog 0 [.reg [oT, oT, oT, oT], .dec true, .reg [oT, oT, oT, oT, oT, oT, oT, oT, ⟨true, (some ⟨[], [], [], 1, [], .p (.bool true)⟩), none⟩, oT], .dec false, .reg [oT, oT, oT], .head] [.code (cAt (bodyOf Try.f82) [1, 1, 0, 1, 0, 0]), .inLoop (cAt (bodyOf Try.f82) [1, 1, 0, 1, 0, 0]), .inBlock 0, .code (cAt (bodyOf Try.f82) [1, 1, 1])] (S_eqGainBarS v k) [] 1 (S_eqGainBarS v (k + 1)) =
    some ([.code (cAt (bodyOf Try.f82) [1, 1, 0, 1, 0, 0]), .inLoop (cAt (bodyOf Try.f82) [1, 1, 0, 1, 0, 0]), .inBlock 0, .code (cAt (bodyOf Try.f82) [1, 1, 1])], [((decide ((↑k : Int) < (↑v.1 : Int))) = true),
  ((0 : Int) ≤ (↑k : Int)),
  (((↑k : Int) : Int) < (↑v.1 : Int)),
  ((0 : Int) ≤ (↑k : Int)),
  (((↑k : Int) : Int) < (↑v.1 : Int)),
  Con Try.prog 129 0 [] [.agg [.p (.int .i64 ((v.2 k).1)), .p (.int .i64 ((v.2 k).2.1)), .p (.int .i64 ((v.2 k).2.2.1)), .p (.int .i64 ((v.2 k).2.2.2.1))], .agg [.p (.int .i64 ((v.2 k).1)), .p (.int .i64 ((v.2 k).2.1)), .p (.int .i64 ((v.2 k).2.2.1)), .p (.int .i64 ((v.2 k).2.2.2.1))]] [] (.p (.bool true)),
  ((!true) = false),
  (((-9223372036854775808) : Int) ≤ ((↑k : Int) + 1)),
  ((((↑k : Int) + 1) : Int) ≤ 9223372036854775807),
  (AN v.1),
  (AP v.1 (fun i => [.int .i64 ((v.2 i).1), .int .i64 ((v.2 i).2.1), .int .i64 ((v.2 i).2.2.1), .int .i64 ((v.2 i).2.2.2.1)])),
  (AN v.1),
  (AP v.1 (fun i => [.int .i64 ((v.2 i).1), .int .i64 ((v.2 i).2.1), .int .i64 ((v.2 i).2.2.1), .int .i64 ((v.2 i).2.2.2.1)])),
  ((((↑k : Int) + 1) : Int) = (↑(k + 1) : Int))]) := by kernel_rfl
theorem p_eqGainBarS_c (v : T_GainBarS) (k : Nat) :
    pathOb Try.prog Try.f82 0 [.reg [oT, oT, oT, oT], .dec false, .reg [oT]] [.code (cAt (bodyOf Try.f82) [1, 1, 0, 1, 0, 0]), .inLoop (cAt (bodyOf Try.f82) [1, 1, 0, 1, 0, 0]), .inBlock 0, .code (cAt (bodyOf Try.f82) [1, 1, 1])] (S_eqGainBarS v k) [] 1 [] (.p (.bool true)) =
    some [((decide ((↑k : Int) < (↑v.1 : Int))) = false),
  (true = true)] := by kernel_rfl
theorem p_eqGainGraph (v : T_GainGraph) :
    pathOb Try.prog Try.f29 0 [.reg [oT, oT, oT], .reg [oT, oT, oT, oT, oT], .dec false, .reg [oT, oT, oT, oT, ⟨true, (some ⟨[], [], [], 1, [], .p (.bool true)⟩), none⟩, oT], .dec false, .reg [oT]] [.code (bodyOf Try.f29)] (start Try.f29 [] 0 [.agg [.p (.int .i64 v.1), .p (.seq true 4 v.2.1.1 (fun i => [.int .i64 ((v.2.1.2 i).1), .int .i64 ((v.2.1.2 i).2.1), .int .i64 ((v.2.1.2 i).2.2.1), .int .i64 ((v.2.1.2 i).2.2.2.1)]))], .agg [.p (.int .i64 v.1), .p (.seq true 4 v.2.1.1 (fun i => [.int .i64 ((v.2.1.2 i).1), .int .i64 ((v.2.1.2 i).2.1), .int .i64 ((v.2.1.2 i).2.2.1), .int .i64 ((v.2.1.2 i).2.2.2.1)]))]]) [] 1 [] (.p (.bool true)) =
    some [((0 : Nat) < 1),
  ((0 : Nat) < 1),
  ((v.1 != v.1) = false),
  ((0 : Nat) < 1),
  ((0 : Nat) < 1),
  Con Try.prog 82 0 [] [.p (.seq true 4 v.2.1.1 (fun i => [.int .i64 ((v.2.1.2 i).1), .int .i64 ((v.2.1.2 i).2.1), .int .i64 ((v.2.1.2 i).2.2.1), .int .i64 ((v.2.1.2 i).2.2.2.1)])), .p (.seq true 4 v.2.1.1 (fun i => [.int .i64 ((v.2.1.2 i).1), .int .i64 ((v.2.1.2 i).2.1), .int .i64 ((v.2.1.2 i).2.2.1), .int .i64 ((v.2.1.2 i).2.2.2.1)]))] [] (.p (.bool true)),
  ((!true) = false),
  (true = true)] := by kernel_rfl
theorem con_szGainBarS (v : T_GainBarS) (k : okS s_GainBarS v) (m : Int) (h0 : 0 ≤ m) (h1 : m ≤ 1048576) : Con Try.prog 74 0 [] [.p (.seq true 4 v.1 (fun i => [.int .i64 ((v.2 i).1), .int .i64 ((v.2 i).2.1), .int .i64 ((v.2 i).2.2.1), .int .i64 ((v.2 i).2.2.2.1)])), .p (.int .i64 m)] [] (.p (.int .i64 (f_szGainBarS v m))) := by
  refine con_start Try.func74 rfl (by kernel_rfl) rfl (fun c hc => ?_)
  have hn := k.1
  by_cases h : m - v.1 < 0
  · rw [show f_szGainBarS v m = -1 by simp [f_szGainBarS, h]]
    refine path_ok mixed Try.func74 hc (p_szGainBarS_a v m) ?_
    simp only [All]
    repeat' (first | exact trivial | with_reducible apply And.intro)
    all_goals (first | exact aG _ | exact aP _ _ | exact aA _ _ | exact aE _ | omega | rfl | (intros; first | assumption | exact True.intro | rfl | exact absurd (show false = true by assumption) Bool.false_ne_true | ((repeat' (first | assumption | apply anda | apply notf)); done)) | (simp; omega))
  · rw [show f_szGainBarS v m = m - v.1 by simp [f_szGainBarS, h]]
    refine path_ok mixed Try.func74 hc (p_szGainBarS_b v m) ?_
    simp only [All]
    repeat' (first | exact trivial | with_reducible apply And.intro)
    all_goals (first | exact aG _ | exact aP _ _ | exact aA _ _ | exact aE _ | omega | rfl | (intros; first | assumption | exact True.intro | rfl | exact absurd (show false = true by assumption) Bool.false_ne_true | ((repeat' (first | assumption | apply anda | apply notf)); done)) | (simp; omega))
theorem le_szGainBarS (v : T_GainBarS) (m : Int) (h0 : 0 ≤ m) : f_szGainBarS v m ≤ m := by
  unfold f_szGainBarS; split <;> omega
theorem sm_szGainBarS (v : T_GainBarS) (m : Int) (h1 : m ≤ 1048576) (h : ¬ f_szGainBarS v m < 0) : smS s_GainBarS v := by
  unfold f_szGainBarS at h
  split at h
  · omega
  · exact ⟨by omega, fun i hi => by simp [smS, smL]⟩
theorem con_szGainGraph (v : T_GainGraph) (k : okS s_GainGraph v) (m : Int) (h0 : 0 ≤ m) (h1 : m ≤ 1048576) : Con Try.prog 25 0 [] [.agg [.p (.int .i64 v.1), .p (.seq true 4 v.2.1.1 (fun i => [.int .i64 ((v.2.1.2 i).1), .int .i64 ((v.2.1.2 i).2.1), .int .i64 ((v.2.1.2 i).2.2.1), .int .i64 ((v.2.1.2 i).2.2.2.1)]))], .p (.int .i64 m)] [] (.p (.int .i64 (f_szGainGraph v m))) := by
  refine con_start Try.func25 rfl (by kernel_rfl) rfl (fun c hc => ?_)
  have l0 := le_szGainBarS v.2.1 m (by omega)
  by_cases g0 : (f_szGainBarS v.2.1 m) < 0
  · rw [show f_szGainGraph v m = -1 by simp [f_szGainGraph, g0]]
    refine path_ok mixed Try.func25 hc (p_szGainGraph_0 v m) ?_
    simp only [All]
    repeat' (first | exact trivial | with_reducible apply And.intro)
    all_goals (first | exact aG _ | exact aP _ _ | exact aA _ _ | exact aE _ | omega | rfl | (intros; first | assumption | exact True.intro | rfl | exact absurd (show false = true by assumption) Bool.false_ne_true | ((repeat' (first | assumption | apply anda | apply notf)); done)) | (exact con_szGainBarS v.2.1 k.2.1 m (by omega) (by omega)) | (simp; omega))
  rw [show f_szGainGraph v m = (f_szGainBarS v.2.1 m) by simp [f_szGainGraph, g0]]
  refine path_ok mixed Try.func25 hc (p_szGainGraph_e v m) ?_
  simp only [All]
  repeat' (first | exact trivial | with_reducible apply And.intro)
  all_goals (first | exact aG _ | exact aP _ _ | exact aA _ _ | exact aE _ | omega | rfl | (intros; first | assumption | exact True.intro | rfl | exact absurd (show false = true by assumption) Bool.false_ne_true | ((repeat' (first | assumption | apply anda | apply notf)); done)) | (exact con_szGainBarS v.2.1 k.2.1 m (by omega) (by omega)) | (simp; omega))
theorem le_szGainGraph (v : T_GainGraph) (m : Int) (h0 : 0 ≤ m) : f_szGainGraph v m ≤ m := by
  have l0 := le_szGainBarS v.2.1 m h0
  by_cases g0 : (f_szGainBarS v.2.1 m) < 0
  · simp only [f_szGainGraph, g0, if_true, if_false]; omega
  simp only [f_szGainGraph, g0, if_false]; omega
theorem sm_szGainGraph (v : T_GainGraph) (m : Int) (h0 : 0 ≤ m) (h1 : m ≤ 1048576) (h : ¬ f_szGainGraph v m < 0) : smS s_GainGraph v := by
  have l0 := le_szGainBarS v.2.1 m (by omega)
  have g0 : ¬ (f_szGainBarS v.2.1 m) < 0 := by
    intro g; apply h; simp only [f_szGainGraph, g, if_true, if_false]; omega
  exact ⟨by simp [smS, smL], sm_szGainBarS v.2.1 m (by omega) g0, True.intro⟩
theorem con_toGainBar (v : T_GainBar) (hs : smS s_GainBar v) : Con Try.prog 125 0 [] [.agg [.p (.int .i64 v.1), .p (.int .i64 v.2.1), .p (.int .i64 v.2.2.1), .p (.int .i64 v.2.2.2.1)]] [] (.agg [.p (.int .i64 v.1), .p (.int .i64 v.2.1), .p (.int .i64 v.2.2.1), .p (.int .i64 v.2.2.2.1)]) := by
  refine con_start Try.func125 rfl (by kernel_rfl) rfl (fun c hc => ?_)
  refine path_ok mixed Try.func125 hc (p_toGainBar v) ?_
  simp only [All]
  repeat' (first | exact trivial | with_reducible apply And.intro)
  all_goals (first | exact aG _ | exact aP _ _ | exact aA _ _ | exact aE _ | omega | rfl | (intros; first | assumption | exact True.intro | rfl | exact absurd (show false = true by assumption) Bool.false_ne_true | ((repeat' (first | assumption | apply anda | apply notf)); done)) | (intro i hi; simp [hi, All]))
theorem con_toGainBarS (v : T_GainBarS) (hs : smS s_GainBarS v) : Con Try.prog 79 0 [] [.p (.seq true 4 v.1 (fun i => [.int .i64 ((v.2 i).1), .int .i64 ((v.2 i).2.1), .int .i64 ((v.2 i).2.2.1), .int .i64 ((v.2 i).2.2.2.1)]))] [(0, ⟨false, 4, v.1, fun i => [.p (.int .i64 ((v.2 i).1)), .p (.int .i64 ((v.2 i).2.1)), .p (.int .i64 ((v.2 i).2.2.1)), .p (.int .i64 ((v.2 i).2.2.2.1))]⟩)] (.ar 4 0 0 v.1) := by
  refine con_start Try.func79 rfl (by kernel_rfl) rfl (fun c hc => ?_)
  have hn := hs.1
  have lp : ∀ m k, k + m = v.1 → Run Try.prog c 79 [.code (cAt (bodyOf Try.f79) [1, 1, 0, 1, 0, 0]), .inLoop (cAt (bodyOf Try.f79) [1, 1, 0, 1, 0, 0]), .inBlock 0, .code (cAt (bodyOf Try.f79) [1, 1, 1])] (S_toGainBarS v k) (Post c [(0, ⟨false, 4, v.1, fun i => [.p (.int .i64 ((v.2 i).1)), .p (.int .i64 ((v.2 i).2.1)), .p (.int .i64 ((v.2 i).2.2.1)), .p (.int .i64 ((v.2 i).2.2.2.1))]⟩)] (.ar 4 0 0 v.1)) := by
    intro m
    induction m with
    | zero =>
      intro k hk
      refine path_ok mixed Try.func79 hc (p_toGainBarS_c v k) ?_
      simp only [All]
      repeat' (first | exact trivial | with_reducible apply And.intro)
      all_goals (first | exact aG _ | exact aP _ _ | exact aA _ _ | exact aE _ | omega | rfl | (intros; first | assumption | exact True.intro | rfl | exact absurd (show false = true by assumption) Bool.false_ne_true | ((repeat' (first | assumption | apply anda | apply notf)); done)) | (intro i hi; (have hik : i < k := by omega); simp [hik, All]) | (simp; try omega))
    | succ m ih =>
      intro k hk
      have hlt : decide ((k : Int) < (v.1 : Int)) = true := by simp; omega
      refine piece_ok mixed hc (p_toGainBarS_b v k) ?_ (ih (k + 1) (by omega))
      simp only [All]
      repeat' (first | exact trivial | with_reducible apply And.intro)
      all_goals (first | exact aG _ | exact aP _ _ | exact aA _ _ | exact aE _ | omega | rfl | (intros; first | assumption | exact True.intro | rfl | exact absurd (show false = true by assumption) Bool.false_ne_true | ((repeat' (first | assumption | apply anda | apply notf)); done)) | (exact con_toGainBar (v.2 k) (hs.2 k (by omega))) | (intro i hi; by_cases h : i = k <;> simp [h, Nat.lt_succ_iff_lt_or_eq, cvtL, cvt, tg, tru, All]))
  refine piece_ok mixed hc (p_toGainBarS_a v) ?_ (lp v.1 0 (by omega))
  simp only [All]
  repeat' (first | exact trivial | with_reducible apply And.intro)
  all_goals (first | exact aG _ | exact aP _ _ | exact aA _ _ | exact aE _ | omega | rfl | (intros; first | assumption | exact True.intro | rfl | exact absurd (show false = true by assumption) Bool.false_ne_true | ((repeat' (first | assumption | apply anda | apply notf)); done)) | (intro i hi; simp [All]))
theorem con_toGainGraph (v : T_GainGraph) (hs : smS s_GainGraph v) : Con Try.prog 27 0 [] [.agg [.p (.int .i64 v.1), .p (.seq true 4 v.2.1.1 (fun i => [.int .i64 ((v.2.1.2 i).1), .int .i64 ((v.2.1.2 i).2.1), .int .i64 ((v.2.1.2 i).2.2.1), .int .i64 ((v.2.1.2 i).2.2.2.1)]))]] [(0, ⟨false, 4, v.2.1.1, fun i => [.p (.int .i64 ((v.2.1.2 i).1)), .p (.int .i64 ((v.2.1.2 i).2.1)), .p (.int .i64 ((v.2.1.2 i).2.2.1)), .p (.int .i64 ((v.2.1.2 i).2.2.2.1))]⟩)] (.agg [.p (.int .i64 v.1), .ar 4 0 0 v.2.1.1]) := by
  refine con_start Try.func27 rfl (by kernel_rfl) rfl (fun c hc => ?_)
  refine path_ok mixed Try.func27 hc (p_toGainGraph v) ?_
  simp only [All]
  repeat' (first | exact trivial | with_reducible apply And.intro)
  all_goals (first | exact aG _ | exact aP _ _ | exact aA _ _ | exact aE _ | omega | rfl | (intros; first | assumption | exact True.intro | rfl | exact absurd (show false = true by assumption) Bool.false_ne_true | ((repeat' (first | assumption | apply anda | apply notf)); done)) | (exact con_toGainBarS v.2.1 hs.2.1) | (intro i hi; simp [hi, All]))
theorem con_eqGainBar (v : T_GainBar) (hs : smS s_GainBar v) : Con Try.prog 129 0 [] [.agg [.p (.int .i64 v.1), .p (.int .i64 v.2.1), .p (.int .i64 v.2.2.1), .p (.int .i64 v.2.2.2.1)], .agg [.p (.int .i64 v.1), .p (.int .i64 v.2.1), .p (.int .i64 v.2.2.1), .p (.int .i64 v.2.2.2.1)]] [] (.p (.bool true)) := by
  refine con_start Try.func129 rfl (by kernel_rfl) rfl (fun c hc => ?_)
  refine path_ok mixed Try.func129 hc (p_eqGainBar v) ?_
  simp only [All]
  repeat' (first | exact trivial | with_reducible apply And.intro)
  all_goals (first | exact aG _ | exact aP _ _ | exact aA _ _ | exact aE _ | omega | rfl | (intros; first | assumption | exact True.intro | rfl | exact absurd (show false = true by assumption) Bool.false_ne_true | ((repeat' (first | assumption | apply anda | apply notf)); done)) | simp)
theorem con_eqGainBarS (v : T_GainBarS) (hs : smS s_GainBarS v) : Con Try.prog 82 0 [] [.p (.seq true 4 v.1 (fun i => [.int .i64 ((v.2 i).1), .int .i64 ((v.2 i).2.1), .int .i64 ((v.2 i).2.2.1), .int .i64 ((v.2 i).2.2.2.1)])), .p (.seq true 4 v.1 (fun i => [.int .i64 ((v.2 i).1), .int .i64 ((v.2 i).2.1), .int .i64 ((v.2 i).2.2.1), .int .i64 ((v.2 i).2.2.2.1)]))] [] (.p (.bool true)) := by
  refine con_start Try.func82 rfl (by kernel_rfl) rfl (fun c hc => ?_)
  have hn := hs.1
  have lp : ∀ m k, k + m = v.1 → Run Try.prog c 82 [.code (cAt (bodyOf Try.f82) [1, 1, 0, 1, 0, 0]), .inLoop (cAt (bodyOf Try.f82) [1, 1, 0, 1, 0, 0]), .inBlock 0, .code (cAt (bodyOf Try.f82) [1, 1, 1])] (S_eqGainBarS v k) (Post c [] (.p (.bool true))) := by
    intro m
    induction m with
    | zero =>
      intro k hk
      refine path_ok mixed Try.func82 hc (p_eqGainBarS_c v k) ?_
      simp only [All]
      repeat' (first | exact trivial | with_reducible apply And.intro)
      all_goals (first | exact aG _ | exact aP _ _ | exact aA _ _ | exact aE _ | omega | rfl | (intros; first | assumption | exact True.intro | rfl | exact absurd (show false = true by assumption) Bool.false_ne_true | ((repeat' (first | assumption | apply anda | apply notf)); done)) | (simp; try omega))
    | succ m ih =>
      intro k hk
      have hlt : decide ((k : Int) < (v.1 : Int)) = true := by simp; omega
      refine piece_ok mixed hc (p_eqGainBarS_b v k) ?_ (ih (k + 1) (by omega))
      simp only [All]
      repeat' (first | exact trivial | with_reducible apply And.intro)
      all_goals (first | exact aG _ | exact aP _ _ | exact aA _ _ | exact aE _ | omega | rfl | (intros; first | assumption | exact True.intro | rfl | exact absurd (show false = true by assumption) Bool.false_ne_true | ((repeat' (first | assumption | apply anda | apply notf)); done)) | (exact con_eqGainBar (v.2 k) (hs.2 k (by omega))) | simp)
  refine piece_ok mixed hc (p_eqGainBarS_a v) ?_ (lp v.1 0 (by omega))
  simp only [All]
  repeat' (first | exact trivial | with_reducible apply And.intro)
  all_goals (first | exact aG _ | exact aP _ _ | exact aA _ _ | exact aE _ | omega | rfl | (intros; first | assumption | exact True.intro | rfl | exact absurd (show false = true by assumption) Bool.false_ne_true | ((repeat' (first | assumption | apply anda | apply notf)); done)) | simp)
theorem con_eqGainGraph (v : T_GainGraph) (hs : smS s_GainGraph v) : Con Try.prog 29 0 [] [.agg [.p (.int .i64 v.1), .p (.seq true 4 v.2.1.1 (fun i => [.int .i64 ((v.2.1.2 i).1), .int .i64 ((v.2.1.2 i).2.1), .int .i64 ((v.2.1.2 i).2.2.1), .int .i64 ((v.2.1.2 i).2.2.2.1)]))], .agg [.p (.int .i64 v.1), .p (.seq true 4 v.2.1.1 (fun i => [.int .i64 ((v.2.1.2 i).1), .int .i64 ((v.2.1.2 i).2.1), .int .i64 ((v.2.1.2 i).2.2.1), .int .i64 ((v.2.1.2 i).2.2.2.1)]))]] [] (.p (.bool true)) := by
  refine con_start Try.func29 rfl (by kernel_rfl) rfl (fun c hc => ?_)
  refine path_ok mixed Try.func29 hc (p_eqGainGraph v) ?_
  simp only [All]
  repeat' (first | exact trivial | with_reducible apply And.intro)
  all_goals (first | exact aG _ | exact aP _ _ | exact aA _ _ | exact aE _ | omega | rfl | (intros; first | assumption | exact True.intro | rfl | exact absurd (show false = true by assumption) Bool.false_ne_true | ((repeat' (first | assumption | apply anda | apply notf)); done)) | (exact con_eqGainBarS v.2.1 hs.2.1) | simp)
end Go.Proofs.Ytffnfeefjdmifaa.Mach
namespace Go.Proofs.Ytffnfeefjdmifaa.Mach
open Go
set_option linter.unusedVariables false
set_option linter.unusedSimpArgs false
def inB (x a b : Int) : Bool := decide (a ≤ x) && decide (x ≤ b)
theorem p36 (x a b : Int) :
    pathOb Try.prog Try.f37 0 [.reg [oT], .reg [oT, oT, oT, oT, oT, oT, oT, oT, oT]] [.code (bodyOf Try.f37)] (start Try.f37 [] 0 [.p (.int .i64 x), .p (.int .i64 a), .p (.int .i64 b)]) [] 1 [] (.p (.bool (inB x a b))) =
    some [(AG (decide (x ≥ a))),
  (AG (decide (x ≥ a))),
  (AG (decide (x ≥ a))),
  ((bif decide (x ≥ a) then decide (x ≤ b) else false) = (inB x a b))] := by kernel_rfl
theorem p37 (x a b : Int) :
    pathOb Try.prog Try.f40 0 [.reg [oT], .reg [oT, oT, oT, oT, oT, oT, oT, oT, oT]] [.code (bodyOf Try.f40)] (start Try.f40 [] 0 [.p (.int .i64 x), .p (.int .i64 a), .p (.int .i64 b)]) [] 1 [] (.p (.bool (inB x a b))) =
    some [(AG (decide (x ≥ a))),
  (AG (decide (x ≥ a))),
  (AG (decide (x ≥ a))),
  ((bif decide (x ≥ a) then decide (x ≤ b) else false) = (inB x a b))] := by kernel_rfl
theorem con_l1In (x a b : Int) : Con Try.prog 37 0 [] [.p (.int .i64 x), .p (.int .i64 a), .p (.int .i64 b)] [] (.p (.bool (inB x a b))) := by
  refine con_start Try.func37 rfl (by kernel_rfl) rfl (fun c hc => ?_)
  refine path_ok mixed Try.func37 hc (p36 x a b) ?_
  simp only [All]
  repeat' (first | exact trivial | with_reducible apply And.intro)
  all_goals (first | exact aG _ | exact aP _ _ | exact aA _ _ | exact aE _ | omega | rfl | (intros; first | assumption | exact True.intro | rfl | exact absurd (show false = true by assumption) Bool.false_ne_true | ((repeat' (first | assumption | apply anda | apply notf)); done)) | (simp only [inB]; cases decide (a ≤ x) <;> rfl))
theorem con_within (x a b : Int) : Con Try.prog 40 0 [] [.p (.int .i64 x), .p (.int .i64 a), .p (.int .i64 b)] [] (.p (.bool (inB x a b))) := by
  refine con_start Try.func40 rfl (by kernel_rfl) rfl (fun c hc => ?_)
  refine path_ok mixed Try.func40 hc (p37 x a b) ?_
  simp only [All]
  repeat' (first | exact trivial | with_reducible apply And.intro)
  all_goals (first | exact aG _ | exact aP _ _ | exact aA _ _ | exact aE _ | omega | rfl | (intros; first | assumption | exact True.intro | rfl | exact absurd (show false = true by assumption) Bool.false_ne_true | ((repeat' (first | assumption | apply anda | apply notf)); done)) | (simp only [inB]; cases decide (a ≤ x) <;> rfl))
end Go.Proofs.Ytffnfeefjdmifaa.Mach
namespace Go.Proofs.Ytffnfeefjdmifaa.Mach
open Go
set_option linter.unusedVariables false
set_option linter.unusedSimpArgs false
def badG (N : Int) (b : T_GainBar) : Bool :=
  bif bif bif bif bif decide (b.1 < 0) then true else decide (b.1 > b.2.1) then true else decide (b.2.1 ≥ N) then true else !inB b.2.2.1 (-9) 9 then true else !inB b.2.2.2.1 (-9) 9 then true
    else bif bif b.1 == b.2.1 then b.2.2.1 == 0 else false then b.2.2.2.1 == 0 else false
def goodG (v : T_GainGraph) : Nat → Bool
  | 0 => true
  | k + 1 => goodG v k && !badG v.1 (v.2.1.2 k)
def isGainF (v : T_GainGraph) : Bool := goodG v v.2.1.1 && (inB v.1 1 4 && decide (v.2.1.1 ≤ 8))
def gainA (v : T_GainGraph) : AV := .agg [.p (.int .i64 v.1), .p (.seq true 4 v.2.1.1 (fun i => [.int .i64 (v.2.1.2 i).1, .int .i64 (v.2.1.2 i).2.1, .int .i64 (v.2.1.2 i).2.2.1, .int .i64 (v.2.1.2 i).2.2.2.1]))]
def gainL (v : T_GainGraph) : AV := .p (.seq true 4 v.2.1.1 (fun i => [.int .i64 (v.2.1.2 i).1, .int .i64 (v.2.1.2 i).2.1, .int .i64 (v.2.1.2 i).2.2.1, .int .i64 (v.2.1.2 i).2.2.2.1]))
def S17 (v : T_GainGraph) (k : Nat) : St :=
  ⟨[gainA v, .pt 2 0 0 0, .p .any, .p (.int .i64 k)] ++ List.replicate 68 anyA, [(0, ⟨true, 2, 1, fun i => [.p (.int .i64 v.1), gainL v]⟩)], 1⟩
def S19 (v : T_GainGraph) (k : Nat) : St :=
  ⟨[gainA v, .pt 2 0 0 0, .p .any, .p .any, .p .any] ++ List.replicate 11 anyA ++ [gainL v, .p (.int .i64 v.2.1.1), .p (.int .i64 k)] ++ List.replicate 50 anyA, [(0, ⟨true, 2, 1, fun i => [.p (.int .i64 v.1), gainL v]⟩)], 1⟩
theorem p17a (v : T_GainGraph) :
    pieceOb Try.prog 0 [.reg [oT, oT], .reg [oT], .head] [.code (bodyOf Try.f75)] (start Try.f75 [] 0 [gainA v]) [0] 1 (S17 v 0) =
    some ([.code (cAt (bodyOf Try.f75) [1, 0, 1, 0, 0]), .inLoop (cAt (bodyOf Try.f75) [1, 0, 1, 0, 0]), .inBlock 0, .code (cAt (bodyOf Try.f75) [1, 1])], [(AI v.1),
  (AN v.2.1.1),
  (AP v.2.1.1 (fun i => [.int .i64 ((v.2.1.2 i).1), .int .i64 ((v.2.1.2 i).2.1), .int .i64 ((v.2.1.2 i).2.2.1), .int .i64 ((v.2.1.2 i).2.2.2.1)])),
  (AN 0),
  ((0 : Int) = (↑0 : Int)),
  ((([AV.p (PV.int IntKind.i64 v.1), AV.p (PV.seq true 4 v.2.1.1 fun i => [PV.int IntKind.i64 (v.2.1.2 i).1, PV.int IntKind.i64 (v.2.1.2 i).2.1, PV.int IntKind.i64 (v.2.1.2 i).2.2.1, PV.int IntKind.i64 (v.2.1.2 i).2.2.2.1])].length) : Nat) = 2),
  ((1 : Nat) ≤ 1),
  ((1 : Nat) ≤ 1),
  (AI v.1),
  (AN v.2.1.1),
  (AP v.2.1.1 (fun i => [.int .i64 ((v.2.1.2 i).1), .int .i64 ((v.2.1.2 i).2.1), .int .i64 ((v.2.1.2 i).2.2.1), .int .i64 ((v.2.1.2 i).2.2.2.1)]))]) := by kernel_rfl
theorem p17b (v : T_GainGraph) (k : Nat) :
    pieceOb Try.prog 0 [.reg [oT, oT, oT, oT, oT], .dec true, .reg [oT, oT, oT, oT, oT, oT, oT], .reg [oT, oT, oT, oT, oT, oT, oT, oT, oT, oT, oT, oT, oT, oT, oT, oT, oT, oT, oT, oT, ⟨true, (some ⟨[], [], [], 1, [], .p (.bool (inB (v.2.1.2 k).2.2.1 (-9) 9))⟩), none⟩, oT, oT, oT, oT, oT, ⟨true, (some ⟨[], [], [], 1, [], .p (.bool (inB (v.2.1.2 k).2.2.2.1 (-9) 9))⟩), none⟩, oT, oT, oT, oT, oT, oT, oT, oT, oT, oT, oT, oT, oT, oT, oT, oT, oT, oT, oT], .dec false, .reg [oT, oT, oT], .head] [.code (cAt (bodyOf Try.f75) [1, 0, 1, 0, 0]), .inLoop (cAt (bodyOf Try.f75) [1, 0, 1, 0, 0]), .inBlock 0, .code (cAt (bodyOf Try.f75) [1, 1])] (S17 v k) [0] 1 (S17 v (k + 1)) =
    some ([.code (cAt (bodyOf Try.f75) [1, 0, 1, 0, 0]), .inLoop (cAt (bodyOf Try.f75) [1, 0, 1, 0, 0]), .inBlock 0, .code (cAt (bodyOf Try.f75) [1, 1])], [((0 : Nat) < 1),
  ((decide ((↑k : Int) < (↑v.2.1.1 : Int))) = true),
  ((0 : Nat) < 1),
  ((0 : Int) ≤ (↑k : Int)),
  (((↑k : Int) : Int) < (↑v.2.1.1 : Int)),
  ((0 : Nat) < 1),
  ((true = true) → (AN 1)),
  ((0 : Nat) < 1),
  (AG (!decide ((v.2.1.2 (↑k : Int).toNat).1 < 0))),
  (((!decide ((v.2.1.2 (↑k : Int).toNat).1 < 0)) = true) → ((0 : Nat) < 1)),
  (AG (!decide ((v.2.1.2 (↑k : Int).toNat).1 < 0))),
  (((!decide ((v.2.1.2 (↑k : Int).toNat).1 < 0)) = true) → ((0 : Nat) < 1)),
  (AG (!decide ((v.2.1.2 (↑k : Int).toNat).1 < 0))),
  (AG (!decide ((v.2.1.2 (↑k : Int).toNat).1 < 0))),
  (((decide ((v.2.1.2 (↑k : Int).toNat).1 < 0)) = false) → ((!decide ((v.2.1.2 (↑k : Int).toNat).1 < 0)) = true)),
  (AG (!bif decide ((v.2.1.2 (↑k : Int).toNat).1 < 0) then true else decide ((v.2.1.2 (↑k : Int).toNat).1 > (v.2.1.2 (↑k : Int).toNat).2.1))),
  (((!bif decide ((v.2.1.2 (↑k : Int).toNat).1 < 0) then true else decide ((v.2.1.2 (↑k : Int).toNat).1 > (v.2.1.2 (↑k : Int).toNat).2.1)) = true) → ((0 : Nat) < 1)),
  (AG (!bif decide ((v.2.1.2 (↑k : Int).toNat).1 < 0) then true else decide ((v.2.1.2 (↑k : Int).toNat).1 > (v.2.1.2 (↑k : Int).toNat).2.1))),
  (((!bif decide ((v.2.1.2 (↑k : Int).toNat).1 < 0) then true else decide ((v.2.1.2 (↑k : Int).toNat).1 > (v.2.1.2 (↑k : Int).toNat).2.1)) = true) → ((0 : Nat) < 1)),
  (AG (!bif decide ((v.2.1.2 (↑k : Int).toNat).1 < 0) then true else decide ((v.2.1.2 (↑k : Int).toNat).1 > (v.2.1.2 (↑k : Int).toNat).2.1))),
  (AG (!bif decide ((v.2.1.2 (↑k : Int).toNat).1 < 0) then true else decide ((v.2.1.2 (↑k : Int).toNat).1 > (v.2.1.2 (↑k : Int).toNat).2.1))),
  (((bif decide ((v.2.1.2 (↑k : Int).toNat).1 < 0) then true else decide ((v.2.1.2 (↑k : Int).toNat).1 > (v.2.1.2 (↑k : Int).toNat).2.1)) = false) → ((!bif decide ((v.2.1.2 (↑k : Int).toNat).1 < 0) then true else decide ((v.2.1.2 (↑k : Int).toNat).1 > (v.2.1.2 (↑k : Int).toNat).2.1)) = true)),
  (AG (!bif bif decide ((v.2.1.2 (↑k : Int).toNat).1 < 0) then true else decide ((v.2.1.2 (↑k : Int).toNat).1 > (v.2.1.2 (↑k : Int).toNat).2.1) then true else decide ((v.2.1.2 (↑k : Int).toNat).2.1 ≥ v.1))),
  (((!bif bif decide ((v.2.1.2 (↑k : Int).toNat).1 < 0) then true else decide ((v.2.1.2 (↑k : Int).toNat).1 > (v.2.1.2 (↑k : Int).toNat).2.1) then true else decide ((v.2.1.2 (↑k : Int).toNat).2.1 ≥ v.1)) = true) → ((0 : Nat) < 1)),
  (AG (!bif bif decide ((v.2.1.2 (↑k : Int).toNat).1 < 0) then true else decide ((v.2.1.2 (↑k : Int).toNat).1 > (v.2.1.2 (↑k : Int).toNat).2.1) then true else decide ((v.2.1.2 (↑k : Int).toNat).2.1 ≥ v.1))),
  (((!bif bif decide ((v.2.1.2 (↑k : Int).toNat).1 < 0) then true else decide ((v.2.1.2 (↑k : Int).toNat).1 > (v.2.1.2 (↑k : Int).toNat).2.1) then true else decide ((v.2.1.2 (↑k : Int).toNat).2.1 ≥ v.1)) = true) → Con Try.prog 37 0 [] [.p (.int .i64 ((v.2.1.2 k).2.2.1)), .p (.int .i64 (-9)), .p (.int .i64 9)] [] (.p (.bool (inB (v.2.1.2 k).2.2.1 (-9) 9)))),
  (AG (!bif bif decide ((v.2.1.2 (↑k : Int).toNat).1 < 0) then true else decide ((v.2.1.2 (↑k : Int).toNat).1 > (v.2.1.2 (↑k : Int).toNat).2.1) then true else decide ((v.2.1.2 (↑k : Int).toNat).2.1 ≥ v.1))),
  (((bif bif decide ((v.2.1.2 (↑k : Int).toNat).1 < 0) then true else decide ((v.2.1.2 (↑k : Int).toNat).1 > (v.2.1.2 (↑k : Int).toNat).2.1) then true else decide ((v.2.1.2 (↑k : Int).toNat).2.1 ≥ v.1)) = false) → ((!bif bif decide ((v.2.1.2 (↑k : Int).toNat).1 < 0) then true else decide ((v.2.1.2 (↑k : Int).toNat).1 > (v.2.1.2 (↑k : Int).toNat).2.1) then true else decide ((v.2.1.2 (↑k : Int).toNat).2.1 ≥ v.1)) = true)),
  (AG (!bif bif bif decide ((v.2.1.2 (↑k : Int).toNat).1 < 0) then true else decide ((v.2.1.2 (↑k : Int).toNat).1 > (v.2.1.2 (↑k : Int).toNat).2.1) then true else decide ((v.2.1.2 (↑k : Int).toNat).2.1 ≥ v.1) then true else !inB (v.2.1.2 k).2.2.1 (-9) 9)),
  (((!bif bif bif decide ((v.2.1.2 (↑k : Int).toNat).1 < 0) then true else decide ((v.2.1.2 (↑k : Int).toNat).1 > (v.2.1.2 (↑k : Int).toNat).2.1) then true else decide ((v.2.1.2 (↑k : Int).toNat).2.1 ≥ v.1) then true else !inB (v.2.1.2 k).2.2.1 (-9) 9) = true) → ((0 : Nat) < 1)),
  (AG (!bif bif bif decide ((v.2.1.2 (↑k : Int).toNat).1 < 0) then true else decide ((v.2.1.2 (↑k : Int).toNat).1 > (v.2.1.2 (↑k : Int).toNat).2.1) then true else decide ((v.2.1.2 (↑k : Int).toNat).2.1 ≥ v.1) then true else !inB (v.2.1.2 k).2.2.1 (-9) 9)),
  (((!bif bif bif decide ((v.2.1.2 (↑k : Int).toNat).1 < 0) then true else decide ((v.2.1.2 (↑k : Int).toNat).1 > (v.2.1.2 (↑k : Int).toNat).2.1) then true else decide ((v.2.1.2 (↑k : Int).toNat).2.1 ≥ v.1) then true else !inB (v.2.1.2 k).2.2.1 (-9) 9) = true) → Con Try.prog 37 0 [] [.p (.int .i64 ((v.2.1.2 k).2.2.2.1)), .p (.int .i64 (-9)), .p (.int .i64 9)] [] (.p (.bool (inB (v.2.1.2 k).2.2.2.1 (-9) 9)))),
  (AG (!bif bif bif decide ((v.2.1.2 (↑k : Int).toNat).1 < 0) then true else decide ((v.2.1.2 (↑k : Int).toNat).1 > (v.2.1.2 (↑k : Int).toNat).2.1) then true else decide ((v.2.1.2 (↑k : Int).toNat).2.1 ≥ v.1) then true else !inB (v.2.1.2 k).2.2.1 (-9) 9)),
  (((bif bif bif decide ((v.2.1.2 (↑k : Int).toNat).1 < 0) then true else decide ((v.2.1.2 (↑k : Int).toNat).1 > (v.2.1.2 (↑k : Int).toNat).2.1) then true else decide ((v.2.1.2 (↑k : Int).toNat).2.1 ≥ v.1) then true else !inB (v.2.1.2 k).2.2.1 (-9) 9) = false) → ((!bif bif bif decide ((v.2.1.2 (↑k : Int).toNat).1 < 0) then true else decide ((v.2.1.2 (↑k : Int).toNat).1 > (v.2.1.2 (↑k : Int).toNat).2.1) then true else decide ((v.2.1.2 (↑k : Int).toNat).2.1 ≥ v.1) then true else !inB (v.2.1.2 k).2.2.1 (-9) 9) = true)),
  (AG (!bif bif bif bif decide ((v.2.1.2 (↑k : Int).toNat).1 < 0) then true else decide ((v.2.1.2 (↑k : Int).toNat).1 > (v.2.1.2 (↑k : Int).toNat).2.1) then true else decide ((v.2.1.2 (↑k : Int).toNat).2.1 ≥ v.1) then true else !inB (v.2.1.2 k).2.2.1 (-9) 9 then true else !inB (v.2.1.2 k).2.2.2.1 (-9) 9)),
  (((!bif bif bif bif decide ((v.2.1.2 (↑k : Int).toNat).1 < 0) then true else decide ((v.2.1.2 (↑k : Int).toNat).1 > (v.2.1.2 (↑k : Int).toNat).2.1) then true else decide ((v.2.1.2 (↑k : Int).toNat).2.1 ≥ v.1) then true else !inB (v.2.1.2 k).2.2.1 (-9) 9 then true else !inB (v.2.1.2 k).2.2.2.1 (-9) 9) = true) → ((0 : Nat) < 1)),
  (AG (!bif bif bif bif decide ((v.2.1.2 (↑k : Int).toNat).1 < 0) then true else decide ((v.2.1.2 (↑k : Int).toNat).1 > (v.2.1.2 (↑k : Int).toNat).2.1) then true else decide ((v.2.1.2 (↑k : Int).toNat).2.1 ≥ v.1) then true else !inB (v.2.1.2 k).2.2.1 (-9) 9 then true else !inB (v.2.1.2 k).2.2.2.1 (-9) 9)),
  (((!bif bif bif bif decide ((v.2.1.2 (↑k : Int).toNat).1 < 0) then true else decide ((v.2.1.2 (↑k : Int).toNat).1 > (v.2.1.2 (↑k : Int).toNat).2.1) then true else decide ((v.2.1.2 (↑k : Int).toNat).2.1 ≥ v.1) then true else !inB (v.2.1.2 k).2.2.1 (-9) 9 then true else !inB (v.2.1.2 k).2.2.2.1 (-9) 9) = true) → ((0 : Nat) < 1)),
  (AG (!bif bif bif bif decide ((v.2.1.2 (↑k : Int).toNat).1 < 0) then true else decide ((v.2.1.2 (↑k : Int).toNat).1 > (v.2.1.2 (↑k : Int).toNat).2.1) then true else decide ((v.2.1.2 (↑k : Int).toNat).2.1 ≥ v.1) then true else !inB (v.2.1.2 k).2.2.1 (-9) 9 then true else !inB (v.2.1.2 k).2.2.2.1 (-9) 9)),
  (AG (!bif bif bif bif decide ((v.2.1.2 (↑k : Int).toNat).1 < 0) then true else decide ((v.2.1.2 (↑k : Int).toNat).1 > (v.2.1.2 (↑k : Int).toNat).2.1) then true else decide ((v.2.1.2 (↑k : Int).toNat).2.1 ≥ v.1) then true else !inB (v.2.1.2 k).2.2.1 (-9) 9 then true else !inB (v.2.1.2 k).2.2.2.1 (-9) 9)),
  (AG (!bif bif bif bif decide ((v.2.1.2 (↑k : Int).toNat).1 < 0) then true else decide ((v.2.1.2 (↑k : Int).toNat).1 > (v.2.1.2 (↑k : Int).toNat).2.1) then true else decide ((v.2.1.2 (↑k : Int).toNat).2.1 ≥ v.1) then true else !inB (v.2.1.2 k).2.2.1 (-9) 9 then true else !inB (v.2.1.2 k).2.2.2.1 (-9) 9)),
  (AG ((!bif bif bif bif decide ((v.2.1.2 (↑k : Int).toNat).1 < 0) then true else decide ((v.2.1.2 (↑k : Int).toNat).1 > (v.2.1.2 (↑k : Int).toNat).2.1) then true else decide ((v.2.1.2 (↑k : Int).toNat).2.1 ≥ v.1) then true else !inB (v.2.1.2 k).2.2.1 (-9) 9 then true else !inB (v.2.1.2 k).2.2.2.1 (-9) 9) && (v.2.1.2 k).1 == (v.2.1.2 k).2.1)),
  ((((!bif bif bif bif decide ((v.2.1.2 (↑k : Int).toNat).1 < 0) then true else decide ((v.2.1.2 (↑k : Int).toNat).1 > (v.2.1.2 (↑k : Int).toNat).2.1) then true else decide ((v.2.1.2 (↑k : Int).toNat).2.1 ≥ v.1) then true else !inB (v.2.1.2 k).2.2.1 (-9) 9 then true else !inB (v.2.1.2 k).2.2.2.1 (-9) 9) && (v.2.1.2 k).1 == (v.2.1.2 k).2.1) = true) → ((0 : Nat) < 1)),
  (AG ((!bif bif bif bif decide ((v.2.1.2 (↑k : Int).toNat).1 < 0) then true else decide ((v.2.1.2 (↑k : Int).toNat).1 > (v.2.1.2 (↑k : Int).toNat).2.1) then true else decide ((v.2.1.2 (↑k : Int).toNat).2.1 ≥ v.1) then true else !inB (v.2.1.2 k).2.2.1 (-9) 9 then true else !inB (v.2.1.2 k).2.2.2.1 (-9) 9) && (v.2.1.2 k).1 == (v.2.1.2 k).2.1)),
  (AG (!bif bif bif bif decide ((v.2.1.2 (↑k : Int).toNat).1 < 0) then true else decide ((v.2.1.2 (↑k : Int).toNat).1 > (v.2.1.2 (↑k : Int).toNat).2.1) then true else decide ((v.2.1.2 (↑k : Int).toNat).2.1 ≥ v.1) then true else !inB (v.2.1.2 k).2.2.1 (-9) 9 then true else !inB (v.2.1.2 k).2.2.2.1 (-9) 9)),
  (((!bif bif bif bif decide ((v.2.1.2 (↑k : Int).toNat).1 < 0) then true else decide ((v.2.1.2 (↑k : Int).toNat).1 > (v.2.1.2 (↑k : Int).toNat).2.1) then true else decide ((v.2.1.2 (↑k : Int).toNat).2.1 ≥ v.1) then true else !inB (v.2.1.2 k).2.2.1 (-9) 9 then true else !inB (v.2.1.2 k).2.2.2.1 (-9) 9) = true) → ((((v.2.1.2 k).1 == (v.2.1.2 k).2.1) = true) → (((!bif bif bif bif decide ((v.2.1.2 (↑k : Int).toNat).1 < 0) then true else decide ((v.2.1.2 (↑k : Int).toNat).1 > (v.2.1.2 (↑k : Int).toNat).2.1) then true else decide ((v.2.1.2 (↑k : Int).toNat).2.1 ≥ v.1) then true else !inB (v.2.1.2 k).2.2.1 (-9) 9 then true else !inB (v.2.1.2 k).2.2.2.1 (-9) 9) && (v.2.1.2 k).1 == (v.2.1.2 k).2.1) = true))),
  (AG (!bif bif bif bif decide ((v.2.1.2 (↑k : Int).toNat).1 < 0) then true else decide ((v.2.1.2 (↑k : Int).toNat).1 > (v.2.1.2 (↑k : Int).toNat).2.1) then true else decide ((v.2.1.2 (↑k : Int).toNat).2.1 ≥ v.1) then true else !inB (v.2.1.2 k).2.2.1 (-9) 9 then true else !inB (v.2.1.2 k).2.2.2.1 (-9) 9)),
  (AG ((!bif bif bif bif decide ((v.2.1.2 (↑k : Int).toNat).1 < 0) then true else decide ((v.2.1.2 (↑k : Int).toNat).1 > (v.2.1.2 (↑k : Int).toNat).2.1) then true else decide ((v.2.1.2 (↑k : Int).toNat).2.1 ≥ v.1) then true else !inB (v.2.1.2 k).2.2.1 (-9) 9 then true else !inB (v.2.1.2 k).2.2.2.1 (-9) 9) && bif (v.2.1.2 k).1 == (v.2.1.2 k).2.1 then (v.2.1.2 k).2.2.1 == 0 else false)),
  ((((!bif bif bif bif decide ((v.2.1.2 (↑k : Int).toNat).1 < 0) then true else decide ((v.2.1.2 (↑k : Int).toNat).1 > (v.2.1.2 (↑k : Int).toNat).2.1) then true else decide ((v.2.1.2 (↑k : Int).toNat).2.1 ≥ v.1) then true else !inB (v.2.1.2 k).2.2.1 (-9) 9 then true else !inB (v.2.1.2 k).2.2.2.1 (-9) 9) && bif (v.2.1.2 k).1 == (v.2.1.2 k).2.1 then (v.2.1.2 k).2.2.1 == 0 else false) = true) → ((0 : Nat) < 1)),
  (AG ((!bif bif bif bif decide ((v.2.1.2 (↑k : Int).toNat).1 < 0) then true else decide ((v.2.1.2 (↑k : Int).toNat).1 > (v.2.1.2 (↑k : Int).toNat).2.1) then true else decide ((v.2.1.2 (↑k : Int).toNat).2.1 ≥ v.1) then true else !inB (v.2.1.2 k).2.2.1 (-9) 9 then true else !inB (v.2.1.2 k).2.2.2.1 (-9) 9) && bif (v.2.1.2 k).1 == (v.2.1.2 k).2.1 then (v.2.1.2 k).2.2.1 == 0 else false)),
  (AG (!bif bif bif bif decide ((v.2.1.2 (↑k : Int).toNat).1 < 0) then true else decide ((v.2.1.2 (↑k : Int).toNat).1 > (v.2.1.2 (↑k : Int).toNat).2.1) then true else decide ((v.2.1.2 (↑k : Int).toNat).2.1 ≥ v.1) then true else !inB (v.2.1.2 k).2.2.1 (-9) 9 then true else !inB (v.2.1.2 k).2.2.2.1 (-9) 9)),
  (((!bif bif bif bif decide ((v.2.1.2 (↑k : Int).toNat).1 < 0) then true else decide ((v.2.1.2 (↑k : Int).toNat).1 > (v.2.1.2 (↑k : Int).toNat).2.1) then true else decide ((v.2.1.2 (↑k : Int).toNat).2.1 ≥ v.1) then true else !inB (v.2.1.2 k).2.2.1 (-9) 9 then true else !inB (v.2.1.2 k).2.2.2.1 (-9) 9) = true) → (((bif (v.2.1.2 k).1 == (v.2.1.2 k).2.1 then (v.2.1.2 k).2.2.1 == 0 else false) = true) → (((!bif bif bif bif decide ((v.2.1.2 (↑k : Int).toNat).1 < 0) then true else decide ((v.2.1.2 (↑k : Int).toNat).1 > (v.2.1.2 (↑k : Int).toNat).2.1) then true else decide ((v.2.1.2 (↑k : Int).toNat).2.1 ≥ v.1) then true else !inB (v.2.1.2 k).2.2.1 (-9) 9 then true else !inB (v.2.1.2 k).2.2.2.1 (-9) 9) && bif (v.2.1.2 k).1 == (v.2.1.2 k).2.1 then (v.2.1.2 k).2.2.1 == 0 else false) = true))),
  (((bif bif bif bif decide ((v.2.1.2 (↑k : Int).toNat).1 < 0) then true else decide ((v.2.1.2 (↑k : Int).toNat).1 > (v.2.1.2 (↑k : Int).toNat).2.1) then true else decide ((v.2.1.2 (↑k : Int).toNat).2.1 ≥ v.1) then true else !inB (v.2.1.2 k).2.2.1 (-9) 9 then true else !inB (v.2.1.2 k).2.2.2.1 (-9) 9) = false) → ((!bif bif bif bif decide ((v.2.1.2 (↑k : Int).toNat).1 < 0) then true else decide ((v.2.1.2 (↑k : Int).toNat).1 > (v.2.1.2 (↑k : Int).toNat).2.1) then true else decide ((v.2.1.2 (↑k : Int).toNat).2.1 ≥ v.1) then true else !inB (v.2.1.2 k).2.2.1 (-9) 9 then true else !inB (v.2.1.2 k).2.2.2.1 (-9) 9) = true)),
  ((bif bif bif bif bif decide ((v.2.1.2 (↑k : Int).toNat).1 < 0) then true else decide ((v.2.1.2 (↑k : Int).toNat).1 > (v.2.1.2 (↑k : Int).toNat).2.1) then true else decide ((v.2.1.2 (↑k : Int).toNat).2.1 ≥ v.1) then true else !inB (v.2.1.2 k).2.2.1 (-9) 9 then true else !inB (v.2.1.2 k).2.2.2.1 (-9) 9 then true else bif bif (v.2.1.2 k).1 == (v.2.1.2 k).2.1 then (v.2.1.2 k).2.2.1 == 0 else false then (v.2.1.2 k).2.2.2.1 == 0 else false) = false),
  (((-9223372036854775808) : Int) ≤ ((↑k : Int) + 1)),
  ((((↑k : Int) + 1) : Int) ≤ 9223372036854775807),
  (AI v.1),
  (AN v.2.1.1),
  (AP v.2.1.1 (fun i => [.int .i64 ((v.2.1.2 i).1), .int .i64 ((v.2.1.2 i).2.1), .int .i64 ((v.2.1.2 i).2.2.1), .int .i64 ((v.2.1.2 i).2.2.2.1)])),
  (AN 0),
  ((((↑k : Int) + 1) : Int) = (↑(k + 1) : Int)),
  (AN 2),
  ((1 : Nat) ≤ 1),
  ((1 : Nat) ≤ 1),
  (AI v.1),
  (AN v.2.1.1),
  (AP v.2.1.1 (fun i => [.int .i64 ((v.2.1.2 i).1), .int .i64 ((v.2.1.2 i).2.1), .int .i64 ((v.2.1.2 i).2.2.1), .int .i64 ((v.2.1.2 i).2.2.2.1)]))]) := by kernel_rfl
theorem p17c (v : T_GainGraph) (k : Nat) :
    pathOb Try.prog Try.f75 0 [.reg [oT, oT, oT, oT, oT], .dec true, .reg [oT, oT, oT, oT, oT, oT, oT], .reg [oT, oT, oT, oT, oT, oT, oT, oT, oT, oT, oT, oT, oT, oT, oT, oT, oT, oT, oT, oT, ⟨true, (some ⟨[], [], [], 1, [], .p (.bool (inB (v.2.1.2 k).2.2.1 (-9) 9))⟩), none⟩, oT, oT, oT, oT, oT, ⟨true, (some ⟨[], [], [], 1, [], .p (.bool (inB (v.2.1.2 k).2.2.2.1 (-9) 9))⟩), none⟩, oT, oT, oT, oT, oT, oT, oT, oT, oT, oT, oT, oT, oT, oT, oT, oT, oT, oT, oT], .dec true, .reg [oT]] [.code (cAt (bodyOf Try.f75) [1, 0, 1, 0, 0]), .inLoop (cAt (bodyOf Try.f75) [1, 0, 1, 0, 0]), .inBlock 0, .code (cAt (bodyOf Try.f75) [1, 1])] (S17 v k) [] 1 [] (.p (.bool false)) =
    some [((0 : Nat) < 1),
  ((decide ((↑k : Int) < (↑v.2.1.1 : Int))) = true),
  ((0 : Nat) < 1),
  ((0 : Int) ≤ (↑k : Int)),
  (((↑k : Int) : Int) < (↑v.2.1.1 : Int)),
  ((0 : Nat) < 1),
  ((true = true) → (AN 1)),
  ((0 : Nat) < 1),
  (AG (!decide ((v.2.1.2 (↑k : Int).toNat).1 < 0))),
  (((!decide ((v.2.1.2 (↑k : Int).toNat).1 < 0)) = true) → ((0 : Nat) < 1)),
  (AG (!decide ((v.2.1.2 (↑k : Int).toNat).1 < 0))),
  (((!decide ((v.2.1.2 (↑k : Int).toNat).1 < 0)) = true) → ((0 : Nat) < 1)),
  (AG (!decide ((v.2.1.2 (↑k : Int).toNat).1 < 0))),
  (AG (!decide ((v.2.1.2 (↑k : Int).toNat).1 < 0))),
  (((decide ((v.2.1.2 (↑k : Int).toNat).1 < 0)) = false) → ((!decide ((v.2.1.2 (↑k : Int).toNat).1 < 0)) = true)),
  (AG (!bif decide ((v.2.1.2 (↑k : Int).toNat).1 < 0) then true else decide ((v.2.1.2 (↑k : Int).toNat).1 > (v.2.1.2 (↑k : Int).toNat).2.1))),
  (((!bif decide ((v.2.1.2 (↑k : Int).toNat).1 < 0) then true else decide ((v.2.1.2 (↑k : Int).toNat).1 > (v.2.1.2 (↑k : Int).toNat).2.1)) = true) → ((0 : Nat) < 1)),
  (AG (!bif decide ((v.2.1.2 (↑k : Int).toNat).1 < 0) then true else decide ((v.2.1.2 (↑k : Int).toNat).1 > (v.2.1.2 (↑k : Int).toNat).2.1))),
  (((!bif decide ((v.2.1.2 (↑k : Int).toNat).1 < 0) then true else decide ((v.2.1.2 (↑k : Int).toNat).1 > (v.2.1.2 (↑k : Int).toNat).2.1)) = true) → ((0 : Nat) < 1)),
  (AG (!bif decide ((v.2.1.2 (↑k : Int).toNat).1 < 0) then true else decide ((v.2.1.2 (↑k : Int).toNat).1 > (v.2.1.2 (↑k : Int).toNat).2.1))),
  (AG (!bif decide ((v.2.1.2 (↑k : Int).toNat).1 < 0) then true else decide ((v.2.1.2 (↑k : Int).toNat).1 > (v.2.1.2 (↑k : Int).toNat).2.1))),
  (((bif decide ((v.2.1.2 (↑k : Int).toNat).1 < 0) then true else decide ((v.2.1.2 (↑k : Int).toNat).1 > (v.2.1.2 (↑k : Int).toNat).2.1)) = false) → ((!bif decide ((v.2.1.2 (↑k : Int).toNat).1 < 0) then true else decide ((v.2.1.2 (↑k : Int).toNat).1 > (v.2.1.2 (↑k : Int).toNat).2.1)) = true)),
  (AG (!bif bif decide ((v.2.1.2 (↑k : Int).toNat).1 < 0) then true else decide ((v.2.1.2 (↑k : Int).toNat).1 > (v.2.1.2 (↑k : Int).toNat).2.1) then true else decide ((v.2.1.2 (↑k : Int).toNat).2.1 ≥ v.1))),
  (((!bif bif decide ((v.2.1.2 (↑k : Int).toNat).1 < 0) then true else decide ((v.2.1.2 (↑k : Int).toNat).1 > (v.2.1.2 (↑k : Int).toNat).2.1) then true else decide ((v.2.1.2 (↑k : Int).toNat).2.1 ≥ v.1)) = true) → ((0 : Nat) < 1)),
  (AG (!bif bif decide ((v.2.1.2 (↑k : Int).toNat).1 < 0) then true else decide ((v.2.1.2 (↑k : Int).toNat).1 > (v.2.1.2 (↑k : Int).toNat).2.1) then true else decide ((v.2.1.2 (↑k : Int).toNat).2.1 ≥ v.1))),
  (((!bif bif decide ((v.2.1.2 (↑k : Int).toNat).1 < 0) then true else decide ((v.2.1.2 (↑k : Int).toNat).1 > (v.2.1.2 (↑k : Int).toNat).2.1) then true else decide ((v.2.1.2 (↑k : Int).toNat).2.1 ≥ v.1)) = true) → Con Try.prog 37 0 [] [.p (.int .i64 ((v.2.1.2 k).2.2.1)), .p (.int .i64 (-9)), .p (.int .i64 9)] [] (.p (.bool (inB (v.2.1.2 k).2.2.1 (-9) 9)))),
  (AG (!bif bif decide ((v.2.1.2 (↑k : Int).toNat).1 < 0) then true else decide ((v.2.1.2 (↑k : Int).toNat).1 > (v.2.1.2 (↑k : Int).toNat).2.1) then true else decide ((v.2.1.2 (↑k : Int).toNat).2.1 ≥ v.1))),
  (((bif bif decide ((v.2.1.2 (↑k : Int).toNat).1 < 0) then true else decide ((v.2.1.2 (↑k : Int).toNat).1 > (v.2.1.2 (↑k : Int).toNat).2.1) then true else decide ((v.2.1.2 (↑k : Int).toNat).2.1 ≥ v.1)) = false) → ((!bif bif decide ((v.2.1.2 (↑k : Int).toNat).1 < 0) then true else decide ((v.2.1.2 (↑k : Int).toNat).1 > (v.2.1.2 (↑k : Int).toNat).2.1) then true else decide ((v.2.1.2 (↑k : Int).toNat).2.1 ≥ v.1)) = true)),
  (AG (!bif bif bif decide ((v.2.1.2 (↑k : Int).toNat).1 < 0) then true else decide ((v.2.1.2 (↑k : Int).toNat).1 > (v.2.1.2 (↑k : Int).toNat).2.1) then true else decide ((v.2.1.2 (↑k : Int).toNat).2.1 ≥ v.1) then true else !inB (v.2.1.2 k).2.2.1 (-9) 9)),
  (((!bif bif bif decide ((v.2.1.2 (↑k : Int).toNat).1 < 0) then true else decide ((v.2.1.2 (↑k : Int).toNat).1 > (v.2.1.2 (↑k : Int).toNat).2.1) then true else decide ((v.2.1.2 (↑k : Int).toNat).2.1 ≥ v.1) then true else !inB (v.2.1.2 k).2.2.1 (-9) 9) = true) → ((0 : Nat) < 1)),
  (AG (!bif bif bif decide ((v.2.1.2 (↑k : Int).toNat).1 < 0) then true else decide ((v.2.1.2 (↑k : Int).toNat).1 > (v.2.1.2 (↑k : Int).toNat).2.1) then true else decide ((v.2.1.2 (↑k : Int).toNat).2.1 ≥ v.1) then true else !inB (v.2.1.2 k).2.2.1 (-9) 9)),
  (((!bif bif bif decide ((v.2.1.2 (↑k : Int).toNat).1 < 0) then true else decide ((v.2.1.2 (↑k : Int).toNat).1 > (v.2.1.2 (↑k : Int).toNat).2.1) then true else decide ((v.2.1.2 (↑k : Int).toNat).2.1 ≥ v.1) then true else !inB (v.2.1.2 k).2.2.1 (-9) 9) = true) → Con Try.prog 37 0 [] [.p (.int .i64 ((v.2.1.2 k).2.2.2.1)), .p (.int .i64 (-9)), .p (.int .i64 9)] [] (.p (.bool (inB (v.2.1.2 k).2.2.2.1 (-9) 9)))),
  (AG (!bif bif bif decide ((v.2.1.2 (↑k : Int).toNat).1 < 0) then true else decide ((v.2.1.2 (↑k : Int).toNat).1 > (v.2.1.2 (↑k : Int).toNat).2.1) then true else decide ((v.2.1.2 (↑k : Int).toNat).2.1 ≥ v.1) then true else !inB (v.2.1.2 k).2.2.1 (-9) 9)),
  (((bif bif bif decide ((v.2.1.2 (↑k : Int).toNat).1 < 0) then true else decide ((v.2.1.2 (↑k : Int).toNat).1 > (v.2.1.2 (↑k : Int).toNat).2.1) then true else decide ((v.2.1.2 (↑k : Int).toNat).2.1 ≥ v.1) then true else !inB (v.2.1.2 k).2.2.1 (-9) 9) = false) → ((!bif bif bif decide ((v.2.1.2 (↑k : Int).toNat).1 < 0) then true else decide ((v.2.1.2 (↑k : Int).toNat).1 > (v.2.1.2 (↑k : Int).toNat).2.1) then true else decide ((v.2.1.2 (↑k : Int).toNat).2.1 ≥ v.1) then true else !inB (v.2.1.2 k).2.2.1 (-9) 9) = true)),
  (AG (!bif bif bif bif decide ((v.2.1.2 (↑k : Int).toNat).1 < 0) then true else decide ((v.2.1.2 (↑k : Int).toNat).1 > (v.2.1.2 (↑k : Int).toNat).2.1) then true else decide ((v.2.1.2 (↑k : Int).toNat).2.1 ≥ v.1) then true else !inB (v.2.1.2 k).2.2.1 (-9) 9 then true else !inB (v.2.1.2 k).2.2.2.1 (-9) 9)),
  (((!bif bif bif bif decide ((v.2.1.2 (↑k : Int).toNat).1 < 0) then true else decide ((v.2.1.2 (↑k : Int).toNat).1 > (v.2.1.2 (↑k : Int).toNat).2.1) then true else decide ((v.2.1.2 (↑k : Int).toNat).2.1 ≥ v.1) then true else !inB (v.2.1.2 k).2.2.1 (-9) 9 then true else !inB (v.2.1.2 k).2.2.2.1 (-9) 9) = true) → ((0 : Nat) < 1)),
  (AG (!bif bif bif bif decide ((v.2.1.2 (↑k : Int).toNat).1 < 0) then true else decide ((v.2.1.2 (↑k : Int).toNat).1 > (v.2.1.2 (↑k : Int).toNat).2.1) then true else decide ((v.2.1.2 (↑k : Int).toNat).2.1 ≥ v.1) then true else !inB (v.2.1.2 k).2.2.1 (-9) 9 then true else !inB (v.2.1.2 k).2.2.2.1 (-9) 9)),
  (((!bif bif bif bif decide ((v.2.1.2 (↑k : Int).toNat).1 < 0) then true else decide ((v.2.1.2 (↑k : Int).toNat).1 > (v.2.1.2 (↑k : Int).toNat).2.1) then true else decide ((v.2.1.2 (↑k : Int).toNat).2.1 ≥ v.1) then true else !inB (v.2.1.2 k).2.2.1 (-9) 9 then true else !inB (v.2.1.2 k).2.2.2.1 (-9) 9) = true) → ((0 : Nat) < 1)),
  (AG (!bif bif bif bif decide ((v.2.1.2 (↑k : Int).toNat).1 < 0) then true else decide ((v.2.1.2 (↑k : Int).toNat).1 > (v.2.1.2 (↑k : Int).toNat).2.1) then true else decide ((v.2.1.2 (↑k : Int).toNat).2.1 ≥ v.1) then true else !inB (v.2.1.2 k).2.2.1 (-9) 9 then true else !inB (v.2.1.2 k).2.2.2.1 (-9) 9)),
  (AG (!bif bif bif bif decide ((v.2.1.2 (↑k : Int).toNat).1 < 0) then true else decide ((v.2.1.2 (↑k : Int).toNat).1 > (v.2.1.2 (↑k : Int).toNat).2.1) then true else decide ((v.2.1.2 (↑k : Int).toNat).2.1 ≥ v.1) then true else !inB (v.2.1.2 k).2.2.1 (-9) 9 then true else !inB (v.2.1.2 k).2.2.2.1 (-9) 9)),
  (AG (!bif bif bif bif decide ((v.2.1.2 (↑k : Int).toNat).1 < 0) then true else decide ((v.2.1.2 (↑k : Int).toNat).1 > (v.2.1.2 (↑k : Int).toNat).2.1) then true else decide ((v.2.1.2 (↑k : Int).toNat).2.1 ≥ v.1) then true else !inB (v.2.1.2 k).2.2.1 (-9) 9 then true else !inB (v.2.1.2 k).2.2.2.1 (-9) 9)),
  (AG ((!bif bif bif bif decide ((v.2.1.2 (↑k : Int).toNat).1 < 0) then true else decide ((v.2.1.2 (↑k : Int).toNat).1 > (v.2.1.2 (↑k : Int).toNat).2.1) then true else decide ((v.2.1.2 (↑k : Int).toNat).2.1 ≥ v.1) then true else !inB (v.2.1.2 k).2.2.1 (-9) 9 then true else !inB (v.2.1.2 k).2.2.2.1 (-9) 9) && (v.2.1.2 k).1 == (v.2.1.2 k).2.1)),
  ((((!bif bif bif bif decide ((v.2.1.2 (↑k : Int).toNat).1 < 0) then true else decide ((v.2.1.2 (↑k : Int).toNat).1 > (v.2.1.2 (↑k : Int).toNat).2.1) then true else decide ((v.2.1.2 (↑k : Int).toNat).2.1 ≥ v.1) then true else !inB (v.2.1.2 k).2.2.1 (-9) 9 then true else !inB (v.2.1.2 k).2.2.2.1 (-9) 9) && (v.2.1.2 k).1 == (v.2.1.2 k).2.1) = true) → ((0 : Nat) < 1)),
  (AG ((!bif bif bif bif decide ((v.2.1.2 (↑k : Int).toNat).1 < 0) then true else decide ((v.2.1.2 (↑k : Int).toNat).1 > (v.2.1.2 (↑k : Int).toNat).2.1) then true else decide ((v.2.1.2 (↑k : Int).toNat).2.1 ≥ v.1) then true else !inB (v.2.1.2 k).2.2.1 (-9) 9 then true else !inB (v.2.1.2 k).2.2.2.1 (-9) 9) && (v.2.1.2 k).1 == (v.2.1.2 k).2.1)),
  (AG (!bif bif bif bif decide ((v.2.1.2 (↑k : Int).toNat).1 < 0) then true else decide ((v.2.1.2 (↑k : Int).toNat).1 > (v.2.1.2 (↑k : Int).toNat).2.1) then true else decide ((v.2.1.2 (↑k : Int).toNat).2.1 ≥ v.1) then true else !inB (v.2.1.2 k).2.2.1 (-9) 9 then true else !inB (v.2.1.2 k).2.2.2.1 (-9) 9)),
  (((!bif bif bif bif decide ((v.2.1.2 (↑k : Int).toNat).1 < 0) then true else decide ((v.2.1.2 (↑k : Int).toNat).1 > (v.2.1.2 (↑k : Int).toNat).2.1) then true else decide ((v.2.1.2 (↑k : Int).toNat).2.1 ≥ v.1) then true else !inB (v.2.1.2 k).2.2.1 (-9) 9 then true else !inB (v.2.1.2 k).2.2.2.1 (-9) 9) = true) → ((((v.2.1.2 k).1 == (v.2.1.2 k).2.1) = true) → (((!bif bif bif bif decide ((v.2.1.2 (↑k : Int).toNat).1 < 0) then true else decide ((v.2.1.2 (↑k : Int).toNat).1 > (v.2.1.2 (↑k : Int).toNat).2.1) then true else decide ((v.2.1.2 (↑k : Int).toNat).2.1 ≥ v.1) then true else !inB (v.2.1.2 k).2.2.1 (-9) 9 then true else !inB (v.2.1.2 k).2.2.2.1 (-9) 9) && (v.2.1.2 k).1 == (v.2.1.2 k).2.1) = true))),
  (AG (!bif bif bif bif decide ((v.2.1.2 (↑k : Int).toNat).1 < 0) then true else decide ((v.2.1.2 (↑k : Int).toNat).1 > (v.2.1.2 (↑k : Int).toNat).2.1) then true else decide ((v.2.1.2 (↑k : Int).toNat).2.1 ≥ v.1) then true else !inB (v.2.1.2 k).2.2.1 (-9) 9 then true else !inB (v.2.1.2 k).2.2.2.1 (-9) 9)),
  (AG ((!bif bif bif bif decide ((v.2.1.2 (↑k : Int).toNat).1 < 0) then true else decide ((v.2.1.2 (↑k : Int).toNat).1 > (v.2.1.2 (↑k : Int).toNat).2.1) then true else decide ((v.2.1.2 (↑k : Int).toNat).2.1 ≥ v.1) then true else !inB (v.2.1.2 k).2.2.1 (-9) 9 then true else !inB (v.2.1.2 k).2.2.2.1 (-9) 9) && bif (v.2.1.2 k).1 == (v.2.1.2 k).2.1 then (v.2.1.2 k).2.2.1 == 0 else false)),
  ((((!bif bif bif bif decide ((v.2.1.2 (↑k : Int).toNat).1 < 0) then true else decide ((v.2.1.2 (↑k : Int).toNat).1 > (v.2.1.2 (↑k : Int).toNat).2.1) then true else decide ((v.2.1.2 (↑k : Int).toNat).2.1 ≥ v.1) then true else !inB (v.2.1.2 k).2.2.1 (-9) 9 then true else !inB (v.2.1.2 k).2.2.2.1 (-9) 9) && bif (v.2.1.2 k).1 == (v.2.1.2 k).2.1 then (v.2.1.2 k).2.2.1 == 0 else false) = true) → ((0 : Nat) < 1)),
  (AG ((!bif bif bif bif decide ((v.2.1.2 (↑k : Int).toNat).1 < 0) then true else decide ((v.2.1.2 (↑k : Int).toNat).1 > (v.2.1.2 (↑k : Int).toNat).2.1) then true else decide ((v.2.1.2 (↑k : Int).toNat).2.1 ≥ v.1) then true else !inB (v.2.1.2 k).2.2.1 (-9) 9 then true else !inB (v.2.1.2 k).2.2.2.1 (-9) 9) && bif (v.2.1.2 k).1 == (v.2.1.2 k).2.1 then (v.2.1.2 k).2.2.1 == 0 else false)),
  (AG (!bif bif bif bif decide ((v.2.1.2 (↑k : Int).toNat).1 < 0) then true else decide ((v.2.1.2 (↑k : Int).toNat).1 > (v.2.1.2 (↑k : Int).toNat).2.1) then true else decide ((v.2.1.2 (↑k : Int).toNat).2.1 ≥ v.1) then true else !inB (v.2.1.2 k).2.2.1 (-9) 9 then true else !inB (v.2.1.2 k).2.2.2.1 (-9) 9)),
  (((!bif bif bif bif decide ((v.2.1.2 (↑k : Int).toNat).1 < 0) then true else decide ((v.2.1.2 (↑k : Int).toNat).1 > (v.2.1.2 (↑k : Int).toNat).2.1) then true else decide ((v.2.1.2 (↑k : Int).toNat).2.1 ≥ v.1) then true else !inB (v.2.1.2 k).2.2.1 (-9) 9 then true else !inB (v.2.1.2 k).2.2.2.1 (-9) 9) = true) → (((bif (v.2.1.2 k).1 == (v.2.1.2 k).2.1 then (v.2.1.2 k).2.2.1 == 0 else false) = true) → (((!bif bif bif bif decide ((v.2.1.2 (↑k : Int).toNat).1 < 0) then true else decide ((v.2.1.2 (↑k : Int).toNat).1 > (v.2.1.2 (↑k : Int).toNat).2.1) then true else decide ((v.2.1.2 (↑k : Int).toNat).2.1 ≥ v.1) then true else !inB (v.2.1.2 k).2.2.1 (-9) 9 then true else !inB (v.2.1.2 k).2.2.2.1 (-9) 9) && bif (v.2.1.2 k).1 == (v.2.1.2 k).2.1 then (v.2.1.2 k).2.2.1 == 0 else false) = true))),
  (((bif bif bif bif decide ((v.2.1.2 (↑k : Int).toNat).1 < 0) then true else decide ((v.2.1.2 (↑k : Int).toNat).1 > (v.2.1.2 (↑k : Int).toNat).2.1) then true else decide ((v.2.1.2 (↑k : Int).toNat).2.1 ≥ v.1) then true else !inB (v.2.1.2 k).2.2.1 (-9) 9 then true else !inB (v.2.1.2 k).2.2.2.1 (-9) 9) = false) → ((!bif bif bif bif decide ((v.2.1.2 (↑k : Int).toNat).1 < 0) then true else decide ((v.2.1.2 (↑k : Int).toNat).1 > (v.2.1.2 (↑k : Int).toNat).2.1) then true else decide ((v.2.1.2 (↑k : Int).toNat).2.1 ≥ v.1) then true else !inB (v.2.1.2 k).2.2.1 (-9) 9 then true else !inB (v.2.1.2 k).2.2.2.1 (-9) 9) = true)),
  ((bif bif bif bif bif decide ((v.2.1.2 (↑k : Int).toNat).1 < 0) then true else decide ((v.2.1.2 (↑k : Int).toNat).1 > (v.2.1.2 (↑k : Int).toNat).2.1) then true else decide ((v.2.1.2 (↑k : Int).toNat).2.1 ≥ v.1) then true else !inB (v.2.1.2 k).2.2.1 (-9) 9 then true else !inB (v.2.1.2 k).2.2.2.1 (-9) 9 then true else bif bif (v.2.1.2 k).1 == (v.2.1.2 k).2.1 then (v.2.1.2 k).2.2.1 == 0 else false then (v.2.1.2 k).2.2.2.1 == 0 else false) = true),
  (false = false)] := by kernel_rfl
theorem p17d (v : T_GainGraph) (k : Nat) :
    pathOb Try.prog Try.f75 0 [.reg [oT, oT, oT, oT, oT], .dec false, .reg [oT, oT, ⟨true, (some ⟨[], [], [], 1, [], .p (.bool (inB v.1 1 4))⟩), none⟩, oT, oT, oT, oT, oT, oT, oT]] [.code (cAt (bodyOf Try.f75) [1, 0, 1, 0, 0]), .inLoop (cAt (bodyOf Try.f75) [1, 0, 1, 0, 0]), .inBlock 0, .code (cAt (bodyOf Try.f75) [1, 1])] (S17 v k) [] 1 [] (.p (.bool (inB v.1 1 4 && decide (v.2.1.1 ≤ 8)))) =
    some [((0 : Nat) < 1),
  ((decide ((↑k : Int) < (↑v.2.1.1 : Int))) = false),
  ((0 : Nat) < 1),
  Con Try.prog 37 0 [] [.p (.int .i64 v.1), .p (.int .i64 1), .p (.int .i64 4)] [] (.p (.bool (inB v.1 1 4))),
  (AG (inB v.1 1 4)),
  (((inB v.1 1 4) = true) → ((0 : Nat) < 1)),
  (AG (inB v.1 1 4)),
  (AG (inB v.1 1 4)),
  (AG (inB v.1 1 4)),
  ((bif inB v.1 1 4 then decide ((↑v.2.1.1 : Int) ≤ 8) else false) = (inB v.1 1 4 && decide (v.2.1.1 ≤ 8)))] := by kernel_rfl
theorem p19z (v : T_GainGraph) :
    pathOb Try.prog Try.f80 0 [.reg [oT, oT], .reg [oT, oT, ⟨true, (some ⟨[], [], [], 1, [], .p (.bool (inB v.1 1 4))⟩), none⟩, oT, oT, oT, oT, oT, oT, oT], .dec true, .reg [oT]] [.code (bodyOf Try.f80)] (start Try.f80 [] 0 [gainA v]) [] 1 [] (.p (.bool false)) =
    some [((0 : Nat) < 1),
  Con Try.prog 40 0 [] [.p (.int .i64 v.1), .p (.int .i64 1), .p (.int .i64 4)] [] (.p (.bool (inB v.1 1 4))),
  (AG (!!inB v.1 1 4)),
  (((!!inB v.1 1 4) = true) → ((0 : Nat) < 1)),
  (AG (!!inB v.1 1 4)),
  (AG (!!inB v.1 1 4)),
  (((!inB v.1 1 4) = false) → ((!!inB v.1 1 4) = true)),
  ((bif !inB v.1 1 4 then true else decide ((↑v.2.1.1 : Int) > 8)) = true),
  (false = false)] := by kernel_rfl
theorem p19a (v : T_GainGraph) :
    pieceOb Try.prog 0 [.reg [oT, oT], .reg [oT, oT, ⟨true, (some ⟨[], [], [], 1, [], .p (.bool (inB v.1 1 4))⟩), none⟩, oT, oT, oT, oT, oT, oT, oT], .dec false, .reg [oT, oT, oT, oT], .head] [.code (bodyOf Try.f80)] (start Try.f80 [] 0 [gainA v]) [0] 1 (S19 v 0) =
    some ([.code (cAt (bodyOf Try.f80) [1, 1, 0, 1, 0, 0]), .inLoop (cAt (bodyOf Try.f80) [1, 1, 0, 1, 0, 0]), .inBlock 0, .code (cAt (bodyOf Try.f80) [1, 1, 1])], [((0 : Nat) < 1),
  Con Try.prog 40 0 [] [.p (.int .i64 v.1), .p (.int .i64 1), .p (.int .i64 4)] [] (.p (.bool (inB v.1 1 4))),
  (AG (!!inB v.1 1 4)),
  (((!!inB v.1 1 4) = true) → ((0 : Nat) < 1)),
  (AG (!!inB v.1 1 4)),
  (AG (!!inB v.1 1 4)),
  (((!inB v.1 1 4) = false) → ((!!inB v.1 1 4) = true)),
  ((bif !inB v.1 1 4 then true else decide ((↑v.2.1.1 : Int) > 8)) = false),
  ((0 : Nat) < 1),
  (AI v.1),
  (AN v.2.1.1),
  (AP v.2.1.1 (fun i => [.int .i64 ((v.2.1.2 i).1), .int .i64 ((v.2.1.2 i).2.1), .int .i64 ((v.2.1.2 i).2.2.1), .int .i64 ((v.2.1.2 i).2.2.2.1)])),
  (AN 0),
  (AN v.2.1.1),
  (AP v.2.1.1 (fun i => [.int .i64 ((v.2.1.2 i).1), .int .i64 ((v.2.1.2 i).2.1), .int .i64 ((v.2.1.2 i).2.2.1), .int .i64 ((v.2.1.2 i).2.2.2.1)])),
  (AI ((↑v.2.1.1 : Int))),
  ((0 : Int) = (↑0 : Int)),
  ((([AV.p (PV.int IntKind.i64 v.1), AV.p (PV.seq true 4 v.2.1.1 fun i => [PV.int IntKind.i64 (v.2.1.2 i).1, PV.int IntKind.i64 (v.2.1.2 i).2.1, PV.int IntKind.i64 (v.2.1.2 i).2.2.1, PV.int IntKind.i64 (v.2.1.2 i).2.2.2.1])].length) : Nat) = 2),
  ((1 : Nat) ≤ 1),
  ((1 : Nat) ≤ 1),
  (AI v.1),
  (AN v.2.1.1),
  (AP v.2.1.1 (fun i => [.int .i64 ((v.2.1.2 i).1), .int .i64 ((v.2.1.2 i).2.1), .int .i64 ((v.2.1.2 i).2.2.1), .int .i64 ((v.2.1.2 i).2.2.2.1)]))]) := by kernel_rfl
theorem p19b (v : T_GainGraph) (k : Nat) :
    pieceOb Try.prog 0 [.reg [oT], .dec true, .reg [oT, oT, oT, oT], .reg [oT, oT, oT, oT, oT, oT, oT, oT, oT, oT, oT, oT, oT, oT, oT, oT, oT, oT, oT, oT, ⟨true, (some ⟨[], [], [], 1, [], .p (.bool (inB (v.2.1.2 k).2.2.1 (-9) 9))⟩), none⟩, oT, oT, oT, oT, oT, ⟨true, (some ⟨[], [], [], 1, [], .p (.bool (inB (v.2.1.2 k).2.2.2.1 (-9) 9))⟩), none⟩, oT, oT, oT, oT, oT, oT, oT, oT, oT, oT, oT, oT, oT, oT, oT, oT, oT, oT, oT], .dec false, .reg [oT, oT], .head] [.code (cAt (bodyOf Try.f80) [1, 1, 0, 1, 0, 0]), .inLoop (cAt (bodyOf Try.f80) [1, 1, 0, 1, 0, 0]), .inBlock 0, .code (cAt (bodyOf Try.f80) [1, 1, 1])] (S19 v k) [0] 1 (S19 v (k + 1)) =
    some ([.code (cAt (bodyOf Try.f80) [1, 1, 0, 1, 0, 0]), .inLoop (cAt (bodyOf Try.f80) [1, 1, 0, 1, 0, 0]), .inBlock 0, .code (cAt (bodyOf Try.f80) [1, 1, 1])], [((decide ((↑k : Int) < (↑v.2.1.1 : Int))) = true),
  ((0 : Int) ≤ (↑k : Int)),
  (((↑k : Int) : Int) < (↑v.2.1.1 : Int)),
  ((0 : Nat) < 1),
  ((true = true) → (AN 1)),
  ((0 : Nat) < 1),
  (AG (!decide ((v.2.1.2 (↑k : Int).toNat).1 < 0))),
  (((!decide ((v.2.1.2 (↑k : Int).toNat).1 < 0)) = true) → ((0 : Nat) < 1)),
  (AG (!decide ((v.2.1.2 (↑k : Int).toNat).1 < 0))),
  (((!decide ((v.2.1.2 (↑k : Int).toNat).1 < 0)) = true) → ((0 : Nat) < 1)),
  (AG (!decide ((v.2.1.2 (↑k : Int).toNat).1 < 0))),
  (AG (!decide ((v.2.1.2 (↑k : Int).toNat).1 < 0))),
  (((decide ((v.2.1.2 (↑k : Int).toNat).1 < 0)) = false) → ((!decide ((v.2.1.2 (↑k : Int).toNat).1 < 0)) = true)),
  (AG (!bif decide ((v.2.1.2 (↑k : Int).toNat).1 < 0) then true else decide ((v.2.1.2 (↑k : Int).toNat).1 > (v.2.1.2 (↑k : Int).toNat).2.1))),
  (((!bif decide ((v.2.1.2 (↑k : Int).toNat).1 < 0) then true else decide ((v.2.1.2 (↑k : Int).toNat).1 > (v.2.1.2 (↑k : Int).toNat).2.1)) = true) → ((0 : Nat) < 1)),
  (AG (!bif decide ((v.2.1.2 (↑k : Int).toNat).1 < 0) then true else decide ((v.2.1.2 (↑k : Int).toNat).1 > (v.2.1.2 (↑k : Int).toNat).2.1))),
  (((!bif decide ((v.2.1.2 (↑k : Int).toNat).1 < 0) then true else decide ((v.2.1.2 (↑k : Int).toNat).1 > (v.2.1.2 (↑k : Int).toNat).2.1)) = true) → ((0 : Nat) < 1)),
  (AG (!bif decide ((v.2.1.2 (↑k : Int).toNat).1 < 0) then true else decide ((v.2.1.2 (↑k : Int).toNat).1 > (v.2.1.2 (↑k : Int).toNat).2.1))),
  (AG (!bif decide ((v.2.1.2 (↑k : Int).toNat).1 < 0) then true else decide ((v.2.1.2 (↑k : Int).toNat).1 > (v.2.1.2 (↑k : Int).toNat).2.1))),
  (((bif decide ((v.2.1.2 (↑k : Int).toNat).1 < 0) then true else decide ((v.2.1.2 (↑k : Int).toNat).1 > (v.2.1.2 (↑k : Int).toNat).2.1)) = false) → ((!bif decide ((v.2.1.2 (↑k : Int).toNat).1 < 0) then true else decide ((v.2.1.2 (↑k : Int).toNat).1 > (v.2.1.2 (↑k : Int).toNat).2.1)) = true)),
  (AG (!bif bif decide ((v.2.1.2 (↑k : Int).toNat).1 < 0) then true else decide ((v.2.1.2 (↑k : Int).toNat).1 > (v.2.1.2 (↑k : Int).toNat).2.1) then true else decide ((v.2.1.2 (↑k : Int).toNat).2.1 ≥ v.1))),
  (((!bif bif decide ((v.2.1.2 (↑k : Int).toNat).1 < 0) then true else decide ((v.2.1.2 (↑k : Int).toNat).1 > (v.2.1.2 (↑k : Int).toNat).2.1) then true else decide ((v.2.1.2 (↑k : Int).toNat).2.1 ≥ v.1)) = true) → ((0 : Nat) < 1)),
  (AG (!bif bif decide ((v.2.1.2 (↑k : Int).toNat).1 < 0) then true else decide ((v.2.1.2 (↑k : Int).toNat).1 > (v.2.1.2 (↑k : Int).toNat).2.1) then true else decide ((v.2.1.2 (↑k : Int).toNat).2.1 ≥ v.1))),
  (((!bif bif decide ((v.2.1.2 (↑k : Int).toNat).1 < 0) then true else decide ((v.2.1.2 (↑k : Int).toNat).1 > (v.2.1.2 (↑k : Int).toNat).2.1) then true else decide ((v.2.1.2 (↑k : Int).toNat).2.1 ≥ v.1)) = true) → Con Try.prog 40 0 [] [.p (.int .i64 ((v.2.1.2 k).2.2.1)), .p (.int .i64 (-9)), .p (.int .i64 9)] [] (.p (.bool (inB (v.2.1.2 k).2.2.1 (-9) 9)))),
  (AG (!bif bif decide ((v.2.1.2 (↑k : Int).toNat).1 < 0) then true else decide ((v.2.1.2 (↑k : Int).toNat).1 > (v.2.1.2 (↑k : Int).toNat).2.1) then true else decide ((v.2.1.2 (↑k : Int).toNat).2.1 ≥ v.1))),
  (((bif bif decide ((v.2.1.2 (↑k : Int).toNat).1 < 0) then true else decide ((v.2.1.2 (↑k : Int).toNat).1 > (v.2.1.2 (↑k : Int).toNat).2.1) then true else decide ((v.2.1.2 (↑k : Int).toNat).2.1 ≥ v.1)) = false) → ((!bif bif decide ((v.2.1.2 (↑k : Int).toNat).1 < 0) then true else decide ((v.2.1.2 (↑k : Int).toNat).1 > (v.2.1.2 (↑k : Int).toNat).2.1) then true else decide ((v.2.1.2 (↑k : Int).toNat).2.1 ≥ v.1)) = true)),
  (AG (!bif bif bif decide ((v.2.1.2 (↑k : Int).toNat).1 < 0) then true else decide ((v.2.1.2 (↑k : Int).toNat).1 > (v.2.1.2 (↑k : Int).toNat).2.1) then true else decide ((v.2.1.2 (↑k : Int).toNat).2.1 ≥ v.1) then true else !inB (v.2.1.2 k).2.2.1 (-9) 9)),
  (((!bif bif bif decide ((v.2.1.2 (↑k : Int).toNat).1 < 0) then true else decide ((v.2.1.2 (↑k : Int).toNat).1 > (v.2.1.2 (↑k : Int).toNat).2.1) then true else decide ((v.2.1.2 (↑k : Int).toNat).2.1 ≥ v.1) then true else !inB (v.2.1.2 k).2.2.1 (-9) 9) = true) → ((0 : Nat) < 1)),
  (AG (!bif bif bif decide ((v.2.1.2 (↑k : Int).toNat).1 < 0) then true else decide ((v.2.1.2 (↑k : Int).toNat).1 > (v.2.1.2 (↑k : Int).toNat).2.1) then true else decide ((v.2.1.2 (↑k : Int).toNat).2.1 ≥ v.1) then true else !inB (v.2.1.2 k).2.2.1 (-9) 9)),
  (((!bif bif bif decide ((v.2.1.2 (↑k : Int).toNat).1 < 0) then true else decide ((v.2.1.2 (↑k : Int).toNat).1 > (v.2.1.2 (↑k : Int).toNat).2.1) then true else decide ((v.2.1.2 (↑k : Int).toNat).2.1 ≥ v.1) then true else !inB (v.2.1.2 k).2.2.1 (-9) 9) = true) → Con Try.prog 40 0 [] [.p (.int .i64 ((v.2.1.2 k).2.2.2.1)), .p (.int .i64 (-9)), .p (.int .i64 9)] [] (.p (.bool (inB (v.2.1.2 k).2.2.2.1 (-9) 9)))),
  (AG (!bif bif bif decide ((v.2.1.2 (↑k : Int).toNat).1 < 0) then true else decide ((v.2.1.2 (↑k : Int).toNat).1 > (v.2.1.2 (↑k : Int).toNat).2.1) then true else decide ((v.2.1.2 (↑k : Int).toNat).2.1 ≥ v.1) then true else !inB (v.2.1.2 k).2.2.1 (-9) 9)),
  (((bif bif bif decide ((v.2.1.2 (↑k : Int).toNat).1 < 0) then true else decide ((v.2.1.2 (↑k : Int).toNat).1 > (v.2.1.2 (↑k : Int).toNat).2.1) then true else decide ((v.2.1.2 (↑k : Int).toNat).2.1 ≥ v.1) then true else !inB (v.2.1.2 k).2.2.1 (-9) 9) = false) → ((!bif bif bif decide ((v.2.1.2 (↑k : Int).toNat).1 < 0) then true else decide ((v.2.1.2 (↑k : Int).toNat).1 > (v.2.1.2 (↑k : Int).toNat).2.1) then true else decide ((v.2.1.2 (↑k : Int).toNat).2.1 ≥ v.1) then true else !inB (v.2.1.2 k).2.2.1 (-9) 9) = true)),
  (AG (!bif bif bif bif decide ((v.2.1.2 (↑k : Int).toNat).1 < 0) then true else decide ((v.2.1.2 (↑k : Int).toNat).1 > (v.2.1.2 (↑k : Int).toNat).2.1) then true else decide ((v.2.1.2 (↑k : Int).toNat).2.1 ≥ v.1) then true else !inB (v.2.1.2 k).2.2.1 (-9) 9 then true else !inB (v.2.1.2 k).2.2.2.1 (-9) 9)),
  (((!bif bif bif bif decide ((v.2.1.2 (↑k : Int).toNat).1 < 0) then true else decide ((v.2.1.2 (↑k : Int).toNat).1 > (v.2.1.2 (↑k : Int).toNat).2.1) then true else decide ((v.2.1.2 (↑k : Int).toNat).2.1 ≥ v.1) then true else !inB (v.2.1.2 k).2.2.1 (-9) 9 then true else !inB (v.2.1.2 k).2.2.2.1 (-9) 9) = true) → ((0 : Nat) < 1)),
  (AG (!bif bif bif bif decide ((v.2.1.2 (↑k : Int).toNat).1 < 0) then true else decide ((v.2.1.2 (↑k : Int).toNat).1 > (v.2.1.2 (↑k : Int).toNat).2.1) then true else decide ((v.2.1.2 (↑k : Int).toNat).2.1 ≥ v.1) then true else !inB (v.2.1.2 k).2.2.1 (-9) 9 then true else !inB (v.2.1.2 k).2.2.2.1 (-9) 9)),
  (((!bif bif bif bif decide ((v.2.1.2 (↑k : Int).toNat).1 < 0) then true else decide ((v.2.1.2 (↑k : Int).toNat).1 > (v.2.1.2 (↑k : Int).toNat).2.1) then true else decide ((v.2.1.2 (↑k : Int).toNat).2.1 ≥ v.1) then true else !inB (v.2.1.2 k).2.2.1 (-9) 9 then true else !inB (v.2.1.2 k).2.2.2.1 (-9) 9) = true) → ((0 : Nat) < 1)),
  (AG (!bif bif bif bif decide ((v.2.1.2 (↑k : Int).toNat).1 < 0) then true else decide ((v.2.1.2 (↑k : Int).toNat).1 > (v.2.1.2 (↑k : Int).toNat).2.1) then true else decide ((v.2.1.2 (↑k : Int).toNat).2.1 ≥ v.1) then true else !inB (v.2.1.2 k).2.2.1 (-9) 9 then true else !inB (v.2.1.2 k).2.2.2.1 (-9) 9)),
  (AG (!bif bif bif bif decide ((v.2.1.2 (↑k : Int).toNat).1 < 0) then true else decide ((v.2.1.2 (↑k : Int).toNat).1 > (v.2.1.2 (↑k : Int).toNat).2.1) then true else decide ((v.2.1.2 (↑k : Int).toNat).2.1 ≥ v.1) then true else !inB (v.2.1.2 k).2.2.1 (-9) 9 then true else !inB (v.2.1.2 k).2.2.2.1 (-9) 9)),
  (AG (!bif bif bif bif decide ((v.2.1.2 (↑k : Int).toNat).1 < 0) then true else decide ((v.2.1.2 (↑k : Int).toNat).1 > (v.2.1.2 (↑k : Int).toNat).2.1) then true else decide ((v.2.1.2 (↑k : Int).toNat).2.1 ≥ v.1) then true else !inB (v.2.1.2 k).2.2.1 (-9) 9 then true else !inB (v.2.1.2 k).2.2.2.1 (-9) 9)),
  (AG ((!bif bif bif bif decide ((v.2.1.2 (↑k : Int).toNat).1 < 0) then true else decide ((v.2.1.2 (↑k : Int).toNat).1 > (v.2.1.2 (↑k : Int).toNat).2.1) then true else decide ((v.2.1.2 (↑k : Int).toNat).2.1 ≥ v.1) then true else !inB (v.2.1.2 k).2.2.1 (-9) 9 then true else !inB (v.2.1.2 k).2.2.2.1 (-9) 9) && (v.2.1.2 k).1 == (v.2.1.2 k).2.1)),
  ((((!bif bif bif bif decide ((v.2.1.2 (↑k : Int).toNat).1 < 0) then true else decide ((v.2.1.2 (↑k : Int).toNat).1 > (v.2.1.2 (↑k : Int).toNat).2.1) then true else decide ((v.2.1.2 (↑k : Int).toNat).2.1 ≥ v.1) then true else !inB (v.2.1.2 k).2.2.1 (-9) 9 then true else !inB (v.2.1.2 k).2.2.2.1 (-9) 9) && (v.2.1.2 k).1 == (v.2.1.2 k).2.1) = true) → ((0 : Nat) < 1)),
  (AG ((!bif bif bif bif decide ((v.2.1.2 (↑k : Int).toNat).1 < 0) then true else decide ((v.2.1.2 (↑k : Int).toNat).1 > (v.2.1.2 (↑k : Int).toNat).2.1) then true else decide ((v.2.1.2 (↑k : Int).toNat).2.1 ≥ v.1) then true else !inB (v.2.1.2 k).2.2.1 (-9) 9 then true else !inB (v.2.1.2 k).2.2.2.1 (-9) 9) && (v.2.1.2 k).1 == (v.2.1.2 k).2.1)),
  (AG (!bif bif bif bif decide ((v.2.1.2 (↑k : Int).toNat).1 < 0) then true else decide ((v.2.1.2 (↑k : Int).toNat).1 > (v.2.1.2 (↑k : Int).toNat).2.1) then true else decide ((v.2.1.2 (↑k : Int).toNat).2.1 ≥ v.1) then true else !inB (v.2.1.2 k).2.2.1 (-9) 9 then true else !inB (v.2.1.2 k).2.2.2.1 (-9) 9)),
  (((!bif bif bif bif decide ((v.2.1.2 (↑k : Int).toNat).1 < 0) then true else decide ((v.2.1.2 (↑k : Int).toNat).1 > (v.2.1.2 (↑k : Int).toNat).2.1) then true else decide ((v.2.1.2 (↑k : Int).toNat).2.1 ≥ v.1) then true else !inB (v.2.1.2 k).2.2.1 (-9) 9 then true else !inB (v.2.1.2 k).2.2.2.1 (-9) 9) = true) → ((((v.2.1.2 k).1 == (v.2.1.2 k).2.1) = true) → (((!bif bif bif bif decide ((v.2.1.2 (↑k : Int).toNat).1 < 0) then true else decide ((v.2.1.2 (↑k : Int).toNat).1 > (v.2.1.2 (↑k : Int).toNat).2.1) then true else decide ((v.2.1.2 (↑k : Int).toNat).2.1 ≥ v.1) then true else !inB (v.2.1.2 k).2.2.1 (-9) 9 then true else !inB (v.2.1.2 k).2.2.2.1 (-9) 9) && (v.2.1.2 k).1 == (v.2.1.2 k).2.1) = true))),
  (AG (!bif bif bif bif decide ((v.2.1.2 (↑k : Int).toNat).1 < 0) then true else decide ((v.2.1.2 (↑k : Int).toNat).1 > (v.2.1.2 (↑k : Int).toNat).2.1) then true else decide ((v.2.1.2 (↑k : Int).toNat).2.1 ≥ v.1) then true else !inB (v.2.1.2 k).2.2.1 (-9) 9 then true else !inB (v.2.1.2 k).2.2.2.1 (-9) 9)),
  (AG ((!bif bif bif bif decide ((v.2.1.2 (↑k : Int).toNat).1 < 0) then true else decide ((v.2.1.2 (↑k : Int).toNat).1 > (v.2.1.2 (↑k : Int).toNat).2.1) then true else decide ((v.2.1.2 (↑k : Int).toNat).2.1 ≥ v.1) then true else !inB (v.2.1.2 k).2.2.1 (-9) 9 then true else !inB (v.2.1.2 k).2.2.2.1 (-9) 9) && bif (v.2.1.2 k).1 == (v.2.1.2 k).2.1 then (v.2.1.2 k).2.2.1 == 0 else false)),
  ((((!bif bif bif bif decide ((v.2.1.2 (↑k : Int).toNat).1 < 0) then true else decide ((v.2.1.2 (↑k : Int).toNat).1 > (v.2.1.2 (↑k : Int).toNat).2.1) then true else decide ((v.2.1.2 (↑k : Int).toNat).2.1 ≥ v.1) then true else !inB (v.2.1.2 k).2.2.1 (-9) 9 then true else !inB (v.2.1.2 k).2.2.2.1 (-9) 9) && bif (v.2.1.2 k).1 == (v.2.1.2 k).2.1 then (v.2.1.2 k).2.2.1 == 0 else false) = true) → ((0 : Nat) < 1)),
  (AG ((!bif bif bif bif decide ((v.2.1.2 (↑k : Int).toNat).1 < 0) then true else decide ((v.2.1.2 (↑k : Int).toNat).1 > (v.2.1.2 (↑k : Int).toNat).2.1) then true else decide ((v.2.1.2 (↑k : Int).toNat).2.1 ≥ v.1) then true else !inB (v.2.1.2 k).2.2.1 (-9) 9 then true else !inB (v.2.1.2 k).2.2.2.1 (-9) 9) && bif (v.2.1.2 k).1 == (v.2.1.2 k).2.1 then (v.2.1.2 k).2.2.1 == 0 else false)),
  (AG (!bif bif bif bif decide ((v.2.1.2 (↑k : Int).toNat).1 < 0) then true else decide ((v.2.1.2 (↑k : Int).toNat).1 > (v.2.1.2 (↑k : Int).toNat).2.1) then true else decide ((v.2.1.2 (↑k : Int).toNat).2.1 ≥ v.1) then true else !inB (v.2.1.2 k).2.2.1 (-9) 9 then true else !inB (v.2.1.2 k).2.2.2.1 (-9) 9)),
  (((!bif bif bif bif decide ((v.2.1.2 (↑k : Int).toNat).1 < 0) then true else decide ((v.2.1.2 (↑k : Int).toNat).1 > (v.2.1.2 (↑k : Int).toNat).2.1) then true else decide ((v.2.1.2 (↑k : Int).toNat).2.1 ≥ v.1) then true else !inB (v.2.1.2 k).2.2.1 (-9) 9 then true else !inB (v.2.1.2 k).2.2.2.1 (-9) 9) = true) → (((bif (v.2.1.2 k).1 == (v.2.1.2 k).2.1 then (v.2.1.2 k).2.2.1 == 0 else false) = true) → (((!bif bif bif bif decide ((v.2.1.2 (↑k : Int).toNat).1 < 0) then true else decide ((v.2.1.2 (↑k : Int).toNat).1 > (v.2.1.2 (↑k : Int).toNat).2.1) then true else decide ((v.2.1.2 (↑k : Int).toNat).2.1 ≥ v.1) then true else !inB (v.2.1.2 k).2.2.1 (-9) 9 then true else !inB (v.2.1.2 k).2.2.2.1 (-9) 9) && bif (v.2.1.2 k).1 == (v.2.1.2 k).2.1 then (v.2.1.2 k).2.2.1 == 0 else false) = true))),
  (((bif bif bif bif decide ((v.2.1.2 (↑k : Int).toNat).1 < 0) then true else decide ((v.2.1.2 (↑k : Int).toNat).1 > (v.2.1.2 (↑k : Int).toNat).2.1) then true else decide ((v.2.1.2 (↑k : Int).toNat).2.1 ≥ v.1) then true else !inB (v.2.1.2 k).2.2.1 (-9) 9 then true else !inB (v.2.1.2 k).2.2.2.1 (-9) 9) = false) → ((!bif bif bif bif decide ((v.2.1.2 (↑k : Int).toNat).1 < 0) then true else decide ((v.2.1.2 (↑k : Int).toNat).1 > (v.2.1.2 (↑k : Int).toNat).2.1) then true else decide ((v.2.1.2 (↑k : Int).toNat).2.1 ≥ v.1) then true else !inB (v.2.1.2 k).2.2.1 (-9) 9 then true else !inB (v.2.1.2 k).2.2.2.1 (-9) 9) = true)),
  ((bif bif bif bif bif decide ((v.2.1.2 (↑k : Int).toNat).1 < 0) then true else decide ((v.2.1.2 (↑k : Int).toNat).1 > (v.2.1.2 (↑k : Int).toNat).2.1) then true else decide ((v.2.1.2 (↑k : Int).toNat).2.1 ≥ v.1) then true else !inB (v.2.1.2 k).2.2.1 (-9) 9 then true else !inB (v.2.1.2 k).2.2.2.1 (-9) 9 then true else bif bif (v.2.1.2 k).1 == (v.2.1.2 k).2.1 then (v.2.1.2 k).2.2.1 == 0 else false then (v.2.1.2 k).2.2.2.1 == 0 else false) = false),
  (((-9223372036854775808) : Int) ≤ ((↑k : Int) + 1)),
  ((((↑k : Int) + 1) : Int) ≤ 9223372036854775807),
  (AI v.1),
  (AN v.2.1.1),
  (AP v.2.1.1 (fun i => [.int .i64 ((v.2.1.2 i).1), .int .i64 ((v.2.1.2 i).2.1), .int .i64 ((v.2.1.2 i).2.2.1), .int .i64 ((v.2.1.2 i).2.2.2.1)])),
  (AN 0),
  (AN v.2.1.1),
  (AP v.2.1.1 (fun i => [.int .i64 ((v.2.1.2 i).1), .int .i64 ((v.2.1.2 i).2.1), .int .i64 ((v.2.1.2 i).2.2.1), .int .i64 ((v.2.1.2 i).2.2.2.1)])),
  (AI ((↑v.2.1.1 : Int))),
  ((((↑k : Int) + 1) : Int) = (↑(k + 1) : Int)),
  (AN 2),
  ((1 : Nat) ≤ 1),
  ((1 : Nat) ≤ 1),
  (AI v.1),
  (AN v.2.1.1),
  (AP v.2.1.1 (fun i => [.int .i64 ((v.2.1.2 i).1), .int .i64 ((v.2.1.2 i).2.1), .int .i64 ((v.2.1.2 i).2.2.1), .int .i64 ((v.2.1.2 i).2.2.2.1)]))]) := by kernel_rfl
theorem p19c (v : T_GainGraph) (k : Nat) :
    pathOb Try.prog Try.f80 0 [.reg [oT], .dec true, .reg [oT, oT, oT, oT], .reg [oT, oT, oT, oT, oT, oT, oT, oT, oT, oT, oT, oT, oT, oT, oT, oT, oT, oT, oT, oT, ⟨true, (some ⟨[], [], [], 1, [], .p (.bool (inB (v.2.1.2 k).2.2.1 (-9) 9))⟩), none⟩, oT, oT, oT, oT, oT, ⟨true, (some ⟨[], [], [], 1, [], .p (.bool (inB (v.2.1.2 k).2.2.2.1 (-9) 9))⟩), none⟩, oT, oT, oT, oT, oT, oT, oT, oT, oT, oT, oT, oT, oT, oT, oT, oT, oT, oT, oT], .dec true, .reg [oT]] [.code (cAt (bodyOf Try.f80) [1, 1, 0, 1, 0, 0]), .inLoop (cAt (bodyOf Try.f80) [1, 1, 0, 1, 0, 0]), .inBlock 0, .code (cAt (bodyOf Try.f80) [1, 1, 1])] (S19 v k) [] 1 [] (.p (.bool false)) =
    some [((decide ((↑k : Int) < (↑v.2.1.1 : Int))) = true),
  ((0 : Int) ≤ (↑k : Int)),
  (((↑k : Int) : Int) < (↑v.2.1.1 : Int)),
  ((0 : Nat) < 1),
  ((true = true) → (AN 1)),
  ((0 : Nat) < 1),
  (AG (!decide ((v.2.1.2 (↑k : Int).toNat).1 < 0))),
  (((!decide ((v.2.1.2 (↑k : Int).toNat).1 < 0)) = true) → ((0 : Nat) < 1)),
  (AG (!decide ((v.2.1.2 (↑k : Int).toNat).1 < 0))),
  (((!decide ((v.2.1.2 (↑k : Int).toNat).1 < 0)) = true) → ((0 : Nat) < 1)),
  (AG (!decide ((v.2.1.2 (↑k : Int).toNat).1 < 0))),
  (AG (!decide ((v.2.1.2 (↑k : Int).toNat).1 < 0))),
  (((decide ((v.2.1.2 (↑k : Int).toNat).1 < 0)) = false) → ((!decide ((v.2.1.2 (↑k : Int).toNat).1 < 0)) = true)),
  (AG (!bif decide ((v.2.1.2 (↑k : Int).toNat).1 < 0) then true else decide ((v.2.1.2 (↑k : Int).toNat).1 > (v.2.1.2 (↑k : Int).toNat).2.1))),
  (((!bif decide ((v.2.1.2 (↑k : Int).toNat).1 < 0) then true else decide ((v.2.1.2 (↑k : Int).toNat).1 > (v.2.1.2 (↑k : Int).toNat).2.1)) = true) → ((0 : Nat) < 1)),
  (AG (!bif decide ((v.2.1.2 (↑k : Int).toNat).1 < 0) then true else decide ((v.2.1.2 (↑k : Int).toNat).1 > (v.2.1.2 (↑k : Int).toNat).2.1))),
  (((!bif decide ((v.2.1.2 (↑k : Int).toNat).1 < 0) then true else decide ((v.2.1.2 (↑k : Int).toNat).1 > (v.2.1.2 (↑k : Int).toNat).2.1)) = true) → ((0 : Nat) < 1)),
  (AG (!bif decide ((v.2.1.2 (↑k : Int).toNat).1 < 0) then true else decide ((v.2.1.2 (↑k : Int).toNat).1 > (v.2.1.2 (↑k : Int).toNat).2.1))),
  (AG (!bif decide ((v.2.1.2 (↑k : Int).toNat).1 < 0) then true else decide ((v.2.1.2 (↑k : Int).toNat).1 > (v.2.1.2 (↑k : Int).toNat).2.1))),
  (((bif decide ((v.2.1.2 (↑k : Int).toNat).1 < 0) then true else decide ((v.2.1.2 (↑k : Int).toNat).1 > (v.2.1.2 (↑k : Int).toNat).2.1)) = false) → ((!bif decide ((v.2.1.2 (↑k : Int).toNat).1 < 0) then true else decide ((v.2.1.2 (↑k : Int).toNat).1 > (v.2.1.2 (↑k : Int).toNat).2.1)) = true)),
  (AG (!bif bif decide ((v.2.1.2 (↑k : Int).toNat).1 < 0) then true else decide ((v.2.1.2 (↑k : Int).toNat).1 > (v.2.1.2 (↑k : Int).toNat).2.1) then true else decide ((v.2.1.2 (↑k : Int).toNat).2.1 ≥ v.1))),
  (((!bif bif decide ((v.2.1.2 (↑k : Int).toNat).1 < 0) then true else decide ((v.2.1.2 (↑k : Int).toNat).1 > (v.2.1.2 (↑k : Int).toNat).2.1) then true else decide ((v.2.1.2 (↑k : Int).toNat).2.1 ≥ v.1)) = true) → ((0 : Nat) < 1)),
  (AG (!bif bif decide ((v.2.1.2 (↑k : Int).toNat).1 < 0) then true else decide ((v.2.1.2 (↑k : Int).toNat).1 > (v.2.1.2 (↑k : Int).toNat).2.1) then true else decide ((v.2.1.2 (↑k : Int).toNat).2.1 ≥ v.1))),
  (((!bif bif decide ((v.2.1.2 (↑k : Int).toNat).1 < 0) then true else decide ((v.2.1.2 (↑k : Int).toNat).1 > (v.2.1.2 (↑k : Int).toNat).2.1) then true else decide ((v.2.1.2 (↑k : Int).toNat).2.1 ≥ v.1)) = true) → Con Try.prog 40 0 [] [.p (.int .i64 ((v.2.1.2 k).2.2.1)), .p (.int .i64 (-9)), .p (.int .i64 9)] [] (.p (.bool (inB (v.2.1.2 k).2.2.1 (-9) 9)))),
  (AG (!bif bif decide ((v.2.1.2 (↑k : Int).toNat).1 < 0) then true else decide ((v.2.1.2 (↑k : Int).toNat).1 > (v.2.1.2 (↑k : Int).toNat).2.1) then true else decide ((v.2.1.2 (↑k : Int).toNat).2.1 ≥ v.1))),
  (((bif bif decide ((v.2.1.2 (↑k : Int).toNat).1 < 0) then true else decide ((v.2.1.2 (↑k : Int).toNat).1 > (v.2.1.2 (↑k : Int).toNat).2.1) then true else decide ((v.2.1.2 (↑k : Int).toNat).2.1 ≥ v.1)) = false) → ((!bif bif decide ((v.2.1.2 (↑k : Int).toNat).1 < 0) then true else decide ((v.2.1.2 (↑k : Int).toNat).1 > (v.2.1.2 (↑k : Int).toNat).2.1) then true else decide ((v.2.1.2 (↑k : Int).toNat).2.1 ≥ v.1)) = true)),
  (AG (!bif bif bif decide ((v.2.1.2 (↑k : Int).toNat).1 < 0) then true else decide ((v.2.1.2 (↑k : Int).toNat).1 > (v.2.1.2 (↑k : Int).toNat).2.1) then true else decide ((v.2.1.2 (↑k : Int).toNat).2.1 ≥ v.1) then true else !inB (v.2.1.2 k).2.2.1 (-9) 9)),
  (((!bif bif bif decide ((v.2.1.2 (↑k : Int).toNat).1 < 0) then true else decide ((v.2.1.2 (↑k : Int).toNat).1 > (v.2.1.2 (↑k : Int).toNat).2.1) then true else decide ((v.2.1.2 (↑k : Int).toNat).2.1 ≥ v.1) then true else !inB (v.2.1.2 k).2.2.1 (-9) 9) = true) → ((0 : Nat) < 1)),
  (AG (!bif bif bif decide ((v.2.1.2 (↑k : Int).toNat).1 < 0) then true else decide ((v.2.1.2 (↑k : Int).toNat).1 > (v.2.1.2 (↑k : Int).toNat).2.1) then true else decide ((v.2.1.2 (↑k : Int).toNat).2.1 ≥ v.1) then true else !inB (v.2.1.2 k).2.2.1 (-9) 9)),
  (((!bif bif bif decide ((v.2.1.2 (↑k : Int).toNat).1 < 0) then true else decide ((v.2.1.2 (↑k : Int).toNat).1 > (v.2.1.2 (↑k : Int).toNat).2.1) then true else decide ((v.2.1.2 (↑k : Int).toNat).2.1 ≥ v.1) then true else !inB (v.2.1.2 k).2.2.1 (-9) 9) = true) → Con Try.prog 40 0 [] [.p (.int .i64 ((v.2.1.2 k).2.2.2.1)), .p (.int .i64 (-9)), .p (.int .i64 9)] [] (.p (.bool (inB (v.2.1.2 k).2.2.2.1 (-9) 9)))),
  (AG (!bif bif bif decide ((v.2.1.2 (↑k : Int).toNat).1 < 0) then true else decide ((v.2.1.2 (↑k : Int).toNat).1 > (v.2.1.2 (↑k : Int).toNat).2.1) then true else decide ((v.2.1.2 (↑k : Int).toNat).2.1 ≥ v.1) then true else !inB (v.2.1.2 k).2.2.1 (-9) 9)),
  (((bif bif bif decide ((v.2.1.2 (↑k : Int).toNat).1 < 0) then true else decide ((v.2.1.2 (↑k : Int).toNat).1 > (v.2.1.2 (↑k : Int).toNat).2.1) then true else decide ((v.2.1.2 (↑k : Int).toNat).2.1 ≥ v.1) then true else !inB (v.2.1.2 k).2.2.1 (-9) 9) = false) → ((!bif bif bif decide ((v.2.1.2 (↑k : Int).toNat).1 < 0) then true else decide ((v.2.1.2 (↑k : Int).toNat).1 > (v.2.1.2 (↑k : Int).toNat).2.1) then true else decide ((v.2.1.2 (↑k : Int).toNat).2.1 ≥ v.1) then true else !inB (v.2.1.2 k).2.2.1 (-9) 9) = true)),
  (AG (!bif bif bif bif decide ((v.2.1.2 (↑k : Int).toNat).1 < 0) then true else decide ((v.2.1.2 (↑k : Int).toNat).1 > (v.2.1.2 (↑k : Int).toNat).2.1) then true else decide ((v.2.1.2 (↑k : Int).toNat).2.1 ≥ v.1) then true else !inB (v.2.1.2 k).2.2.1 (-9) 9 then true else !inB (v.2.1.2 k).2.2.2.1 (-9) 9)),
  (((!bif bif bif bif decide ((v.2.1.2 (↑k : Int).toNat).1 < 0) then true else decide ((v.2.1.2 (↑k : Int).toNat).1 > (v.2.1.2 (↑k : Int).toNat).2.1) then true else decide ((v.2.1.2 (↑k : Int).toNat).2.1 ≥ v.1) then true else !inB (v.2.1.2 k).2.2.1 (-9) 9 then true else !inB (v.2.1.2 k).2.2.2.1 (-9) 9) = true) → ((0 : Nat) < 1)),
  (AG (!bif bif bif bif decide ((v.2.1.2 (↑k : Int).toNat).1 < 0) then true else decide ((v.2.1.2 (↑k : Int).toNat).1 > (v.2.1.2 (↑k : Int).toNat).2.1) then true else decide ((v.2.1.2 (↑k : Int).toNat).2.1 ≥ v.1) then true else !inB (v.2.1.2 k).2.2.1 (-9) 9 then true else !inB (v.2.1.2 k).2.2.2.1 (-9) 9)),
  (((!bif bif bif bif decide ((v.2.1.2 (↑k : Int).toNat).1 < 0) then true else decide ((v.2.1.2 (↑k : Int).toNat).1 > (v.2.1.2 (↑k : Int).toNat).2.1) then true else decide ((v.2.1.2 (↑k : Int).toNat).2.1 ≥ v.1) then true else !inB (v.2.1.2 k).2.2.1 (-9) 9 then true else !inB (v.2.1.2 k).2.2.2.1 (-9) 9) = true) → ((0 : Nat) < 1)),
  (AG (!bif bif bif bif decide ((v.2.1.2 (↑k : Int).toNat).1 < 0) then true else decide ((v.2.1.2 (↑k : Int).toNat).1 > (v.2.1.2 (↑k : Int).toNat).2.1) then true else decide ((v.2.1.2 (↑k : Int).toNat).2.1 ≥ v.1) then true else !inB (v.2.1.2 k).2.2.1 (-9) 9 then true else !inB (v.2.1.2 k).2.2.2.1 (-9) 9)),
  (AG (!bif bif bif bif decide ((v.2.1.2 (↑k : Int).toNat).1 < 0) then true else decide ((v.2.1.2 (↑k : Int).toNat).1 > (v.2.1.2 (↑k : Int).toNat).2.1) then true else decide ((v.2.1.2 (↑k : Int).toNat).2.1 ≥ v.1) then true else !inB (v.2.1.2 k).2.2.1 (-9) 9 then true else !inB (v.2.1.2 k).2.2.2.1 (-9) 9)),
  (AG (!bif bif bif bif decide ((v.2.1.2 (↑k : Int).toNat).1 < 0) then true else decide ((v.2.1.2 (↑k : Int).toNat).1 > (v.2.1.2 (↑k : Int).toNat).2.1) then true else decide ((v.2.1.2 (↑k : Int).toNat).2.1 ≥ v.1) then true else !inB (v.2.1.2 k).2.2.1 (-9) 9 then true else !inB (v.2.1.2 k).2.2.2.1 (-9) 9)),
  (AG ((!bif bif bif bif decide ((v.2.1.2 (↑k : Int).toNat).1 < 0) then true else decide ((v.2.1.2 (↑k : Int).toNat).1 > (v.2.1.2 (↑k : Int).toNat).2.1) then true else decide ((v.2.1.2 (↑k : Int).toNat).2.1 ≥ v.1) then true else !inB (v.2.1.2 k).2.2.1 (-9) 9 then true else !inB (v.2.1.2 k).2.2.2.1 (-9) 9) && (v.2.1.2 k).1 == (v.2.1.2 k).2.1)),
  ((((!bif bif bif bif decide ((v.2.1.2 (↑k : Int).toNat).1 < 0) then true else decide ((v.2.1.2 (↑k : Int).toNat).1 > (v.2.1.2 (↑k : Int).toNat).2.1) then true else decide ((v.2.1.2 (↑k : Int).toNat).2.1 ≥ v.1) then true else !inB (v.2.1.2 k).2.2.1 (-9) 9 then true else !inB (v.2.1.2 k).2.2.2.1 (-9) 9) && (v.2.1.2 k).1 == (v.2.1.2 k).2.1) = true) → ((0 : Nat) < 1)),
  (AG ((!bif bif bif bif decide ((v.2.1.2 (↑k : Int).toNat).1 < 0) then true else decide ((v.2.1.2 (↑k : Int).toNat).1 > (v.2.1.2 (↑k : Int).toNat).2.1) then true else decide ((v.2.1.2 (↑k : Int).toNat).2.1 ≥ v.1) then true else !inB (v.2.1.2 k).2.2.1 (-9) 9 then true else !inB (v.2.1.2 k).2.2.2.1 (-9) 9) && (v.2.1.2 k).1 == (v.2.1.2 k).2.1)),
  (AG (!bif bif bif bif decide ((v.2.1.2 (↑k : Int).toNat).1 < 0) then true else decide ((v.2.1.2 (↑k : Int).toNat).1 > (v.2.1.2 (↑k : Int).toNat).2.1) then true else decide ((v.2.1.2 (↑k : Int).toNat).2.1 ≥ v.1) then true else !inB (v.2.1.2 k).2.2.1 (-9) 9 then true else !inB (v.2.1.2 k).2.2.2.1 (-9) 9)),
  (((!bif bif bif bif decide ((v.2.1.2 (↑k : Int).toNat).1 < 0) then true else decide ((v.2.1.2 (↑k : Int).toNat).1 > (v.2.1.2 (↑k : Int).toNat).2.1) then true else decide ((v.2.1.2 (↑k : Int).toNat).2.1 ≥ v.1) then true else !inB (v.2.1.2 k).2.2.1 (-9) 9 then true else !inB (v.2.1.2 k).2.2.2.1 (-9) 9) = true) → ((((v.2.1.2 k).1 == (v.2.1.2 k).2.1) = true) → (((!bif bif bif bif decide ((v.2.1.2 (↑k : Int).toNat).1 < 0) then true else decide ((v.2.1.2 (↑k : Int).toNat).1 > (v.2.1.2 (↑k : Int).toNat).2.1) then true else decide ((v.2.1.2 (↑k : Int).toNat).2.1 ≥ v.1) then true else !inB (v.2.1.2 k).2.2.1 (-9) 9 then true else !inB (v.2.1.2 k).2.2.2.1 (-9) 9) && (v.2.1.2 k).1 == (v.2.1.2 k).2.1) = true))),
  (AG (!bif bif bif bif decide ((v.2.1.2 (↑k : Int).toNat).1 < 0) then true else decide ((v.2.1.2 (↑k : Int).toNat).1 > (v.2.1.2 (↑k : Int).toNat).2.1) then true else decide ((v.2.1.2 (↑k : Int).toNat).2.1 ≥ v.1) then true else !inB (v.2.1.2 k).2.2.1 (-9) 9 then true else !inB (v.2.1.2 k).2.2.2.1 (-9) 9)),
  (AG ((!bif bif bif bif decide ((v.2.1.2 (↑k : Int).toNat).1 < 0) then true else decide ((v.2.1.2 (↑k : Int).toNat).1 > (v.2.1.2 (↑k : Int).toNat).2.1) then true else decide ((v.2.1.2 (↑k : Int).toNat).2.1 ≥ v.1) then true else !inB (v.2.1.2 k).2.2.1 (-9) 9 then true else !inB (v.2.1.2 k).2.2.2.1 (-9) 9) && bif (v.2.1.2 k).1 == (v.2.1.2 k).2.1 then (v.2.1.2 k).2.2.1 == 0 else false)),
  ((((!bif bif bif bif decide ((v.2.1.2 (↑k : Int).toNat).1 < 0) then true else decide ((v.2.1.2 (↑k : Int).toNat).1 > (v.2.1.2 (↑k : Int).toNat).2.1) then true else decide ((v.2.1.2 (↑k : Int).toNat).2.1 ≥ v.1) then true else !inB (v.2.1.2 k).2.2.1 (-9) 9 then true else !inB (v.2.1.2 k).2.2.2.1 (-9) 9) && bif (v.2.1.2 k).1 == (v.2.1.2 k).2.1 then (v.2.1.2 k).2.2.1 == 0 else false) = true) → ((0 : Nat) < 1)),
  (AG ((!bif bif bif bif decide ((v.2.1.2 (↑k : Int).toNat).1 < 0) then true else decide ((v.2.1.2 (↑k : Int).toNat).1 > (v.2.1.2 (↑k : Int).toNat).2.1) then true else decide ((v.2.1.2 (↑k : Int).toNat).2.1 ≥ v.1) then true else !inB (v.2.1.2 k).2.2.1 (-9) 9 then true else !inB (v.2.1.2 k).2.2.2.1 (-9) 9) && bif (v.2.1.2 k).1 == (v.2.1.2 k).2.1 then (v.2.1.2 k).2.2.1 == 0 else false)),
  (AG (!bif bif bif bif decide ((v.2.1.2 (↑k : Int).toNat).1 < 0) then true else decide ((v.2.1.2 (↑k : Int).toNat).1 > (v.2.1.2 (↑k : Int).toNat).2.1) then true else decide ((v.2.1.2 (↑k : Int).toNat).2.1 ≥ v.1) then true else !inB (v.2.1.2 k).2.2.1 (-9) 9 then true else !inB (v.2.1.2 k).2.2.2.1 (-9) 9)),
  (((!bif bif bif bif decide ((v.2.1.2 (↑k : Int).toNat).1 < 0) then true else decide ((v.2.1.2 (↑k : Int).toNat).1 > (v.2.1.2 (↑k : Int).toNat).2.1) then true else decide ((v.2.1.2 (↑k : Int).toNat).2.1 ≥ v.1) then true else !inB (v.2.1.2 k).2.2.1 (-9) 9 then true else !inB (v.2.1.2 k).2.2.2.1 (-9) 9) = true) → (((bif (v.2.1.2 k).1 == (v.2.1.2 k).2.1 then (v.2.1.2 k).2.2.1 == 0 else false) = true) → (((!bif bif bif bif decide ((v.2.1.2 (↑k : Int).toNat).1 < 0) then true else decide ((v.2.1.2 (↑k : Int).toNat).1 > (v.2.1.2 (↑k : Int).toNat).2.1) then true else decide ((v.2.1.2 (↑k : Int).toNat).2.1 ≥ v.1) then true else !inB (v.2.1.2 k).2.2.1 (-9) 9 then true else !inB (v.2.1.2 k).2.2.2.1 (-9) 9) && bif (v.2.1.2 k).1 == (v.2.1.2 k).2.1 then (v.2.1.2 k).2.2.1 == 0 else false) = true))),
  (((bif bif bif bif decide ((v.2.1.2 (↑k : Int).toNat).1 < 0) then true else decide ((v.2.1.2 (↑k : Int).toNat).1 > (v.2.1.2 (↑k : Int).toNat).2.1) then true else decide ((v.2.1.2 (↑k : Int).toNat).2.1 ≥ v.1) then true else !inB (v.2.1.2 k).2.2.1 (-9) 9 then true else !inB (v.2.1.2 k).2.2.2.1 (-9) 9) = false) → ((!bif bif bif bif decide ((v.2.1.2 (↑k : Int).toNat).1 < 0) then true else decide ((v.2.1.2 (↑k : Int).toNat).1 > (v.2.1.2 (↑k : Int).toNat).2.1) then true else decide ((v.2.1.2 (↑k : Int).toNat).2.1 ≥ v.1) then true else !inB (v.2.1.2 k).2.2.1 (-9) 9 then true else !inB (v.2.1.2 k).2.2.2.1 (-9) 9) = true)),
  ((bif bif bif bif bif decide ((v.2.1.2 (↑k : Int).toNat).1 < 0) then true else decide ((v.2.1.2 (↑k : Int).toNat).1 > (v.2.1.2 (↑k : Int).toNat).2.1) then true else decide ((v.2.1.2 (↑k : Int).toNat).2.1 ≥ v.1) then true else !inB (v.2.1.2 k).2.2.1 (-9) 9 then true else !inB (v.2.1.2 k).2.2.2.1 (-9) 9 then true else bif bif (v.2.1.2 k).1 == (v.2.1.2 k).2.1 then (v.2.1.2 k).2.2.1 == 0 else false then (v.2.1.2 k).2.2.2.1 == 0 else false) = true),
  (false = false)] := by kernel_rfl
theorem p19d (v : T_GainGraph) (k : Nat) :
    pathOb Try.prog Try.f80 0 [.reg [oT], .dec false, .reg [oT]] [.code (cAt (bodyOf Try.f80) [1, 1, 0, 1, 0, 0]), .inLoop (cAt (bodyOf Try.f80) [1, 1, 0, 1, 0, 0]), .inBlock 0, .code (cAt (bodyOf Try.f80) [1, 1, 1])] (S19 v k) [] 1 [] (.p (.bool true)) =
    some [((decide ((↑k : Int) < (↑v.2.1.1 : Int))) = false),
  (true = true)] := by kernel_rfl
theorem goodG_bad (v : T_GainGraph) (k : Nat) (h : badG v.1 (v.2.1.2 k) = true) : ∀ n, k < n → goodG v n = false
  | 0, h' => by omega
  | n + 1, h' => by
    by_cases e : k = n
    · subst e; simp [goodG, h]
    · simp [goodG, goodG_bad v k h n (by omega)]
theorem con_IsGainGraph_s (v : T_GainGraph) (hs : smS s_GainGraph v) : Con Try.prog 75 0 [] [gainA v] [] (.p (.bool (isGainF v))) := by
  refine con_start Try.func75 rfl (by kernel_rfl) rfl (fun c hc => ?_)
  have hn : v.2.1.1 ≤ 1048576 := hs.2.1.1
  have lp : ∀ m k, k + m = v.2.1.1 → goodG v k = true → Run Try.prog c 75 [.code (cAt (bodyOf Try.f75) [1, 0, 1, 0, 0]), .inLoop (cAt (bodyOf Try.f75) [1, 0, 1, 0, 0]), .inBlock 0, .code (cAt (bodyOf Try.f75) [1, 1])] (S17 v k) (Post c [] (.p (.bool (isGainF v)))) := by
    intro m
    induction m with
    | zero =>
      intro k hk hg
      have e : k = v.2.1.1 := by omega
      have hr : isGainF v = (inB v.1 1 4 && decide (v.2.1.1 ≤ 8)) := by rw [isGainF, ← e, hg]; simp
      rw [hr]
      have hd : decide ((k : Int) < (v.2.1.1 : Int)) = false := by simp; omega
      refine path_ok mixed Try.func75 hc (p17d v k) ?_
      simp only [All]
      repeat' (first | exact trivial | with_reducible apply And.intro)
      all_goals (first | exact aG _ | exact aP _ _ | exact aA _ _ | exact aE _ | omega | rfl | (intros; first | assumption | exact True.intro | rfl | exact absurd (show false = true by assumption) Bool.false_ne_true | ((repeat' (first | assumption | apply anda | apply notf)); done)) | (exact con_l1In _ _ _) | (cases inB v.1 1 4 <;> simp <;> omega))
    | succ m ih =>
      intro k hk hg
      have hd : decide ((k : Int) < (v.2.1.1 : Int)) = true := by simp; omega
      cases he : badG v.1 (v.2.1.2 k) with
      | true =>
        have hr : isGainF v = false := by rw [isGainF, goodG_bad v k he _ (by omega)]; rfl
        rw [hr]
        refine path_ok mixed Try.func75 hc (p17c v k) ?_
        simp only [All]
        repeat' (first | exact trivial | with_reducible apply And.intro)
        all_goals (first | exact aG _ | exact aP _ _ | exact aA _ _ | exact aE _ | omega | rfl | (intros; first | assumption | exact True.intro | rfl | exact absurd (show false = true by assumption) Bool.false_ne_true | ((repeat' (first | assumption | apply anda | apply notf)); done)) | (intros; exact con_l1In _ _ _) | (exact he))
      | false =>
        refine piece_ok mixed hc (p17b v k) ?_ (ih (k + 1) (by omega) (by simp [goodG, hg, he]))
        simp only [All]
        repeat' (first | exact trivial | with_reducible apply And.intro)
        all_goals (first | exact aG _ | exact aP _ _ | exact aA _ _ | exact aE _ | omega | rfl | (intros; first | assumption | exact True.intro | rfl | exact absurd (show false = true by assumption) Bool.false_ne_true | ((repeat' (first | assumption | apply anda | apply notf)); done)) | (intros; exact con_l1In _ _ _) | (exact he) | (simp [All]))
  refine piece_ok mixed hc (p17a v) ?_ (lp v.2.1.1 0 (by omega) rfl)
  simp only [All]
  repeat' (first | exact trivial | with_reducible apply And.intro)
  all_goals (first | exact aG _ | exact aP _ _ | exact aA _ _ | exact aE _ | omega | rfl | (intros; first | assumption | exact True.intro | rfl | exact absurd (show false = true by assumption) Bool.false_ne_true | ((repeat' (first | assumption | apply anda | apply notf)); done)) | (simp [All]))
theorem con_IsGainGraph_i (v : T_GainGraph) (hs : smS s_GainGraph v) : Con Try.prog 80 0 [] [gainA v] [] (.p (.bool (isGainF v))) := by
  refine con_start Try.func80 rfl (by kernel_rfl) rfl (fun c hc => ?_)
  have hn : v.2.1.1 ≤ 1048576 := hs.2.1.1
  cases hz : (inB v.1 1 4 && decide (v.2.1.1 ≤ 8)) with
  | false =>
    have hr : isGainF v = false := by rw [isGainF, hz]; simp
    rw [hr]
    refine path_ok mixed Try.func80 hc (p19z v) ?_
    simp only [All]
    repeat' (first | exact trivial | with_reducible apply And.intro)
    all_goals (first | exact aG _ | exact aP _ _ | exact aA _ _ | exact aE _ | omega | rfl | (intros; first | assumption | exact True.intro | rfl | exact absurd (show false = true by assumption) Bool.false_ne_true | ((repeat' (first | assumption | apply anda | apply notf)); done)) | (exact con_within _ _ _) | (cases hi : inB v.1 1 4 <;> simp [hi] at hz <;> simp <;> omega))
  | true =>
    have hr : isGainF v = goodG v v.2.1.1 := by rw [isGainF, hz]; simp
    rw [hr]
    have lp : ∀ m k, k + m = v.2.1.1 → goodG v k = true → Run Try.prog c 80 [.code (cAt (bodyOf Try.f80) [1, 1, 0, 1, 0, 0]), .inLoop (cAt (bodyOf Try.f80) [1, 1, 0, 1, 0, 0]), .inBlock 0, .code (cAt (bodyOf Try.f80) [1, 1, 1])] (S19 v k) (Post c [] (.p (.bool (goodG v v.2.1.1)))) := by
      intro m
      induction m with
      | zero =>
        intro k hk hg
        have e : k = v.2.1.1 := by omega
        rw [show goodG v v.2.1.1 = true by rw [← e]; exact hg]
        have hd : decide ((k : Int) < (v.2.1.1 : Int)) = false := by simp; omega
        refine path_ok mixed Try.func80 hc (p19d v k) ?_
        simp only [All]
        repeat' (first | exact trivial | with_reducible apply And.intro)
        all_goals (first | exact aG _ | exact aP _ _ | exact aA _ _ | exact aE _ | omega | rfl | (intros; first | assumption | exact True.intro | rfl | exact absurd (show false = true by assumption) Bool.false_ne_true | ((repeat' (first | assumption | apply anda | apply notf)); done)))
      | succ m ih =>
        intro k hk hg
        have hd : decide ((k : Int) < (v.2.1.1 : Int)) = true := by simp; omega
        cases he : badG v.1 (v.2.1.2 k) with
        | true =>
          rw [goodG_bad v k he v.2.1.1 (by omega)]
          refine path_ok mixed Try.func80 hc (p19c v k) ?_
          simp only [All]
          repeat' (first | exact trivial | with_reducible apply And.intro)
          all_goals (first | exact aG _ | exact aP _ _ | exact aA _ _ | exact aE _ | omega | rfl | (intros; first | assumption | exact True.intro | rfl | exact absurd (show false = true by assumption) Bool.false_ne_true | ((repeat' (first | assumption | apply anda | apply notf)); done)) | (intros; exact con_within _ _ _) | (exact he))
        | false =>
          refine piece_ok mixed hc (p19b v k) ?_ (ih (k + 1) (by omega) (by simp [goodG, hg, he]))
          simp only [All]
          repeat' (first | exact trivial | with_reducible apply And.intro)
          all_goals (first | exact aG _ | exact aP _ _ | exact aA _ _ | exact aE _ | omega | rfl | (intros; first | assumption | exact True.intro | rfl | exact absurd (show false = true by assumption) Bool.false_ne_true | ((repeat' (first | assumption | apply anda | apply notf)); done)) | (intros; exact con_within _ _ _) | (exact he) | (simp [All]))
    simp only [Bool.and_eq_true, decide_eq_true_eq] at hz
    refine piece_ok mixed hc (p19a v) ?_ (lp v.2.1.1 0 (by omega) rfl)
    simp only [All]
    repeat' (first | exact trivial | with_reducible apply And.intro)
    all_goals (first | exact aG _ | exact aP _ _ | exact aA _ _ | exact aE _ | omega | rfl | (intros; first | assumption | exact True.intro | rfl | exact absurd (show false = true by assumption) Bool.false_ne_true | ((repeat' (first | assumption | apply anda | apply notf)); done)) | (exact con_within _ _ _) | (simp [hz.1]; omega) | (simp [All]))
end Go.Proofs.Ytffnfeefjdmifaa.Mach
