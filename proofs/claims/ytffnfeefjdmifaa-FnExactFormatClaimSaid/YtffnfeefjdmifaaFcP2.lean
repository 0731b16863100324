/- What the law Fc needs, part 2 of 4: the abstract machine and the contracts of the functions. Conditions: as each theorem says. -/
import Derived.ProofKit
import Derived.OpenShut
import Derived.Carry
import Derived.Test.YtffnfeefjdmifaaRows
import Derived.Test.YtffnfeefjdmifaaFcP1
namespace Go.Proofs.Ytffnfeefjdmifaa.Mach
open Go
set_option linter.unusedVariables false
set_option linter.unusedSimpArgs false
section
variable {P : Program} {ops : Array Oper} {base : Nat} {ss : List OpS} {tr : List (List Nat × Eff)} {envN : List AV} {HN : Hp}
theorem chk_ok (h : chk ops tr = true) {j : Nat} (hj : j < ops.size) : (∃ oj, ops[j]? = some oj ∧ ∀ e ∈ oj.after, Region.binds .any e = true → e.on < j) ∧ ∀ i, i < j → waits ops i j = true ∨ apartAt ops tr i j = true := by
  simp only [chk, List.all_eq_true, List.mem_range, Bool.and_eq_true, Bool.or_eq_true] at h
  obtain ⟨h1, h2⟩ := h j hj
  refine ⟨?_, h2⟩
  split at h1
  · rename_i oj hoj
    refine ⟨oj, hoj, fun e he hb => ?_⟩
    have := Array.all_eq_true_iff_forall_mem.1 h1 e he
    simp only [Bool.or_eq_true, Bool.not_eq_true', Nat.blt_eq] at this
    rcases this with h | h
    · rw [h] at hb; cases hb
    · exact h
  · cases h1
def Upto (ops : Array Oper) (i : Nat) (listed : Array Bool) : Prop := listed.size = ops.size ∧ ∀ j, j < ops.size → listed[j]? = some (decide (j < i))
theorem Upto.getD {i : Nat} {listed : Array Bool} (h : Upto ops i listed) {j : Nat} (hj : j < ops.size) (d : Bool) : listed.getD j d = decide (j < i) := by
  rw [Array.getD_eq_getD_getElem?, h.2 j hj]; rfl
theorem Upto.next {i : Nat} {listed : Array Bool} (h : Upto ops i listed) (hi : i < ops.size) : Upto ops (i + 1) (listed.setIfInBounds i true) := by
  refine ⟨by simp [h.1], fun j hj => ?_⟩
  by_cases hij : i = j
  · subst hij
    simp [h.1, hi]
  · rw [Array.getElem?_setIfInBounds_ne hij, h.2 j hj]
    congr 1
    apply decide_eq_decide.2
    omega
theorem AAny_lex (hc : chk ops tr = true) : ∀ (r : List OpS) (i : Nat) (listed : Array Bool) (env : List AV) (H : Hp) (envN : List AV) (HN : Hp) (tr' : List (List Nat × Eff)), runTr P ops base r i env H = some (envN, HN, tr') →
    (∀ k, r[k]? = ss[i + k]?) → (∀ k, tr'[k]? = tr[i + k]?) → Upto ops i listed → AAny P ops base ss tr envN HN r.length listed env H
  | [], i, listed, env, H, envN, HN, tr', hr, hs, ht, hu => by
    have hi := runTr_len [] i env H hr
    simp only [runTr] at hr
    split at hr
    case isFalse => cases hr
    simp only [Option.some.injEq, Prod.mk.injEq] at hr
    obtain ⟨rfl, rfl, rfl⟩ := hr
    refine ⟨?_, rfl, fun _ => rfl⟩
    rw [List.eq_nil_iff_forall_not_mem]
    intro j hj
    obtain ⟨h1, o, ho, _⟩ := mem_ready.1 hj
    have hjl : j < ops.size := (Array.getElem?_eq_some_iff.1 ho).1
    rw [hu.getD hjl] at h1
    simp at h1 hi
    omega
  | s :: r, i, listed, env, H, envN, HN, tr', hr, hs, ht, hu => by
    have hlen := runTr_len _ i env H hr
    simp only [List.length_cons] at hlen
    have hi : i < ops.size := by omega
    simp only [runTr] at hr
    split at hr
    case h_1 => cases hr
    rename_i x hx
    split at hr
    case h_1 => cases hr
    rename_i y hy
    simp only [Option.some.injEq, Prod.mk.injEq] at hr
    obtain ⟨rfl, rfl, rfl⟩ := hr
    have hs0 : ss.getD i ⟨true, none, none⟩ = s := by
      have := hs 0
      simp only [Nat.add_zero, List.getElem?_cons_zero] at this
      rw [List.getD_eq_getElem?_getD, ← this]; rfl
    have ht0 : trOf tr i = x := by
      have := ht 0
      simp only [Nat.add_zero, List.getElem?_cons_zero] at this
      rw [trOf, List.getD_eq_getElem?_getD, ← this]; rfl
    obtain ⟨⟨oi, hoi, hon⟩, _⟩ := chk_ok hc hi
    refine AAny_first r.length listed env H (fun j hj hji hun hw => ?_) ?_ (by rw [hs0, ht0]; exact hx) ?_
    · rw [hu.getD hj] at hun
      simp only [decide_eq_false_iff_not] at hun
      rcases (chk_ok hc hj).2 i (by omega) with h | h
      · rw [h] at hw; cases hw
      · exact h
    · refine mem_ready.2 ⟨by rw [hu.getD hi]; simp, oi, hoi, fun e he hb => ?_⟩
      have := hon e he hb
      rw [hu.getD (by omega)]
      simpa using this
    · rw [ht0]
      exact AAny_lex hc r (i + 1) _ _ _ _ _ y.2.2 hy (fun k => by have := hs (k + 1); simpa [Nat.add_assoc, Nat.add_comm 1 k] using this)
        (fun k => by have := ht (k + 1); simpa [Nat.add_assoc, Nat.add_comm 1 k] using this) (hu.next hi)
theorem Heq.own {β : Nat → Option Addr} {H H2 : Hp} (h : Heq H H2) : ownOf β H = ownOf β H2 := by
  funext b
  unfold ownOf
  simp only [h _]
theorem Rel.heq {c : Cx} {dom : Nat → Prop} {env : List AV} {H H2 : Hp} {a : Act} {w : World} {β : Nat → Option Addr} (h : Rel c dom env H a w β) (hq : Heq H H2) : Rel c dom env H2 a w β := by
  have ho := hq.own (β := β)
  have hw : ow c.X β H = ow c.X β H2 := by funext t b; unfold ow; rw [ho]
  refine ⟨fun o ob hl => ?_, fun o o' ob ob' a a' h1 h2 => h.sep o o' ob ob' a a' (by rw [hq o]; exact h1) (by rw [hq o']; exact h2), by rw [← hw]; exact h.ev, h.len, h.dfr, fun k hk => h.dom k (by rw [hq k]; exact hk), by rw [← hw]; exact h.ext, by rw [← ho]; exact h.xs, by rw [← ho]; exact h.own, h.init⟩
  rw [← hw]
  exact h.hr o ob (by rw [hq o]; exact hl)
def domL (base : Nat) (listed : Array Bool) (k : Nat) : Prop := k < base ∨ ∃ i, listed.getD i false = true ∧ base + 32 * i ≤ k ∧ k < base + 32 * i + 32
theorem AAny_sound {c : Cx} (hn : c.n ≤ base) {Q : Exit → Act → World → Prop} (hob : ∀ i, ∀ p ∈ (trOf tr i).2.ob, p)
    (hQ : ∀ a' w' β', Rel c (fun k => k < base + 32 * ops.size) envN HN a' w' β' → Q .normal a' w') :
    ∀ (fuel : Nat) (listed : Array Bool) (env : List AV) (H : Hp) (a : Act) (w : World) (β : Nat → Option Addr), listed.size = ops.size → Rel c (domL base listed) env H a w β →
      AAny P ops base ss tr envN HN fuel listed env H → wpAny P .any ops Q fuel listed a w := by
  have fin : ∀ (listed : Array Bool) (env : List AV) (H : Hp) (a : Act) (w : World) (β : Nat → Option Addr), listed.size = ops.size → Rel c (domL base listed) env H a w β → env = envN → Heq H HN → Q .normal a w := by
    intro listed env H a w β hl hr he hq
    subst he
    refine hQ a w β ((hr.heq hq).dom_mono (fun k hk => ?_))
    rcases hk with h | ⟨i, h1, h2, h3⟩
    · omega
    · have : i < listed.size := by
        rcases Nat.lt_or_ge i listed.size with h' | h'
        · exact h'
        · simp [Array.getElem?_eq_none h'] at h1
      omega
  intro fuel
  induction fuel with
  | zero => intro listed env H a w β hl hr h; exact ⟨h.1, fin listed env H a w β hl hr h.2.1 h.2.2⟩
  | succ fuel ih =>
    intro listed env H a w β hl hr h
    refine ⟨fun h0 => fin listed env H a w β hl hr (h.1 h0).1 (h.1 h0).2, fun i hi => ?_⟩
    obtain ⟨h1, h2⟩ := h.2 i hi
    obtain ⟨hun, oi, hoi, _⟩ := mem_ready.1 hi
    refine stepOp_ok (rd := (trOf tr i).1) (e := (trOf tr i).2) hr (fun k k1 k2 hd => ?_) hn h1 (hob i) (fun a' w' β' hr' => ?_)
    · rcases hd with hd | ⟨i', g1, g2, g3⟩
      · omega
      · have : i' = i := by omega
        subst this
        rcases Nat.lt_or_ge i' listed.size with h' | h'
        · simp [h'] at hun g1; rw [hun] at g1; cases g1
        · simp [Array.getElem?_eq_none h'] at g1
    · refine ih _ _ _ a' w' β' (by simp [hl]) (hr'.dom_mono (fun k hk => ?_)) h2
      rcases hk with hk | hk
      · rcases hk with hk | ⟨i', g1, g2⟩
        · exact .inl hk
        · exact .inr ⟨i', getD_set_true g1, g2⟩
      · have hil : i < listed.size := by rw [hl]; exact (Array.getElem?_eq_some_iff.1 hoi).1
        exact .inr ⟨i, by simp [Array.getD_eq_getD_getElem?, hil], hk⟩
theorem region_ok {c : Cx} {id : Nat} {draw : Bool} {env env' : List AV} {H H' : Hp} {a : Act} {w : World} {β : Nat → Option Addr} (hm : P.follows .mixedOrders = true) (hn : c.n ≤ base)
    (hr : runTr P ops base ss 0 env H = some (env', H', tr)) (hob : ∀ p ∈ obsOf tr, p) (hc : draw = true → chk ops tr = true) (h : Rel c (fun k => k < base) env H a w β)
    {Q : Exit → Act → World → Prop} (hQ : ∀ a' w' β', Rel c (fun k => k < base + 32 * ops.size) env' H' a' w' β' → Q .normal a' w') : (Code.region id ops draw).wp P Q a w := by
  have hlen := runTr_len ss 0 env H hr
  cases draw with
  | false =>
    refine wp_region ?_
    have := seq_ok (Q := Q) hn ss 0 env H a w β env' H' tr hr hob (h.dom_mono (fun k hk => by omega)) hQ
    rw [List.range_eq_range', show ops.size = ss.length by omega]
    exact this
  | true =>
    refine wp_region_any hm ?_
    have hE : ∀ own : Bool → Nat → Prop, Ext w own { w with drawn := w.drawn + 1 } own := fun own => ⟨rfl, rfl, rfl, Nat.le_refl _, fun _ _ _ _ => rfl, fun _ _ _ h => h, fun _ c e f h => ⟨c, e, f, h, Nat.le_refl _⟩, fun _ es ck h => ⟨es, ck, h⟩⟩
    have hd : Rel c (fun k => k < base) env H a { w with drawn := w.drawn + 1 } β :=
      { hr := fun o ob hl => by
          rcases h.hr o ob hl with h' | ⟨b, bs, cells, elem, h1, h2, h3⟩ | h'
          · exact .inl h'
          · refine .inr (.inl ⟨b, bs, cells, elem, h1, h2, fun i hi j hj => ?_⟩)
            obtain ⟨v, g1, g2, g3⟩ := h3 i hi j hj
            exact ⟨v, g1, g2, g3.ext (hE _) (fun _ _ h => h)⟩
          · exact .inr (.inr h')
        sep := h.sep
        ev := fun t => (h.ev t).ext (hE _) (fun _ _ h => h)
        len := h.len, dfr := h.dfr, dom := h.dom
        ext := h.ext.trans (hE _)
        xs := h.xs, own := h.own, init := h.init }
    have hob' : ∀ i, ∀ p ∈ (trOf tr i).2.ob, p := by
      intro i p hp
      unfold trOf at hp
      rw [List.getD_eq_getElem?_getD] at hp
      cases hi : tr[i]? with
      | none => rw [hi] at hp; simp at hp
      | some x =>
        rw [hi] at hp
        exact hob p (List.mem_flatten.2 ⟨x.2.ob, List.mem_map.2 ⟨x, List.mem_of_getElem? hi, rfl⟩, hp⟩)
    have hu : Upto ops 0 (Array.replicate ops.size false) := ⟨by simp, fun j hj => by simp [hj]⟩
    have hlex := AAny_lex (ss := ss) (hc rfl) ss 0 (Array.replicate ops.size false) env H env' H' tr hr (fun k => by simp) (fun k => by simp) hu
    have hl : ss.length = ops.size := by omega
    rw [hl] at hlex
    exact AAny_sound hn hob' hQ ops.size _ env H a _ β (by simp) (hd.dom_mono (fun k hk => .inl hk)) hlex
end
end Go.Proofs.Ytffnfeefjdmifaa.Mach
namespace Go.Proofs.Ytffnfeefjdmifaa.Mach
open Go
set_option linter.unusedVariables false
set_option linter.unusedSimpArgs false
structure St where
  env : List AV
  H : Hp
  ctr : Nat
def Run (P : Program) (c : Cx) (f : FuncId) (k : List Item) (st : St) (R : Ending → World → Prop) : Prop :=
  c.n ≤ st.ctr → ∀ (b : Frame) (cs : List Frame) (a : Act) (w : World) (β : Nat → Option Addr), b.fn = f → b.kind = .normal → Rel c (fun k => k < st.ctr) st.env st.H a w β →
    ∃ e w' fr, R e w' ∧ Comes P (lone (b.at a k) cs w) (lone fr cs w') e ∧ fr.fn = f ∧ fr.leaving P w' e
inductive ScI where
  | reg (ss : List OpS)
  | dec (b : Bool)
  | loop
  | head
section
variable {P : Program} {c : Cx} {f : FuncId} {R : Ending → World → Prop}
theorem Run.step {k k' : List Item} {st : St} (h : ∀ (b : Frame) (cs : List Frame) (a : Act) (w : World), Steps P (lone (b.at a k) cs w) (lone (b.at a k') cs w)) (hr : Run P c f k' st R) : Run P c f k st R := by
  intro hn b cs a w β h1 h2 h3
  obtain ⟨e, w', fr, g1, g2, g3, g4⟩ := hr hn b cs a w β h1 h2 h3
  exact ⟨e, w', fr, g1, g2.of_steps (h b cs a w), g3, g4⟩
def runTo (P : Program) : Nat → List ScI → List Item → St → Option (List Item × St × List Prop)
  | 0, _, _, _ => none
  | fuel + 1, sc, k, st =>
    match k with
    | [] => match sc with
      | [] => some ([], st, [])
      | _ => none
    | .inBlock _ :: k => runTo P fuel sc k st
    | .inScope _ :: k => runTo P fuel sc k st
    | .inLoop body :: k => match sc with
      | .loop :: sc => runTo P fuel sc (.code body :: .inLoop body :: k) st
      | .head :: _ => some (.code body :: .inLoop body :: k, st, [])
      | _ => none
    | .code code :: k =>
      match code with
      | .seq a b => runTo P fuel sc (.code a :: .code b :: k) st
      | .skip => runTo P fuel sc k st
      | .label _ => runTo P fuel sc k st
      | .block id body => runTo P fuel sc (.code body :: .inBlock id :: k) st
      | .scope body => runTo P fuel sc (.code body :: .inScope body :: k) st
      | .exit id => match exitTo id k with
        | some k' => runTo P fuel sc k' st
        | none => none
      | .loop body => match sc with
        | .loop :: sc => runTo P fuel sc (.code body :: .inLoop body :: k) st
        | .head :: _ => some (.code body :: .inLoop body :: k, st, [])
        | _ => none
      | .cond cnd x y => match sc with
        | .dec b :: sc => match evA st.env cnd with
          | .p (.bool v) => match runTo P fuel sc (.code (if b then x else y) :: k) st with
            | some (k', st', ob) => some (k', st', (v = b) :: ob)
            | none => none
          | _ => none
        | _ => none
      | .region rid ops draw => match sc with
        | .head :: _ => some (.code (.region rid ops draw) :: k, st, [])
        | .reg ss :: sc => match runTr P ops st.ctr ss 0 st.env st.H with
          | some (env', H', tr) =>
            if !draw || chk ops tr then
              match runTo P fuel sc k ⟨env', H', st.ctr + 32 * ops.size⟩ with
              | some (k', st', ob) => some (k', st', obsOf tr ++ ob)
              | none => none
            else none
          | none => none
        | _ => none
      | .ret => match sc with
        | [] => some (.code .ret :: k, st, [])
        | _ => none
      | _ => none
    | _ => none
theorem runTo_ok (hm : P.follows .mixedOrders = true) : ∀ (fuel : Nat) (sc : List ScI) (k : List Item) (st : St) (k' : List Item) (st' : St) (ob : List Prop), runTo P fuel sc k st = some (k', st', ob) → (∀ p ∈ ob, p) →
    Run P c f k' st' R → Run P c f k st R := by
  intro fuel
  induction fuel with
  | zero => intro sc k st k' st' ob h; cases h
  | succ fuel ih =>
    intro sc k st k' st' ob h hob hr
    unfold runTo at h
    split at h
    ·
      split at h
      · cases h; exact hr
      · cases h
    · exact Run.step (fun b cs a w => .one step_inBlock) (ih _ _ _ _ _ _ h hob hr)
    · exact Run.step (fun b cs a w => .one (step_lone_go (by simp [stepG, stepG.exec, Frame.at]))) (ih _ _ _ _ _ _ h hob hr)
    · split at h
      · exact Run.step (fun b cs a w => .one step_inLoop) (ih _ _ _ _ _ _ h hob hr)
      · cases h; exact Run.step (fun b cs a w => .one step_inLoop) hr
      · cases h
    · rename_i code k
      split at h
      · exact Run.step (fun b cs a w => .one step_seq) (ih _ _ _ _ _ _ h hob hr)
      · exact Run.step (fun b cs a w => .one step_skip) (ih _ _ _ _ _ _ h hob hr)
      · exact Run.step (fun b cs a w => .one step_label) (ih _ _ _ _ _ _ h hob hr)
      · exact Run.step (fun b cs a w => .one step_block) (ih _ _ _ _ _ _ h hob hr)
      · exact Run.step (fun b cs a w => .one (step_lone_go (by simp [stepG, stepG.exec, Frame.at]))) (ih _ _ _ _ _ _ h hob hr)
      · split at h
        · rename_i k2 hk2
          exact Run.step (fun b cs a w => .one (step_exit hk2)) (ih _ _ _ _ _ _ h hob hr)
        · cases h
      · split at h
        · exact Run.step (fun b cs a w => .one step_loop) (ih _ _ _ _ _ _ h hob hr)
        · cases h; exact Run.step (fun b cs a w => .one step_loop) hr
        · cases h
      ·
        rename_i cnd x y
        split at h
        case h_2 => cases h
        rename_i b sc
        split at h
        case h_2 => cases h
        rename_i v hv
        split at h
        case h_2 => cases h
        rename_i k2 st2 ob2 h2
        simp only [Option.some.injEq, Prod.mk.injEq] at h
        obtain ⟨rfl, rfl, rfl⟩ := h
        have hvb : v = b := hob _ (by simp)
        have hrun := ih _ _ _ _ _ _ h2 (fun p hp => hob p (by simp [hp])) hr
        intro hn fr cs a w β h1 h3 hrel
        have hc := evA_ok hrel.ev cnd
        rw [hv] at hc
        have hcv : a.eval cnd = .bool b := by
          generalize a.eval cnd = z at hc
          cases hc with
          | p _ _ hp => cases hp; rw [hvb]
        obtain ⟨e, w', fr', g1, g2, g3, g4⟩ := hrun hn fr cs a w β h1 h3 hrel
        exact ⟨e, w', fr', g1, g2.of_steps (.one (step_cond hcv)), g3, g4⟩
      ·
        rename_i id ops draw
        split at h
        case h_1 => cases h; exact hr
        case h_3 => cases h
        rename_i ss sc
        split at h
        case h_2 => cases h
        rename_i env' H' tr htr
        split at h
        case isFalse => cases h
        rename_i hd
        split at h
        case h_2 => cases h
        rename_i k2 st2 ob2 h2
        simp only [Option.some.injEq, Prod.mk.injEq] at h
        obtain ⟨rfl, rfl, rfl⟩ := h
        have hrun := ih _ _ _ _ _ _ h2 (fun p hp => hob p (List.mem_append_right _ hp)) hr
        intro hn fr cs a w β h1 h3 hrel
        have hwp := region_ok (id := id) (draw := draw) (Q := fun ex a' w' => ex = .normal ∧ ∃ β', Rel c (fun k => k < st.ctr + 32 * ops.size) env' H' a' w' β') hm hn htr (fun p hp => hob p (List.mem_append_left _ hp))
          (fun h => by rw [h] at hd; simpa using hd) hrel (fun a' w' β' h => ⟨rfl, β', h⟩)
        obtain ⟨ex, a', w', ⟨rfl, β', hrel'⟩, harr⟩ := hwp fr k cs
        obtain ⟨e, w2, fr', g1, g2, g3, g4⟩ := hrun (by simp only; omega) fr cs a' w' β' h1 h3 hrel'
        exact ⟨e, w2, fr', g1, g2.of_steps harr, g3, g4⟩
      · split at h
        · cases h; exact hr
        · cases h
      · cases h
    · cases h
end
end Go.Proofs.Ytffnfeefjdmifaa.Mach
namespace Go.Proofs.Ytffnfeefjdmifaa.Mach
open Go
set_option linter.unusedVariables false
set_option linter.unusedSimpArgs false
def wkP : PV → PV → List Prop
  | .int k n, .int k' n' => if ikEq k k' then [n = n'] else [False]
  | .bool b, .bool b' => [b = b']
  | .str s, .str s' => [s = s']
  | .nil, .nil => []
  | .nil, .seq _ _ n' _ => [n' = 0]
  | .seq t z n f, .seq t' z' n' f' => if t == t' && z == z' then [n = n', ∀ i, i < n → f i = f' i] else [False]
  | .fn f, .fn f' => [f = f']
  | _, .any => []
  | _, _ => [False]
mutual
def wk : AV → AV → List Prop
  | .p v, .p v' => wkP v v'
  | .p v, .ar _ _ _ n' => match v with
    | .nil => [n' = 0]
    | _ => [False]
  | .ar z o off n, .ar z' o' off' n' => if z == z' && o == o' then [off = off', n = n'] else [False]
  | .pt z o row off, .pt z' o' row' off' => if z == z' && o == o' && off == off' then [row = row'] else [False]
  | .ip t cs, .ip t' cs' => [t = t', cs = cs']
  | .mp o, .mp o' => if o == o' then [] else [False]
  | .agg cs, .agg cs' => wkL cs cs'
  | .tup cs, .tup cs' => wkL cs cs'
  | .clo f cs, .clo f' cs' => if f == f' then wkL cs cs' else [False]
  | .cnd g v, .cnd g' v' => [g = g', AV.cnd g v = .cnd g v']
  | _, .p .any => []
  | _, _ => [False]
def wkL : List AV → List AV → List Prop
  | [], [] => []
  | v :: l, v' :: l' => wk v v' ++ wkL l l'
  | _, _ => [False]
end
theorem wkL_length : ∀ (l l' : List AV), All (wkL l l') → l.length = l'.length
  | [], [], _ => rfl
  | v :: l, v' :: l', h => by simp only [wkL] at h; simp [wkL_length l l' (All_app h).2]
  | [], _ :: _, h => by simp [wkL, All] at h
  | _ :: _, [], h => by simp [wkL, All] at h
theorem wkL_getD : ∀ (l l' : List AV) (j : Nat), All (wkL l l') → j < l.length → All (wk (l.getD j anyA) (l'.getD j anyA))
  | [], _, j, _, hj => by simp at hj
  | v :: l, v' :: l', 0, h, _ => by simp only [wkL] at h; simpa using (All_app h).1
  | v :: l, v' :: l', j + 1, h, hj => by simp only [wkL] at h; simpa using wkL_getD l l' j (All_app h).2 (by simpa using hj)
  | _ :: _, [], _, h, _ => by simp [wkL, All] at h
theorem seq_ext {w : World} {own : Bool → Nat → Prop} {t : Bool} {z n : Nat} {f f' : Nat → List PV} {x : Value} (h : PR w own (.seq t z n f) x) (hf : ∀ i, i < n → f i = f' i) : PR w own (.seq t z n f') x := by
  cases h with
  | seq0 _ _ _ a c => exact .seq0 _ _ _ _ _
  | seq _ _ _ _ b off c g hb hlt hc hcell hone hp => exact .seq _ _ _ _ b off c g hb hlt hc hcell hone (fun i hi j hj => by rw [← hf i hi]; exact hp i hi j hj)
theorem wkP_ok {w : World} {own : Bool → Nat → Prop} {v v' : PV} {x : Value} (h : PR w own v x) (ho : All (wkP v v')) : PR w own v' x := by
  unfold wkP at ho
  split at ho
  · split at ho
    · rename_i hk
      obtain rfl := ikEq_eq hk
      obtain ⟨rfl, _⟩ := ho; exact h
    · exact ho.1.elim
  · obtain ⟨rfl, _⟩ := ho; exact h
  · obtain ⟨rfl, _⟩ := ho; exact h
  · exact h
  · obtain ⟨rfl, _⟩ := ho; cases h; exact .seq0 _ _ _ _ _
  · split at ho
    · rename_i hz
      simp only [Bool.and_eq_true, beq_iff_eq] at hz
      obtain ⟨rfl, rfl⟩ := hz
      obtain ⟨rfl, hf, _⟩ := ho; exact seq_ext h hf
    · exact ho.1.elim
  · obtain ⟨rfl, _⟩ := ho; exact h
  · exact .any _
  · exact ho.1.elim
theorem wk_ok {w : World} {β : Nat → Option Addr} {own : Bool → Nat → Prop} {v : AV} {x : Value} (h : VR w β own v x) : ∀ v' : AV, All (wk v v') → VR w β own v' x := by
  induction h with
  | p u x hp =>
    intro v' ho
    cases v' <;> simp only [wk] at ho <;> try (exact ho.1.elim)
    · exact .p _ _ (wkP_ok hp ho)
    · split at ho
      · obtain ⟨rfl, _⟩ := ho
        cases hp
        exact .ar0 _ _ _ _
      · exact ho.1.elim
  | ar0 z o off a =>
    intro v' ho
    cases v' with
    | ar z' o' off' n' =>
      simp only [wk] at ho
      split at ho
      · rename_i hz
        simp only [Bool.and_eq_true, beq_iff_eq] at hz
        obtain ⟨rfl, rfl⟩ := hz
        obtain ⟨rfl, rfl, _⟩ := ho
        exact .ar0 _ _ _ _
      · exact ho.1.elim
    | p u => cases u <;> simp only [wk] at ho <;> first | exact .any _ | exact ho.1.elim
    | _ => simp only [wk] at ho; exact ho.1.elim
  | ar z o off n b base c cells elem fr hβ hh hsz hc =>
    intro v' ho
    cases v' with
    | ar z' o' off' n' =>
      simp only [wk] at ho
      split at ho
      · rename_i hz
        simp only [Bool.and_eq_true, beq_iff_eq] at hz
        obtain ⟨rfl, rfl⟩ := hz
        obtain ⟨rfl, rfl, _⟩ := ho
        exact .ar _ _ _ _ b base c cells elem fr hβ hh hsz hc
      · exact ho.1.elim
    | p u => cases u <;> simp only [wk] at ho <;> first | exact .any _ | exact ho.1.elim
    | _ => simp only [wk] at ho; exact ho.1.elim
  | pt z o row off b base hβ =>
    intro v' ho
    cases v' with
    | pt z' o' row' off' =>
      simp only [wk] at ho
      split at ho
      · rename_i hz
        simp only [Bool.and_eq_true, beq_iff_eq] at hz
        obtain ⟨⟨rfl, rfl⟩, rfl⟩ := hz
        obtain ⟨rfl, _⟩ := ho
        exact .pt _ _ _ _ b base hβ
      · exact ho.1.elim
    | p u => cases u <;> simp only [wk] at ho <;> first | exact .any _ | exact ho.1.elim
    | _ => simp only [wk] at ho; exact ho.1.elim
  | ip t cs b off g hb hlt hcell hone hp =>
    intro v' ho
    cases v' with
    | ip t' cs' =>
      simp only [wk] at ho
      obtain ⟨rfl, rfl, _⟩ := ho
      exact .ip t cs b off g hb hlt hcell hone hp
    | p u => cases u <;> simp only [wk] at ho <;> first | exact .any _ | exact ho.1.elim
    | _ => simp only [wk] at ho; exact ho.1.elim
  | mp o b hβ hm =>
    intro v' ho
    cases v' with
    | mp o' =>
      simp only [wk] at ho
      split at ho
      · rename_i hz
        have hz : o = o' := by simpa using hz
        subst hz
        exact .mp _ b hβ hm
      · exact ho.1.elim
    | p u => cases u <;> simp only [wk] at ho <;> first | exact .any _ | exact ho.1.elim
    | _ => simp only [wk] at ho; exact ho.1.elim
  | agg cs vs hl hone h ih =>
    intro v' ho
    cases v' with
    | agg cs' =>
      simp only [wk] at ho
      have hlen := wkL_length _ _ ho
      exact .agg _ _ (by omega) (fun j hj => hone j (by omega)) (fun j hj => ih j (by omega) _ (wkL_getD _ _ j ho (by omega)))
    | p u => cases u <;> simp only [wk] at ho <;> first | exact .any _ | exact ho.1.elim
    | _ => simp only [wk] at ho; exact ho.1.elim
  | tup cs vs hl h ih =>
    intro v' ho
    cases v' with
    | tup cs' =>
      simp only [wk] at ho
      have hlen := wkL_length _ _ ho
      exact .tup _ _ (by omega) (fun j hj => ih j (by omega) _ (wkL_getD _ _ j ho (by omega)))
    | p u => cases u <;> simp only [wk] at ho <;> first | exact .any _ | exact ho.1.elim
    | _ => simp only [wk] at ho; exact ho.1.elim
  | clo f cs vs hl h ih =>
    intro v' ho
    cases v' with
    | clo f' cs' =>
      simp only [wk] at ho
      split at ho
      · rename_i hz
        have hz : f = f' := by simpa using hz
        subst hz
        have hlen := wkL_length _ _ ho
        exact .clo _ _ _ (by omega) (fun j hj => ih j (by omega) _ (wkL_getD _ _ j ho (by omega)))
      · exact ho.1.elim
    | p u => cases u <;> simp only [wk] at ho <;> first | exact .any _ | exact ho.1.elim
    | _ => simp only [wk] at ho; exact ho.1.elim
  | cnd g v x h h' ih =>
    intro v' ho
    cases v' with
    | cnd g' v' =>
      simp only [wk] at ho
      obtain ⟨rfl, he, _⟩ := ho
      rw [← he]
      exact .cnd g v x h h'
    | p u => cases u <;> simp only [wk] at ho <;> first | exact .any _ | exact ho.1.elim
    | _ => simp only [wk] at ho; exact ho.1.elim
def cvS (H : Hp) (keep : List Nat) (d : Nat) : List AV → List AV → List Prop
  | _, [] => []
  | [], _ :: _ => [False]
  | s :: l, t :: l' =>
    (match t with
     | .p .any => []
     | _ => (cvt false H keep d s).2 ++ wk (cvt false H keep d s).1 t) ++ cvS H keep d l l'
def cvH (H : Hp) (keep : List Nat) (d : Nat) : Hp → List Prop
  | [] => []
  | (k, ob') :: r =>
    (match keep[k]? with
     | some o => (match H.lookup o with
       | some ob =>
         (match ob'.z with
          | 0 => [ob'.n = ob.n, ob.bx = false, ob'.bx = false]
          | _ + 1 => []) ++
         (match ob'.bx with
          | true => [ob.z = ob'.z, ob'.n ≤ ob.n, ob'.n ≤ 1] ++ ((cvtL false H keep d (ob.f 0)).2 ++ wkL (cvtL false H keep d (ob.f 0)).1 (ob'.f 0))
          | false => [ob.z = ob'.z, ob'.n ≤ ob.n, ∀ i, i < ob'.n → All ((cvtL false H keep d (ob.f i)).2) ∧ (cvtL false H keep d (ob.f i)).1 = ob'.f i])
       | none => [False])
     | none => [ob'.n = 0]) ++ cvH H keep d r
def keepB (n m : Nat) (keep : List Nat) (H' : Hp) : Bool := (List.range n).all fun k => keep[k]? == some k || ((H'.lookup k).isNone && match keep[k]? with
  | some q => Nat.ble m q
  | none => false)
def convOb (n : Nat) (st : St) (keep : List Nat) (d : Nat) (st' : St) : List Prop :=
  (if keepB n st.ctr keep st'.H && nodupB keep && Nat.ble keep.length st'.ctr && Nat.ble n st'.ctr && st'.H.all (fun e => Nat.blt e.1 st'.ctr) then [] else [False]) ++ cvS st.H keep d st.env st'.env ++ cvH st.H keep d st'.H
theorem cvS_ok {H : Hp} {keep : List Nat} {d : Nat} : ∀ (l l' : List AV), All (cvS H keep d l l') → l'.length ≤ l.length ∧ ∀ j, l'.getD j anyA = anyA ∨ (All (cvt false H keep d (l.getD j anyA)).2 ∧ All (wk (cvt false H keep d (l.getD j anyA)).1 (l'.getD j anyA)))
  | l, [], _ => ⟨by simp, fun j => .inl (by simp)⟩
  | [], t :: l', h => by simp [cvS, All] at h
  | s :: l, t :: l', h => by
    simp only [cvS] at h
    obtain ⟨h1, h2⟩ := All_app h
    obtain ⟨g1, g2⟩ := cvS_ok l l' h2
    refine ⟨by simpa using g1, fun j => ?_⟩
    cases j with
    | zero =>
      simp only [List.getD_cons_zero]
      split at h1
      · exact .inl rfl
      · exact .inr (All_app h1)
    | succ j => simpa using g2 j
theorem cvH_ok {H : Hp} {keep : List Nat} {d : Nat} : ∀ (H' : Hp), All (cvH H keep d H') → ∀ k ob', H'.lookup k = some ob' → (keep[k]? = none ∧ ob'.n = 0) ∨ ∃ o ob, keep[k]? = some o ∧ H.lookup o = some ob ∧ ob.z = ob'.z ∧ ob'.n ≤ ob.n ∧
    (∀ i, i < ob'.n → All ((cvtL false H keep d (ob.f i)).2) ∧ ∀ j, (cvtL false H keep d (ob.f i)).1.getD j anyA = (ob'.f i).getD j anyA ∨ All (wk ((cvtL false H keep d (ob.f i)).1.getD j anyA) ((ob'.f i).getD j anyA))) ∧
      (ob'.z = 0 → ob'.n = ob.n ∧ ob'.bx = false ∧ ∀ i, i < ob'.n → (cvtL false H keep d (ob.f i)).1 = ob'.f i)
  | [], _, k, ob', h => by simp at h
  | (j, x) :: r, ha, k, ob', h => by
    simp only [cvH] at ha
    obtain ⟨h1, h2⟩ := All_app ha
    simp only [List.lookup_cons] at h
    by_cases hk : k = j
    · subst hk
      simp only [beq_self_eq_true, Option.some.injEq] at h
      subst h
      split at h1
      · rename_i o hkk
        split at h1
        · rename_i ob hob
          obtain ⟨h0, h1⟩ := All_app h1
          have hz : x.z = 0 → x.n = ob.n ∧ x.bx = false := by
            intro hz
            rw [hz] at h0
            exact ⟨h0.1, h0.2.2.1⟩
          split at h1
          · rename_i hbx
            obtain ⟨⟨g1, g2, g3, _⟩, g5⟩ := All_app h1
            obtain ⟨g6, g7⟩ := All_app g5
            refine .inr ⟨o, ob, hkk, hob, g1, g2, fun i hi => ?_, fun h => by have := (hz h).2; rw [hbx] at this; cases this⟩
            obtain rfl : i = 0 := by omega
            refine ⟨g6, fun j => ?_⟩
            by_cases hj : j < (cvtL false H keep d (ob.f 0)).1.length
            · exact .inr (wkL_getD _ _ j g7 hj)
            · have hl := wkL_length _ _ g7
              left
              rw [List.getD_eq_getElem?_getD, List.getD_eq_getElem?_getD, List.getElem?_eq_none (by omega), List.getElem?_eq_none (by omega)]
          · obtain ⟨g1, g2, g3, _⟩ := h1
            exact .inr ⟨o, ob, hkk, hob, g1, g2, fun i hi => ⟨(g3 i hi).1, fun j => .inl (by rw [(g3 i hi).2])⟩, fun h => ⟨(hz h).1, (hz h).2, fun i hi => (g3 i hi).2⟩⟩
        · exact h1.1.elim
      · rename_i hkk
        exact .inl ⟨hkk, h1.1⟩
    · have : (k == j) = false := by simpa using hk
      rw [this] at h
      exact cvH_ok r h2 k ob' h
section
variable {P : Program} {c : Cx} {f : FuncId} {R : Ending → World → Prop}
theorem Rel.conv0 {dom : Nat → Prop} {env env' : List AV} {H H' : Hp} {a : Act} {w : World} {β : Nat → Option Addr} {keep : List Nat} {d : Nat} (h : Rel c dom env H a w β)
    (hnd : keep.Nodup) (hS : All (cvS H keep d env env')) (hH : All (cvH H keep d H')) :
    Rel { c with n := 0 } (fun k => k < keep.length ∨ H'.lookup k ≠ none) env' H' a w (subβ β keep) ∧
      ∀ (x : AV) (v : Value) (x' : AV), VR w β (ow c.X β H) x v → All (cvt false H keep d x).2 → All (wk (cvt false H keep d x).1 x') → VR w (subβ β keep) (ow c.X (subβ β keep) H') x' v := by
  have hh := cvH_ok H' hH
  have cls : ∀ b, ownOf (subβ β keep) H' b → ∃ (k o : Nat) (ob : Ob) (a : Addr), keep[k]? = some o ∧ H.lookup o = some ob ∧ β o = some a ∧ a.block = b := by
    rintro b ⟨k, ob', a, h1, h2, h3⟩
    rcases hh k ob' h1 with ⟨q1, _⟩ | ⟨o, ob, g1, g2, _⟩
    · simp [subβ, q1] at h2
    have : β o = some a := by simpa [subβ, g1] using h2
    exact ⟨k, o, ob, a, g1, g2, this, h3⟩
  have own_own : ∀ b, ownOf (subβ β keep) H' b → ownOf β H b := by
    intro b hb
    obtain ⟨k, o, ob, a, g1, g2, g3, g4⟩ := cls b hb
    exact ⟨o, ob, a, g2, g3, g4⟩
  have hc : ∀ t b, ow c.X (subβ β keep) H' t b → ow c.X β H t b := fun t b h => h.imp (own_own b) id
  have hc' : ∀ t b, ow c.X (subβ β keep) H' true b → ow c.X β H t b := by
    rintro t b (h | ⟨h, _⟩)
    · exact .inl (own_own b h)
    · cases h
  have hfree : ∀ o ob a, H.lookup o = some ob → idx o keep 0 = none → β o = some a → ¬ ow c.X (subβ β keep) H' false a.block := by
    rintro o ob a h1 h2 h3 (h' | ⟨_, h'⟩)
    · obtain ⟨k, o', ob', a', g1, g2, g3, g4⟩ := cls _ h'
      have : o' = o := h.sep o' o ob' ob a' a g2 h1 g3 h3 g4
      subst this
      exact idx_none keep 0 h2 (List.mem_of_getElem? g1)
    · exact (h.xs _ h').2 ⟨o, ob, a, h1, h3, rfl⟩
  have cv := fun (x : AV) (v : Value) (hv : VR w β (ow c.X β H) x v) (hb : All (cvt false H keep d x).2) => cvt_ok (t := false) (L := H) (pass := keep) h.hr (fun _ _ h => h) hc hc' hfree d x v hv hb
  have ext : Ext w (ow c.X β H) w (ow c.X (subβ β keep) H') := Ext.sub hc
  obtain ⟨hl, hs⟩ := cvS_ok env env' hS
  refine ⟨⟨?_, ?_, fun t => ?_, Nat.le_trans hl h.len, h.dfr, fun k hk' => ?_, h.ext.trans ext, fun b hb => ⟨(h.xs b hb).1, fun ho => (h.xs b hb).2 (own_own b ho)⟩, fun b hb => h.own b (own_own b hb), fun k hk' => ?_⟩, ?_⟩
  · intro k ob' hk'
    rcases hh k ob' hk' with ⟨q1, q2⟩ | ⟨o, ob, g1, g2, g3, g4, g5, g6⟩
    · exact .inl ⟨by simp [subβ, q1], q2⟩
    have hβ : subβ β keep k = β o := by simp [subβ, g1]
    rcases h.hr o ob g2 with h' | ⟨b, base, cells, elem, h1, h2, h3⟩ | ⟨m1, m2, b, es, ck, m3, m4, m5, K, V, m6⟩
    rotate_left 2
    · obtain ⟨n1, n2, n3⟩ := g6 (by omega)
      refine .inr (.inr ⟨by omega, n2, b, es, ck, by rw [hβ]; exact m3, m4, by omega, K, V, fun i hi => ⟨?_, (m6 i (by omega)).2⟩⟩)
      rw [← n3 i hi, (m6 i (by omega)).1]
      simp [cvtL, cvt, tg]
    · exact .inl ⟨by rw [hβ]; exact h'.1, by omega⟩
    · refine .inr (.inl ⟨b, base, cells, elem, by rw [hβ]; exact h1, h2, fun i hi j hj => ?_⟩)
      obtain ⟨v, k1, k2, k3⟩ := h3 i (by omega) j (by omega)
      rw [g3] at k1
      refine ⟨v, k1, k2, ?_⟩
      obtain ⟨m1, m2⟩ := g5 i hi
      have hcv := cv _ v k3 (cvtL_ob false H keep d _ j m1)
      rw [← cvtL_getD] at hcv
      rcases m2 j with m2 | m2
      · rw [← m2]; exact hcv
      · exact wk_ok hcv _ m2
  · intro k k' ob ob' a1 a2 h1 h2 h3 h4 h5
    rcases hh k ob h1 with ⟨q1, _⟩ | ⟨o, ob0, g1, g2, _⟩
    · simp [subβ, q1] at h3
    rcases hh k' ob' h2 with ⟨q1, _⟩ | ⟨o', ob0', g1', g2', _⟩
    · simp [subβ, q1] at h4
    have e1 : β o = some a1 := by simpa [subβ, g1] using h3
    have e2 : β o' = some a2 := by simpa [subβ, g1'] using h4
    have := h.sep o o' ob0 ob0' a1 a2 g2 g2' e1 e2 h5
    subst this
    exact nodup_inj hnd g1 g1'
  · rcases hs t with h' | ⟨h1, h2⟩
    · rw [h']; exact .any _
    · exact wk_ok (cv _ _ (h.ev t) h1) _ h2
  · rcases hk' with hk' | hk'
    · left
      by_cases hlt : k < keep.length
      · exact hlt
      · exfalso
        apply hk'
        simp [subβ, List.getElem?_eq_none (Nat.le_of_not_lt hlt)]
    · exact .inr hk'
  · exact absurd hk' (Nat.not_lt_zero _)
  · intro x v x' hv h1 h2
    exact wk_ok (cv x v hv h1) x' h2
def rebβ (c : Cx) (β : Nat → Option Addr) (keep : List Nat) (k : Nat) : Option Addr := if k < c.n then c.β0 k else subβ β keep k
theorem own_agree {β β' : Nat → Option Addr} {H : Hp} (h : ∀ k, H.lookup k ≠ none → β k = β' k) (b : Nat) : ownOf β H b ↔ ownOf β' H b := by
  constructor
  · rintro ⟨o, ob, a, h1, h2, h3⟩
    exact ⟨o, ob, a, h1, by rw [← h o (by rw [h1]; simp)]; exact h2, h3⟩
  · rintro ⟨o, ob, a, h1, h2, h3⟩
    exact ⟨o, ob, a, h1, by rw [h o (by rw [h1]; simp)]; exact h2, h3⟩
theorem Rel.conv {dom : Nat → Prop} {env env' : List AV} {H H' : Hp} {a : Act} {w : World} {β : Nat → Option Addr} {keep : List Nat} {d m : Nat} (h : Rel c dom env H a w β) (hm : ∀ k, m ≤ k → ¬ dom k)
    (hk : keepB c.n m keep H' = true) (hnd : keep.Nodup) (hS : All (cvS H keep d env env')) (hH : All (cvH H keep d H')) :
    Rel c (fun k => k < keep.length ∨ H'.lookup k ≠ none) env' H' a w (rebβ c β keep) ∧
      ∀ (x : AV) (v : Value) (x' : AV), VR w β (ow c.X β H) x v → All (cvt false H keep d x).2 → All (wk (cvt false H keep d x).1 x') → VR w (rebβ c β keep) (ow c.X (rebβ c β keep) H') x' v := by
  obtain ⟨r, rv⟩ := h.conv0 hnd hS hH
  have hkk : ∀ k, k < c.n → keep[k]? = some k ∨ (H'.lookup k = none ∧ ∃ q, keep[k]? = some q ∧ m ≤ q) := by
    intro k hk'
    simp only [keepB, List.all_eq_true, List.mem_range, Bool.or_eq_true, Bool.and_eq_true, beq_iff_eq, Option.isNone_iff_eq_none] at hk
    rcases hk k hk' with h1 | ⟨h1, h2⟩
    · exact .inl h1
    · refine .inr ⟨h1, ?_⟩
      split at h2
      · rename_i q hq
        exact ⟨q, hq, by simpa using h2⟩
      · cases h2
  have sub : ∀ k a, subβ β keep k = some a → rebβ c β keep k = some a := by
    intro k a hs
    unfold rebβ
    by_cases hkn : k < c.n
    · rw [if_pos hkn]
      rcases hkk k hkn with h1 | ⟨_, q, h1, h2⟩
      · rw [← h.init k hkn]
        simpa [subβ, h1] using hs
      · have hq : β q = some a := by simpa [subβ, h1] using hs
        exact absurd (h.dom q (.inl (by rw [hq]; simp))) (hm q h2)
    · rw [if_neg hkn]; exact hs
  have agree : ∀ k, H'.lookup k ≠ none → subβ β keep k = rebβ c β keep k := by
    intro k hl
    unfold rebβ
    by_cases hkn : k < c.n
    · rw [if_pos hkn]
      rcases hkk k hkn with h1 | ⟨h1, _⟩
      · rw [← h.init k hkn]
        simp [subβ, h1]
      · exact absurd h1 hl
    · rw [if_neg hkn]
  have hown : ∀ t b, ow c.X (rebβ c β keep) H' t b → ow c.X (subβ β keep) H' t b := fun t b hb => hb.imp (own_agree agree b).2 id
  have hown2 : ∀ t b, ow c.X (subβ β keep) H' t b → ow c.X (rebβ c β keep) H' t b := fun t b hb => hb.imp (own_agree agree b).1 id
  have tr : ∀ (x : AV) (v : Value), VR w (subβ β keep) (ow c.X (subβ β keep) H') x v → VR w (rebβ c β keep) (ow c.X (rebβ c β keep) H') x v := fun x v hv => hv.ext (Ext.sub hown) (fun o a ho => sub o a ho)
  refine ⟨⟨fun o ob hl => ?_, fun o o' ob ob' a a' h1 h2 h3 h4 h5 => ?_, fun t => tr _ _ (r.ev t), r.len, r.dfr, fun k hk' => ?_, ?_, fun b hb => ⟨(r.xs b hb).1, fun ho => (r.xs b hb).2 ((own_agree agree b).2 ho)⟩, fun b hb => r.own b ((own_agree agree b).2 hb), fun k hk' => ?_⟩, fun x v x' hv h1 h2 => tr _ _ (rv x v x' hv h1 h2)⟩
  · have hb := agree o (by rw [hl]; simp)
    rcases r.hr o ob hl with h' | ⟨b, base, cells, elem, h1, h2, h3⟩ | ⟨m1, m2, b, es, ck, m3, m4⟩
    · exact .inl ⟨by rw [← hb]; exact h'.1, h'.2⟩
    · exact .inr (.inl ⟨b, base, cells, elem, by rw [← hb]; exact h1, h2, fun i hi j hj => by
        obtain ⟨v, k1, k2, k3⟩ := h3 i hi j hj
        exact ⟨v, k1, k2, tr _ _ k3⟩⟩)
    · exact .inr (.inr ⟨m1, m2, b, es, ck, by rw [← hb]; exact m3, m4⟩)
  · rw [← agree o (by rw [h1]; simp)] at h3
    rw [← agree o' (by rw [h2]; simp)] at h4
    exact r.sep o o' ob ob' a a' h1 h2 h3 h4 h5
  · rcases hk' with hk' | hk'
    · unfold rebβ at hk'
      by_cases hkn : k < c.n
      · left
        rcases hkk k hkn with h1 | ⟨_, q, h1, _⟩
        · exact (List.getElem?_eq_some_iff.1 h1).1
        · exact (List.getElem?_eq_some_iff.1 h1).1
      · rw [if_neg hkn] at hk'
        exact r.dom k (.inl hk')
    · exact .inr hk'
  · exact r.ext.trans (Ext.sub hown)
  · unfold rebβ
    rw [if_pos hk']
theorem conv_ok {k : List Item} {st st' : St} (keep : List Nat) (d : Nat) (hob : All (convOb c.n st keep d st')) (hr : Run P c f k st' R) : Run P c f k st R := by
  unfold convOb at hob
  obtain ⟨h12, h3⟩ := All_app hob
  obtain ⟨h1, h2⟩ := All_app h12
  split at h1
  case isFalse => exact h1.1.elim
  rename_i hz
  simp only [Bool.and_eq_true, Nat.ble_eq, List.all_eq_true, Nat.blt_eq] at hz
  obtain ⟨⟨⟨⟨z1, z2⟩, z3⟩, z4⟩, z5⟩ := hz
  intro hn b cs a w β hb1 hb2 hrel
  obtain ⟨hrel', _⟩ := hrel.conv (m := st.ctr) (fun k h1 h2 => absurd h2 (by omega)) z1 (nodupB_ok z2) h2 h3
  refine hr z4 b cs a w _ hb1 hb2 (hrel'.dom_mono (fun k hk => ?_))
  rcases hk with hk | hk
  · omega
  · cases hl : st'.H.lookup k with
    | none => exact absurd hl hk
    | some ob =>
      have : (k, ob) ∈ st'.H := by
        have := List.lookup_eq_some_iff.1 hl
        obtain ⟨l1, l2, h, _⟩ := this
        rw [h]; simp
      exact z5 _ this
end
end Go.Proofs.Ytffnfeefjdmifaa.Mach
namespace Go.Proofs.Ytffnfeefjdmifaa.Mach
open Go
set_option linter.unusedVariables false
set_option linter.unusedSimpArgs false
mutual
def ntP : PV → List Prop
  | .seq t _ n f => [t = false, ∀ i, i < n → All (ntL (f i))]
  | .any => []
  | .int _ _ => []
  | .bool _ => []
  | .str _ => []
  | .nil => []
  | .fn _ => []
def ntL : List PV → List Prop
  | [] => []
  | v :: l => ntP v ++ ntL l
end
mutual
def ntA : AV → List Prop
  | .p v => ntP v
  | .ar _ _ _ _ => []
  | .pt _ _ _ _ => []
  | .ip _ _ => [False]
  | .mp _ => []
  | .agg cs => ntAL cs
  | .tup cs => ntAL cs
  | .clo _ cs => ntAL cs
  | .cnd _ _ => [False]
def ntAL : List AV → List Prop
  | [] => []
  | v :: l => ntA v ++ ntAL l
end
theorem ntL_getD : ∀ (l : List PV) (j : Nat), All (ntL l) → All (ntP (l.getD j .any))
  | [], j, _ => by simp [ntP, All]
  | v :: l, 0, h => by simp only [ntL] at h; simpa using (All_app h).1
  | v :: l, j + 1, h => by simp only [ntL] at h; simpa using ntL_getD l j (All_app h).2
theorem ntAL_getD : ∀ (l : List AV) (j : Nat), All (ntAL l) → All (ntA (l.getD j anyA))
  | [], j, _ => by simp [ntA, ntP, All]
  | v :: l, 0, h => by simp only [ntAL] at h; simpa using (All_app h).1
  | v :: l, j + 1, h => by simp only [ntAL] at h; simpa using ntAL_getD l j (All_app h).2
section
variable {X : Nat → Prop} {w : World} {β : Nat → Option Addr} {H : Hp}
theorem ntP_ok {v : PV} {x : Value} (h : PR w (ow X β H) v x) : All (ntP v) → PR w (fr X β H) v x := by
  induction h with
  | any x => exact fun _ => .any x
  | int k n => exact fun _ => .int k n
  | bool b => exact fun _ => .bool b
  | str s => exact fun _ => .str s
  | nil => exact fun _ => .nil
  | seq0 t z f a c => exact fun _ => .seq0 _ _ _ _ _
  | seq t z n f b off c g hb hlt hc hcell hone h ih =>
    intro ho
    simp only [ntP] at ho
    obtain ⟨rfl, ho, _⟩ := ho
    exact .seq _ _ _ _ b off c g (fun h => h.elim (fun h => by cases h) hb) hlt hc hcell hone (fun i hi j hj => ih i hi j hj (ntL_getD _ j (ho i hi)))
  | fn f => exact fun _ => .fn f
theorem ntA_ok {v : AV} {x : Value} (h : VR w β (ow X β H) v x) : All (ntA v) → VR w β (fr X β H) v x := by
  induction h with
  | p v x h => exact fun ho => .p _ _ (ntP_ok h ho)
  | ar0 z o off a => exact fun _ => .ar0 _ _ _ _
  | ar z o off n b base c cells elem fr hβ hh hsz hc => exact fun _ => .ar _ _ _ _ b base c cells elem fr hβ hh hsz hc
  | pt z o row off b base hβ => exact fun _ => .pt _ _ _ _ b base hβ
  | ip t cs b off g hb hlt hcell hone hp => intro ho; simp only [ntA] at ho; exact ho.1.elim
  | mp o b hβ hm => exact fun _ => .mp _ b hβ hm
  | agg cs vs hl hone h ih => intro ho; simp only [ntA] at ho; exact .agg _ _ hl hone (fun j hj => ih j hj (ntAL_getD _ j ho))
  | tup cs vs hl h ih => intro ho; simp only [ntA] at ho; exact .tup _ _ hl (fun j hj => ih j hj (ntAL_getD _ j ho))
  | clo f cs vs hl h ih => intro ho; simp only [ntA] at ho; exact .clo _ _ _ hl (fun j hj => ih j hj (ntAL_getD _ j ho))
  | cnd g v x h h' ih => intro ho; simp only [ntA] at ho; exact ho.1.elim
end
def cAt : Code → List Nat → Code
  | c, [] => c
  | .seq a _, 0 :: p => cAt a p
  | .seq _ b, _ :: p => cAt b p
  | .cond _ a _, 0 :: p => cAt a p
  | .cond _ _ b, _ :: p => cAt b p
  | .block _ a, _ :: p => cAt a p
  | .loop a, _ :: p => cAt a p
  | .scope a, _ :: p => cAt a p
  | c, _ => c
def resVals (P : Program) (env : List AV) (H : Hp) : List ResultVar → Option (List AV × List Prop)
  | [] => some ([], [])
  | .tmp t :: r => (resVals P env H r).map fun x => (env.getD t anyA :: x.1, x.2)
  | .cell a t :: r =>
    match evLoad P H t (env.getD a anyA) with
    | some e => (resVals P env H r).map fun x => (e.v :: x.1, e.ob ++ x.2)
    | none => none
def resV (P : Program) (env : List AV) (H : Hp) (rs : List ResultVar) : Option (AV × List Prop) :=
  (resVals P env H rs).map fun x => (match x.1 with | [v] => v | vs => .tup vs, x.2)
def ntH : Hp → List Prop
  | [] => []
  | (_, ob) :: r => (∀ i, i < ob.n → All (ntAL (ob.f i))) :: ntH r
def retOb (n : Nat) (P : Program) (rs : List ResultVar) (st : St) (keep : List Nat) (d : Nat) (H' : Hp) (res : AV) : List Prop :=
  match resV P st.env st.H rs with
  | some x =>
    (if keepB n st.ctr keep H' && nodupB keep && Nat.ble keep.length (n + 32) then [] else [False]) ++ x.2 ++ (cvt false st.H keep d x.1).2 ++ wk (cvt false st.H keep d x.1).1 res ++ cvH st.H keep d H' ++ ntA res ++ ntH H'
  | none => [False]
def Post (c : Cx) (H' : Hp) (res : AV) : Ending → World → Prop := fun e w' => ∃ v β', e = .returned v ∧ HR w' β' (fr c.X β' H') H' ∧ Sep β' H' ∧ VR w' β' (fr c.X β' H') res v ∧
  Ext c.w0 (ow c.X c.β0 c.H0) w' (ow c.X β' H') ∧ (∀ o, o < c.n → β' o = c.β0 o) ∧ (∀ b, ownOf β' H' b → ownOf c.β0 c.H0 b ∨ c.w0.heap.size ≤ b) ∧ ∀ k, β' k ≠ none → k < c.n + 32
section
variable {P : Program} {c : Cx} {f : FuncId}
def resOne (tmps : Array Value) : ResultVar → Sem Value
  | .tmp t => pure (tmps.getD t undef)
  | .cell at_ t => do loadVar t (← asAddr (tmps.getD at_ undef))
theorem resVals_ok {dom : Nat → Prop} {env : List AV} {H : Hp} {a : Act} {w : World} {β : Nat → Option Addr} (h : Rel c dom env H a w β) : ∀ (rs : List ResultVar) (vs : List AV) (ob : List Prop), resVals P env H rs = some (vs, ob) → (∀ p ∈ ob, p) →
    ∃ xs : List Value, (rs.mapM (resOne a.tmps) : Sem (List Value)).run P w = .ok xs w ∧ vs.length = xs.length ∧
      ∀ j, j < vs.length → VR w β (ow c.X β H) (vs.getD j anyA) (xs.getD j undef)
  | [], vs, ob, hr, _ => by
    simp only [resVals, Option.some.injEq, Prod.mk.injEq] at hr
    obtain ⟨rfl, rfl⟩ := hr
    exact ⟨[], by simp, rfl, fun j hj => by simp at hj⟩
  | .tmp t :: r, vs, ob, hr, hob => by
    simp only [resVals] at hr
    cases hr2 : resVals P env H r with
    | none => rw [hr2] at hr; cases hr
    | some x =>
      rw [hr2] at hr
      simp only [Option.map_some, Option.some.injEq, Prod.mk.injEq] at hr
      obtain ⟨rfl, rfl⟩ := hr
      obtain ⟨xs, g1, g2, g3⟩ := resVals_ok h r x.1 x.2 hr2 hob
      refine ⟨a.tmps.getD t undef :: xs, by simp only [List.mapM_cons, resOne, Sem.run_bind, Sem.run_pure, Result.andThen_ok, g1], by simp [g2], fun j hj => ?_⟩
      cases j with
      | zero => simpa using h.ev t
      | succ j => simpa using g3 j (by simpa using hj)
  | .cell at_ t :: r, vs, ob, hr, hob => by
    simp only [resVals] at hr
    split at hr
    case h_2 => cases hr
    rename_i e he
    cases hr2 : resVals P env H r with
    | none => rw [hr2] at hr; cases hr
    | some x =>
      rw [hr2] at hr
      simp only [Option.map_some, Option.some.injEq, Prod.mk.injEq] at hr
      obtain ⟨rfl, rfl⟩ := hr
      obtain ⟨xs, g1, g2, g3⟩ := resVals_ok h r x.1 x.2 hr2 (fun p hp => hob p (List.mem_append_right _ hp))
      obtain ⟨_, v, h1, h2⟩ := evLoad_ok (P := P) h.hr h.sep (fun _ _ h => h) he (fun p hp => hob p (List.mem_append_left _ hp)) (h.ev at_)
      have h1' : (do loadVar t (← asAddr (a.tmps.getD at_ undef)) : Sem Value).run P w = .ok v w := by
        generalize a.tmps.getD at_ undef = y at h1
        cases y with
        | pointer p =>
          cases p with
          | none => simp [Instr.loadAt, Instr.sureAddr] at h1
          | some p => simpa [Instr.loadAt, Instr.sureAddr, asAddr] using h1
        | _ => simp [Instr.loadAt, Instr.sureAddr] at h1
      refine ⟨v :: xs, by
        rw [List.mapM_cons, Sem.run_bind]
        show ((do loadVar t (← asAddr (a.tmps.getD at_ undef)) : Sem Value).run P w).andThen _ = _
        rw [h1']
        simp only [Sem.run_bind, Sem.run_pure, Result.andThen_ok, g1], by simp [g2], fun j hj => ?_⟩
      cases j with
      | zero => simpa using h2
      | succ j => simpa using g3 j (by simpa using hj)
theorem ret_rel {st : St} {a : Act} {w : World} {β : Nat → Option Addr} {fn : Func} {keep : List Nat} {d : Nat} {H' : Hp} {res : AV} (h : Rel c (fun k => k < st.ctr) st.env st.H a w β)
    (hob : All (retOb c.n P fn.results.toList st keep d H' res)) : ∃ v, (results fn a.tmps).run P w = .ok v w ∧ Post c H' res (.returned v) w := by
  unfold retOb at hob
  split at hob
  case h_2 => exact hob.1.elim
  rename_i x hx
  obtain ⟨hob, o7⟩ := All_app hob
  obtain ⟨hob, o6⟩ := All_app hob
  obtain ⟨hob, o5⟩ := All_app hob
  obtain ⟨hob, o4⟩ := All_app hob
  obtain ⟨hob, o3⟩ := All_app hob
  obtain ⟨o1, o2⟩ := All_app hob
  split at o1
  case isFalse => exact o1.1.elim
  rename_i hz
  simp only [Bool.and_eq_true, Nat.ble_eq] at hz
  obtain ⟨⟨z1, z2⟩, z3⟩ := hz
  unfold resV at hx
  cases hr : resVals P st.env st.H fn.results.toList with
  | none => rw [hr] at hx; cases hx
  | some y =>
    rw [hr] at hx
    simp only [Option.map_some, Option.some.injEq] at hx
    subst hx
    obtain ⟨xs, g1, g2, g3⟩ := resVals_ok (P := P) h _ y.1 y.2 hr ((All_iff _).1 o2)
    obtain ⟨hrel, hval⟩ := h.conv (H' := H') (env' := []) (keep := keep) (d := d) (m := st.ctr) (fun k h1 h2 => absurd h2 (by omega)) z1 (nodupB_ok z2) (by cases st.env <;> exact trivial) o5
    have hrun : (results fn a.tmps).run P w = .ok (if h : xs.toArray.size = 1 then xs.toArray[0] else .tuple xs.toArray) w := by
      have hfun : results fn a.tmps = (do let vs ← fn.results.mapM (resOne a.tmps); pure (if h : vs.size = 1 then vs[0] else .tuple vs)) := rfl
      rw [hfun, Array.mapM_eq_mapM_toList]
      simp only [Sem.run_bind, Sem.run_map, Result.andThen_ok, Sem.run_pure, g1]
    refine ⟨_, hrun, ?_⟩
    have hv : VR w β (ow c.X β st.H) (match y.1 with | [v] => v | vs => .tup vs) (if h : xs.toArray.size = 1 then xs.toArray[0] else .tuple xs.toArray) := by
      split
      · rename_i v hv
        rw [hv] at g2 g3
        have h1 : xs.toArray.size = 1 := by simpa using g2.symm
        rw [dif_pos h1]
        have := g3 0 (by simp)
        cases xs with
        | nil => simp at g2
        | cons x xs => simpa using this
      · rename_i hne
        have h1 : ¬ xs.toArray.size = 1 := by
          intro h1
          have : y.1.length = 1 := by rw [g2]; simpa using h1
          obtain ⟨v, hv⟩ := List.length_eq_one_iff.1 this
          exact hne v hv
        rw [dif_neg h1]
        exact .tup _ _ (by simpa using g2) (fun j hj => by
          have := g3 j hj
          simpa [Array.getD_eq_getD_getElem?, List.getD_eq_getElem?_getD] using this)
    have hres := hval _ _ res hv o3 o4
    refine ⟨_, rebβ c β keep, rfl, ?_, hrel.sep, ntA_ok hres o6, hrel.ext, hrel.init, hrel.own, fun k hk => ?_⟩
    · intro k ob hk
      rcases hrel.hr k ob hk with h' | ⟨b, base, cells, elem, h1, h2, h3⟩ | h'
      rotate_left 2
      · exact .inr (.inr h')
      · exact .inl h'
      · refine .inr (.inl ⟨b, base, cells, elem, h1, h2, fun i hi j hj => ?_⟩)
        obtain ⟨v, k1, k2, k3⟩ := h3 i hi j hj
        have hnt : ∀ (l : Hp), All (ntH l) → ∀ k ob, l.lookup k = some ob → ∀ i, i < ob.n → All (ntAL (ob.f i)) := by
          intro l
          induction l with
          | nil => intro _ k ob h; simp at h
          | cons e r ih =>
            obtain ⟨j, y⟩ := e
            intro ha k ob h
            simp only [List.lookup_cons] at h
            by_cases hkj : k = j
            · subst hkj
              simp only [beq_self_eq_true, Option.some.injEq] at h
              subst h
              exact ha.1
            · have : (k == j) = false := by simpa using hkj
              rw [this] at h
              exact ih ha.2 k ob h
        exact ⟨v, k1, k2, ntA_ok k3 (ntAL_getD _ j (hnt H' o7 k ob hk i hi))⟩
    · unfold rebβ at hk
      by_cases hkn : k < c.n
      · omega
      · rw [if_neg hkn] at hk
        have : k < keep.length := by
          by_cases hlt : k < keep.length
          · exact hlt
          · exfalso
            apply hk
            simp [subβ, List.getElem?_eq_none (Nat.le_of_not_lt hlt)]
        omega
theorem ret_ok {fn : Func} (hf : P.funcs[f]? = some fn) {k : List Item} (hk : k = [] ∨ ∃ k', k = .code .ret :: k') {st : St} {keep : List Nat} {d : Nat} {H' : Hp} {res : AV}
    (hob : All (retOb c.n P fn.results.toList st keep d H' res)) : Run P c f k st (Post c H' res) := by
  intro hn b cs a w β h1 h2 hrel
  obtain ⟨v, hr, hp⟩ := ret_rel hrel hob
  rcases hk with rfl | ⟨k', rfl⟩
  · exact ⟨.returned v, w, _, hp, .one step_end, h1, rfl, hrel.dfr, h2, fn, by rw [← h1] at hf; exact hf, hr⟩
  · exact ⟨.returned v, w, _, hp, .one step_ret, h1, rfl, hrel.dfr, h2, fn, by rw [← h1] at hf; exact hf, hr⟩
theorem con_of_run {fn : Func} {code : Code} (hf : P.funcs[f]? = some fn) (hb : fn.body = some code) (hen : enterable P f = true) {n : Nat} {H H' : Hp} {args : List AV} {res : AV}
    (hkeys : (H.all fun e => Nat.blt e.1 n) = true)
    (hrun : ∀ c : Cx, c.n = n → Run P c f [.code code] ⟨args ++ List.replicate (fn.ntmps - args.length) anyA, H, n⟩ (Post c H' res)) : Con P f n H args H' res := by
  refine ⟨hen, fun w β X vals hX hHR hSep hdom hlen hargs => ?_⟩
  have hrel : Rel ⟨n, X, w, β, H⟩ (fun k => k < n) (args ++ List.replicate (fn.ntmps - args.length) anyA) H { tmps := vals ++ Array.replicate (fn.ntmps - vals.size) undef, defers := [] } w β := by
    refine ⟨hHR, hSep, fun t => ?_, by simp [hlen], rfl, fun k hk => ?_, .refl _ _, hX, fun b hb => .inl hb, fun _ _ => rfl⟩
    · by_cases ht : t < args.length
      · have e1 : (args ++ List.replicate (fn.ntmps - args.length) anyA).getD t anyA = args.getD t anyA := by
          simp [List.getD_eq_getElem?_getD, List.getElem?_append_left ht]
        have e2 : (vals ++ Array.replicate (fn.ntmps - vals.size) undef).getD t undef = vals.getD t undef := by
          simp [Array.getD_eq_getD_getElem?, Array.getElem?_append_left (show t < vals.size by omega)]
        simp only [e1, e2]
        exact hargs t ht
      · have e1 : (args ++ List.replicate (fn.ntmps - args.length) anyA).getD t anyA = anyA := by
          rw [List.getD_eq_getElem?_getD, List.getElem?_append_right (by omega), List.getElem?_replicate]
          split <;> rfl
        rw [e1]
        exact .any _
    · rcases hk with hk | hk
      · exact hdom k hk
      · cases hl : H.lookup k with
        | none => exact absurd hl hk
        | some ob =>
          obtain ⟨l1, l2, h, _⟩ := List.lookup_eq_some_iff.1 hl
          simp only [List.all_eq_true, Nat.blt_eq] at hkeys
          exact hkeys (k, ob) (by rw [h]; simp)
  intro cs
  let b : Frame := { (default : Frame) with fn := f, kind := .normal }
  have henter : Frame.enter P f vals .normal = b.at { tmps := vals ++ Array.replicate (fn.ntmps - vals.size) undef, defers := [] } [.code code] := by
    simp [Frame.enter, Frame.at, hf, hb, b]
  obtain ⟨e, w', fr, g1, g2, g3, g4⟩ := hrun ⟨n, X, w, β, H⟩ rfl (Nat.le_refl _) b cs _ w β rfl rfl hrel
  rw [henter]
  refine ⟨e, w', fr, ?_, g2, g3, g4⟩
  obtain ⟨v, β', p1, p2, p3, p4, p5, p6, p7, p8⟩ := g1
  refine ⟨v, β', p1, p2, p3, p4, p5, fun o a ho => ?_, p7, fun k hk => ?_⟩
  · rw [p6 o (hdom o (by rw [ho]; simp))]; exact ho
  · by_cases hkn : k < n
    · left
      have := p6 k hkn
      simp only at this
      rw [← this]
      exact hk
    · exact .inr ⟨by omega, p8 k hk⟩
end
end Go.Proofs.Ytffnfeefjdmifaa.Mach
namespace Go.Proofs.Ytffnfeefjdmifaa.Mach
open Go
set_option linter.unusedVariables false
set_option linter.unusedSimpArgs false
def bodyOf (fn : Func) : Code := fn.body.getD .skip
def oT : OpS := ⟨true, none, none⟩
def oF : OpS := ⟨false, none, none⟩
def isRet : List Item → Bool
  | [] => true
  | .code .ret :: _ => true
  | _ => false
def start (fn : Func) (H : Hp) (n : Nat) (args : List AV) : St := ⟨args ++ List.replicate (fn.ntmps - args.length) anyA, H, n⟩
def pathOb (P : Program) (fn : Func) (n : Nat) (sc : List ScI) (k : List Item) (st : St) (keep : List Nat) (d : Nat) (H' : Hp) (res : AV) : Option (List Prop) :=
  match runTo P 10000 sc k st with
  | some (k', st', ob) => if isRet k' then some (ob ++ retOb n P fn.results.toList st' keep d H' res) else none
  | none => none
def pieceOb (P : Program) (n : Nat) (sc : List ScI) (k : List Item) (st : St) (keep : List Nat) (d : Nat) (st2 : St) : Option (List Item × List Prop) :=
  match runTo P 10000 sc k st with
  | some (k', st', ob) => some (k', ob ++ convOb n st' keep d st2)
  | none => none
section
variable {P : Program} {c : Cx} {f : FuncId} {R : Ending → World → Prop}
theorem path_ok {fn : Func} {n : Nat} {sc : List ScI} {k : List Item} {st : St} {keep : List Nat} {d : Nat} {H' : Hp} {res : AV} {ob : List Prop} (hm : P.follows .mixedOrders = true) (hf : P.funcs[f]? = some fn) (hc : c.n = n)
    (h : pathOb P fn n sc k st keep d H' res = some ob) (hob : All ob) : Run P c f k st (Post c H' res) := by
  unfold pathOb at h
  split at h
  case h_2 => cases h
  rename_i k' st' ob' hr
  split at h
  case isFalse => cases h
  rename_i hret
  simp only [Option.some.injEq] at h
  subst h
  obtain ⟨h1, h2⟩ := All_app hob
  refine runTo_ok hm _ _ _ _ _ _ _ hr ((All_iff _).1 h1) (ret_ok hf ?_ (by rw [hc]; exact h2))
  unfold isRet at hret
  split at hret
  · exact .inl rfl
  · exact .inr ⟨_, rfl⟩
  · cases hret
theorem piece_ok {n : Nat} {sc : List ScI} {k k2 : List Item} {st st2 : St} {keep : List Nat} {d : Nat} {ob : List Prop} (hm : P.follows .mixedOrders = true) (hc : c.n = n)
    (h : pieceOb P n sc k st keep d st2 = some (k2, ob)) (hob : All ob) (hr : Run P c f k2 st2 R) : Run P c f k st R := by
  unfold pieceOb at h
  split at h
  case h_2 => cases h
  rename_i k' st' ob' hr'
  simp only [Option.some.injEq, Prod.mk.injEq] at h
  obtain ⟨rfl, rfl⟩ := h
  obtain ⟨h1, h2⟩ := All_app hob
  exact runTo_ok hm _ _ _ _ _ _ _ hr' ((All_iff _).1 h1) (conv_ok keep d (by rw [hc]; exact h2) hr)
theorem con_start {fn : Func} (hf : P.funcs[f]? = some fn) (hb : fn.body = some (bodyOf fn)) (hen : enterable P f = true) {n : Nat} {H H' : Hp} {args : List AV} {res : AV}
    (hkeys : (H.all fun e => Nat.blt e.1 n) = true) (hrun : ∀ c : Cx, c.n = n → Run P c f [.code (bodyOf fn)] (start fn H n args) (Post c H' res)) : Con P f n H args H' res :=
  con_of_run hf hb hen hkeys hrun
end
end Go.Proofs.Ytffnfeefjdmifaa.Mach
namespace Go.Proofs.Ytffnfeefjdmifaa.Mach
open Go
set_option linter.unusedVariables false
set_option linter.unusedSimpArgs false
inductive Sh where
  | int (k : IntKind)
  | bool
  | str
  | st (l : List Sh)
  | sl (s : Sh)
mutual
def Sh.z : Sh → Nat
  | .int _ => 1
  | .bool => 1
  | .str => 1
  | .st l => zL l
  | .sl _ => 1
def zL : List Sh → Nat
  | [] => 0
  | s :: l => s.z + zL l
end
mutual
def Sh.T : Sh → Type
  | .int _ => Int
  | .bool => Bool
  | .str => ByteArray
  | .st l => TL l
  | .sl s => Nat × (Nat → s.T)
def TL : List Sh → Type
  | [] => Unit
  | s :: l => s.T × TL l
end
mutual
def dfl : (s : Sh) → s.T
  | .int _ => (0 : Int)
  | .bool => false
  | .str => ByteArray.empty
  | .st l => dflL l
  | .sl s => ((0 : Nat), fun _ => dfl s)
def dflL : (l : List Sh) → TL l
  | [] => ()
  | s :: l => (dfl s, dflL l)
end
mutual
def enS : (s : Sh) → s.T → List PV
  | .int k, n => [.int k n]
  | .bool, b => [.bool b]
  | .str, x => [.str x]
  | .st l, v => enL l v
  | .sl s, v => [.seq true s.z v.1 fun i => enS s (v.2 i)]
def enL : (l : List Sh) → TL l → List PV
  | [], _ => []
  | s :: l, v => enS s v.1 ++ enL l v.2
end
mutual
def okS : (s : Sh) → s.T → Prop
  | .int k, n => imin k ≤ (show Int from n) ∧ (show Int from n) ≤ imax k
  | .bool, _ => True
  | .str, x => (show ByteArray from x).size ≤ 9223372036854775807
  | .st l, v => okL l v
  | .sl s, v => v.1 ≤ 9223372036854775807 ∧ ∀ i, i < v.1 → okS s (v.2 i)
def okL : (l : List Sh) → TL l → Prop
  | [], _ => True
  | s :: l, v => okS s v.1 ∧ okL l v.2
end
mutual
def fits (P : Program) : Sh → TypeId → Bool
  | .int k, t => match P.underlying t with | some (.int k') => ikEq k k' | _ => false
  | .bool, t => match P.underlying t with | some .bool => true | _ => false
  | .str, t => match P.underlying t with | some .string => true | _ => false
  | .st l, t => match P.underlying t with | some (.struct fs) => P.cellsOf t == zL l && fitsL P l fs.toList 0 | _ => false
  | .sl s, t => match P.underlying t with | some (.slice e) => P.cellsOf e == s.z && Nat.blt 0 s.z && fits P s e | _ => false
def fitsL (P : Program) : List Sh → List Field → Nat → Bool
  | [], [], _ => true
  | s :: l, f :: fs, off => f.offset == off && P.cellsOf f.type == s.z && fits P s f.type && fitsL P l fs (off + s.z)
  | _, _, _ => false
end
def no : Bool → Nat → Prop := ow (fun _ => False) (fun _ => none) []
theorem no_no {t : Bool} {b : Nat} : ¬ no t b := by
  rintro (⟨o, ob, a, h, _⟩ | ⟨_, h⟩)
  · simp at h
  · exact h
inductive Rd (w : World) : List PV → List Value → Prop
  | nil : Rd w [] []
  | cons {v : PV} {x : Value} {l : List PV} {r : List Value} (h : PR w no v x) (h1 : One x) (hr : Rd w l r) : Rd w (v :: l) (x :: r)
theorem Rd.append {w : World} {a b : List PV} {c d : List Value} (h : Rd w a c) (h' : Rd w b d) : Rd w (a ++ b) (c ++ d) := by
  induction h with
  | nil => exact h'
  | cons h h1 hr ih => exact .cons h h1 ih
theorem Rd.length {w : World} {a : List PV} {c : List Value} (h : Rd w a c) : a.length = c.length := by
  induction h with
  | nil => rfl
  | cons h h1 hr ih => simp [ih]
theorem Rd.get {w : World} {a : List PV} {c : List Value} (h : Rd w a c) : ∀ j, j < c.length → PR w no (a.getD j .any) (c.getD j undef) ∧ One (c.getD j undef) := by
  induction h with
  | nil => intro j hj; simp at hj
  | cons h h1 hr ih =>
    intro j hj
    cases j with
    | zero => exact ⟨h, h1⟩
    | succ j => simpa using ih j (by simpa using hj)
section
variable {H : Type} {enc : TypeId × Value → H} {P : Program} {w : World} {base : Nat} {spare : Nat → Bool} {held : Bool}
theorem add_add {b o x y : Nat} : ((⟨b, o, none⟩ : Addr).add x).add y = ⟨b, o + (x + y), none⟩ := by
  unfold Addr.add
  split <;> split <;> simp_all <;> omega
theorem cell_spot {a : Addr} {v : Value} (h : w.cell? a = some v) : a.spot = none ∧ a.block < w.heap.size := by
  unfold World.cell? at h
  split at h
  · rename_i c e f hb
    split at h
    · cases h
    · rename_i hs
      refine ⟨by simpa using hs, ?_⟩
      exact (Array.getElem?_eq_some_iff.1 hb).1
  · cases h
mutual
theorem read : (s : Sh) → ∀ (t : TypeId) (fuel : Nat) (cs : List Value) (x : DataW H × List MemPlace), fits P s t = true → DataW.trod enc P w base spare held fuel t cs = some x → ∃ v : s.T, okS s v ∧ Rd w (enS s v) cs
  | .int k, t, fuel, cs, x, hf, h => by
    simp only [fits] at hf
    split at hf
    case h_2 => cases hf
    rename_i k' hu
    obtain rfl := ikEq_eq hf
    obtain ⟨n, rfl, _, hw⟩ := DataW.trod_int hu h
    refine ⟨n, ?_, .cons (.int _ _) rfl .nil⟩
    simp only [Lit.wf, Bool.and_eq_true, decide_eq_true_eq] at hw
    cases k <;> exact hw
  | .bool, t, fuel, cs, x, hf, h => by
    simp only [fits] at hf
    split at hf
    case h_2 => cases hf
    rename_i hu
    obtain ⟨b, rfl, _⟩ := DataW.trod_bool hu h
    exact ⟨b, by simp [okS], .cons (.bool _) rfl .nil⟩
  | .str, t, fuel, cs, x, hf, h => by
    simp only [fits] at hf
    split at hf
    case h_2 => cases hf
    rename_i hu
    obtain ⟨b, rfl, _, hm⟩ := DataW.trod_string hu h
    exact ⟨b, by simpa [okS, maxLen] using hm, .cons (.str _) rfl .nil⟩
  | .st l, t, fuel, cs, x, hf, h => by
    simp only [fits] at hf
    split at hf
    case h_2 => cases hf
    rename_i fs hu
    simp only [Bool.and_eq_true, beq_iff_eq] at hf
    obtain ⟨xs, n, rfl, rfl, hl, hxs, hall⟩ := DataW.trod_struct hu h
    obtain ⟨v, h1, h2⟩ := readL l fs.toList 0 n cs hf.2 (by omega) (fun i f hi => by
      have hi' : fs[i]? = some f := by simpa using hi
      have := hall i f hi'
      have hlt : i < xs.length := by
        rw [hxs]
        exact (Array.getElem?_eq_some_iff.1 hi').1
      exact ⟨xs[i], by rw [this, List.getElem?_eq_getElem hlt]⟩)
    exact ⟨v, by simpa [okS] using h1, by simpa [enS] using h2⟩
  | .sl s, t, fuel, cs, x, hf, h => by
    simp only [fits] at hf
    split at hf
    case h_2 => cases hf
    rename_i e hu
    simp only [Bool.and_eq_true, beq_iff_eq] at hf
    obtain ⟨⟨hz, hpos⟩, hf⟩ := hf
    have hpos : 0 < s.z := Nat.le_of_ble_eq_true hpos
    rcases DataW.trod_slice hu h with ⟨rfl, _⟩ | ⟨a, len, cap, elems, rest, n, rfl, rfl, rfl, hb, hl, hm, hlen, hel, _⟩
    · exact ⟨((0 : Nat), fun _ => dfl s), by simp [okS], .cons (.seq0 _ _ _ _ _) rfl .nil⟩
    · have key : ∀ i, ∃ y : s.T × List Value, i < len → w.cells? base (a.add (i * s.z)) s.z = some y.2 ∧ okS s y.1 ∧ Rd w (enS s y.1) y.2 := by
        intro i
        by_cases hi : i < len
        · have hx := hel i hi
          rw [List.getElem?_eq_getElem (by omega)] at hx
          obtain ⟨cs', h1, h2⟩ := Option.bind_eq_some_iff.1 hx
          obtain ⟨v, h3, h4⟩ := read s e n cs' _ hf h2
          exact ⟨(v, cs'), fun _ => ⟨by rw [← hz]; exact h1, h3, h4⟩⟩
        · exact ⟨(dfl s, []), fun h => absurd h hi⟩
      obtain ⟨F, hF⟩ := Classical.axiomOfChoice key
      refine ⟨((len : Nat), fun i => (F i).1), ⟨?_, fun i hi => (hF i hi).2.1⟩, .cons ?_ rfl .nil⟩
      · have : maxLen = 9223372036854775807 := rfl
        show len ≤ 9223372036854775807
        omega
      · cases hl0 : len with
        | zero => exact .seq0 _ _ _ _ _
        | succ l' =>
          rw [← hl0]
          have h0 := (hF 0 (by omega)).1
          obtain ⟨_, hcl, hcell⟩ := World.cells?_some h0
          have hc0 := hcell 0 hpos
          rw [List.getElem?_eq_getElem (by omega)] at hc0
          obtain ⟨hs, hlt⟩ := cell_spot hc0
          obtain ⟨b, o, sp⟩ := a
          have hb' : ∀ q, ((⟨b, o, sp⟩ : Addr).add q).block = b := by intro q; unfold Addr.add; split <;> rfl
          have hsp : sp = none := by simpa [Addr.add] using hs
          subst hsp
          have hlt' : b < w.heap.size := by
            have e1 : (((⟨b, o, none⟩ : Addr).add (0 * s.z)).add 0).block = b := by rw [add_add]
            rw [e1] at hlt; exact hlt
          refine .seq _ _ _ _ b o cap (fun i j => (F i).2.getD j undef) no_no hlt' hl (fun i hi j hj => ?_) (fun i hi j hj => ?_) (fun i hi j hj => ?_)
          all_goals
            obtain ⟨g1, g2, g3⟩ := hF i hi
            obtain ⟨_, k1, k2⟩ := World.cells?_some g1
          · have := k2 j hj
            rw [add_add] at this
            rw [this, List.getElem?_eq_getElem (by omega)]
            simp [List.getD_eq_getElem?_getD, List.getElem?_eq_getElem (show j < (F i).2.length by omega)]
          · exact (g3.get j (by omega)).2
          · exact (g3.get j (by omega)).1
theorem readL : (l : List Sh) → ∀ (fs : List Field) (off n : Nat) (cs : List Value), fitsL P l fs off = true → off + zL l = cs.length →
    (∀ (i : Nat) (f : Field), fs[i]? = some f → ∃ x, DataW.trod enc P w base spare held n f.type ((cs.drop f.offset).take (P.cellsOf f.type)) = some x) → ∃ v : TL l, okL l v ∧ Rd w (enL l v) (cs.drop off)
  | [], fs, off, n, cs, hf, hz, h => by
    refine ⟨(), by simp [okL], ?_⟩
    simp only [zL, Nat.add_zero] at hz
    subst hz
    simp only [List.drop_length, enL]
    exact .nil
  | s :: l, [], off, n, cs, hf, hz, h => by simp [fitsL] at hf
  | s :: l, f :: fs, off, n, cs, hf, hz, h => by
    simp only [fitsL, Bool.and_eq_true, beq_iff_eq] at hf
    obtain ⟨⟨⟨h1, h2⟩, h3⟩, h4⟩ := hf
    obtain ⟨x, hx⟩ := h 0 f rfl
    rw [h1, h2] at hx
    obtain ⟨v, g1, g2⟩ := read s f.type n _ x h3 hx
    obtain ⟨r, g3, g4⟩ := readL l fs (off + s.z) n cs h4 (by simp only [zL] at hz; omega) (fun i f' hi => h (i + 1) f' (by simpa using hi))
    refine ⟨(v, r), by simp only [okL]; exact ⟨g1, g3⟩, ?_⟩
    have := g2.append g4
    rw [← List.drop_drop, List.take_append_drop] at this
    simpa only [enL] using this
end
def argA : (s : Sh) → s.T → AV
  | .int k, n => .p (.int k n)
  | .bool, b => .p (.bool b)
  | .str, x => .p (.str x)
  | .st l, v => .agg ((enL l v).map .p)
  | .sl s, v => .p (.seq true s.z v.1 fun i => enS s (v.2 i))
theorem arg_st {l : List Sh} {t : TypeId} {r : Reach} {b0 : Nat} {x : Value} {d : DataW H} {ps : List MemPlace} (hf : fits P (.st l) t = true) (hv : Value.okWide P w r b0 t x) (h : DataW.Trod enc P w base spare held t x d ps) :
    ∃ v : TL l, okL l v ∧ VR w (fun _ => none) no (.agg ((enL l v).map .p)) x := by
  have hf' := hf
  simp only [fits] at hf
  split at hf
  case h_2 => cases hf
  rename_i fs hu
  obtain ⟨cs, rfl, hsz⟩ := WideShapes.okWide_struct hu hv
  obtain ⟨fuel, h⟩ := h
  obtain ⟨v, h1, h2⟩ := read (.st l) t fuel _ _ hf' h
  simp only [enS] at h2
  refine ⟨v, by simpa [okS] using h1, .agg _ _ (by simpa [Value.cells] using h2.length) (fun j hj => ?_) (fun j hj => ?_)⟩
  all_goals
    have hl := h2.length
    simp only [Value.cells, List.length_map, Array.length_toList] at hl hj
    have := h2.get j (by simp [Value.cells]; omega)
    simp only [Value.cells] at this
    rw [show cs.toList.getD j undef = cs.getD j undef by simp [List.getD_eq_getElem?_getD, Array.getD_eq_getD_getElem?]] at this
  · exact this.2
  · have e : ((enL l v).map AV.p).getD j anyA = .p ((enL l v).getD j .any) := by
      simp only [List.getD_eq_getElem?_getD, List.getElem?_map]
      cases (enL l v)[j]? <;> rfl
    rw [e]
    exact .p _ _ this.1
theorem arg_one {s : Sh} {t : TypeId} {x : Value} {d : DataW H} {ps : List MemPlace} (hf : fits P s t = true) (hc : x.cells = #[x]) (h : DataW.Trod enc P w base spare held t x d ps) :
    ∃ v : s.T, okS s v ∧ VR w (fun _ => none) no (.p ((enS s v).getD 0 .any)) x := by
  obtain ⟨fuel, h⟩ := h
  obtain ⟨v, h1, h2⟩ := read s t fuel _ _ hf h
  rw [hc] at h2
  have := h2.get 0 (by simp)
  exact ⟨v, h1, .p _ _ (by simpa using this.1)⟩
theorem arg_ok {r : Reach} {b0 : Nat} {x : Value} {d : DataW H} {ps : List MemPlace} : (s : Sh) → ∀ {t : TypeId}, fits P s t = true → Value.okWide P w r b0 t x → DataW.Trod enc P w base spare held t x d ps →
    ∃ v : s.T, okS s v ∧ VR w (fun _ => none) no (argA s v) x
  | .st l, t, hf, hv, h => by
    obtain ⟨v, h1, h2⟩ := arg_st hf hv h
    exact ⟨v, by simpa [okS] using h1, h2⟩
  | .int k, t, hf, hv, h => by
    have hf' := hf
    simp only [fits] at hf
    split at hf
    case h_2 => cases hf
    rename_i hu
    obtain ⟨y, rfl⟩ := WideShapes.okWide_int hu hv
    obtain ⟨v, h1, h2⟩ := arg_one hf' rfl h
    exact ⟨v, h1, h2⟩
  | .bool, t, hf, hv, h => by
    have hf' := hf
    simp only [fits] at hf
    split at hf
    case h_2 => cases hf
    rename_i hu
    obtain ⟨y, rfl⟩ := WideShapes.okWide_bool hu hv
    obtain ⟨v, h1, h2⟩ := arg_one hf' rfl h
    exact ⟨v, h1, h2⟩
  | .str, t, hf, hv, h => by
    have hf' := hf
    simp only [fits] at hf
    split at hf
    case h_2 => cases hf
    rename_i hu
    obtain ⟨y, rfl⟩ := WideShapes.okWide_string hu hv
    obtain ⟨v, h1, h2⟩ := arg_one hf' rfl h
    exact ⟨v, h1, h2⟩
  | .sl s, t, hf, hv, h => by
    have hf' := hf
    simp only [fits] at hf
    split at hf
    case h_2 => cases hf
    rename_i hu
    obtain ⟨y, z, u, rfl⟩ := WideShapes.okWide_slice hu hv
    obtain ⟨v, h1, h2⟩ := arg_one hf' rfl h
    exact ⟨v, h1, h2⟩
end
theorem law_ok {P : Program} {f : FuncId} {args : List AV} {vals : Array Value} {W : World} (h : Con P f 0 [] args [] (.p (.bool true))) (hl : args.length = vals.size)
    (ha : ∀ j, j < args.length → VR W (fun _ => none) no (args.getD j anyA) (vals.getD j undef)) :
    Calls P f vals W fun e W' => e = .returned (.bool true) ∧ RowKit.Below W.heap.size W W' := by
  refine (h.2 W (fun _ => none) (fun _ => False) vals (fun b h => h.elim) (fun o ob h => by simp at h) (fun o o' ob ob' a a' h => by simp at h) (fun k h => absurd rfl h) hl ha).mono ?_
  rintro e W' ⟨v, β', rfl, _, _, hv, hext, _, _, _⟩
  cases hv with
  | p _ _ hp =>
    cases hp with
    | bool b => exact ⟨rfl, hext.os, hext.tape, hext.output, hext.size, fun k hk => hext.block true k hk no_no⟩
end Go.Proofs.Ytffnfeefjdmifaa.Mach
namespace Go.Proofs.Ytffnfeefjdmifaa.Mach
open Go
set_option linter.unusedVariables false
set_option linter.unusedSimpArgs false
mutual
def smS : (s : Sh) → s.T → Prop
  | .int _, _ => True
  | .bool, _ => True
  | .str, x => (show ByteArray from x).size ≤ 1048576
  | .st l, v => smL l v
  | .sl s, v => v.1 ≤ 1048576 ∧ ∀ i, i < v.1 → smS s (v.2 i)
def smL : (l : List Sh) → TL l → Prop
  | [], _ => True
  | s :: l, v => smS s v.1 ∧ smL l v.2
end
theorem notf {b : Bool} (h : b = false) : (!b) = true := by subst h; rfl
theorem anda {a b : Bool} (h : a = true) (h' : b = true) : (a && b) = true := by subst h; subst h'; rfl
theorem mixed : Try.prog.follows .mixedOrders = true := by kernel_rfl
end Go.Proofs.Ytffnfeefjdmifaa.Mach
namespace Go.Proofs.Ytffnfeefjdmifaa.Mach
open Go
abbrev AA (n : Nat) (f : Nat → List AV) : Prop := ∀ i, i < n → (All [] ∧ f i = f i)
abbrev AP (n : Nat) (f : Nat → List PV) : Prop := ∀ i, i < n → f i = f i
abbrev AG (b : Bool) : Prop := b = true → b = true
abbrev AE (n : Nat) : Prop := ∀ i, i < n → All []
abbrev AN (n : Nat) : Prop := n = n
abbrev AI (n : Int) : Prop := n = n
theorem aA (n : Nat) (f : Nat → List AV) : AA n f := fun _ _ => ⟨trivial, rfl⟩
theorem aP (n : Nat) (f : Nat → List PV) : AP n f := fun _ _ => rfl
theorem aG (b : Bool) : AG b := fun h => h
theorem aE (n : Nat) : AE n := fun _ _ => trivial
end Go.Proofs.Ytffnfeefjdmifaa.Mach
namespace Go.Proofs.Ytffnfeefjdmifaa.Mach
open Go
set_option linter.unusedVariables false
set_option linter.unusedSimpArgs false
def inB (x a b : Int) : Bool := decide (a ≤ x) && decide (x ≤ b)
theorem p36 (x a b : Int) :
    pathOb Try.prog Try.f37 0 [.reg [oT], .reg [oT, oT, oT, oT, oT, oT, oT, oT, oT]] [.code (bodyOf Try.f37)] (start Try.f37 [] 0 [.p (.int .i64 x), .p (.int .i64 a), .p (.int .i64 b)]) [] 1 [] (.p (.bool (inB x a b))) =
    some [(AG (decide (x ≥ a))),
  (AG (decide (x ≥ a))),
  (AG (decide (x ≥ a))),
  ((bif decide (x ≥ a) then decide (x ≤ b) else false) = (inB x a b))] := by kernel_rfl
theorem p37 (x a b : Int) :
    pathOb Try.prog Try.f40 0 [.reg [oT], .reg [oT, oT, oT, oT, oT, oT, oT, oT, oT]] [.code (bodyOf Try.f40)] (start Try.f40 [] 0 [.p (.int .i64 x), .p (.int .i64 a), .p (.int .i64 b)]) [] 1 [] (.p (.bool (inB x a b))) =
    some [(AG (decide (x ≥ a))),
  (AG (decide (x ≥ a))),
  (AG (decide (x ≥ a))),
  ((bif decide (x ≥ a) then decide (x ≤ b) else false) = (inB x a b))] := by kernel_rfl
theorem con_l1In (x a b : Int) : Con Try.prog 37 0 [] [.p (.int .i64 x), .p (.int .i64 a), .p (.int .i64 b)] [] (.p (.bool (inB x a b))) := by
  refine con_start Try.func37 rfl (by kernel_rfl) rfl (fun c hc => ?_)
  refine path_ok mixed Try.func37 hc (p36 x a b) ?_
  simp only [All]
  repeat' (first | exact trivial | with_reducible apply And.intro)
  all_goals (first | exact aG _ | exact aP _ _ | exact aA _ _ | exact aE _ | omega | rfl | (intros; first | assumption | exact True.intro | rfl | exact absurd (show false = true by assumption) Bool.false_ne_true | ((repeat' (first | assumption | apply anda | apply notf)); done)) | (simp only [inB]; cases decide (a ≤ x) <;> rfl))
theorem con_within (x a b : Int) : Con Try.prog 40 0 [] [.p (.int .i64 x), .p (.int .i64 a), .p (.int .i64 b)] [] (.p (.bool (inB x a b))) := by
  refine con_start Try.func40 rfl (by kernel_rfl) rfl (fun c hc => ?_)
  refine path_ok mixed Try.func40 hc (p37 x a b) ?_
  simp only [All]
  repeat' (first | exact trivial | with_reducible apply And.intro)
  all_goals (first | exact aG _ | exact aP _ _ | exact aA _ _ | exact aE _ | omega | rfl | (intros; first | assumption | exact True.intro | rfl | exact absurd (show false = true by assumption) Bool.false_ne_true | ((repeat' (first | assumption | apply anda | apply notf)); done)) | (simp only [inB]; cases decide (a ≤ x) <;> rfl))
end Go.Proofs.Ytffnfeefjdmifaa.Mach
namespace Go.Proofs.Ytffnfeefjdmifaa.Mach
open Go
set_option linter.unusedVariables false
set_option linter.unusedSimpArgs false
def byO (n : Nat) (f : Nat → Int) : Ob := ⟨false, 1, n, fun i => [.p (.int .u8 (f i))]⟩
def swF (i j : Nat) (f : Nat → Int) (r : Nat) : Int := if r = j then f i else if r = i then f j else f r
def apF (n : Nat) (f : Nat → Int) (x : Int) (r : Nat) : Int := if r < n then f r else x
def SFs (m : Int) (o : ByteArray) (ng : Bool) : St :=
  ⟨[.p (.int .i64 m), .p .any, .p .any, .p (.str o), .p (.bool ng)] ++ List.replicate 26 anyA, [], 0⟩
def SFi (n m : Int) (l : Nat) (f : Nat → Int) : St :=
  ⟨[.p (.int .i64 n), .p .any, .p .any, .ar 1 0 0 l, .p (.int .i64 m)] ++ List.replicate 54 anyA, [(0, byO l f)], 1⟩
def SFr (l i : Nat) (j : Int) (f : Nat → Int) : St :=
  ⟨[.p .any, .p .any, .p .any, .ar 1 0 0 l, .p .any, .p .any, .p (.int .i64 i), .p (.int .i64 j)] ++ List.replicate 51 anyA, [(0, byO l f)], 1⟩
theorem fS0 (n : Int) (s : ByteArray) :
    pathOb Try.prog Try.f58 0 [.reg [oT], .reg [oT, oT], .dec true, .reg [oT]] [.code (bodyOf Try.f58)] (start Try.f58 [] 0 [.p (.int .i64 n)]) [] 1 [] (.p (.str s)) =
    some [((n == 0) = true),
  (ByteArray.mk #[48] = s)] := by kernel_rfl
theorem fSz (n : Int) (o : ByteArray) :
    pieceOb Try.prog 0 [.reg [oT], .reg [oT, oT], .dec false, .reg [oT], .reg [oT, oT, oT], .head] [.code (bodyOf Try.f58)] (start Try.f58 [] 0 [.p (.int .i64 n)]) [] 1 (SFs n o (decide (n < 0))) =
    some ([.code (cAt (bodyOf Try.f58) [1, 1, 1, 1, 0, 0, 0]), .inLoop (cAt (bodyOf Try.f58) [1, 1, 1, 1, 0, 0, 0]), .inBlock 0, .code (cAt (bodyOf Try.f58) [1, 1, 1, 1, 1])], [((n == 0) = false),
  (AI n),
  (ByteArray.mk #[] = o),
  ((decide (n < 0)) = (decide (n < 0)))]) := by kernel_rfl
theorem fSn (m m2 : Int) (o o2 : ByteArray) (ng : Bool) :
    pieceOb Try.prog 0 [.reg [oT, oT], .dec true, .reg [oT, oF, oT], .reg [oT, oT], .dec true, .reg [oT, oT, oT], .reg [oT, oT, oT, oT, oT, oT, oT, oT], .reg [oT, oF, oT], .head] [.code (cAt (bodyOf Try.f58) [1, 1, 1, 1, 0, 0, 0]), .inLoop (cAt (bodyOf Try.f58) [1, 1, 1, 1, 0, 0, 0]), .inBlock 0, .code (cAt (bodyOf Try.f58) [1, 1, 1, 1, 1])] (SFs m o ng) [] 1 (SFs m2 o2 ng) =
    some ([.code (cAt (bodyOf Try.f58) [1, 1, 1, 1, 0, 0, 0]), .inLoop (cAt (bodyOf Try.f58) [1, 1, 1, 1, 0, 0, 0]), .inBlock 0, .code (cAt (bodyOf Try.f58) [1, 1, 1, 1, 1])], [((m != 0) = true),
  ((10 : Int) ≠ 0),
  ((decide (m.tmod 10 < 0)) = true),
  (((-9223372036854775808) : Int) ≤ (0 - m.tmod 10)),
  (((0 - m.tmod 10) : Int) ≤ 9223372036854775807),
  (((-9223372036854775808) : Int) ≤ (48 + (0 - m.tmod 10))),
  (((48 + (0 - m.tmod 10)) : Int) ≤ 9223372036854775807),
  ((0 : Int) ≤ (48 + (0 - m.tmod 10))),
  (((48 + (0 - m.tmod 10)) : Int) ≤ 255),
  ((1 : Nat) ≤ 1),
  (okBytes 1 (fun i => [.p (.int .u8 (48 + (0 - m.tmod 10)))])),
  ((((bytesOf 1 fun i => [AV.p (PV.int IntKind.u8 (48 + (0 - m.tmod 10)))]).size + o.size) : Nat) ≤ 9223372036854775807),
  ((10 : Int) ≠ 0),
  (((IntKind.i64.wrap (m.tdiv 10)) : Int) = m2),
  ((bytesOf 1 fun i => [AV.p (PV.int IntKind.u8 (48 + (0 - m.tmod 10)))]) ++ o = o2),
  (ng = ng)]) := by kernel_rfl
theorem fSp (m m2 : Int) (o o2 : ByteArray) (ng : Bool) :
    pieceOb Try.prog 0 [.reg [oT, oT], .dec true, .reg [oT, oF, oT], .reg [oT, oT], .dec false, .reg [oT, oT, oT, oT, oT, oT, oT, oT], .reg [oT, oF, oT], .head] [.code (cAt (bodyOf Try.f58) [1, 1, 1, 1, 0, 0, 0]), .inLoop (cAt (bodyOf Try.f58) [1, 1, 1, 1, 0, 0, 0]), .inBlock 0, .code (cAt (bodyOf Try.f58) [1, 1, 1, 1, 1])] (SFs m o ng) [] 1 (SFs m2 o2 ng) =
    some ([.code (cAt (bodyOf Try.f58) [1, 1, 1, 1, 0, 0, 0]), .inLoop (cAt (bodyOf Try.f58) [1, 1, 1, 1, 0, 0, 0]), .inBlock 0, .code (cAt (bodyOf Try.f58) [1, 1, 1, 1, 1])], [((m != 0) = true),
  ((10 : Int) ≠ 0),
  ((decide (m.tmod 10 < 0)) = false),
  (((-9223372036854775808) : Int) ≤ (48 + m.tmod 10)),
  (((48 + m.tmod 10) : Int) ≤ 9223372036854775807),
  ((0 : Int) ≤ (48 + m.tmod 10)),
  (((48 + m.tmod 10) : Int) ≤ 255),
  ((1 : Nat) ≤ 1),
  (okBytes 1 (fun i => [.p (.int .u8 (48 + m.tmod 10))])),
  ((((bytesOf 1 fun i => [AV.p (PV.int IntKind.u8 (48 + m.tmod 10))]).size + o.size) : Nat) ≤ 9223372036854775807),
  ((10 : Int) ≠ 0),
  (((IntKind.i64.wrap (m.tdiv 10)) : Int) = m2),
  ((bytesOf 1 fun i => [AV.p (PV.int IntKind.u8 (48 + m.tmod 10))]) ++ o = o2),
  (ng = ng)]) := by kernel_rfl
theorem fSt (m : Int) (o s : ByteArray) (ng : Bool) :
    pathOb Try.prog Try.f58 0 [.reg [oT, oT], .dec false, .reg [oT], .dec true, .reg [oT, oT, oT]] [.code (cAt (bodyOf Try.f58) [1, 1, 1, 1, 0, 0, 0]), .inLoop (cAt (bodyOf Try.f58) [1, 1, 1, 1, 0, 0, 0]), .inBlock 0, .code (cAt (bodyOf Try.f58) [1, 1, 1, 1, 1])] (SFs m o ng) [] 1 [] (.p (.str s)) =
    some [((m != 0) = false),
  (ng = true),
  ((((ByteArray.mk #[45]).size + o.size) : Nat) ≤ 9223372036854775807),
  (ByteArray.mk #[45] ++ o = s)] := by kernel_rfl
theorem fSf (m : Int) (o s : ByteArray) (ng : Bool) :
    pathOb Try.prog Try.f58 0 [.reg [oT, oT], .dec false, .reg [oT], .dec false, .reg [oT, oT]] [.code (cAt (bodyOf Try.f58) [1, 1, 1, 1, 0, 0, 0]), .inLoop (cAt (bodyOf Try.f58) [1, 1, 1, 1, 0, 0, 0]), .inBlock 0, .code (cAt (bodyOf Try.f58) [1, 1, 1, 1, 1])] (SFs m o ng) [] 1 [] (.p (.str s)) =
    some [((m != 0) = false),
  (ng = false),
  (o = s)] := by kernel_rfl
theorem fI0 (n : Int) (s : ByteArray) :
    pathOb Try.prog Try.f67 0 [.reg [oT], .reg [oT, oT], .dec true, .reg [oT]] [.code (bodyOf Try.f67)] (start Try.f67 [] 0 [.p (.int .i64 n)]) [] 1 [] (.p (.str s)) =
    some [((n == 0) = true),
  (ByteArray.mk #[48] = s)] := by kernel_rfl
theorem fIz (n : Int) :
    pieceOb Try.prog 0 [.reg [oT], .reg [oT, oT], .dec false, .reg [oT, oT], .reg [oT, oT], .head] [.code (bodyOf Try.f67)] (start Try.f67 [] 0 [.p (.int .i64 n)]) [96] 1 (SFi n n 0 (fun _ => 0)) =
    some ([.code (cAt (bodyOf Try.f67) [1, 1, 1, 0, 1, 0, 0]), .inLoop (cAt (bodyOf Try.f67) [1, 1, 1, 0, 1, 0, 0]), .inBlock 0, .code (cAt (bodyOf Try.f67) [1, 1, 1, 1])], [((n == 0) = false),
  (AI n),
  (AN 0),
  (AN 0),
  (AI n),
  (AN 1),
  ((0 : Nat) ≤ 0),
  (∀ i : Nat, (((i : Nat) < 0) → (All [] ∧ (([.p .any] : List AV) = [.p (.int .u8 0)]))))]) := by kernel_rfl
theorem fIn (n m m2 : Int) (l : Nat) (f : Nat → Int) (x : Int) :
    pieceOb Try.prog 0 [.reg [oT, oT], .dec true, .reg [oT, oF, oT], .reg [oT, oT], .dec true, .reg [oT, oT, oT], .reg [oT, oT, oT, oT, oT, oT, oT], .reg [oT, oF, oT], .head] [.code (cAt (bodyOf Try.f67) [1, 1, 1, 0, 1, 0, 0]), .inLoop (cAt (bodyOf Try.f67) [1, 1, 1, 0, 1, 0, 0]), .inBlock 0, .code (cAt (bodyOf Try.f67) [1, 1, 1, 1])] (SFi n m l f) [481] 1 (SFi n m2 (l + 1) (apF l f x)) =
    some ([.code (cAt (bodyOf Try.f67) [1, 1, 1, 0, 1, 0, 0]), .inLoop (cAt (bodyOf Try.f67) [1, 1, 1, 0, 1, 0, 0]), .inBlock 0, .code (cAt (bodyOf Try.f67) [1, 1, 1, 1])], [((m != 0) = true),
  ((10 : Int) ≠ 0),
  ((decide (m.tmod 10 < 0)) = true),
  (((-9223372036854775808) : Int) ≤ (0 - m.tmod 10)),
  (((0 - m.tmod 10) : Int) ≤ 9223372036854775807),
  (((-9223372036854775808) : Int) ≤ (48 + (0 - m.tmod 10))),
  (((48 + (0 - m.tmod 10)) : Int) ≤ 9223372036854775807),
  ((0 : Int) ≤ (48 + (0 - m.tmod 10))),
  (((48 + (0 - m.tmod 10)) : Int) ≤ 255),
  ((1 : Nat) ≤ 1),
  ((l : Nat) ≤ l),
  ((((l + 1) * 1) : Nat) ≤ 140737488355328),
  (((l + 1) : Nat) ≤ 9223372036854775807),
  ((10 : Int) ≠ 0),
  (AI n),
  (AN 0),
  (AN ((l + 1))),
  (((IntKind.i64.wrap (m.tdiv 10)) : Int) = m2),
  (AN 1),
  (((l + 1) : Nat) ≤ (l + 1)),
  (∀ i : Nat, (((i : Nat) < (l + 1)) → (All (cvtL false [(481, ⟨false, 1, (l + 1), (fun i_1 => (if (i_1 < l) then [.p (.int .u8 (f i_1))] else [.p (.int .u8 (48 + (0 - m.tmod 10)))]))⟩), (449, ⟨false, 1, 1, (fun i_1 => [.p (.int .u8 (48 + (0 - m.tmod 10)))])⟩)] [481] 1 (if (i < l) then [.p (.int .u8 (f i))] else [.p (.int .u8 (48 + (0 - m.tmod 10)))])).2 ∧ (((cvtL false [(481, ⟨false, 1, (l + 1), (fun i_1 => (if (i_1 < l) then [.p (.int .u8 (f i_1))] else [.p (.int .u8 (48 + (0 - m.tmod 10)))]))⟩), (449, ⟨false, 1, 1, (fun i_1 => [.p (.int .u8 (48 + (0 - m.tmod 10)))])⟩)] [481] 1 (if (i < l) then [.p (.int .u8 (f i))] else [.p (.int .u8 (48 + (0 - m.tmod 10)))])).1 : List AV) = [.p (.int .u8 (apF l f x i))]))))]) := by kernel_rfl
theorem fIp (n m m2 : Int) (l : Nat) (f : Nat → Int) (x : Int) :
    pieceOb Try.prog 0 [.reg [oT, oT], .dec true, .reg [oT, oF, oT], .reg [oT, oT], .dec false, .reg [oT, oT, oT, oT, oT, oT, oT], .reg [oT, oF, oT], .head] [.code (cAt (bodyOf Try.f67) [1, 1, 1, 0, 1, 0, 0]), .inLoop (cAt (bodyOf Try.f67) [1, 1, 1, 0, 1, 0, 0]), .inBlock 0, .code (cAt (bodyOf Try.f67) [1, 1, 1, 1])] (SFi n m l f) [385] 1 (SFi n m2 (l + 1) (apF l f x)) =
    some ([.code (cAt (bodyOf Try.f67) [1, 1, 1, 0, 1, 0, 0]), .inLoop (cAt (bodyOf Try.f67) [1, 1, 1, 0, 1, 0, 0]), .inBlock 0, .code (cAt (bodyOf Try.f67) [1, 1, 1, 1])], [((m != 0) = true),
  ((10 : Int) ≠ 0),
  ((decide (m.tmod 10 < 0)) = false),
  (((-9223372036854775808) : Int) ≤ (48 + m.tmod 10)),
  (((48 + m.tmod 10) : Int) ≤ 9223372036854775807),
  ((0 : Int) ≤ (48 + m.tmod 10)),
  (((48 + m.tmod 10) : Int) ≤ 255),
  ((1 : Nat) ≤ 1),
  ((l : Nat) ≤ l),
  ((((l + 1) * 1) : Nat) ≤ 140737488355328),
  (((l + 1) : Nat) ≤ 9223372036854775807),
  ((10 : Int) ≠ 0),
  (AI n),
  (AN 0),
  (AN ((l + 1))),
  (((IntKind.i64.wrap (m.tdiv 10)) : Int) = m2),
  (AN 1),
  (((l + 1) : Nat) ≤ (l + 1)),
  (∀ i : Nat, (((i : Nat) < (l + 1)) → (All (cvtL false [(385, ⟨false, 1, (l + 1), (fun i_1 => (if (i_1 < l) then [.p (.int .u8 (f i_1))] else [.p (.int .u8 (48 + m.tmod 10))]))⟩), (353, ⟨false, 1, 1, (fun i_1 => [.p (.int .u8 (48 + m.tmod 10))])⟩)] [385] 1 (if (i < l) then [.p (.int .u8 (f i))] else [.p (.int .u8 (48 + m.tmod 10))])).2 ∧ (((cvtL false [(385, ⟨false, 1, (l + 1), (fun i_1 => (if (i_1 < l) then [.p (.int .u8 (f i_1))] else [.p (.int .u8 (48 + m.tmod 10))]))⟩), (353, ⟨false, 1, 1, (fun i_1 => [.p (.int .u8 (48 + m.tmod 10))])⟩)] [385] 1 (if (i < l) then [.p (.int .u8 (f i))] else [.p (.int .u8 (48 + m.tmod 10))])).1 : List AV) = [.p (.int .u8 (apF l f x i))]))))]) := by kernel_rfl
theorem fIt (n m : Int) (l : Nat) (f : Nat → Int) :
    pieceOb Try.prog 0 [.reg [oT, oT], .dec false, .reg [oT, oT], .dec true, .reg [oT, oT, oT, oT], .reg [oT, oT, oT, oT, oT], .head] [.code (cAt (bodyOf Try.f67) [1, 1, 1, 0, 1, 0, 0]), .inLoop (cAt (bodyOf Try.f67) [1, 1, 1, 0, 1, 0, 0]), .inBlock 0, .code (cAt (bodyOf Try.f67) [1, 1, 1, 1])] (SFi n m l f) [193] 1 (SFr (l + 1) 0 (((l + 1 : Nat) : Int) - 1) (apF l f 45)) =
    some ([.code (cAt (bodyOf Try.f67) [1, 1, 1, 1, 1, 0, 1, 0, 0]), .inLoop (cAt (bodyOf Try.f67) [1, 1, 1, 1, 1, 0, 1, 0, 0]), .inBlock 2, .code (cAt (bodyOf Try.f67) [1, 1, 1, 1, 1, 1])], [((m != 0) = false),
  ((decide (n < 0)) = true),
  ((1 : Nat) ≤ 1),
  ((l : Nat) ≤ l),
  ((((l + 1) * 1) : Nat) ≤ 140737488355328),
  (((l + 1) : Nat) ≤ 9223372036854775807),
  (((-9223372036854775808) : Int) ≤ ((↑(l + 1) : Int) - 1)),
  ((((↑(l + 1) : Int) - 1) : Int) ≤ 9223372036854775807),
  (AN 0),
  (AN ((l + 1))),
  ((0 : Int) = (↑0 : Int)),
  (AI (((↑(l + 1) : Int) - 1))),
  (AN 1),
  (((l + 1) : Nat) ≤ (l + 1)),
  (∀ i : Nat, (((i : Nat) < (l + 1)) → (All (cvtL false [(193, ⟨false, 1, (l + 1), (fun i_1 => (if (i_1 < l) then [.p (.int .u8 (f i_1))] else [.p (.int .u8 45)]))⟩), (161, ⟨false, 1, 1, (fun i_1 => [.p (.int .u8 45)])⟩)] [193] 1 (if (i < l) then [.p (.int .u8 (f i))] else [.p (.int .u8 45)])).2 ∧ (((cvtL false [(193, ⟨false, 1, (l + 1), (fun i_1 => (if (i_1 < l) then [.p (.int .u8 (f i_1))] else [.p (.int .u8 45)]))⟩), (161, ⟨false, 1, 1, (fun i_1 => [.p (.int .u8 45)])⟩)] [193] 1 (if (i < l) then [.p (.int .u8 (f i))] else [.p (.int .u8 45)])).1 : List AV) = [.p (.int .u8 (apF l f 45 i))]))))]) := by kernel_rfl
theorem fIf (n m : Int) (l : Nat) (f : Nat → Int) :
    pieceOb Try.prog 0 [.reg [oT, oT], .dec false, .reg [oT, oT], .dec false, .reg [oT, oT, oT, oT, oT], .head] [.code (cAt (bodyOf Try.f67) [1, 1, 1, 0, 1, 0, 0]), .inLoop (cAt (bodyOf Try.f67) [1, 1, 1, 0, 1, 0, 0]), .inBlock 0, .code (cAt (bodyOf Try.f67) [1, 1, 1, 1])] (SFi n m l f) [0] 1 (SFr l 0 ((l : Int) - 1) f) =
    some ([.code (cAt (bodyOf Try.f67) [1, 1, 1, 1, 1, 0, 1, 0, 0]), .inLoop (cAt (bodyOf Try.f67) [1, 1, 1, 1, 1, 0, 1, 0, 0]), .inBlock 2, .code (cAt (bodyOf Try.f67) [1, 1, 1, 1, 1, 1])], [((m != 0) = false),
  ((decide (n < 0)) = false),
  (((-9223372036854775808) : Int) ≤ ((↑l : Int) - 1)),
  ((((↑l : Int) - 1) : Int) ≤ 9223372036854775807),
  (AN 0),
  (AN l),
  ((0 : Int) = (↑0 : Int)),
  (AI (((↑l : Int) - 1))),
  (AN 1),
  ((l : Nat) ≤ l),
  (AA l (fun i => [.p (.int .u8 (f i))]))]) := by kernel_rfl
theorem fIs (l i : Nat) (j : Int) (f : Nat → Int) :
    pieceOb Try.prog 0 [.reg [oT, oT, oT], .dec true, .reg [oT, oT, oT, oT, oT, oT, oT, oT, oT, oT, oT, oT, oT, oT, oT, oT], .reg [oT, oT, oT, oT, oT, oT], .head] [.code (cAt (bodyOf Try.f67) [1, 1, 1, 1, 1, 0, 1, 0, 0]), .inLoop (cAt (bodyOf Try.f67) [1, 1, 1, 1, 1, 0, 1, 0, 0]), .inBlock 2, .code (cAt (bodyOf Try.f67) [1, 1, 1, 1, 1, 1])] (SFr l i j f) [0] 1 (SFr l (i + 1) (j - 1) (swF i j.toNat f)) =
    some ([.code (cAt (bodyOf Try.f67) [1, 1, 1, 1, 1, 0, 1, 0, 0]), .inLoop (cAt (bodyOf Try.f67) [1, 1, 1, 1, 1, 0, 1, 0, 0]), .inBlock 2, .code (cAt (bodyOf Try.f67) [1, 1, 1, 1, 1, 1])], [((decide ((↑i : Int) < j)) = true),
  ((0 : Int) ≤ j),
  ((j : Int) < (↑l : Int)),
  ((j.toNat : Nat) < l),
  ((0 : Int) ≤ (↑i : Int)),
  (((↑i : Int) : Int) < (↑l : Int)),
  ((i : Nat) < l),
  ((0 : Int) ≤ (↑i : Int)),
  (((↑i : Int) : Int) < (↑l : Int)),
  ((i : Nat) < l),
  ((false = true) → ((l : Nat) = 1)),
  ((0 : Int) ≤ j),
  ((j : Int) < (↑l : Int)),
  ((j.toNat : Nat) < l),
  ((false = true) → ((l : Nat) = 1)),
  (((-9223372036854775808) : Int) ≤ ((↑i : Int) + 1)),
  ((((↑i : Int) + 1) : Int) ≤ 9223372036854775807),
  (((-9223372036854775808) : Int) ≤ (j - 1)),
  (((j - 1) : Int) ≤ 9223372036854775807),
  (AN 0),
  (AN l),
  ((((↑i : Int) + 1) : Int) = (↑(i + 1) : Int)),
  (AI ((j - 1))),
  (AN 1),
  ((l : Nat) ≤ l),
  (∀ i_1 : Nat, (((i_1 : Nat) < l) → (All (cvtL false [(0, ⟨false, 1, l, (fun i_2 => (if (i_2 = j.toNat) then [.p (.int .u8 (f i))] else (if (i_2 = i) then [.p (.int .u8 (f j.toNat))] else [.p (.int .u8 (f i_2))])))⟩)] [0] 1 (if (i_1 = j.toNat) then [.p (.int .u8 (f i))] else (if (i_1 = i) then [.p (.int .u8 (f j.toNat))] else [.p (.int .u8 (f i_1))]))).2 ∧ (((cvtL false [(0, ⟨false, 1, l, (fun i_2 => (if (i_2 = j.toNat) then [.p (.int .u8 (f i))] else (if (i_2 = i) then [.p (.int .u8 (f j.toNat))] else [.p (.int .u8 (f i_2))])))⟩)] [0] 1 (if (i_1 = j.toNat) then [.p (.int .u8 (f i))] else (if (i_1 = i) then [.p (.int .u8 (f j.toNat))] else [.p (.int .u8 (f i_1))]))).1 : List AV) = [.p (.int .u8 (swF i j.toNat f i_1))]))))]) := by kernel_rfl
theorem fIe (l i : Nat) (j : Int) (f : Nat → Int) (s : ByteArray) :
    pathOb Try.prog Try.f67 0 [.reg [oT, oT, oT], .dec false, .reg [oT, oT, oT]] [.code (cAt (bodyOf Try.f67) [1, 1, 1, 1, 1, 0, 1, 0, 0]), .inLoop (cAt (bodyOf Try.f67) [1, 1, 1, 1, 1, 0, 1, 0, 0]), .inBlock 2, .code (cAt (bodyOf Try.f67) [1, 1, 1, 1, 1, 1])] (SFr l i j f) [] 1 [] (.p (.str s)) =
    some [((decide ((↑i : Int) < j)) = false),
  ((l : Nat) ≤ l),
  (okBytes l (fun i_1 => [.p (.int .u8 (f i_1))])),
  ((bytesOf l fun i => [AV.p (PV.int IntKind.u8 (f i))]) = s)] := by kernel_rfl
def dg : Nat → Nat → List Int
  | 0, _ => []
  | f + 1, m => if m = 0 then [] else (48 + ((m % 10 : Nat) : Int)) :: dg f (m / 10)
def bs (l : List Int) : ByteArray := l.foldl (fun r n => r.push (UInt8.ofNat n.toNat)) ByteArray.empty
def fmtL (n : Int) : List Int := dg 20 n.natAbs ++ (if n < 0 then [45] else [])
def fmtI (n : Int) : ByteArray := if n = 0 then bs [48] else bs (fmtL n).reverse
theorem bs_fold (l : List Int) : ∀ s : ByteArray, (l.foldl (fun r n => r.push (UInt8.ofNat n.toNat)) s).data = s.data ++ (l.map fun n => UInt8.ofNat n.toNat).toArray := by
  induction l with
  | nil => intro s; simp
  | cons x l ih =>
    intro s
    simp only [List.foldl_cons, ih, List.map_cons]
    show s.data.push (UInt8.ofNat x.toNat) ++ _ = _
    simp
theorem bs_data (l : List Int) : (bs l).data = (l.map fun n => UInt8.ofNat n.toNat).toArray := by
  rw [bs, bs_fold]
  show #[] ++ _ = _
  simp
theorem bs_append (a b : List Int) : bs (a ++ b) = bs a ++ bs b := by
  apply ByteArray.ext
  rw [bs_data, ByteArray.data_append, bs_data, bs_data]
  simp
theorem bs_size (l : List Int) : (bs l).size = l.length := by
  show (bs l).data.size = _
  rw [bs_data]; simp
theorem bytesOf_bs (m : Nat) (f : Nat → Int) : bytesOf m (fun i => [.p (.int .u8 (f i))]) = bs ((List.range m).map f) := rfl
theorem tm10 (c : Int) : c.tmod 10 = if 0 ≤ c then ((c.natAbs % 10 : Nat) : Int) else -((c.natAbs % 10 : Nat) : Int) := by
  obtain ⟨k, rfl | rfl⟩ := c.eq_nat_or_neg
  · rw [if_pos (by omega), Int.natAbs_natCast]; rfl
  · by_cases h : k = 0
    · subst h; rfl
    · rw [if_neg (by omega), Int.neg_tmod, Int.natAbs_neg, Int.natAbs_natCast]; rfl
theorem td10 (c : Int) : c.tdiv 10 = if 0 ≤ c then ((c.natAbs / 10 : Nat) : Int) else -((c.natAbs / 10 : Nat) : Int) := by
  obtain ⟨k, rfl | rfl⟩ := c.eq_nat_or_neg
  · rw [if_pos (by omega), Int.natAbs_natCast]; rfl
  · by_cases h : k = 0
    · subst h; rfl
    · rw [if_neg (by omega), Int.neg_tdiv, Int.natAbs_neg, Int.natAbs_natCast]; rfl
theorem td_abs (c : Int) : (c.tdiv 10).natAbs = c.natAbs / 10 := by
  rw [td10]; split <;> omega
theorem dg_len : ∀ f m, (dg f m).length ≤ f
  | 0, _ => Nat.le_refl _
  | f + 1, m => by
    simp only [dg]
    split
    · simp
    · have := dg_len f (m / 10); simp; omega
theorem fmt_size (n : Int) : (fmtI n).size ≤ 21 := by
  unfold fmtI
  split
  · simp [bs_size]
  · rw [bs_size, fmtL, List.length_reverse, List.length_append]
    have := dg_len 20 n.natAbs
    split <;> simp <;> omega
theorem con_FormatInt_s (n : Int) (h0 : -9223372036854775808 ≤ n) (h1 : n ≤ 9223372036854775807) : Con Try.prog 58 0 [] [.p (.int .i64 n)] [] (.p (.str (fmtI n))) := by
  refine con_start Try.func58 rfl (by kernel_rfl) rfl (fun c hc => ?_)
  by_cases hz : n = 0
  · subst hz
    refine path_ok mixed Try.func58 hc (fS0 0 (fmtI 0)) ?_
    simp only [All]
    repeat' (first | exact trivial | with_reducible apply And.intro)
    all_goals (first | exact aG _ | exact aP _ _ | exact aA _ _ | exact aE _ | omega | rfl | (intros; first | assumption | exact True.intro | rfl | exact absurd (show false = true by assumption) Bool.false_ne_true | ((repeat' (first | assumption | apply anda | apply notf)); done)) | rfl | (exact ByteArray.ext (by rw [fmtI, if_pos rfl, bs_data]; rfl)))
  have hz' : (n == 0) = false := by simpa using hz
  have lp : ∀ f m l, l.length + f = 20 → m.natAbs < 10 ^ f → dg 20 n.natAbs = l ++ dg f m.natAbs → (n < 0 → m ≤ 0) → (0 ≤ n → 0 ≤ m) → -9223372036854775808 ≤ m → m ≤ 9223372036854775807 →
      Run Try.prog c 58 [.code (cAt (bodyOf Try.f58) [1, 1, 1, 1, 0, 0, 0]), .inLoop (cAt (bodyOf Try.f58) [1, 1, 1, 1, 0, 0, 0]), .inBlock 0, .code (cAt (bodyOf Try.f58) [1, 1, 1, 1, 1])] (SFs m (bs l.reverse) (decide (n < 0))) (Post c [] (.p (.str (fmtI n)))) := by
    have fin : ∀ l, dg 20 n.natAbs = l → l.length ≤ 20 → Run Try.prog c 58 [.code (cAt (bodyOf Try.f58) [1, 1, 1, 1, 0, 0, 0]), .inLoop (cAt (bodyOf Try.f58) [1, 1, 1, 1, 0, 0, 0]), .inBlock 0, .code (cAt (bodyOf Try.f58) [1, 1, 1, 1, 1])] (SFs 0 (bs l.reverse) (decide (n < 0))) (Post c [] (.p (.str (fmtI n)))) := by
      intro l hl hl2
      have hsz := bs_size l.reverse
      rw [List.length_reverse] at hsz
      by_cases hn : n < 0
      · rw [decide_eq_true hn]
        refine path_ok mixed Try.func58 hc (fSt 0 (bs l.reverse) (fmtI n) true) ?_
        simp only [All]
        repeat' (first | exact trivial | with_reducible apply And.intro)
        all_goals (first | exact aG _ | exact aP _ _ | exact aA _ _ | exact aE _ | omega | rfl | (intros; first | assumption | exact True.intro | rfl | exact absurd (show false = true by assumption) Bool.false_ne_true | ((repeat' (first | assumption | apply anda | apply notf)); done)) | (show _ + (bs l.reverse).size ≤ _; rw [hsz]; show 1 + l.length ≤ _; omega) | (rw [fmtI, if_neg hz, fmtL, if_pos hn, hl, List.reverse_append, bs_append]; exact congrArg (· ++ bs l.reverse) (ByteArray.ext (by rw [bs_data]; rfl))))
      · rw [decide_eq_false hn]
        refine path_ok mixed Try.func58 hc (fSf 0 (bs l.reverse) (fmtI n) false) ?_
        simp only [All]
        repeat' (first | exact trivial | with_reducible apply And.intro)
        all_goals (first | exact aG _ | exact aP _ _ | exact aA _ _ | exact aE _ | omega | rfl | (intros; first | assumption | exact True.intro | rfl | exact absurd (show false = true by assumption) Bool.false_ne_true | ((repeat' (first | assumption | apply anda | apply notf)); done)) | (rw [fmtI, if_neg hz, fmtL, if_neg hn, hl, List.append_nil]))
    intro f
    induction f with
    | zero =>
      intro m l hl hm hd hs1 hs2 hb1 hb2
      obtain rfl : m = 0 := by simp at hm; omega
      exact fin l (by rw [hd]; simp [dg]) (by omega)
    | succ f ih =>
      intro m l hl hm hd hs1 hs2 hb1 hb2
      by_cases hm0 : m = 0
      · subst hm0
        exact fin l (by rw [hd]; simp [dg]) (by omega)
      have hmt : (m != 0) = true := by simpa using hm0
      have hma : m.natAbs ≠ 0 := by omega
      have htd := td10 m
      have hrec := ih (m.tdiv 10) (l ++ [48 + ((m.natAbs % 10 : Nat) : Int)]) (by simp; omega) (by rw [td_abs]; rw [Nat.pow_succ] at hm; omega) (by rw [hd, td_abs, dg, if_neg hma]; simp) (by intro h; rw [htd]; split <;> omega) (by intro h; rw [htd]; split <;> omega) (by rw [htd]; split <;> omega) (by rw [htd]; split <;> omega)
      have hw : IntKind.i64.wrap (m.tdiv 10) = m.tdiv 10 := wrap_in (k := .i64) (by show (-9223372036854775808 : Int) ≤ _; rw [htd]; split <;> omega) (by show _ ≤ (9223372036854775807 : Int); rw [htd]; split <;> omega)
      have htm := tm10 m
      have hsz := bs_size l.reverse
      rw [List.length_reverse] at hsz
      have hb : ∀ d : Int, bytesOf 1 (fun _ => [.p (.int .u8 (48 + d))]) = bs [48 + d] := fun d => rfl
      have hout : ∀ d : Int, d = ((m.natAbs % 10 : Nat) : Int) → bs [48 + d] ++ bs l.reverse = bs (l ++ [48 + ((m.natAbs % 10 : Nat) : Int)]).reverse := by
        intro d hd'
        rw [List.reverse_append, bs_append, hd']; rfl
      by_cases hneg : m.tmod 10 < 0
      · have hng : decide (m.tmod 10 < 0) = true := decide_eq_true hneg
        have hd' : 0 - m.tmod 10 = ((m.natAbs % 10 : Nat) : Int) := by rw [htm] at hneg ⊢; split at hneg <;> simp_all <;> omega
        refine piece_ok mixed hc (fSn m (m.tdiv 10) (bs l.reverse) (bs (l ++ [48 + ((m.natAbs % 10 : Nat) : Int)]).reverse) (decide (n < 0))) ?_ hrec
        simp only [All]
        repeat' (first | exact trivial | with_reducible apply And.intro)
        all_goals (first | exact aG _ | exact aP _ _ | exact aA _ _ | exact aE _ | omega | rfl | (intros; first | assumption | exact True.intro | rfl | exact absurd (show false = true by assumption) Bool.false_ne_true | ((repeat' (first | assumption | apply anda | apply notf)); done)) | (exact hmt) | (exact hng) | (exact hw) | (intro i hi; exact ⟨_, rfl⟩) | (show (bs [48 + (0 - m.tmod 10)]).size + (bs l.reverse).size ≤ _; rw [hsz, bs_size]; show 1 + l.length ≤ _; omega) | (exact hout _ hd') | (show (_ : Int) ≤ _; rw [hd']; omega) | (simp only [imin, imax]; omega))
      · have hng : decide (m.tmod 10 < 0) = false := decide_eq_false hneg
        have hd' : m.tmod 10 = ((m.natAbs % 10 : Nat) : Int) := by rw [htm] at hneg ⊢; split at hneg <;> simp_all <;> omega
        refine piece_ok mixed hc (fSp m (m.tdiv 10) (bs l.reverse) (bs (l ++ [48 + ((m.natAbs % 10 : Nat) : Int)]).reverse) (decide (n < 0))) ?_ hrec
        simp only [All]
        repeat' (first | exact trivial | with_reducible apply And.intro)
        all_goals (first | exact aG _ | exact aP _ _ | exact aA _ _ | exact aE _ | omega | rfl | (intros; first | assumption | exact True.intro | rfl | exact absurd (show false = true by assumption) Bool.false_ne_true | ((repeat' (first | assumption | apply anda | apply notf)); done)) | (exact hmt) | (exact hng) | (exact hw) | (intro i hi; exact ⟨_, rfl⟩) | (show (bs [48 + m.tmod 10]).size + (bs l.reverse).size ≤ _; rw [hsz, bs_size]; show 1 + l.length ≤ _; omega) | (exact hout _ hd') | (show (_ : Int) ≤ _; rw [hd']; omega) | (simp only [imin, imax]; omega))
  refine piece_ok mixed hc (fSz n (bs [])) ?_ (lp 20 n [] rfl (by omega) rfl (fun h => by omega) (fun h => h) h0 h1)
  simp only [All]
  repeat' (first | exact trivial | with_reducible apply And.intro)
  all_goals (first | exact aG _ | exact aP _ _ | exact aA _ _ | exact aE _ | omega | rfl | (intros; first | assumption | exact True.intro | rfl | exact absurd (show false = true by assumption) Bool.false_ne_true | ((repeat' (first | assumption | apply anda | apply notf)); done)) | (exact hz') | rfl)
def lsI (n : Nat) (f : Nat → Int) : List Int := (List.range n).map f
theorem lsI_ap (n : Nat) (f : Nat → Int) (x : Int) : lsI (n + 1) (apF n f x) = lsI n f ++ [x] := by
  simp only [lsI, List.range_succ, List.map_append, List.map_cons, List.map_nil]
  congr 1
  · exact List.map_congr_left (fun i hi => by simp [apF, List.mem_range.1 hi])
  · simp [apF]
theorem lsI_rev (n : Nat) (f g : Nat → Int) (h : ∀ r, r < n → g r = f (n - 1 - r)) : lsI n g = (lsI n f).reverse := by
  apply List.ext_getElem
  · simp [lsI]
  · intro i h1 h2
    simp only [lsI, List.length_map, List.length_range] at h1
    simp [lsI, h i h1]
theorem con_FormatInt_i (n : Int) (h0 : -9223372036854775808 ≤ n) (h1 : n ≤ 9223372036854775807) : Con Try.prog 67 0 [] [.p (.int .i64 n)] [] (.p (.str (fmtI n))) := by
  refine con_start Try.func67 rfl (by kernel_rfl) rfl (fun c hc => ?_)
  by_cases hz : n = 0
  · subst hz
    refine path_ok mixed Try.func67 hc (fI0 0 (fmtI 0)) ?_
    simp only [All]
    repeat' (first | exact trivial | with_reducible apply And.intro)
    all_goals (first | exact aG _ | exact aP _ _ | exact aA _ _ | exact aE _ | omega | rfl | (intros; first | assumption | exact True.intro | rfl | exact absurd (show false = true by assumption) Bool.false_ne_true | ((repeat' (first | assumption | apply anda | apply notf)); done)) | rfl | (exact ByteArray.ext (by rw [fmtI, if_pos rfl, bs_data]; rfl)))
  have hz' : (n == 0) = false := by simpa using hz
  have lr : ∀ L f0, L ≤ 21 → lsI L f0 = fmtL n → ∀ d i f, i + d = L → i ≤ L → 2 * i ≤ L + 1 → (∀ r, r < L → f r = if r < i ∨ L - i ≤ r then f0 (L - 1 - r) else f0 r) →
      Run Try.prog c 67 [.code (cAt (bodyOf Try.f67) [1, 1, 1, 1, 1, 0, 1, 0, 0]), .inLoop (cAt (bodyOf Try.f67) [1, 1, 1, 1, 1, 0, 1, 0, 0]), .inBlock 2, .code (cAt (bodyOf Try.f67) [1, 1, 1, 1, 1, 1])] (SFr L i ((L : Int) - 1 - i) f) (Post c [] (.p (.str (fmtI n)))) := by
    intro L f0 hL hl d
    have fin : ∀ i f, i ≤ L → 2 * i ≤ L + 1 → L ≤ 2 * i + 1 → (∀ r, r < L → f r = if r < i ∨ L - i ≤ r then f0 (L - 1 - r) else f0 r) →
        Run Try.prog c 67 [.code (cAt (bodyOf Try.f67) [1, 1, 1, 1, 1, 0, 1, 0, 0]), .inLoop (cAt (bodyOf Try.f67) [1, 1, 1, 1, 1, 0, 1, 0, 0]), .inBlock 2, .code (cAt (bodyOf Try.f67) [1, 1, 1, 1, 1, 1])] (SFr L i ((L : Int) - 1 - i) f) (Post c [] (.p (.str (fmtI n)))) := by
      intro i f hi hi2 hi3 hf
      have hd : decide ((i : Int) < (L : Int) - 1 - i) = false := decide_eq_false (by omega)
      have hrev : ∀ r, r < L → f r = f0 (L - 1 - r) := by
        intro r hr
        rw [hf r hr]
        split
        · rfl
        · rename_i h
          rw [show L - 1 - r = r by omega]
      have he := lsI_rev L f0 f hrev
      refine path_ok mixed Try.func67 hc (fIe L i ((L : Int) - 1 - i) f (fmtI n)) ?_
      simp only [All]
      repeat' (first | exact trivial | with_reducible apply And.intro)
      all_goals (first | exact aG _ | exact aP _ _ | exact aA _ _ | exact aE _ | omega | rfl | (intros; first | assumption | exact True.intro | rfl | exact absurd (show false = true by assumption) Bool.false_ne_true | ((repeat' (first | assumption | apply anda | apply notf)); done)) | (exact hd) | (intro r hr; exact ⟨_, rfl⟩) | (rw [bytesOf_bs]; show bs (lsI L f) = _; rw [he, hl, fmtI, if_neg hz]))
    induction d with
    | zero =>
      intro i f hi hi1 hi2 hf
      exact fin i f hi1 hi2 (by omega) hf
    | succ d ih =>
      intro i f hi hi1 hi2 hf
      by_cases hlt : (i : Int) < (L : Int) - 1 - i
      · have hd : decide ((i : Int) < (L : Int) - 1 - i) = true := decide_eq_true hlt
        have hj : ((L : Int) - 1 - i).toNat = L - 1 - i := by omega
        have hrec := ih (i + 1) (swF i ((L : Int) - 1 - i).toNat f) (by omega) (by omega) (by omega) (by
          intro r hr
          rw [hj]
          unfold swF
          by_cases e1 : r = L - 1 - i
          · rw [if_pos e1, if_pos (by omega), hf i (by omega), if_neg (by omega), e1]
            rw [show L - 1 - (L - 1 - i) = i by omega]
          · rw [if_neg e1]
            by_cases e2 : r = i
            · rw [if_pos e2, if_pos (by omega), hf (L - 1 - i) (by omega), if_neg (by omega), e2]
            · rw [if_neg e2, hf r hr]
              by_cases e3 : r < i ∨ L - i ≤ r
              · rw [if_pos e3, if_pos (by omega)]
              · rw [if_neg e3, if_neg (by omega)])
        rw [show (L : Int) - 1 - ((i + 1 : Nat) : Int) = (L : Int) - 1 - i - 1 by omega] at hrec
        refine piece_ok mixed hc (fIs L i ((L : Int) - 1 - i) f) ?_ hrec
        simp only [All]
        repeat' (first | exact trivial | with_reducible apply And.intro)
        all_goals (first | exact aG _ | exact aP _ _ | exact aA _ _ | exact aE _ | omega | rfl | (intros; first | assumption | exact True.intro | rfl | exact absurd (show false = true by assumption) Bool.false_ne_true | ((repeat' (first | assumption | apply anda | apply notf)); done)) | (exact hd) | (intro r hr; generalize ((L : Int) - 1 - i).toNat = J; by_cases e1 : r = J <;> by_cases e2 : r = i <;> (first | (subst e2; simp [e1, swF, cvtL, cvt, tg, tru, All]; done) | (simp [e1, e2, swF, cvtL, cvt, tg, tru, All]; done))) | (simp only [imin, imax]; omega))
      · exact fin i f hi1 hi2 (by omega) hf
  have lp : ∀ f m l g, l + f = 20 → m.natAbs < 10 ^ f → dg 20 n.natAbs = lsI l g ++ dg f m.natAbs → (n < 0 → m ≤ 0) → (0 ≤ n → 0 ≤ m) → -9223372036854775808 ≤ m → m ≤ 9223372036854775807 →
      Run Try.prog c 67 [.code (cAt (bodyOf Try.f67) [1, 1, 1, 0, 1, 0, 0]), .inLoop (cAt (bodyOf Try.f67) [1, 1, 1, 0, 1, 0, 0]), .inBlock 0, .code (cAt (bodyOf Try.f67) [1, 1, 1, 1])] (SFi n m l g) (Post c [] (.p (.str (fmtI n)))) := by
    have fin : ∀ l g, dg 20 n.natAbs = lsI l g → l ≤ 20 → Run Try.prog c 67 [.code (cAt (bodyOf Try.f67) [1, 1, 1, 0, 1, 0, 0]), .inLoop (cAt (bodyOf Try.f67) [1, 1, 1, 0, 1, 0, 0]), .inBlock 0, .code (cAt (bodyOf Try.f67) [1, 1, 1, 1])] (SFi n 0 l g) (Post c [] (.p (.str (fmtI n)))) := by
      intro l g hl hl2
      by_cases hn : n < 0
      · have hd : decide (n < 0) = true := decide_eq_true hn
        have hr := lr (l + 1) (apF l g 45) (by omega) (by rw [lsI_ap, fmtL, if_pos hn, hl]) (l + 1) 0 (apF l g 45) (by omega) (by omega) (by omega) (fun r hr => by rw [if_neg (by omega)])
        rw [show ((l + 1 : Nat) : Int) - 1 - ((0 : Nat) : Int) = ((l + 1 : Nat) : Int) - 1 by omega] at hr
        refine piece_ok mixed hc (fIt n 0 l g) ?_ hr
        simp only [All]
        repeat' (first | exact trivial | with_reducible apply And.intro)
        all_goals (first | exact aG _ | exact aP _ _ | exact aA _ _ | exact aE _ | omega | rfl | (intros; first | assumption | exact True.intro | rfl | exact absurd (show false = true by assumption) Bool.false_ne_true | ((repeat' (first | assumption | apply anda | apply notf)); done)) | (exact hd) | (intro j hj; by_cases h' : j < l <;> simp [h', apF, cvtL, cvt, tg, tru, All]; done) | (simp only [imin, imax]; omega))
      · have hd : decide (n < 0) = false := decide_eq_false hn
        have hr := lr l g (by omega) (by rw [fmtL, if_neg hn, hl, List.append_nil]) l 0 g (by omega) (by omega) (by omega) (fun r hr => by rw [if_neg (by omega)])
        rw [show (l : Int) - 1 - ((0 : Nat) : Int) = (l : Int) - 1 by omega] at hr
        refine piece_ok mixed hc (fIf n 0 l g) ?_ hr
        simp only [All]
        repeat' (first | exact trivial | with_reducible apply And.intro)
        all_goals (first | exact aG _ | exact aP _ _ | exact aA _ _ | exact aE _ | omega | rfl | (intros; first | assumption | exact True.intro | rfl | exact absurd (show false = true by assumption) Bool.false_ne_true | ((repeat' (first | assumption | apply anda | apply notf)); done)) | (exact hd) | (intro j hj; simp [All]; done) | (simp only [imin, imax]; omega))
    intro f
    induction f with
    | zero =>
      intro m l g hl hm hd hs1 hs2 hb1 hb2
      obtain rfl : m = 0 := by simp at hm; omega
      exact fin l g (by rw [hd]; simp [dg]) (by omega)
    | succ f ih =>
      intro m l g hl hm hd hs1 hs2 hb1 hb2
      by_cases hm0 : m = 0
      · subst hm0
        exact fin l g (by rw [hd]; simp [dg]) (by omega)
      have hmt : (m != 0) = true := by simpa using hm0
      have hma : m.natAbs ≠ 0 := by omega
      have htd := td10 m
      have hrec := ih (m.tdiv 10) (l + 1) (apF l g (48 + ((m.natAbs % 10 : Nat) : Int))) (by omega) (by rw [td_abs]; rw [Nat.pow_succ] at hm; omega) (by rw [hd, td_abs, dg, if_neg hma, lsI_ap]; simp) (by intro h; rw [htd]; split <;> omega) (by intro h; rw [htd]; split <;> omega) (by rw [htd]; split <;> omega) (by rw [htd]; split <;> omega)
      have hw : IntKind.i64.wrap (m.tdiv 10) = m.tdiv 10 := wrap_in (k := .i64) (by show (-9223372036854775808 : Int) ≤ _; rw [htd]; split <;> omega) (by show _ ≤ (9223372036854775807 : Int); rw [htd]; split <;> omega)
      have htm := tm10 m
      by_cases hneg : m.tmod 10 < 0
      · have hng : decide (m.tmod 10 < 0) = true := decide_eq_true hneg
        have hd' : 0 - m.tmod 10 = ((m.natAbs % 10 : Nat) : Int) := by rw [htm] at hneg ⊢; split at hneg <;> simp_all <;> omega
        refine piece_ok mixed hc (fIn n m (m.tdiv 10) l g (48 + ((m.natAbs % 10 : Nat) : Int))) ?_ hrec
        simp only [All]
        repeat' (first | exact trivial | with_reducible apply And.intro)
        all_goals (first | exact aG _ | exact aP _ _ | exact aA _ _ | exact aE _ | omega | rfl | (intros; first | assumption | exact True.intro | rfl | exact absurd (show false = true by assumption) Bool.false_ne_true | ((repeat' (first | assumption | apply anda | apply notf)); done)) | (exact hmt) | (exact hng) | (exact hw) | (intro j hj; by_cases h' : j < l <;> simp [h', hd', apF, cvtL, cvt, tg, tru, All]; done) | (show (_ : Int) ≤ _; rw [hd']; omega) | (simp only [imin, imax]; omega))
      · have hng : decide (m.tmod 10 < 0) = false := decide_eq_false hneg
        have hd' : m.tmod 10 = ((m.natAbs % 10 : Nat) : Int) := by rw [htm] at hneg ⊢; split at hneg <;> simp_all <;> omega
        refine piece_ok mixed hc (fIp n m (m.tdiv 10) l g (48 + ((m.natAbs % 10 : Nat) : Int))) ?_ hrec
        simp only [All]
        repeat' (first | exact trivial | with_reducible apply And.intro)
        all_goals (first | exact aG _ | exact aP _ _ | exact aA _ _ | exact aE _ | omega | rfl | (intros; first | assumption | exact True.intro | rfl | exact absurd (show false = true by assumption) Bool.false_ne_true | ((repeat' (first | assumption | apply anda | apply notf)); done)) | (exact hmt) | (exact hng) | (exact hw) | (intro j hj; by_cases h' : j < l <;> simp [h', hd', apF, cvtL, cvt, tg, tru, All]; done) | (show (_ : Int) ≤ _; rw [hd']; omega) | (simp only [imin, imax]; omega))
  refine piece_ok mixed hc (fIz n) ?_ (lp 20 n 0 (fun _ => 0) rfl (by omega) (by simp [lsI]) (fun h => by omega) (fun h => h) h0 h1)
  simp only [All]
  repeat' (first | exact trivial | with_reducible apply And.intro)
  all_goals (first | exact aG _ | exact aP _ _ | exact aA _ _ | exact aE _ | omega | rfl | (intros; first | assumption | exact True.intro | rfl | exact absurd (show false = true by assumption) Bool.false_ne_true | ((repeat' (first | assumption | apply anda | apply notf)); done)) | (exact hz') | (intro j hj; exact absurd hj (Nat.not_lt_zero _)) | rfl)
end Go.Proofs.Ytffnfeefjdmifaa.Mach
namespace Go.Proofs.Ytffnfeefjdmifaa.Mach
open Go
set_option linter.unusedVariables false
set_option linter.unusedSimpArgs false
def s_IntS : Sh := (.sl (.int .i64))
abbrev T_IntS := Nat × (Nat → Int)
def f_szIntS (v : T_IntS) (m : Int) : Int := if m - v.1 < 0 then -1 else m - v.1
def s_BarS : Sh := (.sl (.st [(.int .i64), (.int .i64)]))
abbrev T_Bar := Int × Int × Unit
abbrev T_BarS := Nat × (Nat → T_Bar)
def f_szBarS (v : T_BarS) (m : Int) : Int := if m - v.1 < 0 then -1 else m - v.1
def s_Graph : Sh := (.st [(.int .i64), (.sl (.st [(.int .i64), (.int .i64)]))])
abbrev T_Graph := Int × T_BarS × Unit
def f_szGraph (v : T_Graph) (m : Int) : Int := if (f_szBarS v.2.1 m) < 0 then -1 else (f_szBarS v.2.1 m)
def s_PlaceS : Sh := (.sl (.st [(.int .i64), (.int .i64)]))
abbrev T_Place := Int × Int × Unit
abbrev T_PlaceS := Nat × (Nat → T_Place)
def f_szPlaceS (v : T_PlaceS) (m : Int) : Int := if m - v.1 < 0 then -1 else m - v.1
def s_Framework : Sh := (.st [(.st [(.int .i64), (.sl (.st [(.int .i64), (.int .i64)]))]), (.sl (.st [(.int .i64), (.int .i64)]))])
abbrev T_Framework := T_Graph × T_PlaceS × Unit
def f_szFramework (v : T_Framework) (m : Int) : Int := if (f_szGraph v.1 m) < 0 then -1 else (if (f_szPlaceS v.2.1 (f_szGraph v.1 m)) < 0 then -1 else (f_szPlaceS v.2.1 (f_szGraph v.1 m)))
def s_Tensegrity : Sh := (.st [(.st [(.st [(.int .i64), (.sl (.st [(.int .i64), (.int .i64)]))]), (.sl (.st [(.int .i64), (.int .i64)]))]), (.sl (.int .i64))])
abbrev T_Tensegrity := T_Framework × T_IntS × Unit
def f_szTensegrity (v : T_Tensegrity) (m : Int) : Int := if (f_szFramework v.1 m) < 0 then -1 else (if (f_szIntS v.2.1 (f_szFramework v.1 m)) < 0 then -1 else (f_szIntS v.2.1 (f_szFramework v.1 m)))
def s_StepS : Sh := (.sl (.st [(.int .i64), (.int .i64), (.int .i64), (.int .i64), (.int .i64)]))
abbrev T_Step := Int × Int × Int × Int × Int × Unit
abbrev T_StepS := Nat × (Nat → T_Step)
def f_szStepS (v : T_StepS) (m : Int) : Int := if m - v.1 < 0 then -1 else m - v.1
def s_Claim : Sh := (.st [(.int .i64), (.st [(.int .i64), (.sl (.st [(.int .i64), (.int .i64)]))]), (.st [(.st [(.st [(.int .i64), (.sl (.st [(.int .i64), (.int .i64)]))]), (.sl (.st [(.int .i64), (.int .i64)]))]), (.sl (.int .i64))]), (.sl (.st [(.int .i64), (.int .i64), (.int .i64), (.int .i64), (.int .i64)])), (.sl (.int .i64))])
abbrev T_Claim := Int × T_Graph × T_Tensegrity × T_StepS × T_IntS × Unit
def f_szClaim (v : T_Claim) (m : Int) : Int := if (f_szGraph v.2.1 m) < 0 then -1 else (if (f_szTensegrity v.2.2.1 (f_szGraph v.2.1 m)) < 0 then -1 else (if (f_szStepS v.2.2.2.1 (f_szTensegrity v.2.2.1 (f_szGraph v.2.1 m))) < 0 then -1 else (if (f_szIntS v.2.2.2.2.1 (f_szStepS v.2.2.2.1 (f_szTensegrity v.2.2.1 (f_szGraph v.2.1 m)))) < 0 then -1 else (f_szIntS v.2.2.2.2.1 (f_szStepS v.2.2.2.1 (f_szTensegrity v.2.2.1 (f_szGraph v.2.1 m)))))))
def S_toIntS (v : T_IntS) (k : Nat) : St :=
  ⟨[.p (.seq true 1 v.1 (fun i => [.int .i64 (v.2 i)])), .p .any, .p .any, .ar 1 0 0 v.1, .p (.int .i64 k)] ++ List.replicate 17 anyA, [(0, ⟨false, 1, v.1, fun i => [.p (.int .i64 (if i < k then (v.2 i) else 0))]⟩)], 1⟩
def s_Bar : Sh := (.st [(.int .i64), (.int .i64)])
def S_toBarS (v : T_BarS) (k : Nat) : St :=
  ⟨[.p (.seq true 2 v.1 (fun i => [.int .i64 ((v.2 i).1), .int .i64 ((v.2 i).2.1)])), .p .any, .p .any, .ar 2 0 0 v.1, .p (.int .i64 k)] ++ List.replicate 18 anyA, [(0, ⟨false, 2, v.1, fun i => [.p (.int .i64 (if i < k then (v.2 i).1 else 0)), .p (.int .i64 (if i < k then (v.2 i).2.1 else 0))]⟩)], 1⟩
def s_Place : Sh := (.st [(.int .i64), (.int .i64)])
def S_toPlaceS (v : T_PlaceS) (k : Nat) : St :=
  ⟨[.p (.seq true 2 v.1 (fun i => [.int .i64 ((v.2 i).1), .int .i64 ((v.2 i).2.1)])), .p .any, .p .any, .ar 2 0 0 v.1, .p (.int .i64 k)] ++ List.replicate 18 anyA, [(0, ⟨false, 2, v.1, fun i => [.p (.int .i64 (if i < k then (v.2 i).1 else 0)), .p (.int .i64 (if i < k then (v.2 i).2.1 else 0))]⟩)], 1⟩
def s_Step : Sh := (.st [(.int .i64), (.int .i64), (.int .i64), (.int .i64), (.int .i64)])
def S_toStepS (v : T_StepS) (k : Nat) : St :=
  ⟨[.p (.seq true 5 v.1 (fun i => [.int .i64 ((v.2 i).1), .int .i64 ((v.2 i).2.1), .int .i64 ((v.2 i).2.2.1), .int .i64 ((v.2 i).2.2.2.1), .int .i64 ((v.2 i).2.2.2.2.1)])), .p .any, .p .any, .ar 5 0 0 v.1, .p (.int .i64 k)] ++ List.replicate 18 anyA, [(0, ⟨false, 5, v.1, fun i => [.p (.int .i64 (if i < k then (v.2 i).1 else 0)), .p (.int .i64 (if i < k then (v.2 i).2.1 else 0)), .p (.int .i64 (if i < k then (v.2 i).2.2.1 else 0)), .p (.int .i64 (if i < k then (v.2 i).2.2.2.1 else 0)), .p (.int .i64 (if i < k then (v.2 i).2.2.2.2.1 else 0))]⟩)], 1⟩
def S_eqIntS (v : T_IntS) (k : Nat) : St :=
  ⟨[.p (.seq true 1 v.1 (fun i => [.int .i64 (v.2 i)])), .p (.seq true 1 v.1 (fun i => [.int .i64 (v.2 i)])), .p .any, .p .any, .p .any, .p (.int .i64 k)] ++ List.replicate 20 anyA, [], 0⟩
def S_eqBarS (v : T_BarS) (k : Nat) : St :=
  ⟨[.p (.seq true 2 v.1 (fun i => [.int .i64 ((v.2 i).1), .int .i64 ((v.2 i).2.1)])), .p (.seq true 2 v.1 (fun i => [.int .i64 ((v.2 i).1), .int .i64 ((v.2 i).2.1)])), .p .any, .p .any, .p .any, .p (.int .i64 k)] ++ List.replicate 21 anyA, [], 0⟩
def S_eqPlaceS (v : T_PlaceS) (k : Nat) : St :=
  ⟨[.p (.seq true 2 v.1 (fun i => [.int .i64 ((v.2 i).1), .int .i64 ((v.2 i).2.1)])), .p (.seq true 2 v.1 (fun i => [.int .i64 ((v.2 i).1), .int .i64 ((v.2 i).2.1)])), .p .any, .p .any, .p .any, .p (.int .i64 k)] ++ List.replicate 21 anyA, [], 0⟩
def S_eqStepS (v : T_StepS) (k : Nat) : St :=
  ⟨[.p (.seq true 5 v.1 (fun i => [.int .i64 ((v.2 i).1), .int .i64 ((v.2 i).2.1), .int .i64 ((v.2 i).2.2.1), .int .i64 ((v.2 i).2.2.2.1), .int .i64 ((v.2 i).2.2.2.2.1)])), .p (.seq true 5 v.1 (fun i => [.int .i64 ((v.2 i).1), .int .i64 ((v.2 i).2.1), .int .i64 ((v.2 i).2.2.1), .int .i64 ((v.2 i).2.2.2.1), .int .i64 ((v.2 i).2.2.2.2.1)])), .p .any, .p .any, .p .any, .p (.int .i64 k)] ++ List.replicate 21 anyA, [], 0⟩
theorem p_szIntS_a (v : T_IntS) (m : Int) :
    pathOb Try.prog Try.f85 0 [.reg [oT], .reg [oT, oT, oT, oT, oT], .reg [oT, oT], .dec true, .reg [oT]] [.code (bodyOf Try.f85)] (start Try.f85 [] 0 [.p (.seq true 1 v.1 (fun i => [.int .i64 (v.2 i)])), .p (.int .i64 m)]) [] 1 [] (.p (.int .i64 (-1))) =
    some [(((-9223372036854775808) : Int) ≤ (m - (↑v.1 : Int))),
  (((m - (↑v.1 : Int)) : Int) ≤ 9223372036854775807),
  ((decide (m - (↑v.1 : Int) < 0)) = true),
  (AI ((-1)))] := by kernel_rfl
theorem p_szIntS_b (v : T_IntS) (m : Int) :
    pathOb Try.prog Try.f85 0 [.reg [oT], .reg [oT, oT, oT, oT, oT], .reg [oT, oT], .dec false, .reg [oT, oT]] [.code (bodyOf Try.f85)] (start Try.f85 [] 0 [.p (.seq true 1 v.1 (fun i => [.int .i64 (v.2 i)])), .p (.int .i64 m)]) [] 1 [] (.p (.int .i64 (m - v.1))) =
    some [(((-9223372036854775808) : Int) ≤ (m - (↑v.1 : Int))),
  (((m - (↑v.1 : Int)) : Int) ≤ 9223372036854775807),
  ((decide (m - (↑v.1 : Int) < 0)) = false),
  (AI ((m - (↑v.1 : Int))))] := by kernel_rfl
theorem p_szBarS_a (v : T_BarS) (m : Int) :
    pathOb Try.prog Try.f47 0 [.reg [oT], .reg [oT, oT, oT, oT, oT], .reg [oT, oT], .dec true, .reg [oT]] [.code (bodyOf Try.f47)] (start Try.f47 [] 0 [.p (.seq true 2 v.1 (fun i => [.int .i64 ((v.2 i).1), .int .i64 ((v.2 i).2.1)])), .p (.int .i64 m)]) [] 1 [] (.p (.int .i64 (-1))) =
    some [(((-9223372036854775808) : Int) ≤ (m - (↑v.1 : Int))),
  (((m - (↑v.1 : Int)) : Int) ≤ 9223372036854775807),
  ((decide (m - (↑v.1 : Int) < 0)) = true),
  (AI ((-1)))] := by kernel_rfl
theorem p_szBarS_b (v : T_BarS) (m : Int) :
    pathOb Try.prog Try.f47 0 [.reg [oT], .reg [oT, oT, oT, oT, oT], .reg [oT, oT], .dec false, .reg [oT, oT]] [.code (bodyOf Try.f47)] (start Try.f47 [] 0 [.p (.seq true 2 v.1 (fun i => [.int .i64 ((v.2 i).1), .int .i64 ((v.2 i).2.1)])), .p (.int .i64 m)]) [] 1 [] (.p (.int .i64 (m - v.1))) =
    some [(((-9223372036854775808) : Int) ≤ (m - (↑v.1 : Int))),
  (((m - (↑v.1 : Int)) : Int) ≤ 9223372036854775807),
  ((decide (m - (↑v.1 : Int) < 0)) = false),
  (AI ((m - (↑v.1 : Int))))] := by kernel_rfl
theorem p_szGraph_0 (v : T_Graph) (m : Int) :
    pathOb Try.prog Try.f14 0 [.reg [oT, oT], .reg [oT, oT, oT, ⟨true, (some ⟨[], [], [], 1, [], .p (.int .i64 (f_szBarS v.2.1 m))⟩), none⟩, oT], .reg [oT, oT], .dec true, .reg [oT]] [.code (bodyOf Try.f14)] (start Try.f14 [] 0 [.agg [.p (.int .i64 v.1), .p (.seq true 2 v.2.1.1 (fun i => [.int .i64 ((v.2.1.2 i).1), .int .i64 ((v.2.1.2 i).2.1)]))], .p (.int .i64 m)]) [] 1 [] (.p (.int .i64 (-1))) =
    some [((0 : Nat) < 1),
  Con Try.prog 47 0 [] [.p (.seq true 2 v.2.1.1 (fun i => [.int .i64 ((v.2.1.2 i).1), .int .i64 ((v.2.1.2 i).2.1)])), .p (.int .i64 m)] [] (.p (.int .i64 (f_szBarS v.2.1 m))),
  ((decide (f_szBarS v.2.1 m < 0)) = true),
  (AI ((-1)))] := by kernel_rfl
theorem p_szGraph_e (v : T_Graph) (m : Int) :
    pathOb Try.prog Try.f14 0 [.reg [oT, oT], .reg [oT, oT, oT, ⟨true, (some ⟨[], [], [], 1, [], .p (.int .i64 (f_szBarS v.2.1 m))⟩), none⟩, oT], .reg [oT, oT], .dec false, .reg [oT, oT]] [.code (bodyOf Try.f14)] (start Try.f14 [] 0 [.agg [.p (.int .i64 v.1), .p (.seq true 2 v.2.1.1 (fun i => [.int .i64 ((v.2.1.2 i).1), .int .i64 ((v.2.1.2 i).2.1)]))], .p (.int .i64 m)]) [] 1 [] (.p (.int .i64 (f_szBarS v.2.1 m))) =
    some [((0 : Nat) < 1),
  Con Try.prog 47 0 [] [.p (.seq true 2 v.2.1.1 (fun i => [.int .i64 ((v.2.1.2 i).1), .int .i64 ((v.2.1.2 i).2.1)])), .p (.int .i64 m)] [] (.p (.int .i64 (f_szBarS v.2.1 m))),
  ((decide (f_szBarS v.2.1 m < 0)) = false),
  (AI ((f_szBarS v.2.1 m)))] := by kernel_rfl
theorem p_szPlaceS_a (v : T_PlaceS) (m : Int) :
    pathOb Try.prog Try.f149 0 [.reg [oT], .reg [oT, oT, oT, oT, oT], .reg [oT, oT], .dec true, .reg [oT]] [.code (bodyOf Try.f149)] (start Try.f149 [] 0 [.p (.seq true 2 v.1 (fun i => [.int .i64 ((v.2 i).1), .int .i64 ((v.2 i).2.1)])), .p (.int .i64 m)]) [] 1 [] (.p (.int .i64 (-1))) =
    some [(((-9223372036854775808) : Int) ≤ (m - (↑v.1 : Int))),
  (((m - (↑v.1 : Int)) : Int) ≤ 9223372036854775807),
  ((decide (m - (↑v.1 : Int) < 0)) = true),
  (AI ((-1)))] := by kernel_rfl
theorem p_szPlaceS_b (v : T_PlaceS) (m : Int) :
    pathOb Try.prog Try.f149 0 [.reg [oT], .reg [oT, oT, oT, oT, oT], .reg [oT, oT], .dec false, .reg [oT, oT]] [.code (bodyOf Try.f149)] (start Try.f149 [] 0 [.p (.seq true 2 v.1 (fun i => [.int .i64 ((v.2 i).1), .int .i64 ((v.2 i).2.1)])), .p (.int .i64 m)]) [] 1 [] (.p (.int .i64 (m - v.1))) =
    some [(((-9223372036854775808) : Int) ≤ (m - (↑v.1 : Int))),
  (((m - (↑v.1 : Int)) : Int) ≤ 9223372036854775807),
  ((decide (m - (↑v.1 : Int) < 0)) = false),
  (AI ((m - (↑v.1 : Int))))] := by kernel_rfl
theorem p_szFramework_0 (v : T_Framework) (m : Int) :
    pathOb Try.prog Try.f130 0 [.reg [oT, oT], .reg [oT, oT, oT, ⟨true, (some ⟨[], [], [], 1, [], .p (.int .i64 (f_szGraph v.1 m))⟩), none⟩, oT], .reg [oT, oT], .dec true, .reg [oT]] [.code (bodyOf Try.f130)] (start Try.f130 [] 0 [.agg [.p (.int .i64 v.1.1), .p (.seq true 2 v.1.2.1.1 (fun i => [.int .i64 ((v.1.2.1.2 i).1), .int .i64 ((v.1.2.1.2 i).2.1)])), .p (.seq true 2 v.2.1.1 (fun i => [.int .i64 ((v.2.1.2 i).1), .int .i64 ((v.2.1.2 i).2.1)]))], .p (.int .i64 m)]) [] 1 [] (.p (.int .i64 (-1))) =
    some [((0 : Nat) < 1),
  Con Try.prog 14 0 [] [.agg [.p (.int .i64 v.1.1), .p (.seq true 2 v.1.2.1.1 (fun i => [.int .i64 ((v.1.2.1.2 i).1), .int .i64 ((v.1.2.1.2 i).2.1)]))], .p (.int .i64 m)] [] (.p (.int .i64 (f_szGraph v.1 m))),
  ((decide (f_szGraph v.1 m < 0)) = true),
  (AI ((-1)))] := by kernel_rfl
theorem p_szFramework_1 (v : T_Framework) (m : Int) :
    pathOb Try.prog Try.f130 0 [.reg [oT, oT], .reg [oT, oT, oT, ⟨true, (some ⟨[], [], [], 1, [], .p (.int .i64 (f_szGraph v.1 m))⟩), none⟩, oT], .reg [oT, oT], .dec false, .reg [oT, oT, oT, ⟨true, (some ⟨[], [], [], 1, [], .p (.int .i64 (f_szPlaceS v.2.1 (f_szGraph v.1 m)))⟩), none⟩, oT], .reg [oT, oT], .dec true, .reg [oT]] [.code (bodyOf Try.f130)] (start Try.f130 [] 0 [.agg [.p (.int .i64 v.1.1), .p (.seq true 2 v.1.2.1.1 (fun i => [.int .i64 ((v.1.2.1.2 i).1), .int .i64 ((v.1.2.1.2 i).2.1)])), .p (.seq true 2 v.2.1.1 (fun i => [.int .i64 ((v.2.1.2 i).1), .int .i64 ((v.2.1.2 i).2.1)]))], .p (.int .i64 m)]) [] 1 [] (.p (.int .i64 (-1))) =
    some [((0 : Nat) < 1),
  Con Try.prog 14 0 [] [.agg [.p (.int .i64 v.1.1), .p (.seq true 2 v.1.2.1.1 (fun i => [.int .i64 ((v.1.2.1.2 i).1), .int .i64 ((v.1.2.1.2 i).2.1)]))], .p (.int .i64 m)] [] (.p (.int .i64 (f_szGraph v.1 m))),
  ((decide (f_szGraph v.1 m < 0)) = false),
  ((0 : Nat) < 1),
  Con Try.prog 149 0 [] [.p (.seq true 2 v.2.1.1 (fun i => [.int .i64 ((v.2.1.2 i).1), .int .i64 ((v.2.1.2 i).2.1)])), .p (.int .i64 (f_szGraph v.1 m))] [] (.p (.int .i64 (f_szPlaceS v.2.1 (f_szGraph v.1 m)))),
  ((decide (f_szPlaceS v.2.1 (f_szGraph v.1 m) < 0)) = true),
  (AI ((-1)))] := by kernel_rfl
theorem p_szFramework_e (v : T_Framework) (m : Int) :
    pathOb Try.prog Try.f130 0 [.reg [oT, oT], .reg [oT, oT, oT, ⟨true, (some ⟨[], [], [], 1, [], .p (.int .i64 (f_szGraph v.1 m))⟩), none⟩, oT], .reg [oT, oT], .dec false, .reg [oT, oT, oT, ⟨true, (some ⟨[], [], [], 1, [], .p (.int .i64 (f_szPlaceS v.2.1 (f_szGraph v.1 m)))⟩), none⟩, oT], .reg [oT, oT], .dec false, .reg [oT, oT]] [.code (bodyOf Try.f130)] (start Try.f130 [] 0 [.agg [.p (.int .i64 v.1.1), .p (.seq true 2 v.1.2.1.1 (fun i => [.int .i64 ((v.1.2.1.2 i).1), .int .i64 ((v.1.2.1.2 i).2.1)])), .p (.seq true 2 v.2.1.1 (fun i => [.int .i64 ((v.2.1.2 i).1), .int .i64 ((v.2.1.2 i).2.1)]))], .p (.int .i64 m)]) [] 1 [] (.p (.int .i64 (f_szPlaceS v.2.1 (f_szGraph v.1 m)))) =
    some [((0 : Nat) < 1),
  Con Try.prog 14 0 [] [.agg [.p (.int .i64 v.1.1), .p (.seq true 2 v.1.2.1.1 (fun i => [.int .i64 ((v.1.2.1.2 i).1), .int .i64 ((v.1.2.1.2 i).2.1)]))], .p (.int .i64 m)] [] (.p (.int .i64 (f_szGraph v.1 m))),
  ((decide (f_szGraph v.1 m < 0)) = false),
  ((0 : Nat) < 1),
  Con Try.prog 149 0 [] [.p (.seq true 2 v.2.1.1 (fun i => [.int .i64 ((v.2.1.2 i).1), .int .i64 ((v.2.1.2 i).2.1)])), .p (.int .i64 (f_szGraph v.1 m))] [] (.p (.int .i64 (f_szPlaceS v.2.1 (f_szGraph v.1 m)))),
  ((decide (f_szPlaceS v.2.1 (f_szGraph v.1 m) < 0)) = false),
  (AI ((f_szPlaceS v.2.1 (f_szGraph v.1 m))))] := by kernel_rfl
theorem p_szTensegrity_0 (v : T_Tensegrity) (m : Int) :
    pathOb Try.prog Try.f83 0 [.reg [oT, oT], .reg [oT, oT, oT, ⟨true, (some ⟨[], [], [], 1, [], .p (.int .i64 (f_szFramework v.1 m))⟩), none⟩, oT], .reg [oT, oT], .dec true, .reg [oT]] [.code (bodyOf Try.f83)] (start Try.f83 [] 0 [.agg [.p (.int .i64 v.1.1.1), .p (.seq true 2 v.1.1.2.1.1 (fun i => [.int .i64 ((v.1.1.2.1.2 i).1), .int .i64 ((v.1.1.2.1.2 i).2.1)])), .p (.seq true 2 v.1.2.1.1 (fun i => [.int .i64 ((v.1.2.1.2 i).1), .int .i64 ((v.1.2.1.2 i).2.1)])), .p (.seq true 1 v.2.1.1 (fun i => [.int .i64 (v.2.1.2 i)]))], .p (.int .i64 m)]) [] 1 [] (.p (.int .i64 (-1))) =
    some [((0 : Nat) < 1),
  Con Try.prog 130 0 [] [.agg [.p (.int .i64 v.1.1.1), .p (.seq true 2 v.1.1.2.1.1 (fun i => [.int .i64 ((v.1.1.2.1.2 i).1), .int .i64 ((v.1.1.2.1.2 i).2.1)])), .p (.seq true 2 v.1.2.1.1 (fun i => [.int .i64 ((v.1.2.1.2 i).1), .int .i64 ((v.1.2.1.2 i).2.1)]))], .p (.int .i64 m)] [] (.p (.int .i64 (f_szFramework v.1 m))),
  ((decide (f_szFramework v.1 m < 0)) = true),
  (AI ((-1)))] := by kernel_rfl
theorem p_szTensegrity_1 (v : T_Tensegrity) (m : Int) :
    pathOb Try.prog Try.f83 0 [.reg [oT, oT], .reg [oT, oT, oT, ⟨true, (some ⟨[], [], [], 1, [], .p (.int .i64 (f_szFramework v.1 m))⟩), none⟩, oT], .reg [oT, oT], .dec false, .reg [oT, oT, oT, ⟨true, (some ⟨[], [], [], 1, [], .p (.int .i64 (f_szIntS v.2.1 (f_szFramework v.1 m)))⟩), none⟩, oT], .reg [oT, oT], .dec true, .reg [oT]] [.code (bodyOf Try.f83)] (start Try.f83 [] 0 [.agg [.p (.int .i64 v.1.1.1), .p (.seq true 2 v.1.1.2.1.1 (fun i => [.int .i64 ((v.1.1.2.1.2 i).1), .int .i64 ((v.1.1.2.1.2 i).2.1)])), .p (.seq true 2 v.1.2.1.1 (fun i => [.int .i64 ((v.1.2.1.2 i).1), .int .i64 ((v.1.2.1.2 i).2.1)])), .p (.seq true 1 v.2.1.1 (fun i => [.int .i64 (v.2.1.2 i)]))], .p (.int .i64 m)]) [] 1 [] (.p (.int .i64 (-1))) =
    some [((0 : Nat) < 1),
  Con Try.prog 130 0 [] [.agg [.p (.int .i64 v.1.1.1), .p (.seq true 2 v.1.1.2.1.1 (fun i => [.int .i64 ((v.1.1.2.1.2 i).1), .int .i64 ((v.1.1.2.1.2 i).2.1)])), .p (.seq true 2 v.1.2.1.1 (fun i => [.int .i64 ((v.1.2.1.2 i).1), .int .i64 ((v.1.2.1.2 i).2.1)]))], .p (.int .i64 m)] [] (.p (.int .i64 (f_szFramework v.1 m))),
  ((decide (f_szFramework v.1 m < 0)) = false),
  ((0 : Nat) < 1),
  Con Try.prog 85 0 [] [.p (.seq true 1 v.2.1.1 (fun i => [.int .i64 (v.2.1.2 i)])), .p (.int .i64 (f_szFramework v.1 m))] [] (.p (.int .i64 (f_szIntS v.2.1 (f_szFramework v.1 m)))),
  ((decide (f_szIntS v.2.1 (f_szFramework v.1 m) < 0)) = true),
  (AI ((-1)))] := by kernel_rfl
theorem p_szTensegrity_e (v : T_Tensegrity) (m : Int) :
    pathOb Try.prog Try.f83 0 [.reg [oT, oT], .reg [oT, oT, oT, ⟨true, (some ⟨[], [], [], 1, [], .p (.int .i64 (f_szFramework v.1 m))⟩), none⟩, oT], .reg [oT, oT], .dec false, .reg [oT, oT, oT, ⟨true, (some ⟨[], [], [], 1, [], .p (.int .i64 (f_szIntS v.2.1 (f_szFramework v.1 m)))⟩), none⟩, oT], .reg [oT, oT], .dec false, .reg [oT, oT]] [.code (bodyOf Try.f83)] (start Try.f83 [] 0 [.agg [.p (.int .i64 v.1.1.1), .p (.seq true 2 v.1.1.2.1.1 (fun i => [.int .i64 ((v.1.1.2.1.2 i).1), .int .i64 ((v.1.1.2.1.2 i).2.1)])), .p (.seq true 2 v.1.2.1.1 (fun i => [.int .i64 ((v.1.2.1.2 i).1), .int .i64 ((v.1.2.1.2 i).2.1)])), .p (.seq true 1 v.2.1.1 (fun i => [.int .i64 (v.2.1.2 i)]))], .p (.int .i64 m)]) [] 1 [] (.p (.int .i64 (f_szIntS v.2.1 (f_szFramework v.1 m)))) =
    some [((0 : Nat) < 1),
  Con Try.prog 130 0 [] [.agg [.p (.int .i64 v.1.1.1), .p (.seq true 2 v.1.1.2.1.1 (fun i => [.int .i64 ((v.1.1.2.1.2 i).1), .int .i64 ((v.1.1.2.1.2 i).2.1)])), .p (.seq true 2 v.1.2.1.1 (fun i => [.int .i64 ((v.1.2.1.2 i).1), .int .i64 ((v.1.2.1.2 i).2.1)]))], .p (.int .i64 m)] [] (.p (.int .i64 (f_szFramework v.1 m))),
  ((decide (f_szFramework v.1 m < 0)) = false),
  ((0 : Nat) < 1),
  Con Try.prog 85 0 [] [.p (.seq true 1 v.2.1.1 (fun i => [.int .i64 (v.2.1.2 i)])), .p (.int .i64 (f_szFramework v.1 m))] [] (.p (.int .i64 (f_szIntS v.2.1 (f_szFramework v.1 m)))),
  ((decide (f_szIntS v.2.1 (f_szFramework v.1 m) < 0)) = false),
  (AI ((f_szIntS v.2.1 (f_szFramework v.1 m))))] := by kernel_rfl
theorem p_szStepS_a (v : T_StepS) (m : Int) :
    pathOb Try.prog Try.f84 0 [.reg [oT], .reg [oT, oT, oT, oT, oT], .reg [oT, oT], .dec true, .reg [oT]] [.code (bodyOf Try.f84)] (start Try.f84 [] 0 [.p (.seq true 5 v.1 (fun i => [.int .i64 ((v.2 i).1), .int .i64 ((v.2 i).2.1), .int .i64 ((v.2 i).2.2.1), .int .i64 ((v.2 i).2.2.2.1), .int .i64 ((v.2 i).2.2.2.2.1)])), .p (.int .i64 m)]) [] 1 [] (.p (.int .i64 (-1))) =
    some [(((-9223372036854775808) : Int) ≤ (m - (↑v.1 : Int))),
  (((m - (↑v.1 : Int)) : Int) ≤ 9223372036854775807),
  ((decide (m - (↑v.1 : Int) < 0)) = true),
  (AI ((-1)))] := by kernel_rfl
theorem p_szStepS_b (v : T_StepS) (m : Int) :
    pathOb Try.prog Try.f84 0 [.reg [oT], .reg [oT, oT, oT, oT, oT], .reg [oT, oT], .dec false, .reg [oT, oT]] [.code (bodyOf Try.f84)] (start Try.f84 [] 0 [.p (.seq true 5 v.1 (fun i => [.int .i64 ((v.2 i).1), .int .i64 ((v.2 i).2.1), .int .i64 ((v.2 i).2.2.1), .int .i64 ((v.2 i).2.2.2.1), .int .i64 ((v.2 i).2.2.2.2.1)])), .p (.int .i64 m)]) [] 1 [] (.p (.int .i64 (m - v.1))) =
    some [(((-9223372036854775808) : Int) ≤ (m - (↑v.1 : Int))),
  (((m - (↑v.1 : Int)) : Int) ≤ 9223372036854775807),
  ((decide (m - (↑v.1 : Int) < 0)) = false),
  (AI ((m - (↑v.1 : Int))))] := by kernel_rfl
theorem p_szClaim_0 (v : T_Claim) (m : Int) :
    pathOb Try.prog Try.f30 0 [.reg [oT, oT], .reg [oT, oT, oT, ⟨true, (some ⟨[], [], [], 1, [], .p (.int .i64 (f_szGraph v.2.1 m))⟩), none⟩, oT], .reg [oT, oT], .dec true, .reg [oT]] [.code (bodyOf Try.f30)] (start Try.f30 [] 0 [.agg [.p (.int .i64 v.1), .p (.int .i64 v.2.1.1), .p (.seq true 2 v.2.1.2.1.1 (fun i => [.int .i64 ((v.2.1.2.1.2 i).1), .int .i64 ((v.2.1.2.1.2 i).2.1)])), .p (.int .i64 v.2.2.1.1.1.1), .p (.seq true 2 v.2.2.1.1.1.2.1.1 (fun i => [.int .i64 ((v.2.2.1.1.1.2.1.2 i).1), .int .i64 ((v.2.2.1.1.1.2.1.2 i).2.1)])), .p (.seq true 2 v.2.2.1.1.2.1.1 (fun i => [.int .i64 ((v.2.2.1.1.2.1.2 i).1), .int .i64 ((v.2.2.1.1.2.1.2 i).2.1)])), .p (.seq true 1 v.2.2.1.2.1.1 (fun i => [.int .i64 (v.2.2.1.2.1.2 i)])), .p (.seq true 5 v.2.2.2.1.1 (fun i => [.int .i64 ((v.2.2.2.1.2 i).1), .int .i64 ((v.2.2.2.1.2 i).2.1), .int .i64 ((v.2.2.2.1.2 i).2.2.1), .int .i64 ((v.2.2.2.1.2 i).2.2.2.1), .int .i64 ((v.2.2.2.1.2 i).2.2.2.2.1)])), .p (.seq true 1 v.2.2.2.2.1.1 (fun i => [.int .i64 (v.2.2.2.2.1.2 i)]))], .p (.int .i64 m)]) [] 1 [] (.p (.int .i64 (-1))) =
    some [((0 : Nat) < 1),
  Con Try.prog 14 0 [] [.agg [.p (.int .i64 v.2.1.1), .p (.seq true 2 v.2.1.2.1.1 (fun i => [.int .i64 ((v.2.1.2.1.2 i).1), .int .i64 ((v.2.1.2.1.2 i).2.1)]))], .p (.int .i64 m)] [] (.p (.int .i64 (f_szGraph v.2.1 m))),
  ((decide (f_szGraph v.2.1 m < 0)) = true),
  (AI ((-1)))] := by kernel_rfl
theorem p_szClaim_1 (v : T_Claim) (m : Int) :
    pathOb Try.prog Try.f30 0 [.reg [oT, oT], .reg [oT, oT, oT, ⟨true, (some ⟨[], [], [], 1, [], .p (.int .i64 (f_szGraph v.2.1 m))⟩), none⟩, oT], .reg [oT, oT], .dec false, .reg [oT, oT, oT, ⟨true, (some ⟨[], [], [], 1, [], .p (.int .i64 (f_szTensegrity v.2.2.1 (f_szGraph v.2.1 m)))⟩), none⟩, oT], .reg [oT, oT], .dec true, .reg [oT]] [.code (bodyOf Try.f30)] (start Try.f30 [] 0 [.agg [.p (.int .i64 v.1), .p (.int .i64 v.2.1.1), .p (.seq true 2 v.2.1.2.1.1 (fun i => [.int .i64 ((v.2.1.2.1.2 i).1), .int .i64 ((v.2.1.2.1.2 i).2.1)])), .p (.int .i64 v.2.2.1.1.1.1), .p (.seq true 2 v.2.2.1.1.1.2.1.1 (fun i => [.int .i64 ((v.2.2.1.1.1.2.1.2 i).1), .int .i64 ((v.2.2.1.1.1.2.1.2 i).2.1)])), .p (.seq true 2 v.2.2.1.1.2.1.1 (fun i => [.int .i64 ((v.2.2.1.1.2.1.2 i).1), .int .i64 ((v.2.2.1.1.2.1.2 i).2.1)])), .p (.seq true 1 v.2.2.1.2.1.1 (fun i => [.int .i64 (v.2.2.1.2.1.2 i)])), .p (.seq true 5 v.2.2.2.1.1 (fun i => [.int .i64 ((v.2.2.2.1.2 i).1), .int .i64 ((v.2.2.2.1.2 i).2.1), .int .i64 ((v.2.2.2.1.2 i).2.2.1), .int .i64 ((v.2.2.2.1.2 i).2.2.2.1), .int .i64 ((v.2.2.2.1.2 i).2.2.2.2.1)])), .p (.seq true 1 v.2.2.2.2.1.1 (fun i => [.int .i64 (v.2.2.2.2.1.2 i)]))], .p (.int .i64 m)]) [] 1 [] (.p (.int .i64 (-1))) =
    some [((0 : Nat) < 1),
  Con Try.prog 14 0 [] [.agg [.p (.int .i64 v.2.1.1), .p (.seq true 2 v.2.1.2.1.1 (fun i => [.int .i64 ((v.2.1.2.1.2 i).1), .int .i64 ((v.2.1.2.1.2 i).2.1)]))], .p (.int .i64 m)] [] (.p (.int .i64 (f_szGraph v.2.1 m))),
  ((decide (f_szGraph v.2.1 m < 0)) = false),
  ((0 : Nat) < 1),
  Con Try.prog 83 0 [] [.agg [.p (.int .i64 v.2.2.1.1.1.1), .p (.seq true 2 v.2.2.1.1.1.2.1.1 (fun i => [.int .i64 ((v.2.2.1.1.1.2.1.2 i).1), .int .i64 ((v.2.2.1.1.1.2.1.2 i).2.1)])), .p (.seq true 2 v.2.2.1.1.2.1.1 (fun i => [.int .i64 ((v.2.2.1.1.2.1.2 i).1), .int .i64 ((v.2.2.1.1.2.1.2 i).2.1)])), .p (.seq true 1 v.2.2.1.2.1.1 (fun i => [.int .i64 (v.2.2.1.2.1.2 i)]))], .p (.int .i64 (f_szGraph v.2.1 m))] [] (.p (.int .i64 (f_szTensegrity v.2.2.1 (f_szGraph v.2.1 m)))),
  ((decide (f_szTensegrity v.2.2.1 (f_szGraph v.2.1 m) < 0)) = true),
  (AI ((-1)))] := by kernel_rfl
theorem p_szClaim_2 (v : T_Claim) (m : Int) :
    pathOb Try.prog Try.f30 0 [.reg [oT, oT], .reg [oT, oT, oT, ⟨true, (some ⟨[], [], [], 1, [], .p (.int .i64 (f_szGraph v.2.1 m))⟩), none⟩, oT], .reg [oT, oT], .dec false, .reg [oT, oT, oT, ⟨true, (some ⟨[], [], [], 1, [], .p (.int .i64 (f_szTensegrity v.2.2.1 (f_szGraph v.2.1 m)))⟩), none⟩, oT], .reg [oT, oT], .dec false, .reg [oT, oT, oT, ⟨true, (some ⟨[], [], [], 1, [], .p (.int .i64 (f_szStepS v.2.2.2.1 (f_szTensegrity v.2.2.1 (f_szGraph v.2.1 m))))⟩), none⟩, oT], .reg [oT, oT], .dec true, .reg [oT]] [.code (bodyOf Try.f30)] (start Try.f30 [] 0 [.agg [.p (.int .i64 v.1), .p (.int .i64 v.2.1.1), .p (.seq true 2 v.2.1.2.1.1 (fun i => [.int .i64 ((v.2.1.2.1.2 i).1), .int .i64 ((v.2.1.2.1.2 i).2.1)])), .p (.int .i64 v.2.2.1.1.1.1), .p (.seq true 2 v.2.2.1.1.1.2.1.1 (fun i => [.int .i64 ((v.2.2.1.1.1.2.1.2 i).1), .int .i64 ((v.2.2.1.1.1.2.1.2 i).2.1)])), .p (.seq true 2 v.2.2.1.1.2.1.1 (fun i => [.int .i64 ((v.2.2.1.1.2.1.2 i).1), .int .i64 ((v.2.2.1.1.2.1.2 i).2.1)])), .p (.seq true 1 v.2.2.1.2.1.1 (fun i => [.int .i64 (v.2.2.1.2.1.2 i)])), .p (.seq true 5 v.2.2.2.1.1 (fun i => [.int .i64 ((v.2.2.2.1.2 i).1), .int .i64 ((v.2.2.2.1.2 i).2.1), .int .i64 ((v.2.2.2.1.2 i).2.2.1), .int .i64 ((v.2.2.2.1.2 i).2.2.2.1), .int .i64 ((v.2.2.2.1.2 i).2.2.2.2.1)])), .p (.seq true 1 v.2.2.2.2.1.1 (fun i => [.int .i64 (v.2.2.2.2.1.2 i)]))], .p (.int .i64 m)]) [] 1 [] (.p (.int .i64 (-1))) =
    some [((0 : Nat) < 1),
  Con Try.prog 14 0 [] [.agg [.p (.int .i64 v.2.1.1), .p (.seq true 2 v.2.1.2.1.1 (fun i => [.int .i64 ((v.2.1.2.1.2 i).1), .int .i64 ((v.2.1.2.1.2 i).2.1)]))], .p (.int .i64 m)] [] (.p (.int .i64 (f_szGraph v.2.1 m))),
  ((decide (f_szGraph v.2.1 m < 0)) = false),
  ((0 : Nat) < 1),
  Con Try.prog 83 0 [] [.agg [.p (.int .i64 v.2.2.1.1.1.1), .p (.seq true 2 v.2.2.1.1.1.2.1.1 (fun i => [.int .i64 ((v.2.2.1.1.1.2.1.2 i).1), .int .i64 ((v.2.2.1.1.1.2.1.2 i).2.1)])), .p (.seq true 2 v.2.2.1.1.2.1.1 (fun i => [.int .i64 ((v.2.2.1.1.2.1.2 i).1), .int .i64 ((v.2.2.1.1.2.1.2 i).2.1)])), .p (.seq true 1 v.2.2.1.2.1.1 (fun i => [.int .i64 (v.2.2.1.2.1.2 i)]))], .p (.int .i64 (f_szGraph v.2.1 m))] [] (.p (.int .i64 (f_szTensegrity v.2.2.1 (f_szGraph v.2.1 m)))),
  ((decide (f_szTensegrity v.2.2.1 (f_szGraph v.2.1 m) < 0)) = false),
  ((0 : Nat) < 1),
  Con Try.prog 84 0 [] [.p (.seq true 5 v.2.2.2.1.1 (fun i => [.int .i64 ((v.2.2.2.1.2 i).1), .int .i64 ((v.2.2.2.1.2 i).2.1), .int .i64 ((v.2.2.2.1.2 i).2.2.1), .int .i64 ((v.2.2.2.1.2 i).2.2.2.1), .int .i64 ((v.2.2.2.1.2 i).2.2.2.2.1)])), .p (.int .i64 (f_szTensegrity v.2.2.1 (f_szGraph v.2.1 m)))] [] (.p (.int .i64 (f_szStepS v.2.2.2.1 (f_szTensegrity v.2.2.1 (f_szGraph v.2.1 m))))),
  ((decide (f_szStepS v.2.2.2.1 (f_szTensegrity v.2.2.1 (f_szGraph v.2.1 m)) < 0)) = true),
  (AI ((-1)))] := by kernel_rfl
theorem p_szClaim_3 (v : T_Claim) (m : Int) :
    pathOb Try.prog Try.f30 0 [.reg [oT, oT], .reg [oT, oT, oT, ⟨true, (some ⟨[], [], [], 1, [], .p (.int .i64 (f_szGraph v.2.1 m))⟩), none⟩, oT], .reg [oT, oT], .dec false, .reg [oT, oT, oT, ⟨true, (some ⟨[], [], [], 1, [], .p (.int .i64 (f_szTensegrity v.2.2.1 (f_szGraph v.2.1 m)))⟩), none⟩, oT], .reg [oT, oT], .dec false, .reg [oT, oT, oT, ⟨true, (some ⟨[], [], [], 1, [], .p (.int .i64 (f_szStepS v.2.2.2.1 (f_szTensegrity v.2.2.1 (f_szGraph v.2.1 m))))⟩), none⟩, oT], .reg [oT, oT], .dec false, .reg [oT, oT, oT, ⟨true, (some ⟨[], [], [], 1, [], .p (.int .i64 (f_szIntS v.2.2.2.2.1 (f_szStepS v.2.2.2.1 (f_szTensegrity v.2.2.1 (f_szGraph v.2.1 m)))))⟩), none⟩, oT], .reg [oT, oT], .dec true, .reg [oT]] [.code (bodyOf Try.f30)] (start Try.f30 [] 0 [.agg [.p (.int .i64 v.1), .p (.int .i64 v.2.1.1), .p (.seq true 2 v.2.1.2.1.1 (fun i => [.int .i64 ((v.2.1.2.1.2 i).1), .int .i64 ((v.2.1.2.1.2 i).2.1)])), .p (.int .i64 v.2.2.1.1.1.1), .p (.seq true 2 v.2.2.1.1.1.2.1.1 (fun i => [.int .i64 ((v.2.2.1.1.1.2.1.2 i).1), .int .i64 ((v.2.2.1.1.1.2.1.2 i).2.1)])), .p (.seq true 2 v.2.2.1.1.2.1.1 (fun i => [.int .i64 ((v.2.2.1.1.2.1.2 i).1), .int .i64 ((v.2.2.1.1.2.1.2 i).2.1)])), .p (.seq true 1 v.2.2.1.2.1.1 (fun i => [.int .i64 (v.2.2.1.2.1.2 i)])), .p (.seq true 5 v.2.2.2.1.1 (fun i => [.int .i64 ((v.2.2.2.1.2 i).1), .int .i64 ((v.2.2.2.1.2 i).2.1), .int .i64 ((v.2.2.2.1.2 i).2.2.1), .int .i64 ((v.2.2.2.1.2 i).2.2.2.1), .int .i64 ((v.2.2.2.1.2 i).2.2.2.2.1)])), .p (.seq true 1 v.2.2.2.2.1.1 (fun i => [.int .i64 (v.2.2.2.2.1.2 i)]))], .p (.int .i64 m)]) [] 1 [] (.p (.int .i64 (-1))) =
    some [((0 : Nat) < 1),
  Con Try.prog 14 0 [] [.agg [.p (.int .i64 v.2.1.1), .p (.seq true 2 v.2.1.2.1.1 (fun i => [.int .i64 ((v.2.1.2.1.2 i).1), .int .i64 ((v.2.1.2.1.2 i).2.1)]))], .p (.int .i64 m)] [] (.p (.int .i64 (f_szGraph v.2.1 m))),
  ((decide (f_szGraph v.2.1 m < 0)) = false),
  ((0 : Nat) < 1),
  Con Try.prog 83 0 [] [.agg [.p (.int .i64 v.2.2.1.1.1.1), .p (.seq true 2 v.2.2.1.1.1.2.1.1 (fun i => [.int .i64 ((v.2.2.1.1.1.2.1.2 i).1), .int .i64 ((v.2.2.1.1.1.2.1.2 i).2.1)])), .p (.seq true 2 v.2.2.1.1.2.1.1 (fun i => [.int .i64 ((v.2.2.1.1.2.1.2 i).1), .int .i64 ((v.2.2.1.1.2.1.2 i).2.1)])), .p (.seq true 1 v.2.2.1.2.1.1 (fun i => [.int .i64 (v.2.2.1.2.1.2 i)]))], .p (.int .i64 (f_szGraph v.2.1 m))] [] (.p (.int .i64 (f_szTensegrity v.2.2.1 (f_szGraph v.2.1 m)))),
  ((decide (f_szTensegrity v.2.2.1 (f_szGraph v.2.1 m) < 0)) = false),
  ((0 : Nat) < 1),
  Con Try.prog 84 0 [] [.p (.seq true 5 v.2.2.2.1.1 (fun i => [.int .i64 ((v.2.2.2.1.2 i).1), .int .i64 ((v.2.2.2.1.2 i).2.1), .int .i64 ((v.2.2.2.1.2 i).2.2.1), .int .i64 ((v.2.2.2.1.2 i).2.2.2.1), .int .i64 ((v.2.2.2.1.2 i).2.2.2.2.1)])), .p (.int .i64 (f_szTensegrity v.2.2.1 (f_szGraph v.2.1 m)))] [] (.p (.int .i64 (f_szStepS v.2.2.2.1 (f_szTensegrity v.2.2.1 (f_szGraph v.2.1 m))))),
  ((decide (f_szStepS v.2.2.2.1 (f_szTensegrity v.2.2.1 (f_szGraph v.2.1 m)) < 0)) = false),
  ((0 : Nat) < 1),
  Con Try.prog 85 0 [] [.p (.seq true 1 v.2.2.2.2.1.1 (fun i => [.int .i64 (v.2.2.2.2.1.2 i)])), .p (.int .i64 (f_szStepS v.2.2.2.1 (f_szTensegrity v.2.2.1 (f_szGraph v.2.1 m))))] [] (.p (.int .i64 (f_szIntS v.2.2.2.2.1 (f_szStepS v.2.2.2.1 (f_szTensegrity v.2.2.1 (f_szGraph v.2.1 m)))))),
  ((decide (f_szIntS v.2.2.2.2.1 (f_szStepS v.2.2.2.1 (f_szTensegrity v.2.2.1 (f_szGraph v.2.1 m))) < 0)) = true),
  (AI ((-1)))] := by kernel_rfl
theorem p_szClaim_e (v : T_Claim) (m : Int) :
    pathOb Try.prog Try.f30 0 [.reg [oT, oT], .reg [oT, oT, oT, ⟨true, (some ⟨[], [], [], 1, [], .p (.int .i64 (f_szGraph v.2.1 m))⟩), none⟩, oT], .reg [oT, oT], .dec false, .reg [oT, oT, oT, ⟨true, (some ⟨[], [], [], 1, [], .p (.int .i64 (f_szTensegrity v.2.2.1 (f_szGraph v.2.1 m)))⟩), none⟩, oT], .reg [oT, oT], .dec false, .reg [oT, oT, oT, ⟨true, (some ⟨[], [], [], 1, [], .p (.int .i64 (f_szStepS v.2.2.2.1 (f_szTensegrity v.2.2.1 (f_szGraph v.2.1 m))))⟩), none⟩, oT], .reg [oT, oT], .dec false, .reg [oT, oT, oT, ⟨true, (some ⟨[], [], [], 1, [], .p (.int .i64 (f_szIntS v.2.2.2.2.1 (f_szStepS v.2.2.2.1 (f_szTensegrity v.2.2.1 (f_szGraph v.2.1 m)))))⟩), none⟩, oT], .reg [oT, oT], .dec false, .reg [oT, oT]] [.code (bodyOf Try.f30)] (start Try.f30 [] 0 [.agg [.p (.int .i64 v.1), .p (.int .i64 v.2.1.1), .p (.seq true 2 v.2.1.2.1.1 (fun i => [.int .i64 ((v.2.1.2.1.2 i).1), .int .i64 ((v.2.1.2.1.2 i).2.1)])), .p (.int .i64 v.2.2.1.1.1.1), .p (.seq true 2 v.2.2.1.1.1.2.1.1 (fun i => [.int .i64 ((v.2.2.1.1.1.2.1.2 i).1), .int .i64 ((v.2.2.1.1.1.2.1.2 i).2.1)])), .p (.seq true 2 v.2.2.1.1.2.1.1 (fun i => [.int .i64 ((v.2.2.1.1.2.1.2 i).1), .int .i64 ((v.2.2.1.1.2.1.2 i).2.1)])), .p (.seq true 1 v.2.2.1.2.1.1 (fun i => [.int .i64 (v.2.2.1.2.1.2 i)])), .p (.seq true 5 v.2.2.2.1.1 (fun i => [.int .i64 ((v.2.2.2.1.2 i).1), .int .i64 ((v.2.2.2.1.2 i).2.1), .int .i64 ((v.2.2.2.1.2 i).2.2.1), .int .i64 ((v.2.2.2.1.2 i).2.2.2.1), .int .i64 ((v.2.2.2.1.2 i).2.2.2.2.1)])), .p (.seq true 1 v.2.2.2.2.1.1 (fun i => [.int .i64 (v.2.2.2.2.1.2 i)]))], .p (.int .i64 m)]) [] 1 [] (.p (.int .i64 (f_szIntS v.2.2.2.2.1 (f_szStepS v.2.2.2.1 (f_szTensegrity v.2.2.1 (f_szGraph v.2.1 m)))))) =
    some [((0 : Nat) < 1),
  Con Try.prog 14 0 [] [.agg [.p (.int .i64 v.2.1.1), .p (.seq true 2 v.2.1.2.1.1 (fun i => [.int .i64 ((v.2.1.2.1.2 i).1), .int .i64 ((v.2.1.2.1.2 i).2.1)]))], .p (.int .i64 m)] [] (.p (.int .i64 (f_szGraph v.2.1 m))),
  ((decide (f_szGraph v.2.1 m < 0)) = false),
  ((0 : Nat) < 1),
  Con Try.prog 83 0 [] [.agg [.p (.int .i64 v.2.2.1.1.1.1), .p (.seq true 2 v.2.2.1.1.1.2.1.1 (fun i => [.int .i64 ((v.2.2.1.1.1.2.1.2 i).1), .int .i64 ((v.2.2.1.1.1.2.1.2 i).2.1)])), .p (.seq true 2 v.2.2.1.1.2.1.1 (fun i => [.int .i64 ((v.2.2.1.1.2.1.2 i).1), .int .i64 ((v.2.2.1.1.2.1.2 i).2.1)])), .p (.seq true 1 v.2.2.1.2.1.1 (fun i => [.int .i64 (v.2.2.1.2.1.2 i)]))], .p (.int .i64 (f_szGraph v.2.1 m))] [] (.p (.int .i64 (f_szTensegrity v.2.2.1 (f_szGraph v.2.1 m)))),
  ((decide (f_szTensegrity v.2.2.1 (f_szGraph v.2.1 m) < 0)) = false),
  ((0 : Nat) < 1),
  Con Try.prog 84 0 [] [.p (.seq true 5 v.2.2.2.1.1 (fun i => [.int .i64 ((v.2.2.2.1.2 i).1), .int .i64 ((v.2.2.2.1.2 i).2.1), .int .i64 ((v.2.2.2.1.2 i).2.2.1), .int .i64 ((v.2.2.2.1.2 i).2.2.2.1), .int .i64 ((v.2.2.2.1.2 i).2.2.2.2.1)])), .p (.int .i64 (f_szTensegrity v.2.2.1 (f_szGraph v.2.1 m)))] [] (.p (.int .i64 (f_szStepS v.2.2.2.1 (f_szTensegrity v.2.2.1 (f_szGraph v.2.1 m))))),
  ((decide (f_szStepS v.2.2.2.1 (f_szTensegrity v.2.2.1 (f_szGraph v.2.1 m)) < 0)) = false),
  ((0 : Nat) < 1),
  Con Try.prog 85 0 [] [.p (.seq true 1 v.2.2.2.2.1.1 (fun i => [.int .i64 (v.2.2.2.2.1.2 i)])), .p (.int .i64 (f_szStepS v.2.2.2.1 (f_szTensegrity v.2.2.1 (f_szGraph v.2.1 m))))] [] (.p (.int .i64 (f_szIntS v.2.2.2.2.1 (f_szStepS v.2.2.2.1 (f_szTensegrity v.2.2.1 (f_szGraph v.2.1 m)))))),
  ((decide (f_szIntS v.2.2.2.2.1 (f_szStepS v.2.2.2.1 (f_szTensegrity v.2.2.1 (f_szGraph v.2.1 m))) < 0)) = false),
  (AI ((f_szIntS v.2.2.2.2.1 (f_szStepS v.2.2.2.1 (f_szTensegrity v.2.2.1 (f_szGraph v.2.1 m))))))] := by kernel_rfl
theorem p_toIntS_a (v : T_IntS) :
    pieceOb Try.prog 0 [.reg [oT], .reg [oT, oT, oT, oT], .reg [oT], .head] [.code (bodyOf Try.f95)] (start Try.f95 [] 0 [.p (.seq true 1 v.1 (fun i => [.int .i64 (v.2 i)]))]) [96] 1 (S_toIntS v 0) =
    some ([.code (cAt (bodyOf Try.f95) [1, 1, 0, 1, 0, 0]), .inLoop (cAt (bodyOf Try.f95) [1, 1, 0, 1, 0, 0]), .inBlock 0, .code (cAt (bodyOf Try.f95) [1, 1, 1])], [((0 : Int) ≤ (↑v.1 : Int)),
  (((↑v.1 : Int) : Int) ≤ (↑v.1 : Int)),
  ((((↑v.1 : Int) * (↑8 : Int)) : Int) ≤ 281474976710656),
  (((↑v.1 : Int) : Int) ≤ 9223372036854775807),
  (AN v.1),
  (AP v.1 (fun i => [.int .i64 (v.2 i)])),
  (AN 0),
  (AN v.1),
  ((0 : Int) = (↑0 : Int)),
  (AN 1),
  ((v.1 : Nat) ≤ v.1),
  (∀ i : Nat, (((i : Nat) < v.1) → (All [] ∧ (([.p (.int .i64 0)] : List AV) = [.p (.int .i64 (if i < 0 then v.2 i else 0))]))))]) := by kernel_rfl
theorem p_toIntS_b (v : T_IntS) (k : Nat) :
    pieceOb Try.prog 0 [.reg [oT, oT, oT, oT], .dec true, .reg [oT, oT, oT, oT, oT, oT, oT, oT], .reg [oT, oT, oT], .head] [.code (cAt (bodyOf Try.f95) [1, 1, 0, 1, 0, 0]), .inLoop (cAt (bodyOf Try.f95) [1, 1, 0, 1, 0, 0]), .inBlock 0, .code (cAt (bodyOf Try.f95) [1, 1, 1])] (S_toIntS v k) [0] 1 (S_toIntS v (k + 1)) =
    some ([.code (cAt (bodyOf Try.f95) [1, 1, 0, 1, 0, 0]), .inLoop (cAt (bodyOf Try.f95) [1, 1, 0, 1, 0, 0]), .inBlock 0, .code (cAt (bodyOf Try.f95) [1, 1, 1])], [((decide ((↑k : Int) < (↑v.1 : Int))) = true),
  ((0 : Int) ≤ (↑k : Int)),
  (((↑k : Int) : Int) < (↑v.1 : Int)),
  ((0 : Int) ≤ (↑k : Int)),
  (((↑k : Int) : Int) < (↑v.1 : Int)),
  ((k : Nat) < v.1),
  ((false = true) → ((v.1 : Nat) = 1)),
  (((-9223372036854775808) : Int) ≤ ((↑k : Int) + 1)),
  ((((↑k : Int) + 1) : Int) ≤ 9223372036854775807),
  (AN v.1),
  (AP v.1 (fun i => [.int .i64 (v.2 i)])),
  (AN 0),
  (AN v.1),
  ((((↑k : Int) + 1) : Int) = (↑(k + 1) : Int)),
  (AN 1),
  ((v.1 : Nat) ≤ v.1),
  (∀ i : Nat, (((i : Nat) < v.1) → (All (cvtL false [(0, ⟨false, 1, v.1, (fun i_1 => (if (i_1 = k) then [.p (.int .i64 (v.2 k))] else [.p (.int .i64 (if i_1 < k then v.2 i_1 else 0))]))⟩)] [0] 1 (if (i = k) then [.p (.int .i64 (v.2 k))] else [.p (.int .i64 (if i < k then v.2 i else 0))])).2 ∧ (((cvtL false [(0, ⟨false, 1, v.1, (fun i_1 => (if (i_1 = k) then [.p (.int .i64 (v.2 k))] else [.p (.int .i64 (if i_1 < k then v.2 i_1 else 0))]))⟩)] [0] 1 (if (i = k) then [.p (.int .i64 (v.2 k))] else [.p (.int .i64 (if i < k then v.2 i else 0))])).1 : List AV) = [.p (.int .i64 (if i < k + 1 then v.2 i else 0))]))))]) := by kernel_rfl
theorem p_toIntS_c (v : T_IntS) (k : Nat) :
    pathOb Try.prog Try.f95 0 [.reg [oT, oT, oT, oT], .dec false, .reg [oT, oT]] [.code (cAt (bodyOf Try.f95) [1, 1, 0, 1, 0, 0]), .inLoop (cAt (bodyOf Try.f95) [1, 1, 0, 1, 0, 0]), .inBlock 0, .code (cAt (bodyOf Try.f95) [1, 1, 1])] (S_toIntS v k) [0] 1 [(0, ⟨false, 1, v.1, fun i => [.p (.int .i64 (v.2 i))]⟩)] (.ar 1 0 0 v.1) =
    some [((decide ((↑k : Int) < (↑v.1 : Int))) = false),
  (AN 0),
  (AN v.1),
  (AN 1),
  ((v.1 : Nat) ≤ v.1),
  (∀ i : Nat, (((i : Nat) < v.1) → (All [] ∧ (([.p (.int .i64 (if i < k then v.2 i else 0))] : List AV) = [.p (.int .i64 (v.2 i))])))),
  (AE v.1)] := by kernel_rfl
theorem p_toBar (v : T_Bar) :
    pathOb Try.prog Try.f114 0 [.reg [oT, oT], .reg [oT], .reg [oT, oT, oT, oT], .reg [oT, oT, oT, oT], .reg [oT, oT]] [.code (bodyOf Try.f114)] (start Try.f114 [] 0 [.agg [.p (.int .i64 v.1), .p (.int .i64 v.2.1)]]) [] 1 [] (.agg [.p (.int .i64 v.1), .p (.int .i64 v.2.1)]) =
    some [((0 : Nat) < 1),
  ((0 : Nat) < 1),
  ((true = true) → (AN 1)),
  ((0 : Nat) < 1),
  ((0 : Nat) < 1),
  ((true = true) → (AN 1)),
  ((0 : Nat) < 1),
  ((0 : Nat) < 1),
  ((true = true) → (AN 1)),
  ((0 : Nat) < 1),
  (AI v.1),
  (AI v.2.1)] := by kernel_rfl
theorem p_toBarS_a (v : T_BarS) :
    pieceOb Try.prog 0 [.reg [oT], .reg [oT, oT, oT, oT], .reg [oT], .head] [.code (bodyOf Try.f50)] (start Try.f50 [] 0 [.p (.seq true 2 v.1 (fun i => [.int .i64 ((v.2 i).1), .int .i64 ((v.2 i).2.1)]))]) [96] 1 (S_toBarS v 0) =
    some ([.code (cAt (bodyOf Try.f50) [1, 1, 0, 1, 0, 0]), .inLoop (cAt (bodyOf Try.f50) [1, 1, 0, 1, 0, 0]), .inBlock 0, .code (cAt (bodyOf Try.f50) [1, 1, 1])], [((0 : Int) ≤ (↑v.1 : Int)),
  (((↑v.1 : Int) : Int) ≤ (↑v.1 : Int)),
  ((((↑v.1 : Int) * (↑16 : Int)) : Int) ≤ 281474976710656),
  (((↑v.1 : Int) : Int) ≤ 9223372036854775807),
  (AN v.1),
  (AP v.1 (fun i => [.int .i64 ((v.2 i).1), .int .i64 ((v.2 i).2.1)])),
  (AN 0),
  (AN v.1),
  ((0 : Int) = (↑0 : Int)),
  (AN 2),
  ((v.1 : Nat) ≤ v.1),
  (∀ i : Nat, (((i : Nat) < v.1) → (All [] ∧ (([.p (.int .i64 0), .p (.int .i64 0)] : List AV) = [.p (.int .i64 (if i < 0 then (v.2 i).1 else 0)), .p (.int .i64 (if i < 0 then (v.2 i).2.1 else 0))]))))]) := by kernel_rfl
theorem p_toBarS_b (v : T_BarS) (k : Nat) :
    pieceOb Try.prog 0 [.reg [oT, oT, oT, oT], .dec true, .reg [oT, oT, oT, oT, oT, oT, ⟨true, (some ⟨[], [], [], 1, [], .agg [.p (.int .i64 ((v.2 k).1)), .p (.int .i64 ((v.2 k).2.1))]⟩), none⟩, oT, oT], .reg [oT, oT, oT], .head] [.code (cAt (bodyOf Try.f50) [1, 1, 0, 1, 0, 0]), .inLoop (cAt (bodyOf Try.f50) [1, 1, 0, 1, 0, 0]), .inBlock 0, .code (cAt (bodyOf Try.f50) [1, 1, 1])] (S_toBarS v k) [0] 1 (S_toBarS v (k + 1)) =
    some ([.code (cAt (bodyOf Try.f50) [1, 1, 0, 1, 0, 0]), .inLoop (cAt (bodyOf Try.f50) [1, 1, 0, 1, 0, 0]), .inBlock 0, .code (cAt (bodyOf Try.f50) [1, 1, 1])], [((decide ((↑k : Int) < (↑v.1 : Int))) = true),
  ((0 : Int) ≤ (↑k : Int)),
  (((↑k : Int) : Int) < (↑v.1 : Int)),
  Con Try.prog 114 0 [] [.agg [.p (.int .i64 ((v.2 k).1)), .p (.int .i64 ((v.2 k).2.1))]] [] (.agg [.p (.int .i64 ((v.2 k).1)), .p (.int .i64 ((v.2 k).2.1))]),
  ((0 : Int) ≤ (↑k : Int)),
  (((↑k : Int) : Int) < (↑v.1 : Int)),
  ((k : Nat) < v.1),
  ((false = true) → ((v.1 : Nat) = 1)),
  (((-9223372036854775808) : Int) ≤ ((↑k : Int) + 1)),
  ((((↑k : Int) + 1) : Int) ≤ 9223372036854775807),
  (AN v.1),
  (AP v.1 (fun i => [.int .i64 ((v.2 i).1), .int .i64 ((v.2 i).2.1)])),
  (AN 0),
  (AN v.1),
  ((((↑k : Int) + 1) : Int) = (↑(k + 1) : Int)),
  (AN 2),
  ((v.1 : Nat) ≤ v.1),
  (∀ i : Nat, (((i : Nat) < v.1) → (All (cvtL false [(0, ⟨false, 2, v.1, (fun i_1 => (if (i_1 = k) then [.p (.int .i64 ((v.2 k).1)), .p (.int .i64 ((v.2 k).2.1))] else [.p (.int .i64 (if i_1 < k then (v.2 i_1).1 else 0)), .p (.int .i64 (if i_1 < k then (v.2 i_1).2.1 else 0))]))⟩)] [0] 1 (if (i = k) then [.p (.int .i64 ((v.2 k).1)), .p (.int .i64 ((v.2 k).2.1))] else [.p (.int .i64 (if i < k then (v.2 i).1 else 0)), .p (.int .i64 (if i < k then (v.2 i).2.1 else 0))])).2 ∧ (((cvtL false [(0, ⟨false, 2, v.1, (fun i_1 => (if (i_1 = k) then [.p (.int .i64 ((v.2 k).1)), .p (.int .i64 ((v.2 k).2.1))] else [.p (.int .i64 (if i_1 < k then (v.2 i_1).1 else 0)), .p (.int .i64 (if i_1 < k then (v.2 i_1).2.1 else 0))]))⟩)] [0] 1 (if (i = k) then [.p (.int .i64 ((v.2 k).1)), .p (.int .i64 ((v.2 k).2.1))] else [.p (.int .i64 (if i < k then (v.2 i).1 else 0)), .p (.int .i64 (if i < k then (v.2 i).2.1 else 0))])).1 : List AV) = [.p (.int .i64 (if i < k + 1 then (v.2 i).1 else 0)), .p (.int .i64 (if i < k + 1 then (v.2 i).2.1 else 0))]))))]) := by kernel_rfl
theorem p_toBarS_c (v : T_BarS) (k : Nat) :
    pathOb Try.prog Try.f50 0 [.reg [oT, oT, oT, oT], .dec false, .reg [oT, oT]] [.code (cAt (bodyOf Try.f50) [1, 1, 0, 1, 0, 0]), .inLoop (cAt (bodyOf Try.f50) [1, 1, 0, 1, 0, 0]), .inBlock 0, .code (cAt (bodyOf Try.f50) [1, 1, 1])] (S_toBarS v k) [0] 1 [(0, ⟨false, 2, v.1, fun i => [.p (.int .i64 ((v.2 i).1)), .p (.int .i64 ((v.2 i).2.1))]⟩)] (.ar 2 0 0 v.1) =
    some [((decide ((↑k : Int) < (↑v.1 : Int))) = false),
  (AN 0),
  (AN v.1),
  (AN 2),
  ((v.1 : Nat) ≤ v.1),
  (∀ i : Nat, (((i : Nat) < v.1) → (All [] ∧ (([.p (.int .i64 (if i < k then (v.2 i).1 else 0)), .p (.int .i64 (if i < k then (v.2 i).2.1 else 0))] : List AV) = [.p (.int .i64 ((v.2 i).1)), .p (.int .i64 ((v.2 i).2.1))])))),
  (AE v.1)] := by kernel_rfl
theorem p_toGraph (v : T_Graph) :
    pathOb Try.prog Try.f16 0 [.reg [oT, oT], .reg [oT], .reg [oT, oT, oT, oT], .reg [oT, oT, ⟨true, (some ⟨[], [], [], 1, [(0, ⟨false, 2, v.2.1.1, fun i => [.p (.int .i64 ((v.2.1.2 i).1)), .p (.int .i64 ((v.2.1.2 i).2.1))]⟩)], .ar 2 0 0 v.2.1.1⟩), none⟩, oT, oT], .reg [oT, oT]] [.code (bodyOf Try.f16)] (start Try.f16 [] 0 [.agg [.p (.int .i64 v.1), .p (.seq true 2 v.2.1.1 (fun i => [.int .i64 ((v.2.1.2 i).1), .int .i64 ((v.2.1.2 i).2.1)]))]]) [288] 1 [(0, ⟨false, 2, v.2.1.1, fun i => [.p (.int .i64 ((v.2.1.2 i).1)), .p (.int .i64 ((v.2.1.2 i).2.1))]⟩)] (.agg [.p (.int .i64 v.1), .ar 2 0 0 v.2.1.1]) =
    some [((0 : Nat) < 1),
  ((0 : Nat) < 1),
  ((true = true) → (AN 1)),
  ((0 : Nat) < 1),
  Con Try.prog 50 0 [] [.p (.seq true 2 v.2.1.1 (fun i => [.int .i64 ((v.2.1.2 i).1), .int .i64 ((v.2.1.2 i).2.1)]))] [(0, ⟨false, 2, v.2.1.1, (fun i => [.p (.int .i64 ((v.2.1.2 i).1)), .p (.int .i64 ((v.2.1.2 i).2.1))])⟩)] (.ar 2 0 0 v.2.1.1),
  ((0 : Nat) < 1),
  ((true = true) → (AN 1)),
  ((0 : Nat) < 1),
  ((0 : Nat) < 1),
  ((true = true) → (AN 1)),
  ((0 : Nat) < 1),
  (AI v.1),
  (AN 0),
  (AN v.2.1.1),
  (AN 2),
  ((v.2.1.1 : Nat) ≤ v.2.1.1),
  (AA v.2.1.1 (fun i => [.p (.int .i64 ((v.2.1.2 i).1)), .p (.int .i64 ((v.2.1.2 i).2.1))])),
  (AE v.2.1.1)] := by kernel_rfl
theorem p_toPlace (v : T_Place) :
    pathOb Try.prog Try.f176 0 [.reg [oT, oT], .reg [oT], .reg [oT, oT, oT, oT], .reg [oT, oT, oT, oT], .reg [oT, oT]] [.code (bodyOf Try.f176)] (start Try.f176 [] 0 [.agg [.p (.int .i64 v.1), .p (.int .i64 v.2.1)]]) [] 1 [] (.agg [.p (.int .i64 v.1), .p (.int .i64 v.2.1)]) =
    some [((0 : Nat) < 1),
  ((0 : Nat) < 1),
  ((true = true) → (AN 1)),
  ((0 : Nat) < 1),
  ((0 : Nat) < 1),
  ((true = true) → (AN 1)),
  ((0 : Nat) < 1),
  ((0 : Nat) < 1),
  ((true = true) → (AN 1)),
  ((0 : Nat) < 1),
  (AI v.1),
  (AI v.2.1)] := by kernel_rfl
theorem p_toPlaceS_a (v : T_PlaceS) :
    pieceOb Try.prog 0 [.reg [oT], .reg [oT, oT, oT, oT], .reg [oT], .head] [.code (bodyOf Try.f150)] (start Try.f150 [] 0 [.p (.seq true 2 v.1 (fun i => [.int .i64 ((v.2 i).1), .int .i64 ((v.2 i).2.1)]))]) [96] 1 (S_toPlaceS v 0) =
    some ([.code (cAt (bodyOf Try.f150) [1, 1, 0, 1, 0, 0]), .inLoop (cAt (bodyOf Try.f150) [1, 1, 0, 1, 0, 0]), .inBlock 0, .code (cAt (bodyOf Try.f150) [1, 1, 1])], [((0 : Int) ≤ (↑v.1 : Int)),
  (((↑v.1 : Int) : Int) ≤ (↑v.1 : Int)),
  ((((↑v.1 : Int) * (↑16 : Int)) : Int) ≤ 281474976710656),
  (((↑v.1 : Int) : Int) ≤ 9223372036854775807),
  (AN v.1),
  (AP v.1 (fun i => [.int .i64 ((v.2 i).1), .int .i64 ((v.2 i).2.1)])),
  (AN 0),
  (AN v.1),
  ((0 : Int) = (↑0 : Int)),
  (AN 2),
  ((v.1 : Nat) ≤ v.1),
  (∀ i : Nat, (((i : Nat) < v.1) → (All [] ∧ (([.p (.int .i64 0), .p (.int .i64 0)] : List AV) = [.p (.int .i64 (if i < 0 then (v.2 i).1 else 0)), .p (.int .i64 (if i < 0 then (v.2 i).2.1 else 0))]))))]) := by kernel_rfl
theorem p_toPlaceS_b (v : T_PlaceS) (k : Nat) :
    pieceOb Try.prog 0 [.reg [oT, oT, oT, oT], .dec true, .reg [oT, oT, oT, oT, oT, oT, ⟨true, (some ⟨[], [], [], 1, [], .agg [.p (.int .i64 ((v.2 k).1)), .p (.int .i64 ((v.2 k).2.1))]⟩), none⟩, oT, oT], .reg [oT, oT, oT], .head] [.code (cAt (bodyOf Try.f150) [1, 1, 0, 1, 0, 0]), .inLoop (cAt (bodyOf Try.f150) [1, 1, 0, 1, 0, 0]), .inBlock 0, .code (cAt (bodyOf Try.f150) [1, 1, 1])] (S_toPlaceS v k) [0] 1 (S_toPlaceS v (k + 1)) =
    some ([.code (cAt (bodyOf Try.f150) [1, 1, 0, 1, 0, 0]), .inLoop (cAt (bodyOf Try.f150) [1, 1, 0, 1, 0, 0]), .inBlock 0, .code (cAt (bodyOf Try.f150) [1, 1, 1])], [((decide ((↑k : Int) < (↑v.1 : Int))) = true),
  ((0 : Int) ≤ (↑k : Int)),
  (((↑k : Int) : Int) < (↑v.1 : Int)),
  Con Try.prog 176 0 [] [.agg [.p (.int .i64 ((v.2 k).1)), .p (.int .i64 ((v.2 k).2.1))]] [] (.agg [.p (.int .i64 ((v.2 k).1)), .p (.int .i64 ((v.2 k).2.1))]),
  ((0 : Int) ≤ (↑k : Int)),
  (((↑k : Int) : Int) < (↑v.1 : Int)),
  ((k : Nat) < v.1),
  ((false = true) → ((v.1 : Nat) = 1)),
  (((-9223372036854775808) : Int) ≤ ((↑k : Int) + 1)),
  ((((↑k : Int) + 1) : Int) ≤ 9223372036854775807),
  (AN v.1),
  (AP v.1 (fun i => [.int .i64 ((v.2 i).1), .int .i64 ((v.2 i).2.1)])),
  (AN 0),
  (AN v.1),
  ((((↑k : Int) + 1) : Int) = (↑(k + 1) : Int)),
  (AN 2),
  ((v.1 : Nat) ≤ v.1),
  (∀ i : Nat, (((i : Nat) < v.1) → (All (cvtL false [(0, ⟨false, 2, v.1, (fun i_1 => (if (i_1 = k) then [.p (.int .i64 ((v.2 k).1)), .p (.int .i64 ((v.2 k).2.1))] else [.p (.int .i64 (if i_1 < k then (v.2 i_1).1 else 0)), .p (.int .i64 (if i_1 < k then (v.2 i_1).2.1 else 0))]))⟩)] [0] 1 (if (i = k) then [.p (.int .i64 ((v.2 k).1)), .p (.int .i64 ((v.2 k).2.1))] else [.p (.int .i64 (if i < k then (v.2 i).1 else 0)), .p (.int .i64 (if i < k then (v.2 i).2.1 else 0))])).2 ∧ (((cvtL false [(0, ⟨false, 2, v.1, (fun i_1 => (if (i_1 = k) then [.p (.int .i64 ((v.2 k).1)), .p (.int .i64 ((v.2 k).2.1))] else [.p (.int .i64 (if i_1 < k then (v.2 i_1).1 else 0)), .p (.int .i64 (if i_1 < k then (v.2 i_1).2.1 else 0))]))⟩)] [0] 1 (if (i = k) then [.p (.int .i64 ((v.2 k).1)), .p (.int .i64 ((v.2 k).2.1))] else [.p (.int .i64 (if i < k then (v.2 i).1 else 0)), .p (.int .i64 (if i < k then (v.2 i).2.1 else 0))])).1 : List AV) = [.p (.int .i64 (if i < k + 1 then (v.2 i).1 else 0)), .p (.int .i64 (if i < k + 1 then (v.2 i).2.1 else 0))]))))]) := by kernel_rfl
theorem p_toPlaceS_c (v : T_PlaceS) (k : Nat) :
    pathOb Try.prog Try.f150 0 [.reg [oT, oT, oT, oT], .dec false, .reg [oT, oT]] [.code (cAt (bodyOf Try.f150) [1, 1, 0, 1, 0, 0]), .inLoop (cAt (bodyOf Try.f150) [1, 1, 0, 1, 0, 0]), .inBlock 0, .code (cAt (bodyOf Try.f150) [1, 1, 1])] (S_toPlaceS v k) [0] 1 [(0, ⟨false, 2, v.1, fun i => [.p (.int .i64 ((v.2 i).1)), .p (.int .i64 ((v.2 i).2.1))]⟩)] (.ar 2 0 0 v.1) =
    some [((decide ((↑k : Int) < (↑v.1 : Int))) = false),
  (AN 0),
  (AN v.1),
  (AN 2),
  ((v.1 : Nat) ≤ v.1),
  (∀ i : Nat, (((i : Nat) < v.1) → (All [] ∧ (([.p (.int .i64 (if i < k then (v.2 i).1 else 0)), .p (.int .i64 (if i < k then (v.2 i).2.1 else 0))] : List AV) = [.p (.int .i64 ((v.2 i).1)), .p (.int .i64 ((v.2 i).2.1))])))),
  (AE v.1)] := by kernel_rfl
theorem p_toFramework (v : T_Framework) :
    pathOb Try.prog Try.f132 0 [.reg [oT, oT], .reg [oT], .reg [oT, oT, ⟨true, (some ⟨[], [], [], 1, [(0, ⟨false, 2, v.1.2.1.1, fun i => [.p (.int .i64 ((v.1.2.1.2 i).1)), .p (.int .i64 ((v.1.2.1.2 i).2.1))]⟩)], .agg [.p (.int .i64 v.1.1), .ar 2 0 0 v.1.2.1.1]⟩), none⟩, oT, oT], .reg [oT, oT, ⟨true, (some ⟨[], [], [], 1, [(0, ⟨false, 2, v.2.1.1, fun i => [.p (.int .i64 ((v.2.1.2 i).1)), .p (.int .i64 ((v.2.1.2 i).2.1))]⟩)], .ar 2 0 0 v.2.1.1⟩), none⟩, oT, oT], .reg [oT, oT]] [.code (bodyOf Try.f132)] (start Try.f132 [] 0 [.agg [.p (.int .i64 v.1.1), .p (.seq true 2 v.1.2.1.1 (fun i => [.int .i64 ((v.1.2.1.2 i).1), .int .i64 ((v.1.2.1.2 i).2.1)])), .p (.seq true 2 v.2.1.1 (fun i => [.int .i64 ((v.2.1.2 i).1), .int .i64 ((v.2.1.2 i).2.1)]))]]) [160, 320] 1 [(0, ⟨false, 2, v.1.2.1.1, fun i => [.p (.int .i64 ((v.1.2.1.2 i).1)), .p (.int .i64 ((v.1.2.1.2 i).2.1))]⟩), (1, ⟨false, 2, v.2.1.1, fun i => [.p (.int .i64 ((v.2.1.2 i).1)), .p (.int .i64 ((v.2.1.2 i).2.1))]⟩)] (.agg [.p (.int .i64 v.1.1), .ar 2 0 0 v.1.2.1.1, .ar 2 1 0 v.2.1.1]) =
    some [((0 : Nat) < 1),
  Con Try.prog 16 0 [] [.agg [.p (.int .i64 v.1.1), .p (.seq true 2 v.1.2.1.1 (fun i => [.int .i64 ((v.1.2.1.2 i).1), .int .i64 ((v.1.2.1.2 i).2.1)]))]] [(0, ⟨false, 2, v.1.2.1.1, (fun i => [.p (.int .i64 ((v.1.2.1.2 i).1)), .p (.int .i64 ((v.1.2.1.2 i).2.1))])⟩)] (.agg [.p (.int .i64 v.1.1), .ar 2 0 0 v.1.2.1.1]),
  ((0 : Nat) < 1),
  ((true = true) → (AN 1)),
  ((0 : Nat) < 1),
  Con Try.prog 150 0 [] [.p (.seq true 2 v.2.1.1 (fun i => [.int .i64 ((v.2.1.2 i).1), .int .i64 ((v.2.1.2 i).2.1)]))] [(0, ⟨false, 2, v.2.1.1, (fun i => [.p (.int .i64 ((v.2.1.2 i).1)), .p (.int .i64 ((v.2.1.2 i).2.1))])⟩)] (.ar 2 0 0 v.2.1.1),
  ((0 : Nat) < 1),
  ((true = true) → (AN 1)),
  ((0 : Nat) < 1),
  ((0 : Nat) < 1),
  ((true = true) → (AN 1)),
  ((0 : Nat) < 1),
  (AI v.1.1),
  (AN 0),
  (AN v.1.2.1.1),
  (AN 0),
  (AN v.2.1.1),
  (AN 2),
  ((v.1.2.1.1 : Nat) ≤ v.1.2.1.1),
  (AA v.1.2.1.1 (fun i => [.p (.int .i64 ((v.1.2.1.2 i).1)), .p (.int .i64 ((v.1.2.1.2 i).2.1))])),
  (AN 2),
  ((v.2.1.1 : Nat) ≤ v.2.1.1),
  (AA v.2.1.1 (fun i => [.p (.int .i64 ((v.2.1.2 i).1)), .p (.int .i64 ((v.2.1.2 i).2.1))])),
  (AE v.1.2.1.1),
  (AE v.2.1.1)] := by kernel_rfl
theorem p_toTensegrity (v : T_Tensegrity) :
    pathOb Try.prog Try.f93 0 [.reg [oT, oT], .reg [oT], .reg [oT, oT, ⟨true, (some ⟨[], [], [], 1, [(0, ⟨false, 2, v.1.1.2.1.1, fun i => [.p (.int .i64 ((v.1.1.2.1.2 i).1)), .p (.int .i64 ((v.1.1.2.1.2 i).2.1))]⟩), (1, ⟨false, 2, v.1.2.1.1, fun i => [.p (.int .i64 ((v.1.2.1.2 i).1)), .p (.int .i64 ((v.1.2.1.2 i).2.1))]⟩)], .agg [.p (.int .i64 v.1.1.1), .ar 2 0 0 v.1.1.2.1.1, .ar 2 1 0 v.1.2.1.1]⟩), none⟩, oT, oT], .reg [oT, oT, ⟨true, (some ⟨[], [], [], 1, [(0, ⟨false, 1, v.2.1.1, fun i => [.p (.int .i64 (v.2.1.2 i))]⟩)], .ar 1 0 0 v.2.1.1⟩), none⟩, oT, oT], .reg [oT, oT]] [.code (bodyOf Try.f93)] (start Try.f93 [] 0 [.agg [.p (.int .i64 v.1.1.1), .p (.seq true 2 v.1.1.2.1.1 (fun i => [.int .i64 ((v.1.1.2.1.2 i).1), .int .i64 ((v.1.1.2.1.2 i).2.1)])), .p (.seq true 2 v.1.2.1.1 (fun i => [.int .i64 ((v.1.2.1.2 i).1), .int .i64 ((v.1.2.1.2 i).2.1)])), .p (.seq true 1 v.2.1.1 (fun i => [.int .i64 (v.2.1.2 i)]))]]) [160, 161, 320] 1 [(0, ⟨false, 2, v.1.1.2.1.1, fun i => [.p (.int .i64 ((v.1.1.2.1.2 i).1)), .p (.int .i64 ((v.1.1.2.1.2 i).2.1))]⟩), (1, ⟨false, 2, v.1.2.1.1, fun i => [.p (.int .i64 ((v.1.2.1.2 i).1)), .p (.int .i64 ((v.1.2.1.2 i).2.1))]⟩), (2, ⟨false, 1, v.2.1.1, fun i => [.p (.int .i64 (v.2.1.2 i))]⟩)] (.agg [.p (.int .i64 v.1.1.1), .ar 2 0 0 v.1.1.2.1.1, .ar 2 1 0 v.1.2.1.1, .ar 1 2 0 v.2.1.1]) =
    some [((0 : Nat) < 1),
  Con Try.prog 132 0 [] [.agg [.p (.int .i64 v.1.1.1), .p (.seq true 2 v.1.1.2.1.1 (fun i => [.int .i64 ((v.1.1.2.1.2 i).1), .int .i64 ((v.1.1.2.1.2 i).2.1)])), .p (.seq true 2 v.1.2.1.1 (fun i => [.int .i64 ((v.1.2.1.2 i).1), .int .i64 ((v.1.2.1.2 i).2.1)]))]] [(0, ⟨false, 2, v.1.1.2.1.1, (fun i => [.p (.int .i64 ((v.1.1.2.1.2 i).1)), .p (.int .i64 ((v.1.1.2.1.2 i).2.1))])⟩), (1, ⟨false, 2, v.1.2.1.1, (fun i => [.p (.int .i64 ((v.1.2.1.2 i).1)), .p (.int .i64 ((v.1.2.1.2 i).2.1))])⟩)] (.agg [.p (.int .i64 v.1.1.1), .ar 2 0 0 v.1.1.2.1.1, .ar 2 1 0 v.1.2.1.1]),
  ((0 : Nat) < 1),
  ((true = true) → (AN 1)),
  ((0 : Nat) < 1),
  Con Try.prog 95 0 [] [.p (.seq true 1 v.2.1.1 (fun i => [.int .i64 (v.2.1.2 i)]))] [(0, ⟨false, 1, v.2.1.1, (fun i => [.p (.int .i64 (v.2.1.2 i))])⟩)] (.ar 1 0 0 v.2.1.1),
  ((0 : Nat) < 1),
  ((true = true) → (AN 1)),
  ((0 : Nat) < 1),
  ((0 : Nat) < 1),
  ((true = true) → (AN 1)),
  ((0 : Nat) < 1),
  (AI v.1.1.1),
  (AN 0),
  (AN v.1.1.2.1.1),
  (AN 0),
  (AN v.1.2.1.1),
  (AN 0),
  (AN v.2.1.1),
  (AN 2),
  ((v.1.1.2.1.1 : Nat) ≤ v.1.1.2.1.1),
  (AA v.1.1.2.1.1 (fun i => [.p (.int .i64 ((v.1.1.2.1.2 i).1)), .p (.int .i64 ((v.1.1.2.1.2 i).2.1))])),
  (AN 2),
  ((v.1.2.1.1 : Nat) ≤ v.1.2.1.1),
  (AA v.1.2.1.1 (fun i => [.p (.int .i64 ((v.1.2.1.2 i).1)), .p (.int .i64 ((v.1.2.1.2 i).2.1))])),
  (AN 1),
  ((v.2.1.1 : Nat) ≤ v.2.1.1),
  (AA v.2.1.1 (fun i => [.p (.int .i64 (v.2.1.2 i))])),
  (AE v.1.1.2.1.1),
  (AE v.1.2.1.1),
  (AE v.2.1.1)] := by kernel_rfl
theorem p_toStep (v : T_Step) :
    pathOb Try.prog Try.f133 0 [.reg [oT, oT], .reg [oT], .reg [oT, oT, oT, oT], .reg [oT, oT, oT, oT], .reg [oT, oT, oT, oT], .reg [oT, oT, oT, oT], .reg [oT, oT, oT, oT], .reg [oT, oT]] [.code (bodyOf Try.f133)] (start Try.f133 [] 0 [.agg [.p (.int .i64 v.1), .p (.int .i64 v.2.1), .p (.int .i64 v.2.2.1), .p (.int .i64 v.2.2.2.1), .p (.int .i64 v.2.2.2.2.1)]]) [] 1 [] (.agg [.p (.int .i64 v.1), .p (.int .i64 v.2.1), .p (.int .i64 v.2.2.1), .p (.int .i64 v.2.2.2.1), .p (.int .i64 v.2.2.2.2.1)]) =
    some [((0 : Nat) < 1),
  ((0 : Nat) < 1),
  ((true = true) → (AN 1)),
  ((0 : Nat) < 1),
  ((0 : Nat) < 1),
  ((true = true) → (AN 1)),
  ((0 : Nat) < 1),
  ((0 : Nat) < 1),
  ((true = true) → (AN 1)),
  ((0 : Nat) < 1),
  ((0 : Nat) < 1),
  ((true = true) → (AN 1)),
  ((0 : Nat) < 1),
  ((0 : Nat) < 1),
  ((true = true) → (AN 1)),
  ((0 : Nat) < 1),
  ((0 : Nat) < 1),
  ((true = true) → (AN 1)),
  ((0 : Nat) < 1),
  (AI v.1),
  (AI v.2.1),
  (AI v.2.2.1),
  (AI v.2.2.2.1),
  (AI v.2.2.2.2.1)] := by kernel_rfl
theorem p_toStepS_a (v : T_StepS) :
    pieceOb Try.prog 0 [.reg [oT], .reg [oT, oT, oT, oT], .reg [oT], .head] [.code (bodyOf Try.f94)] (start Try.f94 [] 0 [.p (.seq true 5 v.1 (fun i => [.int .i64 ((v.2 i).1), .int .i64 ((v.2 i).2.1), .int .i64 ((v.2 i).2.2.1), .int .i64 ((v.2 i).2.2.2.1), .int .i64 ((v.2 i).2.2.2.2.1)]))]) [96] 1 (S_toStepS v 0) =
    some ([.code (cAt (bodyOf Try.f94) [1, 1, 0, 1, 0, 0]), .inLoop (cAt (bodyOf Try.f94) [1, 1, 0, 1, 0, 0]), .inBlock 0, .code (cAt (bodyOf Try.f94) [1, 1, 1])], [((0 : Int) ≤ (↑v.1 : Int)),
  (((↑v.1 : Int) : Int) ≤ (↑v.1 : Int)),
  ((((↑v.1 : Int) * (↑40 : Int)) : Int) ≤ 281474976710656),
  (((↑v.1 : Int) : Int) ≤ 9223372036854775807),
  (AN v.1),
  (AP v.1 (fun i => [.int .i64 ((v.2 i).1), .int .i64 ((v.2 i).2.1), .int .i64 ((v.2 i).2.2.1), .int .i64 ((v.2 i).2.2.2.1), .int .i64 ((v.2 i).2.2.2.2.1)])),
  (AN 0),
  (AN v.1),
  ((0 : Int) = (↑0 : Int)),
  (AN 5),
  ((v.1 : Nat) ≤ v.1),
  (∀ i : Nat, (((i : Nat) < v.1) → (All [] ∧ (([.p (.int .i64 0), .p (.int .i64 0), .p (.int .i64 0), .p (.int .i64 0), .p (.int .i64 0)] : List AV) = [.p (.int .i64 (if i < 0 then (v.2 i).1 else 0)), .p (.int .i64 (if i < 0 then (v.2 i).2.1 else 0)), .p (.int .i64 (if i < 0 then (v.2 i).2.2.1 else 0)), .p (.int .i64 (if i < 0 then (v.2 i).2.2.2.1 else 0)), .p (.int .i64 (if i < 0 then (v.2 i).2.2.2.2.1 else 0))]))))]) := by kernel_rfl
theorem p_toStepS_b (v : T_StepS) (k : Nat) :
    pieceOb Try.prog 0 [.reg [oT, oT, oT, oT], .dec true, .reg [oT, oT, oT, oT, oT, oT, ⟨true, (some ⟨[], [], [], 1, [], .agg [.p (.int .i64 ((v.2 k).1)), .p (.int .i64 ((v.2 k).2.1)), .p (.int .i64 ((v.2 k).2.2.1)), .p (.int .i64 ((v.2 k).2.2.2.1)), .p (.int .i64 ((v.2 k).2.2.2.2.1))]⟩), none⟩, oT, oT], .reg [oT, oT, oT], .head] [.code (cAt (bodyOf Try.f94) [1, 1, 0, 1, 0, 0]), .inLoop (cAt (bodyOf Try.f94) [1, 1, 0, 1, 0, 0]), .inBlock 0, .code (cAt (bodyOf Try.f94) [1, 1, 1])] (S_toStepS v k) [0] 1 (S_toStepS v (k + 1)) =
    some ([.code (cAt (bodyOf Try.f94) [1, 1, 0, 1, 0, 0]), .inLoop (cAt (bodyOf Try.f94) [1, 1, 0, 1, 0, 0]), .inBlock 0, .code (cAt (bodyOf Try.f94) [1, 1, 1])], [((decide ((↑k : Int) < (↑v.1 : Int))) = true),
  ((0 : Int) ≤ (↑k : Int)),
  (((↑k : Int) : Int) < (↑v.1 : Int)),
  Con Try.prog 133 0 [] [.agg [.p (.int .i64 ((v.2 k).1)), .p (.int .i64 ((v.2 k).2.1)), .p (.int .i64 ((v.2 k).2.2.1)), .p (.int .i64 ((v.2 k).2.2.2.1)), .p (.int .i64 ((v.2 k).2.2.2.2.1))]] [] (.agg [.p (.int .i64 ((v.2 k).1)), .p (.int .i64 ((v.2 k).2.1)), .p (.int .i64 ((v.2 k).2.2.1)), .p (.int .i64 ((v.2 k).2.2.2.1)), .p (.int .i64 ((v.2 k).2.2.2.2.1))]),
  ((0 : Int) ≤ (↑k : Int)),
  (((↑k : Int) : Int) < (↑v.1 : Int)),
  ((k : Nat) < v.1),
  ((false = true) → ((v.1 : Nat) = 1)),
  (((-9223372036854775808) : Int) ≤ ((↑k : Int) + 1)),
  ((((↑k : Int) + 1) : Int) ≤ 9223372036854775807),
  (AN v.1),
  (AP v.1 (fun i => [.int .i64 ((v.2 i).1), .int .i64 ((v.2 i).2.1), .int .i64 ((v.2 i).2.2.1), .int .i64 ((v.2 i).2.2.2.1), .int .i64 ((v.2 i).2.2.2.2.1)])),
  (AN 0),
  (AN v.1),
  ((((↑k : Int) + 1) : Int) = (↑(k + 1) : Int)),
  (AN 5),
  ((v.1 : Nat) ≤ v.1),
  (∀ i : Nat, (((i : Nat) < v.1) → (All (cvtL false [(0, ⟨false, 5, v.1, (fun i_1 => (if (i_1 = k) then [.p (.int .i64 ((v.2 k).1)), .p (.int .i64 ((v.2 k).2.1)), .p (.int .i64 ((v.2 k).2.2.1)), .p (.int .i64 ((v.2 k).2.2.2.1)), .p (.int .i64 ((v.2 k).2.2.2.2.1))] else [.p (.int .i64 (if i_1 < k then (v.2 i_1).1 else 0)), .p (.int .i64 (if i_1 < k then (v.2 i_1).2.1 else 0)), .p (.int .i64 (if i_1 < k then (v.2 i_1).2.2.1 else 0)), .p (.int .i64 (if i_1 < k then (v.2 i_1).2.2.2.1 else 0)), .p (.int .i64 (if i_1 < k then (v.2 i_1).2.2.2.2.1 else 0))]))⟩)] [0] 1 (if (i = k) then [.p (.int .i64 ((v.2 k).1)), .p (.int .i64 ((v.2 k).2.1)), .p (.int .i64 ((v.2 k).2.2.1)), .p (.int .i64 ((v.2 k).2.2.2.1)), .p (.int .i64 ((v.2 k).2.2.2.2.1))] else [.p (.int .i64 (if i < k then (v.2 i).1 else 0)), .p (.int .i64 (if i < k then (v.2 i).2.1 else 0)), .p (.int .i64 (if i < k then (v.2 i).2.2.1 else 0)), .p (.int .i64 (if i < k then (v.2 i).2.2.2.1 else 0)), .p (.int .i64 (if i < k then (v.2 i).2.2.2.2.1 else 0))])).2 ∧ (((cvtL false [(0, ⟨false, 5, v.1, (fun i_1 => (if (i_1 = k) then [.p (.int .i64 ((v.2 k).1)), .p (.int .i64 ((v.2 k).2.1)), .p (.int .i64 ((v.2 k).2.2.1)), .p (.int .i64 ((v.2 k).2.2.2.1)), .p (.int .i64 ((v.2 k).2.2.2.2.1))] else [.p (.int .i64 (if i_1 < k then (v.2 i_1).1 else 0)), .p (.int .i64 (if i_1 < k then (v.2 i_1).2.1 else 0)), .p (.int .i64 (if i_1 < k then (v.2 i_1).2.2.1 else 0)), .p (.int .i64 (if i_1 < k then (v.2 i_1).2.2.2.1 else 0)), .p (.int .i64 (if i_1 < k then (v.2 i_1).2.2.2.2.1 else 0))]))⟩)] [0] 1 (if (i = k) then [.p (.int .i64 ((v.2 k).1)), .p (.int .i64 ((v.2 k).2.1)), .p (.int .i64 ((v.2 k).2.2.1)), .p (.int .i64 ((v.2 k).2.2.2.1)), .p (.int .i64 ((v.2 k).2.2.2.2.1))] else [.p (.int .i64 (if i < k then (v.2 i).1 else 0)), .p (.int .i64 (if i < k then (v.2 i).2.1 else 0)), .p (.int .i64 (if i < k then (v.2 i).2.2.1 else 0)), .p (.int .i64 (if i < k then (v.2 i).2.2.2.1 else 0)), .p (.int .i64 (if i < k then (v.2 i).2.2.2.2.1 else 0))])).1 : List AV) = [.p (.int .i64 (if i < k + 1 then (v.2 i).1 else 0)), .p (.int .i64 (if i < k + 1 then (v.2 i).2.1 else 0)), .p (.int .i64 (if i < k + 1 then (v.2 i).2.2.1 else 0)), .p (.int .i64 (if i < k + 1 then (v.2 i).2.2.2.1 else 0)), .p (.int .i64 (if i < k + 1 then (v.2 i).2.2.2.2.1 else 0))]))))]) := by kernel_rfl
theorem p_toStepS_c (v : T_StepS) (k : Nat) :
    pathOb Try.prog Try.f94 0 [.reg [oT, oT, oT, oT], .dec false, .reg [oT, oT]] [.code (cAt (bodyOf Try.f94) [1, 1, 0, 1, 0, 0]), .inLoop (cAt (bodyOf Try.f94) [1, 1, 0, 1, 0, 0]), .inBlock 0, .code (cAt (bodyOf Try.f94) [1, 1, 1])] (S_toStepS v k) [0] 1 [(0, ⟨false, 5, v.1, fun i => [.p (.int .i64 ((v.2 i).1)), .p (.int .i64 ((v.2 i).2.1)), .p (.int .i64 ((v.2 i).2.2.1)), .p (.int .i64 ((v.2 i).2.2.2.1)), .p (.int .i64 ((v.2 i).2.2.2.2.1))]⟩)] (.ar 5 0 0 v.1) =
    some [((decide ((↑k : Int) < (↑v.1 : Int))) = false),
  (AN 0),
  (AN v.1),
  (AN 5),
  ((v.1 : Nat) ≤ v.1),
  (∀ i : Nat, (((i : Nat) < v.1) → (All [] ∧ (([.p (.int .i64 (if i < k then (v.2 i).1 else 0)), .p (.int .i64 (if i < k then (v.2 i).2.1 else 0)), .p (.int .i64 (if i < k then (v.2 i).2.2.1 else 0)), .p (.int .i64 (if i < k then (v.2 i).2.2.2.1 else 0)), .p (.int .i64 (if i < k then (v.2 i).2.2.2.2.1 else 0))] : List AV) = [.p (.int .i64 ((v.2 i).1)), .p (.int .i64 ((v.2 i).2.1)), .p (.int .i64 ((v.2 i).2.2.1)), .p (.int .i64 ((v.2 i).2.2.2.1)), .p (.int .i64 ((v.2 i).2.2.2.2.1))])))),
  (AE v.1)] := by kernel_rfl
theorem p_toClaim (v : T_Claim) :
    pathOb Try.prog Try.f32 0 [.reg [oT, oT], .reg [oT], .reg [oT, oT, oT, oT], .reg [oT, oT, ⟨true, (some ⟨[], [], [], 1, [(0, ⟨false, 2, v.2.1.2.1.1, fun i => [.p (.int .i64 ((v.2.1.2.1.2 i).1)), .p (.int .i64 ((v.2.1.2.1.2 i).2.1))]⟩)], .agg [.p (.int .i64 v.2.1.1), .ar 2 0 0 v.2.1.2.1.1]⟩), none⟩, oT, oT], .reg [oT, oT, ⟨true, (some ⟨[], [], [], 1, [(0, ⟨false, 2, v.2.2.1.1.1.2.1.1, fun i => [.p (.int .i64 ((v.2.2.1.1.1.2.1.2 i).1)), .p (.int .i64 ((v.2.2.1.1.1.2.1.2 i).2.1))]⟩), (1, ⟨false, 2, v.2.2.1.1.2.1.1, fun i => [.p (.int .i64 ((v.2.2.1.1.2.1.2 i).1)), .p (.int .i64 ((v.2.2.1.1.2.1.2 i).2.1))]⟩), (2, ⟨false, 1, v.2.2.1.2.1.1, fun i => [.p (.int .i64 (v.2.2.1.2.1.2 i))]⟩)], .agg [.p (.int .i64 v.2.2.1.1.1.1), .ar 2 0 0 v.2.2.1.1.1.2.1.1, .ar 2 1 0 v.2.2.1.1.2.1.1, .ar 1 2 0 v.2.2.1.2.1.1]⟩), none⟩, oT, oT], .reg [oT, oT, ⟨true, (some ⟨[], [], [], 1, [(0, ⟨false, 5, v.2.2.2.1.1, fun i => [.p (.int .i64 ((v.2.2.2.1.2 i).1)), .p (.int .i64 ((v.2.2.2.1.2 i).2.1)), .p (.int .i64 ((v.2.2.2.1.2 i).2.2.1)), .p (.int .i64 ((v.2.2.2.1.2 i).2.2.2.1)), .p (.int .i64 ((v.2.2.2.1.2 i).2.2.2.2.1))]⟩)], .ar 5 0 0 v.2.2.2.1.1⟩), none⟩, oT, oT], .reg [oT, oT, ⟨true, (some ⟨[], [], [], 1, [(0, ⟨false, 1, v.2.2.2.2.1.1, fun i => [.p (.int .i64 (v.2.2.2.2.1.2 i))]⟩)], .ar 1 0 0 v.2.2.2.2.1.1⟩), none⟩, oT, oT], .reg [oT, oT]] [.code (bodyOf Try.f32)] (start Try.f32 [] 0 [.agg [.p (.int .i64 v.1), .p (.int .i64 v.2.1.1), .p (.seq true 2 v.2.1.2.1.1 (fun i => [.int .i64 ((v.2.1.2.1.2 i).1), .int .i64 ((v.2.1.2.1.2 i).2.1)])), .p (.int .i64 v.2.2.1.1.1.1), .p (.seq true 2 v.2.2.1.1.1.2.1.1 (fun i => [.int .i64 ((v.2.2.1.1.1.2.1.2 i).1), .int .i64 ((v.2.2.1.1.1.2.1.2 i).2.1)])), .p (.seq true 2 v.2.2.1.1.2.1.1 (fun i => [.int .i64 ((v.2.2.1.1.2.1.2 i).1), .int .i64 ((v.2.2.1.1.2.1.2 i).2.1)])), .p (.seq true 1 v.2.2.1.2.1.1 (fun i => [.int .i64 (v.2.2.1.2.1.2 i)])), .p (.seq true 5 v.2.2.2.1.1 (fun i => [.int .i64 ((v.2.2.2.1.2 i).1), .int .i64 ((v.2.2.2.1.2 i).2.1), .int .i64 ((v.2.2.2.1.2 i).2.2.1), .int .i64 ((v.2.2.2.1.2 i).2.2.2.1), .int .i64 ((v.2.2.2.1.2 i).2.2.2.2.1)])), .p (.seq true 1 v.2.2.2.2.1.1 (fun i => [.int .i64 (v.2.2.2.2.1.2 i)]))]]) [288, 448, 449, 450, 608, 768] 1 [(0, ⟨false, 2, v.2.1.2.1.1, fun i => [.p (.int .i64 ((v.2.1.2.1.2 i).1)), .p (.int .i64 ((v.2.1.2.1.2 i).2.1))]⟩), (1, ⟨false, 2, v.2.2.1.1.1.2.1.1, fun i => [.p (.int .i64 ((v.2.2.1.1.1.2.1.2 i).1)), .p (.int .i64 ((v.2.2.1.1.1.2.1.2 i).2.1))]⟩), (2, ⟨false, 2, v.2.2.1.1.2.1.1, fun i => [.p (.int .i64 ((v.2.2.1.1.2.1.2 i).1)), .p (.int .i64 ((v.2.2.1.1.2.1.2 i).2.1))]⟩), (3, ⟨false, 1, v.2.2.1.2.1.1, fun i => [.p (.int .i64 (v.2.2.1.2.1.2 i))]⟩), (4, ⟨false, 5, v.2.2.2.1.1, fun i => [.p (.int .i64 ((v.2.2.2.1.2 i).1)), .p (.int .i64 ((v.2.2.2.1.2 i).2.1)), .p (.int .i64 ((v.2.2.2.1.2 i).2.2.1)), .p (.int .i64 ((v.2.2.2.1.2 i).2.2.2.1)), .p (.int .i64 ((v.2.2.2.1.2 i).2.2.2.2.1))]⟩), (5, ⟨false, 1, v.2.2.2.2.1.1, fun i => [.p (.int .i64 (v.2.2.2.2.1.2 i))]⟩)] (.agg [.p (.int .i64 v.1), .p (.int .i64 v.2.1.1), .ar 2 0 0 v.2.1.2.1.1, .p (.int .i64 v.2.2.1.1.1.1), .ar 2 1 0 v.2.2.1.1.1.2.1.1, .ar 2 2 0 v.2.2.1.1.2.1.1, .ar 1 3 0 v.2.2.1.2.1.1, .ar 5 4 0 v.2.2.2.1.1, .ar 1 5 0 v.2.2.2.2.1.1]) =
    some [((0 : Nat) < 1),
  ((0 : Nat) < 1),
  ((true = true) → (AN 1)),
  ((0 : Nat) < 1),
  Con Try.prog 16 0 [] [.agg [.p (.int .i64 v.2.1.1), .p (.seq true 2 v.2.1.2.1.1 (fun i => [.int .i64 ((v.2.1.2.1.2 i).1), .int .i64 ((v.2.1.2.1.2 i).2.1)]))]] [(0, ⟨false, 2, v.2.1.2.1.1, (fun i => [.p (.int .i64 ((v.2.1.2.1.2 i).1)), .p (.int .i64 ((v.2.1.2.1.2 i).2.1))])⟩)] (.agg [.p (.int .i64 v.2.1.1), .ar 2 0 0 v.2.1.2.1.1]),
  ((0 : Nat) < 1),
  ((true = true) → (AN 1)),
  ((0 : Nat) < 1),
  Con Try.prog 93 0 [] [.agg [.p (.int .i64 v.2.2.1.1.1.1), .p (.seq true 2 v.2.2.1.1.1.2.1.1 (fun i => [.int .i64 ((v.2.2.1.1.1.2.1.2 i).1), .int .i64 ((v.2.2.1.1.1.2.1.2 i).2.1)])), .p (.seq true 2 v.2.2.1.1.2.1.1 (fun i => [.int .i64 ((v.2.2.1.1.2.1.2 i).1), .int .i64 ((v.2.2.1.1.2.1.2 i).2.1)])), .p (.seq true 1 v.2.2.1.2.1.1 (fun i => [.int .i64 (v.2.2.1.2.1.2 i)]))]] [(0, ⟨false, 2, v.2.2.1.1.1.2.1.1, (fun i => [.p (.int .i64 ((v.2.2.1.1.1.2.1.2 i).1)), .p (.int .i64 ((v.2.2.1.1.1.2.1.2 i).2.1))])⟩), (1, ⟨false, 2, v.2.2.1.1.2.1.1, (fun i => [.p (.int .i64 ((v.2.2.1.1.2.1.2 i).1)), .p (.int .i64 ((v.2.2.1.1.2.1.2 i).2.1))])⟩), (2, ⟨false, 1, v.2.2.1.2.1.1, (fun i => [.p (.int .i64 (v.2.2.1.2.1.2 i))])⟩)] (.agg [.p (.int .i64 v.2.2.1.1.1.1), .ar 2 0 0 v.2.2.1.1.1.2.1.1, .ar 2 1 0 v.2.2.1.1.2.1.1, .ar 1 2 0 v.2.2.1.2.1.1]),
  ((0 : Nat) < 1),
  ((true = true) → (AN 1)),
  ((0 : Nat) < 1),
  Con Try.prog 94 0 [] [.p (.seq true 5 v.2.2.2.1.1 (fun i => [.int .i64 ((v.2.2.2.1.2 i).1), .int .i64 ((v.2.2.2.1.2 i).2.1), .int .i64 ((v.2.2.2.1.2 i).2.2.1), .int .i64 ((v.2.2.2.1.2 i).2.2.2.1), .int .i64 ((v.2.2.2.1.2 i).2.2.2.2.1)]))] [(0, ⟨false, 5, v.2.2.2.1.1, (fun i => [.p (.int .i64 ((v.2.2.2.1.2 i).1)), .p (.int .i64 ((v.2.2.2.1.2 i).2.1)), .p (.int .i64 ((v.2.2.2.1.2 i).2.2.1)), .p (.int .i64 ((v.2.2.2.1.2 i).2.2.2.1)), .p (.int .i64 ((v.2.2.2.1.2 i).2.2.2.2.1))])⟩)] (.ar 5 0 0 v.2.2.2.1.1),
  ((0 : Nat) < 1),
  ((true = true) → (AN 1)),
  ((0 : Nat) < 1),
  Con Try.prog 95 0 [] [.p (.seq true 1 v.2.2.2.2.1.1 (fun i => [.int .i64 (v.2.2.2.2.1.2 i)]))] [(0, ⟨false, 1, v.2.2.2.2.1.1, (fun i => [.p (.int .i64 (v.2.2.2.2.1.2 i))])⟩)] (.ar 1 0 0 v.2.2.2.2.1.1),
  ((0 : Nat) < 1),
  ((true = true) → (AN 1)),
  ((0 : Nat) < 1),
  ((0 : Nat) < 1),
  ((true = true) → (AN 1)),
  ((0 : Nat) < 1),
  (AI v.1),
  (AI v.2.1.1),
  (AN 0),
  (AN v.2.1.2.1.1),
  (AI v.2.2.1.1.1.1),
  (AN 0),
  (AN v.2.2.1.1.1.2.1.1),
  (AN 0),
  (AN v.2.2.1.1.2.1.1),
  (AN 0),
  (AN v.2.2.1.2.1.1),
  (AN 0),
  (AN v.2.2.2.1.1),
  (AN 0),
  (AN v.2.2.2.2.1.1),
  (AN 2),
  ((v.2.1.2.1.1 : Nat) ≤ v.2.1.2.1.1),
  (AA v.2.1.2.1.1 (fun i => [.p (.int .i64 ((v.2.1.2.1.2 i).1)), .p (.int .i64 ((v.2.1.2.1.2 i).2.1))])),
  (AN 2),
  ((v.2.2.1.1.1.2.1.1 : Nat) ≤ v.2.2.1.1.1.2.1.1),
  (AA v.2.2.1.1.1.2.1.1 (fun i => [.p (.int .i64 ((v.2.2.1.1.1.2.1.2 i).1)), .p (.int .i64 ((v.2.2.1.1.1.2.1.2 i).2.1))])),
  (AN 2),
  ((v.2.2.1.1.2.1.1 : Nat) ≤ v.2.2.1.1.2.1.1),
  (AA v.2.2.1.1.2.1.1 (fun i => [.p (.int .i64 ((v.2.2.1.1.2.1.2 i).1)), .p (.int .i64 ((v.2.2.1.1.2.1.2 i).2.1))])),
  (AN 1),
  ((v.2.2.1.2.1.1 : Nat) ≤ v.2.2.1.2.1.1),
  (AA v.2.2.1.2.1.1 (fun i => [.p (.int .i64 (v.2.2.1.2.1.2 i))])),
  (AN 5),
  ((v.2.2.2.1.1 : Nat) ≤ v.2.2.2.1.1),
  (AA v.2.2.2.1.1 (fun i => [.p (.int .i64 ((v.2.2.2.1.2 i).1)), .p (.int .i64 ((v.2.2.2.1.2 i).2.1)), .p (.int .i64 ((v.2.2.2.1.2 i).2.2.1)), .p (.int .i64 ((v.2.2.2.1.2 i).2.2.2.1)), .p (.int .i64 ((v.2.2.2.1.2 i).2.2.2.2.1))])),
  (AN 1),
  ((v.2.2.2.2.1.1 : Nat) ≤ v.2.2.2.2.1.1),
  (AA v.2.2.2.2.1.1 (fun i => [.p (.int .i64 (v.2.2.2.2.1.2 i))])),
  (AE v.2.1.2.1.1),
  (AE v.2.2.1.1.1.2.1.1),
  (AE v.2.2.1.1.2.1.1),
  (AE v.2.2.1.2.1.1),
  (AE v.2.2.2.1.1),
  (AE v.2.2.2.2.1.1)] := by kernel_rfl
theorem p_eqIntS_a (v : T_IntS) :
    pieceOb Try.prog 0 [.reg [oT], .reg [oT, oT, oT, oT, oT], .dec false, .reg [oT], .head] [.code (bodyOf Try.f106)] (start Try.f106 [] 0 [.p (.seq true 1 v.1 (fun i => [.int .i64 (v.2 i)])), .p (.seq true 1 v.1 (fun i => [.int .i64 (v.2 i)]))]) [] 1 (S_eqIntS v 0) =
    some ([.code (cAt (bodyOf Try.f106) [1, 1, 0, 1, 0, 0]), .inLoop (cAt (bodyOf Try.f106) [1, 1, 0, 1, 0, 0]), .inBlock 0, .code (cAt (bodyOf Try.f106) [1, 1, 1])], [(((↑v.1 : Int) != (↑v.1 : Int)) = false),
  (AN v.1),
  (AP v.1 (fun i => [.int .i64 (v.2 i)])),
  (AN v.1),
  (AP v.1 (fun i => [.int .i64 (v.2 i)])),
  ((0 : Int) = (↑0 : Int))]) := by kernel_rfl
theorem p_eqIntS_b (v : T_IntS) (k : Nat) :
    pieceOb Try.prog 0 [.reg [oT, oT, oT, oT], .dec true, .reg [oT, oT, oT, oT, oT, oT, oT, oT, oT], .dec false, .reg [oT, oT, oT], .head] [.code (cAt (bodyOf Try.f106) [1, 1, 0, 1, 0, 0]), .inLoop (cAt (bodyOf Try.f106) [1, 1, 0, 1, 0, 0]), .inBlock 0, .code (cAt (bodyOf Try.f106) [1, 1, 1])] (S_eqIntS v k) [] 1 (S_eqIntS v (k + 1)) =
    some ([.code (cAt (bodyOf Try.f106) [1, 1, 0, 1, 0, 0]), .inLoop (cAt (bodyOf Try.f106) [1, 1, 0, 1, 0, 0]), .inBlock 0, .code (cAt (bodyOf Try.f106) [1, 1, 1])], [((decide ((↑k : Int) < (↑v.1 : Int))) = true),
  ((0 : Int) ≤ (↑k : Int)),
  (((↑k : Int) : Int) < (↑v.1 : Int)),
  ((0 : Int) ≤ (↑k : Int)),
  (((↑k : Int) : Int) < (↑v.1 : Int)),
  ((v.2 k != v.2 k) = false),
  (((-9223372036854775808) : Int) ≤ ((↑k : Int) + 1)),
  ((((↑k : Int) + 1) : Int) ≤ 9223372036854775807),
  (AN v.1),
  (AP v.1 (fun i => [.int .i64 (v.2 i)])),
  (AN v.1),
  (AP v.1 (fun i => [.int .i64 (v.2 i)])),
  ((((↑k : Int) + 1) : Int) = (↑(k + 1) : Int))]) := by kernel_rfl
theorem p_eqIntS_c (v : T_IntS) (k : Nat) :
    pathOb Try.prog Try.f106 0 [.reg [oT, oT, oT, oT], .dec false, .reg [oT]] [.code (cAt (bodyOf Try.f106) [1, 1, 0, 1, 0, 0]), .inLoop (cAt (bodyOf Try.f106) [1, 1, 0, 1, 0, 0]), .inBlock 0, .code (cAt (bodyOf Try.f106) [1, 1, 1])] (S_eqIntS v k) [] 1 [] (.p (.bool true)) =
    some [((decide ((↑k : Int) < (↑v.1 : Int))) = false),
  (true = true)] := by kernel_rfl
theorem p_eqBar (v : T_Bar) :
    pathOb Try.prog Try.f117 0 [.reg [oT, oT, oT], .reg [oT, oT, oT, oT, oT], .dec false, .reg [oT, oT, oT, oT, oT], .dec false, .reg [oT]] [.code (bodyOf Try.f117)] (start Try.f117 [] 0 [.agg [.p (.int .i64 v.1), .p (.int .i64 v.2.1)], .agg [.p (.int .i64 v.1), .p (.int .i64 v.2.1)]]) [] 1 [] (.p (.bool true)) =
    some [((0 : Nat) < 1),
  ((0 : Nat) < 1),
  ((v.1 != v.1) = false),
  ((0 : Nat) < 1),
  ((0 : Nat) < 1),
  ((v.2.1 != v.2.1) = false),
  (true = true)] := by kernel_rfl
theorem p_eqBarS_a (v : T_BarS) :
    pieceOb Try.prog 0 [.reg [oT], .reg [oT, oT, oT, oT, oT], .dec false, .reg [oT], .head] [.code (bodyOf Try.f54)] (start Try.f54 [] 0 [.p (.seq true 2 v.1 (fun i => [.int .i64 ((v.2 i).1), .int .i64 ((v.2 i).2.1)])), .p (.seq true 2 v.1 (fun i => [.int .i64 ((v.2 i).1), .int .i64 ((v.2 i).2.1)]))]) [] 1 (S_eqBarS v 0) =
    some ([.code (cAt (bodyOf Try.f54) [1, 1, 0, 1, 0, 0]), .inLoop (cAt (bodyOf Try.f54) [1, 1, 0, 1, 0, 0]), .inBlock 0, .code (cAt (bodyOf Try.f54) [1, 1, 1])], [(((↑v.1 : Int) != (↑v.1 : Int)) = false),
  (AN v.1),
  (AP v.1 (fun i => [.int .i64 ((v.2 i).1), .int .i64 ((v.2 i).2.1)])),
  (AN v.1),
  (AP v.1 (fun i => [.int .i64 ((v.2 i).1), .int .i64 ((v.2 i).2.1)])),
  ((0 : Int) = (↑0 : Int))]) := by kernel_rfl
theorem p_eqBarS_b (v : T_BarS) (k : Nat) :
    pieceOb Try.prog 0 [.reg [oT, oT, oT, oT], .dec true, .reg [oT, oT, oT, oT, oT, oT, oT, oT, ⟨true, (some ⟨[], [], [], 1, [], .p (.bool true)⟩), none⟩, oT], .dec false, .reg [oT, oT, oT], .head] [.code (cAt (bodyOf Try.f54) [1, 1, 0, 1, 0, 0]), .inLoop (cAt (bodyOf Try.f54) [1, 1, 0, 1, 0, 0]), .inBlock 0, .code (cAt (bodyOf Try.f54) [1, 1, 1])] (S_eqBarS v k) [] 1 (S_eqBarS v (k + 1)) =
    some ([.code (cAt (bodyOf Try.f54) [1, 1, 0, 1, 0, 0]), .inLoop (cAt (bodyOf Try.f54) [1, 1, 0, 1, 0, 0]), .inBlock 0, .code (cAt (bodyOf Try.f54) [1, 1, 1])], [((decide ((↑k : Int) < (↑v.1 : Int))) = true),
  ((0 : Int) ≤ (↑k : Int)),
  (((↑k : Int) : Int) < (↑v.1 : Int)),
  ((0 : Int) ≤ (↑k : Int)),
  (((↑k : Int) : Int) < (↑v.1 : Int)),
  Con Try.prog 117 0 [] [.agg [.p (.int .i64 ((v.2 k).1)), .p (.int .i64 ((v.2 k).2.1))], .agg [.p (.int .i64 ((v.2 k).1)), .p (.int .i64 ((v.2 k).2.1))]] [] (.p (.bool true)),
  ((!true) = false),
  (((-9223372036854775808) : Int) ≤ ((↑k : Int) + 1)),
  ((((↑k : Int) + 1) : Int) ≤ 9223372036854775807),
  (AN v.1),
  (AP v.1 (fun i => [.int .i64 ((v.2 i).1), .int .i64 ((v.2 i).2.1)])),
  (AN v.1),
  (AP v.1 (fun i => [.int .i64 ((v.2 i).1), .int .i64 ((v.2 i).2.1)])),
  ((((↑k : Int) + 1) : Int) = (↑(k + 1) : Int))]) := by kernel_rfl
theorem p_eqBarS_c (v : T_BarS) (k : Nat) :
    pathOb Try.prog Try.f54 0 [.reg [oT, oT, oT, oT], .dec false, .reg [oT]] [.code (cAt (bodyOf Try.f54) [1, 1, 0, 1, 0, 0]), .inLoop (cAt (bodyOf Try.f54) [1, 1, 0, 1, 0, 0]), .inBlock 0, .code (cAt (bodyOf Try.f54) [1, 1, 1])] (S_eqBarS v k) [] 1 [] (.p (.bool true)) =
    some [((decide ((↑k : Int) < (↑v.1 : Int))) = false),
  (true = true)] := by kernel_rfl
theorem p_eqGraph (v : T_Graph) :
    pathOb Try.prog Try.f19 0 [.reg [oT, oT, oT], .reg [oT, oT, oT, oT, oT], .dec false, .reg [oT, oT, oT, oT, ⟨true, (some ⟨[], [], [], 1, [], .p (.bool true)⟩), none⟩, oT], .dec false, .reg [oT]] [.code (bodyOf Try.f19)] (start Try.f19 [] 0 [.agg [.p (.int .i64 v.1), .p (.seq true 2 v.2.1.1 (fun i => [.int .i64 ((v.2.1.2 i).1), .int .i64 ((v.2.1.2 i).2.1)]))], .agg [.p (.int .i64 v.1), .p (.seq true 2 v.2.1.1 (fun i => [.int .i64 ((v.2.1.2 i).1), .int .i64 ((v.2.1.2 i).2.1)]))]]) [] 1 [] (.p (.bool true)) =
    some [((0 : Nat) < 1),
  ((0 : Nat) < 1),
  ((v.1 != v.1) = false),
  ((0 : Nat) < 1),
  ((0 : Nat) < 1),
  Con Try.prog 54 0 [] [.p (.seq true 2 v.2.1.1 (fun i => [.int .i64 ((v.2.1.2 i).1), .int .i64 ((v.2.1.2 i).2.1)])), .p (.seq true 2 v.2.1.1 (fun i => [.int .i64 ((v.2.1.2 i).1), .int .i64 ((v.2.1.2 i).2.1)]))] [] (.p (.bool true)),
  ((!true) = false),
  (true = true)] := by kernel_rfl
theorem p_eqPlace (v : T_Place) :
    pathOb Try.prog Try.f177 0 [.reg [oT, oT, oT], .reg [oT, oT, oT, oT, oT], .dec false, .reg [oT, oT, oT, oT, oT], .dec false, .reg [oT]] [.code (bodyOf Try.f177)] (start Try.f177 [] 0 [.agg [.p (.int .i64 v.1), .p (.int .i64 v.2.1)], .agg [.p (.int .i64 v.1), .p (.int .i64 v.2.1)]]) [] 1 [] (.p (.bool true)) =
    some [((0 : Nat) < 1),
  ((0 : Nat) < 1),
  ((v.1 != v.1) = false),
  ((0 : Nat) < 1),
  ((0 : Nat) < 1),
  ((v.2.1 != v.2.1) = false),
  (true = true)] := by kernel_rfl
theorem p_eqPlaceS_a (v : T_PlaceS) :
    pieceOb Try.prog 0 [.reg [oT], .reg [oT, oT, oT, oT, oT], .dec false, .reg [oT], .head] [.code (bodyOf Try.f153)] (start Try.f153 [] 0 [.p (.seq true 2 v.1 (fun i => [.int .i64 ((v.2 i).1), .int .i64 ((v.2 i).2.1)])), .p (.seq true 2 v.1 (fun i => [.int .i64 ((v.2 i).1), .int .i64 ((v.2 i).2.1)]))]) [] 1 (S_eqPlaceS v 0) =
    some ([.code (cAt (bodyOf Try.f153) [1, 1, 0, 1, 0, 0]), .inLoop (cAt (bodyOf Try.f153) [1, 1, 0, 1, 0, 0]), .inBlock 0, .code (cAt (bodyOf Try.f153) [1, 1, 1])], [(((↑v.1 : Int) != (↑v.1 : Int)) = false),
  (AN v.1),
  (AP v.1 (fun i => [.int .i64 ((v.2 i).1), .int .i64 ((v.2 i).2.1)])),
  (AN v.1),
  (AP v.1 (fun i => [.int .i64 ((v.2 i).1), .int .i64 ((v.2 i).2.1)])),
  ((0 : Int) = (↑0 : Int))]) := by kernel_rfl
theorem p_eqPlaceS_b (v : T_PlaceS) (k : Nat) :
    pieceOb Try.prog 0 [.reg [oT, oT, oT, oT], .dec true, .reg [oT, oT, oT, oT, oT, oT, oT, oT, ⟨true, (some ⟨[], [], [], 1, [], .p (.bool true)⟩), none⟩, oT], .dec false, .reg [oT, oT, oT], .head] [.code (cAt (bodyOf Try.f153) [1, 1, 0, 1, 0, 0]), .inLoop (cAt (bodyOf Try.f153) [1, 1, 0, 1, 0, 0]), .inBlock 0, .code (cAt (bodyOf Try.f153) [1, 1, 1])] (S_eqPlaceS v k) [] 1 (S_eqPlaceS v (k + 1)) =
    some ([.code (cAt (bodyOf Try.f153) [1, 1, 0, 1, 0, 0]), .inLoop (cAt (bodyOf Try.f153) [1, 1, 0, 1, 0, 0]), .inBlock 0, .code (cAt (bodyOf Try.f153) [1, 1, 1])], [((decide ((↑k : Int) < (↑v.1 : Int))) = true),
  ((0 : Int) ≤ (↑k : Int)),
  (((↑k : Int) : Int) < (↑v.1 : Int)),
  ((0 : Int) ≤ (↑k : Int)),
  (((↑k : Int) : Int) < (↑v.1 : Int)),
  Con Try.prog 177 0 [] [.agg [.p (.int .i64 ((v.2 k).1)), .p (.int .i64 ((v.2 k).2.1))], .agg [.p (.int .i64 ((v.2 k).1)), .p (.int .i64 ((v.2 k).2.1))]] [] (.p (.bool true)),
  ((!true) = false),
  (((-9223372036854775808) : Int) ≤ ((↑k : Int) + 1)),
  ((((↑k : Int) + 1) : Int) ≤ 9223372036854775807),
  (AN v.1),
  (AP v.1 (fun i => [.int .i64 ((v.2 i).1), .int .i64 ((v.2 i).2.1)])),
  (AN v.1),
  (AP v.1 (fun i => [.int .i64 ((v.2 i).1), .int .i64 ((v.2 i).2.1)])),
  ((((↑k : Int) + 1) : Int) = (↑(k + 1) : Int))]) := by kernel_rfl
theorem p_eqPlaceS_c (v : T_PlaceS) (k : Nat) :
    pathOb Try.prog Try.f153 0 [.reg [oT, oT, oT, oT], .dec false, .reg [oT]] [.code (cAt (bodyOf Try.f153) [1, 1, 0, 1, 0, 0]), .inLoop (cAt (bodyOf Try.f153) [1, 1, 0, 1, 0, 0]), .inBlock 0, .code (cAt (bodyOf Try.f153) [1, 1, 1])] (S_eqPlaceS v k) [] 1 [] (.p (.bool true)) =
    some [((decide ((↑k : Int) < (↑v.1 : Int))) = false),
  (true = true)] := by kernel_rfl
theorem p_eqFramework (v : T_Framework) :
    pathOb Try.prog Try.f136 0 [.reg [oT, oT, oT], .reg [oT, oT, oT, oT, ⟨true, (some ⟨[], [], [], 1, [], .p (.bool true)⟩), none⟩, oT], .dec false, .reg [oT, oT, oT, oT, ⟨true, (some ⟨[], [], [], 1, [], .p (.bool true)⟩), none⟩, oT], .dec false, .reg [oT]] [.code (bodyOf Try.f136)] (start Try.f136 [] 0 [.agg [.p (.int .i64 v.1.1), .p (.seq true 2 v.1.2.1.1 (fun i => [.int .i64 ((v.1.2.1.2 i).1), .int .i64 ((v.1.2.1.2 i).2.1)])), .p (.seq true 2 v.2.1.1 (fun i => [.int .i64 ((v.2.1.2 i).1), .int .i64 ((v.2.1.2 i).2.1)]))], .agg [.p (.int .i64 v.1.1), .p (.seq true 2 v.1.2.1.1 (fun i => [.int .i64 ((v.1.2.1.2 i).1), .int .i64 ((v.1.2.1.2 i).2.1)])), .p (.seq true 2 v.2.1.1 (fun i => [.int .i64 ((v.2.1.2 i).1), .int .i64 ((v.2.1.2 i).2.1)]))]]) [] 1 [] (.p (.bool true)) =
    some [((0 : Nat) < 1),
  ((0 : Nat) < 1),
  Con Try.prog 19 0 [] [.agg [.p (.int .i64 v.1.1), .p (.seq true 2 v.1.2.1.1 (fun i => [.int .i64 ((v.1.2.1.2 i).1), .int .i64 ((v.1.2.1.2 i).2.1)]))], .agg [.p (.int .i64 v.1.1), .p (.seq true 2 v.1.2.1.1 (fun i => [.int .i64 ((v.1.2.1.2 i).1), .int .i64 ((v.1.2.1.2 i).2.1)]))]] [] (.p (.bool true)),
  ((!true) = false),
  ((0 : Nat) < 1),
  ((0 : Nat) < 1),
  Con Try.prog 153 0 [] [.p (.seq true 2 v.2.1.1 (fun i => [.int .i64 ((v.2.1.2 i).1), .int .i64 ((v.2.1.2 i).2.1)])), .p (.seq true 2 v.2.1.1 (fun i => [.int .i64 ((v.2.1.2 i).1), .int .i64 ((v.2.1.2 i).2.1)]))] [] (.p (.bool true)),
  ((!true) = false),
  (true = true)] := by kernel_rfl
theorem p_eqTensegrity (v : T_Tensegrity) :
    pathOb Try.prog Try.f104 0 [.reg [oT, oT, oT], .reg [oT, oT, oT, oT, ⟨true, (some ⟨[], [], [], 1, [], .p (.bool true)⟩), none⟩, oT], .dec false, .reg [oT, oT, oT, oT, ⟨true, (some ⟨[], [], [], 1, [], .p (.bool true)⟩), none⟩, oT], .dec false, .reg [oT]] [.code (bodyOf Try.f104)] (start Try.f104 [] 0 [.agg [.p (.int .i64 v.1.1.1), .p (.seq true 2 v.1.1.2.1.1 (fun i => [.int .i64 ((v.1.1.2.1.2 i).1), .int .i64 ((v.1.1.2.1.2 i).2.1)])), .p (.seq true 2 v.1.2.1.1 (fun i => [.int .i64 ((v.1.2.1.2 i).1), .int .i64 ((v.1.2.1.2 i).2.1)])), .p (.seq true 1 v.2.1.1 (fun i => [.int .i64 (v.2.1.2 i)]))], .agg [.p (.int .i64 v.1.1.1), .p (.seq true 2 v.1.1.2.1.1 (fun i => [.int .i64 ((v.1.1.2.1.2 i).1), .int .i64 ((v.1.1.2.1.2 i).2.1)])), .p (.seq true 2 v.1.2.1.1 (fun i => [.int .i64 ((v.1.2.1.2 i).1), .int .i64 ((v.1.2.1.2 i).2.1)])), .p (.seq true 1 v.2.1.1 (fun i => [.int .i64 (v.2.1.2 i)]))]]) [] 1 [] (.p (.bool true)) =
    some [((0 : Nat) < 1),
  ((0 : Nat) < 1),
  Con Try.prog 136 0 [] [.agg [.p (.int .i64 v.1.1.1), .p (.seq true 2 v.1.1.2.1.1 (fun i => [.int .i64 ((v.1.1.2.1.2 i).1), .int .i64 ((v.1.1.2.1.2 i).2.1)])), .p (.seq true 2 v.1.2.1.1 (fun i => [.int .i64 ((v.1.2.1.2 i).1), .int .i64 ((v.1.2.1.2 i).2.1)]))], .agg [.p (.int .i64 v.1.1.1), .p (.seq true 2 v.1.1.2.1.1 (fun i => [.int .i64 ((v.1.1.2.1.2 i).1), .int .i64 ((v.1.1.2.1.2 i).2.1)])), .p (.seq true 2 v.1.2.1.1 (fun i => [.int .i64 ((v.1.2.1.2 i).1), .int .i64 ((v.1.2.1.2 i).2.1)]))]] [] (.p (.bool true)),
  ((!true) = false),
  ((0 : Nat) < 1),
  ((0 : Nat) < 1),
  Con Try.prog 106 0 [] [.p (.seq true 1 v.2.1.1 (fun i => [.int .i64 (v.2.1.2 i)])), .p (.seq true 1 v.2.1.1 (fun i => [.int .i64 (v.2.1.2 i)]))] [] (.p (.bool true)),
  ((!true) = false),
  (true = true)] := by kernel_rfl
theorem p_eqStep (v : T_Step) :
    pathOb Try.prog Try.f137 0 [.reg [oT, oT, oT], .reg [oT, oT, oT, oT, oT], .dec false, .reg [oT, oT, oT, oT, oT], .dec false, .reg [oT, oT, oT, oT, oT], .dec false, .reg [oT, oT, oT, oT, oT], .dec false, .reg [oT, oT, oT, oT, oT], .dec false, .reg [oT]] [.code (bodyOf Try.f137)] (start Try.f137 [] 0 [.agg [.p (.int .i64 v.1), .p (.int .i64 v.2.1), .p (.int .i64 v.2.2.1), .p (.int .i64 v.2.2.2.1), .p (.int .i64 v.2.2.2.2.1)], .agg [.p (.int .i64 v.1), .p (.int .i64 v.2.1), .p (.int .i64 v.2.2.1), .p (.int .i64 v.2.2.2.1), .p (.int .i64 v.2.2.2.2.1)]]) [] 1 [] (.p (.bool true)) =
    some [((0 : Nat) < 1),
  ((0 : Nat) < 1),
  ((v.1 != v.1) = false),
  ((0 : Nat) < 1),
  ((0 : Nat) < 1),
  ((v.2.1 != v.2.1) = false),
  ((0 : Nat) < 1),
  ((0 : Nat) < 1),
  ((v.2.2.1 != v.2.2.1) = false),
  ((0 : Nat) < 1),
  ((0 : Nat) < 1),
  ((v.2.2.2.1 != v.2.2.2.1) = false),
  ((0 : Nat) < 1),
  ((0 : Nat) < 1),
  ((v.2.2.2.2.1 != v.2.2.2.2.1) = false),
  (true = true)] := by kernel_rfl
theorem p_eqStepS_a (v : T_StepS) :
    pieceOb Try.prog 0 [.reg [oT], .reg [oT, oT, oT, oT, oT], .dec false, .reg [oT], .head] [.code (bodyOf Try.f105)] (start Try.f105 [] 0 [.p (.seq true 5 v.1 (fun i => [.int .i64 ((v.2 i).1), .int .i64 ((v.2 i).2.1), .int .i64 ((v.2 i).2.2.1), .int .i64 ((v.2 i).2.2.2.1), .int .i64 ((v.2 i).2.2.2.2.1)])), .p (.seq true 5 v.1 (fun i => [.int .i64 ((v.2 i).1), .int .i64 ((v.2 i).2.1), .int .i64 ((v.2 i).2.2.1), .int .i64 ((v.2 i).2.2.2.1), .int .i64 ((v.2 i).2.2.2.2.1)]))]) [] 1 (S_eqStepS v 0) =
    some ([.code (cAt (bodyOf Try.f105) [1, 1, 0, 1, 0, 0]), .inLoop (cAt (bodyOf Try.f105) [1, 1, 0, 1, 0, 0]), .inBlock 0, .code (cAt (bodyOf Try.f105) [1, 1, 1])], [(((↑v.1 : Int) != (↑v.1 : Int)) = false),
  (AN v.1),
  (AP v.1 (fun i => [.int .i64 ((v.2 i).1), .int .i64 ((v.2 i).2.1), .int .i64 ((v.2 i).2.2.1), .int .i64 ((v.2 i).2.2.2.1), .int .i64 ((v.2 i).2.2.2.2.1)])),
  (AN v.1),
  (AP v.1 (fun i => [.int .i64 ((v.2 i).1), .int .i64 ((v.2 i).2.1), .int .i64 ((v.2 i).2.2.1), .int .i64 ((v.2 i).2.2.2.1), .int .i64 ((v.2 i).2.2.2.2.1)])),
  ((0 : Int) = (↑0 : Int))]) := by kernel_rfl
theorem p_eqStepS_b (v : T_StepS) (k : Nat) :
    pieceOb Try.prog 0 [.reg [oT, oT, oT, oT], .dec true, .reg [oT, oT, oT, oT, oT, oT, oT, oT, ⟨true, (some ⟨[], [], [], 1, [], .p (.bool true)⟩), none⟩, oT], .dec false, .reg [oT, oT, oT], .head] [.code (cAt (bodyOf Try.f105) [1, 1, 0, 1, 0, 0]), .inLoop (cAt (bodyOf Try.f105) [1, 1, 0, 1, 0, 0]), .inBlock 0, .code (cAt (bodyOf Try.f105) [1, 1, 1])] (S_eqStepS v k) [] 1 (S_eqStepS v (k + 1)) =
    some ([.code (cAt (bodyOf Try.f105) [1, 1, 0, 1, 0, 0]), .inLoop (cAt (bodyOf Try.f105) [1, 1, 0, 1, 0, 0]), .inBlock 0, .code (cAt (bodyOf Try.f105) [1, 1, 1])], [((decide ((↑k : Int) < (↑v.1 : Int))) = true),
  ((0 : Int) ≤ (↑k : Int)),
  (((↑k : Int) : Int) < (↑v.1 : Int)),
  ((0 : Int) ≤ (↑k : Int)),
  (((↑k : Int) : Int) < (↑v.1 : Int)),
  Con Try.prog 137 0 [] [.agg [.p (.int .i64 ((v.2 k).1)), .p (.int .i64 ((v.2 k).2.1)), .p (.int .i64 ((v.2 k).2.2.1)), .p (.int .i64 ((v.2 k).2.2.2.1)), .p (.int .i64 ((v.2 k).2.2.2.2.1))], .agg [.p (.int .i64 ((v.2 k).1)), .p (.int .i64 ((v.2 k).2.1)), .p (.int .i64 ((v.2 k).2.2.1)), .p (.int .i64 ((v.2 k).2.2.2.1)), .p (.int .i64 ((v.2 k).2.2.2.2.1))]] [] (.p (.bool true)),
  ((!true) = false),
  (((-9223372036854775808) : Int) ≤ ((↑k : Int) + 1)),
  ((((↑k : Int) + 1) : Int) ≤ 9223372036854775807),
  (AN v.1),
  (AP v.1 (fun i => [.int .i64 ((v.2 i).1), .int .i64 ((v.2 i).2.1), .int .i64 ((v.2 i).2.2.1), .int .i64 ((v.2 i).2.2.2.1), .int .i64 ((v.2 i).2.2.2.2.1)])),
  (AN v.1),
  (AP v.1 (fun i => [.int .i64 ((v.2 i).1), .int .i64 ((v.2 i).2.1), .int .i64 ((v.2 i).2.2.1), .int .i64 ((v.2 i).2.2.2.1), .int .i64 ((v.2 i).2.2.2.2.1)])),
  ((((↑k : Int) + 1) : Int) = (↑(k + 1) : Int))]) := by kernel_rfl
theorem p_eqStepS_c (v : T_StepS) (k : Nat) :
    pathOb Try.prog Try.f105 0 [.reg [oT, oT, oT, oT], .dec false, .reg [oT]] [.code (cAt (bodyOf Try.f105) [1, 1, 0, 1, 0, 0]), .inLoop (cAt (bodyOf Try.f105) [1, 1, 0, 1, 0, 0]), .inBlock 0, .code (cAt (bodyOf Try.f105) [1, 1, 1])] (S_eqStepS v k) [] 1 [] (.p (.bool true)) =
    some [((decide ((↑k : Int) < (↑v.1 : Int))) = false),
  (true = true)] := by kernel_rfl
theorem p_eqClaim (v : T_Claim) :
    pathOb Try.prog Try.f34 0 [.reg [oT, oT, oT], .reg [oT, oT, oT, oT, oT], .dec false, .reg [oT, oT, oT, oT, ⟨true, (some ⟨[], [], [], 1, [], .p (.bool true)⟩), none⟩, oT], .dec false, .reg [oT, oT, oT, oT, ⟨true, (some ⟨[], [], [], 1, [], .p (.bool true)⟩), none⟩, oT], .dec false, .reg [oT, oT, oT, oT, ⟨true, (some ⟨[], [], [], 1, [], .p (.bool true)⟩), none⟩, oT], .dec false, .reg [oT, oT, oT, oT, ⟨true, (some ⟨[], [], [], 1, [], .p (.bool true)⟩), none⟩, oT], .dec false, .reg [oT]] [.code (bodyOf Try.f34)] (start Try.f34 [] 0 [.agg [.p (.int .i64 v.1), .p (.int .i64 v.2.1.1), .p (.seq true 2 v.2.1.2.1.1 (fun i => [.int .i64 ((v.2.1.2.1.2 i).1), .int .i64 ((v.2.1.2.1.2 i).2.1)])), .p (.int .i64 v.2.2.1.1.1.1), .p (.seq true 2 v.2.2.1.1.1.2.1.1 (fun i => [.int .i64 ((v.2.2.1.1.1.2.1.2 i).1), .int .i64 ((v.2.2.1.1.1.2.1.2 i).2.1)])), .p (.seq true 2 v.2.2.1.1.2.1.1 (fun i => [.int .i64 ((v.2.2.1.1.2.1.2 i).1), .int .i64 ((v.2.2.1.1.2.1.2 i).2.1)])), .p (.seq true 1 v.2.2.1.2.1.1 (fun i => [.int .i64 (v.2.2.1.2.1.2 i)])), .p (.seq true 5 v.2.2.2.1.1 (fun i => [.int .i64 ((v.2.2.2.1.2 i).1), .int .i64 ((v.2.2.2.1.2 i).2.1), .int .i64 ((v.2.2.2.1.2 i).2.2.1), .int .i64 ((v.2.2.2.1.2 i).2.2.2.1), .int .i64 ((v.2.2.2.1.2 i).2.2.2.2.1)])), .p (.seq true 1 v.2.2.2.2.1.1 (fun i => [.int .i64 (v.2.2.2.2.1.2 i)]))], .agg [.p (.int .i64 v.1), .p (.int .i64 v.2.1.1), .p (.seq true 2 v.2.1.2.1.1 (fun i => [.int .i64 ((v.2.1.2.1.2 i).1), .int .i64 ((v.2.1.2.1.2 i).2.1)])), .p (.int .i64 v.2.2.1.1.1.1), .p (.seq true 2 v.2.2.1.1.1.2.1.1 (fun i => [.int .i64 ((v.2.2.1.1.1.2.1.2 i).1), .int .i64 ((v.2.2.1.1.1.2.1.2 i).2.1)])), .p (.seq true 2 v.2.2.1.1.2.1.1 (fun i => [.int .i64 ((v.2.2.1.1.2.1.2 i).1), .int .i64 ((v.2.2.1.1.2.1.2 i).2.1)])), .p (.seq true 1 v.2.2.1.2.1.1 (fun i => [.int .i64 (v.2.2.1.2.1.2 i)])), .p (.seq true 5 v.2.2.2.1.1 (fun i => [.int .i64 ((v.2.2.2.1.2 i).1), .int .i64 ((v.2.2.2.1.2 i).2.1), .int .i64 ((v.2.2.2.1.2 i).2.2.1), .int .i64 ((v.2.2.2.1.2 i).2.2.2.1), .int .i64 ((v.2.2.2.1.2 i).2.2.2.2.1)])), .p (.seq true 1 v.2.2.2.2.1.1 (fun i => [.int .i64 (v.2.2.2.2.1.2 i)]))]]) [] 1 [] (.p (.bool true)) =
    some [((0 : Nat) < 1),
  ((0 : Nat) < 1),
  ((v.1 != v.1) = false),
  ((0 : Nat) < 1),
  ((0 : Nat) < 1),
  Con Try.prog 19 0 [] [.agg [.p (.int .i64 v.2.1.1), .p (.seq true 2 v.2.1.2.1.1 (fun i => [.int .i64 ((v.2.1.2.1.2 i).1), .int .i64 ((v.2.1.2.1.2 i).2.1)]))], .agg [.p (.int .i64 v.2.1.1), .p (.seq true 2 v.2.1.2.1.1 (fun i => [.int .i64 ((v.2.1.2.1.2 i).1), .int .i64 ((v.2.1.2.1.2 i).2.1)]))]] [] (.p (.bool true)),
  ((!true) = false),
  ((0 : Nat) < 1),
  ((0 : Nat) < 1),
  Con Try.prog 104 0 [] [.agg [.p (.int .i64 v.2.2.1.1.1.1), .p (.seq true 2 v.2.2.1.1.1.2.1.1 (fun i => [.int .i64 ((v.2.2.1.1.1.2.1.2 i).1), .int .i64 ((v.2.2.1.1.1.2.1.2 i).2.1)])), .p (.seq true 2 v.2.2.1.1.2.1.1 (fun i => [.int .i64 ((v.2.2.1.1.2.1.2 i).1), .int .i64 ((v.2.2.1.1.2.1.2 i).2.1)])), .p (.seq true 1 v.2.2.1.2.1.1 (fun i => [.int .i64 (v.2.2.1.2.1.2 i)]))], .agg [.p (.int .i64 v.2.2.1.1.1.1), .p (.seq true 2 v.2.2.1.1.1.2.1.1 (fun i => [.int .i64 ((v.2.2.1.1.1.2.1.2 i).1), .int .i64 ((v.2.2.1.1.1.2.1.2 i).2.1)])), .p (.seq true 2 v.2.2.1.1.2.1.1 (fun i => [.int .i64 ((v.2.2.1.1.2.1.2 i).1), .int .i64 ((v.2.2.1.1.2.1.2 i).2.1)])), .p (.seq true 1 v.2.2.1.2.1.1 (fun i => [.int .i64 (v.2.2.1.2.1.2 i)]))]] [] (.p (.bool true)),
  ((!true) = false),
  ((0 : Nat) < 1),
  ((0 : Nat) < 1),
  Con Try.prog 105 0 [] [.p (.seq true 5 v.2.2.2.1.1 (fun i => [.int .i64 ((v.2.2.2.1.2 i).1), .int .i64 ((v.2.2.2.1.2 i).2.1), .int .i64 ((v.2.2.2.1.2 i).2.2.1), .int .i64 ((v.2.2.2.1.2 i).2.2.2.1), .int .i64 ((v.2.2.2.1.2 i).2.2.2.2.1)])), .p (.seq true 5 v.2.2.2.1.1 (fun i => [.int .i64 ((v.2.2.2.1.2 i).1), .int .i64 ((v.2.2.2.1.2 i).2.1), .int .i64 ((v.2.2.2.1.2 i).2.2.1), .int .i64 ((v.2.2.2.1.2 i).2.2.2.1), .int .i64 ((v.2.2.2.1.2 i).2.2.2.2.1)]))] [] (.p (.bool true)),
  ((!true) = false),
  ((0 : Nat) < 1),
  ((0 : Nat) < 1),
  Con Try.prog 106 0 [] [.p (.seq true 1 v.2.2.2.2.1.1 (fun i => [.int .i64 (v.2.2.2.2.1.2 i)])), .p (.seq true 1 v.2.2.2.2.1.1 (fun i => [.int .i64 (v.2.2.2.2.1.2 i)]))] [] (.p (.bool true)),
  ((!true) = false),
  (true = true)] := by kernel_rfl
theorem con_szIntS (v : T_IntS) (k : okS s_IntS v) (m : Int) (h0 : 0 ≤ m) (h1 : m ≤ 1048576) : Con Try.prog 85 0 [] [.p (.seq true 1 v.1 (fun i => [.int .i64 (v.2 i)])), .p (.int .i64 m)] [] (.p (.int .i64 (f_szIntS v m))) := by
  refine con_start Try.func85 rfl (by kernel_rfl) rfl (fun c hc => ?_)
  have hn := k.1
  by_cases h : m - v.1 < 0
  · rw [show f_szIntS v m = -1 by simp [f_szIntS, h]]
    refine path_ok mixed Try.func85 hc (p_szIntS_a v m) ?_
    simp only [All]
    repeat' (first | exact trivial | with_reducible apply And.intro)
    all_goals (first | exact aG _ | exact aP _ _ | exact aA _ _ | exact aE _ | omega | rfl | (intros; first | assumption | exact True.intro | rfl | exact absurd (show false = true by assumption) Bool.false_ne_true | ((repeat' (first | assumption | apply anda | apply notf)); done)) | (simp; omega))
  · rw [show f_szIntS v m = m - v.1 by simp [f_szIntS, h]]
    refine path_ok mixed Try.func85 hc (p_szIntS_b v m) ?_
    simp only [All]
    repeat' (first | exact trivial | with_reducible apply And.intro)
    all_goals (first | exact aG _ | exact aP _ _ | exact aA _ _ | exact aE _ | omega | rfl | (intros; first | assumption | exact True.intro | rfl | exact absurd (show false = true by assumption) Bool.false_ne_true | ((repeat' (first | assumption | apply anda | apply notf)); done)) | (simp; omega))
theorem le_szIntS (v : T_IntS) (m : Int) (h0 : 0 ≤ m) : f_szIntS v m ≤ m := by
  unfold f_szIntS; split <;> omega
theorem sm_szIntS (v : T_IntS) (m : Int) (h1 : m ≤ 1048576) (h : ¬ f_szIntS v m < 0) : smS s_IntS v := by
  unfold f_szIntS at h
  split at h
  · omega
  · exact ⟨by omega, fun i hi => by simp [smS, smL]⟩
theorem con_szBarS (v : T_BarS) (k : okS s_BarS v) (m : Int) (h0 : 0 ≤ m) (h1 : m ≤ 1048576) : Con Try.prog 47 0 [] [.p (.seq true 2 v.1 (fun i => [.int .i64 ((v.2 i).1), .int .i64 ((v.2 i).2.1)])), .p (.int .i64 m)] [] (.p (.int .i64 (f_szBarS v m))) := by
  refine con_start Try.func47 rfl (by kernel_rfl) rfl (fun c hc => ?_)
  have hn := k.1
  by_cases h : m - v.1 < 0
  · rw [show f_szBarS v m = -1 by simp [f_szBarS, h]]
    refine path_ok mixed Try.func47 hc (p_szBarS_a v m) ?_
    simp only [All]
    repeat' (first | exact trivial | with_reducible apply And.intro)
    all_goals (first | exact aG _ | exact aP _ _ | exact aA _ _ | exact aE _ | omega | rfl | (intros; first | assumption | exact True.intro | rfl | exact absurd (show false = true by assumption) Bool.false_ne_true | ((repeat' (first | assumption | apply anda | apply notf)); done)) | (simp; omega))
  · rw [show f_szBarS v m = m - v.1 by simp [f_szBarS, h]]
    refine path_ok mixed Try.func47 hc (p_szBarS_b v m) ?_
    simp only [All]
    repeat' (first | exact trivial | with_reducible apply And.intro)
    all_goals (first | exact aG _ | exact aP _ _ | exact aA _ _ | exact aE _ | omega | rfl | (intros; first | assumption | exact True.intro | rfl | exact absurd (show false = true by assumption) Bool.false_ne_true | ((repeat' (first | assumption | apply anda | apply notf)); done)) | (simp; omega))
theorem le_szBarS (v : T_BarS) (m : Int) (h0 : 0 ≤ m) : f_szBarS v m ≤ m := by
  unfold f_szBarS; split <;> omega
theorem sm_szBarS (v : T_BarS) (m : Int) (h1 : m ≤ 1048576) (h : ¬ f_szBarS v m < 0) : smS s_BarS v := by
  unfold f_szBarS at h
  split at h
  · omega
  · exact ⟨by omega, fun i hi => by simp [smS, smL]⟩
theorem con_szGraph (v : T_Graph) (k : okS s_Graph v) (m : Int) (h0 : 0 ≤ m) (h1 : m ≤ 1048576) : Con Try.prog 14 0 [] [.agg [.p (.int .i64 v.1), .p (.seq true 2 v.2.1.1 (fun i => [.int .i64 ((v.2.1.2 i).1), .int .i64 ((v.2.1.2 i).2.1)]))], .p (.int .i64 m)] [] (.p (.int .i64 (f_szGraph v m))) := by
  refine con_start Try.func14 rfl (by kernel_rfl) rfl (fun c hc => ?_)
  have l0 := le_szBarS v.2.1 m (by omega)
  by_cases g0 : (f_szBarS v.2.1 m) < 0
  · rw [show f_szGraph v m = -1 by simp [f_szGraph, g0]]
    refine path_ok mixed Try.func14 hc (p_szGraph_0 v m) ?_
    simp only [All]
    repeat' (first | exact trivial | with_reducible apply And.intro)
    all_goals (first | exact aG _ | exact aP _ _ | exact aA _ _ | exact aE _ | omega | rfl | (intros; first | assumption | exact True.intro | rfl | exact absurd (show false = true by assumption) Bool.false_ne_true | ((repeat' (first | assumption | apply anda | apply notf)); done)) | (exact con_szBarS v.2.1 k.2.1 m (by omega) (by omega)) | (simp; omega))
  rw [show f_szGraph v m = (f_szBarS v.2.1 m) by simp [f_szGraph, g0]]
  refine path_ok mixed Try.func14 hc (p_szGraph_e v m) ?_
  simp only [All]
  repeat' (first | exact trivial | with_reducible apply And.intro)
  all_goals (first | exact aG _ | exact aP _ _ | exact aA _ _ | exact aE _ | omega | rfl | (intros; first | assumption | exact True.intro | rfl | exact absurd (show false = true by assumption) Bool.false_ne_true | ((repeat' (first | assumption | apply anda | apply notf)); done)) | (exact con_szBarS v.2.1 k.2.1 m (by omega) (by omega)) | (simp; omega))
theorem le_szGraph (v : T_Graph) (m : Int) (h0 : 0 ≤ m) : f_szGraph v m ≤ m := by
  have l0 := le_szBarS v.2.1 m h0
  by_cases g0 : (f_szBarS v.2.1 m) < 0
  · simp only [f_szGraph, g0, if_true, if_false]; omega
  simp only [f_szGraph, g0, if_false]; omega
theorem sm_szGraph (v : T_Graph) (m : Int) (h0 : 0 ≤ m) (h1 : m ≤ 1048576) (h : ¬ f_szGraph v m < 0) : smS s_Graph v := by
  have l0 := le_szBarS v.2.1 m (by omega)
  have g0 : ¬ (f_szBarS v.2.1 m) < 0 := by
    intro g; apply h; simp only [f_szGraph, g, if_true, if_false]; omega
  exact ⟨by simp [smS, smL], sm_szBarS v.2.1 m (by omega) g0, True.intro⟩
theorem con_szPlaceS (v : T_PlaceS) (k : okS s_PlaceS v) (m : Int) (h0 : 0 ≤ m) (h1 : m ≤ 1048576) : Con Try.prog 149 0 [] [.p (.seq true 2 v.1 (fun i => [.int .i64 ((v.2 i).1), .int .i64 ((v.2 i).2.1)])), .p (.int .i64 m)] [] (.p (.int .i64 (f_szPlaceS v m))) := by
  refine con_start Try.func149 rfl (by kernel_rfl) rfl (fun c hc => ?_)
  have hn := k.1
  by_cases h : m - v.1 < 0
  · rw [show f_szPlaceS v m = -1 by simp [f_szPlaceS, h]]
    refine path_ok mixed Try.func149 hc (p_szPlaceS_a v m) ?_
    simp only [All]
    repeat' (first | exact trivial | with_reducible apply And.intro)
    all_goals (first | exact aG _ | exact aP _ _ | exact aA _ _ | exact aE _ | omega | rfl | (intros; first | assumption | exact True.intro | rfl | exact absurd (show false = true by assumption) Bool.false_ne_true | ((repeat' (first | assumption | apply anda | apply notf)); done)) | (simp; omega))
  · rw [show f_szPlaceS v m = m - v.1 by simp [f_szPlaceS, h]]
    refine path_ok mixed Try.func149 hc (p_szPlaceS_b v m) ?_
    simp only [All]
    repeat' (first | exact trivial | with_reducible apply And.intro)
    all_goals (first | exact aG _ | exact aP _ _ | exact aA _ _ | exact aE _ | omega | rfl | (intros; first | assumption | exact True.intro | rfl | exact absurd (show false = true by assumption) Bool.false_ne_true | ((repeat' (first | assumption | apply anda | apply notf)); done)) | (simp; omega))
theorem le_szPlaceS (v : T_PlaceS) (m : Int) (h0 : 0 ≤ m) : f_szPlaceS v m ≤ m := by
  unfold f_szPlaceS; split <;> omega
theorem sm_szPlaceS (v : T_PlaceS) (m : Int) (h1 : m ≤ 1048576) (h : ¬ f_szPlaceS v m < 0) : smS s_PlaceS v := by
  unfold f_szPlaceS at h
  split at h
  · omega
  · exact ⟨by omega, fun i hi => by simp [smS, smL]⟩
theorem con_szFramework (v : T_Framework) (k : okS s_Framework v) (m : Int) (h0 : 0 ≤ m) (h1 : m ≤ 1048576) : Con Try.prog 130 0 [] [.agg [.p (.int .i64 v.1.1), .p (.seq true 2 v.1.2.1.1 (fun i => [.int .i64 ((v.1.2.1.2 i).1), .int .i64 ((v.1.2.1.2 i).2.1)])), .p (.seq true 2 v.2.1.1 (fun i => [.int .i64 ((v.2.1.2 i).1), .int .i64 ((v.2.1.2 i).2.1)]))], .p (.int .i64 m)] [] (.p (.int .i64 (f_szFramework v m))) := by
  refine con_start Try.func130 rfl (by kernel_rfl) rfl (fun c hc => ?_)
  have l0 := le_szGraph v.1 m (by omega)
  by_cases g0 : (f_szGraph v.1 m) < 0
  · rw [show f_szFramework v m = -1 by simp [f_szFramework, g0]]
    refine path_ok mixed Try.func130 hc (p_szFramework_0 v m) ?_
    simp only [All]
    repeat' (first | exact trivial | with_reducible apply And.intro)
    all_goals (first | exact aG _ | exact aP _ _ | exact aA _ _ | exact aE _ | omega | rfl | (intros; first | assumption | exact True.intro | rfl | exact absurd (show false = true by assumption) Bool.false_ne_true | ((repeat' (first | assumption | apply anda | apply notf)); done)) | (exact con_szGraph v.1 k.1 m (by omega) (by omega)) | (simp; omega))
  have l1 := le_szPlaceS v.2.1 (f_szGraph v.1 m) (by omega)
  by_cases g1 : (f_szPlaceS v.2.1 (f_szGraph v.1 m)) < 0
  · rw [show f_szFramework v m = -1 by simp [f_szFramework, g0, g1]]
    refine path_ok mixed Try.func130 hc (p_szFramework_1 v m) ?_
    simp only [All]
    repeat' (first | exact trivial | with_reducible apply And.intro)
    all_goals (first | exact aG _ | exact aP _ _ | exact aA _ _ | exact aE _ | omega | rfl | (intros; first | assumption | exact True.intro | rfl | exact absurd (show false = true by assumption) Bool.false_ne_true | ((repeat' (first | assumption | apply anda | apply notf)); done)) | (exact con_szGraph v.1 k.1 m (by omega) (by omega)) | (exact con_szPlaceS v.2.1 k.2.1 (f_szGraph v.1 m) (by omega) (by omega)) | (simp; omega))
  rw [show f_szFramework v m = (f_szPlaceS v.2.1 (f_szGraph v.1 m)) by simp [f_szFramework, g0, g1]]
  refine path_ok mixed Try.func130 hc (p_szFramework_e v m) ?_
  simp only [All]
  repeat' (first | exact trivial | with_reducible apply And.intro)
  all_goals (first | exact aG _ | exact aP _ _ | exact aA _ _ | exact aE _ | omega | rfl | (intros; first | assumption | exact True.intro | rfl | exact absurd (show false = true by assumption) Bool.false_ne_true | ((repeat' (first | assumption | apply anda | apply notf)); done)) | (exact con_szGraph v.1 k.1 m (by omega) (by omega)) | (exact con_szPlaceS v.2.1 k.2.1 (f_szGraph v.1 m) (by omega) (by omega)) | (simp; omega))
theorem le_szFramework (v : T_Framework) (m : Int) (h0 : 0 ≤ m) : f_szFramework v m ≤ m := by
  have l0 := le_szGraph v.1 m h0
  by_cases g0 : (f_szGraph v.1 m) < 0
  · simp only [f_szFramework, g0, if_true, if_false]; omega
  have l1 := le_szPlaceS v.2.1 (f_szGraph v.1 m) (by omega)
  by_cases g1 : (f_szPlaceS v.2.1 (f_szGraph v.1 m)) < 0
  · simp only [f_szFramework, g0, g1, if_true, if_false]; omega
  simp only [f_szFramework, g0, g1, if_false]; omega
theorem sm_szFramework (v : T_Framework) (m : Int) (h0 : 0 ≤ m) (h1 : m ≤ 1048576) (h : ¬ f_szFramework v m < 0) : smS s_Framework v := by
  have l0 := le_szGraph v.1 m (by omega)
  have g0 : ¬ (f_szGraph v.1 m) < 0 := by
    intro g; apply h; simp only [f_szFramework, g, if_true, if_false]; omega
  have l1 := le_szPlaceS v.2.1 (f_szGraph v.1 m) (by omega)
  have g1 : ¬ (f_szPlaceS v.2.1 (f_szGraph v.1 m)) < 0 := by
    intro g; apply h; simp only [f_szFramework, g0, g, if_true, if_false]; omega
  exact ⟨sm_szGraph v.1 m (by omega) (by omega) g0, sm_szPlaceS v.2.1 (f_szGraph v.1 m) (by omega) g1, True.intro⟩
theorem con_szTensegrity (v : T_Tensegrity) (k : okS s_Tensegrity v) (m : Int) (h0 : 0 ≤ m) (h1 : m ≤ 1048576) : Con Try.prog 83 0 [] [.agg [.p (.int .i64 v.1.1.1), .p (.seq true 2 v.1.1.2.1.1 (fun i => [.int .i64 ((v.1.1.2.1.2 i).1), .int .i64 ((v.1.1.2.1.2 i).2.1)])), .p (.seq true 2 v.1.2.1.1 (fun i => [.int .i64 ((v.1.2.1.2 i).1), .int .i64 ((v.1.2.1.2 i).2.1)])), .p (.seq true 1 v.2.1.1 (fun i => [.int .i64 (v.2.1.2 i)]))], .p (.int .i64 m)] [] (.p (.int .i64 (f_szTensegrity v m))) := by
  refine con_start Try.func83 rfl (by kernel_rfl) rfl (fun c hc => ?_)
  have l0 := le_szFramework v.1 m (by omega)
  by_cases g0 : (f_szFramework v.1 m) < 0
  · rw [show f_szTensegrity v m = -1 by simp [f_szTensegrity, g0]]
    refine path_ok mixed Try.func83 hc (p_szTensegrity_0 v m) ?_
    simp only [All]
    repeat' (first | exact trivial | with_reducible apply And.intro)
    all_goals (first | exact aG _ | exact aP _ _ | exact aA _ _ | exact aE _ | omega | rfl | (intros; first | assumption | exact True.intro | rfl | exact absurd (show false = true by assumption) Bool.false_ne_true | ((repeat' (first | assumption | apply anda | apply notf)); done)) | (exact con_szFramework v.1 k.1 m (by omega) (by omega)) | (simp; omega))
  have l1 := le_szIntS v.2.1 (f_szFramework v.1 m) (by omega)
  by_cases g1 : (f_szIntS v.2.1 (f_szFramework v.1 m)) < 0
  · rw [show f_szTensegrity v m = -1 by simp [f_szTensegrity, g0, g1]]
    refine path_ok mixed Try.func83 hc (p_szTensegrity_1 v m) ?_
    simp only [All]
    repeat' (first | exact trivial | with_reducible apply And.intro)
    all_goals (first | exact aG _ | exact aP _ _ | exact aA _ _ | exact aE _ | omega | rfl | (intros; first | assumption | exact True.intro | rfl | exact absurd (show false = true by assumption) Bool.false_ne_true | ((repeat' (first | assumption | apply anda | apply notf)); done)) | (exact con_szFramework v.1 k.1 m (by omega) (by omega)) | (exact con_szIntS v.2.1 k.2.1 (f_szFramework v.1 m) (by omega) (by omega)) | (simp; omega))
  rw [show f_szTensegrity v m = (f_szIntS v.2.1 (f_szFramework v.1 m)) by simp [f_szTensegrity, g0, g1]]
  refine path_ok mixed Try.func83 hc (p_szTensegrity_e v m) ?_
  simp only [All]
  repeat' (first | exact trivial | with_reducible apply And.intro)
  all_goals (first | exact aG _ | exact aP _ _ | exact aA _ _ | exact aE _ | omega | rfl | (intros; first | assumption | exact True.intro | rfl | exact absurd (show false = true by assumption) Bool.false_ne_true | ((repeat' (first | assumption | apply anda | apply notf)); done)) | (exact con_szFramework v.1 k.1 m (by omega) (by omega)) | (exact con_szIntS v.2.1 k.2.1 (f_szFramework v.1 m) (by omega) (by omega)) | (simp; omega))
theorem le_szTensegrity (v : T_Tensegrity) (m : Int) (h0 : 0 ≤ m) : f_szTensegrity v m ≤ m := by
  have l0 := le_szFramework v.1 m h0
  by_cases g0 : (f_szFramework v.1 m) < 0
  · simp only [f_szTensegrity, g0, if_true, if_false]; omega
  have l1 := le_szIntS v.2.1 (f_szFramework v.1 m) (by omega)
  by_cases g1 : (f_szIntS v.2.1 (f_szFramework v.1 m)) < 0
  · simp only [f_szTensegrity, g0, g1, if_true, if_false]; omega
  simp only [f_szTensegrity, g0, g1, if_false]; omega
theorem sm_szTensegrity (v : T_Tensegrity) (m : Int) (h0 : 0 ≤ m) (h1 : m ≤ 1048576) (h : ¬ f_szTensegrity v m < 0) : smS s_Tensegrity v := by
  have l0 := le_szFramework v.1 m (by omega)
  have g0 : ¬ (f_szFramework v.1 m) < 0 := by
    intro g; apply h; simp only [f_szTensegrity, g, if_true, if_false]; omega
  have l1 := le_szIntS v.2.1 (f_szFramework v.1 m) (by omega)
  have g1 : ¬ (f_szIntS v.2.1 (f_szFramework v.1 m)) < 0 := by
    intro g; apply h; simp only [f_szTensegrity, g0, g, if_true, if_false]; omega
  exact ⟨sm_szFramework v.1 m (by omega) (by omega) g0, sm_szIntS v.2.1 (f_szFramework v.1 m) (by omega) g1, True.intro⟩
theorem con_szStepS (v : T_StepS) (k : okS s_StepS v) (m : Int) (h0 : 0 ≤ m) (h1 : m ≤ 1048576) : Con Try.prog 84 0 [] [.p (.seq true 5 v.1 (fun i => [.int .i64 ((v.2 i).1), .int .i64 ((v.2 i).2.1), .int .i64 ((v.2 i).2.2.1), .int .i64 ((v.2 i).2.2.2.1), .int .i64 ((v.2 i).2.2.2.2.1)])), .p (.int .i64 m)] [] (.p (.int .i64 (f_szStepS v m))) := by
  refine con_start Try.func84 rfl (by kernel_rfl) rfl (fun c hc => ?_)
  have hn := k.1
  by_cases h : m - v.1 < 0
  · rw [show f_szStepS v m = -1 by simp [f_szStepS, h]]
    refine path_ok mixed Try.func84 hc (p_szStepS_a v m) ?_
    simp only [All]
    repeat' (first | exact trivial | with_reducible apply And.intro)
    all_goals (first | exact aG _ | exact aP _ _ | exact aA _ _ | exact aE _ | omega | rfl | (intros; first | assumption | exact True.intro | rfl | exact absurd (show false = true by assumption) Bool.false_ne_true | ((repeat' (first | assumption | apply anda | apply notf)); done)) | (simp; omega))
  · rw [show f_szStepS v m = m - v.1 by simp [f_szStepS, h]]
    refine path_ok mixed Try.func84 hc (p_szStepS_b v m) ?_
    simp only [All]
    repeat' (first | exact trivial | with_reducible apply And.intro)
    all_goals (first | exact aG _ | exact aP _ _ | exact aA _ _ | exact aE _ | omega | rfl | (intros; first | assumption | exact True.intro | rfl | exact absurd (show false = true by assumption) Bool.false_ne_true | ((repeat' (first | assumption | apply anda | apply notf)); done)) | (simp; omega))
theorem le_szStepS (v : T_StepS) (m : Int) (h0 : 0 ≤ m) : f_szStepS v m ≤ m := by
  unfold f_szStepS; split <;> omega
theorem sm_szStepS (v : T_StepS) (m : Int) (h1 : m ≤ 1048576) (h : ¬ f_szStepS v m < 0) : smS s_StepS v := by
  unfold f_szStepS at h
  split at h
  · omega
  · exact ⟨by omega, fun i hi => by simp [smS, smL]⟩
theorem con_szClaim (v : T_Claim) (k : okS s_Claim v) (m : Int) (h0 : 0 ≤ m) (h1 : m ≤ 1048576) : Con Try.prog 30 0 [] [.agg [.p (.int .i64 v.1), .p (.int .i64 v.2.1.1), .p (.seq true 2 v.2.1.2.1.1 (fun i => [.int .i64 ((v.2.1.2.1.2 i).1), .int .i64 ((v.2.1.2.1.2 i).2.1)])), .p (.int .i64 v.2.2.1.1.1.1), .p (.seq true 2 v.2.2.1.1.1.2.1.1 (fun i => [.int .i64 ((v.2.2.1.1.1.2.1.2 i).1), .int .i64 ((v.2.2.1.1.1.2.1.2 i).2.1)])), .p (.seq true 2 v.2.2.1.1.2.1.1 (fun i => [.int .i64 ((v.2.2.1.1.2.1.2 i).1), .int .i64 ((v.2.2.1.1.2.1.2 i).2.1)])), .p (.seq true 1 v.2.2.1.2.1.1 (fun i => [.int .i64 (v.2.2.1.2.1.2 i)])), .p (.seq true 5 v.2.2.2.1.1 (fun i => [.int .i64 ((v.2.2.2.1.2 i).1), .int .i64 ((v.2.2.2.1.2 i).2.1), .int .i64 ((v.2.2.2.1.2 i).2.2.1), .int .i64 ((v.2.2.2.1.2 i).2.2.2.1), .int .i64 ((v.2.2.2.1.2 i).2.2.2.2.1)])), .p (.seq true 1 v.2.2.2.2.1.1 (fun i => [.int .i64 (v.2.2.2.2.1.2 i)]))], .p (.int .i64 m)] [] (.p (.int .i64 (f_szClaim v m))) := by
  refine con_start Try.func30 rfl (by kernel_rfl) rfl (fun c hc => ?_)
  have l0 := le_szGraph v.2.1 m (by omega)
  by_cases g0 : (f_szGraph v.2.1 m) < 0
  · rw [show f_szClaim v m = -1 by simp [f_szClaim, g0]]
    refine path_ok mixed Try.func30 hc (p_szClaim_0 v m) ?_
    simp only [All]
    repeat' (first | exact trivial | with_reducible apply And.intro)
    all_goals (first | exact aG _ | exact aP _ _ | exact aA _ _ | exact aE _ | omega | rfl | (intros; first | assumption | exact True.intro | rfl | exact absurd (show false = true by assumption) Bool.false_ne_true | ((repeat' (first | assumption | apply anda | apply notf)); done)) | (exact con_szGraph v.2.1 k.2.1 m (by omega) (by omega)) | (simp; omega))
  have l1 := le_szTensegrity v.2.2.1 (f_szGraph v.2.1 m) (by omega)
  by_cases g1 : (f_szTensegrity v.2.2.1 (f_szGraph v.2.1 m)) < 0
  · rw [show f_szClaim v m = -1 by simp [f_szClaim, g0, g1]]
    refine path_ok mixed Try.func30 hc (p_szClaim_1 v m) ?_
    simp only [All]
    repeat' (first | exact trivial | with_reducible apply And.intro)
    all_goals (first | exact aG _ | exact aP _ _ | exact aA _ _ | exact aE _ | omega | rfl | (intros; first | assumption | exact True.intro | rfl | exact absurd (show false = true by assumption) Bool.false_ne_true | ((repeat' (first | assumption | apply anda | apply notf)); done)) | (exact con_szGraph v.2.1 k.2.1 m (by omega) (by omega)) | (exact con_szTensegrity v.2.2.1 k.2.2.1 (f_szGraph v.2.1 m) (by omega) (by omega)) | (simp; omega))
  have l2 := le_szStepS v.2.2.2.1 (f_szTensegrity v.2.2.1 (f_szGraph v.2.1 m)) (by omega)
  by_cases g2 : (f_szStepS v.2.2.2.1 (f_szTensegrity v.2.2.1 (f_szGraph v.2.1 m))) < 0
  · rw [show f_szClaim v m = -1 by simp [f_szClaim, g0, g1, g2]]
    refine path_ok mixed Try.func30 hc (p_szClaim_2 v m) ?_
    simp only [All]
    repeat' (first | exact trivial | with_reducible apply And.intro)
    all_goals (first | exact aG _ | exact aP _ _ | exact aA _ _ | exact aE _ | omega | rfl | (intros; first | assumption | exact True.intro | rfl | exact absurd (show false = true by assumption) Bool.false_ne_true | ((repeat' (first | assumption | apply anda | apply notf)); done)) | (exact con_szGraph v.2.1 k.2.1 m (by omega) (by omega)) | (exact con_szTensegrity v.2.2.1 k.2.2.1 (f_szGraph v.2.1 m) (by omega) (by omega)) | (exact con_szStepS v.2.2.2.1 k.2.2.2.1 (f_szTensegrity v.2.2.1 (f_szGraph v.2.1 m)) (by omega) (by omega)) | (simp; omega))
  have l3 := le_szIntS v.2.2.2.2.1 (f_szStepS v.2.2.2.1 (f_szTensegrity v.2.2.1 (f_szGraph v.2.1 m))) (by omega)
  by_cases g3 : (f_szIntS v.2.2.2.2.1 (f_szStepS v.2.2.2.1 (f_szTensegrity v.2.2.1 (f_szGraph v.2.1 m)))) < 0
  · rw [show f_szClaim v m = -1 by simp [f_szClaim, g0, g1, g2, g3]]
    refine path_ok mixed Try.func30 hc (p_szClaim_3 v m) ?_
    simp only [All]
    repeat' (first | exact trivial | with_reducible apply And.intro)
    all_goals (first | exact aG _ | exact aP _ _ | exact aA _ _ | exact aE _ | omega | rfl | (intros; first | assumption | exact True.intro | rfl | exact absurd (show false = true by assumption) Bool.false_ne_true | ((repeat' (first | assumption | apply anda | apply notf)); done)) | (exact con_szGraph v.2.1 k.2.1 m (by omega) (by omega)) | (exact con_szTensegrity v.2.2.1 k.2.2.1 (f_szGraph v.2.1 m) (by omega) (by omega)) | (exact con_szStepS v.2.2.2.1 k.2.2.2.1 (f_szTensegrity v.2.2.1 (f_szGraph v.2.1 m)) (by omega) (by omega)) | (exact con_szIntS v.2.2.2.2.1 k.2.2.2.2.1 (f_szStepS v.2.2.2.1 (f_szTensegrity v.2.2.1 (f_szGraph v.2.1 m))) (by omega) (by omega)) | (simp; omega))
  rw [show f_szClaim v m = (f_szIntS v.2.2.2.2.1 (f_szStepS v.2.2.2.1 (f_szTensegrity v.2.2.1 (f_szGraph v.2.1 m)))) by simp [f_szClaim, g0, g1, g2, g3]]
  refine path_ok mixed Try.func30 hc (p_szClaim_e v m) ?_
  simp only [All]
  repeat' (first | exact trivial | with_reducible apply And.intro)
  all_goals (first | exact aG _ | exact aP _ _ | exact aA _ _ | exact aE _ | omega | rfl | (intros; first | assumption | exact True.intro | rfl | exact absurd (show false = true by assumption) Bool.false_ne_true | ((repeat' (first | assumption | apply anda | apply notf)); done)) | (exact con_szGraph v.2.1 k.2.1 m (by omega) (by omega)) | (exact con_szTensegrity v.2.2.1 k.2.2.1 (f_szGraph v.2.1 m) (by omega) (by omega)) | (exact con_szStepS v.2.2.2.1 k.2.2.2.1 (f_szTensegrity v.2.2.1 (f_szGraph v.2.1 m)) (by omega) (by omega)) | (exact con_szIntS v.2.2.2.2.1 k.2.2.2.2.1 (f_szStepS v.2.2.2.1 (f_szTensegrity v.2.2.1 (f_szGraph v.2.1 m))) (by omega) (by omega)) | (simp; omega))
theorem le_szClaim (v : T_Claim) (m : Int) (h0 : 0 ≤ m) : f_szClaim v m ≤ m := by
  have l0 := le_szGraph v.2.1 m h0
  by_cases g0 : (f_szGraph v.2.1 m) < 0
  · simp only [f_szClaim, g0, if_true, if_false]; omega
  have l1 := le_szTensegrity v.2.2.1 (f_szGraph v.2.1 m) (by omega)
  by_cases g1 : (f_szTensegrity v.2.2.1 (f_szGraph v.2.1 m)) < 0
  · simp only [f_szClaim, g0, g1, if_true, if_false]; omega
  have l2 := le_szStepS v.2.2.2.1 (f_szTensegrity v.2.2.1 (f_szGraph v.2.1 m)) (by omega)
  by_cases g2 : (f_szStepS v.2.2.2.1 (f_szTensegrity v.2.2.1 (f_szGraph v.2.1 m))) < 0
  · simp only [f_szClaim, g0, g1, g2, if_true, if_false]; omega
  have l3 := le_szIntS v.2.2.2.2.1 (f_szStepS v.2.2.2.1 (f_szTensegrity v.2.2.1 (f_szGraph v.2.1 m))) (by omega)
  by_cases g3 : (f_szIntS v.2.2.2.2.1 (f_szStepS v.2.2.2.1 (f_szTensegrity v.2.2.1 (f_szGraph v.2.1 m)))) < 0
  · simp only [f_szClaim, g0, g1, g2, g3, if_true, if_false]; omega
  simp only [f_szClaim, g0, g1, g2, g3, if_false]; omega
theorem sm_szClaim (v : T_Claim) (m : Int) (h0 : 0 ≤ m) (h1 : m ≤ 1048576) (h : ¬ f_szClaim v m < 0) : smS s_Claim v := by
  have l0 := le_szGraph v.2.1 m (by omega)
  have g0 : ¬ (f_szGraph v.2.1 m) < 0 := by
    intro g; apply h; simp only [f_szClaim, g, if_true, if_false]; omega
  have l1 := le_szTensegrity v.2.2.1 (f_szGraph v.2.1 m) (by omega)
  have g1 : ¬ (f_szTensegrity v.2.2.1 (f_szGraph v.2.1 m)) < 0 := by
    intro g; apply h; simp only [f_szClaim, g0, g, if_true, if_false]; omega
  have l2 := le_szStepS v.2.2.2.1 (f_szTensegrity v.2.2.1 (f_szGraph v.2.1 m)) (by omega)
  have g2 : ¬ (f_szStepS v.2.2.2.1 (f_szTensegrity v.2.2.1 (f_szGraph v.2.1 m))) < 0 := by
    intro g; apply h; simp only [f_szClaim, g0, g1, g, if_true, if_false]; omega
  have l3 := le_szIntS v.2.2.2.2.1 (f_szStepS v.2.2.2.1 (f_szTensegrity v.2.2.1 (f_szGraph v.2.1 m))) (by omega)
  have g3 : ¬ (f_szIntS v.2.2.2.2.1 (f_szStepS v.2.2.2.1 (f_szTensegrity v.2.2.1 (f_szGraph v.2.1 m)))) < 0 := by
    intro g; apply h; simp only [f_szClaim, g0, g1, g2, g, if_true, if_false]; omega
  exact ⟨by simp [smS, smL], sm_szGraph v.2.1 m (by omega) (by omega) g0, sm_szTensegrity v.2.2.1 (f_szGraph v.2.1 m) (by omega) (by omega) g1, sm_szStepS v.2.2.2.1 (f_szTensegrity v.2.2.1 (f_szGraph v.2.1 m)) (by omega) g2, sm_szIntS v.2.2.2.2.1 (f_szStepS v.2.2.2.1 (f_szTensegrity v.2.2.1 (f_szGraph v.2.1 m))) (by omega) g3, True.intro⟩
theorem con_toIntS (v : T_IntS) (hs : smS s_IntS v) : Con Try.prog 95 0 [] [.p (.seq true 1 v.1 (fun i => [.int .i64 (v.2 i)]))] [(0, ⟨false, 1, v.1, fun i => [.p (.int .i64 (v.2 i))]⟩)] (.ar 1 0 0 v.1) := by
  refine con_start Try.func95 rfl (by kernel_rfl) rfl (fun c hc => ?_)
  have hn := hs.1
  have lp : ∀ m k, k + m = v.1 → Run Try.prog c 95 [.code (cAt (bodyOf Try.f95) [1, 1, 0, 1, 0, 0]), .inLoop (cAt (bodyOf Try.f95) [1, 1, 0, 1, 0, 0]), .inBlock 0, .code (cAt (bodyOf Try.f95) [1, 1, 1])] (S_toIntS v k) (Post c [(0, ⟨false, 1, v.1, fun i => [.p (.int .i64 (v.2 i))]⟩)] (.ar 1 0 0 v.1)) := by
    intro m
    induction m with
    | zero =>
      intro k hk
      refine path_ok mixed Try.func95 hc (p_toIntS_c v k) ?_
      simp only [All]
      repeat' (first | exact trivial | with_reducible apply And.intro)
      all_goals (first | exact aG _ | exact aP _ _ | exact aA _ _ | exact aE _ | omega | rfl | (intros; first | assumption | exact True.intro | rfl | exact absurd (show false = true by assumption) Bool.false_ne_true | ((repeat' (first | assumption | apply anda | apply notf)); done)) | (intro i hi; (have hik : i < k := by omega); simp [hik, All]) | (simp; try omega))
    | succ m ih =>
      intro k hk
      have hlt : decide ((k : Int) < (v.1 : Int)) = true := by simp; omega
      refine piece_ok mixed hc (p_toIntS_b v k) ?_ (ih (k + 1) (by omega))
      simp only [All]
      repeat' (first | exact trivial | with_reducible apply And.intro)
      all_goals (first | exact aG _ | exact aP _ _ | exact aA _ _ | exact aE _ | omega | rfl | (intros; first | assumption | exact True.intro | rfl | exact absurd (show false = true by assumption) Bool.false_ne_true | ((repeat' (first | assumption | apply anda | apply notf)); done)) | (intro i hi; by_cases h : i = k <;> simp [h, Nat.lt_succ_iff_lt_or_eq, cvtL, cvt, tg, tru, All]))
  refine piece_ok mixed hc (p_toIntS_a v) ?_ (lp v.1 0 (by omega))
  simp only [All]
  repeat' (first | exact trivial | with_reducible apply And.intro)
  all_goals (first | exact aG _ | exact aP _ _ | exact aA _ _ | exact aE _ | omega | rfl | (intros; first | assumption | exact True.intro | rfl | exact absurd (show false = true by assumption) Bool.false_ne_true | ((repeat' (first | assumption | apply anda | apply notf)); done)) | (intro i hi; simp [All]))
theorem con_toBar (v : T_Bar) (hs : smS s_Bar v) : Con Try.prog 114 0 [] [.agg [.p (.int .i64 v.1), .p (.int .i64 v.2.1)]] [] (.agg [.p (.int .i64 v.1), .p (.int .i64 v.2.1)]) := by
  refine con_start Try.func114 rfl (by kernel_rfl) rfl (fun c hc => ?_)
  refine path_ok mixed Try.func114 hc (p_toBar v) ?_
  simp only [All]
  repeat' (first | exact trivial | with_reducible apply And.intro)
  all_goals (first | exact aG _ | exact aP _ _ | exact aA _ _ | exact aE _ | omega | rfl | (intros; first | assumption | exact True.intro | rfl | exact absurd (show false = true by assumption) Bool.false_ne_true | ((repeat' (first | assumption | apply anda | apply notf)); done)) | (intro i hi; simp [hi, All]))
theorem con_toBarS (v : T_BarS) (hs : smS s_BarS v) : Con Try.prog 50 0 [] [.p (.seq true 2 v.1 (fun i => [.int .i64 ((v.2 i).1), .int .i64 ((v.2 i).2.1)]))] [(0, ⟨false, 2, v.1, fun i => [.p (.int .i64 ((v.2 i).1)), .p (.int .i64 ((v.2 i).2.1))]⟩)] (.ar 2 0 0 v.1) := by
  refine con_start Try.func50 rfl (by kernel_rfl) rfl (fun c hc => ?_)
  have hn := hs.1
  have lp : ∀ m k, k + m = v.1 → Run Try.prog c 50 [.code (cAt (bodyOf Try.f50) [1, 1, 0, 1, 0, 0]), .inLoop (cAt (bodyOf Try.f50) [1, 1, 0, 1, 0, 0]), .inBlock 0, .code (cAt (bodyOf Try.f50) [1, 1, 1])] (S_toBarS v k) (Post c [(0, ⟨false, 2, v.1, fun i => [.p (.int .i64 ((v.2 i).1)), .p (.int .i64 ((v.2 i).2.1))]⟩)] (.ar 2 0 0 v.1)) := by
    intro m
    induction m with
    | zero =>
      intro k hk
      refine path_ok mixed Try.func50 hc (p_toBarS_c v k) ?_
      simp only [All]
      repeat' (first | exact trivial | with_reducible apply And.intro)
      all_goals (first | exact aG _ | exact aP _ _ | exact aA _ _ | exact aE _ | omega | rfl | (intros; first | assumption | exact True.intro | rfl | exact absurd (show false = true by assumption) Bool.false_ne_true | ((repeat' (first | assumption | apply anda | apply notf)); done)) | (intro i hi; (have hik : i < k := by omega); simp [hik, All]) | (simp; try omega))
    | succ m ih =>
      intro k hk
      have hlt : decide ((k : Int) < (v.1 : Int)) = true := by simp; omega
      refine piece_ok mixed hc (p_toBarS_b v k) ?_ (ih (k + 1) (by omega))
      simp only [All]
      repeat' (first | exact trivial | with_reducible apply And.intro)
      all_goals (first | exact aG _ | exact aP _ _ | exact aA _ _ | exact aE _ | omega | rfl | (intros; first | assumption | exact True.intro | rfl | exact absurd (show false = true by assumption) Bool.false_ne_true | ((repeat' (first | assumption | apply anda | apply notf)); done)) | (exact con_toBar (v.2 k) (hs.2 k (by omega))) | (intro i hi; by_cases h : i = k <;> simp [h, Nat.lt_succ_iff_lt_or_eq, cvtL, cvt, tg, tru, All]))
  refine piece_ok mixed hc (p_toBarS_a v) ?_ (lp v.1 0 (by omega))
  simp only [All]
  repeat' (first | exact trivial | with_reducible apply And.intro)
  all_goals (first | exact aG _ | exact aP _ _ | exact aA _ _ | exact aE _ | omega | rfl | (intros; first | assumption | exact True.intro | rfl | exact absurd (show false = true by assumption) Bool.false_ne_true | ((repeat' (first | assumption | apply anda | apply notf)); done)) | (intro i hi; simp [All]))
theorem con_toGraph (v : T_Graph) (hs : smS s_Graph v) : Con Try.prog 16 0 [] [.agg [.p (.int .i64 v.1), .p (.seq true 2 v.2.1.1 (fun i => [.int .i64 ((v.2.1.2 i).1), .int .i64 ((v.2.1.2 i).2.1)]))]] [(0, ⟨false, 2, v.2.1.1, fun i => [.p (.int .i64 ((v.2.1.2 i).1)), .p (.int .i64 ((v.2.1.2 i).2.1))]⟩)] (.agg [.p (.int .i64 v.1), .ar 2 0 0 v.2.1.1]) := by
  refine con_start Try.func16 rfl (by kernel_rfl) rfl (fun c hc => ?_)
  refine path_ok mixed Try.func16 hc (p_toGraph v) ?_
  simp only [All]
  repeat' (first | exact trivial | with_reducible apply And.intro)
  all_goals (first | exact aG _ | exact aP _ _ | exact aA _ _ | exact aE _ | omega | rfl | (intros; first | assumption | exact True.intro | rfl | exact absurd (show false = true by assumption) Bool.false_ne_true | ((repeat' (first | assumption | apply anda | apply notf)); done)) | (exact con_toBarS v.2.1 hs.2.1) | (intro i hi; simp [hi, All]))
theorem con_toPlace (v : T_Place) (hs : smS s_Place v) : Con Try.prog 176 0 [] [.agg [.p (.int .i64 v.1), .p (.int .i64 v.2.1)]] [] (.agg [.p (.int .i64 v.1), .p (.int .i64 v.2.1)]) := by
  refine con_start Try.func176 rfl (by kernel_rfl) rfl (fun c hc => ?_)
  refine path_ok mixed Try.func176 hc (p_toPlace v) ?_
  simp only [All]
  repeat' (first | exact trivial | with_reducible apply And.intro)
  all_goals (first | exact aG _ | exact aP _ _ | exact aA _ _ | exact aE _ | omega | rfl | (intros; first | assumption | exact True.intro | rfl | exact absurd (show false = true by assumption) Bool.false_ne_true | ((repeat' (first | assumption | apply anda | apply notf)); done)) | (intro i hi; simp [hi, All]))
theorem con_toPlaceS (v : T_PlaceS) (hs : smS s_PlaceS v) : Con Try.prog 150 0 [] [.p (.seq true 2 v.1 (fun i => [.int .i64 ((v.2 i).1), .int .i64 ((v.2 i).2.1)]))] [(0, ⟨false, 2, v.1, fun i => [.p (.int .i64 ((v.2 i).1)), .p (.int .i64 ((v.2 i).2.1))]⟩)] (.ar 2 0 0 v.1) := by
  refine con_start Try.func150 rfl (by kernel_rfl) rfl (fun c hc => ?_)
  have hn := hs.1
  have lp : ∀ m k, k + m = v.1 → Run Try.prog c 150 [.code (cAt (bodyOf Try.f150) [1, 1, 0, 1, 0, 0]), .inLoop (cAt (bodyOf Try.f150) [1, 1, 0, 1, 0, 0]), .inBlock 0, .code (cAt (bodyOf Try.f150) [1, 1, 1])] (S_toPlaceS v k) (Post c [(0, ⟨false, 2, v.1, fun i => [.p (.int .i64 ((v.2 i).1)), .p (.int .i64 ((v.2 i).2.1))]⟩)] (.ar 2 0 0 v.1)) := by
    intro m
    induction m with
    | zero =>
      intro k hk
      refine path_ok mixed Try.func150 hc (p_toPlaceS_c v k) ?_
      simp only [All]
      repeat' (first | exact trivial | with_reducible apply And.intro)
      all_goals (first | exact aG _ | exact aP _ _ | exact aA _ _ | exact aE _ | omega | rfl | (intros; first | assumption | exact True.intro | rfl | exact absurd (show false = true by assumption) Bool.false_ne_true | ((repeat' (first | assumption | apply anda | apply notf)); done)) | (intro i hi; (have hik : i < k := by omega); simp [hik, All]) | (simp; try omega))
    | succ m ih =>
      intro k hk
      have hlt : decide ((k : Int) < (v.1 : Int)) = true := by simp; omega
      refine piece_ok mixed hc (p_toPlaceS_b v k) ?_ (ih (k + 1) (by omega))
      simp only [All]
      repeat' (first | exact trivial | with_reducible apply And.intro)
      all_goals (first | exact aG _ | exact aP _ _ | exact aA _ _ | exact aE _ | omega | rfl | (intros; first | assumption | exact True.intro | rfl | exact absurd (show false = true by assumption) Bool.false_ne_true | ((repeat' (first | assumption | apply anda | apply notf)); done)) | (exact con_toPlace (v.2 k) (hs.2 k (by omega))) | (intro i hi; by_cases h : i = k <;> simp [h, Nat.lt_succ_iff_lt_or_eq, cvtL, cvt, tg, tru, All]))
  refine piece_ok mixed hc (p_toPlaceS_a v) ?_ (lp v.1 0 (by omega))
  simp only [All]
  repeat' (first | exact trivial | with_reducible apply And.intro)
  all_goals (first | exact aG _ | exact aP _ _ | exact aA _ _ | exact aE _ | omega | rfl | (intros; first | assumption | exact True.intro | rfl | exact absurd (show false = true by assumption) Bool.false_ne_true | ((repeat' (first | assumption | apply anda | apply notf)); done)) | (intro i hi; simp [All]))
theorem con_toFramework (v : T_Framework) (hs : smS s_Framework v) : Con Try.prog 132 0 [] [.agg [.p (.int .i64 v.1.1), .p (.seq true 2 v.1.2.1.1 (fun i => [.int .i64 ((v.1.2.1.2 i).1), .int .i64 ((v.1.2.1.2 i).2.1)])), .p (.seq true 2 v.2.1.1 (fun i => [.int .i64 ((v.2.1.2 i).1), .int .i64 ((v.2.1.2 i).2.1)]))]] [(0, ⟨false, 2, v.1.2.1.1, fun i => [.p (.int .i64 ((v.1.2.1.2 i).1)), .p (.int .i64 ((v.1.2.1.2 i).2.1))]⟩), (1, ⟨false, 2, v.2.1.1, fun i => [.p (.int .i64 ((v.2.1.2 i).1)), .p (.int .i64 ((v.2.1.2 i).2.1))]⟩)] (.agg [.p (.int .i64 v.1.1), .ar 2 0 0 v.1.2.1.1, .ar 2 1 0 v.2.1.1]) := by
  refine con_start Try.func132 rfl (by kernel_rfl) rfl (fun c hc => ?_)
  refine path_ok mixed Try.func132 hc (p_toFramework v) ?_
  simp only [All]
  repeat' (first | exact trivial | with_reducible apply And.intro)
  all_goals (first | exact aG _ | exact aP _ _ | exact aA _ _ | exact aE _ | omega | rfl | (intros; first | assumption | exact True.intro | rfl | exact absurd (show false = true by assumption) Bool.false_ne_true | ((repeat' (first | assumption | apply anda | apply notf)); done)) | (exact con_toGraph v.1 hs.1) | (exact con_toPlaceS v.2.1 hs.2.1) | (intro i hi; simp [hi, All]))
theorem con_toTensegrity (v : T_Tensegrity) (hs : smS s_Tensegrity v) : Con Try.prog 93 0 [] [.agg [.p (.int .i64 v.1.1.1), .p (.seq true 2 v.1.1.2.1.1 (fun i => [.int .i64 ((v.1.1.2.1.2 i).1), .int .i64 ((v.1.1.2.1.2 i).2.1)])), .p (.seq true 2 v.1.2.1.1 (fun i => [.int .i64 ((v.1.2.1.2 i).1), .int .i64 ((v.1.2.1.2 i).2.1)])), .p (.seq true 1 v.2.1.1 (fun i => [.int .i64 (v.2.1.2 i)]))]] [(0, ⟨false, 2, v.1.1.2.1.1, fun i => [.p (.int .i64 ((v.1.1.2.1.2 i).1)), .p (.int .i64 ((v.1.1.2.1.2 i).2.1))]⟩), (1, ⟨false, 2, v.1.2.1.1, fun i => [.p (.int .i64 ((v.1.2.1.2 i).1)), .p (.int .i64 ((v.1.2.1.2 i).2.1))]⟩), (2, ⟨false, 1, v.2.1.1, fun i => [.p (.int .i64 (v.2.1.2 i))]⟩)] (.agg [.p (.int .i64 v.1.1.1), .ar 2 0 0 v.1.1.2.1.1, .ar 2 1 0 v.1.2.1.1, .ar 1 2 0 v.2.1.1]) := by
  refine con_start Try.func93 rfl (by kernel_rfl) rfl (fun c hc => ?_)
  refine path_ok mixed Try.func93 hc (p_toTensegrity v) ?_
  simp only [All]
  repeat' (first | exact trivial | with_reducible apply And.intro)
  all_goals (first | exact aG _ | exact aP _ _ | exact aA _ _ | exact aE _ | omega | rfl | (intros; first | assumption | exact True.intro | rfl | exact absurd (show false = true by assumption) Bool.false_ne_true | ((repeat' (first | assumption | apply anda | apply notf)); done)) | (exact con_toFramework v.1 hs.1) | (exact con_toIntS v.2.1 hs.2.1) | (intro i hi; simp [hi, All]))
theorem con_toStep (v : T_Step) (hs : smS s_Step v) : Con Try.prog 133 0 [] [.agg [.p (.int .i64 v.1), .p (.int .i64 v.2.1), .p (.int .i64 v.2.2.1), .p (.int .i64 v.2.2.2.1), .p (.int .i64 v.2.2.2.2.1)]] [] (.agg [.p (.int .i64 v.1), .p (.int .i64 v.2.1), .p (.int .i64 v.2.2.1), .p (.int .i64 v.2.2.2.1), .p (.int .i64 v.2.2.2.2.1)]) := by
  refine con_start Try.func133 rfl (by kernel_rfl) rfl (fun c hc => ?_)
  refine path_ok mixed Try.func133 hc (p_toStep v) ?_
  simp only [All]
  repeat' (first | exact trivial | with_reducible apply And.intro)
  all_goals (first | exact aG _ | exact aP _ _ | exact aA _ _ | exact aE _ | omega | rfl | (intros; first | assumption | exact True.intro | rfl | exact absurd (show false = true by assumption) Bool.false_ne_true | ((repeat' (first | assumption | apply anda | apply notf)); done)) | (intro i hi; simp [hi, All]))
theorem con_toStepS (v : T_StepS) (hs : smS s_StepS v) : Con Try.prog 94 0 [] [.p (.seq true 5 v.1 (fun i => [.int .i64 ((v.2 i).1), .int .i64 ((v.2 i).2.1), .int .i64 ((v.2 i).2.2.1), .int .i64 ((v.2 i).2.2.2.1), .int .i64 ((v.2 i).2.2.2.2.1)]))] [(0, ⟨false, 5, v.1, fun i => [.p (.int .i64 ((v.2 i).1)), .p (.int .i64 ((v.2 i).2.1)), .p (.int .i64 ((v.2 i).2.2.1)), .p (.int .i64 ((v.2 i).2.2.2.1)), .p (.int .i64 ((v.2 i).2.2.2.2.1))]⟩)] (.ar 5 0 0 v.1) := by
  refine con_start Try.func94 rfl (by kernel_rfl) rfl (fun c hc => ?_)
  have hn := hs.1
  have lp : ∀ m k, k + m = v.1 → Run Try.prog c 94 [.code (cAt (bodyOf Try.f94) [1, 1, 0, 1, 0, 0]), .inLoop (cAt (bodyOf Try.f94) [1, 1, 0, 1, 0, 0]), .inBlock 0, .code (cAt (bodyOf Try.f94) [1, 1, 1])] (S_toStepS v k) (Post c [(0, ⟨false, 5, v.1, fun i => [.p (.int .i64 ((v.2 i).1)), .p (.int .i64 ((v.2 i).2.1)), .p (.int .i64 ((v.2 i).2.2.1)), .p (.int .i64 ((v.2 i).2.2.2.1)), .p (.int .i64 ((v.2 i).2.2.2.2.1))]⟩)] (.ar 5 0 0 v.1)) := by
    intro m
    induction m with
    | zero =>
      intro k hk
      refine path_ok mixed Try.func94 hc (p_toStepS_c v k) ?_
      simp only [All]
      repeat' (first | exact trivial | with_reducible apply And.intro)
      all_goals (first | exact aG _ | exact aP _ _ | exact aA _ _ | exact aE _ | omega | rfl | (intros; first | assumption | exact True.intro | rfl | exact absurd (show false = true by assumption) Bool.false_ne_true | ((repeat' (first | assumption | apply anda | apply notf)); done)) | (intro i hi; (have hik : i < k := by omega); simp [hik, All]) | (simp; try omega))
    | succ m ih =>
      intro k hk
      have hlt : decide ((k : Int) < (v.1 : Int)) = true := by simp; omega
      refine piece_ok mixed hc (p_toStepS_b v k) ?_ (ih (k + 1) (by omega))
      simp only [All]
      repeat' (first | exact trivial | with_reducible apply And.intro)
      all_goals (first | exact aG _ | exact aP _ _ | exact aA _ _ | exact aE _ | omega | rfl | (intros; first | assumption | exact True.intro | rfl | exact absurd (show false = true by assumption) Bool.false_ne_true | ((repeat' (first | assumption | apply anda | apply notf)); done)) | (exact con_toStep (v.2 k) (hs.2 k (by omega))) | (intro i hi; by_cases h : i = k <;> simp [h, Nat.lt_succ_iff_lt_or_eq, cvtL, cvt, tg, tru, All]))
  refine piece_ok mixed hc (p_toStepS_a v) ?_ (lp v.1 0 (by omega))
  simp only [All]
  repeat' (first | exact trivial | with_reducible apply And.intro)
  all_goals (first | exact aG _ | exact aP _ _ | exact aA _ _ | exact aE _ | omega | rfl | (intros; first | assumption | exact True.intro | rfl | exact absurd (show false = true by assumption) Bool.false_ne_true | ((repeat' (first | assumption | apply anda | apply notf)); done)) | (intro i hi; simp [All]))
theorem con_toClaim (v : T_Claim) (hs : smS s_Claim v) : Con Try.prog 32 0 [] [.agg [.p (.int .i64 v.1), .p (.int .i64 v.2.1.1), .p (.seq true 2 v.2.1.2.1.1 (fun i => [.int .i64 ((v.2.1.2.1.2 i).1), .int .i64 ((v.2.1.2.1.2 i).2.1)])), .p (.int .i64 v.2.2.1.1.1.1), .p (.seq true 2 v.2.2.1.1.1.2.1.1 (fun i => [.int .i64 ((v.2.2.1.1.1.2.1.2 i).1), .int .i64 ((v.2.2.1.1.1.2.1.2 i).2.1)])), .p (.seq true 2 v.2.2.1.1.2.1.1 (fun i => [.int .i64 ((v.2.2.1.1.2.1.2 i).1), .int .i64 ((v.2.2.1.1.2.1.2 i).2.1)])), .p (.seq true 1 v.2.2.1.2.1.1 (fun i => [.int .i64 (v.2.2.1.2.1.2 i)])), .p (.seq true 5 v.2.2.2.1.1 (fun i => [.int .i64 ((v.2.2.2.1.2 i).1), .int .i64 ((v.2.2.2.1.2 i).2.1), .int .i64 ((v.2.2.2.1.2 i).2.2.1), .int .i64 ((v.2.2.2.1.2 i).2.2.2.1), .int .i64 ((v.2.2.2.1.2 i).2.2.2.2.1)])), .p (.seq true 1 v.2.2.2.2.1.1 (fun i => [.int .i64 (v.2.2.2.2.1.2 i)]))]] [(0, ⟨false, 2, v.2.1.2.1.1, fun i => [.p (.int .i64 ((v.2.1.2.1.2 i).1)), .p (.int .i64 ((v.2.1.2.1.2 i).2.1))]⟩), (1, ⟨false, 2, v.2.2.1.1.1.2.1.1, fun i => [.p (.int .i64 ((v.2.2.1.1.1.2.1.2 i).1)), .p (.int .i64 ((v.2.2.1.1.1.2.1.2 i).2.1))]⟩), (2, ⟨false, 2, v.2.2.1.1.2.1.1, fun i => [.p (.int .i64 ((v.2.2.1.1.2.1.2 i).1)), .p (.int .i64 ((v.2.2.1.1.2.1.2 i).2.1))]⟩), (3, ⟨false, 1, v.2.2.1.2.1.1, fun i => [.p (.int .i64 (v.2.2.1.2.1.2 i))]⟩), (4, ⟨false, 5, v.2.2.2.1.1, fun i => [.p (.int .i64 ((v.2.2.2.1.2 i).1)), .p (.int .i64 ((v.2.2.2.1.2 i).2.1)), .p (.int .i64 ((v.2.2.2.1.2 i).2.2.1)), .p (.int .i64 ((v.2.2.2.1.2 i).2.2.2.1)), .p (.int .i64 ((v.2.2.2.1.2 i).2.2.2.2.1))]⟩), (5, ⟨false, 1, v.2.2.2.2.1.1, fun i => [.p (.int .i64 (v.2.2.2.2.1.2 i))]⟩)] (.agg [.p (.int .i64 v.1), .p (.int .i64 v.2.1.1), .ar 2 0 0 v.2.1.2.1.1, .p (.int .i64 v.2.2.1.1.1.1), .ar 2 1 0 v.2.2.1.1.1.2.1.1, .ar 2 2 0 v.2.2.1.1.2.1.1, .ar 1 3 0 v.2.2.1.2.1.1, .ar 5 4 0 v.2.2.2.1.1, .ar 1 5 0 v.2.2.2.2.1.1]) := by
  refine con_start Try.func32 rfl (by kernel_rfl) rfl (fun c hc => ?_)
  refine path_ok mixed Try.func32 hc (p_toClaim v) ?_
  simp only [All]
  repeat' (first | exact trivial | with_reducible apply And.intro)
  all_goals (first | exact aG _ | exact aP _ _ | exact aA _ _ | exact aE _ | omega | rfl | (intros; first | assumption | exact True.intro | rfl | exact absurd (show false = true by assumption) Bool.false_ne_true | ((repeat' (first | assumption | apply anda | apply notf)); done)) | (exact con_toGraph v.2.1 hs.2.1) | (exact con_toTensegrity v.2.2.1 hs.2.2.1) | (exact con_toStepS v.2.2.2.1 hs.2.2.2.1) | (exact con_toIntS v.2.2.2.2.1 hs.2.2.2.2.1) | (intro i hi; simp [hi, All]))
theorem con_eqIntS (v : T_IntS) (hs : smS s_IntS v) : Con Try.prog 106 0 [] [.p (.seq true 1 v.1 (fun i => [.int .i64 (v.2 i)])), .p (.seq true 1 v.1 (fun i => [.int .i64 (v.2 i)]))] [] (.p (.bool true)) := by
  refine con_start Try.func106 rfl (by kernel_rfl) rfl (fun c hc => ?_)
  have hn := hs.1
  have lp : ∀ m k, k + m = v.1 → Run Try.prog c 106 [.code (cAt (bodyOf Try.f106) [1, 1, 0, 1, 0, 0]), .inLoop (cAt (bodyOf Try.f106) [1, 1, 0, 1, 0, 0]), .inBlock 0, .code (cAt (bodyOf Try.f106) [1, 1, 1])] (S_eqIntS v k) (Post c [] (.p (.bool true))) := by
    intro m
    induction m with
    | zero =>
      intro k hk
      refine path_ok mixed Try.func106 hc (p_eqIntS_c v k) ?_
      simp only [All]
      repeat' (first | exact trivial | with_reducible apply And.intro)
      all_goals (first | exact aG _ | exact aP _ _ | exact aA _ _ | exact aE _ | omega | rfl | (intros; first | assumption | exact True.intro | rfl | exact absurd (show false = true by assumption) Bool.false_ne_true | ((repeat' (first | assumption | apply anda | apply notf)); done)) | (simp; try omega))
    | succ m ih =>
      intro k hk
      have hlt : decide ((k : Int) < (v.1 : Int)) = true := by simp; omega
      refine piece_ok mixed hc (p_eqIntS_b v k) ?_ (ih (k + 1) (by omega))
      simp only [All]
      repeat' (first | exact trivial | with_reducible apply And.intro)
      all_goals (first | exact aG _ | exact aP _ _ | exact aA _ _ | exact aE _ | omega | rfl | (intros; first | assumption | exact True.intro | rfl | exact absurd (show false = true by assumption) Bool.false_ne_true | ((repeat' (first | assumption | apply anda | apply notf)); done)) | simp)
  refine piece_ok mixed hc (p_eqIntS_a v) ?_ (lp v.1 0 (by omega))
  simp only [All]
  repeat' (first | exact trivial | with_reducible apply And.intro)
  all_goals (first | exact aG _ | exact aP _ _ | exact aA _ _ | exact aE _ | omega | rfl | (intros; first | assumption | exact True.intro | rfl | exact absurd (show false = true by assumption) Bool.false_ne_true | ((repeat' (first | assumption | apply anda | apply notf)); done)) | simp)
theorem con_eqBar (v : T_Bar) (hs : smS s_Bar v) : Con Try.prog 117 0 [] [.agg [.p (.int .i64 v.1), .p (.int .i64 v.2.1)], .agg [.p (.int .i64 v.1), .p (.int .i64 v.2.1)]] [] (.p (.bool true)) := by
  refine con_start Try.func117 rfl (by kernel_rfl) rfl (fun c hc => ?_)
  refine path_ok mixed Try.func117 hc (p_eqBar v) ?_
  simp only [All]
  repeat' (first | exact trivial | with_reducible apply And.intro)
  all_goals (first | exact aG _ | exact aP _ _ | exact aA _ _ | exact aE _ | omega | rfl | (intros; first | assumption | exact True.intro | rfl | exact absurd (show false = true by assumption) Bool.false_ne_true | ((repeat' (first | assumption | apply anda | apply notf)); done)) | simp)
theorem con_eqBarS (v : T_BarS) (hs : smS s_BarS v) : Con Try.prog 54 0 [] [.p (.seq true 2 v.1 (fun i => [.int .i64 ((v.2 i).1), .int .i64 ((v.2 i).2.1)])), .p (.seq true 2 v.1 (fun i => [.int .i64 ((v.2 i).1), .int .i64 ((v.2 i).2.1)]))] [] (.p (.bool true)) := by
  refine con_start Try.func54 rfl (by kernel_rfl) rfl (fun c hc => ?_)
  have hn := hs.1
  have lp : ∀ m k, k + m = v.1 → Run Try.prog c 54 [.code (cAt (bodyOf Try.f54) [1, 1, 0, 1, 0, 0]), .inLoop (cAt (bodyOf Try.f54) [1, 1, 0, 1, 0, 0]), .inBlock 0, .code (cAt (bodyOf Try.f54) [1, 1, 1])] (S_eqBarS v k) (Post c [] (.p (.bool true))) := by
    intro m
    induction m with
    | zero =>
      intro k hk
      refine path_ok mixed Try.func54 hc (p_eqBarS_c v k) ?_
      simp only [All]
      repeat' (first | exact trivial | with_reducible apply And.intro)
      all_goals (first | exact aG _ | exact aP _ _ | exact aA _ _ | exact aE _ | omega | rfl | (intros; first | assumption | exact True.intro | rfl | exact absurd (show false = true by assumption) Bool.false_ne_true | ((repeat' (first | assumption | apply anda | apply notf)); done)) | (simp; try omega))
    | succ m ih =>
      intro k hk
      have hlt : decide ((k : Int) < (v.1 : Int)) = true := by simp; omega
      refine piece_ok mixed hc (p_eqBarS_b v k) ?_ (ih (k + 1) (by omega))
      simp only [All]
      repeat' (first | exact trivial | with_reducible apply And.intro)
      all_goals (first | exact aG _ | exact aP _ _ | exact aA _ _ | exact aE _ | omega | rfl | (intros; first | assumption | exact True.intro | rfl | exact absurd (show false = true by assumption) Bool.false_ne_true | ((repeat' (first | assumption | apply anda | apply notf)); done)) | (exact con_eqBar (v.2 k) (hs.2 k (by omega))) | simp)
  refine piece_ok mixed hc (p_eqBarS_a v) ?_ (lp v.1 0 (by omega))
  simp only [All]
  repeat' (first | exact trivial | with_reducible apply And.intro)
  all_goals (first | exact aG _ | exact aP _ _ | exact aA _ _ | exact aE _ | omega | rfl | (intros; first | assumption | exact True.intro | rfl | exact absurd (show false = true by assumption) Bool.false_ne_true | ((repeat' (first | assumption | apply anda | apply notf)); done)) | simp)
theorem con_eqGraph (v : T_Graph) (hs : smS s_Graph v) : Con Try.prog 19 0 [] [.agg [.p (.int .i64 v.1), .p (.seq true 2 v.2.1.1 (fun i => [.int .i64 ((v.2.1.2 i).1), .int .i64 ((v.2.1.2 i).2.1)]))], .agg [.p (.int .i64 v.1), .p (.seq true 2 v.2.1.1 (fun i => [.int .i64 ((v.2.1.2 i).1), .int .i64 ((v.2.1.2 i).2.1)]))]] [] (.p (.bool true)) := by
  refine con_start Try.func19 rfl (by kernel_rfl) rfl (fun c hc => ?_)
  refine path_ok mixed Try.func19 hc (p_eqGraph v) ?_
  simp only [All]
  repeat' (first | exact trivial | with_reducible apply And.intro)
  all_goals (first | exact aG _ | exact aP _ _ | exact aA _ _ | exact aE _ | omega | rfl | (intros; first | assumption | exact True.intro | rfl | exact absurd (show false = true by assumption) Bool.false_ne_true | ((repeat' (first | assumption | apply anda | apply notf)); done)) | (exact con_eqBarS v.2.1 hs.2.1) | simp)
theorem con_eqPlace (v : T_Place) (hs : smS s_Place v) : Con Try.prog 177 0 [] [.agg [.p (.int .i64 v.1), .p (.int .i64 v.2.1)], .agg [.p (.int .i64 v.1), .p (.int .i64 v.2.1)]] [] (.p (.bool true)) := by
  refine con_start Try.func177 rfl (by kernel_rfl) rfl (fun c hc => ?_)
  refine path_ok mixed Try.func177 hc (p_eqPlace v) ?_
  simp only [All]
  repeat' (first | exact trivial | with_reducible apply And.intro)
  all_goals (first | exact aG _ | exact aP _ _ | exact aA _ _ | exact aE _ | omega | rfl | (intros; first | assumption | exact True.intro | rfl | exact absurd (show false = true by assumption) Bool.false_ne_true | ((repeat' (first | assumption | apply anda | apply notf)); done)) | simp)
theorem con_eqPlaceS (v : T_PlaceS) (hs : smS s_PlaceS v) : Con Try.prog 153 0 [] [.p (.seq true 2 v.1 (fun i => [.int .i64 ((v.2 i).1), .int .i64 ((v.2 i).2.1)])), .p (.seq true 2 v.1 (fun i => [.int .i64 ((v.2 i).1), .int .i64 ((v.2 i).2.1)]))] [] (.p (.bool true)) := by
  refine con_start Try.func153 rfl (by kernel_rfl) rfl (fun c hc => ?_)
  have hn := hs.1
  have lp : ∀ m k, k + m = v.1 → Run Try.prog c 153 [.code (cAt (bodyOf Try.f153) [1, 1, 0, 1, 0, 0]), .inLoop (cAt (bodyOf Try.f153) [1, 1, 0, 1, 0, 0]), .inBlock 0, .code (cAt (bodyOf Try.f153) [1, 1, 1])] (S_eqPlaceS v k) (Post c [] (.p (.bool true))) := by
    intro m
    induction m with
    | zero =>
      intro k hk
      refine path_ok mixed Try.func153 hc (p_eqPlaceS_c v k) ?_
      simp only [All]
      repeat' (first | exact trivial | with_reducible apply And.intro)
      all_goals (first | exact aG _ | exact aP _ _ | exact aA _ _ | exact aE _ | omega | rfl | (intros; first | assumption | exact True.intro | rfl | exact absurd (show false = true by assumption) Bool.false_ne_true | ((repeat' (first | assumption | apply anda | apply notf)); done)) | (simp; try omega))
    | succ m ih =>
      intro k hk
      have hlt : decide ((k : Int) < (v.1 : Int)) = true := by simp; omega
      refine piece_ok mixed hc (p_eqPlaceS_b v k) ?_ (ih (k + 1) (by omega))
      simp only [All]
      repeat' (first | exact trivial | with_reducible apply And.intro)
      all_goals (first | exact aG _ | exact aP _ _ | exact aA _ _ | exact aE _ | omega | rfl | (intros; first | assumption | exact True.intro | rfl | exact absurd (show false = true by assumption) Bool.false_ne_true | ((repeat' (first | assumption | apply anda | apply notf)); done)) | (exact con_eqPlace (v.2 k) (hs.2 k (by omega))) | simp)
  refine piece_ok mixed hc (p_eqPlaceS_a v) ?_ (lp v.1 0 (by omega))
  simp only [All]
  repeat' (first | exact trivial | with_reducible apply And.intro)
  all_goals (first | exact aG _ | exact aP _ _ | exact aA _ _ | exact aE _ | omega | rfl | (intros; first | assumption | exact True.intro | rfl | exact absurd (show false = true by assumption) Bool.false_ne_true | ((repeat' (first | assumption | apply anda | apply notf)); done)) | simp)
theorem con_eqFramework (v : T_Framework) (hs : smS s_Framework v) : Con Try.prog 136 0 [] [.agg [.p (.int .i64 v.1.1), .p (.seq true 2 v.1.2.1.1 (fun i => [.int .i64 ((v.1.2.1.2 i).1), .int .i64 ((v.1.2.1.2 i).2.1)])), .p (.seq true 2 v.2.1.1 (fun i => [.int .i64 ((v.2.1.2 i).1), .int .i64 ((v.2.1.2 i).2.1)]))], .agg [.p (.int .i64 v.1.1), .p (.seq true 2 v.1.2.1.1 (fun i => [.int .i64 ((v.1.2.1.2 i).1), .int .i64 ((v.1.2.1.2 i).2.1)])), .p (.seq true 2 v.2.1.1 (fun i => [.int .i64 ((v.2.1.2 i).1), .int .i64 ((v.2.1.2 i).2.1)]))]] [] (.p (.bool true)) := by
  refine con_start Try.func136 rfl (by kernel_rfl) rfl (fun c hc => ?_)
  refine path_ok mixed Try.func136 hc (p_eqFramework v) ?_
  simp only [All]
  repeat' (first | exact trivial | with_reducible apply And.intro)
  all_goals (first | exact aG _ | exact aP _ _ | exact aA _ _ | exact aE _ | omega | rfl | (intros; first | assumption | exact True.intro | rfl | exact absurd (show false = true by assumption) Bool.false_ne_true | ((repeat' (first | assumption | apply anda | apply notf)); done)) | (exact con_eqGraph v.1 hs.1) | (exact con_eqPlaceS v.2.1 hs.2.1) | simp)
theorem con_eqTensegrity (v : T_Tensegrity) (hs : smS s_Tensegrity v) : Con Try.prog 104 0 [] [.agg [.p (.int .i64 v.1.1.1), .p (.seq true 2 v.1.1.2.1.1 (fun i => [.int .i64 ((v.1.1.2.1.2 i).1), .int .i64 ((v.1.1.2.1.2 i).2.1)])), .p (.seq true 2 v.1.2.1.1 (fun i => [.int .i64 ((v.1.2.1.2 i).1), .int .i64 ((v.1.2.1.2 i).2.1)])), .p (.seq true 1 v.2.1.1 (fun i => [.int .i64 (v.2.1.2 i)]))], .agg [.p (.int .i64 v.1.1.1), .p (.seq true 2 v.1.1.2.1.1 (fun i => [.int .i64 ((v.1.1.2.1.2 i).1), .int .i64 ((v.1.1.2.1.2 i).2.1)])), .p (.seq true 2 v.1.2.1.1 (fun i => [.int .i64 ((v.1.2.1.2 i).1), .int .i64 ((v.1.2.1.2 i).2.1)])), .p (.seq true 1 v.2.1.1 (fun i => [.int .i64 (v.2.1.2 i)]))]] [] (.p (.bool true)) := by
  refine con_start Try.func104 rfl (by kernel_rfl) rfl (fun c hc => ?_)
  refine path_ok mixed Try.func104 hc (p_eqTensegrity v) ?_
  simp only [All]
  repeat' (first | exact trivial | with_reducible apply And.intro)
  all_goals (first | exact aG _ | exact aP _ _ | exact aA _ _ | exact aE _ | omega | rfl | (intros; first | assumption | exact True.intro | rfl | exact absurd (show false = true by assumption) Bool.false_ne_true | ((repeat' (first | assumption | apply anda | apply notf)); done)) | (exact con_eqFramework v.1 hs.1) | (exact con_eqIntS v.2.1 hs.2.1) | simp)
theorem con_eqStep (v : T_Step) (hs : smS s_Step v) : Con Try.prog 137 0 [] [.agg [.p (.int .i64 v.1), .p (.int .i64 v.2.1), .p (.int .i64 v.2.2.1), .p (.int .i64 v.2.2.2.1), .p (.int .i64 v.2.2.2.2.1)], .agg [.p (.int .i64 v.1), .p (.int .i64 v.2.1), .p (.int .i64 v.2.2.1), .p (.int .i64 v.2.2.2.1), .p (.int .i64 v.2.2.2.2.1)]] [] (.p (.bool true)) := by
  refine con_start Try.func137 rfl (by kernel_rfl) rfl (fun c hc => ?_)
  refine path_ok mixed Try.func137 hc (p_eqStep v) ?_
  simp only [All]
  repeat' (first | exact trivial | with_reducible apply And.intro)
  all_goals (first | exact aG _ | exact aP _ _ | exact aA _ _ | exact aE _ | omega | rfl | (intros; first | assumption | exact True.intro | rfl | exact absurd (show false = true by assumption) Bool.false_ne_true | ((repeat' (first | assumption | apply anda | apply notf)); done)) | simp)
theorem con_eqStepS (v : T_StepS) (hs : smS s_StepS v) : Con Try.prog 105 0 [] [.p (.seq true 5 v.1 (fun i => [.int .i64 ((v.2 i).1), .int .i64 ((v.2 i).2.1), .int .i64 ((v.2 i).2.2.1), .int .i64 ((v.2 i).2.2.2.1), .int .i64 ((v.2 i).2.2.2.2.1)])), .p (.seq true 5 v.1 (fun i => [.int .i64 ((v.2 i).1), .int .i64 ((v.2 i).2.1), .int .i64 ((v.2 i).2.2.1), .int .i64 ((v.2 i).2.2.2.1), .int .i64 ((v.2 i).2.2.2.2.1)]))] [] (.p (.bool true)) := by
  refine con_start Try.func105 rfl (by kernel_rfl) rfl (fun c hc => ?_)
  have hn := hs.1
  have lp : ∀ m k, k + m = v.1 → Run Try.prog c 105 [.code (cAt (bodyOf Try.f105) [1, 1, 0, 1, 0, 0]), .inLoop (cAt (bodyOf Try.f105) [1, 1, 0, 1, 0, 0]), .inBlock 0, .code (cAt (bodyOf Try.f105) [1, 1, 1])] (S_eqStepS v k) (Post c [] (.p (.bool true))) := by
    intro m
    induction m with
    | zero =>
      intro k hk
      refine path_ok mixed Try.func105 hc (p_eqStepS_c v k) ?_
      simp only [All]
      repeat' (first | exact trivial | with_reducible apply And.intro)
      all_goals (first | exact aG _ | exact aP _ _ | exact aA _ _ | exact aE _ | omega | rfl | (intros; first | assumption | exact True.intro | rfl | exact absurd (show false = true by assumption) Bool.false_ne_true | ((repeat' (first | assumption | apply anda | apply notf)); done)) | (simp; try omega))
    | succ m ih =>
      intro k hk
      have hlt : decide ((k : Int) < (v.1 : Int)) = true := by simp; omega
      refine piece_ok mixed hc (p_eqStepS_b v k) ?_ (ih (k + 1) (by omega))
      simp only [All]
      repeat' (first | exact trivial | with_reducible apply And.intro)
      all_goals (first | exact aG _ | exact aP _ _ | exact aA _ _ | exact aE _ | omega | rfl | (intros; first | assumption | exact True.intro | rfl | exact absurd (show false = true by assumption) Bool.false_ne_true | ((repeat' (first | assumption | apply anda | apply notf)); done)) | (exact con_eqStep (v.2 k) (hs.2 k (by omega))) | simp)
  refine piece_ok mixed hc (p_eqStepS_a v) ?_ (lp v.1 0 (by omega))
  simp only [All]
  repeat' (first | exact trivial | with_reducible apply And.intro)
  all_goals (first | exact aG _ | exact aP _ _ | exact aA _ _ | exact aE _ | omega | rfl | (intros; first | assumption | exact True.intro | rfl | exact absurd (show false = true by assumption) Bool.false_ne_true | ((repeat' (first | assumption | apply anda | apply notf)); done)) | simp)
theorem con_eqClaim (v : T_Claim) (hs : smS s_Claim v) : Con Try.prog 34 0 [] [.agg [.p (.int .i64 v.1), .p (.int .i64 v.2.1.1), .p (.seq true 2 v.2.1.2.1.1 (fun i => [.int .i64 ((v.2.1.2.1.2 i).1), .int .i64 ((v.2.1.2.1.2 i).2.1)])), .p (.int .i64 v.2.2.1.1.1.1), .p (.seq true 2 v.2.2.1.1.1.2.1.1 (fun i => [.int .i64 ((v.2.2.1.1.1.2.1.2 i).1), .int .i64 ((v.2.2.1.1.1.2.1.2 i).2.1)])), .p (.seq true 2 v.2.2.1.1.2.1.1 (fun i => [.int .i64 ((v.2.2.1.1.2.1.2 i).1), .int .i64 ((v.2.2.1.1.2.1.2 i).2.1)])), .p (.seq true 1 v.2.2.1.2.1.1 (fun i => [.int .i64 (v.2.2.1.2.1.2 i)])), .p (.seq true 5 v.2.2.2.1.1 (fun i => [.int .i64 ((v.2.2.2.1.2 i).1), .int .i64 ((v.2.2.2.1.2 i).2.1), .int .i64 ((v.2.2.2.1.2 i).2.2.1), .int .i64 ((v.2.2.2.1.2 i).2.2.2.1), .int .i64 ((v.2.2.2.1.2 i).2.2.2.2.1)])), .p (.seq true 1 v.2.2.2.2.1.1 (fun i => [.int .i64 (v.2.2.2.2.1.2 i)]))], .agg [.p (.int .i64 v.1), .p (.int .i64 v.2.1.1), .p (.seq true 2 v.2.1.2.1.1 (fun i => [.int .i64 ((v.2.1.2.1.2 i).1), .int .i64 ((v.2.1.2.1.2 i).2.1)])), .p (.int .i64 v.2.2.1.1.1.1), .p (.seq true 2 v.2.2.1.1.1.2.1.1 (fun i => [.int .i64 ((v.2.2.1.1.1.2.1.2 i).1), .int .i64 ((v.2.2.1.1.1.2.1.2 i).2.1)])), .p (.seq true 2 v.2.2.1.1.2.1.1 (fun i => [.int .i64 ((v.2.2.1.1.2.1.2 i).1), .int .i64 ((v.2.2.1.1.2.1.2 i).2.1)])), .p (.seq true 1 v.2.2.1.2.1.1 (fun i => [.int .i64 (v.2.2.1.2.1.2 i)])), .p (.seq true 5 v.2.2.2.1.1 (fun i => [.int .i64 ((v.2.2.2.1.2 i).1), .int .i64 ((v.2.2.2.1.2 i).2.1), .int .i64 ((v.2.2.2.1.2 i).2.2.1), .int .i64 ((v.2.2.2.1.2 i).2.2.2.1), .int .i64 ((v.2.2.2.1.2 i).2.2.2.2.1)])), .p (.seq true 1 v.2.2.2.2.1.1 (fun i => [.int .i64 (v.2.2.2.2.1.2 i)]))]] [] (.p (.bool true)) := by
  refine con_start Try.func34 rfl (by kernel_rfl) rfl (fun c hc => ?_)
  refine path_ok mixed Try.func34 hc (p_eqClaim v) ?_
  simp only [All]
  repeat' (first | exact trivial | with_reducible apply And.intro)
  all_goals (first | exact aG _ | exact aP _ _ | exact aA _ _ | exact aE _ | omega | rfl | (intros; first | assumption | exact True.intro | rfl | exact absurd (show false = true by assumption) Bool.false_ne_true | ((repeat' (first | assumption | apply anda | apply notf)); done)) | (exact con_eqGraph v.2.1 hs.2.1) | (exact con_eqTensegrity v.2.2.1 hs.2.2.1) | (exact con_eqStepS v.2.2.2.1 hs.2.2.2.1) | (exact con_eqIntS v.2.2.2.2.1 hs.2.2.2.2.1) | simp)
end Go.Proofs.Ytffnfeefjdmifaa.Mach
namespace Go.Proofs.Ytffnfeefjdmifaa.Mach
open Go
set_option linter.unusedVariables false
set_option linter.unusedSimpArgs false
def inL (v : T_IntS) : AV := .p (.seq true 1 v.1 (fun i => [.int .i64 (v.2 i)]))
end Go.Proofs.Ytffnfeefjdmifaa.Mach
namespace Go.Proofs.Ytffnfeefjdmifaa.Mach
open Go
set_option linter.unusedVariables false
set_option linter.unusedSimpArgs false
def sE : ByteArray := ⟨#[]⟩
def sC : ByteArray := ⟨#[44]⟩
def sSp : ByteArray := ⟨#[32]⟩
def sNone : ByteArray := ⟨#[110, 111, 110, 101]⟩
def strL (n : Nat) (f : Nat → ByteArray) : AV := .p (.seq true 1 n (fun i => [.str (f i)]))
def stOb (n : Nat) (f : Nat → ByteArray) : Ob := ⟨false, 1, n, fun i => [.p (.str (f i))]⟩
def SJ (n : Nat) (f : Nat → ByteArray) (by_ : ByteArray) (k : Nat) (s : ByteArray) : St :=
  ⟨[strL n f, .p (.str by_), .p .any, .p .any, .p .any, .p (.str s), .p .any, .p .any, strL n f, .p (.int .i64 n), .p (.int .i64 k)] ++ List.replicate 14 anyA, [], 0⟩
def SNm (v : T_IntS) (k : Nat) (f : Nat → ByteArray) : St :=
  ⟨[inL v, .p .any, .p .any, .ar 1 0 0 k, .p .any, .p .any, .p .any, inL v, .p (.int .i64 v.1), .p (.int .i64 k)] ++ List.replicate 11 anyA, [(0, stOb k f)], 1⟩
def SNl (v : T_IntS) (k : Nat) (s : ByteArray) : St :=
  ⟨[inL v, .p .any, .p .any, .p (.str s), .p (.int .i64 k)] ++ List.replicate 20 anyA, [], 0⟩
theorem jJz (n : Nat) (f : Nat → ByteArray) (by_ : ByteArray) :
    pieceOb Try.prog 0 [.reg [oT], .reg [oT], .reg [oT, oT, oT], .head] [.code (bodyOf Try.f121)] (start Try.f121 [] 0 [strL n f, .p (.str by_)]) [] 1 (SJ n f by_ 0 sE) =
    some ([.code (cAt (bodyOf Try.f121) [1, 1, 0, 1, 0, 0]), .inLoop (cAt (bodyOf Try.f121) [1, 1, 0, 1, 0, 0]), .inBlock 0, .code (cAt (bodyOf Try.f121) [1, 1, 1])], [(AN n),
  (AP n (fun i => [.str (f i)])),
  (by_ = by_),
  (ByteArray.mk #[] = sE),
  (AN n),
  (AP n (fun i => [.str (f i)])),
  (AI ((↑n : Int))),
  ((0 : Int) = (↑0 : Int))]) := by kernel_rfl
theorem jJt (n : Nat) (f : Nat → ByteArray) (by_ : ByteArray) (k : Nat) (s : ByteArray) :
    pieceOb Try.prog 0 [.reg [oT], .dec true, .reg [oT, oT, oT, oT, oT], .reg [oT, oT], .dec true, .reg [oT, oT, oT, oT], .reg [oT, oT, oT, oT], .reg [oT, oT], .head] [.code (cAt (bodyOf Try.f121) [1, 1, 0, 1, 0, 0]), .inLoop (cAt (bodyOf Try.f121) [1, 1, 0, 1, 0, 0]), .inBlock 0, .code (cAt (bodyOf Try.f121) [1, 1, 1])] (SJ n f by_ k s) [] 1 (SJ n f by_ (k + 1) ((s ++ by_) ++ f k)) =
    some ([.code (cAt (bodyOf Try.f121) [1, 1, 0, 1, 0, 0]), .inLoop (cAt (bodyOf Try.f121) [1, 1, 0, 1, 0, 0]), .inBlock 0, .code (cAt (bodyOf Try.f121) [1, 1, 1])], [((decide ((↑k : Int) < (↑n : Int))) = true),
  ((0 : Int) ≤ (↑k : Int)),
  (((↑k : Int) : Int) < (↑n : Int)),
  ((decide ((↑k : Int) > 0)) = true),
  (((s.size + by_.size) : Nat) ≤ 9223372036854775807),
  ((((s ++ by_).size + (f k).size) : Nat) ≤ 9223372036854775807),
  (((-9223372036854775808) : Int) ≤ ((↑k : Int) + 1)),
  ((((↑k : Int) + 1) : Int) ≤ 9223372036854775807),
  (AN n),
  (AP n (fun i => [.str (f i)])),
  (by_ = by_),
  (s ++ by_ ++ f k = s ++ by_ ++ f k),
  (AN n),
  (AP n (fun i => [.str (f i)])),
  (AI ((↑n : Int))),
  ((((↑k : Int) + 1) : Int) = (↑(k + 1) : Int))]) := by kernel_rfl
theorem jJf (n : Nat) (f : Nat → ByteArray) (by_ : ByteArray) (k : Nat) (s : ByteArray) :
    pieceOb Try.prog 0 [.reg [oT], .dec true, .reg [oT, oT, oT, oT, oT], .reg [oT, oT], .dec false, .reg [oT, oT, oT, oT], .reg [oT, oT], .head] [.code (cAt (bodyOf Try.f121) [1, 1, 0, 1, 0, 0]), .inLoop (cAt (bodyOf Try.f121) [1, 1, 0, 1, 0, 0]), .inBlock 0, .code (cAt (bodyOf Try.f121) [1, 1, 1])] (SJ n f by_ k s) [] 1 (SJ n f by_ (k + 1) (s ++ f k)) =
    some ([.code (cAt (bodyOf Try.f121) [1, 1, 0, 1, 0, 0]), .inLoop (cAt (bodyOf Try.f121) [1, 1, 0, 1, 0, 0]), .inBlock 0, .code (cAt (bodyOf Try.f121) [1, 1, 1])], [((decide ((↑k : Int) < (↑n : Int))) = true),
  ((0 : Int) ≤ (↑k : Int)),
  (((↑k : Int) : Int) < (↑n : Int)),
  ((decide ((↑k : Int) > 0)) = false),
  (((s.size + (f k).size) : Nat) ≤ 9223372036854775807),
  (((-9223372036854775808) : Int) ≤ ((↑k : Int) + 1)),
  ((((↑k : Int) + 1) : Int) ≤ 9223372036854775807),
  (AN n),
  (AP n (fun i => [.str (f i)])),
  (by_ = by_),
  (s ++ f k = s ++ f k),
  (AN n),
  (AP n (fun i => [.str (f i)])),
  (AI ((↑n : Int))),
  ((((↑k : Int) + 1) : Int) = (↑(k + 1) : Int))]) := by kernel_rfl
theorem jJe (n : Nat) (f : Nat → ByteArray) (by_ : ByteArray) (k : Nat) (s : ByteArray) :
    pathOb Try.prog Try.f121 0 [.reg [oT], .dec false, .reg [oT, oT]] [.code (cAt (bodyOf Try.f121) [1, 1, 0, 1, 0, 0]), .inLoop (cAt (bodyOf Try.f121) [1, 1, 0, 1, 0, 0]), .inBlock 0, .code (cAt (bodyOf Try.f121) [1, 1, 1])] (SJ n f by_ k s) [] 1 [] (.p (.str s)) =
    some [((decide ((↑k : Int) < (↑n : Int))) = false),
  (s = s)] := by kernel_rfl
theorem jNz (v : T_IntS) (f : Nat → ByteArray) :
    pieceOb Try.prog 0 [.reg [oT], .reg [oT, oT], .reg [oT, oT, oT], .head] [.code (bodyOf Try.f123)] (start Try.f123 [] 0 [inL v]) [32] 1 (SNm v 0 f) =
    some ([.code (cAt (bodyOf Try.f123) [1, 1, 0, 1, 0, 0]), .inLoop (cAt (bodyOf Try.f123) [1, 1, 0, 1, 0, 0]), .inBlock 0, .code (cAt (bodyOf Try.f123) [1, 1, 1])], [(AN v.1),
  (AP v.1 (fun i => [.int .i64 (v.2 i)])),
  (AN 0),
  (AN 0),
  (AN v.1),
  (AP v.1 (fun i => [.int .i64 (v.2 i)])),
  (AI ((↑v.1 : Int))),
  ((0 : Int) = (↑0 : Int)),
  (AN 1),
  ((0 : Nat) ≤ 0),
  (∀ i : Nat, (((i : Nat) < 0) → (All [] ∧ (([.p .any] : List AV) = [.p (.str (f i))]))))]) := by kernel_rfl
theorem jNt (v : T_IntS) (k : Nat) (f : Nat → ByteArray) (s : ByteArray) :
    pieceOb Try.prog 0 [.reg [oT], .dec true, .reg [oT, oT, oT], .reg [oT, oT, ⟨true, (some ⟨[], [], [], 1, [], .p (.str s)⟩), none⟩, oT, oT, oT], .reg [oT, oT], .head] [.code (cAt (bodyOf Try.f123) [1, 1, 0, 1, 0, 0]), .inLoop (cAt (bodyOf Try.f123) [1, 1, 0, 1, 0, 0]), .inBlock 0, .code (cAt (bodyOf Try.f123) [1, 1, 1])] (SNm v k f) [257] 1 (SNm v (k + 1) f) =
    some ([.code (cAt (bodyOf Try.f123) [1, 1, 0, 1, 0, 0]), .inLoop (cAt (bodyOf Try.f123) [1, 1, 0, 1, 0, 0]), .inBlock 0, .code (cAt (bodyOf Try.f123) [1, 1, 1])], [((decide ((↑k : Int) < (↑v.1 : Int))) = true),
  ((0 : Int) ≤ (↑k : Int)),
  (((↑k : Int) : Int) < (↑v.1 : Int)),
  Con Try.prog 67 0 [] [.p (.int .i64 (v.2 k))] [] (.p (.str s)),
  ((1 : Nat) ≤ 1),
  ((k : Nat) ≤ k),
  ((((k + 1) * 16) : Nat) ≤ 140737488355328),
  (((k + 1) : Nat) ≤ 9223372036854775807),
  (((-9223372036854775808) : Int) ≤ ((↑k : Int) + 1)),
  ((((↑k : Int) + 1) : Int) ≤ 9223372036854775807),
  (AN v.1),
  (AP v.1 (fun i => [.int .i64 (v.2 i)])),
  (AN 0),
  (AN ((k + 1))),
  (AN v.1),
  (AP v.1 (fun i => [.int .i64 (v.2 i)])),
  (AI ((↑v.1 : Int))),
  ((((↑k : Int) + 1) : Int) = (↑(k + 1) : Int)),
  (AN 1),
  (((k + 1) : Nat) ≤ (k + 1)),
  (∀ i : Nat, (((i : Nat) < (k + 1)) → (All (cvtL false [(257, ⟨false, 1, (k + 1), (fun i_1 => (if (i_1 < k) then [.p (.str (f i_1))] else [.p (.str s)]))⟩), (225, ⟨false, 1, 1, (fun i_1 => [.p (.str s)])⟩)] [257] 1 (if (i < k) then [.p (.str (f i))] else [.p (.str s)])).2 ∧ (((cvtL false [(257, ⟨false, 1, (k + 1), (fun i_1 => (if (i_1 < k) then [.p (.str (f i_1))] else [.p (.str s)]))⟩), (225, ⟨false, 1, 1, (fun i_1 => [.p (.str s)])⟩)] [257] 1 (if (i < k) then [.p (.str (f i))] else [.p (.str s)])).1 : List AV) = [.p (.str (f i))]))))]) := by kernel_rfl
theorem jNe (v : T_IntS) (k : Nat) (f : Nat → ByteArray) (s : ByteArray) :
    pathOb Try.prog Try.f123 0 [.reg [oT], .dec false, .reg [oT, ⟨true, (some ⟨[], [], [], 1, [], .p (.str s)⟩), none⟩, oT]] [.code (cAt (bodyOf Try.f123) [1, 1, 0, 1, 0, 0]), .inLoop (cAt (bodyOf Try.f123) [1, 1, 0, 1, 0, 0]), .inBlock 0, .code (cAt (bodyOf Try.f123) [1, 1, 1])] (SNm v k f) [] 1 [] (.p (.str s)) =
    some [((decide ((↑k : Int) < (↑v.1 : Int))) = false),
  (AN 1),
  ((k : Nat) ≤ k),
  Con Try.prog 121 0 [] [.p (.seq true 1 k (fun i => [.str (f i)])), .p (.str (ByteArray.mk #[44]))] [] (.p (.str s)),
  (s = s)] := by kernel_rfl
theorem jLn (v : T_IntS) :
    pathOb Try.prog Try.f100 0 [.reg [oT], .reg [oT, oT, oT], .dec true, .reg [oT]] [.code (bodyOf Try.f100)] (start Try.f100 [] 0 [inL v]) [] 1 [] (.p (.str sNone)) =
    some [(((↑v.1 : Int) == 0) = true),
  (ByteArray.mk #[110, 111, 110, 101] = sNone)] := by kernel_rfl
theorem jLy (v : T_IntS) (s : ByteArray) :
    pathOb Try.prog Try.f100 0 [.reg [oT], .reg [oT, oT, oT], .dec false, .reg [oT, ⟨true, (some ⟨[], [], [], 1, [], .p (.str s)⟩), none⟩, oT]] [.code (bodyOf Try.f100)] (start Try.f100 [] 0 [inL v]) [] 1 [] (.p (.str s)) =
    some [(((↑v.1 : Int) == 0) = false),
  Con Try.prog 123 0 [] [.p (.seq true 1 v.1 (fun i => [.int .i64 (v.2 i)]))] [] (.p (.str s)),
  (s = s)] := by kernel_rfl
theorem jMz (v : T_IntS) :
    pieceOb Try.prog 0 [.reg [oT], .reg [oT], .reg [oT], .head] [.code (bodyOf Try.f90)] (start Try.f90 [] 0 [inL v]) [] 1 (SNl v 0 sE) =
    some ([.code (cAt (bodyOf Try.f90) [1, 1, 0, 1, 0, 0]), .inLoop (cAt (bodyOf Try.f90) [1, 1, 0, 1, 0, 0]), .inBlock 0, .code (cAt (bodyOf Try.f90) [1, 1, 1])], [(AN v.1),
  (AP v.1 (fun i => [.int .i64 (v.2 i)])),
  (ByteArray.mk #[] = sE),
  ((0 : Int) = (↑0 : Int))]) := by kernel_rfl
theorem jMt (v : T_IntS) (k : Nat) (s t : ByteArray) :
    pieceOb Try.prog 0 [.reg [oT, oT, oT, oT], .dec true, .reg [oT, oT], .dec true, .reg [oT, oT, oT], .reg [oT, oT, oT, oT, oT, ⟨true, (some ⟨[], [], [], 1, [], .p (.str t)⟩), none⟩, oT, oT], .reg [oT, oT, oT], .head] [.code (cAt (bodyOf Try.f90) [1, 1, 0, 1, 0, 0]), .inLoop (cAt (bodyOf Try.f90) [1, 1, 0, 1, 0, 0]), .inBlock 0, .code (cAt (bodyOf Try.f90) [1, 1, 1])] (SNl v k s) [] 1 (SNl v (k + 1) ((s ++ sC) ++ t)) =
    some ([.code (cAt (bodyOf Try.f90) [1, 1, 0, 1, 0, 0]), .inLoop (cAt (bodyOf Try.f90) [1, 1, 0, 1, 0, 0]), .inBlock 0, .code (cAt (bodyOf Try.f90) [1, 1, 1])], [((decide ((↑k : Int) < (↑v.1 : Int))) = true),
  ((decide ((↑k : Int) > 0)) = true),
  (((s.size + (ByteArray.mk #[44]).size) : Nat) ≤ 9223372036854775807),
  ((0 : Int) ≤ (↑k : Int)),
  (((↑k : Int) : Int) < (↑v.1 : Int)),
  Con Try.prog 58 0 [] [.p (.int .i64 (v.2 k))] [] (.p (.str t)),
  ((((s ++ ByteArray.mk #[44]).size + t.size) : Nat) ≤ 9223372036854775807),
  (((-9223372036854775808) : Int) ≤ ((↑k : Int) + 1)),
  ((((↑k : Int) + 1) : Int) ≤ 9223372036854775807),
  (AN v.1),
  (AP v.1 (fun i => [.int .i64 (v.2 i)])),
  (s ++ ByteArray.mk #[44] ++ t = s ++ sC ++ t),
  ((((↑k : Int) + 1) : Int) = (↑(k + 1) : Int))]) := by kernel_rfl
theorem jMf (v : T_IntS) (k : Nat) (s t : ByteArray) :
    pieceOb Try.prog 0 [.reg [oT, oT, oT, oT], .dec true, .reg [oT, oT], .dec false, .reg [oT, oT, oT, oT, oT, ⟨true, (some ⟨[], [], [], 1, [], .p (.str t)⟩), none⟩, oT, oT], .reg [oT, oT, oT], .head] [.code (cAt (bodyOf Try.f90) [1, 1, 0, 1, 0, 0]), .inLoop (cAt (bodyOf Try.f90) [1, 1, 0, 1, 0, 0]), .inBlock 0, .code (cAt (bodyOf Try.f90) [1, 1, 1])] (SNl v k s) [] 1 (SNl v (k + 1) (s ++ t)) =
    some ([.code (cAt (bodyOf Try.f90) [1, 1, 0, 1, 0, 0]), .inLoop (cAt (bodyOf Try.f90) [1, 1, 0, 1, 0, 0]), .inBlock 0, .code (cAt (bodyOf Try.f90) [1, 1, 1])], [((decide ((↑k : Int) < (↑v.1 : Int))) = true),
  ((decide ((↑k : Int) > 0)) = false),
  ((0 : Int) ≤ (↑k : Int)),
  (((↑k : Int) : Int) < (↑v.1 : Int)),
  Con Try.prog 58 0 [] [.p (.int .i64 (v.2 k))] [] (.p (.str t)),
  (((s.size + t.size) : Nat) ≤ 9223372036854775807),
  (((-9223372036854775808) : Int) ≤ ((↑k : Int) + 1)),
  ((((↑k : Int) + 1) : Int) ≤ 9223372036854775807),
  (AN v.1),
  (AP v.1 (fun i => [.int .i64 (v.2 i)])),
  (s ++ t = s ++ t),
  ((((↑k : Int) + 1) : Int) = (↑(k + 1) : Int))]) := by kernel_rfl
theorem jMn (v : T_IntS) (k : Nat) (s : ByteArray) :
    pathOb Try.prog Try.f90 0 [.reg [oT, oT, oT, oT], .dec false, .reg [oT, oT], .dec true, .reg [oT]] [.code (cAt (bodyOf Try.f90) [1, 1, 0, 1, 0, 0]), .inLoop (cAt (bodyOf Try.f90) [1, 1, 0, 1, 0, 0]), .inBlock 0, .code (cAt (bodyOf Try.f90) [1, 1, 1])] (SNl v k s) [] 1 [] (.p (.str sNone)) =
    some [((decide ((↑k : Int) < (↑v.1 : Int))) = false),
  ((s.toList == (ByteArray.mk #[]).toList) = true),
  (ByteArray.mk #[110, 111, 110, 101] = sNone)] := by kernel_rfl
theorem jMe (v : T_IntS) (k : Nat) (s : ByteArray) :
    pathOb Try.prog Try.f90 0 [.reg [oT, oT, oT, oT], .dec false, .reg [oT, oT], .dec false, .reg [oT, oT]] [.code (cAt (bodyOf Try.f90) [1, 1, 0, 1, 0, 0]), .inLoop (cAt (bodyOf Try.f90) [1, 1, 0, 1, 0, 0]), .inBlock 0, .code (cAt (bodyOf Try.f90) [1, 1, 1])] (SNl v k s) [] 1 [] (.p (.str s)) =
    some [((decide ((↑k : Int) < (↑v.1 : Int))) = false),
  ((s.toList == (ByteArray.mk #[]).toList) = false),
  (s = s)] := by kernel_rfl
end Go.Proofs.Ytffnfeefjdmifaa.Mach
