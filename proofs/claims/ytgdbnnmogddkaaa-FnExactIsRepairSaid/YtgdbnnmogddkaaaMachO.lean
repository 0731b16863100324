/- The abstract machine: regions, in the order of the text and in whatever order. Conditions: as in MachD. -/
import Derived.Test.YtgdbnnmogddkaaaMachN
namespace Go.Proofs.Ytgdbnnmogddkaaa.Mach
open Go
set_option linter.unusedVariables false
set_option linter.unusedSimpArgs false

section
variable {P : Program} {ops : Array Oper}

theorem unC_ok {w : World} {β : Nat → Option Addr} {own : Bool → Nat → Prop} {v : AV} {x : Value} (h : VR w β own v x) (hp : ∀ p ∈ (unC v).2 true, p) : VR w β own (unC v).1 x := by
  unfold unC at *
  split
  · cases h with
    | cnd _ _ _ h _ => exact h (hp _ (by simp))
  · exact h

theorem gU_ok {w : World} {β : Nat → Option Addr} {own : Bool → Nat → Prop} {op : Op} {t : Nat} {v : AV} {x : Value} (h : VR w β own v x) (hp : ∀ p ∈ (gU op t v).2, p) : VR w β own (gU op t v).1 x := by
  unfold gU at hp ⊢
  split at hp
  · rename_i hs; rw [if_pos hs]; exact unC_ok h hp
  · rename_i hs; rw [if_neg hs]; exact h

theorem guard_ok {w : World} {β : Nat → Option Addr} {own : Bool → Nat → Prop} {env : List AV} {a : Act} (hev : ∀ t, VR w β own (env.getD t anyA) (a.tmps.getD t undef)) {j : Nat} {want g : Bool}
    (h : guardB (dstV ops env j) want = some g) : (yielded ops a.tmps j == some want) = g := by
  unfold dstV at h
  unfold yielded
  cases hd : (ops[j]?).bind (·.dst) with
  | none => rw [hd] at h; simp [guardB] at h
  | some d =>
    rw [hd] at h
    simp only at h
    have hv := hev d
    simp only [Option.bind_some]
    have key : ∀ b : Bool, a.tmps.getD d undef = .bool b → a.tmps[d]? = some (.bool b) := by
      intro b hb
      by_cases hlt : d < a.tmps.size
      · rw [Array.getElem?_eq_getElem hlt]
        simp only [Array.getD_eq_getD_getElem?, Array.getElem?_eq_getElem hlt, Option.getD_some] at hb
        rw [hb]
      · simp only [Array.getD_eq_getD_getElem?, Array.getElem?_eq_none (Nat.le_of_not_lt hlt), Option.getD_none] at hb
        cases hb
    unfold guardB at h
    split at h
    · rename_i b hb
      rw [hb] at hv
      generalize hx : a.tmps.getD d undef = x at hv
      cases hv with
      | p _ _ hp =>
        cases hp
        rw [key b hx]
        simp only [Option.some.injEq] at h
        rw [← h]
        cases want <;> cases b <;> rfl
    · rename_i g0 b hb
      rw [hb] at hv
      generalize hx : a.tmps.getD d undef = x at hv
      cases hv with
      | cnd _ _ _ h1 h2 =>
        simp only [Option.some.injEq] at h
        cases g0 with
        | true =>
          have := h1 rfl
          cases this with
          | p _ _ hp =>
            cases hp
            rw [key b hx]
            rw [← h]
            cases want <;> cases b <;> rfl
        | false =>
          have := h2 rfl
          subst this
          rw [← h]
          have : ∀ b, a.tmps[d]? ≠ some (.bool b) := by
            intro b hb'
            rw [Array.getD_eq_getD_getElem?, hb'] at hx
            cases hx
          cases ht : a.tmps[d]? with
          | none => rfl
          | some y =>
            cases y <;> first | rfl | exact absurd ht (this _)
    · cases h

def dstOf (ops : Array Oper) (i : Nat) : Option Tmp := (ops[i]?).bind (·.dst)

/-- One operation, whatever number it bears. -/
theorem stepOp_ok {c : Cx} {dom : Nat → Prop} {env : List AV} {H : Hp} {a : Act} {w : World} {β : Nat → Option Addr} {base i : Nat} {sc : OpS} {rd : List Nat} {e : Eff} (h : Rel c dom env H a w β)
    (hid : ∀ k, base + 32 * i ≤ k → k < base + 32 * i + 32 → ¬ dom k) (hn : c.n ≤ base) (he : stepOp P ops base env H i sc = some (rd, e)) (hob : ∀ p ∈ e.ob, p)
    {K : Act → World → Prop} {Q : Exit → Act → World → Prop}
    (hK : ∀ a' w' β', Rel c (fun k => dom k ∨ (base + 32 * i ≤ k ∧ k < base + 32 * i + 32)) (putE env (dstOf ops i) e.v) (happ H e.wr) a' w' β' → K a' w') :
    wpOp P ops Q i K a w := by
  unfold stepOp at he
  unfold wpOp
  cases ho : ops[i]? with
  | none => rw [ho] at he; cases he
  | some o =>
    have hdst : dstOf ops i = o.dst := by simp [dstOf, ho]
    rw [hdst] at hK
    rw [ho] at he
    simp only at he ⊢
    cases hg : o.guard with
    | none =>
      rw [hg] at he
      simp only at he
      have hw : Region.wanted o (yielded ops a.tmps) = true := by simp [Region.wanted, hg]
      rw [hw]
      simp only [if_true]
      split at he
      case h_2 => cases he
      rename_i e' hgo
      split at he
      case isFalse => cases he
      rename_i hwr
      simp only [Option.some.injEq, Prod.mk.injEq] at he
      obtain ⟨_, rfl⟩ := he
      exact .inl (go_ok h hid (by omega) (locOf_ok H _) (ρOf_ok _ (fun t _ => h.ev t)) hgo hwr hob (fun x w' β' _ _ hr => hK _ _ _ hr))
    | some gw =>
      obtain ⟨j, want⟩ := gw
      rw [hg] at he
      simp only at he
      split at he
      case h_1 => cases he
      rename_i g hgb
      have hgd := guard_ok h.ev hgb
      have hw : Region.wanted o (yielded ops a.tmps) = g := by simp only [Region.wanted, hg]; exact hgd
      rw [hw]
      split at he
      · split at he
        case h_2 => cases he
        rename_i e' hgo
        split at he
        case isFalse => cases he
        rename_i hwr
        simp only [Option.some.injEq, Prod.mk.injEq] at he
        obtain ⟨_, rfl⟩ := he
        have hgt : g = true := hob _ (by simp)
        subst hgt
        simp only [if_true]
        exact .inl (go_ok h hid (by omega) (locOf_ok H _) (ρOf_ok _ (fun t _ => h.ev t)) hgo hwr (fun p hp => hob p (by simp [hp])) (fun x w' β' _ _ hr => hK _ _ _ hr))
      · simp only [Option.some.injEq, Prod.mk.injEq] at he
        obtain ⟨_, rfl⟩ := he
        have hgf : g = false := hob _ (by simp)
        subst hgf
        simp only [Bool.false_eq_true, if_false]
        refine hK _ _ β ?_
        refine h.step (Placed.same c.X w β H (base + 32 * i) h.hr h.sep).called (by omega) (fun k hk => .inl hk) o.dst (.any _) (fun k h1 h2 => ?_)
        cases hb : β k with
        | none => rfl
        | some a => exact absurd (h.dom k (.inl (by rw [hb]; simp))) (hid k h1 h2)
      split at he
      case h_2 => cases he
      rename_i e' hgo
      split at he
      case isFalse => cases he
      rename_i hwr
      simp only [Option.some.injEq, Prod.mk.injEq] at he
      obtain ⟨_, rfl⟩ := he
      have hnil : e'.wr = [] := by simpa using hwr
      cases g with
      | true =>
        simp only [if_true]
        have hob' : ∀ p ∈ ((opTmps o.op).map fun t => (gU o.op t (env.getD t anyA)).2).flatten ++ e'.ob, p :=
          fun p hp => hob (true = true → p) (List.mem_map.2 ⟨p, hp, rfl⟩) rfl
        refine .inl (go_ok h hid (by omega) (locOf_ok H _) (ρOf_ok _ (fun t ht => gU_ok (h.ev t) (fun p hp => hob' p (List.mem_append_left _ (List.mem_flatten.2 ⟨_, List.mem_map.2 ⟨t, ht, rfl⟩, hp⟩))))) hgo
          (by rw [hnil]; rfl) (fun p hp => hob' p (List.mem_append_right _ hp)) (fun x w' β' hc hv hr => ?_))
        refine hK _ _ β' ?_
        rw [hnil] at hc hv
        have hkeys : ∀ k, (happ H []).lookup k ≠ none → H.lookup k ≠ none ∨ (base + 32 * i ≤ k ∧ k < base + 32 * i + 32) := fun k hk => .inl hk
        refine h.step hc (by omega) hkeys o.dst (.cnd _ _ _ (fun _ => hv) (fun h => by cases h)) (fun k h1 h2 => ?_)
        cases hb : β k with
        | none => rfl
        | some a => exact absurd (h.dom k (.inl (by rw [hb]; simp))) (hid k h1 h2)
      | false =>
        simp only [Bool.false_eq_true, if_false]
        refine hK _ _ β ?_
        refine h.step (Placed.same c.X w β H (base + 32 * i) h.hr h.sep).called (by omega) (fun k hk => .inl hk) o.dst (.cnd _ _ _ (fun h => by cases h) (fun _ => rfl)) (fun k h1 h2 => ?_)
        cases hb : β k with
        | none => rfl
        | some a => exact absurd (h.dom k (.inl (by rw [hb]; simp))) (hid k h1 h2)

/-- The operations in the order of the text: what is left, and what each looked at and did. -/
def runTr (P : Program) (ops : Array Oper) (base : Nat) : List OpS → Nat → List AV → Hp → Option (List AV × Hp × List (List Nat × Eff))
  | [], i, env, H => if i == ops.size then some (env, H, []) else none
  | s :: r, i, env, H =>
    match stepOp P ops base env H i s with
    | none => none
    | some x =>
      match runTr P ops base r (i + 1) (putE env (dstOf ops i) x.2.v) (happ H x.2.wr) with
      | none => none
      | some y => some (y.1, y.2.1, x :: y.2.2)

def obsOf (tr : List (List Nat × Eff)) : List Prop := (tr.map fun x => x.2.ob).flatten

theorem Rel.dom_mono {c : Cx} {dom dom' : Nat → Prop} {env : List AV} {H : Hp} {a : Act} {w : World} {β : Nat → Option Addr} (h : Rel c dom env H a w β) (hd : ∀ k, dom k → dom' k) : Rel c dom' env H a w β :=
  { h with dom := fun k hk => hd k (h.dom k hk) }

theorem runTr_len {base : Nat} : ∀ (ss : List OpS) (i : Nat) (env : List AV) (H : Hp) {y : List AV × Hp × List (List Nat × Eff)}, runTr P ops base ss i env H = some y → i + ss.length = ops.size
  | [], i, env, H, y, hr => by
    simp only [runTr] at hr
    split at hr
    case isFalse => cases hr
    rename_i hi
    have hi : i = ops.size := by simpa using hi
    simp [hi]
  | s :: r, i, env, H, y, hr => by
    simp only [runTr] at hr
    split at hr
    case h_1 => cases hr
    rename_i x hx
    split at hr
    case h_1 => cases hr
    rename_i y hy
    have := runTr_len r (i + 1) _ _ hy
    simp only [List.length_cons]
    omega

/-- A region in the order of the text. -/
theorem seq_ok {c : Cx} {base : Nat} {Q : Exit → Act → World → Prop} (hn : c.n ≤ base) : ∀ (ss : List OpS) (i : Nat) (env : List AV) (H : Hp) (a : Act) (w : World) (β : Nat → Option Addr) (env' : List AV) (H' : Hp) (tr : List (List Nat × Eff)),
    runTr P ops base ss i env H = some (env', H', tr) → (∀ p ∈ obsOf tr, p) → Rel c (fun k => k < base + 32 * i) env H a w β →
    (∀ a' w' β', Rel c (fun k => k < base + 32 * ops.size) env' H' a' w' β' → Q .normal a' w') → wpOps P ops Q (List.range' i ss.length) a w
  | [], i, env, H, a, w, β, env', H', tr, hr, _, h, hQ => by
    have hi := runTr_len [] i env H hr
    simp only [runTr] at hr
    split at hr
    case isFalse => cases hr
    simp only [Option.some.injEq, Prod.mk.injEq] at hr
    obtain ⟨rfl, rfl, rfl⟩ := hr
    simp only [List.length_nil, Nat.add_zero] at hi
    subst hi
    exact hQ _ _ _ h
  | s :: r, i, env, H, a, w, β, env', H', tr, hr, hob, h, hQ => by
    simp only [runTr] at hr
    split at hr
    case h_1 => cases hr
    rename_i x hx
    split at hr
    case h_1 => cases hr
    rename_i y hy
    simp only [Option.some.injEq, Prod.mk.injEq] at hr
    obtain ⟨rfl, rfl, rfl⟩ := hr
    have hob1 : ∀ p ∈ x.2.ob, p := fun p hp => hob p (by simp [obsOf, hp])
    have hob2 : ∀ p ∈ obsOf y.2.2, p := fun p hp => hob p (by simp only [obsOf, List.map_cons, List.flatten_cons]; exact List.mem_append_right _ hp)
    simp only [List.length_cons, List.range'_succ]
    rw [wpOps_cons]
    exact stepOp_ok h (fun k h1 h2 => by omega) hn hx hob1 (fun a' w' β' hr => seq_ok hn r (i + 1) _ _ a' w' β' y.1 y.2.1 y.2.2 hy hob2 (hr.dom_mono (fun k hk => by omega)) hQ)

/-! ### In whatever order -/

def keysOf (wr : List (Nat × Option Ob)) : List Nat := wr.map (·.1)

def disjB (a b : List Nat) : Bool := a.all fun x => !(b.elem x)

theorem disjB_ok {a b : List Nat} (h : disjB a b = true) : ∀ x ∈ a, x ∉ b := by
  intro x hx
  simp only [disjB, List.all_eq_true] at h
  simpa using h x hx

def looks (ops : Array Oper) (o : Oper) : List Nat :=
  opTmps o.op ++ (match o.guard with | some (g, _) => (dstOf ops g).toList | none => [])

def apartB (ops : Array Oper) (x y : Oper) : Bool :=
  (match x.dst with | some d => !((looks ops y).elem d) && !(y.dst == some d) | none => true) &&
  (match y.dst with | some d => !((looks ops x).elem d) | none => true)

/-- Two operations that may come up in either order do not meet. -/
def apartAt (ops : Array Oper) (tr : List (List Nat × Eff)) (i j : Nat) : Bool :=
  match ops[i]?, ops[j]?, tr[i]?, tr[j]? with
  | some oi, some oj, some ti, some tj =>
    apartB ops oi oj && disjB (keysOf ti.2.wr) tj.1 && disjB (keysOf ti.2.wr) (keysOf tj.2.wr) && disjB (keysOf tj.2.wr) ti.1
  | _, _, _, _ => false

def waits (ops : Array Oper) (i j : Nat) : Bool :=
  match ops[j]? with
  | some oj => oj.after.any fun e => Region.binds .any e && e.on == i
  | none => false

def chk (ops : Array Oper) (tr : List (List Nat × Eff)) : Bool :=
  (List.range ops.size).all fun j =>
    (match ops[j]? with | some oj => oj.after.all fun e => !Region.binds .any e || Nat.blt e.on j | none => false) &&
    (List.range j).all fun i => waits ops i j || apartAt ops tr i j

theorem happ_other : ∀ (wr : List (Nat × Option Ob)) (H : Hp) (k : Nat), k ∉ keysOf wr → (happ H wr).lookup k = H.lookup k
  | [], H, k, _ => rfl
  | (j, x) :: r, H, k, h => by
    simp only [keysOf, List.map_cons, List.mem_cons, not_or] at h
    cases x with
    | none => simp only [happ]; rw [happ_other r _ k h.2, lookup_hdel, if_neg h.1]
    | some ob => simp only [happ]; rw [happ_other r _ k h.2, lookup_hput, if_neg h.1]

theorem happ_at : ∀ (wr : List (Nat × Option Ob)) (H H2 : Hp) (k : Nat), (k ∈ keysOf wr ∨ H.lookup k = H2.lookup k) → (happ H wr).lookup k = (happ H2 wr).lookup k
  | [], H, H2, k, h => by
    rcases h with h | h
    · simp [keysOf] at h
    · exact h
  | (j, x) :: r, H, H2, k, h => by
    cases x with
    | none =>
      simp only [happ]
      refine happ_at r _ _ k ?_
      rw [lookup_hdel, lookup_hdel]
      by_cases hk : k = j
      · exact .inr (by simp [hk])
      · rcases h with h | h
        · simp only [keysOf, List.map_cons, List.mem_cons] at h
          exact .inl (h.resolve_left hk)
        · exact .inr (by simp [hk, h])
    | some ob =>
      simp only [happ]
      refine happ_at r _ _ k ?_
      rw [lookup_hput, lookup_hput]
      by_cases hk : k = j
      · exact .inr (by simp [hk])
      · rcases h with h | h
        · simp only [keysOf, List.map_cons, List.mem_cons] at h
          exact .inl (h.resolve_left hk)
        · exact .inr (by simp [hk, h])

def Heq (H H2 : Hp) : Prop := ∀ k, H.lookup k = H2.lookup k

theorem happ_congr {H H2 : Hp} (h : Heq H H2) (wr : List (Nat × Option Ob)) : Heq (happ H wr) (happ H2 wr) := fun k => happ_at wr H H2 k (.inr (h k))

theorem happ_comm {H : Hp} {a b : List (Nat × Option Ob)} (h : disjB (keysOf a) (keysOf b) = true) : Heq (happ (happ H a) b) (happ (happ H b) a) := by
  intro k
  have hd := disjB_ok h
  by_cases hka : k ∈ keysOf a
  · rw [happ_other b _ k (hd k hka)]
    exact happ_at a _ _ k (.inl hka)
  · rw [happ_other a _ k hka]
    exact happ_at b _ _ k (.inr (happ_other a H k hka))

/-- What an operation comes to hangs on what it looks at alone. -/
theorem stepOp_congr {base : Nat} {env env2 : List AV} {H H2 : Hp} {j : Nat} {oj : Oper} {sc : OpS} {rd : List Nat} {e : Eff} (hj : ops[j]? = some oj) (hl : ∀ t ∈ looks ops oj, env.getD t anyA = env2.getD t anyA)
    (h : stepOp P ops base env H j sc = some (rd, e)) (hH : ∀ k ∈ rd, H.lookup k = H2.lookup k) : stepOp P ops base env2 H2 j sc = some (rd, e) := by
  have hp : pairsOf env (opTmps oj.op) = pairsOf env2 (opTmps oj.op) := by
    unfold pairsOf
    refine List.map_congr_left (fun t ht => ?_)
    rw [hl t (List.mem_append_left _ ht)]
  have hu : pairsU env oj.op = pairsU env2 oj.op := by
    unfold pairsU
    refine List.map_congr_left (fun t ht => ?_)
    rw [hl t (List.mem_append_left _ ht)]
  have hc : (opTmps oj.op).map (fun t => (gU oj.op t (env.getD t anyA)).2) = (opTmps oj.op).map (fun t => (gU oj.op t (env2.getD t anyA)).2) :=
    List.map_congr_left (fun t ht => by rw [hl t (List.mem_append_left _ ht)])
  unfold stepOp at h ⊢
  rw [hj] at h ⊢
  simp only at h ⊢
  cases hg : oj.guard with
  | none =>
    rw [hg] at h
    simp only at h ⊢
    rw [hp] at h
    split at h
    case h_2 => cases h
    rename_i e' hgo
    split at h
    case isFalse => cases h
    rename_i hwr
    simp only [Option.some.injEq, Prod.mk.injEq] at h
    obtain ⟨rfl, rfl⟩ := h
    rw [← locOf_congr _ hH, hgo]
    simp only
    rw [if_pos hwr]
  | some gw =>
    obtain ⟨g, want⟩ := gw
    rw [hg] at h
    simp only at h ⊢
    have hd : dstV ops env g = dstV ops env2 g := by
      unfold dstV
      cases hd : (ops[g]?).bind (·.dst) with
      | none => rfl
      | some d =>
        simp only
        refine hl d ?_
        unfold looks
        rw [hg]
        refine List.mem_append_right _ ?_
        simp only [dstOf]
        rw [hd]
        simp
    rw [hd, hu, hc] at h
    cases hgb : guardB (dstV ops env2 g) want with
    | none => rw [hgb] at h; cases h
    | some gb => ?_
    rw [hgb] at h
    simp only at h ⊢
    cases hsg : sc.gd with
    | some bb =>
      rw [hsg] at h
      cases bb with
      | false => exact h
      | true =>
        simp only at h ⊢
        rw [hp] at h
        split at h
        case h_2 => cases h
        rename_i e' hgo
        split at h
        case isFalse => cases h
        rename_i hwr
        simp only [Option.some.injEq, Prod.mk.injEq] at h
        obtain ⟨rfl, rfl⟩ := h
        rw [← locOf_congr _ hH, hgo]
        simp only
        rw [if_pos hwr]
    | none => ?_
    rw [hsg] at h
    simp only at h ⊢
    split at h
    case h_2 => cases h
    rename_i e' hgo
    split at h
    case isFalse => cases h
    rename_i hwr
    simp only [Option.some.injEq, Prod.mk.injEq] at h
    obtain ⟨rfl, rfl⟩ := h
    rw [← locOf_congr _ hH, hgo]
    simp only
    rw [if_pos hwr]

def trOf (tr : List (List Nat × Eff)) (i : Nat) : List Nat × Eff := tr.getD i ([], ⟨anyA, [], []⟩)

/-- From here on, in whatever order, each operation comes to what it came to in the order of the text. -/
def AAny (P : Program) (ops : Array Oper) (base : Nat) (ss : List OpS) (tr : List (List Nat × Eff)) (envN : List AV) (HN : Hp) : Nat → Array Bool → List AV → Hp → Prop
  | 0, listed, env, H => Region.ready .any ops listed = [] ∧ env = envN ∧ Heq H HN
  | fuel + 1, listed, env, H => (Region.ready .any ops listed = [] → env = envN ∧ Heq H HN) ∧ ∀ i ∈ Region.ready .any ops listed,
      stepOp P ops base env H i (ss.getD i ⟨true, none, none⟩) = some (trOf tr i) ∧
      AAny P ops base ss tr envN HN fuel (listed.setIfInBounds i true) (putE env (dstOf ops i) (trOf tr i).2.v) (happ H (trOf tr i).2.wr)

section
variable {base : Nat} {ss : List OpS} {tr : List (List Nat × Eff)} {envN : List AV} {HN : Hp}

theorem AAny_congr : ∀ (fuel : Nat) (listed : Array Bool) (env : List AV) (H H2 : Hp), Heq H H2 → AAny P ops base ss tr envN HN fuel listed env H → AAny P ops base ss tr envN HN fuel listed env H2
  | 0, _, _, _, _, hq, h => ⟨h.1, h.2.1, fun k => (hq k).symm.trans (h.2.2 k)⟩
  | fuel + 1, listed, env, H, H2, hq, h => by
    refine ⟨fun h0 => ⟨(h.1 h0).1, fun k => (hq k).symm.trans ((h.1 h0).2 k)⟩, fun i hi => ?_⟩
    obtain ⟨h1, h2⟩ := h.2 i hi
    obtain ⟨_, o, ho, _⟩ := mem_ready.1 hi
    exact ⟨stepOp_congr ho (fun _ _ => rfl) h1 (fun k _ => hq k), AAny_congr fuel _ _ _ _ (happ_congr hq _) h2⟩

theorem putE_get {env : List AV} {dst : Option Tmp} {v : AV} {t : Nat} (h : ∀ d, dst = some d → d ≠ t) : (putE env dst v).getD t anyA = env.getD t anyA := by
  cases dst with
  | none => rfl
  | some d => simp [putE, List.getD_eq_getElem?_getD, List.getElem?_set_ne (h d rfl)]

theorem putE_comm {env : List AV} {x y : Option Tmp} {u v : AV} (h : ∀ d, x = some d → y ≠ some d) : putE (putE env x u) y v = putE (putE env y v) x u := by
  cases x with
  | none => rfl
  | some d =>
    cases y with
    | none => rfl
    | some e =>
      have hne : d ≠ e := fun he => h d rfl (by rw [he])
      simp only [putE]
      exact List.set_comm _ _ hne

theorem apartB_ok {x y : Oper} (h : apartB ops x y = true) : (∀ d, x.dst = some d → d ∉ looks ops y) ∧ (∀ d, x.dst = some d → y.dst ≠ some d) ∧ (∀ d, y.dst = some d → d ∉ looks ops x) := by
  refine ⟨fun d hd => ?_, fun d hd => ?_, fun d hd => ?_⟩ <;> simp [apartB, hd] at h
  · exact h.1.1
  · exact h.1.2
  · exact h.2

/-- An operation that may come up now may be taken first. -/
theorem AAny_first {i : Nat} : ∀ (fuel : Nat) (listed : Array Bool) (env : List AV) (H : Hp),
    (∀ j, j < ops.size → j ≠ i → listed.getD j true = false → waits ops i j = false → apartAt ops tr i j = true) → i ∈ Region.ready .any ops listed →
    stepOp P ops base env H i (ss.getD i ⟨true, none, none⟩) = some (trOf tr i) →
    AAny P ops base ss tr envN HN fuel (listed.setIfInBounds i true) (putE env (dstOf ops i) (trOf tr i).2.v) (happ H (trOf tr i).2.wr) →
    AAny P ops base ss tr envN HN (fuel + 1) listed env H := by
  intro fuel
  induction fuel with
  | zero =>
    intro listed env H _ hr hs h
    refine ⟨fun h0 => (by rw [h0] at hr; cases hr), fun j hj => ?_⟩
    by_cases hji : j = i
    · subst hji; exact ⟨hs, h⟩
    · have := ready_mono hj hji
      rw [h.1] at this
      cases this
  | succ fuel ih =>
    intro listed env H hap hr hs h
    refine ⟨fun h0 => (by rw [h0] at hr; cases hr), fun j hj => ?_⟩
    by_cases hji : j = i
    · subst hji; exact ⟨hs, h⟩
    obtain ⟨h1, h2⟩ := h.2 j (ready_mono hj hji)
    obtain ⟨hjun, oj, hoj, hall⟩ := mem_ready.1 hj
    obtain ⟨hiun, oi, hoi, _⟩ := mem_ready.1 hr
    have hjlt : j < ops.size := (Array.getElem?_eq_some_iff.1 hoj).1
    have hnot : waits ops i j = false := by
      unfold waits
      rw [hoj]
      simp only
      rw [Array.any_eq_false]
      intro q hq
      simp only [Bool.and_eq_true, beq_iff_eq, not_and]
      intro hb he
      have := hall _ (Array.getElem_mem hq) hb
      rw [he] at this
      rcases Nat.lt_or_ge i listed.size with h' | h'
      · simp [h'] at hiun this; rw [hiun] at this; cases this
      · simp [Array.getElem?_eq_none h'] at this
    have hap1 := hap j hjlt hji hjun hnot
    unfold apartAt at hap1
    rw [hoi, hoj] at hap1
    cases hti : tr[i]? with
    | none => rw [hti] at hap1; simp at hap1
    | some ti =>
      cases htj : tr[j]? with
      | none => rw [hti, htj] at hap1; simp at hap1
      | some tj =>
        rw [hti, htj] at hap1
        simp only [Bool.and_eq_true] at hap1
        obtain ⟨⟨⟨ha, hd1⟩, hd2⟩, hd3⟩ := hap1
        obtain ⟨k1, k2, k3⟩ := apartB_ok ha
        have ei : trOf tr i = ti := by simp [trOf, List.getD_eq_getElem?_getD, hti]
        have ej : trOf tr j = tj := by simp [trOf, List.getD_eq_getElem?_getD, htj]
        have di : dstOf ops i = oi.dst := by simp [dstOf, hoi]
        have dj : dstOf ops j = oj.dst := by simp [dstOf, hoj]
        have hsj : stepOp P ops base env H j (ss.getD j ⟨true, none, none⟩) = some (trOf tr j) := by
          rw [ej] at h1 ⊢
          refine stepOp_congr hoj (fun t ht => ?_) h1 (fun k hk => ?_)
          · exact putE_get (fun d hd he => k1 d (by rw [← di]; exact hd) (he ▸ ht))
          · exact happ_other _ _ _ (by rw [ei]; exact fun hk' => disjB_ok hd1 k hk' hk)
        have hsi : stepOp P ops base (putE env (dstOf ops j) (trOf tr j).2.v) (happ H (trOf tr j).2.wr) i (ss.getD i ⟨true, none, none⟩) = some (trOf tr i) := by
          rw [ei] at hs ⊢
          refine stepOp_congr hoi (fun t ht => ?_) hs (fun k hk => ?_)
          · exact (putE_get (fun d hd he => k3 d (by rw [← dj]; exact hd) (he ▸ ht))).symm
          · exact (happ_other _ _ _ (by rw [ej]; exact fun hk' => disjB_ok hd3 k hk' hk)).symm
        refine ⟨hsj, ih (listed.setIfInBounds j true) _ _ (fun k hk hki hun hw => hap k hk hki ?_ hw) (ready_mono hr (Ne.symm hji)) hsi ?_⟩
        · by_cases hjk : j = k
          · subst hjk; exact hjun
          · rw [getD_set_ne true hjk] at hun; exact hun
        · rw [Array.setIfInBounds_comm _ _ hji]
          rw [putE_comm (x := dstOf ops j) (y := dstOf ops i) (fun d hd he => k2 d (by rw [← di]; exact he) (by rw [← dj]; exact hd))]
          refine AAny_congr _ _ _ _ _ (happ_comm ?_) h2
          rw [ei, ej]
          exact hd2

end

end
end Go.Proofs.Ytgdbnnmogddkaaa.Mach
