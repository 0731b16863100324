/- The abstract machine: states, and one operation of a region. Conditions: as in MachD. -/
import Derived.Test.YtgdbnnmogddkaaaMachM
namespace Go.Proofs.Ytgdbnnmogddkaaa.Mach
open Go
set_option linter.unusedVariables false
set_option linter.unusedSimpArgs false

/-- A call's beginning: how many objects it was handed, what it must leave alone, its first world, their places. -/
structure Cx where
  n : Nat
  X : Nat → Prop
  w0 : World
  β0 : Nat → Option Addr
  H0 : Hp

structure Rel (c : Cx) (dom : Nat → Prop) (env : List AV) (H : Hp) (a : Act) (w : World) (β : Nat → Option Addr) : Prop where
  hr : HR w β (ow c.X β H) H
  sep : Sep β H
  ev : ∀ t, VR w β (ow c.X β H) (env.getD t anyA) (a.tmps.getD t undef)
  len : env.length ≤ a.tmps.size
  dfr : a.defers = []
  dom : ∀ k, β k ≠ none ∨ H.lookup k ≠ none → dom k
  ext : Ext c.w0 (ow c.X c.β0 c.H0) w (ow c.X β H)
  xs : ∀ b, c.X b → b < c.w0.heap.size ∧ ¬ ownOf β H b
  own : ∀ b, ownOf β H b → ownOf c.β0 c.H0 b ∨ c.w0.heap.size ≤ b
  init : ∀ k, k < c.n → β k = c.β0 k

def constA (v : Value) : AV :=
  match v with
  | .agg cs => if cs.toList.all (·.oneCell') then .agg (cs.toList.map fun v => .p (absV v)) else anyA
  | v => .p (absV v)

theorem constA_ok {w : World} {β : Nat → Option Addr} {own : Bool → Nat → Prop} (v : Value) : VR w β own (constA v) v := by
  unfold constA
  split
  · rename_i cs
    split
    · rename_i h
      simp only [List.all_eq_true] at h
      refine .agg _ _ (by simp) (fun j hj => ?_) (fun j hj => ?_)
      · have hj' : j < cs.size := by simpa using hj
        rw [getD_of (Array.getElem?_eq_getElem hj')]
        exact h _ (by simp)
      · have hj' : j < cs.size := by simpa using hj
        rw [mapD (fun v => AV.p (absV v)) cs.toList j undef anyA (by simpa using hj')]
        have : cs.toList.getD j undef = cs.getD j undef := by simp [List.getD_eq_getElem?_getD, Array.getD_eq_getD_getElem?]
        rw [this]
        exact .p _ _ (absV_rel _ _ _)
    · exact .any _
  · exact .p _ _ (absV_rel _ _ _)

def evA (env : List AV) : Operand → AV
  | .tmp t => env.getD t anyA
  | .const v => constA v
  | .global _ => anyA
  | .func f => .p (.fn f)

theorem evA_ok {w : World} {β : Nat → Option Addr} {own : Bool → Nat → Prop} {env : List AV} {a : Act} (h : ∀ t, VR w β own (env.getD t anyA) (a.tmps.getD t undef)) (x : Operand) :
    VR w β own (evA env x) (a.eval x) := by
  cases x with
  | tmp t => exact h t
  | const v => exact constA_ok v
  | global g => exact .any _
  | func f => exact .p _ _ (.fn f)

/-- How the user meets an operation. -/
structure OpS where
  nw : Bool
  call : Option CallD
  gd : Option Bool

mutual
def refs : AV → List Nat
  | .ar _ o _ _ => [o]
  | .pt _ o _ _ => [o]
  | .mp o => [o]
  | .cnd _ v => refs v
  | .agg cs => refsL cs
  | .tup cs => refsL cs
  | .p _ => []
  | .ip _ _ => []
def refsL : List AV → List Nat
  | [] => []
  | v :: l => refs v ++ refsL l
end

def locOf (H : Hp) : List Nat → Hp
  | [] => []
  | o :: r =>
    match H.lookup o with
    | some ob => (o, ob) :: locOf H r
    | none => locOf H r

theorem locOf_ok (H : Hp) : ∀ (l : List Nat) (o : Nat) (ob : Ob), (locOf H l).lookup o = some ob → H.lookup o = some ob
  | [], o, ob, h => by simp [locOf] at h
  | x :: l, o, ob, h => by
    simp only [locOf] at h
    cases hx : H.lookup x with
    | none => rw [hx] at h; exact locOf_ok H l o ob h
    | some ob' =>
      rw [hx] at h
      simp only [List.lookup_cons] at h
      by_cases he : o = x
      · subst he; simp only [beq_self_eq_true, Option.some.injEq] at h; rw [hx, h]
      · have : (o == x) = false := by simpa using he
        rw [this] at h
        exact locOf_ok H l o ob h

theorem locOf_congr {H H2 : Hp} : ∀ (l : List Nat), (∀ o ∈ l, H.lookup o = H2.lookup o) → locOf H l = locOf H2 l
  | [], _ => rfl
  | x :: l, h => by
    simp only [locOf]
    rw [h x (by simp), locOf_congr l (fun o ho => h o (by simp [ho]))]

def opTmps (op : Op) : List Nat := op.operands.toList.filterMap fun | .tmp t => some t | _ => none

/-- The temporaries that an operation looks at, with their values. -/
def pairsOf (env : List AV) (ts : List Nat) : List (Nat × AV) := ts.map fun t => (t, env.getD t anyA)
/-- Under a test: what is looked at whatever comes must be there; what a 'pick' may pass over need not. -/
def strip : Op → Nat → Bool
  | .pick (.tmp c) _ _, t => t == c
  | .pick _ _ _, _ => false
  | _, _ => true
def gU (op : Op) (t : Nat) (v : AV) : AV × List Prop := if strip op t then ((unC v).1, (unC v).2 true) else (v, [])
def pairsU (env : List AV) (op : Op) : List (Nat × AV) := (opTmps op).map fun t => (t, (gU op t (env.getD t anyA)).1)

def ρOf (ps : List (Nat × AV)) : Operand → AV
  | .tmp t => (ps.lookup t).getD anyA
  | .const v => constA v
  | .global _ => anyA
  | .func f => .p (.fn f)

theorem lookup_pairs (g : Nat → AV) : ∀ (ts : List Nat) (t : Nat), ((ts.map fun t => (t, g t)).lookup t = some (g t) ∧ t ∈ ts) ∨ (ts.map fun t => (t, g t)).lookup t = none
  | [], t => .inr rfl
  | x :: ts, t => by
    simp only [List.map_cons, List.lookup_cons]
    by_cases h : t = x
    · subst h; exact .inl ⟨by simp, by simp⟩
    · have hb : (t == x) = false := by simpa using h
      rw [hb]
      exact (lookup_pairs g ts t).imp (fun h => ⟨h.1, by simp [h.2]⟩) id

theorem ρOf_ok {w : World} {β : Nat → Option Addr} {own : Bool → Nat → Prop} {a : Act} {ts : List Nat} (g : Nat → AV) (h : ∀ t ∈ ts, VR w β own (g t) (a.tmps.getD t undef)) (x : Operand) :
    VR w β own (ρOf (ts.map fun t => (t, g t)) x) (a.eval x) := by
  cases x with
  | tmp t =>
    simp only [ρOf]
    rcases lookup_pairs g ts t with ⟨h1, h2⟩ | h1
    · rw [h1]; exact h t h2
    · rw [h1]; exact .any _
  | const v => exact constA_ok v
  | global g => exact .any _
  | func f => exact .p _ _ (.fn f)

/-- Some operations look at no object. -/
def opRd (op : Op) (ps : List (Nat × AV)) (sc : OpS) : List Nat :=
  match op with
  | .build _ _ => []
  | .indexAddr _ _ _ => []
  | .fieldAddr _ _ _ => []
  | .field _ _ _ => []
  | .move _ => []
  | .assign _ => []
  | .extract _ _ => []
  | .box _ _ => []
  | _ =>
  (match sc.call with
   | some d => d.pass ++ d.lend
   | none => []) ++ (ps.map fun p => refs p.2).flatten

/-- A 'pick' whose test the user decides. -/
def pickD (gd : Option Bool) (ρ : Operand → AV) (op : Op) : Option Eff :=
  match gd, op with
  | some b, .pick c x y =>
    match ρ c with
    | .p (.bool cb) => some ⟨ρ (if b then x else y), [], [cb = b]⟩
    | _ => none
  | _, _ => none

theorem pickD_ok {X : Nat → Prop} {P : Program} {w : World} {β : Nat → Option Addr} {H : Hp} {k : Nat} {gd : Option Bool} {o : Oper} {a : Act} {ρ : Operand → AV} {e : Eff} (hH : HR w β (ow X β H) H) (hS : Sep β H)
    (hρ : ∀ x, VR w β (ow X β H) (ρ x) (a.eval x)) (he : pickD gd ρ o.op = some e) (hob : ∀ p ∈ e.ob, p) : OpRes X P (execOp a.eval o) w β H e k := by
  obtain ⟨dst, op, type, pos, after, guard⟩ := o
  simp only at he
  unfold pickD at he
  split at he
  case h_2 => cases he
  rename_i b c x y
  split at he
  case h_2 => cases he
  rename_i cb hc
  simp only [Option.some.injEq] at he
  subst he
  have hb : cb = b := hob _ (by simp)
  subst hb
  have hcr := hρ c
  rw [hc] at hcr
  generalize hce : a.eval c = cv at hcr
  cases hcr; rename_i hp; cases hp
  refine OpRes.pure hH hS rfl (v := a.eval (if cb then x else y)) ?_ (hρ _)
  cases cb <;> simp [execOp, hce, asBool]

def goOp (P : Program) (id : Nat) (sc : OpS) (L : Hp) (ρ : Operand → AV) (op : Op) : Option Eff :=
  match sc.call with
  | none => match pickD sc.gd ρ op with
    | some e => some e
    | none => opEval P id sc.nw L ρ op
  | some d =>
    match op with
    | .call c =>
      match c.callee with
      | .value f => callEval P id L (ρ f) (c.args.toList.map ρ) d
      | _ => none
    | _ => none

def guardB (v : AV) (want : Bool) : Option Bool :=
  match v with
  | .p (.bool b) => some (match want with | true => b | false => !b)
  | .cnd g (.p (.bool b)) => some (g && match want with | true => b | false => !b)
  | _ => none

def dstV (ops : Array Oper) (env : List AV) (j : Nat) : AV :=
  match (ops[j]?).bind (·.dst) with
  | some d => env.getD d anyA
  | none => anyA

def wrOk (id : Nat) (L : Hp) (wr : List (Nat × Option Ob)) : Bool := wr.all fun p => (L.lookup p.1).isSome || (Nat.ble id p.1 && Nat.blt p.1 (id + 32))

def stepOp (P : Program) (ops : Array Oper) (base : Nat) (env : List AV) (H : Hp) (i : Nat) (sc : OpS) : Option (List Nat × Eff) :=
  match ops[i]? with
  | none => none
  | some o =>
    match o.guard with
    | none =>
      match goOp P (base + 32 * i) sc (locOf H (opRd o.op (pairsOf env (opTmps o.op)) sc)) (ρOf (pairsOf env (opTmps o.op))) o.op with
      | some e => if wrOk (base + 32 * i) (locOf H (opRd o.op (pairsOf env (opTmps o.op)) sc)) e.wr then some (opRd o.op (pairsOf env (opTmps o.op)) sc, e) else none
      | none => none
    | some (j, want) =>
      match guardB (dstV ops env j) want with
      | none => none
      | some g =>
        match sc.gd with
        | some true =>
          match goOp P (base + 32 * i) sc (locOf H (opRd o.op (pairsOf env (opTmps o.op)) sc)) (ρOf (pairsOf env (opTmps o.op))) o.op with
          | some e => if wrOk (base + 32 * i) (locOf H (opRd o.op (pairsOf env (opTmps o.op)) sc)) e.wr then some (opRd o.op (pairsOf env (opTmps o.op)) sc, ⟨e.v, e.wr, (g = true) :: e.ob⟩) else none
          | none => none
        | some false => some ([], ⟨anyA, [], [g = false]⟩)
        | none =>
        match goOp P (base + 32 * i) sc (locOf H (opRd o.op (pairsU env o.op) sc)) (ρOf (pairsU env o.op)) o.op with
        | some e =>
          if e.wr.isEmpty then
            some (opRd o.op (pairsU env o.op) sc, ⟨.cnd g e.v, [], (((opTmps o.op).map fun t => (gU o.op t (env.getD t anyA)).2).flatten ++ e.ob).map (g = true → ·)⟩)
          else none
        | none => none

def putE (env : List AV) (dst : Option Tmp) (v : AV) : List AV :=
  match dst with
  | some d => env.set d v
  | none => env

theorem put_ok {w : World} {β : Nat → Option Addr} {own : Bool → Nat → Prop} {env : List AV} {a : Act} (h : ∀ t, VR w β own (env.getD t anyA) (a.tmps.getD t undef)) (hl : env.length ≤ a.tmps.size)
    (dst : Option Tmp) {v : AV} {x : Value} (hv : VR w β own v x) : (∀ t, VR w β own ((putE env dst v).getD t anyA) ((a.put dst x).tmps.getD t undef)) ∧ (putE env dst v).length ≤ (a.put dst x).tmps.size ∧ (a.put dst x).defers = a.defers := by
  cases dst with
  | none => exact ⟨h, hl, rfl⟩
  | some d =>
    refine ⟨fun t => ?_, by simp [putE, Act.put]; exact hl, rfl⟩
    simp only [putE, Act.put]
    by_cases ht : t = d
    · subst ht
      by_cases hlt : t < env.length
      · have e1 : (env.set t v).getD t anyA = v := by simp [List.getD_eq_getElem?_getD, hlt]
        have e2 : (a.tmps.setIfInBounds t x).getD t undef = x := by
          have : t < a.tmps.size := by omega
          simp [Array.getD_eq_getD_getElem?, this]
        rw [e1, e2]
        exact hv
      · have e1 : (env.set t v).getD t anyA = anyA := by simp [List.getD_eq_getElem?_getD, List.getElem?_eq_none (show (env.set t v).length ≤ t by simp; omega)]
        rw [e1]
        exact .any _
    · have e1 : (env.set d v).getD t anyA = env.getD t anyA := by simp [List.getD_eq_getElem?_getD, List.getElem?_set_ne (Ne.symm ht)]
      have e2 : (a.tmps.setIfInBounds d x).getD t undef = a.tmps.getD t undef := by simp [Array.getD_eq_getD_getElem?, Array.getElem?_setIfInBounds_ne (Ne.symm ht)]
      rw [e1, e2]
      exact h t

section
variable {P : Program}

theorem Rel.step {c : Cx} {dom : Nat → Prop} {env : List AV} {H H' : Hp} {a : Act} {w w' : World} {β β' : Nat → Option Addr} {id : Nat} {v : AV} {x : Value} (h : Rel c dom env H a w β) (hk : Called c.X w β H w' β' H' id)
    (hn : c.n ≤ id) (hkeys : ∀ k, H'.lookup k ≠ none → H.lookup k ≠ none ∨ (id ≤ k ∧ k < id + 32)) (dst : Option Tmp) (hv : VR w' β' (ow c.X β' H') v x) (hfree : ∀ k, id ≤ k → k < id + 32 → β k = none) :
    Rel c (fun k => dom k ∨ (id ≤ k ∧ k < id + 32)) (putE env dst v) H' (a.put dst x) w' β' := by
  obtain ⟨e1, e2, e3⟩ := put_ok (fun t => (h.ev t).ext hk.ext hk.mono) h.len dst hv
  refine ⟨hk.hr, hk.sep, e1, e2, by rw [e3]; exact h.dfr, fun k hk' => ?_, h.ext.trans hk.ext, fun b hb => ⟨(h.xs b hb).1, fun ho => ?_⟩, fun b hb => ?_, fun k hkn => ?_⟩
  · rcases hk' with h1 | h1
    · rcases hk.dom k h1 with h2 | h2
      · exact .inl (h.dom k (.inl h2))
      · exact .inr h2
    · rcases hkeys k h1 with h2 | h2
      · exact .inl (h.dom k (.inr h2))
      · exact .inr h2
  · rcases hk.own b ho with h1 | h1
    · exact (h.xs b hb).2 h1
    · have := (h.xs b hb).1; have := h.ext.size; omega
  · rcases hk.own b hb with h1 | h1
    · exact h.own b h1
    · have := h.ext.size; exact .inr (by omega)
  · cases hb : β k with
    | some a' => rw [← h.init k hkn, hb]; exact hk.mono k a' hb
    | none =>
      cases hb' : β' k with
      | none => rw [← h.init k hkn, hb]
      | some a' =>
        exfalso
        rcases hk.dom k (by rw [hb']; simp) with h1 | h1
        · exact h1 hb
        · omega

theorem run_call {a : Act} {w : World} {o : Oper} {cl : Call} {f : Operand} {fid : FuncId} (ho : o.op = .call cl) (hc : cl.callee = .value f) (hf : a.eval f = .func (.func fid) #[] #[]) (hen : enterable P fid = true) :
    (execOp a.eval o).run P w = .ok (.enter fid (cl.args.map a.eval)) w := by
  unfold enterable at hen
  split at hen
  case h_2 => cases hen
  rename_i fn hfn
  simp only [Bool.and_eq_true, Bool.not_eq_true'] at hen
  have hb : ¬ fn.body = none := by intro h; rw [h] at hen; cases hen.2
  have hname : ¬ fn.name = "runtime.NumGoroutine" := by simpa using hen.1
  simp [execOp, ho, resolve, hc, hf, Deferred.ofValue, invoke, callFunc, hfn, hname, hb]

theorem happ_keys {id : Nat} {L : Hp} : ∀ (wr : List (Nat × Option Ob)) (H : Hp), (∀ o ob, L.lookup o = some ob → H.lookup o = some ob) → (∀ p ∈ wr, ∀ o ob, L.lookup o = some ob → True) →
    (wr.all fun p => (L.lookup p.1).isSome || (Nat.ble id p.1 && Nat.blt p.1 (id + 32))) = true → ∀ (H1 : Hp), (∀ j, H1.lookup j ≠ none → H.lookup j ≠ none ∨ (id ≤ j ∧ j < id + 32)) →
    ∀ j, (happ H1 wr).lookup j ≠ none → H.lookup j ≠ none ∨ (id ≤ j ∧ j < id + 32)
  | [], H, _, _, _, H1, h1, j, hj => h1 j hj
  | (k, x) :: r, H, hL, ht, ha, H1, h1, j, hj => by
    simp only [List.all_cons, Bool.and_eq_true, Bool.or_eq_true, Nat.ble_eq, Nat.blt_eq] at ha
    have hk : H.lookup k ≠ none ∨ (id ≤ k ∧ k < id + 32) := by
      rcases ha.1 with h | h
      · obtain ⟨ob, hob⟩ := Option.isSome_iff_exists.1 h
        exact .inl (by rw [hL k ob hob]; simp)
      · exact .inr h
    have ha2 : (r.all fun p => (L.lookup p.1).isSome || (Nat.ble id p.1 && Nat.blt p.1 (id + 32))) = true := by
      simp only [List.all_eq_true, Bool.or_eq_true, Bool.and_eq_true, Nat.ble_eq, Nat.blt_eq] at ha ⊢
      exact ha.2
    cases x with
    | none =>
      refine happ_keys r H hL (fun _ _ _ _ _ => trivial) ha2 (hdel k H1) (fun j hj => ?_) j hj
      rw [lookup_hdel] at hj
      split at hj
      · exact absurd rfl hj
      · exact h1 j hj
    | some ob =>
      refine happ_keys r H hL (fun _ _ _ _ _ => trivial) ha2 (hput k ob H1) (fun j hj => ?_) j hj
      rw [lookup_hput] at hj
      split at hj
      · rename_i e; rw [e]; exact hk
      · exact h1 j hj

/-- What goes on once an operation has come to its effect. -/
theorem go_ok {c : Cx} {dom : Nat → Prop} {env : List AV} {H : Hp} {a : Act} {w : World} {β : Nat → Option Addr} {id : Nat} {sc : OpS} {L : Hp} {ρ : Operand → AV} {o : Oper} {e : Eff} (h : Rel c dom env H a w β)
    (hid : ∀ k, id ≤ k → k < id + 32 → ¬ dom k) (hn : c.n ≤ id) (hL : ∀ o ob, L.lookup o = some ob → H.lookup o = some ob) (hρ : ∀ x, VR w β (ow c.X β H) (ρ x) (a.eval x))
    (he : goOp P id sc L ρ o.op = some e) (hk : (e.wr.all fun p => (L.lookup p.1).isSome || (Nat.ble id p.1 && Nat.blt p.1 (id + 32))) = true) (hob : ∀ p ∈ e.ob, p)
    {K : Act → World → Prop} {Q : Exit → Act → World → Prop}
    (hK : ∀ x w' β', Called c.X w β H w' β' (happ H e.wr) id → VR w' β' (ow c.X β' (happ H e.wr)) e.v x → Rel c (fun k => dom k ∨ (id ≤ k ∧ k < id + 32)) (putE env o.dst e.v) (happ H e.wr) (a.put o.dst x) w' β' → K (a.put o.dst x) w') :
    o.wp P a w K Q := by
  have hfree : ∀ k, id ≤ k → k < id + 32 → β k = none ∧ H.lookup k = none := by
    intro k h1 h2
    have hd := hid k h1 h2
    constructor
    · cases hb : β k with
      | none => rfl
      | some a => exact absurd (h.dom k (.inl (by rw [hb]; simp))) hd
    · cases hb : H.lookup k with
      | none => rfl
      | some a => exact absurd (h.dom k (.inr (by rw [hb]; simp))) hd
  have hkeys := happ_keys e.wr H hL (fun _ _ _ _ _ => trivial) hk H (fun j hj => .inl hj)
  have fin : ∀ x w' β', Called c.X w β H w' β' (happ H e.wr) id → VR w' β' (ow c.X β' (happ H e.wr)) e.v x → K (a.put o.dst x) w' :=
    fun x w' β' h1 h2 => hK x w' β' h1 h2 (h.step h1 hn hkeys o.dst h2 (fun k h1 h2 => (hfree k h1 h2).1))
  unfold goOp at he
  split at he
  · have hres : OpRes c.X P (execOp a.eval o) w β H e id := by
      split at he
      · rename_i e' hpk
        simp only [Option.some.injEq] at he
        subst he
        exact pickD_ok h.hr h.sep hρ hpk hob
      · exact opEval_ok h.hr h.sep (hfree id (Nat.le_refl _) (by omega)).1 hL hρ he hob
    obtain ⟨v, w', β', hr, hp, hv⟩ := hres
    unfold Oper.wp
    rcases hr with hr | ⟨hr, rfl⟩
    · rw [hr]; exact fin v w' β' hp.called hv
    · rw [hr]; exact fin undef w' β' hp.called hv
  · rename_i d hd
    split at he
    case h_2 => cases he
    rename_i cl hop
    split at he
    case h_2 => cases he
    rename_i f hcal
    cases hfv : ρ f with
    | p pv =>
      cases pv with
      | fn fid =>
        rw [hfv] at he
        have hxs : ∀ b, c.X b → b < w.heap.size ∧ ¬ ownOf β H b := fun b hb => ⟨by have := (h.xs b hb).1; have := h.ext.size; omega, (h.xs b hb).2⟩
        obtain ⟨h1, h2⟩ := call_ok (P := P) (vals := cl.args.map a.eval) hxs h.hr h.sep hfree hL (by simp) (fun j hj => by
          have hj' : j < cl.args.size := by simpa using hj
          rw [mapD ρ cl.args.toList j (.tmp 0) anyA (by simpa using hj')]
          have e2 : (cl.args.map a.eval).getD j undef = a.eval (cl.args.toList.getD j (.tmp 0)) := by
            simp [Array.getD_eq_getD_getElem?, List.getD_eq_getElem?_getD, hj']
          rw [e2]
          exact hρ _) he hob
        have hfe := hρ f
        rw [hfv] at hfe
        have hfe' : a.eval f = .func (.func fid) #[] #[] := by
          generalize a.eval f = y at hfe
          cases hfe with
          | p _ _ hp => cases hp; rfl
        unfold Oper.wp
        rw [run_call hop hcal hfe' h1]
        refine h2.mono fun en w' ⟨v, β', hen, hc, hv⟩ => ?_
        subst hen
        exact fin v w' β' hc hv
      | _ => rw [hfv] at he; simp [callEval] at he
    | _ => rw [hfv] at he; simp [callEval] at he

end
end Go.Proofs.Ytgdbnnmogddkaaa.Mach
