/- The abstract machine: a call of a Go function by its contract. Conditions: as in MachD. -/
import Derived.Test.YtgdbnnmogddkaaaMachL
namespace Go.Proofs.Ytgdbnnmogddkaaa.Mach
open Go
set_option linter.unusedVariables false
set_option linter.unusedSimpArgs false

/-- How a call is met: the objects handed over, the depth to which others are lent, the callee's objects behind the call, its result. -/
structure CallD where
  pass : List Nat
  lend : List Nat
  depth : Nat
  H' : Hp
  res : AV

def passHp (t : Bool) (L : Hp) (pass : List Nat) (d : Nat) : List Nat → Nat → Hp × List Prop
  | [], _ => ([], [])
  | o :: r, k =>
    match L.lookup o with
    | some ob => ((k, { ob with f := fun i => (cvtL t L pass d (ob.f i)).1 }) :: (passHp t L pass d r (k + 1)).1,
        (∀ i, i < ob.n → All (cvtL t L pass d (ob.f i)).2) :: (passHp t L pass d r (k + 1)).2)
    | none => passHp t L pass d r (k + 1)

def nodupB : List Nat → Bool
  | [] => true
  | x :: l => !(l.elem x) && nodupB l

theorem nodupB_ok : ∀ {l : List Nat}, nodupB l = true → l.Nodup
  | [], _ => List.nodup_nil
  | x :: l, h => by
    simp only [nodupB, Bool.and_eq_true, Bool.not_eq_true', List.elem_eq_mem, decide_eq_false_iff_not] at h
    exact List.nodup_cons.2 ⟨h.1, nodupB_ok h.2⟩

theorem nodup_inj : ∀ {l : List Nat} {i j x : Nat}, l.Nodup → l[i]? = some x → l[j]? = some x → i = j
  | [], i, j, x, _, h, _ => by simp at h
  | y :: l, i, j, x, hn, h1, h2 => by
    rw [List.nodup_cons] at hn
    cases i with
    | zero =>
      cases j with
      | zero => rfl
      | succ j =>
        simp only [List.getElem?_cons_zero, Option.some.injEq] at h1
        simp only [List.getElem?_cons_succ] at h2
        subst h1
        exact absurd (List.mem_of_getElem? h2) hn.1
    | succ i =>
      cases j with
      | zero =>
        simp only [List.getElem?_cons_zero, Option.some.injEq] at h2
        simp only [List.getElem?_cons_succ] at h1
        subst h2
        exact absurd (List.mem_of_getElem? h1) hn.1
      | succ j =>
        simp only [List.getElem?_cons_succ] at h1 h2
        rw [nodup_inj hn.2 h1 h2]

def backR (pass : List Nat) (base : Nat) (k : Nat) : Nat := if Nat.blt k pass.length then pass.getD k 0 else base + (k - pass.length)

def wrP (H' : Hp) (r : Ob → Ob) : List Nat → Nat → List (Nat × Option Ob)
  | [], _ => []
  | o :: l, k => (o, (H'.lookup k).map r) :: wrP H' r l (k + 1)

def wrN (m base : Nat) (r : Ob → Ob) : Hp → List (Nat × Option Ob)
  | [] => []
  | (k, ob) :: l => if Nat.ble m k then (base + (k - m), some (r ob)) :: wrN m base r l else wrN m base r l

mutual
/-- Pure data, said to last. -/
def fls : PV → PV
  | .seq _ z n f => .seq false z n (fun i => flsL (f i))
  | .any => .any
  | .int k n => .int k n
  | .bool b => .bool b
  | .str s => .str s
  | .nil => .nil
  | .fn f => .fn f
def flsL : List PV → List PV
  | [] => []
  | v :: l => fls v :: flsL l
end

mutual
/-- A result that may hold what was lent, as the caller sees it. -/
def bor : AV → AV
  | .p v => .p (tru v)
  | .agg cs => .agg (borL cs)
  | .tup vs => .tup (borL vs)
  | .ip _ _ => anyA
  | .cnd _ _ => anyA
  | x => x
def borL : List AV → List AV
  | [] => []
  | v :: l => bor v :: borL l
end

mutual
/-- A value as the callee sees it that may hand it back: the caller's pure data lasts. -/
def cvB (L : Hp) (pass : List Nat) (d : Nat) : AV → AV × List Prop
  | .p v => (.p (fls v), [])
  | .agg cs => (.agg (cvBL L pass d cs).1, (cvBL L pass d cs).2)
  | .tup _ => (anyA, [])
  | x => cvt true L pass d x
def cvBL (L : Hp) (pass : List Nat) (d : Nat) : List AV → List AV × List Prop
  | [] => ([], [])
  | v :: l => ((cvB L pass d v).1 :: (cvBL L pass d l).1, (cvB L pass d v).2 ++ (cvBL L pass d l).2)
end

/-- The arguments, of which those in 'sel' may come back with the result. -/
def cvZ (sel : List Nat) (L : Hp) (pass : List Nat) (d : Nat) : Nat → List AV → List AV × List Prop
  | _, [] => ([], [])
  | k, v :: l => ((if sel.elem k then cvB L pass d v else cvt true L pass d v).1 :: (cvZ sel L pass d (k + 1) l).1, (if sel.elem k then cvB L pass d v else cvt true L pass d v).2 ++ (cvZ sel L pass d (k + 1) l).2)
/-- Which way of calling: lent data may come back with the result. -/
def isB (d : CallD) : Bool := !d.lend.isEmpty
def argV (m : Bool) (sel : List Nat) (L : Hp) (pass : List Nat) (d : Nat) (args : List AV) : List AV × List Prop := if m then cvZ sel L pass d 0 args else cvtL true L pass d args
def resB (m : Bool) (r : Nat → Nat) (x : AV) : AV := if m then bor (ren r x) else ren r x
def obB (m : Bool) (r : Nat → Nat) (ob : Ob) : Ob := if m then { ob with f := fun i => borL (renL r (ob.f i)) } else renOb r ob

def callEval (P : Program) (base : Nat) (L : Hp) (fv : AV) (args : List AV) (d : CallD) : Option Eff :=
  match fv with
  | .p (.fn f) =>
    if nodupB d.pass && d.pass.all (fun o => (L.lookup o).isSome && (Nat.blt o base || Nat.ble (base + 32) o)) && nodupB (d.H'.map (·.1)) && d.H'.all (fun e => Nat.blt e.1 (d.pass.length + 32)) then
      some ⟨resB (isB d) (backR d.pass base) d.res, wrP d.H' (obB (isB d) (backR d.pass base)) d.pass 0 ++ wrN d.pass.length base (obB (isB d) (backR d.pass base)) d.H',
        (passHp true L d.pass d.depth d.pass 0).2 ++ (argV (isB d) d.lend L d.pass d.depth args).2 ++ [Con P f d.pass.length (passHp true L d.pass d.depth d.pass 0).1 (argV (isB d) d.lend L d.pass d.depth args).1 d.H' d.res]⟩
    else none
  | _ => none

theorem happ_lookup : ∀ (wr : List (Nat × Option Ob)) (H : Hp) (j : Nat), (wr.map (·.1)).Nodup →
    (happ H wr).lookup j = match wr.lookup j with | some x => x | none => H.lookup j
  | [], H, j, _ => by simp [happ]
  | (k, x) :: r, H, j, hn => by
    simp only [List.map_cons, List.nodup_cons] at hn
    have hk : r.lookup k = none := by
      rw [List.lookup_eq_none_iff]
      intro p hp
      have : p.1 ∈ r.map (·.1) := List.mem_map_of_mem hp
      simp only [bne_iff_ne, ne_eq, beq_eq_false_iff_ne]
      intro e
      exact hn.1 (e ▸ this)
    by_cases hj : j = k
    · subst hj
      cases x with
      | none => simp only [happ]; rw [happ_lookup r _ _ hn.2, hk, lookup_hdel]; simp
      | some ob => simp only [happ]; rw [happ_lookup r _ _ hn.2, hk, lookup_hput]; simp
    · have hb : (j == k) = false := by simpa using hj
      cases x with
      | none =>
        simp only [happ]
        rw [happ_lookup r _ _ hn.2, lookup_hdel]
        simp [List.lookup_cons, hb, hj]
      | some ob =>
        simp only [happ]
        rw [happ_lookup r _ _ hn.2, lookup_hput]
        simp [List.lookup_cons, hb, hj]

theorem passHp_lookup (t : Bool) (L : Hp) (pass : List Nat) (d : Nat) : ∀ (l : List Nat) (k j : Nat) (ob : Ob), (passHp t L pass d l k).1.lookup j = some ob → All (passHp t L pass d l k).2 →
    k ≤ j ∧ ∃ o ob0, l[j - k]? = some o ∧ L.lookup o = some ob0 ∧ ob = { ob0 with f := fun i => (cvtL t L pass d (ob0.f i)).1 } ∧ ∀ i, i < ob0.n → All (cvtL t L pass d (ob0.f i)).2
  | [], k, j, ob, h, _ => by simp [passHp] at h
  | o :: l, k, j, ob, h, ha => by
    simp only [passHp] at h ha
    cases hlo : L.lookup o with
    | none =>
      rw [hlo] at h ha
      obtain ⟨h1, o', ob0, h2, h3⟩ := passHp_lookup t L pass d l (k + 1) j ob h ha
      refine ⟨by omega, o', ob0, ?_, h3⟩
      have : j - k = (j - (k + 1)) + 1 := by omega
      rw [this]
      simpa using h2
    | some ob1 =>
      rw [hlo] at h ha
      simp only [List.lookup_cons] at h
      by_cases hj : j = k
      · subst hj
        simp only [beq_self_eq_true, Option.some.injEq] at h
        exact ⟨Nat.le_refl _, o, ob1, by simp, hlo, h.symm, ha.1⟩
      · have hb : (j == k) = false := by simpa using hj
        rw [hb] at h
        obtain ⟨h1, o', ob0, h2, h3⟩ := passHp_lookup t L pass d l (k + 1) j ob h ha.2
        refine ⟨by omega, o', ob0, ?_, h3⟩
        have : j - k = (j - (k + 1)) + 1 := by omega
        rw [this]
        simpa using h2

theorem passHp_has (t : Bool) (L : Hp) (pass : List Nat) (d : Nat) : ∀ (l : List Nat) (k m o : Nat), l[m]? = some o → (L.lookup o).isSome → ((passHp t L pass d l k).1.lookup (k + m)).isSome
  | [], k, m, o, h, _ => by simp at h
  | x :: l, k, m, o, h, ho => by
    simp only [passHp]
    cases m with
    | zero =>
      simp only [List.getElem?_cons_zero, Option.some.injEq] at h
      subst h
      cases hlo : L.lookup x with
      | none => rw [hlo] at ho; cases ho
      | some ob => simp
    | succ m =>
      have ih := passHp_has t L pass d l (k + 1) m o (by simpa using h) ho
      have e : k + (m + 1) = k + 1 + m := by omega
      cases hlo : L.lookup x with
      | none => rw [e]; exact ih
      | some ob =>
        have hb : (k + (m + 1) == k) = false := by simp
        simp only [List.lookup_cons, hb]
        rw [e]; exact ih

theorem wrP_lookup (H' : Hp) (r : Ob → Ob) : ∀ (l : List Nat) (k j : Nat), l.Nodup → (wrP H' r l k).lookup j = match idx j l k with | some m => some ((H'.lookup m).map r) | none => none
  | [], k, j, _ => by simp [wrP, idx]
  | o :: l, k, j, hn => by
    simp only [wrP, idx, List.lookup_cons]
    by_cases h : j = o
    · subst h; simp
    · have hb : (j == o) = false := by simpa using h
      rw [hb]
      simpa using wrP_lookup H' r l (k + 1) j (List.nodup_cons.1 hn).2

theorem wrP_keys (H' : Hp) (r : Ob → Ob) : ∀ (l : List Nat) (k : Nat), (wrP H' r l k).map (·.1) = l
  | [], k => rfl
  | o :: l, k => by simp [wrP, wrP_keys H' r l (k + 1)]

theorem wrN_lookup (m base : Nat) (r : Ob → Ob) : ∀ (l : Hp) (j : Nat), base ≤ j → (wrN m base r l).lookup j = (l.lookup (m + (j - base))).map (fun ob => some (r ob))
  | [], j, _ => by simp [wrN]
  | (k, ob) :: l, j, hj => by
    simp only [wrN]
    by_cases hm : m ≤ k
    · have : Nat.ble m k = true := by simpa using hm
      simp only [this, if_true, List.lookup_cons]
      by_cases he : j = base + (k - m)
      · have e1 : (j == base + (k - m)) = true := by simpa using he
        have e2 : (m + (j - base) == k) = true := by simp; omega
        simp [e1, e2]
      · have e1 : (j == base + (k - m)) = false := by simpa using he
        have e2 : (m + (j - base) == k) = false := by simp; omega
        simp only [e1, e2]
        exact wrN_lookup m base r l j hj
    · have : Nat.ble m k = false := by
        cases h : Nat.ble m k with
        | false => rfl
        | true => rw [Nat.ble_eq] at h; omega
      have e2 : (m + (j - base) == k) = false := by simp; omega
      simp only [this, List.lookup_cons, e2]
      exact wrN_lookup m base r l j hj

theorem wrN_key (m base : Nat) (r : Ob → Ob) : ∀ (l : Hp) (x : Nat), x ∈ (wrN m base r l).map (·.1) → ∃ k ∈ l.map (·.1), m ≤ k ∧ x = base + (k - m)
  | [], x, h => by simp [wrN] at h
  | (k, ob) :: l, x, h => by
    simp only [wrN] at h
    split at h
    · rename_i hm
      simp only [Nat.ble_eq] at hm
      simp only [List.map_cons, List.mem_cons] at h
      rcases h with h | h
      · exact ⟨k, by simp, hm, h⟩
      · obtain ⟨k', h1, h2⟩ := wrN_key m base r l x h
        exact ⟨k', by simp [h1], h2⟩
    · obtain ⟨k', h1, h2⟩ := wrN_key m base r l x h
      exact ⟨k', by simp [h1], h2⟩

theorem wrN_nodup (m base : Nat) (r : Ob → Ob) : ∀ (l : Hp), (l.map (·.1)).Nodup → ((wrN m base r l).map (·.1)).Nodup
  | [], _ => by simp [wrN]
  | (k, ob) :: l, h => by
    simp only [List.map_cons, List.nodup_cons] at h
    simp only [wrN]
    split
    · rename_i hm
      simp only [Nat.ble_eq] at hm
      simp only [List.map_cons, List.nodup_cons]
      refine ⟨fun hx => ?_, wrN_nodup m base r l h.2⟩
      obtain ⟨k', h1, h2, h3⟩ := wrN_key m base r l _ hx
      have : k = k' := by omega
      exact h.1 (this ▸ h1)
    · exact wrN_nodup m base r l h.2

/-- What a call comes to, in the caller's terms. -/
structure Called (X : Nat → Prop) (w : World) (β : Nat → Option Addr) (H : Hp) (w' : World) (β' : Nat → Option Addr) (H' : Hp) (k : Nat) : Prop where
  hr : HR w' β' (ow X β' H') H'
  sep : Sep β' H'
  ext : Ext w (ow X β H) w' (ow X β' H')
  mono : ∀ o a, β o = some a → β' o = some a
  dom : ∀ j, β' j ≠ none → β j ≠ none ∨ (k ≤ j ∧ j < k + 32)
  own : ∀ b, ownOf β' H' b → ownOf β H b ∨ w.heap.size ≤ b

theorem Placed.called {X : Nat → Prop} {w w' : World} {β β' : Nat → Option Addr} {H H' : Hp} {k : Nat} (h : Placed X w β H w' β' H' k) : Called X w β H w' β' H' k :=
  ⟨h.hr, h.sep, h.ext, h.mono, fun j hj => (h.dom j hj).imp id (fun e => by omega), h.own⟩

theorem flsL_getD : ∀ (l : List PV) (j : Nat), (flsL l).getD j .any = fls (l.getD j .any)
  | [], j => by simp [flsL, fls]
  | v :: l, 0 => by simp [flsL]
  | v :: l, j + 1 => by simpa [flsL] using flsL_getD l j

theorem fls_ok {w : World} {own ownc : Bool → Nat → Prop} (hc : ∀ t t' b, ownc t b → own t' b) {v : PV} {x : Value} (h : PR w own v x) : PR w ownc (fls v) x := by
  induction h with
  | any x => simp only [fls]; exact .any x
  | int k n => simp only [fls]; exact .int k n
  | bool b => simp only [fls]; exact .bool b
  | str s => simp only [fls]; exact .str s
  | nil => simp only [fls]; exact .nil
  | seq0 t z f a c => simp only [fls]; exact .seq0 _ _ _ _ _
  | seq t z n f b off c g hb hlt hcc hcell hone _ ih =>
    simp only [fls]
    exact .seq _ _ _ _ b off c g (fun h => hb (hc _ _ b h)) hlt hcc hcell hone (fun i hi j hj => by rw [flsL_getD]; exact ih i hi j hj)
  | fn f => simp only [fls]; exact .fn f

theorem borL_length : ∀ l : List AV, (borL l).length = l.length
  | [] => by simp [borL]
  | v :: l => by simp [borL, borL_length l]

theorem borL_getD : ∀ (l : List AV) (j : Nat), (borL l).getD j anyA = bor (l.getD j anyA)
  | [], j => by simp [borL, bor, tru]
  | v :: l, 0 => by simp [borL]
  | v :: l, j + 1 => by simpa [borL] using borL_getD l j

theorem VR.bor {w : World} {β : Nat → Option Addr} {own own' : Bool → Nat → Prop} (hown : ∀ t b, own' true b → own t b) {x : AV} {v : Value} (h : VR w β own x v) : VR w β own' (Mach.bor x) v := by
  induction h with
  | p v x h => simp only [Mach.bor]; exact .p _ _ (tru_ok hown h)
  | ar0 z o off a => simp only [Mach.bor]; exact .ar0 _ _ _ _
  | ar z o off n b base c cells elem fr hb hh hsz hc => simp only [Mach.bor]; exact .ar _ _ _ _ b base c cells elem fr hb hh hsz hc
  | pt z o row off b base hb => simp only [Mach.bor]; exact .pt _ _ _ _ b base hb
  | ip s cs b off g hb hlt hcell hone hp => simp only [Mach.bor]; exact .any _
  | mp o b hb hm => simp only [Mach.bor]; exact .mp _ b hb hm
  | agg cs vs hl hone h ih =>
    simp only [Mach.bor]
    refine .agg _ _ (by rw [borL_length]; exact hl) (fun j hj => hone j (by rw [borL_length] at hj; exact hj)) (fun j hj => ?_)
    rw [borL_getD]
    exact ih j (by rw [borL_length] at hj; exact hj)
  | tup cs vs hl h ih =>
    simp only [Mach.bor]
    refine .tup _ _ (by rw [borL_length]; exact hl) (fun j hj => ?_)
    rw [borL_getD]
    exact ih j (by rw [borL_length] at hj; exact hj)
  | cnd g v x _ h' ih => simp only [Mach.bor]; exact .any _

theorem cvBL_length (L : Hp) (pass : List Nat) (d : Nat) : ∀ l : List AV, (cvBL L pass d l).1.length = l.length
  | [] => by simp [cvBL]
  | v :: l => by simp [cvBL, cvBL_length L pass d l]

theorem cvBL_getD (L : Hp) (pass : List Nat) (d : Nat) : ∀ (l : List AV) (j : Nat), (cvBL L pass d l).1.getD j anyA = (cvB L pass d (l.getD j anyA)).1
  | [], j => by simp [cvBL, cvB, fls]
  | v :: l, 0 => by simp [cvBL]
  | v :: l, j + 1 => by simpa [cvBL] using cvBL_getD L pass d l j

theorem cvBL_ob (L : Hp) (pass : List Nat) (d : Nat) : ∀ (l : List AV) (j : Nat), All (cvBL L pass d l).2 → All (cvB L pass d (l.getD j anyA)).2
  | [], j, _ => by simp [cvB, All]
  | v :: l, 0, h => by simp only [cvBL] at h; simpa using (All_app h).1
  | v :: l, j + 1, h => by simp only [cvBL] at h; simpa using cvBL_ob L pass d l j (All_app h).2

theorem cvB_ok {w : World} {β βc : Nat → Option Addr} {own ownc : Bool → Nat → Prop} {L : Hp} {pass : List Nat} {d : Nat}
    (hcvt : ∀ (x : AV) (v : Value), VR w β own x v → All (cvt true L pass d x).2 → VR w βc ownc (cvt true L pass d x).1 v) (hf : ∀ (v : PV) (x : Value), PR w own v x → PR w ownc (fls v) x)
    {x : AV} {v : Value} (h : VR w β own x v) : All (cvB L pass d x).2 → VR w βc ownc (cvB L pass d x).1 v := by
  induction h with
  | p v x h => intro _; simp only [cvB]; exact .p _ _ (hf _ _ h)
  | ar0 z o off a => intro ho; simp only [cvB] at ho ⊢; exact hcvt _ _ (.ar0 _ _ _ _) ho
  | ar z o off n b base c cells elem fr hb hh hsz hc => intro ho; simp only [cvB] at ho ⊢; exact hcvt _ _ (.ar _ _ _ _ b base c cells elem fr hb hh hsz hc) ho
  | pt z o row off b base hb => intro ho; simp only [cvB] at ho ⊢; exact hcvt _ _ (.pt _ _ _ _ b base hb) ho
  | ip s cs b off g hb hlt hcell hone hp => intro ho; simp only [cvB] at ho ⊢; exact hcvt _ _ (.ip s cs b off g hb hlt hcell hone hp) ho
  | mp o b hb hm => intro ho; simp only [cvB] at ho ⊢; exact hcvt _ _ (.mp _ b hb hm) ho
  | agg cs vs hl hone h ih =>
    intro ho
    simp only [cvB] at ho ⊢
    refine .agg _ _ (by rw [cvBL_length]; exact hl) (fun j hj => hone j (by rw [cvBL_length] at hj; exact hj)) (fun j hj => ?_)
    rw [cvBL_getD]
    exact ih j (by rw [cvBL_length] at hj; exact hj) (cvBL_ob L pass d cs j ho)
  | tup cs vs hl h ih => intro ho; simp only [cvB]; exact .any _
  | cnd g v x h h' ih => intro ho; simp only [cvB, cvt]; exact .any _

theorem cvZ_length (sel : List Nat) (L : Hp) (pass : List Nat) (d : Nat) : ∀ (l : List AV) (k : Nat), (cvZ sel L pass d k l).1.length = l.length
  | [], k => by simp [cvZ]
  | v :: l, k => by simp [cvZ, cvZ_length sel L pass d l (k + 1)]

theorem cvZ_at (sel : List Nat) (L : Hp) (pass : List Nat) (d : Nat) : ∀ (l : List AV) (k j : Nat), j < l.length → All (cvZ sel L pass d k l).2 →
    ((cvZ sel L pass d k l).1.getD j anyA = (cvB L pass d (l.getD j anyA)).1 ∧ All (cvB L pass d (l.getD j anyA)).2) ∨ ((cvZ sel L pass d k l).1.getD j anyA = (cvt true L pass d (l.getD j anyA)).1 ∧ All (cvt true L pass d (l.getD j anyA)).2)
  | [], k, j, hj, _ => by simp at hj
  | v :: l, k, 0, _, h => by
    simp only [cvZ] at h ⊢
    have h1 := (All_app h).1
    cases e : sel.elem k with
    | true => rw [e] at h1; exact .inl ⟨by simp, by simpa using h1⟩
    | false => rw [e] at h1; exact .inr ⟨by simp, by simpa using h1⟩
  | v :: l, k, j + 1, hj, h => by
    simp only [cvZ] at h ⊢
    simpa using cvZ_at sel L pass d l (k + 1) j (by simpa using hj) (All_app h).2

theorem argV_length (m : Bool) (sel : List Nat) (L : Hp) (pass : List Nat) (d : Nat) (args : List AV) : (argV m sel L pass d args).1.length = args.length := by
  cases m <;> simp [argV, cvZ_length, cvtL_length]

theorem obB_getD (m : Bool) (r : Nat → Nat) (ob : Ob) (i j : Nat) : ((obB m r ob).f i).getD j anyA = resB m r ((ob.f i).getD j anyA) := by
  cases m
  · simp only [obB, resB, renOb, Bool.false_eq_true, if_false, renL_getD]
  · simp only [obB, resB, if_true, borL_getD, renL_getD]

theorem obB_n (m : Bool) (r : Nat → Nat) (ob : Ob) : (obB m r ob).n = ob.n ∧ (obB m r ob).z = ob.z ∧ (obB m r ob).bx = ob.bx := by
  cases m <;> exact ⟨rfl, rfl, rfl⟩

section
variable {X : Nat → Prop} {P : Program} {w : World} {β : Nat → Option Addr} {H L : Hp}

theorem owned_lt {own : Bool → Nat → Prop} (hH : HR w β own H) {b : Nat} (h : ownOf β H b) : b < w.heap.size := by
  obtain ⟨o, ob, a, h1, h2, rfl⟩ := h
  rcases hH o ob h1 with g | ⟨b, base, cells, elem, g1, g2, _⟩ | ⟨_, _, b, es, ck, g1, g2, _⟩
  · rw [g.1] at h2; cases h2
  · rw [h2] at g1; cases g1; exact (Array.getElem?_eq_some_iff.1 g2).1
  · rw [h2] at g1; cases g1; exact (Array.getElem?_eq_some_iff.1 g2).1

set_option maxHeartbeats 1000000 in
theorem call_ok {base : Nat} {f : FuncId} {args : List AV} {vals : Array Value} {d : CallD} {e : Eff} (hX : ∀ b, X b → b < w.heap.size ∧ ¬ ownOf β H b)
    (hH : HR w β (ow X β H) H) (hS : Sep β H) (hβ : ∀ k, base ≤ k → k < base + 32 → β k = none ∧ H.lookup k = none) (hL : ∀ o ob, L.lookup o = some ob → H.lookup o = some ob)
    (hlen : args.length = vals.size) (hargs : ∀ j, j < args.length → VR w β (ow X β H) (args.getD j anyA) (vals.getD j undef))
    (he : callEval P base L (.p (.fn f)) args d = some e) (hob : ∀ p ∈ e.ob, p) :
    enterable P f = true ∧ Calls P f vals w fun en w' => ∃ v β', en = .returned v ∧ Called X w β H w' β' (happ H e.wr) base ∧ VR w' β' (ow X β' (happ H e.wr)) e.v v := by
  unfold callEval at he
  simp only at he
  split at he
  case isFalse => cases he
  rename_i hz
  simp only [Bool.and_eq_true, List.all_eq_true, Bool.or_eq_true, Nat.blt_eq, Nat.ble_eq] at hz
  obtain ⟨⟨⟨hnd, hpass⟩, hnd'⟩, hkeys⟩ := hz
  have hnd := nodupB_ok hnd
  have hnd' := nodupB_ok hnd'
  simp only [Option.some.injEq] at he
  subst he
  generalize isB d = m at hob ⊢
  obtain ⟨pass, lend, dep, Hc', res⟩ := d
  simp only at hnd hpass hnd' hkeys hob ⊢
  have hob1 : All (passHp true L pass dep pass 0).2 := (All_iff _).2 fun p hp => hob p (by simp [hp])
  have hob2 : All (argV m lend L pass dep args).2 := (All_iff _).2 fun p hp => hob p (by simp [hp])
  have hcon : Con P f pass.length (passHp true L pass dep pass 0).1 (argV m lend L pass dep args).1 Hc' res := hob _ (by simp)
  refine ⟨hcon.1, ?_⟩
  -- the callee's heap
  let βc := subβ β pass
  let Hc := (passHp true L pass dep pass 0).1
  have hcl : ∀ j ob, Hc.lookup j = some ob → ∃ (o : Nat) (ob0 : Ob), pass[j]? = some o ∧ H.lookup o = some ob0 ∧ ob = { ob0 with f := fun i => (cvtL true L pass dep (ob0.f i)).1 } ∧ ∀ i, i < ob0.n → All (cvtL true L pass dep (ob0.f i)).2 := by
    intro j ob hj
    obtain ⟨_, o, ob0, h2, h3, h4, h5⟩ := passHp_lookup true L pass dep pass 0 j ob hj hob1
    exact ⟨o, ob0, by simpa using h2, hL _ _ h3, h4, h5⟩
  have ownc : ∀ b, ownOf βc Hc b → ∃ (j o : Nat) (ob0 : Ob) (a : Addr), pass[j]? = some o ∧ H.lookup o = some ob0 ∧ β o = some a ∧ a.block = b := by
    rintro b ⟨j, ob, a, h1, h2, h3⟩
    obtain ⟨o, ob0, g1, g2, _⟩ := hcl j ob h1
    have : β o = some a := by simpa [βc, subβ, g1] using h2
    exact ⟨j, o, ob0, a, g1, g2, this, h3⟩
  have ownc_own : ∀ b, ownOf βc Hc b → ownOf β H b := by
    intro b hb
    obtain ⟨j, o, ob0, a, g1, g2, g3, g4⟩ := ownc b hb
    exact ⟨o, ob0, a, g2, g3, g4⟩
  have own_ownc : ∀ o ob a, H.lookup o = some ob → β o = some a → o ∈ pass → ownOf βc Hc a.block := by
    intro o ob a h1 h2 h3
    obtain ⟨j, hj⟩ := List.getElem?_of_mem h3
    have hsome := passHp_has true L pass dep pass 0 j o hj (hpass o h3).1
    rw [Nat.zero_add] at hsome
    obtain ⟨obc, hobc⟩ := Option.isSome_iff_exists.1 hsome
    exact ⟨j, obc, a, hobc, by simp [βc, subβ, hj, h2], rfl⟩
  -- what the callee must leave alone
  let Xc : Nat → Prop := fun b => (ownOf β H b ∧ ¬ ownOf βc Hc b) ∨ (m = false ∧ X b)
  have hXc : ∀ b, Xc b → b < w.heap.size ∧ ¬ ownOf βc Hc b := by
    rintro b (⟨h1, h2⟩ | h)
    · exact ⟨owned_lt hH h1, h2⟩
    · exact ⟨(hX b h.2).1, fun h' => (hX b h.2).2 (ownc_own b h')⟩
  have hc : ∀ t b, ow Xc βc Hc t b → ow X β H t b := by
    rintro t b (h | ⟨ht, h⟩)
    · exact .inl (ownc_own b h)
    · rcases h with ⟨h1, _⟩ | h
      · exact .inl h1
      · exact .inr ⟨ht, h.2⟩
  have hc2 : m = true → ∀ t t' b, ow Xc βc Hc t b → ow X β H t' b := by
    rintro rfl t t' b (h | ⟨ht, h⟩)
    · exact .inl (ownc_own b h)
    · rcases h with ⟨h1, _⟩ | ⟨h, _⟩
      · exact .inl h1
      · cases h
  have hc' : ∀ t b, ow Xc βc Hc true b → ow X β H t b := by
    rintro t b (h | ⟨ht, h⟩)
    · exact .inl (ownc_own b h)
    · cases ht
  have hfree : ∀ o ob a, L.lookup o = some ob → idx o pass 0 = none → β o = some a → ¬ ow Xc βc Hc true a.block := by
    rintro o ob a h1 h2 h3 (h | ⟨ht, h⟩)
    · obtain ⟨j, o', ob0, a', g1, g2, g3, g4⟩ := ownc _ h
      have : o' = o := hS o' o ob0 ob a' a g2 (hL _ _ h1) g3 h3 g4
      subst this
      exact idx_none pass 0 h2 (List.mem_of_getElem? g1)
    · cases ht
  have hcvt := fun (x : AV) (v : Value) (h : VR w β (ow X β H) x v) (hb : All (cvt true L pass dep x).2) => cvt_ok (t := true) (pass := pass) hH hL hc hc' hfree dep x v h hb
  have hHc : HR w βc (ow Xc βc Hc) Hc := by
    intro j ob hj
    obtain ⟨o, ob0, g1, g2, g3, g4⟩ := hcl j ob hj
    have hβc : βc j = β o := by simp [βc, subβ, g1]
    rcases hH o ob0 g2 with h | ⟨b, bs, cells, elem, h1, h2, h3⟩ | ⟨m1, m2, b, es, ck, m3, m4, m5, K, V, m6⟩
    rotate_left 2
    · subst g3
      refine .inr (.inr ⟨m1, m2, b, es, ck, by rw [hβc]; exact m3, m4, m5, K, V, fun i hi => ⟨?_, (m6 i hi).2⟩⟩)
      show (cvtL true L pass dep (ob0.f i)).1 = _
      rw [(m6 i hi).1]
      simp [cvtL, cvt, tg, tru]
    · exact .inl ⟨by rw [hβc]; exact h.1, by rw [g3]; exact h.2⟩
    · refine .inr (.inl ⟨b, bs, cells, elem, by rw [hβc]; exact h1, h2, fun i hi q hq => ?_⟩)
      rw [g3] at hi hq ⊢
      obtain ⟨v, k1, k2, k3⟩ := h3 i hi q hq
      refine ⟨v, k1, k2, ?_⟩
      simp only [cvtL_getD]
      exact hcvt _ v k3 (cvtL_ob true L pass dep _ q (g4 i hi))
  have hSc : Sep βc Hc := by
    intro j j' ob ob' a a' h1 h2 h3 h4 h5
    obtain ⟨o, ob0, g1, g2, _⟩ := hcl j ob h1
    obtain ⟨o', ob0', g1', g2', _⟩ := hcl j' ob' h2
    have e1 : β o = some a := by simpa [βc, subβ, g1] using h3
    have e2 : β o' = some a' := by simpa [βc, subβ, g1'] using h4
    have := hS o o' ob0 ob0' a a' g2 g2' e1 e2 h5
    subst this
    exact nodup_inj hnd g1 g1'
  have hdomc : ∀ k, βc k ≠ none → k < pass.length := by
    intro k hk
    simp only [βc, subβ, ne_eq] at hk
    by_cases h : k < pass.length
    · exact h
    · rw [List.getElem?_eq_none (by omega)] at hk; exact absurd rfl hk
  have hcall := hcon.2 w βc Xc vals hXc hHc hSc hdomc (by rw [argV_length]; exact hlen) (fun j hj => by
    rw [argV_length] at hj
    cases m with
    | false =>
      simp only [argV, Bool.false_eq_true, if_false] at hob2 ⊢
      rw [cvtL_getD]
      exact hcvt _ _ (hargs j hj) (cvtL_ob true L pass dep _ j hob2)
    | true =>
      simp only [argV, if_true] at hob2 ⊢
      rcases cvZ_at lend L pass dep args 0 j hj hob2 with ⟨h1, h2⟩ | ⟨h1, h2⟩
      · rw [h1]
        exact cvB_ok hcvt (fun v x h => fls_ok (hc2 rfl) h) (hargs j hj) h2
      · rw [h1]
        exact hcvt _ _ (hargs j hj) h2)
  refine hcall.mono fun en w' ⟨v, βd, hen, hHd, hSd, hv, hext, hmono, hown, hdom⟩ => ?_
  let r := backR pass base
  let β' : Nat → Option Addr := fun k => if base ≤ k ∧ k < base + 32 then βd (pass.length + (k - base)) else β k
  have hnw : ((wrP Hc' (obB m r) pass 0 ++ wrN pass.length base (obB m r) Hc').map (·.1)).Nodup := by
    rw [List.map_append, wrP_keys]
    refine List.nodup_append.2 ⟨hnd, wrN_nodup _ _ _ _ hnd', fun a ha b hb he => ?_⟩
    subst he
    obtain ⟨k, h1, h2, h3⟩ := wrN_key _ _ _ _ _ hb
    obtain ⟨e, he, rfl⟩ := List.mem_map.1 h1
    have := hkeys e he
    have := (hpass a ha).2
    omega
  let H' := happ H (wrP Hc' (obB m r) pass 0 ++ wrN pass.length base (obB m r) Hc')
  -- the heap behind the call, number by number
  have hlook : ∀ j, H'.lookup j = match idx j pass 0 with
      | some mm => (Hc'.lookup mm).map (obB m r)
      | none => if base ≤ j ∧ j < base + 32 then (match Hc'.lookup (pass.length + (j - base)) with | some ob => some (obB m r ob) | none => H.lookup j) else H.lookup j := by
    intro j
    simp only [H']
    rw [happ_lookup _ _ _ hnw, List.lookup_append, wrP_lookup _ _ _ _ _ hnd]
    cases hi : idx j pass 0 with
    | some m => simp
    | none =>
      simp only [Option.none_or]
      by_cases hb : base ≤ j
      · rw [wrN_lookup _ _ _ _ _ hb]
        by_cases hb2 : j < base + 32
        · rw [if_pos ⟨hb, hb2⟩]
          cases Hc'.lookup (pass.length + (j - base)) <;> rfl
        · rw [if_neg (fun h => hb2 h.2)]
          have : Hc'.lookup (pass.length + (j - base)) = none := by
            rw [List.lookup_eq_none_iff]
            intro p hp
            have := hkeys p hp
            simp only [bne_iff_ne, ne_eq, beq_eq_false_iff_ne]
            omega
          rw [this]
          rfl
      · have : (wrN pass.length base (obB m r) Hc').lookup j = none := by
          rw [List.lookup_eq_none_iff]
          intro p hp
          have : p.1 ∈ (wrN pass.length base (obB m r) Hc').map (·.1) := List.mem_map_of_mem hp
          obtain ⟨k, _, _, h3⟩ := wrN_key _ _ _ _ _ this
          simp only [bne_iff_ne, ne_eq, beq_eq_false_iff_ne]
          omega
        rw [this, if_neg (fun h => hb h.1)]
  have hmono' : ∀ o a, β o = some a → β' o = some a := by
    intro o a ho
    simp only [β']
    split
    · rename_i h; rw [(hβ o h.1 h.2).1] at ho; cases ho
    · exact ho
  -- the callee's numbers, turned back
  have hback : ∀ k a, βd k = some a → β' (r k) = some a := by
    intro k a hk
    by_cases hkp : k < pass.length
    · have hr : r k = pass.getD k 0 := by
        simp only [r, backR]
        rw [if_pos (by rw [Nat.blt_eq]; exact hkp)]
      have hpk : pass[k]? = some (pass.getD k 0) := by
        rw [List.getD_eq_getElem?_getD, List.getElem?_eq_getElem hkp]
        rfl
      have hin : pass.getD k 0 ∈ pass := List.mem_of_getElem? hpk
      have hrange := (hpass _ hin).2
      rw [hr]
      simp only [β']
      rw [if_neg (by omega)]
      have hck : βc k = β (pass.getD k 0) := by
        show (pass[k]?).bind β = _
        rw [hpk]
        rfl
      cases hb : β (pass.getD k 0) with
      | none =>
        rcases hdom k (by rw [hk]; simp) with h | h
        · rw [hck] at h; exact absurd hb h
        · omega
      | some a' =>
        have := hmono k a' (by rw [hck, hb])
        rw [← this, hk]
    · have hr : r k = base + (k - pass.length) := by
        simp only [r, backR]
        rw [if_neg (by rw [Nat.blt_eq]; exact hkp)]
      have hk2 : pass.length ≤ k ∧ k < pass.length + 32 := by
        rcases hdom k (by rw [hk]; simp) with h | h
        · exact absurd (hdomc k h) hkp
        · exact h
      rw [hr]
      simp only [β']
      rw [if_pos (by omega)]
      have : pass.length + (base + (k - pass.length) - base) = k := by omega
      rw [this, hk]
  have unp : ∀ (j : Nat) (ob : Ob) (a : Addr), H.lookup j = some ob → β j = some a → j ∉ pass → ¬ ownOf βc Hc a.block := by
    intro j ob a h1 h2 h3 h
    obtain ⟨j', o', ob0, a', g1, g2, g3, g4⟩ := ownc _ h
    have : o' = j := hS o' j ob0 ob a' a g2 h1 g3 h2 g4
    subst this
    exact h3 (List.mem_of_getElem? g1)
  -- who is alive behind the call
  have hcls : ∀ (j : Nat) (ob : Ob), H'.lookup j = some ob → (∃ (mm : Nat) (obd : Ob), Hc'.lookup mm = some obd ∧ ob = obB m r obd ∧ r mm = j ∧ β' j = βd mm) ∨ (H.lookup j = some ob ∧ β' j = β j ∧ j ∉ pass) := by
    intro j ob hj
    rw [hlook j] at hj
    cases hi : idx j pass 0 with
    | some mm =>
      rw [hi] at hj
      simp only at hj
      cases hm : Hc'.lookup mm with
      | none => rw [hm] at hj; cases hj
      | some obd =>
        rw [hm] at hj
        simp only [Option.map_some, Option.some.injEq] at hj
        obtain ⟨_, h2⟩ := idx_some pass 0 mm hi
        simp only [Nat.sub_zero] at h2
        have hml : mm < pass.length := (List.getElem?_eq_some_iff.1 h2).1
        have hr : r mm = j := by
          have : r mm = pass.getD mm 0 := by
            simp only [r, backR]
            rw [if_pos (by rw [Nat.blt_eq]; exact hml)]
          rw [this, List.getD_eq_getElem?_getD, h2]
          rfl
        refine .inl ⟨mm, obd, hm, hj.symm, hr, ?_⟩
        have hck : βc mm = β j := by simp [βc, subβ, h2]
        have hrange := (hpass j (List.mem_of_getElem? h2)).2
        have hbj : β' j = β j := by simp only [β']; rw [if_neg (by omega)]
        rw [hbj]
        cases hb : β j with
        | some a => exact (hmono mm a (by rw [hck, hb])).symm
        | none =>
          cases hd : βd mm with
          | none => rfl
          | some a =>
            exfalso
            rcases hdom mm (by rw [hd]; simp) with h | h
            · rw [hck] at h; exact h hb
            · omega
    | none =>
      rw [hi] at hj
      simp only at hj
      by_cases hb : base ≤ j ∧ j < base + 32
      · rw [if_pos hb] at hj
        cases hm : Hc'.lookup (pass.length + (j - base)) with
        | none => rw [hm] at hj; simp only at hj; rw [(hβ j hb.1 hb.2).2] at hj; cases hj
        | some obd =>
          rw [hm] at hj
          simp only [Option.some.injEq] at hj
          refine .inl ⟨pass.length + (j - base), obd, hm, hj.symm, ?_, ?_⟩
          · have : ¬ (pass.length + (j - base) < pass.length) := by omega
            simp only [r, backR]
            have e : Nat.blt (pass.length + (j - base)) pass.length = false := by
              cases h : Nat.blt (pass.length + (j - base)) pass.length with
              | false => rfl
              | true => rw [Nat.blt_eq] at h; omega
            rw [e]
            simp only [Bool.false_eq_true, if_false]
            omega
          · simp only [β']; rw [if_pos hb]
      · rw [if_neg hb] at hj
        exact .inr ⟨hj, by simp only [β']; rw [if_neg hb], idx_none pass 0 hi⟩
  have hownb : ∀ b, ownOf β' H' b → ownOf βd Hc' b ∨ (ownOf β H b ∧ ¬ ownOf βc Hc b) := by
    rintro b ⟨j, ob, a, h1, h2, rfl⟩
    rcases hcls j ob h1 with ⟨mm, obd, g1, g2, g3, g4⟩ | ⟨g1, g2, g3⟩
    · exact .inl ⟨mm, obd, a, g1, by rw [← g4]; exact h2, rfl⟩
    · rw [g2] at h2
      exact .inr ⟨⟨j, ob, a, g1, h2, rfl⟩, unp j ob a g1 h2 g3⟩
  have hownf : m = false → ∀ t b, ow X β' H' t b → fr Xc βd Hc' t b := by
    intro hmf t b h
    cases t with
    | true => exact .inl rfl
    | false =>
      refine .inr ?_
      rcases h with h | ⟨_, h⟩
      · rcases hownb b h with h | h
        · exact .inl h
        · exact .inr ⟨rfl, .inl h⟩
      · exact .inr ⟨rfl, .inr ⟨hmf, h⟩⟩
  have hownB : ∀ t b, ow X β' H' true b → fr Xc βd Hc' t b := by
    intro t b h
    cases t with
    | true => exact .inl rfl
    | false =>
      refine .inr ?_
      rcases h with h | ⟨h, _⟩
      · rcases hownb b h with h | h
        · exact .inl h
        · exact .inr ⟨rfl, .inl h⟩
      · cases h
  have hcr : ∀ (x : AV) (v : Value), VR w' βd (fr Xc βd Hc') x v → VR w' β' (ow X β' H') (resB m r x) v := by
    intro x v hx
    cases m with
    | false => exact hx.ren hback (hownf rfl)
    | true => exact (hx.ren hback (fun _ _ h => h)).bor hownB
  have hownbase : ∀ b, ownOf β' H' b → ownOf β H b ∨ w.heap.size ≤ b := by
    intro b hb
    rcases hownb b hb with h | h
    · rcases hown b h with h | h
      · exact .inl (ownc_own b h)
      · exact .inr h
    · exact .inl h.1
  have hextc : Ext w (ow X β H) w' (ow X β' H') := by
    refine ⟨hext.os, hext.tape, hext.output, hext.size, fun t b hb hn => ?_, fun t b hb ho => ?_, hext.grow, hext.maps⟩
    · refine hext.block true b hb (fun h => ?_)
      rcases h with h | ⟨h, _⟩
      · exact hn (.inl (ownc_own b h))
      · cases h
    · rcases ho with h | h
      · rcases hownbase b h with h | h
        · exact .inl h
        · omega
      · exact .inr h
  refine ⟨v, β', hen, ⟨?_, ?_, hextc, hmono', ?_, hownbase⟩, hcr _ _ hv⟩
  · intro j ob hj
    rcases hcls j ob hj with ⟨mm, obd, g1, g2, g3, g4⟩ | ⟨g1, g2, g3⟩
    · rcases hHd mm obd g1 with h | ⟨b, bs, cells, elem, h1, h2, h3⟩ | ⟨m1, m2, b, es, ck, m3, m4, m5, K, V, m6⟩
      rotate_left 2
      · subst g2
        have hz := obB_n m r obd
        refine .inr (.inr ⟨hz.2.1.trans m1, hz.2.2.trans m2, b, es, ck, by rw [g4]; exact m3, m4, by rw [hz.1]; exact m5, K, V, fun i hi => ⟨?_, (m6 i (by rw [hz.1] at hi; exact hi)).2⟩⟩)
        have h6 := (m6 i (by rw [hz.1] at hi; exact hi)).1
        cases m
        · show renL r (obd.f i) = _
          rw [h6]
          simp [renL, ren]
        · show borL (renL r (obd.f i)) = _
          rw [h6]
          simp [borL, renL, ren, bor, tru]
      · exact .inl ⟨by rw [g4]; exact h.1, by rw [g2, (obB_n m r obd).1]; exact h.2⟩
      · refine .inr (.inl ⟨b, bs, cells, elem, by rw [g4]; exact h1, h2, fun i hi q hq => ?_⟩)
        rw [g2] at hi hq ⊢
        rw [(obB_n m r obd).1] at hi
        rw [(obB_n m r obd).2.1] at hq
        obtain ⟨u, k1, k2, k3⟩ := h3 i hi q hq
        rw [(obB_n m r obd).2.1, obB_getD]
        exact ⟨u, k1, k2, hcr _ _ k3⟩
    · rcases hH j ob g1 with h | ⟨b, bs, cells, elem, h1, h2, h3⟩ | ⟨m1, m2, b, es, ck, m3, m4, m5⟩
      rotate_left 2
      · have hlt : b < w.heap.size := (Array.getElem?_eq_some_iff.1 m4).1
        have hnot := unp j ob _ g1 m3 g3
        refine .inr (.inr ⟨m1, m2, b, es, ck, by rw [g2]; exact m3, ?_, m5⟩)
        rw [hext.block true b hlt (fun h => h.elim hnot (fun h => by cases h.1))]
        exact m4
      · exact .inl ⟨by rw [g2]; exact h.1, h.2⟩
      · have hlt : b < w.heap.size := (Array.getElem?_eq_some_iff.1 h2).1
        have hnot := unp j ob _ g1 h1 g3
        refine .inr (.inl ⟨b, bs, cells, elem, by rw [g2]; exact h1, ?_, fun i hi q hq => ?_⟩)
        · rw [hext.block true b hlt (fun h => h.elim hnot (fun h => by cases h.1))]
          exact h2
        · obtain ⟨u, k1, k2, k3⟩ := h3 i hi q hq
          exact ⟨u, k1, k2, k3.ext hextc hmono'⟩
  · intro j j' ob ob' a a' h1 h2 h3 h4 h5
    rcases hcls j ob h1 with ⟨mm, obd, g1, g2, g3, g4⟩ | ⟨g1, g2, g3⟩ <;> rcases hcls j' ob' h2 with ⟨mm', obd', g1', g2', g3', g4'⟩ | ⟨g1', g2', g3'⟩
    · have := hSd mm mm' obd obd' a a' g1 g1' (by rw [← g4]; exact h3) (by rw [← g4']; exact h4) h5
      rw [← g3, ← g3', this]
    · exfalso
      rw [g2'] at h4
      have hd : ownOf βd Hc' a.block := ⟨mm, obd, a, g1, by rw [← g4]; exact h3, rfl⟩
      have ho : ownOf β H a'.block := ⟨j', ob', a', g1', h4, rfl⟩
      rcases hown _ hd with h | h
      · rw [h5] at h; exact unp j' ob' a' g1' h4 g3' h
      · have := owned_lt hH ho; omega
    · exfalso
      rw [g2] at h3
      have hd : ownOf βd Hc' a'.block := ⟨mm', obd', a', g1', by rw [← g4']; exact h4, rfl⟩
      have ho : ownOf β H a.block := ⟨j, ob, a, g1, h3, rfl⟩
      rcases hown _ hd with h | h
      · rw [← h5] at h; exact unp j ob a g1 h3 g3 h
      · have := owned_lt hH ho; omega
    · rw [g2] at h3
      rw [g2'] at h4
      exact hS j j' ob ob' a a' g1 g1' h3 h4 h5
  · intro j hj
    by_cases hb : base ≤ j ∧ j < base + 32
    · exact .inr hb
    · exact .inl (by simp only [β'] at hj; rw [if_neg hb] at hj; exact hj)

end
end Go.Proofs.Ytgdbnnmogddkaaa.Mach
