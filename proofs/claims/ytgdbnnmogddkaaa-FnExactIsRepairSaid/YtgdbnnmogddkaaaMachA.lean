/- An abstract machine over the model: abstract values, abstract heaps, how they stand to the model's values and worlds. No program in sight; nothing is assumed. -/
import Derived.WalkKit
namespace Go.Proofs.Ytgdbnnmogddkaaa.Mach
open Go

/-- Pure data: what is read and never written while we look at it. -/
inductive PV where
  | any
  | int (k : IntKind) (n : Int)
  | bool (b : Bool)
  | str (s : ByteArray)
  | nil
  | seq (t : Bool) (z n : Nat) (f : Nat → List PV)
  | fn (f : FuncId)

/-- Abstract values: pure data, or references into the abstract heap. -/
inductive AV where
  | p (v : PV)
  | ar (z o off n : Nat)
  | pt (z o row off : Nat)
  | ip (t : Bool) (cs : List PV)
  | mp (o : Nat)
  | agg (cs : List AV)
  | tup (vs : List AV)
  | cnd (g : Bool) (v : AV)

structure Ob where
  bx : Bool
  z : Nat
  n : Nat
  f : Nat → List AV

abbrev Hp := List (Nat × Ob)

abbrev anyA : AV := .p .any

def One (v : Value) : Prop := v.oneCell' = true

/-- A pure value and a value of the model, in a world; 'own': the blocks that the machine may write. -/
inductive PR (w : World) (own : Bool → Nat → Prop) : PV → Value → Prop
  | any (x : Value) : PR w own .any x
  | int (k : IntKind) (n : Int) : PR w own (.int k n) (.int k n)
  | bool (b : Bool) : PR w own (.bool b) (.bool b)
  | str (s : ByteArray) : PR w own (.str s) (.string s)
  | nil : PR w own .nil (.slice none 0 0)
  | seq0 (t : Bool) (z : Nat) (f : Nat → List PV) (a : Option Addr) (c : Nat) : PR w own (.seq t z 0 f) (.slice a 0 c)
  | seq (t : Bool) (z n : Nat) (f : Nat → List PV) (b off c : Nat) (g : Nat → Nat → Value) (hb : ¬ own t b) (hlt : b < w.heap.size) (hc : n ≤ c)
      (hcell : ∀ i, i < n → ∀ j, j < z → w.cell? ⟨b, off + (i * z + j), none⟩ = some (g i j))
      (hone : ∀ i, i < n → ∀ j, j < z → One (g i j))
      (h : ∀ i, i < n → ∀ j, j < z → PR w own ((f i).getD j .any) (g i j)) : PR w own (.seq t z n f) (.slice (some ⟨b, off, none⟩) n c)
  | fn (f : FuncId) : PR w own (.fn f) (.func (.func f) #[] #[])

inductive VR (w : World) (β : Nat → Option Addr) (own : Bool → Nat → Prop) : AV → Value → Prop
  | p (v : PV) (x : Value) (h : PR w own v x) : VR w β own (.p v) x
  | ar0 (z o off : Nat) (a : Option Addr) : VR w β own (.ar z o off 0) (.slice a 0 0)
  | ar (z o off n : Nat) (b base c : Nat) (cells : Array Value) (elem : TypeId) (fr : Nat × Nat) (hβ : β o = some ⟨b, base, none⟩)
      (hh : w.heap[b]? = some (.cells cells elem fr)) (hsz : base + (off + c) * z ≤ cells.size) (hc : n ≤ c) :
      VR w β own (.ar z o off n) (.slice (some ⟨b, base + off * z, none⟩) n c)
  | pt (z o row off : Nat) (b base : Nat) (hβ : β o = some ⟨b, base, none⟩) : VR w β own (.pt z o row off) (.pointer (some ⟨b, base + (row * z + off), none⟩))
  | ip (t : Bool) (cs : List PV) (b off : Nat) (g : Nat → Value) (hb : ¬ own t b) (hlt : b < w.heap.size)
      (hcell : ∀ j, j < cs.length → w.cell? ⟨b, off + j, none⟩ = some (g j)) (hone : ∀ j, j < cs.length → One (g j))
      (h : ∀ j, j < cs.length → PR w own (cs.getD j .any) (g j)) : VR w β own (.ip t cs) (.pointer (some ⟨b, off, none⟩))
  | mp (o b : Nat) (hβ : β o = some ⟨b, 0, none⟩) (hm : ∃ es ck, w.heap[b]? = some (.map es ck)) : VR w β own (.mp o) (.map (some b))
  | agg (cs : List AV) (vs : Array Value) (hl : cs.length = vs.size) (hone : ∀ j, j < cs.length → One (vs.getD j undef))
      (h : ∀ j, j < cs.length → VR w β own (cs.getD j anyA) (vs.getD j undef)) : VR w β own (.agg cs) (.agg vs)
  | tup (cs : List AV) (vs : Array Value) (hl : cs.length = vs.size)
      (h : ∀ j, j < cs.length → VR w β own (cs.getD j anyA) (vs.getD j undef)) : VR w β own (.tup cs) (.tuple vs)
  | cnd (g : Bool) (v : AV) (x : Value) (h : g = true → VR w β own v x) (h' : g = false → x = undef) : VR w β own (.cnd g v) x

theorem VR.any {w : World} {β : Nat → Option Addr} {own : Bool → Nat → Prop} (x : Value) : VR w β own anyA x := .p _ _ (.any x)

/-- The blocks of the live objects. -/
def ownOf (β : Nat → Option Addr) (H : Hp) (b : Nat) : Prop := ∃ o ob a, H.lookup o = some ob ∧ β o = some a ∧ a.block = b

/-- What pure data must not touch: the machine's own blocks; and, where it is to last (tag false), 'X' as well. -/
def ow (X : Nat → Prop) (β : Nat → Option Addr) (H : Hp) (t : Bool) (b : Nat) : Prop := ownOf β H b ∨ (t = false ∧ X b)

/-- A map from integers to integers: its entries in the order of their coming. -/
def MapAt (w : World) (β : Nat → Option Addr) (o : Nat) (ob : Ob) : Prop :=
  ob.z = 0 ∧ ob.bx = false ∧ ∃ (b : Nat) (es : Array MapEntry) (clock : Nat), β o = some ⟨b, 0, none⟩ ∧ w.heap[b]? = some (.map es clock) ∧ es.size = ob.n ∧
    ∃ K V : Nat → Int, ∀ i, i < ob.n → ob.f i = [.p (.int .i64 (K i)), .p (.int .i64 (V i))] ∧ ∃ e, es[i]? = some e ∧ e.key = .int .i64 (K i) ∧ e.val = .int .i64 (V i)

/-- Every live object lies in memory as the abstract heap says. -/
def HR (w : World) (β : Nat → Option Addr) (own : Bool → Nat → Prop) (H : Hp) : Prop :=
  ∀ o ob, H.lookup o = some ob → (β o = none ∧ ob.n = 0) ∨
    (∃ b base cells elem, β o = some ⟨b, base, none⟩ ∧ w.heap[b]? = some (.cells cells elem (0, 0)) ∧
      ∀ i, i < ob.n → ∀ j, j < ob.z → ∃ v, cells[base + (i * ob.z + j)]? = some v ∧ One v ∧ VR w β own ((ob.f i).getD j anyA) v) ∨ MapAt w β o ob

/-- No two live objects share a block. -/
def Sep (β : Nat → Option Addr) (H : Hp) : Prop :=
  ∀ o o' ob ob' a a', H.lookup o = some ob → H.lookup o' = some ob' → β o = some a → β o' = some a' → a.block = a'.block → o = o'

/-- From one world to a later one: whatever is not owned is as it was; what is owned later was owned or is new. -/
structure Ext (w : World) (own : Bool → Nat → Prop) (w' : World) (own' : Bool → Nat → Prop) : Prop where
  os : w'.os = w.os
  tape : w'.tape = w.tape
  output : w'.output = w.output
  size : w.heap.size ≤ w'.heap.size
  block : ∀ t b, b < w.heap.size → ¬ own t b → w'.heap[b]? = w.heap[b]?
  owns : ∀ t b, b < w.heap.size → own' t b → own t b
  grow : ∀ (b : Nat) (c : Array Value) (e : TypeId) (f : Nat × Nat), w.heap[b]? = some (Obj.cells c e f) →
    ∃ (c' : Array Value) (e' : TypeId) (f' : Nat × Nat), w'.heap[b]? = some (Obj.cells c' e' f') ∧ c.size ≤ c'.size
  maps : ∀ (b : Nat) (es : Array MapEntry) (ck : Nat), w.heap[b]? = some (Obj.map es ck) → ∃ es' ck', w'.heap[b]? = some (Obj.map es' ck')

theorem Ext.refl (w : World) (own : Bool → Nat → Prop) : Ext w own w own :=
  ⟨rfl, rfl, rfl, Nat.le_refl _, fun _ _ _ _ => rfl, fun _ _ _ h => h, fun _ c e f h => ⟨c, e, f, h, Nat.le_refl _⟩, fun _ es ck h => ⟨es, ck, h⟩⟩

theorem Ext.trans {w w' w'' : World} {o o' o'' : Bool → Nat → Prop} (h : Ext w o w' o') (k : Ext w' o' w'' o'') : Ext w o w'' o'' where
  os := k.os.trans h.os
  tape := k.tape.trans h.tape
  output := k.output.trans h.output
  size := Nat.le_trans h.size k.size
  block t b hb hn := (k.block t b (Nat.lt_of_lt_of_le hb h.size) (fun ho => hn (h.owns t b hb ho))).trans (h.block t b hb hn)
  owns t b hb ho := h.owns t b hb (k.owns t b (Nat.lt_of_lt_of_le hb h.size) ho)
  grow b c e f hc := by
    obtain ⟨c', e', f', h1, h2⟩ := h.grow b c e f hc
    obtain ⟨c2, e2, f2, h3, h4⟩ := k.grow b c' e' f' h1
    exact ⟨c2, e2, f2, h3, Nat.le_trans h2 h4⟩
  maps b es ck hm := by
    obtain ⟨es', ck', h1⟩ := h.maps b es ck hm
    exact k.maps b es' ck' h1

theorem Ext.cell {w w' : World} {own own' : Bool → Nat → Prop} (h : Ext w own w' own') {a : Addr} {u : Value} {t : Bool} (hb : ¬ own t a.block) (hlt : a.block < w.heap.size)
    (hc : w.cell? a = some u) : w'.cell? a = some u := by
  rw [← hc]; exact World.cell?_of_block (h.block _ _ hlt hb)

theorem PR.ext {w w' : World} {own own' : Bool → Nat → Prop} (h : Ext w own w' own') {v : PV} {x : Value} (hr : PR w own v x) : PR w' own' v x := by
  induction hr with
  | any x => exact .any x
  | int k n => exact .int k n
  | bool b => exact .bool b
  | str s => exact .str s
  | nil => exact .nil
  | seq0 t z f a c => exact .seq0 t z f a c
  | seq t z n f b off c g hb hlt hc hcell hone _ ih =>
    exact .seq t z n f b off c g (fun ho => hb (h.owns t b hlt ho)) (Nat.lt_of_lt_of_le hlt h.size) hc
      (fun i hi j hj => h.cell (a := ⟨b, _, none⟩) hb hlt (hcell i hi j hj)) hone ih
  | fn f => exact .fn f

theorem VR.ext {w w' : World} {β β' : Nat → Option Addr} {own own' : Bool → Nat → Prop} (h : Ext w own w' own') (hβ : ∀ o a, β o = some a → β' o = some a)
    {v : AV} {x : Value} (hr : VR w β own v x) : VR w' β' own' v x := by
  induction hr with
  | p v x hp => exact .p v x (hp.ext h)
  | ar0 z o off a => exact .ar0 z o off a
  | ar z o off n b base c cells elem fr hb hh hsz hc =>
    obtain ⟨c', e', f', h1, h2⟩ := h.grow b cells elem fr hh
    exact .ar z o off n b base c c' e' f' (hβ _ _ hb) h1 (Nat.le_trans hsz h2) hc
  | pt z o row off b base hb => exact .pt z o row off b base (hβ _ _ hb)
  | ip t cs b off g hb hlt hcell hone hp =>
    exact .ip t cs b off g (fun ho => hb (h.owns t b hlt ho)) (Nat.lt_of_lt_of_le hlt h.size) (fun j hj => h.cell (a := ⟨b, _, none⟩) hb hlt (hcell j hj)) hone (fun j hj => (hp j hj).ext h)
  | mp o b hb hm =>
    obtain ⟨es, ck, hm⟩ := hm
    exact .mp o b (hβ _ _ hb) (h.maps b es ck hm)
  | agg cs vs hl hone _ ih => exact .agg cs vs hl hone ih
  | tup cs vs hl _ ih => exact .tup cs vs hl ih
  | cnd g v x _ h' ih => exact .cnd g v x ih h'

/-! ### Cells of a value -/
def AV.cells : AV → Option (List AV)
  | .agg cs => some cs
  | .p .any => none
  | .tup _ => none
  | .cnd _ _ => none
  | v => some [v]

theorem cells_rel {w : World} {β : Nat → Option Addr} {own : Bool → Nat → Prop} {v : AV} {x : Value} {cs : List AV} (h : VR w β own v x) (hc : v.cells = some cs) :
    cs.length = x.cells.size ∧ ∀ j, j < cs.length → One (x.cells.getD j undef) ∧ VR w β own (cs.getD j anyA) (x.cells.getD j undef) := by
  have one : ∀ {u : AV} {y : Value}, VR w β own u y → y.oneCell' = true → ([u] : List AV).length = (#[y] : Array Value).size ∧
      ∀ j, j < ([u] : List AV).length → One ((#[y] : Array Value).getD j undef) ∧ VR w β own (([u] : List AV).getD j anyA) ((#[y] : Array Value).getD j undef) := by
    intro u y hu hy
    refine ⟨rfl, fun j hj => ?_⟩
    have : j = 0 := by simpa using hj
    subst this
    exact ⟨hy, hu⟩
  cases h with
  | agg cs' vs hl hone h =>
    simp only [AV.cells, Option.some.injEq] at hc
    subst hc
    exact ⟨hl, fun j hj => ⟨hone j hj, h j hj⟩⟩
  | p v x hp =>
    cases hp <;> simp only [AV.cells, Option.some.injEq, reduceCtorEq] at hc <;> subst hc
    · exact one (.p _ _ (.int _ _)) rfl
    · exact one (.p _ _ (.bool _)) rfl
    · exact one (.p _ _ (.str _)) rfl
    · exact one (.p _ _ .nil) rfl
    · exact one (.p _ _ (.seq0 _ _ _ _ _)) rfl
    · rename_i t z n f b off c g hb hlt hc' hcell hone hp
      exact one (.p _ _ (.seq _ _ _ _ _ _ _ g hb hlt hc' hcell hone hp)) rfl
    · exact one (.p _ _ (.fn _)) rfl
  | ar0 z o off a => simp only [AV.cells, Option.some.injEq] at hc; subst hc; exact one (.ar0 _ _ _ _) rfl
  | ar z o off n b base c cells elem fr hb hh hsz hc' =>
    simp only [AV.cells, Option.some.injEq] at hc; subst hc; exact one (.ar _ _ _ _ _ _ _ _ _ _ hb hh hsz hc') rfl
  | pt z o row off b base hb => simp only [AV.cells, Option.some.injEq] at hc; subst hc; exact one (.pt _ _ _ _ _ _ hb) rfl
  | ip t cs' b off g hb hlt hcell hone hp =>
    simp only [AV.cells, Option.some.injEq] at hc; subst hc; exact one (.ip _ _ _ _ g hb hlt hcell hone hp) rfl
  | mp o b hb hm => simp only [AV.cells, Option.some.injEq] at hc; subst hc; exact one (.mp _ _ hb hm) rfl
  | tup => simp [AV.cells] at hc
  | cnd => simp [AV.cells] at hc

/-- What a zero value of the model is as pure data. -/
def absV : Value → PV
  | .int k n => .int k n
  | .bool b => .bool b
  | .string s => .str s
  | .slice none 0 0 => .nil
  | _ => .any

theorem absV_rel (w : World) (own : Bool → Nat → Prop) (v : Value) : PR w own (absV v) v := by
  unfold absV
  split
  · exact .int _ _
  · exact .bool _
  · exact .str _
  · exact .nil
  · exact .any _

end Go.Proofs.Ytgdbnnmogddkaaa.Mach
