/- The abstract machine: what each operation does to abstract values and the abstract heap, and that the model's operation does just that. Each obligation that an operation lays is a proposition that the user proves. -/
import Derived.Test.YtgdbnnmogddkaaaMachB
namespace Go.Proofs.Ytgdbnnmogddkaaa.Mach
open Go
set_option linter.unusedVariables false
set_option linter.unusedSimpArgs false

def tab {α : Type} : Nat → (Nat → α) → List α
  | 0, _ => []
  | n + 1, f => f 0 :: tab n (fun j => f (j + 1))

theorem tab_length {α : Type} (n : Nat) : ∀ f : Nat → α, (tab n f).length = n := by
  induction n with
  | zero => intro f; rfl
  | succ n ih => intro f; simp [tab, ih]

theorem tab_getD {α : Type} (n : Nat) : ∀ (f : Nat → α) (j : Nat) (d : α), j < n → (tab n f).getD j d = f j := by
  induction n with
  | zero => intro f j d h; omega
  | succ n ih =>
    intro f j d h
    cases j with
    | zero => simp [tab]
    | succ j => simpa [tab] using ih (fun j => f (j + 1)) j d (by omega)

theorem tab_map {α γ : Type} (g : α → γ) (n : Nat) : ∀ f : Nat → α, (tab n f).map g = tab n (fun j => g (f j)) := by
  induction n with
  | zero => intro f; rfl
  | succ n ih => intro f; simp [tab, ih]

def isAggD : TypeDesc → Bool
  | .struct _ => true
  | .array _ _ => true
  | _ => false

structure Eff where
  v : AV
  wr : List (Nat × Option Ob)
  ob : List Prop

def happ (H : Hp) : List (Nat × Option Ob) → Hp
  | [] => H
  | (k, some ob) :: r => happ (hput k ob H) r
  | (k, none) :: r => happ (hdel k H) r

def imin : IntKind → Int
  | .i8 => -128 | .i16 => -32768 | .i32 => -2147483648 | .i64 => -9223372036854775808
  | _ => 0
def imax : IntKind → Int
  | .i8 => 127 | .i16 => 32767 | .i32 => 2147483647 | .i64 => 9223372036854775807
  | .u8 => 255 | .u16 => 65535 | .u32 => 4294967295 | .u64 => 18446744073709551615

theorem wrap_in {k : IntKind} {n : Int} (h0 : imin k ≤ n) (h1 : n ≤ imax k) : k.wrap n = n := by
  cases k <;> simp only [imin, imax] at h0 h1 <;> simp only [IntKind.wrap, IntKind.bits, IntKind.signed] <;> simp <;> omega

def bitI (op : BinOp) (k : IntKind) (x y : Int) : Int :=
  match op with
  | .and => k.wrap (BitVec.ofInt k.bits x &&& BitVec.ofInt k.bits y).toNat
  | .or => k.wrap (BitVec.ofInt k.bits x ||| BitVec.ofInt k.bits y).toNat
  | .xor => k.wrap (BitVec.ofInt k.bits x ^^^ BitVec.ofInt k.bits y).toNat
  | _ => k.wrap (BitVec.ofInt k.bits x &&& ~~~BitVec.ofInt k.bits y).toNat

def shlI (k : IntKind) (x y : Int) : Int := k.wrap (x * 2 ^ (min y.toNat k.bits))
def shrI (k : IntKind) (x y : Int) : Int := x.fdiv (2 ^ (min y.toNat k.bits))

def wr1 (nw : Bool) (k : IntKind) (n : Int) : PV × List Prop := if nw then (.int k n, [imin k ≤ n, n ≤ imax k]) else (.int k (k.wrap n), [])

/-- Integers; 'nw': the user says that nothing wraps. -/
def binI (nw : Bool) (op : BinOp) (k : IntKind) (x y : Int) : Option (PV × List Prop) :=
  match op with
  | .add => some (wr1 nw k (x + y))
  | .sub => some (wr1 nw k (x - y))
  | .mul => some (wr1 nw k (x * y))
  | .quo => some (if nw then (.int k (x / y), [0 ≤ x, 0 < y, x / y ≤ imax k]) else (.int k (k.wrap (x.tdiv y)), [y ≠ 0]))
  | .rem => some (if nw then (.int k (x % y), [0 ≤ x, 0 < y]) else (.int k (x.tmod y), [y ≠ 0]))
  | .and => some (.int k (bitI .and k x y), [])
  | .or => some (.int k (bitI .or k x y), [])
  | .xor => some (.int k (bitI .xor k x y), [])
  | .andNot => some (.int k (bitI .andNot k x y), [])
  | .eql => some (.bool (x == y), [])
  | .neq => some (.bool (x != y), [])
  | .lss => some (.bool (decide (x < y)), [])
  | .leq => some (.bool (decide (x ≤ y)), [])
  | .gtr => some (.bool (decide (x > y)), [])
  | .geq => some (.bool (decide (x ≥ y)), [])
  | _ => none

def ikEq : IntKind → IntKind → Bool
  | .i8, .i8 | .i16, .i16 | .i32, .i32 | .i64, .i64 | .u8, .u8 | .u16, .u16 | .u32, .u32 | .u64, .u64 => true
  | _, _ => false
theorem ikEq_eq {a b : IntKind} (h : ikEq a b = true) : a = b := by cases a <;> cases b <;> simp_all [ikEq]

/-- Cells of a struct, compared. -/
def eqC (d : TypeDesc) (x y : AV) : Option Bool :=
  match d, x, y with
  | .int _, .p (.int k a), .p (.int k' b) => if ikEq k k' then some (a == b) else none
  | .bool, .p (.bool a), .p (.bool b) => some (a == b)
  | _, _, _ => none
def eqFs (P : Program) (xs ys : List AV) : List Field → Nat → Option Bool
  | [], _ => some true
  | f :: fs, off =>
    if f.offset == off && f.name != "_" && Nat.blt off xs.length && Nat.blt off ys.length then
      match P.underlying f.type with
      | some d =>
        match eqC d (xs.getD off anyA) (ys.getD off anyA), eqFs P xs ys fs (off + 1) with
        | some b, some r => some (b && r)
        | _, _ => none
      | none => none
    else none

def evBin (P : Program) (nw : Bool) (op : BinOp) (t : TypeId) (x y : AV) : Option Eff :=
  match x, y with
  | .p (.int k a), .p (.int k' b) =>
    match op with
    | .shl => some ⟨.p (.int k (shlI k a b)), [], [0 ≤ b]⟩
    | .shr => some ⟨.p (.int k (shrI k a b)), [], [0 ≤ b]⟩
    | _ => if ikEq k k' then (binI nw op k a b).map fun r => ⟨.p r.1, [], r.2⟩ else none
  | .p (.str a), .p (.str b) =>
    match op with
    | .add => some ⟨.p (.str (a ++ b)), [], [a.size + b.size ≤ 9223372036854775807]⟩
    | .eql => some ⟨.p (.bool (a.toList == b.toList)), [], []⟩
    | .neq => some ⟨.p (.bool (!(a.toList == b.toList))), [], []⟩
    | _ => none
  | .p (.bool a), .p (.bool b) =>
    match P.underlying t with
    | some .bool =>
      match op with
      | .eql => some ⟨.p (.bool (a == b)), [], []⟩
      | .neq => some ⟨.p (.bool (!(a == b))), [], []⟩
      | _ => none
    | _ => none
  | .agg xs, .agg ys =>
    if !P.stoodInHeld t && !P.eqGuardType P.depth t then
      match P.underlying t with
      | some (.struct fs) =>
        match op with
        | .eql => (eqFs P xs ys fs.toList 0).map fun b => ⟨.p (.bool b), [], []⟩
        | .neq => (eqFs P xs ys fs.toList 0).map fun b => ⟨.p (.bool (!b)), [], []⟩
        | _ => none
      | _ => none
    else none
  | _, _ => none

def unC (v : AV) : AV × (Bool → List Prop) :=
  match v with
  | .cnd g u => (u, fun _ => [g = true])
  | v => (v, fun _ => [])

def evPick (c : Bool) (a b : AV) : Option Eff :=
  match unC a, unC b with
  | (.p (.bool x), f), (.p (.bool y), g) => some ⟨.p (.bool (cond c x y)), [], (f true).map (c = true → ·) ++ (g true).map (c = false → ·)⟩
  | (.p (.int k x), f), (.p (.int k' y), g) =>
    if ikEq k k' then some ⟨.p (.int k (cond c x y)), [], (f true).map (c = true → ·) ++ (g true).map (c = false → ·)⟩ else none
  | _, _ => none

def evLoad (P : Program) (L : Hp) (t : TypeId) (a : AV) : Option Eff :=
  match P.underlying t, P.info? t with
  | some d, some i =>
    match a with
    | .pt z o row off =>
      match L.lookup o with
      | some ob =>
        if ob.z == z && Nat.ble (off + i.size) z then
          if isAggD d then some ⟨.agg (tab i.size fun j => (ob.f row).getD (off + j) anyA), [], [row < ob.n]⟩
          else if Nat.ble (off + 1) z then some ⟨(ob.f row).getD off anyA, [], [row < ob.n]⟩ else none
        else none
      | none => none
    | .ip tg cs =>
      if isAggD d then (if Nat.ble i.size cs.length then some ⟨.agg (tab i.size fun j => .p (cs.getD j .any)), [], []⟩ else none)
      else if Nat.ble 1 cs.length then some ⟨.p (cs.getD 0 .any), [], []⟩ else none
    | _ => none
  | _, _ => none

def splice (z off : Nat) (old new : List AV) : List AV :=
  tab z fun j => if Nat.ble off j && Nat.blt j (off + new.length) then new.getD (j - off) anyA else old.getD j anyA

def setRowF (ob : Ob) (row : Nat) (r : List AV) : Nat → List AV := if ob.bx then (fun _ => r) else fun i => if i = row then r else ob.f i

def evStore (P : Program) (L : Hp) (t : TypeId) (a v : AV) : Option Eff :=
  match P.info? t with
  | some i =>
    match a, v.cells with
    | .pt z o row off, some cs =>
      match L.lookup o with
      | some ob =>
        if ob.z == z && Nat.ble (off + cs.length) z && cs.length == i.size && Nat.blt 0 cs.length then
          some ⟨anyA, [(o, some { ob with f := setRowF ob row (splice z off (ob.f row) cs) })], [row < ob.n, ob.bx = true → ob.n = 1]⟩
        else none
      | none => none
    | _, _ => none
  | none => none

def zeroCells (i : TypeInfo) : Option (List AV) :=
  match i.zero with
  | some z => if z.cells.toList.all (·.oneCell') && z.cells.size == i.size then some (z.cells.toList.map fun v => .p (absV v)) else none
  | none => none

def evFieldAddr (P : Program) (s : TypeId) (x : AV) (f : Nat) : Option Eff :=
  match P.underlying s with
  | some (.struct fs) =>
    match fs[f]? with
    | some fl =>
      match P.info? fl.type with
      | some i =>
        if i.size == 0 then none else
        match x with
        | .pt z o row off => some ⟨.pt z o row (off + fl.offset), [], []⟩
        | .ip tg cs => if Nat.ble fl.offset cs.length then some ⟨.ip tg (cs.drop fl.offset), [], []⟩ else none
        | _ => none
      | none => none
    | none => none
  | _ => none

def evField (P : Program) (s : TypeId) (x : AV) (f : Nat) : Option Eff :=
  match P.underlying s with
  | some (.struct fs) =>
    match fs[f]? with
    | some fl =>
      match P.underlying fl.type, P.info? fl.type with
      | some d, some i =>
        match x with
        | .agg cs =>
          if Nat.ble (fl.offset + i.size) cs.length && Nat.ble (fl.offset + 1) cs.length then
            if isAggD d then some ⟨.agg (tab i.size fun j => cs.getD (fl.offset + j) anyA), [], []⟩ else some ⟨cs.getD fl.offset anyA, [], []⟩
          else none
        | _ => none
      | _, _ => none
    | none => none
  | _ => none

def evIndexAddr (P : Program) (t : TypeId) (x ix : AV) : Option Eff :=
  match ix with
  | .p (.int _ k) =>
    match P.underlying t with
    | some (.slice e) =>
      match P.info? e with
      | some i =>
        match x with
        | .p (.seq tg z n f) => if z == i.size then some ⟨.ip tg (tab z fun j => (f k.toNat).getD j .any), [], [0 ≤ k, k < (n : Int)]⟩ else none
        | .ar z o off n => if z == i.size then some ⟨.pt z o (k.toNat + off) 0, [], [0 ≤ k, k < (n : Int)]⟩ else none
        | _ => none
      | none => none
    | some (.array len e) =>
      match P.info? e with
      | some i =>
        match x with
        | .pt z o row off => some ⟨.pt z o row (off + k.toNat * i.size), [], [0 ≤ k, k < (len : Int)]⟩
        | _ => none
      | none => none
    | _ => none
  | _ => none

def evIndex (P : Program) (t : TypeId) (x ix : AV) : Option Eff :=
  match ix with
  | .p (.int _ k) =>
    match P.underlying t, x with
    | some .string, .p (.str s) => some ⟨.p (.int .u8 ((s.data.getD k.toNat 0).toNat : Nat)), [], [0 ≤ k, k < (s.size : Int)]⟩
    | some (.array len e), .agg cs =>
      match P.underlying e, P.info? e with
      | some d, some i =>
        if isAggD d then none
        else if Nat.ble (k.toNat * i.size + 1) cs.length then some ⟨cs.getD (k.toNat * i.size) anyA, [], [0 ≤ k, k < (len : Int)]⟩ else none
      | _, _ => none
    | _, _ => none
  | _ => none

def evLen (P : Program) (t : TypeId) (x : AV) : Option Eff :=
  match P.underlying t, x with
  | some .string, .p (.str s) => some ⟨.p (.int .i64 (s.size : Int)), [], []⟩
  | some (.slice _), .p (.seq _ _ n _) => some ⟨.p (.int .i64 (n : Int)), [], []⟩
  | some (.slice _), .p .nil => some ⟨.p (.int .i64 ((0 : Nat) : Int)), [], []⟩
  | some (.slice _), .ar _ _ _ n => some ⟨.p (.int .i64 (n : Int)), [], []⟩
  | _, _ => none

def evMake (P : Program) (id : Nat) (t : TypeId) (l c : AV) : Option Eff :=
  match P.underlying t with
  | some (.slice e) =>
    match P.info? e with
    | some i =>
      match zeroCells i, l, c with
      | some zs, .p (.int _ n), .p (.int _ m) =>
        some ⟨.ar i.size id 0 n.toNat, [(id, some ⟨false, i.size, n.toNat, fun _ => zs⟩)], [0 ≤ n, n ≤ m, m * i.bytes ≤ 281474976710656, m ≤ 9223372036854775807]⟩
      | _, _, _ => none
    | none => none
  | _ => none

def boundA (x : Option AV) (d : Int) : Option Int :=
  match x with
  | none => some d
  | some (.p (.int _ n)) => some n
  | _ => none

def evSlice (P : Program) (t : TypeId) (x : AV) (lo hi : Option AV) : Option Eff :=
  match P.underlying t with
  | some .string =>
    match x with
    | .p (.str s) =>
      match boundA lo 0, boundA hi (s.size : Nat) with
      | some l, some h => some ⟨.p (.str (s.extract l.toNat h.toNat)), [], [0 ≤ l, l ≤ h, h ≤ (s.size : Int)]⟩
      | _, _ => none
    | _ => none
  | some (.slice e) =>
    match P.info? e with
    | some i =>
      match x with
      | .p (.seq tg z n f) =>
        match boundA lo 0, boundA hi (n : Nat) with
        | some l, some h => if z == i.size then some ⟨.p (.seq tg z (h.toNat - l.toNat) fun j => f (j + l.toNat)), [], [0 ≤ l, l ≤ h, h ≤ (n : Int)]⟩ else none
        | _, _ => none
      | .ar z o off n =>
        match boundA lo 0, boundA hi (n : Nat) with
        | some l, some h => if z == i.size then some ⟨.ar z o (l.toNat + off) (h.toNat - l.toNat), [], [0 ≤ l, l ≤ h, h ≤ (n : Int)]⟩ else none
        | _, _ => none
      | _ => none
    | none => none
  | _ => none

/-- What a slice holds: its length and its rows. -/
def rowsOf (L : Hp) (z : Nat) : AV → Option (Nat × (Nat → List AV) × List Prop)
  | .p .nil => some (0, (fun _ => []), [])
  | .p (.seq _ z' n f) => if z' == z then some (n, (fun i => tab z fun j => .p ((f i).getD j .any)), []) else none
  | .ar z' o off n => if z' == z then (L.lookup o).bind fun ob => if ob.z == z then some (n, (fun i => tab z fun j => (ob.f (i + off)).getD j anyA), [n + off ≤ ob.n]) else none else none
  | _ => none

def evAppend (P : Program) (id : Nat) (L : Hp) (t t' : TypeId) (s x : AV) : Option Eff :=
  if t == t' then
  match P.underlying t with
  | some (.slice e) =>
    match P.info? e with
    | some i =>
      match zeroCells i, rowsOf L i.size x with
      | some _, some (m, fx, obx) =>
        if i.size == 0 then none else
        match s with
        | .p .nil => some ⟨.ar i.size id 0 m, [(id, some ⟨false, i.size, m, fx⟩)], obx ++ [m * i.bytes ≤ 140737488355328, m ≤ 9223372036854775807]⟩
        | .ar z o off n =>
          match L.lookup o with
          | some ob =>
            if z == i.size && ob.z == z && !ob.bx then
              some ⟨.ar z id 0 (n + m), [(o, none), (id, some ⟨false, z, n + m, fun j => if j < n then ob.f (j + off) else fx (j - n)⟩)],
                obx ++ [n + off ≤ ob.n, (n + m) * i.bytes ≤ 140737488355328, n + m ≤ 9223372036854775807]⟩
            else none
          | none => none
        | _ => none
      | _, _ => none
    | none => none
  | _ => none
  else none

def fillA (place : Nat → Option (Nat × Nat)) (cells : List AV) : List (Nat × AV) → Option (List AV)
  | [] => some cells
  | (i, v) :: rest =>
    match place i, v.cells with
    | some (off, size), some cs =>
      if cs.length == size && Nat.ble (off + cs.length) cells.length then fillA place (splice cells.length off cells cs) rest else none
    | _, _ => none

def evBuild (P : Program) (t : TypeId) (parts : List (Nat × AV)) : Option Eff :=
  match P.underlying t, P.info? t with
  | some (.struct fs), some i =>
    match zeroCells i with
    | some zs =>
      match fs.toList.mapM (fun f => (P.info? f.type).map fun i => (f.offset, i.size)) with
      | some places => (fillA (fun j => places[j]?) zs parts).map fun cs => ⟨.agg cs, [], []⟩
      | none => none
    | none => none
  | some (.array _ e), some i =>
    match zeroCells i, P.info? e with
    | some zs, some ie => (fillA (fun j => some (j * ie.size, ie.size)) zs parts).map fun cs => ⟨.agg cs, [], []⟩
    | _, _ => none
  | _, _ => none

/-- The row of a slice of one is the first, whatever is asked. -/
def rowIx : Nat → Nat → Nat
  | 1, _ => 0
  | _, r => r
theorem rowIx_lt {n r : Nat} (h : r < n) : rowIx n r = r := by
  unfold rowIx
  split <;> omega

def evBuildSlice (P : Program) (id : Nat) (t : TypeId) (len : Nat) (parts : List (Nat × AV)) : Option Eff :=
  match P.underlying t with
  | some (.slice e) =>
    match P.info? e with
    | some i =>
      match zeroCells i with
      | some zs =>
        if i.size == 0 then none else
        if Nat.ble (len * i.size) 1024 then
          (fillA (fun j => some (j * i.size, i.size)) (tab (len * i.size) fun j => zs.getD (j % i.size) anyA) parts).map fun cs =>
            ⟨.ar i.size id 0 len, [(id, some ⟨false, i.size, len, fun r => tab i.size fun j => cs.getD (rowIx len r * i.size + j) anyA⟩)], []⟩
        else none
      | none => none
    | none => none
  | _ => none

def evMinMax (mx : Bool) (x y : AV) : Option Eff :=
  match x, y with
  | .p (.int k a), .p (.int _ b) => some ⟨.p (.int k (if mx then (if b > a then b else a) else (if b < a then b else a))), [], []⟩
  | _, _ => none

def evBuiltin (P : Program) (id : Nat) (L : Hp) (b : Builtin) (args : List AV) (ts : List TypeId) : Option Eff :=
  match args with
  | [x] => match b, ts with
    | .len, [t] => evLen P t x
    | _, _ => none
  | [x, y] => match b with
    | .append => match ts with
      | [t, t'] => evAppend P id L t t' x y
      | _ => none
    | .min => evMinMax false x y
    | .max => evMinMax true x y
    | _ => none
  | _ => none

def byteI (r : List AV) : Int := match r with
  | .p (.int _ n) :: _ => n
  | _ => 0
/-- The text of bytes. -/
def bytesOf (m : Nat) (f : Nat → List AV) : ByteArray := ((List.range m).map fun i => byteI (f i)).foldl (fun r n => r.push (UInt8.ofNat n.toNat)) ByteArray.empty
def okBytes (m : Nat) (f : Nat → List AV) : Prop := ∀ i, i < m → ∃ n, f i = [.p (.int .u8 n)]
def evStr (P : Program) (L : Hp) (e : TypeId) (x : AV) : Option Eff :=
  match P.underlying e, rowsOf L 1 x with
  | some (.int .u8), some (m, fx, ob) => some ⟨.p (.str (bytesOf m fx)), [], ob ++ [okBytes m fx]⟩
  | _, _ => none

/-- The first entry of a map with a key. -/
def mgo (K V : Nat → Int) (a : Int) : Nat → Nat → Option (Nat × Int)
  | 0, _ => none
  | m + 1, i => if K i = a then some (i, V i) else mgo K V a m (i + 1)
def mhas (K : Nat → Int) (n : Nat) (a : Int) : Bool := (mgo K (fun _ => 0) a n 0).isSome
def mget (K V : Nat → Int) (n : Nat) (a d : Int) : Int := match mgo K V a n 0 with | some x => x.2 | none => d

def keyA (r : List AV) : Int := match r with
  | .p (.int _ k) :: _ => k
  | _ => 0
def valA (r : List AV) : Int := match r with
  | _ :: .p (.int _ v) :: _ => v
  | _ => 0

def i64T (P : Program) (t : TypeId) : Bool := match P.underlying t with
  | some (.int .i64) => true
  | _ => false

/-- A new key. -/
def evMapPut (P : Program) (L : Hp) (t : TypeId) (m k v : AV) : Option Eff :=
  match m, k, v with
  | .mp o, .p (.int .i64 a), .p (.int .i64 b) =>
    match L.lookup o, P.underlying t with
    | some ob, some (.map kt _) =>
      if ob.z == 0 && !ob.bx && i64T P kt then
        some ⟨anyA, [(o, some ⟨false, 0, ob.n + 1, fun i => if i < ob.n then ob.f i else [.p (.int .i64 a), .p (.int .i64 b)]⟩)], [mhas (fun i => keyA (ob.f i)) ob.n a = false]⟩
      else none
    | _, _ => none
  | _, _, _ => none

def evLookup (P : Program) (L : Hp) (t : TypeId) (m k : AV) (ok : Bool) : Option Eff :=
  match m, k with
  | .mp o, .p (.int .i64 a) =>
    match L.lookup o, P.underlying t with
    | some ob, some (.map kt et) =>
      if ob.z == 0 && !ob.bx && i64T P kt then
        match (P.info? et).bind (·.zero) with
        | some (.int .i64 d) =>
          match ok with
          | true => some ⟨.tup [.p (.int .i64 (mget (fun i => keyA (ob.f i)) (fun i => valA (ob.f i)) ob.n a d)), .p (.bool (mhas (fun i => keyA (ob.f i)) ob.n a))], [], []⟩
          | false => some ⟨.p (.int .i64 (mget (fun i => keyA (ob.f i)) (fun i => valA (ob.f i)) ob.n a d)), [], []⟩
        | _ => none
      else none
    | _, _ => none
  | _, _ => none

/-- One operation; 'id': the number for a new object; 'L': the objects that may be looked at; 'nw': no arithmetic wraps. -/
def opEval (P : Program) (id : Nat) (nw : Bool) (L : Hp) (ρ : Operand → AV) (op : Op) : Option Eff :=
  match op with
  | .move x => some ⟨ρ x, [], []⟩
  | .assign x => some ⟨ρ x, [], []⟩
  | .pick c a b => match ρ c with
    | .p (.bool c) => evPick c (ρ a) (ρ b)
    | _ => none
  | .alloc e => match P.info? e with
    | some i => (zeroCells i).map fun cs => ⟨.pt cs.length id 0 0, [(id, some ⟨true, cs.length, 1, fun _ => cs⟩)], []⟩
    | none => none
  | .box _ x => (ρ x).cells.map fun cs => ⟨.pt cs.length id 0 0, [(id, some ⟨true, cs.length, 1, fun _ => cs⟩)], []⟩
  | .build t parts => evBuild P t (parts.toList.map fun p => (p.1, ρ p.2))
  | .buildSlice t len parts => evBuildSlice P id t len (parts.toList.map fun p => (p.1, ρ p.2))
  | .load t a => evLoad P L t (ρ a)
  | .store t a v => evStore P L t (ρ a) (ρ v)
  | .nilCheck x => match ρ x with
    | .pt z o row off => some ⟨.pt z o row off, [], []⟩
    | .ip tg cs => some ⟨.ip tg cs, [], []⟩
    | _ => none
  | .binOp op t x y _ => evBin P nw op t (ρ x) (ρ y)
  | .unOp op _ x => match op, ρ x with
    | .not, .p (.bool b) => some ⟨.p (.bool !b), [], []⟩
    | .neg, .p (.int k n) => (binI nw .sub k 0 n).map fun r => ⟨.p r.1, [], r.2⟩
    | _, _ => none
  | .convert s d x => match P.underlying s, P.underlying d, ρ x with
    | some _, some (.int k), .p (.int _ n) => some ⟨.p (wr1 nw k n).1, [], (wr1 nw k n).2⟩
    | some (.slice e), some .string, v => evStr P L e v
    | _, _, _ => none
  | .makeSlice t l c => evMake P id t (ρ l) (ρ c)
  | .slice t x lo hi none => evSlice P t (ρ x) (lo.map ρ) (hi.map ρ)
  | .fieldAddr s x f => evFieldAddr P s (ρ x) f
  | .field s x f => evField P s (ρ x) f
  | .indexAddr t x i => evIndexAddr P t (ρ x) (ρ i)
  | .index t x i => evIndex P t (ρ x) (ρ i)
  | .extract x i => match ρ x with
    | .tup vs => if Nat.blt i vs.length then some ⟨vs.getD i anyA, [], []⟩ else none
    | _ => none
  | .makeFunc fn first captured => match fn with
    | .func f => if first.size == 0 && captured.size == 0 then some ⟨.p (.fn f), [], []⟩ else none
    | _ => none
  | .makeMap _ none => some ⟨.mp id, [(id, some ⟨false, 0, 0, fun _ => []⟩)], []⟩
  | .insert t m k v => evMapPut P L t (ρ m) (ρ k) (ρ v)
  | .mapUpdate t m k v => evMapPut P L t (ρ m) (ρ k) (ρ v)
  | .lookup t m k ok => evLookup P L t (ρ m) (ρ k) ok
  | .call c => match c.callee with
    | .builtin b => evBuiltin P id L b (c.args.toList.map ρ) c.argTypes.toList
    | _ => none
  | _ => none

end Go.Proofs.Ytgdbnnmogddkaaa.Mach
