/- The bridge from the readings of a claim's arguments to abstract values: whatever a type's shape reads as is pure data. No conditions beyond those of each lemma. -/
import Derived.Test.YtgdbnnmogddkaaaMachT
import Derived.ProofKit
import Derived.OpenShut
import Derived.Carry
namespace Go.Proofs.Ytgdbnnmogddkaaa.Mach
open Go
set_option linter.unusedVariables false
set_option linter.unusedSimpArgs false

/-- Shapes of types: integers, flags, texts, structs, slices. -/
inductive Sh where
  | int (k : IntKind)
  | bool
  | str
  | st (l : List Sh)
  | sl (s : Sh)

mutual
def Sh.z : Sh → Nat
  | .int _ => 1
  | .bool => 1
  | .str => 1
  | .st l => zL l
  | .sl _ => 1
def zL : List Sh → Nat
  | [] => 0
  | s :: l => s.z + zL l
end

mutual
def Sh.T : Sh → Type
  | .int _ => Int
  | .bool => Bool
  | .str => ByteArray
  | .st l => TL l
  | .sl s => Nat × (Nat → s.T)
def TL : List Sh → Type
  | [] => Unit
  | s :: l => s.T × TL l
end

mutual
def dfl : (s : Sh) → s.T
  | .int _ => (0 : Int)
  | .bool => false
  | .str => ByteArray.empty
  | .st l => dflL l
  | .sl s => ((0 : Nat), fun _ => dfl s)
def dflL : (l : List Sh) → TL l
  | [] => ()
  | s :: l => (dfl s, dflL l)
end

mutual
def enS : (s : Sh) → s.T → List PV
  | .int k, n => [.int k n]
  | .bool, b => [.bool b]
  | .str, x => [.str x]
  | .st l, v => enL l v
  | .sl s, v => [.seq true s.z v.1 fun i => enS s (v.2 i)]
def enL : (l : List Sh) → TL l → List PV
  | [], _ => []
  | s :: l, v => enS s v.1 ++ enL l v.2
end

mutual
def okS : (s : Sh) → s.T → Prop
  | .int k, n => imin k ≤ (show Int from n) ∧ (show Int from n) ≤ imax k
  | .bool, _ => True
  | .str, x => (show ByteArray from x).size ≤ 9223372036854775807
  | .st l, v => okL l v
  | .sl s, v => v.1 ≤ 9223372036854775807 ∧ ∀ i, i < v.1 → okS s (v.2 i)
def okL : (l : List Sh) → TL l → Prop
  | [], _ => True
  | s :: l, v => okS s v.1 ∧ okL l v.2
end

mutual
def fits (P : Program) : Sh → TypeId → Bool
  | .int k, t => match P.underlying t with | some (.int k') => ikEq k k' | _ => false
  | .bool, t => match P.underlying t with | some .bool => true | _ => false
  | .str, t => match P.underlying t with | some .string => true | _ => false
  | .st l, t => match P.underlying t with | some (.struct fs) => P.cellsOf t == zL l && fitsL P l fs.toList 0 | _ => false
  | .sl s, t => match P.underlying t with | some (.slice e) => P.cellsOf e == s.z && Nat.blt 0 s.z && fits P s e | _ => false
def fitsL (P : Program) : List Sh → List Field → Nat → Bool
  | [], [], _ => true
  | s :: l, f :: fs, off => f.offset == off && P.cellsOf f.type == s.z && fits P s f.type && fitsL P l fs (off + s.z)
  | _, _, _ => false
end

/-- The blocks that a call from outside owns at its start: none. -/
def no : Bool → Nat → Prop := ow (fun _ => False) (fun _ => none) []
theorem no_no {t : Bool} {b : Nat} : ¬ no t b := by
  rintro (⟨o, ob, a, h, _⟩ | ⟨_, h⟩)
  · simp at h
  · exact h

inductive Rd (w : World) : List PV → List Value → Prop
  | nil : Rd w [] []
  | cons {v : PV} {x : Value} {l : List PV} {r : List Value} (h : PR w no v x) (h1 : One x) (hr : Rd w l r) : Rd w (v :: l) (x :: r)

theorem Rd.append {w : World} {a b : List PV} {c d : List Value} (h : Rd w a c) (h' : Rd w b d) : Rd w (a ++ b) (c ++ d) := by
  induction h with
  | nil => exact h'
  | cons h h1 hr ih => exact .cons h h1 ih

theorem Rd.length {w : World} {a : List PV} {c : List Value} (h : Rd w a c) : a.length = c.length := by
  induction h with
  | nil => rfl
  | cons h h1 hr ih => simp [ih]

theorem Rd.get {w : World} {a : List PV} {c : List Value} (h : Rd w a c) : ∀ j, j < c.length → PR w no (a.getD j .any) (c.getD j undef) ∧ One (c.getD j undef) := by
  induction h with
  | nil => intro j hj; simp at hj
  | cons h h1 hr ih =>
    intro j hj
    cases j with
    | zero => exact ⟨h, h1⟩
    | succ j => simpa using ih j (by simpa using hj)

section
variable {H : Type} {enc : TypeId × Value → H} {P : Program} {w : World} {base : Nat} {spare : Nat → Bool} {held : Bool}

theorem add_add {b o x y : Nat} : ((⟨b, o, none⟩ : Addr).add x).add y = ⟨b, o + (x + y), none⟩ := by
  unfold Addr.add
  split <;> split <;> simp_all <;> omega

theorem cell_spot {a : Addr} {v : Value} (h : w.cell? a = some v) : a.spot = none ∧ a.block < w.heap.size := by
  unfold World.cell? at h
  split at h
  · rename_i c e f hb
    split at h
    · cases h
    · rename_i hs
      refine ⟨by simpa using hs, ?_⟩
      exact (Array.getElem?_eq_some_iff.1 hb).1
  · cases h

mutual
theorem read : (s : Sh) → ∀ (t : TypeId) (fuel : Nat) (cs : List Value) (x : DataW H × List MemPlace), fits P s t = true → DataW.trod enc P w base spare held fuel t cs = some x → ∃ v : s.T, okS s v ∧ Rd w (enS s v) cs
  | .int k, t, fuel, cs, x, hf, h => by
    simp only [fits] at hf
    split at hf
    case h_2 => cases hf
    rename_i k' hu
    obtain rfl := ikEq_eq hf
    obtain ⟨n, rfl, _, hw⟩ := DataW.trod_int hu h
    refine ⟨n, ?_, .cons (.int _ _) rfl .nil⟩
    simp only [Lit.wf, Bool.and_eq_true, decide_eq_true_eq] at hw
    cases k <;> exact hw
  | .bool, t, fuel, cs, x, hf, h => by
    simp only [fits] at hf
    split at hf
    case h_2 => cases hf
    rename_i hu
    obtain ⟨b, rfl, _⟩ := DataW.trod_bool hu h
    exact ⟨b, by simp [okS], .cons (.bool _) rfl .nil⟩
  | .str, t, fuel, cs, x, hf, h => by
    simp only [fits] at hf
    split at hf
    case h_2 => cases hf
    rename_i hu
    obtain ⟨b, rfl, _, hm⟩ := DataW.trod_string hu h
    exact ⟨b, by simpa [okS, maxLen] using hm, .cons (.str _) rfl .nil⟩
  | .st l, t, fuel, cs, x, hf, h => by
    simp only [fits] at hf
    split at hf
    case h_2 => cases hf
    rename_i fs hu
    simp only [Bool.and_eq_true, beq_iff_eq] at hf
    obtain ⟨xs, n, rfl, rfl, hl, hxs, hall⟩ := DataW.trod_struct hu h
    obtain ⟨v, h1, h2⟩ := readL l fs.toList 0 n cs hf.2 (by omega) (fun i f hi => by
      have hi' : fs[i]? = some f := by simpa using hi
      have := hall i f hi'
      have hlt : i < xs.length := by
        rw [hxs]
        exact (Array.getElem?_eq_some_iff.1 hi').1
      exact ⟨xs[i], by rw [this, List.getElem?_eq_getElem hlt]⟩)
    exact ⟨v, by simpa [okS] using h1, by simpa [enS] using h2⟩
  | .sl s, t, fuel, cs, x, hf, h => by
    simp only [fits] at hf
    split at hf
    case h_2 => cases hf
    rename_i e hu
    simp only [Bool.and_eq_true, beq_iff_eq] at hf
    obtain ⟨⟨hz, hpos⟩, hf⟩ := hf
    have hpos : 0 < s.z := Nat.le_of_ble_eq_true hpos
    rcases DataW.trod_slice hu h with ⟨rfl, _⟩ | ⟨a, len, cap, elems, rest, n, rfl, rfl, rfl, hb, hl, hm, hlen, hel, _⟩
    · exact ⟨((0 : Nat), fun _ => dfl s), by simp [okS], .cons (.seq0 _ _ _ _ _) rfl .nil⟩
    · have key : ∀ i, ∃ y : s.T × List Value, i < len → w.cells? base (a.add (i * s.z)) s.z = some y.2 ∧ okS s y.1 ∧ Rd w (enS s y.1) y.2 := by
        intro i
        by_cases hi : i < len
        · have hx := hel i hi
          rw [List.getElem?_eq_getElem (by omega)] at hx
          obtain ⟨cs', h1, h2⟩ := Option.bind_eq_some_iff.1 hx
          obtain ⟨v, h3, h4⟩ := read s e n cs' _ hf h2
          exact ⟨(v, cs'), fun _ => ⟨by rw [← hz]; exact h1, h3, h4⟩⟩
        · exact ⟨(dfl s, []), fun h => absurd h hi⟩
      obtain ⟨F, hF⟩ := Classical.axiomOfChoice key
      refine ⟨((len : Nat), fun i => (F i).1), ⟨?_, fun i hi => (hF i hi).2.1⟩, .cons ?_ rfl .nil⟩
      · have : maxLen = 9223372036854775807 := rfl
        show len ≤ 9223372036854775807
        omega
      · cases hl0 : len with
        | zero => exact .seq0 _ _ _ _ _
        | succ l' =>
          rw [← hl0]
          have h0 := (hF 0 (by omega)).1
          obtain ⟨_, hcl, hcell⟩ := World.cells?_some h0
          have hc0 := hcell 0 hpos
          rw [List.getElem?_eq_getElem (by omega)] at hc0
          obtain ⟨hs, hlt⟩ := cell_spot hc0
          obtain ⟨b, o, sp⟩ := a
          have hb' : ∀ q, ((⟨b, o, sp⟩ : Addr).add q).block = b := by intro q; unfold Addr.add; split <;> rfl
          have hsp : sp = none := by simpa [Addr.add] using hs
          subst hsp
          have hlt' : b < w.heap.size := by
            have e1 : (((⟨b, o, none⟩ : Addr).add (0 * s.z)).add 0).block = b := by rw [add_add]
            rw [e1] at hlt; exact hlt
          refine .seq _ _ _ _ b o cap (fun i j => (F i).2.getD j undef) no_no hlt' hl (fun i hi j hj => ?_) (fun i hi j hj => ?_) (fun i hi j hj => ?_)
          all_goals
            obtain ⟨g1, g2, g3⟩ := hF i hi
            obtain ⟨_, k1, k2⟩ := World.cells?_some g1
          · have := k2 j hj
            rw [add_add] at this
            rw [this, List.getElem?_eq_getElem (by omega)]
            simp [List.getD_eq_getElem?_getD, List.getElem?_eq_getElem (show j < (F i).2.length by omega)]
          · exact (g3.get j (by omega)).2
          · exact (g3.get j (by omega)).1
theorem readL : (l : List Sh) → ∀ (fs : List Field) (off n : Nat) (cs : List Value), fitsL P l fs off = true → off + zL l = cs.length →
    (∀ (i : Nat) (f : Field), fs[i]? = some f → ∃ x, DataW.trod enc P w base spare held n f.type ((cs.drop f.offset).take (P.cellsOf f.type)) = some x) → ∃ v : TL l, okL l v ∧ Rd w (enL l v) (cs.drop off)
  | [], fs, off, n, cs, hf, hz, h => by
    refine ⟨(), by simp [okL], ?_⟩
    simp only [zL, Nat.add_zero] at hz
    subst hz
    simp only [List.drop_length, enL]
    exact .nil
  | s :: l, [], off, n, cs, hf, hz, h => by simp [fitsL] at hf
  | s :: l, f :: fs, off, n, cs, hf, hz, h => by
    simp only [fitsL, Bool.and_eq_true, beq_iff_eq] at hf
    obtain ⟨⟨⟨h1, h2⟩, h3⟩, h4⟩ := hf
    obtain ⟨x, hx⟩ := h 0 f rfl
    rw [h1, h2] at hx
    obtain ⟨v, g1, g2⟩ := read s f.type n _ x h3 hx
    obtain ⟨r, g3, g4⟩ := readL l fs (off + s.z) n cs h4 (by simp only [zL] at hz; omega) (fun i f' hi => h (i + 1) f' (by simpa using hi))
    refine ⟨(v, r), by simp only [okL]; exact ⟨g1, g3⟩, ?_⟩
    have := g2.append g4
    rw [← List.drop_drop, List.take_append_drop] at this
    simpa only [enL] using this
end

/-- An argument as an abstract value. -/
def argA : (s : Sh) → s.T → AV
  | .int k, n => .p (.int k n)
  | .bool, b => .p (.bool b)
  | .str, x => .p (.str x)
  | .st l, v => .agg ((enL l v).map .p)
  | .sl s, v => .p (.seq true s.z v.1 fun i => enS s (v.2 i))

theorem arg_st {l : List Sh} {t : TypeId} {r : Reach} {b0 : Nat} {x : Value} {d : DataW H} {ps : List MemPlace} (hf : fits P (.st l) t = true) (hv : Value.okWide P w r b0 t x) (h : DataW.Trod enc P w base spare held t x d ps) :
    ∃ v : TL l, okL l v ∧ VR w (fun _ => none) no (.agg ((enL l v).map .p)) x := by
  have hf' := hf
  simp only [fits] at hf
  split at hf
  case h_2 => cases hf
  rename_i fs hu
  obtain ⟨cs, rfl, hsz⟩ := WideShapes.okWide_struct hu hv
  obtain ⟨fuel, h⟩ := h
  obtain ⟨v, h1, h2⟩ := read (.st l) t fuel _ _ hf' h
  simp only [enS] at h2
  refine ⟨v, by simpa [okS] using h1, .agg _ _ (by simpa [Value.cells] using h2.length) (fun j hj => ?_) (fun j hj => ?_)⟩
  all_goals
    have hl := h2.length
    simp only [Value.cells, List.length_map, Array.length_toList] at hl hj
    have := h2.get j (by simp [Value.cells]; omega)
    simp only [Value.cells] at this
    rw [show cs.toList.getD j undef = cs.getD j undef by simp [List.getD_eq_getElem?_getD, Array.getD_eq_getD_getElem?]] at this
  · exact this.2
  · have e : ((enL l v).map AV.p).getD j anyA = .p ((enL l v).getD j .any) := by
      simp only [List.getD_eq_getElem?_getD, List.getElem?_map]
      cases (enL l v)[j]? <;> rfl
    rw [e]
    exact .p _ _ this.1

theorem arg_one {s : Sh} {t : TypeId} {x : Value} {d : DataW H} {ps : List MemPlace} (hf : fits P s t = true) (hc : x.cells = #[x]) (h : DataW.Trod enc P w base spare held t x d ps) :
    ∃ v : s.T, okS s v ∧ VR w (fun _ => none) no (.p ((enS s v).getD 0 .any)) x := by
  obtain ⟨fuel, h⟩ := h
  obtain ⟨v, h1, h2⟩ := read s t fuel _ _ hf h
  rw [hc] at h2
  have := h2.get 0 (by simp)
  exact ⟨v, h1, .p _ _ (by simpa using this.1)⟩

theorem arg_ok {r : Reach} {b0 : Nat} {x : Value} {d : DataW H} {ps : List MemPlace} : (s : Sh) → ∀ {t : TypeId}, fits P s t = true → Value.okWide P w r b0 t x → DataW.Trod enc P w base spare held t x d ps →
    ∃ v : s.T, okS s v ∧ VR w (fun _ => none) no (argA s v) x
  | .st l, t, hf, hv, h => by
    obtain ⟨v, h1, h2⟩ := arg_st hf hv h
    exact ⟨v, by simpa [okS] using h1, h2⟩
  | .int k, t, hf, hv, h => by
    have hf' := hf
    simp only [fits] at hf
    split at hf
    case h_2 => cases hf
    rename_i hu
    obtain ⟨y, rfl⟩ := WideShapes.okWide_int hu hv
    obtain ⟨v, h1, h2⟩ := arg_one hf' rfl h
    exact ⟨v, h1, h2⟩
  | .bool, t, hf, hv, h => by
    have hf' := hf
    simp only [fits] at hf
    split at hf
    case h_2 => cases hf
    rename_i hu
    obtain ⟨y, rfl⟩ := WideShapes.okWide_bool hu hv
    obtain ⟨v, h1, h2⟩ := arg_one hf' rfl h
    exact ⟨v, h1, h2⟩
  | .str, t, hf, hv, h => by
    have hf' := hf
    simp only [fits] at hf
    split at hf
    case h_2 => cases hf
    rename_i hu
    obtain ⟨y, rfl⟩ := WideShapes.okWide_string hu hv
    obtain ⟨v, h1, h2⟩ := arg_one hf' rfl h
    exact ⟨v, h1, h2⟩
  | .sl s, t, hf, hv, h => by
    have hf' := hf
    simp only [fits] at hf
    split at hf
    case h_2 => cases hf
    rename_i hu
    obtain ⟨y, z, u, rfl⟩ := WideShapes.okWide_slice hu hv
    obtain ⟨v, h1, h2⟩ := arg_one hf' rfl h
    exact ⟨v, h1, h2⟩

end

/-- A law by its contract: it answers true and nothing that was there has turned. -/
theorem law_ok {P : Program} {f : FuncId} {args : List AV} {vals : Array Value} {W : World} (h : Con P f 0 [] args [] (.p (.bool true))) (hl : args.length = vals.size)
    (ha : ∀ j, j < args.length → VR W (fun _ => none) no (args.getD j anyA) (vals.getD j undef)) :
    Calls P f vals W fun e W' => e = .returned (.bool true) ∧ RowKit.Below W.heap.size W W' := by
  refine (h.2 W (fun _ => none) (fun _ => False) vals (fun b h => h.elim) (fun o ob h => by simp at h) (fun o o' ob ob' a a' h => by simp at h) (fun k h => absurd rfl h) hl ha).mono ?_
  rintro e W' ⟨v, β', rfl, _, _, hv, hext, _, _, _⟩
  cases hv with
  | p _ _ hp =>
    cases hp with
    | bool b => exact ⟨rfl, hext.os, hext.tape, hext.output, hext.size, fun k hk => hext.block true k hk no_no⟩

end Go.Proofs.Ytgdbnnmogddkaaa.Mach
