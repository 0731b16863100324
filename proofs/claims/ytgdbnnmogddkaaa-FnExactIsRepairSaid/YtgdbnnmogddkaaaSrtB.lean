/- The library's sort of bars as a contract of the abstract machine: the row holds the merge sort of what it held. Conditions: as each theorem says. -/
import Derived.Test.YtgdbnnmogddkaaaSrtA
import Derived.Test.YtgdbnnmogddkaaaPut
import Derived.Shelf.SlSortCmp.NoneTotal
namespace Go.Proofs.Ytgdbnnmogddkaaa.Mach
open Go Go.Shelf Go.RowKit Go.Lib Go.Sort
set_option linter.unusedVariables false
set_option linter.unusedSimpArgs false

/-- The world behind a library's call that writes a row of one block: blocks of its own laid behind. -/
def sW (w : World) (b base q : Nat) (F : Array Value) (os : Array Obj) : World := grow (putRow id (Sort.ahead w q) b base F) os

theorem sW_at {w : World} {b base q : Nat} {F : Array Value} {os : Array Obj} {cells : Array Value} {el : TypeId} {fr : Nat × Nat} (hb : w.heap[b]? = some (.cells cells el fr)) :
    (sW w b base q F os).heap[b]? = some (.cells (putCells id base F cells) el fr) := by
  have hlt : b < w.heap.size := by
    rcases Nat.lt_or_ge b w.heap.size with h | h
    · exact h
    · rw [Array.getElem?_eq_none h] at hb; cases hb
  rw [sW, heap_grow_old _ _ (by rw [size_putRow]; exact hlt)]
  simp only [putRow, mapBlock, heap_ahead, Array.getElem?_modify, if_true, hb, Option.map_some, onCells]

theorem sW_ne {w : World} {b base q c : Nat} {F : Array Value} {os : Array Obj} (hne : c ≠ b) (hlt : c < w.heap.size) :
    (sW w b base q F os).heap[c]? = w.heap[c]? := by
  rw [sW, heap_grow_old _ _ (by rw [size_putRow]; exact hlt)]
  simp only [putRow, mapBlock, heap_ahead, Array.getElem?_modify, if_neg (Ne.symm hne)]

theorem putCells_size (base : Nat) (F cells : Array Value) : (putCells id base F cells).size = cells.size := by simp [putCells]

theorem putCells_in (base : Nat) (F cells : Array Value) (t : Nat) (h : t < F.size) (hs : base + t < cells.size) : (putCells id base F cells)[base + t]? = some F[t]! := by
  simp only [putCells, Array.getElem?_mapIdx, Array.getElem?_eq_getElem hs, Option.map_some, id]
  rw [if_pos ⟨by omega, by omega⟩, show base + t - base = t by omega]

theorem own_one (β : Nat → Option Addr) (ob : Ob) (b : Nat) : ownOf β [(0, ob)] b ↔ ∃ a, β 0 = some a ∧ a.block = b := by
  constructor
  · rintro ⟨o, ob', a, h1, h2, h3⟩
    have : o = 0 := by
      simp only [List.lookup] at h1
      split at h1
      · rename_i h; simpa using h
      · cases h1
    subst this
    exact ⟨a, h2, h3⟩
  · rintro ⟨a, h1, h2⟩
    exact ⟨0, ob, a, rfl, h1, h2⟩

theorem ow_one (X : Nat → Prop) (β : Nat → Option Addr) (ob ob' : Ob) : ow X β [(0, ob)] = ow X β [(0, ob')] := by
  funext t b
  simp only [ow, own_one]

theorem look_one {ob ob' : Ob} {o : Nat} (h : List.lookup o [(0, ob)] = some ob') : o = 0 ∧ ob' = ob := by
  simp only [List.lookup] at h
  split at h
  · rename_i h1
    exact ⟨by simpa using h1, by simpa using h.symm⟩
  · cases h

/-- What a contract asks behind such a call, of one object of one-cell data. -/
theorem sW_post {w : World} {β : Nat → Option Addr} {X : Nat → Prop} {z n : Nat} {fo f' : Nat → List AV} {b base q : Nat} {F : Array Value} {os : Array Obj} {cells : Array Value} {el : TypeId} {res : AV} {v : Value}
    (hβ : β 0 = some ⟨b, base, none⟩) (hh : w.heap[b]? = some (.cells cells el (0, 0)))
    (hS : Sep β [(0, ⟨false, z, n, fo⟩)])
    (hsz : base + n * z ≤ cells.size) (hF : F.size = n * z)
    (hrow : ∀ i, i < n → ∀ j, j < z → One (F[i * z + j]!) ∧ ∀ (w : World) (own : Bool → Nat → Prop), VR w β own ((f' i).getD j anyA) (F[i * z + j]!))
    (hv : ∀ (w : World) (own : Bool → Nat → Prop), VR w β own res v) :
    ∃ v' β', Ending.returned v = .returned v' ∧ HR (sW w b base q F os) β' (fr X β' [(0, ⟨false, z, n, f'⟩)]) [(0, ⟨false, z, n, f'⟩)] ∧ Sep β' [(0, ⟨false, z, n, f'⟩)] ∧
      VR (sW w b base q F os) β' (fr X β' [(0, ⟨false, z, n, f'⟩)]) res v' ∧ Ext w (ow X β [(0, ⟨false, z, n, fo⟩)]) (sW w b base q F os) (ow X β' [(0, ⟨false, z, n, f'⟩)]) ∧
      (∀ o a, β o = some a → β' o = some a) ∧ (∀ b, ownOf β' [(0, ⟨false, z, n, f'⟩)] b → ownOf β [(0, ⟨false, z, n, fo⟩)] b ∨ w.heap.size ≤ b) ∧ ∀ k, β' k ≠ none → β k ≠ none ∨ (1 ≤ k ∧ k < 1 + 32) := by
  have hown : ownOf β [(0, ⟨false, z, n, fo⟩)] b := (own_one _ _ _).2 ⟨_, hβ, rfl⟩
  refine ⟨v, β, rfl, ?_, ?_, hv _ _, ?_, fun o a h => h, fun b' h => .inl ?_, fun k h => .inl h⟩
  · intro o ob hl
    obtain ⟨rfl, rfl⟩ := look_one hl
    refine .inr (.inl ⟨b, base, _, el, hβ, sW_at hh, ?_⟩)
    intro i hi j hj
    change i < n at hi
    change j < z at hj
    show ∃ v, (putCells id base F cells)[base + (i * z + j)]? = some v ∧ One v ∧ _
    have hlt : i * z + j < n * z := by
      have h1 := Nat.mul_le_mul_right z (show i + 1 ≤ n from hi)
      rw [Nat.add_mul, Nat.one_mul] at h1
      have h2 : j < z := hj
      omega
    exact ⟨F[i * z + j]!, putCells_in base F cells _ (by omega) (by omega), (hrow i hi j hj).1, (hrow i hi j hj).2 _ _⟩
  · intro o o' ob ob' a a' h1 h2 h3 h4 h5
    obtain ⟨rfl, rfl⟩ := look_one h1
    obtain ⟨rfl, rfl⟩ := look_one h2
    rfl
  · rw [ow_one X β ⟨false, z, n, f'⟩ ⟨false, z, n, fo⟩]
    refine ⟨rfl, rfl, rfl, by rw [sW, size_grow, size_putRow]; exact Nat.le_add_right _ _, fun t c hc hn => ?_, fun t c hc h => h, fun c cs e f h => ?_, fun c es ck h => ?_⟩
    · refine sW_ne (fun h => hn ?_) hc
      subst h
      exact .inl hown
    · by_cases hcb : c = b
      · subst hcb
        rw [hh] at h
        injection h with h
        injection h with h1 h2 h3
        subst h1
        exact ⟨_, _, _, sW_at hh, by rw [putCells_size]; exact Nat.le_refl _⟩
      · have hlt : c < w.heap.size := by
          rcases Nat.lt_or_ge c w.heap.size with h' | h'
          · exact h'
          · rw [Array.getElem?_eq_none h'] at h; cases h
        exact ⟨cs, e, f, by rw [sW_ne hcb hlt]; exact h, Nat.le_refl _⟩
    · by_cases hcb : c = b
      · subst hcb
        rw [hh] at h
        cases h
      · have hlt : c < w.heap.size := by
          rcases Nat.lt_or_ge c w.heap.size with h' | h'
          · exact h'
          · rw [Array.getElem?_eq_none h'] at h; cases h
        exact ⟨es, ck, by rw [sW_ne hcb hlt]; exact h⟩
  · rw [own_one] at h ⊢; exact h

theorem vr_int {w : World} {β : Nat → Option Addr} {own : Bool → Nat → Prop} {k : IntKind} {x : Int} {v : Value} (h : VR w β own (.p (.int k x)) v) : v = .int k x := by
  cases h with
  | p _ _ hp => cases hp; rfl

def ltB (x y : T_Bar) : Bool := ltOf cmpB x y
theorem ltB_iff (x y : T_Bar) : ltB x y = true ↔ x.1 < y.1 ∨ (x.1 = y.1 ∧ x.2.1 < y.2.1) := by
  rw [show ltB x y = decide (cmpB x y < 0) from rfl, decide_eq_true_iff]
  unfold cmpB
  rcases Int.lt_trichotomy x.1 y.1 with h | h | h
  · rw [cmpI_1 h]; simp; omega
  · rw [cmpI_3 (x := x.1) (y := y.1) (by omega) (by omega)]
    simp only [if_true]
    rcases Int.lt_trichotomy x.2.1 y.2.1 with h' | h' | h'
    · rw [cmpI_1 h']; simp; omega
    · rw [cmpI_3 (x := x.2.1) (y := y.2.1) (by omega) (by omega)]; simp; omega
    · rw [cmpI_2 h']; simp; omega
  · rw [cmpI_2 h]; simp; omega
theorem swoB : SWO (ltOf cmpB) where
  irrefl x := by
    cases h : ltOf cmpB x x with
    | false => rfl
    | true => have := (ltB_iff x x).1 h; omega
  trans x y z h1 h2 := by
    have h1 := (ltB_iff x y).1 h1
    have h2 := (ltB_iff y z).1 h2
    exact (ltB_iff x z).2 (by omega)
  ntrans x y z h1 h2 := by
    cases h : ltOf cmpB x z with
    | false => rfl
    | true =>
      have h3 := (ltB_iff x z).1 h
      have e1 : ¬ (x.1 < y.1 ∨ (x.1 = y.1 ∧ x.2.1 < y.2.1)) := fun h' => by rw [show ltOf cmpB x y = true from (ltB_iff x y).2 h'] at h1; cases h1
      have e2 : ¬ (y.1 < z.1 ∨ (y.1 = z.1 ∧ y.2.1 < z.2.1)) := fun h' => by rw [show ltOf cmpB y z = true from (ltB_iff y z).2 h'] at h2; cases h2
      omega
theorem totB (x y : T_Bar) (h1 : ltOf cmpB x y = false) (h2 : ltOf cmpB y x = false) : x = y := by
  have e1 : ¬ (x.1 < y.1 ∨ (x.1 = y.1 ∧ x.2.1 < y.2.1)) := fun h' => by rw [show ltOf cmpB x y = true from (ltB_iff x y).2 h'] at h1; cases h1
  have e2 : ¬ (y.1 < x.1 ∨ (y.1 = x.1 ∧ y.2.1 < x.2.1)) := fun h' => by rw [show ltOf cmpB y x = true from (ltB_iff y x).2 h'] at h2; cases h2
  obtain ⟨a, b, ⟨⟩⟩ := x
  obtain ⟨c, d, ⟨⟩⟩ := y
  simp only [Prod.mk.injEq, and_true] at e1 e2 ⊢
  omega

def lstB (n : Nat) (h : Nat → T_Bar) : List T_Bar := (List.range n).map h
def srtL (l : List T_Bar) : List T_Bar := l.mergeSort fun x y => !(ltOf cmpB) y x
/-- The bars sorted. -/
def srtB (n : Nat) (h : Nat → T_Bar) (i : Nat) : T_Bar := (srtL (lstB n h)).getD i (0, 0, ())

theorem encB_len (x : T_Bar) : (encB x).length = 2 := rfl
theorem encB_one (x : T_Bar) : ∀ v ∈ encB x, v.oneCell' = true := by
  intro v hv
  simp only [encB, List.mem_cons, List.not_mem_nil, or_false] at hv
  rcases hv with rfl | rfl <;> rfl
theorem srtL_len (l : List T_Bar) : (srtL l).length = l.length := by simp [srtL]
theorem lstB_len (n : Nat) (h : Nat → T_Bar) : (lstB n h).length = n := by simp [lstB]

theorem con_sortBars (n : Nat) (h : Nat → T_Bar) (hn : n ≤ 1048576) :
    Con Try.prog 109 1 [(0, brOb n h)] [.ar 2 0 0 n, .p (.fn 82)] [(0, brOb n (srtB n h))] (.tup []) := by
  refine ⟨by kernel_rfl, fun w β X vals hX hH hS hd hl ha => ?_⟩
  obtain ⟨v0, v1, rfl⟩ : ∃ v0 v1, vals = #[v0, v1] := by
    rcases vals with ⟨l⟩
    match l, hl with
    | [a, b], _ => exact ⟨a, b, rfl⟩
  have h0 : VR w β (ow X β [(0, brOb n h)]) (.ar 2 0 0 n) v0 := ha 0 (by simp)
  have h1 : VR w β (ow X β [(0, brOb n h)]) (.p (.fn 82)) v1 := ha 1 (by simp)
  have e1 : v1 = .func (.func 82) #[] #[] := by
    cases h1 with
    | p _ _ hp => cases hp; rfl
  subst e1
  have hnil : ∀ (w' : World) (own : Bool → Nat → Prop), VR w' β own (.tup []) (.tuple #[]) := fun w' own => .tup [] #[] rfl (fun j hj => absurd hj (Nat.not_lt_zero _))
  rcases Nat.eq_zero_or_pos n with rfl | hpos
  · obtain ⟨p, cap, rfl⟩ : ∃ p cap, v0 = .slice p 0 cap := by
      cases h0 with
      | ar0 => exact ⟨_, _, rfl⟩
      | ar => exact ⟨_, _, rfl⟩
    refine (AnyF.slices_SortFunc_none (P := Try.prog) (ρ := Try.sortBar_ren) { Try.sortBar with } p cap _ w).mono ?_
    rintro e w' ⟨rfl, rfl⟩
    refine ⟨_, β, rfl, ?_, ?_, hnil _ _, ?_, fun o a h => h, fun b' h' => .inl ?_, fun k h => .inl h⟩
    · intro o ob hl
      obtain ⟨rfl, rfl⟩ := look_one hl
      rcases hH 0 _ rfl with ⟨hb, _⟩ | ⟨b, base, cells, el, hβ, hh, _⟩ | hm
      · exact .inl ⟨hb, rfl⟩
      · exact .inr (.inl ⟨b, base, cells, el, hβ, hh, fun i hi => absurd hi (Nat.not_lt_zero _)⟩)
      · exact absurd hm.1 (by simp [brOb])
    · intro o o' ob ob' a a' h1 h2 h3 h4 h5
      obtain ⟨rfl, rfl⟩ := look_one h1
      obtain ⟨rfl, rfl⟩ := look_one h2
      rfl
    · rw [ow_one X β (brOb 0 (srtB 0 h)) (brOb 0 h)]
      exact Ext.refl _ _
    · rw [own_one] at h' ⊢; exact h'
  · cases h0 with
    | ar0 => exact absurd hpos (Nat.lt_irrefl 0)
    | ar _ _ _ _ b base c cells elem fr' hβ hh hsz hc =>
      rcases hH 0 _ rfl with ⟨hb, _⟩ | ⟨b', base', cells', el', hβ', hh', hrw⟩ | hm
      · rw [hb] at hβ; cases hβ
      · rw [hβ] at hβ'
        injection hβ' with hβ'
        injection hβ' with i1 i2 _
        subst i1; subst i2
        rw [hh] at hh'
        injection hh' with hh'
        injection hh' with i1 i2 i3
        subst i1; subst i2; subst i3
        have hcell : ∀ i, i < n → cells[base + (i * 2 + 0)]? = some (.int .i64 (h i).1) ∧ cells[base + (i * 2 + 1)]? = some (.int .i64 (h i).2.1) := by
          intro i hi
          obtain ⟨u, hu1, hu2, hu3⟩ := hrw i hi 0 (by simp [brOb])
          obtain ⟨u', hu1', hu2', hu3'⟩ := hrw i hi 1 (by simp [brOb])
          have := vr_int (k := .i64) (x := (h i).1) hu3
          subst this
          have := vr_int (k := .i64) (x := (h i).2.1) hu3'
          subst this
          exact ⟨hu1, hu1'⟩
        have hend : base + n * 2 ≤ cells.size := by
          have := (hcell (n - 1) (by omega)).2
          rcases Nat.lt_or_ge (base + ((n - 1) * 2 + 1)) cells.size with h' | h'
          · omega
          · rw [Array.getElem?_eq_none h'] at this; cases this
        have hdz : ((lstB n h).toArray).size = n := by simp [lstB]
        have hdi : ∀ i, i < n → ((lstB n h).toArray)[i]! = h i := by
          intro i hi
          rw [getElem!_pos _ i (by rw [hdz]; exact hi)]
          simp [lstB]
        have hHK : HoldsK encB 2 w b base (lstB n h).toArray := by
          intro t ht
          rw [size_flatK, hdz] at ht
          rw [get_flatK _ _ _ _ (by rw [hdz]; exact ht), hdi (t / 2) (by omega)]
          have hc := hcell (t / 2) (by omega)
          rcases Nat.mod_two_eq_zero_or_one t with h2 | h2
          · refine ⟨?_, by simp [World.frozen?, hh]⟩
            rw [h2]
            have : base + t = base + (t / 2 * 2 + 0) := by omega
            simp only [World.cell?, hh]
            rw [this, hc.1]; rfl
          · refine ⟨?_, by simp [World.frozen?, hh]⟩
            rw [h2]
            have : base + t = base + (t / 2 * 2 + 1) := by omega
            simp only [World.cell?, hh]
            rw [this, hc.2]; rfl
        have hblk : b < w.heap.size := by
          rcases Nat.lt_or_ge b w.heap.size with h' | h'
          · exact h'
          · rw [Array.getElem?_eq_none h'] at hh; cases hh
        have eg : ∀ args w, (callFunc 82 args).run Try.prog w = .ok (.enter 82 args) w := enters_of Try.func82 (by kernel_rfl) rfl
        have hcmp : CmpLays Try.prog 82 #[] encB 2 cmpB b base (lstB n h).toArray.size w := fun _ _ _ _ x y => cmp_bars x y _
        have hcon := AnyQ.slices_SortFunc_total Try.sortBar 2 Try.isAgg70 Try.sizeOf70 encB encB_len encB_one cmpB swoB 82 #[] b base c (lstB n h).toArray w eg hcmp hHK hblk (by rw [hdz]; omega) totB
        rw [hdz] at hcon
        change Calls Try.prog 109 _ _ _ at hcon
        rw [show base + 0 * 2 = base by omega]
        refine hcon.mono ?_
        rintro e w' ⟨rfl, q, os, rfl⟩
        refine sW_post (F := flatK encB 2 (srtL (lstB n h)).toArray) hβ hh hS hend (by rw [size_flatK]; simp [srtL_len, lstB_len]) (fun i hi j hj => ?_) hnil
        have hs : ((srtL (lstB n h)).toArray).size = n := by simp [srtL_len, lstB_len]
        have hi2 : i * 2 + j < n * 2 := by omega
        rw [get_flatK _ _ _ _ (by rw [hs]; exact hi2), show (i * 2 + j) / 2 = i by omega, show (i * 2 + j) % 2 = j by omega]
        have hgi : (srtL (lstB n h)).toArray[i]! = srtB n h i := by
          rw [getElem!_pos _ i (by rw [hs]; exact hi), srtB]
          simp [List.getD_eq_getElem?_getD, List.getElem?_eq_getElem (show i < (srtL (lstB n h)).length by rw [srtL_len, lstB_len]; exact hi)]
        rw [hgi]
        rcases (show j = 0 ∨ j = 1 by omega) with rfl | rfl
        · exact ⟨rfl, fun w' own => .p _ _ (.int _ _)⟩
        · exact ⟨rfl, fun w' own => .p _ _ (.int _ _)⟩
      · exact absurd hm.1 (by simp [brOb])

/-! ### Sorted lists -/
def leB (x y : T_Bar) : Prop := ltB y x = false
theorem leB_iff (x y : T_Bar) : leB x y ↔ x.1 < y.1 ∨ (x.1 = y.1 ∧ x.2.1 ≤ y.2.1) := by
  have h := ltB_iff y x
  unfold leB
  cases hb : ltB y x with
  | false => rw [hb] at h; simp only [Bool.false_eq_true, false_iff] at h; simp only [true_iff]; omega
  | true => rw [hb] at h; simp only [true_iff] at h; simp only [Bool.true_eq_false, false_iff]; omega
theorem aft_iff (x y : T_Bar) : aft x y = true ↔ leB x y := by
  rw [leB_iff]
  unfold aft
  by_cases h1 : x.1 < y.1
  · simp [h1]
  · by_cases h2 : x.1 = y.1 <;> simp [h1, h2]
theorem leB_antisymm (x y : T_Bar) (h1 : leB x y) (h2 : leB y x) : x = y := totB x y h2 h1

theorem srtL_sorted (l : List T_Bar) : (srtL l).Pairwise leB := by
  have h := List.pairwise_mergeSort (le := fun x y => !(ltOf cmpB) y x) (fun a b c h1 h2 => by
    simp only [Bool.not_eq_true'] at *
    have h1 := (leB_iff a b).1 h1
    have h2 := (leB_iff b c).1 h2
    exact (leB_iff a c).2 (by omega)) (fun a b => by
    simp only [Bool.or_eq_true, Bool.not_eq_true']
    rcases (show (a.1 < b.1 ∨ (a.1 = b.1 ∧ a.2.1 ≤ b.2.1)) ∨ (b.1 < a.1 ∨ (b.1 = a.1 ∧ b.2.1 ≤ a.2.1)) by omega) with h | h
    · exact .inl ((leB_iff a b).2 h)
    · exact .inr ((leB_iff b a).2 h)) l
  exact h.imp (fun {a b} h => show ltOf cmpB b a = false by simpa using h)

theorem srtL_perm (l : List T_Bar) : (srtL l).Perm l := List.mergeSort_perm l _

/-- A sorted list with the same bars is the sorted list. -/
theorem srtL_eq {l m : List T_Bar} (hp : m.Perm l) (hs : m.Pairwise leB) : m = srtL l :=
  List.Perm.eq_of_pairwise (le := leB) (fun a b _ _ h1 h2 => leB_antisymm a b h1 h2) hs (srtL_sorted l) (hp.trans (srtL_perm l).symm)

theorem lstB_succ (n : Nat) (h : Nat → T_Bar) : lstB (n + 1) h = lstB n h ++ [h n] := by simp [lstB, List.range_succ]
theorem lstB_congr {n : Nat} {h h' : Nat → T_Bar} (he : ∀ i, i < n → h i = h' i) : lstB n h = lstB n h' := by
  simp only [lstB]
  exact List.map_congr_left (fun a ha => he a (List.mem_range.1 ha))
theorem lstB_snoc (n : Nat) (h : Nat → T_Bar) (x : T_Bar) : lstB (n + 1) (snoc n h x) = lstB n h ++ [x] := by
  rw [lstB_succ, lstB_congr (h' := h) (fun i hi => snoc_lt hi), snoc_ge (Nat.lt_irrefl n)]
theorem lstB_inj {n : Nat} {h h' : Nat → T_Bar} (he : lstB n h = lstB n h') (i : Nat) (hi : i < n) : h i = h' i := by
  have : (lstB n h)[i]? = (lstB n h')[i]? := by rw [he]
  simpa [lstB, hi] using this
theorem lstB_srt (n : Nat) (h : Nat → T_Bar) : lstB n (srtB n h) = srtL (lstB n h) := by
  refine List.ext_getElem? (fun i => ?_)
  rcases Nat.lt_or_ge i n with hi | hi
  · have : i < (srtL (lstB n h)).length := by rw [srtL_len, lstB_len]; exact hi
    simp only [lstB, List.getElem?_map, List.getElem?_range hi, Option.map_some]
    rw [show srtL (List.map h (List.range n)) = srtL (lstB n h) from rfl, List.getElem?_eq_getElem this]
    simp [srtB, List.getD_eq_getElem?_getD, List.getElem?_eq_getElem this]
  · rw [List.getElem?_eq_none (by rw [lstB_len]; exact hi), List.getElem?_eq_none (by rw [srtL_len, lstB_len]; exact hi)]

/-- The reference's insertion into sorted bars: a sorted list of these bars. -/
theorem insD_list (g : Nat → T_Bar) (x : T_Bar) (nb : Nat) (hs : (lstB nb g).Pairwise leB) : ∀ i, i ≤ nb →
    (lstB (insD g x i).2.1 (insD g x i).2.2).Perm (lstB i g ++ (if (insD g x i).1 = true then [x] else [])) ∧
    (lstB (insD g x i).2.1 (insD g x i).2.2).Pairwise leB ∧ ((insD g x i).1 = false → (lstB (insD g x i).2.1 (insD g x i).2.2) = lstB i g ∧ ∀ s, s < i → leB (g s) x) ∧
    ((insD g x i).1 = true → ∀ s, s < nb → i ≤ s → ∀ y ∈ lstB (insD g x i).2.1 (insD g x i).2.2, leB y (g s)) := by
  have hmono : ∀ s s', s < s' → s' < nb → leB (g s) (g s') := by
    intro s s' h1 h2
    have := List.pairwise_iff_getElem.1 hs s s' (by rw [lstB_len]; omega) (by rw [lstB_len]; omega) h1
    simpa [lstB] using this
  have htr : ∀ {a b c : T_Bar}, leB a b → leB b c → leB a c := by
    intro a b c h1 h2
    have h1 := (leB_iff a b).1 h1
    have h2 := (leB_iff b c).1 h2
    exact (leB_iff a c).2 (by omega)
  intro i
  induction i with
  | zero => intro _; exact ⟨by simp [insD, lstB], by simp [insD, lstB], fun _ => ⟨rfl, fun s h => absurd h (Nat.not_lt_zero _)⟩, fun h => by simp [insD] at h⟩
  | succ i ih =>
    intro hi
    obtain ⟨ih1, ih2, ih3, ih4⟩ := ih (by omega)
    simp only [insD]
    split
    · rename_i ht
      have hf : (insD g x i).1 = false := by
        cases e : (insD g x i).1 with
        | false => rfl
        | true => rw [e] at ht; simp at ht
      rw [hf] at ht
      simp only [Bool.not_false, cond_true, Bool.not_eq_true'] at ht
      have hxg : leB x (g i) := by
        have h1 : ¬ leB (g i) x := fun h => by rw [(aft_iff _ _).2 h] at ht; cases ht
        rw [leB_iff] at h1 ⊢
        omega
      obtain ⟨e1, e2⟩ := ih3 hf
      simp only [if_true]
      rw [lstB_snoc, lstB_snoc, e1]
      have hlt : ∀ y ∈ lstB i g, leB y x ∧ leB y (g i) := by
        intro y hy
        simp only [lstB, List.mem_map, List.mem_range] at hy
        obtain ⟨s, h1, rfl⟩ := hy
        exact ⟨e2 s h1, hmono s i h1 (by omega)⟩
      refine ⟨?_, ?_, fun h => by simp at h, fun _ s hs1 hs2 y hy => ?_⟩
      · rw [lstB_succ, List.append_assoc, List.append_assoc]
        exact List.Perm.append_left _ (List.Perm.swap _ _ _)
      · rw [e1] at ih2
        rw [List.append_assoc, List.pairwise_append]
        refine ⟨ih2, by simp [hxg], fun y hy y' hy' => ?_⟩
        simp only [List.cons_append, List.nil_append, List.mem_cons, List.not_mem_nil, or_false] at hy'
        rcases hy' with rfl | rfl
        · exact (hlt y hy).1
        · exact (hlt y hy).2
      · have his : leB (g i) (g s) := hmono i s (by omega) hs1
        simp only [List.mem_append, List.mem_cons, List.not_mem_nil, or_false] at hy
        rcases hy with (hy | rfl) | rfl
        · exact htr (hlt y hy).2 his
        · exact htr hxg his
        · exact his
    · rename_i ht
      rw [lstB_snoc]
      refine ⟨?_, ?_, fun h => ?_, fun h s hs1 hs2 y hy => ?_⟩
      · rw [lstB_succ, List.append_assoc]
        refine (List.Perm.append_right [g i] ih1).trans ?_
        rw [List.append_assoc]
        exact List.Perm.append_left _ List.perm_append_comm
      · rw [List.pairwise_append]
        refine ⟨ih2, by simp, fun y hy y' hy' => ?_⟩
        simp only [List.mem_cons, List.not_mem_nil, or_false] at hy'
        subst hy'
        cases hp : (insD g x i).1 with
        | true => exact ih4 hp i (by omega) (Nat.le_refl _) y hy
        | false =>
          rw [(ih3 hp).1] at hy
          simp only [lstB, List.mem_map, List.mem_range] at hy
          obtain ⟨s, h1, rfl⟩ := hy
          exact hmono s i h1 (by omega)
      · simp only at h
        obtain ⟨e1, e2⟩ := ih3 h
        refine ⟨by rw [e1, lstB_succ], fun s hs1 => ?_⟩
        rcases Nat.lt_or_ge s i with h' | h'
        · exact e2 s h'
        · obtain rfl : s = i := by omega
          rw [h] at ht
          simp only [Bool.not_false, cond_true, Bool.not_eq_true', Bool.not_eq_false] at ht
          exact (aft_iff _ _).1 ht
      · simp only at h
        simp only [List.mem_append, List.mem_cons, List.not_mem_nil, or_false] at hy
        rcases hy with hy | rfl
        · exact ih4 h s hs1 (by omega) y hy
        · exact hmono i s (by omega) hs1

theorem insR_list (g : Nat → T_Bar) (nb : Nat) (x : T_Bar) (hs : (lstB nb g).Pairwise leB) :
    lstB (insR g nb x).1 (insR g nb x).2 = srtL (lstB nb g ++ [x]) := by
  obtain ⟨h1, h2, h3, h4⟩ := insD_list g x nb hs nb (Nat.le_refl _)
  unfold insR
  split
  · rename_i hp
    rw [if_pos hp] at h1
    exact srtL_eq h1 h2
  · rename_i hp
    have hf : (insD g x nb).1 = false := by simpa using hp
    obtain ⟨e1, e2⟩ := h3 hf
    simp only
    rw [lstB_snoc, e1]
    refine srtL_eq (List.Perm.refl _) ?_
    rw [List.pairwise_append]
    refine ⟨hs, by simp, fun y hy y' hy' => ?_⟩
    simp only [List.mem_cons, List.not_mem_nil, or_false] at hy'
    subst hy'
    simp only [lstB, List.mem_map, List.mem_range] at hy
    obtain ⟨s, h', rfl⟩ := hy
    exact e2 s h'

end Go.Proofs.Ytgdbnnmogddkaaa.Mach
