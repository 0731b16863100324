/- What the law Ge needs, part 4 of 6: the abstract machine and the contracts of the functions. Conditions: as each theorem says. -/
import Derived.Shelf.SlSortCmp.NoneTotal
import Derived.Shelf.RegionOpenPlain
import Derived.Deep.LoopGhost
import Derived.Deep.RegionLaw
import Derived.Lib.Walk
import Derived.Lib.SliceRun
import Derived.Lib.SlicesDelete
import Derived.Test.YtgdbnnmogddkaaaGreatGeP3
namespace Go.Proofs.YtgdbnnmogddkaaaGreat.Mach
open Go Go.Shelf Go.RowKit Go.Lib Go.Sort
set_option linter.unusedVariables false
set_option linter.unusedSimpArgs false
def ltB (x y : T_Bar) : Bool := ltOf cmpB x y
theorem ltB_iff (x y : T_Bar) : ltB x y = true ↔ x.1 < y.1 ∨ (x.1 = y.1 ∧ x.2.1 < y.2.1) := by
  rw [show ltB x y = decide (cmpB x y < 0) from rfl, decide_eq_true_iff]
  unfold cmpB
  rcases Int.lt_trichotomy x.1 y.1 with h | h | h
  · rw [cmpI_1 h]; simp; omega
  · rw [cmpI_3 (x := x.1) (y := y.1) (by omega) (by omega)]
    simp only [if_true]
    rcases Int.lt_trichotomy x.2.1 y.2.1 with h' | h' | h'
    · rw [cmpI_1 h']; simp; omega
    · rw [cmpI_3 (x := x.2.1) (y := y.2.1) (by omega) (by omega)]; simp; omega
    · rw [cmpI_2 h']; simp; omega
  · rw [cmpI_2 h]; simp; omega
theorem swoB : SWO (ltOf cmpB) where
  irrefl x := by
    cases h : ltOf cmpB x x with
    | false => rfl
    | true => have := (ltB_iff x x).1 h; omega
  trans x y z h1 h2 := by
    have h1 := (ltB_iff x y).1 h1
    have h2 := (ltB_iff y z).1 h2
    exact (ltB_iff x z).2 (by omega)
  ntrans x y z h1 h2 := by
    cases h : ltOf cmpB x z with
    | false => rfl
    | true =>
      have h3 := (ltB_iff x z).1 h
      have e1 : ¬ (x.1 < y.1 ∨ (x.1 = y.1 ∧ x.2.1 < y.2.1)) := fun h' => by rw [show ltOf cmpB x y = true from (ltB_iff x y).2 h'] at h1; cases h1
      have e2 : ¬ (y.1 < z.1 ∨ (y.1 = z.1 ∧ y.2.1 < z.2.1)) := fun h' => by rw [show ltOf cmpB y z = true from (ltB_iff y z).2 h'] at h2; cases h2
      omega
theorem totB (x y : T_Bar) (h1 : ltOf cmpB x y = false) (h2 : ltOf cmpB y x = false) : x = y := by
  have e1 : ¬ (x.1 < y.1 ∨ (x.1 = y.1 ∧ x.2.1 < y.2.1)) := fun h' => by rw [show ltOf cmpB x y = true from (ltB_iff x y).2 h'] at h1; cases h1
  have e2 : ¬ (y.1 < x.1 ∨ (y.1 = x.1 ∧ y.2.1 < x.2.1)) := fun h' => by rw [show ltOf cmpB y x = true from (ltB_iff y x).2 h'] at h2; cases h2
  obtain ⟨a, b, ⟨⟩⟩ := x
  obtain ⟨c, d, ⟨⟩⟩ := y
  simp only [Prod.mk.injEq, and_true] at e1 e2 ⊢
  omega
def lstB (n : Nat) (h : Nat → T_Bar) : List T_Bar := (List.range n).map h
def srtL (l : List T_Bar) : List T_Bar := l.mergeSort fun x y => !(ltOf cmpB) y x
def srtB (n : Nat) (h : Nat → T_Bar) (i : Nat) : T_Bar := (srtL (lstB n h)).getD i (0, 0, ())
theorem encB_len (x : T_Bar) : (encB x).length = 2 := rfl
theorem encB_one (x : T_Bar) : ∀ v ∈ encB x, v.oneCell' = true := by
  intro v hv
  simp only [encB, List.mem_cons, List.not_mem_nil, or_false] at hv
  rcases hv with rfl | rfl <;> rfl
theorem srtL_len (l : List T_Bar) : (srtL l).length = l.length := by simp [srtL]
theorem lstB_len (n : Nat) (h : Nat → T_Bar) : (lstB n h).length = n := by simp [lstB]
theorem con_sortBars (n : Nat) (h : Nat → T_Bar) (hn : n ≤ 1048576) :
    Con Tryz.prog 100 1 [(0, brOb n h)] [.ar 2 0 0 n, .p (.fn 101)] [(0, brOb n (srtB n h))] (.tup []) := by
  refine ⟨by kernel_rfl, fun w β X vals hX hH hS hd hl ha => ?_⟩
  obtain ⟨v0, v1, rfl⟩ : ∃ v0 v1, vals = #[v0, v1] := by
    rcases vals with ⟨l⟩
    match l, hl with
    | [a, b], _ => exact ⟨a, b, rfl⟩
  have h0 : VR w β (ow X β [(0, brOb n h)]) (.ar 2 0 0 n) v0 := ha 0 (by simp)
  have h1 : VR w β (ow X β [(0, brOb n h)]) (.p (.fn 101)) v1 := ha 1 (by simp)
  have e1 : v1 = .func (.func 101) #[] #[] := by
    cases h1 with
    | p _ _ hp => cases hp; rfl
  subst e1
  have hnil : ∀ (w' : World) (own : Bool → Nat → Prop), VR w' β own (.tup []) (.tuple #[]) := fun w' own => .tup [] #[] rfl (fun j hj => absurd hj (Nat.not_lt_zero _))
  rcases Nat.eq_zero_or_pos n with rfl | hpos
  · obtain ⟨p, cap, rfl⟩ : ∃ p cap, v0 = .slice p 0 cap := by
      cases h0 with
      | ar0 => exact ⟨_, _, rfl⟩
      | ar => exact ⟨_, _, rfl⟩
    refine (AnyF.slices_SortFunc_none (P := Tryz.prog) (ρ := Tryz.sortBar_ren) { Tryz.sortBar with } p cap _ w).mono ?_
    rintro e w' ⟨rfl, rfl⟩
    refine ⟨_, β, rfl, ?_, ?_, hnil _ _, ?_, fun o a h => h, fun b' h' => .inl ?_, fun k h => .inl h⟩
    · intro o ob hl
      obtain ⟨rfl, rfl⟩ := look_one hl
      rcases hH 0 _ rfl with ⟨hb, _⟩ | ⟨b, base, cells, el, hβ, hh, _⟩ | hm
      · exact .inl ⟨hb, rfl⟩
      · exact .inr (.inl ⟨b, base, cells, el, hβ, hh, fun i hi => absurd hi (Nat.not_lt_zero _)⟩)
      · exact absurd hm.1 (by simp [brOb])
    · intro o o' ob ob' a a' h1 h2 h3 h4 h5
      obtain ⟨rfl, rfl⟩ := look_one h1
      obtain ⟨rfl, rfl⟩ := look_one h2
      rfl
    · rw [ow_one X β (brOb 0 (srtB 0 h)) (brOb 0 h)]
      exact Ext.refl _ _
    · rw [own_one] at h' ⊢; exact h'
  · cases h0 with
    | ar0 => exact absurd hpos (Nat.lt_irrefl 0)
    | ar _ _ _ _ b base c cells elem fr' hβ hh hsz hc =>
      rcases hH 0 _ rfl with ⟨hb, _⟩ | ⟨b', base', cells', el', hβ', hh', hrw⟩ | hm
      · rw [hb] at hβ; cases hβ
      · rw [hβ] at hβ'
        injection hβ' with hβ'
        injection hβ' with i1 i2 _
        subst i1; subst i2
        rw [hh] at hh'
        injection hh' with hh'
        injection hh' with i1 i2 i3
        subst i1; subst i2; subst i3
        have hcell : ∀ i, i < n → cells[base + (i * 2 + 0)]? = some (.int .i64 (h i).1) ∧ cells[base + (i * 2 + 1)]? = some (.int .i64 (h i).2.1) := by
          intro i hi
          obtain ⟨u, hu1, hu2, hu3⟩ := hrw i hi 0 (by simp [brOb])
          obtain ⟨u', hu1', hu2', hu3'⟩ := hrw i hi 1 (by simp [brOb])
          have := vr_int (k := .i64) (x := (h i).1) hu3
          subst this
          have := vr_int (k := .i64) (x := (h i).2.1) hu3'
          subst this
          exact ⟨hu1, hu1'⟩
        have hend : base + n * 2 ≤ cells.size := by
          have := (hcell (n - 1) (by omega)).2
          rcases Nat.lt_or_ge (base + ((n - 1) * 2 + 1)) cells.size with h' | h'
          · omega
          · rw [Array.getElem?_eq_none h'] at this; cases this
        have hdz : ((lstB n h).toArray).size = n := by simp [lstB]
        have hdi : ∀ i, i < n → ((lstB n h).toArray)[i]! = h i := by
          intro i hi
          rw [getElem!_pos _ i (by rw [hdz]; exact hi)]
          simp [lstB]
        have hHK : HoldsK encB 2 w b base (lstB n h).toArray := by
          intro t ht
          rw [size_flatK, hdz] at ht
          rw [get_flatK _ _ _ _ (by rw [hdz]; exact ht), hdi (t / 2) (by omega)]
          have hc := hcell (t / 2) (by omega)
          rcases Nat.mod_two_eq_zero_or_one t with h2 | h2
          · refine ⟨?_, by simp [World.frozen?, hh]⟩
            rw [h2]
            have : base + t = base + (t / 2 * 2 + 0) := by omega
            simp only [World.cell?, hh]
            rw [this, hc.1]; rfl
          · refine ⟨?_, by simp [World.frozen?, hh]⟩
            rw [h2]
            have : base + t = base + (t / 2 * 2 + 1) := by omega
            simp only [World.cell?, hh]
            rw [this, hc.2]; rfl
        have hblk : b < w.heap.size := by
          rcases Nat.lt_or_ge b w.heap.size with h' | h'
          · exact h'
          · rw [Array.getElem?_eq_none h'] at hh; cases hh
        have eg : ∀ args w, (callFunc 101 args).run Tryz.prog w = .ok (.enter 101 args) w := enters_of Tryz.func101 (by kernel_rfl) rfl
        have hcmp : CmpLays Tryz.prog 101 #[] encB 2 cmpB b base (lstB n h).toArray.size w := fun _ _ _ _ x y => cmp_bars x y _
        have hcon := AnyQ.slices_SortFunc_total Tryz.sortBar 2 Tryz.isAgg64 Tryz.sizeOf64 encB encB_len encB_one cmpB swoB 101 #[] b base c (lstB n h).toArray w eg hcmp hHK hblk (by rw [hdz]; omega) totB
        rw [hdz] at hcon
        change Calls Tryz.prog 100 _ _ _ at hcon
        rw [show base + 0 * 2 = base by omega]
        refine hcon.mono ?_
        rintro e w' ⟨rfl, q, os, rfl⟩
        refine sW_post (F := flatK encB 2 (srtL (lstB n h)).toArray) hβ hh hS hend (by rw [size_flatK]; simp [srtL_len, lstB_len]) (fun i hi j hj => ?_) (hnil _)
        have hs : ((srtL (lstB n h)).toArray).size = n := by simp [srtL_len, lstB_len]
        have hi2 : i * 2 + j < n * 2 := by omega
        rw [get_flatK _ _ _ _ (by rw [hs]; exact hi2), show (i * 2 + j) / 2 = i by omega, show (i * 2 + j) % 2 = j by omega]
        have hgi : (srtL (lstB n h)).toArray[i]! = srtB n h i := by
          rw [getElem!_pos _ i (by rw [hs]; exact hi), srtB]
          simp [List.getD_eq_getElem?_getD, List.getElem?_eq_getElem (show i < (srtL (lstB n h)).length by rw [srtL_len, lstB_len]; exact hi)]
        rw [hgi]
        rcases (show j = 0 ∨ j = 1 by omega) with rfl | rfl
        · exact ⟨rfl, fun w' own => .p _ _ (.int _ _)⟩
        · exact ⟨rfl, fun w' own => .p _ _ (.int _ _)⟩
      · exact absurd hm.1 (by simp [brOb])
def leB (x y : T_Bar) : Prop := ltB y x = false
theorem leB_iff (x y : T_Bar) : leB x y ↔ x.1 < y.1 ∨ (x.1 = y.1 ∧ x.2.1 ≤ y.2.1) := by
  have h := ltB_iff y x
  unfold leB
  cases hb : ltB y x with
  | false => rw [hb] at h; simp only [Bool.false_eq_true, false_iff] at h; simp only [true_iff]; omega
  | true => rw [hb] at h; simp only [true_iff] at h; simp only [Bool.true_eq_false, false_iff]; omega
theorem aft_iff (x y : T_Bar) : aft x y = true ↔ leB x y := by
  rw [leB_iff]
  unfold aft
  by_cases h1 : x.1 < y.1
  · simp [h1]
  · by_cases h2 : x.1 = y.1 <;> simp [h1, h2]
theorem leB_antisymm (x y : T_Bar) (h1 : leB x y) (h2 : leB y x) : x = y := totB x y h2 h1
theorem srtL_sorted (l : List T_Bar) : (srtL l).Pairwise leB := by
  have h := List.pairwise_mergeSort (le := fun x y => !(ltOf cmpB) y x) (fun a b c h1 h2 => by
    simp only [Bool.not_eq_true'] at *
    have h1 := (leB_iff a b).1 h1
    have h2 := (leB_iff b c).1 h2
    exact (leB_iff a c).2 (by omega)) (fun a b => by
    simp only [Bool.or_eq_true, Bool.not_eq_true']
    rcases (show (a.1 < b.1 ∨ (a.1 = b.1 ∧ a.2.1 ≤ b.2.1)) ∨ (b.1 < a.1 ∨ (b.1 = a.1 ∧ b.2.1 ≤ a.2.1)) by omega) with h | h
    · exact .inl ((leB_iff a b).2 h)
    · exact .inr ((leB_iff b a).2 h)) l
  exact h.imp (fun {a b} h => show ltOf cmpB b a = false by simpa using h)
theorem srtL_perm (l : List T_Bar) : (srtL l).Perm l := List.mergeSort_perm l _
theorem srtL_eq {l m : List T_Bar} (hp : m.Perm l) (hs : m.Pairwise leB) : m = srtL l :=
  List.Perm.eq_of_pairwise (le := leB) (fun a b _ _ h1 h2 => leB_antisymm a b h1 h2) hs (srtL_sorted l) (hp.trans (srtL_perm l).symm)
theorem lstB_succ (n : Nat) (h : Nat → T_Bar) : lstB (n + 1) h = lstB n h ++ [h n] := by simp [lstB, List.range_succ]
theorem lstB_congr {n : Nat} {h h' : Nat → T_Bar} (he : ∀ i, i < n → h i = h' i) : lstB n h = lstB n h' := by
  simp only [lstB]
  exact List.map_congr_left (fun a ha => he a (List.mem_range.1 ha))
theorem lstB_snoc (n : Nat) (h : Nat → T_Bar) (x : T_Bar) : lstB (n + 1) (snoc n h x) = lstB n h ++ [x] := by
  rw [lstB_succ, lstB_congr (h' := h) (fun i hi => snoc_lt hi), snoc_ge (Nat.lt_irrefl n)]
theorem lstB_inj {n : Nat} {h h' : Nat → T_Bar} (he : lstB n h = lstB n h') (i : Nat) (hi : i < n) : h i = h' i := by
  have : (lstB n h)[i]? = (lstB n h')[i]? := by rw [he]
  simpa [lstB, hi] using this
theorem lstB_srt (n : Nat) (h : Nat → T_Bar) : lstB n (srtB n h) = srtL (lstB n h) := by
  refine List.ext_getElem? (fun i => ?_)
  rcases Nat.lt_or_ge i n with hi | hi
  · have : i < (srtL (lstB n h)).length := by rw [srtL_len, lstB_len]; exact hi
    simp only [lstB, List.getElem?_map, List.getElem?_range hi, Option.map_some]
    rw [show srtL (List.map h (List.range n)) = srtL (lstB n h) from rfl, List.getElem?_eq_getElem this]
    simp [srtB, List.getD_eq_getElem?_getD, List.getElem?_eq_getElem this]
  · rw [List.getElem?_eq_none (by rw [lstB_len]; exact hi), List.getElem?_eq_none (by rw [srtL_len, lstB_len]; exact hi)]
theorem insD_list (g : Nat → T_Bar) (x : T_Bar) (nb : Nat) (hs : (lstB nb g).Pairwise leB) : ∀ i, i ≤ nb →
    (lstB (insD g x i).2.1 (insD g x i).2.2).Perm (lstB i g ++ (if (insD g x i).1 = true then [x] else [])) ∧
    (lstB (insD g x i).2.1 (insD g x i).2.2).Pairwise leB ∧ ((insD g x i).1 = false → (lstB (insD g x i).2.1 (insD g x i).2.2) = lstB i g ∧ ∀ s, s < i → leB (g s) x) ∧
    ((insD g x i).1 = true → ∀ s, s < nb → i ≤ s → ∀ y ∈ lstB (insD g x i).2.1 (insD g x i).2.2, leB y (g s)) := by
  have hmono : ∀ s s', s < s' → s' < nb → leB (g s) (g s') := by
    intro s s' h1 h2
    have := List.pairwise_iff_getElem.1 hs s s' (by rw [lstB_len]; omega) (by rw [lstB_len]; omega) h1
    simpa [lstB] using this
  have htr : ∀ {a b c : T_Bar}, leB a b → leB b c → leB a c := by
    intro a b c h1 h2
    have h1 := (leB_iff a b).1 h1
    have h2 := (leB_iff b c).1 h2
    exact (leB_iff a c).2 (by omega)
  intro i
  induction i with
  | zero => intro _; exact ⟨by simp [insD, lstB], by simp [insD, lstB], fun _ => ⟨rfl, fun s h => absurd h (Nat.not_lt_zero _)⟩, fun h => by simp [insD] at h⟩
  | succ i ih =>
    intro hi
    obtain ⟨ih1, ih2, ih3, ih4⟩ := ih (by omega)
    simp only [insD]
    split
    · rename_i ht
      have hf : (insD g x i).1 = false := by
        cases e : (insD g x i).1 with
        | false => rfl
        | true => rw [e] at ht; simp at ht
      rw [hf] at ht
      simp only [Bool.not_false, cond_true, Bool.not_eq_true'] at ht
      have hxg : leB x (g i) := by
        have h1 : ¬ leB (g i) x := fun h => by rw [(aft_iff _ _).2 h] at ht; cases ht
        rw [leB_iff] at h1 ⊢
        omega
      obtain ⟨e1, e2⟩ := ih3 hf
      simp only [if_true]
      rw [lstB_snoc, lstB_snoc, e1]
      have hlt : ∀ y ∈ lstB i g, leB y x ∧ leB y (g i) := by
        intro y hy
        simp only [lstB, List.mem_map, List.mem_range] at hy
        obtain ⟨s, h1, rfl⟩ := hy
        exact ⟨e2 s h1, hmono s i h1 (by omega)⟩
      refine ⟨?_, ?_, fun h => by simp at h, fun _ s hs1 hs2 y hy => ?_⟩
      · rw [lstB_succ, List.append_assoc, List.append_assoc]
        exact List.Perm.append_left _ (List.Perm.swap _ _ _)
      · rw [e1] at ih2
        rw [List.append_assoc, List.pairwise_append]
        refine ⟨ih2, by simp [hxg], fun y hy y' hy' => ?_⟩
        simp only [List.cons_append, List.nil_append, List.mem_cons, List.not_mem_nil, or_false] at hy'
        rcases hy' with rfl | rfl
        · exact (hlt y hy).1
        · exact (hlt y hy).2
      · have his : leB (g i) (g s) := hmono i s (by omega) hs1
        simp only [List.mem_append, List.mem_cons, List.not_mem_nil, or_false] at hy
        rcases hy with (hy | rfl) | rfl
        · exact htr (hlt y hy).2 his
        · exact htr hxg his
        · exact his
    · rename_i ht
      rw [lstB_snoc]
      refine ⟨?_, ?_, fun h => ?_, fun h s hs1 hs2 y hy => ?_⟩
      · rw [lstB_succ, List.append_assoc]
        refine (List.Perm.append_right [g i] ih1).trans ?_
        rw [List.append_assoc]
        exact List.Perm.append_left _ List.perm_append_comm
      · rw [List.pairwise_append]
        refine ⟨ih2, by simp, fun y hy y' hy' => ?_⟩
        simp only [List.mem_cons, List.not_mem_nil, or_false] at hy'
        subst hy'
        cases hp : (insD g x i).1 with
        | true => exact ih4 hp i (by omega) (Nat.le_refl _) y hy
        | false =>
          rw [(ih3 hp).1] at hy
          simp only [lstB, List.mem_map, List.mem_range] at hy
          obtain ⟨s, h1, rfl⟩ := hy
          exact hmono s i h1 (by omega)
      · simp only at h
        obtain ⟨e1, e2⟩ := ih3 h
        refine ⟨by rw [e1, lstB_succ], fun s hs1 => ?_⟩
        rcases Nat.lt_or_ge s i with h' | h'
        · exact e2 s h'
        · obtain rfl : s = i := by omega
          rw [h] at ht
          simp only [Bool.not_false, cond_true, Bool.not_eq_true', Bool.not_eq_false] at ht
          exact (aft_iff _ _).1 ht
      · simp only at h
        simp only [List.mem_append, List.mem_cons, List.not_mem_nil, or_false] at hy
        rcases hy with hy | rfl
        · exact ih4 h s hs1 (by omega) y hy
        · exact hmono i s (by omega) hs1
theorem insR_list (g : Nat → T_Bar) (nb : Nat) (x : T_Bar) (hs : (lstB nb g).Pairwise leB) :
    lstB (insR g nb x).1 (insR g nb x).2 = srtL (lstB nb g ++ [x]) := by
  obtain ⟨h1, h2, h3, h4⟩ := insD_list g x nb hs nb (Nat.le_refl _)
  unfold insR
  split
  · rename_i hp
    rw [if_pos hp] at h1
    exact srtL_eq h1 h2
  · rename_i hp
    have hf : (insD g x nb).1 = false := by simpa using hp
    obtain ⟨e1, e2⟩ := h3 hf
    simp only
    rw [lstB_snoc, e1]
    refine srtL_eq (List.Perm.refl _) ?_
    rw [List.pairwise_append]
    refine ⟨hs, by simp, fun y hy y' hy' => ?_⟩
    simp only [List.mem_cons, List.not_mem_nil, or_false] at hy'
    subst hy'
    simp only [lstB, List.mem_map, List.mem_range] at hy
    obtain ⟨s, h', rfl⟩ := hy
    exact e2 s h'
end Go.Proofs.YtgdbnnmogddkaaaGreat.Mach
namespace Go.Proofs.YtgdbnnmogddkaaaGreat.Mach
open Go
set_option linter.unusedVariables false
set_option linter.unusedSimpArgs false
def hasI (g : Nat → Int) (x : Int) : Nat → Bool
  | 0 => false
  | k + 1 => hasI g x k || g k == x
def inL (v : T_IntS) : AV := .p (.seq true 1 v.1 (fun i => [.int .i64 (v.2 i)]))
def S85 (v : T_IntS) (x : Int) (k : Nat) : St :=
  ⟨[inL v, .p (.int .i64 x), .p .any, .p .any, .p .any, .p (.int .i64 k)] ++ List.replicate 12 anyA, [], 0⟩
def S112 (v : T_IntS) (x : Int) (k : Nat) : St :=
  ⟨[inL v, .p (.int .i64 x)] ++ List.replicate 5 anyA ++ [.p (.int .i64 v.1), .p (.int .i64 k)] ++ List.replicate 10 anyA, [], 0⟩
theorem p85a (v : T_IntS) (x : Int) :
    pieceOb Tryz.prog 0 [rg 1, rg 1, .head] [.code (bodyOf Tryz.f84)] (start Tryz.f84 [] 0 [inL v, .p (.int .i64 x)]) [] 1 (S85 v x 0) =
    some (zf91, [(AN v.1),(AP v.1 (fun i => [.int .i64 (v.2 i)])),(AI x),((0 : Int) = (↑0 : Int))]) := by kernel_rfl
theorem p85b (v : T_IntS) (x : Int) (k : Nat) :
    pieceOb Tryz.prog 0 [rg 4, .dec true, rg 6, .dec false, rg 3, .head] zf91 (S85 v x k) [] 1 (S85 v x (k + 1)) =
    some (zf91, [((decide ((↑k : Int) < (↑v.1 : Int))) = true),(IL 0 (↑k : Int)),(IT (↑k : Int) (↑v.1 : Int)),((v.2 k == x) = false),(R0 ((↑k : Int) + 1)),(R1 ((↑k : Int) + 1)),(AN v.1),(AP v.1 (fun i => [.int .i64 (v.2 i)])),(AI x),((((↑k : Int) + 1) : Int) = (↑(k + 1) : Int))]) := by kernel_rfl
theorem p85c (v : T_IntS) (x : Int) (k : Nat) :
    pathOb Tryz.prog Tryz.f84 0 [rg 4, .dec true, rg 6, .dec true, rg 1] zf91 (S85 v x k) [] 1 [] (.p (.bool true)) =
    some [((decide ((↑k : Int) < (↑v.1 : Int))) = true),(IL 0 (↑k : Int)),(IT (↑k : Int) (↑v.1 : Int)),((v.2 k == x) = true),(true = true)] := by kernel_rfl
theorem p85d (v : T_IntS) (x : Int) (k : Nat) :
    pathOb Tryz.prog Tryz.f84 0 [rg 4, .dec false, rg 1] zf91 (S85 v x k) [] 1 [] (.p (.bool false)) =
    some [((decide ((↑k : Int) < (↑v.1 : Int))) = false),(false = false)] := by kernel_rfl
theorem p112a (v : T_IntS) (x : Int) :
    pieceOb Tryz.prog 0 [rg 1, rg 3, .head] [.code (bodyOf Tryz.f117)] (start Tryz.f117 [] 0 [inL v, .p (.int .i64 x)]) [] 1 (S112 v x 0) =
    some (zf87, [(AN v.1),(AP v.1 (fun i => [.int .i64 (v.2 i)])),(AI x),(AI ((↑v.1 : Int))),((0 : Int) = (↑0 : Int))]) := by kernel_rfl
theorem p112b (v : T_IntS) (x : Int) (k : Nat) :
    pieceOb Tryz.prog 0 [rg 1, .dec true, rg 2, rg 6, .dec false, rg 2, .head] zf87 (S112 v x k) [] 1 (S112 v x (k + 1)) =
    some (zf87, [((decide ((↑k : Int) < (↑v.1 : Int))) = true),(IL 0 (↑k : Int)),(IT (↑k : Int) (↑v.1 : Int)),((x == v.2 k) = false),(R0 ((↑k : Int) + 1)),(R1 ((↑k : Int) + 1)),(AN v.1),(AP v.1 (fun i => [.int .i64 (v.2 i)])),(AI x),(AI ((↑v.1 : Int))),((((↑k : Int) + 1) : Int) = (↑(k + 1) : Int))]) := by kernel_rfl
theorem p112c (v : T_IntS) (x : Int) (k : Nat) :
    pathOb Tryz.prog Tryz.f117 0 [rg 1, .dec true, rg 2, rg 6, .dec true, rg 2] zf87 (S112 v x k) [] 1 [] (.p (.int .i64 k)) =
    some [((decide ((↑k : Int) < (↑v.1 : Int))) = true),(IL 0 (↑k : Int)),(IT (↑k : Int) (↑v.1 : Int)),((x == v.2 k) = true),(AI ((↑k : Int)))] := by kernel_rfl
theorem p112d (v : T_IntS) (x : Int) (k : Nat) :
    pathOb Tryz.prog Tryz.f117 0 [rg 1, .dec false, rg 1] zf87 (S112 v x k) [] 1 [] (.p (.int .i64 (-1))) =
    some [((decide ((↑k : Int) < (↑v.1 : Int))) = false),(AI ((-1)))] := by kernel_rfl
theorem p90 (v : T_IntS) (x r : Int) :
    pathOb Tryz.prog Tryz.f99 0 [rg 1, rm [(2, oc [] (.p (.int .i64 r)))] 2] [.code (bodyOf Tryz.f99)] (start Tryz.f99 [] 0 [inL v, .p (.int .i64 x)]) [] 1 [] (.p (.bool (decide (r ≥ 0)))) =
    some [Con Tryz.prog 117 0 [] [.p (.seq true 1 v.1 (fun i => [.int .i64 (v.2 i)])), .p (.int .i64 x)] [] (.p (.int .i64 r)),((decide (r ≥ 0)) = (decide (r ≥ 0)))] := by kernel_rfl
theorem hasI_hit (g : Nat → Int) (x : Int) (k : Nat) (h : (g k == x) = true) : ∀ n, k < n → hasI g x n = true
  | 0, h' => by omega
  | n + 1, h' => by
    by_cases e : k = n
    · subst e; simp [hasI, h]
    · simp [hasI, hasI_hit g x k h n (by omega)]
theorem con_l2Has (v : T_IntS) (x : Int) (hn : v.1 ≤ 1048576) : Con Tryz.prog 84 0 [] [inL v, .p (.int .i64 x)] [] (.p (.bool (hasI v.2 x v.1))) := by
  refine con_start Tryz.func84 rfl (by kernel_rfl) rfl (fun c hc => ?_)
  have lp : ∀ m k, k + m = v.1 → hasI v.2 x k = false → Run Tryz.prog c 84 zf91 (S85 v x k) (Post c [] (.p (.bool (hasI v.2 x v.1)))) := by
    intro m
    induction m with
    | zero =>
      intro k hk hg
      rw [show hasI v.2 x v.1 = false by rw [show v.1 = k by omega]; exact hg]
      have hd : decide ((k : Int) < (v.1 : Int)) = false := by simp; omega
      refine path_ok mixed Tryz.func84 hc (p85d v x k) ?_
      simp only [All]
      repeat' (first | exact trivial | with_reducible apply And.intro)
      all_goals (first | omega | rfl | (intros; first | assumption | exact trivial | rfl | contradiction | ((repeat' (first | assumption | apply anda | apply notf)); done)))
    | succ m ih =>
      intro k hk hg
      have hd : decide ((k : Int) < (v.1 : Int)) = true := by simp; omega
      cases he : (v.2 k == x) with
      | true =>
        rw [hasI_hit v.2 x k he v.1 (by omega)]
        refine path_ok mixed Tryz.func84 hc (p85c v x k) ?_
        simp only [All]
        repeat' (first | exact trivial | with_reducible apply And.intro)
        all_goals (first | omega | rfl | (intros; first | assumption | exact trivial | rfl | contradiction | ((repeat' (first | assumption | apply anda | apply notf)); done)) | (exact he))
      | false =>
        refine piece_ok mixed hc (p85b v x k) ?_ (ih (k + 1) (by omega) (by simp only [hasI, hg, he]; rfl))
        simp only [All]
        repeat' (first | exact trivial | with_reducible apply And.intro)
        all_goals (first | exact aP _ _ | omega | rfl | (intros; first | assumption | exact trivial | rfl | contradiction | ((repeat' (first | assumption | apply anda | apply notf)); done)) | (exact he))
  refine piece_ok mixed hc (p85a v x) ?_ (lp v.1 0 (by omega) rfl)
  simp only [All]
  repeat' (first | exact trivial | with_reducible apply And.intro)
  all_goals (first | exact aP _ _ | omega | rfl | (intros; first | assumption | exact trivial | rfl | contradiction | ((repeat' (first | assumption | apply anda | apply notf)); done)))
theorem con_Index (v : T_IntS) (x : Int) (hn : v.1 ≤ 1048576) : ∃ r : Int, decide (r ≥ 0) = hasI v.2 x v.1 ∧ Con Tryz.prog 117 0 [] [inL v, .p (.int .i64 x)] [] (.p (.int .i64 r)) := by
  have key : (∃ k, k < v.1 ∧ hasI v.2 x k = false ∧ (v.2 k == x) = true) ∨ hasI v.2 x v.1 = false := by
    have gen : ∀ n, (∃ k, k < n ∧ hasI v.2 x k = false ∧ (v.2 k == x) = true) ∨ hasI v.2 x n = false := by
      intro n
      induction n with
      | zero => exact .inr rfl
      | succ n ih =>
        rcases ih with ⟨k, h1, h2⟩ | h
        · exact .inl ⟨k, by omega, h2⟩
        · cases he : (v.2 n == x) with
          | true => exact .inl ⟨n, by omega, h, he⟩
          | false => exact .inr (by simp only [hasI, h, he]; rfl)
    exact gen v.1
  rcases key with ⟨q, hq, hq1, hq2⟩ | hno
  · refine ⟨(q : Int), by rw [hasI_hit v.2 x q hq2 v.1 hq]; simp, ?_⟩
    refine con_start Tryz.func117 rfl (by kernel_rfl) rfl (fun c hc => ?_)
    have lp : ∀ m k, k + m = q → Run Tryz.prog c 117 zf87 (S112 v x k) (Post c [] (.p (.int .i64 (q : Int)))) := by
      intro m
      induction m with
      | zero =>
        intro k hk
        obtain rfl : k = q := by omega
        have hd : decide ((k : Int) < (v.1 : Int)) = true := by simp; omega
        have he : (x == v.2 k) = true := by rw [beq_iff_eq] at hq2 ⊢; exact hq2.symm
        refine path_ok mixed Tryz.func117 hc (p112c v x k) ?_
        simp only [All]
        repeat' (first | exact trivial | with_reducible apply And.intro)
        all_goals (first | omega | rfl | (intros; first | assumption | exact trivial | rfl | contradiction | ((repeat' (first | assumption | apply anda | apply notf)); done)) | (exact he))
      | succ m ih =>
        intro k hk
        have hd : decide ((k : Int) < (v.1 : Int)) = true := by simp; omega
        have he : (x == v.2 k) = false := by
          cases h : (v.2 k == x) with
          | true => rw [hasI_hit v.2 x k h q (by omega)] at hq1; cases hq1
          | false =>
            simp only [beq_eq_false_iff_ne, ne_eq] at h ⊢
            exact fun e => h e.symm
        refine piece_ok mixed hc (p112b v x k) ?_ (ih (k + 1) (by omega))
        simp only [All]
        repeat' (first | exact trivial | with_reducible apply And.intro)
        all_goals (first | exact aP _ _ | omega | rfl | (intros; first | assumption | exact trivial | rfl | contradiction | ((repeat' (first | assumption | apply anda | apply notf)); done)) | (exact he))
    refine piece_ok mixed hc (p112a v x) ?_ (lp q 0 (by omega))
    simp only [All]
    repeat' (first | exact trivial | with_reducible apply And.intro)
    all_goals (first | exact aP _ _ | omega | rfl | (intros; first | assumption | exact trivial | rfl | contradiction | ((repeat' (first | assumption | apply anda | apply notf)); done)))
  · refine ⟨-1, by rw [hno]; rfl, ?_⟩
    refine con_start Tryz.func117 rfl (by kernel_rfl) rfl (fun c hc => ?_)
    have lp : ∀ m k, k + m = v.1 → Run Tryz.prog c 117 zf87 (S112 v x k) (Post c [] (.p (.int .i64 (-1)))) := by
      intro m
      induction m with
      | zero =>
        intro k hk
        have hd : decide ((k : Int) < (v.1 : Int)) = false := by simp; omega
        refine path_ok mixed Tryz.func117 hc (p112d v x k) ?_
        simp only [All]
        repeat' (first | exact trivial | with_reducible apply And.intro)
        all_goals (first | omega | rfl | (intros; first | assumption | exact trivial | rfl | contradiction | ((repeat' (first | assumption | apply anda | apply notf)); done)))
      | succ m ih =>
        intro k hk
        have hd : decide ((k : Int) < (v.1 : Int)) = true := by simp; omega
        have he : (x == v.2 k) = false := by
          cases h : (v.2 k == x) with
          | true => rw [hasI_hit v.2 x k h v.1 (by omega)] at hno; cases hno
          | false =>
            simp only [beq_eq_false_iff_ne, ne_eq] at h ⊢
            exact fun e => h e.symm
        refine piece_ok mixed hc (p112b v x k) ?_ (ih (k + 1) (by omega))
        simp only [All]
        repeat' (first | exact trivial | with_reducible apply And.intro)
        all_goals (first | exact aP _ _ | omega | rfl | (intros; first | assumption | exact trivial | rfl | contradiction | ((repeat' (first | assumption | apply anda | apply notf)); done)) | (exact he))
    refine piece_ok mixed hc (p112a v x) ?_ (lp v.1 0 (by omega))
    simp only [All]
    repeat' (first | exact trivial | with_reducible apply And.intro)
    all_goals (first | exact aP _ _ | omega | rfl | (intros; first | assumption | exact trivial | rfl | contradiction | ((repeat' (first | assumption | apply anda | apply notf)); done)))
theorem con_Contains (v : T_IntS) (x : Int) (hn : v.1 ≤ 1048576) : Con Tryz.prog 99 0 [] [inL v, .p (.int .i64 x)] [] (.p (.bool (hasI v.2 x v.1))) := by
  obtain ⟨r, hr, hcon⟩ := con_Index v x hn
  rw [← hr]
  refine con_start Tryz.func99 rfl (by kernel_rfl) rfl (fun c hc => ?_)
  refine path_ok mixed Tryz.func99 hc (p90 v x r) ?_
  simp only [All]
  repeat' (first | exact trivial | with_reducible apply And.intro)
  all_goals (first | omega | rfl | (intros; first | assumption | exact trivial | rfl | contradiction | ((repeat' (first | assumption | apply anda | apply notf)); done)) | (exact hcon))
end Go.Proofs.YtgdbnnmogddkaaaGreat.Mach
namespace Go.Proofs.YtgdbnnmogddkaaaGreat.Mach
open Go Go.Sort
set_option linter.unusedVariables false
set_option linter.unusedSimpArgs false
def brX (a b : Int) : T_Bar := (if b < a then b else a, if b > a then b else a, ())
def zG2 : Ob := ⟨true, 2, 1, fun _ => [.p (.int .i64 0), .p .nil]⟩
theorem dBar (a b : Int) :
    pathOb Tryz.prog Tryz.f36 0 [rg 1, rg 8] [.code (bodyOf Tryz.f36)] (start Tryz.f36 [] 0 [.p (.int .i64 a), .p (.int .i64 b)]) [] 1 [] (.agg [.p (.int .i64 (if b < a then b else a)), .p (.int .i64 (if b > a then b else a))]) =
    some [(NT 0 1),((true = true) →  (AN 1)),(NT 0 1),(((if false = true then if b > a then b else a else if b < a then b else a) : Int) = (if b < a then b else a)),(((if true = true then if b > a then b else a else if b < a then b else a) : Int) = (if b > a then b else a))] := by kernel_rfl
theorem dHas (v : T_Graph) (p : Int) :
    pathOb Tryz.prog Tryz.f98 0 [rg 2, rm [(4, oc [] (.p (.bool (inB p 0 (v.1 - 1)))))] 1] [.code (bodyOf Tryz.f98)] (start Tryz.f98 [] 0 [graphA v, .p (.int .i64 p)]) [] 1 [] (.p (.bool (inB p 0 (v.1 - 1)))) =
    some [(NT 0 1),(R0 (v.1 - 1)),(R1 (v.1 - 1)),Con Tryz.prog 116 0 [] [.p (.int .i64 p), .p (.int .i64 0), .p (.int .i64 (v.1 - 1))] [] (.p (.bool (inB p 0 (v.1 - 1)))),((inB p 0 (v.1 - 1)) = (inB p 0 (v.1 - 1)))] := by kernel_rfl
theorem con_barX (a b : Int) : Con Tryz.prog 36 0 [] [.p (.int .i64 a), .p (.int .i64 b)] [] (.agg [.p (.int .i64 (brX a b).1), .p (.int .i64 (brX a b).2.1)]) := by
  refine con_start Tryz.func36 rfl (by kernel_rfl) rfl (fun c hc => ?_)
  refine path_ok mixed Tryz.func36 hc (dBar a b) ?_
  simp only [All]
  repeat' (first | exact trivial | with_reducible apply And.intro)
  all_goals (first | omega | rfl | (intros; first | assumption | exact trivial | rfl | contradiction | ((repeat' (first | assumption | apply anda | apply notf)); done)) | simp)
theorem con_hasX (v : T_Graph) (p : Int) (h1 : 1 ≤ v.1) (h2 : v.1 ≤ 8) : Con Tryz.prog 98 0 [] [graphA v, .p (.int .i64 p)] [] (.p (.bool (inB p 0 (v.1 - 1)))) := by
  refine con_start Tryz.func98 rfl (by kernel_rfl) rfl (fun c hc => ?_)
  refine path_ok mixed Tryz.func98 hc (dHas v p) ?_
  simp only [All]
  repeat' (first | exact trivial | with_reducible apply And.intro)
  all_goals (first | omega | rfl | (intros; first | assumption | exact trivial | rfl | contradiction | ((repeat' (first | assumption | apply anda | apply notf)); done)) | (exact con_within _ _ _))
theorem graph_inR {v : T_Graph} (h : isGraphF v = true) : 1 ≤ v.1 ∧ v.1 ≤ 8 ∧ v.2.1.1 ≤ 24 ∧ goodB v.1 v.2.1.2 v.2.1.1 = true := by
  unfold isGraphF at h
  split at h
  · rename_i h1
    simp only [inB, Bool.and_eq_true, decide_eq_true_eq] at h1
    exact ⟨h1.1.1, h1.1.2, h1.2, h⟩
  · cases h
theorem goodB_at {N : Int} {g : Nat → T_Bar} : ∀ {n : Nat}, goodB N g n = true → ∀ k, k < n → 0 ≤ (g k).1 ∧ (g k).1 < (g k).2.1 ∧ (g k).2.1 < N ∧ (0 < k → leB (g (k - 1)) (g k))
  | 0, _, k, hk => absurd hk (Nat.not_lt_zero _)
  | n + 1, h, k, hk => by
    simp only [goodB, Bool.and_eq_true, Bool.not_eq_true'] at h
    by_cases e : k = n
    · subst e
      have h2 := h.2
      unfold badB at h2
      by_cases c1 : (g k).1 < 0
      · simp [c1] at h2
      by_cases c2 : (g k).1 ≥ (g k).2.1
      · simp [c1, c2] at h2
      by_cases c3 : (g k).2.1 ≥ N
      · simp [c1, c2, c3] at h2
      refine ⟨by omega, by omega, by omega, fun h0 => ?_⟩
      simp only [c1, c2, c3, decide_false, cond_false] at h2
      rw [decide_eq_true (show (k : Int) > 0 by omega)] at h2
      simp only [cond_true, Bool.not_eq_false'] at h2
      rw [← aft_iff]
      rw [show ((k : Int) - 1).toNat = k - 1 by omega] at h2
      exact h2
    · exact goodB_at h.1 k (by omega)
theorem goodB_sorted {N : Int} {g : Nat → T_Bar} {n : Nat} (h : goodB N g n = true) : (lstB n g).Pairwise leB := by
  have step := goodB_at h
  have htr : ∀ {a b c : T_Bar}, leB a b → leB b c → leB a c := by
    intro a b c h1 h2
    have h1 := (leB_iff a b).1 h1
    have h2 := (leB_iff b c).1 h2
    exact (leB_iff a c).2 (by omega)
  have mono : ∀ d i, i + d < n → leB (g i) (g (i + d)) := by
    intro d
    induction d with
    | zero => intro i hi; show leB (g i) (g i); exact (leB_iff _ _).2 (by omega)
    | succ d ih => intro i hi; exact htr (ih i (by omega)) ((step (i + (d + 1)) hi).2.2.2 (by omega))
  rw [List.pairwise_iff_getElem]
  intro i j hi hj hij
  rw [lstB_len] at hi hj
  have := mono (j - i) i (by omega)
  rw [show i + (j - i) = j by omega] at this
  simpa [lstB] using this
theorem sm_graph {v : T_Graph} (h : v.2.1.1 ≤ 1048576) : smS s_Graph v := ⟨by simp [smS, smL], ⟨h, fun i hi => by simp [smS, smL]⟩, True.intro⟩
end Go.Proofs.YtgdbnnmogddkaaaGreat.Mach
namespace Go.Proofs.YtgdbnnmogddkaaaGreat.Mach
open Go
set_option linter.unusedVariables false
set_option linter.unusedSimpArgs false
theorem rIs (g g' : Nat → T_Bar) (nb nb' N : Nat) (a b : Int) (r1 r0 : Nat) :
    pathOb Tryz.prog Tryz.f91 0 [rg 2, rm [(1, oc [] (.p (.bool true)))] 21, .dec false, rm [(8, oc [(0, brOb nb' g')] (.agg [.p (.int .i64 N), .ar 2 0 0 nb']))] 2, rm [(5, oc [] (.p (.int .i64 r1))), (1, oc [] (.p (.int .i64 r0)))] 3] [.code (bodyOf Tryz.f91)] (start Tryz.f91 [] 0 [grG g nb N, .p (.int .i64 a), .p (.int .i64 b)]) [] 1 [] (.p (.bool (bif a == b then true else (r1 : Int) == (r0 : Int)))) =
    some [(NT 0 1),Con Tryz.prog 86 0 [] [(zf111 N nb g)] [] (.p (.bool true)),(AG (!!true)),(((!true) = false) →  ((!!true) = true)),(AG (!bif !true then true else decide (a < 0))),(((bif !true then true else decide (a < 0)) = false) →  ((!bif !true then true else decide (a < 0)) = true)),(AG (!bif bif !true then true else decide (a < 0) then true else decide (b < 0))),(((!bif bif !true then true else decide (a < 0) then true else decide (b < 0)) = true) → (NT 0 1)),(AG (!bif bif !true then true else decide (a < 0) then true else decide (b < 0))),(AG (!bif bif !true then true else decide (a < 0) then true else decide (b < 0))),(((bif bif !true then true else decide (a < 0) then true else decide (b < 0)) = false) →  ((!bif bif !true then true else decide (a < 0) then true else decide (b < 0)) = true)),(AG (!bif bif bif !true then true else decide (a < 0) then true else decide (b < 0) then true else decide (a ≥ (↑N : Int)))),(((!bif bif bif !true then true else decide (a < 0) then true else decide (b < 0) then true else decide (a ≥ (↑N : Int))) = true) → (NT 0 1)),(AG (!bif bif bif !true then true else decide (a < 0) then true else decide (b < 0) then true else decide (a ≥ (↑N : Int)))),(AG (!bif bif bif !true then true else decide (a < 0) then true else decide (b < 0) then true else decide (a ≥ (↑N : Int)))),(((bif bif bif !true then true else decide (a < 0) then true else decide (b < 0) then true else decide (a ≥ (↑N : Int))) = false) →  ((!bif bif bif !true then true else decide (a < 0) then true else decide (b < 0) then true else decide (a ≥ (↑N : Int))) = true)),((bif bif bif bif !true then true else decide (a < 0) then true else decide (b < 0) then true else decide (a ≥ (↑N : Int)) then true else decide (b ≥ (↑N : Int))) = false),(NT 0 1),Con Tryz.prog 87 0 [] [(zf111 N nb g), (zf24 b a)] (zf121 nb' g') (.agg [.p (.int .i64 (↑N : Int)), .ar 2 0 0 nb']),(NT 0 1),((true = true) →  (AN 1)),(((!a == b) = true) → (NT 0 1)),(AG (!a == b)),(((!a == b) = true) →  (AN 2)),(((!a == b) = true) → (NL (nb') (nb'))),(((!a == b) = true) →  Con Tryz.prog 113 0 [] [(zf111 N nb' g')] [] (.p (.int .i64 (↑r1 : Int)))),(((!a == b) = true) → (NT 0 1)),(AG (!a == b)),(((!a == b) = true) →  Con Tryz.prog 113 0 [] [(zf111 N nb g)] [] (.p (.int .i64 (↑r0 : Int)))),(AG (!a == b)),(AG (!a == b)),(((a == b) = false) →  ((!a == b) = true)),((bif a == b then true else (↑r1 : Int) == (↑r0 : Int)) = (bif a == b then true else (↑r1 : Int) == (↑r0 : Int)))] := by kernel_rfl
theorem rRank (g : Nat → T_Bar) (nb N m : Nat) (F T Q : Nat → Int) :
    pathOb Tryz.prog Tryz.f121 0 [rg 1, rm [(2, oc (pebR N m F T Q) (pebO N m 0))] 3] [.code (bodyOf Tryz.f121)] (start Tryz.f121 [] 0 [.p (.int .i64 N), brL g nb]) [] 1 [] (.p (.int .i64 m)) =
    some [Con Tryz.prog 135 0 [] [.p (.int .i64 (↑N : Int)), .p (.seq true 2 nb (fun i => [.int .i64 ((g i).1), .int .i64 ((g i).2.1)])), .p (.int .i64 2), .p (.int .i64 3)] (zf39 N F m T Q) (.agg [.ar 1 0 0 N, .ar 1 1 0 m, .ar 1 2 0 m]),(AI ((↑m : Int)))] := by kernel_rfl
theorem rRaise (g : Nat → T_Bar) (nb N : Nat) (x : T_Bar) (r1 r0 : Nat) :
    pathOb Tryz.prog Tryz.f105 0 [rg 2, rm [(7, oc [] (.p (.int .i64 r1))), (2, oc [] (.p (.int .i64 r0)))] 2] [.code (bodyOf Tryz.f105)] (start Tryz.f105 [] 0 [.p (.int .i64 N), brL g nb, brA x]) [] 1 [] (.p (.bool (decide ((r1 : Int) > (r0 : Int))))) =
    some [(NL 0 0),(NL ((0 + nb) * 16) 140737488355328),(NL (0 + nb) 9223372036854775807),(NT 0 1),(NL 1 1),(NL (0 + nb) (0 + nb)),(NL ((0 + nb + 1) * 16) 140737488355328),(NL (0 + nb + 1) 9223372036854775807),(AN 2),(NL (0 + nb + 1) (0 + nb + 1)),Con Tryz.prog 121 0 [] [.p (.int .i64 (↑N : Int)), .p (.seq true 2 (0 + nb + 1) (fun i => [(cellP true (if (i < 0 + nb) then [.p (.int .i64 ((g i).1)), .p (.int .i64 ((g i).2.1))] else [.p (.int .i64 x.1), .p (.int .i64 x.2.1)]) 0), (cellP true (if (i < 0 + nb) then [.p (.int .i64 ((g i).1)), .p (.int .i64 ((g i).2.1))] else [.p (.int .i64 x.1), .p (.int .i64 x.2.1)]) 1)]))] [] (.p (.int .i64 (↑r1 : Int))),Con Tryz.prog 121 0 [] [.p (.int .i64 (↑N : Int)), .p (.seq true 2 nb (fun i => [.int .i64 ((g i).1), .int .i64 ((g i).2.1)]))] [] (.p (.int .i64 (↑r0 : Int))),((decide ((↑r1 : Int) > (↑r0 : Int))) = (decide ((↑r1 : Int) > (↑r0 : Int))))] := by kernel_rfl
def bL (g : Nat → T_Bar) : Nat → List (Nat × Nat)
  | 0 => []
  | n + 1 => bL g n ++ [brN (g n)]
theorem bL_mem (g : Nat → T_Bar) (y : Nat × Nat) : ∀ n, y ∈ bL g n ↔ ∃ s, s < n ∧ brN (g s) = y
  | 0 => by
    constructor
    · intro h; cases h
    · rintro ⟨s, h, _⟩; exact absurd h (Nat.not_lt_zero _)
  | n + 1 => by
    simp only [bL, List.mem_append, List.mem_singleton, bL_mem g y n]
    constructor
    · rintro (⟨s, h1, h2⟩ | h)
      · exact ⟨s, by omega, h2⟩
      · exact ⟨n, by omega, h.symm⟩
    · rintro ⟨s, h1, h2⟩
      by_cases e : s = n
      · right; rw [← e]; exact h2.symm
      · exact .inl ⟨s, by omega, h2⟩
theorem acc_greedy (N k l : Nat) (g : Nat → T_Bar) : ∀ n, (accI N k l g n).map (fun i => brN (g i)) = Mat.greedy N k l [] (bL g n)
  | 0 => rfl
  | n + 1 => by
    have ih := acc_greedy N k l g n
    simp only [accI, bL, Mat.greedy_append, Mat.greedy]
    rw [← ih]
    split
    · rw [List.map_append]; rfl
    · rfl
theorem acc_len (N k l : Nat) (g : Nat → T_Bar) (n : Nat) : (accI N k l g n).length = (Mat.greedy N k l [] (bL g n)).length := by
  rw [← acc_greedy, List.length_map]
def OkBars (N nb : Nat) (g : Nat → T_Bar) : Prop := ∀ e, e < nb → 0 ≤ (g e).1 ∧ (g e).1 < (g e).2.1 ∧ (g e).2.1 < N
theorem bL_good {N nb : Nat} {g : Nat → T_Bar} (h : OkBars N nb g) : ∀ x ∈ bL g nb, Mat.GoodBar N x := by
  intro x hx
  obtain ⟨s, h1, h2⟩ := (bL_mem g x nb).1 hx
  have := h s h1
  rw [← h2]
  simp only [Mat.GoodBar, brN]
  omega
theorem acc_same {N n n' : Nat} {g g' : Nat → T_Bar} (h : OkBars N n g) (hm : ∀ y, (∃ s, s < n ∧ g s = y) ↔ ∃ s, s < n' ∧ g' s = y) : (accI N 2 3 g n).length = (accI N 2 3 g' n').length := by
  rw [acc_len, acc_len]
  refine Mat.rank_same _ _ (bL_good h) (fun x => ?_)
  rw [bL_mem, bL_mem]
  constructor
  · rintro ⟨s, h1, h2⟩
    obtain ⟨t, h3, h4⟩ := (hm (g s)).1 ⟨s, h1, rfl⟩
    exact ⟨t, h3, by rw [h4, h2]⟩
  · rintro ⟨s, h1, h2⟩
    obtain ⟨t, h3, h4⟩ := (hm (g' s)).2 ⟨s, h1, rfl⟩
    exact ⟨t, h3, by rw [h4, h2]⟩
theorem con_planeRank {N nb : Nat} {g : Nat → T_Bar} (hb : OkBars N nb g) (hN : N ≤ 1048576) (hnb : nb ≤ 1048576) : Con Tryz.prog 121 0 [] [.p (.int .i64 N), brL g nb] [] (.p (.int .i64 ((accI N 2 3 g nb).length : Nat))) := by
  obtain ⟨m, F, T, Q, hc1, hp, hq⟩ := con_play (N := N) (k := 2) (l := 3) hb (by omega) (by omega) hN hnb
  rw [← hq, qL_length]
  refine con_start Tryz.func121 rfl (by kernel_rfl) rfl (fun c hc => ?_)
  refine path_ok mixed Tryz.func121 hc (rRank g nb N m F T Q) ?_
  simp only [All]
  repeat' (first | exact trivial | with_reducible apply And.intro)
  all_goals (first | omega | rfl | (intros; first | assumption | exact trivial | rfl | contradiction | ((repeat' (first | assumption | apply anda | apply notf)); done)) | (exact hc1) | (intro i hi; simp [All, aEt]))
theorem ok_snoc {N nb : Nat} {g : Nat → T_Bar} {x : T_Bar} (hb : OkBars N nb g) (hx : 0 ≤ x.1 ∧ x.1 < x.2.1 ∧ x.2.1 < N) : OkBars N (nb + 1) (snoc nb g x) := by
  intro e he
  by_cases h : e < nb
  · rw [snoc_lt h]; exact hb e h
  · rw [snoc_ge h]; exact hx
theorem con_raises {N nb : Nat} {g : Nat → T_Bar} {x : T_Bar} (hb : OkBars N nb g) (hx : 0 ≤ x.1 ∧ x.1 < x.2.1 ∧ x.2.1 < N) (hN : N ≤ 1048576) (hnb : nb ≤ 1000000) :
    Con Tryz.prog 105 0 [] [.p (.int .i64 N), brL g nb, brA x] [] (.p (.bool (decide (((accI N 2 3 (snoc nb g x) (nb + 1)).length : Int) > ((accI N 2 3 g nb).length : Int))))) := by
  have h0 := con_planeRank hb hN (by omega)
  have h1 := con_planeRank (ok_snoc hb hx) hN (by omega)
  refine con_start Tryz.func105 rfl (by kernel_rfl) rfl (fun c hc => ?_)
  refine path_ok mixed Tryz.func105 hc (rRaise g nb N x _ _) ?_
  simp only [All]
  repeat' (first | exact trivial | with_reducible apply And.intro)
  all_goals (first | omega | rfl | (intros; first | assumption | exact trivial | rfl | contradiction | ((repeat' (first | assumption | apply anda | apply notf)); done)) | (exact h0) | (refine Con.arg_ext h1 ?_; simp only [brL, wkL, wk, wkP, beq_self_eq_true, Bool.and_self, if_true, ikEq, List.append_nil, List.cons_append, List.nil_append, All]; refine ⟨trivial, by omega, fun i hi => ?_, trivial⟩; simp only [Nat.zero_add]; by_cases h : i < nb <;> simp [h, cellP, tg, tru, snoc]))
noncomputable def impB (N nb : Nat) (g : Nat → T_Bar) (a b : Int) : Bool :=
  bif a == b then true else (((accI N 2 3 (snoc nb g (brX a b)) (nb + 1)).length : Nat) : Int) == (((accI N 2 3 g nb).length : Nat) : Int)
theorem brX_ok {N : Nat} {a b : Int} (ha : 0 ≤ a ∧ a < N) (hb : 0 ≤ b ∧ b < N) (hab : a ≠ b) : 0 ≤ (brX a b).1 ∧ (brX a b).1 < (brX a b).2.1 ∧ (brX a b).2.1 < N := by
  simp only [brX]
  by_cases h : b < a
  · rw [if_pos h, if_neg (by omega)]; omega
  · rw [if_neg h, if_pos (by omega)]; omega
theorem con_IsImplied_s {N nb : Nat} {g : Nat → T_Bar} (hg : isGraphF ((N : Int), (nb, g), ()) = true) (hok : OkBars N nb g) (hN : 1 ≤ N ∧ N ≤ 8) (hnb : nb ≤ 24) {a b : Int} (ha : 0 ≤ a ∧ a < N) (hb : 0 ≤ b ∧ b < N) :
    Con Tryz.prog 91 0 [] [grG g nb N, .p (.int .i64 a), .p (.int .i64 b)] [] (.p (.bool (impB N nb g a b))) := by
  have hsm : smS s_Graph ((N : Int), (nb, g), ()) := ⟨by simp [smS, smL], ⟨by show nb ≤ 1048576; omega, fun i hi => by simp [smS, smL]⟩, True.intro⟩
  have hcg := con_IsGraph_s ((N : Int), (nb, g), ()) hsm
  rw [hg] at hcg
  have hp := con_l2Put g nb N (brX a b) (by omega)
  have hr0 := con_l6Rank hok hN (by omega)
  have hr1 : a ≠ b → Con Tryz.prog 113 0 [] [grG (insR g nb (brX a b)).2 (insR g nb (brX a b)).1 N] [] (.p (.int .i64 ((accI N 2 3 (snoc nb g (brX a b)) (nb + 1)).length : Nat))) := by
    intro hab
    have hx := brX_ok ha hb hab
    have hm : ∀ y, (∃ s, s < (insR g nb (brX a b)).1 ∧ (insR g nb (brX a b)).2 s = y) ↔ ∃ s, s < nb + 1 ∧ snoc nb g (brX a b) s = y := fun y => by rw [insR_mem, snoc_mem]
    have hok' : OkBars N (insR g nb (brX a b)).1 (insR g nb (brX a b)).2 := by
      intro e he
      obtain ⟨s, h1, h2⟩ := (hm _).1 ⟨e, he, rfl⟩
      rw [← h2]
      exact ok_snoc hok hx s h1
    rw [← acc_same hok' hm]
    exact con_l6Rank hok' hN (by rw [insR_n]; omega)
  refine con_start Tryz.func91 rfl (by kernel_rfl) rfl (fun c hc => ?_)
  have hcond : (bif bif bif bif !true then true else decide (a < 0) then true else decide (b < 0) then true else decide (a ≥ (N : Int)) then true else decide (b ≥ (N : Int))) = false := by
    have h1 : ¬ a < 0 := by omega
    have h2 : ¬ b < 0 := by omega
    have h3 : ¬ (N : Int) ≤ a := by omega
    have h4 : ¬ (N : Int) ≤ b := by omega
    simp [h1, h2, h3, h4]
  refine path_ok mixed Tryz.func91 hc (rIs g (insR g nb (brX a b)).2 nb (insR g nb (brX a b)).1 N a b (accI N 2 3 (snoc nb g (brX a b)) (nb + 1)).length (accI N 2 3 g nb).length) ?_
  simp only [All]
  repeat' (first | exact trivial | with_reducible apply And.intro)
  all_goals (first | exact aG _ | omega | rfl | (intros; first | assumption | exact trivial | rfl | contradiction | ((repeat' (first | assumption | apply anda | apply notf)); done)) | (exact hcg) | (exact hcond) | (exact hp) | (intro h; exact hr1 (by simpa using h)) | (intros; exact hr0) | (simp; done))
end Go.Proofs.YtgdbnnmogddkaaaGreat.Mach
namespace Go.Proofs.YtgdbnnmogddkaaaGreat.Mach
open Go Go.Sort
set_option linter.unusedVariables false
set_option linter.unusedSimpArgs false
def SAB (N : Int) (n : Nat) (h : Nat → T_Bar) : St :=
  ⟨[.p .any, .p .any, .p .any, .p .any, .p .any, .p .any, .pt 2 0 0 0, .p .any, .pt 2 1 0 0] ++ List.replicate 41 anyA, [(0, zG2), (1, ⟨true, 2, 1, fun _ => [.p (.int .i64 N), .ar 2 2 0 n]⟩), (2, brOb n h)], 3⟩
theorem bCi (v : T_Graph) :
    pathOb Tryz.prog Tryz.f74 0 [rg 2, rg 8] [.code (bodyOf Tryz.f74)] (start Tryz.f74 [] 0 [graphA v]) [224] 1 [(0, brOb v.2.1.1 v.2.1.2)] (.agg [.p (.int .i64 v.1), .ar 2 0 0 v.2.1.1]) =
    some [(NT 0 1),(NT 0 1),(NL 0 0),(NL ((0 + v.2.1.1) * 16) 140737488355328),(NL (0 + v.2.1.1) 9223372036854775807),(NT 0 1),((true = true) →  (AN 1)),(NT 0 1),(AI v.1),(AN 0),(((0 + v.2.1.1) : Nat) = v.2.1.1),(AN 2),(NL v.2.1.1 (0 + v.2.1.1)),(AA v.2.1.1 (fun i => [.p (.int .i64 ((v.2.1.2 i).1)), .p (.int .i64 ((v.2.1.2 i).2.1))])),(AE v.2.1.1)] := by kernel_rfl
theorem bCs (v : T_Graph) :
    pathOb Tryz.prog Tryz.f50 0 [rg 2, rg 8] [.code (bodyOf Tryz.f50)] (start Tryz.f50 [] 0 [graphA v]) [224] 1 [(0, brOb v.2.1.1 v.2.1.2)] (.agg [.p (.int .i64 v.1), .ar 2 0 0 v.2.1.1]) =
    some [(NT 0 1),(NT 0 1),(NL 0 0),(NL ((0 + v.2.1.1) * 16) 140737488355328),(NL (0 + v.2.1.1) 9223372036854775807),(NT 0 1),((true = true) →  (AN 1)),(NT 0 1),(AI v.1),(AN 0),(((0 + v.2.1.1) : Nat) = v.2.1.1),(AN 2),(NL v.2.1.1 (0 + v.2.1.1)),(AA v.2.1.1 (fun i => [.p (.int .i64 ((v.2.1.2 i).1)), .p (.int .i64 ((v.2.1.2 i).2.1))])),(AE v.2.1.1)] := by kernel_rfl
theorem bIf (v : T_Graph) (a b : Int) (b1 b2 b3 : Bool) :
    pathOb Tryz.prog Tryz.f64 0 [rg 3, rm [(1, oc [(0, brOb v.2.1.1 v.2.1.2)] (.agg [.p (.int .i64 v.1), .ar 2 0 0 v.2.1.1]))] 2, rm [(1, oc [] (.p (.bool b1))), (4, oc [] (.p (.bool b2))), (5, oc [] (.p (.bool b3)))] 13, .dec true, rg 3] [.code (bodyOf Tryz.f64)] (start Tryz.f64 [] 0 [graphA v, .p (.int .i64 a), .p (.int .i64 b)]) [128] 1 [(0, brOb v.2.1.1 v.2.1.2)] (.tup [.agg [.p (.int .i64 v.1), .ar 2 0 0 v.2.1.1], .p (.bool false)]) =
    some [(NT 0 1),Con Tryz.prog 74 0 [] [(zf106 v)] (zf112 v) (.agg [.p (.int .i64 v.1), .ar 2 0 0 v.2.1.1]),(NT 0 1),((true = true) →  (AN 1)),(NT 0 1),Con Tryz.prog 96 0 [] [(zf106 v)] [] (.p (.bool b1)),(((!!b1) = true) → (NT 0 1)),(AG (!!b1)),(AG (!!b1)),(((!!b1) = true) →  Con Tryz.prog 98 0 [] [(zf106 v), .p (.int .i64 a)] [] (.p (.bool b2))),(AG (!!b1)),(((!b1) = false) →  ((!!b1) = true)),(((!bif !b1 then true else !b2) = true) → (NT 0 1)),(AG (!bif !b1 then true else !b2)),(AG (!bif !b1 then true else !b2)),(((!bif !b1 then true else !b2) = true) →  Con Tryz.prog 98 0 [] [(zf106 v), .p (.int .i64 b)] [] (.p (.bool b3))),(AG (!bif !b1 then true else !b2)),(((bif !b1 then true else !b2) = false) →  ((!bif !b1 then true else !b2) = true)),(AG (!bif bif !b1 then true else !b2 then true else !b3)),(AG (!bif bif !b1 then true else !b2 then true else !b3)),(((bif bif !b1 then true else !b2 then true else !b3) = false) →  ((!bif bif !b1 then true else !b2 then true else !b3) = true)),(AG (!bif bif bif !b1 then true else !b2 then true else !b3 then true else a == b)),(((!bif bif bif !b1 then true else !b2 then true else !b3 then true else a == b) = true) → (NT 0 1)),(AG (!bif bif bif !b1 then true else !b2 then true else !b3 then true else a == b)),(AG (!bif bif bif !b1 then true else !b2 then true else !b3 then true else a == b)),(((bif bif bif !b1 then true else !b2 then true else !b3 then true else a == b) = false) →  ((!bif bif bif !b1 then true else !b2 then true else !b3 then true else a == b) = true)),((bif bif bif bif !b1 then true else !b2 then true else !b3 then true else a == b then true else (↑v.2.1.1 : Int) == 24) = true),(NT 0 1),(NT 0 1),((true = true) →  (AN 1)),(NT 0 1),(AI v.1),(AN 0),(AN v.2.1.1),(false = false),(AN 2),(NL v.2.1.1 v.2.1.1),(AA v.2.1.1 (fun i => [.p (.int .i64 ((v.2.1.2 i).1)), .p (.int .i64 ((v.2.1.2 i).2.1))])),(AE v.2.1.1)] := by kernel_rfl
theorem bIa (v : T_Graph) (a b : Int) (b1 b2 b3 : Bool) (x : T_Bar) :
    pieceOb Tryz.prog 0 [rg 3, rm [(1, oc [(0, brOb v.2.1.1 v.2.1.2)] (.agg [.p (.int .i64 v.1), .ar 2 0 0 v.2.1.1]))] 2, rm [(1, oc [] (.p (.bool b1))), (4, oc [] (.p (.bool b2))), (5, oc [] (.p (.bool b3)))] 13, .dec false, rm [(4, oc [] (.agg [.p (.int .i64 x.1), .p (.int .i64 x.2.1)]))] 4, .head] [.code (bodyOf Tryz.f64)] (start Tryz.f64 [] 0 [graphA v, .p (.int .i64 a), .p (.int .i64 b)]) [32, 160, 1248] 1 (SAB v.1 (v.2.1.1 + 1) (snoc v.2.1.1 v.2.1.2 x)) =
    some ([.code (cAt (bodyOf Tryz.f64) [1, 1, 1, 1, 0]), .code (cAt (bodyOf Tryz.f64) [1, 1, 1, 1, 1])], [(NT 0 1),Con Tryz.prog 74 0 [] [(zf106 v)] (zf112 v) (.agg [.p (.int .i64 v.1), .ar 2 0 0 v.2.1.1]),(NT 0 1),((true = true) →  (AN 1)),(NT 0 1),Con Tryz.prog 96 0 [] [(zf106 v)] [] (.p (.bool b1)),(((!!b1) = true) → (NT 0 1)),(AG (!!b1)),(AG (!!b1)),(((!!b1) = true) →  Con Tryz.prog 98 0 [] [(zf106 v), .p (.int .i64 a)] [] (.p (.bool b2))),(AG (!!b1)),(((!b1) = false) →  ((!!b1) = true)),(((!bif !b1 then true else !b2) = true) → (NT 0 1)),(AG (!bif !b1 then true else !b2)),(AG (!bif !b1 then true else !b2)),(((!bif !b1 then true else !b2) = true) →  Con Tryz.prog 98 0 [] [(zf106 v), .p (.int .i64 b)] [] (.p (.bool b3))),(AG (!bif !b1 then true else !b2)),(((bif !b1 then true else !b2) = false) →  ((!bif !b1 then true else !b2) = true)),(AG (!bif bif !b1 then true else !b2 then true else !b3)),(AG (!bif bif !b1 then true else !b2 then true else !b3)),(((bif bif !b1 then true else !b2 then true else !b3) = false) →  ((!bif bif !b1 then true else !b2 then true else !b3) = true)),(AG (!bif bif bif !b1 then true else !b2 then true else !b3 then true else a == b)),(((!bif bif bif !b1 then true else !b2 then true else !b3 then true else a == b) = true) → (NT 0 1)),(AG (!bif bif bif !b1 then true else !b2 then true else !b3 then true else a == b)),(AG (!bif bif bif !b1 then true else !b2 then true else !b3 then true else a == b)),(((bif bif bif !b1 then true else !b2 then true else !b3 then true else a == b) = false) →  ((!bif bif bif !b1 then true else !b2 then true else !b3 then true else a == b) = true)),((bif bif bif bif !b1 then true else !b2 then true else !b3 then true else a == b then true else (↑v.2.1.1 : Int) == 24) = false),(NT 0 1),Con Tryz.prog 36 0 [] [.p (.int .i64 a), .p (.int .i64 b)] [] (.agg [.p (.int .i64 x.1), .p (.int .i64 x.2.1)]),(NL 1 1),(NL v.2.1.1 v.2.1.1),(NL ((v.2.1.1 + 1) * 16) 140737488355328),(NL (v.2.1.1 + 1) 9223372036854775807),(NT 0 1),((true = true) →  (AN 1)),(AN 0),(AN 0),((((List.map (fun v => AV.p (absV v)) [Value.int IntKind.i64 0, Value.slice none 0 0]).length) : Nat) = 2),(NL 1 1),(NL 1 1),(AI 0),((((List.map (fun v => AV.p (absV v)) [Value.int IntKind.i64 0, Value.slice none 0 0]).length) : Nat) = 2),(NL 1 1),(NL 1 1),(AI v.1),(AN 0),(AN ((v.2.1.1 + 1))),(AN 2),(NL (v.2.1.1 + 1) (v.2.1.1 + 1)),(CV [(160, ⟨true, 2, 1, (fun i_1 => [.p (.int .i64 v.1), .ar 2 1248 0 (v.2.1.1 + 1)])⟩), (1248, ⟨false, 2, (v.2.1.1 + 1), (fun i_1 => (if (i_1 < v.2.1.1) then [.p (.int .i64 ((v.2.1.2 i_1).1)), .p (.int .i64 ((v.2.1.2 i_1).2.1))] else [.p (.int .i64 x.1), .p (.int .i64 x.2.1)]))⟩), (1216, ⟨false, 2, 1, (fun i_1 => [.p (.int .i64 x.1), .p (.int .i64 x.2.1)])⟩), (32, ⟨true, 2, 1, (fun i_1 => [.p (.int .i64 0), .p (.nil)])⟩), (0, ⟨true, 2, 1, (fun i_1 => [.p (.int .i64 v.1), .p (.seq true 2 v.2.1.1 (fun i_2 => [.int .i64 ((v.2.1.2 i_2).1), .int .i64 ((v.2.1.2 i_2).2.1)]))])⟩)] [32, 160, 1248] 1 (v.2.1.1 + 1) (fun i => if (i < v.2.1.1) then [.p (.int .i64 ((v.2.1.2 i).1)), .p (.int .i64 ((v.2.1.2 i).2.1))] else [.p (.int .i64 x.1), .p (.int .i64 x.2.1)]) (fun i => [.p (.int .i64 (if i < v.2.1.1 then (v.2.1.2 i).1 else x.1)), .p (.int .i64 (if i < v.2.1.1 then (v.2.1.2 i).2.1 else x.2.1))]))]) := by kernel_rfl
theorem bIb (N : Int) (n : Nat) (h r : Nat → T_Bar) :
    pathOb Tryz.prog Tryz.f64 0 [rm [(2, oq [2] [(0, brOb n r)] (.tup []))] 0, rg 3] [.code (cAt (bodyOf Tryz.f64) [1, 1, 1, 1, 0]), .code (cAt (bodyOf Tryz.f64) [1, 1, 1, 1, 1])] (SAB N n h) [2] 1 [(0, brOb n r)] ((zf132 N n)) =
    some [(NT 0 1),(AE n),Con Tryz.prog 100 1 (zf121 n h) [.ar 2 0 0 n, .p (.fn 101)] (zf121 n r) (.tup []),(NT 0 1),(NT 0 1),((true = true) →  (AN 1)),(NT 0 1),(AI N),(AN 0),(AN n),(true = true),(AN 2),(NL n n),(AA n (fun i => [.p (.int .i64 ((r i).1)), .p (.int .i64 ((r i).2.1))])),(AE n)] := by kernel_rfl
theorem bSf (v : T_Graph) (a b : Int) (b1 : Bool) :
    pathOb Tryz.prog Tryz.f52 0 [rg 3, rm [(1, oc [] (.p (.bool b1)))] 32, .dec true, rm [(1, oc [(0, brOb v.2.1.1 v.2.1.2)] (.agg [.p (.int .i64 v.1), .ar 2 0 0 v.2.1.1]))] 2] [.code (bodyOf Tryz.f52)] (start Tryz.f52 [] 0 [graphA v, .p (.int .i64 a), .p (.int .i64 b)]) [1216] 1 [(0, brOb v.2.1.1 v.2.1.2)] (.tup [.agg [.p (.int .i64 v.1), .ar 2 0 0 v.2.1.1], .p (.bool false)]) =
    some [(NT 0 1),Con Tryz.prog 86 0 [] [(zf106 v)] [] (.p (.bool b1)),(AG (!!b1)),(((!b1) = false) →  ((!!b1) = true)),(AG (!bif !b1 then true else decide (a < 0))),(((bif !b1 then true else decide (a < 0)) = false) →  ((!bif !b1 then true else decide (a < 0)) = true)),(AG (!bif bif !b1 then true else decide (a < 0) then true else decide (b < 0))),(((!bif bif !b1 then true else decide (a < 0) then true else decide (b < 0)) = true) → (NT 0 1)),(AG (!bif bif !b1 then true else decide (a < 0) then true else decide (b < 0))),(AG (!bif bif !b1 then true else decide (a < 0) then true else decide (b < 0))),(((bif bif !b1 then true else decide (a < 0) then true else decide (b < 0)) = false) →  ((!bif bif !b1 then true else decide (a < 0) then true else decide (b < 0)) = true)),(AG (!bif bif bif !b1 then true else decide (a < 0) then true else decide (b < 0) then true else decide (a ≥ v.1))),(((!bif bif bif !b1 then true else decide (a < 0) then true else decide (b < 0) then true else decide (a ≥ v.1)) = true) → (NT 0 1)),(AG (!bif bif bif !b1 then true else decide (a < 0) then true else decide (b < 0) then true else decide (a ≥ v.1))),(AG (!bif bif bif !b1 then true else decide (a < 0) then true else decide (b < 0) then true else decide (a ≥ v.1))),(((bif bif bif !b1 then true else decide (a < 0) then true else decide (b < 0) then true else decide (a ≥ v.1)) = false) →  ((!bif bif bif !b1 then true else decide (a < 0) then true else decide (b < 0) then true else decide (a ≥ v.1)) = true)),(AG (!bif bif bif bif !b1 then true else decide (a < 0) then true else decide (b < 0) then true else decide (a ≥ v.1) then true else decide (b ≥ v.1))),(AG (!bif bif bif bif !b1 then true else decide (a < 0) then true else decide (b < 0) then true else decide (a ≥ v.1) then true else decide (b ≥ v.1))),(((bif bif bif bif !b1 then true else decide (a < 0) then true else decide (b < 0) then true else decide (a ≥ v.1) then true else decide (b ≥ v.1)) = false) →  ((!bif bif bif bif !b1 then true else decide (a < 0) then true else decide (b < 0) then true else decide (a ≥ v.1) then true else decide (b ≥ v.1)) = true)),(AG (!bif bif bif bif bif !b1 then true else decide (a < 0) then true else decide (b < 0) then true else decide (a ≥ v.1) then true else decide (b ≥ v.1) then true else a == b)),(((!bif bif bif bif bif !b1 then true else decide (a < 0) then true else decide (b < 0) then true else decide (a ≥ v.1) then true else decide (b ≥ v.1) then true else a == b) = true) → (NT 0 1)),(AG (!bif bif bif bif bif !b1 then true else decide (a < 0) then true else decide (b < 0) then true else decide (a ≥ v.1) then true else decide (b ≥ v.1) then true else a == b)),(AG (!bif bif bif bif bif !b1 then true else decide (a < 0) then true else decide (b < 0) then true else decide (a ≥ v.1) then true else decide (b ≥ v.1) then true else a == b)),(((bif bif bif bif bif !b1 then true else decide (a < 0) then true else decide (b < 0) then true else decide (a ≥ v.1) then true else decide (b ≥ v.1) then true else a == b) = false) →  ((!bif bif bif bif bif !b1 then true else decide (a < 0) then true else decide (b < 0) then true else decide (a ≥ v.1) then true else decide (b ≥ v.1) then true else a == b) = true)),((bif bif bif bif bif bif !b1 then true else decide (a < 0) then true else decide (b < 0) then true else decide (a ≥ v.1) then true else decide (b ≥ v.1) then true else a == b then true else decide ((↑v.2.1.1 : Int) ≥ 24)) = true),(NT 0 1),Con Tryz.prog 50 0 [] [(zf106 v)] (zf112 v) (.agg [.p (.int .i64 v.1), .ar 2 0 0 v.2.1.1]),(NT 0 1),((true = true) →  (AN 1)),(NT 0 1),(AI v.1),(AN 0),(AN v.2.1.1),(false = false),(AN 2),(NL v.2.1.1 v.2.1.1),(AA v.2.1.1 (fun i => [.p (.int .i64 ((v.2.1.2 i).1)), .p (.int .i64 ((v.2.1.2 i).2.1))])),(AE v.2.1.1)] := by kernel_rfl
theorem bSt (v : T_Graph) (a b : Int) (b1 : Bool) (m : Nat) (r r' : Nat → T_Bar) :
    pathOb Tryz.prog Tryz.f52 0 [rg 3, rm [(1, oc [] (.p (.bool b1)))] 32, .dec false, rm [(8, oc [(0, brOb m r)] (.agg [.p (.int .i64 v.1), .ar 2 0 0 m]))] 2] [.code (bodyOf Tryz.f52)] (start Tryz.f52 [] 0 [graphA v, .p (.int .i64 a), .p (.int .i64 b)]) [1440] 1 [(0, brOb m r')] (.tup [.agg [.p (.int .i64 v.1), .ar 2 0 0 m], .p (.bool true)]) =
    some [(NT 0 1),Con Tryz.prog 86 0 [] [(zf106 v)] [] (.p (.bool b1)),(AG (!!b1)),(((!b1) = false) →  ((!!b1) = true)),(AG (!bif !b1 then true else decide (a < 0))),(((bif !b1 then true else decide (a < 0)) = false) →  ((!bif !b1 then true else decide (a < 0)) = true)),(AG (!bif bif !b1 then true else decide (a < 0) then true else decide (b < 0))),(((!bif bif !b1 then true else decide (a < 0) then true else decide (b < 0)) = true) → (NT 0 1)),(AG (!bif bif !b1 then true else decide (a < 0) then true else decide (b < 0))),(AG (!bif bif !b1 then true else decide (a < 0) then true else decide (b < 0))),(((bif bif !b1 then true else decide (a < 0) then true else decide (b < 0)) = false) →  ((!bif bif !b1 then true else decide (a < 0) then true else decide (b < 0)) = true)),(AG (!bif bif bif !b1 then true else decide (a < 0) then true else decide (b < 0) then true else decide (a ≥ v.1))),(((!bif bif bif !b1 then true else decide (a < 0) then true else decide (b < 0) then true else decide (a ≥ v.1)) = true) → (NT 0 1)),(AG (!bif bif bif !b1 then true else decide (a < 0) then true else decide (b < 0) then true else decide (a ≥ v.1))),(AG (!bif bif bif !b1 then true else decide (a < 0) then true else decide (b < 0) then true else decide (a ≥ v.1))),(((bif bif bif !b1 then true else decide (a < 0) then true else decide (b < 0) then true else decide (a ≥ v.1)) = false) →  ((!bif bif bif !b1 then true else decide (a < 0) then true else decide (b < 0) then true else decide (a ≥ v.1)) = true)),(AG (!bif bif bif bif !b1 then true else decide (a < 0) then true else decide (b < 0) then true else decide (a ≥ v.1) then true else decide (b ≥ v.1))),(AG (!bif bif bif bif !b1 then true else decide (a < 0) then true else decide (b < 0) then true else decide (a ≥ v.1) then true else decide (b ≥ v.1))),(((bif bif bif bif !b1 then true else decide (a < 0) then true else decide (b < 0) then true else decide (a ≥ v.1) then true else decide (b ≥ v.1)) = false) →  ((!bif bif bif bif !b1 then true else decide (a < 0) then true else decide (b < 0) then true else decide (a ≥ v.1) then true else decide (b ≥ v.1)) = true)),(AG (!bif bif bif bif bif !b1 then true else decide (a < 0) then true else decide (b < 0) then true else decide (a ≥ v.1) then true else decide (b ≥ v.1) then true else a == b)),(((!bif bif bif bif bif !b1 then true else decide (a < 0) then true else decide (b < 0) then true else decide (a ≥ v.1) then true else decide (b ≥ v.1) then true else a == b) = true) → (NT 0 1)),(AG (!bif bif bif bif bif !b1 then true else decide (a < 0) then true else decide (b < 0) then true else decide (a ≥ v.1) then true else decide (b ≥ v.1) then true else a == b)),(AG (!bif bif bif bif bif !b1 then true else decide (a < 0) then true else decide (b < 0) then true else decide (a ≥ v.1) then true else decide (b ≥ v.1) then true else a == b)),(((bif bif bif bif bif !b1 then true else decide (a < 0) then true else decide (b < 0) then true else decide (a ≥ v.1) then true else decide (b ≥ v.1) then true else a == b) = false) →  ((!bif bif bif bif bif !b1 then true else decide (a < 0) then true else decide (b < 0) then true else decide (a ≥ v.1) then true else decide (b ≥ v.1) then true else a == b) = true)),((bif bif bif bif bif bif !b1 then true else decide (a < 0) then true else decide (b < 0) then true else decide (a ≥ v.1) then true else decide (b ≥ v.1) then true else a == b then true else decide ((↑v.2.1.1 : Int) ≥ 24)) = false),(NT 0 1),Con Tryz.prog 87 0 [] [(zf106 v), (zf24 b a)] (zf121 m r) (.agg [.p (.int .i64 v.1), .ar 2 0 0 m]),(NT 0 1),((true = true) →  (AN 1)),(NT 0 1),(AI v.1),(AN 0),(AN m),(true = true),(AN 2),(NL m m),(∀ i : Nat, (((i : Nat) < m) → (All [] ∧ (([.p (.int .i64 ((r i).1)), .p (.int .i64 ((r i).2.1))] : List AV) = [.p (.int .i64 ((r' i).1)), .p (.int .i64 ((r' i).2.1))])))),(AE m)] := by kernel_rfl
theorem con_copyGraph (v : T_Graph) (hn : v.2.1.1 ≤ 1048576) : Con Tryz.prog 74 0 [] [graphA v] [(0, brOb v.2.1.1 v.2.1.2)] (.agg [.p (.int .i64 v.1), .ar 2 0 0 v.2.1.1]) := by
  refine con_start Tryz.func74 rfl (by kernel_rfl) rfl (fun c hc => ?_)
  refine path_ok mixed Tryz.func74 hc (bCi v) ?_
  simp only [All]
  repeat' (first | exact trivial | with_reducible apply And.intro)
  all_goals (first | exact aA _ _ | exact aE _ | omega | rfl | (intros; first | assumption | exact trivial | rfl | contradiction | ((repeat' (first | assumption | apply anda | apply notf)); done)) | (intro j hj; simp [All, aEt]; done) | (simp; try omega))
theorem con_l2Copy (v : T_Graph) (hn : v.2.1.1 ≤ 1048576) : Con Tryz.prog 50 0 [] [graphA v] [(0, brOb v.2.1.1 v.2.1.2)] (.agg [.p (.int .i64 v.1), .ar 2 0 0 v.2.1.1]) := by
  refine con_start Tryz.func50 rfl (by kernel_rfl) rfl (fun c hc => ?_)
  refine path_ok mixed Tryz.func50 hc (bCs v) ?_
  simp only [All]
  repeat' (first | exact trivial | with_reducible apply And.intro)
  all_goals (first | exact aA _ _ | exact aE _ | omega | rfl | (intros; first | assumption | exact trivial | rfl | contradiction | ((repeat' (first | assumption | apply anda | apply notf)); done)) | (intro j hj; simp [All, aEt]; done) | (simp; try omega))
def abB (v : T_Graph) (a b : Int) : Bool := isGraphF v && (inB a 0 (v.1 - 1) && (inB b 0 (v.1 - 1) && (!(a == b) && !((v.2.1.1 : Int) == 24))))
def abG (v : T_Graph) (a b : Int) : T_Graph := if abB v a b = true then (v.1, (v.2.1.1 + 1, srtB (v.2.1.1 + 1) (snoc v.2.1.1 v.2.1.2 (brX a b))), ()) else v
theorem abB_in {v : T_Graph} {a b : Int} (h : abB v a b = true) : isGraphF v = true ∧ (0 ≤ a ∧ a < v.1) ∧ (0 ≤ b ∧ b < v.1) ∧ a ≠ b ∧ v.2.1.1 < 24 := by
  simp only [abB, inB, Bool.and_eq_true, decide_eq_true_eq, Bool.not_eq_true', beq_eq_false_iff_ne, ne_eq] at h
  obtain ⟨hg, ⟨h1, h2⟩, ⟨h3, h4⟩, h5, h6⟩ := h
  have := graph_inR hg
  exact ⟨hg, ⟨h1, by omega⟩, ⟨h3, by omega⟩, h5, by omega⟩
theorem abG_n (v : T_Graph) (a b : Int) : (abG v a b).2.1.1 ≤ v.2.1.1 ∨ (abG v a b).2.1.1 ≤ 24 := by
  unfold abG
  split
  · rename_i h
    have := abB_in h
    right; show v.2.1.1 + 1 ≤ 24; omega
  · left; exact Nat.le_refl _
theorem con_AddBar_i (v : T_Graph) (hs : smS s_Graph v) (a b : Int) :
    Con Tryz.prog 64 0 [] [graphA v, .p (.int .i64 a), .p (.int .i64 b)] [(0, brOb (abG v a b).2.1.1 (abG v a b).2.1.2)] (.tup [.agg [.p (.int .i64 (abG v a b).1), .ar 2 0 0 (abG v a b).2.1.1], .p (.bool (abB v a b))]) := by
  have hn : v.2.1.1 ≤ 1048576 := hs.2.1.1
  have cc := con_copyGraph v hn
  have c1 := con_IsGraph_i v hs
  have c2 : isGraphF v = true → ∀ p, Con Tryz.prog 98 0 [] [graphA v, .p (.int .i64 p)] [] (.p (.bool (inB p 0 (v.1 - 1)))) := fun h p => by
    have := graph_inR h
    exact con_hasX v p this.1 this.2.1
  have hcd : (bif bif bif bif !isGraphF v then true else !inB a 0 (v.1 - 1) then true else !inB b 0 (v.1 - 1) then true else a == b then true else (v.2.1.1 : Int) == 24) = !abB v a b := by
    unfold abB
    cases isGraphF v <;> cases inB a 0 (v.1 - 1) <;> cases inB b 0 (v.1 - 1) <;> cases (a == b) <;> cases ((v.2.1.1 : Int) == 24) <;> rfl
  have c2a : (!!isGraphF v) = true → Con Tryz.prog 98 0 [] [graphA v, .p (.int .i64 a)] [] (.p (.bool (inB a 0 (v.1 - 1)))) := fun h => c2 (by simpa using h) a
  have c2b : (!bif !isGraphF v then true else !inB a 0 (v.1 - 1)) = true → Con Tryz.prog 98 0 [] [graphA v, .p (.int .i64 b)] [] (.p (.bool (inB b 0 (v.1 - 1)))) := fun h => c2 (by
    cases hb : isGraphF v with
    | true => rfl
    | false => rw [hb] at h; simp at h) b
  refine con_start Tryz.func64 rfl (by kernel_rfl) rfl (fun c hc => ?_)
  cases hb : abB v a b with
  | false =>
    rw [hb] at hcd
    have hcd' : (bif bif bif bif !isGraphF v then true else !inB a 0 (v.1 - 1) then true else !inB b 0 (v.1 - 1) then true else a == b then true else (v.2.1.1 : Int) == 24) = true := hcd
    rw [show abG v a b = v by simp [abG, hb]]
    refine path_ok mixed Tryz.func64 hc (bIf v a b (isGraphF v) (inB a 0 (v.1 - 1)) (inB b 0 (v.1 - 1))) ?_
    simp only [All]
    repeat' (first | exact trivial | with_reducible apply And.intro)
    all_goals (first | exact aG _ | exact aA _ _ | exact aE _ | omega | rfl | (intros; first | assumption | exact trivial | rfl | contradiction | ((repeat' (first | assumption | apply anda | apply notf)); done)) | (exact cc) | (exact c1) | (exact c2a) | (exact c2b) | (exact hcd') | (intro j hj; simp [All, aEt]))
  | true =>
    rw [hb] at hcd
    have hcd' : (bif bif bif bif !isGraphF v then true else !inB a 0 (v.1 - 1) then true else !inB b 0 (v.1 - 1) then true else a == b then true else (v.2.1.1 : Int) == 24) = false := hcd
    have hin := abB_in hb
    rw [show abG v a b = (v.1, (v.2.1.1 + 1, srtB (v.2.1.1 + 1) (snoc v.2.1.1 v.2.1.2 (brX a b))), ()) by simp [abG, hb]]
    have cb := con_barX a b
    have h2 := con_sortBars (v.2.1.1 + 1) (snoc v.2.1.1 v.2.1.2 (brX a b)) (by omega)
    generalize brX a b = x at cb h2 ⊢
    generalize srtB (v.2.1.1 + 1) (snoc v.2.1.1 v.2.1.2 x) = r at h2 ⊢
    refine piece_ok mixed hc (bIa v a b (isGraphF v) (inB a 0 (v.1 - 1)) (inB b 0 (v.1 - 1)) x) ?_ (path_ok mixed Tryz.func64 hc (bIb v.1 (v.2.1.1 + 1) (snoc v.2.1.1 v.2.1.2 x) r) ?_)
    ·
      simp only [All]
      repeat' (first | exact trivial | with_reducible apply And.intro)
      all_goals (first | exact aG _ | omega | rfl | (intros; first | assumption | exact trivial | rfl | contradiction | ((repeat' (first | assumption | apply anda | apply notf)); done)) | (exact cc) | (exact c1) | (exact c2a) | (exact c2b) | (exact hcd') | (exact cb) | (intro j hj; by_cases h' : j < v.2.1.1 <;> simp [h', snoc, cvtL, cvt, tg, tru, All]; done) | (intro j hj; simp [All, aEt]; done) | (simp; try omega))
    ·
      simp only [All]
      repeat' (first | exact trivial | with_reducible apply And.intro)
      all_goals (first | exact aG _ | exact aP _ _ | exact aA _ _ | exact aE _ | omega | rfl | (intros; first | assumption | exact trivial | rfl | contradiction | ((repeat' (first | assumption | apply anda | apply notf)); done)) | (exact h2) | (intro j hj; simp [All, aEt]; done) | (simp; try omega))
theorem con_AddBar_s (v : T_Graph) (hs : smS s_Graph v) (a b : Int) :
    Con Tryz.prog 52 0 [] [graphA v, .p (.int .i64 a), .p (.int .i64 b)] [(0, brOb (abG v a b).2.1.1 (abG v a b).2.1.2)] (.tup [.agg [.p (.int .i64 (abG v a b).1), .ar 2 0 0 (abG v a b).2.1.1], .p (.bool (abB v a b))]) := by
  have hn : v.2.1.1 ≤ 1048576 := hs.2.1.1
  have cc := con_l2Copy v hn
  have c1 := con_IsGraph_s v hs
  have hcd : (bif bif bif bif bif bif !isGraphF v then true else decide (a < 0) then true else decide (b < 0) then true else decide (a ≥ v.1) then true else decide (b ≥ v.1) then true else a == b then true else decide ((v.2.1.1 : Int) ≥ 24)) = !abB v a b := by
    unfold abB inB
    cases hg : isGraphF v with
    | false => rfl
    | true =>
      have := graph_inR hg
      have e1 : decide (a ≥ v.1) = !decide (a ≤ v.1 - 1) := by
        by_cases h : a ≥ v.1
        · have : ¬ a ≤ v.1 - 1 := by omega
          simp [h, this]
        · have : a ≤ v.1 - 1 := by omega
          simp [h, this]
      have e2 : decide (b ≥ v.1) = !decide (b ≤ v.1 - 1) := by
        by_cases h : b ≥ v.1
        · have : ¬ b ≤ v.1 - 1 := by omega
          simp [h, this]
        · have : b ≤ v.1 - 1 := by omega
          simp [h, this]
      have e3 : decide (a < 0) = !decide (0 ≤ a) := by
        by_cases h : a < 0
        · have : ¬ 0 ≤ a := by omega
          simp [h, this]
        · have : 0 ≤ a := by omega
          simp [h, this]
      have e4 : decide (b < 0) = !decide (0 ≤ b) := by
        by_cases h : b < 0
        · have : ¬ 0 ≤ b := by omega
          simp [h, this]
        · have : 0 ≤ b := by omega
          simp [h, this]
      have e5 : decide ((v.2.1.1 : Int) ≥ 24) = ((v.2.1.1 : Int) == 24) := by
        by_cases h : v.2.1.1 = 24
        · rw [h]; rfl
        · have h1 : ¬ (v.2.1.1 : Int) ≥ 24 := by omega
          have h2 : ¬ (v.2.1.1 : Int) = 24 := by omega
          simp only [h1, decide_false]
          exact (beq_eq_false_iff_ne.2 h2).symm
      rw [e1, e2, e3, e4, e5]
      cases decide (0 ≤ a) <;> cases decide (0 ≤ b) <;> cases decide (a ≤ v.1 - 1) <;> cases decide (b ≤ v.1 - 1) <;> cases (a == b) <;> cases ((v.2.1.1 : Int) == 24) <;> rfl
  refine con_start Tryz.func52 rfl (by kernel_rfl) rfl (fun c hc => ?_)
  cases hb : abB v a b with
  | false =>
    rw [hb] at hcd
    have hcd' : (bif bif bif bif bif bif !isGraphF v then true else decide (a < 0) then true else decide (b < 0) then true else decide (a ≥ v.1) then true else decide (b ≥ v.1) then true else a == b then true else decide ((v.2.1.1 : Int) ≥ 24)) = true := hcd
    rw [show abG v a b = v by simp [abG, hb]]
    refine path_ok mixed Tryz.func52 hc (bSf v a b (isGraphF v)) ?_
    simp only [All]
    repeat' (first | exact trivial | with_reducible apply And.intro)
    all_goals (first | exact aG _ | exact aA _ _ | exact aE _ | omega | rfl | (intros; first | assumption | exact trivial | rfl | contradiction | ((repeat' (first | assumption | apply anda | apply notf)); done)) | (exact cc) | (exact c1) | (exact hcd') | (intro j hj; simp [All, aEt]))
  | true =>
    rw [hb] at hcd
    have hcd' : (bif bif bif bif bif bif !isGraphF v then true else decide (a < 0) then true else decide (b < 0) then true else decide (a ≥ v.1) then true else decide (b ≥ v.1) then true else a == b then true else decide ((v.2.1.1 : Int) ≥ 24)) = false := hcd
    have hin := abB_in hb
    have hgr := graph_inR hin.1
    rw [show abG v a b = (v.1, (v.2.1.1 + 1, srtB (v.2.1.1 + 1) (snoc v.2.1.1 v.2.1.2 (brX a b))), ()) by simp [abG, hb]]
    have cp := con_l2Put v.2.1.2 v.2.1.1 v.1.toNat (brX a b) hn
    have hN : ((v.1.toNat : Nat) : Int) = v.1 := by omega
    rw [grG, hN] at cp
    have hl := insR_list v.2.1.2 v.2.1.1 (brX a b) (goodB_sorted hgr.2.2.2)
    have hn' := insR_n v.2.1.2 v.2.1.1 (brX a b)
    rw [hn'] at cp hl
    rw [← lstB_snoc, ← lstB_srt] at hl
    have hrow := lstB_inj hl
    generalize srtB (v.2.1.1 + 1) (snoc v.2.1.1 v.2.1.2 (brX a b)) = r at hrow ⊢
    generalize (insR v.2.1.2 v.2.1.1 (brX a b)).2 = r0 at cp hrow
    refine path_ok mixed Tryz.func52 hc (bSt v a b (isGraphF v) (v.2.1.1 + 1) r0 r) ?_
    simp only [All]
    repeat' (first | exact trivial | with_reducible apply And.intro)
    all_goals (first | exact aG _ | exact aE _ | omega | rfl | (intros; first | assumption | exact trivial | rfl | contradiction | ((repeat' (first | assumption | apply anda | apply notf)); done)) | (exact c1) | (exact cp) | (exact hcd') | (intro j hj; simp [All, aEt]; done) | (intro j hj; rw [hrow j hj]; simp [cvtL, cvt, tg, tru, All]))
end Go.Proofs.YtgdbnnmogddkaaaGreat.Mach
namespace Go.Proofs.YtgdbnnmogddkaaaGreat.Mach
open Go
set_option linter.unusedVariables false
set_option linter.unusedSimpArgs false
def dblB (g : Nat → T_Bar) : Nat → Bool
  | 0 => false
  | k + 1 => dblB g k || (decide (1 ≤ k) && q1_BarS (g ((k : Int) - 1).toNat) (g k))
def simpleF (v : T_Graph) : Bool := !dblB v.2.1.2 v.2.1.1 && isGraphF v
def S86 (v : T_Graph) (k : Nat) : St :=
  ⟨[graphA v, .pt 2 0 0 0, .p .any, .p (.int .i64 k)] ++ List.replicate 21 anyA, [(0, boxG v)], 1⟩
def S88 (v : T_Graph) (k : Nat) : St :=
  ⟨[graphA v, .pt 2 0 0 0, .p .any, .p (.int .i64 k)] ++ List.replicate 19 anyA, [(0, boxG v)], 1⟩
theorem p86a (v : T_Graph) :
    pieceOb Tryz.prog 0 [rg 2, rg 1, .head] [.code (bodyOf Tryz.f85)] (start Tryz.f85 [] 0 [graphA v]) [0] 1 (S86 v 1) =
    some (zf92, [(AI v.1),(AN v.2.1.1),(AP v.2.1.1 (fun i => [.int .i64 ((v.2.1.2 i).1), .int .i64 ((v.2.1.2 i).2.1)])),(AN 0),((1 : Int) = (↑1 : Int)),((([AV.p (PV.int IntKind.i64 v.1), graphL v.2.1].length) : Nat) = 2),(NL 1 1),(NL 1 1),(AI v.1),(AN v.2.1.1),(AP v.2.1.1 (fun i => [.int .i64 ((v.2.1.2 i).1), .int .i64 ((v.2.1.2 i).2.1)]))]) := by kernel_rfl
theorem p86b (v : T_Graph) (k : Nat) :
    pieceOb Tryz.prog 0 [rg 5, .dec true, rg 12, .dec false, rg 3, .head] zf92 (S86 v k) [0] 1 (S86 v (k + 1)) =
    some (zf92, [(NT 0 1),((decide ((↑k : Int) < (↑v.2.1.1 : Int))) = true),(NT 0 1),(R0 ((↑k : Int) - 1)),(R1 ((↑k : Int) - 1)),(IL 0 ((↑k : Int) - 1)),(IT ((↑k : Int) - 1) (↑v.2.1.1 : Int)),(NT 0 1),(IL 0 (↑k : Int)),(IT (↑k : Int) (↑v.2.1.1 : Int)),(((v.2.1.2 ((↑k : Int) - 1).toNat).1 == (v.2.1.2 k).1 && ((v.2.1.2 ((↑k : Int) - 1).toNat).2.1 == (v.2.1.2 k).2.1 && true)) = false),(R0 ((↑k : Int) + 1)),(R1 ((↑k : Int) + 1)),(AI v.1),(AN v.2.1.1),(AP v.2.1.1 (fun i => [.int .i64 ((v.2.1.2 i).1), .int .i64 ((v.2.1.2 i).2.1)])),(AN 0),((((↑k : Int) + 1) : Int) = (↑(k + 1) : Int)),(AN 2),(NL 1 1),(NL 1 1),(AI v.1),(AN v.2.1.1),(AP v.2.1.1 (fun i => [.int .i64 ((v.2.1.2 i).1), .int .i64 ((v.2.1.2 i).2.1)]))]) := by kernel_rfl
theorem p86c (v : T_Graph) (k : Nat) :
    pathOb Tryz.prog Tryz.f85 0 [rg 5, .dec true, rg 12, .dec true, rg 1] zf92 (S86 v k) [] 1 [] (.p (.bool false)) =
    some [(NT 0 1),((decide ((↑k : Int) < (↑v.2.1.1 : Int))) = true),(NT 0 1),(R0 ((↑k : Int) - 1)),(R1 ((↑k : Int) - 1)),(IL 0 ((↑k : Int) - 1)),(IT ((↑k : Int) - 1) (↑v.2.1.1 : Int)),(NT 0 1),(IL 0 (↑k : Int)),(IT (↑k : Int) (↑v.2.1.1 : Int)),(((v.2.1.2 ((↑k : Int) - 1).toNat).1 == (v.2.1.2 k).1 && ((v.2.1.2 ((↑k : Int) - 1).toNat).2.1 == (v.2.1.2 k).2.1 && true)) = true),(false = false)] := by kernel_rfl
theorem p86d (v : T_Graph) (k : Nat) :
    pathOb Tryz.prog Tryz.f85 0 [rg 5, .dec false, rm [(1, oc [] (.p (.bool (isGraphF v))))] 1] zf92 (S86 v k) [] 1 [] (.p (.bool (isGraphF v))) =
    some [(NT 0 1),((decide ((↑k : Int) < (↑v.2.1.1 : Int))) = false),(NT 0 1),Con Tryz.prog 86 0 [] [(zf106 v)] [] (.p (.bool (isGraphF v))),((isGraphF v) = (isGraphF v))] := by kernel_rfl
theorem p88a (v : T_Graph) :
    pieceOb Tryz.prog 0 [rg 2, rg 1, .head] [.code (bodyOf Tryz.f97)] (start Tryz.f97 [] 0 [graphA v]) [0] 1 (S88 v 1) =
    some (zf93, [(AI v.1),(AN v.2.1.1),(AP v.2.1.1 (fun i => [.int .i64 ((v.2.1.2 i).1), .int .i64 ((v.2.1.2 i).2.1)])),(AN 0),((1 : Int) = (↑1 : Int)),((([AV.p (PV.int IntKind.i64 v.1), graphL v.2.1].length) : Nat) = 2),(NL 1 1),(NL 1 1),(AI v.1),(AN v.2.1.1),(AP v.2.1.1 (fun i => [.int .i64 ((v.2.1.2 i).1), .int .i64 ((v.2.1.2 i).2.1)]))]) := by kernel_rfl
theorem p88b (v : T_Graph) (k : Nat) :
    pieceOb Tryz.prog 0 [rg 5, .dec true, rg 12, .dec false, rg 3, .head] zf93 (S88 v k) [0] 1 (S88 v (k + 1)) =
    some (zf93, [(NT 0 1),((decide ((↑k : Int) < (↑v.2.1.1 : Int))) = true),(NT 0 1),(R0 ((↑k : Int) - 1)),(R1 ((↑k : Int) - 1)),(IL 0 ((↑k : Int) - 1)),(IT ((↑k : Int) - 1) (↑v.2.1.1 : Int)),(NT 0 1),(IL 0 (↑k : Int)),(IT (↑k : Int) (↑v.2.1.1 : Int)),(((v.2.1.2 ((↑k : Int) - 1).toNat).1 == (v.2.1.2 k).1 && ((v.2.1.2 ((↑k : Int) - 1).toNat).2.1 == (v.2.1.2 k).2.1 && true)) = false),(R0 ((↑k : Int) + 1)),(R1 ((↑k : Int) + 1)),(AI v.1),(AN v.2.1.1),(AP v.2.1.1 (fun i => [.int .i64 ((v.2.1.2 i).1), .int .i64 ((v.2.1.2 i).2.1)])),(AN 0),((((↑k : Int) + 1) : Int) = (↑(k + 1) : Int)),(AN 2),(NL 1 1),(NL 1 1),(AI v.1),(AN v.2.1.1),(AP v.2.1.1 (fun i => [.int .i64 ((v.2.1.2 i).1), .int .i64 ((v.2.1.2 i).2.1)]))]) := by kernel_rfl
theorem p88c (v : T_Graph) (k : Nat) :
    pathOb Tryz.prog Tryz.f97 0 [rg 5, .dec true, rg 12, .dec true, rg 1] zf93 (S88 v k) [] 1 [] (.p (.bool true)) =
    some [(NT 0 1),((decide ((↑k : Int) < (↑v.2.1.1 : Int))) = true),(NT 0 1),(R0 ((↑k : Int) - 1)),(R1 ((↑k : Int) - 1)),(IL 0 ((↑k : Int) - 1)),(IT ((↑k : Int) - 1) (↑v.2.1.1 : Int)),(NT 0 1),(IL 0 (↑k : Int)),(IT (↑k : Int) (↑v.2.1.1 : Int)),(((v.2.1.2 ((↑k : Int) - 1).toNat).1 == (v.2.1.2 k).1 && ((v.2.1.2 ((↑k : Int) - 1).toNat).2.1 == (v.2.1.2 k).2.1 && true)) = true),(true = true)] := by kernel_rfl
theorem p88d (v : T_Graph) (k : Nat) :
    pathOb Tryz.prog Tryz.f97 0 [rg 5, .dec false, rg 1] zf93 (S88 v k) [] 1 [] (.p (.bool false)) =
    some [(NT 0 1),((decide ((↑k : Int) < (↑v.2.1.1 : Int))) = false),(false = false)] := by kernel_rfl
theorem p89 (v : T_Graph) (p : Int) :
    pathOb Tryz.prog Tryz.f98 0 [rg 2, rm [(4, oc [] (.p (.bool (inB p 0 (v.1 - 1)))))] 1] [.code (bodyOf Tryz.f98)] (start Tryz.f98 [] 0 [graphA v, .p (.int .i64 p)]) [] 1 [] (.p (.bool (inB p 0 (v.1 - 1)))) =
    some [(NT 0 1),(R0 (v.1 - 1)),(R1 (v.1 - 1)),Con Tryz.prog 116 0 [] [.p (.int .i64 p), .p (.int .i64 0), .p (.int .i64 (v.1 - 1))] [] (.p (.bool (inB p 0 (v.1 - 1)))),((inB p 0 (v.1 - 1)) = (inB p 0 (v.1 - 1)))] := by kernel_rfl
theorem dblB_hit (g : Nat → T_Bar) (k : Nat) (h1 : 1 ≤ k) (h : q1_BarS (g ((k : Int) - 1).toNat) (g k) = true) : ∀ n, k < n → dblB g n = true
  | 0, h' => by omega
  | n + 1, h' => by
    by_cases e : k = n
    · subst e; rw [dblB, h, decide_eq_true h1]; simp
    · simp [dblB, dblB_hit g k h1 h n (by omega)]
theorem con_l17Simple (v : T_Graph) (hs : smS s_Graph v) : Con Tryz.prog 85 0 [] [graphA v] [] (.p (.bool (simpleF v))) := by
  refine con_start Tryz.func85 rfl (by kernel_rfl) rfl (fun c hc => ?_)
  have hn : v.2.1.1 ≤ 1048576 := hs.2.1.1
  have lp : ∀ m k, 1 ≤ k → v.2.1.1 ≤ k + m → k ≤ 1048577 → dblB v.2.1.2 (min k v.2.1.1) = false → Run Tryz.prog c 85 zf92 (S86 v k) (Post c [] (.p (.bool (simpleF v)))) := by
    intro m
    induction m with
    | zero =>
      intro k h1 hk hk2 hg
      have hd : decide ((k : Int) < (v.2.1.1 : Int)) = false := by simp; omega
      rw [show min k v.2.1.1 = v.2.1.1 by omega] at hg
      rw [show simpleF v = isGraphF v by simp [simpleF, hg]]
      refine path_ok mixed Tryz.func85 hc (p86d v k) ?_
      simp only [All]
      repeat' (first | exact trivial | with_reducible apply And.intro)
      all_goals (first | omega | rfl | (intros; first | assumption | exact trivial | rfl | contradiction | ((repeat' (first | assumption | apply anda | apply notf)); done)) | (exact con_IsGraph_s v hs))
    | succ m ih =>
      intro k h1 hk hk2 hg
      by_cases hkn : k < v.2.1.1
      · have hd : decide ((k : Int) < (v.2.1.1 : Int)) = true := by simp; omega
        rw [show min k v.2.1.1 = k by omega] at hg
        cases he : q1_BarS (v.2.1.2 ((k : Int) - 1).toNat) (v.2.1.2 k) with
        | true =>
          rw [show simpleF v = false by simp [simpleF, dblB_hit v.2.1.2 k h1 he v.2.1.1 hkn]]
          refine path_ok mixed Tryz.func85 hc (p86c v k) ?_
          simp only [All]
          repeat' (first | exact trivial | with_reducible apply And.intro)
          all_goals (first | omega | rfl | (intros; first | assumption | exact trivial | rfl | contradiction | ((repeat' (first | assumption | apply anda | apply notf)); done)) | (exact he))
        | false =>
          refine piece_ok mixed hc (p86b v k) ?_ (ih (k + 1) (by omega) (by omega) (by omega) (by rw [show min (k + 1) v.2.1.1 = k + 1 by omega]; rw [dblB, hg, he]; simp))
          simp only [All]
          repeat' (first | exact trivial | with_reducible apply And.intro)
          all_goals (first | exact aP _ _ | omega | rfl | (intros; first | assumption | exact trivial | rfl | contradiction | ((repeat' (first | assumption | apply anda | apply notf)); done)) | (exact he) | (simp [All, aEt]))
      · have hd : decide ((k : Int) < (v.2.1.1 : Int)) = false := by simp; omega
        rw [show min k v.2.1.1 = v.2.1.1 by omega] at hg
        rw [show simpleF v = isGraphF v by simp [simpleF, hg]]
        refine path_ok mixed Tryz.func85 hc (p86d v k) ?_
        simp only [All]
        repeat' (first | exact trivial | with_reducible apply And.intro)
        all_goals (first | omega | rfl | (intros; first | assumption | exact trivial | rfl | contradiction | ((repeat' (first | assumption | apply anda | apply notf)); done)) | (exact con_IsGraph_s v hs))
  have h0 : dblB v.2.1.2 (min 1 v.2.1.1) = false := by
    by_cases h : v.2.1.1 = 0
    · rw [h]; rfl
    · rw [show min 1 v.2.1.1 = 1 by omega]; simp [dblB]
  refine piece_ok mixed hc (p86a v) ?_ (lp v.2.1.1 1 (by omega) (by omega) (by omega) h0)
  simp only [All]
  repeat' (first | exact trivial | with_reducible apply And.intro)
  all_goals (first | exact aP _ _ | omega | rfl | (intros; first | assumption | exact trivial | rfl | contradiction | ((repeat' (first | assumption | apply anda | apply notf)); done)) | (simp [All, aEt]))
theorem con_hasDoubles (v : T_Graph) (hs : smS s_Graph v) : Con Tryz.prog 97 0 [] [graphA v] [] (.p (.bool (dblB v.2.1.2 v.2.1.1))) := by
  refine con_start Tryz.func97 rfl (by kernel_rfl) rfl (fun c hc => ?_)
  have hn : v.2.1.1 ≤ 1048576 := hs.2.1.1
  have lp : ∀ m k, 1 ≤ k → v.2.1.1 ≤ k + m → k ≤ 1048577 → dblB v.2.1.2 (min k v.2.1.1) = false → Run Tryz.prog c 97 zf93 (S88 v k) (Post c [] (.p (.bool (dblB v.2.1.2 v.2.1.1)))) := by
    intro m
    induction m with
    | zero =>
      intro k h1 hk hk2 hg
      have hd : decide ((k : Int) < (v.2.1.1 : Int)) = false := by simp; omega
      rw [show min k v.2.1.1 = v.2.1.1 by omega] at hg
      rw [hg]
      refine path_ok mixed Tryz.func97 hc (p88d v k) ?_
      simp only [All]
      repeat' (first | exact trivial | with_reducible apply And.intro)
      all_goals (first | omega | rfl | (intros; first | assumption | exact trivial | rfl | contradiction | ((repeat' (first | assumption | apply anda | apply notf)); done)))
    | succ m ih =>
      intro k h1 hk hk2 hg
      by_cases hkn : k < v.2.1.1
      · have hd : decide ((k : Int) < (v.2.1.1 : Int)) = true := by simp; omega
        rw [show min k v.2.1.1 = k by omega] at hg
        cases he : q1_BarS (v.2.1.2 ((k : Int) - 1).toNat) (v.2.1.2 k) with
        | true =>
          rw [dblB_hit v.2.1.2 k h1 he v.2.1.1 hkn]
          refine path_ok mixed Tryz.func97 hc (p88c v k) ?_
          simp only [All]
          repeat' (first | exact trivial | with_reducible apply And.intro)
          all_goals (first | omega | rfl | (intros; first | assumption | exact trivial | rfl | contradiction | ((repeat' (first | assumption | apply anda | apply notf)); done)) | (exact he))
        | false =>
          refine piece_ok mixed hc (p88b v k) ?_ (ih (k + 1) (by omega) (by omega) (by omega) (by rw [show min (k + 1) v.2.1.1 = k + 1 by omega]; rw [dblB, hg, he]; simp))
          simp only [All]
          repeat' (first | exact trivial | with_reducible apply And.intro)
          all_goals (first | exact aP _ _ | omega | rfl | (intros; first | assumption | exact trivial | rfl | contradiction | ((repeat' (first | assumption | apply anda | apply notf)); done)) | (exact he) | (simp [All, aEt]))
      · have hd : decide ((k : Int) < (v.2.1.1 : Int)) = false := by simp; omega
        rw [show min k v.2.1.1 = v.2.1.1 by omega] at hg
        rw [hg]
        refine path_ok mixed Tryz.func97 hc (p88d v k) ?_
        simp only [All]
        repeat' (first | exact trivial | with_reducible apply And.intro)
        all_goals (first | omega | rfl | (intros; first | assumption | exact trivial | rfl | contradiction | ((repeat' (first | assumption | apply anda | apply notf)); done)))
  have h0 : dblB v.2.1.2 (min 1 v.2.1.1) = false := by
    by_cases h : v.2.1.1 = 0
    · rw [h]; rfl
    · rw [show min 1 v.2.1.1 = 1 by omega]; simp [dblB]
  refine piece_ok mixed hc (p88a v) ?_ (lp v.2.1.1 1 (by omega) (by omega) (by omega) h0)
  simp only [All]
  repeat' (first | exact trivial | with_reducible apply And.intro)
  all_goals (first | exact aP _ _ | omega | rfl | (intros; first | assumption | exact trivial | rfl | contradiction | ((repeat' (first | assumption | apply anda | apply notf)); done)) | (simp [All, aEt]))
theorem con_Graphhas (v : T_Graph) (p : Int) (h1 : 1 ≤ v.1) (h2 : v.1 ≤ 8) : Con Tryz.prog 98 0 [] [graphA v, .p (.int .i64 p)] [] (.p (.bool (inB p 0 (v.1 - 1)))) := by
  refine con_start Tryz.func98 rfl (by kernel_rfl) rfl (fun c hc => ?_)
  refine path_ok mixed Tryz.func98 hc (p89 v p) ?_
  simp only [All]
  repeat' (first | exact trivial | with_reducible apply And.intro)
  all_goals (first | omega | rfl | (intros; first | assumption | exact trivial | rfl | contradiction | ((repeat' (first | assumption | apply anda | apply notf)); done)) | (exact con_within _ _ _))
end Go.Proofs.YtgdbnnmogddkaaaGreat.Mach
namespace Go.Proofs.YtgdbnnmogddkaaaGreat.Mach
open Go
set_option linter.unusedVariables false
set_option linter.unusedSimpArgs false
def badP (N : Int) (g : Nat → Int) (k : Nat) : Bool :=
  bif bif decide (g k < 0) then true else decide (g k ≥ N) then true else bif decide ((k : Int) > 0) then decide (g ((k : Int) - 1).toNat ≥ g k) else false
def goodP (N : Int) (g : Nat → Int) : Nat → Bool
  | 0 => true
  | k + 1 => goodP N g k && !badP N g k
def bothP (p : T_IntS) (b : T_Bar) : Bool := bif hasI p.2 b.1 p.1 then hasI p.2 b.2.1 p.1 else false
def freeP (p : T_IntS) (g : Nat → T_Bar) : Nat → Bool
  | 0 => true
  | k + 1 => freeP p g k && !bothP p (g k)
def tailP (v : T_Pinned) : Bool :=
  bif bif bif simpleF v.1 then decide ((v.2.1.1 : Int) ≥ 2) else false then decide ((v.1.2.1.1 : Int) ≤ 15) else false then decide ((v.1.2.1.1 : Int) + 2 * (v.2.1.1 : Int) - 3 ≤ 24) else false
def pinnedF (v : T_Pinned) : Bool := goodP v.1.1 v.2.1.2 v.2.1.1 && (freeP v.2.1 v.1.2.1.2 v.1.2.1.1 && tailP v)
def pinA (v : T_Pinned) : AV := .agg [.p (.int .i64 v.1.1), graphL v.1.2.1, inL v.2.1]
def boxP (v : T_Pinned) : Ob := ⟨true, 3, 1, fun i => [.p (.int .i64 v.1.1), graphL v.1.2.1, inL v.2.1]⟩
def S56a (v : T_Pinned) (k : Nat) : St :=
  ⟨[pinA v, .pt 3 0 0 0, .p .any, .p (.int .i64 k)] ++ List.replicate 102 anyA, [(0, boxP v)], 1⟩
def S56b (v : T_Pinned) (k : Nat) : St :=
  ⟨[pinA v, .pt 3 0 0 0, .p .any, .p .any, .p (.int .i64 k)] ++ List.replicate 101 anyA, [(0, boxP v)], 1⟩
theorem p56a (v : T_Pinned) :
    pieceOb Tryz.prog 0 [rg 2, rg 1, .head] [.code (bodyOf Tryz.f51)] (start Tryz.f51 [] 0 [pinA v]) [0] 1 (S56a v 0) =
    some (zf94, [(AI v.1.1),(AN v.1.2.1.1),(AP v.1.2.1.1 (fun i => [.int .i64 ((v.1.2.1.2 i).1), .int .i64 ((v.1.2.1.2 i).2.1)])),(AN v.2.1.1),(AP v.2.1.1 (fun i => [.int .i64 (v.2.1.2 i)])),(AN 0),((0 : Int) = (↑0 : Int)),((([AV.p (PV.int IntKind.i64 v.1.1), graphL v.1.2.1, inL v.2.1].length) : Nat) = 3),(NL 1 1),(NL 1 1),(AI v.1.1),(AN v.1.2.1.1),(AP v.1.2.1.1 (fun i => [.int .i64 ((v.1.2.1.2 i).1), .int .i64 ((v.1.2.1.2 i).2.1)])),(AN v.2.1.1),(AP v.2.1.1 (fun i => [.int .i64 (v.2.1.2 i)]))]) := by kernel_rfl
theorem p56b (v : T_Pinned) (k : Nat) :
    pieceOb Tryz.prog 0 [rg 5, .dec true, rg 35, .dec false, rg 3, .head] zf94 (S56a v k) [0] 1 (S56a v (k + 1)) =
    some (zf94, [(NT 0 1),((decide ((↑k : Int) < (↑v.2.1.1 : Int))) = true),(NT 0 1),(IL 0 (↑k : Int)),(IT (↑k : Int) (↑v.2.1.1 : Int)),(AG (!decide (v.2.1.2 (↑k : Int).toNat < 0))),(((!decide (v.2.1.2 (↑k : Int).toNat < 0)) = true) → (NT 0 1)),(AG (!decide (v.2.1.2 (↑k : Int).toNat < 0))),(AG (!decide (v.2.1.2 (↑k : Int).toNat < 0))),(((!decide (v.2.1.2 (↑k : Int).toNat < 0)) = true) → (IL 0 (↑k : Int))),(((!decide (v.2.1.2 (↑k : Int).toNat < 0)) = true) → (IT (↑k : Int) (↑v.2.1.1 : Int))),(AG (!decide (v.2.1.2 (↑k : Int).toNat < 0))),(AG (!decide (v.2.1.2 (↑k : Int).toNat < 0))),(AG (!decide (v.2.1.2 (↑k : Int).toNat < 0))),(((!decide (v.2.1.2 (↑k : Int).toNat < 0)) = true) → (NT 0 1)),(AG (!decide (v.2.1.2 (↑k : Int).toNat < 0))),(AG (!decide (v.2.1.2 (↑k : Int).toNat < 0))),(((decide (v.2.1.2 (↑k : Int).toNat < 0)) = false) →  ((!decide (v.2.1.2 (↑k : Int).toNat < 0)) = true)),(AG (!bif decide (v.2.1.2 (↑k : Int).toNat < 0) then true else decide (v.2.1.2 (↑k : Int).toNat ≥ v.1.1))),(AG (!bif decide (v.2.1.2 (↑k : Int).toNat < 0) then true else decide (v.2.1.2 (↑k : Int).toNat ≥ v.1.1))),(AG ((!bif decide (v.2.1.2 (↑k : Int).toNat < 0) then true else decide (v.2.1.2 (↑k : Int).toNat ≥ v.1.1)) && decide ((↑k : Int) > 0))),((((!bif decide (v.2.1.2 (↑k : Int).toNat < 0) then true else decide (v.2.1.2 (↑k : Int).toNat ≥ v.1.1)) && decide ((↑k : Int) > 0)) = true) → (NT 0 1)),(AG ((!bif decide (v.2.1.2 (↑k : Int).toNat < 0) then true else decide (v.2.1.2 (↑k : Int).toNat ≥ v.1.1)) && decide ((↑k : Int) > 0))),((((!bif decide (v.2.1.2 (↑k : Int).toNat < 0) then true else decide (v.2.1.2 (↑k : Int).toNat ≥ v.1.1)) && decide ((↑k : Int) > 0)) = true) → (R0 ((↑k : Int) - 1))),((((!bif decide (v.2.1.2 (↑k : Int).toNat < 0) then true else decide (v.2.1.2 (↑k : Int).toNat ≥ v.1.1)) && decide ((↑k : Int) > 0)) = true) → (R1 ((↑k : Int) - 1))),(AG ((!bif decide (v.2.1.2 (↑k : Int).toNat < 0) then true else decide (v.2.1.2 (↑k : Int).toNat ≥ v.1.1)) && decide ((↑k : Int) > 0))),(AG ((!bif decide (v.2.1.2 (↑k : Int).toNat < 0) then true else decide (v.2.1.2 (↑k : Int).toNat ≥ v.1.1)) && decide ((↑k : Int) > 0))),((((!bif decide (v.2.1.2 (↑k : Int).toNat < 0) then true else decide (v.2.1.2 (↑k : Int).toNat ≥ v.1.1)) && decide ((↑k : Int) > 0)) = true) → (IL 0 ((↑k : Int) - 1))),((((!bif decide (v.2.1.2 (↑k : Int).toNat < 0) then true else decide (v.2.1.2 (↑k : Int).toNat ≥ v.1.1)) && decide ((↑k : Int) > 0)) = true) → (IT ((↑k : Int) - 1) (↑v.2.1.1 : Int))),(AG ((!bif decide (v.2.1.2 (↑k : Int).toNat < 0) then true else decide (v.2.1.2 (↑k : Int).toNat ≥ v.1.1)) && decide ((↑k : Int) > 0))),(AG ((!bif decide (v.2.1.2 (↑k : Int).toNat < 0) then true else decide (v.2.1.2 (↑k : Int).toNat ≥ v.1.1)) && decide ((↑k : Int) > 0))),((((!bif decide (v.2.1.2 (↑k : Int).toNat < 0) then true else decide (v.2.1.2 (↑k : Int).toNat ≥ v.1.1)) && decide ((↑k : Int) > 0)) = true) → (NT 0 1)),(AG ((!bif decide (v.2.1.2 (↑k : Int).toNat < 0) then true else decide (v.2.1.2 (↑k : Int).toNat ≥ v.1.1)) && decide ((↑k : Int) > 0))),(AG ((!bif decide (v.2.1.2 (↑k : Int).toNat < 0) then true else decide (v.2.1.2 (↑k : Int).toNat ≥ v.1.1)) && decide ((↑k : Int) > 0))),((((!bif decide (v.2.1.2 (↑k : Int).toNat < 0) then true else decide (v.2.1.2 (↑k : Int).toNat ≥ v.1.1)) && decide ((↑k : Int) > 0)) = true) → (IL 0 (↑k : Int))),((((!bif decide (v.2.1.2 (↑k : Int).toNat < 0) then true else decide (v.2.1.2 (↑k : Int).toNat ≥ v.1.1)) && decide ((↑k : Int) > 0)) = true) → (IT (↑k : Int) (↑v.2.1.1 : Int))),(AG ((!bif decide (v.2.1.2 (↑k : Int).toNat < 0) then true else decide (v.2.1.2 (↑k : Int).toNat ≥ v.1.1)) && decide ((↑k : Int) > 0))),(AG ((!bif decide (v.2.1.2 (↑k : Int).toNat < 0) then true else decide (v.2.1.2 (↑k : Int).toNat ≥ v.1.1)) && decide ((↑k : Int) > 0))),(AG ((!bif decide (v.2.1.2 (↑k : Int).toNat < 0) then true else decide (v.2.1.2 (↑k : Int).toNat ≥ v.1.1)) && decide ((↑k : Int) > 0))),(AG (!bif decide (v.2.1.2 (↑k : Int).toNat < 0) then true else decide (v.2.1.2 (↑k : Int).toNat ≥ v.1.1))),(((!bif decide (v.2.1.2 (↑k : Int).toNat < 0) then true else decide (v.2.1.2 (↑k : Int).toNat ≥ v.1.1)) = true) → (((decide ((↑k : Int) > 0)) = true) →  (((!bif decide (v.2.1.2 (↑k : Int).toNat < 0) then true else decide (v.2.1.2 (↑k : Int).toNat ≥ v.1.1)) && decide ((↑k : Int) > 0)) = true))),(((bif decide (v.2.1.2 (↑k : Int).toNat < 0) then true else decide (v.2.1.2 (↑k : Int).toNat ≥ v.1.1)) = false) →  ((!bif decide (v.2.1.2 (↑k : Int).toNat < 0) then true else decide (v.2.1.2 (↑k : Int).toNat ≥ v.1.1)) = true)),((bif bif decide (v.2.1.2 (↑k : Int).toNat < 0) then true else decide (v.2.1.2 (↑k : Int).toNat ≥ v.1.1) then true else bif decide ((↑k : Int) > 0) then decide (v.2.1.2 ((↑k : Int) - 1).toNat ≥ v.2.1.2 (↑k : Int).toNat) else false) = false),(R0 ((↑k : Int) + 1)),(R1 ((↑k : Int) + 1)),(AI v.1.1),(AN v.1.2.1.1),(AP v.1.2.1.1 (fun i => [.int .i64 ((v.1.2.1.2 i).1), .int .i64 ((v.1.2.1.2 i).2.1)])),(AN v.2.1.1),(AP v.2.1.1 (fun i => [.int .i64 (v.2.1.2 i)])),(AN 0),((((↑k : Int) + 1) : Int) = (↑(k + 1) : Int)),(AN 3),(NL 1 1),(NL 1 1),(AI v.1.1),(AN v.1.2.1.1),(AP v.1.2.1.1 (fun i => [.int .i64 ((v.1.2.1.2 i).1), .int .i64 ((v.1.2.1.2 i).2.1)])),(AN v.2.1.1),(AP v.2.1.1 (fun i => [.int .i64 (v.2.1.2 i)]))]) := by kernel_rfl
theorem p56c (v : T_Pinned) (k : Nat) :
    pathOb Tryz.prog Tryz.f51 0 [rg 5, .dec true, rg 35, .dec true, rg 1] zf94 (S56a v k) [] 1 [] (.p (.bool false)) =
    some [(NT 0 1),((decide ((↑k : Int) < (↑v.2.1.1 : Int))) = true),(NT 0 1),(IL 0 (↑k : Int)),(IT (↑k : Int) (↑v.2.1.1 : Int)),(AG (!decide (v.2.1.2 (↑k : Int).toNat < 0))),(((!decide (v.2.1.2 (↑k : Int).toNat < 0)) = true) → (NT 0 1)),(AG (!decide (v.2.1.2 (↑k : Int).toNat < 0))),(AG (!decide (v.2.1.2 (↑k : Int).toNat < 0))),(((!decide (v.2.1.2 (↑k : Int).toNat < 0)) = true) → (IL 0 (↑k : Int))),(((!decide (v.2.1.2 (↑k : Int).toNat < 0)) = true) → (IT (↑k : Int) (↑v.2.1.1 : Int))),(AG (!decide (v.2.1.2 (↑k : Int).toNat < 0))),(AG (!decide (v.2.1.2 (↑k : Int).toNat < 0))),(AG (!decide (v.2.1.2 (↑k : Int).toNat < 0))),(((!decide (v.2.1.2 (↑k : Int).toNat < 0)) = true) → (NT 0 1)),(AG (!decide (v.2.1.2 (↑k : Int).toNat < 0))),(AG (!decide (v.2.1.2 (↑k : Int).toNat < 0))),(((decide (v.2.1.2 (↑k : Int).toNat < 0)) = false) →  ((!decide (v.2.1.2 (↑k : Int).toNat < 0)) = true)),(AG (!bif decide (v.2.1.2 (↑k : Int).toNat < 0) then true else decide (v.2.1.2 (↑k : Int).toNat ≥ v.1.1))),(AG (!bif decide (v.2.1.2 (↑k : Int).toNat < 0) then true else decide (v.2.1.2 (↑k : Int).toNat ≥ v.1.1))),(AG ((!bif decide (v.2.1.2 (↑k : Int).toNat < 0) then true else decide (v.2.1.2 (↑k : Int).toNat ≥ v.1.1)) && decide ((↑k : Int) > 0))),((((!bif decide (v.2.1.2 (↑k : Int).toNat < 0) then true else decide (v.2.1.2 (↑k : Int).toNat ≥ v.1.1)) && decide ((↑k : Int) > 0)) = true) → (NT 0 1)),(AG ((!bif decide (v.2.1.2 (↑k : Int).toNat < 0) then true else decide (v.2.1.2 (↑k : Int).toNat ≥ v.1.1)) && decide ((↑k : Int) > 0))),((((!bif decide (v.2.1.2 (↑k : Int).toNat < 0) then true else decide (v.2.1.2 (↑k : Int).toNat ≥ v.1.1)) && decide ((↑k : Int) > 0)) = true) → (R0 ((↑k : Int) - 1))),((((!bif decide (v.2.1.2 (↑k : Int).toNat < 0) then true else decide (v.2.1.2 (↑k : Int).toNat ≥ v.1.1)) && decide ((↑k : Int) > 0)) = true) → (R1 ((↑k : Int) - 1))),(AG ((!bif decide (v.2.1.2 (↑k : Int).toNat < 0) then true else decide (v.2.1.2 (↑k : Int).toNat ≥ v.1.1)) && decide ((↑k : Int) > 0))),(AG ((!bif decide (v.2.1.2 (↑k : Int).toNat < 0) then true else decide (v.2.1.2 (↑k : Int).toNat ≥ v.1.1)) && decide ((↑k : Int) > 0))),((((!bif decide (v.2.1.2 (↑k : Int).toNat < 0) then true else decide (v.2.1.2 (↑k : Int).toNat ≥ v.1.1)) && decide ((↑k : Int) > 0)) = true) → (IL 0 ((↑k : Int) - 1))),((((!bif decide (v.2.1.2 (↑k : Int).toNat < 0) then true else decide (v.2.1.2 (↑k : Int).toNat ≥ v.1.1)) && decide ((↑k : Int) > 0)) = true) → (IT ((↑k : Int) - 1) (↑v.2.1.1 : Int))),(AG ((!bif decide (v.2.1.2 (↑k : Int).toNat < 0) then true else decide (v.2.1.2 (↑k : Int).toNat ≥ v.1.1)) && decide ((↑k : Int) > 0))),(AG ((!bif decide (v.2.1.2 (↑k : Int).toNat < 0) then true else decide (v.2.1.2 (↑k : Int).toNat ≥ v.1.1)) && decide ((↑k : Int) > 0))),((((!bif decide (v.2.1.2 (↑k : Int).toNat < 0) then true else decide (v.2.1.2 (↑k : Int).toNat ≥ v.1.1)) && decide ((↑k : Int) > 0)) = true) → (NT 0 1)),(AG ((!bif decide (v.2.1.2 (↑k : Int).toNat < 0) then true else decide (v.2.1.2 (↑k : Int).toNat ≥ v.1.1)) && decide ((↑k : Int) > 0))),(AG ((!bif decide (v.2.1.2 (↑k : Int).toNat < 0) then true else decide (v.2.1.2 (↑k : Int).toNat ≥ v.1.1)) && decide ((↑k : Int) > 0))),((((!bif decide (v.2.1.2 (↑k : Int).toNat < 0) then true else decide (v.2.1.2 (↑k : Int).toNat ≥ v.1.1)) && decide ((↑k : Int) > 0)) = true) → (IL 0 (↑k : Int))),((((!bif decide (v.2.1.2 (↑k : Int).toNat < 0) then true else decide (v.2.1.2 (↑k : Int).toNat ≥ v.1.1)) && decide ((↑k : Int) > 0)) = true) → (IT (↑k : Int) (↑v.2.1.1 : Int))),(AG ((!bif decide (v.2.1.2 (↑k : Int).toNat < 0) then true else decide (v.2.1.2 (↑k : Int).toNat ≥ v.1.1)) && decide ((↑k : Int) > 0))),(AG ((!bif decide (v.2.1.2 (↑k : Int).toNat < 0) then true else decide (v.2.1.2 (↑k : Int).toNat ≥ v.1.1)) && decide ((↑k : Int) > 0))),(AG ((!bif decide (v.2.1.2 (↑k : Int).toNat < 0) then true else decide (v.2.1.2 (↑k : Int).toNat ≥ v.1.1)) && decide ((↑k : Int) > 0))),(AG (!bif decide (v.2.1.2 (↑k : Int).toNat < 0) then true else decide (v.2.1.2 (↑k : Int).toNat ≥ v.1.1))),(((!bif decide (v.2.1.2 (↑k : Int).toNat < 0) then true else decide (v.2.1.2 (↑k : Int).toNat ≥ v.1.1)) = true) → (((decide ((↑k : Int) > 0)) = true) →  (((!bif decide (v.2.1.2 (↑k : Int).toNat < 0) then true else decide (v.2.1.2 (↑k : Int).toNat ≥ v.1.1)) && decide ((↑k : Int) > 0)) = true))),(((bif decide (v.2.1.2 (↑k : Int).toNat < 0) then true else decide (v.2.1.2 (↑k : Int).toNat ≥ v.1.1)) = false) →  ((!bif decide (v.2.1.2 (↑k : Int).toNat < 0) then true else decide (v.2.1.2 (↑k : Int).toNat ≥ v.1.1)) = true)),((bif bif decide (v.2.1.2 (↑k : Int).toNat < 0) then true else decide (v.2.1.2 (↑k : Int).toNat ≥ v.1.1) then true else bif decide ((↑k : Int) > 0) then decide (v.2.1.2 ((↑k : Int) - 1).toNat ≥ v.2.1.2 (↑k : Int).toNat) else false) = true),(false = false)] := by kernel_rfl
theorem p56d (v : T_Pinned) (k : Nat) :
    pieceOb Tryz.prog 0 [rg 5, .dec false, rg 1, .head] zf94 (S56a v k) [0] 1 (S56b v 0) =
    some (zf72, [(NT 0 1),((decide ((↑k : Int) < (↑v.2.1.1 : Int))) = false),(AI v.1.1),(AN v.1.2.1.1),(AP v.1.2.1.1 (fun i => [.int .i64 ((v.1.2.1.2 i).1), .int .i64 ((v.1.2.1.2 i).2.1)])),(AN v.2.1.1),(AP v.2.1.1 (fun i => [.int .i64 (v.2.1.2 i)])),(AN 0),((0 : Int) = (↑0 : Int)),(AN 3),(NL 1 1),(NL 1 1),(AI v.1.1),(AN v.1.2.1.1),(AP v.1.2.1.1 (fun i => [.int .i64 ((v.1.2.1.2 i).1), .int .i64 ((v.1.2.1.2 i).2.1)])),(AN v.2.1.1),(AP v.2.1.1 (fun i => [.int .i64 (v.2.1.2 i)]))]) := by kernel_rfl
theorem p56e (v : T_Pinned) (k : Nat) :
    pieceOb Tryz.prog 0 [rg 6, .dec true, rm [(9, oc [] (.p (.bool (hasI v.2.1.2 (v.1.2.1.2 k).1 v.2.1.1)))), (10, oc [] (.p (.bool (hasI v.2.1.2 (v.1.2.1.2 k).2.1 v.2.1.1))))] 1, .dec false, rg 3, .head] zf72 (S56b v k) [0] 1 (S56b v (k + 1)) =
    some (zf72, [(NT 0 1),((decide ((↑k : Int) < (↑v.1.2.1.1 : Int))) = true),(NT 0 1),(NT 0 1),(IL 0 (↑k : Int)),(IT (↑k : Int) (↑v.1.2.1.1 : Int)),Con Tryz.prog 84 0 [] [.p (.seq true 1 v.2.1.1 (fun i => [.int .i64 (v.2.1.2 i)])), .p (.int .i64 ((v.1.2.1.2 k).1))] [] (.p (.bool (hasI v.2.1.2 (v.1.2.1.2 k).1 v.2.1.1))),(AG (hasI v.2.1.2 (v.1.2.1.2 k).1 v.2.1.1)),(((hasI v.2.1.2 (v.1.2.1.2 k).1 v.2.1.1) = true) → (NT 0 1)),(AG (hasI v.2.1.2 (v.1.2.1.2 k).1 v.2.1.1)),(AG (hasI v.2.1.2 (v.1.2.1.2 k).1 v.2.1.1)),(((hasI v.2.1.2 (v.1.2.1.2 k).1 v.2.1.1) = true) → (NT 0 1)),(AG (hasI v.2.1.2 (v.1.2.1.2 k).1 v.2.1.1)),(AG (hasI v.2.1.2 (v.1.2.1.2 k).1 v.2.1.1)),(((hasI v.2.1.2 (v.1.2.1.2 k).1 v.2.1.1) = true) → (IL 0 (↑k : Int))),(((hasI v.2.1.2 (v.1.2.1.2 k).1 v.2.1.1) = true) → (IT (↑k : Int) (↑v.1.2.1.1 : Int))),(AG (hasI v.2.1.2 (v.1.2.1.2 k).1 v.2.1.1)),(AG (hasI v.2.1.2 (v.1.2.1.2 k).1 v.2.1.1)),(AG (hasI v.2.1.2 (v.1.2.1.2 k).1 v.2.1.1)),(AG (hasI v.2.1.2 (v.1.2.1.2 k).1 v.2.1.1)),(((hasI v.2.1.2 (v.1.2.1.2 k).1 v.2.1.1) = true) →  Con Tryz.prog 84 0 [] [.p (.seq true 1 v.2.1.1 (fun i => [.int .i64 (v.2.1.2 i)])), .p (.int .i64 ((v.1.2.1.2 k).2.1))] [] (.p (.bool (hasI v.2.1.2 (v.1.2.1.2 k).2.1 v.2.1.1)))),(AG (hasI v.2.1.2 (v.1.2.1.2 k).1 v.2.1.1)),((bif hasI v.2.1.2 (v.1.2.1.2 k).1 v.2.1.1 then hasI v.2.1.2 (v.1.2.1.2 k).2.1 v.2.1.1 else false) = false),(R0 ((↑k : Int) + 1)),(R1 ((↑k : Int) + 1)),(AI v.1.1),(AN v.1.2.1.1),(AP v.1.2.1.1 (fun i => [.int .i64 ((v.1.2.1.2 i).1), .int .i64 ((v.1.2.1.2 i).2.1)])),(AN v.2.1.1),(AP v.2.1.1 (fun i => [.int .i64 (v.2.1.2 i)])),(AN 0),((((↑k : Int) + 1) : Int) = (↑(k + 1) : Int)),(AN 3),(NL 1 1),(NL 1 1),(AI v.1.1),(AN v.1.2.1.1),(AP v.1.2.1.1 (fun i => [.int .i64 ((v.1.2.1.2 i).1), .int .i64 ((v.1.2.1.2 i).2.1)])),(AN v.2.1.1),(AP v.2.1.1 (fun i => [.int .i64 (v.2.1.2 i)]))]) := by kernel_rfl
theorem p56f (v : T_Pinned) (k : Nat) :
    pathOb Tryz.prog Tryz.f51 0 [rg 6, .dec true, rm [(9, oc [] (.p (.bool (hasI v.2.1.2 (v.1.2.1.2 k).1 v.2.1.1)))), (10, oc [] (.p (.bool (hasI v.2.1.2 (v.1.2.1.2 k).2.1 v.2.1.1))))] 1, .dec true, rg 1] zf72 (S56b v k) [] 1 [] (.p (.bool false)) =
    some [(NT 0 1),((decide ((↑k : Int) < (↑v.1.2.1.1 : Int))) = true),(NT 0 1),(NT 0 1),(IL 0 (↑k : Int)),(IT (↑k : Int) (↑v.1.2.1.1 : Int)),Con Tryz.prog 84 0 [] [.p (.seq true 1 v.2.1.1 (fun i => [.int .i64 (v.2.1.2 i)])), .p (.int .i64 ((v.1.2.1.2 k).1))] [] (.p (.bool (hasI v.2.1.2 (v.1.2.1.2 k).1 v.2.1.1))),(AG (hasI v.2.1.2 (v.1.2.1.2 k).1 v.2.1.1)),(((hasI v.2.1.2 (v.1.2.1.2 k).1 v.2.1.1) = true) → (NT 0 1)),(AG (hasI v.2.1.2 (v.1.2.1.2 k).1 v.2.1.1)),(AG (hasI v.2.1.2 (v.1.2.1.2 k).1 v.2.1.1)),(((hasI v.2.1.2 (v.1.2.1.2 k).1 v.2.1.1) = true) → (NT 0 1)),(AG (hasI v.2.1.2 (v.1.2.1.2 k).1 v.2.1.1)),(AG (hasI v.2.1.2 (v.1.2.1.2 k).1 v.2.1.1)),(((hasI v.2.1.2 (v.1.2.1.2 k).1 v.2.1.1) = true) → (IL 0 (↑k : Int))),(((hasI v.2.1.2 (v.1.2.1.2 k).1 v.2.1.1) = true) → (IT (↑k : Int) (↑v.1.2.1.1 : Int))),(AG (hasI v.2.1.2 (v.1.2.1.2 k).1 v.2.1.1)),(AG (hasI v.2.1.2 (v.1.2.1.2 k).1 v.2.1.1)),(AG (hasI v.2.1.2 (v.1.2.1.2 k).1 v.2.1.1)),(AG (hasI v.2.1.2 (v.1.2.1.2 k).1 v.2.1.1)),(((hasI v.2.1.2 (v.1.2.1.2 k).1 v.2.1.1) = true) →  Con Tryz.prog 84 0 [] [.p (.seq true 1 v.2.1.1 (fun i => [.int .i64 (v.2.1.2 i)])), .p (.int .i64 ((v.1.2.1.2 k).2.1))] [] (.p (.bool (hasI v.2.1.2 (v.1.2.1.2 k).2.1 v.2.1.1)))),(AG (hasI v.2.1.2 (v.1.2.1.2 k).1 v.2.1.1)),((bif hasI v.2.1.2 (v.1.2.1.2 k).1 v.2.1.1 then hasI v.2.1.2 (v.1.2.1.2 k).2.1 v.2.1.1 else false) = true),(false = false)] := by kernel_rfl
theorem p56g (v : T_Pinned) (k : Nat) :
    pathOb Tryz.prog Tryz.f51 0 [rg 6, .dec false, rm [(2, oc [] (.p (.bool (simpleF v.1))))] 27] zf72 (S56b v k) [] 1 [] (.p (.bool (tailP v))) =
    some [(NT 0 1),((decide ((↑k : Int) < (↑v.1.2.1.1 : Int))) = false),(NT 0 1),Con Tryz.prog 85 0 [] [(zf103 v)] [] (.p (.bool (simpleF v.1))),(AG (simpleF v.1)),(((simpleF v.1) = true) → (NT 0 1)),(AG (simpleF v.1)),(AG (simpleF v.1)),(AG (simpleF v.1)),(AG (bif simpleF v.1 then decide ((↑v.2.1.1 : Int) ≥ 2) else false)),(AG (bif simpleF v.1 then decide ((↑v.2.1.1 : Int) ≥ 2) else false)),(((bif simpleF v.1 then decide ((↑v.2.1.1 : Int) ≥ 2) else false) = true) → (NT 0 1)),(AG (bif simpleF v.1 then decide ((↑v.2.1.1 : Int) ≥ 2) else false)),(AG (bif simpleF v.1 then decide ((↑v.2.1.1 : Int) ≥ 2) else false)),(AG (bif simpleF v.1 then decide ((↑v.2.1.1 : Int) ≥ 2) else false)),(AG (bif bif simpleF v.1 then decide ((↑v.2.1.1 : Int) ≥ 2) else false then decide ((↑v.1.2.1.1 : Int) ≤ 15) else false)),(AG (bif bif simpleF v.1 then decide ((↑v.2.1.1 : Int) ≥ 2) else false then decide ((↑v.1.2.1.1 : Int) ≤ 15) else false)),(((bif bif simpleF v.1 then decide ((↑v.2.1.1 : Int) ≥ 2) else false then decide ((↑v.1.2.1.1 : Int) ≤ 15) else false) = true) → (NT 0 1)),(AG (bif bif simpleF v.1 then decide ((↑v.2.1.1 : Int) ≥ 2) else false then decide ((↑v.1.2.1.1 : Int) ≤ 15) else false)),(AG (bif bif simpleF v.1 then decide ((↑v.2.1.1 : Int) ≥ 2) else false then decide ((↑v.1.2.1.1 : Int) ≤ 15) else false)),(((bif bif simpleF v.1 then decide ((↑v.2.1.1 : Int) ≥ 2) else false then decide ((↑v.1.2.1.1 : Int) ≤ 15) else false) = true) → (NT 0 1)),(AG (bif bif simpleF v.1 then decide ((↑v.2.1.1 : Int) ≥ 2) else false then decide ((↑v.1.2.1.1 : Int) ≤ 15) else false)),(AG (bif bif simpleF v.1 then decide ((↑v.2.1.1 : Int) ≥ 2) else false then decide ((↑v.1.2.1.1 : Int) ≤ 15) else false)),(((bif bif simpleF v.1 then decide ((↑v.2.1.1 : Int) ≥ 2) else false then decide ((↑v.1.2.1.1 : Int) ≤ 15) else false) = true) → (R0 (2 * (↑v.2.1.1 : Int)))),(((bif bif simpleF v.1 then decide ((↑v.2.1.1 : Int) ≥ 2) else false then decide ((↑v.1.2.1.1 : Int) ≤ 15) else false) = true) → (R1 (2 * (↑v.2.1.1 : Int)))),(AG (bif bif simpleF v.1 then decide ((↑v.2.1.1 : Int) ≥ 2) else false then decide ((↑v.1.2.1.1 : Int) ≤ 15) else false)),(AG (bif bif simpleF v.1 then decide ((↑v.2.1.1 : Int) ≥ 2) else false then decide ((↑v.1.2.1.1 : Int) ≤ 15) else false)),(((bif bif simpleF v.1 then decide ((↑v.2.1.1 : Int) ≥ 2) else false then decide ((↑v.1.2.1.1 : Int) ≤ 15) else false) = true) → (R0 ((↑v.1.2.1.1 : Int) + 2 * (↑v.2.1.1 : Int)))),(((bif bif simpleF v.1 then decide ((↑v.2.1.1 : Int) ≥ 2) else false then decide ((↑v.1.2.1.1 : Int) ≤ 15) else false) = true) → (R1 ((↑v.1.2.1.1 : Int) + 2 * (↑v.2.1.1 : Int)))),(AG (bif bif simpleF v.1 then decide ((↑v.2.1.1 : Int) ≥ 2) else false then decide ((↑v.1.2.1.1 : Int) ≤ 15) else false)),(((bif bif simpleF v.1 then decide ((↑v.2.1.1 : Int) ≥ 2) else false then decide ((↑v.1.2.1.1 : Int) ≤ 15) else false) = true) → (R0 ((↑v.1.2.1.1 : Int) + 2 * (↑v.2.1.1 : Int) - 3))),(((bif bif simpleF v.1 then decide ((↑v.2.1.1 : Int) ≥ 2) else false then decide ((↑v.1.2.1.1 : Int) ≤ 15) else false) = true) → (R1 ((↑v.1.2.1.1 : Int) + 2 * (↑v.2.1.1 : Int) - 3))),(AG (bif bif simpleF v.1 then decide ((↑v.2.1.1 : Int) ≥ 2) else false then decide ((↑v.1.2.1.1 : Int) ≤ 15) else false)),(AG (bif bif simpleF v.1 then decide ((↑v.2.1.1 : Int) ≥ 2) else false then decide ((↑v.1.2.1.1 : Int) ≤ 15) else false)),((bif bif bif simpleF v.1 then decide ((↑v.2.1.1 : Int) ≥ 2) else false then decide ((↑v.1.2.1.1 : Int) ≤ 15) else false then decide ((↑v.1.2.1.1 : Int) + 2 * (↑v.2.1.1 : Int) - 3 ≤ 24) else false) = (tailP v))] := by kernel_rfl
theorem goodP_bad (N : Int) (g : Nat → Int) (k : Nat) (h : badP N g k = true) : ∀ n, k < n → goodP N g n = false
  | 0, h' => by omega
  | n + 1, h' => by
    by_cases e : k = n
    · subst e; rw [goodP, h]; simp
    · rw [goodP, goodP_bad N g k h n (by omega)]; simp
theorem freeP_bad (p : T_IntS) (g : Nat → T_Bar) (k : Nat) (h : bothP p (g k) = true) : ∀ n, k < n → freeP p g n = false
  | 0, h' => by omega
  | n + 1, h' => by
    by_cases e : k = n
    · subst e; rw [freeP, h]; simp
    · rw [freeP, freeP_bad p g k h n (by omega)]; simp
theorem con_IsPinned_s (v : T_Pinned) (hs : smS s_Pinned v) : Con Tryz.prog 51 0 [] [pinA v] [] (.p (.bool (pinnedF v))) := by
  refine con_start Tryz.func51 rfl (by kernel_rfl) rfl (fun c hc => ?_)
  have hg : smS s_Graph v.1 := hs.1
  have hnb : v.1.2.1.1 ≤ 1048576 := hs.1.2.1.1
  have hni : v.2.1.1 ≤ 1048576 := hs.2.1.1
  have lp2 : goodP v.1.1 v.2.1.2 v.2.1.1 = true → ∀ m k, k + m = v.1.2.1.1 → freeP v.2.1 v.1.2.1.2 k = true → Run Tryz.prog c 51 zf72 (S56b v k) (Post c [] (.p (.bool (pinnedF v)))) := by
    intro hgood m
    induction m with
    | zero =>
      intro k hk hf
      rw [show pinnedF v = tailP v by rw [pinnedF, hgood, show v.1.2.1.1 = k by omega, hf]; rfl]
      have hd : decide ((k : Int) < (v.1.2.1.1 : Int)) = false := by simp; omega
      refine path_ok mixed Tryz.func51 hc (p56g v k) ?_
      simp only [All]
      repeat' (first | exact trivial | with_reducible apply And.intro)
      all_goals (first | exact aG _ | omega | rfl | (intros; first | assumption | exact trivial | rfl | contradiction | ((repeat' (first | assumption | apply anda | apply notf)); done)) | (exact con_l17Simple v.1 hg))
    | succ m ih =>
      intro k hk hf
      have hd : decide ((k : Int) < (v.1.2.1.1 : Int)) = true := by simp; omega
      cases he : bothP v.2.1 (v.1.2.1.2 k) with
      | true =>
        rw [show pinnedF v = false by rw [pinnedF, freeP_bad v.2.1 v.1.2.1.2 k he v.1.2.1.1 (by omega)]; simp]
        refine path_ok mixed Tryz.func51 hc (p56f v k) ?_
        simp only [All]
        repeat' (first | exact trivial | with_reducible apply And.intro)
        all_goals (first | exact aG _ | omega | rfl | (intros; first | assumption | exact trivial | rfl | contradiction | ((repeat' (first | assumption | apply anda | apply notf)); done)) | (intros; exact con_l2Has v.2.1 _ hni) | (exact he))
      | false =>
        refine piece_ok mixed hc (p56e v k) ?_ (ih (k + 1) (by omega) (by rw [freeP, hf, he]; rfl))
        simp only [All]
        repeat' (first | exact trivial | with_reducible apply And.intro)
        all_goals (first | exact aG _ | exact aP _ _ | omega | rfl | (intros; first | assumption | exact trivial | rfl | contradiction | ((repeat' (first | assumption | apply anda | apply notf)); done)) | (intros; exact con_l2Has v.2.1 _ hni) | (exact he) | (simp [All, aEt]))
  have lp1 : ∀ m k, k + m = v.2.1.1 → goodP v.1.1 v.2.1.2 k = true → Run Tryz.prog c 51 zf94 (S56a v k) (Post c [] (.p (.bool (pinnedF v)))) := by
    intro m
    induction m with
    | zero =>
      intro k hk hgd
      have hd : decide ((k : Int) < (v.2.1.1 : Int)) = false := by simp; omega
      refine piece_ok mixed hc (p56d v k) ?_ (lp2 (by rw [show v.2.1.1 = k by omega]; exact hgd) v.1.2.1.1 0 (by omega) rfl)
      simp only [All]
      repeat' (first | exact trivial | with_reducible apply And.intro)
      all_goals (first | exact aP _ _ | omega | rfl | (intros; first | assumption | exact trivial | rfl | contradiction | ((repeat' (first | assumption | apply anda | apply notf)); done)) | (simp [All, aEt]))
    | succ m ih =>
      intro k hk hgd
      have hkn : k < v.2.1.1 := by omega
      have hd : decide ((k : Int) < (v.2.1.1 : Int)) = true := by simp; omega
      cases he : badP v.1.1 v.2.1.2 k with
      | true =>
        rw [show pinnedF v = false by rw [pinnedF, goodP_bad _ _ k he v.2.1.1 (by omega)]; rfl]
        refine path_ok mixed Tryz.func51 hc (p56c v k) ?_
        simp only [All]
        repeat' (first | exact trivial | with_reducible apply And.intro)
        all_goals (first | exact aG _ | omega | rfl | (intros; first | assumption | exact trivial | rfl | contradiction | ((repeat' (first | assumption | apply anda | apply notf)); done)) | (exact he) | (intro h; have := idx_lt h hkn; omega))
      | false =>
        refine piece_ok mixed hc (p56b v k) ?_ (ih (k + 1) (by omega) (by rw [goodP, hgd, he]; rfl))
        simp only [All]
        repeat' (first | exact trivial | with_reducible apply And.intro)
        all_goals (first | exact aG _ | exact aP _ _ | omega | rfl | (intros; first | assumption | exact trivial | rfl | contradiction | ((repeat' (first | assumption | apply anda | apply notf)); done)) | (exact he) | (intro h; have := idx_lt h hkn; omega) | (simp [All, aEt]))
  refine piece_ok mixed hc (p56a v) ?_ (lp1 v.2.1.1 0 (by omega) rfl)
  simp only [All]
  repeat' (first | exact trivial | with_reducible apply And.intro)
  all_goals (first | exact aP _ _ | omega | rfl | (intros; first | assumption | exact trivial | rfl | contradiction | ((repeat' (first | assumption | apply anda | apply notf)); done)) | (simp [All, aEt]))
end Go.Proofs.YtgdbnnmogddkaaaGreat.Mach
namespace Go.Proofs.YtgdbnnmogddkaaaGreat.Mach
open Go
set_option linter.unusedVariables false
set_option linter.unusedSimpArgs false
def headP (v : T_Pinned) : Bool :=
  bif bif bif bif !isGraphF v.1 then true else dblB v.1.2.1.2 v.1.2.1.1 then true else decide ((v.2.1.1 : Int) < 2) then true else decide ((v.1.2.1.1 : Int) > 15) then true else decide ((v.1.2.1.1 : Int) + 2 * (v.2.1.1 : Int) - 3 > 24)
def S57a (v : T_Pinned) (k : Nat) : St :=
  ⟨[pinA v, .pt 3 0 0 0, .p .any, .pt 2 1 0 0] ++ List.replicate 38 anyA ++ [inL v.2.1, .p (.int .i64 v.2.1.1), .p (.int .i64 k)] ++ List.replicate 43 anyA, [(0, boxP v), (1, boxG v.1)], 2⟩
def S57b (v : T_Pinned) (k : Nat) : St :=
  ⟨[pinA v, .pt 3 0 0 0, .p .any, .p .any] ++ List.replicate 65 anyA ++ [graphL v.1.2.1, .p (.int .i64 v.1.2.1.1), .p (.int .i64 k)] ++ List.replicate 16 anyA, [(0, boxP v)], 1⟩
theorem p57z (v : T_Pinned) :
    pathOb Tryz.prog Tryz.f63 0 [rg 2, rg 4, rm [(1, oc [] (.p (.bool (isGraphF v.1)))), (3, oc [] (.p (.bool (dblB v.1.2.1.2 v.1.2.1.1))))] 25, .dec true, rg 1] [.code (bodyOf Tryz.f63)] (start Tryz.f63 [] 0 [pinA v]) [] 1 [] (.p (.bool false)) =
    some [(NT 0 1),(NT 0 1),((true = true) →  (AN 1)),(NT 0 1),Con Tryz.prog 96 0 [] [(zf103 v)] [] (.p (.bool (isGraphF v.1))),(((!!isGraphF v.1) = true) → (NT 0 1)),(AG (!!isGraphF v.1)),(((!!isGraphF v.1) = true) →  Con Tryz.prog 97 0 [] [(zf103 v)] [] (.p (.bool (dblB v.1.2.1.2 v.1.2.1.1)))),(((!isGraphF v.1) = false) →  ((!!isGraphF v.1) = true)),(AG (!bif !isGraphF v.1 then true else dblB v.1.2.1.2 v.1.2.1.1)),(((!bif !isGraphF v.1 then true else dblB v.1.2.1.2 v.1.2.1.1) = true) → (NT 0 1)),(AG (!bif !isGraphF v.1 then true else dblB v.1.2.1.2 v.1.2.1.1)),(AG (!bif !isGraphF v.1 then true else dblB v.1.2.1.2 v.1.2.1.1)),(((bif !isGraphF v.1 then true else dblB v.1.2.1.2 v.1.2.1.1) = false) →  ((!bif !isGraphF v.1 then true else dblB v.1.2.1.2 v.1.2.1.1) = true)),(AG (!bif bif !isGraphF v.1 then true else dblB v.1.2.1.2 v.1.2.1.1 then true else decide ((↑v.2.1.1 : Int) < 2))),(((!bif bif !isGraphF v.1 then true else dblB v.1.2.1.2 v.1.2.1.1 then true else decide ((↑v.2.1.1 : Int) < 2)) = true) → (NT 0 1)),(AG (!bif bif !isGraphF v.1 then true else dblB v.1.2.1.2 v.1.2.1.1 then true else decide ((↑v.2.1.1 : Int) < 2))),(AG (!bif bif !isGraphF v.1 then true else dblB v.1.2.1.2 v.1.2.1.1 then true else decide ((↑v.2.1.1 : Int) < 2))),(((bif bif !isGraphF v.1 then true else dblB v.1.2.1.2 v.1.2.1.1 then true else decide ((↑v.2.1.1 : Int) < 2)) = false) →  ((!bif bif !isGraphF v.1 then true else dblB v.1.2.1.2 v.1.2.1.1 then true else decide ((↑v.2.1.1 : Int) < 2)) = true)),(AG (!bif bif bif !isGraphF v.1 then true else dblB v.1.2.1.2 v.1.2.1.1 then true else decide ((↑v.2.1.1 : Int) < 2) then true else decide ((↑v.1.2.1.1 : Int) > 15))),(((!bif bif bif !isGraphF v.1 then true else dblB v.1.2.1.2 v.1.2.1.1 then true else decide ((↑v.2.1.1 : Int) < 2) then true else decide ((↑v.1.2.1.1 : Int) > 15)) = true) → (NT 0 1)),(AG (!bif bif bif !isGraphF v.1 then true else dblB v.1.2.1.2 v.1.2.1.1 then true else decide ((↑v.2.1.1 : Int) < 2) then true else decide ((↑v.1.2.1.1 : Int) > 15))),(AG (!bif bif bif !isGraphF v.1 then true else dblB v.1.2.1.2 v.1.2.1.1 then true else decide ((↑v.2.1.1 : Int) < 2) then true else decide ((↑v.1.2.1.1 : Int) > 15))),(((!bif bif bif !isGraphF v.1 then true else dblB v.1.2.1.2 v.1.2.1.1 then true else decide ((↑v.2.1.1 : Int) < 2) then true else decide ((↑v.1.2.1.1 : Int) > 15)) = true) → (NT 0 1)),(AG (!bif bif bif !isGraphF v.1 then true else dblB v.1.2.1.2 v.1.2.1.1 then true else decide ((↑v.2.1.1 : Int) < 2) then true else decide ((↑v.1.2.1.1 : Int) > 15))),(AG (!bif bif bif !isGraphF v.1 then true else dblB v.1.2.1.2 v.1.2.1.1 then true else decide ((↑v.2.1.1 : Int) < 2) then true else decide ((↑v.1.2.1.1 : Int) > 15))),(((!bif bif bif !isGraphF v.1 then true else dblB v.1.2.1.2 v.1.2.1.1 then true else decide ((↑v.2.1.1 : Int) < 2) then true else decide ((↑v.1.2.1.1 : Int) > 15)) = true) → (R0 (2 * (↑v.2.1.1 : Int)))),(((!bif bif bif !isGraphF v.1 then true else dblB v.1.2.1.2 v.1.2.1.1 then true else decide ((↑v.2.1.1 : Int) < 2) then true else decide ((↑v.1.2.1.1 : Int) > 15)) = true) → (R1 (2 * (↑v.2.1.1 : Int)))),(AG (!bif bif bif !isGraphF v.1 then true else dblB v.1.2.1.2 v.1.2.1.1 then true else decide ((↑v.2.1.1 : Int) < 2) then true else decide ((↑v.1.2.1.1 : Int) > 15))),(AG (!bif bif bif !isGraphF v.1 then true else dblB v.1.2.1.2 v.1.2.1.1 then true else decide ((↑v.2.1.1 : Int) < 2) then true else decide ((↑v.1.2.1.1 : Int) > 15))),(((!bif bif bif !isGraphF v.1 then true else dblB v.1.2.1.2 v.1.2.1.1 then true else decide ((↑v.2.1.1 : Int) < 2) then true else decide ((↑v.1.2.1.1 : Int) > 15)) = true) → (R0 ((↑v.1.2.1.1 : Int) + 2 * (↑v.2.1.1 : Int)))),(((!bif bif bif !isGraphF v.1 then true else dblB v.1.2.1.2 v.1.2.1.1 then true else decide ((↑v.2.1.1 : Int) < 2) then true else decide ((↑v.1.2.1.1 : Int) > 15)) = true) → (R1 ((↑v.1.2.1.1 : Int) + 2 * (↑v.2.1.1 : Int)))),(AG (!bif bif bif !isGraphF v.1 then true else dblB v.1.2.1.2 v.1.2.1.1 then true else decide ((↑v.2.1.1 : Int) < 2) then true else decide ((↑v.1.2.1.1 : Int) > 15))),(((!bif bif bif !isGraphF v.1 then true else dblB v.1.2.1.2 v.1.2.1.1 then true else decide ((↑v.2.1.1 : Int) < 2) then true else decide ((↑v.1.2.1.1 : Int) > 15)) = true) → (R0 ((↑v.1.2.1.1 : Int) + 2 * (↑v.2.1.1 : Int) - 3))),(((!bif bif bif !isGraphF v.1 then true else dblB v.1.2.1.2 v.1.2.1.1 then true else decide ((↑v.2.1.1 : Int) < 2) then true else decide ((↑v.1.2.1.1 : Int) > 15)) = true) → (R1 ((↑v.1.2.1.1 : Int) + 2 * (↑v.2.1.1 : Int) - 3))),(AG (!bif bif bif !isGraphF v.1 then true else dblB v.1.2.1.2 v.1.2.1.1 then true else decide ((↑v.2.1.1 : Int) < 2) then true else decide ((↑v.1.2.1.1 : Int) > 15))),(((bif bif bif !isGraphF v.1 then true else dblB v.1.2.1.2 v.1.2.1.1 then true else decide ((↑v.2.1.1 : Int) < 2) then true else decide ((↑v.1.2.1.1 : Int) > 15)) = false) →  ((!bif bif bif !isGraphF v.1 then true else dblB v.1.2.1.2 v.1.2.1.1 then true else decide ((↑v.2.1.1 : Int) < 2) then true else decide ((↑v.1.2.1.1 : Int) > 15)) = true)),((bif bif bif bif !isGraphF v.1 then true else dblB v.1.2.1.2 v.1.2.1.1 then true else decide ((↑v.2.1.1 : Int) < 2) then true else decide ((↑v.1.2.1.1 : Int) > 15) then true else decide ((↑v.1.2.1.1 : Int) + 2 * (↑v.2.1.1 : Int) - 3 > 24)) = true),(false = false)] := by kernel_rfl
theorem p57a (v : T_Pinned) :
    pieceOb Tryz.prog 0 [rg 2, rg 4, rm [(1, oc [] (.p (.bool (isGraphF v.1)))), (3, oc [] (.p (.bool (dblB v.1.2.1.2 v.1.2.1.1))))] 25, .dec false, rg 4, .head] [.code (bodyOf Tryz.f63)] (start Tryz.f63 [] 0 [pinA v]) [0, 128] 1 (S57a v 0) =
    some (zf49, [(NT 0 1),(NT 0 1),((true = true) →  (AN 1)),(NT 0 1),Con Tryz.prog 96 0 [] [(zf103 v)] [] (.p (.bool (isGraphF v.1))),(((!!isGraphF v.1) = true) → (NT 0 1)),(AG (!!isGraphF v.1)),(((!!isGraphF v.1) = true) →  Con Tryz.prog 97 0 [] [(zf103 v)] [] (.p (.bool (dblB v.1.2.1.2 v.1.2.1.1)))),(((!isGraphF v.1) = false) →  ((!!isGraphF v.1) = true)),(AG (!bif !isGraphF v.1 then true else dblB v.1.2.1.2 v.1.2.1.1)),(((!bif !isGraphF v.1 then true else dblB v.1.2.1.2 v.1.2.1.1) = true) → (NT 0 1)),(AG (!bif !isGraphF v.1 then true else dblB v.1.2.1.2 v.1.2.1.1)),(AG (!bif !isGraphF v.1 then true else dblB v.1.2.1.2 v.1.2.1.1)),(((bif !isGraphF v.1 then true else dblB v.1.2.1.2 v.1.2.1.1) = false) →  ((!bif !isGraphF v.1 then true else dblB v.1.2.1.2 v.1.2.1.1) = true)),(AG (!bif bif !isGraphF v.1 then true else dblB v.1.2.1.2 v.1.2.1.1 then true else decide ((↑v.2.1.1 : Int) < 2))),(((!bif bif !isGraphF v.1 then true else dblB v.1.2.1.2 v.1.2.1.1 then true else decide ((↑v.2.1.1 : Int) < 2)) = true) → (NT 0 1)),(AG (!bif bif !isGraphF v.1 then true else dblB v.1.2.1.2 v.1.2.1.1 then true else decide ((↑v.2.1.1 : Int) < 2))),(AG (!bif bif !isGraphF v.1 then true else dblB v.1.2.1.2 v.1.2.1.1 then true else decide ((↑v.2.1.1 : Int) < 2))),(((bif bif !isGraphF v.1 then true else dblB v.1.2.1.2 v.1.2.1.1 then true else decide ((↑v.2.1.1 : Int) < 2)) = false) →  ((!bif bif !isGraphF v.1 then true else dblB v.1.2.1.2 v.1.2.1.1 then true else decide ((↑v.2.1.1 : Int) < 2)) = true)),(AG (!bif bif bif !isGraphF v.1 then true else dblB v.1.2.1.2 v.1.2.1.1 then true else decide ((↑v.2.1.1 : Int) < 2) then true else decide ((↑v.1.2.1.1 : Int) > 15))),(((!bif bif bif !isGraphF v.1 then true else dblB v.1.2.1.2 v.1.2.1.1 then true else decide ((↑v.2.1.1 : Int) < 2) then true else decide ((↑v.1.2.1.1 : Int) > 15)) = true) → (NT 0 1)),(AG (!bif bif bif !isGraphF v.1 then true else dblB v.1.2.1.2 v.1.2.1.1 then true else decide ((↑v.2.1.1 : Int) < 2) then true else decide ((↑v.1.2.1.1 : Int) > 15))),(AG (!bif bif bif !isGraphF v.1 then true else dblB v.1.2.1.2 v.1.2.1.1 then true else decide ((↑v.2.1.1 : Int) < 2) then true else decide ((↑v.1.2.1.1 : Int) > 15))),(((!bif bif bif !isGraphF v.1 then true else dblB v.1.2.1.2 v.1.2.1.1 then true else decide ((↑v.2.1.1 : Int) < 2) then true else decide ((↑v.1.2.1.1 : Int) > 15)) = true) → (NT 0 1)),(AG (!bif bif bif !isGraphF v.1 then true else dblB v.1.2.1.2 v.1.2.1.1 then true else decide ((↑v.2.1.1 : Int) < 2) then true else decide ((↑v.1.2.1.1 : Int) > 15))),(AG (!bif bif bif !isGraphF v.1 then true else dblB v.1.2.1.2 v.1.2.1.1 then true else decide ((↑v.2.1.1 : Int) < 2) then true else decide ((↑v.1.2.1.1 : Int) > 15))),(((!bif bif bif !isGraphF v.1 then true else dblB v.1.2.1.2 v.1.2.1.1 then true else decide ((↑v.2.1.1 : Int) < 2) then true else decide ((↑v.1.2.1.1 : Int) > 15)) = true) → (R0 (2 * (↑v.2.1.1 : Int)))),(((!bif bif bif !isGraphF v.1 then true else dblB v.1.2.1.2 v.1.2.1.1 then true else decide ((↑v.2.1.1 : Int) < 2) then true else decide ((↑v.1.2.1.1 : Int) > 15)) = true) → (R1 (2 * (↑v.2.1.1 : Int)))),(AG (!bif bif bif !isGraphF v.1 then true else dblB v.1.2.1.2 v.1.2.1.1 then true else decide ((↑v.2.1.1 : Int) < 2) then true else decide ((↑v.1.2.1.1 : Int) > 15))),(AG (!bif bif bif !isGraphF v.1 then true else dblB v.1.2.1.2 v.1.2.1.1 then true else decide ((↑v.2.1.1 : Int) < 2) then true else decide ((↑v.1.2.1.1 : Int) > 15))),(((!bif bif bif !isGraphF v.1 then true else dblB v.1.2.1.2 v.1.2.1.1 then true else decide ((↑v.2.1.1 : Int) < 2) then true else decide ((↑v.1.2.1.1 : Int) > 15)) = true) → (R0 ((↑v.1.2.1.1 : Int) + 2 * (↑v.2.1.1 : Int)))),(((!bif bif bif !isGraphF v.1 then true else dblB v.1.2.1.2 v.1.2.1.1 then true else decide ((↑v.2.1.1 : Int) < 2) then true else decide ((↑v.1.2.1.1 : Int) > 15)) = true) → (R1 ((↑v.1.2.1.1 : Int) + 2 * (↑v.2.1.1 : Int)))),(AG (!bif bif bif !isGraphF v.1 then true else dblB v.1.2.1.2 v.1.2.1.1 then true else decide ((↑v.2.1.1 : Int) < 2) then true else decide ((↑v.1.2.1.1 : Int) > 15))),(((!bif bif bif !isGraphF v.1 then true else dblB v.1.2.1.2 v.1.2.1.1 then true else decide ((↑v.2.1.1 : Int) < 2) then true else decide ((↑v.1.2.1.1 : Int) > 15)) = true) → (R0 ((↑v.1.2.1.1 : Int) + 2 * (↑v.2.1.1 : Int) - 3))),(((!bif bif bif !isGraphF v.1 then true else dblB v.1.2.1.2 v.1.2.1.1 then true else decide ((↑v.2.1.1 : Int) < 2) then true else decide ((↑v.1.2.1.1 : Int) > 15)) = true) → (R1 ((↑v.1.2.1.1 : Int) + 2 * (↑v.2.1.1 : Int) - 3))),(AG (!bif bif bif !isGraphF v.1 then true else dblB v.1.2.1.2 v.1.2.1.1 then true else decide ((↑v.2.1.1 : Int) < 2) then true else decide ((↑v.1.2.1.1 : Int) > 15))),(((bif bif bif !isGraphF v.1 then true else dblB v.1.2.1.2 v.1.2.1.1 then true else decide ((↑v.2.1.1 : Int) < 2) then true else decide ((↑v.1.2.1.1 : Int) > 15)) = false) →  ((!bif bif bif !isGraphF v.1 then true else dblB v.1.2.1.2 v.1.2.1.1 then true else decide ((↑v.2.1.1 : Int) < 2) then true else decide ((↑v.1.2.1.1 : Int) > 15)) = true)),((bif bif bif bif !isGraphF v.1 then true else dblB v.1.2.1.2 v.1.2.1.1 then true else decide ((↑v.2.1.1 : Int) < 2) then true else decide ((↑v.1.2.1.1 : Int) > 15) then true else decide ((↑v.1.2.1.1 : Int) + 2 * (↑v.2.1.1 : Int) - 3 > 24)) = false),(NT 0 1),(AI v.1.1),(AN v.1.2.1.1),(AP v.1.2.1.1 (fun i => [.int .i64 ((v.1.2.1.2 i).1), .int .i64 ((v.1.2.1.2 i).2.1)])),(AN v.2.1.1),(AP v.2.1.1 (fun i => [.int .i64 (v.2.1.2 i)])),(AN 0),(AN 0),(AN v.2.1.1),(AP v.2.1.1 (fun i => [.int .i64 (v.2.1.2 i)])),(AI ((↑v.2.1.1 : Int))),((0 : Int) = (↑0 : Int)),((([AV.p (PV.int IntKind.i64 v.1.1), graphL v.1.2.1, inL v.2.1].length) : Nat) = 3),(NL 1 1),(NL 1 1),(AI v.1.1),(AN v.1.2.1.1),(AP v.1.2.1.1 (fun i => [.int .i64 ((v.1.2.1.2 i).1), .int .i64 ((v.1.2.1.2 i).2.1)])),(AN v.2.1.1),(AP v.2.1.1 (fun i => [.int .i64 (v.2.1.2 i)])),((((List.map (fun v => AV.p (absV v)) [Value.int IntKind.i64 0, Value.slice none 0 0]).length) : Nat) = 2),(NL 1 1),(NL 1 1),(AI v.1.1),(AN v.1.2.1.1),(AP v.1.2.1.1 (fun i => [.int .i64 ((v.1.2.1.2 i).1), .int .i64 ((v.1.2.1.2 i).2.1)]))]) := by kernel_rfl
theorem p57b (v : T_Pinned) (k : Nat) :
    pieceOb Tryz.prog 0 [rg 1, .dec true, rg 5, rm [(2, oc [] (.p (.bool (inB (v.2.1.2 k) 0 (v.1.1 - 1)))))] 15, .dec false, rg 2, .head] zf49 (S57a v k) [0, 1] 1 (S57a v (k + 1)) =
    some (zf49, [((decide ((↑k : Int) < (↑v.2.1.1 : Int))) = true),(IL 0 (↑k : Int)),(IT (↑k : Int) (↑v.2.1.1 : Int)),(NT 0 1),Con Tryz.prog 98 0 [] [(zf103 v), .p (.int .i64 (v.2.1.2 k))] [] (.p (.bool (inB (v.2.1.2 k) 0 (v.1.1 - 1)))),(AG (!!inB (v.2.1.2 k) 0 (v.1.1 - 1))),(AG (!!inB (v.2.1.2 k) 0 (v.1.1 - 1))),(AG (!!inB (v.2.1.2 k) 0 (v.1.1 - 1) && decide ((↑k : Int) > 0))),(((!!inB (v.2.1.2 k) 0 (v.1.1 - 1) && decide ((↑k : Int) > 0)) = true) → (NT 0 1)),(AG (!!inB (v.2.1.2 k) 0 (v.1.1 - 1) && decide ((↑k : Int) > 0))),(((!!inB (v.2.1.2 k) 0 (v.1.1 - 1) && decide ((↑k : Int) > 0)) = true) → (R0 ((↑k : Int) - 1))),(((!!inB (v.2.1.2 k) 0 (v.1.1 - 1) && decide ((↑k : Int) > 0)) = true) → (R1 ((↑k : Int) - 1))),(AG (!!inB (v.2.1.2 k) 0 (v.1.1 - 1) && decide ((↑k : Int) > 0))),(AG (!!inB (v.2.1.2 k) 0 (v.1.1 - 1) && decide ((↑k : Int) > 0))),(((!!inB (v.2.1.2 k) 0 (v.1.1 - 1) && decide ((↑k : Int) > 0)) = true) → (IL 0 ((↑k : Int) - 1))),(((!!inB (v.2.1.2 k) 0 (v.1.1 - 1) && decide ((↑k : Int) > 0)) = true) → (IT ((↑k : Int) - 1) (↑v.2.1.1 : Int))),(AG (!!inB (v.2.1.2 k) 0 (v.1.1 - 1) && decide ((↑k : Int) > 0))),(AG (!!inB (v.2.1.2 k) 0 (v.1.1 - 1) && decide ((↑k : Int) > 0))),(AG (!!inB (v.2.1.2 k) 0 (v.1.1 - 1) && decide ((↑k : Int) > 0))),(AG (!!inB (v.2.1.2 k) 0 (v.1.1 - 1))),(((!!inB (v.2.1.2 k) 0 (v.1.1 - 1)) = true) → (((decide ((↑k : Int) > 0)) = true) →  ((!!inB (v.2.1.2 k) 0 (v.1.1 - 1) && decide ((↑k : Int) > 0)) = true))),(((!inB (v.2.1.2 k) 0 (v.1.1 - 1)) = false) →  ((!!inB (v.2.1.2 k) 0 (v.1.1 - 1)) = true)),((bif !inB (v.2.1.2 k) 0 (v.1.1 - 1) then true else bif decide ((↑k : Int) > 0) then decide (v.2.1.2 ((↑k : Int) - 1).toNat ≥ v.2.1.2 (↑k : Int).toNat) else false) = false),(R0 ((↑k : Int) + 1)),(R1 ((↑k : Int) + 1)),(AI v.1.1),(AN v.1.2.1.1),(AP v.1.2.1.1 (fun i => [.int .i64 ((v.1.2.1.2 i).1), .int .i64 ((v.1.2.1.2 i).2.1)])),(AN v.2.1.1),(AP v.2.1.1 (fun i => [.int .i64 (v.2.1.2 i)])),(AN 0),(AN 0),(AN v.2.1.1),(AP v.2.1.1 (fun i => [.int .i64 (v.2.1.2 i)])),(AI ((↑v.2.1.1 : Int))),((((↑k : Int) + 1) : Int) = (↑(k + 1) : Int)),(AN 3),(NL 1 1),(NL 1 1),(AI v.1.1),(AN v.1.2.1.1),(AP v.1.2.1.1 (fun i => [.int .i64 ((v.1.2.1.2 i).1), .int .i64 ((v.1.2.1.2 i).2.1)])),(AN v.2.1.1),(AP v.2.1.1 (fun i => [.int .i64 (v.2.1.2 i)])),(AN 2),(NL 1 1),(NL 1 1),(AI v.1.1),(AN v.1.2.1.1),(AP v.1.2.1.1 (fun i => [.int .i64 ((v.1.2.1.2 i).1), .int .i64 ((v.1.2.1.2 i).2.1)]))]) := by kernel_rfl
theorem p57c (v : T_Pinned) (k : Nat) :
    pathOb Tryz.prog Tryz.f63 0 [rg 1, .dec true, rg 5, rm [(2, oc [] (.p (.bool (inB (v.2.1.2 k) 0 (v.1.1 - 1)))))] 15, .dec true, rg 1] zf49 (S57a v k) [] 1 [] (.p (.bool false)) =
    some [((decide ((↑k : Int) < (↑v.2.1.1 : Int))) = true),(IL 0 (↑k : Int)),(IT (↑k : Int) (↑v.2.1.1 : Int)),(NT 0 1),Con Tryz.prog 98 0 [] [(zf103 v), .p (.int .i64 (v.2.1.2 k))] [] (.p (.bool (inB (v.2.1.2 k) 0 (v.1.1 - 1)))),(AG (!!inB (v.2.1.2 k) 0 (v.1.1 - 1))),(AG (!!inB (v.2.1.2 k) 0 (v.1.1 - 1))),(AG (!!inB (v.2.1.2 k) 0 (v.1.1 - 1) && decide ((↑k : Int) > 0))),(((!!inB (v.2.1.2 k) 0 (v.1.1 - 1) && decide ((↑k : Int) > 0)) = true) → (NT 0 1)),(AG (!!inB (v.2.1.2 k) 0 (v.1.1 - 1) && decide ((↑k : Int) > 0))),(((!!inB (v.2.1.2 k) 0 (v.1.1 - 1) && decide ((↑k : Int) > 0)) = true) → (R0 ((↑k : Int) - 1))),(((!!inB (v.2.1.2 k) 0 (v.1.1 - 1) && decide ((↑k : Int) > 0)) = true) → (R1 ((↑k : Int) - 1))),(AG (!!inB (v.2.1.2 k) 0 (v.1.1 - 1) && decide ((↑k : Int) > 0))),(AG (!!inB (v.2.1.2 k) 0 (v.1.1 - 1) && decide ((↑k : Int) > 0))),(((!!inB (v.2.1.2 k) 0 (v.1.1 - 1) && decide ((↑k : Int) > 0)) = true) → (IL 0 ((↑k : Int) - 1))),(((!!inB (v.2.1.2 k) 0 (v.1.1 - 1) && decide ((↑k : Int) > 0)) = true) → (IT ((↑k : Int) - 1) (↑v.2.1.1 : Int))),(AG (!!inB (v.2.1.2 k) 0 (v.1.1 - 1) && decide ((↑k : Int) > 0))),(AG (!!inB (v.2.1.2 k) 0 (v.1.1 - 1) && decide ((↑k : Int) > 0))),(AG (!!inB (v.2.1.2 k) 0 (v.1.1 - 1) && decide ((↑k : Int) > 0))),(AG (!!inB (v.2.1.2 k) 0 (v.1.1 - 1))),(((!!inB (v.2.1.2 k) 0 (v.1.1 - 1)) = true) → (((decide ((↑k : Int) > 0)) = true) →  ((!!inB (v.2.1.2 k) 0 (v.1.1 - 1) && decide ((↑k : Int) > 0)) = true))),(((!inB (v.2.1.2 k) 0 (v.1.1 - 1)) = false) →  ((!!inB (v.2.1.2 k) 0 (v.1.1 - 1)) = true)),((bif !inB (v.2.1.2 k) 0 (v.1.1 - 1) then true else bif decide ((↑k : Int) > 0) then decide (v.2.1.2 ((↑k : Int) - 1).toNat ≥ v.2.1.2 (↑k : Int).toNat) else false) = true),(false = false)] := by kernel_rfl
theorem p57d (v : T_Pinned) (k : Nat) :
    pieceOb Tryz.prog 0 [rg 1, .dec false, rg 4, .head] zf49 (S57a v k) [0] 1 (S57b v 0) =
    some (zf37, [((decide ((↑k : Int) < (↑v.2.1.1 : Int))) = false),(NT 0 1),(AI v.1.1),(AN v.1.2.1.1),(AP v.1.2.1.1 (fun i => [.int .i64 ((v.1.2.1.2 i).1), .int .i64 ((v.1.2.1.2 i).2.1)])),(AN v.2.1.1),(AP v.2.1.1 (fun i => [.int .i64 (v.2.1.2 i)])),(AN 0),(AN v.1.2.1.1),(AP v.1.2.1.1 (fun i => [.int .i64 ((v.1.2.1.2 i).1), .int .i64 ((v.1.2.1.2 i).2.1)])),(AI ((↑v.1.2.1.1 : Int))),((0 : Int) = (↑0 : Int)),(AN 3),(NL 1 1),(NL 1 1),(AI v.1.1),(AN v.1.2.1.1),(AP v.1.2.1.1 (fun i => [.int .i64 ((v.1.2.1.2 i).1), .int .i64 ((v.1.2.1.2 i).2.1)])),(AN v.2.1.1),(AP v.2.1.1 (fun i => [.int .i64 (v.2.1.2 i)]))]) := by kernel_rfl
theorem p57e (v : T_Pinned) (k : Nat) :
    pieceOb Tryz.prog 0 [rg 1, .dec true, rg 4, rm [(4, oc [] (.p (.bool (hasI v.2.1.2 (v.1.2.1.2 k).1 v.2.1.1)))), (5, oc [] (.p (.bool (hasI v.2.1.2 (v.1.2.1.2 k).2.1 v.2.1.1))))] 1, .dec false, rg 2, .head] zf37 (S57b v k) [0] 1 (S57b v (k + 1)) =
    some (zf37, [((decide ((↑k : Int) < (↑v.1.2.1.1 : Int))) = true),(IL 0 (↑k : Int)),(IT (↑k : Int) (↑v.1.2.1.1 : Int)),(NT 0 1),((true = true) →  (AN 1)),(NT 0 1),(NT 0 1),Con Tryz.prog 99 0 [] [.p (.seq true 1 v.2.1.1 (fun i => [.int .i64 (v.2.1.2 i)])), .p (.int .i64 ((v.1.2.1.2 k).1))] [] (.p (.bool (hasI v.2.1.2 (v.1.2.1.2 k).1 v.2.1.1))),(AG (hasI v.2.1.2 (v.1.2.1.2 k).1 v.2.1.1)),(((hasI v.2.1.2 (v.1.2.1.2 k).1 v.2.1.1) = true) → (NT 0 1)),(AG (hasI v.2.1.2 (v.1.2.1.2 k).1 v.2.1.1)),(((hasI v.2.1.2 (v.1.2.1.2 k).1 v.2.1.1) = true) → (NT 0 1)),(AG (hasI v.2.1.2 (v.1.2.1.2 k).1 v.2.1.1)),(AG (hasI v.2.1.2 (v.1.2.1.2 k).1 v.2.1.1)),(((hasI v.2.1.2 (v.1.2.1.2 k).1 v.2.1.1) = true) →  Con Tryz.prog 99 0 [] [.p (.seq true 1 v.2.1.1 (fun i => [.int .i64 (v.2.1.2 i)])), .p (.int .i64 ((v.1.2.1.2 k).2.1))] [] (.p (.bool (hasI v.2.1.2 (v.1.2.1.2 k).2.1 v.2.1.1)))),(AG (hasI v.2.1.2 (v.1.2.1.2 k).1 v.2.1.1)),((bif hasI v.2.1.2 (v.1.2.1.2 k).1 v.2.1.1 then hasI v.2.1.2 (v.1.2.1.2 k).2.1 v.2.1.1 else false) = false),(R0 ((↑k : Int) + 1)),(R1 ((↑k : Int) + 1)),(AI v.1.1),(AN v.1.2.1.1),(AP v.1.2.1.1 (fun i => [.int .i64 ((v.1.2.1.2 i).1), .int .i64 ((v.1.2.1.2 i).2.1)])),(AN v.2.1.1),(AP v.2.1.1 (fun i => [.int .i64 (v.2.1.2 i)])),(AN 0),(AN v.1.2.1.1),(AP v.1.2.1.1 (fun i => [.int .i64 ((v.1.2.1.2 i).1), .int .i64 ((v.1.2.1.2 i).2.1)])),(AI ((↑v.1.2.1.1 : Int))),((((↑k : Int) + 1) : Int) = (↑(k + 1) : Int)),(AN 3),(NL 1 1),(NL 1 1),(AI v.1.1),(AN v.1.2.1.1),(AP v.1.2.1.1 (fun i => [.int .i64 ((v.1.2.1.2 i).1), .int .i64 ((v.1.2.1.2 i).2.1)])),(AN v.2.1.1),(AP v.2.1.1 (fun i => [.int .i64 (v.2.1.2 i)]))]) := by kernel_rfl
theorem p57f (v : T_Pinned) (k : Nat) :
    pathOb Tryz.prog Tryz.f63 0 [rg 1, .dec true, rg 4, rm [(4, oc [] (.p (.bool (hasI v.2.1.2 (v.1.2.1.2 k).1 v.2.1.1)))), (5, oc [] (.p (.bool (hasI v.2.1.2 (v.1.2.1.2 k).2.1 v.2.1.1))))] 1, .dec true, rg 1] zf37 (S57b v k) [] 1 [] (.p (.bool false)) =
    some [((decide ((↑k : Int) < (↑v.1.2.1.1 : Int))) = true),(IL 0 (↑k : Int)),(IT (↑k : Int) (↑v.1.2.1.1 : Int)),(NT 0 1),((true = true) →  (AN 1)),(NT 0 1),(NT 0 1),Con Tryz.prog 99 0 [] [.p (.seq true 1 v.2.1.1 (fun i => [.int .i64 (v.2.1.2 i)])), .p (.int .i64 ((v.1.2.1.2 k).1))] [] (.p (.bool (hasI v.2.1.2 (v.1.2.1.2 k).1 v.2.1.1))),(AG (hasI v.2.1.2 (v.1.2.1.2 k).1 v.2.1.1)),(((hasI v.2.1.2 (v.1.2.1.2 k).1 v.2.1.1) = true) → (NT 0 1)),(AG (hasI v.2.1.2 (v.1.2.1.2 k).1 v.2.1.1)),(((hasI v.2.1.2 (v.1.2.1.2 k).1 v.2.1.1) = true) → (NT 0 1)),(AG (hasI v.2.1.2 (v.1.2.1.2 k).1 v.2.1.1)),(AG (hasI v.2.1.2 (v.1.2.1.2 k).1 v.2.1.1)),(((hasI v.2.1.2 (v.1.2.1.2 k).1 v.2.1.1) = true) →  Con Tryz.prog 99 0 [] [.p (.seq true 1 v.2.1.1 (fun i => [.int .i64 (v.2.1.2 i)])), .p (.int .i64 ((v.1.2.1.2 k).2.1))] [] (.p (.bool (hasI v.2.1.2 (v.1.2.1.2 k).2.1 v.2.1.1)))),(AG (hasI v.2.1.2 (v.1.2.1.2 k).1 v.2.1.1)),((bif hasI v.2.1.2 (v.1.2.1.2 k).1 v.2.1.1 then hasI v.2.1.2 (v.1.2.1.2 k).2.1 v.2.1.1 else false) = true),(false = false)] := by kernel_rfl
theorem p57g (v : T_Pinned) (k : Nat) :
    pathOb Tryz.prog Tryz.f63 0 [rg 1, .dec false, rg 1] zf37 (S57b v k) [] 1 [] (.p (.bool true)) =
    some [((decide ((↑k : Int) < (↑v.1.2.1.1 : Int))) = false),(true = true)] := by kernel_rfl
theorem dge (a b : Int) : decide (a ≥ b) = !decide (a < b) := by
  by_cases h : a < b
  · have : ¬ (a ≥ b) := by omega
    rw [decide_eq_true h, decide_eq_false this]; rfl
  · have : a ≥ b := by omega
    rw [decide_eq_false h, decide_eq_true this]; rfl
theorem dle (a b : Int) : decide (a ≤ b) = !decide (a > b) := dge b a
theorem headP_tail (v : T_Pinned) : headP v = !tailP v := by
  unfold headP tailP simpleF
  rw [dge, dle, dle]
  generalize decide ((v.2.1.1 : Int) < 2) = x
  generalize decide ((v.1.2.1.1 : Int) > 15) = y
  generalize decide ((v.1.2.1.1 : Int) + 2 * (v.2.1.1 : Int) - 3 > 24) = z
  cases isGraphF v.1 <;> cases dblB v.1.2.1.2 v.1.2.1.1 <;> cases x <;> cases y <;> cases z <;> rfl
theorem bad_in (N : Int) (g : Nat → Int) (k : Nat) {b : Bool} (h : badP N g k = b) :
    (bif !inB (g k) 0 (N - 1) then true else bif decide ((k : Int) > 0) then decide (g ((k : Int) - 1).toNat ≥ g k) else false) = b := by
  rw [← h]
  unfold badP inB
  by_cases h1 : g k < 0
  · have h2 : ¬ (0 ≤ g k) := by omega
    simp [h1, h2]
  · have h2 : 0 ≤ g k := by omega
    by_cases h3 : g k ≥ N
    · have h4 : ¬ (g k ≤ N - 1) := by omega
      simp [h1, h2, h3, h4]
    · have h4 : g k ≤ N - 1 := by omega
      simp [h1, h2, h3, h4]
theorem con_IsPinned_i (v : T_Pinned) (hs : smS s_Pinned v) : Con Tryz.prog 63 0 [] [pinA v] [] (.p (.bool (pinnedF v))) := by
  refine con_start Tryz.func63 rfl (by kernel_rfl) rfl (fun c hc => ?_)
  have hg : smS s_Graph v.1 := hs.1
  have hnb : v.1.2.1.1 ≤ 1048576 := hs.1.2.1.1
  have hni : v.2.1.1 ≤ 1048576 := hs.2.1.1
  cases ht : headP v with
  | true =>
    rw [show pinnedF v = false by rw [pinnedF, show tailP v = false by have := headP_tail v; rw [ht] at this; simpa using this]; simp]
    have ht' := ht
    unfold headP at ht'
    refine path_ok mixed Tryz.func63 hc (p57z v) ?_
    simp only [All]
    repeat' (first | exact trivial | with_reducible apply And.intro)
    all_goals (first | exact aG _ | omega | rfl | (intros; first | assumption | exact trivial | rfl | contradiction | ((repeat' (first | assumption | apply anda | apply notf)); done)) | (exact con_IsGraph_i v.1 hg) | (exact con_hasDoubles v.1 hg) | (intros; exact con_hasDoubles v.1 hg) | (intro h; simpa using h) | (exact ht'))
  | false =>
  have htl : tailP v = true := by have := headP_tail v; rw [ht] at this; simpa using this
  have ht' := ht
  unfold headP at ht'
  have hgr : isGraphF v.1 = true := by
    cases e : isGraphF v.1 with
    | true => rfl
    | false => rw [tailP, simpleF, e] at htl; simp at htl
  have hN : inB v.1.1 1 8 = true := by
    unfold isGraphF at hgr
    split at hgr
    · next h => exact h.1
    · cases hgr
  have hN1 : 1 ≤ v.1.1 ∧ v.1.1 ≤ 8 := by simpa [inB] using hN
  have lp2 : goodP v.1.1 v.2.1.2 v.2.1.1 = true → ∀ m k, k + m = v.1.2.1.1 → freeP v.2.1 v.1.2.1.2 k = true → Run Tryz.prog c 63 zf37 (S57b v k) (Post c [] (.p (.bool (pinnedF v)))) := by
    intro hgood m
    induction m with
    | zero =>
      intro k hk hf
      rw [show pinnedF v = true by rw [pinnedF, hgood, show v.1.2.1.1 = k by omega, hf, htl]; rfl]
      have hd : decide ((k : Int) < (v.1.2.1.1 : Int)) = false := by simp; omega
      refine path_ok mixed Tryz.func63 hc (p57g v k) ?_
      simp only [All]
      repeat' (first | exact trivial | with_reducible apply And.intro)
      all_goals (first | omega | rfl | (intros; first | assumption | exact trivial | rfl | contradiction | ((repeat' (first | assumption | apply anda | apply notf)); done)) | simp)
    | succ m ih =>
      intro k hk hf
      have hd : decide ((k : Int) < (v.1.2.1.1 : Int)) = true := by simp; omega
      cases he : bothP v.2.1 (v.1.2.1.2 k) with
      | true =>
        rw [show pinnedF v = false by rw [pinnedF, freeP_bad v.2.1 v.1.2.1.2 k he v.1.2.1.1 (by omega)]; simp]
        refine path_ok mixed Tryz.func63 hc (p57f v k) ?_
        simp only [All]
        repeat' (first | exact trivial | with_reducible apply And.intro)
        all_goals (first | exact aG _ | omega | rfl | (intros; first | assumption | exact trivial | rfl | contradiction | ((repeat' (first | assumption | apply anda | apply notf)); done)) | (intros; exact con_Contains v.2.1 _ hni) | (exact he))
      | false =>
        refine piece_ok mixed hc (p57e v k) ?_ (ih (k + 1) (by omega) (by rw [freeP, hf, he]; rfl))
        simp only [All]
        repeat' (first | exact trivial | with_reducible apply And.intro)
        all_goals (first | exact aG _ | exact aP _ _ | omega | rfl | (intros; first | assumption | exact trivial | rfl | contradiction | ((repeat' (first | assumption | apply anda | apply notf)); done)) | (intros; exact con_Contains v.2.1 _ hni) | (exact he) | (simp [All, aEt]))
  have lp1 : ∀ m k, k + m = v.2.1.1 → goodP v.1.1 v.2.1.2 k = true → Run Tryz.prog c 63 zf49 (S57a v k) (Post c [] (.p (.bool (pinnedF v)))) := by
    intro m
    induction m with
    | zero =>
      intro k hk hgd
      have hd : decide ((k : Int) < (v.2.1.1 : Int)) = false := by simp; omega
      refine piece_ok mixed hc (p57d v k) ?_ (lp2 (by rw [show v.2.1.1 = k by omega]; exact hgd) v.1.2.1.1 0 (by omega) rfl)
      simp only [All]
      repeat' (first | exact trivial | with_reducible apply And.intro)
      all_goals (first | exact aP _ _ | omega | rfl | (intros; first | assumption | exact trivial | rfl | contradiction | ((repeat' (first | assumption | apply anda | apply notf)); done)) | (simp [All, aEt]))
    | succ m ih =>
      intro k hk hgd
      have hkn : k < v.2.1.1 := by omega
      have hd : decide ((k : Int) < (v.2.1.1 : Int)) = true := by simp; omega
      cases he : badP v.1.1 v.2.1.2 k with
      | true =>
        rw [show pinnedF v = false by rw [pinnedF, goodP_bad _ _ k he v.2.1.1 (by omega)]; rfl]
        have he' := bad_in v.1.1 v.2.1.2 k he
        refine path_ok mixed Tryz.func63 hc (p57c v k) ?_
        simp only [All]
        repeat' (first | exact trivial | with_reducible apply And.intro)
        all_goals (first | exact aG _ | omega | rfl | (intros; first | assumption | exact trivial | rfl | contradiction | ((repeat' (first | assumption | apply anda | apply notf)); done)) | (exact con_Graphhas v.1 _ hN1.1 hN1.2) | (exact he') | (intro h; have := idx_lt h hkn; omega))
      | false =>
        have he' := bad_in v.1.1 v.2.1.2 k he
        refine piece_ok mixed hc (p57b v k) ?_ (ih (k + 1) (by omega) (by rw [goodP, hgd, he]; rfl))
        simp only [All]
        repeat' (first | exact trivial | with_reducible apply And.intro)
        all_goals (first | exact aG _ | exact aP _ _ | omega | rfl | (intros; first | assumption | exact trivial | rfl | contradiction | ((repeat' (first | assumption | apply anda | apply notf)); done)) | (exact con_Graphhas v.1 _ hN1.1 hN1.2) | (exact he') | (intro h; have := idx_lt h hkn; omega) | (simp [All, aEt]))
  refine piece_ok mixed hc (p57a v) ?_ (lp1 v.2.1.1 0 (by omega) rfl)
  simp only [All]
  repeat' (first | exact trivial | with_reducible apply And.intro)
  all_goals (first | exact aG _ | exact aP _ _ | omega | rfl | (intros; first | assumption | exact trivial | rfl | contradiction | ((repeat' (first | assumption | apply anda | apply notf)); done)) | (exact con_IsGraph_i v.1 hg) | (intros; exact con_hasDoubles v.1 hg) | (exact ht') | (simp [All, aEt]) | (intro h; simpa using h))
end Go.Proofs.YtgdbnnmogddkaaaGreat.Mach
namespace Go.Proofs.YtgdbnnmogddkaaaGreat.Mach
open Go Go.Sort
set_option linter.unusedVariables false
set_option linter.unusedSimpArgs false
def zP3 : Ob := ⟨true, 3, 1, fun _ => [.p (.int .i64 0), .p .nil, .p .nil]⟩
def pgO (N : Int) (n m : Nat) : Ob := ⟨true, 3, 1, fun _ => [.p (.int .i64 N), .ar 2 3 0 n, .ar 1 4 0 m]⟩
def SQi (p : T_Pinned) (l : T_BarS) (k : Nat) (N : Int) (n : Nat) (h : Nat → T_Bar) : St :=
  ⟨[pinA p, graphL l, .pt 3 0 0 0, .p .any, .pt 3 1 0 0, .p (.bool false), .pt 3 2 0 0] ++ List.replicate 10 anyA ++ [graphL l, .p (.int .i64 l.1), .p (.int .i64 k)] ++ List.replicate 24 anyA,
   [(0, boxP p), (1, zP3), (2, pgO N n p.2.1.1), (3, brOb n h), (4, iOb p.2.1.1 p.2.1.2)], 5⟩
def SQs (p : T_Pinned) (l : T_BarS) (k : Nat) (N : Int) (n : Nat) (h : Nat → T_Bar) : St :=
  ⟨[pinA p, graphL l, .pt 3 0 0 0, .p .any, .pt 3 1 0 0, .p (.bool false), .pt 3 2 0 0, .p (.int .i64 k)] ++ List.replicate 47 anyA,
   [(0, boxP p), (1, zP3), (2, pgO N n p.2.1.1), (3, brOb n h), (4, iOb p.2.1.1 p.2.1.2)], 5⟩
theorem rCp (p : T_Pinned) :
    pathOb Tryz.prog Tryz.f40 0 [rg 2, rm [(2, oc [(0, brOb p.1.2.1.1 p.1.2.1.2)] (.agg [.p (.int .i64 p.1.1), .ar 2 0 0 p.1.2.1.1])), (2, oc [(0, iOb p.2.1.1 p.2.1.2)] (.ar 1 0 0 p.2.1.1))] 2] [.code (bodyOf Tryz.f40)] (start Tryz.f40 [] 0 [pinA p]) [128, 224] 1 [(0, brOb p.1.2.1.1 p.1.2.1.2), (1, iOb p.2.1.1 p.2.1.2)] ((zf128 p)) =
    some [(NT 0 1),Con Tryz.prog 74 0 [] [(zf103 p)] (zf110 p) (.agg [.p (.int .i64 p.1.1), .ar 2 0 0 p.1.2.1.1]),(NT 0 1),Con Tryz.prog 75 0 [] [.p (.seq true 1 p.2.1.1 (fun i => [.int .i64 (p.2.1.2 i)]))] [(0, ⟨false, 1, p.2.1.1, (fun i => [.p (.int .i64 (p.2.1.2 i))])⟩)] (.ar 1 0 0 p.2.1.1),(NT 0 1),((true = true) →  (AN 1)),(NT 0 1),(AI p.1.1),(AN 0),(AN p.1.2.1.1),(AN 0),(AN p.2.1.1),(AN 2),(NL p.1.2.1.1 p.1.2.1.1),(AA p.1.2.1.1 (fun i => [.p (.int .i64 ((p.1.2.1.2 i).1)), .p (.int .i64 ((p.1.2.1.2 i).2.1))])),(AN 1),(NL p.2.1.1 p.2.1.1),(AA p.2.1.1 (fun i => [.p (.int .i64 (p.2.1.2 i))])),(AE p.1.2.1.1),(AE p.2.1.1)] := by kernel_rfl
theorem rQy (p : T_Pinned) (l : T_BarS) :
    pathOb Tryz.prog Tryz.f33 0 [rg 3, rm [(1, oc [] (.p (.bool false)))] 1, .dec true, rg 3] [.code (bodyOf Tryz.f33)] (start Tryz.f33 [] 0 [pinA p, graphL l]) [] 1 [(0, brOb 0 (fun _ => (0, 0, ()))), (1, iOb 0 (fun _ => 0))] (zf126) =
    some [(NT 0 1),Con Tryz.prog 63 0 [] [(zf26 p)] [] (.p (.bool false)),((!false) = true),(NT 0 1),((true = true) →  (AN 1)),(NT 0 1),(AI 0),(AN 0),(AN 0),(false = false),(AN 0),(AN 0),(AE 0),(AE 0)] := by kernel_rfl
theorem rQz (p : T_Pinned) (l : T_BarS) :
    pieceOb Tryz.prog 0 [rg 3, rm [(1, oc [] (.p (.bool true)))] 1, .dec false, rm [(1, oc [(0, brOb p.1.2.1.1 p.1.2.1.2), (1, iOb p.2.1.1 p.2.1.2)] (zf128 p))] 2, rg 3, .head] [.code (bodyOf Tryz.f33)] (start Tryz.f33 [] 0 [pinA p, graphL l]) [0, 32, 256, 224, 225] 1 (SQi p l 0 p.1.1 p.1.2.1.1 p.1.2.1.2) =
    some (zf50, [(NT 0 1),Con Tryz.prog 63 0 [] [(zf26 p)] [] (.p (.bool true)),((!true) = false),(NT 0 1),Con Tryz.prog 40 0 [] [(zf26 p)] (zf31 p) ((zf128 p)),(NT 0 1),((true = true) →  (AN 1)),(AI p.1.1),(AN p.1.2.1.1),(AP p.1.2.1.1 (fun i => [.int .i64 ((p.1.2.1.2 i).1), .int .i64 ((p.1.2.1.2 i).2.1)])),(AN p.2.1.1),(AP p.2.1.1 (fun i => [.int .i64 (p.2.1.2 i)])),(AN l.1),(AP l.1 (fun i => [.int .i64 ((l.2 i).1), .int .i64 ((l.2 i).2.1)])),(AN 0),(AN 0),(false = false),(AN 0),(AN l.1),(AP l.1 (fun i => [.int .i64 ((l.2 i).1), .int .i64 ((l.2 i).2.1)])),(AI ((↑l.1 : Int))),((0 : Int) = (↑0 : Int)),((([AV.p (PV.int IntKind.i64 p.1.1), graphL p.1.2.1, inL p.2.1].length) : Nat) = 3),(NL 1 1),(NL 1 1),(AI p.1.1),(AN p.1.2.1.1),(AP p.1.2.1.1 (fun i => [.int .i64 ((p.1.2.1.2 i).1), .int .i64 ((p.1.2.1.2 i).2.1)])),(AN p.2.1.1),(AP p.2.1.1 (fun i => [.int .i64 (p.2.1.2 i)])),((((List.map (fun v => AV.p (absV v)) [Value.int IntKind.i64 0, Value.slice none 0 0, Value.slice none 0 0]).length) : Nat) = 3),(NL 1 1),(NL 1 1),(AI 0),((((List.map (fun v => AV.p (absV v)) [Value.int IntKind.i64 0, Value.slice none 0 0, Value.slice none 0 0]).length) : Nat) = 3),(NL 1 1),(NL 1 1),(AI p.1.1),(AN 0),(AN p.1.2.1.1),(AN 0),(AN p.2.1.1),(AN 2),(NL p.1.2.1.1 p.1.2.1.1),(AA p.1.2.1.1 (fun i => [.p (.int .i64 ((p.1.2.1.2 i).1)), .p (.int .i64 ((p.1.2.1.2 i).2.1))])),(AN 1),(NL p.2.1.1 p.2.1.1),(AA p.2.1.1 (fun i => [.p (.int .i64 (p.2.1.2 i))]))]) := by kernel_rfl
theorem rQa (p : T_Pinned) (l : T_BarS) (k : Nat) (N N2 : Int) (n n2 : Nat) (h h2 : Nat → T_Bar) :
    pieceOb Tryz.prog 0 [rg 1, .dec true, rg 4, rm [(6, oc [(0, brOb n2 h2)] (zf132 N2 n2))] 6, rg 2, .dec false, rg 3, rg 2, .head] zf50 (SQi p l k N n h) [0, 1, 2, 357, 4] 1 (SQi p l (k + 1) N2 n2 h2) =
    some (zf50, [((decide ((↑k : Int) < (↑l.1 : Int))) = true),(IL 0 (↑k : Int)),(IT (↑k : Int) (↑l.1 : Int)),(NT 0 1),((true = true) →  (AN 1)),(NT 0 1),(NT 0 1),(NT 0 1),(AN 2),(NL n n),Con Tryz.prog 64 0 [] [(zf115 N n h), .p (.int .i64 ((l.2 k).1)), .p (.int .i64 ((l.2 k).2.1))] (zf121 n2 h2) ((zf132 N2 n2)),(NT 0 1),((true = true) →  (AN 1)),((!true) = false),(NT 0 1),(NT 0 1),((true = true) →  (AN 1)),(R0 ((↑k : Int) + 1)),(R1 ((↑k : Int) + 1)),(AI p.1.1),(AN p.1.2.1.1),(AP p.1.2.1.1 (fun i => [.int .i64 ((p.1.2.1.2 i).1), .int .i64 ((p.1.2.1.2 i).2.1)])),(AN p.2.1.1),(AP p.2.1.1 (fun i => [.int .i64 (p.2.1.2 i)])),(AN l.1),(AP l.1 (fun i => [.int .i64 ((l.2 i).1), .int .i64 ((l.2 i).2.1)])),(AN 0),(AN 0),(false = false),(AN 0),(AN l.1),(AP l.1 (fun i => [.int .i64 ((l.2 i).1), .int .i64 ((l.2 i).2.1)])),(AI ((↑l.1 : Int))),((((↑k : Int) + 1) : Int) = (↑(k + 1) : Int)),(AN 3),(NL 1 1),(NL 1 1),(AI p.1.1),(AN p.1.2.1.1),(AP p.1.2.1.1 (fun i => [.int .i64 ((p.1.2.1.2 i).1), .int .i64 ((p.1.2.1.2 i).2.1)])),(AN p.2.1.1),(AP p.2.1.1 (fun i => [.int .i64 (p.2.1.2 i)])),(AN 3),(NL 1 1),(NL 1 1),(AI 0),(AN 3),(NL 1 1),(NL 1 1),(AI N2),(AN 0),(AN n2),(AN 0),(AN p.2.1.1),(AN 2),(NL n2 n2),(AA n2 (fun i => [.p (.int .i64 ((h2 i).1)), .p (.int .i64 ((h2 i).2.1))])),(AN 1),(NL p.2.1.1 p.2.1.1),(AA p.2.1.1 (fun i => [.p (.int .i64 (p.2.1.2 i))]))]) := by kernel_rfl
theorem rQb (p : T_Pinned) (l : T_BarS) (k : Nat) (N N2 : Int) (n n2 : Nat) (h h2 : Nat → T_Bar) :
    pathOb Tryz.prog Tryz.f33 0 [rg 1, .dec true, rg 4, rm [(6, oc [(0, brOb n2 h2)] (zf131 N2 n2))] 6, rg 2, .dec true, rg 3] zf50 (SQi p l k N n h) [] 1 [(0, brOb 0 (fun _ => (0, 0, ()))), (1, iOb 0 (fun _ => 0))] (zf126) =
    some [((decide ((↑k : Int) < (↑l.1 : Int))) = true),(IL 0 (↑k : Int)),(IT (↑k : Int) (↑l.1 : Int)),(NT 0 1),((true = true) →  (AN 1)),(NT 0 1),(NT 0 1),(NT 0 1),(AN 2),(NL n n),Con Tryz.prog 64 0 [] [(zf115 N n h), .p (.int .i64 ((l.2 k).1)), .p (.int .i64 ((l.2 k).2.1))] (zf121 n2 h2) ((zf131 N2 n2)),(NT 0 1),((true = true) →  (AN 1)),((!false) = true),(NT 0 1),((true = true) →  (AN 1)),(NT 0 1),(AI 0),(AN 0),(AN 0),(false = false),(AN 0),(AN 0),(AE 0),(AE 0)] := by kernel_rfl
theorem rQc (p : T_Pinned) (l : T_BarS) (k : Nat) (N : Int) (n : Nat) (h : Nat → T_Bar) :
    pathOb Tryz.prog Tryz.f33 0 [rg 1, .dec false, rm [(1, oc [] (.p (.bool false)))] 1, .dec true, rg 3] zf50 (SQi p l k N n h) [] 1 [(0, brOb 0 (fun _ => (0, 0, ()))), (1, iOb 0 (fun _ => 0))] (zf126) =
    some [((decide ((↑k : Int) < (↑l.1 : Int))) = false),(NT 0 1),(AN 2),(NL n n),(AN 1),(NL p.2.1.1 p.2.1.1),Con Tryz.prog 63 0 [] [(zf46 N n h p)] [] (.p (.bool false)),((!false) = true),(NT 0 1),((true = true) →  (AN 1)),(NT 0 1),(AI 0),(AN 0),(AN 0),(false = false),(AN 0),(AN 0),(AE 0),(AE 0)] := by kernel_rfl
theorem rQd (p : T_Pinned) (l : T_BarS) (k : Nat) (N : Int) (n : Nat) (h : Nat → T_Bar) :
    pathOb Tryz.prog Tryz.f33 0 [rg 1, .dec false, rm [(1, oc [] (.p (.bool true)))] 1, .dec false, rg 3] zf50 (SQi p l k N n h) [3, 4] 1 [(0, brOb n h), (1, iOb p.2.1.1 p.2.1.2)] (.tup [.agg [.p (.int .i64 N), .ar 2 0 0 n, .ar 1 1 0 p.2.1.1], .p (.bool true)]) =
    some [((decide ((↑k : Int) < (↑l.1 : Int))) = false),(NT 0 1),(AN 2),(NL n n),(AN 1),(NL p.2.1.1 p.2.1.1),Con Tryz.prog 63 0 [] [(zf46 N n h p)] [] (.p (.bool true)),((!true) = false),(NT 0 1),(NT 0 1),((true = true) →  (AN 1)),(NT 0 1),(AI N),(AN 0),(AN n),(AN 0),(AN p.2.1.1),(true = true),(AN 2),(NL n n),(AA n (fun i => [.p (.int .i64 ((h i).1)), .p (.int .i64 ((h i).2.1))])),(AN 1),(NL p.2.1.1 p.2.1.1),(AA p.2.1.1 (fun i => [.p (.int .i64 (p.2.1.2 i))])),(AE n),(AE p.2.1.1)] := by kernel_rfl
theorem rWz (p : T_Pinned) (l : T_BarS) :
    pieceOb Tryz.prog 0 [rg 3, rm [(2, oc [(0, brOb p.1.2.1.1 p.1.2.1.2)] (.agg [.p (.int .i64 p.1.1), .ar 2 0 0 p.1.2.1.1]))] 7, rg 1, .head] [.code (bodyOf Tryz.f23)] (start Tryz.f23 [] 0 [pinA p, graphL l]) [0, 32, 352, 160, 288] 1 (SQs p l 0 p.1.1 p.1.2.1.1 p.1.2.1.2) =
    some (zf73, [(NT 0 1),Con Tryz.prog 50 0 [] [(zf103 p)] (zf110 p) (.agg [.p (.int .i64 p.1.1), .ar 2 0 0 p.1.2.1.1]),(NT 0 1),(NL 0 0),(NL ((0 + p.2.1.1) * 8) 140737488355328),(NL (0 + p.2.1.1) 9223372036854775807),(NT 0 1),((true = true) →  (AN 1)),(AI p.1.1),(AN p.1.2.1.1),(AP p.1.2.1.1 (fun i => [.int .i64 ((p.1.2.1.2 i).1), .int .i64 ((p.1.2.1.2 i).2.1)])),(AN p.2.1.1),(AP p.2.1.1 (fun i => [.int .i64 (p.2.1.2 i)])),(AN l.1),(AP l.1 (fun i => [.int .i64 ((l.2 i).1), .int .i64 ((l.2 i).2.1)])),(AN 0),(AN 0),(false = false),(AN 0),((0 : Int) = (↑0 : Int)),((([AV.p (PV.int IntKind.i64 p.1.1), graphL p.1.2.1, inL p.2.1].length) : Nat) = 3),(NL 1 1),(NL 1 1),(AI p.1.1),(AN p.1.2.1.1),(AP p.1.2.1.1 (fun i => [.int .i64 ((p.1.2.1.2 i).1), .int .i64 ((p.1.2.1.2 i).2.1)])),(AN p.2.1.1),(AP p.2.1.1 (fun i => [.int .i64 (p.2.1.2 i)])),((((List.map (fun v => AV.p (absV v)) [Value.int IntKind.i64 0, Value.slice none 0 0, Value.slice none 0 0]).length) : Nat) = 3),(NL 1 1),(NL 1 1),(AI 0),((((List.map (fun v => AV.p (absV v)) [Value.int IntKind.i64 0, Value.slice none 0 0, Value.slice none 0 0]).length) : Nat) = 3),(NL 1 1),(NL 1 1),(AI p.1.1),(AN 0),(AN p.1.2.1.1),(AN 0),(((0 + p.2.1.1) : Nat) = p.2.1.1),(AN 2),(NL p.1.2.1.1 p.1.2.1.1),(AA p.1.2.1.1 (fun i => [.p (.int .i64 ((p.1.2.1.2 i).1)), .p (.int .i64 ((p.1.2.1.2 i).2.1))])),(AN 1),(NL p.2.1.1 (0 + p.2.1.1)),(AA p.2.1.1 (fun i => [.p (.int .i64 (p.2.1.2 i))]))]) := by kernel_rfl
theorem rWa (p : T_Pinned) (l : T_BarS) (k : Nat) (N N2 : Int) (n n2 : Nat) (h h2 : Nat → T_Bar) :
    pieceOb Tryz.prog 0 [rg 4, .dec true, rm [(12, oc [(0, brOb n2 h2)] (zf132 N2 n2))] 6, rg 2, .dec false, rg 3, rg 3, .head] zf73 (SQs p l k N n h) [0, 1, 2, 517, 4] 1 (SQs p l (k + 1) N2 n2 h2) =
    some (zf73, [((decide ((↑k : Int) < (↑l.1 : Int))) = true),(NT 0 1),(IL 0 (↑k : Int)),(IT (↑k : Int) (↑l.1 : Int)),(IL 0 (↑k : Int)),(IT (↑k : Int) (↑l.1 : Int)),(AN 2),(NL n n),Con Tryz.prog 52 0 [] [(zf115 N n h), .p (.int .i64 ((l.2 k).1)), .p (.int .i64 ((l.2 k).2.1))] (zf121 n2 h2) ((zf132 N2 n2)),(NT 0 1),((true = true) →  (AN 1)),((!true) = false),(NT 0 1),(NT 0 1),((true = true) →  (AN 1)),(R0 ((↑k : Int) + 1)),(R1 ((↑k : Int) + 1)),(AI p.1.1),(AN p.1.2.1.1),(AP p.1.2.1.1 (fun i => [.int .i64 ((p.1.2.1.2 i).1), .int .i64 ((p.1.2.1.2 i).2.1)])),(AN p.2.1.1),(AP p.2.1.1 (fun i => [.int .i64 (p.2.1.2 i)])),(AN l.1),(AP l.1 (fun i => [.int .i64 ((l.2 i).1), .int .i64 ((l.2 i).2.1)])),(AN 0),(AN 0),(false = false),(AN 0),((((↑k : Int) + 1) : Int) = (↑(k + 1) : Int)),(AN 3),(NL 1 1),(NL 1 1),(AI p.1.1),(AN p.1.2.1.1),(AP p.1.2.1.1 (fun i => [.int .i64 ((p.1.2.1.2 i).1), .int .i64 ((p.1.2.1.2 i).2.1)])),(AN p.2.1.1),(AP p.2.1.1 (fun i => [.int .i64 (p.2.1.2 i)])),(AN 3),(NL 1 1),(NL 1 1),(AI 0),(AN 3),(NL 1 1),(NL 1 1),(AI N2),(AN 0),(AN n2),(AN 0),(AN p.2.1.1),(AN 2),(NL n2 n2),(AA n2 (fun i => [.p (.int .i64 ((h2 i).1)), .p (.int .i64 ((h2 i).2.1))])),(AN 1),(NL p.2.1.1 p.2.1.1),(AA p.2.1.1 (fun i => [.p (.int .i64 (p.2.1.2 i))]))]) := by kernel_rfl
theorem rWb (p : T_Pinned) (l : T_BarS) (k : Nat) (N N2 : Int) (n n2 : Nat) (h h2 : Nat → T_Bar) :
    pathOb Tryz.prog Tryz.f23 0 [rg 4, .dec true, rm [(12, oc [(0, brOb n2 h2)] (zf131 N2 n2))] 6, rg 2, .dec true, rg 3] zf73 (SQs p l k N n h) [] 1 [(0, brOb 0 (fun _ => (0, 0, ()))), (1, iOb 0 (fun _ => 0))] (zf126) =
    some [((decide ((↑k : Int) < (↑l.1 : Int))) = true),(NT 0 1),(IL 0 (↑k : Int)),(IT (↑k : Int) (↑l.1 : Int)),(IL 0 (↑k : Int)),(IT (↑k : Int) (↑l.1 : Int)),(AN 2),(NL n n),Con Tryz.prog 52 0 [] [(zf115 N n h), .p (.int .i64 ((l.2 k).1)), .p (.int .i64 ((l.2 k).2.1))] (zf121 n2 h2) ((zf131 N2 n2)),(NT 0 1),((true = true) →  (AN 1)),((!false) = true),(NT 0 1),((true = true) →  (AN 1)),(NT 0 1),(AI 0),(AN 0),(AN 0),(false = false),(AN 0),(AN 0),(AE 0),(AE 0)] := by kernel_rfl
theorem rWc (p : T_Pinned) (l : T_BarS) (k : Nat) (N : Int) (n : Nat) (h : Nat → T_Bar) (b1 b2 : Bool) :
    pathOb Tryz.prog Tryz.f23 0 [rg 4, .dec false, rm [(1, oc [] (.p (.bool b1))), (3, oc [] (.p (.bool b2)))] 2, .dec true, rg 3] zf73 (SQs p l k N n h) [] 1 [(0, brOb 0 (fun _ => (0, 0, ()))), (1, iOb 0 (fun _ => 0))] (zf126) =
    some [((decide ((↑k : Int) < (↑l.1 : Int))) = false),(NT 0 1),Con Tryz.prog 51 0 [] [(zf26 p)] [] (.p (.bool b1)),(((!!b1) = true) → (NT 0 1)),(AG (!!b1)),(((!!b1) = true) →  (AN 2)),(((!!b1) = true) → (NL n n)),(((!!b1) = true) →  (AN 1)),(((!!b1) = true) → (NL p.2.1.1 p.2.1.1)),(((!!b1) = true) →  Con Tryz.prog 51 0 [] [(zf46 N n h p)] [] (.p (.bool b2))),(AG (!!b1)),(((!b1) = false) →  ((!!b1) = true)),((bif !b1 then true else !b2) = true),(NT 0 1),((true = true) →  (AN 1)),(NT 0 1),(AI 0),(AN 0),(AN 0),(false = false),(AN 0),(AN 0),(AE 0),(AE 0)] := by kernel_rfl
theorem rWd (p : T_Pinned) (l : T_BarS) (k : Nat) (N : Int) (n : Nat) (h : Nat → T_Bar) (b1 b2 : Bool) :
    pathOb Tryz.prog Tryz.f23 0 [rg 4, .dec false, rm [(1, oc [] (.p (.bool b1))), (3, oc [] (.p (.bool b2)))] 2, .dec false, rg 3] zf73 (SQs p l k N n h) [3, 4] 1 [(0, brOb n h), (1, iOb p.2.1.1 p.2.1.2)] (.tup [.agg [.p (.int .i64 N), .ar 2 0 0 n, .ar 1 1 0 p.2.1.1], .p (.bool true)]) =
    some [((decide ((↑k : Int) < (↑l.1 : Int))) = false),(NT 0 1),Con Tryz.prog 51 0 [] [(zf26 p)] [] (.p (.bool b1)),(((!!b1) = true) → (NT 0 1)),(AG (!!b1)),(((!!b1) = true) →  (AN 2)),(((!!b1) = true) → (NL n n)),(((!!b1) = true) →  (AN 1)),(((!!b1) = true) → (NL p.2.1.1 p.2.1.1)),(((!!b1) = true) →  Con Tryz.prog 51 0 [] [(zf46 N n h p)] [] (.p (.bool b2))),(AG (!!b1)),(((!b1) = false) →  ((!!b1) = true)),((bif !b1 then true else !b2) = false),(NT 0 1),(NT 0 1),((true = true) →  (AN 1)),(NT 0 1),(AI N),(AN 0),(AN n),(AN 0),(AN p.2.1.1),(true = true),(AN 2),(NL n n),(AA n (fun i => [.p (.int .i64 ((h i).1)), .p (.int .i64 ((h i).2.1))])),(AN 1),(NL p.2.1.1 p.2.1.1),(AA p.2.1.1 (fun i => [.p (.int .i64 (p.2.1.2 i))])),(AE n),(AE p.2.1.1)] := by kernel_rfl
theorem con_copyPinned (p : T_Pinned) (hs : smS s_Pinned p) : Con Tryz.prog 40 0 [] [pinA p] [(0, brOb p.1.2.1.1 p.1.2.1.2), (1, iOb p.2.1.1 p.2.1.2)] ((zf128 p)) := by
  have h1 : p.1.2.1.1 ≤ 1048576 := hs.1.2.1.1
  have h2 : p.2.1.1 ≤ 1048576 := hs.2.1.1
  have c1 := con_copyGraph p.1 h1
  have c2 := con_copyInts p.2.1.1 p.2.1.2 h2
  refine con_start Tryz.func40 rfl (by kernel_rfl) rfl (fun c hc => ?_)
  refine path_ok mixed Tryz.func40 hc (rCp p) ?_
  simp only [All]
  repeat' (first | exact trivial | with_reducible apply And.intro)
  all_goals (first | exact aA _ _ | exact aE _ | omega | rfl | (intros; first | assumption | exact trivial | rfl | contradiction | ((repeat' (first | assumption | apply anda | apply notf)); done)) | (exact c1) | (exact c2) | (intro j hj; simp [All, aEt]; done) | (simp; try omega))
def arI (v : T_Graph) (l : T_BarS) : Nat → Bool × T_Graph
  | 0 => (true, v)
  | k + 1 => ((arI v l k).1 && abB (arI v l k).2 (l.2 k).1 (l.2 k).2.1, abG (arI v l k).2 (l.2 k).1 (l.2 k).2.1)
theorem arI_false (v : T_Graph) (l : T_BarS) (k : Nat) (h : (arI v l k).1 = false) : ∀ n, k ≤ n → (arI v l n).1 = false
  | 0, h' => by obtain rfl : k = 0 := by omega
                exact h
  | n + 1, h' => by
    by_cases e : k = n + 1
    · subst e; exact h
    · simp [arI, arI_false v l k h n (by omega)]
def arB (p : T_Pinned) (l : T_BarS) : Bool := pinnedF p && ((arI p.1 l l.1).1 && pinnedF ((arI p.1 l l.1).2, p.2))
def zPin : T_Pinned := ((0, (0, fun _ => (0, 0, ())), ()), (0, fun _ => 0), ())
def arP (p : T_Pinned) (l : T_BarS) : T_Pinned := if arB p l = true then ((arI p.1 l l.1).2, p.2) else zPin
theorem arI_n (v : T_Graph) (l : T_BarS) : ∀ k, (arI v l k).2.2.1.1 ≤ v.2.1.1 ∨ (arI v l k).2.2.1.1 ≤ 24
  | 0 => .inl (Nat.le_refl _)
  | k + 1 => by
    have h := arI_n v l k
    have h2 := abG_n (arI v l k).2 (l.2 k).1 (l.2 k).2.1
    simp only [arI]
    omega
theorem sm_pin {p : T_Pinned} (h1 : p.1.2.1.1 ≤ 1048576) (h2 : p.2.1.1 ≤ 1048576) : smS s_Pinned p :=
  ⟨⟨trivial, ⟨h1, fun i hi => by simp [smS, smL]⟩, trivial⟩, ⟨h2, fun i hi => by simp [smS]⟩, trivial⟩
theorem con_ApplyRepair_i (p : T_Pinned) (hs : smS s_Pinned p) (l : T_BarS) (hl : l.1 ≤ 1048576) :
    Con Tryz.prog 33 0 [] [pinA p, graphL l] [(0, brOb (arP p l).1.2.1.1 (arP p l).1.2.1.2), (1, iOb (arP p l).2.1.1 (arP p l).2.1.2)]
      (.tup [.agg [.p (.int .i64 (arP p l).1.1), .ar 2 0 0 (arP p l).1.2.1.1, .ar 1 1 0 (arP p l).2.1.1], .p (.bool (arB p l))]) := by
  have hn1 : p.1.2.1.1 ≤ 1048576 := hs.1.2.1.1
  have hn2 : p.2.1.1 ≤ 1048576 := hs.2.1.1
  have c1 := con_IsPinned_i p hs
  have cc := con_copyPinned p hs
  refine con_start Tryz.func33 rfl (by kernel_rfl) rfl (fun c hc => ?_)
  cases hp : pinnedF p with
  | false =>
    rw [hp] at c1
    have hb : arB p l = false := by simp [arB, hp]
    rw [show arP p l = zPin by simp [arP, hb], hb]
    refine path_ok mixed Tryz.func33 hc (rQy p l) ?_
    simp only [All]
    repeat' (first | exact trivial | with_reducible apply And.intro)
    all_goals (first | exact aE _ | omega | rfl | (intros; first | assumption | exact trivial | rfl | contradiction | ((repeat' (first | assumption | apply anda | apply notf)); done)) | (exact c1) | (intro j hj; exact absurd hj (Nat.not_lt_zero _)) | (simp; done))
  | true =>
    rw [hp] at c1
    have lp : ∀ d k, k + d = l.1 → (arI p.1 l k).1 = true →
        Run Tryz.prog c 33 zf50 (SQi p l k (arI p.1 l k).2.1 (arI p.1 l k).2.2.1.1 (arI p.1 l k).2.2.1.2)
          (Post c [(0, brOb (arP p l).1.2.1.1 (arP p l).1.2.1.2), (1, iOb (arP p l).2.1.1 (arP p l).2.1.2)] (.tup [.agg [.p (.int .i64 (arP p l).1.1), .ar 2 0 0 (arP p l).1.2.1.1, .ar 1 1 0 (arP p l).2.1.1], .p (.bool (arB p l))])) := by
      intro d
      induction d with
      | zero =>
        intro k hk ht
        obtain rfl : k = l.1 := by omega
        have hd : decide ((l.1 : Int) < (l.1 : Int)) = false := by simp
        have hgn := arI_n p.1 l l.1
        have c2 := con_IsPinned_i ((arI p.1 l l.1).2, p.2) (sm_pin (by show (arI p.1 l l.1).2.2.1.1 ≤ 1048576; omega) hn2)
        cases hq : pinnedF ((arI p.1 l l.1).2, p.2) with
        | false =>
          rw [hq] at c2
          have hb : arB p l = false := by simp [arB, hq]
          rw [show arP p l = zPin by simp [arP, hb], hb]
          refine path_ok mixed Tryz.func33 hc (rQc p l l.1 (arI p.1 l l.1).2.1 (arI p.1 l l.1).2.2.1.1 (arI p.1 l l.1).2.2.1.2) ?_
          simp only [All]
          repeat' (first | exact trivial | with_reducible apply And.intro)
          all_goals (first | exact aE _ | omega | rfl | (intros; first | assumption | exact trivial | rfl | contradiction | ((repeat' (first | assumption | apply anda | apply notf)); done)) | (exact hd) | (exact c2) | (intro j hj; exact absurd hj (Nat.not_lt_zero _)) | (intro j hj; simp [All, aEt]; done) | (simp; done))
        | true =>
          rw [hq] at c2
          have hb : arB p l = true := by simp [arB, hq, hp, ht]
          rw [show arP p l = ((arI p.1 l l.1).2, p.2) by simp [arP, hb], hb]
          refine path_ok mixed Tryz.func33 hc (rQd p l l.1 (arI p.1 l l.1).2.1 (arI p.1 l l.1).2.2.1.1 (arI p.1 l l.1).2.2.1.2) ?_
          simp only [All]
          repeat' (first | exact trivial | with_reducible apply And.intro)
          all_goals (first | exact aA _ _ | exact aE _ | omega | rfl | (intros; first | assumption | exact trivial | rfl | contradiction | ((repeat' (first | assumption | apply anda | apply notf)); done)) | (exact hd) | (exact c2) | (intro j hj; simp [All, aEt]; done) | (simp; done))
      | succ d ih =>
        intro k hk ht
        have hd : decide ((k : Int) < (l.1 : Int)) = true := by simp; omega
        have hgn := arI_n p.1 l k
        have ca := con_AddBar_i (arI p.1 l k).2 (sm_graph (by omega)) (l.2 k).1 (l.2 k).2.1
        cases ho : abB (arI p.1 l k).2 (l.2 k).1 (l.2 k).2.1 with
        | false =>
          rw [ho] at ca
          have hb : arB p l = false := by
            have := arI_false p.1 l (k + 1) (by simp [arI, ho]) l.1 (by omega)
            simp [arB, this]
          rw [show arP p l = zPin by simp [arP, hb], hb]
          refine path_ok mixed Tryz.func33 hc (rQb p l k (arI p.1 l k).2.1 (abG (arI p.1 l k).2 (l.2 k).1 (l.2 k).2.1).1 (arI p.1 l k).2.2.1.1 (abG (arI p.1 l k).2 (l.2 k).1 (l.2 k).2.1).2.1.1 (arI p.1 l k).2.2.1.2 (abG (arI p.1 l k).2 (l.2 k).1 (l.2 k).2.1).2.1.2) ?_
          simp only [All]
          repeat' (first | exact trivial | with_reducible apply And.intro)
          all_goals (first | exact aE _ | omega | rfl | (intros; first | assumption | exact trivial | rfl | contradiction | ((repeat' (first | assumption | apply anda | apply notf)); done)) | (exact hd) | (exact ca) | (intro j hj; exact absurd hj (Nat.not_lt_zero _)) | (intro j hj; simp [All, aEt]; done) | (simp; done))
        | true =>
          rw [ho] at ca
          refine piece_ok mixed hc (rQa p l k (arI p.1 l k).2.1 _ (arI p.1 l k).2.2.1.1 _ (arI p.1 l k).2.2.1.2 _) ?_ (ih (k + 1) (by omega) (by simp [arI, ht, ho]))
          simp only [All]
          repeat' (first | exact trivial | with_reducible apply And.intro)
          all_goals (first | exact aP _ _ | exact aA _ _ | omega | rfl | (intros; first | assumption | exact trivial | rfl | contradiction | ((repeat' (first | assumption | apply anda | apply notf)); done)) | (exact hd) | (exact ca) | (intro j hj; simp [All, aEt]; done) | (simp; done))
    refine piece_ok mixed hc (rQz p l) ?_ (lp l.1 0 (by omega) rfl)
    simp only [All]
    repeat' (first | exact trivial | with_reducible apply And.intro)
    all_goals (first | exact aP _ _ | exact aA _ _ | omega | rfl | (intros; first | assumption | exact trivial | rfl | contradiction | ((repeat' (first | assumption | apply anda | apply notf)); done)) | (exact c1) | (exact cc) | (intro j hj; simp [All, aEt]; done) | (simp; done))
theorem con_ApplyRepair_s (p : T_Pinned) (hs : smS s_Pinned p) (l : T_BarS) (hl : l.1 ≤ 1048576) :
    Con Tryz.prog 23 0 [] [pinA p, graphL l] [(0, brOb (arP p l).1.2.1.1 (arP p l).1.2.1.2), (1, iOb (arP p l).2.1.1 (arP p l).2.1.2)]
      (.tup [.agg [.p (.int .i64 (arP p l).1.1), .ar 2 0 0 (arP p l).1.2.1.1, .ar 1 1 0 (arP p l).2.1.1], .p (.bool (arB p l))]) := by
  have hn1 : p.1.2.1.1 ≤ 1048576 := hs.1.2.1.1
  have hn2 : p.2.1.1 ≤ 1048576 := hs.2.1.1
  have c1 := con_IsPinned_s p hs
  have cc := con_l2Copy p.1 hn1
  refine con_start Tryz.func23 rfl (by kernel_rfl) rfl (fun c hc => ?_)
  have lp : ∀ d k, k + d = l.1 → (arI p.1 l k).1 = true →
      Run Tryz.prog c 23 zf73 (SQs p l k (arI p.1 l k).2.1 (arI p.1 l k).2.2.1.1 (arI p.1 l k).2.2.1.2)
        (Post c [(0, brOb (arP p l).1.2.1.1 (arP p l).1.2.1.2), (1, iOb (arP p l).2.1.1 (arP p l).2.1.2)] (.tup [.agg [.p (.int .i64 (arP p l).1.1), .ar 2 0 0 (arP p l).1.2.1.1, .ar 1 1 0 (arP p l).2.1.1], .p (.bool (arB p l))])) := by
    intro d
    induction d with
    | zero =>
      intro k hk ht
      obtain rfl : k = l.1 := by omega
      have hd : decide ((l.1 : Int) < (l.1 : Int)) = false := by simp
      have hgn := arI_n p.1 l l.1
      have c2 := con_IsPinned_s ((arI p.1 l l.1).2, p.2) (sm_pin (by show (arI p.1 l l.1).2.2.1.1 ≤ 1048576; omega) hn2)
      have hcd : (bif !pinnedF p then true else !pinnedF ((arI p.1 l l.1).2, p.2)) = !arB p l := by
        unfold arB
        rw [ht]
        cases pinnedF p <;> cases pinnedF ((arI p.1 l l.1).2, p.2) <;> rfl
      cases hb : arB p l with
      | false =>
        rw [hb] at hcd
        have hcd' : (bif !pinnedF p then true else !pinnedF ((arI p.1 l l.1).2, p.2)) = true := hcd
        rw [show arP p l = zPin by simp [arP, hb]]
        refine path_ok mixed Tryz.func23 hc (rWc p l l.1 (arI p.1 l l.1).2.1 (arI p.1 l l.1).2.2.1.1 (arI p.1 l l.1).2.2.1.2 (pinnedF p) (pinnedF ((arI p.1 l l.1).2, p.2))) ?_
        simp only [All]
        repeat' (first | exact trivial | with_reducible apply And.intro)
        all_goals (first | exact aG _ | exact aE _ | omega | rfl | (intros; first | assumption | exact trivial | rfl | contradiction | ((repeat' (first | assumption | apply anda | apply notf)); done)) | (exact hd) | (exact c1) | (intro _; exact c2) | (exact hcd') | (intro j hj; exact absurd hj (Nat.not_lt_zero _)) | (intro j hj; simp [All, aEt]; done) | (simp; done))
      | true =>
        rw [hb] at hcd
        have hcd' : (bif !pinnedF p then true else !pinnedF ((arI p.1 l l.1).2, p.2)) = false := hcd
        rw [show arP p l = ((arI p.1 l l.1).2, p.2) by simp [arP, hb]]
        refine path_ok mixed Tryz.func23 hc (rWd p l l.1 (arI p.1 l l.1).2.1 (arI p.1 l l.1).2.2.1.1 (arI p.1 l l.1).2.2.1.2 (pinnedF p) (pinnedF ((arI p.1 l l.1).2, p.2))) ?_
        simp only [All]
        repeat' (first | exact trivial | with_reducible apply And.intro)
        all_goals (first | exact aG _ | exact aA _ _ | exact aE _ | omega | rfl | (intros; first | assumption | exact trivial | rfl | contradiction | ((repeat' (first | assumption | apply anda | apply notf)); done)) | (exact hd) | (exact c1) | (intro _; exact c2) | (exact hcd') | (intro j hj; simp [All, aEt]; done) | (simp; done))
    | succ d ih =>
      intro k hk ht
      have hd : decide ((k : Int) < (l.1 : Int)) = true := by simp; omega
      have hgn := arI_n p.1 l k
      have ca := con_AddBar_s (arI p.1 l k).2 (sm_graph (by omega)) (l.2 k).1 (l.2 k).2.1
      cases ho : abB (arI p.1 l k).2 (l.2 k).1 (l.2 k).2.1 with
      | false =>
        rw [ho] at ca
        have hb : arB p l = false := by
          have := arI_false p.1 l (k + 1) (by simp [arI, ho]) l.1 (by omega)
          simp [arB, this]
        rw [show arP p l = zPin by simp [arP, hb], hb]
        refine path_ok mixed Tryz.func23 hc (rWb p l k (arI p.1 l k).2.1 (abG (arI p.1 l k).2 (l.2 k).1 (l.2 k).2.1).1 (arI p.1 l k).2.2.1.1 (abG (arI p.1 l k).2 (l.2 k).1 (l.2 k).2.1).2.1.1 (arI p.1 l k).2.2.1.2 (abG (arI p.1 l k).2 (l.2 k).1 (l.2 k).2.1).2.1.2) ?_
        simp only [All]
        repeat' (first | exact trivial | with_reducible apply And.intro)
        all_goals (first | exact aE _ | omega | rfl | (intros; first | assumption | exact trivial | rfl | contradiction | ((repeat' (first | assumption | apply anda | apply notf)); done)) | (exact hd) | (exact ca) | (intro j hj; exact absurd hj (Nat.not_lt_zero _)) | (intro j hj; simp [All, aEt]; done) | (simp; done))
      | true =>
        rw [ho] at ca
        refine piece_ok mixed hc (rWa p l k (arI p.1 l k).2.1 _ (arI p.1 l k).2.2.1.1 _ (arI p.1 l k).2.2.1.2 _) ?_ (ih (k + 1) (by omega) (by simp [arI, ht, ho]))
        simp only [All]
        repeat' (first | exact trivial | with_reducible apply And.intro)
        all_goals (first | exact aP _ _ | exact aA _ _ | omega | rfl | (intros; first | assumption | exact trivial | rfl | contradiction | ((repeat' (first | assumption | apply anda | apply notf)); done)) | (exact hd) | (exact ca) | (intro j hj; simp [All, aEt]; done) | (simp; done))
  refine piece_ok mixed hc (rWz p l) ?_ (lp l.1 0 (by omega) rfl)
  simp only [All]
  repeat' (first | exact trivial | with_reducible apply And.intro)
  all_goals (first | exact aP _ _ | exact aA _ _ | omega | rfl | (intros; first | assumption | exact trivial | rfl | contradiction | ((repeat' (first | assumption | apply anda | apply notf)); done)) | (exact cc) | (intro j hj; simp [All, aEt]; done) | (simp; done) | (simp; omega))
theorem goodP_at {N : Int} {g : Nat → Int} : ∀ {n : Nat}, goodP N g n = true → ∀ k, k < n → 0 ≤ g k ∧ g k < N ∧ (0 < k → g (k - 1) < g k)
  | 0, _, k, hk => absurd hk (Nat.not_lt_zero _)
  | n + 1, h, k, hk => by
    simp only [goodP, Bool.and_eq_true, Bool.not_eq_true'] at h
    by_cases e : k = n
    · subst e
      have h2 := h.2
      unfold badP at h2
      by_cases c1 : g k < 0
      · simp [c1] at h2
      by_cases c2 : g k ≥ N
      · simp [c1, c2] at h2
      refine ⟨by omega, by omega, fun h0 => ?_⟩
      simp only [c1, c2, decide_false, cond_false] at h2
      rw [decide_eq_true (show (k : Int) > 0 by omega)] at h2
      simp only [cond_true, decide_eq_false_iff_not] at h2
      rw [show ((k : Int) - 1).toNat = k - 1 by omega] at h2
      omega
    · exact goodP_at h.1 k (by omega)
theorem goodP_asc {N : Int} {g : Nat → Int} {n : Nat} (h : goodP N g n = true) : ∀ j i, i < j → j < n → g i < g j := by
  intro j
  induction j with
  | zero => intro i hi; omega
  | succ j ih =>
    intro i hi hj
    have h1 := (goodP_at h (j + 1) hj).2.2 (by omega)
    rw [show j + 1 - 1 = j by omega] at h1
    by_cases e : i = j
    · rw [e]; exact h1
    · have := ih i (by omega) (by omega); omega
theorem goodP_ge {N : Int} {g : Nat → Int} {n : Nat} (h : goodP N g n = true) : ∀ k, k < n → (k : Int) ≤ g k := by
  intro k
  induction k with
  | zero => intro hk; exact (goodP_at h 0 hk).1
  | succ k ih =>
    intro hk
    have h1 := ih (by omega)
    have h2 := goodP_asc h (k + 1) k (by omega) hk
    omega
theorem pinned_in {p : T_Pinned} (h : pinnedF p = true) : isGraphF p.1 = true ∧ 2 ≤ p.2.1.1 ∧ p.2.1.1 ≤ 8 ∧ p.1.2.1.1 ≤ 15 ∧ p.1.2.1.1 + 2 * p.2.1.1 ≤ 27 := by
  simp only [pinnedF, Bool.and_eq_true] at h
  obtain ⟨h1, h2, h3⟩ := h
  unfold tailP at h3
  cases hs : simpleF p.1 with
  | false => rw [hs] at h3; simp at h3
  | true =>
    rw [hs] at h3
    simp only [simpleF, Bool.and_eq_true] at hs
    have hg := graph_inR hs.2
    by_cases c1 : (p.2.1.1 : Int) ≥ 2
    · by_cases c2 : (p.1.2.1.1 : Int) ≤ 15
      · by_cases c3 : (p.1.2.1.1 : Int) + 2 * (p.2.1.1 : Int) - 3 ≤ 24
        · refine ⟨hs.2, by omega, ?_, by omega, by omega⟩
          have := goodP_ge h1 (p.2.1.1 - 1) (by omega)
          have := goodP_at h1 (p.2.1.1 - 1) (by omega)
          omega
        · simp [c1, c2, c3] at h3
      · simp [c1, c2] at h3
    · simp [c1] at h3
theorem arP_le (p : T_Pinned) (l : T_BarS) : (arP p l).1.2.1.1 ≤ 24 ∧ (arP p l).2.1.1 ≤ 8 := by
  unfold arP
  split
  · rename_i h
    simp only [arB, Bool.and_eq_true] at h
    have := pinned_in h.2.2
    exact ⟨(graph_inR this.1).2.2.1, this.2.2.1⟩
  · exact ⟨Nat.zero_le _, Nat.zero_le _⟩
end Go.Proofs.YtgdbnnmogddkaaaGreat.Mach
namespace Go.Proofs.YtgdbnnmogddkaaaGreat.Mat
set_option linter.unusedVariables false
set_option linter.unusedSimpArgs false
noncomputable def rk (N : Nat) (L : List (Nat × Nat)) : Nat := (greedy N 2 3 [] L).length
def Imp (N : Nat) (I : List (Nat × Nat)) (a b : Nat) : Prop := ∃ R, Tight N I R ∧ R a = true ∧ R b = true
theorem cnt_tri (A B C : Nat → Bool) : ∀ l, cnt A l + cnt B l + cnt C l ≤ cnt (uni (uni A B) C) l + cnt (cap2 A B) l + cnt (cap2 A C) l + cnt (cap2 B C) l
  | [] => by simp [cnt]
  | x :: l => by
    have := cnt_tri A B C l
    simp only [cnt, inn, uni, cap2] at *
    cases A x.1 <;> cases B x.1 <;> cases C x.1 <;> cases A x.2 <;> cases B x.2 <;> cases C x.2 <;> simp <;> omega
theorem card_tri (A B C : Nat → Bool) : ∀ n, cardR A n + cardR B n + cardR C n + cardR (cap2 (cap2 A B) C) n = cardR (uni (uni A B) C) n + cardR (cap2 A B) n + cardR (cap2 A C) n + cardR (cap2 B C) n
  | 0 => rfl
  | n + 1 => by
    have := card_tri A B C n
    simp only [cardR, uni, cap2] at *
    cases A n <;> cases B n <;> cases C n <;> simp <;> omega
theorem cnt_zero_of {N : Nat} {I : List (Nat × Nat)} (hI : Sparse N 2 3 I) {R : Nat → Bool} (h : cardR R N ≤ 1) : cnt R I = 0 := by
  have := hI R
  by_cases e : 0 < cnt R I
  · have := this e; omega
  · omega
theorem tight_union2 {N : Nat} {I : List (Nat × Nat)} (hI : Sparse N 2 3 I) {R S : Nat → Bool} (h1 : Tight N I R) (h2 : Tight N I S) (h : 2 ≤ cardR (cap2 R S) N) : Tight N I (uni R S) := by
  have c1 := card_uni R S N
  have c2 := cnt_uni R S I
  have c3 := cnt_mono R (uni R S) (fun v h => by simp [uni, h]) I
  have c4 := hI (uni R S)
  have c5 := hI (cap2 R S)
  unfold Tight at *
  by_cases e : 0 < cnt (cap2 R S) I
  · have := c5 e; have := c4 (by omega); omega
  · have := c4 (by omega); omega
theorem card_none (R : Nat → Bool) : ∀ n, (∀ v, v < n → R v = false) → cardR R n = 0
  | 0, _ => rfl
  | n + 1, h => by simp [cardR, card_none R n (fun v hv => h v (by omega)), h n (by omega)]
theorem card_one_only (R : Nat → Bool) (a : Nat) (ra : R a = true) : ∀ n, a < n → cardR R n ≤ 1 → ∀ v, v < n → R v = true → v = a := by
  intro n ha h v hv hr
  by_cases e : v = a
  · exact e
  · have := card_two R v a hr ra e n hv ha
    omega
theorem tight_tri {N : Nat} {I : List (Nat × Nat)} (hI : Sparse N 2 3 I) {a b c : Nat} (ha : a < N) (hb : b < N) (hc : c < N) (hab : a ≠ b) (hac : a ≠ c) (hbc : b ≠ c)
    (h1 : Imp N I a b) (h2 : Imp N I a c) (h3 : Imp N I b c) : ∃ R, Tight N I R ∧ R a = true ∧ R b = true ∧ R c = true := by
  obtain ⟨A, tA, a1, a2⟩ := h1
  obtain ⟨B, tB, b1, b2⟩ := h2
  obtain ⟨C, tC, c1, c2⟩ := h3
  by_cases k1 : 2 ≤ cardR (cap2 A B) N
  · exact ⟨_, tight_union2 hI tA tB k1, by simp [uni, a1], by simp [uni, a2], by simp [uni, b2]⟩
  by_cases k2 : 2 ≤ cardR (cap2 A C) N
  · exact ⟨_, tight_union2 hI tA tC k2, by simp [uni, a1], by simp [uni, a2], by simp [uni, c2]⟩
  by_cases k3 : 2 ≤ cardR (cap2 B C) N
  · exact ⟨_, tight_union2 hI tB tC k3, by simp [uni, b1], by simp [uni, c1], by simp [uni, b2]⟩
  cases ca : C a with
  | true => exact ⟨C, tC, ca, c1, c2⟩
  | false =>
    have e1 : cardR (cap2 (cap2 A B) C) N = 0 := by
      refine card_none _ _ (fun v hv => ?_)
      cases e : cap2 (cap2 A B) C v with
      | false => rfl
      | true =>
        simp only [cap2, Bool.and_eq_true] at e
        have := card_one_only (cap2 A B) a (by simp [cap2, a1, b1]) N ha (by omega) v hv (by simp [cap2, e.1.1, e.1.2])
        subst this
        rw [ca] at e
        exact absurd e.2 (by simp)
    have f1 := cnt_tri A B C I
    have f2 := card_tri A B C N
    have g1 := card_one (cap2 A B) a (by simp [cap2, a1, b1]) N ha
    have g2 := card_one (cap2 A C) b (by simp [cap2, a2, c1]) N hb
    have g3 := card_one (cap2 B C) c (by simp [cap2, b2, c2]) N hc
    have z1 := cnt_zero_of hI (R := cap2 A B) (by omega)
    have z2 := cnt_zero_of hI (R := cap2 A C) (by omega)
    have z3 := cnt_zero_of hI (R := cap2 B C) (by omega)
    have c4 := hI (uni (uni A B) C)
    have m1 := cnt_mono A (uni (uni A B) C) (fun v h => by simp [uni, h]) I
    refine ⟨uni (uni A B) C, ?_, by simp [uni, a1], by simp [uni, a2], by simp [uni, b2]⟩
    have d1 := card_two A a b a1 a2 hab N ha hb
    unfold Tight at *
    have := c4 (by omega)
    omega
theorem ground_tight {N : Nat} {I : List (Nat × Nat)} (hI : Sparse N 2 3 I) (gr : Nat → Nat) : ∀ m, 2 ≤ m → (∀ i, i < m → gr i < N) → (∀ i j, i < j → j < m → gr i ≠ gr j) →
    (∀ i, 1 ≤ i → i < m → Imp N I (gr 0) (gr i)) → (∀ i, 2 ≤ i → i < m → Imp N I (gr 1) (gr i)) → ∃ R, Tight N I R ∧ ∀ i, i < m → R (gr i) = true
  | 0, h, _, _, _, _ => absurd h (by omega)
  | 1, h, _, _, _, _ => absurd h (by omega)
  | 2, _, hN, hd, h0, h1 => by
    obtain ⟨R, t, r1, r2⟩ := h0 1 (Nat.le_refl _) (by omega)
    refine ⟨R, t, fun i hi => ?_⟩
    rcases (show i = 0 ∨ i = 1 by omega) with rfl | rfl
    · exact r1
    · exact r2
  | m + 3, _, hN, hd, h0, h1 => by
    obtain ⟨R, t, r⟩ := ground_tight hI gr (m + 2) (by omega) (fun i hi => hN i (by omega)) (fun i j h1 h2 => hd i j h1 (by omega)) (fun i h1 h2 => h0 i h1 (by omega)) (fun i h2 h3 => h1 i h2 (by omega))
    obtain ⟨T, tt, t0, t1, t2⟩ := tight_tri hI (hN 0 (by omega)) (hN 1 (by omega)) (hN (m + 2) (by omega)) (hd 0 1 (by omega) (by omega)) (hd 0 (m + 2) (by omega) (by omega)) (hd 1 (m + 2) (by omega) (by omega))
      (h0 1 (Nat.le_refl _) (by omega)) (h0 (m + 2) (by omega) (by omega)) (h1 (m + 2) (by omega) (by omega))
    refine ⟨_, tight_union hI t tt (gr 0) (gr 1) (hd 0 1 (by omega) (by omega)) (hN 0 (by omega)) (hN 1 (by omega)) (r 0 (by omega)) (r 1 (by omega)) t0 t1, fun i hi => ?_⟩
    rcases Nat.lt_or_ge i (m + 2) with h | h
    · simp [uni, r i h]
    · obtain rfl : i = m + 2 := by omega
      simp [uni, t2]
theorem not_sparse_of_tight {N : Nat} {I : List (Nat × Nat)} {R : Nat → Bool} (h : Tight N I R) {x : Nat × Nat} (hx : inn R x = true) : ¬ Sparse N 2 3 (I ++ [x]) := by
  intro hs
  have h1 := hs R
  rw [cnt_append] at h1
  have hc : cnt R [x] = 1 := by simp [cnt, hx]
  rw [hc] at h1
  have := h1 (by omega)
  unfold Tight at h
  omega
theorem greedy_skip {N : Nat} {I : List (Nat × Nat)} : ∀ xs : List (Nat × Nat), (∀ x ∈ xs, ∃ R, Tight N I R ∧ inn R x = true) → greedy N 2 3 I xs = I
  | [], _ => rfl
  | x :: xs, h => by
    obtain ⟨R, t, r⟩ := h x (by simp)
    simp only [greedy]
    rw [if_neg (not_sparse_of_tight t r)]
    exact greedy_skip xs (fun y hy => h y (by simp [hy]))
structure Grd (N m : Nat) (gr : Nat → Nat) (S : List (Nat × Nat)) : Prop where
  two : 2 ≤ m
  lt : ∀ i, i < m → gr i < N
  ne : ∀ i j, i < j → j < m → gr i ≠ gr j
  b0 : ∀ i, 1 ≤ i → i < m → (gr 0, gr i) ∈ S
  b1 : ∀ i, 2 ≤ i → i < m → (gr 1, gr i) ∈ S
theorem Grd.tight {N m : Nat} {gr : Nat → Nat} {S L : List (Nat × Nat)} (h : Grd N m gr S) (hL : ∀ x ∈ L, GoodBar N x) (hs : ∀ x ∈ S, x ∈ L) :
    ∃ R, Tight N (greedy N 2 3 [] L) R ∧ ∀ i, i < m → R (gr i) = true := by
  have ht := greedy_tight L [] hL (sparse_nil N 2 3)
  have imp : ∀ x ∈ S, Imp N (greedy N 2 3 [] L) x.1 x.2 := by
    intro x hx
    obtain ⟨R, t, r⟩ := ht x (hs x hx)
    simp only [inn, Bool.and_eq_true] at r
    exact ⟨R, t, r.1, r.2⟩
  exact ground_tight (greedy_sparse N 2 3 L [] (sparse_nil N 2 3)) gr m h.two h.lt h.ne (fun i h1 h2 => imp _ (h.b0 i h1 h2)) (fun i h1 h2 => imp _ (h.b1 i h1 h2))
theorem Grd.same {N m : Nat} {gr : Nat → Nat} {S L M : List (Nat × Nat)} (h : Grd N m gr S) (hL : ∀ x ∈ L, GoodBar N x) (hM : ∀ x ∈ M, GoodBar N x) (hs : ∀ x ∈ S, x ∈ L) (hLM : ∀ x ∈ L, x ∈ M)
    (hML : ∀ x ∈ M, x ∈ L ∨ ∃ i j, i < m ∧ j < m ∧ x = (gr i, gr j)) : rk N M = rk N L := by
  obtain ⟨R, t, r⟩ := h.tight hL hs
  have e1 : rk N M = rk N (L ++ M) := rank_same M (L ++ M) hM (fun x => by
    simp only [List.mem_append]
    exact ⟨fun h => .inr h, fun h' => h'.elim (hLM x) id⟩)
  rw [e1]
  unfold rk
  rw [greedy_append, greedy_skip M (fun x hx => ?_)]
  rcases hML x hx with h' | ⟨i, j, hi, hj, rfl⟩
  · exact greedy_tight L [] hL (sparse_nil N 2 3) x h'
  · exact ⟨R, t, by simp [inn, r i hi, r j hj]⟩
theorem rk_same_iff {N : Nat} {L : List (Nat × Nat)} (hL : ∀ x ∈ L, GoodBar N x) {a b : Nat} (hx : GoodBar N (a, b)) : rk N (L ++ [(a, b)]) = rk N L ↔ Imp N (greedy N 2 3 [] L) a b := by
  unfold rk
  rw [greedy_append]
  simp only [greedy]
  constructor
  · intro he
    split at he
    · simp at he
    · rename_i hn
      obtain ⟨R, t, r⟩ := greedy_tight (L ++ [(a, b)]) [] (fun x h => by
        rcases List.mem_append.1 h with h | h
        · exact hL x h
        · simp only [List.mem_cons, List.not_mem_nil, or_false] at h; subst h; exact hx) (sparse_nil N 2 3) (a, b) (by simp)
      rw [greedy_append] at t
      simp only [greedy] at t
      rw [if_neg hn] at t
      simp only [inn, Bool.and_eq_true] at r
      exact ⟨R, t, r.1, r.2⟩
  · rintro ⟨R, t, r1, r2⟩
    rw [if_neg (not_sparse_of_tight t (by simp [inn, r1, r2]))]
theorem rk_le_succ {N : Nat} {L : List (Nat × Nat)} (x : Nat × Nat) : rk N L ≤ rk N (L ++ [x]) ∧ rk N (L ++ [x]) ≤ rk N L + 1 := by
  unfold rk
  rw [greedy_append]
  simp only [greedy]
  split
  · simp
  · simp
theorem Grd.steady {N m : Nat} {gr : Nat → Nat} {S L : List (Nat × Nat)} (h : Grd N m gr S) (hL : ∀ x ∈ L, GoodBar N x) (hs : ∀ x ∈ S, x ∈ L) {v : Nat} (hv : v < N) :
    ((gr 0 = v ∨ rk N (L ++ [(gr 0, v)]) = rk N L) ∧ (gr 1 = v ∨ rk N (L ++ [(gr 1, v)]) = rk N L)) ↔ ∀ i, i < m → gr i = v ∨ rk N (L ++ [(gr i, v)]) = rk N L := by
  have h2 := h.two
  constructor
  · rintro ⟨h0, h1⟩ i hi
    by_cases e : gr i = v
    · exact .inl e
    right
    rw [rk_same_iff hL ⟨e, h.lt i hi, hv⟩]
    obtain ⟨R, t, r⟩ := h.tight hL hs
    by_cases e0 : gr 0 = v
    · exact ⟨R, t, r i hi, by rw [← e0]; exact r 0 (by omega)⟩
    by_cases e1 : gr 1 = v
    · exact ⟨R, t, r i hi, by rw [← e1]; exact r 1 (by omega)⟩
    have i0 := (rk_same_iff hL (a := gr 0) (b := v) ⟨e0, h.lt 0 (by omega), hv⟩).1 (h0.resolve_left e0)
    have i1 := (rk_same_iff hL (a := gr 1) (b := v) ⟨e1, h.lt 1 (by omega), hv⟩).1 (h1.resolve_left e1)
    have hsp := greedy_sparse N 2 3 L [] (sparse_nil N 2 3)
    obtain ⟨T, tt, t0, t1, t2⟩ := tight_tri hsp (h.lt 0 (by omega)) (h.lt 1 (by omega)) hv (h.ne 0 1 (by omega) (by omega)) e0 e1 ⟨R, t, r 0 (by omega), r 1 (by omega)⟩ i0 i1
    exact ⟨_, tight_union hsp t tt (gr 0) (gr 1) (h.ne 0 1 (by omega) (by omega)) (h.lt 0 (by omega)) (h.lt 1 (by omega)) (r 0 (by omega)) (r 1 (by omega)) t0 t1, by simp [uni, r i hi], by simp [uni, t2]⟩
  · intro h'
    exact ⟨h' 0 (by omega), h' 1 (by omega)⟩
end Go.Proofs.YtgdbnnmogddkaaaGreat.Mat
namespace Go.Proofs.YtgdbnnmogddkaaaGreat.Mach
open Go Go.Sort
set_option linter.unusedVariables false
set_option linter.unusedSimpArgs false
def SHo (p : T_Pinned) (i n : Nat) (h : Nat → T_Bar) : St :=
  ⟨[pinA p, .pt 3 0 0 0, .p .any, .ar 2 1 0 n] ++ List.replicate 6 anyA ++ [inL p.2.1, .p (.int .i64 p.2.1.1), .p (.int .i64 i)] ++ List.replicate 23 anyA, [(0, boxP p), (1, brOb n h)], 2⟩
def SHi (p : T_Pinned) (i j n : Nat) (h : Nat → T_Bar) : St :=
  ⟨[pinA p, .pt 3 0 0 0, .p .any, .ar 2 1 0 n, .p .any, .p (.int .i64 (p.2.1.2 i))] ++ List.replicate 4 anyA ++ [inL p.2.1, .p (.int .i64 p.2.1.1), .p (.int .i64 i)] ++ List.replicate 8 anyA ++
    [.p (.seq true 1 (p.2.1.1 - (i + 1)) (fun s => [.int .i64 (p.2.1.2 (s + (i + 1)))])), .p (.int .i64 ((p.2.1.1 - (i + 1) : Nat) : Int)), .p (.int .i64 j)] ++ List.replicate 12 anyA, [(0, boxP p), (1, brOb n h)], 2⟩
def SKl (p : T_Pinned) (k n : Nat) (h : Nat → T_Bar) : St :=
  ⟨[pinA p, .pt 3 0 0 0, .pt 2 1 0 0, .pt 2 2 0 0, .p (.int .i64 k)] ++ List.replicate 39 anyA, [(0, boxP p), (1, zG2), (2, ⟨true, 2, 1, fun _ => [.p (.int .i64 p.1.1), .ar 2 3 0 n]⟩), (3, brOb n h)], 4⟩
def SKa (p : T_Pinned) (k n : Nat) (h : Nat → T_Bar) : St :=
  ⟨[pinA p, .pt 3 0 0 0, .pt 2 1 0 0, .pt 2 2 0 0, .p (.int .i64 k)] ++ List.replicate 19 anyA, [(0, boxP p), (1, zG2), (2, ⟨true, 2, 1, fun _ => [.p (.int .i64 p.1.1), .ar 2 3 0 n]⟩), (3, brOb n h)], 4⟩
theorem hAz (p : T_Pinned) :
    pieceOb Tryz.prog 0 [rg 2, rg 2, rg 4, .head] [.code (bodyOf Tryz.f104)] (start Tryz.f104 [] 0 [pinA p]) [0, 64] 1 (SHo p 0 0 (fun _ => (0, 0, ()))) =
    some (zf59, [(NT 0 1),(AI p.1.1),(AN p.1.2.1.1),(AP p.1.2.1.1 (fun i => [.int .i64 ((p.1.2.1.2 i).1), .int .i64 ((p.1.2.1.2 i).2.1)])),(AN p.2.1.1),(AP p.2.1.1 (fun i => [.int .i64 (p.2.1.2 i)])),(AN 0),(AN 0),(AN 0),(AN p.2.1.1),(AP p.2.1.1 (fun i => [.int .i64 (p.2.1.2 i)])),(AI ((↑p.2.1.1 : Int))),((0 : Int) = (↑0 : Int)),((([AV.p (PV.int IntKind.i64 p.1.1), graphL p.1.2.1, inL p.2.1].length) : Nat) = 3),(NL 1 1),(NL 1 1),(AI p.1.1),(AN p.1.2.1.1),(AP p.1.2.1.1 (fun i => [.int .i64 ((p.1.2.1.2 i).1), .int .i64 ((p.1.2.1.2 i).2.1)])),(AN p.2.1.1),(AP p.2.1.1 (fun i => [.int .i64 (p.2.1.2 i)])),(AN 2),(NL 0 0),(AA 0 (fun i => [.p (.int .i64 0), .p (.int .i64 0)]))]) := by kernel_rfl
theorem hAo (p : T_Pinned) (i n : Nat) (h : Nat → T_Bar) :
    pieceOb Tryz.prog 0 [rg 1, .dec true, rg 5, rg 7, .head] zf59 (SHo p i n h) [0, 1] 1 (SHi p i 0 n h) =
    some (zf8, [((decide ((↑i : Int) < (↑p.2.1.1 : Int))) = true),(IL 0 (↑i : Int)),(IT (↑i : Int) (↑p.2.1.1 : Int)),(NT 0 1),(R0 ((↑i : Int) + 1)),(R1 ((↑i : Int) + 1)),(IL 0 ((↑i : Int) + 1)),(IL ((↑i : Int) + 1) (↑p.2.1.1 : Int)),(IL (↑p.2.1.1 : Int) (↑p.2.1.1 : Int)),(AI p.1.1),(AN p.1.2.1.1),(AP p.1.2.1.1 (fun i_1 => [.int .i64 ((p.1.2.1.2 i_1).1), .int .i64 ((p.1.2.1.2 i_1).2.1)])),(AN p.2.1.1),(AP p.2.1.1 (fun i_1 => [.int .i64 (p.2.1.2 i_1)])),(AN 0),(AN 0),(AN n),(AI ((p.2.1.2 i))),(AN p.2.1.1),(AP p.2.1.1 (fun i_1 => [.int .i64 (p.2.1.2 i_1)])),(AI ((↑p.2.1.1 : Int))),(AI ((↑i : Int))),(AN ((p.2.1.1 - (i + 1)))),(AP ((p.2.1.1 - (i + 1))) (fun i_1 => [.int .i64 (p.2.1.2 (i_1 + (i + 1)))])),(AI ((↑(p.2.1.1 - (i + 1)) : Int))),((0 : Int) = (↑0 : Int)),(AN 3),(NL 1 1),(NL 1 1),(AI p.1.1),(AN p.1.2.1.1),(AP p.1.2.1.1 (fun i_1 => [.int .i64 ((p.1.2.1.2 i_1).1), .int .i64 ((p.1.2.1.2 i_1).2.1)])),(AN p.2.1.1),(AP p.2.1.1 (fun i_1 => [.int .i64 (p.2.1.2 i_1)])),(AN 2),(NL n n),(AA n (fun i_1 => [.p (.int .i64 ((h i_1).1)), .p (.int .i64 ((h i_1).2.1))]))]) := by kernel_rfl
theorem hAi (p : T_Pinned) (i j n : Nat) (h : Nat → T_Bar) (x : T_Bar) :
    pieceOb Tryz.prog 0 [rg 1, .dec true, rg 3, rm [(3, oc [] (.agg [.p (.int .i64 x.1), .p (.int .i64 x.2.1)]))] 3, rg 2, .head] zf8 (SHi p i j n h) [0, 290] 1 (SHi p i (j + 1) (n + 1) (snoc n h x)) =
    some (zf8, [((decide ((↑j : Int) < (↑(p.2.1.1 - (i + 1)) : Int))) = true),(IL 0 (↑j : Int)),(IT (↑j : Int) (↑(p.2.1.1 - (i + 1)) : Int)),Con Tryz.prog 36 0 [] [.p (.int .i64 (p.2.1.2 i)), .p (.int .i64 (p.2.1.2 (j + (i + 1))))] [] (.agg [.p (.int .i64 x.1), .p (.int .i64 x.2.1)]),(NL 1 1),(NL n n),(NL ((n + 1) * 16) 140737488355328),(NL (n + 1) 9223372036854775807),(R0 ((↑j : Int) + 1)),(R1 ((↑j : Int) + 1)),(AI p.1.1),(AN p.1.2.1.1),(AP p.1.2.1.1 (fun i_1 => [.int .i64 ((p.1.2.1.2 i_1).1), .int .i64 ((p.1.2.1.2 i_1).2.1)])),(AN p.2.1.1),(AP p.2.1.1 (fun i_1 => [.int .i64 (p.2.1.2 i_1)])),(AN 0),(AN 0),(AN ((n + 1))),(AI ((p.2.1.2 i))),(AN p.2.1.1),(AP p.2.1.1 (fun i_1 => [.int .i64 (p.2.1.2 i_1)])),(AI ((↑p.2.1.1 : Int))),(AI ((↑i : Int))),(AN ((p.2.1.1 - (i + 1)))),(AP ((p.2.1.1 - (i + 1))) (fun i_1 => [.int .i64 (p.2.1.2 (i_1 + (i + 1)))])),(AI ((↑(p.2.1.1 - (i + 1)) : Int))),((((↑j : Int) + 1) : Int) = (↑(j + 1) : Int)),(AN 3),(NL 1 1),(NL 1 1),(AI p.1.1),(AN p.1.2.1.1),(AP p.1.2.1.1 (fun i_1 => [.int .i64 ((p.1.2.1.2 i_1).1), .int .i64 ((p.1.2.1.2 i_1).2.1)])),(AN p.2.1.1),(AP p.2.1.1 (fun i_1 => [.int .i64 (p.2.1.2 i_1)])),(AN 2),(NL (n + 1) (n + 1)),(CV [(290, ⟨false, 2, (n + 1), (fun i_2 => (if (i_2 < n) then [.p (.int .i64 ((h i_2).1)), .p (.int .i64 ((h i_2).2.1))] else [.p (.int .i64 x.1), .p (.int .i64 x.2.1)]))⟩), (258, ⟨false, 2, 1, (fun i_2 => [.p (.int .i64 x.1), .p (.int .i64 x.2.1)])⟩), (0, ⟨true, 3, 1, (fun i_2 => [.p (.int .i64 p.1.1), .p (.seq true 2 p.1.2.1.1 (fun i_3 => [.int .i64 ((p.1.2.1.2 i_3).1), .int .i64 ((p.1.2.1.2 i_3).2.1)])), .p (.seq true 1 p.2.1.1 (fun i_3 => [.int .i64 (p.2.1.2 i_3)]))])⟩)] [0, 290] 1 (n + 1) (fun i_1 => if (i_1 < n) then [.p (.int .i64 ((h i_1).1)), .p (.int .i64 ((h i_1).2.1))] else [.p (.int .i64 x.1), .p (.int .i64 x.2.1)]) (fun i_1 => [.p (.int .i64 (if i_1 < n then (h i_1).1 else x.1)), .p (.int .i64 (if i_1 < n then (h i_1).2.1 else x.2.1))]))]) := by kernel_rfl
theorem hAx (p : T_Pinned) (i j n : Nat) (h : Nat → T_Bar) :
    pieceOb Tryz.prog 0 [rg 1, .dec false, rg 2, .head] zf8 (SHi p i j n h) [0, 1] 1 (SHo p (i + 1) n h) =
    some (zf59, [((decide ((↑j : Int) < (↑(p.2.1.1 - (i + 1)) : Int))) = false),(R0 ((↑i : Int) + 1)),(R1 ((↑i : Int) + 1)),(AI p.1.1),(AN p.1.2.1.1),(AP p.1.2.1.1 (fun i_1 => [.int .i64 ((p.1.2.1.2 i_1).1), .int .i64 ((p.1.2.1.2 i_1).2.1)])),(AN p.2.1.1),(AP p.2.1.1 (fun i_1 => [.int .i64 (p.2.1.2 i_1)])),(AN 0),(AN 0),(AN n),(AN p.2.1.1),(AP p.2.1.1 (fun i_1 => [.int .i64 (p.2.1.2 i_1)])),(AI ((↑p.2.1.1 : Int))),((((↑i : Int) + 1) : Int) = (↑(i + 1) : Int)),(AN 3),(NL 1 1),(NL 1 1),(AI p.1.1),(AN p.1.2.1.1),(AP p.1.2.1.1 (fun i_1 => [.int .i64 ((p.1.2.1.2 i_1).1), .int .i64 ((p.1.2.1.2 i_1).2.1)])),(AN p.2.1.1),(AP p.2.1.1 (fun i_1 => [.int .i64 (p.2.1.2 i_1)])),(AN 2),(NL n n),(AA n (fun i_1 => [.p (.int .i64 ((h i_1).1)), .p (.int .i64 ((h i_1).2.1))]))]) := by kernel_rfl
theorem hAe (p : T_Pinned) (i n : Nat) (h : Nat → T_Bar) :
    pathOb Tryz.prog Tryz.f104 0 [rg 1, .dec false, rg 2] zf59 (SHo p i n h) [1] 1 [(0, brOb n h)] (.ar 2 0 0 n) =
    some [((decide ((↑i : Int) < (↑p.2.1.1 : Int))) = false),(AN 0),(AN n),(AN 2),(NL n n),(AA n (fun i_1 => [.p (.int .i64 ((h i_1).1)), .p (.int .i64 ((h i_1).2.1))])),(AE n)] := by kernel_rfl
theorem hKz (p : T_Pinned) :
    pieceOb Tryz.prog 0 [rg 2, rg 7, rg 1, .head] [.code (bodyOf Tryz.f114)] (start Tryz.f114 [] 0 [pinA p]) [0, 32, 224, 160] 1 (SKl p 1 0 (fun _ => (0, 0, ()))) =
    some (zf60, [(NT 0 1),(NT 0 1),((true = true) →  (AN 1)),(AI p.1.1),(AN p.1.2.1.1),(AP p.1.2.1.1 (fun i => [.int .i64 ((p.1.2.1.2 i).1), .int .i64 ((p.1.2.1.2 i).2.1)])),(AN p.2.1.1),(AP p.2.1.1 (fun i => [.int .i64 (p.2.1.2 i)])),(AN 0),(AN 0),(AN 0),((1 : Int) = (↑1 : Int)),((([AV.p (PV.int IntKind.i64 p.1.1), graphL p.1.2.1, inL p.2.1].length) : Nat) = 3),(NL 1 1),(NL 1 1),(AI p.1.1),(AN p.1.2.1.1),(AP p.1.2.1.1 (fun i => [.int .i64 ((p.1.2.1.2 i).1), .int .i64 ((p.1.2.1.2 i).2.1)])),(AN p.2.1.1),(AP p.2.1.1 (fun i => [.int .i64 (p.2.1.2 i)])),((((List.map (fun v => AV.p (absV v)) [Value.int IntKind.i64 0, Value.slice none 0 0]).length) : Nat) = 2),(NL 1 1),(NL 1 1),(AI 0),((((List.map (fun v => AV.p (absV v)) [Value.int IntKind.i64 0, Value.slice none 0 0]).length) : Nat) = 2),(NL 1 1),(NL 1 1),(AI p.1.1),(AN 0),(AN 0),(AN 2),(NL 0 0),(AA 0 (fun i => [.p (.int .i64 0), .p (.int .i64 0)]))]) := by kernel_rfl
theorem hKa (p : T_Pinned) (k n m : Nat) (h r : Nat → T_Bar) :
    pieceOb Tryz.prog 0 [rg 5, .dec true, rm [(11, oc [(0, brOb m r)] (.agg [.p (.int .i64 p.1.1), .ar 2 0 0 m]))] 1, rg 2, .dec false, rg 3, .head] zf60 (SKl p k n h) [0, 1, 2, 516] 1 (SKl p (k + 1) m r) =
    some (zf60, [(NT 0 1),((decide ((↑k : Int) < (↑p.2.1.1 : Int))) = true),(NT 0 1),(NT 0 1),(IL 0 0),(IT 0 (↑p.2.1.1 : Int)),(NT 0 1),(IL 0 (↑k : Int)),(IT (↑k : Int) (↑p.2.1.1 : Int)),(AN 2),(NL n n),Con Tryz.prog 87 0 [] [(zf113 p n h), .agg [.p (.int .i64 (p.2.1.2 0)), .p (.int .i64 (p.2.1.2 k))]] (zf121 m r) (.agg [.p (.int .i64 p.1.1), .ar 2 0 0 m]),(NT 0 1),((true = true) →  (AN 1)),((decide ((↑k : Int) > 1)) = false),(R0 ((↑k : Int) + 1)),(R1 ((↑k : Int) + 1)),(AI p.1.1),(AN p.1.2.1.1),(AP p.1.2.1.1 (fun i => [.int .i64 ((p.1.2.1.2 i).1), .int .i64 ((p.1.2.1.2 i).2.1)])),(AN p.2.1.1),(AP p.2.1.1 (fun i => [.int .i64 (p.2.1.2 i)])),(AN 0),(AN 0),(AN 0),((((↑k : Int) + 1) : Int) = (↑(k + 1) : Int)),(AN 3),(NL 1 1),(NL 1 1),(AI p.1.1),(AN p.1.2.1.1),(AP p.1.2.1.1 (fun i => [.int .i64 ((p.1.2.1.2 i).1), .int .i64 ((p.1.2.1.2 i).2.1)])),(AN p.2.1.1),(AP p.2.1.1 (fun i => [.int .i64 (p.2.1.2 i)])),(AN 2),(NL 1 1),(NL 1 1),(AI 0),(AN 2),(NL 1 1),(NL 1 1),(AI p.1.1),(AN 0),(AN m),(AN 2),(NL m m),(AA m (fun i => [.p (.int .i64 ((r i).1)), .p (.int .i64 ((r i).2.1))]))]) := by kernel_rfl
theorem hKb (p : T_Pinned) (k n m m2 : Nat) (h r r2 : Nat → T_Bar) :
    pieceOb Tryz.prog 0 [rg 5, .dec true, rm [(11, oc [(0, brOb m r)] (.agg [.p (.int .i64 p.1.1), .ar 2 0 0 m]))] 1, rg 2, .dec true, rm [(11, oc [(0, brOb m2 r2)] (.agg [.p (.int .i64 p.1.1), .ar 2 0 0 m2]))] 1, rg 3, .head] zf60 (SKl p k n h) [0, 1, 2, 996] 1 (SKl p (k + 1) m2 r2) =
    some (zf60, [(NT 0 1),((decide ((↑k : Int) < (↑p.2.1.1 : Int))) = true),(NT 0 1),(NT 0 1),(IL 0 0),(IT 0 (↑p.2.1.1 : Int)),(NT 0 1),(IL 0 (↑k : Int)),(IT (↑k : Int) (↑p.2.1.1 : Int)),(AN 2),(NL n n),Con Tryz.prog 87 0 [] [(zf113 p n h), .agg [.p (.int .i64 (p.2.1.2 0)), .p (.int .i64 (p.2.1.2 k))]] (zf121 m r) (.agg [.p (.int .i64 p.1.1), .ar 2 0 0 m]),(NT 0 1),((true = true) →  (AN 1)),((decide ((↑k : Int) > 1)) = true),(NT 0 1),(NT 0 1),(IL 0 1),(IT 1 (↑p.2.1.1 : Int)),(NT 0 1),(IL 0 (↑k : Int)),(IT (↑k : Int) (↑p.2.1.1 : Int)),(AN 2),(NL m m),Con Tryz.prog 87 0 [] [(zf113 p m r), .agg [.p (.int .i64 (p.2.1.2 1)), .p (.int .i64 (p.2.1.2 k))]] (zf121 m2 r2) (.agg [.p (.int .i64 p.1.1), .ar 2 0 0 m2]),(NT 0 1),((true = true) →  (AN 1)),(R0 ((↑k : Int) + 1)),(R1 ((↑k : Int) + 1)),(AI p.1.1),(AN p.1.2.1.1),(AP p.1.2.1.1 (fun i => [.int .i64 ((p.1.2.1.2 i).1), .int .i64 ((p.1.2.1.2 i).2.1)])),(AN p.2.1.1),(AP p.2.1.1 (fun i => [.int .i64 (p.2.1.2 i)])),(AN 0),(AN 0),(AN 0),((((↑k : Int) + 1) : Int) = (↑(k + 1) : Int)),(AN 3),(NL 1 1),(NL 1 1),(AI p.1.1),(AN p.1.2.1.1),(AP p.1.2.1.1 (fun i => [.int .i64 ((p.1.2.1.2 i).1), .int .i64 ((p.1.2.1.2 i).2.1)])),(AN p.2.1.1),(AP p.2.1.1 (fun i => [.int .i64 (p.2.1.2 i)])),(AN 2),(NL 1 1),(NL 1 1),(AI 0),(AN 2),(NL 1 1),(NL 1 1),(AI p.1.1),(AN 0),(AN m2),(AN 2),(NL m2 m2),(AA m2 (fun i => [.p (.int .i64 ((r2 i).1)), .p (.int .i64 ((r2 i).2.1))]))]) := by kernel_rfl
theorem hKe (p : T_Pinned) (k n : Nat) (h : Nat → T_Bar) :
    pathOb Tryz.prog Tryz.f114 0 [rg 5, .dec false, rg 2] zf60 (SKl p k n h) [3] 1 [(0, brOb n h)] (.agg [.p (.int .i64 p.1.1), .ar 2 0 0 n]) =
    some [(NT 0 1),((decide ((↑k : Int) < (↑p.2.1.1 : Int))) = false),(NT 0 1),(NT 0 1),((true = true) →  (AN 1)),(NT 0 1),(AI p.1.1),(AN 0),(AN n),(AN 2),(NL n n),(AA n (fun i => [.p (.int .i64 ((h i).1)), .p (.int .i64 ((h i).2.1))])),(AE n)] := by kernel_rfl
theorem hLz (p : T_Pinned) (n : Nat) (h : Nat → T_Bar) :
    pieceOb Tryz.prog 0 [rg 2, rm [(1, oc [(0, brOb n h)] (.agg [.p (.int .i64 p.1.1), .ar 2 0 0 n]))] 2, rg 1, .head] [.code (bodyOf Tryz.f90)] (start Tryz.f90 [] 0 [pinA p]) [0, 32, 128, 96] 1 (SKa p 0 n h) =
    some (zf74, [(NT 0 1),Con Tryz.prog 114 0 [] [(zf26 p)] (zf121 n h) (.agg [.p (.int .i64 p.1.1), .ar 2 0 0 n]),(NT 0 1),((true = true) →  (AN 1)),(AI p.1.1),(AN p.1.2.1.1),(AP p.1.2.1.1 (fun i => [.int .i64 ((p.1.2.1.2 i).1), .int .i64 ((p.1.2.1.2 i).2.1)])),(AN p.2.1.1),(AP p.2.1.1 (fun i => [.int .i64 (p.2.1.2 i)])),(AN 0),(AN 0),(AN 0),((0 : Int) = (↑0 : Int)),((([AV.p (PV.int IntKind.i64 p.1.1), graphL p.1.2.1, inL p.2.1].length) : Nat) = 3),(NL 1 1),(NL 1 1),(AI p.1.1),(AN p.1.2.1.1),(AP p.1.2.1.1 (fun i => [.int .i64 ((p.1.2.1.2 i).1), .int .i64 ((p.1.2.1.2 i).2.1)])),(AN p.2.1.1),(AP p.2.1.1 (fun i => [.int .i64 (p.2.1.2 i)])),((((List.map (fun v => AV.p (absV v)) [Value.int IntKind.i64 0, Value.slice none 0 0]).length) : Nat) = 2),(NL 1 1),(NL 1 1),(AI 0),((((List.map (fun v => AV.p (absV v)) [Value.int IntKind.i64 0, Value.slice none 0 0]).length) : Nat) = 2),(NL 1 1),(NL 1 1),(AI p.1.1),(AN 0),(AN n),(AN 2),(NL n n),(AA n (fun i => [.p (.int .i64 ((h i).1)), .p (.int .i64 ((h i).2.1))]))]) := by kernel_rfl
theorem hLa (p : T_Pinned) (k n m : Nat) (h r : Nat → T_Bar) :
    pieceOb Tryz.prog 0 [rg 6, .dec true, rm [(7, oc [(0, brOb m r)] (.agg [.p (.int .i64 p.1.1), .ar 2 0 0 m]))] 1, rg 3, .head] zf74 (SKa p k n h) [0, 1, 2, 420] 1 (SKa p (k + 1) m r) =
    some (zf74, [(NT 0 1),((decide ((↑k : Int) < (↑p.1.2.1.1 : Int))) = true),(NT 0 1),(NT 0 1),(IL 0 (↑k : Int)),(IT (↑k : Int) (↑p.1.2.1.1 : Int)),(AN 2),(NL n n),Con Tryz.prog 87 0 [] [(zf113 p n h), .agg [.p (.int .i64 ((p.1.2.1.2 k).1)), .p (.int .i64 ((p.1.2.1.2 k).2.1))]] (zf121 m r) (.agg [.p (.int .i64 p.1.1), .ar 2 0 0 m]),(NT 0 1),((true = true) →  (AN 1)),(R0 ((↑k : Int) + 1)),(R1 ((↑k : Int) + 1)),(AI p.1.1),(AN p.1.2.1.1),(AP p.1.2.1.1 (fun i => [.int .i64 ((p.1.2.1.2 i).1), .int .i64 ((p.1.2.1.2 i).2.1)])),(AN p.2.1.1),(AP p.2.1.1 (fun i => [.int .i64 (p.2.1.2 i)])),(AN 0),(AN 0),(AN 0),((((↑k : Int) + 1) : Int) = (↑(k + 1) : Int)),(AN 3),(NL 1 1),(NL 1 1),(AI p.1.1),(AN p.1.2.1.1),(AP p.1.2.1.1 (fun i => [.int .i64 ((p.1.2.1.2 i).1), .int .i64 ((p.1.2.1.2 i).2.1)])),(AN p.2.1.1),(AP p.2.1.1 (fun i => [.int .i64 (p.2.1.2 i)])),(AN 2),(NL 1 1),(NL 1 1),(AI 0),(AN 2),(NL 1 1),(NL 1 1),(AI p.1.1),(AN 0),(AN m),(AN 2),(NL m m),(AA m (fun i => [.p (.int .i64 ((r i).1)), .p (.int .i64 ((r i).2.1))]))]) := by kernel_rfl
theorem hLe (p : T_Pinned) (k n : Nat) (h : Nat → T_Bar) :
    pathOb Tryz.prog Tryz.f90 0 [rg 6, .dec false, rg 2] zf74 (SKa p k n h) [3] 1 [(0, brOb n h)] (.agg [.p (.int .i64 p.1.1), .ar 2 0 0 n]) =
    some [(NT 0 1),((decide ((↑k : Int) < (↑p.1.2.1.1 : Int))) = false),(NT 0 1),(NT 0 1),((true = true) →  (AN 1)),(NT 0 1),(AI p.1.1),(AN 0),(AN n),(AN 2),(NL n n),(AA n (fun i => [.p (.int .i64 ((h i).1)), .p (.int .i64 ((h i).2.1))])),(AE n)] := by kernel_rfl
theorem hPn (p : T_Pinned) :
    pathOb Tryz.prog Tryz.f103 0 [rg 2, rm [(1, oc [] (.p (.bool false)))] 1, .dec true, rg 1] [.code (bodyOf Tryz.f103)] (start Tryz.f103 [] 0 [pinA p]) [] 1 [] (.p (.int .i64 (-1))) =
    some [(NT 0 1),Con Tryz.prog 63 0 [] [(zf26 p)] [] (.p (.bool false)),((!false) = true),(AI ((-1)))] := by kernel_rfl
theorem hPy (p : T_Pinned) (n : Nat) (h : Nat → T_Bar) (r1 r0 : Nat) :
    pathOb Tryz.prog Tryz.f103 0 [rg 2, rm [(1, oc [] (.p (.bool true)))] 1, .dec false, rg 4, rm [(2, oc [(0, brOb n h)] (.ar 2 0 0 n)), (4, oc [] (.p (.int .i64 r1))), (2, oc [(0, brOb n h)] (.ar 2 0 0 n)), (0, oc [] (.p (.int .i64 r0)))] 2] [.code (bodyOf Tryz.f103)] (start Tryz.f103 [] 0 [pinA p]) [] 1 [] (.p (.int .i64 ((r1 : Int) - (r0 : Int)))) =
    some [(NT 0 1),Con Tryz.prog 63 0 [] [(zf26 p)] [] (.p (.bool true)),((!true) = false),(NT 0 1),(NT 0 1),Con Tryz.prog 104 0 [] [(zf26 p)] (zf121 n h) (.ar 2 0 0 n),(NT 0 1),(NL n n),(NL ((n + p.1.2.1.1) * 16) 140737488355328),(NL (n + p.1.2.1.1) 9223372036854775807),(AN 2),(NL (n + p.1.2.1.1) (n + p.1.2.1.1)),Con Tryz.prog 121 0 [] [.p (.int .i64 p.1.1), .p (.seq true 2 (n + p.1.2.1.1) (fun i => [(cellP true (if (i < n) then [.p (.int .i64 ((h i).1)), .p (.int .i64 ((h i).2.1))] else [.p (.int .i64 ((p.1.2.1.2 (i - n)).1)), .p (.int .i64 ((p.1.2.1.2 (i - n)).2.1))]) 0), (cellP true (if (i < n) then [.p (.int .i64 ((h i).1)), .p (.int .i64 ((h i).2.1))] else [.p (.int .i64 ((p.1.2.1.2 (i - n)).1)), .p (.int .i64 ((p.1.2.1.2 (i - n)).2.1))]) 1)]))] [] (.p (.int .i64 (↑r1 : Int))),(NT 0 1),Con Tryz.prog 104 0 [] [(zf26 p)] (zf121 n h) (.ar 2 0 0 n),(AN 2),(NL n n),Con Tryz.prog 121 0 [] [.p (.int .i64 p.1.1), .p (.seq true 2 n (fun i => [.int .i64 ((h i).1), .int .i64 ((h i).2.1)]))] [] (.p (.int .i64 (↑r0 : Int))),(R0 ((↑r1 : Int) - (↑r0 : Int))),(R1 ((↑r1 : Int) - (↑r0 : Int))),(AI (((↑r1 : Int) - (↑r0 : Int))))] := by kernel_rfl
theorem hQn (p : T_Pinned) :
    pathOb Tryz.prog Tryz.f89 0 [rg 2, rm [(1, oc [] (.p (.bool false)))] 1, .dec true, rg 1] [.code (bodyOf Tryz.f89)] (start Tryz.f89 [] 0 [pinA p]) [] 1 [] (.p (.int .i64 (-1))) =
    some [(NT 0 1),Con Tryz.prog 51 0 [] [(zf26 p)] [] (.p (.bool false)),((!false) = true),(AI ((-1)))] := by kernel_rfl
theorem hQy (p : T_Pinned) (n m : Nat) (h k : Nat → T_Bar) (r1 r0 : Nat) :
    pathOb Tryz.prog Tryz.f89 0 [rg 2, rm [(1, oc [] (.p (.bool true)))] 1, .dec false, rm [(1, oc [(0, brOb n h)] (.agg [.p (.int .i64 p.1.1), .ar 2 0 0 n])), (0, oc [] (.p (.int .i64 r1))), (1, oc [(0, brOb m k)] (.agg [.p (.int .i64 p.1.1), .ar 2 0 0 m])), (0, oc [] (.p (.int .i64 r0)))] 2] [.code (bodyOf Tryz.f89)] (start Tryz.f89 [] 0 [pinA p]) [] 1 [] (.p (.int .i64 ((r1 : Int) - (r0 : Int)))) =
    some [(NT 0 1),Con Tryz.prog 51 0 [] [(zf26 p)] [] (.p (.bool true)),((!true) = false),(NT 0 1),Con Tryz.prog 90 0 [] [(zf26 p)] (zf121 n h) (.agg [.p (.int .i64 p.1.1), .ar 2 0 0 n]),(AN 2),(NL n n),Con Tryz.prog 113 0 [] [(zf113 p n h)] [] (.p (.int .i64 (↑r1 : Int))),(NT 0 1),Con Tryz.prog 114 0 [] [(zf26 p)] (zf121 m k) (.agg [.p (.int .i64 p.1.1), .ar 2 0 0 m]),(AN 2),(NL m m),Con Tryz.prog 113 0 [] [(zf113 p m k)] [] (.p (.int .i64 (↑r0 : Int))),(R0 ((↑r1 : Int) - (↑r0 : Int))),(R1 ((↑r1 : Int) - (↑r0 : Int))),(AI (((↑r1 : Int) - (↑r0 : Int))))] := by kernel_rfl
abbrev NB := Nat × (Nat → T_Bar)
def zNB : NB := (0, fun _ => (0, 0, ()))
def sn (r : NB) (x : T_Bar) : NB := (r.1 + 1, snoc r.1 r.2 x)
def hIn (s : Nat → Int) (i : Nat) (r : NB) : Nat → NB
  | 0 => r
  | j + 1 => sn (hIn s i r j) (brX (s i) (s (j + (i + 1))))
def hC (s : Nat → Int) (m : Nat) : Nat → NB
  | 0 => zNB
  | i + 1 => hIn s i (hC s m i) (m - (i + 1))
def hS (s : Nat → Int) : Nat → NB
  | 0 => zNB
  | k + 1 => if 1 ≤ k then insR (insR (hS s k).2 (hS s k).1 (s 0, s (k + 1), ())).2 (insR (hS s k).2 (hS s k).1 (s 0, s (k + 1), ())).1 (s 1, s (k + 1), ()) else insR (hS s k).2 (hS s k).1 (s 0, s (k + 1), ())
def aS (g : Nat → T_Bar) (r : NB) : Nat → NB
  | 0 => r
  | k + 1 => insR (aS g r k).2 (aS g r k).1 (g k)
def aC (r : NB) (g : Nat → T_Bar) (i : Nat) : T_Bar := (if i < r.1 then (r.2 i).1 else (g (i - r.1)).1, if i < r.1 then (r.2 i).2.1 else (g (i - r.1)).2.1, ())
def mem (r : NB) (y : T_Bar) : Prop := ∃ s, s < r.1 ∧ r.2 s = y
theorem hIn_n (s : Nat → Int) (i : Nat) (r : NB) : ∀ j, (hIn s i r j).1 = r.1 + j
  | 0 => rfl
  | j + 1 => by simp only [hIn, sn, hIn_n s i r j]; omega
theorem hC_n (s : Nat → Int) (m : Nat) : ∀ i, (hC s m i).1 ≤ i * m
  | 0 => by simp [hC, zNB]
  | i + 1 => by
    have := hC_n s m i
    simp only [hC, hIn_n]
    rw [Nat.add_mul]; omega
theorem hIn_mem (s : Nat → Int) (i : Nat) (r : NB) (y : T_Bar) : ∀ j, mem (hIn s i r j) y ↔ mem r y ∨ ∃ q, q < j ∧ brX (s i) (s (q + (i + 1))) = y
  | 0 => by
    constructor
    · intro h; exact .inl h
    · rintro (h | ⟨q, h, _⟩)
      · exact h
      · exact absurd h (Nat.not_lt_zero _)
  | j + 1 => by
    have ih := hIn_mem s i r y j
    show (∃ t, t < (hIn s i r j).1 + 1 ∧ snoc (hIn s i r j).1 (hIn s i r j).2 _ t = y) ↔ _
    rw [snoc_mem]
    rw [show (∃ t, t < (hIn s i r j).1 ∧ (hIn s i r j).2 t = y) ↔ _ from ih]
    constructor
    · rintro ((h | ⟨q, h1, h2⟩) | h)
      · exact .inl h
      · exact .inr ⟨q, by omega, h2⟩
      · exact .inr ⟨j, by omega, h⟩
    · rintro (h | ⟨q, h1, h2⟩)
      · exact .inl (.inl h)
      · by_cases e : q = j
        · subst e; exact .inr h2
        · exact .inl (.inr ⟨q, by omega, h2⟩)
theorem hC_mem (s : Nat → Int) (m : Nat) (y : T_Bar) : ∀ i, i ≤ m → (mem (hC s m i) y ↔ ∃ a b, a < i ∧ a < b ∧ b < m ∧ brX (s a) (s b) = y)
  | 0, _ => by
    constructor
    · rintro ⟨t, h, _⟩; exact absurd h (Nat.not_lt_zero _)
    · rintro ⟨a, b, h, _⟩; exact absurd h (Nat.not_lt_zero _)
  | i + 1, hi => by
    have ih := hC_mem s m y i (by omega)
    simp only [hC]
    rw [hIn_mem, ih]
    constructor
    · rintro (⟨a, b, h1, h2, h3, h4⟩ | ⟨q, h1, h2⟩)
      · exact ⟨a, b, by omega, h2, h3, h4⟩
      · exact ⟨i, q + (i + 1), by omega, by omega, by omega, h2⟩
    · rintro ⟨a, b, h1, h2, h3, h4⟩
      by_cases e : a = i
      · subst e; exact .inr ⟨b - (a + 1), by omega, by rw [show b - (a + 1) + (a + 1) = b by omega]; exact h4⟩
      · exact .inl ⟨a, b, by omega, h2, h3, h4⟩
theorem mem_ins (r : NB) (x y : T_Bar) : mem (insR r.2 r.1 x) y ↔ mem r y ∨ x = y := insR_mem r.2 r.1 x y
theorem hS_mem (s : Nat → Int) (y : T_Bar) : ∀ k, mem (hS s k) y ↔ ∃ b, 1 ≤ b ∧ b ≤ k ∧ ((s 0, s b, ()) = y ∨ (2 ≤ b ∧ (s 1, s b, ()) = y))
  | 0 => by
    constructor
    · rintro ⟨t, h, _⟩; exact absurd h (Nat.not_lt_zero _)
    · rintro ⟨b, h1, h2, _⟩; omega
  | k + 1 => by
    have ih := hS_mem s y k
    simp only [hS]
    split
    · rename_i h1
      rw [mem_ins, mem_ins, ih]
      constructor
      · rintro ((⟨b, h2, h3, h4⟩ | h) | h)
        · exact ⟨b, h2, by omega, h4⟩
        · exact ⟨k + 1, by omega, Nat.le_refl _, .inl h⟩
        · exact ⟨k + 1, by omega, Nat.le_refl _, .inr ⟨by omega, h⟩⟩
      · rintro ⟨b, h2, h3, h4⟩
        by_cases e : b = k + 1
        · subst e
          rcases h4 with h4 | h4
          · exact .inl (.inr h4)
          · exact .inr h4.2
        · exact .inl (.inl ⟨b, h2, by omega, h4⟩)
    · rename_i h1
      rw [mem_ins, ih]
      constructor
      · rintro (⟨b, h2, h3, h4⟩ | h)
        · exact ⟨b, h2, by omega, h4⟩
        · exact ⟨k + 1, by omega, Nat.le_refl _, .inl h⟩
      · rintro ⟨b, h2, h3, h4⟩
        by_cases e : b = k + 1
        · subst e
          rcases h4 with h4 | h4
          · exact .inr h4
          · omega
        · exact .inl ⟨b, h2, by omega, h4⟩
theorem hS_n (s : Nat → Int) : ∀ k, (hS s k).1 ≤ 2 * k ∧ (1 ≤ k → (hS s k).1 + 1 ≤ 2 * k)
  | 0 => by simp [hS, zNB]
  | k + 1 => by
    have ih := hS_n s k
    simp only [hS]
    split
    · rw [insR_n, insR_n]; omega
    · rw [insR_n]; omega
theorem aS_mem (g : Nat → T_Bar) (r : NB) (y : T_Bar) : ∀ k, mem (aS g r k) y ↔ mem r y ∨ ∃ i, i < k ∧ g i = y
  | 0 => by
    constructor
    · intro h; exact .inl h
    · rintro (h | ⟨q, h, _⟩)
      · exact h
      · exact absurd h (Nat.not_lt_zero _)
  | k + 1 => by
    have ih := aS_mem g r y k
    simp only [aS]
    rw [mem_ins, ih]
    constructor
    · rintro ((h | ⟨q, h1, h2⟩) | h)
      · exact .inl h
      · exact .inr ⟨q, by omega, h2⟩
      · exact .inr ⟨k, by omega, h⟩
    · rintro (h | ⟨q, h1, h2⟩)
      · exact .inl (.inl h)
      · by_cases e : q = k
        · subst e; exact .inr h2
        · exact .inl (.inr ⟨q, by omega, h2⟩)
theorem aS_n (g : Nat → T_Bar) (r : NB) : ∀ k, (aS g r k).1 = r.1 + k
  | 0 => rfl
  | k + 1 => by simp only [aS, insR_n, aS_n g r k]; omega
theorem aC_lt {r : NB} {g : Nat → T_Bar} {i : Nat} (h : i < r.1) : aC r g i = r.2 i := by simp only [aC, h, if_true]
theorem aC_ge {r : NB} {g : Nat → T_Bar} {i : Nat} (h : ¬ i < r.1) : aC r g i = g (i - r.1) := by simp only [aC, h, if_false]
theorem aC_mem (r : NB) (g : Nat → T_Bar) (nb : Nat) (y : T_Bar) : mem (r.1 + nb, aC r g) y ↔ mem r y ∨ ∃ i, i < nb ∧ g i = y := by
  constructor
  · rintro ⟨t, h1, h2⟩
    by_cases e : t < r.1
    · exact .inl ⟨t, e, by rw [← h2]; exact (aC_lt e).symm⟩
    · exact .inr ⟨t - r.1, by have : t < r.1 + nb := h1; omega, by rw [← h2]; exact (aC_ge e).symm⟩
  · rintro (⟨t, h1, h2⟩ | ⟨i, h1, h2⟩)
    · exact ⟨t, by show t < r.1 + nb; omega, by show aC r g t = y; rw [aC_lt h1]; exact h2⟩
    · exact ⟨r.1 + i, by show r.1 + i < r.1 + nb; omega, by show aC r g (r.1 + i) = y; rw [aC_ge (by omega), show r.1 + i - r.1 = i by omega]; exact h2⟩
theorem con_held (p : T_Pinned) (hm : p.2.1.1 ≤ 8) : Con Tryz.prog 104 0 [] [pinA p] [(0, brOb (hC p.2.1.2 p.2.1.1 p.2.1.1).1 (hC p.2.1.2 p.2.1.1 p.2.1.1).2)] (.ar 2 0 0 (hC p.2.1.2 p.2.1.1 p.2.1.1).1) := by
  refine con_start Tryz.func104 rfl (by kernel_rfl) rfl (fun c hc => ?_)
  generalize hR : hC p.2.1.2 p.2.1.1 p.2.1.1 = R
  have li : ∀ i, i < p.2.1.1 → (Run Tryz.prog c 104 zf59 (SHo p (i + 1) (hC p.2.1.2 p.2.1.1 (i + 1)).1 (hC p.2.1.2 p.2.1.1 (i + 1)).2) (Post c [(0, brOb R.1 R.2)] (.ar 2 0 0 R.1))) →
      ∀ d j, j + d = p.2.1.1 - (i + 1) → Run Tryz.prog c 104 zf8 (SHi p i j (hIn p.2.1.2 i (hC p.2.1.2 p.2.1.1 i) j).1 (hIn p.2.1.2 i (hC p.2.1.2 p.2.1.1 i) j).2) (Post c [(0, brOb R.1 R.2)] (.ar 2 0 0 R.1)) := by
    intro i hi hk d
    induction d with
    | zero =>
      intro j hj
      obtain rfl : j = p.2.1.1 - (i + 1) := by omega
      have hd : decide (((p.2.1.1 - (i + 1) : Nat) : Int) < ((p.2.1.1 - (i + 1) : Nat) : Int)) = false := by simp
      refine piece_ok mixed hc (hAx p i (p.2.1.1 - (i + 1)) _ _) ?_ hk
      simp only [All]
      repeat' (first | exact trivial | with_reducible apply And.intro)
      all_goals (first | exact aP _ _ | exact aA _ _ | omega | rfl | (intros; first | assumption | exact trivial | rfl | contradiction | ((repeat' (first | assumption | apply anda | apply notf)); done)) | (exact hd) | (intro t ht; simp [All, aEt]))
    | succ d ih =>
      intro j hj
      have hd : decide ((j : Int) < ((p.2.1.1 - (i + 1) : Nat) : Int)) = true := decide_eq_true (by omega)
      have cb := con_barX (p.2.1.2 i) (p.2.1.2 (j + (i + 1)))
      have hn := hIn_n p.2.1.2 i (hC p.2.1.2 p.2.1.1 i) j
      have hn2 := hC_n p.2.1.2 p.2.1.1 i
      have hn3 : i * p.2.1.1 ≤ 64 := Nat.le_trans (Nat.mul_le_mul (show i ≤ 8 by omega) hm) (by omega)
      have hrec := ih (j + 1) (by omega)
      generalize hq : hIn p.2.1.2 i (hC p.2.1.2 p.2.1.1 i) j = q at hn ⊢
      rw [show hIn p.2.1.2 i (hC p.2.1.2 p.2.1.1 i) (j + 1) = sn q (brX (p.2.1.2 i) (p.2.1.2 (j + (i + 1)))) by rw [hIn, hq]] at hrec
      refine piece_ok mixed hc (hAi p i j q.1 q.2 (brX (p.2.1.2 i) (p.2.1.2 (j + (i + 1))))) ?_ hrec
      simp only [All]
      repeat' (first | exact trivial | with_reducible apply And.intro)
      all_goals (first | exact aP _ _ | omega | rfl | (intros; first | assumption | exact trivial | rfl | contradiction | ((repeat' (first | assumption | apply anda | apply notf)); done)) | (exact hd) | (exact cb) | (intro t ht; by_cases h' : t < q.1 <;> simp [h', snoc, cvtL, cvt, tg, tru, All]))
  have lo : ∀ d i, i + d = p.2.1.1 → Run Tryz.prog c 104 zf59 (SHo p i (hC p.2.1.2 p.2.1.1 i).1 (hC p.2.1.2 p.2.1.1 i).2) (Post c [(0, brOb R.1 R.2)] (.ar 2 0 0 R.1)) := by
    intro d
    induction d with
    | zero =>
      intro i hi
      obtain rfl : i = p.2.1.1 := by omega
      have hd : decide ((p.2.1.1 : Int) < (p.2.1.1 : Int)) = false := by simp
      rw [hR]
      refine path_ok mixed Tryz.func104 hc (hAe p p.2.1.1 R.1 R.2) ?_
      simp only [All]
      repeat' (first | exact trivial | with_reducible apply And.intro)
      all_goals (first | exact aA _ _ | exact aE _ | omega | rfl | (intros; first | assumption | exact trivial | rfl | contradiction | ((repeat' (first | assumption | apply anda | apply notf)); done)) | (exact hd) | (intro t ht; simp [All, aEt]))
    | succ d ih =>
      intro i hi
      have hd : decide ((i : Int) < (p.2.1.1 : Int)) = true := decide_eq_true (by omega)
      refine piece_ok mixed hc (hAo p i _ _) ?_ (li i (by omega) (ih (i + 1) (by omega)) (p.2.1.1 - (i + 1)) 0 (by omega))
      simp only [All]
      repeat' (first | exact trivial | with_reducible apply And.intro)
      all_goals (first | exact aP _ _ | exact aA _ _ | omega | rfl | (intros; first | assumption | exact trivial | rfl | contradiction | ((repeat' (first | assumption | apply anda | apply notf)); done)) | (exact hd) | (intro t ht; simp [All, aEt]))
  refine piece_ok mixed hc (hAz p) ?_ (lo p.2.1.1 0 (by omega))
  simp only [All]
  repeat' (first | exact trivial | with_reducible apply And.intro)
  all_goals (first | exact aP _ _ | exact aA _ _ | omega | rfl | (intros; first | assumption | exact trivial | rfl | contradiction | ((repeat' (first | assumption | apply anda | apply notf)); done)) | (intro t ht; exact absurd ht (Nat.not_lt_zero _)) | (intro t ht; simp [All, aEt]))
theorem con_l20Held (p : T_Pinned) (h1 : 0 ≤ p.1.1) (hm : 1 ≤ p.2.1.1 ∧ p.2.1.1 ≤ 8) : Con Tryz.prog 114 0 [] [pinA p] [(0, brOb (hS p.2.1.2 (p.2.1.1 - 1)).1 (hS p.2.1.2 (p.2.1.1 - 1)).2)] (.agg [.p (.int .i64 p.1.1), .ar 2 0 0 (hS p.2.1.2 (p.2.1.1 - 1)).1]) := by
  refine con_start Tryz.func114 rfl (by kernel_rfl) rfl (fun c hc => ?_)
  have hN : ((p.1.1.toNat : Nat) : Int) = p.1.1 := by omega
  generalize hR : hS p.2.1.2 (p.2.1.1 - 1) = R
  have lo : ∀ d k, k + 1 + d = p.2.1.1 → Run Tryz.prog c 114 zf60 (SKl p (k + 1) (hS p.2.1.2 k).1 (hS p.2.1.2 k).2) (Post c [(0, brOb R.1 R.2)] (.agg [.p (.int .i64 p.1.1), .ar 2 0 0 R.1])) := by
    intro d
    induction d with
    | zero =>
      intro k hk
      have hd : decide (((k + 1 : Nat) : Int) < (p.2.1.1 : Int)) = false := decide_eq_false (by omega)
      rw [show k = p.2.1.1 - 1 by omega, hR]
      rw [show k = p.2.1.1 - 1 by omega] at hd
      refine path_ok mixed Tryz.func114 hc (hKe p (p.2.1.1 - 1 + 1) R.1 R.2) ?_
      simp only [All]
      repeat' (first | exact trivial | with_reducible apply And.intro)
      all_goals (first | exact aA _ _ | exact aE _ | omega | rfl | (intros; first | assumption | exact trivial | rfl | contradiction | ((repeat' (first | assumption | apply anda | apply notf)); done)) | (exact hd) | (intro t ht; simp [All, aEt]))
    | succ d ih =>
      intro k hk
      have hd : decide (((k + 1 : Nat) : Int) < (p.2.1.1 : Int)) = true := decide_eq_true (by omega)
      have hrec := ih (k + 1) (by omega)
      have hn := hS_n p.2.1.2 k
      have hs : hS p.2.1.2 (k + 1) = if 1 ≤ k then insR (insR (hS p.2.1.2 k).2 (hS p.2.1.2 k).1 (p.2.1.2 0, p.2.1.2 (k + 1), ())).2 (insR (hS p.2.1.2 k).2 (hS p.2.1.2 k).1 (p.2.1.2 0, p.2.1.2 (k + 1), ())).1 (p.2.1.2 1, p.2.1.2 (k + 1), ()) else insR (hS p.2.1.2 k).2 (hS p.2.1.2 k).1 (p.2.1.2 0, p.2.1.2 (k + 1), ()) := rfl
      generalize hS p.2.1.2 k = q at hn hs ⊢
      have c1 := con_l2Put q.2 q.1 p.1.1.toNat (p.2.1.2 0, p.2.1.2 (k + 1), ()) (by omega)
      have n1 := insR_n q.2 q.1 (p.2.1.2 0, p.2.1.2 (k + 1), ())
      rw [grG, hN] at c1
      generalize insR q.2 q.1 (p.2.1.2 0, p.2.1.2 (k + 1), ()) = q1 at c1 n1 hs
      by_cases h1k : 1 ≤ k
      · have hg : decide (((k + 1 : Nat) : Int) > 1) = true := decide_eq_true (by omega)
        rw [if_pos h1k] at hs
        have c2 := con_l2Put q1.2 q1.1 p.1.1.toNat (p.2.1.2 1, p.2.1.2 (k + 1), ()) (by omega)
        rw [grG, hN] at c2
        rw [hs] at hrec
        generalize insR q1.2 q1.1 (p.2.1.2 1, p.2.1.2 (k + 1), ()) = q2 at c2 hrec
        refine piece_ok mixed hc (hKb p (k + 1) q.1 q1.1 q2.1 q.2 q1.2 q2.2) ?_ hrec
        simp only [All]
        repeat' (first | exact trivial | with_reducible apply And.intro)
        all_goals (first | exact aP _ _ | exact aA _ _ | omega | rfl | (intros; first | assumption | exact trivial | rfl | contradiction | ((repeat' (first | assumption | apply anda | apply notf)); done)) | (exact hd) | (exact hg) | (exact c1) | (exact c2) | (intro t ht; simp [All, aEt]))
      · have hg : decide (((k + 1 : Nat) : Int) > 1) = false := decide_eq_false (by omega)
        rw [if_neg h1k] at hs
        rw [hs] at hrec
        refine piece_ok mixed hc (hKa p (k + 1) q.1 q1.1 q.2 q1.2) ?_ hrec
        simp only [All]
        repeat' (first | exact trivial | with_reducible apply And.intro)
        all_goals (first | exact aP _ _ | exact aA _ _ | omega | rfl | (intros; first | assumption | exact trivial | rfl | contradiction | ((repeat' (first | assumption | apply anda | apply notf)); done)) | (exact hd) | (exact hg) | (exact c1) | (intro t ht; simp [All, aEt]))
  refine piece_ok mixed hc (hKz p) ?_ (lo (p.2.1.1 - 1) 0 (by omega))
  simp only [All]
  repeat' (first | exact trivial | with_reducible apply And.intro)
  all_goals (first | exact aP _ _ | exact aA _ _ | omega | rfl | (intros; first | assumption | exact trivial | rfl | contradiction | ((repeat' (first | assumption | apply anda | apply notf)); done)) | (intro t ht; exact absurd ht (Nat.not_lt_zero _)) | (intro t ht; simp [All, aEt]))
def alS (p : T_Pinned) : NB := aS p.1.2.1.2 (hS p.2.1.2 (p.2.1.1 - 1)) p.1.2.1.1
theorem con_l20All (p : T_Pinned) (h1 : 0 ≤ p.1.1) (hm : 1 ≤ p.2.1.1 ∧ p.2.1.1 ≤ 8) (hn : p.1.2.1.1 ≤ 1000) : Con Tryz.prog 90 0 [] [pinA p] [(0, brOb (alS p).1 (alS p).2)] (.agg [.p (.int .i64 p.1.1), .ar 2 0 0 (alS p).1]) := by
  have c0 := con_l20Held p h1 hm
  have hn0 := hS_n p.2.1.2 (p.2.1.1 - 1)
  unfold alS
  refine con_start Tryz.func90 rfl (by kernel_rfl) rfl (fun c hc => ?_)
  have hN : ((p.1.1.toNat : Nat) : Int) = p.1.1 := by omega
  generalize hS p.2.1.2 (p.2.1.1 - 1) = r0 at c0 hn0 ⊢
  generalize hR : aS p.1.2.1.2 r0 p.1.2.1.1 = R
  have lo : ∀ d k, k + d = p.1.2.1.1 → Run Tryz.prog c 90 zf74 (SKa p k (aS p.1.2.1.2 r0 k).1 (aS p.1.2.1.2 r0 k).2) (Post c [(0, brOb R.1 R.2)] (.agg [.p (.int .i64 p.1.1), .ar 2 0 0 R.1])) := by
    intro d
    induction d with
    | zero =>
      intro k hk
      obtain rfl : k = p.1.2.1.1 := by omega
      have hd : decide ((p.1.2.1.1 : Int) < (p.1.2.1.1 : Int)) = false := by simp
      rw [hR]
      refine path_ok mixed Tryz.func90 hc (hLe p p.1.2.1.1 R.1 R.2) ?_
      simp only [All]
      repeat' (first | exact trivial | with_reducible apply And.intro)
      all_goals (first | exact aA _ _ | exact aE _ | omega | rfl | (intros; first | assumption | exact trivial | rfl | contradiction | ((repeat' (first | assumption | apply anda | apply notf)); done)) | (exact hd) | (intro t ht; simp [All, aEt]))
    | succ d ih =>
      intro k hk
      have hd : decide ((k : Int) < (p.1.2.1.1 : Int)) = true := decide_eq_true (by omega)
      have hrec := ih (k + 1) (by omega)
      have hnk := aS_n p.1.2.1.2 r0 k
      rw [show aS p.1.2.1.2 r0 (k + 1) = insR (aS p.1.2.1.2 r0 k).2 (aS p.1.2.1.2 r0 k).1 (p.1.2.1.2 k) from rfl] at hrec
      generalize aS p.1.2.1.2 r0 k = q at hnk hrec ⊢
      have c1 := con_l2Put q.2 q.1 p.1.1.toNat (p.1.2.1.2 k) (by omega)
      rw [grG, hN] at c1
      generalize insR q.2 q.1 (p.1.2.1.2 k) = q1 at c1 hrec
      refine piece_ok mixed hc (hLa p k q.1 q1.1 q.2 q1.2) ?_ hrec
      simp only [All]
      repeat' (first | exact trivial | with_reducible apply And.intro)
      all_goals (first | exact aP _ _ | exact aA _ _ | omega | rfl | (intros; first | assumption | exact trivial | rfl | contradiction | ((repeat' (first | assumption | apply anda | apply notf)); done)) | (exact hd) | (exact c1) | (intro t ht; simp [All, aEt]))
  refine piece_ok mixed hc (hLz p r0.1 r0.2) ?_ (lo p.1.2.1.1 0 (by omega))
  simp only [All]
  repeat' (first | exact trivial | with_reducible apply And.intro)
  all_goals (first | exact aP _ _ | exact aA _ _ | omega | rfl | (intros; first | assumption | exact trivial | rfl | contradiction | ((repeat' (first | assumption | apply anda | apply notf)); done)) | (exact c0) | (intro t ht; simp [All, aEt]))
def hlC (p : T_Pinned) : NB := hC p.2.1.2 p.2.1.1 p.2.1.1
def alC (p : T_Pinned) : NB := ((hlC p).1 + p.1.2.1.1, aC (hlC p) p.1.2.1.2)
def hlS (p : T_Pinned) : NB := hS p.2.1.2 (p.2.1.1 - 1)
noncomputable def rkN (N : Nat) (r : NB) : Nat := (accI N 2 3 r.2 r.1).length
def OkN (N : Nat) (r : NB) : Prop := OkBars N r.1 r.2
theorem okN_mem {N : Nat} {r : NB} (h : ∀ y, mem r y → 0 ≤ y.1 ∧ y.1 < y.2.1 ∧ y.2.1 < N) : OkN N r := fun e he => h _ ⟨e, he, rfl⟩
theorem okN_at {N : Nat} {r : NB} (h : OkN N r) {y : T_Bar} (hy : mem r y) : 0 ≤ y.1 ∧ y.1 < y.2.1 ∧ y.2.1 < N := by
  obtain ⟨e, he, rfl⟩ := hy
  exact h e he
structure PinOk (p : T_Pinned) : Prop where
  N : 1 ≤ p.1.1 ∧ p.1.1 ≤ 8
  m : 2 ≤ p.2.1.1 ∧ p.2.1.1 ≤ 8
  nb : p.1.2.1.1 ≤ 15 ∧ p.1.2.1.1 + 2 * p.2.1.1 ≤ 27
  gr : ∀ i, i < p.2.1.1 → 0 ≤ p.2.1.2 i ∧ p.2.1.2 i < p.1.1
  asc : ∀ i j, i < j → j < p.2.1.1 → p.2.1.2 i < p.2.1.2 j
  bars : ∀ i, i < p.1.2.1.1 → 0 ≤ (p.1.2.1.2 i).1 ∧ (p.1.2.1.2 i).1 < (p.1.2.1.2 i).2.1 ∧ (p.1.2.1.2 i).2.1 < p.1.1
theorem pin_ok {p : T_Pinned} (h : pinnedF p = true) : PinOk p := by
  have h1 := pinned_in h
  have h2 := graph_inR h1.1
  simp only [pinnedF, Bool.and_eq_true] at h
  exact ⟨⟨h2.1, h2.2.1⟩, ⟨h1.2.1, h1.2.2.1⟩, h1.2.2.2, fun i hi => ⟨(goodP_at h.1 i hi).1, (goodP_at h.1 i hi).2.1⟩, fun i j hij hj => goodP_asc h.1 j i hij hj,
    fun i hi => by have := goodB_at h2.2.2.2 i hi; exact ⟨this.1, this.2.1, this.2.2.1⟩⟩
theorem PinOk.brx {p : T_Pinned} (h : PinOk p) {a b : Nat} (h1 : a < b) (h2 : b < p.2.1.1) : brX (p.2.1.2 a) (p.2.1.2 b) = (p.2.1.2 a, p.2.1.2 b, ()) := by
  have := h.asc a b h1 h2
  simp only [brX]
  rw [if_neg (by omega), if_pos (by omega)]
theorem PinOk.okHS {p : T_Pinned} (h : PinOk p) : OkN p.1.1.toNat (hlS p) := by
  refine okN_mem (fun y hy => ?_)
  have hN := h.N; have hm := h.m
  rw [hlS, hS_mem] at hy
  obtain ⟨b, h1, h2, h3⟩ := hy
  have gb := h.gr b (by omega)
  rcases h3 with rfl | ⟨h3, rfl⟩
  · have g0 := h.gr 0 (by omega)
    have := h.asc 0 b (by omega) (by omega)
    simp only; omega
  · have g1 := h.gr 1 (by omega)
    have := h.asc 1 b (by omega) (by omega)
    simp only; omega
theorem PinOk.okHC {p : T_Pinned} (h : PinOk p) : OkN p.1.1.toNat (hlC p) := by
  refine okN_mem (fun y hy => ?_)
  have hN := h.N
  rw [hlC, hC_mem _ _ _ _ (Nat.le_refl _)] at hy
  obtain ⟨a, b, h1, h2, h3, rfl⟩ := hy
  have ga := h.gr a (by omega); have gb := h.gr b h3
  have := h.asc a b h2 h3
  rw [h.brx h2 h3]
  simp only; omega
theorem PinOk.okAS {p : T_Pinned} (h : PinOk p) : OkN p.1.1.toNat (alS p) := by
  refine okN_mem (fun y hy => ?_)
  have hN := h.N
  rw [alS, aS_mem] at hy
  rcases hy with hy | ⟨i, h1, rfl⟩
  · exact okN_at h.okHS hy
  · have := h.bars i h1; omega
theorem PinOk.okAC {p : T_Pinned} (h : PinOk p) : OkN p.1.1.toNat (alC p) := by
  refine okN_mem (fun y hy => ?_)
  have hN := h.N
  rw [alC, aC_mem] at hy
  rcases hy with hy | ⟨i, h1, rfl⟩
  · exact okN_at h.okHC hy
  · have := h.bars i h1; omega
theorem rkN_rk (N : Nat) (r : NB) : rkN N r = Mat.rk N (bL r.2 r.1) := acc_len N 2 3 r.2 r.1
theorem bL_in (r : NB) (x : Nat × Nat) : x ∈ bL r.2 r.1 ↔ ∃ y, mem r y ∧ brN y = x := by
  rw [bL_mem]
  constructor
  · rintro ⟨s, h1, h2⟩; exact ⟨_, ⟨s, h1, rfl⟩, h2⟩
  · rintro ⟨y, ⟨s, h1, rfl⟩, h2⟩; exact ⟨s, h1, h2⟩
theorem PinOk.grd {p : T_Pinned} (h : PinOk p) : Mat.Grd p.1.1.toNat p.2.1.1 (fun i => (p.2.1.2 i).toNat) (bL (hlS p).2 (hlS p).1) where
  two := h.m.1
  lt i hi := by have := h.gr i hi; show (p.2.1.2 i).toNat < _; omega
  ne i j hij hj := by have := h.asc i j hij hj; have := h.gr i (by omega); show (p.2.1.2 i).toNat ≠ (p.2.1.2 j).toNat; omega
  b0 i h1 h2 := by
    rw [bL_in]
    refine ⟨(p.2.1.2 0, p.2.1.2 i, ()), ?_, rfl⟩
    rw [hlS, hS_mem]
    exact ⟨i, h1, by omega, .inl rfl⟩
  b1 i h1 h2 := by
    rw [bL_in]
    refine ⟨(p.2.1.2 1, p.2.1.2 i, ()), ?_, rfl⟩
    rw [hlS, hS_mem]
    exact ⟨i, by omega, by omega, .inr ⟨h1, rfl⟩⟩
theorem PinOk.same {p : T_Pinned} (h : PinOk p) {r q : NB} (hr : OkN p.1.1.toNat r) (hq : OkN p.1.1.toNat q) (hs : ∀ y, mem (hlS p) y → mem r y) (h1 : ∀ y, mem r y → mem q y)
    (h2 : ∀ y, mem q y → mem r y ∨ mem (hlC p) y) : rkN p.1.1.toNat q = rkN p.1.1.toNat r := by
  rw [rkN_rk, rkN_rk]
  refine h.grd.same (bL_good hr) (bL_good hq) (fun x hx => ?_) (fun x hx => ?_) (fun x hx => ?_)
  · rw [bL_in] at hx ⊢
    obtain ⟨y, h3, h4⟩ := hx
    exact ⟨y, hs y h3, h4⟩
  · rw [bL_in] at hx ⊢
    obtain ⟨y, h3, h4⟩ := hx
    exact ⟨y, h1 y h3, h4⟩
  · rw [bL_in] at hx
    obtain ⟨y, h3, h4⟩ := hx
    rcases h2 y h3 with h5 | h5
    · exact .inl ((bL_in _ _).2 ⟨y, h5, h4⟩)
    · rw [hlC, hC_mem _ _ _ _ (Nat.le_refl _)] at h5
      obtain ⟨a, b, h6, h7, h8, rfl⟩ := h5
      rw [h.brx h7 h8] at h4
      exact .inr ⟨a, b, h6, h8, h4.symm⟩
theorem PinOk.few {p : T_Pinned} (h : PinOk p) (y : T_Bar) (hy : mem (hlS p) y) : mem (hlC p) y := by
  have hm := h.m
  rw [hlS, hS_mem] at hy
  rw [hlC, hC_mem _ _ _ _ (Nat.le_refl _)]
  obtain ⟨b, h1, h2, h3⟩ := hy
  rcases h3 with rfl | ⟨h3, rfl⟩
  · exact ⟨0, b, by omega, by omega, by omega, h.brx (by omega) (by omega)⟩
  · exact ⟨1, b, by omega, by omega, by omega, h.brx (by omega) (by omega)⟩
theorem PinOk.rkH {p : T_Pinned} (h : PinOk p) : rkN p.1.1.toNat (hlC p) = rkN p.1.1.toNat (hlS p) :=
  h.same h.okHS h.okHC (fun y hy => hy) h.few (fun y hy => .inr hy)
theorem PinOk.rkA {p : T_Pinned} (h : PinOk p) : rkN p.1.1.toNat (alC p) = rkN p.1.1.toNat (alS p) := by
  refine h.same h.okAS h.okAC (fun y hy => ?_) (fun y hy => ?_) (fun y hy => ?_)
  · rw [alS, aS_mem]; exact .inl hy
  · rw [alS, aS_mem] at hy
    rw [alC, aC_mem]
    rcases hy with hy | hy
    · exact .inl (h.few y hy)
    · exact .inr hy
  · rw [alC, aC_mem] at hy
    rw [alS, aS_mem]
    rcases hy with hy | hy
    · exact .inr hy
    · exact .inl (.inr hy)
noncomputable def prG (p : T_Pinned) : Int := if pinnedF p = true then (rkN p.1.1.toNat (alS p) : Int) - (rkN p.1.1.toNat (hlS p) : Int) else -1
theorem accI_le (N k l : Nat) (g : Nat → T_Bar) : ∀ n, (accI N k l g n).length ≤ n
  | 0 => Nat.le_refl _
  | n + 1 => by
    have := accI_le N k l g n
    simp only [accI]
    split
    · simp; omega
    · omega
theorem PinOk.nC {p : T_Pinned} (h : PinOk p) : (hlC p).1 ≤ 64 := by
  have := hC_n p.2.1.2 p.2.1.1 p.2.1.1
  exact Nat.le_trans this (Nat.mul_le_mul h.m.2 h.m.2)
theorem PinOk.nS {p : T_Pinned} (h : PinOk p) : (hlS p).1 + p.1.2.1.1 ≤ 24 := by
  have := (hS_n p.2.1.2 (p.2.1.1 - 1)).2 (by have := h.m; omega)
  have := h.m; have := h.nb
  unfold hlS; omega
theorem alS_n (p : T_Pinned) : (alS p).1 = (hlS p).1 + p.1.2.1.1 := aS_n _ _ _
theorem con_PinnedRank_i (p : T_Pinned) (hs : smS s_Pinned p) : Con Tryz.prog 103 0 [] [pinA p] [] (.p (.int .i64 (prG p))) := by
  have c1 := con_IsPinned_i p hs
  cases hp : pinnedF p with
  | false =>
    rw [hp] at c1
    rw [show prG p = -1 by simp [prG, hp]]
    refine con_start Tryz.func103 rfl (by kernel_rfl) rfl (fun c hc => ?_)
    refine path_ok mixed Tryz.func103 hc (hPn p) ?_
    simp only [All]
    repeat' (first | exact trivial | with_reducible apply And.intro)
    all_goals (first | omega | rfl | (intros; first | assumption | exact trivial | rfl | contradiction | ((repeat' (first | assumption | apply anda | apply notf)); done)) | (exact c1) | (simp; done))
  | true =>
    rw [hp] at c1
    have ok := pin_ok hp
    have hN := ok.N; have hm := ok.m; have hnb := ok.nb; have hnC := ok.nC
    have ch := con_held p hm.2
    have cr1 := con_planeRank ok.okAC (by omega) (by show (hlC p).1 + p.1.2.1.1 ≤ 1048576; omega)
    have cr0 := con_planeRank ok.okHC (by omega) (by omega)
    have hNz : ((p.1.1.toNat : Nat) : Int) = p.1.1 := by omega
    rw [hNz] at cr1 cr0
    have hr1 : (accI p.1.1.toNat 2 3 (alC p).2 (alC p).1).length = rkN p.1.1.toNat (alS p) := ok.rkA
    have hr0 : (accI p.1.1.toNat 2 3 (hlC p).2 (hlC p).1).length = rkN p.1.1.toNat (hlS p) := ok.rkH
    have hb1 : rkN p.1.1.toNat (alS p) ≤ 24 := by
      have := accI_le p.1.1.toNat 2 3 (alS p).2 (alS p).1
      have := alS_n p; have := ok.nS
      unfold rkN; omega
    have hb0 : rkN p.1.1.toNat (hlS p) ≤ 24 := by
      have := accI_le p.1.1.toNat 2 3 (hlS p).2 (hlS p).1
      have := ok.nS
      unfold rkN; omega
    rw [hr1] at cr1
    rw [hr0] at cr0
    rw [show prG p = (rkN p.1.1.toNat (alS p) : Int) - (rkN p.1.1.toNat (hlS p) : Int) by simp [prG, hp]]
    rw [show hC p.2.1.2 p.2.1.1 p.2.1.1 = hlC p from rfl] at ch
    refine con_start Tryz.func103 rfl (by kernel_rfl) rfl (fun c hc => ?_)
    refine path_ok mixed Tryz.func103 hc (hPy p (hlC p).1 (hlC p).2 (rkN p.1.1.toNat (alS p)) (rkN p.1.1.toNat (hlS p))) ?_
    simp only [All]
    repeat' (first | exact trivial | with_reducible apply And.intro)
    all_goals (first | omega | rfl | (intros; first | assumption | exact trivial | rfl | contradiction | ((repeat' (first | assumption | apply anda | apply notf)); done)) | (exact c1) | (exact ch) | (exact cr0) | (refine Con.arg_ext cr1 ?_; simp only [brL, wkL, wk, wkP, beq_self_eq_true, Bool.and_self, if_true, ikEq, List.append_nil, List.cons_append, List.nil_append, All]; refine ⟨trivial, rfl, fun i hi => ?_, trivial⟩; by_cases h : i < (hlC p).1 <;> simp [h, cellP, tg, tru, alC, aC]))
theorem con_PinnedRank_s (p : T_Pinned) (hs : smS s_Pinned p) : Con Tryz.prog 89 0 [] [pinA p] [] (.p (.int .i64 (prG p))) := by
  have c1 := con_IsPinned_s p hs
  cases hp : pinnedF p with
  | false =>
    rw [hp] at c1
    rw [show prG p = -1 by simp [prG, hp]]
    refine con_start Tryz.func89 rfl (by kernel_rfl) rfl (fun c hc => ?_)
    refine path_ok mixed Tryz.func89 hc (hQn p) ?_
    simp only [All]
    repeat' (first | exact trivial | with_reducible apply And.intro)
    all_goals (first | omega | rfl | (intros; first | assumption | exact trivial | rfl | contradiction | ((repeat' (first | assumption | apply anda | apply notf)); done)) | (exact c1) | (simp; done))
  | true =>
    rw [hp] at c1
    have ok := pin_ok hp
    have hN := ok.N; have hm := ok.m; have hnb := ok.nb; have hnS := ok.nS; have haS := alS_n p
    have ch := con_l20Held p (by omega) (by omega)
    have ca := con_l20All p (by omega) (by omega) (by omega)
    have cr1 := con_l6Rank ok.okAS (by omega) (by omega)
    have cr0 := con_l6Rank ok.okHS (by omega) (by omega)
    have hNz : ((p.1.1.toNat : Nat) : Int) = p.1.1 := by omega
    rw [grG, hNz] at cr1 cr0
    have hb1 : rkN p.1.1.toNat (alS p) ≤ 24 := by
      have := accI_le p.1.1.toNat 2 3 (alS p).2 (alS p).1
      unfold rkN; omega
    have hb0 : rkN p.1.1.toNat (hlS p) ≤ 24 := by
      have := accI_le p.1.1.toNat 2 3 (hlS p).2 (hlS p).1
      unfold rkN; omega
    rw [show prG p = (rkN p.1.1.toNat (alS p) : Int) - (rkN p.1.1.toNat (hlS p) : Int) by simp [prG, hp]]
    rw [show hS p.2.1.2 (p.2.1.1 - 1) = hlS p from rfl] at ch
    refine con_start Tryz.func89 rfl (by kernel_rfl) rfl (fun c hc => ?_)
    refine path_ok mixed Tryz.func89 hc (hQy p (alS p).1 (hlS p).1 (alS p).2 (hlS p).2 (rkN p.1.1.toNat (alS p)) (rkN p.1.1.toNat (hlS p))) ?_
    simp only [All]
    repeat' (first | exact trivial | with_reducible apply And.intro)
    all_goals (first | omega | rfl | (intros; first | assumption | exact trivial | rfl | contradiction | ((repeat' (first | assumption | apply anda | apply notf)); done)) | (exact c1) | (exact ch) | (exact ca) | (exact cr0) | (exact cr1))
end Go.Proofs.YtgdbnnmogddkaaaGreat.Mach
namespace Go.Proofs.YtgdbnnmogddkaaaGreat.Mach
open Go Go.Sort
set_option linter.unusedVariables false
set_option linter.unusedSimpArgs false
def SNs (p : T_Pinned) (v n : Nat) (h : Nat → Int) : St :=
  ⟨[pinA p, .pt 3 0 0 0, .p .any, .ar 1 1 0 n, .p (.int .i64 v)] ++ List.replicate 22 anyA, [(0, boxP p), (1, iOb n h)], 2⟩
def SNi (p : T_Pinned) (v n : Nat) (h : Nat → Int) : St :=
  ⟨[pinA p, .pt 3 0 0 0, .p .any, .ar 1 1 0 n] ++ List.replicate 8 anyA ++ [.p (.int .i64 p.1.1), .p (.int .i64 v)] ++ List.replicate 13 anyA, [(0, boxP p), (1, iOb n h)], 2⟩
def snI (n : Nat) (h : Nat → Int) (x : Int) (s : Nat) : Int := if s < n then h s else x
theorem nSz (p : T_Pinned) :
    pieceOb Tryz.prog 0 [rg 2, rg 2, rg 1, .head] [.code (bodyOf Tryz.f88)] (start Tryz.f88 [] 0 [pinA p]) [0, 64] 1 (SNs p 0 0 (fun _ => 0)) =
    some (zf75, [(AI p.1.1),(AN p.1.2.1.1),(AP p.1.2.1.1 (fun i => [.int .i64 ((p.1.2.1.2 i).1), .int .i64 ((p.1.2.1.2 i).2.1)])),(AN p.2.1.1),(AP p.2.1.1 (fun i => [.int .i64 (p.2.1.2 i)])),(AN 0),(AN 0),(AN 0),((0 : Int) = (↑0 : Int)),((([AV.p (PV.int IntKind.i64 p.1.1), graphL p.1.2.1, inL p.2.1].length) : Nat) = 3),(NL 1 1),(NL 1 1),(AI p.1.1),(AN p.1.2.1.1),(AP p.1.2.1.1 (fun i => [.int .i64 ((p.1.2.1.2 i).1), .int .i64 ((p.1.2.1.2 i).2.1)])),(AN p.2.1.1),(AP p.2.1.1 (fun i => [.int .i64 (p.2.1.2 i)])),(AN 1),(NL 0 0),(AA 0 (fun i => [.p (.int .i64 0)]))]) := by kernel_rfl
theorem nSa (p : T_Pinned) (v n : Nat) (h : Nat → Int) (b : Bool) :
    pieceOb Tryz.prog 0 [rm [(7, oc [] (.p (.bool b)))] 1, .dec true, rm [(3, oc [] (.p (.bool false)))] 1, .dec true, rg 5, rg 3, .head] zf75 (SNs p v n h) [0, 546] 1 (SNs p (v + 1) (n + 1) (snI n h v)) =
    some (zf75, [(NT 0 1),(((decide ((↑v : Int) < p.1.1)) = true) → (NT 0 1)),(AG (decide ((↑v : Int) < p.1.1))),(((decide ((↑v : Int) < p.1.1)) = true) →  Con Tryz.prog 51 0 [] [(zf26 p)] [] (.p (.bool b))),(AG (decide ((↑v : Int) < p.1.1))),((bif decide ((↑v : Int) < p.1.1) then b else false) = true),(NT 0 1),Con Tryz.prog 84 0 [] [.p (.seq true 1 p.2.1.1 (fun i => [.int .i64 (p.2.1.2 i)])), .p (.int .i64 (↑v : Int))] [] (.p (.bool false)),((!false) = true),(NL 1 1),(NL n n),(NL ((n + 1) * 8) 140737488355328),(NL (n + 1) 9223372036854775807),(R0 ((↑v : Int) + 1)),(R1 ((↑v : Int) + 1)),(AI p.1.1),(AN p.1.2.1.1),(AP p.1.2.1.1 (fun i => [.int .i64 ((p.1.2.1.2 i).1), .int .i64 ((p.1.2.1.2 i).2.1)])),(AN p.2.1.1),(AP p.2.1.1 (fun i => [.int .i64 (p.2.1.2 i)])),(AN 0),(AN 0),(AN ((n + 1))),((((↑v : Int) + 1) : Int) = (↑(v + 1) : Int)),(AN 3),(NL 1 1),(NL 1 1),(AI p.1.1),(AN p.1.2.1.1),(AP p.1.2.1.1 (fun i => [.int .i64 ((p.1.2.1.2 i).1), .int .i64 ((p.1.2.1.2 i).2.1)])),(AN p.2.1.1),(AP p.2.1.1 (fun i => [.int .i64 (p.2.1.2 i)])),(AN 1),(NL (n + 1) (n + 1)),(CV [(546, ⟨false, 1, (n + 1), (fun i_1 => (if (i_1 < n) then [.p (.int .i64 (h i_1))] else [.p (.int .i64 (↑v : Int))]))⟩), (514, ⟨false, 1, 1, (fun i_1 => [.p (.int .i64 (↑v : Int))])⟩), (0, ⟨true, 3, 1, (fun i_1 => [.p (.int .i64 p.1.1), .p (.seq true 2 p.1.2.1.1 (fun i_2 => [.int .i64 ((p.1.2.1.2 i_2).1), .int .i64 ((p.1.2.1.2 i_2).2.1)])), .p (.seq true 1 p.2.1.1 (fun i_2 => [.int .i64 (p.2.1.2 i_2)]))])⟩)] [0, 546] 1 (n + 1) (fun i => if (i < n) then [.p (.int .i64 (h i))] else [.p (.int .i64 (↑v : Int))]) (fun i => [.p (.int .i64 (snI n h (↑v : Int) i))]))]) := by kernel_rfl
theorem nSb (p : T_Pinned) (v n : Nat) (h : Nat → Int) (b : Bool) :
    pieceOb Tryz.prog 0 [rm [(7, oc [] (.p (.bool b)))] 1, .dec true, rm [(3, oc [] (.p (.bool true)))] 1, .dec false, rg 3, .head] zf75 (SNs p v n h) [0, 1] 1 (SNs p (v + 1) n h) =
    some (zf75, [(NT 0 1),(((decide ((↑v : Int) < p.1.1)) = true) → (NT 0 1)),(AG (decide ((↑v : Int) < p.1.1))),(((decide ((↑v : Int) < p.1.1)) = true) →  Con Tryz.prog 51 0 [] [(zf26 p)] [] (.p (.bool b))),(AG (decide ((↑v : Int) < p.1.1))),((bif decide ((↑v : Int) < p.1.1) then b else false) = true),(NT 0 1),Con Tryz.prog 84 0 [] [.p (.seq true 1 p.2.1.1 (fun i => [.int .i64 (p.2.1.2 i)])), .p (.int .i64 (↑v : Int))] [] (.p (.bool true)),((!true) = false),(R0 ((↑v : Int) + 1)),(R1 ((↑v : Int) + 1)),(AI p.1.1),(AN p.1.2.1.1),(AP p.1.2.1.1 (fun i => [.int .i64 ((p.1.2.1.2 i).1), .int .i64 ((p.1.2.1.2 i).2.1)])),(AN p.2.1.1),(AP p.2.1.1 (fun i => [.int .i64 (p.2.1.2 i)])),(AN 0),(AN 0),(AN n),((((↑v : Int) + 1) : Int) = (↑(v + 1) : Int)),(AN 3),(NL 1 1),(NL 1 1),(AI p.1.1),(AN p.1.2.1.1),(AP p.1.2.1.1 (fun i => [.int .i64 ((p.1.2.1.2 i).1), .int .i64 ((p.1.2.1.2 i).2.1)])),(AN p.2.1.1),(AP p.2.1.1 (fun i => [.int .i64 (p.2.1.2 i)])),(AN 1),(NL n n),(AA n (fun i => [.p (.int .i64 (h i))]))]) := by kernel_rfl
theorem nSe (p : T_Pinned) (v n : Nat) (h : Nat → Int) (b : Bool) :
    pathOb Tryz.prog Tryz.f88 0 [rm [(7, oc [] (.p (.bool b)))] 1, .dec false, rg 2] zf75 (SNs p v n h) [1] 1 [(0, iOb n h)] (.ar 1 0 0 n) =
    some [(NT 0 1),(((decide ((↑v : Int) < p.1.1)) = true) → (NT 0 1)),(AG (decide ((↑v : Int) < p.1.1))),(((decide ((↑v : Int) < p.1.1)) = true) →  Con Tryz.prog 51 0 [] [(zf26 p)] [] (.p (.bool b))),(AG (decide ((↑v : Int) < p.1.1))),((bif decide ((↑v : Int) < p.1.1) then b else false) = false),(AN 0),(AN n),(AN 1),(NL n n),(AA n (fun i => [.p (.int .i64 (h i))])),(AE n)] := by kernel_rfl
theorem nIn (p : T_Pinned) :
    pathOb Tryz.prog Tryz.f102 0 [rg 2, rg 2, rm [(1, oc [] (.p (.bool false)))] 1, .dec true, rg 2] [.code (bodyOf Tryz.f102)] (start Tryz.f102 [] 0 [pinA p]) [64] 1 [(0, iOb 0 (fun _ => 0))] (.ar 1 0 0 0) =
    some [(NT 0 1),Con Tryz.prog 63 0 [] [(zf26 p)] [] (.p (.bool false)),((!false) = true),(AN 0),(AN 0),(AN 1),(NL 0 0),(AA 0 (fun i => [.p (.int .i64 0)])),(AE 0)] := by kernel_rfl
theorem nIz (p : T_Pinned) :
    pieceOb Tryz.prog 0 [rg 2, rg 2, rm [(1, oc [] (.p (.bool true)))] 1, .dec false, rg 4, .head] [.code (bodyOf Tryz.f102)] (start Tryz.f102 [] 0 [pinA p]) [0, 64] 1 (SNi p 0 0 (fun _ => 0)) =
    some (zf44, [(NT 0 1),Con Tryz.prog 63 0 [] [(zf26 p)] [] (.p (.bool true)),((!true) = false),(NT 0 1),(AI p.1.1),(AN p.1.2.1.1),(AP p.1.2.1.1 (fun i => [.int .i64 ((p.1.2.1.2 i).1), .int .i64 ((p.1.2.1.2 i).2.1)])),(AN p.2.1.1),(AP p.2.1.1 (fun i => [.int .i64 (p.2.1.2 i)])),(AN 0),(AN 0),(AN 0),(AI p.1.1),((0 : Int) = (↑0 : Int)),((([AV.p (PV.int IntKind.i64 p.1.1), graphL p.1.2.1, inL p.2.1].length) : Nat) = 3),(NL 1 1),(NL 1 1),(AI p.1.1),(AN p.1.2.1.1),(AP p.1.2.1.1 (fun i => [.int .i64 ((p.1.2.1.2 i).1), .int .i64 ((p.1.2.1.2 i).2.1)])),(AN p.2.1.1),(AP p.2.1.1 (fun i => [.int .i64 (p.2.1.2 i)])),(AN 1),(NL 0 0),(AA 0 (fun i => [.p (.int .i64 0)]))]) := by kernel_rfl
theorem nIa (p : T_Pinned) (v n : Nat) (h : Nat → Int) :
    pieceOb Tryz.prog 0 [rg 1, .dec true, rg 2, rm [(3, oc [] (.p (.bool false)))] 1, .dec true, rg 5, rg 2, .head] zf44 (SNi p v n h) [0, 354] 1 (SNi p (v + 1) (n + 1) (snI n h v)) =
    some (zf44, [((decide ((↑v : Int) < p.1.1)) = true),(NT 0 1),Con Tryz.prog 99 0 [] [.p (.seq true 1 p.2.1.1 (fun i => [.int .i64 (p.2.1.2 i)])), .p (.int .i64 (↑v : Int))] [] (.p (.bool false)),((!false) = true),(NL 1 1),(NL n n),(NL ((n + 1) * 8) 140737488355328),(NL (n + 1) 9223372036854775807),(R0 ((↑v : Int) + 1)),(R1 ((↑v : Int) + 1)),(AI p.1.1),(AN p.1.2.1.1),(AP p.1.2.1.1 (fun i => [.int .i64 ((p.1.2.1.2 i).1), .int .i64 ((p.1.2.1.2 i).2.1)])),(AN p.2.1.1),(AP p.2.1.1 (fun i => [.int .i64 (p.2.1.2 i)])),(AN 0),(AN 0),(AN ((n + 1))),(AI p.1.1),((((↑v : Int) + 1) : Int) = (↑(v + 1) : Int)),(AN 3),(NL 1 1),(NL 1 1),(AI p.1.1),(AN p.1.2.1.1),(AP p.1.2.1.1 (fun i => [.int .i64 ((p.1.2.1.2 i).1), .int .i64 ((p.1.2.1.2 i).2.1)])),(AN p.2.1.1),(AP p.2.1.1 (fun i => [.int .i64 (p.2.1.2 i)])),(AN 1),(NL (n + 1) (n + 1)),(CV [(354, ⟨false, 1, (n + 1), (fun i_1 => (if (i_1 < n) then [.p (.int .i64 (h i_1))] else [.p (.int .i64 (↑v : Int))]))⟩), (322, ⟨false, 1, 1, (fun i_1 => [.p (.int .i64 (↑v : Int))])⟩), (0, ⟨true, 3, 1, (fun i_1 => [.p (.int .i64 p.1.1), .p (.seq true 2 p.1.2.1.1 (fun i_2 => [.int .i64 ((p.1.2.1.2 i_2).1), .int .i64 ((p.1.2.1.2 i_2).2.1)])), .p (.seq true 1 p.2.1.1 (fun i_2 => [.int .i64 (p.2.1.2 i_2)]))])⟩)] [0, 354] 1 (n + 1) (fun i => if (i < n) then [.p (.int .i64 (h i))] else [.p (.int .i64 (↑v : Int))]) (fun i => [.p (.int .i64 (snI n h (↑v : Int) i))]))]) := by kernel_rfl
theorem nIb (p : T_Pinned) (v n : Nat) (h : Nat → Int) :
    pieceOb Tryz.prog 0 [rg 1, .dec true, rg 2, rm [(3, oc [] (.p (.bool true)))] 1, .dec false, rg 2, .head] zf44 (SNi p v n h) [0, 1] 1 (SNi p (v + 1) n h) =
    some (zf44, [((decide ((↑v : Int) < p.1.1)) = true),(NT 0 1),Con Tryz.prog 99 0 [] [.p (.seq true 1 p.2.1.1 (fun i => [.int .i64 (p.2.1.2 i)])), .p (.int .i64 (↑v : Int))] [] (.p (.bool true)),((!true) = false),(R0 ((↑v : Int) + 1)),(R1 ((↑v : Int) + 1)),(AI p.1.1),(AN p.1.2.1.1),(AP p.1.2.1.1 (fun i => [.int .i64 ((p.1.2.1.2 i).1), .int .i64 ((p.1.2.1.2 i).2.1)])),(AN p.2.1.1),(AP p.2.1.1 (fun i => [.int .i64 (p.2.1.2 i)])),(AN 0),(AN 0),(AN n),(AI p.1.1),((((↑v : Int) + 1) : Int) = (↑(v + 1) : Int)),(AN 3),(NL 1 1),(NL 1 1),(AI p.1.1),(AN p.1.2.1.1),(AP p.1.2.1.1 (fun i => [.int .i64 ((p.1.2.1.2 i).1), .int .i64 ((p.1.2.1.2 i).2.1)])),(AN p.2.1.1),(AP p.2.1.1 (fun i => [.int .i64 (p.2.1.2 i)])),(AN 1),(NL n n),(AA n (fun i => [.p (.int .i64 (h i))]))]) := by kernel_rfl
theorem nIe (p : T_Pinned) (v n : Nat) (h : Nat → Int) :
    pathOb Tryz.prog Tryz.f102 0 [rg 1, .dec false, rg 2] zf44 (SNi p v n h) [1] 1 [(0, iOb n h)] (.ar 1 0 0 n) =
    some [((decide ((↑v : Int) < p.1.1)) = false),(AN 0),(AN n),(AN 1),(NL n n),(AA n (fun i => [.p (.int .i64 (h i))])),(AE n)] := by kernel_rfl
theorem fFn (p : T_Pinned) :
    pathOb Tryz.prog Tryz.f68 0 [rg 2, rm [(1, oc [] (.p (.bool false)))] 1, .dec true, rg 1] [.code (bodyOf Tryz.f68)] (start Tryz.f68 [] 0 [pinA p]) [] 1 [] (.p (.int .i64 (-1))) =
    some [(NT 0 1),Con Tryz.prog 63 0 [] [(zf26 p)] [] (.p (.bool false)),((!false) = true),(AI ((-1)))] := by kernel_rfl
theorem fFy (p : T_Pinned) (n : Nat) (h : Nat → Int) (r : Int) :
    pathOb Tryz.prog Tryz.f68 0 [rg 2, rm [(1, oc [] (.p (.bool true)))] 1, .dec false, rm [(1, oc [(0, iOb n h)] (.ar 1 0 0 n)), (3, oc [] (.p (.int .i64 r)))] 2] [.code (bodyOf Tryz.f68)] (start Tryz.f68 [] 0 [pinA p]) [] 1 [] (.p (.int .i64 (2 * (n : Int) - r))) =
    some [(NT 0 1),Con Tryz.prog 63 0 [] [(zf26 p)] [] (.p (.bool true)),((!true) = false),(NT 0 1),Con Tryz.prog 102 0 [] [(zf26 p)] [(0, ⟨false, 1, n, (fun i => [.p (.int .i64 (h i))])⟩)] (.ar 1 0 0 n),(R0 (2 * (↑n : Int))),(R1 (2 * (↑n : Int))),(NT 0 1),Con Tryz.prog 103 0 [] [(zf26 p)] [] (.p (.int .i64 r)),(R0 (2 * (↑n : Int) - r)),(R1 (2 * (↑n : Int) - r)),(AI ((2 * (↑n : Int) - r)))] := by kernel_rfl
theorem fGn (p : T_Pinned) :
    pathOb Tryz.prog Tryz.f55 0 [rg 2, rm [(1, oc [] (.p (.bool false)))] 1, .dec true, rg 1] [.code (bodyOf Tryz.f55)] (start Tryz.f55 [] 0 [pinA p]) [] 1 [] (.p (.int .i64 (-1))) =
    some [(NT 0 1),Con Tryz.prog 51 0 [] [(zf26 p)] [] (.p (.bool false)),((!false) = true),(AI ((-1)))] := by kernel_rfl
theorem fGy (p : T_Pinned) (n : Nat) (h : Nat → Int) (r : Int) :
    pathOb Tryz.prog Tryz.f55 0 [rg 2, rm [(1, oc [] (.p (.bool true)))] 1, .dec false, rm [(1, oc [(0, iOb n h)] (.ar 1 0 0 n)), (3, oc [] (.p (.int .i64 r)))] 2] [.code (bodyOf Tryz.f55)] (start Tryz.f55 [] 0 [pinA p]) [] 1 [] (.p (.int .i64 (2 * (n : Int) - r))) =
    some [(NT 0 1),Con Tryz.prog 51 0 [] [(zf26 p)] [] (.p (.bool true)),((!true) = false),(NT 0 1),Con Tryz.prog 88 0 [] [(zf26 p)] [(0, ⟨false, 1, n, (fun i => [.p (.int .i64 (h i))])⟩)] (.ar 1 0 0 n),(R0 (2 * (↑n : Int))),(R1 (2 * (↑n : Int))),(NT 0 1),Con Tryz.prog 89 0 [] [(zf26 p)] [] (.p (.int .i64 r)),(R0 (2 * (↑n : Int) - r)),(R1 (2 * (↑n : Int) - r)),(AI ((2 * (↑n : Int) - r)))] := by kernel_rfl
theorem fRi (p : T_Pinned) (r : Int) :
    pathOb Tryz.prog Tryz.f73 0 [rg 2, rm [(1, oc [] (.p (.int .i64 r)))] 2] [.code (bodyOf Tryz.f73)] (start Tryz.f73 [] 0 [pinA p]) [] 1 [] (.p (.bool (r == 0))) =
    some [(NT 0 1),Con Tryz.prog 68 0 [] [(zf26 p)] [] (.p (.int .i64 r)),((r == 0) = (r == 0))] := by kernel_rfl
theorem fRs (p : T_Pinned) (r : Int) :
    pathOb Tryz.prog Tryz.f94 0 [rg 2, rm [(1, oc [] (.p (.int .i64 r)))] 2] [.code (bodyOf Tryz.f94)] (start Tryz.f94 [] 0 [pinA p]) [] 1 [] (.p (.bool (r == 0))) =
    some [(NT 0 1),Con Tryz.prog 55 0 [] [(zf26 p)] [] (.p (.int .i64 r)),((r == 0) = (r == 0))] := by kernel_rfl
theorem fIsR (p : T_Pinned) (l : T_BarS) (q : T_Pinned) (b1 b2 : Bool) :
    pathOb Tryz.prog Tryz.f60 0 [rg 2, rm [(2, oc [(0, brOb q.1.2.1.1 q.1.2.1.2), (1, iOb q.2.1.1 q.2.1.2)] (zf120 q b1))] 6, rm [(3, oc [] (.p (.bool b2)))] 2] [.code (bodyOf Tryz.f60)] (start Tryz.f60 [] 0 [pinA p, graphL l]) [] 1 [] (.p (.bool (bif b1 then b2 else false))) =
    some [(NT 0 1),Con Tryz.prog 23 0 [] [(zf26 p), .p (.seq true 2 l.1 (fun i => [.int .i64 ((l.2 i).1), .int .i64 ((l.2 i).2.1)]))] (zf31 q) ((zf120 q b1)),(NT 0 1),((true = true) →  (AN 1)),((b1 = true) → (NT 0 1)),(AG b1),((b1 = true) →  (AN 2)),((b1 = true) → (NL q.1.2.1.1 q.1.2.1.1)),((b1 = true) →  (AN 1)),((b1 = true) → (NL q.2.1.1 q.2.1.1)),((b1 = true) →  Con Tryz.prog 94 0 [] [(zf26 q)] [] (.p (.bool b2))),(AG b1),((bif b1 then b2 else false) = (bif b1 then b2 else false))] := by kernel_rfl
abbrev NI := Nat × (Nat → Int)
def zNI : NI := (0, fun _ => 0)
def snN (r : NI) (x : Int) : NI := (r.1 + 1, snI r.1 r.2 x)
def inrD (p : T_Pinned) : Nat → NI
  | 0 => zNI
  | v + 1 => if hasI p.2.1.2 v p.2.1.1 = true then inrD p v else snN (inrD p v) v
def inrP (p : T_Pinned) : NI := if pinnedF p = true then inrD p p.1.1.toNat else zNI
theorem inrD_n (p : T_Pinned) : ∀ v, (inrD p v).1 ≤ v
  | 0 => Nat.le_refl _
  | v + 1 => by
    have := inrD_n p v
    simp only [inrD]
    split
    · omega
    · simp only [snN]; omega
theorem inrP_n (p : T_Pinned) : (inrP p).1 ≤ 8 := by
  unfold inrP
  split
  · rename_i h
    have := (pin_ok h).N
    have := inrD_n p p.1.1.toNat
    omega
  · exact Nat.zero_le _
theorem con_InnerPoints_s (p : T_Pinned) (hs : smS s_Pinned p) : Con Tryz.prog 88 0 [] [pinA p] [(0, iOb (inrP p).1 (inrP p).2)] (.ar 1 0 0 (inrP p).1) := by
  have hg : p.2.1.1 ≤ 1048576 := hs.2.1.1
  have c1 := con_IsPinned_s p hs
  refine con_start Tryz.func88 rfl (by kernel_rfl) rfl (fun c hc => ?_)
  cases hp : pinnedF p with
  | false =>
    rw [hp] at c1
    rw [show inrP p = zNI by simp [inrP, hp]]
    have hd : (bif decide (((0 : Nat) : Int) < p.1.1) then false else false) = false := by cases decide (((0 : Nat) : Int) < p.1.1) <;> rfl
    have he : Run Tryz.prog c 88 zf75 (SNs p 0 0 (fun _ => 0)) (Post c [(0, iOb zNI.1 zNI.2)] (.ar 1 0 0 zNI.1)) := by
      refine path_ok mixed Tryz.func88 hc (nSe p 0 0 (fun _ => 0) false) ?_
      simp only [All]
      repeat' (first | exact trivial | with_reducible apply And.intro)
      all_goals (first | exact aG _ | exact aA _ _ | exact aE _ | omega | rfl | (intros; first | assumption | exact trivial | rfl | contradiction | ((repeat' (first | assumption | apply anda | apply notf)); done)) | (intros; exact c1) | (exact hd) | (intro t ht; exact absurd ht (Nat.not_lt_zero _)) | (intro t ht; simp [All, aEt]))
    refine piece_ok mixed hc (nSz p) ?_ he
    simp only [All]
    repeat' (first | exact trivial | with_reducible apply And.intro)
    all_goals (first | exact aP _ _ | exact aA _ _ | omega | rfl | (intros; first | assumption | exact trivial | rfl | contradiction | ((repeat' (first | assumption | apply anda | apply notf)); done)) | (intro t ht; exact absurd ht (Nat.not_lt_zero _)) | (intro t ht; simp [All, aEt]))
  | true =>
    have ok := pin_ok hp
    have hN := ok.N
    rw [hp] at c1
    rw [show inrP p = inrD p p.1.1.toNat by simp [inrP, hp]]
    generalize hR : inrD p p.1.1.toNat = R
    have lo : ∀ d v, v + d = p.1.1.toNat → Run Tryz.prog c 88 zf75 (SNs p v (inrD p v).1 (inrD p v).2) (Post c [(0, iOb R.1 R.2)] (.ar 1 0 0 R.1)) := by
      intro d
      induction d with
      | zero =>
        intro v hv
        obtain rfl : v = p.1.1.toNat := by omega
        have hd : (bif decide (((p.1.1.toNat : Nat) : Int) < p.1.1) then true else false) = false := by
          rw [show decide (((p.1.1.toNat : Nat) : Int) < p.1.1) = false from decide_eq_false (by omega)]; rfl
        rw [hR]
        refine path_ok mixed Tryz.func88 hc (nSe p p.1.1.toNat R.1 R.2 true) ?_
        simp only [All]
        repeat' (first | exact trivial | with_reducible apply And.intro)
        all_goals (first | exact aG _ | exact aA _ _ | exact aE _ | omega | rfl | (intros; first | assumption | exact trivial | rfl | contradiction | ((repeat' (first | assumption | apply anda | apply notf)); done)) | (exact hd) | (intros; exact c1) | (intro t ht; simp [All, aEt]))
      | succ d ih =>
        intro v hv
        have hrec := ih (v + 1) (by omega)
        have hd : (bif decide ((v : Int) < p.1.1) then true else false) = true := by
          rw [show decide ((v : Int) < p.1.1) = true from decide_eq_true (by omega)]; rfl
        have ch := con_l2Has p.2.1 v hg
        have hn := inrD_n p v
        by_cases hh : hasI p.2.1.2 v p.2.1.1 = true
        · rw [hh] at ch
          rw [show inrD p (v + 1) = inrD p v by simp only [inrD, hh, if_true]] at hrec
          generalize inrD p v = q at hn hrec ⊢
          refine piece_ok mixed hc (nSb p v q.1 q.2 true) ?_ hrec
          simp only [All]
          repeat' (first | exact trivial | with_reducible apply And.intro)
          all_goals (first | exact aG _ | exact aP _ _ | exact aA _ _ | omega | rfl | (intros; first | assumption | exact trivial | rfl | contradiction | ((repeat' (first | assumption | apply anda | apply notf)); done)) | (exact hd) | (intros; exact c1) | (exact ch) | (intro t ht; simp [All, aEt]))
        · rw [Bool.not_eq_true] at hh
          rw [hh] at ch
          rw [show inrD p (v + 1) = snN (inrD p v) v by simp [inrD, hh]] at hrec
          generalize inrD p v = q at hn hrec ⊢
          refine piece_ok mixed hc (nSa p v q.1 q.2 true) ?_ hrec
          simp only [All]
          repeat' (first | exact trivial | with_reducible apply And.intro)
          all_goals (first | exact aG _ | exact aP _ _ | omega | rfl | (intros; first | assumption | exact trivial | rfl | contradiction | ((repeat' (first | assumption | apply anda | apply notf)); done)) | (exact hd) | (intros; exact c1) | (exact ch) | (intro t ht; by_cases h' : t < q.1 <;> simp [h', snI, cvtL, cvt, tg, tru, All]))
    refine piece_ok mixed hc (nSz p) ?_ (lo p.1.1.toNat 0 (by omega))
    simp only [All]
    repeat' (first | exact trivial | with_reducible apply And.intro)
    all_goals (first | exact aP _ _ | exact aA _ _ | omega | rfl | (intros; first | assumption | exact trivial | rfl | contradiction | ((repeat' (first | assumption | apply anda | apply notf)); done)) | (intro t ht; exact absurd ht (Nat.not_lt_zero _)) | (intro t ht; simp [All, aEt]))
theorem con_InnerPoints_i (p : T_Pinned) (hs : smS s_Pinned p) : Con Tryz.prog 102 0 [] [pinA p] [(0, iOb (inrP p).1 (inrP p).2)] (.ar 1 0 0 (inrP p).1) := by
  have hg : p.2.1.1 ≤ 1048576 := hs.2.1.1
  have c1 := con_IsPinned_i p hs
  refine con_start Tryz.func102 rfl (by kernel_rfl) rfl (fun c hc => ?_)
  cases hp : pinnedF p with
  | false =>
    rw [hp] at c1
    rw [show inrP p = zNI by simp [inrP, hp]]
    refine path_ok mixed Tryz.func102 hc (nIn p) ?_
    simp only [All]
    repeat' (first | exact trivial | with_reducible apply And.intro)
    all_goals (first | exact aA _ _ | exact aE _ | omega | rfl | (intros; first | assumption | exact trivial | rfl | contradiction | ((repeat' (first | assumption | apply anda | apply notf)); done)) | (exact c1) | (intro t ht; exact absurd ht (Nat.not_lt_zero _)) | (intro t ht; simp [All, aEt]))
  | true =>
    have ok := pin_ok hp
    have hN := ok.N
    rw [hp] at c1
    rw [show inrP p = inrD p p.1.1.toNat by simp [inrP, hp]]
    generalize hR : inrD p p.1.1.toNat = R
    have lo : ∀ d v, v + d = p.1.1.toNat → Run Tryz.prog c 102 zf44 (SNi p v (inrD p v).1 (inrD p v).2) (Post c [(0, iOb R.1 R.2)] (.ar 1 0 0 R.1)) := by
      intro d
      induction d with
      | zero =>
        intro v hv
        obtain rfl : v = p.1.1.toNat := by omega
        have hd : decide (((p.1.1.toNat : Nat) : Int) < p.1.1) = false := decide_eq_false (by omega)
        rw [hR]
        refine path_ok mixed Tryz.func102 hc (nIe p p.1.1.toNat R.1 R.2) ?_
        simp only [All]
        repeat' (first | exact trivial | with_reducible apply And.intro)
        all_goals (first | exact aA _ _ | exact aE _ | omega | rfl | (intros; first | assumption | exact trivial | rfl | contradiction | ((repeat' (first | assumption | apply anda | apply notf)); done)) | (exact hd) | (intro t ht; simp [All, aEt]))
      | succ d ih =>
        intro v hv
        have hrec := ih (v + 1) (by omega)
        have hd : decide ((v : Int) < p.1.1) = true := decide_eq_true (by omega)
        have ch := con_Contains p.2.1 v hg
        have hn := inrD_n p v
        by_cases hh : hasI p.2.1.2 v p.2.1.1 = true
        · rw [hh] at ch
          rw [show inrD p (v + 1) = inrD p v by simp only [inrD, hh, if_true]] at hrec
          generalize inrD p v = q at hn hrec ⊢
          refine piece_ok mixed hc (nIb p v q.1 q.2) ?_ hrec
          simp only [All]
          repeat' (first | exact trivial | with_reducible apply And.intro)
          all_goals (first | exact aP _ _ | exact aA _ _ | omega | rfl | (intros; first | assumption | exact trivial | rfl | contradiction | ((repeat' (first | assumption | apply anda | apply notf)); done)) | (exact hd) | (exact ch) | (intro t ht; simp [All, aEt]))
        · rw [Bool.not_eq_true] at hh
          rw [hh] at ch
          rw [show inrD p (v + 1) = snN (inrD p v) v by simp [inrD, hh]] at hrec
          generalize inrD p v = q at hn hrec ⊢
          refine piece_ok mixed hc (nIa p v q.1 q.2) ?_ hrec
          simp only [All]
          repeat' (first | exact trivial | with_reducible apply And.intro)
          all_goals (first | exact aP _ _ | omega | rfl | (intros; first | assumption | exact trivial | rfl | contradiction | ((repeat' (first | assumption | apply anda | apply notf)); done)) | (exact hd) | (exact ch) | (intro t ht; by_cases h' : t < q.1 <;> simp [h', snI, cvtL, cvt, tg, tru, All]))
    refine piece_ok mixed hc (nIz p) ?_ (lo p.1.1.toNat 0 (by omega))
    simp only [All]
    repeat' (first | exact trivial | with_reducible apply And.intro)
    all_goals (first | exact aP _ _ | exact aA _ _ | omega | rfl | (intros; first | assumption | exact trivial | rfl | contradiction | ((repeat' (first | assumption | apply anda | apply notf)); done)) | (exact c1) | (intro t ht; exact absurd ht (Nat.not_lt_zero _)) | (intro t ht; simp [All, aEt]))
noncomputable def frG (p : T_Pinned) : Int := if pinnedF p = true then 2 * ((inrP p).1 : Int) - prG p else -1
theorem prG_in (p : T_Pinned) : -24 ≤ prG p ∧ prG p ≤ 24 := by
  unfold prG
  split
  · rename_i h
    have ok := pin_ok h
    have h1 := accI_le p.1.1.toNat 2 3 (alS p).2 (alS p).1
    have h2 := accI_le p.1.1.toNat 2 3 (hlS p).2 (hlS p).1
    have := alS_n p; have := ok.nS
    unfold rkN; omega
  · omega
theorem con_PinnedFreedom_i (p : T_Pinned) (hs : smS s_Pinned p) : Con Tryz.prog 68 0 [] [pinA p] [] (.p (.int .i64 (frG p))) := by
  have c1 := con_IsPinned_i p hs
  have c2 := con_InnerPoints_i p hs
  have c3 := con_PinnedRank_i p hs
  have hn := inrP_n p
  have hr := prG_in p
  refine con_start Tryz.func68 rfl (by kernel_rfl) rfl (fun c hc => ?_)
  cases hp : pinnedF p with
  | false =>
    rw [hp] at c1
    rw [show frG p = -1 by simp [frG, hp]]
    refine path_ok mixed Tryz.func68 hc (fFn p) ?_
    simp only [All]
    repeat' (first | exact trivial | with_reducible apply And.intro)
    all_goals (first | omega | rfl | (intros; first | assumption | exact trivial | rfl | contradiction | ((repeat' (first | assumption | apply anda | apply notf)); done)) | (exact c1) | (simp; done))
  | true =>
    rw [hp] at c1
    rw [show frG p = 2 * ((inrP p).1 : Int) - prG p by simp [frG, hp]]
    refine path_ok mixed Tryz.func68 hc (fFy p (inrP p).1 (inrP p).2 (prG p)) ?_
    simp only [All]
    repeat' (first | exact trivial | with_reducible apply And.intro)
    all_goals (first | omega | rfl | (intros; first | assumption | exact trivial | rfl | contradiction | ((repeat' (first | assumption | apply anda | apply notf)); done)) | (exact c1) | (exact c2) | (exact c3))
theorem con_PinnedFreedom_s (p : T_Pinned) (hs : smS s_Pinned p) : Con Tryz.prog 55 0 [] [pinA p] [] (.p (.int .i64 (frG p))) := by
  have c1 := con_IsPinned_s p hs
  have c2 := con_InnerPoints_s p hs
  have c3 := con_PinnedRank_s p hs
  have hn := inrP_n p
  have hr := prG_in p
  refine con_start Tryz.func55 rfl (by kernel_rfl) rfl (fun c hc => ?_)
  cases hp : pinnedF p with
  | false =>
    rw [hp] at c1
    rw [show frG p = -1 by simp [frG, hp]]
    refine path_ok mixed Tryz.func55 hc (fGn p) ?_
    simp only [All]
    repeat' (first | exact trivial | with_reducible apply And.intro)
    all_goals (first | omega | rfl | (intros; first | assumption | exact trivial | rfl | contradiction | ((repeat' (first | assumption | apply anda | apply notf)); done)) | (exact c1) | (simp; done))
  | true =>
    rw [hp] at c1
    rw [show frG p = 2 * ((inrP p).1 : Int) - prG p by simp [frG, hp]]
    refine path_ok mixed Tryz.func55 hc (fGy p (inrP p).1 (inrP p).2 (prG p)) ?_
    simp only [All]
    repeat' (first | exact trivial | with_reducible apply And.intro)
    all_goals (first | omega | rfl | (intros; first | assumption | exact trivial | rfl | contradiction | ((repeat' (first | assumption | apply anda | apply notf)); done)) | (exact c1) | (exact c2) | (exact c3))
noncomputable def rgB (p : T_Pinned) : Bool := frG p == 0
theorem con_IsPinnedRigid_i (p : T_Pinned) (hs : smS s_Pinned p) : Con Tryz.prog 73 0 [] [pinA p] [] (.p (.bool (rgB p))) := by
  have c1 := con_PinnedFreedom_i p hs
  refine con_start Tryz.func73 rfl (by kernel_rfl) rfl (fun c hc => ?_)
  refine path_ok mixed Tryz.func73 hc (fRi p (frG p)) ?_
  simp only [All]
  repeat' (first | exact trivial | with_reducible apply And.intro)
  all_goals (first | omega | rfl | (intros; first | assumption | exact trivial | rfl | contradiction | ((repeat' (first | assumption | apply anda | apply notf)); done)) | (exact c1))
theorem con_IsPinnedRigid_s (p : T_Pinned) (hs : smS s_Pinned p) : Con Tryz.prog 94 0 [] [pinA p] [] (.p (.bool (rgB p))) := by
  have c1 := con_PinnedFreedom_s p hs
  refine con_start Tryz.func94 rfl (by kernel_rfl) rfl (fun c hc => ?_)
  refine path_ok mixed Tryz.func94 hc (fRs p (frG p)) ?_
  simp only [All]
  repeat' (first | exact trivial | with_reducible apply And.intro)
  all_goals (first | omega | rfl | (intros; first | assumption | exact trivial | rfl | contradiction | ((repeat' (first | assumption | apply anda | apply notf)); done)) | (exact c1))
noncomputable def irB (p : T_Pinned) (l : T_BarS) : Bool := bif arB p l then rgB (arP p l) else false
theorem sm_arP (p : T_Pinned) (l : T_BarS) : smS s_Pinned (arP p l) := sm_pin (by have := arP_le p l; omega) (by have := arP_le p l; omega)
theorem con_IsRepair_s (p : T_Pinned) (hs : smS s_Pinned p) (l : T_BarS) (hl : l.1 ≤ 1048576) : Con Tryz.prog 60 0 [] [pinA p, graphL l] [] (.p (.bool (irB p l))) := by
  have c1 := con_ApplyRepair_s p hs l hl
  have c2 := con_IsPinnedRigid_s (arP p l) (sm_arP p l)
  refine con_start Tryz.func60 rfl (by kernel_rfl) rfl (fun c hc => ?_)
  refine path_ok mixed Tryz.func60 hc (fIsR p l (arP p l) (arB p l) (rgB (arP p l))) ?_
  simp only [All]
  repeat' (first | exact trivial | with_reducible apply And.intro)
  all_goals (first | exact aG _ | omega | rfl | (intros; first | assumption | exact trivial | rfl | contradiction | ((repeat' (first | assumption | apply anda | apply notf)); done)) | (exact c1) | (intro _; exact c2))
end Go.Proofs.YtgdbnnmogddkaaaGreat.Mach
namespace Go.Proofs.YtgdbnnmogddkaaaGreat.Mach
open Go Go.Shelf Go.RowKit Go.Lib Go.Sort
set_option linter.unusedVariables false
set_option linter.unusedSimpArgs false
theorem run_clear2 {P : Program} (w : World) (t e ty : TypeId) (z c0 : Value) (ht : P.underlying t = some (.slice e)) (hv : ∀ w, (zeroValue e).run P w = .ok z w) (hz : z.cells = #[c0, c0]) (h1 : c0.oneCell' = true) (b o n c : Nat) (hn : 0 < n)
    (hc : ∀ j, j < n * 2 → (w.cell? ⟨b, o + j, none⟩).isSome = true) (hf : ∀ j, j < n * 2 → w.frozen? ⟨b, o + j, none⟩ = false) :
    (Builtin.clear_ #[t] ty #[.slice (some ⟨b, o, none⟩) n c]).run P w = .ok (.tuple #[]) (w.setCells b o (List.replicate (n * 2) c0)) := by
  have hzc : (Builtin.zeroCells z.cells n).toList = List.replicate (n * 2) c0 := by
    rw [hz]
    simp [Builtin.zeroCells]
    apply List.ext_getElem
    · simp
    · intro i h1 h2
      have : i % 2 = 0 ∨ i % 2 = 1 := by omega
      rcases this with h | h <;> simp [h]
  have hst := run_storeCells_cells (P := P) b o (List.replicate (n * 2) c0) 0 w (by simpa using hc) (by simpa using hf) (by intro v hv'; rw [List.eq_of_mem_replicate hv']; exact h1)
  simp only [Nat.add_zero] at hst
  obtain ⟨m, rfl⟩ : ∃ m, n = m + 1 := ⟨n - 1, by omega⟩
  simp [Builtin.clear_, run_underlying ht, hv, hzc, hst]
set_option maxHeartbeats 4000000 in
set_option maxRecDepth 1000000 in
theorem delete_walk (blk off cap n i j : Nat) (d : Array Value) (w : World) (hn : d.size = n * 2) (hH : Holds id w blk off d) (hcap : n ≤ cap) (hlt : i < j) (hj : j ≤ n) (h1c : ∀ v ∈ d.toList, v.oneCell' = true) :
    Calls Tryz.prog 66 #[.slice (some ⟨blk, off, none⟩) n cap, .int .i64 i, .int .i64 j] w fun e w' => e = .returned (.slice (some ⟨blk, off, none⟩) (n - (j - i)) cap) ∧ ∃ q, w' = putRow id (Sort.ahead w q) blk off (d.toList.take (i * 2) ++ d.toList.drop (j * 2) ++ List.replicate ((j - i) * 2) (Value.int .i64 0)).toArray := by
  have mx : Tryz.prog.follows .mixedOrders = true := mixed
  have t0 := Tryz.underlying0
  have t3 := Tryz.underlying3
  have t4 := Tryz.underlying4
  have vBS := Tryz.zeroValue34
  have tBS := Tryz.underlying34
  have zBS := Tryz.sizeOf34
  have zBR := Tryz.sizeOf64
  have vBR := Tryz.zeroValue64
  obtain ⟨i0, hi0⟩ : ∃ i0, Tryz.prog.info? 64 = some i0 := by
    cases h : Tryz.prog.info? 64 with
    | some i => exact ⟨i, rfl⟩
    | none =>
      have : (Tryz.prog.info? 64).isSome = true := by kernel_rfl
      rw [h] at this; cases this
  have hz1 : i0.size = 2 := by
    have : (Tryz.prog.info? 64).map (·.size) = some 2 := by kernel_rfl
    rw [hi0] at this; simpa using this
  obtain ⟨news, hnews⟩ : ∃ news, news = d.toList.drop (j * 2) := ⟨_, rfl⟩
  have hlen : news.length = (n - j) * 2 := by rw [hnews, List.length_drop, Array.length_toList]; omega
  have hget : ∀ t, t < (n - j) * 2 → news[t]? = some d[j * 2 + t]! := by
    intro t ht
    rw [hnews, List.getElem?_drop, Array.getElem?_toList, getElem!_pos d (j * 2 + t) (by omega), Array.getElem?_eq_getElem (by omega)]
  obtain ⟨A, hA, hsrc⟩ : ∃ A : Addr, (if cap = j then some (⟨blk, off, none⟩ : Addr) else some ⟨blk, off + j * 2, none⟩) = some A ∧ Hid (∀ t u, news[t]? = some u → w.drew.cell? (A.add t) = some u) := by
    by_cases h : cap = j
    · refine ⟨⟨blk, off, none⟩, by simp [h], fun t u hu => ?_⟩
      have h0 : news.length = 0 := by rw [hlen]; omega
      rw [List.length_eq_zero_iff.1 h0] at hu
      simp at hu
    · refine ⟨⟨blk, off + j * 2, none⟩, by simp [h], fun t u hu => ?_⟩
      have ht : t < (n - j) * 2 := by
        have := (List.getElem?_eq_some_iff.1 hu).1
        rwa [hlen] at this
      rw [hget t ht] at hu
      rw [Addr.add_lit, show off + j * 2 + t = off + (j * 2 + t) by omega]
      exact (hH (j * 2 + t) (by omega)).1.trans hu
  have s1 : Hid (news.length = (n - j) * 2) := hlen
  have s2 : Hid (∀ u ∈ news, u.oneCell' = true) := by
    intro u hu
    rw [hnews] at hu
    exact h1c u (List.mem_of_mem_drop hu)
  have s3 : Hid (∀ t, t < news.length → (w.drew.cell? ⟨blk, off + i * 2 + t, none⟩).isSome = true ∧ w.drew.frozen? ⟨blk, off + i * 2 + t, none⟩ = false) := by
    intro t ht
    rw [hlen] at ht
    rw [Nat.add_assoc]
    exact ⟨by show (w.cell? _).isSome = true; rw [(hH (i * 2 + t) (by omega)).1]; rfl, (hH (i * 2 + t) (by omega)).2⟩
  obtain ⟨W1, hW1⟩ : ∃ W1, W1 = w.drew.setCells blk (off + i * 2) news := ⟨_, rfl⟩
  have hW1' : W1 = putRow id (Sort.ahead w 1) blk off (lay d (i * 2) (d.toList.drop (j * 2))) := by
    have e := putRow_setCells id (Sort.ahead w 1) blk off (d.toList.drop (j * 2)) d (i * 2) (by simp; omega)
    rw [putRow_self id (Sort.ahead w 1) blk off d (holds_ahead id w 1 blk off d hH), List.map_id] at e
    rw [hW1, hnews]
    exact e
  have hH1 : Holds id W1 blk off (lay d (i * 2) (d.toList.drop (j * 2))) := by rw [hW1']; exact holds_putRow id _ blk off d _ (holds_ahead id w 1 blk off d hH) (lay_size _ _ _)
  have hcl : ∀ ty, (Builtin.clear_ #[34] ty #[.slice (some ⟨blk, off + (i + (n - j)) * 2, none⟩) (n - (i + (n - j))) (cap - (i + (n - j)))]).run Tryz.prog W1 = .ok (.tuple #[]) (W1.setCells blk (off + (i + (n - j)) * 2) (List.replicate ((n - (i + (n - j))) * 2) (.int .i64 0))) :=
    fun ty => run_clear2 W1 34 64 ty _ (.int .i64 0) tBS vBR (by rfl) rfl blk (off + (i + (n - j)) * 2) _ _ (by omega)
      (fun t ht => by rw [show off + (i + (n - j)) * 2 + t = off + ((i + (n - j)) * 2 + t) by omega, (hH1 _ (by rw [lay_size]; omega)).1]; rfl)
      (fun t ht => by rw [show off + (i + (n - j)) * 2 + t = off + ((i + (n - j)) * 2 + t) by omega]; exact (hH1 _ (by rw [lay_size]; omega)).2)
  have X : Aside (W1 = putRow id (Sort.ahead w 1) blk off (lay d (i * 2) (d.toList.drop (j * 2)))) := hW1'
  have hW : Hid (W1 = w.drew.setCells blk (off + i * 2) news) := hW1
  have hic : i ≤ cap := by omega
  have hjc : j ≤ cap := by omega
  have hin : i ≤ n := by omega
  clear hW1 hW1' hH1 hH hget hnews hlen h1c
  go_enter Tryz.func66, Tryz.ntmps66
  go_wp2_with fail
  go_region_law_o (refine step_append_room rfl (.tmp 22) (.tmp 25) 34 rfl 64 i0 2 tBS hi0 hz1 blk off i cap (by simp [Act.eval, Act.put]) A (n - j) (cap - j) news (by simp [Act.eval, Act.put]) s1.out hsrc.out s2.out (by omega) s3.out ?_; rw [← hW.out])
  go_wp2
  go_ret
  refine ⟨by rw [show n - (j - i) = i + (n - j) by omega]; rfl, 1, ?_⟩
  have e := putRow_setCells id (Sort.ahead w 1) blk off (List.replicate ((n - (i + (n - j))) * 2) (Value.int .i64 0)) (lay d (i * 2) (d.toList.drop (j * 2))) (i * 2 + (d.size - j * 2)) (by rw [lay_size]; simp; omega)
  rw [← X.out, List.map_id] at e
  rw [show (j - i) * 2 = j * 2 - i * 2 by omega, ← delete_arr d (i * 2) (j * 2) _ (by omega) (by omega), show j * 2 - i * 2 = (n - (i + (n - j))) * 2 by omega, ← e, show off + (i + (n - j)) * 2 = off + (i * 2 + (d.size - j * 2)) by omega]
end Go.Proofs.YtgdbnnmogddkaaaGreat.Mach
namespace Go.Proofs.YtgdbnnmogddkaaaGreat.Mach
open Go Go.Shelf Go.RowKit Go.Lib Go.Sort
set_option linter.unusedVariables false
set_option linter.unusedSimpArgs false
def delB (n : Nat) (h : Nat → T_Bar) (e i : Nat) : T_Bar := if i < e then h i else if i + 1 < n then h (i + 1) else (0, 0, ())
def cB (h : Nat → T_Bar) (t : Nat) : Value := if t % 2 = 0 then .int .i64 (h (t / 2)).1 else .int .i64 (h (t / 2)).2.1
def rowB (n : Nat) (h : Nat → T_Bar) : Array Value := ((List.range (n * 2)).map (cB h)).toArray
theorem rowB_size (n : Nat) (h : Nat → T_Bar) : (rowB n h).size = n * 2 := by simp [rowB]
theorem rowB_get (n : Nat) (h : Nat → T_Bar) (t : Nat) (ht : t < n * 2) : (rowB n h)[t]! = cB h t := by
  rw [getElem!_pos _ t (by rw [rowB_size]; exact ht)]
  simp [rowB]
def delF (n : Nat) (h : Nat → T_Bar) (e : Nat) : Array Value := ((rowB n h).toList.take (e * 2) ++ (rowB n h).toList.drop ((e + 1) * 2) ++ List.replicate ((e + 1 - e) * 2) (Value.int .i64 0)).toArray
theorem delF_size (n : Nat) (h : Nat → T_Bar) (e : Nat) (he : e < n) : (delF n h e).size = n * 2 := by
  have := rowB_size n h
  simp only [delF, List.size_toArray, List.length_append, List.length_take, List.length_drop, List.length_replicate, Array.length_toList, this]
  omega
theorem delF_get (n : Nat) (h : Nat → T_Bar) (e : Nat) (he : e < n) (t : Nat) (ht : t < n * 2) : (delF n h e)[t]! = cB (delB n h e) t := by
  have hs := rowB_size n h
  have hz := delF_size n h e he
  have l1 : ((rowB n h).toList.take (e * 2)).length = e * 2 := by simp [hs]; omega
  have l2 : ((rowB n h).toList.drop ((e + 1) * 2)).length = n * 2 - (e + 1) * 2 := by simp [hs]
  have key : (delF n h e)[t]? = some (cB (delB n h e) t) := by
    show ((rowB n h).toList.take (e * 2) ++ (rowB n h).toList.drop ((e + 1) * 2) ++ List.replicate ((e + 1 - e) * 2) (Value.int .i64 0)).toArray[t]? = _
    rw [List.getElem?_toArray]
    by_cases c1 : t < e * 2
    · rw [List.getElem?_append_left (by simp only [List.length_append]; omega), List.getElem?_append_left (by omega), List.getElem?_take, if_pos c1, Array.getElem?_toList, Array.getElem?_eq_getElem (by omega)]
      have := rowB_get n h t ht
      rw [getElem!_pos _ t (by omega)] at this
      rw [this]
      simp only [cB, delB, show t / 2 < e by omega, if_true]
    · by_cases c2 : t < n * 2 - 2
      · rw [List.getElem?_append_left (by simp only [List.length_append]; omega), List.getElem?_append_right (by omega), List.getElem?_drop, Array.getElem?_toList, l1, show (e + 1) * 2 + (t - e * 2) = t + 2 by omega, Array.getElem?_eq_getElem (by omega)]
        have := rowB_get n h (t + 2) (by omega)
        rw [getElem!_pos _ (t + 2) (by omega)] at this
        rw [this]
        simp only [cB, delB, show ¬ t / 2 < e by omega, show t / 2 + 1 < n by omega, show (t + 2) % 2 = t % 2 by omega, show (t + 2) / 2 = t / 2 + 1 by omega, if_true, if_false]
      · rw [List.getElem?_append_right (by simp only [List.length_append]; omega), List.getElem?_replicate]
        simp only [List.length_append, l1, l2]
        rw [if_pos (by omega)]
        simp only [cB, delB, show ¬ t / 2 < e by omega, show ¬ t / 2 + 1 < n by omega, if_false]
        split <;> rfl
  rw [getElem!_pos _ t (by omega)]
  rw [Array.getElem?_eq_getElem (by omega)] at key
  exact Option.some.inj key
theorem con_DelBar (n e : Nat) (h : Nat → T_Bar) (he : e < n) (hn : n ≤ 1048576) :
    Con Tryz.prog 66 1 [(0, brOb n h)] [.ar 2 0 0 n, .p (.int .i64 e), .p (.int .i64 ((e : Int) + 1))] [(0, brOb n (delB n h e))] (.ar 2 0 0 (n - 1)) := by
  refine ⟨by kernel_rfl, fun w β X vals hX hH hS hd hl ha => ?_⟩
  obtain ⟨v0, v1, v2, rfl⟩ : ∃ v0 v1 v2, vals = #[v0, v1, v2] := by
    rcases vals with ⟨l⟩
    match l, hl with
    | [a, b, c], _ => exact ⟨a, b, c, rfl⟩
  have h0 : VR w β (ow X β [(0, brOb n h)]) (.ar 2 0 0 n) v0 := ha 0 (by simp)
  have e1 := vr_int (ha 1 (by simp))
  have e2 := vr_int (ha 2 (by simp))
  change v1 = _ at e1
  change v2 = _ at e2
  subst e1
  subst e2
  cases h0 with
  | ar0 => exact absurd he (Nat.not_lt_zero _)
  | ar _ _ _ _ b base c cells elem fr' hβ hh hsz hc =>
    rcases hH 0 _ rfl with ⟨hb, _⟩ | ⟨b', base', cells', el', hβ', hh', hrw⟩ | hm
    · rw [hb] at hβ; cases hβ
    · rw [hβ] at hβ'
      injection hβ' with hβ'
      injection hβ' with i1 i2 _
      subst i1; subst i2
      rw [hh] at hh'
      injection hh' with hh'
      injection hh' with i1 i2 i3
      subst i1; subst i2; subst i3
      have hcell : ∀ t, t < n * 2 → cells[base + t]? = some (cB h t) := by
        intro t ht
        have hm2 := Nat.mod_lt t (show 0 < 2 by omega)
        obtain ⟨u, hu1, hu2, hu3⟩ := hrw (t / 2) (by show t / 2 < n; omega) (t % 2) (by show t % 2 < 2; omega)
        have ee : base + (t / 2 * 2 + t % 2) = base + t := by omega
        change cells[base + (t / 2 * 2 + t % 2)]? = some u at hu1
        rw [ee] at hu1
        rcases Nat.mod_two_eq_zero_or_one t with h2 | h2
        · rw [h2] at hu3
          have := vr_int (k := .i64) (x := (h (t / 2)).1) hu3
          rw [hu1, this]; simp [cB, h2]
        · rw [h2] at hu3
          have := vr_int (k := .i64) (x := (h (t / 2)).2.1) hu3
          rw [hu1, this]; simp [cB, h2]
      have hend : base + n * 2 ≤ cells.size := by
        have := hcell (n * 2 - 1) (by omega)
        rcases Nat.lt_or_ge (base + (n * 2 - 1)) cells.size with h' | h'
        · omega
        · rw [Array.getElem?_eq_none h'] at this; cases this
      have hd2 : Holds id w b base (rowB n h) := by
        intro t ht
        rw [rowB_size] at ht
        refine ⟨?_, by simp [World.frozen?, hh]⟩
        simp only [World.cell?, hh]
        rw [hcell t ht, rowB_get n h t ht]
        rfl
      refine (delete_walk b base c n e (e + 1) (rowB n h) w (rowB_size n h) hd2 (by omega) (by omega) (by omega) (fun v hv => ?_)).mono ?_
      · simp only [rowB, List.mem_map, List.mem_range] at hv
        obtain ⟨t, _, rfl⟩ := hv
        unfold cB
        split <;> rfl
      · rintro e' w' ⟨rfl, q, rfl⟩
        have eg : ∀ w : World, w = grow w #[] := fun w => by simp [grow]
        have hw : putRow id (Sort.ahead w q) b base ((rowB n h).toList.take (e * 2) ++ (rowB n h).toList.drop ((e + 1) * 2) ++ List.replicate ((e + 1 - e) * 2) (Value.int .i64 0)).toArray = sW w b base q (delF n h e) #[] := eg _
        rw [hw, show n - (e + 1 - e) = n - 1 by omega]
        refine sW_post (z := 2) (os := #[]) hβ hh hS hend (delF_size n h e he) (fun i hi j hj => ?_) (fun own => ?_)
        · rw [delF_get n h e he _ (by omega)]
          unfold cB
          have : j = 0 ∨ j = 1 := by omega
          rcases this with rfl | rfl
          · rw [if_pos (by omega), show (i * 2 + 0) / 2 = i by omega]
            exact ⟨rfl, fun w own => .p _ _ (.int _ _)⟩
          · rw [if_neg (by omega), show (i * 2 + 1) / 2 = i by omega]
            exact ⟨rfl, fun w own => .p _ _ (.int _ _)⟩
        · have hv : VR (sW w b base q (delF n h e) #[]) β own (.ar 2 0 0 (n - 1)) (.slice (some ⟨b, base + 0 * 2, none⟩) (n - 1) c) := .ar 2 0 0 (n - 1) b base c (putCells id base (delF n h e) cells) elem (0, 0) hβ (sW_at hh) (by rw [putCells_size]; exact hsz) (by omega)
          rw [show base + 0 * 2 = base by omega] at hv
          exact hv
    · exact absurd hm.1 (by simp [brOb])
end Go.Proofs.YtgdbnnmogddkaaaGreat.Mach
