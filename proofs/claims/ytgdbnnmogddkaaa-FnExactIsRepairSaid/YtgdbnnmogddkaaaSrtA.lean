/- The library's sort of bars: laid at this dump; what its comparison does. Conditions: as each theorem says. -/
import Derived.Test.YtgdbnnmogddkaaaGraph
import Derived.Shelf.SlLaysF0
import Derived.Shelf.SlGeneric
import Derived.Shelf.SlSortCmp.InsertionK
import Derived.Ground.SlsfProg
namespace Go.Proofs
open Go Go.Shelf Go.RowKit Go.Lib Go.Sort
set_option linter.unusedVariables false
set_option linter.unusedSimpArgs false

shelf_lay_g SlLaysF0.n6 Slsf 6 at Try 109 as Try.sortBar

end Go.Proofs
namespace Go.Proofs.Ytgdbnnmogddkaaa.Mach
open Go Go.Shelf Go.RowKit Go.Lib Go.Sort
set_option linter.unusedVariables false
set_option linter.unusedSimpArgs false

/-- A bar's two cells. -/
def encB (x : T_Bar) : List Value := [.int .i64 x.1, .int .i64 x.2.1]

theorem cmpI_1 {x y : Int} (h : x < y) : cmpI x y = -1 := by simp [cmpI, h]
theorem cmpI_2 {x y : Int} (h : y < x) : cmpI x y = 1 := by
  have h3 : ¬ x < y := by omega
  simp [cmpI, h3, h]
theorem cmpI_3 {x y : Int} (h : ¬ x < y) (h' : ¬ y < x) : cmpI x y = 0 := by simp [cmpI, h, h']

theorem cmp_int (x y : Int) (W : World) : Calls Try.prog 117 #[.int .i64 x, .int .i64 y] W fun e w' => e = .returned (.int .i64 (cmpI x y)) ∧ w' = W := by
  go_enter Try.func117, Try.ntmps117
  by_cases h1 : x < y
  · have hc := cmpI_1 h1
    go_wp2
    go_ret
    exact ⟨by first | rfl | (rw [hc]; rfl), rfl⟩
  · by_cases h2 : y < x
    · have hc := cmpI_2 h2
      go_wp2
      go_ret
      exact ⟨by first | rfl | (rw [hc]; rfl), rfl⟩
    · have hc := cmpI_3 h1 h2
      go_wp2
      go_ret
      exact ⟨by first | rfl | (rw [hc]; rfl), rfl⟩

set_option maxRecDepth 10000 in
set_option maxHeartbeats 1000000 in
theorem cmp_bars4 (a b c d : Int) (W : World) : Calls Try.prog 82 #[.agg #[.int .i64 a, .int .i64 b], .agg #[.int .i64 c, .int .i64 d]] W fun e w' => e = .returned (.int .i64 (if cmpI a c = 0 then cmpI b d else cmpI a c)) ∧ ∃ q os', w' = grow (W.drewN q) os' := by
  have c1 := fun W' => cmp_int a c W'
  have c2 := fun W' => cmp_int b d W'
  generalize cmpI a c = r1 at c1 ⊢
  generalize cmpI b d = r2 at c2 ⊢
  by_cases h : r1 = 0
  · have h9 : (if r1 = 0 then r2 else r1) = r2 := if_pos h
    have c1' : ∀ W' : World, Calls Try.prog 117 #[.int .i64 a, .int .i64 c] W' fun e w' => e = .returned (.int .i64 0) ∧ w' = W' := by rw [← h]; exact c1
    rw [h9]
    clear c1 h9 h
    go_enter Try.func82, Try.ntmps82
    go_wp2_with fail
    go_at_call 117
    refine (c1' _).mono ?_
    rintro e w' ⟨rfl, rfl⟩
    go_wp2_with fail
    go_at_call 117
    refine (c2 _).mono ?_
    rintro e w' ⟨rfl, rfl⟩
    go_wp2
    go_ret
    exact ⟨rfl, 0, _, by rw [alloc_eq_grow, alloc_eq_grow, grow_grow]; rfl⟩
  · have h9 : (if r1 = 0 then r2 else r1) = r1 := if_neg h
    rw [h9]
    clear h9
    go_enter Try.func82, Try.ntmps82
    clear c2
    go_wp2_with fail
    go_at_call 117
    refine (c1 _).mono ?_
    rintro e w' ⟨rfl, rfl⟩
    go_wp2
    go_ret
    exact ⟨rfl, 0, _, by rw [alloc_eq_grow, alloc_eq_grow, grow_grow]; rfl⟩

theorem cmp_bars (x y : T_Bar) (W : World) : Calls Try.prog 82 #[.agg #[.int .i64 x.1, .int .i64 x.2.1], .agg #[.int .i64 y.1, .int .i64 y.2.1]] W fun e w' => e = .returned (.int .i64 (cmpB x y)) ∧ ∃ q os', w' = grow (W.drewN q) os' :=
  cmp_bars4 x.1 x.2.1 y.1 y.2.1 W
end Go.Proofs.Ytgdbnnmogddkaaa.Mach
