/- The law FnTop: it answers true at every input, and its input reads as it did. Conditions: none. The frame follows the kit's template of a row. -/
import Derived.Test.YtbdgmpfdlgnkkaaGreatRows
import Derived.Test.YtbdgmpfdlgnkkaaGreatTpP7
import Derived.Test.YtbdgmpfdlgnkkaaGreatTpP7
namespace Go.Proofs.YtbdgmpfdlgnkkaaGreat.fnTop
open Go.ChangeShapes Go.WideShapes Go.ChangeAt Go.RowKit Mach
set_option linter.unusedVariables false
set_option linter.unusedSimpArgs false

theorem own : ownKnob Tryz.prog.godebug = none := by kernel_rfl
theorem laidOut : laidOutB Tryz.prog = true := by kernel_rfl

def s0 : Sh := (.sl (.int .u8))

theorem con_law (v0 : Sh.T s0) (k0 : uk s0 v0) : Con Tryz.prog 3 0 [] [Fv s0 v0] [] (.p (.bool true)) := by
  exact nU v0 k0

set_option maxRecDepth 100000 in
theorem lifted (os : Os) (started : os.Started) (H : Type) (enc : TypeId × Value → H) :
    ReturnsInHanded {} Tryz.checked os 3 .any (Rows.fnTopSpec.pre6 enc Tryz.prog Tryz.f3 Rows.fnTopRow.domain false) (Rows.fnTopSpec.post enc Tryz.prog Tryz.f3 false true false false) := by
  refine returnsInHanded_of_change (C := Tryz.checked) own started (by kernel_rfl) Tryz.func3
    (ChangeSpec.witness6 (enc := enc) (C := Tryz.checked) false ⟨#[], #[.slice none 0 0], []⟩ 8 (by kernel_rfl) (by kernel_rfl) (by kernel_rfl) (by kernel_rfl)) ?_
  intro W base args ds gs before hval0 hW hcnd _
  have hval : ∀ (j : Nat) t v, Tryz.f3.params[j]? = some t → args[j]? = some v → Value.okWide Tryz.prog W .any base t v := hval0
  have hW' := hW
  obtain ⟨p, q, hA0, hV, rfl, hfz, hnd⟩ := hW
  have hA : DataW.TrodAll enc Tryz.prog W 0 (fun _ => true) true Tryz.f3.params.toList args.toList ds p := hA0
  rw [Tryz.params3] at hA hval
  obtain ⟨w0, vs0, d0, ds0, p0, q0, hargs, rfl, rfl, h0, r0⟩ := trodAll_cons hA
  obtain ⟨rfl, rfl, rfl⟩ := trodAll_nil r0
  obtain rfl : args = #[w0] := by cases args; simp_all
  obtain ⟨rfl, rfl⟩ := trodVars_none hV
  clear hA0 hval0
  obtain ⟨v0, k0, e0⟩ := DO s0 (by kernel_rfl) (hval 0 22 w0 rfl rfl) h0
  have hlt : ∀ x ∈ p0 ++ ([] : List MemPlace) ++ ([] : List MemPlace), x.block < W.heap.size := fun x hx => hW'.lt x hx
  simp only [List.append_nil] at hW' hlt
  refine (Ej (con_law v0 k0) rfl (fun j hj => ?_)).mono fun e W' ⟨he, hb⟩ => ?_
  · match j, hj with
    | 0, _ => exact e0
  subst he
  exact ⟨_, rfl, _, _, _, [], _, [], hW', (trodAll_cons_mk (shut_bool Tryz.underlying4 _) trodAll_mk0), (trodAll_cons_mk (Below.trod laidOut (by kernel_rfl) (of_decide_eq_true (by kernel_rfl)) h0 hb (fun x hx => hlt x (hx))) trodAll_mk0), rfl, hb.frame _, fun h => by cases h⟩

theorem jf1 : Tryz.prog.inPlace 3 = Rows.fnTopRow.inPlace := by kernel_rfl
theorem jf2 : Tryz.prog.unfollowed 3 = Rows.fnTopRow.unfollowed := by kernel_rfl
theorem jf3 : Tryz.prog.recurses 3 = Rows.fnTopRow.recurses := by kernel_rfl
theorem jf4 : Tryz.prog.varsNamed 3 = Rows.fnTopRow.named := by kernel_rfl
theorem closed : joinedFacts Tryz.prog 3 Tryz.f3 Rows.fnTopSpec Rows.fnTopRow = true := by
  unfold joinedFacts
  rw [laidOut, jf1, jf2, jf3, jf4]
  kernel_rfl

theorem over : Rows.fnTopRow.holds Tryz.pinned (OpenSpec.ofChange Rows.fnTopSpec) :=
  OpenClaim.holds_of_wide 3 Tryz.f3 rfl rfl rfl rfl rfl rfl rfl ⟨rfl, rfl, rfl, rfl, rfl⟩ rfl rfl rfl rfl rfl (by kernel_rfl) Tryz.func3 closed
    (of_decide_eq_true (by kernel_rfl)) (by unfold Func.isWrapper; first | (rw [if_pos (by decide +kernel)]; kernel_rfl) | (rw [if_neg (by decide +kernel)]; exact ⟨rfl, rfl⟩))
    (fun os started H enc _ => lifted os started H enc)

/-- The statement. -/
theorem proved : Rows.FnTopSaid :=
  over
end Go.Proofs.YtbdgmpfdlgnkkaaGreat.fnTop
