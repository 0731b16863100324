/- Small data: no slice and no text longer than 2^20. Plain definitions. -/
import Derived.Test.YtgdbnnmogddkaaaRows
import Derived.Test.YtgdbnnmogddkaaaMachU
namespace Go.Proofs.Ytgdbnnmogddkaaa.Mach
open Go
set_option linter.unusedVariables false
set_option linter.unusedSimpArgs false

mutual
def smS : (s : Sh) → s.T → Prop
  | .int _, _ => True
  | .bool, _ => True
  | .str, x => (show ByteArray from x).size ≤ 1048576
  | .st l, v => smL l v
  | .sl s, v => v.1 ≤ 1048576 ∧ ∀ i, i < v.1 → smS s (v.2 i)
def smL : (l : List Sh) → TL l → Prop
  | [], _ => True
  | s :: l, v => smS s v.1 ∧ smL l v.2
end

/-- How many letters the first k texts hold. -/
def strSum (g : Nat → ByteArray) : Nat → Int
  | 0 => 0
  | k + 1 => strSum g k + (g k).size

theorem strSum_nonneg (g : Nat → ByteArray) : ∀ k, 0 ≤ strSum g k
  | 0 => Int.le_refl _
  | k + 1 => by have := strSum_nonneg g k; simp only [strSum]; omega

theorem strSum_mono (g : Nat → ByteArray) (a : Nat) : ∀ b, a ≤ b → strSum g a ≤ strSum g b
  | 0, h => by obtain rfl : a = 0 := by omega
               exact Int.le_refl _
  | b + 1, h => by
    by_cases e : a = b + 1
    · subst e; exact Int.le_refl _
    · have := strSum_mono g a b (by omega)
      simp only [strSum]
      omega

theorem strSum_le (g : Nat → ByteArray) (n i : Nat) (h : i < n) : ((g i).size : Int) ≤ strSum g n := by
  have h1 := strSum_mono g (i + 1) n h
  have h2 := strSum_nonneg g i
  simp only [strSum] at h1
  omega

theorem notf {b : Bool} (h : b = false) : (!b) = true := by subst h; rfl

theorem nott {b : Bool} (h : b = true) : (!b) = false := by subst h; rfl
theorem anda {a b : Bool} (h : a = true) (h' : b = true) : (a && b) = true := by subst h; subst h'; rfl

theorem mixed : Try.prog.follows .mixedOrders = true := by kernel_rfl


/-- A contract for arguments seen in another way. -/
theorem Con.arg_ext {P : Program} {f : FuncId} {n : Nat} {H H' : Hp} {args args' : List AV} {res : AV} (h : Con P f n H args H' res) (hw : All (wkL args' args)) : Con P f n H args' H' res := by
  refine ⟨h.en, fun w β X vals hX hH hS hd hl ha => ?_⟩
  have hlen := wkL_length _ _ hw
  refine h.go w β X vals hX hH hS hd (by omega) (fun j hj => ?_)
  exact wk_ok (ha j (by omega)) _ (wkL_getD _ _ j hw (by omega))

end Go.Proofs.Ytgdbnnmogddkaaa.Mach
