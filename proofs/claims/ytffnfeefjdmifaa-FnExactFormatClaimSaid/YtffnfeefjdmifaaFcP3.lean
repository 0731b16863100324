/- What the law Fc needs, part 3 of 4: the abstract machine and the contracts of the functions. Conditions: as each theorem says. -/
import Derived.Laws.Strings
import Derived.Test.YtffnfeefjdmifaaFcP2
namespace Go.Proofs.Ytffnfeefjdmifaa.Mach
open Go
set_option linter.unusedVariables false
set_option linter.unusedSimpArgs false
def joinB (by_ : ByteArray) (f : Nat → ByteArray) : Nat → ByteArray
  | 0 => sE
  | n + 1 => (if 0 < n then joinB by_ f n ++ by_ else joinB by_ f n) ++ f n
theorem joinB_0 (by_ : ByteArray) (f : Nat → ByteArray) : joinB by_ f 0 = sE := rfl
theorem joinB_pos (by_ : ByteArray) (f : Nat → ByteArray) {n : Nat} (h : 0 < n) : joinB by_ f (n + 1) = (joinB by_ f n ++ by_) ++ f n := by simp [joinB, h]
theorem joinB_one (by_ : ByteArray) (f : Nat → ByteArray) : joinB by_ f (0 + 1) = sE ++ f 0 := rfl
theorem joinB_size (by_ : ByteArray) (f : Nat → ByteArray) (B : Nat) : ∀ n, (∀ i, i < n → (f i).size ≤ B) → (joinB by_ f n).size ≤ n * (B + by_.size)
  | 0, _ => (Nat.zero_le _ : 0 ≤ _)
  | n + 1, h => by
    have ih := joinB_size by_ f B n (fun i hi => h i (by omega))
    have := h n (by omega)
    simp only [joinB]
    rw [Nat.add_mul, ByteArray.size_append]
    split
    · rw [ByteArray.size_append]; omega
    · omega
theorem str_nil (s : ByteArray) : (s.toList == (ByteArray.mk #[]).toList) = decide (s.size = 0) := by
  rw [ByteArray.toList_eq, ByteArray.toList_eq]
  rw [Bool.eq_iff_iff]
  simp only [beq_iff_eq, decide_eq_true_eq]
  constructor
  · intro h
    show s.data.size = 0
    rw [← Array.length_toList, h]; rfl
  · intro h
    have : s.data.toList.length = 0 := by rw [Array.length_toList]; exact h
    rw [List.length_eq_zero_iff.1 this]
theorem fmt_pos (n : Int) : 0 < (fmtI n).size := by
  unfold fmtI
  split
  · simp [bs_size]
  · rename_i h
    rw [bs_size, fmtL, List.length_reverse, List.length_append]
    have : 0 < (dg 20 n.natAbs).length := by
      rw [dg, if_neg (by omega)]; simp
    omega
theorem con_glued (n : Nat) (f : Nat → ByteArray) (by_ : ByteArray) (B : Nat) (hn : n ≤ 1048577) (hB : B ≤ 1099511627776) (hby : by_.size ≤ 1000) (hf : ∀ i, i < n → (f i).size ≤ B) :
    Con Try.prog 121 0 [] [strL n f, .p (.str by_)] [] (.p (.str (joinB by_ f n))) := by
  have hsz : ∀ k, k ≤ n → (joinB by_ f k).size ≤ 1048577 * 1099511628776 := by
    intro k hk
    have h1 := joinB_size by_ f B k (fun i hi => hf i (by omega))
    have h2 : k * (B + by_.size) ≤ 1048577 * 1099511628776 := Nat.mul_le_mul (by omega) (by omega)
    omega
  refine con_start Try.func121 rfl (by kernel_rfl) rfl (fun c hc => ?_)
  have lo : ∀ d k, k + d = n → Run Try.prog c 121 [.code (cAt (bodyOf Try.f121) [1, 1, 0, 1, 0, 0]), .inLoop (cAt (bodyOf Try.f121) [1, 1, 0, 1, 0, 0]), .inBlock 0, .code (cAt (bodyOf Try.f121) [1, 1, 1])] (SJ n f by_ k (joinB by_ f k)) (Post c [] (.p (.str (joinB by_ f n)))) := by
    intro d
    induction d with
    | zero =>
      intro k hk
      obtain rfl : k = n := by omega
      have hd : decide ((k : Int) < (k : Int)) = false := by simp
      refine path_ok mixed Try.func121 hc (jJe k f by_ k _) ?_
      simp only [All]
      repeat' (first | exact trivial | with_reducible apply And.intro)
      all_goals (first | exact aG _ | exact aP _ _ | exact aA _ _ | exact aE _ | omega | rfl | (intros; first | assumption | exact True.intro | rfl | exact absurd (show false = true by assumption) Bool.false_ne_true | ((repeat' (first | assumption | apply anda | apply notf)); done)) | (exact hd))
    | succ d ih =>
      intro k hk
      have hd : decide ((k : Int) < (n : Int)) = true := decide_eq_true (by omega)
      have hrec := ih (k + 1) (by omega)
      have h1 := hsz k (by omega)
      have h2 := hf k (by omega)
      by_cases h0 : 0 < k
      · have hg : decide ((k : Int) > 0) = true := decide_eq_true (by omega)
        rw [joinB_pos by_ f h0] at hrec
        generalize joinB by_ f k = s at hrec h1 ⊢
        refine piece_ok mixed hc (jJt n f by_ k s) ?_ hrec
        simp only [All]
        repeat' (first | exact trivial | with_reducible apply And.intro)
        all_goals (first | exact aG _ | exact aP _ _ | exact aA _ _ | exact aE _ | omega | rfl | (intros; first | assumption | exact True.intro | rfl | exact absurd (show false = true by assumption) Bool.false_ne_true | ((repeat' (first | assumption | apply anda | apply notf)); done)) | (exact hd) | (exact hg) | (rw [ByteArray.size_append]; omega) | (simp; omega))
      · obtain rfl : k = 0 := by omega
        have hg : decide (((0 : Nat) : Int) > 0) = false := by simp
        rw [joinB_one] at hrec
        rw [joinB_0] at h1 ⊢
        refine piece_ok mixed hc (jJf n f by_ 0 sE) ?_ hrec
        simp only [All]
        repeat' (first | exact trivial | with_reducible apply And.intro)
        all_goals (first | exact aG _ | exact aP _ _ | exact aA _ _ | exact aE _ | omega | rfl | (intros; first | assumption | exact True.intro | rfl | exact absurd (show false = true by assumption) Bool.false_ne_true | ((repeat' (first | assumption | apply anda | apply notf)); done)) | (exact hd) | (exact hg) | (simp; omega))
  refine piece_ok mixed hc (jJz n f by_) ?_ (lo n 0 (by omega))
  simp only [All]
  repeat' (first | exact trivial | with_reducible apply And.intro)
  all_goals (first | exact aG _ | exact aP _ _ | exact aA _ _ | exact aE _ | omega | rfl | (intros; first | assumption | exact True.intro | rfl | exact absurd (show false = true by assumption) Bool.false_ne_true | ((repeat' (first | assumption | apply anda | apply notf)); done)) | (simp; omega))
def In64 (v : T_IntS) : Prop := ∀ i, i < v.1 → -9223372036854775808 ≤ v.2 i ∧ v.2 i ≤ 9223372036854775807
def nmB (v : T_IntS) : ByteArray := joinB sC (fun i => fmtI (v.2 i)) v.1
def nlB (v : T_IntS) : ByteArray := if v.1 = 0 then sNone else nmB v
theorem sC_size : sC.size = 1 := rfl
theorem nmB_size (v : T_IntS) : (nmB v).size ≤ v.1 * 22 := joinB_size sC _ 21 v.1 (fun i hi => fmt_size _)
theorem nmB_pos (v : T_IntS) (h : v.1 ≠ 0) : 0 < (nmB v).size := by
  obtain ⟨n, f⟩ := v
  cases n with
  | zero => exact absurd rfl h
  | succ n =>
    show 0 < (joinB sC (fun i => fmtI (f i)) (n + 1)).size
    simp only [joinB]
    rw [ByteArray.size_append]
    have := fmt_pos (f n)
    omega
theorem con_numbers (v : T_IntS) (hn : v.1 ≤ 1048576) (hv : In64 v) : Con Try.prog 123 0 [] [inL v] [] (.p (.str (nmB v))) := by
  have cg := con_glued v.1 (fun i => fmtI (v.2 i)) sC 21 (by omega) (by omega) (by rw [sC_size]; omega) (fun i hi => fmt_size _)
  refine con_start Try.func123 rfl (by kernel_rfl) rfl (fun c hc => ?_)
  have lo : ∀ d k, k + d = v.1 → Run Try.prog c 123 [.code (cAt (bodyOf Try.f123) [1, 1, 0, 1, 0, 0]), .inLoop (cAt (bodyOf Try.f123) [1, 1, 0, 1, 0, 0]), .inBlock 0, .code (cAt (bodyOf Try.f123) [1, 1, 1])] (SNm v k (fun i => fmtI (v.2 i))) (Post c [] (.p (.str (nmB v)))) := by
    intro d
    induction d with
    | zero =>
      intro k hk
      obtain rfl : k = v.1 := by omega
      have hd : decide ((v.1 : Int) < (v.1 : Int)) = false := by simp
      refine path_ok mixed Try.func123 hc (jNe v v.1 (fun i => fmtI (v.2 i)) (nmB v)) ?_
      simp only [All]
      repeat' (first | exact trivial | with_reducible apply And.intro)
      all_goals (first | exact aG _ | exact aP _ _ | exact aA _ _ | exact aE _ | omega | rfl | (intros; first | assumption | exact True.intro | rfl | exact absurd (show false = true by assumption) Bool.false_ne_true | ((repeat' (first | assumption | apply anda | apply notf)); done)) | (exact hd) | (exact cg) | (intro t ht; simp [All]))
    | succ d ih =>
      intro k hk
      have hd : decide ((k : Int) < (v.1 : Int)) = true := decide_eq_true (by omega)
      have hvk := hv k (by omega)
      have cf := con_FormatInt_i (v.2 k) hvk.1 hvk.2
      refine piece_ok mixed hc (jNt v k (fun i => fmtI (v.2 i)) (fmtI (v.2 k))) ?_ (ih (k + 1) (by omega))
      simp only [All]
      repeat' (first | exact trivial | with_reducible apply And.intro)
      all_goals (first | exact aG _ | exact aP _ _ | exact aA _ _ | exact aE _ | omega | rfl | (intros; first | assumption | exact True.intro | rfl | exact absurd (show false = true by assumption) Bool.false_ne_true | ((repeat' (first | assumption | apply anda | apply notf)); done)) | (exact hd) | (exact cf) | (intro t ht; rcases Nat.lt_or_eq_of_le (Nat.le_of_lt_succ ht) with h' | h' <;> (simp [h', cvtL, cvt, tg, tru, All]; done)) | (simp; omega))
  refine piece_ok mixed hc (jNz v (fun i => fmtI (v.2 i))) ?_ (lo v.1 0 (by omega))
  simp only [All]
  repeat' (first | exact trivial | with_reducible apply And.intro)
  all_goals (first | exact aG _ | exact aP _ _ | exact aA _ _ | exact aE _ | omega | rfl | (intros; first | assumption | exact True.intro | rfl | exact absurd (show false = true by assumption) Bool.false_ne_true | ((repeat' (first | assumption | apply anda | apply notf)); done)) | (intro t ht; exact absurd ht (Nat.not_lt_zero _)) | (intro t ht; simp [All]) | (simp; omega))
theorem con_listed (v : T_IntS) (hn : v.1 ≤ 1048576) (hv : In64 v) : Con Try.prog 100 0 [] [inL v] [] (.p (.str (nlB v))) := by
  have cn := con_numbers v hn hv
  refine con_start Try.func100 rfl (by kernel_rfl) rfl (fun c hc => ?_)
  by_cases h0 : v.1 = 0
  · have hd : ((v.1 : Int) == 0) = true := by rw [h0]; rfl
    rw [show nlB v = sNone by simp [nlB, h0]]
    refine path_ok mixed Try.func100 hc (jLn v) ?_
    simp only [All]
    repeat' (first | exact trivial | with_reducible apply And.intro)
    all_goals (first | exact aG _ | exact aP _ _ | exact aA _ _ | exact aE _ | omega | rfl | (intros; first | assumption | exact True.intro | rfl | exact absurd (show false = true by assumption) Bool.false_ne_true | ((repeat' (first | assumption | apply anda | apply notf)); done)) | (exact hd))
  · have hd : ((v.1 : Int) == 0) = false := beq_eq_false_iff_ne.2 (by omega)
    rw [show nlB v = nmB v by simp [nlB, h0]]
    refine path_ok mixed Try.func100 hc (jLy v (nmB v)) ?_
    simp only [All]
    repeat' (first | exact trivial | with_reducible apply And.intro)
    all_goals (first | exact aG _ | exact aP _ _ | exact aA _ _ | exact aE _ | omega | rfl | (intros; first | assumption | exact True.intro | rfl | exact absurd (show false = true by assumption) Bool.false_ne_true | ((repeat' (first | assumption | apply anda | apply notf)); done)) | (exact hd) | (exact cn))
theorem con_l33Numbers (v : T_IntS) (hn : v.1 ≤ 1048576) (hv : In64 v) : Con Try.prog 90 0 [] [inL v] [] (.p (.str (nlB v))) := by
  refine con_start Try.func90 rfl (by kernel_rfl) rfl (fun c hc => ?_)
  let f : Nat → ByteArray := fun i => fmtI (v.2 i)
  have hsz : ∀ k, (joinB sC f k).size ≤ k * 22 := fun k => joinB_size sC f 21 k (fun i hi => fmt_size _)
  have lo : ∀ d k, k + d = v.1 → Run Try.prog c 90 [.code (cAt (bodyOf Try.f90) [1, 1, 0, 1, 0, 0]), .inLoop (cAt (bodyOf Try.f90) [1, 1, 0, 1, 0, 0]), .inBlock 0, .code (cAt (bodyOf Try.f90) [1, 1, 1])] (SNl v k (joinB sC f k)) (Post c [] (.p (.str (nlB v)))) := by
    intro d
    induction d with
    | zero =>
      intro k hk
      obtain rfl : k = v.1 := by omega
      have hd : decide ((v.1 : Int) < (v.1 : Int)) = false := by simp
      have hs := str_nil (joinB sC f v.1)
      by_cases h0 : v.1 = 0
      · rw [show nlB v = sNone by simp [nlB, h0]]
        rw [decide_eq_true (by rw [h0]; rfl)] at hs
        refine path_ok mixed Try.func90 hc (jMn v v.1 _) ?_
        simp only [All]
        repeat' (first | exact trivial | with_reducible apply And.intro)
        all_goals (first | exact aG _ | exact aP _ _ | exact aA _ _ | exact aE _ | omega | rfl | (intros; first | assumption | exact True.intro | rfl | exact absurd (show false = true by assumption) Bool.false_ne_true | ((repeat' (first | assumption | apply anda | apply notf)); done)) | (exact hd) | (exact hs))
      · rw [show nlB v = joinB sC f v.1 by simp only [nlB, h0, if_false]; rfl]
        have hp : 0 < (joinB sC f v.1).size := nmB_pos v h0
        rw [decide_eq_false (by omega)] at hs
        refine path_ok mixed Try.func90 hc (jMe v v.1 _) ?_
        simp only [All]
        repeat' (first | exact trivial | with_reducible apply And.intro)
        all_goals (first | exact aG _ | exact aP _ _ | exact aA _ _ | exact aE _ | omega | rfl | (intros; first | assumption | exact True.intro | rfl | exact absurd (show false = true by assumption) Bool.false_ne_true | ((repeat' (first | assumption | apply anda | apply notf)); done)) | (exact hd) | (exact hs))
    | succ d ih =>
      intro k hk
      have hd : decide ((k : Int) < (v.1 : Int)) = true := decide_eq_true (by omega)
      have hrec := ih (k + 1) (by omega)
      have hvk := hv k (by omega)
      have cf := con_FormatInt_s (v.2 k) hvk.1 hvk.2
      have h1 := hsz k
      have h2 := fmt_size (v.2 k)
      by_cases h0 : 0 < k
      · have hg : decide ((k : Int) > 0) = true := decide_eq_true (by omega)
        rw [joinB_pos sC f h0] at hrec
        generalize joinB sC f k = s at hrec h1 ⊢
        refine piece_ok mixed hc (jMt v k s (fmtI (v.2 k))) ?_ hrec
        simp only [All]
        repeat' (first | exact trivial | with_reducible apply And.intro)
        all_goals (first | exact aG _ | exact aP _ _ | exact aA _ _ | exact aE _ | omega | rfl | (intros; first | assumption | exact True.intro | rfl | exact absurd (show false = true by assumption) Bool.false_ne_true | ((repeat' (first | assumption | apply anda | apply notf)); done)) | (exact hd) | (exact hg) | (exact cf) | (show s.size + 1 ≤ _; omega) | (rw [ByteArray.size_append]; show s.size + 1 + _ ≤ _; omega) | (simp; omega))
      · obtain rfl : k = 0 := by omega
        have hg : decide (((0 : Nat) : Int) > 0) = false := by simp
        rw [joinB_one] at hrec
        rw [joinB_0] at h1 ⊢
        refine piece_ok mixed hc (jMf v 0 sE (fmtI (v.2 0))) ?_ hrec
        simp only [All]
        repeat' (first | exact trivial | with_reducible apply And.intro)
        all_goals (first | exact aG _ | exact aP _ _ | exact aA _ _ | exact aE _ | omega | rfl | (intros; first | assumption | exact True.intro | rfl | exact absurd (show false = true by assumption) Bool.false_ne_true | ((repeat' (first | assumption | apply anda | apply notf)); done)) | (exact hd) | (exact hg) | (exact cf) | (show 0 + _ ≤ _; omega) | (simp; omega))
  refine piece_ok mixed hc (jMz v) ?_ (lo v.1 0 (by omega))
  simp only [All]
  repeat' (first | exact trivial | with_reducible apply And.intro)
  all_goals (first | exact aG _ | exact aP _ _ | exact aA _ _ | exact aE _ | omega | rfl | (intros; first | assumption | exact True.intro | rfl | exact absurd (show false = true by assumption) Bool.false_ne_true | ((repeat' (first | assumption | apply anda | apply notf)); done)) | (simp; omega))
end Go.Proofs.Ytffnfeefjdmifaa.Mach
namespace Go.Proofs.Ytffnfeefjdmifaa.Mat
set_option linter.unusedVariables false
def inn (R : Nat → Bool) (x : Nat × Nat) : Bool := R x.1 && R x.2
def cnt (R : Nat → Bool) : List (Nat × Nat) → Nat
  | [] => 0
  | x :: l => (inn R x).toNat + cnt R l
def GoodBar (N : Nat) (x : Nat × Nat) : Prop := x.1 ≠ x.2 ∧ x.1 < N ∧ x.2 < N
abbrev PB := Nat × (Nat × Nat)
def tc (v : Nat) : List PB → Nat
  | [] => 0
  | p :: l => (p.1 == v).toNat + tc v l
structure Game (N k l : Nat) (free : Nat → Nat) (P : List PB) : Prop where
  ends : ∀ p ∈ P, p.1 = p.2.1 ∨ p.1 = p.2.2
  good : ∀ p ∈ P, GoodBar N p.2
  sum : ∀ v, v < N → free v + tc v P = k
theorem Game.lt {N k l : Nat} {free : Nat → Nat} {P : List PB} (h : Game N k l free P) : ∀ p ∈ P, p.1 < N := by
  intro p hp
  have := h.good p hp
  rcases h.ends p hp with e | e
  · rw [e]; exact this.2.1
  · rw [e]; exact this.2.2
end Go.Proofs.Ytffnfeefjdmifaa.Mat
namespace Go.Proofs.Ytffnfeefjdmifaa.Mach
open Go
set_option linter.unusedVariables false
set_option linter.unusedSimpArgs false
def brL (g : Nat → T_Bar) (nb : Nat) : AV := .p (.seq true 2 nb (fun i => [.int .i64 (g i).1, .int .i64 (g i).2.1]))
def iOb (n : Nat) (F : Nat → Int) : Ob := ⟨false, 1, n, fun i => [.p (.int .i64 (F i))]⟩
def othF (x : T_Bar) (v : Int) : Int := if x.1 = v then x.2.1 else x.1
end Go.Proofs.Ytffnfeefjdmifaa.Mach
namespace Go.Proofs.Ytffnfeefjdmifaa.Mach
open Go
set_option linter.unusedVariables false
set_option linter.unusedSimpArgs false
def tcI (T : Nat → Int) : Nat → Int → Int
  | 0, _ => 0
  | m + 1, v => tcI T m v + if T m = v then 1 else 0
structure PInv (N k nb m : Nat) (g : Nat → T_Bar) (F T Q : Nat → Int) : Prop where
  bars : ∀ e, e < nb → 0 ≤ (g e).1 ∧ (g e).1 < (g e).2.1 ∧ (g e).2.1 < N
  q : ∀ j, j < m → 0 ≤ Q j ∧ Q j < nb
  t : ∀ j, j < m → T j = (g (Q j).toNat).1 ∨ T j = (g (Q j).toNat).2.1
  f0 : ∀ v, v < N → 0 ≤ F v
  sum : ∀ v : Nat, v < N → F v + tcI T m v = k
theorem tcI_upd (T : Nat → Int) (j : Nat) (u x : Int) : ∀ m, j < m → tcI (fun s => if s = j then u else T s) m x = tcI T m x + (if u = x then 1 else 0) - (if T j = x then 1 else 0) := by
  have out : ∀ m, m ≤ j → tcI (fun s => if s = j then u else T s) m x = tcI T m x := by
    intro m
    induction m with
    | zero => intro _; rfl
    | succ m ih =>
      intro h
      simp only [tcI, show ¬ m = j by omega, if_false]
      rw [ih (by omega)]
  intro m
  induction m with
  | zero => omega
  | succ m ih =>
    intro h
    by_cases e : j = m
    · subst e
      simp only [tcI, if_true]
      rw [out j (Nat.le_refl _)]
      omega
    · simp only [tcI, show ¬ m = j by omega, if_false]
      rw [ih (by omega)]
      omega
structure BInv (N m : Nat) (g : Nat → T_Bar) (F T Q td V : Nat → Int) (a b : Int) (tn : Nat) : Prop where
  n1 : 1 ≤ tn
  td0 : td 0 = a
  rng : ∀ s, s < tn → 0 ≤ td s ∧ td s < N
  inj : ∀ s s', s < s' → s' < tn → td s ≠ td s'
  par : ∀ s, 1 ≤ s → s < tn → ∃ j : Nat, j < m ∧ V s = j ∧ ∃ s', s' < s ∧ T j = td s' ∧ othF (g (Q j).toNat) (td s') = td s
theorem BInv.add {N m : Nat} {g : Nat → T_Bar} {F T Q td V : Nat → Int} {a b : Int} {tn : Nat} (h : BInv N m g F T Q td V a b tn) {i j : Nat} (hi : i < tn) (hj : j < m) (ht : T j = td i) {v : Int}
    (hv : othF (g (Q j).toNat) (td i) = v) (hr : 0 ≤ v ∧ v < N) (hno : ∀ s, s < tn → td s ≠ v) :
    BInv N m g F T Q (fun s => if s < tn then td s else v) (fun s => if s < tn then V s else j) a b (tn + 1) := by
  have hn1 := h.n1
  refine ⟨by omega, ?_, fun s hs => ?_, fun s s' h1 h2 => ?_, fun s h1 h2 => ?_⟩
  · show (if 0 < tn then td 0 else v) = a
    rw [if_pos (by omega)]; exact h.td0
  · show 0 ≤ (if s < tn then td s else v) ∧ (if s < tn then td s else v) < N
    split
    · exact h.rng s (by assumption)
    · exact hr
  · show (if s < tn then td s else v) ≠ (if s' < tn then td s' else v)
    rw [if_pos (show s < tn by omega)]
    split
    · exact h.inj s s' h1 (by assumption)
    · exact hno s (by omega)
  · by_cases hs : s < tn
    · obtain ⟨j', g1, g2, s', g3, g4, g5⟩ := h.par s h1 hs
      refine ⟨j', g1, by simp only [hs, if_true]; exact g2, s', g3, ?_, ?_⟩
      · show T j' = (if s' < tn then td s' else v)
        rw [if_pos (by omega)]; exact g4
      · show othF (g (Q j').toNat) (if s' < tn then td s' else v) = (if s < tn then td s else v)
        rw [if_pos (by omega), if_pos hs]; exact g5
    · refine ⟨j, hj, by simp only [hs, if_false], i, by omega, ?_, ?_⟩
      · show T j = (if i < tn then td i else v)
        rw [if_pos hi]; exact ht
      · show othF (g (Q j).toNat) (if i < tn then td i else v) = (if s < tn then td s else v)
        rw [if_pos hi, if_neg hs]; exact hv
theorem othF_end {x : T_Bar} (v : Int) : othF x v = x.1 ∨ othF x v = x.2.1 := by
  unfold othF; split
  · exact .inr rfl
  · exact .inl rfl
structure TInv (m : Nat) (g : Nat → T_Bar) (T Q td V T' : Nat → Int) (v : Int) (s : Nat) : Prop where
  keep : ∀ p, 1 ≤ p → p ≤ s → T' (V p).toNat = T (V p).toNat
  t : ∀ j, j < m → T' j = (g (Q j).toNat).1 ∨ T' j = (g (Q j).toNat).2.1
  cnt : ∀ x, tcI T' m x = tcI T m x + (if v = x then 1 else 0) - (if td s = x then 1 else 0)
theorem TInv.step {N m : Nat} {g : Nat → T_Bar} {F T Q td V : Nat → Int} {a b : Int} {tn : Nat} (h : BInv N m g F T Q td V a b tn) {T' : Nat → Int} {v : Int} {s : Nat} (hs : s < tn) (hs1 : 1 ≤ s)
    (ht : TInv m g T Q td V T' v s) : ∃ j : Nat, j < m ∧ V s = j ∧ ∃ s', s' < s ∧ T' j = td s' ∧ TInv m g T Q td V (fun x => if x = j then td s else T' x) v s' ∧ T j = td s' ∧ othF (g (Q j).toNat) (td s') = td s := by
  obtain ⟨j, g1, g2, s', g3, g4, g5⟩ := h.par s hs1 hs
  have hk : T' j = td s' := by
    have := ht.keep s hs1 (Nat.le_refl _)
    rw [g2] at this
    simp only [Int.toNat_natCast] at this
    rw [this, g4]
  refine ⟨j, g1, g2, s', g3, hk, ⟨fun p h1 h2 => ?_, fun j' hj' => ?_, fun x => ?_⟩, g4, g5⟩
  · obtain ⟨jp, e1, e2, sp, e3, e4, e5⟩ := h.par p h1 (by omega)
    have hne : jp ≠ j := by
      intro e
      subst e
      rw [g4] at e4
      rw [← e4, g5] at e5
      exact h.inj p s (by omega) hs e5.symm
    have := ht.keep p h1 (by omega)
    rw [e2] at this ⊢
    simp only [Int.toNat_natCast] at this ⊢
    rw [if_neg hne]; exact this
  · show (if j' = j then td s else T' j') = _ ∨ (if j' = j then td s else T' j') = _
    by_cases e : j' = j
    · subst e
      rw [if_pos rfl, ← g5]
      exact othF_end _
    · rw [if_neg e]; exact ht.t j' hj'
  · rw [tcI_upd T' j (td s) x m g1, ht.cnt x, hk]
    omega
structure Moved (N k nb m : Nat) (g : Nat → T_Bar) (F T Q : Nat → Int) (a b : Int) (F' T' : Nat → Int) (r : Bool) : Prop where
  inv : PInv N k nb m g F' T' Q
  yes : r = true → F' a.toNat = F a.toNat + 1 ∧ F' b.toNat = F b.toNat
  no : r = false → F' = F ∧ T' = T ∧ ∃ R : Nat → Bool, R a.toNat = true ∧ (∀ j, j < m → R (T j).toNat = true → R (othF (g (Q j).toNat) (T j)).toNat = true) ∧ ∀ v : Nat, R v = true → (v : Int) ≠ a → (v : Int) ≠ b → F v = 0
end Go.Proofs.Ytffnfeefjdmifaa.Mach
namespace Go.Proofs.Ytffnfeefjdmifaa.Mach
open Go
set_option linter.unusedVariables false
set_option linter.unusedSimpArgs false
def pebO (N m : Nat) (j : Nat) : AV := .agg [.ar 1 j 0 N, .ar 1 (j + 1) 0 m, .ar 1 (j + 2) 0 m]
def pebR (N m : Nat) (F T Q : Nat → Int) : Hp := [(0, iOb N F), (1, iOb m T), (2, iOb m Q)]
theorem PInv.start {N k nb : Nat} {g : Nat → T_Bar} (hb : ∀ e, e < nb → 0 ≤ (g e).1 ∧ (g e).1 < (g e).2.1 ∧ (g e).2.1 < N) : PInv N k nb 0 g (fun _ => (k : Int)) (fun _ => 0) (fun _ => 0) :=
  ⟨hb, fun j hj => absurd hj (Nat.not_lt_zero _), fun j hj => absurd hj (Nat.not_lt_zero _), fun v _ => by show (0 : Int) ≤ k; omega, fun v _ => by show (k : Int) + 0 = k; omega⟩
end Go.Proofs.Ytffnfeefjdmifaa.Mach
namespace Go.Proofs.Ytffnfeefjdmifaa.Mach
open Go
set_option linter.unusedVariables false
set_option linter.unusedSimpArgs false
def pebR3 (N m : Nat) (F T Q F' T' Q' : Nat → Int) : Hp := [(0, iOb N F), (1, iOb m T), (2, iOb m Q), (3, iOb N F'), (4, iOb m T'), (5, iOb m Q')]
end Go.Proofs.Ytffnfeefjdmifaa.Mach
namespace Go.Proofs.Ytffnfeefjdmifaa.Mach
open Go
set_option linter.unusedVariables false
set_option linter.unusedSimpArgs false
inductive FindR (N k nb m : Nat) (g : Nat → T_Bar) (F T Q : Nat → Int) (a b : Int) : Hp → AV → Prop
  | yes (F' T' : Nat → Int) (h : Moved N k nb m g F T Q a b F' T' true) : FindR N k nb m g F T Q a b (pebR3 N m F T Q F' T' Q) (.tup [pebO N m 3, .p (.bool true)])
  | no (h : Moved N k nb m g F T Q a b F T false) : FindR N k nb m g F T Q a b (pebR N m F T Q) (.tup [pebO N m 0, .p (.bool false)])
end Go.Proofs.Ytffnfeefjdmifaa.Mach
namespace Go.Proofs.Ytffnfeefjdmifaa.Mach
open Go
set_option linter.unusedVariables false
set_option linter.unusedSimpArgs false
def aft (a b : T_Bar) : Bool := bif decide (a.1 < b.1) then true else bif a.1 == b.1 then decide (a.2.1 ≤ b.2.1) else false
def cmpI (x y : Int) : Int := if x < y then -1 else if x > y then 1 else 0
def cmpB (a b : T_Bar) : Int := if cmpI a.1 b.1 = 0 then cmpI a.2.1 b.2.1 else cmpI a.1 b.1
def badB (N : Int) (g : Nat → T_Bar) (k : Nat) : Bool :=
  bif bif bif decide ((g k).1 < 0) then true else decide ((g k).1 ≥ (g k).2.1) then true else decide ((g k).2.1 ≥ N) then true
    else bif decide ((k : Int) > 0) then !aft (g ((k : Int) - 1).toNat) (g k) else false
def goodB (N : Int) (g : Nat → T_Bar) : Nat → Bool
  | 0 => true
  | k + 1 => goodB N g k && !badB N g k
def isGraphF (v : T_Graph) : Bool := if inB v.1 1 8 = true ∧ v.2.1.1 ≤ 24 then goodB v.1 v.2.1.2 v.2.1.1 else false
def barA (a : T_Bar) : AV := .agg [.p (.int .i64 a.1), .p (.int .i64 a.2.1)]
def graphL (v : T_BarS) : AV := .p (.seq true 2 v.1 (fun i => [.int .i64 (v.2 i).1, .int .i64 (v.2 i).2.1]))
def graphA (v : T_Graph) : AV := .agg [.p (.int .i64 v.1), graphL v.2.1]
def boxG (v : T_Graph) : Ob := ⟨true, 2, 1, fun i => [.p (.int .i64 v.1), graphL v.2.1]⟩
def S48 (v : T_Graph) (k : Nat) : St :=
  ⟨[graphA v, .pt 2 0 0 0, .p .any, .p (.int .i64 k)] ++ List.replicate 55 anyA, [(0, boxG v)], 1⟩
def S51 (v : T_Graph) (k : Nat) : St :=
  ⟨[graphA v, .pt 2 0 0 0] ++ List.replicate 14 anyA ++ [graphL v.2.1, .p (.int .i64 v.2.1.1), .p (.int .i64 k)] ++ List.replicate 37 anyA, [(0, boxG v)], 1⟩
theorem p57 (a b : T_Bar) :
    pathOb Try.prog Try.f141 0 [.reg [oT, oT, oT], .reg [oT, oT, oT, oT, oT, oT, oT, oT, oT, oT, oT, oT, oT, oT, oT, oT, oT, oT, oT, oT]] [.code (bodyOf Try.f141)] (start Try.f141 [] 0 [barA a, barA b]) [] 1 [] (.p (.bool (aft a b))) =
    some [((0 : Nat) < 1),
  ((0 : Nat) < 1),
  (AG (!decide (a.1 < b.1))),
  (((!decide (a.1 < b.1)) = true) → ((0 : Nat) < 1)),
  (AG (!decide (a.1 < b.1))),
  (((!decide (a.1 < b.1)) = true) → ((0 : Nat) < 1)),
  (AG (!decide (a.1 < b.1))),
  (AG (!decide (a.1 < b.1))),
  (AG (!decide (a.1 < b.1))),
  (AG (!decide (a.1 < b.1) && a.1 == b.1)),
  (((!decide (a.1 < b.1) && a.1 == b.1) = true) → ((0 : Nat) < 1)),
  (AG (!decide (a.1 < b.1) && a.1 == b.1)),
  (((!decide (a.1 < b.1) && a.1 == b.1) = true) → ((0 : Nat) < 1)),
  (AG (!decide (a.1 < b.1) && a.1 == b.1)),
  (AG (!decide (a.1 < b.1) && a.1 == b.1)),
  (AG (!decide (a.1 < b.1))),
  (((!decide (a.1 < b.1)) = true) → (((a.1 == b.1) = true) → ((!decide (a.1 < b.1) && a.1 == b.1) = true))),
  (((decide (a.1 < b.1)) = false) → ((!decide (a.1 < b.1)) = true)),
  ((bif decide (a.1 < b.1) then true else bif a.1 == b.1 then decide (a.2.1 ≤ b.2.1) else false) = (aft a b))] := by kernel_rfl
theorem p62a (x y : Int) :
    pathOb Try.prog Try.f152 0 [.reg [oT], .reg [oT, oT, oT, oT], .dec true, .reg [oT]] [.code (bodyOf Try.f152)] (start Try.f152 [] 0 [.p (.int .i64 x), .p (.int .i64 y)]) [] 1 [] (.p (.int .i64 (-1))) =
    some [((decide (x < y)) = true),
  (AI ((-1)))] := by kernel_rfl
theorem p62b (x y : Int) :
    pathOb Try.prog Try.f152 0 [.reg [oT], .reg [oT, oT, oT, oT], .dec false, .reg [oT, oT, oT, oT], .dec true, .reg [oT]] [.code (bodyOf Try.f152)] (start Try.f152 [] 0 [.p (.int .i64 x), .p (.int .i64 y)]) [] 1 [] (.p (.int .i64 1)) =
    some [((decide (x < y)) = false),
  ((decide (x > y)) = true),
  (AI 1)] := by kernel_rfl
theorem p62c (x y : Int) :
    pathOb Try.prog Try.f152 0 [.reg [oT], .reg [oT, oT, oT, oT], .dec false, .reg [oT, oT, oT, oT], .dec false, .reg [oT]] [.code (bodyOf Try.f152)] (start Try.f152 [] 0 [.p (.int .i64 x), .p (.int .i64 y)]) [] 1 [] (.p (.int .i64 0)) =
    some [((decide (x < y)) = false),
  ((decide (x > y)) = false),
  (AI 0)] := by kernel_rfl
theorem p59a (a b : T_Bar) :
    pathOb Try.prog Try.f135 0 [.reg [oT, oT, oT], .reg [oT, oT, oT, oT, ⟨true, (some ⟨[], [], [], 1, [], .p (.int .i64 (cmpI a.1 b.1))⟩), none⟩, oT], .reg [oT, oT], .dec true, .reg [oT, oT]] [.code (bodyOf Try.f135)] (start Try.f135 [] 0 [barA a, barA b]) [] 1 [] (.p (.int .i64 (cmpI a.1 b.1))) =
    some [((0 : Nat) < 1),
  ((0 : Nat) < 1),
  Con Try.prog 152 0 [] [.p (.int .i64 a.1), .p (.int .i64 b.1)] [] (.p (.int .i64 (cmpI a.1 b.1))),
  ((cmpI a.1 b.1 != 0) = true),
  (AI ((cmpI a.1 b.1)))] := by kernel_rfl
theorem p59b (a b : T_Bar) :
    pathOb Try.prog Try.f135 0 [.reg [oT, oT, oT], .reg [oT, oT, oT, oT, ⟨true, (some ⟨[], [], [], 1, [], .p (.int .i64 (cmpI a.1 b.1))⟩), none⟩, oT], .reg [oT, oT], .dec false, .reg [oT, oT, oT, oT, ⟨true, (some ⟨[], [], [], 1, [], .p (.int .i64 (cmpI a.2.1 b.2.1))⟩), none⟩, oT]] [.code (bodyOf Try.f135)] (start Try.f135 [] 0 [barA a, barA b]) [] 1 [] (.p (.int .i64 (cmpI a.2.1 b.2.1))) =
    some [((0 : Nat) < 1),
  ((0 : Nat) < 1),
  Con Try.prog 152 0 [] [.p (.int .i64 a.1), .p (.int .i64 b.1)] [] (.p (.int .i64 (cmpI a.1 b.1))),
  ((cmpI a.1 b.1 != 0) = false),
  ((0 : Nat) < 1),
  ((0 : Nat) < 1),
  Con Try.prog 152 0 [] [.p (.int .i64 a.2.1), .p (.int .i64 b.2.1)] [] (.p (.int .i64 (cmpI a.2.1 b.2.1))),
  (AI ((cmpI a.2.1 b.2.1)))] := by kernel_rfl
theorem p48z (v : T_Graph) :
    pathOb Try.prog Try.f110 0 [.reg [oT, oT], .reg [oT, oT, ⟨true, (some ⟨[], [], [], 1, [], .p (.bool (inB v.1 1 8))⟩), none⟩, oT, oT, oT, oT, oT, oT, oT], .dec true, .reg [oT]] [.code (bodyOf Try.f110)] (start Try.f110 [] 0 [graphA v]) [] 1 [] (.p (.bool false)) =
    some [((0 : Nat) < 1),
  Con Try.prog 37 0 [] [.p (.int .i64 v.1), .p (.int .i64 1), .p (.int .i64 8)] [] (.p (.bool (inB v.1 1 8))),
  (AG (!!inB v.1 1 8)),
  (((!!inB v.1 1 8) = true) → ((0 : Nat) < 1)),
  (AG (!!inB v.1 1 8)),
  (AG (!!inB v.1 1 8)),
  (((!inB v.1 1 8) = false) → ((!!inB v.1 1 8) = true)),
  ((bif !inB v.1 1 8 then true else decide ((↑v.2.1.1 : Int) > 24)) = true),
  (false = false)] := by kernel_rfl
theorem p48a (v : T_Graph) :
    pieceOb Try.prog 0 [.reg [oT, oT], .reg [oT, oT, ⟨true, (some ⟨[], [], [], 1, [], .p (.bool (inB v.1 1 8))⟩), none⟩, oT, oT, oT, oT, oT, oT, oT], .dec false, .reg [oT], .head] [.code (bodyOf Try.f110)] (start Try.f110 [] 0 [graphA v]) [0] 1 (S48 v 0) =
    some ([.code (cAt (bodyOf Try.f110) [1, 1, 0, 1, 0, 0]), .inLoop (cAt (bodyOf Try.f110) [1, 1, 0, 1, 0, 0]), .inBlock 0, .code (cAt (bodyOf Try.f110) [1, 1, 1])], [((0 : Nat) < 1),
  Con Try.prog 37 0 [] [.p (.int .i64 v.1), .p (.int .i64 1), .p (.int .i64 8)] [] (.p (.bool (inB v.1 1 8))),
  (AG (!!inB v.1 1 8)),
  (((!!inB v.1 1 8) = true) → ((0 : Nat) < 1)),
  (AG (!!inB v.1 1 8)),
  (AG (!!inB v.1 1 8)),
  (((!inB v.1 1 8) = false) → ((!!inB v.1 1 8) = true)),
  ((bif !inB v.1 1 8 then true else decide ((↑v.2.1.1 : Int) > 24)) = false),
  (AI v.1),
  (AN v.2.1.1),
  (AP v.2.1.1 (fun i => [.int .i64 ((v.2.1.2 i).1), .int .i64 ((v.2.1.2 i).2.1)])),
  (AN 0),
  ((0 : Int) = (↑0 : Int)),
  ((([AV.p (PV.int IntKind.i64 v.1), graphL v.2.1].length) : Nat) = 2),
  ((1 : Nat) ≤ 1),
  ((1 : Nat) ≤ 1),
  (AI v.1),
  (AN v.2.1.1),
  (AP v.2.1.1 (fun i => [.int .i64 ((v.2.1.2 i).1), .int .i64 ((v.2.1.2 i).2.1)]))]) := by kernel_rfl
theorem p48b (v : T_Graph) (k : Nat) :
    pieceOb Try.prog 0 [.reg [oT, oT, oT, oT, oT], .dec true, .reg [oT, oT, oT, oT, oT, oT, oT], .reg [oT, oT, oT, oT, oT, oT, oT, oT, oT, oT, oT, oT, oT, oT, oT, oT, oT, oT, oT, oT, oT, oT, oT, oT, oT, oT, oT, oT, ⟨true, (some ⟨[], [], [], 1, [], .p (.bool (aft (v.2.1.2 ((k : Int) - 1).toNat) (v.2.1.2 k)))⟩), none⟩, oT, oT, oT], .dec false, .reg [oT, oT, oT], .head] [.code (cAt (bodyOf Try.f110) [1, 1, 0, 1, 0, 0]), .inLoop (cAt (bodyOf Try.f110) [1, 1, 0, 1, 0, 0]), .inBlock 0, .code (cAt (bodyOf Try.f110) [1, 1, 1])] (S48 v k) [0] 1 (S48 v (k + 1)) =
    some ([.code (cAt (bodyOf Try.f110) [1, 1, 0, 1, 0, 0]), .inLoop (cAt (bodyOf Try.f110) [1, 1, 0, 1, 0, 0]), .inBlock 0, .code (cAt (bodyOf Try.f110) [1, 1, 1])], [((0 : Nat) < 1),
  ((decide ((↑k : Int) < (↑v.2.1.1 : Int))) = true),
  ((0 : Nat) < 1),
  ((0 : Int) ≤ (↑k : Int)),
  (((↑k : Int) : Int) < (↑v.2.1.1 : Int)),
  ((0 : Nat) < 1),
  ((true = true) → (AN 1)),
  ((0 : Nat) < 1),
  (AG (!decide ((v.2.1.2 (↑k : Int).toNat).1 < 0))),
  (((!decide ((v.2.1.2 (↑k : Int).toNat).1 < 0)) = true) → ((0 : Nat) < 1)),
  (AG (!decide ((v.2.1.2 (↑k : Int).toNat).1 < 0))),
  (((!decide ((v.2.1.2 (↑k : Int).toNat).1 < 0)) = true) → ((0 : Nat) < 1)),
  (AG (!decide ((v.2.1.2 (↑k : Int).toNat).1 < 0))),
  (AG (!decide ((v.2.1.2 (↑k : Int).toNat).1 < 0))),
  (((decide ((v.2.1.2 (↑k : Int).toNat).1 < 0)) = false) → ((!decide ((v.2.1.2 (↑k : Int).toNat).1 < 0)) = true)),
  (AG (!bif decide ((v.2.1.2 (↑k : Int).toNat).1 < 0) then true else decide ((v.2.1.2 (↑k : Int).toNat).1 ≥ (v.2.1.2 (↑k : Int).toNat).2.1))),
  (((!bif decide ((v.2.1.2 (↑k : Int).toNat).1 < 0) then true else decide ((v.2.1.2 (↑k : Int).toNat).1 ≥ (v.2.1.2 (↑k : Int).toNat).2.1)) = true) → ((0 : Nat) < 1)),
  (AG (!bif decide ((v.2.1.2 (↑k : Int).toNat).1 < 0) then true else decide ((v.2.1.2 (↑k : Int).toNat).1 ≥ (v.2.1.2 (↑k : Int).toNat).2.1))),
  (((!bif decide ((v.2.1.2 (↑k : Int).toNat).1 < 0) then true else decide ((v.2.1.2 (↑k : Int).toNat).1 ≥ (v.2.1.2 (↑k : Int).toNat).2.1)) = true) → ((0 : Nat) < 1)),
  (AG (!bif decide ((v.2.1.2 (↑k : Int).toNat).1 < 0) then true else decide ((v.2.1.2 (↑k : Int).toNat).1 ≥ (v.2.1.2 (↑k : Int).toNat).2.1))),
  (AG (!bif decide ((v.2.1.2 (↑k : Int).toNat).1 < 0) then true else decide ((v.2.1.2 (↑k : Int).toNat).1 ≥ (v.2.1.2 (↑k : Int).toNat).2.1))),
  (((bif decide ((v.2.1.2 (↑k : Int).toNat).1 < 0) then true else decide ((v.2.1.2 (↑k : Int).toNat).1 ≥ (v.2.1.2 (↑k : Int).toNat).2.1)) = false) → ((!bif decide ((v.2.1.2 (↑k : Int).toNat).1 < 0) then true else decide ((v.2.1.2 (↑k : Int).toNat).1 ≥ (v.2.1.2 (↑k : Int).toNat).2.1)) = true)),
  (AG (!bif bif decide ((v.2.1.2 (↑k : Int).toNat).1 < 0) then true else decide ((v.2.1.2 (↑k : Int).toNat).1 ≥ (v.2.1.2 (↑k : Int).toNat).2.1) then true else decide ((v.2.1.2 (↑k : Int).toNat).2.1 ≥ v.1))),
  (AG (!bif bif decide ((v.2.1.2 (↑k : Int).toNat).1 < 0) then true else decide ((v.2.1.2 (↑k : Int).toNat).1 ≥ (v.2.1.2 (↑k : Int).toNat).2.1) then true else decide ((v.2.1.2 (↑k : Int).toNat).2.1 ≥ v.1))),
  (AG ((!bif bif decide ((v.2.1.2 (↑k : Int).toNat).1 < 0) then true else decide ((v.2.1.2 (↑k : Int).toNat).1 ≥ (v.2.1.2 (↑k : Int).toNat).2.1) then true else decide ((v.2.1.2 (↑k : Int).toNat).2.1 ≥ v.1)) && decide ((↑k : Int) > 0))),
  ((((!bif bif decide ((v.2.1.2 (↑k : Int).toNat).1 < 0) then true else decide ((v.2.1.2 (↑k : Int).toNat).1 ≥ (v.2.1.2 (↑k : Int).toNat).2.1) then true else decide ((v.2.1.2 (↑k : Int).toNat).2.1 ≥ v.1)) && decide ((↑k : Int) > 0)) = true) → ((0 : Nat) < 1)),
  (AG ((!bif bif decide ((v.2.1.2 (↑k : Int).toNat).1 < 0) then true else decide ((v.2.1.2 (↑k : Int).toNat).1 ≥ (v.2.1.2 (↑k : Int).toNat).2.1) then true else decide ((v.2.1.2 (↑k : Int).toNat).2.1 ≥ v.1)) && decide ((↑k : Int) > 0))),
  ((((!bif bif decide ((v.2.1.2 (↑k : Int).toNat).1 < 0) then true else decide ((v.2.1.2 (↑k : Int).toNat).1 ≥ (v.2.1.2 (↑k : Int).toNat).2.1) then true else decide ((v.2.1.2 (↑k : Int).toNat).2.1 ≥ v.1)) && decide ((↑k : Int) > 0)) = true) → (((-9223372036854775808) : Int) ≤ ((↑k : Int) - 1))),
  ((((!bif bif decide ((v.2.1.2 (↑k : Int).toNat).1 < 0) then true else decide ((v.2.1.2 (↑k : Int).toNat).1 ≥ (v.2.1.2 (↑k : Int).toNat).2.1) then true else decide ((v.2.1.2 (↑k : Int).toNat).2.1 ≥ v.1)) && decide ((↑k : Int) > 0)) = true) → ((((↑k : Int) - 1) : Int) ≤ 9223372036854775807)),
  (AG ((!bif bif decide ((v.2.1.2 (↑k : Int).toNat).1 < 0) then true else decide ((v.2.1.2 (↑k : Int).toNat).1 ≥ (v.2.1.2 (↑k : Int).toNat).2.1) then true else decide ((v.2.1.2 (↑k : Int).toNat).2.1 ≥ v.1)) && decide ((↑k : Int) > 0))),
  (AG ((!bif bif decide ((v.2.1.2 (↑k : Int).toNat).1 < 0) then true else decide ((v.2.1.2 (↑k : Int).toNat).1 ≥ (v.2.1.2 (↑k : Int).toNat).2.1) then true else decide ((v.2.1.2 (↑k : Int).toNat).2.1 ≥ v.1)) && decide ((↑k : Int) > 0))),
  ((((!bif bif decide ((v.2.1.2 (↑k : Int).toNat).1 < 0) then true else decide ((v.2.1.2 (↑k : Int).toNat).1 ≥ (v.2.1.2 (↑k : Int).toNat).2.1) then true else decide ((v.2.1.2 (↑k : Int).toNat).2.1 ≥ v.1)) && decide ((↑k : Int) > 0)) = true) → ((0 : Int) ≤ ((↑k : Int) - 1))),
  ((((!bif bif decide ((v.2.1.2 (↑k : Int).toNat).1 < 0) then true else decide ((v.2.1.2 (↑k : Int).toNat).1 ≥ (v.2.1.2 (↑k : Int).toNat).2.1) then true else decide ((v.2.1.2 (↑k : Int).toNat).2.1 ≥ v.1)) && decide ((↑k : Int) > 0)) = true) → ((((↑k : Int) - 1) : Int) < (↑v.2.1.1 : Int))),
  (AG ((!bif bif decide ((v.2.1.2 (↑k : Int).toNat).1 < 0) then true else decide ((v.2.1.2 (↑k : Int).toNat).1 ≥ (v.2.1.2 (↑k : Int).toNat).2.1) then true else decide ((v.2.1.2 (↑k : Int).toNat).2.1 ≥ v.1)) && decide ((↑k : Int) > 0))),
  ((((!bif bif decide ((v.2.1.2 (↑k : Int).toNat).1 < 0) then true else decide ((v.2.1.2 (↑k : Int).toNat).1 ≥ (v.2.1.2 (↑k : Int).toNat).2.1) then true else decide ((v.2.1.2 (↑k : Int).toNat).2.1 ≥ v.1)) && decide ((↑k : Int) > 0)) = true) → ((0 : Nat) < 1)),
  (AG ((!bif bif decide ((v.2.1.2 (↑k : Int).toNat).1 < 0) then true else decide ((v.2.1.2 (↑k : Int).toNat).1 ≥ (v.2.1.2 (↑k : Int).toNat).2.1) then true else decide ((v.2.1.2 (↑k : Int).toNat).2.1 ≥ v.1)) && decide ((↑k : Int) > 0))),
  (AG ((!bif bif decide ((v.2.1.2 (↑k : Int).toNat).1 < 0) then true else decide ((v.2.1.2 (↑k : Int).toNat).1 ≥ (v.2.1.2 (↑k : Int).toNat).2.1) then true else decide ((v.2.1.2 (↑k : Int).toNat).2.1 ≥ v.1)) && decide ((↑k : Int) > 0))),
  ((((!bif bif decide ((v.2.1.2 (↑k : Int).toNat).1 < 0) then true else decide ((v.2.1.2 (↑k : Int).toNat).1 ≥ (v.2.1.2 (↑k : Int).toNat).2.1) then true else decide ((v.2.1.2 (↑k : Int).toNat).2.1 ≥ v.1)) && decide ((↑k : Int) > 0)) = true) → Con Try.prog 141 0 [] [.agg [.p (.int .i64 ((v.2.1.2 ((↑k : Int) - 1).toNat).1)), .p (.int .i64 ((v.2.1.2 ((↑k : Int) - 1).toNat).2.1))], .agg [.p (.int .i64 ((v.2.1.2 k).1)), .p (.int .i64 ((v.2.1.2 k).2.1))]] [] (.p (.bool (aft (v.2.1.2 ((↑k : Int) - 1).toNat) (v.2.1.2 k))))),
  (AG ((!bif bif decide ((v.2.1.2 (↑k : Int).toNat).1 < 0) then true else decide ((v.2.1.2 (↑k : Int).toNat).1 ≥ (v.2.1.2 (↑k : Int).toNat).2.1) then true else decide ((v.2.1.2 (↑k : Int).toNat).2.1 ≥ v.1)) && decide ((↑k : Int) > 0))),
  (AG (!bif bif decide ((v.2.1.2 (↑k : Int).toNat).1 < 0) then true else decide ((v.2.1.2 (↑k : Int).toNat).1 ≥ (v.2.1.2 (↑k : Int).toNat).2.1) then true else decide ((v.2.1.2 (↑k : Int).toNat).2.1 ≥ v.1))),
  (((!bif bif decide ((v.2.1.2 (↑k : Int).toNat).1 < 0) then true else decide ((v.2.1.2 (↑k : Int).toNat).1 ≥ (v.2.1.2 (↑k : Int).toNat).2.1) then true else decide ((v.2.1.2 (↑k : Int).toNat).2.1 ≥ v.1)) = true) → (((decide ((↑k : Int) > 0)) = true) → (((!bif bif decide ((v.2.1.2 (↑k : Int).toNat).1 < 0) then true else decide ((v.2.1.2 (↑k : Int).toNat).1 ≥ (v.2.1.2 (↑k : Int).toNat).2.1) then true else decide ((v.2.1.2 (↑k : Int).toNat).2.1 ≥ v.1)) && decide ((↑k : Int) > 0)) = true))),
  (((bif bif decide ((v.2.1.2 (↑k : Int).toNat).1 < 0) then true else decide ((v.2.1.2 (↑k : Int).toNat).1 ≥ (v.2.1.2 (↑k : Int).toNat).2.1) then true else decide ((v.2.1.2 (↑k : Int).toNat).2.1 ≥ v.1)) = false) → ((!bif bif decide ((v.2.1.2 (↑k : Int).toNat).1 < 0) then true else decide ((v.2.1.2 (↑k : Int).toNat).1 ≥ (v.2.1.2 (↑k : Int).toNat).2.1) then true else decide ((v.2.1.2 (↑k : Int).toNat).2.1 ≥ v.1)) = true)),
  ((bif bif bif decide ((v.2.1.2 (↑k : Int).toNat).1 < 0) then true else decide ((v.2.1.2 (↑k : Int).toNat).1 ≥ (v.2.1.2 (↑k : Int).toNat).2.1) then true else decide ((v.2.1.2 (↑k : Int).toNat).2.1 ≥ v.1) then true else bif decide ((↑k : Int) > 0) then !aft (v.2.1.2 ((↑k : Int) - 1).toNat) (v.2.1.2 k) else false) = false),
  (((-9223372036854775808) : Int) ≤ ((↑k : Int) + 1)),
  ((((↑k : Int) + 1) : Int) ≤ 9223372036854775807),
  (AI v.1),
  (AN v.2.1.1),
  (AP v.2.1.1 (fun i => [.int .i64 ((v.2.1.2 i).1), .int .i64 ((v.2.1.2 i).2.1)])),
  (AN 0),
  ((((↑k : Int) + 1) : Int) = (↑(k + 1) : Int)),
  (AN 2),
  ((1 : Nat) ≤ 1),
  ((1 : Nat) ≤ 1),
  (AI v.1),
  (AN v.2.1.1),
  (AP v.2.1.1 (fun i => [.int .i64 ((v.2.1.2 i).1), .int .i64 ((v.2.1.2 i).2.1)]))]) := by kernel_rfl
theorem p48c (v : T_Graph) (k : Nat) :
    pathOb Try.prog Try.f110 0 [.reg [oT, oT, oT, oT, oT], .dec true, .reg [oT, oT, oT, oT, oT, oT, oT], .reg [oT, oT, oT, oT, oT, oT, oT, oT, oT, oT, oT, oT, oT, oT, oT, oT, oT, oT, oT, oT, oT, oT, oT, oT, oT, oT, oT, oT, ⟨true, (some ⟨[], [], [], 1, [], .p (.bool (aft (v.2.1.2 ((k : Int) - 1).toNat) (v.2.1.2 k)))⟩), none⟩, oT, oT, oT], .dec true, .reg [oT]] [.code (cAt (bodyOf Try.f110) [1, 1, 0, 1, 0, 0]), .inLoop (cAt (bodyOf Try.f110) [1, 1, 0, 1, 0, 0]), .inBlock 0, .code (cAt (bodyOf Try.f110) [1, 1, 1])] (S48 v k) [] 1 [] (.p (.bool false)) =
    some [((0 : Nat) < 1),
  ((decide ((↑k : Int) < (↑v.2.1.1 : Int))) = true),
  ((0 : Nat) < 1),
  ((0 : Int) ≤ (↑k : Int)),
  (((↑k : Int) : Int) < (↑v.2.1.1 : Int)),
  ((0 : Nat) < 1),
  ((true = true) → (AN 1)),
  ((0 : Nat) < 1),
  (AG (!decide ((v.2.1.2 (↑k : Int).toNat).1 < 0))),
  (((!decide ((v.2.1.2 (↑k : Int).toNat).1 < 0)) = true) → ((0 : Nat) < 1)),
  (AG (!decide ((v.2.1.2 (↑k : Int).toNat).1 < 0))),
  (((!decide ((v.2.1.2 (↑k : Int).toNat).1 < 0)) = true) → ((0 : Nat) < 1)),
  (AG (!decide ((v.2.1.2 (↑k : Int).toNat).1 < 0))),
  (AG (!decide ((v.2.1.2 (↑k : Int).toNat).1 < 0))),
  (((decide ((v.2.1.2 (↑k : Int).toNat).1 < 0)) = false) → ((!decide ((v.2.1.2 (↑k : Int).toNat).1 < 0)) = true)),
  (AG (!bif decide ((v.2.1.2 (↑k : Int).toNat).1 < 0) then true else decide ((v.2.1.2 (↑k : Int).toNat).1 ≥ (v.2.1.2 (↑k : Int).toNat).2.1))),
  (((!bif decide ((v.2.1.2 (↑k : Int).toNat).1 < 0) then true else decide ((v.2.1.2 (↑k : Int).toNat).1 ≥ (v.2.1.2 (↑k : Int).toNat).2.1)) = true) → ((0 : Nat) < 1)),
  (AG (!bif decide ((v.2.1.2 (↑k : Int).toNat).1 < 0) then true else decide ((v.2.1.2 (↑k : Int).toNat).1 ≥ (v.2.1.2 (↑k : Int).toNat).2.1))),
  (((!bif decide ((v.2.1.2 (↑k : Int).toNat).1 < 0) then true else decide ((v.2.1.2 (↑k : Int).toNat).1 ≥ (v.2.1.2 (↑k : Int).toNat).2.1)) = true) → ((0 : Nat) < 1)),
  (AG (!bif decide ((v.2.1.2 (↑k : Int).toNat).1 < 0) then true else decide ((v.2.1.2 (↑k : Int).toNat).1 ≥ (v.2.1.2 (↑k : Int).toNat).2.1))),
  (AG (!bif decide ((v.2.1.2 (↑k : Int).toNat).1 < 0) then true else decide ((v.2.1.2 (↑k : Int).toNat).1 ≥ (v.2.1.2 (↑k : Int).toNat).2.1))),
  (((bif decide ((v.2.1.2 (↑k : Int).toNat).1 < 0) then true else decide ((v.2.1.2 (↑k : Int).toNat).1 ≥ (v.2.1.2 (↑k : Int).toNat).2.1)) = false) → ((!bif decide ((v.2.1.2 (↑k : Int).toNat).1 < 0) then true else decide ((v.2.1.2 (↑k : Int).toNat).1 ≥ (v.2.1.2 (↑k : Int).toNat).2.1)) = true)),
  (AG (!bif bif decide ((v.2.1.2 (↑k : Int).toNat).1 < 0) then true else decide ((v.2.1.2 (↑k : Int).toNat).1 ≥ (v.2.1.2 (↑k : Int).toNat).2.1) then true else decide ((v.2.1.2 (↑k : Int).toNat).2.1 ≥ v.1))),
  (AG (!bif bif decide ((v.2.1.2 (↑k : Int).toNat).1 < 0) then true else decide ((v.2.1.2 (↑k : Int).toNat).1 ≥ (v.2.1.2 (↑k : Int).toNat).2.1) then true else decide ((v.2.1.2 (↑k : Int).toNat).2.1 ≥ v.1))),
  (AG ((!bif bif decide ((v.2.1.2 (↑k : Int).toNat).1 < 0) then true else decide ((v.2.1.2 (↑k : Int).toNat).1 ≥ (v.2.1.2 (↑k : Int).toNat).2.1) then true else decide ((v.2.1.2 (↑k : Int).toNat).2.1 ≥ v.1)) && decide ((↑k : Int) > 0))),
  ((((!bif bif decide ((v.2.1.2 (↑k : Int).toNat).1 < 0) then true else decide ((v.2.1.2 (↑k : Int).toNat).1 ≥ (v.2.1.2 (↑k : Int).toNat).2.1) then true else decide ((v.2.1.2 (↑k : Int).toNat).2.1 ≥ v.1)) && decide ((↑k : Int) > 0)) = true) → ((0 : Nat) < 1)),
  (AG ((!bif bif decide ((v.2.1.2 (↑k : Int).toNat).1 < 0) then true else decide ((v.2.1.2 (↑k : Int).toNat).1 ≥ (v.2.1.2 (↑k : Int).toNat).2.1) then true else decide ((v.2.1.2 (↑k : Int).toNat).2.1 ≥ v.1)) && decide ((↑k : Int) > 0))),
  ((((!bif bif decide ((v.2.1.2 (↑k : Int).toNat).1 < 0) then true else decide ((v.2.1.2 (↑k : Int).toNat).1 ≥ (v.2.1.2 (↑k : Int).toNat).2.1) then true else decide ((v.2.1.2 (↑k : Int).toNat).2.1 ≥ v.1)) && decide ((↑k : Int) > 0)) = true) → (((-9223372036854775808) : Int) ≤ ((↑k : Int) - 1))),
  ((((!bif bif decide ((v.2.1.2 (↑k : Int).toNat).1 < 0) then true else decide ((v.2.1.2 (↑k : Int).toNat).1 ≥ (v.2.1.2 (↑k : Int).toNat).2.1) then true else decide ((v.2.1.2 (↑k : Int).toNat).2.1 ≥ v.1)) && decide ((↑k : Int) > 0)) = true) → ((((↑k : Int) - 1) : Int) ≤ 9223372036854775807)),
  (AG ((!bif bif decide ((v.2.1.2 (↑k : Int).toNat).1 < 0) then true else decide ((v.2.1.2 (↑k : Int).toNat).1 ≥ (v.2.1.2 (↑k : Int).toNat).2.1) then true else decide ((v.2.1.2 (↑k : Int).toNat).2.1 ≥ v.1)) && decide ((↑k : Int) > 0))),
  (AG ((!bif bif decide ((v.2.1.2 (↑k : Int).toNat).1 < 0) then true else decide ((v.2.1.2 (↑k : Int).toNat).1 ≥ (v.2.1.2 (↑k : Int).toNat).2.1) then true else decide ((v.2.1.2 (↑k : Int).toNat).2.1 ≥ v.1)) && decide ((↑k : Int) > 0))),
  ((((!bif bif decide ((v.2.1.2 (↑k : Int).toNat).1 < 0) then true else decide ((v.2.1.2 (↑k : Int).toNat).1 ≥ (v.2.1.2 (↑k : Int).toNat).2.1) then true else decide ((v.2.1.2 (↑k : Int).toNat).2.1 ≥ v.1)) && decide ((↑k : Int) > 0)) = true) → ((0 : Int) ≤ ((↑k : Int) - 1))),
  ((((!bif bif decide ((v.2.1.2 (↑k : Int).toNat).1 < 0) then true else decide ((v.2.1.2 (↑k : Int).toNat).1 ≥ (v.2.1.2 (↑k : Int).toNat).2.1) then true else decide ((v.2.1.2 (↑k : Int).toNat).2.1 ≥ v.1)) && decide ((↑k : Int) > 0)) = true) → ((((↑k : Int) - 1) : Int) < (↑v.2.1.1 : Int))),
  (AG ((!bif bif decide ((v.2.1.2 (↑k : Int).toNat).1 < 0) then true else decide ((v.2.1.2 (↑k : Int).toNat).1 ≥ (v.2.1.2 (↑k : Int).toNat).2.1) then true else decide ((v.2.1.2 (↑k : Int).toNat).2.1 ≥ v.1)) && decide ((↑k : Int) > 0))),
  ((((!bif bif decide ((v.2.1.2 (↑k : Int).toNat).1 < 0) then true else decide ((v.2.1.2 (↑k : Int).toNat).1 ≥ (v.2.1.2 (↑k : Int).toNat).2.1) then true else decide ((v.2.1.2 (↑k : Int).toNat).2.1 ≥ v.1)) && decide ((↑k : Int) > 0)) = true) → ((0 : Nat) < 1)),
  (AG ((!bif bif decide ((v.2.1.2 (↑k : Int).toNat).1 < 0) then true else decide ((v.2.1.2 (↑k : Int).toNat).1 ≥ (v.2.1.2 (↑k : Int).toNat).2.1) then true else decide ((v.2.1.2 (↑k : Int).toNat).2.1 ≥ v.1)) && decide ((↑k : Int) > 0))),
  (AG ((!bif bif decide ((v.2.1.2 (↑k : Int).toNat).1 < 0) then true else decide ((v.2.1.2 (↑k : Int).toNat).1 ≥ (v.2.1.2 (↑k : Int).toNat).2.1) then true else decide ((v.2.1.2 (↑k : Int).toNat).2.1 ≥ v.1)) && decide ((↑k : Int) > 0))),
  ((((!bif bif decide ((v.2.1.2 (↑k : Int).toNat).1 < 0) then true else decide ((v.2.1.2 (↑k : Int).toNat).1 ≥ (v.2.1.2 (↑k : Int).toNat).2.1) then true else decide ((v.2.1.2 (↑k : Int).toNat).2.1 ≥ v.1)) && decide ((↑k : Int) > 0)) = true) → Con Try.prog 141 0 [] [.agg [.p (.int .i64 ((v.2.1.2 ((↑k : Int) - 1).toNat).1)), .p (.int .i64 ((v.2.1.2 ((↑k : Int) - 1).toNat).2.1))], .agg [.p (.int .i64 ((v.2.1.2 k).1)), .p (.int .i64 ((v.2.1.2 k).2.1))]] [] (.p (.bool (aft (v.2.1.2 ((↑k : Int) - 1).toNat) (v.2.1.2 k))))),
  (AG ((!bif bif decide ((v.2.1.2 (↑k : Int).toNat).1 < 0) then true else decide ((v.2.1.2 (↑k : Int).toNat).1 ≥ (v.2.1.2 (↑k : Int).toNat).2.1) then true else decide ((v.2.1.2 (↑k : Int).toNat).2.1 ≥ v.1)) && decide ((↑k : Int) > 0))),
  (AG (!bif bif decide ((v.2.1.2 (↑k : Int).toNat).1 < 0) then true else decide ((v.2.1.2 (↑k : Int).toNat).1 ≥ (v.2.1.2 (↑k : Int).toNat).2.1) then true else decide ((v.2.1.2 (↑k : Int).toNat).2.1 ≥ v.1))),
  (((!bif bif decide ((v.2.1.2 (↑k : Int).toNat).1 < 0) then true else decide ((v.2.1.2 (↑k : Int).toNat).1 ≥ (v.2.1.2 (↑k : Int).toNat).2.1) then true else decide ((v.2.1.2 (↑k : Int).toNat).2.1 ≥ v.1)) = true) → (((decide ((↑k : Int) > 0)) = true) → (((!bif bif decide ((v.2.1.2 (↑k : Int).toNat).1 < 0) then true else decide ((v.2.1.2 (↑k : Int).toNat).1 ≥ (v.2.1.2 (↑k : Int).toNat).2.1) then true else decide ((v.2.1.2 (↑k : Int).toNat).2.1 ≥ v.1)) && decide ((↑k : Int) > 0)) = true))),
  (((bif bif decide ((v.2.1.2 (↑k : Int).toNat).1 < 0) then true else decide ((v.2.1.2 (↑k : Int).toNat).1 ≥ (v.2.1.2 (↑k : Int).toNat).2.1) then true else decide ((v.2.1.2 (↑k : Int).toNat).2.1 ≥ v.1)) = false) → ((!bif bif decide ((v.2.1.2 (↑k : Int).toNat).1 < 0) then true else decide ((v.2.1.2 (↑k : Int).toNat).1 ≥ (v.2.1.2 (↑k : Int).toNat).2.1) then true else decide ((v.2.1.2 (↑k : Int).toNat).2.1 ≥ v.1)) = true)),
  ((bif bif bif decide ((v.2.1.2 (↑k : Int).toNat).1 < 0) then true else decide ((v.2.1.2 (↑k : Int).toNat).1 ≥ (v.2.1.2 (↑k : Int).toNat).2.1) then true else decide ((v.2.1.2 (↑k : Int).toNat).2.1 ≥ v.1) then true else bif decide ((↑k : Int) > 0) then !aft (v.2.1.2 ((↑k : Int) - 1).toNat) (v.2.1.2 k) else false) = true),
  (false = false)] := by kernel_rfl
theorem p48d (v : T_Graph) (k : Nat) :
    pathOb Try.prog Try.f110 0 [.reg [oT, oT, oT, oT, oT], .dec false, .reg [oT]] [.code (cAt (bodyOf Try.f110) [1, 1, 0, 1, 0, 0]), .inLoop (cAt (bodyOf Try.f110) [1, 1, 0, 1, 0, 0]), .inBlock 0, .code (cAt (bodyOf Try.f110) [1, 1, 1])] (S48 v k) [] 1 [] (.p (.bool true)) =
    some [((0 : Nat) < 1),
  ((decide ((↑k : Int) < (↑v.2.1.1 : Int))) = false),
  (true = true)] := by kernel_rfl
theorem p51z (v : T_Graph) :
    pathOb Try.prog Try.f101 0 [.reg [oT, oT], .reg [oT, oT, ⟨true, (some ⟨[], [], [], 1, [], .p (.bool (inB v.1 1 8))⟩), none⟩, oT, oT, oT, oT, oT, oT, oT], .dec true, .reg [oT]] [.code (bodyOf Try.f101)] (start Try.f101 [] 0 [graphA v]) [] 1 [] (.p (.bool false)) =
    some [((0 : Nat) < 1),
  Con Try.prog 40 0 [] [.p (.int .i64 v.1), .p (.int .i64 1), .p (.int .i64 8)] [] (.p (.bool (inB v.1 1 8))),
  (AG (!!inB v.1 1 8)),
  (((!!inB v.1 1 8) = true) → ((0 : Nat) < 1)),
  (AG (!!inB v.1 1 8)),
  (AG (!!inB v.1 1 8)),
  (((!inB v.1 1 8) = false) → ((!!inB v.1 1 8) = true)),
  ((bif !inB v.1 1 8 then true else decide ((↑v.2.1.1 : Int) > 24)) = true),
  (false = false)] := by kernel_rfl
theorem p51a (v : T_Graph) :
    pieceOb Try.prog 0 [.reg [oT, oT], .reg [oT, oT, ⟨true, (some ⟨[], [], [], 1, [], .p (.bool (inB v.1 1 8))⟩), none⟩, oT, oT, oT, oT, oT, oT, oT], .dec false, .reg [oT, oT, oT, oT], .head] [.code (bodyOf Try.f101)] (start Try.f101 [] 0 [graphA v]) [0] 1 (S51 v 0) =
    some ([.code (cAt (bodyOf Try.f101) [1, 1, 0, 1, 0, 0]), .inLoop (cAt (bodyOf Try.f101) [1, 1, 0, 1, 0, 0]), .inBlock 0, .code (cAt (bodyOf Try.f101) [1, 1, 1])], [((0 : Nat) < 1),
  Con Try.prog 40 0 [] [.p (.int .i64 v.1), .p (.int .i64 1), .p (.int .i64 8)] [] (.p (.bool (inB v.1 1 8))),
  (AG (!!inB v.1 1 8)),
  (((!!inB v.1 1 8) = true) → ((0 : Nat) < 1)),
  (AG (!!inB v.1 1 8)),
  (AG (!!inB v.1 1 8)),
  (((!inB v.1 1 8) = false) → ((!!inB v.1 1 8) = true)),
  ((bif !inB v.1 1 8 then true else decide ((↑v.2.1.1 : Int) > 24)) = false),
  ((0 : Nat) < 1),
  (AI v.1),
  (AN v.2.1.1),
  (AP v.2.1.1 (fun i => [.int .i64 ((v.2.1.2 i).1), .int .i64 ((v.2.1.2 i).2.1)])),
  (AN 0),
  (AN v.2.1.1),
  (AP v.2.1.1 (fun i => [.int .i64 ((v.2.1.2 i).1), .int .i64 ((v.2.1.2 i).2.1)])),
  (AI ((↑v.2.1.1 : Int))),
  ((0 : Int) = (↑0 : Int)),
  ((([AV.p (PV.int IntKind.i64 v.1), graphL v.2.1].length) : Nat) = 2),
  ((1 : Nat) ≤ 1),
  ((1 : Nat) ≤ 1),
  (AI v.1),
  (AN v.2.1.1),
  (AP v.2.1.1 (fun i => [.int .i64 ((v.2.1.2 i).1), .int .i64 ((v.2.1.2 i).2.1)]))]) := by kernel_rfl
theorem p51b (v : T_Graph) (k : Nat) :
    pieceOb Try.prog 0 [.reg [oT], .dec true, .reg [oT, oT, oT, oT, oT, oT], .reg [oT, oT, oT, oT, oT, oT, oT, oT, oT, oT, oT, oT, oT, oT, oT, oT, oT, oT, oT, oT, oT, oT, oT, oT, oT, oT, oT, oT, ⟨true, (some ⟨[], [], [], 1, [], .p (.int .i64 (cmpB (v.2.1.2 ((k : Int) - 1).toNat) (v.2.1.2 k)))⟩), none⟩, oT, oT, oT], .dec false, .reg [oT, oT], .head] [.code (cAt (bodyOf Try.f101) [1, 1, 0, 1, 0, 0]), .inLoop (cAt (bodyOf Try.f101) [1, 1, 0, 1, 0, 0]), .inBlock 0, .code (cAt (bodyOf Try.f101) [1, 1, 1])] (S51 v k) [0] 1 (S51 v (k + 1)) =
    some ([.code (cAt (bodyOf Try.f101) [1, 1, 0, 1, 0, 0]), .inLoop (cAt (bodyOf Try.f101) [1, 1, 0, 1, 0, 0]), .inBlock 0, .code (cAt (bodyOf Try.f101) [1, 1, 1])], [((decide ((↑k : Int) < (↑v.2.1.1 : Int))) = true),
  ((0 : Int) ≤ (↑k : Int)),
  (((↑k : Int) : Int) < (↑v.2.1.1 : Int)),
  ((0 : Nat) < 1),
  ((true = true) → (AN 1)),
  ((0 : Nat) < 1),
  (AG (!decide ((v.2.1.2 (↑k : Int).toNat).1 < 0))),
  (((!decide ((v.2.1.2 (↑k : Int).toNat).1 < 0)) = true) → ((0 : Nat) < 1)),
  (AG (!decide ((v.2.1.2 (↑k : Int).toNat).1 < 0))),
  (((!decide ((v.2.1.2 (↑k : Int).toNat).1 < 0)) = true) → ((0 : Nat) < 1)),
  (AG (!decide ((v.2.1.2 (↑k : Int).toNat).1 < 0))),
  (AG (!decide ((v.2.1.2 (↑k : Int).toNat).1 < 0))),
  (((decide ((v.2.1.2 (↑k : Int).toNat).1 < 0)) = false) → ((!decide ((v.2.1.2 (↑k : Int).toNat).1 < 0)) = true)),
  (AG (!bif decide ((v.2.1.2 (↑k : Int).toNat).1 < 0) then true else decide ((v.2.1.2 (↑k : Int).toNat).1 ≥ (v.2.1.2 (↑k : Int).toNat).2.1))),
  (((!bif decide ((v.2.1.2 (↑k : Int).toNat).1 < 0) then true else decide ((v.2.1.2 (↑k : Int).toNat).1 ≥ (v.2.1.2 (↑k : Int).toNat).2.1)) = true) → ((0 : Nat) < 1)),
  (AG (!bif decide ((v.2.1.2 (↑k : Int).toNat).1 < 0) then true else decide ((v.2.1.2 (↑k : Int).toNat).1 ≥ (v.2.1.2 (↑k : Int).toNat).2.1))),
  (((!bif decide ((v.2.1.2 (↑k : Int).toNat).1 < 0) then true else decide ((v.2.1.2 (↑k : Int).toNat).1 ≥ (v.2.1.2 (↑k : Int).toNat).2.1)) = true) → ((0 : Nat) < 1)),
  (AG (!bif decide ((v.2.1.2 (↑k : Int).toNat).1 < 0) then true else decide ((v.2.1.2 (↑k : Int).toNat).1 ≥ (v.2.1.2 (↑k : Int).toNat).2.1))),
  (AG (!bif decide ((v.2.1.2 (↑k : Int).toNat).1 < 0) then true else decide ((v.2.1.2 (↑k : Int).toNat).1 ≥ (v.2.1.2 (↑k : Int).toNat).2.1))),
  (((bif decide ((v.2.1.2 (↑k : Int).toNat).1 < 0) then true else decide ((v.2.1.2 (↑k : Int).toNat).1 ≥ (v.2.1.2 (↑k : Int).toNat).2.1)) = false) → ((!bif decide ((v.2.1.2 (↑k : Int).toNat).1 < 0) then true else decide ((v.2.1.2 (↑k : Int).toNat).1 ≥ (v.2.1.2 (↑k : Int).toNat).2.1)) = true)),
  (AG (!bif bif decide ((v.2.1.2 (↑k : Int).toNat).1 < 0) then true else decide ((v.2.1.2 (↑k : Int).toNat).1 ≥ (v.2.1.2 (↑k : Int).toNat).2.1) then true else decide ((v.2.1.2 (↑k : Int).toNat).2.1 ≥ v.1))),
  (AG (!bif bif decide ((v.2.1.2 (↑k : Int).toNat).1 < 0) then true else decide ((v.2.1.2 (↑k : Int).toNat).1 ≥ (v.2.1.2 (↑k : Int).toNat).2.1) then true else decide ((v.2.1.2 (↑k : Int).toNat).2.1 ≥ v.1))),
  (AG ((!bif bif decide ((v.2.1.2 (↑k : Int).toNat).1 < 0) then true else decide ((v.2.1.2 (↑k : Int).toNat).1 ≥ (v.2.1.2 (↑k : Int).toNat).2.1) then true else decide ((v.2.1.2 (↑k : Int).toNat).2.1 ≥ v.1)) && decide ((↑k : Int) > 0))),
  ((((!bif bif decide ((v.2.1.2 (↑k : Int).toNat).1 < 0) then true else decide ((v.2.1.2 (↑k : Int).toNat).1 ≥ (v.2.1.2 (↑k : Int).toNat).2.1) then true else decide ((v.2.1.2 (↑k : Int).toNat).2.1 ≥ v.1)) && decide ((↑k : Int) > 0)) = true) → ((0 : Nat) < 1)),
  (AG ((!bif bif decide ((v.2.1.2 (↑k : Int).toNat).1 < 0) then true else decide ((v.2.1.2 (↑k : Int).toNat).1 ≥ (v.2.1.2 (↑k : Int).toNat).2.1) then true else decide ((v.2.1.2 (↑k : Int).toNat).2.1 ≥ v.1)) && decide ((↑k : Int) > 0))),
  ((((!bif bif decide ((v.2.1.2 (↑k : Int).toNat).1 < 0) then true else decide ((v.2.1.2 (↑k : Int).toNat).1 ≥ (v.2.1.2 (↑k : Int).toNat).2.1) then true else decide ((v.2.1.2 (↑k : Int).toNat).2.1 ≥ v.1)) && decide ((↑k : Int) > 0)) = true) → (((-9223372036854775808) : Int) ≤ ((↑k : Int) - 1))),
  ((((!bif bif decide ((v.2.1.2 (↑k : Int).toNat).1 < 0) then true else decide ((v.2.1.2 (↑k : Int).toNat).1 ≥ (v.2.1.2 (↑k : Int).toNat).2.1) then true else decide ((v.2.1.2 (↑k : Int).toNat).2.1 ≥ v.1)) && decide ((↑k : Int) > 0)) = true) → ((((↑k : Int) - 1) : Int) ≤ 9223372036854775807)),
  (AG ((!bif bif decide ((v.2.1.2 (↑k : Int).toNat).1 < 0) then true else decide ((v.2.1.2 (↑k : Int).toNat).1 ≥ (v.2.1.2 (↑k : Int).toNat).2.1) then true else decide ((v.2.1.2 (↑k : Int).toNat).2.1 ≥ v.1)) && decide ((↑k : Int) > 0))),
  (AG ((!bif bif decide ((v.2.1.2 (↑k : Int).toNat).1 < 0) then true else decide ((v.2.1.2 (↑k : Int).toNat).1 ≥ (v.2.1.2 (↑k : Int).toNat).2.1) then true else decide ((v.2.1.2 (↑k : Int).toNat).2.1 ≥ v.1)) && decide ((↑k : Int) > 0))),
  ((((!bif bif decide ((v.2.1.2 (↑k : Int).toNat).1 < 0) then true else decide ((v.2.1.2 (↑k : Int).toNat).1 ≥ (v.2.1.2 (↑k : Int).toNat).2.1) then true else decide ((v.2.1.2 (↑k : Int).toNat).2.1 ≥ v.1)) && decide ((↑k : Int) > 0)) = true) → ((0 : Int) ≤ ((↑k : Int) - 1))),
  ((((!bif bif decide ((v.2.1.2 (↑k : Int).toNat).1 < 0) then true else decide ((v.2.1.2 (↑k : Int).toNat).1 ≥ (v.2.1.2 (↑k : Int).toNat).2.1) then true else decide ((v.2.1.2 (↑k : Int).toNat).2.1 ≥ v.1)) && decide ((↑k : Int) > 0)) = true) → ((((↑k : Int) - 1) : Int) < (↑v.2.1.1 : Int))),
  (AG ((!bif bif decide ((v.2.1.2 (↑k : Int).toNat).1 < 0) then true else decide ((v.2.1.2 (↑k : Int).toNat).1 ≥ (v.2.1.2 (↑k : Int).toNat).2.1) then true else decide ((v.2.1.2 (↑k : Int).toNat).2.1 ≥ v.1)) && decide ((↑k : Int) > 0))),
  ((((!bif bif decide ((v.2.1.2 (↑k : Int).toNat).1 < 0) then true else decide ((v.2.1.2 (↑k : Int).toNat).1 ≥ (v.2.1.2 (↑k : Int).toNat).2.1) then true else decide ((v.2.1.2 (↑k : Int).toNat).2.1 ≥ v.1)) && decide ((↑k : Int) > 0)) = true) → ((0 : Nat) < 1)),
  (AG ((!bif bif decide ((v.2.1.2 (↑k : Int).toNat).1 < 0) then true else decide ((v.2.1.2 (↑k : Int).toNat).1 ≥ (v.2.1.2 (↑k : Int).toNat).2.1) then true else decide ((v.2.1.2 (↑k : Int).toNat).2.1 ≥ v.1)) && decide ((↑k : Int) > 0))),
  (AG ((!bif bif decide ((v.2.1.2 (↑k : Int).toNat).1 < 0) then true else decide ((v.2.1.2 (↑k : Int).toNat).1 ≥ (v.2.1.2 (↑k : Int).toNat).2.1) then true else decide ((v.2.1.2 (↑k : Int).toNat).2.1 ≥ v.1)) && decide ((↑k : Int) > 0))),
  ((((!bif bif decide ((v.2.1.2 (↑k : Int).toNat).1 < 0) then true else decide ((v.2.1.2 (↑k : Int).toNat).1 ≥ (v.2.1.2 (↑k : Int).toNat).2.1) then true else decide ((v.2.1.2 (↑k : Int).toNat).2.1 ≥ v.1)) && decide ((↑k : Int) > 0)) = true) → Con Try.prog 135 0 [] [.agg [.p (.int .i64 ((v.2.1.2 ((↑k : Int) - 1).toNat).1)), .p (.int .i64 ((v.2.1.2 ((↑k : Int) - 1).toNat).2.1))], .agg [.p (.int .i64 ((v.2.1.2 k).1)), .p (.int .i64 ((v.2.1.2 k).2.1))]] [] (.p (.int .i64 (cmpB (v.2.1.2 ((↑k : Int) - 1).toNat) (v.2.1.2 k))))),
  (AG ((!bif bif decide ((v.2.1.2 (↑k : Int).toNat).1 < 0) then true else decide ((v.2.1.2 (↑k : Int).toNat).1 ≥ (v.2.1.2 (↑k : Int).toNat).2.1) then true else decide ((v.2.1.2 (↑k : Int).toNat).2.1 ≥ v.1)) && decide ((↑k : Int) > 0))),
  (AG (!bif bif decide ((v.2.1.2 (↑k : Int).toNat).1 < 0) then true else decide ((v.2.1.2 (↑k : Int).toNat).1 ≥ (v.2.1.2 (↑k : Int).toNat).2.1) then true else decide ((v.2.1.2 (↑k : Int).toNat).2.1 ≥ v.1))),
  (((!bif bif decide ((v.2.1.2 (↑k : Int).toNat).1 < 0) then true else decide ((v.2.1.2 (↑k : Int).toNat).1 ≥ (v.2.1.2 (↑k : Int).toNat).2.1) then true else decide ((v.2.1.2 (↑k : Int).toNat).2.1 ≥ v.1)) = true) → (((decide ((↑k : Int) > 0)) = true) → (((!bif bif decide ((v.2.1.2 (↑k : Int).toNat).1 < 0) then true else decide ((v.2.1.2 (↑k : Int).toNat).1 ≥ (v.2.1.2 (↑k : Int).toNat).2.1) then true else decide ((v.2.1.2 (↑k : Int).toNat).2.1 ≥ v.1)) && decide ((↑k : Int) > 0)) = true))),
  (((bif bif decide ((v.2.1.2 (↑k : Int).toNat).1 < 0) then true else decide ((v.2.1.2 (↑k : Int).toNat).1 ≥ (v.2.1.2 (↑k : Int).toNat).2.1) then true else decide ((v.2.1.2 (↑k : Int).toNat).2.1 ≥ v.1)) = false) → ((!bif bif decide ((v.2.1.2 (↑k : Int).toNat).1 < 0) then true else decide ((v.2.1.2 (↑k : Int).toNat).1 ≥ (v.2.1.2 (↑k : Int).toNat).2.1) then true else decide ((v.2.1.2 (↑k : Int).toNat).2.1 ≥ v.1)) = true)),
  ((bif bif bif decide ((v.2.1.2 (↑k : Int).toNat).1 < 0) then true else decide ((v.2.1.2 (↑k : Int).toNat).1 ≥ (v.2.1.2 (↑k : Int).toNat).2.1) then true else decide ((v.2.1.2 (↑k : Int).toNat).2.1 ≥ v.1) then true else bif decide ((↑k : Int) > 0) then decide (cmpB (v.2.1.2 ((↑k : Int) - 1).toNat) (v.2.1.2 k) > 0) else false) = false),
  (((-9223372036854775808) : Int) ≤ ((↑k : Int) + 1)),
  ((((↑k : Int) + 1) : Int) ≤ 9223372036854775807),
  (AI v.1),
  (AN v.2.1.1),
  (AP v.2.1.1 (fun i => [.int .i64 ((v.2.1.2 i).1), .int .i64 ((v.2.1.2 i).2.1)])),
  (AN 0),
  (AN v.2.1.1),
  (AP v.2.1.1 (fun i => [.int .i64 ((v.2.1.2 i).1), .int .i64 ((v.2.1.2 i).2.1)])),
  (AI ((↑v.2.1.1 : Int))),
  ((((↑k : Int) + 1) : Int) = (↑(k + 1) : Int)),
  (AN 2),
  ((1 : Nat) ≤ 1),
  ((1 : Nat) ≤ 1),
  (AI v.1),
  (AN v.2.1.1),
  (AP v.2.1.1 (fun i => [.int .i64 ((v.2.1.2 i).1), .int .i64 ((v.2.1.2 i).2.1)]))]) := by kernel_rfl
theorem p51c (v : T_Graph) (k : Nat) :
    pathOb Try.prog Try.f101 0 [.reg [oT], .dec true, .reg [oT, oT, oT, oT, oT, oT], .reg [oT, oT, oT, oT, oT, oT, oT, oT, oT, oT, oT, oT, oT, oT, oT, oT, oT, oT, oT, oT, oT, oT, oT, oT, oT, oT, oT, oT, ⟨true, (some ⟨[], [], [], 1, [], .p (.int .i64 (cmpB (v.2.1.2 ((k : Int) - 1).toNat) (v.2.1.2 k)))⟩), none⟩, oT, oT, oT], .dec true, .reg [oT]] [.code (cAt (bodyOf Try.f101) [1, 1, 0, 1, 0, 0]), .inLoop (cAt (bodyOf Try.f101) [1, 1, 0, 1, 0, 0]), .inBlock 0, .code (cAt (bodyOf Try.f101) [1, 1, 1])] (S51 v k) [] 1 [] (.p (.bool false)) =
    some [((decide ((↑k : Int) < (↑v.2.1.1 : Int))) = true),
  ((0 : Int) ≤ (↑k : Int)),
  (((↑k : Int) : Int) < (↑v.2.1.1 : Int)),
  ((0 : Nat) < 1),
  ((true = true) → (AN 1)),
  ((0 : Nat) < 1),
  (AG (!decide ((v.2.1.2 (↑k : Int).toNat).1 < 0))),
  (((!decide ((v.2.1.2 (↑k : Int).toNat).1 < 0)) = true) → ((0 : Nat) < 1)),
  (AG (!decide ((v.2.1.2 (↑k : Int).toNat).1 < 0))),
  (((!decide ((v.2.1.2 (↑k : Int).toNat).1 < 0)) = true) → ((0 : Nat) < 1)),
  (AG (!decide ((v.2.1.2 (↑k : Int).toNat).1 < 0))),
  (AG (!decide ((v.2.1.2 (↑k : Int).toNat).1 < 0))),
  (((decide ((v.2.1.2 (↑k : Int).toNat).1 < 0)) = false) → ((!decide ((v.2.1.2 (↑k : Int).toNat).1 < 0)) = true)),
  (AG (!bif decide ((v.2.1.2 (↑k : Int).toNat).1 < 0) then true else decide ((v.2.1.2 (↑k : Int).toNat).1 ≥ (v.2.1.2 (↑k : Int).toNat).2.1))),
  (((!bif decide ((v.2.1.2 (↑k : Int).toNat).1 < 0) then true else decide ((v.2.1.2 (↑k : Int).toNat).1 ≥ (v.2.1.2 (↑k : Int).toNat).2.1)) = true) → ((0 : Nat) < 1)),
  (AG (!bif decide ((v.2.1.2 (↑k : Int).toNat).1 < 0) then true else decide ((v.2.1.2 (↑k : Int).toNat).1 ≥ (v.2.1.2 (↑k : Int).toNat).2.1))),
  (((!bif decide ((v.2.1.2 (↑k : Int).toNat).1 < 0) then true else decide ((v.2.1.2 (↑k : Int).toNat).1 ≥ (v.2.1.2 (↑k : Int).toNat).2.1)) = true) → ((0 : Nat) < 1)),
  (AG (!bif decide ((v.2.1.2 (↑k : Int).toNat).1 < 0) then true else decide ((v.2.1.2 (↑k : Int).toNat).1 ≥ (v.2.1.2 (↑k : Int).toNat).2.1))),
  (AG (!bif decide ((v.2.1.2 (↑k : Int).toNat).1 < 0) then true else decide ((v.2.1.2 (↑k : Int).toNat).1 ≥ (v.2.1.2 (↑k : Int).toNat).2.1))),
  (((bif decide ((v.2.1.2 (↑k : Int).toNat).1 < 0) then true else decide ((v.2.1.2 (↑k : Int).toNat).1 ≥ (v.2.1.2 (↑k : Int).toNat).2.1)) = false) → ((!bif decide ((v.2.1.2 (↑k : Int).toNat).1 < 0) then true else decide ((v.2.1.2 (↑k : Int).toNat).1 ≥ (v.2.1.2 (↑k : Int).toNat).2.1)) = true)),
  (AG (!bif bif decide ((v.2.1.2 (↑k : Int).toNat).1 < 0) then true else decide ((v.2.1.2 (↑k : Int).toNat).1 ≥ (v.2.1.2 (↑k : Int).toNat).2.1) then true else decide ((v.2.1.2 (↑k : Int).toNat).2.1 ≥ v.1))),
  (AG (!bif bif decide ((v.2.1.2 (↑k : Int).toNat).1 < 0) then true else decide ((v.2.1.2 (↑k : Int).toNat).1 ≥ (v.2.1.2 (↑k : Int).toNat).2.1) then true else decide ((v.2.1.2 (↑k : Int).toNat).2.1 ≥ v.1))),
  (AG ((!bif bif decide ((v.2.1.2 (↑k : Int).toNat).1 < 0) then true else decide ((v.2.1.2 (↑k : Int).toNat).1 ≥ (v.2.1.2 (↑k : Int).toNat).2.1) then true else decide ((v.2.1.2 (↑k : Int).toNat).2.1 ≥ v.1)) && decide ((↑k : Int) > 0))),
  ((((!bif bif decide ((v.2.1.2 (↑k : Int).toNat).1 < 0) then true else decide ((v.2.1.2 (↑k : Int).toNat).1 ≥ (v.2.1.2 (↑k : Int).toNat).2.1) then true else decide ((v.2.1.2 (↑k : Int).toNat).2.1 ≥ v.1)) && decide ((↑k : Int) > 0)) = true) → ((0 : Nat) < 1)),
  (AG ((!bif bif decide ((v.2.1.2 (↑k : Int).toNat).1 < 0) then true else decide ((v.2.1.2 (↑k : Int).toNat).1 ≥ (v.2.1.2 (↑k : Int).toNat).2.1) then true else decide ((v.2.1.2 (↑k : Int).toNat).2.1 ≥ v.1)) && decide ((↑k : Int) > 0))),
  ((((!bif bif decide ((v.2.1.2 (↑k : Int).toNat).1 < 0) then true else decide ((v.2.1.2 (↑k : Int).toNat).1 ≥ (v.2.1.2 (↑k : Int).toNat).2.1) then true else decide ((v.2.1.2 (↑k : Int).toNat).2.1 ≥ v.1)) && decide ((↑k : Int) > 0)) = true) → (((-9223372036854775808) : Int) ≤ ((↑k : Int) - 1))),
  ((((!bif bif decide ((v.2.1.2 (↑k : Int).toNat).1 < 0) then true else decide ((v.2.1.2 (↑k : Int).toNat).1 ≥ (v.2.1.2 (↑k : Int).toNat).2.1) then true else decide ((v.2.1.2 (↑k : Int).toNat).2.1 ≥ v.1)) && decide ((↑k : Int) > 0)) = true) → ((((↑k : Int) - 1) : Int) ≤ 9223372036854775807)),
  (AG ((!bif bif decide ((v.2.1.2 (↑k : Int).toNat).1 < 0) then true else decide ((v.2.1.2 (↑k : Int).toNat).1 ≥ (v.2.1.2 (↑k : Int).toNat).2.1) then true else decide ((v.2.1.2 (↑k : Int).toNat).2.1 ≥ v.1)) && decide ((↑k : Int) > 0))),
  (AG ((!bif bif decide ((v.2.1.2 (↑k : Int).toNat).1 < 0) then true else decide ((v.2.1.2 (↑k : Int).toNat).1 ≥ (v.2.1.2 (↑k : Int).toNat).2.1) then true else decide ((v.2.1.2 (↑k : Int).toNat).2.1 ≥ v.1)) && decide ((↑k : Int) > 0))),
  ((((!bif bif decide ((v.2.1.2 (↑k : Int).toNat).1 < 0) then true else decide ((v.2.1.2 (↑k : Int).toNat).1 ≥ (v.2.1.2 (↑k : Int).toNat).2.1) then true else decide ((v.2.1.2 (↑k : Int).toNat).2.1 ≥ v.1)) && decide ((↑k : Int) > 0)) = true) → ((0 : Int) ≤ ((↑k : Int) - 1))),
  ((((!bif bif decide ((v.2.1.2 (↑k : Int).toNat).1 < 0) then true else decide ((v.2.1.2 (↑k : Int).toNat).1 ≥ (v.2.1.2 (↑k : Int).toNat).2.1) then true else decide ((v.2.1.2 (↑k : Int).toNat).2.1 ≥ v.1)) && decide ((↑k : Int) > 0)) = true) → ((((↑k : Int) - 1) : Int) < (↑v.2.1.1 : Int))),
  (AG ((!bif bif decide ((v.2.1.2 (↑k : Int).toNat).1 < 0) then true else decide ((v.2.1.2 (↑k : Int).toNat).1 ≥ (v.2.1.2 (↑k : Int).toNat).2.1) then true else decide ((v.2.1.2 (↑k : Int).toNat).2.1 ≥ v.1)) && decide ((↑k : Int) > 0))),
  ((((!bif bif decide ((v.2.1.2 (↑k : Int).toNat).1 < 0) then true else decide ((v.2.1.2 (↑k : Int).toNat).1 ≥ (v.2.1.2 (↑k : Int).toNat).2.1) then true else decide ((v.2.1.2 (↑k : Int).toNat).2.1 ≥ v.1)) && decide ((↑k : Int) > 0)) = true) → ((0 : Nat) < 1)),
  (AG ((!bif bif decide ((v.2.1.2 (↑k : Int).toNat).1 < 0) then true else decide ((v.2.1.2 (↑k : Int).toNat).1 ≥ (v.2.1.2 (↑k : Int).toNat).2.1) then true else decide ((v.2.1.2 (↑k : Int).toNat).2.1 ≥ v.1)) && decide ((↑k : Int) > 0))),
  (AG ((!bif bif decide ((v.2.1.2 (↑k : Int).toNat).1 < 0) then true else decide ((v.2.1.2 (↑k : Int).toNat).1 ≥ (v.2.1.2 (↑k : Int).toNat).2.1) then true else decide ((v.2.1.2 (↑k : Int).toNat).2.1 ≥ v.1)) && decide ((↑k : Int) > 0))),
  ((((!bif bif decide ((v.2.1.2 (↑k : Int).toNat).1 < 0) then true else decide ((v.2.1.2 (↑k : Int).toNat).1 ≥ (v.2.1.2 (↑k : Int).toNat).2.1) then true else decide ((v.2.1.2 (↑k : Int).toNat).2.1 ≥ v.1)) && decide ((↑k : Int) > 0)) = true) → Con Try.prog 135 0 [] [.agg [.p (.int .i64 ((v.2.1.2 ((↑k : Int) - 1).toNat).1)), .p (.int .i64 ((v.2.1.2 ((↑k : Int) - 1).toNat).2.1))], .agg [.p (.int .i64 ((v.2.1.2 k).1)), .p (.int .i64 ((v.2.1.2 k).2.1))]] [] (.p (.int .i64 (cmpB (v.2.1.2 ((↑k : Int) - 1).toNat) (v.2.1.2 k))))),
  (AG ((!bif bif decide ((v.2.1.2 (↑k : Int).toNat).1 < 0) then true else decide ((v.2.1.2 (↑k : Int).toNat).1 ≥ (v.2.1.2 (↑k : Int).toNat).2.1) then true else decide ((v.2.1.2 (↑k : Int).toNat).2.1 ≥ v.1)) && decide ((↑k : Int) > 0))),
  (AG (!bif bif decide ((v.2.1.2 (↑k : Int).toNat).1 < 0) then true else decide ((v.2.1.2 (↑k : Int).toNat).1 ≥ (v.2.1.2 (↑k : Int).toNat).2.1) then true else decide ((v.2.1.2 (↑k : Int).toNat).2.1 ≥ v.1))),
  (((!bif bif decide ((v.2.1.2 (↑k : Int).toNat).1 < 0) then true else decide ((v.2.1.2 (↑k : Int).toNat).1 ≥ (v.2.1.2 (↑k : Int).toNat).2.1) then true else decide ((v.2.1.2 (↑k : Int).toNat).2.1 ≥ v.1)) = true) → (((decide ((↑k : Int) > 0)) = true) → (((!bif bif decide ((v.2.1.2 (↑k : Int).toNat).1 < 0) then true else decide ((v.2.1.2 (↑k : Int).toNat).1 ≥ (v.2.1.2 (↑k : Int).toNat).2.1) then true else decide ((v.2.1.2 (↑k : Int).toNat).2.1 ≥ v.1)) && decide ((↑k : Int) > 0)) = true))),
  (((bif bif decide ((v.2.1.2 (↑k : Int).toNat).1 < 0) then true else decide ((v.2.1.2 (↑k : Int).toNat).1 ≥ (v.2.1.2 (↑k : Int).toNat).2.1) then true else decide ((v.2.1.2 (↑k : Int).toNat).2.1 ≥ v.1)) = false) → ((!bif bif decide ((v.2.1.2 (↑k : Int).toNat).1 < 0) then true else decide ((v.2.1.2 (↑k : Int).toNat).1 ≥ (v.2.1.2 (↑k : Int).toNat).2.1) then true else decide ((v.2.1.2 (↑k : Int).toNat).2.1 ≥ v.1)) = true)),
  ((bif bif bif decide ((v.2.1.2 (↑k : Int).toNat).1 < 0) then true else decide ((v.2.1.2 (↑k : Int).toNat).1 ≥ (v.2.1.2 (↑k : Int).toNat).2.1) then true else decide ((v.2.1.2 (↑k : Int).toNat).2.1 ≥ v.1) then true else bif decide ((↑k : Int) > 0) then decide (cmpB (v.2.1.2 ((↑k : Int) - 1).toNat) (v.2.1.2 k) > 0) else false) = true),
  (false = false)] := by kernel_rfl
theorem p51d (v : T_Graph) (k : Nat) :
    pathOb Try.prog Try.f101 0 [.reg [oT], .dec false, .reg [oT]] [.code (cAt (bodyOf Try.f101) [1, 1, 0, 1, 0, 0]), .inLoop (cAt (bodyOf Try.f101) [1, 1, 0, 1, 0, 0]), .inBlock 0, .code (cAt (bodyOf Try.f101) [1, 1, 1])] (S51 v k) [] 1 [] (.p (.bool true)) =
    some [((decide ((↑k : Int) < (↑v.2.1.1 : Int))) = false),
  (true = true)] := by kernel_rfl
theorem con_l2After (a b : T_Bar) : Con Try.prog 141 0 [] [barA a, barA b] [] (.p (.bool (aft a b))) := by
  refine con_start Try.func141 rfl (by kernel_rfl) rfl (fun c hc => ?_)
  refine path_ok mixed Try.func141 hc (p57 a b) ?_
  simp only [All]
  repeat' (first | exact trivial | with_reducible apply And.intro)
  all_goals (first | exact aG _ | exact aP _ _ | exact aA _ _ | exact aE _ | omega | rfl | (intros; first | assumption | exact True.intro | rfl | exact absurd (show false = true by assumption) Bool.false_ne_true | ((repeat' (first | assumption | apply anda | apply notf)); done)))
theorem con_compareInts (x y : Int) : Con Try.prog 152 0 [] [.p (.int .i64 x), .p (.int .i64 y)] [] (.p (.int .i64 (cmpI x y))) := by
  refine con_start Try.func152 rfl (by kernel_rfl) rfl (fun c hc => ?_)
  by_cases h1 : x < y
  · rw [show cmpI x y = -1 by simp [cmpI, h1]]
    refine path_ok mixed Try.func152 hc (p62a x y) ?_
    simp only [All]
    repeat' (first | exact trivial | with_reducible apply And.intro)
    all_goals (first | exact aG _ | exact aP _ _ | exact aA _ _ | exact aE _ | omega | rfl | (intros; first | assumption | exact True.intro | rfl | exact absurd (show false = true by assumption) Bool.false_ne_true | ((repeat' (first | assumption | apply anda | apply notf)); done)) | (simp; omega))
  · by_cases h2 : x > y
    · rw [show cmpI x y = 1 by simp only [cmpI, h1, h2, if_true, if_false]]
      refine path_ok mixed Try.func152 hc (p62b x y) ?_
      simp only [All]
      repeat' (first | exact trivial | with_reducible apply And.intro)
      all_goals (first | exact aG _ | exact aP _ _ | exact aA _ _ | exact aE _ | omega | rfl | (intros; first | assumption | exact True.intro | rfl | exact absurd (show false = true by assumption) Bool.false_ne_true | ((repeat' (first | assumption | apply anda | apply notf)); done)) | (simp; omega))
    · rw [show cmpI x y = 0 by simp only [cmpI, h1, h2, if_false]]
      refine path_ok mixed Try.func152 hc (p62c x y) ?_
      simp only [All]
      repeat' (first | exact trivial | with_reducible apply And.intro)
      all_goals (first | exact aG _ | exact aP _ _ | exact aA _ _ | exact aE _ | omega | rfl | (intros; first | assumption | exact True.intro | rfl | exact absurd (show false = true by assumption) Bool.false_ne_true | ((repeat' (first | assumption | apply anda | apply notf)); done)) | (simp; omega))
theorem con_compareBars (a b : T_Bar) : Con Try.prog 135 0 [] [barA a, barA b] [] (.p (.int .i64 (cmpB a b))) := by
  refine con_start Try.func135 rfl (by kernel_rfl) rfl (fun c hc => ?_)
  by_cases h1 : cmpI a.1 b.1 = 0
  · rw [show cmpB a b = cmpI a.2.1 b.2.1 by simp [cmpB, h1]]
    refine path_ok mixed Try.func135 hc (p59b a b) ?_
    simp only [All]
    repeat' (first | exact trivial | with_reducible apply And.intro)
    all_goals (first | exact aG _ | exact aP _ _ | exact aA _ _ | exact aE _ | omega | rfl | (intros; first | assumption | exact True.intro | rfl | exact absurd (show false = true by assumption) Bool.false_ne_true | ((repeat' (first | assumption | apply anda | apply notf)); done)) | (exact con_compareInts _ _) | (simp [h1]))
  · rw [show cmpB a b = cmpI a.1 b.1 by simp [cmpB, h1]]
    refine path_ok mixed Try.func135 hc (p59a a b) ?_
    simp only [All]
    repeat' (first | exact trivial | with_reducible apply And.intro)
    all_goals (first | exact aG _ | exact aP _ _ | exact aA _ _ | exact aE _ | omega | rfl | (intros; first | assumption | exact True.intro | rfl | exact absurd (show false = true by assumption) Bool.false_ne_true | ((repeat' (first | assumption | apply anda | apply notf)); done)) | (exact con_compareInts _ _) | (simp [h1]))
theorem cmpB_gt (a b : T_Bar) : decide (cmpB a b > 0) = !aft a b := by
  simp only [cmpB, cmpI, aft]
  by_cases h1 : a.1 < b.1
  · simp [h1]
  · by_cases h2 : a.1 > b.1
    · have h3 : ¬ a.1 = b.1 := by omega
      simp [h1, h2, h3]
    · have h3 : a.1 = b.1 := by omega
      simp only [h1, h2, h3, if_true, if_false]
      by_cases h4 : a.2.1 < b.2.1
      · have : a.2.1 ≤ b.2.1 := by omega
        simp [h4, this]
      · by_cases h5 : a.2.1 > b.2.1
        · have : ¬ a.2.1 ≤ b.2.1 := by omega
          simp [h4, h5, this]
        · have : a.2.1 ≤ b.2.1 := by omega
          simp [h4, h5, this]
theorem goodB_bad (N : Int) (g : Nat → T_Bar) (k : Nat) (h : badB N g k = true) : ∀ n, k < n → goodB N g n = false
  | 0, h' => by omega
  | n + 1, h' => by
    by_cases e : k = n
    · subst e; simp [goodB, h]
    · simp [goodB, goodB_bad N g k h n (by omega)]
theorem idx_lt {b : Bool} {k n : Nat} (h : (b && decide ((k : Int) > 0)) = true) (hk : k < n) : 0 ≤ (k : Int) - 1 ∧ (k : Int) - 1 < n ∧ -9223372036854775808 ≤ (k : Int) - 1 ∧ (k : Int) - 1 ≤ n := by
  simp at h
  omega
theorem con_IsGraph_s (v : T_Graph) (hs : smS s_Graph v) : Con Try.prog 110 0 [] [graphA v] [] (.p (.bool (isGraphF v))) := by
  refine con_start Try.func110 rfl (by kernel_rfl) rfl (fun c hc => ?_)
  have hn : v.2.1.1 ≤ 1048576 := hs.2.1.1
  by_cases hz : inB v.1 1 8 = true ∧ v.2.1.1 ≤ 24
  · rw [show isGraphF v = goodB v.1 v.2.1.2 v.2.1.1 by rw [isGraphF, if_pos hz]]
    have lp : ∀ m k, k + m = v.2.1.1 → goodB v.1 v.2.1.2 k = true → Run Try.prog c 110 [.code (cAt (bodyOf Try.f110) [1, 1, 0, 1, 0, 0]), .inLoop (cAt (bodyOf Try.f110) [1, 1, 0, 1, 0, 0]), .inBlock 0, .code (cAt (bodyOf Try.f110) [1, 1, 1])] (S48 v k) (Post c [] (.p (.bool (goodB v.1 v.2.1.2 v.2.1.1)))) := by
      intro m
      induction m with
      | zero =>
        intro k hk hg
        rw [show goodB v.1 v.2.1.2 v.2.1.1 = true by rw [show v.2.1.1 = k by omega]; exact hg]
        have hd : decide ((k : Int) < (v.2.1.1 : Int)) = false := by simp; omega
        refine path_ok mixed Try.func110 hc (p48d v k) ?_
        simp only [All]
        repeat' (first | exact trivial | with_reducible apply And.intro)
        all_goals (first | exact aG _ | exact aP _ _ | exact aA _ _ | exact aE _ | omega | rfl | (intros; first | assumption | exact True.intro | rfl | exact absurd (show false = true by assumption) Bool.false_ne_true | ((repeat' (first | assumption | apply anda | apply notf)); done)))
      | succ m ih =>
        intro k hk hg
        have hd : decide ((k : Int) < (v.2.1.1 : Int)) = true := by simp; omega
        have hkn : k < v.2.1.1 := by omega
        cases he : badB v.1 v.2.1.2 k with
        | true =>
          rw [goodB_bad _ _ k he v.2.1.1 (by omega)]
          refine path_ok mixed Try.func110 hc (p48c v k) ?_
          simp only [All]
          repeat' (first | exact trivial | with_reducible apply And.intro)
          all_goals (first | exact aG _ | exact aP _ _ | exact aA _ _ | exact aE _ | omega | rfl | (intros; first | assumption | exact True.intro | rfl | exact absurd (show false = true by assumption) Bool.false_ne_true | ((repeat' (first | assumption | apply anda | apply notf)); done)) | (intros; exact con_l2After _ _) | (exact he) | (intro h; have := idx_lt h hkn; omega))
        | false =>
          refine piece_ok mixed hc (p48b v k) ?_ (ih (k + 1) (by omega) (by simp [goodB, hg, he]))
          simp only [All]
          repeat' (first | exact trivial | with_reducible apply And.intro)
          all_goals (first | exact aG _ | exact aP _ _ | exact aA _ _ | exact aE _ | omega | rfl | (intros; first | assumption | exact True.intro | rfl | exact absurd (show false = true by assumption) Bool.false_ne_true | ((repeat' (first | assumption | apply anda | apply notf)); done)) | (intros; exact con_l2After _ _) | (exact he) | (intro h; have := idx_lt h hkn; omega) | (simp [All]))
    refine piece_ok mixed hc (p48a v) ?_ (lp v.2.1.1 0 (by omega) rfl)
    simp only [All]
    repeat' (first | exact trivial | with_reducible apply And.intro)
    all_goals (first | exact aG _ | exact aP _ _ | exact aA _ _ | exact aE _ | omega | rfl | (intros; first | assumption | exact True.intro | rfl | exact absurd (show false = true by assumption) Bool.false_ne_true | ((repeat' (first | assumption | apply anda | apply notf)); done)) | (exact con_l1In _ _ _) | (simp [hz.1]; omega) | (simp [All]))
  · rw [show isGraphF v = false by rw [isGraphF, if_neg hz]]
    have hb : (bif !inB v.1 1 8 then true else decide ((v.2.1.1 : Int) > 24)) = true := by
      cases hi : inB v.1 1 8 with
      | false => rfl
      | true =>
        have : ¬ v.2.1.1 ≤ 24 := fun h => hz ⟨hi, h⟩
        simp; omega
    refine path_ok mixed Try.func110 hc (p48z v) ?_
    simp only [All]
    repeat' (first | exact trivial | with_reducible apply And.intro)
    all_goals (first | exact aG _ | exact aP _ _ | exact aA _ _ | exact aE _ | omega | rfl | (intros; first | assumption | exact True.intro | rfl | exact absurd (show false = true by assumption) Bool.false_ne_true | ((repeat' (first | assumption | apply anda | apply notf)); done)) | (exact con_l1In _ _ _))
theorem con_IsGraph_i (v : T_Graph) (hs : smS s_Graph v) : Con Try.prog 101 0 [] [graphA v] [] (.p (.bool (isGraphF v))) := by
  refine con_start Try.func101 rfl (by kernel_rfl) rfl (fun c hc => ?_)
  have hn : v.2.1.1 ≤ 1048576 := hs.2.1.1
  by_cases hz : inB v.1 1 8 = true ∧ v.2.1.1 ≤ 24
  · rw [show isGraphF v = goodB v.1 v.2.1.2 v.2.1.1 by rw [isGraphF, if_pos hz]]
    have lp : ∀ m k, k + m = v.2.1.1 → goodB v.1 v.2.1.2 k = true → Run Try.prog c 101 [.code (cAt (bodyOf Try.f101) [1, 1, 0, 1, 0, 0]), .inLoop (cAt (bodyOf Try.f101) [1, 1, 0, 1, 0, 0]), .inBlock 0, .code (cAt (bodyOf Try.f101) [1, 1, 1])] (S51 v k) (Post c [] (.p (.bool (goodB v.1 v.2.1.2 v.2.1.1)))) := by
      intro m
      induction m with
      | zero =>
        intro k hk hg
        rw [show goodB v.1 v.2.1.2 v.2.1.1 = true by rw [show v.2.1.1 = k by omega]; exact hg]
        have hd : decide ((k : Int) < (v.2.1.1 : Int)) = false := by simp; omega
        refine path_ok mixed Try.func101 hc (p51d v k) ?_
        simp only [All]
        repeat' (first | exact trivial | with_reducible apply And.intro)
        all_goals (first | exact aG _ | exact aP _ _ | exact aA _ _ | exact aE _ | omega | rfl | (intros; first | assumption | exact True.intro | rfl | exact absurd (show false = true by assumption) Bool.false_ne_true | ((repeat' (first | assumption | apply anda | apply notf)); done)))
      | succ m ih =>
        intro k hk hg
        have hd : decide ((k : Int) < (v.2.1.1 : Int)) = true := by simp; omega
        have hkn : k < v.2.1.1 := by omega
        cases he : badB v.1 v.2.1.2 k with
        | true =>
          rw [goodB_bad _ _ k he v.2.1.1 (by omega)]
          have he2 := he
          rw [badB, ← cmpB_gt] at he2
          refine path_ok mixed Try.func101 hc (p51c v k) ?_
          simp only [All]
          repeat' (first | exact trivial | with_reducible apply And.intro)
          all_goals (first | exact aG _ | exact aP _ _ | exact aA _ _ | exact aE _ | omega | rfl | (intros; first | assumption | exact True.intro | rfl | exact absurd (show false = true by assumption) Bool.false_ne_true | ((repeat' (first | assumption | apply anda | apply notf)); done)) | (intros; exact con_compareBars _ _) | (exact he2) | (intro h; have := idx_lt h hkn; omega))
        | false =>
          have he2 := he
          rw [badB, ← cmpB_gt] at he2
          refine piece_ok mixed hc (p51b v k) ?_ (ih (k + 1) (by omega) (by simp [goodB, hg, he]))
          simp only [All]
          repeat' (first | exact trivial | with_reducible apply And.intro)
          all_goals (first | exact aG _ | exact aP _ _ | exact aA _ _ | exact aE _ | omega | rfl | (intros; first | assumption | exact True.intro | rfl | exact absurd (show false = true by assumption) Bool.false_ne_true | ((repeat' (first | assumption | apply anda | apply notf)); done)) | (intros; exact con_compareBars _ _) | (exact he2) | (intro h; have := idx_lt h hkn; omega) | (simp [All]))
    refine piece_ok mixed hc (p51a v) ?_ (lp v.2.1.1 0 (by omega) rfl)
    simp only [All]
    repeat' (first | exact trivial | with_reducible apply And.intro)
    all_goals (first | exact aG _ | exact aP _ _ | exact aA _ _ | exact aE _ | omega | rfl | (intros; first | assumption | exact True.intro | rfl | exact absurd (show false = true by assumption) Bool.false_ne_true | ((repeat' (first | assumption | apply anda | apply notf)); done)) | (exact con_within _ _ _) | (simp [hz.1]; omega) | (simp [All]))
  · rw [show isGraphF v = false by rw [isGraphF, if_neg hz]]
    have hb : (bif !inB v.1 1 8 then true else decide ((v.2.1.1 : Int) > 24)) = true := by
      cases hi : inB v.1 1 8 with
      | false => rfl
      | true =>
        have : ¬ v.2.1.1 ≤ 24 := fun h => hz ⟨hi, h⟩
        simp; omega
    refine path_ok mixed Try.func101 hc (p51z v) ?_
    simp only [All]
    repeat' (first | exact trivial | with_reducible apply And.intro)
    all_goals (first | exact aG _ | exact aP _ _ | exact aA _ _ | exact aE _ | omega | rfl | (intros; first | assumption | exact True.intro | rfl | exact absurd (show false = true by assumption) Bool.false_ne_true | ((repeat' (first | assumption | apply anda | apply notf)); done)) | (exact con_within _ _ _))
end Go.Proofs.Ytffnfeefjdmifaa.Mach
namespace Go.Proofs.Ytffnfeefjdmifaa.Mach
open Go
set_option linter.unusedVariables false
set_option linter.unusedSimpArgs false
def OkBars (N nb : Nat) (g : Nat → T_Bar) : Prop := ∀ e, e < nb → 0 ≤ (g e).1 ∧ (g e).1 < (g e).2.1 ∧ (g e).2.1 < N
theorem goodB_in (N : Int) (g : Nat → T_Bar) : ∀ n, goodB N g n = true → ∀ e, e < n → badB N g e = false
  | 0, _, e, he => by omega
  | n + 1, h, e, he => by
    simp only [goodB, Bool.and_eq_true, Bool.not_eq_true'] at h
    by_cases h' : e = n
    · subst h'; exact h.2
    · exact goodB_in N g n h.1 e (by omega)
theorem graph_in {N nb : Nat} {g : Nat → T_Bar} (h : isGraphF ((N : Int), (nb, g), ()) = true) : (1 ≤ N ∧ N ≤ 8) ∧ nb ≤ 24 ∧ OkBars N nb g := by
  unfold isGraphF at h
  split at h
  case isFalse => cases h
  rename_i hc
  obtain ⟨h1, h2⟩ := hc
  simp only [inB, Bool.and_eq_true, decide_eq_true_eq] at h1
  refine ⟨by omega, h2, fun e he => ?_⟩
  have hb := goodB_in (N : Int) g nb h e he
  unfold badB at hb
  by_cases a1 : (g e).1 < 0
  · simp [a1] at hb
  by_cases a2 : (g e).1 ≥ (g e).2.1
  · simp [a2] at hb
  by_cases a3 : (g e).2.1 ≥ (N : Int)
  · simp [a3] at hb
  omega
end Go.Proofs.Ytffnfeefjdmifaa.Mach
namespace Go.Proofs.Ytffnfeefjdmifaa.Mach
open Go
set_option linter.unusedVariables false
set_option linter.unusedSimpArgs false
def sCol : ByteArray := ⟨#[58]⟩
def sDash : ByteArray := ⟨#[45]⟩
def sAt : ByteArray := ⟨#[32, 97, 116]⟩
def pcL (pl : Nat → T_Place) (np : Nat) : AV := .p (.seq true 2 np (fun i => [.int .i64 (pl i).1, .int .i64 (pl i).2.1]))
def frA (g : Nat → T_Bar) (nb : Nat) (N : Int) (pl : Nat → T_Place) (np : Nat) : AV := .agg [.p (.int .i64 N), brL g nb, pcL pl np]
def frO (g : Nat → T_Bar) (nb : Nat) (N : Int) (pl : Nat → T_Place) (np : Nat) : Ob := ⟨true, 3, 1, fun _ => [.p (.int .i64 N), brL g nb, pcL pl np]⟩
def gzA (g : Nat → T_Bar) (nb : Nat) (N : Int) : AV := .agg [.p (.int .i64 N), brL g nb]
def gzO (g : Nat → T_Bar) (nb : Nat) (N : Int) : Ob := ⟨true, 2, 1, fun _ => [.p (.int .i64 N), brL g nb]⟩
def tsA (g : Nat → T_Bar) (nb : Nat) (N : Int) (pl : Nat → T_Place) (np : Nat) (w : T_IntS) : AV := .agg [.p (.int .i64 N), brL g nb, pcL pl np, inL w]
def tsO (g : Nat → T_Bar) (nb : Nat) (N : Int) (pl : Nat → T_Place) (np : Nat) (w : T_IntS) : Ob := ⟨true, 4, 1, fun _ => [.p (.int .i64 N), brL g nb, pcL pl np, inL w]⟩
def FGi (g : Nat → T_Bar) (nb : Nat) (N : Int) (i : Nat) (s : ByteArray) : St :=
  ⟨[gzA g nb N, .pt 2 0 0 0, .p .any, .p (.str s)] ++ List.replicate 10 anyA ++ [brL g nb, .p (.int .i64 nb), .p (.int .i64 i)] ++ List.replicate 16 anyA, [(0, gzO g nb N)], 1⟩
def FGs (g : Nat → T_Bar) (nb : Nat) (N : Int) (i : Nat) (s : ByteArray) : St :=
  ⟨[gzA g nb N, .pt 2 0 0 0, .p .any, .p (.str s), .p (.int .i64 i)] ++ List.replicate 34 anyA, [(0, gzO g nb N)], 1⟩
def FFi (g : Nat → T_Bar) (nb : Nat) (N : Int) (pl : Nat → T_Place) (np : Nat) (i : Nat) (s : ByteArray) : St :=
  ⟨[frA g nb N pl np, .pt 3 0 0 0, .p .any, .p (.str s)] ++ List.replicate 10 anyA ++ [pcL pl np, .p (.int .i64 np), .p (.int .i64 i)] ++ List.replicate 16 anyA, [(0, frO g nb N pl np)], 1⟩
def FFs (g : Nat → T_Bar) (nb : Nat) (N : Int) (pl : Nat → T_Place) (np : Nat) (i : Nat) (s : ByteArray) : St :=
  ⟨[frA g nb N pl np, .pt 3 0 0 0, .p .any, .p (.str s), .p (.int .i64 i)] ++ List.replicate 34 anyA, [(0, frO g nb N pl np)], 1⟩
def FI0 (g : Nat → T_Bar) (nb : Nat) (N : Int) (pl : Nat → T_Place) (np : Nat) (i : Nat) : St :=
  ⟨[frA g nb N pl np, .pt 3 0 0 0, .p .any, .pt 2 1 0 0] ++ List.replicate 29 anyA ++ [pcL pl np, .p (.int .i64 np), .p (.int .i64 i)] ++ List.replicate 43 anyA, [(0, frO g nb N pl np), (1, gzO g nb N)], 2⟩
def FI1 (g : Nat → T_Bar) (nb : Nat) (N : Int) (pl : Nat → T_Place) (np : Nat) (i : Nat) : St :=
  ⟨[frA g nb N pl np, .pt 3 0 0 0, .p .any, .pt 2 1 0 0] ++ List.replicate 40 anyA ++ [brL g nb, .p (.int .i64 nb), .p (.int .i64 i)] ++ List.replicate 32 anyA, [(0, frO g nb N pl np), (1, gzO g nb N)], 2⟩
def FJ0 (g : Nat → T_Bar) (nb : Nat) (N : Int) (pl : Nat → T_Place) (np : Nat) (i : Nat) : St :=
  ⟨[frA g nb N pl np, .pt 3 0 0 0, .p .any, .p (.int .i64 i)] ++ List.replicate 95 anyA, [(0, frO g nb N pl np)], 1⟩
def FJ1 (g : Nat → T_Bar) (nb : Nat) (N : Int) (pl : Nat → T_Place) (np : Nat) (i : Nat) : St :=
  ⟨[frA g nb N pl np, .pt 3 0 0 0, .p .any, .p .any, .p (.int .i64 i)] ++ List.replicate 94 anyA, [(0, frO g nb N pl np)], 1⟩
def FT0 (g : Nat → T_Bar) (nb : Nat) (N : Int) (pl : Nat → T_Place) (np : Nat) (w : T_IntS) (i : Nat) : St :=
  ⟨[tsA g nb N pl np w, .pt 4 0 0 0, .p .any, .p .any, .p .any, .p .any, inL w, .p (.int .i64 w.1), .p (.int .i64 i)] ++ List.replicate 21 anyA, [(0, tsO g nb N pl np w)], 1⟩
def FU0 (g : Nat → T_Bar) (nb : Nat) (N : Int) (pl : Nat → T_Place) (np : Nat) (w : T_IntS) (i : Nat) : St :=
  ⟨[tsA g nb N pl np w, .pt 4 0 0 0, .p .any, .p (.int .i64 i)] ++ List.replicate 28 anyA, [(0, tsO g nb N pl np w)], 1⟩
def FKi (w : T_IntS) (i : Nat) (s : ByteArray) : St :=
  ⟨[inL w, .p .any, .p .any, .p (.str s), .p .any, .p .any, inL w, .p (.int .i64 w.1), .p (.int .i64 i)] ++ List.replicate 13 anyA, [], 0⟩
def FKs (w : T_IntS) (i : Nat) (s : ByteArray) : St :=
  ⟨[inL w, .p .any, .p .any, .p (.str s), .p (.int .i64 i)] ++ List.replicate 23 anyA, [], 0⟩
theorem yG0 (g : Nat → T_Bar) (nb : Nat) (N : Int) :
    pathOb Try.prog Try.f102 0 [.reg [oT, oT], .reg [oT, ⟨true, (some ⟨[], [], [], 1, [], .p (.bool false)⟩), none⟩, oT], .dec true, .reg [oT]] [.code (bodyOf Try.f102)] (start Try.f102 [] 0 [gzA g nb N]) [] 1 [] (.p (.str sE)) =
    some [((0 : Nat) < 1),
  Con Try.prog 101 0 [] [.agg [.p (.int .i64 N), .p (.seq true 2 nb (fun i => [.int .i64 ((g i).1), .int .i64 ((g i).2.1)]))]] [] (.p (.bool false)),
  ((!false) = true),
  (ByteArray.mk #[] = sE)] := by kernel_rfl
theorem yGz (g : Nat → T_Bar) (nb : Nat) (N : Int) (t : ByteArray) :
    pieceOb Try.prog 0 [.reg [oT, oT], .reg [oT, ⟨true, (some ⟨[], [], [], 1, [], .p (.bool true)⟩), none⟩, oT], .dec false, .reg [oT, oT, ⟨true, (some ⟨[], [], [], 1, [], .p (.str t)⟩), none⟩, oT, oT], .reg [oT, oT, oT, oT], .head] [.code (bodyOf Try.f102)] (start Try.f102 [] 0 [gzA g nb N]) [0] 1 (FGi g nb N 0 (t ++ sCol)) =
    some ([.code (cAt (bodyOf Try.f102) [1, 1, 1, 0, 1, 0, 0]), .inLoop (cAt (bodyOf Try.f102) [1, 1, 1, 0, 1, 0, 0]), .inBlock 0, .code (cAt (bodyOf Try.f102) [1, 1, 1, 1])], [((0 : Nat) < 1),
  Con Try.prog 101 0 [] [.agg [.p (.int .i64 N), .p (.seq true 2 nb (fun i => [.int .i64 ((g i).1), .int .i64 ((g i).2.1)]))]] [] (.p (.bool true)),
  ((!true) = false),
  ((0 : Nat) < 1),
  Con Try.prog 67 0 [] [.p (.int .i64 N)] [] (.p (.str t)),
  (((t.size + (ByteArray.mk #[58]).size) : Nat) ≤ 9223372036854775807),
  ((0 : Nat) < 1),
  (AI N),
  (AN nb),
  (AP nb (fun i => [.int .i64 ((g i).1), .int .i64 ((g i).2.1)])),
  (AN 0),
  (t ++ ByteArray.mk #[58] = t ++ sCol),
  (AN nb),
  (AP nb (fun i => [.int .i64 ((g i).1), .int .i64 ((g i).2.1)])),
  (AI ((↑nb : Int))),
  ((0 : Int) = (↑0 : Int)),
  ((([AV.p (PV.int IntKind.i64 N), brL g nb].length) : Nat) = 2),
  ((1 : Nat) ≤ 1),
  ((1 : Nat) ≤ 1),
  (AI N),
  (AN nb),
  (AP nb (fun i => [.int .i64 ((g i).1), .int .i64 ((g i).2.1)]))]) := by kernel_rfl
theorem yGt (g : Nat → T_Bar) (nb : Nat) (N : Int) (i : Nat) (s t u : ByteArray) :
    pieceOb Try.prog 0 [.reg [oT], .dec true, .reg [oT, oT, oT, oT], .reg [oT, oT, oT, oT, ⟨true, (some ⟨[], [], [], 1, [], .p (.str t)⟩), none⟩, oT, oT, oT, oT, ⟨true, (some ⟨[], [], [], 1, [], .p (.str u)⟩), none⟩, oT, oT], .reg [oT, oT], .head] [.code (cAt (bodyOf Try.f102) [1, 1, 1, 0, 1, 0, 0]), .inLoop (cAt (bodyOf Try.f102) [1, 1, 1, 0, 1, 0, 0]), .inBlock 0, .code (cAt (bodyOf Try.f102) [1, 1, 1, 1])] (FGi g nb N i s) [0] 1 (FGi g nb N (i + 1) ((((s ++ sSp) ++ t) ++ sDash) ++ u)) =
    some ([.code (cAt (bodyOf Try.f102) [1, 1, 1, 0, 1, 0, 0]), .inLoop (cAt (bodyOf Try.f102) [1, 1, 1, 0, 1, 0, 0]), .inBlock 0, .code (cAt (bodyOf Try.f102) [1, 1, 1, 1])], [((decide ((↑i : Int) < (↑nb : Int))) = true),
  ((0 : Int) ≤ (↑i : Int)),
  (((↑i : Int) : Int) < (↑nb : Int)),
  ((0 : Nat) < 1),
  ((true = true) → (AN 1)),
  (((s.size + (ByteArray.mk #[32]).size) : Nat) ≤ 9223372036854775807),
  ((0 : Nat) < 1),
  Con Try.prog 67 0 [] [.p (.int .i64 ((g i).1))] [] (.p (.str t)),
  ((((s ++ ByteArray.mk #[32]).size + t.size) : Nat) ≤ 9223372036854775807),
  ((((s ++ ByteArray.mk #[32] ++ t).size + (ByteArray.mk #[45]).size) : Nat) ≤ 9223372036854775807),
  ((0 : Nat) < 1),
  Con Try.prog 67 0 [] [.p (.int .i64 ((g i).2.1))] [] (.p (.str u)),
  ((((s ++ ByteArray.mk #[32] ++ t ++ ByteArray.mk #[45]).size + u.size) : Nat) ≤ 9223372036854775807),
  (((-9223372036854775808) : Int) ≤ ((↑i : Int) + 1)),
  ((((↑i : Int) + 1) : Int) ≤ 9223372036854775807),
  (AI N),
  (AN nb),
  (AP nb (fun i_1 => [.int .i64 ((g i_1).1), .int .i64 ((g i_1).2.1)])),
  (AN 0),
  (s ++ ByteArray.mk #[32] ++ t ++ ByteArray.mk #[45] ++ u = s ++ sSp ++ t ++ sDash ++ u),
  (AN nb),
  (AP nb (fun i_1 => [.int .i64 ((g i_1).1), .int .i64 ((g i_1).2.1)])),
  (AI ((↑nb : Int))),
  ((((↑i : Int) + 1) : Int) = (↑(i + 1) : Int)),
  (AN 2),
  ((1 : Nat) ≤ 1),
  ((1 : Nat) ≤ 1),
  (AI N),
  (AN nb),
  (AP nb (fun i_1 => [.int .i64 ((g i_1).1), .int .i64 ((g i_1).2.1)]))]) := by kernel_rfl
theorem yGe (g : Nat → T_Bar) (nb : Nat) (N : Int) (i : Nat) (s : ByteArray) :
    pathOb Try.prog Try.f102 0 [.reg [oT], .dec false, .reg [oT, oT]] [.code (cAt (bodyOf Try.f102) [1, 1, 1, 0, 1, 0, 0]), .inLoop (cAt (bodyOf Try.f102) [1, 1, 1, 0, 1, 0, 0]), .inBlock 0, .code (cAt (bodyOf Try.f102) [1, 1, 1, 1])] (FGi g nb N i s) [] 1 [] (.p (.str s)) =
    some [((decide ((↑i : Int) < (↑nb : Int))) = false),
  (s = s)] := by kernel_rfl
theorem zG0 (g : Nat → T_Bar) (nb : Nat) (N : Int) :
    pathOb Try.prog Try.f91 0 [.reg [oT, oT], .reg [oT, ⟨true, (some ⟨[], [], [], 1, [], .p (.bool false)⟩), none⟩, oT], .dec true, .reg [oT]] [.code (bodyOf Try.f91)] (start Try.f91 [] 0 [gzA g nb N]) [] 1 [] (.p (.str sE)) =
    some [((0 : Nat) < 1),
  Con Try.prog 110 0 [] [.agg [.p (.int .i64 N), .p (.seq true 2 nb (fun i => [.int .i64 ((g i).1), .int .i64 ((g i).2.1)]))]] [] (.p (.bool false)),
  ((!false) = true),
  (ByteArray.mk #[] = sE)] := by kernel_rfl
theorem zGz (g : Nat → T_Bar) (nb : Nat) (N : Int) (t : ByteArray) :
    pieceOb Try.prog 0 [.reg [oT, oT], .reg [oT, ⟨true, (some ⟨[], [], [], 1, [], .p (.bool true)⟩), none⟩, oT], .dec false, .reg [oT, oT, ⟨true, (some ⟨[], [], [], 1, [], .p (.str t)⟩), none⟩, oT, oT], .reg [oT], .head] [.code (bodyOf Try.f91)] (start Try.f91 [] 0 [gzA g nb N]) [0] 1 (FGs g nb N 0 (t ++ sCol)) =
    some ([.code (cAt (bodyOf Try.f91) [1, 1, 1, 0, 1, 0, 0]), .inLoop (cAt (bodyOf Try.f91) [1, 1, 1, 0, 1, 0, 0]), .inBlock 0, .code (cAt (bodyOf Try.f91) [1, 1, 1, 1])], [((0 : Nat) < 1),
  Con Try.prog 110 0 [] [.agg [.p (.int .i64 N), .p (.seq true 2 nb (fun i => [.int .i64 ((g i).1), .int .i64 ((g i).2.1)]))]] [] (.p (.bool true)),
  ((!true) = false),
  ((0 : Nat) < 1),
  Con Try.prog 58 0 [] [.p (.int .i64 N)] [] (.p (.str t)),
  (((t.size + (ByteArray.mk #[58]).size) : Nat) ≤ 9223372036854775807),
  (AI N),
  (AN nb),
  (AP nb (fun i => [.int .i64 ((g i).1), .int .i64 ((g i).2.1)])),
  (AN 0),
  (t ++ ByteArray.mk #[58] = t ++ sCol),
  ((0 : Int) = (↑0 : Int)),
  ((([AV.p (PV.int IntKind.i64 N), brL g nb].length) : Nat) = 2),
  ((1 : Nat) ≤ 1),
  ((1 : Nat) ≤ 1),
  (AI N),
  (AN nb),
  (AP nb (fun i => [.int .i64 ((g i).1), .int .i64 ((g i).2.1)]))]) := by kernel_rfl
theorem zGt (g : Nat → T_Bar) (nb : Nat) (N : Int) (i : Nat) (s t u : ByteArray) :
    pieceOb Try.prog 0 [.reg [oT, oT, oT, oT, oT], .dec true, .reg [oT, oT, oT, oT, oT, oT, oT, oT, ⟨true, (some ⟨[], [], [], 1, [], .p (.str t)⟩), none⟩, oT, oT, oT, oT, oT, oT, oT, oT, ⟨true, (some ⟨[], [], [], 1, [], .p (.str u)⟩), none⟩, oT, oT], .reg [oT, oT, oT], .head] [.code (cAt (bodyOf Try.f91) [1, 1, 1, 0, 1, 0, 0]), .inLoop (cAt (bodyOf Try.f91) [1, 1, 1, 0, 1, 0, 0]), .inBlock 0, .code (cAt (bodyOf Try.f91) [1, 1, 1, 1])] (FGs g nb N i s) [0] 1 (FGs g nb N (i + 1) ((((s ++ sSp) ++ t) ++ sDash) ++ u)) =
    some ([.code (cAt (bodyOf Try.f91) [1, 1, 1, 0, 1, 0, 0]), .inLoop (cAt (bodyOf Try.f91) [1, 1, 1, 0, 1, 0, 0]), .inBlock 0, .code (cAt (bodyOf Try.f91) [1, 1, 1, 1])], [((0 : Nat) < 1),
  ((decide ((↑i : Int) < (↑nb : Int))) = true),
  (((s.size + (ByteArray.mk #[32]).size) : Nat) ≤ 9223372036854775807),
  ((0 : Nat) < 1),
  ((0 : Int) ≤ (↑i : Int)),
  (((↑i : Int) : Int) < (↑nb : Int)),
  Con Try.prog 58 0 [] [.p (.int .i64 ((g i).1))] [] (.p (.str t)),
  ((((s ++ ByteArray.mk #[32]).size + t.size) : Nat) ≤ 9223372036854775807),
  ((((s ++ ByteArray.mk #[32] ++ t).size + (ByteArray.mk #[45]).size) : Nat) ≤ 9223372036854775807),
  ((0 : Nat) < 1),
  ((0 : Int) ≤ (↑i : Int)),
  (((↑i : Int) : Int) < (↑nb : Int)),
  Con Try.prog 58 0 [] [.p (.int .i64 ((g i).2.1))] [] (.p (.str u)),
  ((((s ++ ByteArray.mk #[32] ++ t ++ ByteArray.mk #[45]).size + u.size) : Nat) ≤ 9223372036854775807),
  (((-9223372036854775808) : Int) ≤ ((↑i : Int) + 1)),
  ((((↑i : Int) + 1) : Int) ≤ 9223372036854775807),
  (AI N),
  (AN nb),
  (AP nb (fun i_1 => [.int .i64 ((g i_1).1), .int .i64 ((g i_1).2.1)])),
  (AN 0),
  (s ++ ByteArray.mk #[32] ++ t ++ ByteArray.mk #[45] ++ u = s ++ sSp ++ t ++ sDash ++ u),
  ((((↑i : Int) + 1) : Int) = (↑(i + 1) : Int)),
  (AN 2),
  ((1 : Nat) ≤ 1),
  ((1 : Nat) ≤ 1),
  (AI N),
  (AN nb),
  (AP nb (fun i_1 => [.int .i64 ((g i_1).1), .int .i64 ((g i_1).2.1)]))]) := by kernel_rfl
theorem zGe (g : Nat → T_Bar) (nb : Nat) (N : Int) (i : Nat) (s : ByteArray) :
    pathOb Try.prog Try.f91 0 [.reg [oT, oT, oT, oT, oT], .dec false, .reg [oT, oT]] [.code (cAt (bodyOf Try.f91) [1, 1, 1, 0, 1, 0, 0]), .inLoop (cAt (bodyOf Try.f91) [1, 1, 1, 0, 1, 0, 0]), .inBlock 0, .code (cAt (bodyOf Try.f91) [1, 1, 1, 1])] (FGs g nb N i s) [] 1 [] (.p (.str s)) =
    some [((0 : Nat) < 1),
  ((decide ((↑i : Int) < (↑nb : Int))) = false),
  (s = s)] := by kernel_rfl
theorem yF0 (g : Nat → T_Bar) (nb : Nat) (N : Int) (pl : Nat → T_Place) (np : Nat) :
    pathOb Try.prog Try.f98 0 [.reg [oT, oT], .reg [oT, ⟨true, (some ⟨[], [], [], 1, [], .p (.bool false)⟩), none⟩, oT], .dec true, .reg [oT]] [.code (bodyOf Try.f98)] (start Try.f98 [] 0 [frA g nb N pl np]) [] 1 [] (.p (.str sE)) =
    some [((0 : Nat) < 1),
  Con Try.prog 134 0 [] [.agg [.p (.int .i64 N), .p (.seq true 2 nb (fun i => [.int .i64 ((g i).1), .int .i64 ((g i).2.1)])), .p (.seq true 2 np (fun i => [.int .i64 ((pl i).1), .int .i64 ((pl i).2.1)]))]] [] (.p (.bool false)),
  ((!false) = true),
  (ByteArray.mk #[] = sE)] := by kernel_rfl
theorem yFz (g : Nat → T_Bar) (nb : Nat) (N : Int) (pl : Nat → T_Place) (np : Nat) (t : ByteArray) :
    pieceOb Try.prog 0 [.reg [oT, oT], .reg [oT, ⟨true, (some ⟨[], [], [], 1, [], .p (.bool true)⟩), none⟩, oT], .dec false, .reg [oT, oT, ⟨true, (some ⟨[], [], [], 1, [], .p (.str t)⟩), none⟩, oT, oT], .reg [oT, oT, oT, oT], .head] [.code (bodyOf Try.f98)] (start Try.f98 [] 0 [frA g nb N pl np]) [0] 1 (FFi g nb N pl np 0 (t ++ sAt)) =
    some ([.code (cAt (bodyOf Try.f98) [1, 1, 1, 0, 1, 0, 0]), .inLoop (cAt (bodyOf Try.f98) [1, 1, 1, 0, 1, 0, 0]), .inBlock 0, .code (cAt (bodyOf Try.f98) [1, 1, 1, 1])], [((0 : Nat) < 1),
  Con Try.prog 134 0 [] [.agg [.p (.int .i64 N), .p (.seq true 2 nb (fun i => [.int .i64 ((g i).1), .int .i64 ((g i).2.1)])), .p (.seq true 2 np (fun i => [.int .i64 ((pl i).1), .int .i64 ((pl i).2.1)]))]] [] (.p (.bool true)),
  ((!true) = false),
  ((0 : Nat) < 1),
  Con Try.prog 102 0 [] [.agg [.p (.int .i64 N), .p (.seq true 2 nb (fun i => [.int .i64 ((g i).1), .int .i64 ((g i).2.1)]))]] [] (.p (.str t)),
  (((t.size + (ByteArray.mk #[32, 97, 116]).size) : Nat) ≤ 9223372036854775807),
  ((0 : Nat) < 1),
  (AI N),
  (AN nb),
  (AP nb (fun i => [.int .i64 ((g i).1), .int .i64 ((g i).2.1)])),
  (AN np),
  (AP np (fun i => [.int .i64 ((pl i).1), .int .i64 ((pl i).2.1)])),
  (AN 0),
  (t ++ ByteArray.mk #[32, 97, 116] = t ++ sAt),
  (AN np),
  (AP np (fun i => [.int .i64 ((pl i).1), .int .i64 ((pl i).2.1)])),
  (AI ((↑np : Int))),
  ((0 : Int) = (↑0 : Int)),
  ((([AV.p (PV.int IntKind.i64 N), brL g nb, pcL pl np].length) : Nat) = 3),
  ((1 : Nat) ≤ 1),
  ((1 : Nat) ≤ 1),
  (AI N),
  (AN nb),
  (AP nb (fun i => [.int .i64 ((g i).1), .int .i64 ((g i).2.1)])),
  (AN np),
  (AP np (fun i => [.int .i64 ((pl i).1), .int .i64 ((pl i).2.1)]))]) := by kernel_rfl
theorem yFt (g : Nat → T_Bar) (nb : Nat) (N : Int) (pl : Nat → T_Place) (np : Nat) (i : Nat) (s t u : ByteArray) :
    pieceOb Try.prog 0 [.reg [oT], .dec true, .reg [oT, oT, oT, oT], .reg [oT, oT, oT, oT, ⟨true, (some ⟨[], [], [], 1, [], .p (.str t)⟩), none⟩, oT, oT, oT, oT, ⟨true, (some ⟨[], [], [], 1, [], .p (.str u)⟩), none⟩, oT, oT], .reg [oT, oT], .head] [.code (cAt (bodyOf Try.f98) [1, 1, 1, 0, 1, 0, 0]), .inLoop (cAt (bodyOf Try.f98) [1, 1, 1, 0, 1, 0, 0]), .inBlock 0, .code (cAt (bodyOf Try.f98) [1, 1, 1, 1])] (FFi g nb N pl np i s) [0] 1 (FFi g nb N pl np (i + 1) ((((s ++ sSp) ++ t) ++ sC) ++ u)) =
    some ([.code (cAt (bodyOf Try.f98) [1, 1, 1, 0, 1, 0, 0]), .inLoop (cAt (bodyOf Try.f98) [1, 1, 1, 0, 1, 0, 0]), .inBlock 0, .code (cAt (bodyOf Try.f98) [1, 1, 1, 1])], [((decide ((↑i : Int) < (↑np : Int))) = true),
  ((0 : Int) ≤ (↑i : Int)),
  (((↑i : Int) : Int) < (↑np : Int)),
  ((0 : Nat) < 1),
  ((true = true) → (AN 1)),
  (((s.size + (ByteArray.mk #[32]).size) : Nat) ≤ 9223372036854775807),
  ((0 : Nat) < 1),
  Con Try.prog 67 0 [] [.p (.int .i64 ((pl i).1))] [] (.p (.str t)),
  ((((s ++ ByteArray.mk #[32]).size + t.size) : Nat) ≤ 9223372036854775807),
  ((((s ++ ByteArray.mk #[32] ++ t).size + (ByteArray.mk #[44]).size) : Nat) ≤ 9223372036854775807),
  ((0 : Nat) < 1),
  Con Try.prog 67 0 [] [.p (.int .i64 ((pl i).2.1))] [] (.p (.str u)),
  ((((s ++ ByteArray.mk #[32] ++ t ++ ByteArray.mk #[44]).size + u.size) : Nat) ≤ 9223372036854775807),
  (((-9223372036854775808) : Int) ≤ ((↑i : Int) + 1)),
  ((((↑i : Int) + 1) : Int) ≤ 9223372036854775807),
  (AI N),
  (AN nb),
  (AP nb (fun i_1 => [.int .i64 ((g i_1).1), .int .i64 ((g i_1).2.1)])),
  (AN np),
  (AP np (fun i_1 => [.int .i64 ((pl i_1).1), .int .i64 ((pl i_1).2.1)])),
  (AN 0),
  (s ++ ByteArray.mk #[32] ++ t ++ ByteArray.mk #[44] ++ u = s ++ sSp ++ t ++ sC ++ u),
  (AN np),
  (AP np (fun i_1 => [.int .i64 ((pl i_1).1), .int .i64 ((pl i_1).2.1)])),
  (AI ((↑np : Int))),
  ((((↑i : Int) + 1) : Int) = (↑(i + 1) : Int)),
  (AN 3),
  ((1 : Nat) ≤ 1),
  ((1 : Nat) ≤ 1),
  (AI N),
  (AN nb),
  (AP nb (fun i_1 => [.int .i64 ((g i_1).1), .int .i64 ((g i_1).2.1)])),
  (AN np),
  (AP np (fun i_1 => [.int .i64 ((pl i_1).1), .int .i64 ((pl i_1).2.1)]))]) := by kernel_rfl
theorem yFe (g : Nat → T_Bar) (nb : Nat) (N : Int) (pl : Nat → T_Place) (np : Nat) (i : Nat) (s : ByteArray) :
    pathOb Try.prog Try.f98 0 [.reg [oT], .dec false, .reg [oT, oT]] [.code (cAt (bodyOf Try.f98) [1, 1, 1, 0, 1, 0, 0]), .inLoop (cAt (bodyOf Try.f98) [1, 1, 1, 0, 1, 0, 0]), .inBlock 0, .code (cAt (bodyOf Try.f98) [1, 1, 1, 1])] (FFi g nb N pl np i s) [] 1 [] (.p (.str s)) =
    some [((decide ((↑i : Int) < (↑np : Int))) = false),
  (s = s)] := by kernel_rfl
theorem zF0 (g : Nat → T_Bar) (nb : Nat) (N : Int) (pl : Nat → T_Place) (np : Nat) :
    pathOb Try.prog Try.f87 0 [.reg [oT, oT], .reg [oT, ⟨true, (some ⟨[], [], [], 1, [], .p (.bool false)⟩), none⟩, oT], .dec true, .reg [oT]] [.code (bodyOf Try.f87)] (start Try.f87 [] 0 [frA g nb N pl np]) [] 1 [] (.p (.str sE)) =
    some [((0 : Nat) < 1),
  Con Try.prog 131 0 [] [.agg [.p (.int .i64 N), .p (.seq true 2 nb (fun i => [.int .i64 ((g i).1), .int .i64 ((g i).2.1)])), .p (.seq true 2 np (fun i => [.int .i64 ((pl i).1), .int .i64 ((pl i).2.1)]))]] [] (.p (.bool false)),
  ((!false) = true),
  (ByteArray.mk #[] = sE)] := by kernel_rfl
theorem zFz (g : Nat → T_Bar) (nb : Nat) (N : Int) (pl : Nat → T_Place) (np : Nat) (t : ByteArray) :
    pieceOb Try.prog 0 [.reg [oT, oT], .reg [oT, ⟨true, (some ⟨[], [], [], 1, [], .p (.bool true)⟩), none⟩, oT], .dec false, .reg [oT, oT, ⟨true, (some ⟨[], [], [], 1, [], .p (.str t)⟩), none⟩, oT, oT], .reg [oT], .head] [.code (bodyOf Try.f87)] (start Try.f87 [] 0 [frA g nb N pl np]) [0] 1 (FFs g nb N pl np 0 (t ++ sAt)) =
    some ([.code (cAt (bodyOf Try.f87) [1, 1, 1, 0, 1, 0, 0]), .inLoop (cAt (bodyOf Try.f87) [1, 1, 1, 0, 1, 0, 0]), .inBlock 0, .code (cAt (bodyOf Try.f87) [1, 1, 1, 1])], [((0 : Nat) < 1),
  Con Try.prog 131 0 [] [.agg [.p (.int .i64 N), .p (.seq true 2 nb (fun i => [.int .i64 ((g i).1), .int .i64 ((g i).2.1)])), .p (.seq true 2 np (fun i => [.int .i64 ((pl i).1), .int .i64 ((pl i).2.1)]))]] [] (.p (.bool true)),
  ((!true) = false),
  ((0 : Nat) < 1),
  Con Try.prog 91 0 [] [.agg [.p (.int .i64 N), .p (.seq true 2 nb (fun i => [.int .i64 ((g i).1), .int .i64 ((g i).2.1)]))]] [] (.p (.str t)),
  (((t.size + (ByteArray.mk #[32, 97, 116]).size) : Nat) ≤ 9223372036854775807),
  (AI N),
  (AN nb),
  (AP nb (fun i => [.int .i64 ((g i).1), .int .i64 ((g i).2.1)])),
  (AN np),
  (AP np (fun i => [.int .i64 ((pl i).1), .int .i64 ((pl i).2.1)])),
  (AN 0),
  (t ++ ByteArray.mk #[32, 97, 116] = t ++ sAt),
  ((0 : Int) = (↑0 : Int)),
  ((([AV.p (PV.int IntKind.i64 N), brL g nb, pcL pl np].length) : Nat) = 3),
  ((1 : Nat) ≤ 1),
  ((1 : Nat) ≤ 1),
  (AI N),
  (AN nb),
  (AP nb (fun i => [.int .i64 ((g i).1), .int .i64 ((g i).2.1)])),
  (AN np),
  (AP np (fun i => [.int .i64 ((pl i).1), .int .i64 ((pl i).2.1)]))]) := by kernel_rfl
theorem zFt (g : Nat → T_Bar) (nb : Nat) (N : Int) (pl : Nat → T_Place) (np : Nat) (i : Nat) (s t u : ByteArray) :
    pieceOb Try.prog 0 [.reg [oT, oT, oT, oT, oT], .dec true, .reg [oT, oT, oT, oT, oT, oT, oT, oT, ⟨true, (some ⟨[], [], [], 1, [], .p (.str t)⟩), none⟩, oT, oT, oT, oT, oT, oT, oT, oT, ⟨true, (some ⟨[], [], [], 1, [], .p (.str u)⟩), none⟩, oT, oT], .reg [oT, oT, oT], .head] [.code (cAt (bodyOf Try.f87) [1, 1, 1, 0, 1, 0, 0]), .inLoop (cAt (bodyOf Try.f87) [1, 1, 1, 0, 1, 0, 0]), .inBlock 0, .code (cAt (bodyOf Try.f87) [1, 1, 1, 1])] (FFs g nb N pl np i s) [0] 1 (FFs g nb N pl np (i + 1) ((((s ++ sSp) ++ t) ++ sC) ++ u)) =
    some ([.code (cAt (bodyOf Try.f87) [1, 1, 1, 0, 1, 0, 0]), .inLoop (cAt (bodyOf Try.f87) [1, 1, 1, 0, 1, 0, 0]), .inBlock 0, .code (cAt (bodyOf Try.f87) [1, 1, 1, 1])], [((0 : Nat) < 1),
  ((decide ((↑i : Int) < (↑np : Int))) = true),
  (((s.size + (ByteArray.mk #[32]).size) : Nat) ≤ 9223372036854775807),
  ((0 : Nat) < 1),
  ((0 : Int) ≤ (↑i : Int)),
  (((↑i : Int) : Int) < (↑np : Int)),
  Con Try.prog 58 0 [] [.p (.int .i64 ((pl i).1))] [] (.p (.str t)),
  ((((s ++ ByteArray.mk #[32]).size + t.size) : Nat) ≤ 9223372036854775807),
  ((((s ++ ByteArray.mk #[32] ++ t).size + (ByteArray.mk #[44]).size) : Nat) ≤ 9223372036854775807),
  ((0 : Nat) < 1),
  ((0 : Int) ≤ (↑i : Int)),
  (((↑i : Int) : Int) < (↑np : Int)),
  Con Try.prog 58 0 [] [.p (.int .i64 ((pl i).2.1))] [] (.p (.str u)),
  ((((s ++ ByteArray.mk #[32] ++ t ++ ByteArray.mk #[44]).size + u.size) : Nat) ≤ 9223372036854775807),
  (((-9223372036854775808) : Int) ≤ ((↑i : Int) + 1)),
  ((((↑i : Int) + 1) : Int) ≤ 9223372036854775807),
  (AI N),
  (AN nb),
  (AP nb (fun i_1 => [.int .i64 ((g i_1).1), .int .i64 ((g i_1).2.1)])),
  (AN np),
  (AP np (fun i_1 => [.int .i64 ((pl i_1).1), .int .i64 ((pl i_1).2.1)])),
  (AN 0),
  (s ++ ByteArray.mk #[32] ++ t ++ ByteArray.mk #[44] ++ u = s ++ sSp ++ t ++ sC ++ u),
  ((((↑i : Int) + 1) : Int) = (↑(i + 1) : Int)),
  (AN 3),
  ((1 : Nat) ≤ 1),
  ((1 : Nat) ≤ 1),
  (AI N),
  (AN nb),
  (AP nb (fun i_1 => [.int .i64 ((g i_1).1), .int .i64 ((g i_1).2.1)])),
  (AN np),
  (AP np (fun i_1 => [.int .i64 ((pl i_1).1), .int .i64 ((pl i_1).2.1)]))]) := by kernel_rfl
theorem zFe (g : Nat → T_Bar) (nb : Nat) (N : Int) (pl : Nat → T_Place) (np : Nat) (i : Nat) (s : ByteArray) :
    pathOb Try.prog Try.f87 0 [.reg [oT, oT, oT, oT, oT], .dec false, .reg [oT, oT]] [.code (cAt (bodyOf Try.f87) [1, 1, 1, 0, 1, 0, 0]), .inLoop (cAt (bodyOf Try.f87) [1, 1, 1, 0, 1, 0, 0]), .inBlock 0, .code (cAt (bodyOf Try.f87) [1, 1, 1, 1])] (FFs g nb N pl np i s) [] 1 [] (.p (.str s)) =
    some [((0 : Nat) < 1),
  ((decide ((↑i : Int) < (↑np : Int))) = false),
  (s = s)] := by kernel_rfl
theorem yPl (a b : Int) (p q : Bool) :
    pathOb Try.prog Try.f151 0 [.reg [oT, oT], .reg [oT, oT, ⟨true, (some ⟨[], [], [], 1, [], .p (.bool p)⟩), none⟩, oT, oT, oT, ⟨true, (some ⟨[], [], [], 1, [], .p (.bool q)⟩), none⟩, oT, oT]] [.code (bodyOf Try.f151)] (start Try.f151 [] 0 [.agg [.p (.int .i64 a), .p (.int .i64 b)]]) [] 1 [] (.p (.bool (bif p then q else false))) =
    some [((0 : Nat) < 1),
  Con Try.prog 40 0 [] [.p (.int .i64 a), .p (.int .i64 0), .p (.int .i64 4)] [] (.p (.bool p)),
  (AG p),
  ((p = true) → ((0 : Nat) < 1)),
  (AG p),
  ((p = true) → Con Try.prog 40 0 [] [.p (.int .i64 b), .p (.int .i64 0), .p (.int .i64 4)] [] (.p (.bool q))),
  (AG p),
  ((bif p then q else false) = (bif p then q else false))] := by kernel_rfl
theorem yI0 (g : Nat → T_Bar) (nb : Nat) (N : Int) (pl : Nat → T_Place) (np : Nat) (a : Bool) :
    pathOb Try.prog Try.f134 0 [.reg [oT, oT], .reg [oT, oT, oT, oT], .reg [oT, ⟨true, (some ⟨[], [], [], 1, [], .p (.bool a)⟩), none⟩, oT, oT, oT, oT, oT, oT, oT, oT, oT, oT, oT, oT, oT, oT, oT, oT, oT, oT, oT, oT], .dec true, .reg [oT]] [.code (bodyOf Try.f134)] (start Try.f134 [] 0 [frA g nb N pl np]) [] 1 [] (.p (.bool false)) =
    some [((0 : Nat) < 1),
  ((0 : Nat) < 1),
  ((true = true) → (AN 1)),
  ((0 : Nat) < 1),
  Con Try.prog 101 0 [] [.agg [.p (.int .i64 N), .p (.seq true 2 nb (fun i => [.int .i64 ((g i).1), .int .i64 ((g i).2.1)]))]] [] (.p (.bool a)),
  (AG (!!a)),
  (((!!a) = true) → ((0 : Nat) < 1)),
  (AG (!!a)),
  (((!a) = false) → ((!!a) = true)),
  (AG (!bif !a then true else decide (N > 6))),
  (((!bif !a then true else decide (N > 6)) = true) → ((0 : Nat) < 1)),
  (AG (!bif !a then true else decide (N > 6))),
  (AG (!bif !a then true else decide (N > 6))),
  (((bif !a then true else decide (N > 6)) = false) → ((!bif !a then true else decide (N > 6)) = true)),
  (AG (!bif bif !a then true else decide (N > 6) then true else decide ((↑nb : Int) > 15))),
  (((!bif bif !a then true else decide (N > 6) then true else decide ((↑nb : Int) > 15)) = true) → ((0 : Nat) < 1)),
  (AG (!bif bif !a then true else decide (N > 6) then true else decide ((↑nb : Int) > 15))),
  (AG (!bif bif !a then true else decide (N > 6) then true else decide ((↑nb : Int) > 15))),
  (((!bif bif !a then true else decide (N > 6) then true else decide ((↑nb : Int) > 15)) = true) → ((0 : Nat) < 1)),
  (AG (!bif bif !a then true else decide (N > 6) then true else decide ((↑nb : Int) > 15))),
  (AG (!bif bif !a then true else decide (N > 6) then true else decide ((↑nb : Int) > 15))),
  (((bif bif !a then true else decide (N > 6) then true else decide ((↑nb : Int) > 15)) = false) → ((!bif bif !a then true else decide (N > 6) then true else decide ((↑nb : Int) > 15)) = true)),
  ((bif bif bif !a then true else decide (N > 6) then true else decide ((↑nb : Int) > 15) then true else (↑np : Int) != N) = true),
  (false = false)] := by kernel_rfl
theorem yIz (g : Nat → T_Bar) (nb : Nat) (N : Int) (pl : Nat → T_Place) (np : Nat) (a : Bool) :
    pieceOb Try.prog 0 [.reg [oT, oT], .reg [oT, oT, oT, oT], .reg [oT, ⟨true, (some ⟨[], [], [], 1, [], .p (.bool a)⟩), none⟩, oT, oT, oT, oT, oT, oT, oT, oT, oT, oT, oT, oT, oT, oT, oT, oT, oT, oT, oT, oT], .dec false, .reg [oT, oT, oT, oT], .head] [.code (bodyOf Try.f134)] (start Try.f134 [] 0 [frA g nb N pl np]) [0, 128] 1 (FI0 g nb N pl np 0) =
    some ([.code (cAt (bodyOf Try.f134) [1, 1, 1, 0, 1, 0, 0]), .inLoop (cAt (bodyOf Try.f134) [1, 1, 1, 0, 1, 0, 0]), .inBlock 0, .code (cAt (bodyOf Try.f134) [1, 1, 1, 1])], [((0 : Nat) < 1),
  ((0 : Nat) < 1),
  ((true = true) → (AN 1)),
  ((0 : Nat) < 1),
  Con Try.prog 101 0 [] [.agg [.p (.int .i64 N), .p (.seq true 2 nb (fun i => [.int .i64 ((g i).1), .int .i64 ((g i).2.1)]))]] [] (.p (.bool a)),
  (AG (!!a)),
  (((!!a) = true) → ((0 : Nat) < 1)),
  (AG (!!a)),
  (((!a) = false) → ((!!a) = true)),
  (AG (!bif !a then true else decide (N > 6))),
  (((!bif !a then true else decide (N > 6)) = true) → ((0 : Nat) < 1)),
  (AG (!bif !a then true else decide (N > 6))),
  (AG (!bif !a then true else decide (N > 6))),
  (((bif !a then true else decide (N > 6)) = false) → ((!bif !a then true else decide (N > 6)) = true)),
  (AG (!bif bif !a then true else decide (N > 6) then true else decide ((↑nb : Int) > 15))),
  (((!bif bif !a then true else decide (N > 6) then true else decide ((↑nb : Int) > 15)) = true) → ((0 : Nat) < 1)),
  (AG (!bif bif !a then true else decide (N > 6) then true else decide ((↑nb : Int) > 15))),
  (AG (!bif bif !a then true else decide (N > 6) then true else decide ((↑nb : Int) > 15))),
  (((!bif bif !a then true else decide (N > 6) then true else decide ((↑nb : Int) > 15)) = true) → ((0 : Nat) < 1)),
  (AG (!bif bif !a then true else decide (N > 6) then true else decide ((↑nb : Int) > 15))),
  (AG (!bif bif !a then true else decide (N > 6) then true else decide ((↑nb : Int) > 15))),
  (((bif bif !a then true else decide (N > 6) then true else decide ((↑nb : Int) > 15)) = false) → ((!bif bif !a then true else decide (N > 6) then true else decide ((↑nb : Int) > 15)) = true)),
  ((bif bif bif !a then true else decide (N > 6) then true else decide ((↑nb : Int) > 15) then true else (↑np : Int) != N) = false),
  ((0 : Nat) < 1),
  (AI N),
  (AN nb),
  (AP nb (fun i => [.int .i64 ((g i).1), .int .i64 ((g i).2.1)])),
  (AN np),
  (AP np (fun i => [.int .i64 ((pl i).1), .int .i64 ((pl i).2.1)])),
  (AN 0),
  (AN 0),
  (AN np),
  (AP np (fun i => [.int .i64 ((pl i).1), .int .i64 ((pl i).2.1)])),
  (AI ((↑np : Int))),
  ((0 : Int) = (↑0 : Int)),
  ((([AV.p (PV.int IntKind.i64 N), brL g nb, pcL pl np].length) : Nat) = 3),
  ((1 : Nat) ≤ 1),
  ((1 : Nat) ≤ 1),
  (AI N),
  (AN nb),
  (AP nb (fun i => [.int .i64 ((g i).1), .int .i64 ((g i).2.1)])),
  (AN np),
  (AP np (fun i => [.int .i64 ((pl i).1), .int .i64 ((pl i).2.1)])),
  ((((List.map (fun v => AV.p (absV v)) [Value.int IntKind.i64 0, Value.slice none 0 0]).length) : Nat) = 2),
  ((1 : Nat) ≤ 1),
  ((1 : Nat) ≤ 1),
  (AI N),
  (AN nb),
  (AP nb (fun i => [.int .i64 ((g i).1), .int .i64 ((g i).2.1)]))]) := by kernel_rfl
theorem yIt (g : Nat → T_Bar) (nb : Nat) (N : Int) (pl : Nat → T_Place) (np : Nat) (i : Nat) :
    pieceOb Try.prog 0 [.reg [oT], .dec true, .reg [oT, oT, oT, oT], .reg [oT, ⟨true, (some ⟨[], [], [], 1, [], .p (.bool true)⟩), none⟩, oT], .dec false, .reg [oT, oT], .head] [.code (cAt (bodyOf Try.f134) [1, 1, 1, 0, 1, 0, 0]), .inLoop (cAt (bodyOf Try.f134) [1, 1, 1, 0, 1, 0, 0]), .inBlock 0, .code (cAt (bodyOf Try.f134) [1, 1, 1, 1])] (FI0 g nb N pl np i) [0, 1] 1 (FI0 g nb N pl np (i + 1)) =
    some ([.code (cAt (bodyOf Try.f134) [1, 1, 1, 0, 1, 0, 0]), .inLoop (cAt (bodyOf Try.f134) [1, 1, 1, 0, 1, 0, 0]), .inBlock 0, .code (cAt (bodyOf Try.f134) [1, 1, 1, 1])], [((decide ((↑i : Int) < (↑np : Int))) = true),
  ((0 : Int) ≤ (↑i : Int)),
  (((↑i : Int) : Int) < (↑np : Int)),
  ((0 : Nat) < 1),
  ((true = true) → (AN 1)),
  ((0 : Nat) < 1),
  Con Try.prog 151 0 [] [.agg [.p (.int .i64 ((pl i).1)), .p (.int .i64 ((pl i).2.1))]] [] (.p (.bool true)),
  ((!true) = false),
  (((-9223372036854775808) : Int) ≤ ((↑i : Int) + 1)),
  ((((↑i : Int) + 1) : Int) ≤ 9223372036854775807),
  (AI N),
  (AN nb),
  (AP nb (fun i_1 => [.int .i64 ((g i_1).1), .int .i64 ((g i_1).2.1)])),
  (AN np),
  (AP np (fun i_1 => [.int .i64 ((pl i_1).1), .int .i64 ((pl i_1).2.1)])),
  (AN 0),
  (AN 0),
  (AN np),
  (AP np (fun i_1 => [.int .i64 ((pl i_1).1), .int .i64 ((pl i_1).2.1)])),
  (AI ((↑np : Int))),
  ((((↑i : Int) + 1) : Int) = (↑(i + 1) : Int)),
  (AN 3),
  ((1 : Nat) ≤ 1),
  ((1 : Nat) ≤ 1),
  (AI N),
  (AN nb),
  (AP nb (fun i_1 => [.int .i64 ((g i_1).1), .int .i64 ((g i_1).2.1)])),
  (AN np),
  (AP np (fun i_1 => [.int .i64 ((pl i_1).1), .int .i64 ((pl i_1).2.1)])),
  (AN 2),
  ((1 : Nat) ≤ 1),
  ((1 : Nat) ≤ 1),
  (AI N),
  (AN nb),
  (AP nb (fun i_1 => [.int .i64 ((g i_1).1), .int .i64 ((g i_1).2.1)]))]) := by kernel_rfl
theorem yIx (g : Nat → T_Bar) (nb : Nat) (N : Int) (pl : Nat → T_Place) (np : Nat) (i : Nat) :
    pathOb Try.prog Try.f134 0 [.reg [oT], .dec true, .reg [oT, oT, oT, oT], .reg [oT, ⟨true, (some ⟨[], [], [], 1, [], .p (.bool false)⟩), none⟩, oT], .dec true, .reg [oT]] [.code (cAt (bodyOf Try.f134) [1, 1, 1, 0, 1, 0, 0]), .inLoop (cAt (bodyOf Try.f134) [1, 1, 1, 0, 1, 0, 0]), .inBlock 0, .code (cAt (bodyOf Try.f134) [1, 1, 1, 1])] (FI0 g nb N pl np i) [] 1 [] (.p (.bool false)) =
    some [((decide ((↑i : Int) < (↑np : Int))) = true),
  ((0 : Int) ≤ (↑i : Int)),
  (((↑i : Int) : Int) < (↑np : Int)),
  ((0 : Nat) < 1),
  ((true = true) → (AN 1)),
  ((0 : Nat) < 1),
  Con Try.prog 151 0 [] [.agg [.p (.int .i64 ((pl i).1)), .p (.int .i64 ((pl i).2.1))]] [] (.p (.bool false)),
  ((!false) = true),
  (false = false)] := by kernel_rfl
theorem yIn (g : Nat → T_Bar) (nb : Nat) (N : Int) (pl : Nat → T_Place) (np : Nat) (i : Nat) :
    pieceOb Try.prog 0 [.reg [oT], .dec false, .reg [oT, oT, oT, oT], .head] [.code (cAt (bodyOf Try.f134) [1, 1, 1, 0, 1, 0, 0]), .inLoop (cAt (bodyOf Try.f134) [1, 1, 1, 0, 1, 0, 0]), .inBlock 0, .code (cAt (bodyOf Try.f134) [1, 1, 1, 1])] (FI0 g nb N pl np i) [0, 1] 1 (FI1 g nb N pl np 0) =
    some ([.code (cAt (bodyOf Try.f134) [1, 1, 1, 1, 0, 1, 0, 0]), .inLoop (cAt (bodyOf Try.f134) [1, 1, 1, 1, 0, 1, 0, 0]), .inBlock 2, .code (cAt (bodyOf Try.f134) [1, 1, 1, 1, 1])], [((decide ((↑i : Int) < (↑np : Int))) = false),
  ((0 : Nat) < 1),
  (AI N),
  (AN nb),
  (AP nb (fun i_1 => [.int .i64 ((g i_1).1), .int .i64 ((g i_1).2.1)])),
  (AN np),
  (AP np (fun i_1 => [.int .i64 ((pl i_1).1), .int .i64 ((pl i_1).2.1)])),
  (AN 0),
  (AN 0),
  (AN nb),
  (AP nb (fun i_1 => [.int .i64 ((g i_1).1), .int .i64 ((g i_1).2.1)])),
  (AI ((↑nb : Int))),
  ((0 : Int) = (↑0 : Int)),
  (AN 3),
  ((1 : Nat) ≤ 1),
  ((1 : Nat) ≤ 1),
  (AI N),
  (AN nb),
  (AP nb (fun i_1 => [.int .i64 ((g i_1).1), .int .i64 ((g i_1).2.1)])),
  (AN np),
  (AP np (fun i_1 => [.int .i64 ((pl i_1).1), .int .i64 ((pl i_1).2.1)])),
  (AN 2),
  ((1 : Nat) ≤ 1),
  ((1 : Nat) ≤ 1),
  (AI N),
  (AN nb),
  (AP nb (fun i_1 => [.int .i64 ((g i_1).1), .int .i64 ((g i_1).2.1)]))]) := by kernel_rfl
theorem yIb (g : Nat → T_Bar) (nb : Nat) (N : Int) (pl : Nat → T_Place) (np : Nat) (i : Nat) :
    pieceOb Try.prog 0 [.reg [oT], .dec true, .reg [oT, oT, oT, oT, oT, oT], .reg [oT, oT, oT, oT, oT, oT, oT, oT, oT, oT, oT, oT, oT, oT, oT, oT, oT, oT, oT, oT, oT, oT, oT, oT, oT, oT, oT], .dec false, .reg [oT, oT], .head] [.code (cAt (bodyOf Try.f134) [1, 1, 1, 1, 0, 1, 0, 0]), .inLoop (cAt (bodyOf Try.f134) [1, 1, 1, 1, 0, 1, 0, 0]), .inBlock 2, .code (cAt (bodyOf Try.f134) [1, 1, 1, 1, 1])] (FI1 g nb N pl np i) [0, 1] 1 (FI1 g nb N pl np (i + 1)) =
    some ([.code (cAt (bodyOf Try.f134) [1, 1, 1, 1, 0, 1, 0, 0]), .inLoop (cAt (bodyOf Try.f134) [1, 1, 1, 1, 0, 1, 0, 0]), .inBlock 2, .code (cAt (bodyOf Try.f134) [1, 1, 1, 1, 1])], [((decide ((↑i : Int) < (↑nb : Int))) = true),
  ((0 : Int) ≤ (↑i : Int)),
  (((↑i : Int) : Int) < (↑nb : Int)),
  ((0 : Nat) < 1),
  ((true = true) → (AN 1)),
  (AG (decide ((↑i : Int) > 0))),
  (((decide ((↑i : Int) > 0)) = true) → ((0 : Nat) < 1)),
  (AG (decide ((↑i : Int) > 0))),
  (((decide ((↑i : Int) > 0)) = true) → (((-9223372036854775808) : Int) ≤ ((↑i : Int) - 1))),
  (((decide ((↑i : Int) > 0)) = true) → ((((↑i : Int) - 1) : Int) ≤ 9223372036854775807)),
  (AG (decide ((↑i : Int) > 0))),
  (AG (decide ((↑i : Int) > 0))),
  (((decide ((↑i : Int) > 0)) = true) → ((0 : Int) ≤ ((↑i : Int) - 1))),
  (((decide ((↑i : Int) > 0)) = true) → ((((↑i : Int) - 1) : Int) < (↑nb : Int))),
  (AG (decide ((↑i : Int) > 0))),
  (((decide ((↑i : Int) > 0)) = true) → ((0 : Nat) < 1)),
  (AG (decide ((↑i : Int) > 0))),
  (AG (decide ((↑i : Int) > 0))),
  (AG (decide ((↑i : Int) > 0))),
  (AG (!bif decide ((↑i : Int) > 0) then (g ((↑i : Int) - 1).toNat).1 == (g i).1 && ((g ((↑i : Int) - 1).toNat).2.1 == (g i).2.1 && true) else false)),
  (((!bif decide ((↑i : Int) > 0) then (g ((↑i : Int) - 1).toNat).1 == (g i).1 && ((g ((↑i : Int) - 1).toNat).2.1 == (g i).2.1 && true) else false) = true) → ((0 : Nat) < 1)),
  (AG (!bif decide ((↑i : Int) > 0) then (g ((↑i : Int) - 1).toNat).1 == (g i).1 && ((g ((↑i : Int) - 1).toNat).2.1 == (g i).2.1 && true) else false)),
  (((!bif decide ((↑i : Int) > 0) then (g ((↑i : Int) - 1).toNat).1 == (g i).1 && ((g ((↑i : Int) - 1).toNat).2.1 == (g i).2.1 && true) else false) = true) → ((0 : Nat) < 1)),
  (AG (!bif decide ((↑i : Int) > 0) then (g ((↑i : Int) - 1).toNat).1 == (g i).1 && ((g ((↑i : Int) - 1).toNat).2.1 == (g i).2.1 && true) else false)),
  (AG (!bif decide ((↑i : Int) > 0) then (g ((↑i : Int) - 1).toNat).1 == (g i).1 && ((g ((↑i : Int) - 1).toNat).2.1 == (g i).2.1 && true) else false)),
  (((!bif decide ((↑i : Int) > 0) then (g ((↑i : Int) - 1).toNat).1 == (g i).1 && ((g ((↑i : Int) - 1).toNat).2.1 == (g i).2.1 && true) else false) = true) → ((0 : Int) ≤ ((g i).1))),
  (((!bif decide ((↑i : Int) > 0) then (g ((↑i : Int) - 1).toNat).1 == (g i).1 && ((g ((↑i : Int) - 1).toNat).2.1 == (g i).2.1 && true) else false) = true) → ((((g i).1) : Int) < (↑np : Int))),
  (AG (!bif decide ((↑i : Int) > 0) then (g ((↑i : Int) - 1).toNat).1 == (g i).1 && ((g ((↑i : Int) - 1).toNat).2.1 == (g i).2.1 && true) else false)),
  (AG (!bif decide ((↑i : Int) > 0) then (g ((↑i : Int) - 1).toNat).1 == (g i).1 && ((g ((↑i : Int) - 1).toNat).2.1 == (g i).2.1 && true) else false)),
  (((!bif decide ((↑i : Int) > 0) then (g ((↑i : Int) - 1).toNat).1 == (g i).1 && ((g ((↑i : Int) - 1).toNat).2.1 == (g i).2.1 && true) else false) = true) → ((0 : Nat) < 1)),
  (AG (!bif decide ((↑i : Int) > 0) then (g ((↑i : Int) - 1).toNat).1 == (g i).1 && ((g ((↑i : Int) - 1).toNat).2.1 == (g i).2.1 && true) else false)),
  (((!bif decide ((↑i : Int) > 0) then (g ((↑i : Int) - 1).toNat).1 == (g i).1 && ((g ((↑i : Int) - 1).toNat).2.1 == (g i).2.1 && true) else false) = true) → ((0 : Nat) < 1)),
  (AG (!bif decide ((↑i : Int) > 0) then (g ((↑i : Int) - 1).toNat).1 == (g i).1 && ((g ((↑i : Int) - 1).toNat).2.1 == (g i).2.1 && true) else false)),
  (AG (!bif decide ((↑i : Int) > 0) then (g ((↑i : Int) - 1).toNat).1 == (g i).1 && ((g ((↑i : Int) - 1).toNat).2.1 == (g i).2.1 && true) else false)),
  (((!bif decide ((↑i : Int) > 0) then (g ((↑i : Int) - 1).toNat).1 == (g i).1 && ((g ((↑i : Int) - 1).toNat).2.1 == (g i).2.1 && true) else false) = true) → ((0 : Int) ≤ ((g i).2.1))),
  (((!bif decide ((↑i : Int) > 0) then (g ((↑i : Int) - 1).toNat).1 == (g i).1 && ((g ((↑i : Int) - 1).toNat).2.1 == (g i).2.1 && true) else false) = true) → ((((g i).2.1) : Int) < (↑np : Int))),
  (AG (!bif decide ((↑i : Int) > 0) then (g ((↑i : Int) - 1).toNat).1 == (g i).1 && ((g ((↑i : Int) - 1).toNat).2.1 == (g i).2.1 && true) else false)),
  (AG (!bif decide ((↑i : Int) > 0) then (g ((↑i : Int) - 1).toNat).1 == (g i).1 && ((g ((↑i : Int) - 1).toNat).2.1 == (g i).2.1 && true) else false)),
  (AG (!bif decide ((↑i : Int) > 0) then (g ((↑i : Int) - 1).toNat).1 == (g i).1 && ((g ((↑i : Int) - 1).toNat).2.1 == (g i).2.1 && true) else false)),
  (((bif decide ((↑i : Int) > 0) then (g ((↑i : Int) - 1).toNat).1 == (g i).1 && ((g ((↑i : Int) - 1).toNat).2.1 == (g i).2.1 && true) else false) = false) → ((!bif decide ((↑i : Int) > 0) then (g ((↑i : Int) - 1).toNat).1 == (g i).1 && ((g ((↑i : Int) - 1).toNat).2.1 == (g i).2.1 && true) else false) = true)),
  ((bif bif decide ((↑i : Int) > 0) then (g ((↑i : Int) - 1).toNat).1 == (g i).1 && ((g ((↑i : Int) - 1).toNat).2.1 == (g i).2.1 && true) else false then true else (pl (g i).1.toNat).1 == (pl (g i).2.1.toNat).1 && ((pl (g i).1.toNat).2.1 == (pl (g i).2.1.toNat).2.1 && true)) = false),
  (((-9223372036854775808) : Int) ≤ ((↑i : Int) + 1)),
  ((((↑i : Int) + 1) : Int) ≤ 9223372036854775807),
  (AI N),
  (AN nb),
  (AP nb (fun i_1 => [.int .i64 ((g i_1).1), .int .i64 ((g i_1).2.1)])),
  (AN np),
  (AP np (fun i_1 => [.int .i64 ((pl i_1).1), .int .i64 ((pl i_1).2.1)])),
  (AN 0),
  (AN 0),
  (AN nb),
  (AP nb (fun i_1 => [.int .i64 ((g i_1).1), .int .i64 ((g i_1).2.1)])),
  (AI ((↑nb : Int))),
  ((((↑i : Int) + 1) : Int) = (↑(i + 1) : Int)),
  (AN 3),
  ((1 : Nat) ≤ 1),
  ((1 : Nat) ≤ 1),
  (AI N),
  (AN nb),
  (AP nb (fun i_1 => [.int .i64 ((g i_1).1), .int .i64 ((g i_1).2.1)])),
  (AN np),
  (AP np (fun i_1 => [.int .i64 ((pl i_1).1), .int .i64 ((pl i_1).2.1)])),
  (AN 2),
  ((1 : Nat) ≤ 1),
  ((1 : Nat) ≤ 1),
  (AI N),
  (AN nb),
  (AP nb (fun i_1 => [.int .i64 ((g i_1).1), .int .i64 ((g i_1).2.1)]))]) := by kernel_rfl
theorem yIy (g : Nat → T_Bar) (nb : Nat) (N : Int) (pl : Nat → T_Place) (np : Nat) (i : Nat) :
    pathOb Try.prog Try.f134 0 [.reg [oT], .dec true, .reg [oT, oT, oT, oT, oT, oT], .reg [oT, oT, oT, oT, oT, oT, oT, oT, oT, oT, oT, oT, oT, oT, oT, oT, oT, oT, oT, oT, oT, oT, oT, oT, oT, oT, oT], .dec true, .reg [oT]] [.code (cAt (bodyOf Try.f134) [1, 1, 1, 1, 0, 1, 0, 0]), .inLoop (cAt (bodyOf Try.f134) [1, 1, 1, 1, 0, 1, 0, 0]), .inBlock 2, .code (cAt (bodyOf Try.f134) [1, 1, 1, 1, 1])] (FI1 g nb N pl np i) [] 1 [] (.p (.bool false)) =
    some [((decide ((↑i : Int) < (↑nb : Int))) = true),
  ((0 : Int) ≤ (↑i : Int)),
  (((↑i : Int) : Int) < (↑nb : Int)),
  ((0 : Nat) < 1),
  ((true = true) → (AN 1)),
  (AG (decide ((↑i : Int) > 0))),
  (((decide ((↑i : Int) > 0)) = true) → ((0 : Nat) < 1)),
  (AG (decide ((↑i : Int) > 0))),
  (((decide ((↑i : Int) > 0)) = true) → (((-9223372036854775808) : Int) ≤ ((↑i : Int) - 1))),
  (((decide ((↑i : Int) > 0)) = true) → ((((↑i : Int) - 1) : Int) ≤ 9223372036854775807)),
  (AG (decide ((↑i : Int) > 0))),
  (AG (decide ((↑i : Int) > 0))),
  (((decide ((↑i : Int) > 0)) = true) → ((0 : Int) ≤ ((↑i : Int) - 1))),
  (((decide ((↑i : Int) > 0)) = true) → ((((↑i : Int) - 1) : Int) < (↑nb : Int))),
  (AG (decide ((↑i : Int) > 0))),
  (((decide ((↑i : Int) > 0)) = true) → ((0 : Nat) < 1)),
  (AG (decide ((↑i : Int) > 0))),
  (AG (decide ((↑i : Int) > 0))),
  (AG (decide ((↑i : Int) > 0))),
  (AG (!bif decide ((↑i : Int) > 0) then (g ((↑i : Int) - 1).toNat).1 == (g i).1 && ((g ((↑i : Int) - 1).toNat).2.1 == (g i).2.1 && true) else false)),
  (((!bif decide ((↑i : Int) > 0) then (g ((↑i : Int) - 1).toNat).1 == (g i).1 && ((g ((↑i : Int) - 1).toNat).2.1 == (g i).2.1 && true) else false) = true) → ((0 : Nat) < 1)),
  (AG (!bif decide ((↑i : Int) > 0) then (g ((↑i : Int) - 1).toNat).1 == (g i).1 && ((g ((↑i : Int) - 1).toNat).2.1 == (g i).2.1 && true) else false)),
  (((!bif decide ((↑i : Int) > 0) then (g ((↑i : Int) - 1).toNat).1 == (g i).1 && ((g ((↑i : Int) - 1).toNat).2.1 == (g i).2.1 && true) else false) = true) → ((0 : Nat) < 1)),
  (AG (!bif decide ((↑i : Int) > 0) then (g ((↑i : Int) - 1).toNat).1 == (g i).1 && ((g ((↑i : Int) - 1).toNat).2.1 == (g i).2.1 && true) else false)),
  (AG (!bif decide ((↑i : Int) > 0) then (g ((↑i : Int) - 1).toNat).1 == (g i).1 && ((g ((↑i : Int) - 1).toNat).2.1 == (g i).2.1 && true) else false)),
  (((!bif decide ((↑i : Int) > 0) then (g ((↑i : Int) - 1).toNat).1 == (g i).1 && ((g ((↑i : Int) - 1).toNat).2.1 == (g i).2.1 && true) else false) = true) → ((0 : Int) ≤ ((g i).1))),
  (((!bif decide ((↑i : Int) > 0) then (g ((↑i : Int) - 1).toNat).1 == (g i).1 && ((g ((↑i : Int) - 1).toNat).2.1 == (g i).2.1 && true) else false) = true) → ((((g i).1) : Int) < (↑np : Int))),
  (AG (!bif decide ((↑i : Int) > 0) then (g ((↑i : Int) - 1).toNat).1 == (g i).1 && ((g ((↑i : Int) - 1).toNat).2.1 == (g i).2.1 && true) else false)),
  (AG (!bif decide ((↑i : Int) > 0) then (g ((↑i : Int) - 1).toNat).1 == (g i).1 && ((g ((↑i : Int) - 1).toNat).2.1 == (g i).2.1 && true) else false)),
  (((!bif decide ((↑i : Int) > 0) then (g ((↑i : Int) - 1).toNat).1 == (g i).1 && ((g ((↑i : Int) - 1).toNat).2.1 == (g i).2.1 && true) else false) = true) → ((0 : Nat) < 1)),
  (AG (!bif decide ((↑i : Int) > 0) then (g ((↑i : Int) - 1).toNat).1 == (g i).1 && ((g ((↑i : Int) - 1).toNat).2.1 == (g i).2.1 && true) else false)),
  (((!bif decide ((↑i : Int) > 0) then (g ((↑i : Int) - 1).toNat).1 == (g i).1 && ((g ((↑i : Int) - 1).toNat).2.1 == (g i).2.1 && true) else false) = true) → ((0 : Nat) < 1)),
  (AG (!bif decide ((↑i : Int) > 0) then (g ((↑i : Int) - 1).toNat).1 == (g i).1 && ((g ((↑i : Int) - 1).toNat).2.1 == (g i).2.1 && true) else false)),
  (AG (!bif decide ((↑i : Int) > 0) then (g ((↑i : Int) - 1).toNat).1 == (g i).1 && ((g ((↑i : Int) - 1).toNat).2.1 == (g i).2.1 && true) else false)),
  (((!bif decide ((↑i : Int) > 0) then (g ((↑i : Int) - 1).toNat).1 == (g i).1 && ((g ((↑i : Int) - 1).toNat).2.1 == (g i).2.1 && true) else false) = true) → ((0 : Int) ≤ ((g i).2.1))),
  (((!bif decide ((↑i : Int) > 0) then (g ((↑i : Int) - 1).toNat).1 == (g i).1 && ((g ((↑i : Int) - 1).toNat).2.1 == (g i).2.1 && true) else false) = true) → ((((g i).2.1) : Int) < (↑np : Int))),
  (AG (!bif decide ((↑i : Int) > 0) then (g ((↑i : Int) - 1).toNat).1 == (g i).1 && ((g ((↑i : Int) - 1).toNat).2.1 == (g i).2.1 && true) else false)),
  (AG (!bif decide ((↑i : Int) > 0) then (g ((↑i : Int) - 1).toNat).1 == (g i).1 && ((g ((↑i : Int) - 1).toNat).2.1 == (g i).2.1 && true) else false)),
  (AG (!bif decide ((↑i : Int) > 0) then (g ((↑i : Int) - 1).toNat).1 == (g i).1 && ((g ((↑i : Int) - 1).toNat).2.1 == (g i).2.1 && true) else false)),
  (((bif decide ((↑i : Int) > 0) then (g ((↑i : Int) - 1).toNat).1 == (g i).1 && ((g ((↑i : Int) - 1).toNat).2.1 == (g i).2.1 && true) else false) = false) → ((!bif decide ((↑i : Int) > 0) then (g ((↑i : Int) - 1).toNat).1 == (g i).1 && ((g ((↑i : Int) - 1).toNat).2.1 == (g i).2.1 && true) else false) = true)),
  ((bif bif decide ((↑i : Int) > 0) then (g ((↑i : Int) - 1).toNat).1 == (g i).1 && ((g ((↑i : Int) - 1).toNat).2.1 == (g i).2.1 && true) else false then true else (pl (g i).1.toNat).1 == (pl (g i).2.1.toNat).1 && ((pl (g i).1.toNat).2.1 == (pl (g i).2.1.toNat).2.1 && true)) = true),
  (false = false)] := by kernel_rfl
theorem yIe (g : Nat → T_Bar) (nb : Nat) (N : Int) (pl : Nat → T_Place) (np : Nat) (i : Nat) :
    pathOb Try.prog Try.f134 0 [.reg [oT], .dec false, .reg [oT]] [.code (cAt (bodyOf Try.f134) [1, 1, 1, 1, 0, 1, 0, 0]), .inLoop (cAt (bodyOf Try.f134) [1, 1, 1, 1, 0, 1, 0, 0]), .inBlock 2, .code (cAt (bodyOf Try.f134) [1, 1, 1, 1, 1])] (FI1 g nb N pl np i) [] 1 [] (.p (.bool true)) =
    some [((decide ((↑i : Int) < (↑nb : Int))) = false),
  (true = true)] := by kernel_rfl
theorem zI0 (g : Nat → T_Bar) (nb : Nat) (N : Int) (pl : Nat → T_Place) (np : Nat) (a : Bool) :
    pathOb Try.prog Try.f131 0 [.reg [oT, oT], .reg [oT, oT, ⟨true, (some ⟨[], [], [], 1, [], .p (.bool a)⟩), none⟩, oT, oT, oT, oT, oT, oT, oT, oT, oT, oT, oT, oT, oT, oT, oT, oT, oT, oT, oT, oT, oT, oT, oT], .dec true, .reg [oT]] [.code (bodyOf Try.f131)] (start Try.f131 [] 0 [frA g nb N pl np]) [] 1 [] (.p (.bool false)) =
    some [((0 : Nat) < 1),
  Con Try.prog 110 0 [] [.agg [.p (.int .i64 N), .p (.seq true 2 nb (fun i => [.int .i64 ((g i).1), .int .i64 ((g i).2.1)]))]] [] (.p (.bool a)),
  (AG (!!a)),
  (AG (!!a)),
  (((!!a) = true) → ((0 : Nat) < 1)),
  (AG (!!a)),
  (((!a) = false) → ((!!a) = true)),
  (AG (!bif !a then true else decide (N > 6))),
  (((!bif !a then true else decide (N > 6)) = true) → ((0 : Nat) < 1)),
  (AG (!bif !a then true else decide (N > 6))),
  (AG (!bif !a then true else decide (N > 6))),
  (AG (!bif !a then true else decide (N > 6))),
  (((!bif !a then true else decide (N > 6)) = true) → ((0 : Nat) < 1)),
  (AG (!bif !a then true else decide (N > 6))),
  (AG (!bif !a then true else decide (N > 6))),
  (((bif !a then true else decide (N > 6)) = false) → ((!bif !a then true else decide (N > 6)) = true)),
  (AG (!bif bif !a then true else decide (N > 6) then true else (↑np : Int) != N)),
  (AG (!bif bif !a then true else decide (N > 6) then true else (↑np : Int) != N)),
  (((!bif bif !a then true else decide (N > 6) then true else (↑np : Int) != N) = true) → ((0 : Nat) < 1)),
  (AG (!bif bif !a then true else decide (N > 6) then true else (↑np : Int) != N)),
  (AG (!bif bif !a then true else decide (N > 6) then true else (↑np : Int) != N)),
  (((bif bif !a then true else decide (N > 6) then true else (↑np : Int) != N) = false) → ((!bif bif !a then true else decide (N > 6) then true else (↑np : Int) != N) = true)),
  ((bif bif bif !a then true else decide (N > 6) then true else (↑np : Int) != N then true else decide ((↑nb : Int) > 15)) = true),
  (false = false)] := by kernel_rfl
theorem zIz (g : Nat → T_Bar) (nb : Nat) (N : Int) (pl : Nat → T_Place) (np : Nat) (a : Bool) :
    pieceOb Try.prog 0 [.reg [oT, oT], .reg [oT, oT, ⟨true, (some ⟨[], [], [], 1, [], .p (.bool a)⟩), none⟩, oT, oT, oT, oT, oT, oT, oT, oT, oT, oT, oT, oT, oT, oT, oT, oT, oT, oT, oT, oT, oT, oT, oT], .dec false, .reg [oT], .head] [.code (bodyOf Try.f131)] (start Try.f131 [] 0 [frA g nb N pl np]) [0] 1 (FJ0 g nb N pl np 0) =
    some ([.code (cAt (bodyOf Try.f131) [1, 1, 0, 1, 0, 0]), .inLoop (cAt (bodyOf Try.f131) [1, 1, 0, 1, 0, 0]), .inBlock 0, .code (cAt (bodyOf Try.f131) [1, 1, 1])], [((0 : Nat) < 1),
  Con Try.prog 110 0 [] [.agg [.p (.int .i64 N), .p (.seq true 2 nb (fun i => [.int .i64 ((g i).1), .int .i64 ((g i).2.1)]))]] [] (.p (.bool a)),
  (AG (!!a)),
  (AG (!!a)),
  (((!!a) = true) → ((0 : Nat) < 1)),
  (AG (!!a)),
  (((!a) = false) → ((!!a) = true)),
  (AG (!bif !a then true else decide (N > 6))),
  (((!bif !a then true else decide (N > 6)) = true) → ((0 : Nat) < 1)),
  (AG (!bif !a then true else decide (N > 6))),
  (AG (!bif !a then true else decide (N > 6))),
  (AG (!bif !a then true else decide (N > 6))),
  (((!bif !a then true else decide (N > 6)) = true) → ((0 : Nat) < 1)),
  (AG (!bif !a then true else decide (N > 6))),
  (AG (!bif !a then true else decide (N > 6))),
  (((bif !a then true else decide (N > 6)) = false) → ((!bif !a then true else decide (N > 6)) = true)),
  (AG (!bif bif !a then true else decide (N > 6) then true else (↑np : Int) != N)),
  (AG (!bif bif !a then true else decide (N > 6) then true else (↑np : Int) != N)),
  (((!bif bif !a then true else decide (N > 6) then true else (↑np : Int) != N) = true) → ((0 : Nat) < 1)),
  (AG (!bif bif !a then true else decide (N > 6) then true else (↑np : Int) != N)),
  (AG (!bif bif !a then true else decide (N > 6) then true else (↑np : Int) != N)),
  (((bif bif !a then true else decide (N > 6) then true else (↑np : Int) != N) = false) → ((!bif bif !a then true else decide (N > 6) then true else (↑np : Int) != N) = true)),
  ((bif bif bif !a then true else decide (N > 6) then true else (↑np : Int) != N then true else decide ((↑nb : Int) > 15)) = false),
  (AI N),
  (AN nb),
  (AP nb (fun i => [.int .i64 ((g i).1), .int .i64 ((g i).2.1)])),
  (AN np),
  (AP np (fun i => [.int .i64 ((pl i).1), .int .i64 ((pl i).2.1)])),
  (AN 0),
  ((0 : Int) = (↑0 : Int)),
  ((([AV.p (PV.int IntKind.i64 N), brL g nb, pcL pl np].length) : Nat) = 3),
  ((1 : Nat) ≤ 1),
  ((1 : Nat) ≤ 1),
  (AI N),
  (AN nb),
  (AP nb (fun i => [.int .i64 ((g i).1), .int .i64 ((g i).2.1)])),
  (AN np),
  (AP np (fun i => [.int .i64 ((pl i).1), .int .i64 ((pl i).2.1)]))]) := by kernel_rfl
theorem zIt (g : Nat → T_Bar) (nb : Nat) (N : Int) (pl : Nat → T_Place) (np : Nat) (i : Nat) (p q : Bool) :
    pieceOb Try.prog 0 [.reg [oT, oT, oT, oT, oT], .dec true, .reg [oT, oT, oT, oT, oT, oT, ⟨true, (some ⟨[], [], [], 1, [], .p (.bool p)⟩), none⟩, oT, oT, oT, oT, oT, oT, oT, oT, ⟨true, (some ⟨[], [], [], 1, [], .p (.bool q)⟩), none⟩, oT, oT], .dec false, .reg [oT, oT, oT], .head] [.code (cAt (bodyOf Try.f131) [1, 1, 0, 1, 0, 0]), .inLoop (cAt (bodyOf Try.f131) [1, 1, 0, 1, 0, 0]), .inBlock 0, .code (cAt (bodyOf Try.f131) [1, 1, 1])] (FJ0 g nb N pl np i) [0] 1 (FJ0 g nb N pl np (i + 1)) =
    some ([.code (cAt (bodyOf Try.f131) [1, 1, 0, 1, 0, 0]), .inLoop (cAt (bodyOf Try.f131) [1, 1, 0, 1, 0, 0]), .inBlock 0, .code (cAt (bodyOf Try.f131) [1, 1, 1])], [((0 : Nat) < 1),
  ((decide ((↑i : Int) < (↑np : Int))) = true),
  ((0 : Nat) < 1),
  ((0 : Int) ≤ (↑i : Int)),
  (((↑i : Int) : Int) < (↑np : Int)),
  Con Try.prog 37 0 [] [.p (.int .i64 ((pl i).1)), .p (.int .i64 0), .p (.int .i64 4)] [] (.p (.bool p)),
  (AG (!!p)),
  (((!!p) = true) → ((0 : Nat) < 1)),
  (AG (!!p)),
  (AG (!!p)),
  (((!!p) = true) → ((0 : Int) ≤ (↑i : Int))),
  (((!!p) = true) → (((↑i : Int) : Int) < (↑np : Int))),
  (AG (!!p)),
  (AG (!!p)),
  (AG (!!p)),
  (((!!p) = true) → Con Try.prog 37 0 [] [.p (.int .i64 ((pl i).2.1)), .p (.int .i64 0), .p (.int .i64 4)] [] (.p (.bool q))),
  (AG (!!p)),
  (((!p) = false) → ((!!p) = true)),
  ((bif !p then true else !q) = false),
  (((-9223372036854775808) : Int) ≤ ((↑i : Int) + 1)),
  ((((↑i : Int) + 1) : Int) ≤ 9223372036854775807),
  (AI N),
  (AN nb),
  (AP nb (fun i_1 => [.int .i64 ((g i_1).1), .int .i64 ((g i_1).2.1)])),
  (AN np),
  (AP np (fun i_1 => [.int .i64 ((pl i_1).1), .int .i64 ((pl i_1).2.1)])),
  (AN 0),
  ((((↑i : Int) + 1) : Int) = (↑(i + 1) : Int)),
  (AN 3),
  ((1 : Nat) ≤ 1),
  ((1 : Nat) ≤ 1),
  (AI N),
  (AN nb),
  (AP nb (fun i_1 => [.int .i64 ((g i_1).1), .int .i64 ((g i_1).2.1)])),
  (AN np),
  (AP np (fun i_1 => [.int .i64 ((pl i_1).1), .int .i64 ((pl i_1).2.1)]))]) := by kernel_rfl
theorem zIx (g : Nat → T_Bar) (nb : Nat) (N : Int) (pl : Nat → T_Place) (np : Nat) (i : Nat) (p q : Bool) :
    pathOb Try.prog Try.f131 0 [.reg [oT, oT, oT, oT, oT], .dec true, .reg [oT, oT, oT, oT, oT, oT, ⟨true, (some ⟨[], [], [], 1, [], .p (.bool p)⟩), none⟩, oT, oT, oT, oT, oT, oT, oT, oT, ⟨true, (some ⟨[], [], [], 1, [], .p (.bool q)⟩), none⟩, oT, oT], .dec true, .reg [oT]] [.code (cAt (bodyOf Try.f131) [1, 1, 0, 1, 0, 0]), .inLoop (cAt (bodyOf Try.f131) [1, 1, 0, 1, 0, 0]), .inBlock 0, .code (cAt (bodyOf Try.f131) [1, 1, 1])] (FJ0 g nb N pl np i) [] 1 [] (.p (.bool false)) =
    some [((0 : Nat) < 1),
  ((decide ((↑i : Int) < (↑np : Int))) = true),
  ((0 : Nat) < 1),
  ((0 : Int) ≤ (↑i : Int)),
  (((↑i : Int) : Int) < (↑np : Int)),
  Con Try.prog 37 0 [] [.p (.int .i64 ((pl i).1)), .p (.int .i64 0), .p (.int .i64 4)] [] (.p (.bool p)),
  (AG (!!p)),
  (((!!p) = true) → ((0 : Nat) < 1)),
  (AG (!!p)),
  (AG (!!p)),
  (((!!p) = true) → ((0 : Int) ≤ (↑i : Int))),
  (((!!p) = true) → (((↑i : Int) : Int) < (↑np : Int))),
  (AG (!!p)),
  (AG (!!p)),
  (AG (!!p)),
  (((!!p) = true) → Con Try.prog 37 0 [] [.p (.int .i64 ((pl i).2.1)), .p (.int .i64 0), .p (.int .i64 4)] [] (.p (.bool q))),
  (AG (!!p)),
  (((!p) = false) → ((!!p) = true)),
  ((bif !p then true else !q) = true),
  (false = false)] := by kernel_rfl
theorem zIn (g : Nat → T_Bar) (nb : Nat) (N : Int) (pl : Nat → T_Place) (np : Nat) (i : Nat) :
    pieceOb Try.prog 0 [.reg [oT, oT, oT, oT, oT], .dec false, .reg [oT], .head] [.code (cAt (bodyOf Try.f131) [1, 1, 0, 1, 0, 0]), .inLoop (cAt (bodyOf Try.f131) [1, 1, 0, 1, 0, 0]), .inBlock 0, .code (cAt (bodyOf Try.f131) [1, 1, 1])] (FJ0 g nb N pl np i) [0] 1 (FJ1 g nb N pl np 0) =
    some ([.code (cAt (bodyOf Try.f131) [1, 1, 1, 0, 1, 0, 0]), .inLoop (cAt (bodyOf Try.f131) [1, 1, 1, 0, 1, 0, 0]), .inBlock 2, .code (cAt (bodyOf Try.f131) [1, 1, 1, 1])], [((0 : Nat) < 1),
  ((decide ((↑i : Int) < (↑np : Int))) = false),
  (AI N),
  (AN nb),
  (AP nb (fun i_1 => [.int .i64 ((g i_1).1), .int .i64 ((g i_1).2.1)])),
  (AN np),
  (AP np (fun i_1 => [.int .i64 ((pl i_1).1), .int .i64 ((pl i_1).2.1)])),
  (AN 0),
  ((0 : Int) = (↑0 : Int)),
  (AN 3),
  ((1 : Nat) ≤ 1),
  ((1 : Nat) ≤ 1),
  (AI N),
  (AN nb),
  (AP nb (fun i_1 => [.int .i64 ((g i_1).1), .int .i64 ((g i_1).2.1)])),
  (AN np),
  (AP np (fun i_1 => [.int .i64 ((pl i_1).1), .int .i64 ((pl i_1).2.1)]))]) := by kernel_rfl
theorem zIb (g : Nat → T_Bar) (nb : Nat) (N : Int) (pl : Nat → T_Place) (np : Nat) (i : Nat) :
    pieceOb Try.prog 0 [.reg [oT, oT, oT, oT, oT, oT], .dec true, .reg [oT, oT, oT, oT, oT, oT, oT, oT], .reg [oT, oT, oT, oT, oT, oT, oT, oT, oT, oT, oT, oT, oT, oT, oT, oT, oT, oT, oT, oT, oT, oT, oT, oT, oT, oT, oT, oT], .dec false, .reg [oT, oT, oT], .head] [.code (cAt (bodyOf Try.f131) [1, 1, 1, 0, 1, 0, 0]), .inLoop (cAt (bodyOf Try.f131) [1, 1, 1, 0, 1, 0, 0]), .inBlock 2, .code (cAt (bodyOf Try.f131) [1, 1, 1, 1])] (FJ1 g nb N pl np i) [0] 1 (FJ1 g nb N pl np (i + 1)) =
    some ([.code (cAt (bodyOf Try.f131) [1, 1, 1, 0, 1, 0, 0]), .inLoop (cAt (bodyOf Try.f131) [1, 1, 1, 0, 1, 0, 0]), .inBlock 2, .code (cAt (bodyOf Try.f131) [1, 1, 1, 1])], [((0 : Nat) < 1),
  ((decide ((↑i : Int) < (↑nb : Int))) = true),
  ((0 : Nat) < 1),
  ((0 : Int) ≤ (↑i : Int)),
  (((↑i : Int) : Int) < (↑nb : Int)),
  ((0 : Nat) < 1),
  ((true = true) → (AN 1)),
  ((0 : Nat) < 1),
  ((0 : Nat) < 1),
  ((0 : Int) ≤ ((g i).1)),
  ((((g i).1) : Int) < (↑np : Int)),
  ((0 : Nat) < 1),
  ((0 : Nat) < 1),
  ((0 : Int) ≤ ((g i).2.1)),
  ((((g i).2.1) : Int) < (↑np : Int)),
  (AG (!((pl (g i).1.toNat).1 == (pl (g i).2.1.toNat).1 && ((pl (g i).1.toNat).2.1 == (pl (g i).2.1.toNat).2.1 && true)))),
  (AG (!((pl (g i).1.toNat).1 == (pl (g i).2.1.toNat).1 && ((pl (g i).1.toNat).2.1 == (pl (g i).2.1.toNat).2.1 && true)))),
  (AG (!((pl (g i).1.toNat).1 == (pl (g i).2.1.toNat).1 && ((pl (g i).1.toNat).2.1 == (pl (g i).2.1.toNat).2.1 && true)) && decide ((↑i : Int) > 0))),
  (AG (!((pl (g i).1.toNat).1 == (pl (g i).2.1.toNat).1 && ((pl (g i).1.toNat).2.1 == (pl (g i).2.1.toNat).2.1 && true)) && decide ((↑i : Int) > 0))),
  (((!((pl (g i).1.toNat).1 == (pl (g i).2.1.toNat).1 && ((pl (g i).1.toNat).2.1 == (pl (g i).2.1.toNat).2.1 && true)) && decide ((↑i : Int) > 0)) = true) → ((0 : Nat) < 1)),
  (AG (!((pl (g i).1.toNat).1 == (pl (g i).2.1.toNat).1 && ((pl (g i).1.toNat).2.1 == (pl (g i).2.1.toNat).2.1 && true)) && decide ((↑i : Int) > 0))),
  (((!((pl (g i).1.toNat).1 == (pl (g i).2.1.toNat).1 && ((pl (g i).1.toNat).2.1 == (pl (g i).2.1.toNat).2.1 && true)) && decide ((↑i : Int) > 0)) = true) → (((-9223372036854775808) : Int) ≤ ((↑i : Int) - 1))),
  (((!((pl (g i).1.toNat).1 == (pl (g i).2.1.toNat).1 && ((pl (g i).1.toNat).2.1 == (pl (g i).2.1.toNat).2.1 && true)) && decide ((↑i : Int) > 0)) = true) → ((((↑i : Int) - 1) : Int) ≤ 9223372036854775807)),
  (AG (!((pl (g i).1.toNat).1 == (pl (g i).2.1.toNat).1 && ((pl (g i).1.toNat).2.1 == (pl (g i).2.1.toNat).2.1 && true)) && decide ((↑i : Int) > 0))),
  (AG (!((pl (g i).1.toNat).1 == (pl (g i).2.1.toNat).1 && ((pl (g i).1.toNat).2.1 == (pl (g i).2.1.toNat).2.1 && true)) && decide ((↑i : Int) > 0))),
  (((!((pl (g i).1.toNat).1 == (pl (g i).2.1.toNat).1 && ((pl (g i).1.toNat).2.1 == (pl (g i).2.1.toNat).2.1 && true)) && decide ((↑i : Int) > 0)) = true) → ((0 : Int) ≤ ((↑i : Int) - 1))),
  (((!((pl (g i).1.toNat).1 == (pl (g i).2.1.toNat).1 && ((pl (g i).1.toNat).2.1 == (pl (g i).2.1.toNat).2.1 && true)) && decide ((↑i : Int) > 0)) = true) → ((((↑i : Int) - 1) : Int) < (↑nb : Int))),
  (AG (!((pl (g i).1.toNat).1 == (pl (g i).2.1.toNat).1 && ((pl (g i).1.toNat).2.1 == (pl (g i).2.1.toNat).2.1 && true)) && decide ((↑i : Int) > 0))),
  (((!((pl (g i).1.toNat).1 == (pl (g i).2.1.toNat).1 && ((pl (g i).1.toNat).2.1 == (pl (g i).2.1.toNat).2.1 && true)) && decide ((↑i : Int) > 0)) = true) → ((0 : Nat) < 1)),
  (AG (!((pl (g i).1.toNat).1 == (pl (g i).2.1.toNat).1 && ((pl (g i).1.toNat).2.1 == (pl (g i).2.1.toNat).2.1 && true)) && decide ((↑i : Int) > 0))),
  (AG (!((pl (g i).1.toNat).1 == (pl (g i).2.1.toNat).1 && ((pl (g i).1.toNat).2.1 == (pl (g i).2.1.toNat).2.1 && true)) && decide ((↑i : Int) > 0))),
  (AG (!((pl (g i).1.toNat).1 == (pl (g i).2.1.toNat).1 && ((pl (g i).1.toNat).2.1 == (pl (g i).2.1.toNat).2.1 && true)))),
  (((!((pl (g i).1.toNat).1 == (pl (g i).2.1.toNat).1 && ((pl (g i).1.toNat).2.1 == (pl (g i).2.1.toNat).2.1 && true))) = true) → (((decide ((↑i : Int) > 0)) = true) → ((!((pl (g i).1.toNat).1 == (pl (g i).2.1.toNat).1 && ((pl (g i).1.toNat).2.1 == (pl (g i).2.1.toNat).2.1 && true)) && decide ((↑i : Int) > 0)) = true))),
  ((((pl (g i).1.toNat).1 == (pl (g i).2.1.toNat).1 && ((pl (g i).1.toNat).2.1 == (pl (g i).2.1.toNat).2.1 && true)) = false) → ((!((pl (g i).1.toNat).1 == (pl (g i).2.1.toNat).1 && ((pl (g i).1.toNat).2.1 == (pl (g i).2.1.toNat).2.1 && true))) = true)),
  ((bif (pl (g i).1.toNat).1 == (pl (g i).2.1.toNat).1 && ((pl (g i).1.toNat).2.1 == (pl (g i).2.1.toNat).2.1 && true) then true else bif decide ((↑i : Int) > 0) then (g ((↑i : Int) - 1).toNat).1 == (g i).1 && ((g ((↑i : Int) - 1).toNat).2.1 == (g i).2.1 && true) else false) = false),
  (((-9223372036854775808) : Int) ≤ ((↑i : Int) + 1)),
  ((((↑i : Int) + 1) : Int) ≤ 9223372036854775807),
  (AI N),
  (AN nb),
  (AP nb (fun i_1 => [.int .i64 ((g i_1).1), .int .i64 ((g i_1).2.1)])),
  (AN np),
  (AP np (fun i_1 => [.int .i64 ((pl i_1).1), .int .i64 ((pl i_1).2.1)])),
  (AN 0),
  ((((↑i : Int) + 1) : Int) = (↑(i + 1) : Int)),
  (AN 3),
  ((1 : Nat) ≤ 1),
  ((1 : Nat) ≤ 1),
  (AI N),
  (AN nb),
  (AP nb (fun i_1 => [.int .i64 ((g i_1).1), .int .i64 ((g i_1).2.1)])),
  (AN np),
  (AP np (fun i_1 => [.int .i64 ((pl i_1).1), .int .i64 ((pl i_1).2.1)]))]) := by kernel_rfl
theorem zIy (g : Nat → T_Bar) (nb : Nat) (N : Int) (pl : Nat → T_Place) (np : Nat) (i : Nat) :
    pathOb Try.prog Try.f131 0 [.reg [oT, oT, oT, oT, oT, oT], .dec true, .reg [oT, oT, oT, oT, oT, oT, oT, oT], .reg [oT, oT, oT, oT, oT, oT, oT, oT, oT, oT, oT, oT, oT, oT, oT, oT, oT, oT, oT, oT, oT, oT, oT, oT, oT, oT, oT, oT], .dec true, .reg [oT]] [.code (cAt (bodyOf Try.f131) [1, 1, 1, 0, 1, 0, 0]), .inLoop (cAt (bodyOf Try.f131) [1, 1, 1, 0, 1, 0, 0]), .inBlock 2, .code (cAt (bodyOf Try.f131) [1, 1, 1, 1])] (FJ1 g nb N pl np i) [] 1 [] (.p (.bool false)) =
    some [((0 : Nat) < 1),
  ((decide ((↑i : Int) < (↑nb : Int))) = true),
  ((0 : Nat) < 1),
  ((0 : Int) ≤ (↑i : Int)),
  (((↑i : Int) : Int) < (↑nb : Int)),
  ((0 : Nat) < 1),
  ((true = true) → (AN 1)),
  ((0 : Nat) < 1),
  ((0 : Nat) < 1),
  ((0 : Int) ≤ ((g i).1)),
  ((((g i).1) : Int) < (↑np : Int)),
  ((0 : Nat) < 1),
  ((0 : Nat) < 1),
  ((0 : Int) ≤ ((g i).2.1)),
  ((((g i).2.1) : Int) < (↑np : Int)),
  (AG (!((pl (g i).1.toNat).1 == (pl (g i).2.1.toNat).1 && ((pl (g i).1.toNat).2.1 == (pl (g i).2.1.toNat).2.1 && true)))),
  (AG (!((pl (g i).1.toNat).1 == (pl (g i).2.1.toNat).1 && ((pl (g i).1.toNat).2.1 == (pl (g i).2.1.toNat).2.1 && true)))),
  (AG (!((pl (g i).1.toNat).1 == (pl (g i).2.1.toNat).1 && ((pl (g i).1.toNat).2.1 == (pl (g i).2.1.toNat).2.1 && true)) && decide ((↑i : Int) > 0))),
  (AG (!((pl (g i).1.toNat).1 == (pl (g i).2.1.toNat).1 && ((pl (g i).1.toNat).2.1 == (pl (g i).2.1.toNat).2.1 && true)) && decide ((↑i : Int) > 0))),
  (((!((pl (g i).1.toNat).1 == (pl (g i).2.1.toNat).1 && ((pl (g i).1.toNat).2.1 == (pl (g i).2.1.toNat).2.1 && true)) && decide ((↑i : Int) > 0)) = true) → ((0 : Nat) < 1)),
  (AG (!((pl (g i).1.toNat).1 == (pl (g i).2.1.toNat).1 && ((pl (g i).1.toNat).2.1 == (pl (g i).2.1.toNat).2.1 && true)) && decide ((↑i : Int) > 0))),
  (((!((pl (g i).1.toNat).1 == (pl (g i).2.1.toNat).1 && ((pl (g i).1.toNat).2.1 == (pl (g i).2.1.toNat).2.1 && true)) && decide ((↑i : Int) > 0)) = true) → (((-9223372036854775808) : Int) ≤ ((↑i : Int) - 1))),
  (((!((pl (g i).1.toNat).1 == (pl (g i).2.1.toNat).1 && ((pl (g i).1.toNat).2.1 == (pl (g i).2.1.toNat).2.1 && true)) && decide ((↑i : Int) > 0)) = true) → ((((↑i : Int) - 1) : Int) ≤ 9223372036854775807)),
  (AG (!((pl (g i).1.toNat).1 == (pl (g i).2.1.toNat).1 && ((pl (g i).1.toNat).2.1 == (pl (g i).2.1.toNat).2.1 && true)) && decide ((↑i : Int) > 0))),
  (AG (!((pl (g i).1.toNat).1 == (pl (g i).2.1.toNat).1 && ((pl (g i).1.toNat).2.1 == (pl (g i).2.1.toNat).2.1 && true)) && decide ((↑i : Int) > 0))),
  (((!((pl (g i).1.toNat).1 == (pl (g i).2.1.toNat).1 && ((pl (g i).1.toNat).2.1 == (pl (g i).2.1.toNat).2.1 && true)) && decide ((↑i : Int) > 0)) = true) → ((0 : Int) ≤ ((↑i : Int) - 1))),
  (((!((pl (g i).1.toNat).1 == (pl (g i).2.1.toNat).1 && ((pl (g i).1.toNat).2.1 == (pl (g i).2.1.toNat).2.1 && true)) && decide ((↑i : Int) > 0)) = true) → ((((↑i : Int) - 1) : Int) < (↑nb : Int))),
  (AG (!((pl (g i).1.toNat).1 == (pl (g i).2.1.toNat).1 && ((pl (g i).1.toNat).2.1 == (pl (g i).2.1.toNat).2.1 && true)) && decide ((↑i : Int) > 0))),
  (((!((pl (g i).1.toNat).1 == (pl (g i).2.1.toNat).1 && ((pl (g i).1.toNat).2.1 == (pl (g i).2.1.toNat).2.1 && true)) && decide ((↑i : Int) > 0)) = true) → ((0 : Nat) < 1)),
  (AG (!((pl (g i).1.toNat).1 == (pl (g i).2.1.toNat).1 && ((pl (g i).1.toNat).2.1 == (pl (g i).2.1.toNat).2.1 && true)) && decide ((↑i : Int) > 0))),
  (AG (!((pl (g i).1.toNat).1 == (pl (g i).2.1.toNat).1 && ((pl (g i).1.toNat).2.1 == (pl (g i).2.1.toNat).2.1 && true)) && decide ((↑i : Int) > 0))),
  (AG (!((pl (g i).1.toNat).1 == (pl (g i).2.1.toNat).1 && ((pl (g i).1.toNat).2.1 == (pl (g i).2.1.toNat).2.1 && true)))),
  (((!((pl (g i).1.toNat).1 == (pl (g i).2.1.toNat).1 && ((pl (g i).1.toNat).2.1 == (pl (g i).2.1.toNat).2.1 && true))) = true) → (((decide ((↑i : Int) > 0)) = true) → ((!((pl (g i).1.toNat).1 == (pl (g i).2.1.toNat).1 && ((pl (g i).1.toNat).2.1 == (pl (g i).2.1.toNat).2.1 && true)) && decide ((↑i : Int) > 0)) = true))),
  ((((pl (g i).1.toNat).1 == (pl (g i).2.1.toNat).1 && ((pl (g i).1.toNat).2.1 == (pl (g i).2.1.toNat).2.1 && true)) = false) → ((!((pl (g i).1.toNat).1 == (pl (g i).2.1.toNat).1 && ((pl (g i).1.toNat).2.1 == (pl (g i).2.1.toNat).2.1 && true))) = true)),
  ((bif (pl (g i).1.toNat).1 == (pl (g i).2.1.toNat).1 && ((pl (g i).1.toNat).2.1 == (pl (g i).2.1.toNat).2.1 && true) then true else bif decide ((↑i : Int) > 0) then (g ((↑i : Int) - 1).toNat).1 == (g i).1 && ((g ((↑i : Int) - 1).toNat).2.1 == (g i).2.1 && true) else false) = true),
  (false = false)] := by kernel_rfl
theorem zIe (g : Nat → T_Bar) (nb : Nat) (N : Int) (pl : Nat → T_Place) (np : Nat) (i : Nat) :
    pathOb Try.prog Try.f131 0 [.reg [oT, oT, oT, oT, oT, oT], .dec false, .reg [oT]] [.code (cAt (bodyOf Try.f131) [1, 1, 1, 0, 1, 0, 0]), .inLoop (cAt (bodyOf Try.f131) [1, 1, 1, 0, 1, 0, 0]), .inBlock 2, .code (cAt (bodyOf Try.f131) [1, 1, 1, 1])] (FJ1 g nb N pl np i) [] 1 [] (.p (.bool true)) =
    some [((0 : Nat) < 1),
  ((decide ((↑i : Int) < (↑nb : Int))) = false),
  (true = true)] := by kernel_rfl
theorem yTz (g : Nat → T_Bar) (nb : Nat) (N : Int) (pl : Nat → T_Place) (np : Nat) (w : T_IntS) :
    pieceOb Try.prog 0 [.reg [oT, oT], .reg [oT, oT, oT, oT], .head] [.code (bodyOf Try.f97)] (start Try.f97 [] 0 [tsA g nb N pl np w]) [0] 1 (FT0 g nb N pl np w 0) =
    some ([.code (cAt (bodyOf Try.f97) [1, 0, 1, 0, 0]), .inLoop (cAt (bodyOf Try.f97) [1, 0, 1, 0, 0]), .inBlock 0, .code (cAt (bodyOf Try.f97) [1, 1])], [((0 : Nat) < 1),
  (AI N),
  (AN nb),
  (AP nb (fun i => [.int .i64 ((g i).1), .int .i64 ((g i).2.1)])),
  (AN np),
  (AP np (fun i => [.int .i64 ((pl i).1), .int .i64 ((pl i).2.1)])),
  (AN w.1),
  (AP w.1 (fun i => [.int .i64 (w.2 i)])),
  (AN 0),
  (AN w.1),
  (AP w.1 (fun i => [.int .i64 (w.2 i)])),
  (AI ((↑w.1 : Int))),
  ((0 : Int) = (↑0 : Int)),
  ((([AV.p (PV.int IntKind.i64 N), brL g nb, pcL pl np, inL w].length) : Nat) = 4),
  ((1 : Nat) ≤ 1),
  ((1 : Nat) ≤ 1),
  (AI N),
  (AN nb),
  (AP nb (fun i => [.int .i64 ((g i).1), .int .i64 ((g i).2.1)])),
  (AN np),
  (AP np (fun i => [.int .i64 ((pl i).1), .int .i64 ((pl i).2.1)])),
  (AN w.1),
  (AP w.1 (fun i => [.int .i64 (w.2 i)]))]) := by kernel_rfl
theorem yTt (g : Nat → T_Bar) (nb : Nat) (N : Int) (pl : Nat → T_Place) (np : Nat) (w : T_IntS) (i : Nat) :
    pieceOb Try.prog 0 [.reg [oT], .dec true, .reg [oT, oT, oT], .reg [oT, ⟨true, (some ⟨[], [], [], 1, [], .p (.bool true)⟩), none⟩, oT], .dec false, .reg [oT, oT], .head] [.code (cAt (bodyOf Try.f97) [1, 0, 1, 0, 0]), .inLoop (cAt (bodyOf Try.f97) [1, 0, 1, 0, 0]), .inBlock 0, .code (cAt (bodyOf Try.f97) [1, 1])] (FT0 g nb N pl np w i) [0] 1 (FT0 g nb N pl np w (i + 1)) =
    some ([.code (cAt (bodyOf Try.f97) [1, 0, 1, 0, 0]), .inLoop (cAt (bodyOf Try.f97) [1, 0, 1, 0, 0]), .inBlock 0, .code (cAt (bodyOf Try.f97) [1, 1])], [((decide ((↑i : Int) < (↑w.1 : Int))) = true),
  ((0 : Int) ≤ (↑i : Int)),
  (((↑i : Int) : Int) < (↑w.1 : Int)),
  Con Try.prog 40 0 [] [.p (.int .i64 (w.2 i)), .p (.int .i64 0), .p (.int .i64 2)] [] (.p (.bool true)),
  ((!true) = false),
  (((-9223372036854775808) : Int) ≤ ((↑i : Int) + 1)),
  ((((↑i : Int) + 1) : Int) ≤ 9223372036854775807),
  (AI N),
  (AN nb),
  (AP nb (fun i_1 => [.int .i64 ((g i_1).1), .int .i64 ((g i_1).2.1)])),
  (AN np),
  (AP np (fun i_1 => [.int .i64 ((pl i_1).1), .int .i64 ((pl i_1).2.1)])),
  (AN w.1),
  (AP w.1 (fun i_1 => [.int .i64 (w.2 i_1)])),
  (AN 0),
  (AN w.1),
  (AP w.1 (fun i_1 => [.int .i64 (w.2 i_1)])),
  (AI ((↑w.1 : Int))),
  ((((↑i : Int) + 1) : Int) = (↑(i + 1) : Int)),
  (AN 4),
  ((1 : Nat) ≤ 1),
  ((1 : Nat) ≤ 1),
  (AI N),
  (AN nb),
  (AP nb (fun i_1 => [.int .i64 ((g i_1).1), .int .i64 ((g i_1).2.1)])),
  (AN np),
  (AP np (fun i_1 => [.int .i64 ((pl i_1).1), .int .i64 ((pl i_1).2.1)])),
  (AN w.1),
  (AP w.1 (fun i_1 => [.int .i64 (w.2 i_1)]))]) := by kernel_rfl
theorem yTx (g : Nat → T_Bar) (nb : Nat) (N : Int) (pl : Nat → T_Place) (np : Nat) (w : T_IntS) (i : Nat) :
    pathOb Try.prog Try.f97 0 [.reg [oT], .dec true, .reg [oT, oT, oT], .reg [oT, ⟨true, (some ⟨[], [], [], 1, [], .p (.bool false)⟩), none⟩, oT], .dec true, .reg [oT]] [.code (cAt (bodyOf Try.f97) [1, 0, 1, 0, 0]), .inLoop (cAt (bodyOf Try.f97) [1, 0, 1, 0, 0]), .inBlock 0, .code (cAt (bodyOf Try.f97) [1, 1])] (FT0 g nb N pl np w i) [] 1 [] (.p (.bool false)) =
    some [((decide ((↑i : Int) < (↑w.1 : Int))) = true),
  ((0 : Int) ≤ (↑i : Int)),
  (((↑i : Int) : Int) < (↑w.1 : Int)),
  Con Try.prog 40 0 [] [.p (.int .i64 (w.2 i)), .p (.int .i64 0), .p (.int .i64 2)] [] (.p (.bool false)),
  ((!false) = true),
  (false = false)] := by kernel_rfl
theorem yTe (g : Nat → T_Bar) (nb : Nat) (N : Int) (pl : Nat → T_Place) (np : Nat) (w : T_IntS) (i : Nat) (a : Bool) :
    pathOb Try.prog Try.f97 0 [.reg [oT], .dec false, .reg [oT, oT, ⟨true, (some ⟨[], [], [], 1, [], .p (.bool a)⟩), none⟩, oT, oT, oT, oT, oT, oT, oT, oT, oT, oT, oT, oT]] [.code (cAt (bodyOf Try.f97) [1, 0, 1, 0, 0]), .inLoop (cAt (bodyOf Try.f97) [1, 0, 1, 0, 0]), .inBlock 0, .code (cAt (bodyOf Try.f97) [1, 1])] (FT0 g nb N pl np w i) [] 1 [] (.p (.bool (bif a then (w.1 : Int) == (nb : Int) else false))) =
    some [((decide ((↑i : Int) < (↑w.1 : Int))) = false),
  ((0 : Nat) < 1),
  Con Try.prog 134 0 [] [.agg [.p (.int .i64 N), .p (.seq true 2 nb (fun i_1 => [.int .i64 ((g i_1).1), .int .i64 ((g i_1).2.1)])), .p (.seq true 2 np (fun i_1 => [.int .i64 ((pl i_1).1), .int .i64 ((pl i_1).2.1)]))]] [] (.p (.bool a)),
  (AG a),
  ((a = true) → ((0 : Nat) < 1)),
  (AG a),
  (AG a),
  (AG a),
  (AG a),
  ((a = true) → ((0 : Nat) < 1)),
  (AG a),
  (AG a),
  (AG a),
  (AG a),
  ((bif a then (↑w.1 : Int) == (↑nb : Int) else false) = (bif a then (↑w.1 : Int) == (↑nb : Int) else false))] := by kernel_rfl
theorem zTz (g : Nat → T_Bar) (nb : Nat) (N : Int) (pl : Nat → T_Place) (np : Nat) (w : T_IntS) :
    pieceOb Try.prog 0 [.reg [oT, oT], .reg [oT], .head] [.code (bodyOf Try.f88)] (start Try.f88 [] 0 [tsA g nb N pl np w]) [0] 1 (FU0 g nb N pl np w 0) =
    some ([.code (cAt (bodyOf Try.f88) [1, 0, 1, 0, 0]), .inLoop (cAt (bodyOf Try.f88) [1, 0, 1, 0, 0]), .inBlock 0, .code (cAt (bodyOf Try.f88) [1, 1])], [(AI N),
  (AN nb),
  (AP nb (fun i => [.int .i64 ((g i).1), .int .i64 ((g i).2.1)])),
  (AN np),
  (AP np (fun i => [.int .i64 ((pl i).1), .int .i64 ((pl i).2.1)])),
  (AN w.1),
  (AP w.1 (fun i => [.int .i64 (w.2 i)])),
  (AN 0),
  ((0 : Int) = (↑0 : Int)),
  ((([AV.p (PV.int IntKind.i64 N), brL g nb, pcL pl np, inL w].length) : Nat) = 4),
  ((1 : Nat) ≤ 1),
  ((1 : Nat) ≤ 1),
  (AI N),
  (AN nb),
  (AP nb (fun i => [.int .i64 ((g i).1), .int .i64 ((g i).2.1)])),
  (AN np),
  (AP np (fun i => [.int .i64 ((pl i).1), .int .i64 ((pl i).2.1)])),
  (AN w.1),
  (AP w.1 (fun i => [.int .i64 (w.2 i)]))]) := by kernel_rfl
theorem zTt (g : Nat → T_Bar) (nb : Nat) (N : Int) (pl : Nat → T_Place) (np : Nat) (w : T_IntS) (i : Nat) :
    pieceOb Try.prog 0 [.reg [oT, oT, oT, oT, oT], .dec true, .reg [oT, oT, oT, oT, oT, ⟨true, (some ⟨[], [], [], 1, [], .p (.bool true)⟩), none⟩, oT], .dec false, .reg [oT, oT, oT], .head] [.code (cAt (bodyOf Try.f88) [1, 0, 1, 0, 0]), .inLoop (cAt (bodyOf Try.f88) [1, 0, 1, 0, 0]), .inBlock 0, .code (cAt (bodyOf Try.f88) [1, 1])] (FU0 g nb N pl np w i) [0] 1 (FU0 g nb N pl np w (i + 1)) =
    some ([.code (cAt (bodyOf Try.f88) [1, 0, 1, 0, 0]), .inLoop (cAt (bodyOf Try.f88) [1, 0, 1, 0, 0]), .inBlock 0, .code (cAt (bodyOf Try.f88) [1, 1])], [((0 : Nat) < 1),
  ((decide ((↑i : Int) < (↑w.1 : Int))) = true),
  ((0 : Nat) < 1),
  ((0 : Int) ≤ (↑i : Int)),
  (((↑i : Int) : Int) < (↑w.1 : Int)),
  Con Try.prog 37 0 [] [.p (.int .i64 (w.2 i)), .p (.int .i64 0), .p (.int .i64 2)] [] (.p (.bool true)),
  ((!true) = false),
  (((-9223372036854775808) : Int) ≤ ((↑i : Int) + 1)),
  ((((↑i : Int) + 1) : Int) ≤ 9223372036854775807),
  (AI N),
  (AN nb),
  (AP nb (fun i_1 => [.int .i64 ((g i_1).1), .int .i64 ((g i_1).2.1)])),
  (AN np),
  (AP np (fun i_1 => [.int .i64 ((pl i_1).1), .int .i64 ((pl i_1).2.1)])),
  (AN w.1),
  (AP w.1 (fun i_1 => [.int .i64 (w.2 i_1)])),
  (AN 0),
  ((((↑i : Int) + 1) : Int) = (↑(i + 1) : Int)),
  (AN 4),
  ((1 : Nat) ≤ 1),
  ((1 : Nat) ≤ 1),
  (AI N),
  (AN nb),
  (AP nb (fun i_1 => [.int .i64 ((g i_1).1), .int .i64 ((g i_1).2.1)])),
  (AN np),
  (AP np (fun i_1 => [.int .i64 ((pl i_1).1), .int .i64 ((pl i_1).2.1)])),
  (AN w.1),
  (AP w.1 (fun i_1 => [.int .i64 (w.2 i_1)]))]) := by kernel_rfl
theorem zTx (g : Nat → T_Bar) (nb : Nat) (N : Int) (pl : Nat → T_Place) (np : Nat) (w : T_IntS) (i : Nat) :
    pathOb Try.prog Try.f88 0 [.reg [oT, oT, oT, oT, oT], .dec true, .reg [oT, oT, oT, oT, oT, ⟨true, (some ⟨[], [], [], 1, [], .p (.bool false)⟩), none⟩, oT], .dec true, .reg [oT]] [.code (cAt (bodyOf Try.f88) [1, 0, 1, 0, 0]), .inLoop (cAt (bodyOf Try.f88) [1, 0, 1, 0, 0]), .inBlock 0, .code (cAt (bodyOf Try.f88) [1, 1])] (FU0 g nb N pl np w i) [] 1 [] (.p (.bool false)) =
    some [((0 : Nat) < 1),
  ((decide ((↑i : Int) < (↑w.1 : Int))) = true),
  ((0 : Nat) < 1),
  ((0 : Int) ≤ (↑i : Int)),
  (((↑i : Int) : Int) < (↑w.1 : Int)),
  Con Try.prog 37 0 [] [.p (.int .i64 (w.2 i)), .p (.int .i64 0), .p (.int .i64 2)] [] (.p (.bool false)),
  ((!false) = true),
  (false = false)] := by kernel_rfl
theorem zTe (g : Nat → T_Bar) (nb : Nat) (N : Int) (pl : Nat → T_Place) (np : Nat) (w : T_IntS) (i : Nat) (a : Bool) :
    pathOb Try.prog Try.f88 0 [.reg [oT, oT, oT, oT, oT], .dec false, .reg [oT, oT, ⟨true, (some ⟨[], [], [], 1, [], .p (.bool a)⟩), none⟩, oT, oT, oT, oT, oT, oT, oT, oT, oT, oT, oT, oT]] [.code (cAt (bodyOf Try.f88) [1, 0, 1, 0, 0]), .inLoop (cAt (bodyOf Try.f88) [1, 0, 1, 0, 0]), .inBlock 0, .code (cAt (bodyOf Try.f88) [1, 1])] (FU0 g nb N pl np w i) [] 1 [] (.p (.bool (bif a then (w.1 : Int) == (nb : Int) else false))) =
    some [((0 : Nat) < 1),
  ((decide ((↑i : Int) < (↑w.1 : Int))) = false),
  ((0 : Nat) < 1),
  Con Try.prog 131 0 [] [.agg [.p (.int .i64 N), .p (.seq true 2 nb (fun i_1 => [.int .i64 ((g i_1).1), .int .i64 ((g i_1).2.1)])), .p (.seq true 2 np (fun i_1 => [.int .i64 ((pl i_1).1), .int .i64 ((pl i_1).2.1)]))]] [] (.p (.bool a)),
  (AG a),
  ((a = true) → ((0 : Nat) < 1)),
  (AG a),
  (AG a),
  (AG a),
  (AG a),
  ((a = true) → ((0 : Nat) < 1)),
  (AG a),
  (AG a),
  (AG a),
  (AG a),
  ((bif a then (↑w.1 : Int) == (↑nb : Int) else false) = (bif a then (↑w.1 : Int) == (↑nb : Int) else false))] := by kernel_rfl
theorem yKz (w : T_IntS) :
    pieceOb Try.prog 0 [.reg [oT], .reg [oT], .reg [oT, oT, oT], .head] [.code (bodyOf Try.f99)] (start Try.f99 [] 0 [inL w]) [] 1 (FKi w 0 sE) =
    some ([.code (cAt (bodyOf Try.f99) [1, 1, 0, 1, 0, 0]), .inLoop (cAt (bodyOf Try.f99) [1, 1, 0, 1, 0, 0]), .inBlock 0, .code (cAt (bodyOf Try.f99) [1, 1, 1])], [(AN w.1),
  (AP w.1 (fun i => [.int .i64 (w.2 i)])),
  (ByteArray.mk #[] = sE),
  (AN w.1),
  (AP w.1 (fun i => [.int .i64 (w.2 i)])),
  (AI ((↑w.1 : Int))),
  ((0 : Int) = (↑0 : Int))]) := by kernel_rfl
theorem yKt (w : T_IntS) (i : Nat) (s : ByteArray) :
    pieceOb Try.prog 0 [.reg [oT], .dec true, .reg [oT, oT, oT], .reg [oT, oT, oT, oT, oT, oT, oT], .reg [oT, oT], .head] [.code (cAt (bodyOf Try.f99) [1, 1, 0, 1, 0, 0]), .inLoop (cAt (bodyOf Try.f99) [1, 1, 0, 1, 0, 0]), .inBlock 0, .code (cAt (bodyOf Try.f99) [1, 1, 1])] (FKi w i s) [] 1 (FKi w (i + 1) (s ++ (ByteArray.mk #[98, 99, 115]).extract (w.2 i).toNat (w.2 i + 1).toNat)) =
    some ([.code (cAt (bodyOf Try.f99) [1, 1, 0, 1, 0, 0]), .inLoop (cAt (bodyOf Try.f99) [1, 1, 0, 1, 0, 0]), .inBlock 0, .code (cAt (bodyOf Try.f99) [1, 1, 1])], [((decide ((↑i : Int) < (↑w.1 : Int))) = true),
  ((0 : Int) ≤ (↑i : Int)),
  (((↑i : Int) : Int) < (↑w.1 : Int)),
  (((-9223372036854775808) : Int) ≤ (w.2 i + 1)),
  (((w.2 i + 1) : Int) ≤ 9223372036854775807),
  ((0 : Int) ≤ (w.2 i)),
  (((w.2 i) : Int) ≤ (w.2 i + 1)),
  (((w.2 i + 1) : Int) ≤ (↑(ByteArray.mk #[98, 99, 115]).size : Int)),
  (((s.size + ((ByteArray.mk #[98, 99, 115]).extract (w.2 i).toNat (w.2 i + 1).toNat).size) : Nat) ≤ 9223372036854775807),
  (((-9223372036854775808) : Int) ≤ ((↑i : Int) + 1)),
  ((((↑i : Int) + 1) : Int) ≤ 9223372036854775807),
  (AN w.1),
  (AP w.1 (fun i_1 => [.int .i64 (w.2 i_1)])),
  (s ++ (ByteArray.mk #[98, 99, 115]).extract (w.2 i).toNat (w.2 i + 1).toNat = s ++ (ByteArray.mk #[98, 99, 115]).extract (w.2 i).toNat (w.2 i + 1).toNat),
  (AN w.1),
  (AP w.1 (fun i_1 => [.int .i64 (w.2 i_1)])),
  (AI ((↑w.1 : Int))),
  ((((↑i : Int) + 1) : Int) = (↑(i + 1) : Int))]) := by kernel_rfl
theorem yKn (w : T_IntS) (i : Nat) (s : ByteArray) :
    pathOb Try.prog Try.f99 0 [.reg [oT], .dec false, .reg [oT, oT], .dec true, .reg [oT]] [.code (cAt (bodyOf Try.f99) [1, 1, 0, 1, 0, 0]), .inLoop (cAt (bodyOf Try.f99) [1, 1, 0, 1, 0, 0]), .inBlock 0, .code (cAt (bodyOf Try.f99) [1, 1, 1])] (FKi w i s) [] 1 [] (.p (.str sNone)) =
    some [((decide ((↑i : Int) < (↑w.1 : Int))) = false),
  ((s.toList == (ByteArray.mk #[]).toList) = true),
  (ByteArray.mk #[110, 111, 110, 101] = sNone)] := by kernel_rfl
theorem yKe (w : T_IntS) (i : Nat) (s : ByteArray) :
    pathOb Try.prog Try.f99 0 [.reg [oT], .dec false, .reg [oT, oT], .dec false, .reg [oT, oT]] [.code (cAt (bodyOf Try.f99) [1, 1, 0, 1, 0, 0]), .inLoop (cAt (bodyOf Try.f99) [1, 1, 0, 1, 0, 0]), .inBlock 0, .code (cAt (bodyOf Try.f99) [1, 1, 1])] (FKi w i s) [] 1 [] (.p (.str s)) =
    some [((decide ((↑i : Int) < (↑w.1 : Int))) = false),
  ((s.toList == (ByteArray.mk #[]).toList) = false),
  (s = s)] := by kernel_rfl
theorem zKz (w : T_IntS) :
    pieceOb Try.prog 0 [.reg [oT], .reg [oT], .reg [oT], .head] [.code (bodyOf Try.f89)] (start Try.f89 [] 0 [inL w]) [] 1 (FKs w 0 sE) =
    some ([.code (cAt (bodyOf Try.f89) [1, 1, 0, 1, 0, 0]), .inLoop (cAt (bodyOf Try.f89) [1, 1, 0, 1, 0, 0]), .inBlock 0, .code (cAt (bodyOf Try.f89) [1, 1, 1])], [(AN w.1),
  (AP w.1 (fun i => [.int .i64 (w.2 i)])),
  (ByteArray.mk #[] = sE),
  ((0 : Int) = (↑0 : Int))]) := by kernel_rfl
theorem zKa (w : T_IntS) (i : Nat) (s : ByteArray) :
    pieceOb Try.prog 0 [.reg [oT, oT, oT, oT], .dec true, .reg [oT, oT, oT, oT], .reg [oT, oT], .dec true, .reg [oT, oT, oT], .reg [oT, oT, oT], .head] [.code (cAt (bodyOf Try.f89) [1, 1, 0, 1, 0, 0]), .inLoop (cAt (bodyOf Try.f89) [1, 1, 0, 1, 0, 0]), .inBlock 0, .code (cAt (bodyOf Try.f89) [1, 1, 1])] (FKs w i s) [] 1 (FKs w (i + 1) (s ++ (ByteArray.mk #[98]))) =
    some ([.code (cAt (bodyOf Try.f89) [1, 1, 0, 1, 0, 0]), .inLoop (cAt (bodyOf Try.f89) [1, 1, 0, 1, 0, 0]), .inBlock 0, .code (cAt (bodyOf Try.f89) [1, 1, 1])], [((decide ((↑i : Int) < (↑w.1 : Int))) = true),
  ((0 : Int) ≤ (↑i : Int)),
  (((↑i : Int) : Int) < (↑w.1 : Int)),
  ((w.2 i == 0) = true),
  (((s.size + (ByteArray.mk #[98]).size) : Nat) ≤ 9223372036854775807),
  (((-9223372036854775808) : Int) ≤ ((↑i : Int) + 1)),
  ((((↑i : Int) + 1) : Int) ≤ 9223372036854775807),
  (AN w.1),
  (AP w.1 (fun i_1 => [.int .i64 (w.2 i_1)])),
  (s ++ ByteArray.mk #[98] = s ++ ByteArray.mk #[98]),
  ((((↑i : Int) + 1) : Int) = (↑(i + 1) : Int))]) := by kernel_rfl
theorem zKb (w : T_IntS) (i : Nat) (s : ByteArray) :
    pieceOb Try.prog 0 [.reg [oT, oT, oT, oT], .dec true, .reg [oT, oT, oT, oT], .reg [oT, oT], .dec false, .reg [oT, oT], .dec true, .reg [oT, oT, oT], .reg [oT, oT, oT], .head] [.code (cAt (bodyOf Try.f89) [1, 1, 0, 1, 0, 0]), .inLoop (cAt (bodyOf Try.f89) [1, 1, 0, 1, 0, 0]), .inBlock 0, .code (cAt (bodyOf Try.f89) [1, 1, 1])] (FKs w i s) [] 1 (FKs w (i + 1) (s ++ (ByteArray.mk #[99]))) =
    some ([.code (cAt (bodyOf Try.f89) [1, 1, 0, 1, 0, 0]), .inLoop (cAt (bodyOf Try.f89) [1, 1, 0, 1, 0, 0]), .inBlock 0, .code (cAt (bodyOf Try.f89) [1, 1, 1])], [((decide ((↑i : Int) < (↑w.1 : Int))) = true),
  ((0 : Int) ≤ (↑i : Int)),
  (((↑i : Int) : Int) < (↑w.1 : Int)),
  ((w.2 i == 0) = false),
  ((w.2 i == 1) = true),
  (((s.size + (ByteArray.mk #[99]).size) : Nat) ≤ 9223372036854775807),
  (((-9223372036854775808) : Int) ≤ ((↑i : Int) + 1)),
  ((((↑i : Int) + 1) : Int) ≤ 9223372036854775807),
  (AN w.1),
  (AP w.1 (fun i_1 => [.int .i64 (w.2 i_1)])),
  (s ++ ByteArray.mk #[99] = s ++ ByteArray.mk #[99]),
  ((((↑i : Int) + 1) : Int) = (↑(i + 1) : Int))]) := by kernel_rfl
theorem zKc (w : T_IntS) (i : Nat) (s : ByteArray) :
    pieceOb Try.prog 0 [.reg [oT, oT, oT, oT], .dec true, .reg [oT, oT, oT, oT], .reg [oT, oT], .dec false, .reg [oT, oT], .dec false, .reg [oT, oT, oT], .reg [oT, oT, oT], .head] [.code (cAt (bodyOf Try.f89) [1, 1, 0, 1, 0, 0]), .inLoop (cAt (bodyOf Try.f89) [1, 1, 0, 1, 0, 0]), .inBlock 0, .code (cAt (bodyOf Try.f89) [1, 1, 1])] (FKs w i s) [] 1 (FKs w (i + 1) (s ++ (ByteArray.mk #[115]))) =
    some ([.code (cAt (bodyOf Try.f89) [1, 1, 0, 1, 0, 0]), .inLoop (cAt (bodyOf Try.f89) [1, 1, 0, 1, 0, 0]), .inBlock 0, .code (cAt (bodyOf Try.f89) [1, 1, 1])], [((decide ((↑i : Int) < (↑w.1 : Int))) = true),
  ((0 : Int) ≤ (↑i : Int)),
  (((↑i : Int) : Int) < (↑w.1 : Int)),
  ((w.2 i == 0) = false),
  ((w.2 i == 1) = false),
  (((s.size + (ByteArray.mk #[115]).size) : Nat) ≤ 9223372036854775807),
  (((-9223372036854775808) : Int) ≤ ((↑i : Int) + 1)),
  ((((↑i : Int) + 1) : Int) ≤ 9223372036854775807),
  (AN w.1),
  (AP w.1 (fun i_1 => [.int .i64 (w.2 i_1)])),
  (s ++ ByteArray.mk #[115] = s ++ ByteArray.mk #[115]),
  ((((↑i : Int) + 1) : Int) = (↑(i + 1) : Int))]) := by kernel_rfl
theorem zKn (w : T_IntS) (i : Nat) (s : ByteArray) :
    pathOb Try.prog Try.f89 0 [.reg [oT, oT, oT, oT], .dec false, .reg [oT, oT], .dec true, .reg [oT]] [.code (cAt (bodyOf Try.f89) [1, 1, 0, 1, 0, 0]), .inLoop (cAt (bodyOf Try.f89) [1, 1, 0, 1, 0, 0]), .inBlock 0, .code (cAt (bodyOf Try.f89) [1, 1, 1])] (FKs w i s) [] 1 [] (.p (.str sNone)) =
    some [((decide ((↑i : Int) < (↑w.1 : Int))) = false),
  ((s.toList == (ByteArray.mk #[]).toList) = true),
  (ByteArray.mk #[110, 111, 110, 101] = sNone)] := by kernel_rfl
theorem zKe (w : T_IntS) (i : Nat) (s : ByteArray) :
    pathOb Try.prog Try.f89 0 [.reg [oT, oT, oT, oT], .dec false, .reg [oT, oT], .dec false, .reg [oT, oT]] [.code (cAt (bodyOf Try.f89) [1, 1, 0, 1, 0, 0]), .inLoop (cAt (bodyOf Try.f89) [1, 1, 0, 1, 0, 0]), .inBlock 0, .code (cAt (bodyOf Try.f89) [1, 1, 1])] (FKs w i s) [] 1 [] (.p (.str s)) =
    some [((decide ((↑i : Int) < (↑w.1 : Int))) = false),
  ((s.toList == (ByteArray.mk #[]).toList) = false),
  (s = s)] := by kernel_rfl
end Go.Proofs.Ytffnfeefjdmifaa.Mach
namespace Go.Proofs.Ytffnfeefjdmifaa.Mach
open Go
set_option linter.unusedVariables false
set_option linter.unusedSimpArgs false
def sKin : ByteArray := ⟨#[32, 107, 105, 110, 100, 115, 32]⟩
def sBy : ByteArray := ⟨#[32, 98, 121, 32]⟩
def sAnd : ByteArray := ⟨#[32, 97, 110, 100, 32]⟩
def sQ : ByteArray := ⟨#[63]⟩
def stL (v : T_StepS) : AV := .p (.seq true 5 v.1 (fun i => [.int .i64 (v.2 i).1, .int .i64 (v.2 i).2.1, .int .i64 (v.2 i).2.2.1, .int .i64 (v.2 i).2.2.2.1, .int .i64 (v.2 i).2.2.2.2.1]))
def clA (K : Int) (g1 : Nat → T_Bar) (nb1 : Nat) (N1 : Int) (g : Nat → T_Bar) (nb : Nat) (N : Int) (pl : Nat → T_Place) (np : Nat) (w : T_IntS) (v : T_StepS) (u : T_IntS) : AV :=
  .agg [.p (.int .i64 K), .p (.int .i64 N1), brL g1 nb1, .p (.int .i64 N), brL g nb, pcL pl np, inL w, stL v, inL u]
def FSi (v : T_StepS) (i : Nat) (f : Nat → ByteArray) : St :=
  ⟨[stL v, .p .any, .p .any, .ar 1 0 0 i] ++ List.replicate 10 anyA ++ [stL v, .p (.int .i64 v.1), .p (.int .i64 i)] ++ List.replicate 59 anyA, [(0, stOb i f)], 1⟩
def FSs (v : T_StepS) (i : Nat) (s : ByteArray) : St :=
  ⟨[stL v, .p .any, .p .any, .p (.str s), .p (.int .i64 i)] ++ List.replicate 73 anyA, [], 0⟩
def wd_rigid : ByteArray := ⟨#[114, 105, 103, 105, 100]⟩
def wd_flexible : ByteArray := ⟨#[102, 108, 101, 120, 105, 98, 108, 101]⟩
def wd_dependent : ByteArray := ⟨#[100, 101, 112, 101, 110, 100, 101, 110, 116]⟩
def wd_stiff : ByteArray := ⟨#[115, 116, 105, 102, 102]⟩
def wd_loose : ByteArray := ⟨#[108, 111, 111, 115, 101]⟩
def wd_tight : ByteArray := ⟨#[116, 105, 103, 104, 116]⟩
theorem ySn (v : T_StepS) :
    pathOb Try.prog Try.f103 0 [.reg [oT], .reg [oT, oT, oT], .dec true, .reg [oT]] [.code (bodyOf Try.f103)] (start Try.f103 [] 0 [stL v]) [] 1 [] (.p (.str sNone)) =
    some [(((↑v.1 : Int) == 0) = true),
  (ByteArray.mk #[110, 111, 110, 101] = sNone)] := by kernel_rfl
theorem ySz (v : T_StepS) (f : Nat → ByteArray) :
    pieceOb Try.prog 0 [.reg [oT], .reg [oT, oT, oT], .dec false, .reg [oT, oT], .reg [oT, oT, oT], .head] [.code (bodyOf Try.f103)] (start Try.f103 [] 0 [stL v]) [128] 1 (FSi v 0 f) =
    some ([.code (cAt (bodyOf Try.f103) [1, 1, 1, 0, 1, 0, 0]), .inLoop (cAt (bodyOf Try.f103) [1, 1, 1, 0, 1, 0, 0]), .inBlock 0, .code (cAt (bodyOf Try.f103) [1, 1, 1, 1])], [(((↑v.1 : Int) == 0) = false),
  (AN v.1),
  (AP v.1 (fun i => [.int .i64 ((v.2 i).1), .int .i64 ((v.2 i).2.1), .int .i64 ((v.2 i).2.2.1), .int .i64 ((v.2 i).2.2.2.1), .int .i64 ((v.2 i).2.2.2.2.1)])),
  (AN 0),
  (AN 0),
  (AN v.1),
  (AP v.1 (fun i => [.int .i64 ((v.2 i).1), .int .i64 ((v.2 i).2.1), .int .i64 ((v.2 i).2.2.1), .int .i64 ((v.2 i).2.2.2.1), .int .i64 ((v.2 i).2.2.2.2.1)])),
  (AI ((↑v.1 : Int))),
  ((0 : Int) = (↑0 : Int)),
  (AN 1),
  ((0 : Nat) ≤ 0),
  (∀ i : Nat, (((i : Nat) < 0) → (All [] ∧ (([.p .any] : List AV) = [.p (.str (f i))]))))]) := by kernel_rfl
theorem ySa (v : T_StepS) (i : Nat) (f : Nat → ByteArray) (p a b c : ByteArray) :
    pieceOb Try.prog 0 [.reg [oT], .dec true, .reg [oT, oT, oT, oT], .reg [oT, oT, ⟨true, (some ⟨[], [], [], 1, [], .p (.str p)⟩), none⟩, oT, oT, ⟨true, (some ⟨[], [], [], 1, [], .p (.str a)⟩), none⟩, oT, oT, ⟨true, (some ⟨[], [], [], 1, [], .p (.str b)⟩), none⟩, oT, oT, ⟨true, (some ⟨[], [], [], 1, [], .p (.str c)⟩), none⟩, oT, oT, oT, oT], .reg [oT, oT], .reg [oT, oT], .dec true, .reg [oT, oT, oT, oT, oT, oT, oT, oT], .reg [oT, oT], .head] [.code (cAt (bodyOf Try.f103) [1, 1, 1, 0, 1, 0, 0]), .inLoop (cAt (bodyOf Try.f103) [1, 1, 1, 0, 1, 0, 0]), .inBlock 0, .code (cAt (bodyOf Try.f103) [1, 1, 1, 1])] (FSi v i f) [993] 1 (FSi v (i + 1) f) =
    some ([.code (cAt (bodyOf Try.f103) [1, 1, 1, 0, 1, 0, 0]), .inLoop (cAt (bodyOf Try.f103) [1, 1, 1, 0, 1, 0, 0]), .inBlock 0, .code (cAt (bodyOf Try.f103) [1, 1, 1, 1])], [((decide ((↑i : Int) < (↑v.1 : Int))) = true),
  ((0 : Int) ≤ (↑i : Int)),
  (((↑i : Int) : Int) < (↑v.1 : Int)),
  ((0 : Nat) < 1),
  ((true = true) → (AN 1)),
  ((0 : Nat) < 1),
  Con Try.prog 67 0 [] [.p (.int .i64 ((v.2 i).2.1))] [] (.p (.str p)),
  ((0 : Nat) < 1),
  Con Try.prog 67 0 [] [.p (.int .i64 ((v.2 i).2.2.1))] [] (.p (.str a)),
  ((0 : Nat) < 1),
  Con Try.prog 67 0 [] [.p (.int .i64 ((v.2 i).2.2.2.1))] [] (.p (.str b)),
  ((0 : Nat) < 1),
  Con Try.prog 67 0 [] [.p (.int .i64 ((v.2 i).2.2.2.2.1))] [] (.p (.str c)),
  ((0 : Nat) < 1),
  (((v.2 i).1 == 0) = true),
  (((a.size + (ByteArray.mk #[45]).size) : Nat) ≤ 9223372036854775807),
  ((((a ++ ByteArray.mk #[45]).size + b.size) : Nat) ≤ 9223372036854775807),
  ((1 : Nat) ≤ 1),
  ((i : Nat) ≤ i),
  ((((i + 1) * 16) : Nat) ≤ 140737488355328),
  (((i + 1) : Nat) ≤ 9223372036854775807),
  (((-9223372036854775808) : Int) ≤ ((↑i : Int) + 1)),
  ((((↑i : Int) + 1) : Int) ≤ 9223372036854775807),
  (AN v.1),
  (AP v.1 (fun i_1 => [.int .i64 ((v.2 i_1).1), .int .i64 ((v.2 i_1).2.1), .int .i64 ((v.2 i_1).2.2.1), .int .i64 ((v.2 i_1).2.2.2.1), .int .i64 ((v.2 i_1).2.2.2.2.1)])),
  (AN 0),
  (AN ((i + 1))),
  (AN v.1),
  (AP v.1 (fun i_1 => [.int .i64 ((v.2 i_1).1), .int .i64 ((v.2 i_1).2.1), .int .i64 ((v.2 i_1).2.2.1), .int .i64 ((v.2 i_1).2.2.2.1), .int .i64 ((v.2 i_1).2.2.2.2.1)])),
  (AI ((↑v.1 : Int))),
  ((((↑i : Int) + 1) : Int) = (↑(i + 1) : Int)),
  (AN 1),
  (((i + 1) : Nat) ≤ (i + 1)),
  (∀ i_1 : Nat, (((i_1 : Nat) < (i + 1)) → (All (cvtL false [(993, ⟨false, 1, (i + 1), (fun i_2 => (if (i_2 < i) then [.p (.str (f i_2))] else [.p (.str (a ++ ByteArray.mk #[45] ++ b))]))⟩), (961, ⟨false, 1, 1, (fun i_2 => [.p (.str (a ++ ByteArray.mk #[45] ++ b))])⟩), (97, ⟨true, 5, 1, (fun i_2 => [.p (.int .i64 ((v.2 i).1)), .p (.int .i64 ((v.2 i).2.1)), .p (.int .i64 ((v.2 i).2.2.1)), .p (.int .i64 ((v.2 i).2.2.2.1)), .p (.int .i64 ((v.2 i).2.2.2.2.1))])⟩)] [993] 1 (if (i_1 < i) then [.p (.str (f i_1))] else [.p (.str (a ++ ByteArray.mk #[45] ++ b))])).2 ∧ (((cvtL false [(993, ⟨false, 1, (i + 1), (fun i_2 => (if (i_2 < i) then [.p (.str (f i_2))] else [.p (.str (a ++ ByteArray.mk #[45] ++ b))]))⟩), (961, ⟨false, 1, 1, (fun i_2 => [.p (.str (a ++ ByteArray.mk #[45] ++ b))])⟩), (97, ⟨true, 5, 1, (fun i_2 => [.p (.int .i64 ((v.2 i).1)), .p (.int .i64 ((v.2 i).2.1)), .p (.int .i64 ((v.2 i).2.2.1)), .p (.int .i64 ((v.2 i).2.2.2.1)), .p (.int .i64 ((v.2 i).2.2.2.2.1))])⟩)] [993] 1 (if (i_1 < i) then [.p (.str (f i_1))] else [.p (.str (a ++ ByteArray.mk #[45] ++ b))])).1 : List AV) = [.p (.str (f i_1))]))))]) := by kernel_rfl
theorem ySb (v : T_StepS) (i : Nat) (f : Nat → ByteArray) (p a b c : ByteArray) :
    pieceOb Try.prog 0 [.reg [oT], .dec true, .reg [oT, oT, oT, oT], .reg [oT, oT, ⟨true, (some ⟨[], [], [], 1, [], .p (.str p)⟩), none⟩, oT, oT, ⟨true, (some ⟨[], [], [], 1, [], .p (.str a)⟩), none⟩, oT, oT, ⟨true, (some ⟨[], [], [], 1, [], .p (.str b)⟩), none⟩, oT, oT, ⟨true, (some ⟨[], [], [], 1, [], .p (.str c)⟩), none⟩, oT, oT, oT, oT], .reg [oT, oT], .reg [oT, oT], .dec false, .reg [oT, oT], .dec true, .reg [oT, oT, oT, oT, oT, oT, oT, oT, oT, oT, oT], .reg [oT, oT], .head] [.code (cAt (bodyOf Try.f103) [1, 1, 1, 0, 1, 0, 0]), .inLoop (cAt (bodyOf Try.f103) [1, 1, 1, 0, 1, 0, 0]), .inBlock 0, .code (cAt (bodyOf Try.f103) [1, 1, 1, 1])] (FSi v i f) [1153] 1 (FSi v (i + 1) f) =
    some ([.code (cAt (bodyOf Try.f103) [1, 1, 1, 0, 1, 0, 0]), .inLoop (cAt (bodyOf Try.f103) [1, 1, 1, 0, 1, 0, 0]), .inBlock 0, .code (cAt (bodyOf Try.f103) [1, 1, 1, 1])], [((decide ((↑i : Int) < (↑v.1 : Int))) = true),
  ((0 : Int) ≤ (↑i : Int)),
  (((↑i : Int) : Int) < (↑v.1 : Int)),
  ((0 : Nat) < 1),
  ((true = true) → (AN 1)),
  ((0 : Nat) < 1),
  Con Try.prog 67 0 [] [.p (.int .i64 ((v.2 i).2.1))] [] (.p (.str p)),
  ((0 : Nat) < 1),
  Con Try.prog 67 0 [] [.p (.int .i64 ((v.2 i).2.2.1))] [] (.p (.str a)),
  ((0 : Nat) < 1),
  Con Try.prog 67 0 [] [.p (.int .i64 ((v.2 i).2.2.2.1))] [] (.p (.str b)),
  ((0 : Nat) < 1),
  Con Try.prog 67 0 [] [.p (.int .i64 ((v.2 i).2.2.2.2.1))] [] (.p (.str c)),
  ((0 : Nat) < 1),
  (((v.2 i).1 == 0) = false),
  (((v.2 i).1 == 1) = true),
  (((p.size + (ByteArray.mk #[58]).size) : Nat) ≤ 9223372036854775807),
  ((((p ++ ByteArray.mk #[58]).size + a.size) : Nat) ≤ 9223372036854775807),
  ((((p ++ ByteArray.mk #[58] ++ a).size + (ByteArray.mk #[44]).size) : Nat) ≤ 9223372036854775807),
  ((((p ++ ByteArray.mk #[58] ++ a ++ ByteArray.mk #[44]).size + b.size) : Nat) ≤ 9223372036854775807),
  ((1 : Nat) ≤ 1),
  ((i : Nat) ≤ i),
  ((((i + 1) * 16) : Nat) ≤ 140737488355328),
  (((i + 1) : Nat) ≤ 9223372036854775807),
  (((-9223372036854775808) : Int) ≤ ((↑i : Int) + 1)),
  ((((↑i : Int) + 1) : Int) ≤ 9223372036854775807),
  (AN v.1),
  (AP v.1 (fun i_1 => [.int .i64 ((v.2 i_1).1), .int .i64 ((v.2 i_1).2.1), .int .i64 ((v.2 i_1).2.2.1), .int .i64 ((v.2 i_1).2.2.2.1), .int .i64 ((v.2 i_1).2.2.2.2.1)])),
  (AN 0),
  (AN ((i + 1))),
  (AN v.1),
  (AP v.1 (fun i_1 => [.int .i64 ((v.2 i_1).1), .int .i64 ((v.2 i_1).2.1), .int .i64 ((v.2 i_1).2.2.1), .int .i64 ((v.2 i_1).2.2.2.1), .int .i64 ((v.2 i_1).2.2.2.2.1)])),
  (AI ((↑v.1 : Int))),
  ((((↑i : Int) + 1) : Int) = (↑(i + 1) : Int)),
  (AN 1),
  (((i + 1) : Nat) ≤ (i + 1)),
  (∀ i_1 : Nat, (((i_1 : Nat) < (i + 1)) → (All (cvtL false [(1153, ⟨false, 1, (i + 1), (fun i_2 => (if (i_2 < i) then [.p (.str (f i_2))] else [.p (.str (p ++ ByteArray.mk #[58] ++ a ++ ByteArray.mk #[44] ++ b))]))⟩), (1121, ⟨false, 1, 1, (fun i_2 => [.p (.str (p ++ ByteArray.mk #[58] ++ a ++ ByteArray.mk #[44] ++ b))])⟩), (97, ⟨true, 5, 1, (fun i_2 => [.p (.int .i64 ((v.2 i).1)), .p (.int .i64 ((v.2 i).2.1)), .p (.int .i64 ((v.2 i).2.2.1)), .p (.int .i64 ((v.2 i).2.2.2.1)), .p (.int .i64 ((v.2 i).2.2.2.2.1))])⟩)] [1153] 1 (if (i_1 < i) then [.p (.str (f i_1))] else [.p (.str (p ++ ByteArray.mk #[58] ++ a ++ ByteArray.mk #[44] ++ b))])).2 ∧ (((cvtL false [(1153, ⟨false, 1, (i + 1), (fun i_2 => (if (i_2 < i) then [.p (.str (f i_2))] else [.p (.str (p ++ ByteArray.mk #[58] ++ a ++ ByteArray.mk #[44] ++ b))]))⟩), (1121, ⟨false, 1, 1, (fun i_2 => [.p (.str (p ++ ByteArray.mk #[58] ++ a ++ ByteArray.mk #[44] ++ b))])⟩), (97, ⟨true, 5, 1, (fun i_2 => [.p (.int .i64 ((v.2 i).1)), .p (.int .i64 ((v.2 i).2.1)), .p (.int .i64 ((v.2 i).2.2.1)), .p (.int .i64 ((v.2 i).2.2.2.1)), .p (.int .i64 ((v.2 i).2.2.2.2.1))])⟩)] [1153] 1 (if (i_1 < i) then [.p (.str (f i_1))] else [.p (.str (p ++ ByteArray.mk #[58] ++ a ++ ByteArray.mk #[44] ++ b))])).1 : List AV) = [.p (.str (f i_1))]))))]) := by kernel_rfl
theorem ySc (v : T_StepS) (i : Nat) (f : Nat → ByteArray) (p a b c : ByteArray) :
    pieceOb Try.prog 0 [.reg [oT], .dec true, .reg [oT, oT, oT, oT], .reg [oT, oT, ⟨true, (some ⟨[], [], [], 1, [], .p (.str p)⟩), none⟩, oT, oT, ⟨true, (some ⟨[], [], [], 1, [], .p (.str a)⟩), none⟩, oT, oT, ⟨true, (some ⟨[], [], [], 1, [], .p (.str b)⟩), none⟩, oT, oT, ⟨true, (some ⟨[], [], [], 1, [], .p (.str c)⟩), none⟩, oT, oT, oT, oT], .reg [oT, oT], .reg [oT, oT], .dec false, .reg [oT, oT], .dec false, .reg [oT, oT], .dec true, .reg [oT, oT, oT, oT, oT, oT, oT, oT, oT, oT, oT, oT, oT, oT], .reg [oT, oT], .head] [.code (cAt (bodyOf Try.f103) [1, 1, 1, 0, 1, 0, 0]), .inLoop (cAt (bodyOf Try.f103) [1, 1, 1, 0, 1, 0, 0]), .inBlock 0, .code (cAt (bodyOf Try.f103) [1, 1, 1, 1])] (FSi v i f) [1313] 1 (FSi v (i + 1) f) =
    some ([.code (cAt (bodyOf Try.f103) [1, 1, 1, 0, 1, 0, 0]), .inLoop (cAt (bodyOf Try.f103) [1, 1, 1, 0, 1, 0, 0]), .inBlock 0, .code (cAt (bodyOf Try.f103) [1, 1, 1, 1])], [((decide ((↑i : Int) < (↑v.1 : Int))) = true),
  ((0 : Int) ≤ (↑i : Int)),
  (((↑i : Int) : Int) < (↑v.1 : Int)),
  ((0 : Nat) < 1),
  ((true = true) → (AN 1)),
  ((0 : Nat) < 1),
  Con Try.prog 67 0 [] [.p (.int .i64 ((v.2 i).2.1))] [] (.p (.str p)),
  ((0 : Nat) < 1),
  Con Try.prog 67 0 [] [.p (.int .i64 ((v.2 i).2.2.1))] [] (.p (.str a)),
  ((0 : Nat) < 1),
  Con Try.prog 67 0 [] [.p (.int .i64 ((v.2 i).2.2.2.1))] [] (.p (.str b)),
  ((0 : Nat) < 1),
  Con Try.prog 67 0 [] [.p (.int .i64 ((v.2 i).2.2.2.2.1))] [] (.p (.str c)),
  ((0 : Nat) < 1),
  (((v.2 i).1 == 0) = false),
  (((v.2 i).1 == 1) = false),
  (((v.2 i).1 == 2) = true),
  (((p.size + (ByteArray.mk #[58]).size) : Nat) ≤ 9223372036854775807),
  ((((p ++ ByteArray.mk #[58]).size + a.size) : Nat) ≤ 9223372036854775807),
  ((((p ++ ByteArray.mk #[58] ++ a).size + (ByteArray.mk #[45]).size) : Nat) ≤ 9223372036854775807),
  ((((p ++ ByteArray.mk #[58] ++ a ++ ByteArray.mk #[45]).size + b.size) : Nat) ≤ 9223372036854775807),
  ((((p ++ ByteArray.mk #[58] ++ a ++ ByteArray.mk #[45] ++ b).size + (ByteArray.mk #[44]).size) : Nat) ≤ 9223372036854775807),
  ((((p ++ ByteArray.mk #[58] ++ a ++ ByteArray.mk #[45] ++ b ++ ByteArray.mk #[44]).size + c.size) : Nat) ≤ 9223372036854775807),
  ((1 : Nat) ≤ 1),
  ((i : Nat) ≤ i),
  ((((i + 1) * 16) : Nat) ≤ 140737488355328),
  (((i + 1) : Nat) ≤ 9223372036854775807),
  (((-9223372036854775808) : Int) ≤ ((↑i : Int) + 1)),
  ((((↑i : Int) + 1) : Int) ≤ 9223372036854775807),
  (AN v.1),
  (AP v.1 (fun i_1 => [.int .i64 ((v.2 i_1).1), .int .i64 ((v.2 i_1).2.1), .int .i64 ((v.2 i_1).2.2.1), .int .i64 ((v.2 i_1).2.2.2.1), .int .i64 ((v.2 i_1).2.2.2.2.1)])),
  (AN 0),
  (AN ((i + 1))),
  (AN v.1),
  (AP v.1 (fun i_1 => [.int .i64 ((v.2 i_1).1), .int .i64 ((v.2 i_1).2.1), .int .i64 ((v.2 i_1).2.2.1), .int .i64 ((v.2 i_1).2.2.2.1), .int .i64 ((v.2 i_1).2.2.2.2.1)])),
  (AI ((↑v.1 : Int))),
  ((((↑i : Int) + 1) : Int) = (↑(i + 1) : Int)),
  (AN 1),
  (((i + 1) : Nat) ≤ (i + 1)),
  (∀ i_1 : Nat, (((i_1 : Nat) < (i + 1)) → (All (cvtL false [(1313, ⟨false, 1, (i + 1), (fun i_2 => (if (i_2 < i) then [.p (.str (f i_2))] else [.p (.str (p ++ ByteArray.mk #[58] ++ a ++ ByteArray.mk #[45] ++ b ++ ByteArray.mk #[44] ++ c))]))⟩), (1281, ⟨false, 1, 1, (fun i_2 => [.p (.str (p ++ ByteArray.mk #[58] ++ a ++ ByteArray.mk #[45] ++ b ++ ByteArray.mk #[44] ++ c))])⟩), (97, ⟨true, 5, 1, (fun i_2 => [.p (.int .i64 ((v.2 i).1)), .p (.int .i64 ((v.2 i).2.1)), .p (.int .i64 ((v.2 i).2.2.1)), .p (.int .i64 ((v.2 i).2.2.2.1)), .p (.int .i64 ((v.2 i).2.2.2.2.1))])⟩)] [1313] 1 (if (i_1 < i) then [.p (.str (f i_1))] else [.p (.str (p ++ ByteArray.mk #[58] ++ a ++ ByteArray.mk #[45] ++ b ++ ByteArray.mk #[44] ++ c))])).2 ∧ (((cvtL false [(1313, ⟨false, 1, (i + 1), (fun i_2 => (if (i_2 < i) then [.p (.str (f i_2))] else [.p (.str (p ++ ByteArray.mk #[58] ++ a ++ ByteArray.mk #[45] ++ b ++ ByteArray.mk #[44] ++ c))]))⟩), (1281, ⟨false, 1, 1, (fun i_2 => [.p (.str (p ++ ByteArray.mk #[58] ++ a ++ ByteArray.mk #[45] ++ b ++ ByteArray.mk #[44] ++ c))])⟩), (97, ⟨true, 5, 1, (fun i_2 => [.p (.int .i64 ((v.2 i).1)), .p (.int .i64 ((v.2 i).2.1)), .p (.int .i64 ((v.2 i).2.2.1)), .p (.int .i64 ((v.2 i).2.2.2.1)), .p (.int .i64 ((v.2 i).2.2.2.2.1))])⟩)] [1313] 1 (if (i_1 < i) then [.p (.str (f i_1))] else [.p (.str (p ++ ByteArray.mk #[58] ++ a ++ ByteArray.mk #[45] ++ b ++ ByteArray.mk #[44] ++ c))])).1 : List AV) = [.p (.str (f i_1))]))))]) := by kernel_rfl
theorem ySd (v : T_StepS) (i : Nat) (f : Nat → ByteArray) (p a b c : ByteArray) :
    pieceOb Try.prog 0 [.reg [oT], .dec true, .reg [oT, oT, oT, oT], .reg [oT, oT, ⟨true, (some ⟨[], [], [], 1, [], .p (.str p)⟩), none⟩, oT, oT, ⟨true, (some ⟨[], [], [], 1, [], .p (.str a)⟩), none⟩, oT, oT, ⟨true, (some ⟨[], [], [], 1, [], .p (.str b)⟩), none⟩, oT, oT, ⟨true, (some ⟨[], [], [], 1, [], .p (.str c)⟩), none⟩, oT, oT, oT, oT], .reg [oT, oT], .reg [oT, oT], .dec false, .reg [oT, oT], .dec false, .reg [oT, oT], .dec false, .reg [oT, oT, oT, oT], .reg [oT, oT], .head] [.code (cAt (bodyOf Try.f103) [1, 1, 1, 0, 1, 0, 0]), .inLoop (cAt (bodyOf Try.f103) [1, 1, 1, 0, 1, 0, 0]), .inBlock 0, .code (cAt (bodyOf Try.f103) [1, 1, 1, 1])] (FSi v i f) [993] 1 (FSi v (i + 1) f) =
    some ([.code (cAt (bodyOf Try.f103) [1, 1, 1, 0, 1, 0, 0]), .inLoop (cAt (bodyOf Try.f103) [1, 1, 1, 0, 1, 0, 0]), .inBlock 0, .code (cAt (bodyOf Try.f103) [1, 1, 1, 1])], [((decide ((↑i : Int) < (↑v.1 : Int))) = true),
  ((0 : Int) ≤ (↑i : Int)),
  (((↑i : Int) : Int) < (↑v.1 : Int)),
  ((0 : Nat) < 1),
  ((true = true) → (AN 1)),
  ((0 : Nat) < 1),
  Con Try.prog 67 0 [] [.p (.int .i64 ((v.2 i).2.1))] [] (.p (.str p)),
  ((0 : Nat) < 1),
  Con Try.prog 67 0 [] [.p (.int .i64 ((v.2 i).2.2.1))] [] (.p (.str a)),
  ((0 : Nat) < 1),
  Con Try.prog 67 0 [] [.p (.int .i64 ((v.2 i).2.2.2.1))] [] (.p (.str b)),
  ((0 : Nat) < 1),
  Con Try.prog 67 0 [] [.p (.int .i64 ((v.2 i).2.2.2.2.1))] [] (.p (.str c)),
  ((0 : Nat) < 1),
  (((v.2 i).1 == 0) = false),
  (((v.2 i).1 == 1) = false),
  (((v.2 i).1 == 2) = false),
  ((1 : Nat) ≤ 1),
  ((i : Nat) ≤ i),
  ((((i + 1) * 16) : Nat) ≤ 140737488355328),
  (((i + 1) : Nat) ≤ 9223372036854775807),
  (((-9223372036854775808) : Int) ≤ ((↑i : Int) + 1)),
  ((((↑i : Int) + 1) : Int) ≤ 9223372036854775807),
  (AN v.1),
  (AP v.1 (fun i_1 => [.int .i64 ((v.2 i_1).1), .int .i64 ((v.2 i_1).2.1), .int .i64 ((v.2 i_1).2.2.1), .int .i64 ((v.2 i_1).2.2.2.1), .int .i64 ((v.2 i_1).2.2.2.2.1)])),
  (AN 0),
  (AN ((i + 1))),
  (AN v.1),
  (AP v.1 (fun i_1 => [.int .i64 ((v.2 i_1).1), .int .i64 ((v.2 i_1).2.1), .int .i64 ((v.2 i_1).2.2.1), .int .i64 ((v.2 i_1).2.2.2.1), .int .i64 ((v.2 i_1).2.2.2.2.1)])),
  (AI ((↑v.1 : Int))),
  ((((↑i : Int) + 1) : Int) = (↑(i + 1) : Int)),
  (AN 1),
  (((i + 1) : Nat) ≤ (i + 1)),
  (∀ i_1 : Nat, (((i_1 : Nat) < (i + 1)) → (All (cvtL false [(993, ⟨false, 1, (i + 1), (fun i_2 => (if (i_2 < i) then [.p (.str (f i_2))] else [.p (.str (ByteArray.mk #[63]))]))⟩), (961, ⟨false, 1, 1, (fun i_2 => [.p (.str (ByteArray.mk #[63]))])⟩), (97, ⟨true, 5, 1, (fun i_2 => [.p (.int .i64 ((v.2 i).1)), .p (.int .i64 ((v.2 i).2.1)), .p (.int .i64 ((v.2 i).2.2.1)), .p (.int .i64 ((v.2 i).2.2.2.1)), .p (.int .i64 ((v.2 i).2.2.2.2.1))])⟩)] [993] 1 (if (i_1 < i) then [.p (.str (f i_1))] else [.p (.str (ByteArray.mk #[63]))])).2 ∧ (((cvtL false [(993, ⟨false, 1, (i + 1), (fun i_2 => (if (i_2 < i) then [.p (.str (f i_2))] else [.p (.str (ByteArray.mk #[63]))]))⟩), (961, ⟨false, 1, 1, (fun i_2 => [.p (.str (ByteArray.mk #[63]))])⟩), (97, ⟨true, 5, 1, (fun i_2 => [.p (.int .i64 ((v.2 i).1)), .p (.int .i64 ((v.2 i).2.1)), .p (.int .i64 ((v.2 i).2.2.1)), .p (.int .i64 ((v.2 i).2.2.2.1)), .p (.int .i64 ((v.2 i).2.2.2.2.1))])⟩)] [993] 1 (if (i_1 < i) then [.p (.str (f i_1))] else [.p (.str (ByteArray.mk #[63]))])).1 : List AV) = [.p (.str (f i_1))]))))]) := by kernel_rfl
theorem ySe (v : T_StepS) (i : Nat) (f : Nat → ByteArray) (s : ByteArray) :
    pathOb Try.prog Try.f103 0 [.reg [oT], .dec false, .reg [oT, ⟨true, (some ⟨[], [], [], 1, [], .p (.str s)⟩), none⟩, oT]] [.code (cAt (bodyOf Try.f103) [1, 1, 1, 0, 1, 0, 0]), .inLoop (cAt (bodyOf Try.f103) [1, 1, 1, 0, 1, 0, 0]), .inBlock 0, .code (cAt (bodyOf Try.f103) [1, 1, 1, 1])] (FSi v i f) [] 1 [] (.p (.str s)) =
    some [((decide ((↑i : Int) < (↑v.1 : Int))) = false),
  (AN 1),
  ((i : Nat) ≤ i),
  Con Try.prog 121 0 [] [.p (.seq true 1 i (fun i_1 => [.str (f i_1)])), .p (.str (ByteArray.mk #[32]))] [] (.p (.str s)),
  (s = s)] := by kernel_rfl
theorem zSz (v : T_StepS) :
    pieceOb Try.prog 0 [.reg [oT], .reg [oT], .reg [oT], .head] [.code (bodyOf Try.f92)] (start Try.f92 [] 0 [stL v]) [] 1 (FSs v 0 sE) =
    some ([.code (cAt (bodyOf Try.f92) [1, 1, 0, 1, 0, 0]), .inLoop (cAt (bodyOf Try.f92) [1, 1, 0, 1, 0, 0]), .inBlock 0, .code (cAt (bodyOf Try.f92) [1, 1, 1])], [(AN v.1),
  (AP v.1 (fun i => [.int .i64 ((v.2 i).1), .int .i64 ((v.2 i).2.1), .int .i64 ((v.2 i).2.2.1), .int .i64 ((v.2 i).2.2.2.1), .int .i64 ((v.2 i).2.2.2.2.1)])),
  (ByteArray.mk #[] = sE),
  ((0 : Int) = (↑0 : Int))]) := by kernel_rfl
theorem zSa0 (v : T_StepS) (i : Nat) (s p a b c : ByteArray) :
    pieceOb Try.prog 0 [.reg [oT, oT, oT, oT], .dec true, .reg [oT, oT, oT, oT, oT, oT], .reg [oT, oT], .dec false, .reg [oT, oT], .reg [oT, oT], .dec true, .reg [oT, oT, oT, ⟨true, (some ⟨[], [], [], 1, [], .p (.str a)⟩), none⟩, oT, oT, oT, oT, ⟨true, (some ⟨[], [], [], 1, [], .p (.str b)⟩), none⟩, oT, oT], .reg [oT, oT, oT], .head] [.code (cAt (bodyOf Try.f92) [1, 1, 0, 1, 0, 0]), .inLoop (cAt (bodyOf Try.f92) [1, 1, 0, 1, 0, 0]), .inBlock 0, .code (cAt (bodyOf Try.f92) [1, 1, 1])] (FSs v i s) [] 1 (FSs v (i + 1) (((s ++ a) ++ sDash) ++ b)) =
    some ([.code (cAt (bodyOf Try.f92) [1, 1, 0, 1, 0, 0]), .inLoop (cAt (bodyOf Try.f92) [1, 1, 0, 1, 0, 0]), .inBlock 0, .code (cAt (bodyOf Try.f92) [1, 1, 1])], [((decide ((↑i : Int) < (↑v.1 : Int))) = true),
  ((0 : Int) ≤ (↑i : Int)),
  (((↑i : Int) : Int) < (↑v.1 : Int)),
  ((0 : Nat) < 1),
  ((true = true) → (AN 1)),
  ((decide ((↑i : Int) > 0)) = false),
  ((0 : Nat) < 1),
  (((v.2 i).1 == 0) = true),
  ((0 : Nat) < 1),
  Con Try.prog 58 0 [] [.p (.int .i64 ((v.2 i).2.2.1))] [] (.p (.str a)),
  (((s.size + a.size) : Nat) ≤ 9223372036854775807),
  ((((s ++ a).size + (ByteArray.mk #[45]).size) : Nat) ≤ 9223372036854775807),
  ((0 : Nat) < 1),
  Con Try.prog 58 0 [] [.p (.int .i64 ((v.2 i).2.2.2.1))] [] (.p (.str b)),
  ((((s ++ a ++ ByteArray.mk #[45]).size + b.size) : Nat) ≤ 9223372036854775807),
  (((-9223372036854775808) : Int) ≤ ((↑i : Int) + 1)),
  ((((↑i : Int) + 1) : Int) ≤ 9223372036854775807),
  (AN v.1),
  (AP v.1 (fun i_1 => [.int .i64 ((v.2 i_1).1), .int .i64 ((v.2 i_1).2.1), .int .i64 ((v.2 i_1).2.2.1), .int .i64 ((v.2 i_1).2.2.2.1), .int .i64 ((v.2 i_1).2.2.2.2.1)])),
  (s ++ a ++ ByteArray.mk #[45] ++ b = s ++ a ++ sDash ++ b),
  ((((↑i : Int) + 1) : Int) = (↑(i + 1) : Int))]) := by kernel_rfl
theorem zSa1 (v : T_StepS) (i : Nat) (s p a b c : ByteArray) :
    pieceOb Try.prog 0 [.reg [oT, oT, oT, oT], .dec true, .reg [oT, oT, oT, oT, oT, oT], .reg [oT, oT], .dec true, .reg [oT, oT, oT], .reg [oT, oT], .reg [oT, oT], .dec true, .reg [oT, oT, oT, ⟨true, (some ⟨[], [], [], 1, [], .p (.str a)⟩), none⟩, oT, oT, oT, oT, ⟨true, (some ⟨[], [], [], 1, [], .p (.str b)⟩), none⟩, oT, oT], .reg [oT, oT, oT], .head] [.code (cAt (bodyOf Try.f92) [1, 1, 0, 1, 0, 0]), .inLoop (cAt (bodyOf Try.f92) [1, 1, 0, 1, 0, 0]), .inBlock 0, .code (cAt (bodyOf Try.f92) [1, 1, 1])] (FSs v i s) [] 1 (FSs v (i + 1) ((((s ++ sSp) ++ a) ++ sDash) ++ b)) =
    some ([.code (cAt (bodyOf Try.f92) [1, 1, 0, 1, 0, 0]), .inLoop (cAt (bodyOf Try.f92) [1, 1, 0, 1, 0, 0]), .inBlock 0, .code (cAt (bodyOf Try.f92) [1, 1, 1])], [((decide ((↑i : Int) < (↑v.1 : Int))) = true),
  ((0 : Int) ≤ (↑i : Int)),
  (((↑i : Int) : Int) < (↑v.1 : Int)),
  ((0 : Nat) < 1),
  ((true = true) → (AN 1)),
  ((decide ((↑i : Int) > 0)) = true),
  (((s.size + (ByteArray.mk #[32]).size) : Nat) ≤ 9223372036854775807),
  ((0 : Nat) < 1),
  (((v.2 i).1 == 0) = true),
  ((0 : Nat) < 1),
  Con Try.prog 58 0 [] [.p (.int .i64 ((v.2 i).2.2.1))] [] (.p (.str a)),
  ((((s ++ ByteArray.mk #[32]).size + a.size) : Nat) ≤ 9223372036854775807),
  ((((s ++ ByteArray.mk #[32] ++ a).size + (ByteArray.mk #[45]).size) : Nat) ≤ 9223372036854775807),
  ((0 : Nat) < 1),
  Con Try.prog 58 0 [] [.p (.int .i64 ((v.2 i).2.2.2.1))] [] (.p (.str b)),
  ((((s ++ ByteArray.mk #[32] ++ a ++ ByteArray.mk #[45]).size + b.size) : Nat) ≤ 9223372036854775807),
  (((-9223372036854775808) : Int) ≤ ((↑i : Int) + 1)),
  ((((↑i : Int) + 1) : Int) ≤ 9223372036854775807),
  (AN v.1),
  (AP v.1 (fun i_1 => [.int .i64 ((v.2 i_1).1), .int .i64 ((v.2 i_1).2.1), .int .i64 ((v.2 i_1).2.2.1), .int .i64 ((v.2 i_1).2.2.2.1), .int .i64 ((v.2 i_1).2.2.2.2.1)])),
  (s ++ ByteArray.mk #[32] ++ a ++ ByteArray.mk #[45] ++ b = s ++ sSp ++ a ++ sDash ++ b),
  ((((↑i : Int) + 1) : Int) = (↑(i + 1) : Int))]) := by kernel_rfl
theorem zSb0 (v : T_StepS) (i : Nat) (s p a b c : ByteArray) :
    pieceOb Try.prog 0 [.reg [oT, oT, oT, oT], .dec true, .reg [oT, oT, oT, oT, oT, oT], .reg [oT, oT], .dec false, .reg [oT, oT], .reg [oT, oT], .dec false, .reg [oT, oT], .dec true, .reg [oT, oT, oT, ⟨true, (some ⟨[], [], [], 1, [], .p (.str p)⟩), none⟩, oT, oT, oT, oT, ⟨true, (some ⟨[], [], [], 1, [], .p (.str a)⟩), none⟩, oT, oT, oT, oT, ⟨true, (some ⟨[], [], [], 1, [], .p (.str b)⟩), none⟩, oT, oT], .reg [oT, oT, oT], .head] [.code (cAt (bodyOf Try.f92) [1, 1, 0, 1, 0, 0]), .inLoop (cAt (bodyOf Try.f92) [1, 1, 0, 1, 0, 0]), .inBlock 0, .code (cAt (bodyOf Try.f92) [1, 1, 1])] (FSs v i s) [] 1 (FSs v (i + 1) (((((s ++ p) ++ sCol) ++ a) ++ sC) ++ b)) =
    some ([.code (cAt (bodyOf Try.f92) [1, 1, 0, 1, 0, 0]), .inLoop (cAt (bodyOf Try.f92) [1, 1, 0, 1, 0, 0]), .inBlock 0, .code (cAt (bodyOf Try.f92) [1, 1, 1])], [((decide ((↑i : Int) < (↑v.1 : Int))) = true),
  ((0 : Int) ≤ (↑i : Int)),
  (((↑i : Int) : Int) < (↑v.1 : Int)),
  ((0 : Nat) < 1),
  ((true = true) → (AN 1)),
  ((decide ((↑i : Int) > 0)) = false),
  ((0 : Nat) < 1),
  (((v.2 i).1 == 0) = false),
  (((v.2 i).1 == 1) = true),
  ((0 : Nat) < 1),
  Con Try.prog 58 0 [] [.p (.int .i64 ((v.2 i).2.1))] [] (.p (.str p)),
  (((s.size + p.size) : Nat) ≤ 9223372036854775807),
  ((((s ++ p).size + (ByteArray.mk #[58]).size) : Nat) ≤ 9223372036854775807),
  ((0 : Nat) < 1),
  Con Try.prog 58 0 [] [.p (.int .i64 ((v.2 i).2.2.1))] [] (.p (.str a)),
  ((((s ++ p ++ ByteArray.mk #[58]).size + a.size) : Nat) ≤ 9223372036854775807),
  ((((s ++ p ++ ByteArray.mk #[58] ++ a).size + (ByteArray.mk #[44]).size) : Nat) ≤ 9223372036854775807),
  ((0 : Nat) < 1),
  Con Try.prog 58 0 [] [.p (.int .i64 ((v.2 i).2.2.2.1))] [] (.p (.str b)),
  ((((s ++ p ++ ByteArray.mk #[58] ++ a ++ ByteArray.mk #[44]).size + b.size) : Nat) ≤ 9223372036854775807),
  (((-9223372036854775808) : Int) ≤ ((↑i : Int) + 1)),
  ((((↑i : Int) + 1) : Int) ≤ 9223372036854775807),
  (AN v.1),
  (AP v.1 (fun i_1 => [.int .i64 ((v.2 i_1).1), .int .i64 ((v.2 i_1).2.1), .int .i64 ((v.2 i_1).2.2.1), .int .i64 ((v.2 i_1).2.2.2.1), .int .i64 ((v.2 i_1).2.2.2.2.1)])),
  (s ++ p ++ ByteArray.mk #[58] ++ a ++ ByteArray.mk #[44] ++ b = s ++ p ++ sCol ++ a ++ sC ++ b),
  ((((↑i : Int) + 1) : Int) = (↑(i + 1) : Int))]) := by kernel_rfl
theorem zSb1 (v : T_StepS) (i : Nat) (s p a b c : ByteArray) :
    pieceOb Try.prog 0 [.reg [oT, oT, oT, oT], .dec true, .reg [oT, oT, oT, oT, oT, oT], .reg [oT, oT], .dec true, .reg [oT, oT, oT], .reg [oT, oT], .reg [oT, oT], .dec false, .reg [oT, oT], .dec true, .reg [oT, oT, oT, ⟨true, (some ⟨[], [], [], 1, [], .p (.str p)⟩), none⟩, oT, oT, oT, oT, ⟨true, (some ⟨[], [], [], 1, [], .p (.str a)⟩), none⟩, oT, oT, oT, oT, ⟨true, (some ⟨[], [], [], 1, [], .p (.str b)⟩), none⟩, oT, oT], .reg [oT, oT, oT], .head] [.code (cAt (bodyOf Try.f92) [1, 1, 0, 1, 0, 0]), .inLoop (cAt (bodyOf Try.f92) [1, 1, 0, 1, 0, 0]), .inBlock 0, .code (cAt (bodyOf Try.f92) [1, 1, 1])] (FSs v i s) [] 1 (FSs v (i + 1) ((((((s ++ sSp) ++ p) ++ sCol) ++ a) ++ sC) ++ b)) =
    some ([.code (cAt (bodyOf Try.f92) [1, 1, 0, 1, 0, 0]), .inLoop (cAt (bodyOf Try.f92) [1, 1, 0, 1, 0, 0]), .inBlock 0, .code (cAt (bodyOf Try.f92) [1, 1, 1])], [((decide ((↑i : Int) < (↑v.1 : Int))) = true),
  ((0 : Int) ≤ (↑i : Int)),
  (((↑i : Int) : Int) < (↑v.1 : Int)),
  ((0 : Nat) < 1),
  ((true = true) → (AN 1)),
  ((decide ((↑i : Int) > 0)) = true),
  (((s.size + (ByteArray.mk #[32]).size) : Nat) ≤ 9223372036854775807),
  ((0 : Nat) < 1),
  (((v.2 i).1 == 0) = false),
  (((v.2 i).1 == 1) = true),
  ((0 : Nat) < 1),
  Con Try.prog 58 0 [] [.p (.int .i64 ((v.2 i).2.1))] [] (.p (.str p)),
  ((((s ++ ByteArray.mk #[32]).size + p.size) : Nat) ≤ 9223372036854775807),
  ((((s ++ ByteArray.mk #[32] ++ p).size + (ByteArray.mk #[58]).size) : Nat) ≤ 9223372036854775807),
  ((0 : Nat) < 1),
  Con Try.prog 58 0 [] [.p (.int .i64 ((v.2 i).2.2.1))] [] (.p (.str a)),
  ((((s ++ ByteArray.mk #[32] ++ p ++ ByteArray.mk #[58]).size + a.size) : Nat) ≤ 9223372036854775807),
  ((((s ++ ByteArray.mk #[32] ++ p ++ ByteArray.mk #[58] ++ a).size + (ByteArray.mk #[44]).size) : Nat) ≤ 9223372036854775807),
  ((0 : Nat) < 1),
  Con Try.prog 58 0 [] [.p (.int .i64 ((v.2 i).2.2.2.1))] [] (.p (.str b)),
  ((((s ++ ByteArray.mk #[32] ++ p ++ ByteArray.mk #[58] ++ a ++ ByteArray.mk #[44]).size + b.size) : Nat) ≤ 9223372036854775807),
  (((-9223372036854775808) : Int) ≤ ((↑i : Int) + 1)),
  ((((↑i : Int) + 1) : Int) ≤ 9223372036854775807),
  (AN v.1),
  (AP v.1 (fun i_1 => [.int .i64 ((v.2 i_1).1), .int .i64 ((v.2 i_1).2.1), .int .i64 ((v.2 i_1).2.2.1), .int .i64 ((v.2 i_1).2.2.2.1), .int .i64 ((v.2 i_1).2.2.2.2.1)])),
  (s ++ ByteArray.mk #[32] ++ p ++ ByteArray.mk #[58] ++ a ++ ByteArray.mk #[44] ++ b = s ++ sSp ++ p ++ sCol ++ a ++ sC ++ b),
  ((((↑i : Int) + 1) : Int) = (↑(i + 1) : Int))]) := by kernel_rfl
theorem zSc0 (v : T_StepS) (i : Nat) (s p a b c : ByteArray) :
    pieceOb Try.prog 0 [.reg [oT, oT, oT, oT], .dec true, .reg [oT, oT, oT, oT, oT, oT], .reg [oT, oT], .dec false, .reg [oT, oT], .reg [oT, oT], .dec false, .reg [oT, oT], .dec false, .reg [oT, oT], .dec true, .reg [oT, oT, oT, ⟨true, (some ⟨[], [], [], 1, [], .p (.str p)⟩), none⟩, oT, oT, oT, oT, ⟨true, (some ⟨[], [], [], 1, [], .p (.str a)⟩), none⟩, oT, oT, oT, oT, ⟨true, (some ⟨[], [], [], 1, [], .p (.str b)⟩), none⟩, oT, oT, oT, oT, ⟨true, (some ⟨[], [], [], 1, [], .p (.str c)⟩), none⟩, oT, oT], .reg [oT, oT, oT], .head] [.code (cAt (bodyOf Try.f92) [1, 1, 0, 1, 0, 0]), .inLoop (cAt (bodyOf Try.f92) [1, 1, 0, 1, 0, 0]), .inBlock 0, .code (cAt (bodyOf Try.f92) [1, 1, 1])] (FSs v i s) [] 1 (FSs v (i + 1) (((((((s ++ p) ++ sCol) ++ a) ++ sDash) ++ b) ++ sC) ++ c)) =
    some ([.code (cAt (bodyOf Try.f92) [1, 1, 0, 1, 0, 0]), .inLoop (cAt (bodyOf Try.f92) [1, 1, 0, 1, 0, 0]), .inBlock 0, .code (cAt (bodyOf Try.f92) [1, 1, 1])], [((decide ((↑i : Int) < (↑v.1 : Int))) = true),
  ((0 : Int) ≤ (↑i : Int)),
  (((↑i : Int) : Int) < (↑v.1 : Int)),
  ((0 : Nat) < 1),
  ((true = true) → (AN 1)),
  ((decide ((↑i : Int) > 0)) = false),
  ((0 : Nat) < 1),
  (((v.2 i).1 == 0) = false),
  (((v.2 i).1 == 1) = false),
  (((v.2 i).1 == 2) = true),
  ((0 : Nat) < 1),
  Con Try.prog 58 0 [] [.p (.int .i64 ((v.2 i).2.1))] [] (.p (.str p)),
  (((s.size + p.size) : Nat) ≤ 9223372036854775807),
  ((((s ++ p).size + (ByteArray.mk #[58]).size) : Nat) ≤ 9223372036854775807),
  ((0 : Nat) < 1),
  Con Try.prog 58 0 [] [.p (.int .i64 ((v.2 i).2.2.1))] [] (.p (.str a)),
  ((((s ++ p ++ ByteArray.mk #[58]).size + a.size) : Nat) ≤ 9223372036854775807),
  ((((s ++ p ++ ByteArray.mk #[58] ++ a).size + (ByteArray.mk #[45]).size) : Nat) ≤ 9223372036854775807),
  ((0 : Nat) < 1),
  Con Try.prog 58 0 [] [.p (.int .i64 ((v.2 i).2.2.2.1))] [] (.p (.str b)),
  ((((s ++ p ++ ByteArray.mk #[58] ++ a ++ ByteArray.mk #[45]).size + b.size) : Nat) ≤ 9223372036854775807),
  ((((s ++ p ++ ByteArray.mk #[58] ++ a ++ ByteArray.mk #[45] ++ b).size + (ByteArray.mk #[44]).size) : Nat) ≤ 9223372036854775807),
  ((0 : Nat) < 1),
  Con Try.prog 58 0 [] [.p (.int .i64 ((v.2 i).2.2.2.2.1))] [] (.p (.str c)),
  ((((s ++ p ++ ByteArray.mk #[58] ++ a ++ ByteArray.mk #[45] ++ b ++ ByteArray.mk #[44]).size + c.size) : Nat) ≤ 9223372036854775807),
  (((-9223372036854775808) : Int) ≤ ((↑i : Int) + 1)),
  ((((↑i : Int) + 1) : Int) ≤ 9223372036854775807),
  (AN v.1),
  (AP v.1 (fun i_1 => [.int .i64 ((v.2 i_1).1), .int .i64 ((v.2 i_1).2.1), .int .i64 ((v.2 i_1).2.2.1), .int .i64 ((v.2 i_1).2.2.2.1), .int .i64 ((v.2 i_1).2.2.2.2.1)])),
  (s ++ p ++ ByteArray.mk #[58] ++ a ++ ByteArray.mk #[45] ++ b ++ ByteArray.mk #[44] ++ c = s ++ p ++ sCol ++ a ++ sDash ++ b ++ sC ++ c),
  ((((↑i : Int) + 1) : Int) = (↑(i + 1) : Int))]) := by kernel_rfl
theorem zSc1 (v : T_StepS) (i : Nat) (s p a b c : ByteArray) :
    pieceOb Try.prog 0 [.reg [oT, oT, oT, oT], .dec true, .reg [oT, oT, oT, oT, oT, oT], .reg [oT, oT], .dec true, .reg [oT, oT, oT], .reg [oT, oT], .reg [oT, oT], .dec false, .reg [oT, oT], .dec false, .reg [oT, oT], .dec true, .reg [oT, oT, oT, ⟨true, (some ⟨[], [], [], 1, [], .p (.str p)⟩), none⟩, oT, oT, oT, oT, ⟨true, (some ⟨[], [], [], 1, [], .p (.str a)⟩), none⟩, oT, oT, oT, oT, ⟨true, (some ⟨[], [], [], 1, [], .p (.str b)⟩), none⟩, oT, oT, oT, oT, ⟨true, (some ⟨[], [], [], 1, [], .p (.str c)⟩), none⟩, oT, oT], .reg [oT, oT, oT], .head] [.code (cAt (bodyOf Try.f92) [1, 1, 0, 1, 0, 0]), .inLoop (cAt (bodyOf Try.f92) [1, 1, 0, 1, 0, 0]), .inBlock 0, .code (cAt (bodyOf Try.f92) [1, 1, 1])] (FSs v i s) [] 1 (FSs v (i + 1) ((((((((s ++ sSp) ++ p) ++ sCol) ++ a) ++ sDash) ++ b) ++ sC) ++ c)) =
    some ([.code (cAt (bodyOf Try.f92) [1, 1, 0, 1, 0, 0]), .inLoop (cAt (bodyOf Try.f92) [1, 1, 0, 1, 0, 0]), .inBlock 0, .code (cAt (bodyOf Try.f92) [1, 1, 1])], [((decide ((↑i : Int) < (↑v.1 : Int))) = true),
  ((0 : Int) ≤ (↑i : Int)),
  (((↑i : Int) : Int) < (↑v.1 : Int)),
  ((0 : Nat) < 1),
  ((true = true) → (AN 1)),
  ((decide ((↑i : Int) > 0)) = true),
  (((s.size + (ByteArray.mk #[32]).size) : Nat) ≤ 9223372036854775807),
  ((0 : Nat) < 1),
  (((v.2 i).1 == 0) = false),
  (((v.2 i).1 == 1) = false),
  (((v.2 i).1 == 2) = true),
  ((0 : Nat) < 1),
  Con Try.prog 58 0 [] [.p (.int .i64 ((v.2 i).2.1))] [] (.p (.str p)),
  ((((s ++ ByteArray.mk #[32]).size + p.size) : Nat) ≤ 9223372036854775807),
  ((((s ++ ByteArray.mk #[32] ++ p).size + (ByteArray.mk #[58]).size) : Nat) ≤ 9223372036854775807),
  ((0 : Nat) < 1),
  Con Try.prog 58 0 [] [.p (.int .i64 ((v.2 i).2.2.1))] [] (.p (.str a)),
  ((((s ++ ByteArray.mk #[32] ++ p ++ ByteArray.mk #[58]).size + a.size) : Nat) ≤ 9223372036854775807),
  ((((s ++ ByteArray.mk #[32] ++ p ++ ByteArray.mk #[58] ++ a).size + (ByteArray.mk #[45]).size) : Nat) ≤ 9223372036854775807),
  ((0 : Nat) < 1),
  Con Try.prog 58 0 [] [.p (.int .i64 ((v.2 i).2.2.2.1))] [] (.p (.str b)),
  ((((s ++ ByteArray.mk #[32] ++ p ++ ByteArray.mk #[58] ++ a ++ ByteArray.mk #[45]).size + b.size) : Nat) ≤ 9223372036854775807),
  ((((s ++ ByteArray.mk #[32] ++ p ++ ByteArray.mk #[58] ++ a ++ ByteArray.mk #[45] ++ b).size + (ByteArray.mk #[44]).size) : Nat) ≤ 9223372036854775807),
  ((0 : Nat) < 1),
  Con Try.prog 58 0 [] [.p (.int .i64 ((v.2 i).2.2.2.2.1))] [] (.p (.str c)),
  ((((s ++ ByteArray.mk #[32] ++ p ++ ByteArray.mk #[58] ++ a ++ ByteArray.mk #[45] ++ b ++ ByteArray.mk #[44]).size + c.size) : Nat) ≤ 9223372036854775807),
  (((-9223372036854775808) : Int) ≤ ((↑i : Int) + 1)),
  ((((↑i : Int) + 1) : Int) ≤ 9223372036854775807),
  (AN v.1),
  (AP v.1 (fun i_1 => [.int .i64 ((v.2 i_1).1), .int .i64 ((v.2 i_1).2.1), .int .i64 ((v.2 i_1).2.2.1), .int .i64 ((v.2 i_1).2.2.2.1), .int .i64 ((v.2 i_1).2.2.2.2.1)])),
  (s ++ ByteArray.mk #[32] ++ p ++ ByteArray.mk #[58] ++ a ++ ByteArray.mk #[45] ++ b ++ ByteArray.mk #[44] ++ c = s ++ sSp ++ p ++ sCol ++ a ++ sDash ++ b ++ sC ++ c),
  ((((↑i : Int) + 1) : Int) = (↑(i + 1) : Int))]) := by kernel_rfl
theorem zSd0 (v : T_StepS) (i : Nat) (s p a b c : ByteArray) :
    pieceOb Try.prog 0 [.reg [oT, oT, oT, oT], .dec true, .reg [oT, oT, oT, oT, oT, oT], .reg [oT, oT], .dec false, .reg [oT, oT], .reg [oT, oT], .dec false, .reg [oT, oT], .dec false, .reg [oT, oT], .dec false, .reg [oT, oT, oT], .reg [oT, oT, oT], .head] [.code (cAt (bodyOf Try.f92) [1, 1, 0, 1, 0, 0]), .inLoop (cAt (bodyOf Try.f92) [1, 1, 0, 1, 0, 0]), .inBlock 0, .code (cAt (bodyOf Try.f92) [1, 1, 1])] (FSs v i s) [] 1 (FSs v (i + 1) (s ++ sQ)) =
    some ([.code (cAt (bodyOf Try.f92) [1, 1, 0, 1, 0, 0]), .inLoop (cAt (bodyOf Try.f92) [1, 1, 0, 1, 0, 0]), .inBlock 0, .code (cAt (bodyOf Try.f92) [1, 1, 1])], [((decide ((↑i : Int) < (↑v.1 : Int))) = true),
  ((0 : Int) ≤ (↑i : Int)),
  (((↑i : Int) : Int) < (↑v.1 : Int)),
  ((0 : Nat) < 1),
  ((true = true) → (AN 1)),
  ((decide ((↑i : Int) > 0)) = false),
  ((0 : Nat) < 1),
  (((v.2 i).1 == 0) = false),
  (((v.2 i).1 == 1) = false),
  (((v.2 i).1 == 2) = false),
  (((s.size + (ByteArray.mk #[63]).size) : Nat) ≤ 9223372036854775807),
  (((-9223372036854775808) : Int) ≤ ((↑i : Int) + 1)),
  ((((↑i : Int) + 1) : Int) ≤ 9223372036854775807),
  (AN v.1),
  (AP v.1 (fun i_1 => [.int .i64 ((v.2 i_1).1), .int .i64 ((v.2 i_1).2.1), .int .i64 ((v.2 i_1).2.2.1), .int .i64 ((v.2 i_1).2.2.2.1), .int .i64 ((v.2 i_1).2.2.2.2.1)])),
  (s ++ ByteArray.mk #[63] = s ++ sQ),
  ((((↑i : Int) + 1) : Int) = (↑(i + 1) : Int))]) := by kernel_rfl
theorem zSd1 (v : T_StepS) (i : Nat) (s p a b c : ByteArray) :
    pieceOb Try.prog 0 [.reg [oT, oT, oT, oT], .dec true, .reg [oT, oT, oT, oT, oT, oT], .reg [oT, oT], .dec true, .reg [oT, oT, oT], .reg [oT, oT], .reg [oT, oT], .dec false, .reg [oT, oT], .dec false, .reg [oT, oT], .dec false, .reg [oT, oT, oT], .reg [oT, oT, oT], .head] [.code (cAt (bodyOf Try.f92) [1, 1, 0, 1, 0, 0]), .inLoop (cAt (bodyOf Try.f92) [1, 1, 0, 1, 0, 0]), .inBlock 0, .code (cAt (bodyOf Try.f92) [1, 1, 1])] (FSs v i s) [] 1 (FSs v (i + 1) ((s ++ sSp) ++ sQ)) =
    some ([.code (cAt (bodyOf Try.f92) [1, 1, 0, 1, 0, 0]), .inLoop (cAt (bodyOf Try.f92) [1, 1, 0, 1, 0, 0]), .inBlock 0, .code (cAt (bodyOf Try.f92) [1, 1, 1])], [((decide ((↑i : Int) < (↑v.1 : Int))) = true),
  ((0 : Int) ≤ (↑i : Int)),
  (((↑i : Int) : Int) < (↑v.1 : Int)),
  ((0 : Nat) < 1),
  ((true = true) → (AN 1)),
  ((decide ((↑i : Int) > 0)) = true),
  (((s.size + (ByteArray.mk #[32]).size) : Nat) ≤ 9223372036854775807),
  ((0 : Nat) < 1),
  (((v.2 i).1 == 0) = false),
  (((v.2 i).1 == 1) = false),
  (((v.2 i).1 == 2) = false),
  ((((s ++ ByteArray.mk #[32]).size + (ByteArray.mk #[63]).size) : Nat) ≤ 9223372036854775807),
  (((-9223372036854775808) : Int) ≤ ((↑i : Int) + 1)),
  ((((↑i : Int) + 1) : Int) ≤ 9223372036854775807),
  (AN v.1),
  (AP v.1 (fun i_1 => [.int .i64 ((v.2 i_1).1), .int .i64 ((v.2 i_1).2.1), .int .i64 ((v.2 i_1).2.2.1), .int .i64 ((v.2 i_1).2.2.2.1), .int .i64 ((v.2 i_1).2.2.2.2.1)])),
  (s ++ ByteArray.mk #[32] ++ ByteArray.mk #[63] = s ++ sSp ++ sQ),
  ((((↑i : Int) + 1) : Int) = (↑(i + 1) : Int))]) := by kernel_rfl
theorem zSn (v : T_StepS) (i : Nat) (s : ByteArray) :
    pathOb Try.prog Try.f92 0 [.reg [oT, oT, oT, oT], .dec false, .reg [oT, oT], .dec true, .reg [oT]] [.code (cAt (bodyOf Try.f92) [1, 1, 0, 1, 0, 0]), .inLoop (cAt (bodyOf Try.f92) [1, 1, 0, 1, 0, 0]), .inBlock 0, .code (cAt (bodyOf Try.f92) [1, 1, 1])] (FSs v i s) [] 1 [] (.p (.str sNone)) =
    some [((decide ((↑i : Int) < (↑v.1 : Int))) = false),
  ((s.toList == (ByteArray.mk #[]).toList) = true),
  (ByteArray.mk #[110, 111, 110, 101] = sNone)] := by kernel_rfl
theorem zSe (v : T_StepS) (i : Nat) (s : ByteArray) :
    pathOb Try.prog Try.f92 0 [.reg [oT, oT, oT, oT], .dec false, .reg [oT, oT], .dec false, .reg [oT, oT]] [.code (cAt (bodyOf Try.f92) [1, 1, 0, 1, 0, 0]), .inLoop (cAt (bodyOf Try.f92) [1, 1, 0, 1, 0, 0]), .inBlock 0, .code (cAt (bodyOf Try.f92) [1, 1, 1])] (FSs v i s) [] 1 [] (.p (.str s)) =
    some [((decide ((↑i : Int) < (↑v.1 : Int))) = false),
  ((s.toList == (ByteArray.mk #[]).toList) = false),
  (s = s)] := by kernel_rfl
theorem yW1 (x : Unit) :
    pathOb Try.prog Try.f96 0 [.reg [oT], .reg [oT, ⟨true, (some ⟨[], [], [], 1, [], .p (.bool true)⟩), none⟩, oT], .dec false, .reg [oT, oT, oT, oT, oT, oT]] [.code (bodyOf Try.f96)] (start Try.f96 [] 0 [.p (.int .i64 1)]) [] 1 [] (.p (.str wd_rigid)) =
    some [Con Try.prog 40 0 [] [.p (.int .i64 1), .p (.int .i64 1), .p (.int .i64 6)] [] (.p (.bool true)),
  ((!true) = false),
  (((-9223372036854775808) : Int) ≤ (1 - 1)),
  (((1 - 1) : Int) ≤ 9223372036854775807),
  ((0 : Int) ≤ (1 - 1)),
  (((1 - 1) : Int) < (↑6 : Int)),
  ((0 : Nat) < 6),
  (ByteArray.mk #[114, 105, 103, 105, 100] = wd_rigid)] := by kernel_rfl
theorem yW2 (x : Unit) :
    pathOb Try.prog Try.f96 0 [.reg [oT], .reg [oT, ⟨true, (some ⟨[], [], [], 1, [], .p (.bool true)⟩), none⟩, oT], .dec false, .reg [oT, oT, oT, oT, oT, oT]] [.code (bodyOf Try.f96)] (start Try.f96 [] 0 [.p (.int .i64 2)]) [] 1 [] (.p (.str wd_flexible)) =
    some [Con Try.prog 40 0 [] [.p (.int .i64 2), .p (.int .i64 1), .p (.int .i64 6)] [] (.p (.bool true)),
  ((!true) = false),
  (((-9223372036854775808) : Int) ≤ (2 - 1)),
  (((2 - 1) : Int) ≤ 9223372036854775807),
  ((0 : Int) ≤ (2 - 1)),
  (((2 - 1) : Int) < (↑6 : Int)),
  ((1 : Nat) < 6),
  (ByteArray.mk #[102, 108, 101, 120, 105, 98, 108, 101] = wd_flexible)] := by kernel_rfl
theorem yW3 (x : Unit) :
    pathOb Try.prog Try.f96 0 [.reg [oT], .reg [oT, ⟨true, (some ⟨[], [], [], 1, [], .p (.bool true)⟩), none⟩, oT], .dec false, .reg [oT, oT, oT, oT, oT, oT]] [.code (bodyOf Try.f96)] (start Try.f96 [] 0 [.p (.int .i64 3)]) [] 1 [] (.p (.str wd_dependent)) =
    some [Con Try.prog 40 0 [] [.p (.int .i64 3), .p (.int .i64 1), .p (.int .i64 6)] [] (.p (.bool true)),
  ((!true) = false),
  (((-9223372036854775808) : Int) ≤ (3 - 1)),
  (((3 - 1) : Int) ≤ 9223372036854775807),
  ((0 : Int) ≤ (3 - 1)),
  (((3 - 1) : Int) < (↑6 : Int)),
  ((2 : Nat) < 6),
  (ByteArray.mk #[100, 101, 112, 101, 110, 100, 101, 110, 116] = wd_dependent)] := by kernel_rfl
theorem yW4 (x : Unit) :
    pathOb Try.prog Try.f96 0 [.reg [oT], .reg [oT, ⟨true, (some ⟨[], [], [], 1, [], .p (.bool true)⟩), none⟩, oT], .dec false, .reg [oT, oT, oT, oT, oT, oT]] [.code (bodyOf Try.f96)] (start Try.f96 [] 0 [.p (.int .i64 4)]) [] 1 [] (.p (.str wd_stiff)) =
    some [Con Try.prog 40 0 [] [.p (.int .i64 4), .p (.int .i64 1), .p (.int .i64 6)] [] (.p (.bool true)),
  ((!true) = false),
  (((-9223372036854775808) : Int) ≤ (4 - 1)),
  (((4 - 1) : Int) ≤ 9223372036854775807),
  ((0 : Int) ≤ (4 - 1)),
  (((4 - 1) : Int) < (↑6 : Int)),
  ((3 : Nat) < 6),
  (ByteArray.mk #[115, 116, 105, 102, 102] = wd_stiff)] := by kernel_rfl
theorem yW5 (x : Unit) :
    pathOb Try.prog Try.f96 0 [.reg [oT], .reg [oT, ⟨true, (some ⟨[], [], [], 1, [], .p (.bool true)⟩), none⟩, oT], .dec false, .reg [oT, oT, oT, oT, oT, oT]] [.code (bodyOf Try.f96)] (start Try.f96 [] 0 [.p (.int .i64 5)]) [] 1 [] (.p (.str wd_loose)) =
    some [Con Try.prog 40 0 [] [.p (.int .i64 5), .p (.int .i64 1), .p (.int .i64 6)] [] (.p (.bool true)),
  ((!true) = false),
  (((-9223372036854775808) : Int) ≤ (5 - 1)),
  (((5 - 1) : Int) ≤ 9223372036854775807),
  ((0 : Int) ≤ (5 - 1)),
  (((5 - 1) : Int) < (↑6 : Int)),
  ((4 : Nat) < 6),
  (ByteArray.mk #[108, 111, 111, 115, 101] = wd_loose)] := by kernel_rfl
theorem yW6 (x : Unit) :
    pathOb Try.prog Try.f96 0 [.reg [oT], .reg [oT, ⟨true, (some ⟨[], [], [], 1, [], .p (.bool true)⟩), none⟩, oT], .dec false, .reg [oT, oT, oT, oT, oT, oT]] [.code (bodyOf Try.f96)] (start Try.f96 [] 0 [.p (.int .i64 6)]) [] 1 [] (.p (.str wd_tight)) =
    some [Con Try.prog 40 0 [] [.p (.int .i64 6), .p (.int .i64 1), .p (.int .i64 6)] [] (.p (.bool true)),
  ((!true) = false),
  (((-9223372036854775808) : Int) ≤ (6 - 1)),
  (((6 - 1) : Int) ≤ 9223372036854775807),
  ((0 : Int) ≤ (6 - 1)),
  (((6 - 1) : Int) < (↑6 : Int)),
  ((5 : Nat) < 6),
  (ByteArray.mk #[116, 105, 103, 104, 116] = wd_tight)] := by kernel_rfl
theorem yW0 (k : Int) :
    pathOb Try.prog Try.f96 0 [.reg [oT], .reg [oT, ⟨true, (some ⟨[], [], [], 1, [], .p (.bool false)⟩), none⟩, oT], .dec true, .reg [oT]] [.code (bodyOf Try.f96)] (start Try.f96 [] 0 [.p (.int .i64 k)]) [] 1 [] (.p (.str sE)) =
    some [Con Try.prog 40 0 [] [.p (.int .i64 k), .p (.int .i64 1), .p (.int .i64 6)] [] (.p (.bool false)),
  ((!false) = true),
  (ByteArray.mk #[] = sE)] := by kernel_rfl
theorem zW1 (x : Unit) :
    pathOb Try.prog Try.f86 0 [.reg [oT], .reg [oT, ⟨true, (some ⟨[], [], [], 1, [], .p (.bool true)⟩), none⟩, oT], .dec false, .reg [oT, oT, oT, oT, oT, oT]] [.code (bodyOf Try.f86)] (start Try.f86 [] 0 [.p (.int .i64 1)]) [] 1 [] (.p (.str wd_rigid)) =
    some [Con Try.prog 37 0 [] [.p (.int .i64 1), .p (.int .i64 1), .p (.int .i64 6)] [] (.p (.bool true)),
  ((!true) = false),
  (((-9223372036854775808) : Int) ≤ (1 - 1)),
  (((1 - 1) : Int) ≤ 9223372036854775807),
  ((0 : Int) ≤ (1 - 1)),
  (((1 - 1) : Int) < (↑6 : Int)),
  ((0 : Nat) < 6),
  (ByteArray.mk #[114, 105, 103, 105, 100] = wd_rigid)] := by kernel_rfl
theorem zW2 (x : Unit) :
    pathOb Try.prog Try.f86 0 [.reg [oT], .reg [oT, ⟨true, (some ⟨[], [], [], 1, [], .p (.bool true)⟩), none⟩, oT], .dec false, .reg [oT, oT, oT, oT, oT, oT]] [.code (bodyOf Try.f86)] (start Try.f86 [] 0 [.p (.int .i64 2)]) [] 1 [] (.p (.str wd_flexible)) =
    some [Con Try.prog 37 0 [] [.p (.int .i64 2), .p (.int .i64 1), .p (.int .i64 6)] [] (.p (.bool true)),
  ((!true) = false),
  (((-9223372036854775808) : Int) ≤ (2 - 1)),
  (((2 - 1) : Int) ≤ 9223372036854775807),
  ((0 : Int) ≤ (2 - 1)),
  (((2 - 1) : Int) < (↑6 : Int)),
  ((1 : Nat) < 6),
  (ByteArray.mk #[102, 108, 101, 120, 105, 98, 108, 101] = wd_flexible)] := by kernel_rfl
theorem zW3 (x : Unit) :
    pathOb Try.prog Try.f86 0 [.reg [oT], .reg [oT, ⟨true, (some ⟨[], [], [], 1, [], .p (.bool true)⟩), none⟩, oT], .dec false, .reg [oT, oT, oT, oT, oT, oT]] [.code (bodyOf Try.f86)] (start Try.f86 [] 0 [.p (.int .i64 3)]) [] 1 [] (.p (.str wd_dependent)) =
    some [Con Try.prog 37 0 [] [.p (.int .i64 3), .p (.int .i64 1), .p (.int .i64 6)] [] (.p (.bool true)),
  ((!true) = false),
  (((-9223372036854775808) : Int) ≤ (3 - 1)),
  (((3 - 1) : Int) ≤ 9223372036854775807),
  ((0 : Int) ≤ (3 - 1)),
  (((3 - 1) : Int) < (↑6 : Int)),
  ((2 : Nat) < 6),
  (ByteArray.mk #[100, 101, 112, 101, 110, 100, 101, 110, 116] = wd_dependent)] := by kernel_rfl
theorem zW4 (x : Unit) :
    pathOb Try.prog Try.f86 0 [.reg [oT], .reg [oT, ⟨true, (some ⟨[], [], [], 1, [], .p (.bool true)⟩), none⟩, oT], .dec false, .reg [oT, oT, oT, oT, oT, oT]] [.code (bodyOf Try.f86)] (start Try.f86 [] 0 [.p (.int .i64 4)]) [] 1 [] (.p (.str wd_stiff)) =
    some [Con Try.prog 37 0 [] [.p (.int .i64 4), .p (.int .i64 1), .p (.int .i64 6)] [] (.p (.bool true)),
  ((!true) = false),
  (((-9223372036854775808) : Int) ≤ (4 - 1)),
  (((4 - 1) : Int) ≤ 9223372036854775807),
  ((0 : Int) ≤ (4 - 1)),
  (((4 - 1) : Int) < (↑6 : Int)),
  ((3 : Nat) < 6),
  (ByteArray.mk #[115, 116, 105, 102, 102] = wd_stiff)] := by kernel_rfl
theorem zW5 (x : Unit) :
    pathOb Try.prog Try.f86 0 [.reg [oT], .reg [oT, ⟨true, (some ⟨[], [], [], 1, [], .p (.bool true)⟩), none⟩, oT], .dec false, .reg [oT, oT, oT, oT, oT, oT]] [.code (bodyOf Try.f86)] (start Try.f86 [] 0 [.p (.int .i64 5)]) [] 1 [] (.p (.str wd_loose)) =
    some [Con Try.prog 37 0 [] [.p (.int .i64 5), .p (.int .i64 1), .p (.int .i64 6)] [] (.p (.bool true)),
  ((!true) = false),
  (((-9223372036854775808) : Int) ≤ (5 - 1)),
  (((5 - 1) : Int) ≤ 9223372036854775807),
  ((0 : Int) ≤ (5 - 1)),
  (((5 - 1) : Int) < (↑6 : Int)),
  ((4 : Nat) < 6),
  (ByteArray.mk #[108, 111, 111, 115, 101] = wd_loose)] := by kernel_rfl
theorem zW6 (x : Unit) :
    pathOb Try.prog Try.f86 0 [.reg [oT], .reg [oT, ⟨true, (some ⟨[], [], [], 1, [], .p (.bool true)⟩), none⟩, oT], .dec false, .reg [oT, oT, oT, oT, oT, oT]] [.code (bodyOf Try.f86)] (start Try.f86 [] 0 [.p (.int .i64 6)]) [] 1 [] (.p (.str wd_tight)) =
    some [Con Try.prog 37 0 [] [.p (.int .i64 6), .p (.int .i64 1), .p (.int .i64 6)] [] (.p (.bool true)),
  ((!true) = false),
  (((-9223372036854775808) : Int) ≤ (6 - 1)),
  (((6 - 1) : Int) ≤ 9223372036854775807),
  ((0 : Int) ≤ (6 - 1)),
  (((6 - 1) : Int) < (↑6 : Int)),
  ((5 : Nat) < 6),
  (ByteArray.mk #[116, 105, 103, 104, 116] = wd_tight)] := by kernel_rfl
theorem zW0 (k : Int) :
    pathOb Try.prog Try.f86 0 [.reg [oT], .reg [oT, ⟨true, (some ⟨[], [], [], 1, [], .p (.bool false)⟩), none⟩, oT], .dec true, .reg [oT]] [.code (bodyOf Try.f86)] (start Try.f86 [] 0 [.p (.int .i64 k)]) [] 1 [] (.p (.str sE)) =
    some [Con Try.prog 37 0 [] [.p (.int .i64 k), .p (.int .i64 1), .p (.int .i64 6)] [] (.p (.bool false)),
  ((!false) = true),
  (ByteArray.mk #[] = sE)] := by kernel_rfl
theorem yC4n (K : Int) (g1 : Nat → T_Bar) (nb1 : Nat) (N1 : Int) (g : Nat → T_Bar) (nb : Nat) (N : Int) (pl : Nat → T_Place) (np : Nat) (w : T_IntS) (v : T_StepS) (u : T_IntS) (wd f : ByteArray) :
    pathOb Try.prog Try.f33 0 [.reg [oT, oT], .reg [oT, oT, ⟨true, (some ⟨[], [], [], 1, [], .p (.str wd)⟩), none⟩, oT], .reg [oT, oT], .reg [oT, oT], .dec true, .dec true, .reg [oT, oT, ⟨true, (some ⟨[], [], [], 1, [], .p (.bool false)⟩), none⟩, oT], .dec true, .reg [oT]] [.code (bodyOf Try.f33)] (start Try.f33 [] 0 [clA K g1 nb1 N1 g nb N pl np w v u]) [] 1 [] (.p (.str sE)) =
    some [((0 : Nat) < 1),
  Con Try.prog 96 0 [] [.p (.int .i64 K)] [] (.p (.str wd)),
  ((0 : Nat) < 1),
  ((K == 4) = true),
  ((K == 4) = true),
  ((0 : Nat) < 1),
  Con Try.prog 97 0 [] [.agg [.p (.int .i64 N), .p (.seq true 2 nb (fun i => [.int .i64 ((g i).1), .int .i64 ((g i).2.1)])), .p (.seq true 2 np (fun i => [.int .i64 ((pl i).1), .int .i64 ((pl i).2.1)])), .p (.seq true 1 w.1 (fun i => [.int .i64 (w.2 i)]))]] [] (.p (.bool false)),
  ((!false) = true),
  (ByteArray.mk #[] = sE)] := by kernel_rfl
theorem yC4y (K : Int) (g1 : Nat → T_Bar) (nb1 : Nat) (N1 : Int) (g : Nat → T_Bar) (nb : Nat) (N : Int) (pl : Nat → T_Place) (np : Nat) (w : T_IntS) (v : T_StepS) (u : T_IntS) (wd f kk l : ByteArray) :
    pathOb Try.prog Try.f33 0 [.reg [oT, oT], .reg [oT, oT, ⟨true, (some ⟨[], [], [], 1, [], .p (.str wd)⟩), none⟩, oT], .reg [oT, oT], .reg [oT, oT], .dec true, .dec true, .reg [oT, oT, ⟨true, (some ⟨[], [], [], 1, [], .p (.bool true)⟩), none⟩, oT], .dec false, .reg [oT, oT, oT, oT, oT, ⟨true, (some ⟨[], [], [], 1, [], .p (.str f)⟩), none⟩, oT, oT, oT, oT, oT, ⟨true, (some ⟨[], [], [], 1, [], .p (.str kk)⟩), none⟩, oT, oT, oT, oT, ⟨true, (some ⟨[], [], [], 1, [], .p (.str l)⟩), none⟩, oT, oT]] [.code (bodyOf Try.f33)] (start Try.f33 [] 0 [clA K g1 nb1 N1 g nb N pl np w v u]) [] 1 [] (.p (.str ((((((wd ++ sSp) ++ f) ++ sKin) ++ kk) ++ sBy) ++ l))) =
    some [((0 : Nat) < 1),
  Con Try.prog 96 0 [] [.p (.int .i64 K)] [] (.p (.str wd)),
  ((0 : Nat) < 1),
  ((K == 4) = true),
  ((K == 4) = true),
  ((0 : Nat) < 1),
  Con Try.prog 97 0 [] [.agg [.p (.int .i64 N), .p (.seq true 2 nb (fun i => [.int .i64 ((g i).1), .int .i64 ((g i).2.1)])), .p (.seq true 2 np (fun i => [.int .i64 ((pl i).1), .int .i64 ((pl i).2.1)])), .p (.seq true 1 w.1 (fun i => [.int .i64 (w.2 i)]))]] [] (.p (.bool true)),
  ((!true) = false),
  (((wd.size + (ByteArray.mk #[32]).size) : Nat) ≤ 9223372036854775807),
  ((0 : Nat) < 1),
  Con Try.prog 98 0 [] [.agg [.p (.int .i64 N), .p (.seq true 2 nb (fun i => [.int .i64 ((g i).1), .int .i64 ((g i).2.1)])), .p (.seq true 2 np (fun i => [.int .i64 ((pl i).1), .int .i64 ((pl i).2.1)]))]] [] (.p (.str f)),
  ((((wd ++ ByteArray.mk #[32]).size + f.size) : Nat) ≤ 9223372036854775807),
  ((((wd ++ ByteArray.mk #[32] ++ f).size + (ByteArray.mk #[32, 107, 105, 110, 100, 115, 32]).size) : Nat) ≤ 9223372036854775807),
  ((0 : Nat) < 1),
  Con Try.prog 99 0 [] [.p (.seq true 1 w.1 (fun i => [.int .i64 (w.2 i)]))] [] (.p (.str kk)),
  ((((wd ++ ByteArray.mk #[32] ++ f ++ ByteArray.mk #[32, 107, 105, 110, 100, 115, 32]).size + kk.size) : Nat) ≤ 9223372036854775807),
  ((((wd ++ ByteArray.mk #[32] ++ f ++ ByteArray.mk #[32, 107, 105, 110, 100, 115, 32] ++ kk).size + (ByteArray.mk #[32, 98, 121, 32]).size) : Nat) ≤ 9223372036854775807),
  ((0 : Nat) < 1),
  Con Try.prog 100 0 [] [.p (.seq true 1 u.1 (fun i => [.int .i64 (u.2 i)]))] [] (.p (.str l)),
  ((((wd ++ ByteArray.mk #[32] ++ f ++ ByteArray.mk #[32, 107, 105, 110, 100, 115, 32] ++ kk ++ ByteArray.mk #[32, 98, 121, 32]).size + l.size) : Nat) ≤ 9223372036854775807),
  (wd ++ ByteArray.mk #[32] ++ f ++ ByteArray.mk #[32, 107, 105, 110, 100, 115, 32] ++ kk ++ ByteArray.mk #[32, 98, 121, 32] ++ l = wd ++ sSp ++ f ++ sKin ++ kk ++ sBy ++ l)] := by kernel_rfl
theorem zC4n (K : Int) (g1 : Nat → T_Bar) (nb1 : Nat) (N1 : Int) (g : Nat → T_Bar) (nb : Nat) (N : Int) (pl : Nat → T_Place) (np : Nat) (w : T_IntS) (v : T_StepS) (u : T_IntS) (wd f : ByteArray) :
    pathOb Try.prog Try.f31 0 [.reg [oT, oT], .reg [oT, oT, ⟨true, (some ⟨[], [], [], 1, [], .p (.str wd)⟩), none⟩, oT], .reg [oT, oT], .reg [oT, oT], .dec true, .dec true, .reg [oT, oT, oT, ⟨true, (some ⟨[], [], [], 1, [], .p (.str f)⟩), none⟩, oT], .reg [oT, oT, ⟨true, (some ⟨[], [], [], 1, [], .p (.bool false)⟩), none⟩, oT], .dec true, .reg [oT]] [.code (bodyOf Try.f31)] (start Try.f31 [] 0 [clA K g1 nb1 N1 g nb N pl np w v u]) [] 1 [] (.p (.str sE)) =
    some [((0 : Nat) < 1),
  Con Try.prog 86 0 [] [.p (.int .i64 K)] [] (.p (.str wd)),
  ((0 : Nat) < 1),
  ((K == 4) = true),
  ((K == 4) = true),
  ((0 : Nat) < 1),
  Con Try.prog 87 0 [] [.agg [.p (.int .i64 N), .p (.seq true 2 nb (fun i => [.int .i64 ((g i).1), .int .i64 ((g i).2.1)])), .p (.seq true 2 np (fun i => [.int .i64 ((pl i).1), .int .i64 ((pl i).2.1)]))]] [] (.p (.str f)),
  ((0 : Nat) < 1),
  Con Try.prog 88 0 [] [.agg [.p (.int .i64 N), .p (.seq true 2 nb (fun i => [.int .i64 ((g i).1), .int .i64 ((g i).2.1)])), .p (.seq true 2 np (fun i => [.int .i64 ((pl i).1), .int .i64 ((pl i).2.1)])), .p (.seq true 1 w.1 (fun i => [.int .i64 (w.2 i)]))]] [] (.p (.bool false)),
  ((!false) = true),
  (ByteArray.mk #[] = sE)] := by kernel_rfl
theorem zC4y (K : Int) (g1 : Nat → T_Bar) (nb1 : Nat) (N1 : Int) (g : Nat → T_Bar) (nb : Nat) (N : Int) (pl : Nat → T_Place) (np : Nat) (w : T_IntS) (v : T_StepS) (u : T_IntS) (wd f kk l : ByteArray) :
    pathOb Try.prog Try.f31 0 [.reg [oT, oT], .reg [oT, oT, ⟨true, (some ⟨[], [], [], 1, [], .p (.str wd)⟩), none⟩, oT], .reg [oT, oT], .reg [oT, oT], .dec true, .dec true, .reg [oT, oT, oT, ⟨true, (some ⟨[], [], [], 1, [], .p (.str f)⟩), none⟩, oT], .reg [oT, oT, ⟨true, (some ⟨[], [], [], 1, [], .p (.bool true)⟩), none⟩, oT], .dec false, .reg [oT, oT, oT, oT, oT, oT, oT, oT, ⟨true, (some ⟨[], [], [], 1, [], .p (.str kk)⟩), none⟩, oT, oT, oT, oT, ⟨true, (some ⟨[], [], [], 1, [], .p (.str l)⟩), none⟩, oT, oT]] [.code (bodyOf Try.f31)] (start Try.f31 [] 0 [clA K g1 nb1 N1 g nb N pl np w v u]) [] 1 [] (.p (.str ((((((wd ++ sSp) ++ f) ++ sKin) ++ kk) ++ sBy) ++ l))) =
    some [((0 : Nat) < 1),
  Con Try.prog 86 0 [] [.p (.int .i64 K)] [] (.p (.str wd)),
  ((0 : Nat) < 1),
  ((K == 4) = true),
  ((K == 4) = true),
  ((0 : Nat) < 1),
  Con Try.prog 87 0 [] [.agg [.p (.int .i64 N), .p (.seq true 2 nb (fun i => [.int .i64 ((g i).1), .int .i64 ((g i).2.1)])), .p (.seq true 2 np (fun i => [.int .i64 ((pl i).1), .int .i64 ((pl i).2.1)]))]] [] (.p (.str f)),
  ((0 : Nat) < 1),
  Con Try.prog 88 0 [] [.agg [.p (.int .i64 N), .p (.seq true 2 nb (fun i => [.int .i64 ((g i).1), .int .i64 ((g i).2.1)])), .p (.seq true 2 np (fun i => [.int .i64 ((pl i).1), .int .i64 ((pl i).2.1)])), .p (.seq true 1 w.1 (fun i => [.int .i64 (w.2 i)]))]] [] (.p (.bool true)),
  ((!true) = false),
  (((wd.size + (ByteArray.mk #[32]).size) : Nat) ≤ 9223372036854775807),
  ((((wd ++ ByteArray.mk #[32]).size + f.size) : Nat) ≤ 9223372036854775807),
  ((((wd ++ ByteArray.mk #[32] ++ f).size + (ByteArray.mk #[32, 107, 105, 110, 100, 115, 32]).size) : Nat) ≤ 9223372036854775807),
  ((0 : Nat) < 1),
  Con Try.prog 89 0 [] [.p (.seq true 1 w.1 (fun i => [.int .i64 (w.2 i)]))] [] (.p (.str kk)),
  ((((wd ++ ByteArray.mk #[32] ++ f ++ ByteArray.mk #[32, 107, 105, 110, 100, 115, 32]).size + kk.size) : Nat) ≤ 9223372036854775807),
  ((((wd ++ ByteArray.mk #[32] ++ f ++ ByteArray.mk #[32, 107, 105, 110, 100, 115, 32] ++ kk).size + (ByteArray.mk #[32, 98, 121, 32]).size) : Nat) ≤ 9223372036854775807),
  ((0 : Nat) < 1),
  Con Try.prog 90 0 [] [.p (.seq true 1 u.1 (fun i => [.int .i64 (u.2 i)]))] [] (.p (.str l)),
  ((((wd ++ ByteArray.mk #[32] ++ f ++ ByteArray.mk #[32, 107, 105, 110, 100, 115, 32] ++ kk ++ ByteArray.mk #[32, 98, 121, 32]).size + l.size) : Nat) ≤ 9223372036854775807),
  (wd ++ ByteArray.mk #[32] ++ f ++ ByteArray.mk #[32, 107, 105, 110, 100, 115, 32] ++ kk ++ ByteArray.mk #[32, 98, 121, 32] ++ l = wd ++ sSp ++ f ++ sKin ++ kk ++ sBy ++ l)] := by kernel_rfl
theorem yC5n (K : Int) (g1 : Nat → T_Bar) (nb1 : Nat) (N1 : Int) (g : Nat → T_Bar) (nb : Nat) (N : Int) (pl : Nat → T_Place) (np : Nat) (w : T_IntS) (v : T_StepS) (u : T_IntS) (wd f : ByteArray) :
    pathOb Try.prog Try.f33 0 [.reg [oT, oT], .reg [oT, oT, ⟨true, (some ⟨[], [], [], 1, [], .p (.str wd)⟩), none⟩, oT], .reg [oT, oT], .reg [oT, oT], .dec false, .reg [oT, oT], .dec true, .reg [oT, oT, ⟨true, (some ⟨[], [], [], 1, [], .p (.bool false)⟩), none⟩, oT], .dec true, .reg [oT]] [.code (bodyOf Try.f33)] (start Try.f33 [] 0 [clA K g1 nb1 N1 g nb N pl np w v u]) [] 1 [] (.p (.str sE)) =
    some [((0 : Nat) < 1),
  Con Try.prog 96 0 [] [.p (.int .i64 K)] [] (.p (.str wd)),
  ((0 : Nat) < 1),
  ((K == 4) = false),
  ((K == 5) = true),
  ((0 : Nat) < 1),
  Con Try.prog 97 0 [] [.agg [.p (.int .i64 N), .p (.seq true 2 nb (fun i => [.int .i64 ((g i).1), .int .i64 ((g i).2.1)])), .p (.seq true 2 np (fun i => [.int .i64 ((pl i).1), .int .i64 ((pl i).2.1)])), .p (.seq true 1 w.1 (fun i => [.int .i64 (w.2 i)]))]] [] (.p (.bool false)),
  ((!false) = true),
  (ByteArray.mk #[] = sE)] := by kernel_rfl
theorem yC5y (K : Int) (g1 : Nat → T_Bar) (nb1 : Nat) (N1 : Int) (g : Nat → T_Bar) (nb : Nat) (N : Int) (pl : Nat → T_Place) (np : Nat) (w : T_IntS) (v : T_StepS) (u : T_IntS) (wd f kk l : ByteArray) :
    pathOb Try.prog Try.f33 0 [.reg [oT, oT], .reg [oT, oT, ⟨true, (some ⟨[], [], [], 1, [], .p (.str wd)⟩), none⟩, oT], .reg [oT, oT], .reg [oT, oT], .dec false, .reg [oT, oT], .dec true, .reg [oT, oT, ⟨true, (some ⟨[], [], [], 1, [], .p (.bool true)⟩), none⟩, oT], .dec false, .reg [oT, oT, oT, oT, oT, ⟨true, (some ⟨[], [], [], 1, [], .p (.str f)⟩), none⟩, oT, oT, oT, oT, oT, ⟨true, (some ⟨[], [], [], 1, [], .p (.str kk)⟩), none⟩, oT, oT, oT, oT, ⟨true, (some ⟨[], [], [], 1, [], .p (.str l)⟩), none⟩, oT, oT]] [.code (bodyOf Try.f33)] (start Try.f33 [] 0 [clA K g1 nb1 N1 g nb N pl np w v u]) [] 1 [] (.p (.str ((((((wd ++ sSp) ++ f) ++ sKin) ++ kk) ++ sBy) ++ l))) =
    some [((0 : Nat) < 1),
  Con Try.prog 96 0 [] [.p (.int .i64 K)] [] (.p (.str wd)),
  ((0 : Nat) < 1),
  ((K == 4) = false),
  ((K == 5) = true),
  ((0 : Nat) < 1),
  Con Try.prog 97 0 [] [.agg [.p (.int .i64 N), .p (.seq true 2 nb (fun i => [.int .i64 ((g i).1), .int .i64 ((g i).2.1)])), .p (.seq true 2 np (fun i => [.int .i64 ((pl i).1), .int .i64 ((pl i).2.1)])), .p (.seq true 1 w.1 (fun i => [.int .i64 (w.2 i)]))]] [] (.p (.bool true)),
  ((!true) = false),
  (((wd.size + (ByteArray.mk #[32]).size) : Nat) ≤ 9223372036854775807),
  ((0 : Nat) < 1),
  Con Try.prog 98 0 [] [.agg [.p (.int .i64 N), .p (.seq true 2 nb (fun i => [.int .i64 ((g i).1), .int .i64 ((g i).2.1)])), .p (.seq true 2 np (fun i => [.int .i64 ((pl i).1), .int .i64 ((pl i).2.1)]))]] [] (.p (.str f)),
  ((((wd ++ ByteArray.mk #[32]).size + f.size) : Nat) ≤ 9223372036854775807),
  ((((wd ++ ByteArray.mk #[32] ++ f).size + (ByteArray.mk #[32, 107, 105, 110, 100, 115, 32]).size) : Nat) ≤ 9223372036854775807),
  ((0 : Nat) < 1),
  Con Try.prog 99 0 [] [.p (.seq true 1 w.1 (fun i => [.int .i64 (w.2 i)]))] [] (.p (.str kk)),
  ((((wd ++ ByteArray.mk #[32] ++ f ++ ByteArray.mk #[32, 107, 105, 110, 100, 115, 32]).size + kk.size) : Nat) ≤ 9223372036854775807),
  ((((wd ++ ByteArray.mk #[32] ++ f ++ ByteArray.mk #[32, 107, 105, 110, 100, 115, 32] ++ kk).size + (ByteArray.mk #[32, 98, 121, 32]).size) : Nat) ≤ 9223372036854775807),
  ((0 : Nat) < 1),
  Con Try.prog 100 0 [] [.p (.seq true 1 u.1 (fun i => [.int .i64 (u.2 i)]))] [] (.p (.str l)),
  ((((wd ++ ByteArray.mk #[32] ++ f ++ ByteArray.mk #[32, 107, 105, 110, 100, 115, 32] ++ kk ++ ByteArray.mk #[32, 98, 121, 32]).size + l.size) : Nat) ≤ 9223372036854775807),
  (wd ++ ByteArray.mk #[32] ++ f ++ ByteArray.mk #[32, 107, 105, 110, 100, 115, 32] ++ kk ++ ByteArray.mk #[32, 98, 121, 32] ++ l = wd ++ sSp ++ f ++ sKin ++ kk ++ sBy ++ l)] := by kernel_rfl
theorem zC5n (K : Int) (g1 : Nat → T_Bar) (nb1 : Nat) (N1 : Int) (g : Nat → T_Bar) (nb : Nat) (N : Int) (pl : Nat → T_Place) (np : Nat) (w : T_IntS) (v : T_StepS) (u : T_IntS) (wd f : ByteArray) :
    pathOb Try.prog Try.f31 0 [.reg [oT, oT], .reg [oT, oT, ⟨true, (some ⟨[], [], [], 1, [], .p (.str wd)⟩), none⟩, oT], .reg [oT, oT], .reg [oT, oT], .dec false, .reg [oT, oT], .dec true, .reg [oT, oT, oT, ⟨true, (some ⟨[], [], [], 1, [], .p (.str f)⟩), none⟩, oT], .reg [oT, oT, ⟨true, (some ⟨[], [], [], 1, [], .p (.bool false)⟩), none⟩, oT], .dec true, .reg [oT]] [.code (bodyOf Try.f31)] (start Try.f31 [] 0 [clA K g1 nb1 N1 g nb N pl np w v u]) [] 1 [] (.p (.str sE)) =
    some [((0 : Nat) < 1),
  Con Try.prog 86 0 [] [.p (.int .i64 K)] [] (.p (.str wd)),
  ((0 : Nat) < 1),
  ((K == 4) = false),
  ((K == 5) = true),
  ((0 : Nat) < 1),
  Con Try.prog 87 0 [] [.agg [.p (.int .i64 N), .p (.seq true 2 nb (fun i => [.int .i64 ((g i).1), .int .i64 ((g i).2.1)])), .p (.seq true 2 np (fun i => [.int .i64 ((pl i).1), .int .i64 ((pl i).2.1)]))]] [] (.p (.str f)),
  ((0 : Nat) < 1),
  Con Try.prog 88 0 [] [.agg [.p (.int .i64 N), .p (.seq true 2 nb (fun i => [.int .i64 ((g i).1), .int .i64 ((g i).2.1)])), .p (.seq true 2 np (fun i => [.int .i64 ((pl i).1), .int .i64 ((pl i).2.1)])), .p (.seq true 1 w.1 (fun i => [.int .i64 (w.2 i)]))]] [] (.p (.bool false)),
  ((!false) = true),
  (ByteArray.mk #[] = sE)] := by kernel_rfl
theorem zC5y (K : Int) (g1 : Nat → T_Bar) (nb1 : Nat) (N1 : Int) (g : Nat → T_Bar) (nb : Nat) (N : Int) (pl : Nat → T_Place) (np : Nat) (w : T_IntS) (v : T_StepS) (u : T_IntS) (wd f kk l : ByteArray) :
    pathOb Try.prog Try.f31 0 [.reg [oT, oT], .reg [oT, oT, ⟨true, (some ⟨[], [], [], 1, [], .p (.str wd)⟩), none⟩, oT], .reg [oT, oT], .reg [oT, oT], .dec false, .reg [oT, oT], .dec true, .reg [oT, oT, oT, ⟨true, (some ⟨[], [], [], 1, [], .p (.str f)⟩), none⟩, oT], .reg [oT, oT, ⟨true, (some ⟨[], [], [], 1, [], .p (.bool true)⟩), none⟩, oT], .dec false, .reg [oT, oT, oT, oT, oT, oT, oT, oT, ⟨true, (some ⟨[], [], [], 1, [], .p (.str kk)⟩), none⟩, oT, oT, oT, oT, ⟨true, (some ⟨[], [], [], 1, [], .p (.str l)⟩), none⟩, oT, oT]] [.code (bodyOf Try.f31)] (start Try.f31 [] 0 [clA K g1 nb1 N1 g nb N pl np w v u]) [] 1 [] (.p (.str ((((((wd ++ sSp) ++ f) ++ sKin) ++ kk) ++ sBy) ++ l))) =
    some [((0 : Nat) < 1),
  Con Try.prog 86 0 [] [.p (.int .i64 K)] [] (.p (.str wd)),
  ((0 : Nat) < 1),
  ((K == 4) = false),
  ((K == 5) = true),
  ((0 : Nat) < 1),
  Con Try.prog 87 0 [] [.agg [.p (.int .i64 N), .p (.seq true 2 nb (fun i => [.int .i64 ((g i).1), .int .i64 ((g i).2.1)])), .p (.seq true 2 np (fun i => [.int .i64 ((pl i).1), .int .i64 ((pl i).2.1)]))]] [] (.p (.str f)),
  ((0 : Nat) < 1),
  Con Try.prog 88 0 [] [.agg [.p (.int .i64 N), .p (.seq true 2 nb (fun i => [.int .i64 ((g i).1), .int .i64 ((g i).2.1)])), .p (.seq true 2 np (fun i => [.int .i64 ((pl i).1), .int .i64 ((pl i).2.1)])), .p (.seq true 1 w.1 (fun i => [.int .i64 (w.2 i)]))]] [] (.p (.bool true)),
  ((!true) = false),
  (((wd.size + (ByteArray.mk #[32]).size) : Nat) ≤ 9223372036854775807),
  ((((wd ++ ByteArray.mk #[32]).size + f.size) : Nat) ≤ 9223372036854775807),
  ((((wd ++ ByteArray.mk #[32] ++ f).size + (ByteArray.mk #[32, 107, 105, 110, 100, 115, 32]).size) : Nat) ≤ 9223372036854775807),
  ((0 : Nat) < 1),
  Con Try.prog 89 0 [] [.p (.seq true 1 w.1 (fun i => [.int .i64 (w.2 i)]))] [] (.p (.str kk)),
  ((((wd ++ ByteArray.mk #[32] ++ f ++ ByteArray.mk #[32, 107, 105, 110, 100, 115, 32]).size + kk.size) : Nat) ≤ 9223372036854775807),
  ((((wd ++ ByteArray.mk #[32] ++ f ++ ByteArray.mk #[32, 107, 105, 110, 100, 115, 32] ++ kk).size + (ByteArray.mk #[32, 98, 121, 32]).size) : Nat) ≤ 9223372036854775807),
  ((0 : Nat) < 1),
  Con Try.prog 90 0 [] [.p (.seq true 1 u.1 (fun i => [.int .i64 (u.2 i)]))] [] (.p (.str l)),
  ((((wd ++ ByteArray.mk #[32] ++ f ++ ByteArray.mk #[32, 107, 105, 110, 100, 115, 32] ++ kk ++ ByteArray.mk #[32, 98, 121, 32]).size + l.size) : Nat) ≤ 9223372036854775807),
  (wd ++ ByteArray.mk #[32] ++ f ++ ByteArray.mk #[32, 107, 105, 110, 100, 115, 32] ++ kk ++ ByteArray.mk #[32, 98, 121, 32] ++ l = wd ++ sSp ++ f ++ sKin ++ kk ++ sBy ++ l)] := by kernel_rfl
theorem yC1n (K : Int) (g1 : Nat → T_Bar) (nb1 : Nat) (N1 : Int) (g : Nat → T_Bar) (nb : Nat) (N : Int) (pl : Nat → T_Place) (np : Nat) (w : T_IntS) (v : T_StepS) (u : T_IntS) (wd : ByteArray) :
    pathOb Try.prog Try.f33 0 [.reg [oT, oT], .reg [oT, oT, ⟨true, (some ⟨[], [], [], 1, [], .p (.str wd)⟩), none⟩, oT], .reg [oT, oT], .reg [oT, oT], .dec false, .reg [oT, oT], .dec false, .reg [oT, oT], .dec true, .dec true, .reg [oT, oT, ⟨true, (some ⟨[], [], [], 1, [], .p (.bool false)⟩), none⟩, oT], .dec true, .reg [oT]] [.code (bodyOf Try.f33)] (start Try.f33 [] 0 [clA K g1 nb1 N1 g nb N pl np w v u]) [] 1 [] (.p (.str sE)) =
    some [((0 : Nat) < 1),
  Con Try.prog 96 0 [] [.p (.int .i64 K)] [] (.p (.str wd)),
  ((0 : Nat) < 1),
  ((K == 4) = false),
  ((K == 5) = false),
  ((K == 1) = true),
  ((K == 1) = true),
  ((0 : Nat) < 1),
  Con Try.prog 101 0 [] [.agg [.p (.int .i64 N1), .p (.seq true 2 nb1 (fun i => [.int .i64 ((g1 i).1), .int .i64 ((g1 i).2.1)]))]] [] (.p (.bool false)),
  ((!false) = true),
  (ByteArray.mk #[] = sE)] := by kernel_rfl
theorem yC1y (K : Int) (g1 : Nat → T_Bar) (nb1 : Nat) (N1 : Int) (g : Nat → T_Bar) (nb : Nat) (N : Int) (pl : Nat → T_Place) (np : Nat) (w : T_IntS) (v : T_StepS) (u : T_IntS) (wd gg ss l : ByteArray) :
    pathOb Try.prog Try.f33 0 [.reg [oT, oT], .reg [oT, oT, ⟨true, (some ⟨[], [], [], 1, [], .p (.str wd)⟩), none⟩, oT], .reg [oT, oT], .reg [oT, oT], .dec false, .reg [oT, oT], .dec false, .reg [oT, oT], .dec true, .dec true, .reg [oT, oT, ⟨true, (some ⟨[], [], [], 1, [], .p (.bool true)⟩), none⟩, oT], .dec false, .reg [oT, oT, oT, oT, ⟨true, (some ⟨[], [], [], 1, [], .p (.str gg)⟩), none⟩, oT, oT, oT, oT, ⟨true, (some ⟨[], [], [], 1, [], .p (.str ss)⟩), none⟩, oT, oT, oT, oT, ⟨true, (some ⟨[], [], [], 1, [], .p (.str l)⟩), none⟩, oT, oT]] [.code (bodyOf Try.f33)] (start Try.f33 [] 0 [clA K g1 nb1 N1 g nb N pl np w v u]) [] 1 [] (.p (.str ((((((wd ++ sSp) ++ gg) ++ sBy) ++ ss) ++ sAnd) ++ l))) =
    some [((0 : Nat) < 1),
  Con Try.prog 96 0 [] [.p (.int .i64 K)] [] (.p (.str wd)),
  ((0 : Nat) < 1),
  ((K == 4) = false),
  ((K == 5) = false),
  ((K == 1) = true),
  ((K == 1) = true),
  ((0 : Nat) < 1),
  Con Try.prog 101 0 [] [.agg [.p (.int .i64 N1), .p (.seq true 2 nb1 (fun i => [.int .i64 ((g1 i).1), .int .i64 ((g1 i).2.1)]))]] [] (.p (.bool true)),
  ((!true) = false),
  (((wd.size + (ByteArray.mk #[32]).size) : Nat) ≤ 9223372036854775807),
  ((0 : Nat) < 1),
  Con Try.prog 102 0 [] [.agg [.p (.int .i64 N1), .p (.seq true 2 nb1 (fun i => [.int .i64 ((g1 i).1), .int .i64 ((g1 i).2.1)]))]] [] (.p (.str gg)),
  ((((wd ++ ByteArray.mk #[32]).size + gg.size) : Nat) ≤ 9223372036854775807),
  ((((wd ++ ByteArray.mk #[32] ++ gg).size + (ByteArray.mk #[32, 98, 121, 32]).size) : Nat) ≤ 9223372036854775807),
  ((0 : Nat) < 1),
  Con Try.prog 103 0 [] [.p (.seq true 5 v.1 (fun i => [.int .i64 ((v.2 i).1), .int .i64 ((v.2 i).2.1), .int .i64 ((v.2 i).2.2.1), .int .i64 ((v.2 i).2.2.2.1), .int .i64 ((v.2 i).2.2.2.2.1)]))] [] (.p (.str ss)),
  ((((wd ++ ByteArray.mk #[32] ++ gg ++ ByteArray.mk #[32, 98, 121, 32]).size + ss.size) : Nat) ≤ 9223372036854775807),
  ((((wd ++ ByteArray.mk #[32] ++ gg ++ ByteArray.mk #[32, 98, 121, 32] ++ ss).size + (ByteArray.mk #[32, 97, 110, 100, 32]).size) : Nat) ≤ 9223372036854775807),
  ((0 : Nat) < 1),
  Con Try.prog 100 0 [] [.p (.seq true 1 u.1 (fun i => [.int .i64 (u.2 i)]))] [] (.p (.str l)),
  ((((wd ++ ByteArray.mk #[32] ++ gg ++ ByteArray.mk #[32, 98, 121, 32] ++ ss ++ ByteArray.mk #[32, 97, 110, 100, 32]).size + l.size) : Nat) ≤ 9223372036854775807),
  (wd ++ ByteArray.mk #[32] ++ gg ++ ByteArray.mk #[32, 98, 121, 32] ++ ss ++ ByteArray.mk #[32, 97, 110, 100, 32] ++ l = wd ++ sSp ++ gg ++ sBy ++ ss ++ sAnd ++ l)] := by kernel_rfl
theorem yC2n (K : Int) (g1 : Nat → T_Bar) (nb1 : Nat) (N1 : Int) (g : Nat → T_Bar) (nb : Nat) (N : Int) (pl : Nat → T_Place) (np : Nat) (w : T_IntS) (v : T_StepS) (u : T_IntS) (wd : ByteArray) :
    pathOb Try.prog Try.f33 0 [.reg [oT, oT], .reg [oT, oT, ⟨true, (some ⟨[], [], [], 1, [], .p (.str wd)⟩), none⟩, oT], .reg [oT, oT], .reg [oT, oT], .dec false, .reg [oT, oT], .dec false, .reg [oT, oT], .dec false, .reg [oT, oT], .dec true, .dec true, .reg [oT, oT, ⟨true, (some ⟨[], [], [], 1, [], .p (.bool false)⟩), none⟩, oT], .dec true, .reg [oT]] [.code (bodyOf Try.f33)] (start Try.f33 [] 0 [clA K g1 nb1 N1 g nb N pl np w v u]) [] 1 [] (.p (.str sE)) =
    some [((0 : Nat) < 1),
  Con Try.prog 96 0 [] [.p (.int .i64 K)] [] (.p (.str wd)),
  ((0 : Nat) < 1),
  ((K == 4) = false),
  ((K == 5) = false),
  ((K == 1) = false),
  ((K == 2) = true),
  ((K == 2) = true),
  ((0 : Nat) < 1),
  Con Try.prog 101 0 [] [.agg [.p (.int .i64 N1), .p (.seq true 2 nb1 (fun i => [.int .i64 ((g1 i).1), .int .i64 ((g1 i).2.1)]))]] [] (.p (.bool false)),
  ((!false) = true),
  (ByteArray.mk #[] = sE)] := by kernel_rfl
theorem yC2y (K : Int) (g1 : Nat → T_Bar) (nb1 : Nat) (N1 : Int) (g : Nat → T_Bar) (nb : Nat) (N : Int) (pl : Nat → T_Place) (np : Nat) (w : T_IntS) (v : T_StepS) (u : T_IntS) (wd gg ss l : ByteArray) :
    pathOb Try.prog Try.f33 0 [.reg [oT, oT], .reg [oT, oT, ⟨true, (some ⟨[], [], [], 1, [], .p (.str wd)⟩), none⟩, oT], .reg [oT, oT], .reg [oT, oT], .dec false, .reg [oT, oT], .dec false, .reg [oT, oT], .dec false, .reg [oT, oT], .dec true, .dec true, .reg [oT, oT, ⟨true, (some ⟨[], [], [], 1, [], .p (.bool true)⟩), none⟩, oT], .dec false, .reg [oT, oT, oT, oT, ⟨true, (some ⟨[], [], [], 1, [], .p (.str gg)⟩), none⟩, oT, oT, oT, oT, ⟨true, (some ⟨[], [], [], 1, [], .p (.str ss)⟩), none⟩, oT, oT, oT, oT, ⟨true, (some ⟨[], [], [], 1, [], .p (.str l)⟩), none⟩, oT, oT]] [.code (bodyOf Try.f33)] (start Try.f33 [] 0 [clA K g1 nb1 N1 g nb N pl np w v u]) [] 1 [] (.p (.str ((((((wd ++ sSp) ++ gg) ++ sBy) ++ ss) ++ sAnd) ++ l))) =
    some [((0 : Nat) < 1),
  Con Try.prog 96 0 [] [.p (.int .i64 K)] [] (.p (.str wd)),
  ((0 : Nat) < 1),
  ((K == 4) = false),
  ((K == 5) = false),
  ((K == 1) = false),
  ((K == 2) = true),
  ((K == 2) = true),
  ((0 : Nat) < 1),
  Con Try.prog 101 0 [] [.agg [.p (.int .i64 N1), .p (.seq true 2 nb1 (fun i => [.int .i64 ((g1 i).1), .int .i64 ((g1 i).2.1)]))]] [] (.p (.bool true)),
  ((!true) = false),
  (((wd.size + (ByteArray.mk #[32]).size) : Nat) ≤ 9223372036854775807),
  ((0 : Nat) < 1),
  Con Try.prog 102 0 [] [.agg [.p (.int .i64 N1), .p (.seq true 2 nb1 (fun i => [.int .i64 ((g1 i).1), .int .i64 ((g1 i).2.1)]))]] [] (.p (.str gg)),
  ((((wd ++ ByteArray.mk #[32]).size + gg.size) : Nat) ≤ 9223372036854775807),
  ((((wd ++ ByteArray.mk #[32] ++ gg).size + (ByteArray.mk #[32, 98, 121, 32]).size) : Nat) ≤ 9223372036854775807),
  ((0 : Nat) < 1),
  Con Try.prog 103 0 [] [.p (.seq true 5 v.1 (fun i => [.int .i64 ((v.2 i).1), .int .i64 ((v.2 i).2.1), .int .i64 ((v.2 i).2.2.1), .int .i64 ((v.2 i).2.2.2.1), .int .i64 ((v.2 i).2.2.2.2.1)]))] [] (.p (.str ss)),
  ((((wd ++ ByteArray.mk #[32] ++ gg ++ ByteArray.mk #[32, 98, 121, 32]).size + ss.size) : Nat) ≤ 9223372036854775807),
  ((((wd ++ ByteArray.mk #[32] ++ gg ++ ByteArray.mk #[32, 98, 121, 32] ++ ss).size + (ByteArray.mk #[32, 97, 110, 100, 32]).size) : Nat) ≤ 9223372036854775807),
  ((0 : Nat) < 1),
  Con Try.prog 100 0 [] [.p (.seq true 1 u.1 (fun i => [.int .i64 (u.2 i)]))] [] (.p (.str l)),
  ((((wd ++ ByteArray.mk #[32] ++ gg ++ ByteArray.mk #[32, 98, 121, 32] ++ ss ++ ByteArray.mk #[32, 97, 110, 100, 32]).size + l.size) : Nat) ≤ 9223372036854775807),
  (wd ++ ByteArray.mk #[32] ++ gg ++ ByteArray.mk #[32, 98, 121, 32] ++ ss ++ ByteArray.mk #[32, 97, 110, 100, 32] ++ l = wd ++ sSp ++ gg ++ sBy ++ ss ++ sAnd ++ l)] := by kernel_rfl
theorem yC3n (K : Int) (g1 : Nat → T_Bar) (nb1 : Nat) (N1 : Int) (g : Nat → T_Bar) (nb : Nat) (N : Int) (pl : Nat → T_Place) (np : Nat) (w : T_IntS) (v : T_StepS) (u : T_IntS) (wd : ByteArray) :
    pathOb Try.prog Try.f33 0 [.reg [oT, oT], .reg [oT, oT, ⟨true, (some ⟨[], [], [], 1, [], .p (.str wd)⟩), none⟩, oT], .reg [oT, oT], .reg [oT, oT], .dec false, .reg [oT, oT], .dec false, .reg [oT, oT], .dec false, .reg [oT, oT], .dec false, .reg [oT, oT], .dec true, .dec true, .reg [oT, oT, ⟨true, (some ⟨[], [], [], 1, [], .p (.bool false)⟩), none⟩, oT], .dec true, .reg [oT]] [.code (bodyOf Try.f33)] (start Try.f33 [] 0 [clA K g1 nb1 N1 g nb N pl np w v u]) [] 1 [] (.p (.str sE)) =
    some [((0 : Nat) < 1),
  Con Try.prog 96 0 [] [.p (.int .i64 K)] [] (.p (.str wd)),
  ((0 : Nat) < 1),
  ((K == 4) = false),
  ((K == 5) = false),
  ((K == 1) = false),
  ((K == 2) = false),
  ((K == 3) = true),
  ((K == 3) = true),
  ((0 : Nat) < 1),
  Con Try.prog 101 0 [] [.agg [.p (.int .i64 N1), .p (.seq true 2 nb1 (fun i => [.int .i64 ((g1 i).1), .int .i64 ((g1 i).2.1)]))]] [] (.p (.bool false)),
  ((!false) = true),
  (ByteArray.mk #[] = sE)] := by kernel_rfl
theorem yC3y (K : Int) (g1 : Nat → T_Bar) (nb1 : Nat) (N1 : Int) (g : Nat → T_Bar) (nb : Nat) (N : Int) (pl : Nat → T_Place) (np : Nat) (w : T_IntS) (v : T_StepS) (u : T_IntS) (wd gg ss l : ByteArray) :
    pathOb Try.prog Try.f33 0 [.reg [oT, oT], .reg [oT, oT, ⟨true, (some ⟨[], [], [], 1, [], .p (.str wd)⟩), none⟩, oT], .reg [oT, oT], .reg [oT, oT], .dec false, .reg [oT, oT], .dec false, .reg [oT, oT], .dec false, .reg [oT, oT], .dec false, .reg [oT, oT], .dec true, .dec true, .reg [oT, oT, ⟨true, (some ⟨[], [], [], 1, [], .p (.bool true)⟩), none⟩, oT], .dec false, .reg [oT, oT, oT, oT, ⟨true, (some ⟨[], [], [], 1, [], .p (.str gg)⟩), none⟩, oT, oT, oT, oT, ⟨true, (some ⟨[], [], [], 1, [], .p (.str ss)⟩), none⟩, oT, oT, oT, oT, ⟨true, (some ⟨[], [], [], 1, [], .p (.str l)⟩), none⟩, oT, oT]] [.code (bodyOf Try.f33)] (start Try.f33 [] 0 [clA K g1 nb1 N1 g nb N pl np w v u]) [] 1 [] (.p (.str ((((((wd ++ sSp) ++ gg) ++ sBy) ++ ss) ++ sAnd) ++ l))) =
    some [((0 : Nat) < 1),
  Con Try.prog 96 0 [] [.p (.int .i64 K)] [] (.p (.str wd)),
  ((0 : Nat) < 1),
  ((K == 4) = false),
  ((K == 5) = false),
  ((K == 1) = false),
  ((K == 2) = false),
  ((K == 3) = true),
  ((K == 3) = true),
  ((0 : Nat) < 1),
  Con Try.prog 101 0 [] [.agg [.p (.int .i64 N1), .p (.seq true 2 nb1 (fun i => [.int .i64 ((g1 i).1), .int .i64 ((g1 i).2.1)]))]] [] (.p (.bool true)),
  ((!true) = false),
  (((wd.size + (ByteArray.mk #[32]).size) : Nat) ≤ 9223372036854775807),
  ((0 : Nat) < 1),
  Con Try.prog 102 0 [] [.agg [.p (.int .i64 N1), .p (.seq true 2 nb1 (fun i => [.int .i64 ((g1 i).1), .int .i64 ((g1 i).2.1)]))]] [] (.p (.str gg)),
  ((((wd ++ ByteArray.mk #[32]).size + gg.size) : Nat) ≤ 9223372036854775807),
  ((((wd ++ ByteArray.mk #[32] ++ gg).size + (ByteArray.mk #[32, 98, 121, 32]).size) : Nat) ≤ 9223372036854775807),
  ((0 : Nat) < 1),
  Con Try.prog 103 0 [] [.p (.seq true 5 v.1 (fun i => [.int .i64 ((v.2 i).1), .int .i64 ((v.2 i).2.1), .int .i64 ((v.2 i).2.2.1), .int .i64 ((v.2 i).2.2.2.1), .int .i64 ((v.2 i).2.2.2.2.1)]))] [] (.p (.str ss)),
  ((((wd ++ ByteArray.mk #[32] ++ gg ++ ByteArray.mk #[32, 98, 121, 32]).size + ss.size) : Nat) ≤ 9223372036854775807),
  ((((wd ++ ByteArray.mk #[32] ++ gg ++ ByteArray.mk #[32, 98, 121, 32] ++ ss).size + (ByteArray.mk #[32, 97, 110, 100, 32]).size) : Nat) ≤ 9223372036854775807),
  ((0 : Nat) < 1),
  Con Try.prog 100 0 [] [.p (.seq true 1 u.1 (fun i => [.int .i64 (u.2 i)]))] [] (.p (.str l)),
  ((((wd ++ ByteArray.mk #[32] ++ gg ++ ByteArray.mk #[32, 98, 121, 32] ++ ss ++ ByteArray.mk #[32, 97, 110, 100, 32]).size + l.size) : Nat) ≤ 9223372036854775807),
  (wd ++ ByteArray.mk #[32] ++ gg ++ ByteArray.mk #[32, 98, 121, 32] ++ ss ++ ByteArray.mk #[32, 97, 110, 100, 32] ++ l = wd ++ sSp ++ gg ++ sBy ++ ss ++ sAnd ++ l)] := by kernel_rfl
theorem yC6n (K : Int) (g1 : Nat → T_Bar) (nb1 : Nat) (N1 : Int) (g : Nat → T_Bar) (nb : Nat) (N : Int) (pl : Nat → T_Place) (np : Nat) (w : T_IntS) (v : T_StepS) (u : T_IntS) (wd : ByteArray) :
    pathOb Try.prog Try.f33 0 [.reg [oT, oT], .reg [oT, oT, ⟨true, (some ⟨[], [], [], 1, [], .p (.str wd)⟩), none⟩, oT], .reg [oT, oT], .reg [oT, oT], .dec false, .reg [oT, oT], .dec false, .reg [oT, oT], .dec false, .reg [oT, oT], .dec false, .reg [oT, oT], .dec false, .reg [oT, oT], .dec true, .reg [oT, oT, ⟨true, (some ⟨[], [], [], 1, [], .p (.bool false)⟩), none⟩, oT], .dec true, .reg [oT]] [.code (bodyOf Try.f33)] (start Try.f33 [] 0 [clA K g1 nb1 N1 g nb N pl np w v u]) [] 1 [] (.p (.str sE)) =
    some [((0 : Nat) < 1),
  Con Try.prog 96 0 [] [.p (.int .i64 K)] [] (.p (.str wd)),
  ((0 : Nat) < 1),
  ((K == 4) = false),
  ((K == 5) = false),
  ((K == 1) = false),
  ((K == 2) = false),
  ((K == 3) = false),
  ((K == 6) = true),
  ((0 : Nat) < 1),
  Con Try.prog 101 0 [] [.agg [.p (.int .i64 N1), .p (.seq true 2 nb1 (fun i => [.int .i64 ((g1 i).1), .int .i64 ((g1 i).2.1)]))]] [] (.p (.bool false)),
  ((!false) = true),
  (ByteArray.mk #[] = sE)] := by kernel_rfl
theorem yC6y (K : Int) (g1 : Nat → T_Bar) (nb1 : Nat) (N1 : Int) (g : Nat → T_Bar) (nb : Nat) (N : Int) (pl : Nat → T_Place) (np : Nat) (w : T_IntS) (v : T_StepS) (u : T_IntS) (wd gg ss l : ByteArray) :
    pathOb Try.prog Try.f33 0 [.reg [oT, oT], .reg [oT, oT, ⟨true, (some ⟨[], [], [], 1, [], .p (.str wd)⟩), none⟩, oT], .reg [oT, oT], .reg [oT, oT], .dec false, .reg [oT, oT], .dec false, .reg [oT, oT], .dec false, .reg [oT, oT], .dec false, .reg [oT, oT], .dec false, .reg [oT, oT], .dec true, .reg [oT, oT, ⟨true, (some ⟨[], [], [], 1, [], .p (.bool true)⟩), none⟩, oT], .dec false, .reg [oT, oT, oT, oT, ⟨true, (some ⟨[], [], [], 1, [], .p (.str gg)⟩), none⟩, oT, oT, oT, oT, ⟨true, (some ⟨[], [], [], 1, [], .p (.str ss)⟩), none⟩, oT, oT, oT, oT, ⟨true, (some ⟨[], [], [], 1, [], .p (.str l)⟩), none⟩, oT, oT]] [.code (bodyOf Try.f33)] (start Try.f33 [] 0 [clA K g1 nb1 N1 g nb N pl np w v u]) [] 1 [] (.p (.str ((((((wd ++ sSp) ++ gg) ++ sBy) ++ ss) ++ sAnd) ++ l))) =
    some [((0 : Nat) < 1),
  Con Try.prog 96 0 [] [.p (.int .i64 K)] [] (.p (.str wd)),
  ((0 : Nat) < 1),
  ((K == 4) = false),
  ((K == 5) = false),
  ((K == 1) = false),
  ((K == 2) = false),
  ((K == 3) = false),
  ((K == 6) = true),
  ((0 : Nat) < 1),
  Con Try.prog 101 0 [] [.agg [.p (.int .i64 N1), .p (.seq true 2 nb1 (fun i => [.int .i64 ((g1 i).1), .int .i64 ((g1 i).2.1)]))]] [] (.p (.bool true)),
  ((!true) = false),
  (((wd.size + (ByteArray.mk #[32]).size) : Nat) ≤ 9223372036854775807),
  ((0 : Nat) < 1),
  Con Try.prog 102 0 [] [.agg [.p (.int .i64 N1), .p (.seq true 2 nb1 (fun i => [.int .i64 ((g1 i).1), .int .i64 ((g1 i).2.1)]))]] [] (.p (.str gg)),
  ((((wd ++ ByteArray.mk #[32]).size + gg.size) : Nat) ≤ 9223372036854775807),
  ((((wd ++ ByteArray.mk #[32] ++ gg).size + (ByteArray.mk #[32, 98, 121, 32]).size) : Nat) ≤ 9223372036854775807),
  ((0 : Nat) < 1),
  Con Try.prog 103 0 [] [.p (.seq true 5 v.1 (fun i => [.int .i64 ((v.2 i).1), .int .i64 ((v.2 i).2.1), .int .i64 ((v.2 i).2.2.1), .int .i64 ((v.2 i).2.2.2.1), .int .i64 ((v.2 i).2.2.2.2.1)]))] [] (.p (.str ss)),
  ((((wd ++ ByteArray.mk #[32] ++ gg ++ ByteArray.mk #[32, 98, 121, 32]).size + ss.size) : Nat) ≤ 9223372036854775807),
  ((((wd ++ ByteArray.mk #[32] ++ gg ++ ByteArray.mk #[32, 98, 121, 32] ++ ss).size + (ByteArray.mk #[32, 97, 110, 100, 32]).size) : Nat) ≤ 9223372036854775807),
  ((0 : Nat) < 1),
  Con Try.prog 100 0 [] [.p (.seq true 1 u.1 (fun i => [.int .i64 (u.2 i)]))] [] (.p (.str l)),
  ((((wd ++ ByteArray.mk #[32] ++ gg ++ ByteArray.mk #[32, 98, 121, 32] ++ ss ++ ByteArray.mk #[32, 97, 110, 100, 32]).size + l.size) : Nat) ≤ 9223372036854775807),
  (wd ++ ByteArray.mk #[32] ++ gg ++ ByteArray.mk #[32, 98, 121, 32] ++ ss ++ ByteArray.mk #[32, 97, 110, 100, 32] ++ l = wd ++ sSp ++ gg ++ sBy ++ ss ++ sAnd ++ l)] := by kernel_rfl
theorem yC0 (K : Int) (g1 : Nat → T_Bar) (nb1 : Nat) (N1 : Int) (g : Nat → T_Bar) (nb : Nat) (N : Int) (pl : Nat → T_Place) (np : Nat) (w : T_IntS) (v : T_StepS) (u : T_IntS) (wd : ByteArray) :
    pathOb Try.prog Try.f33 0 [.reg [oT, oT], .reg [oT, oT, ⟨true, (some ⟨[], [], [], 1, [], .p (.str wd)⟩), none⟩, oT], .reg [oT, oT], .reg [oT, oT], .dec false, .reg [oT, oT], .dec false, .reg [oT, oT], .dec false, .reg [oT, oT], .dec false, .reg [oT, oT], .dec false, .reg [oT, oT], .dec false, .reg [oT]] [.code (bodyOf Try.f33)] (start Try.f33 [] 0 [clA K g1 nb1 N1 g nb N pl np w v u]) [] 1 [] (.p (.str sE)) =
    some [((0 : Nat) < 1),
  Con Try.prog 96 0 [] [.p (.int .i64 K)] [] (.p (.str wd)),
  ((0 : Nat) < 1),
  ((K == 4) = false),
  ((K == 5) = false),
  ((K == 1) = false),
  ((K == 2) = false),
  ((K == 3) = false),
  ((K == 6) = false),
  (ByteArray.mk #[] = sE)] := by kernel_rfl
theorem zCn (K : Int) (g1 : Nat → T_Bar) (nb1 : Nat) (N1 : Int) (g : Nat → T_Bar) (nb : Nat) (N : Int) (pl : Nat → T_Place) (np : Nat) (w : T_IntS) (v : T_StepS) (u : T_IntS) (wd gg : ByteArray) :
    pathOb Try.prog Try.f31 0 [.reg [oT, oT], .reg [oT, oT, ⟨true, (some ⟨[], [], [], 1, [], .p (.str wd)⟩), none⟩, oT], .reg [oT, oT], .reg [oT, oT], .dec false, .reg [oT, oT], .dec false, .reg [oT, oT, ⟨true, (some ⟨[], [], [], 1, [], .p (.str gg)⟩), none⟩, oT], .reg [oT, oT, oT, oT, oT, oT], .dec true, .reg [oT]] [.code (bodyOf Try.f31)] (start Try.f31 [] 0 [clA K g1 nb1 N1 g nb N pl np w v u]) [] 1 [] (.p (.str sE)) =
    some [((0 : Nat) < 1),
  Con Try.prog 86 0 [] [.p (.int .i64 K)] [] (.p (.str wd)),
  ((0 : Nat) < 1),
  ((K == 4) = false),
  ((K == 5) = false),
  ((0 : Nat) < 1),
  Con Try.prog 91 0 [] [.agg [.p (.int .i64 N1), .p (.seq true 2 nb1 (fun i => [.int .i64 ((g1 i).1), .int .i64 ((g1 i).2.1)]))]] [] (.p (.str gg)),
  (AG (!wd.toList == (ByteArray.mk #[]).toList)),
  (((wd.toList == (ByteArray.mk #[]).toList) = false) → ((!wd.toList == (ByteArray.mk #[]).toList) = true)),
  ((bif wd.toList == (ByteArray.mk #[]).toList then true else gg.toList == (ByteArray.mk #[]).toList) = true),
  (ByteArray.mk #[] = sE)] := by kernel_rfl
theorem zCy (K : Int) (g1 : Nat → T_Bar) (nb1 : Nat) (N1 : Int) (g : Nat → T_Bar) (nb : Nat) (N : Int) (pl : Nat → T_Place) (np : Nat) (w : T_IntS) (v : T_StepS) (u : T_IntS) (wd gg ss l : ByteArray) :
    pathOb Try.prog Try.f31 0 [.reg [oT, oT], .reg [oT, oT, ⟨true, (some ⟨[], [], [], 1, [], .p (.str wd)⟩), none⟩, oT], .reg [oT, oT], .reg [oT, oT], .dec false, .reg [oT, oT], .dec false, .reg [oT, oT, ⟨true, (some ⟨[], [], [], 1, [], .p (.str gg)⟩), none⟩, oT], .reg [oT, oT, oT, oT, oT, oT], .dec false, .reg [oT, oT, oT, oT, oT, oT, oT, ⟨true, (some ⟨[], [], [], 1, [], .p (.str ss)⟩), none⟩, oT, oT, oT, oT, ⟨true, (some ⟨[], [], [], 1, [], .p (.str l)⟩), none⟩, oT, oT]] [.code (bodyOf Try.f31)] (start Try.f31 [] 0 [clA K g1 nb1 N1 g nb N pl np w v u]) [] 1 [] (.p (.str ((((((wd ++ sSp) ++ gg) ++ sBy) ++ ss) ++ sAnd) ++ l))) =
    some [((0 : Nat) < 1),
  Con Try.prog 86 0 [] [.p (.int .i64 K)] [] (.p (.str wd)),
  ((0 : Nat) < 1),
  ((K == 4) = false),
  ((K == 5) = false),
  ((0 : Nat) < 1),
  Con Try.prog 91 0 [] [.agg [.p (.int .i64 N1), .p (.seq true 2 nb1 (fun i => [.int .i64 ((g1 i).1), .int .i64 ((g1 i).2.1)]))]] [] (.p (.str gg)),
  (AG (!wd.toList == (ByteArray.mk #[]).toList)),
  (((wd.toList == (ByteArray.mk #[]).toList) = false) → ((!wd.toList == (ByteArray.mk #[]).toList) = true)),
  ((bif wd.toList == (ByteArray.mk #[]).toList then true else gg.toList == (ByteArray.mk #[]).toList) = false),
  (((wd.size + (ByteArray.mk #[32]).size) : Nat) ≤ 9223372036854775807),
  ((((wd ++ ByteArray.mk #[32]).size + gg.size) : Nat) ≤ 9223372036854775807),
  ((((wd ++ ByteArray.mk #[32] ++ gg).size + (ByteArray.mk #[32, 98, 121, 32]).size) : Nat) ≤ 9223372036854775807),
  ((0 : Nat) < 1),
  Con Try.prog 92 0 [] [.p (.seq true 5 v.1 (fun i => [.int .i64 ((v.2 i).1), .int .i64 ((v.2 i).2.1), .int .i64 ((v.2 i).2.2.1), .int .i64 ((v.2 i).2.2.2.1), .int .i64 ((v.2 i).2.2.2.2.1)]))] [] (.p (.str ss)),
  ((((wd ++ ByteArray.mk #[32] ++ gg ++ ByteArray.mk #[32, 98, 121, 32]).size + ss.size) : Nat) ≤ 9223372036854775807),
  ((((wd ++ ByteArray.mk #[32] ++ gg ++ ByteArray.mk #[32, 98, 121, 32] ++ ss).size + (ByteArray.mk #[32, 97, 110, 100, 32]).size) : Nat) ≤ 9223372036854775807),
  ((0 : Nat) < 1),
  Con Try.prog 90 0 [] [.p (.seq true 1 u.1 (fun i => [.int .i64 (u.2 i)]))] [] (.p (.str l)),
  ((((wd ++ ByteArray.mk #[32] ++ gg ++ ByteArray.mk #[32, 98, 121, 32] ++ ss ++ ByteArray.mk #[32, 97, 110, 100, 32]).size + l.size) : Nat) ≤ 9223372036854775807),
  (wd ++ ByteArray.mk #[32] ++ gg ++ ByteArray.mk #[32, 98, 121, 32] ++ ss ++ ByteArray.mk #[32, 97, 110, 100, 32] ++ l = wd ++ sSp ++ gg ++ sBy ++ ss ++ sAnd ++ l)] := by kernel_rfl
end Go.Proofs.Ytffnfeefjdmifaa.Mach
