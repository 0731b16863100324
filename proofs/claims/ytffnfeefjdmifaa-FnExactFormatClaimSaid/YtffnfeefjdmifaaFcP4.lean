/- What the law Fc needs, part 4 of 4: the abstract machine and the contracts of the functions. Conditions: as each theorem says. -/
import Derived.Test.YtffnfeefjdmifaaFcP3
namespace Go.Proofs.Ytffnfeefjdmifaa.Mach
open Go
set_option linter.unusedVariables false
set_option linter.unusedSimpArgs false
theorem z32 : (ByteArray.mk #[32]).size = 1 := rfl
theorem z44 : (ByteArray.mk #[44]).size = 1 := rfl
theorem z45 : (ByteArray.mk #[45]).size = 1 := rfl
theorem z58 : (ByteArray.mk #[58]).size = 1 := rfl
theorem z63 : (ByteArray.mk #[63]).size = 1 := rfl
theorem zat : (ByteArray.mk #[32, 97, 116]).size = 3 := rfl
theorem zkin : (ByteArray.mk #[32, 107, 105, 110, 100, 115, 32]).size = 7 := rfl
theorem zby : (ByteArray.mk #[32, 98, 121, 32]).size = 4 := rfl
theorem zand : (ByteArray.mk #[32, 97, 110, 100, 32]).size = 5 := rfl
theorem zSp : sSp.size = 1 := rfl
theorem zC : sC.size = 1 := rfl
theorem zCol : sCol.size = 1 := rfl
theorem zDash : sDash.size = 1 := rfl
theorem zAt : sAt.size = 3 := rfl
def grT (N : Int) (g : Nat → T_Bar) : Nat → ByteArray
  | 0 => fmtI N ++ sCol
  | i + 1 => (((grT N g i ++ sSp) ++ fmtI (g i).1) ++ sDash) ++ fmtI (g i).2.1
theorem grT_size (N : Int) (g : Nat → T_Bar) : ∀ i, (grT N g i).size ≤ 22 + i * 44
  | 0 => by
    have := fmt_size N
    rw [grT, ByteArray.size_append, zCol]; omega
  | i + 1 => by
    have := grT_size N g i
    have h1 := fmt_size (g i).1
    have h2 := fmt_size (g i).2.1
    rw [grT]
    simp only [ByteArray.size_append, zSp, zDash]
    omega
theorem grT_pos (N : Int) (g : Nat → T_Bar) : ∀ i, 0 < (grT N g i).size
  | 0 => by rw [grT, ByteArray.size_append, zCol]; omega
  | i + 1 => by
    rw [grT]
    simp only [ByteArray.size_append, zSp, zDash]
    omega
def isG (g : Nat → T_Bar) (nb : Nat) (N : Int) : Bool := isGraphF (N, (nb, g), ())
def gfB (g : Nat → T_Bar) (nb : Nat) (N : Int) : ByteArray := if isG g nb N = true then grT N g nb else sE
theorem isG_in {g : Nat → T_Bar} {nb : Nat} {N : Int} (h : isG g nb N = true) : (1 ≤ N ∧ N ≤ 8) ∧ nb ≤ 24 ∧ ∀ e, e < nb → 0 ≤ (g e).1 ∧ (g e).1 < (g e).2.1 ∧ (g e).2.1 < N := by
  unfold isG at h
  have hN : 1 ≤ N := by
    unfold isGraphF at h
    split at h
    case isFalse => cases h
    rename_i hc
    have h4 := hc.1
    simp only [inB, Bool.and_eq_true, decide_eq_true_eq] at h4
    exact h4.1
  obtain ⟨M, rfl⟩ : ∃ M : Nat, N = M := ⟨N.toNat, by omega⟩
  obtain ⟨h1, h2, h3⟩ := graph_in h
  exact ⟨by omega, h2, h3⟩
theorem gfB_size (g : Nat → T_Bar) (nb : Nat) (N : Int) : (gfB g nb N).size ≤ 2000 := by
  unfold gfB
  split
  · rename_i h
    have := (isG_in h).2.1
    have := grT_size N g nb
    omega
  · exact Nat.zero_le _
theorem smG (g : Nat → T_Bar) (nb : Nat) (N : Int) (h : nb ≤ 1048576) : smS s_Graph (N, (nb, g), ()) := ⟨by simp [smS, smL], ⟨h, fun i hi => by simp [smS, smL]⟩, True.intro⟩
theorem con_FormatGraph_i (g : Nat → T_Bar) (nb : Nat) (N : Int) (hn : nb ≤ 1048576) : Con Try.prog 102 0 [] [gzA g nb N] [] (.p (.str (gfB g nb N))) := by
  have hg := con_IsGraph_i (N, (nb, g), ()) (smG g nb N hn)
  change Con Try.prog 101 0 [] [gzA g nb N] [] (.p (.bool (isG g nb N))) at hg
  refine con_start Try.func102 rfl (by kernel_rfl) rfl (fun c hc => ?_)
  cases hb : isG g nb N with
  | false =>
    rw [hb] at hg
    rw [show gfB g nb N = sE by simp [gfB, hb]]
    refine path_ok mixed Try.func102 hc (yG0 g nb N) ?_
    simp only [All]
    repeat' (first | exact trivial | with_reducible apply And.intro)
    all_goals (first | exact aG _ | exact aP _ _ | exact aA _ _ | exact aE _ | omega | rfl | (intros; first | assumption | exact True.intro | rfl | exact absurd (show false = true by assumption) Bool.false_ne_true | ((repeat' (first | assumption | apply anda | apply notf)); done)) | (exact hg) | rfl)
  | true =>
    rw [hb] at hg
    rw [show gfB g nb N = grT N g nb by simp [gfB, hb]]
    obtain ⟨hN, hnb, hok⟩ := isG_in hb
    have lo : ∀ d i, i + d = nb → Run Try.prog c 102 [.code (cAt (bodyOf Try.f102) [1, 1, 1, 0, 1, 0, 0]), .inLoop (cAt (bodyOf Try.f102) [1, 1, 1, 0, 1, 0, 0]), .inBlock 0, .code (cAt (bodyOf Try.f102) [1, 1, 1, 1])] (FGi g nb N i (grT N g i)) (Post c [] (.p (.str (grT N g nb)))) := by
      intro d
      induction d with
      | zero =>
        intro i hi
        obtain rfl : i = nb := by omega
        have hd : decide ((i : Int) < (i : Int)) = false := by simp
        refine path_ok mixed Try.func102 hc (yGe g i N i _) ?_
        simp only [All]
        repeat' (first | exact trivial | with_reducible apply And.intro)
        all_goals (first | exact aG _ | exact aP _ _ | exact aA _ _ | exact aE _ | omega | rfl | (intros; first | assumption | exact True.intro | rfl | exact absurd (show false = true by assumption) Bool.false_ne_true | ((repeat' (first | assumption | apply anda | apply notf)); done)) | (exact hd))
      | succ d ih =>
        intro i hi
        have hd : decide ((i : Int) < (nb : Int)) = true := decide_eq_true (by omega)
        have hrec := ih (i + 1) (by omega)
        have hbar := hok i (by omega)
        have hz := grT_size N g i
        have c1 := con_FormatInt_i (g i).1 (by omega) (by omega)
        have c2 := con_FormatInt_i (g i).2.1 (by omega) (by omega)
        have s1 := fmt_size (g i).1
        have s2 := fmt_size (g i).2.1
        rw [grT] at hrec
        generalize grT N g i = s at hrec hz ⊢
        generalize fmtI (g i).1 = t at hrec c1 s1
        generalize fmtI (g i).2.1 = u at hrec c2 s2
        refine piece_ok mixed hc (yGt g nb N i s t u) ?_ hrec
        simp only [All]
        repeat' (first | exact trivial | with_reducible apply And.intro)
        all_goals (first | exact aG _ | exact aP _ _ | exact aA _ _ | exact aE _ | omega | rfl | (intros; first | assumption | exact True.intro | rfl | exact absurd (show false = true by assumption) Bool.false_ne_true | ((repeat' (first | assumption | apply anda | apply notf)); done)) | (exact hd) | (exact c1) | (exact c2) | (simp only [ByteArray.size_append, z32, z45]; omega) | (simp; omega))
    have c0 := con_FormatInt_i N (by omega) (by omega)
    have s0 := fmt_size N
    refine piece_ok mixed hc (yGz g nb N (fmtI N)) ?_ (lo nb 0 (by omega))
    simp only [All]
    repeat' (first | exact trivial | with_reducible apply And.intro)
    all_goals (first | exact aG _ | exact aP _ _ | exact aA _ _ | exact aE _ | omega | rfl | (intros; first | assumption | exact True.intro | rfl | exact absurd (show false = true by assumption) Bool.false_ne_true | ((repeat' (first | assumption | apply anda | apply notf)); done)) | (exact hg) | (exact c0) | rfl | (simp only [ByteArray.size_append, z58]; omega) | (simp; done))
theorem con_FormatGraph_s (g : Nat → T_Bar) (nb : Nat) (N : Int) (hn : nb ≤ 1048576) : Con Try.prog 91 0 [] [gzA g nb N] [] (.p (.str (gfB g nb N))) := by
  have hg := con_IsGraph_s (N, (nb, g), ()) (smG g nb N hn)
  change Con Try.prog 110 0 [] [gzA g nb N] [] (.p (.bool (isG g nb N))) at hg
  refine con_start Try.func91 rfl (by kernel_rfl) rfl (fun c hc => ?_)
  cases hb : isG g nb N with
  | false =>
    rw [hb] at hg
    rw [show gfB g nb N = sE by simp [gfB, hb]]
    refine path_ok mixed Try.func91 hc (zG0 g nb N) ?_
    simp only [All]
    repeat' (first | exact trivial | with_reducible apply And.intro)
    all_goals (first | exact aG _ | exact aP _ _ | exact aA _ _ | exact aE _ | omega | rfl | (intros; first | assumption | exact True.intro | rfl | exact absurd (show false = true by assumption) Bool.false_ne_true | ((repeat' (first | assumption | apply anda | apply notf)); done)) | (exact hg) | rfl)
  | true =>
    rw [hb] at hg
    rw [show gfB g nb N = grT N g nb by simp [gfB, hb]]
    obtain ⟨hN, hnb, hok⟩ := isG_in hb
    have lo : ∀ d i, i + d = nb → Run Try.prog c 91 [.code (cAt (bodyOf Try.f91) [1, 1, 1, 0, 1, 0, 0]), .inLoop (cAt (bodyOf Try.f91) [1, 1, 1, 0, 1, 0, 0]), .inBlock 0, .code (cAt (bodyOf Try.f91) [1, 1, 1, 1])] (FGs g nb N i (grT N g i)) (Post c [] (.p (.str (grT N g nb)))) := by
      intro d
      induction d with
      | zero =>
        intro i hi
        obtain rfl : i = nb := by omega
        have hd : decide ((i : Int) < (i : Int)) = false := by simp
        refine path_ok mixed Try.func91 hc (zGe g i N i _) ?_
        simp only [All]
        repeat' (first | exact trivial | with_reducible apply And.intro)
        all_goals (first | exact aG _ | exact aP _ _ | exact aA _ _ | exact aE _ | omega | rfl | (intros; first | assumption | exact True.intro | rfl | exact absurd (show false = true by assumption) Bool.false_ne_true | ((repeat' (first | assumption | apply anda | apply notf)); done)) | (exact hd))
      | succ d ih =>
        intro i hi
        have hd : decide ((i : Int) < (nb : Int)) = true := decide_eq_true (by omega)
        have hrec := ih (i + 1) (by omega)
        have hbar := hok i (by omega)
        have hz := grT_size N g i
        have c1 := con_FormatInt_s (g i).1 (by omega) (by omega)
        have c2 := con_FormatInt_s (g i).2.1 (by omega) (by omega)
        have s1 := fmt_size (g i).1
        have s2 := fmt_size (g i).2.1
        rw [grT] at hrec
        generalize grT N g i = s at hrec hz ⊢
        generalize fmtI (g i).1 = t at hrec c1 s1
        generalize fmtI (g i).2.1 = u at hrec c2 s2
        refine piece_ok mixed hc (zGt g nb N i s t u) ?_ hrec
        simp only [All]
        repeat' (first | exact trivial | with_reducible apply And.intro)
        all_goals (first | exact aG _ | exact aP _ _ | exact aA _ _ | exact aE _ | omega | rfl | (intros; first | assumption | exact True.intro | rfl | exact absurd (show false = true by assumption) Bool.false_ne_true | ((repeat' (first | assumption | apply anda | apply notf)); done)) | (exact hd) | (exact c1) | (exact c2) | (simp only [ByteArray.size_append, z32, z45]; omega) | (simp; omega))
    have c0 := con_FormatInt_s N (by omega) (by omega)
    have s0 := fmt_size N
    refine piece_ok mixed hc (zGz g nb N (fmtI N)) ?_ (lo nb 0 (by omega))
    simp only [All]
    repeat' (first | exact trivial | with_reducible apply And.intro)
    all_goals (first | exact aG _ | exact aP _ _ | exact aA _ _ | exact aE _ | omega | rfl | (intros; first | assumption | exact True.intro | rfl | exact absurd (show false = true by assumption) Bool.false_ne_true | ((repeat' (first | assumption | apply anda | apply notf)); done)) | (exact hg) | (exact c0) | rfl | (simp only [ByteArray.size_append, z58]; omega) | (simp; done))
def allB (p : Nat → Bool) : Nat → Bool
  | 0 => true
  | n + 1 => allB p n && p n
theorem all_iff (p : Nat → Bool) : ∀ n, allB p n = true ↔ ∀ i, i < n → p i = true
  | 0 => by simp [allB]
  | n + 1 => by
    rw [allB, Bool.and_eq_true, all_iff p n]
    constructor
    · rintro ⟨h1, h2⟩ i hi
      by_cases h : i = n
      · rw [h]; exact h2
      · exact h1 i (by omega)
    · intro h; exact ⟨fun i hi => h i (by omega), h n (by omega)⟩
theorem all_no {p : Nat → Bool} {n i : Nat} (hi : i < n) (h : p i = false) : allB p n = false := by
  cases hb : allB p n with
  | false => rfl
  | true => rw [(all_iff p n).1 hb i hi] at h; cases h
def plP (pl : Nat → T_Place) (i : Nat) : Bool := bif inB (pl i).1 0 4 then inB (pl i).2.1 0 4 else false
def eA (g : Nat → T_Bar) (i : Nat) : Bool := (g ((i : Int) - 1).toNat).1 == (g i).1 && ((g ((i : Int) - 1).toNat).2.1 == (g i).2.1 && true)
def eB (g : Nat → T_Bar) (pl : Nat → T_Place) (i : Nat) : Bool := (pl (g i).1.toNat).1 == (pl (g i).2.1.toNat).1 && ((pl (g i).1.toNat).2.1 == (pl (g i).2.1.toNat).2.1 && true)
def brP (g : Nat → T_Bar) (pl : Nat → T_Place) (i : Nat) : Bool := !(bif bif decide ((i : Int) > 0) then eA g i else false then true else eB g pl i)
def fwB (g : Nat → T_Bar) (nb : Nat) (N : Int) (pl : Nat → T_Place) (np : Nat) : Bool :=
  (isG g nb N && (decide (N ≤ 6) && (decide (nb ≤ 15) && decide ((np : Int) = N)))) && (allB (plP pl) np && allB (brP g pl) nb)
theorem con_isPlace (pl : Nat → T_Place) (i : Nat) : Con Try.prog 151 0 [] [.agg [.p (.int .i64 (pl i).1), .p (.int .i64 (pl i).2.1)]] [] (.p (.bool (plP pl i))) := by
  have h1 := con_within (pl i).1 0 4
  have h2 := con_within (pl i).2.1 0 4
  refine con_start Try.func151 rfl (by kernel_rfl) rfl (fun c hc => ?_)
  refine path_ok mixed Try.func151 hc (yPl (pl i).1 (pl i).2.1 (inB (pl i).1 0 4) (inB (pl i).2.1 0 4)) ?_
  simp only [All]
  repeat' (first | exact trivial | with_reducible apply And.intro)
  all_goals (first | exact aG _ | exact aP _ _ | exact aA _ _ | exact aE _ | omega | rfl | (intros; first | assumption | exact True.intro | rfl | exact absurd (show false = true by assumption) Bool.false_ne_true | ((repeat' (first | assumption | apply anda | apply notf)); done)) | (exact h1) | (intro _; exact h2) | rfl)
theorem con_IsFramework_i (g : Nat → T_Bar) (nb : Nat) (N : Int) (pl : Nat → T_Place) (np : Nat) (hn : nb ≤ 1048576 ∧ np ≤ 1048576) : Con Try.prog 134 0 [] [frA g nb N pl np] [] (.p (.bool (fwB g nb N pl np))) := by
  have hg := con_IsGraph_i (N, (nb, g), ()) (smG g nb N hn.1)
  change Con Try.prog 101 0 [] [gzA g nb N] [] (.p (.bool (isG g nb N))) at hg
  refine con_start Try.func134 rfl (by kernel_rfl) rfl (fun c hc => ?_)
  have hcond : (bif bif bif !(isG g nb N) then true else decide (N > 6) then true else decide ((nb : Int) > 15) then true else (np : Int) != N) = !(isG g nb N && (decide (N ≤ 6) && (decide (nb ≤ 15) && decide ((np : Int) = N)))) := by
    rw [Bool.eq_iff_iff]
    cases isG g nb N with
    | false => simp
    | true =>
      simp
      omega
  cases h0 : (isG g nb N && (decide (N ≤ 6) && (decide (nb ≤ 15) && decide ((np : Int) = N)))) with
  | false =>
    rw [h0] at hcond
    rw [show fwB g nb N pl np = false by unfold fwB; rw [h0]; rfl]
    refine path_ok mixed Try.func134 hc (yI0 g nb N pl np (isG g nb N)) ?_
    simp only [All]
    repeat' (first | exact trivial | with_reducible apply And.intro)
    all_goals (first | exact aG _ | exact aP _ _ | exact aA _ _ | exact aE _ | omega | rfl | (intros; first | assumption | exact True.intro | rfl | exact absurd (show false = true by assumption) Bool.false_ne_true | ((repeat' (first | assumption | apply anda | apply notf)); done)) | (exact hg) | (exact hcond) | (simp; done))
  | true =>
    rw [h0] at hcond
    rw [show fwB g nb N pl np = (allB (plP pl) np && allB (brP g pl) nb) by unfold fwB; rw [h0]; rfl]
    simp only [Bool.and_eq_true, decide_eq_true_eq] at h0
    obtain ⟨hN, hnb, hok⟩ := isG_in h0.1
    have l1 : ∀ d i, i + d = nb → allB (plP pl) np = true → allB (brP g pl) i = true → Run Try.prog c 134 [.code (cAt (bodyOf Try.f134) [1, 1, 1, 1, 0, 1, 0, 0]), .inLoop (cAt (bodyOf Try.f134) [1, 1, 1, 1, 0, 1, 0, 0]), .inBlock 2, .code (cAt (bodyOf Try.f134) [1, 1, 1, 1, 1])] (FI1 g nb N pl np i) (Post c [] (.p (.bool (allB (plP pl) np && allB (brP g pl) nb)))) := by
      intro d
      induction d with
      | zero =>
        intro i hi h1 h2
        obtain rfl : i = nb := by omega
        have hd : decide ((i : Int) < (i : Int)) = false := by simp
        rw [h1, h2]
        refine path_ok mixed Try.func134 hc (yIe g i N pl np i) ?_
        simp only [All]
        repeat' (first | exact trivial | with_reducible apply And.intro)
        all_goals (first | exact aG _ | exact aP _ _ | exact aA _ _ | exact aE _ | omega | rfl | (intros; first | assumption | exact True.intro | rfl | exact absurd (show false = true by assumption) Bool.false_ne_true | ((repeat' (first | assumption | apply anda | apply notf)); done)) | (exact hd) | rfl)
      | succ d ih =>
        intro i hi h1 h2
        have hd : decide ((i : Int) < (nb : Int)) = true := decide_eq_true (by omega)
        have hbar := hok i (by omega)
        cases hb : brP g pl i with
        | true =>
          have hrec := ih (i + 1) (by omega) h1 (by rw [allB, h2, hb]; rfl)
          have hx : (bif bif decide ((i : Int) > 0) then eA g i else false then true else eB g pl i) = !(brP g pl i) := (Bool.not_not _).symm
          rw [hb] at hx
          refine piece_ok mixed hc (yIb g nb N pl np i) ?_ hrec
          simp only [All]
          repeat' (first | exact trivial | with_reducible apply And.intro)
          all_goals (first | exact aG _ | exact aP _ _ | exact aA _ _ | exact aE _ | omega | rfl | (intros; first | assumption | exact True.intro | rfl | exact absurd (show false = true by assumption) Bool.false_ne_true | ((repeat' (first | assumption | apply anda | apply notf)); done)) | (exact hd) | (exact hx) | (intro h; have := of_decide_eq_true h; omega) | (intro _; omega) | (simp; done) | (simp; omega))
        | false =>
          rw [all_no (show i < nb by omega) hb, Bool.and_false]
          have hx : (bif bif decide ((i : Int) > 0) then eA g i else false then true else eB g pl i) = !(brP g pl i) := (Bool.not_not _).symm
          rw [hb] at hx
          refine path_ok mixed Try.func134 hc (yIy g nb N pl np i) ?_
          simp only [All]
          repeat' (first | exact trivial | with_reducible apply And.intro)
          all_goals (first | exact aG _ | exact aP _ _ | exact aA _ _ | exact aE _ | omega | rfl | (intros; first | assumption | exact True.intro | rfl | exact absurd (show false = true by assumption) Bool.false_ne_true | ((repeat' (first | assumption | apply anda | apply notf)); done)) | (exact hd) | (exact hx) | (intro h; have := of_decide_eq_true h; omega) | (intro _; omega) | (simp; done) | (simp; omega))
    have l0 : ∀ d i, i + d = np → allB (plP pl) i = true → Run Try.prog c 134 [.code (cAt (bodyOf Try.f134) [1, 1, 1, 0, 1, 0, 0]), .inLoop (cAt (bodyOf Try.f134) [1, 1, 1, 0, 1, 0, 0]), .inBlock 0, .code (cAt (bodyOf Try.f134) [1, 1, 1, 1])] (FI0 g nb N pl np i) (Post c [] (.p (.bool (allB (plP pl) np && allB (brP g pl) nb)))) := by
      intro d
      induction d with
      | zero =>
        intro i hi h1
        obtain rfl : i = np := by omega
        have hd : decide ((i : Int) < (i : Int)) = false := by simp
        refine piece_ok mixed hc (yIn g nb N pl i i) ?_ (l1 nb 0 (by omega) h1 rfl)
        simp only [All]
        repeat' (first | exact trivial | with_reducible apply And.intro)
        all_goals (first | exact aG _ | exact aP _ _ | exact aA _ _ | exact aE _ | omega | rfl | (intros; first | assumption | exact True.intro | rfl | exact absurd (show false = true by assumption) Bool.false_ne_true | ((repeat' (first | assumption | apply anda | apply notf)); done)) | (exact hd) | (simp; done) | (simp; omega))
      | succ d ih =>
        intro i hi h1
        have hd : decide ((i : Int) < (np : Int)) = true := decide_eq_true (by omega)
        have hp := con_isPlace pl i
        cases hb : plP pl i with
        | true =>
          rw [hb] at hp
          have hrec := ih (i + 1) (by omega) (by rw [allB, h1, hb]; rfl)
          refine piece_ok mixed hc (yIt g nb N pl np i) ?_ hrec
          simp only [All]
          repeat' (first | exact trivial | with_reducible apply And.intro)
          all_goals (first | exact aG _ | exact aP _ _ | exact aA _ _ | exact aE _ | omega | rfl | (intros; first | assumption | exact True.intro | rfl | exact absurd (show false = true by assumption) Bool.false_ne_true | ((repeat' (first | assumption | apply anda | apply notf)); done)) | (exact hd) | (exact hp) | rfl | (simp; done) | (simp; omega))
        | false =>
          rw [hb] at hp
          rw [all_no (show i < np by omega) hb, Bool.false_and]
          refine path_ok mixed Try.func134 hc (yIx g nb N pl np i) ?_
          simp only [All]
          repeat' (first | exact trivial | with_reducible apply And.intro)
          all_goals (first | exact aG _ | exact aP _ _ | exact aA _ _ | exact aE _ | omega | rfl | (intros; first | assumption | exact True.intro | rfl | exact absurd (show false = true by assumption) Bool.false_ne_true | ((repeat' (first | assumption | apply anda | apply notf)); done)) | (exact hd) | (exact hp) | rfl | (simp; done) | (simp; omega))
    refine piece_ok mixed hc (yIz g nb N pl np (isG g nb N)) ?_ (l0 np 0 (by omega) rfl)
    simp only [All]
    repeat' (first | exact trivial | with_reducible apply And.intro)
    all_goals (first | exact aG _ | exact aP _ _ | exact aA _ _ | exact aE _ | omega | rfl | (intros; first | assumption | exact True.intro | rfl | exact absurd (show false = true by assumption) Bool.false_ne_true | ((repeat' (first | assumption | apply anda | apply notf)); done)) | (exact hg) | (exact hcond) | (simp; done))
theorem con_IsFramework_s (g : Nat → T_Bar) (nb : Nat) (N : Int) (pl : Nat → T_Place) (np : Nat) (hn : nb ≤ 1048576 ∧ np ≤ 1048576) : Con Try.prog 131 0 [] [frA g nb N pl np] [] (.p (.bool (fwB g nb N pl np))) := by
  have hg := con_IsGraph_s (N, (nb, g), ()) (smG g nb N hn.1)
  change Con Try.prog 110 0 [] [gzA g nb N] [] (.p (.bool (isG g nb N))) at hg
  refine con_start Try.func131 rfl (by kernel_rfl) rfl (fun c hc => ?_)
  have hcond : (bif bif bif !(isG g nb N) then true else decide (N > 6) then true else (np : Int) != N then true else decide ((nb : Int) > 15)) = !(isG g nb N && (decide (N ≤ 6) && (decide (nb ≤ 15) && decide ((np : Int) = N)))) := by
    rw [Bool.eq_iff_iff]
    cases isG g nb N with
    | false => simp
    | true =>
      simp
      omega
  cases h0 : (isG g nb N && (decide (N ≤ 6) && (decide (nb ≤ 15) && decide ((np : Int) = N)))) with
  | false =>
    rw [h0] at hcond
    rw [show fwB g nb N pl np = false by unfold fwB; rw [h0]; rfl]
    refine path_ok mixed Try.func131 hc (zI0 g nb N pl np (isG g nb N)) ?_
    simp only [All]
    repeat' (first | exact trivial | with_reducible apply And.intro)
    all_goals (first | exact aG _ | exact aP _ _ | exact aA _ _ | exact aE _ | omega | rfl | (intros; first | assumption | exact True.intro | rfl | exact absurd (show false = true by assumption) Bool.false_ne_true | ((repeat' (first | assumption | apply anda | apply notf)); done)) | (exact hg) | (exact hcond) | (simp; done))
  | true =>
    rw [h0] at hcond
    rw [show fwB g nb N pl np = (allB (plP pl) np && allB (brP g pl) nb) by unfold fwB; rw [h0]; rfl]
    simp only [Bool.and_eq_true, decide_eq_true_eq] at h0
    obtain ⟨hN, hnb, hok⟩ := isG_in h0.1
    have hsw : ∀ i, (bif eB g pl i then true else bif decide ((i : Int) > 0) then eA g i else false) = !(brP g pl i) := by
      intro i
      unfold brP
      cases eB g pl i <;> cases eA g i <;> cases decide ((i : Int) > 0) <;> rfl
    have l1 : ∀ d i, i + d = nb → allB (plP pl) np = true → allB (brP g pl) i = true → Run Try.prog c 131 [.code (cAt (bodyOf Try.f131) [1, 1, 1, 0, 1, 0, 0]), .inLoop (cAt (bodyOf Try.f131) [1, 1, 1, 0, 1, 0, 0]), .inBlock 2, .code (cAt (bodyOf Try.f131) [1, 1, 1, 1])] (FJ1 g nb N pl np i) (Post c [] (.p (.bool (allB (plP pl) np && allB (brP g pl) nb)))) := by
      intro d
      induction d with
      | zero =>
        intro i hi h1 h2
        obtain rfl : i = nb := by omega
        have hd : decide ((i : Int) < (i : Int)) = false := by simp
        rw [h1, h2]
        refine path_ok mixed Try.func131 hc (zIe g i N pl np i) ?_
        simp only [All]
        repeat' (first | exact trivial | with_reducible apply And.intro)
        all_goals (first | exact aG _ | exact aP _ _ | exact aA _ _ | exact aE _ | omega | rfl | (intros; first | assumption | exact True.intro | rfl | exact absurd (show false = true by assumption) Bool.false_ne_true | ((repeat' (first | assumption | apply anda | apply notf)); done)) | (exact hd) | rfl)
      | succ d ih =>
        intro i hi h1 h2
        have hd : decide ((i : Int) < (nb : Int)) = true := decide_eq_true (by omega)
        have hbar := hok i (by omega)
        have hx := hsw i
        cases hb : brP g pl i with
        | true =>
          have hrec := ih (i + 1) (by omega) h1 (by rw [allB, h2, hb]; rfl)
          rw [hb] at hx
          refine piece_ok mixed hc (zIb g nb N pl np i) ?_ hrec
          simp only [All]
          repeat' (first | exact trivial | with_reducible apply And.intro)
          all_goals (first | exact aG _ | exact aP _ _ | exact aA _ _ | exact aE _ | omega | rfl | (intros; first | assumption | exact True.intro | rfl | exact absurd (show false = true by assumption) Bool.false_ne_true | ((repeat' (first | assumption | apply anda | apply notf)); done)) | (exact hd) | (exact hx) | (intro h; simp only [Bool.and_eq_true, decide_eq_true_eq] at h; omega) | (intro h1 h2; rw [h1, h2]; rfl) | (intro h; rw [h]; rfl) | (simp; done) | (simp; omega))
        | false =>
          rw [all_no (show i < nb by omega) hb, Bool.and_false]
          rw [hb] at hx
          refine path_ok mixed Try.func131 hc (zIy g nb N pl np i) ?_
          simp only [All]
          repeat' (first | exact trivial | with_reducible apply And.intro)
          all_goals (first | exact aG _ | exact aP _ _ | exact aA _ _ | exact aE _ | omega | rfl | (intros; first | assumption | exact True.intro | rfl | exact absurd (show false = true by assumption) Bool.false_ne_true | ((repeat' (first | assumption | apply anda | apply notf)); done)) | (exact hd) | (exact hx) | (intro h; simp only [Bool.and_eq_true, decide_eq_true_eq] at h; omega) | (intro h1 h2; rw [h1, h2]; rfl) | (intro h; rw [h]; rfl) | (simp; done) | (simp; omega))
    have l0 : ∀ d i, i + d = np → allB (plP pl) i = true → Run Try.prog c 131 [.code (cAt (bodyOf Try.f131) [1, 1, 0, 1, 0, 0]), .inLoop (cAt (bodyOf Try.f131) [1, 1, 0, 1, 0, 0]), .inBlock 0, .code (cAt (bodyOf Try.f131) [1, 1, 1])] (FJ0 g nb N pl np i) (Post c [] (.p (.bool (allB (plP pl) np && allB (brP g pl) nb)))) := by
      intro d
      induction d with
      | zero =>
        intro i hi h1
        obtain rfl : i = np := by omega
        have hd : decide ((i : Int) < (i : Int)) = false := by simp
        refine piece_ok mixed hc (zIn g nb N pl i i) ?_ (l1 nb 0 (by omega) h1 rfl)
        simp only [All]
        repeat' (first | exact trivial | with_reducible apply And.intro)
        all_goals (first | exact aG _ | exact aP _ _ | exact aA _ _ | exact aE _ | omega | rfl | (intros; first | assumption | exact True.intro | rfl | exact absurd (show false = true by assumption) Bool.false_ne_true | ((repeat' (first | assumption | apply anda | apply notf)); done)) | (exact hd) | (simp; done) | (simp; omega))
      | succ d ih =>
        intro i hi h1
        have hd : decide ((i : Int) < (np : Int)) = true := decide_eq_true (by omega)
        have p1 := con_l1In (pl i).1 0 4
        have p2 := con_l1In (pl i).2.1 0 4
        have hx : (bif !(inB (pl i).1 0 4) then true else !(inB (pl i).2.1 0 4)) = !(plP pl i) := by
          unfold plP
          cases inB (pl i).1 0 4 <;> rfl
        cases hb : plP pl i with
        | true =>
          rw [hb] at hx
          have hrec := ih (i + 1) (by omega) (by rw [allB, h1, hb]; rfl)
          refine piece_ok mixed hc (zIt g nb N pl np i (inB (pl i).1 0 4) (inB (pl i).2.1 0 4)) ?_ hrec
          simp only [All]
          repeat' (first | exact trivial | with_reducible apply And.intro)
          all_goals (first | exact aG _ | exact aP _ _ | exact aA _ _ | exact aE _ | omega | rfl | (intros; first | assumption | exact True.intro | rfl | exact absurd (show false = true by assumption) Bool.false_ne_true | ((repeat' (first | assumption | apply anda | apply notf)); done)) | (exact hd) | (exact p1) | (intro _; exact p2) | (exact hx) | (intro h; rw [h]; rfl) | (simp; done) | (intro _; omega) | (simp; omega))
        | false =>
          rw [hb] at hx
          rw [all_no (show i < np by omega) hb, Bool.false_and]
          refine path_ok mixed Try.func131 hc (zIx g nb N pl np i (inB (pl i).1 0 4) (inB (pl i).2.1 0 4)) ?_
          simp only [All]
          repeat' (first | exact trivial | with_reducible apply And.intro)
          all_goals (first | exact aG _ | exact aP _ _ | exact aA _ _ | exact aE _ | omega | rfl | (intros; first | assumption | exact True.intro | rfl | exact absurd (show false = true by assumption) Bool.false_ne_true | ((repeat' (first | assumption | apply anda | apply notf)); done)) | (exact hd) | (exact p1) | (intro _; exact p2) | (exact hx) | (intro h; rw [h]; rfl) | (simp; done) | (intro _; omega) | (simp; omega))
    refine piece_ok mixed hc (zIz g nb N pl np (isG g nb N)) ?_ (l0 np 0 (by omega) rfl)
    simp only [All]
    repeat' (first | exact trivial | with_reducible apply And.intro)
    all_goals (first | exact aG _ | exact aP _ _ | exact aA _ _ | exact aE _ | omega | rfl | (intros; first | assumption | exact True.intro | rfl | exact absurd (show false = true by assumption) Bool.false_ne_true | ((repeat' (first | assumption | apply anda | apply notf)); done)) | (exact hg) | (exact hcond) | (simp; done))
end Go.Proofs.Ytffnfeefjdmifaa.Mach
namespace Go.Proofs.Ytffnfeefjdmifaa.Mach
open Go
set_option linter.unusedVariables false
set_option linter.unusedSimpArgs false
def plT (s0 : ByteArray) (pl : Nat → T_Place) : Nat → ByteArray
  | 0 => s0
  | i + 1 => (((plT s0 pl i ++ sSp) ++ fmtI (pl i).1) ++ sC) ++ fmtI (pl i).2.1
theorem plT_size (s0 : ByteArray) (pl : Nat → T_Place) : ∀ i, (plT s0 pl i).size ≤ s0.size + i * 44
  | 0 => by rw [plT]; omega
  | i + 1 => by
    have := plT_size s0 pl i
    have h1 := fmt_size (pl i).1
    have h2 := fmt_size (pl i).2.1
    rw [plT]
    simp only [ByteArray.size_append, zSp, zC]
    omega
def ffB (g : Nat → T_Bar) (nb : Nat) (N : Int) (pl : Nat → T_Place) (np : Nat) : ByteArray := if fwB g nb N pl np = true then plT (gfB g nb N ++ sAt) pl np else sE
theorem fw_in {g : Nat → T_Bar} {nb : Nat} {N : Int} {pl : Nat → T_Place} {np : Nat} (h : fwB g nb N pl np = true) : np ≤ 8 ∧ ∀ i, i < np → (0 ≤ (pl i).1 ∧ (pl i).1 ≤ 4) ∧ 0 ≤ (pl i).2.1 ∧ (pl i).2.1 ≤ 4 := by
  unfold fwB at h
  simp only [Bool.and_eq_true, decide_eq_true_eq] at h
  obtain ⟨hN, _⟩ := isG_in h.1.1
  refine ⟨by omega, fun i hi => ?_⟩
  have hp := (all_iff _ _).1 h.2.1 i hi
  unfold plP at hp
  cases hb : inB (pl i).1 0 4 with
  | false => rw [hb] at hp; cases hp
  | true =>
    rw [hb] at hp
    simp only [cond_true] at hp
    simp only [inB, Bool.and_eq_true, decide_eq_true_eq] at hb hp
    exact ⟨hb, hp⟩
theorem ffB_size (g : Nat → T_Bar) (nb : Nat) (N : Int) (pl : Nat → T_Place) (np : Nat) : (ffB g nb N pl np).size ≤ 4000 := by
  unfold ffB
  split
  · rename_i h
    have h1 := (fw_in h).1
    have h2 := plT_size (gfB g nb N ++ sAt) pl np
    have h3 := gfB_size g nb N
    rw [ByteArray.size_append, zAt] at h2
    omega
  · exact Nat.zero_le _
theorem con_FormatFramework_i (g : Nat → T_Bar) (nb : Nat) (N : Int) (pl : Nat → T_Place) (np : Nat) (hn : nb ≤ 1048576 ∧ np ≤ 1048576) : Con Try.prog 98 0 [] [frA g nb N pl np] [] (.p (.str (ffB g nb N pl np))) := by
  have hf := con_IsFramework_i g nb N pl np hn
  have hg := con_FormatGraph_i g nb N hn.1
  refine con_start Try.func98 rfl (by kernel_rfl) rfl (fun c hc => ?_)
  cases hb : fwB g nb N pl np with
  | false =>
    rw [hb] at hf
    rw [show ffB g nb N pl np = sE by simp [ffB, hb]]
    refine path_ok mixed Try.func98 hc (yF0 g nb N pl np) ?_
    simp only [All]
    repeat' (first | exact trivial | with_reducible apply And.intro)
    all_goals (first | exact aG _ | exact aP _ _ | exact aA _ _ | exact aE _ | omega | rfl | (intros; first | assumption | exact True.intro | rfl | exact absurd (show false = true by assumption) Bool.false_ne_true | ((repeat' (first | assumption | apply anda | apply notf)); done)) | (exact hf) | rfl)
  | true =>
    rw [hb] at hf
    rw [show ffB g nb N pl np = plT (gfB g nb N ++ sAt) pl np by simp [ffB, hb]]
    obtain ⟨hnp, hok⟩ := fw_in hb
    have hgz := gfB_size g nb N
    generalize gfB g nb N = q at *
    have lo : ∀ d i, i + d = np → Run Try.prog c 98 [.code (cAt (bodyOf Try.f98) [1, 1, 1, 0, 1, 0, 0]), .inLoop (cAt (bodyOf Try.f98) [1, 1, 1, 0, 1, 0, 0]), .inBlock 0, .code (cAt (bodyOf Try.f98) [1, 1, 1, 1])] (FFi g nb N pl np i (plT (q ++ sAt) pl i)) (Post c [] (.p (.str (plT (q ++ sAt) pl np)))) := by
      intro d
      induction d with
      | zero =>
        intro i hi
        obtain rfl : i = np := by omega
        have hd : decide ((i : Int) < (i : Int)) = false := by simp
        refine path_ok mixed Try.func98 hc (yFe g nb N pl i i _) ?_
        simp only [All]
        repeat' (first | exact trivial | with_reducible apply And.intro)
        all_goals (first | exact aG _ | exact aP _ _ | exact aA _ _ | exact aE _ | omega | rfl | (intros; first | assumption | exact True.intro | rfl | exact absurd (show false = true by assumption) Bool.false_ne_true | ((repeat' (first | assumption | apply anda | apply notf)); done)) | (exact hd))
      | succ d ih =>
        intro i hi
        have hd : decide ((i : Int) < (np : Int)) = true := decide_eq_true (by omega)
        have hrec := ih (i + 1) (by omega)
        have hp := hok i (by omega)
        have hz := plT_size (q ++ sAt) pl i
        rw [ByteArray.size_append, zAt] at hz
        have c1 := con_FormatInt_i (pl i).1 (by omega) (by omega)
        have c2 := con_FormatInt_i (pl i).2.1 (by omega) (by omega)
        have s1 := fmt_size (pl i).1
        have s2 := fmt_size (pl i).2.1
        rw [plT] at hrec
        generalize plT (q ++ sAt) pl i = s at hrec hz ⊢
        generalize fmtI (pl i).1 = t at hrec c1 s1
        generalize fmtI (pl i).2.1 = u at hrec c2 s2
        refine piece_ok mixed hc (yFt g nb N pl np i s t u) ?_ hrec
        simp only [All]
        repeat' (first | exact trivial | with_reducible apply And.intro)
        all_goals (first | exact aG _ | exact aP _ _ | exact aA _ _ | exact aE _ | omega | rfl | (intros; first | assumption | exact True.intro | rfl | exact absurd (show false = true by assumption) Bool.false_ne_true | ((repeat' (first | assumption | apply anda | apply notf)); done)) | (exact hd) | (exact c1) | (exact c2) | (simp only [ByteArray.size_append, z32, z44]; omega) | (simp; omega))
    refine piece_ok mixed hc (yFz g nb N pl np q) ?_ (lo np 0 (by omega))
    simp only [All]
    repeat' (first | exact trivial | with_reducible apply And.intro)
    all_goals (first | exact aG _ | exact aP _ _ | exact aA _ _ | exact aE _ | omega | rfl | (intros; first | assumption | exact True.intro | rfl | exact absurd (show false = true by assumption) Bool.false_ne_true | ((repeat' (first | assumption | apply anda | apply notf)); done)) | (exact hf) | (exact hg) | rfl | (simp only [ByteArray.size_append, zat]; omega) | (simp; done))
theorem con_FormatFramework_s (g : Nat → T_Bar) (nb : Nat) (N : Int) (pl : Nat → T_Place) (np : Nat) (hn : nb ≤ 1048576 ∧ np ≤ 1048576) : Con Try.prog 87 0 [] [frA g nb N pl np] [] (.p (.str (ffB g nb N pl np))) := by
  have hf := con_IsFramework_s g nb N pl np hn
  have hg := con_FormatGraph_s g nb N hn.1
  refine con_start Try.func87 rfl (by kernel_rfl) rfl (fun c hc => ?_)
  cases hb : fwB g nb N pl np with
  | false =>
    rw [hb] at hf
    rw [show ffB g nb N pl np = sE by simp [ffB, hb]]
    refine path_ok mixed Try.func87 hc (zF0 g nb N pl np) ?_
    simp only [All]
    repeat' (first | exact trivial | with_reducible apply And.intro)
    all_goals (first | exact aG _ | exact aP _ _ | exact aA _ _ | exact aE _ | omega | rfl | (intros; first | assumption | exact True.intro | rfl | exact absurd (show false = true by assumption) Bool.false_ne_true | ((repeat' (first | assumption | apply anda | apply notf)); done)) | (exact hf) | rfl)
  | true =>
    rw [hb] at hf
    rw [show ffB g nb N pl np = plT (gfB g nb N ++ sAt) pl np by simp [ffB, hb]]
    obtain ⟨hnp, hok⟩ := fw_in hb
    have hgz := gfB_size g nb N
    generalize gfB g nb N = q at *
    have lo : ∀ d i, i + d = np → Run Try.prog c 87 [.code (cAt (bodyOf Try.f87) [1, 1, 1, 0, 1, 0, 0]), .inLoop (cAt (bodyOf Try.f87) [1, 1, 1, 0, 1, 0, 0]), .inBlock 0, .code (cAt (bodyOf Try.f87) [1, 1, 1, 1])] (FFs g nb N pl np i (plT (q ++ sAt) pl i)) (Post c [] (.p (.str (plT (q ++ sAt) pl np)))) := by
      intro d
      induction d with
      | zero =>
        intro i hi
        obtain rfl : i = np := by omega
        have hd : decide ((i : Int) < (i : Int)) = false := by simp
        refine path_ok mixed Try.func87 hc (zFe g nb N pl i i _) ?_
        simp only [All]
        repeat' (first | exact trivial | with_reducible apply And.intro)
        all_goals (first | exact aG _ | exact aP _ _ | exact aA _ _ | exact aE _ | omega | rfl | (intros; first | assumption | exact True.intro | rfl | exact absurd (show false = true by assumption) Bool.false_ne_true | ((repeat' (first | assumption | apply anda | apply notf)); done)) | (exact hd))
      | succ d ih =>
        intro i hi
        have hd : decide ((i : Int) < (np : Int)) = true := decide_eq_true (by omega)
        have hrec := ih (i + 1) (by omega)
        have hp := hok i (by omega)
        have hz := plT_size (q ++ sAt) pl i
        rw [ByteArray.size_append, zAt] at hz
        have c1 := con_FormatInt_s (pl i).1 (by omega) (by omega)
        have c2 := con_FormatInt_s (pl i).2.1 (by omega) (by omega)
        have s1 := fmt_size (pl i).1
        have s2 := fmt_size (pl i).2.1
        rw [plT] at hrec
        generalize plT (q ++ sAt) pl i = s at hrec hz ⊢
        generalize fmtI (pl i).1 = t at hrec c1 s1
        generalize fmtI (pl i).2.1 = u at hrec c2 s2
        refine piece_ok mixed hc (zFt g nb N pl np i s t u) ?_ hrec
        simp only [All]
        repeat' (first | exact trivial | with_reducible apply And.intro)
        all_goals (first | exact aG _ | exact aP _ _ | exact aA _ _ | exact aE _ | omega | rfl | (intros; first | assumption | exact True.intro | rfl | exact absurd (show false = true by assumption) Bool.false_ne_true | ((repeat' (first | assumption | apply anda | apply notf)); done)) | (exact hd) | (exact c1) | (exact c2) | (simp only [ByteArray.size_append, z32, z44]; omega) | (simp; omega))
    refine piece_ok mixed hc (zFz g nb N pl np q) ?_ (lo np 0 (by omega))
    simp only [All]
    repeat' (first | exact trivial | with_reducible apply And.intro)
    all_goals (first | exact aG _ | exact aP _ _ | exact aA _ _ | exact aE _ | omega | rfl | (intros; first | assumption | exact True.intro | rfl | exact absurd (show false = true by assumption) Bool.false_ne_true | ((repeat' (first | assumption | apply anda | apply notf)); done)) | (exact hf) | (exact hg) | rfl | (simp only [ByteArray.size_append, zat]; omega) | (simp; done))
def kdP (w : T_IntS) (i : Nat) : Bool := inB (w.2 i) 0 2
def tsB (g : Nat → T_Bar) (nb : Nat) (N : Int) (pl : Nat → T_Place) (np : Nat) (w : T_IntS) : Bool := allB (kdP w) w.1 && (bif fwB g nb N pl np then (w.1 : Int) == (nb : Int) else false)
theorem con_IsTensegrity_i (g : Nat → T_Bar) (nb : Nat) (N : Int) (pl : Nat → T_Place) (np : Nat) (w : T_IntS) (hn : nb ≤ 1048576 ∧ np ≤ 1048576) (hw : w.1 ≤ 1048576) : Con Try.prog 97 0 [] [tsA g nb N pl np w] [] (.p (.bool (tsB g nb N pl np w))) := by
  have hf := con_IsFramework_i g nb N pl np hn
  refine con_start Try.func97 rfl (by kernel_rfl) rfl (fun c hc => ?_)
  have lo : ∀ d i, i + d = w.1 → allB (kdP w) i = true → Run Try.prog c 97 [.code (cAt (bodyOf Try.f97) [1, 0, 1, 0, 0]), .inLoop (cAt (bodyOf Try.f97) [1, 0, 1, 0, 0]), .inBlock 0, .code (cAt (bodyOf Try.f97) [1, 1])] (FT0 g nb N pl np w i) (Post c [] (.p (.bool (tsB g nb N pl np w)))) := by
    intro d
    induction d with
    | zero =>
      intro i hi h1
      obtain rfl : i = w.1 := by omega
      have hd : decide ((w.1 : Int) < (w.1 : Int)) = false := by simp
      rw [show tsB g nb N pl np w = (bif fwB g nb N pl np then (w.1 : Int) == (nb : Int) else false) by unfold tsB; rw [h1]; rfl]
      refine path_ok mixed Try.func97 hc (yTe g nb N pl np w w.1 (fwB g nb N pl np)) ?_
      simp only [All]
      repeat' (first | exact trivial | with_reducible apply And.intro)
      all_goals (first | exact aG _ | exact aP _ _ | exact aA _ _ | exact aE _ | omega | rfl | (intros; first | assumption | exact True.intro | rfl | exact absurd (show false = true by assumption) Bool.false_ne_true | ((repeat' (first | assumption | apply anda | apply notf)); done)) | (exact hd) | (exact hf) | rfl)
    | succ d ih =>
      intro i hi h1
      have hd : decide ((i : Int) < (w.1 : Int)) = true := decide_eq_true (by omega)
      have hp := con_within (w.2 i) 0 2
      change Con _ _ _ _ _ _ (.p (.bool (kdP w i))) at hp
      cases hb : kdP w i with
      | true =>
        rw [hb] at hp
        refine piece_ok mixed hc (yTt g nb N pl np w i) ?_ (ih (i + 1) (by omega) (by rw [allB, h1, hb]; rfl))
        simp only [All]
        repeat' (first | exact trivial | with_reducible apply And.intro)
        all_goals (first | exact aG _ | exact aP _ _ | exact aA _ _ | exact aE _ | omega | rfl | (intros; first | assumption | exact True.intro | rfl | exact absurd (show false = true by assumption) Bool.false_ne_true | ((repeat' (first | assumption | apply anda | apply notf)); done)) | (exact hd) | (exact hp) | rfl | (simp; done) | (simp; omega))
      | false =>
        rw [hb] at hp
        rw [show tsB g nb N pl np w = false by unfold tsB; rw [all_no (show i < w.1 by omega) hb]; rfl]
        refine path_ok mixed Try.func97 hc (yTx g nb N pl np w i) ?_
        simp only [All]
        repeat' (first | exact trivial | with_reducible apply And.intro)
        all_goals (first | exact aG _ | exact aP _ _ | exact aA _ _ | exact aE _ | omega | rfl | (intros; first | assumption | exact True.intro | rfl | exact absurd (show false = true by assumption) Bool.false_ne_true | ((repeat' (first | assumption | apply anda | apply notf)); done)) | (exact hd) | (exact hp) | rfl | (simp; done) | (simp; omega))
  refine piece_ok mixed hc (yTz g nb N pl np w) ?_ (lo w.1 0 (by omega) rfl)
  simp only [All]
  repeat' (first | exact trivial | with_reducible apply And.intro)
  all_goals (first | exact aG _ | exact aP _ _ | exact aA _ _ | exact aE _ | omega | rfl | (intros; first | assumption | exact True.intro | rfl | exact absurd (show false = true by assumption) Bool.false_ne_true | ((repeat' (first | assumption | apply anda | apply notf)); done)) | (simp; done))
theorem con_IsTensegrity_s (g : Nat → T_Bar) (nb : Nat) (N : Int) (pl : Nat → T_Place) (np : Nat) (w : T_IntS) (hn : nb ≤ 1048576 ∧ np ≤ 1048576) (hw : w.1 ≤ 1048576) : Con Try.prog 88 0 [] [tsA g nb N pl np w] [] (.p (.bool (tsB g nb N pl np w))) := by
  have hf := con_IsFramework_s g nb N pl np hn
  refine con_start Try.func88 rfl (by kernel_rfl) rfl (fun c hc => ?_)
  have lo : ∀ d i, i + d = w.1 → allB (kdP w) i = true → Run Try.prog c 88 [.code (cAt (bodyOf Try.f88) [1, 0, 1, 0, 0]), .inLoop (cAt (bodyOf Try.f88) [1, 0, 1, 0, 0]), .inBlock 0, .code (cAt (bodyOf Try.f88) [1, 1])] (FU0 g nb N pl np w i) (Post c [] (.p (.bool (tsB g nb N pl np w)))) := by
    intro d
    induction d with
    | zero =>
      intro i hi h1
      obtain rfl : i = w.1 := by omega
      have hd : decide ((w.1 : Int) < (w.1 : Int)) = false := by simp
      rw [show tsB g nb N pl np w = (bif fwB g nb N pl np then (w.1 : Int) == (nb : Int) else false) by unfold tsB; rw [h1]; rfl]
      refine path_ok mixed Try.func88 hc (zTe g nb N pl np w w.1 (fwB g nb N pl np)) ?_
      simp only [All]
      repeat' (first | exact trivial | with_reducible apply And.intro)
      all_goals (first | exact aG _ | exact aP _ _ | exact aA _ _ | exact aE _ | omega | rfl | (intros; first | assumption | exact True.intro | rfl | exact absurd (show false = true by assumption) Bool.false_ne_true | ((repeat' (first | assumption | apply anda | apply notf)); done)) | (exact hd) | (exact hf) | rfl)
    | succ d ih =>
      intro i hi h1
      have hd : decide ((i : Int) < (w.1 : Int)) = true := decide_eq_true (by omega)
      have hp := con_l1In (w.2 i) 0 2
      change Con _ _ _ _ _ _ (.p (.bool (kdP w i))) at hp
      cases hb : kdP w i with
      | true =>
        rw [hb] at hp
        refine piece_ok mixed hc (zTt g nb N pl np w i) ?_ (ih (i + 1) (by omega) (by rw [allB, h1, hb]; rfl))
        simp only [All]
        repeat' (first | exact trivial | with_reducible apply And.intro)
        all_goals (first | exact aG _ | exact aP _ _ | exact aA _ _ | exact aE _ | omega | rfl | (intros; first | assumption | exact True.intro | rfl | exact absurd (show false = true by assumption) Bool.false_ne_true | ((repeat' (first | assumption | apply anda | apply notf)); done)) | (exact hd) | (exact hp) | rfl | (simp; done) | (simp; omega))
      | false =>
        rw [hb] at hp
        rw [show tsB g nb N pl np w = false by unfold tsB; rw [all_no (show i < w.1 by omega) hb]; rfl]
        refine path_ok mixed Try.func88 hc (zTx g nb N pl np w i) ?_
        simp only [All]
        repeat' (first | exact trivial | with_reducible apply And.intro)
        all_goals (first | exact aG _ | exact aP _ _ | exact aA _ _ | exact aE _ | omega | rfl | (intros; first | assumption | exact True.intro | rfl | exact absurd (show false = true by assumption) Bool.false_ne_true | ((repeat' (first | assumption | apply anda | apply notf)); done)) | (exact hd) | (exact hp) | rfl | (simp; done) | (simp; omega))
  refine piece_ok mixed hc (zTz g nb N pl np w) ?_ (lo w.1 0 (by omega) rfl)
  simp only [All]
  repeat' (first | exact trivial | with_reducible apply And.intro)
  all_goals (first | exact aG _ | exact aP _ _ | exact aA _ _ | exact aE _ | omega | rfl | (intros; first | assumption | exact True.intro | rfl | exact absurd (show false = true by assumption) Bool.false_ne_true | ((repeat' (first | assumption | apply anda | apply notf)); done)) | (simp; done))
def kdL (x : Int) : ByteArray := if x = 0 then ⟨#[98]⟩ else if x = 1 then ⟨#[99]⟩ else ⟨#[115]⟩
def kdT (w : T_IntS) : Nat → ByteArray
  | 0 => sE
  | i + 1 => kdT w i ++ kdL (w.2 i)
theorem kdL_size (x : Int) : (kdL x).size = 1 := by unfold kdL; split; rfl; split <;> rfl
theorem kdT_size (w : T_IntS) : ∀ i, (kdT w i).size = i
  | 0 => rfl
  | i + 1 => by rw [kdT, ByteArray.size_append, kdT_size w i, kdL_size]
def klB (w : T_IntS) : ByteArray := if w.1 = 0 then sNone else kdT w w.1
theorem klB_size (w : T_IntS) : (klB w).size ≤ w.1 + 4 := by
  unfold klB
  split
  · show 4 ≤ _; omega
  · rw [kdT_size]; omega
theorem kd_ex {x : Int} (h : 0 ≤ x ∧ x ≤ 2) : (ByteArray.mk #[98, 99, 115]).extract x.toNat (x + 1).toNat = kdL x := by
  have : x = 0 ∨ x = 1 ∨ x = 2 := by omega
  rcases this with rfl | rfl | rfl <;> rfl
theorem con_kindLetters (w : T_IntS) (hw : w.1 ≤ 1048576) (hk : allB (kdP w) w.1 = true) : Con Try.prog 99 0 [] [inL w] [] (.p (.str (klB w))) := by
  refine con_start Try.func99 rfl (by kernel_rfl) rfl (fun c hc => ?_)
  have lo : ∀ d i, i + d = w.1 → Run Try.prog c 99 [.code (cAt (bodyOf Try.f99) [1, 1, 0, 1, 0, 0]), .inLoop (cAt (bodyOf Try.f99) [1, 1, 0, 1, 0, 0]), .inBlock 0, .code (cAt (bodyOf Try.f99) [1, 1, 1])] (FKi w i (kdT w i)) (Post c [] (.p (.str (klB w)))) := by
    intro d
    induction d with
    | zero =>
      intro i hi
      obtain rfl : i = w.1 := by omega
      have hd : decide ((w.1 : Int) < (w.1 : Int)) = false := by simp
      have hs := str_nil (kdT w w.1)
      rw [kdT_size] at hs
      by_cases h0 : w.1 = 0
      · rw [decide_eq_true h0] at hs
        rw [show klB w = sNone by simp [klB, h0]]
        refine path_ok mixed Try.func99 hc (yKn w w.1 _) ?_
        simp only [All]
        repeat' (first | exact trivial | with_reducible apply And.intro)
        all_goals (first | exact aG _ | exact aP _ _ | exact aA _ _ | exact aE _ | omega | rfl | (intros; first | assumption | exact True.intro | rfl | exact absurd (show false = true by assumption) Bool.false_ne_true | ((repeat' (first | assumption | apply anda | apply notf)); done)) | (exact hd) | (exact hs) | rfl)
      · rw [decide_eq_false h0] at hs
        rw [show klB w = kdT w w.1 by simp [klB, h0]]
        refine path_ok mixed Try.func99 hc (yKe w w.1 _) ?_
        simp only [All]
        repeat' (first | exact trivial | with_reducible apply And.intro)
        all_goals (first | exact aG _ | exact aP _ _ | exact aA _ _ | exact aE _ | omega | rfl | (intros; first | assumption | exact True.intro | rfl | exact absurd (show false = true by assumption) Bool.false_ne_true | ((repeat' (first | assumption | apply anda | apply notf)); done)) | (exact hd) | (exact hs) | rfl)
    | succ d ih =>
      intro i hi
      have hd : decide ((i : Int) < (w.1 : Int)) = true := decide_eq_true (by omega)
      have hki := (all_iff _ _).1 hk i (by omega)
      simp only [kdP, inB, Bool.and_eq_true, decide_eq_true_eq] at hki
      have hrec := ih (i + 1) (by omega)
      rw [kdT, ← kd_ex hki] at hrec
      have hz : ((ByteArray.mk #[98, 99, 115]).extract (w.2 i).toNat (w.2 i + 1).toNat).size = 1 := by rw [kd_ex hki, kdL_size]
      have hz2 := kdT_size w i
      generalize kdT w i = s at hrec hz2 ⊢
      refine piece_ok mixed hc (yKt w i s) ?_ hrec
      simp only [All]
      repeat' (first | exact trivial | with_reducible apply And.intro)
      all_goals (first | exact aG _ | exact aP _ _ | exact aA _ _ | exact aE _ | omega | rfl | (intros; first | assumption | exact True.intro | rfl | exact absurd (show false = true by assumption) Bool.false_ne_true | ((repeat' (first | assumption | apply anda | apply notf)); done)) | (exact hd) | (show _ ≤ ((3 : Nat) : Int); omega) | (rw [hz]; omega) | (simp; omega))
  refine piece_ok mixed hc (yKz w) ?_ (lo w.1 0 (by omega))
  simp only [All]
  repeat' (first | exact trivial | with_reducible apply And.intro)
  all_goals (first | exact aG _ | exact aP _ _ | exact aA _ _ | exact aE _ | omega | rfl | (intros; first | assumption | exact True.intro | rfl | exact absurd (show false = true by assumption) Bool.false_ne_true | ((repeat' (first | assumption | apply anda | apply notf)); done)) | rfl | (simp; done))
theorem con_l33Kinds (w : T_IntS) (hw : w.1 ≤ 1048576) : Con Try.prog 89 0 [] [inL w] [] (.p (.str (klB w))) := by
  refine con_start Try.func89 rfl (by kernel_rfl) rfl (fun c hc => ?_)
  have lo : ∀ d i, i + d = w.1 → Run Try.prog c 89 [.code (cAt (bodyOf Try.f89) [1, 1, 0, 1, 0, 0]), .inLoop (cAt (bodyOf Try.f89) [1, 1, 0, 1, 0, 0]), .inBlock 0, .code (cAt (bodyOf Try.f89) [1, 1, 1])] (FKs w i (kdT w i)) (Post c [] (.p (.str (klB w)))) := by
    intro d
    induction d with
    | zero =>
      intro i hi
      obtain rfl : i = w.1 := by omega
      have hd : decide ((w.1 : Int) < (w.1 : Int)) = false := by simp
      have hs := str_nil (kdT w w.1)
      rw [kdT_size] at hs
      by_cases h0 : w.1 = 0
      · rw [decide_eq_true h0] at hs
        rw [show klB w = sNone by simp [klB, h0]]
        refine path_ok mixed Try.func89 hc (zKn w w.1 _) ?_
        simp only [All]
        repeat' (first | exact trivial | with_reducible apply And.intro)
        all_goals (first | exact aG _ | exact aP _ _ | exact aA _ _ | exact aE _ | omega | rfl | (intros; first | assumption | exact True.intro | rfl | exact absurd (show false = true by assumption) Bool.false_ne_true | ((repeat' (first | assumption | apply anda | apply notf)); done)) | (exact hd) | (exact hs) | rfl)
      · rw [decide_eq_false h0] at hs
        rw [show klB w = kdT w w.1 by simp [klB, h0]]
        refine path_ok mixed Try.func89 hc (zKe w w.1 _) ?_
        simp only [All]
        repeat' (first | exact trivial | with_reducible apply And.intro)
        all_goals (first | exact aG _ | exact aP _ _ | exact aA _ _ | exact aE _ | omega | rfl | (intros; first | assumption | exact True.intro | rfl | exact absurd (show false = true by assumption) Bool.false_ne_true | ((repeat' (first | assumption | apply anda | apply notf)); done)) | (exact hd) | (exact hs) | rfl)
    | succ d ih =>
      intro i hi
      have hd : decide ((i : Int) < (w.1 : Int)) = true := decide_eq_true (by omega)
      have hrec := ih (i + 1) (by omega)
      have hz2 := kdT_size w i
      have q1 : (ByteArray.mk #[98]).size = 1 := rfl
      have q2 : (ByteArray.mk #[99]).size = 1 := rfl
      have q3 : (ByteArray.mk #[115]).size = 1 := rfl
      rw [kdT] at hrec
      generalize kdT w i = s at hrec hz2 ⊢
      by_cases h0 : w.2 i = 0
      · have e0 : (w.2 i == 0) = true := by rw [h0]; rfl
        rw [show kdL (w.2 i) = ByteArray.mk #[98] by simp [kdL, h0]] at hrec
        refine piece_ok mixed hc (zKa w i s) ?_ hrec
        simp only [All]
        repeat' (first | exact trivial | with_reducible apply And.intro)
        all_goals (first | exact aG _ | exact aP _ _ | exact aA _ _ | exact aE _ | omega | rfl | (intros; first | assumption | exact True.intro | rfl | exact absurd (show false = true by assumption) Bool.false_ne_true | ((repeat' (first | assumption | apply anda | apply notf)); done)) | (exact hd) | (exact e0) | (simp only [q1]; omega) | (simp; omega))
      · have e0 : (w.2 i == 0) = false := beq_eq_false_iff_ne.2 h0
        by_cases h1 : w.2 i = 1
        · have e1 : (w.2 i == 1) = true := by rw [h1]; rfl
          rw [show kdL (w.2 i) = ByteArray.mk #[99] by simp [kdL, h1]] at hrec
          refine piece_ok mixed hc (zKb w i s) ?_ hrec
          simp only [All]
          repeat' (first | exact trivial | with_reducible apply And.intro)
          all_goals (first | exact aG _ | exact aP _ _ | exact aA _ _ | exact aE _ | omega | rfl | (intros; first | assumption | exact True.intro | rfl | exact absurd (show false = true by assumption) Bool.false_ne_true | ((repeat' (first | assumption | apply anda | apply notf)); done)) | (exact hd) | (exact e0) | (exact e1) | (simp only [q2]; omega) | (simp; omega))
        · have e1 : (w.2 i == 1) = false := beq_eq_false_iff_ne.2 h1
          rw [show kdL (w.2 i) = ByteArray.mk #[115] by simp [kdL, h0, h1]] at hrec
          refine piece_ok mixed hc (zKc w i s) ?_ hrec
          simp only [All]
          repeat' (first | exact trivial | with_reducible apply And.intro)
          all_goals (first | exact aG _ | exact aP _ _ | exact aA _ _ | exact aE _ | omega | rfl | (intros; first | assumption | exact True.intro | rfl | exact absurd (show false = true by assumption) Bool.false_ne_true | ((repeat' (first | assumption | apply anda | apply notf)); done)) | (exact hd) | (exact e0) | (exact e1) | (simp only [q3]; omega) | (simp; omega))
  refine piece_ok mixed hc (zKz w) ?_ (lo w.1 0 (by omega))
  simp only [All]
  repeat' (first | exact trivial | with_reducible apply And.intro)
  all_goals (first | exact aG _ | exact aP _ _ | exact aA _ _ | exact aE _ | omega | rfl | (intros; first | assumption | exact True.intro | rfl | exact absurd (show false = true by assumption) Bool.false_ne_true | ((repeat' (first | assumption | apply anda | apply notf)); done)) | rfl | (simp; done))
def InSt (v : T_StepS) : Prop := ∀ i, i < v.1 → (-9223372036854775808 ≤ (v.2 i).1 ∧ (v.2 i).1 ≤ 9223372036854775807) ∧ (-9223372036854775808 ≤ (v.2 i).2.1 ∧ (v.2 i).2.1 ≤ 9223372036854775807) ∧ (-9223372036854775808 ≤ (v.2 i).2.2.1 ∧ (v.2 i).2.2.1 ≤ 9223372036854775807) ∧
  (-9223372036854775808 ≤ (v.2 i).2.2.2.1 ∧ (v.2 i).2.2.2.1 ≤ 9223372036854775807) ∧ (-9223372036854775808 ≤ (v.2 i).2.2.2.2.1 ∧ (v.2 i).2.2.2.2.1 ≤ 9223372036854775807)
def stK (k : Int) (p a b c : ByteArray) : ByteArray :=
  if k = 0 then (a ++ sDash) ++ b else if k = 1 then (((p ++ sCol) ++ a) ++ sC) ++ b else if k = 2 then (((((p ++ sCol) ++ a) ++ sDash) ++ b) ++ sC) ++ c else sQ
def stT (v : T_StepS) (i : Nat) : ByteArray := stK (v.2 i).1 (fmtI (v.2 i).2.1) (fmtI (v.2 i).2.2.1) (fmtI (v.2 i).2.2.2.1) (fmtI (v.2 i).2.2.2.2.1)
theorem zQ : sQ.size = 1 := rfl
theorem stK_size (k : Int) (p a b c : ByteArray) (hp : p.size ≤ 21) (ha : a.size ≤ 21) (hb : b.size ≤ 21) (hc : c.size ≤ 21) : (stK k p a b c).size ≤ 90 ∧ 0 < (stK k p a b c).size := by
  unfold stK
  split
  · simp only [ByteArray.size_append, zDash]; omega
  · split
    · simp only [ByteArray.size_append, zCol, zC]; omega
    · split
      · simp only [ByteArray.size_append, zCol, zC, zDash]; omega
      · rw [zQ]; omega
theorem stT_size (v : T_StepS) (i : Nat) : (stT v i).size ≤ 90 ∧ 0 < (stT v i).size := stK_size _ _ _ _ _ (fmt_size _) (fmt_size _) (fmt_size _) (fmt_size _)
def fpB (v : T_StepS) : ByteArray := if v.1 = 0 then sNone else joinB sSp (stT v) v.1
theorem fpB_size (v : T_StepS) : (fpB v).size ≤ v.1 * 91 + 4 := by
  unfold fpB
  split
  · show 4 ≤ _; omega
  · have := joinB_size sSp (stT v) 90 v.1 (fun i _ => (stT_size v i).1)
    rw [zSp] at this
    omega
theorem con_FormatSteps_i (v : T_StepS) (hv : v.1 ≤ 1048576) (hi64 : InSt v) : Con Try.prog 103 0 [] [stL v] [] (.p (.str (fpB v))) := by
  have cg := con_glued v.1 (stT v) sSp 90 (by omega) (by omega) (by rw [zSp]; omega) (fun i _ => (stT_size v i).1)
  refine con_start Try.func103 rfl (by kernel_rfl) rfl (fun c hc => ?_)
  by_cases h0 : v.1 = 0
  · have hd : ((v.1 : Int) == 0) = true := by rw [h0]; rfl
    rw [show fpB v = sNone by simp [fpB, h0]]
    refine path_ok mixed Try.func103 hc (ySn v) ?_
    simp only [All]
    repeat' (first | exact trivial | with_reducible apply And.intro)
    all_goals (first | exact aG _ | exact aP _ _ | exact aA _ _ | exact aE _ | omega | rfl | (intros; first | assumption | exact True.intro | rfl | exact absurd (show false = true by assumption) Bool.false_ne_true | ((repeat' (first | assumption | apply anda | apply notf)); done)) | (exact hd) | rfl)
  · have hd0 : ((v.1 : Int) == 0) = false := beq_eq_false_iff_ne.2 (by omega)
    rw [show fpB v = joinB sSp (stT v) v.1 by simp [fpB, h0]]
    have lo : ∀ d i, i + d = v.1 → Run Try.prog c 103 [.code (cAt (bodyOf Try.f103) [1, 1, 1, 0, 1, 0, 0]), .inLoop (cAt (bodyOf Try.f103) [1, 1, 1, 0, 1, 0, 0]), .inBlock 0, .code (cAt (bodyOf Try.f103) [1, 1, 1, 1])] (FSi v i (stT v)) (Post c [] (.p (.str (joinB sSp (stT v) v.1)))) := by
      intro d
      induction d with
      | zero =>
        intro i hi
        obtain rfl : i = v.1 := by omega
        have hd : decide ((v.1 : Int) < (v.1 : Int)) = false := by simp
        refine path_ok mixed Try.func103 hc (ySe v v.1 (stT v) _) ?_
        simp only [All]
        repeat' (first | exact trivial | with_reducible apply And.intro)
        all_goals (first | exact aG _ | exact aP _ _ | exact aA _ _ | exact aE _ | omega | rfl | (intros; first | assumption | exact True.intro | rfl | exact absurd (show false = true by assumption) Bool.false_ne_true | ((repeat' (first | assumption | apply anda | apply notf)); done)) | (exact hd) | (exact cg) | (intro t ht; simp [All]))
      | succ d ih =>
        intro i hi
        have hd : decide ((i : Int) < (v.1 : Int)) = true := decide_eq_true (by omega)
        have hrec := ih (i + 1) (by omega)
        obtain ⟨b0, b1, b2, b3, b4⟩ := hi64 i (by omega)
        have c1 := con_FormatInt_i (v.2 i).2.1 b1.1 b1.2
        have c2 := con_FormatInt_i (v.2 i).2.2.1 b2.1 b2.2
        have c3 := con_FormatInt_i (v.2 i).2.2.2.1 b3.1 b3.2
        have c4 := con_FormatInt_i (v.2 i).2.2.2.2.1 b4.1 b4.2
        have s1 := fmt_size (v.2 i).2.1
        have s2 := fmt_size (v.2 i).2.2.1
        have s3 := fmt_size (v.2 i).2.2.2.1
        have s4 := fmt_size (v.2 i).2.2.2.2.1
        have e : stT v i = stK (v.2 i).1 (fmtI (v.2 i).2.1) (fmtI (v.2 i).2.2.1) (fmtI (v.2 i).2.2.2.1) (fmtI (v.2 i).2.2.2.2.1) := rfl
        generalize fmtI (v.2 i).2.1 = p at *
        generalize fmtI (v.2 i).2.2.1 = a at *
        generalize fmtI (v.2 i).2.2.2.1 = b at *
        generalize fmtI (v.2 i).2.2.2.2.1 = q at *
        by_cases k0 : (v.2 i).1 = 0
        · have e0 : ((v.2 i).1 == 0) = true := by rw [k0]; rfl
          have e' : stT v i = a ++ ByteArray.mk #[45] ++ b := by rw [e, stK, if_pos k0]; rfl
          refine piece_ok mixed hc (ySa v i (stT v) p a b q) ?_ hrec
          simp only [All]
          repeat' (first | exact trivial | with_reducible apply And.intro)
          all_goals (first | exact aG _ | exact aP _ _ | exact aA _ _ | exact aE _ | omega | rfl | (intros; first | assumption | exact True.intro | rfl | exact absurd (show false = true by assumption) Bool.false_ne_true | ((repeat' (first | assumption | apply anda | apply notf)); done)) | (exact hd) | (exact c1) | (exact c2) | (exact c3) | (exact c4) | (exact e0) | (simp only [ByteArray.size_append, z45]; omega) | (intro t ht; rcases Nat.lt_or_eq_of_le (Nat.le_of_lt_succ ht) with h' | h' <;> (simp [h', e', cvtL, cvt, tg, tru, All]; done)) | (simp; omega))
        · have e0 : ((v.2 i).1 == 0) = false := beq_eq_false_iff_ne.2 k0
          by_cases k1 : (v.2 i).1 = 1
          · have e1 : ((v.2 i).1 == 1) = true := by rw [k1]; rfl
            have e' : stT v i = p ++ ByteArray.mk #[58] ++ a ++ ByteArray.mk #[44] ++ b := by rw [e, stK, if_neg k0, if_pos k1]; rfl
            refine piece_ok mixed hc (ySb v i (stT v) p a b q) ?_ hrec
            simp only [All]
            repeat' (first | exact trivial | with_reducible apply And.intro)
            all_goals (first | exact aG _ | exact aP _ _ | exact aA _ _ | exact aE _ | omega | rfl | (intros; first | assumption | exact True.intro | rfl | exact absurd (show false = true by assumption) Bool.false_ne_true | ((repeat' (first | assumption | apply anda | apply notf)); done)) | (exact hd) | (exact c1) | (exact c2) | (exact c3) | (exact c4) | (exact e0) | (exact e1) | (simp only [ByteArray.size_append, z45, z44, z58]; omega) | (intro t ht; rcases Nat.lt_or_eq_of_le (Nat.le_of_lt_succ ht) with h' | h' <;> (simp [h', e', cvtL, cvt, tg, tru, All]; done)) | (simp; omega))
          · have e1 : ((v.2 i).1 == 1) = false := beq_eq_false_iff_ne.2 k1
            by_cases k2 : (v.2 i).1 = 2
            · have e2 : ((v.2 i).1 == 2) = true := by rw [k2]; rfl
              have e' : stT v i = p ++ ByteArray.mk #[58] ++ a ++ ByteArray.mk #[45] ++ b ++ ByteArray.mk #[44] ++ q := by rw [e, stK, if_neg k0, if_neg k1, if_pos k2]; rfl
              refine piece_ok mixed hc (ySc v i (stT v) p a b q) ?_ hrec
              simp only [All]
              repeat' (first | exact trivial | with_reducible apply And.intro)
              all_goals (first | exact aG _ | exact aP _ _ | exact aA _ _ | exact aE _ | omega | rfl | (intros; first | assumption | exact True.intro | rfl | exact absurd (show false = true by assumption) Bool.false_ne_true | ((repeat' (first | assumption | apply anda | apply notf)); done)) | (exact hd) | (exact c1) | (exact c2) | (exact c3) | (exact c4) | (exact e0) | (exact e1) | (exact e2) | (simp only [ByteArray.size_append, z45, z44, z58]; omega) | (intro t ht; rcases Nat.lt_or_eq_of_le (Nat.le_of_lt_succ ht) with h' | h' <;> (simp [h', e', cvtL, cvt, tg, tru, All]; done)) | (simp; omega))
            · have e2 : ((v.2 i).1 == 2) = false := beq_eq_false_iff_ne.2 k2
              have e' : stT v i = ByteArray.mk #[63] := by rw [e, stK, if_neg k0, if_neg k1, if_neg k2]; rfl
              refine piece_ok mixed hc (ySd v i (stT v) p a b q) ?_ hrec
              simp only [All]
              repeat' (first | exact trivial | with_reducible apply And.intro)
              all_goals (first | exact aG _ | exact aP _ _ | exact aA _ _ | exact aE _ | omega | rfl | (intros; first | assumption | exact True.intro | rfl | exact absurd (show false = true by assumption) Bool.false_ne_true | ((repeat' (first | assumption | apply anda | apply notf)); done)) | (exact hd) | (exact c1) | (exact c2) | (exact c3) | (exact c4) | (exact e0) | (exact e1) | (exact e2) | (intro t ht; rcases Nat.lt_or_eq_of_le (Nat.le_of_lt_succ ht) with h' | h' <;> (simp [h', e', cvtL, cvt, tg, tru, All]; done)) | (simp; omega))
    refine piece_ok mixed hc (ySz v (stT v)) ?_ (lo v.1 0 (by omega))
    simp only [All]
    repeat' (first | exact trivial | with_reducible apply And.intro)
    all_goals (first | exact aG _ | exact aP _ _ | exact aA _ _ | exact aE _ | omega | rfl | (intros; first | assumption | exact True.intro | rfl | exact absurd (show false = true by assumption) Bool.false_ne_true | ((repeat' (first | assumption | apply anda | apply notf)); done)) | (exact hd0) | (intro t ht; exact absurd ht (Nat.not_lt_zero _)) | (intro t ht; simp [All]) | (simp; omega))
theorem con_FormatSteps_s (v : T_StepS) (hv : v.1 ≤ 1048576) (hi64 : InSt v) : Con Try.prog 92 0 [] [stL v] [] (.p (.str (fpB v))) := by
  refine con_start Try.func92 rfl (by kernel_rfl) rfl (fun c hc => ?_)
  have hsz : ∀ k, (joinB sSp (stT v) k).size ≤ k * 91 := fun k => by
    have := joinB_size sSp (stT v) 90 k (fun i _ => (stT_size v i).1)
    rw [zSp] at this
    exact this
  have lo : ∀ d i, i + d = v.1 → Run Try.prog c 92 [.code (cAt (bodyOf Try.f92) [1, 1, 0, 1, 0, 0]), .inLoop (cAt (bodyOf Try.f92) [1, 1, 0, 1, 0, 0]), .inBlock 0, .code (cAt (bodyOf Try.f92) [1, 1, 1])] (FSs v i (joinB sSp (stT v) i)) (Post c [] (.p (.str (fpB v)))) := by
    intro d
    induction d with
    | zero =>
      intro i hi
      obtain rfl : i = v.1 := by omega
      have hd : decide ((v.1 : Int) < (v.1 : Int)) = false := by simp
      have hs := str_nil (joinB sSp (stT v) v.1)
      by_cases h0 : v.1 = 0
      · rw [show fpB v = sNone by simp [fpB, h0]]
        rw [decide_eq_true (by rw [h0]; rfl)] at hs
        refine path_ok mixed Try.func92 hc (zSn v v.1 _) ?_
        simp only [All]
        repeat' (first | exact trivial | with_reducible apply And.intro)
        all_goals (first | exact aG _ | exact aP _ _ | exact aA _ _ | exact aE _ | omega | rfl | (intros; first | assumption | exact True.intro | rfl | exact absurd (show false = true by assumption) Bool.false_ne_true | ((repeat' (first | assumption | apply anda | apply notf)); done)) | (exact hd) | (exact hs) | rfl)
      · rw [show fpB v = joinB sSp (stT v) v.1 by simp [fpB, h0]]
        have hp : 0 < (joinB sSp (stT v) v.1).size := by
          obtain ⟨m, hm⟩ : ∃ m, v.1 = m + 1 := ⟨v.1 - 1, by omega⟩
          rw [hm]
          simp only [joinB]
          rw [ByteArray.size_append]
          have := (stT_size v m).2
          omega
        rw [decide_eq_false (by omega)] at hs
        refine path_ok mixed Try.func92 hc (zSe v v.1 _) ?_
        simp only [All]
        repeat' (first | exact trivial | with_reducible apply And.intro)
        all_goals (first | exact aG _ | exact aP _ _ | exact aA _ _ | exact aE _ | omega | rfl | (intros; first | assumption | exact True.intro | rfl | exact absurd (show false = true by assumption) Bool.false_ne_true | ((repeat' (first | assumption | apply anda | apply notf)); done)) | (exact hd) | (exact hs) | rfl)
    | succ d ih =>
      intro i hi
      have hd : decide ((i : Int) < (v.1 : Int)) = true := decide_eq_true (by omega)
      have hrec := ih (i + 1) (by omega)
      obtain ⟨b0, b1, b2, b3, b4⟩ := hi64 i (by omega)
      have c1 := con_FormatInt_s (v.2 i).2.1 b1.1 b1.2
      have c2 := con_FormatInt_s (v.2 i).2.2.1 b2.1 b2.2
      have c3 := con_FormatInt_s (v.2 i).2.2.2.1 b3.1 b3.2
      have c4 := con_FormatInt_s (v.2 i).2.2.2.2.1 b4.1 b4.2
      have s1 := fmt_size (v.2 i).2.1
      have s2 := fmt_size (v.2 i).2.2.1
      have s3 := fmt_size (v.2 i).2.2.2.1
      have s4 := fmt_size (v.2 i).2.2.2.2.1
      have e : stT v i = stK (v.2 i).1 (fmtI (v.2 i).2.1) (fmtI (v.2 i).2.2.1) (fmtI (v.2 i).2.2.2.1) (fmtI (v.2 i).2.2.2.2.1) := rfl
      have h1 := hsz i
      by_cases h0 : 0 < i
      · have hg : decide ((i : Int) > 0) = true := decide_eq_true (by omega)
        rw [joinB_pos sSp _ h0, e] at hrec
        generalize joinB sSp (stT v) i = s at hrec h1 ⊢
        clear e
        generalize fmtI (v.2 i).2.1 = p at *
        generalize fmtI (v.2 i).2.2.1 = a at *
        generalize fmtI (v.2 i).2.2.2.1 = b at *
        generalize fmtI (v.2 i).2.2.2.2.1 = q at *
        by_cases k0 : (v.2 i).1 = 0
        · have e0 : ((v.2 i).1 == 0) = true := by rw [k0]; rfl
          have eq : (s ++ sSp) ++ stK (v.2 i).1 p a b q = ((((s ++ sSp) ++ a) ++ sDash) ++ b) := by
            rw [stK, if_pos k0]
            simp only [ByteArray.append_assoc]
          rw [eq] at hrec
          refine piece_ok mixed hc (zSa1 v i s p a b q) ?_ hrec
          simp only [All]
          repeat' (first | exact trivial | with_reducible apply And.intro)
          all_goals (first | exact aG _ | exact aP _ _ | exact aA _ _ | exact aE _ | omega | rfl | (intros; first | assumption | exact True.intro | rfl | exact absurd (show false = true by assumption) Bool.false_ne_true | ((repeat' (first | assumption | apply anda | apply notf)); done)) | (exact hd) | (exact hg) | (exact c1) | (exact c2) | (exact c3) | (exact c4) | (exact e0) | (simp only [ByteArray.size_append, z32, z44, z45, z58, z63]; omega) | (simp; omega))
        · have e0 : ((v.2 i).1 == 0) = false := beq_eq_false_iff_ne.2 k0
          by_cases k1 : (v.2 i).1 = 1
          · have e1 : ((v.2 i).1 == 1) = true := by rw [k1]; rfl
            have eq : (s ++ sSp) ++ stK (v.2 i).1 p a b q = ((((((s ++ sSp) ++ p) ++ sCol) ++ a) ++ sC) ++ b) := by
              rw [stK, if_neg k0, if_pos k1]
              simp only [ByteArray.append_assoc]
            rw [eq] at hrec
            refine piece_ok mixed hc (zSb1 v i s p a b q) ?_ hrec
            simp only [All]
            repeat' (first | exact trivial | with_reducible apply And.intro)
            all_goals (first | exact aG _ | exact aP _ _ | exact aA _ _ | exact aE _ | omega | rfl | (intros; first | assumption | exact True.intro | rfl | exact absurd (show false = true by assumption) Bool.false_ne_true | ((repeat' (first | assumption | apply anda | apply notf)); done)) | (exact hd) | (exact hg) | (exact c1) | (exact c2) | (exact c3) | (exact c4) | (exact e0) | (exact e1) | (simp only [ByteArray.size_append, z32, z44, z45, z58, z63]; omega) | (simp; omega))
          · have e1 : ((v.2 i).1 == 1) = false := beq_eq_false_iff_ne.2 k1
            by_cases k2 : (v.2 i).1 = 2
            · have e2 : ((v.2 i).1 == 2) = true := by rw [k2]; rfl
              have eq : (s ++ sSp) ++ stK (v.2 i).1 p a b q = ((((((((s ++ sSp) ++ p) ++ sCol) ++ a) ++ sDash) ++ b) ++ sC) ++ q) := by
                rw [stK, if_neg k0, if_neg k1, if_pos k2]
                simp only [ByteArray.append_assoc]
              rw [eq] at hrec
              refine piece_ok mixed hc (zSc1 v i s p a b q) ?_ hrec
              simp only [All]
              repeat' (first | exact trivial | with_reducible apply And.intro)
              all_goals (first | exact aG _ | exact aP _ _ | exact aA _ _ | exact aE _ | omega | rfl | (intros; first | assumption | exact True.intro | rfl | exact absurd (show false = true by assumption) Bool.false_ne_true | ((repeat' (first | assumption | apply anda | apply notf)); done)) | (exact hd) | (exact hg) | (exact c1) | (exact c2) | (exact c3) | (exact c4) | (exact e0) | (exact e1) | (exact e2) | (simp only [ByteArray.size_append, z32, z44, z45, z58, z63]; omega) | (simp; omega))
            · have e2 : ((v.2 i).1 == 2) = false := beq_eq_false_iff_ne.2 k2
              have eq : (s ++ sSp) ++ stK (v.2 i).1 p a b q = ((s ++ sSp) ++ sQ) := by
                rw [stK, if_neg k0, if_neg k1, if_neg k2]
              rw [eq] at hrec
              refine piece_ok mixed hc (zSd1 v i s p a b q) ?_ hrec
              simp only [All]
              repeat' (first | exact trivial | with_reducible apply And.intro)
              all_goals (first | exact aG _ | exact aP _ _ | exact aA _ _ | exact aE _ | omega | rfl | (intros; first | assumption | exact True.intro | rfl | exact absurd (show false = true by assumption) Bool.false_ne_true | ((repeat' (first | assumption | apply anda | apply notf)); done)) | (exact hd) | (exact hg) | (exact c1) | (exact c2) | (exact c3) | (exact c4) | (exact e0) | (exact e1) | (exact e2) | (simp only [ByteArray.size_append, z32, z44, z45, z58, z63]; omega) | (simp; omega))
      · obtain rfl : i = 0 := by omega
        have hg : decide (((0 : Nat) : Int) > 0) = false := by simp
        rw [joinB_one, e] at hrec
        rw [joinB_0] at h1 ⊢
        clear e
        generalize sE = s at hrec h1 ⊢
        generalize fmtI (v.2 0).2.1 = p at *
        generalize fmtI (v.2 0).2.2.1 = a at *
        generalize fmtI (v.2 0).2.2.2.1 = b at *
        generalize fmtI (v.2 0).2.2.2.2.1 = q at *
        by_cases k0 : (v.2 0).1 = 0
        · have e0 : ((v.2 0).1 == 0) = true := by rw [k0]; rfl
          have eq : s ++ stK (v.2 0).1 p a b q = (((s ++ a) ++ sDash) ++ b) := by
            rw [stK, if_pos k0]
            simp only [ByteArray.append_assoc]
          rw [eq] at hrec
          refine piece_ok mixed hc (zSa0 v 0 s p a b q) ?_ hrec
          simp only [All]
          repeat' (first | exact trivial | with_reducible apply And.intro)
          all_goals (first | exact aG _ | exact aP _ _ | exact aA _ _ | exact aE _ | omega | rfl | (intros; first | assumption | exact True.intro | rfl | exact absurd (show false = true by assumption) Bool.false_ne_true | ((repeat' (first | assumption | apply anda | apply notf)); done)) | (exact hd) | (exact hg) | (exact c1) | (exact c2) | (exact c3) | (exact c4) | (exact e0) | (simp only [ByteArray.size_append, z32, z44, z45, z58, z63]; omega) | (simp; omega))
        · have e0 : ((v.2 0).1 == 0) = false := beq_eq_false_iff_ne.2 k0
          by_cases k1 : (v.2 0).1 = 1
          · have e1 : ((v.2 0).1 == 1) = true := by rw [k1]; rfl
            have eq : s ++ stK (v.2 0).1 p a b q = (((((s ++ p) ++ sCol) ++ a) ++ sC) ++ b) := by
              rw [stK, if_neg k0, if_pos k1]
              simp only [ByteArray.append_assoc]
            rw [eq] at hrec
            refine piece_ok mixed hc (zSb0 v 0 s p a b q) ?_ hrec
            simp only [All]
            repeat' (first | exact trivial | with_reducible apply And.intro)
            all_goals (first | exact aG _ | exact aP _ _ | exact aA _ _ | exact aE _ | omega | rfl | (intros; first | assumption | exact True.intro | rfl | exact absurd (show false = true by assumption) Bool.false_ne_true | ((repeat' (first | assumption | apply anda | apply notf)); done)) | (exact hd) | (exact hg) | (exact c1) | (exact c2) | (exact c3) | (exact c4) | (exact e0) | (exact e1) | (simp only [ByteArray.size_append, z32, z44, z45, z58, z63]; omega) | (simp; omega))
          · have e1 : ((v.2 0).1 == 1) = false := beq_eq_false_iff_ne.2 k1
            by_cases k2 : (v.2 0).1 = 2
            · have e2 : ((v.2 0).1 == 2) = true := by rw [k2]; rfl
              have eq : s ++ stK (v.2 0).1 p a b q = (((((((s ++ p) ++ sCol) ++ a) ++ sDash) ++ b) ++ sC) ++ q) := by
                rw [stK, if_neg k0, if_neg k1, if_pos k2]
                simp only [ByteArray.append_assoc]
              rw [eq] at hrec
              refine piece_ok mixed hc (zSc0 v 0 s p a b q) ?_ hrec
              simp only [All]
              repeat' (first | exact trivial | with_reducible apply And.intro)
              all_goals (first | exact aG _ | exact aP _ _ | exact aA _ _ | exact aE _ | omega | rfl | (intros; first | assumption | exact True.intro | rfl | exact absurd (show false = true by assumption) Bool.false_ne_true | ((repeat' (first | assumption | apply anda | apply notf)); done)) | (exact hd) | (exact hg) | (exact c1) | (exact c2) | (exact c3) | (exact c4) | (exact e0) | (exact e1) | (exact e2) | (simp only [ByteArray.size_append, z32, z44, z45, z58, z63]; omega) | (simp; omega))
            · have e2 : ((v.2 0).1 == 2) = false := beq_eq_false_iff_ne.2 k2
              have eq : s ++ stK (v.2 0).1 p a b q = (s ++ sQ) := by
                rw [stK, if_neg k0, if_neg k1, if_neg k2]
              rw [eq] at hrec
              refine piece_ok mixed hc (zSd0 v 0 s p a b q) ?_ hrec
              simp only [All]
              repeat' (first | exact trivial | with_reducible apply And.intro)
              all_goals (first | exact aG _ | exact aP _ _ | exact aA _ _ | exact aE _ | omega | rfl | (intros; first | assumption | exact True.intro | rfl | exact absurd (show false = true by assumption) Bool.false_ne_true | ((repeat' (first | assumption | apply anda | apply notf)); done)) | (exact hd) | (exact hg) | (exact c1) | (exact c2) | (exact c3) | (exact c4) | (exact e0) | (exact e1) | (exact e2) | (simp only [ByteArray.size_append, z32, z44, z45, z58, z63]; omega) | (simp; omega))
  refine piece_ok mixed hc (zSz v) ?_ (lo v.1 0 (by omega))
  simp only [All]
  repeat' (first | exact trivial | with_reducible apply And.intro)
  all_goals (first | exact aG _ | exact aP _ _ | exact aA _ _ | exact aE _ | omega | rfl | (intros; first | assumption | exact True.intro | rfl | exact absurd (show false = true by assumption) Bool.false_ne_true | ((repeat' (first | assumption | apply anda | apply notf)); done)) | rfl | (simp; omega))
end Go.Proofs.Ytffnfeefjdmifaa.Mach
namespace Go.Proofs.Ytffnfeefjdmifaa.Mach
open Go
set_option linter.unusedVariables false
set_option linter.unusedSimpArgs false
def wdB (k : Int) : ByteArray := if k = 1 then wd_rigid else if k = 2 then wd_flexible else if k = 3 then wd_dependent else if k = 4 then wd_stiff else if k = 5 then wd_loose else if k = 6 then wd_tight else sE
theorem wdB_size (k : Int) : (wdB k).size ≤ 9 := by
  unfold wdB
  repeat' split
  all_goals first | exact (by show 5 ≤ 9; omega) | exact (by show 8 ≤ 9; omega) | exact (by show 9 ≤ 9; omega) | exact Nat.zero_le _
theorem wdB_pos {k : Int} (h : 1 ≤ k ∧ k ≤ 6) : 0 < (wdB k).size := by
  have : k = 1 ∨ k = 2 ∨ k = 3 ∨ k = 4 ∨ k = 5 ∨ k = 6 := by omega
  rcases this with rfl | rfl | rfl | rfl | rfl | rfl
  · show 0 < 5; omega
  · show 0 < 8; omega
  · show 0 < 9; omega
  · show 0 < 5; omega
  · show 0 < 5; omega
  · show 0 < 5; omega
theorem wdB_no {k : Int} (h : ¬ (1 ≤ k ∧ k ≤ 6)) : wdB k = sE := by
  unfold wdB
  rw [if_neg (by omega), if_neg (by omega), if_neg (by omega), if_neg (by omega), if_neg (by omega), if_neg (by omega)]
theorem con_ClaimWord_i (k : Int) : Con Try.prog 96 0 [] [.p (.int .i64 k)] [] (.p (.str (wdB k))) := by
  have hi := con_within k 1 6
  refine con_start Try.func96 rfl (by kernel_rfl) rfl (fun c hc => ?_)
  by_cases h : 1 ≤ k ∧ k ≤ 6
  · rw [show inB k 1 6 = true by simp [inB]; omega] at hi
    have : k = 1 ∨ k = 2 ∨ k = 3 ∨ k = 4 ∨ k = 5 ∨ k = 6 := by omega
    rcases this with rfl | rfl | rfl | rfl | rfl | rfl
    · refine path_ok mixed Try.func96 hc (yW1 ()) ?_
      simp only [All]
      repeat' (first | exact trivial | with_reducible apply And.intro)
      all_goals (first | exact aG _ | exact aP _ _ | exact aA _ _ | exact aE _ | omega | rfl | (intros; first | assumption | exact True.intro | rfl | exact absurd (show false = true by assumption) Bool.false_ne_true | ((repeat' (first | assumption | apply anda | apply notf)); done)) | (exact hi) | rfl)
    · refine path_ok mixed Try.func96 hc (yW2 ()) ?_
      simp only [All]
      repeat' (first | exact trivial | with_reducible apply And.intro)
      all_goals (first | exact aG _ | exact aP _ _ | exact aA _ _ | exact aE _ | omega | rfl | (intros; first | assumption | exact True.intro | rfl | exact absurd (show false = true by assumption) Bool.false_ne_true | ((repeat' (first | assumption | apply anda | apply notf)); done)) | (exact hi) | rfl)
    · refine path_ok mixed Try.func96 hc (yW3 ()) ?_
      simp only [All]
      repeat' (first | exact trivial | with_reducible apply And.intro)
      all_goals (first | exact aG _ | exact aP _ _ | exact aA _ _ | exact aE _ | omega | rfl | (intros; first | assumption | exact True.intro | rfl | exact absurd (show false = true by assumption) Bool.false_ne_true | ((repeat' (first | assumption | apply anda | apply notf)); done)) | (exact hi) | rfl)
    · refine path_ok mixed Try.func96 hc (yW4 ()) ?_
      simp only [All]
      repeat' (first | exact trivial | with_reducible apply And.intro)
      all_goals (first | exact aG _ | exact aP _ _ | exact aA _ _ | exact aE _ | omega | rfl | (intros; first | assumption | exact True.intro | rfl | exact absurd (show false = true by assumption) Bool.false_ne_true | ((repeat' (first | assumption | apply anda | apply notf)); done)) | (exact hi) | rfl)
    · refine path_ok mixed Try.func96 hc (yW5 ()) ?_
      simp only [All]
      repeat' (first | exact trivial | with_reducible apply And.intro)
      all_goals (first | exact aG _ | exact aP _ _ | exact aA _ _ | exact aE _ | omega | rfl | (intros; first | assumption | exact True.intro | rfl | exact absurd (show false = true by assumption) Bool.false_ne_true | ((repeat' (first | assumption | apply anda | apply notf)); done)) | (exact hi) | rfl)
    · refine path_ok mixed Try.func96 hc (yW6 ()) ?_
      simp only [All]
      repeat' (first | exact trivial | with_reducible apply And.intro)
      all_goals (first | exact aG _ | exact aP _ _ | exact aA _ _ | exact aE _ | omega | rfl | (intros; first | assumption | exact True.intro | rfl | exact absurd (show false = true by assumption) Bool.false_ne_true | ((repeat' (first | assumption | apply anda | apply notf)); done)) | (exact hi) | rfl)
  · rw [show inB k 1 6 = false by simp [inB]; omega] at hi
    rw [wdB_no h]
    refine path_ok mixed Try.func96 hc (yW0 k) ?_
    simp only [All]
    repeat' (first | exact trivial | with_reducible apply And.intro)
    all_goals (first | exact aG _ | exact aP _ _ | exact aA _ _ | exact aE _ | omega | rfl | (intros; first | assumption | exact True.intro | rfl | exact absurd (show false = true by assumption) Bool.false_ne_true | ((repeat' (first | assumption | apply anda | apply notf)); done)) | (exact hi) | rfl)
theorem con_ClaimWord_s (k : Int) : Con Try.prog 86 0 [] [.p (.int .i64 k)] [] (.p (.str (wdB k))) := by
  have hi := con_l1In k 1 6
  refine con_start Try.func86 rfl (by kernel_rfl) rfl (fun c hc => ?_)
  by_cases h : 1 ≤ k ∧ k ≤ 6
  · rw [show inB k 1 6 = true by simp [inB]; omega] at hi
    have : k = 1 ∨ k = 2 ∨ k = 3 ∨ k = 4 ∨ k = 5 ∨ k = 6 := by omega
    rcases this with rfl | rfl | rfl | rfl | rfl | rfl
    · refine path_ok mixed Try.func86 hc (zW1 ()) ?_
      simp only [All]
      repeat' (first | exact trivial | with_reducible apply And.intro)
      all_goals (first | exact aG _ | exact aP _ _ | exact aA _ _ | exact aE _ | omega | rfl | (intros; first | assumption | exact True.intro | rfl | exact absurd (show false = true by assumption) Bool.false_ne_true | ((repeat' (first | assumption | apply anda | apply notf)); done)) | (exact hi) | rfl)
    · refine path_ok mixed Try.func86 hc (zW2 ()) ?_
      simp only [All]
      repeat' (first | exact trivial | with_reducible apply And.intro)
      all_goals (first | exact aG _ | exact aP _ _ | exact aA _ _ | exact aE _ | omega | rfl | (intros; first | assumption | exact True.intro | rfl | exact absurd (show false = true by assumption) Bool.false_ne_true | ((repeat' (first | assumption | apply anda | apply notf)); done)) | (exact hi) | rfl)
    · refine path_ok mixed Try.func86 hc (zW3 ()) ?_
      simp only [All]
      repeat' (first | exact trivial | with_reducible apply And.intro)
      all_goals (first | exact aG _ | exact aP _ _ | exact aA _ _ | exact aE _ | omega | rfl | (intros; first | assumption | exact True.intro | rfl | exact absurd (show false = true by assumption) Bool.false_ne_true | ((repeat' (first | assumption | apply anda | apply notf)); done)) | (exact hi) | rfl)
    · refine path_ok mixed Try.func86 hc (zW4 ()) ?_
      simp only [All]
      repeat' (first | exact trivial | with_reducible apply And.intro)
      all_goals (first | exact aG _ | exact aP _ _ | exact aA _ _ | exact aE _ | omega | rfl | (intros; first | assumption | exact True.intro | rfl | exact absurd (show false = true by assumption) Bool.false_ne_true | ((repeat' (first | assumption | apply anda | apply notf)); done)) | (exact hi) | rfl)
    · refine path_ok mixed Try.func86 hc (zW5 ()) ?_
      simp only [All]
      repeat' (first | exact trivial | with_reducible apply And.intro)
      all_goals (first | exact aG _ | exact aP _ _ | exact aA _ _ | exact aE _ | omega | rfl | (intros; first | assumption | exact True.intro | rfl | exact absurd (show false = true by assumption) Bool.false_ne_true | ((repeat' (first | assumption | apply anda | apply notf)); done)) | (exact hi) | rfl)
    · refine path_ok mixed Try.func86 hc (zW6 ()) ?_
      simp only [All]
      repeat' (first | exact trivial | with_reducible apply And.intro)
      all_goals (first | exact aG _ | exact aP _ _ | exact aA _ _ | exact aE _ | omega | rfl | (intros; first | assumption | exact True.intro | rfl | exact absurd (show false = true by assumption) Bool.false_ne_true | ((repeat' (first | assumption | apply anda | apply notf)); done)) | (exact hi) | rfl)
  · rw [show inB k 1 6 = false by simp [inB]; omega] at hi
    rw [wdB_no h]
    refine path_ok mixed Try.func86 hc (zW0 k) ?_
    simp only [All]
    repeat' (first | exact trivial | with_reducible apply And.intro)
    all_goals (first | exact aG _ | exact aP _ _ | exact aA _ _ | exact aE _ | omega | rfl | (intros; first | assumption | exact True.intro | rfl | exact absurd (show false = true by assumption) Bool.false_ne_true | ((repeat' (first | assumption | apply anda | apply notf)); done)) | (exact hi) | rfl)
def c1B (K : Int) (g : Nat → T_Bar) (nb : Nat) (N : Int) (pl : Nat → T_Place) (np : Nat) (w u : T_IntS) : ByteArray := ((((((wdB K ++ sSp) ++ ffB g nb N pl np) ++ sKin) ++ klB w) ++ sBy) ++ nlB u)
def c2B (K : Int) (g1 : Nat → T_Bar) (nb1 : Nat) (N1 : Int) (v : T_StepS) (u : T_IntS) : ByteArray := ((((((wdB K ++ sSp) ++ gfB g1 nb1 N1) ++ sBy) ++ fpB v) ++ sAnd) ++ nlB u)
def fcB (K : Int) (g1 : Nat → T_Bar) (nb1 : Nat) (N1 : Int) (g : Nat → T_Bar) (nb : Nat) (N : Int) (pl : Nat → T_Place) (np : Nat) (w : T_IntS) (v : T_StepS) (u : T_IntS) : ByteArray :=
  if K = 4 ∨ K = 5 then (if tsB g nb N pl np w = true then c1B K g nb N pl np w u else sE) else if 1 ≤ K ∧ K ≤ 6 then (if isG g1 nb1 N1 = true then c2B K g1 nb1 N1 v u else sE) else sE
theorem nlB_size (u : T_IntS) : (nlB u).size ≤ u.1 * 22 + 4 := by
  unfold nlB
  split
  · show 4 ≤ _; omega
  · have := nmB_size u; omega
theorem gf_pos {g : Nat → T_Bar} {nb : Nat} {N : Int} (h : isG g nb N = true) : 0 < (gfB g nb N).size := by
  rw [gfB, if_pos h]; exact grT_pos N g nb
theorem ts_kd {g : Nat → T_Bar} {nb : Nat} {N : Int} {pl : Nat → T_Place} {np : Nat} {w : T_IntS} (h : tsB g nb N pl np w = true) : allB (kdP w) w.1 = true := by
  unfold tsB at h
  rw [Bool.and_eq_true] at h
  exact h.1
theorem con_FormatClaim_i1 (K : Int) (g1 : Nat → T_Bar) (nb1 : Nat) (N1 : Int) (g : Nat → T_Bar) (nb : Nat) (N : Int) (pl : Nat → T_Place) (np : Nat) (w : T_IntS) (v : T_StepS) (u : T_IntS) (hn1 : nb1 ≤ 1048576) (hn : nb ≤ 1048576 ∧ np ≤ 1048576) (hw : w.1 ≤ 1048576) (hv : v.1 ≤ 1048576) (hu : u.1 ≤ 1048576) (iv : InSt v) (iu : In64 u) : Con Try.prog 33 0 [] [clA K g1 nb1 N1 g nb N pl np w v u] [] (.p (.str (fcB K g1 nb1 N1 g nb N pl np w v u))) := by
  have c1 := con_ClaimWord_i K
  have c2 := con_IsTensegrity_i g nb N pl np w hn hw
  have c3 := con_FormatFramework_i g nb N pl np hn
  have c5 := con_listed u hu iu
  have c6 := con_IsGraph_i (N1, (nb1, g1), ()) (smG g1 nb1 N1 hn1)
  change Con Try.prog 101 0 [] [gzA g1 nb1 N1] [] (.p (.bool (isG g1 nb1 N1))) at c6
  have c7 := con_FormatGraph_i g1 nb1 N1 hn1
  have c8 := con_FormatSteps_i v hv iv
  have d1 := wdB_size K
  have d3 := ffB_size g nb N pl np
  have d4 := klB_size w
  have d5 := nlB_size u
  have d7 := gfB_size g1 nb1 N1
  have d8 := fpB_size v
  refine con_start Try.func33 rfl (by kernel_rfl) rfl (fun c hc => ?_)
  by_cases h45 : K = 4 ∨ K = 5
  · rw [show fcB K g1 nb1 N1 g nb N pl np w v u = (if tsB g nb N pl np w = true then c1B K g nb N pl np w u else sE) by rw [fcB, if_pos h45]]
    cases ht : tsB g nb N pl np w with
    | false =>
      rw [ht] at c2
      rw [if_neg Bool.false_ne_true]
      rcases h45 with h | h
      · have e4 : (K == 4) = true := by rw [h]; rfl
        refine path_ok mixed Try.func33 hc (yC4n K g1 nb1 N1 g nb N pl np w v u (wdB K) (ffB g nb N pl np)) ?_
        simp only [All]
        repeat' (first | exact trivial | with_reducible apply And.intro)
        all_goals (first | exact aG _ | exact aP _ _ | exact aA _ _ | exact aE _ | omega | rfl | (intros; first | assumption | exact True.intro | rfl | exact absurd (show false = true by assumption) Bool.false_ne_true | ((repeat' (first | assumption | apply anda | apply notf)); done)) | (exact c1) | (exact c2) | (exact c3) | (exact e4) | rfl)
      · have e4 : (K == 4) = false := by rw [h]; rfl
        have e5 : (K == 5) = true := by rw [h]; rfl
        refine path_ok mixed Try.func33 hc (yC5n K g1 nb1 N1 g nb N pl np w v u (wdB K) (ffB g nb N pl np)) ?_
        simp only [All]
        repeat' (first | exact trivial | with_reducible apply And.intro)
        all_goals (first | exact aG _ | exact aP _ _ | exact aA _ _ | exact aE _ | omega | rfl | (intros; first | assumption | exact True.intro | rfl | exact absurd (show false = true by assumption) Bool.false_ne_true | ((repeat' (first | assumption | apply anda | apply notf)); done)) | (exact c1) | (exact c2) | (exact c3) | (exact e4) | (exact e5) | rfl)
    | true =>
      rw [ht] at c2
      rw [if_pos rfl]
      have c4 := con_kindLetters w hw (ts_kd ht)
      unfold c1B
      generalize wdB K = wd at *
      generalize ffB g nb N pl np = f at *
      generalize klB w = kk at *
      generalize nlB u = l at *
      rcases h45 with h | h
      · have e4 : (K == 4) = true := by rw [h]; rfl
        refine path_ok mixed Try.func33 hc (yC4y K g1 nb1 N1 g nb N pl np w v u wd f kk l) ?_
        simp only [All]
        repeat' (first | exact trivial | with_reducible apply And.intro)
        all_goals (first | exact aG _ | exact aP _ _ | exact aA _ _ | exact aE _ | omega | rfl | (intros; first | assumption | exact True.intro | rfl | exact absurd (show false = true by assumption) Bool.false_ne_true | ((repeat' (first | assumption | apply anda | apply notf)); done)) | (exact c1) | (exact c2) | (exact c3) | (exact c4) | (exact c5) | (exact e4) | rfl | (simp only [ByteArray.size_append, z32, zkin, zby, zand]; omega))
      · have e4 : (K == 4) = false := by rw [h]; rfl
        have e5 : (K == 5) = true := by rw [h]; rfl
        refine path_ok mixed Try.func33 hc (yC5y K g1 nb1 N1 g nb N pl np w v u wd f kk l) ?_
        simp only [All]
        repeat' (first | exact trivial | with_reducible apply And.intro)
        all_goals (first | exact aG _ | exact aP _ _ | exact aA _ _ | exact aE _ | omega | rfl | (intros; first | assumption | exact True.intro | rfl | exact absurd (show false = true by assumption) Bool.false_ne_true | ((repeat' (first | assumption | apply anda | apply notf)); done)) | (exact c1) | (exact c2) | (exact c3) | (exact c4) | (exact c5) | (exact e4) | (exact e5) | rfl | (simp only [ByteArray.size_append, z32, zkin, zby, zand]; omega))
  · have e4 : (K == 4) = false := beq_eq_false_iff_ne.2 (by omega)
    have e5 : (K == 5) = false := beq_eq_false_iff_ne.2 (by omega)
    by_cases h6 : 1 ≤ K ∧ K ≤ 6
    · rw [show fcB K g1 nb1 N1 g nb N pl np w v u = (if isG g1 nb1 N1 = true then c2B K g1 nb1 N1 v u else sE) by rw [fcB, if_neg h45, if_pos h6]]
      have hk : K = 1 ∨ K = 2 ∨ K = 3 ∨ K = 6 := by omega
      cases hg : isG g1 nb1 N1 with
      | false =>
        rw [hg] at c6
        rw [if_neg Bool.false_ne_true]
        rcases hk with h | h | h | h
        · have x1 : (K == 1) = true := by rw [h]; rfl
          have x2 : (K == 2) = false := by rw [h]; rfl
          have x3 : (K == 3) = false := by rw [h]; rfl
          have x6 : (K == 6) = false := by rw [h]; rfl
          refine path_ok mixed Try.func33 hc (yC1n K g1 nb1 N1 g nb N pl np w v u (wdB K)) ?_
          simp only [All]
          repeat' (first | exact trivial | with_reducible apply And.intro)
          all_goals (first | exact aG _ | exact aP _ _ | exact aA _ _ | exact aE _ | omega | rfl | (intros; first | assumption | exact True.intro | rfl | exact absurd (show false = true by assumption) Bool.false_ne_true | ((repeat' (first | assumption | apply anda | apply notf)); done)) | (exact c1) | (exact c6) | (exact e4) | (exact e5) | (exact x1) | (exact x2) | (exact x3) | (exact x6) | rfl)
        · have x1 : (K == 1) = false := by rw [h]; rfl
          have x2 : (K == 2) = true := by rw [h]; rfl
          have x3 : (K == 3) = false := by rw [h]; rfl
          have x6 : (K == 6) = false := by rw [h]; rfl
          refine path_ok mixed Try.func33 hc (yC2n K g1 nb1 N1 g nb N pl np w v u (wdB K)) ?_
          simp only [All]
          repeat' (first | exact trivial | with_reducible apply And.intro)
          all_goals (first | exact aG _ | exact aP _ _ | exact aA _ _ | exact aE _ | omega | rfl | (intros; first | assumption | exact True.intro | rfl | exact absurd (show false = true by assumption) Bool.false_ne_true | ((repeat' (first | assumption | apply anda | apply notf)); done)) | (exact c1) | (exact c6) | (exact e4) | (exact e5) | (exact x1) | (exact x2) | (exact x3) | (exact x6) | rfl)
        · have x1 : (K == 1) = false := by rw [h]; rfl
          have x2 : (K == 2) = false := by rw [h]; rfl
          have x3 : (K == 3) = true := by rw [h]; rfl
          have x6 : (K == 6) = false := by rw [h]; rfl
          refine path_ok mixed Try.func33 hc (yC3n K g1 nb1 N1 g nb N pl np w v u (wdB K)) ?_
          simp only [All]
          repeat' (first | exact trivial | with_reducible apply And.intro)
          all_goals (first | exact aG _ | exact aP _ _ | exact aA _ _ | exact aE _ | omega | rfl | (intros; first | assumption | exact True.intro | rfl | exact absurd (show false = true by assumption) Bool.false_ne_true | ((repeat' (first | assumption | apply anda | apply notf)); done)) | (exact c1) | (exact c6) | (exact e4) | (exact e5) | (exact x1) | (exact x2) | (exact x3) | (exact x6) | rfl)
        · have x1 : (K == 1) = false := by rw [h]; rfl
          have x2 : (K == 2) = false := by rw [h]; rfl
          have x3 : (K == 3) = false := by rw [h]; rfl
          have x6 : (K == 6) = true := by rw [h]; rfl
          refine path_ok mixed Try.func33 hc (yC6n K g1 nb1 N1 g nb N pl np w v u (wdB K)) ?_
          simp only [All]
          repeat' (first | exact trivial | with_reducible apply And.intro)
          all_goals (first | exact aG _ | exact aP _ _ | exact aA _ _ | exact aE _ | omega | rfl | (intros; first | assumption | exact True.intro | rfl | exact absurd (show false = true by assumption) Bool.false_ne_true | ((repeat' (first | assumption | apply anda | apply notf)); done)) | (exact c1) | (exact c6) | (exact e4) | (exact e5) | (exact x1) | (exact x2) | (exact x3) | (exact x6) | rfl)
      | true =>
        rw [hg] at c6
        rw [if_pos rfl]
        unfold c2B
        generalize wdB K = wd at *
        generalize gfB g1 nb1 N1 = gg at *
        generalize fpB v = ss at *
        generalize nlB u = l at *
        rcases hk with h | h | h | h
        · have x1 : (K == 1) = true := by rw [h]; rfl
          have x2 : (K == 2) = false := by rw [h]; rfl
          have x3 : (K == 3) = false := by rw [h]; rfl
          have x6 : (K == 6) = false := by rw [h]; rfl
          refine path_ok mixed Try.func33 hc (yC1y K g1 nb1 N1 g nb N pl np w v u wd gg ss l) ?_
          simp only [All]
          repeat' (first | exact trivial | with_reducible apply And.intro)
          all_goals (first | exact aG _ | exact aP _ _ | exact aA _ _ | exact aE _ | omega | rfl | (intros; first | assumption | exact True.intro | rfl | exact absurd (show false = true by assumption) Bool.false_ne_true | ((repeat' (first | assumption | apply anda | apply notf)); done)) | (exact c1) | (exact c6) | (exact c7) | (exact c8) | (exact c5) | (exact e4) | (exact e5) | (exact x1) | (exact x2) | (exact x3) | (exact x6) | rfl | (simp only [ByteArray.size_append, z32, zkin, zby, zand]; omega))
        · have x1 : (K == 1) = false := by rw [h]; rfl
          have x2 : (K == 2) = true := by rw [h]; rfl
          have x3 : (K == 3) = false := by rw [h]; rfl
          have x6 : (K == 6) = false := by rw [h]; rfl
          refine path_ok mixed Try.func33 hc (yC2y K g1 nb1 N1 g nb N pl np w v u wd gg ss l) ?_
          simp only [All]
          repeat' (first | exact trivial | with_reducible apply And.intro)
          all_goals (first | exact aG _ | exact aP _ _ | exact aA _ _ | exact aE _ | omega | rfl | (intros; first | assumption | exact True.intro | rfl | exact absurd (show false = true by assumption) Bool.false_ne_true | ((repeat' (first | assumption | apply anda | apply notf)); done)) | (exact c1) | (exact c6) | (exact c7) | (exact c8) | (exact c5) | (exact e4) | (exact e5) | (exact x1) | (exact x2) | (exact x3) | (exact x6) | rfl | (simp only [ByteArray.size_append, z32, zkin, zby, zand]; omega))
        · have x1 : (K == 1) = false := by rw [h]; rfl
          have x2 : (K == 2) = false := by rw [h]; rfl
          have x3 : (K == 3) = true := by rw [h]; rfl
          have x6 : (K == 6) = false := by rw [h]; rfl
          refine path_ok mixed Try.func33 hc (yC3y K g1 nb1 N1 g nb N pl np w v u wd gg ss l) ?_
          simp only [All]
          repeat' (first | exact trivial | with_reducible apply And.intro)
          all_goals (first | exact aG _ | exact aP _ _ | exact aA _ _ | exact aE _ | omega | rfl | (intros; first | assumption | exact True.intro | rfl | exact absurd (show false = true by assumption) Bool.false_ne_true | ((repeat' (first | assumption | apply anda | apply notf)); done)) | (exact c1) | (exact c6) | (exact c7) | (exact c8) | (exact c5) | (exact e4) | (exact e5) | (exact x1) | (exact x2) | (exact x3) | (exact x6) | rfl | (simp only [ByteArray.size_append, z32, zkin, zby, zand]; omega))
        · have x1 : (K == 1) = false := by rw [h]; rfl
          have x2 : (K == 2) = false := by rw [h]; rfl
          have x3 : (K == 3) = false := by rw [h]; rfl
          have x6 : (K == 6) = true := by rw [h]; rfl
          refine path_ok mixed Try.func33 hc (yC6y K g1 nb1 N1 g nb N pl np w v u wd gg ss l) ?_
          simp only [All]
          repeat' (first | exact trivial | with_reducible apply And.intro)
          all_goals (first | exact aG _ | exact aP _ _ | exact aA _ _ | exact aE _ | omega | rfl | (intros; first | assumption | exact True.intro | rfl | exact absurd (show false = true by assumption) Bool.false_ne_true | ((repeat' (first | assumption | apply anda | apply notf)); done)) | (exact c1) | (exact c6) | (exact c7) | (exact c8) | (exact c5) | (exact e4) | (exact e5) | (exact x1) | (exact x2) | (exact x3) | (exact x6) | rfl | (simp only [ByteArray.size_append, z32, zkin, zby, zand]; omega))
    · rw [show fcB K g1 nb1 N1 g nb N pl np w v u = sE by rw [fcB, if_neg h45, if_neg h6]]
      have x1 : (K == 1) = false := beq_eq_false_iff_ne.2 (by omega)
      have x2 : (K == 2) = false := beq_eq_false_iff_ne.2 (by omega)
      have x3 : (K == 3) = false := beq_eq_false_iff_ne.2 (by omega)
      have x6 : (K == 6) = false := beq_eq_false_iff_ne.2 (by omega)
      refine path_ok mixed Try.func33 hc (yC0 K g1 nb1 N1 g nb N pl np w v u (wdB K)) ?_
      simp only [All]
      repeat' (first | exact trivial | with_reducible apply And.intro)
      all_goals (first | exact aG _ | exact aP _ _ | exact aA _ _ | exact aE _ | omega | rfl | (intros; first | assumption | exact True.intro | rfl | exact absurd (show false = true by assumption) Bool.false_ne_true | ((repeat' (first | assumption | apply anda | apply notf)); done)) | (exact c1) | (exact e4) | (exact e5) | (exact x1) | (exact x2) | (exact x3) | (exact x6) | rfl)
theorem con_FormatClaim_s1 (K : Int) (g1 : Nat → T_Bar) (nb1 : Nat) (N1 : Int) (g : Nat → T_Bar) (nb : Nat) (N : Int) (pl : Nat → T_Place) (np : Nat) (w : T_IntS) (v : T_StepS) (u : T_IntS) (hn1 : nb1 ≤ 1048576) (hn : nb ≤ 1048576 ∧ np ≤ 1048576) (hw : w.1 ≤ 1048576) (hv : v.1 ≤ 1048576) (hu : u.1 ≤ 1048576) (iv : InSt v) (iu : In64 u) : Con Try.prog 31 0 [] [clA K g1 nb1 N1 g nb N pl np w v u] [] (.p (.str (fcB K g1 nb1 N1 g nb N pl np w v u))) := by
  have c1 := con_ClaimWord_s K
  have c2 := con_IsTensegrity_s g nb N pl np w hn hw
  have c3 := con_FormatFramework_s g nb N pl np hn
  have c5 := con_l33Numbers u hu iu
  have c6 := con_IsGraph_s (N1, (nb1, g1), ()) (smG g1 nb1 N1 hn1)
  change Con Try.prog 110 0 [] [gzA g1 nb1 N1] [] (.p (.bool (isG g1 nb1 N1))) at c6
  have c7 := con_FormatGraph_s g1 nb1 N1 hn1
  have c8 := con_FormatSteps_s v hv iv
  have d1 := wdB_size K
  have d3 := ffB_size g nb N pl np
  have d4 := klB_size w
  have d5 := nlB_size u
  have d7 := gfB_size g1 nb1 N1
  have d8 := fpB_size v
  refine con_start Try.func31 rfl (by kernel_rfl) rfl (fun c hc => ?_)
  by_cases h45 : K = 4 ∨ K = 5
  · rw [show fcB K g1 nb1 N1 g nb N pl np w v u = (if tsB g nb N pl np w = true then c1B K g nb N pl np w u else sE) by rw [fcB, if_pos h45]]
    cases ht : tsB g nb N pl np w with
    | false =>
      rw [ht] at c2
      rw [if_neg Bool.false_ne_true]
      rcases h45 with h | h
      · have e4 : (K == 4) = true := by rw [h]; rfl
        refine path_ok mixed Try.func31 hc (zC4n K g1 nb1 N1 g nb N pl np w v u (wdB K) (ffB g nb N pl np)) ?_
        simp only [All]
        repeat' (first | exact trivial | with_reducible apply And.intro)
        all_goals (first | exact aG _ | exact aP _ _ | exact aA _ _ | exact aE _ | omega | rfl | (intros; first | assumption | exact True.intro | rfl | exact absurd (show false = true by assumption) Bool.false_ne_true | ((repeat' (first | assumption | apply anda | apply notf)); done)) | (exact c1) | (exact c2) | (exact c3) | (exact e4) | rfl)
      · have e4 : (K == 4) = false := by rw [h]; rfl
        have e5 : (K == 5) = true := by rw [h]; rfl
        refine path_ok mixed Try.func31 hc (zC5n K g1 nb1 N1 g nb N pl np w v u (wdB K) (ffB g nb N pl np)) ?_
        simp only [All]
        repeat' (first | exact trivial | with_reducible apply And.intro)
        all_goals (first | exact aG _ | exact aP _ _ | exact aA _ _ | exact aE _ | omega | rfl | (intros; first | assumption | exact True.intro | rfl | exact absurd (show false = true by assumption) Bool.false_ne_true | ((repeat' (first | assumption | apply anda | apply notf)); done)) | (exact c1) | (exact c2) | (exact c3) | (exact e4) | (exact e5) | rfl)
    | true =>
      rw [ht] at c2
      rw [if_pos rfl]
      have c4 := con_l33Kinds w hw
      unfold c1B
      generalize wdB K = wd at *
      generalize ffB g nb N pl np = f at *
      generalize klB w = kk at *
      generalize nlB u = l at *
      rcases h45 with h | h
      · have e4 : (K == 4) = true := by rw [h]; rfl
        refine path_ok mixed Try.func31 hc (zC4y K g1 nb1 N1 g nb N pl np w v u wd f kk l) ?_
        simp only [All]
        repeat' (first | exact trivial | with_reducible apply And.intro)
        all_goals (first | exact aG _ | exact aP _ _ | exact aA _ _ | exact aE _ | omega | rfl | (intros; first | assumption | exact True.intro | rfl | exact absurd (show false = true by assumption) Bool.false_ne_true | ((repeat' (first | assumption | apply anda | apply notf)); done)) | (exact c1) | (exact c2) | (exact c3) | (exact c4) | (exact c5) | (exact e4) | rfl | (simp only [ByteArray.size_append, z32, zkin, zby, zand]; omega))
      · have e4 : (K == 4) = false := by rw [h]; rfl
        have e5 : (K == 5) = true := by rw [h]; rfl
        refine path_ok mixed Try.func31 hc (zC5y K g1 nb1 N1 g nb N pl np w v u wd f kk l) ?_
        simp only [All]
        repeat' (first | exact trivial | with_reducible apply And.intro)
        all_goals (first | exact aG _ | exact aP _ _ | exact aA _ _ | exact aE _ | omega | rfl | (intros; first | assumption | exact True.intro | rfl | exact absurd (show false = true by assumption) Bool.false_ne_true | ((repeat' (first | assumption | apply anda | apply notf)); done)) | (exact c1) | (exact c2) | (exact c3) | (exact c4) | (exact c5) | (exact e4) | (exact e5) | rfl | (simp only [ByteArray.size_append, z32, zkin, zby, zand]; omega))
  · have e4 : (K == 4) = false := beq_eq_false_iff_ne.2 (by omega)
    have e5 : (K == 5) = false := beq_eq_false_iff_ne.2 (by omega)
    have n1 := str_nil (wdB K)
    have n2 := str_nil (gfB g1 nb1 N1)
    by_cases h6 : 1 ≤ K ∧ K ≤ 6
    · have p1 := wdB_pos h6
      rw [decide_eq_false (by omega)] at n1
      rw [show fcB K g1 nb1 N1 g nb N pl np w v u = (if isG g1 nb1 N1 = true then c2B K g1 nb1 N1 v u else sE) by rw [fcB, if_neg h45, if_pos h6]]
      cases hg : isG g1 nb1 N1 with
      | false =>
        rw [if_neg Bool.false_ne_true]
        rw [decide_eq_true (by rw [gfB, if_neg (by rw [hg]; exact Bool.false_ne_true)]; rfl)] at n2
        have hx : (bif (wdB K).toList == (ByteArray.mk #[]).toList then true else (gfB g1 nb1 N1).toList == (ByteArray.mk #[]).toList) = true := by rw [n1, n2]; rfl
        refine path_ok mixed Try.func31 hc (zCn K g1 nb1 N1 g nb N pl np w v u (wdB K) (gfB g1 nb1 N1)) ?_
        simp only [All]
        repeat' (first | exact trivial | with_reducible apply And.intro)
        all_goals (first | exact aG _ | exact aP _ _ | exact aA _ _ | exact aE _ | omega | rfl | (intros; first | assumption | exact True.intro | rfl | exact absurd (show false = true by assumption) Bool.false_ne_true | ((repeat' (first | assumption | apply anda | apply notf)); done)) | (exact c1) | (exact c7) | (exact e4) | (exact e5) | (exact hx) | (intro h; rw [h]; rfl) | rfl)
      | true =>
        have p2 := gf_pos hg
        rw [decide_eq_false (by omega)] at n2
        have hx : (bif (wdB K).toList == (ByteArray.mk #[]).toList then true else (gfB g1 nb1 N1).toList == (ByteArray.mk #[]).toList) = false := by rw [n1, n2]; rfl
        rw [if_pos rfl]
        unfold c2B
        generalize wdB K = wd at *
        generalize gfB g1 nb1 N1 = gg at *
        generalize fpB v = ss at *
        generalize nlB u = l at *
        refine path_ok mixed Try.func31 hc (zCy K g1 nb1 N1 g nb N pl np w v u wd gg ss l) ?_
        simp only [All]
        repeat' (first | exact trivial | with_reducible apply And.intro)
        all_goals (first | exact aG _ | exact aP _ _ | exact aA _ _ | exact aE _ | omega | rfl | (intros; first | assumption | exact True.intro | rfl | exact absurd (show false = true by assumption) Bool.false_ne_true | ((repeat' (first | assumption | apply anda | apply notf)); done)) | (exact c1) | (exact c7) | (exact c8) | (exact c5) | (exact e4) | (exact e5) | (exact hx) | (intro h; rw [h]; rfl) | rfl | (simp only [ByteArray.size_append, z32, zkin, zby, zand]; omega))
    · rw [show fcB K g1 nb1 N1 g nb N pl np w v u = sE by rw [fcB, if_neg h45, if_neg h6]]
      rw [decide_eq_true (by rw [wdB_no h6]; rfl)] at n1
      have hx : (bif (wdB K).toList == (ByteArray.mk #[]).toList then true else (gfB g1 nb1 N1).toList == (ByteArray.mk #[]).toList) = true := by rw [n1]; rfl
      refine path_ok mixed Try.func31 hc (zCn K g1 nb1 N1 g nb N pl np w v u (wdB K) (gfB g1 nb1 N1)) ?_
      simp only [All]
      repeat' (first | exact trivial | with_reducible apply And.intro)
      all_goals (first | exact aG _ | exact aP _ _ | exact aA _ _ | exact aE _ | omega | rfl | (intros; first | assumption | exact True.intro | rfl | exact absurd (show false = true by assumption) Bool.false_ne_true | ((repeat' (first | assumption | apply anda | apply notf)); done)) | (exact c1) | (exact c7) | (exact e4) | (exact e5) | (exact hx) | (intro h; rw [h]; rfl) | rfl)
def fcF (v : T_Claim) : ByteArray := fcB v.1 v.2.1.2.1.2 v.2.1.2.1.1 v.2.1.1 v.2.2.1.1.1.2.1.2 v.2.2.1.1.1.2.1.1 v.2.2.1.1.1.1 v.2.2.1.1.2.1.2 v.2.2.1.1.2.1.1 v.2.2.1.2.1 v.2.2.2.1 v.2.2.2.2.1
theorem cl_sm {v : T_Claim} (hs : smS s_Claim v) : v.2.1.2.1.1 ≤ 1048576 ∧ (v.2.2.1.1.1.2.1.1 ≤ 1048576 ∧ v.2.2.1.1.2.1.1 ≤ 1048576) ∧ v.2.2.1.2.1.1 ≤ 1048576 ∧ v.2.2.2.1.1 ≤ 1048576 ∧ v.2.2.2.2.1.1 ≤ 1048576 := by
  obtain ⟨_, ⟨_, ⟨h1, _⟩, _⟩, ⟨⟨⟨_, ⟨h2, _⟩, _⟩, ⟨h3, _⟩, _⟩, ⟨h4, _⟩, _⟩, ⟨h5, _⟩, ⟨h6, _⟩, _⟩ := hs
  exact ⟨h1, ⟨h2, h3⟩, h4, h5, h6⟩
theorem cl_ok {v : T_Claim} (hs : okS s_Claim v) : InSt v.2.2.2.1 ∧ In64 v.2.2.2.2.1 := by
  obtain ⟨_, _, _, ⟨_, h5⟩, ⟨_, h6⟩, _⟩ := hs
  refine ⟨fun i hi => ?_, fun i hi => ?_⟩
  · obtain ⟨a, b, c, d, e, _⟩ := h5 i hi
    exact ⟨a, b, c, d, e⟩
  · exact h6 i hi
theorem con_FormatClaim_i (v : T_Claim) (hs : smS s_Claim v) (ok : okS s_Claim v) : Con Try.prog 33 0 [] [clA v.1 v.2.1.2.1.2 v.2.1.2.1.1 v.2.1.1 v.2.2.1.1.1.2.1.2 v.2.2.1.1.1.2.1.1 v.2.2.1.1.1.1 v.2.2.1.1.2.1.2 v.2.2.1.1.2.1.1 v.2.2.1.2.1 v.2.2.2.1 v.2.2.2.2.1] [] (.p (.str (fcF v))) := by
  obtain ⟨h1, h2, h3, h4, h5⟩ := cl_sm hs
  obtain ⟨i1, i2⟩ := cl_ok ok
  exact con_FormatClaim_i1 _ _ _ _ _ _ _ _ _ _ _ _ h1 h2 h3 h4 h5 i1 i2
theorem con_FormatClaim_s (v : T_Claim) (hs : smS s_Claim v) (ok : okS s_Claim v) : Con Try.prog 31 0 [] [clA v.1 v.2.1.2.1.2 v.2.1.2.1.1 v.2.1.1 v.2.2.1.1.1.2.1.2 v.2.2.1.1.1.2.1.1 v.2.2.1.1.1.1 v.2.2.1.1.2.1.2 v.2.2.1.1.2.1.1 v.2.2.1.2.1 v.2.2.2.1 v.2.2.2.2.1] [] (.p (.str (fcF v))) := by
  obtain ⟨h1, h2, h3, h4, h5⟩ := cl_sm hs
  obtain ⟨i1, i2⟩ := cl_ok ok
  exact con_FormatClaim_s1 _ _ _ _ _ _ _ _ _ _ _ _ h1 h2 h3 h4 h5 i1 i2
end Go.Proofs.Ytffnfeefjdmifaa.Mach
namespace Go.Proofs.Ytffnfeefjdmifaa.Mach
open Go
set_option linter.unusedVariables false
set_option linter.unusedSimpArgs false
theorem p_FnExactFormatClaim_0 (v0 : T_Claim) :
    pathOb Try.prog Try.f7 0 [.reg [oT, oT], .reg [oT], .reg [oT, oT, ⟨true, (some ⟨[], [], [], 1, [], .p (.int .i64 (f_szClaim v0 1048576))⟩), none⟩, oT], .reg [oT, oT], .dec true, .reg [oT]] [.code (bodyOf Try.f7)] (start Try.f7 [] 0 [.agg [.p (.int .i64 v0.1), .p (.int .i64 v0.2.1.1), .p (.seq true 2 v0.2.1.2.1.1 (fun i => [.int .i64 ((v0.2.1.2.1.2 i).1), .int .i64 ((v0.2.1.2.1.2 i).2.1)])), .p (.int .i64 v0.2.2.1.1.1.1), .p (.seq true 2 v0.2.2.1.1.1.2.1.1 (fun i => [.int .i64 ((v0.2.2.1.1.1.2.1.2 i).1), .int .i64 ((v0.2.2.1.1.1.2.1.2 i).2.1)])), .p (.seq true 2 v0.2.2.1.1.2.1.1 (fun i => [.int .i64 ((v0.2.2.1.1.2.1.2 i).1), .int .i64 ((v0.2.2.1.1.2.1.2 i).2.1)])), .p (.seq true 1 v0.2.2.1.2.1.1 (fun i => [.int .i64 (v0.2.2.1.2.1.2 i)])), .p (.seq true 5 v0.2.2.2.1.1 (fun i => [.int .i64 ((v0.2.2.2.1.2 i).1), .int .i64 ((v0.2.2.2.1.2 i).2.1), .int .i64 ((v0.2.2.2.1.2 i).2.2.1), .int .i64 ((v0.2.2.2.1.2 i).2.2.2.1), .int .i64 ((v0.2.2.2.1.2 i).2.2.2.2.1)])), .p (.seq true 1 v0.2.2.2.2.1.1 (fun i => [.int .i64 (v0.2.2.2.2.1.2 i)]))]]) [] 1 [] (.p (.bool true)) =
    some [((0 : Nat) < 1),
  Con Try.prog 30 0 [] [.agg [.p (.int .i64 v0.1), .p (.int .i64 v0.2.1.1), .p (.seq true 2 v0.2.1.2.1.1 (fun i => [.int .i64 ((v0.2.1.2.1.2 i).1), .int .i64 ((v0.2.1.2.1.2 i).2.1)])), .p (.int .i64 v0.2.2.1.1.1.1), .p (.seq true 2 v0.2.2.1.1.1.2.1.1 (fun i => [.int .i64 ((v0.2.2.1.1.1.2.1.2 i).1), .int .i64 ((v0.2.2.1.1.1.2.1.2 i).2.1)])), .p (.seq true 2 v0.2.2.1.1.2.1.1 (fun i => [.int .i64 ((v0.2.2.1.1.2.1.2 i).1), .int .i64 ((v0.2.2.1.1.2.1.2 i).2.1)])), .p (.seq true 1 v0.2.2.1.2.1.1 (fun i => [.int .i64 (v0.2.2.1.2.1.2 i)])), .p (.seq true 5 v0.2.2.2.1.1 (fun i => [.int .i64 ((v0.2.2.2.1.2 i).1), .int .i64 ((v0.2.2.2.1.2 i).2.1), .int .i64 ((v0.2.2.2.1.2 i).2.2.1), .int .i64 ((v0.2.2.2.1.2 i).2.2.2.1), .int .i64 ((v0.2.2.2.1.2 i).2.2.2.2.1)])), .p (.seq true 1 v0.2.2.2.2.1.1 (fun i => [.int .i64 (v0.2.2.2.2.1.2 i)]))], .p (.int .i64 1048576)] [] (.p (.int .i64 (f_szClaim v0 1048576))),
  ((decide (f_szClaim v0 1048576 < 0)) = true),
  (true = true)] := by kernel_rfl
theorem p_FnExactFormatClaim_e (v0 : T_Claim) :
    pathOb Try.prog Try.f7 0 [.reg [oT, oT], .reg [oT], .reg [oT, oT, ⟨true, (some ⟨[], [], [], 1, [], .p (.int .i64 (f_szClaim v0 1048576))⟩), none⟩, oT], .reg [oT, oT], .dec false, .reg [oT, ⟨true, (some ⟨[], [], [], 1, [(0, ⟨false, 2, v0.2.1.2.1.1, fun i => [.p (.int .i64 ((v0.2.1.2.1.2 i).1)), .p (.int .i64 ((v0.2.1.2.1.2 i).2.1))]⟩), (1, ⟨false, 2, v0.2.2.1.1.1.2.1.1, fun i => [.p (.int .i64 ((v0.2.2.1.1.1.2.1.2 i).1)), .p (.int .i64 ((v0.2.2.1.1.1.2.1.2 i).2.1))]⟩), (2, ⟨false, 2, v0.2.2.1.1.2.1.1, fun i => [.p (.int .i64 ((v0.2.2.1.1.2.1.2 i).1)), .p (.int .i64 ((v0.2.2.1.1.2.1.2 i).2.1))]⟩), (3, ⟨false, 1, v0.2.2.1.2.1.1, fun i => [.p (.int .i64 (v0.2.2.1.2.1.2 i))]⟩), (4, ⟨false, 5, v0.2.2.2.1.1, fun i => [.p (.int .i64 ((v0.2.2.2.1.2 i).1)), .p (.int .i64 ((v0.2.2.2.1.2 i).2.1)), .p (.int .i64 ((v0.2.2.2.1.2 i).2.2.1)), .p (.int .i64 ((v0.2.2.2.1.2 i).2.2.2.1)), .p (.int .i64 ((v0.2.2.2.1.2 i).2.2.2.2.1))]⟩), (5, ⟨false, 1, v0.2.2.2.2.1.1, fun i => [.p (.int .i64 (v0.2.2.2.2.1.2 i))]⟩)], .agg [.p (.int .i64 v0.1), .p (.int .i64 v0.2.1.1), .ar 2 0 0 v0.2.1.2.1.1, .p (.int .i64 v0.2.2.1.1.1.1), .ar 2 1 0 v0.2.2.1.1.1.2.1.1, .ar 2 2 0 v0.2.2.1.1.2.1.1, .ar 1 3 0 v0.2.2.1.2.1.1, .ar 5 4 0 v0.2.2.2.1.1, .ar 1 5 0 v0.2.2.2.2.1.1]⟩), none⟩, ⟨true, (some ⟨[], [], [], 1, [], .p (.str (fcF v0))⟩), none⟩, oT], .reg [oT, ⟨true, (some ⟨[], [], [], 1, [(0, ⟨false, 2, v0.2.1.2.1.1, fun i => [.p (.int .i64 ((v0.2.1.2.1.2 i).1)), .p (.int .i64 ((v0.2.1.2.1.2 i).2.1))]⟩), (1, ⟨false, 2, v0.2.2.1.1.1.2.1.1, fun i => [.p (.int .i64 ((v0.2.2.1.1.1.2.1.2 i).1)), .p (.int .i64 ((v0.2.2.1.1.1.2.1.2 i).2.1))]⟩), (2, ⟨false, 2, v0.2.2.1.1.2.1.1, fun i => [.p (.int .i64 ((v0.2.2.1.1.2.1.2 i).1)), .p (.int .i64 ((v0.2.2.1.1.2.1.2 i).2.1))]⟩), (3, ⟨false, 1, v0.2.2.1.2.1.1, fun i => [.p (.int .i64 (v0.2.2.1.2.1.2 i))]⟩), (4, ⟨false, 5, v0.2.2.2.1.1, fun i => [.p (.int .i64 ((v0.2.2.2.1.2 i).1)), .p (.int .i64 ((v0.2.2.2.1.2 i).2.1)), .p (.int .i64 ((v0.2.2.2.1.2 i).2.2.1)), .p (.int .i64 ((v0.2.2.2.1.2 i).2.2.2.1)), .p (.int .i64 ((v0.2.2.2.1.2 i).2.2.2.2.1))]⟩), (5, ⟨false, 1, v0.2.2.2.2.1.1, fun i => [.p (.int .i64 (v0.2.2.2.2.1.2 i))]⟩)], .agg [.p (.int .i64 v0.1), .p (.int .i64 v0.2.1.1), .ar 2 0 0 v0.2.1.2.1.1, .p (.int .i64 v0.2.2.1.1.1.1), .ar 2 1 0 v0.2.2.1.1.1.2.1.1, .ar 2 2 0 v0.2.2.1.1.2.1.1, .ar 1 3 0 v0.2.2.1.2.1.1, .ar 5 4 0 v0.2.2.2.1.1, .ar 1 5 0 v0.2.2.2.2.1.1]⟩), none⟩, oT, oT], .reg [oT, ⟨true, (some ⟨[], [], [], 1, [], .p (.str (fcF v0))⟩), none⟩, oT], .reg [oT, oT, oT], .dec false, .reg [oT, oT, ⟨true, (some ⟨[], [], [], 1, [(0, ⟨false, 2, v0.2.1.2.1.1, fun i => [.p (.int .i64 ((v0.2.1.2.1.2 i).1)), .p (.int .i64 ((v0.2.1.2.1.2 i).2.1))]⟩), (1, ⟨false, 2, v0.2.2.1.1.1.2.1.1, fun i => [.p (.int .i64 ((v0.2.2.1.1.1.2.1.2 i).1)), .p (.int .i64 ((v0.2.2.1.1.1.2.1.2 i).2.1))]⟩), (2, ⟨false, 2, v0.2.2.1.1.2.1.1, fun i => [.p (.int .i64 ((v0.2.2.1.1.2.1.2 i).1)), .p (.int .i64 ((v0.2.2.1.1.2.1.2 i).2.1))]⟩), (3, ⟨false, 1, v0.2.2.1.2.1.1, fun i => [.p (.int .i64 (v0.2.2.1.2.1.2 i))]⟩), (4, ⟨false, 5, v0.2.2.2.1.1, fun i => [.p (.int .i64 ((v0.2.2.2.1.2 i).1)), .p (.int .i64 ((v0.2.2.2.1.2 i).2.1)), .p (.int .i64 ((v0.2.2.2.1.2 i).2.2.1)), .p (.int .i64 ((v0.2.2.2.1.2 i).2.2.2.1)), .p (.int .i64 ((v0.2.2.2.1.2 i).2.2.2.2.1))]⟩), (5, ⟨false, 1, v0.2.2.2.2.1.1, fun i => [.p (.int .i64 (v0.2.2.2.2.1.2 i))]⟩)], .agg [.p (.int .i64 v0.1), .p (.int .i64 v0.2.1.1), .ar 2 0 0 v0.2.1.2.1.1, .p (.int .i64 v0.2.2.1.1.1.1), .ar 2 1 0 v0.2.2.1.1.1.2.1.1, .ar 2 2 0 v0.2.2.1.1.2.1.1, .ar 1 3 0 v0.2.2.1.2.1.1, .ar 5 4 0 v0.2.2.2.1.1, .ar 1 5 0 v0.2.2.2.2.1.1]⟩), none⟩, ⟨true, (some ⟨[], [], [], 1, [], .p (.bool true)⟩), none⟩, oT], .dec false, .reg [oT]] [.code (bodyOf Try.f7)] (start Try.f7 [] 0 [.agg [.p (.int .i64 v0.1), .p (.int .i64 v0.2.1.1), .p (.seq true 2 v0.2.1.2.1.1 (fun i => [.int .i64 ((v0.2.1.2.1.2 i).1), .int .i64 ((v0.2.1.2.1.2 i).2.1)])), .p (.int .i64 v0.2.2.1.1.1.1), .p (.seq true 2 v0.2.2.1.1.1.2.1.1 (fun i => [.int .i64 ((v0.2.2.1.1.1.2.1.2 i).1), .int .i64 ((v0.2.2.1.1.1.2.1.2 i).2.1)])), .p (.seq true 2 v0.2.2.1.1.2.1.1 (fun i => [.int .i64 ((v0.2.2.1.1.2.1.2 i).1), .int .i64 ((v0.2.2.1.1.2.1.2 i).2.1)])), .p (.seq true 1 v0.2.2.1.2.1.1 (fun i => [.int .i64 (v0.2.2.1.2.1.2 i)])), .p (.seq true 5 v0.2.2.2.1.1 (fun i => [.int .i64 ((v0.2.2.2.1.2 i).1), .int .i64 ((v0.2.2.2.1.2 i).2.1), .int .i64 ((v0.2.2.2.1.2 i).2.2.1), .int .i64 ((v0.2.2.2.1.2 i).2.2.2.1), .int .i64 ((v0.2.2.2.1.2 i).2.2.2.2.1)])), .p (.seq true 1 v0.2.2.2.2.1.1 (fun i => [.int .i64 (v0.2.2.2.2.1.2 i)]))]]) [] 1 [] (.p (.bool true)) =
    some [((0 : Nat) < 1),
  Con Try.prog 30 0 [] [.agg [.p (.int .i64 v0.1), .p (.int .i64 v0.2.1.1), .p (.seq true 2 v0.2.1.2.1.1 (fun i => [.int .i64 ((v0.2.1.2.1.2 i).1), .int .i64 ((v0.2.1.2.1.2 i).2.1)])), .p (.int .i64 v0.2.2.1.1.1.1), .p (.seq true 2 v0.2.2.1.1.1.2.1.1 (fun i => [.int .i64 ((v0.2.2.1.1.1.2.1.2 i).1), .int .i64 ((v0.2.2.1.1.1.2.1.2 i).2.1)])), .p (.seq true 2 v0.2.2.1.1.2.1.1 (fun i => [.int .i64 ((v0.2.2.1.1.2.1.2 i).1), .int .i64 ((v0.2.2.1.1.2.1.2 i).2.1)])), .p (.seq true 1 v0.2.2.1.2.1.1 (fun i => [.int .i64 (v0.2.2.1.2.1.2 i)])), .p (.seq true 5 v0.2.2.2.1.1 (fun i => [.int .i64 ((v0.2.2.2.1.2 i).1), .int .i64 ((v0.2.2.2.1.2 i).2.1), .int .i64 ((v0.2.2.2.1.2 i).2.2.1), .int .i64 ((v0.2.2.2.1.2 i).2.2.2.1), .int .i64 ((v0.2.2.2.1.2 i).2.2.2.2.1)])), .p (.seq true 1 v0.2.2.2.2.1.1 (fun i => [.int .i64 (v0.2.2.2.2.1.2 i)]))], .p (.int .i64 1048576)] [] (.p (.int .i64 (f_szClaim v0 1048576))),
  ((decide (f_szClaim v0 1048576 < 0)) = false),
  ((0 : Nat) < 1),
  Con Try.prog 32 0 [] [.agg [.p (.int .i64 v0.1), .p (.int .i64 v0.2.1.1), .p (.seq true 2 v0.2.1.2.1.1 (fun i => [.int .i64 ((v0.2.1.2.1.2 i).1), .int .i64 ((v0.2.1.2.1.2 i).2.1)])), .p (.int .i64 v0.2.2.1.1.1.1), .p (.seq true 2 v0.2.2.1.1.1.2.1.1 (fun i => [.int .i64 ((v0.2.2.1.1.1.2.1.2 i).1), .int .i64 ((v0.2.2.1.1.1.2.1.2 i).2.1)])), .p (.seq true 2 v0.2.2.1.1.2.1.1 (fun i => [.int .i64 ((v0.2.2.1.1.2.1.2 i).1), .int .i64 ((v0.2.2.1.1.2.1.2 i).2.1)])), .p (.seq true 1 v0.2.2.1.2.1.1 (fun i => [.int .i64 (v0.2.2.1.2.1.2 i)])), .p (.seq true 5 v0.2.2.2.1.1 (fun i => [.int .i64 ((v0.2.2.2.1.2 i).1), .int .i64 ((v0.2.2.2.1.2 i).2.1), .int .i64 ((v0.2.2.2.1.2 i).2.2.1), .int .i64 ((v0.2.2.2.1.2 i).2.2.2.1), .int .i64 ((v0.2.2.2.1.2 i).2.2.2.2.1)])), .p (.seq true 1 v0.2.2.2.2.1.1 (fun i => [.int .i64 (v0.2.2.2.2.1.2 i)]))]] [(0, ⟨false, 2, v0.2.1.2.1.1, (fun i => [.p (.int .i64 ((v0.2.1.2.1.2 i).1)), .p (.int .i64 ((v0.2.1.2.1.2 i).2.1))])⟩), (1, ⟨false, 2, v0.2.2.1.1.1.2.1.1, (fun i => [.p (.int .i64 ((v0.2.2.1.1.1.2.1.2 i).1)), .p (.int .i64 ((v0.2.2.1.1.1.2.1.2 i).2.1))])⟩), (2, ⟨false, 2, v0.2.2.1.1.2.1.1, (fun i => [.p (.int .i64 ((v0.2.2.1.1.2.1.2 i).1)), .p (.int .i64 ((v0.2.2.1.1.2.1.2 i).2.1))])⟩), (3, ⟨false, 1, v0.2.2.1.2.1.1, (fun i => [.p (.int .i64 (v0.2.2.1.2.1.2 i))])⟩), (4, ⟨false, 5, v0.2.2.2.1.1, (fun i => [.p (.int .i64 ((v0.2.2.2.1.2 i).1)), .p (.int .i64 ((v0.2.2.2.1.2 i).2.1)), .p (.int .i64 ((v0.2.2.2.1.2 i).2.2.1)), .p (.int .i64 ((v0.2.2.2.1.2 i).2.2.2.1)), .p (.int .i64 ((v0.2.2.2.1.2 i).2.2.2.2.1))])⟩), (5, ⟨false, 1, v0.2.2.2.2.1.1, (fun i => [.p (.int .i64 (v0.2.2.2.2.1.2 i))])⟩)] (.agg [.p (.int .i64 v0.1), .p (.int .i64 v0.2.1.1), .ar 2 0 0 v0.2.1.2.1.1, .p (.int .i64 v0.2.2.1.1.1.1), .ar 2 1 0 v0.2.2.1.1.1.2.1.1, .ar 2 2 0 v0.2.2.1.1.2.1.1, .ar 1 3 0 v0.2.2.1.2.1.1, .ar 5 4 0 v0.2.2.2.1.1, .ar 1 5 0 v0.2.2.2.2.1.1]),
  (AN 2),
  ((v0.2.1.2.1.1 : Nat) ≤ v0.2.1.2.1.1),
  (AN 2),
  ((v0.2.2.1.1.1.2.1.1 : Nat) ≤ v0.2.2.1.1.1.2.1.1),
  (AN 2),
  ((v0.2.2.1.1.2.1.1 : Nat) ≤ v0.2.2.1.1.2.1.1),
  (AN 1),
  ((v0.2.2.1.2.1.1 : Nat) ≤ v0.2.2.1.2.1.1),
  (AN 5),
  ((v0.2.2.2.1.1 : Nat) ≤ v0.2.2.2.1.1),
  (AN 1),
  ((v0.2.2.2.2.1.1 : Nat) ≤ v0.2.2.2.2.1.1),
  Con Try.prog 31 0 [] [.agg [.p (.int .i64 v0.1), .p (.int .i64 v0.2.1.1), .p (.seq true 2 v0.2.1.2.1.1 (fun i => [.int .i64 ((v0.2.1.2.1.2 i).1), .int .i64 ((v0.2.1.2.1.2 i).2.1)])), .p (.int .i64 v0.2.2.1.1.1.1), .p (.seq true 2 v0.2.2.1.1.1.2.1.1 (fun i => [.int .i64 ((v0.2.2.1.1.1.2.1.2 i).1), .int .i64 ((v0.2.2.1.1.1.2.1.2 i).2.1)])), .p (.seq true 2 v0.2.2.1.1.2.1.1 (fun i => [.int .i64 ((v0.2.2.1.1.2.1.2 i).1), .int .i64 ((v0.2.2.1.1.2.1.2 i).2.1)])), .p (.seq true 1 v0.2.2.1.2.1.1 (fun i => [.int .i64 (v0.2.2.1.2.1.2 i)])), .p (.seq true 5 v0.2.2.2.1.1 (fun i => [.int .i64 ((v0.2.2.2.1.2 i).1), .int .i64 ((v0.2.2.2.1.2 i).2.1), .int .i64 ((v0.2.2.2.1.2 i).2.2.1), .int .i64 ((v0.2.2.2.1.2 i).2.2.2.1), .int .i64 ((v0.2.2.2.1.2 i).2.2.2.2.1)])), .p (.seq true 1 v0.2.2.2.2.1.1 (fun i => [.int .i64 (v0.2.2.2.2.1.2 i)]))]] [] (.p (.str (fcF v0))),
  ((0 : Nat) < 1),
  Con Try.prog 32 0 [] [.agg [.p (.int .i64 v0.1), .p (.int .i64 v0.2.1.1), .p (.seq true 2 v0.2.1.2.1.1 (fun i => [.int .i64 ((v0.2.1.2.1.2 i).1), .int .i64 ((v0.2.1.2.1.2 i).2.1)])), .p (.int .i64 v0.2.2.1.1.1.1), .p (.seq true 2 v0.2.2.1.1.1.2.1.1 (fun i => [.int .i64 ((v0.2.2.1.1.1.2.1.2 i).1), .int .i64 ((v0.2.2.1.1.1.2.1.2 i).2.1)])), .p (.seq true 2 v0.2.2.1.1.2.1.1 (fun i => [.int .i64 ((v0.2.2.1.1.2.1.2 i).1), .int .i64 ((v0.2.2.1.1.2.1.2 i).2.1)])), .p (.seq true 1 v0.2.2.1.2.1.1 (fun i => [.int .i64 (v0.2.2.1.2.1.2 i)])), .p (.seq true 5 v0.2.2.2.1.1 (fun i => [.int .i64 ((v0.2.2.2.1.2 i).1), .int .i64 ((v0.2.2.2.1.2 i).2.1), .int .i64 ((v0.2.2.2.1.2 i).2.2.1), .int .i64 ((v0.2.2.2.1.2 i).2.2.2.1), .int .i64 ((v0.2.2.2.1.2 i).2.2.2.2.1)])), .p (.seq true 1 v0.2.2.2.2.1.1 (fun i => [.int .i64 (v0.2.2.2.2.1.2 i)]))]] [(0, ⟨false, 2, v0.2.1.2.1.1, (fun i => [.p (.int .i64 ((v0.2.1.2.1.2 i).1)), .p (.int .i64 ((v0.2.1.2.1.2 i).2.1))])⟩), (1, ⟨false, 2, v0.2.2.1.1.1.2.1.1, (fun i => [.p (.int .i64 ((v0.2.2.1.1.1.2.1.2 i).1)), .p (.int .i64 ((v0.2.2.1.1.1.2.1.2 i).2.1))])⟩), (2, ⟨false, 2, v0.2.2.1.1.2.1.1, (fun i => [.p (.int .i64 ((v0.2.2.1.1.2.1.2 i).1)), .p (.int .i64 ((v0.2.2.1.1.2.1.2 i).2.1))])⟩), (3, ⟨false, 1, v0.2.2.1.2.1.1, (fun i => [.p (.int .i64 (v0.2.2.1.2.1.2 i))])⟩), (4, ⟨false, 5, v0.2.2.2.1.1, (fun i => [.p (.int .i64 ((v0.2.2.2.1.2 i).1)), .p (.int .i64 ((v0.2.2.2.1.2 i).2.1)), .p (.int .i64 ((v0.2.2.2.1.2 i).2.2.1)), .p (.int .i64 ((v0.2.2.2.1.2 i).2.2.2.1)), .p (.int .i64 ((v0.2.2.2.1.2 i).2.2.2.2.1))])⟩), (5, ⟨false, 1, v0.2.2.2.2.1.1, (fun i => [.p (.int .i64 (v0.2.2.2.2.1.2 i))])⟩)] (.agg [.p (.int .i64 v0.1), .p (.int .i64 v0.2.1.1), .ar 2 0 0 v0.2.1.2.1.1, .p (.int .i64 v0.2.2.1.1.1.1), .ar 2 1 0 v0.2.2.1.1.1.2.1.1, .ar 2 2 0 v0.2.2.1.1.2.1.1, .ar 1 3 0 v0.2.2.1.2.1.1, .ar 5 4 0 v0.2.2.2.1.1, .ar 1 5 0 v0.2.2.2.2.1.1]),
  ((0 : Nat) < 1),
  ((true = true) → (AN 1)),
  ((0 : Nat) < 1),
  (AN 2),
  ((v0.2.1.2.1.1 : Nat) ≤ v0.2.1.2.1.1),
  (AN 2),
  ((v0.2.2.1.1.1.2.1.1 : Nat) ≤ v0.2.2.1.1.1.2.1.1),
  (AN 2),
  ((v0.2.2.1.1.2.1.1 : Nat) ≤ v0.2.2.1.1.2.1.1),
  (AN 1),
  ((v0.2.2.1.2.1.1 : Nat) ≤ v0.2.2.1.2.1.1),
  (AN 5),
  ((v0.2.2.2.1.1 : Nat) ≤ v0.2.2.2.1.1),
  (AN 1),
  ((v0.2.2.2.2.1.1 : Nat) ≤ v0.2.2.2.2.1.1),
  Con Try.prog 33 0 [] [.agg [.p (.int .i64 v0.1), .p (.int .i64 v0.2.1.1), .p (.seq true 2 v0.2.1.2.1.1 (fun i => [.int .i64 ((v0.2.1.2.1.2 i).1), .int .i64 ((v0.2.1.2.1.2 i).2.1)])), .p (.int .i64 v0.2.2.1.1.1.1), .p (.seq true 2 v0.2.2.1.1.1.2.1.1 (fun i => [.int .i64 ((v0.2.2.1.1.1.2.1.2 i).1), .int .i64 ((v0.2.2.1.1.1.2.1.2 i).2.1)])), .p (.seq true 2 v0.2.2.1.1.2.1.1 (fun i => [.int .i64 ((v0.2.2.1.1.2.1.2 i).1), .int .i64 ((v0.2.2.1.1.2.1.2 i).2.1)])), .p (.seq true 1 v0.2.2.1.2.1.1 (fun i => [.int .i64 (v0.2.2.1.2.1.2 i)])), .p (.seq true 5 v0.2.2.2.1.1 (fun i => [.int .i64 ((v0.2.2.2.1.2 i).1), .int .i64 ((v0.2.2.2.1.2 i).2.1), .int .i64 ((v0.2.2.2.1.2 i).2.2.1), .int .i64 ((v0.2.2.2.1.2 i).2.2.2.1), .int .i64 ((v0.2.2.2.1.2 i).2.2.2.2.1)])), .p (.seq true 1 v0.2.2.2.2.1.1 (fun i => [.int .i64 (v0.2.2.2.2.1.2 i)]))]] [] (.p (.str (fcF v0))),
  ((!(fcF v0).toList == (fcF v0).toList) = false),
  ((0 : Nat) < 1),
  ((0 : Nat) < 1),
  Con Try.prog 32 0 [] [.agg [.p (.int .i64 v0.1), .p (.int .i64 v0.2.1.1), .p (.seq true 2 v0.2.1.2.1.1 (fun i => [.int .i64 ((v0.2.1.2.1.2 i).1), .int .i64 ((v0.2.1.2.1.2 i).2.1)])), .p (.int .i64 v0.2.2.1.1.1.1), .p (.seq true 2 v0.2.2.1.1.1.2.1.1 (fun i => [.int .i64 ((v0.2.2.1.1.1.2.1.2 i).1), .int .i64 ((v0.2.2.1.1.1.2.1.2 i).2.1)])), .p (.seq true 2 v0.2.2.1.1.2.1.1 (fun i => [.int .i64 ((v0.2.2.1.1.2.1.2 i).1), .int .i64 ((v0.2.2.1.1.2.1.2 i).2.1)])), .p (.seq true 1 v0.2.2.1.2.1.1 (fun i => [.int .i64 (v0.2.2.1.2.1.2 i)])), .p (.seq true 5 v0.2.2.2.1.1 (fun i => [.int .i64 ((v0.2.2.2.1.2 i).1), .int .i64 ((v0.2.2.2.1.2 i).2.1), .int .i64 ((v0.2.2.2.1.2 i).2.2.1), .int .i64 ((v0.2.2.2.1.2 i).2.2.2.1), .int .i64 ((v0.2.2.2.1.2 i).2.2.2.2.1)])), .p (.seq true 1 v0.2.2.2.2.1.1 (fun i => [.int .i64 (v0.2.2.2.2.1.2 i)]))]] [(0, ⟨false, 2, v0.2.1.2.1.1, (fun i => [.p (.int .i64 ((v0.2.1.2.1.2 i).1)), .p (.int .i64 ((v0.2.1.2.1.2 i).2.1))])⟩), (1, ⟨false, 2, v0.2.2.1.1.1.2.1.1, (fun i => [.p (.int .i64 ((v0.2.2.1.1.1.2.1.2 i).1)), .p (.int .i64 ((v0.2.2.1.1.1.2.1.2 i).2.1))])⟩), (2, ⟨false, 2, v0.2.2.1.1.2.1.1, (fun i => [.p (.int .i64 ((v0.2.2.1.1.2.1.2 i).1)), .p (.int .i64 ((v0.2.2.1.1.2.1.2 i).2.1))])⟩), (3, ⟨false, 1, v0.2.2.1.2.1.1, (fun i => [.p (.int .i64 (v0.2.2.1.2.1.2 i))])⟩), (4, ⟨false, 5, v0.2.2.2.1.1, (fun i => [.p (.int .i64 ((v0.2.2.2.1.2 i).1)), .p (.int .i64 ((v0.2.2.2.1.2 i).2.1)), .p (.int .i64 ((v0.2.2.2.1.2 i).2.2.1)), .p (.int .i64 ((v0.2.2.2.1.2 i).2.2.2.1)), .p (.int .i64 ((v0.2.2.2.1.2 i).2.2.2.2.1))])⟩), (5, ⟨false, 1, v0.2.2.2.2.1.1, (fun i => [.p (.int .i64 (v0.2.2.2.2.1.2 i))])⟩)] (.agg [.p (.int .i64 v0.1), .p (.int .i64 v0.2.1.1), .ar 2 0 0 v0.2.1.2.1.1, .p (.int .i64 v0.2.2.1.1.1.1), .ar 2 1 0 v0.2.2.1.1.1.2.1.1, .ar 2 2 0 v0.2.2.1.1.2.1.1, .ar 1 3 0 v0.2.2.1.2.1.1, .ar 5 4 0 v0.2.2.2.1.1, .ar 1 5 0 v0.2.2.2.2.1.1]),
  (AN 2),
  ((v0.2.1.2.1.1 : Nat) ≤ v0.2.1.2.1.1),
  (AN 2),
  ((v0.2.2.1.1.1.2.1.1 : Nat) ≤ v0.2.2.1.1.1.2.1.1),
  (AN 2),
  ((v0.2.2.1.1.2.1.1 : Nat) ≤ v0.2.2.1.1.2.1.1),
  (AN 1),
  ((v0.2.2.1.2.1.1 : Nat) ≤ v0.2.2.1.2.1.1),
  (AN 5),
  ((v0.2.2.2.1.1 : Nat) ≤ v0.2.2.2.1.1),
  (AN 1),
  ((v0.2.2.2.2.1.1 : Nat) ≤ v0.2.2.2.2.1.1),
  (AN 2),
  ((v0.2.1.2.1.1 : Nat) ≤ v0.2.1.2.1.1),
  (AN 2),
  ((v0.2.2.1.1.1.2.1.1 : Nat) ≤ v0.2.2.1.1.1.2.1.1),
  (AN 2),
  ((v0.2.2.1.1.2.1.1 : Nat) ≤ v0.2.2.1.1.2.1.1),
  (AN 1),
  ((v0.2.2.1.2.1.1 : Nat) ≤ v0.2.2.1.2.1.1),
  (AN 5),
  ((v0.2.2.2.1.1 : Nat) ≤ v0.2.2.2.1.1),
  (AN 1),
  ((v0.2.2.2.2.1.1 : Nat) ≤ v0.2.2.2.2.1.1),
  Con Try.prog 34 0 [] [.agg [.p (.int .i64 v0.1), .p (.int .i64 v0.2.1.1), .p (.seq true 2 v0.2.1.2.1.1 (fun i => [.int .i64 ((v0.2.1.2.1.2 i).1), .int .i64 ((v0.2.1.2.1.2 i).2.1)])), .p (.int .i64 v0.2.2.1.1.1.1), .p (.seq true 2 v0.2.2.1.1.1.2.1.1 (fun i => [.int .i64 ((v0.2.2.1.1.1.2.1.2 i).1), .int .i64 ((v0.2.2.1.1.1.2.1.2 i).2.1)])), .p (.seq true 2 v0.2.2.1.1.2.1.1 (fun i => [.int .i64 ((v0.2.2.1.1.2.1.2 i).1), .int .i64 ((v0.2.2.1.1.2.1.2 i).2.1)])), .p (.seq true 1 v0.2.2.1.2.1.1 (fun i => [.int .i64 (v0.2.2.1.2.1.2 i)])), .p (.seq true 5 v0.2.2.2.1.1 (fun i => [.int .i64 ((v0.2.2.2.1.2 i).1), .int .i64 ((v0.2.2.2.1.2 i).2.1), .int .i64 ((v0.2.2.2.1.2 i).2.2.1), .int .i64 ((v0.2.2.2.1.2 i).2.2.2.1), .int .i64 ((v0.2.2.2.1.2 i).2.2.2.2.1)])), .p (.seq true 1 v0.2.2.2.2.1.1 (fun i => [.int .i64 (v0.2.2.2.2.1.2 i)]))], .agg [.p (.int .i64 v0.1), .p (.int .i64 v0.2.1.1), .p (.seq true 2 v0.2.1.2.1.1 (fun i => [.int .i64 ((v0.2.1.2.1.2 i).1), .int .i64 ((v0.2.1.2.1.2 i).2.1)])), .p (.int .i64 v0.2.2.1.1.1.1), .p (.seq true 2 v0.2.2.1.1.1.2.1.1 (fun i => [.int .i64 ((v0.2.2.1.1.1.2.1.2 i).1), .int .i64 ((v0.2.2.1.1.1.2.1.2 i).2.1)])), .p (.seq true 2 v0.2.2.1.1.2.1.1 (fun i => [.int .i64 ((v0.2.2.1.1.2.1.2 i).1), .int .i64 ((v0.2.2.1.1.2.1.2 i).2.1)])), .p (.seq true 1 v0.2.2.1.2.1.1 (fun i => [.int .i64 (v0.2.2.1.2.1.2 i)])), .p (.seq true 5 v0.2.2.2.1.1 (fun i => [.int .i64 ((v0.2.2.2.1.2 i).1), .int .i64 ((v0.2.2.2.1.2 i).2.1), .int .i64 ((v0.2.2.2.1.2 i).2.2.1), .int .i64 ((v0.2.2.2.1.2 i).2.2.2.1), .int .i64 ((v0.2.2.2.1.2 i).2.2.2.2.1)])), .p (.seq true 1 v0.2.2.2.2.1.1 (fun i => [.int .i64 (v0.2.2.2.2.1.2 i)]))]] [] (.p (.bool true)),
  ((!true) = false),
  (true = true)] := by kernel_rfl
theorem con_law_FnExactFormatClaim (v0 : T_Claim) (k0 : okS s_Claim v0) : Con Try.prog 7 0 [] [.agg [.p (.int .i64 v0.1), .p (.int .i64 v0.2.1.1), .p (.seq true 2 v0.2.1.2.1.1 (fun i => [.int .i64 ((v0.2.1.2.1.2 i).1), .int .i64 ((v0.2.1.2.1.2 i).2.1)])), .p (.int .i64 v0.2.2.1.1.1.1), .p (.seq true 2 v0.2.2.1.1.1.2.1.1 (fun i => [.int .i64 ((v0.2.2.1.1.1.2.1.2 i).1), .int .i64 ((v0.2.2.1.1.1.2.1.2 i).2.1)])), .p (.seq true 2 v0.2.2.1.1.2.1.1 (fun i => [.int .i64 ((v0.2.2.1.1.2.1.2 i).1), .int .i64 ((v0.2.2.1.1.2.1.2 i).2.1)])), .p (.seq true 1 v0.2.2.1.2.1.1 (fun i => [.int .i64 (v0.2.2.1.2.1.2 i)])), .p (.seq true 5 v0.2.2.2.1.1 (fun i => [.int .i64 ((v0.2.2.2.1.2 i).1), .int .i64 ((v0.2.2.2.1.2 i).2.1), .int .i64 ((v0.2.2.2.1.2 i).2.2.1), .int .i64 ((v0.2.2.2.1.2 i).2.2.2.1), .int .i64 ((v0.2.2.2.1.2 i).2.2.2.2.1)])), .p (.seq true 1 v0.2.2.2.2.1.1 (fun i => [.int .i64 (v0.2.2.2.2.1.2 i)]))]] [] (.p (.bool true)) := by
  refine con_start Try.func7 rfl (by kernel_rfl) rfl (fun c hc => ?_)
  have l0 := le_szClaim v0 1048576 (by omega)
  by_cases g0 : (f_szClaim v0 1048576) < 0
  · refine path_ok mixed Try.func7 hc (p_FnExactFormatClaim_0 v0) ?_
    simp only [All]
    repeat' (first | exact trivial | with_reducible apply And.intro)
    all_goals (first | exact aG _ | exact aP _ _ | exact aA _ _ | exact aE _ | omega | rfl | (intros; first | assumption | exact True.intro | rfl | exact absurd (show false = true by assumption) Bool.false_ne_true | ((repeat' (first | assumption | apply anda | apply notf)); done)) | (exact con_szClaim v0 k0 _ (by omega) (by omega)) | (simp; omega))
  have hs0 := sm_szClaim v0 1048576 (by omega) (by omega) g0
  refine path_ok mixed Try.func7 hc (p_FnExactFormatClaim_e v0) ?_
  simp only [All]
  repeat' (first | exact trivial | with_reducible apply And.intro)
  all_goals (first | exact aG _ | exact aP _ _ | exact aA _ _ | exact aE _ | omega | rfl | (intros; first | assumption | exact True.intro | rfl | exact absurd (show false = true by assumption) Bool.false_ne_true | ((repeat' (first | assumption | apply anda | apply notf)); done)) | (exact con_szClaim v0 k0 _ (by omega) (by omega)) | (exact con_toClaim v0 hs0) | (exact con_FormatClaim_s v0 hs0 k0) | (exact con_FormatClaim_i v0 hs0 k0) | (exact con_eqClaim v0 hs0) | (simp; try omega))
end Go.Proofs.Ytffnfeefjdmifaa.Mach
