/- What the law Gnx needs, part 4 of 4: the abstract machine and the contracts of the functions. Conditions: as each theorem says. -/
import Derived.Test.YtffnfeefjdmifaaGnxP3
namespace Go.Proofs.Ytffnfeefjdmifaa.Mach
open Go BL
set_option linter.unusedVariables false
set_option linter.unusedSimpArgs false
open Classical in
noncomputable def spB (N : Nat) (g : Nat → T_GainBar) (nb w : Nat) : Bool := decide (Sub.All (okG N) g w.testBit nb)
noncomputable def cjB (N : Nat) (g : Nat → T_GainBar) (nb w : Nat) : Nat → Bool
  | 0 => true
  | k + 1 => bif cjB N g nb w k then spB N g nb (clI w ((stD w nb).2 k)).toNat else false
theorem pow_62 {n : Nat} (h : n ≤ 8) : 2 ^ n ≤ 256 := Nat.pow_le_pow_right (by omega) h
theorem shl_8 (n : Nat) (h : n ≤ 8) : shlI .i64 1 (n : Int) = ((2 ^ n : Nat) : Int) := shl_nat n (by omega)
theorem cl_at {nb w : Nat} (hnb : nb ≤ 8) (hw : w < 2 ^ nb) {k : Nat} (hk : k < (stD w nb).1) : ∃ r e : Nat, clI w ((stD w nb).2 k) = (r : Int) ∧ (stD w nb).2 k = (e : Int) ∧ e < nb ∧ w.testBit e = true ∧ r < w ∧ ∀ i, r.testBit i = (if i = e then false else w.testBit i) := by
  have h8 := pow_62 hnb
  obtain ⟨e, h1, h2, h3, _⟩ := st_at w (by omega) nb (by omega) k hk
  rw [h1]
  obtain ⟨r, g1, g2, g3⟩ := cl_nat w e (by omega) (by omega)
  refine ⟨r, e, g1, rfl, h2, h3, ?_, g3⟩
  have hne : r ≠ w := by
    intro h
    have := g3 e
    rw [h, h3, if_pos rfl] at this
    cases this
  omega
theorem sel_nil {g : Nat → T_GainBar} {nb w : Nat} (hw : w < 2 ^ nb) : Sub.sel g w.testBit nb = [] ↔ w = 0 := by
  constructor
  · intro h
    apply Nat.eq_of_testBit_eq
    intro i
    rw [Nat.zero_testBit]
    cases hb : w.testBit i with
    | false => rfl
    | true =>
      have hi : i < nb := by
        rcases Nat.lt_or_ge i nb with h' | h'
        · exact h'
        · rw [Nat.testBit_lt_two_pow (Nat.lt_of_lt_of_le hw (Nat.pow_le_pow_right (by omega) h'))] at hb; cases hb
      have : g i ∈ Sub.sel g w.testBit nb := (Sub.sel_mem g _ _ nb).2 ⟨i, hi, hb, rfl⟩
      rw [h] at this; cases this
  · rintro rfl
    have : ∀ n, Sub.sel g (Nat.testBit 0) n = [] := by
      intro n
      induction n with
      | zero => rfl
      | succ n ih => simp [Sub.sel, ih]
    exact this nb
theorem cjB_iff {N nb w : Nat} {g : Nat → T_GainBar} : ∀ k, cjB N g nb w k = true ↔ ∀ j, j < k → spB N g nb (clI w ((stD w nb).2 j)).toNat = true
  | 0 => by simp [cjB]
  | k + 1 => by
    have ih := cjB_iff (N := N) (nb := nb) (w := w) (g := g) k
    simp only [cjB]
    cases hc : cjB N g nb w k with
    | true =>
      rw [hc] at ih
      simp only [cond_true]
      constructor
      · intro h j hj
        by_cases e : j = k
        · subst e; exact h
        · exact ih.1 rfl j (by omega)
      · intro h; exact h k (by omega)
    | false =>
      rw [hc] at ih
      simp only [cond_false, Bool.false_eq_true, false_iff]
      intro h
      exact Bool.false_ne_true (ih.2 (fun j hj => h j (by omega)))
open Classical in
theorem spB_step {N nb w : Nat} {g : Nat → T_GainBar} (hnb : nb ≤ 8) (hw : w < 2 ^ nb) :
    spB N g nb w = (bif cjB N g nb w (stD w nb).1 then (bif (w : Int) == 0 then true else decide (((stD w nb).1 : Int) ≤ mostL N (bkL g (stD w nb).1 (stD w nb).2))) else false) := by
  have h8 := pow_62 hnb
  have hsel := st_sel g w (by omega) nb (by omega)
  have hcj : cjB N g nb w (stD w nb).1 = true ↔ ∀ e, e < nb → w.testBit e = true → Sub.All (okG N) g (Sub.drop1 w.testBit e) nb := by
    rw [cjB_iff]
    constructor
    · intro h e he ht
      obtain ⟨i, hi, hs⟩ := st_has w (by omega) nb (by omega) e he ht
      obtain ⟨r, e', g1, g2, _, _, _, g3⟩ := cl_at hnb hw hi
      have := h i hi
      rw [g1] at this
      have he' : e' = e := by omega
      subst he'
      have h2 : Sub.All (okG N) g r.testBit nb := of_decide_eq_true this
      exact (Sub.all_congr (fun i _ => by rw [g3 i]; rfl)).1 h2
    · intro h j hj
      obtain ⟨r, e, g1, g2, g4, g5, _, g3⟩ := cl_at hnb hw hj
      rw [g1]
      exact decide_eq_true ((Sub.all_congr (fun i _ => by rw [Int.toNat_natCast, g3 i]; rfl)).2 (h e g4 g5))
  have hst := Sub.all_step (ok := okG N) (g := g) (M := w.testBit) (n := nb)
  cases hc : cjB N g nb w (stD w nb).1 with
  | false =>
    refine decide_eq_false (fun h => ?_)
    have := hcj.2 (hst.1 h).1
    rw [hc] at this; cases this
  | true =>
    have h1 := hcj.1 hc
    by_cases hz : w = 0
    · rw [show ((w : Int) == 0) = true by rw [hz]; rfl]
      exact decide_eq_true (hst.2 ⟨h1, fun hne => absurd ((sel_nil hw).2 hz) hne⟩)
    · rw [show ((w : Int) == 0) = false from beq_eq_false_iff_ne.2 (by omega)]
      simp only [cond_true, cond_false]
      rw [hsel]
      unfold spB
      congr 1
      apply propext
      have hlen : (Sub.sel g w.testBit nb).length = (stD w nb).1 := by rw [← hsel, bkL_len]
      constructor
      · intro h
        have := (hst.1 h).2 (fun h' => hz ((sel_nil hw).1 h'))
        unfold okG at this
        rw [hlen] at this
        exact this
      · intro h
        refine hst.2 ⟨h1, fun _ => ?_⟩
        unfold okG
        rw [hlen]; exact h
theorem rowIx2 (r : Nat) : rowIx 2 r = r := rfl
theorem up_up {α : Type} (F : Nat → α) (k : Nat) (x y : α) : up (up F k x) k y = up F k y := by
  funext i
  simp only [up]
  split <;> rfl
theorem mostL_t {N : Nat} {L : List T_GainBar} (h : balL L = true) : mostL N L = 2 * (ptN N L : Int) - 2 - 1 := by simp [mostL, h]
theorem mostL_f {N : Nat} {L : List T_GainBar} (h : balL L = false) : mostL N L = 2 * (ptN N L : Int) - 2 := by simp [mostL, h]
theorem cpI_le (l : List Int) : (cpI l).length ≤ l.length := by
  show (Lib.compactUpTo l.toArray l.length).length ≤ l.length
  unfold Lib.compactUpTo
  rw [List.length_map]
  exact Nat.le_trans (List.length_filter_le _ _) (by simp)
theorem lstI_srt (n : Nat) (h : Nat → Int) : lstI n (atI (srtI (lstI n h))) = srtI (lstI n h) := by
  have hl : (srtI (lstI n h)).length = n := by rw [srtI_len, lstI_len]
  generalize srtI (lstI n h) = l at hl
  refine List.ext_getElem (by rw [lstI_len, hl]) (fun i h1 h2 => ?_)
  have e : atI l i = l[i] := by simp [atI, List.getD_eq_getElem?_getD, List.getElem?_eq_getElem h2]
  rw [← e]
  simp [lstI]
theorem con_sparseSets {N nb : Nat} {g : Nat → T_GainBar} (hN : 1 ≤ N ∧ N ≤ 4) (hnb : nb ≤ 8) (hg : ∀ i, i < nb → barOk N (g i)) :
    Con Try.prog 81 0 [] [gnA g nb N] [(0, bOb (2 ^ nb) (spB N g nb))] (.ar 1 0 0 (2 ^ nb)) := by
  refine con_start Try.func81 rfl (by kernel_rfl) rfl (fun c hc => ?_)
  have h8 := pow_62 hnb
  have hsh := shl_8 nb hnb
  generalize hP : 2 ^ nb = P at h8 hsh ⊢
  have li : ∀ m F, m < P → (∀ i, i < m → F i = spB N g nb i) →
      (∀ F', (∀ i, i < m + 1 → F' i = spB N g nb i) → Run Try.prog c 81 [.code (cAt (bodyOf Try.f81) [1, 1, 0, 1, 0, 0]), .inLoop (cAt (bodyOf Try.f81) [1, 1, 0, 1, 0, 0]), .inBlock 0, .code (cAt (bodyOf Try.f81) [1, 1, 1])] (GQ0 g nb N P (m + 1) F') (Post c [(0, bOb P (spB N g nb))] (.ar 1 0 0 P))) →
      ∀ d k, k + d = (stD m nb).1 → Run Try.prog c 81 [.code (cAt (bodyOf Try.f81) [1, 1, 0, 1, 0, 0, 1, 1, 0, 0, 1, 1, 1, 1, 0, 1, 0, 0]), .inLoop (cAt (bodyOf Try.f81) [1, 1, 0, 1, 0, 0, 1, 1, 0, 0, 1, 1, 1, 1, 0, 1, 0, 0]), .inBlock 2, .code (cAt (bodyOf Try.f81) [1, 1, 0, 1, 0, 0, 1, 1, 0, 0, 1, 1, 1, 1, 1]), .inBlock 1, .code (cAt (bodyOf Try.f81) [1, 1, 0, 1, 0, 0, 1, 1, 1]), .inLoop (cAt (bodyOf Try.f81) [1, 1, 0, 1, 0, 0]), .inBlock 0, .code (cAt (bodyOf Try.f81) [1, 1, 1])] (GQ1 g nb N P m (up F m (cjB N g nb m k)) (stD m nb).1 (stD m nb).2 (ptsD g (stD m nb).2 k).1 (ptsD g (stD m nb).2 k).2 k) (Post c [(0, bOb P (spB N g nb))] (.ar 1 0 0 P)) := by
    intro m F hm hF hk d
    have hw : m < 2 ^ nb := by omega
    have hcn := stD_n m nb
    have hgood := st_good m nb (by omega) (by omega)
    have hstep := spB_step (N := N) (g := g) hnb hw
    have hpts := fun k => ptsD_n g (stD m nb).2 k
    have hcl : ∀ k, k < (stD m nb).1 → ∃ r e : Nat, clI m ((stD m nb).2 k) = (r : Int) ∧ (stD m nb).2 k = (e : Int) ∧ e < nb ∧ m.testBit e = true ∧ r < m ∧ ∀ i, r.testBit i = (if i = e then false else m.testBit i) := fun k hk => cl_at hnb hw hk
    have hbar : ∀ i, i < (stD m nb).1 → 0 ≤ (gb g (stD m nb).2 i).1 ∧ (gb g (stD m nb).2 i).1 < N ∧ 0 ≤ (gb g (stD m nb).2 i).2.1 ∧ (gb g (stD m nb).2 i).2.1 < N := by
      intro i hi
      obtain ⟨e, h1, h2, _⟩ := st_at m (by omega) nb (by omega) i hi
      have := hg e h2
      unfold gb
      rw [h1, Int.toNat_natCast]
      unfold barOk at this
      omega
    have hlen := pts_len (N := N) (n := (stD m nb).1) (g := g) (s := (stD m nb).2) hbar
    have hptn := cntB_le (pB (bkL g (stD m nb).1 (stD m nb).2)) N
    have cb := con_balanced hN hnb hg hgood
    rw [balP_L] at cb
    have hcjs : ∀ k, cjB N g nb m (k + 1) = bif cjB N g nb m k then spB N g nb (clI m ((stD m nb).2 k)).toNat else false := fun k => rfl
    have hpsx : ∀ k, ptsD g (stD m nb).2 (k + 1) = ((ptsD g (stD m nb).2 k).1 + 2, snp (ptsD g (stD m nb).2 k).1 (ptsD g (stD m nb).2 k).2 (gb g (stD m nb).2 k).1 (gb g (stD m nb).2 k).2.1) := fun k => rfl
    generalize stD m nb = S at *
    induction d with
    | zero =>
      intro k hkn
      obtain rfl : k = S.1 := by omega
      have hd : decide ((S.1 : Int) < (S.1 : Int)) = false := by simp
      have hq := hpts S.1
      have hlI := lstI_srt (ptsD g S.2 S.1).1 (ptsD g S.2 S.1).2
      have csrt := con_SortI (ptsD g S.2 S.1).1 (ptsD g S.2 S.1).2 (by omega)
      have ccmp := con_CompI (ptsD g S.2 S.1).1 (atI (srtI (lstI (ptsD g S.2 S.1).1 (ptsD g S.2 S.1).2))) (by omega) (Nat.le_trans (cpI_le _) (by rw [lstI_len]; exact Nat.le_refl _))
      rw [hlI, hlen] at ccmp
      generalize atI (srtI (lstI (ptsD g S.2 S.1).1 (ptsD g S.2 S.1).2)) = p1 at csrt ccmp
      generalize atI (cpZ (srtI (lstI (ptsD g S.2 S.1).1 (ptsD g S.2 S.1).2))) = p2 at ccmp
      generalize ptsD g S.2 S.1 = r at csrt ccmp hq ⊢
      have hF' : ∀ b, b = spB N g nb m → ∀ i, i < m + 1 → up F m b i = spB N g nb i := by
        intro b hb i hi
        by_cases e : i = m
        · subst e; rw [up_same, hb]
        · rw [up_ne _ _ _ _ e]; exact hF i (by omega)
      cases hbl : balL (bkL g S.1 S.2) with
      | true =>
        rw [hbl] at cb
        rw [mostL_t hbl] at hstep
        refine piece_ok mixed hc (gQt g nb N P m (up F m (cjB N g nb m S.1)) S.1 S.2 r.1 r.2 S.1 (ptN N (bkL g S.1 S.2)) p1 p2) ?_ ?_
        rotate_left 1
        · rw [up_up, up_same]
          exact hk _ (hF' _ hstep.symm)
        simp only [All]
        repeat' (first | exact trivial | with_reducible apply And.intro)
        all_goals (first | exact aG _ | exact aP _ _ | exact aA _ _ | exact aE _ | omega | rfl | (intros; first | assumption | exact True.intro | rfl | exact absurd (show false = true by assumption) Bool.false_ne_true | ((repeat' (first | assumption | apply anda | apply notf)); done)) | (exact hd) | (exact csrt) | (exact ccmp) | (exact cb) | (intro h; exact h) | (intro h1 h2; simp [h1, h2]) | (intro t ht; by_cases h' : t = m <;> (simp [h', cvtL, cvt, tg, tru, All, up]; done)) | (unfold ptN; omega) | (simp; omega))
      | false =>
        rw [hbl] at cb
        rw [mostL_f hbl] at hstep
        refine piece_ok mixed hc (gQf g nb N P m (up F m (cjB N g nb m S.1)) S.1 S.2 r.1 r.2 S.1 (ptN N (bkL g S.1 S.2)) p1 p2) ?_ ?_
        rotate_left 1
        · rw [up_up, up_same]
          exact hk _ (hF' _ hstep.symm)
        simp only [All]
        repeat' (first | exact trivial | with_reducible apply And.intro)
        all_goals (first | exact aG _ | exact aP _ _ | exact aA _ _ | exact aE _ | omega | rfl | (intros; first | assumption | exact True.intro | rfl | exact absurd (show false = true by assumption) Bool.false_ne_true | ((repeat' (first | assumption | apply anda | apply notf)); done)) | (exact hd) | (exact csrt) | (exact ccmp) | (exact cb) | (intro h; exact h) | (intro h1 h2; simp [h1, h2]) | (intro t ht; by_cases h' : t = m <;> (simp [h', cvtL, cvt, tg, tru, All, up]; done)) | (unfold ptN; omega) | (simp; omega))
    | succ d ih =>
      intro k hkn
      have hd : decide ((k : Int) < (S.1 : Int)) = true := decide_eq_true (by omega)
      have hrec := ih (k + 1) (by omega)
      obtain ⟨r, e, g1, g2, g3, g4, g5, g6⟩ := hcl k (by omega)
      have hq := hpts k
      have hst : up (up F m (cjB N g nb m k)) m (bif (up F m (cjB N g nb m k)) m then (up F m (cjB N g nb m k)) (clI m (S.2 k)).toNat else false) = up F m (cjB N g nb m (k + 1)) := by
        rw [up_up, up_same, hcjs, g1, Int.toNat_natCast, up_ne _ _ _ _ (by omega), hF r g5]
      rw [← hst, hpsx k] at hrec
      have b1 : 0 ≤ clI m (S.2 k) := by omega
      have b2 : clI m (S.2 k) < (P : Int) := by omega
      have b3 : (clI m (S.2 k)).toNat < P := by omega
      generalize up F m (cjB N g nb m k) = F1 at hrec ⊢
      generalize ptsD g S.2 k = q at hrec hq ⊢
      refine piece_ok mixed hc (gQi g nb N P m F1 S.1 S.2 q.1 q.2 k) ?_ hrec
      simp only [All]
      repeat' (first | exact trivial | with_reducible apply And.intro)
      all_goals (first | exact aG _ | exact aP _ _ | exact aA _ _ | exact aE _ | omega | rfl | (intros; first | assumption | exact True.intro | rfl | exact absurd (show false = true by assumption) Bool.false_ne_true | ((repeat' (first | assumption | apply anda | apply notf)); done)) | (exact hd) | (intros; omega) | (intros; exact b1) | (intros; exact b2) | (intros; exact b3) | (intro t ht; by_cases h' : t = m <;> (simp [h', cvtL, cvt, tg, tru, All, up, clI]; done)) | (intro t ht; rcases (show t < q.1 ∨ t = q.1 ∨ t = q.1 + 1 by omega) with h' | h' | h' <;> (simp [h', show ¬ (q.1 + 1 < q.1) by omega, cvtL, cvt, tg, tru, All, snp, rowIx2, gb]; done)) | (simp; omega))
  have lo : ∀ d m F, m + d = P → (∀ i, i < m → F i = spB N g nb i) → Run Try.prog c 81 [.code (cAt (bodyOf Try.f81) [1, 1, 0, 1, 0, 0]), .inLoop (cAt (bodyOf Try.f81) [1, 1, 0, 1, 0, 0]), .inBlock 0, .code (cAt (bodyOf Try.f81) [1, 1, 1])] (GQ0 g nb N P m F) (Post c [(0, bOb P (spB N g nb))] (.ar 1 0 0 P)) := by
    intro d
    induction d with
    | zero =>
      intro m F hm hF
      obtain rfl : m = P := by omega
      have hd : decide ((m : Int) < (m : Int)) = false := by simp
      refine path_ok mixed Try.func81 hc (gQe g nb N m m F (spB N g nb)) ?_
      simp only [All]
      repeat' (first | exact trivial | with_reducible apply And.intro)
      all_goals (first | exact aG _ | exact aP _ _ | exact aA _ _ | exact aE _ | omega | rfl | (intros; first | assumption | exact True.intro | rfl | exact absurd (show false = true by assumption) Bool.false_ne_true | ((repeat' (first | assumption | apply anda | apply notf)); done)) | (exact hd) | (intro t ht; rw [hF t ht]; simp [All]))
    | succ d ih =>
      intro m F hm hF
      have hd : decide ((m : Int) < (P : Int)) = true := decide_eq_true (by omega)
      have cs := con_setOf m nb (by omega)
      have hcn := stD_n m nb
      have hnx := li m F (by omega) hF (fun F' hF' => ih (m + 1) F' (by omega) hF') (stD m nb).1 0 (by omega)
      generalize stD m nb = S at cs hcn hnx
      refine piece_ok mixed hc (gQo g nb N P m F S.1 S.2) ?_ hnx
      simp only [All]
      repeat' (first | exact trivial | with_reducible apply And.intro)
      all_goals (first | exact aG _ | exact aP _ _ | exact aA _ _ | exact aE _ | omega | rfl | (intros; first | assumption | exact True.intro | rfl | exact absurd (show false = true by assumption) Bool.false_ne_true | ((repeat' (first | assumption | apply anda | apply notf)); done)) | (exact hd) | (exact cs) | (intro t ht; by_cases h' : t = m <;> (simp [h', cvtL, cvt, tg, tru, All, up]; done)) | (intro t ht; exact absurd ht (Nat.not_lt_zero _)) | (intro t ht; simp [All]) | (simp; omega))
  refine piece_ok mixed hc (gQz g nb N P) ?_ (lo P 0 _ (by omega) (fun i hi => absurd hi (Nat.not_lt_zero _)))
  simp only [All]
  repeat' (first | exact trivial | with_reducible apply And.intro)
  all_goals (first | exact aG _ | exact aP _ _ | exact aA _ _ | exact aE _ | omega | rfl | (intros; first | assumption | exact True.intro | rfl | exact absurd (show false = true by assumption) Bool.false_ne_true | ((repeat' (first | assumption | apply anda | apply notf)); done)) | (rw [hsh]; omega) | (rw [hsh]; simp; omega) | (rw [hsh]; simp) | (intro t ht; simp [All]) | (simp; omega))
end Go.Proofs.Ytffnfeefjdmifaa.Mach
namespace Go.Proofs.Ytffnfeefjdmifaa.Mach
open Go BL
set_option linter.unusedVariables false
set_option linter.unusedSimpArgs false
def gkOb (k : Nat) (h : Nat → T_GainBar) : Ob := ⟨false, 4, k, fun i => [.p (.int .i64 (h i).1), .p (.int .i64 (h i).2.1), .p (.int .i64 (h i).2.2.1), .p (.int .i64 (h i).2.2.2.1)]⟩
def GF0 (g : Nat → T_GainBar) (nb N m : Nat) (b : Int) : St :=
  ⟨[gnA g nb N, .pt 2 0 0 0, .p .any, .p (.int .i64 b), .p (.int .i64 m)] ++ List.replicate 57 anyA, [(0, gnB g nb N)], 1⟩
def GF1 (g : Nat → T_GainBar) (nb N m : Nat) (b : Int) (c : Nat) (s : Nat → Int) (k : Nat) (h : Nat → T_GainBar) : St :=
  ⟨[gnA g nb N, .pt 2 0 0 0, .p .any, .p (.int .i64 b), .p (.int .i64 m), .ar 1 1 0 c, .pt 2 2 0 0, .p (.int .i64 k)] ++ List.replicate 54 anyA,
   [(0, gnB g nb N), (1, iOb c s), (2, ⟨true, 2, 1, fun _ => [.p (.int .i64 N), .ar 4 3 0 k]⟩), (3, gkOb k h)], 4⟩
def GI0 (g : Nat → T_GainBar) (nb N P m : Nat) (b : Int) (F : Nat → Bool) : St :=
  ⟨[gnA g nb N, .pt 2 0 0 0, .p .any, .p (.int .i64 b)] ++ List.replicate 6 anyA ++ [.ar 1 1 0 P, .p (.int .i64 P), .p (.int .i64 m)] ++ List.replicate 20 anyA, [(0, gnB g nb N), (1, bOb P F)], 2⟩
def maxZ (b c : Int) : Int := if c > b then c else b
theorem fIn (v : T_GainGraph) :
    pathOb Try.prog Try.f36 0 [.reg [oT, oT], .reg [oT, ⟨true, (some ⟨[], [], [], 1, [], .p (.bool false)⟩), none⟩, oT], .dec true, .reg [oT]] [.code (bodyOf Try.f36)] (start Try.f36 [] 0 [gnA v.2.1.2 v.2.1.1 v.1]) [] 1 [] (.p (.int .i64 (-1))) =
    some [((0 : Nat) < 1),
  Con Try.prog 80 0 [] [.agg [.p (.int .i64 v.1), .p (.seq true 4 v.2.1.1 (fun i => [.int .i64 ((v.2.1.2 i).1), .int .i64 ((v.2.1.2 i).2.1), .int .i64 ((v.2.1.2 i).2.2.1), .int .i64 ((v.2.1.2 i).2.2.2.1)]))]] [] (.p (.bool false)),
  ((!false) = true),
  (AI ((-1)))] := by kernel_rfl
theorem fIz (g : Nat → T_GainBar) (nb N P : Nat) (F : Nat → Bool) :
    pieceOb Try.prog 0 [.reg [oT, oT], .reg [oT, ⟨true, (some ⟨[], [], [], 1, [], .p (.bool true)⟩), none⟩, oT], .dec false, .reg [oT], .reg [oT, ⟨true, (some ⟨[], [], [], 1, [(0, bOb P F)], .ar 1 0 0 P⟩), none⟩, oT, oT], .head] [.code (bodyOf Try.f36)] (start Try.f36 [] 0 [gnA g nb N]) [0, 224] 1 (GI0 g nb N P 0 0 F) =
    some ([.code (cAt (bodyOf Try.f36) [1, 1, 1, 0, 1, 0, 0]), .inLoop (cAt (bodyOf Try.f36) [1, 1, 1, 0, 1, 0, 0]), .inBlock 0, .code (cAt (bodyOf Try.f36) [1, 1, 1, 1])], [((0 : Nat) < 1),
  Con Try.prog 80 0 [] [.agg [.p (.int .i64 (↑N : Int)), .p (.seq true 4 nb (fun i => [.int .i64 ((g i).1), .int .i64 ((g i).2.1), .int .i64 ((g i).2.2.1), .int .i64 ((g i).2.2.2.1)]))]] [] (.p (.bool true)),
  ((!true) = false),
  ((0 : Nat) < 1),
  Con Try.prog 81 0 [] [.agg [.p (.int .i64 (↑N : Int)), .p (.seq true 4 nb (fun i => [.int .i64 ((g i).1), .int .i64 ((g i).2.1), .int .i64 ((g i).2.2.1), .int .i64 ((g i).2.2.2.1)]))]] [(0, ⟨false, 1, P, (fun i => [.p (.bool (F i))])⟩)] (.ar 1 0 0 P),
  (AI ((↑N : Int))),
  (AN nb),
  (AP nb (fun i => [.int .i64 ((g i).1), .int .i64 ((g i).2.1), .int .i64 ((g i).2.2.1), .int .i64 ((g i).2.2.2.1)])),
  (AN 0),
  (AI 0),
  (AN 0),
  (AN P),
  (AI ((↑P : Int))),
  ((0 : Int) = (↑0 : Int)),
  ((([AV.p (PV.int IntKind.i64 (↑N : Int)), gnL g nb].length) : Nat) = 2),
  ((1 : Nat) ≤ 1),
  ((1 : Nat) ≤ 1),
  (AI ((↑N : Int))),
  (AN nb),
  (AP nb (fun i => [.int .i64 ((g i).1), .int .i64 ((g i).2.1), .int .i64 ((g i).2.2.1), .int .i64 ((g i).2.2.2.1)])),
  (AN 1),
  ((P : Nat) ≤ P),
  (AA P (fun i => [.p (.bool (F i))]))]) := by kernel_rfl
theorem fIt (g : Nat → T_GainBar) (nb N P m c : Nat) (b : Int) (F : Nat → Bool) (s : Nat → Int) :
    pieceOb Try.prog 0 [.reg [oT], .dec true, .reg [oT, oT, oT, oT, oT], .reg [oT], .dec true, .reg [oT, oT, oT, oT, oT, ⟨true, (some ⟨[], [], [], 1, [(0, iOb c s)], .ar 1 0 0 c⟩), none⟩, oT, oT, oT], .reg [oT, oT], .head] [.code (cAt (bodyOf Try.f36) [1, 1, 1, 0, 1, 0, 0]), .inLoop (cAt (bodyOf Try.f36) [1, 1, 1, 0, 1, 0, 0]), .inBlock 0, .code (cAt (bodyOf Try.f36) [1, 1, 1, 1])] (GI0 g nb N P m b F) [0, 1] 1 (GI0 g nb N P (m + 1) (maxZ b c) F) =
    some ([.code (cAt (bodyOf Try.f36) [1, 1, 1, 0, 1, 0, 0]), .inLoop (cAt (bodyOf Try.f36) [1, 1, 1, 0, 1, 0, 0]), .inBlock 0, .code (cAt (bodyOf Try.f36) [1, 1, 1, 1])], [((decide ((↑m : Int) < (↑P : Int))) = true),
  ((0 : Int) ≤ (↑m : Int)),
  (((↑m : Int) : Int) < (↑P : Int)),
  ((m : Nat) < P),
  ((F m) = true),
  ((0 : Nat) < 1),
  Con Try.prog 42 0 [] [.p (.int .i64 (↑m : Int)), .p (.int .i64 (↑nb : Int))] [(0, ⟨false, 1, c, (fun i => [.p (.int .i64 (s i))])⟩)] (.ar 1 0 0 c),
  (((-9223372036854775808) : Int) ≤ ((↑m : Int) + 1)),
  ((((↑m : Int) + 1) : Int) ≤ 9223372036854775807),
  (AI ((↑N : Int))),
  (AN nb),
  (AP nb (fun i => [.int .i64 ((g i).1), .int .i64 ((g i).2.1), .int .i64 ((g i).2.2.1), .int .i64 ((g i).2.2.2.1)])),
  (AN 0),
  (((if true = true then if (↑c : Int) > b then (↑c : Int) else b else if (↑c : Int) < b then (↑c : Int) else b) : Int) = (maxZ b (↑c : Int))),
  (AN 0),
  (AN P),
  (AI ((↑P : Int))),
  ((((↑m : Int) + 1) : Int) = (↑(m + 1) : Int)),
  (AN 2),
  ((1 : Nat) ≤ 1),
  ((1 : Nat) ≤ 1),
  (AI ((↑N : Int))),
  (AN nb),
  (AP nb (fun i => [.int .i64 ((g i).1), .int .i64 ((g i).2.1), .int .i64 ((g i).2.2.1), .int .i64 ((g i).2.2.2.1)])),
  (AN 1),
  ((P : Nat) ≤ P),
  (AA P (fun i => [.p (.bool (F i))]))]) := by kernel_rfl
theorem fIf (g : Nat → T_GainBar) (nb N P m : Nat) (b : Int) (F : Nat → Bool) :
    pieceOb Try.prog 0 [.reg [oT], .dec true, .reg [oT, oT, oT, oT, oT], .reg [oT], .dec false, .reg [oT, oT], .head] [.code (cAt (bodyOf Try.f36) [1, 1, 1, 0, 1, 0, 0]), .inLoop (cAt (bodyOf Try.f36) [1, 1, 1, 0, 1, 0, 0]), .inBlock 0, .code (cAt (bodyOf Try.f36) [1, 1, 1, 1])] (GI0 g nb N P m b F) [0, 1] 1 (GI0 g nb N P (m + 1) b F) =
    some ([.code (cAt (bodyOf Try.f36) [1, 1, 1, 0, 1, 0, 0]), .inLoop (cAt (bodyOf Try.f36) [1, 1, 1, 0, 1, 0, 0]), .inBlock 0, .code (cAt (bodyOf Try.f36) [1, 1, 1, 1])], [((decide ((↑m : Int) < (↑P : Int))) = true),
  ((0 : Int) ≤ (↑m : Int)),
  (((↑m : Int) : Int) < (↑P : Int)),
  ((m : Nat) < P),
  ((F m) = false),
  (((-9223372036854775808) : Int) ≤ ((↑m : Int) + 1)),
  ((((↑m : Int) + 1) : Int) ≤ 9223372036854775807),
  (AI ((↑N : Int))),
  (AN nb),
  (AP nb (fun i => [.int .i64 ((g i).1), .int .i64 ((g i).2.1), .int .i64 ((g i).2.2.1), .int .i64 ((g i).2.2.2.1)])),
  (AN 0),
  (AI b),
  (AN 0),
  (AN P),
  (AI ((↑P : Int))),
  ((((↑m : Int) + 1) : Int) = (↑(m + 1) : Int)),
  (AN 2),
  ((1 : Nat) ≤ 1),
  ((1 : Nat) ≤ 1),
  (AI ((↑N : Int))),
  (AN nb),
  (AP nb (fun i => [.int .i64 ((g i).1), .int .i64 ((g i).2.1), .int .i64 ((g i).2.2.1), .int .i64 ((g i).2.2.2.1)])),
  (AN 1),
  ((P : Nat) ≤ P),
  (AA P (fun i => [.p (.bool (F i))]))]) := by kernel_rfl
theorem fIe (g : Nat → T_GainBar) (nb N P m : Nat) (b : Int) (F : Nat → Bool) :
    pathOb Try.prog Try.f36 0 [.reg [oT], .dec false, .reg [oT, oT, oT, oT, oT, oT, oT]] [.code (cAt (bodyOf Try.f36) [1, 1, 1, 0, 1, 0, 0]), .inLoop (cAt (bodyOf Try.f36) [1, 1, 1, 0, 1, 0, 0]), .inBlock 0, .code (cAt (bodyOf Try.f36) [1, 1, 1, 1])] (GI0 g nb N P m b F) [] 1 [] (.p (.int .i64 (2 * (N : Int) - 2 - b))) =
    some [((decide ((↑m : Int) < (↑P : Int))) = false),
  ((0 : Nat) < 1),
  (((-9223372036854775808) : Int) ≤ (2 * (↑N : Int))),
  (((2 * (↑N : Int)) : Int) ≤ 9223372036854775807),
  (((-9223372036854775808) : Int) ≤ (2 * (↑N : Int) - 2)),
  (((2 * (↑N : Int) - 2) : Int) ≤ 9223372036854775807),
  (((-9223372036854775808) : Int) ≤ (2 * (↑N : Int) - 2 - b)),
  (((2 * (↑N : Int) - 2 - b) : Int) ≤ 9223372036854775807),
  (AI ((2 * (↑N : Int) - 2 - b)))] := by kernel_rfl
theorem fSn (v : T_GainGraph) :
    pathOb Try.prog Try.f35 0 [.reg [oT, oT], .reg [oT, ⟨true, (some ⟨[], [], [], 1, [], .p (.bool false)⟩), none⟩, oT], .dec true, .reg [oT]] [.code (bodyOf Try.f35)] (start Try.f35 [] 0 [gnA v.2.1.2 v.2.1.1 v.1]) [] 1 [] (.p (.int .i64 (-1))) =
    some [((0 : Nat) < 1),
  Con Try.prog 75 0 [] [.agg [.p (.int .i64 v.1), .p (.seq true 4 v.2.1.1 (fun i => [.int .i64 ((v.2.1.2 i).1), .int .i64 ((v.2.1.2 i).2.1), .int .i64 ((v.2.1.2 i).2.2.1), .int .i64 ((v.2.1.2 i).2.2.2.1)]))]] [] (.p (.bool false)),
  ((!false) = true),
  (AI ((-1)))] := by kernel_rfl
theorem fSz (g : Nat → T_GainBar) (nb N : Nat) :
    pieceOb Try.prog 0 [.reg [oT, oT], .reg [oT, ⟨true, (some ⟨[], [], [], 1, [], .p (.bool true)⟩), none⟩, oT], .dec false, .reg [oT], .reg [oT], .head] [.code (bodyOf Try.f35)] (start Try.f35 [] 0 [gnA g nb N]) [0] 1 (GF0 g nb N 0 0) =
    some ([.code (cAt (bodyOf Try.f35) [1, 1, 1, 0, 1, 0, 0]), .inLoop (cAt (bodyOf Try.f35) [1, 1, 1, 0, 1, 0, 0]), .inBlock 0, .code (cAt (bodyOf Try.f35) [1, 1, 1, 1])], [((0 : Nat) < 1),
  Con Try.prog 75 0 [] [.agg [.p (.int .i64 (↑N : Int)), .p (.seq true 4 nb (fun i => [.int .i64 ((g i).1), .int .i64 ((g i).2.1), .int .i64 ((g i).2.2.1), .int .i64 ((g i).2.2.2.1)]))]] [] (.p (.bool true)),
  ((!true) = false),
  (AI ((↑N : Int))),
  (AN nb),
  (AP nb (fun i => [.int .i64 ((g i).1), .int .i64 ((g i).2.1), .int .i64 ((g i).2.2.1), .int .i64 ((g i).2.2.2.1)])),
  (AN 0),
  (AI 0),
  ((0 : Int) = (↑0 : Int)),
  ((([AV.p (PV.int IntKind.i64 (↑N : Int)), gnL g nb].length) : Nat) = 2),
  ((1 : Nat) ≤ 1),
  ((1 : Nat) ≤ 1),
  (AI ((↑N : Int))),
  (AN nb),
  (AP nb (fun i => [.int .i64 ((g i).1), .int .i64 ((g i).2.1), .int .i64 ((g i).2.2.1), .int .i64 ((g i).2.2.2.1)]))]) := by kernel_rfl
theorem fSo (g : Nat → T_GainBar) (nb N m c : Nat) (b : Int) (s : Nat → Int) (h : Nat → T_GainBar) :
    pieceOb Try.prog 0 [.reg [oT, oT, oT, oT, oT, oT], .dec true, .reg [oT, oT, oT, oT, ⟨true, (some ⟨[], [], [], 1, [(0, iOb c s)], .ar 1 0 0 c⟩), none⟩, oT], .reg [oT, oT, oT, oT, oT], .reg [oT], .head] [.code (cAt (bodyOf Try.f35) [1, 1, 1, 0, 1, 0, 0]), .inLoop (cAt (bodyOf Try.f35) [1, 1, 1, 0, 1, 0, 0]), .inBlock 0, .code (cAt (bodyOf Try.f35) [1, 1, 1, 1])] (GF0 g nb N m b) [0, 321, 481] 1 (GF1 g nb N m b c s 0 h) =
    some ([.code (cAt (bodyOf Try.f35) [1, 1, 1, 0, 1, 0, 0, 1, 0, 0, 1, 1, 0, 1, 0, 0]), .inLoop (cAt (bodyOf Try.f35) [1, 1, 1, 0, 1, 0, 0, 1, 0, 0, 1, 1, 0, 1, 0, 0]), .inBlock 2, .code (cAt (bodyOf Try.f35) [1, 1, 1, 0, 1, 0, 0, 1, 0, 0, 1, 1, 1]), .inBlock 1, .code (cAt (bodyOf Try.f35) [1, 1, 1, 0, 1, 0, 0, 1, 1]), .inLoop (cAt (bodyOf Try.f35) [1, 1, 1, 0, 1, 0, 0]), .inBlock 0, .code (cAt (bodyOf Try.f35) [1, 1, 1, 1])], [((0 : Nat) < 1),
  ((0 : Int) ≤ (↑nb : Int)),
  ((decide ((↑m : Int) < shlI IntKind.i64 1 (↑nb : Int))) = true),
  ((0 : Nat) < 1),
  Con Try.prog 76 0 [] [.p (.int .i64 (↑nb : Int)), .p (.int .i64 (↑m : Int))] [(0, ⟨false, 1, c, (fun i => [.p (.int .i64 (s i))])⟩)] (.ar 1 0 0 c),
  ((0 : Nat) < 1),
  ((0 : Nat) < 1),
  ((true = true) → (AN 1)),
  (AI ((↑N : Int))),
  (AN nb),
  (AP nb (fun i => [.int .i64 ((g i).1), .int .i64 ((g i).2.1), .int .i64 ((g i).2.2.1), .int .i64 ((g i).2.2.2.1)])),
  (AN 0),
  (AI b),
  (AI ((↑m : Int))),
  (AN 0),
  (AN c),
  (AN 0),
  ((0 : Int) = (↑0 : Int)),
  (AN 2),
  ((1 : Nat) ≤ 1),
  ((1 : Nat) ≤ 1),
  (AI ((↑N : Int))),
  (AN nb),
  (AP nb (fun i => [.int .i64 ((g i).1), .int .i64 ((g i).2.1), .int .i64 ((g i).2.2.1), .int .i64 ((g i).2.2.2.1)])),
  (AN 1),
  ((c : Nat) ≤ c),
  (AA c (fun i => [.p (.int .i64 (s i))])),
  ((((List.map (fun v => AV.p (absV v)) [Value.int IntKind.i64 0, Value.slice none 0 0]).length) : Nat) = 2),
  ((1 : Nat) ≤ 1),
  ((1 : Nat) ≤ 1),
  (AI ((↑N : Int))),
  (AN 0),
  (AN 0)]) := by kernel_rfl
theorem fSi (g : Nat → T_GainBar) (nb N m c : Nat) (b : Int) (s : Nat → Int) (k : Nat) (h : Nat → T_GainBar) :
    pieceOb Try.prog 0 [.reg [oT, oT, oT, oT], .dec true, .reg [oT, oT, oT, oT, oT, oT, oT, oT, oT, oT, oT, oT, oT, oT], .reg [oT, oT, oT], .head] [.code (cAt (bodyOf Try.f35) [1, 1, 1, 0, 1, 0, 0, 1, 0, 0, 1, 1, 0, 1, 0, 0]), .inLoop (cAt (bodyOf Try.f35) [1, 1, 1, 0, 1, 0, 0, 1, 0, 0, 1, 1, 0, 1, 0, 0]), .inBlock 2, .code (cAt (bodyOf Try.f35) [1, 1, 1, 0, 1, 0, 0, 1, 0, 0, 1, 1, 1]), .inBlock 1, .code (cAt (bodyOf Try.f35) [1, 1, 1, 0, 1, 0, 0, 1, 1]), .inLoop (cAt (bodyOf Try.f35) [1, 1, 1, 0, 1, 0, 0]), .inBlock 0, .code (cAt (bodyOf Try.f35) [1, 1, 1, 1])] (GF1 g nb N m b c s k h) [0, 1, 2, 484] 1 (GF1 g nb N m b c s (k + 1) h) =
    some ([.code (cAt (bodyOf Try.f35) [1, 1, 1, 0, 1, 0, 0, 1, 0, 0, 1, 1, 0, 1, 0, 0]), .inLoop (cAt (bodyOf Try.f35) [1, 1, 1, 0, 1, 0, 0, 1, 0, 0, 1, 1, 0, 1, 0, 0]), .inBlock 2, .code (cAt (bodyOf Try.f35) [1, 1, 1, 0, 1, 0, 0, 1, 0, 0, 1, 1, 1]), .inBlock 1, .code (cAt (bodyOf Try.f35) [1, 1, 1, 0, 1, 0, 0, 1, 1]), .inLoop (cAt (bodyOf Try.f35) [1, 1, 1, 0, 1, 0, 0]), .inBlock 0, .code (cAt (bodyOf Try.f35) [1, 1, 1, 1])], [((decide ((↑k : Int) < (↑c : Int))) = true),
  ((0 : Nat) < 1),
  ((0 : Nat) < 1),
  ((0 : Int) ≤ (↑k : Int)),
  (((↑k : Int) : Int) < (↑c : Int)),
  ((k : Nat) < c),
  ((0 : Int) ≤ (s k)),
  (((s k) : Int) < (↑nb : Int)),
  ((1 : Nat) ≤ 1),
  ((k : Nat) ≤ k),
  ((((k + 1) * 32) : Nat) ≤ 140737488355328),
  (((k + 1) : Nat) ≤ 9223372036854775807),
  ((0 : Nat) < 1),
  ((true = true) → (AN 1)),
  (((-9223372036854775808) : Int) ≤ ((↑k : Int) + 1)),
  ((((↑k : Int) + 1) : Int) ≤ 9223372036854775807),
  (AI ((↑N : Int))),
  (AN nb),
  (AP nb (fun i => [.int .i64 ((g i).1), .int .i64 ((g i).2.1), .int .i64 ((g i).2.2.1), .int .i64 ((g i).2.2.2.1)])),
  (AN 0),
  (AI b),
  (AI ((↑m : Int))),
  (AN 0),
  (AN c),
  (AN 0),
  ((((↑k : Int) + 1) : Int) = (↑(k + 1) : Int)),
  (AN 2),
  ((1 : Nat) ≤ 1),
  ((1 : Nat) ≤ 1),
  (AI ((↑N : Int))),
  (AN nb),
  (AP nb (fun i => [.int .i64 ((g i).1), .int .i64 ((g i).2.1), .int .i64 ((g i).2.2.1), .int .i64 ((g i).2.2.2.1)])),
  (AN 1),
  ((c : Nat) ≤ c),
  (AA c (fun i => [.p (.int .i64 (s i))])),
  (AN 2),
  ((1 : Nat) ≤ 1),
  ((1 : Nat) ≤ 1),
  (AI ((↑N : Int))),
  (AN 0),
  (AN ((k + 1))),
  (AN 4),
  (((k + 1) : Nat) ≤ (k + 1)),
  (∀ i : Nat, (((i : Nat) < (k + 1)) → (All (cvtL false [(2, ⟨true, 2, 1, (fun i_1 => [.p (.int .i64 (↑N : Int)), .ar 4 484 0 (k + 1)])⟩), (484, ⟨false, 4, (k + 1), (fun i_1 => (if (i_1 < k) then [.p (.int .i64 ((h i_1).1)), .p (.int .i64 ((h i_1).2.1)), .p (.int .i64 ((h i_1).2.2.1)), .p (.int .i64 ((h i_1).2.2.2.1))] else [.p (.int .i64 ((g (s k).toNat).1)), .p (.int .i64 ((g (s k).toNat).2.1)), .p (.int .i64 ((g (s k).toNat).2.2.1)), .p (.int .i64 ((g (s k).toNat).2.2.2.1))]))⟩), (452, ⟨false, 4, 1, (fun i_1 => [.p (.int .i64 ((g (s k).toNat).1)), .p (.int .i64 ((g (s k).toNat).2.1)), .p (.int .i64 ((g (s k).toNat).2.2.1)), .p (.int .i64 ((g (s k).toNat).2.2.2.1))])⟩), (0, ⟨true, 2, 1, (fun i_1 => [.p (.int .i64 (↑N : Int)), .p (.seq true 4 nb (fun i_2 => [.int .i64 ((g i_2).1), .int .i64 ((g i_2).2.1), .int .i64 ((g i_2).2.2.1), .int .i64 ((g i_2).2.2.2.1)]))])⟩), (1, ⟨false, 1, c, (fun i_1 => [.p (.int .i64 (s i_1))])⟩)] [0, 1, 2, 484] 1 (if (i < k) then [.p (.int .i64 ((h i).1)), .p (.int .i64 ((h i).2.1)), .p (.int .i64 ((h i).2.2.1)), .p (.int .i64 ((h i).2.2.2.1))] else [.p (.int .i64 ((g (s k).toNat).1)), .p (.int .i64 ((g (s k).toNat).2.1)), .p (.int .i64 ((g (s k).toNat).2.2.1)), .p (.int .i64 ((g (s k).toNat).2.2.2.1))])).2 ∧ (((cvtL false [(2, ⟨true, 2, 1, (fun i_1 => [.p (.int .i64 (↑N : Int)), .ar 4 484 0 (k + 1)])⟩), (484, ⟨false, 4, (k + 1), (fun i_1 => (if (i_1 < k) then [.p (.int .i64 ((h i_1).1)), .p (.int .i64 ((h i_1).2.1)), .p (.int .i64 ((h i_1).2.2.1)), .p (.int .i64 ((h i_1).2.2.2.1))] else [.p (.int .i64 ((g (s k).toNat).1)), .p (.int .i64 ((g (s k).toNat).2.1)), .p (.int .i64 ((g (s k).toNat).2.2.1)), .p (.int .i64 ((g (s k).toNat).2.2.2.1))]))⟩), (452, ⟨false, 4, 1, (fun i_1 => [.p (.int .i64 ((g (s k).toNat).1)), .p (.int .i64 ((g (s k).toNat).2.1)), .p (.int .i64 ((g (s k).toNat).2.2.1)), .p (.int .i64 ((g (s k).toNat).2.2.2.1))])⟩), (0, ⟨true, 2, 1, (fun i_1 => [.p (.int .i64 (↑N : Int)), .p (.seq true 4 nb (fun i_2 => [.int .i64 ((g i_2).1), .int .i64 ((g i_2).2.1), .int .i64 ((g i_2).2.2.1), .int .i64 ((g i_2).2.2.2.1)]))])⟩), (1, ⟨false, 1, c, (fun i_1 => [.p (.int .i64 (s i_1))])⟩)] [0, 1, 2, 484] 1 (if (i < k) then [.p (.int .i64 ((h i).1)), .p (.int .i64 ((h i).2.1)), .p (.int .i64 ((h i).2.2.1)), .p (.int .i64 ((h i).2.2.2.1))] else [.p (.int .i64 ((g (s k).toNat).1)), .p (.int .i64 ((g (s k).toNat).2.1)), .p (.int .i64 ((g (s k).toNat).2.2.1)), .p (.int .i64 ((g (s k).toNat).2.2.2.1))])).1 : List AV) = [.p (.int .i64 ((h i).1)), .p (.int .i64 ((h i).2.1)), .p (.int .i64 ((h i).2.2.1)), .p (.int .i64 ((h i).2.2.2.1))]))))]) := by kernel_rfl
theorem fSt (g : Nat → T_GainBar) (nb N m c : Nat) (b : Int) (s : Nat → Int) (k : Nat) (h : Nat → T_GainBar) (q : Bool) :
    pieceOb Try.prog 0 [.reg [oT, oT, oT, oT], .dec false, .reg [oT, oT, oT, oT, oT, oT, ⟨true, (some ⟨[], [], [], 1, [], .p (.bool q)⟩), none⟩, oT], .dec true, .reg [oT, oT, oT], .reg [oT, oT, oT], .head] [.code (cAt (bodyOf Try.f35) [1, 1, 1, 0, 1, 0, 0, 1, 0, 0, 1, 1, 0, 1, 0, 0]), .inLoop (cAt (bodyOf Try.f35) [1, 1, 1, 0, 1, 0, 0, 1, 0, 0, 1, 1, 0, 1, 0, 0]), .inBlock 2, .code (cAt (bodyOf Try.f35) [1, 1, 1, 0, 1, 0, 0, 1, 0, 0, 1, 1, 1]), .inBlock 1, .code (cAt (bodyOf Try.f35) [1, 1, 1, 0, 1, 0, 0, 1, 1]), .inLoop (cAt (bodyOf Try.f35) [1, 1, 1, 0, 1, 0, 0]), .inBlock 0, .code (cAt (bodyOf Try.f35) [1, 1, 1, 1])] (GF1 g nb N m b c s k h) [0] 1 (GF0 g nb N (m + 1) c) =
    some ([.code (cAt (bodyOf Try.f35) [1, 1, 1, 0, 1, 0, 0]), .inLoop (cAt (bodyOf Try.f35) [1, 1, 1, 0, 1, 0, 0]), .inBlock 0, .code (cAt (bodyOf Try.f35) [1, 1, 1, 1])], [((decide ((↑k : Int) < (↑c : Int))) = false),
  (((decide ((↑c : Int) > b)) = true) → ((0 : Nat) < 1)),
  (AG (decide ((↑c : Int) > b))),
  (((decide ((↑c : Int) > b)) = true) → (AN 4)),
  (((decide ((↑c : Int) > b)) = true) → ((k : Nat) ≤ k)),
  (((decide ((↑c : Int) > b)) = true) → Con Try.prog 26 0 [] [.agg [.p (.int .i64 (↑N : Int)), .p (.seq true 4 k (fun i => [.int .i64 ((h i).1), .int .i64 ((h i).2.1), .int .i64 ((h i).2.2.1), .int .i64 ((h i).2.2.2.1)]))]] [] (.p (.bool q))),
  (AG (decide ((↑c : Int) > b))),
  ((bif decide ((↑c : Int) > b) then q else false) = true),
  (((-9223372036854775808) : Int) ≤ ((↑m : Int) + 1)),
  ((((↑m : Int) + 1) : Int) ≤ 9223372036854775807),
  (AI ((↑N : Int))),
  (AN nb),
  (AP nb (fun i => [.int .i64 ((g i).1), .int .i64 ((g i).2.1), .int .i64 ((g i).2.2.1), .int .i64 ((g i).2.2.2.1)])),
  (AN 0),
  (AI ((↑c : Int))),
  ((((↑m : Int) + 1) : Int) = (↑(m + 1) : Int)),
  (AN 2),
  ((1 : Nat) ≤ 1),
  ((1 : Nat) ≤ 1),
  (AI ((↑N : Int))),
  (AN nb),
  (AP nb (fun i => [.int .i64 ((g i).1), .int .i64 ((g i).2.1), .int .i64 ((g i).2.2.1), .int .i64 ((g i).2.2.2.1)]))]) := by kernel_rfl
theorem fSf (g : Nat → T_GainBar) (nb N m c : Nat) (b : Int) (s : Nat → Int) (k : Nat) (h : Nat → T_GainBar) (q : Bool) :
    pieceOb Try.prog 0 [.reg [oT, oT, oT, oT], .dec false, .reg [oT, oT, oT, oT, oT, oT, ⟨true, (some ⟨[], [], [], 1, [], .p (.bool q)⟩), none⟩, oT], .dec false, .reg [oT, oT, oT], .head] [.code (cAt (bodyOf Try.f35) [1, 1, 1, 0, 1, 0, 0, 1, 0, 0, 1, 1, 0, 1, 0, 0]), .inLoop (cAt (bodyOf Try.f35) [1, 1, 1, 0, 1, 0, 0, 1, 0, 0, 1, 1, 0, 1, 0, 0]), .inBlock 2, .code (cAt (bodyOf Try.f35) [1, 1, 1, 0, 1, 0, 0, 1, 0, 0, 1, 1, 1]), .inBlock 1, .code (cAt (bodyOf Try.f35) [1, 1, 1, 0, 1, 0, 0, 1, 1]), .inLoop (cAt (bodyOf Try.f35) [1, 1, 1, 0, 1, 0, 0]), .inBlock 0, .code (cAt (bodyOf Try.f35) [1, 1, 1, 1])] (GF1 g nb N m b c s k h) [0] 1 (GF0 g nb N (m + 1) b) =
    some ([.code (cAt (bodyOf Try.f35) [1, 1, 1, 0, 1, 0, 0]), .inLoop (cAt (bodyOf Try.f35) [1, 1, 1, 0, 1, 0, 0]), .inBlock 0, .code (cAt (bodyOf Try.f35) [1, 1, 1, 1])], [((decide ((↑k : Int) < (↑c : Int))) = false),
  (((decide ((↑c : Int) > b)) = true) → ((0 : Nat) < 1)),
  (AG (decide ((↑c : Int) > b))),
  (((decide ((↑c : Int) > b)) = true) → (AN 4)),
  (((decide ((↑c : Int) > b)) = true) → ((k : Nat) ≤ k)),
  (((decide ((↑c : Int) > b)) = true) → Con Try.prog 26 0 [] [.agg [.p (.int .i64 (↑N : Int)), .p (.seq true 4 k (fun i => [.int .i64 ((h i).1), .int .i64 ((h i).2.1), .int .i64 ((h i).2.2.1), .int .i64 ((h i).2.2.2.1)]))]] [] (.p (.bool q))),
  (AG (decide ((↑c : Int) > b))),
  ((bif decide ((↑c : Int) > b) then q else false) = false),
  (((-9223372036854775808) : Int) ≤ ((↑m : Int) + 1)),
  ((((↑m : Int) + 1) : Int) ≤ 9223372036854775807),
  (AI ((↑N : Int))),
  (AN nb),
  (AP nb (fun i => [.int .i64 ((g i).1), .int .i64 ((g i).2.1), .int .i64 ((g i).2.2.1), .int .i64 ((g i).2.2.2.1)])),
  (AN 0),
  (AI b),
  ((((↑m : Int) + 1) : Int) = (↑(m + 1) : Int)),
  (AN 2),
  ((1 : Nat) ≤ 1),
  ((1 : Nat) ≤ 1),
  (AI ((↑N : Int))),
  (AN nb),
  (AP nb (fun i => [.int .i64 ((g i).1), .int .i64 ((g i).2.1), .int .i64 ((g i).2.2.1), .int .i64 ((g i).2.2.2.1)]))]) := by kernel_rfl
theorem fSe (g : Nat → T_GainBar) (nb N m : Nat) (b : Int) :
    pathOb Try.prog Try.f35 0 [.reg [oT, oT, oT, oT, oT, oT], .dec false, .reg [oT, oT, oT, oT, oT, oT, oT]] [.code (cAt (bodyOf Try.f35) [1, 1, 1, 0, 1, 0, 0]), .inLoop (cAt (bodyOf Try.f35) [1, 1, 1, 0, 1, 0, 0]), .inBlock 0, .code (cAt (bodyOf Try.f35) [1, 1, 1, 1])] (GF0 g nb N m b) [] 1 [] (.p (.int .i64 (2 * (N : Int) - 2 - b))) =
    some [((0 : Nat) < 1),
  ((0 : Int) ≤ (↑nb : Int)),
  ((decide ((↑m : Int) < shlI IntKind.i64 1 (↑nb : Int))) = false),
  ((0 : Nat) < 1),
  (((-9223372036854775808) : Int) ≤ (2 * (↑N : Int))),
  (((2 * (↑N : Int)) : Int) ≤ 9223372036854775807),
  (((-9223372036854775808) : Int) ≤ (2 * (↑N : Int) - 2)),
  (((2 * (↑N : Int) - 2) : Int) ≤ 9223372036854775807),
  (((-9223372036854775808) : Int) ≤ (2 * (↑N : Int) - 2 - b)),
  (((2 * (↑N : Int) - 2 - b) : Int) ≤ 9223372036854775807),
  (AI ((2 * (↑N : Int) - 2 - b)))] := by kernel_rfl
open Classical in
noncomputable def sgF (v : T_GainGraph) : Bool := bif isGainF v then decide (Sub.All (okG v.1.toNat) v.2.1.2 (fun _ => true) v.2.1.1) else false
theorem all_full {N nb : Nat} {g : Nat → T_GainBar} : Sub.All (okG N) g (2 ^ nb - 1).testBit nb ↔ Sub.All (okG N) g (fun _ => true) nb :=
  Sub.all_congr (fun i hi => by rw [Nat.testBit_two_pow_sub_one]; simp [hi])
theorem con_IsGainSparse_i (v : T_GainGraph) (hs : smS s_GainGraph v) : Con Try.prog 28 0 [] [gnA v.2.1.2 v.2.1.1 v.1] [] (.p (.bool (sgF v))) := by
  have c1 := con_IsGainGraph_i v hs
  refine con_start Try.func28 rfl (by kernel_rfl) rfl (fun c hc => ?_)
  cases hp : isGainF v with
  | false =>
    rw [hp] at c1
    rw [show sgF v = false by simp [sgF, hp]]
    refine path_ok mixed Try.func28 hc (gIn v) ?_
    simp only [All]
    repeat' (first | exact trivial | with_reducible apply And.intro)
    all_goals (first | exact aG _ | exact aP _ _ | exact aA _ _ | exact aE _ | omega | rfl | (intros; first | assumption | exact True.intro | rfl | exact absurd (show false = true by assumption) Bool.false_ne_true | ((repeat' (first | assumption | apply anda | apply notf)); done)) | (exact c1))
  | true =>
    rw [hp] at c1
    obtain ⟨N, nb, g, rfl, h1, h2, h3, h4⟩ := gain_in hp
    have cs := con_sparseSets ⟨h1, h2⟩ h3 h4
    have h8 := pow_62 h3
    have hpos : 0 < 2 ^ nb := Nat.pow_pos (by omega)
    have hr : sgF ((N : Int), (nb, g), ()) = spB N g nb (2 ^ nb - 1) := by
      unfold sgF spB
      rw [hp]
      simp only [cond_true, Int.toNat_natCast]
      congr 1
      exact (propext all_full).symm
    rw [hr]
    generalize 2 ^ nb = P at cs h8 hpos ⊢
    have e : ((P : Int) - 1).toNat = P - 1 := by omega
    refine path_ok mixed Try.func28 hc (gIy ((N : Int), (nb, g), ()) P (spB N g nb)) ?_
    simp only [All]
    repeat' (first | exact trivial | with_reducible apply And.intro)
    all_goals (first | exact aG _ | exact aP _ _ | exact aA _ _ | exact aE _ | omega | rfl | (intros; first | assumption | exact True.intro | rfl | exact absurd (show false = true by assumption) Bool.false_ne_true | ((repeat' (first | assumption | apply anda | apply notf)); done)) | (exact c1) | (exact cs) | (simp only [e]; done) | (simp; omega))
theorem okB_at {N nb m : Nat} {g : Nat → T_GainBar} (hm : m < 2 ^ nb) (hnb : nb ≤ 8) : okG N (Sub.sel g m.testBit nb) ↔ ((stD m nb).1 : Int) ≤ mostL N (bkL g (stD m nb).1 (stD m nb).2) := by
  have h8 := pow_62 hnb
  have h := st_sel g m (by omega) nb (by omega)
  unfold okG
  rw [← h, bkL_len]
theorem con_IsGainSparse_s (v : T_GainGraph) (hs : smS s_GainGraph v) : Con Try.prog 26 0 [] [gnA v.2.1.2 v.2.1.1 v.1] [] (.p (.bool (sgF v))) := by
  have c1 := con_IsGainGraph_s v hs
  refine con_start Try.func26 rfl (by kernel_rfl) rfl (fun c hc => ?_)
  cases hp : isGainF v with
  | false =>
    rw [hp] at c1
    rw [show sgF v = false by simp [sgF, hp]]
    refine path_ok mixed Try.func26 hc (gTn v) ?_
    simp only [All]
    repeat' (first | exact trivial | with_reducible apply And.intro)
    all_goals (first | exact aG _ | exact aP _ _ | exact aA _ _ | exact aE _ | omega | rfl | (intros; first | assumption | exact True.intro | rfl | exact absurd (show false = true by assumption) Bool.false_ne_true | ((repeat' (first | assumption | apply anda | apply notf)); done)) | (exact c1))
  | true =>
    rw [hp] at c1
    obtain ⟨N, nb, g, rfl, h1, h2, h3, h4⟩ := gain_in hp
    have h8 := pow_62 h3
    have hsh := shl_8 nb h3
    have hr : sgF ((N : Int), (nb, g), ()) = true ↔ Sub.All (okG N) g (fun _ => true) nb := by
      unfold sgF
      rw [hp]
      simp
    generalize sgF ((N : Int), (nb, g), ()) = B at hr
    have lo : ∀ d m, m + d = 2 ^ nb → 1 ≤ m → (∀ i, 1 ≤ i → i < m → okG N (Sub.sel g i.testBit nb)) → Run Try.prog c 26 [.code (cAt (bodyOf Try.f26) [1, 1, 0, 1, 0, 0]), .inLoop (cAt (bodyOf Try.f26) [1, 1, 0, 1, 0, 0]), .inBlock 0, .code (cAt (bodyOf Try.f26) [1, 1, 1])] (GT0 g nb N m) (Post c [] (.p (.bool B))) := by
      intro d
      induction d with
      | zero =>
        intro m hm h1m hok
        have hd : decide ((m : Int) < shlI .i64 1 (nb : Int)) = false := by rw [hsh]; exact decide_eq_false (by omega)
        have hB : B = true := hr.2 (fun K _ hne => by
          obtain ⟨i, hi, hb⟩ := Sub.mask_of K nb
          have e : Sub.sel g K nb = Sub.sel g i.testBit nb := Sub.sel_congr nb (fun j hj => (hb j hj).symm) (fun j hj => rfl)
          rw [e] at hne ⊢
          have : i ≠ 0 := fun h => hne ((sel_nil hi).2 h)
          exact hok i (by omega) (by omega))
        rw [hB]
        refine path_ok mixed Try.func26 hc (gTe g nb N m) ?_
        simp only [All]
        repeat' (first | exact trivial | with_reducible apply And.intro)
        all_goals (first | exact aG _ | exact aP _ _ | exact aA _ _ | exact aE _ | omega | rfl | (intros; first | assumption | exact True.intro | rfl | exact absurd (show false = true by assumption) Bool.false_ne_true | ((repeat' (first | assumption | apply anda | apply notf)); done)) | (exact hd) | (simp; omega))
      | succ d ih =>
        intro m hm h1m hok
        have hd : decide ((m : Int) < shlI .i64 1 (nb : Int)) = true := by rw [hsh]; exact decide_eq_true (by omega)
        have hw : m < 2 ^ nb := by omega
        have cs := con_l3Set m nb (by omega)
        have hcn := stD_n m nb
        have hgood := st_good m nb (by omega) (by omega)
        have hgi := goodS_in hgood
        have cp := con_l29Points (N := N) (g := g) (n := (stD m nb).1) (s := (stD m nb).2) h2 h3 (by omega) (fun i hi => ⟨(hgi i hi).1, (hgi i hi).2.1⟩)
        have hptn := cntB_le (pB (bkL g (stD m nb).1 (stD m nb).2)) N
        have cb := con_IsBalanced_s ((N : Int), (nb, g), ()) hs (stD m nb) (by omega)
        have hbl : isBalF ((N : Int), (nb, g), ()) (stD m nb) = balL (bkL g (stD m nb).1 (stD m nb).2) := by
          unfold isBalF
          rw [show goodS ((N : Int), (nb, g), ()).2.1.1 (stD m nb).2 (stD m nb).1 = true from hgood, hp]
          simp only [cond_true, Int.toNat_natCast]
          exact balP_L _ _ _ _
        rw [hbl] at cb
        have hok2 := okB_at (N := N) (g := g) hw h3
        have hne : Sub.sel g m.testBit nb ≠ [] := fun h => by have := (sel_nil hw).1 h; omega
        have hnx : okG N (Sub.sel g m.testBit nb) → Run Try.prog c 26 [.code (cAt (bodyOf Try.f26) [1, 1, 0, 1, 0, 0]), .inLoop (cAt (bodyOf Try.f26) [1, 1, 0, 1, 0, 0]), .inBlock 0, .code (cAt (bodyOf Try.f26) [1, 1, 1])] (GT0 g nb N (m + 1)) (Post c [] (.p (.bool B))) := fun h => ih (m + 1) (by omega) (by omega) (fun i hi h' => by
          by_cases e : i = m
          · subst e; exact h
          · exact hok i hi (by omega))
        have hno : ¬ okG N (Sub.sel g m.testBit nb) → B = false := fun h => by
          cases hB : B with
          | false => rfl
          | true => exact absurd (hr.1 hB m.testBit (fun _ _ => rfl) hne) h
        rw [hok2] at hnx hno
        clear hok2 hne hgi hgood hbl ih
        generalize stD m nb = S at *
        have hpp : ptN N (bkL g S.1 S.2) = Sub.cntB (pB (bkL g S.1 S.2)) N := rfl
        cases hb : balL (bkL g S.1 S.2) with
        | true =>
          rw [hb] at cb
          rw [mostL_t hb] at hnx hno
          generalize ptN N (bkL g S.1 S.2) = D at *
          by_cases hq : (S.1 : Int) ≤ 2 * (D : Int) - 2 - 1
          · refine piece_ok mixed hc (gTt g nb N m S.1 D S.2) ?_ (hnx hq)
            simp only [All]
            repeat' (first | exact trivial | with_reducible apply And.intro)
            all_goals (first | exact aG _ | exact aP _ _ | exact aA _ _ | exact aE _ | omega | rfl | (intros; first | assumption | exact True.intro | rfl | exact absurd (show false = true by assumption) Bool.false_ne_true | ((repeat' (first | assumption | apply anda | apply notf)); done)) | (exact hd) | (exact cs) | (exact cp) | (exact cb) | (exact decide_eq_false (by omega)) | (simp; omega))
          · rw [hno hq]
            refine path_ok mixed Try.func26 hc (gTx g nb N m S.1 D S.2) ?_
            simp only [All]
            repeat' (first | exact trivial | with_reducible apply And.intro)
            all_goals (first | exact aG _ | exact aP _ _ | exact aA _ _ | exact aE _ | omega | rfl | (intros; first | assumption | exact True.intro | rfl | exact absurd (show false = true by assumption) Bool.false_ne_true | ((repeat' (first | assumption | apply anda | apply notf)); done)) | (exact hd) | (exact cs) | (exact cp) | (exact cb) | (exact decide_eq_true (by omega)) | (simp; omega))
        | false =>
          rw [hb] at cb
          rw [mostL_f hb] at hnx hno
          generalize ptN N (bkL g S.1 S.2) = D at *
          by_cases hq : (S.1 : Int) ≤ 2 * (D : Int) - 2
          · refine piece_ok mixed hc (gTf g nb N m S.1 D S.2) ?_ (hnx hq)
            simp only [All]
            repeat' (first | exact trivial | with_reducible apply And.intro)
            all_goals (first | exact aG _ | exact aP _ _ | exact aA _ _ | exact aE _ | omega | rfl | (intros; first | assumption | exact True.intro | rfl | exact absurd (show false = true by assumption) Bool.false_ne_true | ((repeat' (first | assumption | apply anda | apply notf)); done)) | (exact hd) | (exact cs) | (exact cp) | (exact cb) | (exact decide_eq_false (by omega)) | (simp; omega))
          · rw [hno hq]
            refine path_ok mixed Try.func26 hc (gTy g nb N m S.1 D S.2) ?_
            simp only [All]
            repeat' (first | exact trivial | with_reducible apply And.intro)
            all_goals (first | exact aG _ | exact aP _ _ | exact aA _ _ | exact aE _ | omega | rfl | (intros; first | assumption | exact True.intro | rfl | exact absurd (show false = true by assumption) Bool.false_ne_true | ((repeat' (first | assumption | apply anda | apply notf)); done)) | (exact hd) | (exact cs) | (exact cp) | (exact cb) | (exact decide_eq_true (by omega)) | (simp; omega))
    have hpos : 0 < 2 ^ nb := Nat.pow_pos (by omega)
    refine piece_ok mixed hc (gTz g nb N) ?_ (lo (2 ^ nb - 1) 1 (by omega) (Nat.le_refl _) (fun i hi h => by omega))
    simp only [All]
    repeat' (first | exact trivial | with_reducible apply And.intro)
    all_goals (first | exact aG _ | exact aP _ _ | exact aA _ _ | exact aE _ | omega | rfl | (intros; first | assumption | exact True.intro | rfl | exact absurd (show false = true by assumption) Bool.false_ne_true | ((repeat' (first | assumption | apply anda | apply notf)); done)) | (exact c1) | (simp; omega))
noncomputable def bsI (N : Nat) (g : Nat → T_GainBar) (nb : Nat) : Nat → Int
  | 0 => 0
  | m + 1 => if spB N g nb m = true then maxZ (bsI N g nb m) (stD m nb).1 else bsI N g nb m
theorem bsI_in (N : Nat) (g : Nat → T_GainBar) (nb : Nat) : ∀ m, 0 ≤ bsI N g nb m ∧ bsI N g nb m ≤ nb
  | 0 => ⟨Int.le_refl _, by show (0 : Int) ≤ nb; omega⟩
  | m + 1 => by
    have ih := bsI_in N g nb m
    have := stD_n m nb
    simp only [bsI]
    split
    · unfold maxZ
      split <;> omega
    · exact ih
noncomputable def gfF (v : T_GainGraph) : Int := if isGainF v = true then 2 * v.1 - 2 - bsI v.1.toNat v.2.1.2 v.2.1.1 (2 ^ v.2.1.1) else -1
theorem con_GainFreedom_i (v : T_GainGraph) (hs : smS s_GainGraph v) : Con Try.prog 36 0 [] [gnA v.2.1.2 v.2.1.1 v.1] [] (.p (.int .i64 (gfF v))) := by
  have c1 := con_IsGainGraph_i v hs
  refine con_start Try.func36 rfl (by kernel_rfl) rfl (fun c hc => ?_)
  cases hp : isGainF v with
  | false =>
    rw [hp] at c1
    rw [show gfF v = -1 by simp [gfF, hp]]
    refine path_ok mixed Try.func36 hc (fIn v) ?_
    simp only [All]
    repeat' (first | exact trivial | with_reducible apply And.intro)
    all_goals (first | exact aG _ | exact aP _ _ | exact aA _ _ | exact aE _ | omega | rfl | (intros; first | assumption | exact True.intro | rfl | exact absurd (show false = true by assumption) Bool.false_ne_true | ((repeat' (first | assumption | apply anda | apply notf)); done)) | (exact c1))
  | true =>
    rw [hp] at c1
    obtain ⟨N, nb, g, rfl, h1, h2, h3, h4⟩ := gain_in hp
    have cs := con_sparseSets ⟨h1, h2⟩ h3 h4
    have h8 := pow_62 h3
    have hr : gfF ((N : Int), (nb, g), ()) = 2 * (N : Int) - 2 - bsI N g nb (2 ^ nb) := by simp [gfF, hp]
    rw [hr]
    generalize 2 ^ nb = P at cs h8 ⊢
    have lo : ∀ d m, m + d = P → Run Try.prog c 36 [.code (cAt (bodyOf Try.f36) [1, 1, 1, 0, 1, 0, 0]), .inLoop (cAt (bodyOf Try.f36) [1, 1, 1, 0, 1, 0, 0]), .inBlock 0, .code (cAt (bodyOf Try.f36) [1, 1, 1, 1])] (GI0 g nb N P m (bsI N g nb m) (spB N g nb)) (Post c [] (.p (.int .i64 (2 * (N : Int) - 2 - bsI N g nb P)))) := by
      intro d
      induction d with
      | zero =>
        intro m hm
        obtain rfl : m = P := by omega
        have hd : decide ((m : Int) < (m : Int)) = false := by simp
        have hb := bsI_in N g nb m
        refine path_ok mixed Try.func36 hc (fIe g nb N m m (bsI N g nb m) (spB N g nb)) ?_
        simp only [All]
        repeat' (first | exact trivial | with_reducible apply And.intro)
        all_goals (first | exact aG _ | exact aP _ _ | exact aA _ _ | exact aE _ | omega | rfl | (intros; first | assumption | exact True.intro | rfl | exact absurd (show false = true by assumption) Bool.false_ne_true | ((repeat' (first | assumption | apply anda | apply notf)); done)) | (exact hd) | (simp; omega))
      | succ d ih =>
        intro m hm
        have hd : decide ((m : Int) < (P : Int)) = true := decide_eq_true (by omega)
        have hrec := ih (m + 1) (by omega)
        have hb := bsI_in N g nb m
        have hcn := stD_n m nb
        have cst := con_setOf m nb (by omega)
        cases hq : spB N g nb m with
        | true =>
          rw [show bsI N g nb (m + 1) = maxZ (bsI N g nb m) (stD m nb).1 by simp [bsI, hq]] at hrec
          generalize stD m nb = S at *
          refine piece_ok mixed hc (fIt g nb N P m S.1 (bsI N g nb m) (spB N g nb) S.2) ?_ hrec
          simp only [All]
          repeat' (first | exact trivial | with_reducible apply And.intro)
          all_goals (first | exact aG _ | exact aP _ _ | exact aA _ _ | exact aE _ | omega | rfl | (intros; first | assumption | exact True.intro | rfl | exact absurd (show false = true by assumption) Bool.false_ne_true | ((repeat' (first | assumption | apply anda | apply notf)); done)) | (exact hd) | (exact hq) | (exact cst) | (intro t ht; simp [All]) | (simp; omega))
        | false =>
          rw [show bsI N g nb (m + 1) = bsI N g nb m by simp [bsI, hq]] at hrec
          refine piece_ok mixed hc (fIf g nb N P m (bsI N g nb m) (spB N g nb)) ?_ hrec
          simp only [All]
          repeat' (first | exact trivial | with_reducible apply And.intro)
          all_goals (first | exact aG _ | exact aP _ _ | exact aA _ _ | exact aE _ | omega | rfl | (intros; first | assumption | exact True.intro | rfl | exact absurd (show false = true by assumption) Bool.false_ne_true | ((repeat' (first | assumption | apply anda | apply notf)); done)) | (exact hd) | (exact hq) | (intro t ht; simp [All]) | (simp; omega))
    refine piece_ok mixed hc (fIz g nb N P (spB N g nb)) ?_ (lo P 0 (by omega))
    simp only [All]
    repeat' (first | exact trivial | with_reducible apply And.intro)
    all_goals (first | exact aG _ | exact aP _ _ | exact aA _ _ | exact aE _ | omega | rfl | (intros; first | assumption | exact True.intro | rfl | exact absurd (show false = true by assumption) Bool.false_ne_true | ((repeat' (first | assumption | apply anda | apply notf)); done)) | (exact c1) | (exact cs) | (intro t ht; simp [All]) | (simp; omega))
theorem sub_gain {N nb m : Nat} {g : Nat → T_GainBar} (hp : isGainF ((N : Int), (nb, g), ()) = true) (hm : m < 2 ^ nb) : isGainF ((N : Int), ((stD m nb).1, fun i => gb g (stD m nb).2 i), ()) = true := by
  have hn := stD_n m nb
  simp only [isGainF, Bool.and_eq_true, decide_eq_true_eq] at hp ⊢
  have h8 := pow_62 hp.2.2
  refine ⟨?_, hp.2.1, by omega⟩
  have key : ∀ k, k ≤ (stD m nb).1 → goodG ((N : Int), ((stD m nb).1, fun i => gb g (stD m nb).2 i), ()) k = true := by
    intro k
    induction k with
    | zero => intro _; rfl
    | succ k ih =>
      intro hk
      obtain ⟨e, g1, g2, _⟩ := st_at m (by omega) nb (by have := hp.2.2; omega) k (by omega)
      have hbad := goodG_all hp.1 e g2
      simp only [goodG, ih (by omega), Bool.true_and, Bool.not_eq_true']
      show badG (N : Int) (g ((stD m nb).2 k).toNat) = false
      rw [g1, Int.toNat_natCast]
      exact hbad
  exact key _ (Nat.le_refl _)
theorem sub_sparse {N nb m : Nat} {g : Nat → T_GainBar} (hp : isGainF ((N : Int), (nb, g), ()) = true) (hm : m < 2 ^ nb) : sgF ((N : Int), ((stD m nb).1, fun i => gb g (stD m nb).2 i), ()) = spB N g nb m := by
  have hnb : nb ≤ 8 := by
    simp only [isGainF, Bool.and_eq_true, decide_eq_true_eq] at hp
    exact hp.2.2
  have h8 := pow_62 hnb
  unfold sgF spB
  rw [sub_gain hp hm]
  simp only [cond_true, Int.toNat_natCast]
  congr 1
  apply propext
  have hsel := st_sel g m (by omega) nb (by omega)
  have hcn : Sub.cntB m.testBit nb = (stD m nb).1 := by rw [← Sub.sel_len g, ← hsel, bkL_len]
  have hrow : Sub.Row g m.testBit nb (fun i => gb g (stD m nb).2 i) := by
    intro i hi
    rw [← hsel]
    rw [hcn] at hi
    simp [bkL, hi]
  have := hrow.all (ok := okG N)
  rw [hcn] at this
  exact this
theorem con_GainFreedom_s (v : T_GainGraph) (hs : smS s_GainGraph v) : Con Try.prog 35 0 [] [gnA v.2.1.2 v.2.1.1 v.1] [] (.p (.int .i64 (gfF v))) := by
  have c1 := con_IsGainGraph_s v hs
  refine con_start Try.func35 rfl (by kernel_rfl) rfl (fun c hc => ?_)
  cases hp : isGainF v with
  | false =>
    rw [hp] at c1
    rw [show gfF v = -1 by simp [gfF, hp]]
    refine path_ok mixed Try.func35 hc (fSn v) ?_
    simp only [All]
    repeat' (first | exact trivial | with_reducible apply And.intro)
    all_goals (first | exact aG _ | exact aP _ _ | exact aA _ _ | exact aE _ | omega | rfl | (intros; first | assumption | exact True.intro | rfl | exact absurd (show false = true by assumption) Bool.false_ne_true | ((repeat' (first | assumption | apply anda | apply notf)); done)) | (exact c1))
  | true =>
    rw [hp] at c1
    obtain ⟨N, nb, g, rfl, h1, h2, h3, h4⟩ := gain_in hp
    have h8 := pow_62 h3
    have hsh := shl_8 nb h3
    have hr : gfF ((N : Int), (nb, g), ()) = 2 * (N : Int) - 2 - bsI N g nb (2 ^ nb) := by simp [gfF, hp]
    rw [hr]
    have hspx := fun m hm => sub_sparse (m := m) hp hm
    generalize hP : 2 ^ nb = P at h8 hsh hspx ⊢
    have li : ∀ (m : Nat) (b : Int), m < P → 0 ≤ b → b ≤ (nb : Int) → Run Try.prog c 35 [.code (cAt (bodyOf Try.f35) [1, 1, 1, 0, 1, 0, 0]), .inLoop (cAt (bodyOf Try.f35) [1, 1, 1, 0, 1, 0, 0]), .inBlock 0, .code (cAt (bodyOf Try.f35) [1, 1, 1, 1])] (GF0 g nb N (m + 1) (if spB N g nb m = true then maxZ b (stD m nb).1 else b)) (Post c [] (.p (.int .i64 (2 * (N : Int) - 2 - bsI N g nb P)))) →
        ∀ d k, k + d = (stD m nb).1 → Run Try.prog c 35 [.code (cAt (bodyOf Try.f35) [1, 1, 1, 0, 1, 0, 0, 1, 0, 0, 1, 1, 0, 1, 0, 0]), .inLoop (cAt (bodyOf Try.f35) [1, 1, 1, 0, 1, 0, 0, 1, 0, 0, 1, 1, 0, 1, 0, 0]), .inBlock 2, .code (cAt (bodyOf Try.f35) [1, 1, 1, 0, 1, 0, 0, 1, 0, 0, 1, 1, 1]), .inBlock 1, .code (cAt (bodyOf Try.f35) [1, 1, 1, 0, 1, 0, 0, 1, 1]), .inLoop (cAt (bodyOf Try.f35) [1, 1, 1, 0, 1, 0, 0]), .inBlock 0, .code (cAt (bodyOf Try.f35) [1, 1, 1, 1])] (GF1 g nb N m b (stD m nb).1 (stD m nb).2 k (fun i => gb g (stD m nb).2 i)) (Post c [] (.p (.int .i64 (2 * (N : Int) - 2 - bsI N g nb P)))) := by
      intro m b hm hb0 hb1 hk d
      have hcn := stD_n m nb
      have hat := fun k hk => st_at m (by omega) nb (by omega) k hk
      have hsp := hspx m hm
      have csp := con_IsGainSparse_s ((N : Int), ((stD m nb).1, fun i => gb g (stD m nb).2 i), ()) ⟨trivial, ⟨by show (stD m nb).1 ≤ 1048576; omega, fun i hi => by simp [smS, smL]⟩, trivial⟩
      rw [hsp] at csp
      generalize stD m nb = S at *
      induction d with
      | zero =>
        intro k hkn
        obtain rfl : k = S.1 := by omega
        have hd : decide ((S.1 : Int) < (S.1 : Int)) = false := by simp
        by_cases hq : (bif decide ((S.1 : Int) > b) then spB N g nb m else false) = true
        · have hst : (if spB N g nb m = true then maxZ b S.1 else b) = (S.1 : Int) := by
            by_cases hg : (S.1 : Int) > b
            · rw [decide_eq_true hg] at hq
              simp only [cond_true] at hq
              rw [if_pos hq, maxZ, if_pos hg]
            · rw [decide_eq_false hg] at hq; simp at hq
          rw [hst] at hk
          refine piece_ok mixed hc (fSt g nb N m S.1 b S.2 S.1 (fun i => gb g S.2 i) (spB N g nb m)) ?_ hk
          simp only [All]
          repeat' (first | exact trivial | with_reducible apply And.intro)
          all_goals (first | exact aG _ | exact aP _ _ | exact aA _ _ | exact aE _ | omega | rfl | (intros; first | assumption | exact True.intro | rfl | exact absurd (show false = true by assumption) Bool.false_ne_true | ((repeat' (first | assumption | apply anda | apply notf)); done)) | (exact hd) | (exact hq) | (intros; exact csp) | (intro t ht; simp [All]) | (simp; omega))
        · have hst : (if spB N g nb m = true then maxZ b S.1 else b) = b := by
            by_cases hg : (S.1 : Int) > b
            · rw [decide_eq_true hg] at hq
              simp only [cond_true] at hq
              rw [if_neg hq]
            · split
              · rw [maxZ, if_neg hg]
              · rfl
          rw [hst] at hk
          rw [Bool.not_eq_true] at hq
          refine piece_ok mixed hc (fSf g nb N m S.1 b S.2 S.1 (fun i => gb g S.2 i) (spB N g nb m)) ?_ hk
          simp only [All]
          repeat' (first | exact trivial | with_reducible apply And.intro)
          all_goals (first | exact aG _ | exact aP _ _ | exact aA _ _ | exact aE _ | omega | rfl | (intros; first | assumption | exact True.intro | rfl | exact absurd (show false = true by assumption) Bool.false_ne_true | ((repeat' (first | assumption | apply anda | apply notf)); done)) | (exact hd) | (exact hq) | (intros; exact csp) | (intro t ht; simp [All]) | (simp; omega))
      | succ d ih =>
        intro k hkn
        have hd : decide ((k : Int) < (S.1 : Int)) = true := decide_eq_true (by omega)
        obtain ⟨e, g1, g2, _⟩ := hat k (by omega)
        refine piece_ok mixed hc (fSi g nb N m S.1 b S.2 k (fun i => gb g S.2 i)) ?_ (ih (k + 1) (by omega))
        simp only [All]
        repeat' (first | exact trivial | with_reducible apply And.intro)
        all_goals (first | exact aG _ | exact aP _ _ | exact aA _ _ | exact aE _ | omega | rfl | (intros; first | assumption | exact True.intro | rfl | exact absurd (show false = true by assumption) Bool.false_ne_true | ((repeat' (first | assumption | apply anda | apply notf)); done)) | (exact hd) | (rw [g1]; omega) | (intro t ht; rcases Nat.lt_or_eq_of_le (Nat.le_of_lt_succ ht) with h' | h' <;> (simp [h', cvtL, cvt, tg, tru, All, gb]; done)) | (intro t ht; simp [All]; done) | (simp; omega))
    have lo : ∀ d m, m + d = P → Run Try.prog c 35 [.code (cAt (bodyOf Try.f35) [1, 1, 1, 0, 1, 0, 0]), .inLoop (cAt (bodyOf Try.f35) [1, 1, 1, 0, 1, 0, 0]), .inBlock 0, .code (cAt (bodyOf Try.f35) [1, 1, 1, 1])] (GF0 g nb N m (bsI N g nb m)) (Post c [] (.p (.int .i64 (2 * (N : Int) - 2 - bsI N g nb P)))) := by
      intro d
      induction d with
      | zero =>
        intro m hm
        obtain rfl : m = P := by omega
        have hd : decide ((m : Int) < shlI .i64 1 (nb : Int)) = false := by rw [hsh]; simp
        have hb := bsI_in N g nb m
        refine path_ok mixed Try.func35 hc (fSe g nb N m (bsI N g nb m)) ?_
        simp only [All]
        repeat' (first | exact trivial | with_reducible apply And.intro)
        all_goals (first | exact aG _ | exact aP _ _ | exact aA _ _ | exact aE _ | omega | rfl | (intros; first | assumption | exact True.intro | rfl | exact absurd (show false = true by assumption) Bool.false_ne_true | ((repeat' (first | assumption | apply anda | apply notf)); done)) | (exact hd) | (simp; omega))
      | succ d ih =>
        intro m hm
        have hd : decide ((m : Int) < shlI .i64 1 (nb : Int)) = true := by rw [hsh]; exact decide_eq_true (by omega)
        have hb := bsI_in N g nb m
        have hcn := stD_n m nb
        have cst := con_l3Set m nb (by omega)
        have hnx := li m (bsI N g nb m) (by omega) hb.1 hb.2 (ih (m + 1) (by omega)) (stD m nb).1 0 (by omega)
        refine piece_ok mixed hc (fSo g nb N m (stD m nb).1 (bsI N g nb m) (stD m nb).2 _) ?_ hnx
        simp only [All]
        repeat' (first | exact trivial | with_reducible apply And.intro)
        all_goals (first | exact aG _ | exact aP _ _ | exact aA _ _ | exact aE _ | omega | rfl | (intros; first | assumption | exact True.intro | rfl | exact absurd (show false = true by assumption) Bool.false_ne_true | ((repeat' (first | assumption | apply anda | apply notf)); done)) | (exact hd) | (exact cst) | (intro t ht; exact absurd ht (Nat.not_lt_zero _)) | (intro t ht; simp [All]; done) | (simp; omega))
    refine piece_ok mixed hc (fSz g nb N) ?_ (lo P 0 (by omega))
    simp only [All]
    repeat' (first | exact trivial | with_reducible apply And.intro)
    all_goals (first | exact aG _ | exact aP _ _ | exact aA _ _ | exact aE _ | omega | rfl | (intros; first | assumption | exact True.intro | rfl | exact absurd (show false = true by assumption) Bool.false_ne_true | ((repeat' (first | assumption | apply anda | apply notf)); done)) | (exact c1) | (simp; omega))
end Go.Proofs.Ytffnfeefjdmifaa.Mach
namespace Go.Proofs.Ytffnfeefjdmifaa.Mach
open Go
set_option linter.unusedVariables false
set_option linter.unusedSimpArgs false
theorem p_FnExactIsGainSparse_0 (v0 : T_GainGraph) :
    pathOb Try.prog Try.f6 0 [.reg [oT, oT], .reg [oT], .reg [oT, oT, ⟨true, (some ⟨[], [], [], 1, [], .p (.int .i64 (f_szGainGraph v0 1048576))⟩), none⟩, oT], .reg [oT, oT], .dec true, .reg [oT]] [.code (bodyOf Try.f6)] (start Try.f6 [] 0 [.agg [.p (.int .i64 v0.1), .p (.seq true 4 v0.2.1.1 (fun i => [.int .i64 ((v0.2.1.2 i).1), .int .i64 ((v0.2.1.2 i).2.1), .int .i64 ((v0.2.1.2 i).2.2.1), .int .i64 ((v0.2.1.2 i).2.2.2.1)]))]]) [] 1 [] (.p (.bool true)) =
    some [((0 : Nat) < 1),
  Con Try.prog 25 0 [] [.agg [.p (.int .i64 v0.1), .p (.seq true 4 v0.2.1.1 (fun i => [.int .i64 ((v0.2.1.2 i).1), .int .i64 ((v0.2.1.2 i).2.1), .int .i64 ((v0.2.1.2 i).2.2.1), .int .i64 ((v0.2.1.2 i).2.2.2.1)]))], .p (.int .i64 1048576)] [] (.p (.int .i64 (f_szGainGraph v0 1048576))),
  ((decide (f_szGainGraph v0 1048576 < 0)) = true),
  (true = true)] := by kernel_rfl
theorem p_FnExactIsGainSparse_e (v0 : T_GainGraph) :
    pathOb Try.prog Try.f6 0 [.reg [oT, oT], .reg [oT], .reg [oT, oT, ⟨true, (some ⟨[], [], [], 1, [], .p (.int .i64 (f_szGainGraph v0 1048576))⟩), none⟩, oT], .reg [oT, oT], .dec false, .reg [oT, ⟨true, (some ⟨[], [], [], 1, [(0, ⟨false, 4, v0.2.1.1, fun i => [.p (.int .i64 ((v0.2.1.2 i).1)), .p (.int .i64 ((v0.2.1.2 i).2.1)), .p (.int .i64 ((v0.2.1.2 i).2.2.1)), .p (.int .i64 ((v0.2.1.2 i).2.2.2.1))]⟩)], .agg [.p (.int .i64 v0.1), .ar 4 0 0 v0.2.1.1]⟩), none⟩, ⟨true, (some ⟨[], [], [], 1, [], .p (.bool (sgF v0))⟩), none⟩, oT], .reg [oT, ⟨true, (some ⟨[], [], [], 1, [(0, ⟨false, 4, v0.2.1.1, fun i => [.p (.int .i64 ((v0.2.1.2 i).1)), .p (.int .i64 ((v0.2.1.2 i).2.1)), .p (.int .i64 ((v0.2.1.2 i).2.2.1)), .p (.int .i64 ((v0.2.1.2 i).2.2.2.1))]⟩)], .agg [.p (.int .i64 v0.1), .ar 4 0 0 v0.2.1.1]⟩), none⟩, oT, oT], .reg [oT, ⟨true, (some ⟨[], [], [], 1, [], .p (.bool (sgF v0))⟩), none⟩, oT], .reg [oT, oT, oT], .dec false, .reg [oT, oT, ⟨true, (some ⟨[], [], [], 1, [(0, ⟨false, 4, v0.2.1.1, fun i => [.p (.int .i64 ((v0.2.1.2 i).1)), .p (.int .i64 ((v0.2.1.2 i).2.1)), .p (.int .i64 ((v0.2.1.2 i).2.2.1)), .p (.int .i64 ((v0.2.1.2 i).2.2.2.1))]⟩)], .agg [.p (.int .i64 v0.1), .ar 4 0 0 v0.2.1.1]⟩), none⟩, ⟨true, (some ⟨[], [], [], 1, [], .p (.bool true)⟩), none⟩, oT], .dec false, .reg [oT]] [.code (bodyOf Try.f6)] (start Try.f6 [] 0 [.agg [.p (.int .i64 v0.1), .p (.seq true 4 v0.2.1.1 (fun i => [.int .i64 ((v0.2.1.2 i).1), .int .i64 ((v0.2.1.2 i).2.1), .int .i64 ((v0.2.1.2 i).2.2.1), .int .i64 ((v0.2.1.2 i).2.2.2.1)]))]]) [] 1 [] (.p (.bool true)) =
    some [((0 : Nat) < 1),
  Con Try.prog 25 0 [] [.agg [.p (.int .i64 v0.1), .p (.seq true 4 v0.2.1.1 (fun i => [.int .i64 ((v0.2.1.2 i).1), .int .i64 ((v0.2.1.2 i).2.1), .int .i64 ((v0.2.1.2 i).2.2.1), .int .i64 ((v0.2.1.2 i).2.2.2.1)]))], .p (.int .i64 1048576)] [] (.p (.int .i64 (f_szGainGraph v0 1048576))),
  ((decide (f_szGainGraph v0 1048576 < 0)) = false),
  ((0 : Nat) < 1),
  Con Try.prog 27 0 [] [.agg [.p (.int .i64 v0.1), .p (.seq true 4 v0.2.1.1 (fun i => [.int .i64 ((v0.2.1.2 i).1), .int .i64 ((v0.2.1.2 i).2.1), .int .i64 ((v0.2.1.2 i).2.2.1), .int .i64 ((v0.2.1.2 i).2.2.2.1)]))]] [(0, ⟨false, 4, v0.2.1.1, (fun i => [.p (.int .i64 ((v0.2.1.2 i).1)), .p (.int .i64 ((v0.2.1.2 i).2.1)), .p (.int .i64 ((v0.2.1.2 i).2.2.1)), .p (.int .i64 ((v0.2.1.2 i).2.2.2.1))])⟩)] (.agg [.p (.int .i64 v0.1), .ar 4 0 0 v0.2.1.1]),
  (AN 4),
  ((v0.2.1.1 : Nat) ≤ v0.2.1.1),
  Con Try.prog 26 0 [] [.agg [.p (.int .i64 v0.1), .p (.seq true 4 v0.2.1.1 (fun i => [.int .i64 ((v0.2.1.2 i).1), .int .i64 ((v0.2.1.2 i).2.1), .int .i64 ((v0.2.1.2 i).2.2.1), .int .i64 ((v0.2.1.2 i).2.2.2.1)]))]] [] (.p (.bool (sgF v0))),
  ((0 : Nat) < 1),
  Con Try.prog 27 0 [] [.agg [.p (.int .i64 v0.1), .p (.seq true 4 v0.2.1.1 (fun i => [.int .i64 ((v0.2.1.2 i).1), .int .i64 ((v0.2.1.2 i).2.1), .int .i64 ((v0.2.1.2 i).2.2.1), .int .i64 ((v0.2.1.2 i).2.2.2.1)]))]] [(0, ⟨false, 4, v0.2.1.1, (fun i => [.p (.int .i64 ((v0.2.1.2 i).1)), .p (.int .i64 ((v0.2.1.2 i).2.1)), .p (.int .i64 ((v0.2.1.2 i).2.2.1)), .p (.int .i64 ((v0.2.1.2 i).2.2.2.1))])⟩)] (.agg [.p (.int .i64 v0.1), .ar 4 0 0 v0.2.1.1]),
  ((0 : Nat) < 1),
  ((true = true) → (AN 1)),
  ((0 : Nat) < 1),
  (AN 4),
  ((v0.2.1.1 : Nat) ≤ v0.2.1.1),
  Con Try.prog 28 0 [] [.agg [.p (.int .i64 v0.1), .p (.seq true 4 v0.2.1.1 (fun i => [.int .i64 ((v0.2.1.2 i).1), .int .i64 ((v0.2.1.2 i).2.1), .int .i64 ((v0.2.1.2 i).2.2.1), .int .i64 ((v0.2.1.2 i).2.2.2.1)]))]] [] (.p (.bool (sgF v0))),
  ((!sgF v0 == sgF v0) = false),
  ((0 : Nat) < 1),
  ((0 : Nat) < 1),
  Con Try.prog 27 0 [] [.agg [.p (.int .i64 v0.1), .p (.seq true 4 v0.2.1.1 (fun i => [.int .i64 ((v0.2.1.2 i).1), .int .i64 ((v0.2.1.2 i).2.1), .int .i64 ((v0.2.1.2 i).2.2.1), .int .i64 ((v0.2.1.2 i).2.2.2.1)]))]] [(0, ⟨false, 4, v0.2.1.1, (fun i => [.p (.int .i64 ((v0.2.1.2 i).1)), .p (.int .i64 ((v0.2.1.2 i).2.1)), .p (.int .i64 ((v0.2.1.2 i).2.2.1)), .p (.int .i64 ((v0.2.1.2 i).2.2.2.1))])⟩)] (.agg [.p (.int .i64 v0.1), .ar 4 0 0 v0.2.1.1]),
  (AN 4),
  ((v0.2.1.1 : Nat) ≤ v0.2.1.1),
  (AN 4),
  ((v0.2.1.1 : Nat) ≤ v0.2.1.1),
  Con Try.prog 29 0 [] [.agg [.p (.int .i64 v0.1), .p (.seq true 4 v0.2.1.1 (fun i => [.int .i64 ((v0.2.1.2 i).1), .int .i64 ((v0.2.1.2 i).2.1), .int .i64 ((v0.2.1.2 i).2.2.1), .int .i64 ((v0.2.1.2 i).2.2.2.1)]))], .agg [.p (.int .i64 v0.1), .p (.seq true 4 v0.2.1.1 (fun i => [.int .i64 ((v0.2.1.2 i).1), .int .i64 ((v0.2.1.2 i).2.1), .int .i64 ((v0.2.1.2 i).2.2.1), .int .i64 ((v0.2.1.2 i).2.2.2.1)]))]] [] (.p (.bool true)),
  ((!true) = false),
  (true = true)] := by kernel_rfl
theorem con_law_FnExactIsGainSparse (v0 : T_GainGraph) (k0 : okS s_GainGraph v0) : Con Try.prog 6 0 [] [.agg [.p (.int .i64 v0.1), .p (.seq true 4 v0.2.1.1 (fun i => [.int .i64 ((v0.2.1.2 i).1), .int .i64 ((v0.2.1.2 i).2.1), .int .i64 ((v0.2.1.2 i).2.2.1), .int .i64 ((v0.2.1.2 i).2.2.2.1)]))]] [] (.p (.bool true)) := by
  refine con_start Try.func6 rfl (by kernel_rfl) rfl (fun c hc => ?_)
  have l0 := le_szGainGraph v0 1048576 (by omega)
  by_cases g0 : (f_szGainGraph v0 1048576) < 0
  · refine path_ok mixed Try.func6 hc (p_FnExactIsGainSparse_0 v0) ?_
    simp only [All]
    repeat' (first | exact trivial | with_reducible apply And.intro)
    all_goals (first | exact aG _ | exact aP _ _ | exact aA _ _ | exact aE _ | omega | rfl | (intros; first | assumption | exact True.intro | rfl | exact absurd (show false = true by assumption) Bool.false_ne_true | ((repeat' (first | assumption | apply anda | apply notf)); done)) | (exact con_szGainGraph v0 k0 _ (by omega) (by omega)) | (simp; omega))
  have hs0 := sm_szGainGraph v0 1048576 (by omega) (by omega) g0
  refine path_ok mixed Try.func6 hc (p_FnExactIsGainSparse_e v0) ?_
  simp only [All]
  repeat' (first | exact trivial | with_reducible apply And.intro)
  all_goals (first | exact aG _ | exact aP _ _ | exact aA _ _ | exact aE _ | omega | rfl | (intros; first | assumption | exact True.intro | rfl | exact absurd (show false = true by assumption) Bool.false_ne_true | ((repeat' (first | assumption | apply anda | apply notf)); done)) | (exact con_szGainGraph v0 k0 _ (by omega) (by omega)) | (exact con_toGainGraph v0 hs0) | (exact con_IsGainSparse_s v0 hs0) | (exact con_IsGainSparse_i v0 hs0) | (exact con_eqGainGraph v0 hs0) | (simp; try omega))
end Go.Proofs.Ytffnfeefjdmifaa.Mach
namespace Go.Proofs.Ytffnfeefjdmifaa.Mach
open Go
set_option linter.unusedVariables false
set_option linter.unusedSimpArgs false
theorem p_FnExactGainFreedom_0 (v0 : T_GainGraph) :
    pathOb Try.prog Try.f8 0 [.reg [oT, oT], .reg [oT], .reg [oT, oT, ⟨true, (some ⟨[], [], [], 1, [], .p (.int .i64 (f_szGainGraph v0 1048576))⟩), none⟩, oT], .reg [oT, oT], .dec true, .reg [oT]] [.code (bodyOf Try.f8)] (start Try.f8 [] 0 [.agg [.p (.int .i64 v0.1), .p (.seq true 4 v0.2.1.1 (fun i => [.int .i64 ((v0.2.1.2 i).1), .int .i64 ((v0.2.1.2 i).2.1), .int .i64 ((v0.2.1.2 i).2.2.1), .int .i64 ((v0.2.1.2 i).2.2.2.1)]))]]) [] 1 [] (.p (.bool true)) =
    some [((0 : Nat) < 1),
  Con Try.prog 25 0 [] [.agg [.p (.int .i64 v0.1), .p (.seq true 4 v0.2.1.1 (fun i => [.int .i64 ((v0.2.1.2 i).1), .int .i64 ((v0.2.1.2 i).2.1), .int .i64 ((v0.2.1.2 i).2.2.1), .int .i64 ((v0.2.1.2 i).2.2.2.1)]))], .p (.int .i64 1048576)] [] (.p (.int .i64 (f_szGainGraph v0 1048576))),
  ((decide (f_szGainGraph v0 1048576 < 0)) = true),
  (true = true)] := by kernel_rfl
theorem p_FnExactGainFreedom_e (v0 : T_GainGraph) :
    pathOb Try.prog Try.f8 0 [.reg [oT, oT], .reg [oT], .reg [oT, oT, ⟨true, (some ⟨[], [], [], 1, [], .p (.int .i64 (f_szGainGraph v0 1048576))⟩), none⟩, oT], .reg [oT, oT], .dec false, .reg [oT, ⟨true, (some ⟨[], [], [], 1, [(0, ⟨false, 4, v0.2.1.1, fun i => [.p (.int .i64 ((v0.2.1.2 i).1)), .p (.int .i64 ((v0.2.1.2 i).2.1)), .p (.int .i64 ((v0.2.1.2 i).2.2.1)), .p (.int .i64 ((v0.2.1.2 i).2.2.2.1))]⟩)], .agg [.p (.int .i64 v0.1), .ar 4 0 0 v0.2.1.1]⟩), none⟩, ⟨true, (some ⟨[], [], [], 1, [], .p (.int .i64 (gfF v0))⟩), none⟩, oT], .reg [oT, ⟨true, (some ⟨[], [], [], 1, [(0, ⟨false, 4, v0.2.1.1, fun i => [.p (.int .i64 ((v0.2.1.2 i).1)), .p (.int .i64 ((v0.2.1.2 i).2.1)), .p (.int .i64 ((v0.2.1.2 i).2.2.1)), .p (.int .i64 ((v0.2.1.2 i).2.2.2.1))]⟩)], .agg [.p (.int .i64 v0.1), .ar 4 0 0 v0.2.1.1]⟩), none⟩, oT, oT], .reg [oT, ⟨true, (some ⟨[], [], [], 1, [], .p (.int .i64 (gfF v0))⟩), none⟩, oT], .reg [oT, oT, oT], .dec false, .reg [oT, oT, ⟨true, (some ⟨[], [], [], 1, [(0, ⟨false, 4, v0.2.1.1, fun i => [.p (.int .i64 ((v0.2.1.2 i).1)), .p (.int .i64 ((v0.2.1.2 i).2.1)), .p (.int .i64 ((v0.2.1.2 i).2.2.1)), .p (.int .i64 ((v0.2.1.2 i).2.2.2.1))]⟩)], .agg [.p (.int .i64 v0.1), .ar 4 0 0 v0.2.1.1]⟩), none⟩, ⟨true, (some ⟨[], [], [], 1, [], .p (.bool true)⟩), none⟩, oT], .dec false, .reg [oT]] [.code (bodyOf Try.f8)] (start Try.f8 [] 0 [.agg [.p (.int .i64 v0.1), .p (.seq true 4 v0.2.1.1 (fun i => [.int .i64 ((v0.2.1.2 i).1), .int .i64 ((v0.2.1.2 i).2.1), .int .i64 ((v0.2.1.2 i).2.2.1), .int .i64 ((v0.2.1.2 i).2.2.2.1)]))]]) [] 1 [] (.p (.bool true)) =
    some [((0 : Nat) < 1),
  Con Try.prog 25 0 [] [.agg [.p (.int .i64 v0.1), .p (.seq true 4 v0.2.1.1 (fun i => [.int .i64 ((v0.2.1.2 i).1), .int .i64 ((v0.2.1.2 i).2.1), .int .i64 ((v0.2.1.2 i).2.2.1), .int .i64 ((v0.2.1.2 i).2.2.2.1)]))], .p (.int .i64 1048576)] [] (.p (.int .i64 (f_szGainGraph v0 1048576))),
  ((decide (f_szGainGraph v0 1048576 < 0)) = false),
  ((0 : Nat) < 1),
  Con Try.prog 27 0 [] [.agg [.p (.int .i64 v0.1), .p (.seq true 4 v0.2.1.1 (fun i => [.int .i64 ((v0.2.1.2 i).1), .int .i64 ((v0.2.1.2 i).2.1), .int .i64 ((v0.2.1.2 i).2.2.1), .int .i64 ((v0.2.1.2 i).2.2.2.1)]))]] [(0, ⟨false, 4, v0.2.1.1, (fun i => [.p (.int .i64 ((v0.2.1.2 i).1)), .p (.int .i64 ((v0.2.1.2 i).2.1)), .p (.int .i64 ((v0.2.1.2 i).2.2.1)), .p (.int .i64 ((v0.2.1.2 i).2.2.2.1))])⟩)] (.agg [.p (.int .i64 v0.1), .ar 4 0 0 v0.2.1.1]),
  (AN 4),
  ((v0.2.1.1 : Nat) ≤ v0.2.1.1),
  Con Try.prog 35 0 [] [.agg [.p (.int .i64 v0.1), .p (.seq true 4 v0.2.1.1 (fun i => [.int .i64 ((v0.2.1.2 i).1), .int .i64 ((v0.2.1.2 i).2.1), .int .i64 ((v0.2.1.2 i).2.2.1), .int .i64 ((v0.2.1.2 i).2.2.2.1)]))]] [] (.p (.int .i64 (gfF v0))),
  ((0 : Nat) < 1),
  Con Try.prog 27 0 [] [.agg [.p (.int .i64 v0.1), .p (.seq true 4 v0.2.1.1 (fun i => [.int .i64 ((v0.2.1.2 i).1), .int .i64 ((v0.2.1.2 i).2.1), .int .i64 ((v0.2.1.2 i).2.2.1), .int .i64 ((v0.2.1.2 i).2.2.2.1)]))]] [(0, ⟨false, 4, v0.2.1.1, (fun i => [.p (.int .i64 ((v0.2.1.2 i).1)), .p (.int .i64 ((v0.2.1.2 i).2.1)), .p (.int .i64 ((v0.2.1.2 i).2.2.1)), .p (.int .i64 ((v0.2.1.2 i).2.2.2.1))])⟩)] (.agg [.p (.int .i64 v0.1), .ar 4 0 0 v0.2.1.1]),
  ((0 : Nat) < 1),
  ((true = true) → (AN 1)),
  ((0 : Nat) < 1),
  (AN 4),
  ((v0.2.1.1 : Nat) ≤ v0.2.1.1),
  Con Try.prog 36 0 [] [.agg [.p (.int .i64 v0.1), .p (.seq true 4 v0.2.1.1 (fun i => [.int .i64 ((v0.2.1.2 i).1), .int .i64 ((v0.2.1.2 i).2.1), .int .i64 ((v0.2.1.2 i).2.2.1), .int .i64 ((v0.2.1.2 i).2.2.2.1)]))]] [] (.p (.int .i64 (gfF v0))),
  ((gfF v0 != gfF v0) = false),
  ((0 : Nat) < 1),
  ((0 : Nat) < 1),
  Con Try.prog 27 0 [] [.agg [.p (.int .i64 v0.1), .p (.seq true 4 v0.2.1.1 (fun i => [.int .i64 ((v0.2.1.2 i).1), .int .i64 ((v0.2.1.2 i).2.1), .int .i64 ((v0.2.1.2 i).2.2.1), .int .i64 ((v0.2.1.2 i).2.2.2.1)]))]] [(0, ⟨false, 4, v0.2.1.1, (fun i => [.p (.int .i64 ((v0.2.1.2 i).1)), .p (.int .i64 ((v0.2.1.2 i).2.1)), .p (.int .i64 ((v0.2.1.2 i).2.2.1)), .p (.int .i64 ((v0.2.1.2 i).2.2.2.1))])⟩)] (.agg [.p (.int .i64 v0.1), .ar 4 0 0 v0.2.1.1]),
  (AN 4),
  ((v0.2.1.1 : Nat) ≤ v0.2.1.1),
  (AN 4),
  ((v0.2.1.1 : Nat) ≤ v0.2.1.1),
  Con Try.prog 29 0 [] [.agg [.p (.int .i64 v0.1), .p (.seq true 4 v0.2.1.1 (fun i => [.int .i64 ((v0.2.1.2 i).1), .int .i64 ((v0.2.1.2 i).2.1), .int .i64 ((v0.2.1.2 i).2.2.1), .int .i64 ((v0.2.1.2 i).2.2.2.1)]))], .agg [.p (.int .i64 v0.1), .p (.seq true 4 v0.2.1.1 (fun i => [.int .i64 ((v0.2.1.2 i).1), .int .i64 ((v0.2.1.2 i).2.1), .int .i64 ((v0.2.1.2 i).2.2.1), .int .i64 ((v0.2.1.2 i).2.2.2.1)]))]] [] (.p (.bool true)),
  ((!true) = false),
  (true = true)] := by kernel_rfl
theorem con_law_FnExactGainFreedom (v0 : T_GainGraph) (k0 : okS s_GainGraph v0) : Con Try.prog 8 0 [] [.agg [.p (.int .i64 v0.1), .p (.seq true 4 v0.2.1.1 (fun i => [.int .i64 ((v0.2.1.2 i).1), .int .i64 ((v0.2.1.2 i).2.1), .int .i64 ((v0.2.1.2 i).2.2.1), .int .i64 ((v0.2.1.2 i).2.2.2.1)]))]] [] (.p (.bool true)) := by
  refine con_start Try.func8 rfl (by kernel_rfl) rfl (fun c hc => ?_)
  have l0 := le_szGainGraph v0 1048576 (by omega)
  by_cases g0 : (f_szGainGraph v0 1048576) < 0
  · refine path_ok mixed Try.func8 hc (p_FnExactGainFreedom_0 v0) ?_
    simp only [All]
    repeat' (first | exact trivial | with_reducible apply And.intro)
    all_goals (first | exact aG _ | exact aP _ _ | exact aA _ _ | exact aE _ | omega | rfl | (intros; first | assumption | exact True.intro | rfl | exact absurd (show false = true by assumption) Bool.false_ne_true | ((repeat' (first | assumption | apply anda | apply notf)); done)) | (exact con_szGainGraph v0 k0 _ (by omega) (by omega)) | (simp; omega))
  have hs0 := sm_szGainGraph v0 1048576 (by omega) (by omega) g0
  refine path_ok mixed Try.func8 hc (p_FnExactGainFreedom_e v0) ?_
  simp only [All]
  repeat' (first | exact trivial | with_reducible apply And.intro)
  all_goals (first | exact aG _ | exact aP _ _ | exact aA _ _ | exact aE _ | omega | rfl | (intros; first | assumption | exact True.intro | rfl | exact absurd (show false = true by assumption) Bool.false_ne_true | ((repeat' (first | assumption | apply anda | apply notf)); done)) | (exact con_szGainGraph v0 k0 _ (by omega) (by omega)) | (exact con_toGainGraph v0 hs0) | (exact con_GainFreedom_s v0 hs0) | (exact con_GainFreedom_i v0 hs0) | (exact con_eqGainGraph v0 hs0) | (simp; try omega))
end Go.Proofs.Ytffnfeefjdmifaa.Mach
