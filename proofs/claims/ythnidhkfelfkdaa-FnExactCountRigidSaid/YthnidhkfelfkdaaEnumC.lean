/- All minimally rigid graphs listed: both programs list the same. Conditions: as each theorem says. -/
import Derived.Test.YthnidhkfelfkdaaEnumB
namespace Go.Proofs.Ythnidhkfelfkdaa.Mach
open Go
set_option linter.unusedVariables false
set_option linter.unusedSimpArgs false

noncomputable def gF (n : Nat) (M : Nat) (A : Nat → T_Bar) : Nat → Nat → Nat × (Nat → T_BarS) → Nat × (Nat → T_BarS)
  | _, 0, x => x
  | w, d + 1, x => gF n M A (w + 1) d (bif (bif ((bF w A 0 M zB).1 : Int) == maxI n then mrG ((n : Int), bF w A 0 M zB, ()) else false) then (x.1 + 1, snocB x.1 x.2 (bF w A 0 M zB)) else x)
def zG : Nat × (Nat → T_BarS) := (0, fun _ => (0, fun _ => (0, 0, ())))
noncomputable def gD (n : Nat) : Nat × (Nat → T_BarS) := gF n (cgD n).1 (cgD n).2 0 (2 ^ (cgD n).1) zG
noncomputable def rgG (n : Int) : Nat × (Nat → T_BarS) := bif inB n 1 5 then gD n.toNat else zG

theorem shl_pow (M : Nat) (h : M ≤ 10) : shlI .i64 1 (M : Int) = ((2 ^ M : Nat) : Int) := by
  rcases M with _ | _ | _ | _ | _ | _ | _ | _ | _ | _ | _ | M
  all_goals first | rfl | omega

theorem pow_le (M : Nat) (h : M ≤ 10) : 2 ^ M ≤ 1024 := Nat.pow_le_pow_right (by omega) h

theorem sm_bF (n : Nat) (w : Int) (A : Nat → T_Bar) (M : Nat) (hM : M ≤ 10) : smS s_Graph ((n : Int), bF w A 0 M zB, ()) := by
  have h1 := sF_n w A M 0 zB (0, fun _ => 0) rfl
  have h2 := sF_le w M 0 (0, fun _ => 0)
  simp only at h2
  exact ⟨trivial, ⟨by show (bF w A 0 M zB).1 ≤ 1048576; omega, fun i hi => by simp [smS, smL]⟩, trivial⟩

theorem con_Choose (n : Nat) (tg' : Int) (M : Nat) (A : Nat → T_Bar) (hM : M ≤ 10) (ht : tg' = maxI n) :
    Con Try.prog 44 0 [] [brL A M, .p (.int .i64 n), .p (.int .i64 tg')] [(0, gsOb n (gF n M A 0 (2 ^ M) zG).1 (gF n M A 0 (2 ^ M) zG).2)] (.ar 2 0 0 (gF n M A 0 (2 ^ M) zG).1) := by
  refine con_start Try.func44 rfl (by kernel_rfl) rfl (fun c hc => ?_)
  have hsh := shl_pow M hM
  have hpw := pow_le M hM
  generalize hR : gF n M A 0 (2 ^ M) zG = R
  have li : ∀ w : Nat, ∀ d (i : Nat) k h cc G, i + d = M → k ≤ i → cc ≤ w → w < 2 ^ M → bF w A i d (k, h) = bF w A 0 M zB →
      (∀ cc' G', (bif (bif ((bF w A 0 M zB).1 : Int) == maxI n then mrG ((n : Int), bF w A 0 M zB, ()) else false) then (cc + 1, snocB cc G (bF w A 0 M zB)) else (cc, G)) = (cc', G') →
        Run Try.prog c 44 [.code (cAt (bodyOf Try.f44) [1, 1, 0, 1, 0, 0]), .inLoop (cAt (bodyOf Try.f44) [1, 1, 0, 1, 0, 0]), .inBlock 0, .code (cAt (bodyOf Try.f44) [1, 1, 1])] (SRs n tg' M A (w + 1) cc' G') (Post c [(0, gsOb n R.1 R.2)] (.ar 2 0 0 R.1))) →
      Run Try.prog c 44 [.code (cAt (bodyOf Try.f44) [1, 1, 0, 1, 0, 0, 1, 0, 0, 1, 0, 1, 0, 0]), .inLoop (cAt (bodyOf Try.f44) [1, 1, 0, 1, 0, 0, 1, 0, 0, 1, 0, 1, 0, 0]), .inBlock 2, .code (cAt (bodyOf Try.f44) [1, 1, 0, 1, 0, 0, 1, 0, 0, 1, 1]), .inBlock 1, .code (cAt (bodyOf Try.f44) [1, 1, 0, 1, 0, 0, 1, 1]), .inLoop (cAt (bodyOf Try.f44) [1, 1, 0, 1, 0, 0]), .inBlock 0, .code (cAt (bodyOf Try.f44) [1, 1, 1])] (SRs1 n tg' M A w cc G i k h) (Post c [(0, gsOb n R.1 R.2)] (.ar 2 0 0 R.1)) := by
    intro w d
    induction d with
    | zero =>
      intro i k h cc G hi hk hcc hw he hn
      have hd : decide ((i : Int) < (M : Int)) = false := by simp; omega
      rw [bF] at he
      have hmr := con_IsMin_s ((n : Int), bF w A 0 M zB, ()) (sm_bF n w A M hM)
      rw [← he] at hmr hn
      cases hb : (bif ((k : Int) == maxI n) then mrG ((n : Int), (k, h), ()) else false) with
      | true =>
        have hb' : (bif ((k : Int) == tg') then mrG ((n : Int), (k, h), ()) else false) = true := by rw [ht]; exact hb
        rw [show (bif (((k, h) : T_BarS).1 : Int) == maxI n then mrG ((n : Int), (k, h), ()) else false) = true from hb] at hn
        refine piece_ok mixed hc (eC3t n tg' M A w cc G i k h (mrG ((n : Int), (k, h), ()))) ?_ (hn _ _ rfl)
        simp only [All]
        repeat' (first | exact trivial | with_reducible apply And.intro)
        all_goals (first | omega | rfl | (intros; first | assumption | exact True.intro | rfl | exact absurd (show false = true by assumption) Bool.false_ne_true | ((repeat' (first | assumption | apply anda | apply notf)); done)) | (exact hd) | (exact hb') | (intro _; exact hmr) | (intro h9; exact h9) | (simp; done) | (intro j hj; by_cases h' : j < cc <;> simp [h', snocB, cvtL, cvt, lendP, cellP, tab, idx, List.lookup, brOb, tg, tru, All]))
      | false =>
        have hb' : (bif ((k : Int) == tg') then mrG ((n : Int), (k, h), ()) else false) = false := by rw [ht]; exact hb
        rw [show (bif (((k, h) : T_BarS).1 : Int) == maxI n then mrG ((n : Int), (k, h), ()) else false) = false from hb] at hn
        refine piece_ok mixed hc (eC3f n tg' M A w cc G i k h (mrG ((n : Int), (k, h), ()))) ?_ (hn _ _ rfl)
        simp only [All]
        repeat' (first | exact trivial | with_reducible apply And.intro)
        all_goals (first | omega | rfl | (intros; first | assumption | exact True.intro | rfl | exact absurd (show false = true by assumption) Bool.false_ne_true | ((repeat' (first | assumption | apply anda | apply notf)); done)) | (exact hd) | (exact hb') | (intro _; exact hmr) | (intro h9; exact h9) | (simp; done) | (intro j hj; simp [All]))
    | succ d ih =>
      intro i k h cc G hi hk hcc hw he hn
      have hd : decide ((i : Int) < (M : Int)) = true := by simp; omega
      rw [bF] at he
      cases hb : btI w i with
      | true =>
        rw [hb] at he
        have hb' : (bitI BinOp.and IntKind.i64 (shrI IntKind.i64 (w : Int) (i : Int)) 1 == 1) = true := hb
        refine piece_ok mixed hc (eC2t n tg' M A w cc G i k h) ?_ (ih (i + 1) (k + 1) _ cc G (by omega) (by omega) hcc hw he hn)
        simp only [All]
        repeat' (first | exact trivial | with_reducible apply And.intro)
        all_goals (first | omega | rfl | (intros; first | assumption | exact True.intro | rfl | exact absurd (show false = true by assumption) Bool.false_ne_true | ((repeat' (first | assumption | apply anda | apply notf)); done)) | (exact hd) | (exact hb') | (intro j hj; by_cases h' : j < k <;> simp [h', snoc, cvtL, cvt, tg, tru, All]))
      | false =>
        rw [hb] at he
        have hb' : (bitI BinOp.and IntKind.i64 (shrI IntKind.i64 (w : Int) (i : Int)) 1 == 1) = false := hb
        refine piece_ok mixed hc (eC2f n tg' M A w cc G i k h) ?_ (ih (i + 1) k _ cc G (by omega) (by omega) hcc hw he hn)
        simp only [All]
        repeat' (first | exact trivial | with_reducible apply And.intro)
        all_goals (first | omega | rfl | (intros; first | assumption | exact True.intro | rfl | exact absurd (show false = true by assumption) Bool.false_ne_true | ((repeat' (first | assumption | apply anda | apply notf)); done)) | (exact hd) | (exact hb') | (intro j hj; simp [All]))
  have hnx : ∀ (w cc : Nat) (G : Nat → T_BarS) {d : Nat}, w + (d + 1) = 2 ^ M → cc ≤ w → gF n M A (w + 1) d (bif (bif ((bF w A 0 M zB).1 : Int) == maxI n then mrG ((n : Int), bF w A 0 M zB, ()) else false) then (cc + 1, snocB cc G (bF w A 0 M zB)) else (cc, G)) = R →
      (∀ w cc G, w + d = 2 ^ M → cc ≤ w → gF n M A w d (cc, G) = R →
        Run Try.prog c 44 [.code (cAt (bodyOf Try.f44) [1, 1, 0, 1, 0, 0]), .inLoop (cAt (bodyOf Try.f44) [1, 1, 0, 1, 0, 0]), .inBlock 0, .code (cAt (bodyOf Try.f44) [1, 1, 1])] (SRs n tg' M A w cc G) (Post c [(0, gsOb n R.1 R.2)] (.ar 2 0 0 R.1))) →
      ∀ cc' G', (bif (bif ((bF w A 0 M zB).1 : Int) == maxI n then mrG ((n : Int), bF w A 0 M zB, ()) else false) then (cc + 1, snocB cc G (bF w A 0 M zB)) else (cc, G)) = (cc', G') →
        Run Try.prog c 44 [.code (cAt (bodyOf Try.f44) [1, 1, 0, 1, 0, 0]), .inLoop (cAt (bodyOf Try.f44) [1, 1, 0, 1, 0, 0]), .inBlock 0, .code (cAt (bodyOf Try.f44) [1, 1, 1])] (SRs n tg' M A (w + 1) cc' G') (Post c [(0, gsOb n R.1 R.2)] (.ar 2 0 0 R.1)) := by
    intro w cc G d hw hcc he ih cc' G' h2
    refine ih (w + 1) cc' G' (by omega) ?_ ?_
    · generalize (bif ((bF w A 0 M zB).1 : Int) == maxI n then mrG ((n : Int), bF w A 0 M zB, ()) else false) = b at h2
      cases b
      · cases h2; omega
      · cases h2; omega
    · rw [← h2]; exact he
  have lo : ∀ d w cc G, w + d = 2 ^ M → cc ≤ w → gF n M A w d (cc, G) = R →
      Run Try.prog c 44 [.code (cAt (bodyOf Try.f44) [1, 1, 0, 1, 0, 0]), .inLoop (cAt (bodyOf Try.f44) [1, 1, 0, 1, 0, 0]), .inBlock 0, .code (cAt (bodyOf Try.f44) [1, 1, 1])] (SRs n tg' M A w cc G) (Post c [(0, gsOb n R.1 R.2)] (.ar 2 0 0 R.1)) := by
    intro d
    induction d with
    | zero =>
      intro w cc G hw hcc he
      have hd : decide ((w : Int) < shlI .i64 1 (M : Int)) = false := by rw [hsh]; exact decide_eq_false (by omega)
      rw [← he]
      refine path_ok mixed Try.func44 hc (eCe n tg' M A w cc G) ?_
      simp only [All]
      repeat' (first | exact trivial | with_reducible apply And.intro)
      all_goals (first | omega | rfl | (intros; first | assumption | exact True.intro | rfl | exact absurd (show false = true by assumption) Bool.false_ne_true | ((repeat' (first | assumption | apply anda | apply notf)); done)) | (exact hd) | (intro j hj; simp [All]))
    | succ d ih =>
      intro w cc G hw hcc he
      have hd : decide ((w : Int) < shlI .i64 1 (M : Int)) = true := by rw [hsh]; exact decide_eq_true (by omega)
      rw [gF] at he
      refine piece_ok mixed hc (eC1 n tg' M A w cc G) ?_ (li w M 0 0 _ cc G (by omega) (by omega) hcc (by omega) rfl (hnx w cc G hw hcc he ih))
      simp only [All]
      repeat' (first | exact trivial | with_reducible apply And.intro)
      all_goals (first | omega | rfl | (intros; first | assumption | exact True.intro | rfl | exact absurd (show false = true by assumption) Bool.false_ne_true | ((repeat' (first | assumption | apply anda | apply notf)); done)) | (exact hd) | (intro j hj; simp [All]; done) | (intro j hj; exact absurd hj (Nat.not_lt_zero _)))
  refine piece_ok mixed hc (eCz n tg' M A) ?_ (lo (2 ^ M) 0 0 _ (by omega) (by omega) hR)
  simp only [All]
  repeat' (first | exact trivial | with_reducible apply And.intro)
  all_goals (first | omega | rfl | (intros; first | assumption | exact True.intro | rfl | exact absurd (show false = true by assumption) Bool.false_ne_true | ((repeat' (first | assumption | apply anda | apply notf)); done)) | (simp; done) | (intro j hj; exact absurd hj (Nat.not_lt_zero _)))

theorem con_RigidGraphs_s (n : Int) : Con Try.prog 22 0 [] [.p (.int .i64 n)] [(0, gsOb n (rgG n).1 (rgG n).2)] (.tup [.ar 2 0 0 (rgG n).1, .p (.bool (inB n 1 5))]) := by
  have hin := con_l1In n 1 5
  cases hb : inB n 1 5 with
  | false =>
    rw [hb] at hin
    rw [show rgG n = zG by rw [rgG, hb]; rfl]
    refine con_start Try.func22 rfl (by kernel_rfl) rfl (fun c hc => ?_)
    refine path_ok mixed Try.func22 hc (eDy n) ?_
    simp only [All]
    repeat' (first | exact trivial | with_reducible apply And.intro)
    all_goals (first | omega | rfl | (intros; first | assumption | exact True.intro | rfl | exact absurd (show false = true by assumption) Bool.false_ne_true | ((repeat' (first | assumption | apply anda | apply notf)); done)) | (exact hin) | (simp; done) | (intro j hj; exact absurd hj (Nat.not_lt_zero _)))
  | true =>
    rw [hb] at hin
    have h15 : 1 ≤ n ∧ n ≤ 5 := by simpa [inB] using hb
    obtain ⟨m, rfl⟩ : ∃ m : Nat, n = (m : Int) := ⟨n.toNat, by omega⟩
    rw [show rgG (m : Int) = gD m by rw [rgG, hb]; rfl]
    have hcg := con_Complete_s m (by omega) (by omega)
    have hM := cgD_le m (by omega)
    have hch := con_Choose m (maxI m) (cgD m).1 (cgD m).2 hM rfl
    refine con_start Try.func22 rfl (by kernel_rfl) rfl (fun c hc => ?_)
    refine path_ok mixed Try.func22 hc (eDz m (cgD m).1 (cgD m).2 (gD m).1 (gD m).2) ?_
    simp only [All]
    repeat' (first | exact trivial | with_reducible apply And.intro)
    all_goals (first | omega | rfl | (intros; first | assumption | exact True.intro | rfl | exact absurd (show false = true by assumption) Bool.false_ne_true | ((repeat' (first | assumption | apply anda | apply notf)); done)) | (exact hin) | (exact hcg) | (exact hch) | (simp; done) | (intro j hj; simp [All]))

theorem con_RigidGraphs_i (n : Int) : Con Try.prog 23 0 [] [.p (.int .i64 n)] [(0, gsOb n (rgG n).1 (rgG n).2)] (.tup [.ar 2 0 0 (rgG n).1, .p (.bool (inB n 1 5))]) := by
  have hin := con_within n 1 5
  cases hb : inB n 1 5 with
  | false =>
    rw [hb] at hin
    rw [show rgG n = zG by rw [rgG, hb]; rfl]
    refine con_start Try.func23 rfl (by kernel_rfl) rfl (fun c hc => ?_)
    refine path_ok mixed Try.func23 hc (eIy n) ?_
    simp only [All]
    repeat' (first | exact trivial | with_reducible apply And.intro)
    all_goals (first | omega | rfl | (intros; first | assumption | exact True.intro | rfl | exact absurd (show false = true by assumption) Bool.false_ne_true | ((repeat' (first | assumption | apply anda | apply notf)); done)) | (exact hin) | (simp; done) | (intro j hj; exact absurd hj (Nat.not_lt_zero _)))
  | true =>
    rw [hb] at hin
    have h15 : 1 ≤ n ∧ n ≤ 5 := by simpa [inB] using hb
    obtain ⟨m, rfl⟩ : ∃ m : Nat, n = (m : Int) := ⟨n.toNat, by omega⟩
    rw [show rgG (m : Int) = gD m by rw [rgG, hb]; rfl]
    have hcg := con_Complete_i m (by omega) (by omega)
    have hM := cgD_le m (by omega)
    unfold gD
    generalize (cgD m).1 = M at hcg hM ⊢
    generalize (cgD m).2 = A at hcg ⊢
    have hsh := shl_pow M hM
    have hpw := pow_le M hM
    refine con_start Try.func23 rfl (by kernel_rfl) rfl (fun c hc => ?_)
    generalize hR : gF m M A 0 (2 ^ M) zG = R
    have lo : ∀ d w cc G, w + d = 2 ^ M → cc ≤ w → gF m M A w d (cc, G) = R →
        Run Try.prog c 23 [.code (cAt (bodyOf Try.f23) [1, 1, 1, 1, 0, 1, 0, 0]), .inLoop (cAt (bodyOf Try.f23) [1, 1, 1, 1, 0, 1, 0, 0]), .inBlock 0, .code (cAt (bodyOf Try.f23) [1, 1, 1, 1, 1])] (SRi m M A w cc G) (Post c [(0, gsOb m R.1 R.2)] (.tup [.ar 2 0 0 R.1, .p (.bool true)])) := by
      intro d
      induction d with
      | zero =>
        intro w cc G hw hcc he
        have hd : decide ((w : Int) < shlI .i64 1 (M : Int)) = false := by rw [hsh]; exact decide_eq_false (by omega)
        rw [← he]
        refine path_ok mixed Try.func23 hc (eIe m M A w cc G) ?_
        simp only [All]
        repeat' (first | exact trivial | with_reducible apply And.intro)
        all_goals (first | omega | rfl | (intros; first | assumption | exact True.intro | rfl | exact absurd (show false = true by assumption) Bool.false_ne_true | ((repeat' (first | assumption | apply anda | apply notf)); done)) | (exact hd) | (intro j hj; simp [All]))
      | succ d ih =>
        intro w cc G hw hcc he
        have hd : decide ((w : Int) < shlI .i64 1 (M : Int)) = true := by rw [hsh]; exact decide_eq_true (by omega)
        rw [gF] at he
        have hset := con_setOf w M (by omega)
        have hSn := sF_n w A M 0 zB (0, fun _ => 0) rfl
        have hSl := sF_le w M 0 (0, fun _ => 0)
        have hSh := fun y => has_sF w M 0 (0, fun _ => 0) y
        generalize sF w 0 M (0, fun _ => 0) = S at hset hSn hSl hSh
        have hob := con_OnlyBars m M A S (by omega) (by simp only at hSl; omega)
        rw [obF_bF w S A M 0 zB (fun j h1 h2 => by rw [hSh j, decide_eq_true (by omega)]; simp [hasI])] at hob
        have hmr := con_IsMin_i ((m : Int), bF w A 0 M zB, ()) (sm_bF m w A M hM)
        generalize bF w A 0 M zB = x at hob hmr he hSn
        rw [hSn] at he
        cases h1 : ((S.1 : Int) == maxI m) with
        | false =>
          rw [h1] at he
          have h1' : ((S.1 : Int) != maxI m) = true := by rw [bne, h1]; rfl
          refine piece_ok mixed hc (eI1 m M A w cc G S) ?_ (ih (w + 1) cc G (by omega) (by omega) he)
          simp only [All]
          repeat' (first | exact trivial | with_reducible apply And.intro)
          all_goals (first | omega | rfl | (intros; first | assumption | exact True.intro | rfl | exact absurd (show false = true by assumption) Bool.false_ne_true | ((repeat' (first | assumption | apply anda | apply notf)); done)) | (exact hd) | (exact hset) | (exact h1') | (simp; done) | (intro j hj; simp [All]))
        | true =>
          rw [h1] at he
          have h1' : ((S.1 : Int) != maxI m) = false := by rw [bne, h1]; rfl
          cases h2 : mrG ((m : Int), x, ()) with
          | true =>
            rw [h2] at he hmr
            refine piece_ok mixed hc (eI2 m M A w cc G S x) ?_ (ih (w + 1) (cc + 1) _ (by omega) (by omega) he)
            simp only [All]
            repeat' (first | exact trivial | with_reducible apply And.intro)
            all_goals (first | omega | rfl | (intros; first | assumption | exact True.intro | rfl | exact absurd (show false = true by assumption) Bool.false_ne_true | ((repeat' (first | assumption | apply anda | apply notf)); done)) | (exact hd) | (exact hset) | (exact h1') | (exact hob) | (exact hmr) | (simp; done) | (intro j hj; by_cases h' : j < cc <;> simp [h', snocB, cvtL, cvt, lendP, cellP, tab, idx, List.lookup, brOb, tg, tru, All]; done) | (intro j hj; simp [All]))
          | false =>
            rw [h2] at he hmr
            refine piece_ok mixed hc (eI3 m M A w cc G S x) ?_ (ih (w + 1) cc G (by omega) (by omega) he)
            simp only [All]
            repeat' (first | exact trivial | with_reducible apply And.intro)
            all_goals (first | omega | rfl | (intros; first | assumption | exact True.intro | rfl | exact absurd (show false = true by assumption) Bool.false_ne_true | ((repeat' (first | assumption | apply anda | apply notf)); done)) | (exact hd) | (exact hset) | (exact h1') | (exact hob) | (exact hmr) | (simp; done) | (intro j hj; simp [All]))
    refine piece_ok mixed hc (eIz m M A) ?_ (lo (2 ^ M) 0 0 _ (by omega) (by omega) hR)
    simp only [All]
    repeat' (first | exact trivial | with_reducible apply And.intro)
    all_goals (first | omega | rfl | (intros; first | assumption | exact True.intro | rfl | exact absurd (show false = true by assumption) Bool.false_ne_true | ((repeat' (first | assumption | apply anda | apply notf)); done)) | (exact hin) | (exact hcg) | rfl | (simp; done) | (intro j hj; exact absurd hj (Nat.not_lt_zero _)) | (intro j hj; simp [All]))

noncomputable def crG (n : Int) : Int := bif inB n 1 5 then ((rgG n).1 : Int) else -1

theorem con_CountRigid_s (n : Int) : Con Try.prog 9 0 [] [.p (.int .i64 n)] [] (.p (.int .i64 (crG n))) := by
  have h := con_RigidGraphs_s n
  refine con_start Try.func9 rfl (by kernel_rfl) rfl (fun c hc => ?_)
  unfold crG
  cases hb : inB n 1 5 with
  | true =>
    rw [hb] at h
    refine path_ok mixed Try.func9 hc (eNt_s n (rgG n).1 (rgG n).2) ?_
    simp only [All]
    repeat' (first | exact trivial | with_reducible apply And.intro)
    all_goals (first | omega | rfl | (intros; first | assumption | exact True.intro | rfl | exact absurd (show false = true by assumption) Bool.false_ne_true | ((repeat' (first | assumption | apply anda | apply notf)); done)) | (exact h) | rfl)
  | false =>
    rw [hb] at h
    refine path_ok mixed Try.func9 hc (eNf_s n (rgG n).1 (rgG n).2) ?_
    simp only [All]
    repeat' (first | exact trivial | with_reducible apply And.intro)
    all_goals (first | omega | rfl | (intros; first | assumption | exact True.intro | rfl | exact absurd (show false = true by assumption) Bool.false_ne_true | ((repeat' (first | assumption | apply anda | apply notf)); done)) | (exact h) | rfl)

theorem con_CountRigid_i (n : Int) : Con Try.prog 10 0 [] [.p (.int .i64 n)] [] (.p (.int .i64 (crG n))) := by
  have h := con_RigidGraphs_i n
  refine con_start Try.func10 rfl (by kernel_rfl) rfl (fun c hc => ?_)
  unfold crG
  cases hb : inB n 1 5 with
  | true =>
    rw [hb] at h
    refine path_ok mixed Try.func10 hc (eNt_i n (rgG n).1 (rgG n).2) ?_
    simp only [All]
    repeat' (first | exact trivial | with_reducible apply And.intro)
    all_goals (first | omega | rfl | (intros; first | assumption | exact True.intro | rfl | exact absurd (show false = true by assumption) Bool.false_ne_true | ((repeat' (first | assumption | apply anda | apply notf)); done)) | (exact h) | rfl)
  | false =>
    rw [hb] at h
    refine path_ok mixed Try.func10 hc (eNf_i n (rgG n).1 (rgG n).2) ?_
    simp only [All]
    repeat' (first | exact trivial | with_reducible apply And.intro)
    all_goals (first | omega | rfl | (intros; first | assumption | exact True.intro | rfl | exact absurd (show false = true by assumption) Bool.false_ne_true | ((repeat' (first | assumption | apply anda | apply notf)); done)) | (exact h) | rfl)

end Go.Proofs.Ythnidhkfelfkdaa.Mach
