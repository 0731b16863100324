/- What the law Cl needs, part 5 of 5: the abstract machine and the contracts of the functions. Conditions: as each theorem says. -/
import Derived.Test.YtffnfeefjdmifaaClP4
namespace Go.Proofs.Ytffnfeefjdmifaa.Mach
open Go
set_option linter.unusedVariables false
set_option linter.unusedSimpArgs false
def lsF (n : Nat) (ss : List ByteArray) (i : Nat) : ByteArray := ss.getD (rowIx n i) sE
def stA (s : ByteArray) : AV := .p (.str s)
theorem cell_ls : ∀ (ss : List ByteArray) (n i : Nat), rowIx n i < ss.length → cellP true [(List.getD (ss.map stA) (rowIx n i * 1) (.p .any))] 0 = .str (lsF n ss i) := by
  intro ss n i h
  unfold lsF
  rw [Nat.mul_one]
  generalize rowIx n i = k at h ⊢
  rw [List.getD_eq_getElem?_getD, List.getD_eq_getElem?_getD, List.getElem?_map]
  rw [List.getElem?_eq_getElem h]
  rfl
def lsP (n : Nat) (ss : List ByteArray) : AV := .p (.seq true 1 n (fun i => [cellP true [(List.getD (ss.map stA) (rowIx n i * 1) (.p .any))] 0]))
theorem ls_mem (n : Nat) (ss : List ByteArray) (h : ss.length = n) (B : Nat) (hs : ∀ s ∈ ss, s.size ≤ B) : ∀ i, i < n → (lsF n ss i).size ≤ B := by
  intro i hi
  unfold lsF
  rw [rowIx_lt hi]
  have : ss.getD i sE = ss[i] := by rw [List.getD_eq_getElem?_getD, List.getElem?_eq_getElem (by omega)]; rfl
  rw [this]
  exact hs _ (List.getElem_mem _)
theorem con_line_ls (n : Nat) (ss : List ByteArray) (h : ss.length = n) (h3 : n ≤ 1000) (B : Nat) (hB : B ≤ 1099511627776) (hs : ∀ s ∈ ss, s.size ≤ B) :
    Con Try.prog 66 0 [] [lsP n ss] [] (.p (.str (joinB sSp (lsF n ss) n))) := by
  have hc := con_line n (lsF n ss) B (by omega) hB (ls_mem n ss h B hs)
  refine hc.arg_ext ?_
  simp only [lsP, strL, wkL, wk, wkP, beq_self_eq_true, Bool.and_self, if_true, ikEq, List.append_nil, List.cons_append, List.nil_append, All]
  have hcell : ∀ i, i < n → cellP true [(List.getD (ss.map stA) (rowIx n i * 1) (.p .any))] 0 = .str (lsF n ss i) := fun i hi => cell_ls ss n i (by rw [rowIx_lt hi]; omega)
  and_intros <;> first | trivial | omega | (intro i hi; rw [hcell i hi])
theorem con_ifSo_ls (s : ByteArray) (is : Bool) (n : Nat) (ss : List ByteArray) (h : ss.length = n) (h3 : n ≤ 1000) (B : Nat) (hB : B ≤ 1099511627776) (hz : s.size ≤ B) (hs : ∀ s ∈ ss, s.size ≤ B) :
    Con Try.prog 68 0 [] [.p (.str s), .p (.bool is), lsP n ss] [] (.p (.str (soB s is n (lsF n ss)))) := by
  have hc := con_ifSo s is n (lsF n ss) B (by omega) hB hz (ls_mem n ss h B hs)
  refine hc.arg_ext ?_
  simp only [lsP, strL, wkL, wk, wkP, beq_self_eq_true, Bool.and_self, if_true, ikEq, List.append_nil, List.cons_append, List.nil_append, All]
  have hcell : ∀ i, i < n → cellP true [(List.getD (ss.map stA) (rowIx n i * 1) (.p .any))] 0 = .str (lsF n ss i) := fun i hi => cell_ls ss n i (by rw [rowIx_lt hi]; omega)
  and_intros <;> first | trivial | omega | (intro i hi; rw [hcell i hi])
theorem soB_f (s : ByteArray) (n : Nat) (f : Nat → ByteArray) : soB s false n f = s := rfl
theorem soB_1 (s : ByteArray) (f : Nat → ByteArray) : soB s true 1 f = (s ++ sSp) ++ f 0 := by
  show (if 0 < 1 then (sE ++ s) ++ sSp else _) ++ f 0 = _
  rw [if_pos (by omega), sE_app]
theorem soB_2 (s : ByteArray) (f : Nat → ByteArray) : soB s true 2 f = (((s ++ sSp) ++ f 0) ++ sSp) ++ f 1 := by
  show (if 0 < 2 then ((if 0 < 1 then (sE ++ s) ++ sSp else _) ++ f 0) ++ sSp else _) ++ f 1 = _
  rw [if_pos (by omega), if_pos (by omega), sE_app]
theorem join_2 (by_ : ByteArray) (f : Nat → ByteArray) : joinB by_ f 2 = (f 0 ++ by_) ++ f 1 := by
  show (if 0 < 1 then (sE ++ f 0) ++ by_ else _) ++ f 1 = _
  rw [if_pos (by omega), sE_app]
theorem join_3 (by_ : ByteArray) (f : Nat → ByteArray) : joinB by_ f 3 = (((f 0 ++ by_) ++ f 1) ++ by_) ++ f 2 := by
  show (if 0 < 2 then ((if 0 < 1 then (sE ++ f 0) ++ by_ else _) ++ f 1) ++ by_ else _) ++ f 2 = _
  rw [if_pos (by omega), if_pos (by omega), sE_app]
theorem con_Sparse {N nb : Nat} {g : Nat → T_Bar} (hg : isGraphF ((N : Int), (nb, g), ()) = true) (k l : Nat) (hk : 1 ≤ k ∧ k ≤ 3) (hl : l + 1 ≤ 2 * k) {R : T_IntS × Bool} (hR : ovS g nb N k l (2 ^ N - 1) 1 = R) :
    Con Try.prog 69 0 [] [grG g nb N, .p (.int .i64 k), .p (.int .i64 l)] [] (.p (.bool (!R.2))) ∧
    Con Try.prog 60 0 [] [grG g nb N, .p (.int .i64 k), .p (.int .i64 l)] [] (.p (.bool (!R.2))) := by
  obtain ⟨hN, hnb, hok⟩ := graph_in hg
  have hsm : smS s_Graph ((N : Int), (nb, g), ()) := ⟨by simp [smS, smL], ⟨by show nb ≤ 1048576; omega, fun i hi => by simp [smS, smL]⟩, True.intro⟩
  have h1 := con_IsGraph_i ((N : Int), (nb, g), ()) hsm
  have h2 := con_IsGraph_s ((N : Int), (nb, g), ()) hsm
  rw [hg] at h1 h2
  have h3 := con_IsRange_i k l hk hl
  have h4 := con_IsRange_s k l hk hl
  have h5 := con_Over_i hg k l hk hl hR
  have h6 := con_Over_s hg k l hk hl hR
  constructor
  · refine con_start Try.func69 rfl (by kernel_rfl) rfl (fun c hc => ?_)
    refine path_ok mixed Try.func69 hc (wSi g nb N k l R.1.1 R.1.2 R.2) ?_
    simp only [All]
    repeat' (first | exact trivial | with_reducible apply And.intro)
    all_goals (first | exact aG _ | exact aP _ _ | exact aA _ _ | exact aE _ | omega | rfl | (intros; first | assumption | exact True.intro | rfl | exact absurd (show false = true by assumption) Bool.false_ne_true | ((repeat' (first | assumption | apply anda | apply notf)); done)) | (exact h5) | (exact h1) | (intro _; exact h3) | (simp; done))
  · refine con_start Try.func60 rfl (by kernel_rfl) rfl (fun c hc => ?_)
    refine path_ok mixed Try.func60 hc (wSs g nb N k l R.1.1 R.1.2 R.2) ?_
    simp only [All]
    repeat' (first | exact trivial | with_reducible apply And.intro)
    all_goals (first | exact aG _ | exact aP _ _ | exact aA _ _ | exact aE _ | omega | rfl | (intros; first | assumption | exact True.intro | rfl | exact absurd (show false = true by assumption) Bool.false_ne_true | ((repeat' (first | assumption | apply anda | apply notf)); done)) | (exact h6) | (exact h2) | (intro _; exact h4) | (simp; done))
def tiB (nb N k l : Nat) (d : Bool) : Bool := bif !d then (nb : Int) == max 0 ((k : Int) * N - l) else false
theorem con_Tight {N nb : Nat} {g : Nat → T_Bar} (hg : isGraphF ((N : Int), (nb, g), ()) = true) (k l : Nat) (hk : 1 ≤ k ∧ k ≤ 3) (hl : l + 1 ≤ 2 * k) {R : T_IntS × Bool} (hR : ovS g nb N k l (2 ^ N - 1) 1 = R) :
    Con Try.prog 70 0 [] [grG g nb N, .p (.int .i64 k), .p (.int .i64 l)] [] (.p (.bool (tiB nb N k l R.2))) ∧
    Con Try.prog 61 0 [] [grG g nb N, .p (.int .i64 k), .p (.int .i64 l)] [] (.p (.bool (tiB nb N k l R.2))) := by
  obtain ⟨hN, hnb, hok⟩ := graph_in hg
  have hks := ks_le (k := k) (s := N) (by omega) hN.2
  obtain ⟨h1, h2⟩ := con_Sparse hg k l hk hl hR
  have e1 : (if (k : Int) * N - l > 0 then (k : Int) * N - l else 0) = max 0 ((k : Int) * N - l) := by rw [Int.max_def]; split <;> split <;> omega
  constructor
  · refine con_start Try.func70 rfl (by kernel_rfl) rfl (fun c hc => ?_)
    refine path_ok mixed Try.func70 hc (wTi g nb N k l (!R.2)) ?_
    simp only [All]
    repeat' (first | exact trivial | with_reducible apply And.intro)
    all_goals (first | exact aG _ | exact aP _ _ | exact aA _ _ | exact aE _ | omega | rfl | (intros; first | assumption | exact True.intro | rfl | exact absurd (show false = true by assumption) Bool.false_ne_true | ((repeat' (first | assumption | apply anda | apply notf)); done)) | (exact h1) | (intro _; omega) | (simp only [if_true, e1]; try rfl))
  · refine con_start Try.func61 rfl (by kernel_rfl) rfl (fun c hc => ?_)
    refine path_ok mixed Try.func61 hc (wTs g nb N k l (!R.2)) ?_
    simp only [All]
    repeat' (first | exact trivial | with_reducible apply And.intro)
    all_goals (first | exact aG _ | exact aP _ _ | exact aA _ _ | exact aE _ | omega | rfl | (intros; first | assumption | exact True.intro | rfl | exact absurd (show false = true by assumption) Bool.false_ne_true | ((repeat' (first | assumption | apply anda | apply notf)); done)) | (exact h2) | (intro _; omega) | (simp only [if_true, e1]; try rfl))
theorem stD_in (w : Nat) : ∀ i j, j < (stD w i).1 → 0 ≤ (stD w i).2 j ∧ (stD w i).2 j < i
  | 0, j, h => absurd h (Nat.not_lt_zero _)
  | i + 1, j, h => by
    cases hb : btI w i with
    | true =>
      rw [show stD w (i + 1) = ((stD w i).1 + 1, fun s => if s < (stD w i).1 then (stD w i).2 s else i) by simp [stD, hb]] at h ⊢
      by_cases hj : j < (stD w i).1
      · have := stD_in w i j hj
        show 0 ≤ (if j < (stD w i).1 then (stD w i).2 j else (i : Int)) ∧ (if j < (stD w i).1 then (stD w i).2 j else (i : Int)) < _
        rw [if_pos hj]
        omega
      · show 0 ≤ (if j < (stD w i).1 then (stD w i).2 j else (i : Int)) ∧ (if j < (stD w i).1 then (stD w i).2 j else (i : Int)) < _
        rw [if_neg hj]
        omega
    | false =>
      rw [show stD w (i + 1) = stD w i by simp [stD, hb]] at h ⊢
      have := stD_in w i j h
      omega
theorem ovS_in (g : Nat → T_Bar) (nb N k l : Nat) (hN : N ≤ 8) : ∀ d w, (ovS g nb N k l d w).1.1 ≤ 8 ∧ In64 (ovS g nb N k l d w).1
  | 0, w => ⟨Nat.zero_le _, fun i hi => absurd hi (Nat.not_lt_zero _)⟩
  | d + 1, w => by
    rw [ovS]
    split
    · refine ⟨by show (stD w N).1 ≤ 8; have := stD_n w N; omega, fun i hi => ?_⟩
      have := stD_in w N i hi
      show _ ≤ (stD w N).2 i ∧ (stD w N).2 i ≤ _
      omega
    · exact ovS_in g nb N k l hN d (w + 1)
noncomputable def ctI (N nb k l : Nat) (g : Nat → T_Bar) : ByteArray :=
  let R := ovS g nb N k l (2 ^ N - 1) 1
  ((((wsRank ++ fmtI ((accI N k l g nb).length : Nat)) ++ yesB (!R.2) wsSparse) ++ yesB (tiB nb N k l R.2) wsTight) ++ yesB R.2 (wsOver ++ fsB 1 (fun _ => R.1))) ++ (wsRej ++ fmtI ((flt (rjP N k l g nb) nb).1 : Nat))
theorem ws_rank : wsRank = wdRank ++ sSp := rfl
theorem ws_sparse : wsSparse = sSp ++ wdSparse := rfl
theorem ws_tight : wsTight = sSp ++ wdTight := rfl
theorem ws_over : wsOver = (sSp ++ wdOver) ++ sSp := rfl
theorem ws_rej : wsRej = (sSp ++ wdRej) ++ sSp := rfl
theorem cl_eq (fr fs fj : ByteArray) (a b d : Bool) :
    joinB sSp (lsF 3 [soB (soB (soB (joinB sSp (lsF 2 [wdRank, fr]) 2) a 1 (lsF 1 [wdSparse])) b 1 (lsF 1 [wdTight])) d 2 (lsF 2 [wdOver, fs]), wdRej, fj]) 3 =
    ((((wsRank ++ fr) ++ yesB a wsSparse) ++ yesB b wsTight) ++ yesB d (wsOver ++ fs)) ++ (wsRej ++ fj) := by
  rw [join_3, join_2]
  show (((soB (soB (soB ((wdRank ++ sSp) ++ fr) a 1 (lsF 1 [wdSparse])) b 1 (lsF 1 [wdTight])) d 2 (lsF 2 [wdOver, fs]) ++ sSp) ++ wdRej) ++ sSp) ++ fj = _
  have h1 : ∀ s : ByteArray, soB s a 1 (lsF 1 [wdSparse]) = s ++ yesB a wsSparse := by
    intro s
    cases a with
    | false => rw [soB_f]; exact (app_sE s).symm
    | true => rw [soB_1, ws_sparse]; exact ByteArray.append_assoc
  have h2 : ∀ s : ByteArray, soB s b 1 (lsF 1 [wdTight]) = s ++ yesB b wsTight := by
    intro s
    cases b with
    | false => rw [soB_f]; exact (app_sE s).symm
    | true => rw [soB_1, ws_tight]; exact ByteArray.append_assoc
  have h3 : ∀ s : ByteArray, soB s d 2 (lsF 2 [wdOver, fs]) = s ++ yesB d (wsOver ++ fs) := by
    intro s
    cases d with
    | false => rw [soB_f]; exact (app_sE s).symm
    | true =>
      rw [soB_2, ws_over]
      show (((s ++ sSp) ++ wdOver) ++ sSp) ++ fs = s ++ (((sSp ++ wdOver) ++ sSp) ++ fs)
      simp only [ByteArray.append_assoc]
  rw [h1, h2, h3, ws_rank, ws_rej]
  simp only [ByteArray.append_assoc]
theorem yes_size (b : Bool) (s : ByteArray) : (yesB b s).size ≤ s.size := by
  cases b with
  | false => exact Nat.zero_le _
  | true => exact Nat.le_refl _
theorem fs1_size (R : T_IntS) (h : R.1 ≤ 8) : (fsB 1 (fun _ => R)).size ≤ 1000 := by
  have := joinB_size sSp (fun _ => stB R) 178 1 (fun i hi => by have := stB_size R; show (stB R).size ≤ 178; omega)
  rw [show sSp.size = 1 from rfl] at this
  show (joinB sSp (fun _ => stB R) 1).size ≤ 1000
  omega
theorem con_CountLine_i1 {N nb : Nat} {g : Nat → T_Bar} (hg : isGraphF ((N : Int), (nb, g), ()) = true) (k l : Nat) (hk : 1 ≤ k ∧ k ≤ 3) (hl : l + 1 ≤ 2 * k) :
    Con Try.prog 24 0 [] [grG g nb N, .p (.int .i64 k), .p (.int .i64 l)] [] (.p (.str (ctI N nb k l g))) := by
  obtain ⟨hN, hnb, hok⟩ := graph_in hg
  have hin := ovS_in g nb N k l hN.2 (2 ^ N - 1) 1
  have hrk := con_RankOf_i hg k l hk hl
  have hrl : (accI N k l g nb).length ≤ 24 := by have := accI_len N k l g nb; omega
  have hrj := con_Rejected_i hg k l hk hl
  have hfl := flt_n (rjP N k l g nb) nb
  have e := cl_eq (fmtI ((accI N k l g nb).length : Nat)) (fsB 1 (fun _ => (ovS g nb N k l (2 ^ N - 1) 1).1)) (fmtI ((flt (rjP N k l g nb) nb).1 : Nat)) (!(ovS g nb N k l (2 ^ N - 1) 1).2) (tiB nb N k l (ovS g nb N k l (2 ^ N - 1) 1).2) (ovS g nb N k l (2 ^ N - 1) 1).2
  have e2 : ctI N nb k l g = _ := e.symm
  rw [e2]
  clear e e2
  generalize hR : ovS g nb N k l (2 ^ N - 1) 1 = R at hin ⊢
  have hsp := (con_Sparse hg k l hk hl hR).1
  have hti := (con_Tight hg k l hk hl hR).1
  have hov := con_Over_i hg k l hk hl hR
  generalize (accI N k l g nb).length = r at *
  generalize flt (rjP N k l g nb) nb = J at *
  have hf1 := con_FormatInt_i (r : Int) (by omega) (by omega)
  have hf2 := con_FormatInt_i (J.1 : Int) (by omega) (by omega)
  have hs1 := fmt_size (r : Int)
  have hs2 := fmt_size (J.1 : Int)
  have hfs := con_FormatSets_i 1 (fun _ => R.1) (by omega) (fun i hi => ⟨by show R.1.1 ≤ _; omega, hin.2⟩)
  have hs3 := fs1_size R.1 hin.1
  generalize fmtI (r : Int) = fr at *
  generalize fmtI (J.1 : Int) = fj at *
  generalize fsB 1 (fun _ => R.1) = fs at *
  generalize tiB nb N k l R.2 = b at *
  have hl1 := con_line_ls 2 [wdRank, fr] rfl (by omega) 1000000 (by omega) (by
    intro s hs; simp only [List.mem_cons, List.not_mem_nil, or_false] at hs
    rcases hs with rfl | rfl
    · show 4 ≤ _; omega
    · omega)
  have hz1 : (joinB sSp (lsF 2 [wdRank, fr]) 2).size ≤ 1000 := by
    rw [join_2, ByteArray.size_append, ByteArray.size_append]
    show 4 + 1 + fr.size ≤ _; omega
  generalize joinB sSp (lsF 2 [wdRank, fr]) 2 = s1 at *
  have hl2 := con_ifSo_ls s1 (!R.2) 1 [wdSparse] rfl (by omega) 1000000 (by omega) (by omega) (by
    intro s hs; simp only [List.mem_cons, List.not_mem_nil, or_false] at hs
    subst hs
    show 6 ≤ _; omega)
  have hz2 : (soB s1 (!R.2) 1 (lsF 1 [wdSparse])).size ≤ 2000 := by
    cases R.2 with
    | true => show s1.size ≤ _; omega
    | false =>
      show (soB s1 true 1 (lsF 1 [wdSparse])).size ≤ _
      rw [soB_1, ByteArray.size_append, ByteArray.size_append]
      show s1.size + 1 + 6 ≤ _; omega
  generalize soB s1 (!R.2) 1 (lsF 1 [wdSparse]) = s2 at *
  have hl3 := con_ifSo_ls s2 b 1 [wdTight] rfl (by omega) 1000000 (by omega) (by omega) (by
    intro s hs; simp only [List.mem_cons, List.not_mem_nil, or_false] at hs
    subst hs
    show 5 ≤ _; omega)
  have hz3 : (soB s2 b 1 (lsF 1 [wdTight])).size ≤ 3000 := by
    cases b with
    | false => show s2.size ≤ _; omega
    | true =>
      rw [soB_1, ByteArray.size_append, ByteArray.size_append]
      show s2.size + 1 + 5 ≤ _; omega
  generalize soB s2 b 1 (lsF 1 [wdTight]) = s3 at *
  have hl4 := con_ifSo_ls s3 R.2 2 [wdOver, fs] rfl (by omega) 1000000 (by omega) (by omega) (by
    intro s hs; simp only [List.mem_cons, List.not_mem_nil, or_false] at hs
    rcases hs with rfl | rfl
    · show 4 ≤ _; omega
    · omega)
  have hz4 : (soB s3 R.2 2 (lsF 2 [wdOver, fs])).size ≤ 9000 := by
    cases R.2 with
    | false => show s3.size ≤ _; omega
    | true =>
      rw [soB_2, ByteArray.size_append, ByteArray.size_append, ByteArray.size_append, ByteArray.size_append]
      show s3.size + 1 + 4 + 1 + fs.size ≤ _; omega
  generalize soB s3 R.2 2 (lsF 2 [wdOver, fs]) = s4 at *
  have hl5 := con_line_ls 3 [s4, wdRej, fj] rfl (by omega) 1000000 (by omega) (by
    intro s hs; simp only [List.mem_cons, List.not_mem_nil, or_false] at hs
    rcases hs with rfl | rfl | rfl
    · omega
    · show 8 ≤ _; omega
    · omega)
  generalize joinB sSp (lsF 3 [s4, wdRej, fj]) 3 = s5 at *
  refine con_start Try.func24 rfl (by kernel_rfl) rfl (fun c hc => ?_)
  refine path_ok mixed Try.func24 hc (xLi g nb N k l r R.1.1 J.1 R.1.2 J.2 (!R.2) b R.2 fr s1 s2 s3 fs s4 fj s5) ?_
  simp only [All]
  repeat' (first | exact trivial | with_reducible apply And.intro)
  all_goals (first | exact aG _ | exact aP _ _ | exact aA _ _ | exact aE _ | omega | rfl | (intros; first | assumption | exact True.intro | rfl | exact absurd (show false = true by assumption) Bool.false_ne_true | ((repeat' (first | assumption | apply anda | apply notf)); done)) | (exact hrk) | (exact hf1) | (exact hl1) | (exact hsp) | (exact hl2) | (exact hti) | (exact hl3) | (exact hov) | (exact hfs) | (exact hl4) | (exact hrj) | (exact hf2) | (exact hl5) | (exact decide_eq_false (by omega)) | (intro i hi; simp [All]))
theorem con_CountLine_s1 {N nb : Nat} {g : Nat → T_Bar} (hg : isGraphF ((N : Int), (nb, g), ()) = true) (k l : Nat) (hk : 1 ≤ k ∧ k ≤ 3) (hl : l + 1 ≤ 2 * k) :
    Con Try.prog 23 0 [] [grG g nb N, .p (.int .i64 k), .p (.int .i64 l)] [] (.p (.str (ctI N nb k l g))) := by
  obtain ⟨hN, hnb, hok⟩ := graph_in hg
  have hin := ovS_in g nb N k l hN.2 (2 ^ N - 1) 1
  have hrk := con_RankOf_s hg k l hk hl
  have hrl : (accI N k l g nb).length ≤ 24 := by have := accI_len N k l g nb; omega
  have hrj := con_Rejected_s hg k l hk hl
  have hfl := flt_n (rjP N k l g nb) nb
  simp only [ctI]
  generalize hR : ovS g nb N k l (2 ^ N - 1) 1 = R at hin ⊢
  have hsp := (con_Sparse hg k l hk hl hR).2
  have hti := (con_Tight hg k l hk hl hR).2
  have hov := con_Over_s hg k l hk hl hR
  generalize (accI N k l g nb).length = r at *
  generalize flt (rjP N k l g nb) nb = J at *
  have hf1 := con_FormatInt_s (r : Int) (by omega) (by omega)
  have hf2 := con_FormatInt_s (J.1 : Int) (by omega) (by omega)
  have hs1 := fmt_size (r : Int)
  have hs2 := fmt_size (J.1 : Int)
  have hfs := con_FormatSets_s 1 (fun _ => R.1) (by omega) (fun i hi => ⟨by show R.1.1 ≤ _; omega, hin.2⟩)
  have hs3 := fs1_size R.1 hin.1
  generalize fmtI (r : Int) = fr at *
  generalize fmtI (J.1 : Int) = fj at *
  generalize fsB 1 (fun _ => R.1) = fs at *
  generalize tiB nb N k l R.2 = b at *
  have hy1 := con_l34Yes (!R.2) wsSparse
  have hy2 := con_l34Yes b wsTight
  have hz2 : (yesB (!R.2) wsSparse).size ≤ 7 := yes_size _ wsSparse
  have hz3 : (yesB b wsTight).size ≤ 6 := yes_size _ wsTight
  generalize yesB (!R.2) wsSparse = s2 at *
  generalize yesB b wsTight = s3 at *
  have a1 : (ByteArray.mk #[114, 97, 110, 107, 32]).size = 5 := rfl
  have a2 : (ByteArray.mk #[32, 111, 118, 101, 114, 32]).size = 6 := rfl
  have a3 : (ByteArray.mk #[32, 114, 101, 106, 101, 99, 116, 101, 100, 32]).size = 10 := rfl
  refine con_start Try.func23 rfl (by kernel_rfl) rfl (fun c hc => ?_)
  cases hb : R.2 with
  | true =>
    rw [hb] at hov hsp hy1
    have e : ((((wsRank ++ fr) ++ s2) ++ s3) ++ yesB true (wsOver ++ fs)) ++ (wsRej ++ fj) = (((((((wsRank ++ fr) ++ s2) ++ s3) ++ wsOver) ++ fs) ++ wsRej) ++ fj) := by
      show ((((wsRank ++ fr) ++ s2) ++ s3) ++ (wsOver ++ fs)) ++ (wsRej ++ fj) = _
      simp only [ByteArray.append_assoc]
    rw [e]
    refine path_ok mixed Try.func23 hc (xLs1 g nb N k l r R.1.1 J.1 R.1.2 J.2 (!true) b fr s2 s3 fs fj) ?_
    simp only [All]
    repeat' (first | exact trivial | with_reducible apply And.intro)
    all_goals (first | exact aG _ | exact aP _ _ | exact aA _ _ | exact aE _ | omega | rfl | (intros; first | assumption | exact True.intro | rfl | exact absurd (show false = true by assumption) Bool.false_ne_true | ((repeat' (first | assumption | apply anda | apply notf)); done)) | (exact hrk) | (exact hf1) | (exact hsp) | (exact hy1) | (exact hti) | (exact hy2) | (exact hov) | (exact hfs) | (exact hrj) | (exact hf2) | (exact decide_eq_false (by omega)) | (intro i hi; simp [All]; done) | (simp only [ByteArray.size_append, a1, a2, a3]; omega))
  | false =>
    rw [hb] at hov hsp hy1
    have e : ((((wsRank ++ fr) ++ s2) ++ s3) ++ yesB false (wsOver ++ fs)) ++ (wsRej ++ fj) = (((((wsRank ++ fr) ++ s2) ++ s3) ++ wsRej) ++ fj) := by
      rw [show yesB false (wsOver ++ fs) = sE from rfl, app_sE]
      simp only [ByteArray.append_assoc]
    rw [e]
    refine path_ok mixed Try.func23 hc (xLs2 g nb N k l r R.1.1 J.1 R.1.2 J.2 (!false) b fr s2 s3 fj) ?_
    simp only [All]
    repeat' (first | exact trivial | with_reducible apply And.intro)
    all_goals (first | exact aG _ | exact aP _ _ | exact aA _ _ | exact aE _ | omega | rfl | (intros; first | assumption | exact True.intro | rfl | exact absurd (show false = true by assumption) Bool.false_ne_true | ((repeat' (first | assumption | apply anda | apply notf)); done)) | (exact hrk) | (exact hf1) | (exact hsp) | (exact hy1) | (exact hti) | (exact hy2) | (exact hov) | (exact hrj) | (exact hf2) | (exact decide_eq_false (by omega)) | (intro i hi; simp [All]; done) | (simp only [ByteArray.size_append, a1, a2, a3]; omega))
noncomputable def clF (v : T_Graph) (k l : Int) : ByteArray := if okF v k l = true then ctI v.1.toNat v.2.1.1 k.toNat l.toNat v.2.1.2 else sE
theorem ok_nat {v : T_Graph} {k l : Int} (h : okF v k l = true) : ∃ (N nb K L : Nat) (g : Nat → T_Bar), v = ((N : Int), (nb, g), ()) ∧ k = K ∧ l = L ∧ isGraphF ((N : Int), (nb, g), ()) = true ∧ (1 ≤ K ∧ K ≤ 3) ∧ L + 1 ≤ 2 * K := by
  obtain ⟨n, ⟨nb, g⟩, u⟩ := v
  unfold okF at h
  rw [Bool.and_eq_true] at h
  have hr := (rg_iff k l).1 h.2
  have hN : 1 ≤ n := by
    have := h.1
    unfold isGraphF at this
    split at this
    case isFalse => cases this
    rename_i hc
    have h4 := hc.1
    simp only [inB, Bool.and_eq_true, decide_eq_true_eq] at h4
    exact h4.1
  obtain ⟨N, rfl⟩ : ∃ N : Nat, n = N := ⟨n.toNat, by omega⟩
  obtain ⟨K, rfl⟩ : ∃ K : Nat, k = K := ⟨k.toNat, by omega⟩
  obtain ⟨L, rfl⟩ : ∃ L : Nat, l = L := ⟨l.toNat, by omega⟩
  exact ⟨N, nb, K, L, g, rfl, rfl, rfl, h.1, by omega, by omega⟩
theorem con_CountLine_i (v : T_Graph) (hs : smS s_Graph v) (k l : Int) : Con Try.prog 24 0 [] [graphA v, .p (.int .i64 k), .p (.int .i64 l)] [] (.p (.str (clF v k l))) := by
  cases h : okF v k l with
  | true =>
    rw [clF, if_pos h]
    obtain ⟨N, nb, K, L, g, rfl, rfl, rfl, hg, hk, hl⟩ := ok_nat h
    exact con_CountLine_i1 hg K L hk hl
  | false =>
    rw [clF, if_neg (by rw [h]; exact Bool.false_ne_true)]
    have hr := con_RankOf_i0 v hs k l h
    refine con_start Try.func24 rfl (by kernel_rfl) rfl (fun c hc => ?_)
    refine path_ok mixed Try.func24 hc (xLi0 v k l) ?_
    simp only [All]
    repeat' (first | exact trivial | with_reducible apply And.intro)
    all_goals (first | exact aG _ | exact aP _ _ | exact aA _ _ | exact aE _ | omega | rfl | (intros; first | assumption | exact True.intro | rfl | exact absurd (show false = true by assumption) Bool.false_ne_true | ((repeat' (first | assumption | apply anda | apply notf)); done)) | (exact hr) | rfl)
theorem con_CountLine_s (v : T_Graph) (hs : smS s_Graph v) (k l : Int) : Con Try.prog 23 0 [] [graphA v, .p (.int .i64 k), .p (.int .i64 l)] [] (.p (.str (clF v k l))) := by
  cases h : okF v k l with
  | true =>
    rw [clF, if_pos h]
    obtain ⟨N, nb, K, L, g, rfl, rfl, rfl, hg, hk, hl⟩ := ok_nat h
    exact con_CountLine_s1 hg K L hk hl
  | false =>
    rw [clF, if_neg (by rw [h]; exact Bool.false_ne_true)]
    have hr := con_RankOf_s0 v hs k l h
    refine con_start Try.func23 rfl (by kernel_rfl) rfl (fun c hc => ?_)
    refine path_ok mixed Try.func23 hc (xLs0 v k l) ?_
    simp only [All]
    repeat' (first | exact trivial | with_reducible apply And.intro)
    all_goals (first | exact aG _ | exact aP _ _ | exact aA _ _ | exact aE _ | omega | rfl | (intros; first | assumption | exact True.intro | rfl | exact absurd (show false = true by assumption) Bool.false_ne_true | ((repeat' (first | assumption | apply anda | apply notf)); done)) | (exact hr) | rfl)
end Go.Proofs.Ytffnfeefjdmifaa.Mach
namespace Go.Proofs.Ytffnfeefjdmifaa.Mach
open Go
set_option linter.unusedVariables false
set_option linter.unusedSimpArgs false
theorem p_FnExactCountLine_0 (v0 : T_Graph) (v1 : Int) (v2 : Int) :
    pathOb Try.prog Try.f5 0 [.reg [oT, oT], .reg [oT], .reg [oT, oT, ⟨true, (some ⟨[], [], [], 1, [], .p (.int .i64 (f_szGraph v0 1048576))⟩), none⟩, oT], .reg [oT, oT], .dec true, .reg [oT]] [.code (bodyOf Try.f5)] (start Try.f5 [] 0 [.agg [.p (.int .i64 v0.1), .p (.seq true 2 v0.2.1.1 (fun i => [.int .i64 ((v0.2.1.2 i).1), .int .i64 ((v0.2.1.2 i).2.1)]))], .p (.int .i64 v1), .p (.int .i64 v2)]) [] 1 [] (.p (.bool true)) =
    some [((0 : Nat) < 1),
  Con Try.prog 14 0 [] [.agg [.p (.int .i64 v0.1), .p (.seq true 2 v0.2.1.1 (fun i => [.int .i64 ((v0.2.1.2 i).1), .int .i64 ((v0.2.1.2 i).2.1)]))], .p (.int .i64 1048576)] [] (.p (.int .i64 (f_szGraph v0 1048576))),
  ((decide (f_szGraph v0 1048576 < 0)) = true),
  (true = true)] := by kernel_rfl
theorem p_FnExactCountLine_e (v0 : T_Graph) (v1 : Int) (v2 : Int) :
    pathOb Try.prog Try.f5 0 [.reg [oT, oT], .reg [oT], .reg [oT, oT, ⟨true, (some ⟨[], [], [], 1, [], .p (.int .i64 (f_szGraph v0 1048576))⟩), none⟩, oT], .reg [oT, oT], .dec false, .reg [oT, ⟨true, (some ⟨[], [], [], 1, [(0, ⟨false, 2, v0.2.1.1, fun i => [.p (.int .i64 ((v0.2.1.2 i).1)), .p (.int .i64 ((v0.2.1.2 i).2.1))]⟩)], .agg [.p (.int .i64 v0.1), .ar 2 0 0 v0.2.1.1]⟩), none⟩, oT, oT, ⟨true, (some ⟨[], [], [], 1, [], .p (.str (clF v0 v1 v2))⟩), none⟩, oT], .reg [oT, ⟨true, (some ⟨[], [], [], 1, [(0, ⟨false, 2, v0.2.1.1, fun i => [.p (.int .i64 ((v0.2.1.2 i).1)), .p (.int .i64 ((v0.2.1.2 i).2.1))]⟩)], .agg [.p (.int .i64 v0.1), .ar 2 0 0 v0.2.1.1]⟩), none⟩, oT, oT], .reg [oT, oT, oT, ⟨true, (some ⟨[], [], [], 1, [], .p (.str (clF v0 v1 v2))⟩), none⟩, oT], .reg [oT, oT, oT], .dec false, .reg [oT, oT, ⟨true, (some ⟨[], [], [], 1, [(0, ⟨false, 2, v0.2.1.1, fun i => [.p (.int .i64 ((v0.2.1.2 i).1)), .p (.int .i64 ((v0.2.1.2 i).2.1))]⟩)], .agg [.p (.int .i64 v0.1), .ar 2 0 0 v0.2.1.1]⟩), none⟩, ⟨true, (some ⟨[], [], [], 1, [], .p (.bool true)⟩), none⟩, oT], .dec false, .reg [oT]] [.code (bodyOf Try.f5)] (start Try.f5 [] 0 [.agg [.p (.int .i64 v0.1), .p (.seq true 2 v0.2.1.1 (fun i => [.int .i64 ((v0.2.1.2 i).1), .int .i64 ((v0.2.1.2 i).2.1)]))], .p (.int .i64 v1), .p (.int .i64 v2)]) [] 1 [] (.p (.bool true)) =
    some [((0 : Nat) < 1),
  Con Try.prog 14 0 [] [.agg [.p (.int .i64 v0.1), .p (.seq true 2 v0.2.1.1 (fun i => [.int .i64 ((v0.2.1.2 i).1), .int .i64 ((v0.2.1.2 i).2.1)]))], .p (.int .i64 1048576)] [] (.p (.int .i64 (f_szGraph v0 1048576))),
  ((decide (f_szGraph v0 1048576 < 0)) = false),
  ((0 : Nat) < 1),
  Con Try.prog 16 0 [] [.agg [.p (.int .i64 v0.1), .p (.seq true 2 v0.2.1.1 (fun i => [.int .i64 ((v0.2.1.2 i).1), .int .i64 ((v0.2.1.2 i).2.1)]))]] [(0, ⟨false, 2, v0.2.1.1, (fun i => [.p (.int .i64 ((v0.2.1.2 i).1)), .p (.int .i64 ((v0.2.1.2 i).2.1))])⟩)] (.agg [.p (.int .i64 v0.1), .ar 2 0 0 v0.2.1.1]),
  (AN 2),
  ((v0.2.1.1 : Nat) ≤ v0.2.1.1),
  Con Try.prog 23 0 [] [.agg [.p (.int .i64 v0.1), .p (.seq true 2 v0.2.1.1 (fun i => [.int .i64 ((v0.2.1.2 i).1), .int .i64 ((v0.2.1.2 i).2.1)]))], .p (.int .i64 v1), .p (.int .i64 v2)] [] (.p (.str (clF v0 v1 v2))),
  ((0 : Nat) < 1),
  Con Try.prog 16 0 [] [.agg [.p (.int .i64 v0.1), .p (.seq true 2 v0.2.1.1 (fun i => [.int .i64 ((v0.2.1.2 i).1), .int .i64 ((v0.2.1.2 i).2.1)]))]] [(0, ⟨false, 2, v0.2.1.1, (fun i => [.p (.int .i64 ((v0.2.1.2 i).1)), .p (.int .i64 ((v0.2.1.2 i).2.1))])⟩)] (.agg [.p (.int .i64 v0.1), .ar 2 0 0 v0.2.1.1]),
  ((0 : Nat) < 1),
  ((true = true) → (AN 1)),
  ((0 : Nat) < 1),
  (AN 2),
  ((v0.2.1.1 : Nat) ≤ v0.2.1.1),
  Con Try.prog 24 0 [] [.agg [.p (.int .i64 v0.1), .p (.seq true 2 v0.2.1.1 (fun i => [.int .i64 ((v0.2.1.2 i).1), .int .i64 ((v0.2.1.2 i).2.1)]))], .p (.int .i64 v1), .p (.int .i64 v2)] [] (.p (.str (clF v0 v1 v2))),
  ((!(clF v0 v1 v2).toList == (clF v0 v1 v2).toList) = false),
  ((0 : Nat) < 1),
  ((0 : Nat) < 1),
  Con Try.prog 16 0 [] [.agg [.p (.int .i64 v0.1), .p (.seq true 2 v0.2.1.1 (fun i => [.int .i64 ((v0.2.1.2 i).1), .int .i64 ((v0.2.1.2 i).2.1)]))]] [(0, ⟨false, 2, v0.2.1.1, (fun i => [.p (.int .i64 ((v0.2.1.2 i).1)), .p (.int .i64 ((v0.2.1.2 i).2.1))])⟩)] (.agg [.p (.int .i64 v0.1), .ar 2 0 0 v0.2.1.1]),
  (AN 2),
  ((v0.2.1.1 : Nat) ≤ v0.2.1.1),
  (AN 2),
  ((v0.2.1.1 : Nat) ≤ v0.2.1.1),
  Con Try.prog 19 0 [] [.agg [.p (.int .i64 v0.1), .p (.seq true 2 v0.2.1.1 (fun i => [.int .i64 ((v0.2.1.2 i).1), .int .i64 ((v0.2.1.2 i).2.1)]))], .agg [.p (.int .i64 v0.1), .p (.seq true 2 v0.2.1.1 (fun i => [.int .i64 ((v0.2.1.2 i).1), .int .i64 ((v0.2.1.2 i).2.1)]))]] [] (.p (.bool true)),
  ((!true) = false),
  (true = true)] := by kernel_rfl
theorem con_law_FnExactCountLine (v0 : T_Graph) (v1 : Int) (v2 : Int) (k0 : okS s_Graph v0) (k1 : okS (.int .i64) v1) (k2 : okS (.int .i64) v2) : Con Try.prog 5 0 [] [.agg [.p (.int .i64 v0.1), .p (.seq true 2 v0.2.1.1 (fun i => [.int .i64 ((v0.2.1.2 i).1), .int .i64 ((v0.2.1.2 i).2.1)]))], .p (.int .i64 v1), .p (.int .i64 v2)] [] (.p (.bool true)) := by
  refine con_start Try.func5 rfl (by kernel_rfl) rfl (fun c hc => ?_)
  simp only [okS, imin, imax] at k1
  simp only [okS, imin, imax] at k2
  have l0 := le_szGraph v0 1048576 (by omega)
  by_cases g0 : (f_szGraph v0 1048576) < 0
  · refine path_ok mixed Try.func5 hc (p_FnExactCountLine_0 v0 v1 v2) ?_
    simp only [All]
    repeat' (first | exact trivial | with_reducible apply And.intro)
    all_goals (first | exact aG _ | exact aP _ _ | exact aA _ _ | exact aE _ | omega | rfl | (intros; first | assumption | exact True.intro | rfl | exact absurd (show false = true by assumption) Bool.false_ne_true | ((repeat' (first | assumption | apply anda | apply notf)); done)) | (exact con_szGraph v0 k0 _ (by omega) (by omega)) | (simp; omega))
  have hs0 := sm_szGraph v0 1048576 (by omega) (by omega) g0
  refine path_ok mixed Try.func5 hc (p_FnExactCountLine_e v0 v1 v2) ?_
  simp only [All]
  repeat' (first | exact trivial | with_reducible apply And.intro)
  all_goals (first | exact aG _ | exact aP _ _ | exact aA _ _ | exact aE _ | omega | rfl | (intros; first | assumption | exact True.intro | rfl | exact absurd (show false = true by assumption) Bool.false_ne_true | ((repeat' (first | assumption | apply anda | apply notf)); done)) | (exact con_szGraph v0 k0 _ (by omega) (by omega)) | (exact con_toGraph v0 hs0) | (exact con_CountLine_s v0 hs0 v1 v2) | (exact con_CountLine_i v0 hs0 v1 v2) | (exact con_eqGraph v0 hs0) | (simp; try omega))
end Go.Proofs.Ytffnfeefjdmifaa.Mach
