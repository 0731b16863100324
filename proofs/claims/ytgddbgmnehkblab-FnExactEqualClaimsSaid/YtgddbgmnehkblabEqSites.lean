/- The contracts behind FnExactEqualSites: both compare sites alike. Conditions: as each theorem says. -/
import Derived.Test.YtgddbgmnehkblabFamSite
namespace Go.Proofs.Ytgddbgmnehkblab.Mach
open Go
set_option linter.unusedVariables false
set_option linter.unusedSimpArgs false

def barL (v : T_BarS) : AV := .p (.seq true 2 v.1 (fun i => [.int .i64 (v.2 i).1, .int .i64 (v.2 i).2.1]))
def grA (v : T_Graph) : AV := .agg [.p (.int .i64 v.1), barL v.2.1]
def boxGr (v : T_Graph) : Ob := ⟨true, 2, 1, fun i => [.p (.int .i64 v.1), barL v.2.1]⟩
def eqGr (v u : T_Graph) : Bool := bif v.1 == u.1 then q_BarS v.2.1 u.2.1 else false
def S49 (v u : T_Graph) (k : Nat) : St :=
  ⟨[grA v, grA u, .pt 2 0 0 0, .pt 2 1 0 0, .p .any, .p (.int .i64 k)] ++ List.replicate 32 anyA, [(0, boxGr v), (1, boxGr u)], 2⟩

theorem p49z (v u : T_Graph) :
    pathOb Try.prog Try.f49 0 [.reg [oT, oT, oT], .reg [oT, oT, oT, oT, oT, oT, oT, oT, oT, oT, oT, oT, oT, oT], .dec true, .reg [oT]] [.code (bodyOf Try.f49)] (start Try.f49 [] 0 [grA v, grA u]) [] 1 [] (.p (.bool false)) =
    some [((0 : Nat) < 1),
  ((0 : Nat) < 1),
  (((!v.fst != u.fst) = true) → ((!v.fst != u.fst) = true)),
  (((!v.fst != u.fst) = true) → ((0 : Nat) < 1)),
  (((!v.fst != u.fst) = true) → ((!v.fst != u.fst) = true)),
  (((!v.fst != u.fst) = true) → ((!v.fst != u.fst) = true)),
  (((!v.fst != u.fst) = true) → ((0 : Nat) < 1)),
  (((!v.fst != u.fst) = true) → ((!v.fst != u.fst) = true)),
  (((!v.fst != u.fst) = true) → ((!v.fst != u.fst) = true)),
  (((!v.fst != u.fst) = true) → ((!v.fst != u.fst) = true)),
  (((v.fst != u.fst) = false) → ((!v.fst != u.fst) = true)),
  ((bif v.fst != u.fst then true else (↑v.snd.fst.fst : Int) != (↑u.snd.fst.fst : Int)) = true),
  (false = false)] := by kernel_rfl
theorem p49a (v u : T_Graph) :
    pieceOb Try.prog 0 [.reg [oT, oT, oT], .reg [oT, oT, oT, oT, oT, oT, oT, oT, oT, oT, oT, oT, oT, oT], .dec false, .reg [oT], .head] [.code (bodyOf Try.f49)] (start Try.f49 [] 0 [grA v, grA u]) [0, 32] 1 (S49 v u 0) =
    some ([.code (cAt (bodyOf Try.f49) [1, 1, 0, 1, 0, 0]), .inLoop (cAt (bodyOf Try.f49) [1, 1, 0, 1, 0, 0]), .inBlock 0, .code (cAt (bodyOf Try.f49) [1, 1, 1])], [((0 : Nat) < 1),
  ((0 : Nat) < 1),
  (((!v.fst != u.fst) = true) → ((!v.fst != u.fst) = true)),
  (((!v.fst != u.fst) = true) → ((0 : Nat) < 1)),
  (((!v.fst != u.fst) = true) → ((!v.fst != u.fst) = true)),
  (((!v.fst != u.fst) = true) → ((!v.fst != u.fst) = true)),
  (((!v.fst != u.fst) = true) → ((0 : Nat) < 1)),
  (((!v.fst != u.fst) = true) → ((!v.fst != u.fst) = true)),
  (((!v.fst != u.fst) = true) → ((!v.fst != u.fst) = true)),
  (((!v.fst != u.fst) = true) → ((!v.fst != u.fst) = true)),
  (((v.fst != u.fst) = false) → ((!v.fst != u.fst) = true)),
  ((bif v.fst != u.fst then true else (↑v.snd.fst.fst : Int) != (↑u.snd.fst.fst : Int)) = false),
  (((v.fst) : Int) = (v.fst)),
  (((v.snd.fst.fst) : Nat) = (v.snd.fst.fst)),
  (∀ i : Nat, ((((i) : Nat) < (v.snd.fst.fst)) → (([.int .i64 ((v.snd.fst.snd i).fst), .int .i64 ((v.snd.fst.snd i).snd.fst)] : List PV) = [.int .i64 ((v.snd.fst.snd i).fst), .int .i64 ((v.snd.fst.snd i).snd.fst)]))),
  (((u.fst) : Int) = (u.fst)),
  (((u.snd.fst.fst) : Nat) = (u.snd.fst.fst)),
  (∀ i : Nat, ((((i) : Nat) < (u.snd.fst.fst)) → (([.int .i64 ((u.snd.fst.snd i).fst), .int .i64 ((u.snd.fst.snd i).snd.fst)] : List PV) = [.int .i64 ((u.snd.fst.snd i).fst), .int .i64 ((u.snd.fst.snd i).snd.fst)]))),
  ((0 : Nat) = 0),
  ((0 : Nat) = 0),
  ((0 : Int) = ((↑0 : Int))),
  ((([AV.p (PV.int IntKind.i64 v.fst), barL v.snd.fst].length) : Nat) = 2),
  ((1 : Nat) ≤ 1),
  (∀ i : Nat, ((((i) : Nat) < 1) → (All [] ∧ (([.p (.int .i64 (v.fst)), .p (.seq true 2 (v.snd.fst.fst) (fun i_1 => [.int .i64 ((v.snd.fst.snd i_1).fst), .int .i64 ((v.snd.fst.snd i_1).snd.fst)]))] : List AV) = [.p (.int .i64 (v.fst)), .p (.seq true 2 (v.snd.fst.fst) (fun i_1 => [.int .i64 ((v.snd.fst.snd i_1).fst), .int .i64 ((v.snd.fst.snd i_1).snd.fst)]))])))),
  ((([AV.p (PV.int IntKind.i64 u.fst), barL u.snd.fst].length) : Nat) = 2),
  ((1 : Nat) ≤ 1),
  (∀ i : Nat, ((((i) : Nat) < 1) → (All [] ∧ (([.p (.int .i64 (u.fst)), .p (.seq true 2 (u.snd.fst.fst) (fun i_1 => [.int .i64 ((u.snd.fst.snd i_1).fst), .int .i64 ((u.snd.fst.snd i_1).snd.fst)]))] : List AV) = [.p (.int .i64 (u.fst)), .p (.seq true 2 (u.snd.fst.fst) (fun i_1 => [.int .i64 ((u.snd.fst.snd i_1).fst), .int .i64 ((u.snd.fst.snd i_1).snd.fst)]))]))))]) := by kernel_rfl
theorem p49b (v u : T_Graph) (k : Nat) :
    pieceOb Try.prog 0 [.reg [oT, oT, oT, oT, oT], .dec true, .reg [oT, oT, oT, oT, oT, oT, oT, oT, oT, oT, oT], .dec false, .reg [oT, oT, oT], .head] [.code (cAt (bodyOf Try.f49) [1, 1, 0, 1, 0, 0]), .inLoop (cAt (bodyOf Try.f49) [1, 1, 0, 1, 0, 0]), .inBlock 0, .code (cAt (bodyOf Try.f49) [1, 1, 1])] (S49 v u k) [0, 1] 1 (S49 v u (k + 1)) =
    some ([.code (cAt (bodyOf Try.f49) [1, 1, 0, 1, 0, 0]), .inLoop (cAt (bodyOf Try.f49) [1, 1, 0, 1, 0, 0]), .inBlock 0, .code (cAt (bodyOf Try.f49) [1, 1, 1])], [((0 : Nat) < 1),
  ((decide ((↑k : Int) < (↑v.snd.fst.fst : Int))) = true),
  ((0 : Nat) < 1),
  ((0 : Int) ≤ ((↑k : Int))),
  ((((↑k : Int)) : Int) < ((↑v.snd.fst.fst : Int))),
  ((0 : Nat) < 1),
  ((0 : Int) ≤ ((↑k : Int))),
  ((((↑k : Int)) : Int) < ((↑u.snd.fst.fst : Int))),
  ((!((v.snd.fst.snd k).fst == (u.snd.fst.snd k).fst && ((v.snd.fst.snd k).snd.fst == (u.snd.fst.snd k).snd.fst && true))) = false),
  (((-9223372036854775808) : Int) ≤ ((↑k : Int) + 1)),
  ((((↑k : Int) + 1) : Int) ≤ 9223372036854775807),
  (((v.fst) : Int) = (v.fst)),
  (((v.snd.fst.fst) : Nat) = (v.snd.fst.fst)),
  (∀ i : Nat, ((((i) : Nat) < (v.snd.fst.fst)) → (([.int .i64 ((v.snd.fst.snd i).fst), .int .i64 ((v.snd.fst.snd i).snd.fst)] : List PV) = [.int .i64 ((v.snd.fst.snd i).fst), .int .i64 ((v.snd.fst.snd i).snd.fst)]))),
  (((u.fst) : Int) = (u.fst)),
  (((u.snd.fst.fst) : Nat) = (u.snd.fst.fst)),
  (∀ i : Nat, ((((i) : Nat) < (u.snd.fst.fst)) → (([.int .i64 ((u.snd.fst.snd i).fst), .int .i64 ((u.snd.fst.snd i).snd.fst)] : List PV) = [.int .i64 ((u.snd.fst.snd i).fst), .int .i64 ((u.snd.fst.snd i).snd.fst)]))),
  ((0 : Nat) = 0),
  ((0 : Nat) = 0),
  ((((↑k : Int) + 1) : Int) = ((↑(k + 1) : Int))),
  ((2 : Nat) = 2),
  ((1 : Nat) ≤ 1),
  (∀ i : Nat, ((((i) : Nat) < 1) → (All [] ∧ (([.p (.int .i64 (v.fst)), .p (.seq true 2 (v.snd.fst.fst) (fun i_1 => [.int .i64 ((v.snd.fst.snd i_1).fst), .int .i64 ((v.snd.fst.snd i_1).snd.fst)]))] : List AV) = [.p (.int .i64 (v.fst)), .p (.seq true 2 (v.snd.fst.fst) (fun i_1 => [.int .i64 ((v.snd.fst.snd i_1).fst), .int .i64 ((v.snd.fst.snd i_1).snd.fst)]))])))),
  ((2 : Nat) = 2),
  ((1 : Nat) ≤ 1),
  (∀ i : Nat, ((((i) : Nat) < 1) → (All [] ∧ (([.p (.int .i64 (u.fst)), .p (.seq true 2 (u.snd.fst.fst) (fun i_1 => [.int .i64 ((u.snd.fst.snd i_1).fst), .int .i64 ((u.snd.fst.snd i_1).snd.fst)]))] : List AV) = [.p (.int .i64 (u.fst)), .p (.seq true 2 (u.snd.fst.fst) (fun i_1 => [.int .i64 ((u.snd.fst.snd i_1).fst), .int .i64 ((u.snd.fst.snd i_1).snd.fst)]))]))))]) := by kernel_rfl
theorem p49c (v u : T_Graph) (k : Nat) :
    pathOb Try.prog Try.f49 0 [.reg [oT, oT, oT, oT, oT], .dec true, .reg [oT, oT, oT, oT, oT, oT, oT, oT, oT, oT, oT], .dec true, .reg [oT]] [.code (cAt (bodyOf Try.f49) [1, 1, 0, 1, 0, 0]), .inLoop (cAt (bodyOf Try.f49) [1, 1, 0, 1, 0, 0]), .inBlock 0, .code (cAt (bodyOf Try.f49) [1, 1, 1])] (S49 v u k) [] 1 [] (.p (.bool false)) =
    some [((0 : Nat) < 1),
  ((decide ((↑k : Int) < (↑v.snd.fst.fst : Int))) = true),
  ((0 : Nat) < 1),
  ((0 : Int) ≤ ((↑k : Int))),
  ((((↑k : Int)) : Int) < ((↑v.snd.fst.fst : Int))),
  ((0 : Nat) < 1),
  ((0 : Int) ≤ ((↑k : Int))),
  ((((↑k : Int)) : Int) < ((↑u.snd.fst.fst : Int))),
  ((!((v.snd.fst.snd k).fst == (u.snd.fst.snd k).fst && ((v.snd.fst.snd k).snd.fst == (u.snd.fst.snd k).snd.fst && true))) = true),
  (false = false)] := by kernel_rfl
theorem p49d (v u : T_Graph) (k : Nat) :
    pathOb Try.prog Try.f49 0 [.reg [oT, oT, oT, oT, oT], .dec false, .reg [oT]] [.code (cAt (bodyOf Try.f49) [1, 1, 0, 1, 0, 0]), .inLoop (cAt (bodyOf Try.f49) [1, 1, 0, 1, 0, 0]), .inBlock 0, .code (cAt (bodyOf Try.f49) [1, 1, 1])] (S49 v u k) [] 1 [] (.p (.bool true)) =
    some [((0 : Nat) < 1),
  ((decide ((↑k : Int) < (↑v.snd.fst.fst : Int))) = false),
  (true = true)] := by kernel_rfl
theorem p52 (v u : T_Graph) :
    pathOb Try.prog Try.f52 0 [.reg [oT, oT, oT], .reg [oT, oT, oT, oT, oT, oT, oT, oT, oT, oT, ⟨true, (some ⟨[], [], 1, [], .p (.bool (q_BarS v.2.1 u.2.1))⟩)⟩, oT, oT]] [.code (bodyOf Try.f52)] (start Try.f52 [] 0 [grA v, grA u]) [] 1 [] (.p (.bool (eqGr v u))) =
    some [((0 : Nat) < 1),
  ((0 : Nat) < 1),
  (((v.fst == u.fst) = true) → ((v.fst == u.fst) = true)),
  (((v.fst == u.fst) = true) → ((0 : Nat) < 1)),
  (((v.fst == u.fst) = true) → ((v.fst == u.fst) = true)),
  (((v.fst == u.fst) = true) → ((0 : Nat) < 1)),
  (((v.fst == u.fst) = true) → ((v.fst == u.fst) = true)),
  (((v.fst == u.fst) = true) → ((v.fst == u.fst) = true)),
  (((v.fst == u.fst) = true) → Con (Try.prog) 84 0 [] [.p (.seq true 2 (v.snd.fst.fst) (fun i => [.int .i64 ((v.snd.fst.snd i).fst), .int .i64 ((v.snd.fst.snd i).snd.fst)])), .p (.seq true 2 (u.snd.fst.fst) (fun i => [.int .i64 ((u.snd.fst.snd i).fst), .int .i64 ((u.snd.fst.snd i).snd.fst)]))] [] (.p (.bool (q_BarS v.snd.fst u.snd.fst)))),
  (((v.fst == u.fst) = true) → ((v.fst == u.fst) = true)),
  ((bif v.fst == u.fst then q_BarS v.snd.fst u.snd.fst else false) = (eqGr v u))] := by kernel_rfl

theorem con_EqualGraphs_s (v u : T_Graph) (hn : v.2.1.1 ≤ 1048576) : Con Try.prog 49 0 [] [grA v, grA u] [] (.p (.bool (eqGr v u))) := by
  refine con_start Try.func49 rfl (by kernel_rfl) rfl (fun c hc => ?_)
  by_cases hz : v.1 = u.1 ∧ v.2.1.1 = u.2.1.1
  · rw [show eqGr v u = qT_BarS v.2.1.2 u.2.1.2 v.2.1.1 by simp [eqGr, q_BarS, hz.1, hz.2]]
    have lp : ∀ m k, k + m = v.2.1.1 → qT_BarS v.2.1.2 u.2.1.2 k = true → Run Try.prog c 49 [.code (cAt (bodyOf Try.f49) [1, 1, 0, 1, 0, 0]), .inLoop (cAt (bodyOf Try.f49) [1, 1, 0, 1, 0, 0]), .inBlock 0, .code (cAt (bodyOf Try.f49) [1, 1, 1])] (S49 v u k) (Post c [] (.p (.bool (qT_BarS v.2.1.2 u.2.1.2 v.2.1.1)))) := by
      intro m
      induction m with
      | zero =>
        intro k hk hg
        rw [show qT_BarS v.2.1.2 u.2.1.2 v.2.1.1 = true by rw [show v.2.1.1 = k by omega]; exact hg]
        have hd : decide ((k : Int) < (v.2.1.1 : Int)) = false := by simp; omega
        refine path_ok mixed Try.func49 hc (p49d v u k) ?_
        simp only [All]
        repeat' (first | exact trivial | with_reducible apply And.intro)
        all_goals (first | omega | rfl | (intros; first | assumption | exact True.intro | rfl | exact absurd (show false = true by assumption) Bool.false_ne_true | ((repeat' (first | assumption | apply anda | apply notf)); done)))
      | succ m ih =>
        intro k hk hg
        have hd : decide ((k : Int) < (v.2.1.1 : Int)) = true := by simp; omega
        cases he : q1_BarS (v.2.1.2 k) (u.2.1.2 k) with
        | false =>
          rw [qT_BarS_bad _ _ k he v.2.1.1 (by omega)]
          have he' : (!q1_BarS (v.2.1.2 k) (u.2.1.2 k)) = true := notf he
          refine path_ok mixed Try.func49 hc (p49c v u k) ?_
          simp only [All]
          repeat' (first | exact trivial | with_reducible apply And.intro)
          all_goals (first | omega | rfl | (intros; first | assumption | exact True.intro | rfl | exact absurd (show false = true by assumption) Bool.false_ne_true | ((repeat' (first | assumption | apply anda | apply notf)); done)) | exact he')
        | true =>
          have he' : (!q1_BarS (v.2.1.2 k) (u.2.1.2 k)) = false := nott he
          refine piece_ok mixed hc (p49b v u k) ?_ (ih (k + 1) (by omega) (by simp [qT_BarS, hg, he]))
          simp only [All]
          repeat' (first | exact trivial | with_reducible apply And.intro)
          all_goals (first | omega | rfl | (intros; first | assumption | exact True.intro | rfl | exact absurd (show false = true by assumption) Bool.false_ne_true | ((repeat' (first | assumption | apply anda | apply notf)); done)) | exact he' | (simp [All]))
    refine piece_ok mixed hc (p49a v u) ?_ (lp v.2.1.1 0 (by omega) rfl)
    simp only [All]
    repeat' (first | exact trivial | with_reducible apply And.intro)
    all_goals (first | omega | rfl | (intros; first | assumption | exact True.intro | rfl | exact absurd (show false = true by assumption) Bool.false_ne_true | ((repeat' (first | assumption | apply anda | apply notf)); done)) | (intro h; simp [h]) | (simp [hz.1, hz.2]) | (simp [All]))
  · have hr : eqGr v u = false := by
      simp only [eqGr, q_BarS]
      by_cases h1 : v.1 = u.1
      · have h2 : ¬ v.2.1.1 = u.2.1.1 := fun h => hz ⟨h1, h⟩
        simp [h1, h2]
      · have : (v.1 == u.1) = false := by simpa using h1
        rw [this]; rfl
    rw [hr]
    have hb : (bif v.1 != u.1 then true else (v.2.1.1 : Int) != (u.2.1.1 : Int)) = true := by
      by_cases h1 : v.1 = u.1
      · have h2 : ¬ v.2.1.1 = u.2.1.1 := fun h => hz ⟨h1, h⟩
        simp [h1]; omega
      · simp [h1]
    refine path_ok mixed Try.func49 hc (p49z v u) ?_
    simp only [All]
    repeat' (first | exact trivial | with_reducible apply And.intro)
    all_goals (first | omega | rfl | (intros; first | assumption | exact True.intro | rfl | exact absurd (show false = true by assumption) Bool.false_ne_true | ((repeat' (first | assumption | apply anda | apply notf)); done)))

theorem con_EqualGraphs_i (v u : T_Graph) (hn : v.2.1.1 ≤ 1048576) : Con Try.prog 52 0 [] [grA v, grA u] [] (.p (.bool (eqGr v u))) := by
  refine con_start Try.func52 rfl (by kernel_rfl) rfl (fun c hc => ?_)
  refine path_ok mixed Try.func52 hc (p52 v u) ?_
  simp only [All]
  repeat' (first | exact trivial | with_reducible apply And.intro)
  all_goals (first | omega | rfl | (intros; first | assumption | exact True.intro | rfl | exact absurd (show false = true by assumption) Bool.false_ne_true | ((repeat' (first | assumption | apply anda | apply notf)); done)) | (intros; exact con_seBarS v.2.1 u.2.1 hn))

end Go.Proofs.Ytgddbgmnehkblab.Mach
