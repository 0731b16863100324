/- Counting by bodies: both programs answer alike. Conditions: as each theorem says. -/
import Derived.Test.YthnidhkfelfkdaaPebK
namespace Go.Proofs.Ythnidhkfelfkdaa.Mach
open Go
set_option linter.unusedVariables false
set_option linter.unusedSimpArgs false

def cbS (C : Nat → T_IntS) : Nat → Int
  | 0 => 0
  | i + 1 => cbS C i + 2 * (C i).1 - 3
def SKs (g : Nat → T_Bar) (nb N cn : Nat) (C : Nat → T_IntS) (i : Nat) : St :=
  ⟨[grG g nb N, .pt 2 0 0 0, .p .any, .p (.int .i64 (cbS C i)), .ar 1 1 0 cn, .p (.int .i64 i)] ++ List.replicate 21 anyA, [(0, bxG g nb N), (1, ssOb cn C)], 2⟩
def SKi (g : Nat → T_Bar) (nb N cn : Nat) (C : Nat → T_IntS) (i : Nat) : St :=
  ⟨[grG g nb N, .pt 2 0 0 0, .p .any, .p (.int .i64 (cbS C i))] ++ List.replicate 6 anyA ++ [.ar 1 1 0 cn, .p (.int .i64 cn), .p (.int .i64 i)] ++ List.replicate 11 anyA, [(0, bxG g nb N), (1, ssOb cn C)], 2⟩

theorem kSy (v : T_Graph) :
    pathOb Try.prog Try.f12 0 [.reg [oT, oT], .reg [oT, ⟨true, (some ⟨[], [], 1, [], .p (.bool false)⟩), none⟩, oT], .dec true, .reg [oT]] [.code (bodyOf Try.f12)] (start Try.f12 [] 0 [graphA v]) [] 1 [] (.p (.int .i64 (-1))) =
    some [((0 : Nat) < 1),
  Con (Try.prog) 35 0 [] [.agg [.p (.int .i64 (v.fst)), .p (.seq true 2 (v.snd.fst.fst) (fun i => [.int .i64 ((v.snd.fst.snd i).fst), .int .i64 ((v.snd.fst.snd i).snd.fst)]))]] [] (.p (.bool false)),
  ((!false) = true),
  (((-1) : Int) = (-1))] := by kernel_rfl
theorem kSz (g : Nat → T_Bar) (nb N cn : Nat) (C : Nat → T_IntS) :
    pieceOb Try.prog 0 [.reg [oT, oT], .reg [oT, ⟨true, (some ⟨[], [], 1, [], .p (.bool true)⟩), none⟩, oT], .dec false, .reg [oT], .reg [oT, ⟨true, (some ⟨[], [], 1, [(0, ssOb cn C)], .ar 1 0 0 cn⟩), none⟩, oT], .reg [oT], .head] [.code (bodyOf Try.f12)] (start Try.f12 [] 0 [grG g nb N]) [0, 224] 1 (SKs g nb N cn C 0) =
    some ([.code (cAt (bodyOf Try.f12) [1, 1, 1, 1, 0, 1, 0, 0]), .inLoop (cAt (bodyOf Try.f12) [1, 1, 1, 1, 0, 1, 0, 0]), .inBlock 0, .code (cAt (bodyOf Try.f12) [1, 1, 1, 1, 1])], [((0 : Nat) < 1),
  Con (Try.prog) 35 0 [] [.agg [.p (.int .i64 ((↑N : Int))), .p (.seq true 2 (nb) (fun i => [.int .i64 ((g i).fst), .int .i64 ((g i).snd.fst)]))]] [] (.p (.bool true)),
  ((!true) = false),
  ((0 : Nat) < 1),
  Con (Try.prog) 36 0 [] [.agg [.p (.int .i64 ((↑N : Int))), .p (.seq true 2 (nb) (fun i => [.int .i64 ((g i).fst), .int .i64 ((g i).snd.fst)]))]] [(0, ⟨false, 1, (cn), (fun i => [.p (.seq false 1 ((C i).fst) (fun i_1 => [.int .i64 ((C i).snd i_1)]))])⟩)] (.ar 1 0 0 (cn)),
  ((((↑N : Int)) : Int) = ((↑N : Int))),
  (((nb) : Nat) = (nb)),
  (∀ i : Nat, ((((i) : Nat) < (nb)) → (([.int .i64 ((g i).fst), .int .i64 ((g i).snd.fst)] : List PV) = [.int .i64 ((g i).fst), .int .i64 ((g i).snd.fst)]))),
  ((0 : Nat) = 0),
  ((0 : Int) = (cbS C 0)),
  ((0 : Nat) = 0),
  (((cn) : Nat) = (cn)),
  ((0 : Int) = ((↑0 : Int))),
  ((([AV.p (PV.int IntKind.i64 (↑N : Int)), brL g nb].length) : Nat) = 2),
  ((1 : Nat) ≤ 1),
  ((1 : Nat) ≤ 1),
  ((((↑N : Int)) : Int) = ((↑N : Int))),
  (((nb) : Nat) = (nb)),
  (∀ i : Nat, ((((i) : Nat) < (nb)) → (([.int .i64 ((g i).fst), .int .i64 ((g i).snd.fst)] : List PV) = [.int .i64 ((g i).fst), .int .i64 ((g i).snd.fst)]))),
  ((1 : Nat) = 1),
  (((cn) : Nat) ≤ (cn)),
  (∀ i : Nat, ((((i) : Nat) < (cn)) → (All [] ∧ (([.p (.seq false 1 ((C i).fst) (fun i_1 => [.int .i64 ((C i).snd i_1)]))] : List AV) = [.p (.seq false 1 ((C i).fst) (fun i_1 => [.int .i64 ((C i).snd i_1)]))]))))]) := by kernel_rfl
theorem kSl (g : Nat → T_Bar) (nb N cn : Nat) (C : Nat → T_IntS) (i : Nat) :
    pieceOb Try.prog 0 [.reg [oT, oT, oT, oT], .dec true, .reg [oT, oT, oT, oT, oT, oT, oT, oT, oT, oT], .reg [oT, oT, oT], .head] [.code (cAt (bodyOf Try.f12) [1, 1, 1, 1, 0, 1, 0, 0]), .inLoop (cAt (bodyOf Try.f12) [1, 1, 1, 1, 0, 1, 0, 0]), .inBlock 0, .code (cAt (bodyOf Try.f12) [1, 1, 1, 1, 1])] (SKs g nb N cn C i) [0, 1] 1 (SKs g nb N cn C (i + 1)) =
    some ([.code (cAt (bodyOf Try.f12) [1, 1, 1, 1, 0, 1, 0, 0]), .inLoop (cAt (bodyOf Try.f12) [1, 1, 1, 1, 0, 1, 0, 0]), .inBlock 0, .code (cAt (bodyOf Try.f12) [1, 1, 1, 1, 1])], [((decide ((↑i : Int) < (↑cn : Int))) = true),
  ((0 : Int) ≤ ((↑i : Int))),
  ((((↑i : Int)) : Int) < ((↑cn : Int))),
  (((i) : Nat) < (cn)),
  (((-9223372036854775808) : Int) ≤ (2 * (↑(C i).fst : Int))),
  (((2 * (↑(C i).fst : Int)) : Int) ≤ 9223372036854775807),
  (((-9223372036854775808) : Int) ≤ (cbS C i + 2 * (↑(C i).fst : Int))),
  (((cbS C i + 2 * (↑(C i).fst : Int)) : Int) ≤ 9223372036854775807),
  (((-9223372036854775808) : Int) ≤ (cbS C i + 2 * (↑(C i).fst : Int) - 3)),
  (((cbS C i + 2 * (↑(C i).fst : Int) - 3) : Int) ≤ 9223372036854775807),
  (((-9223372036854775808) : Int) ≤ ((↑i : Int) + 1)),
  ((((↑i : Int) + 1) : Int) ≤ 9223372036854775807),
  ((((↑N : Int)) : Int) = ((↑N : Int))),
  (((nb) : Nat) = (nb)),
  (∀ i_1 : Nat, ((((i_1) : Nat) < (nb)) → (([.int .i64 ((g i_1).fst), .int .i64 ((g i_1).snd.fst)] : List PV) = [.int .i64 ((g i_1).fst), .int .i64 ((g i_1).snd.fst)]))),
  ((0 : Nat) = 0),
  (((cbS C i + 2 * (↑(C i).fst : Int) - 3) : Int) = (cbS C (i + 1))),
  ((0 : Nat) = 0),
  (((cn) : Nat) = (cn)),
  ((((↑i : Int) + 1) : Int) = ((↑(i + 1) : Int))),
  ((2 : Nat) = 2),
  ((1 : Nat) ≤ 1),
  ((1 : Nat) ≤ 1),
  ((((↑N : Int)) : Int) = ((↑N : Int))),
  (((nb) : Nat) = (nb)),
  (∀ i_1 : Nat, ((((i_1) : Nat) < (nb)) → (([.int .i64 ((g i_1).fst), .int .i64 ((g i_1).snd.fst)] : List PV) = [.int .i64 ((g i_1).fst), .int .i64 ((g i_1).snd.fst)]))),
  ((1 : Nat) = 1),
  (((cn) : Nat) ≤ (cn)),
  (∀ i_1 : Nat, ((((i_1) : Nat) < (cn)) → (All [] ∧ (([.p (.seq false 1 ((C i_1).fst) (fun i_2 => [.int .i64 ((C i_1).snd i_2)]))] : List AV) = [.p (.seq false 1 ((C i_1).fst) (fun i_2 => [.int .i64 ((C i_1).snd i_2)]))]))))]) := by kernel_rfl
theorem kSe (g : Nat → T_Bar) (nb N cn : Nat) (C : Nat → T_IntS) (i : Nat) :
    pathOb Try.prog Try.f12 0 [.reg [oT, oT, oT, oT], .dec false, .reg [oT, oT]] [.code (cAt (bodyOf Try.f12) [1, 1, 1, 1, 0, 1, 0, 0]), .inLoop (cAt (bodyOf Try.f12) [1, 1, 1, 1, 0, 1, 0, 0]), .inBlock 0, .code (cAt (bodyOf Try.f12) [1, 1, 1, 1, 1])] (SKs g nb N cn C i) [] 1 [] (.p (.int .i64 (cbS C i))) =
    some [((decide ((↑i : Int) < (↑cn : Int))) = false),
  (((cbS C i) : Int) = (cbS C i))] := by kernel_rfl
theorem kIy (v : T_Graph) :
    pathOb Try.prog Try.f14 0 [.reg [oT, oT], .reg [oT, ⟨true, (some ⟨[], [], 1, [], .p (.bool false)⟩), none⟩, oT], .dec true, .reg [oT]] [.code (bodyOf Try.f14)] (start Try.f14 [] 0 [graphA v]) [] 1 [] (.p (.int .i64 (-1))) =
    some [((0 : Nat) < 1),
  Con (Try.prog) 38 0 [] [.agg [.p (.int .i64 (v.fst)), .p (.seq true 2 (v.snd.fst.fst) (fun i => [.int .i64 ((v.snd.fst.snd i).fst), .int .i64 ((v.snd.fst.snd i).snd.fst)]))]] [] (.p (.bool false)),
  ((!false) = true),
  (((-1) : Int) = (-1))] := by kernel_rfl
theorem kIz (g : Nat → T_Bar) (nb N cn : Nat) (C : Nat → T_IntS) :
    pieceOb Try.prog 0 [.reg [oT, oT], .reg [oT, ⟨true, (some ⟨[], [], 1, [], .p (.bool true)⟩), none⟩, oT], .dec false, .reg [oT], .reg [oT, ⟨true, (some ⟨[], [], 1, [(0, ssOb cn C)], .ar 1 0 0 cn⟩), none⟩, oT, oT], .head] [.code (bodyOf Try.f14)] (start Try.f14 [] 0 [grG g nb N]) [0, 224] 1 (SKi g nb N cn C 0) =
    some ([.code (cAt (bodyOf Try.f14) [1, 1, 1, 0, 1, 0, 0]), .inLoop (cAt (bodyOf Try.f14) [1, 1, 1, 0, 1, 0, 0]), .inBlock 0, .code (cAt (bodyOf Try.f14) [1, 1, 1, 1])], [((0 : Nat) < 1),
  Con (Try.prog) 38 0 [] [.agg [.p (.int .i64 ((↑N : Int))), .p (.seq true 2 (nb) (fun i => [.int .i64 ((g i).fst), .int .i64 ((g i).snd.fst)]))]] [] (.p (.bool true)),
  ((!true) = false),
  ((0 : Nat) < 1),
  Con (Try.prog) 39 0 [] [.agg [.p (.int .i64 ((↑N : Int))), .p (.seq true 2 (nb) (fun i => [.int .i64 ((g i).fst), .int .i64 ((g i).snd.fst)]))]] [(0, ⟨false, 1, (cn), (fun i => [.p (.seq false 1 ((C i).fst) (fun i_1 => [.int .i64 ((C i).snd i_1)]))])⟩)] (.ar 1 0 0 (cn)),
  ((((↑N : Int)) : Int) = ((↑N : Int))),
  (((nb) : Nat) = (nb)),
  (∀ i : Nat, ((((i) : Nat) < (nb)) → (([.int .i64 ((g i).fst), .int .i64 ((g i).snd.fst)] : List PV) = [.int .i64 ((g i).fst), .int .i64 ((g i).snd.fst)]))),
  ((0 : Nat) = 0),
  ((0 : Int) = (cbS C 0)),
  ((0 : Nat) = 0),
  (((cn) : Nat) = (cn)),
  ((((↑cn : Int)) : Int) = ((↑cn : Int))),
  ((0 : Int) = ((↑0 : Int))),
  ((([AV.p (PV.int IntKind.i64 (↑N : Int)), brL g nb].length) : Nat) = 2),
  ((1 : Nat) ≤ 1),
  ((1 : Nat) ≤ 1),
  ((((↑N : Int)) : Int) = ((↑N : Int))),
  (((nb) : Nat) = (nb)),
  (∀ i : Nat, ((((i) : Nat) < (nb)) → (([.int .i64 ((g i).fst), .int .i64 ((g i).snd.fst)] : List PV) = [.int .i64 ((g i).fst), .int .i64 ((g i).snd.fst)]))),
  ((1 : Nat) = 1),
  (((cn) : Nat) ≤ (cn)),
  (∀ i : Nat, ((((i) : Nat) < (cn)) → (All [] ∧ (([.p (.seq false 1 ((C i).fst) (fun i_1 => [.int .i64 ((C i).snd i_1)]))] : List AV) = [.p (.seq false 1 ((C i).fst) (fun i_1 => [.int .i64 ((C i).snd i_1)]))]))))]) := by kernel_rfl
theorem kIl (g : Nat → T_Bar) (nb N cn : Nat) (C : Nat → T_IntS) (i : Nat) :
    pieceOb Try.prog 0 [.reg [oT], .dec true, .reg [oT, oT, oT], .reg [oT, oT, oT, oT, oT, oT, oT], .reg [oT, oT], .head] [.code (cAt (bodyOf Try.f14) [1, 1, 1, 0, 1, 0, 0]), .inLoop (cAt (bodyOf Try.f14) [1, 1, 1, 0, 1, 0, 0]), .inBlock 0, .code (cAt (bodyOf Try.f14) [1, 1, 1, 1])] (SKi g nb N cn C i) [0, 1] 1 (SKi g nb N cn C (i + 1)) =
    some ([.code (cAt (bodyOf Try.f14) [1, 1, 1, 0, 1, 0, 0]), .inLoop (cAt (bodyOf Try.f14) [1, 1, 1, 0, 1, 0, 0]), .inBlock 0, .code (cAt (bodyOf Try.f14) [1, 1, 1, 1])], [((decide ((↑i : Int) < (↑cn : Int))) = true),
  ((0 : Int) ≤ ((↑i : Int))),
  ((((↑i : Int)) : Int) < ((↑cn : Int))),
  (((i) : Nat) < (cn)),
  (((-9223372036854775808) : Int) ≤ (2 * (↑(C i).fst : Int))),
  (((2 * (↑(C i).fst : Int)) : Int) ≤ 9223372036854775807),
  (((-9223372036854775808) : Int) ≤ (cbS C i + 2 * (↑(C i).fst : Int))),
  (((cbS C i + 2 * (↑(C i).fst : Int)) : Int) ≤ 9223372036854775807),
  (((-9223372036854775808) : Int) ≤ (cbS C i + 2 * (↑(C i).fst : Int) - 3)),
  (((cbS C i + 2 * (↑(C i).fst : Int) - 3) : Int) ≤ 9223372036854775807),
  (((-9223372036854775808) : Int) ≤ ((↑i : Int) + 1)),
  ((((↑i : Int) + 1) : Int) ≤ 9223372036854775807),
  ((((↑N : Int)) : Int) = ((↑N : Int))),
  (((nb) : Nat) = (nb)),
  (∀ i_1 : Nat, ((((i_1) : Nat) < (nb)) → (([.int .i64 ((g i_1).fst), .int .i64 ((g i_1).snd.fst)] : List PV) = [.int .i64 ((g i_1).fst), .int .i64 ((g i_1).snd.fst)]))),
  ((0 : Nat) = 0),
  (((cbS C i + 2 * (↑(C i).fst : Int) - 3) : Int) = (cbS C (i + 1))),
  ((0 : Nat) = 0),
  (((cn) : Nat) = (cn)),
  ((((↑cn : Int)) : Int) = ((↑cn : Int))),
  ((((↑i : Int) + 1) : Int) = ((↑(i + 1) : Int))),
  ((2 : Nat) = 2),
  ((1 : Nat) ≤ 1),
  ((1 : Nat) ≤ 1),
  ((((↑N : Int)) : Int) = ((↑N : Int))),
  (((nb) : Nat) = (nb)),
  (∀ i_1 : Nat, ((((i_1) : Nat) < (nb)) → (([.int .i64 ((g i_1).fst), .int .i64 ((g i_1).snd.fst)] : List PV) = [.int .i64 ((g i_1).fst), .int .i64 ((g i_1).snd.fst)]))),
  ((1 : Nat) = 1),
  (((cn) : Nat) ≤ (cn)),
  (∀ i_1 : Nat, ((((i_1) : Nat) < (cn)) → (All [] ∧ (([.p (.seq false 1 ((C i_1).fst) (fun i_2 => [.int .i64 ((C i_1).snd i_2)]))] : List AV) = [.p (.seq false 1 ((C i_1).fst) (fun i_2 => [.int .i64 ((C i_1).snd i_2)]))]))))]) := by kernel_rfl
theorem kIe (g : Nat → T_Bar) (nb N cn : Nat) (C : Nat → T_IntS) (i : Nat) :
    pathOb Try.prog Try.f14 0 [.reg [oT], .dec false, .reg [oT, oT]] [.code (cAt (bodyOf Try.f14) [1, 1, 1, 0, 1, 0, 0]), .inLoop (cAt (bodyOf Try.f14) [1, 1, 1, 0, 1, 0, 0]), .inBlock 0, .code (cAt (bodyOf Try.f14) [1, 1, 1, 1])] (SKi g nb N cn C i) [] 1 [] (.p (.int .i64 (cbS C i))) =
    some [((decide ((↑i : Int) < (↑cn : Int))) = false),
  (((cbS C i) : Int) = (cbS C i))] := by kernel_rfl

theorem graph_cases (v : T_Graph) (h : isGraphF v = true) : ∃ (N nb : Nat) (g : Nat → T_Bar), v = ((N : Int), (nb, g), ()) := by
  obtain ⟨v1, ⟨nb, g⟩, ⟨⟩⟩ := v
  have h1 : 0 ≤ v1 := by
    unfold isGraphF at h
    split at h
    · rename_i hc
      have := hc.1
      simp [inB] at this
      omega
    · cases h
  exact ⟨v1.toNat, nb, g, by rw [Int.toNat_of_nonneg h1]⟩

noncomputable def compsG (v : T_Graph) : Nat × (Nat → T_IntS) := if isGraphF v = true then compsD v.1.toNat v.2.1.1 v.2.1.2 v.2.1.1 else (0, fun _ => (0, fun _ => 0))
noncomputable def cbF (v : T_Graph) : Int := if isGraphF v = true then cbS (compsG v).2 (compsG v).1 else -1

theorem cbS_le {N : Nat} (C : Nat → T_IntS) : ∀ n, (∀ j, j < n → (C j).1 ≤ N) → -3 * (n : Int) ≤ cbS C n ∧ cbS C n ≤ 2 * N * n
  | 0, _ => by simp [cbS]
  | n + 1, h => by
    obtain ⟨h1, h2⟩ := cbS_le (N := N) C n (fun j hj => h j (by omega))
    have h3 := h n (by omega)
    simp only [cbS]
    have e : 2 * (N : Int) * ((n + 1 : Nat) : Int) = 2 * N * n + 2 * N := by
      rw [Int.natCast_succ, Int.mul_add, Int.mul_one]
    rw [e]
    constructor <;> omega

theorem con_CountByBodies_s (v : T_Graph) (hs : smS s_Graph v) : Con Try.prog 12 0 [] [graphA v] [] (.p (.int .i64 (cbF v))) := by
  cases hg : isGraphF v with
  | false =>
    have hcg := con_IsGraph_s v hs
    rw [hg] at hcg
    rw [show cbF v = -1 by simp [cbF, hg]]
    refine con_start Try.func12 rfl (by kernel_rfl) rfl (fun c hc => ?_)
    refine path_ok mixed Try.func12 hc (kSy v) ?_
    simp only [All]
    repeat' (first | exact trivial | with_reducible apply And.intro)
    all_goals (first | omega | rfl | (intros; first | assumption | exact True.intro | rfl | exact absurd (show false = true by assumption) Bool.false_ne_true | ((repeat' (first | assumption | apply anda | apply notf)); done)) | (exact hcg) | (simp; done))
  | true =>
    obtain ⟨N, nb, g, rfl⟩ := graph_cases v hg
    have hcg := con_IsGraph_s _ hs
    rw [hg] at hcg
    have hcs := con_ComponentsOf_s hg
    obtain ⟨hN, hnb, _⟩ := graph_in hg
    obtain ⟨hcn, hC⟩ := compsD_le N nb g nb
    rw [show cbF ((N : Int), (nb, g), ()) = cbS (compsD N nb g nb).2 (compsD N nb g nb).1 by simp [cbF, compsG, hg]]
    refine con_start Try.func12 rfl (by kernel_rfl) rfl (fun c hc => ?_)
    have lp : ∀ d i, i + d = (compsD N nb g nb).1 → Run Try.prog c 12 [.code (cAt (bodyOf Try.f12) [1, 1, 1, 1, 0, 1, 0, 0]), .inLoop (cAt (bodyOf Try.f12) [1, 1, 1, 1, 0, 1, 0, 0]), .inBlock 0, .code (cAt (bodyOf Try.f12) [1, 1, 1, 1, 1])] (SKs g nb N (compsD N nb g nb).1 (compsD N nb g nb).2 i) (Post c [] (.p (.int .i64 (cbS (compsD N nb g nb).2 (compsD N nb g nb).1)))) := by
      intro d
      induction d with
      | zero =>
        intro i hi
        have hi' : i = (compsD N nb g nb).1 := by omega
        have hd : decide ((i : Int) < ((compsD N nb g nb).1 : Int)) = false := by simp; omega
        rw [← hi']
        refine path_ok mixed Try.func12 hc (kSe g nb N _ (compsD N nb g nb).2 i) ?_
        simp only [All]
        repeat' (first | exact trivial | with_reducible apply And.intro)
        all_goals (first | omega | rfl | (intros; first | assumption | exact True.intro | rfl | exact absurd (show false = true by assumption) Bool.false_ne_true | ((repeat' (first | assumption | apply anda | apply notf)); done)) | (rw [← hi']; simp; done) | (exact hd) | (simp; done))
      | succ d ih =>
        intro i hi
        have hd : decide ((i : Int) < ((compsD N nb g nb).1 : Int)) = true := by simp; omega
        have hb := cbS_le (N := 8) (compsD N nb g nb).2 i (fun j hj => by have := hC j (by omega); omega)
        have hl := hC i (by omega)
        refine piece_ok mixed hc (kSl g nb N _ (compsD N nb g nb).2 i) ?_ (ih (i + 1) (by omega))
        simp only [All]
        repeat' (first | exact trivial | with_reducible apply And.intro)
        all_goals (first | omega | rfl | (intros; first | assumption | exact True.intro | rfl | exact absurd (show false = true by assumption) Bool.false_ne_true | ((repeat' (first | assumption | apply anda | apply notf)); done)) | (exact hd) | (simp only [cbS]; omega) | (intro j hj; simp [All]))
    refine piece_ok mixed hc (kSz g nb N _ (compsD N nb g nb).2) ?_ (lp (compsD N nb g nb).1 0 (by omega))
    simp only [All]
    repeat' (first | exact trivial | with_reducible apply And.intro)
    all_goals (first | omega | rfl | (intros; first | assumption | exact True.intro | rfl | exact absurd (show false = true by assumption) Bool.false_ne_true | ((repeat' (first | assumption | apply anda | apply notf)); done)) | (exact hcg) | (exact hcs) | (intro j hj; simp [All]))

theorem con_CountByBodies_i (v : T_Graph) (hs : smS s_Graph v) : Con Try.prog 14 0 [] [graphA v] [] (.p (.int .i64 (cbF v))) := by
  cases hg : isGraphF v with
  | false =>
    have hcg := con_IsGraph_i v hs
    rw [hg] at hcg
    rw [show cbF v = -1 by simp [cbF, hg]]
    refine con_start Try.func14 rfl (by kernel_rfl) rfl (fun c hc => ?_)
    refine path_ok mixed Try.func14 hc (kIy v) ?_
    simp only [All]
    repeat' (first | exact trivial | with_reducible apply And.intro)
    all_goals (first | omega | rfl | (intros; first | assumption | exact True.intro | rfl | exact absurd (show false = true by assumption) Bool.false_ne_true | ((repeat' (first | assumption | apply anda | apply notf)); done)) | (exact hcg) | (simp; done))
  | true =>
    obtain ⟨N, nb, g, rfl⟩ := graph_cases v hg
    have hcg := con_IsGraph_i _ hs
    rw [hg] at hcg
    have hcs := con_ComponentsOf_i hg
    obtain ⟨hN, hnb, _⟩ := graph_in hg
    obtain ⟨hcn, hC⟩ := compsD_le N nb g nb
    rw [show cbF ((N : Int), (nb, g), ()) = cbS (compsD N nb g nb).2 (compsD N nb g nb).1 by simp [cbF, compsG, hg]]
    refine con_start Try.func14 rfl (by kernel_rfl) rfl (fun c hc => ?_)
    have lp : ∀ d i, i + d = (compsD N nb g nb).1 → Run Try.prog c 14 [.code (cAt (bodyOf Try.f14) [1, 1, 1, 0, 1, 0, 0]), .inLoop (cAt (bodyOf Try.f14) [1, 1, 1, 0, 1, 0, 0]), .inBlock 0, .code (cAt (bodyOf Try.f14) [1, 1, 1, 1])] (SKi g nb N (compsD N nb g nb).1 (compsD N nb g nb).2 i) (Post c [] (.p (.int .i64 (cbS (compsD N nb g nb).2 (compsD N nb g nb).1)))) := by
      intro d
      induction d with
      | zero =>
        intro i hi
        have hi' : i = (compsD N nb g nb).1 := by omega
        have hd : decide ((i : Int) < ((compsD N nb g nb).1 : Int)) = false := by simp; omega
        rw [← hi']
        refine path_ok mixed Try.func14 hc (kIe g nb N _ (compsD N nb g nb).2 i) ?_
        simp only [All]
        repeat' (first | exact trivial | with_reducible apply And.intro)
        all_goals (first | omega | rfl | (intros; first | assumption | exact True.intro | rfl | exact absurd (show false = true by assumption) Bool.false_ne_true | ((repeat' (first | assumption | apply anda | apply notf)); done)) | (rw [← hi']; simp; done) | (exact hd) | (simp; done))
      | succ d ih =>
        intro i hi
        have hd : decide ((i : Int) < ((compsD N nb g nb).1 : Int)) = true := by simp; omega
        have hb := cbS_le (N := 8) (compsD N nb g nb).2 i (fun j hj => by have := hC j (by omega); omega)
        have hl := hC i (by omega)
        refine piece_ok mixed hc (kIl g nb N _ (compsD N nb g nb).2 i) ?_ (ih (i + 1) (by omega))
        simp only [All]
        repeat' (first | exact trivial | with_reducible apply And.intro)
        all_goals (first | omega | rfl | (intros; first | assumption | exact True.intro | rfl | exact absurd (show false = true by assumption) Bool.false_ne_true | ((repeat' (first | assumption | apply anda | apply notf)); done)) | (exact hd) | (simp only [cbS]; omega) | (intro j hj; simp [All]))
    refine piece_ok mixed hc (kIz g nb N _ (compsD N nb g nb).2) ?_ (lp (compsD N nb g nb).1 0 (by omega))
    simp only [All]
    repeat' (first | exact trivial | with_reducible apply And.intro)
    all_goals (first | omega | rfl | (intros; first | assumption | exact True.intro | rfl | exact absurd (show false = true by assumption) Bool.false_ne_true | ((repeat' (first | assumption | apply anda | apply notf)); done)) | (exact hcg) | (exact hcs) | (intro j hj; simp [All]))

end Go.Proofs.Ythnidhkfelfkdaa.Mach
