/- Whether a pinned graph and a site are ones: both programs compute the same. Conditions: as each theorem says. -/
import Derived.Test.YtgdbnnmogddkaaaGraph
import Derived.Test.YtgdbnnmogddkaaaHas
namespace Go.Proofs.Ytgdbnnmogddkaaa.Mach
open Go
set_option linter.unusedVariables false
set_option linter.unusedSimpArgs false

def dblB (g : Nat → T_Bar) : Nat → Bool
  | 0 => false
  | k + 1 => dblB g k || (decide (1 ≤ k) && q1_BarS (g ((k : Int) - 1).toNat) (g k))
def simpleF (v : T_Graph) : Bool := !dblB v.2.1.2 v.2.1.1 && isGraphF v
def S86 (v : T_Graph) (k : Nat) : St :=
  ⟨[graphA v, .pt 2 0 0 0, .p .any, .p (.int .i64 k)] ++ List.replicate 21 anyA, [(0, boxG v)], 1⟩
def S88 (v : T_Graph) (k : Nat) : St :=
  ⟨[graphA v, .pt 2 0 0 0, .p .any, .p (.int .i64 k)] ++ List.replicate 19 anyA, [(0, boxG v)], 1⟩

theorem p86a (v : T_Graph) :
    pieceOb Try.prog 0 [.reg [oT, oT], .reg [oT], .head] [.code (bodyOf Try.f94)] (start Try.f94 [] 0 [graphA v]) [0] 1 (S86 v 1) =
    some ([.code (cAt (bodyOf Try.f94) [1, 0, 1, 0, 0]), .inLoop (cAt (bodyOf Try.f94) [1, 0, 1, 0, 0]), .inBlock 0, .code (cAt (bodyOf Try.f94) [1, 1])], [(((v.fst) : Int) = (v.fst)),
  (((v.snd.fst.fst) : Nat) = (v.snd.fst.fst)),
  (∀ i : Nat, ((((i) : Nat) < (v.snd.fst.fst)) → (([.int .i64 ((v.snd.fst.snd i).fst), .int .i64 ((v.snd.fst.snd i).snd.fst)] : List PV) = [.int .i64 ((v.snd.fst.snd i).fst), .int .i64 ((v.snd.fst.snd i).snd.fst)]))),
  ((0 : Nat) = 0),
  ((1 : Int) = ((↑1 : Int))),
  ((([AV.p (PV.int IntKind.i64 v.fst), graphL v.snd.fst].length) : Nat) = 2),
  ((1 : Nat) ≤ 1),
  ((1 : Nat) ≤ 1),
  (((v.fst) : Int) = (v.fst)),
  (((v.snd.fst.fst) : Nat) = (v.snd.fst.fst)),
  (∀ i : Nat, ((((i) : Nat) < (v.snd.fst.fst)) → (([.int .i64 ((v.snd.fst.snd i).fst), .int .i64 ((v.snd.fst.snd i).snd.fst)] : List PV) = [.int .i64 ((v.snd.fst.snd i).fst), .int .i64 ((v.snd.fst.snd i).snd.fst)])))]) := by kernel_rfl
theorem p86b (v : T_Graph) (k : Nat) :
    pieceOb Try.prog 0 [.reg [oT, oT, oT, oT, oT], .dec true, .reg [oT, oT, oT, oT, oT, oT, oT, oT, oT, oT, oT, oT], .dec false, .reg [oT, oT, oT], .head] [.code (cAt (bodyOf Try.f94) [1, 0, 1, 0, 0]), .inLoop (cAt (bodyOf Try.f94) [1, 0, 1, 0, 0]), .inBlock 0, .code (cAt (bodyOf Try.f94) [1, 1])] (S86 v k) [0] 1 (S86 v (k + 1)) =
    some ([.code (cAt (bodyOf Try.f94) [1, 0, 1, 0, 0]), .inLoop (cAt (bodyOf Try.f94) [1, 0, 1, 0, 0]), .inBlock 0, .code (cAt (bodyOf Try.f94) [1, 1])], [((0 : Nat) < 1),
  ((decide ((↑k : Int) < (↑v.snd.fst.fst : Int))) = true),
  ((0 : Nat) < 1),
  (((-9223372036854775808) : Int) ≤ ((↑k : Int) - 1)),
  ((((↑k : Int) - 1) : Int) ≤ 9223372036854775807),
  ((0 : Int) ≤ ((↑k : Int) - 1)),
  ((((↑k : Int) - 1) : Int) < ((↑v.snd.fst.fst : Int))),
  ((0 : Nat) < 1),
  ((0 : Int) ≤ ((↑k : Int))),
  ((((↑k : Int)) : Int) < ((↑v.snd.fst.fst : Int))),
  (((v.snd.fst.snd ((↑k : Int) - 1).toNat).fst == (v.snd.fst.snd k).fst && ((v.snd.fst.snd ((↑k : Int) - 1).toNat).snd.fst == (v.snd.fst.snd k).snd.fst && true)) = false),
  (((-9223372036854775808) : Int) ≤ ((↑k : Int) + 1)),
  ((((↑k : Int) + 1) : Int) ≤ 9223372036854775807),
  (((v.fst) : Int) = (v.fst)),
  (((v.snd.fst.fst) : Nat) = (v.snd.fst.fst)),
  (∀ i : Nat, ((((i) : Nat) < (v.snd.fst.fst)) → (([.int .i64 ((v.snd.fst.snd i).fst), .int .i64 ((v.snd.fst.snd i).snd.fst)] : List PV) = [.int .i64 ((v.snd.fst.snd i).fst), .int .i64 ((v.snd.fst.snd i).snd.fst)]))),
  ((0 : Nat) = 0),
  ((((↑k : Int) + 1) : Int) = ((↑(k + 1) : Int))),
  ((2 : Nat) = 2),
  ((1 : Nat) ≤ 1),
  ((1 : Nat) ≤ 1),
  (((v.fst) : Int) = (v.fst)),
  (((v.snd.fst.fst) : Nat) = (v.snd.fst.fst)),
  (∀ i : Nat, ((((i) : Nat) < (v.snd.fst.fst)) → (([.int .i64 ((v.snd.fst.snd i).fst), .int .i64 ((v.snd.fst.snd i).snd.fst)] : List PV) = [.int .i64 ((v.snd.fst.snd i).fst), .int .i64 ((v.snd.fst.snd i).snd.fst)])))]) := by kernel_rfl
theorem p86c (v : T_Graph) (k : Nat) :
    pathOb Try.prog Try.f94 0 [.reg [oT, oT, oT, oT, oT], .dec true, .reg [oT, oT, oT, oT, oT, oT, oT, oT, oT, oT, oT, oT], .dec true, .reg [oT]] [.code (cAt (bodyOf Try.f94) [1, 0, 1, 0, 0]), .inLoop (cAt (bodyOf Try.f94) [1, 0, 1, 0, 0]), .inBlock 0, .code (cAt (bodyOf Try.f94) [1, 1])] (S86 v k) [] 1 [] (.p (.bool false)) =
    some [((0 : Nat) < 1),
  ((decide ((↑k : Int) < (↑v.snd.fst.fst : Int))) = true),
  ((0 : Nat) < 1),
  (((-9223372036854775808) : Int) ≤ ((↑k : Int) - 1)),
  ((((↑k : Int) - 1) : Int) ≤ 9223372036854775807),
  ((0 : Int) ≤ ((↑k : Int) - 1)),
  ((((↑k : Int) - 1) : Int) < ((↑v.snd.fst.fst : Int))),
  ((0 : Nat) < 1),
  ((0 : Int) ≤ ((↑k : Int))),
  ((((↑k : Int)) : Int) < ((↑v.snd.fst.fst : Int))),
  (((v.snd.fst.snd ((↑k : Int) - 1).toNat).fst == (v.snd.fst.snd k).fst && ((v.snd.fst.snd ((↑k : Int) - 1).toNat).snd.fst == (v.snd.fst.snd k).snd.fst && true)) = true),
  (false = false)] := by kernel_rfl
theorem p86d (v : T_Graph) (k : Nat) :
    pathOb Try.prog Try.f94 0 [.reg [oT, oT, oT, oT, oT], .dec false, .reg [oT, ⟨true, (some ⟨[], [], 1, [], .p (.bool (isGraphF v))⟩), none⟩, oT]] [.code (cAt (bodyOf Try.f94) [1, 0, 1, 0, 0]), .inLoop (cAt (bodyOf Try.f94) [1, 0, 1, 0, 0]), .inBlock 0, .code (cAt (bodyOf Try.f94) [1, 1])] (S86 v k) [] 1 [] (.p (.bool (isGraphF v))) =
    some [((0 : Nat) < 1),
  ((decide ((↑k : Int) < (↑v.snd.fst.fst : Int))) = false),
  ((0 : Nat) < 1),
  Con (Try.prog) 73 0 [] [.agg [.p (.int .i64 (v.fst)), .p (.seq true 2 (v.snd.fst.fst) (fun i => [.int .i64 ((v.snd.fst.snd i).fst), .int .i64 ((v.snd.fst.snd i).snd.fst)]))]] [] (.p (.bool (isGraphF v))),
  ((isGraphF v) = (isGraphF v))] := by kernel_rfl
theorem p88a (v : T_Graph) :
    pieceOb Try.prog 0 [.reg [oT, oT], .reg [oT], .head] [.code (bodyOf Try.f100)] (start Try.f100 [] 0 [graphA v]) [0] 1 (S88 v 1) =
    some ([.code (cAt (bodyOf Try.f100) [1, 0, 1, 0, 0]), .inLoop (cAt (bodyOf Try.f100) [1, 0, 1, 0, 0]), .inBlock 0, .code (cAt (bodyOf Try.f100) [1, 1])], [(((v.fst) : Int) = (v.fst)),
  (((v.snd.fst.fst) : Nat) = (v.snd.fst.fst)),
  (∀ i : Nat, ((((i) : Nat) < (v.snd.fst.fst)) → (([.int .i64 ((v.snd.fst.snd i).fst), .int .i64 ((v.snd.fst.snd i).snd.fst)] : List PV) = [.int .i64 ((v.snd.fst.snd i).fst), .int .i64 ((v.snd.fst.snd i).snd.fst)]))),
  ((0 : Nat) = 0),
  ((1 : Int) = ((↑1 : Int))),
  ((([AV.p (PV.int IntKind.i64 v.fst), graphL v.snd.fst].length) : Nat) = 2),
  ((1 : Nat) ≤ 1),
  ((1 : Nat) ≤ 1),
  (((v.fst) : Int) = (v.fst)),
  (((v.snd.fst.fst) : Nat) = (v.snd.fst.fst)),
  (∀ i : Nat, ((((i) : Nat) < (v.snd.fst.fst)) → (([.int .i64 ((v.snd.fst.snd i).fst), .int .i64 ((v.snd.fst.snd i).snd.fst)] : List PV) = [.int .i64 ((v.snd.fst.snd i).fst), .int .i64 ((v.snd.fst.snd i).snd.fst)])))]) := by kernel_rfl
theorem p88b (v : T_Graph) (k : Nat) :
    pieceOb Try.prog 0 [.reg [oT, oT, oT, oT, oT], .dec true, .reg [oT, oT, oT, oT, oT, oT, oT, oT, oT, oT, oT, oT], .dec false, .reg [oT, oT, oT], .head] [.code (cAt (bodyOf Try.f100) [1, 0, 1, 0, 0]), .inLoop (cAt (bodyOf Try.f100) [1, 0, 1, 0, 0]), .inBlock 0, .code (cAt (bodyOf Try.f100) [1, 1])] (S88 v k) [0] 1 (S88 v (k + 1)) =
    some ([.code (cAt (bodyOf Try.f100) [1, 0, 1, 0, 0]), .inLoop (cAt (bodyOf Try.f100) [1, 0, 1, 0, 0]), .inBlock 0, .code (cAt (bodyOf Try.f100) [1, 1])], [((0 : Nat) < 1),
  ((decide ((↑k : Int) < (↑v.snd.fst.fst : Int))) = true),
  ((0 : Nat) < 1),
  (((-9223372036854775808) : Int) ≤ ((↑k : Int) - 1)),
  ((((↑k : Int) - 1) : Int) ≤ 9223372036854775807),
  ((0 : Int) ≤ ((↑k : Int) - 1)),
  ((((↑k : Int) - 1) : Int) < ((↑v.snd.fst.fst : Int))),
  ((0 : Nat) < 1),
  ((0 : Int) ≤ ((↑k : Int))),
  ((((↑k : Int)) : Int) < ((↑v.snd.fst.fst : Int))),
  (((v.snd.fst.snd ((↑k : Int) - 1).toNat).fst == (v.snd.fst.snd k).fst && ((v.snd.fst.snd ((↑k : Int) - 1).toNat).snd.fst == (v.snd.fst.snd k).snd.fst && true)) = false),
  (((-9223372036854775808) : Int) ≤ ((↑k : Int) + 1)),
  ((((↑k : Int) + 1) : Int) ≤ 9223372036854775807),
  (((v.fst) : Int) = (v.fst)),
  (((v.snd.fst.fst) : Nat) = (v.snd.fst.fst)),
  (∀ i : Nat, ((((i) : Nat) < (v.snd.fst.fst)) → (([.int .i64 ((v.snd.fst.snd i).fst), .int .i64 ((v.snd.fst.snd i).snd.fst)] : List PV) = [.int .i64 ((v.snd.fst.snd i).fst), .int .i64 ((v.snd.fst.snd i).snd.fst)]))),
  ((0 : Nat) = 0),
  ((((↑k : Int) + 1) : Int) = ((↑(k + 1) : Int))),
  ((2 : Nat) = 2),
  ((1 : Nat) ≤ 1),
  ((1 : Nat) ≤ 1),
  (((v.fst) : Int) = (v.fst)),
  (((v.snd.fst.fst) : Nat) = (v.snd.fst.fst)),
  (∀ i : Nat, ((((i) : Nat) < (v.snd.fst.fst)) → (([.int .i64 ((v.snd.fst.snd i).fst), .int .i64 ((v.snd.fst.snd i).snd.fst)] : List PV) = [.int .i64 ((v.snd.fst.snd i).fst), .int .i64 ((v.snd.fst.snd i).snd.fst)])))]) := by kernel_rfl
theorem p88c (v : T_Graph) (k : Nat) :
    pathOb Try.prog Try.f100 0 [.reg [oT, oT, oT, oT, oT], .dec true, .reg [oT, oT, oT, oT, oT, oT, oT, oT, oT, oT, oT, oT], .dec true, .reg [oT]] [.code (cAt (bodyOf Try.f100) [1, 0, 1, 0, 0]), .inLoop (cAt (bodyOf Try.f100) [1, 0, 1, 0, 0]), .inBlock 0, .code (cAt (bodyOf Try.f100) [1, 1])] (S88 v k) [] 1 [] (.p (.bool true)) =
    some [((0 : Nat) < 1),
  ((decide ((↑k : Int) < (↑v.snd.fst.fst : Int))) = true),
  ((0 : Nat) < 1),
  (((-9223372036854775808) : Int) ≤ ((↑k : Int) - 1)),
  ((((↑k : Int) - 1) : Int) ≤ 9223372036854775807),
  ((0 : Int) ≤ ((↑k : Int) - 1)),
  ((((↑k : Int) - 1) : Int) < ((↑v.snd.fst.fst : Int))),
  ((0 : Nat) < 1),
  ((0 : Int) ≤ ((↑k : Int))),
  ((((↑k : Int)) : Int) < ((↑v.snd.fst.fst : Int))),
  (((v.snd.fst.snd ((↑k : Int) - 1).toNat).fst == (v.snd.fst.snd k).fst && ((v.snd.fst.snd ((↑k : Int) - 1).toNat).snd.fst == (v.snd.fst.snd k).snd.fst && true)) = true),
  (true = true)] := by kernel_rfl
theorem p88d (v : T_Graph) (k : Nat) :
    pathOb Try.prog Try.f100 0 [.reg [oT, oT, oT, oT, oT], .dec false, .reg [oT]] [.code (cAt (bodyOf Try.f100) [1, 0, 1, 0, 0]), .inLoop (cAt (bodyOf Try.f100) [1, 0, 1, 0, 0]), .inBlock 0, .code (cAt (bodyOf Try.f100) [1, 1])] (S88 v k) [] 1 [] (.p (.bool false)) =
    some [((0 : Nat) < 1),
  ((decide ((↑k : Int) < (↑v.snd.fst.fst : Int))) = false),
  (false = false)] := by kernel_rfl
theorem p89 (v : T_Graph) (p : Int) :
    pathOb Try.prog Try.f101 0 [.reg [oT, oT], .reg [oT, oT, oT, oT, ⟨true, (some ⟨[], [], 1, [], .p (.bool (inB p 0 (v.1 - 1)))⟩), none⟩, oT]] [.code (bodyOf Try.f101)] (start Try.f101 [] 0 [graphA v, .p (.int .i64 p)]) [] 1 [] (.p (.bool (inB p 0 (v.1 - 1)))) =
    some [((0 : Nat) < 1),
  (((-9223372036854775808) : Int) ≤ (v.fst - 1)),
  (((v.fst - 1) : Int) ≤ 9223372036854775807),
  Con (Try.prog) 115 0 [] [.p (.int .i64 (p)), .p (.int .i64 0), .p (.int .i64 (v.fst - 1))] [] (.p (.bool (inB p 0 (v.fst - 1)))),
  ((inB p 0 (v.fst - 1)) = (inB p 0 (v.fst - 1)))] := by kernel_rfl

theorem dblB_hit (g : Nat → T_Bar) (k : Nat) (h1 : 1 ≤ k) (h : q1_BarS (g ((k : Int) - 1).toNat) (g k) = true) : ∀ n, k < n → dblB g n = true
  | 0, h' => by omega
  | n + 1, h' => by
    by_cases e : k = n
    · subst e; rw [dblB, h, decide_eq_true h1]; simp
    · simp [dblB, dblB_hit g k h1 h n (by omega)]

theorem con_l17Simple (v : T_Graph) (hs : smS s_Graph v) : Con Try.prog 94 0 [] [graphA v] [] (.p (.bool (simpleF v))) := by
  refine con_start Try.func94 rfl (by kernel_rfl) rfl (fun c hc => ?_)
  have hn : v.2.1.1 ≤ 1048576 := hs.2.1.1
  have lp : ∀ m k, 1 ≤ k → v.2.1.1 ≤ k + m → k ≤ 1048577 → dblB v.2.1.2 (min k v.2.1.1) = false → Run Try.prog c 94 [.code (cAt (bodyOf Try.f94) [1, 0, 1, 0, 0]), .inLoop (cAt (bodyOf Try.f94) [1, 0, 1, 0, 0]), .inBlock 0, .code (cAt (bodyOf Try.f94) [1, 1])] (S86 v k) (Post c [] (.p (.bool (simpleF v)))) := by
    intro m
    induction m with
    | zero =>
      intro k h1 hk hk2 hg
      have hd : decide ((k : Int) < (v.2.1.1 : Int)) = false := by simp; omega
      rw [show min k v.2.1.1 = v.2.1.1 by omega] at hg
      rw [show simpleF v = isGraphF v by simp [simpleF, hg]]
      refine path_ok mixed Try.func94 hc (p86d v k) ?_
      simp only [All]
      repeat' (first | exact trivial | with_reducible apply And.intro)
      all_goals (first | omega | rfl | (intros; first | assumption | exact True.intro | rfl | exact absurd (show false = true by assumption) Bool.false_ne_true | ((repeat' (first | assumption | apply anda | apply notf)); done)) | (exact con_IsGraph_s v hs))
    | succ m ih =>
      intro k h1 hk hk2 hg
      by_cases hkn : k < v.2.1.1
      · have hd : decide ((k : Int) < (v.2.1.1 : Int)) = true := by simp; omega
        rw [show min k v.2.1.1 = k by omega] at hg
        cases he : q1_BarS (v.2.1.2 ((k : Int) - 1).toNat) (v.2.1.2 k) with
        | true =>
          rw [show simpleF v = false by simp [simpleF, dblB_hit v.2.1.2 k h1 he v.2.1.1 hkn]]
          refine path_ok mixed Try.func94 hc (p86c v k) ?_
          simp only [All]
          repeat' (first | exact trivial | with_reducible apply And.intro)
          all_goals (first | omega | rfl | (intros; first | assumption | exact True.intro | rfl | exact absurd (show false = true by assumption) Bool.false_ne_true | ((repeat' (first | assumption | apply anda | apply notf)); done)) | (exact he))
        | false =>
          refine piece_ok mixed hc (p86b v k) ?_ (ih (k + 1) (by omega) (by omega) (by omega) (by rw [show min (k + 1) v.2.1.1 = k + 1 by omega]; rw [dblB, hg, he]; simp))
          simp only [All]
          repeat' (first | exact trivial | with_reducible apply And.intro)
          all_goals (first | omega | rfl | (intros; first | assumption | exact True.intro | rfl | exact absurd (show false = true by assumption) Bool.false_ne_true | ((repeat' (first | assumption | apply anda | apply notf)); done)) | (exact he) | (simp [All]))
      · have hd : decide ((k : Int) < (v.2.1.1 : Int)) = false := by simp; omega
        rw [show min k v.2.1.1 = v.2.1.1 by omega] at hg
        rw [show simpleF v = isGraphF v by simp [simpleF, hg]]
        refine path_ok mixed Try.func94 hc (p86d v k) ?_
        simp only [All]
        repeat' (first | exact trivial | with_reducible apply And.intro)
        all_goals (first | omega | rfl | (intros; first | assumption | exact True.intro | rfl | exact absurd (show false = true by assumption) Bool.false_ne_true | ((repeat' (first | assumption | apply anda | apply notf)); done)) | (exact con_IsGraph_s v hs))
  have h0 : dblB v.2.1.2 (min 1 v.2.1.1) = false := by
    by_cases h : v.2.1.1 = 0
    · rw [h]; rfl
    · rw [show min 1 v.2.1.1 = 1 by omega]; simp [dblB]
  refine piece_ok mixed hc (p86a v) ?_ (lp v.2.1.1 1 (by omega) (by omega) (by omega) h0)
  simp only [All]
  repeat' (first | exact trivial | with_reducible apply And.intro)
  all_goals (first | omega | rfl | (intros; first | assumption | exact True.intro | rfl | exact absurd (show false = true by assumption) Bool.false_ne_true | ((repeat' (first | assumption | apply anda | apply notf)); done)) | (simp [All]))

theorem con_hasDoubles (v : T_Graph) (hs : smS s_Graph v) : Con Try.prog 100 0 [] [graphA v] [] (.p (.bool (dblB v.2.1.2 v.2.1.1))) := by
  refine con_start Try.func100 rfl (by kernel_rfl) rfl (fun c hc => ?_)
  have hn : v.2.1.1 ≤ 1048576 := hs.2.1.1
  have lp : ∀ m k, 1 ≤ k → v.2.1.1 ≤ k + m → k ≤ 1048577 → dblB v.2.1.2 (min k v.2.1.1) = false → Run Try.prog c 100 [.code (cAt (bodyOf Try.f100) [1, 0, 1, 0, 0]), .inLoop (cAt (bodyOf Try.f100) [1, 0, 1, 0, 0]), .inBlock 0, .code (cAt (bodyOf Try.f100) [1, 1])] (S88 v k) (Post c [] (.p (.bool (dblB v.2.1.2 v.2.1.1)))) := by
    intro m
    induction m with
    | zero =>
      intro k h1 hk hk2 hg
      have hd : decide ((k : Int) < (v.2.1.1 : Int)) = false := by simp; omega
      rw [show min k v.2.1.1 = v.2.1.1 by omega] at hg
      rw [hg]
      refine path_ok mixed Try.func100 hc (p88d v k) ?_
      simp only [All]
      repeat' (first | exact trivial | with_reducible apply And.intro)
      all_goals (first | omega | rfl | (intros; first | assumption | exact True.intro | rfl | exact absurd (show false = true by assumption) Bool.false_ne_true | ((repeat' (first | assumption | apply anda | apply notf)); done)))
    | succ m ih =>
      intro k h1 hk hk2 hg
      by_cases hkn : k < v.2.1.1
      · have hd : decide ((k : Int) < (v.2.1.1 : Int)) = true := by simp; omega
        rw [show min k v.2.1.1 = k by omega] at hg
        cases he : q1_BarS (v.2.1.2 ((k : Int) - 1).toNat) (v.2.1.2 k) with
        | true =>
          rw [dblB_hit v.2.1.2 k h1 he v.2.1.1 hkn]
          refine path_ok mixed Try.func100 hc (p88c v k) ?_
          simp only [All]
          repeat' (first | exact trivial | with_reducible apply And.intro)
          all_goals (first | omega | rfl | (intros; first | assumption | exact True.intro | rfl | exact absurd (show false = true by assumption) Bool.false_ne_true | ((repeat' (first | assumption | apply anda | apply notf)); done)) | (exact he))
        | false =>
          refine piece_ok mixed hc (p88b v k) ?_ (ih (k + 1) (by omega) (by omega) (by omega) (by rw [show min (k + 1) v.2.1.1 = k + 1 by omega]; rw [dblB, hg, he]; simp))
          simp only [All]
          repeat' (first | exact trivial | with_reducible apply And.intro)
          all_goals (first | omega | rfl | (intros; first | assumption | exact True.intro | rfl | exact absurd (show false = true by assumption) Bool.false_ne_true | ((repeat' (first | assumption | apply anda | apply notf)); done)) | (exact he) | (simp [All]))
      · have hd : decide ((k : Int) < (v.2.1.1 : Int)) = false := by simp; omega
        rw [show min k v.2.1.1 = v.2.1.1 by omega] at hg
        rw [hg]
        refine path_ok mixed Try.func100 hc (p88d v k) ?_
        simp only [All]
        repeat' (first | exact trivial | with_reducible apply And.intro)
        all_goals (first | omega | rfl | (intros; first | assumption | exact True.intro | rfl | exact absurd (show false = true by assumption) Bool.false_ne_true | ((repeat' (first | assumption | apply anda | apply notf)); done)))
  have h0 : dblB v.2.1.2 (min 1 v.2.1.1) = false := by
    by_cases h : v.2.1.1 = 0
    · rw [h]; rfl
    · rw [show min 1 v.2.1.1 = 1 by omega]; simp [dblB]
  refine piece_ok mixed hc (p88a v) ?_ (lp v.2.1.1 1 (by omega) (by omega) (by omega) h0)
  simp only [All]
  repeat' (first | exact trivial | with_reducible apply And.intro)
  all_goals (first | omega | rfl | (intros; first | assumption | exact True.intro | rfl | exact absurd (show false = true by assumption) Bool.false_ne_true | ((repeat' (first | assumption | apply anda | apply notf)); done)) | (simp [All]))

theorem con_Graphhas (v : T_Graph) (p : Int) (h1 : 1 ≤ v.1) (h2 : v.1 ≤ 8) : Con Try.prog 101 0 [] [graphA v, .p (.int .i64 p)] [] (.p (.bool (inB p 0 (v.1 - 1)))) := by
  refine con_start Try.func101 rfl (by kernel_rfl) rfl (fun c hc => ?_)
  refine path_ok mixed Try.func101 hc (p89 v p) ?_
  simp only [All]
  repeat' (first | exact trivial | with_reducible apply And.intro)
  all_goals (first | omega | rfl | (intros; first | assumption | exact True.intro | rfl | exact absurd (show false = true by assumption) Bool.false_ne_true | ((repeat' (first | assumption | apply anda | apply notf)); done)) | (exact con_within _ _ _))

end Go.Proofs.Ytgdbnnmogddkaaa.Mach
