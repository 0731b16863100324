/- The contracts behind FnExactCountKind: counting the events of a kind, copying, comparing. Conditions: lengths below 2^40. -/
import Derived.Test.YtgddbgmnehkblaaRows
import Derived.Test.YtgddbgmnehkblaaMachT
namespace Go.Proofs.Ytgddbgmnehkblaa.Mach
open Go
set_option linter.unusedVariables false
set_option linter.unusedSimpArgs false

structure R3 where
  a : Int
  b : Int
  c : Int
def R3.z : R3 := ⟨0, 0, 0⟩
def r3 (g : Nat → R3) (i : Nat) : List PV := [.int .i64 (g i).a, .int .i64 (g i).b, .int .i64 (g i).c]
def cntK (g : Nat → R3) (kind : Int) : Nat → Int
  | 0 => 0
  | k + 1 => if (g k).a == kind then cntK g kind k + 1 else cntK g kind k
def S12 (n : Nat) (g : Nat → R3) (kind : Int) (k : Nat) : St :=
  ⟨[.p (.seq true 3 n (r3 g)), .p (.int .i64 kind), .p .any, .p .any, .p .any, .p (.int .i64 (cntK g kind k)), .p (.int .i64 k)] ++ List.replicate 16 anyA, [], 0⟩
def S14 (n : Nat) (g : Nat → R3) (kind : Int) (k : Nat) : St :=
  ⟨[.p (.seq true 3 n (r3 g)), .p (.int .i64 kind), .p .any, .p .any, .p .any, .p (.int .i64 (cntK g kind k)), .p .any, .p .any, .p (.seq true 3 n (r3 g)), .p (.int .i64 n), .p (.int .i64 k)] ++ List.replicate 11 anyA, [], 0⟩
def a3 (g : Nat → R3) (i : Nat) : List AV := [.p (.int .i64 (g i).a), .p (.int .i64 (g i).b), .p (.int .i64 (g i).c)]
def m3 (g : Nat → R3) (k : Nat) (i : Nat) : List AV := [.p (.int .i64 (if i < k then (g i).a else 0)), .p (.int .i64 (if i < k then (g i).b else 0)), .p (.int .i64 (if i < k then (g i).c else 0))]
def S13 (n : Nat) (g : Nat → R3) (k : Nat) : St :=
  ⟨[.p (.seq true 3 n (r3 g)), .p .any, .p .any, .ar 3 0 0 n, .p (.int .i64 k)] ++ List.replicate 18 anyA, [(0, ⟨false, 3, n, m3 g k⟩)], 1⟩
def S15 (n : Nat) (g : Nat → R3) (k : Nat) : St :=
  ⟨[.p (.seq true 3 n (r3 g)), .p (.seq true 3 n (r3 g)), .p .any, .p .any, .p .any, .p (.int .i64 k)] ++ List.replicate 21 anyA, [], 0⟩

theorem p12a (n : Nat) (g : Nat → R3) (kind : Int) :
    pieceOb Try.prog 0 [.reg [oT], .reg [oT], .reg [oT], .head] [.code (bodyOf Try.f12)] (start Try.f12 [] 0 [.p (.seq true 3 n (r3 g)), .p (.int .i64 kind)]) [] 1 (S12 n g kind 0) =
    some ([.code (cAt (bodyOf Try.f12) [1, 1, 0, 1, 0, 0]), .inLoop (cAt (bodyOf Try.f12) [1, 1, 0, 1, 0, 0]), .inBlock 0, .code (cAt (bodyOf Try.f12) [1, 1, 1])], [(((n) : Nat) = (n)),
  (∀ i : Nat, ((((i) : Nat) < (n)) → (([.int .i64 ((g i).a), .int .i64 ((g i).b), .int .i64 ((g i).c)] : List PV) = [.int .i64 ((g i).a), .int .i64 ((g i).b), .int .i64 ((g i).c)]))),
  (((kind) : Int) = (kind)),
  ((0 : Int) = (cntK g kind 0)),
  ((0 : Int) = ((↑0 : Int)))]) := by kernel_rfl
theorem p12b (n : Nat) (g : Nat → R3) (kind : Int) (k : Nat) :
    pieceOb Try.prog 0 [.reg [oT, oT, oT, oT], .dec true, .reg [oT, oT, oT, oT, oT, oT, oT], .dec true, .reg [oT, oT, oT], .reg [oT, oT, oT], .head] [.code (cAt (bodyOf Try.f12) [1, 1, 0, 1, 0, 0]), .inLoop (cAt (bodyOf Try.f12) [1, 1, 0, 1, 0, 0]), .inBlock 0, .code (cAt (bodyOf Try.f12) [1, 1, 1])] (S12 n g kind k) [] 1 (S12 n g kind (k + 1)) =
    some ([.code (cAt (bodyOf Try.f12) [1, 1, 0, 1, 0, 0]), .inLoop (cAt (bodyOf Try.f12) [1, 1, 0, 1, 0, 0]), .inBlock 0, .code (cAt (bodyOf Try.f12) [1, 1, 1])], [((decide ((↑k : Int) < (↑n : Int))) = true),
  ((0 : Int) ≤ ((↑k : Int))),
  ((((↑k : Int)) : Int) < ((↑n : Int))),
  (((g k).a == kind) = true),
  (((-9223372036854775808) : Int) ≤ (cntK g kind k + 1)),
  (((cntK g kind k + 1) : Int) ≤ 9223372036854775807),
  (((-9223372036854775808) : Int) ≤ ((↑k : Int) + 1)),
  ((((↑k : Int) + 1) : Int) ≤ 9223372036854775807),
  (((n) : Nat) = (n)),
  (∀ i : Nat, ((((i) : Nat) < (n)) → (([.int .i64 ((g i).a), .int .i64 ((g i).b), .int .i64 ((g i).c)] : List PV) = [.int .i64 ((g i).a), .int .i64 ((g i).b), .int .i64 ((g i).c)]))),
  (((kind) : Int) = (kind)),
  (((cntK g kind k + 1) : Int) = (cntK g kind (k + 1))),
  ((((↑k : Int) + 1) : Int) = ((↑(k + 1) : Int)))]) := by kernel_rfl
theorem p12c (n : Nat) (g : Nat → R3) (kind : Int) (k : Nat) :
    pieceOb Try.prog 0 [.reg [oT, oT, oT, oT], .dec true, .reg [oT, oT, oT, oT, oT, oT, oT], .dec false, .reg [oT, oT, oT], .head] [.code (cAt (bodyOf Try.f12) [1, 1, 0, 1, 0, 0]), .inLoop (cAt (bodyOf Try.f12) [1, 1, 0, 1, 0, 0]), .inBlock 0, .code (cAt (bodyOf Try.f12) [1, 1, 1])] (S12 n g kind k) [] 1 (S12 n g kind (k + 1)) =
    some ([.code (cAt (bodyOf Try.f12) [1, 1, 0, 1, 0, 0]), .inLoop (cAt (bodyOf Try.f12) [1, 1, 0, 1, 0, 0]), .inBlock 0, .code (cAt (bodyOf Try.f12) [1, 1, 1])], [((decide ((↑k : Int) < (↑n : Int))) = true),
  ((0 : Int) ≤ ((↑k : Int))),
  ((((↑k : Int)) : Int) < ((↑n : Int))),
  (((g k).a == kind) = false),
  (((-9223372036854775808) : Int) ≤ ((↑k : Int) + 1)),
  ((((↑k : Int) + 1) : Int) ≤ 9223372036854775807),
  (((n) : Nat) = (n)),
  (∀ i : Nat, ((((i) : Nat) < (n)) → (([.int .i64 ((g i).a), .int .i64 ((g i).b), .int .i64 ((g i).c)] : List PV) = [.int .i64 ((g i).a), .int .i64 ((g i).b), .int .i64 ((g i).c)]))),
  (((kind) : Int) = (kind)),
  (((cntK g kind k) : Int) = (cntK g kind (k + 1))),
  ((((↑k : Int) + 1) : Int) = ((↑(k + 1) : Int)))]) := by kernel_rfl
theorem p12d (n : Nat) (g : Nat → R3) (kind : Int) (k : Nat) :
    pathOb Try.prog Try.f12 0 [.reg [oT, oT, oT, oT], .dec false, .reg [oT, oT]] [.code (cAt (bodyOf Try.f12) [1, 1, 0, 1, 0, 0]), .inLoop (cAt (bodyOf Try.f12) [1, 1, 0, 1, 0, 0]), .inBlock 0, .code (cAt (bodyOf Try.f12) [1, 1, 1])] (S12 n g kind k) [] 1 [] (.p (.int .i64 (cntK g kind n))) =
    some [((decide ((↑k : Int) < (↑n : Int))) = false),
  (((cntK g kind k) : Int) = (cntK g kind n))] := by kernel_rfl
theorem p14a (n : Nat) (g : Nat → R3) (kind : Int) :
    pieceOb Try.prog 0 [.reg [oT], .reg [oT], .reg [oT, oT, oT], .head] [.code (bodyOf Try.f14)] (start Try.f14 [] 0 [.p (.seq true 3 n (r3 g)), .p (.int .i64 kind)]) [] 1 (S14 n g kind 0) =
    some ([.code (cAt (bodyOf Try.f14) [1, 1, 0, 1, 0, 0]), .inLoop (cAt (bodyOf Try.f14) [1, 1, 0, 1, 0, 0]), .inBlock 0, .code (cAt (bodyOf Try.f14) [1, 1, 1])], [(((n) : Nat) = (n)),
  (∀ i : Nat, ((((i) : Nat) < (n)) → (([.int .i64 ((g i).a), .int .i64 ((g i).b), .int .i64 ((g i).c)] : List PV) = [.int .i64 ((g i).a), .int .i64 ((g i).b), .int .i64 ((g i).c)]))),
  (((kind) : Int) = (kind)),
  ((0 : Int) = (cntK g kind 0)),
  (((n) : Nat) = (n)),
  (∀ i : Nat, ((((i) : Nat) < (n)) → (([.int .i64 ((g i).a), .int .i64 ((g i).b), .int .i64 ((g i).c)] : List PV) = [.int .i64 ((g i).a), .int .i64 ((g i).b), .int .i64 ((g i).c)]))),
  ((((↑n : Int)) : Int) = ((↑n : Int))),
  ((0 : Int) = ((↑0 : Int)))]) := by kernel_rfl
theorem p14b (n : Nat) (g : Nat → R3) (kind : Int) (k : Nat) :
    pieceOb Try.prog 0 [.reg [oT], .dec true, .reg [oT, oT, oT, oT], .reg [oT, oT, oT, oT], .dec true, .reg [oT, oT, oT], .reg [oT, oT], .head] [.code (cAt (bodyOf Try.f14) [1, 1, 0, 1, 0, 0]), .inLoop (cAt (bodyOf Try.f14) [1, 1, 0, 1, 0, 0]), .inBlock 0, .code (cAt (bodyOf Try.f14) [1, 1, 1])] (S14 n g kind k) [] 1 (S14 n g kind (k + 1)) =
    some ([.code (cAt (bodyOf Try.f14) [1, 1, 0, 1, 0, 0]), .inLoop (cAt (bodyOf Try.f14) [1, 1, 0, 1, 0, 0]), .inBlock 0, .code (cAt (bodyOf Try.f14) [1, 1, 1])], [((decide ((↑k : Int) < (↑n : Int))) = true),
  ((0 : Int) ≤ ((↑k : Int))),
  ((((↑k : Int)) : Int) < ((↑n : Int))),
  ((0 : Nat) < 1),
  (((true) = true) → ((1 : Nat) = 1)),
  ((0 : Nat) < 1),
  (((g k).a == kind) = true),
  (((-9223372036854775808) : Int) ≤ (cntK g kind k + 1)),
  (((cntK g kind k + 1) : Int) ≤ 9223372036854775807),
  (((-9223372036854775808) : Int) ≤ ((↑k : Int) + 1)),
  ((((↑k : Int) + 1) : Int) ≤ 9223372036854775807),
  (((n) : Nat) = (n)),
  (∀ i : Nat, ((((i) : Nat) < (n)) → (([.int .i64 ((g i).a), .int .i64 ((g i).b), .int .i64 ((g i).c)] : List PV) = [.int .i64 ((g i).a), .int .i64 ((g i).b), .int .i64 ((g i).c)]))),
  (((kind) : Int) = (kind)),
  (((cntK g kind k + 1) : Int) = (cntK g kind (k + 1))),
  (((n) : Nat) = (n)),
  (∀ i : Nat, ((((i) : Nat) < (n)) → (([.int .i64 ((g i).a), .int .i64 ((g i).b), .int .i64 ((g i).c)] : List PV) = [.int .i64 ((g i).a), .int .i64 ((g i).b), .int .i64 ((g i).c)]))),
  ((((↑n : Int)) : Int) = ((↑n : Int))),
  ((((↑k : Int) + 1) : Int) = ((↑(k + 1) : Int)))]) := by kernel_rfl
theorem p14c (n : Nat) (g : Nat → R3) (kind : Int) (k : Nat) :
    pieceOb Try.prog 0 [.reg [oT], .dec true, .reg [oT, oT, oT, oT], .reg [oT, oT, oT, oT], .dec false, .reg [oT, oT], .head] [.code (cAt (bodyOf Try.f14) [1, 1, 0, 1, 0, 0]), .inLoop (cAt (bodyOf Try.f14) [1, 1, 0, 1, 0, 0]), .inBlock 0, .code (cAt (bodyOf Try.f14) [1, 1, 1])] (S14 n g kind k) [] 1 (S14 n g kind (k + 1)) =
    some ([.code (cAt (bodyOf Try.f14) [1, 1, 0, 1, 0, 0]), .inLoop (cAt (bodyOf Try.f14) [1, 1, 0, 1, 0, 0]), .inBlock 0, .code (cAt (bodyOf Try.f14) [1, 1, 1])], [((decide ((↑k : Int) < (↑n : Int))) = true),
  ((0 : Int) ≤ ((↑k : Int))),
  ((((↑k : Int)) : Int) < ((↑n : Int))),
  ((0 : Nat) < 1),
  (((true) = true) → ((1 : Nat) = 1)),
  ((0 : Nat) < 1),
  (((g k).a == kind) = false),
  (((-9223372036854775808) : Int) ≤ ((↑k : Int) + 1)),
  ((((↑k : Int) + 1) : Int) ≤ 9223372036854775807),
  (((n) : Nat) = (n)),
  (∀ i : Nat, ((((i) : Nat) < (n)) → (([.int .i64 ((g i).a), .int .i64 ((g i).b), .int .i64 ((g i).c)] : List PV) = [.int .i64 ((g i).a), .int .i64 ((g i).b), .int .i64 ((g i).c)]))),
  (((kind) : Int) = (kind)),
  (((cntK g kind k) : Int) = (cntK g kind (k + 1))),
  (((n) : Nat) = (n)),
  (∀ i : Nat, ((((i) : Nat) < (n)) → (([.int .i64 ((g i).a), .int .i64 ((g i).b), .int .i64 ((g i).c)] : List PV) = [.int .i64 ((g i).a), .int .i64 ((g i).b), .int .i64 ((g i).c)]))),
  ((((↑n : Int)) : Int) = ((↑n : Int))),
  ((((↑k : Int) + 1) : Int) = ((↑(k + 1) : Int)))]) := by kernel_rfl
theorem p14d (n : Nat) (g : Nat → R3) (kind : Int) (k : Nat) :
    pathOb Try.prog Try.f14 0 [.reg [oT], .dec false, .reg [oT, oT]] [.code (cAt (bodyOf Try.f14) [1, 1, 0, 1, 0, 0]), .inLoop (cAt (bodyOf Try.f14) [1, 1, 0, 1, 0, 0]), .inBlock 0, .code (cAt (bodyOf Try.f14) [1, 1, 1])] (S14 n g kind k) [] 1 [] (.p (.int .i64 (cntK g kind n))) =
    some [((decide ((↑k : Int) < (↑n : Int))) = false),
  (((cntK g kind k) : Int) = (cntK g kind n))] := by kernel_rfl

theorem mixed : Try.prog.follows .mixedOrders = true := by kernel_rfl

theorem cntK_bd (g : Nat → R3) (kind : Int) : ∀ k : Nat, 0 ≤ cntK g kind k ∧ cntK g kind k ≤ k
  | 0 => ⟨Int.le_refl _, Int.le_refl _⟩
  | k + 1 => by
    have := cntK_bd g kind k
    unfold cntK
    split <;> omega

theorem con12 (n : Nat) (g : Nat → R3) (kind : Int) (hl : n ≤ 1048576) :
    Con Try.prog 12 0 [] [.p (.seq true 3 n (r3 g)), .p (.int .i64 kind)] [] (.p (.int .i64 (cntK g kind n))) := by
  refine con_start Try.func12 rfl (by kernel_rfl) rfl (fun c hc => ?_)
  have lp : ∀ m k, k + m = n → Run Try.prog c 12 [.code (cAt (bodyOf Try.f12) [1, 1, 0, 1, 0, 0]), .inLoop (cAt (bodyOf Try.f12) [1, 1, 0, 1, 0, 0]), .inBlock 0, .code (cAt (bodyOf Try.f12) [1, 1, 1])] (S12 n g kind k) (Post c [] (.p (.int .i64 (cntK g kind n)))) := by
    intro m
    induction m with
    | zero =>
      intro k hk
      obtain rfl : k = n := by omega
      refine path_ok mixed Try.func12 hc (p12d k g kind k) ?_
      simp only [All]
      repeat' (first | exact trivial | with_reducible apply And.intro)
      all_goals (first | rfl | (intros; first | trivial | rfl) | omega | assumption | simp)
    | succ m ih =>
      intro k hk
      have hb := cntK_bd g kind k
      have hlt : decide ((k : Int) < (n : Int)) = true := by simp; omega
      cases he : ((g k).a == kind) with
      | true =>
        have hs : cntK g kind (k + 1) = cntK g kind k + 1 := by rw [cntK, if_pos he]
        refine piece_ok mixed hc (p12b n g kind k) ?_ (ih (k + 1) (by omega))
        simp only [All]
        repeat' (first | exact trivial | with_reducible apply And.intro)
        all_goals (first | rfl | (intros; first | trivial | rfl) | omega | assumption)
      | false =>
        have hs : cntK g kind (k + 1) = cntK g kind k := by rw [cntK, he]; rfl
        refine piece_ok mixed hc (p12c n g kind k) ?_ (ih (k + 1) (by omega))
        simp only [All]
        repeat' (first | exact trivial | with_reducible apply And.intro)
        all_goals (first | rfl | (intros; first | trivial | rfl) | omega | assumption)
  refine piece_ok mixed hc (p12a n g kind) ?_ (lp n 0 (by omega))
  simp only [All]
  repeat' (first | exact trivial | with_reducible apply And.intro)
  all_goals (first | rfl | (intros; first | trivial | rfl) | omega | assumption)


theorem p11a (n : Nat) (g : Nat → R3) (m : Int) :
    pathOb Try.prog Try.f11 0 [.reg [oT], .reg [oT, oT, oT, oT, oT], .reg [oT, oT], .dec true, .reg [oT]] [.code (bodyOf Try.f11)] (start Try.f11 [] 0 [.p (.seq true 3 n (r3 g)), .p (.int .i64 m)]) [] 1 [] (.p (.int .i64 (-1))) =
    some [(((-9223372036854775808) : Int) ≤ (m - (↑n : Int))),
  (((m - (↑n : Int)) : Int) ≤ 9223372036854775807),
  ((decide (m - (↑n : Int) < 0)) = true),
  (((-1) : Int) = (-1))] := by kernel_rfl
theorem p11b (n : Nat) (g : Nat → R3) (m : Int) :
    pathOb Try.prog Try.f11 0 [.reg [oT], .reg [oT, oT, oT, oT, oT], .reg [oT, oT], .dec false, .reg [oT, oT]] [.code (bodyOf Try.f11)] (start Try.f11 [] 0 [.p (.seq true 3 n (r3 g)), .p (.int .i64 m)]) [] 1 [] (.p (.int .i64 (m - n))) =
    some [(((-9223372036854775808) : Int) ≤ (m - (↑n : Int))),
  (((m - (↑n : Int)) : Int) ≤ 9223372036854775807),
  ((decide (m - (↑n : Int) < 0)) = false),
  (((m - (↑n : Int)) : Int) = (m - (↑n : Int)))] := by kernel_rfl
theorem p38 (a b c : Int) :
    pathOb Try.prog Try.f38 0 [.reg [oT, oT], .reg [oT], .reg [oT, oT, oT, oT], .reg [oT, oT, oT, oT], .reg [oT, oT, oT, oT], .reg [oT, oT]] [.code (bodyOf Try.f38)] (start Try.f38 [] 0 [.agg [.p (.int .i64 a), .p (.int .i64 b), .p (.int .i64 c)]]) [] 1 [] (.agg [.p (.int .i64 a), .p (.int .i64 b), .p (.int .i64 c)]) =
    some [((0 : Nat) < 1),
  ((0 : Nat) < 1),
  (((true) = true) → ((1 : Nat) = 1)),
  ((0 : Nat) < 1),
  ((0 : Nat) < 1),
  (((true) = true) → ((1 : Nat) = 1)),
  ((0 : Nat) < 1),
  ((0 : Nat) < 1),
  (((true) = true) → ((1 : Nat) = 1)),
  ((0 : Nat) < 1),
  ((0 : Nat) < 1),
  (((true) = true) → ((1 : Nat) = 1)),
  ((0 : Nat) < 1),
  (((a) : Int) = (a)),
  (((b) : Int) = (b)),
  (((c) : Int) = (c))] := by kernel_rfl
theorem p13a (n : Nat) (g : Nat → R3) :
    pieceOb Try.prog 0 [.reg [oT], .reg [oT, oT, oT, oT], .reg [oT], .head] [.code (bodyOf Try.f13)] (start Try.f13 [] 0 [.p (.seq true 3 n (r3 g))]) [96] 1 (S13 n g 0) =
    some ([.code (cAt (bodyOf Try.f13) [1, 1, 0, 1, 0, 0]), .inLoop (cAt (bodyOf Try.f13) [1, 1, 0, 1, 0, 0]), .inBlock 0, .code (cAt (bodyOf Try.f13) [1, 1, 1])], [((0 : Int) ≤ ((↑n : Int))),
  ((((↑n : Int)) : Int) ≤ ((↑n : Int))),
  ((((↑n : Int) * (↑24 : Int)) : Int) ≤ 281474976710656),
  ((((↑n : Int)) : Int) ≤ 9223372036854775807),
  (((n) : Nat) = (n)),
  (∀ i : Nat, ((((i) : Nat) < (n)) → (([.int .i64 ((g i).a), .int .i64 ((g i).b), .int .i64 ((g i).c)] : List PV) = [.int .i64 ((g i).a), .int .i64 ((g i).b), .int .i64 ((g i).c)]))),
  ((0 : Nat) = 0),
  (((n) : Nat) = (n)),
  ((0 : Int) = ((↑0 : Int))),
  ((3 : Nat) = 3),
  (((n) : Nat) ≤ (n)),
  (∀ i : Nat, ((((i) : Nat) < (n)) → (All [] ∧ (([.p (.int .i64 0), .p (.int .i64 0), .p (.int .i64 0)] : List AV) = [.p (.int .i64 (if i < 0 then (g i).a else 0)), .p (.int .i64 (if i < 0 then (g i).b else 0)), .p (.int .i64 (if i < 0 then (g i).c else 0))]))))]) := by kernel_rfl
theorem p13b (n : Nat) (g : Nat → R3) (k : Nat) :
    pieceOb Try.prog 0 [.reg [oT, oT, oT, oT], .dec true, .reg [oT, oT, oT, oT, oT, oT, ⟨true, (some ⟨[], [], 1, [], .agg (a3 g k)⟩)⟩, oT, oT], .reg [oT, oT, oT], .head] [.code (cAt (bodyOf Try.f13) [1, 1, 0, 1, 0, 0]), .inLoop (cAt (bodyOf Try.f13) [1, 1, 0, 1, 0, 0]), .inBlock 0, .code (cAt (bodyOf Try.f13) [1, 1, 1])] (S13 n g k) [0] 1 (S13 n g (k + 1)) =
    some ([.code (cAt (bodyOf Try.f13) [1, 1, 0, 1, 0, 0]), .inLoop (cAt (bodyOf Try.f13) [1, 1, 0, 1, 0, 0]), .inBlock 0, .code (cAt (bodyOf Try.f13) [1, 1, 1])], [((decide ((↑k : Int) < (↑n : Int))) = true),
  ((0 : Int) ≤ ((↑k : Int))),
  ((((↑k : Int)) : Int) < ((↑n : Int))),
  Con (Try.prog) 38 0 [] [.agg [.p (.int .i64 ((g k).a)), .p (.int .i64 ((g k).b)), .p (.int .i64 ((g k).c))]] [] (.agg [.p (.int .i64 ((g k).a)), .p (.int .i64 ((g k).b)), .p (.int .i64 ((g k).c))]),
  ((0 : Int) ≤ ((↑k : Int))),
  ((((↑k : Int)) : Int) < ((↑n : Int))),
  (((k) : Nat) < (n)),
  (((false) = true) → (((n) : Nat) = 1)),
  (((-9223372036854775808) : Int) ≤ ((↑k : Int) + 1)),
  ((((↑k : Int) + 1) : Int) ≤ 9223372036854775807),
  (((n) : Nat) = (n)),
  (∀ i : Nat, ((((i) : Nat) < (n)) → (([.int .i64 ((g i).a), .int .i64 ((g i).b), .int .i64 ((g i).c)] : List PV) = [.int .i64 ((g i).a), .int .i64 ((g i).b), .int .i64 ((g i).c)]))),
  ((0 : Nat) = 0),
  (((n) : Nat) = (n)),
  ((((↑k : Int) + 1) : Int) = ((↑(k + 1) : Int))),
  ((3 : Nat) = 3),
  (((n) : Nat) ≤ (n)),
  (∀ i : Nat, ((((i) : Nat) < (n)) → (All (cvtL false [(0, ⟨false, 3, (n), (fun i_1 => (if (i_1 = k) then [.p (.int .i64 ((g k).a)), .p (.int .i64 ((g k).b)), .p (.int .i64 ((g k).c))] else [.p (.int .i64 (if i_1 < k then (g i_1).a else 0)), .p (.int .i64 (if i_1 < k then (g i_1).b else 0)), .p (.int .i64 (if i_1 < k then (g i_1).c else 0))]))⟩)] [0] 1 (if (i = k) then [.p (.int .i64 ((g k).a)), .p (.int .i64 ((g k).b)), .p (.int .i64 ((g k).c))] else [.p (.int .i64 (if i < k then (g i).a else 0)), .p (.int .i64 (if i < k then (g i).b else 0)), .p (.int .i64 (if i < k then (g i).c else 0))])).2 ∧ (((cvtL false [(0, ⟨false, 3, (n), (fun i_1 => (if (i_1 = k) then [.p (.int .i64 ((g k).a)), .p (.int .i64 ((g k).b)), .p (.int .i64 ((g k).c))] else [.p (.int .i64 (if i_1 < k then (g i_1).a else 0)), .p (.int .i64 (if i_1 < k then (g i_1).b else 0)), .p (.int .i64 (if i_1 < k then (g i_1).c else 0))]))⟩)] [0] 1 (if (i = k) then [.p (.int .i64 ((g k).a)), .p (.int .i64 ((g k).b)), .p (.int .i64 ((g k).c))] else [.p (.int .i64 (if i < k then (g i).a else 0)), .p (.int .i64 (if i < k then (g i).b else 0)), .p (.int .i64 (if i < k then (g i).c else 0))])).1 : List AV) = [.p (.int .i64 (if i < k + 1 then (g i).a else 0)), .p (.int .i64 (if i < k + 1 then (g i).b else 0)), .p (.int .i64 (if i < k + 1 then (g i).c else 0))]))))]) := by kernel_rfl
theorem p13c (n : Nat) (g : Nat → R3) (k : Nat) :
    pathOb Try.prog Try.f13 0 [.reg [oT, oT, oT, oT], .dec false, .reg [oT, oT]] [.code (cAt (bodyOf Try.f13) [1, 1, 0, 1, 0, 0]), .inLoop (cAt (bodyOf Try.f13) [1, 1, 0, 1, 0, 0]), .inBlock 0, .code (cAt (bodyOf Try.f13) [1, 1, 1])] (S13 n g k) [0] 1 [(0, ⟨false, 3, n, a3 g⟩)] (.ar 3 0 0 n) =
    some [((decide ((↑k : Int) < (↑n : Int))) = false),
  ((0 : Nat) = 0),
  (((n) : Nat) = (n)),
  ((3 : Nat) = 3),
  (((n) : Nat) ≤ (n)),
  (∀ i : Nat, ((((i) : Nat) < (n)) → (All [] ∧ (([.p (.int .i64 (if i < k then (g i).a else 0)), .p (.int .i64 (if i < k then (g i).b else 0)), .p (.int .i64 (if i < k then (g i).c else 0))] : List AV) = [.p (.int .i64 ((g i).a)), .p (.int .i64 ((g i).b)), .p (.int .i64 ((g i).c))])))),
  (∀ i : Nat, ((((i) : Nat) < (n)) → All []))] := by kernel_rfl
theorem p39 (a b c : Int) :
    pathOb Try.prog Try.f39 0 [.reg [oT, oT, oT], .reg [oT, oT, oT, oT, oT], .dec false, .reg [oT, oT, oT, oT, oT], .dec false, .reg [oT, oT, oT, oT, oT], .dec false, .reg [oT]] [.code (bodyOf Try.f39)] (start Try.f39 [] 0 [.agg [.p (.int .i64 a), .p (.int .i64 b), .p (.int .i64 c)], .agg [.p (.int .i64 a), .p (.int .i64 b), .p (.int .i64 c)]]) [] 1 [] (.p (.bool true)) =
    some [((0 : Nat) < 1),
  ((0 : Nat) < 1),
  ((a != a) = false),
  ((0 : Nat) < 1),
  ((0 : Nat) < 1),
  ((b != b) = false),
  ((0 : Nat) < 1),
  ((0 : Nat) < 1),
  ((c != c) = false),
  (true = true)] := by kernel_rfl
theorem p15a (n : Nat) (g : Nat → R3) :
    pieceOb Try.prog 0 [.reg [oT], .reg [oT, oT, oT, oT, oT], .dec false, .reg [oT], .head] [.code (bodyOf Try.f15)] (start Try.f15 [] 0 [.p (.seq true 3 n (r3 g)), .p (.seq true 3 n (r3 g))]) [] 1 (S15 n g 0) =
    some ([.code (cAt (bodyOf Try.f15) [1, 1, 0, 1, 0, 0]), .inLoop (cAt (bodyOf Try.f15) [1, 1, 0, 1, 0, 0]), .inBlock 0, .code (cAt (bodyOf Try.f15) [1, 1, 1])], [(((↑n : Int) != (↑n : Int)) = false),
  (((n) : Nat) = (n)),
  (∀ i : Nat, ((((i) : Nat) < (n)) → (([.int .i64 ((g i).a), .int .i64 ((g i).b), .int .i64 ((g i).c)] : List PV) = [.int .i64 ((g i).a), .int .i64 ((g i).b), .int .i64 ((g i).c)]))),
  (((n) : Nat) = (n)),
  (∀ i : Nat, ((((i) : Nat) < (n)) → (([.int .i64 ((g i).a), .int .i64 ((g i).b), .int .i64 ((g i).c)] : List PV) = [.int .i64 ((g i).a), .int .i64 ((g i).b), .int .i64 ((g i).c)]))),
  ((0 : Int) = ((↑0 : Int)))]) := by kernel_rfl
theorem p15b (n : Nat) (g : Nat → R3) (k : Nat) :
    pieceOb Try.prog 0 [.reg [oT, oT, oT, oT], .dec true, .reg [oT, oT, oT, oT, oT, oT, oT, oT, ⟨true, (some ⟨[], [], 1, [], .p (.bool true)⟩)⟩, oT], .dec false, .reg [oT, oT, oT], .head] [.code (cAt (bodyOf Try.f15) [1, 1, 0, 1, 0, 0]), .inLoop (cAt (bodyOf Try.f15) [1, 1, 0, 1, 0, 0]), .inBlock 0, .code (cAt (bodyOf Try.f15) [1, 1, 1])] (S15 n g k) [] 1 (S15 n g (k + 1)) =
    some ([.code (cAt (bodyOf Try.f15) [1, 1, 0, 1, 0, 0]), .inLoop (cAt (bodyOf Try.f15) [1, 1, 0, 1, 0, 0]), .inBlock 0, .code (cAt (bodyOf Try.f15) [1, 1, 1])], [((decide ((↑k : Int) < (↑n : Int))) = true),
  ((0 : Int) ≤ ((↑k : Int))),
  ((((↑k : Int)) : Int) < ((↑n : Int))),
  ((0 : Int) ≤ ((↑k : Int))),
  ((((↑k : Int)) : Int) < ((↑n : Int))),
  Con (Try.prog) 39 0 [] [.agg [.p (.int .i64 ((g k).a)), .p (.int .i64 ((g k).b)), .p (.int .i64 ((g k).c))], .agg [.p (.int .i64 ((g k).a)), .p (.int .i64 ((g k).b)), .p (.int .i64 ((g k).c))]] [] (.p (.bool true)),
  ((!true) = false),
  (((-9223372036854775808) : Int) ≤ ((↑k : Int) + 1)),
  ((((↑k : Int) + 1) : Int) ≤ 9223372036854775807),
  (((n) : Nat) = (n)),
  (∀ i : Nat, ((((i) : Nat) < (n)) → (([.int .i64 ((g i).a), .int .i64 ((g i).b), .int .i64 ((g i).c)] : List PV) = [.int .i64 ((g i).a), .int .i64 ((g i).b), .int .i64 ((g i).c)]))),
  (((n) : Nat) = (n)),
  (∀ i : Nat, ((((i) : Nat) < (n)) → (([.int .i64 ((g i).a), .int .i64 ((g i).b), .int .i64 ((g i).c)] : List PV) = [.int .i64 ((g i).a), .int .i64 ((g i).b), .int .i64 ((g i).c)]))),
  ((((↑k : Int) + 1) : Int) = ((↑(k + 1) : Int)))]) := by kernel_rfl
theorem p15c (n : Nat) (g : Nat → R3) (k : Nat) :
    pathOb Try.prog Try.f15 0 [.reg [oT, oT, oT, oT], .dec false, .reg [oT]] [.code (cAt (bodyOf Try.f15) [1, 1, 0, 1, 0, 0]), .inLoop (cAt (bodyOf Try.f15) [1, 1, 0, 1, 0, 0]), .inBlock 0, .code (cAt (bodyOf Try.f15) [1, 1, 1])] (S15 n g k) [] 1 [] (.p (.bool true)) =
    some [((decide ((↑k : Int) < (↑n : Int))) = false),
  (true = true)] := by kernel_rfl


theorem con14 (n : Nat) (g : Nat → R3) (kind : Int) (hl : n ≤ 1048576) :
    Con Try.prog 14 0 [] [.p (.seq true 3 n (r3 g)), .p (.int .i64 kind)] [] (.p (.int .i64 (cntK g kind n))) := by
  refine con_start Try.func14 rfl (by kernel_rfl) rfl (fun c hc => ?_)
  have lp : ∀ m k, k + m = n → Run Try.prog c 14 [.code (cAt (bodyOf Try.f14) [1, 1, 0, 1, 0, 0]), .inLoop (cAt (bodyOf Try.f14) [1, 1, 0, 1, 0, 0]), .inBlock 0, .code (cAt (bodyOf Try.f14) [1, 1, 1])] (S14 n g kind k) (Post c [] (.p (.int .i64 (cntK g kind n)))) := by
    intro m
    induction m with
    | zero =>
      intro k hk
      obtain rfl : k = n := by omega
      refine path_ok mixed Try.func14 hc (p14d k g kind k) ?_
      simp only [All]
      repeat' (first | exact trivial | with_reducible apply And.intro)
      all_goals (first | rfl | (intros; first | trivial | rfl) | omega | assumption | simp)
    | succ m ih =>
      intro k hk
      have hb := cntK_bd g kind k
      have hlt : decide ((k : Int) < (n : Int)) = true := by simp; omega
      cases he : ((g k).a == kind) with
      | true =>
        have hs : cntK g kind (k + 1) = cntK g kind k + 1 := by rw [cntK, if_pos he]
        refine piece_ok mixed hc (p14b n g kind k) ?_ (ih (k + 1) (by omega))
        simp only [All]
        repeat' (first | exact trivial | with_reducible apply And.intro)
        all_goals (first | rfl | (intros; first | trivial | rfl) | omega | assumption)
      | false =>
        have hs : cntK g kind (k + 1) = cntK g kind k := by rw [cntK, he]; rfl
        refine piece_ok mixed hc (p14c n g kind k) ?_ (ih (k + 1) (by omega))
        simp only [All]
        repeat' (first | exact trivial | with_reducible apply And.intro)
        all_goals (first | rfl | (intros; first | trivial | rfl) | omega | assumption)
  refine piece_ok mixed hc (p14a n g kind) ?_ (lp n 0 (by omega))
  simp only [All]
  repeat' (first | exact trivial | with_reducible apply And.intro)
  all_goals (first | rfl | (intros; first | trivial | rfl) | omega | assumption)

/-- The size left: -1 or what is left. -/
theorem con11a (n : Nat) (g : Nat → R3) (m : Int) (hl : n ≤ 9223372036854775807) (h0 : 0 ≤ m) (h1 : m ≤ 1099511627776) (h : m < n) :
    Con Try.prog 11 0 [] [.p (.seq true 3 n (r3 g)), .p (.int .i64 m)] [] (.p (.int .i64 (-1))) := by
  refine con_start Try.func11 rfl (by kernel_rfl) rfl (fun c hc => ?_)
  refine path_ok mixed Try.func11 hc (p11a n g m) ?_
  simp only [All]
  repeat' (first | exact trivial | with_reducible apply And.intro)
  all_goals (first | rfl | (intros; first | trivial | rfl) | omega | assumption | (simp; omega))

theorem con11b (n : Nat) (g : Nat → R3) (m : Int) (hl : n ≤ 9223372036854775807) (h0 : 0 ≤ m) (h1 : m ≤ 1099511627776) (h : (n : Int) ≤ m) :
    Con Try.prog 11 0 [] [.p (.seq true 3 n (r3 g)), .p (.int .i64 m)] [] (.p (.int .i64 (m - n))) := by
  refine con_start Try.func11 rfl (by kernel_rfl) rfl (fun c hc => ?_)
  refine path_ok mixed Try.func11 hc (p11b n g m) ?_
  simp only [All]
  repeat' (first | exact trivial | with_reducible apply And.intro)
  all_goals (first | rfl | (intros; first | trivial | rfl) | omega | assumption | (simp; omega))

theorem con38 (a b c : Int) : Con Try.prog 38 0 [] [.agg [.p (.int .i64 a), .p (.int .i64 b), .p (.int .i64 c)]] [] (.agg [.p (.int .i64 a), .p (.int .i64 b), .p (.int .i64 c)]) := by
  refine con_start Try.func38 rfl (by kernel_rfl) rfl (fun c hc => ?_)
  refine path_ok mixed Try.func38 hc (p38 _ _ _) ?_
  simp only [All]
  repeat' (first | exact trivial | with_reducible apply And.intro)
  all_goals (first | rfl | (intros; first | trivial | rfl) | omega | assumption)

theorem con39 (a b c : Int) : Con Try.prog 39 0 [] [.agg [.p (.int .i64 a), .p (.int .i64 b), .p (.int .i64 c)], .agg [.p (.int .i64 a), .p (.int .i64 b), .p (.int .i64 c)]] [] (.p (.bool true)) := by
  refine con_start Try.func39 rfl (by kernel_rfl) rfl (fun c hc => ?_)
  refine path_ok mixed Try.func39 hc (p39 _ _ _) ?_
  simp only [All]
  repeat' (first | exact trivial | with_reducible apply And.intro)
  all_goals (first | rfl | (intros; first | trivial | rfl) | omega | assumption | simp)

theorem con13 (n : Nat) (g : Nat → R3) (hl : n ≤ 1048576) :
    Con Try.prog 13 0 [] [.p (.seq true 3 n (r3 g))] [(0, ⟨false, 3, n, a3 g⟩)] (.ar 3 0 0 n) := by
  refine con_start Try.func13 rfl (by kernel_rfl) rfl (fun c hc => ?_)
  have lp : ∀ m k, k + m = n → Run Try.prog c 13 [.code (cAt (bodyOf Try.f13) [1, 1, 0, 1, 0, 0]), .inLoop (cAt (bodyOf Try.f13) [1, 1, 0, 1, 0, 0]), .inBlock 0, .code (cAt (bodyOf Try.f13) [1, 1, 1])] (S13 n g k) (Post c [(0, ⟨false, 3, n, a3 g⟩)] (.ar 3 0 0 n)) := by
    intro m
    induction m with
    | zero =>
      intro k hk
      obtain rfl : k = n := by omega
      refine path_ok mixed Try.func13 hc (p13c k g k) ?_
      simp only [All]
      repeat' (first | exact trivial | with_reducible apply And.intro)
      all_goals (first | rfl | (intros; first | trivial | rfl) | omega | assumption | (intro i hi; simp [hi, All]) | simp)
    | succ m ih =>
      intro k hk
      have hlt : decide ((k : Int) < (n : Int)) = true := by simp; omega
      refine piece_ok mixed hc (p13b n g k) ?_ (ih (k + 1) (by omega))
      simp only [All]
      repeat' (first | exact trivial | with_reducible apply And.intro)
      all_goals (first | rfl | (intros; first | trivial | rfl) | omega | assumption | (exact con38 _ _ _) | (intro i hi; by_cases h : i = k <;> simp [h, Nat.lt_succ_iff_lt_or_eq, cvtL, cvt, tg, tru, All]))
  refine piece_ok mixed hc (p13a n g) ?_ (lp n 0 (by omega))
  simp only [All]
  repeat' (first | exact trivial | with_reducible apply And.intro)
  all_goals (first | rfl | (intros; first | trivial | rfl) | omega | assumption | (intro i hi; simp [All]))

theorem con15 (n : Nat) (g : Nat → R3) (hl : n ≤ 1048576) :
    Con Try.prog 15 0 [] [.p (.seq true 3 n (r3 g)), .p (.seq true 3 n (r3 g))] [] (.p (.bool true)) := by
  refine con_start Try.func15 rfl (by kernel_rfl) rfl (fun c hc => ?_)
  have lp : ∀ m k, k + m = n → Run Try.prog c 15 [.code (cAt (bodyOf Try.f15) [1, 1, 0, 1, 0, 0]), .inLoop (cAt (bodyOf Try.f15) [1, 1, 0, 1, 0, 0]), .inBlock 0, .code (cAt (bodyOf Try.f15) [1, 1, 1])] (S15 n g k) (Post c [] (.p (.bool true))) := by
    intro m
    induction m with
    | zero =>
      intro k hk
      obtain rfl : k = n := by omega
      refine path_ok mixed Try.func15 hc (p15c k g k) ?_
      simp only [All]
      repeat' (first | exact trivial | with_reducible apply And.intro)
      all_goals (first | rfl | (intros; first | trivial | rfl) | omega | assumption | simp)
    | succ m ih =>
      intro k hk
      have hlt : decide ((k : Int) < (n : Int)) = true := by simp; omega
      refine piece_ok mixed hc (p15b n g k) ?_ (ih (k + 1) (by omega))
      simp only [All]
      repeat' (first | exact trivial | with_reducible apply And.intro)
      all_goals (first | rfl | (intros; first | trivial | rfl) | omega | assumption | (exact con39 _ _ _))
  refine piece_ok mixed hc (p15a n g) ?_ (lp n 0 (by omega))
  simp only [All]
  repeat' (first | exact trivial | with_reducible apply And.intro)
  all_goals (first | rfl | (intros; first | trivial | rfl) | omega | assumption | simp)

end Go.Proofs.Ytgddbgmnehkblaa.Mach
