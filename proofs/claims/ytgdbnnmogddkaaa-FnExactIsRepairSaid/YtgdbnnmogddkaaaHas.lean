/- Whether a number lies in a slice: both programs' searches. Conditions: as each theorem says. -/
import Derived.Test.YtgdbnnmogddkaaaFamE
import Derived.Test.YtgdbnnmogddkaaaBase
namespace Go.Proofs.Ytgdbnnmogddkaaa.Mach
open Go
set_option linter.unusedVariables false
set_option linter.unusedSimpArgs false

def hasI (g : Nat → Int) (x : Int) : Nat → Bool
  | 0 => false
  | k + 1 => hasI g x k || g k == x
def inL (v : T_IntS) : AV := .p (.seq true 1 v.1 (fun i => [.int .i64 (v.2 i)]))
def S85 (v : T_IntS) (x : Int) (k : Nat) : St :=
  ⟨[inL v, .p (.int .i64 x), .p .any, .p .any, .p .any, .p (.int .i64 k)] ++ List.replicate 12 anyA, [], 0⟩
def S112 (v : T_IntS) (x : Int) (k : Nat) : St :=
  ⟨[inL v, .p (.int .i64 x)] ++ List.replicate 5 anyA ++ [.p (.int .i64 v.1), .p (.int .i64 k)] ++ List.replicate 10 anyA, [], 0⟩

theorem p85a (v : T_IntS) (x : Int) :
    pieceOb Try.prog 0 [.reg [oT], .reg [oT], .head] [.code (bodyOf Try.f93)] (start Try.f93 [] 0 [inL v, .p (.int .i64 x)]) [] 1 (S85 v x 0) =
    some ([.code (cAt (bodyOf Try.f93) [1, 0, 1, 0, 0]), .inLoop (cAt (bodyOf Try.f93) [1, 0, 1, 0, 0]), .inBlock 0, .code (cAt (bodyOf Try.f93) [1, 1])], [(((v.fst) : Nat) = (v.fst)),
  (∀ i : Nat, ((((i) : Nat) < (v.fst)) → (([.int .i64 (v.snd i)] : List PV) = [.int .i64 (v.snd i)]))),
  (((x) : Int) = (x)),
  ((0 : Int) = ((↑0 : Int)))]) := by kernel_rfl
theorem p85b (v : T_IntS) (x : Int) (k : Nat) :
    pieceOb Try.prog 0 [.reg [oT, oT, oT, oT], .dec true, .reg [oT, oT, oT, oT, oT, oT], .dec false, .reg [oT, oT, oT], .head] [.code (cAt (bodyOf Try.f93) [1, 0, 1, 0, 0]), .inLoop (cAt (bodyOf Try.f93) [1, 0, 1, 0, 0]), .inBlock 0, .code (cAt (bodyOf Try.f93) [1, 1])] (S85 v x k) [] 1 (S85 v x (k + 1)) =
    some ([.code (cAt (bodyOf Try.f93) [1, 0, 1, 0, 0]), .inLoop (cAt (bodyOf Try.f93) [1, 0, 1, 0, 0]), .inBlock 0, .code (cAt (bodyOf Try.f93) [1, 1])], [((decide ((↑k : Int) < (↑v.fst : Int))) = true),
  ((0 : Int) ≤ ((↑k : Int))),
  ((((↑k : Int)) : Int) < ((↑v.fst : Int))),
  ((v.snd k == x) = false),
  (((-9223372036854775808) : Int) ≤ ((↑k : Int) + 1)),
  ((((↑k : Int) + 1) : Int) ≤ 9223372036854775807),
  (((v.fst) : Nat) = (v.fst)),
  (∀ i : Nat, ((((i) : Nat) < (v.fst)) → (([.int .i64 (v.snd i)] : List PV) = [.int .i64 (v.snd i)]))),
  (((x) : Int) = (x)),
  ((((↑k : Int) + 1) : Int) = ((↑(k + 1) : Int)))]) := by kernel_rfl
theorem p85c (v : T_IntS) (x : Int) (k : Nat) :
    pathOb Try.prog Try.f93 0 [.reg [oT, oT, oT, oT], .dec true, .reg [oT, oT, oT, oT, oT, oT], .dec true, .reg [oT]] [.code (cAt (bodyOf Try.f93) [1, 0, 1, 0, 0]), .inLoop (cAt (bodyOf Try.f93) [1, 0, 1, 0, 0]), .inBlock 0, .code (cAt (bodyOf Try.f93) [1, 1])] (S85 v x k) [] 1 [] (.p (.bool true)) =
    some [((decide ((↑k : Int) < (↑v.fst : Int))) = true),
  ((0 : Int) ≤ ((↑k : Int))),
  ((((↑k : Int)) : Int) < ((↑v.fst : Int))),
  ((v.snd k == x) = true),
  (true = true)] := by kernel_rfl
theorem p85d (v : T_IntS) (x : Int) (k : Nat) :
    pathOb Try.prog Try.f93 0 [.reg [oT, oT, oT, oT], .dec false, .reg [oT]] [.code (cAt (bodyOf Try.f93) [1, 0, 1, 0, 0]), .inLoop (cAt (bodyOf Try.f93) [1, 0, 1, 0, 0]), .inBlock 0, .code (cAt (bodyOf Try.f93) [1, 1])] (S85 v x k) [] 1 [] (.p (.bool false)) =
    some [((decide ((↑k : Int) < (↑v.fst : Int))) = false),
  (false = false)] := by kernel_rfl
theorem p112a (v : T_IntS) (x : Int) :
    pieceOb Try.prog 0 [.reg [oT], .reg [oT, oT, oT], .head] [.code (bodyOf Try.f118)] (start Try.f118 [] 0 [inL v, .p (.int .i64 x)]) [] 1 (S112 v x 0) =
    some ([.code (cAt (bodyOf Try.f118) [1, 0, 1, 0, 0]), .inLoop (cAt (bodyOf Try.f118) [1, 0, 1, 0, 0]), .inBlock 0, .code (cAt (bodyOf Try.f118) [1, 1])], [(((v.fst) : Nat) = (v.fst)),
  (∀ i : Nat, ((((i) : Nat) < (v.fst)) → (([.int .i64 (v.snd i)] : List PV) = [.int .i64 (v.snd i)]))),
  (((x) : Int) = (x)),
  ((((↑v.fst : Int)) : Int) = ((↑v.fst : Int))),
  ((0 : Int) = ((↑0 : Int)))]) := by kernel_rfl
theorem p112b (v : T_IntS) (x : Int) (k : Nat) :
    pieceOb Try.prog 0 [.reg [oT], .dec true, .reg [oT, oT], .reg [oT, oT, oT, oT, oT, oT], .dec false, .reg [oT, oT], .head] [.code (cAt (bodyOf Try.f118) [1, 0, 1, 0, 0]), .inLoop (cAt (bodyOf Try.f118) [1, 0, 1, 0, 0]), .inBlock 0, .code (cAt (bodyOf Try.f118) [1, 1])] (S112 v x k) [] 1 (S112 v x (k + 1)) =
    some ([.code (cAt (bodyOf Try.f118) [1, 0, 1, 0, 0]), .inLoop (cAt (bodyOf Try.f118) [1, 0, 1, 0, 0]), .inBlock 0, .code (cAt (bodyOf Try.f118) [1, 1])], [((decide ((↑k : Int) < (↑v.fst : Int))) = true),
  ((0 : Int) ≤ ((↑k : Int))),
  ((((↑k : Int)) : Int) < ((↑v.fst : Int))),
  ((x == v.snd k) = false),
  (((-9223372036854775808) : Int) ≤ ((↑k : Int) + 1)),
  ((((↑k : Int) + 1) : Int) ≤ 9223372036854775807),
  (((v.fst) : Nat) = (v.fst)),
  (∀ i : Nat, ((((i) : Nat) < (v.fst)) → (([.int .i64 (v.snd i)] : List PV) = [.int .i64 (v.snd i)]))),
  (((x) : Int) = (x)),
  ((((↑v.fst : Int)) : Int) = ((↑v.fst : Int))),
  ((((↑k : Int) + 1) : Int) = ((↑(k + 1) : Int)))]) := by kernel_rfl
theorem p112c (v : T_IntS) (x : Int) (k : Nat) :
    pathOb Try.prog Try.f118 0 [.reg [oT], .dec true, .reg [oT, oT], .reg [oT, oT, oT, oT, oT, oT], .dec true, .reg [oT, oT]] [.code (cAt (bodyOf Try.f118) [1, 0, 1, 0, 0]), .inLoop (cAt (bodyOf Try.f118) [1, 0, 1, 0, 0]), .inBlock 0, .code (cAt (bodyOf Try.f118) [1, 1])] (S112 v x k) [] 1 [] (.p (.int .i64 k)) =
    some [((decide ((↑k : Int) < (↑v.fst : Int))) = true),
  ((0 : Int) ≤ ((↑k : Int))),
  ((((↑k : Int)) : Int) < ((↑v.fst : Int))),
  ((x == v.snd k) = true),
  ((((↑k : Int)) : Int) = ((↑k : Int)))] := by kernel_rfl
theorem p112d (v : T_IntS) (x : Int) (k : Nat) :
    pathOb Try.prog Try.f118 0 [.reg [oT], .dec false, .reg [oT]] [.code (cAt (bodyOf Try.f118) [1, 0, 1, 0, 0]), .inLoop (cAt (bodyOf Try.f118) [1, 0, 1, 0, 0]), .inBlock 0, .code (cAt (bodyOf Try.f118) [1, 1])] (S112 v x k) [] 1 [] (.p (.int .i64 (-1))) =
    some [((decide ((↑k : Int) < (↑v.fst : Int))) = false),
  (((-1) : Int) = (-1))] := by kernel_rfl
theorem p90 (v : T_IntS) (x r : Int) :
    pathOb Try.prog Try.f83 0 [.reg [oT], .reg [oT, oT, ⟨true, (some ⟨[], [], 1, [], .p (.int .i64 r)⟩), none⟩, oT, oT]] [.code (bodyOf Try.f83)] (start Try.f83 [] 0 [inL v, .p (.int .i64 x)]) [] 1 [] (.p (.bool (decide (r ≥ 0)))) =
    some [Con (Try.prog) 118 0 [] [.p (.seq true 1 (v.fst) (fun i => [.int .i64 (v.snd i)])), .p (.int .i64 (x))] [] (.p (.int .i64 (r))),
  ((decide (r ≥ 0)) = (decide (r ≥ 0)))] := by kernel_rfl

theorem hasI_hit (g : Nat → Int) (x : Int) (k : Nat) (h : (g k == x) = true) : ∀ n, k < n → hasI g x n = true
  | 0, h' => by omega
  | n + 1, h' => by
    by_cases e : k = n
    · subst e; simp [hasI, h]
    · simp [hasI, hasI_hit g x k h n (by omega)]

theorem con_l2Has (v : T_IntS) (x : Int) (hn : v.1 ≤ 1048576) : Con Try.prog 93 0 [] [inL v, .p (.int .i64 x)] [] (.p (.bool (hasI v.2 x v.1))) := by
  refine con_start Try.func93 rfl (by kernel_rfl) rfl (fun c hc => ?_)
  have lp : ∀ m k, k + m = v.1 → hasI v.2 x k = false → Run Try.prog c 93 [.code (cAt (bodyOf Try.f93) [1, 0, 1, 0, 0]), .inLoop (cAt (bodyOf Try.f93) [1, 0, 1, 0, 0]), .inBlock 0, .code (cAt (bodyOf Try.f93) [1, 1])] (S85 v x k) (Post c [] (.p (.bool (hasI v.2 x v.1)))) := by
    intro m
    induction m with
    | zero =>
      intro k hk hg
      rw [show hasI v.2 x v.1 = false by rw [show v.1 = k by omega]; exact hg]
      have hd : decide ((k : Int) < (v.1 : Int)) = false := by simp; omega
      refine path_ok mixed Try.func93 hc (p85d v x k) ?_
      simp only [All]
      repeat' (first | exact trivial | with_reducible apply And.intro)
      all_goals (first | omega | rfl | (intros; first | assumption | exact True.intro | rfl | exact absurd (show false = true by assumption) Bool.false_ne_true | ((repeat' (first | assumption | apply anda | apply notf)); done)))
    | succ m ih =>
      intro k hk hg
      have hd : decide ((k : Int) < (v.1 : Int)) = true := by simp; omega
      cases he : (v.2 k == x) with
      | true =>
        rw [hasI_hit v.2 x k he v.1 (by omega)]
        refine path_ok mixed Try.func93 hc (p85c v x k) ?_
        simp only [All]
        repeat' (first | exact trivial | with_reducible apply And.intro)
        all_goals (first | omega | rfl | (intros; first | assumption | exact True.intro | rfl | exact absurd (show false = true by assumption) Bool.false_ne_true | ((repeat' (first | assumption | apply anda | apply notf)); done)) | (exact he))
      | false =>
        refine piece_ok mixed hc (p85b v x k) ?_ (ih (k + 1) (by omega) (by simp only [hasI, hg, he]; rfl))
        simp only [All]
        repeat' (first | exact trivial | with_reducible apply And.intro)
        all_goals (first | omega | rfl | (intros; first | assumption | exact True.intro | rfl | exact absurd (show false = true by assumption) Bool.false_ne_true | ((repeat' (first | assumption | apply anda | apply notf)); done)) | (exact he))
  refine piece_ok mixed hc (p85a v x) ?_ (lp v.1 0 (by omega) rfl)
  simp only [All]
  repeat' (first | exact trivial | with_reducible apply And.intro)
  all_goals (first | omega | rfl | (intros; first | assumption | exact True.intro | rfl | exact absurd (show false = true by assumption) Bool.false_ne_true | ((repeat' (first | assumption | apply anda | apply notf)); done)))

/-- What the search of the library gives: a place, or -1. -/
theorem con_Index (v : T_IntS) (x : Int) (hn : v.1 ≤ 1048576) : ∃ r : Int, decide (r ≥ 0) = hasI v.2 x v.1 ∧ Con Try.prog 118 0 [] [inL v, .p (.int .i64 x)] [] (.p (.int .i64 r)) := by
  have key : (∃ k, k < v.1 ∧ hasI v.2 x k = false ∧ (v.2 k == x) = true) ∨ hasI v.2 x v.1 = false := by
    have gen : ∀ n, (∃ k, k < n ∧ hasI v.2 x k = false ∧ (v.2 k == x) = true) ∨ hasI v.2 x n = false := by
      intro n
      induction n with
      | zero => exact .inr rfl
      | succ n ih =>
        rcases ih with ⟨k, h1, h2⟩ | h
        · exact .inl ⟨k, by omega, h2⟩
        · cases he : (v.2 n == x) with
          | true => exact .inl ⟨n, by omega, h, he⟩
          | false => exact .inr (by simp only [hasI, h, he]; rfl)
    exact gen v.1
  rcases key with ⟨q, hq, hq1, hq2⟩ | hno
  · refine ⟨(q : Int), by rw [hasI_hit v.2 x q hq2 v.1 hq]; simp, ?_⟩
    refine con_start Try.func118 rfl (by kernel_rfl) rfl (fun c hc => ?_)
    have lp : ∀ m k, k + m = q → Run Try.prog c 118 [.code (cAt (bodyOf Try.f118) [1, 0, 1, 0, 0]), .inLoop (cAt (bodyOf Try.f118) [1, 0, 1, 0, 0]), .inBlock 0, .code (cAt (bodyOf Try.f118) [1, 1])] (S112 v x k) (Post c [] (.p (.int .i64 (q : Int)))) := by
      intro m
      induction m with
      | zero =>
        intro k hk
        obtain rfl : k = q := by omega
        have hd : decide ((k : Int) < (v.1 : Int)) = true := by simp; omega
        have he : (x == v.2 k) = true := by rw [beq_iff_eq] at hq2 ⊢; exact hq2.symm
        refine path_ok mixed Try.func118 hc (p112c v x k) ?_
        simp only [All]
        repeat' (first | exact trivial | with_reducible apply And.intro)
        all_goals (first | omega | rfl | (intros; first | assumption | exact True.intro | rfl | exact absurd (show false = true by assumption) Bool.false_ne_true | ((repeat' (first | assumption | apply anda | apply notf)); done)) | (exact he))
      | succ m ih =>
        intro k hk
        have hd : decide ((k : Int) < (v.1 : Int)) = true := by simp; omega
        have he : (x == v.2 k) = false := by
          cases h : (v.2 k == x) with
          | true => rw [hasI_hit v.2 x k h q (by omega)] at hq1; cases hq1
          | false =>
            simp only [beq_eq_false_iff_ne, ne_eq] at h ⊢
            exact fun e => h e.symm
        refine piece_ok mixed hc (p112b v x k) ?_ (ih (k + 1) (by omega))
        simp only [All]
        repeat' (first | exact trivial | with_reducible apply And.intro)
        all_goals (first | omega | rfl | (intros; first | assumption | exact True.intro | rfl | exact absurd (show false = true by assumption) Bool.false_ne_true | ((repeat' (first | assumption | apply anda | apply notf)); done)) | (exact he))
    refine piece_ok mixed hc (p112a v x) ?_ (lp q 0 (by omega))
    simp only [All]
    repeat' (first | exact trivial | with_reducible apply And.intro)
    all_goals (first | omega | rfl | (intros; first | assumption | exact True.intro | rfl | exact absurd (show false = true by assumption) Bool.false_ne_true | ((repeat' (first | assumption | apply anda | apply notf)); done)))
  · refine ⟨-1, by rw [hno]; rfl, ?_⟩
    refine con_start Try.func118 rfl (by kernel_rfl) rfl (fun c hc => ?_)
    have lp : ∀ m k, k + m = v.1 → Run Try.prog c 118 [.code (cAt (bodyOf Try.f118) [1, 0, 1, 0, 0]), .inLoop (cAt (bodyOf Try.f118) [1, 0, 1, 0, 0]), .inBlock 0, .code (cAt (bodyOf Try.f118) [1, 1])] (S112 v x k) (Post c [] (.p (.int .i64 (-1)))) := by
      intro m
      induction m with
      | zero =>
        intro k hk
        have hd : decide ((k : Int) < (v.1 : Int)) = false := by simp; omega
        refine path_ok mixed Try.func118 hc (p112d v x k) ?_
        simp only [All]
        repeat' (first | exact trivial | with_reducible apply And.intro)
        all_goals (first | omega | rfl | (intros; first | assumption | exact True.intro | rfl | exact absurd (show false = true by assumption) Bool.false_ne_true | ((repeat' (first | assumption | apply anda | apply notf)); done)))
      | succ m ih =>
        intro k hk
        have hd : decide ((k : Int) < (v.1 : Int)) = true := by simp; omega
        have he : (x == v.2 k) = false := by
          cases h : (v.2 k == x) with
          | true => rw [hasI_hit v.2 x k h v.1 (by omega)] at hno; cases hno
          | false =>
            simp only [beq_eq_false_iff_ne, ne_eq] at h ⊢
            exact fun e => h e.symm
        refine piece_ok mixed hc (p112b v x k) ?_ (ih (k + 1) (by omega))
        simp only [All]
        repeat' (first | exact trivial | with_reducible apply And.intro)
        all_goals (first | omega | rfl | (intros; first | assumption | exact True.intro | rfl | exact absurd (show false = true by assumption) Bool.false_ne_true | ((repeat' (first | assumption | apply anda | apply notf)); done)) | (exact he))
    refine piece_ok mixed hc (p112a v x) ?_ (lp v.1 0 (by omega))
    simp only [All]
    repeat' (first | exact trivial | with_reducible apply And.intro)
    all_goals (first | omega | rfl | (intros; first | assumption | exact True.intro | rfl | exact absurd (show false = true by assumption) Bool.false_ne_true | ((repeat' (first | assumption | apply anda | apply notf)); done)))

theorem con_Contains (v : T_IntS) (x : Int) (hn : v.1 ≤ 1048576) : Con Try.prog 83 0 [] [inL v, .p (.int .i64 x)] [] (.p (.bool (hasI v.2 x v.1))) := by
  obtain ⟨r, hr, hcon⟩ := con_Index v x hn
  rw [← hr]
  refine con_start Try.func83 rfl (by kernel_rfl) rfl (fun c hc => ?_)
  refine path_ok mixed Try.func83 hc (p90 v x r) ?_
  simp only [All]
  repeat' (first | exact trivial | with_reducible apply And.intro)
  all_goals (first | omega | rfl | (intros; first | assumption | exact True.intro | rfl | exact absurd (show false = true by assumption) Bool.false_ne_true | ((repeat' (first | assumption | apply anda | apply notf)); done)) | (exact hcon))

end Go.Proofs.Ytgdbnnmogddkaaa.Mach
