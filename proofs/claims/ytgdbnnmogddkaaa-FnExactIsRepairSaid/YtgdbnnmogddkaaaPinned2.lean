/- Whether a pinned graph is one: the reference's test. Conditions: as each theorem says. -/
import Derived.Test.YtgdbnnmogddkaaaPinned
namespace Go.Proofs.Ytgdbnnmogddkaaa.Mach
open Go
set_option linter.unusedVariables false
set_option linter.unusedSimpArgs false

def badP (N : Int) (g : Nat → Int) (k : Nat) : Bool :=
  bif bif decide (g k < 0) then true else decide (g k ≥ N) then true else bif decide ((k : Int) > 0) then decide (g ((k : Int) - 1).toNat ≥ g k) else false
def goodP (N : Int) (g : Nat → Int) : Nat → Bool
  | 0 => true
  | k + 1 => goodP N g k && !badP N g k
def bothP (p : T_IntS) (b : T_Bar) : Bool := bif hasI p.2 b.1 p.1 then hasI p.2 b.2.1 p.1 else false
def freeP (p : T_IntS) (g : Nat → T_Bar) : Nat → Bool
  | 0 => true
  | k + 1 => freeP p g k && !bothP p (g k)
def tailP (v : T_Pinned) : Bool :=
  bif bif bif simpleF v.1 then decide ((v.2.1.1 : Int) ≥ 2) else false then decide ((v.1.2.1.1 : Int) ≤ 15) else false then decide ((v.1.2.1.1 : Int) + 2 * (v.2.1.1 : Int) - 3 ≤ 24) else false
def pinnedF (v : T_Pinned) : Bool := goodP v.1.1 v.2.1.2 v.2.1.1 && (freeP v.2.1 v.1.2.1.2 v.1.2.1.1 && tailP v)
def pinA (v : T_Pinned) : AV := .agg [.p (.int .i64 v.1.1), graphL v.1.2.1, inL v.2.1]
def boxP (v : T_Pinned) : Ob := ⟨true, 3, 1, fun i => [.p (.int .i64 v.1.1), graphL v.1.2.1, inL v.2.1]⟩
def S56a (v : T_Pinned) (k : Nat) : St :=
  ⟨[pinA v, .pt 3 0 0 0, .p .any, .p (.int .i64 k)] ++ List.replicate 102 anyA, [(0, boxP v)], 1⟩
def S56b (v : T_Pinned) (k : Nat) : St :=
  ⟨[pinA v, .pt 3 0 0 0, .p .any, .p .any, .p (.int .i64 k)] ++ List.replicate 101 anyA, [(0, boxP v)], 1⟩

theorem p56a (v : T_Pinned) :
    pieceOb Try.prog 0 [.reg [oT, oT], .reg [oT], .head] [.code (bodyOf Try.f46)] (start Try.f46 [] 0 [pinA v]) [0] 1 (S56a v 0) =
    some ([.code (cAt (bodyOf Try.f46) [1, 0, 1, 0, 0]), .inLoop (cAt (bodyOf Try.f46) [1, 0, 1, 0, 0]), .inBlock 0, .code (cAt (bodyOf Try.f46) [1, 1])], [(((v.fst.fst) : Int) = (v.fst.fst)),
  (((v.fst.snd.fst.fst) : Nat) = (v.fst.snd.fst.fst)),
  (∀ i : Nat, ((((i) : Nat) < (v.fst.snd.fst.fst)) → (([.int .i64 ((v.fst.snd.fst.snd i).fst), .int .i64 ((v.fst.snd.fst.snd i).snd.fst)] : List PV) = [.int .i64 ((v.fst.snd.fst.snd i).fst), .int .i64 ((v.fst.snd.fst.snd i).snd.fst)]))),
  (((v.snd.fst.fst) : Nat) = (v.snd.fst.fst)),
  (∀ i : Nat, ((((i) : Nat) < (v.snd.fst.fst)) → (([.int .i64 (v.snd.fst.snd i)] : List PV) = [.int .i64 (v.snd.fst.snd i)]))),
  ((0 : Nat) = 0),
  ((0 : Int) = ((↑0 : Int))),
  ((([AV.p (PV.int IntKind.i64 v.fst.fst), graphL v.fst.snd.fst, inL v.snd.fst].length) : Nat) = 3),
  ((1 : Nat) ≤ 1),
  ((1 : Nat) ≤ 1),
  (((v.fst.fst) : Int) = (v.fst.fst)),
  (((v.fst.snd.fst.fst) : Nat) = (v.fst.snd.fst.fst)),
  (∀ i : Nat, ((((i) : Nat) < (v.fst.snd.fst.fst)) → (([.int .i64 ((v.fst.snd.fst.snd i).fst), .int .i64 ((v.fst.snd.fst.snd i).snd.fst)] : List PV) = [.int .i64 ((v.fst.snd.fst.snd i).fst), .int .i64 ((v.fst.snd.fst.snd i).snd.fst)]))),
  (((v.snd.fst.fst) : Nat) = (v.snd.fst.fst)),
  (∀ i : Nat, ((((i) : Nat) < (v.snd.fst.fst)) → (([.int .i64 (v.snd.fst.snd i)] : List PV) = [.int .i64 (v.snd.fst.snd i)])))]) := by kernel_rfl
theorem p56b (v : T_Pinned) (k : Nat) :
    pieceOb Try.prog 0 [.reg [oT, oT, oT, oT, oT], .dec true, .reg [oT, oT, oT, oT, oT, oT, oT, oT, oT, oT, oT, oT, oT, oT, oT, oT, oT, oT, oT, oT, oT, oT, oT, oT, oT, oT, oT, oT, oT, oT, oT, oT, oT, oT, oT], .dec false, .reg [oT, oT, oT], .head] [.code (cAt (bodyOf Try.f46) [1, 0, 1, 0, 0]), .inLoop (cAt (bodyOf Try.f46) [1, 0, 1, 0, 0]), .inBlock 0, .code (cAt (bodyOf Try.f46) [1, 1])] (S56a v k) [0] 1 (S56a v (k + 1)) =
    some ([.code (cAt (bodyOf Try.f46) [1, 0, 1, 0, 0]), .inLoop (cAt (bodyOf Try.f46) [1, 0, 1, 0, 0]), .inBlock 0, .code (cAt (bodyOf Try.f46) [1, 1])], [((0 : Nat) < 1),
  ((decide ((↑k : Int) < (↑v.snd.fst.fst : Int))) = true),
  ((0 : Nat) < 1),
  ((0 : Int) ≤ ((↑k : Int))),
  ((((↑k : Int)) : Int) < ((↑v.snd.fst.fst : Int))),
  (((!decide (v.snd.fst.snd (↑k : Int).toNat < 0)) = true) → ((!decide (v.snd.fst.snd (↑k : Int).toNat < 0)) = true)),
  (((!decide (v.snd.fst.snd (↑k : Int).toNat < 0)) = true) → ((0 : Nat) < 1)),
  (((!decide (v.snd.fst.snd (↑k : Int).toNat < 0)) = true) → ((!decide (v.snd.fst.snd (↑k : Int).toNat < 0)) = true)),
  (((!decide (v.snd.fst.snd (↑k : Int).toNat < 0)) = true) → ((!decide (v.snd.fst.snd (↑k : Int).toNat < 0)) = true)),
  (((!decide (v.snd.fst.snd (↑k : Int).toNat < 0)) = true) → ((0 : Int) ≤ ((↑k : Int)))),
  (((!decide (v.snd.fst.snd (↑k : Int).toNat < 0)) = true) → ((((↑k : Int)) : Int) < ((↑v.snd.fst.fst : Int)))),
  (((!decide (v.snd.fst.snd (↑k : Int).toNat < 0)) = true) → ((!decide (v.snd.fst.snd (↑k : Int).toNat < 0)) = true)),
  (((!decide (v.snd.fst.snd (↑k : Int).toNat < 0)) = true) → ((!decide (v.snd.fst.snd (↑k : Int).toNat < 0)) = true)),
  (((!decide (v.snd.fst.snd (↑k : Int).toNat < 0)) = true) → ((!decide (v.snd.fst.snd (↑k : Int).toNat < 0)) = true)),
  (((!decide (v.snd.fst.snd (↑k : Int).toNat < 0)) = true) → ((0 : Nat) < 1)),
  (((!decide (v.snd.fst.snd (↑k : Int).toNat < 0)) = true) → ((!decide (v.snd.fst.snd (↑k : Int).toNat < 0)) = true)),
  (((!decide (v.snd.fst.snd (↑k : Int).toNat < 0)) = true) → ((!decide (v.snd.fst.snd (↑k : Int).toNat < 0)) = true)),
  (((decide (v.snd.fst.snd (↑k : Int).toNat < 0)) = false) → ((!decide (v.snd.fst.snd (↑k : Int).toNat < 0)) = true)),
  (((!bif decide (v.snd.fst.snd (↑k : Int).toNat < 0) then true else decide (v.snd.fst.snd (↑k : Int).toNat ≥ v.fst.fst)) = true) → ((!bif decide (v.snd.fst.snd (↑k : Int).toNat < 0) then true else decide (v.snd.fst.snd (↑k : Int).toNat ≥ v.fst.fst)) = true)),
  (((!bif decide (v.snd.fst.snd (↑k : Int).toNat < 0) then true else decide (v.snd.fst.snd (↑k : Int).toNat ≥ v.fst.fst)) = true) → ((!bif decide (v.snd.fst.snd (↑k : Int).toNat < 0) then true else decide (v.snd.fst.snd (↑k : Int).toNat ≥ v.fst.fst)) = true)),
  ((((!bif decide (v.snd.fst.snd (↑k : Int).toNat < 0) then true else decide (v.snd.fst.snd (↑k : Int).toNat ≥ v.fst.fst)) && decide ((↑k : Int) > 0)) = true) → (((!bif decide (v.snd.fst.snd (↑k : Int).toNat < 0) then true else decide (v.snd.fst.snd (↑k : Int).toNat ≥ v.fst.fst)) && decide ((↑k : Int) > 0)) = true)),
  ((((!bif decide (v.snd.fst.snd (↑k : Int).toNat < 0) then true else decide (v.snd.fst.snd (↑k : Int).toNat ≥ v.fst.fst)) && decide ((↑k : Int) > 0)) = true) → ((0 : Nat) < 1)),
  ((((!bif decide (v.snd.fst.snd (↑k : Int).toNat < 0) then true else decide (v.snd.fst.snd (↑k : Int).toNat ≥ v.fst.fst)) && decide ((↑k : Int) > 0)) = true) → (((!bif decide (v.snd.fst.snd (↑k : Int).toNat < 0) then true else decide (v.snd.fst.snd (↑k : Int).toNat ≥ v.fst.fst)) && decide ((↑k : Int) > 0)) = true)),
  ((((!bif decide (v.snd.fst.snd (↑k : Int).toNat < 0) then true else decide (v.snd.fst.snd (↑k : Int).toNat ≥ v.fst.fst)) && decide ((↑k : Int) > 0)) = true) → (((-9223372036854775808) : Int) ≤ ((↑k : Int) - 1))),
  ((((!bif decide (v.snd.fst.snd (↑k : Int).toNat < 0) then true else decide (v.snd.fst.snd (↑k : Int).toNat ≥ v.fst.fst)) && decide ((↑k : Int) > 0)) = true) → ((((↑k : Int) - 1) : Int) ≤ 9223372036854775807)),
  ((((!bif decide (v.snd.fst.snd (↑k : Int).toNat < 0) then true else decide (v.snd.fst.snd (↑k : Int).toNat ≥ v.fst.fst)) && decide ((↑k : Int) > 0)) = true) → (((!bif decide (v.snd.fst.snd (↑k : Int).toNat < 0) then true else decide (v.snd.fst.snd (↑k : Int).toNat ≥ v.fst.fst)) && decide ((↑k : Int) > 0)) = true)),
  ((((!bif decide (v.snd.fst.snd (↑k : Int).toNat < 0) then true else decide (v.snd.fst.snd (↑k : Int).toNat ≥ v.fst.fst)) && decide ((↑k : Int) > 0)) = true) → (((!bif decide (v.snd.fst.snd (↑k : Int).toNat < 0) then true else decide (v.snd.fst.snd (↑k : Int).toNat ≥ v.fst.fst)) && decide ((↑k : Int) > 0)) = true)),
  ((((!bif decide (v.snd.fst.snd (↑k : Int).toNat < 0) then true else decide (v.snd.fst.snd (↑k : Int).toNat ≥ v.fst.fst)) && decide ((↑k : Int) > 0)) = true) → ((0 : Int) ≤ ((↑k : Int) - 1))),
  ((((!bif decide (v.snd.fst.snd (↑k : Int).toNat < 0) then true else decide (v.snd.fst.snd (↑k : Int).toNat ≥ v.fst.fst)) && decide ((↑k : Int) > 0)) = true) → ((((↑k : Int) - 1) : Int) < ((↑v.snd.fst.fst : Int)))),
  ((((!bif decide (v.snd.fst.snd (↑k : Int).toNat < 0) then true else decide (v.snd.fst.snd (↑k : Int).toNat ≥ v.fst.fst)) && decide ((↑k : Int) > 0)) = true) → (((!bif decide (v.snd.fst.snd (↑k : Int).toNat < 0) then true else decide (v.snd.fst.snd (↑k : Int).toNat ≥ v.fst.fst)) && decide ((↑k : Int) > 0)) = true)),
  ((((!bif decide (v.snd.fst.snd (↑k : Int).toNat < 0) then true else decide (v.snd.fst.snd (↑k : Int).toNat ≥ v.fst.fst)) && decide ((↑k : Int) > 0)) = true) → (((!bif decide (v.snd.fst.snd (↑k : Int).toNat < 0) then true else decide (v.snd.fst.snd (↑k : Int).toNat ≥ v.fst.fst)) && decide ((↑k : Int) > 0)) = true)),
  ((((!bif decide (v.snd.fst.snd (↑k : Int).toNat < 0) then true else decide (v.snd.fst.snd (↑k : Int).toNat ≥ v.fst.fst)) && decide ((↑k : Int) > 0)) = true) → ((0 : Nat) < 1)),
  ((((!bif decide (v.snd.fst.snd (↑k : Int).toNat < 0) then true else decide (v.snd.fst.snd (↑k : Int).toNat ≥ v.fst.fst)) && decide ((↑k : Int) > 0)) = true) → (((!bif decide (v.snd.fst.snd (↑k : Int).toNat < 0) then true else decide (v.snd.fst.snd (↑k : Int).toNat ≥ v.fst.fst)) && decide ((↑k : Int) > 0)) = true)),
  ((((!bif decide (v.snd.fst.snd (↑k : Int).toNat < 0) then true else decide (v.snd.fst.snd (↑k : Int).toNat ≥ v.fst.fst)) && decide ((↑k : Int) > 0)) = true) → (((!bif decide (v.snd.fst.snd (↑k : Int).toNat < 0) then true else decide (v.snd.fst.snd (↑k : Int).toNat ≥ v.fst.fst)) && decide ((↑k : Int) > 0)) = true)),
  ((((!bif decide (v.snd.fst.snd (↑k : Int).toNat < 0) then true else decide (v.snd.fst.snd (↑k : Int).toNat ≥ v.fst.fst)) && decide ((↑k : Int) > 0)) = true) → ((0 : Int) ≤ ((↑k : Int)))),
  ((((!bif decide (v.snd.fst.snd (↑k : Int).toNat < 0) then true else decide (v.snd.fst.snd (↑k : Int).toNat ≥ v.fst.fst)) && decide ((↑k : Int) > 0)) = true) → ((((↑k : Int)) : Int) < ((↑v.snd.fst.fst : Int)))),
  ((((!bif decide (v.snd.fst.snd (↑k : Int).toNat < 0) then true else decide (v.snd.fst.snd (↑k : Int).toNat ≥ v.fst.fst)) && decide ((↑k : Int) > 0)) = true) → (((!bif decide (v.snd.fst.snd (↑k : Int).toNat < 0) then true else decide (v.snd.fst.snd (↑k : Int).toNat ≥ v.fst.fst)) && decide ((↑k : Int) > 0)) = true)),
  ((((!bif decide (v.snd.fst.snd (↑k : Int).toNat < 0) then true else decide (v.snd.fst.snd (↑k : Int).toNat ≥ v.fst.fst)) && decide ((↑k : Int) > 0)) = true) → (((!bif decide (v.snd.fst.snd (↑k : Int).toNat < 0) then true else decide (v.snd.fst.snd (↑k : Int).toNat ≥ v.fst.fst)) && decide ((↑k : Int) > 0)) = true)),
  ((((!bif decide (v.snd.fst.snd (↑k : Int).toNat < 0) then true else decide (v.snd.fst.snd (↑k : Int).toNat ≥ v.fst.fst)) && decide ((↑k : Int) > 0)) = true) → (((!bif decide (v.snd.fst.snd (↑k : Int).toNat < 0) then true else decide (v.snd.fst.snd (↑k : Int).toNat ≥ v.fst.fst)) && decide ((↑k : Int) > 0)) = true)),
  (((!bif decide (v.snd.fst.snd (↑k : Int).toNat < 0) then true else decide (v.snd.fst.snd (↑k : Int).toNat ≥ v.fst.fst)) = true) → ((!bif decide (v.snd.fst.snd (↑k : Int).toNat < 0) then true else decide (v.snd.fst.snd (↑k : Int).toNat ≥ v.fst.fst)) = true)),
  (((!bif decide (v.snd.fst.snd (↑k : Int).toNat < 0) then true else decide (v.snd.fst.snd (↑k : Int).toNat ≥ v.fst.fst)) = true) → (((decide ((↑k : Int) > 0)) = true) → (((!bif decide (v.snd.fst.snd (↑k : Int).toNat < 0) then true else decide (v.snd.fst.snd (↑k : Int).toNat ≥ v.fst.fst)) && decide ((↑k : Int) > 0)) = true))),
  (((bif decide (v.snd.fst.snd (↑k : Int).toNat < 0) then true else decide (v.snd.fst.snd (↑k : Int).toNat ≥ v.fst.fst)) = false) → ((!bif decide (v.snd.fst.snd (↑k : Int).toNat < 0) then true else decide (v.snd.fst.snd (↑k : Int).toNat ≥ v.fst.fst)) = true)),
  ((bif bif decide (v.snd.fst.snd (↑k : Int).toNat < 0) then true else decide (v.snd.fst.snd (↑k : Int).toNat ≥ v.fst.fst) then true else bif decide ((↑k : Int) > 0) then decide (v.snd.fst.snd ((↑k : Int) - 1).toNat ≥ v.snd.fst.snd (↑k : Int).toNat) else false) = false),
  (((-9223372036854775808) : Int) ≤ ((↑k : Int) + 1)),
  ((((↑k : Int) + 1) : Int) ≤ 9223372036854775807),
  (((v.fst.fst) : Int) = (v.fst.fst)),
  (((v.fst.snd.fst.fst) : Nat) = (v.fst.snd.fst.fst)),
  (∀ i : Nat, ((((i) : Nat) < (v.fst.snd.fst.fst)) → (([.int .i64 ((v.fst.snd.fst.snd i).fst), .int .i64 ((v.fst.snd.fst.snd i).snd.fst)] : List PV) = [.int .i64 ((v.fst.snd.fst.snd i).fst), .int .i64 ((v.fst.snd.fst.snd i).snd.fst)]))),
  (((v.snd.fst.fst) : Nat) = (v.snd.fst.fst)),
  (∀ i : Nat, ((((i) : Nat) < (v.snd.fst.fst)) → (([.int .i64 (v.snd.fst.snd i)] : List PV) = [.int .i64 (v.snd.fst.snd i)]))),
  ((0 : Nat) = 0),
  ((((↑k : Int) + 1) : Int) = ((↑(k + 1) : Int))),
  ((3 : Nat) = 3),
  ((1 : Nat) ≤ 1),
  ((1 : Nat) ≤ 1),
  (((v.fst.fst) : Int) = (v.fst.fst)),
  (((v.fst.snd.fst.fst) : Nat) = (v.fst.snd.fst.fst)),
  (∀ i : Nat, ((((i) : Nat) < (v.fst.snd.fst.fst)) → (([.int .i64 ((v.fst.snd.fst.snd i).fst), .int .i64 ((v.fst.snd.fst.snd i).snd.fst)] : List PV) = [.int .i64 ((v.fst.snd.fst.snd i).fst), .int .i64 ((v.fst.snd.fst.snd i).snd.fst)]))),
  (((v.snd.fst.fst) : Nat) = (v.snd.fst.fst)),
  (∀ i : Nat, ((((i) : Nat) < (v.snd.fst.fst)) → (([.int .i64 (v.snd.fst.snd i)] : List PV) = [.int .i64 (v.snd.fst.snd i)])))]) := by kernel_rfl
theorem p56c (v : T_Pinned) (k : Nat) :
    pathOb Try.prog Try.f46 0 [.reg [oT, oT, oT, oT, oT], .dec true, .reg [oT, oT, oT, oT, oT, oT, oT, oT, oT, oT, oT, oT, oT, oT, oT, oT, oT, oT, oT, oT, oT, oT, oT, oT, oT, oT, oT, oT, oT, oT, oT, oT, oT, oT, oT], .dec true, .reg [oT]] [.code (cAt (bodyOf Try.f46) [1, 0, 1, 0, 0]), .inLoop (cAt (bodyOf Try.f46) [1, 0, 1, 0, 0]), .inBlock 0, .code (cAt (bodyOf Try.f46) [1, 1])] (S56a v k) [] 1 [] (.p (.bool false)) =
    some [((0 : Nat) < 1),
  ((decide ((↑k : Int) < (↑v.snd.fst.fst : Int))) = true),
  ((0 : Nat) < 1),
  ((0 : Int) ≤ ((↑k : Int))),
  ((((↑k : Int)) : Int) < ((↑v.snd.fst.fst : Int))),
  (((!decide (v.snd.fst.snd (↑k : Int).toNat < 0)) = true) → ((!decide (v.snd.fst.snd (↑k : Int).toNat < 0)) = true)),
  (((!decide (v.snd.fst.snd (↑k : Int).toNat < 0)) = true) → ((0 : Nat) < 1)),
  (((!decide (v.snd.fst.snd (↑k : Int).toNat < 0)) = true) → ((!decide (v.snd.fst.snd (↑k : Int).toNat < 0)) = true)),
  (((!decide (v.snd.fst.snd (↑k : Int).toNat < 0)) = true) → ((!decide (v.snd.fst.snd (↑k : Int).toNat < 0)) = true)),
  (((!decide (v.snd.fst.snd (↑k : Int).toNat < 0)) = true) → ((0 : Int) ≤ ((↑k : Int)))),
  (((!decide (v.snd.fst.snd (↑k : Int).toNat < 0)) = true) → ((((↑k : Int)) : Int) < ((↑v.snd.fst.fst : Int)))),
  (((!decide (v.snd.fst.snd (↑k : Int).toNat < 0)) = true) → ((!decide (v.snd.fst.snd (↑k : Int).toNat < 0)) = true)),
  (((!decide (v.snd.fst.snd (↑k : Int).toNat < 0)) = true) → ((!decide (v.snd.fst.snd (↑k : Int).toNat < 0)) = true)),
  (((!decide (v.snd.fst.snd (↑k : Int).toNat < 0)) = true) → ((!decide (v.snd.fst.snd (↑k : Int).toNat < 0)) = true)),
  (((!decide (v.snd.fst.snd (↑k : Int).toNat < 0)) = true) → ((0 : Nat) < 1)),
  (((!decide (v.snd.fst.snd (↑k : Int).toNat < 0)) = true) → ((!decide (v.snd.fst.snd (↑k : Int).toNat < 0)) = true)),
  (((!decide (v.snd.fst.snd (↑k : Int).toNat < 0)) = true) → ((!decide (v.snd.fst.snd (↑k : Int).toNat < 0)) = true)),
  (((decide (v.snd.fst.snd (↑k : Int).toNat < 0)) = false) → ((!decide (v.snd.fst.snd (↑k : Int).toNat < 0)) = true)),
  (((!bif decide (v.snd.fst.snd (↑k : Int).toNat < 0) then true else decide (v.snd.fst.snd (↑k : Int).toNat ≥ v.fst.fst)) = true) → ((!bif decide (v.snd.fst.snd (↑k : Int).toNat < 0) then true else decide (v.snd.fst.snd (↑k : Int).toNat ≥ v.fst.fst)) = true)),
  (((!bif decide (v.snd.fst.snd (↑k : Int).toNat < 0) then true else decide (v.snd.fst.snd (↑k : Int).toNat ≥ v.fst.fst)) = true) → ((!bif decide (v.snd.fst.snd (↑k : Int).toNat < 0) then true else decide (v.snd.fst.snd (↑k : Int).toNat ≥ v.fst.fst)) = true)),
  ((((!bif decide (v.snd.fst.snd (↑k : Int).toNat < 0) then true else decide (v.snd.fst.snd (↑k : Int).toNat ≥ v.fst.fst)) && decide ((↑k : Int) > 0)) = true) → (((!bif decide (v.snd.fst.snd (↑k : Int).toNat < 0) then true else decide (v.snd.fst.snd (↑k : Int).toNat ≥ v.fst.fst)) && decide ((↑k : Int) > 0)) = true)),
  ((((!bif decide (v.snd.fst.snd (↑k : Int).toNat < 0) then true else decide (v.snd.fst.snd (↑k : Int).toNat ≥ v.fst.fst)) && decide ((↑k : Int) > 0)) = true) → ((0 : Nat) < 1)),
  ((((!bif decide (v.snd.fst.snd (↑k : Int).toNat < 0) then true else decide (v.snd.fst.snd (↑k : Int).toNat ≥ v.fst.fst)) && decide ((↑k : Int) > 0)) = true) → (((!bif decide (v.snd.fst.snd (↑k : Int).toNat < 0) then true else decide (v.snd.fst.snd (↑k : Int).toNat ≥ v.fst.fst)) && decide ((↑k : Int) > 0)) = true)),
  ((((!bif decide (v.snd.fst.snd (↑k : Int).toNat < 0) then true else decide (v.snd.fst.snd (↑k : Int).toNat ≥ v.fst.fst)) && decide ((↑k : Int) > 0)) = true) → (((-9223372036854775808) : Int) ≤ ((↑k : Int) - 1))),
  ((((!bif decide (v.snd.fst.snd (↑k : Int).toNat < 0) then true else decide (v.snd.fst.snd (↑k : Int).toNat ≥ v.fst.fst)) && decide ((↑k : Int) > 0)) = true) → ((((↑k : Int) - 1) : Int) ≤ 9223372036854775807)),
  ((((!bif decide (v.snd.fst.snd (↑k : Int).toNat < 0) then true else decide (v.snd.fst.snd (↑k : Int).toNat ≥ v.fst.fst)) && decide ((↑k : Int) > 0)) = true) → (((!bif decide (v.snd.fst.snd (↑k : Int).toNat < 0) then true else decide (v.snd.fst.snd (↑k : Int).toNat ≥ v.fst.fst)) && decide ((↑k : Int) > 0)) = true)),
  ((((!bif decide (v.snd.fst.snd (↑k : Int).toNat < 0) then true else decide (v.snd.fst.snd (↑k : Int).toNat ≥ v.fst.fst)) && decide ((↑k : Int) > 0)) = true) → (((!bif decide (v.snd.fst.snd (↑k : Int).toNat < 0) then true else decide (v.snd.fst.snd (↑k : Int).toNat ≥ v.fst.fst)) && decide ((↑k : Int) > 0)) = true)),
  ((((!bif decide (v.snd.fst.snd (↑k : Int).toNat < 0) then true else decide (v.snd.fst.snd (↑k : Int).toNat ≥ v.fst.fst)) && decide ((↑k : Int) > 0)) = true) → ((0 : Int) ≤ ((↑k : Int) - 1))),
  ((((!bif decide (v.snd.fst.snd (↑k : Int).toNat < 0) then true else decide (v.snd.fst.snd (↑k : Int).toNat ≥ v.fst.fst)) && decide ((↑k : Int) > 0)) = true) → ((((↑k : Int) - 1) : Int) < ((↑v.snd.fst.fst : Int)))),
  ((((!bif decide (v.snd.fst.snd (↑k : Int).toNat < 0) then true else decide (v.snd.fst.snd (↑k : Int).toNat ≥ v.fst.fst)) && decide ((↑k : Int) > 0)) = true) → (((!bif decide (v.snd.fst.snd (↑k : Int).toNat < 0) then true else decide (v.snd.fst.snd (↑k : Int).toNat ≥ v.fst.fst)) && decide ((↑k : Int) > 0)) = true)),
  ((((!bif decide (v.snd.fst.snd (↑k : Int).toNat < 0) then true else decide (v.snd.fst.snd (↑k : Int).toNat ≥ v.fst.fst)) && decide ((↑k : Int) > 0)) = true) → (((!bif decide (v.snd.fst.snd (↑k : Int).toNat < 0) then true else decide (v.snd.fst.snd (↑k : Int).toNat ≥ v.fst.fst)) && decide ((↑k : Int) > 0)) = true)),
  ((((!bif decide (v.snd.fst.snd (↑k : Int).toNat < 0) then true else decide (v.snd.fst.snd (↑k : Int).toNat ≥ v.fst.fst)) && decide ((↑k : Int) > 0)) = true) → ((0 : Nat) < 1)),
  ((((!bif decide (v.snd.fst.snd (↑k : Int).toNat < 0) then true else decide (v.snd.fst.snd (↑k : Int).toNat ≥ v.fst.fst)) && decide ((↑k : Int) > 0)) = true) → (((!bif decide (v.snd.fst.snd (↑k : Int).toNat < 0) then true else decide (v.snd.fst.snd (↑k : Int).toNat ≥ v.fst.fst)) && decide ((↑k : Int) > 0)) = true)),
  ((((!bif decide (v.snd.fst.snd (↑k : Int).toNat < 0) then true else decide (v.snd.fst.snd (↑k : Int).toNat ≥ v.fst.fst)) && decide ((↑k : Int) > 0)) = true) → (((!bif decide (v.snd.fst.snd (↑k : Int).toNat < 0) then true else decide (v.snd.fst.snd (↑k : Int).toNat ≥ v.fst.fst)) && decide ((↑k : Int) > 0)) = true)),
  ((((!bif decide (v.snd.fst.snd (↑k : Int).toNat < 0) then true else decide (v.snd.fst.snd (↑k : Int).toNat ≥ v.fst.fst)) && decide ((↑k : Int) > 0)) = true) → ((0 : Int) ≤ ((↑k : Int)))),
  ((((!bif decide (v.snd.fst.snd (↑k : Int).toNat < 0) then true else decide (v.snd.fst.snd (↑k : Int).toNat ≥ v.fst.fst)) && decide ((↑k : Int) > 0)) = true) → ((((↑k : Int)) : Int) < ((↑v.snd.fst.fst : Int)))),
  ((((!bif decide (v.snd.fst.snd (↑k : Int).toNat < 0) then true else decide (v.snd.fst.snd (↑k : Int).toNat ≥ v.fst.fst)) && decide ((↑k : Int) > 0)) = true) → (((!bif decide (v.snd.fst.snd (↑k : Int).toNat < 0) then true else decide (v.snd.fst.snd (↑k : Int).toNat ≥ v.fst.fst)) && decide ((↑k : Int) > 0)) = true)),
  ((((!bif decide (v.snd.fst.snd (↑k : Int).toNat < 0) then true else decide (v.snd.fst.snd (↑k : Int).toNat ≥ v.fst.fst)) && decide ((↑k : Int) > 0)) = true) → (((!bif decide (v.snd.fst.snd (↑k : Int).toNat < 0) then true else decide (v.snd.fst.snd (↑k : Int).toNat ≥ v.fst.fst)) && decide ((↑k : Int) > 0)) = true)),
  ((((!bif decide (v.snd.fst.snd (↑k : Int).toNat < 0) then true else decide (v.snd.fst.snd (↑k : Int).toNat ≥ v.fst.fst)) && decide ((↑k : Int) > 0)) = true) → (((!bif decide (v.snd.fst.snd (↑k : Int).toNat < 0) then true else decide (v.snd.fst.snd (↑k : Int).toNat ≥ v.fst.fst)) && decide ((↑k : Int) > 0)) = true)),
  (((!bif decide (v.snd.fst.snd (↑k : Int).toNat < 0) then true else decide (v.snd.fst.snd (↑k : Int).toNat ≥ v.fst.fst)) = true) → ((!bif decide (v.snd.fst.snd (↑k : Int).toNat < 0) then true else decide (v.snd.fst.snd (↑k : Int).toNat ≥ v.fst.fst)) = true)),
  (((!bif decide (v.snd.fst.snd (↑k : Int).toNat < 0) then true else decide (v.snd.fst.snd (↑k : Int).toNat ≥ v.fst.fst)) = true) → (((decide ((↑k : Int) > 0)) = true) → (((!bif decide (v.snd.fst.snd (↑k : Int).toNat < 0) then true else decide (v.snd.fst.snd (↑k : Int).toNat ≥ v.fst.fst)) && decide ((↑k : Int) > 0)) = true))),
  (((bif decide (v.snd.fst.snd (↑k : Int).toNat < 0) then true else decide (v.snd.fst.snd (↑k : Int).toNat ≥ v.fst.fst)) = false) → ((!bif decide (v.snd.fst.snd (↑k : Int).toNat < 0) then true else decide (v.snd.fst.snd (↑k : Int).toNat ≥ v.fst.fst)) = true)),
  ((bif bif decide (v.snd.fst.snd (↑k : Int).toNat < 0) then true else decide (v.snd.fst.snd (↑k : Int).toNat ≥ v.fst.fst) then true else bif decide ((↑k : Int) > 0) then decide (v.snd.fst.snd ((↑k : Int) - 1).toNat ≥ v.snd.fst.snd (↑k : Int).toNat) else false) = true),
  (false = false)] := by kernel_rfl
theorem p56d (v : T_Pinned) (k : Nat) :
    pieceOb Try.prog 0 [.reg [oT, oT, oT, oT, oT], .dec false, .reg [oT], .head] [.code (cAt (bodyOf Try.f46) [1, 0, 1, 0, 0]), .inLoop (cAt (bodyOf Try.f46) [1, 0, 1, 0, 0]), .inBlock 0, .code (cAt (bodyOf Try.f46) [1, 1])] (S56a v k) [0] 1 (S56b v 0) =
    some ([.code (cAt (bodyOf Try.f46) [1, 1, 0, 1, 0, 0]), .inLoop (cAt (bodyOf Try.f46) [1, 1, 0, 1, 0, 0]), .inBlock 2, .code (cAt (bodyOf Try.f46) [1, 1, 1])], [((0 : Nat) < 1),
  ((decide ((↑k : Int) < (↑v.snd.fst.fst : Int))) = false),
  (((v.fst.fst) : Int) = (v.fst.fst)),
  (((v.fst.snd.fst.fst) : Nat) = (v.fst.snd.fst.fst)),
  (∀ i : Nat, ((((i) : Nat) < (v.fst.snd.fst.fst)) → (([.int .i64 ((v.fst.snd.fst.snd i).fst), .int .i64 ((v.fst.snd.fst.snd i).snd.fst)] : List PV) = [.int .i64 ((v.fst.snd.fst.snd i).fst), .int .i64 ((v.fst.snd.fst.snd i).snd.fst)]))),
  (((v.snd.fst.fst) : Nat) = (v.snd.fst.fst)),
  (∀ i : Nat, ((((i) : Nat) < (v.snd.fst.fst)) → (([.int .i64 (v.snd.fst.snd i)] : List PV) = [.int .i64 (v.snd.fst.snd i)]))),
  ((0 : Nat) = 0),
  ((0 : Int) = ((↑0 : Int))),
  ((3 : Nat) = 3),
  ((1 : Nat) ≤ 1),
  ((1 : Nat) ≤ 1),
  (((v.fst.fst) : Int) = (v.fst.fst)),
  (((v.fst.snd.fst.fst) : Nat) = (v.fst.snd.fst.fst)),
  (∀ i : Nat, ((((i) : Nat) < (v.fst.snd.fst.fst)) → (([.int .i64 ((v.fst.snd.fst.snd i).fst), .int .i64 ((v.fst.snd.fst.snd i).snd.fst)] : List PV) = [.int .i64 ((v.fst.snd.fst.snd i).fst), .int .i64 ((v.fst.snd.fst.snd i).snd.fst)]))),
  (((v.snd.fst.fst) : Nat) = (v.snd.fst.fst)),
  (∀ i : Nat, ((((i) : Nat) < (v.snd.fst.fst)) → (([.int .i64 (v.snd.fst.snd i)] : List PV) = [.int .i64 (v.snd.fst.snd i)])))]) := by kernel_rfl
theorem p56e (v : T_Pinned) (k : Nat) :
    pieceOb Try.prog 0 [.reg [oT, oT, oT, oT, oT, oT], .dec true, .reg [oT, oT, oT, oT, oT, oT, oT, oT, oT, ⟨true, (some ⟨[], [], 1, [], .p (.bool (hasI v.2.1.2 (v.1.2.1.2 k).1 v.2.1.1))⟩), none⟩, oT, oT, oT, oT, oT, oT, oT, oT, oT, oT, ⟨true, (some ⟨[], [], 1, [], .p (.bool (hasI v.2.1.2 (v.1.2.1.2 k).2.1 v.2.1.1))⟩), none⟩, oT], .dec false, .reg [oT, oT, oT], .head] [.code (cAt (bodyOf Try.f46) [1, 1, 0, 1, 0, 0]), .inLoop (cAt (bodyOf Try.f46) [1, 1, 0, 1, 0, 0]), .inBlock 2, .code (cAt (bodyOf Try.f46) [1, 1, 1])] (S56b v k) [0] 1 (S56b v (k + 1)) =
    some ([.code (cAt (bodyOf Try.f46) [1, 1, 0, 1, 0, 0]), .inLoop (cAt (bodyOf Try.f46) [1, 1, 0, 1, 0, 0]), .inBlock 2, .code (cAt (bodyOf Try.f46) [1, 1, 1])], [((0 : Nat) < 1),
  ((decide ((↑k : Int) < (↑v.fst.snd.fst.fst : Int))) = true),
  ((0 : Nat) < 1),
  ((0 : Nat) < 1),
  ((0 : Int) ≤ ((↑k : Int))),
  ((((↑k : Int)) : Int) < ((↑v.fst.snd.fst.fst : Int))),
  Con (Try.prog) 93 0 [] [.p (.seq true 1 (v.snd.fst.fst) (fun i => [.int .i64 (v.snd.fst.snd i)])), .p (.int .i64 ((v.fst.snd.fst.snd k).fst))] [] (.p (.bool (hasI v.snd.fst.snd (v.fst.snd.fst.snd k).fst v.snd.fst.fst))),
  (((hasI v.snd.fst.snd (v.fst.snd.fst.snd k).fst v.snd.fst.fst) = true) → ((hasI v.snd.fst.snd (v.fst.snd.fst.snd k).fst v.snd.fst.fst) = true)),
  (((hasI v.snd.fst.snd (v.fst.snd.fst.snd k).fst v.snd.fst.fst) = true) → ((0 : Nat) < 1)),
  (((hasI v.snd.fst.snd (v.fst.snd.fst.snd k).fst v.snd.fst.fst) = true) → ((hasI v.snd.fst.snd (v.fst.snd.fst.snd k).fst v.snd.fst.fst) = true)),
  (((hasI v.snd.fst.snd (v.fst.snd.fst.snd k).fst v.snd.fst.fst) = true) → ((hasI v.snd.fst.snd (v.fst.snd.fst.snd k).fst v.snd.fst.fst) = true)),
  (((hasI v.snd.fst.snd (v.fst.snd.fst.snd k).fst v.snd.fst.fst) = true) → ((0 : Nat) < 1)),
  (((hasI v.snd.fst.snd (v.fst.snd.fst.snd k).fst v.snd.fst.fst) = true) → ((hasI v.snd.fst.snd (v.fst.snd.fst.snd k).fst v.snd.fst.fst) = true)),
  (((hasI v.snd.fst.snd (v.fst.snd.fst.snd k).fst v.snd.fst.fst) = true) → ((hasI v.snd.fst.snd (v.fst.snd.fst.snd k).fst v.snd.fst.fst) = true)),
  (((hasI v.snd.fst.snd (v.fst.snd.fst.snd k).fst v.snd.fst.fst) = true) → ((0 : Int) ≤ ((↑k : Int)))),
  (((hasI v.snd.fst.snd (v.fst.snd.fst.snd k).fst v.snd.fst.fst) = true) → ((((↑k : Int)) : Int) < ((↑v.fst.snd.fst.fst : Int)))),
  (((hasI v.snd.fst.snd (v.fst.snd.fst.snd k).fst v.snd.fst.fst) = true) → ((hasI v.snd.fst.snd (v.fst.snd.fst.snd k).fst v.snd.fst.fst) = true)),
  (((hasI v.snd.fst.snd (v.fst.snd.fst.snd k).fst v.snd.fst.fst) = true) → ((hasI v.snd.fst.snd (v.fst.snd.fst.snd k).fst v.snd.fst.fst) = true)),
  (((hasI v.snd.fst.snd (v.fst.snd.fst.snd k).fst v.snd.fst.fst) = true) → ((hasI v.snd.fst.snd (v.fst.snd.fst.snd k).fst v.snd.fst.fst) = true)),
  (((hasI v.snd.fst.snd (v.fst.snd.fst.snd k).fst v.snd.fst.fst) = true) → ((hasI v.snd.fst.snd (v.fst.snd.fst.snd k).fst v.snd.fst.fst) = true)),
  (((hasI v.snd.fst.snd (v.fst.snd.fst.snd k).fst v.snd.fst.fst) = true) → Con (Try.prog) 93 0 [] [.p (.seq true 1 (v.snd.fst.fst) (fun i => [.int .i64 (v.snd.fst.snd i)])), .p (.int .i64 ((v.fst.snd.fst.snd k).snd.fst))] [] (.p (.bool (hasI v.snd.fst.snd (v.fst.snd.fst.snd k).snd.fst v.snd.fst.fst)))),
  (((hasI v.snd.fst.snd (v.fst.snd.fst.snd k).fst v.snd.fst.fst) = true) → ((hasI v.snd.fst.snd (v.fst.snd.fst.snd k).fst v.snd.fst.fst) = true)),
  ((bif hasI v.snd.fst.snd (v.fst.snd.fst.snd k).fst v.snd.fst.fst then hasI v.snd.fst.snd (v.fst.snd.fst.snd k).snd.fst v.snd.fst.fst else false) = false),
  (((-9223372036854775808) : Int) ≤ ((↑k : Int) + 1)),
  ((((↑k : Int) + 1) : Int) ≤ 9223372036854775807),
  (((v.fst.fst) : Int) = (v.fst.fst)),
  (((v.fst.snd.fst.fst) : Nat) = (v.fst.snd.fst.fst)),
  (∀ i : Nat, ((((i) : Nat) < (v.fst.snd.fst.fst)) → (([.int .i64 ((v.fst.snd.fst.snd i).fst), .int .i64 ((v.fst.snd.fst.snd i).snd.fst)] : List PV) = [.int .i64 ((v.fst.snd.fst.snd i).fst), .int .i64 ((v.fst.snd.fst.snd i).snd.fst)]))),
  (((v.snd.fst.fst) : Nat) = (v.snd.fst.fst)),
  (∀ i : Nat, ((((i) : Nat) < (v.snd.fst.fst)) → (([.int .i64 (v.snd.fst.snd i)] : List PV) = [.int .i64 (v.snd.fst.snd i)]))),
  ((0 : Nat) = 0),
  ((((↑k : Int) + 1) : Int) = ((↑(k + 1) : Int))),
  ((3 : Nat) = 3),
  ((1 : Nat) ≤ 1),
  ((1 : Nat) ≤ 1),
  (((v.fst.fst) : Int) = (v.fst.fst)),
  (((v.fst.snd.fst.fst) : Nat) = (v.fst.snd.fst.fst)),
  (∀ i : Nat, ((((i) : Nat) < (v.fst.snd.fst.fst)) → (([.int .i64 ((v.fst.snd.fst.snd i).fst), .int .i64 ((v.fst.snd.fst.snd i).snd.fst)] : List PV) = [.int .i64 ((v.fst.snd.fst.snd i).fst), .int .i64 ((v.fst.snd.fst.snd i).snd.fst)]))),
  (((v.snd.fst.fst) : Nat) = (v.snd.fst.fst)),
  (∀ i : Nat, ((((i) : Nat) < (v.snd.fst.fst)) → (([.int .i64 (v.snd.fst.snd i)] : List PV) = [.int .i64 (v.snd.fst.snd i)])))]) := by kernel_rfl
theorem p56f (v : T_Pinned) (k : Nat) :
    pathOb Try.prog Try.f46 0 [.reg [oT, oT, oT, oT, oT, oT], .dec true, .reg [oT, oT, oT, oT, oT, oT, oT, oT, oT, ⟨true, (some ⟨[], [], 1, [], .p (.bool (hasI v.2.1.2 (v.1.2.1.2 k).1 v.2.1.1))⟩), none⟩, oT, oT, oT, oT, oT, oT, oT, oT, oT, oT, ⟨true, (some ⟨[], [], 1, [], .p (.bool (hasI v.2.1.2 (v.1.2.1.2 k).2.1 v.2.1.1))⟩), none⟩, oT], .dec true, .reg [oT]] [.code (cAt (bodyOf Try.f46) [1, 1, 0, 1, 0, 0]), .inLoop (cAt (bodyOf Try.f46) [1, 1, 0, 1, 0, 0]), .inBlock 2, .code (cAt (bodyOf Try.f46) [1, 1, 1])] (S56b v k) [] 1 [] (.p (.bool false)) =
    some [((0 : Nat) < 1),
  ((decide ((↑k : Int) < (↑v.fst.snd.fst.fst : Int))) = true),
  ((0 : Nat) < 1),
  ((0 : Nat) < 1),
  ((0 : Int) ≤ ((↑k : Int))),
  ((((↑k : Int)) : Int) < ((↑v.fst.snd.fst.fst : Int))),
  Con (Try.prog) 93 0 [] [.p (.seq true 1 (v.snd.fst.fst) (fun i => [.int .i64 (v.snd.fst.snd i)])), .p (.int .i64 ((v.fst.snd.fst.snd k).fst))] [] (.p (.bool (hasI v.snd.fst.snd (v.fst.snd.fst.snd k).fst v.snd.fst.fst))),
  (((hasI v.snd.fst.snd (v.fst.snd.fst.snd k).fst v.snd.fst.fst) = true) → ((hasI v.snd.fst.snd (v.fst.snd.fst.snd k).fst v.snd.fst.fst) = true)),
  (((hasI v.snd.fst.snd (v.fst.snd.fst.snd k).fst v.snd.fst.fst) = true) → ((0 : Nat) < 1)),
  (((hasI v.snd.fst.snd (v.fst.snd.fst.snd k).fst v.snd.fst.fst) = true) → ((hasI v.snd.fst.snd (v.fst.snd.fst.snd k).fst v.snd.fst.fst) = true)),
  (((hasI v.snd.fst.snd (v.fst.snd.fst.snd k).fst v.snd.fst.fst) = true) → ((hasI v.snd.fst.snd (v.fst.snd.fst.snd k).fst v.snd.fst.fst) = true)),
  (((hasI v.snd.fst.snd (v.fst.snd.fst.snd k).fst v.snd.fst.fst) = true) → ((0 : Nat) < 1)),
  (((hasI v.snd.fst.snd (v.fst.snd.fst.snd k).fst v.snd.fst.fst) = true) → ((hasI v.snd.fst.snd (v.fst.snd.fst.snd k).fst v.snd.fst.fst) = true)),
  (((hasI v.snd.fst.snd (v.fst.snd.fst.snd k).fst v.snd.fst.fst) = true) → ((hasI v.snd.fst.snd (v.fst.snd.fst.snd k).fst v.snd.fst.fst) = true)),
  (((hasI v.snd.fst.snd (v.fst.snd.fst.snd k).fst v.snd.fst.fst) = true) → ((0 : Int) ≤ ((↑k : Int)))),
  (((hasI v.snd.fst.snd (v.fst.snd.fst.snd k).fst v.snd.fst.fst) = true) → ((((↑k : Int)) : Int) < ((↑v.fst.snd.fst.fst : Int)))),
  (((hasI v.snd.fst.snd (v.fst.snd.fst.snd k).fst v.snd.fst.fst) = true) → ((hasI v.snd.fst.snd (v.fst.snd.fst.snd k).fst v.snd.fst.fst) = true)),
  (((hasI v.snd.fst.snd (v.fst.snd.fst.snd k).fst v.snd.fst.fst) = true) → ((hasI v.snd.fst.snd (v.fst.snd.fst.snd k).fst v.snd.fst.fst) = true)),
  (((hasI v.snd.fst.snd (v.fst.snd.fst.snd k).fst v.snd.fst.fst) = true) → ((hasI v.snd.fst.snd (v.fst.snd.fst.snd k).fst v.snd.fst.fst) = true)),
  (((hasI v.snd.fst.snd (v.fst.snd.fst.snd k).fst v.snd.fst.fst) = true) → ((hasI v.snd.fst.snd (v.fst.snd.fst.snd k).fst v.snd.fst.fst) = true)),
  (((hasI v.snd.fst.snd (v.fst.snd.fst.snd k).fst v.snd.fst.fst) = true) → Con (Try.prog) 93 0 [] [.p (.seq true 1 (v.snd.fst.fst) (fun i => [.int .i64 (v.snd.fst.snd i)])), .p (.int .i64 ((v.fst.snd.fst.snd k).snd.fst))] [] (.p (.bool (hasI v.snd.fst.snd (v.fst.snd.fst.snd k).snd.fst v.snd.fst.fst)))),
  (((hasI v.snd.fst.snd (v.fst.snd.fst.snd k).fst v.snd.fst.fst) = true) → ((hasI v.snd.fst.snd (v.fst.snd.fst.snd k).fst v.snd.fst.fst) = true)),
  ((bif hasI v.snd.fst.snd (v.fst.snd.fst.snd k).fst v.snd.fst.fst then hasI v.snd.fst.snd (v.fst.snd.fst.snd k).snd.fst v.snd.fst.fst else false) = true),
  (false = false)] := by kernel_rfl
theorem p56g (v : T_Pinned) (k : Nat) :
    pathOb Try.prog Try.f46 0 [.reg [oT, oT, oT, oT, oT, oT], .dec false, .reg [oT, oT, ⟨true, (some ⟨[], [], 1, [], .p (.bool (simpleF v.1))⟩), none⟩, oT, oT, oT, oT, oT, oT, oT, oT, oT, oT, oT, oT, oT, oT, oT, oT, oT, oT, oT, oT, oT, oT, oT, oT, oT, oT, oT]] [.code (cAt (bodyOf Try.f46) [1, 1, 0, 1, 0, 0]), .inLoop (cAt (bodyOf Try.f46) [1, 1, 0, 1, 0, 0]), .inBlock 2, .code (cAt (bodyOf Try.f46) [1, 1, 1])] (S56b v k) [] 1 [] (.p (.bool (tailP v))) =
    some [((0 : Nat) < 1),
  ((decide ((↑k : Int) < (↑v.fst.snd.fst.fst : Int))) = false),
  ((0 : Nat) < 1),
  Con (Try.prog) 94 0 [] [.agg [.p (.int .i64 (v.fst.fst)), .p (.seq true 2 (v.fst.snd.fst.fst) (fun i => [.int .i64 ((v.fst.snd.fst.snd i).fst), .int .i64 ((v.fst.snd.fst.snd i).snd.fst)]))]] [] (.p (.bool (simpleF v.fst))),
  (((simpleF v.fst) = true) → ((simpleF v.fst) = true)),
  (((simpleF v.fst) = true) → ((0 : Nat) < 1)),
  (((simpleF v.fst) = true) → ((simpleF v.fst) = true)),
  (((simpleF v.fst) = true) → ((simpleF v.fst) = true)),
  (((simpleF v.fst) = true) → ((simpleF v.fst) = true)),
  (((bif simpleF v.fst then decide ((↑v.snd.fst.fst : Int) ≥ 2) else false) = true) → ((bif simpleF v.fst then decide ((↑v.snd.fst.fst : Int) ≥ 2) else false) = true)),
  (((bif simpleF v.fst then decide ((↑v.snd.fst.fst : Int) ≥ 2) else false) = true) → ((bif simpleF v.fst then decide ((↑v.snd.fst.fst : Int) ≥ 2) else false) = true)),
  (((bif simpleF v.fst then decide ((↑v.snd.fst.fst : Int) ≥ 2) else false) = true) → ((0 : Nat) < 1)),
  (((bif simpleF v.fst then decide ((↑v.snd.fst.fst : Int) ≥ 2) else false) = true) → ((bif simpleF v.fst then decide ((↑v.snd.fst.fst : Int) ≥ 2) else false) = true)),
  (((bif simpleF v.fst then decide ((↑v.snd.fst.fst : Int) ≥ 2) else false) = true) → ((bif simpleF v.fst then decide ((↑v.snd.fst.fst : Int) ≥ 2) else false) = true)),
  (((bif simpleF v.fst then decide ((↑v.snd.fst.fst : Int) ≥ 2) else false) = true) → ((bif simpleF v.fst then decide ((↑v.snd.fst.fst : Int) ≥ 2) else false) = true)),
  (((bif bif simpleF v.fst then decide ((↑v.snd.fst.fst : Int) ≥ 2) else false then decide ((↑v.fst.snd.fst.fst : Int) ≤ 15) else false) = true) → ((bif bif simpleF v.fst then decide ((↑v.snd.fst.fst : Int) ≥ 2) else false then decide ((↑v.fst.snd.fst.fst : Int) ≤ 15) else false) = true)),
  (((bif bif simpleF v.fst then decide ((↑v.snd.fst.fst : Int) ≥ 2) else false then decide ((↑v.fst.snd.fst.fst : Int) ≤ 15) else false) = true) → ((bif bif simpleF v.fst then decide ((↑v.snd.fst.fst : Int) ≥ 2) else false then decide ((↑v.fst.snd.fst.fst : Int) ≤ 15) else false) = true)),
  (((bif bif simpleF v.fst then decide ((↑v.snd.fst.fst : Int) ≥ 2) else false then decide ((↑v.fst.snd.fst.fst : Int) ≤ 15) else false) = true) → ((0 : Nat) < 1)),
  (((bif bif simpleF v.fst then decide ((↑v.snd.fst.fst : Int) ≥ 2) else false then decide ((↑v.fst.snd.fst.fst : Int) ≤ 15) else false) = true) → ((bif bif simpleF v.fst then decide ((↑v.snd.fst.fst : Int) ≥ 2) else false then decide ((↑v.fst.snd.fst.fst : Int) ≤ 15) else false) = true)),
  (((bif bif simpleF v.fst then decide ((↑v.snd.fst.fst : Int) ≥ 2) else false then decide ((↑v.fst.snd.fst.fst : Int) ≤ 15) else false) = true) → ((bif bif simpleF v.fst then decide ((↑v.snd.fst.fst : Int) ≥ 2) else false then decide ((↑v.fst.snd.fst.fst : Int) ≤ 15) else false) = true)),
  (((bif bif simpleF v.fst then decide ((↑v.snd.fst.fst : Int) ≥ 2) else false then decide ((↑v.fst.snd.fst.fst : Int) ≤ 15) else false) = true) → ((0 : Nat) < 1)),
  (((bif bif simpleF v.fst then decide ((↑v.snd.fst.fst : Int) ≥ 2) else false then decide ((↑v.fst.snd.fst.fst : Int) ≤ 15) else false) = true) → ((bif bif simpleF v.fst then decide ((↑v.snd.fst.fst : Int) ≥ 2) else false then decide ((↑v.fst.snd.fst.fst : Int) ≤ 15) else false) = true)),
  (((bif bif simpleF v.fst then decide ((↑v.snd.fst.fst : Int) ≥ 2) else false then decide ((↑v.fst.snd.fst.fst : Int) ≤ 15) else false) = true) → ((bif bif simpleF v.fst then decide ((↑v.snd.fst.fst : Int) ≥ 2) else false then decide ((↑v.fst.snd.fst.fst : Int) ≤ 15) else false) = true)),
  (((bif bif simpleF v.fst then decide ((↑v.snd.fst.fst : Int) ≥ 2) else false then decide ((↑v.fst.snd.fst.fst : Int) ≤ 15) else false) = true) → (((-9223372036854775808) : Int) ≤ (2 * (↑v.snd.fst.fst : Int)))),
  (((bif bif simpleF v.fst then decide ((↑v.snd.fst.fst : Int) ≥ 2) else false then decide ((↑v.fst.snd.fst.fst : Int) ≤ 15) else false) = true) → (((2 * (↑v.snd.fst.fst : Int)) : Int) ≤ 9223372036854775807)),
  (((bif bif simpleF v.fst then decide ((↑v.snd.fst.fst : Int) ≥ 2) else false then decide ((↑v.fst.snd.fst.fst : Int) ≤ 15) else false) = true) → ((bif bif simpleF v.fst then decide ((↑v.snd.fst.fst : Int) ≥ 2) else false then decide ((↑v.fst.snd.fst.fst : Int) ≤ 15) else false) = true)),
  (((bif bif simpleF v.fst then decide ((↑v.snd.fst.fst : Int) ≥ 2) else false then decide ((↑v.fst.snd.fst.fst : Int) ≤ 15) else false) = true) → ((bif bif simpleF v.fst then decide ((↑v.snd.fst.fst : Int) ≥ 2) else false then decide ((↑v.fst.snd.fst.fst : Int) ≤ 15) else false) = true)),
  (((bif bif simpleF v.fst then decide ((↑v.snd.fst.fst : Int) ≥ 2) else false then decide ((↑v.fst.snd.fst.fst : Int) ≤ 15) else false) = true) → (((-9223372036854775808) : Int) ≤ ((↑v.fst.snd.fst.fst : Int) + 2 * (↑v.snd.fst.fst : Int)))),
  (((bif bif simpleF v.fst then decide ((↑v.snd.fst.fst : Int) ≥ 2) else false then decide ((↑v.fst.snd.fst.fst : Int) ≤ 15) else false) = true) → ((((↑v.fst.snd.fst.fst : Int) + 2 * (↑v.snd.fst.fst : Int)) : Int) ≤ 9223372036854775807)),
  (((bif bif simpleF v.fst then decide ((↑v.snd.fst.fst : Int) ≥ 2) else false then decide ((↑v.fst.snd.fst.fst : Int) ≤ 15) else false) = true) → ((bif bif simpleF v.fst then decide ((↑v.snd.fst.fst : Int) ≥ 2) else false then decide ((↑v.fst.snd.fst.fst : Int) ≤ 15) else false) = true)),
  (((bif bif simpleF v.fst then decide ((↑v.snd.fst.fst : Int) ≥ 2) else false then decide ((↑v.fst.snd.fst.fst : Int) ≤ 15) else false) = true) → (((-9223372036854775808) : Int) ≤ ((↑v.fst.snd.fst.fst : Int) + 2 * (↑v.snd.fst.fst : Int) - 3))),
  (((bif bif simpleF v.fst then decide ((↑v.snd.fst.fst : Int) ≥ 2) else false then decide ((↑v.fst.snd.fst.fst : Int) ≤ 15) else false) = true) → ((((↑v.fst.snd.fst.fst : Int) + 2 * (↑v.snd.fst.fst : Int) - 3) : Int) ≤ 9223372036854775807)),
  (((bif bif simpleF v.fst then decide ((↑v.snd.fst.fst : Int) ≥ 2) else false then decide ((↑v.fst.snd.fst.fst : Int) ≤ 15) else false) = true) → ((bif bif simpleF v.fst then decide ((↑v.snd.fst.fst : Int) ≥ 2) else false then decide ((↑v.fst.snd.fst.fst : Int) ≤ 15) else false) = true)),
  (((bif bif simpleF v.fst then decide ((↑v.snd.fst.fst : Int) ≥ 2) else false then decide ((↑v.fst.snd.fst.fst : Int) ≤ 15) else false) = true) → ((bif bif simpleF v.fst then decide ((↑v.snd.fst.fst : Int) ≥ 2) else false then decide ((↑v.fst.snd.fst.fst : Int) ≤ 15) else false) = true)),
  ((bif bif bif simpleF v.fst then decide ((↑v.snd.fst.fst : Int) ≥ 2) else false then decide ((↑v.fst.snd.fst.fst : Int) ≤ 15) else false then decide ((↑v.fst.snd.fst.fst : Int) + 2 * (↑v.snd.fst.fst : Int) - 3 ≤ 24) else false) = (tailP v))] := by kernel_rfl

theorem goodP_bad (N : Int) (g : Nat → Int) (k : Nat) (h : badP N g k = true) : ∀ n, k < n → goodP N g n = false
  | 0, h' => by omega
  | n + 1, h' => by
    by_cases e : k = n
    · subst e; rw [goodP, h]; simp
    · rw [goodP, goodP_bad N g k h n (by omega)]; simp

theorem freeP_bad (p : T_IntS) (g : Nat → T_Bar) (k : Nat) (h : bothP p (g k) = true) : ∀ n, k < n → freeP p g n = false
  | 0, h' => by omega
  | n + 1, h' => by
    by_cases e : k = n
    · subst e; rw [freeP, h]; simp
    · rw [freeP, freeP_bad p g k h n (by omega)]; simp

theorem con_IsPinned_s (v : T_Pinned) (hs : smS s_Pinned v) : Con Try.prog 46 0 [] [pinA v] [] (.p (.bool (pinnedF v))) := by
  refine con_start Try.func46 rfl (by kernel_rfl) rfl (fun c hc => ?_)
  have hg : smS s_Graph v.1 := hs.1
  have hnb : v.1.2.1.1 ≤ 1048576 := hs.1.2.1.1
  have hni : v.2.1.1 ≤ 1048576 := hs.2.1.1
  have lp2 : goodP v.1.1 v.2.1.2 v.2.1.1 = true → ∀ m k, k + m = v.1.2.1.1 → freeP v.2.1 v.1.2.1.2 k = true → Run Try.prog c 46 [.code (cAt (bodyOf Try.f46) [1, 1, 0, 1, 0, 0]), .inLoop (cAt (bodyOf Try.f46) [1, 1, 0, 1, 0, 0]), .inBlock 2, .code (cAt (bodyOf Try.f46) [1, 1, 1])] (S56b v k) (Post c [] (.p (.bool (pinnedF v)))) := by
    intro hgood m
    induction m with
    | zero =>
      intro k hk hf
      rw [show pinnedF v = tailP v by rw [pinnedF, hgood, show v.1.2.1.1 = k by omega, hf]; rfl]
      have hd : decide ((k : Int) < (v.1.2.1.1 : Int)) = false := by simp; omega
      refine path_ok mixed Try.func46 hc (p56g v k) ?_
      simp only [All]
      repeat' (first | exact trivial | with_reducible apply And.intro)
      all_goals (first | omega | rfl | (intros; first | assumption | exact True.intro | rfl | exact absurd (show false = true by assumption) Bool.false_ne_true | ((repeat' (first | assumption | apply anda | apply notf)); done)) | (exact con_l17Simple v.1 hg))
    | succ m ih =>
      intro k hk hf
      have hd : decide ((k : Int) < (v.1.2.1.1 : Int)) = true := by simp; omega
      cases he : bothP v.2.1 (v.1.2.1.2 k) with
      | true =>
        rw [show pinnedF v = false by rw [pinnedF, freeP_bad v.2.1 v.1.2.1.2 k he v.1.2.1.1 (by omega)]; simp]
        refine path_ok mixed Try.func46 hc (p56f v k) ?_
        simp only [All]
        repeat' (first | exact trivial | with_reducible apply And.intro)
        all_goals (first | omega | rfl | (intros; first | assumption | exact True.intro | rfl | exact absurd (show false = true by assumption) Bool.false_ne_true | ((repeat' (first | assumption | apply anda | apply notf)); done)) | (intros; exact con_l2Has v.2.1 _ hni) | (exact he))
      | false =>
        refine piece_ok mixed hc (p56e v k) ?_ (ih (k + 1) (by omega) (by rw [freeP, hf, he]; rfl))
        simp only [All]
        repeat' (first | exact trivial | with_reducible apply And.intro)
        all_goals (first | omega | rfl | (intros; first | assumption | exact True.intro | rfl | exact absurd (show false = true by assumption) Bool.false_ne_true | ((repeat' (first | assumption | apply anda | apply notf)); done)) | (intros; exact con_l2Has v.2.1 _ hni) | (exact he) | (simp [All]))
  have lp1 : ∀ m k, k + m = v.2.1.1 → goodP v.1.1 v.2.1.2 k = true → Run Try.prog c 46 [.code (cAt (bodyOf Try.f46) [1, 0, 1, 0, 0]), .inLoop (cAt (bodyOf Try.f46) [1, 0, 1, 0, 0]), .inBlock 0, .code (cAt (bodyOf Try.f46) [1, 1])] (S56a v k) (Post c [] (.p (.bool (pinnedF v)))) := by
    intro m
    induction m with
    | zero =>
      intro k hk hgd
      have hd : decide ((k : Int) < (v.2.1.1 : Int)) = false := by simp; omega
      refine piece_ok mixed hc (p56d v k) ?_ (lp2 (by rw [show v.2.1.1 = k by omega]; exact hgd) v.1.2.1.1 0 (by omega) rfl)
      simp only [All]
      repeat' (first | exact trivial | with_reducible apply And.intro)
      all_goals (first | omega | rfl | (intros; first | assumption | exact True.intro | rfl | exact absurd (show false = true by assumption) Bool.false_ne_true | ((repeat' (first | assumption | apply anda | apply notf)); done)) | (simp [All]))
    | succ m ih =>
      intro k hk hgd
      have hkn : k < v.2.1.1 := by omega
      have hd : decide ((k : Int) < (v.2.1.1 : Int)) = true := by simp; omega
      cases he : badP v.1.1 v.2.1.2 k with
      | true =>
        rw [show pinnedF v = false by rw [pinnedF, goodP_bad _ _ k he v.2.1.1 (by omega)]; rfl]
        refine path_ok mixed Try.func46 hc (p56c v k) ?_
        simp only [All]
        repeat' (first | exact trivial | with_reducible apply And.intro)
        all_goals (first | omega | rfl | (intros; first | assumption | exact True.intro | rfl | exact absurd (show false = true by assumption) Bool.false_ne_true | ((repeat' (first | assumption | apply anda | apply notf)); done)) | (exact he) | (intro h; have := idx_lt h hkn; omega))
      | false =>
        refine piece_ok mixed hc (p56b v k) ?_ (ih (k + 1) (by omega) (by rw [goodP, hgd, he]; rfl))
        simp only [All]
        repeat' (first | exact trivial | with_reducible apply And.intro)
        all_goals (first | omega | rfl | (intros; first | assumption | exact True.intro | rfl | exact absurd (show false = true by assumption) Bool.false_ne_true | ((repeat' (first | assumption | apply anda | apply notf)); done)) | (exact he) | (intro h; have := idx_lt h hkn; omega) | (simp [All]))
  refine piece_ok mixed hc (p56a v) ?_ (lp1 v.2.1.1 0 (by omega) rfl)
  simp only [All]
  repeat' (first | exact trivial | with_reducible apply And.intro)
  all_goals (first | omega | rfl | (intros; first | assumption | exact True.intro | rfl | exact absurd (show false = true by assumption) Bool.false_ne_true | ((repeat' (first | assumption | apply anda | apply notf)); done)) | (simp [All]))

end Go.Proofs.Ytgdbnnmogddkaaa.Mach
