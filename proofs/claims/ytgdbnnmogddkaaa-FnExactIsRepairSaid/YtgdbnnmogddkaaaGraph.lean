/- Whether a graph is one: both programs' tests compute the same flag. Conditions: as each theorem says. -/
import Derived.Test.YtgdbnnmogddkaaaFamE
import Derived.Test.YtgdbnnmogddkaaaBase
namespace Go.Proofs.Ytgdbnnmogddkaaa.Mach
open Go
set_option linter.unusedVariables false
set_option linter.unusedSimpArgs false

def aft (a b : T_Bar) : Bool := bif decide (a.1 < b.1) then true else bif a.1 == b.1 then decide (a.2.1 ≤ b.2.1) else false
def cmpI (x y : Int) : Int := if x < y then -1 else if x > y then 1 else 0
def cmpB (a b : T_Bar) : Int := if cmpI a.1 b.1 = 0 then cmpI a.2.1 b.2.1 else cmpI a.1 b.1
def badB (N : Int) (g : Nat → T_Bar) (k : Nat) : Bool :=
  bif bif bif decide ((g k).1 < 0) then true else decide ((g k).1 ≥ (g k).2.1) then true else decide ((g k).2.1 ≥ N) then true
    else bif decide ((k : Int) > 0) then !aft (g ((k : Int) - 1).toNat) (g k) else false
def goodB (N : Int) (g : Nat → T_Bar) : Nat → Bool
  | 0 => true
  | k + 1 => goodB N g k && !badB N g k
def isGraphF (v : T_Graph) : Bool := if inB v.1 1 8 = true ∧ v.2.1.1 ≤ 24 then goodB v.1 v.2.1.2 v.2.1.1 else false
def barA (a : T_Bar) : AV := .agg [.p (.int .i64 a.1), .p (.int .i64 a.2.1)]
def graphL (v : T_BarS) : AV := .p (.seq true 2 v.1 (fun i => [.int .i64 (v.2 i).1, .int .i64 (v.2 i).2.1]))
def graphA (v : T_Graph) : AV := .agg [.p (.int .i64 v.1), graphL v.2.1]
def boxG (v : T_Graph) : Ob := ⟨true, 2, 1, fun i => [.p (.int .i64 v.1), graphL v.2.1]⟩
def S48 (v : T_Graph) (k : Nat) : St :=
  ⟨[graphA v, .pt 2 0 0 0, .p .any, .p (.int .i64 k)] ++ List.replicate 55 anyA, [(0, boxG v)], 1⟩
def S51 (v : T_Graph) (k : Nat) : St :=
  ⟨[graphA v, .pt 2 0 0 0] ++ List.replicate 14 anyA ++ [graphL v.2.1, .p (.int .i64 v.2.1.1), .p (.int .i64 k)] ++ List.replicate 37 anyA, [(0, boxG v)], 1⟩

theorem p57 (a b : T_Bar) :
    pathOb Try.prog Try.f113 0 [.reg [oT, oT, oT], .reg [oT, oT, oT, oT, oT, oT, oT, oT, oT, oT, oT, oT, oT, oT, oT, oT, oT, oT, oT, oT]] [.code (bodyOf Try.f113)] (start Try.f113 [] 0 [barA a, barA b]) [] 1 [] (.p (.bool (aft a b))) =
    some [((0 : Nat) < 1),
  ((0 : Nat) < 1),
  (((!decide (a.fst < b.fst)) = true) → ((!decide (a.fst < b.fst)) = true)),
  (((!decide (a.fst < b.fst)) = true) → ((0 : Nat) < 1)),
  (((!decide (a.fst < b.fst)) = true) → ((!decide (a.fst < b.fst)) = true)),
  (((!decide (a.fst < b.fst)) = true) → ((0 : Nat) < 1)),
  (((!decide (a.fst < b.fst)) = true) → ((!decide (a.fst < b.fst)) = true)),
  (((!decide (a.fst < b.fst)) = true) → ((!decide (a.fst < b.fst)) = true)),
  (((!decide (a.fst < b.fst)) = true) → ((!decide (a.fst < b.fst)) = true)),
  (((!decide (a.fst < b.fst) && a.fst == b.fst) = true) → ((!decide (a.fst < b.fst) && a.fst == b.fst) = true)),
  (((!decide (a.fst < b.fst) && a.fst == b.fst) = true) → ((0 : Nat) < 1)),
  (((!decide (a.fst < b.fst) && a.fst == b.fst) = true) → ((!decide (a.fst < b.fst) && a.fst == b.fst) = true)),
  (((!decide (a.fst < b.fst) && a.fst == b.fst) = true) → ((0 : Nat) < 1)),
  (((!decide (a.fst < b.fst) && a.fst == b.fst) = true) → ((!decide (a.fst < b.fst) && a.fst == b.fst) = true)),
  (((!decide (a.fst < b.fst) && a.fst == b.fst) = true) → ((!decide (a.fst < b.fst) && a.fst == b.fst) = true)),
  (((!decide (a.fst < b.fst)) = true) → ((!decide (a.fst < b.fst)) = true)),
  (((!decide (a.fst < b.fst)) = true) → (((a.fst == b.fst) = true) → ((!decide (a.fst < b.fst) && a.fst == b.fst) = true))),
  (((decide (a.fst < b.fst)) = false) → ((!decide (a.fst < b.fst)) = true)),
  ((bif decide (a.fst < b.fst) then true else bif a.fst == b.fst then decide (a.snd.fst ≤ b.snd.fst) else false) = (aft a b))] := by kernel_rfl
theorem p62a (x y : Int) :
    pathOb Try.prog Try.f117 0 [.reg [oT], .reg [oT, oT, oT, oT], .dec true, .reg [oT]] [.code (bodyOf Try.f117)] (start Try.f117 [] 0 [.p (.int .i64 x), .p (.int .i64 y)]) [] 1 [] (.p (.int .i64 (-1))) =
    some [((decide (x < y)) = true),
  (((-1) : Int) = (-1))] := by kernel_rfl
theorem p62b (x y : Int) :
    pathOb Try.prog Try.f117 0 [.reg [oT], .reg [oT, oT, oT, oT], .dec false, .reg [oT, oT, oT, oT], .dec true, .reg [oT]] [.code (bodyOf Try.f117)] (start Try.f117 [] 0 [.p (.int .i64 x), .p (.int .i64 y)]) [] 1 [] (.p (.int .i64 1)) =
    some [((decide (x < y)) = false),
  ((decide (x > y)) = true),
  ((1 : Int) = 1)] := by kernel_rfl
theorem p62c (x y : Int) :
    pathOb Try.prog Try.f117 0 [.reg [oT], .reg [oT, oT, oT, oT], .dec false, .reg [oT, oT, oT, oT], .dec false, .reg [oT]] [.code (bodyOf Try.f117)] (start Try.f117 [] 0 [.p (.int .i64 x), .p (.int .i64 y)]) [] 1 [] (.p (.int .i64 0)) =
    some [((decide (x < y)) = false),
  ((decide (x > y)) = false),
  ((0 : Int) = 0)] := by kernel_rfl
theorem p59a (a b : T_Bar) :
    pathOb Try.prog Try.f82 0 [.reg [oT, oT, oT], .reg [oT, oT, oT, oT, ⟨true, (some ⟨[], [], 1, [], .p (.int .i64 (cmpI a.1 b.1))⟩), none⟩, oT], .reg [oT, oT], .dec true, .reg [oT, oT]] [.code (bodyOf Try.f82)] (start Try.f82 [] 0 [barA a, barA b]) [] 1 [] (.p (.int .i64 (cmpI a.1 b.1))) =
    some [((0 : Nat) < 1),
  ((0 : Nat) < 1),
  Con (Try.prog) 117 0 [] [.p (.int .i64 (a.fst)), .p (.int .i64 (b.fst))] [] (.p (.int .i64 (cmpI a.fst b.fst))),
  ((cmpI a.fst b.fst != 0) = true),
  (((cmpI a.fst b.fst) : Int) = (cmpI a.fst b.fst))] := by kernel_rfl
theorem p59b (a b : T_Bar) :
    pathOb Try.prog Try.f82 0 [.reg [oT, oT, oT], .reg [oT, oT, oT, oT, ⟨true, (some ⟨[], [], 1, [], .p (.int .i64 (cmpI a.1 b.1))⟩), none⟩, oT], .reg [oT, oT], .dec false, .reg [oT, oT, oT, oT, ⟨true, (some ⟨[], [], 1, [], .p (.int .i64 (cmpI a.2.1 b.2.1))⟩), none⟩, oT]] [.code (bodyOf Try.f82)] (start Try.f82 [] 0 [barA a, barA b]) [] 1 [] (.p (.int .i64 (cmpI a.2.1 b.2.1))) =
    some [((0 : Nat) < 1),
  ((0 : Nat) < 1),
  Con (Try.prog) 117 0 [] [.p (.int .i64 (a.fst)), .p (.int .i64 (b.fst))] [] (.p (.int .i64 (cmpI a.fst b.fst))),
  ((cmpI a.fst b.fst != 0) = false),
  ((0 : Nat) < 1),
  ((0 : Nat) < 1),
  Con (Try.prog) 117 0 [] [.p (.int .i64 (a.snd.fst)), .p (.int .i64 (b.snd.fst))] [] (.p (.int .i64 (cmpI a.snd.fst b.snd.fst))),
  (((cmpI a.snd.fst b.snd.fst) : Int) = (cmpI a.snd.fst b.snd.fst))] := by kernel_rfl
theorem p48z (v : T_Graph) :
    pathOb Try.prog Try.f73 0 [.reg [oT, oT], .reg [oT, oT, ⟨true, (some ⟨[], [], 1, [], .p (.bool (inB v.1 1 8))⟩), none⟩, oT, oT, oT, oT, oT, oT, oT], .dec true, .reg [oT]] [.code (bodyOf Try.f73)] (start Try.f73 [] 0 [graphA v]) [] 1 [] (.p (.bool false)) =
    some [((0 : Nat) < 1),
  Con (Try.prog) 112 0 [] [.p (.int .i64 (v.fst)), .p (.int .i64 1), .p (.int .i64 8)] [] (.p (.bool (inB v.fst 1 8))),
  (((!!inB v.fst 1 8) = true) → ((!!inB v.fst 1 8) = true)),
  (((!!inB v.fst 1 8) = true) → ((0 : Nat) < 1)),
  (((!!inB v.fst 1 8) = true) → ((!!inB v.fst 1 8) = true)),
  (((!!inB v.fst 1 8) = true) → ((!!inB v.fst 1 8) = true)),
  (((!inB v.fst 1 8) = false) → ((!!inB v.fst 1 8) = true)),
  ((bif !inB v.fst 1 8 then true else decide ((↑v.snd.fst.fst : Int) > 24)) = true),
  (false = false)] := by kernel_rfl
theorem p48a (v : T_Graph) :
    pieceOb Try.prog 0 [.reg [oT, oT], .reg [oT, oT, ⟨true, (some ⟨[], [], 1, [], .p (.bool (inB v.1 1 8))⟩), none⟩, oT, oT, oT, oT, oT, oT, oT], .dec false, .reg [oT], .head] [.code (bodyOf Try.f73)] (start Try.f73 [] 0 [graphA v]) [0] 1 (S48 v 0) =
    some ([.code (cAt (bodyOf Try.f73) [1, 1, 0, 1, 0, 0]), .inLoop (cAt (bodyOf Try.f73) [1, 1, 0, 1, 0, 0]), .inBlock 0, .code (cAt (bodyOf Try.f73) [1, 1, 1])], [((0 : Nat) < 1),
  Con (Try.prog) 112 0 [] [.p (.int .i64 (v.fst)), .p (.int .i64 1), .p (.int .i64 8)] [] (.p (.bool (inB v.fst 1 8))),
  (((!!inB v.fst 1 8) = true) → ((!!inB v.fst 1 8) = true)),
  (((!!inB v.fst 1 8) = true) → ((0 : Nat) < 1)),
  (((!!inB v.fst 1 8) = true) → ((!!inB v.fst 1 8) = true)),
  (((!!inB v.fst 1 8) = true) → ((!!inB v.fst 1 8) = true)),
  (((!inB v.fst 1 8) = false) → ((!!inB v.fst 1 8) = true)),
  ((bif !inB v.fst 1 8 then true else decide ((↑v.snd.fst.fst : Int) > 24)) = false),
  (((v.fst) : Int) = (v.fst)),
  (((v.snd.fst.fst) : Nat) = (v.snd.fst.fst)),
  (∀ i : Nat, ((((i) : Nat) < (v.snd.fst.fst)) → (([.int .i64 ((v.snd.fst.snd i).fst), .int .i64 ((v.snd.fst.snd i).snd.fst)] : List PV) = [.int .i64 ((v.snd.fst.snd i).fst), .int .i64 ((v.snd.fst.snd i).snd.fst)]))),
  ((0 : Nat) = 0),
  ((0 : Int) = ((↑0 : Int))),
  ((([AV.p (PV.int IntKind.i64 v.fst), graphL v.snd.fst].length) : Nat) = 2),
  ((1 : Nat) ≤ 1),
  ((1 : Nat) ≤ 1),
  (((v.fst) : Int) = (v.fst)),
  (((v.snd.fst.fst) : Nat) = (v.snd.fst.fst)),
  (∀ i : Nat, ((((i) : Nat) < (v.snd.fst.fst)) → (([.int .i64 ((v.snd.fst.snd i).fst), .int .i64 ((v.snd.fst.snd i).snd.fst)] : List PV) = [.int .i64 ((v.snd.fst.snd i).fst), .int .i64 ((v.snd.fst.snd i).snd.fst)])))]) := by kernel_rfl
theorem p48b (v : T_Graph) (k : Nat) :
    pieceOb Try.prog 0 [.reg [oT, oT, oT, oT, oT], .dec true, .reg [oT, oT, oT, oT, oT, oT, oT], .reg [oT, oT, oT, oT, oT, oT, oT, oT, oT, oT, oT, oT, oT, oT, oT, oT, oT, oT, oT, oT, oT, oT, oT, oT, oT, oT, oT, oT, ⟨true, (some ⟨[], [], 1, [], .p (.bool (aft (v.2.1.2 ((k : Int) - 1).toNat) (v.2.1.2 k)))⟩), none⟩, oT, oT, oT], .dec false, .reg [oT, oT, oT], .head] [.code (cAt (bodyOf Try.f73) [1, 1, 0, 1, 0, 0]), .inLoop (cAt (bodyOf Try.f73) [1, 1, 0, 1, 0, 0]), .inBlock 0, .code (cAt (bodyOf Try.f73) [1, 1, 1])] (S48 v k) [0] 1 (S48 v (k + 1)) =
    some ([.code (cAt (bodyOf Try.f73) [1, 1, 0, 1, 0, 0]), .inLoop (cAt (bodyOf Try.f73) [1, 1, 0, 1, 0, 0]), .inBlock 0, .code (cAt (bodyOf Try.f73) [1, 1, 1])], [((0 : Nat) < 1),
  ((decide ((↑k : Int) < (↑v.snd.fst.fst : Int))) = true),
  ((0 : Nat) < 1),
  ((0 : Int) ≤ ((↑k : Int))),
  ((((↑k : Int)) : Int) < ((↑v.snd.fst.fst : Int))),
  ((0 : Nat) < 1),
  (((true) = true) → ((1 : Nat) = 1)),
  ((0 : Nat) < 1),
  (((!decide ((v.snd.fst.snd (↑k : Int).toNat).fst < 0)) = true) → ((!decide ((v.snd.fst.snd (↑k : Int).toNat).fst < 0)) = true)),
  (((!decide ((v.snd.fst.snd (↑k : Int).toNat).fst < 0)) = true) → ((0 : Nat) < 1)),
  (((!decide ((v.snd.fst.snd (↑k : Int).toNat).fst < 0)) = true) → ((!decide ((v.snd.fst.snd (↑k : Int).toNat).fst < 0)) = true)),
  (((!decide ((v.snd.fst.snd (↑k : Int).toNat).fst < 0)) = true) → ((0 : Nat) < 1)),
  (((!decide ((v.snd.fst.snd (↑k : Int).toNat).fst < 0)) = true) → ((!decide ((v.snd.fst.snd (↑k : Int).toNat).fst < 0)) = true)),
  (((!decide ((v.snd.fst.snd (↑k : Int).toNat).fst < 0)) = true) → ((!decide ((v.snd.fst.snd (↑k : Int).toNat).fst < 0)) = true)),
  (((decide ((v.snd.fst.snd (↑k : Int).toNat).fst < 0)) = false) → ((!decide ((v.snd.fst.snd (↑k : Int).toNat).fst < 0)) = true)),
  (((!bif decide ((v.snd.fst.snd (↑k : Int).toNat).fst < 0) then true else decide ((v.snd.fst.snd (↑k : Int).toNat).fst ≥ (v.snd.fst.snd (↑k : Int).toNat).snd.fst)) = true) → ((!bif decide ((v.snd.fst.snd (↑k : Int).toNat).fst < 0) then true else decide ((v.snd.fst.snd (↑k : Int).toNat).fst ≥ (v.snd.fst.snd (↑k : Int).toNat).snd.fst)) = true)),
  (((!bif decide ((v.snd.fst.snd (↑k : Int).toNat).fst < 0) then true else decide ((v.snd.fst.snd (↑k : Int).toNat).fst ≥ (v.snd.fst.snd (↑k : Int).toNat).snd.fst)) = true) → ((0 : Nat) < 1)),
  (((!bif decide ((v.snd.fst.snd (↑k : Int).toNat).fst < 0) then true else decide ((v.snd.fst.snd (↑k : Int).toNat).fst ≥ (v.snd.fst.snd (↑k : Int).toNat).snd.fst)) = true) → ((!bif decide ((v.snd.fst.snd (↑k : Int).toNat).fst < 0) then true else decide ((v.snd.fst.snd (↑k : Int).toNat).fst ≥ (v.snd.fst.snd (↑k : Int).toNat).snd.fst)) = true)),
  (((!bif decide ((v.snd.fst.snd (↑k : Int).toNat).fst < 0) then true else decide ((v.snd.fst.snd (↑k : Int).toNat).fst ≥ (v.snd.fst.snd (↑k : Int).toNat).snd.fst)) = true) → ((0 : Nat) < 1)),
  (((!bif decide ((v.snd.fst.snd (↑k : Int).toNat).fst < 0) then true else decide ((v.snd.fst.snd (↑k : Int).toNat).fst ≥ (v.snd.fst.snd (↑k : Int).toNat).snd.fst)) = true) → ((!bif decide ((v.snd.fst.snd (↑k : Int).toNat).fst < 0) then true else decide ((v.snd.fst.snd (↑k : Int).toNat).fst ≥ (v.snd.fst.snd (↑k : Int).toNat).snd.fst)) = true)),
  (((!bif decide ((v.snd.fst.snd (↑k : Int).toNat).fst < 0) then true else decide ((v.snd.fst.snd (↑k : Int).toNat).fst ≥ (v.snd.fst.snd (↑k : Int).toNat).snd.fst)) = true) → ((!bif decide ((v.snd.fst.snd (↑k : Int).toNat).fst < 0) then true else decide ((v.snd.fst.snd (↑k : Int).toNat).fst ≥ (v.snd.fst.snd (↑k : Int).toNat).snd.fst)) = true)),
  (((bif decide ((v.snd.fst.snd (↑k : Int).toNat).fst < 0) then true else decide ((v.snd.fst.snd (↑k : Int).toNat).fst ≥ (v.snd.fst.snd (↑k : Int).toNat).snd.fst)) = false) → ((!bif decide ((v.snd.fst.snd (↑k : Int).toNat).fst < 0) then true else decide ((v.snd.fst.snd (↑k : Int).toNat).fst ≥ (v.snd.fst.snd (↑k : Int).toNat).snd.fst)) = true)),
  (((!bif bif decide ((v.snd.fst.snd (↑k : Int).toNat).fst < 0) then true else decide ((v.snd.fst.snd (↑k : Int).toNat).fst ≥ (v.snd.fst.snd (↑k : Int).toNat).snd.fst) then true else decide ((v.snd.fst.snd (↑k : Int).toNat).snd.fst ≥ v.fst)) = true) → ((!bif bif decide ((v.snd.fst.snd (↑k : Int).toNat).fst < 0) then true else decide ((v.snd.fst.snd (↑k : Int).toNat).fst ≥ (v.snd.fst.snd (↑k : Int).toNat).snd.fst) then true else decide ((v.snd.fst.snd (↑k : Int).toNat).snd.fst ≥ v.fst)) = true)),
  (((!bif bif decide ((v.snd.fst.snd (↑k : Int).toNat).fst < 0) then true else decide ((v.snd.fst.snd (↑k : Int).toNat).fst ≥ (v.snd.fst.snd (↑k : Int).toNat).snd.fst) then true else decide ((v.snd.fst.snd (↑k : Int).toNat).snd.fst ≥ v.fst)) = true) → ((!bif bif decide ((v.snd.fst.snd (↑k : Int).toNat).fst < 0) then true else decide ((v.snd.fst.snd (↑k : Int).toNat).fst ≥ (v.snd.fst.snd (↑k : Int).toNat).snd.fst) then true else decide ((v.snd.fst.snd (↑k : Int).toNat).snd.fst ≥ v.fst)) = true)),
  ((((!bif bif decide ((v.snd.fst.snd (↑k : Int).toNat).fst < 0) then true else decide ((v.snd.fst.snd (↑k : Int).toNat).fst ≥ (v.snd.fst.snd (↑k : Int).toNat).snd.fst) then true else decide ((v.snd.fst.snd (↑k : Int).toNat).snd.fst ≥ v.fst)) && decide ((↑k : Int) > 0)) = true) → (((!bif bif decide ((v.snd.fst.snd (↑k : Int).toNat).fst < 0) then true else decide ((v.snd.fst.snd (↑k : Int).toNat).fst ≥ (v.snd.fst.snd (↑k : Int).toNat).snd.fst) then true else decide ((v.snd.fst.snd (↑k : Int).toNat).snd.fst ≥ v.fst)) && decide ((↑k : Int) > 0)) = true)),
  ((((!bif bif decide ((v.snd.fst.snd (↑k : Int).toNat).fst < 0) then true else decide ((v.snd.fst.snd (↑k : Int).toNat).fst ≥ (v.snd.fst.snd (↑k : Int).toNat).snd.fst) then true else decide ((v.snd.fst.snd (↑k : Int).toNat).snd.fst ≥ v.fst)) && decide ((↑k : Int) > 0)) = true) → ((0 : Nat) < 1)),
  ((((!bif bif decide ((v.snd.fst.snd (↑k : Int).toNat).fst < 0) then true else decide ((v.snd.fst.snd (↑k : Int).toNat).fst ≥ (v.snd.fst.snd (↑k : Int).toNat).snd.fst) then true else decide ((v.snd.fst.snd (↑k : Int).toNat).snd.fst ≥ v.fst)) && decide ((↑k : Int) > 0)) = true) → (((!bif bif decide ((v.snd.fst.snd (↑k : Int).toNat).fst < 0) then true else decide ((v.snd.fst.snd (↑k : Int).toNat).fst ≥ (v.snd.fst.snd (↑k : Int).toNat).snd.fst) then true else decide ((v.snd.fst.snd (↑k : Int).toNat).snd.fst ≥ v.fst)) && decide ((↑k : Int) > 0)) = true)),
  ((((!bif bif decide ((v.snd.fst.snd (↑k : Int).toNat).fst < 0) then true else decide ((v.snd.fst.snd (↑k : Int).toNat).fst ≥ (v.snd.fst.snd (↑k : Int).toNat).snd.fst) then true else decide ((v.snd.fst.snd (↑k : Int).toNat).snd.fst ≥ v.fst)) && decide ((↑k : Int) > 0)) = true) → (((-9223372036854775808) : Int) ≤ ((↑k : Int) - 1))),
  ((((!bif bif decide ((v.snd.fst.snd (↑k : Int).toNat).fst < 0) then true else decide ((v.snd.fst.snd (↑k : Int).toNat).fst ≥ (v.snd.fst.snd (↑k : Int).toNat).snd.fst) then true else decide ((v.snd.fst.snd (↑k : Int).toNat).snd.fst ≥ v.fst)) && decide ((↑k : Int) > 0)) = true) → ((((↑k : Int) - 1) : Int) ≤ 9223372036854775807)),
  ((((!bif bif decide ((v.snd.fst.snd (↑k : Int).toNat).fst < 0) then true else decide ((v.snd.fst.snd (↑k : Int).toNat).fst ≥ (v.snd.fst.snd (↑k : Int).toNat).snd.fst) then true else decide ((v.snd.fst.snd (↑k : Int).toNat).snd.fst ≥ v.fst)) && decide ((↑k : Int) > 0)) = true) → (((!bif bif decide ((v.snd.fst.snd (↑k : Int).toNat).fst < 0) then true else decide ((v.snd.fst.snd (↑k : Int).toNat).fst ≥ (v.snd.fst.snd (↑k : Int).toNat).snd.fst) then true else decide ((v.snd.fst.snd (↑k : Int).toNat).snd.fst ≥ v.fst)) && decide ((↑k : Int) > 0)) = true)),
  ((((!bif bif decide ((v.snd.fst.snd (↑k : Int).toNat).fst < 0) then true else decide ((v.snd.fst.snd (↑k : Int).toNat).fst ≥ (v.snd.fst.snd (↑k : Int).toNat).snd.fst) then true else decide ((v.snd.fst.snd (↑k : Int).toNat).snd.fst ≥ v.fst)) && decide ((↑k : Int) > 0)) = true) → (((!bif bif decide ((v.snd.fst.snd (↑k : Int).toNat).fst < 0) then true else decide ((v.snd.fst.snd (↑k : Int).toNat).fst ≥ (v.snd.fst.snd (↑k : Int).toNat).snd.fst) then true else decide ((v.snd.fst.snd (↑k : Int).toNat).snd.fst ≥ v.fst)) && decide ((↑k : Int) > 0)) = true)),
  ((((!bif bif decide ((v.snd.fst.snd (↑k : Int).toNat).fst < 0) then true else decide ((v.snd.fst.snd (↑k : Int).toNat).fst ≥ (v.snd.fst.snd (↑k : Int).toNat).snd.fst) then true else decide ((v.snd.fst.snd (↑k : Int).toNat).snd.fst ≥ v.fst)) && decide ((↑k : Int) > 0)) = true) → ((0 : Int) ≤ ((↑k : Int) - 1))),
  ((((!bif bif decide ((v.snd.fst.snd (↑k : Int).toNat).fst < 0) then true else decide ((v.snd.fst.snd (↑k : Int).toNat).fst ≥ (v.snd.fst.snd (↑k : Int).toNat).snd.fst) then true else decide ((v.snd.fst.snd (↑k : Int).toNat).snd.fst ≥ v.fst)) && decide ((↑k : Int) > 0)) = true) → ((((↑k : Int) - 1) : Int) < ((↑v.snd.fst.fst : Int)))),
  ((((!bif bif decide ((v.snd.fst.snd (↑k : Int).toNat).fst < 0) then true else decide ((v.snd.fst.snd (↑k : Int).toNat).fst ≥ (v.snd.fst.snd (↑k : Int).toNat).snd.fst) then true else decide ((v.snd.fst.snd (↑k : Int).toNat).snd.fst ≥ v.fst)) && decide ((↑k : Int) > 0)) = true) → (((!bif bif decide ((v.snd.fst.snd (↑k : Int).toNat).fst < 0) then true else decide ((v.snd.fst.snd (↑k : Int).toNat).fst ≥ (v.snd.fst.snd (↑k : Int).toNat).snd.fst) then true else decide ((v.snd.fst.snd (↑k : Int).toNat).snd.fst ≥ v.fst)) && decide ((↑k : Int) > 0)) = true)),
  ((((!bif bif decide ((v.snd.fst.snd (↑k : Int).toNat).fst < 0) then true else decide ((v.snd.fst.snd (↑k : Int).toNat).fst ≥ (v.snd.fst.snd (↑k : Int).toNat).snd.fst) then true else decide ((v.snd.fst.snd (↑k : Int).toNat).snd.fst ≥ v.fst)) && decide ((↑k : Int) > 0)) = true) → ((0 : Nat) < 1)),
  ((((!bif bif decide ((v.snd.fst.snd (↑k : Int).toNat).fst < 0) then true else decide ((v.snd.fst.snd (↑k : Int).toNat).fst ≥ (v.snd.fst.snd (↑k : Int).toNat).snd.fst) then true else decide ((v.snd.fst.snd (↑k : Int).toNat).snd.fst ≥ v.fst)) && decide ((↑k : Int) > 0)) = true) → (((!bif bif decide ((v.snd.fst.snd (↑k : Int).toNat).fst < 0) then true else decide ((v.snd.fst.snd (↑k : Int).toNat).fst ≥ (v.snd.fst.snd (↑k : Int).toNat).snd.fst) then true else decide ((v.snd.fst.snd (↑k : Int).toNat).snd.fst ≥ v.fst)) && decide ((↑k : Int) > 0)) = true)),
  ((((!bif bif decide ((v.snd.fst.snd (↑k : Int).toNat).fst < 0) then true else decide ((v.snd.fst.snd (↑k : Int).toNat).fst ≥ (v.snd.fst.snd (↑k : Int).toNat).snd.fst) then true else decide ((v.snd.fst.snd (↑k : Int).toNat).snd.fst ≥ v.fst)) && decide ((↑k : Int) > 0)) = true) → (((!bif bif decide ((v.snd.fst.snd (↑k : Int).toNat).fst < 0) then true else decide ((v.snd.fst.snd (↑k : Int).toNat).fst ≥ (v.snd.fst.snd (↑k : Int).toNat).snd.fst) then true else decide ((v.snd.fst.snd (↑k : Int).toNat).snd.fst ≥ v.fst)) && decide ((↑k : Int) > 0)) = true)),
  ((((!bif bif decide ((v.snd.fst.snd (↑k : Int).toNat).fst < 0) then true else decide ((v.snd.fst.snd (↑k : Int).toNat).fst ≥ (v.snd.fst.snd (↑k : Int).toNat).snd.fst) then true else decide ((v.snd.fst.snd (↑k : Int).toNat).snd.fst ≥ v.fst)) && decide ((↑k : Int) > 0)) = true) → Con (Try.prog) 113 0 [] [.agg [.p (.int .i64 ((v.snd.fst.snd ((↑k : Int) - 1).toNat).fst)), .p (.int .i64 ((v.snd.fst.snd ((↑k : Int) - 1).toNat).snd.fst))], .agg [.p (.int .i64 ((v.snd.fst.snd k).fst)), .p (.int .i64 ((v.snd.fst.snd k).snd.fst))]] [] (.p (.bool (aft (v.snd.fst.snd ((↑k : Int) - 1).toNat) (v.snd.fst.snd k))))),
  ((((!bif bif decide ((v.snd.fst.snd (↑k : Int).toNat).fst < 0) then true else decide ((v.snd.fst.snd (↑k : Int).toNat).fst ≥ (v.snd.fst.snd (↑k : Int).toNat).snd.fst) then true else decide ((v.snd.fst.snd (↑k : Int).toNat).snd.fst ≥ v.fst)) && decide ((↑k : Int) > 0)) = true) → (((!bif bif decide ((v.snd.fst.snd (↑k : Int).toNat).fst < 0) then true else decide ((v.snd.fst.snd (↑k : Int).toNat).fst ≥ (v.snd.fst.snd (↑k : Int).toNat).snd.fst) then true else decide ((v.snd.fst.snd (↑k : Int).toNat).snd.fst ≥ v.fst)) && decide ((↑k : Int) > 0)) = true)),
  (((!bif bif decide ((v.snd.fst.snd (↑k : Int).toNat).fst < 0) then true else decide ((v.snd.fst.snd (↑k : Int).toNat).fst ≥ (v.snd.fst.snd (↑k : Int).toNat).snd.fst) then true else decide ((v.snd.fst.snd (↑k : Int).toNat).snd.fst ≥ v.fst)) = true) → ((!bif bif decide ((v.snd.fst.snd (↑k : Int).toNat).fst < 0) then true else decide ((v.snd.fst.snd (↑k : Int).toNat).fst ≥ (v.snd.fst.snd (↑k : Int).toNat).snd.fst) then true else decide ((v.snd.fst.snd (↑k : Int).toNat).snd.fst ≥ v.fst)) = true)),
  (((!bif bif decide ((v.snd.fst.snd (↑k : Int).toNat).fst < 0) then true else decide ((v.snd.fst.snd (↑k : Int).toNat).fst ≥ (v.snd.fst.snd (↑k : Int).toNat).snd.fst) then true else decide ((v.snd.fst.snd (↑k : Int).toNat).snd.fst ≥ v.fst)) = true) → (((decide ((↑k : Int) > 0)) = true) → (((!bif bif decide ((v.snd.fst.snd (↑k : Int).toNat).fst < 0) then true else decide ((v.snd.fst.snd (↑k : Int).toNat).fst ≥ (v.snd.fst.snd (↑k : Int).toNat).snd.fst) then true else decide ((v.snd.fst.snd (↑k : Int).toNat).snd.fst ≥ v.fst)) && decide ((↑k : Int) > 0)) = true))),
  (((bif bif decide ((v.snd.fst.snd (↑k : Int).toNat).fst < 0) then true else decide ((v.snd.fst.snd (↑k : Int).toNat).fst ≥ (v.snd.fst.snd (↑k : Int).toNat).snd.fst) then true else decide ((v.snd.fst.snd (↑k : Int).toNat).snd.fst ≥ v.fst)) = false) → ((!bif bif decide ((v.snd.fst.snd (↑k : Int).toNat).fst < 0) then true else decide ((v.snd.fst.snd (↑k : Int).toNat).fst ≥ (v.snd.fst.snd (↑k : Int).toNat).snd.fst) then true else decide ((v.snd.fst.snd (↑k : Int).toNat).snd.fst ≥ v.fst)) = true)),
  ((bif bif bif decide ((v.snd.fst.snd (↑k : Int).toNat).fst < 0) then true else decide ((v.snd.fst.snd (↑k : Int).toNat).fst ≥ (v.snd.fst.snd (↑k : Int).toNat).snd.fst) then true else decide ((v.snd.fst.snd (↑k : Int).toNat).snd.fst ≥ v.fst) then true else bif decide ((↑k : Int) > 0) then !aft (v.snd.fst.snd ((↑k : Int) - 1).toNat) (v.snd.fst.snd k) else false) = false),
  (((-9223372036854775808) : Int) ≤ ((↑k : Int) + 1)),
  ((((↑k : Int) + 1) : Int) ≤ 9223372036854775807),
  (((v.fst) : Int) = (v.fst)),
  (((v.snd.fst.fst) : Nat) = (v.snd.fst.fst)),
  (∀ i : Nat, ((((i) : Nat) < (v.snd.fst.fst)) → (([.int .i64 ((v.snd.fst.snd i).fst), .int .i64 ((v.snd.fst.snd i).snd.fst)] : List PV) = [.int .i64 ((v.snd.fst.snd i).fst), .int .i64 ((v.snd.fst.snd i).snd.fst)]))),
  ((0 : Nat) = 0),
  ((((↑k : Int) + 1) : Int) = ((↑(k + 1) : Int))),
  ((2 : Nat) = 2),
  ((1 : Nat) ≤ 1),
  ((1 : Nat) ≤ 1),
  (((v.fst) : Int) = (v.fst)),
  (((v.snd.fst.fst) : Nat) = (v.snd.fst.fst)),
  (∀ i : Nat, ((((i) : Nat) < (v.snd.fst.fst)) → (([.int .i64 ((v.snd.fst.snd i).fst), .int .i64 ((v.snd.fst.snd i).snd.fst)] : List PV) = [.int .i64 ((v.snd.fst.snd i).fst), .int .i64 ((v.snd.fst.snd i).snd.fst)])))]) := by kernel_rfl
theorem p48c (v : T_Graph) (k : Nat) :
    pathOb Try.prog Try.f73 0 [.reg [oT, oT, oT, oT, oT], .dec true, .reg [oT, oT, oT, oT, oT, oT, oT], .reg [oT, oT, oT, oT, oT, oT, oT, oT, oT, oT, oT, oT, oT, oT, oT, oT, oT, oT, oT, oT, oT, oT, oT, oT, oT, oT, oT, oT, ⟨true, (some ⟨[], [], 1, [], .p (.bool (aft (v.2.1.2 ((k : Int) - 1).toNat) (v.2.1.2 k)))⟩), none⟩, oT, oT, oT], .dec true, .reg [oT]] [.code (cAt (bodyOf Try.f73) [1, 1, 0, 1, 0, 0]), .inLoop (cAt (bodyOf Try.f73) [1, 1, 0, 1, 0, 0]), .inBlock 0, .code (cAt (bodyOf Try.f73) [1, 1, 1])] (S48 v k) [] 1 [] (.p (.bool false)) =
    some [((0 : Nat) < 1),
  ((decide ((↑k : Int) < (↑v.snd.fst.fst : Int))) = true),
  ((0 : Nat) < 1),
  ((0 : Int) ≤ ((↑k : Int))),
  ((((↑k : Int)) : Int) < ((↑v.snd.fst.fst : Int))),
  ((0 : Nat) < 1),
  (((true) = true) → ((1 : Nat) = 1)),
  ((0 : Nat) < 1),
  (((!decide ((v.snd.fst.snd (↑k : Int).toNat).fst < 0)) = true) → ((!decide ((v.snd.fst.snd (↑k : Int).toNat).fst < 0)) = true)),
  (((!decide ((v.snd.fst.snd (↑k : Int).toNat).fst < 0)) = true) → ((0 : Nat) < 1)),
  (((!decide ((v.snd.fst.snd (↑k : Int).toNat).fst < 0)) = true) → ((!decide ((v.snd.fst.snd (↑k : Int).toNat).fst < 0)) = true)),
  (((!decide ((v.snd.fst.snd (↑k : Int).toNat).fst < 0)) = true) → ((0 : Nat) < 1)),
  (((!decide ((v.snd.fst.snd (↑k : Int).toNat).fst < 0)) = true) → ((!decide ((v.snd.fst.snd (↑k : Int).toNat).fst < 0)) = true)),
  (((!decide ((v.snd.fst.snd (↑k : Int).toNat).fst < 0)) = true) → ((!decide ((v.snd.fst.snd (↑k : Int).toNat).fst < 0)) = true)),
  (((decide ((v.snd.fst.snd (↑k : Int).toNat).fst < 0)) = false) → ((!decide ((v.snd.fst.snd (↑k : Int).toNat).fst < 0)) = true)),
  (((!bif decide ((v.snd.fst.snd (↑k : Int).toNat).fst < 0) then true else decide ((v.snd.fst.snd (↑k : Int).toNat).fst ≥ (v.snd.fst.snd (↑k : Int).toNat).snd.fst)) = true) → ((!bif decide ((v.snd.fst.snd (↑k : Int).toNat).fst < 0) then true else decide ((v.snd.fst.snd (↑k : Int).toNat).fst ≥ (v.snd.fst.snd (↑k : Int).toNat).snd.fst)) = true)),
  (((!bif decide ((v.snd.fst.snd (↑k : Int).toNat).fst < 0) then true else decide ((v.snd.fst.snd (↑k : Int).toNat).fst ≥ (v.snd.fst.snd (↑k : Int).toNat).snd.fst)) = true) → ((0 : Nat) < 1)),
  (((!bif decide ((v.snd.fst.snd (↑k : Int).toNat).fst < 0) then true else decide ((v.snd.fst.snd (↑k : Int).toNat).fst ≥ (v.snd.fst.snd (↑k : Int).toNat).snd.fst)) = true) → ((!bif decide ((v.snd.fst.snd (↑k : Int).toNat).fst < 0) then true else decide ((v.snd.fst.snd (↑k : Int).toNat).fst ≥ (v.snd.fst.snd (↑k : Int).toNat).snd.fst)) = true)),
  (((!bif decide ((v.snd.fst.snd (↑k : Int).toNat).fst < 0) then true else decide ((v.snd.fst.snd (↑k : Int).toNat).fst ≥ (v.snd.fst.snd (↑k : Int).toNat).snd.fst)) = true) → ((0 : Nat) < 1)),
  (((!bif decide ((v.snd.fst.snd (↑k : Int).toNat).fst < 0) then true else decide ((v.snd.fst.snd (↑k : Int).toNat).fst ≥ (v.snd.fst.snd (↑k : Int).toNat).snd.fst)) = true) → ((!bif decide ((v.snd.fst.snd (↑k : Int).toNat).fst < 0) then true else decide ((v.snd.fst.snd (↑k : Int).toNat).fst ≥ (v.snd.fst.snd (↑k : Int).toNat).snd.fst)) = true)),
  (((!bif decide ((v.snd.fst.snd (↑k : Int).toNat).fst < 0) then true else decide ((v.snd.fst.snd (↑k : Int).toNat).fst ≥ (v.snd.fst.snd (↑k : Int).toNat).snd.fst)) = true) → ((!bif decide ((v.snd.fst.snd (↑k : Int).toNat).fst < 0) then true else decide ((v.snd.fst.snd (↑k : Int).toNat).fst ≥ (v.snd.fst.snd (↑k : Int).toNat).snd.fst)) = true)),
  (((bif decide ((v.snd.fst.snd (↑k : Int).toNat).fst < 0) then true else decide ((v.snd.fst.snd (↑k : Int).toNat).fst ≥ (v.snd.fst.snd (↑k : Int).toNat).snd.fst)) = false) → ((!bif decide ((v.snd.fst.snd (↑k : Int).toNat).fst < 0) then true else decide ((v.snd.fst.snd (↑k : Int).toNat).fst ≥ (v.snd.fst.snd (↑k : Int).toNat).snd.fst)) = true)),
  (((!bif bif decide ((v.snd.fst.snd (↑k : Int).toNat).fst < 0) then true else decide ((v.snd.fst.snd (↑k : Int).toNat).fst ≥ (v.snd.fst.snd (↑k : Int).toNat).snd.fst) then true else decide ((v.snd.fst.snd (↑k : Int).toNat).snd.fst ≥ v.fst)) = true) → ((!bif bif decide ((v.snd.fst.snd (↑k : Int).toNat).fst < 0) then true else decide ((v.snd.fst.snd (↑k : Int).toNat).fst ≥ (v.snd.fst.snd (↑k : Int).toNat).snd.fst) then true else decide ((v.snd.fst.snd (↑k : Int).toNat).snd.fst ≥ v.fst)) = true)),
  (((!bif bif decide ((v.snd.fst.snd (↑k : Int).toNat).fst < 0) then true else decide ((v.snd.fst.snd (↑k : Int).toNat).fst ≥ (v.snd.fst.snd (↑k : Int).toNat).snd.fst) then true else decide ((v.snd.fst.snd (↑k : Int).toNat).snd.fst ≥ v.fst)) = true) → ((!bif bif decide ((v.snd.fst.snd (↑k : Int).toNat).fst < 0) then true else decide ((v.snd.fst.snd (↑k : Int).toNat).fst ≥ (v.snd.fst.snd (↑k : Int).toNat).snd.fst) then true else decide ((v.snd.fst.snd (↑k : Int).toNat).snd.fst ≥ v.fst)) = true)),
  ((((!bif bif decide ((v.snd.fst.snd (↑k : Int).toNat).fst < 0) then true else decide ((v.snd.fst.snd (↑k : Int).toNat).fst ≥ (v.snd.fst.snd (↑k : Int).toNat).snd.fst) then true else decide ((v.snd.fst.snd (↑k : Int).toNat).snd.fst ≥ v.fst)) && decide ((↑k : Int) > 0)) = true) → (((!bif bif decide ((v.snd.fst.snd (↑k : Int).toNat).fst < 0) then true else decide ((v.snd.fst.snd (↑k : Int).toNat).fst ≥ (v.snd.fst.snd (↑k : Int).toNat).snd.fst) then true else decide ((v.snd.fst.snd (↑k : Int).toNat).snd.fst ≥ v.fst)) && decide ((↑k : Int) > 0)) = true)),
  ((((!bif bif decide ((v.snd.fst.snd (↑k : Int).toNat).fst < 0) then true else decide ((v.snd.fst.snd (↑k : Int).toNat).fst ≥ (v.snd.fst.snd (↑k : Int).toNat).snd.fst) then true else decide ((v.snd.fst.snd (↑k : Int).toNat).snd.fst ≥ v.fst)) && decide ((↑k : Int) > 0)) = true) → ((0 : Nat) < 1)),
  ((((!bif bif decide ((v.snd.fst.snd (↑k : Int).toNat).fst < 0) then true else decide ((v.snd.fst.snd (↑k : Int).toNat).fst ≥ (v.snd.fst.snd (↑k : Int).toNat).snd.fst) then true else decide ((v.snd.fst.snd (↑k : Int).toNat).snd.fst ≥ v.fst)) && decide ((↑k : Int) > 0)) = true) → (((!bif bif decide ((v.snd.fst.snd (↑k : Int).toNat).fst < 0) then true else decide ((v.snd.fst.snd (↑k : Int).toNat).fst ≥ (v.snd.fst.snd (↑k : Int).toNat).snd.fst) then true else decide ((v.snd.fst.snd (↑k : Int).toNat).snd.fst ≥ v.fst)) && decide ((↑k : Int) > 0)) = true)),
  ((((!bif bif decide ((v.snd.fst.snd (↑k : Int).toNat).fst < 0) then true else decide ((v.snd.fst.snd (↑k : Int).toNat).fst ≥ (v.snd.fst.snd (↑k : Int).toNat).snd.fst) then true else decide ((v.snd.fst.snd (↑k : Int).toNat).snd.fst ≥ v.fst)) && decide ((↑k : Int) > 0)) = true) → (((-9223372036854775808) : Int) ≤ ((↑k : Int) - 1))),
  ((((!bif bif decide ((v.snd.fst.snd (↑k : Int).toNat).fst < 0) then true else decide ((v.snd.fst.snd (↑k : Int).toNat).fst ≥ (v.snd.fst.snd (↑k : Int).toNat).snd.fst) then true else decide ((v.snd.fst.snd (↑k : Int).toNat).snd.fst ≥ v.fst)) && decide ((↑k : Int) > 0)) = true) → ((((↑k : Int) - 1) : Int) ≤ 9223372036854775807)),
  ((((!bif bif decide ((v.snd.fst.snd (↑k : Int).toNat).fst < 0) then true else decide ((v.snd.fst.snd (↑k : Int).toNat).fst ≥ (v.snd.fst.snd (↑k : Int).toNat).snd.fst) then true else decide ((v.snd.fst.snd (↑k : Int).toNat).snd.fst ≥ v.fst)) && decide ((↑k : Int) > 0)) = true) → (((!bif bif decide ((v.snd.fst.snd (↑k : Int).toNat).fst < 0) then true else decide ((v.snd.fst.snd (↑k : Int).toNat).fst ≥ (v.snd.fst.snd (↑k : Int).toNat).snd.fst) then true else decide ((v.snd.fst.snd (↑k : Int).toNat).snd.fst ≥ v.fst)) && decide ((↑k : Int) > 0)) = true)),
  ((((!bif bif decide ((v.snd.fst.snd (↑k : Int).toNat).fst < 0) then true else decide ((v.snd.fst.snd (↑k : Int).toNat).fst ≥ (v.snd.fst.snd (↑k : Int).toNat).snd.fst) then true else decide ((v.snd.fst.snd (↑k : Int).toNat).snd.fst ≥ v.fst)) && decide ((↑k : Int) > 0)) = true) → (((!bif bif decide ((v.snd.fst.snd (↑k : Int).toNat).fst < 0) then true else decide ((v.snd.fst.snd (↑k : Int).toNat).fst ≥ (v.snd.fst.snd (↑k : Int).toNat).snd.fst) then true else decide ((v.snd.fst.snd (↑k : Int).toNat).snd.fst ≥ v.fst)) && decide ((↑k : Int) > 0)) = true)),
  ((((!bif bif decide ((v.snd.fst.snd (↑k : Int).toNat).fst < 0) then true else decide ((v.snd.fst.snd (↑k : Int).toNat).fst ≥ (v.snd.fst.snd (↑k : Int).toNat).snd.fst) then true else decide ((v.snd.fst.snd (↑k : Int).toNat).snd.fst ≥ v.fst)) && decide ((↑k : Int) > 0)) = true) → ((0 : Int) ≤ ((↑k : Int) - 1))),
  ((((!bif bif decide ((v.snd.fst.snd (↑k : Int).toNat).fst < 0) then true else decide ((v.snd.fst.snd (↑k : Int).toNat).fst ≥ (v.snd.fst.snd (↑k : Int).toNat).snd.fst) then true else decide ((v.snd.fst.snd (↑k : Int).toNat).snd.fst ≥ v.fst)) && decide ((↑k : Int) > 0)) = true) → ((((↑k : Int) - 1) : Int) < ((↑v.snd.fst.fst : Int)))),
  ((((!bif bif decide ((v.snd.fst.snd (↑k : Int).toNat).fst < 0) then true else decide ((v.snd.fst.snd (↑k : Int).toNat).fst ≥ (v.snd.fst.snd (↑k : Int).toNat).snd.fst) then true else decide ((v.snd.fst.snd (↑k : Int).toNat).snd.fst ≥ v.fst)) && decide ((↑k : Int) > 0)) = true) → (((!bif bif decide ((v.snd.fst.snd (↑k : Int).toNat).fst < 0) then true else decide ((v.snd.fst.snd (↑k : Int).toNat).fst ≥ (v.snd.fst.snd (↑k : Int).toNat).snd.fst) then true else decide ((v.snd.fst.snd (↑k : Int).toNat).snd.fst ≥ v.fst)) && decide ((↑k : Int) > 0)) = true)),
  ((((!bif bif decide ((v.snd.fst.snd (↑k : Int).toNat).fst < 0) then true else decide ((v.snd.fst.snd (↑k : Int).toNat).fst ≥ (v.snd.fst.snd (↑k : Int).toNat).snd.fst) then true else decide ((v.snd.fst.snd (↑k : Int).toNat).snd.fst ≥ v.fst)) && decide ((↑k : Int) > 0)) = true) → ((0 : Nat) < 1)),
  ((((!bif bif decide ((v.snd.fst.snd (↑k : Int).toNat).fst < 0) then true else decide ((v.snd.fst.snd (↑k : Int).toNat).fst ≥ (v.snd.fst.snd (↑k : Int).toNat).snd.fst) then true else decide ((v.snd.fst.snd (↑k : Int).toNat).snd.fst ≥ v.fst)) && decide ((↑k : Int) > 0)) = true) → (((!bif bif decide ((v.snd.fst.snd (↑k : Int).toNat).fst < 0) then true else decide ((v.snd.fst.snd (↑k : Int).toNat).fst ≥ (v.snd.fst.snd (↑k : Int).toNat).snd.fst) then true else decide ((v.snd.fst.snd (↑k : Int).toNat).snd.fst ≥ v.fst)) && decide ((↑k : Int) > 0)) = true)),
  ((((!bif bif decide ((v.snd.fst.snd (↑k : Int).toNat).fst < 0) then true else decide ((v.snd.fst.snd (↑k : Int).toNat).fst ≥ (v.snd.fst.snd (↑k : Int).toNat).snd.fst) then true else decide ((v.snd.fst.snd (↑k : Int).toNat).snd.fst ≥ v.fst)) && decide ((↑k : Int) > 0)) = true) → (((!bif bif decide ((v.snd.fst.snd (↑k : Int).toNat).fst < 0) then true else decide ((v.snd.fst.snd (↑k : Int).toNat).fst ≥ (v.snd.fst.snd (↑k : Int).toNat).snd.fst) then true else decide ((v.snd.fst.snd (↑k : Int).toNat).snd.fst ≥ v.fst)) && decide ((↑k : Int) > 0)) = true)),
  ((((!bif bif decide ((v.snd.fst.snd (↑k : Int).toNat).fst < 0) then true else decide ((v.snd.fst.snd (↑k : Int).toNat).fst ≥ (v.snd.fst.snd (↑k : Int).toNat).snd.fst) then true else decide ((v.snd.fst.snd (↑k : Int).toNat).snd.fst ≥ v.fst)) && decide ((↑k : Int) > 0)) = true) → Con (Try.prog) 113 0 [] [.agg [.p (.int .i64 ((v.snd.fst.snd ((↑k : Int) - 1).toNat).fst)), .p (.int .i64 ((v.snd.fst.snd ((↑k : Int) - 1).toNat).snd.fst))], .agg [.p (.int .i64 ((v.snd.fst.snd k).fst)), .p (.int .i64 ((v.snd.fst.snd k).snd.fst))]] [] (.p (.bool (aft (v.snd.fst.snd ((↑k : Int) - 1).toNat) (v.snd.fst.snd k))))),
  ((((!bif bif decide ((v.snd.fst.snd (↑k : Int).toNat).fst < 0) then true else decide ((v.snd.fst.snd (↑k : Int).toNat).fst ≥ (v.snd.fst.snd (↑k : Int).toNat).snd.fst) then true else decide ((v.snd.fst.snd (↑k : Int).toNat).snd.fst ≥ v.fst)) && decide ((↑k : Int) > 0)) = true) → (((!bif bif decide ((v.snd.fst.snd (↑k : Int).toNat).fst < 0) then true else decide ((v.snd.fst.snd (↑k : Int).toNat).fst ≥ (v.snd.fst.snd (↑k : Int).toNat).snd.fst) then true else decide ((v.snd.fst.snd (↑k : Int).toNat).snd.fst ≥ v.fst)) && decide ((↑k : Int) > 0)) = true)),
  (((!bif bif decide ((v.snd.fst.snd (↑k : Int).toNat).fst < 0) then true else decide ((v.snd.fst.snd (↑k : Int).toNat).fst ≥ (v.snd.fst.snd (↑k : Int).toNat).snd.fst) then true else decide ((v.snd.fst.snd (↑k : Int).toNat).snd.fst ≥ v.fst)) = true) → ((!bif bif decide ((v.snd.fst.snd (↑k : Int).toNat).fst < 0) then true else decide ((v.snd.fst.snd (↑k : Int).toNat).fst ≥ (v.snd.fst.snd (↑k : Int).toNat).snd.fst) then true else decide ((v.snd.fst.snd (↑k : Int).toNat).snd.fst ≥ v.fst)) = true)),
  (((!bif bif decide ((v.snd.fst.snd (↑k : Int).toNat).fst < 0) then true else decide ((v.snd.fst.snd (↑k : Int).toNat).fst ≥ (v.snd.fst.snd (↑k : Int).toNat).snd.fst) then true else decide ((v.snd.fst.snd (↑k : Int).toNat).snd.fst ≥ v.fst)) = true) → (((decide ((↑k : Int) > 0)) = true) → (((!bif bif decide ((v.snd.fst.snd (↑k : Int).toNat).fst < 0) then true else decide ((v.snd.fst.snd (↑k : Int).toNat).fst ≥ (v.snd.fst.snd (↑k : Int).toNat).snd.fst) then true else decide ((v.snd.fst.snd (↑k : Int).toNat).snd.fst ≥ v.fst)) && decide ((↑k : Int) > 0)) = true))),
  (((bif bif decide ((v.snd.fst.snd (↑k : Int).toNat).fst < 0) then true else decide ((v.snd.fst.snd (↑k : Int).toNat).fst ≥ (v.snd.fst.snd (↑k : Int).toNat).snd.fst) then true else decide ((v.snd.fst.snd (↑k : Int).toNat).snd.fst ≥ v.fst)) = false) → ((!bif bif decide ((v.snd.fst.snd (↑k : Int).toNat).fst < 0) then true else decide ((v.snd.fst.snd (↑k : Int).toNat).fst ≥ (v.snd.fst.snd (↑k : Int).toNat).snd.fst) then true else decide ((v.snd.fst.snd (↑k : Int).toNat).snd.fst ≥ v.fst)) = true)),
  ((bif bif bif decide ((v.snd.fst.snd (↑k : Int).toNat).fst < 0) then true else decide ((v.snd.fst.snd (↑k : Int).toNat).fst ≥ (v.snd.fst.snd (↑k : Int).toNat).snd.fst) then true else decide ((v.snd.fst.snd (↑k : Int).toNat).snd.fst ≥ v.fst) then true else bif decide ((↑k : Int) > 0) then !aft (v.snd.fst.snd ((↑k : Int) - 1).toNat) (v.snd.fst.snd k) else false) = true),
  (false = false)] := by kernel_rfl
theorem p48d (v : T_Graph) (k : Nat) :
    pathOb Try.prog Try.f73 0 [.reg [oT, oT, oT, oT, oT], .dec false, .reg [oT]] [.code (cAt (bodyOf Try.f73) [1, 1, 0, 1, 0, 0]), .inLoop (cAt (bodyOf Try.f73) [1, 1, 0, 1, 0, 0]), .inBlock 0, .code (cAt (bodyOf Try.f73) [1, 1, 1])] (S48 v k) [] 1 [] (.p (.bool true)) =
    some [((0 : Nat) < 1),
  ((decide ((↑k : Int) < (↑v.snd.fst.fst : Int))) = false),
  (true = true)] := by kernel_rfl
theorem p51z (v : T_Graph) :
    pathOb Try.prog Try.f77 0 [.reg [oT, oT], .reg [oT, oT, ⟨true, (some ⟨[], [], 1, [], .p (.bool (inB v.1 1 8))⟩), none⟩, oT, oT, oT, oT, oT, oT, oT], .dec true, .reg [oT]] [.code (bodyOf Try.f77)] (start Try.f77 [] 0 [graphA v]) [] 1 [] (.p (.bool false)) =
    some [((0 : Nat) < 1),
  Con (Try.prog) 115 0 [] [.p (.int .i64 (v.fst)), .p (.int .i64 1), .p (.int .i64 8)] [] (.p (.bool (inB v.fst 1 8))),
  (((!!inB v.fst 1 8) = true) → ((!!inB v.fst 1 8) = true)),
  (((!!inB v.fst 1 8) = true) → ((0 : Nat) < 1)),
  (((!!inB v.fst 1 8) = true) → ((!!inB v.fst 1 8) = true)),
  (((!!inB v.fst 1 8) = true) → ((!!inB v.fst 1 8) = true)),
  (((!inB v.fst 1 8) = false) → ((!!inB v.fst 1 8) = true)),
  ((bif !inB v.fst 1 8 then true else decide ((↑v.snd.fst.fst : Int) > 24)) = true),
  (false = false)] := by kernel_rfl
theorem p51a (v : T_Graph) :
    pieceOb Try.prog 0 [.reg [oT, oT], .reg [oT, oT, ⟨true, (some ⟨[], [], 1, [], .p (.bool (inB v.1 1 8))⟩), none⟩, oT, oT, oT, oT, oT, oT, oT], .dec false, .reg [oT, oT, oT, oT], .head] [.code (bodyOf Try.f77)] (start Try.f77 [] 0 [graphA v]) [0] 1 (S51 v 0) =
    some ([.code (cAt (bodyOf Try.f77) [1, 1, 0, 1, 0, 0]), .inLoop (cAt (bodyOf Try.f77) [1, 1, 0, 1, 0, 0]), .inBlock 0, .code (cAt (bodyOf Try.f77) [1, 1, 1])], [((0 : Nat) < 1),
  Con (Try.prog) 115 0 [] [.p (.int .i64 (v.fst)), .p (.int .i64 1), .p (.int .i64 8)] [] (.p (.bool (inB v.fst 1 8))),
  (((!!inB v.fst 1 8) = true) → ((!!inB v.fst 1 8) = true)),
  (((!!inB v.fst 1 8) = true) → ((0 : Nat) < 1)),
  (((!!inB v.fst 1 8) = true) → ((!!inB v.fst 1 8) = true)),
  (((!!inB v.fst 1 8) = true) → ((!!inB v.fst 1 8) = true)),
  (((!inB v.fst 1 8) = false) → ((!!inB v.fst 1 8) = true)),
  ((bif !inB v.fst 1 8 then true else decide ((↑v.snd.fst.fst : Int) > 24)) = false),
  ((0 : Nat) < 1),
  (((v.fst) : Int) = (v.fst)),
  (((v.snd.fst.fst) : Nat) = (v.snd.fst.fst)),
  (∀ i : Nat, ((((i) : Nat) < (v.snd.fst.fst)) → (([.int .i64 ((v.snd.fst.snd i).fst), .int .i64 ((v.snd.fst.snd i).snd.fst)] : List PV) = [.int .i64 ((v.snd.fst.snd i).fst), .int .i64 ((v.snd.fst.snd i).snd.fst)]))),
  ((0 : Nat) = 0),
  (((v.snd.fst.fst) : Nat) = (v.snd.fst.fst)),
  (∀ i : Nat, ((((i) : Nat) < (v.snd.fst.fst)) → (([.int .i64 ((v.snd.fst.snd i).fst), .int .i64 ((v.snd.fst.snd i).snd.fst)] : List PV) = [.int .i64 ((v.snd.fst.snd i).fst), .int .i64 ((v.snd.fst.snd i).snd.fst)]))),
  ((((↑v.snd.fst.fst : Int)) : Int) = ((↑v.snd.fst.fst : Int))),
  ((0 : Int) = ((↑0 : Int))),
  ((([AV.p (PV.int IntKind.i64 v.fst), graphL v.snd.fst].length) : Nat) = 2),
  ((1 : Nat) ≤ 1),
  ((1 : Nat) ≤ 1),
  (((v.fst) : Int) = (v.fst)),
  (((v.snd.fst.fst) : Nat) = (v.snd.fst.fst)),
  (∀ i : Nat, ((((i) : Nat) < (v.snd.fst.fst)) → (([.int .i64 ((v.snd.fst.snd i).fst), .int .i64 ((v.snd.fst.snd i).snd.fst)] : List PV) = [.int .i64 ((v.snd.fst.snd i).fst), .int .i64 ((v.snd.fst.snd i).snd.fst)])))]) := by kernel_rfl
theorem p51b (v : T_Graph) (k : Nat) :
    pieceOb Try.prog 0 [.reg [oT], .dec true, .reg [oT, oT, oT, oT, oT, oT], .reg [oT, oT, oT, oT, oT, oT, oT, oT, oT, oT, oT, oT, oT, oT, oT, oT, oT, oT, oT, oT, oT, oT, oT, oT, oT, oT, oT, oT, ⟨true, (some ⟨[], [], 1, [], .p (.int .i64 (cmpB (v.2.1.2 ((k : Int) - 1).toNat) (v.2.1.2 k)))⟩), none⟩, oT, oT, oT], .dec false, .reg [oT, oT], .head] [.code (cAt (bodyOf Try.f77) [1, 1, 0, 1, 0, 0]), .inLoop (cAt (bodyOf Try.f77) [1, 1, 0, 1, 0, 0]), .inBlock 0, .code (cAt (bodyOf Try.f77) [1, 1, 1])] (S51 v k) [0] 1 (S51 v (k + 1)) =
    some ([.code (cAt (bodyOf Try.f77) [1, 1, 0, 1, 0, 0]), .inLoop (cAt (bodyOf Try.f77) [1, 1, 0, 1, 0, 0]), .inBlock 0, .code (cAt (bodyOf Try.f77) [1, 1, 1])], [((decide ((↑k : Int) < (↑v.snd.fst.fst : Int))) = true),
  ((0 : Int) ≤ ((↑k : Int))),
  ((((↑k : Int)) : Int) < ((↑v.snd.fst.fst : Int))),
  ((0 : Nat) < 1),
  (((true) = true) → ((1 : Nat) = 1)),
  ((0 : Nat) < 1),
  (((!decide ((v.snd.fst.snd (↑k : Int).toNat).fst < 0)) = true) → ((!decide ((v.snd.fst.snd (↑k : Int).toNat).fst < 0)) = true)),
  (((!decide ((v.snd.fst.snd (↑k : Int).toNat).fst < 0)) = true) → ((0 : Nat) < 1)),
  (((!decide ((v.snd.fst.snd (↑k : Int).toNat).fst < 0)) = true) → ((!decide ((v.snd.fst.snd (↑k : Int).toNat).fst < 0)) = true)),
  (((!decide ((v.snd.fst.snd (↑k : Int).toNat).fst < 0)) = true) → ((0 : Nat) < 1)),
  (((!decide ((v.snd.fst.snd (↑k : Int).toNat).fst < 0)) = true) → ((!decide ((v.snd.fst.snd (↑k : Int).toNat).fst < 0)) = true)),
  (((!decide ((v.snd.fst.snd (↑k : Int).toNat).fst < 0)) = true) → ((!decide ((v.snd.fst.snd (↑k : Int).toNat).fst < 0)) = true)),
  (((decide ((v.snd.fst.snd (↑k : Int).toNat).fst < 0)) = false) → ((!decide ((v.snd.fst.snd (↑k : Int).toNat).fst < 0)) = true)),
  (((!bif decide ((v.snd.fst.snd (↑k : Int).toNat).fst < 0) then true else decide ((v.snd.fst.snd (↑k : Int).toNat).fst ≥ (v.snd.fst.snd (↑k : Int).toNat).snd.fst)) = true) → ((!bif decide ((v.snd.fst.snd (↑k : Int).toNat).fst < 0) then true else decide ((v.snd.fst.snd (↑k : Int).toNat).fst ≥ (v.snd.fst.snd (↑k : Int).toNat).snd.fst)) = true)),
  (((!bif decide ((v.snd.fst.snd (↑k : Int).toNat).fst < 0) then true else decide ((v.snd.fst.snd (↑k : Int).toNat).fst ≥ (v.snd.fst.snd (↑k : Int).toNat).snd.fst)) = true) → ((0 : Nat) < 1)),
  (((!bif decide ((v.snd.fst.snd (↑k : Int).toNat).fst < 0) then true else decide ((v.snd.fst.snd (↑k : Int).toNat).fst ≥ (v.snd.fst.snd (↑k : Int).toNat).snd.fst)) = true) → ((!bif decide ((v.snd.fst.snd (↑k : Int).toNat).fst < 0) then true else decide ((v.snd.fst.snd (↑k : Int).toNat).fst ≥ (v.snd.fst.snd (↑k : Int).toNat).snd.fst)) = true)),
  (((!bif decide ((v.snd.fst.snd (↑k : Int).toNat).fst < 0) then true else decide ((v.snd.fst.snd (↑k : Int).toNat).fst ≥ (v.snd.fst.snd (↑k : Int).toNat).snd.fst)) = true) → ((0 : Nat) < 1)),
  (((!bif decide ((v.snd.fst.snd (↑k : Int).toNat).fst < 0) then true else decide ((v.snd.fst.snd (↑k : Int).toNat).fst ≥ (v.snd.fst.snd (↑k : Int).toNat).snd.fst)) = true) → ((!bif decide ((v.snd.fst.snd (↑k : Int).toNat).fst < 0) then true else decide ((v.snd.fst.snd (↑k : Int).toNat).fst ≥ (v.snd.fst.snd (↑k : Int).toNat).snd.fst)) = true)),
  (((!bif decide ((v.snd.fst.snd (↑k : Int).toNat).fst < 0) then true else decide ((v.snd.fst.snd (↑k : Int).toNat).fst ≥ (v.snd.fst.snd (↑k : Int).toNat).snd.fst)) = true) → ((!bif decide ((v.snd.fst.snd (↑k : Int).toNat).fst < 0) then true else decide ((v.snd.fst.snd (↑k : Int).toNat).fst ≥ (v.snd.fst.snd (↑k : Int).toNat).snd.fst)) = true)),
  (((bif decide ((v.snd.fst.snd (↑k : Int).toNat).fst < 0) then true else decide ((v.snd.fst.snd (↑k : Int).toNat).fst ≥ (v.snd.fst.snd (↑k : Int).toNat).snd.fst)) = false) → ((!bif decide ((v.snd.fst.snd (↑k : Int).toNat).fst < 0) then true else decide ((v.snd.fst.snd (↑k : Int).toNat).fst ≥ (v.snd.fst.snd (↑k : Int).toNat).snd.fst)) = true)),
  (((!bif bif decide ((v.snd.fst.snd (↑k : Int).toNat).fst < 0) then true else decide ((v.snd.fst.snd (↑k : Int).toNat).fst ≥ (v.snd.fst.snd (↑k : Int).toNat).snd.fst) then true else decide ((v.snd.fst.snd (↑k : Int).toNat).snd.fst ≥ v.fst)) = true) → ((!bif bif decide ((v.snd.fst.snd (↑k : Int).toNat).fst < 0) then true else decide ((v.snd.fst.snd (↑k : Int).toNat).fst ≥ (v.snd.fst.snd (↑k : Int).toNat).snd.fst) then true else decide ((v.snd.fst.snd (↑k : Int).toNat).snd.fst ≥ v.fst)) = true)),
  (((!bif bif decide ((v.snd.fst.snd (↑k : Int).toNat).fst < 0) then true else decide ((v.snd.fst.snd (↑k : Int).toNat).fst ≥ (v.snd.fst.snd (↑k : Int).toNat).snd.fst) then true else decide ((v.snd.fst.snd (↑k : Int).toNat).snd.fst ≥ v.fst)) = true) → ((!bif bif decide ((v.snd.fst.snd (↑k : Int).toNat).fst < 0) then true else decide ((v.snd.fst.snd (↑k : Int).toNat).fst ≥ (v.snd.fst.snd (↑k : Int).toNat).snd.fst) then true else decide ((v.snd.fst.snd (↑k : Int).toNat).snd.fst ≥ v.fst)) = true)),
  ((((!bif bif decide ((v.snd.fst.snd (↑k : Int).toNat).fst < 0) then true else decide ((v.snd.fst.snd (↑k : Int).toNat).fst ≥ (v.snd.fst.snd (↑k : Int).toNat).snd.fst) then true else decide ((v.snd.fst.snd (↑k : Int).toNat).snd.fst ≥ v.fst)) && decide ((↑k : Int) > 0)) = true) → (((!bif bif decide ((v.snd.fst.snd (↑k : Int).toNat).fst < 0) then true else decide ((v.snd.fst.snd (↑k : Int).toNat).fst ≥ (v.snd.fst.snd (↑k : Int).toNat).snd.fst) then true else decide ((v.snd.fst.snd (↑k : Int).toNat).snd.fst ≥ v.fst)) && decide ((↑k : Int) > 0)) = true)),
  ((((!bif bif decide ((v.snd.fst.snd (↑k : Int).toNat).fst < 0) then true else decide ((v.snd.fst.snd (↑k : Int).toNat).fst ≥ (v.snd.fst.snd (↑k : Int).toNat).snd.fst) then true else decide ((v.snd.fst.snd (↑k : Int).toNat).snd.fst ≥ v.fst)) && decide ((↑k : Int) > 0)) = true) → ((0 : Nat) < 1)),
  ((((!bif bif decide ((v.snd.fst.snd (↑k : Int).toNat).fst < 0) then true else decide ((v.snd.fst.snd (↑k : Int).toNat).fst ≥ (v.snd.fst.snd (↑k : Int).toNat).snd.fst) then true else decide ((v.snd.fst.snd (↑k : Int).toNat).snd.fst ≥ v.fst)) && decide ((↑k : Int) > 0)) = true) → (((!bif bif decide ((v.snd.fst.snd (↑k : Int).toNat).fst < 0) then true else decide ((v.snd.fst.snd (↑k : Int).toNat).fst ≥ (v.snd.fst.snd (↑k : Int).toNat).snd.fst) then true else decide ((v.snd.fst.snd (↑k : Int).toNat).snd.fst ≥ v.fst)) && decide ((↑k : Int) > 0)) = true)),
  ((((!bif bif decide ((v.snd.fst.snd (↑k : Int).toNat).fst < 0) then true else decide ((v.snd.fst.snd (↑k : Int).toNat).fst ≥ (v.snd.fst.snd (↑k : Int).toNat).snd.fst) then true else decide ((v.snd.fst.snd (↑k : Int).toNat).snd.fst ≥ v.fst)) && decide ((↑k : Int) > 0)) = true) → (((-9223372036854775808) : Int) ≤ ((↑k : Int) - 1))),
  ((((!bif bif decide ((v.snd.fst.snd (↑k : Int).toNat).fst < 0) then true else decide ((v.snd.fst.snd (↑k : Int).toNat).fst ≥ (v.snd.fst.snd (↑k : Int).toNat).snd.fst) then true else decide ((v.snd.fst.snd (↑k : Int).toNat).snd.fst ≥ v.fst)) && decide ((↑k : Int) > 0)) = true) → ((((↑k : Int) - 1) : Int) ≤ 9223372036854775807)),
  ((((!bif bif decide ((v.snd.fst.snd (↑k : Int).toNat).fst < 0) then true else decide ((v.snd.fst.snd (↑k : Int).toNat).fst ≥ (v.snd.fst.snd (↑k : Int).toNat).snd.fst) then true else decide ((v.snd.fst.snd (↑k : Int).toNat).snd.fst ≥ v.fst)) && decide ((↑k : Int) > 0)) = true) → (((!bif bif decide ((v.snd.fst.snd (↑k : Int).toNat).fst < 0) then true else decide ((v.snd.fst.snd (↑k : Int).toNat).fst ≥ (v.snd.fst.snd (↑k : Int).toNat).snd.fst) then true else decide ((v.snd.fst.snd (↑k : Int).toNat).snd.fst ≥ v.fst)) && decide ((↑k : Int) > 0)) = true)),
  ((((!bif bif decide ((v.snd.fst.snd (↑k : Int).toNat).fst < 0) then true else decide ((v.snd.fst.snd (↑k : Int).toNat).fst ≥ (v.snd.fst.snd (↑k : Int).toNat).snd.fst) then true else decide ((v.snd.fst.snd (↑k : Int).toNat).snd.fst ≥ v.fst)) && decide ((↑k : Int) > 0)) = true) → (((!bif bif decide ((v.snd.fst.snd (↑k : Int).toNat).fst < 0) then true else decide ((v.snd.fst.snd (↑k : Int).toNat).fst ≥ (v.snd.fst.snd (↑k : Int).toNat).snd.fst) then true else decide ((v.snd.fst.snd (↑k : Int).toNat).snd.fst ≥ v.fst)) && decide ((↑k : Int) > 0)) = true)),
  ((((!bif bif decide ((v.snd.fst.snd (↑k : Int).toNat).fst < 0) then true else decide ((v.snd.fst.snd (↑k : Int).toNat).fst ≥ (v.snd.fst.snd (↑k : Int).toNat).snd.fst) then true else decide ((v.snd.fst.snd (↑k : Int).toNat).snd.fst ≥ v.fst)) && decide ((↑k : Int) > 0)) = true) → ((0 : Int) ≤ ((↑k : Int) - 1))),
  ((((!bif bif decide ((v.snd.fst.snd (↑k : Int).toNat).fst < 0) then true else decide ((v.snd.fst.snd (↑k : Int).toNat).fst ≥ (v.snd.fst.snd (↑k : Int).toNat).snd.fst) then true else decide ((v.snd.fst.snd (↑k : Int).toNat).snd.fst ≥ v.fst)) && decide ((↑k : Int) > 0)) = true) → ((((↑k : Int) - 1) : Int) < ((↑v.snd.fst.fst : Int)))),
  ((((!bif bif decide ((v.snd.fst.snd (↑k : Int).toNat).fst < 0) then true else decide ((v.snd.fst.snd (↑k : Int).toNat).fst ≥ (v.snd.fst.snd (↑k : Int).toNat).snd.fst) then true else decide ((v.snd.fst.snd (↑k : Int).toNat).snd.fst ≥ v.fst)) && decide ((↑k : Int) > 0)) = true) → (((!bif bif decide ((v.snd.fst.snd (↑k : Int).toNat).fst < 0) then true else decide ((v.snd.fst.snd (↑k : Int).toNat).fst ≥ (v.snd.fst.snd (↑k : Int).toNat).snd.fst) then true else decide ((v.snd.fst.snd (↑k : Int).toNat).snd.fst ≥ v.fst)) && decide ((↑k : Int) > 0)) = true)),
  ((((!bif bif decide ((v.snd.fst.snd (↑k : Int).toNat).fst < 0) then true else decide ((v.snd.fst.snd (↑k : Int).toNat).fst ≥ (v.snd.fst.snd (↑k : Int).toNat).snd.fst) then true else decide ((v.snd.fst.snd (↑k : Int).toNat).snd.fst ≥ v.fst)) && decide ((↑k : Int) > 0)) = true) → ((0 : Nat) < 1)),
  ((((!bif bif decide ((v.snd.fst.snd (↑k : Int).toNat).fst < 0) then true else decide ((v.snd.fst.snd (↑k : Int).toNat).fst ≥ (v.snd.fst.snd (↑k : Int).toNat).snd.fst) then true else decide ((v.snd.fst.snd (↑k : Int).toNat).snd.fst ≥ v.fst)) && decide ((↑k : Int) > 0)) = true) → (((!bif bif decide ((v.snd.fst.snd (↑k : Int).toNat).fst < 0) then true else decide ((v.snd.fst.snd (↑k : Int).toNat).fst ≥ (v.snd.fst.snd (↑k : Int).toNat).snd.fst) then true else decide ((v.snd.fst.snd (↑k : Int).toNat).snd.fst ≥ v.fst)) && decide ((↑k : Int) > 0)) = true)),
  ((((!bif bif decide ((v.snd.fst.snd (↑k : Int).toNat).fst < 0) then true else decide ((v.snd.fst.snd (↑k : Int).toNat).fst ≥ (v.snd.fst.snd (↑k : Int).toNat).snd.fst) then true else decide ((v.snd.fst.snd (↑k : Int).toNat).snd.fst ≥ v.fst)) && decide ((↑k : Int) > 0)) = true) → (((!bif bif decide ((v.snd.fst.snd (↑k : Int).toNat).fst < 0) then true else decide ((v.snd.fst.snd (↑k : Int).toNat).fst ≥ (v.snd.fst.snd (↑k : Int).toNat).snd.fst) then true else decide ((v.snd.fst.snd (↑k : Int).toNat).snd.fst ≥ v.fst)) && decide ((↑k : Int) > 0)) = true)),
  ((((!bif bif decide ((v.snd.fst.snd (↑k : Int).toNat).fst < 0) then true else decide ((v.snd.fst.snd (↑k : Int).toNat).fst ≥ (v.snd.fst.snd (↑k : Int).toNat).snd.fst) then true else decide ((v.snd.fst.snd (↑k : Int).toNat).snd.fst ≥ v.fst)) && decide ((↑k : Int) > 0)) = true) → Con (Try.prog) 82 0 [] [.agg [.p (.int .i64 ((v.snd.fst.snd ((↑k : Int) - 1).toNat).fst)), .p (.int .i64 ((v.snd.fst.snd ((↑k : Int) - 1).toNat).snd.fst))], .agg [.p (.int .i64 ((v.snd.fst.snd k).fst)), .p (.int .i64 ((v.snd.fst.snd k).snd.fst))]] [] (.p (.int .i64 (cmpB (v.snd.fst.snd ((↑k : Int) - 1).toNat) (v.snd.fst.snd k))))),
  ((((!bif bif decide ((v.snd.fst.snd (↑k : Int).toNat).fst < 0) then true else decide ((v.snd.fst.snd (↑k : Int).toNat).fst ≥ (v.snd.fst.snd (↑k : Int).toNat).snd.fst) then true else decide ((v.snd.fst.snd (↑k : Int).toNat).snd.fst ≥ v.fst)) && decide ((↑k : Int) > 0)) = true) → (((!bif bif decide ((v.snd.fst.snd (↑k : Int).toNat).fst < 0) then true else decide ((v.snd.fst.snd (↑k : Int).toNat).fst ≥ (v.snd.fst.snd (↑k : Int).toNat).snd.fst) then true else decide ((v.snd.fst.snd (↑k : Int).toNat).snd.fst ≥ v.fst)) && decide ((↑k : Int) > 0)) = true)),
  (((!bif bif decide ((v.snd.fst.snd (↑k : Int).toNat).fst < 0) then true else decide ((v.snd.fst.snd (↑k : Int).toNat).fst ≥ (v.snd.fst.snd (↑k : Int).toNat).snd.fst) then true else decide ((v.snd.fst.snd (↑k : Int).toNat).snd.fst ≥ v.fst)) = true) → ((!bif bif decide ((v.snd.fst.snd (↑k : Int).toNat).fst < 0) then true else decide ((v.snd.fst.snd (↑k : Int).toNat).fst ≥ (v.snd.fst.snd (↑k : Int).toNat).snd.fst) then true else decide ((v.snd.fst.snd (↑k : Int).toNat).snd.fst ≥ v.fst)) = true)),
  (((!bif bif decide ((v.snd.fst.snd (↑k : Int).toNat).fst < 0) then true else decide ((v.snd.fst.snd (↑k : Int).toNat).fst ≥ (v.snd.fst.snd (↑k : Int).toNat).snd.fst) then true else decide ((v.snd.fst.snd (↑k : Int).toNat).snd.fst ≥ v.fst)) = true) → (((decide ((↑k : Int) > 0)) = true) → (((!bif bif decide ((v.snd.fst.snd (↑k : Int).toNat).fst < 0) then true else decide ((v.snd.fst.snd (↑k : Int).toNat).fst ≥ (v.snd.fst.snd (↑k : Int).toNat).snd.fst) then true else decide ((v.snd.fst.snd (↑k : Int).toNat).snd.fst ≥ v.fst)) && decide ((↑k : Int) > 0)) = true))),
  (((bif bif decide ((v.snd.fst.snd (↑k : Int).toNat).fst < 0) then true else decide ((v.snd.fst.snd (↑k : Int).toNat).fst ≥ (v.snd.fst.snd (↑k : Int).toNat).snd.fst) then true else decide ((v.snd.fst.snd (↑k : Int).toNat).snd.fst ≥ v.fst)) = false) → ((!bif bif decide ((v.snd.fst.snd (↑k : Int).toNat).fst < 0) then true else decide ((v.snd.fst.snd (↑k : Int).toNat).fst ≥ (v.snd.fst.snd (↑k : Int).toNat).snd.fst) then true else decide ((v.snd.fst.snd (↑k : Int).toNat).snd.fst ≥ v.fst)) = true)),
  ((bif bif bif decide ((v.snd.fst.snd (↑k : Int).toNat).fst < 0) then true else decide ((v.snd.fst.snd (↑k : Int).toNat).fst ≥ (v.snd.fst.snd (↑k : Int).toNat).snd.fst) then true else decide ((v.snd.fst.snd (↑k : Int).toNat).snd.fst ≥ v.fst) then true else bif decide ((↑k : Int) > 0) then decide (cmpB (v.snd.fst.snd ((↑k : Int) - 1).toNat) (v.snd.fst.snd k) > 0) else false) = false),
  (((-9223372036854775808) : Int) ≤ ((↑k : Int) + 1)),
  ((((↑k : Int) + 1) : Int) ≤ 9223372036854775807),
  (((v.fst) : Int) = (v.fst)),
  (((v.snd.fst.fst) : Nat) = (v.snd.fst.fst)),
  (∀ i : Nat, ((((i) : Nat) < (v.snd.fst.fst)) → (([.int .i64 ((v.snd.fst.snd i).fst), .int .i64 ((v.snd.fst.snd i).snd.fst)] : List PV) = [.int .i64 ((v.snd.fst.snd i).fst), .int .i64 ((v.snd.fst.snd i).snd.fst)]))),
  ((0 : Nat) = 0),
  (((v.snd.fst.fst) : Nat) = (v.snd.fst.fst)),
  (∀ i : Nat, ((((i) : Nat) < (v.snd.fst.fst)) → (([.int .i64 ((v.snd.fst.snd i).fst), .int .i64 ((v.snd.fst.snd i).snd.fst)] : List PV) = [.int .i64 ((v.snd.fst.snd i).fst), .int .i64 ((v.snd.fst.snd i).snd.fst)]))),
  ((((↑v.snd.fst.fst : Int)) : Int) = ((↑v.snd.fst.fst : Int))),
  ((((↑k : Int) + 1) : Int) = ((↑(k + 1) : Int))),
  ((2 : Nat) = 2),
  ((1 : Nat) ≤ 1),
  ((1 : Nat) ≤ 1),
  (((v.fst) : Int) = (v.fst)),
  (((v.snd.fst.fst) : Nat) = (v.snd.fst.fst)),
  (∀ i : Nat, ((((i) : Nat) < (v.snd.fst.fst)) → (([.int .i64 ((v.snd.fst.snd i).fst), .int .i64 ((v.snd.fst.snd i).snd.fst)] : List PV) = [.int .i64 ((v.snd.fst.snd i).fst), .int .i64 ((v.snd.fst.snd i).snd.fst)])))]) := by kernel_rfl
theorem p51c (v : T_Graph) (k : Nat) :
    pathOb Try.prog Try.f77 0 [.reg [oT], .dec true, .reg [oT, oT, oT, oT, oT, oT], .reg [oT, oT, oT, oT, oT, oT, oT, oT, oT, oT, oT, oT, oT, oT, oT, oT, oT, oT, oT, oT, oT, oT, oT, oT, oT, oT, oT, oT, ⟨true, (some ⟨[], [], 1, [], .p (.int .i64 (cmpB (v.2.1.2 ((k : Int) - 1).toNat) (v.2.1.2 k)))⟩), none⟩, oT, oT, oT], .dec true, .reg [oT]] [.code (cAt (bodyOf Try.f77) [1, 1, 0, 1, 0, 0]), .inLoop (cAt (bodyOf Try.f77) [1, 1, 0, 1, 0, 0]), .inBlock 0, .code (cAt (bodyOf Try.f77) [1, 1, 1])] (S51 v k) [] 1 [] (.p (.bool false)) =
    some [((decide ((↑k : Int) < (↑v.snd.fst.fst : Int))) = true),
  ((0 : Int) ≤ ((↑k : Int))),
  ((((↑k : Int)) : Int) < ((↑v.snd.fst.fst : Int))),
  ((0 : Nat) < 1),
  (((true) = true) → ((1 : Nat) = 1)),
  ((0 : Nat) < 1),
  (((!decide ((v.snd.fst.snd (↑k : Int).toNat).fst < 0)) = true) → ((!decide ((v.snd.fst.snd (↑k : Int).toNat).fst < 0)) = true)),
  (((!decide ((v.snd.fst.snd (↑k : Int).toNat).fst < 0)) = true) → ((0 : Nat) < 1)),
  (((!decide ((v.snd.fst.snd (↑k : Int).toNat).fst < 0)) = true) → ((!decide ((v.snd.fst.snd (↑k : Int).toNat).fst < 0)) = true)),
  (((!decide ((v.snd.fst.snd (↑k : Int).toNat).fst < 0)) = true) → ((0 : Nat) < 1)),
  (((!decide ((v.snd.fst.snd (↑k : Int).toNat).fst < 0)) = true) → ((!decide ((v.snd.fst.snd (↑k : Int).toNat).fst < 0)) = true)),
  (((!decide ((v.snd.fst.snd (↑k : Int).toNat).fst < 0)) = true) → ((!decide ((v.snd.fst.snd (↑k : Int).toNat).fst < 0)) = true)),
  (((decide ((v.snd.fst.snd (↑k : Int).toNat).fst < 0)) = false) → ((!decide ((v.snd.fst.snd (↑k : Int).toNat).fst < 0)) = true)),
  (((!bif decide ((v.snd.fst.snd (↑k : Int).toNat).fst < 0) then true else decide ((v.snd.fst.snd (↑k : Int).toNat).fst ≥ (v.snd.fst.snd (↑k : Int).toNat).snd.fst)) = true) → ((!bif decide ((v.snd.fst.snd (↑k : Int).toNat).fst < 0) then true else decide ((v.snd.fst.snd (↑k : Int).toNat).fst ≥ (v.snd.fst.snd (↑k : Int).toNat).snd.fst)) = true)),
  (((!bif decide ((v.snd.fst.snd (↑k : Int).toNat).fst < 0) then true else decide ((v.snd.fst.snd (↑k : Int).toNat).fst ≥ (v.snd.fst.snd (↑k : Int).toNat).snd.fst)) = true) → ((0 : Nat) < 1)),
  (((!bif decide ((v.snd.fst.snd (↑k : Int).toNat).fst < 0) then true else decide ((v.snd.fst.snd (↑k : Int).toNat).fst ≥ (v.snd.fst.snd (↑k : Int).toNat).snd.fst)) = true) → ((!bif decide ((v.snd.fst.snd (↑k : Int).toNat).fst < 0) then true else decide ((v.snd.fst.snd (↑k : Int).toNat).fst ≥ (v.snd.fst.snd (↑k : Int).toNat).snd.fst)) = true)),
  (((!bif decide ((v.snd.fst.snd (↑k : Int).toNat).fst < 0) then true else decide ((v.snd.fst.snd (↑k : Int).toNat).fst ≥ (v.snd.fst.snd (↑k : Int).toNat).snd.fst)) = true) → ((0 : Nat) < 1)),
  (((!bif decide ((v.snd.fst.snd (↑k : Int).toNat).fst < 0) then true else decide ((v.snd.fst.snd (↑k : Int).toNat).fst ≥ (v.snd.fst.snd (↑k : Int).toNat).snd.fst)) = true) → ((!bif decide ((v.snd.fst.snd (↑k : Int).toNat).fst < 0) then true else decide ((v.snd.fst.snd (↑k : Int).toNat).fst ≥ (v.snd.fst.snd (↑k : Int).toNat).snd.fst)) = true)),
  (((!bif decide ((v.snd.fst.snd (↑k : Int).toNat).fst < 0) then true else decide ((v.snd.fst.snd (↑k : Int).toNat).fst ≥ (v.snd.fst.snd (↑k : Int).toNat).snd.fst)) = true) → ((!bif decide ((v.snd.fst.snd (↑k : Int).toNat).fst < 0) then true else decide ((v.snd.fst.snd (↑k : Int).toNat).fst ≥ (v.snd.fst.snd (↑k : Int).toNat).snd.fst)) = true)),
  (((bif decide ((v.snd.fst.snd (↑k : Int).toNat).fst < 0) then true else decide ((v.snd.fst.snd (↑k : Int).toNat).fst ≥ (v.snd.fst.snd (↑k : Int).toNat).snd.fst)) = false) → ((!bif decide ((v.snd.fst.snd (↑k : Int).toNat).fst < 0) then true else decide ((v.snd.fst.snd (↑k : Int).toNat).fst ≥ (v.snd.fst.snd (↑k : Int).toNat).snd.fst)) = true)),
  (((!bif bif decide ((v.snd.fst.snd (↑k : Int).toNat).fst < 0) then true else decide ((v.snd.fst.snd (↑k : Int).toNat).fst ≥ (v.snd.fst.snd (↑k : Int).toNat).snd.fst) then true else decide ((v.snd.fst.snd (↑k : Int).toNat).snd.fst ≥ v.fst)) = true) → ((!bif bif decide ((v.snd.fst.snd (↑k : Int).toNat).fst < 0) then true else decide ((v.snd.fst.snd (↑k : Int).toNat).fst ≥ (v.snd.fst.snd (↑k : Int).toNat).snd.fst) then true else decide ((v.snd.fst.snd (↑k : Int).toNat).snd.fst ≥ v.fst)) = true)),
  (((!bif bif decide ((v.snd.fst.snd (↑k : Int).toNat).fst < 0) then true else decide ((v.snd.fst.snd (↑k : Int).toNat).fst ≥ (v.snd.fst.snd (↑k : Int).toNat).snd.fst) then true else decide ((v.snd.fst.snd (↑k : Int).toNat).snd.fst ≥ v.fst)) = true) → ((!bif bif decide ((v.snd.fst.snd (↑k : Int).toNat).fst < 0) then true else decide ((v.snd.fst.snd (↑k : Int).toNat).fst ≥ (v.snd.fst.snd (↑k : Int).toNat).snd.fst) then true else decide ((v.snd.fst.snd (↑k : Int).toNat).snd.fst ≥ v.fst)) = true)),
  ((((!bif bif decide ((v.snd.fst.snd (↑k : Int).toNat).fst < 0) then true else decide ((v.snd.fst.snd (↑k : Int).toNat).fst ≥ (v.snd.fst.snd (↑k : Int).toNat).snd.fst) then true else decide ((v.snd.fst.snd (↑k : Int).toNat).snd.fst ≥ v.fst)) && decide ((↑k : Int) > 0)) = true) → (((!bif bif decide ((v.snd.fst.snd (↑k : Int).toNat).fst < 0) then true else decide ((v.snd.fst.snd (↑k : Int).toNat).fst ≥ (v.snd.fst.snd (↑k : Int).toNat).snd.fst) then true else decide ((v.snd.fst.snd (↑k : Int).toNat).snd.fst ≥ v.fst)) && decide ((↑k : Int) > 0)) = true)),
  ((((!bif bif decide ((v.snd.fst.snd (↑k : Int).toNat).fst < 0) then true else decide ((v.snd.fst.snd (↑k : Int).toNat).fst ≥ (v.snd.fst.snd (↑k : Int).toNat).snd.fst) then true else decide ((v.snd.fst.snd (↑k : Int).toNat).snd.fst ≥ v.fst)) && decide ((↑k : Int) > 0)) = true) → ((0 : Nat) < 1)),
  ((((!bif bif decide ((v.snd.fst.snd (↑k : Int).toNat).fst < 0) then true else decide ((v.snd.fst.snd (↑k : Int).toNat).fst ≥ (v.snd.fst.snd (↑k : Int).toNat).snd.fst) then true else decide ((v.snd.fst.snd (↑k : Int).toNat).snd.fst ≥ v.fst)) && decide ((↑k : Int) > 0)) = true) → (((!bif bif decide ((v.snd.fst.snd (↑k : Int).toNat).fst < 0) then true else decide ((v.snd.fst.snd (↑k : Int).toNat).fst ≥ (v.snd.fst.snd (↑k : Int).toNat).snd.fst) then true else decide ((v.snd.fst.snd (↑k : Int).toNat).snd.fst ≥ v.fst)) && decide ((↑k : Int) > 0)) = true)),
  ((((!bif bif decide ((v.snd.fst.snd (↑k : Int).toNat).fst < 0) then true else decide ((v.snd.fst.snd (↑k : Int).toNat).fst ≥ (v.snd.fst.snd (↑k : Int).toNat).snd.fst) then true else decide ((v.snd.fst.snd (↑k : Int).toNat).snd.fst ≥ v.fst)) && decide ((↑k : Int) > 0)) = true) → (((-9223372036854775808) : Int) ≤ ((↑k : Int) - 1))),
  ((((!bif bif decide ((v.snd.fst.snd (↑k : Int).toNat).fst < 0) then true else decide ((v.snd.fst.snd (↑k : Int).toNat).fst ≥ (v.snd.fst.snd (↑k : Int).toNat).snd.fst) then true else decide ((v.snd.fst.snd (↑k : Int).toNat).snd.fst ≥ v.fst)) && decide ((↑k : Int) > 0)) = true) → ((((↑k : Int) - 1) : Int) ≤ 9223372036854775807)),
  ((((!bif bif decide ((v.snd.fst.snd (↑k : Int).toNat).fst < 0) then true else decide ((v.snd.fst.snd (↑k : Int).toNat).fst ≥ (v.snd.fst.snd (↑k : Int).toNat).snd.fst) then true else decide ((v.snd.fst.snd (↑k : Int).toNat).snd.fst ≥ v.fst)) && decide ((↑k : Int) > 0)) = true) → (((!bif bif decide ((v.snd.fst.snd (↑k : Int).toNat).fst < 0) then true else decide ((v.snd.fst.snd (↑k : Int).toNat).fst ≥ (v.snd.fst.snd (↑k : Int).toNat).snd.fst) then true else decide ((v.snd.fst.snd (↑k : Int).toNat).snd.fst ≥ v.fst)) && decide ((↑k : Int) > 0)) = true)),
  ((((!bif bif decide ((v.snd.fst.snd (↑k : Int).toNat).fst < 0) then true else decide ((v.snd.fst.snd (↑k : Int).toNat).fst ≥ (v.snd.fst.snd (↑k : Int).toNat).snd.fst) then true else decide ((v.snd.fst.snd (↑k : Int).toNat).snd.fst ≥ v.fst)) && decide ((↑k : Int) > 0)) = true) → (((!bif bif decide ((v.snd.fst.snd (↑k : Int).toNat).fst < 0) then true else decide ((v.snd.fst.snd (↑k : Int).toNat).fst ≥ (v.snd.fst.snd (↑k : Int).toNat).snd.fst) then true else decide ((v.snd.fst.snd (↑k : Int).toNat).snd.fst ≥ v.fst)) && decide ((↑k : Int) > 0)) = true)),
  ((((!bif bif decide ((v.snd.fst.snd (↑k : Int).toNat).fst < 0) then true else decide ((v.snd.fst.snd (↑k : Int).toNat).fst ≥ (v.snd.fst.snd (↑k : Int).toNat).snd.fst) then true else decide ((v.snd.fst.snd (↑k : Int).toNat).snd.fst ≥ v.fst)) && decide ((↑k : Int) > 0)) = true) → ((0 : Int) ≤ ((↑k : Int) - 1))),
  ((((!bif bif decide ((v.snd.fst.snd (↑k : Int).toNat).fst < 0) then true else decide ((v.snd.fst.snd (↑k : Int).toNat).fst ≥ (v.snd.fst.snd (↑k : Int).toNat).snd.fst) then true else decide ((v.snd.fst.snd (↑k : Int).toNat).snd.fst ≥ v.fst)) && decide ((↑k : Int) > 0)) = true) → ((((↑k : Int) - 1) : Int) < ((↑v.snd.fst.fst : Int)))),
  ((((!bif bif decide ((v.snd.fst.snd (↑k : Int).toNat).fst < 0) then true else decide ((v.snd.fst.snd (↑k : Int).toNat).fst ≥ (v.snd.fst.snd (↑k : Int).toNat).snd.fst) then true else decide ((v.snd.fst.snd (↑k : Int).toNat).snd.fst ≥ v.fst)) && decide ((↑k : Int) > 0)) = true) → (((!bif bif decide ((v.snd.fst.snd (↑k : Int).toNat).fst < 0) then true else decide ((v.snd.fst.snd (↑k : Int).toNat).fst ≥ (v.snd.fst.snd (↑k : Int).toNat).snd.fst) then true else decide ((v.snd.fst.snd (↑k : Int).toNat).snd.fst ≥ v.fst)) && decide ((↑k : Int) > 0)) = true)),
  ((((!bif bif decide ((v.snd.fst.snd (↑k : Int).toNat).fst < 0) then true else decide ((v.snd.fst.snd (↑k : Int).toNat).fst ≥ (v.snd.fst.snd (↑k : Int).toNat).snd.fst) then true else decide ((v.snd.fst.snd (↑k : Int).toNat).snd.fst ≥ v.fst)) && decide ((↑k : Int) > 0)) = true) → ((0 : Nat) < 1)),
  ((((!bif bif decide ((v.snd.fst.snd (↑k : Int).toNat).fst < 0) then true else decide ((v.snd.fst.snd (↑k : Int).toNat).fst ≥ (v.snd.fst.snd (↑k : Int).toNat).snd.fst) then true else decide ((v.snd.fst.snd (↑k : Int).toNat).snd.fst ≥ v.fst)) && decide ((↑k : Int) > 0)) = true) → (((!bif bif decide ((v.snd.fst.snd (↑k : Int).toNat).fst < 0) then true else decide ((v.snd.fst.snd (↑k : Int).toNat).fst ≥ (v.snd.fst.snd (↑k : Int).toNat).snd.fst) then true else decide ((v.snd.fst.snd (↑k : Int).toNat).snd.fst ≥ v.fst)) && decide ((↑k : Int) > 0)) = true)),
  ((((!bif bif decide ((v.snd.fst.snd (↑k : Int).toNat).fst < 0) then true else decide ((v.snd.fst.snd (↑k : Int).toNat).fst ≥ (v.snd.fst.snd (↑k : Int).toNat).snd.fst) then true else decide ((v.snd.fst.snd (↑k : Int).toNat).snd.fst ≥ v.fst)) && decide ((↑k : Int) > 0)) = true) → (((!bif bif decide ((v.snd.fst.snd (↑k : Int).toNat).fst < 0) then true else decide ((v.snd.fst.snd (↑k : Int).toNat).fst ≥ (v.snd.fst.snd (↑k : Int).toNat).snd.fst) then true else decide ((v.snd.fst.snd (↑k : Int).toNat).snd.fst ≥ v.fst)) && decide ((↑k : Int) > 0)) = true)),
  ((((!bif bif decide ((v.snd.fst.snd (↑k : Int).toNat).fst < 0) then true else decide ((v.snd.fst.snd (↑k : Int).toNat).fst ≥ (v.snd.fst.snd (↑k : Int).toNat).snd.fst) then true else decide ((v.snd.fst.snd (↑k : Int).toNat).snd.fst ≥ v.fst)) && decide ((↑k : Int) > 0)) = true) → Con (Try.prog) 82 0 [] [.agg [.p (.int .i64 ((v.snd.fst.snd ((↑k : Int) - 1).toNat).fst)), .p (.int .i64 ((v.snd.fst.snd ((↑k : Int) - 1).toNat).snd.fst))], .agg [.p (.int .i64 ((v.snd.fst.snd k).fst)), .p (.int .i64 ((v.snd.fst.snd k).snd.fst))]] [] (.p (.int .i64 (cmpB (v.snd.fst.snd ((↑k : Int) - 1).toNat) (v.snd.fst.snd k))))),
  ((((!bif bif decide ((v.snd.fst.snd (↑k : Int).toNat).fst < 0) then true else decide ((v.snd.fst.snd (↑k : Int).toNat).fst ≥ (v.snd.fst.snd (↑k : Int).toNat).snd.fst) then true else decide ((v.snd.fst.snd (↑k : Int).toNat).snd.fst ≥ v.fst)) && decide ((↑k : Int) > 0)) = true) → (((!bif bif decide ((v.snd.fst.snd (↑k : Int).toNat).fst < 0) then true else decide ((v.snd.fst.snd (↑k : Int).toNat).fst ≥ (v.snd.fst.snd (↑k : Int).toNat).snd.fst) then true else decide ((v.snd.fst.snd (↑k : Int).toNat).snd.fst ≥ v.fst)) && decide ((↑k : Int) > 0)) = true)),
  (((!bif bif decide ((v.snd.fst.snd (↑k : Int).toNat).fst < 0) then true else decide ((v.snd.fst.snd (↑k : Int).toNat).fst ≥ (v.snd.fst.snd (↑k : Int).toNat).snd.fst) then true else decide ((v.snd.fst.snd (↑k : Int).toNat).snd.fst ≥ v.fst)) = true) → ((!bif bif decide ((v.snd.fst.snd (↑k : Int).toNat).fst < 0) then true else decide ((v.snd.fst.snd (↑k : Int).toNat).fst ≥ (v.snd.fst.snd (↑k : Int).toNat).snd.fst) then true else decide ((v.snd.fst.snd (↑k : Int).toNat).snd.fst ≥ v.fst)) = true)),
  (((!bif bif decide ((v.snd.fst.snd (↑k : Int).toNat).fst < 0) then true else decide ((v.snd.fst.snd (↑k : Int).toNat).fst ≥ (v.snd.fst.snd (↑k : Int).toNat).snd.fst) then true else decide ((v.snd.fst.snd (↑k : Int).toNat).snd.fst ≥ v.fst)) = true) → (((decide ((↑k : Int) > 0)) = true) → (((!bif bif decide ((v.snd.fst.snd (↑k : Int).toNat).fst < 0) then true else decide ((v.snd.fst.snd (↑k : Int).toNat).fst ≥ (v.snd.fst.snd (↑k : Int).toNat).snd.fst) then true else decide ((v.snd.fst.snd (↑k : Int).toNat).snd.fst ≥ v.fst)) && decide ((↑k : Int) > 0)) = true))),
  (((bif bif decide ((v.snd.fst.snd (↑k : Int).toNat).fst < 0) then true else decide ((v.snd.fst.snd (↑k : Int).toNat).fst ≥ (v.snd.fst.snd (↑k : Int).toNat).snd.fst) then true else decide ((v.snd.fst.snd (↑k : Int).toNat).snd.fst ≥ v.fst)) = false) → ((!bif bif decide ((v.snd.fst.snd (↑k : Int).toNat).fst < 0) then true else decide ((v.snd.fst.snd (↑k : Int).toNat).fst ≥ (v.snd.fst.snd (↑k : Int).toNat).snd.fst) then true else decide ((v.snd.fst.snd (↑k : Int).toNat).snd.fst ≥ v.fst)) = true)),
  ((bif bif bif decide ((v.snd.fst.snd (↑k : Int).toNat).fst < 0) then true else decide ((v.snd.fst.snd (↑k : Int).toNat).fst ≥ (v.snd.fst.snd (↑k : Int).toNat).snd.fst) then true else decide ((v.snd.fst.snd (↑k : Int).toNat).snd.fst ≥ v.fst) then true else bif decide ((↑k : Int) > 0) then decide (cmpB (v.snd.fst.snd ((↑k : Int) - 1).toNat) (v.snd.fst.snd k) > 0) else false) = true),
  (false = false)] := by kernel_rfl
theorem p51d (v : T_Graph) (k : Nat) :
    pathOb Try.prog Try.f77 0 [.reg [oT], .dec false, .reg [oT]] [.code (cAt (bodyOf Try.f77) [1, 1, 0, 1, 0, 0]), .inLoop (cAt (bodyOf Try.f77) [1, 1, 0, 1, 0, 0]), .inBlock 0, .code (cAt (bodyOf Try.f77) [1, 1, 1])] (S51 v k) [] 1 [] (.p (.bool true)) =
    some [((decide ((↑k : Int) < (↑v.snd.fst.fst : Int))) = false),
  (true = true)] := by kernel_rfl

theorem con_l2After (a b : T_Bar) : Con Try.prog 113 0 [] [barA a, barA b] [] (.p (.bool (aft a b))) := by
  refine con_start Try.func113 rfl (by kernel_rfl) rfl (fun c hc => ?_)
  refine path_ok mixed Try.func113 hc (p57 a b) ?_
  simp only [All]
  repeat' (first | exact trivial | with_reducible apply And.intro)
  all_goals (first | omega | rfl | (intros; first | assumption | exact True.intro | rfl | exact absurd (show false = true by assumption) Bool.false_ne_true | ((repeat' (first | assumption | apply anda | apply notf)); done)))

theorem con_compareInts (x y : Int) : Con Try.prog 117 0 [] [.p (.int .i64 x), .p (.int .i64 y)] [] (.p (.int .i64 (cmpI x y))) := by
  refine con_start Try.func117 rfl (by kernel_rfl) rfl (fun c hc => ?_)
  by_cases h1 : x < y
  · rw [show cmpI x y = -1 by simp [cmpI, h1]]
    refine path_ok mixed Try.func117 hc (p62a x y) ?_
    simp only [All]
    repeat' (first | exact trivial | with_reducible apply And.intro)
    all_goals (first | omega | rfl | (intros; first | assumption | exact True.intro | rfl | exact absurd (show false = true by assumption) Bool.false_ne_true | ((repeat' (first | assumption | apply anda | apply notf)); done)) | (simp; omega))
  · by_cases h2 : x > y
    · rw [show cmpI x y = 1 by simp only [cmpI, h1, h2, if_true, if_false]]
      refine path_ok mixed Try.func117 hc (p62b x y) ?_
      simp only [All]
      repeat' (first | exact trivial | with_reducible apply And.intro)
      all_goals (first | omega | rfl | (intros; first | assumption | exact True.intro | rfl | exact absurd (show false = true by assumption) Bool.false_ne_true | ((repeat' (first | assumption | apply anda | apply notf)); done)) | (simp; omega))
    · rw [show cmpI x y = 0 by simp only [cmpI, h1, h2, if_false]]
      refine path_ok mixed Try.func117 hc (p62c x y) ?_
      simp only [All]
      repeat' (first | exact trivial | with_reducible apply And.intro)
      all_goals (first | omega | rfl | (intros; first | assumption | exact True.intro | rfl | exact absurd (show false = true by assumption) Bool.false_ne_true | ((repeat' (first | assumption | apply anda | apply notf)); done)) | (simp; omega))

theorem con_compareBars (a b : T_Bar) : Con Try.prog 82 0 [] [barA a, barA b] [] (.p (.int .i64 (cmpB a b))) := by
  refine con_start Try.func82 rfl (by kernel_rfl) rfl (fun c hc => ?_)
  by_cases h1 : cmpI a.1 b.1 = 0
  · rw [show cmpB a b = cmpI a.2.1 b.2.1 by simp [cmpB, h1]]
    refine path_ok mixed Try.func82 hc (p59b a b) ?_
    simp only [All]
    repeat' (first | exact trivial | with_reducible apply And.intro)
    all_goals (first | omega | rfl | (intros; first | assumption | exact True.intro | rfl | exact absurd (show false = true by assumption) Bool.false_ne_true | ((repeat' (first | assumption | apply anda | apply notf)); done)) | (exact con_compareInts _ _) | (simp [h1]))
  · rw [show cmpB a b = cmpI a.1 b.1 by simp [cmpB, h1]]
    refine path_ok mixed Try.func82 hc (p59a a b) ?_
    simp only [All]
    repeat' (first | exact trivial | with_reducible apply And.intro)
    all_goals (first | omega | rfl | (intros; first | assumption | exact True.intro | rfl | exact absurd (show false = true by assumption) Bool.false_ne_true | ((repeat' (first | assumption | apply anda | apply notf)); done)) | (exact con_compareInts _ _) | (simp [h1]))

theorem cmpB_gt (a b : T_Bar) : decide (cmpB a b > 0) = !aft a b := by
  simp only [cmpB, cmpI, aft]
  by_cases h1 : a.1 < b.1
  · simp [h1]
  · by_cases h2 : a.1 > b.1
    · have h3 : ¬ a.1 = b.1 := by omega
      simp [h1, h2, h3]
    · have h3 : a.1 = b.1 := by omega
      simp only [h1, h2, h3, if_true, if_false]
      by_cases h4 : a.2.1 < b.2.1
      · have : a.2.1 ≤ b.2.1 := by omega
        simp [h4, this]
      · by_cases h5 : a.2.1 > b.2.1
        · have : ¬ a.2.1 ≤ b.2.1 := by omega
          simp [h4, h5, this]
        · have : a.2.1 ≤ b.2.1 := by omega
          simp [h4, h5, this]

theorem goodB_bad (N : Int) (g : Nat → T_Bar) (k : Nat) (h : badB N g k = true) : ∀ n, k < n → goodB N g n = false
  | 0, h' => by omega
  | n + 1, h' => by
    by_cases e : k = n
    · subst e; simp [goodB, h]
    · simp [goodB, goodB_bad N g k h n (by omega)]

theorem idx_lt {b : Bool} {k n : Nat} (h : (b && decide ((k : Int) > 0)) = true) (hk : k < n) : 0 ≤ (k : Int) - 1 ∧ (k : Int) - 1 < n ∧ -9223372036854775808 ≤ (k : Int) - 1 ∧ (k : Int) - 1 ≤ n := by
  simp at h
  omega

theorem con_IsGraph_s (v : T_Graph) (hs : smS s_Graph v) : Con Try.prog 73 0 [] [graphA v] [] (.p (.bool (isGraphF v))) := by
  refine con_start Try.func73 rfl (by kernel_rfl) rfl (fun c hc => ?_)
  have hn : v.2.1.1 ≤ 1048576 := hs.2.1.1
  by_cases hz : inB v.1 1 8 = true ∧ v.2.1.1 ≤ 24
  · rw [show isGraphF v = goodB v.1 v.2.1.2 v.2.1.1 by rw [isGraphF, if_pos hz]]
    have lp : ∀ m k, k + m = v.2.1.1 → goodB v.1 v.2.1.2 k = true → Run Try.prog c 73 [.code (cAt (bodyOf Try.f73) [1, 1, 0, 1, 0, 0]), .inLoop (cAt (bodyOf Try.f73) [1, 1, 0, 1, 0, 0]), .inBlock 0, .code (cAt (bodyOf Try.f73) [1, 1, 1])] (S48 v k) (Post c [] (.p (.bool (goodB v.1 v.2.1.2 v.2.1.1)))) := by
      intro m
      induction m with
      | zero =>
        intro k hk hg
        rw [show goodB v.1 v.2.1.2 v.2.1.1 = true by rw [show v.2.1.1 = k by omega]; exact hg]
        have hd : decide ((k : Int) < (v.2.1.1 : Int)) = false := by simp; omega
        refine path_ok mixed Try.func73 hc (p48d v k) ?_
        simp only [All]
        repeat' (first | exact trivial | with_reducible apply And.intro)
        all_goals (first | omega | rfl | (intros; first | assumption | exact True.intro | rfl | exact absurd (show false = true by assumption) Bool.false_ne_true | ((repeat' (first | assumption | apply anda | apply notf)); done)))
      | succ m ih =>
        intro k hk hg
        have hd : decide ((k : Int) < (v.2.1.1 : Int)) = true := by simp; omega
        have hkn : k < v.2.1.1 := by omega
        cases he : badB v.1 v.2.1.2 k with
        | true =>
          rw [goodB_bad _ _ k he v.2.1.1 (by omega)]
          refine path_ok mixed Try.func73 hc (p48c v k) ?_
          simp only [All]
          repeat' (first | exact trivial | with_reducible apply And.intro)
          all_goals (first | omega | rfl | (intros; first | assumption | exact True.intro | rfl | exact absurd (show false = true by assumption) Bool.false_ne_true | ((repeat' (first | assumption | apply anda | apply notf)); done)) | (intros; exact con_l2After _ _) | (exact he) | (intro h; have := idx_lt h hkn; omega))
        | false =>
          refine piece_ok mixed hc (p48b v k) ?_ (ih (k + 1) (by omega) (by simp [goodB, hg, he]))
          simp only [All]
          repeat' (first | exact trivial | with_reducible apply And.intro)
          all_goals (first | omega | rfl | (intros; first | assumption | exact True.intro | rfl | exact absurd (show false = true by assumption) Bool.false_ne_true | ((repeat' (first | assumption | apply anda | apply notf)); done)) | (intros; exact con_l2After _ _) | (exact he) | (intro h; have := idx_lt h hkn; omega) | (simp [All]))
    refine piece_ok mixed hc (p48a v) ?_ (lp v.2.1.1 0 (by omega) rfl)
    simp only [All]
    repeat' (first | exact trivial | with_reducible apply And.intro)
    all_goals (first | omega | rfl | (intros; first | assumption | exact True.intro | rfl | exact absurd (show false = true by assumption) Bool.false_ne_true | ((repeat' (first | assumption | apply anda | apply notf)); done)) | (exact con_l1In _ _ _) | (simp [hz.1]; omega) | (simp [All]))
  · rw [show isGraphF v = false by rw [isGraphF, if_neg hz]]
    have hb : (bif !inB v.1 1 8 then true else decide ((v.2.1.1 : Int) > 24)) = true := by
      cases hi : inB v.1 1 8 with
      | false => rfl
      | true =>
        have : ¬ v.2.1.1 ≤ 24 := fun h => hz ⟨hi, h⟩
        simp; omega
    refine path_ok mixed Try.func73 hc (p48z v) ?_
    simp only [All]
    repeat' (first | exact trivial | with_reducible apply And.intro)
    all_goals (first | omega | rfl | (intros; first | assumption | exact True.intro | rfl | exact absurd (show false = true by assumption) Bool.false_ne_true | ((repeat' (first | assumption | apply anda | apply notf)); done)) | (exact con_l1In _ _ _))

theorem con_IsGraph_i (v : T_Graph) (hs : smS s_Graph v) : Con Try.prog 77 0 [] [graphA v] [] (.p (.bool (isGraphF v))) := by
  refine con_start Try.func77 rfl (by kernel_rfl) rfl (fun c hc => ?_)
  have hn : v.2.1.1 ≤ 1048576 := hs.2.1.1
  by_cases hz : inB v.1 1 8 = true ∧ v.2.1.1 ≤ 24
  · rw [show isGraphF v = goodB v.1 v.2.1.2 v.2.1.1 by rw [isGraphF, if_pos hz]]
    have lp : ∀ m k, k + m = v.2.1.1 → goodB v.1 v.2.1.2 k = true → Run Try.prog c 77 [.code (cAt (bodyOf Try.f77) [1, 1, 0, 1, 0, 0]), .inLoop (cAt (bodyOf Try.f77) [1, 1, 0, 1, 0, 0]), .inBlock 0, .code (cAt (bodyOf Try.f77) [1, 1, 1])] (S51 v k) (Post c [] (.p (.bool (goodB v.1 v.2.1.2 v.2.1.1)))) := by
      intro m
      induction m with
      | zero =>
        intro k hk hg
        rw [show goodB v.1 v.2.1.2 v.2.1.1 = true by rw [show v.2.1.1 = k by omega]; exact hg]
        have hd : decide ((k : Int) < (v.2.1.1 : Int)) = false := by simp; omega
        refine path_ok mixed Try.func77 hc (p51d v k) ?_
        simp only [All]
        repeat' (first | exact trivial | with_reducible apply And.intro)
        all_goals (first | omega | rfl | (intros; first | assumption | exact True.intro | rfl | exact absurd (show false = true by assumption) Bool.false_ne_true | ((repeat' (first | assumption | apply anda | apply notf)); done)))
      | succ m ih =>
        intro k hk hg
        have hd : decide ((k : Int) < (v.2.1.1 : Int)) = true := by simp; omega
        have hkn : k < v.2.1.1 := by omega
        cases he : badB v.1 v.2.1.2 k with
        | true =>
          rw [goodB_bad _ _ k he v.2.1.1 (by omega)]
          have he2 := he
          rw [badB, ← cmpB_gt] at he2
          refine path_ok mixed Try.func77 hc (p51c v k) ?_
          simp only [All]
          repeat' (first | exact trivial | with_reducible apply And.intro)
          all_goals (first | omega | rfl | (intros; first | assumption | exact True.intro | rfl | exact absurd (show false = true by assumption) Bool.false_ne_true | ((repeat' (first | assumption | apply anda | apply notf)); done)) | (intros; exact con_compareBars _ _) | (exact he2) | (intro h; have := idx_lt h hkn; omega))
        | false =>
          have he2 := he
          rw [badB, ← cmpB_gt] at he2
          refine piece_ok mixed hc (p51b v k) ?_ (ih (k + 1) (by omega) (by simp [goodB, hg, he]))
          simp only [All]
          repeat' (first | exact trivial | with_reducible apply And.intro)
          all_goals (first | omega | rfl | (intros; first | assumption | exact True.intro | rfl | exact absurd (show false = true by assumption) Bool.false_ne_true | ((repeat' (first | assumption | apply anda | apply notf)); done)) | (intros; exact con_compareBars _ _) | (exact he2) | (intro h; have := idx_lt h hkn; omega) | (simp [All]))
    refine piece_ok mixed hc (p51a v) ?_ (lp v.2.1.1 0 (by omega) rfl)
    simp only [All]
    repeat' (first | exact trivial | with_reducible apply And.intro)
    all_goals (first | omega | rfl | (intros; first | assumption | exact True.intro | rfl | exact absurd (show false = true by assumption) Bool.false_ne_true | ((repeat' (first | assumption | apply anda | apply notf)); done)) | (exact con_within _ _ _) | (simp [hz.1]; omega) | (simp [All]))
  · rw [show isGraphF v = false by rw [isGraphF, if_neg hz]]
    have hb : (bif !inB v.1 1 8 then true else decide ((v.2.1.1 : Int) > 24)) = true := by
      cases hi : inB v.1 1 8 with
      | false => rfl
      | true =>
        have : ¬ v.2.1.1 ≤ 24 := fun h => hz ⟨hi, h⟩
        simp; omega
    refine path_ok mixed Try.func77 hc (p51z v) ?_
    simp only [All]
    repeat' (first | exact trivial | with_reducible apply And.intro)
    all_goals (first | omega | rfl | (intros; first | assumption | exact True.intro | rfl | exact absurd (show false = true by assumption) Bool.false_ne_true | ((repeat' (first | assumption | apply anda | apply notf)); done)) | (exact con_within _ _ _))

end Go.Proofs.Ytgdbnnmogddkaaa.Mach
