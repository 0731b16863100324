/- Moving a point by a period: both programs build the same. Conditions: as each theorem says. -/
import Derived.Test.YtgddbgmnehkblaaIsGain
import Derived.Test.YtgddbgmnehkblaaFamGainM
namespace Go.Proofs.Ytgddbgmnehkblaa.Mach
open Go
set_option linter.unusedVariables false
set_option linter.unusedSimpArgs false

def mv1 (b : T_GainBar) (v x c : Int) : Int := if b.1 = b.2.1 then c else if b.1 = v then c + x else if b.2.1 = v then c - x else c
def mX (g : T_GainGraph) (v x : Int) (i : Nat) : Int := mv1 (g.2.1.2 i) v x (g.2.1.2 i).2.2.1
def mY (g : T_GainGraph) (v y : Int) (i : Nat) : Int := mv1 (g.2.1.2 i) v y (g.2.1.2 i).2.2.2.1
def withXY (g : T_GainGraph) (XX YY : Nat → Int) : T_GainGraph := (g.1, (g.2.1.1, fun i => ((g.2.1.2 i).1, (g.2.1.2 i).2.1, XX i, YY i, ())), ())
def moved (g : T_GainGraph) (v x y : Int) : T_GainGraph := withXY g (mX g v x) (mY g v y)
def okSw (g : T_GainGraph) (v x y : Int) : Bool := bif bif bif isGainF g then inB v 0 (g.1 - 1) else false then inB x (-9) 9 else false then inB y (-9) 9 else false
def swF (g : T_GainGraph) (v x y : Int) : Bool := okSw g v x y && isGainF (moved g v x y)
def swR (g : T_GainGraph) (v x y : Int) : T_GainGraph := if swF g v x y = true then moved g v x y else g
def gbOb (w : T_GainBarS) : Ob := ⟨false, 4, w.1, fun i => [.p (.int .i64 (w.2 i).1), .p (.int .i64 (w.2 i).2.1), .p (.int .i64 (w.2 i).2.2.1), .p (.int .i64 (w.2 i).2.2.2.1)]⟩
def boxGa (g : T_GainGraph) : Ob := ⟨true, 2, 1, fun i => [.p (.int .i64 g.1), gainL g]⟩
def gaO (w : T_GainGraph) (j : Nat) : AV := .agg [.p (.int .i64 w.1), .ar 4 j 0 w.2.1.1]
def S23 (g : T_GainGraph) (v x y : Int) (XX YY : Nat → Int) (k : Nat) : St :=
  ⟨[gainA g, .p (.int .i64 v), .p (.int .i64 x), .p (.int .i64 y), .pt 2 0 0 0, .p .any, .p .any, .p .any, .pt 2 1 0 0, .p .any, .pt 2 3 0 0, .p (.int .i64 k)] ++ List.replicate 120 anyA,
   [(0, boxGa g), (1, ⟨true, 2, 1, fun i => [.p (.int .i64 0), .p .nil]⟩), (2, ⟨false, 4, g.2.1.1, fun i => [.p (.int .i64 (g.2.1.2 i).1), .p (.int .i64 (g.2.1.2 i).2.1), .p (.int .i64 (XX i)), .p (.int .i64 (YY i))]⟩), (3, ⟨true, 2, 1, fun i => [.p (.int .i64 g.1), .ar 4 2 0 g.2.1.1]⟩)], 4⟩
def S24 (g : T_GainGraph) (v x y : Int) (k : Nat) : St :=
  ⟨[gainA g, .p (.int .i64 v), .p (.int .i64 x), .p (.int .i64 y), .pt 2 0 0 0, .p .any, .p .any, .p .any, .pt 2 1 0 0, .p .any, .pt 2 3 0 0, .pt 2 4 0 0] ++ List.replicate 35 anyA ++ [gainL g, .p (.int .i64 g.2.1.1), .p (.int .i64 k)] ++ List.replicate 55 anyA,
   [(0, boxGa g), (1, ⟨true, 2, 1, fun i => [.p (.int .i64 0), .p .nil]⟩), (2, gbOb g.2.1), (3, ⟨true, 2, 1, fun i => [.p (.int .i64 g.1), .ar 4 2 0 g.2.1.1]⟩), (4, ⟨true, 2, 1, fun i => [.p (.int .i64 g.1), .ar 4 5 0 k]⟩),
    (5, ⟨false, 4, k, fun i => [.p (.int .i64 (g.2.1.2 i).1), .p (.int .i64 (g.2.1.2 i).2.1), .p (.int .i64 (mX g v x i)), .p (.int .i64 (mY g v y i))]⟩)], 6⟩

theorem p44 (g : T_GainGraph) :
    pathOb Try.prog Try.f44 0 [.reg [oT, oT], .reg [oT, oT, oT, oT, oT, oT, oT, oT]] [.code (bodyOf Try.f44)] (start Try.f44 [] 0 [gainA g]) [224] 1 [(0, gbOb g.2.1)] (gaO g 0) =
    some [((0 : Nat) < 1),
  ((0 : Nat) < 1),
  ((0 : Nat) ≤ 0),
  ((((0 + g.snd.fst.fst) * 32) : Nat) ≤ 140737488355328),
  (((0 + g.snd.fst.fst) : Nat) ≤ 9223372036854775807),
  ((0 : Nat) < 1),
  (((true) = true) → ((1 : Nat) = 1)),
  ((0 : Nat) < 1),
  (((g.fst) : Int) = (g.fst)),
  ((0 : Nat) = 0),
  (((0 + g.snd.fst.fst) : Nat) = (g.snd.fst.fst)),
  ((4 : Nat) = 4),
  (((g.snd.fst.fst) : Nat) ≤ (0 + g.snd.fst.fst)),
  (∀ i : Nat, ((((i) : Nat) < (g.snd.fst.fst)) → (All [] ∧ (([.p (.int .i64 ((g.snd.fst.snd i).fst)), .p (.int .i64 ((g.snd.fst.snd i).snd.fst)), .p (.int .i64 ((g.snd.fst.snd i).snd.snd.fst)), .p (.int .i64 ((g.snd.fst.snd i).snd.snd.snd.fst))] : List AV) = [.p (.int .i64 ((g.snd.fst.snd i).fst)), .p (.int .i64 ((g.snd.fst.snd i).snd.fst)), .p (.int .i64 ((g.snd.fst.snd i).snd.snd.fst)), .p (.int .i64 ((g.snd.fst.snd i).snd.snd.snd.fst))])))),
  (∀ i : Nat, ((((i) : Nat) < (g.snd.fst.fst)) → All []))] := by kernel_rfl
theorem p23z (g : T_GainGraph) (v x y : Int) :
    pathOb Try.prog Try.f23 0 [.reg [oT, oT, oT], .reg [oT, ⟨true, (some ⟨[], [], 1, [(0, gbOb g.2.1)], gaO g 0⟩)⟩, oT, oT], .reg [oT, ⟨true, (some ⟨[], [], 1, [], .p (.bool (isGainF g))⟩)⟩, oT, oT, oT, oT, oT, oT, oT, oT, oT, oT, oT, oT, oT, ⟨true, (some ⟨[], [], 1, [], .p (.bool (inB x (-9) 9))⟩)⟩, oT, oT, oT, oT, ⟨true, (some ⟨[], [], 1, [], .p (.bool (inB y (-9) 9))⟩)⟩, oT, oT], .dec true, .reg [oT, oT, oT]] [.code (bodyOf Try.f23)] (start Try.f23 [] 0 [gainA g, .p (.int .i64 v), .p (.int .i64 x), .p (.int .i64 y)]) [128] 1 [(0, gbOb g.2.1)] (.tup [gaO g 0, .p (.bool false)]) =
    some [((0 : Nat) < 1),
  Con (Try.prog) 44 0 [] [.agg [.p (.int .i64 (g.fst)), .p (.seq true 4 (g.snd.fst.fst) (fun i => [.int .i64 ((g.snd.fst.snd i).fst), .int .i64 ((g.snd.fst.snd i).snd.fst), .int .i64 ((g.snd.fst.snd i).snd.snd.fst), .int .i64 ((g.snd.fst.snd i).snd.snd.snd.fst)]))]] [(0, ⟨false, 4, (g.snd.fst.fst), (fun i => [.p (.int .i64 ((g.snd.fst.snd i).fst)), .p (.int .i64 ((g.snd.fst.snd i).snd.fst)), .p (.int .i64 ((g.snd.fst.snd i).snd.snd.fst)), .p (.int .i64 ((g.snd.fst.snd i).snd.snd.snd.fst))])⟩)] (.agg [.p (.int .i64 (g.fst)), .ar 4 0 0 (g.snd.fst.fst)]),
  ((0 : Nat) < 1),
  (((true) = true) → ((1 : Nat) = 1)),
  ((0 : Nat) < 1),
  Con (Try.prog) 17 0 [] [.agg [.p (.int .i64 (g.fst)), .p (.seq true 4 (g.snd.fst.fst) (fun i => [.int .i64 ((g.snd.fst.snd i).fst), .int .i64 ((g.snd.fst.snd i).snd.fst), .int .i64 ((g.snd.fst.snd i).snd.snd.fst), .int .i64 ((g.snd.fst.snd i).snd.snd.snd.fst)]))]] [] (.p (.bool (isGainF g))),
  (((!!isGainF g) = true) → ((!!isGainF g) = true)),
  (((!isGainF g) = false) → ((!!isGainF g) = true)),
  (((!bif !isGainF g then true else decide (v < 0)) = true) → ((!bif !isGainF g then true else decide (v < 0)) = true)),
  (((!bif !isGainF g then true else decide (v < 0)) = true) → ((0 : Nat) < 1)),
  (((!bif !isGainF g then true else decide (v < 0)) = true) → ((!bif !isGainF g then true else decide (v < 0)) = true)),
  (((!bif !isGainF g then true else decide (v < 0)) = true) → ((!bif !isGainF g then true else decide (v < 0)) = true)),
  (((bif !isGainF g then true else decide (v < 0)) = false) → ((!bif !isGainF g then true else decide (v < 0)) = true)),
  (((!bif bif !isGainF g then true else decide (v < 0) then true else decide (v ≥ g.fst)) = true) → ((!bif bif !isGainF g then true else decide (v < 0) then true else decide (v ≥ g.fst)) = true)),
  (((!bif bif !isGainF g then true else decide (v < 0) then true else decide (v ≥ g.fst)) = true) → Con (Try.prog) 36 0 [] [.p (.int .i64 (x)), .p (.int .i64 (-9)), .p (.int .i64 9)] [] (.p (.bool (inB x (-9) 9)))),
  (((!bif bif !isGainF g then true else decide (v < 0) then true else decide (v ≥ g.fst)) = true) → ((!bif bif !isGainF g then true else decide (v < 0) then true else decide (v ≥ g.fst)) = true)),
  (((bif bif !isGainF g then true else decide (v < 0) then true else decide (v ≥ g.fst)) = false) → ((!bif bif !isGainF g then true else decide (v < 0) then true else decide (v ≥ g.fst)) = true)),
  (((!bif bif bif !isGainF g then true else decide (v < 0) then true else decide (v ≥ g.fst) then true else !inB x (-9) 9) = true) → ((!bif bif bif !isGainF g then true else decide (v < 0) then true else decide (v ≥ g.fst) then true else !inB x (-9) 9) = true)),
  (((!bif bif bif !isGainF g then true else decide (v < 0) then true else decide (v ≥ g.fst) then true else !inB x (-9) 9) = true) → Con (Try.prog) 36 0 [] [.p (.int .i64 (y)), .p (.int .i64 (-9)), .p (.int .i64 9)] [] (.p (.bool (inB y (-9) 9)))),
  (((!bif bif bif !isGainF g then true else decide (v < 0) then true else decide (v ≥ g.fst) then true else !inB x (-9) 9) = true) → ((!bif bif bif !isGainF g then true else decide (v < 0) then true else decide (v ≥ g.fst) then true else !inB x (-9) 9) = true)),
  (((bif bif bif !isGainF g then true else decide (v < 0) then true else decide (v ≥ g.fst) then true else !inB x (-9) 9) = false) → ((!bif bif bif !isGainF g then true else decide (v < 0) then true else decide (v ≥ g.fst) then true else !inB x (-9) 9) = true)),
  ((bif bif bif bif !isGainF g then true else decide (v < 0) then true else decide (v ≥ g.fst) then true else !inB x (-9) 9 then true else !inB y (-9) 9) = true),
  ((0 : Nat) < 1),
  ((0 : Nat) < 1),
  (((true) = true) → ((1 : Nat) = 1)),
  ((0 : Nat) < 1),
  (((g.fst) : Int) = (g.fst)),
  ((0 : Nat) = 0),
  (((g.snd.fst.fst) : Nat) = (g.snd.fst.fst)),
  (false = false),
  ((4 : Nat) = 4),
  (((g.snd.fst.fst) : Nat) ≤ (g.snd.fst.fst)),
  (∀ i : Nat, ((((i) : Nat) < (g.snd.fst.fst)) → (All [] ∧ (([.p (.int .i64 ((g.snd.fst.snd i).fst)), .p (.int .i64 ((g.snd.fst.snd i).snd.fst)), .p (.int .i64 ((g.snd.fst.snd i).snd.snd.fst)), .p (.int .i64 ((g.snd.fst.snd i).snd.snd.snd.fst))] : List AV) = [.p (.int .i64 ((g.snd.fst.snd i).fst)), .p (.int .i64 ((g.snd.fst.snd i).snd.fst)), .p (.int .i64 ((g.snd.fst.snd i).snd.snd.fst)), .p (.int .i64 ((g.snd.fst.snd i).snd.snd.snd.fst))])))),
  (∀ i : Nat, ((((i) : Nat) < (g.snd.fst.fst)) → All []))] := by kernel_rfl
theorem p23a (g : T_GainGraph) (v x y : Int) :
    pieceOb Try.prog 0 [.reg [oT, oT, oT], .reg [oT, ⟨true, (some ⟨[], [], 1, [(0, gbOb g.2.1)], gaO g 0⟩)⟩, oT, oT], .reg [oT, ⟨true, (some ⟨[], [], 1, [], .p (.bool (isGainF g))⟩)⟩, oT, oT, oT, oT, oT, oT, oT, oT, oT, oT, oT, oT, oT, ⟨true, (some ⟨[], [], 1, [], .p (.bool (inB x (-9) 9))⟩)⟩, oT, oT, oT, oT, ⟨true, (some ⟨[], [], 1, [], .p (.bool (inB y (-9) 9))⟩)⟩, oT, oT], .dec false, .reg [oT], .head] [.code (bodyOf Try.f23)] (start Try.f23 [] 0 [gainA g, .p (.int .i64 v), .p (.int .i64 x), .p (.int .i64 y)]) [0, 32, 128, 160] 1 (S23 g v x y (fun i => (g.2.1.2 i).2.2.1) (fun i => (g.2.1.2 i).2.2.2.1) 0) =
    some ([.code (cAt (bodyOf Try.f23) [1, 1, 1, 0, 1, 0, 0]), .inLoop (cAt (bodyOf Try.f23) [1, 1, 1, 0, 1, 0, 0]), .inBlock 0, .code (cAt (bodyOf Try.f23) [1, 1, 1, 1])], [((0 : Nat) < 1),
  Con (Try.prog) 44 0 [] [.agg [.p (.int .i64 (g.fst)), .p (.seq true 4 (g.snd.fst.fst) (fun i => [.int .i64 ((g.snd.fst.snd i).fst), .int .i64 ((g.snd.fst.snd i).snd.fst), .int .i64 ((g.snd.fst.snd i).snd.snd.fst), .int .i64 ((g.snd.fst.snd i).snd.snd.snd.fst)]))]] [(0, ⟨false, 4, (g.snd.fst.fst), (fun i => [.p (.int .i64 ((g.snd.fst.snd i).fst)), .p (.int .i64 ((g.snd.fst.snd i).snd.fst)), .p (.int .i64 ((g.snd.fst.snd i).snd.snd.fst)), .p (.int .i64 ((g.snd.fst.snd i).snd.snd.snd.fst))])⟩)] (.agg [.p (.int .i64 (g.fst)), .ar 4 0 0 (g.snd.fst.fst)]),
  ((0 : Nat) < 1),
  (((true) = true) → ((1 : Nat) = 1)),
  ((0 : Nat) < 1),
  Con (Try.prog) 17 0 [] [.agg [.p (.int .i64 (g.fst)), .p (.seq true 4 (g.snd.fst.fst) (fun i => [.int .i64 ((g.snd.fst.snd i).fst), .int .i64 ((g.snd.fst.snd i).snd.fst), .int .i64 ((g.snd.fst.snd i).snd.snd.fst), .int .i64 ((g.snd.fst.snd i).snd.snd.snd.fst)]))]] [] (.p (.bool (isGainF g))),
  (((!!isGainF g) = true) → ((!!isGainF g) = true)),
  (((!isGainF g) = false) → ((!!isGainF g) = true)),
  (((!bif !isGainF g then true else decide (v < 0)) = true) → ((!bif !isGainF g then true else decide (v < 0)) = true)),
  (((!bif !isGainF g then true else decide (v < 0)) = true) → ((0 : Nat) < 1)),
  (((!bif !isGainF g then true else decide (v < 0)) = true) → ((!bif !isGainF g then true else decide (v < 0)) = true)),
  (((!bif !isGainF g then true else decide (v < 0)) = true) → ((!bif !isGainF g then true else decide (v < 0)) = true)),
  (((bif !isGainF g then true else decide (v < 0)) = false) → ((!bif !isGainF g then true else decide (v < 0)) = true)),
  (((!bif bif !isGainF g then true else decide (v < 0) then true else decide (v ≥ g.fst)) = true) → ((!bif bif !isGainF g then true else decide (v < 0) then true else decide (v ≥ g.fst)) = true)),
  (((!bif bif !isGainF g then true else decide (v < 0) then true else decide (v ≥ g.fst)) = true) → Con (Try.prog) 36 0 [] [.p (.int .i64 (x)), .p (.int .i64 (-9)), .p (.int .i64 9)] [] (.p (.bool (inB x (-9) 9)))),
  (((!bif bif !isGainF g then true else decide (v < 0) then true else decide (v ≥ g.fst)) = true) → ((!bif bif !isGainF g then true else decide (v < 0) then true else decide (v ≥ g.fst)) = true)),
  (((bif bif !isGainF g then true else decide (v < 0) then true else decide (v ≥ g.fst)) = false) → ((!bif bif !isGainF g then true else decide (v < 0) then true else decide (v ≥ g.fst)) = true)),
  (((!bif bif bif !isGainF g then true else decide (v < 0) then true else decide (v ≥ g.fst) then true else !inB x (-9) 9) = true) → ((!bif bif bif !isGainF g then true else decide (v < 0) then true else decide (v ≥ g.fst) then true else !inB x (-9) 9) = true)),
  (((!bif bif bif !isGainF g then true else decide (v < 0) then true else decide (v ≥ g.fst) then true else !inB x (-9) 9) = true) → Con (Try.prog) 36 0 [] [.p (.int .i64 (y)), .p (.int .i64 (-9)), .p (.int .i64 9)] [] (.p (.bool (inB y (-9) 9)))),
  (((!bif bif bif !isGainF g then true else decide (v < 0) then true else decide (v ≥ g.fst) then true else !inB x (-9) 9) = true) → ((!bif bif bif !isGainF g then true else decide (v < 0) then true else decide (v ≥ g.fst) then true else !inB x (-9) 9) = true)),
  (((bif bif bif !isGainF g then true else decide (v < 0) then true else decide (v ≥ g.fst) then true else !inB x (-9) 9) = false) → ((!bif bif bif !isGainF g then true else decide (v < 0) then true else decide (v ≥ g.fst) then true else !inB x (-9) 9) = true)),
  ((bif bif bif bif !isGainF g then true else decide (v < 0) then true else decide (v ≥ g.fst) then true else !inB x (-9) 9 then true else !inB y (-9) 9) = false),
  (((g.fst) : Int) = (g.fst)),
  (((g.snd.fst.fst) : Nat) = (g.snd.fst.fst)),
  (∀ i : Nat, ((((i) : Nat) < (g.snd.fst.fst)) → (([.int .i64 ((g.snd.fst.snd i).fst), .int .i64 ((g.snd.fst.snd i).snd.fst), .int .i64 ((g.snd.fst.snd i).snd.snd.fst), .int .i64 ((g.snd.fst.snd i).snd.snd.snd.fst)] : List PV) = [.int .i64 ((g.snd.fst.snd i).fst), .int .i64 ((g.snd.fst.snd i).snd.fst), .int .i64 ((g.snd.fst.snd i).snd.snd.fst), .int .i64 ((g.snd.fst.snd i).snd.snd.snd.fst)]))),
  (((v) : Int) = (v)),
  (((x) : Int) = (x)),
  (((y) : Int) = (y)),
  ((0 : Nat) = 0),
  ((0 : Nat) = 0),
  ((0 : Nat) = 0),
  ((0 : Int) = ((↑0 : Int))),
  ((([AV.p (PV.int IntKind.i64 g.fst), AV.p (PV.seq true 4 g.snd.fst.fst fun i => [PV.int IntKind.i64 (g.snd.fst.snd i).fst, PV.int IntKind.i64 (g.snd.fst.snd i).snd.fst, PV.int IntKind.i64 (g.snd.fst.snd i).snd.snd.fst, PV.int IntKind.i64 (g.snd.fst.snd i).snd.snd.snd.fst])].length) : Nat) = 2),
  ((1 : Nat) ≤ 1),
  ((1 : Nat) ≤ 1),
  (((g.fst) : Int) = (g.fst)),
  (((g.snd.fst.fst) : Nat) = (g.snd.fst.fst)),
  (∀ i : Nat, ((((i) : Nat) < (g.snd.fst.fst)) → (([.int .i64 ((g.snd.fst.snd i).fst), .int .i64 ((g.snd.fst.snd i).snd.fst), .int .i64 ((g.snd.fst.snd i).snd.snd.fst), .int .i64 ((g.snd.fst.snd i).snd.snd.snd.fst)] : List PV) = [.int .i64 ((g.snd.fst.snd i).fst), .int .i64 ((g.snd.fst.snd i).snd.fst), .int .i64 ((g.snd.fst.snd i).snd.snd.fst), .int .i64 ((g.snd.fst.snd i).snd.snd.snd.fst)]))),
  ((((List.map (fun v => AV.p (absV v)) [Value.int IntKind.i64 0, Value.slice none 0 0]).length) : Nat) = 2),
  ((1 : Nat) ≤ 1),
  ((1 : Nat) ≤ 1),
  ((0 : Int) = 0),
  ((4 : Nat) = 4),
  (((g.snd.fst.fst) : Nat) ≤ (g.snd.fst.fst)),
  (∀ i : Nat, ((((i) : Nat) < (g.snd.fst.fst)) → (All [] ∧ (([.p (.int .i64 ((g.snd.fst.snd i).fst)), .p (.int .i64 ((g.snd.fst.snd i).snd.fst)), .p (.int .i64 ((g.snd.fst.snd i).snd.snd.fst)), .p (.int .i64 ((g.snd.fst.snd i).snd.snd.snd.fst))] : List AV) = [.p (.int .i64 ((g.snd.fst.snd i).fst)), .p (.int .i64 ((g.snd.fst.snd i).snd.fst)), .p (.int .i64 ((g.snd.fst.snd i).snd.snd.fst)), .p (.int .i64 ((g.snd.fst.snd i).snd.snd.snd.fst))])))),
  ((((List.map (fun v => AV.p (absV v)) [Value.int IntKind.i64 0, Value.slice none 0 0]).length) : Nat) = 2),
  ((1 : Nat) ≤ 1),
  ((1 : Nat) ≤ 1),
  (((g.fst) : Int) = (g.fst)),
  ((0 : Nat) = 0),
  (((g.snd.fst.fst) : Nat) = (g.snd.fst.fst))]) := by kernel_rfl
theorem p23b1 (g : T_GainGraph) (v x y : Int) (XX YY : Nat → Int) (k : Nat) :
    pieceOb Try.prog 0 [.reg [oT, oT, oT, oT, oT], .dec true, .reg [oT, oT, oT, oT, oT, oT, oT, oT, oT, oT, oT, oT, oT], .dec true, .reg [oT, oT, oT], .head] [.code (cAt (bodyOf Try.f23) [1, 1, 1, 0, 1, 0, 0]), .inLoop (cAt (bodyOf Try.f23) [1, 1, 1, 0, 1, 0, 0]), .inBlock 0, .code (cAt (bodyOf Try.f23) [1, 1, 1, 1])] (S23 g v x y XX YY k) [0, 1, 2, 3] 1 (S23 g v x y XX YY (k + 1)) =
    some ([.code (cAt (bodyOf Try.f23) [1, 1, 1, 0, 1, 0, 0]), .inLoop (cAt (bodyOf Try.f23) [1, 1, 1, 0, 1, 0, 0]), .inBlock 0, .code (cAt (bodyOf Try.f23) [1, 1, 1, 1])], [((0 : Nat) < 1),
  ((decide ((↑k : Int) < (↑g.snd.fst.fst : Int))) = true),
  ((0 : Nat) < 1),
  ((0 : Int) ≤ ((↑k : Int))),
  ((((↑k : Int)) : Int) < ((↑g.snd.fst.fst : Int))),
  (((k) : Nat) < (g.snd.fst.fst)),
  ((0 : Nat) < 1),
  ((0 : Int) ≤ ((↑k : Int))),
  ((((↑k : Int)) : Int) < ((↑g.snd.fst.fst : Int))),
  (((k) : Nat) < (g.snd.fst.fst)),
  (((g.snd.fst.snd k).fst == (g.snd.fst.snd k).snd.fst) = true),
  (((-9223372036854775808) : Int) ≤ ((↑k : Int) + 1)),
  ((((↑k : Int) + 1) : Int) ≤ 9223372036854775807),
  (((g.fst) : Int) = (g.fst)),
  (((g.snd.fst.fst) : Nat) = (g.snd.fst.fst)),
  (∀ i : Nat, ((((i) : Nat) < (g.snd.fst.fst)) → (([.int .i64 ((g.snd.fst.snd i).fst), .int .i64 ((g.snd.fst.snd i).snd.fst), .int .i64 ((g.snd.fst.snd i).snd.snd.fst), .int .i64 ((g.snd.fst.snd i).snd.snd.snd.fst)] : List PV) = [.int .i64 ((g.snd.fst.snd i).fst), .int .i64 ((g.snd.fst.snd i).snd.fst), .int .i64 ((g.snd.fst.snd i).snd.snd.fst), .int .i64 ((g.snd.fst.snd i).snd.snd.snd.fst)]))),
  (((v) : Int) = (v)),
  (((x) : Int) = (x)),
  (((y) : Int) = (y)),
  ((0 : Nat) = 0),
  ((0 : Nat) = 0),
  ((0 : Nat) = 0),
  ((((↑k : Int) + 1) : Int) = ((↑(k + 1) : Int))),
  ((2 : Nat) = 2),
  ((1 : Nat) ≤ 1),
  ((1 : Nat) ≤ 1),
  (((g.fst) : Int) = (g.fst)),
  (((g.snd.fst.fst) : Nat) = (g.snd.fst.fst)),
  (∀ i : Nat, ((((i) : Nat) < (g.snd.fst.fst)) → (([.int .i64 ((g.snd.fst.snd i).fst), .int .i64 ((g.snd.fst.snd i).snd.fst), .int .i64 ((g.snd.fst.snd i).snd.snd.fst), .int .i64 ((g.snd.fst.snd i).snd.snd.snd.fst)] : List PV) = [.int .i64 ((g.snd.fst.snd i).fst), .int .i64 ((g.snd.fst.snd i).snd.fst), .int .i64 ((g.snd.fst.snd i).snd.snd.fst), .int .i64 ((g.snd.fst.snd i).snd.snd.snd.fst)]))),
  ((2 : Nat) = 2),
  ((1 : Nat) ≤ 1),
  ((1 : Nat) ≤ 1),
  ((0 : Int) = 0),
  ((4 : Nat) = 4),
  (((g.snd.fst.fst) : Nat) ≤ (g.snd.fst.fst)),
  (∀ i : Nat, ((((i) : Nat) < (g.snd.fst.fst)) → (All [] ∧ (([.p (.int .i64 ((g.snd.fst.snd i).fst)), .p (.int .i64 ((g.snd.fst.snd i).snd.fst)), .p (.int .i64 (XX i)), .p (.int .i64 (YY i))] : List AV) = [.p (.int .i64 ((g.snd.fst.snd i).fst)), .p (.int .i64 ((g.snd.fst.snd i).snd.fst)), .p (.int .i64 (XX i)), .p (.int .i64 (YY i))])))),
  ((2 : Nat) = 2),
  ((1 : Nat) ≤ 1),
  ((1 : Nat) ≤ 1),
  (((g.fst) : Int) = (g.fst)),
  ((0 : Nat) = 0),
  (((g.snd.fst.fst) : Nat) = (g.snd.fst.fst))]) := by kernel_rfl
theorem p23b2 (g : T_GainGraph) (v x y : Int) (XX YY : Nat → Int) (k : Nat) :
    pieceOb Try.prog 0 [.reg [oT, oT, oT, oT, oT], .dec true, .reg [oT, oT, oT, oT, oT, oT, oT, oT, oT, oT, oT, oT, oT], .dec false, .reg [oT, oT, oT, oT, oT, oT, oT, oT], .dec true, .reg [oT, oT, oT, oT, oT, oT, oT, oT, oT, oT, oT, oT, oT, oT], .head] [.code (cAt (bodyOf Try.f23) [1, 1, 1, 0, 1, 0, 0]), .inLoop (cAt (bodyOf Try.f23) [1, 1, 1, 0, 1, 0, 0]), .inBlock 0, .code (cAt (bodyOf Try.f23) [1, 1, 1, 1])] (S23 g v x y XX YY k) [0, 1, 2, 3] 1 (S23 g v x y (fun i => if i = k then XX k + x else XX i) YY k) =
    some ([.code (cAt (bodyOf Try.f23) [1, 1, 1, 0, 1, 0, 0, 1, 0, 0, 1, 0, 1, 0, 1]), .code (cAt (bodyOf Try.f23) [1, 1, 1, 0, 1, 0, 0, 1, 0, 0, 1, 1]), .inBlock 1, .code (cAt (bodyOf Try.f23) [1, 1, 1, 0, 1, 0, 0, 1, 1]), .inLoop (cAt (bodyOf Try.f23) [1, 1, 1, 0, 1, 0, 0]), .inBlock 0, .code (cAt (bodyOf Try.f23) [1, 1, 1, 1])], [((0 : Nat) < 1),
  ((decide ((↑k : Int) < (↑g.snd.fst.fst : Int))) = true),
  ((0 : Nat) < 1),
  ((0 : Int) ≤ ((↑k : Int))),
  ((((↑k : Int)) : Int) < ((↑g.snd.fst.fst : Int))),
  (((k) : Nat) < (g.snd.fst.fst)),
  ((0 : Nat) < 1),
  ((0 : Int) ≤ ((↑k : Int))),
  ((((↑k : Int)) : Int) < ((↑g.snd.fst.fst : Int))),
  (((k) : Nat) < (g.snd.fst.fst)),
  (((g.snd.fst.snd k).fst == (g.snd.fst.snd k).snd.fst) = false),
  ((0 : Nat) < 1),
  ((0 : Int) ≤ ((↑k : Int))),
  ((((↑k : Int)) : Int) < ((↑g.snd.fst.fst : Int))),
  (((k) : Nat) < (g.snd.fst.fst)),
  (((g.snd.fst.snd k).fst == v) = true),
  ((0 : Nat) < 1),
  ((0 : Nat) < 1),
  ((0 : Int) ≤ ((↑k : Int))),
  ((((↑k : Int)) : Int) < ((↑g.snd.fst.fst : Int))),
  (((k) : Nat) < (g.snd.fst.fst)),
  (((-9223372036854775808) : Int) ≤ (XX k + x)),
  (((XX k + x) : Int) ≤ 9223372036854775807),
  ((0 : Int) ≤ ((↑k : Int))),
  ((((↑k : Int)) : Int) < ((↑g.snd.fst.fst : Int))),
  (((k) : Nat) < (g.snd.fst.fst)),
  (((false) = true) → (((g.snd.fst.fst) : Nat) = 1)),
  (((g.fst) : Int) = (g.fst)),
  (((g.snd.fst.fst) : Nat) = (g.snd.fst.fst)),
  (∀ i : Nat, ((((i) : Nat) < (g.snd.fst.fst)) → (([.int .i64 ((g.snd.fst.snd i).fst), .int .i64 ((g.snd.fst.snd i).snd.fst), .int .i64 ((g.snd.fst.snd i).snd.snd.fst), .int .i64 ((g.snd.fst.snd i).snd.snd.snd.fst)] : List PV) = [.int .i64 ((g.snd.fst.snd i).fst), .int .i64 ((g.snd.fst.snd i).snd.fst), .int .i64 ((g.snd.fst.snd i).snd.snd.fst), .int .i64 ((g.snd.fst.snd i).snd.snd.snd.fst)]))),
  (((v) : Int) = (v)),
  (((x) : Int) = (x)),
  (((y) : Int) = (y)),
  ((0 : Nat) = 0),
  ((0 : Nat) = 0),
  ((0 : Nat) = 0),
  ((((↑k : Int)) : Int) = ((↑k : Int))),
  ((2 : Nat) = 2),
  ((1 : Nat) ≤ 1),
  ((1 : Nat) ≤ 1),
  (((g.fst) : Int) = (g.fst)),
  (((g.snd.fst.fst) : Nat) = (g.snd.fst.fst)),
  (∀ i : Nat, ((((i) : Nat) < (g.snd.fst.fst)) → (([.int .i64 ((g.snd.fst.snd i).fst), .int .i64 ((g.snd.fst.snd i).snd.fst), .int .i64 ((g.snd.fst.snd i).snd.snd.fst), .int .i64 ((g.snd.fst.snd i).snd.snd.snd.fst)] : List PV) = [.int .i64 ((g.snd.fst.snd i).fst), .int .i64 ((g.snd.fst.snd i).snd.fst), .int .i64 ((g.snd.fst.snd i).snd.snd.fst), .int .i64 ((g.snd.fst.snd i).snd.snd.snd.fst)]))),
  ((2 : Nat) = 2),
  ((1 : Nat) ≤ 1),
  ((1 : Nat) ≤ 1),
  ((0 : Int) = 0),
  ((4 : Nat) = 4),
  (((g.snd.fst.fst) : Nat) ≤ (g.snd.fst.fst)),
  (∀ i : Nat, ((((i) : Nat) < (g.snd.fst.fst)) → (All (cvtL false [(2, ⟨false, 4, (g.snd.fst.fst), (fun i_1 => (if (i_1 = k) then [.p (.int .i64 ((g.snd.fst.snd k).fst)), .p (.int .i64 ((g.snd.fst.snd k).snd.fst)), .p (.int .i64 (XX k + x)), .p (.int .i64 (YY k))] else [.p (.int .i64 ((g.snd.fst.snd i_1).fst)), .p (.int .i64 ((g.snd.fst.snd i_1).snd.fst)), .p (.int .i64 (XX i_1)), .p (.int .i64 (YY i_1))]))⟩), (0, ⟨true, 2, 1, (fun i_1 => [.p (.int .i64 (g.fst)), .p (.seq true 4 (g.snd.fst.fst) (fun i_2 => [.int .i64 ((g.snd.fst.snd i_2).fst), .int .i64 ((g.snd.fst.snd i_2).snd.fst), .int .i64 ((g.snd.fst.snd i_2).snd.snd.fst), .int .i64 ((g.snd.fst.snd i_2).snd.snd.snd.fst)]))])⟩), (1, ⟨true, 2, 1, (fun i_1 => [.p (.int .i64 0), .p (.nil)])⟩), (3, ⟨true, 2, 1, (fun i_1 => [.p (.int .i64 (g.fst)), .ar 4 2 0 (g.snd.fst.fst)])⟩)] [0, 1, 2, 3] 1 (if (i = k) then [.p (.int .i64 ((g.snd.fst.snd k).fst)), .p (.int .i64 ((g.snd.fst.snd k).snd.fst)), .p (.int .i64 (XX k + x)), .p (.int .i64 (YY k))] else [.p (.int .i64 ((g.snd.fst.snd i).fst)), .p (.int .i64 ((g.snd.fst.snd i).snd.fst)), .p (.int .i64 (XX i)), .p (.int .i64 (YY i))])).2 ∧ (((cvtL false [(2, ⟨false, 4, (g.snd.fst.fst), (fun i_1 => (if (i_1 = k) then [.p (.int .i64 ((g.snd.fst.snd k).fst)), .p (.int .i64 ((g.snd.fst.snd k).snd.fst)), .p (.int .i64 (XX k + x)), .p (.int .i64 (YY k))] else [.p (.int .i64 ((g.snd.fst.snd i_1).fst)), .p (.int .i64 ((g.snd.fst.snd i_1).snd.fst)), .p (.int .i64 (XX i_1)), .p (.int .i64 (YY i_1))]))⟩), (0, ⟨true, 2, 1, (fun i_1 => [.p (.int .i64 (g.fst)), .p (.seq true 4 (g.snd.fst.fst) (fun i_2 => [.int .i64 ((g.snd.fst.snd i_2).fst), .int .i64 ((g.snd.fst.snd i_2).snd.fst), .int .i64 ((g.snd.fst.snd i_2).snd.snd.fst), .int .i64 ((g.snd.fst.snd i_2).snd.snd.snd.fst)]))])⟩), (1, ⟨true, 2, 1, (fun i_1 => [.p (.int .i64 0), .p (.nil)])⟩), (3, ⟨true, 2, 1, (fun i_1 => [.p (.int .i64 (g.fst)), .ar 4 2 0 (g.snd.fst.fst)])⟩)] [0, 1, 2, 3] 1 (if (i = k) then [.p (.int .i64 ((g.snd.fst.snd k).fst)), .p (.int .i64 ((g.snd.fst.snd k).snd.fst)), .p (.int .i64 (XX k + x)), .p (.int .i64 (YY k))] else [.p (.int .i64 ((g.snd.fst.snd i).fst)), .p (.int .i64 ((g.snd.fst.snd i).snd.fst)), .p (.int .i64 (XX i)), .p (.int .i64 (YY i))])).1 : List AV) = [.p (.int .i64 ((g.snd.fst.snd i).fst)), .p (.int .i64 ((g.snd.fst.snd i).snd.fst)), .p (.int .i64 (if i = k then XX k + x else XX i)), .p (.int .i64 (YY i))])))),
  ((2 : Nat) = 2),
  ((1 : Nat) ≤ 1),
  ((1 : Nat) ≤ 1),
  (((g.fst) : Int) = (g.fst)),
  ((0 : Nat) = 0),
  (((g.snd.fst.fst) : Nat) = (g.snd.fst.fst))]) := by kernel_rfl
theorem p23b2y (g : T_GainGraph) (v x y : Int) (XX YY : Nat → Int) (k : Nat) :
    pieceOb Try.prog 0 [.reg [oT, oT, oT, oT, oT, oT, oT, oT, oT, oT, oT, oT, oT, oT], .head] [.code (cAt (bodyOf Try.f23) [1, 1, 1, 0, 1, 0, 0, 1, 0, 0, 1, 0, 1, 0, 1]), .code (cAt (bodyOf Try.f23) [1, 1, 1, 0, 1, 0, 0, 1, 0, 0, 1, 1]), .inBlock 1, .code (cAt (bodyOf Try.f23) [1, 1, 1, 0, 1, 0, 0, 1, 1]), .inLoop (cAt (bodyOf Try.f23) [1, 1, 1, 0, 1, 0, 0]), .inBlock 0, .code (cAt (bodyOf Try.f23) [1, 1, 1, 1])] (S23 g v x y XX YY k) [0, 1, 2, 3] 1 (S23 g v x y XX (fun i => if i = k then YY k + y else YY i) k) =
    some ([.code (cAt (bodyOf Try.f23) [1, 1, 1, 0, 1, 0, 0, 1, 0, 0, 1, 1, 0]), .code (cAt (bodyOf Try.f23) [1, 1, 1, 0, 1, 0, 0, 1, 0, 0, 1, 1, 1]), .inBlock 1, .code (cAt (bodyOf Try.f23) [1, 1, 1, 0, 1, 0, 0, 1, 1]), .inLoop (cAt (bodyOf Try.f23) [1, 1, 1, 0, 1, 0, 0]), .inBlock 0, .code (cAt (bodyOf Try.f23) [1, 1, 1, 1])], [((0 : Nat) < 1),
  ((0 : Nat) < 1),
  ((0 : Int) ≤ ((↑k : Int))),
  ((((↑k : Int)) : Int) < ((↑g.snd.fst.fst : Int))),
  (((k) : Nat) < (g.snd.fst.fst)),
  (((-9223372036854775808) : Int) ≤ (YY k + y)),
  (((YY k + y) : Int) ≤ 9223372036854775807),
  ((0 : Int) ≤ ((↑k : Int))),
  ((((↑k : Int)) : Int) < ((↑g.snd.fst.fst : Int))),
  (((k) : Nat) < (g.snd.fst.fst)),
  (((false) = true) → (((g.snd.fst.fst) : Nat) = 1)),
  (((g.fst) : Int) = (g.fst)),
  (((g.snd.fst.fst) : Nat) = (g.snd.fst.fst)),
  (∀ i : Nat, ((((i) : Nat) < (g.snd.fst.fst)) → (([.int .i64 ((g.snd.fst.snd i).fst), .int .i64 ((g.snd.fst.snd i).snd.fst), .int .i64 ((g.snd.fst.snd i).snd.snd.fst), .int .i64 ((g.snd.fst.snd i).snd.snd.snd.fst)] : List PV) = [.int .i64 ((g.snd.fst.snd i).fst), .int .i64 ((g.snd.fst.snd i).snd.fst), .int .i64 ((g.snd.fst.snd i).snd.snd.fst), .int .i64 ((g.snd.fst.snd i).snd.snd.snd.fst)]))),
  (((v) : Int) = (v)),
  (((x) : Int) = (x)),
  (((y) : Int) = (y)),
  ((0 : Nat) = 0),
  ((0 : Nat) = 0),
  ((0 : Nat) = 0),
  ((((↑k : Int)) : Int) = ((↑k : Int))),
  ((2 : Nat) = 2),
  ((1 : Nat) ≤ 1),
  ((1 : Nat) ≤ 1),
  (((g.fst) : Int) = (g.fst)),
  (((g.snd.fst.fst) : Nat) = (g.snd.fst.fst)),
  (∀ i : Nat, ((((i) : Nat) < (g.snd.fst.fst)) → (([.int .i64 ((g.snd.fst.snd i).fst), .int .i64 ((g.snd.fst.snd i).snd.fst), .int .i64 ((g.snd.fst.snd i).snd.snd.fst), .int .i64 ((g.snd.fst.snd i).snd.snd.snd.fst)] : List PV) = [.int .i64 ((g.snd.fst.snd i).fst), .int .i64 ((g.snd.fst.snd i).snd.fst), .int .i64 ((g.snd.fst.snd i).snd.snd.fst), .int .i64 ((g.snd.fst.snd i).snd.snd.snd.fst)]))),
  ((2 : Nat) = 2),
  ((1 : Nat) ≤ 1),
  ((1 : Nat) ≤ 1),
  ((0 : Int) = 0),
  ((4 : Nat) = 4),
  (((g.snd.fst.fst) : Nat) ≤ (g.snd.fst.fst)),
  (∀ i : Nat, ((((i) : Nat) < (g.snd.fst.fst)) → (All (cvtL false [(2, ⟨false, 4, (g.snd.fst.fst), (fun i_1 => (if (i_1 = k) then [.p (.int .i64 ((g.snd.fst.snd k).fst)), .p (.int .i64 ((g.snd.fst.snd k).snd.fst)), .p (.int .i64 (XX k)), .p (.int .i64 (YY k + y))] else [.p (.int .i64 ((g.snd.fst.snd i_1).fst)), .p (.int .i64 ((g.snd.fst.snd i_1).snd.fst)), .p (.int .i64 (XX i_1)), .p (.int .i64 (YY i_1))]))⟩), (0, ⟨true, 2, 1, (fun i_1 => [.p (.int .i64 (g.fst)), .p (.seq true 4 (g.snd.fst.fst) (fun i_2 => [.int .i64 ((g.snd.fst.snd i_2).fst), .int .i64 ((g.snd.fst.snd i_2).snd.fst), .int .i64 ((g.snd.fst.snd i_2).snd.snd.fst), .int .i64 ((g.snd.fst.snd i_2).snd.snd.snd.fst)]))])⟩), (1, ⟨true, 2, 1, (fun i_1 => [.p (.int .i64 0), .p (.nil)])⟩), (3, ⟨true, 2, 1, (fun i_1 => [.p (.int .i64 (g.fst)), .ar 4 2 0 (g.snd.fst.fst)])⟩)] [0, 1, 2, 3] 1 (if (i = k) then [.p (.int .i64 ((g.snd.fst.snd k).fst)), .p (.int .i64 ((g.snd.fst.snd k).snd.fst)), .p (.int .i64 (XX k)), .p (.int .i64 (YY k + y))] else [.p (.int .i64 ((g.snd.fst.snd i).fst)), .p (.int .i64 ((g.snd.fst.snd i).snd.fst)), .p (.int .i64 (XX i)), .p (.int .i64 (YY i))])).2 ∧ (((cvtL false [(2, ⟨false, 4, (g.snd.fst.fst), (fun i_1 => (if (i_1 = k) then [.p (.int .i64 ((g.snd.fst.snd k).fst)), .p (.int .i64 ((g.snd.fst.snd k).snd.fst)), .p (.int .i64 (XX k)), .p (.int .i64 (YY k + y))] else [.p (.int .i64 ((g.snd.fst.snd i_1).fst)), .p (.int .i64 ((g.snd.fst.snd i_1).snd.fst)), .p (.int .i64 (XX i_1)), .p (.int .i64 (YY i_1))]))⟩), (0, ⟨true, 2, 1, (fun i_1 => [.p (.int .i64 (g.fst)), .p (.seq true 4 (g.snd.fst.fst) (fun i_2 => [.int .i64 ((g.snd.fst.snd i_2).fst), .int .i64 ((g.snd.fst.snd i_2).snd.fst), .int .i64 ((g.snd.fst.snd i_2).snd.snd.fst), .int .i64 ((g.snd.fst.snd i_2).snd.snd.snd.fst)]))])⟩), (1, ⟨true, 2, 1, (fun i_1 => [.p (.int .i64 0), .p (.nil)])⟩), (3, ⟨true, 2, 1, (fun i_1 => [.p (.int .i64 (g.fst)), .ar 4 2 0 (g.snd.fst.fst)])⟩)] [0, 1, 2, 3] 1 (if (i = k) then [.p (.int .i64 ((g.snd.fst.snd k).fst)), .p (.int .i64 ((g.snd.fst.snd k).snd.fst)), .p (.int .i64 (XX k)), .p (.int .i64 (YY k + y))] else [.p (.int .i64 ((g.snd.fst.snd i).fst)), .p (.int .i64 ((g.snd.fst.snd i).snd.fst)), .p (.int .i64 (XX i)), .p (.int .i64 (YY i))])).1 : List AV) = [.p (.int .i64 ((g.snd.fst.snd i).fst)), .p (.int .i64 ((g.snd.fst.snd i).snd.fst)), .p (.int .i64 (XX i)), .p (.int .i64 (if i = k then YY k + y else YY i))])))),
  ((2 : Nat) = 2),
  ((1 : Nat) ≤ 1),
  ((1 : Nat) ≤ 1),
  (((g.fst) : Int) = (g.fst)),
  ((0 : Nat) = 0),
  (((g.snd.fst.fst) : Nat) = (g.snd.fst.fst))]) := by kernel_rfl
theorem p23b2z (g : T_GainGraph) (v x y : Int) (XX YY : Nat → Int) (k : Nat) :
    pieceOb Try.prog 0 [.reg [oT, oT, oT, oT, oT, oT, oT, oT], .dec false, .reg [oT, oT, oT], .head] [.code (cAt (bodyOf Try.f23) [1, 1, 1, 0, 1, 0, 0, 1, 0, 0, 1, 1, 0]), .code (cAt (bodyOf Try.f23) [1, 1, 1, 0, 1, 0, 0, 1, 0, 0, 1, 1, 1]), .inBlock 1, .code (cAt (bodyOf Try.f23) [1, 1, 1, 0, 1, 0, 0, 1, 1]), .inLoop (cAt (bodyOf Try.f23) [1, 1, 1, 0, 1, 0, 0]), .inBlock 0, .code (cAt (bodyOf Try.f23) [1, 1, 1, 1])] (S23 g v x y XX YY k) [0, 1, 2, 3] 1 (S23 g v x y XX YY (k + 1)) =
    some ([.code (cAt (bodyOf Try.f23) [1, 1, 1, 0, 1, 0, 0]), .inLoop (cAt (bodyOf Try.f23) [1, 1, 1, 0, 1, 0, 0]), .inBlock 0, .code (cAt (bodyOf Try.f23) [1, 1, 1, 1])], [((0 : Nat) < 1),
  ((0 : Int) ≤ ((↑k : Int))),
  ((((↑k : Int)) : Int) < ((↑g.snd.fst.fst : Int))),
  (((k) : Nat) < (g.snd.fst.fst)),
  (((g.snd.fst.snd k).snd.fst == v) = false),
  (((-9223372036854775808) : Int) ≤ ((↑k : Int) + 1)),
  ((((↑k : Int) + 1) : Int) ≤ 9223372036854775807),
  (((g.fst) : Int) = (g.fst)),
  (((g.snd.fst.fst) : Nat) = (g.snd.fst.fst)),
  (∀ i : Nat, ((((i) : Nat) < (g.snd.fst.fst)) → (([.int .i64 ((g.snd.fst.snd i).fst), .int .i64 ((g.snd.fst.snd i).snd.fst), .int .i64 ((g.snd.fst.snd i).snd.snd.fst), .int .i64 ((g.snd.fst.snd i).snd.snd.snd.fst)] : List PV) = [.int .i64 ((g.snd.fst.snd i).fst), .int .i64 ((g.snd.fst.snd i).snd.fst), .int .i64 ((g.snd.fst.snd i).snd.snd.fst), .int .i64 ((g.snd.fst.snd i).snd.snd.snd.fst)]))),
  (((v) : Int) = (v)),
  (((x) : Int) = (x)),
  (((y) : Int) = (y)),
  ((0 : Nat) = 0),
  ((0 : Nat) = 0),
  ((0 : Nat) = 0),
  ((((↑k : Int) + 1) : Int) = ((↑(k + 1) : Int))),
  ((2 : Nat) = 2),
  ((1 : Nat) ≤ 1),
  ((1 : Nat) ≤ 1),
  (((g.fst) : Int) = (g.fst)),
  (((g.snd.fst.fst) : Nat) = (g.snd.fst.fst)),
  (∀ i : Nat, ((((i) : Nat) < (g.snd.fst.fst)) → (([.int .i64 ((g.snd.fst.snd i).fst), .int .i64 ((g.snd.fst.snd i).snd.fst), .int .i64 ((g.snd.fst.snd i).snd.snd.fst), .int .i64 ((g.snd.fst.snd i).snd.snd.snd.fst)] : List PV) = [.int .i64 ((g.snd.fst.snd i).fst), .int .i64 ((g.snd.fst.snd i).snd.fst), .int .i64 ((g.snd.fst.snd i).snd.snd.fst), .int .i64 ((g.snd.fst.snd i).snd.snd.snd.fst)]))),
  ((2 : Nat) = 2),
  ((1 : Nat) ≤ 1),
  ((1 : Nat) ≤ 1),
  ((0 : Int) = 0),
  ((4 : Nat) = 4),
  (((g.snd.fst.fst) : Nat) ≤ (g.snd.fst.fst)),
  (∀ i : Nat, ((((i) : Nat) < (g.snd.fst.fst)) → (All [] ∧ (([.p (.int .i64 ((g.snd.fst.snd i).fst)), .p (.int .i64 ((g.snd.fst.snd i).snd.fst)), .p (.int .i64 (XX i)), .p (.int .i64 (YY i))] : List AV) = [.p (.int .i64 ((g.snd.fst.snd i).fst)), .p (.int .i64 ((g.snd.fst.snd i).snd.fst)), .p (.int .i64 (XX i)), .p (.int .i64 (YY i))])))),
  ((2 : Nat) = 2),
  ((1 : Nat) ≤ 1),
  ((1 : Nat) ≤ 1),
  (((g.fst) : Int) = (g.fst)),
  ((0 : Nat) = 0),
  (((g.snd.fst.fst) : Nat) = (g.snd.fst.fst))]) := by kernel_rfl
theorem p23b3 (g : T_GainGraph) (v x y : Int) (XX YY : Nat → Int) (k : Nat) :
    pieceOb Try.prog 0 [.reg [oT, oT, oT, oT, oT], .dec true, .reg [oT, oT, oT, oT, oT, oT, oT, oT, oT, oT, oT, oT, oT], .dec false, .reg [oT, oT, oT, oT, oT, oT, oT, oT], .dec false, .reg [oT, oT, oT, oT, oT, oT, oT, oT], .dec true, .reg [oT, oT, oT, oT, oT, oT, oT, oT, oT, oT, oT, oT, oT, oT], .head] [.code (cAt (bodyOf Try.f23) [1, 1, 1, 0, 1, 0, 0]), .inLoop (cAt (bodyOf Try.f23) [1, 1, 1, 0, 1, 0, 0]), .inBlock 0, .code (cAt (bodyOf Try.f23) [1, 1, 1, 1])] (S23 g v x y XX YY k) [0, 1, 2, 3] 1 (S23 g v x y (fun i => if i = k then XX k - x else XX i) YY k) =
    some ([.code (cAt (bodyOf Try.f23) [1, 1, 1, 0, 1, 0, 0, 1, 0, 0, 1, 1, 1, 0, 1]), .inBlock 1, .code (cAt (bodyOf Try.f23) [1, 1, 1, 0, 1, 0, 0, 1, 1]), .inLoop (cAt (bodyOf Try.f23) [1, 1, 1, 0, 1, 0, 0]), .inBlock 0, .code (cAt (bodyOf Try.f23) [1, 1, 1, 1])], [((0 : Nat) < 1),
  ((decide ((↑k : Int) < (↑g.snd.fst.fst : Int))) = true),
  ((0 : Nat) < 1),
  ((0 : Int) ≤ ((↑k : Int))),
  ((((↑k : Int)) : Int) < ((↑g.snd.fst.fst : Int))),
  (((k) : Nat) < (g.snd.fst.fst)),
  ((0 : Nat) < 1),
  ((0 : Int) ≤ ((↑k : Int))),
  ((((↑k : Int)) : Int) < ((↑g.snd.fst.fst : Int))),
  (((k) : Nat) < (g.snd.fst.fst)),
  (((g.snd.fst.snd k).fst == (g.snd.fst.snd k).snd.fst) = false),
  ((0 : Nat) < 1),
  ((0 : Int) ≤ ((↑k : Int))),
  ((((↑k : Int)) : Int) < ((↑g.snd.fst.fst : Int))),
  (((k) : Nat) < (g.snd.fst.fst)),
  (((g.snd.fst.snd k).fst == v) = false),
  ((0 : Nat) < 1),
  ((0 : Int) ≤ ((↑k : Int))),
  ((((↑k : Int)) : Int) < ((↑g.snd.fst.fst : Int))),
  (((k) : Nat) < (g.snd.fst.fst)),
  (((g.snd.fst.snd k).snd.fst == v) = true),
  ((0 : Nat) < 1),
  ((0 : Nat) < 1),
  ((0 : Int) ≤ ((↑k : Int))),
  ((((↑k : Int)) : Int) < ((↑g.snd.fst.fst : Int))),
  (((k) : Nat) < (g.snd.fst.fst)),
  (((-9223372036854775808) : Int) ≤ (XX k - x)),
  (((XX k - x) : Int) ≤ 9223372036854775807),
  ((0 : Int) ≤ ((↑k : Int))),
  ((((↑k : Int)) : Int) < ((↑g.snd.fst.fst : Int))),
  (((k) : Nat) < (g.snd.fst.fst)),
  (((false) = true) → (((g.snd.fst.fst) : Nat) = 1)),
  (((g.fst) : Int) = (g.fst)),
  (((g.snd.fst.fst) : Nat) = (g.snd.fst.fst)),
  (∀ i : Nat, ((((i) : Nat) < (g.snd.fst.fst)) → (([.int .i64 ((g.snd.fst.snd i).fst), .int .i64 ((g.snd.fst.snd i).snd.fst), .int .i64 ((g.snd.fst.snd i).snd.snd.fst), .int .i64 ((g.snd.fst.snd i).snd.snd.snd.fst)] : List PV) = [.int .i64 ((g.snd.fst.snd i).fst), .int .i64 ((g.snd.fst.snd i).snd.fst), .int .i64 ((g.snd.fst.snd i).snd.snd.fst), .int .i64 ((g.snd.fst.snd i).snd.snd.snd.fst)]))),
  (((v) : Int) = (v)),
  (((x) : Int) = (x)),
  (((y) : Int) = (y)),
  ((0 : Nat) = 0),
  ((0 : Nat) = 0),
  ((0 : Nat) = 0),
  ((((↑k : Int)) : Int) = ((↑k : Int))),
  ((2 : Nat) = 2),
  ((1 : Nat) ≤ 1),
  ((1 : Nat) ≤ 1),
  (((g.fst) : Int) = (g.fst)),
  (((g.snd.fst.fst) : Nat) = (g.snd.fst.fst)),
  (∀ i : Nat, ((((i) : Nat) < (g.snd.fst.fst)) → (([.int .i64 ((g.snd.fst.snd i).fst), .int .i64 ((g.snd.fst.snd i).snd.fst), .int .i64 ((g.snd.fst.snd i).snd.snd.fst), .int .i64 ((g.snd.fst.snd i).snd.snd.snd.fst)] : List PV) = [.int .i64 ((g.snd.fst.snd i).fst), .int .i64 ((g.snd.fst.snd i).snd.fst), .int .i64 ((g.snd.fst.snd i).snd.snd.fst), .int .i64 ((g.snd.fst.snd i).snd.snd.snd.fst)]))),
  ((2 : Nat) = 2),
  ((1 : Nat) ≤ 1),
  ((1 : Nat) ≤ 1),
  ((0 : Int) = 0),
  ((4 : Nat) = 4),
  (((g.snd.fst.fst) : Nat) ≤ (g.snd.fst.fst)),
  (∀ i : Nat, ((((i) : Nat) < (g.snd.fst.fst)) → (All (cvtL false [(2, ⟨false, 4, (g.snd.fst.fst), (fun i_1 => (if (i_1 = k) then [.p (.int .i64 ((g.snd.fst.snd k).fst)), .p (.int .i64 ((g.snd.fst.snd k).snd.fst)), .p (.int .i64 (XX k - x)), .p (.int .i64 (YY k))] else [.p (.int .i64 ((g.snd.fst.snd i_1).fst)), .p (.int .i64 ((g.snd.fst.snd i_1).snd.fst)), .p (.int .i64 (XX i_1)), .p (.int .i64 (YY i_1))]))⟩), (0, ⟨true, 2, 1, (fun i_1 => [.p (.int .i64 (g.fst)), .p (.seq true 4 (g.snd.fst.fst) (fun i_2 => [.int .i64 ((g.snd.fst.snd i_2).fst), .int .i64 ((g.snd.fst.snd i_2).snd.fst), .int .i64 ((g.snd.fst.snd i_2).snd.snd.fst), .int .i64 ((g.snd.fst.snd i_2).snd.snd.snd.fst)]))])⟩), (1, ⟨true, 2, 1, (fun i_1 => [.p (.int .i64 0), .p (.nil)])⟩), (3, ⟨true, 2, 1, (fun i_1 => [.p (.int .i64 (g.fst)), .ar 4 2 0 (g.snd.fst.fst)])⟩)] [0, 1, 2, 3] 1 (if (i = k) then [.p (.int .i64 ((g.snd.fst.snd k).fst)), .p (.int .i64 ((g.snd.fst.snd k).snd.fst)), .p (.int .i64 (XX k - x)), .p (.int .i64 (YY k))] else [.p (.int .i64 ((g.snd.fst.snd i).fst)), .p (.int .i64 ((g.snd.fst.snd i).snd.fst)), .p (.int .i64 (XX i)), .p (.int .i64 (YY i))])).2 ∧ (((cvtL false [(2, ⟨false, 4, (g.snd.fst.fst), (fun i_1 => (if (i_1 = k) then [.p (.int .i64 ((g.snd.fst.snd k).fst)), .p (.int .i64 ((g.snd.fst.snd k).snd.fst)), .p (.int .i64 (XX k - x)), .p (.int .i64 (YY k))] else [.p (.int .i64 ((g.snd.fst.snd i_1).fst)), .p (.int .i64 ((g.snd.fst.snd i_1).snd.fst)), .p (.int .i64 (XX i_1)), .p (.int .i64 (YY i_1))]))⟩), (0, ⟨true, 2, 1, (fun i_1 => [.p (.int .i64 (g.fst)), .p (.seq true 4 (g.snd.fst.fst) (fun i_2 => [.int .i64 ((g.snd.fst.snd i_2).fst), .int .i64 ((g.snd.fst.snd i_2).snd.fst), .int .i64 ((g.snd.fst.snd i_2).snd.snd.fst), .int .i64 ((g.snd.fst.snd i_2).snd.snd.snd.fst)]))])⟩), (1, ⟨true, 2, 1, (fun i_1 => [.p (.int .i64 0), .p (.nil)])⟩), (3, ⟨true, 2, 1, (fun i_1 => [.p (.int .i64 (g.fst)), .ar 4 2 0 (g.snd.fst.fst)])⟩)] [0, 1, 2, 3] 1 (if (i = k) then [.p (.int .i64 ((g.snd.fst.snd k).fst)), .p (.int .i64 ((g.snd.fst.snd k).snd.fst)), .p (.int .i64 (XX k - x)), .p (.int .i64 (YY k))] else [.p (.int .i64 ((g.snd.fst.snd i).fst)), .p (.int .i64 ((g.snd.fst.snd i).snd.fst)), .p (.int .i64 (XX i)), .p (.int .i64 (YY i))])).1 : List AV) = [.p (.int .i64 ((g.snd.fst.snd i).fst)), .p (.int .i64 ((g.snd.fst.snd i).snd.fst)), .p (.int .i64 (if i = k then XX k - x else XX i)), .p (.int .i64 (YY i))])))),
  ((2 : Nat) = 2),
  ((1 : Nat) ≤ 1),
  ((1 : Nat) ≤ 1),
  (((g.fst) : Int) = (g.fst)),
  ((0 : Nat) = 0),
  (((g.snd.fst.fst) : Nat) = (g.snd.fst.fst))]) := by kernel_rfl
theorem p23b3y (g : T_GainGraph) (v x y : Int) (XX YY : Nat → Int) (k : Nat) :
    pieceOb Try.prog 0 [.reg [oT, oT, oT, oT, oT, oT, oT, oT, oT, oT, oT, oT, oT, oT], .reg [oT, oT, oT], .head] [.code (cAt (bodyOf Try.f23) [1, 1, 1, 0, 1, 0, 0, 1, 0, 0, 1, 1, 1, 0, 1]), .inBlock 1, .code (cAt (bodyOf Try.f23) [1, 1, 1, 0, 1, 0, 0, 1, 1]), .inLoop (cAt (bodyOf Try.f23) [1, 1, 1, 0, 1, 0, 0]), .inBlock 0, .code (cAt (bodyOf Try.f23) [1, 1, 1, 1])] (S23 g v x y XX YY k) [0, 1, 2, 3] 1 (S23 g v x y XX (fun i => if i = k then YY k - y else YY i) (k + 1)) =
    some ([.code (cAt (bodyOf Try.f23) [1, 1, 1, 0, 1, 0, 0]), .inLoop (cAt (bodyOf Try.f23) [1, 1, 1, 0, 1, 0, 0]), .inBlock 0, .code (cAt (bodyOf Try.f23) [1, 1, 1, 1])], [((0 : Nat) < 1),
  ((0 : Nat) < 1),
  ((0 : Int) ≤ ((↑k : Int))),
  ((((↑k : Int)) : Int) < ((↑g.snd.fst.fst : Int))),
  (((k) : Nat) < (g.snd.fst.fst)),
  (((-9223372036854775808) : Int) ≤ (YY k - y)),
  (((YY k - y) : Int) ≤ 9223372036854775807),
  ((0 : Int) ≤ ((↑k : Int))),
  ((((↑k : Int)) : Int) < ((↑g.snd.fst.fst : Int))),
  (((k) : Nat) < (g.snd.fst.fst)),
  (((false) = true) → (((g.snd.fst.fst) : Nat) = 1)),
  (((-9223372036854775808) : Int) ≤ ((↑k : Int) + 1)),
  ((((↑k : Int) + 1) : Int) ≤ 9223372036854775807),
  (((g.fst) : Int) = (g.fst)),
  (((g.snd.fst.fst) : Nat) = (g.snd.fst.fst)),
  (∀ i : Nat, ((((i) : Nat) < (g.snd.fst.fst)) → (([.int .i64 ((g.snd.fst.snd i).fst), .int .i64 ((g.snd.fst.snd i).snd.fst), .int .i64 ((g.snd.fst.snd i).snd.snd.fst), .int .i64 ((g.snd.fst.snd i).snd.snd.snd.fst)] : List PV) = [.int .i64 ((g.snd.fst.snd i).fst), .int .i64 ((g.snd.fst.snd i).snd.fst), .int .i64 ((g.snd.fst.snd i).snd.snd.fst), .int .i64 ((g.snd.fst.snd i).snd.snd.snd.fst)]))),
  (((v) : Int) = (v)),
  (((x) : Int) = (x)),
  (((y) : Int) = (y)),
  ((0 : Nat) = 0),
  ((0 : Nat) = 0),
  ((0 : Nat) = 0),
  ((((↑k : Int) + 1) : Int) = ((↑(k + 1) : Int))),
  ((2 : Nat) = 2),
  ((1 : Nat) ≤ 1),
  ((1 : Nat) ≤ 1),
  (((g.fst) : Int) = (g.fst)),
  (((g.snd.fst.fst) : Nat) = (g.snd.fst.fst)),
  (∀ i : Nat, ((((i) : Nat) < (g.snd.fst.fst)) → (([.int .i64 ((g.snd.fst.snd i).fst), .int .i64 ((g.snd.fst.snd i).snd.fst), .int .i64 ((g.snd.fst.snd i).snd.snd.fst), .int .i64 ((g.snd.fst.snd i).snd.snd.snd.fst)] : List PV) = [.int .i64 ((g.snd.fst.snd i).fst), .int .i64 ((g.snd.fst.snd i).snd.fst), .int .i64 ((g.snd.fst.snd i).snd.snd.fst), .int .i64 ((g.snd.fst.snd i).snd.snd.snd.fst)]))),
  ((2 : Nat) = 2),
  ((1 : Nat) ≤ 1),
  ((1 : Nat) ≤ 1),
  ((0 : Int) = 0),
  ((4 : Nat) = 4),
  (((g.snd.fst.fst) : Nat) ≤ (g.snd.fst.fst)),
  (∀ i : Nat, ((((i) : Nat) < (g.snd.fst.fst)) → (All (cvtL false [(2, ⟨false, 4, (g.snd.fst.fst), (fun i_1 => (if (i_1 = k) then [.p (.int .i64 ((g.snd.fst.snd k).fst)), .p (.int .i64 ((g.snd.fst.snd k).snd.fst)), .p (.int .i64 (XX k)), .p (.int .i64 (YY k - y))] else [.p (.int .i64 ((g.snd.fst.snd i_1).fst)), .p (.int .i64 ((g.snd.fst.snd i_1).snd.fst)), .p (.int .i64 (XX i_1)), .p (.int .i64 (YY i_1))]))⟩), (0, ⟨true, 2, 1, (fun i_1 => [.p (.int .i64 (g.fst)), .p (.seq true 4 (g.snd.fst.fst) (fun i_2 => [.int .i64 ((g.snd.fst.snd i_2).fst), .int .i64 ((g.snd.fst.snd i_2).snd.fst), .int .i64 ((g.snd.fst.snd i_2).snd.snd.fst), .int .i64 ((g.snd.fst.snd i_2).snd.snd.snd.fst)]))])⟩), (1, ⟨true, 2, 1, (fun i_1 => [.p (.int .i64 0), .p (.nil)])⟩), (3, ⟨true, 2, 1, (fun i_1 => [.p (.int .i64 (g.fst)), .ar 4 2 0 (g.snd.fst.fst)])⟩)] [0, 1, 2, 3] 1 (if (i = k) then [.p (.int .i64 ((g.snd.fst.snd k).fst)), .p (.int .i64 ((g.snd.fst.snd k).snd.fst)), .p (.int .i64 (XX k)), .p (.int .i64 (YY k - y))] else [.p (.int .i64 ((g.snd.fst.snd i).fst)), .p (.int .i64 ((g.snd.fst.snd i).snd.fst)), .p (.int .i64 (XX i)), .p (.int .i64 (YY i))])).2 ∧ (((cvtL false [(2, ⟨false, 4, (g.snd.fst.fst), (fun i_1 => (if (i_1 = k) then [.p (.int .i64 ((g.snd.fst.snd k).fst)), .p (.int .i64 ((g.snd.fst.snd k).snd.fst)), .p (.int .i64 (XX k)), .p (.int .i64 (YY k - y))] else [.p (.int .i64 ((g.snd.fst.snd i_1).fst)), .p (.int .i64 ((g.snd.fst.snd i_1).snd.fst)), .p (.int .i64 (XX i_1)), .p (.int .i64 (YY i_1))]))⟩), (0, ⟨true, 2, 1, (fun i_1 => [.p (.int .i64 (g.fst)), .p (.seq true 4 (g.snd.fst.fst) (fun i_2 => [.int .i64 ((g.snd.fst.snd i_2).fst), .int .i64 ((g.snd.fst.snd i_2).snd.fst), .int .i64 ((g.snd.fst.snd i_2).snd.snd.fst), .int .i64 ((g.snd.fst.snd i_2).snd.snd.snd.fst)]))])⟩), (1, ⟨true, 2, 1, (fun i_1 => [.p (.int .i64 0), .p (.nil)])⟩), (3, ⟨true, 2, 1, (fun i_1 => [.p (.int .i64 (g.fst)), .ar 4 2 0 (g.snd.fst.fst)])⟩)] [0, 1, 2, 3] 1 (if (i = k) then [.p (.int .i64 ((g.snd.fst.snd k).fst)), .p (.int .i64 ((g.snd.fst.snd k).snd.fst)), .p (.int .i64 (XX k)), .p (.int .i64 (YY k - y))] else [.p (.int .i64 ((g.snd.fst.snd i).fst)), .p (.int .i64 ((g.snd.fst.snd i).snd.fst)), .p (.int .i64 (XX i)), .p (.int .i64 (YY i))])).1 : List AV) = [.p (.int .i64 ((g.snd.fst.snd i).fst)), .p (.int .i64 ((g.snd.fst.snd i).snd.fst)), .p (.int .i64 (XX i)), .p (.int .i64 (if i = k then YY k - y else YY i))])))),
  ((2 : Nat) = 2),
  ((1 : Nat) ≤ 1),
  ((1 : Nat) ≤ 1),
  (((g.fst) : Int) = (g.fst)),
  ((0 : Nat) = 0),
  (((g.snd.fst.fst) : Nat) = (g.snd.fst.fst))]) := by kernel_rfl
theorem p23b4 (g : T_GainGraph) (v x y : Int) (XX YY : Nat → Int) (k : Nat) :
    pieceOb Try.prog 0 [.reg [oT, oT, oT, oT, oT], .dec true, .reg [oT, oT, oT, oT, oT, oT, oT, oT, oT, oT, oT, oT, oT], .dec false, .reg [oT, oT, oT, oT, oT, oT, oT, oT], .dec false, .reg [oT, oT, oT, oT, oT, oT, oT, oT], .dec false, .reg [oT, oT, oT], .head] [.code (cAt (bodyOf Try.f23) [1, 1, 1, 0, 1, 0, 0]), .inLoop (cAt (bodyOf Try.f23) [1, 1, 1, 0, 1, 0, 0]), .inBlock 0, .code (cAt (bodyOf Try.f23) [1, 1, 1, 1])] (S23 g v x y XX YY k) [0, 1, 2, 3] 1 (S23 g v x y XX YY (k + 1)) =
    some ([.code (cAt (bodyOf Try.f23) [1, 1, 1, 0, 1, 0, 0]), .inLoop (cAt (bodyOf Try.f23) [1, 1, 1, 0, 1, 0, 0]), .inBlock 0, .code (cAt (bodyOf Try.f23) [1, 1, 1, 1])], [((0 : Nat) < 1),
  ((decide ((↑k : Int) < (↑g.snd.fst.fst : Int))) = true),
  ((0 : Nat) < 1),
  ((0 : Int) ≤ ((↑k : Int))),
  ((((↑k : Int)) : Int) < ((↑g.snd.fst.fst : Int))),
  (((k) : Nat) < (g.snd.fst.fst)),
  ((0 : Nat) < 1),
  ((0 : Int) ≤ ((↑k : Int))),
  ((((↑k : Int)) : Int) < ((↑g.snd.fst.fst : Int))),
  (((k) : Nat) < (g.snd.fst.fst)),
  (((g.snd.fst.snd k).fst == (g.snd.fst.snd k).snd.fst) = false),
  ((0 : Nat) < 1),
  ((0 : Int) ≤ ((↑k : Int))),
  ((((↑k : Int)) : Int) < ((↑g.snd.fst.fst : Int))),
  (((k) : Nat) < (g.snd.fst.fst)),
  (((g.snd.fst.snd k).fst == v) = false),
  ((0 : Nat) < 1),
  ((0 : Int) ≤ ((↑k : Int))),
  ((((↑k : Int)) : Int) < ((↑g.snd.fst.fst : Int))),
  (((k) : Nat) < (g.snd.fst.fst)),
  (((g.snd.fst.snd k).snd.fst == v) = false),
  (((-9223372036854775808) : Int) ≤ ((↑k : Int) + 1)),
  ((((↑k : Int) + 1) : Int) ≤ 9223372036854775807),
  (((g.fst) : Int) = (g.fst)),
  (((g.snd.fst.fst) : Nat) = (g.snd.fst.fst)),
  (∀ i : Nat, ((((i) : Nat) < (g.snd.fst.fst)) → (([.int .i64 ((g.snd.fst.snd i).fst), .int .i64 ((g.snd.fst.snd i).snd.fst), .int .i64 ((g.snd.fst.snd i).snd.snd.fst), .int .i64 ((g.snd.fst.snd i).snd.snd.snd.fst)] : List PV) = [.int .i64 ((g.snd.fst.snd i).fst), .int .i64 ((g.snd.fst.snd i).snd.fst), .int .i64 ((g.snd.fst.snd i).snd.snd.fst), .int .i64 ((g.snd.fst.snd i).snd.snd.snd.fst)]))),
  (((v) : Int) = (v)),
  (((x) : Int) = (x)),
  (((y) : Int) = (y)),
  ((0 : Nat) = 0),
  ((0 : Nat) = 0),
  ((0 : Nat) = 0),
  ((((↑k : Int) + 1) : Int) = ((↑(k + 1) : Int))),
  ((2 : Nat) = 2),
  ((1 : Nat) ≤ 1),
  ((1 : Nat) ≤ 1),
  (((g.fst) : Int) = (g.fst)),
  (((g.snd.fst.fst) : Nat) = (g.snd.fst.fst)),
  (∀ i : Nat, ((((i) : Nat) < (g.snd.fst.fst)) → (([.int .i64 ((g.snd.fst.snd i).fst), .int .i64 ((g.snd.fst.snd i).snd.fst), .int .i64 ((g.snd.fst.snd i).snd.snd.fst), .int .i64 ((g.snd.fst.snd i).snd.snd.snd.fst)] : List PV) = [.int .i64 ((g.snd.fst.snd i).fst), .int .i64 ((g.snd.fst.snd i).snd.fst), .int .i64 ((g.snd.fst.snd i).snd.snd.fst), .int .i64 ((g.snd.fst.snd i).snd.snd.snd.fst)]))),
  ((2 : Nat) = 2),
  ((1 : Nat) ≤ 1),
  ((1 : Nat) ≤ 1),
  ((0 : Int) = 0),
  ((4 : Nat) = 4),
  (((g.snd.fst.fst) : Nat) ≤ (g.snd.fst.fst)),
  (∀ i : Nat, ((((i) : Nat) < (g.snd.fst.fst)) → (All [] ∧ (([.p (.int .i64 ((g.snd.fst.snd i).fst)), .p (.int .i64 ((g.snd.fst.snd i).snd.fst)), .p (.int .i64 (XX i)), .p (.int .i64 (YY i))] : List AV) = [.p (.int .i64 ((g.snd.fst.snd i).fst)), .p (.int .i64 ((g.snd.fst.snd i).snd.fst)), .p (.int .i64 (XX i)), .p (.int .i64 (YY i))])))),
  ((2 : Nat) = 2),
  ((1 : Nat) ≤ 1),
  ((1 : Nat) ≤ 1),
  (((g.fst) : Int) = (g.fst)),
  ((0 : Nat) = 0),
  (((g.snd.fst.fst) : Nat) = (g.snd.fst.fst))]) := by kernel_rfl
theorem p23t (g : T_GainGraph) (v x y : Int) (XX YY : Nat → Int) (k : Nat) (b : Bool) :
    pathOb Try.prog Try.f23 0 [.reg [oT, oT, oT, oT, oT], .dec false, .reg [oT, ⟨true, (some ⟨[], [], 1, [], .p (.bool b)⟩)⟩, oT], .dec true, .reg [oT, ⟨true, (some ⟨[], [], 1, [(0, gbOb g.2.1)], gaO g 0⟩)⟩, oT, oT]] [.code (cAt (bodyOf Try.f23) [1, 1, 1, 0, 1, 0, 0]), .inLoop (cAt (bodyOf Try.f23) [1, 1, 1, 0, 1, 0, 0]), .inBlock 0, .code (cAt (bodyOf Try.f23) [1, 1, 1, 1])] (S23 g v x y XX YY k) [292] 1 [(0, gbOb g.2.1)] (.tup [gaO g 0, .p (.bool false)]) =
    some [((0 : Nat) < 1),
  ((decide ((↑k : Int) < (↑g.snd.fst.fst : Int))) = false),
  ((0 : Nat) < 1),
  ((4 : Nat) = 4),
  (((g.snd.fst.fst) : Nat) ≤ (g.snd.fst.fst)),
  Con (Try.prog) 17 0 [] [.agg [.p (.int .i64 (g.fst)), .p (.seq true 4 (g.snd.fst.fst) (fun i => [.int .i64 ((g.snd.fst.snd i).fst), .int .i64 ((g.snd.fst.snd i).snd.fst), .int .i64 (XX i), .int .i64 (YY i)]))]] [] (.p (.bool (b))),
  ((!b) = true),
  ((0 : Nat) < 1),
  Con (Try.prog) 44 0 [] [.agg [.p (.int .i64 (g.fst)), .p (.seq true 4 (g.snd.fst.fst) (fun i => [.int .i64 ((g.snd.fst.snd i).fst), .int .i64 ((g.snd.fst.snd i).snd.fst), .int .i64 ((g.snd.fst.snd i).snd.snd.fst), .int .i64 ((g.snd.fst.snd i).snd.snd.snd.fst)]))]] [(0, ⟨false, 4, (g.snd.fst.fst), (fun i => [.p (.int .i64 ((g.snd.fst.snd i).fst)), .p (.int .i64 ((g.snd.fst.snd i).snd.fst)), .p (.int .i64 ((g.snd.fst.snd i).snd.snd.fst)), .p (.int .i64 ((g.snd.fst.snd i).snd.snd.snd.fst))])⟩)] (.agg [.p (.int .i64 (g.fst)), .ar 4 0 0 (g.snd.fst.fst)]),
  ((0 : Nat) < 1),
  (((true) = true) → ((1 : Nat) = 1)),
  ((0 : Nat) < 1),
  (((g.fst) : Int) = (g.fst)),
  ((0 : Nat) = 0),
  (((g.snd.fst.fst) : Nat) = (g.snd.fst.fst)),
  (false = false),
  ((4 : Nat) = 4),
  (((g.snd.fst.fst) : Nat) ≤ (g.snd.fst.fst)),
  (∀ i : Nat, ((((i) : Nat) < (g.snd.fst.fst)) → (All [] ∧ (([.p (.int .i64 ((g.snd.fst.snd i).fst)), .p (.int .i64 ((g.snd.fst.snd i).snd.fst)), .p (.int .i64 ((g.snd.fst.snd i).snd.snd.fst)), .p (.int .i64 ((g.snd.fst.snd i).snd.snd.snd.fst))] : List AV) = [.p (.int .i64 ((g.snd.fst.snd i).fst)), .p (.int .i64 ((g.snd.fst.snd i).snd.fst)), .p (.int .i64 ((g.snd.fst.snd i).snd.snd.fst)), .p (.int .i64 ((g.snd.fst.snd i).snd.snd.snd.fst))])))),
  (∀ i : Nat, ((((i) : Nat) < (g.snd.fst.fst)) → All []))] := by kernel_rfl
theorem p23f (g : T_GainGraph) (v x y : Int) (XX YY : Nat → Int) (k : Nat) (b : Bool) :
    pathOb Try.prog Try.f23 0 [.reg [oT, oT, oT, oT, oT], .dec false, .reg [oT, ⟨true, (some ⟨[], [], 1, [], .p (.bool b)⟩)⟩, oT], .dec false, .reg [oT, oT, oT]] [.code (cAt (bodyOf Try.f23) [1, 1, 1, 0, 1, 0, 0]), .inLoop (cAt (bodyOf Try.f23) [1, 1, 1, 0, 1, 0, 0]), .inBlock 0, .code (cAt (bodyOf Try.f23) [1, 1, 1, 1])] (S23 g v x y XX YY k) [2] 1 [(0, gbOb (moved g v x y).2.1)] (.tup [gaO (moved g v x y) 0, .p (.bool true)]) =
    some [((0 : Nat) < 1),
  ((decide ((↑k : Int) < (↑g.snd.fst.fst : Int))) = false),
  ((0 : Nat) < 1),
  ((4 : Nat) = 4),
  (((g.snd.fst.fst) : Nat) ≤ (g.snd.fst.fst)),
  Con (Try.prog) 17 0 [] [.agg [.p (.int .i64 (g.fst)), .p (.seq true 4 (g.snd.fst.fst) (fun i => [.int .i64 ((g.snd.fst.snd i).fst), .int .i64 ((g.snd.fst.snd i).snd.fst), .int .i64 (XX i), .int .i64 (YY i)]))]] [] (.p (.bool (b))),
  ((!b) = false),
  ((0 : Nat) < 1),
  ((0 : Nat) < 1),
  (((true) = true) → ((1 : Nat) = 1)),
  ((0 : Nat) < 1),
  (((g.fst) : Int) = (g.fst)),
  ((0 : Nat) = 0),
  (((g.snd.fst.fst) : Nat) = (g.snd.fst.fst)),
  (true = true),
  ((4 : Nat) = 4),
  (((g.snd.fst.fst) : Nat) ≤ (g.snd.fst.fst)),
  (∀ i : Nat, ((((i) : Nat) < (g.snd.fst.fst)) → (All [] ∧ (([.p (.int .i64 ((g.snd.fst.snd i).fst)), .p (.int .i64 ((g.snd.fst.snd i).snd.fst)), .p (.int .i64 (XX i)), .p (.int .i64 (YY i))] : List AV) = [.p (.int .i64 ((g.snd.fst.snd i).fst)), .p (.int .i64 ((g.snd.fst.snd i).snd.fst)), .p (.int .i64 (mX g v x i)), .p (.int .i64 (mY g v y i))])))),
  (∀ i : Nat, ((((i) : Nat) < (g.snd.fst.fst)) → All []))] := by kernel_rfl
theorem p24z (g : T_GainGraph) (v x y : Int) :
    pathOb Try.prog Try.f24 0 [.reg [oT, oT, oT], .reg [oT, oT, oT, oT, oT, oT, oT, oT, oT], .reg [oT, ⟨true, (some ⟨[], [], 1, [], .p (.bool (isGainF g))⟩)⟩, oT, oT, oT, oT, oT, oT, ⟨true, (some ⟨[], [], 1, [], .p (.bool (inB v 0 (g.1 - 1)))⟩)⟩, oT, oT, oT, oT, ⟨true, (some ⟨[], [], 1, [], .p (.bool (inB x (-9) 9))⟩)⟩, oT, oT, oT, oT, ⟨true, (some ⟨[], [], 1, [], .p (.bool (inB y (-9) 9))⟩)⟩, oT, oT], .dec true, .reg [oT, oT, oT]] [.code (bodyOf Try.f24)] (start Try.f24 [] 0 [gainA g, .p (.int .i64 v), .p (.int .i64 x), .p (.int .i64 y)]) [256] 1 [(0, gbOb g.2.1)] (.tup [gaO g 0, .p (.bool false)]) =
    some [((0 : Nat) < 1),
  ((0 : Nat) < 1),
  ((0 : Nat) ≤ 0),
  ((((0 + g.snd.fst.fst) * 32) : Nat) ≤ 140737488355328),
  (((0 + g.snd.fst.fst) : Nat) ≤ 9223372036854775807),
  ((0 : Nat) < 1),
  (((true) = true) → ((1 : Nat) = 1)),
  ((0 : Nat) < 1),
  Con (Try.prog) 19 0 [] [.agg [.p (.int .i64 (g.fst)), .p (.seq true 4 (g.snd.fst.fst) (fun i => [.int .i64 ((g.snd.fst.snd i).fst), .int .i64 ((g.snd.fst.snd i).snd.fst), .int .i64 ((g.snd.fst.snd i).snd.snd.fst), .int .i64 ((g.snd.fst.snd i).snd.snd.snd.fst)]))]] [] (.p (.bool (isGainF g))),
  (((!!isGainF g) = true) → ((!!isGainF g) = true)),
  (((!!isGainF g) = true) → ((0 : Nat) < 1)),
  (((!!isGainF g) = true) → ((!!isGainF g) = true)),
  (((!!isGainF g) = true) → (((-9223372036854775808) : Int) ≤ (g.fst - 1))),
  (((!!isGainF g) = true) → (((g.fst - 1) : Int) ≤ 9223372036854775807)),
  (((!!isGainF g) = true) → ((!!isGainF g) = true)),
  (((!!isGainF g) = true) → ((!!isGainF g) = true)),
  (((!!isGainF g) = true) → Con (Try.prog) 37 0 [] [.p (.int .i64 (v)), .p (.int .i64 0), .p (.int .i64 (g.fst - 1))] [] (.p (.bool (inB v 0 (g.fst - 1))))),
  (((!!isGainF g) = true) → ((!!isGainF g) = true)),
  (((!isGainF g) = false) → ((!!isGainF g) = true)),
  (((!bif !isGainF g then true else !inB v 0 (g.fst - 1)) = true) → ((!bif !isGainF g then true else !inB v 0 (g.fst - 1)) = true)),
  (((!bif !isGainF g then true else !inB v 0 (g.fst - 1)) = true) → Con (Try.prog) 37 0 [] [.p (.int .i64 (x)), .p (.int .i64 (-9)), .p (.int .i64 9)] [] (.p (.bool (inB x (-9) 9)))),
  (((!bif !isGainF g then true else !inB v 0 (g.fst - 1)) = true) → ((!bif !isGainF g then true else !inB v 0 (g.fst - 1)) = true)),
  (((bif !isGainF g then true else !inB v 0 (g.fst - 1)) = false) → ((!bif !isGainF g then true else !inB v 0 (g.fst - 1)) = true)),
  (((!bif bif !isGainF g then true else !inB v 0 (g.fst - 1) then true else !inB x (-9) 9) = true) → ((!bif bif !isGainF g then true else !inB v 0 (g.fst - 1) then true else !inB x (-9) 9) = true)),
  (((!bif bif !isGainF g then true else !inB v 0 (g.fst - 1) then true else !inB x (-9) 9) = true) → Con (Try.prog) 37 0 [] [.p (.int .i64 (y)), .p (.int .i64 (-9)), .p (.int .i64 9)] [] (.p (.bool (inB y (-9) 9)))),
  (((!bif bif !isGainF g then true else !inB v 0 (g.fst - 1) then true else !inB x (-9) 9) = true) → ((!bif bif !isGainF g then true else !inB v 0 (g.fst - 1) then true else !inB x (-9) 9) = true)),
  (((bif bif !isGainF g then true else !inB v 0 (g.fst - 1) then true else !inB x (-9) 9) = false) → ((!bif bif !isGainF g then true else !inB v 0 (g.fst - 1) then true else !inB x (-9) 9) = true)),
  ((bif bif bif !isGainF g then true else !inB v 0 (g.fst - 1) then true else !inB x (-9) 9 then true else !inB y (-9) 9) = true),
  ((0 : Nat) < 1),
  ((0 : Nat) < 1),
  (((true) = true) → ((1 : Nat) = 1)),
  ((0 : Nat) < 1),
  (((g.fst) : Int) = (g.fst)),
  ((0 : Nat) = 0),
  (((0 + g.snd.fst.fst) : Nat) = (g.snd.fst.fst)),
  (false = false),
  ((4 : Nat) = 4),
  (((g.snd.fst.fst) : Nat) ≤ (0 + g.snd.fst.fst)),
  (∀ i : Nat, ((((i) : Nat) < (g.snd.fst.fst)) → (All [] ∧ (([.p (.int .i64 ((g.snd.fst.snd i).fst)), .p (.int .i64 ((g.snd.fst.snd i).snd.fst)), .p (.int .i64 ((g.snd.fst.snd i).snd.snd.fst)), .p (.int .i64 ((g.snd.fst.snd i).snd.snd.snd.fst))] : List AV) = [.p (.int .i64 ((g.snd.fst.snd i).fst)), .p (.int .i64 ((g.snd.fst.snd i).snd.fst)), .p (.int .i64 ((g.snd.fst.snd i).snd.snd.fst)), .p (.int .i64 ((g.snd.fst.snd i).snd.snd.snd.fst))])))),
  (∀ i : Nat, ((((i) : Nat) < (g.snd.fst.fst)) → All []))] := by kernel_rfl
theorem p24a (g : T_GainGraph) (v x y : Int) :
    pieceOb Try.prog 0 [.reg [oT, oT, oT], .reg [oT, oT, oT, oT, oT, oT, oT, oT, oT], .reg [oT, ⟨true, (some ⟨[], [], 1, [], .p (.bool (isGainF g))⟩)⟩, oT, oT, oT, oT, oT, oT, ⟨true, (some ⟨[], [], 1, [], .p (.bool (inB v 0 (g.1 - 1)))⟩)⟩, oT, oT, oT, oT, ⟨true, (some ⟨[], [], 1, [], .p (.bool (inB x (-9) 9))⟩)⟩, oT, oT, oT, oT, ⟨true, (some ⟨[], [], 1, [], .p (.bool (inB y (-9) 9))⟩)⟩, oT, oT], .dec false, .reg [oT, oT, oT, oT, oT], .reg [oT, oT, oT, oT], .head] [.code (bodyOf Try.f24)] (start Try.f24 [] 0 [gainA g, .p (.int .i64 v), .p (.int .i64 x), .p (.int .i64 y)]) [0, 32, 256, 320, 1152] 1 (S24 g v x y 0) =
    some ([.code (cAt (bodyOf Try.f24) [1, 1, 1, 1, 0, 1, 0, 0]), .inLoop (cAt (bodyOf Try.f24) [1, 1, 1, 1, 0, 1, 0, 0]), .inBlock 0, .code (cAt (bodyOf Try.f24) [1, 1, 1, 1, 1])], [((0 : Nat) < 1),
  ((0 : Nat) < 1),
  ((0 : Nat) ≤ 0),
  ((((0 + g.snd.fst.fst) * 32) : Nat) ≤ 140737488355328),
  (((0 + g.snd.fst.fst) : Nat) ≤ 9223372036854775807),
  ((0 : Nat) < 1),
  (((true) = true) → ((1 : Nat) = 1)),
  ((0 : Nat) < 1),
  Con (Try.prog) 19 0 [] [.agg [.p (.int .i64 (g.fst)), .p (.seq true 4 (g.snd.fst.fst) (fun i => [.int .i64 ((g.snd.fst.snd i).fst), .int .i64 ((g.snd.fst.snd i).snd.fst), .int .i64 ((g.snd.fst.snd i).snd.snd.fst), .int .i64 ((g.snd.fst.snd i).snd.snd.snd.fst)]))]] [] (.p (.bool (isGainF g))),
  (((!!isGainF g) = true) → ((!!isGainF g) = true)),
  (((!!isGainF g) = true) → ((0 : Nat) < 1)),
  (((!!isGainF g) = true) → ((!!isGainF g) = true)),
  (((!!isGainF g) = true) → (((-9223372036854775808) : Int) ≤ (g.fst - 1))),
  (((!!isGainF g) = true) → (((g.fst - 1) : Int) ≤ 9223372036854775807)),
  (((!!isGainF g) = true) → ((!!isGainF g) = true)),
  (((!!isGainF g) = true) → ((!!isGainF g) = true)),
  (((!!isGainF g) = true) → Con (Try.prog) 37 0 [] [.p (.int .i64 (v)), .p (.int .i64 0), .p (.int .i64 (g.fst - 1))] [] (.p (.bool (inB v 0 (g.fst - 1))))),
  (((!!isGainF g) = true) → ((!!isGainF g) = true)),
  (((!isGainF g) = false) → ((!!isGainF g) = true)),
  (((!bif !isGainF g then true else !inB v 0 (g.fst - 1)) = true) → ((!bif !isGainF g then true else !inB v 0 (g.fst - 1)) = true)),
  (((!bif !isGainF g then true else !inB v 0 (g.fst - 1)) = true) → Con (Try.prog) 37 0 [] [.p (.int .i64 (x)), .p (.int .i64 (-9)), .p (.int .i64 9)] [] (.p (.bool (inB x (-9) 9)))),
  (((!bif !isGainF g then true else !inB v 0 (g.fst - 1)) = true) → ((!bif !isGainF g then true else !inB v 0 (g.fst - 1)) = true)),
  (((bif !isGainF g then true else !inB v 0 (g.fst - 1)) = false) → ((!bif !isGainF g then true else !inB v 0 (g.fst - 1)) = true)),
  (((!bif bif !isGainF g then true else !inB v 0 (g.fst - 1) then true else !inB x (-9) 9) = true) → ((!bif bif !isGainF g then true else !inB v 0 (g.fst - 1) then true else !inB x (-9) 9) = true)),
  (((!bif bif !isGainF g then true else !inB v 0 (g.fst - 1) then true else !inB x (-9) 9) = true) → Con (Try.prog) 37 0 [] [.p (.int .i64 (y)), .p (.int .i64 (-9)), .p (.int .i64 9)] [] (.p (.bool (inB y (-9) 9)))),
  (((!bif bif !isGainF g then true else !inB v 0 (g.fst - 1) then true else !inB x (-9) 9) = true) → ((!bif bif !isGainF g then true else !inB v 0 (g.fst - 1) then true else !inB x (-9) 9) = true)),
  (((bif bif !isGainF g then true else !inB v 0 (g.fst - 1) then true else !inB x (-9) 9) = false) → ((!bif bif !isGainF g then true else !inB v 0 (g.fst - 1) then true else !inB x (-9) 9) = true)),
  ((bif bif bif !isGainF g then true else !inB v 0 (g.fst - 1) then true else !inB x (-9) 9 then true else !inB y (-9) 9) = false),
  ((0 : Nat) < 1),
  ((0 : Nat) < 1),
  (((true) = true) → ((1 : Nat) = 1)),
  ((0 : Nat) < 1),
  (((g.fst) : Int) = (g.fst)),
  (((g.snd.fst.fst) : Nat) = (g.snd.fst.fst)),
  (∀ i : Nat, ((((i) : Nat) < (g.snd.fst.fst)) → (([.int .i64 ((g.snd.fst.snd i).fst), .int .i64 ((g.snd.fst.snd i).snd.fst), .int .i64 ((g.snd.fst.snd i).snd.snd.fst), .int .i64 ((g.snd.fst.snd i).snd.snd.snd.fst)] : List PV) = [.int .i64 ((g.snd.fst.snd i).fst), .int .i64 ((g.snd.fst.snd i).snd.fst), .int .i64 ((g.snd.fst.snd i).snd.snd.fst), .int .i64 ((g.snd.fst.snd i).snd.snd.snd.fst)]))),
  (((v) : Int) = (v)),
  (((x) : Int) = (x)),
  (((y) : Int) = (y)),
  ((0 : Nat) = 0),
  ((0 : Nat) = 0),
  ((0 : Nat) = 0),
  ((0 : Nat) = 0),
  (((g.snd.fst.fst) : Nat) = (g.snd.fst.fst)),
  (∀ i : Nat, ((((i) : Nat) < (g.snd.fst.fst)) → (([.int .i64 ((g.snd.fst.snd i).fst), .int .i64 ((g.snd.fst.snd i).snd.fst), .int .i64 ((g.snd.fst.snd i).snd.snd.fst), .int .i64 ((g.snd.fst.snd i).snd.snd.snd.fst)] : List PV) = [.int .i64 ((g.snd.fst.snd i).fst), .int .i64 ((g.snd.fst.snd i).snd.fst), .int .i64 ((g.snd.fst.snd i).snd.snd.fst), .int .i64 ((g.snd.fst.snd i).snd.snd.snd.fst)]))),
  ((((↑g.snd.fst.fst : Int)) : Int) = ((↑g.snd.fst.fst : Int))),
  ((0 : Int) = ((↑0 : Int))),
  ((([AV.p (PV.int IntKind.i64 g.fst), AV.p (PV.seq true 4 g.snd.fst.fst fun i => [PV.int IntKind.i64 (g.snd.fst.snd i).fst, PV.int IntKind.i64 (g.snd.fst.snd i).snd.fst, PV.int IntKind.i64 (g.snd.fst.snd i).snd.snd.fst, PV.int IntKind.i64 (g.snd.fst.snd i).snd.snd.snd.fst])].length) : Nat) = 2),
  ((1 : Nat) ≤ 1),
  ((1 : Nat) ≤ 1),
  (((g.fst) : Int) = (g.fst)),
  (((g.snd.fst.fst) : Nat) = (g.snd.fst.fst)),
  (∀ i : Nat, ((((i) : Nat) < (g.snd.fst.fst)) → (([.int .i64 ((g.snd.fst.snd i).fst), .int .i64 ((g.snd.fst.snd i).snd.fst), .int .i64 ((g.snd.fst.snd i).snd.snd.fst), .int .i64 ((g.snd.fst.snd i).snd.snd.snd.fst)] : List PV) = [.int .i64 ((g.snd.fst.snd i).fst), .int .i64 ((g.snd.fst.snd i).snd.fst), .int .i64 ((g.snd.fst.snd i).snd.snd.fst), .int .i64 ((g.snd.fst.snd i).snd.snd.snd.fst)]))),
  ((((List.map (fun v => AV.p (absV v)) [Value.int IntKind.i64 0, Value.slice none 0 0]).length) : Nat) = 2),
  ((1 : Nat) ≤ 1),
  ((1 : Nat) ≤ 1),
  ((0 : Int) = 0),
  ((4 : Nat) = 4),
  (((g.snd.fst.fst) : Nat) ≤ (0 + g.snd.fst.fst)),
  (∀ i : Nat, ((((i) : Nat) < (g.snd.fst.fst)) → (All [] ∧ (([.p (.int .i64 ((g.snd.fst.snd i).fst)), .p (.int .i64 ((g.snd.fst.snd i).snd.fst)), .p (.int .i64 ((g.snd.fst.snd i).snd.snd.fst)), .p (.int .i64 ((g.snd.fst.snd i).snd.snd.snd.fst))] : List AV) = [.p (.int .i64 ((g.snd.fst.snd i).fst)), .p (.int .i64 ((g.snd.fst.snd i).snd.fst)), .p (.int .i64 ((g.snd.fst.snd i).snd.snd.fst)), .p (.int .i64 ((g.snd.fst.snd i).snd.snd.snd.fst))])))),
  ((((List.map (fun v => AV.p (absV v)) [Value.int IntKind.i64 0, Value.slice none 0 0]).length) : Nat) = 2),
  ((1 : Nat) ≤ 1),
  ((1 : Nat) ≤ 1),
  (((g.fst) : Int) = (g.fst)),
  ((0 : Nat) = 0),
  (((0 + g.snd.fst.fst) : Nat) = (g.snd.fst.fst)),
  ((((List.map (fun v => AV.p (absV v)) [Value.int IntKind.i64 0, Value.slice none 0 0]).length) : Nat) = 2),
  ((1 : Nat) ≤ 1),
  ((1 : Nat) ≤ 1),
  (((g.fst) : Int) = (g.fst)),
  ((0 : Nat) = 0),
  ((0 : Nat) = 0)]) := by kernel_rfl
theorem p24b1 (g : T_GainGraph) (v x y : Int) (k : Nat) :
    pieceOb Try.prog 0 [.reg [oT], .dec true, .reg [oT, oT, oT, oT], .reg [oT, oT, oT, oT, oT, oT, oT, oT, oT, oT], .dec true, .reg [oT, oT, oT, oT, oT, oT, oT, oT, oT, oT, oT, oT], .reg [oT, oT, oT, oT, oT, oT, oT], .reg [oT, oT], .head] [.code (cAt (bodyOf Try.f24) [1, 1, 1, 1, 0, 1, 0, 0]), .inLoop (cAt (bodyOf Try.f24) [1, 1, 1, 1, 0, 1, 0, 0]), .inBlock 0, .code (cAt (bodyOf Try.f24) [1, 1, 1, 1, 1])] (S24 g v x y k) [0, 1, 2, 3, 4, 998] 1 (S24 g v x y (k + 1)) =
    some ([.code (cAt (bodyOf Try.f24) [1, 1, 1, 1, 0, 1, 0, 0]), .inLoop (cAt (bodyOf Try.f24) [1, 1, 1, 1, 0, 1, 0, 0]), .inBlock 0, .code (cAt (bodyOf Try.f24) [1, 1, 1, 1, 1])], [((decide ((↑k : Int) < (↑g.snd.fst.fst : Int))) = true),
  ((0 : Int) ≤ ((↑k : Int))),
  ((((↑k : Int)) : Int) < ((↑g.snd.fst.fst : Int))),
  ((0 : Nat) < 1),
  (((true) = true) → ((1 : Nat) = 1)),
  ((0 : Nat) < 1),
  ((((g.snd.fst.snd k).fst == v) = true) → (((g.snd.fst.snd k).fst == v) = true)),
  ((((g.snd.fst.snd k).fst == v) = true) → ((0 : Nat) < 1)),
  ((((g.snd.fst.snd k).fst == v) = true) → (((g.snd.fst.snd k).fst == v) = true)),
  ((((g.snd.fst.snd k).fst == v) = true) → (((g.snd.fst.snd k).fst == v) = true)),
  ((((g.snd.fst.snd k).fst == v) = true) → (((g.snd.fst.snd k).fst == v) = true)),
  ((bif (g.snd.fst.snd k).fst == v then (g.snd.fst.snd k).snd.fst != v else false) = true),
  ((0 : Nat) < 1),
  (((-9223372036854775808) : Int) ≤ ((g.snd.fst.snd k).snd.snd.fst + x)),
  ((((g.snd.fst.snd k).snd.snd.fst + x) : Int) ≤ 9223372036854775807),
  ((0 : Nat) < 1),
  (((-9223372036854775808) : Int) ≤ ((g.snd.fst.snd k).snd.snd.snd.fst + y)),
  ((((g.snd.fst.snd k).snd.snd.snd.fst + y) : Int) ≤ 9223372036854775807),
  ((0 : Nat) < 1),
  (((true) = true) → ((1 : Nat) = 1)),
  ((0 : Nat) < 1),
  (((true) = true) → ((1 : Nat) = 1)),
  ((0 : Nat) < 1),
  ((0 : Nat) < 1),
  ((1 : Nat) ≤ 1),
  (((k) : Nat) ≤ (k)),
  ((((k + 1) * 32) : Nat) ≤ 140737488355328),
  (((k + 1) : Nat) ≤ 9223372036854775807),
  ((0 : Nat) < 1),
  (((true) = true) → ((1 : Nat) = 1)),
  (((-9223372036854775808) : Int) ≤ ((↑k : Int) + 1)),
  ((((↑k : Int) + 1) : Int) ≤ 9223372036854775807),
  (((g.fst) : Int) = (g.fst)),
  (((g.snd.fst.fst) : Nat) = (g.snd.fst.fst)),
  (∀ i : Nat, ((((i) : Nat) < (g.snd.fst.fst)) → (([.int .i64 ((g.snd.fst.snd i).fst), .int .i64 ((g.snd.fst.snd i).snd.fst), .int .i64 ((g.snd.fst.snd i).snd.snd.fst), .int .i64 ((g.snd.fst.snd i).snd.snd.snd.fst)] : List PV) = [.int .i64 ((g.snd.fst.snd i).fst), .int .i64 ((g.snd.fst.snd i).snd.fst), .int .i64 ((g.snd.fst.snd i).snd.snd.fst), .int .i64 ((g.snd.fst.snd i).snd.snd.snd.fst)]))),
  (((v) : Int) = (v)),
  (((x) : Int) = (x)),
  (((y) : Int) = (y)),
  ((0 : Nat) = 0),
  ((0 : Nat) = 0),
  ((0 : Nat) = 0),
  ((0 : Nat) = 0),
  (((g.snd.fst.fst) : Nat) = (g.snd.fst.fst)),
  (∀ i : Nat, ((((i) : Nat) < (g.snd.fst.fst)) → (([.int .i64 ((g.snd.fst.snd i).fst), .int .i64 ((g.snd.fst.snd i).snd.fst), .int .i64 ((g.snd.fst.snd i).snd.snd.fst), .int .i64 ((g.snd.fst.snd i).snd.snd.snd.fst)] : List PV) = [.int .i64 ((g.snd.fst.snd i).fst), .int .i64 ((g.snd.fst.snd i).snd.fst), .int .i64 ((g.snd.fst.snd i).snd.snd.fst), .int .i64 ((g.snd.fst.snd i).snd.snd.snd.fst)]))),
  ((((↑g.snd.fst.fst : Int)) : Int) = ((↑g.snd.fst.fst : Int))),
  ((((↑k : Int) + 1) : Int) = ((↑(k + 1) : Int))),
  ((2 : Nat) = 2),
  ((1 : Nat) ≤ 1),
  ((1 : Nat) ≤ 1),
  (((g.fst) : Int) = (g.fst)),
  (((g.snd.fst.fst) : Nat) = (g.snd.fst.fst)),
  (∀ i : Nat, ((((i) : Nat) < (g.snd.fst.fst)) → (([.int .i64 ((g.snd.fst.snd i).fst), .int .i64 ((g.snd.fst.snd i).snd.fst), .int .i64 ((g.snd.fst.snd i).snd.snd.fst), .int .i64 ((g.snd.fst.snd i).snd.snd.snd.fst)] : List PV) = [.int .i64 ((g.snd.fst.snd i).fst), .int .i64 ((g.snd.fst.snd i).snd.fst), .int .i64 ((g.snd.fst.snd i).snd.snd.fst), .int .i64 ((g.snd.fst.snd i).snd.snd.snd.fst)]))),
  ((2 : Nat) = 2),
  ((1 : Nat) ≤ 1),
  ((1 : Nat) ≤ 1),
  ((0 : Int) = 0),
  ((4 : Nat) = 4),
  (((g.snd.fst.fst) : Nat) ≤ (g.snd.fst.fst)),
  (∀ i : Nat, ((((i) : Nat) < (g.snd.fst.fst)) → (All [] ∧ (([.p (.int .i64 ((g.snd.fst.snd i).fst)), .p (.int .i64 ((g.snd.fst.snd i).snd.fst)), .p (.int .i64 ((g.snd.fst.snd i).snd.snd.fst)), .p (.int .i64 ((g.snd.fst.snd i).snd.snd.snd.fst))] : List AV) = [.p (.int .i64 ((g.snd.fst.snd i).fst)), .p (.int .i64 ((g.snd.fst.snd i).snd.fst)), .p (.int .i64 ((g.snd.fst.snd i).snd.snd.fst)), .p (.int .i64 ((g.snd.fst.snd i).snd.snd.snd.fst))])))),
  ((2 : Nat) = 2),
  ((1 : Nat) ≤ 1),
  ((1 : Nat) ≤ 1),
  (((g.fst) : Int) = (g.fst)),
  ((0 : Nat) = 0),
  (((g.snd.fst.fst) : Nat) = (g.snd.fst.fst)),
  ((2 : Nat) = 2),
  ((1 : Nat) ≤ 1),
  ((1 : Nat) ≤ 1),
  (((g.fst) : Int) = (g.fst)),
  ((0 : Nat) = 0),
  (((k + 1) : Nat) = (k + 1)),
  ((4 : Nat) = 4),
  (((k + 1) : Nat) ≤ (k + 1)),
  (∀ i : Nat, ((((i) : Nat) < (k + 1)) → (All (cvtL false [(4, ⟨true, 2, 1, (fun i_1 => [.p (.int .i64 (g.fst)), .ar 4 998 0 (k + 1)])⟩), (998, ⟨false, 4, (k + 1), (fun i_1 => (if (i_1 < k) then [.p (.int .i64 ((g.snd.fst.snd i_1).fst)), .p (.int .i64 ((g.snd.fst.snd i_1).snd.fst)), .p (.int .i64 (mX g v x i_1)), .p (.int .i64 (mY g v y i_1))] else [.p (.int .i64 ((g.snd.fst.snd k).fst)), .p (.int .i64 ((g.snd.fst.snd k).snd.fst)), .p (.int .i64 ((g.snd.fst.snd k).snd.snd.fst + x)), .p (.int .i64 ((g.snd.fst.snd k).snd.snd.snd.fst + y))]))⟩), (966, ⟨false, 4, 1, (fun i_1 => [.p (.int .i64 ((g.snd.fst.snd k).fst)), .p (.int .i64 ((g.snd.fst.snd k).snd.fst)), .p (.int .i64 ((g.snd.fst.snd k).snd.snd.fst + x)), .p (.int .i64 ((g.snd.fst.snd k).snd.snd.snd.fst + y))])⟩), (102, ⟨true, 4, 1, (fun i_1 => [.p (.int .i64 ((g.snd.fst.snd k).fst)), .p (.int .i64 ((g.snd.fst.snd k).snd.fst)), .p (.int .i64 ((g.snd.fst.snd k).snd.snd.fst + x)), .p (.int .i64 ((g.snd.fst.snd k).snd.snd.snd.fst + y))])⟩), (0, ⟨true, 2, 1, (fun i_1 => [.p (.int .i64 (g.fst)), .p (.seq true 4 (g.snd.fst.fst) (fun i_2 => [.int .i64 ((g.snd.fst.snd i_2).fst), .int .i64 ((g.snd.fst.snd i_2).snd.fst), .int .i64 ((g.snd.fst.snd i_2).snd.snd.fst), .int .i64 ((g.snd.fst.snd i_2).snd.snd.snd.fst)]))])⟩), (1, ⟨true, 2, 1, (fun i_1 => [.p (.int .i64 0), .p (.nil)])⟩), (2, ⟨false, 4, (g.snd.fst.fst), (fun i_1 => [.p (.int .i64 ((g.snd.fst.snd i_1).fst)), .p (.int .i64 ((g.snd.fst.snd i_1).snd.fst)), .p (.int .i64 ((g.snd.fst.snd i_1).snd.snd.fst)), .p (.int .i64 ((g.snd.fst.snd i_1).snd.snd.snd.fst))])⟩), (3, ⟨true, 2, 1, (fun i_1 => [.p (.int .i64 (g.fst)), .ar 4 2 0 (g.snd.fst.fst)])⟩)] [0, 1, 2, 3, 4, 998] 1 (if (i < k) then [.p (.int .i64 ((g.snd.fst.snd i).fst)), .p (.int .i64 ((g.snd.fst.snd i).snd.fst)), .p (.int .i64 (mX g v x i)), .p (.int .i64 (mY g v y i))] else [.p (.int .i64 ((g.snd.fst.snd k).fst)), .p (.int .i64 ((g.snd.fst.snd k).snd.fst)), .p (.int .i64 ((g.snd.fst.snd k).snd.snd.fst + x)), .p (.int .i64 ((g.snd.fst.snd k).snd.snd.snd.fst + y))])).2 ∧ (((cvtL false [(4, ⟨true, 2, 1, (fun i_1 => [.p (.int .i64 (g.fst)), .ar 4 998 0 (k + 1)])⟩), (998, ⟨false, 4, (k + 1), (fun i_1 => (if (i_1 < k) then [.p (.int .i64 ((g.snd.fst.snd i_1).fst)), .p (.int .i64 ((g.snd.fst.snd i_1).snd.fst)), .p (.int .i64 (mX g v x i_1)), .p (.int .i64 (mY g v y i_1))] else [.p (.int .i64 ((g.snd.fst.snd k).fst)), .p (.int .i64 ((g.snd.fst.snd k).snd.fst)), .p (.int .i64 ((g.snd.fst.snd k).snd.snd.fst + x)), .p (.int .i64 ((g.snd.fst.snd k).snd.snd.snd.fst + y))]))⟩), (966, ⟨false, 4, 1, (fun i_1 => [.p (.int .i64 ((g.snd.fst.snd k).fst)), .p (.int .i64 ((g.snd.fst.snd k).snd.fst)), .p (.int .i64 ((g.snd.fst.snd k).snd.snd.fst + x)), .p (.int .i64 ((g.snd.fst.snd k).snd.snd.snd.fst + y))])⟩), (102, ⟨true, 4, 1, (fun i_1 => [.p (.int .i64 ((g.snd.fst.snd k).fst)), .p (.int .i64 ((g.snd.fst.snd k).snd.fst)), .p (.int .i64 ((g.snd.fst.snd k).snd.snd.fst + x)), .p (.int .i64 ((g.snd.fst.snd k).snd.snd.snd.fst + y))])⟩), (0, ⟨true, 2, 1, (fun i_1 => [.p (.int .i64 (g.fst)), .p (.seq true 4 (g.snd.fst.fst) (fun i_2 => [.int .i64 ((g.snd.fst.snd i_2).fst), .int .i64 ((g.snd.fst.snd i_2).snd.fst), .int .i64 ((g.snd.fst.snd i_2).snd.snd.fst), .int .i64 ((g.snd.fst.snd i_2).snd.snd.snd.fst)]))])⟩), (1, ⟨true, 2, 1, (fun i_1 => [.p (.int .i64 0), .p (.nil)])⟩), (2, ⟨false, 4, (g.snd.fst.fst), (fun i_1 => [.p (.int .i64 ((g.snd.fst.snd i_1).fst)), .p (.int .i64 ((g.snd.fst.snd i_1).snd.fst)), .p (.int .i64 ((g.snd.fst.snd i_1).snd.snd.fst)), .p (.int .i64 ((g.snd.fst.snd i_1).snd.snd.snd.fst))])⟩), (3, ⟨true, 2, 1, (fun i_1 => [.p (.int .i64 (g.fst)), .ar 4 2 0 (g.snd.fst.fst)])⟩)] [0, 1, 2, 3, 4, 998] 1 (if (i < k) then [.p (.int .i64 ((g.snd.fst.snd i).fst)), .p (.int .i64 ((g.snd.fst.snd i).snd.fst)), .p (.int .i64 (mX g v x i)), .p (.int .i64 (mY g v y i))] else [.p (.int .i64 ((g.snd.fst.snd k).fst)), .p (.int .i64 ((g.snd.fst.snd k).snd.fst)), .p (.int .i64 ((g.snd.fst.snd k).snd.snd.fst + x)), .p (.int .i64 ((g.snd.fst.snd k).snd.snd.snd.fst + y))])).1 : List AV) = [.p (.int .i64 ((g.snd.fst.snd i).fst)), .p (.int .i64 ((g.snd.fst.snd i).snd.fst)), .p (.int .i64 (mX g v x i)), .p (.int .i64 (mY g v y i))]))))]) := by kernel_rfl
theorem p24b2 (g : T_GainGraph) (v x y : Int) (k : Nat) :
    pieceOb Try.prog 0 [.reg [oT], .dec true, .reg [oT, oT, oT, oT], .reg [oT, oT, oT, oT, oT, oT, oT, oT, oT, oT], .dec false, .reg [oT, oT, oT, oT, oT, oT, oT, oT, oT, oT], .dec true, .reg [oT, oT, oT, oT, oT, oT, oT, oT, oT, oT, oT, oT], .reg [oT, oT, oT, oT, oT, oT, oT], .reg [oT, oT], .head] [.code (cAt (bodyOf Try.f24) [1, 1, 1, 1, 0, 1, 0, 0]), .inLoop (cAt (bodyOf Try.f24) [1, 1, 1, 1, 0, 1, 0, 0]), .inBlock 0, .code (cAt (bodyOf Try.f24) [1, 1, 1, 1, 1])] (S24 g v x y k) [0, 1, 2, 3, 4, 1318] 1 (S24 g v x y (k + 1)) =
    some ([.code (cAt (bodyOf Try.f24) [1, 1, 1, 1, 0, 1, 0, 0]), .inLoop (cAt (bodyOf Try.f24) [1, 1, 1, 1, 0, 1, 0, 0]), .inBlock 0, .code (cAt (bodyOf Try.f24) [1, 1, 1, 1, 1])], [((decide ((↑k : Int) < (↑g.snd.fst.fst : Int))) = true),
  ((0 : Int) ≤ ((↑k : Int))),
  ((((↑k : Int)) : Int) < ((↑g.snd.fst.fst : Int))),
  ((0 : Nat) < 1),
  (((true) = true) → ((1 : Nat) = 1)),
  ((0 : Nat) < 1),
  ((((g.snd.fst.snd k).fst == v) = true) → (((g.snd.fst.snd k).fst == v) = true)),
  ((((g.snd.fst.snd k).fst == v) = true) → ((0 : Nat) < 1)),
  ((((g.snd.fst.snd k).fst == v) = true) → (((g.snd.fst.snd k).fst == v) = true)),
  ((((g.snd.fst.snd k).fst == v) = true) → (((g.snd.fst.snd k).fst == v) = true)),
  ((((g.snd.fst.snd k).fst == v) = true) → (((g.snd.fst.snd k).fst == v) = true)),
  ((bif (g.snd.fst.snd k).fst == v then (g.snd.fst.snd k).snd.fst != v else false) = false),
  ((0 : Nat) < 1),
  ((((g.snd.fst.snd k).snd.fst == v) = true) → (((g.snd.fst.snd k).snd.fst == v) = true)),
  ((((g.snd.fst.snd k).snd.fst == v) = true) → ((0 : Nat) < 1)),
  ((((g.snd.fst.snd k).snd.fst == v) = true) → (((g.snd.fst.snd k).snd.fst == v) = true)),
  ((((g.snd.fst.snd k).snd.fst == v) = true) → (((g.snd.fst.snd k).snd.fst == v) = true)),
  ((((g.snd.fst.snd k).snd.fst == v) = true) → (((g.snd.fst.snd k).snd.fst == v) = true)),
  ((bif (g.snd.fst.snd k).snd.fst == v then (g.snd.fst.snd k).fst != v else false) = true),
  ((0 : Nat) < 1),
  (((-9223372036854775808) : Int) ≤ ((g.snd.fst.snd k).snd.snd.fst - x)),
  ((((g.snd.fst.snd k).snd.snd.fst - x) : Int) ≤ 9223372036854775807),
  ((0 : Nat) < 1),
  (((-9223372036854775808) : Int) ≤ ((g.snd.fst.snd k).snd.snd.snd.fst - y)),
  ((((g.snd.fst.snd k).snd.snd.snd.fst - y) : Int) ≤ 9223372036854775807),
  ((0 : Nat) < 1),
  (((true) = true) → ((1 : Nat) = 1)),
  ((0 : Nat) < 1),
  (((true) = true) → ((1 : Nat) = 1)),
  ((0 : Nat) < 1),
  ((0 : Nat) < 1),
  ((1 : Nat) ≤ 1),
  (((k) : Nat) ≤ (k)),
  ((((k + 1) * 32) : Nat) ≤ 140737488355328),
  (((k + 1) : Nat) ≤ 9223372036854775807),
  ((0 : Nat) < 1),
  (((true) = true) → ((1 : Nat) = 1)),
  (((-9223372036854775808) : Int) ≤ ((↑k : Int) + 1)),
  ((((↑k : Int) + 1) : Int) ≤ 9223372036854775807),
  (((g.fst) : Int) = (g.fst)),
  (((g.snd.fst.fst) : Nat) = (g.snd.fst.fst)),
  (∀ i : Nat, ((((i) : Nat) < (g.snd.fst.fst)) → (([.int .i64 ((g.snd.fst.snd i).fst), .int .i64 ((g.snd.fst.snd i).snd.fst), .int .i64 ((g.snd.fst.snd i).snd.snd.fst), .int .i64 ((g.snd.fst.snd i).snd.snd.snd.fst)] : List PV) = [.int .i64 ((g.snd.fst.snd i).fst), .int .i64 ((g.snd.fst.snd i).snd.fst), .int .i64 ((g.snd.fst.snd i).snd.snd.fst), .int .i64 ((g.snd.fst.snd i).snd.snd.snd.fst)]))),
  (((v) : Int) = (v)),
  (((x) : Int) = (x)),
  (((y) : Int) = (y)),
  ((0 : Nat) = 0),
  ((0 : Nat) = 0),
  ((0 : Nat) = 0),
  ((0 : Nat) = 0),
  (((g.snd.fst.fst) : Nat) = (g.snd.fst.fst)),
  (∀ i : Nat, ((((i) : Nat) < (g.snd.fst.fst)) → (([.int .i64 ((g.snd.fst.snd i).fst), .int .i64 ((g.snd.fst.snd i).snd.fst), .int .i64 ((g.snd.fst.snd i).snd.snd.fst), .int .i64 ((g.snd.fst.snd i).snd.snd.snd.fst)] : List PV) = [.int .i64 ((g.snd.fst.snd i).fst), .int .i64 ((g.snd.fst.snd i).snd.fst), .int .i64 ((g.snd.fst.snd i).snd.snd.fst), .int .i64 ((g.snd.fst.snd i).snd.snd.snd.fst)]))),
  ((((↑g.snd.fst.fst : Int)) : Int) = ((↑g.snd.fst.fst : Int))),
  ((((↑k : Int) + 1) : Int) = ((↑(k + 1) : Int))),
  ((2 : Nat) = 2),
  ((1 : Nat) ≤ 1),
  ((1 : Nat) ≤ 1),
  (((g.fst) : Int) = (g.fst)),
  (((g.snd.fst.fst) : Nat) = (g.snd.fst.fst)),
  (∀ i : Nat, ((((i) : Nat) < (g.snd.fst.fst)) → (([.int .i64 ((g.snd.fst.snd i).fst), .int .i64 ((g.snd.fst.snd i).snd.fst), .int .i64 ((g.snd.fst.snd i).snd.snd.fst), .int .i64 ((g.snd.fst.snd i).snd.snd.snd.fst)] : List PV) = [.int .i64 ((g.snd.fst.snd i).fst), .int .i64 ((g.snd.fst.snd i).snd.fst), .int .i64 ((g.snd.fst.snd i).snd.snd.fst), .int .i64 ((g.snd.fst.snd i).snd.snd.snd.fst)]))),
  ((2 : Nat) = 2),
  ((1 : Nat) ≤ 1),
  ((1 : Nat) ≤ 1),
  ((0 : Int) = 0),
  ((4 : Nat) = 4),
  (((g.snd.fst.fst) : Nat) ≤ (g.snd.fst.fst)),
  (∀ i : Nat, ((((i) : Nat) < (g.snd.fst.fst)) → (All [] ∧ (([.p (.int .i64 ((g.snd.fst.snd i).fst)), .p (.int .i64 ((g.snd.fst.snd i).snd.fst)), .p (.int .i64 ((g.snd.fst.snd i).snd.snd.fst)), .p (.int .i64 ((g.snd.fst.snd i).snd.snd.snd.fst))] : List AV) = [.p (.int .i64 ((g.snd.fst.snd i).fst)), .p (.int .i64 ((g.snd.fst.snd i).snd.fst)), .p (.int .i64 ((g.snd.fst.snd i).snd.snd.fst)), .p (.int .i64 ((g.snd.fst.snd i).snd.snd.snd.fst))])))),
  ((2 : Nat) = 2),
  ((1 : Nat) ≤ 1),
  ((1 : Nat) ≤ 1),
  (((g.fst) : Int) = (g.fst)),
  ((0 : Nat) = 0),
  (((g.snd.fst.fst) : Nat) = (g.snd.fst.fst)),
  ((2 : Nat) = 2),
  ((1 : Nat) ≤ 1),
  ((1 : Nat) ≤ 1),
  (((g.fst) : Int) = (g.fst)),
  ((0 : Nat) = 0),
  (((k + 1) : Nat) = (k + 1)),
  ((4 : Nat) = 4),
  (((k + 1) : Nat) ≤ (k + 1)),
  (∀ i : Nat, ((((i) : Nat) < (k + 1)) → (All (cvtL false [(4, ⟨true, 2, 1, (fun i_1 => [.p (.int .i64 (g.fst)), .ar 4 1318 0 (k + 1)])⟩), (1318, ⟨false, 4, (k + 1), (fun i_1 => (if (i_1 < k) then [.p (.int .i64 ((g.snd.fst.snd i_1).fst)), .p (.int .i64 ((g.snd.fst.snd i_1).snd.fst)), .p (.int .i64 (mX g v x i_1)), .p (.int .i64 (mY g v y i_1))] else [.p (.int .i64 ((g.snd.fst.snd k).fst)), .p (.int .i64 ((g.snd.fst.snd k).snd.fst)), .p (.int .i64 ((g.snd.fst.snd k).snd.snd.fst - x)), .p (.int .i64 ((g.snd.fst.snd k).snd.snd.snd.fst - y))]))⟩), (1286, ⟨false, 4, 1, (fun i_1 => [.p (.int .i64 ((g.snd.fst.snd k).fst)), .p (.int .i64 ((g.snd.fst.snd k).snd.fst)), .p (.int .i64 ((g.snd.fst.snd k).snd.snd.fst - x)), .p (.int .i64 ((g.snd.fst.snd k).snd.snd.snd.fst - y))])⟩), (102, ⟨true, 4, 1, (fun i_1 => [.p (.int .i64 ((g.snd.fst.snd k).fst)), .p (.int .i64 ((g.snd.fst.snd k).snd.fst)), .p (.int .i64 ((g.snd.fst.snd k).snd.snd.fst - x)), .p (.int .i64 ((g.snd.fst.snd k).snd.snd.snd.fst - y))])⟩), (0, ⟨true, 2, 1, (fun i_1 => [.p (.int .i64 (g.fst)), .p (.seq true 4 (g.snd.fst.fst) (fun i_2 => [.int .i64 ((g.snd.fst.snd i_2).fst), .int .i64 ((g.snd.fst.snd i_2).snd.fst), .int .i64 ((g.snd.fst.snd i_2).snd.snd.fst), .int .i64 ((g.snd.fst.snd i_2).snd.snd.snd.fst)]))])⟩), (1, ⟨true, 2, 1, (fun i_1 => [.p (.int .i64 0), .p (.nil)])⟩), (2, ⟨false, 4, (g.snd.fst.fst), (fun i_1 => [.p (.int .i64 ((g.snd.fst.snd i_1).fst)), .p (.int .i64 ((g.snd.fst.snd i_1).snd.fst)), .p (.int .i64 ((g.snd.fst.snd i_1).snd.snd.fst)), .p (.int .i64 ((g.snd.fst.snd i_1).snd.snd.snd.fst))])⟩), (3, ⟨true, 2, 1, (fun i_1 => [.p (.int .i64 (g.fst)), .ar 4 2 0 (g.snd.fst.fst)])⟩)] [0, 1, 2, 3, 4, 1318] 1 (if (i < k) then [.p (.int .i64 ((g.snd.fst.snd i).fst)), .p (.int .i64 ((g.snd.fst.snd i).snd.fst)), .p (.int .i64 (mX g v x i)), .p (.int .i64 (mY g v y i))] else [.p (.int .i64 ((g.snd.fst.snd k).fst)), .p (.int .i64 ((g.snd.fst.snd k).snd.fst)), .p (.int .i64 ((g.snd.fst.snd k).snd.snd.fst - x)), .p (.int .i64 ((g.snd.fst.snd k).snd.snd.snd.fst - y))])).2 ∧ (((cvtL false [(4, ⟨true, 2, 1, (fun i_1 => [.p (.int .i64 (g.fst)), .ar 4 1318 0 (k + 1)])⟩), (1318, ⟨false, 4, (k + 1), (fun i_1 => (if (i_1 < k) then [.p (.int .i64 ((g.snd.fst.snd i_1).fst)), .p (.int .i64 ((g.snd.fst.snd i_1).snd.fst)), .p (.int .i64 (mX g v x i_1)), .p (.int .i64 (mY g v y i_1))] else [.p (.int .i64 ((g.snd.fst.snd k).fst)), .p (.int .i64 ((g.snd.fst.snd k).snd.fst)), .p (.int .i64 ((g.snd.fst.snd k).snd.snd.fst - x)), .p (.int .i64 ((g.snd.fst.snd k).snd.snd.snd.fst - y))]))⟩), (1286, ⟨false, 4, 1, (fun i_1 => [.p (.int .i64 ((g.snd.fst.snd k).fst)), .p (.int .i64 ((g.snd.fst.snd k).snd.fst)), .p (.int .i64 ((g.snd.fst.snd k).snd.snd.fst - x)), .p (.int .i64 ((g.snd.fst.snd k).snd.snd.snd.fst - y))])⟩), (102, ⟨true, 4, 1, (fun i_1 => [.p (.int .i64 ((g.snd.fst.snd k).fst)), .p (.int .i64 ((g.snd.fst.snd k).snd.fst)), .p (.int .i64 ((g.snd.fst.snd k).snd.snd.fst - x)), .p (.int .i64 ((g.snd.fst.snd k).snd.snd.snd.fst - y))])⟩), (0, ⟨true, 2, 1, (fun i_1 => [.p (.int .i64 (g.fst)), .p (.seq true 4 (g.snd.fst.fst) (fun i_2 => [.int .i64 ((g.snd.fst.snd i_2).fst), .int .i64 ((g.snd.fst.snd i_2).snd.fst), .int .i64 ((g.snd.fst.snd i_2).snd.snd.fst), .int .i64 ((g.snd.fst.snd i_2).snd.snd.snd.fst)]))])⟩), (1, ⟨true, 2, 1, (fun i_1 => [.p (.int .i64 0), .p (.nil)])⟩), (2, ⟨false, 4, (g.snd.fst.fst), (fun i_1 => [.p (.int .i64 ((g.snd.fst.snd i_1).fst)), .p (.int .i64 ((g.snd.fst.snd i_1).snd.fst)), .p (.int .i64 ((g.snd.fst.snd i_1).snd.snd.fst)), .p (.int .i64 ((g.snd.fst.snd i_1).snd.snd.snd.fst))])⟩), (3, ⟨true, 2, 1, (fun i_1 => [.p (.int .i64 (g.fst)), .ar 4 2 0 (g.snd.fst.fst)])⟩)] [0, 1, 2, 3, 4, 1318] 1 (if (i < k) then [.p (.int .i64 ((g.snd.fst.snd i).fst)), .p (.int .i64 ((g.snd.fst.snd i).snd.fst)), .p (.int .i64 (mX g v x i)), .p (.int .i64 (mY g v y i))] else [.p (.int .i64 ((g.snd.fst.snd k).fst)), .p (.int .i64 ((g.snd.fst.snd k).snd.fst)), .p (.int .i64 ((g.snd.fst.snd k).snd.snd.fst - x)), .p (.int .i64 ((g.snd.fst.snd k).snd.snd.snd.fst - y))])).1 : List AV) = [.p (.int .i64 ((g.snd.fst.snd i).fst)), .p (.int .i64 ((g.snd.fst.snd i).snd.fst)), .p (.int .i64 (mX g v x i)), .p (.int .i64 (mY g v y i))]))))]) := by kernel_rfl
theorem p24b3 (g : T_GainGraph) (v x y : Int) (k : Nat) :
    pieceOb Try.prog 0 [.reg [oT], .dec true, .reg [oT, oT, oT, oT], .reg [oT, oT, oT, oT, oT, oT, oT, oT, oT, oT], .dec false, .reg [oT, oT, oT, oT, oT, oT, oT, oT, oT, oT], .dec false, .reg [oT, oT, oT, oT, oT, oT, oT], .reg [oT, oT], .head] [.code (cAt (bodyOf Try.f24) [1, 1, 1, 1, 0, 1, 0, 0]), .inLoop (cAt (bodyOf Try.f24) [1, 1, 1, 1, 0, 1, 0, 0]), .inBlock 0, .code (cAt (bodyOf Try.f24) [1, 1, 1, 1, 1])] (S24 g v x y k) [0, 1, 2, 3, 4, 934] 1 (S24 g v x y (k + 1)) =
    some ([.code (cAt (bodyOf Try.f24) [1, 1, 1, 1, 0, 1, 0, 0]), .inLoop (cAt (bodyOf Try.f24) [1, 1, 1, 1, 0, 1, 0, 0]), .inBlock 0, .code (cAt (bodyOf Try.f24) [1, 1, 1, 1, 1])], [((decide ((↑k : Int) < (↑g.snd.fst.fst : Int))) = true),
  ((0 : Int) ≤ ((↑k : Int))),
  ((((↑k : Int)) : Int) < ((↑g.snd.fst.fst : Int))),
  ((0 : Nat) < 1),
  (((true) = true) → ((1 : Nat) = 1)),
  ((0 : Nat) < 1),
  ((((g.snd.fst.snd k).fst == v) = true) → (((g.snd.fst.snd k).fst == v) = true)),
  ((((g.snd.fst.snd k).fst == v) = true) → ((0 : Nat) < 1)),
  ((((g.snd.fst.snd k).fst == v) = true) → (((g.snd.fst.snd k).fst == v) = true)),
  ((((g.snd.fst.snd k).fst == v) = true) → (((g.snd.fst.snd k).fst == v) = true)),
  ((((g.snd.fst.snd k).fst == v) = true) → (((g.snd.fst.snd k).fst == v) = true)),
  ((bif (g.snd.fst.snd k).fst == v then (g.snd.fst.snd k).snd.fst != v else false) = false),
  ((0 : Nat) < 1),
  ((((g.snd.fst.snd k).snd.fst == v) = true) → (((g.snd.fst.snd k).snd.fst == v) = true)),
  ((((g.snd.fst.snd k).snd.fst == v) = true) → ((0 : Nat) < 1)),
  ((((g.snd.fst.snd k).snd.fst == v) = true) → (((g.snd.fst.snd k).snd.fst == v) = true)),
  ((((g.snd.fst.snd k).snd.fst == v) = true) → (((g.snd.fst.snd k).snd.fst == v) = true)),
  ((((g.snd.fst.snd k).snd.fst == v) = true) → (((g.snd.fst.snd k).snd.fst == v) = true)),
  ((bif (g.snd.fst.snd k).snd.fst == v then (g.snd.fst.snd k).fst != v else false) = false),
  ((0 : Nat) < 1),
  ((0 : Nat) < 1),
  ((1 : Nat) ≤ 1),
  (((k) : Nat) ≤ (k)),
  ((((k + 1) * 32) : Nat) ≤ 140737488355328),
  (((k + 1) : Nat) ≤ 9223372036854775807),
  ((0 : Nat) < 1),
  (((true) = true) → ((1 : Nat) = 1)),
  (((-9223372036854775808) : Int) ≤ ((↑k : Int) + 1)),
  ((((↑k : Int) + 1) : Int) ≤ 9223372036854775807),
  (((g.fst) : Int) = (g.fst)),
  (((g.snd.fst.fst) : Nat) = (g.snd.fst.fst)),
  (∀ i : Nat, ((((i) : Nat) < (g.snd.fst.fst)) → (([.int .i64 ((g.snd.fst.snd i).fst), .int .i64 ((g.snd.fst.snd i).snd.fst), .int .i64 ((g.snd.fst.snd i).snd.snd.fst), .int .i64 ((g.snd.fst.snd i).snd.snd.snd.fst)] : List PV) = [.int .i64 ((g.snd.fst.snd i).fst), .int .i64 ((g.snd.fst.snd i).snd.fst), .int .i64 ((g.snd.fst.snd i).snd.snd.fst), .int .i64 ((g.snd.fst.snd i).snd.snd.snd.fst)]))),
  (((v) : Int) = (v)),
  (((x) : Int) = (x)),
  (((y) : Int) = (y)),
  ((0 : Nat) = 0),
  ((0 : Nat) = 0),
  ((0 : Nat) = 0),
  ((0 : Nat) = 0),
  (((g.snd.fst.fst) : Nat) = (g.snd.fst.fst)),
  (∀ i : Nat, ((((i) : Nat) < (g.snd.fst.fst)) → (([.int .i64 ((g.snd.fst.snd i).fst), .int .i64 ((g.snd.fst.snd i).snd.fst), .int .i64 ((g.snd.fst.snd i).snd.snd.fst), .int .i64 ((g.snd.fst.snd i).snd.snd.snd.fst)] : List PV) = [.int .i64 ((g.snd.fst.snd i).fst), .int .i64 ((g.snd.fst.snd i).snd.fst), .int .i64 ((g.snd.fst.snd i).snd.snd.fst), .int .i64 ((g.snd.fst.snd i).snd.snd.snd.fst)]))),
  ((((↑g.snd.fst.fst : Int)) : Int) = ((↑g.snd.fst.fst : Int))),
  ((((↑k : Int) + 1) : Int) = ((↑(k + 1) : Int))),
  ((2 : Nat) = 2),
  ((1 : Nat) ≤ 1),
  ((1 : Nat) ≤ 1),
  (((g.fst) : Int) = (g.fst)),
  (((g.snd.fst.fst) : Nat) = (g.snd.fst.fst)),
  (∀ i : Nat, ((((i) : Nat) < (g.snd.fst.fst)) → (([.int .i64 ((g.snd.fst.snd i).fst), .int .i64 ((g.snd.fst.snd i).snd.fst), .int .i64 ((g.snd.fst.snd i).snd.snd.fst), .int .i64 ((g.snd.fst.snd i).snd.snd.snd.fst)] : List PV) = [.int .i64 ((g.snd.fst.snd i).fst), .int .i64 ((g.snd.fst.snd i).snd.fst), .int .i64 ((g.snd.fst.snd i).snd.snd.fst), .int .i64 ((g.snd.fst.snd i).snd.snd.snd.fst)]))),
  ((2 : Nat) = 2),
  ((1 : Nat) ≤ 1),
  ((1 : Nat) ≤ 1),
  ((0 : Int) = 0),
  ((4 : Nat) = 4),
  (((g.snd.fst.fst) : Nat) ≤ (g.snd.fst.fst)),
  (∀ i : Nat, ((((i) : Nat) < (g.snd.fst.fst)) → (All [] ∧ (([.p (.int .i64 ((g.snd.fst.snd i).fst)), .p (.int .i64 ((g.snd.fst.snd i).snd.fst)), .p (.int .i64 ((g.snd.fst.snd i).snd.snd.fst)), .p (.int .i64 ((g.snd.fst.snd i).snd.snd.snd.fst))] : List AV) = [.p (.int .i64 ((g.snd.fst.snd i).fst)), .p (.int .i64 ((g.snd.fst.snd i).snd.fst)), .p (.int .i64 ((g.snd.fst.snd i).snd.snd.fst)), .p (.int .i64 ((g.snd.fst.snd i).snd.snd.snd.fst))])))),
  ((2 : Nat) = 2),
  ((1 : Nat) ≤ 1),
  ((1 : Nat) ≤ 1),
  (((g.fst) : Int) = (g.fst)),
  ((0 : Nat) = 0),
  (((g.snd.fst.fst) : Nat) = (g.snd.fst.fst)),
  ((2 : Nat) = 2),
  ((1 : Nat) ≤ 1),
  ((1 : Nat) ≤ 1),
  (((g.fst) : Int) = (g.fst)),
  ((0 : Nat) = 0),
  (((k + 1) : Nat) = (k + 1)),
  ((4 : Nat) = 4),
  (((k + 1) : Nat) ≤ (k + 1)),
  (∀ i : Nat, ((((i) : Nat) < (k + 1)) → (All (cvtL false [(4, ⟨true, 2, 1, (fun i_1 => [.p (.int .i64 (g.fst)), .ar 4 934 0 (k + 1)])⟩), (934, ⟨false, 4, (k + 1), (fun i_1 => (if (i_1 < k) then [.p (.int .i64 ((g.snd.fst.snd i_1).fst)), .p (.int .i64 ((g.snd.fst.snd i_1).snd.fst)), .p (.int .i64 (mX g v x i_1)), .p (.int .i64 (mY g v y i_1))] else [.p (.int .i64 ((g.snd.fst.snd k).fst)), .p (.int .i64 ((g.snd.fst.snd k).snd.fst)), .p (.int .i64 ((g.snd.fst.snd k).snd.snd.fst)), .p (.int .i64 ((g.snd.fst.snd k).snd.snd.snd.fst))]))⟩), (902, ⟨false, 4, 1, (fun i_1 => [.p (.int .i64 ((g.snd.fst.snd k).fst)), .p (.int .i64 ((g.snd.fst.snd k).snd.fst)), .p (.int .i64 ((g.snd.fst.snd k).snd.snd.fst)), .p (.int .i64 ((g.snd.fst.snd k).snd.snd.snd.fst))])⟩), (102, ⟨true, 4, 1, (fun i_1 => [.p (.int .i64 ((g.snd.fst.snd k).fst)), .p (.int .i64 ((g.snd.fst.snd k).snd.fst)), .p (.int .i64 ((g.snd.fst.snd k).snd.snd.fst)), .p (.int .i64 ((g.snd.fst.snd k).snd.snd.snd.fst))])⟩), (0, ⟨true, 2, 1, (fun i_1 => [.p (.int .i64 (g.fst)), .p (.seq true 4 (g.snd.fst.fst) (fun i_2 => [.int .i64 ((g.snd.fst.snd i_2).fst), .int .i64 ((g.snd.fst.snd i_2).snd.fst), .int .i64 ((g.snd.fst.snd i_2).snd.snd.fst), .int .i64 ((g.snd.fst.snd i_2).snd.snd.snd.fst)]))])⟩), (1, ⟨true, 2, 1, (fun i_1 => [.p (.int .i64 0), .p (.nil)])⟩), (2, ⟨false, 4, (g.snd.fst.fst), (fun i_1 => [.p (.int .i64 ((g.snd.fst.snd i_1).fst)), .p (.int .i64 ((g.snd.fst.snd i_1).snd.fst)), .p (.int .i64 ((g.snd.fst.snd i_1).snd.snd.fst)), .p (.int .i64 ((g.snd.fst.snd i_1).snd.snd.snd.fst))])⟩), (3, ⟨true, 2, 1, (fun i_1 => [.p (.int .i64 (g.fst)), .ar 4 2 0 (g.snd.fst.fst)])⟩)] [0, 1, 2, 3, 4, 934] 1 (if (i < k) then [.p (.int .i64 ((g.snd.fst.snd i).fst)), .p (.int .i64 ((g.snd.fst.snd i).snd.fst)), .p (.int .i64 (mX g v x i)), .p (.int .i64 (mY g v y i))] else [.p (.int .i64 ((g.snd.fst.snd k).fst)), .p (.int .i64 ((g.snd.fst.snd k).snd.fst)), .p (.int .i64 ((g.snd.fst.snd k).snd.snd.fst)), .p (.int .i64 ((g.snd.fst.snd k).snd.snd.snd.fst))])).2 ∧ (((cvtL false [(4, ⟨true, 2, 1, (fun i_1 => [.p (.int .i64 (g.fst)), .ar 4 934 0 (k + 1)])⟩), (934, ⟨false, 4, (k + 1), (fun i_1 => (if (i_1 < k) then [.p (.int .i64 ((g.snd.fst.snd i_1).fst)), .p (.int .i64 ((g.snd.fst.snd i_1).snd.fst)), .p (.int .i64 (mX g v x i_1)), .p (.int .i64 (mY g v y i_1))] else [.p (.int .i64 ((g.snd.fst.snd k).fst)), .p (.int .i64 ((g.snd.fst.snd k).snd.fst)), .p (.int .i64 ((g.snd.fst.snd k).snd.snd.fst)), .p (.int .i64 ((g.snd.fst.snd k).snd.snd.snd.fst))]))⟩), (902, ⟨false, 4, 1, (fun i_1 => [.p (.int .i64 ((g.snd.fst.snd k).fst)), .p (.int .i64 ((g.snd.fst.snd k).snd.fst)), .p (.int .i64 ((g.snd.fst.snd k).snd.snd.fst)), .p (.int .i64 ((g.snd.fst.snd k).snd.snd.snd.fst))])⟩), (102, ⟨true, 4, 1, (fun i_1 => [.p (.int .i64 ((g.snd.fst.snd k).fst)), .p (.int .i64 ((g.snd.fst.snd k).snd.fst)), .p (.int .i64 ((g.snd.fst.snd k).snd.snd.fst)), .p (.int .i64 ((g.snd.fst.snd k).snd.snd.snd.fst))])⟩), (0, ⟨true, 2, 1, (fun i_1 => [.p (.int .i64 (g.fst)), .p (.seq true 4 (g.snd.fst.fst) (fun i_2 => [.int .i64 ((g.snd.fst.snd i_2).fst), .int .i64 ((g.snd.fst.snd i_2).snd.fst), .int .i64 ((g.snd.fst.snd i_2).snd.snd.fst), .int .i64 ((g.snd.fst.snd i_2).snd.snd.snd.fst)]))])⟩), (1, ⟨true, 2, 1, (fun i_1 => [.p (.int .i64 0), .p (.nil)])⟩), (2, ⟨false, 4, (g.snd.fst.fst), (fun i_1 => [.p (.int .i64 ((g.snd.fst.snd i_1).fst)), .p (.int .i64 ((g.snd.fst.snd i_1).snd.fst)), .p (.int .i64 ((g.snd.fst.snd i_1).snd.snd.fst)), .p (.int .i64 ((g.snd.fst.snd i_1).snd.snd.snd.fst))])⟩), (3, ⟨true, 2, 1, (fun i_1 => [.p (.int .i64 (g.fst)), .ar 4 2 0 (g.snd.fst.fst)])⟩)] [0, 1, 2, 3, 4, 934] 1 (if (i < k) then [.p (.int .i64 ((g.snd.fst.snd i).fst)), .p (.int .i64 ((g.snd.fst.snd i).snd.fst)), .p (.int .i64 (mX g v x i)), .p (.int .i64 (mY g v y i))] else [.p (.int .i64 ((g.snd.fst.snd k).fst)), .p (.int .i64 ((g.snd.fst.snd k).snd.fst)), .p (.int .i64 ((g.snd.fst.snd k).snd.snd.fst)), .p (.int .i64 ((g.snd.fst.snd k).snd.snd.snd.fst))])).1 : List AV) = [.p (.int .i64 ((g.snd.fst.snd i).fst)), .p (.int .i64 ((g.snd.fst.snd i).snd.fst)), .p (.int .i64 (mX g v x i)), .p (.int .i64 (mY g v y i))]))))]) := by kernel_rfl
theorem p24t (g : T_GainGraph) (v x y : Int) (k : Nat) (b : Bool) :
    pathOb Try.prog Try.f24 0 [.reg [oT], .dec false, .reg [oT, ⟨true, (some ⟨[], [], 1, [], .p (.bool b)⟩)⟩, oT], .dec true, .reg [oT, oT, oT]] [.code (cAt (bodyOf Try.f24) [1, 1, 1, 1, 0, 1, 0, 0]), .inLoop (cAt (bodyOf Try.f24) [1, 1, 1, 1, 0, 1, 0, 0]), .inBlock 0, .code (cAt (bodyOf Try.f24) [1, 1, 1, 1, 1])] (S24 g v x y k) [2] 1 [(0, gbOb g.2.1)] (.tup [gaO g 0, .p (.bool false)]) =
    some [((decide ((↑k : Int) < (↑g.snd.fst.fst : Int))) = false),
  ((0 : Nat) < 1),
  ((4 : Nat) = 4),
  (((k) : Nat) ≤ (k)),
  Con (Try.prog) 19 0 [] [.agg [.p (.int .i64 (g.fst)), .p (.seq true 4 (k) (fun i => [.int .i64 ((g.snd.fst.snd i).fst), .int .i64 ((g.snd.fst.snd i).snd.fst), .int .i64 (mX g v x i), .int .i64 (mY g v y i)]))]] [] (.p (.bool (b))),
  ((!b) = true),
  ((0 : Nat) < 1),
  ((0 : Nat) < 1),
  (((true) = true) → ((1 : Nat) = 1)),
  ((0 : Nat) < 1),
  (((g.fst) : Int) = (g.fst)),
  ((0 : Nat) = 0),
  (((g.snd.fst.fst) : Nat) = (g.snd.fst.fst)),
  (false = false),
  ((4 : Nat) = 4),
  (((g.snd.fst.fst) : Nat) ≤ (g.snd.fst.fst)),
  (∀ i : Nat, ((((i) : Nat) < (g.snd.fst.fst)) → (All [] ∧ (([.p (.int .i64 ((g.snd.fst.snd i).fst)), .p (.int .i64 ((g.snd.fst.snd i).snd.fst)), .p (.int .i64 ((g.snd.fst.snd i).snd.snd.fst)), .p (.int .i64 ((g.snd.fst.snd i).snd.snd.snd.fst))] : List AV) = [.p (.int .i64 ((g.snd.fst.snd i).fst)), .p (.int .i64 ((g.snd.fst.snd i).snd.fst)), .p (.int .i64 ((g.snd.fst.snd i).snd.snd.fst)), .p (.int .i64 ((g.snd.fst.snd i).snd.snd.snd.fst))])))),
  (∀ i : Nat, ((((i) : Nat) < (g.snd.fst.fst)) → All []))] := by kernel_rfl
theorem p24f (g : T_GainGraph) (v x y : Int) (k : Nat) (b : Bool) :
    pathOb Try.prog Try.f24 0 [.reg [oT], .dec false, .reg [oT, ⟨true, (some ⟨[], [], 1, [], .p (.bool b)⟩)⟩, oT], .dec false, .reg [oT, oT, oT]] [.code (cAt (bodyOf Try.f24) [1, 1, 1, 1, 0, 1, 0, 0]), .inLoop (cAt (bodyOf Try.f24) [1, 1, 1, 1, 0, 1, 0, 0]), .inBlock 0, .code (cAt (bodyOf Try.f24) [1, 1, 1, 1, 1])] (S24 g v x y k) [5] 1 [(0, gbOb (moved g v x y).2.1)] (.tup [gaO (moved g v x y) 0, .p (.bool true)]) =
    some [((decide ((↑k : Int) < (↑g.snd.fst.fst : Int))) = false),
  ((0 : Nat) < 1),
  ((4 : Nat) = 4),
  (((k) : Nat) ≤ (k)),
  Con (Try.prog) 19 0 [] [.agg [.p (.int .i64 (g.fst)), .p (.seq true 4 (k) (fun i => [.int .i64 ((g.snd.fst.snd i).fst), .int .i64 ((g.snd.fst.snd i).snd.fst), .int .i64 (mX g v x i), .int .i64 (mY g v y i)]))]] [] (.p (.bool (b))),
  ((!b) = false),
  ((0 : Nat) < 1),
  ((0 : Nat) < 1),
  (((true) = true) → ((1 : Nat) = 1)),
  ((0 : Nat) < 1),
  (((g.fst) : Int) = (g.fst)),
  ((0 : Nat) = 0),
  (((k) : Nat) = (g.snd.fst.fst)),
  (true = true),
  ((4 : Nat) = 4),
  (((g.snd.fst.fst) : Nat) ≤ (k)),
  (∀ i : Nat, ((((i) : Nat) < (g.snd.fst.fst)) → (All [] ∧ (([.p (.int .i64 ((g.snd.fst.snd i).fst)), .p (.int .i64 ((g.snd.fst.snd i).snd.fst)), .p (.int .i64 (mX g v x i)), .p (.int .i64 (mY g v y i))] : List AV) = [.p (.int .i64 ((g.snd.fst.snd i).fst)), .p (.int .i64 ((g.snd.fst.snd i).snd.fst)), .p (.int .i64 (mX g v x i)), .p (.int .i64 (mY g v y i))])))),
  (∀ i : Nat, ((((i) : Nat) < (g.snd.fst.fst)) → All []))] := by kernel_rfl

theorem sm_gain (N : Int) (w : T_GainBarS) (hn : w.1 ≤ 1048576) : smS s_GainGraph (N, w, ()) := ⟨by simp [smS, smL], ⟨hn, fun i hi => by simp [smS, smL]⟩, True.intro⟩

theorem con_l29Copy (g : T_GainGraph) (hn : g.2.1.1 ≤ 1048576) : Con Try.prog 44 0 [] [gainA g] [(0, gbOb g.2.1)] (gaO g 0) := by
  refine con_start Try.func44 rfl (by kernel_rfl) rfl (fun c hc => ?_)
  refine path_ok mixed Try.func44 hc (p44 g) ?_
  simp only [All]
  repeat' (first | exact trivial | with_reducible apply And.intro)
  all_goals (first | omega | rfl | (intros; first | assumption | exact True.intro | rfl | exact absurd (show false = true by assumption) Bool.false_ne_true | ((repeat' (first | assumption | apply anda | apply notf)); done)) | (intro i hi; simp [All]))

theorem goodG_in (g : T_GainGraph) : ∀ n, goodG g n = true → ∀ i, i < n → badG g.1 (g.2.1.2 i) = false
  | 0, _, i, hi => by omega
  | n + 1, h, i, hi => by
    simp only [goodG, Bool.and_eq_true, Bool.not_eq_true'] at h
    by_cases e : i = n
    · subst e; exact h.2
    · exact goodG_in g n h.1 i (by omega)

theorem gain_in (g : T_GainGraph) (h : isGainF g = true) : 1 ≤ g.1 ∧ g.1 ≤ 4 ∧ g.2.1.1 ≤ 8 ∧ ∀ i, i < g.2.1.1 →
    0 ≤ (g.2.1.2 i).1 ∧ (g.2.1.2 i).1 ≤ (g.2.1.2 i).2.1 ∧ (g.2.1.2 i).2.1 < g.1 ∧ -9 ≤ (g.2.1.2 i).2.2.1 ∧ (g.2.1.2 i).2.2.1 ≤ 9 ∧ -9 ≤ (g.2.1.2 i).2.2.2.1 ∧ (g.2.1.2 i).2.2.2.1 ≤ 9 := by
  simp only [isGainF, inB, Bool.and_eq_true, decide_eq_true_eq] at h
  obtain ⟨h1, ⟨h2, h3⟩, h4⟩ := h
  refine ⟨h2, h3, h4, fun i hi => ?_⟩
  have hb := goodG_in g _ h1 i hi
  unfold badG inB at hb
  by_cases a1 : (g.2.1.2 i).1 < 0
  · simp [a1] at hb
  by_cases a2 : (g.2.1.2 i).1 > (g.2.1.2 i).2.1
  · simp [a2] at hb
  by_cases a3 : (g.2.1.2 i).2.1 ≥ g.1
  · simp [a3] at hb
  by_cases a4 : -9 ≤ (g.2.1.2 i).2.2.1 ∧ (g.2.1.2 i).2.2.1 ≤ 9
  · by_cases a5 : -9 ≤ (g.2.1.2 i).2.2.2.1 ∧ (g.2.1.2 i).2.2.2.1 ≤ 9
    · omega
    · have : (decide (-9 ≤ (g.2.1.2 i).2.2.2.1) && decide ((g.2.1.2 i).2.2.2.1 ≤ 9)) = false := by
        rw [← Bool.decide_and, decide_eq_false a5]
      rw [this] at hb; simp at hb
  · have : (decide (-9 ≤ (g.2.1.2 i).2.2.1) && decide ((g.2.1.2 i).2.2.1 ≤ 9)) = false := by
      rw [← Bool.decide_and, decide_eq_false a4]
    rw [this] at hb; simp at hb

theorem goodG_congr (N : Int) (n : Nat) (f f' : Nat → T_GainBar) : ∀ k, (∀ i, i < k → f i = f' i) → goodG (N, (n, f), ()) k = goodG (N, (n, f'), ()) k
  | 0, _ => rfl
  | k + 1, h => by
    simp only [goodG]
    rw [goodG_congr N n f f' k (fun i hi => h i (by omega)), h k (by omega)]

theorem isGain_congr (N : Int) (n : Nat) (f f' : Nat → T_GainBar) (h : ∀ i, i < n → f i = f' i) : isGainF (N, (n, f), ()) = isGainF (N, (n, f'), ()) := by
  simp only [isGainF]
  rw [goodG_congr N n f f' n h]

theorem spec_head (g : T_GainGraph) (v x y : Int) :
    (bif bif bif bif !isGainF g then true else decide (v < 0) then true else decide (v ≥ g.1) then true else !inB x (-9) 9 then true else !inB y (-9) 9) = !okSw g v x y := by
  unfold okSw
  cases isGainF g <;> cases inB x (-9) 9 <;> cases inB y (-9) 9 <;> simp [inB]
  · by_cases h : v < 0
    · have : ¬ (0 ≤ v) := by omega
      simp [h, this]
    · have h0 : 0 ≤ v := by omega
      by_cases h' : g.1 ≤ v
      · have : ¬ (v ≤ g.1 - 1) := by omega
        simp [h, h0, h', this]
      · have : v ≤ g.1 - 1 := by omega
        simp [h, h0, h', this]

theorem impl_head (g : T_GainGraph) (v x y : Int) :
    (bif bif bif !isGainF g then true else !inB v 0 (g.1 - 1) then true else !inB x (-9) 9 then true else !inB y (-9) 9) = !okSw g v x y := by
  unfold okSw
  cases isGainF g <;> cases inB v 0 (g.1 - 1) <;> cases inB x (-9) 9 <;> cases inB y (-9) 9 <;> rfl

theorem okSw_in {g : T_GainGraph} {v x y : Int} (h : okSw g v x y = true) : isGainF g = true ∧ (0 ≤ v ∧ v ≤ g.1 - 1) ∧ (-9 ≤ x ∧ x ≤ 9) ∧ -9 ≤ y ∧ y ≤ 9 := by
  unfold okSw at h
  cases h1 : isGainF g <;> cases h2 : inB v 0 (g.1 - 1) <;> cases h3 : inB x (-9) 9 <;> cases h4 : inB y (-9) 9 <;> rw [h1, h2, h3, h4] at h <;> simp at h
  simp only [inB, Bool.and_eq_true, decide_eq_true_eq] at h2 h3 h4
  exact ⟨rfl, h2, h3, h4⟩

theorem con_SwitchGains_s (g : T_GainGraph) (v x y : Int) (hs : smS s_GainGraph g) : Con Try.prog 23 0 [] [gainA g, .p (.int .i64 v), .p (.int .i64 x), .p (.int .i64 y)] [(0, gbOb (swR g v x y).2.1)]
    (.tup [gaO (swR g v x y) 0, .p (.bool (swF g v x y))]) := by
  have hn : g.2.1.1 ≤ 1048576 := hs.2.1.1
  refine con_start Try.func23 rfl (by kernel_rfl) rfl (fun c hc => ?_)
  have hhd := spec_head g v x y
  cases hok : okSw g v x y with
  | false =>
    have hf : swF g v x y = false := by simp [swF, hok]
    rw [show swR g v x y = g by simp [swR, hf], hf]
    rw [hok] at hhd
    refine path_ok mixed Try.func23 hc (p23z g v x y) ?_
    simp only [All]
    repeat' (first | exact trivial | with_reducible apply And.intro)
    all_goals (first | omega | rfl | (intros; first | assumption | exact True.intro | rfl | exact absurd (show false = true by assumption) Bool.false_ne_true | ((repeat' (first | assumption | apply anda | apply notf)); done)) | (exact con_l29Copy g hn) | (exact con_IsGainGraph_s g hs) | (intros; exact con_l1In _ _ _) | (exact hhd) | (intro i hi; simp [All]))
  | true =>
  rw [hok] at hhd
  obtain ⟨hg, hv, hx, hy⟩ := okSw_in hok
  obtain ⟨gn1, gn2, gn3, gin⟩ := gain_in g hg
  have lp : ∀ m k (XX YY : Nat → Int), k + m = g.2.1.1 → (∀ i, i < k → XX i = mX g v x i ∧ YY i = mY g v y i) → (∀ i, k ≤ i → XX i = (g.2.1.2 i).2.2.1 ∧ YY i = (g.2.1.2 i).2.2.2.1) →
      Run Try.prog c 23 [.code (cAt (bodyOf Try.f23) [1, 1, 1, 0, 1, 0, 0]), .inLoop (cAt (bodyOf Try.f23) [1, 1, 1, 0, 1, 0, 0]), .inBlock 0, .code (cAt (bodyOf Try.f23) [1, 1, 1, 1])] (S23 g v x y XX YY k) (Post c [(0, gbOb (swR g v x y).2.1)] (.tup [gaO (swR g v x y) 0, .p (.bool (swF g v x y))])) := by
    intro m
    induction m with
    | zero =>
      intro k XX YY hk h1 h2
      have hd : decide ((k : Int) < (g.2.1.1 : Int)) = false := by simp; omega
      have he : isGainF (withXY g XX YY) = isGainF (moved g v x y) := isGain_congr _ _ _ _ (fun i hi => by
        obtain ⟨e1, e2⟩ := h1 i (by omega)
        rw [e1, e2])
      have hsm : smS s_GainGraph (withXY g XX YY) := sm_gain g.1 _ hn
      have hcon := con_IsGainGraph_s (withXY g XX YY) hsm
      rw [he] at hcon
      cases hm : isGainF (moved g v x y) with
      | false =>
        have hf : swF g v x y = false := by simp [swF, hok, hm]
        rw [show swR g v x y = g by simp [swR, hf], hf]
        rw [hm] at hcon
        refine path_ok mixed Try.func23 hc (p23t g v x y XX YY k false) ?_
        simp only [All]
        repeat' (first | exact trivial | with_reducible apply And.intro)
        all_goals (first | omega | rfl | (intros; first | assumption | exact True.intro | rfl | exact absurd (show false = true by assumption) Bool.false_ne_true | ((repeat' (first | assumption | apply anda | apply notf)); done)) | (exact con_l29Copy g hn) | (exact hcon) | (intro i hi; simp [All]))
      | true =>
        have hf : swF g v x y = true := by simp [swF, hok, hm]
        rw [show swR g v x y = moved g v x y by simp [swR, hf], hf]
        rw [hm] at hcon
        refine path_ok mixed Try.func23 hc (p23f g v x y XX YY k true) ?_
        simp only [All]
        repeat' (first | exact trivial | with_reducible apply And.intro)
        all_goals (first | omega | rfl | (intros; first | assumption | exact True.intro | rfl | exact absurd (show false = true by assumption) Bool.false_ne_true | ((repeat' (first | assumption | apply anda | apply notf)); done)) | (exact hcon) | (intro i hi; have hh := h1 i (Nat.lt_of_lt_of_le hi (by show g.2.1.1 ≤ k; omega)); simp [All, hh.1, hh.2, moved, withXY]))
    | succ m ih =>
      intro k XX YY hk h1 h2
      have hd : decide ((k : Int) < (g.2.1.1 : Int)) = true := by simp; omega
      obtain ⟨b1, b2, b3, b4, b5, b6, b7⟩ := gin k (by omega)
      obtain ⟨q1, q2⟩ := h2 k (Nat.le_refl k)
      by_cases hab : (g.2.1.2 k).1 = (g.2.1.2 k).2.1
      · have hb : ((g.2.1.2 k).1 == (g.2.1.2 k).2.1) = true := by simp [hab]
        refine piece_ok mixed hc (p23b1 g v x y XX YY k) ?_ (ih (k + 1) XX YY (by omega) (fun i hi => ?_) (fun i hi => h2 i (by omega)))
        ·
          simp only [All]
          repeat' (first | exact trivial | with_reducible apply And.intro)
          all_goals (first | omega | rfl | (intros; first | assumption | exact True.intro | rfl | exact absurd (show false = true by assumption) Bool.false_ne_true | ((repeat' (first | assumption | apply anda | apply notf)); done)) | (simp [All]))
        · by_cases e : i = k
          · subst e; simp [mX, mY, mv1, hab, q1, q2]
          · exact h1 i (by omega)
      · have hb : ((g.2.1.2 k).1 == (g.2.1.2 k).2.1) = false := by simp [hab]
        by_cases hav : (g.2.1.2 k).1 = v
        · have hb2 : ((g.2.1.2 k).1 == v) = true := by simp [hav]
          have hb3 : ((g.2.1.2 k).2.1 == v) = false := by simp; omega
          refine piece_ok mixed hc (p23b2 g v x y XX YY k) ?_ (piece_ok mixed hc (p23b2y g v x y _ YY k) ?_ (piece_ok mixed hc (p23b2z g v x y _ _ k) ?_ (ih (k + 1) _ _ (by omega) (fun i hi => ?_) (fun i hi => ?_))))
          ·
            simp only [All]
            repeat' (first | exact trivial | with_reducible apply And.intro)
            all_goals (first | omega | rfl | (intros; first | assumption | exact True.intro | rfl | exact absurd (show false = true by assumption) Bool.false_ne_true | ((repeat' (first | assumption | apply anda | apply notf)); done)) | (intro i hi; by_cases h : i = k <;> simp [h, cvtL, cvt, tg, tru, All]))
          ·
            simp only [All]
            repeat' (first | exact trivial | with_reducible apply And.intro)
            all_goals (first | omega | rfl | (intros; first | assumption | exact True.intro | rfl | exact absurd (show false = true by assumption) Bool.false_ne_true | ((repeat' (first | assumption | apply anda | apply notf)); done)) | (intro i hi; by_cases h : i = k <;> simp [h, cvtL, cvt, tg, tru, All]))
          ·
            simp only [All]
            repeat' (first | exact trivial | with_reducible apply And.intro)
            all_goals (first | omega | rfl | (intros; first | assumption | exact True.intro | rfl | exact absurd (show false = true by assumption) Bool.false_ne_true | ((repeat' (first | assumption | apply anda | apply notf)); done)) | (simp [All]))
          · by_cases e : i = k
            · subst e; simp [mX, mY, mv1, hab, hav, q1, q2]; omega
            · simp only [e, if_false]; exact h1 i (by omega)
          · have e : ¬ i = k := by omega
            simp only [e, if_false]; exact h2 i (by omega)
        · have hb2 : ((g.2.1.2 k).1 == v) = false := by simp [hav]
          by_cases hbv : (g.2.1.2 k).2.1 = v
          · have hb3 : ((g.2.1.2 k).2.1 == v) = true := by simp [hbv]
            refine piece_ok mixed hc (p23b3 g v x y XX YY k) ?_ (piece_ok mixed hc (p23b3y g v x y _ YY k) ?_ (ih (k + 1) _ _ (by omega) (fun i hi => ?_) (fun i hi => ?_)))
            ·
              simp only [All]
              repeat' (first | exact trivial | with_reducible apply And.intro)
              all_goals (first | omega | rfl | (intros; first | assumption | exact True.intro | rfl | exact absurd (show false = true by assumption) Bool.false_ne_true | ((repeat' (first | assumption | apply anda | apply notf)); done)) | (intro i hi; by_cases h : i = k <;> simp [h, cvtL, cvt, tg, tru, All]))
            ·
              simp only [All]
              repeat' (first | exact trivial | with_reducible apply And.intro)
              all_goals (first | omega | rfl | (intros; first | assumption | exact True.intro | rfl | exact absurd (show false = true by assumption) Bool.false_ne_true | ((repeat' (first | assumption | apply anda | apply notf)); done)) | (intro i hi; by_cases h : i = k <;> simp [h, cvtL, cvt, tg, tru, All]))
            · by_cases e : i = k
              · subst e; simp [mX, mY, mv1, hab, hav, hbv, q1, q2]
              · simp only [e, if_false]; exact h1 i (by omega)
            · have e : ¬ i = k := by omega
              simp only [e, if_false]; exact h2 i (by omega)
          · have hb3 : ((g.2.1.2 k).2.1 == v) = false := by simp [hbv]
            refine piece_ok mixed hc (p23b4 g v x y XX YY k) ?_ (ih (k + 1) XX YY (by omega) (fun i hi => ?_) (fun i hi => h2 i (by omega)))
            ·
              simp only [All]
              repeat' (first | exact trivial | with_reducible apply And.intro)
              all_goals (first | omega | rfl | (intros; first | assumption | exact True.intro | rfl | exact absurd (show false = true by assumption) Bool.false_ne_true | ((repeat' (first | assumption | apply anda | apply notf)); done)) | (simp [All]))
            · by_cases e : i = k
              · subst e; simp [mX, mY, mv1, hab, hav, hbv, q1, q2]
              · exact h1 i (by omega)
  refine piece_ok mixed hc (p23a g v x y) ?_ (lp g.2.1.1 0 _ _ (by omega) (fun i hi => absurd hi (Nat.not_lt_zero i)) (fun i _ => ⟨rfl, rfl⟩))
  simp only [All]
  repeat' (first | exact trivial | with_reducible apply And.intro)
  all_goals (first | omega | rfl | (intros; first | assumption | exact True.intro | rfl | exact absurd (show false = true by assumption) Bool.false_ne_true | ((repeat' (first | assumption | apply anda | apply notf)); done)) | (exact con_l29Copy g hn) | (exact con_IsGainGraph_s g hs) | (intros; exact con_l1In _ _ _) | (exact hhd) | (intro i hi; simp [All]))

theorem con_SwitchGains_i (g : T_GainGraph) (v x y : Int) (hs : smS s_GainGraph g) : Con Try.prog 24 0 [] [gainA g, .p (.int .i64 v), .p (.int .i64 x), .p (.int .i64 y)] [(0, gbOb (swR g v x y).2.1)]
    (.tup [gaO (swR g v x y) 0, .p (.bool (swF g v x y))]) := by
  have hn : g.2.1.1 ≤ 1048576 := hs.2.1.1
  refine con_start Try.func24 rfl (by kernel_rfl) rfl (fun c hc => ?_)
  have hhd := impl_head g v x y
  have hgi : ∀ {b : Prop}, (!!isGainF g) = true → (1 ≤ g.1 ∧ g.1 ≤ 4 → b) → b := fun h k => k ⟨(gain_in g (by simpa using h)).1, (gain_in g (by simpa using h)).2.1⟩
  cases hok : okSw g v x y with
  | false =>
    have hf : swF g v x y = false := by simp [swF, hok]
    rw [show swR g v x y = g by simp [swR, hf], hf]
    rw [hok] at hhd
    refine path_ok mixed Try.func24 hc (p24z g v x y) ?_
    simp only [All]
    repeat' (first | exact trivial | with_reducible apply And.intro)
    all_goals (first | omega | rfl | (intros; first | assumption | exact True.intro | rfl | exact absurd (show false = true by assumption) Bool.false_ne_true | ((repeat' (first | assumption | apply anda | apply notf)); done)) | (exact con_IsGainGraph_i g hs) | (intros; exact con_within _ _ _) | (exact hhd) | (intro h; exact hgi h (fun h => by omega)) | (intro i hi; simp [All]))
  | true =>
  rw [hok] at hhd
  obtain ⟨hg, hv, hx, hy⟩ := okSw_in hok
  obtain ⟨gn1, gn2, gn3, gin⟩ := gain_in g hg
  have lp : ∀ m k, k + m = g.2.1.1 →
      Run Try.prog c 24 [.code (cAt (bodyOf Try.f24) [1, 1, 1, 1, 0, 1, 0, 0]), .inLoop (cAt (bodyOf Try.f24) [1, 1, 1, 1, 0, 1, 0, 0]), .inBlock 0, .code (cAt (bodyOf Try.f24) [1, 1, 1, 1, 1])] (S24 g v x y k) (Post c [(0, gbOb (swR g v x y).2.1)] (.tup [gaO (swR g v x y) 0, .p (.bool (swF g v x y))])) := by
    intro m
    induction m with
    | zero =>
      intro k hk
      have hkn : k = g.2.1.1 := by omega
      subst hkn
      have hd : decide ((g.2.1.1 : Int) < (g.2.1.1 : Int)) = false := by simp
      have hsm : smS s_GainGraph (moved g v x y) := sm_gain g.1 _ hn
      have hcon := con_IsGainGraph_i (moved g v x y) hsm
      cases hm : isGainF (moved g v x y) with
      | false =>
        have hf : swF g v x y = false := by simp [swF, hok, hm]
        rw [show swR g v x y = g by simp [swR, hf], hf]
        rw [hm] at hcon
        refine path_ok mixed Try.func24 hc (p24t g v x y _ false) ?_
        simp only [All]
        repeat' (first | exact trivial | with_reducible apply And.intro)
        all_goals (first | omega | rfl | (intros; first | assumption | exact True.intro | rfl | exact absurd (show false = true by assumption) Bool.false_ne_true | ((repeat' (first | assumption | apply anda | apply notf)); done)) | (exact hcon) | (intro i hi; simp [All]))
      | true =>
        have hf : swF g v x y = true := by simp [swF, hok, hm]
        rw [show swR g v x y = moved g v x y by simp [swR, hf], hf]
        rw [hm] at hcon
        refine path_ok mixed Try.func24 hc (p24f g v x y _ true) ?_
        simp only [All]
        repeat' (first | exact trivial | with_reducible apply And.intro)
        all_goals (first | omega | rfl | (intros; first | assumption | exact True.intro | rfl | exact absurd (show false = true by assumption) Bool.false_ne_true | ((repeat' (first | assumption | apply anda | apply notf)); done)) | (exact hcon) | (intro i hi; simp [All, moved, withXY]))
    | succ m ih =>
      intro k hk
      have hd : decide ((k : Int) < (g.2.1.1 : Int)) = true := by simp; omega
      obtain ⟨b1, b2, b3, b4, b5, b6, b7⟩ := gin k (by omega)
      by_cases hc1 : (g.2.1.2 k).1 = v ∧ (g.2.1.2 k).2.1 ≠ v
      · have hb : (bif (g.2.1.2 k).1 == v then (g.2.1.2 k).2.1 != v else false) = true := by simp [hc1.1, hc1.2]
        have ex : mX g v x k = (g.2.1.2 k).2.2.1 + x := by simp only [mX, mv1]; rw [if_neg (by omega), if_pos hc1.1]
        have ey : mY g v y k = (g.2.1.2 k).2.2.2.1 + y := by simp only [mY, mv1]; rw [if_neg (by omega), if_pos hc1.1]
        refine piece_ok mixed hc (p24b1 g v x y k) ?_ (ih (k + 1) (by omega))
        simp only [All]
        repeat' (first | exact trivial | with_reducible apply And.intro)
        all_goals (first | omega | rfl | (intros; first | assumption | exact True.intro | rfl | exact absurd (show false = true by assumption) Bool.false_ne_true | ((repeat' (first | assumption | apply anda | apply notf)); done)) | (exact hb) | (intro i hi; simp [All]; done) | (intro i hi; rcases (show i < k ∨ i = k by omega) with h | h <;> simp [h, cvtL, cvt, tg, tru, All, ex, ey]))
      · have hb : (bif (g.2.1.2 k).1 == v then (g.2.1.2 k).2.1 != v else false) = false := by
          by_cases e1 : (g.2.1.2 k).1 = v
          · have e2 : (g.2.1.2 k).2.1 = v := by
              by_cases e2 : (g.2.1.2 k).2.1 = v
              · exact e2
              · exact absurd ⟨e1, e2⟩ hc1
            simp [e1, e2]
          · simp [e1]
        by_cases hc2 : (g.2.1.2 k).2.1 = v ∧ (g.2.1.2 k).1 ≠ v
        · have hb2 : (bif (g.2.1.2 k).2.1 == v then (g.2.1.2 k).1 != v else false) = true := by simp [hc2.1, hc2.2]
          have ex : mX g v x k = (g.2.1.2 k).2.2.1 - x := by simp only [mX, mv1]; rw [if_neg (by omega), if_neg hc2.2, if_pos hc2.1]
          have ey : mY g v y k = (g.2.1.2 k).2.2.2.1 - y := by simp only [mY, mv1]; rw [if_neg (by omega), if_neg hc2.2, if_pos hc2.1]
          refine piece_ok mixed hc (p24b2 g v x y k) ?_ (ih (k + 1) (by omega))
          simp only [All]
          repeat' (first | exact trivial | with_reducible apply And.intro)
          all_goals (first | omega | rfl | (intros; first | assumption | exact True.intro | rfl | exact absurd (show false = true by assumption) Bool.false_ne_true | ((repeat' (first | assumption | apply anda | apply notf)); done)) | (exact hb) | (exact hb2) | (intro i hi; simp [All]; done) | (intro i hi; rcases (show i < k ∨ i = k by omega) with h | h <;> simp [h, cvtL, cvt, tg, tru, All, ex, ey]))
        · have hb2 : (bif (g.2.1.2 k).2.1 == v then (g.2.1.2 k).1 != v else false) = false := by
            by_cases e1 : (g.2.1.2 k).2.1 = v
            · have e2 : (g.2.1.2 k).1 = v := by
                by_cases e2 : (g.2.1.2 k).1 = v
                · exact e2
                · exact absurd ⟨e1, e2⟩ hc2
              simp [e1, e2]
            · simp [e1]
          have ex : mX g v x k = (g.2.1.2 k).2.2.1 := by
            simp only [mX, mv1]
            by_cases e0 : (g.2.1.2 k).1 = (g.2.1.2 k).2.1
            · rw [if_pos e0]
            · rw [if_neg e0, if_neg (fun e => hc1 ⟨e, by omega⟩), if_neg (fun e => hc2 ⟨e, by omega⟩)]
          have ey : mY g v y k = (g.2.1.2 k).2.2.2.1 := by
            simp only [mY, mv1]
            by_cases e0 : (g.2.1.2 k).1 = (g.2.1.2 k).2.1
            · rw [if_pos e0]
            · rw [if_neg e0, if_neg (fun e => hc1 ⟨e, by omega⟩), if_neg (fun e => hc2 ⟨e, by omega⟩)]
          refine piece_ok mixed hc (p24b3 g v x y k) ?_ (ih (k + 1) (by omega))
          simp only [All]
          repeat' (first | exact trivial | with_reducible apply And.intro)
          all_goals (first | omega | rfl | (intros; first | assumption | exact True.intro | rfl | exact absurd (show false = true by assumption) Bool.false_ne_true | ((repeat' (first | assumption | apply anda | apply notf)); done)) | (exact hb) | (exact hb2) | (intro i hi; simp [All]; done) | (intro i hi; rcases (show i < k ∨ i = k by omega) with h | h <;> simp [h, cvtL, cvt, tg, tru, All, ex, ey]))
  refine piece_ok mixed hc (p24a g v x y) ?_ (lp g.2.1.1 0 (by omega))
  simp only [All]
  repeat' (first | exact trivial | with_reducible apply And.intro)
  all_goals (first | omega | rfl | (intros; first | assumption | exact True.intro | rfl | exact absurd (show false = true by assumption) Bool.false_ne_true | ((repeat' (first | assumption | apply anda | apply notf)); done)) | (exact con_IsGainGraph_i g hs) | (intros; exact con_within _ _ _) | (exact hhd) | (intro h; exact hgi h (fun h => by omega)) | (intro i hi; simp [All]))

theorem sm_swR (g : T_GainGraph) (v x y : Int) (hs : smS s_GainGraph g) : smS s_GainGraph (swR g v x y) := by
  unfold swR
  split
  · exact sm_gain _ _ hs.2.1.1
  · exact hs

end Go.Proofs.Ytgddbgmnehkblaa.Mach
