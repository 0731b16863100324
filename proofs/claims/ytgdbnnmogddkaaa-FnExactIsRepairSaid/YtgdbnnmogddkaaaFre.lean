/- Inner points, freedom and repairs of pinned structures: both programs answer the same. Conditions: as each theorem says. -/
import Derived.Test.YtgdbnnmogddkaaaHld
namespace Go.Proofs.Ytgdbnnmogddkaaa.Mach
open Go Go.Sort
set_option linter.unusedVariables false
set_option linter.unusedSimpArgs false

def SNs (p : T_Pinned) (v n : Nat) (h : Nat → Int) : St :=
  ⟨[pinA p, .pt 3 0 0 0, .p .any, .ar 1 1 0 n, .p (.int .i64 v)] ++ List.replicate 22 anyA, [(0, boxP p), (1, iOb n h)], 2⟩
def SNi (p : T_Pinned) (v n : Nat) (h : Nat → Int) : St :=
  ⟨[pinA p, .pt 3 0 0 0, .p .any, .ar 1 1 0 n] ++ List.replicate 8 anyA ++ [.p (.int .i64 p.1.1), .p (.int .i64 v)] ++ List.replicate 13 anyA, [(0, boxP p), (1, iOb n h)], 2⟩
def snI (n : Nat) (h : Nat → Int) (x : Int) (s : Nat) : Int := if s < n then h s else x

theorem nSz (p : T_Pinned) :
    pieceOb Try.prog 0 [.reg [oT, oT], .reg [oT, oT], .reg [oT], .head] [.code (bodyOf Try.f95)] (start Try.f95 [] 0 [pinA p]) [0, 64] 1 (SNs p 0 0 (fun _ => 0)) =
    some ([.code (cAt (bodyOf Try.f95) [1, 1, 0, 1, 0, 0]), .inLoop (cAt (bodyOf Try.f95) [1, 1, 0, 1, 0, 0]), .inBlock 0, .code (cAt (bodyOf Try.f95) [1, 1, 1])], [(((p.fst.fst) : Int) = (p.fst.fst)),
  (((p.fst.snd.fst.fst) : Nat) = (p.fst.snd.fst.fst)),
  (∀ i : Nat, ((((i) : Nat) < (p.fst.snd.fst.fst)) → (([.int .i64 ((p.fst.snd.fst.snd i).fst), .int .i64 ((p.fst.snd.fst.snd i).snd.fst)] : List PV) = [.int .i64 ((p.fst.snd.fst.snd i).fst), .int .i64 ((p.fst.snd.fst.snd i).snd.fst)]))),
  (((p.snd.fst.fst) : Nat) = (p.snd.fst.fst)),
  (∀ i : Nat, ((((i) : Nat) < (p.snd.fst.fst)) → (([.int .i64 (p.snd.fst.snd i)] : List PV) = [.int .i64 (p.snd.fst.snd i)]))),
  ((0 : Nat) = 0),
  ((0 : Nat) = 0),
  ((0 : Nat) = 0),
  ((0 : Int) = ((↑0 : Int))),
  ((([AV.p (PV.int IntKind.i64 p.fst.fst), graphL p.fst.snd.fst, inL p.snd.fst].length) : Nat) = 3),
  ((1 : Nat) ≤ 1),
  ((1 : Nat) ≤ 1),
  (((p.fst.fst) : Int) = (p.fst.fst)),
  (((p.fst.snd.fst.fst) : Nat) = (p.fst.snd.fst.fst)),
  (∀ i : Nat, ((((i) : Nat) < (p.fst.snd.fst.fst)) → (([.int .i64 ((p.fst.snd.fst.snd i).fst), .int .i64 ((p.fst.snd.fst.snd i).snd.fst)] : List PV) = [.int .i64 ((p.fst.snd.fst.snd i).fst), .int .i64 ((p.fst.snd.fst.snd i).snd.fst)]))),
  (((p.snd.fst.fst) : Nat) = (p.snd.fst.fst)),
  (∀ i : Nat, ((((i) : Nat) < (p.snd.fst.fst)) → (([.int .i64 (p.snd.fst.snd i)] : List PV) = [.int .i64 (p.snd.fst.snd i)]))),
  ((1 : Nat) = 1),
  ((0 : Nat) ≤ 0),
  (∀ i : Nat, ((((i) : Nat) < 0) → (All [] ∧ (([.p .any] : List AV) = [.p (.int .i64 0)]))))]) := by kernel_rfl
theorem nSa (p : T_Pinned) (v n : Nat) (h : Nat → Int) (b : Bool) :
    pieceOb Try.prog 0 [.reg [oT, oT, oT, oT, oT, oT, oT, ⟨true, (some ⟨[], [], 1, [], .p (.bool b)⟩), none⟩, oT], .dec true, .reg [oT, oT, oT, ⟨true, (some ⟨[], [], 1, [], .p (.bool false)⟩), none⟩, oT], .dec true, .reg [oT, oT, oT, oT, oT], .reg [oT, oT, oT], .head] [.code (cAt (bodyOf Try.f95) [1, 1, 0, 1, 0, 0]), .inLoop (cAt (bodyOf Try.f95) [1, 1, 0, 1, 0, 0]), .inBlock 0, .code (cAt (bodyOf Try.f95) [1, 1, 1])] (SNs p v n h) [0, 546] 1 (SNs p (v + 1) (n + 1) (snI n h v)) =
    some ([.code (cAt (bodyOf Try.f95) [1, 1, 0, 1, 0, 0]), .inLoop (cAt (bodyOf Try.f95) [1, 1, 0, 1, 0, 0]), .inBlock 0, .code (cAt (bodyOf Try.f95) [1, 1, 1])], [((0 : Nat) < 1),
  (((decide ((↑v : Int) < p.fst.fst)) = true) → ((0 : Nat) < 1)),
  (((decide ((↑v : Int) < p.fst.fst)) = true) → ((decide ((↑v : Int) < p.fst.fst)) = true)),
  (((decide ((↑v : Int) < p.fst.fst)) = true) → Con (Try.prog) 46 0 [] [.agg [.p (.int .i64 (p.fst.fst)), .p (.seq true 2 (p.fst.snd.fst.fst) (fun i => [.int .i64 ((p.fst.snd.fst.snd i).fst), .int .i64 ((p.fst.snd.fst.snd i).snd.fst)])), .p (.seq true 1 (p.snd.fst.fst) (fun i => [.int .i64 (p.snd.fst.snd i)]))]] [] (.p (.bool (b)))),
  (((decide ((↑v : Int) < p.fst.fst)) = true) → ((decide ((↑v : Int) < p.fst.fst)) = true)),
  ((bif decide ((↑v : Int) < p.fst.fst) then b else false) = true),
  ((0 : Nat) < 1),
  Con (Try.prog) 93 0 [] [.p (.seq true 1 (p.snd.fst.fst) (fun i => [.int .i64 (p.snd.fst.snd i)])), .p (.int .i64 ((↑v : Int)))] [] (.p (.bool false)),
  ((!false) = true),
  ((1 : Nat) ≤ 1),
  (((n) : Nat) ≤ (n)),
  ((((n + 1) * 8) : Nat) ≤ 140737488355328),
  (((n + 1) : Nat) ≤ 9223372036854775807),
  (((-9223372036854775808) : Int) ≤ ((↑v : Int) + 1)),
  ((((↑v : Int) + 1) : Int) ≤ 9223372036854775807),
  (((p.fst.fst) : Int) = (p.fst.fst)),
  (((p.fst.snd.fst.fst) : Nat) = (p.fst.snd.fst.fst)),
  (∀ i : Nat, ((((i) : Nat) < (p.fst.snd.fst.fst)) → (([.int .i64 ((p.fst.snd.fst.snd i).fst), .int .i64 ((p.fst.snd.fst.snd i).snd.fst)] : List PV) = [.int .i64 ((p.fst.snd.fst.snd i).fst), .int .i64 ((p.fst.snd.fst.snd i).snd.fst)]))),
  (((p.snd.fst.fst) : Nat) = (p.snd.fst.fst)),
  (∀ i : Nat, ((((i) : Nat) < (p.snd.fst.fst)) → (([.int .i64 (p.snd.fst.snd i)] : List PV) = [.int .i64 (p.snd.fst.snd i)]))),
  ((0 : Nat) = 0),
  ((0 : Nat) = 0),
  (((n + 1) : Nat) = (n + 1)),
  ((((↑v : Int) + 1) : Int) = ((↑(v + 1) : Int))),
  ((3 : Nat) = 3),
  ((1 : Nat) ≤ 1),
  ((1 : Nat) ≤ 1),
  (((p.fst.fst) : Int) = (p.fst.fst)),
  (((p.fst.snd.fst.fst) : Nat) = (p.fst.snd.fst.fst)),
  (∀ i : Nat, ((((i) : Nat) < (p.fst.snd.fst.fst)) → (([.int .i64 ((p.fst.snd.fst.snd i).fst), .int .i64 ((p.fst.snd.fst.snd i).snd.fst)] : List PV) = [.int .i64 ((p.fst.snd.fst.snd i).fst), .int .i64 ((p.fst.snd.fst.snd i).snd.fst)]))),
  (((p.snd.fst.fst) : Nat) = (p.snd.fst.fst)),
  (∀ i : Nat, ((((i) : Nat) < (p.snd.fst.fst)) → (([.int .i64 (p.snd.fst.snd i)] : List PV) = [.int .i64 (p.snd.fst.snd i)]))),
  ((1 : Nat) = 1),
  (((n + 1) : Nat) ≤ (n + 1)),
  (∀ i : Nat, ((((i) : Nat) < (n + 1)) → (All (cvtL false [(546, ⟨false, 1, (n + 1), (fun i_1 => (if (i_1 < n) then [.p (.int .i64 (h i_1))] else [.p (.int .i64 ((↑v : Int)))]))⟩), (514, ⟨false, 1, 1, (fun i_1 => [.p (.int .i64 ((↑v : Int)))])⟩), (0, ⟨true, 3, 1, (fun i_1 => [.p (.int .i64 (p.fst.fst)), .p (.seq true 2 (p.fst.snd.fst.fst) (fun i_2 => [.int .i64 ((p.fst.snd.fst.snd i_2).fst), .int .i64 ((p.fst.snd.fst.snd i_2).snd.fst)])), .p (.seq true 1 (p.snd.fst.fst) (fun i_2 => [.int .i64 (p.snd.fst.snd i_2)]))])⟩)] [0, 546] 1 (if (i < n) then [.p (.int .i64 (h i))] else [.p (.int .i64 ((↑v : Int)))])).2 ∧ (((cvtL false [(546, ⟨false, 1, (n + 1), (fun i_1 => (if (i_1 < n) then [.p (.int .i64 (h i_1))] else [.p (.int .i64 ((↑v : Int)))]))⟩), (514, ⟨false, 1, 1, (fun i_1 => [.p (.int .i64 ((↑v : Int)))])⟩), (0, ⟨true, 3, 1, (fun i_1 => [.p (.int .i64 (p.fst.fst)), .p (.seq true 2 (p.fst.snd.fst.fst) (fun i_2 => [.int .i64 ((p.fst.snd.fst.snd i_2).fst), .int .i64 ((p.fst.snd.fst.snd i_2).snd.fst)])), .p (.seq true 1 (p.snd.fst.fst) (fun i_2 => [.int .i64 (p.snd.fst.snd i_2)]))])⟩)] [0, 546] 1 (if (i < n) then [.p (.int .i64 (h i))] else [.p (.int .i64 ((↑v : Int)))])).1 : List AV) = [.p (.int .i64 (snI n h (↑v : Int) i))]))))]) := by kernel_rfl
theorem nSb (p : T_Pinned) (v n : Nat) (h : Nat → Int) (b : Bool) :
    pieceOb Try.prog 0 [.reg [oT, oT, oT, oT, oT, oT, oT, ⟨true, (some ⟨[], [], 1, [], .p (.bool b)⟩), none⟩, oT], .dec true, .reg [oT, oT, oT, ⟨true, (some ⟨[], [], 1, [], .p (.bool true)⟩), none⟩, oT], .dec false, .reg [oT, oT, oT], .head] [.code (cAt (bodyOf Try.f95) [1, 1, 0, 1, 0, 0]), .inLoop (cAt (bodyOf Try.f95) [1, 1, 0, 1, 0, 0]), .inBlock 0, .code (cAt (bodyOf Try.f95) [1, 1, 1])] (SNs p v n h) [0, 1] 1 (SNs p (v + 1) n h) =
    some ([.code (cAt (bodyOf Try.f95) [1, 1, 0, 1, 0, 0]), .inLoop (cAt (bodyOf Try.f95) [1, 1, 0, 1, 0, 0]), .inBlock 0, .code (cAt (bodyOf Try.f95) [1, 1, 1])], [((0 : Nat) < 1),
  (((decide ((↑v : Int) < p.fst.fst)) = true) → ((0 : Nat) < 1)),
  (((decide ((↑v : Int) < p.fst.fst)) = true) → ((decide ((↑v : Int) < p.fst.fst)) = true)),
  (((decide ((↑v : Int) < p.fst.fst)) = true) → Con (Try.prog) 46 0 [] [.agg [.p (.int .i64 (p.fst.fst)), .p (.seq true 2 (p.fst.snd.fst.fst) (fun i => [.int .i64 ((p.fst.snd.fst.snd i).fst), .int .i64 ((p.fst.snd.fst.snd i).snd.fst)])), .p (.seq true 1 (p.snd.fst.fst) (fun i => [.int .i64 (p.snd.fst.snd i)]))]] [] (.p (.bool (b)))),
  (((decide ((↑v : Int) < p.fst.fst)) = true) → ((decide ((↑v : Int) < p.fst.fst)) = true)),
  ((bif decide ((↑v : Int) < p.fst.fst) then b else false) = true),
  ((0 : Nat) < 1),
  Con (Try.prog) 93 0 [] [.p (.seq true 1 (p.snd.fst.fst) (fun i => [.int .i64 (p.snd.fst.snd i)])), .p (.int .i64 ((↑v : Int)))] [] (.p (.bool true)),
  ((!true) = false),
  (((-9223372036854775808) : Int) ≤ ((↑v : Int) + 1)),
  ((((↑v : Int) + 1) : Int) ≤ 9223372036854775807),
  (((p.fst.fst) : Int) = (p.fst.fst)),
  (((p.fst.snd.fst.fst) : Nat) = (p.fst.snd.fst.fst)),
  (∀ i : Nat, ((((i) : Nat) < (p.fst.snd.fst.fst)) → (([.int .i64 ((p.fst.snd.fst.snd i).fst), .int .i64 ((p.fst.snd.fst.snd i).snd.fst)] : List PV) = [.int .i64 ((p.fst.snd.fst.snd i).fst), .int .i64 ((p.fst.snd.fst.snd i).snd.fst)]))),
  (((p.snd.fst.fst) : Nat) = (p.snd.fst.fst)),
  (∀ i : Nat, ((((i) : Nat) < (p.snd.fst.fst)) → (([.int .i64 (p.snd.fst.snd i)] : List PV) = [.int .i64 (p.snd.fst.snd i)]))),
  ((0 : Nat) = 0),
  ((0 : Nat) = 0),
  (((n) : Nat) = (n)),
  ((((↑v : Int) + 1) : Int) = ((↑(v + 1) : Int))),
  ((3 : Nat) = 3),
  ((1 : Nat) ≤ 1),
  ((1 : Nat) ≤ 1),
  (((p.fst.fst) : Int) = (p.fst.fst)),
  (((p.fst.snd.fst.fst) : Nat) = (p.fst.snd.fst.fst)),
  (∀ i : Nat, ((((i) : Nat) < (p.fst.snd.fst.fst)) → (([.int .i64 ((p.fst.snd.fst.snd i).fst), .int .i64 ((p.fst.snd.fst.snd i).snd.fst)] : List PV) = [.int .i64 ((p.fst.snd.fst.snd i).fst), .int .i64 ((p.fst.snd.fst.snd i).snd.fst)]))),
  (((p.snd.fst.fst) : Nat) = (p.snd.fst.fst)),
  (∀ i : Nat, ((((i) : Nat) < (p.snd.fst.fst)) → (([.int .i64 (p.snd.fst.snd i)] : List PV) = [.int .i64 (p.snd.fst.snd i)]))),
  ((1 : Nat) = 1),
  (((n) : Nat) ≤ (n)),
  (∀ i : Nat, ((((i) : Nat) < (n)) → (All [] ∧ (([.p (.int .i64 (h i))] : List AV) = [.p (.int .i64 (h i))]))))]) := by kernel_rfl
theorem nSe (p : T_Pinned) (v n : Nat) (h : Nat → Int) (b : Bool) :
    pathOb Try.prog Try.f95 0 [.reg [oT, oT, oT, oT, oT, oT, oT, ⟨true, (some ⟨[], [], 1, [], .p (.bool b)⟩), none⟩, oT], .dec false, .reg [oT, oT]] [.code (cAt (bodyOf Try.f95) [1, 1, 0, 1, 0, 0]), .inLoop (cAt (bodyOf Try.f95) [1, 1, 0, 1, 0, 0]), .inBlock 0, .code (cAt (bodyOf Try.f95) [1, 1, 1])] (SNs p v n h) [1] 1 [(0, iOb n h)] (.ar 1 0 0 n) =
    some [((0 : Nat) < 1),
  (((decide ((↑v : Int) < p.fst.fst)) = true) → ((0 : Nat) < 1)),
  (((decide ((↑v : Int) < p.fst.fst)) = true) → ((decide ((↑v : Int) < p.fst.fst)) = true)),
  (((decide ((↑v : Int) < p.fst.fst)) = true) → Con (Try.prog) 46 0 [] [.agg [.p (.int .i64 (p.fst.fst)), .p (.seq true 2 (p.fst.snd.fst.fst) (fun i => [.int .i64 ((p.fst.snd.fst.snd i).fst), .int .i64 ((p.fst.snd.fst.snd i).snd.fst)])), .p (.seq true 1 (p.snd.fst.fst) (fun i => [.int .i64 (p.snd.fst.snd i)]))]] [] (.p (.bool (b)))),
  (((decide ((↑v : Int) < p.fst.fst)) = true) → ((decide ((↑v : Int) < p.fst.fst)) = true)),
  ((bif decide ((↑v : Int) < p.fst.fst) then b else false) = false),
  ((0 : Nat) = 0),
  (((n) : Nat) = (n)),
  ((1 : Nat) = 1),
  (((n) : Nat) ≤ (n)),
  (∀ i : Nat, ((((i) : Nat) < (n)) → (All [] ∧ (([.p (.int .i64 (h i))] : List AV) = [.p (.int .i64 (h i))])))),
  (∀ i : Nat, ((((i) : Nat) < (n)) → All []))] := by kernel_rfl
theorem nIn (p : T_Pinned) :
    pathOb Try.prog Try.f102 0 [.reg [oT, oT], .reg [oT, oT], .reg [oT, ⟨true, (some ⟨[], [], 1, [], .p (.bool false)⟩), none⟩, oT], .dec true, .reg [oT, oT]] [.code (bodyOf Try.f102)] (start Try.f102 [] 0 [pinA p]) [64] 1 [(0, iOb 0 (fun _ => 0))] (.ar 1 0 0 0) =
    some [((0 : Nat) < 1),
  Con (Try.prog) 52 0 [] [.agg [.p (.int .i64 (p.fst.fst)), .p (.seq true 2 (p.fst.snd.fst.fst) (fun i => [.int .i64 ((p.fst.snd.fst.snd i).fst), .int .i64 ((p.fst.snd.fst.snd i).snd.fst)])), .p (.seq true 1 (p.snd.fst.fst) (fun i => [.int .i64 (p.snd.fst.snd i)]))]] [] (.p (.bool false)),
  ((!false) = true),
  ((0 : Nat) = 0),
  ((0 : Nat) = 0),
  ((1 : Nat) = 1),
  ((0 : Nat) ≤ 0),
  (∀ i : Nat, ((((i) : Nat) < 0) → (All [] ∧ (([.p .any] : List AV) = [.p (.int .i64 0)])))),
  (∀ i : Nat, ((((i) : Nat) < 0) → All []))] := by kernel_rfl
theorem nIz (p : T_Pinned) :
    pieceOb Try.prog 0 [.reg [oT, oT], .reg [oT, oT], .reg [oT, ⟨true, (some ⟨[], [], 1, [], .p (.bool true)⟩), none⟩, oT], .dec false, .reg [oT, oT, oT, oT], .head] [.code (bodyOf Try.f102)] (start Try.f102 [] 0 [pinA p]) [0, 64] 1 (SNi p 0 0 (fun _ => 0)) =
    some ([.code (cAt (bodyOf Try.f102) [1, 1, 1, 0, 1, 0, 0]), .inLoop (cAt (bodyOf Try.f102) [1, 1, 1, 0, 1, 0, 0]), .inBlock 0, .code (cAt (bodyOf Try.f102) [1, 1, 1, 1])], [((0 : Nat) < 1),
  Con (Try.prog) 52 0 [] [.agg [.p (.int .i64 (p.fst.fst)), .p (.seq true 2 (p.fst.snd.fst.fst) (fun i => [.int .i64 ((p.fst.snd.fst.snd i).fst), .int .i64 ((p.fst.snd.fst.snd i).snd.fst)])), .p (.seq true 1 (p.snd.fst.fst) (fun i => [.int .i64 (p.snd.fst.snd i)]))]] [] (.p (.bool true)),
  ((!true) = false),
  ((0 : Nat) < 1),
  (((p.fst.fst) : Int) = (p.fst.fst)),
  (((p.fst.snd.fst.fst) : Nat) = (p.fst.snd.fst.fst)),
  (∀ i : Nat, ((((i) : Nat) < (p.fst.snd.fst.fst)) → (([.int .i64 ((p.fst.snd.fst.snd i).fst), .int .i64 ((p.fst.snd.fst.snd i).snd.fst)] : List PV) = [.int .i64 ((p.fst.snd.fst.snd i).fst), .int .i64 ((p.fst.snd.fst.snd i).snd.fst)]))),
  (((p.snd.fst.fst) : Nat) = (p.snd.fst.fst)),
  (∀ i : Nat, ((((i) : Nat) < (p.snd.fst.fst)) → (([.int .i64 (p.snd.fst.snd i)] : List PV) = [.int .i64 (p.snd.fst.snd i)]))),
  ((0 : Nat) = 0),
  ((0 : Nat) = 0),
  ((0 : Nat) = 0),
  (((p.fst.fst) : Int) = (p.fst.fst)),
  ((0 : Int) = ((↑0 : Int))),
  ((([AV.p (PV.int IntKind.i64 p.fst.fst), graphL p.fst.snd.fst, inL p.snd.fst].length) : Nat) = 3),
  ((1 : Nat) ≤ 1),
  ((1 : Nat) ≤ 1),
  (((p.fst.fst) : Int) = (p.fst.fst)),
  (((p.fst.snd.fst.fst) : Nat) = (p.fst.snd.fst.fst)),
  (∀ i : Nat, ((((i) : Nat) < (p.fst.snd.fst.fst)) → (([.int .i64 ((p.fst.snd.fst.snd i).fst), .int .i64 ((p.fst.snd.fst.snd i).snd.fst)] : List PV) = [.int .i64 ((p.fst.snd.fst.snd i).fst), .int .i64 ((p.fst.snd.fst.snd i).snd.fst)]))),
  (((p.snd.fst.fst) : Nat) = (p.snd.fst.fst)),
  (∀ i : Nat, ((((i) : Nat) < (p.snd.fst.fst)) → (([.int .i64 (p.snd.fst.snd i)] : List PV) = [.int .i64 (p.snd.fst.snd i)]))),
  ((1 : Nat) = 1),
  ((0 : Nat) ≤ 0),
  (∀ i : Nat, ((((i) : Nat) < 0) → (All [] ∧ (([.p .any] : List AV) = [.p (.int .i64 0)]))))]) := by kernel_rfl
theorem nIa (p : T_Pinned) (v n : Nat) (h : Nat → Int) :
    pieceOb Try.prog 0 [.reg [oT], .dec true, .reg [oT, oT], .reg [oT, oT, oT, ⟨true, (some ⟨[], [], 1, [], .p (.bool false)⟩), none⟩, oT], .dec true, .reg [oT, oT, oT, oT, oT], .reg [oT, oT], .head] [.code (cAt (bodyOf Try.f102) [1, 1, 1, 0, 1, 0, 0]), .inLoop (cAt (bodyOf Try.f102) [1, 1, 1, 0, 1, 0, 0]), .inBlock 0, .code (cAt (bodyOf Try.f102) [1, 1, 1, 1])] (SNi p v n h) [0, 354] 1 (SNi p (v + 1) (n + 1) (snI n h v)) =
    some ([.code (cAt (bodyOf Try.f102) [1, 1, 1, 0, 1, 0, 0]), .inLoop (cAt (bodyOf Try.f102) [1, 1, 1, 0, 1, 0, 0]), .inBlock 0, .code (cAt (bodyOf Try.f102) [1, 1, 1, 1])], [((decide ((↑v : Int) < p.fst.fst)) = true),
  ((0 : Nat) < 1),
  Con (Try.prog) 83 0 [] [.p (.seq true 1 (p.snd.fst.fst) (fun i => [.int .i64 (p.snd.fst.snd i)])), .p (.int .i64 ((↑v : Int)))] [] (.p (.bool false)),
  ((!false) = true),
  ((1 : Nat) ≤ 1),
  (((n) : Nat) ≤ (n)),
  ((((n + 1) * 8) : Nat) ≤ 140737488355328),
  (((n + 1) : Nat) ≤ 9223372036854775807),
  (((-9223372036854775808) : Int) ≤ ((↑v : Int) + 1)),
  ((((↑v : Int) + 1) : Int) ≤ 9223372036854775807),
  (((p.fst.fst) : Int) = (p.fst.fst)),
  (((p.fst.snd.fst.fst) : Nat) = (p.fst.snd.fst.fst)),
  (∀ i : Nat, ((((i) : Nat) < (p.fst.snd.fst.fst)) → (([.int .i64 ((p.fst.snd.fst.snd i).fst), .int .i64 ((p.fst.snd.fst.snd i).snd.fst)] : List PV) = [.int .i64 ((p.fst.snd.fst.snd i).fst), .int .i64 ((p.fst.snd.fst.snd i).snd.fst)]))),
  (((p.snd.fst.fst) : Nat) = (p.snd.fst.fst)),
  (∀ i : Nat, ((((i) : Nat) < (p.snd.fst.fst)) → (([.int .i64 (p.snd.fst.snd i)] : List PV) = [.int .i64 (p.snd.fst.snd i)]))),
  ((0 : Nat) = 0),
  ((0 : Nat) = 0),
  (((n + 1) : Nat) = (n + 1)),
  (((p.fst.fst) : Int) = (p.fst.fst)),
  ((((↑v : Int) + 1) : Int) = ((↑(v + 1) : Int))),
  ((3 : Nat) = 3),
  ((1 : Nat) ≤ 1),
  ((1 : Nat) ≤ 1),
  (((p.fst.fst) : Int) = (p.fst.fst)),
  (((p.fst.snd.fst.fst) : Nat) = (p.fst.snd.fst.fst)),
  (∀ i : Nat, ((((i) : Nat) < (p.fst.snd.fst.fst)) → (([.int .i64 ((p.fst.snd.fst.snd i).fst), .int .i64 ((p.fst.snd.fst.snd i).snd.fst)] : List PV) = [.int .i64 ((p.fst.snd.fst.snd i).fst), .int .i64 ((p.fst.snd.fst.snd i).snd.fst)]))),
  (((p.snd.fst.fst) : Nat) = (p.snd.fst.fst)),
  (∀ i : Nat, ((((i) : Nat) < (p.snd.fst.fst)) → (([.int .i64 (p.snd.fst.snd i)] : List PV) = [.int .i64 (p.snd.fst.snd i)]))),
  ((1 : Nat) = 1),
  (((n + 1) : Nat) ≤ (n + 1)),
  (∀ i : Nat, ((((i) : Nat) < (n + 1)) → (All (cvtL false [(354, ⟨false, 1, (n + 1), (fun i_1 => (if (i_1 < n) then [.p (.int .i64 (h i_1))] else [.p (.int .i64 ((↑v : Int)))]))⟩), (322, ⟨false, 1, 1, (fun i_1 => [.p (.int .i64 ((↑v : Int)))])⟩), (0, ⟨true, 3, 1, (fun i_1 => [.p (.int .i64 (p.fst.fst)), .p (.seq true 2 (p.fst.snd.fst.fst) (fun i_2 => [.int .i64 ((p.fst.snd.fst.snd i_2).fst), .int .i64 ((p.fst.snd.fst.snd i_2).snd.fst)])), .p (.seq true 1 (p.snd.fst.fst) (fun i_2 => [.int .i64 (p.snd.fst.snd i_2)]))])⟩)] [0, 354] 1 (if (i < n) then [.p (.int .i64 (h i))] else [.p (.int .i64 ((↑v : Int)))])).2 ∧ (((cvtL false [(354, ⟨false, 1, (n + 1), (fun i_1 => (if (i_1 < n) then [.p (.int .i64 (h i_1))] else [.p (.int .i64 ((↑v : Int)))]))⟩), (322, ⟨false, 1, 1, (fun i_1 => [.p (.int .i64 ((↑v : Int)))])⟩), (0, ⟨true, 3, 1, (fun i_1 => [.p (.int .i64 (p.fst.fst)), .p (.seq true 2 (p.fst.snd.fst.fst) (fun i_2 => [.int .i64 ((p.fst.snd.fst.snd i_2).fst), .int .i64 ((p.fst.snd.fst.snd i_2).snd.fst)])), .p (.seq true 1 (p.snd.fst.fst) (fun i_2 => [.int .i64 (p.snd.fst.snd i_2)]))])⟩)] [0, 354] 1 (if (i < n) then [.p (.int .i64 (h i))] else [.p (.int .i64 ((↑v : Int)))])).1 : List AV) = [.p (.int .i64 (snI n h (↑v : Int) i))]))))]) := by kernel_rfl
theorem nIb (p : T_Pinned) (v n : Nat) (h : Nat → Int) :
    pieceOb Try.prog 0 [.reg [oT], .dec true, .reg [oT, oT], .reg [oT, oT, oT, ⟨true, (some ⟨[], [], 1, [], .p (.bool true)⟩), none⟩, oT], .dec false, .reg [oT, oT], .head] [.code (cAt (bodyOf Try.f102) [1, 1, 1, 0, 1, 0, 0]), .inLoop (cAt (bodyOf Try.f102) [1, 1, 1, 0, 1, 0, 0]), .inBlock 0, .code (cAt (bodyOf Try.f102) [1, 1, 1, 1])] (SNi p v n h) [0, 1] 1 (SNi p (v + 1) n h) =
    some ([.code (cAt (bodyOf Try.f102) [1, 1, 1, 0, 1, 0, 0]), .inLoop (cAt (bodyOf Try.f102) [1, 1, 1, 0, 1, 0, 0]), .inBlock 0, .code (cAt (bodyOf Try.f102) [1, 1, 1, 1])], [((decide ((↑v : Int) < p.fst.fst)) = true),
  ((0 : Nat) < 1),
  Con (Try.prog) 83 0 [] [.p (.seq true 1 (p.snd.fst.fst) (fun i => [.int .i64 (p.snd.fst.snd i)])), .p (.int .i64 ((↑v : Int)))] [] (.p (.bool true)),
  ((!true) = false),
  (((-9223372036854775808) : Int) ≤ ((↑v : Int) + 1)),
  ((((↑v : Int) + 1) : Int) ≤ 9223372036854775807),
  (((p.fst.fst) : Int) = (p.fst.fst)),
  (((p.fst.snd.fst.fst) : Nat) = (p.fst.snd.fst.fst)),
  (∀ i : Nat, ((((i) : Nat) < (p.fst.snd.fst.fst)) → (([.int .i64 ((p.fst.snd.fst.snd i).fst), .int .i64 ((p.fst.snd.fst.snd i).snd.fst)] : List PV) = [.int .i64 ((p.fst.snd.fst.snd i).fst), .int .i64 ((p.fst.snd.fst.snd i).snd.fst)]))),
  (((p.snd.fst.fst) : Nat) = (p.snd.fst.fst)),
  (∀ i : Nat, ((((i) : Nat) < (p.snd.fst.fst)) → (([.int .i64 (p.snd.fst.snd i)] : List PV) = [.int .i64 (p.snd.fst.snd i)]))),
  ((0 : Nat) = 0),
  ((0 : Nat) = 0),
  (((n) : Nat) = (n)),
  (((p.fst.fst) : Int) = (p.fst.fst)),
  ((((↑v : Int) + 1) : Int) = ((↑(v + 1) : Int))),
  ((3 : Nat) = 3),
  ((1 : Nat) ≤ 1),
  ((1 : Nat) ≤ 1),
  (((p.fst.fst) : Int) = (p.fst.fst)),
  (((p.fst.snd.fst.fst) : Nat) = (p.fst.snd.fst.fst)),
  (∀ i : Nat, ((((i) : Nat) < (p.fst.snd.fst.fst)) → (([.int .i64 ((p.fst.snd.fst.snd i).fst), .int .i64 ((p.fst.snd.fst.snd i).snd.fst)] : List PV) = [.int .i64 ((p.fst.snd.fst.snd i).fst), .int .i64 ((p.fst.snd.fst.snd i).snd.fst)]))),
  (((p.snd.fst.fst) : Nat) = (p.snd.fst.fst)),
  (∀ i : Nat, ((((i) : Nat) < (p.snd.fst.fst)) → (([.int .i64 (p.snd.fst.snd i)] : List PV) = [.int .i64 (p.snd.fst.snd i)]))),
  ((1 : Nat) = 1),
  (((n) : Nat) ≤ (n)),
  (∀ i : Nat, ((((i) : Nat) < (n)) → (All [] ∧ (([.p (.int .i64 (h i))] : List AV) = [.p (.int .i64 (h i))]))))]) := by kernel_rfl
theorem nIe (p : T_Pinned) (v n : Nat) (h : Nat → Int) :
    pathOb Try.prog Try.f102 0 [.reg [oT], .dec false, .reg [oT, oT]] [.code (cAt (bodyOf Try.f102) [1, 1, 1, 0, 1, 0, 0]), .inLoop (cAt (bodyOf Try.f102) [1, 1, 1, 0, 1, 0, 0]), .inBlock 0, .code (cAt (bodyOf Try.f102) [1, 1, 1, 1])] (SNi p v n h) [1] 1 [(0, iOb n h)] (.ar 1 0 0 n) =
    some [((decide ((↑v : Int) < p.fst.fst)) = false),
  ((0 : Nat) = 0),
  (((n) : Nat) = (n)),
  ((1 : Nat) = 1),
  (((n) : Nat) ≤ (n)),
  (∀ i : Nat, ((((i) : Nat) < (n)) → (All [] ∧ (([.p (.int .i64 (h i))] : List AV) = [.p (.int .i64 (h i))])))),
  (∀ i : Nat, ((((i) : Nat) < (n)) → All []))] := by kernel_rfl
theorem fFn (p : T_Pinned) :
    pathOb Try.prog Try.f54 0 [.reg [oT, oT], .reg [oT, ⟨true, (some ⟨[], [], 1, [], .p (.bool false)⟩), none⟩, oT], .dec true, .reg [oT]] [.code (bodyOf Try.f54)] (start Try.f54 [] 0 [pinA p]) [] 1 [] (.p (.int .i64 (-1))) =
    some [((0 : Nat) < 1),
  Con (Try.prog) 52 0 [] [.agg [.p (.int .i64 (p.fst.fst)), .p (.seq true 2 (p.fst.snd.fst.fst) (fun i => [.int .i64 ((p.fst.snd.fst.snd i).fst), .int .i64 ((p.fst.snd.fst.snd i).snd.fst)])), .p (.seq true 1 (p.snd.fst.fst) (fun i => [.int .i64 (p.snd.fst.snd i)]))]] [] (.p (.bool false)),
  ((!false) = true),
  (((-1) : Int) = (-1))] := by kernel_rfl
theorem fFy (p : T_Pinned) (n : Nat) (h : Nat → Int) (r : Int) :
    pathOb Try.prog Try.f54 0 [.reg [oT, oT], .reg [oT, ⟨true, (some ⟨[], [], 1, [], .p (.bool true)⟩), none⟩, oT], .dec false, .reg [oT, ⟨true, (some ⟨[], [], 1, [(0, iOb n h)], .ar 1 0 0 n⟩), none⟩, oT, oT, oT, ⟨true, (some ⟨[], [], 1, [], .p (.int .i64 r)⟩), none⟩, oT, oT]] [.code (bodyOf Try.f54)] (start Try.f54 [] 0 [pinA p]) [] 1 [] (.p (.int .i64 (2 * (n : Int) - r))) =
    some [((0 : Nat) < 1),
  Con (Try.prog) 52 0 [] [.agg [.p (.int .i64 (p.fst.fst)), .p (.seq true 2 (p.fst.snd.fst.fst) (fun i => [.int .i64 ((p.fst.snd.fst.snd i).fst), .int .i64 ((p.fst.snd.fst.snd i).snd.fst)])), .p (.seq true 1 (p.snd.fst.fst) (fun i => [.int .i64 (p.snd.fst.snd i)]))]] [] (.p (.bool true)),
  ((!true) = false),
  ((0 : Nat) < 1),
  Con (Try.prog) 102 0 [] [.agg [.p (.int .i64 (p.fst.fst)), .p (.seq true 2 (p.fst.snd.fst.fst) (fun i => [.int .i64 ((p.fst.snd.fst.snd i).fst), .int .i64 ((p.fst.snd.fst.snd i).snd.fst)])), .p (.seq true 1 (p.snd.fst.fst) (fun i => [.int .i64 (p.snd.fst.snd i)]))]] [(0, ⟨false, 1, (n), (fun i => [.p (.int .i64 (h i))])⟩)] (.ar 1 0 0 (n)),
  (((-9223372036854775808) : Int) ≤ (2 * (↑n : Int))),
  (((2 * (↑n : Int)) : Int) ≤ 9223372036854775807),
  ((0 : Nat) < 1),
  Con (Try.prog) 103 0 [] [.agg [.p (.int .i64 (p.fst.fst)), .p (.seq true 2 (p.fst.snd.fst.fst) (fun i => [.int .i64 ((p.fst.snd.fst.snd i).fst), .int .i64 ((p.fst.snd.fst.snd i).snd.fst)])), .p (.seq true 1 (p.snd.fst.fst) (fun i => [.int .i64 (p.snd.fst.snd i)]))]] [] (.p (.int .i64 (r))),
  (((-9223372036854775808) : Int) ≤ (2 * (↑n : Int) - r)),
  (((2 * (↑n : Int) - r) : Int) ≤ 9223372036854775807),
  (((2 * (↑n : Int) - r) : Int) = (2 * (↑n : Int) - r))] := by kernel_rfl
theorem fGn (p : T_Pinned) :
    pathOb Try.prog Try.f48 0 [.reg [oT, oT], .reg [oT, ⟨true, (some ⟨[], [], 1, [], .p (.bool false)⟩), none⟩, oT], .dec true, .reg [oT]] [.code (bodyOf Try.f48)] (start Try.f48 [] 0 [pinA p]) [] 1 [] (.p (.int .i64 (-1))) =
    some [((0 : Nat) < 1),
  Con (Try.prog) 46 0 [] [.agg [.p (.int .i64 (p.fst.fst)), .p (.seq true 2 (p.fst.snd.fst.fst) (fun i => [.int .i64 ((p.fst.snd.fst.snd i).fst), .int .i64 ((p.fst.snd.fst.snd i).snd.fst)])), .p (.seq true 1 (p.snd.fst.fst) (fun i => [.int .i64 (p.snd.fst.snd i)]))]] [] (.p (.bool false)),
  ((!false) = true),
  (((-1) : Int) = (-1))] := by kernel_rfl
theorem fGy (p : T_Pinned) (n : Nat) (h : Nat → Int) (r : Int) :
    pathOb Try.prog Try.f48 0 [.reg [oT, oT], .reg [oT, ⟨true, (some ⟨[], [], 1, [], .p (.bool true)⟩), none⟩, oT], .dec false, .reg [oT, ⟨true, (some ⟨[], [], 1, [(0, iOb n h)], .ar 1 0 0 n⟩), none⟩, oT, oT, oT, ⟨true, (some ⟨[], [], 1, [], .p (.int .i64 r)⟩), none⟩, oT, oT]] [.code (bodyOf Try.f48)] (start Try.f48 [] 0 [pinA p]) [] 1 [] (.p (.int .i64 (2 * (n : Int) - r))) =
    some [((0 : Nat) < 1),
  Con (Try.prog) 46 0 [] [.agg [.p (.int .i64 (p.fst.fst)), .p (.seq true 2 (p.fst.snd.fst.fst) (fun i => [.int .i64 ((p.fst.snd.fst.snd i).fst), .int .i64 ((p.fst.snd.fst.snd i).snd.fst)])), .p (.seq true 1 (p.snd.fst.fst) (fun i => [.int .i64 (p.snd.fst.snd i)]))]] [] (.p (.bool true)),
  ((!true) = false),
  ((0 : Nat) < 1),
  Con (Try.prog) 95 0 [] [.agg [.p (.int .i64 (p.fst.fst)), .p (.seq true 2 (p.fst.snd.fst.fst) (fun i => [.int .i64 ((p.fst.snd.fst.snd i).fst), .int .i64 ((p.fst.snd.fst.snd i).snd.fst)])), .p (.seq true 1 (p.snd.fst.fst) (fun i => [.int .i64 (p.snd.fst.snd i)]))]] [(0, ⟨false, 1, (n), (fun i => [.p (.int .i64 (h i))])⟩)] (.ar 1 0 0 (n)),
  (((-9223372036854775808) : Int) ≤ (2 * (↑n : Int))),
  (((2 * (↑n : Int)) : Int) ≤ 9223372036854775807),
  ((0 : Nat) < 1),
  Con (Try.prog) 96 0 [] [.agg [.p (.int .i64 (p.fst.fst)), .p (.seq true 2 (p.fst.snd.fst.fst) (fun i => [.int .i64 ((p.fst.snd.fst.snd i).fst), .int .i64 ((p.fst.snd.fst.snd i).snd.fst)])), .p (.seq true 1 (p.snd.fst.fst) (fun i => [.int .i64 (p.snd.fst.snd i)]))]] [] (.p (.int .i64 (r))),
  (((-9223372036854775808) : Int) ≤ (2 * (↑n : Int) - r)),
  (((2 * (↑n : Int) - r) : Int) ≤ 9223372036854775807),
  (((2 * (↑n : Int) - r) : Int) = (2 * (↑n : Int) - r))] := by kernel_rfl
theorem fRi (p : T_Pinned) (r : Int) :
    pathOb Try.prog Try.f68 0 [.reg [oT, oT], .reg [oT, ⟨true, (some ⟨[], [], 1, [], .p (.int .i64 r)⟩), none⟩, oT, oT]] [.code (bodyOf Try.f68)] (start Try.f68 [] 0 [pinA p]) [] 1 [] (.p (.bool (r == 0))) =
    some [((0 : Nat) < 1),
  Con (Try.prog) 54 0 [] [.agg [.p (.int .i64 (p.fst.fst)), .p (.seq true 2 (p.fst.snd.fst.fst) (fun i => [.int .i64 ((p.fst.snd.fst.snd i).fst), .int .i64 ((p.fst.snd.fst.snd i).snd.fst)])), .p (.seq true 1 (p.snd.fst.fst) (fun i => [.int .i64 (p.snd.fst.snd i)]))]] [] (.p (.int .i64 (r))),
  ((r == 0) = (r == 0))] := by kernel_rfl
theorem fRs (p : T_Pinned) (r : Int) :
    pathOb Try.prog Try.f67 0 [.reg [oT, oT], .reg [oT, ⟨true, (some ⟨[], [], 1, [], .p (.int .i64 r)⟩), none⟩, oT, oT]] [.code (bodyOf Try.f67)] (start Try.f67 [] 0 [pinA p]) [] 1 [] (.p (.bool (r == 0))) =
    some [((0 : Nat) < 1),
  Con (Try.prog) 48 0 [] [.agg [.p (.int .i64 (p.fst.fst)), .p (.seq true 2 (p.fst.snd.fst.fst) (fun i => [.int .i64 ((p.fst.snd.fst.snd i).fst), .int .i64 ((p.fst.snd.fst.snd i).snd.fst)])), .p (.seq true 1 (p.snd.fst.fst) (fun i => [.int .i64 (p.snd.fst.snd i)]))]] [] (.p (.int .i64 (r))),
  ((r == 0) = (r == 0))] := by kernel_rfl
theorem fIi (p : T_Pinned) (l : T_BarS) (q : T_Pinned) (b1 b2 : Bool) :
    pathOb Try.prog Try.f25 0 [.reg [oT, oT], .reg [oT, oT, ⟨true, (some ⟨[], [], 1, [(0, brOb q.1.2.1.1 q.1.2.1.2), (1, iOb q.2.1.1 q.2.1.2)], .tup [.agg [.p (.int .i64 q.1.1), .ar 2 0 0 q.1.2.1.1, .ar 1 1 0 q.2.1.1], .p (.bool b1)]⟩), none⟩, oT, oT, oT, oT, oT, oT], .reg [oT, oT, oT, ⟨true, (some ⟨[], [], 1, [], .p (.bool b2)⟩), none⟩, oT, oT]] [.code (bodyOf Try.f25)] (start Try.f25 [] 0 [pinA p, graphL l]) [] 1 [] (.p (.bool (bif b1 then b2 else false))) =
    some [((0 : Nat) < 1),
  Con (Try.prog) 19 0 [] [.agg [.p (.int .i64 (p.fst.fst)), .p (.seq true 2 (p.fst.snd.fst.fst) (fun i => [.int .i64 ((p.fst.snd.fst.snd i).fst), .int .i64 ((p.fst.snd.fst.snd i).snd.fst)])), .p (.seq true 1 (p.snd.fst.fst) (fun i => [.int .i64 (p.snd.fst.snd i)]))], .p (.seq true 2 (l.fst) (fun i => [.int .i64 ((l.snd i).fst), .int .i64 ((l.snd i).snd.fst)]))] [(0, ⟨false, 2, (q.fst.snd.fst.fst), (fun i => [.p (.int .i64 ((q.fst.snd.fst.snd i).fst)), .p (.int .i64 ((q.fst.snd.fst.snd i).snd.fst))])⟩), (1, ⟨false, 1, (q.snd.fst.fst), (fun i => [.p (.int .i64 (q.snd.fst.snd i))])⟩)] (.tup [.agg [.p (.int .i64 (q.fst.fst)), .ar 2 0 0 (q.fst.snd.fst.fst), .ar 1 1 0 (q.snd.fst.fst)], .p (.bool (b1))]),
  ((0 : Nat) < 1),
  (((true) = true) → ((1 : Nat) = 1)),
  (((b1) = true) → ((0 : Nat) < 1)),
  (((b1) = true) → ((b1) = true)),
  (((b1) = true) → ((2 : Nat) = 2)),
  (((b1) = true) → (((q.fst.snd.fst.fst) : Nat) ≤ (q.fst.snd.fst.fst))),
  (((b1) = true) → ((1 : Nat) = 1)),
  (((b1) = true) → (((q.snd.fst.fst) : Nat) ≤ (q.snd.fst.fst))),
  (((b1) = true) → Con (Try.prog) 68 0 [] [.agg [.p (.int .i64 (q.fst.fst)), .p (.seq true 2 (q.fst.snd.fst.fst) (fun i => [.int .i64 ((q.fst.snd.fst.snd i).fst), .int .i64 ((q.fst.snd.fst.snd i).snd.fst)])), .p (.seq true 1 (q.snd.fst.fst) (fun i => [.int .i64 (q.snd.fst.snd i)]))]] [] (.p (.bool (b2)))),
  (((b1) = true) → ((b1) = true)),
  ((bif b1 then b2 else false) = (bif b1 then b2 else false))] := by kernel_rfl
theorem fIs (p : T_Pinned) (l : T_BarS) (q : T_Pinned) (b1 b2 : Bool) :
    pathOb Try.prog Try.f24 0 [.reg [oT, oT], .reg [oT, oT, ⟨true, (some ⟨[], [], 1, [(0, brOb q.1.2.1.1 q.1.2.1.2), (1, iOb q.2.1.1 q.2.1.2)], .tup [.agg [.p (.int .i64 q.1.1), .ar 2 0 0 q.1.2.1.1, .ar 1 1 0 q.2.1.1], .p (.bool b1)]⟩), none⟩, oT, oT, oT, oT, oT, oT], .reg [oT, oT, oT, ⟨true, (some ⟨[], [], 1, [], .p (.bool b2)⟩), none⟩, oT, oT]] [.code (bodyOf Try.f24)] (start Try.f24 [] 0 [pinA p, graphL l]) [] 1 [] (.p (.bool (bif b1 then b2 else false))) =
    some [((0 : Nat) < 1),
  Con (Try.prog) 17 0 [] [.agg [.p (.int .i64 (p.fst.fst)), .p (.seq true 2 (p.fst.snd.fst.fst) (fun i => [.int .i64 ((p.fst.snd.fst.snd i).fst), .int .i64 ((p.fst.snd.fst.snd i).snd.fst)])), .p (.seq true 1 (p.snd.fst.fst) (fun i => [.int .i64 (p.snd.fst.snd i)]))], .p (.seq true 2 (l.fst) (fun i => [.int .i64 ((l.snd i).fst), .int .i64 ((l.snd i).snd.fst)]))] [(0, ⟨false, 2, (q.fst.snd.fst.fst), (fun i => [.p (.int .i64 ((q.fst.snd.fst.snd i).fst)), .p (.int .i64 ((q.fst.snd.fst.snd i).snd.fst))])⟩), (1, ⟨false, 1, (q.snd.fst.fst), (fun i => [.p (.int .i64 (q.snd.fst.snd i))])⟩)] (.tup [.agg [.p (.int .i64 (q.fst.fst)), .ar 2 0 0 (q.fst.snd.fst.fst), .ar 1 1 0 (q.snd.fst.fst)], .p (.bool (b1))]),
  ((0 : Nat) < 1),
  (((true) = true) → ((1 : Nat) = 1)),
  (((b1) = true) → ((0 : Nat) < 1)),
  (((b1) = true) → ((b1) = true)),
  (((b1) = true) → ((2 : Nat) = 2)),
  (((b1) = true) → (((q.fst.snd.fst.fst) : Nat) ≤ (q.fst.snd.fst.fst))),
  (((b1) = true) → ((1 : Nat) = 1)),
  (((b1) = true) → (((q.snd.fst.fst) : Nat) ≤ (q.snd.fst.fst))),
  (((b1) = true) → Con (Try.prog) 67 0 [] [.agg [.p (.int .i64 (q.fst.fst)), .p (.seq true 2 (q.fst.snd.fst.fst) (fun i => [.int .i64 ((q.fst.snd.fst.snd i).fst), .int .i64 ((q.fst.snd.fst.snd i).snd.fst)])), .p (.seq true 1 (q.snd.fst.fst) (fun i => [.int .i64 (q.snd.fst.snd i)]))]] [] (.p (.bool (b2)))),
  (((b1) = true) → ((b1) = true)),
  ((bif b1 then b2 else false) = (bif b1 then b2 else false))] := by kernel_rfl

abbrev NI := Nat × (Nat → Int)
def zNI : NI := (0, fun _ => 0)
def snN (r : NI) (x : Int) : NI := (r.1 + 1, snI r.1 r.2 x)
def inrD (p : T_Pinned) : Nat → NI
  | 0 => zNI
  | v + 1 => if hasI p.2.1.2 v p.2.1.1 = true then inrD p v else snN (inrD p v) v
def inrP (p : T_Pinned) : NI := if pinnedF p = true then inrD p p.1.1.toNat else zNI
theorem inrD_n (p : T_Pinned) : ∀ v, (inrD p v).1 ≤ v
  | 0 => Nat.le_refl _
  | v + 1 => by
    have := inrD_n p v
    simp only [inrD]
    split
    · omega
    · simp only [snN]; omega
theorem inrP_n (p : T_Pinned) : (inrP p).1 ≤ 8 := by
  unfold inrP
  split
  · rename_i h
    have := (pin_ok h).N
    have := inrD_n p p.1.1.toNat
    omega
  · exact Nat.zero_le _

theorem con_InnerPoints_s (p : T_Pinned) (hs : smS s_Pinned p) : Con Try.prog 95 0 [] [pinA p] [(0, iOb (inrP p).1 (inrP p).2)] (.ar 1 0 0 (inrP p).1) := by
  have hg : p.2.1.1 ≤ 1048576 := hs.2.1.1
  have c1 := con_IsPinned_s p hs
  refine con_start Try.func95 rfl (by kernel_rfl) rfl (fun c hc => ?_)
  cases hp : pinnedF p with
  | false =>
    rw [hp] at c1
    rw [show inrP p = zNI by simp [inrP, hp]]
    have hd : (bif decide (((0 : Nat) : Int) < p.1.1) then false else false) = false := by cases decide (((0 : Nat) : Int) < p.1.1) <;> rfl
    have he : Run Try.prog c 95 [.code (cAt (bodyOf Try.f95) [1, 1, 0, 1, 0, 0]), .inLoop (cAt (bodyOf Try.f95) [1, 1, 0, 1, 0, 0]), .inBlock 0, .code (cAt (bodyOf Try.f95) [1, 1, 1])] (SNs p 0 0 (fun _ => 0)) (Post c [(0, iOb zNI.1 zNI.2)] (.ar 1 0 0 zNI.1)) := by
      refine path_ok mixed Try.func95 hc (nSe p 0 0 (fun _ => 0) false) ?_
      simp only [All]
      repeat' (first | exact trivial | with_reducible apply And.intro)
      all_goals (first | omega | rfl | (intros; first | assumption | exact True.intro | rfl | exact absurd (show false = true by assumption) Bool.false_ne_true | ((repeat' (first | assumption | apply anda | apply notf)); done)) | (intros; exact c1) | (exact hd) | (intro t ht; exact absurd ht (Nat.not_lt_zero _)) | (intro t ht; simp [All]))
    refine piece_ok mixed hc (nSz p) ?_ he
    simp only [All]
    repeat' (first | exact trivial | with_reducible apply And.intro)
    all_goals (first | omega | rfl | (intros; first | assumption | exact True.intro | rfl | exact absurd (show false = true by assumption) Bool.false_ne_true | ((repeat' (first | assumption | apply anda | apply notf)); done)) | (intro t ht; exact absurd ht (Nat.not_lt_zero _)) | (intro t ht; simp [All]))
  | true =>
    have ok := pin_ok hp
    have hN := ok.N
    rw [hp] at c1
    rw [show inrP p = inrD p p.1.1.toNat by simp [inrP, hp]]
    generalize hR : inrD p p.1.1.toNat = R
    have lo : ∀ d v, v + d = p.1.1.toNat → Run Try.prog c 95 [.code (cAt (bodyOf Try.f95) [1, 1, 0, 1, 0, 0]), .inLoop (cAt (bodyOf Try.f95) [1, 1, 0, 1, 0, 0]), .inBlock 0, .code (cAt (bodyOf Try.f95) [1, 1, 1])] (SNs p v (inrD p v).1 (inrD p v).2) (Post c [(0, iOb R.1 R.2)] (.ar 1 0 0 R.1)) := by
      intro d
      induction d with
      | zero =>
        intro v hv
        obtain rfl : v = p.1.1.toNat := by omega
        have hd : (bif decide (((p.1.1.toNat : Nat) : Int) < p.1.1) then true else false) = false := by
          rw [show decide (((p.1.1.toNat : Nat) : Int) < p.1.1) = false from decide_eq_false (by omega)]; rfl
        rw [hR]
        refine path_ok mixed Try.func95 hc (nSe p p.1.1.toNat R.1 R.2 true) ?_
        simp only [All]
        repeat' (first | exact trivial | with_reducible apply And.intro)
        all_goals (first | omega | rfl | (intros; first | assumption | exact True.intro | rfl | exact absurd (show false = true by assumption) Bool.false_ne_true | ((repeat' (first | assumption | apply anda | apply notf)); done)) | (exact hd) | (intros; exact c1) | (intro t ht; simp [All]))
      | succ d ih =>
        intro v hv
        have hrec := ih (v + 1) (by omega)
        have hd : (bif decide ((v : Int) < p.1.1) then true else false) = true := by
          rw [show decide ((v : Int) < p.1.1) = true from decide_eq_true (by omega)]; rfl
        have ch := con_l2Has p.2.1 v hg
        have hn := inrD_n p v
        by_cases hh : hasI p.2.1.2 v p.2.1.1 = true
        · rw [hh] at ch
          rw [show inrD p (v + 1) = inrD p v by simp only [inrD, hh, if_true]] at hrec
          generalize inrD p v = q at hn hrec ⊢
          refine piece_ok mixed hc (nSb p v q.1 q.2 true) ?_ hrec
          simp only [All]
          repeat' (first | exact trivial | with_reducible apply And.intro)
          all_goals (first | omega | rfl | (intros; first | assumption | exact True.intro | rfl | exact absurd (show false = true by assumption) Bool.false_ne_true | ((repeat' (first | assumption | apply anda | apply notf)); done)) | (exact hd) | (intros; exact c1) | (exact ch) | (intro t ht; simp [All]))
        · rw [Bool.not_eq_true] at hh
          rw [hh] at ch
          rw [show inrD p (v + 1) = snN (inrD p v) v by simp [inrD, hh]] at hrec
          generalize inrD p v = q at hn hrec ⊢
          refine piece_ok mixed hc (nSa p v q.1 q.2 true) ?_ hrec
          simp only [All]
          repeat' (first | exact trivial | with_reducible apply And.intro)
          all_goals (first | omega | rfl | (intros; first | assumption | exact True.intro | rfl | exact absurd (show false = true by assumption) Bool.false_ne_true | ((repeat' (first | assumption | apply anda | apply notf)); done)) | (exact hd) | (intros; exact c1) | (exact ch) | (intro t ht; by_cases h' : t < q.1 <;> simp [h', snI, cvtL, cvt, tg, tru, All]))
    refine piece_ok mixed hc (nSz p) ?_ (lo p.1.1.toNat 0 (by omega))
    simp only [All]
    repeat' (first | exact trivial | with_reducible apply And.intro)
    all_goals (first | omega | rfl | (intros; first | assumption | exact True.intro | rfl | exact absurd (show false = true by assumption) Bool.false_ne_true | ((repeat' (first | assumption | apply anda | apply notf)); done)) | (intro t ht; exact absurd ht (Nat.not_lt_zero _)) | (intro t ht; simp [All]))

theorem con_InnerPoints_i (p : T_Pinned) (hs : smS s_Pinned p) : Con Try.prog 102 0 [] [pinA p] [(0, iOb (inrP p).1 (inrP p).2)] (.ar 1 0 0 (inrP p).1) := by
  have hg : p.2.1.1 ≤ 1048576 := hs.2.1.1
  have c1 := con_IsPinned_i p hs
  refine con_start Try.func102 rfl (by kernel_rfl) rfl (fun c hc => ?_)
  cases hp : pinnedF p with
  | false =>
    rw [hp] at c1
    rw [show inrP p = zNI by simp [inrP, hp]]
    refine path_ok mixed Try.func102 hc (nIn p) ?_
    simp only [All]
    repeat' (first | exact trivial | with_reducible apply And.intro)
    all_goals (first | omega | rfl | (intros; first | assumption | exact True.intro | rfl | exact absurd (show false = true by assumption) Bool.false_ne_true | ((repeat' (first | assumption | apply anda | apply notf)); done)) | (exact c1) | (intro t ht; exact absurd ht (Nat.not_lt_zero _)) | (intro t ht; simp [All]))
  | true =>
    have ok := pin_ok hp
    have hN := ok.N
    rw [hp] at c1
    rw [show inrP p = inrD p p.1.1.toNat by simp [inrP, hp]]
    generalize hR : inrD p p.1.1.toNat = R
    have lo : ∀ d v, v + d = p.1.1.toNat → Run Try.prog c 102 [.code (cAt (bodyOf Try.f102) [1, 1, 1, 0, 1, 0, 0]), .inLoop (cAt (bodyOf Try.f102) [1, 1, 1, 0, 1, 0, 0]), .inBlock 0, .code (cAt (bodyOf Try.f102) [1, 1, 1, 1])] (SNi p v (inrD p v).1 (inrD p v).2) (Post c [(0, iOb R.1 R.2)] (.ar 1 0 0 R.1)) := by
      intro d
      induction d with
      | zero =>
        intro v hv
        obtain rfl : v = p.1.1.toNat := by omega
        have hd : decide (((p.1.1.toNat : Nat) : Int) < p.1.1) = false := decide_eq_false (by omega)
        rw [hR]
        refine path_ok mixed Try.func102 hc (nIe p p.1.1.toNat R.1 R.2) ?_
        simp only [All]
        repeat' (first | exact trivial | with_reducible apply And.intro)
        all_goals (first | omega | rfl | (intros; first | assumption | exact True.intro | rfl | exact absurd (show false = true by assumption) Bool.false_ne_true | ((repeat' (first | assumption | apply anda | apply notf)); done)) | (exact hd) | (intro t ht; simp [All]))
      | succ d ih =>
        intro v hv
        have hrec := ih (v + 1) (by omega)
        have hd : decide ((v : Int) < p.1.1) = true := decide_eq_true (by omega)
        have ch := con_Contains p.2.1 v hg
        have hn := inrD_n p v
        by_cases hh : hasI p.2.1.2 v p.2.1.1 = true
        · rw [hh] at ch
          rw [show inrD p (v + 1) = inrD p v by simp only [inrD, hh, if_true]] at hrec
          generalize inrD p v = q at hn hrec ⊢
          refine piece_ok mixed hc (nIb p v q.1 q.2) ?_ hrec
          simp only [All]
          repeat' (first | exact trivial | with_reducible apply And.intro)
          all_goals (first | omega | rfl | (intros; first | assumption | exact True.intro | rfl | exact absurd (show false = true by assumption) Bool.false_ne_true | ((repeat' (first | assumption | apply anda | apply notf)); done)) | (exact hd) | (exact ch) | (intro t ht; simp [All]))
        · rw [Bool.not_eq_true] at hh
          rw [hh] at ch
          rw [show inrD p (v + 1) = snN (inrD p v) v by simp [inrD, hh]] at hrec
          generalize inrD p v = q at hn hrec ⊢
          refine piece_ok mixed hc (nIa p v q.1 q.2) ?_ hrec
          simp only [All]
          repeat' (first | exact trivial | with_reducible apply And.intro)
          all_goals (first | omega | rfl | (intros; first | assumption | exact True.intro | rfl | exact absurd (show false = true by assumption) Bool.false_ne_true | ((repeat' (first | assumption | apply anda | apply notf)); done)) | (exact hd) | (exact ch) | (intro t ht; by_cases h' : t < q.1 <;> simp [h', snI, cvtL, cvt, tg, tru, All]))
    refine piece_ok mixed hc (nIz p) ?_ (lo p.1.1.toNat 0 (by omega))
    simp only [All]
    repeat' (first | exact trivial | with_reducible apply And.intro)
    all_goals (first | omega | rfl | (intros; first | assumption | exact True.intro | rfl | exact absurd (show false = true by assumption) Bool.false_ne_true | ((repeat' (first | assumption | apply anda | apply notf)); done)) | (exact c1) | (intro t ht; exact absurd ht (Nat.not_lt_zero _)) | (intro t ht; simp [All]))

noncomputable def frG (p : T_Pinned) : Int := if pinnedF p = true then 2 * ((inrP p).1 : Int) - prG p else -1
theorem prG_in (p : T_Pinned) : -24 ≤ prG p ∧ prG p ≤ 24 := by
  unfold prG
  split
  · rename_i h
    have ok := pin_ok h
    have h1 := accI_le p.1.1.toNat 2 3 (alS p).2 (alS p).1
    have h2 := accI_le p.1.1.toNat 2 3 (hlS p).2 (hlS p).1
    have := alS_n p; have := ok.nS
    unfold rkN; omega
  · omega

theorem con_PinnedFreedom_i (p : T_Pinned) (hs : smS s_Pinned p) : Con Try.prog 54 0 [] [pinA p] [] (.p (.int .i64 (frG p))) := by
  have c1 := con_IsPinned_i p hs
  have c2 := con_InnerPoints_i p hs
  have c3 := con_PinnedRank_i p hs
  have hn := inrP_n p
  have hr := prG_in p
  refine con_start Try.func54 rfl (by kernel_rfl) rfl (fun c hc => ?_)
  cases hp : pinnedF p with
  | false =>
    rw [hp] at c1
    rw [show frG p = -1 by simp [frG, hp]]
    refine path_ok mixed Try.func54 hc (fFn p) ?_
    simp only [All]
    repeat' (first | exact trivial | with_reducible apply And.intro)
    all_goals (first | omega | rfl | (intros; first | assumption | exact True.intro | rfl | exact absurd (show false = true by assumption) Bool.false_ne_true | ((repeat' (first | assumption | apply anda | apply notf)); done)) | (exact c1) | (simp; done))
  | true =>
    rw [hp] at c1
    rw [show frG p = 2 * ((inrP p).1 : Int) - prG p by simp [frG, hp]]
    refine path_ok mixed Try.func54 hc (fFy p (inrP p).1 (inrP p).2 (prG p)) ?_
    simp only [All]
    repeat' (first | exact trivial | with_reducible apply And.intro)
    all_goals (first | omega | rfl | (intros; first | assumption | exact True.intro | rfl | exact absurd (show false = true by assumption) Bool.false_ne_true | ((repeat' (first | assumption | apply anda | apply notf)); done)) | (exact c1) | (exact c2) | (exact c3))

theorem con_PinnedFreedom_s (p : T_Pinned) (hs : smS s_Pinned p) : Con Try.prog 48 0 [] [pinA p] [] (.p (.int .i64 (frG p))) := by
  have c1 := con_IsPinned_s p hs
  have c2 := con_InnerPoints_s p hs
  have c3 := con_PinnedRank_s p hs
  have hn := inrP_n p
  have hr := prG_in p
  refine con_start Try.func48 rfl (by kernel_rfl) rfl (fun c hc => ?_)
  cases hp : pinnedF p with
  | false =>
    rw [hp] at c1
    rw [show frG p = -1 by simp [frG, hp]]
    refine path_ok mixed Try.func48 hc (fGn p) ?_
    simp only [All]
    repeat' (first | exact trivial | with_reducible apply And.intro)
    all_goals (first | omega | rfl | (intros; first | assumption | exact True.intro | rfl | exact absurd (show false = true by assumption) Bool.false_ne_true | ((repeat' (first | assumption | apply anda | apply notf)); done)) | (exact c1) | (simp; done))
  | true =>
    rw [hp] at c1
    rw [show frG p = 2 * ((inrP p).1 : Int) - prG p by simp [frG, hp]]
    refine path_ok mixed Try.func48 hc (fGy p (inrP p).1 (inrP p).2 (prG p)) ?_
    simp only [All]
    repeat' (first | exact trivial | with_reducible apply And.intro)
    all_goals (first | omega | rfl | (intros; first | assumption | exact True.intro | rfl | exact absurd (show false = true by assumption) Bool.false_ne_true | ((repeat' (first | assumption | apply anda | apply notf)); done)) | (exact c1) | (exact c2) | (exact c3))

noncomputable def rgB (p : T_Pinned) : Bool := frG p == 0
theorem con_IsPinnedRigid_i (p : T_Pinned) (hs : smS s_Pinned p) : Con Try.prog 68 0 [] [pinA p] [] (.p (.bool (rgB p))) := by
  have c1 := con_PinnedFreedom_i p hs
  refine con_start Try.func68 rfl (by kernel_rfl) rfl (fun c hc => ?_)
  refine path_ok mixed Try.func68 hc (fRi p (frG p)) ?_
  simp only [All]
  repeat' (first | exact trivial | with_reducible apply And.intro)
  all_goals (first | omega | rfl | (intros; first | assumption | exact True.intro | rfl | exact absurd (show false = true by assumption) Bool.false_ne_true | ((repeat' (first | assumption | apply anda | apply notf)); done)) | (exact c1))
theorem con_IsPinnedRigid_s (p : T_Pinned) (hs : smS s_Pinned p) : Con Try.prog 67 0 [] [pinA p] [] (.p (.bool (rgB p))) := by
  have c1 := con_PinnedFreedom_s p hs
  refine con_start Try.func67 rfl (by kernel_rfl) rfl (fun c hc => ?_)
  refine path_ok mixed Try.func67 hc (fRs p (frG p)) ?_
  simp only [All]
  repeat' (first | exact trivial | with_reducible apply And.intro)
  all_goals (first | omega | rfl | (intros; first | assumption | exact True.intro | rfl | exact absurd (show false = true by assumption) Bool.false_ne_true | ((repeat' (first | assumption | apply anda | apply notf)); done)) | (exact c1))

noncomputable def irB (p : T_Pinned) (l : T_BarS) : Bool := bif arB p l then rgB (arP p l) else false
theorem sm_arP (p : T_Pinned) (l : T_BarS) : smS s_Pinned (arP p l) := sm_pin (by have := arP_le p l; omega) (by have := arP_le p l; omega)
theorem con_IsRepair_i (p : T_Pinned) (hs : smS s_Pinned p) (l : T_BarS) (hl : l.1 ≤ 1048576) : Con Try.prog 25 0 [] [pinA p, graphL l] [] (.p (.bool (irB p l))) := by
  have c1 := con_ApplyRepair_i p hs l hl
  have c2 := con_IsPinnedRigid_i (arP p l) (sm_arP p l)
  refine con_start Try.func25 rfl (by kernel_rfl) rfl (fun c hc => ?_)
  refine path_ok mixed Try.func25 hc (fIi p l (arP p l) (arB p l) (rgB (arP p l))) ?_
  simp only [All]
  repeat' (first | exact trivial | with_reducible apply And.intro)
  all_goals (first | omega | rfl | (intros; first | assumption | exact True.intro | rfl | exact absurd (show false = true by assumption) Bool.false_ne_true | ((repeat' (first | assumption | apply anda | apply notf)); done)) | (exact c1) | (intro _; exact c2))
theorem con_IsRepair_s (p : T_Pinned) (hs : smS s_Pinned p) (l : T_BarS) (hl : l.1 ≤ 1048576) : Con Try.prog 24 0 [] [pinA p, graphL l] [] (.p (.bool (irB p l))) := by
  have c1 := con_ApplyRepair_s p hs l hl
  have c2 := con_IsPinnedRigid_s (arP p l) (sm_arP p l)
  refine con_start Try.func24 rfl (by kernel_rfl) rfl (fun c hc => ?_)
  refine path_ok mixed Try.func24 hc (fIs p l (arP p l) (arB p l) (rgB (arP p l))) ?_
  simp only [All]
  repeat' (first | exact trivial | with_reducible apply And.intro)
  all_goals (first | omega | rfl | (intros; first | assumption | exact True.intro | rfl | exact absurd (show false = true by assumption) Bool.false_ne_true | ((repeat' (first | assumption | apply anda | apply notf)); done)) | (exact c1) | (intro _; exact c2))

end Go.Proofs.Ytgdbnnmogddkaaa.Mach
