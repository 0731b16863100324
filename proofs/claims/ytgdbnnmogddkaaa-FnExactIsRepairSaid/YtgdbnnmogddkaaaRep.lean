/- Bars put into a pinned structure: both programs give the same structure. Conditions: as each theorem says. -/
import Derived.Test.YtgdbnnmogddkaaaAddB
import Derived.Test.YtgdbnnmogddkaaaPinned3
namespace Go.Proofs.Ytgdbnnmogddkaaa.Mach
open Go Go.Sort
set_option linter.unusedVariables false
set_option linter.unusedSimpArgs false

def zP3 : Ob := ⟨true, 3, 1, fun _ => [.p (.int .i64 0), .p .nil, .p .nil]⟩
def pgO (N : Int) (n m : Nat) : Ob := ⟨true, 3, 1, fun _ => [.p (.int .i64 N), .ar 2 3 0 n, .ar 1 4 0 m]⟩
def SQi (p : T_Pinned) (l : T_BarS) (k : Nat) (N : Int) (n : Nat) (h : Nat → T_Bar) : St :=
  ⟨[pinA p, graphL l, .pt 3 0 0 0, .p .any, .pt 3 1 0 0, .p (.bool false), .pt 3 2 0 0] ++ List.replicate 10 anyA ++ [graphL l, .p (.int .i64 l.1), .p (.int .i64 k)] ++ List.replicate 24 anyA,
   [(0, boxP p), (1, zP3), (2, pgO N n p.2.1.1), (3, brOb n h), (4, iOb p.2.1.1 p.2.1.2)], 5⟩
def SQs (p : T_Pinned) (l : T_BarS) (k : Nat) (N : Int) (n : Nat) (h : Nat → T_Bar) : St :=
  ⟨[pinA p, graphL l, .pt 3 0 0 0, .p .any, .pt 3 1 0 0, .p (.bool false), .pt 3 2 0 0, .p (.int .i64 k)] ++ List.replicate 47 anyA,
   [(0, boxP p), (1, zP3), (2, pgO N n p.2.1.1), (3, brOb n h), (4, iOb p.2.1.1 p.2.1.2)], 5⟩

theorem rCp (p : T_Pinned) :
    pathOb Try.prog Try.f62 0 [.reg [oT, oT], .reg [oT, oT, ⟨true, (some ⟨[], [], 1, [(0, brOb p.1.2.1.1 p.1.2.1.2)], .agg [.p (.int .i64 p.1.1), .ar 2 0 0 p.1.2.1.1]⟩), none⟩, oT, oT, ⟨true, (some ⟨[], [], 1, [(0, iOb p.2.1.1 p.2.1.2)], .ar 1 0 0 p.2.1.1⟩), none⟩, oT, oT]] [.code (bodyOf Try.f62)] (start Try.f62 [] 0 [pinA p]) [128, 224] 1 [(0, brOb p.1.2.1.1 p.1.2.1.2), (1, iOb p.2.1.1 p.2.1.2)] (.agg [.p (.int .i64 p.1.1), .ar 2 0 0 p.1.2.1.1, .ar 1 1 0 p.2.1.1]) =
    some [((0 : Nat) < 1),
  Con (Try.prog) 78 0 [] [.agg [.p (.int .i64 (p.fst.fst)), .p (.seq true 2 (p.fst.snd.fst.fst) (fun i => [.int .i64 ((p.fst.snd.fst.snd i).fst), .int .i64 ((p.fst.snd.fst.snd i).snd.fst)]))]] [(0, ⟨false, 2, (p.fst.snd.fst.fst), (fun i => [.p (.int .i64 ((p.fst.snd.fst.snd i).fst)), .p (.int .i64 ((p.fst.snd.fst.snd i).snd.fst))])⟩)] (.agg [.p (.int .i64 (p.fst.fst)), .ar 2 0 0 (p.fst.snd.fst.fst)]),
  ((0 : Nat) < 1),
  Con (Try.prog) 84 0 [] [.p (.seq true 1 (p.snd.fst.fst) (fun i => [.int .i64 (p.snd.fst.snd i)]))] [(0, ⟨false, 1, (p.snd.fst.fst), (fun i => [.p (.int .i64 (p.snd.fst.snd i))])⟩)] (.ar 1 0 0 (p.snd.fst.fst)),
  ((0 : Nat) < 1),
  (((true) = true) → ((1 : Nat) = 1)),
  ((0 : Nat) < 1),
  (((p.fst.fst) : Int) = (p.fst.fst)),
  ((0 : Nat) = 0),
  (((p.fst.snd.fst.fst) : Nat) = (p.fst.snd.fst.fst)),
  ((0 : Nat) = 0),
  (((p.snd.fst.fst) : Nat) = (p.snd.fst.fst)),
  ((2 : Nat) = 2),
  (((p.fst.snd.fst.fst) : Nat) ≤ (p.fst.snd.fst.fst)),
  (∀ i : Nat, ((((i) : Nat) < (p.fst.snd.fst.fst)) → (All [] ∧ (([.p (.int .i64 ((p.fst.snd.fst.snd i).fst)), .p (.int .i64 ((p.fst.snd.fst.snd i).snd.fst))] : List AV) = [.p (.int .i64 ((p.fst.snd.fst.snd i).fst)), .p (.int .i64 ((p.fst.snd.fst.snd i).snd.fst))])))),
  ((1 : Nat) = 1),
  (((p.snd.fst.fst) : Nat) ≤ (p.snd.fst.fst)),
  (∀ i : Nat, ((((i) : Nat) < (p.snd.fst.fst)) → (All [] ∧ (([.p (.int .i64 (p.snd.fst.snd i))] : List AV) = [.p (.int .i64 (p.snd.fst.snd i))])))),
  (∀ i : Nat, ((((i) : Nat) < (p.fst.snd.fst.fst)) → All [])),
  (∀ i : Nat, ((((i) : Nat) < (p.snd.fst.fst)) → All []))] := by kernel_rfl
theorem rQy (p : T_Pinned) (l : T_BarS) :
    pathOb Try.prog Try.f19 0 [.reg [oT, oT, oT], .reg [oT, ⟨true, (some ⟨[], [], 1, [], .p (.bool false)⟩), none⟩, oT], .dec true, .reg [oT, oT, oT]] [.code (bodyOf Try.f19)] (start Try.f19 [] 0 [pinA p, graphL l]) [] 1 [(0, brOb 0 (fun _ => (0, 0, ()))), (1, iOb 0 (fun _ => 0))] (.tup [.agg [.p (.int .i64 0), .ar 2 0 0 0, .ar 1 1 0 0], .p (.bool false)]) =
    some [((0 : Nat) < 1),
  Con (Try.prog) 52 0 [] [.agg [.p (.int .i64 (p.fst.fst)), .p (.seq true 2 (p.fst.snd.fst.fst) (fun i => [.int .i64 ((p.fst.snd.fst.snd i).fst), .int .i64 ((p.fst.snd.fst.snd i).snd.fst)])), .p (.seq true 1 (p.snd.fst.fst) (fun i => [.int .i64 (p.snd.fst.snd i)]))]] [] (.p (.bool false)),
  ((!false) = true),
  ((0 : Nat) < 1),
  (((true) = true) → ((1 : Nat) = 1)),
  ((0 : Nat) < 1),
  ((0 : Int) = 0),
  ((0 : Nat) = 0),
  ((0 : Nat) = 0),
  (false = false),
  ((0 : Nat) = 0),
  ((0 : Nat) = 0),
  (∀ i : Nat, ((((i) : Nat) < 0) → All [])),
  (∀ i : Nat, ((((i) : Nat) < 0) → All []))] := by kernel_rfl
theorem rQz (p : T_Pinned) (l : T_BarS) :
    pieceOb Try.prog 0 [.reg [oT, oT, oT], .reg [oT, ⟨true, (some ⟨[], [], 1, [], .p (.bool true)⟩), none⟩, oT], .dec false, .reg [oT, ⟨true, (some ⟨[], [], 1, [(0, brOb p.1.2.1.1 p.1.2.1.2), (1, iOb p.2.1.1 p.2.1.2)], .agg [.p (.int .i64 p.1.1), .ar 2 0 0 p.1.2.1.1, .ar 1 1 0 p.2.1.1]⟩), none⟩, oT, oT], .reg [oT, oT, oT], .head] [.code (bodyOf Try.f19)] (start Try.f19 [] 0 [pinA p, graphL l]) [0, 32, 256, 224, 225] 1 (SQi p l 0 p.1.1 p.1.2.1.1 p.1.2.1.2) =
    some ([.code (cAt (bodyOf Try.f19) [1, 1, 1, 0, 1, 0, 0]), .inLoop (cAt (bodyOf Try.f19) [1, 1, 1, 0, 1, 0, 0]), .inBlock 0, .code (cAt (bodyOf Try.f19) [1, 1, 1, 1])], [((0 : Nat) < 1),
  Con (Try.prog) 52 0 [] [.agg [.p (.int .i64 (p.fst.fst)), .p (.seq true 2 (p.fst.snd.fst.fst) (fun i => [.int .i64 ((p.fst.snd.fst.snd i).fst), .int .i64 ((p.fst.snd.fst.snd i).snd.fst)])), .p (.seq true 1 (p.snd.fst.fst) (fun i => [.int .i64 (p.snd.fst.snd i)]))]] [] (.p (.bool true)),
  ((!true) = false),
  ((0 : Nat) < 1),
  Con (Try.prog) 62 0 [] [.agg [.p (.int .i64 (p.fst.fst)), .p (.seq true 2 (p.fst.snd.fst.fst) (fun i => [.int .i64 ((p.fst.snd.fst.snd i).fst), .int .i64 ((p.fst.snd.fst.snd i).snd.fst)])), .p (.seq true 1 (p.snd.fst.fst) (fun i => [.int .i64 (p.snd.fst.snd i)]))]] [(0, ⟨false, 2, (p.fst.snd.fst.fst), (fun i => [.p (.int .i64 ((p.fst.snd.fst.snd i).fst)), .p (.int .i64 ((p.fst.snd.fst.snd i).snd.fst))])⟩), (1, ⟨false, 1, (p.snd.fst.fst), (fun i => [.p (.int .i64 (p.snd.fst.snd i))])⟩)] (.agg [.p (.int .i64 (p.fst.fst)), .ar 2 0 0 (p.fst.snd.fst.fst), .ar 1 1 0 (p.snd.fst.fst)]),
  ((0 : Nat) < 1),
  (((true) = true) → ((1 : Nat) = 1)),
  (((p.fst.fst) : Int) = (p.fst.fst)),
  (((p.fst.snd.fst.fst) : Nat) = (p.fst.snd.fst.fst)),
  (∀ i : Nat, ((((i) : Nat) < (p.fst.snd.fst.fst)) → (([.int .i64 ((p.fst.snd.fst.snd i).fst), .int .i64 ((p.fst.snd.fst.snd i).snd.fst)] : List PV) = [.int .i64 ((p.fst.snd.fst.snd i).fst), .int .i64 ((p.fst.snd.fst.snd i).snd.fst)]))),
  (((p.snd.fst.fst) : Nat) = (p.snd.fst.fst)),
  (∀ i : Nat, ((((i) : Nat) < (p.snd.fst.fst)) → (([.int .i64 (p.snd.fst.snd i)] : List PV) = [.int .i64 (p.snd.fst.snd i)]))),
  (((l.fst) : Nat) = (l.fst)),
  (∀ i : Nat, ((((i) : Nat) < (l.fst)) → (([.int .i64 ((l.snd i).fst), .int .i64 ((l.snd i).snd.fst)] : List PV) = [.int .i64 ((l.snd i).fst), .int .i64 ((l.snd i).snd.fst)]))),
  ((0 : Nat) = 0),
  ((0 : Nat) = 0),
  (false = false),
  ((0 : Nat) = 0),
  (((l.fst) : Nat) = (l.fst)),
  (∀ i : Nat, ((((i) : Nat) < (l.fst)) → (([.int .i64 ((l.snd i).fst), .int .i64 ((l.snd i).snd.fst)] : List PV) = [.int .i64 ((l.snd i).fst), .int .i64 ((l.snd i).snd.fst)]))),
  ((((↑l.fst : Int)) : Int) = ((↑l.fst : Int))),
  ((0 : Int) = ((↑0 : Int))),
  ((([AV.p (PV.int IntKind.i64 p.fst.fst), graphL p.fst.snd.fst, inL p.snd.fst].length) : Nat) = 3),
  ((1 : Nat) ≤ 1),
  ((1 : Nat) ≤ 1),
  (((p.fst.fst) : Int) = (p.fst.fst)),
  (((p.fst.snd.fst.fst) : Nat) = (p.fst.snd.fst.fst)),
  (∀ i : Nat, ((((i) : Nat) < (p.fst.snd.fst.fst)) → (([.int .i64 ((p.fst.snd.fst.snd i).fst), .int .i64 ((p.fst.snd.fst.snd i).snd.fst)] : List PV) = [.int .i64 ((p.fst.snd.fst.snd i).fst), .int .i64 ((p.fst.snd.fst.snd i).snd.fst)]))),
  (((p.snd.fst.fst) : Nat) = (p.snd.fst.fst)),
  (∀ i : Nat, ((((i) : Nat) < (p.snd.fst.fst)) → (([.int .i64 (p.snd.fst.snd i)] : List PV) = [.int .i64 (p.snd.fst.snd i)]))),
  ((((List.map (fun v => AV.p (absV v)) [Value.int IntKind.i64 0, Value.slice none 0 0, Value.slice none 0 0]).length) : Nat) = 3),
  ((1 : Nat) ≤ 1),
  ((1 : Nat) ≤ 1),
  ((0 : Int) = 0),
  ((((List.map (fun v => AV.p (absV v)) [Value.int IntKind.i64 0, Value.slice none 0 0, Value.slice none 0 0]).length) : Nat) = 3),
  ((1 : Nat) ≤ 1),
  ((1 : Nat) ≤ 1),
  (((p.fst.fst) : Int) = (p.fst.fst)),
  ((0 : Nat) = 0),
  (((p.fst.snd.fst.fst) : Nat) = (p.fst.snd.fst.fst)),
  ((0 : Nat) = 0),
  (((p.snd.fst.fst) : Nat) = (p.snd.fst.fst)),
  ((2 : Nat) = 2),
  (((p.fst.snd.fst.fst) : Nat) ≤ (p.fst.snd.fst.fst)),
  (∀ i : Nat, ((((i) : Nat) < (p.fst.snd.fst.fst)) → (All [] ∧ (([.p (.int .i64 ((p.fst.snd.fst.snd i).fst)), .p (.int .i64 ((p.fst.snd.fst.snd i).snd.fst))] : List AV) = [.p (.int .i64 ((p.fst.snd.fst.snd i).fst)), .p (.int .i64 ((p.fst.snd.fst.snd i).snd.fst))])))),
  ((1 : Nat) = 1),
  (((p.snd.fst.fst) : Nat) ≤ (p.snd.fst.fst)),
  (∀ i : Nat, ((((i) : Nat) < (p.snd.fst.fst)) → (All [] ∧ (([.p (.int .i64 (p.snd.fst.snd i))] : List AV) = [.p (.int .i64 (p.snd.fst.snd i))]))))]) := by kernel_rfl
theorem rQa (p : T_Pinned) (l : T_BarS) (k : Nat) (N N2 : Int) (n n2 : Nat) (h h2 : Nat → T_Bar) :
    pieceOb Try.prog 0 [.reg [oT], .dec true, .reg [oT, oT, oT, oT], .reg [oT, oT, oT, oT, oT, oT, ⟨true, (some ⟨[], [], 1, [(0, brOb n2 h2)], .tup [.agg [.p (.int .i64 N2), .ar 2 0 0 n2], .p (.bool true)]⟩), none⟩, oT, oT, oT, oT, oT, oT], .reg [oT, oT], .dec false, .reg [oT, oT, oT], .reg [oT, oT], .head] [.code (cAt (bodyOf Try.f19) [1, 1, 1, 0, 1, 0, 0]), .inLoop (cAt (bodyOf Try.f19) [1, 1, 1, 0, 1, 0, 0]), .inBlock 0, .code (cAt (bodyOf Try.f19) [1, 1, 1, 1])] (SQi p l k N n h) [0, 1, 2, 357, 4] 1 (SQi p l (k + 1) N2 n2 h2) =
    some ([.code (cAt (bodyOf Try.f19) [1, 1, 1, 0, 1, 0, 0]), .inLoop (cAt (bodyOf Try.f19) [1, 1, 1, 0, 1, 0, 0]), .inBlock 0, .code (cAt (bodyOf Try.f19) [1, 1, 1, 1])], [((decide ((↑k : Int) < (↑l.fst : Int))) = true),
  ((0 : Int) ≤ ((↑k : Int))),
  ((((↑k : Int)) : Int) < ((↑l.fst : Int))),
  ((0 : Nat) < 1),
  (((true) = true) → ((1 : Nat) = 1)),
  ((0 : Nat) < 1),
  ((0 : Nat) < 1),
  ((0 : Nat) < 1),
  ((2 : Nat) = 2),
  (((n) : Nat) ≤ (n)),
  Con (Try.prog) 63 0 [] [.agg [.p (.int .i64 (N)), .p (.seq true 2 (n) (fun i => [.int .i64 ((h i).fst), .int .i64 ((h i).snd.fst)]))], .p (.int .i64 ((l.snd k).fst)), .p (.int .i64 ((l.snd k).snd.fst))] [(0, ⟨false, 2, (n2), (fun i => [.p (.int .i64 ((h2 i).fst)), .p (.int .i64 ((h2 i).snd.fst))])⟩)] (.tup [.agg [.p (.int .i64 (N2)), .ar 2 0 0 (n2)], .p (.bool true)]),
  ((0 : Nat) < 1),
  (((true) = true) → ((1 : Nat) = 1)),
  ((!true) = false),
  ((0 : Nat) < 1),
  ((0 : Nat) < 1),
  (((true) = true) → ((1 : Nat) = 1)),
  (((-9223372036854775808) : Int) ≤ ((↑k : Int) + 1)),
  ((((↑k : Int) + 1) : Int) ≤ 9223372036854775807),
  (((p.fst.fst) : Int) = (p.fst.fst)),
  (((p.fst.snd.fst.fst) : Nat) = (p.fst.snd.fst.fst)),
  (∀ i : Nat, ((((i) : Nat) < (p.fst.snd.fst.fst)) → (([.int .i64 ((p.fst.snd.fst.snd i).fst), .int .i64 ((p.fst.snd.fst.snd i).snd.fst)] : List PV) = [.int .i64 ((p.fst.snd.fst.snd i).fst), .int .i64 ((p.fst.snd.fst.snd i).snd.fst)]))),
  (((p.snd.fst.fst) : Nat) = (p.snd.fst.fst)),
  (∀ i : Nat, ((((i) : Nat) < (p.snd.fst.fst)) → (([.int .i64 (p.snd.fst.snd i)] : List PV) = [.int .i64 (p.snd.fst.snd i)]))),
  (((l.fst) : Nat) = (l.fst)),
  (∀ i : Nat, ((((i) : Nat) < (l.fst)) → (([.int .i64 ((l.snd i).fst), .int .i64 ((l.snd i).snd.fst)] : List PV) = [.int .i64 ((l.snd i).fst), .int .i64 ((l.snd i).snd.fst)]))),
  ((0 : Nat) = 0),
  ((0 : Nat) = 0),
  (false = false),
  ((0 : Nat) = 0),
  (((l.fst) : Nat) = (l.fst)),
  (∀ i : Nat, ((((i) : Nat) < (l.fst)) → (([.int .i64 ((l.snd i).fst), .int .i64 ((l.snd i).snd.fst)] : List PV) = [.int .i64 ((l.snd i).fst), .int .i64 ((l.snd i).snd.fst)]))),
  ((((↑l.fst : Int)) : Int) = ((↑l.fst : Int))),
  ((((↑k : Int) + 1) : Int) = ((↑(k + 1) : Int))),
  ((3 : Nat) = 3),
  ((1 : Nat) ≤ 1),
  ((1 : Nat) ≤ 1),
  (((p.fst.fst) : Int) = (p.fst.fst)),
  (((p.fst.snd.fst.fst) : Nat) = (p.fst.snd.fst.fst)),
  (∀ i : Nat, ((((i) : Nat) < (p.fst.snd.fst.fst)) → (([.int .i64 ((p.fst.snd.fst.snd i).fst), .int .i64 ((p.fst.snd.fst.snd i).snd.fst)] : List PV) = [.int .i64 ((p.fst.snd.fst.snd i).fst), .int .i64 ((p.fst.snd.fst.snd i).snd.fst)]))),
  (((p.snd.fst.fst) : Nat) = (p.snd.fst.fst)),
  (∀ i : Nat, ((((i) : Nat) < (p.snd.fst.fst)) → (([.int .i64 (p.snd.fst.snd i)] : List PV) = [.int .i64 (p.snd.fst.snd i)]))),
  ((3 : Nat) = 3),
  ((1 : Nat) ≤ 1),
  ((1 : Nat) ≤ 1),
  ((0 : Int) = 0),
  ((3 : Nat) = 3),
  ((1 : Nat) ≤ 1),
  ((1 : Nat) ≤ 1),
  (((N2) : Int) = (N2)),
  ((0 : Nat) = 0),
  (((n2) : Nat) = (n2)),
  ((0 : Nat) = 0),
  (((p.snd.fst.fst) : Nat) = (p.snd.fst.fst)),
  ((2 : Nat) = 2),
  (((n2) : Nat) ≤ (n2)),
  (∀ i : Nat, ((((i) : Nat) < (n2)) → (All [] ∧ (([.p (.int .i64 ((h2 i).fst)), .p (.int .i64 ((h2 i).snd.fst))] : List AV) = [.p (.int .i64 ((h2 i).fst)), .p (.int .i64 ((h2 i).snd.fst))])))),
  ((1 : Nat) = 1),
  (((p.snd.fst.fst) : Nat) ≤ (p.snd.fst.fst)),
  (∀ i : Nat, ((((i) : Nat) < (p.snd.fst.fst)) → (All [] ∧ (([.p (.int .i64 (p.snd.fst.snd i))] : List AV) = [.p (.int .i64 (p.snd.fst.snd i))]))))]) := by kernel_rfl
theorem rQb (p : T_Pinned) (l : T_BarS) (k : Nat) (N N2 : Int) (n n2 : Nat) (h h2 : Nat → T_Bar) :
    pathOb Try.prog Try.f19 0 [.reg [oT], .dec true, .reg [oT, oT, oT, oT], .reg [oT, oT, oT, oT, oT, oT, ⟨true, (some ⟨[], [], 1, [(0, brOb n2 h2)], .tup [.agg [.p (.int .i64 N2), .ar 2 0 0 n2], .p (.bool false)]⟩), none⟩, oT, oT, oT, oT, oT, oT], .reg [oT, oT], .dec true, .reg [oT, oT, oT]] [.code (cAt (bodyOf Try.f19) [1, 1, 1, 0, 1, 0, 0]), .inLoop (cAt (bodyOf Try.f19) [1, 1, 1, 0, 1, 0, 0]), .inBlock 0, .code (cAt (bodyOf Try.f19) [1, 1, 1, 1])] (SQi p l k N n h) [] 1 [(0, brOb 0 (fun _ => (0, 0, ()))), (1, iOb 0 (fun _ => 0))] (.tup [.agg [.p (.int .i64 0), .ar 2 0 0 0, .ar 1 1 0 0], .p (.bool false)]) =
    some [((decide ((↑k : Int) < (↑l.fst : Int))) = true),
  ((0 : Int) ≤ ((↑k : Int))),
  ((((↑k : Int)) : Int) < ((↑l.fst : Int))),
  ((0 : Nat) < 1),
  (((true) = true) → ((1 : Nat) = 1)),
  ((0 : Nat) < 1),
  ((0 : Nat) < 1),
  ((0 : Nat) < 1),
  ((2 : Nat) = 2),
  (((n) : Nat) ≤ (n)),
  Con (Try.prog) 63 0 [] [.agg [.p (.int .i64 (N)), .p (.seq true 2 (n) (fun i => [.int .i64 ((h i).fst), .int .i64 ((h i).snd.fst)]))], .p (.int .i64 ((l.snd k).fst)), .p (.int .i64 ((l.snd k).snd.fst))] [(0, ⟨false, 2, (n2), (fun i => [.p (.int .i64 ((h2 i).fst)), .p (.int .i64 ((h2 i).snd.fst))])⟩)] (.tup [.agg [.p (.int .i64 (N2)), .ar 2 0 0 (n2)], .p (.bool false)]),
  ((0 : Nat) < 1),
  (((true) = true) → ((1 : Nat) = 1)),
  ((!false) = true),
  ((0 : Nat) < 1),
  (((true) = true) → ((1 : Nat) = 1)),
  ((0 : Nat) < 1),
  ((0 : Int) = 0),
  ((0 : Nat) = 0),
  ((0 : Nat) = 0),
  (false = false),
  ((0 : Nat) = 0),
  ((0 : Nat) = 0),
  (∀ i : Nat, ((((i) : Nat) < 0) → All [])),
  (∀ i : Nat, ((((i) : Nat) < 0) → All []))] := by kernel_rfl
theorem rQc (p : T_Pinned) (l : T_BarS) (k : Nat) (N : Int) (n : Nat) (h : Nat → T_Bar) :
    pathOb Try.prog Try.f19 0 [.reg [oT], .dec false, .reg [oT, ⟨true, (some ⟨[], [], 1, [], .p (.bool false)⟩), none⟩, oT], .dec true, .reg [oT, oT, oT]] [.code (cAt (bodyOf Try.f19) [1, 1, 1, 0, 1, 0, 0]), .inLoop (cAt (bodyOf Try.f19) [1, 1, 1, 0, 1, 0, 0]), .inBlock 0, .code (cAt (bodyOf Try.f19) [1, 1, 1, 1])] (SQi p l k N n h) [] 1 [(0, brOb 0 (fun _ => (0, 0, ()))), (1, iOb 0 (fun _ => 0))] (.tup [.agg [.p (.int .i64 0), .ar 2 0 0 0, .ar 1 1 0 0], .p (.bool false)]) =
    some [((decide ((↑k : Int) < (↑l.fst : Int))) = false),
  ((0 : Nat) < 1),
  ((2 : Nat) = 2),
  (((n) : Nat) ≤ (n)),
  ((1 : Nat) = 1),
  (((p.snd.fst.fst) : Nat) ≤ (p.snd.fst.fst)),
  Con (Try.prog) 52 0 [] [.agg [.p (.int .i64 (N)), .p (.seq true 2 (n) (fun i => [.int .i64 ((h i).fst), .int .i64 ((h i).snd.fst)])), .p (.seq true 1 (p.snd.fst.fst) (fun i => [.int .i64 (p.snd.fst.snd i)]))]] [] (.p (.bool false)),
  ((!false) = true),
  ((0 : Nat) < 1),
  (((true) = true) → ((1 : Nat) = 1)),
  ((0 : Nat) < 1),
  ((0 : Int) = 0),
  ((0 : Nat) = 0),
  ((0 : Nat) = 0),
  (false = false),
  ((0 : Nat) = 0),
  ((0 : Nat) = 0),
  (∀ i : Nat, ((((i) : Nat) < 0) → All [])),
  (∀ i : Nat, ((((i) : Nat) < 0) → All []))] := by kernel_rfl
theorem rQd (p : T_Pinned) (l : T_BarS) (k : Nat) (N : Int) (n : Nat) (h : Nat → T_Bar) :
    pathOb Try.prog Try.f19 0 [.reg [oT], .dec false, .reg [oT, ⟨true, (some ⟨[], [], 1, [], .p (.bool true)⟩), none⟩, oT], .dec false, .reg [oT, oT, oT]] [.code (cAt (bodyOf Try.f19) [1, 1, 1, 0, 1, 0, 0]), .inLoop (cAt (bodyOf Try.f19) [1, 1, 1, 0, 1, 0, 0]), .inBlock 0, .code (cAt (bodyOf Try.f19) [1, 1, 1, 1])] (SQi p l k N n h) [3, 4] 1 [(0, brOb n h), (1, iOb p.2.1.1 p.2.1.2)] (.tup [.agg [.p (.int .i64 N), .ar 2 0 0 n, .ar 1 1 0 p.2.1.1], .p (.bool true)]) =
    some [((decide ((↑k : Int) < (↑l.fst : Int))) = false),
  ((0 : Nat) < 1),
  ((2 : Nat) = 2),
  (((n) : Nat) ≤ (n)),
  ((1 : Nat) = 1),
  (((p.snd.fst.fst) : Nat) ≤ (p.snd.fst.fst)),
  Con (Try.prog) 52 0 [] [.agg [.p (.int .i64 (N)), .p (.seq true 2 (n) (fun i => [.int .i64 ((h i).fst), .int .i64 ((h i).snd.fst)])), .p (.seq true 1 (p.snd.fst.fst) (fun i => [.int .i64 (p.snd.fst.snd i)]))]] [] (.p (.bool true)),
  ((!true) = false),
  ((0 : Nat) < 1),
  ((0 : Nat) < 1),
  (((true) = true) → ((1 : Nat) = 1)),
  ((0 : Nat) < 1),
  (((N) : Int) = (N)),
  ((0 : Nat) = 0),
  (((n) : Nat) = (n)),
  ((0 : Nat) = 0),
  (((p.snd.fst.fst) : Nat) = (p.snd.fst.fst)),
  (true = true),
  ((2 : Nat) = 2),
  (((n) : Nat) ≤ (n)),
  (∀ i : Nat, ((((i) : Nat) < (n)) → (All [] ∧ (([.p (.int .i64 ((h i).fst)), .p (.int .i64 ((h i).snd.fst))] : List AV) = [.p (.int .i64 ((h i).fst)), .p (.int .i64 ((h i).snd.fst))])))),
  ((1 : Nat) = 1),
  (((p.snd.fst.fst) : Nat) ≤ (p.snd.fst.fst)),
  (∀ i : Nat, ((((i) : Nat) < (p.snd.fst.fst)) → (All [] ∧ (([.p (.int .i64 (p.snd.fst.snd i))] : List AV) = [.p (.int .i64 (p.snd.fst.snd i))])))),
  (∀ i : Nat, ((((i) : Nat) < (n)) → All [])),
  (∀ i : Nat, ((((i) : Nat) < (p.snd.fst.fst)) → All []))] := by kernel_rfl
theorem rWz (p : T_Pinned) (l : T_BarS) :
    pieceOb Try.prog 0 [.reg [oT, oT, oT], .reg [oT, oT, ⟨true, (some ⟨[], [], 1, [(0, brOb p.1.2.1.1 p.1.2.1.2)], .agg [.p (.int .i64 p.1.1), .ar 2 0 0 p.1.2.1.1]⟩), none⟩, oT, oT, oT, oT, oT, oT, oT], .reg [oT], .head] [.code (bodyOf Try.f17)] (start Try.f17 [] 0 [pinA p, graphL l]) [0, 32, 352, 160, 288] 1 (SQs p l 0 p.1.1 p.1.2.1.1 p.1.2.1.2) =
    some ([.code (cAt (bodyOf Try.f17) [1, 1, 0, 1, 0, 0]), .inLoop (cAt (bodyOf Try.f17) [1, 1, 0, 1, 0, 0]), .inBlock 0, .code (cAt (bodyOf Try.f17) [1, 1, 1])], [((0 : Nat) < 1),
  Con (Try.prog) 59 0 [] [.agg [.p (.int .i64 (p.fst.fst)), .p (.seq true 2 (p.fst.snd.fst.fst) (fun i => [.int .i64 ((p.fst.snd.fst.snd i).fst), .int .i64 ((p.fst.snd.fst.snd i).snd.fst)]))]] [(0, ⟨false, 2, (p.fst.snd.fst.fst), (fun i => [.p (.int .i64 ((p.fst.snd.fst.snd i).fst)), .p (.int .i64 ((p.fst.snd.fst.snd i).snd.fst))])⟩)] (.agg [.p (.int .i64 (p.fst.fst)), .ar 2 0 0 (p.fst.snd.fst.fst)]),
  ((0 : Nat) < 1),
  ((0 : Nat) ≤ 0),
  ((((0 + p.snd.fst.fst) * 8) : Nat) ≤ 140737488355328),
  (((0 + p.snd.fst.fst) : Nat) ≤ 9223372036854775807),
  ((0 : Nat) < 1),
  (((true) = true) → ((1 : Nat) = 1)),
  (((p.fst.fst) : Int) = (p.fst.fst)),
  (((p.fst.snd.fst.fst) : Nat) = (p.fst.snd.fst.fst)),
  (∀ i : Nat, ((((i) : Nat) < (p.fst.snd.fst.fst)) → (([.int .i64 ((p.fst.snd.fst.snd i).fst), .int .i64 ((p.fst.snd.fst.snd i).snd.fst)] : List PV) = [.int .i64 ((p.fst.snd.fst.snd i).fst), .int .i64 ((p.fst.snd.fst.snd i).snd.fst)]))),
  (((p.snd.fst.fst) : Nat) = (p.snd.fst.fst)),
  (∀ i : Nat, ((((i) : Nat) < (p.snd.fst.fst)) → (([.int .i64 (p.snd.fst.snd i)] : List PV) = [.int .i64 (p.snd.fst.snd i)]))),
  (((l.fst) : Nat) = (l.fst)),
  (∀ i : Nat, ((((i) : Nat) < (l.fst)) → (([.int .i64 ((l.snd i).fst), .int .i64 ((l.snd i).snd.fst)] : List PV) = [.int .i64 ((l.snd i).fst), .int .i64 ((l.snd i).snd.fst)]))),
  ((0 : Nat) = 0),
  ((0 : Nat) = 0),
  (false = false),
  ((0 : Nat) = 0),
  ((0 : Int) = ((↑0 : Int))),
  ((([AV.p (PV.int IntKind.i64 p.fst.fst), graphL p.fst.snd.fst, inL p.snd.fst].length) : Nat) = 3),
  ((1 : Nat) ≤ 1),
  ((1 : Nat) ≤ 1),
  (((p.fst.fst) : Int) = (p.fst.fst)),
  (((p.fst.snd.fst.fst) : Nat) = (p.fst.snd.fst.fst)),
  (∀ i : Nat, ((((i) : Nat) < (p.fst.snd.fst.fst)) → (([.int .i64 ((p.fst.snd.fst.snd i).fst), .int .i64 ((p.fst.snd.fst.snd i).snd.fst)] : List PV) = [.int .i64 ((p.fst.snd.fst.snd i).fst), .int .i64 ((p.fst.snd.fst.snd i).snd.fst)]))),
  (((p.snd.fst.fst) : Nat) = (p.snd.fst.fst)),
  (∀ i : Nat, ((((i) : Nat) < (p.snd.fst.fst)) → (([.int .i64 (p.snd.fst.snd i)] : List PV) = [.int .i64 (p.snd.fst.snd i)]))),
  ((((List.map (fun v => AV.p (absV v)) [Value.int IntKind.i64 0, Value.slice none 0 0, Value.slice none 0 0]).length) : Nat) = 3),
  ((1 : Nat) ≤ 1),
  ((1 : Nat) ≤ 1),
  ((0 : Int) = 0),
  ((((List.map (fun v => AV.p (absV v)) [Value.int IntKind.i64 0, Value.slice none 0 0, Value.slice none 0 0]).length) : Nat) = 3),
  ((1 : Nat) ≤ 1),
  ((1 : Nat) ≤ 1),
  (((p.fst.fst) : Int) = (p.fst.fst)),
  ((0 : Nat) = 0),
  (((p.fst.snd.fst.fst) : Nat) = (p.fst.snd.fst.fst)),
  ((0 : Nat) = 0),
  (((0 + p.snd.fst.fst) : Nat) = (p.snd.fst.fst)),
  ((2 : Nat) = 2),
  (((p.fst.snd.fst.fst) : Nat) ≤ (p.fst.snd.fst.fst)),
  (∀ i : Nat, ((((i) : Nat) < (p.fst.snd.fst.fst)) → (All [] ∧ (([.p (.int .i64 ((p.fst.snd.fst.snd i).fst)), .p (.int .i64 ((p.fst.snd.fst.snd i).snd.fst))] : List AV) = [.p (.int .i64 ((p.fst.snd.fst.snd i).fst)), .p (.int .i64 ((p.fst.snd.fst.snd i).snd.fst))])))),
  ((1 : Nat) = 1),
  (((p.snd.fst.fst) : Nat) ≤ (0 + p.snd.fst.fst)),
  (∀ i : Nat, ((((i) : Nat) < (p.snd.fst.fst)) → (All [] ∧ (([.p (.int .i64 (p.snd.fst.snd i))] : List AV) = [.p (.int .i64 (p.snd.fst.snd i))]))))]) := by kernel_rfl
theorem rWa (p : T_Pinned) (l : T_BarS) (k : Nat) (N N2 : Int) (n n2 : Nat) (h h2 : Nat → T_Bar) :
    pieceOb Try.prog 0 [.reg [oT, oT, oT, oT], .dec true, .reg [oT, oT, oT, oT, oT, oT, oT, oT, oT, oT, oT, oT, ⟨true, (some ⟨[], [], 1, [(0, brOb n2 h2)], .tup [.agg [.p (.int .i64 N2), .ar 2 0 0 n2], .p (.bool true)]⟩), none⟩, oT, oT, oT, oT, oT, oT], .reg [oT, oT], .dec false, .reg [oT, oT, oT], .reg [oT, oT, oT], .head] [.code (cAt (bodyOf Try.f17) [1, 1, 0, 1, 0, 0]), .inLoop (cAt (bodyOf Try.f17) [1, 1, 0, 1, 0, 0]), .inBlock 0, .code (cAt (bodyOf Try.f17) [1, 1, 1])] (SQs p l k N n h) [0, 1, 2, 517, 4] 1 (SQs p l (k + 1) N2 n2 h2) =
    some ([.code (cAt (bodyOf Try.f17) [1, 1, 0, 1, 0, 0]), .inLoop (cAt (bodyOf Try.f17) [1, 1, 0, 1, 0, 0]), .inBlock 0, .code (cAt (bodyOf Try.f17) [1, 1, 1])], [((decide ((↑k : Int) < (↑l.fst : Int))) = true),
  ((0 : Nat) < 1),
  ((0 : Int) ≤ ((↑k : Int))),
  ((((↑k : Int)) : Int) < ((↑l.fst : Int))),
  ((0 : Int) ≤ ((↑k : Int))),
  ((((↑k : Int)) : Int) < ((↑l.fst : Int))),
  ((2 : Nat) = 2),
  (((n) : Nat) ≤ (n)),
  Con (Try.prog) 60 0 [] [.agg [.p (.int .i64 (N)), .p (.seq true 2 (n) (fun i => [.int .i64 ((h i).fst), .int .i64 ((h i).snd.fst)]))], .p (.int .i64 ((l.snd k).fst)), .p (.int .i64 ((l.snd k).snd.fst))] [(0, ⟨false, 2, (n2), (fun i => [.p (.int .i64 ((h2 i).fst)), .p (.int .i64 ((h2 i).snd.fst))])⟩)] (.tup [.agg [.p (.int .i64 (N2)), .ar 2 0 0 (n2)], .p (.bool true)]),
  ((0 : Nat) < 1),
  (((true) = true) → ((1 : Nat) = 1)),
  ((!true) = false),
  ((0 : Nat) < 1),
  ((0 : Nat) < 1),
  (((true) = true) → ((1 : Nat) = 1)),
  (((-9223372036854775808) : Int) ≤ ((↑k : Int) + 1)),
  ((((↑k : Int) + 1) : Int) ≤ 9223372036854775807),
  (((p.fst.fst) : Int) = (p.fst.fst)),
  (((p.fst.snd.fst.fst) : Nat) = (p.fst.snd.fst.fst)),
  (∀ i : Nat, ((((i) : Nat) < (p.fst.snd.fst.fst)) → (([.int .i64 ((p.fst.snd.fst.snd i).fst), .int .i64 ((p.fst.snd.fst.snd i).snd.fst)] : List PV) = [.int .i64 ((p.fst.snd.fst.snd i).fst), .int .i64 ((p.fst.snd.fst.snd i).snd.fst)]))),
  (((p.snd.fst.fst) : Nat) = (p.snd.fst.fst)),
  (∀ i : Nat, ((((i) : Nat) < (p.snd.fst.fst)) → (([.int .i64 (p.snd.fst.snd i)] : List PV) = [.int .i64 (p.snd.fst.snd i)]))),
  (((l.fst) : Nat) = (l.fst)),
  (∀ i : Nat, ((((i) : Nat) < (l.fst)) → (([.int .i64 ((l.snd i).fst), .int .i64 ((l.snd i).snd.fst)] : List PV) = [.int .i64 ((l.snd i).fst), .int .i64 ((l.snd i).snd.fst)]))),
  ((0 : Nat) = 0),
  ((0 : Nat) = 0),
  (false = false),
  ((0 : Nat) = 0),
  ((((↑k : Int) + 1) : Int) = ((↑(k + 1) : Int))),
  ((3 : Nat) = 3),
  ((1 : Nat) ≤ 1),
  ((1 : Nat) ≤ 1),
  (((p.fst.fst) : Int) = (p.fst.fst)),
  (((p.fst.snd.fst.fst) : Nat) = (p.fst.snd.fst.fst)),
  (∀ i : Nat, ((((i) : Nat) < (p.fst.snd.fst.fst)) → (([.int .i64 ((p.fst.snd.fst.snd i).fst), .int .i64 ((p.fst.snd.fst.snd i).snd.fst)] : List PV) = [.int .i64 ((p.fst.snd.fst.snd i).fst), .int .i64 ((p.fst.snd.fst.snd i).snd.fst)]))),
  (((p.snd.fst.fst) : Nat) = (p.snd.fst.fst)),
  (∀ i : Nat, ((((i) : Nat) < (p.snd.fst.fst)) → (([.int .i64 (p.snd.fst.snd i)] : List PV) = [.int .i64 (p.snd.fst.snd i)]))),
  ((3 : Nat) = 3),
  ((1 : Nat) ≤ 1),
  ((1 : Nat) ≤ 1),
  ((0 : Int) = 0),
  ((3 : Nat) = 3),
  ((1 : Nat) ≤ 1),
  ((1 : Nat) ≤ 1),
  (((N2) : Int) = (N2)),
  ((0 : Nat) = 0),
  (((n2) : Nat) = (n2)),
  ((0 : Nat) = 0),
  (((p.snd.fst.fst) : Nat) = (p.snd.fst.fst)),
  ((2 : Nat) = 2),
  (((n2) : Nat) ≤ (n2)),
  (∀ i : Nat, ((((i) : Nat) < (n2)) → (All [] ∧ (([.p (.int .i64 ((h2 i).fst)), .p (.int .i64 ((h2 i).snd.fst))] : List AV) = [.p (.int .i64 ((h2 i).fst)), .p (.int .i64 ((h2 i).snd.fst))])))),
  ((1 : Nat) = 1),
  (((p.snd.fst.fst) : Nat) ≤ (p.snd.fst.fst)),
  (∀ i : Nat, ((((i) : Nat) < (p.snd.fst.fst)) → (All [] ∧ (([.p (.int .i64 (p.snd.fst.snd i))] : List AV) = [.p (.int .i64 (p.snd.fst.snd i))]))))]) := by kernel_rfl
theorem rWb (p : T_Pinned) (l : T_BarS) (k : Nat) (N N2 : Int) (n n2 : Nat) (h h2 : Nat → T_Bar) :
    pathOb Try.prog Try.f17 0 [.reg [oT, oT, oT, oT], .dec true, .reg [oT, oT, oT, oT, oT, oT, oT, oT, oT, oT, oT, oT, ⟨true, (some ⟨[], [], 1, [(0, brOb n2 h2)], .tup [.agg [.p (.int .i64 N2), .ar 2 0 0 n2], .p (.bool false)]⟩), none⟩, oT, oT, oT, oT, oT, oT], .reg [oT, oT], .dec true, .reg [oT, oT, oT]] [.code (cAt (bodyOf Try.f17) [1, 1, 0, 1, 0, 0]), .inLoop (cAt (bodyOf Try.f17) [1, 1, 0, 1, 0, 0]), .inBlock 0, .code (cAt (bodyOf Try.f17) [1, 1, 1])] (SQs p l k N n h) [] 1 [(0, brOb 0 (fun _ => (0, 0, ()))), (1, iOb 0 (fun _ => 0))] (.tup [.agg [.p (.int .i64 0), .ar 2 0 0 0, .ar 1 1 0 0], .p (.bool false)]) =
    some [((decide ((↑k : Int) < (↑l.fst : Int))) = true),
  ((0 : Nat) < 1),
  ((0 : Int) ≤ ((↑k : Int))),
  ((((↑k : Int)) : Int) < ((↑l.fst : Int))),
  ((0 : Int) ≤ ((↑k : Int))),
  ((((↑k : Int)) : Int) < ((↑l.fst : Int))),
  ((2 : Nat) = 2),
  (((n) : Nat) ≤ (n)),
  Con (Try.prog) 60 0 [] [.agg [.p (.int .i64 (N)), .p (.seq true 2 (n) (fun i => [.int .i64 ((h i).fst), .int .i64 ((h i).snd.fst)]))], .p (.int .i64 ((l.snd k).fst)), .p (.int .i64 ((l.snd k).snd.fst))] [(0, ⟨false, 2, (n2), (fun i => [.p (.int .i64 ((h2 i).fst)), .p (.int .i64 ((h2 i).snd.fst))])⟩)] (.tup [.agg [.p (.int .i64 (N2)), .ar 2 0 0 (n2)], .p (.bool false)]),
  ((0 : Nat) < 1),
  (((true) = true) → ((1 : Nat) = 1)),
  ((!false) = true),
  ((0 : Nat) < 1),
  (((true) = true) → ((1 : Nat) = 1)),
  ((0 : Nat) < 1),
  ((0 : Int) = 0),
  ((0 : Nat) = 0),
  ((0 : Nat) = 0),
  (false = false),
  ((0 : Nat) = 0),
  ((0 : Nat) = 0),
  (∀ i : Nat, ((((i) : Nat) < 0) → All [])),
  (∀ i : Nat, ((((i) : Nat) < 0) → All []))] := by kernel_rfl
theorem rWc (p : T_Pinned) (l : T_BarS) (k : Nat) (N : Int) (n : Nat) (h : Nat → T_Bar) (b1 b2 : Bool) :
    pathOb Try.prog Try.f17 0 [.reg [oT, oT, oT, oT], .dec false, .reg [oT, ⟨true, (some ⟨[], [], 1, [], .p (.bool b1)⟩), none⟩, oT, oT, oT, ⟨true, (some ⟨[], [], 1, [], .p (.bool b2)⟩), none⟩, oT, oT], .dec true, .reg [oT, oT, oT]] [.code (cAt (bodyOf Try.f17) [1, 1, 0, 1, 0, 0]), .inLoop (cAt (bodyOf Try.f17) [1, 1, 0, 1, 0, 0]), .inBlock 0, .code (cAt (bodyOf Try.f17) [1, 1, 1])] (SQs p l k N n h) [] 1 [(0, brOb 0 (fun _ => (0, 0, ()))), (1, iOb 0 (fun _ => 0))] (.tup [.agg [.p (.int .i64 0), .ar 2 0 0 0, .ar 1 1 0 0], .p (.bool false)]) =
    some [((decide ((↑k : Int) < (↑l.fst : Int))) = false),
  ((0 : Nat) < 1),
  Con (Try.prog) 46 0 [] [.agg [.p (.int .i64 (p.fst.fst)), .p (.seq true 2 (p.fst.snd.fst.fst) (fun i => [.int .i64 ((p.fst.snd.fst.snd i).fst), .int .i64 ((p.fst.snd.fst.snd i).snd.fst)])), .p (.seq true 1 (p.snd.fst.fst) (fun i => [.int .i64 (p.snd.fst.snd i)]))]] [] (.p (.bool (b1))),
  (((!!b1) = true) → ((0 : Nat) < 1)),
  (((!!b1) = true) → ((!!b1) = true)),
  (((!!b1) = true) → ((2 : Nat) = 2)),
  (((!!b1) = true) → (((n) : Nat) ≤ (n))),
  (((!!b1) = true) → ((1 : Nat) = 1)),
  (((!!b1) = true) → (((p.snd.fst.fst) : Nat) ≤ (p.snd.fst.fst))),
  (((!!b1) = true) → Con (Try.prog) 46 0 [] [.agg [.p (.int .i64 (N)), .p (.seq true 2 (n) (fun i => [.int .i64 ((h i).fst), .int .i64 ((h i).snd.fst)])), .p (.seq true 1 (p.snd.fst.fst) (fun i => [.int .i64 (p.snd.fst.snd i)]))]] [] (.p (.bool (b2)))),
  (((!!b1) = true) → ((!!b1) = true)),
  (((!b1) = false) → ((!!b1) = true)),
  ((bif !b1 then true else !b2) = true),
  ((0 : Nat) < 1),
  (((true) = true) → ((1 : Nat) = 1)),
  ((0 : Nat) < 1),
  ((0 : Int) = 0),
  ((0 : Nat) = 0),
  ((0 : Nat) = 0),
  (false = false),
  ((0 : Nat) = 0),
  ((0 : Nat) = 0),
  (∀ i : Nat, ((((i) : Nat) < 0) → All [])),
  (∀ i : Nat, ((((i) : Nat) < 0) → All []))] := by kernel_rfl
theorem rWd (p : T_Pinned) (l : T_BarS) (k : Nat) (N : Int) (n : Nat) (h : Nat → T_Bar) (b1 b2 : Bool) :
    pathOb Try.prog Try.f17 0 [.reg [oT, oT, oT, oT], .dec false, .reg [oT, ⟨true, (some ⟨[], [], 1, [], .p (.bool b1)⟩), none⟩, oT, oT, oT, ⟨true, (some ⟨[], [], 1, [], .p (.bool b2)⟩), none⟩, oT, oT], .dec false, .reg [oT, oT, oT]] [.code (cAt (bodyOf Try.f17) [1, 1, 0, 1, 0, 0]), .inLoop (cAt (bodyOf Try.f17) [1, 1, 0, 1, 0, 0]), .inBlock 0, .code (cAt (bodyOf Try.f17) [1, 1, 1])] (SQs p l k N n h) [3, 4] 1 [(0, brOb n h), (1, iOb p.2.1.1 p.2.1.2)] (.tup [.agg [.p (.int .i64 N), .ar 2 0 0 n, .ar 1 1 0 p.2.1.1], .p (.bool true)]) =
    some [((decide ((↑k : Int) < (↑l.fst : Int))) = false),
  ((0 : Nat) < 1),
  Con (Try.prog) 46 0 [] [.agg [.p (.int .i64 (p.fst.fst)), .p (.seq true 2 (p.fst.snd.fst.fst) (fun i => [.int .i64 ((p.fst.snd.fst.snd i).fst), .int .i64 ((p.fst.snd.fst.snd i).snd.fst)])), .p (.seq true 1 (p.snd.fst.fst) (fun i => [.int .i64 (p.snd.fst.snd i)]))]] [] (.p (.bool (b1))),
  (((!!b1) = true) → ((0 : Nat) < 1)),
  (((!!b1) = true) → ((!!b1) = true)),
  (((!!b1) = true) → ((2 : Nat) = 2)),
  (((!!b1) = true) → (((n) : Nat) ≤ (n))),
  (((!!b1) = true) → ((1 : Nat) = 1)),
  (((!!b1) = true) → (((p.snd.fst.fst) : Nat) ≤ (p.snd.fst.fst))),
  (((!!b1) = true) → Con (Try.prog) 46 0 [] [.agg [.p (.int .i64 (N)), .p (.seq true 2 (n) (fun i => [.int .i64 ((h i).fst), .int .i64 ((h i).snd.fst)])), .p (.seq true 1 (p.snd.fst.fst) (fun i => [.int .i64 (p.snd.fst.snd i)]))]] [] (.p (.bool (b2)))),
  (((!!b1) = true) → ((!!b1) = true)),
  (((!b1) = false) → ((!!b1) = true)),
  ((bif !b1 then true else !b2) = false),
  ((0 : Nat) < 1),
  ((0 : Nat) < 1),
  (((true) = true) → ((1 : Nat) = 1)),
  ((0 : Nat) < 1),
  (((N) : Int) = (N)),
  ((0 : Nat) = 0),
  (((n) : Nat) = (n)),
  ((0 : Nat) = 0),
  (((p.snd.fst.fst) : Nat) = (p.snd.fst.fst)),
  (true = true),
  ((2 : Nat) = 2),
  (((n) : Nat) ≤ (n)),
  (∀ i : Nat, ((((i) : Nat) < (n)) → (All [] ∧ (([.p (.int .i64 ((h i).fst)), .p (.int .i64 ((h i).snd.fst))] : List AV) = [.p (.int .i64 ((h i).fst)), .p (.int .i64 ((h i).snd.fst))])))),
  ((1 : Nat) = 1),
  (((p.snd.fst.fst) : Nat) ≤ (p.snd.fst.fst)),
  (∀ i : Nat, ((((i) : Nat) < (p.snd.fst.fst)) → (All [] ∧ (([.p (.int .i64 (p.snd.fst.snd i))] : List AV) = [.p (.int .i64 (p.snd.fst.snd i))])))),
  (∀ i : Nat, ((((i) : Nat) < (n)) → All [])),
  (∀ i : Nat, ((((i) : Nat) < (p.snd.fst.fst)) → All []))] := by kernel_rfl

theorem con_copyPinned (p : T_Pinned) (hs : smS s_Pinned p) : Con Try.prog 62 0 [] [pinA p] [(0, brOb p.1.2.1.1 p.1.2.1.2), (1, iOb p.2.1.1 p.2.1.2)] (.agg [.p (.int .i64 p.1.1), .ar 2 0 0 p.1.2.1.1, .ar 1 1 0 p.2.1.1]) := by
  have h1 : p.1.2.1.1 ≤ 1048576 := hs.1.2.1.1
  have h2 : p.2.1.1 ≤ 1048576 := hs.2.1.1
  have c1 := con_copyGraph p.1 h1
  have c2 := con_copyInts p.2.1.1 p.2.1.2 h2
  refine con_start Try.func62 rfl (by kernel_rfl) rfl (fun c hc => ?_)
  refine path_ok mixed Try.func62 hc (rCp p) ?_
  simp only [All]
  repeat' (first | exact trivial | with_reducible apply And.intro)
  all_goals (first | omega | rfl | (intros; first | assumption | exact True.intro | rfl | exact absurd (show false = true by assumption) Bool.false_ne_true | ((repeat' (first | assumption | apply anda | apply notf)); done)) | (exact c1) | (exact c2) | (intro j hj; simp [All]; done) | (simp; try omega))

/-- The bars put in one by one: whether all went in, and the graph. -/
def arI (v : T_Graph) (l : T_BarS) : Nat → Bool × T_Graph
  | 0 => (true, v)
  | k + 1 => ((arI v l k).1 && abB (arI v l k).2 (l.2 k).1 (l.2 k).2.1, abG (arI v l k).2 (l.2 k).1 (l.2 k).2.1)
theorem arI_false (v : T_Graph) (l : T_BarS) (k : Nat) (h : (arI v l k).1 = false) : ∀ n, k ≤ n → (arI v l n).1 = false
  | 0, h' => by obtain rfl : k = 0 := by omega
                exact h
  | n + 1, h' => by
    by_cases e : k = n + 1
    · subst e; exact h
    · simp [arI, arI_false v l k h n (by omega)]
def arB (p : T_Pinned) (l : T_BarS) : Bool := pinnedF p && ((arI p.1 l l.1).1 && pinnedF ((arI p.1 l l.1).2, p.2))
def zPin : T_Pinned := ((0, (0, fun _ => (0, 0, ())), ()), (0, fun _ => 0), ())
def arP (p : T_Pinned) (l : T_BarS) : T_Pinned := if arB p l = true then ((arI p.1 l l.1).2, p.2) else zPin

theorem arI_n (v : T_Graph) (l : T_BarS) : ∀ k, (arI v l k).2.2.1.1 ≤ v.2.1.1 ∨ (arI v l k).2.2.1.1 ≤ 24
  | 0 => .inl (Nat.le_refl _)
  | k + 1 => by
    have h := arI_n v l k
    have h2 := abG_n (arI v l k).2 (l.2 k).1 (l.2 k).2.1
    simp only [arI]
    omega

theorem sm_pin {p : T_Pinned} (h1 : p.1.2.1.1 ≤ 1048576) (h2 : p.2.1.1 ≤ 1048576) : smS s_Pinned p :=
  ⟨⟨trivial, ⟨h1, fun i hi => by simp [smS, smL]⟩, trivial⟩, ⟨h2, fun i hi => by simp [smS]⟩, trivial⟩

theorem con_ApplyRepair_i (p : T_Pinned) (hs : smS s_Pinned p) (l : T_BarS) (hl : l.1 ≤ 1048576) :
    Con Try.prog 19 0 [] [pinA p, graphL l] [(0, brOb (arP p l).1.2.1.1 (arP p l).1.2.1.2), (1, iOb (arP p l).2.1.1 (arP p l).2.1.2)]
      (.tup [.agg [.p (.int .i64 (arP p l).1.1), .ar 2 0 0 (arP p l).1.2.1.1, .ar 1 1 0 (arP p l).2.1.1], .p (.bool (arB p l))]) := by
  have hn1 : p.1.2.1.1 ≤ 1048576 := hs.1.2.1.1
  have hn2 : p.2.1.1 ≤ 1048576 := hs.2.1.1
  have c1 := con_IsPinned_i p hs
  have cc := con_copyPinned p hs
  refine con_start Try.func19 rfl (by kernel_rfl) rfl (fun c hc => ?_)
  cases hp : pinnedF p with
  | false =>
    rw [hp] at c1
    have hb : arB p l = false := by simp [arB, hp]
    rw [show arP p l = zPin by simp [arP, hb], hb]
    refine path_ok mixed Try.func19 hc (rQy p l) ?_
    simp only [All]
    repeat' (first | exact trivial | with_reducible apply And.intro)
    all_goals (first | omega | rfl | (intros; first | assumption | exact True.intro | rfl | exact absurd (show false = true by assumption) Bool.false_ne_true | ((repeat' (first | assumption | apply anda | apply notf)); done)) | (exact c1) | (intro j hj; exact absurd hj (Nat.not_lt_zero _)) | (simp; done))
  | true =>
    rw [hp] at c1
    have lp : ∀ d k, k + d = l.1 → (arI p.1 l k).1 = true →
        Run Try.prog c 19 [.code (cAt (bodyOf Try.f19) [1, 1, 1, 0, 1, 0, 0]), .inLoop (cAt (bodyOf Try.f19) [1, 1, 1, 0, 1, 0, 0]), .inBlock 0, .code (cAt (bodyOf Try.f19) [1, 1, 1, 1])] (SQi p l k (arI p.1 l k).2.1 (arI p.1 l k).2.2.1.1 (arI p.1 l k).2.2.1.2)
          (Post c [(0, brOb (arP p l).1.2.1.1 (arP p l).1.2.1.2), (1, iOb (arP p l).2.1.1 (arP p l).2.1.2)] (.tup [.agg [.p (.int .i64 (arP p l).1.1), .ar 2 0 0 (arP p l).1.2.1.1, .ar 1 1 0 (arP p l).2.1.1], .p (.bool (arB p l))])) := by
      intro d
      induction d with
      | zero =>
        intro k hk ht
        obtain rfl : k = l.1 := by omega
        have hd : decide ((l.1 : Int) < (l.1 : Int)) = false := by simp
        have hgn := arI_n p.1 l l.1
        have c2 := con_IsPinned_i ((arI p.1 l l.1).2, p.2) (sm_pin (by show (arI p.1 l l.1).2.2.1.1 ≤ 1048576; omega) hn2)
        cases hq : pinnedF ((arI p.1 l l.1).2, p.2) with
        | false =>
          rw [hq] at c2
          have hb : arB p l = false := by simp [arB, hq]
          rw [show arP p l = zPin by simp [arP, hb], hb]
          refine path_ok mixed Try.func19 hc (rQc p l l.1 (arI p.1 l l.1).2.1 (arI p.1 l l.1).2.2.1.1 (arI p.1 l l.1).2.2.1.2) ?_
          simp only [All]
          repeat' (first | exact trivial | with_reducible apply And.intro)
          all_goals (first | omega | rfl | (intros; first | assumption | exact True.intro | rfl | exact absurd (show false = true by assumption) Bool.false_ne_true | ((repeat' (first | assumption | apply anda | apply notf)); done)) | (exact hd) | (exact c2) | (intro j hj; exact absurd hj (Nat.not_lt_zero _)) | (intro j hj; simp [All]; done) | (simp; done))
        | true =>
          rw [hq] at c2
          have hb : arB p l = true := by simp [arB, hq, hp, ht]
          rw [show arP p l = ((arI p.1 l l.1).2, p.2) by simp [arP, hb], hb]
          refine path_ok mixed Try.func19 hc (rQd p l l.1 (arI p.1 l l.1).2.1 (arI p.1 l l.1).2.2.1.1 (arI p.1 l l.1).2.2.1.2) ?_
          simp only [All]
          repeat' (first | exact trivial | with_reducible apply And.intro)
          all_goals (first | omega | rfl | (intros; first | assumption | exact True.intro | rfl | exact absurd (show false = true by assumption) Bool.false_ne_true | ((repeat' (first | assumption | apply anda | apply notf)); done)) | (exact hd) | (exact c2) | (intro j hj; simp [All]; done) | (simp; done))
      | succ d ih =>
        intro k hk ht
        have hd : decide ((k : Int) < (l.1 : Int)) = true := by simp; omega
        have hgn := arI_n p.1 l k
        have ca := con_AddBar_i (arI p.1 l k).2 (sm_graph (by omega)) (l.2 k).1 (l.2 k).2.1
        cases ho : abB (arI p.1 l k).2 (l.2 k).1 (l.2 k).2.1 with
        | false =>
          rw [ho] at ca
          have hb : arB p l = false := by
            have := arI_false p.1 l (k + 1) (by simp [arI, ho]) l.1 (by omega)
            simp [arB, this]
          rw [show arP p l = zPin by simp [arP, hb], hb]
          refine path_ok mixed Try.func19 hc (rQb p l k (arI p.1 l k).2.1 (abG (arI p.1 l k).2 (l.2 k).1 (l.2 k).2.1).1 (arI p.1 l k).2.2.1.1 (abG (arI p.1 l k).2 (l.2 k).1 (l.2 k).2.1).2.1.1 (arI p.1 l k).2.2.1.2 (abG (arI p.1 l k).2 (l.2 k).1 (l.2 k).2.1).2.1.2) ?_
          simp only [All]
          repeat' (first | exact trivial | with_reducible apply And.intro)
          all_goals (first | omega | rfl | (intros; first | assumption | exact True.intro | rfl | exact absurd (show false = true by assumption) Bool.false_ne_true | ((repeat' (first | assumption | apply anda | apply notf)); done)) | (exact hd) | (exact ca) | (intro j hj; exact absurd hj (Nat.not_lt_zero _)) | (intro j hj; simp [All]; done) | (simp; done))
        | true =>
          rw [ho] at ca
          refine piece_ok mixed hc (rQa p l k (arI p.1 l k).2.1 _ (arI p.1 l k).2.2.1.1 _ (arI p.1 l k).2.2.1.2 _) ?_ (ih (k + 1) (by omega) (by simp [arI, ht, ho]))
          simp only [All]
          repeat' (first | exact trivial | with_reducible apply And.intro)
          all_goals (first | omega | rfl | (intros; first | assumption | exact True.intro | rfl | exact absurd (show false = true by assumption) Bool.false_ne_true | ((repeat' (first | assumption | apply anda | apply notf)); done)) | (exact hd) | (exact ca) | (intro j hj; simp [All]; done) | (simp; done))
    refine piece_ok mixed hc (rQz p l) ?_ (lp l.1 0 (by omega) rfl)
    simp only [All]
    repeat' (first | exact trivial | with_reducible apply And.intro)
    all_goals (first | omega | rfl | (intros; first | assumption | exact True.intro | rfl | exact absurd (show false = true by assumption) Bool.false_ne_true | ((repeat' (first | assumption | apply anda | apply notf)); done)) | (exact c1) | (exact cc) | (intro j hj; simp [All]; done) | (simp; done))

theorem con_ApplyRepair_s (p : T_Pinned) (hs : smS s_Pinned p) (l : T_BarS) (hl : l.1 ≤ 1048576) :
    Con Try.prog 17 0 [] [pinA p, graphL l] [(0, brOb (arP p l).1.2.1.1 (arP p l).1.2.1.2), (1, iOb (arP p l).2.1.1 (arP p l).2.1.2)]
      (.tup [.agg [.p (.int .i64 (arP p l).1.1), .ar 2 0 0 (arP p l).1.2.1.1, .ar 1 1 0 (arP p l).2.1.1], .p (.bool (arB p l))]) := by
  have hn1 : p.1.2.1.1 ≤ 1048576 := hs.1.2.1.1
  have hn2 : p.2.1.1 ≤ 1048576 := hs.2.1.1
  have c1 := con_IsPinned_s p hs
  have cc := con_l2Copy p.1 hn1
  refine con_start Try.func17 rfl (by kernel_rfl) rfl (fun c hc => ?_)
  have lp : ∀ d k, k + d = l.1 → (arI p.1 l k).1 = true →
      Run Try.prog c 17 [.code (cAt (bodyOf Try.f17) [1, 1, 0, 1, 0, 0]), .inLoop (cAt (bodyOf Try.f17) [1, 1, 0, 1, 0, 0]), .inBlock 0, .code (cAt (bodyOf Try.f17) [1, 1, 1])] (SQs p l k (arI p.1 l k).2.1 (arI p.1 l k).2.2.1.1 (arI p.1 l k).2.2.1.2)
        (Post c [(0, brOb (arP p l).1.2.1.1 (arP p l).1.2.1.2), (1, iOb (arP p l).2.1.1 (arP p l).2.1.2)] (.tup [.agg [.p (.int .i64 (arP p l).1.1), .ar 2 0 0 (arP p l).1.2.1.1, .ar 1 1 0 (arP p l).2.1.1], .p (.bool (arB p l))])) := by
    intro d
    induction d with
    | zero =>
      intro k hk ht
      obtain rfl : k = l.1 := by omega
      have hd : decide ((l.1 : Int) < (l.1 : Int)) = false := by simp
      have hgn := arI_n p.1 l l.1
      have c2 := con_IsPinned_s ((arI p.1 l l.1).2, p.2) (sm_pin (by show (arI p.1 l l.1).2.2.1.1 ≤ 1048576; omega) hn2)
      have hcd : (bif !pinnedF p then true else !pinnedF ((arI p.1 l l.1).2, p.2)) = !arB p l := by
        unfold arB
        rw [ht]
        cases pinnedF p <;> cases pinnedF ((arI p.1 l l.1).2, p.2) <;> rfl
      cases hb : arB p l with
      | false =>
        rw [hb] at hcd
        have hcd' : (bif !pinnedF p then true else !pinnedF ((arI p.1 l l.1).2, p.2)) = true := hcd
        rw [show arP p l = zPin by simp [arP, hb]]
        refine path_ok mixed Try.func17 hc (rWc p l l.1 (arI p.1 l l.1).2.1 (arI p.1 l l.1).2.2.1.1 (arI p.1 l l.1).2.2.1.2 (pinnedF p) (pinnedF ((arI p.1 l l.1).2, p.2))) ?_
        simp only [All]
        repeat' (first | exact trivial | with_reducible apply And.intro)
        all_goals (first | omega | rfl | (intros; first | assumption | exact True.intro | rfl | exact absurd (show false = true by assumption) Bool.false_ne_true | ((repeat' (first | assumption | apply anda | apply notf)); done)) | (exact hd) | (exact c1) | (intro _; exact c2) | (exact hcd') | (intro j hj; exact absurd hj (Nat.not_lt_zero _)) | (intro j hj; simp [All]; done) | (simp; done))
      | true =>
        rw [hb] at hcd
        have hcd' : (bif !pinnedF p then true else !pinnedF ((arI p.1 l l.1).2, p.2)) = false := hcd
        rw [show arP p l = ((arI p.1 l l.1).2, p.2) by simp [arP, hb]]
        refine path_ok mixed Try.func17 hc (rWd p l l.1 (arI p.1 l l.1).2.1 (arI p.1 l l.1).2.2.1.1 (arI p.1 l l.1).2.2.1.2 (pinnedF p) (pinnedF ((arI p.1 l l.1).2, p.2))) ?_
        simp only [All]
        repeat' (first | exact trivial | with_reducible apply And.intro)
        all_goals (first | omega | rfl | (intros; first | assumption | exact True.intro | rfl | exact absurd (show false = true by assumption) Bool.false_ne_true | ((repeat' (first | assumption | apply anda | apply notf)); done)) | (exact hd) | (exact c1) | (intro _; exact c2) | (exact hcd') | (intro j hj; simp [All]; done) | (simp; done))
    | succ d ih =>
      intro k hk ht
      have hd : decide ((k : Int) < (l.1 : Int)) = true := by simp; omega
      have hgn := arI_n p.1 l k
      have ca := con_AddBar_s (arI p.1 l k).2 (sm_graph (by omega)) (l.2 k).1 (l.2 k).2.1
      cases ho : abB (arI p.1 l k).2 (l.2 k).1 (l.2 k).2.1 with
      | false =>
        rw [ho] at ca
        have hb : arB p l = false := by
          have := arI_false p.1 l (k + 1) (by simp [arI, ho]) l.1 (by omega)
          simp [arB, this]
        rw [show arP p l = zPin by simp [arP, hb], hb]
        refine path_ok mixed Try.func17 hc (rWb p l k (arI p.1 l k).2.1 (abG (arI p.1 l k).2 (l.2 k).1 (l.2 k).2.1).1 (arI p.1 l k).2.2.1.1 (abG (arI p.1 l k).2 (l.2 k).1 (l.2 k).2.1).2.1.1 (arI p.1 l k).2.2.1.2 (abG (arI p.1 l k).2 (l.2 k).1 (l.2 k).2.1).2.1.2) ?_
        simp only [All]
        repeat' (first | exact trivial | with_reducible apply And.intro)
        all_goals (first | omega | rfl | (intros; first | assumption | exact True.intro | rfl | exact absurd (show false = true by assumption) Bool.false_ne_true | ((repeat' (first | assumption | apply anda | apply notf)); done)) | (exact hd) | (exact ca) | (intro j hj; exact absurd hj (Nat.not_lt_zero _)) | (intro j hj; simp [All]; done) | (simp; done))
      | true =>
        rw [ho] at ca
        refine piece_ok mixed hc (rWa p l k (arI p.1 l k).2.1 _ (arI p.1 l k).2.2.1.1 _ (arI p.1 l k).2.2.1.2 _) ?_ (ih (k + 1) (by omega) (by simp [arI, ht, ho]))
        simp only [All]
        repeat' (first | exact trivial | with_reducible apply And.intro)
        all_goals (first | omega | rfl | (intros; first | assumption | exact True.intro | rfl | exact absurd (show false = true by assumption) Bool.false_ne_true | ((repeat' (first | assumption | apply anda | apply notf)); done)) | (exact hd) | (exact ca) | (intro j hj; simp [All]; done) | (simp; done))
  refine piece_ok mixed hc (rWz p l) ?_ (lp l.1 0 (by omega) rfl)
  simp only [All]
  repeat' (first | exact trivial | with_reducible apply And.intro)
  all_goals (first | omega | rfl | (intros; first | assumption | exact True.intro | rfl | exact absurd (show false = true by assumption) Bool.false_ne_true | ((repeat' (first | assumption | apply anda | apply notf)); done)) | (exact cc) | (intro j hj; simp [All]; done) | (simp; done) | (simp; omega))

theorem goodP_at {N : Int} {g : Nat → Int} : ∀ {n : Nat}, goodP N g n = true → ∀ k, k < n → 0 ≤ g k ∧ g k < N ∧ (0 < k → g (k - 1) < g k)
  | 0, _, k, hk => absurd hk (Nat.not_lt_zero _)
  | n + 1, h, k, hk => by
    simp only [goodP, Bool.and_eq_true, Bool.not_eq_true'] at h
    by_cases e : k = n
    · subst e
      have h2 := h.2
      unfold badP at h2
      by_cases c1 : g k < 0
      · simp [c1] at h2
      by_cases c2 : g k ≥ N
      · simp [c1, c2] at h2
      refine ⟨by omega, by omega, fun h0 => ?_⟩
      simp only [c1, c2, decide_false, cond_false] at h2
      rw [decide_eq_true (show (k : Int) > 0 by omega)] at h2
      simp only [cond_true, decide_eq_false_iff_not] at h2
      rw [show ((k : Int) - 1).toNat = k - 1 by omega] at h2
      omega
    · exact goodP_at h.1 k (by omega)
theorem goodP_asc {N : Int} {g : Nat → Int} {n : Nat} (h : goodP N g n = true) : ∀ j i, i < j → j < n → g i < g j := by
  intro j
  induction j with
  | zero => intro i hi; omega
  | succ j ih =>
    intro i hi hj
    have h1 := (goodP_at h (j + 1) hj).2.2 (by omega)
    rw [show j + 1 - 1 = j by omega] at h1
    by_cases e : i = j
    · rw [e]; exact h1
    · have := ih i (by omega) (by omega); omega
theorem goodP_ge {N : Int} {g : Nat → Int} {n : Nat} (h : goodP N g n = true) : ∀ k, k < n → (k : Int) ≤ g k := by
  intro k
  induction k with
  | zero => intro hk; exact (goodP_at h 0 hk).1
  | succ k ih =>
    intro hk
    have h1 := ih (by omega)
    have h2 := goodP_asc h (k + 1) k (by omega) hk
    omega
theorem pinned_in {p : T_Pinned} (h : pinnedF p = true) : isGraphF p.1 = true ∧ 2 ≤ p.2.1.1 ∧ p.2.1.1 ≤ 8 ∧ p.1.2.1.1 ≤ 15 ∧ p.1.2.1.1 + 2 * p.2.1.1 ≤ 27 := by
  simp only [pinnedF, Bool.and_eq_true] at h
  obtain ⟨h1, h2, h3⟩ := h
  unfold tailP at h3
  cases hs : simpleF p.1 with
  | false => rw [hs] at h3; simp at h3
  | true =>
    rw [hs] at h3
    simp only [simpleF, Bool.and_eq_true] at hs
    have hg := graph_inR hs.2
    by_cases c1 : (p.2.1.1 : Int) ≥ 2
    · by_cases c2 : (p.1.2.1.1 : Int) ≤ 15
      · by_cases c3 : (p.1.2.1.1 : Int) + 2 * (p.2.1.1 : Int) - 3 ≤ 24
        · refine ⟨hs.2, by omega, ?_, by omega, by omega⟩
          have := goodP_ge h1 (p.2.1.1 - 1) (by omega)
          have := goodP_at h1 (p.2.1.1 - 1) (by omega)
          omega
        · simp [c1, c2, c3] at h3
      · simp [c1, c2] at h3
    · simp [c1] at h3

theorem arP_le (p : T_Pinned) (l : T_BarS) : (arP p l).1.2.1.1 ≤ 24 ∧ (arP p l).2.1.1 ≤ 8 := by
  unfold arP
  split
  · rename_i h
    simp only [arB, Bool.and_eq_true] at h
    have := pinned_in h.2.2
    exact ⟨(graph_inR this.1).2.2.1, this.2.2.1⟩
  · exact ⟨Nat.zero_le _, Nat.zero_le _⟩

end Go.Proofs.Ytgdbnnmogddkaaa.Mach
