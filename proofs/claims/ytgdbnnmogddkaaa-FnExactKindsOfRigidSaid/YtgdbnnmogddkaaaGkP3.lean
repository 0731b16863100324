/- What the law Gk needs, part 3 of 5: the abstract machine and the contracts of the functions. Conditions: as each theorem says. -/
import Derived.Shelf.SlSortCmp.NoneTotal
import Derived.Test.YtgdbnnmogddkaaaGkP2
namespace Go.Proofs.Ytgdbnnmogddkaaa.Mach
open Go
set_option linter.unusedVariables false
set_option linter.unusedSimpArgs false
def inD (n : Nat) (F : Nat → Int) : AV := .p (.seq true 1 n (fun i => [.int .i64 (F i)]))
def pebO (N m : Nat) (j : Nat) : AV := .agg [.ar 1 j 0 N, .ar 1 (j + 1) 0 m, .ar 1 (j + 2) 0 m]
def pebR (N m : Nat) (F T Q : Nat → Int) : Hp := [(0, iOb N F), (1, iOb m T), (2, iOb m Q)]
def SY0 (g : Nat → T_Bar) (nb N k l i : Nat) : St :=
  ⟨[.p (.int .i64 N), brL g nb, .p (.int .i64 k), .p (.int .i64 l), .p .any, .p .any, .p .any, .p .any, .pt 3 0 0 0, .pt 3 1 0 0, .p .any, .p .any, .p .any, .p (.int .i64 N), .p (.int .i64 i)] ++ List.replicate 22 anyA,
   [(0, ⟨true, 3, 1, fun _ => [.p .nil, .p .nil, .p .nil]⟩), (1, ⟨true, 3, 1, fun _ => [.ar 1 2 0 i, .ar 1 3 0 0, .ar 1 4 0 0]⟩), (2, iOb i (fun _ => k)), (3, iOb 0 (fun _ => 0)), (4, iOb 0 (fun _ => 0))], 5⟩
def SY1 (g : Nat → T_Bar) (nb N m k l e : Nat) (F T Q : Nat → Int) : St :=
  ⟨[.p (.int .i64 N), brL g nb, .p (.int .i64 k), .p (.int .i64 l), .p .any, .p .any, .p .any, .p .any, .pt 3 0 0 0, .pt 3 1 0 0] ++ List.replicate 14 anyA ++ [.p (.int .i64 nb), .p (.int .i64 e)] ++ List.replicate 11 anyA,
   [(0, ⟨true, 3, 1, fun _ => [.p .nil, .p .nil, .p .nil]⟩), (1, ⟨true, 3, 1, fun _ => [.ar 1 2 0 N, .ar 1 3 0 m, .ar 1 4 0 m]⟩), (2, iOb N F), (3, iOb m T), (4, iOb m Q)], 5⟩
theorem pCi (n : Nat) (F : Nat → Int) :
    pathOb Try.prog Try.f84 0 [.reg [oT], .reg [oT, oT, oT, oT]] [.code (bodyOf Try.f84)] (start Try.f84 [] 0 [inD n F]) [96] 1 [(0, iOb n F)] (.ar 1 0 0 n) =
    some [((0 : Nat) ≤ 0),
  ((((0 + n) * 8) : Nat) ≤ 140737488355328),
  (((0 + n) : Nat) ≤ 9223372036854775807),
  (AN 0),
  (((0 + n) : Nat) = n),
  (AN 1),
  ((n : Nat) ≤ (0 + n)),
  (AA n (fun i => [.p (.int .i64 (F i))])),
  (AE n)] := by kernel_rfl
theorem pCp (N m m' : Nat) (F T Q : Nat → Int) :
    pathOb Try.prog Try.f158 0 [.reg [oT, oT], .reg [oT, oT, ⟨true, (some ⟨[], [], [], 1, [(0, iOb N F)], .ar 1 0 0 N⟩), none⟩, oT, oT, ⟨true, (some ⟨[], [], [], 1, [(0, iOb m T)], .ar 1 0 0 m⟩), none⟩, oT, oT, ⟨true, (some ⟨[], [], [], 1, [(0, iOb m Q)], .ar 1 0 0 m⟩), none⟩, oT, oT]] [.code (bodyOf Try.f158)] (start Try.f158 [] 0 [.agg [inD N F, inD m T, inD m Q]]) [128, 224, 320] 1 (pebR N m F T Q) (pebO N m 0) =
    some [((0 : Nat) < 1),
  Con Try.prog 84 0 [] [.p (.seq true 1 N (fun i => [.int .i64 (F i)]))] [(0, ⟨false, 1, N, (fun i => [.p (.int .i64 (F i))])⟩)] (.ar 1 0 0 N),
  ((0 : Nat) < 1),
  Con Try.prog 84 0 [] [.p (.seq true 1 m (fun i => [.int .i64 (T i)]))] [(0, ⟨false, 1, m, (fun i => [.p (.int .i64 (T i))])⟩)] (.ar 1 0 0 m),
  ((0 : Nat) < 1),
  Con Try.prog 84 0 [] [.p (.seq true 1 m (fun i => [.int .i64 (Q i)]))] [(0, ⟨false, 1, m, (fun i => [.p (.int .i64 (Q i))])⟩)] (.ar 1 0 0 m),
  ((0 : Nat) < 1),
  ((true = true) → (AN 1)),
  ((0 : Nat) < 1),
  (AN 0),
  (AN N),
  (AN 0),
  (AN m),
  (AN 0),
  (AN m),
  (AN 1),
  ((N : Nat) ≤ N),
  (AA N (fun i => [.p (.int .i64 (F i))])),
  (AN 1),
  ((m : Nat) ≤ m),
  (AA m (fun i => [.p (.int .i64 (T i))])),
  (AN 1),
  ((m : Nat) ≤ m),
  (AA m (fun i => [.p (.int .i64 (Q i))])),
  (AE N),
  (AE m),
  (AE m)] := by kernel_rfl
theorem pYz (g : Nat → T_Bar) (nb N k l : Nat) :
    pieceOb Try.prog 0 [.reg [oT], .reg [oT, oT, oT], .reg [oT, oT], .head] [.code (bodyOf Try.f140)] (start Try.f140 [] 0 [.p (.int .i64 N), brL g nb, .p (.int .i64 k), .p (.int .i64 l)]) [0, 64] 1 (SY0 g nb N k l 0) =
    some ([.code (cAt (bodyOf Try.f140) [1, 1, 0, 1, 0, 0]), .inLoop (cAt (bodyOf Try.f140) [1, 1, 0, 1, 0, 0]), .inBlock 0, .code (cAt (bodyOf Try.f140) [1, 1, 1])], [((0 : Nat) < 1),
  ((true = true) → (AN 1)),
  (AI ((↑N : Int))),
  (AN nb),
  (AP nb (fun i => [.int .i64 ((g i).1), .int .i64 ((g i).2.1)])),
  (AI ((↑k : Int))),
  (AI ((↑l : Int))),
  (AN 0),
  (AN 0),
  (AI ((↑N : Int))),
  ((0 : Int) = (↑0 : Int)),
  ((((List.map (fun v => AV.p (absV v)) [Value.slice none 0 0, Value.slice none 0 0, Value.slice none 0 0]).length) : Nat) = 3),
  ((1 : Nat) ≤ 1),
  ((1 : Nat) ≤ 1),
  ((((List.map (fun v => AV.p (absV v)) [Value.slice none 0 0, Value.slice none 0 0, Value.slice none 0 0]).length) : Nat) = 3),
  ((1 : Nat) ≤ 1),
  ((1 : Nat) ≤ 1),
  (AN 0),
  (AN 0),
  (AN 0),
  (AN 0),
  (AN 0),
  (AN 0)]) := by kernel_rfl
theorem pY0 (g : Nat → T_Bar) (nb N k l i : Nat) :
    pieceOb Try.prog 0 [.reg [oT], .dec true, .reg [oT, oT, oT, oT, oT, oT, oT], .reg [oT, oT], .head] [.code (cAt (bodyOf Try.f140) [1, 1, 0, 1, 0, 0]), .inLoop (cAt (bodyOf Try.f140) [1, 1, 0, 1, 0, 0]), .inBlock 0, .code (cAt (bodyOf Try.f140) [1, 1, 1])] (SY0 g nb N k l i) [0, 1, 165, 3, 4] 1 (SY0 g nb N k l (i + 1)) =
    some ([.code (cAt (bodyOf Try.f140) [1, 1, 0, 1, 0, 0]), .inLoop (cAt (bodyOf Try.f140) [1, 1, 0, 1, 0, 0]), .inBlock 0, .code (cAt (bodyOf Try.f140) [1, 1, 1])], [((decide ((↑i : Int) < (↑N : Int))) = true),
  ((0 : Nat) < 1),
  ((1 : Nat) ≤ 1),
  ((i : Nat) ≤ i),
  ((((i + 1) * 8) : Nat) ≤ 140737488355328),
  (((i + 1) : Nat) ≤ 9223372036854775807),
  ((0 : Nat) < 1),
  ((true = true) → (AN 1)),
  (((-9223372036854775808) : Int) ≤ ((↑i : Int) + 1)),
  ((((↑i : Int) + 1) : Int) ≤ 9223372036854775807),
  (AI ((↑N : Int))),
  (AN nb),
  (AP nb (fun i_1 => [.int .i64 ((g i_1).1), .int .i64 ((g i_1).2.1)])),
  (AI ((↑k : Int))),
  (AI ((↑l : Int))),
  (AN 0),
  (AN 0),
  (AI ((↑N : Int))),
  ((((↑i : Int) + 1) : Int) = (↑(i + 1) : Int)),
  (AN 3),
  ((1 : Nat) ≤ 1),
  ((1 : Nat) ≤ 1),
  (AN 3),
  ((1 : Nat) ≤ 1),
  ((1 : Nat) ≤ 1),
  (AN 0),
  (AN ((i + 1))),
  (AN 0),
  (AN 0),
  (AN 0),
  (AN 0),
  (AN 1),
  (((i + 1) : Nat) ≤ (i + 1)),
  (∀ i_1 : Nat, (((i_1 : Nat) < (i + 1)) → (All (cvtL false [(1, ⟨true, 3, 1, (fun i_2 => [.ar 1 165 0 (i + 1), .ar 1 3 0 0, .ar 1 4 0 0])⟩), (165, ⟨false, 1, (i + 1), (fun i_2 => (if (i_2 < i) then [.p (.int .i64 (↑k : Int))] else [.p (.int .i64 (↑k : Int))]))⟩), (133, ⟨false, 1, 1, (fun i_2 => [.p (.int .i64 (↑k : Int))])⟩), (0, ⟨true, 3, 1, (fun i_2 => [.p (.nil), .p (.nil), .p (.nil)])⟩), (3, ⟨false, 1, 0, (fun i_2 => [.p (.int .i64 0)])⟩), (4, ⟨false, 1, 0, (fun i_2 => [.p (.int .i64 0)])⟩)] [0, 1, 165, 3, 4] 1 (if (i_1 < i) then [.p (.int .i64 (↑k : Int))] else [.p (.int .i64 (↑k : Int))])).2 ∧ (((cvtL false [(1, ⟨true, 3, 1, (fun i_2 => [.ar 1 165 0 (i + 1), .ar 1 3 0 0, .ar 1 4 0 0])⟩), (165, ⟨false, 1, (i + 1), (fun i_2 => (if (i_2 < i) then [.p (.int .i64 (↑k : Int))] else [.p (.int .i64 (↑k : Int))]))⟩), (133, ⟨false, 1, 1, (fun i_2 => [.p (.int .i64 (↑k : Int))])⟩), (0, ⟨true, 3, 1, (fun i_2 => [.p (.nil), .p (.nil), .p (.nil)])⟩), (3, ⟨false, 1, 0, (fun i_2 => [.p (.int .i64 0)])⟩), (4, ⟨false, 1, 0, (fun i_2 => [.p (.int .i64 0)])⟩)] [0, 1, 165, 3, 4] 1 (if (i_1 < i) then [.p (.int .i64 (↑k : Int))] else [.p (.int .i64 (↑k : Int))])).1 : List AV) = [.p (.int .i64 (↑k : Int))])))),
  (AN 1),
  ((0 : Nat) ≤ 0),
  (AA 0 (fun i_1 => [.p (.int .i64 0)])),
  (AN 1),
  ((0 : Nat) ≤ 0),
  (AA 0 (fun i_1 => [.p (.int .i64 0)]))]) := by kernel_rfl
theorem pY01 (g : Nat → T_Bar) (nb N k l i : Nat) :
    pieceOb Try.prog 0 [.reg [oT], .dec false, .reg [oT, oT, oT], .head] [.code (cAt (bodyOf Try.f140) [1, 1, 0, 1, 0, 0]), .inLoop (cAt (bodyOf Try.f140) [1, 1, 0, 1, 0, 0]), .inBlock 0, .code (cAt (bodyOf Try.f140) [1, 1, 1])] (SY0 g nb N k l i) [0, 1, 2, 3, 4] 1 (SY1 g nb N 0 k l 0 (fun _ => k) (fun _ => 0) (fun _ => 0)) =
    some ([.code (cAt (bodyOf Try.f140) [1, 1, 1, 0, 1, 0, 0]), .inLoop (cAt (bodyOf Try.f140) [1, 1, 1, 0, 1, 0, 0]), .inBlock 2, .code (cAt (bodyOf Try.f140) [1, 1, 1, 1])], [((decide ((↑i : Int) < (↑N : Int))) = false),
  (AI ((↑N : Int))),
  (AN nb),
  (AP nb (fun i_1 => [.int .i64 ((g i_1).1), .int .i64 ((g i_1).2.1)])),
  (AI ((↑k : Int))),
  (AI ((↑l : Int))),
  (AN 0),
  (AN 0),
  (AI ((↑nb : Int))),
  ((0 : Int) = (↑0 : Int)),
  (AN 3),
  ((1 : Nat) ≤ 1),
  ((1 : Nat) ≤ 1),
  (AN 3),
  ((1 : Nat) ≤ 1),
  ((1 : Nat) ≤ 1),
  (AN 0),
  ((i : Nat) = N),
  (AN 0),
  (AN 0),
  (AN 0),
  (AN 0),
  (AN 1),
  ((N : Nat) ≤ i),
  (AA N (fun i_1 => [.p (.int .i64 (↑k : Int))])),
  (AN 1),
  ((0 : Nat) ≤ 0),
  (AA 0 (fun i_1 => [.p (.int .i64 0)])),
  (AN 1),
  ((0 : Nat) ≤ 0),
  (AA 0 (fun i_1 => [.p (.int .i64 0)]))]) := by kernel_rfl
theorem pY1t (g : Nat → T_Bar) (nb N m k l e : Nat) (F T Q F1 T1 : Nat → Int) :
    pieceOb Try.prog 0 [.reg [oT], .dec true, .reg [oT, oT], .reg [oT, ⟨true, (some ⟨[], [], [], 1, pebR N m F T Q, pebO N m 0⟩), none⟩, oT, oT], .reg [oT, oT, oT, ⟨true, (some ⟨[165, 133, 134, 135], [], [], 1, pebH2 N (m + 1) F1 T1 (fun s => if s < m then Q s else e), .p (.bool true)⟩), none⟩], .dec true, .reg [oT, oT], .reg [oT, oT], .head] [.code (cAt (bodyOf Try.f140) [1, 1, 1, 0, 1, 0, 0]), .inLoop (cAt (bodyOf Try.f140) [1, 1, 1, 0, 1, 0, 0]), .inBlock 2, .code (cAt (bodyOf Try.f140) [1, 1, 1, 1])] (SY1 g nb N m k l e F T Q) [0, 1, 133, 325, 326] 1 (SY1 g nb N (m + 1) k l (e + 1) F1 T1 (fun s => if s < m then Q s else e)) =
    some ([.code (cAt (bodyOf Try.f140) [1, 1, 1, 0, 1, 0, 0]), .inLoop (cAt (bodyOf Try.f140) [1, 1, 1, 0, 1, 0, 0]), .inBlock 2, .code (cAt (bodyOf Try.f140) [1, 1, 1, 1])], [((decide ((↑e : Int) < (↑nb : Int))) = true),
  ((0 : Nat) < 1),
  (AN 1),
  ((N : Nat) ≤ N),
  (AN 1),
  ((m : Nat) ≤ m),
  (AN 1),
  ((m : Nat) ≤ m),
  Con Try.prog 158 0 [] [.agg [.p (.seq true 1 N (fun i => [.int .i64 (F i)])), .p (.seq true 1 m (fun i => [.int .i64 (T i)])), .p (.seq true 1 m (fun i => [.int .i64 (Q i)]))]] [(0, ⟨false, 1, N, (fun i => [.p (.int .i64 (F i))])⟩), (1, ⟨false, 1, m, (fun i => [.p (.int .i64 (T i))])⟩), (2, ⟨false, 1, m, (fun i => [.p (.int .i64 (Q i))])⟩)] (.agg [.ar 1 0 0 N, .ar 1 1 0 m, .ar 1 2 0 m]),
  ((0 : Nat) < 1),
  ((true = true) → (AN 1)),
  (AE 1),
  (AE N),
  (AE m),
  (AE m),
  Con Try.prog 159 4 [(0, ⟨true, 3, 1, (fun i => [.ar 1 1 0 N, .ar 1 2 0 m, .ar 1 3 0 m])⟩), (1, ⟨false, 1, N, (fun i => [.p (.int .i64 (F i))])⟩), (2, ⟨false, 1, m, (fun i => [.p (.int .i64 (T i))])⟩), (3, ⟨false, 1, m, (fun i => [.p (.int .i64 (Q i))])⟩)] [.p (.seq true 2 nb (fun i => [.int .i64 ((g i).1), .int .i64 ((g i).2.1)])), .p (.int .i64 (↑l : Int)), .pt 3 0 0 0, .p (.int .i64 (↑e : Int))] [(0, ⟨true, 3, 1, (fun i => [.ar 1 1 0 N, .ar 1 4 0 (m + 1), .ar 1 5 0 (m + 1)])⟩), (1, ⟨false, 1, N, (fun i => [.p (.int .i64 (F1 i))])⟩), (4, ⟨false, 1, (m + 1), (fun i => [.p (.int .i64 (T1 i))])⟩), (5, ⟨false, 1, (m + 1), (fun i => [.p (.int .i64 (if i < m then Q i else (↑e : Int)))])⟩)] (.p (.bool true)),
  (true = true),
  ((0 : Nat) < 1),
  ((0 : Nat) < 1),
  ((true = true) → (AN 1)),
  (((-9223372036854775808) : Int) ≤ ((↑e : Int) + 1)),
  ((((↑e : Int) + 1) : Int) ≤ 9223372036854775807),
  (AI ((↑N : Int))),
  (AN nb),
  (AP nb (fun i => [.int .i64 ((g i).1), .int .i64 ((g i).2.1)])),
  (AI ((↑k : Int))),
  (AI ((↑l : Int))),
  (AN 0),
  (AN 0),
  (AI ((↑nb : Int))),
  ((((↑e : Int) + 1) : Int) = (↑(e + 1) : Int)),
  (AN 3),
  ((1 : Nat) ≤ 1),
  ((1 : Nat) ≤ 1),
  (AN 3),
  ((1 : Nat) ≤ 1),
  ((1 : Nat) ≤ 1),
  (AN 0),
  (AN N),
  (AN 0),
  (AN ((m + 1))),
  (AN 0),
  (AN ((m + 1))),
  (AN 1),
  ((N : Nat) ≤ N),
  (AA N (fun i => [.p (.int .i64 (F1 i))])),
  (AN 1),
  (((m + 1) : Nat) ≤ (m + 1)),
  (AA ((m + 1)) (fun i => [.p (.int .i64 (T1 i))])),
  (AN 1),
  (((m + 1) : Nat) ≤ (m + 1)),
  (AA ((m + 1)) (fun i => [.p (.int .i64 (if i < m then Q i else (↑e : Int)))]))]) := by kernel_rfl
theorem pY1f (g : Nat → T_Bar) (nb N m k l e : Nat) (F T Q F1 T1 : Nat → Int) :
    pieceOb Try.prog 0 [.reg [oT], .dec true, .reg [oT, oT], .reg [oT, ⟨true, (some ⟨[], [], [], 1, pebR N m F T Q, pebO N m 0⟩), none⟩, oT, oT], .reg [oT, oT, oT, ⟨true, (some ⟨[165, 133, 134, 135], [], [], 1, pebH N m F1 T1 Q, .p (.bool false)⟩), none⟩], .dec false, .reg [oT, oT], .head] [.code (cAt (bodyOf Try.f140) [1, 1, 1, 0, 1, 0, 0]), .inLoop (cAt (bodyOf Try.f140) [1, 1, 1, 0, 1, 0, 0]), .inBlock 2, .code (cAt (bodyOf Try.f140) [1, 1, 1, 1])] (SY1 g nb N m k l e F T Q) [0, 1, 2, 3, 4] 1 (SY1 g nb N m k l (e + 1) F T Q) =
    some ([.code (cAt (bodyOf Try.f140) [1, 1, 1, 0, 1, 0, 0]), .inLoop (cAt (bodyOf Try.f140) [1, 1, 1, 0, 1, 0, 0]), .inBlock 2, .code (cAt (bodyOf Try.f140) [1, 1, 1, 1])], [((decide ((↑e : Int) < (↑nb : Int))) = true),
  ((0 : Nat) < 1),
  (AN 1),
  ((N : Nat) ≤ N),
  (AN 1),
  ((m : Nat) ≤ m),
  (AN 1),
  ((m : Nat) ≤ m),
  Con Try.prog 158 0 [] [.agg [.p (.seq true 1 N (fun i => [.int .i64 (F i)])), .p (.seq true 1 m (fun i => [.int .i64 (T i)])), .p (.seq true 1 m (fun i => [.int .i64 (Q i)]))]] [(0, ⟨false, 1, N, (fun i => [.p (.int .i64 (F i))])⟩), (1, ⟨false, 1, m, (fun i => [.p (.int .i64 (T i))])⟩), (2, ⟨false, 1, m, (fun i => [.p (.int .i64 (Q i))])⟩)] (.agg [.ar 1 0 0 N, .ar 1 1 0 m, .ar 1 2 0 m]),
  ((0 : Nat) < 1),
  ((true = true) → (AN 1)),
  (AE 1),
  (AE N),
  (AE m),
  (AE m),
  Con Try.prog 159 4 [(0, ⟨true, 3, 1, (fun i => [.ar 1 1 0 N, .ar 1 2 0 m, .ar 1 3 0 m])⟩), (1, ⟨false, 1, N, (fun i => [.p (.int .i64 (F i))])⟩), (2, ⟨false, 1, m, (fun i => [.p (.int .i64 (T i))])⟩), (3, ⟨false, 1, m, (fun i => [.p (.int .i64 (Q i))])⟩)] [.p (.seq true 2 nb (fun i => [.int .i64 ((g i).1), .int .i64 ((g i).2.1)])), .p (.int .i64 (↑l : Int)), .pt 3 0 0 0, .p (.int .i64 (↑e : Int))] [(0, ⟨true, 3, 1, (fun i => [.ar 1 1 0 N, .ar 1 2 0 m, .ar 1 3 0 m])⟩), (1, ⟨false, 1, N, (fun i => [.p (.int .i64 (F1 i))])⟩), (2, ⟨false, 1, m, (fun i => [.p (.int .i64 (T1 i))])⟩), (3, ⟨false, 1, m, (fun i => [.p (.int .i64 (Q i))])⟩)] (.p (.bool false)),
  (false = false),
  (((-9223372036854775808) : Int) ≤ ((↑e : Int) + 1)),
  ((((↑e : Int) + 1) : Int) ≤ 9223372036854775807),
  (AI ((↑N : Int))),
  (AN nb),
  (AP nb (fun i => [.int .i64 ((g i).1), .int .i64 ((g i).2.1)])),
  (AI ((↑k : Int))),
  (AI ((↑l : Int))),
  (AN 0),
  (AN 0),
  (AI ((↑nb : Int))),
  ((((↑e : Int) + 1) : Int) = (↑(e + 1) : Int)),
  (AN 3),
  ((1 : Nat) ≤ 1),
  ((1 : Nat) ≤ 1),
  (AN 3),
  ((1 : Nat) ≤ 1),
  ((1 : Nat) ≤ 1),
  (AN 0),
  (AN N),
  (AN 0),
  (AN m),
  (AN 0),
  (AN m),
  (AN 1),
  ((N : Nat) ≤ N),
  (AA N (fun i => [.p (.int .i64 (F i))])),
  (AN 1),
  ((m : Nat) ≤ m),
  (AA m (fun i => [.p (.int .i64 (T i))])),
  (AN 1),
  ((m : Nat) ≤ m),
  (AA m (fun i => [.p (.int .i64 (Q i))]))]) := by kernel_rfl
theorem pY2 (g : Nat → T_Bar) (nb N m k l e : Nat) (F T Q : Nat → Int) :
    pathOb Try.prog Try.f140 0 [.reg [oT], .dec false, .reg [oT, oT]] [.code (cAt (bodyOf Try.f140) [1, 1, 1, 0, 1, 0, 0]), .inLoop (cAt (bodyOf Try.f140) [1, 1, 1, 0, 1, 0, 0]), .inBlock 2, .code (cAt (bodyOf Try.f140) [1, 1, 1, 1])] (SY1 g nb N m k l e F T Q) [2, 3, 4] 1 (pebR N m F T Q) (pebO N m 0) =
    some [((decide ((↑e : Int) < (↑nb : Int))) = false),
  ((0 : Nat) < 1),
  ((0 : Nat) < 1),
  ((true = true) → (AN 1)),
  ((0 : Nat) < 1),
  (AN 0),
  (AN N),
  (AN 0),
  (AN m),
  (AN 0),
  (AN m),
  (AN 1),
  ((N : Nat) ≤ N),
  (AA N (fun i => [.p (.int .i64 (F i))])),
  (AN 1),
  ((m : Nat) ≤ m),
  (AA m (fun i => [.p (.int .i64 (T i))])),
  (AN 1),
  ((m : Nat) ≤ m),
  (AA m (fun i => [.p (.int .i64 (Q i))])),
  (AE N),
  (AE m),
  (AE m)] := by kernel_rfl
theorem con_copyInts (n : Nat) (F : Nat → Int) (hn : n ≤ 1048576) : Con Try.prog 84 0 [] [inD n F] [(0, iOb n F)] (.ar 1 0 0 n) := by
  refine con_start Try.func84 rfl (by kernel_rfl) rfl (fun c hc => ?_)
  refine path_ok mixed Try.func84 hc (pCi n F) ?_
  simp only [All]
  repeat' (first | exact trivial | with_reducible apply And.intro)
  all_goals (first | exact aG _ | exact aP _ _ | exact aA _ _ | exact aE _ | omega | rfl | (intros; first | assumption | exact True.intro | rfl | exact absurd (show false = true by assumption) Bool.false_ne_true | ((repeat' (first | assumption | apply anda | apply notf)); done)) | (intro i hi; simp [All, aEt]))
theorem con_copyPebbles (N m : Nat) (F T Q : Nat → Int) (hN : N ≤ 1048576) (hm : m ≤ 1048576) : Con Try.prog 158 0 [] [.agg [inD N F, inD m T, inD m Q]] (pebR N m F T Q) (pebO N m 0) := by
  refine con_start Try.func158 rfl (by kernel_rfl) rfl (fun c hc => ?_)
  refine path_ok mixed Try.func158 hc (pCp N m m F T Q) ?_
  simp only [All]
  repeat' (first | exact trivial | with_reducible apply And.intro)
  all_goals (first | exact aG _ | exact aP _ _ | exact aA _ _ | exact aE _ | omega | rfl | (intros; first | assumption | exact True.intro | rfl | exact absurd (show false = true by assumption) Bool.false_ne_true | ((repeat' (first | assumption | apply anda | apply notf)); done)) | (exact con_copyInts N F hN) | (exact con_copyInts m T hm) | (exact con_copyInts m Q hm) | (intro i hi; simp [All, aEt]))
open Classical in
noncomputable def accI (N k l : Nat) (g : Nat → T_Bar) : Nat → List Nat
  | 0 => []
  | e + 1 => if Mat.Sparse N k l ((accI N k l g e).map (fun i => brN (g i)) ++ [brN (g e)]) then accI N k l g e ++ [e] else accI N k l g e
theorem accI_sparse (N k l : Nat) (g : Nat → T_Bar) : ∀ e, Mat.Sparse N k l ((accI N k l g e).map (fun i => brN (g i)))
  | 0 => Mat.sparse_nil N k l
  | e + 1 => by
    simp only [accI]
    split
    · rename_i h; rw [List.map_append]; exact h
    · exact accI_sparse N k l g e
def qL (Q : Nat → Int) : Nat → List Nat
  | 0 => []
  | m + 1 => qL Q m ++ [(Q m).toNat]
theorem qL_length (Q : Nat → Int) : ∀ m, (qL Q m).length = m
  | 0 => rfl
  | m + 1 => by simp [qL, qL_length Q m]
theorem qL_congr {Q Q' : Nat → Int} : ∀ m, (∀ j, j < m → Q j = Q' j) → qL Q m = qL Q' m
  | 0, _ => rfl
  | m + 1, h => by simp only [qL]; rw [qL_congr m (fun j hj => h j (by omega)), h m (by omega)]
theorem plL_qL (g : Nat → T_Bar) (Q : Nat → Int) : ∀ m, plL g Q m = (qL Q m).map (fun i => brN (g i))
  | 0 => rfl
  | m + 1 => by simp only [plL, qL, plL_qL g Q m, List.map_append, List.map_cons, List.map_nil]
theorem accI_len (N k l : Nat) (g : Nat → T_Bar) : ∀ e, (accI N k l g e).length ≤ e
  | 0 => Nat.le_refl _
  | e + 1 => by
    have := accI_len N k l g e
    simp only [accI]
    split
    · simp; omega
    · omega
theorem PInv.start {N k nb : Nat} {g : Nat → T_Bar} (hb : ∀ e, e < nb → 0 ≤ (g e).1 ∧ (g e).1 < (g e).2.1 ∧ (g e).2.1 < N) : PInv N k nb 0 g (fun _ => (k : Int)) (fun _ => 0) (fun _ => 0) :=
  ⟨hb, fun j hj => absurd hj (Nat.not_lt_zero _), fun j hj => absurd hj (Nat.not_lt_zero _), fun v _ => by show (0 : Int) ≤ k; omega, fun v _ => by show (k : Int) + 0 = k; omega⟩
theorem con_play {N k l nb : Nat} {g : Nat → T_Bar} (hb : ∀ e, e < nb → 0 ≤ (g e).1 ∧ (g e).1 < (g e).2.1 ∧ (g e).2.1 < N) (hk : k ≤ 1048576) (hl : l ≤ 1048576) (hN : N ≤ 1048576) (hnb : nb ≤ 1048576) :
    ∃ m F T Q, Con Try.prog 140 0 [] [.p (.int .i64 N), brL g nb, .p (.int .i64 k), .p (.int .i64 l)] (pebR N m F T Q) (pebO N m 0) ∧ PInv N k nb m g F T Q ∧ qL Q m = accI N k l g nb := by
  have lp1 : ∀ d e m F T Q, e + d = nb → PInv N k nb m g F T Q → qL Q m = accI N k l g e →
      ∃ m' F' T' Q', (∀ c, c.n = 0 → Run Try.prog c 140 [.code (cAt (bodyOf Try.f140) [1, 1, 1, 0, 1, 0, 0]), .inLoop (cAt (bodyOf Try.f140) [1, 1, 1, 0, 1, 0, 0]), .inBlock 2, .code (cAt (bodyOf Try.f140) [1, 1, 1, 1])] (SY1 g nb N m k l e F T Q) (Post c (pebR N m' F' T' Q') (pebO N m' 0))) ∧ PInv N k nb m' g F' T' Q' ∧ qL Q' m' = accI N k l g nb := by
    intro d
    induction d with
    | zero =>
      intro e m F T Q he hp hq
      obtain rfl : e = nb := by omega
      refine ⟨m, F, T, Q, fun c hc => ?_, hp, hq⟩
      have hd : decide ((e : Int) < (e : Int)) = false := by simp
      refine path_ok mixed Try.func140 hc (pY2 g e N m k l e F T Q) ?_
      simp only [All]
      repeat' (first | exact trivial | with_reducible apply And.intro)
      all_goals (first | exact aG _ | exact aP _ _ | exact aA _ _ | exact aE _ | omega | rfl | (intros; first | assumption | exact True.intro | rfl | exact absurd (show false = true by assumption) Bool.false_ne_true | ((repeat' (first | assumption | apply anda | apply notf)); done)) | (intro i hi; simp [All, aEt]))
    | succ d ih =>
      intro e m F T Q he hp hq
      have hd : decide ((e : Int) < (nb : Int)) = true := by simp; omega
      have hm : m ≤ 1048576 := by
        have := accI_len N k l g e
        rw [← hq, qL_length] at this
        omega
      have hsp : Mat.Sparse N k l (plL g Q m) := by rw [plL_qL, hq]; exact accI_sparse N k l g e
      have hcc := con_copyPebbles N m F T Q hN hm
      rcases con_place hp hk hl hN hm hnb e (by omega) hsp with ⟨F1, T1, hc1, hp1, hs1⟩ | ⟨F1, T1, hc1, hs1⟩
      · obtain ⟨m', F', T', Q', hrun, h1, h2⟩ := ih (e + 1) (m + 1) F1 T1 _ (by omega) hp1 (by
          simp only [accI]
          rw [← hq, ← plL_qL, if_pos hs1]
          simp only [qL, Nat.lt_irrefl, if_false, Int.toNat_natCast]
          rw [qL_congr (Q' := Q) m (fun j hj => by simp only [hj, if_true])])
        refine ⟨m', F', T', Q', fun c hc => ?_, h1, h2⟩
        refine piece_ok mixed hc (pY1t g nb N m k l e F T Q F1 T1) ?_ (hrun c hc)
        simp only [All]
        repeat' (first | exact trivial | with_reducible apply And.intro)
        all_goals (first | exact aG _ | exact aP _ _ | exact aA _ _ | exact aE _ | omega | rfl | (intros; first | assumption | exact True.intro | rfl | exact absurd (show false = true by assumption) Bool.false_ne_true | ((repeat' (first | assumption | apply anda | apply notf)); done)) | (exact hcc) | (exact hc1) | (intro i hi; simp [All, aEt]))
      · obtain ⟨m', F', T', Q', hrun, h1, h2⟩ := ih (e + 1) m F T Q (by omega) hp (by
          simp only [accI]
          rw [← hq, ← plL_qL, if_neg hs1])
        refine ⟨m', F', T', Q', fun c hc => ?_, h1, h2⟩
        refine piece_ok mixed hc (pY1f g nb N m k l e F T Q F1 T1) ?_ (hrun c hc)
        simp only [All]
        repeat' (first | exact trivial | with_reducible apply And.intro)
        all_goals (first | exact aG _ | exact aP _ _ | exact aA _ _ | exact aE _ | omega | rfl | (intros; first | assumption | exact True.intro | rfl | exact absurd (show false = true by assumption) Bool.false_ne_true | ((repeat' (first | assumption | apply anda | apply notf)); done)) | (exact hcc) | (exact hc1) | (intro i hi; simp [All, aEt]))
  obtain ⟨m', F', T', Q', hrun, h1, h2⟩ := lp1 nb 0 0 _ _ _ (by omega) (PInv.start hb) rfl
  refine ⟨m', F', T', Q', ?_, h1, h2⟩
  refine con_start Try.func140 rfl (by kernel_rfl) rfl (fun c hc => ?_)
  have lp0 : ∀ d i, i + d = N → Run Try.prog c 140 [.code (cAt (bodyOf Try.f140) [1, 1, 0, 1, 0, 0]), .inLoop (cAt (bodyOf Try.f140) [1, 1, 0, 1, 0, 0]), .inBlock 0, .code (cAt (bodyOf Try.f140) [1, 1, 1])] (SY0 g nb N k l i) (Post c (pebR N m' F' T' Q') (pebO N m' 0)) := by
    intro d
    induction d with
    | zero =>
      intro i hi
      obtain rfl : i = N := by omega
      have hd : decide ((i : Int) < (i : Int)) = false := by simp
      refine piece_ok mixed hc (pY01 g nb i k l i) ?_ (hrun c hc)
      simp only [All]
      repeat' (first | exact trivial | with_reducible apply And.intro)
      all_goals (first | exact aG _ | exact aP _ _ | exact aA _ _ | exact aE _ | omega | rfl | (intros; first | assumption | exact True.intro | rfl | exact absurd (show false = true by assumption) Bool.false_ne_true | ((repeat' (first | assumption | apply anda | apply notf)); done)) | (intro i hi; simp [All, aEt]))
    | succ d ih =>
      intro i hi
      have hd : decide ((i : Int) < (N : Int)) = true := by simp; omega
      refine piece_ok mixed hc (pY0 g nb N k l i) ?_ (ih (i + 1) (by omega))
      simp only [All]
      repeat' (first | exact trivial | with_reducible apply And.intro)
      all_goals (first | exact aG _ | exact aP _ _ | exact aA _ _ | exact aE _ | omega | rfl | (intros; first | assumption | exact True.intro | rfl | exact absurd (show false = true by assumption) Bool.false_ne_true | ((repeat' (first | assumption | apply anda | apply notf)); done)) | (intro j hj; simp [All, aEt]; done) | (intro j hj; by_cases h : j < i <;> simp [h, cvtL, cvt, tg, tru, All]))
  refine piece_ok mixed hc (pYz g nb N k l) ?_ (lp0 N 0 (by omega))
  simp only [All]
  repeat' (first | exact trivial | with_reducible apply And.intro)
  all_goals (first | exact aG _ | exact aP _ _ | exact aA _ _ | exact aE _ | omega | rfl | (intros; first | assumption | exact True.intro | rfl | exact absurd (show false = true by assumption) Bool.false_ne_true | ((repeat' (first | assumption | apply anda | apply notf)); done)) | (intro i hi; simp [All, aEt]))
end Go.Proofs.Ytgdbnnmogddkaaa.Mach
namespace Go.Proofs.Ytgdbnnmogddkaaa.Mach
open Go
set_option linter.unusedVariables false
set_option linter.unusedSimpArgs false
def grG (g : Nat → T_Bar) (nb N : Nat) : AV := .agg [.p (.int .i64 N), brL g nb]
def bxG (g : Nat → T_Bar) (nb N : Nat) : Ob := ⟨true, 2, 1, fun _ => [.p (.int .i64 N), brL g nb]⟩
def bx0 : Ob := ⟨true, 3, 1, fun _ => [.p .nil, .p .nil, .p .nil]⟩
def bxP (N m j : Nat) : Ob := ⟨true, 3, 1, fun _ => [.ar 1 j 0 N, .ar 1 (j + 1) 0 m, .ar 1 (j + 2) 0 m]⟩
def bxD (N m : Nat) (F T Q : Nat → Int) : Ob := ⟨true, 3, 1, fun _ => [inD N F, inD m T, inD m Q]⟩
def pebD (N m : Nat) (F T Q : Nat → Int) : AV := .agg [inD N F, inD m T, inD m Q]
def bOb (n : Nat) (S : Nat → Bool) : Ob := ⟨false, 1, n, fun i => [.p (.bool (S i))]⟩
def SSc (g : Nat → T_Bar) (nb N m : Nat) (F T Q FR F1 T1 : Nat → Int) (a u : Int) : St :=
  ⟨[grG g nb N, pebD N m F T Q, inD N FR, .p (.int .i64 a), .p (.int .i64 u), .pt 2 0 0 0, .pt 3 1 0 0, .p .any, .p .any, .p .any, .pt 3 2 0 0, .pt 3 3 0 0] ++ List.replicate 51 anyA,
   [(0, bxG g nb N), (1, bxD N m F T Q), (2, bx0), (3, bxP N m 4), (4, iOb N F1), (5, iOb m T1), (6, iOb m Q)], 7⟩
def SSl (g : Nat → T_Bar) (nb N m : Nat) (F T Q FR F1 T1 : Nat → Int) (a u at' : Int) : St :=
  ⟨[grG g nb N, pebD N m F T Q, inD N FR, .p (.int .i64 a), .p (.int .i64 u), .pt 2 0 0 0, .pt 3 1 0 0, .p .any, .p .any, .p .any, .pt 3 2 0 0, .pt 3 3 0 0, .p (.int .i64 at')] ++ List.replicate 50 anyA,
   [(0, bxG g nb N), (1, bxD N m F T Q), (2, bx0), (3, bxP N m 4), (4, iOb N F1), (5, iOb m T1), (6, iOb m Q)], 7⟩
def SF0 (g : Nat → T_Bar) (nb N m : Nat) (F T Q : Nat → Int) (a b : Int) (i : Nat) : St :=
  ⟨[grG g nb N, pebO N m 0, .p (.int .i64 a), .p (.int .i64 b), .pt 2 3 0 0, .pt 3 4 0 0, .p .any, .p .any, .pt 3 5 0 0, .p .any, .ar 1 6 0 N, .p (.int .i64 i)] ++ List.replicate 94 anyA,
   [(0, iOb N F), (1, iOb m T), (2, iOb m Q), (3, bxG g nb N), (4, bxP N m 0), (5, bx0), (6, iOb N (fun s => if s < i then -1 else 0))], 7⟩
def SF1 (g : Nat → T_Bar) (nb N m : Nat) (F T Q td FR : Nat → Int) (SN : Nat → Bool) (a b : Int) (i tn : Nat) : St :=
  ⟨[grG g nb N, pebO N m 0, .p (.int .i64 a), .p (.int .i64 b), .pt 2 3 0 0, .pt 3 4 0 0, .p .any, .p .any, .pt 3 5 0 0, .p .any, .ar 1 6 0 N, .p .any, .ar 1 8 0 tn, .ar 1 7 0 N, .p (.int .i64 i)] ++ List.replicate 91 anyA,
   [(0, iOb N F), (1, iOb m T), (2, iOb m Q), (3, bxG g nb N), (4, bxP N m 0), (5, bx0), (6, iOb N FR), (7, bOb N SN), (8, iOb tn td)], 9⟩
def SF2 (g : Nat → T_Bar) (nb N m : Nat) (F T Q td FR : Nat → Int) (SN : Nat → Bool) (a b v : Int) (i j tn : Nat) : St :=
  ⟨[grG g nb N, pebO N m 0, .p (.int .i64 a), .p (.int .i64 b), .pt 2 3 0 0, .pt 3 4 0 0, .p .any, .p .any, .pt 3 5 0 0, .p .any, .ar 1 6 0 N, .p .any, .ar 1 8 0 tn, .ar 1 7 0 N, .p (.int .i64 i), .p (.int .i64 v), .p (.int .i64 j)] ++ List.replicate 89 anyA,
   [(0, iOb N F), (1, iOb m T), (2, iOb m Q), (3, bxG g nb N), (4, bxP N m 0), (5, bx0), (6, iOb N FR), (7, bOb N SN), (8, iOb tn td)], 9⟩
def SF3 (g : Nat → T_Bar) (nb N m : Nat) (F T Q FR : Nat → Int) (a b u : Int) : St :=
  ⟨[grG g nb N, pebO N m 0, .p (.int .i64 a), .p (.int .i64 b), .pt 2 3 0 0, .pt 3 4 0 0, .p .any, .p .any, .pt 3 5 0 0, .p .any, .ar 1 6 0 N, .p .any, .p .any, .p .any, .p .any, .p .any, .p .any, .p (.int .i64 u)] ++ List.replicate 88 anyA,
   [(0, iOb N F), (1, iOb m T), (2, iOb m Q), (3, bxG g nb N), (4, bxP N m 0), (5, bx0), (6, iOb N FR)], 7⟩
def pebR3 (N m : Nat) (F T Q F' T' Q' : Nat → Int) : Hp := [(0, iOb N F), (1, iOb m T), (2, iOb m Q), (3, iOb N F'), (4, iOb m T'), (5, iOb m Q')]
theorem qOt (x : T_Bar) (v : Int) :
    pathOb Try.prog Try.f168 0 [.reg [oT, oT], .reg [oT, oT, oT, oT, oT, oT, oT, oT]] [.code (bodyOf Try.f168)] (start Try.f168 [] 0 [brA x, .p (.int .i64 v)]) [] 1 [] (.p (.int .i64 (x.1 + x.2.1 - v))) =
    some [((0 : Nat) < 1),
  ((0 : Nat) < 1),
  (((-9223372036854775808) : Int) ≤ (x.1 + x.2.1)),
  (((x.1 + x.2.1) : Int) ≤ 9223372036854775807),
  (((-9223372036854775808) : Int) ≤ (x.1 + x.2.1 - v)),
  (((x.1 + x.2.1 - v) : Int) ≤ 9223372036854775807),
  (AI ((x.1 + x.2.1 - v)))] := by kernel_rfl
theorem qCp (N m : Nat) (F T Q : Nat → Int) :
    pathOb Try.prog Try.f156 0 [.reg [oT, oT], .reg [oT, oT, oT, oT, oT, oT, oT, oT, oT, oT, oT, oT, oT, oT]] [.code (bodyOf Try.f156)] (start Try.f156 [] 0 [pebD N m F T Q]) [160, 288, 416] 1 (pebR N m F T Q) (pebO N m 0) =
    some [((0 : Nat) < 1),
  ((0 : Nat) ≤ 0),
  ((((0 + N) * 8) : Nat) ≤ 140737488355328),
  (((0 + N) : Nat) ≤ 9223372036854775807),
  ((0 : Nat) < 1),
  ((0 : Nat) ≤ 0),
  ((((0 + m) * 8) : Nat) ≤ 140737488355328),
  (((0 + m) : Nat) ≤ 9223372036854775807),
  ((0 : Nat) < 1),
  ((0 : Nat) ≤ 0),
  ((((0 + m) * 8) : Nat) ≤ 140737488355328),
  (((0 + m) : Nat) ≤ 9223372036854775807),
  ((0 : Nat) < 1),
  ((true = true) → (AN 1)),
  ((0 : Nat) < 1),
  (AN 0),
  (((0 + N) : Nat) = N),
  (AN 0),
  (((0 + m) : Nat) = m),
  (AN 0),
  (((0 + m) : Nat) = m),
  (AN 1),
  ((N : Nat) ≤ (0 + N)),
  (AA N (fun i => [.p (.int .i64 (F i))])),
  (AN 1),
  ((m : Nat) ≤ (0 + m)),
  (AA m (fun i => [.p (.int .i64 (T i))])),
  (AN 1),
  ((m : Nat) ≤ (0 + m)),
  (AA m (fun i => [.p (.int .i64 (Q i))])),
  (AE N),
  (AE m),
  (AE m)] := by kernel_rfl
theorem qSz (g : Nat → T_Bar) (nb N m : Nat) (F T Q FR : Nat → Int) (a u : Int) :
    pieceOb Try.prog 0 [.reg [oT, oT, oT], .reg [oT, ⟨true, (some ⟨[], [], [], 1, pebR N m F T Q, pebO N m 0⟩), none⟩, oT, oT], .reg [oT, oT, oT, oT, oT, oT, oT, oT, oT, oT, oT], .head] [.code (bodyOf Try.f169)] (start Try.f169 [] 0 [grG g nb N, pebD N m F T Q, inD N FR, .p (.int .i64 a), .p (.int .i64 u)]) [0, 32, 64, 160, 128, 129, 130] 1 (SSc g nb N m F T Q FR (fun s => if s = u.toNat then F s - 1 else F s) T a u) =
    some ([.code (cAt (bodyOf Try.f169) [1, 1, 1, 0]), .code (cAt (bodyOf Try.f169) [1, 1, 1, 1])], [((0 : Nat) < 1),
  Con Try.prog 156 0 [] [.agg [.p (.seq true 1 N (fun i => [.int .i64 (F i)])), .p (.seq true 1 m (fun i => [.int .i64 (T i)])), .p (.seq true 1 m (fun i => [.int .i64 (Q i)]))]] [(0, ⟨false, 1, N, (fun i => [.p (.int .i64 (F i))])⟩), (1, ⟨false, 1, m, (fun i => [.p (.int .i64 (T i))])⟩), (2, ⟨false, 1, m, (fun i => [.p (.int .i64 (Q i))])⟩)] (.agg [.ar 1 0 0 N, .ar 1 1 0 m, .ar 1 2 0 m]),
  ((0 : Nat) < 1),
  ((true = true) → (AN 1)),
  ((0 : Nat) < 1),
  ((0 : Nat) < 1),
  ((0 : Int) ≤ u),
  ((u : Int) < (↑N : Int)),
  ((u.toNat : Nat) < N),
  (((-9223372036854775808) : Int) ≤ (F u.toNat - 1)),
  (((F u.toNat - 1) : Int) ≤ 9223372036854775807),
  ((0 : Int) ≤ u),
  ((u : Int) < (↑N : Int)),
  ((u.toNat : Nat) < N),
  ((false = true) → ((N : Nat) = 1)),
  (AI ((↑N : Int))),
  (AN nb),
  (AP nb (fun i => [.int .i64 ((g i).1), .int .i64 ((g i).2.1)])),
  (AN N),
  (AP N (fun i => [.int .i64 (F i)])),
  (AN m),
  (AP m (fun i => [.int .i64 (T i)])),
  (AN m),
  (AP m (fun i => [.int .i64 (Q i)])),
  (AN N),
  (AP N (fun i => [.int .i64 (FR i)])),
  (AI a),
  (AI u),
  (AN 0),
  (AN 0),
  (AN 0),
  (AN 0),
  ((([AV.p (PV.int IntKind.i64 (↑N : Int)), brL g nb].length) : Nat) = 2),
  ((1 : Nat) ≤ 1),
  ((1 : Nat) ≤ 1),
  (AI ((↑N : Int))),
  (AN nb),
  (AP nb (fun i => [.int .i64 ((g i).1), .int .i64 ((g i).2.1)])),
  ((([inD N F, inD m T, inD m Q].length) : Nat) = 3),
  ((1 : Nat) ≤ 1),
  ((1 : Nat) ≤ 1),
  (AN N),
  (AP N (fun i => [.int .i64 (F i)])),
  (AN m),
  (AP m (fun i => [.int .i64 (T i)])),
  (AN m),
  (AP m (fun i => [.int .i64 (Q i)])),
  ((((List.map (fun v => AV.p (absV v)) [Value.slice none 0 0, Value.slice none 0 0, Value.slice none 0 0]).length) : Nat) = 3),
  ((1 : Nat) ≤ 1),
  ((1 : Nat) ≤ 1),
  ((((List.map (fun v => AV.p (absV v)) [Value.slice none 0 0, Value.slice none 0 0, Value.slice none 0 0]).length) : Nat) = 3),
  ((1 : Nat) ≤ 1),
  ((1 : Nat) ≤ 1),
  (AN 0),
  (AN N),
  (AN 0),
  (AN m),
  (AN 0),
  (AN m),
  (AN 1),
  ((N : Nat) ≤ N),
  (∀ i : Nat, (((i : Nat) < N) → (All (cvtL false [(128, ⟨false, 1, N, (fun i_1 => (if (i_1 = u.toNat) then [.p (.int .i64 (F u.toNat - 1))] else [.p (.int .i64 (F i_1))]))⟩), (160, ⟨true, 3, 1, (fun i_1 => [.ar 1 128 0 N, .ar 1 129 0 m, .ar 1 130 0 m])⟩), (130, ⟨false, 1, m, (fun i_1 => [.p (.int .i64 (Q i_1))])⟩), (129, ⟨false, 1, m, (fun i_1 => [.p (.int .i64 (T i_1))])⟩), (64, ⟨true, 3, 1, (fun i_1 => [.p (.nil), .p (.nil), .p (.nil)])⟩), (32, ⟨true, 3, 1, (fun i_1 => [.p (.seq true 1 N (fun i_2 => [.int .i64 (F i_2)])), .p (.seq true 1 m (fun i_2 => [.int .i64 (T i_2)])), .p (.seq true 1 m (fun i_2 => [.int .i64 (Q i_2)]))])⟩), (0, ⟨true, 2, 1, (fun i_1 => [.p (.int .i64 (↑N : Int)), .p (.seq true 2 nb (fun i_2 => [.int .i64 ((g i_2).1), .int .i64 ((g i_2).2.1)]))])⟩)] [0, 32, 64, 160, 128, 129, 130] 1 (if (i = u.toNat) then [.p (.int .i64 (F u.toNat - 1))] else [.p (.int .i64 (F i))])).2 ∧ (((cvtL false [(128, ⟨false, 1, N, (fun i_1 => (if (i_1 = u.toNat) then [.p (.int .i64 (F u.toNat - 1))] else [.p (.int .i64 (F i_1))]))⟩), (160, ⟨true, 3, 1, (fun i_1 => [.ar 1 128 0 N, .ar 1 129 0 m, .ar 1 130 0 m])⟩), (130, ⟨false, 1, m, (fun i_1 => [.p (.int .i64 (Q i_1))])⟩), (129, ⟨false, 1, m, (fun i_1 => [.p (.int .i64 (T i_1))])⟩), (64, ⟨true, 3, 1, (fun i_1 => [.p (.nil), .p (.nil), .p (.nil)])⟩), (32, ⟨true, 3, 1, (fun i_1 => [.p (.seq true 1 N (fun i_2 => [.int .i64 (F i_2)])), .p (.seq true 1 m (fun i_2 => [.int .i64 (T i_2)])), .p (.seq true 1 m (fun i_2 => [.int .i64 (Q i_2)]))])⟩), (0, ⟨true, 2, 1, (fun i_1 => [.p (.int .i64 (↑N : Int)), .p (.seq true 2 nb (fun i_2 => [.int .i64 ((g i_2).1), .int .i64 ((g i_2).2.1)]))])⟩)] [0, 32, 64, 160, 128, 129, 130] 1 (if (i = u.toNat) then [.p (.int .i64 (F u.toNat - 1))] else [.p (.int .i64 (F i))])).1 : List AV) = [.p (.int .i64 (if i = u.toNat then F i - 1 else F i))])))),
  (AN 1),
  ((m : Nat) ≤ m),
  (AA m (fun i => [.p (.int .i64 (T i))])),
  (AN 1),
  ((m : Nat) ≤ m),
  (AA m (fun i => [.p (.int .i64 (Q i))]))]) := by kernel_rfl
theorem qSa (g : Nat → T_Bar) (nb N m : Nat) (F T Q FR F1 T1 : Nat → Int) (a u : Int) :
    pieceOb Try.prog 0 [.reg [oT, oT, oT, oT, oT, oT, oT, oT, oT, oT, oT], .reg [oT, oT], .head] [.code (cAt (bodyOf Try.f169) [1, 1, 1, 0]), .code (cAt (bodyOf Try.f169) [1, 1, 1, 1])] (SSc g nb N m F T Q FR F1 T1 a u) [0, 1, 2, 3, 4, 5, 6] 1 (SSl g nb N m F T Q FR (fun s => if s = a.toNat then F1 s + 1 else F1 s) T1 a u u) =
    some ([.code (cAt (bodyOf Try.f169) [1, 1, 1, 1, 1, 0, 0, 0]), .inLoop (cAt (bodyOf Try.f169) [1, 1, 1, 1, 1, 0, 0, 0]), .inBlock 0, .code (cAt (bodyOf Try.f169) [1, 1, 1, 1, 1, 1])], [((0 : Nat) < 1),
  ((0 : Nat) < 1),
  ((0 : Int) ≤ a),
  ((a : Int) < (↑N : Int)),
  ((a.toNat : Nat) < N),
  (((-9223372036854775808) : Int) ≤ (F1 a.toNat + 1)),
  (((F1 a.toNat + 1) : Int) ≤ 9223372036854775807),
  ((0 : Int) ≤ a),
  ((a : Int) < (↑N : Int)),
  ((a.toNat : Nat) < N),
  ((false = true) → ((N : Nat) = 1)),
  (AI ((↑N : Int))),
  (AN nb),
  (AP nb (fun i => [.int .i64 ((g i).1), .int .i64 ((g i).2.1)])),
  (AN N),
  (AP N (fun i => [.int .i64 (F i)])),
  (AN m),
  (AP m (fun i => [.int .i64 (T i)])),
  (AN m),
  (AP m (fun i => [.int .i64 (Q i)])),
  (AN N),
  (AP N (fun i => [.int .i64 (FR i)])),
  (AI a),
  (AI u),
  (AN 0),
  (AN 0),
  (AN 0),
  (AN 0),
  (AI u),
  (AN 2),
  ((1 : Nat) ≤ 1),
  ((1 : Nat) ≤ 1),
  (AI ((↑N : Int))),
  (AN nb),
  (AP nb (fun i => [.int .i64 ((g i).1), .int .i64 ((g i).2.1)])),
  (AN 3),
  ((1 : Nat) ≤ 1),
  ((1 : Nat) ≤ 1),
  (AN N),
  (AP N (fun i => [.int .i64 (F i)])),
  (AN m),
  (AP m (fun i => [.int .i64 (T i)])),
  (AN m),
  (AP m (fun i => [.int .i64 (Q i)])),
  (AN 3),
  ((1 : Nat) ≤ 1),
  ((1 : Nat) ≤ 1),
  (AN 3),
  ((1 : Nat) ≤ 1),
  ((1 : Nat) ≤ 1),
  (AN 0),
  (AN N),
  (AN 0),
  (AN m),
  (AN 0),
  (AN m),
  (AN 1),
  ((N : Nat) ≤ N),
  (∀ i : Nat, (((i : Nat) < N) → (All (cvtL false [(4, ⟨false, 1, N, (fun i_1 => (if (i_1 = a.toNat) then [.p (.int .i64 (F1 a.toNat + 1))] else [.p (.int .i64 (F1 i_1))]))⟩), (0, ⟨true, 2, 1, (fun i_1 => [.p (.int .i64 (↑N : Int)), .p (.seq true 2 nb (fun i_2 => [.int .i64 ((g i_2).1), .int .i64 ((g i_2).2.1)]))])⟩), (1, ⟨true, 3, 1, (fun i_1 => [.p (.seq true 1 N (fun i_2 => [.int .i64 (F i_2)])), .p (.seq true 1 m (fun i_2 => [.int .i64 (T i_2)])), .p (.seq true 1 m (fun i_2 => [.int .i64 (Q i_2)]))])⟩), (2, ⟨true, 3, 1, (fun i_1 => [.p (.nil), .p (.nil), .p (.nil)])⟩), (3, ⟨true, 3, 1, (fun i_1 => [.ar 1 4 0 N, .ar 1 5 0 m, .ar 1 6 0 m])⟩), (5, ⟨false, 1, m, (fun i_1 => [.p (.int .i64 (T1 i_1))])⟩), (6, ⟨false, 1, m, (fun i_1 => [.p (.int .i64 (Q i_1))])⟩)] [0, 1, 2, 3, 4, 5, 6] 1 (if (i = a.toNat) then [.p (.int .i64 (F1 a.toNat + 1))] else [.p (.int .i64 (F1 i))])).2 ∧ (((cvtL false [(4, ⟨false, 1, N, (fun i_1 => (if (i_1 = a.toNat) then [.p (.int .i64 (F1 a.toNat + 1))] else [.p (.int .i64 (F1 i_1))]))⟩), (0, ⟨true, 2, 1, (fun i_1 => [.p (.int .i64 (↑N : Int)), .p (.seq true 2 nb (fun i_2 => [.int .i64 ((g i_2).1), .int .i64 ((g i_2).2.1)]))])⟩), (1, ⟨true, 3, 1, (fun i_1 => [.p (.seq true 1 N (fun i_2 => [.int .i64 (F i_2)])), .p (.seq true 1 m (fun i_2 => [.int .i64 (T i_2)])), .p (.seq true 1 m (fun i_2 => [.int .i64 (Q i_2)]))])⟩), (2, ⟨true, 3, 1, (fun i_1 => [.p (.nil), .p (.nil), .p (.nil)])⟩), (3, ⟨true, 3, 1, (fun i_1 => [.ar 1 4 0 N, .ar 1 5 0 m, .ar 1 6 0 m])⟩), (5, ⟨false, 1, m, (fun i_1 => [.p (.int .i64 (T1 i_1))])⟩), (6, ⟨false, 1, m, (fun i_1 => [.p (.int .i64 (Q i_1))])⟩)] [0, 1, 2, 3, 4, 5, 6] 1 (if (i = a.toNat) then [.p (.int .i64 (F1 a.toNat + 1))] else [.p (.int .i64 (F1 i))])).1 : List AV) = [.p (.int .i64 (if i = a.toNat then F1 i + 1 else F1 i))])))),
  (AN 1),
  ((m : Nat) ≤ m),
  (AA m (fun i => [.p (.int .i64 (T1 i))])),
  (AN 1),
  ((m : Nat) ≤ m),
  (AA m (fun i => [.p (.int .i64 (Q i))]))]) := by kernel_rfl
theorem qSl (g : Nat → T_Bar) (nb N m : Nat) (F T Q FR F1 T1 : Nat → Int) (a u at' w : Int) :
    pieceOb Try.prog 0 [.reg [oT, oT, oT], .dec true, .reg [oT, oT, oT, oT, oT], .reg [oT, oT, oT, oT, oT, oT, oT, oT, oT, oT, ⟨true, (some ⟨[], [], [], 1, [], .p (.int .i64 w)⟩), none⟩, oT], .reg [oT, oT, oT, oT, oT, oT], .reg [oT, oT], .head] [.code (cAt (bodyOf Try.f169) [1, 1, 1, 1, 1, 0, 0, 0]), .inLoop (cAt (bodyOf Try.f169) [1, 1, 1, 1, 1, 0, 0, 0]), .inBlock 0, .code (cAt (bodyOf Try.f169) [1, 1, 1, 1, 1, 1])] (SSl g nb N m F T Q FR F1 T1 a u at') [0, 1, 2, 3, 4, 5, 6] 1 (SSl g nb N m F T Q FR F1 (fun s => if s = (FR at'.toNat).toNat then at' else T1 s) a u w) =
    some ([.code (cAt (bodyOf Try.f169) [1, 1, 1, 1, 1, 0, 0, 0]), .inLoop (cAt (bodyOf Try.f169) [1, 1, 1, 1, 1, 0, 0, 0]), .inBlock 0, .code (cAt (bodyOf Try.f169) [1, 1, 1, 1, 1, 1])], [((at' != a) = true),
  ((0 : Int) ≤ at'),
  ((at' : Int) < (↑N : Int)),
  ((0 : Nat) < 1),
  ((0 : Nat) < 1),
  ((0 : Int) ≤ (FR at'.toNat)),
  (((FR at'.toNat) : Int) < (↑m : Int)),
  ((0 : Int) ≤ (Q (FR at'.toNat).toNat)),
  (((Q (FR at'.toNat).toNat) : Int) < (↑nb : Int)),
  Con Try.prog 168 0 [] [.agg [.p (.int .i64 ((g (Q (FR at'.toNat).toNat).toNat).1)), .p (.int .i64 ((g (Q (FR at'.toNat).toNat).toNat).2.1))], .p (.int .i64 at')] [] (.p (.int .i64 w)),
  ((0 : Nat) < 1),
  ((0 : Int) ≤ (FR at'.toNat)),
  (((FR at'.toNat) : Int) < (↑m : Int)),
  ((((FR at'.toNat).toNat) : Nat) < m),
  ((false = true) → ((m : Nat) = 1)),
  (AI ((↑N : Int))),
  (AN nb),
  (AP nb (fun i => [.int .i64 ((g i).1), .int .i64 ((g i).2.1)])),
  (AN N),
  (AP N (fun i => [.int .i64 (F i)])),
  (AN m),
  (AP m (fun i => [.int .i64 (T i)])),
  (AN m),
  (AP m (fun i => [.int .i64 (Q i)])),
  (AN N),
  (AP N (fun i => [.int .i64 (FR i)])),
  (AI a),
  (AI u),
  (AN 0),
  (AN 0),
  (AN 0),
  (AN 0),
  (AI w),
  (AN 2),
  ((1 : Nat) ≤ 1),
  ((1 : Nat) ≤ 1),
  (AI ((↑N : Int))),
  (AN nb),
  (AP nb (fun i => [.int .i64 ((g i).1), .int .i64 ((g i).2.1)])),
  (AN 3),
  ((1 : Nat) ≤ 1),
  ((1 : Nat) ≤ 1),
  (AN N),
  (AP N (fun i => [.int .i64 (F i)])),
  (AN m),
  (AP m (fun i => [.int .i64 (T i)])),
  (AN m),
  (AP m (fun i => [.int .i64 (Q i)])),
  (AN 3),
  ((1 : Nat) ≤ 1),
  ((1 : Nat) ≤ 1),
  (AN 3),
  ((1 : Nat) ≤ 1),
  ((1 : Nat) ≤ 1),
  (AN 0),
  (AN N),
  (AN 0),
  (AN m),
  (AN 0),
  (AN m),
  (AN 1),
  ((N : Nat) ≤ N),
  (AA N (fun i => [.p (.int .i64 (F1 i))])),
  (AN 1),
  ((m : Nat) ≤ m),
  (∀ i : Nat, (((i : Nat) < m) → (All (cvtL false [(5, ⟨false, 1, m, (fun i_1 => (if (i_1 = (FR at'.toNat).toNat) then [.p (.int .i64 at')] else [.p (.int .i64 (T1 i_1))]))⟩), (0, ⟨true, 2, 1, (fun i_1 => [.p (.int .i64 (↑N : Int)), .p (.seq true 2 nb (fun i_2 => [.int .i64 ((g i_2).1), .int .i64 ((g i_2).2.1)]))])⟩), (1, ⟨true, 3, 1, (fun i_1 => [.p (.seq true 1 N (fun i_2 => [.int .i64 (F i_2)])), .p (.seq true 1 m (fun i_2 => [.int .i64 (T i_2)])), .p (.seq true 1 m (fun i_2 => [.int .i64 (Q i_2)]))])⟩), (2, ⟨true, 3, 1, (fun i_1 => [.p (.nil), .p (.nil), .p (.nil)])⟩), (3, ⟨true, 3, 1, (fun i_1 => [.ar 1 4 0 N, .ar 1 5 0 m, .ar 1 6 0 m])⟩), (4, ⟨false, 1, N, (fun i_1 => [.p (.int .i64 (F1 i_1))])⟩), (6, ⟨false, 1, m, (fun i_1 => [.p (.int .i64 (Q i_1))])⟩)] [0, 1, 2, 3, 4, 5, 6] 1 (if (i = (FR at'.toNat).toNat) then [.p (.int .i64 at')] else [.p (.int .i64 (T1 i))])).2 ∧ (((cvtL false [(5, ⟨false, 1, m, (fun i_1 => (if (i_1 = (FR at'.toNat).toNat) then [.p (.int .i64 at')] else [.p (.int .i64 (T1 i_1))]))⟩), (0, ⟨true, 2, 1, (fun i_1 => [.p (.int .i64 (↑N : Int)), .p (.seq true 2 nb (fun i_2 => [.int .i64 ((g i_2).1), .int .i64 ((g i_2).2.1)]))])⟩), (1, ⟨true, 3, 1, (fun i_1 => [.p (.seq true 1 N (fun i_2 => [.int .i64 (F i_2)])), .p (.seq true 1 m (fun i_2 => [.int .i64 (T i_2)])), .p (.seq true 1 m (fun i_2 => [.int .i64 (Q i_2)]))])⟩), (2, ⟨true, 3, 1, (fun i_1 => [.p (.nil), .p (.nil), .p (.nil)])⟩), (3, ⟨true, 3, 1, (fun i_1 => [.ar 1 4 0 N, .ar 1 5 0 m, .ar 1 6 0 m])⟩), (4, ⟨false, 1, N, (fun i_1 => [.p (.int .i64 (F1 i_1))])⟩), (6, ⟨false, 1, m, (fun i_1 => [.p (.int .i64 (Q i_1))])⟩)] [0, 1, 2, 3, 4, 5, 6] 1 (if (i = (FR at'.toNat).toNat) then [.p (.int .i64 at')] else [.p (.int .i64 (T1 i))])).1 : List AV) = [.p (.int .i64 (if i = (FR at'.toNat).toNat then at' else T1 i))])))),
  (AN 1),
  ((m : Nat) ≤ m),
  (AA m (fun i => [.p (.int .i64 (Q i))]))]) := by kernel_rfl
theorem qSe (g : Nat → T_Bar) (nb N m : Nat) (F T Q FR F1 T1 : Nat → Int) (a u at' : Int) :
    pathOb Try.prog Try.f169 0 [.reg [oT, oT, oT], .dec false, .reg [oT, oT]] [.code (cAt (bodyOf Try.f169) [1, 1, 1, 1, 1, 0, 0, 0]), .inLoop (cAt (bodyOf Try.f169) [1, 1, 1, 1, 1, 0, 0, 0]), .inBlock 0, .code (cAt (bodyOf Try.f169) [1, 1, 1, 1, 1, 1])] (SSl g nb N m F T Q FR F1 T1 a u at') [4, 5, 6] 1 (pebR N m F1 T1 Q) (pebO N m 0) =
    some [((at' != a) = false),
  ((0 : Nat) < 1),
  ((0 : Nat) < 1),
  ((true = true) → (AN 1)),
  ((0 : Nat) < 1),
  (AN 0),
  (AN N),
  (AN 0),
  (AN m),
  (AN 0),
  (AN m),
  (AN 1),
  ((N : Nat) ≤ N),
  (AA N (fun i => [.p (.int .i64 (F1 i))])),
  (AN 1),
  ((m : Nat) ≤ m),
  (AA m (fun i => [.p (.int .i64 (T1 i))])),
  (AN 1),
  ((m : Nat) ≤ m),
  (AA m (fun i => [.p (.int .i64 (Q i))])),
  (AE N),
  (AE m),
  (AE m)] := by kernel_rfl
theorem qFz (g : Nat → T_Bar) (nb N m : Nat) (F T Q : Nat → Int) (a b : Int) :
    pieceOb Try.prog 3 [.reg [oT, oT, oT, oT], .reg [oT, oT, oT, oT], .reg [oT], .head] [.code (bodyOf Try.f157)] (start Try.f157 (pebR N m F T Q) 3 [grG g nb N, pebO N m 0, .p (.int .i64 a), .p (.int .i64 b)]) [0, 1, 2, 3, 35, 67, 195] 1 (SF0 g nb N m F T Q a b 0) =
    some ([.code (cAt (bodyOf Try.f157) [1, 1, 0, 1, 0, 0]), .inLoop (cAt (bodyOf Try.f157) [1, 1, 0, 1, 0, 0]), .inBlock 0, .code (cAt (bodyOf Try.f157) [1, 1, 1])], [((0 : Nat) < 1),
  ((0 : Int) ≤ (↑N : Int)),
  (((↑N : Int) : Int) ≤ (↑N : Int)),
  ((((↑N : Int) * (↑8 : Int)) : Int) ≤ 281474976710656),
  (((↑N : Int) : Int) ≤ 9223372036854775807),
  (AI ((↑N : Int))),
  (AN nb),
  (AP nb (fun i => [.int .i64 ((g i).1), .int .i64 ((g i).2.1)])),
  (AN 0),
  (AN N),
  (AN 0),
  (AN m),
  (AN 0),
  (AN m),
  (AI a),
  (AI b),
  (AN 0),
  (AN 0),
  (AN 0),
  (AN 0),
  (AN N),
  ((0 : Int) = (↑0 : Int)),
  (AN 1),
  ((N : Nat) ≤ N),
  (AA N (fun i => [.p (.int .i64 (F i))])),
  (AN 1),
  ((m : Nat) ≤ m),
  (AA m (fun i => [.p (.int .i64 (T i))])),
  (AN 1),
  ((m : Nat) ≤ m),
  (AA m (fun i => [.p (.int .i64 (Q i))])),
  ((([AV.p (PV.int IntKind.i64 (↑N : Int)), brL g nb].length) : Nat) = 2),
  ((1 : Nat) ≤ 1),
  ((1 : Nat) ≤ 1),
  (AI ((↑N : Int))),
  (AN nb),
  (AP nb (fun i => [.int .i64 ((g i).1), .int .i64 ((g i).2.1)])),
  ((([AV.ar 1 0 0 N, AV.ar 1 1 0 m, AV.ar 1 2 0 m].length) : Nat) = 3),
  ((1 : Nat) ≤ 1),
  ((1 : Nat) ≤ 1),
  (AN 0),
  (AN N),
  (AN 0),
  (AN m),
  (AN 0),
  (AN m),
  ((((List.map (fun v => AV.p (absV v)) [Value.slice none 0 0, Value.slice none 0 0, Value.slice none 0 0]).length) : Nat) = 3),
  ((1 : Nat) ≤ 1),
  ((1 : Nat) ≤ 1),
  (AN 1),
  ((N : Nat) ≤ N),
  (∀ i : Nat, (((i : Nat) < N) → (All [] ∧ (([.p (.int .i64 0)] : List AV) = [.p (.int .i64 (if i < 0 then -1 else 0))]))))]) := by kernel_rfl
theorem qF0 (g : Nat → T_Bar) (nb N m : Nat) (F T Q : Nat → Int) (a b : Int) (i : Nat) :
    pieceOb Try.prog 3 [.reg [oT, oT, oT, oT], .dec true, .reg [oT, oT, oT, oT], .reg [oT, oT, oT], .head] [.code (cAt (bodyOf Try.f157) [1, 1, 0, 1, 0, 0]), .inLoop (cAt (bodyOf Try.f157) [1, 1, 0, 1, 0, 0]), .inBlock 0, .code (cAt (bodyOf Try.f157) [1, 1, 1])] (SF0 g nb N m F T Q a b i) [0, 1, 2, 3, 4, 5, 6] 1 (SF0 g nb N m F T Q a b (i + 1)) =
    some ([.code (cAt (bodyOf Try.f157) [1, 1, 0, 1, 0, 0]), .inLoop (cAt (bodyOf Try.f157) [1, 1, 0, 1, 0, 0]), .inBlock 0, .code (cAt (bodyOf Try.f157) [1, 1, 1])], [((0 : Nat) < 1),
  ((decide ((↑i : Int) < (↑N : Int))) = true),
  ((0 : Int) ≤ (↑i : Int)),
  (((↑i : Int) : Int) < (↑N : Int)),
  ((i : Nat) < N),
  ((false = true) → ((N : Nat) = 1)),
  (((-9223372036854775808) : Int) ≤ ((↑i : Int) + 1)),
  ((((↑i : Int) + 1) : Int) ≤ 9223372036854775807),
  (AI ((↑N : Int))),
  (AN nb),
  (AP nb (fun i_1 => [.int .i64 ((g i_1).1), .int .i64 ((g i_1).2.1)])),
  (AN 0),
  (AN N),
  (AN 0),
  (AN m),
  (AN 0),
  (AN m),
  (AI a),
  (AI b),
  (AN 0),
  (AN 0),
  (AN 0),
  (AN 0),
  (AN N),
  ((((↑i : Int) + 1) : Int) = (↑(i + 1) : Int)),
  (AN 1),
  ((N : Nat) ≤ N),
  (AA N (fun i_1 => [.p (.int .i64 (F i_1))])),
  (AN 1),
  ((m : Nat) ≤ m),
  (AA m (fun i_1 => [.p (.int .i64 (T i_1))])),
  (AN 1),
  ((m : Nat) ≤ m),
  (AA m (fun i_1 => [.p (.int .i64 (Q i_1))])),
  (AN 2),
  ((1 : Nat) ≤ 1),
  ((1 : Nat) ≤ 1),
  (AI ((↑N : Int))),
  (AN nb),
  (AP nb (fun i_1 => [.int .i64 ((g i_1).1), .int .i64 ((g i_1).2.1)])),
  (AN 3),
  ((1 : Nat) ≤ 1),
  ((1 : Nat) ≤ 1),
  (AN 0),
  (AN N),
  (AN 0),
  (AN m),
  (AN 0),
  (AN m),
  (AN 3),
  ((1 : Nat) ≤ 1),
  ((1 : Nat) ≤ 1),
  (AN 1),
  ((N : Nat) ≤ N),
  (∀ i_1 : Nat, (((i_1 : Nat) < N) → (All (cvtL false [(6, ⟨false, 1, N, (fun i_2 => (if (i_2 = i) then [.p (.int .i64 (-1))] else [.p (.int .i64 (if i_2 < i then -1 else 0))]))⟩), (0, ⟨false, 1, N, (fun i_2 => [.p (.int .i64 (F i_2))])⟩), (1, ⟨false, 1, m, (fun i_2 => [.p (.int .i64 (T i_2))])⟩), (2, ⟨false, 1, m, (fun i_2 => [.p (.int .i64 (Q i_2))])⟩), (3, ⟨true, 2, 1, (fun i_2 => [.p (.int .i64 (↑N : Int)), .p (.seq true 2 nb (fun i_3 => [.int .i64 ((g i_3).1), .int .i64 ((g i_3).2.1)]))])⟩), (4, ⟨true, 3, 1, (fun i_2 => [.ar 1 0 0 N, .ar 1 1 0 m, .ar 1 2 0 m])⟩), (5, ⟨true, 3, 1, (fun i_2 => [.p (.nil), .p (.nil), .p (.nil)])⟩)] [0, 1, 2, 3, 4, 5, 6] 1 (if (i_1 = i) then [.p (.int .i64 (-1))] else [.p (.int .i64 (if i_1 < i then -1 else 0))])).2 ∧ (((cvtL false [(6, ⟨false, 1, N, (fun i_2 => (if (i_2 = i) then [.p (.int .i64 (-1))] else [.p (.int .i64 (if i_2 < i then -1 else 0))]))⟩), (0, ⟨false, 1, N, (fun i_2 => [.p (.int .i64 (F i_2))])⟩), (1, ⟨false, 1, m, (fun i_2 => [.p (.int .i64 (T i_2))])⟩), (2, ⟨false, 1, m, (fun i_2 => [.p (.int .i64 (Q i_2))])⟩), (3, ⟨true, 2, 1, (fun i_2 => [.p (.int .i64 (↑N : Int)), .p (.seq true 2 nb (fun i_3 => [.int .i64 ((g i_3).1), .int .i64 ((g i_3).2.1)]))])⟩), (4, ⟨true, 3, 1, (fun i_2 => [.ar 1 0 0 N, .ar 1 1 0 m, .ar 1 2 0 m])⟩), (5, ⟨true, 3, 1, (fun i_2 => [.p (.nil), .p (.nil), .p (.nil)])⟩)] [0, 1, 2, 3, 4, 5, 6] 1 (if (i_1 = i) then [.p (.int .i64 (-1))] else [.p (.int .i64 (if i_1 < i then -1 else 0))])).1 : List AV) = [.p (.int .i64 (if i_1 < i + 1 then -1 else 0))]))))]) := by kernel_rfl
theorem qF01 (g : Nat → T_Bar) (nb N m : Nat) (F T Q : Nat → Int) (a b : Int) (i : Nat) :
    pieceOb Try.prog 3 [.reg [oT, oT, oT, oT], .dec false, .reg [oT, oT, oT], .reg [oT, oT, oT, oT], .reg [oT, oT, oT, oT], .reg [oT], .head] [.code (cAt (bodyOf Try.f157) [1, 1, 0, 1, 0, 0]), .inLoop (cAt (bodyOf Try.f157) [1, 1, 0, 1, 0, 0]), .inBlock 0, .code (cAt (bodyOf Try.f157) [1, 1, 1])] (SF0 g nb N m F T Q a b i) [0, 1, 2, 3, 4, 5, 6, 295, 167] 1 (SF1 g nb N m F T Q (fun _ => a) (fun _ => -1) (fun s => if s = a.toNat then true else false) a b 0 1) =
    some ([.code (cAt (bodyOf Try.f157) [1, 1, 1, 1, 1, 1, 0, 1, 0, 0]), .inLoop (cAt (bodyOf Try.f157) [1, 1, 1, 1, 1, 1, 0, 1, 0, 0]), .inBlock 2, .code (cAt (bodyOf Try.f157) [1, 1, 1, 1, 1, 1, 1])], [((0 : Nat) < 1),
  ((decide ((↑i : Int) < (↑N : Int))) = false),
  ((0 : Nat) < 1),
  ((0 : Int) ≤ (↑N : Int)),
  (((↑N : Int) : Int) ≤ (↑N : Int)),
  ((((↑N : Int) * (↑1 : Int)) : Int) ≤ 281474976710656),
  (((↑N : Int) : Int) ≤ 9223372036854775807),
  ((0 : Int) ≤ a),
  ((a : Int) < (↑N : Int)),
  ((a.toNat : Nat) < N),
  ((false = true) → ((N : Nat) = 1)),
  (AI ((↑N : Int))),
  (AN nb),
  (AP nb (fun i_1 => [.int .i64 ((g i_1).1), .int .i64 ((g i_1).2.1)])),
  (AN 0),
  (AN N),
  (AN 0),
  (AN m),
  (AN 0),
  (AN m),
  (AI a),
  (AI b),
  (AN 0),
  (AN 0),
  (AN 0),
  (AN 0),
  (AN N),
  (AN 0),
  (AN 1),
  (AN 0),
  (AN N),
  ((0 : Int) = (↑0 : Int)),
  (AN 1),
  ((N : Nat) ≤ N),
  (AA N (fun i_1 => [.p (.int .i64 (F i_1))])),
  (AN 1),
  ((m : Nat) ≤ m),
  (AA m (fun i_1 => [.p (.int .i64 (T i_1))])),
  (AN 1),
  ((m : Nat) ≤ m),
  (AA m (fun i_1 => [.p (.int .i64 (Q i_1))])),
  (AN 2),
  ((1 : Nat) ≤ 1),
  ((1 : Nat) ≤ 1),
  (AI ((↑N : Int))),
  (AN nb),
  (AP nb (fun i_1 => [.int .i64 ((g i_1).1), .int .i64 ((g i_1).2.1)])),
  (AN 3),
  ((1 : Nat) ≤ 1),
  ((1 : Nat) ≤ 1),
  (AN 0),
  (AN N),
  (AN 0),
  (AN m),
  (AN 0),
  (AN m),
  (AN 3),
  ((1 : Nat) ≤ 1),
  ((1 : Nat) ≤ 1),
  (AN 1),
  ((N : Nat) ≤ N),
  (∀ i_1 : Nat, (((i_1 : Nat) < N) → (All [] ∧ (([.p (.int .i64 (if i_1 < i then -1 else 0))] : List AV) = [.p (.int .i64 (-1))])))),
  (AN 1),
  ((N : Nat) ≤ N),
  (∀ i_1 : Nat, (((i_1 : Nat) < N) → (All (cvtL false [(295, ⟨false, 1, N, (fun i_2 => (if (i_2 = a.toNat) then [.p (.bool true)] else [.p (.bool false)]))⟩), (167, ⟨false, 1, 1, (fun i_2 => [.p (.int .i64 a)])⟩), (0, ⟨false, 1, N, (fun i_2 => [.p (.int .i64 (F i_2))])⟩), (1, ⟨false, 1, m, (fun i_2 => [.p (.int .i64 (T i_2))])⟩), (2, ⟨false, 1, m, (fun i_2 => [.p (.int .i64 (Q i_2))])⟩), (3, ⟨true, 2, 1, (fun i_2 => [.p (.int .i64 (↑N : Int)), .p (.seq true 2 nb (fun i_3 => [.int .i64 ((g i_3).1), .int .i64 ((g i_3).2.1)]))])⟩), (4, ⟨true, 3, 1, (fun i_2 => [.ar 1 0 0 N, .ar 1 1 0 m, .ar 1 2 0 m])⟩), (5, ⟨true, 3, 1, (fun i_2 => [.p (.nil), .p (.nil), .p (.nil)])⟩), (6, ⟨false, 1, N, (fun i_2 => [.p (.int .i64 (if i_2 < i then -1 else 0))])⟩)] [0, 1, 2, 3, 4, 5, 6, 295, 167] 1 (if (i_1 = a.toNat) then [.p (.bool true)] else [.p (.bool false)])).2 ∧ (((cvtL false [(295, ⟨false, 1, N, (fun i_2 => (if (i_2 = a.toNat) then [.p (.bool true)] else [.p (.bool false)]))⟩), (167, ⟨false, 1, 1, (fun i_2 => [.p (.int .i64 a)])⟩), (0, ⟨false, 1, N, (fun i_2 => [.p (.int .i64 (F i_2))])⟩), (1, ⟨false, 1, m, (fun i_2 => [.p (.int .i64 (T i_2))])⟩), (2, ⟨false, 1, m, (fun i_2 => [.p (.int .i64 (Q i_2))])⟩), (3, ⟨true, 2, 1, (fun i_2 => [.p (.int .i64 (↑N : Int)), .p (.seq true 2 nb (fun i_3 => [.int .i64 ((g i_3).1), .int .i64 ((g i_3).2.1)]))])⟩), (4, ⟨true, 3, 1, (fun i_2 => [.ar 1 0 0 N, .ar 1 1 0 m, .ar 1 2 0 m])⟩), (5, ⟨true, 3, 1, (fun i_2 => [.p (.nil), .p (.nil), .p (.nil)])⟩), (6, ⟨false, 1, N, (fun i_2 => [.p (.int .i64 (if i_2 < i then -1 else 0))])⟩)] [0, 1, 2, 3, 4, 5, 6, 295, 167] 1 (if (i_1 = a.toNat) then [.p (.bool true)] else [.p (.bool false)])).1 : List AV) = [.p (.bool (if i_1 = a.toNat then true else false))])))),
  (AN 1),
  ((1 : Nat) ≤ 1),
  (AA 1 (fun i_1 => [.p (.int .i64 a)]))]) := by kernel_rfl
theorem qF1 (g : Nat → T_Bar) (nb N m : Nat) (F T Q td FR : Nat → Int) (SN : Nat → Bool) (a b : Int) (i tn : Nat) :
    pieceOb Try.prog 3 [.reg [oT, oT, oT, oT], .dec true, .reg [oT, oT, oT, oT, oT], .reg [oT], .head] [.code (cAt (bodyOf Try.f157) [1, 1, 1, 1, 1, 1, 0, 1, 0, 0]), .inLoop (cAt (bodyOf Try.f157) [1, 1, 1, 1, 1, 1, 0, 1, 0, 0]), .inBlock 2, .code (cAt (bodyOf Try.f157) [1, 1, 1, 1, 1, 1, 1])] (SF1 g nb N m F T Q td FR SN a b i tn) [0, 1, 2, 3, 4, 5, 6, 7, 8] 1 (SF2 g nb N m F T Q td FR SN a b (td i) i 0 tn) =
    some ([.code (cAt (bodyOf Try.f157) [1, 1, 1, 1, 1, 1, 0, 1, 0, 0, 1, 0, 0, 1, 1, 0, 0]), .inLoop (cAt (bodyOf Try.f157) [1, 1, 1, 1, 1, 1, 0, 1, 0, 0, 1, 0, 0, 1, 1, 0, 0]), .inBlock 4, .inBlock 3, .code (cAt (bodyOf Try.f157) [1, 1, 1, 1, 1, 1, 0, 1, 0, 0, 1, 1]), .inLoop (cAt (bodyOf Try.f157) [1, 1, 1, 1, 1, 1, 0, 1, 0, 0]), .inBlock 2, .code (cAt (bodyOf Try.f157) [1, 1, 1, 1, 1, 1, 1])], [((decide ((↑i : Int) < (↑tn : Int))) = true),
  ((0 : Int) ≤ (↑i : Int)),
  (((↑i : Int) : Int) < (↑tn : Int)),
  ((i : Nat) < tn),
  (AI ((↑N : Int))),
  (AN nb),
  (AP nb (fun i_1 => [.int .i64 ((g i_1).1), .int .i64 ((g i_1).2.1)])),
  (AN 0),
  (AN N),
  (AN 0),
  (AN m),
  (AN 0),
  (AN m),
  (AI a),
  (AI b),
  (AN 0),
  (AN 0),
  (AN 0),
  (AN 0),
  (AN N),
  (AN 0),
  (AN tn),
  (AN 0),
  (AN N),
  (AI ((↑i : Int))),
  (AI ((td i))),
  ((0 : Int) = (↑0 : Int)),
  (AN 1),
  ((N : Nat) ≤ N),
  (AA N (fun i_1 => [.p (.int .i64 (F i_1))])),
  (AN 1),
  ((m : Nat) ≤ m),
  (AA m (fun i_1 => [.p (.int .i64 (T i_1))])),
  (AN 1),
  ((m : Nat) ≤ m),
  (AA m (fun i_1 => [.p (.int .i64 (Q i_1))])),
  (AN 2),
  ((1 : Nat) ≤ 1),
  ((1 : Nat) ≤ 1),
  (AI ((↑N : Int))),
  (AN nb),
  (AP nb (fun i_1 => [.int .i64 ((g i_1).1), .int .i64 ((g i_1).2.1)])),
  (AN 3),
  ((1 : Nat) ≤ 1),
  ((1 : Nat) ≤ 1),
  (AN 0),
  (AN N),
  (AN 0),
  (AN m),
  (AN 0),
  (AN m),
  (AN 3),
  ((1 : Nat) ≤ 1),
  ((1 : Nat) ≤ 1),
  (AN 1),
  ((N : Nat) ≤ N),
  (AA N (fun i_1 => [.p (.int .i64 (FR i_1))])),
  (AN 1),
  ((N : Nat) ≤ N),
  (AA N (fun i_1 => [.p (.bool (SN i_1))])),
  (AN 1),
  ((tn : Nat) ≤ tn),
  (AA tn (fun i_1 => [.p (.int .i64 (td i_1))]))]) := by kernel_rfl
theorem qF1e (g : Nat → T_Bar) (nb N m : Nat) (F T Q td FR : Nat → Int) (SN : Nat → Bool) (a b : Int) (i tn : Nat) :
    pathOb Try.prog Try.f157 3 [.reg [oT, oT, oT, oT], .dec false, .reg [oT, oT, oT]] [.code (cAt (bodyOf Try.f157) [1, 1, 1, 1, 1, 1, 0, 1, 0, 0]), .inLoop (cAt (bodyOf Try.f157) [1, 1, 1, 1, 1, 1, 0, 1, 0, 0]), .inBlock 2, .code (cAt (bodyOf Try.f157) [1, 1, 1, 1, 1, 1, 1])] (SF1 g nb N m F T Q td FR SN a b i tn) [0, 1, 2] 1 (pebR N m F T Q) (.tup [pebO N m 0, .p (.bool false)]) =
    some [((decide ((↑i : Int) < (↑tn : Int))) = false),
  ((0 : Nat) < 1),
  ((0 : Nat) < 1),
  ((true = true) → (AN 1)),
  ((0 : Nat) < 1),
  (AN 0),
  (AN N),
  (AN 0),
  (AN m),
  (AN 0),
  (AN m),
  (false = false),
  (AN 1),
  ((N : Nat) ≤ N),
  (AA N (fun i_1 => [.p (.int .i64 (F i_1))])),
  (AN 1),
  ((m : Nat) ≤ m),
  (AA m (fun i_1 => [.p (.int .i64 (T i_1))])),
  (AN 1),
  ((m : Nat) ≤ m),
  (AA m (fun i_1 => [.p (.int .i64 (Q i_1))])),
  (AE N),
  (AE m),
  (AE m)] := by kernel_rfl
theorem qF2e (g : Nat → T_Bar) (nb N m : Nat) (F T Q td FR : Nat → Int) (SN : Nat → Bool) (a b v : Int) (i j tn : Nat) :
    pieceOb Try.prog 3 [.reg [oT, oT, oT, oT, oT], .dec false, .reg [oT, oT, oT], .head] [.code (cAt (bodyOf Try.f157) [1, 1, 1, 1, 1, 1, 0, 1, 0, 0, 1, 0, 0, 1, 1, 0, 0]), .inLoop (cAt (bodyOf Try.f157) [1, 1, 1, 1, 1, 1, 0, 1, 0, 0, 1, 0, 0, 1, 1, 0, 0]), .inBlock 4, .inBlock 3, .code (cAt (bodyOf Try.f157) [1, 1, 1, 1, 1, 1, 0, 1, 0, 0, 1, 1]), .inLoop (cAt (bodyOf Try.f157) [1, 1, 1, 1, 1, 1, 0, 1, 0, 0]), .inBlock 2, .code (cAt (bodyOf Try.f157) [1, 1, 1, 1, 1, 1, 1])] (SF2 g nb N m F T Q td FR SN a b v i j tn) [0, 1, 2, 3, 4, 5, 6, 7, 8] 1 (SF1 g nb N m F T Q td FR SN a b (i + 1) tn) =
    some ([.code (cAt (bodyOf Try.f157) [1, 1, 1, 1, 1, 1, 0, 1, 0, 0]), .inLoop (cAt (bodyOf Try.f157) [1, 1, 1, 1, 1, 1, 0, 1, 0, 0]), .inBlock 2, .code (cAt (bodyOf Try.f157) [1, 1, 1, 1, 1, 1, 1])], [((0 : Nat) < 1),
  ((decide ((↑j : Int) < (↑m : Int))) = false),
  (((-9223372036854775808) : Int) ≤ ((↑i : Int) + 1)),
  ((((↑i : Int) + 1) : Int) ≤ 9223372036854775807),
  (AI ((↑N : Int))),
  (AN nb),
  (AP nb (fun i_1 => [.int .i64 ((g i_1).1), .int .i64 ((g i_1).2.1)])),
  (AN 0),
  (AN N),
  (AN 0),
  (AN m),
  (AN 0),
  (AN m),
  (AI a),
  (AI b),
  (AN 0),
  (AN 0),
  (AN 0),
  (AN 0),
  (AN N),
  (AN 0),
  (AN tn),
  (AN 0),
  (AN N),
  ((((↑i : Int) + 1) : Int) = (↑(i + 1) : Int)),
  (AN 1),
  ((N : Nat) ≤ N),
  (AA N (fun i_1 => [.p (.int .i64 (F i_1))])),
  (AN 1),
  ((m : Nat) ≤ m),
  (AA m (fun i_1 => [.p (.int .i64 (T i_1))])),
  (AN 1),
  ((m : Nat) ≤ m),
  (AA m (fun i_1 => [.p (.int .i64 (Q i_1))])),
  (AN 2),
  ((1 : Nat) ≤ 1),
  ((1 : Nat) ≤ 1),
  (AI ((↑N : Int))),
  (AN nb),
  (AP nb (fun i_1 => [.int .i64 ((g i_1).1), .int .i64 ((g i_1).2.1)])),
  (AN 3),
  ((1 : Nat) ≤ 1),
  ((1 : Nat) ≤ 1),
  (AN 0),
  (AN N),
  (AN 0),
  (AN m),
  (AN 0),
  (AN m),
  (AN 3),
  ((1 : Nat) ≤ 1),
  ((1 : Nat) ≤ 1),
  (AN 1),
  ((N : Nat) ≤ N),
  (AA N (fun i_1 => [.p (.int .i64 (FR i_1))])),
  (AN 1),
  ((N : Nat) ≤ N),
  (AA N (fun i_1 => [.p (.bool (SN i_1))])),
  (AN 1),
  ((tn : Nat) ≤ tn),
  (AA tn (fun i_1 => [.p (.int .i64 (td i_1))]))]) := by kernel_rfl
theorem qF2a (g : Nat → T_Bar) (nb N m : Nat) (F T Q td FR : Nat → Int) (SN : Nat → Bool) (a b v : Int) (i j tn : Nat) :
    pieceOb Try.prog 3 [.reg [oT, oT, oT, oT, oT], .dec true, .reg [oT, oT, oT, oT, oT, oT, oT], .dec true, .reg [oT, oT, oT], .head] [.code (cAt (bodyOf Try.f157) [1, 1, 1, 1, 1, 1, 0, 1, 0, 0, 1, 0, 0, 1, 1, 0, 0]), .inLoop (cAt (bodyOf Try.f157) [1, 1, 1, 1, 1, 1, 0, 1, 0, 0, 1, 0, 0, 1, 1, 0, 0]), .inBlock 4, .inBlock 3, .code (cAt (bodyOf Try.f157) [1, 1, 1, 1, 1, 1, 0, 1, 0, 0, 1, 1]), .inLoop (cAt (bodyOf Try.f157) [1, 1, 1, 1, 1, 1, 0, 1, 0, 0]), .inBlock 2, .code (cAt (bodyOf Try.f157) [1, 1, 1, 1, 1, 1, 1])] (SF2 g nb N m F T Q td FR SN a b v i j tn) [0, 1, 2, 3, 4, 5, 6, 7, 8] 1 (SF2 g nb N m F T Q td FR SN a b v i (j + 1) tn) =
    some ([.code (cAt (bodyOf Try.f157) [1, 1, 1, 1, 1, 1, 0, 1, 0, 0, 1, 0, 0, 1, 1, 0, 0]), .inLoop (cAt (bodyOf Try.f157) [1, 1, 1, 1, 1, 1, 0, 1, 0, 0, 1, 0, 0, 1, 1, 0, 0]), .inBlock 4, .inBlock 3, .code (cAt (bodyOf Try.f157) [1, 1, 1, 1, 1, 1, 0, 1, 0, 0, 1, 1]), .inLoop (cAt (bodyOf Try.f157) [1, 1, 1, 1, 1, 1, 0, 1, 0, 0]), .inBlock 2, .code (cAt (bodyOf Try.f157) [1, 1, 1, 1, 1, 1, 1])], [((0 : Nat) < 1),
  ((decide ((↑j : Int) < (↑m : Int))) = true),
  ((0 : Nat) < 1),
  ((0 : Int) ≤ (↑j : Int)),
  (((↑j : Int) : Int) < (↑m : Int)),
  ((j : Nat) < m),
  ((T j != v) = true),
  (((-9223372036854775808) : Int) ≤ ((↑j : Int) + 1)),
  ((((↑j : Int) + 1) : Int) ≤ 9223372036854775807),
  (AI ((↑N : Int))),
  (AN nb),
  (AP nb (fun i_1 => [.int .i64 ((g i_1).1), .int .i64 ((g i_1).2.1)])),
  (AN 0),
  (AN N),
  (AN 0),
  (AN m),
  (AN 0),
  (AN m),
  (AI a),
  (AI b),
  (AN 0),
  (AN 0),
  (AN 0),
  (AN 0),
  (AN N),
  (AN 0),
  (AN tn),
  (AN 0),
  (AN N),
  (AI ((↑i : Int))),
  (AI v),
  ((((↑j : Int) + 1) : Int) = (↑(j + 1) : Int)),
  (AN 1),
  ((N : Nat) ≤ N),
  (AA N (fun i_1 => [.p (.int .i64 (F i_1))])),
  (AN 1),
  ((m : Nat) ≤ m),
  (AA m (fun i_1 => [.p (.int .i64 (T i_1))])),
  (AN 1),
  ((m : Nat) ≤ m),
  (AA m (fun i_1 => [.p (.int .i64 (Q i_1))])),
  (AN 2),
  ((1 : Nat) ≤ 1),
  ((1 : Nat) ≤ 1),
  (AI ((↑N : Int))),
  (AN nb),
  (AP nb (fun i_1 => [.int .i64 ((g i_1).1), .int .i64 ((g i_1).2.1)])),
  (AN 3),
  ((1 : Nat) ≤ 1),
  ((1 : Nat) ≤ 1),
  (AN 0),
  (AN N),
  (AN 0),
  (AN m),
  (AN 0),
  (AN m),
  (AN 3),
  ((1 : Nat) ≤ 1),
  ((1 : Nat) ≤ 1),
  (AN 1),
  ((N : Nat) ≤ N),
  (AA N (fun i_1 => [.p (.int .i64 (FR i_1))])),
  (AN 1),
  ((N : Nat) ≤ N),
  (AA N (fun i_1 => [.p (.bool (SN i_1))])),
  (AN 1),
  ((tn : Nat) ≤ tn),
  (AA tn (fun i_1 => [.p (.int .i64 (td i_1))]))]) := by kernel_rfl
theorem qF2b (g : Nat → T_Bar) (nb N m : Nat) (F T Q td FR : Nat → Int) (SN : Nat → Bool) (a b v u : Int) (i j tn : Nat) :
    pieceOb Try.prog 3 [.reg [oT, oT, oT, oT, oT], .dec true, .reg [oT, oT, oT, oT, oT, oT, oT], .dec false, .reg [oT, oT, oT, oT, oT, oT, oT, oT, oT, oT, ⟨true, (some ⟨[], [], [], 1, [], .p (.int .i64 u)⟩), none⟩, oT], .reg [oT, oT, oT, oT], .dec true, .reg [oT, oT, oT], .head] [.code (cAt (bodyOf Try.f157) [1, 1, 1, 1, 1, 1, 0, 1, 0, 0, 1, 0, 0, 1, 1, 0, 0]), .inLoop (cAt (bodyOf Try.f157) [1, 1, 1, 1, 1, 1, 0, 1, 0, 0, 1, 0, 0, 1, 1, 0, 0]), .inBlock 4, .inBlock 3, .code (cAt (bodyOf Try.f157) [1, 1, 1, 1, 1, 1, 0, 1, 0, 0, 1, 1]), .inLoop (cAt (bodyOf Try.f157) [1, 1, 1, 1, 1, 1, 0, 1, 0, 0]), .inBlock 2, .code (cAt (bodyOf Try.f157) [1, 1, 1, 1, 1, 1, 1])] (SF2 g nb N m F T Q td FR SN a b v i j tn) [0, 1, 2, 3, 4, 5, 6, 7, 8] 1 (SF2 g nb N m F T Q td FR SN a b v i (j + 1) tn) =
    some ([.code (cAt (bodyOf Try.f157) [1, 1, 1, 1, 1, 1, 0, 1, 0, 0, 1, 0, 0, 1, 1, 0, 0]), .inLoop (cAt (bodyOf Try.f157) [1, 1, 1, 1, 1, 1, 0, 1, 0, 0, 1, 0, 0, 1, 1, 0, 0]), .inBlock 4, .inBlock 3, .code (cAt (bodyOf Try.f157) [1, 1, 1, 1, 1, 1, 0, 1, 0, 0, 1, 1]), .inLoop (cAt (bodyOf Try.f157) [1, 1, 1, 1, 1, 1, 0, 1, 0, 0]), .inBlock 2, .code (cAt (bodyOf Try.f157) [1, 1, 1, 1, 1, 1, 1])], [((0 : Nat) < 1),
  ((decide ((↑j : Int) < (↑m : Int))) = true),
  ((0 : Nat) < 1),
  ((0 : Int) ≤ (↑j : Int)),
  (((↑j : Int) : Int) < (↑m : Int)),
  ((j : Nat) < m),
  ((T j != v) = false),
  ((0 : Nat) < 1),
  ((0 : Nat) < 1),
  ((0 : Int) ≤ (↑j : Int)),
  (((↑j : Int) : Int) < (↑m : Int)),
  ((j : Nat) < m),
  ((0 : Int) ≤ (Q j)),
  (((Q j) : Int) < (↑nb : Int)),
  Con Try.prog 168 0 [] [.agg [.p (.int .i64 ((g (Q j).toNat).1)), .p (.int .i64 ((g (Q j).toNat).2.1))], .p (.int .i64 v)] [] (.p (.int .i64 u)),
  ((0 : Int) ≤ u),
  ((u : Int) < (↑N : Int)),
  ((u.toNat : Nat) < N),
  ((SN u.toNat) = true),
  (((-9223372036854775808) : Int) ≤ ((↑j : Int) + 1)),
  ((((↑j : Int) + 1) : Int) ≤ 9223372036854775807),
  (AI ((↑N : Int))),
  (AN nb),
  (AP nb (fun i_1 => [.int .i64 ((g i_1).1), .int .i64 ((g i_1).2.1)])),
  (AN 0),
  (AN N),
  (AN 0),
  (AN m),
  (AN 0),
  (AN m),
  (AI a),
  (AI b),
  (AN 0),
  (AN 0),
  (AN 0),
  (AN 0),
  (AN N),
  (AN 0),
  (AN tn),
  (AN 0),
  (AN N),
  (AI ((↑i : Int))),
  (AI v),
  ((((↑j : Int) + 1) : Int) = (↑(j + 1) : Int)),
  (AN 1),
  ((N : Nat) ≤ N),
  (AA N (fun i_1 => [.p (.int .i64 (F i_1))])),
  (AN 1),
  ((m : Nat) ≤ m),
  (AA m (fun i_1 => [.p (.int .i64 (T i_1))])),
  (AN 1),
  ((m : Nat) ≤ m),
  (AA m (fun i_1 => [.p (.int .i64 (Q i_1))])),
  (AN 2),
  ((1 : Nat) ≤ 1),
  ((1 : Nat) ≤ 1),
  (AI ((↑N : Int))),
  (AN nb),
  (AP nb (fun i_1 => [.int .i64 ((g i_1).1), .int .i64 ((g i_1).2.1)])),
  (AN 3),
  ((1 : Nat) ≤ 1),
  ((1 : Nat) ≤ 1),
  (AN 0),
  (AN N),
  (AN 0),
  (AN m),
  (AN 0),
  (AN m),
  (AN 3),
  ((1 : Nat) ≤ 1),
  ((1 : Nat) ≤ 1),
  (AN 1),
  ((N : Nat) ≤ N),
  (AA N (fun i_1 => [.p (.int .i64 (FR i_1))])),
  (AN 1),
  ((N : Nat) ≤ N),
  (AA N (fun i_1 => [.p (.bool (SN i_1))])),
  (AN 1),
  ((tn : Nat) ≤ tn),
  (AA tn (fun i_1 => [.p (.int .i64 (td i_1))]))]) := by kernel_rfl
theorem qF2c (g : Nat → T_Bar) (nb N m : Nat) (F T Q td FR : Nat → Int) (SN : Nat → Bool) (a b v u : Int) (i j tn : Nat) :
    pieceOb Try.prog 3 [.reg [oT, oT, oT, oT, oT], .dec true, .reg [oT, oT, oT, oT, oT, oT, oT], .dec false, .reg [oT, oT, oT, oT, oT, oT, oT, oT, oT, oT, ⟨true, (some ⟨[], [], [], 1, [], .p (.int .i64 u)⟩), none⟩, oT], .reg [oT, oT, oT, oT], .dec false, .reg [oT, oT, oT, oT], .reg [oT, oT, oT, oT, oT], .reg [oT, oT, oT, oT, oT, oT, oT, oT, oT, oT, oT], .dec false, .reg [oT, oT, oT, oT, oT], .reg [oT, oT, oT], .head] [.code (cAt (bodyOf Try.f157) [1, 1, 1, 1, 1, 1, 0, 1, 0, 0, 1, 0, 0, 1, 1, 0, 0]), .inLoop (cAt (bodyOf Try.f157) [1, 1, 1, 1, 1, 1, 0, 1, 0, 0, 1, 0, 0, 1, 1, 0, 0]), .inBlock 4, .inBlock 3, .code (cAt (bodyOf Try.f157) [1, 1, 1, 1, 1, 1, 0, 1, 0, 0, 1, 1]), .inLoop (cAt (bodyOf Try.f157) [1, 1, 1, 1, 1, 1, 0, 1, 0, 0]), .inBlock 2, .code (cAt (bodyOf Try.f157) [1, 1, 1, 1, 1, 1, 1])] (SF2 g nb N m F T Q td FR SN a b v i j tn) [0, 1, 2, 3, 4, 5, 6, 7, 1641] 1 (SF2 g nb N m F T Q (fun s => if s < tn then td s else u) (fun s => if s = u.toNat then j else FR s) (fun s => if s = u.toNat then true else SN s) a b v i (j + 1) (tn + 1)) =
    some ([.code (cAt (bodyOf Try.f157) [1, 1, 1, 1, 1, 1, 0, 1, 0, 0, 1, 0, 0, 1, 1, 0, 0]), .inLoop (cAt (bodyOf Try.f157) [1, 1, 1, 1, 1, 1, 0, 1, 0, 0, 1, 0, 0, 1, 1, 0, 0]), .inBlock 4, .inBlock 3, .code (cAt (bodyOf Try.f157) [1, 1, 1, 1, 1, 1, 0, 1, 0, 0, 1, 1]), .inLoop (cAt (bodyOf Try.f157) [1, 1, 1, 1, 1, 1, 0, 1, 0, 0]), .inBlock 2, .code (cAt (bodyOf Try.f157) [1, 1, 1, 1, 1, 1, 1])], [((0 : Nat) < 1),
  ((decide ((↑j : Int) < (↑m : Int))) = true),
  ((0 : Nat) < 1),
  ((0 : Int) ≤ (↑j : Int)),
  (((↑j : Int) : Int) < (↑m : Int)),
  ((j : Nat) < m),
  ((T j != v) = false),
  ((0 : Nat) < 1),
  ((0 : Nat) < 1),
  ((0 : Int) ≤ (↑j : Int)),
  (((↑j : Int) : Int) < (↑m : Int)),
  ((j : Nat) < m),
  ((0 : Int) ≤ (Q j)),
  (((Q j) : Int) < (↑nb : Int)),
  Con Try.prog 168 0 [] [.agg [.p (.int .i64 ((g (Q j).toNat).1)), .p (.int .i64 ((g (Q j).toNat).2.1))], .p (.int .i64 v)] [] (.p (.int .i64 u)),
  ((0 : Int) ≤ u),
  ((u : Int) < (↑N : Int)),
  ((u.toNat : Nat) < N),
  ((SN u.toNat) = false),
  ((0 : Int) ≤ u),
  ((u : Int) < (↑N : Int)),
  ((u.toNat : Nat) < N),
  ((false = true) → ((N : Nat) = 1)),
  ((0 : Int) ≤ u),
  ((u : Int) < (↑N : Int)),
  ((u.toNat : Nat) < N),
  ((false = true) → ((N : Nat) = 1)),
  (AG (u != b)),
  (((u != b) = true) → ((0 : Nat) < 1)),
  (AG (u != b)),
  (AG (u != b)),
  (((u != b) = true) → ((0 : Int) ≤ u)),
  (((u != b) = true) → ((u : Int) < (↑N : Int))),
  (AG (u != b)),
  (((u != b) = true) → ((u.toNat : Nat) < N)),
  (AG (u != b)),
  (AG (u != b)),
  ((bif u != b then decide (F (u.toNat + 0) > 0) else false) = false),
  ((1 : Nat) ≤ 1),
  ((tn : Nat) ≤ tn),
  ((((tn + 1) * 8) : Nat) ≤ 140737488355328),
  (((tn + 1) : Nat) ≤ 9223372036854775807),
  (((-9223372036854775808) : Int) ≤ ((↑j : Int) + 1)),
  ((((↑j : Int) + 1) : Int) ≤ 9223372036854775807),
  (AI ((↑N : Int))),
  (AN nb),
  (AP nb (fun i_1 => [.int .i64 ((g i_1).1), .int .i64 ((g i_1).2.1)])),
  (AN 0),
  (AN N),
  (AN 0),
  (AN m),
  (AN 0),
  (AN m),
  (AI a),
  (AI b),
  (AN 0),
  (AN 0),
  (AN 0),
  (AN 0),
  (AN N),
  (AN 0),
  (AN ((tn + 1))),
  (AN 0),
  (AN N),
  (AI ((↑i : Int))),
  (AI v),
  ((((↑j : Int) + 1) : Int) = (↑(j + 1) : Int)),
  (AN 1),
  ((N : Nat) ≤ N),
  (AA N (fun i_1 => [.p (.int .i64 (F i_1))])),
  (AN 1),
  ((m : Nat) ≤ m),
  (AA m (fun i_1 => [.p (.int .i64 (T i_1))])),
  (AN 1),
  ((m : Nat) ≤ m),
  (AA m (fun i_1 => [.p (.int .i64 (Q i_1))])),
  (AN 2),
  ((1 : Nat) ≤ 1),
  ((1 : Nat) ≤ 1),
  (AI ((↑N : Int))),
  (AN nb),
  (AP nb (fun i_1 => [.int .i64 ((g i_1).1), .int .i64 ((g i_1).2.1)])),
  (AN 3),
  ((1 : Nat) ≤ 1),
  ((1 : Nat) ≤ 1),
  (AN 0),
  (AN N),
  (AN 0),
  (AN m),
  (AN 0),
  (AN m),
  (AN 3),
  ((1 : Nat) ≤ 1),
  ((1 : Nat) ≤ 1),
  (AN 1),
  ((N : Nat) ≤ N),
  (∀ i_1 : Nat, (((i_1 : Nat) < N) → (All (cvtL false [(1641, ⟨false, 1, (tn + 1), (fun i_2 => (if (i_2 < tn) then [.p (.int .i64 (td i_2))] else [.p (.int .i64 u)]))⟩), (1609, ⟨false, 1, 1, (fun i_2 => [.p (.int .i64 u)])⟩), (6, ⟨false, 1, N, (fun i_2 => (if (i_2 = u.toNat) then [.p (.int .i64 (↑j : Int))] else [.p (.int .i64 (FR i_2))]))⟩), (7, ⟨false, 1, N, (fun i_2 => (if (i_2 = u.toNat) then [.p (.bool true)] else [.p (.bool (SN i_2))]))⟩), (0, ⟨false, 1, N, (fun i_2 => [.p (.int .i64 (F i_2))])⟩), (1, ⟨false, 1, m, (fun i_2 => [.p (.int .i64 (T i_2))])⟩), (2, ⟨false, 1, m, (fun i_2 => [.p (.int .i64 (Q i_2))])⟩), (3, ⟨true, 2, 1, (fun i_2 => [.p (.int .i64 (↑N : Int)), .p (.seq true 2 nb (fun i_3 => [.int .i64 ((g i_3).1), .int .i64 ((g i_3).2.1)]))])⟩), (4, ⟨true, 3, 1, (fun i_2 => [.ar 1 0 0 N, .ar 1 1 0 m, .ar 1 2 0 m])⟩), (5, ⟨true, 3, 1, (fun i_2 => [.p (.nil), .p (.nil), .p (.nil)])⟩)] [0, 1, 2, 3, 4, 5, 6, 7, 1641] 1 (if (i_1 = u.toNat) then [.p (.int .i64 (↑j : Int))] else [.p (.int .i64 (FR i_1))])).2 ∧ (((cvtL false [(1641, ⟨false, 1, (tn + 1), (fun i_2 => (if (i_2 < tn) then [.p (.int .i64 (td i_2))] else [.p (.int .i64 u)]))⟩), (1609, ⟨false, 1, 1, (fun i_2 => [.p (.int .i64 u)])⟩), (6, ⟨false, 1, N, (fun i_2 => (if (i_2 = u.toNat) then [.p (.int .i64 (↑j : Int))] else [.p (.int .i64 (FR i_2))]))⟩), (7, ⟨false, 1, N, (fun i_2 => (if (i_2 = u.toNat) then [.p (.bool true)] else [.p (.bool (SN i_2))]))⟩), (0, ⟨false, 1, N, (fun i_2 => [.p (.int .i64 (F i_2))])⟩), (1, ⟨false, 1, m, (fun i_2 => [.p (.int .i64 (T i_2))])⟩), (2, ⟨false, 1, m, (fun i_2 => [.p (.int .i64 (Q i_2))])⟩), (3, ⟨true, 2, 1, (fun i_2 => [.p (.int .i64 (↑N : Int)), .p (.seq true 2 nb (fun i_3 => [.int .i64 ((g i_3).1), .int .i64 ((g i_3).2.1)]))])⟩), (4, ⟨true, 3, 1, (fun i_2 => [.ar 1 0 0 N, .ar 1 1 0 m, .ar 1 2 0 m])⟩), (5, ⟨true, 3, 1, (fun i_2 => [.p (.nil), .p (.nil), .p (.nil)])⟩)] [0, 1, 2, 3, 4, 5, 6, 7, 1641] 1 (if (i_1 = u.toNat) then [.p (.int .i64 (↑j : Int))] else [.p (.int .i64 (FR i_1))])).1 : List AV) = [.p (.int .i64 (if i_1 = u.toNat then (↑j : Int) else FR i_1))])))),
  (AN 1),
  ((N : Nat) ≤ N),
  (∀ i_1 : Nat, (((i_1 : Nat) < N) → (All (cvtL false [(1641, ⟨false, 1, (tn + 1), (fun i_2 => (if (i_2 < tn) then [.p (.int .i64 (td i_2))] else [.p (.int .i64 u)]))⟩), (1609, ⟨false, 1, 1, (fun i_2 => [.p (.int .i64 u)])⟩), (6, ⟨false, 1, N, (fun i_2 => (if (i_2 = u.toNat) then [.p (.int .i64 (↑j : Int))] else [.p (.int .i64 (FR i_2))]))⟩), (7, ⟨false, 1, N, (fun i_2 => (if (i_2 = u.toNat) then [.p (.bool true)] else [.p (.bool (SN i_2))]))⟩), (0, ⟨false, 1, N, (fun i_2 => [.p (.int .i64 (F i_2))])⟩), (1, ⟨false, 1, m, (fun i_2 => [.p (.int .i64 (T i_2))])⟩), (2, ⟨false, 1, m, (fun i_2 => [.p (.int .i64 (Q i_2))])⟩), (3, ⟨true, 2, 1, (fun i_2 => [.p (.int .i64 (↑N : Int)), .p (.seq true 2 nb (fun i_3 => [.int .i64 ((g i_3).1), .int .i64 ((g i_3).2.1)]))])⟩), (4, ⟨true, 3, 1, (fun i_2 => [.ar 1 0 0 N, .ar 1 1 0 m, .ar 1 2 0 m])⟩), (5, ⟨true, 3, 1, (fun i_2 => [.p (.nil), .p (.nil), .p (.nil)])⟩)] [0, 1, 2, 3, 4, 5, 6, 7, 1641] 1 (if (i_1 = u.toNat) then [.p (.bool true)] else [.p (.bool (SN i_1))])).2 ∧ (((cvtL false [(1641, ⟨false, 1, (tn + 1), (fun i_2 => (if (i_2 < tn) then [.p (.int .i64 (td i_2))] else [.p (.int .i64 u)]))⟩), (1609, ⟨false, 1, 1, (fun i_2 => [.p (.int .i64 u)])⟩), (6, ⟨false, 1, N, (fun i_2 => (if (i_2 = u.toNat) then [.p (.int .i64 (↑j : Int))] else [.p (.int .i64 (FR i_2))]))⟩), (7, ⟨false, 1, N, (fun i_2 => (if (i_2 = u.toNat) then [.p (.bool true)] else [.p (.bool (SN i_2))]))⟩), (0, ⟨false, 1, N, (fun i_2 => [.p (.int .i64 (F i_2))])⟩), (1, ⟨false, 1, m, (fun i_2 => [.p (.int .i64 (T i_2))])⟩), (2, ⟨false, 1, m, (fun i_2 => [.p (.int .i64 (Q i_2))])⟩), (3, ⟨true, 2, 1, (fun i_2 => [.p (.int .i64 (↑N : Int)), .p (.seq true 2 nb (fun i_3 => [.int .i64 ((g i_3).1), .int .i64 ((g i_3).2.1)]))])⟩), (4, ⟨true, 3, 1, (fun i_2 => [.ar 1 0 0 N, .ar 1 1 0 m, .ar 1 2 0 m])⟩), (5, ⟨true, 3, 1, (fun i_2 => [.p (.nil), .p (.nil), .p (.nil)])⟩)] [0, 1, 2, 3, 4, 5, 6, 7, 1641] 1 (if (i_1 = u.toNat) then [.p (.bool true)] else [.p (.bool (SN i_1))])).1 : List AV) = [.p (.bool (if i_1 = u.toNat then true else SN i_1))])))),
  (AN 1),
  (((tn + 1) : Nat) ≤ (tn + 1)),
  (∀ i_1 : Nat, (((i_1 : Nat) < (tn + 1)) → (All (cvtL false [(1641, ⟨false, 1, (tn + 1), (fun i_2 => (if (i_2 < tn) then [.p (.int .i64 (td i_2))] else [.p (.int .i64 u)]))⟩), (1609, ⟨false, 1, 1, (fun i_2 => [.p (.int .i64 u)])⟩), (6, ⟨false, 1, N, (fun i_2 => (if (i_2 = u.toNat) then [.p (.int .i64 (↑j : Int))] else [.p (.int .i64 (FR i_2))]))⟩), (7, ⟨false, 1, N, (fun i_2 => (if (i_2 = u.toNat) then [.p (.bool true)] else [.p (.bool (SN i_2))]))⟩), (0, ⟨false, 1, N, (fun i_2 => [.p (.int .i64 (F i_2))])⟩), (1, ⟨false, 1, m, (fun i_2 => [.p (.int .i64 (T i_2))])⟩), (2, ⟨false, 1, m, (fun i_2 => [.p (.int .i64 (Q i_2))])⟩), (3, ⟨true, 2, 1, (fun i_2 => [.p (.int .i64 (↑N : Int)), .p (.seq true 2 nb (fun i_3 => [.int .i64 ((g i_3).1), .int .i64 ((g i_3).2.1)]))])⟩), (4, ⟨true, 3, 1, (fun i_2 => [.ar 1 0 0 N, .ar 1 1 0 m, .ar 1 2 0 m])⟩), (5, ⟨true, 3, 1, (fun i_2 => [.p (.nil), .p (.nil), .p (.nil)])⟩)] [0, 1, 2, 3, 4, 5, 6, 7, 1641] 1 (if (i_1 < tn) then [.p (.int .i64 (td i_1))] else [.p (.int .i64 u)])).2 ∧ (((cvtL false [(1641, ⟨false, 1, (tn + 1), (fun i_2 => (if (i_2 < tn) then [.p (.int .i64 (td i_2))] else [.p (.int .i64 u)]))⟩), (1609, ⟨false, 1, 1, (fun i_2 => [.p (.int .i64 u)])⟩), (6, ⟨false, 1, N, (fun i_2 => (if (i_2 = u.toNat) then [.p (.int .i64 (↑j : Int))] else [.p (.int .i64 (FR i_2))]))⟩), (7, ⟨false, 1, N, (fun i_2 => (if (i_2 = u.toNat) then [.p (.bool true)] else [.p (.bool (SN i_2))]))⟩), (0, ⟨false, 1, N, (fun i_2 => [.p (.int .i64 (F i_2))])⟩), (1, ⟨false, 1, m, (fun i_2 => [.p (.int .i64 (T i_2))])⟩), (2, ⟨false, 1, m, (fun i_2 => [.p (.int .i64 (Q i_2))])⟩), (3, ⟨true, 2, 1, (fun i_2 => [.p (.int .i64 (↑N : Int)), .p (.seq true 2 nb (fun i_3 => [.int .i64 ((g i_3).1), .int .i64 ((g i_3).2.1)]))])⟩), (4, ⟨true, 3, 1, (fun i_2 => [.ar 1 0 0 N, .ar 1 1 0 m, .ar 1 2 0 m])⟩), (5, ⟨true, 3, 1, (fun i_2 => [.p (.nil), .p (.nil), .p (.nil)])⟩)] [0, 1, 2, 3, 4, 5, 6, 7, 1641] 1 (if (i_1 < tn) then [.p (.int .i64 (td i_1))] else [.p (.int .i64 u)])).1 : List AV) = [.p (.int .i64 (if i_1 < tn then td i_1 else u))]))))]) := by kernel_rfl
theorem qF2d (g : Nat → T_Bar) (nb N m : Nat) (F T Q td FR : Nat → Int) (SN : Nat → Bool) (a b v u : Int) (i j tn : Nat) :
    pieceOb Try.prog 3 [.reg [oT, oT, oT, oT, oT], .dec true, .reg [oT, oT, oT, oT, oT, oT, oT], .dec false, .reg [oT, oT, oT, oT, oT, oT, oT, oT, oT, oT, ⟨true, (some ⟨[], [], [], 1, [], .p (.int .i64 u)⟩), none⟩, oT], .reg [oT, oT, oT, oT], .dec false, .reg [oT, oT, oT, oT], .reg [oT, oT, oT, oT, oT], .reg [oT, oT, oT, oT, oT, oT, oT, oT, oT, oT, oT], .dec true, .head] [.code (cAt (bodyOf Try.f157) [1, 1, 1, 1, 1, 1, 0, 1, 0, 0, 1, 0, 0, 1, 1, 0, 0]), .inLoop (cAt (bodyOf Try.f157) [1, 1, 1, 1, 1, 1, 0, 1, 0, 0, 1, 0, 0, 1, 1, 0, 0]), .inBlock 4, .inBlock 3, .code (cAt (bodyOf Try.f157) [1, 1, 1, 1, 1, 1, 0, 1, 0, 0, 1, 1]), .inLoop (cAt (bodyOf Try.f157) [1, 1, 1, 1, 1, 1, 0, 1, 0, 0]), .inBlock 2, .code (cAt (bodyOf Try.f157) [1, 1, 1, 1, 1, 1, 1])] (SF2 g nb N m F T Q td FR SN a b v i j tn) [0, 1, 2, 3, 4, 5, 6] 1 (SF3 g nb N m F T Q (fun s => if s = u.toNat then j else FR s) a b u) =
    some ([.code (cAt (bodyOf Try.f157) [1, 1, 1, 1, 1, 1, 0, 1, 0, 0, 1, 0, 0, 1, 1, 0, 0, 1, 0, 0, 1, 1, 1, 1, 1, 0, 1, 0, 0]), .code .ret, .code (cAt (bodyOf Try.f157) [1, 1, 1, 1, 1, 1, 0, 1, 0, 0, 1, 0, 0, 1, 1, 0, 0, 1, 0, 0, 1, 1, 1, 1, 1, 1]), .inBlock 5, .code (cAt (bodyOf Try.f157) [1, 1, 1, 1, 1, 1, 0, 1, 0, 0, 1, 0, 0, 1, 1, 0, 0, 1, 1]), .inLoop (cAt (bodyOf Try.f157) [1, 1, 1, 1, 1, 1, 0, 1, 0, 0, 1, 0, 0, 1, 1, 0, 0]), .inBlock 4, .inBlock 3, .code (cAt (bodyOf Try.f157) [1, 1, 1, 1, 1, 1, 0, 1, 0, 0, 1, 1]), .inLoop (cAt (bodyOf Try.f157) [1, 1, 1, 1, 1, 1, 0, 1, 0, 0]), .inBlock 2, .code (cAt (bodyOf Try.f157) [1, 1, 1, 1, 1, 1, 1])], [((0 : Nat) < 1),
  ((decide ((↑j : Int) < (↑m : Int))) = true),
  ((0 : Nat) < 1),
  ((0 : Int) ≤ (↑j : Int)),
  (((↑j : Int) : Int) < (↑m : Int)),
  ((j : Nat) < m),
  ((T j != v) = false),
  ((0 : Nat) < 1),
  ((0 : Nat) < 1),
  ((0 : Int) ≤ (↑j : Int)),
  (((↑j : Int) : Int) < (↑m : Int)),
  ((j : Nat) < m),
  ((0 : Int) ≤ (Q j)),
  (((Q j) : Int) < (↑nb : Int)),
  Con Try.prog 168 0 [] [.agg [.p (.int .i64 ((g (Q j).toNat).1)), .p (.int .i64 ((g (Q j).toNat).2.1))], .p (.int .i64 v)] [] (.p (.int .i64 u)),
  ((0 : Int) ≤ u),
  ((u : Int) < (↑N : Int)),
  ((u.toNat : Nat) < N),
  ((SN u.toNat) = false),
  ((0 : Int) ≤ u),
  ((u : Int) < (↑N : Int)),
  ((u.toNat : Nat) < N),
  ((false = true) → ((N : Nat) = 1)),
  ((0 : Int) ≤ u),
  ((u : Int) < (↑N : Int)),
  ((u.toNat : Nat) < N),
  ((false = true) → ((N : Nat) = 1)),
  (AG (u != b)),
  (((u != b) = true) → ((0 : Nat) < 1)),
  (AG (u != b)),
  (AG (u != b)),
  (((u != b) = true) → ((0 : Int) ≤ u)),
  (((u != b) = true) → ((u : Int) < (↑N : Int))),
  (AG (u != b)),
  (((u != b) = true) → ((u.toNat : Nat) < N)),
  (AG (u != b)),
  (AG (u != b)),
  ((bif u != b then decide (F (u.toNat + 0) > 0) else false) = true),
  (AI ((↑N : Int))),
  (AN nb),
  (AP nb (fun i_1 => [.int .i64 ((g i_1).1), .int .i64 ((g i_1).2.1)])),
  (AN 0),
  (AN N),
  (AN 0),
  (AN m),
  (AN 0),
  (AN m),
  (AI a),
  (AI b),
  (AN 0),
  (AN 0),
  (AN 0),
  (AN 0),
  (AN N),
  (AI u),
  (AN 1),
  ((N : Nat) ≤ N),
  (AA N (fun i_1 => [.p (.int .i64 (F i_1))])),
  (AN 1),
  ((m : Nat) ≤ m),
  (AA m (fun i_1 => [.p (.int .i64 (T i_1))])),
  (AN 1),
  ((m : Nat) ≤ m),
  (AA m (fun i_1 => [.p (.int .i64 (Q i_1))])),
  (AN 2),
  ((1 : Nat) ≤ 1),
  ((1 : Nat) ≤ 1),
  (AI ((↑N : Int))),
  (AN nb),
  (AP nb (fun i_1 => [.int .i64 ((g i_1).1), .int .i64 ((g i_1).2.1)])),
  (AN 3),
  ((1 : Nat) ≤ 1),
  ((1 : Nat) ≤ 1),
  (AN 0),
  (AN N),
  (AN 0),
  (AN m),
  (AN 0),
  (AN m),
  (AN 3),
  ((1 : Nat) ≤ 1),
  ((1 : Nat) ≤ 1),
  (AN 1),
  ((N : Nat) ≤ N),
  (∀ i_1 : Nat, (((i_1 : Nat) < N) → (All (cvtL false [(6, ⟨false, 1, N, (fun i_2 => (if (i_2 = u.toNat) then [.p (.int .i64 (↑j : Int))] else [.p (.int .i64 (FR i_2))]))⟩), (7, ⟨false, 1, N, (fun i_2 => (if (i_2 = u.toNat) then [.p (.bool true)] else [.p (.bool (SN i_2))]))⟩), (0, ⟨false, 1, N, (fun i_2 => [.p (.int .i64 (F i_2))])⟩), (1, ⟨false, 1, m, (fun i_2 => [.p (.int .i64 (T i_2))])⟩), (2, ⟨false, 1, m, (fun i_2 => [.p (.int .i64 (Q i_2))])⟩), (3, ⟨true, 2, 1, (fun i_2 => [.p (.int .i64 (↑N : Int)), .p (.seq true 2 nb (fun i_3 => [.int .i64 ((g i_3).1), .int .i64 ((g i_3).2.1)]))])⟩), (4, ⟨true, 3, 1, (fun i_2 => [.ar 1 0 0 N, .ar 1 1 0 m, .ar 1 2 0 m])⟩), (5, ⟨true, 3, 1, (fun i_2 => [.p (.nil), .p (.nil), .p (.nil)])⟩), (8, ⟨false, 1, tn, (fun i_2 => [.p (.int .i64 (td i_2))])⟩)] [0, 1, 2, 3, 4, 5, 6] 1 (if (i_1 = u.toNat) then [.p (.int .i64 (↑j : Int))] else [.p (.int .i64 (FR i_1))])).2 ∧ (((cvtL false [(6, ⟨false, 1, N, (fun i_2 => (if (i_2 = u.toNat) then [.p (.int .i64 (↑j : Int))] else [.p (.int .i64 (FR i_2))]))⟩), (7, ⟨false, 1, N, (fun i_2 => (if (i_2 = u.toNat) then [.p (.bool true)] else [.p (.bool (SN i_2))]))⟩), (0, ⟨false, 1, N, (fun i_2 => [.p (.int .i64 (F i_2))])⟩), (1, ⟨false, 1, m, (fun i_2 => [.p (.int .i64 (T i_2))])⟩), (2, ⟨false, 1, m, (fun i_2 => [.p (.int .i64 (Q i_2))])⟩), (3, ⟨true, 2, 1, (fun i_2 => [.p (.int .i64 (↑N : Int)), .p (.seq true 2 nb (fun i_3 => [.int .i64 ((g i_3).1), .int .i64 ((g i_3).2.1)]))])⟩), (4, ⟨true, 3, 1, (fun i_2 => [.ar 1 0 0 N, .ar 1 1 0 m, .ar 1 2 0 m])⟩), (5, ⟨true, 3, 1, (fun i_2 => [.p (.nil), .p (.nil), .p (.nil)])⟩), (8, ⟨false, 1, tn, (fun i_2 => [.p (.int .i64 (td i_2))])⟩)] [0, 1, 2, 3, 4, 5, 6] 1 (if (i_1 = u.toNat) then [.p (.int .i64 (↑j : Int))] else [.p (.int .i64 (FR i_1))])).1 : List AV) = [.p (.int .i64 (if i_1 = u.toNat then (↑j : Int) else FR i_1))]))))]) := by kernel_rfl
theorem qF3 (g : Nat → T_Bar) (nb N m : Nat) (F T Q FR F1 T1 : Nat → Int) (a b u : Int) :
    pathOb Try.prog Try.f157 3 [.reg [oT, oT, oT, oT, oT, ⟨true, (some ⟨[], [], [], 1, pebR N m F1 T1 Q, pebO N m 0⟩), none⟩, oT, oT]] [.code (cAt (bodyOf Try.f157) [1, 1, 1, 1, 1, 1, 0, 1, 0, 0, 1, 0, 0, 1, 1, 0, 0, 1, 0, 0, 1, 1, 1, 1, 1, 0, 1, 0, 0]), .code .ret, .code (cAt (bodyOf Try.f157) [1, 1, 1, 1, 1, 1, 0, 1, 0, 0, 1, 0, 0, 1, 1, 0, 0, 1, 0, 0, 1, 1, 1, 1, 1, 1]), .inBlock 5, .code (cAt (bodyOf Try.f157) [1, 1, 1, 1, 1, 1, 0, 1, 0, 0, 1, 0, 0, 1, 1, 0, 0, 1, 1]), .inLoop (cAt (bodyOf Try.f157) [1, 1, 1, 1, 1, 1, 0, 1, 0, 0, 1, 0, 0, 1, 1, 0, 0]), .inBlock 4, .inBlock 3, .code (cAt (bodyOf Try.f157) [1, 1, 1, 1, 1, 1, 0, 1, 0, 0, 1, 1]), .inLoop (cAt (bodyOf Try.f157) [1, 1, 1, 1, 1, 1, 0, 1, 0, 0]), .inBlock 2, .code (cAt (bodyOf Try.f157) [1, 1, 1, 1, 1, 1, 1])] (SF3 g nb N m F T Q FR a b u) [0, 1, 2, 167, 168, 169] 1 (pebR3 N m F T Q F1 T1 Q) (.tup [pebO N m 3, .p (.bool true)]) =
    some [((0 : Nat) < 1),
  ((0 : Nat) < 1),
  (AN 1),
  ((N : Nat) ≤ N),
  (AN 1),
  ((m : Nat) ≤ m),
  (AN 1),
  ((m : Nat) ≤ m),
  (AN 1),
  ((N : Nat) ≤ N),
  Con Try.prog 169 0 [] [.agg [.p (.int .i64 (↑N : Int)), .p (.seq true 2 nb (fun i => [.int .i64 ((g i).1), .int .i64 ((g i).2.1)]))], .agg [.p (.seq true 1 N (fun i => [.int .i64 (F i)])), .p (.seq true 1 m (fun i => [.int .i64 (T i)])), .p (.seq true 1 m (fun i => [.int .i64 (Q i)]))], .p (.seq true 1 N (fun i => [.int .i64 (FR i)])), .p (.int .i64 a), .p (.int .i64 u)] [(0, ⟨false, 1, N, (fun i => [.p (.int .i64 (F1 i))])⟩), (1, ⟨false, 1, m, (fun i => [.p (.int .i64 (T1 i))])⟩), (2, ⟨false, 1, m, (fun i => [.p (.int .i64 (Q i))])⟩)] (.agg [.ar 1 0 0 N, .ar 1 1 0 m, .ar 1 2 0 m]),
  ((0 : Nat) < 1),
  ((true = true) → (AN 1)),
  ((0 : Nat) < 1),
  (AN 0),
  (AN N),
  (AN 0),
  (AN m),
  (AN 0),
  (AN m),
  (true = true),
  (AN 1),
  ((N : Nat) ≤ N),
  (AA N (fun i => [.p (.int .i64 (F i))])),
  (AN 1),
  ((m : Nat) ≤ m),
  (AA m (fun i => [.p (.int .i64 (T i))])),
  (AN 1),
  ((m : Nat) ≤ m),
  (AA m (fun i => [.p (.int .i64 (Q i))])),
  (AN 1),
  ((N : Nat) ≤ N),
  (AA N (fun i => [.p (.int .i64 (F1 i))])),
  (AN 1),
  ((m : Nat) ≤ m),
  (AA m (fun i => [.p (.int .i64 (T1 i))])),
  (AN 1),
  ((m : Nat) ≤ m),
  (AA m (fun i => [.p (.int .i64 (Q i))])),
  (AE N),
  (AE m),
  (AE m),
  (AE N),
  (AE m),
  (AE m)] := by kernel_rfl
end Go.Proofs.Ytgdbnnmogddkaaa.Mach
namespace Go.Proofs.Ytgdbnnmogddkaaa.Mach
open Go
set_option linter.unusedVariables false
set_option linter.unusedSimpArgs false
def brOb (n : Nat) (h : Nat → T_Bar) : Ob := ⟨false, 2, n, fun i => [.p (.int .i64 (h i).1), .p (.int .i64 (h i).2.1)]⟩
def bxB (x : T_Bar) : Ob := ⟨true, 2, 1, fun _ => [.p (.int .i64 x.1), .p (.int .i64 x.2.1)]⟩
def SL (g : Nat → T_Bar) (nb N : Nat) (x : T_Bar) (i n : Nat) (pl : Bool) (h : Nat → T_Bar) : St :=
  ⟨[grG g nb N, brA x, .pt 2 0 0 0, .pt 2 1 0 0, .pt 2 2 0 0, .pt 2 3 0 0, .p (.bool pl), .p (.int .i64 i)] ++ List.replicate 48 anyA,
   [(0, bxG g nb N), (1, bxB x), (2, ⟨true, 2, 1, fun _ => [.p (.int .i64 0), .p .nil]⟩), (3, ⟨true, 2, 1, fun _ => [.p (.int .i64 N), .ar 2 4 0 n]⟩), (4, brOb n h)], 5⟩
def snoc (n : Nat) (h : Nat → T_Bar) (x : T_Bar) (s : Nat) : T_Bar := (if s < n then (h s).1 else x.1, if s < n then (h s).2.1 else x.2.1, ())
theorem rLz (g : Nat → T_Bar) (nb N : Nat) (x : T_Bar) :
    pieceOb Try.prog 0 [.reg [oT, oT, oT], .reg [oT, oT, oT, oT, oT, oT], .reg [oT], .reg [oT], .head] [.code (bodyOf Try.f108)] (start Try.f108 [] 0 [grG g nb N, brA x]) [0, 32, 64, 224, 160] 1 (SL g nb N x 0 0 false (fun _ => (0, 0, ()))) =
    some ([.code (cAt (bodyOf Try.f108) [1, 1, 1, 0, 1, 0, 0]), .inLoop (cAt (bodyOf Try.f108) [1, 1, 1, 0, 1, 0, 0]), .inBlock 0, .code (cAt (bodyOf Try.f108) [1, 1, 1, 1])], [((0 : Nat) < 1),
  ((0 : Nat) < 1),
  ((true = true) → (AN 1)),
  (AI ((↑N : Int))),
  (AN nb),
  (AP nb (fun i => [.int .i64 ((g i).1), .int .i64 ((g i).2.1)])),
  (AI x.1),
  (AI x.2.1),
  (AN 0),
  (AN 0),
  (AN 0),
  (AN 0),
  (false = false),
  ((0 : Int) = (↑0 : Int)),
  ((([AV.p (PV.int IntKind.i64 (↑N : Int)), brL g nb].length) : Nat) = 2),
  ((1 : Nat) ≤ 1),
  ((1 : Nat) ≤ 1),
  (AI ((↑N : Int))),
  (AN nb),
  (AP nb (fun i => [.int .i64 ((g i).1), .int .i64 ((g i).2.1)])),
  ((([AV.p (PV.int IntKind.i64 x.1), AV.p (PV.int IntKind.i64 x.2.1)].length) : Nat) = 2),
  ((1 : Nat) ≤ 1),
  ((1 : Nat) ≤ 1),
  (AI x.1),
  (AI x.2.1),
  ((((List.map (fun v => AV.p (absV v)) [Value.int IntKind.i64 0, Value.slice none 0 0]).length) : Nat) = 2),
  ((1 : Nat) ≤ 1),
  ((1 : Nat) ≤ 1),
  (AI 0),
  ((((List.map (fun v => AV.p (absV v)) [Value.int IntKind.i64 0, Value.slice none 0 0]).length) : Nat) = 2),
  ((1 : Nat) ≤ 1),
  ((1 : Nat) ≤ 1),
  (AI ((↑N : Int))),
  (AN 0),
  (AN 0),
  (AN 2),
  ((0 : Nat) ≤ 0),
  (AA 0 (fun i => [.p (.int .i64 0), .p (.int .i64 0)]))]) := by kernel_rfl
theorem rLa (g : Nat → T_Bar) (nb N : Nat) (x : T_Bar) (i n : Nat) (pl : Bool) (h : Nat → T_Bar) :
    pieceOb Try.prog 0 [.reg [oT, oT, oT, oT, oT], .dec true, .reg [oT, oT, oT, oT, oT, oT, oT, oT, oT, ⟨true, (some ⟨[], [], [], 1, [], .p (.bool (aft (g i) x))⟩), none⟩, oT, oT], .dec true, .reg [oT, oT, oT, oT, oT, oT, oT], .reg [oT], .reg [oT, oT, oT, oT, oT, oT, oT, oT, oT, oT, oT], .reg [oT, oT, oT], .head] [.code (cAt (bodyOf Try.f108) [1, 1, 1, 0, 1, 0, 0]), .inLoop (cAt (bodyOf Try.f108) [1, 1, 1, 0, 1, 0, 0]), .inBlock 0, .code (cAt (bodyOf Try.f108) [1, 1, 1, 1])] (SL g nb N x i n pl h) [0, 1, 2, 3, 1061] 1 (SL g nb N x (i + 1) (n + 1 + 1) true (snoc (n + 1) (snoc n h x) (g i))) =
    some ([.code (cAt (bodyOf Try.f108) [1, 1, 1, 0, 1, 0, 0]), .inLoop (cAt (bodyOf Try.f108) [1, 1, 1, 0, 1, 0, 0]), .inBlock 0, .code (cAt (bodyOf Try.f108) [1, 1, 1, 1])], [((0 : Nat) < 1),
  ((decide ((↑i : Int) < (↑nb : Int))) = true),
  (AG (!pl)),
  (((!pl) = true) → ((0 : Nat) < 1)),
  (AG (!pl)),
  (AG (!pl)),
  (((!pl) = true) → ((0 : Int) ≤ (↑i : Int))),
  (((!pl) = true) → (((↑i : Int) : Int) < (↑nb : Int))),
  (AG (!pl)),
  (((!pl) = true) → ((0 : Nat) < 1)),
  (AG (!pl)),
  (AG (!pl)),
  (((!pl) = true) → Con Try.prog 113 0 [] [.agg [.p (.int .i64 ((g i).1)), .p (.int .i64 ((g i).2.1))], .agg [.p (.int .i64 x.1), .p (.int .i64 x.2.1)]] [] (.p (.bool (aft (g i) x)))),
  (AG (!pl)),
  (AG (!pl)),
  ((bif !pl then !aft (g i) x else false) = true),
  ((0 : Nat) < 1),
  ((0 : Nat) < 1),
  ((1 : Nat) ≤ 1),
  ((n : Nat) ≤ n),
  ((((n + 1) * 16) : Nat) ≤ 140737488355328),
  (((n + 1) : Nat) ≤ 9223372036854775807),
  ((0 : Nat) < 1),
  ((true = true) → (AN 1)),
  ((0 : Nat) < 1),
  ((0 : Nat) < 1),
  ((0 : Int) ≤ (↑i : Int)),
  (((↑i : Int) : Int) < (↑nb : Int)),
  ((1 : Nat) ≤ 1),
  (((n + 1) : Nat) ≤ (n + 1)),
  ((((n + 1 + 1) * 16) : Nat) ≤ 140737488355328),
  (((n + 1 + 1) : Nat) ≤ 9223372036854775807),
  ((0 : Nat) < 1),
  ((true = true) → (AN 1)),
  (((-9223372036854775808) : Int) ≤ ((↑i : Int) + 1)),
  ((((↑i : Int) + 1) : Int) ≤ 9223372036854775807),
  (AI ((↑N : Int))),
  (AN nb),
  (AP nb (fun i_1 => [.int .i64 ((g i_1).1), .int .i64 ((g i_1).2.1)])),
  (AI x.1),
  (AI x.2.1),
  (AN 0),
  (AN 0),
  (AN 0),
  (AN 0),
  (true = true),
  ((((↑i : Int) + 1) : Int) = (↑(i + 1) : Int)),
  (AN 2),
  ((1 : Nat) ≤ 1),
  ((1 : Nat) ≤ 1),
  (AI ((↑N : Int))),
  (AN nb),
  (AP nb (fun i_1 => [.int .i64 ((g i_1).1), .int .i64 ((g i_1).2.1)])),
  (AN 2),
  ((1 : Nat) ≤ 1),
  ((1 : Nat) ≤ 1),
  (AI x.1),
  (AI x.2.1),
  (AN 2),
  ((1 : Nat) ≤ 1),
  ((1 : Nat) ≤ 1),
  (AI 0),
  (AN 2),
  ((1 : Nat) ≤ 1),
  ((1 : Nat) ≤ 1),
  (AI ((↑N : Int))),
  (AN 0),
  (AN ((n + 1 + 1))),
  (AN 2),
  (((n + 1 + 1) : Nat) ≤ (n + 1 + 1)),
  (∀ i_1 : Nat, (((i_1 : Nat) < (n + 1 + 1)) → (All (cvtL false [(3, ⟨true, 2, 1, (fun i_2 => [.p (.int .i64 (↑N : Int)), .ar 2 1061 0 (n + 1 + 1)])⟩), (1061, ⟨false, 2, (n + 1 + 1), (fun i_2 => (if (i_2 < n + 1) then (if (i_2 < n) then [.p (.int .i64 ((h i_2).1)), .p (.int .i64 ((h i_2).2.1))] else [.p (.int .i64 x.1), .p (.int .i64 x.2.1)]) else [.p (.int .i64 ((g i).1)), .p (.int .i64 ((g i).2.1))]))⟩), (1029, ⟨false, 2, 1, (fun i_2 => [.p (.int .i64 ((g i).1)), .p (.int .i64 ((g i).2.1))])⟩), (645, ⟨false, 2, 1, (fun i_2 => [.p (.int .i64 x.1), .p (.int .i64 x.2.1)])⟩), (0, ⟨true, 2, 1, (fun i_2 => [.p (.int .i64 (↑N : Int)), .p (.seq true 2 nb (fun i_3 => [.int .i64 ((g i_3).1), .int .i64 ((g i_3).2.1)]))])⟩), (1, ⟨true, 2, 1, (fun i_2 => [.p (.int .i64 x.1), .p (.int .i64 x.2.1)])⟩), (2, ⟨true, 2, 1, (fun i_2 => [.p (.int .i64 0), .p (.nil)])⟩)] [0, 1, 2, 3, 1061] 1 (if (i_1 < n + 1) then (if (i_1 < n) then [.p (.int .i64 ((h i_1).1)), .p (.int .i64 ((h i_1).2.1))] else [.p (.int .i64 x.1), .p (.int .i64 x.2.1)]) else [.p (.int .i64 ((g i).1)), .p (.int .i64 ((g i).2.1))])).2 ∧ (((cvtL false [(3, ⟨true, 2, 1, (fun i_2 => [.p (.int .i64 (↑N : Int)), .ar 2 1061 0 (n + 1 + 1)])⟩), (1061, ⟨false, 2, (n + 1 + 1), (fun i_2 => (if (i_2 < n + 1) then (if (i_2 < n) then [.p (.int .i64 ((h i_2).1)), .p (.int .i64 ((h i_2).2.1))] else [.p (.int .i64 x.1), .p (.int .i64 x.2.1)]) else [.p (.int .i64 ((g i).1)), .p (.int .i64 ((g i).2.1))]))⟩), (1029, ⟨false, 2, 1, (fun i_2 => [.p (.int .i64 ((g i).1)), .p (.int .i64 ((g i).2.1))])⟩), (645, ⟨false, 2, 1, (fun i_2 => [.p (.int .i64 x.1), .p (.int .i64 x.2.1)])⟩), (0, ⟨true, 2, 1, (fun i_2 => [.p (.int .i64 (↑N : Int)), .p (.seq true 2 nb (fun i_3 => [.int .i64 ((g i_3).1), .int .i64 ((g i_3).2.1)]))])⟩), (1, ⟨true, 2, 1, (fun i_2 => [.p (.int .i64 x.1), .p (.int .i64 x.2.1)])⟩), (2, ⟨true, 2, 1, (fun i_2 => [.p (.int .i64 0), .p (.nil)])⟩)] [0, 1, 2, 3, 1061] 1 (if (i_1 < n + 1) then (if (i_1 < n) then [.p (.int .i64 ((h i_1).1)), .p (.int .i64 ((h i_1).2.1))] else [.p (.int .i64 x.1), .p (.int .i64 x.2.1)]) else [.p (.int .i64 ((g i).1)), .p (.int .i64 ((g i).2.1))])).1 : List AV) = [.p (.int .i64 (if i_1 < n + 1 then if i_1 < n then (h i_1).1 else x.1 else (g i).1)), .p (.int .i64 (if i_1 < n + 1 then if i_1 < n then (h i_1).2.1 else x.2.1 else (g i).2.1))]))))]) := by kernel_rfl
theorem rLb (g : Nat → T_Bar) (nb N : Nat) (x : T_Bar) (i n : Nat) (pl : Bool) (h : Nat → T_Bar) :
    pieceOb Try.prog 0 [.reg [oT, oT, oT, oT, oT], .dec true, .reg [oT, oT, oT, oT, oT, oT, oT, oT, oT, ⟨true, (some ⟨[], [], [], 1, [], .p (.bool (aft (g i) x))⟩), none⟩, oT, oT], .dec false, .reg [oT, oT, oT, oT, oT, oT, oT, oT, oT, oT, oT], .reg [oT, oT, oT], .head] [.code (cAt (bodyOf Try.f108) [1, 1, 1, 0, 1, 0, 0]), .inLoop (cAt (bodyOf Try.f108) [1, 1, 1, 0, 1, 0, 0]), .inBlock 0, .code (cAt (bodyOf Try.f108) [1, 1, 1, 1])] (SL g nb N x i n pl h) [0, 1, 2, 3, 805] 1 (SL g nb N x (i + 1) (n + 1) pl (snoc n h (g i))) =
    some ([.code (cAt (bodyOf Try.f108) [1, 1, 1, 0, 1, 0, 0]), .inLoop (cAt (bodyOf Try.f108) [1, 1, 1, 0, 1, 0, 0]), .inBlock 0, .code (cAt (bodyOf Try.f108) [1, 1, 1, 1])], [((0 : Nat) < 1),
  ((decide ((↑i : Int) < (↑nb : Int))) = true),
  (AG (!pl)),
  (((!pl) = true) → ((0 : Nat) < 1)),
  (AG (!pl)),
  (AG (!pl)),
  (((!pl) = true) → ((0 : Int) ≤ (↑i : Int))),
  (((!pl) = true) → (((↑i : Int) : Int) < (↑nb : Int))),
  (AG (!pl)),
  (((!pl) = true) → ((0 : Nat) < 1)),
  (AG (!pl)),
  (AG (!pl)),
  (((!pl) = true) → Con Try.prog 113 0 [] [.agg [.p (.int .i64 ((g i).1)), .p (.int .i64 ((g i).2.1))], .agg [.p (.int .i64 x.1), .p (.int .i64 x.2.1)]] [] (.p (.bool (aft (g i) x)))),
  (AG (!pl)),
  (AG (!pl)),
  ((bif !pl then !aft (g i) x else false) = false),
  ((0 : Nat) < 1),
  ((0 : Nat) < 1),
  ((0 : Int) ≤ (↑i : Int)),
  (((↑i : Int) : Int) < (↑nb : Int)),
  ((1 : Nat) ≤ 1),
  ((n : Nat) ≤ n),
  ((((n + 1) * 16) : Nat) ≤ 140737488355328),
  (((n + 1) : Nat) ≤ 9223372036854775807),
  ((0 : Nat) < 1),
  ((true = true) → (AN 1)),
  (((-9223372036854775808) : Int) ≤ ((↑i : Int) + 1)),
  ((((↑i : Int) + 1) : Int) ≤ 9223372036854775807),
  (AI ((↑N : Int))),
  (AN nb),
  (AP nb (fun i_1 => [.int .i64 ((g i_1).1), .int .i64 ((g i_1).2.1)])),
  (AI x.1),
  (AI x.2.1),
  (AN 0),
  (AN 0),
  (AN 0),
  (AN 0),
  (pl = pl),
  ((((↑i : Int) + 1) : Int) = (↑(i + 1) : Int)),
  (AN 2),
  ((1 : Nat) ≤ 1),
  ((1 : Nat) ≤ 1),
  (AI ((↑N : Int))),
  (AN nb),
  (AP nb (fun i_1 => [.int .i64 ((g i_1).1), .int .i64 ((g i_1).2.1)])),
  (AN 2),
  ((1 : Nat) ≤ 1),
  ((1 : Nat) ≤ 1),
  (AI x.1),
  (AI x.2.1),
  (AN 2),
  ((1 : Nat) ≤ 1),
  ((1 : Nat) ≤ 1),
  (AI 0),
  (AN 2),
  ((1 : Nat) ≤ 1),
  ((1 : Nat) ≤ 1),
  (AI ((↑N : Int))),
  (AN 0),
  (AN ((n + 1))),
  (AN 2),
  (((n + 1) : Nat) ≤ (n + 1)),
  (∀ i_1 : Nat, (((i_1 : Nat) < (n + 1)) → (All (cvtL false [(3, ⟨true, 2, 1, (fun i_2 => [.p (.int .i64 (↑N : Int)), .ar 2 805 0 (n + 1)])⟩), (805, ⟨false, 2, (n + 1), (fun i_2 => (if (i_2 < n) then [.p (.int .i64 ((h i_2).1)), .p (.int .i64 ((h i_2).2.1))] else [.p (.int .i64 ((g i).1)), .p (.int .i64 ((g i).2.1))]))⟩), (773, ⟨false, 2, 1, (fun i_2 => [.p (.int .i64 ((g i).1)), .p (.int .i64 ((g i).2.1))])⟩), (0, ⟨true, 2, 1, (fun i_2 => [.p (.int .i64 (↑N : Int)), .p (.seq true 2 nb (fun i_3 => [.int .i64 ((g i_3).1), .int .i64 ((g i_3).2.1)]))])⟩), (1, ⟨true, 2, 1, (fun i_2 => [.p (.int .i64 x.1), .p (.int .i64 x.2.1)])⟩), (2, ⟨true, 2, 1, (fun i_2 => [.p (.int .i64 0), .p (.nil)])⟩)] [0, 1, 2, 3, 805] 1 (if (i_1 < n) then [.p (.int .i64 ((h i_1).1)), .p (.int .i64 ((h i_1).2.1))] else [.p (.int .i64 ((g i).1)), .p (.int .i64 ((g i).2.1))])).2 ∧ (((cvtL false [(3, ⟨true, 2, 1, (fun i_2 => [.p (.int .i64 (↑N : Int)), .ar 2 805 0 (n + 1)])⟩), (805, ⟨false, 2, (n + 1), (fun i_2 => (if (i_2 < n) then [.p (.int .i64 ((h i_2).1)), .p (.int .i64 ((h i_2).2.1))] else [.p (.int .i64 ((g i).1)), .p (.int .i64 ((g i).2.1))]))⟩), (773, ⟨false, 2, 1, (fun i_2 => [.p (.int .i64 ((g i).1)), .p (.int .i64 ((g i).2.1))])⟩), (0, ⟨true, 2, 1, (fun i_2 => [.p (.int .i64 (↑N : Int)), .p (.seq true 2 nb (fun i_3 => [.int .i64 ((g i_3).1), .int .i64 ((g i_3).2.1)]))])⟩), (1, ⟨true, 2, 1, (fun i_2 => [.p (.int .i64 x.1), .p (.int .i64 x.2.1)])⟩), (2, ⟨true, 2, 1, (fun i_2 => [.p (.int .i64 0), .p (.nil)])⟩)] [0, 1, 2, 3, 805] 1 (if (i_1 < n) then [.p (.int .i64 ((h i_1).1)), .p (.int .i64 ((h i_1).2.1))] else [.p (.int .i64 ((g i).1)), .p (.int .i64 ((g i).2.1))])).1 : List AV) = [.p (.int .i64 (if i_1 < n then (h i_1).1 else (g i).1)), .p (.int .i64 (if i_1 < n then (h i_1).2.1 else (g i).2.1))]))))]) := by kernel_rfl
theorem rLc (g : Nat → T_Bar) (nb N : Nat) (x : T_Bar) (i n : Nat) (pl : Bool) (h : Nat → T_Bar) :
    pathOb Try.prog Try.f108 0 [.reg [oT, oT, oT, oT, oT], .dec false, .reg [oT, oT], .dec true, .reg [oT, oT, oT, oT, oT, oT, oT], .reg [oT, oT]] [.code (cAt (bodyOf Try.f108) [1, 1, 1, 0, 1, 0, 0]), .inLoop (cAt (bodyOf Try.f108) [1, 1, 1, 0, 1, 0, 0]), .inBlock 0, .code (cAt (bodyOf Try.f108) [1, 1, 1, 1])] (SL g nb N x i n pl h) [357] 1 [(0, brOb (n + 1) (snoc n h x))] (.agg [.p (.int .i64 N), .ar 2 0 0 (n + 1)]) =
    some [((0 : Nat) < 1),
  ((decide ((↑i : Int) < (↑nb : Int))) = false),
  ((!pl) = true),
  ((0 : Nat) < 1),
  ((0 : Nat) < 1),
  ((1 : Nat) ≤ 1),
  ((n : Nat) ≤ n),
  ((((n + 1) * 16) : Nat) ≤ 140737488355328),
  (((n + 1) : Nat) ≤ 9223372036854775807),
  ((0 : Nat) < 1),
  ((true = true) → (AN 1)),
  ((0 : Nat) < 1),
  ((0 : Nat) < 1),
  ((true = true) → (AN 1)),
  ((0 : Nat) < 1),
  (AI ((↑N : Int))),
  (AN 0),
  (AN ((n + 1))),
  (AN 2),
  (((n + 1) : Nat) ≤ (n + 1)),
  (∀ i_1 : Nat, (((i_1 : Nat) < (n + 1)) → (All (cvtL false [(2, ⟨true, 2, 1, (fun i_2 => [.p (.int .i64 (↑N : Int)), .ar 2 357 0 (n + 1)])⟩), (3, ⟨true, 2, 1, (fun i_2 => [.p (.int .i64 (↑N : Int)), .ar 2 357 0 (n + 1)])⟩), (357, ⟨false, 2, (n + 1), (fun i_2 => (if (i_2 < n) then [.p (.int .i64 ((h i_2).1)), .p (.int .i64 ((h i_2).2.1))] else [.p (.int .i64 x.1), .p (.int .i64 x.2.1)]))⟩), (325, ⟨false, 2, 1, (fun i_2 => [.p (.int .i64 x.1), .p (.int .i64 x.2.1)])⟩), (0, ⟨true, 2, 1, (fun i_2 => [.p (.int .i64 (↑N : Int)), .p (.seq true 2 nb (fun i_3 => [.int .i64 ((g i_3).1), .int .i64 ((g i_3).2.1)]))])⟩), (1, ⟨true, 2, 1, (fun i_2 => [.p (.int .i64 x.1), .p (.int .i64 x.2.1)])⟩)] [357] 1 (if (i_1 < n) then [.p (.int .i64 ((h i_1).1)), .p (.int .i64 ((h i_1).2.1))] else [.p (.int .i64 x.1), .p (.int .i64 x.2.1)])).2 ∧ (((cvtL false [(2, ⟨true, 2, 1, (fun i_2 => [.p (.int .i64 (↑N : Int)), .ar 2 357 0 (n + 1)])⟩), (3, ⟨true, 2, 1, (fun i_2 => [.p (.int .i64 (↑N : Int)), .ar 2 357 0 (n + 1)])⟩), (357, ⟨false, 2, (n + 1), (fun i_2 => (if (i_2 < n) then [.p (.int .i64 ((h i_2).1)), .p (.int .i64 ((h i_2).2.1))] else [.p (.int .i64 x.1), .p (.int .i64 x.2.1)]))⟩), (325, ⟨false, 2, 1, (fun i_2 => [.p (.int .i64 x.1), .p (.int .i64 x.2.1)])⟩), (0, ⟨true, 2, 1, (fun i_2 => [.p (.int .i64 (↑N : Int)), .p (.seq true 2 nb (fun i_3 => [.int .i64 ((g i_3).1), .int .i64 ((g i_3).2.1)]))])⟩), (1, ⟨true, 2, 1, (fun i_2 => [.p (.int .i64 x.1), .p (.int .i64 x.2.1)])⟩)] [357] 1 (if (i_1 < n) then [.p (.int .i64 ((h i_1).1)), .p (.int .i64 ((h i_1).2.1))] else [.p (.int .i64 x.1), .p (.int .i64 x.2.1)])).1 : List AV) = [.p (.int .i64 (if i_1 < n then (h i_1).1 else x.1)), .p (.int .i64 (if i_1 < n then (h i_1).2.1 else x.2.1))])))),
  (AE ((n + 1)))] := by kernel_rfl
theorem rLd (g : Nat → T_Bar) (nb N : Nat) (x : T_Bar) (i n : Nat) (pl : Bool) (h : Nat → T_Bar) :
    pathOb Try.prog Try.f108 0 [.reg [oT, oT, oT, oT, oT], .dec false, .reg [oT, oT], .dec false, .reg [oT, oT]] [.code (cAt (bodyOf Try.f108) [1, 1, 1, 0, 1, 0, 0]), .inLoop (cAt (bodyOf Try.f108) [1, 1, 1, 0, 1, 0, 0]), .inBlock 0, .code (cAt (bodyOf Try.f108) [1, 1, 1, 1])] (SL g nb N x i n pl h) [4] 1 [(0, brOb n h)] (.agg [.p (.int .i64 N), .ar 2 0 0 n]) =
    some [((0 : Nat) < 1),
  ((decide ((↑i : Int) < (↑nb : Int))) = false),
  ((!pl) = false),
  ((0 : Nat) < 1),
  ((0 : Nat) < 1),
  ((true = true) → (AN 1)),
  ((0 : Nat) < 1),
  (AI ((↑N : Int))),
  (AN 0),
  (AN n),
  (AN 2),
  ((n : Nat) ≤ n),
  (AA n (fun i_1 => [.p (.int .i64 ((h i_1).1)), .p (.int .i64 ((h i_1).2.1))])),
  (AE n)] := by kernel_rfl
theorem snoc_lt {n : Nat} {h : Nat → T_Bar} {x : T_Bar} {s : Nat} (hs : s < n) : snoc n h x s = h s := by
  simp only [snoc, hs, if_true]
theorem snoc_ge {n : Nat} {h : Nat → T_Bar} {x : T_Bar} {s : Nat} (hs : ¬ s < n) : snoc n h x s = x := by
  simp only [snoc, hs, if_false]
def insD (g : Nat → T_Bar) (x : T_Bar) : Nat → Bool × Nat × (Nat → T_Bar)
  | 0 => (false, 0, fun _ => (0, 0, ()))
  | i + 1 =>
    if (bif !(insD g x i).1 then !aft (g i) x else false) = true then (true, (insD g x i).2.1 + 1 + 1, snoc ((insD g x i).2.1 + 1) (snoc (insD g x i).2.1 (insD g x i).2.2 x) (g i))
    else ((insD g x i).1, (insD g x i).2.1 + 1, snoc (insD g x i).2.1 (insD g x i).2.2 (g i))
def insR (g : Nat → T_Bar) (nb : Nat) (x : T_Bar) : Nat × (Nat → T_Bar) :=
  if (insD g x nb).1 = true then ((insD g x nb).2.1, (insD g x nb).2.2) else ((insD g x nb).2.1 + 1, snoc (insD g x nb).2.1 (insD g x nb).2.2 x)
theorem insD_n (g : Nat → T_Bar) (x : T_Bar) : ∀ i, (insD g x i).2.1 = i + (if (insD g x i).1 = true then 1 else 0)
  | 0 => rfl
  | i + 1 => by
    have ih := insD_n g x i
    simp only [insD]
    split
    · rename_i h
      have hf : (insD g x i).1 = false := by
        cases e : (insD g x i).1 with
        | false => rfl
        | true => rw [e] at h; simp at h
      rw [hf] at ih
      simp only [if_true]
      simp at ih
      omega
    · simp only
      omega
theorem insR_n (g : Nat → T_Bar) (nb : Nat) (x : T_Bar) : (insR g nb x).1 = nb + 1 := by
  have h := insD_n g x nb
  unfold insR
  split
  · rename_i hp; rw [if_pos hp] at h; exact h
  · rename_i hp; rw [if_neg hp] at h; show (insD g x nb).2.1 + 1 = nb + 1; omega
theorem con_l2Put (g : Nat → T_Bar) (nb N : Nat) (x : T_Bar) (hnb : nb ≤ 1048576) : Con Try.prog 108 0 [] [grG g nb N, brA x] [(0, brOb (insR g nb x).1 (insR g nb x).2)] (.agg [.p (.int .i64 N), .ar 2 0 0 (insR g nb x).1]) := by
  refine con_start Try.func108 rfl (by kernel_rfl) rfl (fun c hc => ?_)
  have lp : ∀ d i, i + d = nb → Run Try.prog c 108 [.code (cAt (bodyOf Try.f108) [1, 1, 1, 0, 1, 0, 0]), .inLoop (cAt (bodyOf Try.f108) [1, 1, 1, 0, 1, 0, 0]), .inBlock 0, .code (cAt (bodyOf Try.f108) [1, 1, 1, 1])] (SL g nb N x i (insD g x i).2.1 (insD g x i).1 (insD g x i).2.2) (Post c [(0, brOb (insR g nb x).1 (insR g nb x).2)] (.agg [.p (.int .i64 N), .ar 2 0 0 (insR g nb x).1])) := by
    intro d
    induction d with
    | zero =>
      intro i hi
      obtain rfl : i = nb := by omega
      have hd : decide ((i : Int) < (i : Int)) = false := by simp
      have hn := insD_n g x i
      have hle : (insD g x i).2.1 ≤ i + 1 := by split at hn <;> omega
      cases hp : (insD g x i).1 with
      | true =>
        rw [show insR g i x = ((insD g x i).2.1, (insD g x i).2.2) by simp [insR, hp]]
        refine path_ok mixed Try.func108 hc (rLd g i N x i (insD g x i).2.1 true (insD g x i).2.2) ?_
        simp only [All]
        repeat' (first | exact trivial | with_reducible apply And.intro)
        all_goals (first | exact aG _ | exact aP _ _ | exact aA _ _ | exact aE _ | omega | rfl | (intros; first | assumption | exact True.intro | rfl | exact absurd (show false = true by assumption) Bool.false_ne_true | ((repeat' (first | assumption | apply anda | apply notf)); done)) | (intro i hi; simp [All, aEt]))
      | false =>
        rw [show insR g i x = ((insD g x i).2.1 + 1, snoc (insD g x i).2.1 (insD g x i).2.2 x) by simp [insR, hp]]
        refine path_ok mixed Try.func108 hc (rLc g i N x i (insD g x i).2.1 false (insD g x i).2.2) ?_
        simp only [All]
        repeat' (first | exact trivial | with_reducible apply And.intro)
        all_goals (first | exact aG _ | exact aP _ _ | exact aA _ _ | exact aE _ | omega | rfl | (intros; first | assumption | exact True.intro | rfl | exact absurd (show false = true by assumption) Bool.false_ne_true | ((repeat' (first | assumption | apply anda | apply notf)); done)) | (intro j hj; simp [All, aEt]; done) | (intro j hj; by_cases h : j < (insD g x i).2.1 <;> simp [h, snoc, cvtL, cvt, tg, tru, All]))
    | succ d ih =>
      intro i hi
      have hd : decide ((i : Int) < (nb : Int)) = true := by simp; omega
      have hn := insD_n g x i
      have hle : (insD g x i).2.1 ≤ i + 1 := by split at hn <;> omega
      have hca := con_l2After (g i) x
      have hs : insD g x (i + 1) = if (bif !(insD g x i).1 then !aft (g i) x else false) = true then (true, (insD g x i).2.1 + 1 + 1, snoc ((insD g x i).2.1 + 1) (snoc (insD g x i).2.1 (insD g x i).2.2 x) (g i)) else ((insD g x i).1, (insD g x i).2.1 + 1, snoc (insD g x i).2.1 (insD g x i).2.2 (g i)) := rfl
      have hih := ih (i + 1) (by omega)
      cases ht : (bif !(insD g x i).1 then !aft (g i) x else false) with
      | true =>
        rw [hs, if_pos ht] at hih
        refine piece_ok mixed hc (rLa g nb N x i (insD g x i).2.1 (insD g x i).1 (insD g x i).2.2) ?_ hih
        simp only [All]
        repeat' (first | exact trivial | with_reducible apply And.intro)
        all_goals (first | exact aG _ | exact aP _ _ | exact aA _ _ | exact aE _ | omega | rfl | (intros; first | assumption | exact True.intro | rfl | exact absurd (show false = true by assumption) Bool.false_ne_true | ((repeat' (first | assumption | apply anda | apply notf)); done)) | (intros; exact hca) | (exact ht) | (intro j hj; simp [All, aEt]; done) | (intro j hj; by_cases h : j < (insD g x i).2.1 + 1 <;> by_cases h' : j < (insD g x i).2.1 <;> simp [h, h', snoc, cvtL, cvt, tg, tru, All]) | (simp; omega))
      | false =>
        rw [hs, if_neg (by rw [ht]; simp)] at hih
        refine piece_ok mixed hc (rLb g nb N x i (insD g x i).2.1 (insD g x i).1 (insD g x i).2.2) ?_ hih
        simp only [All]
        repeat' (first | exact trivial | with_reducible apply And.intro)
        all_goals (first | exact aG _ | exact aP _ _ | exact aA _ _ | exact aE _ | omega | rfl | (intros; first | assumption | exact True.intro | rfl | exact absurd (show false = true by assumption) Bool.false_ne_true | ((repeat' (first | assumption | apply anda | apply notf)); done)) | (intros; exact hca) | (exact ht) | (intro j hj; simp [All, aEt]; done) | (intro j hj; by_cases h : j < (insD g x i).2.1 <;> simp [h, snoc, cvtL, cvt, tg, tru, All]))
  refine piece_ok mixed hc (rLz g nb N x) ?_ (lp nb 0 (by omega))
  simp only [All]
  repeat' (first | exact trivial | with_reducible apply And.intro)
  all_goals (first | exact aG _ | exact aP _ _ | exact aA _ _ | exact aE _ | omega | rfl | (intros; first | assumption | exact True.intro | rfl | exact absurd (show false = true by assumption) Bool.false_ne_true | ((repeat' (first | assumption | apply anda | apply notf)); done)) | (intro i hi; simp [All, aEt]))
end Go.Proofs.Ytgdbnnmogddkaaa.Mach
namespace Go.Proofs.Ytgdbnnmogddkaaa.Mach
open Go Go.Shelf Go.RowKit Go.Lib Go.Sort
set_option linter.unusedVariables false
set_option linter.unusedSimpArgs false
def ltB (x y : T_Bar) : Bool := ltOf cmpB x y
theorem ltB_iff (x y : T_Bar) : ltB x y = true ↔ x.1 < y.1 ∨ (x.1 = y.1 ∧ x.2.1 < y.2.1) := by
  rw [show ltB x y = decide (cmpB x y < 0) from rfl, decide_eq_true_iff]
  unfold cmpB
  rcases Int.lt_trichotomy x.1 y.1 with h | h | h
  · rw [cmpI_1 h]; simp; omega
  · rw [cmpI_3 (x := x.1) (y := y.1) (by omega) (by omega)]
    simp only [if_true]
    rcases Int.lt_trichotomy x.2.1 y.2.1 with h' | h' | h'
    · rw [cmpI_1 h']; simp; omega
    · rw [cmpI_3 (x := x.2.1) (y := y.2.1) (by omega) (by omega)]; simp; omega
    · rw [cmpI_2 h']; simp; omega
  · rw [cmpI_2 h]; simp; omega
theorem swoB : SWO (ltOf cmpB) where
  irrefl x := by
    cases h : ltOf cmpB x x with
    | false => rfl
    | true => have := (ltB_iff x x).1 h; omega
  trans x y z h1 h2 := by
    have h1 := (ltB_iff x y).1 h1
    have h2 := (ltB_iff y z).1 h2
    exact (ltB_iff x z).2 (by omega)
  ntrans x y z h1 h2 := by
    cases h : ltOf cmpB x z with
    | false => rfl
    | true =>
      have h3 := (ltB_iff x z).1 h
      have e1 : ¬ (x.1 < y.1 ∨ (x.1 = y.1 ∧ x.2.1 < y.2.1)) := fun h' => by rw [show ltOf cmpB x y = true from (ltB_iff x y).2 h'] at h1; cases h1
      have e2 : ¬ (y.1 < z.1 ∨ (y.1 = z.1 ∧ y.2.1 < z.2.1)) := fun h' => by rw [show ltOf cmpB y z = true from (ltB_iff y z).2 h'] at h2; cases h2
      omega
theorem totB (x y : T_Bar) (h1 : ltOf cmpB x y = false) (h2 : ltOf cmpB y x = false) : x = y := by
  have e1 : ¬ (x.1 < y.1 ∨ (x.1 = y.1 ∧ x.2.1 < y.2.1)) := fun h' => by rw [show ltOf cmpB x y = true from (ltB_iff x y).2 h'] at h1; cases h1
  have e2 : ¬ (y.1 < x.1 ∨ (y.1 = x.1 ∧ y.2.1 < x.2.1)) := fun h' => by rw [show ltOf cmpB y x = true from (ltB_iff y x).2 h'] at h2; cases h2
  obtain ⟨a, b, ⟨⟩⟩ := x
  obtain ⟨c, d, ⟨⟩⟩ := y
  simp only [Prod.mk.injEq, and_true] at e1 e2 ⊢
  omega
def lstB (n : Nat) (h : Nat → T_Bar) : List T_Bar := (List.range n).map h
def srtL (l : List T_Bar) : List T_Bar := l.mergeSort fun x y => !(ltOf cmpB) y x
def srtB (n : Nat) (h : Nat → T_Bar) (i : Nat) : T_Bar := (srtL (lstB n h)).getD i (0, 0, ())
theorem encB_len (x : T_Bar) : (encB x).length = 2 := rfl
theorem encB_one (x : T_Bar) : ∀ v ∈ encB x, v.oneCell' = true := by
  intro v hv
  simp only [encB, List.mem_cons, List.not_mem_nil, or_false] at hv
  rcases hv with rfl | rfl <;> rfl
theorem srtL_len (l : List T_Bar) : (srtL l).length = l.length := by simp [srtL]
theorem lstB_len (n : Nat) (h : Nat → T_Bar) : (lstB n h).length = n := by simp [lstB]
theorem con_sortBars (n : Nat) (h : Nat → T_Bar) (hn : n ≤ 1048576) :
    Con Try.prog 109 1 [(0, brOb n h)] [.ar 2 0 0 n, .p (.fn 82)] [(0, brOb n (srtB n h))] (.tup []) := by
  refine ⟨by kernel_rfl, fun w β X vals hX hH hS hd hl ha => ?_⟩
  obtain ⟨v0, v1, rfl⟩ : ∃ v0 v1, vals = #[v0, v1] := by
    rcases vals with ⟨l⟩
    match l, hl with
    | [a, b], _ => exact ⟨a, b, rfl⟩
  have h0 : VR w β (ow X β [(0, brOb n h)]) (.ar 2 0 0 n) v0 := ha 0 (by simp)
  have h1 : VR w β (ow X β [(0, brOb n h)]) (.p (.fn 82)) v1 := ha 1 (by simp)
  have e1 : v1 = .func (.func 82) #[] #[] := by
    cases h1 with
    | p _ _ hp => cases hp; rfl
  subst e1
  have hnil : ∀ (w' : World) (own : Bool → Nat → Prop), VR w' β own (.tup []) (.tuple #[]) := fun w' own => .tup [] #[] rfl (fun j hj => absurd hj (Nat.not_lt_zero _))
  rcases Nat.eq_zero_or_pos n with rfl | hpos
  · obtain ⟨p, cap, rfl⟩ : ∃ p cap, v0 = .slice p 0 cap := by
      cases h0 with
      | ar0 => exact ⟨_, _, rfl⟩
      | ar => exact ⟨_, _, rfl⟩
    refine (AnyF.slices_SortFunc_none (P := Try.prog) (ρ := Try.sortBar_ren) { Try.sortBar with } p cap _ w).mono ?_
    rintro e w' ⟨rfl, rfl⟩
    refine ⟨_, β, rfl, ?_, ?_, hnil _ _, ?_, fun o a h => h, fun b' h' => .inl ?_, fun k h => .inl h⟩
    · intro o ob hl
      obtain ⟨rfl, rfl⟩ := look_one hl
      rcases hH 0 _ rfl with ⟨hb, _⟩ | ⟨b, base, cells, el, hβ, hh, _⟩ | hm
      · exact .inl ⟨hb, rfl⟩
      · exact .inr (.inl ⟨b, base, cells, el, hβ, hh, fun i hi => absurd hi (Nat.not_lt_zero _)⟩)
      · exact absurd hm.1 (by simp [brOb])
    · intro o o' ob ob' a a' h1 h2 h3 h4 h5
      obtain ⟨rfl, rfl⟩ := look_one h1
      obtain ⟨rfl, rfl⟩ := look_one h2
      rfl
    · rw [ow_one X β (brOb 0 (srtB 0 h)) (brOb 0 h)]
      exact Ext.refl _ _
    · rw [own_one] at h' ⊢; exact h'
  · cases h0 with
    | ar0 => exact absurd hpos (Nat.lt_irrefl 0)
    | ar _ _ _ _ b base c cells elem fr' hβ hh hsz hc =>
      rcases hH 0 _ rfl with ⟨hb, _⟩ | ⟨b', base', cells', el', hβ', hh', hrw⟩ | hm
      · rw [hb] at hβ; cases hβ
      · rw [hβ] at hβ'
        injection hβ' with hβ'
        injection hβ' with i1 i2 _
        subst i1; subst i2
        rw [hh] at hh'
        injection hh' with hh'
        injection hh' with i1 i2 i3
        subst i1; subst i2; subst i3
        have hcell : ∀ i, i < n → cells[base + (i * 2 + 0)]? = some (.int .i64 (h i).1) ∧ cells[base + (i * 2 + 1)]? = some (.int .i64 (h i).2.1) := by
          intro i hi
          obtain ⟨u, hu1, hu2, hu3⟩ := hrw i hi 0 (by simp [brOb])
          obtain ⟨u', hu1', hu2', hu3'⟩ := hrw i hi 1 (by simp [brOb])
          have := vr_int (k := .i64) (x := (h i).1) hu3
          subst this
          have := vr_int (k := .i64) (x := (h i).2.1) hu3'
          subst this
          exact ⟨hu1, hu1'⟩
        have hend : base + n * 2 ≤ cells.size := by
          have := (hcell (n - 1) (by omega)).2
          rcases Nat.lt_or_ge (base + ((n - 1) * 2 + 1)) cells.size with h' | h'
          · omega
          · rw [Array.getElem?_eq_none h'] at this; cases this
        have hdz : ((lstB n h).toArray).size = n := by simp [lstB]
        have hdi : ∀ i, i < n → ((lstB n h).toArray)[i]! = h i := by
          intro i hi
          rw [getElem!_pos _ i (by rw [hdz]; exact hi)]
          simp [lstB]
        have hHK : HoldsK encB 2 w b base (lstB n h).toArray := by
          intro t ht
          rw [size_flatK, hdz] at ht
          rw [get_flatK _ _ _ _ (by rw [hdz]; exact ht), hdi (t / 2) (by omega)]
          have hc := hcell (t / 2) (by omega)
          rcases Nat.mod_two_eq_zero_or_one t with h2 | h2
          · refine ⟨?_, by simp [World.frozen?, hh]⟩
            rw [h2]
            have : base + t = base + (t / 2 * 2 + 0) := by omega
            simp only [World.cell?, hh]
            rw [this, hc.1]; rfl
          · refine ⟨?_, by simp [World.frozen?, hh]⟩
            rw [h2]
            have : base + t = base + (t / 2 * 2 + 1) := by omega
            simp only [World.cell?, hh]
            rw [this, hc.2]; rfl
        have hblk : b < w.heap.size := by
          rcases Nat.lt_or_ge b w.heap.size with h' | h'
          · exact h'
          · rw [Array.getElem?_eq_none h'] at hh; cases hh
        have eg : ∀ args w, (callFunc 82 args).run Try.prog w = .ok (.enter 82 args) w := enters_of Try.func82 (by kernel_rfl) rfl
        have hcmp : CmpLays Try.prog 82 #[] encB 2 cmpB b base (lstB n h).toArray.size w := fun _ _ _ _ x y => cmp_bars x y _
        have hcon := AnyQ.slices_SortFunc_total Try.sortBar 2 Try.isAgg70 Try.sizeOf70 encB encB_len encB_one cmpB swoB 82 #[] b base c (lstB n h).toArray w eg hcmp hHK hblk (by rw [hdz]; omega) totB
        rw [hdz] at hcon
        change Calls Try.prog 109 _ _ _ at hcon
        rw [show base + 0 * 2 = base by omega]
        refine hcon.mono ?_
        rintro e w' ⟨rfl, q, os, rfl⟩
        refine sW_post (F := flatK encB 2 (srtL (lstB n h)).toArray) hβ hh hS hend (by rw [size_flatK]; simp [srtL_len, lstB_len]) (fun i hi j hj => ?_) (hnil _)
        have hs : ((srtL (lstB n h)).toArray).size = n := by simp [srtL_len, lstB_len]
        have hi2 : i * 2 + j < n * 2 := by omega
        rw [get_flatK _ _ _ _ (by rw [hs]; exact hi2), show (i * 2 + j) / 2 = i by omega, show (i * 2 + j) % 2 = j by omega]
        have hgi : (srtL (lstB n h)).toArray[i]! = srtB n h i := by
          rw [getElem!_pos _ i (by rw [hs]; exact hi), srtB]
          simp [List.getD_eq_getElem?_getD, List.getElem?_eq_getElem (show i < (srtL (lstB n h)).length by rw [srtL_len, lstB_len]; exact hi)]
        rw [hgi]
        rcases (show j = 0 ∨ j = 1 by omega) with rfl | rfl
        · exact ⟨rfl, fun w' own => .p _ _ (.int _ _)⟩
        · exact ⟨rfl, fun w' own => .p _ _ (.int _ _)⟩
      · exact absurd hm.1 (by simp [brOb])
def leB (x y : T_Bar) : Prop := ltB y x = false
theorem leB_iff (x y : T_Bar) : leB x y ↔ x.1 < y.1 ∨ (x.1 = y.1 ∧ x.2.1 ≤ y.2.1) := by
  have h := ltB_iff y x
  unfold leB
  cases hb : ltB y x with
  | false => rw [hb] at h; simp only [Bool.false_eq_true, false_iff] at h; simp only [true_iff]; omega
  | true => rw [hb] at h; simp only [true_iff] at h; simp only [Bool.true_eq_false, false_iff]; omega
theorem aft_iff (x y : T_Bar) : aft x y = true ↔ leB x y := by
  rw [leB_iff]
  unfold aft
  by_cases h1 : x.1 < y.1
  · simp [h1]
  · by_cases h2 : x.1 = y.1 <;> simp [h1, h2]
theorem leB_antisymm (x y : T_Bar) (h1 : leB x y) (h2 : leB y x) : x = y := totB x y h2 h1
theorem srtL_sorted (l : List T_Bar) : (srtL l).Pairwise leB := by
  have h := List.pairwise_mergeSort (le := fun x y => !(ltOf cmpB) y x) (fun a b c h1 h2 => by
    simp only [Bool.not_eq_true'] at *
    have h1 := (leB_iff a b).1 h1
    have h2 := (leB_iff b c).1 h2
    exact (leB_iff a c).2 (by omega)) (fun a b => by
    simp only [Bool.or_eq_true, Bool.not_eq_true']
    rcases (show (a.1 < b.1 ∨ (a.1 = b.1 ∧ a.2.1 ≤ b.2.1)) ∨ (b.1 < a.1 ∨ (b.1 = a.1 ∧ b.2.1 ≤ a.2.1)) by omega) with h | h
    · exact .inl ((leB_iff a b).2 h)
    · exact .inr ((leB_iff b a).2 h)) l
  exact h.imp (fun {a b} h => show ltOf cmpB b a = false by simpa using h)
theorem srtL_perm (l : List T_Bar) : (srtL l).Perm l := List.mergeSort_perm l _
theorem srtL_eq {l m : List T_Bar} (hp : m.Perm l) (hs : m.Pairwise leB) : m = srtL l :=
  List.Perm.eq_of_pairwise (le := leB) (fun a b _ _ h1 h2 => leB_antisymm a b h1 h2) hs (srtL_sorted l) (hp.trans (srtL_perm l).symm)
theorem lstB_succ (n : Nat) (h : Nat → T_Bar) : lstB (n + 1) h = lstB n h ++ [h n] := by simp [lstB, List.range_succ]
theorem lstB_congr {n : Nat} {h h' : Nat → T_Bar} (he : ∀ i, i < n → h i = h' i) : lstB n h = lstB n h' := by
  simp only [lstB]
  exact List.map_congr_left (fun a ha => he a (List.mem_range.1 ha))
theorem lstB_snoc (n : Nat) (h : Nat → T_Bar) (x : T_Bar) : lstB (n + 1) (snoc n h x) = lstB n h ++ [x] := by
  rw [lstB_succ, lstB_congr (h' := h) (fun i hi => snoc_lt hi), snoc_ge (Nat.lt_irrefl n)]
theorem lstB_inj {n : Nat} {h h' : Nat → T_Bar} (he : lstB n h = lstB n h') (i : Nat) (hi : i < n) : h i = h' i := by
  have : (lstB n h)[i]? = (lstB n h')[i]? := by rw [he]
  simpa [lstB, hi] using this
theorem lstB_srt (n : Nat) (h : Nat → T_Bar) : lstB n (srtB n h) = srtL (lstB n h) := by
  refine List.ext_getElem? (fun i => ?_)
  rcases Nat.lt_or_ge i n with hi | hi
  · have : i < (srtL (lstB n h)).length := by rw [srtL_len, lstB_len]; exact hi
    simp only [lstB, List.getElem?_map, List.getElem?_range hi, Option.map_some]
    rw [show srtL (List.map h (List.range n)) = srtL (lstB n h) from rfl, List.getElem?_eq_getElem this]
    simp [srtB, List.getD_eq_getElem?_getD, List.getElem?_eq_getElem this]
  · rw [List.getElem?_eq_none (by rw [lstB_len]; exact hi), List.getElem?_eq_none (by rw [srtL_len, lstB_len]; exact hi)]
theorem insD_list (g : Nat → T_Bar) (x : T_Bar) (nb : Nat) (hs : (lstB nb g).Pairwise leB) : ∀ i, i ≤ nb →
    (lstB (insD g x i).2.1 (insD g x i).2.2).Perm (lstB i g ++ (if (insD g x i).1 = true then [x] else [])) ∧
    (lstB (insD g x i).2.1 (insD g x i).2.2).Pairwise leB ∧ ((insD g x i).1 = false → (lstB (insD g x i).2.1 (insD g x i).2.2) = lstB i g ∧ ∀ s, s < i → leB (g s) x) ∧
    ((insD g x i).1 = true → ∀ s, s < nb → i ≤ s → ∀ y ∈ lstB (insD g x i).2.1 (insD g x i).2.2, leB y (g s)) := by
  have hmono : ∀ s s', s < s' → s' < nb → leB (g s) (g s') := by
    intro s s' h1 h2
    have := List.pairwise_iff_getElem.1 hs s s' (by rw [lstB_len]; omega) (by rw [lstB_len]; omega) h1
    simpa [lstB] using this
  have htr : ∀ {a b c : T_Bar}, leB a b → leB b c → leB a c := by
    intro a b c h1 h2
    have h1 := (leB_iff a b).1 h1
    have h2 := (leB_iff b c).1 h2
    exact (leB_iff a c).2 (by omega)
  intro i
  induction i with
  | zero => intro _; exact ⟨by simp [insD, lstB], by simp [insD, lstB], fun _ => ⟨rfl, fun s h => absurd h (Nat.not_lt_zero _)⟩, fun h => by simp [insD] at h⟩
  | succ i ih =>
    intro hi
    obtain ⟨ih1, ih2, ih3, ih4⟩ := ih (by omega)
    simp only [insD]
    split
    · rename_i ht
      have hf : (insD g x i).1 = false := by
        cases e : (insD g x i).1 with
        | false => rfl
        | true => rw [e] at ht; simp at ht
      rw [hf] at ht
      simp only [Bool.not_false, cond_true, Bool.not_eq_true'] at ht
      have hxg : leB x (g i) := by
        have h1 : ¬ leB (g i) x := fun h => by rw [(aft_iff _ _).2 h] at ht; cases ht
        rw [leB_iff] at h1 ⊢
        omega
      obtain ⟨e1, e2⟩ := ih3 hf
      simp only [if_true]
      rw [lstB_snoc, lstB_snoc, e1]
      have hlt : ∀ y ∈ lstB i g, leB y x ∧ leB y (g i) := by
        intro y hy
        simp only [lstB, List.mem_map, List.mem_range] at hy
        obtain ⟨s, h1, rfl⟩ := hy
        exact ⟨e2 s h1, hmono s i h1 (by omega)⟩
      refine ⟨?_, ?_, fun h => by simp at h, fun _ s hs1 hs2 y hy => ?_⟩
      · rw [lstB_succ, List.append_assoc, List.append_assoc]
        exact List.Perm.append_left _ (List.Perm.swap _ _ _)
      · rw [e1] at ih2
        rw [List.append_assoc, List.pairwise_append]
        refine ⟨ih2, by simp [hxg], fun y hy y' hy' => ?_⟩
        simp only [List.cons_append, List.nil_append, List.mem_cons, List.not_mem_nil, or_false] at hy'
        rcases hy' with rfl | rfl
        · exact (hlt y hy).1
        · exact (hlt y hy).2
      · have his : leB (g i) (g s) := hmono i s (by omega) hs1
        simp only [List.mem_append, List.mem_cons, List.not_mem_nil, or_false] at hy
        rcases hy with (hy | rfl) | rfl
        · exact htr (hlt y hy).2 his
        · exact htr hxg his
        · exact his
    · rename_i ht
      rw [lstB_snoc]
      refine ⟨?_, ?_, fun h => ?_, fun h s hs1 hs2 y hy => ?_⟩
      · rw [lstB_succ, List.append_assoc]
        refine (List.Perm.append_right [g i] ih1).trans ?_
        rw [List.append_assoc]
        exact List.Perm.append_left _ List.perm_append_comm
      · rw [List.pairwise_append]
        refine ⟨ih2, by simp, fun y hy y' hy' => ?_⟩
        simp only [List.mem_cons, List.not_mem_nil, or_false] at hy'
        subst hy'
        cases hp : (insD g x i).1 with
        | true => exact ih4 hp i (by omega) (Nat.le_refl _) y hy
        | false =>
          rw [(ih3 hp).1] at hy
          simp only [lstB, List.mem_map, List.mem_range] at hy
          obtain ⟨s, h1, rfl⟩ := hy
          exact hmono s i h1 (by omega)
      · simp only at h
        obtain ⟨e1, e2⟩ := ih3 h
        refine ⟨by rw [e1, lstB_succ], fun s hs1 => ?_⟩
        rcases Nat.lt_or_ge s i with h' | h'
        · exact e2 s h'
        · obtain rfl : s = i := by omega
          rw [h] at ht
          simp only [Bool.not_false, cond_true, Bool.not_eq_true', Bool.not_eq_false] at ht
          exact (aft_iff _ _).1 ht
      · simp only at h
        simp only [List.mem_append, List.mem_cons, List.not_mem_nil, or_false] at hy
        rcases hy with hy | rfl
        · exact ih4 h s hs1 (by omega) y hy
        · exact hmono i s (by omega) hs1
theorem insR_list (g : Nat → T_Bar) (nb : Nat) (x : T_Bar) (hs : (lstB nb g).Pairwise leB) :
    lstB (insR g nb x).1 (insR g nb x).2 = srtL (lstB nb g ++ [x]) := by
  obtain ⟨h1, h2, h3, h4⟩ := insD_list g x nb hs nb (Nat.le_refl _)
  unfold insR
  split
  · rename_i hp
    rw [if_pos hp] at h1
    exact srtL_eq h1 h2
  · rename_i hp
    have hf : (insD g x nb).1 = false := by simpa using hp
    obtain ⟨e1, e2⟩ := h3 hf
    simp only
    rw [lstB_snoc, e1]
    refine srtL_eq (List.Perm.refl _) ?_
    rw [List.pairwise_append]
    refine ⟨hs, by simp, fun y hy y' hy' => ?_⟩
    simp only [List.mem_cons, List.not_mem_nil, or_false] at hy'
    subst hy'
    simp only [lstB, List.mem_map, List.mem_range] at hy
    obtain ⟨s, h', rfl⟩ := hy
    exact e2 s h'
end Go.Proofs.Ytgdbnnmogddkaaa.Mach
namespace Go.Proofs.Ytgdbnnmogddkaaa.Mach
open Go
set_option linter.unusedVariables false
set_option linter.unusedSimpArgs false
def hasI (g : Nat → Int) (x : Int) : Nat → Bool
  | 0 => false
  | k + 1 => hasI g x k || g k == x
def inL (v : T_IntS) : AV := .p (.seq true 1 v.1 (fun i => [.int .i64 (v.2 i)]))
def S85 (v : T_IntS) (x : Int) (k : Nat) : St :=
  ⟨[inL v, .p (.int .i64 x), .p .any, .p .any, .p .any, .p (.int .i64 k)] ++ List.replicate 12 anyA, [], 0⟩
def S112 (v : T_IntS) (x : Int) (k : Nat) : St :=
  ⟨[inL v, .p (.int .i64 x)] ++ List.replicate 5 anyA ++ [.p (.int .i64 v.1), .p (.int .i64 k)] ++ List.replicate 10 anyA, [], 0⟩
theorem p85a (v : T_IntS) (x : Int) :
    pieceOb Try.prog 0 [.reg [oT], .reg [oT], .head] [.code (bodyOf Try.f93)] (start Try.f93 [] 0 [inL v, .p (.int .i64 x)]) [] 1 (S85 v x 0) =
    some ([.code (cAt (bodyOf Try.f93) [1, 0, 1, 0, 0]), .inLoop (cAt (bodyOf Try.f93) [1, 0, 1, 0, 0]), .inBlock 0, .code (cAt (bodyOf Try.f93) [1, 1])], [(AN v.1),
  (AP v.1 (fun i => [.int .i64 (v.2 i)])),
  (AI x),
  ((0 : Int) = (↑0 : Int))]) := by kernel_rfl
theorem p85b (v : T_IntS) (x : Int) (k : Nat) :
    pieceOb Try.prog 0 [.reg [oT, oT, oT, oT], .dec true, .reg [oT, oT, oT, oT, oT, oT], .dec false, .reg [oT, oT, oT], .head] [.code (cAt (bodyOf Try.f93) [1, 0, 1, 0, 0]), .inLoop (cAt (bodyOf Try.f93) [1, 0, 1, 0, 0]), .inBlock 0, .code (cAt (bodyOf Try.f93) [1, 1])] (S85 v x k) [] 1 (S85 v x (k + 1)) =
    some ([.code (cAt (bodyOf Try.f93) [1, 0, 1, 0, 0]), .inLoop (cAt (bodyOf Try.f93) [1, 0, 1, 0, 0]), .inBlock 0, .code (cAt (bodyOf Try.f93) [1, 1])], [((decide ((↑k : Int) < (↑v.1 : Int))) = true),
  ((0 : Int) ≤ (↑k : Int)),
  (((↑k : Int) : Int) < (↑v.1 : Int)),
  ((v.2 k == x) = false),
  (((-9223372036854775808) : Int) ≤ ((↑k : Int) + 1)),
  ((((↑k : Int) + 1) : Int) ≤ 9223372036854775807),
  (AN v.1),
  (AP v.1 (fun i => [.int .i64 (v.2 i)])),
  (AI x),
  ((((↑k : Int) + 1) : Int) = (↑(k + 1) : Int))]) := by kernel_rfl
theorem p85c (v : T_IntS) (x : Int) (k : Nat) :
    pathOb Try.prog Try.f93 0 [.reg [oT, oT, oT, oT], .dec true, .reg [oT, oT, oT, oT, oT, oT], .dec true, .reg [oT]] [.code (cAt (bodyOf Try.f93) [1, 0, 1, 0, 0]), .inLoop (cAt (bodyOf Try.f93) [1, 0, 1, 0, 0]), .inBlock 0, .code (cAt (bodyOf Try.f93) [1, 1])] (S85 v x k) [] 1 [] (.p (.bool true)) =
    some [((decide ((↑k : Int) < (↑v.1 : Int))) = true),
  ((0 : Int) ≤ (↑k : Int)),
  (((↑k : Int) : Int) < (↑v.1 : Int)),
  ((v.2 k == x) = true),
  (true = true)] := by kernel_rfl
theorem p85d (v : T_IntS) (x : Int) (k : Nat) :
    pathOb Try.prog Try.f93 0 [.reg [oT, oT, oT, oT], .dec false, .reg [oT]] [.code (cAt (bodyOf Try.f93) [1, 0, 1, 0, 0]), .inLoop (cAt (bodyOf Try.f93) [1, 0, 1, 0, 0]), .inBlock 0, .code (cAt (bodyOf Try.f93) [1, 1])] (S85 v x k) [] 1 [] (.p (.bool false)) =
    some [((decide ((↑k : Int) < (↑v.1 : Int))) = false),
  (false = false)] := by kernel_rfl
theorem p112a (v : T_IntS) (x : Int) :
    pieceOb Try.prog 0 [.reg [oT], .reg [oT, oT, oT], .head] [.code (bodyOf Try.f118)] (start Try.f118 [] 0 [inL v, .p (.int .i64 x)]) [] 1 (S112 v x 0) =
    some ([.code (cAt (bodyOf Try.f118) [1, 0, 1, 0, 0]), .inLoop (cAt (bodyOf Try.f118) [1, 0, 1, 0, 0]), .inBlock 0, .code (cAt (bodyOf Try.f118) [1, 1])], [(AN v.1),
  (AP v.1 (fun i => [.int .i64 (v.2 i)])),
  (AI x),
  (AI ((↑v.1 : Int))),
  ((0 : Int) = (↑0 : Int))]) := by kernel_rfl
theorem p112b (v : T_IntS) (x : Int) (k : Nat) :
    pieceOb Try.prog 0 [.reg [oT], .dec true, .reg [oT, oT], .reg [oT, oT, oT, oT, oT, oT], .dec false, .reg [oT, oT], .head] [.code (cAt (bodyOf Try.f118) [1, 0, 1, 0, 0]), .inLoop (cAt (bodyOf Try.f118) [1, 0, 1, 0, 0]), .inBlock 0, .code (cAt (bodyOf Try.f118) [1, 1])] (S112 v x k) [] 1 (S112 v x (k + 1)) =
    some ([.code (cAt (bodyOf Try.f118) [1, 0, 1, 0, 0]), .inLoop (cAt (bodyOf Try.f118) [1, 0, 1, 0, 0]), .inBlock 0, .code (cAt (bodyOf Try.f118) [1, 1])], [((decide ((↑k : Int) < (↑v.1 : Int))) = true),
  ((0 : Int) ≤ (↑k : Int)),
  (((↑k : Int) : Int) < (↑v.1 : Int)),
  ((x == v.2 k) = false),
  (((-9223372036854775808) : Int) ≤ ((↑k : Int) + 1)),
  ((((↑k : Int) + 1) : Int) ≤ 9223372036854775807),
  (AN v.1),
  (AP v.1 (fun i => [.int .i64 (v.2 i)])),
  (AI x),
  (AI ((↑v.1 : Int))),
  ((((↑k : Int) + 1) : Int) = (↑(k + 1) : Int))]) := by kernel_rfl
theorem p112c (v : T_IntS) (x : Int) (k : Nat) :
    pathOb Try.prog Try.f118 0 [.reg [oT], .dec true, .reg [oT, oT], .reg [oT, oT, oT, oT, oT, oT], .dec true, .reg [oT, oT]] [.code (cAt (bodyOf Try.f118) [1, 0, 1, 0, 0]), .inLoop (cAt (bodyOf Try.f118) [1, 0, 1, 0, 0]), .inBlock 0, .code (cAt (bodyOf Try.f118) [1, 1])] (S112 v x k) [] 1 [] (.p (.int .i64 k)) =
    some [((decide ((↑k : Int) < (↑v.1 : Int))) = true),
  ((0 : Int) ≤ (↑k : Int)),
  (((↑k : Int) : Int) < (↑v.1 : Int)),
  ((x == v.2 k) = true),
  (AI ((↑k : Int)))] := by kernel_rfl
theorem p112d (v : T_IntS) (x : Int) (k : Nat) :
    pathOb Try.prog Try.f118 0 [.reg [oT], .dec false, .reg [oT]] [.code (cAt (bodyOf Try.f118) [1, 0, 1, 0, 0]), .inLoop (cAt (bodyOf Try.f118) [1, 0, 1, 0, 0]), .inBlock 0, .code (cAt (bodyOf Try.f118) [1, 1])] (S112 v x k) [] 1 [] (.p (.int .i64 (-1))) =
    some [((decide ((↑k : Int) < (↑v.1 : Int))) = false),
  (AI ((-1)))] := by kernel_rfl
theorem p90 (v : T_IntS) (x r : Int) :
    pathOb Try.prog Try.f83 0 [.reg [oT], .reg [oT, oT, ⟨true, (some ⟨[], [], [], 1, [], .p (.int .i64 r)⟩), none⟩, oT, oT]] [.code (bodyOf Try.f83)] (start Try.f83 [] 0 [inL v, .p (.int .i64 x)]) [] 1 [] (.p (.bool (decide (r ≥ 0)))) =
    some [Con Try.prog 118 0 [] [.p (.seq true 1 v.1 (fun i => [.int .i64 (v.2 i)])), .p (.int .i64 x)] [] (.p (.int .i64 r)),
  ((decide (r ≥ 0)) = (decide (r ≥ 0)))] := by kernel_rfl
theorem hasI_hit (g : Nat → Int) (x : Int) (k : Nat) (h : (g k == x) = true) : ∀ n, k < n → hasI g x n = true
  | 0, h' => by omega
  | n + 1, h' => by
    by_cases e : k = n
    · subst e; simp [hasI, h]
    · simp [hasI, hasI_hit g x k h n (by omega)]
theorem con_l2Has (v : T_IntS) (x : Int) (hn : v.1 ≤ 1048576) : Con Try.prog 93 0 [] [inL v, .p (.int .i64 x)] [] (.p (.bool (hasI v.2 x v.1))) := by
  refine con_start Try.func93 rfl (by kernel_rfl) rfl (fun c hc => ?_)
  have lp : ∀ m k, k + m = v.1 → hasI v.2 x k = false → Run Try.prog c 93 [.code (cAt (bodyOf Try.f93) [1, 0, 1, 0, 0]), .inLoop (cAt (bodyOf Try.f93) [1, 0, 1, 0, 0]), .inBlock 0, .code (cAt (bodyOf Try.f93) [1, 1])] (S85 v x k) (Post c [] (.p (.bool (hasI v.2 x v.1)))) := by
    intro m
    induction m with
    | zero =>
      intro k hk hg
      rw [show hasI v.2 x v.1 = false by rw [show v.1 = k by omega]; exact hg]
      have hd : decide ((k : Int) < (v.1 : Int)) = false := by simp; omega
      refine path_ok mixed Try.func93 hc (p85d v x k) ?_
      simp only [All]
      repeat' (first | exact trivial | with_reducible apply And.intro)
      all_goals (first | exact aG _ | exact aP _ _ | exact aA _ _ | exact aE _ | omega | rfl | (intros; first | assumption | exact True.intro | rfl | exact absurd (show false = true by assumption) Bool.false_ne_true | ((repeat' (first | assumption | apply anda | apply notf)); done)))
    | succ m ih =>
      intro k hk hg
      have hd : decide ((k : Int) < (v.1 : Int)) = true := by simp; omega
      cases he : (v.2 k == x) with
      | true =>
        rw [hasI_hit v.2 x k he v.1 (by omega)]
        refine path_ok mixed Try.func93 hc (p85c v x k) ?_
        simp only [All]
        repeat' (first | exact trivial | with_reducible apply And.intro)
        all_goals (first | exact aG _ | exact aP _ _ | exact aA _ _ | exact aE _ | omega | rfl | (intros; first | assumption | exact True.intro | rfl | exact absurd (show false = true by assumption) Bool.false_ne_true | ((repeat' (first | assumption | apply anda | apply notf)); done)) | (exact he))
      | false =>
        refine piece_ok mixed hc (p85b v x k) ?_ (ih (k + 1) (by omega) (by simp only [hasI, hg, he]; rfl))
        simp only [All]
        repeat' (first | exact trivial | with_reducible apply And.intro)
        all_goals (first | exact aG _ | exact aP _ _ | exact aA _ _ | exact aE _ | omega | rfl | (intros; first | assumption | exact True.intro | rfl | exact absurd (show false = true by assumption) Bool.false_ne_true | ((repeat' (first | assumption | apply anda | apply notf)); done)) | (exact he))
  refine piece_ok mixed hc (p85a v x) ?_ (lp v.1 0 (by omega) rfl)
  simp only [All]
  repeat' (first | exact trivial | with_reducible apply And.intro)
  all_goals (first | exact aG _ | exact aP _ _ | exact aA _ _ | exact aE _ | omega | rfl | (intros; first | assumption | exact True.intro | rfl | exact absurd (show false = true by assumption) Bool.false_ne_true | ((repeat' (first | assumption | apply anda | apply notf)); done)))
theorem con_Index (v : T_IntS) (x : Int) (hn : v.1 ≤ 1048576) : ∃ r : Int, decide (r ≥ 0) = hasI v.2 x v.1 ∧ Con Try.prog 118 0 [] [inL v, .p (.int .i64 x)] [] (.p (.int .i64 r)) := by
  have key : (∃ k, k < v.1 ∧ hasI v.2 x k = false ∧ (v.2 k == x) = true) ∨ hasI v.2 x v.1 = false := by
    have gen : ∀ n, (∃ k, k < n ∧ hasI v.2 x k = false ∧ (v.2 k == x) = true) ∨ hasI v.2 x n = false := by
      intro n
      induction n with
      | zero => exact .inr rfl
      | succ n ih =>
        rcases ih with ⟨k, h1, h2⟩ | h
        · exact .inl ⟨k, by omega, h2⟩
        · cases he : (v.2 n == x) with
          | true => exact .inl ⟨n, by omega, h, he⟩
          | false => exact .inr (by simp only [hasI, h, he]; rfl)
    exact gen v.1
  rcases key with ⟨q, hq, hq1, hq2⟩ | hno
  · refine ⟨(q : Int), by rw [hasI_hit v.2 x q hq2 v.1 hq]; simp, ?_⟩
    refine con_start Try.func118 rfl (by kernel_rfl) rfl (fun c hc => ?_)
    have lp : ∀ m k, k + m = q → Run Try.prog c 118 [.code (cAt (bodyOf Try.f118) [1, 0, 1, 0, 0]), .inLoop (cAt (bodyOf Try.f118) [1, 0, 1, 0, 0]), .inBlock 0, .code (cAt (bodyOf Try.f118) [1, 1])] (S112 v x k) (Post c [] (.p (.int .i64 (q : Int)))) := by
      intro m
      induction m with
      | zero =>
        intro k hk
        obtain rfl : k = q := by omega
        have hd : decide ((k : Int) < (v.1 : Int)) = true := by simp; omega
        have he : (x == v.2 k) = true := by rw [beq_iff_eq] at hq2 ⊢; exact hq2.symm
        refine path_ok mixed Try.func118 hc (p112c v x k) ?_
        simp only [All]
        repeat' (first | exact trivial | with_reducible apply And.intro)
        all_goals (first | exact aG _ | exact aP _ _ | exact aA _ _ | exact aE _ | omega | rfl | (intros; first | assumption | exact True.intro | rfl | exact absurd (show false = true by assumption) Bool.false_ne_true | ((repeat' (first | assumption | apply anda | apply notf)); done)) | (exact he))
      | succ m ih =>
        intro k hk
        have hd : decide ((k : Int) < (v.1 : Int)) = true := by simp; omega
        have he : (x == v.2 k) = false := by
          cases h : (v.2 k == x) with
          | true => rw [hasI_hit v.2 x k h q (by omega)] at hq1; cases hq1
          | false =>
            simp only [beq_eq_false_iff_ne, ne_eq] at h ⊢
            exact fun e => h e.symm
        refine piece_ok mixed hc (p112b v x k) ?_ (ih (k + 1) (by omega))
        simp only [All]
        repeat' (first | exact trivial | with_reducible apply And.intro)
        all_goals (first | exact aG _ | exact aP _ _ | exact aA _ _ | exact aE _ | omega | rfl | (intros; first | assumption | exact True.intro | rfl | exact absurd (show false = true by assumption) Bool.false_ne_true | ((repeat' (first | assumption | apply anda | apply notf)); done)) | (exact he))
    refine piece_ok mixed hc (p112a v x) ?_ (lp q 0 (by omega))
    simp only [All]
    repeat' (first | exact trivial | with_reducible apply And.intro)
    all_goals (first | exact aG _ | exact aP _ _ | exact aA _ _ | exact aE _ | omega | rfl | (intros; first | assumption | exact True.intro | rfl | exact absurd (show false = true by assumption) Bool.false_ne_true | ((repeat' (first | assumption | apply anda | apply notf)); done)))
  · refine ⟨-1, by rw [hno]; rfl, ?_⟩
    refine con_start Try.func118 rfl (by kernel_rfl) rfl (fun c hc => ?_)
    have lp : ∀ m k, k + m = v.1 → Run Try.prog c 118 [.code (cAt (bodyOf Try.f118) [1, 0, 1, 0, 0]), .inLoop (cAt (bodyOf Try.f118) [1, 0, 1, 0, 0]), .inBlock 0, .code (cAt (bodyOf Try.f118) [1, 1])] (S112 v x k) (Post c [] (.p (.int .i64 (-1)))) := by
      intro m
      induction m with
      | zero =>
        intro k hk
        have hd : decide ((k : Int) < (v.1 : Int)) = false := by simp; omega
        refine path_ok mixed Try.func118 hc (p112d v x k) ?_
        simp only [All]
        repeat' (first | exact trivial | with_reducible apply And.intro)
        all_goals (first | exact aG _ | exact aP _ _ | exact aA _ _ | exact aE _ | omega | rfl | (intros; first | assumption | exact True.intro | rfl | exact absurd (show false = true by assumption) Bool.false_ne_true | ((repeat' (first | assumption | apply anda | apply notf)); done)))
      | succ m ih =>
        intro k hk
        have hd : decide ((k : Int) < (v.1 : Int)) = true := by simp; omega
        have he : (x == v.2 k) = false := by
          cases h : (v.2 k == x) with
          | true => rw [hasI_hit v.2 x k h v.1 (by omega)] at hno; cases hno
          | false =>
            simp only [beq_eq_false_iff_ne, ne_eq] at h ⊢
            exact fun e => h e.symm
        refine piece_ok mixed hc (p112b v x k) ?_ (ih (k + 1) (by omega))
        simp only [All]
        repeat' (first | exact trivial | with_reducible apply And.intro)
        all_goals (first | exact aG _ | exact aP _ _ | exact aA _ _ | exact aE _ | omega | rfl | (intros; first | assumption | exact True.intro | rfl | exact absurd (show false = true by assumption) Bool.false_ne_true | ((repeat' (first | assumption | apply anda | apply notf)); done)) | (exact he))
    refine piece_ok mixed hc (p112a v x) ?_ (lp v.1 0 (by omega))
    simp only [All]
    repeat' (first | exact trivial | with_reducible apply And.intro)
    all_goals (first | exact aG _ | exact aP _ _ | exact aA _ _ | exact aE _ | omega | rfl | (intros; first | assumption | exact True.intro | rfl | exact absurd (show false = true by assumption) Bool.false_ne_true | ((repeat' (first | assumption | apply anda | apply notf)); done)))
theorem con_Contains (v : T_IntS) (x : Int) (hn : v.1 ≤ 1048576) : Con Try.prog 83 0 [] [inL v, .p (.int .i64 x)] [] (.p (.bool (hasI v.2 x v.1))) := by
  obtain ⟨r, hr, hcon⟩ := con_Index v x hn
  rw [← hr]
  refine con_start Try.func83 rfl (by kernel_rfl) rfl (fun c hc => ?_)
  refine path_ok mixed Try.func83 hc (p90 v x r) ?_
  simp only [All]
  repeat' (first | exact trivial | with_reducible apply And.intro)
  all_goals (first | exact aG _ | exact aP _ _ | exact aA _ _ | exact aE _ | omega | rfl | (intros; first | assumption | exact True.intro | rfl | exact absurd (show false = true by assumption) Bool.false_ne_true | ((repeat' (first | assumption | apply anda | apply notf)); done)) | (exact hcon))
end Go.Proofs.Ytgdbnnmogddkaaa.Mach
namespace Go.Proofs.Ytgdbnnmogddkaaa.Mach
open Go Go.Sort
set_option linter.unusedVariables false
set_option linter.unusedSimpArgs false
def brX (a b : Int) : T_Bar := (if b < a then b else a, if b > a then b else a, ())
def difN (N : Int) (s : Nat → Int) (k : Nat) : Bool := bif !inB (s k) 0 (N - 1) then true else hasI s (s k) k
def difZ (N : Int) (s : Nat → Int) (k : Nat) : Bool := bif bif decide (s k < 0) then true else decide (s k ≥ N) then true else hasI s (s k) k
def okD (N : Int) (s : Nat → Int) : Nat → Bool
  | 0 => true
  | k + 1 => okD N s k && !difN N s k
def SDi (v : T_Graph) (u : T_IntS) (k : Nat) : St :=
  ⟨[graphA v, inL u, .pt 2 0 0 0, .p .any, .p (.bool false), .p .any, .p .any, inL u, .p (.int .i64 u.1), .p (.int .i64 k)] ++ List.replicate 16 anyA, [(0, boxG v)], 1⟩
def SDs (v : T_Graph) (u : T_IntS) (k : Nat) : St :=
  ⟨[graphA v, inL u, .pt 2 0 0 0, .p .any, .p (.bool false), .p (.int .i64 k)] ++ List.replicate 30 anyA, [(0, boxG v)], 1⟩
def rnD (g : Nat → T_Bar) (s : Nat → Int) (i : Nat) : T_Bar := brX (s (g i).1.toNat) (s (g i).2.1.toNat)
def zG2 : Ob := ⟨true, 2, 1, fun _ => [.p (.int .i64 0), .p .nil]⟩
def SRi (v : T_Graph) (u : T_IntS) (k : Nat) (h : Nat → T_Bar) : St :=
  ⟨[graphA v, inL u, .pt 2 0 0 0, .p .any, .pt 2 1 0 0, .p (.bool false), .pt 2 2 0 0] ++ List.replicate 23 anyA ++ [graphL v.2.1, .p (.int .i64 v.2.1.1), .p (.int .i64 k)] ++ List.replicate 24 anyA,
   [(0, boxG v), (1, zG2), (2, ⟨true, 2, 1, fun _ => [.p (.int .i64 v.1), .ar 2 3 0 k]⟩), (3, brOb k h)], 4⟩
def SRs (v : T_Graph) (u : T_IntS) (k n : Nat) (h : Nat → T_Bar) : St :=
  ⟨[graphA v, inL u, .pt 2 0 0 0, .p .any, .pt 2 1 0 0, .p (.bool false), .pt 2 2 0 0, .p (.int .i64 k)] ++ List.replicate 58 anyA,
   [(0, boxG v), (1, zG2), (2, ⟨true, 2, 1, fun _ => [.p (.int .i64 v.1), .ar 2 3 0 n]⟩), (3, brOb n h)], 4⟩
theorem dBar (a b : Int) :
    pathOb Try.prog Try.f106 0 [.reg [oT], .reg [oT, oT, oT, oT, oT, oT, oT, oT]] [.code (bodyOf Try.f106)] (start Try.f106 [] 0 [.p (.int .i64 a), .p (.int .i64 b)]) [] 1 [] (.agg [.p (.int .i64 (if b < a then b else a)), .p (.int .i64 (if b > a then b else a))]) =
    some [((0 : Nat) < 1),
  ((true = true) → (AN 1)),
  ((0 : Nat) < 1),
  (((if false = true then if b > a then b else a else if b < a then b else a) : Int) = (if b < a then b else a)),
  (((if true = true then if b > a then b else a else if b < a then b else a) : Int) = (if b > a then b else a))] := by kernel_rfl
theorem dHas (v : T_Graph) (p : Int) :
    pathOb Try.prog Try.f101 0 [.reg [oT, oT], .reg [oT, oT, oT, oT, ⟨true, (some ⟨[], [], [], 1, [], .p (.bool (inB p 0 (v.1 - 1)))⟩), none⟩, oT]] [.code (bodyOf Try.f101)] (start Try.f101 [] 0 [graphA v, .p (.int .i64 p)]) [] 1 [] (.p (.bool (inB p 0 (v.1 - 1)))) =
    some [((0 : Nat) < 1),
  (((-9223372036854775808) : Int) ≤ (v.1 - 1)),
  (((v.1 - 1) : Int) ≤ 9223372036854775807),
  Con Try.prog 115 0 [] [.p (.int .i64 p), .p (.int .i64 0), .p (.int .i64 (v.1 - 1))] [] (.p (.bool (inB p 0 (v.1 - 1)))),
  ((inB p 0 (v.1 - 1)) = (inB p 0 (v.1 - 1)))] := by kernel_rfl
theorem dDa (v : T_Graph) (u : T_IntS) :
    pieceOb Try.prog 0 [.reg [oT, oT], .reg [oT, oT, oT], .head] [.code (bodyOf Try.f116)] (start Try.f116 [] 0 [graphA v, inL u]) [0] 1 (SDi v u 0) =
    some ([.code (cAt (bodyOf Try.f116) [1, 0, 1, 0, 0]), .inLoop (cAt (bodyOf Try.f116) [1, 0, 1, 0, 0]), .inBlock 0, .code (cAt (bodyOf Try.f116) [1, 1])], [(AI v.1),
  (AN v.2.1.1),
  (AP v.2.1.1 (fun i => [.int .i64 ((v.2.1.2 i).1), .int .i64 ((v.2.1.2 i).2.1)])),
  (AN u.1),
  (AP u.1 (fun i => [.int .i64 (u.2 i)])),
  (AN 0),
  (false = false),
  (AN u.1),
  (AP u.1 (fun i => [.int .i64 (u.2 i)])),
  (AI ((↑u.1 : Int))),
  ((0 : Int) = (↑0 : Int)),
  ((([AV.p (PV.int IntKind.i64 v.1), graphL v.2.1].length) : Nat) = 2),
  ((1 : Nat) ≤ 1),
  ((1 : Nat) ≤ 1),
  (AI v.1),
  (AN v.2.1.1),
  (AP v.2.1.1 (fun i => [.int .i64 ((v.2.1.2 i).1), .int .i64 ((v.2.1.2 i).2.1)]))]) := by kernel_rfl
theorem dDb (v : T_Graph) (u : T_IntS) (k : Nat) :
    pieceOb Try.prog 0 [.reg [oT], .dec true, .reg [oT, oT, oT, oT, oT], .reg [oT, oT, ⟨true, (some ⟨[], [], [], 1, [], .p (.bool (inB (u.2 k) 0 (v.1 - 1)))⟩), none⟩, oT, oT, oT, oT, oT, oT, ⟨true, (some ⟨[], [], [], 1, [], .p (.bool (hasI u.2 (u.2 k) k))⟩), none⟩, oT], .dec false, .reg [oT, oT], .head] [.code (cAt (bodyOf Try.f116) [1, 0, 1, 0, 0]), .inLoop (cAt (bodyOf Try.f116) [1, 0, 1, 0, 0]), .inBlock 0, .code (cAt (bodyOf Try.f116) [1, 1])] (SDi v u k) [0] 1 (SDi v u (k + 1)) =
    some ([.code (cAt (bodyOf Try.f116) [1, 0, 1, 0, 0]), .inLoop (cAt (bodyOf Try.f116) [1, 0, 1, 0, 0]), .inBlock 0, .code (cAt (bodyOf Try.f116) [1, 1])], [((decide ((↑k : Int) < (↑u.1 : Int))) = true),
  ((0 : Int) ≤ (↑k : Int)),
  (((↑k : Int) : Int) < (↑u.1 : Int)),
  ((0 : Nat) < 1),
  Con Try.prog 101 0 [] [.agg [.p (.int .i64 v.1), .p (.seq true 2 v.2.1.1 (fun i => [.int .i64 ((v.2.1.2 i).1), .int .i64 ((v.2.1.2 i).2.1)]))], .p (.int .i64 (u.2 k))] [] (.p (.bool (inB (u.2 k) 0 (v.1 - 1)))),
  (AG (!!inB (u.2 k) 0 (v.1 - 1))),
  (AG (!!inB (u.2 k) 0 (v.1 - 1))),
  (((!!inB (u.2 k) 0 (v.1 - 1)) = true) → ((0 : Int) ≤ 0)),
  (((!!inB (u.2 k) 0 (v.1 - 1)) = true) → ((0 : Int) ≤ (↑k : Int))),
  (((!!inB (u.2 k) 0 (v.1 - 1)) = true) → (((↑k : Int) : Int) ≤ (↑u.1 : Int))),
  (AG (!!inB (u.2 k) 0 (v.1 - 1))),
  (AG (!!inB (u.2 k) 0 (v.1 - 1))),
  (((!!inB (u.2 k) 0 (v.1 - 1)) = true) → Con Try.prog 83 0 [] [.p (.seq true 1 k (fun i => [.int .i64 (u.2 i)])), .p (.int .i64 (u.2 k))] [] (.p (.bool (hasI u.2 (u.2 k) k)))),
  (((!inB (u.2 k) 0 (v.1 - 1)) = false) → ((!!inB (u.2 k) 0 (v.1 - 1)) = true)),
  ((bif !inB (u.2 k) 0 (v.1 - 1) then true else hasI u.2 (u.2 k) k) = false),
  (((-9223372036854775808) : Int) ≤ ((↑k : Int) + 1)),
  ((((↑k : Int) + 1) : Int) ≤ 9223372036854775807),
  (AI v.1),
  (AN v.2.1.1),
  (AP v.2.1.1 (fun i => [.int .i64 ((v.2.1.2 i).1), .int .i64 ((v.2.1.2 i).2.1)])),
  (AN u.1),
  (AP u.1 (fun i => [.int .i64 (u.2 i)])),
  (AN 0),
  (false = false),
  (AN u.1),
  (AP u.1 (fun i => [.int .i64 (u.2 i)])),
  (AI ((↑u.1 : Int))),
  ((((↑k : Int) + 1) : Int) = (↑(k + 1) : Int)),
  (AN 2),
  ((1 : Nat) ≤ 1),
  ((1 : Nat) ≤ 1),
  (AI v.1),
  (AN v.2.1.1),
  (AP v.2.1.1 (fun i => [.int .i64 ((v.2.1.2 i).1), .int .i64 ((v.2.1.2 i).2.1)]))]) := by kernel_rfl
theorem dDc (v : T_Graph) (u : T_IntS) (k : Nat) :
    pathOb Try.prog Try.f116 0 [.reg [oT], .dec true, .reg [oT, oT, oT, oT, oT], .reg [oT, oT, ⟨true, (some ⟨[], [], [], 1, [], .p (.bool (inB (u.2 k) 0 (v.1 - 1)))⟩), none⟩, oT, oT, oT, oT, oT, oT, ⟨true, (some ⟨[], [], [], 1, [], .p (.bool (hasI u.2 (u.2 k) k))⟩), none⟩, oT], .dec true, .reg [oT]] [.code (cAt (bodyOf Try.f116) [1, 0, 1, 0, 0]), .inLoop (cAt (bodyOf Try.f116) [1, 0, 1, 0, 0]), .inBlock 0, .code (cAt (bodyOf Try.f116) [1, 1])] (SDi v u k) [] 1 [] (.p (.bool false)) =
    some [((decide ((↑k : Int) < (↑u.1 : Int))) = true),
  ((0 : Int) ≤ (↑k : Int)),
  (((↑k : Int) : Int) < (↑u.1 : Int)),
  ((0 : Nat) < 1),
  Con Try.prog 101 0 [] [.agg [.p (.int .i64 v.1), .p (.seq true 2 v.2.1.1 (fun i => [.int .i64 ((v.2.1.2 i).1), .int .i64 ((v.2.1.2 i).2.1)]))], .p (.int .i64 (u.2 k))] [] (.p (.bool (inB (u.2 k) 0 (v.1 - 1)))),
  (AG (!!inB (u.2 k) 0 (v.1 - 1))),
  (AG (!!inB (u.2 k) 0 (v.1 - 1))),
  (((!!inB (u.2 k) 0 (v.1 - 1)) = true) → ((0 : Int) ≤ 0)),
  (((!!inB (u.2 k) 0 (v.1 - 1)) = true) → ((0 : Int) ≤ (↑k : Int))),
  (((!!inB (u.2 k) 0 (v.1 - 1)) = true) → (((↑k : Int) : Int) ≤ (↑u.1 : Int))),
  (AG (!!inB (u.2 k) 0 (v.1 - 1))),
  (AG (!!inB (u.2 k) 0 (v.1 - 1))),
  (((!!inB (u.2 k) 0 (v.1 - 1)) = true) → Con Try.prog 83 0 [] [.p (.seq true 1 k (fun i => [.int .i64 (u.2 i)])), .p (.int .i64 (u.2 k))] [] (.p (.bool (hasI u.2 (u.2 k) k)))),
  (((!inB (u.2 k) 0 (v.1 - 1)) = false) → ((!!inB (u.2 k) 0 (v.1 - 1)) = true)),
  ((bif !inB (u.2 k) 0 (v.1 - 1) then true else hasI u.2 (u.2 k) k) = true),
  (false = false)] := by kernel_rfl
theorem dDd (v : T_Graph) (u : T_IntS) (k : Nat) :
    pathOb Try.prog Try.f116 0 [.reg [oT], .dec false, .reg [oT]] [.code (cAt (bodyOf Try.f116) [1, 0, 1, 0, 0]), .inLoop (cAt (bodyOf Try.f116) [1, 0, 1, 0, 0]), .inBlock 0, .code (cAt (bodyOf Try.f116) [1, 1])] (SDi v u k) [] 1 [] (.p (.bool true)) =
    some [((decide ((↑k : Int) < (↑u.1 : Int))) = false),
  (true = true)] := by kernel_rfl
theorem dPa (v : T_Graph) (u : T_IntS) :
    pieceOb Try.prog 0 [.reg [oT, oT], .reg [oT], .head] [.code (bodyOf Try.f114)] (start Try.f114 [] 0 [graphA v, inL u]) [0] 1 (SDs v u 0) =
    some ([.code (cAt (bodyOf Try.f114) [1, 0, 1, 0, 0]), .inLoop (cAt (bodyOf Try.f114) [1, 0, 1, 0, 0]), .inBlock 0, .code (cAt (bodyOf Try.f114) [1, 1])], [(AI v.1),
  (AN v.2.1.1),
  (AP v.2.1.1 (fun i => [.int .i64 ((v.2.1.2 i).1), .int .i64 ((v.2.1.2 i).2.1)])),
  (AN u.1),
  (AP u.1 (fun i => [.int .i64 (u.2 i)])),
  (AN 0),
  (false = false),
  ((0 : Int) = (↑0 : Int)),
  ((([AV.p (PV.int IntKind.i64 v.1), graphL v.2.1].length) : Nat) = 2),
  ((1 : Nat) ≤ 1),
  ((1 : Nat) ≤ 1),
  (AI v.1),
  (AN v.2.1.1),
  (AP v.2.1.1 (fun i => [.int .i64 ((v.2.1.2 i).1), .int .i64 ((v.2.1.2 i).2.1)]))]) := by kernel_rfl
theorem dPb (v : T_Graph) (u : T_IntS) (k : Nat) :
    pieceOb Try.prog 0 [.reg [oT, oT, oT, oT], .dec true, .reg [oT, oT, oT, oT, oT, oT, oT, oT, oT, oT, oT, oT, oT, oT, oT, oT, oT, oT, oT, oT, oT, oT, ⟨true, (some ⟨[], [], [], 1, [], .p (.bool (hasI u.2 (u.2 k) k))⟩), none⟩, oT], .dec false, .reg [oT, oT, oT], .head] [.code (cAt (bodyOf Try.f114) [1, 0, 1, 0, 0]), .inLoop (cAt (bodyOf Try.f114) [1, 0, 1, 0, 0]), .inBlock 0, .code (cAt (bodyOf Try.f114) [1, 1])] (SDs v u k) [0] 1 (SDs v u (k + 1)) =
    some ([.code (cAt (bodyOf Try.f114) [1, 0, 1, 0, 0]), .inLoop (cAt (bodyOf Try.f114) [1, 0, 1, 0, 0]), .inBlock 0, .code (cAt (bodyOf Try.f114) [1, 1])], [((decide ((↑k : Int) < (↑u.1 : Int))) = true),
  ((0 : Int) ≤ (↑k : Int)),
  (((↑k : Int) : Int) < (↑u.1 : Int)),
  (AG (!decide (u.2 (↑k : Int).toNat < 0))),
  (AG (!decide (u.2 (↑k : Int).toNat < 0))),
  (((!decide (u.2 (↑k : Int).toNat < 0)) = true) → ((0 : Int) ≤ (↑k : Int))),
  (((!decide (u.2 (↑k : Int).toNat < 0)) = true) → (((↑k : Int) : Int) < (↑u.1 : Int))),
  (AG (!decide (u.2 (↑k : Int).toNat < 0))),
  (AG (!decide (u.2 (↑k : Int).toNat < 0))),
  (((!decide (u.2 (↑k : Int).toNat < 0)) = true) → ((0 : Nat) < 1)),
  (AG (!decide (u.2 (↑k : Int).toNat < 0))),
  (AG (!decide (u.2 (↑k : Int).toNat < 0))),
  (((decide (u.2 (↑k : Int).toNat < 0)) = false) → ((!decide (u.2 (↑k : Int).toNat < 0)) = true)),
  (AG (!bif decide (u.2 (↑k : Int).toNat < 0) then true else decide (u.2 (↑k : Int).toNat ≥ v.1))),
  (AG (!bif decide (u.2 (↑k : Int).toNat < 0) then true else decide (u.2 (↑k : Int).toNat ≥ v.1))),
  (((!bif decide (u.2 (↑k : Int).toNat < 0) then true else decide (u.2 (↑k : Int).toNat ≥ v.1)) = true) → ((0 : Int) ≤ 0)),
  (((!bif decide (u.2 (↑k : Int).toNat < 0) then true else decide (u.2 (↑k : Int).toNat ≥ v.1)) = true) → ((0 : Int) ≤ (↑k : Int))),
  (((!bif decide (u.2 (↑k : Int).toNat < 0) then true else decide (u.2 (↑k : Int).toNat ≥ v.1)) = true) → (((↑k : Int) : Int) ≤ (↑u.1 : Int))),
  (AG (!bif decide (u.2 (↑k : Int).toNat < 0) then true else decide (u.2 (↑k : Int).toNat ≥ v.1))),
  (AG (!bif decide (u.2 (↑k : Int).toNat < 0) then true else decide (u.2 (↑k : Int).toNat ≥ v.1))),
  (((!bif decide (u.2 (↑k : Int).toNat < 0) then true else decide (u.2 (↑k : Int).toNat ≥ v.1)) = true) → ((0 : Int) ≤ (↑k : Int))),
  (((!bif decide (u.2 (↑k : Int).toNat < 0) then true else decide (u.2 (↑k : Int).toNat ≥ v.1)) = true) → (((↑k : Int) : Int) < (↑u.1 : Int))),
  (AG (!bif decide (u.2 (↑k : Int).toNat < 0) then true else decide (u.2 (↑k : Int).toNat ≥ v.1))),
  (AG (!bif decide (u.2 (↑k : Int).toNat < 0) then true else decide (u.2 (↑k : Int).toNat ≥ v.1))),
  (AG (!bif decide (u.2 (↑k : Int).toNat < 0) then true else decide (u.2 (↑k : Int).toNat ≥ v.1))),
  (((!bif decide (u.2 (↑k : Int).toNat < 0) then true else decide (u.2 (↑k : Int).toNat ≥ v.1)) = true) → Con Try.prog 93 0 [] [.p (.seq true 1 k (fun i => [.int .i64 (u.2 i)])), .p (.int .i64 (u.2 k))] [] (.p (.bool (hasI u.2 (u.2 k) k)))),
  (((bif decide (u.2 (↑k : Int).toNat < 0) then true else decide (u.2 (↑k : Int).toNat ≥ v.1)) = false) → ((!bif decide (u.2 (↑k : Int).toNat < 0) then true else decide (u.2 (↑k : Int).toNat ≥ v.1)) = true)),
  ((bif bif decide (u.2 (↑k : Int).toNat < 0) then true else decide (u.2 (↑k : Int).toNat ≥ v.1) then true else hasI u.2 (u.2 k) k) = false),
  (((-9223372036854775808) : Int) ≤ ((↑k : Int) + 1)),
  ((((↑k : Int) + 1) : Int) ≤ 9223372036854775807),
  (AI v.1),
  (AN v.2.1.1),
  (AP v.2.1.1 (fun i => [.int .i64 ((v.2.1.2 i).1), .int .i64 ((v.2.1.2 i).2.1)])),
  (AN u.1),
  (AP u.1 (fun i => [.int .i64 (u.2 i)])),
  (AN 0),
  (false = false),
  ((((↑k : Int) + 1) : Int) = (↑(k + 1) : Int)),
  (AN 2),
  ((1 : Nat) ≤ 1),
  ((1 : Nat) ≤ 1),
  (AI v.1),
  (AN v.2.1.1),
  (AP v.2.1.1 (fun i => [.int .i64 ((v.2.1.2 i).1), .int .i64 ((v.2.1.2 i).2.1)]))]) := by kernel_rfl
theorem dPc (v : T_Graph) (u : T_IntS) (k : Nat) :
    pathOb Try.prog Try.f114 0 [.reg [oT, oT, oT, oT], .dec true, .reg [oT, oT, oT, oT, oT, oT, oT, oT, oT, oT, oT, oT, oT, oT, oT, oT, oT, oT, oT, oT, oT, oT, ⟨true, (some ⟨[], [], [], 1, [], .p (.bool (hasI u.2 (u.2 k) k))⟩), none⟩, oT], .dec true, .reg [oT]] [.code (cAt (bodyOf Try.f114) [1, 0, 1, 0, 0]), .inLoop (cAt (bodyOf Try.f114) [1, 0, 1, 0, 0]), .inBlock 0, .code (cAt (bodyOf Try.f114) [1, 1])] (SDs v u k) [] 1 [] (.p (.bool false)) =
    some [((decide ((↑k : Int) < (↑u.1 : Int))) = true),
  ((0 : Int) ≤ (↑k : Int)),
  (((↑k : Int) : Int) < (↑u.1 : Int)),
  (AG (!decide (u.2 (↑k : Int).toNat < 0))),
  (AG (!decide (u.2 (↑k : Int).toNat < 0))),
  (((!decide (u.2 (↑k : Int).toNat < 0)) = true) → ((0 : Int) ≤ (↑k : Int))),
  (((!decide (u.2 (↑k : Int).toNat < 0)) = true) → (((↑k : Int) : Int) < (↑u.1 : Int))),
  (AG (!decide (u.2 (↑k : Int).toNat < 0))),
  (AG (!decide (u.2 (↑k : Int).toNat < 0))),
  (((!decide (u.2 (↑k : Int).toNat < 0)) = true) → ((0 : Nat) < 1)),
  (AG (!decide (u.2 (↑k : Int).toNat < 0))),
  (AG (!decide (u.2 (↑k : Int).toNat < 0))),
  (((decide (u.2 (↑k : Int).toNat < 0)) = false) → ((!decide (u.2 (↑k : Int).toNat < 0)) = true)),
  (AG (!bif decide (u.2 (↑k : Int).toNat < 0) then true else decide (u.2 (↑k : Int).toNat ≥ v.1))),
  (AG (!bif decide (u.2 (↑k : Int).toNat < 0) then true else decide (u.2 (↑k : Int).toNat ≥ v.1))),
  (((!bif decide (u.2 (↑k : Int).toNat < 0) then true else decide (u.2 (↑k : Int).toNat ≥ v.1)) = true) → ((0 : Int) ≤ 0)),
  (((!bif decide (u.2 (↑k : Int).toNat < 0) then true else decide (u.2 (↑k : Int).toNat ≥ v.1)) = true) → ((0 : Int) ≤ (↑k : Int))),
  (((!bif decide (u.2 (↑k : Int).toNat < 0) then true else decide (u.2 (↑k : Int).toNat ≥ v.1)) = true) → (((↑k : Int) : Int) ≤ (↑u.1 : Int))),
  (AG (!bif decide (u.2 (↑k : Int).toNat < 0) then true else decide (u.2 (↑k : Int).toNat ≥ v.1))),
  (AG (!bif decide (u.2 (↑k : Int).toNat < 0) then true else decide (u.2 (↑k : Int).toNat ≥ v.1))),
  (((!bif decide (u.2 (↑k : Int).toNat < 0) then true else decide (u.2 (↑k : Int).toNat ≥ v.1)) = true) → ((0 : Int) ≤ (↑k : Int))),
  (((!bif decide (u.2 (↑k : Int).toNat < 0) then true else decide (u.2 (↑k : Int).toNat ≥ v.1)) = true) → (((↑k : Int) : Int) < (↑u.1 : Int))),
  (AG (!bif decide (u.2 (↑k : Int).toNat < 0) then true else decide (u.2 (↑k : Int).toNat ≥ v.1))),
  (AG (!bif decide (u.2 (↑k : Int).toNat < 0) then true else decide (u.2 (↑k : Int).toNat ≥ v.1))),
  (AG (!bif decide (u.2 (↑k : Int).toNat < 0) then true else decide (u.2 (↑k : Int).toNat ≥ v.1))),
  (((!bif decide (u.2 (↑k : Int).toNat < 0) then true else decide (u.2 (↑k : Int).toNat ≥ v.1)) = true) → Con Try.prog 93 0 [] [.p (.seq true 1 k (fun i => [.int .i64 (u.2 i)])), .p (.int .i64 (u.2 k))] [] (.p (.bool (hasI u.2 (u.2 k) k)))),
  (((bif decide (u.2 (↑k : Int).toNat < 0) then true else decide (u.2 (↑k : Int).toNat ≥ v.1)) = false) → ((!bif decide (u.2 (↑k : Int).toNat < 0) then true else decide (u.2 (↑k : Int).toNat ≥ v.1)) = true)),
  ((bif bif decide (u.2 (↑k : Int).toNat < 0) then true else decide (u.2 (↑k : Int).toNat ≥ v.1) then true else hasI u.2 (u.2 k) k) = true),
  (false = false)] := by kernel_rfl
theorem dPd (v : T_Graph) (u : T_IntS) (k : Nat) :
    pathOb Try.prog Try.f114 0 [.reg [oT, oT, oT, oT], .dec false, .reg [oT]] [.code (cAt (bodyOf Try.f114) [1, 0, 1, 0, 0]), .inLoop (cAt (bodyOf Try.f114) [1, 0, 1, 0, 0]), .inBlock 0, .code (cAt (bodyOf Try.f114) [1, 1])] (SDs v u k) [] 1 [] (.p (.bool true)) =
    some [((decide ((↑k : Int) < (↑u.1 : Int))) = false),
  (true = true)] := by kernel_rfl
theorem dRy (v : T_Graph) (u : T_IntS) (b1 b3 : Bool) :
    pathOb Try.prog Try.f80 0 [.reg [oT, oT, oT], .reg [oT, ⟨true, (some ⟨[], [], [], 1, [], .p (.bool b1)⟩), none⟩, oT, oT, oT, oT, oT, oT, oT, oT, oT, oT, oT, ⟨true, (some ⟨[], [], [], 1, [], .p (.bool b3)⟩), none⟩, oT, oT], .dec true, .reg [oT, oT, oT]] [.code (bodyOf Try.f80)] (start Try.f80 [] 0 [graphA v, inL u]) [] 1 [(0, brOb 0 (fun _ => (0, 0, ())))] (.tup [.agg [.p (.int .i64 0), .ar 2 0 0 0], .p (.bool false)]) =
    some [((0 : Nat) < 1),
  Con Try.prog 77 0 [] [.agg [.p (.int .i64 v.1), .p (.seq true 2 v.2.1.1 (fun i => [.int .i64 ((v.2.1.2 i).1), .int .i64 ((v.2.1.2 i).2.1)]))]] [] (.p (.bool b1)),
  (AG (!!b1)),
  (AG (!!b1)),
  (((!!b1) = true) → ((0 : Nat) < 1)),
  (AG (!!b1)),
  (AG (!!b1)),
  (((!b1) = false) → ((!!b1) = true)),
  (((!bif !b1 then true else (↑u.1 : Int) != v.1) = true) → ((0 : Nat) < 1)),
  (AG (!bif !b1 then true else (↑u.1 : Int) != v.1)),
  (AG (!bif !b1 then true else (↑u.1 : Int) != v.1)),
  (((!bif !b1 then true else (↑u.1 : Int) != v.1) = true) → Con Try.prog 116 0 [] [.agg [.p (.int .i64 v.1), .p (.seq true 2 v.2.1.1 (fun i => [.int .i64 ((v.2.1.2 i).1), .int .i64 ((v.2.1.2 i).2.1)]))], .p (.seq true 1 u.1 (fun i => [.int .i64 (u.2 i)]))] [] (.p (.bool b3))),
  (AG (!bif !b1 then true else (↑u.1 : Int) != v.1)),
  (((bif !b1 then true else (↑u.1 : Int) != v.1) = false) → ((!bif !b1 then true else (↑u.1 : Int) != v.1) = true)),
  ((bif bif !b1 then true else (↑u.1 : Int) != v.1 then true else !b3) = true),
  ((0 : Nat) < 1),
  ((true = true) → (AN 1)),
  ((0 : Nat) < 1),
  (AI 0),
  (AN 0),
  (false = false),
  (AN 0),
  (AE 0)] := by kernel_rfl
theorem dRz (v : T_Graph) (u : T_IntS) (b1 b3 : Bool) :
    pieceOb Try.prog 0 [.reg [oT, oT, oT], .reg [oT, ⟨true, (some ⟨[], [], [], 1, [], .p (.bool b1)⟩), none⟩, oT, oT, oT, oT, oT, oT, oT, oT, oT, oT, oT, ⟨true, (some ⟨[], [], [], 1, [], .p (.bool b3)⟩), none⟩, oT, oT], .dec false, .reg [oT, oT, oT, oT, oT], .reg [oT, oT, oT, oT], .head] [.code (bodyOf Try.f80)] (start Try.f80 [] 0 [graphA v, inL u]) [0, 32, 704] 1 (SRi v u 0 (fun _ => (0, 0, ()))) =
    some ([.code (cAt (bodyOf Try.f80) [1, 1, 1, 0, 1, 0, 0]), .inLoop (cAt (bodyOf Try.f80) [1, 1, 1, 0, 1, 0, 0]), .inBlock 0, .code (cAt (bodyOf Try.f80) [1, 1, 1, 1])], [((0 : Nat) < 1),
  Con Try.prog 77 0 [] [.agg [.p (.int .i64 v.1), .p (.seq true 2 v.2.1.1 (fun i => [.int .i64 ((v.2.1.2 i).1), .int .i64 ((v.2.1.2 i).2.1)]))]] [] (.p (.bool b1)),
  (AG (!!b1)),
  (AG (!!b1)),
  (((!!b1) = true) → ((0 : Nat) < 1)),
  (AG (!!b1)),
  (AG (!!b1)),
  (((!b1) = false) → ((!!b1) = true)),
  (((!bif !b1 then true else (↑u.1 : Int) != v.1) = true) → ((0 : Nat) < 1)),
  (AG (!bif !b1 then true else (↑u.1 : Int) != v.1)),
  (AG (!bif !b1 then true else (↑u.1 : Int) != v.1)),
  (((!bif !b1 then true else (↑u.1 : Int) != v.1) = true) → Con Try.prog 116 0 [] [.agg [.p (.int .i64 v.1), .p (.seq true 2 v.2.1.1 (fun i => [.int .i64 ((v.2.1.2 i).1), .int .i64 ((v.2.1.2 i).2.1)]))], .p (.seq true 1 u.1 (fun i => [.int .i64 (u.2 i)]))] [] (.p (.bool b3))),
  (AG (!bif !b1 then true else (↑u.1 : Int) != v.1)),
  (((bif !b1 then true else (↑u.1 : Int) != v.1) = false) → ((!bif !b1 then true else (↑u.1 : Int) != v.1) = true)),
  ((bif bif !b1 then true else (↑u.1 : Int) != v.1 then true else !b3) = false),
  ((0 : Nat) < 1),
  ((0 : Nat) < 1),
  ((true = true) → (AN 1)),
  ((0 : Nat) < 1),
  (AI v.1),
  (AN v.2.1.1),
  (AP v.2.1.1 (fun i => [.int .i64 ((v.2.1.2 i).1), .int .i64 ((v.2.1.2 i).2.1)])),
  (AN u.1),
  (AP u.1 (fun i => [.int .i64 (u.2 i)])),
  (AN 0),
  (AN 0),
  (false = false),
  (AN 0),
  (AN v.2.1.1),
  (AP v.2.1.1 (fun i => [.int .i64 ((v.2.1.2 i).1), .int .i64 ((v.2.1.2 i).2.1)])),
  (AI ((↑v.2.1.1 : Int))),
  ((0 : Int) = (↑0 : Int)),
  ((([AV.p (PV.int IntKind.i64 v.1), graphL v.2.1].length) : Nat) = 2),
  ((1 : Nat) ≤ 1),
  ((1 : Nat) ≤ 1),
  (AI v.1),
  (AN v.2.1.1),
  (AP v.2.1.1 (fun i => [.int .i64 ((v.2.1.2 i).1), .int .i64 ((v.2.1.2 i).2.1)])),
  ((((List.map (fun v => AV.p (absV v)) [Value.int IntKind.i64 0, Value.slice none 0 0]).length) : Nat) = 2),
  ((1 : Nat) ≤ 1),
  ((1 : Nat) ≤ 1),
  (AI 0),
  ((((List.map (fun v => AV.p (absV v)) [Value.int IntKind.i64 0, Value.slice none 0 0]).length) : Nat) = 2),
  ((1 : Nat) ≤ 1),
  ((1 : Nat) ≤ 1),
  (AI v.1),
  (AN 0),
  (AN 0)]) := by kernel_rfl
theorem dRa (v : T_Graph) (u : T_IntS) (k : Nat) (h : Nat → T_Bar) (x : T_Bar) :
    pieceOb Try.prog 0 [.reg [oT], .dec true, .reg [oT, oT, oT, oT], .reg [oT, oT, oT, oT, oT, oT, oT, oT, oT, oT, oT, oT, ⟨true, (some ⟨[], [], [], 1, [], .agg [.p (.int .i64 x.1), .p (.int .i64 x.2.1)]⟩), none⟩, oT, oT, oT, oT], .reg [oT, oT], .head] [.code (cAt (bodyOf Try.f80) [1, 1, 1, 0, 1, 0, 0]), .inLoop (cAt (bodyOf Try.f80) [1, 1, 1, 0, 1, 0, 0]), .inBlock 0, .code (cAt (bodyOf Try.f80) [1, 1, 1, 1])] (SRi v u k h) [0, 1, 2, 612] 1 (SRi v u (k + 1) (snoc k h x)) =
    some ([.code (cAt (bodyOf Try.f80) [1, 1, 1, 0, 1, 0, 0]), .inLoop (cAt (bodyOf Try.f80) [1, 1, 1, 0, 1, 0, 0]), .inBlock 0, .code (cAt (bodyOf Try.f80) [1, 1, 1, 1])], [((decide ((↑k : Int) < (↑v.2.1.1 : Int))) = true),
  ((0 : Int) ≤ (↑k : Int)),
  (((↑k : Int) : Int) < (↑v.2.1.1 : Int)),
  ((0 : Nat) < 1),
  ((true = true) → (AN 1)),
  ((0 : Nat) < 1),
  ((0 : Nat) < 1),
  ((0 : Int) ≤ ((v.2.1.2 k).1)),
  ((((v.2.1.2 k).1) : Int) < (↑u.1 : Int)),
  ((0 : Nat) < 1),
  ((0 : Int) ≤ ((v.2.1.2 k).2.1)),
  ((((v.2.1.2 k).2.1) : Int) < (↑u.1 : Int)),
  Con Try.prog 106 0 [] [.p (.int .i64 (u.2 (v.2.1.2 k).1.toNat)), .p (.int .i64 (u.2 (v.2.1.2 k).2.1.toNat))] [] (.agg [.p (.int .i64 x.1), .p (.int .i64 x.2.1)]),
  ((1 : Nat) ≤ 1),
  ((k : Nat) ≤ k),
  ((((k + 1) * 16) : Nat) ≤ 140737488355328),
  (((k + 1) : Nat) ≤ 9223372036854775807),
  ((0 : Nat) < 1),
  ((true = true) → (AN 1)),
  (((-9223372036854775808) : Int) ≤ ((↑k : Int) + 1)),
  ((((↑k : Int) + 1) : Int) ≤ 9223372036854775807),
  (AI v.1),
  (AN v.2.1.1),
  (AP v.2.1.1 (fun i => [.int .i64 ((v.2.1.2 i).1), .int .i64 ((v.2.1.2 i).2.1)])),
  (AN u.1),
  (AP u.1 (fun i => [.int .i64 (u.2 i)])),
  (AN 0),
  (AN 0),
  (false = false),
  (AN 0),
  (AN v.2.1.1),
  (AP v.2.1.1 (fun i => [.int .i64 ((v.2.1.2 i).1), .int .i64 ((v.2.1.2 i).2.1)])),
  (AI ((↑v.2.1.1 : Int))),
  ((((↑k : Int) + 1) : Int) = (↑(k + 1) : Int)),
  (AN 2),
  ((1 : Nat) ≤ 1),
  ((1 : Nat) ≤ 1),
  (AI v.1),
  (AN v.2.1.1),
  (AP v.2.1.1 (fun i => [.int .i64 ((v.2.1.2 i).1), .int .i64 ((v.2.1.2 i).2.1)])),
  (AN 2),
  ((1 : Nat) ≤ 1),
  ((1 : Nat) ≤ 1),
  (AI 0),
  (AN 2),
  ((1 : Nat) ≤ 1),
  ((1 : Nat) ≤ 1),
  (AI v.1),
  (AN 0),
  (AN ((k + 1))),
  (AN 2),
  (((k + 1) : Nat) ≤ (k + 1)),
  (∀ i : Nat, (((i : Nat) < (k + 1)) → (All (cvtL false [(2, ⟨true, 2, 1, (fun i_1 => [.p (.int .i64 v.1), .ar 2 612 0 (k + 1)])⟩), (612, ⟨false, 2, (k + 1), (fun i_1 => (if (i_1 < k) then [.p (.int .i64 ((h i_1).1)), .p (.int .i64 ((h i_1).2.1))] else [.p (.int .i64 x.1), .p (.int .i64 x.2.1)]))⟩), (580, ⟨false, 2, 1, (fun i_1 => [.p (.int .i64 x.1), .p (.int .i64 x.2.1)])⟩), (100, ⟨true, 2, 1, (fun i_1 => [.p (.int .i64 ((v.2.1.2 k).1)), .p (.int .i64 ((v.2.1.2 k).2.1))])⟩), (0, ⟨true, 2, 1, (fun i_1 => [.p (.int .i64 v.1), .p (.seq true 2 v.2.1.1 (fun i_2 => [.int .i64 ((v.2.1.2 i_2).1), .int .i64 ((v.2.1.2 i_2).2.1)]))])⟩), (1, ⟨true, 2, 1, (fun i_1 => [.p (.int .i64 0), .p (.nil)])⟩)] [0, 1, 2, 612] 1 (if (i < k) then [.p (.int .i64 ((h i).1)), .p (.int .i64 ((h i).2.1))] else [.p (.int .i64 x.1), .p (.int .i64 x.2.1)])).2 ∧ (((cvtL false [(2, ⟨true, 2, 1, (fun i_1 => [.p (.int .i64 v.1), .ar 2 612 0 (k + 1)])⟩), (612, ⟨false, 2, (k + 1), (fun i_1 => (if (i_1 < k) then [.p (.int .i64 ((h i_1).1)), .p (.int .i64 ((h i_1).2.1))] else [.p (.int .i64 x.1), .p (.int .i64 x.2.1)]))⟩), (580, ⟨false, 2, 1, (fun i_1 => [.p (.int .i64 x.1), .p (.int .i64 x.2.1)])⟩), (100, ⟨true, 2, 1, (fun i_1 => [.p (.int .i64 ((v.2.1.2 k).1)), .p (.int .i64 ((v.2.1.2 k).2.1))])⟩), (0, ⟨true, 2, 1, (fun i_1 => [.p (.int .i64 v.1), .p (.seq true 2 v.2.1.1 (fun i_2 => [.int .i64 ((v.2.1.2 i_2).1), .int .i64 ((v.2.1.2 i_2).2.1)]))])⟩), (1, ⟨true, 2, 1, (fun i_1 => [.p (.int .i64 0), .p (.nil)])⟩)] [0, 1, 2, 612] 1 (if (i < k) then [.p (.int .i64 ((h i).1)), .p (.int .i64 ((h i).2.1))] else [.p (.int .i64 x.1), .p (.int .i64 x.2.1)])).1 : List AV) = [.p (.int .i64 (if i < k then (h i).1 else x.1)), .p (.int .i64 (if i < k then (h i).2.1 else x.2.1))]))))]) := by kernel_rfl
theorem dRb (v : T_Graph) (u : T_IntS) (k : Nat) (h r : Nat → T_Bar) :
    pathOb Try.prog Try.f80 0 [.reg [oT], .dec false, .reg [oT, oT, ⟨true, (some ⟨[3], [], [], 1, [(0, brOb k r)], .tup []⟩), none⟩], .reg [oT, oT, oT]] [.code (cAt (bodyOf Try.f80) [1, 1, 1, 0, 1, 0, 0]), .inLoop (cAt (bodyOf Try.f80) [1, 1, 1, 0, 1, 0, 0]), .inBlock 0, .code (cAt (bodyOf Try.f80) [1, 1, 1, 1])] (SRi v u k h) [3] 1 [(0, brOb k r)] (.tup [.agg [.p (.int .i64 v.1), .ar 2 0 0 k], .p (.bool true)]) =
    some [((decide ((↑k : Int) < (↑v.2.1.1 : Int))) = false),
  ((0 : Nat) < 1),
  (AE k),
  Con Try.prog 109 1 [(0, ⟨false, 2, k, (fun i => [.p (.int .i64 ((h i).1)), .p (.int .i64 ((h i).2.1))])⟩)] [.ar 2 0 0 k, .p (.fn 82)] [(0, ⟨false, 2, k, (fun i => [.p (.int .i64 ((r i).1)), .p (.int .i64 ((r i).2.1))])⟩)] (.tup []),
  ((0 : Nat) < 1),
  ((0 : Nat) < 1),
  ((true = true) → (AN 1)),
  ((0 : Nat) < 1),
  (AI v.1),
  (AN 0),
  (AN k),
  (true = true),
  (AN 2),
  ((k : Nat) ≤ k),
  (AA k (fun i => [.p (.int .i64 ((r i).1)), .p (.int .i64 ((r i).2.1))])),
  (AE k)] := by kernel_rfl
theorem dSy (v : T_Graph) (u : T_IntS) (b1 b3 : Bool) :
    pathOb Try.prog Try.f75 0 [.reg [oT, oT, oT], .reg [oT, ⟨true, (some ⟨[], [], [], 1, [], .p (.bool b1)⟩), none⟩, oT, oT, oT, oT, oT, oT, oT, oT, oT, oT, oT, ⟨true, (some ⟨[], [], [], 1, [], .p (.bool b3)⟩), none⟩, oT, oT], .dec true, .reg [oT, oT, oT]] [.code (bodyOf Try.f75)] (start Try.f75 [] 0 [graphA v, inL u]) [] 1 [(0, brOb 0 (fun _ => (0, 0, ())))] (.tup [.agg [.p (.int .i64 0), .ar 2 0 0 0], .p (.bool false)]) =
    some [((0 : Nat) < 1),
  Con Try.prog 73 0 [] [.agg [.p (.int .i64 v.1), .p (.seq true 2 v.2.1.1 (fun i => [.int .i64 ((v.2.1.2 i).1), .int .i64 ((v.2.1.2 i).2.1)]))]] [] (.p (.bool b1)),
  (AG (!!b1)),
  (AG (!!b1)),
  (((!!b1) = true) → ((0 : Nat) < 1)),
  (AG (!!b1)),
  (AG (!!b1)),
  (((!b1) = false) → ((!!b1) = true)),
  (((!bif !b1 then true else (↑u.1 : Int) != v.1) = true) → ((0 : Nat) < 1)),
  (AG (!bif !b1 then true else (↑u.1 : Int) != v.1)),
  (AG (!bif !b1 then true else (↑u.1 : Int) != v.1)),
  (((!bif !b1 then true else (↑u.1 : Int) != v.1) = true) → Con Try.prog 114 0 [] [.agg [.p (.int .i64 v.1), .p (.seq true 2 v.2.1.1 (fun i => [.int .i64 ((v.2.1.2 i).1), .int .i64 ((v.2.1.2 i).2.1)]))], .p (.seq true 1 u.1 (fun i => [.int .i64 (u.2 i)]))] [] (.p (.bool b3))),
  (AG (!bif !b1 then true else (↑u.1 : Int) != v.1)),
  (((bif !b1 then true else (↑u.1 : Int) != v.1) = false) → ((!bif !b1 then true else (↑u.1 : Int) != v.1) = true)),
  ((bif bif !b1 then true else (↑u.1 : Int) != v.1 then true else !b3) = true),
  ((0 : Nat) < 1),
  ((true = true) → (AN 1)),
  ((0 : Nat) < 1),
  (AI 0),
  (AN 0),
  (false = false),
  (AN 0),
  (AE 0)] := by kernel_rfl
theorem dSz (v : T_Graph) (u : T_IntS) (b1 b3 : Bool) :
    pieceOb Try.prog 0 [.reg [oT, oT, oT], .reg [oT, ⟨true, (some ⟨[], [], [], 1, [], .p (.bool b1)⟩), none⟩, oT, oT, oT, oT, oT, oT, oT, oT, oT, oT, oT, ⟨true, (some ⟨[], [], [], 1, [], .p (.bool b3)⟩), none⟩, oT, oT], .dec false, .reg [oT, oT, oT, oT, oT, oT], .reg [oT], .head] [.code (bodyOf Try.f75)] (start Try.f75 [] 0 [graphA v, inL u]) [0, 32, 736, 672] 1 (SRs v u 0 0 (fun _ => (0, 0, ()))) =
    some ([.code (cAt (bodyOf Try.f75) [1, 1, 1, 0, 1, 0, 0]), .inLoop (cAt (bodyOf Try.f75) [1, 1, 1, 0, 1, 0, 0]), .inBlock 0, .code (cAt (bodyOf Try.f75) [1, 1, 1, 1])], [((0 : Nat) < 1),
  Con Try.prog 73 0 [] [.agg [.p (.int .i64 v.1), .p (.seq true 2 v.2.1.1 (fun i => [.int .i64 ((v.2.1.2 i).1), .int .i64 ((v.2.1.2 i).2.1)]))]] [] (.p (.bool b1)),
  (AG (!!b1)),
  (AG (!!b1)),
  (((!!b1) = true) → ((0 : Nat) < 1)),
  (AG (!!b1)),
  (AG (!!b1)),
  (((!b1) = false) → ((!!b1) = true)),
  (((!bif !b1 then true else (↑u.1 : Int) != v.1) = true) → ((0 : Nat) < 1)),
  (AG (!bif !b1 then true else (↑u.1 : Int) != v.1)),
  (AG (!bif !b1 then true else (↑u.1 : Int) != v.1)),
  (((!bif !b1 then true else (↑u.1 : Int) != v.1) = true) → Con Try.prog 114 0 [] [.agg [.p (.int .i64 v.1), .p (.seq true 2 v.2.1.1 (fun i => [.int .i64 ((v.2.1.2 i).1), .int .i64 ((v.2.1.2 i).2.1)]))], .p (.seq true 1 u.1 (fun i => [.int .i64 (u.2 i)]))] [] (.p (.bool b3))),
  (AG (!bif !b1 then true else (↑u.1 : Int) != v.1)),
  (((bif !b1 then true else (↑u.1 : Int) != v.1) = false) → ((!bif !b1 then true else (↑u.1 : Int) != v.1) = true)),
  ((bif bif !b1 then true else (↑u.1 : Int) != v.1 then true else !b3) = false),
  ((0 : Nat) < 1),
  ((0 : Nat) < 1),
  ((true = true) → (AN 1)),
  (AI v.1),
  (AN v.2.1.1),
  (AP v.2.1.1 (fun i => [.int .i64 ((v.2.1.2 i).1), .int .i64 ((v.2.1.2 i).2.1)])),
  (AN u.1),
  (AP u.1 (fun i => [.int .i64 (u.2 i)])),
  (AN 0),
  (AN 0),
  (false = false),
  (AN 0),
  ((0 : Int) = (↑0 : Int)),
  ((([AV.p (PV.int IntKind.i64 v.1), graphL v.2.1].length) : Nat) = 2),
  ((1 : Nat) ≤ 1),
  ((1 : Nat) ≤ 1),
  (AI v.1),
  (AN v.2.1.1),
  (AP v.2.1.1 (fun i => [.int .i64 ((v.2.1.2 i).1), .int .i64 ((v.2.1.2 i).2.1)])),
  ((((List.map (fun v => AV.p (absV v)) [Value.int IntKind.i64 0, Value.slice none 0 0]).length) : Nat) = 2),
  ((1 : Nat) ≤ 1),
  ((1 : Nat) ≤ 1),
  (AI 0),
  ((((List.map (fun v => AV.p (absV v)) [Value.int IntKind.i64 0, Value.slice none 0 0]).length) : Nat) = 2),
  ((1 : Nat) ≤ 1),
  ((1 : Nat) ≤ 1),
  (AI v.1),
  (AN 0),
  (AN 0),
  (AN 2),
  ((0 : Nat) ≤ 0),
  (AA 0 (fun i => [.p (.int .i64 0), .p (.int .i64 0)]))]) := by kernel_rfl
theorem dSa (v : T_Graph) (u : T_IntS) (k n m : Nat) (h h' : Nat → T_Bar) :
    pieceOb Try.prog 0 [.reg [oT, oT, oT, oT, oT], .dec true, .reg [oT, oT, oT, oT, oT, oT, oT, oT, oT, oT], .reg [oT, oT, oT, oT, oT, oT, oT, oT, oT, oT], .reg [oT, oT, oT, oT, oT, oT, oT, oT, ⟨true, (some ⟨[], [], [], 1, [(0, brOb m h')], .agg [.p (.int .i64 v.1), .ar 2 0 0 m]⟩), none⟩, oT], .reg [oT, oT, oT], .head] [.code (cAt (bodyOf Try.f75) [1, 1, 1, 0, 1, 0, 0]), .inLoop (cAt (bodyOf Try.f75) [1, 1, 1, 0, 1, 0, 0]), .inBlock 0, .code (cAt (bodyOf Try.f75) [1, 1, 1, 1])] (SRs v u k n h) [0, 1, 2, 1060] 1 (SRs v u (k + 1) m h') =
    some ([.code (cAt (bodyOf Try.f75) [1, 1, 1, 0, 1, 0, 0]), .inLoop (cAt (bodyOf Try.f75) [1, 1, 1, 0, 1, 0, 0]), .inBlock 0, .code (cAt (bodyOf Try.f75) [1, 1, 1, 1])], [((0 : Nat) < 1),
  ((decide ((↑k : Int) < (↑v.2.1.1 : Int))) = true),
  ((0 : Nat) < 1),
  ((0 : Int) ≤ (↑k : Int)),
  (((↑k : Int) : Int) < (↑v.2.1.1 : Int)),
  ((0 : Int) ≤ ((v.2.1.2 k).1)),
  ((((v.2.1.2 k).1) : Int) < (↑u.1 : Int)),
  ((0 : Nat) < 1),
  ((0 : Int) ≤ (↑k : Int)),
  (((↑k : Int) : Int) < (↑v.2.1.1 : Int)),
  ((0 : Int) ≤ ((v.2.1.2 k).2.1)),
  ((((v.2.1.2 k).2.1) : Int) < (↑u.1 : Int)),
  ((0 : Nat) < 1),
  (AN 2),
  ((n : Nat) ≤ n),
  Con Try.prog 108 0 [] [.agg [.p (.int .i64 v.1), .p (.seq true 2 n (fun i => [.int .i64 ((h i).1), .int .i64 ((h i).2.1)]))], .agg [.p (.int .i64 (if false = true then if u.2 (v.2.1.2 (↑k : Int).toNat).2.1.toNat > u.2 (v.2.1.2 (↑k : Int).toNat).1.toNat then u.2 (v.2.1.2 k).2.1.toNat else u.2 (v.2.1.2 k).1.toNat else if u.2 (v.2.1.2 (↑k : Int).toNat).2.1.toNat < u.2 (v.2.1.2 (↑k : Int).toNat).1.toNat then u.2 (v.2.1.2 k).2.1.toNat else u.2 (v.2.1.2 k).1.toNat)), .p (.int .i64 (if true = true then if u.2 (v.2.1.2 (↑k : Int).toNat).2.1.toNat > u.2 (v.2.1.2 (↑k : Int).toNat).1.toNat then u.2 (v.2.1.2 k).2.1.toNat else u.2 (v.2.1.2 k).1.toNat else if u.2 (v.2.1.2 (↑k : Int).toNat).2.1.toNat < u.2 (v.2.1.2 (↑k : Int).toNat).1.toNat then u.2 (v.2.1.2 k).2.1.toNat else u.2 (v.2.1.2 k).1.toNat))]] [(0, ⟨false, 2, m, (fun i => [.p (.int .i64 ((h' i).1)), .p (.int .i64 ((h' i).2.1))])⟩)] (.agg [.p (.int .i64 v.1), .ar 2 0 0 m]),
  ((0 : Nat) < 1),
  ((true = true) → (AN 1)),
  (((-9223372036854775808) : Int) ≤ ((↑k : Int) + 1)),
  ((((↑k : Int) + 1) : Int) ≤ 9223372036854775807),
  (AI v.1),
  (AN v.2.1.1),
  (AP v.2.1.1 (fun i => [.int .i64 ((v.2.1.2 i).1), .int .i64 ((v.2.1.2 i).2.1)])),
  (AN u.1),
  (AP u.1 (fun i => [.int .i64 (u.2 i)])),
  (AN 0),
  (AN 0),
  (false = false),
  (AN 0),
  ((((↑k : Int) + 1) : Int) = (↑(k + 1) : Int)),
  (AN 2),
  ((1 : Nat) ≤ 1),
  ((1 : Nat) ≤ 1),
  (AI v.1),
  (AN v.2.1.1),
  (AP v.2.1.1 (fun i => [.int .i64 ((v.2.1.2 i).1), .int .i64 ((v.2.1.2 i).2.1)])),
  (AN 2),
  ((1 : Nat) ≤ 1),
  ((1 : Nat) ≤ 1),
  (AI 0),
  (AN 2),
  ((1 : Nat) ≤ 1),
  ((1 : Nat) ≤ 1),
  (AI v.1),
  (AN 0),
  (AN m),
  (AN 2),
  ((m : Nat) ≤ m),
  (AA m (fun i => [.p (.int .i64 ((h' i).1)), .p (.int .i64 ((h' i).2.1))]))]) := by kernel_rfl
theorem dSb (v : T_Graph) (u : T_IntS) (k n : Nat) (h r : Nat → T_Bar) :
    pathOb Try.prog Try.f75 0 [.reg [oT, oT, oT, oT, oT], .dec false, .reg [oT, oT, oT]] [.code (cAt (bodyOf Try.f75) [1, 1, 1, 0, 1, 0, 0]), .inLoop (cAt (bodyOf Try.f75) [1, 1, 1, 0, 1, 0, 0]), .inBlock 0, .code (cAt (bodyOf Try.f75) [1, 1, 1, 1])] (SRs v u k n h) [3] 1 [(0, brOb n r)] (.tup [.agg [.p (.int .i64 v.1), .ar 2 0 0 n], .p (.bool true)]) =
    some [((0 : Nat) < 1),
  ((decide ((↑k : Int) < (↑v.2.1.1 : Int))) = false),
  ((0 : Nat) < 1),
  ((0 : Nat) < 1),
  ((true = true) → (AN 1)),
  ((0 : Nat) < 1),
  (AI v.1),
  (AN 0),
  (AN n),
  (true = true),
  (AN 2),
  ((n : Nat) ≤ n),
  (∀ i : Nat, (((i : Nat) < n) → (All [] ∧ (([.p (.int .i64 ((h i).1)), .p (.int .i64 ((h i).2.1))] : List AV) = [.p (.int .i64 ((r i).1)), .p (.int .i64 ((r i).2.1))])))),
  (AE n)] := by kernel_rfl
theorem con_barX (a b : Int) : Con Try.prog 106 0 [] [.p (.int .i64 a), .p (.int .i64 b)] [] (.agg [.p (.int .i64 (brX a b).1), .p (.int .i64 (brX a b).2.1)]) := by
  refine con_start Try.func106 rfl (by kernel_rfl) rfl (fun c hc => ?_)
  refine path_ok mixed Try.func106 hc (dBar a b) ?_
  simp only [All]
  repeat' (first | exact trivial | with_reducible apply And.intro)
  all_goals (first | exact aG _ | exact aP _ _ | exact aA _ _ | exact aE _ | omega | rfl | (intros; first | assumption | exact True.intro | rfl | exact absurd (show false = true by assumption) Bool.false_ne_true | ((repeat' (first | assumption | apply anda | apply notf)); done)) | simp)
theorem con_hasX (v : T_Graph) (p : Int) (h1 : 1 ≤ v.1) (h2 : v.1 ≤ 8) : Con Try.prog 101 0 [] [graphA v, .p (.int .i64 p)] [] (.p (.bool (inB p 0 (v.1 - 1)))) := by
  refine con_start Try.func101 rfl (by kernel_rfl) rfl (fun c hc => ?_)
  refine path_ok mixed Try.func101 hc (dHas v p) ?_
  simp only [All]
  repeat' (first | exact trivial | with_reducible apply And.intro)
  all_goals (first | exact aG _ | exact aP _ _ | exact aA _ _ | exact aE _ | omega | rfl | (intros; first | assumption | exact True.intro | rfl | exact absurd (show false = true by assumption) Bool.false_ne_true | ((repeat' (first | assumption | apply anda | apply notf)); done)) | (exact con_within _ _ _))
theorem difZ_N (N : Int) (s : Nat → Int) (k : Nat) : difZ N s k = difN N s k := by
  unfold difZ difN inB
  by_cases h1 : s k < 0
  · have : ¬ 0 ≤ s k := by omega
    simp [h1, this]
  · have : 0 ≤ s k := by omega
    by_cases h2 : s k ≥ N
    · have h3 : ¬ s k ≤ N - 1 := by omega
      simp [h1, h2, h3]
    · have h3 : s k ≤ N - 1 := by omega
      simp [h1, h2, h3, this]
theorem okD_bad (N : Int) (s : Nat → Int) (k : Nat) (h : difN N s k = true) : ∀ n, k < n → okD N s n = false
  | 0, h' => absurd h' (Nat.not_lt_zero _)
  | n + 1, h' => by
    by_cases e : k = n
    · subst e; simp [okD, h]
    · simp [okD, okD_bad N s k h n (by omega)]
theorem con_areDifferent (v : T_Graph) (u : T_IntS) (h1 : 1 ≤ v.1) (h2 : v.1 ≤ 8) (hn : u.1 ≤ 1048576) : Con Try.prog 116 0 [] [graphA v, inL u] [] (.p (.bool (okD v.1 u.2 u.1))) := by
  refine con_start Try.func116 rfl (by kernel_rfl) rfl (fun c hc => ?_)
  have lp : ∀ m k, k + m = u.1 → okD v.1 u.2 k = true → Run Try.prog c 116 [.code (cAt (bodyOf Try.f116) [1, 0, 1, 0, 0]), .inLoop (cAt (bodyOf Try.f116) [1, 0, 1, 0, 0]), .inBlock 0, .code (cAt (bodyOf Try.f116) [1, 1])] (SDi v u k) (Post c [] (.p (.bool (okD v.1 u.2 u.1)))) := by
    intro m
    induction m with
    | zero =>
      intro k hk hg
      obtain rfl : k = u.1 := by omega
      have hd : decide (((u.1 : Nat) : Int) < (u.1 : Int)) = false := by simp
      rw [hg]
      refine path_ok mixed Try.func116 hc (dDd v u u.1) ?_
      simp only [All]
      repeat' (first | exact trivial | with_reducible apply And.intro)
      all_goals (first | exact aG _ | exact aP _ _ | exact aA _ _ | exact aE _ | omega | rfl | (intros; first | assumption | exact True.intro | rfl | exact absurd (show false = true by assumption) Bool.false_ne_true | ((repeat' (first | assumption | apply anda | apply notf)); done)))
    | succ m ih =>
      intro k hk hg
      have hd : decide ((k : Int) < (u.1 : Int)) = true := by simp; omega
      have c1 := con_hasX v (u.2 k) h1 h2
      have c2 := con_Contains (k, u.2) (u.2 k) (by show k ≤ 1048576; omega)
      cases he : difN v.1 u.2 k with
      | true =>
        rw [okD_bad v.1 u.2 k he u.1 (by omega)]
        have he' : (bif !inB (u.2 k) 0 (v.1 - 1) then true else hasI u.2 (u.2 k) k) = true := he
        refine path_ok mixed Try.func116 hc (dDc v u k) ?_
        simp only [All]
        repeat' (first | exact trivial | with_reducible apply And.intro)
        all_goals (first | exact aG _ | exact aP _ _ | exact aA _ _ | exact aE _ | omega | rfl | (intros; first | assumption | exact True.intro | rfl | exact absurd (show false = true by assumption) Bool.false_ne_true | ((repeat' (first | assumption | apply anda | apply notf)); done)) | (exact c1) | (exact he') | (intro _; exact c2) | (intros; omega))
      | false =>
        have he' : (bif !inB (u.2 k) 0 (v.1 - 1) then true else hasI u.2 (u.2 k) k) = false := he
        refine piece_ok mixed hc (dDb v u k) ?_ (ih (k + 1) (by omega) (by simp only [okD, hg, he]; rfl))
        simp only [All]
        repeat' (first | exact trivial | with_reducible apply And.intro)
        all_goals (first | exact aG _ | exact aP _ _ | exact aA _ _ | exact aE _ | omega | rfl | (intros; first | assumption | exact True.intro | rfl | exact absurd (show false = true by assumption) Bool.false_ne_true | ((repeat' (first | assumption | apply anda | apply notf)); done)) | (exact c1) | (exact he') | (intro _; exact c2) | (intros; omega) | (intro j hj; simp [All, aEt]))
  refine piece_ok mixed hc (dDa v u) ?_ (lp u.1 0 (by omega) rfl)
  simp only [All]
  repeat' (first | exact trivial | with_reducible apply And.intro)
  all_goals (first | exact aG _ | exact aP _ _ | exact aA _ _ | exact aE _ | omega | rfl | (intros; first | assumption | exact True.intro | rfl | exact absurd (show false = true by assumption) Bool.false_ne_true | ((repeat' (first | assumption | apply anda | apply notf)); done)) | (intro j hj; simp [All, aEt]))
theorem con_l7Points (v : T_Graph) (u : T_IntS) (hn : u.1 ≤ 1048576) : Con Try.prog 114 0 [] [graphA v, inL u] [] (.p (.bool (okD v.1 u.2 u.1))) := by
  refine con_start Try.func114 rfl (by kernel_rfl) rfl (fun c hc => ?_)
  have lp : ∀ m k, k + m = u.1 → okD v.1 u.2 k = true → Run Try.prog c 114 [.code (cAt (bodyOf Try.f114) [1, 0, 1, 0, 0]), .inLoop (cAt (bodyOf Try.f114) [1, 0, 1, 0, 0]), .inBlock 0, .code (cAt (bodyOf Try.f114) [1, 1])] (SDs v u k) (Post c [] (.p (.bool (okD v.1 u.2 u.1)))) := by
    intro m
    induction m with
    | zero =>
      intro k hk hg
      obtain rfl : k = u.1 := by omega
      have hd : decide (((u.1 : Nat) : Int) < (u.1 : Int)) = false := by simp
      rw [hg]
      refine path_ok mixed Try.func114 hc (dPd v u u.1) ?_
      simp only [All]
      repeat' (first | exact trivial | with_reducible apply And.intro)
      all_goals (first | exact aG _ | exact aP _ _ | exact aA _ _ | exact aE _ | omega | rfl | (intros; first | assumption | exact True.intro | rfl | exact absurd (show false = true by assumption) Bool.false_ne_true | ((repeat' (first | assumption | apply anda | apply notf)); done)))
    | succ m ih =>
      intro k hk hg
      have hd : decide ((k : Int) < (u.1 : Int)) = true := by simp; omega
      have c2 := con_l2Has (k, u.2) (u.2 k) (by show k ≤ 1048576; omega)
      have hz := difZ_N v.1 u.2 k
      cases he : difN v.1 u.2 k with
      | true =>
        rw [okD_bad v.1 u.2 k he u.1 (by omega)]
        rw [he] at hz
        unfold difZ at hz
        refine path_ok mixed Try.func114 hc (dPc v u k) ?_
        simp only [All]
        repeat' (first | exact trivial | with_reducible apply And.intro)
        all_goals (first | exact aG _ | exact aP _ _ | exact aA _ _ | exact aE _ | omega | rfl | (intros; first | assumption | exact True.intro | rfl | exact absurd (show false = true by assumption) Bool.false_ne_true | ((repeat' (first | assumption | apply anda | apply notf)); done)) | (exact hz) | (intro _; exact c2) | (intros; omega))
      | false =>
        rw [he] at hz
        unfold difZ at hz
        refine piece_ok mixed hc (dPb v u k) ?_ (ih (k + 1) (by omega) (by simp only [okD, hg, he]; rfl))
        simp only [All]
        repeat' (first | exact trivial | with_reducible apply And.intro)
        all_goals (first | exact aG _ | exact aP _ _ | exact aA _ _ | exact aE _ | omega | rfl | (intros; first | assumption | exact True.intro | rfl | exact absurd (show false = true by assumption) Bool.false_ne_true | ((repeat' (first | assumption | apply anda | apply notf)); done)) | (exact hz) | (intro _; exact c2) | (intros; omega) | (intro j hj; simp [All, aEt]))
  refine piece_ok mixed hc (dPa v u) ?_ (lp u.1 0 (by omega) rfl)
  simp only [All]
  repeat' (first | exact trivial | with_reducible apply And.intro)
  all_goals (first | exact aG _ | exact aP _ _ | exact aA _ _ | exact aE _ | omega | rfl | (intros; first | assumption | exact True.intro | rfl | exact absurd (show false = true by assumption) Bool.false_ne_true | ((repeat' (first | assumption | apply anda | apply notf)); done)) | (intro j hj; simp [All, aEt]))
def rnB (v : T_Graph) (u : T_IntS) : Bool := isGraphF v && ((u.1 : Int) == v.1 && okD v.1 u.2 u.1)
def rnG (v : T_Graph) (u : T_IntS) : T_Graph := if rnB v u = true then (v.1, (v.2.1.1, srtB v.2.1.1 (rnD v.2.1.2 u.2)), ()) else (0, (0, fun _ => (0, 0, ())), ())
theorem graph_inR {v : T_Graph} (h : isGraphF v = true) : 1 ≤ v.1 ∧ v.1 ≤ 8 ∧ v.2.1.1 ≤ 24 ∧ goodB v.1 v.2.1.2 v.2.1.1 = true := by
  unfold isGraphF at h
  split at h
  · rename_i h1
    simp only [inB, Bool.and_eq_true, decide_eq_true_eq] at h1
    exact ⟨h1.1.1, h1.1.2, h1.2, h⟩
  · cases h
theorem goodB_at {N : Int} {g : Nat → T_Bar} : ∀ {n : Nat}, goodB N g n = true → ∀ k, k < n → 0 ≤ (g k).1 ∧ (g k).1 < (g k).2.1 ∧ (g k).2.1 < N ∧ (0 < k → leB (g (k - 1)) (g k))
  | 0, _, k, hk => absurd hk (Nat.not_lt_zero _)
  | n + 1, h, k, hk => by
    simp only [goodB, Bool.and_eq_true, Bool.not_eq_true'] at h
    by_cases e : k = n
    · subst e
      have h2 := h.2
      unfold badB at h2
      by_cases c1 : (g k).1 < 0
      · simp [c1] at h2
      by_cases c2 : (g k).1 ≥ (g k).2.1
      · simp [c1, c2] at h2
      by_cases c3 : (g k).2.1 ≥ N
      · simp [c1, c2, c3] at h2
      refine ⟨by omega, by omega, by omega, fun h0 => ?_⟩
      simp only [c1, c2, c3, decide_false, cond_false] at h2
      rw [decide_eq_true (show (k : Int) > 0 by omega)] at h2
      simp only [cond_true, Bool.not_eq_false'] at h2
      rw [← aft_iff]
      rw [show ((k : Int) - 1).toNat = k - 1 by omega] at h2
      exact h2
    · exact goodB_at h.1 k (by omega)
theorem sm_graph {v : T_Graph} (h : v.2.1.1 ≤ 1048576) : smS s_Graph v := ⟨by simp [smS, smL], ⟨h, fun i hi => by simp [smS, smL]⟩, True.intro⟩
theorem con_Rename_i (v : T_Graph) (hs : smS s_Graph v) (u : T_IntS) (hn : u.1 ≤ 1048576) :
    Con Try.prog 80 0 [] [graphA v, inL u] [(0, brOb (rnG v u).2.1.1 (rnG v u).2.1.2)] (.tup [.agg [.p (.int .i64 (rnG v u).1), .ar 2 0 0 (rnG v u).2.1.1], .p (.bool (rnB v u))]) := by
  refine con_start Try.func80 rfl (by kernel_rfl) rfl (fun c hc => ?_)
  have c1 := con_IsGraph_i v hs
  have c3 : isGraphF v = true → Con Try.prog 116 0 [] [graphA v, inL u] [] (.p (.bool (okD v.1 u.2 u.1))) := fun h => by
    have := graph_inR h
    exact con_areDifferent v u this.1 this.2.1 hn
  have c3' : (!bif !isGraphF v then true else (u.1 : Int) != v.1) = true → Con Try.prog 116 0 [] [graphA v, inL u] [] (.p (.bool (okD v.1 u.2 u.1))) := fun h => c3 (by
    cases hb : isGraphF v with
    | true => rfl
    | false => rw [hb] at h; simp at h)
  have hcd : (bif bif !isGraphF v then true else (u.1 : Int) != v.1 then true else !okD v.1 u.2 u.1) = !rnB v u := by
    unfold rnB
    cases isGraphF v <;> cases h : ((u.1 : Int) == v.1) <;> simp [bne, h]
  cases hb : rnB v u with
  | false =>
    rw [hb] at hcd
    have hcd' : (bif bif !isGraphF v then true else (u.1 : Int) != v.1 then true else !okD v.1 u.2 u.1) = true := hcd
    rw [show rnG v u = (0, (0, fun _ => (0, 0, ())), ()) by simp [rnG, hb]]
    refine path_ok mixed Try.func80 hc (dRy v u (isGraphF v) (okD v.1 u.2 u.1)) ?_
    simp only [All]
    repeat' (first | exact trivial | with_reducible apply And.intro)
    all_goals (first | exact aG _ | exact aP _ _ | exact aA _ _ | exact aE _ | omega | rfl | (intros; first | assumption | exact True.intro | rfl | exact absurd (show false = true by assumption) Bool.false_ne_true | ((repeat' (first | assumption | apply anda | apply notf)); done)) | (exact c1) | (exact c3') | (exact hcd') | (intro j hj; exact absurd hj (Nat.not_lt_zero _)) | (intro j hj; simp [All, aEt]))
  | true =>
    rw [hb] at hcd
    have hcd' : (bif bif !isGraphF v then true else (u.1 : Int) != v.1 then true else !okD v.1 u.2 u.1) = false := hcd
    have hb' := hb
    simp only [rnB, Bool.and_eq_true, beq_iff_eq] at hb'
    obtain ⟨hg, hu, hok⟩ := hb'
    obtain ⟨g1, g2, g3, g4⟩ := graph_inR hg
    rw [show rnG v u = (v.1, (v.2.1.1, srtB v.2.1.1 (rnD v.2.1.2 u.2)), ()) by simp [rnG, hb]]
    generalize hr : srtB v.2.1.1 (rnD v.2.1.2 u.2) = r
    have lp : ∀ m k h, k + m = v.2.1.1 → lstB k h = lstB k (rnD v.2.1.2 u.2) → Run Try.prog c 80 [.code (cAt (bodyOf Try.f80) [1, 1, 1, 0, 1, 0, 0]), .inLoop (cAt (bodyOf Try.f80) [1, 1, 1, 0, 1, 0, 0]), .inBlock 0, .code (cAt (bodyOf Try.f80) [1, 1, 1, 1])] (SRi v u k h) (Post c [(0, brOb v.2.1.1 r)] (.tup [.agg [.p (.int .i64 v.1), .ar 2 0 0 v.2.1.1], .p (.bool true)])) := by
      intro m
      induction m with
      | zero =>
        intro k h hk hh
        obtain rfl : k = v.2.1.1 := by omega
        have hd : decide ((v.2.1.1 : Int) < (v.2.1.1 : Int)) = false := by simp
        have hsort := con_sortBars v.2.1.1 h (by omega)
        rw [show srtB v.2.1.1 h = srtB v.2.1.1 (rnD v.2.1.2 u.2) from funext (fun i => by simp only [srtB, hh]), hr] at hsort
        refine path_ok mixed Try.func80 hc (dRb v u v.2.1.1 h r) ?_
        simp only [All]
        repeat' (first | exact trivial | with_reducible apply And.intro)
        all_goals (first | exact aG _ | exact aP _ _ | exact aA _ _ | exact aE _ | omega | rfl | (intros; first | assumption | exact True.intro | rfl | exact absurd (show false = true by assumption) Bool.false_ne_true | ((repeat' (first | assumption | apply anda | apply notf)); done)) | (exact hsort) | (intro j hj; simp [All, aEt]))
      | succ m ih =>
        intro k h hk hh
        have hd : decide ((k : Int) < (v.2.1.1 : Int)) = true := by simp; omega
        have hat := goodB_at g4 k (by omega)
        have cb := con_barX (u.2 (v.2.1.2 k).1.toNat) (u.2 (v.2.1.2 k).2.1.toNat)
        refine piece_ok mixed hc (dRa v u k h (rnD v.2.1.2 u.2 k)) ?_ (ih (k + 1) _ (by omega) (by rw [lstB_snoc, lstB_succ, hh]))
        simp only [All]
        repeat' (first | exact trivial | with_reducible apply And.intro)
        all_goals (first | exact aG _ | exact aP _ _ | exact aA _ _ | exact aE _ | omega | rfl | (intros; first | assumption | exact True.intro | rfl | exact absurd (show false = true by assumption) Bool.false_ne_true | ((repeat' (first | assumption | apply anda | apply notf)); done)) | (exact cb) | (intro j hj; by_cases h' : j < k <;> simp [h', snoc, cvtL, cvt, tg, tru, All]))
    refine piece_ok mixed hc (dRz v u (isGraphF v) (okD v.1 u.2 u.1)) ?_ (lp v.2.1.1 0 _ (by omega) (by simp [lstB, srtL]))
    simp only [All]
    repeat' (first | exact trivial | with_reducible apply And.intro)
    all_goals (first | exact aG _ | exact aP _ _ | exact aA _ _ | exact aE _ | omega | rfl | (intros; first | assumption | exact True.intro | rfl | exact absurd (show false = true by assumption) Bool.false_ne_true | ((repeat' (first | assumption | apply anda | apply notf)); done)) | (exact c1) | (exact c3') | (exact hcd') | (intro j hj; exact absurd hj (Nat.not_lt_zero _)) | (intro j hj; simp [All, aEt]))
theorem con_Rename_s (v : T_Graph) (hs : smS s_Graph v) (u : T_IntS) (hn : u.1 ≤ 1048576) :
    Con Try.prog 75 0 [] [graphA v, inL u] [(0, brOb (rnG v u).2.1.1 (rnG v u).2.1.2)] (.tup [.agg [.p (.int .i64 (rnG v u).1), .ar 2 0 0 (rnG v u).2.1.1], .p (.bool (rnB v u))]) := by
  refine con_start Try.func75 rfl (by kernel_rfl) rfl (fun c hc => ?_)
  have c1 := con_IsGraph_s v hs
  have c3 := con_l7Points v u hn
  have hcd : (bif bif !isGraphF v then true else (u.1 : Int) != v.1 then true else !okD v.1 u.2 u.1) = !rnB v u := by
    unfold rnB
    cases isGraphF v <;> cases h : ((u.1 : Int) == v.1) <;> simp [bne, h]
  cases hb : rnB v u with
  | false =>
    rw [hb] at hcd
    have hcd' : (bif bif !isGraphF v then true else (u.1 : Int) != v.1 then true else !okD v.1 u.2 u.1) = true := hcd
    rw [show rnG v u = (0, (0, fun _ => (0, 0, ())), ()) by simp [rnG, hb]]
    refine path_ok mixed Try.func75 hc (dSy v u (isGraphF v) (okD v.1 u.2 u.1)) ?_
    simp only [All]
    repeat' (first | exact trivial | with_reducible apply And.intro)
    all_goals (first | exact aG _ | exact aP _ _ | exact aA _ _ | exact aE _ | omega | rfl | (intros; first | assumption | exact True.intro | rfl | exact absurd (show false = true by assumption) Bool.false_ne_true | ((repeat' (first | assumption | apply anda | apply notf)); done)) | (exact c1) | (intro _; exact c3) | (exact hcd') | (intro j hj; exact absurd hj (Nat.not_lt_zero _)) | (intro j hj; simp [All, aEt]))
  | true =>
    rw [hb] at hcd
    have hcd' : (bif bif !isGraphF v then true else (u.1 : Int) != v.1 then true else !okD v.1 u.2 u.1) = false := hcd
    have hb' := hb
    simp only [rnB, Bool.and_eq_true, beq_iff_eq] at hb'
    obtain ⟨hg, hu, hok⟩ := hb'
    obtain ⟨g1, g2, g3, g4⟩ := graph_inR hg
    rw [show rnG v u = (v.1, (v.2.1.1, srtB v.2.1.1 (rnD v.2.1.2 u.2)), ()) by simp [rnG, hb]]
    generalize hr : srtB v.2.1.1 (rnD v.2.1.2 u.2) = r
    have lp : ∀ m k h, k + m = v.2.1.1 → lstB k h = srtL (lstB k (rnD v.2.1.2 u.2)) → Run Try.prog c 75 [.code (cAt (bodyOf Try.f75) [1, 1, 1, 0, 1, 0, 0]), .inLoop (cAt (bodyOf Try.f75) [1, 1, 1, 0, 1, 0, 0]), .inBlock 0, .code (cAt (bodyOf Try.f75) [1, 1, 1, 1])] (SRs v u k k h) (Post c [(0, brOb v.2.1.1 r)] (.tup [.agg [.p (.int .i64 v.1), .ar 2 0 0 v.2.1.1], .p (.bool true)])) := by
      intro m
      induction m with
      | zero =>
        intro k h hk hh
        obtain rfl : k = v.2.1.1 := by omega
        have hd : decide ((v.2.1.1 : Int) < (v.2.1.1 : Int)) = false := by simp
        rw [← lstB_srt, hr] at hh
        have hrow : ∀ i, i < v.2.1.1 → h i = r i := fun i hi => lstB_inj hh i hi
        refine path_ok mixed Try.func75 hc (dSb v u v.2.1.1 v.2.1.1 h r) ?_
        simp only [All]
        repeat' (first | exact trivial | with_reducible apply And.intro)
        all_goals (first | exact aG _ | exact aP _ _ | exact aA _ _ | exact aE _ | omega | rfl | (intros; first | assumption | exact True.intro | rfl | exact absurd (show false = true by assumption) Bool.false_ne_true | ((repeat' (first | assumption | apply anda | apply notf)); done)) | (intro j hj; simp [All, aEt]; done) | (intro j hj; simp [hrow j hj, All]) | (intro j hj; rw [hrow j hj]; simp [cvtL, cvt, tg, tru, All]))
      | succ m ih =>
        intro k h hk hh
        have hd : decide ((k : Int) < (v.2.1.1 : Int)) = true := by simp; omega
        have hat := goodB_at g4 k (by omega)
        have hsrt : (lstB k h).Pairwise leB := by rw [hh]; exact srtL_sorted _
        have hp := con_l2Put h k v.1.toNat (rnD v.2.1.2 u.2 k) (by omega)
        have hN : ((v.1.toNat : Nat) : Int) = v.1 := by omega
        have hl := insR_list h k (rnD v.2.1.2 u.2 k) hsrt
        have hn' := insR_n h k (rnD v.2.1.2 u.2 k)
        rw [hn'] at hp hl
        have hl2 : lstB (k + 1) (insR h k (rnD v.2.1.2 u.2 k)).2 = srtL (lstB (k + 1) (rnD v.2.1.2 u.2)) := by
          rw [hl]
          refine srtL_eq ((srtL_perm _).trans ?_) (srtL_sorted _)
          rw [hh, lstB_succ]
          exact List.Perm.append_right _ (srtL_perm _)
        rw [grG, hN] at hp
        refine piece_ok mixed hc (dSa v u k k (k + 1) h (insR h k (rnD v.2.1.2 u.2 k)).2) ?_ (ih (k + 1) _ (by omega) hl2)
        simp only [All]
        repeat' (first | exact trivial | with_reducible apply And.intro)
        all_goals (first | exact aG _ | exact aP _ _ | exact aA _ _ | exact aE _ | omega | rfl | (intros; first | assumption | exact True.intro | rfl | exact absurd (show false = true by assumption) Bool.false_ne_true | ((repeat' (first | assumption | apply anda | apply notf)); done)) | (exact hp) | (intro j hj; simp [All, aEt]))
    refine piece_ok mixed hc (dSz v u (isGraphF v) (okD v.1 u.2 u.1)) ?_ (lp v.2.1.1 0 _ (by omega) (by simp [lstB, srtL]))
    simp only [All]
    repeat' (first | exact trivial | with_reducible apply And.intro)
    all_goals (first | exact aG _ | exact aP _ _ | exact aA _ _ | exact aE _ | omega | rfl | (intros; first | assumption | exact True.intro | rfl | exact absurd (show false = true by assumption) Bool.false_ne_true | ((repeat' (first | assumption | apply anda | apply notf)); done)) | (exact c1) | (intro _; exact c3) | (exact hcd') | (intro j hj; exact absurd hj (Nat.not_lt_zero _)) | (intro j hj; simp [All, aEt]))
end Go.Proofs.Ytgdbnnmogddkaaa.Mach
namespace Go.Proofs.Ytgdbnnmogddkaaa.Mach
open Go
set_option linter.unusedVariables false
set_option linter.unusedSimpArgs false
theorem con_l4Other (x : T_Bar) (v : Int) (h1 : 0 ≤ x.1 ∧ x.1 ≤ 1048576) (h2 : 0 ≤ x.2.1 ∧ x.2.1 ≤ 1048576) (h3 : 0 ≤ v ∧ v ≤ 1048576) : Con Try.prog 168 0 [] [brA x, .p (.int .i64 v)] [] (.p (.int .i64 (x.1 + x.2.1 - v))) := by
  refine con_start Try.func168 rfl (by kernel_rfl) rfl (fun c hc => ?_)
  refine path_ok mixed Try.func168 hc (qOt x v) ?_
  simp only [All]
  repeat' (first | exact trivial | with_reducible apply And.intro)
  all_goals (first | exact aG _ | exact aP _ _ | exact aA _ _ | exact aE _ | omega | rfl | (intros; first | assumption | exact True.intro | rfl | exact absurd (show false = true by assumption) Bool.false_ne_true | ((repeat' (first | assumption | apply anda | apply notf)); done)) | simp)
theorem con_l4Copy (N m : Nat) (F T Q : Nat → Int) (hN : N ≤ 1048576) (hm : m ≤ 1048576) : Con Try.prog 156 0 [] [pebD N m F T Q] (pebR N m F T Q) (pebO N m 0) := by
  refine con_start Try.func156 rfl (by kernel_rfl) rfl (fun c hc => ?_)
  refine path_ok mixed Try.func156 hc (qCp N m F T Q) ?_
  simp only [All]
  repeat' (first | exact trivial | with_reducible apply And.intro)
  all_goals (first | exact aG _ | exact aP _ _ | exact aA _ _ | exact aE _ | omega | rfl | (intros; first | assumption | exact True.intro | rfl | exact absurd (show false = true by assumption) Bool.false_ne_true | ((repeat' (first | assumption | apply anda | apply notf)); done)) | (intro i hi; simp [All, aEt]))
theorem oth_sum {x : T_Bar} {y z : Int} (h : y = x.1 ∨ y = x.2.1) (hz : othF x y = z) : x.1 + x.2.1 - z = y ∧ x.1 + x.2.1 - y = z := by
  unfold othF at hz
  by_cases e : x.1 = y
  · rw [if_pos e] at hz; omega
  · rw [if_neg e] at hz
    rcases h with h | h
    · exact absurd h.symm e
    · omega
theorem run_shift {N nb m : Nat} {g : Nat → T_Bar} {F F0 F1 T Q td FR : Nat → Int} {a b u : Int} {tn : Nat} (h : BInv N m g F T Q td (fun s => FR (td s).toNat) a b tn) (hN : N ≤ 1048576) (hm : m ≤ 1048576) (hnb : nb ≤ 1048576)
    (hq : ∀ j, j < m → 0 ≤ Q j ∧ Q j < nb) (hbar : ∀ e, e < nb → 0 ≤ (g e).1 ∧ (g e).1 < (g e).2.1 ∧ (g e).2.1 < N) (hT : ∀ j, j < m → T j = (g (Q j).toNat).1 ∨ T j = (g (Q j).toNat).2.1) :
    ∀ s, s < tn → ∀ T' : Nat → Int, TInv m g T Q td (fun s => FR (td s).toNat) T' u s → ∃ T'' s', (∀ c, c.n = 0 → Run Try.prog c 169 [.code (cAt (bodyOf Try.f169) [1, 1, 1, 1, 1, 0, 0, 0]), .inLoop (cAt (bodyOf Try.f169) [1, 1, 1, 1, 1, 0, 0, 0]), .inBlock 0, .code (cAt (bodyOf Try.f169) [1, 1, 1, 1, 1, 1])] (SSl g nb N m F0 T Q FR F1 T' a u (td s)) (Post c (pebR N m F1 T'' Q) (pebO N m 0))) ∧
      TInv m g T Q td (fun s => FR (td s).toNat) T'' u s' ∧ td s' = a := by
  intro s
  induction s using Nat.strongRecOn with
  | ind s ih =>
    intro hs T' ht
    by_cases he : td s = a
    · refine ⟨T', s, fun c hc => ?_, ht, he⟩
      have hb : (td s != a) = false := by simp [he]
      refine path_ok mixed Try.func169 hc (qSe g nb N m F0 T Q FR F1 T' a u (td s)) ?_
      simp only [All]
      repeat' (first | exact trivial | with_reducible apply And.intro)
      all_goals (first | exact aG _ | exact aP _ _ | exact aA _ _ | exact aE _ | omega | rfl | (intros; first | assumption | exact True.intro | rfl | exact absurd (show false = true by assumption) Bool.false_ne_true | ((repeat' (first | assumption | apply anda | apply notf)); done)) | (exact hb) | (intro i hi; simp [All, aEt]))
    · have hs1 : 1 ≤ s := by
        cases s with
        | zero => exact absurd h.td0 he
        | succ s => omega
      obtain ⟨j, hj, hVs, s', hs', hk, ht', hTj, hoth⟩ := ht.step h hs hs1
      have hVs : FR (td s).toNat = (j : Int) := hVs
      obtain ⟨T'', s'', hrun, h1, h2⟩ := ih s' hs' (by omega) _ ht'
      refine ⟨T'', s'', fun c hc => ?_, h1, h2⟩
      have hb : (td s != a) = true := by simp [he]
      have hqj := hq j hj
      have hbj := hbar (Q j).toNat (by omega)
      have hrs := h.rng s hs
      have hsum := (oth_sum (by rw [← hTj]; exact hT j hj) hoth).1
      have hcon := con_l4Other (g (Q j).toNat) (td s) (by omega) (by omega) (by omega)
      rw [hsum] at hcon
      refine piece_ok mixed hc (qSl g nb N m F0 T Q FR F1 T' a u (td s) (td s')) ?_ (by rw [hVs]; simp only [Int.toNat_natCast]; exact hrun c hc)
      simp only [All]
      repeat' (first | exact trivial | with_reducible apply And.intro)
      all_goals (first | exact aG _ | exact aP _ _ | exact aA _ _ | exact aE _ | omega | rfl | (intros; first | assumption | exact True.intro | rfl | exact absurd (show false = true by assumption) Bool.false_ne_true | ((repeat' (first | assumption | apply anda | apply notf)); done)) | (exact hb) | (rw [hVs]; simp only [Int.toNat_natCast]; omega) | (rw [hVs]; simp only [Int.toNat_natCast]; exact hcon) | (intro i hi; simp [All, aEt]; done) | (simp only [hVs, Int.toNat_natCast]; intro i hi; by_cases h : i = j <;> simp [h, cvtL, cvt, tg, tru, All]))
theorem BInv.congrV {N m : Nat} {g : Nat → T_Bar} {F T Q td V V' : Nat → Int} {a b : Int} {tn : Nat} (h : BInv N m g F T Q td V a b tn) (hv : ∀ s, s < tn → V s = V' s) : BInv N m g F T Q td V' a b tn :=
  ⟨h.n1, h.td0, h.rng, h.inj, fun s h1 h2 => by rw [← hv s h2]; exact h.par s h1 h2⟩
theorem con_l4Shift {N k nb m : Nat} {g : Nat → T_Bar} {F T Q td FR : Nat → Int} {a b u : Int} {tn : Nat} (hp : PInv N k nb m g F T Q) (hk : k ≤ 1048576) (hN : N ≤ 1048576) (hm : m ≤ 1048576) (hnb : nb ≤ 1048576)
    (h : BInv N m g F T Q td (fun s => FR (td s).toNat) a b (tn + 1)) (htn : td tn = u) (ha : 0 ≤ a ∧ a < N) (hu : 0 ≤ u ∧ u < N) (hua : u ≠ a) :
    ∃ T'' s', Con Try.prog 169 0 [] [grG g nb N, pebD N m F T Q, inD N FR, .p (.int .i64 a), .p (.int .i64 u)] (pebR N m (fun x => if x = a.toNat then (if x = u.toNat then F x - 1 else F x) + 1 else (if x = u.toNat then F x - 1 else F x)) T'' Q) (pebO N m 0) ∧
      TInv m g T Q td (fun s => FR (td s).toNat) T'' u s' ∧ td s' = a := by
  have ht0 : TInv m g T Q td (fun s => FR (td s).toNat) T u tn := ⟨fun _ _ _ => rfl, hp.t, fun x => by rw [htn]; omega⟩
  obtain ⟨T'', s', hrun, h1, h2⟩ := run_shift (nb := nb) (F0 := F) (F1 := fun x => if x = a.toNat then (if x = u.toNat then F x - 1 else F x) + 1 else (if x = u.toNat then F x - 1 else F x)) h hN hm hnb hp.q hp.bars hp.t tn (by omega) T ht0
  refine ⟨T'', s', ?_, h1, h2⟩
  rw [htn] at hrun
  have hFa := hp.le (v := a.toNat) (by omega)
  have hFu := hp.le (v := u.toNat) (by omega)
  have hcc := con_l4Copy N m F T Q hN hm
  refine con_start Try.func169 rfl (by kernel_rfl) rfl (fun c hc => ?_)
  have hrun' := hrun c hc
  refine piece_ok mixed hc (qSz g nb N m F T Q FR a u) ?_ ?_
  ·
    simp only [All]
    repeat' (first | exact trivial | with_reducible apply And.intro)
    all_goals (first | exact aG _ | exact aP _ _ | exact aA _ _ | exact aE _ | omega | rfl | (intros; first | assumption | exact True.intro | rfl | exact absurd (show false = true by assumption) Bool.false_ne_true | ((repeat' (first | assumption | apply anda | apply notf)); done)) | (exact hcc) | (intro i hi; simp [All, aEt]; done) | (intro i hi; by_cases h : i = u.toNat <;> simp [h, cvtL, cvt, tg, tru, All]))
  · have hF1 : (fun s => if s = u.toNat then F s - 1 else F s) a.toNat = F a.toNat := by
      show (if a.toNat = u.toNat then F a.toNat - 1 else F a.toNat) = _
      rw [if_neg (by omega)]
    obtain ⟨F1, hF1d⟩ : ∃ F1 : Nat → Int, F1 = (fun s => if s = u.toNat then F s - 1 else F s) := ⟨_, rfl⟩
    have hFF : (fun x => if x = a.toNat then (if x = u.toNat then F x - 1 else F x) + 1 else (if x = u.toNat then F x - 1 else F x)) = (fun s => if s = a.toNat then F1 s + 1 else F1 s) := by
      subst hF1d; rfl
    rw [hFF] at hrun' ⊢
    rw [← hF1d] at hF1 ⊢
    refine piece_ok mixed hc (qSa g nb N m F T Q FR F1 T a u) ?_ hrun'
    simp only [All]
    repeat' (first | exact trivial | with_reducible apply And.intro)
    all_goals (first | exact aG _ | exact aP _ _ | exact aA _ _ | exact aE _ | omega | rfl | (intros; first | assumption | exact True.intro | rfl | exact absurd (show false = true by assumption) Bool.false_ne_true | ((repeat' (first | assumption | apply anda | apply notf)); done)) | (rw [hF1]; omega) | (intro i hi; simp [All, aEt]; done) | (intro i hi; by_cases h : i = a.toNat <;> simp [h, cvtL, cvt, tg, tru, All]))
inductive FindR (N k nb m : Nat) (g : Nat → T_Bar) (F T Q : Nat → Int) (a b : Int) : Hp → AV → Prop
  | yes (F' T' : Nat → Int) (h : Moved N k nb m g F T Q a b F' T' true) : FindR N k nb m g F T Q a b (pebR3 N m F T Q F' T' Q) (.tup [pebO N m 3, .p (.bool true)])
  | no (h : Moved N k nb m g F T Q a b F T false) : FindR N k nb m g F T Q a b (pebR N m F T Q) (.tup [pebO N m 0, .p (.bool false)])
def OutS (N k nb m : Nat) (g : Nat → T_Bar) (F T Q : Nat → Int) (a b : Int) (i tn : Nat) (td FR : Nat → Int) (SN : Nat → Bool) : Prop :=
  ∃ H' res, (∀ c, c.n = 3 → Run Try.prog c 157 [.code (cAt (bodyOf Try.f157) [1, 1, 1, 1, 1, 1, 0, 1, 0, 0]), .inLoop (cAt (bodyOf Try.f157) [1, 1, 1, 1, 1, 1, 0, 1, 0, 0]), .inBlock 2, .code (cAt (bodyOf Try.f157) [1, 1, 1, 1, 1, 1, 1])] (SF1 g nb N m F T Q td FR SN a b i tn) (Post c H' res)) ∧ FindR N k nb m g F T Q a b H' res
def MidS (N k nb m : Nat) (g : Nat → T_Bar) (F T Q : Nat → Int) (a b : Int) (i j tn : Nat) (td FR : Nat → Int) (SN : Nat → Bool) : Prop :=
  ∃ H' res, (∀ c, c.n = 3 → Run Try.prog c 157 [.code (cAt (bodyOf Try.f157) [1, 1, 1, 1, 1, 1, 0, 1, 0, 0, 1, 0, 0, 1, 1, 0, 0]), .inLoop (cAt (bodyOf Try.f157) [1, 1, 1, 1, 1, 1, 0, 1, 0, 0, 1, 0, 0, 1, 1, 0, 0]), .inBlock 4, .inBlock 3, .code (cAt (bodyOf Try.f157) [1, 1, 1, 1, 1, 1, 0, 1, 0, 0, 1, 1]), .inLoop (cAt (bodyOf Try.f157) [1, 1, 1, 1, 1, 1, 0, 1, 0, 0]), .inBlock 2, .code (cAt (bodyOf Try.f157) [1, 1, 1, 1, 1, 1, 1])] (SF2 g nb N m F T Q td FR SN a b (td i) i j tn) (Post c H' res)) ∧ FindR N k nb m g F T Q a b H' res
def SeenI (N : Nat) (td : Nat → Int) (SN : Nat → Bool) (tn : Nat) : Prop := ∀ x : Nat, x < N → (SN x = true ↔ ∃ s, s < tn ∧ td s = x)
theorem mid_s {N k nb m : Nat} {g : Nat → T_Bar} {F T Q : Nat → Int} {a b : Int} (hp : PInv N k nb m g F T Q) (hk : k ≤ 1048576) (hN : N ≤ 1048576) (hm : m ≤ 1048576) (hnb : nb ≤ 1048576)
    (ha : 0 ≤ a ∧ a < N) (hb : 0 ≤ b ∧ b < N) (hab : a ≠ b) (i : Nat)
    (ih : ∀ tn td FR SN, i + 1 ≤ tn → BInv N m g F T Q td (fun s => FR (td s).toNat) a b tn → SeenI N td SN tn → BZero F td b tn → BClo m g T Q td (i + 1) 0 tn → OutS N k nb m g F T Q a b (i + 1) tn td FR SN) :
    ∀ e j tn td FR SN, j + e = m → i < tn → BInv N m g F T Q td (fun s => FR (td s).toNat) a b tn → SeenI N td SN tn → BZero F td b tn → BClo m g T Q td i j tn → MidS N k nb m g F T Q a b i j tn td FR SN := by
  intro e
  induction e with
  | zero =>
    intro j tn td FR SN hj hi hbi hsn hz hcl
    have htn := pigeon N tn td hbi.rng hbi.inj
    obtain ⟨H', res, hrun, hmv⟩ := ih tn td FR SN (by omega) hbi hsn hz (fun i' j' hij hi' hT => by
      rcases hij with ⟨h1, h2⟩ | ⟨h1, h2⟩
      · by_cases e : i' = i
        · exact hcl i' j' (.inr ⟨e, by omega⟩) hi' hT
        · exact hcl i' j' (.inl ⟨by omega, h2⟩) hi' hT
      · omega)
    refine ⟨H', res, fun c hc => ?_, hmv⟩
    have hd : decide ((j : Int) < (m : Int)) = false := by simp; omega
    refine piece_ok mixed hc (qF2e g nb N m F T Q td FR SN a b (td i) i j tn) ?_ (hrun c hc)
    simp only [All]
    repeat' (first | exact trivial | with_reducible apply And.intro)
    all_goals (first | exact aG _ | exact aP _ _ | exact aA _ _ | exact aE _ | omega | rfl | (intros; first | assumption | exact True.intro | rfl | exact absurd (show false = true by assumption) Bool.false_ne_true | ((repeat' (first | assumption | apply anda | apply notf)); done)) | (intro i hi; simp [All, aEt]))
  | succ e ihe =>
    intro j tn td FR SN hj hi hbi hsn hz hcl
    have htn := pigeon N tn td hbi.rng hbi.inj
    have hjm : j < m := by omega
    have hd : decide ((j : Int) < (m : Int)) = true := by simp; omega
    have hq := hp.q j hjm
    have hbar := hp.bars (Q j).toNat (by omega)
    have hrg := hbi.rng i hi
    by_cases hT : T j = td i
    · have ht1 : (T j != td i) = false := by simp [hT]
      obtain ⟨v, hv⟩ : ∃ v, othF (g (Q j).toNat) (td i) = v := ⟨_, rfl⟩
      have hvr : 0 ≤ v ∧ v < N := by rw [← hv]; exact othF_in hbar
      have hsum := (oth_sum (by rw [← hT]; exact hp.t j hjm) hv).2
      have hcon := con_l4Other (g (Q j).toNat) (td i) (by omega) (by omega) (by omega)
      rw [hsum] at hcon
      cases hh : SN v.toNat with
      | true =>
        obtain ⟨s, hs1, hs2⟩ := (hsn v.toNat (by omega)).1 hh
        obtain ⟨H', res, hrun, hmv⟩ := ihe (j + 1) tn td FR SN (by omega) hi hbi hsn hz (fun i' j' hij hi' hTT => by
          by_cases e : i' = i ∧ j' = j
          · obtain ⟨rfl, rfl⟩ := e
            exact ⟨s, hs1, by rw [hs2, hv]; omega⟩
          · exact hcl i' j' (by omega) hi' hTT)
        refine ⟨H', res, fun c hc => ?_, hmv⟩
        refine piece_ok mixed hc (qF2b g nb N m F T Q td FR SN a b (td i) v i j tn) ?_ (hrun c hc)
        simp only [All]
        repeat' (first | exact trivial | with_reducible apply And.intro)
        all_goals (first | exact aG _ | exact aP _ _ | exact aA _ _ | exact aE _ | omega | rfl | (intros; first | assumption | exact True.intro | rfl | exact absurd (show false = true by assumption) Bool.false_ne_true | ((repeat' (first | assumption | apply anda | apply notf)); done)) | (exact ht1) | (exact hcon) | (exact hh) | (intro i hi; simp [All, aEt]))
      | false =>
        have hno : ∀ s, s < tn → td s ≠ v := by
          intro s hs e
          have := (hsn v.toNat (by omega)).2 ⟨s, hs, by omega⟩
          rw [hh] at this; cases this
        have hadd0 := hbi.add hi hjm hT hv hvr hno
        have hadd : BInv N m g F T Q (fun s => if s < tn then td s else v) (fun s => (fun x => if x = v.toNat then (j : Int) else FR x) ((fun s => if s < tn then td s else v) s).toNat) a b (tn + 1) := by
          refine hadd0.congrV (fun s hs => ?_)
          show (if s < tn then FR (td s).toNat else (j : Int)) = (if (if s < tn then td s else v).toNat = v.toNat then (j : Int) else FR (if s < tn then td s else v).toNat)
          by_cases e : s < tn
          · have h1 := hno s e
            have h2 := hbi.rng s e
            rw [if_pos e, if_pos e, if_neg (show ¬ (td s).toNat = v.toNat by omega)]
          · rw [if_neg e, if_neg e, if_pos rfl]
        have hF := hp.le (v := v.toNat) (by omega)
        cases hcd : (bif v != b then decide (F v.toNat > 0) else false) with
        | false =>
          have hzv : v = b ∨ F v.toNat = 0 := by
            by_cases e : v = b
            · exact .inl e
            · right
              have : (v != b) = true := by simp [e]
              rw [this] at hcd
              simp at hcd
              omega
          obtain ⟨H', res, hrun, hmv⟩ := ihe (j + 1) (tn + 1) (fun s => if s < tn then td s else v) (fun x => if x = v.toNat then (j : Int) else FR x) (fun s => if s = v.toNat then true else SN s) (by omega) (by omega) hadd (fun x hx => by
            show (if x = v.toNat then true else SN x) = true ↔ ∃ s, s < tn + 1 ∧ (if s < tn then td s else v) = x
            by_cases e : x = v.toNat
            · rw [if_pos e]
              exact ⟨fun _ => ⟨tn, by omega, by rw [if_neg (Nat.lt_irrefl tn)]; omega⟩, fun _ => rfl⟩
            · rw [if_neg e, hsn x hx]
              constructor
              · rintro ⟨s, h1, h2⟩; exact ⟨s, by omega, by rw [if_pos h1]; exact h2⟩
              · rintro ⟨s, h1, h2⟩
                by_cases e2 : s < tn
                · rw [if_pos e2] at h2; exact ⟨s, e2, h2⟩
                · rw [if_neg e2] at h2; omega) (fun s h1 h2 => by
            show (if s < tn then td s else v) = b ∨ F (if s < tn then td s else v).toNat = 0
            by_cases e : s < tn
            · rw [if_pos e]; exact hz s h1 e
            · rw [if_neg e]; exact hzv) (fun i' j' hij hi' hTT => by
            have hi2 : i' < tn := by omega
            have hTT' : T j' = td i' := by rw [hTT]; show (if i' < tn then td i' else v) = _; rw [if_pos hi2]
            show ∃ s, s < tn + 1 ∧ (if s < tn then td s else v) = othF (g (Q j').toNat) (if i' < tn then td i' else v)
            rw [if_pos hi2]
            by_cases e : i' = i ∧ j' = j
            · obtain ⟨rfl, rfl⟩ := e
              exact ⟨tn, by omega, by rw [if_neg (Nat.lt_irrefl tn), hv]⟩
            · obtain ⟨s, h1, h2⟩ := hcl i' j' (by omega) hi2 hTT'
              exact ⟨s, by omega, by rw [if_pos h1]; exact h2⟩)
          refine ⟨H', res, fun c hc => ?_, hmv⟩
          have hrun' := hrun c hc
          simp only [hi, if_true] at hrun'
          refine piece_ok mixed hc (qF2c g nb N m F T Q td FR SN a b (td i) v i j tn) ?_ hrun'
          simp only [All]
          repeat' (first | exact trivial | with_reducible apply And.intro)
          all_goals (first | exact aG _ | exact aP _ _ | exact aA _ _ | exact aE _ | omega | rfl | (intros; first | assumption | exact True.intro | rfl | exact absurd (show false = true by assumption) Bool.false_ne_true | ((repeat' (first | assumption | apply anda | apply notf)); done)) | (exact ht1) | (exact hcon) | (exact hh) | (exact hcd) | (intros; omega) | (intro i hi; simp [All, aEt]; done) | (intro i hi; by_cases h : i < tn <;> simp [h, cvtL, cvt, tg, tru, All]; done) | (intro i hi; by_cases h : i = v.toNat <;> simp [h, cvtL, cvt, tg, tru, All]))
        | true =>
          have hvb : v ≠ b := by
            intro e
            rw [show (v != b) = false by simp [e]] at hcd
            cases hcd
          have hFv : F v.toNat ≠ 0 := by
            intro e
            rw [show (v != b) = true by simp [hvb]] at hcd
            simp [e] at hcd
          have hva : v ≠ a := by
            have := hno 0 (by have := hbi.n1; omega)
            rw [hbi.td0] at this
            exact Ne.symm this
          obtain ⟨T'', s', hcs, h1, h2⟩ := con_l4Shift (td := fun s => if s < tn then td s else v) (FR := fun x => if x = v.toNat then (j : Int) else FR x) (tn := tn) hp hk hN hm hnb hadd (by show (if tn < tn then td tn else v) = v; rw [if_neg (Nat.lt_irrefl tn)]) ha hvr hva
          refine ⟨_, _, fun c hc => ?_, .yes _ T'' (moved_yes hp ha hb hab hvr hva hvb hFv h1 h2)⟩
          refine piece_ok mixed hc (qF2d g nb N m F T Q td FR SN a b (td i) v i j tn) ?_ ?_
          ·
            simp only [All]
            repeat' (first | exact trivial | with_reducible apply And.intro)
            all_goals (first | exact aG _ | exact aP _ _ | exact aA _ _ | exact aE _ | omega | rfl | (intros; first | assumption | exact True.intro | rfl | exact absurd (show false = true by assumption) Bool.false_ne_true | ((repeat' (first | assumption | apply anda | apply notf)); done)) | (exact ht1) | (exact hcon) | (exact hh) | (exact hcd) | (intros; omega) | (intro i hi; simp [All, aEt]; done) | (intro i hi; by_cases h : i = v.toNat <;> simp [h, cvtL, cvt, tg, tru, All]))
          · refine path_ok mixed Try.func157 hc (qF3 g nb N m F T Q (fun s => if s = v.toNat then (j : Int) else FR s) _ T'' a b v) ?_
            simp only [All]
            repeat' (first | exact trivial | with_reducible apply And.intro)
            all_goals (first | exact aG _ | exact aP _ _ | exact aA _ _ | exact aE _ | omega | rfl | (intros; first | assumption | exact True.intro | rfl | exact absurd (show false = true by assumption) Bool.false_ne_true | ((repeat' (first | assumption | apply anda | apply notf)); done)) | (exact hcs) | (intro i hi; simp [All, aEt]))
    · have ht1 : (T j != td i) = true := by simp [hT]
      obtain ⟨H', res, hrun, hmv⟩ := ihe (j + 1) tn td FR SN (by omega) hi hbi hsn hz (fun i' j' hij hi' hTT => by
        by_cases e : i' = i ∧ j' = j
        · obtain ⟨rfl, rfl⟩ := e
          exact absurd hTT hT
        · exact hcl i' j' (by omega) hi' hTT)
      refine ⟨H', res, fun c hc => ?_, hmv⟩
      refine piece_ok mixed hc (qF2a g nb N m F T Q td FR SN a b (td i) i j tn) ?_ (hrun c hc)
      simp only [All]
      repeat' (first | exact trivial | with_reducible apply And.intro)
      all_goals (first | exact aG _ | exact aP _ _ | exact aA _ _ | exact aE _ | omega | rfl | (intros; first | assumption | exact True.intro | rfl | exact absurd (show false = true by assumption) Bool.false_ne_true | ((repeat' (first | assumption | apply anda | apply notf)); done)) | (exact ht1) | (intro i hi; simp [All, aEt]))
theorem out_s {N k nb m : Nat} {g : Nat → T_Bar} {F T Q : Nat → Int} {a b : Int} (hp : PInv N k nb m g F T Q) (hk : k ≤ 1048576) (hN : N ≤ 1048576) (hm : m ≤ 1048576) (hnb : nb ≤ 1048576)
    (ha : 0 ≤ a ∧ a < N) (hb : 0 ≤ b ∧ b < N) (hab : a ≠ b) : ∀ d i tn td FR SN, N + 1 ≤ i + d → i ≤ tn → BInv N m g F T Q td (fun s => FR (td s).toNat) a b tn → SeenI N td SN tn → BZero F td b tn → BClo m g T Q td i 0 tn → OutS N k nb m g F T Q a b i tn td FR SN := by
  intro d
  induction d with
  | zero =>
    intro i tn td FR SN hd hi hbi _ _ _
    have := pigeon N tn td hbi.rng hbi.inj
    omega
  | succ d ih =>
    intro i tn td FR SN hd hi hbi hsn hz hcl
    have htn := pigeon N tn td hbi.rng hbi.inj
    by_cases hit : i < tn
    · have hd' : decide ((i : Int) < (tn : Int)) = true := by simp; omega
      obtain ⟨H', res, hrun, hmv⟩ := mid_s hp hk hN hm hnb ha hb hab i (fun tn td FR SN h1 h2 h3 h4 h5 => ih (i + 1) tn td FR SN (by omega) h1 h2 h3 h4 h5) m 0 tn td FR SN (by omega) hit hbi hsn hz hcl
      refine ⟨H', res, fun c hc => ?_, hmv⟩
      refine piece_ok mixed hc (qF1 g nb N m F T Q td FR SN a b i tn) ?_ (hrun c hc)
      simp only [All]
      repeat' (first | exact trivial | with_reducible apply And.intro)
      all_goals (first | exact aG _ | exact aP _ _ | exact aA _ _ | exact aE _ | omega | rfl | (intros; first | assumption | exact True.intro | rfl | exact absurd (show false = true by assumption) Bool.false_ne_true | ((repeat' (first | assumption | apply anda | apply notf)); done)) | (intro i hi; simp [All, aEt]))
    · have hd' : decide ((i : Int) < (tn : Int)) = false := by simp; omega
      obtain rfl : i = tn := by omega
      refine ⟨_, _, fun c hc => ?_, .no (moved_no hp hbi hz hcl)⟩
      refine path_ok mixed Try.func157 hc (qF1e g nb N m F T Q td FR SN a b i i) ?_
      simp only [All]
      repeat' (first | exact trivial | with_reducible apply And.intro)
      all_goals (first | exact aG _ | exact aP _ _ | exact aA _ _ | exact aE _ | omega | rfl | (intros; first | assumption | exact True.intro | rfl | exact absurd (show false = true by assumption) Bool.false_ne_true | ((repeat' (first | assumption | apply anda | apply notf)); done)) | (intro i hi; simp [All, aEt]))
theorem con_l4Find {N k nb m : Nat} {g : Nat → T_Bar} {F T Q : Nat → Int} {a b : Int} (hp : PInv N k nb m g F T Q) (hk : k ≤ 1048576) (hN : N ≤ 1048576) (hm : m ≤ 1048576) (hnb : nb ≤ 1048576)
    (ha : 0 ≤ a ∧ a < N) (hb : 0 ≤ b ∧ b < N) (hab : a ≠ b) : ∃ H' res, Con Try.prog 157 3 (pebR N m F T Q) [grG g nb N, pebO N m 0, .p (.int .i64 a), .p (.int .i64 b)] H' res ∧ FindR N k nb m g F T Q a b H' res := by
  obtain ⟨H', res, hrun, hmv⟩ := out_s hp hk hN hm hnb ha hb hab (N + 1) 0 1 (fun _ => a) (fun _ => -1) (fun s => if s = a.toNat then true else false) (by omega) (by omega)
    ⟨by omega, rfl, fun s hs => ha, fun s s' h1 h2 => by omega, fun s h1 h2 => by omega⟩ (fun x hx => by
      show (if x = a.toNat then true else false) = true ↔ ∃ s, s < 1 ∧ a = x
      by_cases e : x = a.toNat
      · rw [if_pos e]; exact ⟨fun _ => ⟨0, by omega, by omega⟩, fun _ => rfl⟩
      · rw [if_neg e]; exact ⟨(fun h => by cases h), (fun ⟨s, h1, h2⟩ => by omega)⟩) (fun s h1 h2 => by omega) (fun i' j' h => by omega)
  refine ⟨H', res, ?_, hmv⟩
  refine con_start Try.func157 rfl (by kernel_rfl) rfl (fun c hc => ?_)
  have lp0 : ∀ d i, i + d = N → Run Try.prog c 157 [.code (cAt (bodyOf Try.f157) [1, 1, 0, 1, 0, 0]), .inLoop (cAt (bodyOf Try.f157) [1, 1, 0, 1, 0, 0]), .inBlock 0, .code (cAt (bodyOf Try.f157) [1, 1, 1])] (SF0 g nb N m F T Q a b i) (Post c H' res) := by
    intro d
    induction d with
    | zero =>
      intro i hi
      obtain rfl : i = N := by omega
      have hd : decide ((i : Int) < (i : Int)) = false := by simp
      refine piece_ok mixed hc (qF01 g nb i m F T Q a b i) ?_ (hrun c hc)
      simp only [All]
      repeat' (first | exact trivial | with_reducible apply And.intro)
      all_goals (first | exact aG _ | exact aP _ _ | exact aA _ _ | exact aE _ | omega | rfl | (intros; first | assumption | exact True.intro | rfl | exact absurd (show false = true by assumption) Bool.false_ne_true | ((repeat' (first | assumption | apply anda | apply notf)); done)) | (intro j hj; simp [All, aEt]; done) | (intro j hj; simp [hj, All]; done) | (intro j hj; by_cases h : j = a.toNat <;> simp [h, cvtL, cvt, tg, tru, All]))
    | succ d ih =>
      intro i hi
      have hd : decide ((i : Int) < (N : Int)) = true := by simp; omega
      refine piece_ok mixed hc (qF0 g nb N m F T Q a b i) ?_ (ih (i + 1) (by omega))
      simp only [All]
      repeat' (first | exact trivial | with_reducible apply And.intro)
      all_goals (first | exact aG _ | exact aP _ _ | exact aA _ _ | exact aE _ | omega | rfl | (intros; first | assumption | exact True.intro | rfl | exact absurd (show false = true by assumption) Bool.false_ne_true | ((repeat' (first | assumption | apply anda | apply notf)); done)) | (intro j hj; simp [All, aEt]; done) | (intro j hj; by_cases h : j = i <;> simp [h, Nat.lt_succ_iff_lt_or_eq, cvtL, cvt, tg, tru, All]))
  refine piece_ok mixed hc (qFz g nb N m F T Q a b) ?_ (lp0 N 0 (by omega))
  simp only [All]
  repeat' (first | exact trivial | with_reducible apply And.intro)
  all_goals (first | exact aG _ | exact aP _ _ | exact aA _ _ | exact aE _ | omega | rfl | (intros; first | assumption | exact True.intro | rfl | exact absurd (show false = true by assumption) Bool.false_ne_true | ((repeat' (first | assumption | apply anda | apply notf)); done)) | (intro i hi; simp [All, aEt]))
end Go.Proofs.Ytgdbnnmogddkaaa.Mach
namespace Go.Proofs.Ytgdbnnmogddkaaa.Mach
open Go
set_option linter.unusedVariables false
set_option linter.unusedSimpArgs false
def SH (g : Nat → T_Bar) (nb N m : Nat) (F0 T0 F T Q : Nat → Int) (a b want : Int) : St :=
  ⟨[grG g nb N, pebD N m F0 T0 Q, .p (.int .i64 a), .p (.int .i64 b), .p (.int .i64 want), .pt 2 0 0 0, .pt 3 1 0 0, .p .any, .p .any, .p .any, .pt 3 2 0 0, .p .any, .pt 3 3 0 0] ++ List.replicate 40 anyA,
   [(0, bxG g nb N), (1, bxD N m F0 T0 Q), (2, bx0), (3, bxP N m 4), (4, iOb N F), (5, iOb m T), (6, iOb m Q)], 7⟩
def SNc (g : Nat → T_Bar) (nb N k : Nat) : St :=
  ⟨[.p .any, .p (.int .i64 k), .pt 2 0 0 0, .p .any, .pt 3 1 0 0, .p .any, .pt 3 2 0 0] ++ List.replicate 27 anyA,
   [(0, bxG g nb N), (1, bx0), (2, ⟨true, 3, 1, fun _ => [.ar 1 3 0 0, .ar 1 4 0 0, .ar 1 5 0 0]⟩), (3, iOb 0 (fun _ => k)), (4, iOb 0 (fun _ => 0)), (5, iOb 0 (fun _ => 0))], 6⟩
def SN0 (g : Nat → T_Bar) (nb N k i : Nat) : St :=
  ⟨[.p .any, .p (.int .i64 k), .pt 2 0 0 0, .p .any, .pt 3 1 0 0, .p .any, .pt 3 2 0 0, .p (.int .i64 i)] ++ List.replicate 26 anyA,
   [(0, bxG g nb N), (1, bx0), (2, ⟨true, 3, 1, fun _ => [.ar 1 3 0 i, .ar 1 4 0 0, .ar 1 5 0 0]⟩), (3, iOb i (fun _ => k)), (4, iOb 0 (fun _ => 0)), (5, iOb 0 (fun _ => 0))], 6⟩
theorem qHz (g : Nat → T_Bar) (nb N m : Nat) (F T Q : Nat → Int) (a b want : Int) :
    pieceOb Try.prog 0 [.reg [oT, oT, oT, oT], .reg [oT, ⟨true, (some ⟨[], [], [], 1, pebR N m F T Q, pebO N m 0⟩), none⟩, oT, oT], .head] [.code (bodyOf Try.f138)] (start Try.f138 [] 0 [grG g nb N, pebD N m F T Q, .p (.int .i64 a), .p (.int .i64 b), .p (.int .i64 want)]) [0, 32, 64, 192, 160, 161, 162] 1 (SH g nb N m F T F T Q a b want) =
    some ([.code (cAt (bodyOf Try.f138) [1, 1, 0, 0, 0]), .inLoop (cAt (bodyOf Try.f138) [1, 1, 0, 0, 0]), .inBlock 0, .code (cAt (bodyOf Try.f138) [1, 1, 1])], [((0 : Nat) < 1),
  Con Try.prog 156 0 [] [.agg [.p (.seq true 1 N (fun i => [.int .i64 (F i)])), .p (.seq true 1 m (fun i => [.int .i64 (T i)])), .p (.seq true 1 m (fun i => [.int .i64 (Q i)]))]] [(0, ⟨false, 1, N, (fun i => [.p (.int .i64 (F i))])⟩), (1, ⟨false, 1, m, (fun i => [.p (.int .i64 (T i))])⟩), (2, ⟨false, 1, m, (fun i => [.p (.int .i64 (Q i))])⟩)] (.agg [.ar 1 0 0 N, .ar 1 1 0 m, .ar 1 2 0 m]),
  ((0 : Nat) < 1),
  ((true = true) → (AN 1)),
  (AI ((↑N : Int))),
  (AN nb),
  (AP nb (fun i => [.int .i64 ((g i).1), .int .i64 ((g i).2.1)])),
  (AN N),
  (AP N (fun i => [.int .i64 (F i)])),
  (AN m),
  (AP m (fun i => [.int .i64 (T i)])),
  (AN m),
  (AP m (fun i => [.int .i64 (Q i)])),
  (AI a),
  (AI b),
  (AI want),
  (AN 0),
  (AN 0),
  (AN 0),
  (AN 0),
  ((([AV.p (PV.int IntKind.i64 (↑N : Int)), brL g nb].length) : Nat) = 2),
  ((1 : Nat) ≤ 1),
  ((1 : Nat) ≤ 1),
  (AI ((↑N : Int))),
  (AN nb),
  (AP nb (fun i => [.int .i64 ((g i).1), .int .i64 ((g i).2.1)])),
  ((([inD N F, inD m T, inD m Q].length) : Nat) = 3),
  ((1 : Nat) ≤ 1),
  ((1 : Nat) ≤ 1),
  (AN N),
  (AP N (fun i => [.int .i64 (F i)])),
  (AN m),
  (AP m (fun i => [.int .i64 (T i)])),
  (AN m),
  (AP m (fun i => [.int .i64 (Q i)])),
  ((((List.map (fun v => AV.p (absV v)) [Value.slice none 0 0, Value.slice none 0 0, Value.slice none 0 0]).length) : Nat) = 3),
  ((1 : Nat) ≤ 1),
  ((1 : Nat) ≤ 1),
  ((((List.map (fun v => AV.p (absV v)) [Value.slice none 0 0, Value.slice none 0 0, Value.slice none 0 0]).length) : Nat) = 3),
  ((1 : Nat) ≤ 1),
  ((1 : Nat) ≤ 1),
  (AN 0),
  (AN N),
  (AN 0),
  (AN m),
  (AN 0),
  (AN m),
  (AN 1),
  ((N : Nat) ≤ N),
  (AA N (fun i => [.p (.int .i64 (F i))])),
  (AN 1),
  ((m : Nat) ≤ m),
  (AA m (fun i => [.p (.int .i64 (T i))])),
  (AN 1),
  ((m : Nat) ≤ m),
  (AA m (fun i => [.p (.int .i64 (Q i))]))]) := by kernel_rfl
theorem qHa (g : Nat → T_Bar) (nb N m : Nat) (F0 T0 F T Q F1 T1 : Nat → Int) (a b want : Int) :
    pieceOb Try.prog 0 [.reg [oT, oT, oT, oT, oT, oT, oT, oT, oT, oT, oT, oT, oT], .dec true, .reg [oT, oT, oT, oT, ⟨true, (some ⟨[4, 5, 6], [], [], 1, pebR3 N m F T Q F1 T1 Q, .tup [pebO N m 3, .p (.bool true)]⟩), none⟩, oT, oT, oT, oT, oT, oT], .reg [oT, oT], .dec false, .reg [oT, oT], .dec false, .reg [oT, oT], .head] [.code (cAt (bodyOf Try.f138) [1, 1, 0, 0, 0]), .inLoop (cAt (bodyOf Try.f138) [1, 1, 0, 0, 0]), .inBlock 0, .code (cAt (bodyOf Try.f138) [1, 1, 1])] (SH g nb N m F0 T0 F T Q a b want) [0, 1, 2, 3, 551, 552, 553] 1 (SH g nb N m F0 T0 F1 T1 Q a b want) =
    some ([.code (cAt (bodyOf Try.f138) [1, 1, 0, 0, 0]), .inLoop (cAt (bodyOf Try.f138) [1, 1, 0, 0, 0]), .inBlock 0, .code (cAt (bodyOf Try.f138) [1, 1, 1])], [((0 : Nat) < 1),
  ((0 : Int) ≤ a),
  ((a : Int) < (↑N : Int)),
  ((a.toNat : Nat) < N),
  ((0 : Nat) < 1),
  ((0 : Int) ≤ b),
  ((b : Int) < (↑N : Int)),
  ((b.toNat : Nat) < N),
  (((-9223372036854775808) : Int) ≤ (F a.toNat + F b.toNat)),
  (((F a.toNat + F b.toNat) : Int) ≤ 9223372036854775807),
  ((decide (F (a.toNat + 0) + F (b.toNat + 0) < want)) = true),
  ((0 : Nat) < 1),
  ((0 : Nat) < 1),
  (AE N),
  (AE m),
  (AE m),
  Con Try.prog 157 3 [(0, ⟨false, 1, N, (fun i => [.p (.int .i64 (F i))])⟩), (1, ⟨false, 1, m, (fun i => [.p (.int .i64 (T i))])⟩), (2, ⟨false, 1, m, (fun i => [.p (.int .i64 (Q i))])⟩)] [.agg [.p (.int .i64 (↑N : Int)), .p (.seq true 2 nb (fun i => [.int .i64 ((g i).1), .int .i64 ((g i).2.1)]))], .agg [.ar 1 0 0 N, .ar 1 1 0 m, .ar 1 2 0 m], .p (.int .i64 a), .p (.int .i64 b)] [(0, ⟨false, 1, N, (fun i => [.p (.int .i64 (F i))])⟩), (1, ⟨false, 1, m, (fun i => [.p (.int .i64 (T i))])⟩), (2, ⟨false, 1, m, (fun i => [.p (.int .i64 (Q i))])⟩), (3, ⟨false, 1, N, (fun i => [.p (.int .i64 (F1 i))])⟩), (4, ⟨false, 1, m, (fun i => [.p (.int .i64 (T1 i))])⟩), (5, ⟨false, 1, m, (fun i => [.p (.int .i64 (Q i))])⟩)] (.tup [.agg [.ar 1 3 0 N, .ar 1 4 0 m, .ar 1 5 0 m], .p (.bool true)]),
  ((0 : Nat) < 1),
  ((true = true) → (AN 1)),
  ((!true) = false),
  ((!true) = false),
  ((0 : Nat) < 1),
  ((0 : Nat) < 1),
  ((true = true) → (AN 1)),
  (AI ((↑N : Int))),
  (AN nb),
  (AP nb (fun i => [.int .i64 ((g i).1), .int .i64 ((g i).2.1)])),
  (AN N),
  (AP N (fun i => [.int .i64 (F0 i)])),
  (AN m),
  (AP m (fun i => [.int .i64 (T0 i)])),
  (AN m),
  (AP m (fun i => [.int .i64 (Q i)])),
  (AI a),
  (AI b),
  (AI want),
  (AN 0),
  (AN 0),
  (AN 0),
  (AN 0),
  (AN 2),
  ((1 : Nat) ≤ 1),
  ((1 : Nat) ≤ 1),
  (AI ((↑N : Int))),
  (AN nb),
  (AP nb (fun i => [.int .i64 ((g i).1), .int .i64 ((g i).2.1)])),
  (AN 3),
  ((1 : Nat) ≤ 1),
  ((1 : Nat) ≤ 1),
  (AN N),
  (AP N (fun i => [.int .i64 (F0 i)])),
  (AN m),
  (AP m (fun i => [.int .i64 (T0 i)])),
  (AN m),
  (AP m (fun i => [.int .i64 (Q i)])),
  (AN 3),
  ((1 : Nat) ≤ 1),
  ((1 : Nat) ≤ 1),
  (AN 3),
  ((1 : Nat) ≤ 1),
  ((1 : Nat) ≤ 1),
  (AN 0),
  (AN N),
  (AN 0),
  (AN m),
  (AN 0),
  (AN m),
  (AN 1),
  ((N : Nat) ≤ N),
  (AA N (fun i => [.p (.int .i64 (F1 i))])),
  (AN 1),
  ((m : Nat) ≤ m),
  (AA m (fun i => [.p (.int .i64 (T1 i))])),
  (AN 1),
  ((m : Nat) ≤ m),
  (AA m (fun i => [.p (.int .i64 (Q i))]))]) := by kernel_rfl
theorem qHb (g : Nat → T_Bar) (nb N m : Nat) (F0 T0 F T Q F1 T1 : Nat → Int) (a b want : Int) :
    pieceOb Try.prog 0 [.reg [oT, oT, oT, oT, oT, oT, oT, oT, oT, oT, oT, oT, oT], .dec true, .reg [oT, oT, oT, oT, ⟨true, (some ⟨[4, 5, 6], [], [], 1, pebR N m F T Q, .tup [pebO N m 0, .p (.bool false)]⟩), none⟩, oT, oT, oT, oT, oT, oT], .reg [oT, oT], .dec true, .reg [oT, oT, oT, oT, ⟨true, (some ⟨[4, 5, 6], [], [], 1, pebR3 N m F T Q F1 T1 Q, .tup [pebO N m 3, .p (.bool true)]⟩), none⟩, oT, oT, oT, oT, oT], .reg [oT, oT], .dec false, .reg [oT, oT], .head] [.code (cAt (bodyOf Try.f138) [1, 1, 0, 0, 0]), .inLoop (cAt (bodyOf Try.f138) [1, 1, 0, 0, 0]), .inBlock 0, .code (cAt (bodyOf Try.f138) [1, 1, 1])] (SH g nb N m F0 T0 F T Q a b want) [0, 1, 2, 3, 967, 968, 969] 1 (SH g nb N m F0 T0 F1 T1 Q a b want) =
    some ([.code (cAt (bodyOf Try.f138) [1, 1, 0, 0, 0]), .inLoop (cAt (bodyOf Try.f138) [1, 1, 0, 0, 0]), .inBlock 0, .code (cAt (bodyOf Try.f138) [1, 1, 1])], [((0 : Nat) < 1),
  ((0 : Int) ≤ a),
  ((a : Int) < (↑N : Int)),
  ((a.toNat : Nat) < N),
  ((0 : Nat) < 1),
  ((0 : Int) ≤ b),
  ((b : Int) < (↑N : Int)),
  ((b.toNat : Nat) < N),
  (((-9223372036854775808) : Int) ≤ (F a.toNat + F b.toNat)),
  (((F a.toNat + F b.toNat) : Int) ≤ 9223372036854775807),
  ((decide (F (a.toNat + 0) + F (b.toNat + 0) < want)) = true),
  ((0 : Nat) < 1),
  ((0 : Nat) < 1),
  (AE N),
  (AE m),
  (AE m),
  Con Try.prog 157 3 [(0, ⟨false, 1, N, (fun i => [.p (.int .i64 (F i))])⟩), (1, ⟨false, 1, m, (fun i => [.p (.int .i64 (T i))])⟩), (2, ⟨false, 1, m, (fun i => [.p (.int .i64 (Q i))])⟩)] [.agg [.p (.int .i64 (↑N : Int)), .p (.seq true 2 nb (fun i => [.int .i64 ((g i).1), .int .i64 ((g i).2.1)]))], .agg [.ar 1 0 0 N, .ar 1 1 0 m, .ar 1 2 0 m], .p (.int .i64 a), .p (.int .i64 b)] [(0, ⟨false, 1, N, (fun i => [.p (.int .i64 (F i))])⟩), (1, ⟨false, 1, m, (fun i => [.p (.int .i64 (T i))])⟩), (2, ⟨false, 1, m, (fun i => [.p (.int .i64 (Q i))])⟩)] (.tup [.agg [.ar 1 0 0 N, .ar 1 1 0 m, .ar 1 2 0 m], .p (.bool false)]),
  ((0 : Nat) < 1),
  ((true = true) → (AN 1)),
  ((!false) = true),
  ((0 : Nat) < 1),
  ((0 : Nat) < 1),
  (AE N),
  (AE m),
  (AE m),
  Con Try.prog 157 3 [(0, ⟨false, 1, N, (fun i => [.p (.int .i64 (F i))])⟩), (1, ⟨false, 1, m, (fun i => [.p (.int .i64 (T i))])⟩), (2, ⟨false, 1, m, (fun i => [.p (.int .i64 (Q i))])⟩)] [.agg [.p (.int .i64 (↑N : Int)), .p (.seq true 2 nb (fun i => [.int .i64 ((g i).1), .int .i64 ((g i).2.1)]))], .agg [.ar 1 0 0 N, .ar 1 1 0 m, .ar 1 2 0 m], .p (.int .i64 b), .p (.int .i64 a)] [(0, ⟨false, 1, N, (fun i => [.p (.int .i64 (F i))])⟩), (1, ⟨false, 1, m, (fun i => [.p (.int .i64 (T i))])⟩), (2, ⟨false, 1, m, (fun i => [.p (.int .i64 (Q i))])⟩), (3, ⟨false, 1, N, (fun i => [.p (.int .i64 (F1 i))])⟩), (4, ⟨false, 1, m, (fun i => [.p (.int .i64 (T1 i))])⟩), (5, ⟨false, 1, m, (fun i => [.p (.int .i64 (Q i))])⟩)] (.tup [.agg [.ar 1 3 0 N, .ar 1 4 0 m, .ar 1 5 0 m], .p (.bool true)]),
  ((0 : Nat) < 1),
  ((true = true) → (AN 1)),
  ((!true) = false),
  ((0 : Nat) < 1),
  ((0 : Nat) < 1),
  ((true = true) → (AN 1)),
  (AI ((↑N : Int))),
  (AN nb),
  (AP nb (fun i => [.int .i64 ((g i).1), .int .i64 ((g i).2.1)])),
  (AN N),
  (AP N (fun i => [.int .i64 (F0 i)])),
  (AN m),
  (AP m (fun i => [.int .i64 (T0 i)])),
  (AN m),
  (AP m (fun i => [.int .i64 (Q i)])),
  (AI a),
  (AI b),
  (AI want),
  (AN 0),
  (AN 0),
  (AN 0),
  (AN 0),
  (AN 2),
  ((1 : Nat) ≤ 1),
  ((1 : Nat) ≤ 1),
  (AI ((↑N : Int))),
  (AN nb),
  (AP nb (fun i => [.int .i64 ((g i).1), .int .i64 ((g i).2.1)])),
  (AN 3),
  ((1 : Nat) ≤ 1),
  ((1 : Nat) ≤ 1),
  (AN N),
  (AP N (fun i => [.int .i64 (F0 i)])),
  (AN m),
  (AP m (fun i => [.int .i64 (T0 i)])),
  (AN m),
  (AP m (fun i => [.int .i64 (Q i)])),
  (AN 3),
  ((1 : Nat) ≤ 1),
  ((1 : Nat) ≤ 1),
  (AN 3),
  ((1 : Nat) ≤ 1),
  ((1 : Nat) ≤ 1),
  (AN 0),
  (AN N),
  (AN 0),
  (AN m),
  (AN 0),
  (AN m),
  (AN 1),
  ((N : Nat) ≤ N),
  (AA N (fun i => [.p (.int .i64 (F1 i))])),
  (AN 1),
  ((m : Nat) ≤ m),
  (AA m (fun i => [.p (.int .i64 (T1 i))])),
  (AN 1),
  ((m : Nat) ≤ m),
  (AA m (fun i => [.p (.int .i64 (Q i))]))]) := by kernel_rfl
theorem qHc (g : Nat → T_Bar) (nb N m : Nat) (F0 T0 F T Q : Nat → Int) (a b want : Int) :
    pathOb Try.prog Try.f138 0 [.reg [oT, oT, oT, oT, oT, oT, oT, oT, oT, oT, oT, oT, oT], .dec true, .reg [oT, oT, oT, oT, ⟨true, (some ⟨[4, 5, 6], [], [], 1, pebR N m F T Q, .tup [pebO N m 0, .p (.bool false)]⟩), none⟩, oT, oT, oT, oT, oT, oT], .reg [oT, oT], .dec true, .reg [oT, oT, oT, oT, ⟨true, (some ⟨[4, 5, 6], [], [], 1, pebR N m F T Q, .tup [pebO N m 0, .p (.bool false)]⟩), none⟩, oT, oT, oT, oT, oT], .reg [oT, oT], .dec true, .reg [oT, oT, oT]] [.code (cAt (bodyOf Try.f138) [1, 1, 0, 0, 0]), .inLoop (cAt (bodyOf Try.f138) [1, 1, 0, 0, 0]), .inBlock 0, .code (cAt (bodyOf Try.f138) [1, 1, 1])] (SH g nb N m F0 T0 F T Q a b want) [4, 5, 6] 1 (pebR N m F T Q) (.tup [pebO N m 0, .p (.bool false)]) =
    some [((0 : Nat) < 1),
  ((0 : Int) ≤ a),
  ((a : Int) < (↑N : Int)),
  ((a.toNat : Nat) < N),
  ((0 : Nat) < 1),
  ((0 : Int) ≤ b),
  ((b : Int) < (↑N : Int)),
  ((b.toNat : Nat) < N),
  (((-9223372036854775808) : Int) ≤ (F a.toNat + F b.toNat)),
  (((F a.toNat + F b.toNat) : Int) ≤ 9223372036854775807),
  ((decide (F (a.toNat + 0) + F (b.toNat + 0) < want)) = true),
  ((0 : Nat) < 1),
  ((0 : Nat) < 1),
  (AE N),
  (AE m),
  (AE m),
  Con Try.prog 157 3 [(0, ⟨false, 1, N, (fun i => [.p (.int .i64 (F i))])⟩), (1, ⟨false, 1, m, (fun i => [.p (.int .i64 (T i))])⟩), (2, ⟨false, 1, m, (fun i => [.p (.int .i64 (Q i))])⟩)] [.agg [.p (.int .i64 (↑N : Int)), .p (.seq true 2 nb (fun i => [.int .i64 ((g i).1), .int .i64 ((g i).2.1)]))], .agg [.ar 1 0 0 N, .ar 1 1 0 m, .ar 1 2 0 m], .p (.int .i64 a), .p (.int .i64 b)] [(0, ⟨false, 1, N, (fun i => [.p (.int .i64 (F i))])⟩), (1, ⟨false, 1, m, (fun i => [.p (.int .i64 (T i))])⟩), (2, ⟨false, 1, m, (fun i => [.p (.int .i64 (Q i))])⟩)] (.tup [.agg [.ar 1 0 0 N, .ar 1 1 0 m, .ar 1 2 0 m], .p (.bool false)]),
  ((0 : Nat) < 1),
  ((true = true) → (AN 1)),
  ((!false) = true),
  ((0 : Nat) < 1),
  ((0 : Nat) < 1),
  (AE N),
  (AE m),
  (AE m),
  Con Try.prog 157 3 [(0, ⟨false, 1, N, (fun i => [.p (.int .i64 (F i))])⟩), (1, ⟨false, 1, m, (fun i => [.p (.int .i64 (T i))])⟩), (2, ⟨false, 1, m, (fun i => [.p (.int .i64 (Q i))])⟩)] [.agg [.p (.int .i64 (↑N : Int)), .p (.seq true 2 nb (fun i => [.int .i64 ((g i).1), .int .i64 ((g i).2.1)]))], .agg [.ar 1 0 0 N, .ar 1 1 0 m, .ar 1 2 0 m], .p (.int .i64 b), .p (.int .i64 a)] [(0, ⟨false, 1, N, (fun i => [.p (.int .i64 (F i))])⟩), (1, ⟨false, 1, m, (fun i => [.p (.int .i64 (T i))])⟩), (2, ⟨false, 1, m, (fun i => [.p (.int .i64 (Q i))])⟩)] (.tup [.agg [.ar 1 0 0 N, .ar 1 1 0 m, .ar 1 2 0 m], .p (.bool false)]),
  ((0 : Nat) < 1),
  ((true = true) → (AN 1)),
  ((!false) = true),
  ((0 : Nat) < 1),
  ((0 : Nat) < 1),
  ((true = true) → (AN 1)),
  ((0 : Nat) < 1),
  (AN 0),
  (AN N),
  (AN 0),
  (AN m),
  (AN 0),
  (AN m),
  (false = false),
  (AN 1),
  ((N : Nat) ≤ N),
  (AA N (fun i => [.p (.int .i64 (F i))])),
  (AN 1),
  ((m : Nat) ≤ m),
  (AA m (fun i => [.p (.int .i64 (T i))])),
  (AN 1),
  ((m : Nat) ≤ m),
  (AA m (fun i => [.p (.int .i64 (Q i))])),
  (AE N),
  (AE m),
  (AE m)] := by kernel_rfl
theorem qHd (g : Nat → T_Bar) (nb N m : Nat) (F0 T0 F T Q : Nat → Int) (a b want : Int) :
    pathOb Try.prog Try.f138 0 [.reg [oT, oT, oT, oT, oT, oT, oT, oT, oT, oT, oT, oT, oT], .dec false, .reg [oT, oT, oT]] [.code (cAt (bodyOf Try.f138) [1, 1, 0, 0, 0]), .inLoop (cAt (bodyOf Try.f138) [1, 1, 0, 0, 0]), .inBlock 0, .code (cAt (bodyOf Try.f138) [1, 1, 1])] (SH g nb N m F0 T0 F T Q a b want) [4, 5, 6] 1 (pebR N m F T Q) (.tup [pebO N m 0, .p (.bool true)]) =
    some [((0 : Nat) < 1),
  ((0 : Int) ≤ a),
  ((a : Int) < (↑N : Int)),
  ((a.toNat : Nat) < N),
  ((0 : Nat) < 1),
  ((0 : Int) ≤ b),
  ((b : Int) < (↑N : Int)),
  ((b.toNat : Nat) < N),
  (((-9223372036854775808) : Int) ≤ (F a.toNat + F b.toNat)),
  (((F a.toNat + F b.toNat) : Int) ≤ 9223372036854775807),
  ((decide (F (a.toNat + 0) + F (b.toNat + 0) < want)) = false),
  ((0 : Nat) < 1),
  ((0 : Nat) < 1),
  ((true = true) → (AN 1)),
  ((0 : Nat) < 1),
  (AN 0),
  (AN N),
  (AN 0),
  (AN m),
  (AN 0),
  (AN m),
  (true = true),
  (AN 1),
  ((N : Nat) ≤ N),
  (AA N (fun i => [.p (.int .i64 (F i))])),
  (AN 1),
  ((m : Nat) ≤ m),
  (AA m (fun i => [.p (.int .i64 (T i))])),
  (AN 1),
  ((m : Nat) ≤ m),
  (AA m (fun i => [.p (.int .i64 (Q i))])),
  (AE N),
  (AE m),
  (AE m)] := by kernel_rfl
theorem qNy (g : Nat → T_Bar) (nb N k : Nat) :
    pieceOb Try.prog 0 [.reg [oT, oT, oT], .reg [oT, oT, oT, oT, oT, oT], .head] [.code (bodyOf Try.f137)] (start Try.f137 [] 0 [grG g nb N, .p (.int .i64 k)]) [0, 32, 224, 96, 128, 160] 1 (SNc g nb N k) =
    some ([.code (cAt (bodyOf Try.f137) [1, 1, 0, 0]), .code (cAt (bodyOf Try.f137) [1, 1, 0, 1]), .code (cAt (bodyOf Try.f137) [1, 1, 1])], [((0 : Nat) < 1),
  ((true = true) → (AN 1)),
  (AI ((↑k : Int))),
  (AN 0),
  (AN 0),
  (AN 0),
  ((([AV.p (PV.int IntKind.i64 (↑N : Int)), brL g nb].length) : Nat) = 2),
  ((1 : Nat) ≤ 1),
  ((1 : Nat) ≤ 1),
  (AI ((↑N : Int))),
  (AN nb),
  (AP nb (fun i => [.int .i64 ((g i).1), .int .i64 ((g i).2.1)])),
  ((((List.map (fun v => AV.p (absV v)) [Value.slice none 0 0, Value.slice none 0 0, Value.slice none 0 0]).length) : Nat) = 3),
  ((1 : Nat) ≤ 1),
  ((1 : Nat) ≤ 1),
  ((((List.map (fun v => AV.p (absV v)) [Value.slice none 0 0, Value.slice none 0 0, Value.slice none 0 0]).length) : Nat) = 3),
  ((1 : Nat) ≤ 1),
  ((1 : Nat) ≤ 1),
  (AN 0),
  (AN 0),
  (AN 0),
  (AN 0),
  (AN 0),
  (AN 0),
  (AN 1),
  ((0 : Nat) ≤ 0),
  (∀ i : Nat, (((i : Nat) < 0) → (All [] ∧ (([.p (.int .i64 0)] : List AV) = [.p (.int .i64 (↑k : Int))])))),
  (AN 1),
  ((0 : Nat) ≤ 0),
  (AA 0 (fun i => [.p (.int .i64 0)])),
  (AN 1),
  ((0 : Nat) ≤ 0),
  (AA 0 (fun i => [.p (.int .i64 0)]))]) := by kernel_rfl
theorem qNa (g : Nat → T_Bar) (nb N k : Nat) :
    pieceOb Try.prog 0 [.reg [oT, ⟨true, (some ⟨[], [], [], 1, [], .p (.bool true)⟩), none⟩, oT, oT, oT, ⟨true, (some ⟨[], [], [], 1, [], .p (.bool true)⟩), none⟩, oT, oT], .dec false, .reg [oT], .head] [.code (cAt (bodyOf Try.f137) [1, 1, 0, 0]), .code (cAt (bodyOf Try.f137) [1, 1, 0, 1]), .code (cAt (bodyOf Try.f137) [1, 1, 1])] (SNc g nb N k) [0, 1, 2, 3, 4, 5] 1 (SN0 g nb N k 0) =
    some ([.code (cAt (bodyOf Try.f137) [1, 1, 1, 0, 1, 0, 0]), .inLoop (cAt (bodyOf Try.f137) [1, 1, 1, 0, 1, 0, 0]), .inBlock 0, .code (cAt (bodyOf Try.f137) [1, 1, 1, 1])], [((0 : Nat) < 1),
  Con Try.prog 73 0 [] [.agg [.p (.int .i64 (↑N : Int)), .p (.seq true 2 nb (fun i => [.int .i64 ((g i).1), .int .i64 ((g i).2.1)]))]] [] (.p (.bool true)),
  (AG (!!true)),
  (((!!true) = true) → Con Try.prog 112 0 [] [.p (.int .i64 (↑k : Int)), .p (.int .i64 1), .p (.int .i64 3)] [] (.p (.bool true))),
  (AG (!!true)),
  (((!true) = false) → ((!!true) = true)),
  ((bif !true then true else !true) = false),
  (AI ((↑k : Int))),
  (AN 0),
  (AN 0),
  (AN 0),
  ((0 : Int) = (↑0 : Int)),
  (AN 2),
  ((1 : Nat) ≤ 1),
  ((1 : Nat) ≤ 1),
  (AI ((↑N : Int))),
  (AN nb),
  (AP nb (fun i => [.int .i64 ((g i).1), .int .i64 ((g i).2.1)])),
  (AN 3),
  ((1 : Nat) ≤ 1),
  ((1 : Nat) ≤ 1),
  (AN 3),
  ((1 : Nat) ≤ 1),
  ((1 : Nat) ≤ 1),
  (AN 0),
  (AN 0),
  (AN 0),
  (AN 0),
  (AN 0),
  (AN 0),
  (AN 1),
  ((0 : Nat) ≤ 0),
  (AA 0 (fun i => [.p (.int .i64 (↑k : Int))])),
  (AN 1),
  ((0 : Nat) ≤ 0),
  (AA 0 (fun i => [.p (.int .i64 0)])),
  (AN 1),
  ((0 : Nat) ≤ 0),
  (AA 0 (fun i => [.p (.int .i64 0)]))]) := by kernel_rfl
theorem qNl (g : Nat → T_Bar) (nb N k i : Nat) :
    pieceOb Try.prog 0 [.reg [oT, oT, oT, oT], .dec true, .reg [oT, oT, oT, oT, oT, oT, oT], .reg [oT, oT, oT], .head] [.code (cAt (bodyOf Try.f137) [1, 1, 1, 0, 1, 0, 0]), .inLoop (cAt (bodyOf Try.f137) [1, 1, 1, 0, 1, 0, 0]), .inBlock 0, .code (cAt (bodyOf Try.f137) [1, 1, 1, 1])] (SN0 g nb N k i) [0, 1, 2, 262, 4, 5] 1 (SN0 g nb N k (i + 1)) =
    some ([.code (cAt (bodyOf Try.f137) [1, 1, 1, 0, 1, 0, 0]), .inLoop (cAt (bodyOf Try.f137) [1, 1, 1, 0, 1, 0, 0]), .inBlock 0, .code (cAt (bodyOf Try.f137) [1, 1, 1, 1])], [((0 : Nat) < 1),
  ((decide ((↑i : Int) < (↑N : Int))) = true),
  ((0 : Nat) < 1),
  ((1 : Nat) ≤ 1),
  ((i : Nat) ≤ i),
  ((((i + 1) * 8) : Nat) ≤ 140737488355328),
  (((i + 1) : Nat) ≤ 9223372036854775807),
  ((0 : Nat) < 1),
  ((true = true) → (AN 1)),
  (((-9223372036854775808) : Int) ≤ ((↑i : Int) + 1)),
  ((((↑i : Int) + 1) : Int) ≤ 9223372036854775807),
  (AI ((↑k : Int))),
  (AN 0),
  (AN 0),
  (AN 0),
  ((((↑i : Int) + 1) : Int) = (↑(i + 1) : Int)),
  (AN 2),
  ((1 : Nat) ≤ 1),
  ((1 : Nat) ≤ 1),
  (AI ((↑N : Int))),
  (AN nb),
  (AP nb (fun i_1 => [.int .i64 ((g i_1).1), .int .i64 ((g i_1).2.1)])),
  (AN 3),
  ((1 : Nat) ≤ 1),
  ((1 : Nat) ≤ 1),
  (AN 3),
  ((1 : Nat) ≤ 1),
  ((1 : Nat) ≤ 1),
  (AN 0),
  (AN ((i + 1))),
  (AN 0),
  (AN 0),
  (AN 0),
  (AN 0),
  (AN 1),
  (((i + 1) : Nat) ≤ (i + 1)),
  (∀ i_1 : Nat, (((i_1 : Nat) < (i + 1)) → (All (cvtL false [(2, ⟨true, 3, 1, (fun i_2 => [.ar 1 262 0 (i + 1), .ar 1 4 0 0, .ar 1 5 0 0])⟩), (262, ⟨false, 1, (i + 1), (fun i_2 => (if (i_2 < i) then [.p (.int .i64 (↑k : Int))] else [.p (.int .i64 (↑k : Int))]))⟩), (230, ⟨false, 1, 1, (fun i_2 => [.p (.int .i64 (↑k : Int))])⟩), (0, ⟨true, 2, 1, (fun i_2 => [.p (.int .i64 (↑N : Int)), .p (.seq true 2 nb (fun i_3 => [.int .i64 ((g i_3).1), .int .i64 ((g i_3).2.1)]))])⟩), (1, ⟨true, 3, 1, (fun i_2 => [.p (.nil), .p (.nil), .p (.nil)])⟩), (4, ⟨false, 1, 0, (fun i_2 => [.p (.int .i64 0)])⟩), (5, ⟨false, 1, 0, (fun i_2 => [.p (.int .i64 0)])⟩)] [0, 1, 2, 262, 4, 5] 1 (if (i_1 < i) then [.p (.int .i64 (↑k : Int))] else [.p (.int .i64 (↑k : Int))])).2 ∧ (((cvtL false [(2, ⟨true, 3, 1, (fun i_2 => [.ar 1 262 0 (i + 1), .ar 1 4 0 0, .ar 1 5 0 0])⟩), (262, ⟨false, 1, (i + 1), (fun i_2 => (if (i_2 < i) then [.p (.int .i64 (↑k : Int))] else [.p (.int .i64 (↑k : Int))]))⟩), (230, ⟨false, 1, 1, (fun i_2 => [.p (.int .i64 (↑k : Int))])⟩), (0, ⟨true, 2, 1, (fun i_2 => [.p (.int .i64 (↑N : Int)), .p (.seq true 2 nb (fun i_3 => [.int .i64 ((g i_3).1), .int .i64 ((g i_3).2.1)]))])⟩), (1, ⟨true, 3, 1, (fun i_2 => [.p (.nil), .p (.nil), .p (.nil)])⟩), (4, ⟨false, 1, 0, (fun i_2 => [.p (.int .i64 0)])⟩), (5, ⟨false, 1, 0, (fun i_2 => [.p (.int .i64 0)])⟩)] [0, 1, 2, 262, 4, 5] 1 (if (i_1 < i) then [.p (.int .i64 (↑k : Int))] else [.p (.int .i64 (↑k : Int))])).1 : List AV) = [.p (.int .i64 (↑k : Int))])))),
  (AN 1),
  ((0 : Nat) ≤ 0),
  (AA 0 (fun i_1 => [.p (.int .i64 0)])),
  (AN 1),
  ((0 : Nat) ≤ 0),
  (AA 0 (fun i_1 => [.p (.int .i64 0)]))]) := by kernel_rfl
theorem qNe (g : Nat → T_Bar) (nb N k i : Nat) :
    pathOb Try.prog Try.f137 0 [.reg [oT, oT, oT, oT], .dec false, .reg [oT, oT, oT]] [.code (cAt (bodyOf Try.f137) [1, 1, 1, 0, 1, 0, 0]), .inLoop (cAt (bodyOf Try.f137) [1, 1, 1, 0, 1, 0, 0]), .inBlock 0, .code (cAt (bodyOf Try.f137) [1, 1, 1, 1])] (SN0 g nb N k i) [3, 4, 5] 1 (pebR i 0 (fun _ => k) (fun _ => 0) (fun _ => 0)) (.tup [pebO i 0 0, .p (.bool true)]) =
    some [((0 : Nat) < 1),
  ((decide ((↑i : Int) < (↑N : Int))) = false),
  ((0 : Nat) < 1),
  ((0 : Nat) < 1),
  ((true = true) → (AN 1)),
  ((0 : Nat) < 1),
  (AN 0),
  (AN i),
  (AN 0),
  (AN 0),
  (AN 0),
  (AN 0),
  (true = true),
  (AN 1),
  ((i : Nat) ≤ i),
  (AA i (fun i_1 => [.p (.int .i64 (↑k : Int))])),
  (AN 1),
  ((0 : Nat) ≤ 0),
  (AA 0 (fun i_1 => [.p (.int .i64 0)])),
  (AN 1),
  ((0 : Nat) ≤ 0),
  (AA 0 (fun i_1 => [.p (.int .i64 0)])),
  (AE i),
  (AE 0),
  (AE 0)] := by kernel_rfl
theorem con_l4Gather {N k nb m l : Nat} {g : Nat → T_Bar} {F0 T0 Q : Nat → Int} {a b : Int} (hp0 : PInv N k nb m g F0 T0 Q) (hk : k ≤ 1048576) (hN : N ≤ 1048576) (hm : m ≤ 1048576) (hnb : nb ≤ 1048576)
    (ha : 0 ≤ a ∧ a < N) (hb : 0 ≤ b ∧ b < N) (hab : a ≠ b) : ∃ F' T' r, Con Try.prog 138 0 [] [grG g nb N, pebD N m F0 T0 Q, .p (.int .i64 a), .p (.int .i64 b), .p (.int .i64 ((l : Int) + 1))] (pebR N m F' T' Q) (.tup [pebO N m 0, .p (.bool r)]) ∧
      PInv N k nb m g F' T' Q ∧ (r = true → (l : Int) + 1 ≤ F' a.toNat + F' b.toNat) ∧ (r = false → ¬ Mat.Sparse N k l (plL g Q m ++ [(a.toNat, b.toNat)])) := by
  have lp : ∀ d F T, PInv N k nb m g F T Q → (l : Int) + 1 ≤ F a.toNat + F b.toNat + (d : Nat) → ∃ F' T' r, (∀ c, c.n = 0 → Run Try.prog c 138 [.code (cAt (bodyOf Try.f138) [1, 1, 0, 0, 0]), .inLoop (cAt (bodyOf Try.f138) [1, 1, 0, 0, 0]), .inBlock 0, .code (cAt (bodyOf Try.f138) [1, 1, 1])] (SH g nb N m F0 T0 F T Q a b ((l : Int) + 1)) (Post c (pebR N m F' T' Q) (.tup [pebO N m 0, .p (.bool r)]))) ∧
      PInv N k nb m g F' T' Q ∧ (r = true → (l : Int) + 1 ≤ F' a.toNat + F' b.toNat) ∧ (r = false → ¬ Mat.Sparse N k l (plL g Q m ++ [(a.toNat, b.toNat)])) := by
    intro d
    induction d with
    | zero =>
      intro F T hp hw
      have hd : decide (F a.toNat + F b.toNat < (l : Int) + 1) = false := by simp; omega
      have l1 := hp.le (v := a.toNat) (by omega)
      have l2 := hp.le (v := b.toNat) (by omega)
      refine ⟨F, T, true, fun c hc => ?_, hp, (fun _ => by omega), (fun h => by cases h)⟩
      refine path_ok mixed Try.func138 hc (qHd g nb N m F0 T0 F T Q a b ((l : Int) + 1)) ?_
      simp only [All]
      repeat' (first | exact trivial | with_reducible apply And.intro)
      all_goals (first | exact aG _ | exact aP _ _ | exact aA _ _ | exact aE _ | omega | rfl | (intros; first | assumption | exact True.intro | rfl | exact absurd (show false = true by assumption) Bool.false_ne_true | ((repeat' (first | assumption | apply anda | apply notf)); done)) | (exact hd) | (intro i hi; simp [All, aEt]))
    | succ d ih =>
      intro F T hp hw
      have l1 := hp.le (v := a.toNat) (by omega)
      have l2 := hp.le (v := b.toNat) (by omega)
      by_cases hs : F a.toNat + F b.toNat < (l : Int) + 1
      · have hd : decide (F a.toNat + F b.toNat < (l : Int) + 1) = true := by simp; omega
        obtain ⟨H1, r1, hc1, hf1⟩ := con_l4Find hp hk hN hm hnb ha hb hab
        cases hf1 with
        | yes F1 T1 hm1 =>
          obtain ⟨y1, y2⟩ := hm1.yes rfl
          obtain ⟨F', T', r, hrun, h1, h2, h3⟩ := ih F1 T1 hm1.inv (by omega)
          refine ⟨F', T', r, fun c hc => ?_, h1, h2, h3⟩
          refine piece_ok mixed hc (qHa g nb N m F0 T0 F T Q F1 T1 a b ((l : Int) + 1)) ?_ (hrun c hc)
          simp only [All]
          repeat' (first | exact trivial | with_reducible apply And.intro)
          all_goals (first | exact aG _ | exact aP _ _ | exact aA _ _ | exact aE _ | omega | rfl | (intros; first | assumption | exact True.intro | rfl | exact absurd (show false = true by assumption) Bool.false_ne_true | ((repeat' (first | assumption | apply anda | apply notf)); done)) | (exact hd) | (exact hc1) | (intro i hi; simp [All, aEt]))
        | no hm1 =>
          obtain ⟨H2, r2, hc2, hf2⟩ := con_l4Find hp hk hN hm hnb hb ha (Ne.symm hab)
          cases hf2 with
          | yes F2 T2 hm2 =>
            obtain ⟨y1, y2⟩ := hm2.yes rfl
            obtain ⟨F', T', r, hrun, h1, h2, h3⟩ := ih F2 T2 hm2.inv (by omega)
            refine ⟨F', T', r, fun c hc => ?_, h1, h2, h3⟩
            refine piece_ok mixed hc (qHb g nb N m F0 T0 F T Q F2 T2 a b ((l : Int) + 1)) ?_ (hrun c hc)
            simp only [All]
            repeat' (first | exact trivial | with_reducible apply And.intro)
            all_goals (first | exact aG _ | exact aP _ _ | exact aA _ _ | exact aE _ | omega | rfl | (intros; first | assumption | exact True.intro | rfl | exact absurd (show false = true by assumption) Bool.false_ne_true | ((repeat' (first | assumption | apply anda | apply notf)); done)) | (exact hd) | (exact hc1) | (exact hc2) | (intro i hi; simp [All, aEt]))
          | no hm2 =>
            refine ⟨F, T, false, fun c hc => ?_, hp, (fun h => by cases h), fun _ => gather_no hp ha hb hab (by omega) hm1 hm2⟩
            refine path_ok mixed Try.func138 hc (qHc g nb N m F0 T0 F T Q a b ((l : Int) + 1)) ?_
            simp only [All]
            repeat' (first | exact trivial | with_reducible apply And.intro)
            all_goals (first | exact aG _ | exact aP _ _ | exact aA _ _ | exact aE _ | omega | rfl | (intros; first | assumption | exact True.intro | rfl | exact absurd (show false = true by assumption) Bool.false_ne_true | ((repeat' (first | assumption | apply anda | apply notf)); done)) | (exact hd) | (exact hc1) | (exact hc2) | (intro i hi; simp [All, aEt]))
      · have hd : decide (F a.toNat + F b.toNat < (l : Int) + 1) = false := by simp; omega
        refine ⟨F, T, true, fun c hc => ?_, hp, (fun _ => by omega), (fun h => by cases h)⟩
        refine path_ok mixed Try.func138 hc (qHd g nb N m F0 T0 F T Q a b ((l : Int) + 1)) ?_
        simp only [All]
        repeat' (first | exact trivial | with_reducible apply And.intro)
        all_goals (first | exact aG _ | exact aP _ _ | exact aA _ _ | exact aE _ | omega | rfl | (intros; first | assumption | exact True.intro | rfl | exact absurd (show false = true by assumption) Bool.false_ne_true | ((repeat' (first | assumption | apply anda | apply notf)); done)) | (exact hd) | (intro i hi; simp [All, aEt]))
  have l1 := hp0.le (v := a.toNat) (by omega)
  have l2 := hp0.le (v := b.toNat) (by omega)
  obtain ⟨F', T', r, hrun, h⟩ := lp (l + 1) F0 T0 hp0 (by omega)
  refine ⟨F', T', r, ?_, h⟩
  have hcc := con_l4Copy N m F0 T0 Q hN hm
  refine con_start Try.func138 rfl (by kernel_rfl) rfl (fun c hc => ?_)
  refine piece_ok mixed hc (qHz g nb N m F0 T0 Q a b ((l : Int) + 1)) ?_ (hrun c hc)
  simp only [All]
  repeat' (first | exact trivial | with_reducible apply And.intro)
  all_goals (first | exact aG _ | exact aP _ _ | exact aA _ _ | exact aE _ | omega | rfl | (intros; first | assumption | exact True.intro | rfl | exact absurd (show false = true by assumption) Bool.false_ne_true | ((repeat' (first | assumption | apply anda | apply notf)); done)) | (exact hcc) | (intro i hi; simp [All, aEt]))
theorem run_new {g : Nat → T_Bar} {nb N k : Nat} (hN : N ≤ 1048576) (hk : 1 ≤ k ∧ k ≤ 3) (hg : isGraphF ((N : Int), (nb, g), ()) = true) (hnb : nb ≤ 1048576) (c : Cx) (hc : c.n = 0) {items : List Item} (hit : items = [.code (cAt (bodyOf Try.f137) [1, 1, 0, 0]), .code (cAt (bodyOf Try.f137) [1, 1, 0, 1]), .code (cAt (bodyOf Try.f137) [1, 1, 1])]) :
    Run Try.prog c 137 items (SNc g nb N k) (Post c (pebR N 0 (fun _ => k) (fun _ => 0) (fun _ => 0)) (.tup [pebO N 0 0, .p (.bool true)])) := by
  subst hit
  have hsm : smS s_Graph ((N : Int), (nb, g), ()) := ⟨by simp [smS, smL], ⟨hnb, fun i hi => by simp [smS, smL]⟩, True.intro⟩
  have hcg := con_IsGraph_s ((N : Int), (nb, g), ()) hsm
  rw [hg] at hcg
  have hci := con_l1In k 1 3
  rw [show inB k 1 3 = true by simp [inB]; omega] at hci
  have lp0 : ∀ d i, i + d = N → Run Try.prog c 137 [.code (cAt (bodyOf Try.f137) [1, 1, 1, 0, 1, 0, 0]), .inLoop (cAt (bodyOf Try.f137) [1, 1, 1, 0, 1, 0, 0]), .inBlock 0, .code (cAt (bodyOf Try.f137) [1, 1, 1, 1])] (SN0 g nb N k i) (Post c (pebR N 0 (fun _ => k) (fun _ => 0) (fun _ => 0)) (.tup [pebO N 0 0, .p (.bool true)])) := by
    intro d
    induction d with
    | zero =>
      intro i hi
      obtain rfl : i = N := by omega
      have hd : decide ((i : Int) < (i : Int)) = false := by simp
      refine path_ok mixed Try.func137 hc (qNe g nb i k i) ?_
      simp only [All]
      repeat' (first | exact trivial | with_reducible apply And.intro)
      all_goals (first | exact aG _ | exact aP _ _ | exact aA _ _ | exact aE _ | omega | rfl | (intros; first | assumption | exact True.intro | rfl | exact absurd (show false = true by assumption) Bool.false_ne_true | ((repeat' (first | assumption | apply anda | apply notf)); done)) | (intro i hi; simp [All, aEt]))
    | succ d ih =>
      intro i hi
      have hd : decide ((i : Int) < (N : Int)) = true := by simp; omega
      refine piece_ok mixed hc (qNl g nb N k i) ?_ (ih (i + 1) (by omega))
      simp only [All]
      repeat' (first | exact trivial | with_reducible apply And.intro)
      all_goals (first | exact aG _ | exact aP _ _ | exact aA _ _ | exact aE _ | omega | rfl | (intros; first | assumption | exact True.intro | rfl | exact absurd (show false = true by assumption) Bool.false_ne_true | ((repeat' (first | assumption | apply anda | apply notf)); done)) | (intro j hj; simp [All, aEt]; done) | (intro j hj; by_cases h : j < i <;> simp [h, cvtL, cvt, tg, tru, All]))
  refine piece_ok mixed hc (qNa g nb N k) ?_ (lp0 N 0 (by omega))
  simp only [All]
  repeat' (first | exact trivial | with_reducible apply And.intro)
  all_goals (first | exact aG _ | exact aP _ _ | exact aA _ _ | exact aE _ | omega | rfl | (intros; first | assumption | exact True.intro | rfl | exact absurd (show false = true by assumption) Bool.false_ne_true | ((repeat' (first | assumption | apply anda | apply notf)); done)) | (exact hcg) | (intros; exact hci) | (intro i hi; simp [All, aEt]))
theorem con_NewPebbles {N k nb : Nat} {g : Nat → T_Bar} (hN : N ≤ 1048576) (hk : 1 ≤ k ∧ k ≤ 3) (hg : isGraphF ((N : Int), (nb, g), ()) = true) (hnb : nb ≤ 1048576) :
    Con Try.prog 137 0 [] [grG g nb N, .p (.int .i64 k)] (pebR N 0 (fun _ => k) (fun _ => 0) (fun _ => 0)) (.tup [pebO N 0 0, .p (.bool true)]) := by
  refine con_start Try.func137 rfl (by kernel_rfl) rfl (fun c hc => ?_)
  refine piece_ok mixed hc (qNy g nb N k) ?_ (run_new hN hk hg hnb c hc rfl)
  simp only [All]
  repeat' (first | exact trivial | with_reducible apply And.intro)
  all_goals (first | exact aG _ | exact aP _ _ | exact aA _ _ | exact aE _ | omega | rfl | (intros; first | assumption | exact True.intro | rfl | exact absurd (show false = true by assumption) Bool.false_ne_true | ((repeat' (first | assumption | apply anda | apply notf)); done)) | (intro i hi; simp [All, aEt]))
end Go.Proofs.Ytgdbnnmogddkaaa.Mach
namespace Go.Proofs.Ytgdbnnmogddkaaa.Mach
open Go
set_option linter.unusedVariables false
set_option linter.unusedSimpArgs false
def snocI (n : Nat) (f : Nat → Int) (p : Int) (s : Nat) : Int := if s < n then f s else p
def OkBars (N nb : Nat) (g : Nat → T_Bar) : Prop := ∀ e, e < nb → 0 ≤ (g e).1 ∧ (g e).1 < (g e).2.1 ∧ (g e).2.1 < N
theorem goodB_in (N : Int) (g : Nat → T_Bar) : ∀ n, goodB N g n = true → ∀ e, e < n → badB N g e = false
  | 0, _, e, he => by omega
  | n + 1, h, e, he => by
    simp only [goodB, Bool.and_eq_true, Bool.not_eq_true'] at h
    by_cases h' : e = n
    · subst h'; exact h.2
    · exact goodB_in N g n h.1 e (by omega)
theorem graph_in {N nb : Nat} {g : Nat → T_Bar} (h : isGraphF ((N : Int), (nb, g), ()) = true) : (1 ≤ N ∧ N ≤ 8) ∧ nb ≤ 24 ∧ OkBars N nb g := by
  unfold isGraphF at h
  split at h
  case isFalse => cases h
  rename_i hc
  obtain ⟨h1, h2⟩ := hc
  simp only [inB, Bool.and_eq_true, decide_eq_true_eq] at h1
  refine ⟨by omega, h2, fun e he => ?_⟩
  have hb := goodB_in (N : Int) g nb h e he
  unfold badB at hb
  by_cases a1 : (g e).1 < 0
  · simp [a1] at hb
  by_cases a2 : (g e).1 ≥ (g e).2.1
  · simp [a2] at hb
  by_cases a3 : (g e).2.1 ≥ (N : Int)
  · simp [a3] at hb
  omega
theorem graph_cases (v : T_Graph) (h : isGraphF v = true) : ∃ (N nb : Nat) (g : Nat → T_Bar), v = ((N : Int), (nb, g), ()) := by
  obtain ⟨v1, ⟨nb, g⟩, ⟨⟩⟩ := v
  have h1 : 0 ≤ v1 := by
    unfold isGraphF at h
    split at h
    · rename_i hc
      have := hc.1
      simp [inB] at this
      omega
    · cases h
  exact ⟨v1.toNat, nb, g, by rw [Int.toNat_of_nonneg h1]⟩
end Go.Proofs.Ytgdbnnmogddkaaa.Mach
namespace Go.Proofs.Ytgdbnnmogddkaaa.Mach
open Go Go.Sort
set_option linter.unusedVariables false
set_option linter.unusedSimpArgs false
theorem bCi (v : T_Graph) :
    pathOb Try.prog Try.f78 0 [.reg [oT, oT], .reg [oT, oT, oT, oT, oT, oT, oT, oT]] [.code (bodyOf Try.f78)] (start Try.f78 [] 0 [graphA v]) [224] 1 [(0, brOb v.2.1.1 v.2.1.2)] (.agg [.p (.int .i64 v.1), .ar 2 0 0 v.2.1.1]) =
    some [((0 : Nat) < 1),
  ((0 : Nat) < 1),
  ((0 : Nat) ≤ 0),
  ((((0 + v.2.1.1) * 16) : Nat) ≤ 140737488355328),
  (((0 + v.2.1.1) : Nat) ≤ 9223372036854775807),
  ((0 : Nat) < 1),
  ((true = true) → (AN 1)),
  ((0 : Nat) < 1),
  (AI v.1),
  (AN 0),
  (((0 + v.2.1.1) : Nat) = v.2.1.1),
  (AN 2),
  ((v.2.1.1 : Nat) ≤ (0 + v.2.1.1)),
  (AA v.2.1.1 (fun i => [.p (.int .i64 ((v.2.1.2 i).1)), .p (.int .i64 ((v.2.1.2 i).2.1))])),
  (AE v.2.1.1)] := by kernel_rfl
theorem bCs (v : T_Graph) :
    pathOb Try.prog Try.f59 0 [.reg [oT, oT], .reg [oT, oT, oT, oT, oT, oT, oT, oT]] [.code (bodyOf Try.f59)] (start Try.f59 [] 0 [graphA v]) [224] 1 [(0, brOb v.2.1.1 v.2.1.2)] (.agg [.p (.int .i64 v.1), .ar 2 0 0 v.2.1.1]) =
    some [((0 : Nat) < 1),
  ((0 : Nat) < 1),
  ((0 : Nat) ≤ 0),
  ((((0 + v.2.1.1) * 16) : Nat) ≤ 140737488355328),
  (((0 + v.2.1.1) : Nat) ≤ 9223372036854775807),
  ((0 : Nat) < 1),
  ((true = true) → (AN 1)),
  ((0 : Nat) < 1),
  (AI v.1),
  (AN 0),
  (((0 + v.2.1.1) : Nat) = v.2.1.1),
  (AN 2),
  ((v.2.1.1 : Nat) ≤ (0 + v.2.1.1)),
  (AA v.2.1.1 (fun i => [.p (.int .i64 ((v.2.1.2 i).1)), .p (.int .i64 ((v.2.1.2 i).2.1))])),
  (AE v.2.1.1)] := by kernel_rfl
theorem con_copyGraph (v : T_Graph) (hn : v.2.1.1 ≤ 1048576) : Con Try.prog 78 0 [] [graphA v] [(0, brOb v.2.1.1 v.2.1.2)] (.agg [.p (.int .i64 v.1), .ar 2 0 0 v.2.1.1]) := by
  refine con_start Try.func78 rfl (by kernel_rfl) rfl (fun c hc => ?_)
  refine path_ok mixed Try.func78 hc (bCi v) ?_
  simp only [All]
  repeat' (first | exact trivial | with_reducible apply And.intro)
  all_goals (first | exact aG _ | exact aP _ _ | exact aA _ _ | exact aE _ | omega | rfl | (intros; first | assumption | exact True.intro | rfl | exact absurd (show false = true by assumption) Bool.false_ne_true | ((repeat' (first | assumption | apply anda | apply notf)); done)) | (intro j hj; simp [All, aEt]; done) | (simp; try omega))
theorem con_l2Copy (v : T_Graph) (hn : v.2.1.1 ≤ 1048576) : Con Try.prog 59 0 [] [graphA v] [(0, brOb v.2.1.1 v.2.1.2)] (.agg [.p (.int .i64 v.1), .ar 2 0 0 v.2.1.1]) := by
  refine con_start Try.func59 rfl (by kernel_rfl) rfl (fun c hc => ?_)
  refine path_ok mixed Try.func59 hc (bCs v) ?_
  simp only [All]
  repeat' (first | exact trivial | with_reducible apply And.intro)
  all_goals (first | exact aG _ | exact aP _ _ | exact aA _ _ | exact aE _ | omega | rfl | (intros; first | assumption | exact True.intro | rfl | exact absurd (show false = true by assumption) Bool.false_ne_true | ((repeat' (first | assumption | apply anda | apply notf)); done)) | (intro j hj; simp [All, aEt]; done) | (simp; try omega))
end Go.Proofs.Ytgdbnnmogddkaaa.Mach
