/- What the law Gi needs, part 5 of 5: the abstract machine and the contracts of the functions. Conditions: as each theorem says. -/
import Derived.Test.YtgdbnnmogddkaaaGiP4
namespace Go.Proofs.Ytgdbnnmogddkaaa.Mach
open Go Go.Sort
set_option linter.unusedVariables false
set_option linter.unusedSimpArgs false
def SYs (p : T_Pinned) (v n : Nat) (h : Nat → Int) : St :=
  ⟨[pinA p, .pt 3 0 0 0, .p .any, .ar 1 1 0 n, .p (.int .i64 v)] ++ List.replicate 36 anyA, [(0, boxP p), (1, iOb n h)], 2⟩
def SYi (p : T_Pinned) (v n m : Nat) (h : Nat → Int) (r : Nat → T_Bar) : St :=
  ⟨[pinA p, .pt 3 0 0 0, .p .any, .ar 1 1 0 n, .ar 2 2 0 m] ++ List.replicate 17 anyA ++ [.p (.int .i64 p.1.1), .p (.int .i64 v)] ++ List.replicate 34 anyA, [(0, boxP p), (1, iOb n h), (2, brOb m r)], 3⟩
def SYj (p : T_Pinned) (v j n m : Nat) (h : Nat → Int) (r : Nat → T_Bar) (b : Bool) : St :=
  ⟨[pinA p, .pt 3 0 0 0, .p .any, .ar 1 1 0 n, .ar 2 2 0 m, .p (.int .i64 v), .p (.bool b)] ++ List.replicate 15 anyA ++ [.p (.int .i64 p.1.1), .p (.int .i64 v)] ++ List.replicate 3 anyA ++
    [inL p.2.1, .p (.int .i64 p.2.1.1), .p (.int .i64 j)] ++ List.replicate 28 anyA, [(0, boxP p), (1, iOb n h), (2, brOb m r)], 3⟩
def SYf (p : T_Pinned) (e k n a b : Nat) (h r s : Nat → Int) : St :=
  ⟨[pinA p, .p (.int .i64 e), .pt 3 0 0 0, .p .any, .p .any, .ar 1 1 0 n, .ar 1 2 0 a, .p .any, .p .any] ++ List.replicate 20 anyA ++ [.ar 1 3 0 b, .p (.int .i64 b), .p (.int .i64 k)] ++ List.replicate 13 anyA,
   [(0, boxP p), (1, iOb n h), (2, iOb a r), (3, iOb b s)], 4⟩
def SYg (p : T_Pinned) (e k n a b : Nat) (h r s : Nat → Int) : St :=
  ⟨[pinA p, .p (.int .i64 e), .pt 3 0 0 0, .p .any, .p .any, .ar 1 1 0 n, .ar 1 3 0 b, .ar 1 2 0 a, .p (.int .i64 k)] ++ List.replicate 44 anyA,
   [(0, boxP p), (1, iOb n h), (2, iOb a r), (3, iOb b s)], 4⟩
def SYw (p : T_Pinned) (k : Nat) (w m : Int) : St :=
  ⟨[pinA p, .pt 3 0 0 0, .p .any, .p .any, .p (.int .i64 w), .p (.int .i64 m)] ++ List.replicate 5 anyA ++ [.p (.int .i64 p.1.2.1.1), .p (.int .i64 k)] ++ List.replicate 14 anyA, [(0, boxP p)], 1⟩
def SYv (p : T_Pinned) (k : Nat) (w m : Int) : St :=
  ⟨[pinA p, .pt 3 0 0 0, .p .any, .p .any, .p (.int .i64 w), .p (.int .i64 m), .p (.int .i64 k)] ++ List.replicate 20 anyA, [(0, boxP p)], 1⟩
theorem yRb (v : T_Graph) (e : Nat) :
    pathOb Try.prog Try.f139 0 [.reg [oT, oT, oT], .reg [oT, ⟨true, (some ⟨[], [], [], 1, [], .p (.bool true)⟩), none⟩, oT, oT, oT, oT, oT, oT, oT, oT, oT, oT, oT, oT], .dec false, .reg [oT, oT, oT, oT, oT, oT, oT, oT, oT, oT, oT, oT, oT, oT, oT, oT, oT]] [.code (bodyOf Try.f139)] (start Try.f139 [] 0 [graphA v, .p (.int .i64 e)]) [960] 1 [(0, brOb (v.2.1.1 - 1) (delB v.2.1.1 v.2.1.2 e))] (.tup [.agg [.p (.int .i64 v.1), .ar 2 0 0 (v.2.1.1 - 1)], .p (.bool true)]) =
    some [((0 : Nat) < 1),
  Con Try.prog 73 0 [] [.agg [.p (.int .i64 v.1), .p (.seq true 2 v.2.1.1 (fun i => [.int .i64 ((v.2.1.2 i).1), .int .i64 ((v.2.1.2 i).2.1)]))]] [] (.p (.bool true)),
  (AG (!!true)),
  (((!true) = false) → ((!!true) = true)),
  (AG (!bif !true then true else decide ((↑e : Int) < 0))),
  (((!bif !true then true else decide ((↑e : Int) < 0)) = true) → ((0 : Nat) < 1)),
  (AG (!bif !true then true else decide ((↑e : Int) < 0))),
  (AG (!bif !true then true else decide ((↑e : Int) < 0))),
  (AG (!bif !true then true else decide ((↑e : Int) < 0))),
  (((bif !true then true else decide ((↑e : Int) < 0)) = false) → ((!bif !true then true else decide ((↑e : Int) < 0)) = true)),
  ((bif bif !true then true else decide ((↑e : Int) < 0) then true else decide ((↑e : Int) ≥ (↑v.2.1.1 : Int))) = false),
  ((0 : Nat) < 1),
  ((0 : Nat) < 1),
  ((0 : Int) ≤ 0),
  ((0 : Int) ≤ (↑e : Int)),
  (((↑e : Int) : Int) ≤ (↑v.2.1.1 : Int)),
  ((0 : Nat) ≤ 0),
  ((((0 + e) * 16) : Nat) ≤ 140737488355328),
  (((0 + e) : Nat) ≤ 9223372036854775807),
  ((0 : Nat) < 1),
  (((-9223372036854775808) : Int) ≤ ((↑e : Int) + 1)),
  ((((↑e : Int) + 1) : Int) ≤ 9223372036854775807),
  ((0 : Int) ≤ ((↑e : Int) + 1)),
  ((((↑e : Int) + 1) : Int) ≤ (↑v.2.1.1 : Int)),
  (((↑v.2.1.1 : Int) : Int) ≤ (↑v.2.1.1 : Int)),
  (((0 + e) : Nat) ≤ (0 + e)),
  ((((0 + e + (v.2.1.1 - (e + 1))) * 16) : Nat) ≤ 140737488355328),
  (((0 + e + (v.2.1.1 - (e + 1))) : Nat) ≤ 9223372036854775807),
  ((0 : Nat) < 1),
  ((true = true) → (AN 1)),
  ((0 : Nat) < 1),
  (AI v.1),
  (AN 0),
  (((0 + e + (v.2.1.1 - (e + 1))) : Nat) = (v.2.1.1 - 1)),
  (true = true),
  (AN 2),
  (((v.2.1.1 - 1) : Nat) ≤ (0 + e + (v.2.1.1 - (e + 1)))),
  (∀ i : Nat, (((i : Nat) < (v.2.1.1 - 1)) → (All (cvtL false [(32, ⟨true, 2, 1, (fun i_1 => [.p (.int .i64 v.1), .ar 2 960 0 (0 + e + (v.2.1.1 - (e + 1)))])⟩), (960, ⟨false, 2, (0 + e + (v.2.1.1 - (e + 1))), (fun i_1 => (if (i_1 < 0 + e) then [.p (.int .i64 ((v.2.1.2 i_1).1)), .p (.int .i64 ((v.2.1.2 i_1).2.1))] else [.p (.int .i64 ((v.2.1.2 (i_1 - (0 + e) + (e + 1))).1)), .p (.int .i64 ((v.2.1.2 (i_1 - (0 + e) + (e + 1))).2.1))]))⟩), (0, ⟨true, 2, 1, (fun i_1 => [.p (.int .i64 v.1), .p (.seq true 2 v.2.1.1 (fun i_2 => [.int .i64 ((v.2.1.2 i_2).1), .int .i64 ((v.2.1.2 i_2).2.1)]))])⟩)] [960] 1 (if (i < 0 + e) then [.p (.int .i64 ((v.2.1.2 i).1)), .p (.int .i64 ((v.2.1.2 i).2.1))] else [.p (.int .i64 ((v.2.1.2 (i - (0 + e) + (e + 1))).1)), .p (.int .i64 ((v.2.1.2 (i - (0 + e) + (e + 1))).2.1))])).2 ∧ (((cvtL false [(32, ⟨true, 2, 1, (fun i_1 => [.p (.int .i64 v.1), .ar 2 960 0 (0 + e + (v.2.1.1 - (e + 1)))])⟩), (960, ⟨false, 2, (0 + e + (v.2.1.1 - (e + 1))), (fun i_1 => (if (i_1 < 0 + e) then [.p (.int .i64 ((v.2.1.2 i_1).1)), .p (.int .i64 ((v.2.1.2 i_1).2.1))] else [.p (.int .i64 ((v.2.1.2 (i_1 - (0 + e) + (e + 1))).1)), .p (.int .i64 ((v.2.1.2 (i_1 - (0 + e) + (e + 1))).2.1))]))⟩), (0, ⟨true, 2, 1, (fun i_1 => [.p (.int .i64 v.1), .p (.seq true 2 v.2.1.1 (fun i_2 => [.int .i64 ((v.2.1.2 i_2).1), .int .i64 ((v.2.1.2 i_2).2.1)]))])⟩)] [960] 1 (if (i < 0 + e) then [.p (.int .i64 ((v.2.1.2 i).1)), .p (.int .i64 ((v.2.1.2 i).2.1))] else [.p (.int .i64 ((v.2.1.2 (i - (0 + e) + (e + 1))).1)), .p (.int .i64 ((v.2.1.2 (i - (0 + e) + (e + 1))).2.1))])).1 : List AV) = [.p (.int .i64 ((delB v.2.1.1 v.2.1.2 e i).1)), .p (.int .i64 ((delB v.2.1.1 v.2.1.2 e i).2.1))])))),
  (AE ((v.2.1.1 - 1)))] := by kernel_rfl
theorem yLl (p : T_Pinned) (e n : Nat) (h : Nat → T_Bar) :
    pathOb Try.prog Try.f129 0 [.reg [oT, oT], .reg [oT, oT, oT, ⟨true, (some ⟨[], [], [], 1, [(0, brOb n h)], .tup [.agg [.p (.int .i64 p.1.1), .ar 2 0 0 n], .p (.bool true)]⟩), none⟩, oT, oT, oT, oT, oT, oT], .reg [oT, oT, oT, oT, oT, oT, oT]] [.code (bodyOf Try.f129)] (start Try.f129 [] 0 [pinA p, .p (.int .i64 e)]) [160, 512] 1 [(0, brOb n h), (1, iOb p.2.1.1 p.2.1.2)] (.agg [.p (.int .i64 p.1.1), .ar 2 0 0 n, .ar 1 1 0 p.2.1.1]) =
    some [((0 : Nat) < 1),
  Con Try.prog 139 0 [] [.agg [.p (.int .i64 p.1.1), .p (.seq true 2 p.1.2.1.1 (fun i => [.int .i64 ((p.1.2.1.2 i).1), .int .i64 ((p.1.2.1.2 i).2.1)]))], .p (.int .i64 (↑e : Int))] [(0, ⟨false, 2, n, (fun i => [.p (.int .i64 ((h i).1)), .p (.int .i64 ((h i).2.1))])⟩)] (.tup [.agg [.p (.int .i64 p.1.1), .ar 2 0 0 n], .p (.bool true)]),
  ((0 : Nat) < 1),
  ((true = true) → (AN 1)),
  ((0 : Nat) < 1),
  ((0 : Nat) < 1),
  ((0 : Nat) ≤ 0),
  ((((0 + p.2.1.1) * 8) : Nat) ≤ 140737488355328),
  (((0 + p.2.1.1) : Nat) ≤ 9223372036854775807),
  ((0 : Nat) < 1),
  ((true = true) → (AN 1)),
  ((0 : Nat) < 1),
  (AI p.1.1),
  (AN 0),
  (AN n),
  (AN 0),
  (((0 + p.2.1.1) : Nat) = p.2.1.1),
  (AN 2),
  ((n : Nat) ≤ n),
  (AA n (fun i => [.p (.int .i64 ((h i).1)), .p (.int .i64 ((h i).2.1))])),
  (AN 1),
  ((p.2.1.1 : Nat) ≤ (0 + p.2.1.1)),
  (AA p.2.1.1 (fun i => [.p (.int .i64 (p.2.1.2 i))])),
  (AE n),
  (AE p.2.1.1)] := by kernel_rfl
theorem yWo (p : T_Pinned) (e n : Nat) (h : Nat → T_Bar) :
    pathOb Try.prog Try.f131 0 [.reg [oT, oT], .reg [oT, ⟨true, (some ⟨[], [], [], 1, [(0, brOb p.1.2.1.1 p.1.2.1.2), (1, iOb p.2.1.1 p.2.1.2)], .agg [.p (.int .i64 p.1.1), .ar 2 0 0 p.1.2.1.1, .ar 1 1 0 p.2.1.1]⟩), none⟩, oT, oT], .reg [oT, oT, oT, oT, oT, oT, ⟨true, (some ⟨[96], [], [], 1, [(0, brOb p.1.2.1.1 h)], .ar 2 0 0 n⟩), none⟩, oT, oT, oT], .reg [oT, oT]] [.code (bodyOf Try.f131)] (start Try.f131 [] 0 [pinA p, .p (.int .i64 e)]) [96, 97] 1 [(0, brOb n h), (1, iOb p.2.1.1 p.2.1.2)] (.agg [.p (.int .i64 p.1.1), .ar 2 0 0 n, .ar 1 1 0 p.2.1.1]) =
    some [((0 : Nat) < 1),
  Con Try.prog 62 0 [] [.agg [.p (.int .i64 p.1.1), .p (.seq true 2 p.1.2.1.1 (fun i => [.int .i64 ((p.1.2.1.2 i).1), .int .i64 ((p.1.2.1.2 i).2.1)])), .p (.seq true 1 p.2.1.1 (fun i => [.int .i64 (p.2.1.2 i)]))]] [(0, ⟨false, 2, p.1.2.1.1, (fun i => [.p (.int .i64 ((p.1.2.1.2 i).1)), .p (.int .i64 ((p.1.2.1.2 i).2.1))])⟩), (1, ⟨false, 1, p.2.1.1, (fun i => [.p (.int .i64 (p.2.1.2 i))])⟩)] (.agg [.p (.int .i64 p.1.1), .ar 2 0 0 p.1.2.1.1, .ar 1 1 0 p.2.1.1]),
  ((0 : Nat) < 1),
  ((true = true) → (AN 1)),
  ((0 : Nat) < 1),
  (((-9223372036854775808) : Int) ≤ ((↑e : Int) + 1)),
  ((((↑e : Int) + 1) : Int) ≤ 9223372036854775807),
  (AE p.1.2.1.1),
  Con Try.prog 141 1 [(0, ⟨false, 2, p.1.2.1.1, (fun i => [.p (.int .i64 ((p.1.2.1.2 i).1)), .p (.int .i64 ((p.1.2.1.2 i).2.1))])⟩)] [.ar 2 0 0 p.1.2.1.1, .p (.int .i64 (↑e : Int)), .p (.int .i64 ((↑e : Int) + 1))] [(0, ⟨false, 2, p.1.2.1.1, (fun i => [.p (.int .i64 ((h i).1)), .p (.int .i64 ((h i).2.1))])⟩)] (.ar 2 0 0 n),
  ((0 : Nat) < 1),
  ((true = true) → (AN 1)),
  ((0 : Nat) < 1),
  ((0 : Nat) < 1),
  ((true = true) → (AN 1)),
  ((0 : Nat) < 1),
  (AI p.1.1),
  (AN 0),
  (AN n),
  (AN 0),
  (AN p.2.1.1),
  (AN 2),
  ((n : Nat) ≤ p.1.2.1.1),
  (AA n (fun i => [.p (.int .i64 ((h i).1)), .p (.int .i64 ((h i).2.1))])),
  (AN 1),
  ((p.2.1.1 : Nat) ≤ p.2.1.1),
  (AA p.2.1.1 (fun i => [.p (.int .i64 (p.2.1.2 i))])),
  (AE n),
  (AE p.2.1.1)] := by kernel_rfl
theorem ySz (p : T_Pinned) :
    pieceOb Try.prog 0 [.reg [oT, oT], .reg [oT, oT], .reg [oT], .head] [.code (bodyOf Try.f49)] (start Try.f49 [] 0 [pinA p]) [0, 64] 1 (SYs p 0 0 (fun _ => 0)) =
    some ([.code (cAt (bodyOf Try.f49) [1, 1, 0, 1, 0, 0]), .inLoop (cAt (bodyOf Try.f49) [1, 1, 0, 1, 0, 0]), .inBlock 0, .code (cAt (bodyOf Try.f49) [1, 1, 1])], [(AI p.1.1),
  (AN p.1.2.1.1),
  (AP p.1.2.1.1 (fun i => [.int .i64 ((p.1.2.1.2 i).1), .int .i64 ((p.1.2.1.2 i).2.1)])),
  (AN p.2.1.1),
  (AP p.2.1.1 (fun i => [.int .i64 (p.2.1.2 i)])),
  (AN 0),
  (AN 0),
  (AN 0),
  ((0 : Int) = (↑0 : Int)),
  ((([AV.p (PV.int IntKind.i64 p.1.1), graphL p.1.2.1, inL p.2.1].length) : Nat) = 3),
  ((1 : Nat) ≤ 1),
  ((1 : Nat) ≤ 1),
  (AI p.1.1),
  (AN p.1.2.1.1),
  (AP p.1.2.1.1 (fun i => [.int .i64 ((p.1.2.1.2 i).1), .int .i64 ((p.1.2.1.2 i).2.1)])),
  (AN p.2.1.1),
  (AP p.2.1.1 (fun i => [.int .i64 (p.2.1.2 i)])),
  (AN 1),
  ((0 : Nat) ≤ 0),
  (∀ i : Nat, (((i : Nat) < 0) → (All [] ∧ (([.p .any] : List AV) = [.p (.int .i64 0)]))))]) := by kernel_rfl
theorem ySa (p : T_Pinned) (v n m : Nat) (h : Nat → Int) (r : Nat → T_Bar) (b1 b2 : Bool) :
    pieceOb Try.prog 0 [.reg [oT, oT, oT, oT, oT, oT, oT, ⟨true, (some ⟨[], [], [], 1, [], .p (.bool true)⟩), none⟩, oT], .dec true, .reg [oT, ⟨true, (some ⟨[], [], [], 1, [(0, brOb m r)], .agg [.p (.int .i64 p.1.1), .ar 2 0 0 m]⟩), none⟩, oT, oT], .reg [oT, oT, oT, oT, oT, oT, ⟨true, (some ⟨[], [], [], 1, [], .p (.bool b1)⟩), none⟩, oT, oT, oT, oT, oT, oT, oT, ⟨true, (some ⟨[], [], [], 1, [], .p (.bool b2)⟩), none⟩, oT], .dec true, .reg [oT, oT, oT, oT, oT], .reg [oT, oT, oT], .head] [.code (cAt (bodyOf Try.f49) [1, 1, 0, 1, 0, 0]), .inLoop (cAt (bodyOf Try.f49) [1, 1, 0, 1, 0, 0]), .inBlock 0, .code (cAt (bodyOf Try.f49) [1, 1, 1])] (SYs p v n h) [0, 1026] 1 (SYs p (v + 1) (n + 1) (snI n h v)) =
    some ([.code (cAt (bodyOf Try.f49) [1, 1, 0, 1, 0, 0]), .inLoop (cAt (bodyOf Try.f49) [1, 1, 0, 1, 0, 0]), .inBlock 0, .code (cAt (bodyOf Try.f49) [1, 1, 1])], [((0 : Nat) < 1),
  (((decide ((↑v : Int) < p.1.1)) = true) → ((0 : Nat) < 1)),
  (AG (decide ((↑v : Int) < p.1.1))),
  (((decide ((↑v : Int) < p.1.1)) = true) → Con Try.prog 46 0 [] [.agg [.p (.int .i64 p.1.1), .p (.seq true 2 p.1.2.1.1 (fun i => [.int .i64 ((p.1.2.1.2 i).1), .int .i64 ((p.1.2.1.2 i).2.1)])), .p (.seq true 1 p.2.1.1 (fun i => [.int .i64 (p.2.1.2 i)]))]] [] (.p (.bool true))),
  (AG (decide ((↑v : Int) < p.1.1))),
  ((bif decide ((↑v : Int) < p.1.1) then true else false) = true),
  ((0 : Nat) < 1),
  Con Try.prog 97 0 [] [.agg [.p (.int .i64 p.1.1), .p (.seq true 2 p.1.2.1.1 (fun i => [.int .i64 ((p.1.2.1.2 i).1), .int .i64 ((p.1.2.1.2 i).2.1)])), .p (.seq true 1 p.2.1.1 (fun i => [.int .i64 (p.2.1.2 i)]))]] [(0, ⟨false, 2, m, (fun i => [.p (.int .i64 ((r i).1)), .p (.int .i64 ((r i).2.1))])⟩)] (.agg [.p (.int .i64 p.1.1), .ar 2 0 0 m]),
  ((0 : Nat) < 1),
  ((true = true) → (AN 1)),
  ((0 : Nat) < 1),
  ((0 : Nat) < 1),
  ((0 : Int) ≤ 0),
  ((0 : Int) < (↑p.2.1.1 : Int)),
  (AN 2),
  ((m : Nat) ≤ m),
  Con Try.prog 98 0 [] [.agg [.p (.int .i64 p.1.1), .p (.seq true 2 m (fun i => [.int .i64 ((r i).1), .int .i64 ((r i).2.1)]))], .p (.int .i64 (p.2.1.2 0)), .p (.int .i64 (↑v : Int))] [] (.p (.bool b1)),
  ((b1 = true) → ((0 : Nat) < 1)),
  (AG b1),
  ((b1 = true) → ((0 : Nat) < 1)),
  (AG b1),
  ((b1 = true) → ((0 : Int) ≤ 1)),
  ((b1 = true) → ((1 : Int) < (↑p.2.1.1 : Int))),
  (AG b1),
  (AG b1),
  (AG b1),
  (AG b1),
  ((b1 = true) → (AN 2)),
  ((b1 = true) → ((m : Nat) ≤ m)),
  ((b1 = true) → Con Try.prog 98 0 [] [.agg [.p (.int .i64 p.1.1), .p (.seq true 2 m (fun i => [.int .i64 ((r i).1), .int .i64 ((r i).2.1)]))], .p (.int .i64 (p.2.1.2 1)), .p (.int .i64 (↑v : Int))] [] (.p (.bool b2))),
  (AG b1),
  ((bif b1 then b2 else false) = true),
  ((1 : Nat) ≤ 1),
  ((n : Nat) ≤ n),
  ((((n + 1) * 8) : Nat) ≤ 140737488355328),
  (((n + 1) : Nat) ≤ 9223372036854775807),
  (((-9223372036854775808) : Int) ≤ ((↑v : Int) + 1)),
  ((((↑v : Int) + 1) : Int) ≤ 9223372036854775807),
  (AI p.1.1),
  (AN p.1.2.1.1),
  (AP p.1.2.1.1 (fun i => [.int .i64 ((p.1.2.1.2 i).1), .int .i64 ((p.1.2.1.2 i).2.1)])),
  (AN p.2.1.1),
  (AP p.2.1.1 (fun i => [.int .i64 (p.2.1.2 i)])),
  (AN 0),
  (AN 0),
  (AN ((n + 1))),
  ((((↑v : Int) + 1) : Int) = (↑(v + 1) : Int)),
  (AN 3),
  ((1 : Nat) ≤ 1),
  ((1 : Nat) ≤ 1),
  (AI p.1.1),
  (AN p.1.2.1.1),
  (AP p.1.2.1.1 (fun i => [.int .i64 ((p.1.2.1.2 i).1), .int .i64 ((p.1.2.1.2 i).2.1)])),
  (AN p.2.1.1),
  (AP p.2.1.1 (fun i => [.int .i64 (p.2.1.2 i)])),
  (AN 1),
  (((n + 1) : Nat) ≤ (n + 1)),
  (∀ i : Nat, (((i : Nat) < (n + 1)) → (All (cvtL false [(1026, ⟨false, 1, (n + 1), (fun i_1 => (if (i_1 < n) then [.p (.int .i64 (h i_1))] else [.p (.int .i64 (↑v : Int))]))⟩), (994, ⟨false, 1, 1, (fun i_1 => [.p (.int .i64 (↑v : Int))])⟩), (354, ⟨true, 2, 1, (fun i_1 => [.p (.int .i64 p.1.1), .ar 2 322 0 m])⟩), (322, ⟨false, 2, m, (fun i_1 => [.p (.int .i64 ((r i_1).1)), .p (.int .i64 ((r i_1).2.1))])⟩), (0, ⟨true, 3, 1, (fun i_1 => [.p (.int .i64 p.1.1), .p (.seq true 2 p.1.2.1.1 (fun i_2 => [.int .i64 ((p.1.2.1.2 i_2).1), .int .i64 ((p.1.2.1.2 i_2).2.1)])), .p (.seq true 1 p.2.1.1 (fun i_2 => [.int .i64 (p.2.1.2 i_2)]))])⟩)] [0, 1026] 1 (if (i < n) then [.p (.int .i64 (h i))] else [.p (.int .i64 (↑v : Int))])).2 ∧ (((cvtL false [(1026, ⟨false, 1, (n + 1), (fun i_1 => (if (i_1 < n) then [.p (.int .i64 (h i_1))] else [.p (.int .i64 (↑v : Int))]))⟩), (994, ⟨false, 1, 1, (fun i_1 => [.p (.int .i64 (↑v : Int))])⟩), (354, ⟨true, 2, 1, (fun i_1 => [.p (.int .i64 p.1.1), .ar 2 322 0 m])⟩), (322, ⟨false, 2, m, (fun i_1 => [.p (.int .i64 ((r i_1).1)), .p (.int .i64 ((r i_1).2.1))])⟩), (0, ⟨true, 3, 1, (fun i_1 => [.p (.int .i64 p.1.1), .p (.seq true 2 p.1.2.1.1 (fun i_2 => [.int .i64 ((p.1.2.1.2 i_2).1), .int .i64 ((p.1.2.1.2 i_2).2.1)])), .p (.seq true 1 p.2.1.1 (fun i_2 => [.int .i64 (p.2.1.2 i_2)]))])⟩)] [0, 1026] 1 (if (i < n) then [.p (.int .i64 (h i))] else [.p (.int .i64 (↑v : Int))])).1 : List AV) = [.p (.int .i64 (snI n h (↑v : Int) i))]))))]) := by kernel_rfl
theorem ySb (p : T_Pinned) (v n m : Nat) (h : Nat → Int) (r : Nat → T_Bar) (b1 b2 : Bool) :
    pieceOb Try.prog 0 [.reg [oT, oT, oT, oT, oT, oT, oT, ⟨true, (some ⟨[], [], [], 1, [], .p (.bool true)⟩), none⟩, oT], .dec true, .reg [oT, ⟨true, (some ⟨[], [], [], 1, [(0, brOb m r)], .agg [.p (.int .i64 p.1.1), .ar 2 0 0 m]⟩), none⟩, oT, oT], .reg [oT, oT, oT, oT, oT, oT, ⟨true, (some ⟨[], [], [], 1, [], .p (.bool b1)⟩), none⟩, oT, oT, oT, oT, oT, oT, oT, ⟨true, (some ⟨[], [], [], 1, [], .p (.bool b2)⟩), none⟩, oT], .dec false, .reg [oT, oT, oT], .head] [.code (cAt (bodyOf Try.f49) [1, 1, 0, 1, 0, 0]), .inLoop (cAt (bodyOf Try.f49) [1, 1, 0, 1, 0, 0]), .inBlock 0, .code (cAt (bodyOf Try.f49) [1, 1, 1])] (SYs p v n h) [0, 1] 1 (SYs p (v + 1) n h) =
    some ([.code (cAt (bodyOf Try.f49) [1, 1, 0, 1, 0, 0]), .inLoop (cAt (bodyOf Try.f49) [1, 1, 0, 1, 0, 0]), .inBlock 0, .code (cAt (bodyOf Try.f49) [1, 1, 1])], [((0 : Nat) < 1),
  (((decide ((↑v : Int) < p.1.1)) = true) → ((0 : Nat) < 1)),
  (AG (decide ((↑v : Int) < p.1.1))),
  (((decide ((↑v : Int) < p.1.1)) = true) → Con Try.prog 46 0 [] [.agg [.p (.int .i64 p.1.1), .p (.seq true 2 p.1.2.1.1 (fun i => [.int .i64 ((p.1.2.1.2 i).1), .int .i64 ((p.1.2.1.2 i).2.1)])), .p (.seq true 1 p.2.1.1 (fun i => [.int .i64 (p.2.1.2 i)]))]] [] (.p (.bool true))),
  (AG (decide ((↑v : Int) < p.1.1))),
  ((bif decide ((↑v : Int) < p.1.1) then true else false) = true),
  ((0 : Nat) < 1),
  Con Try.prog 97 0 [] [.agg [.p (.int .i64 p.1.1), .p (.seq true 2 p.1.2.1.1 (fun i => [.int .i64 ((p.1.2.1.2 i).1), .int .i64 ((p.1.2.1.2 i).2.1)])), .p (.seq true 1 p.2.1.1 (fun i => [.int .i64 (p.2.1.2 i)]))]] [(0, ⟨false, 2, m, (fun i => [.p (.int .i64 ((r i).1)), .p (.int .i64 ((r i).2.1))])⟩)] (.agg [.p (.int .i64 p.1.1), .ar 2 0 0 m]),
  ((0 : Nat) < 1),
  ((true = true) → (AN 1)),
  ((0 : Nat) < 1),
  ((0 : Nat) < 1),
  ((0 : Int) ≤ 0),
  ((0 : Int) < (↑p.2.1.1 : Int)),
  (AN 2),
  ((m : Nat) ≤ m),
  Con Try.prog 98 0 [] [.agg [.p (.int .i64 p.1.1), .p (.seq true 2 m (fun i => [.int .i64 ((r i).1), .int .i64 ((r i).2.1)]))], .p (.int .i64 (p.2.1.2 0)), .p (.int .i64 (↑v : Int))] [] (.p (.bool b1)),
  ((b1 = true) → ((0 : Nat) < 1)),
  (AG b1),
  ((b1 = true) → ((0 : Nat) < 1)),
  (AG b1),
  ((b1 = true) → ((0 : Int) ≤ 1)),
  ((b1 = true) → ((1 : Int) < (↑p.2.1.1 : Int))),
  (AG b1),
  (AG b1),
  (AG b1),
  (AG b1),
  ((b1 = true) → (AN 2)),
  ((b1 = true) → ((m : Nat) ≤ m)),
  ((b1 = true) → Con Try.prog 98 0 [] [.agg [.p (.int .i64 p.1.1), .p (.seq true 2 m (fun i => [.int .i64 ((r i).1), .int .i64 ((r i).2.1)]))], .p (.int .i64 (p.2.1.2 1)), .p (.int .i64 (↑v : Int))] [] (.p (.bool b2))),
  (AG b1),
  ((bif b1 then b2 else false) = false),
  (((-9223372036854775808) : Int) ≤ ((↑v : Int) + 1)),
  ((((↑v : Int) + 1) : Int) ≤ 9223372036854775807),
  (AI p.1.1),
  (AN p.1.2.1.1),
  (AP p.1.2.1.1 (fun i => [.int .i64 ((p.1.2.1.2 i).1), .int .i64 ((p.1.2.1.2 i).2.1)])),
  (AN p.2.1.1),
  (AP p.2.1.1 (fun i => [.int .i64 (p.2.1.2 i)])),
  (AN 0),
  (AN 0),
  (AN n),
  ((((↑v : Int) + 1) : Int) = (↑(v + 1) : Int)),
  (AN 3),
  ((1 : Nat) ≤ 1),
  ((1 : Nat) ≤ 1),
  (AI p.1.1),
  (AN p.1.2.1.1),
  (AP p.1.2.1.1 (fun i => [.int .i64 ((p.1.2.1.2 i).1), .int .i64 ((p.1.2.1.2 i).2.1)])),
  (AN p.2.1.1),
  (AP p.2.1.1 (fun i => [.int .i64 (p.2.1.2 i)])),
  (AN 1),
  ((n : Nat) ≤ n),
  (AA n (fun i => [.p (.int .i64 (h i))]))]) := by kernel_rfl
theorem ySe (p : T_Pinned) (v n : Nat) (h : Nat → Int) (b : Bool) :
    pathOb Try.prog Try.f49 0 [.reg [oT, oT, oT, oT, oT, oT, oT, ⟨true, (some ⟨[], [], [], 1, [], .p (.bool b)⟩), none⟩, oT], .dec false, .reg [oT, oT]] [.code (cAt (bodyOf Try.f49) [1, 1, 0, 1, 0, 0]), .inLoop (cAt (bodyOf Try.f49) [1, 1, 0, 1, 0, 0]), .inBlock 0, .code (cAt (bodyOf Try.f49) [1, 1, 1])] (SYs p v n h) [1] 1 [(0, iOb n h)] (.ar 1 0 0 n) =
    some [((0 : Nat) < 1),
  (((decide ((↑v : Int) < p.1.1)) = true) → ((0 : Nat) < 1)),
  (AG (decide ((↑v : Int) < p.1.1))),
  (((decide ((↑v : Int) < p.1.1)) = true) → Con Try.prog 46 0 [] [.agg [.p (.int .i64 p.1.1), .p (.seq true 2 p.1.2.1.1 (fun i => [.int .i64 ((p.1.2.1.2 i).1), .int .i64 ((p.1.2.1.2 i).2.1)])), .p (.seq true 1 p.2.1.1 (fun i => [.int .i64 (p.2.1.2 i)]))]] [] (.p (.bool b))),
  (AG (decide ((↑v : Int) < p.1.1))),
  ((bif decide ((↑v : Int) < p.1.1) then b else false) = false),
  (AN 0),
  (AN n),
  (AN 1),
  ((n : Nat) ≤ n),
  (AA n (fun i => [.p (.int .i64 (h i))])),
  (AE n)] := by kernel_rfl
theorem yIn (p : T_Pinned) :
    pathOb Try.prog Try.f55 0 [.reg [oT, oT], .reg [oT, oT], .reg [oT, ⟨true, (some ⟨[], [], [], 1, [], .p (.bool false)⟩), none⟩, oT], .dec true, .reg [oT, oT]] [.code (bodyOf Try.f55)] (start Try.f55 [] 0 [pinA p]) [64] 1 [(0, iOb 0 (fun _ => 0))] (.ar 1 0 0 0) =
    some [((0 : Nat) < 1),
  Con Try.prog 52 0 [] [.agg [.p (.int .i64 p.1.1), .p (.seq true 2 p.1.2.1.1 (fun i => [.int .i64 ((p.1.2.1.2 i).1), .int .i64 ((p.1.2.1.2 i).2.1)])), .p (.seq true 1 p.2.1.1 (fun i => [.int .i64 (p.2.1.2 i)]))]] [] (.p (.bool false)),
  ((!false) = true),
  (AN 0),
  (AN 0),
  (AN 1),
  ((0 : Nat) ≤ 0),
  (∀ i : Nat, (((i : Nat) < 0) → (All [] ∧ (([.p .any] : List AV) = [.p (.int .i64 0)])))),
  (AE 0)] := by kernel_rfl
theorem yIz (p : T_Pinned) (n m : Nat) (h r : Nat → T_Bar) :
    pieceOb Try.prog 0 [.reg [oT, oT], .reg [oT, oT], .reg [oT, ⟨true, (some ⟨[], [], [], 1, [], .p (.bool true)⟩), none⟩, oT], .dec false, .reg [oT, ⟨true, (some ⟨[], [], [], 1, [(0, brOb n h)], .ar 2 0 0 n⟩), none⟩, oT, oT, oT, oT, oT], .reg [oT, oT, oT, oT], .head] [.code (bodyOf Try.f55)] (start Try.f55 [] 0 [pinA p]) [0, 64, 384] 1 (SYi p 0 0 m (fun _ => 0) r) =
    some ([.code (cAt (bodyOf Try.f55) [1, 1, 1, 1, 0, 1, 0, 0]), .inLoop (cAt (bodyOf Try.f55) [1, 1, 1, 1, 0, 1, 0, 0]), .inBlock 0, .code (cAt (bodyOf Try.f55) [1, 1, 1, 1, 1])], [((0 : Nat) < 1),
  Con Try.prog 52 0 [] [.agg [.p (.int .i64 p.1.1), .p (.seq true 2 p.1.2.1.1 (fun i => [.int .i64 ((p.1.2.1.2 i).1), .int .i64 ((p.1.2.1.2 i).2.1)])), .p (.seq true 1 p.2.1.1 (fun i => [.int .i64 (p.2.1.2 i)]))]] [] (.p (.bool true)),
  ((!true) = false),
  ((0 : Nat) < 1),
  Con Try.prog 104 0 [] [.agg [.p (.int .i64 p.1.1), .p (.seq true 2 p.1.2.1.1 (fun i => [.int .i64 ((p.1.2.1.2 i).1), .int .i64 ((p.1.2.1.2 i).2.1)])), .p (.seq true 1 p.2.1.1 (fun i => [.int .i64 (p.2.1.2 i)]))]] [(0, ⟨false, 2, n, (fun i => [.p (.int .i64 ((h i).1)), .p (.int .i64 ((h i).2.1))])⟩)] (.ar 2 0 0 n),
  ((0 : Nat) < 1),
  ((n : Nat) ≤ n),
  ((((n + p.1.2.1.1) * 16) : Nat) ≤ 140737488355328),
  (((n + p.1.2.1.1) : Nat) ≤ 9223372036854775807),
  ((0 : Nat) < 1),
  (AI p.1.1),
  (AN p.1.2.1.1),
  (AP p.1.2.1.1 (fun i => [.int .i64 ((p.1.2.1.2 i).1), .int .i64 ((p.1.2.1.2 i).2.1)])),
  (AN p.2.1.1),
  (AP p.2.1.1 (fun i => [.int .i64 (p.2.1.2 i)])),
  (AN 0),
  (AN 0),
  (AN 0),
  (AN 0),
  (((n + p.1.2.1.1) : Nat) = m),
  (AI p.1.1),
  ((0 : Int) = (↑0 : Int)),
  ((([AV.p (PV.int IntKind.i64 p.1.1), graphL p.1.2.1, inL p.2.1].length) : Nat) = 3),
  ((1 : Nat) ≤ 1),
  ((1 : Nat) ≤ 1),
  (AI p.1.1),
  (AN p.1.2.1.1),
  (AP p.1.2.1.1 (fun i => [.int .i64 ((p.1.2.1.2 i).1), .int .i64 ((p.1.2.1.2 i).2.1)])),
  (AN p.2.1.1),
  (AP p.2.1.1 (fun i => [.int .i64 (p.2.1.2 i)])),
  (AN 1),
  ((0 : Nat) ≤ 0),
  (∀ i : Nat, (((i : Nat) < 0) → (All [] ∧ (([.p .any] : List AV) = [.p (.int .i64 0)])))),
  (AN 2),
  ((m : Nat) ≤ (n + p.1.2.1.1)),
  (∀ i : Nat, (((i : Nat) < m) → (All (cvtL false [(384, ⟨false, 2, (n + p.1.2.1.1), (fun i_1 => (if (i_1 < n) then [.p (.int .i64 ((h i_1).1)), .p (.int .i64 ((h i_1).2.1))] else [.p (.int .i64 ((p.1.2.1.2 (i_1 - n)).1)), .p (.int .i64 ((p.1.2.1.2 (i_1 - n)).2.1))]))⟩), (64, ⟨false, 1, 0, (fun i_1 => [.p .any])⟩), (0, ⟨true, 3, 1, (fun i_1 => [.p (.int .i64 p.1.1), .p (.seq true 2 p.1.2.1.1 (fun i_2 => [.int .i64 ((p.1.2.1.2 i_2).1), .int .i64 ((p.1.2.1.2 i_2).2.1)])), .p (.seq true 1 p.2.1.1 (fun i_2 => [.int .i64 (p.2.1.2 i_2)]))])⟩)] [0, 64, 384] 1 (if (i < n) then [.p (.int .i64 ((h i).1)), .p (.int .i64 ((h i).2.1))] else [.p (.int .i64 ((p.1.2.1.2 (i - n)).1)), .p (.int .i64 ((p.1.2.1.2 (i - n)).2.1))])).2 ∧ (((cvtL false [(384, ⟨false, 2, (n + p.1.2.1.1), (fun i_1 => (if (i_1 < n) then [.p (.int .i64 ((h i_1).1)), .p (.int .i64 ((h i_1).2.1))] else [.p (.int .i64 ((p.1.2.1.2 (i_1 - n)).1)), .p (.int .i64 ((p.1.2.1.2 (i_1 - n)).2.1))]))⟩), (64, ⟨false, 1, 0, (fun i_1 => [.p .any])⟩), (0, ⟨true, 3, 1, (fun i_1 => [.p (.int .i64 p.1.1), .p (.seq true 2 p.1.2.1.1 (fun i_2 => [.int .i64 ((p.1.2.1.2 i_2).1), .int .i64 ((p.1.2.1.2 i_2).2.1)])), .p (.seq true 1 p.2.1.1 (fun i_2 => [.int .i64 (p.2.1.2 i_2)]))])⟩)] [0, 64, 384] 1 (if (i < n) then [.p (.int .i64 ((h i).1)), .p (.int .i64 ((h i).2.1))] else [.p (.int .i64 ((p.1.2.1.2 (i - n)).1)), .p (.int .i64 ((p.1.2.1.2 (i - n)).2.1))])).1 : List AV) = [.p (.int .i64 ((r i).1)), .p (.int .i64 ((r i).2.1))]))))]) := by kernel_rfl
theorem yIo (p : T_Pinned) (v n m : Nat) (h : Nat → Int) (r : Nat → T_Bar) :
    pieceOb Try.prog 0 [.reg [oT], .dec true, .reg [oT, oT], .reg [oT], .reg [oT, oT, oT, oT], .head] [.code (cAt (bodyOf Try.f55) [1, 1, 1, 1, 0, 1, 0, 0]), .inLoop (cAt (bodyOf Try.f55) [1, 1, 1, 1, 0, 1, 0, 0]), .inBlock 0, .code (cAt (bodyOf Try.f55) [1, 1, 1, 1, 1])] (SYi p v n m h r) [0, 1, 2] 1 (SYj p v 0 n m h r true) =
    some ([.code (cAt (bodyOf Try.f55) [1, 1, 1, 1, 0, 1, 0, 0, 1, 1, 0, 0, 1, 1, 0, 1, 0, 0]), .inLoop (cAt (bodyOf Try.f55) [1, 1, 1, 1, 0, 1, 0, 0, 1, 1, 0, 0, 1, 1, 0, 1, 0, 0]), .inBlock 2, .code (cAt (bodyOf Try.f55) [1, 1, 1, 1, 0, 1, 0, 0, 1, 1, 0, 0, 1, 1, 1]), .inBlock 1, .code (cAt (bodyOf Try.f55) [1, 1, 1, 1, 0, 1, 0, 0, 1, 1, 1]), .inLoop (cAt (bodyOf Try.f55) [1, 1, 1, 1, 0, 1, 0, 0]), .inBlock 0, .code (cAt (bodyOf Try.f55) [1, 1, 1, 1, 1])], [((decide ((↑v : Int) < p.1.1)) = true),
  ((0 : Nat) < 1),
  (AI p.1.1),
  (AN p.1.2.1.1),
  (AP p.1.2.1.1 (fun i => [.int .i64 ((p.1.2.1.2 i).1), .int .i64 ((p.1.2.1.2 i).2.1)])),
  (AN p.2.1.1),
  (AP p.2.1.1 (fun i => [.int .i64 (p.2.1.2 i)])),
  (AN 0),
  (AN 0),
  (AN n),
  (AN 0),
  (AN m),
  (AI ((↑v : Int))),
  (true = true),
  (AI p.1.1),
  (AI ((↑v : Int))),
  (AN p.2.1.1),
  (AP p.2.1.1 (fun i => [.int .i64 (p.2.1.2 i)])),
  (AI ((↑p.2.1.1 : Int))),
  ((0 : Int) = (↑0 : Int)),
  (AN 3),
  ((1 : Nat) ≤ 1),
  ((1 : Nat) ≤ 1),
  (AI p.1.1),
  (AN p.1.2.1.1),
  (AP p.1.2.1.1 (fun i => [.int .i64 ((p.1.2.1.2 i).1), .int .i64 ((p.1.2.1.2 i).2.1)])),
  (AN p.2.1.1),
  (AP p.2.1.1 (fun i => [.int .i64 (p.2.1.2 i)])),
  (AN 1),
  ((n : Nat) ≤ n),
  (AA n (fun i => [.p (.int .i64 (h i))])),
  (AN 2),
  ((m : Nat) ≤ m),
  (AA m (fun i => [.p (.int .i64 ((r i).1)), .p (.int .i64 ((r i).2.1))]))]) := by kernel_rfl
theorem yIi (p : T_Pinned) (v j n m : Nat) (h : Nat → Int) (r : Nat → T_Bar) (b q : Bool) (x : T_Bar) :
    pieceOb Try.prog 0 [.reg [oT], .dec true, .reg [oT, oT, oT], .reg [oT, oT, oT, oT, oT, oT, oT, oT, oT, oT, oT, oT, ⟨true, (some ⟨[], [], [], 1, [], .agg [.p (.int .i64 x.1), .p (.int .i64 x.2.1)]⟩), none⟩, ⟨true, (some ⟨[], [], [], 1, [], .p (.bool q)⟩), none⟩, oT, oT, oT, oT], .reg [oT, oT], .head] [.code (cAt (bodyOf Try.f55) [1, 1, 1, 1, 0, 1, 0, 0, 1, 1, 0, 0, 1, 1, 0, 1, 0, 0]), .inLoop (cAt (bodyOf Try.f55) [1, 1, 1, 1, 0, 1, 0, 0, 1, 1, 0, 0, 1, 1, 0, 1, 0, 0]), .inBlock 2, .code (cAt (bodyOf Try.f55) [1, 1, 1, 1, 0, 1, 0, 0, 1, 1, 0, 0, 1, 1, 1]), .inBlock 1, .code (cAt (bodyOf Try.f55) [1, 1, 1, 1, 0, 1, 0, 0, 1, 1, 1]), .inLoop (cAt (bodyOf Try.f55) [1, 1, 1, 1, 0, 1, 0, 0]), .inBlock 0, .code (cAt (bodyOf Try.f55) [1, 1, 1, 1, 1])] (SYj p v j n m h r b) [0, 1, 2] 1 (SYj p v (j + 1) n m h r (bif b then (bif p.2.1.2 j == (v : Int) then true else !q) else false)) =
    some ([.code (cAt (bodyOf Try.f55) [1, 1, 1, 1, 0, 1, 0, 0, 1, 1, 0, 0, 1, 1, 0, 1, 0, 0]), .inLoop (cAt (bodyOf Try.f55) [1, 1, 1, 1, 0, 1, 0, 0, 1, 1, 0, 0, 1, 1, 0, 1, 0, 0]), .inBlock 2, .code (cAt (bodyOf Try.f55) [1, 1, 1, 1, 0, 1, 0, 0, 1, 1, 0, 0, 1, 1, 1]), .inBlock 1, .code (cAt (bodyOf Try.f55) [1, 1, 1, 1, 0, 1, 0, 0, 1, 1, 1]), .inLoop (cAt (bodyOf Try.f55) [1, 1, 1, 1, 0, 1, 0, 0]), .inBlock 0, .code (cAt (bodyOf Try.f55) [1, 1, 1, 1, 1])], [((decide ((↑j : Int) < (↑p.2.1.1 : Int))) = true),
  ((0 : Int) ≤ (↑j : Int)),
  (((↑j : Int) : Int) < (↑p.2.1.1 : Int)),
  (AG b),
  (AG b),
  (AG b),
  (AG (b && !p.2.1.2 j == (↑v : Int))),
  (AG (b && !p.2.1.2 j == (↑v : Int))),
  (((b && !p.2.1.2 j == (↑v : Int)) = true) → ((0 : Nat) < 1)),
  (AG (b && !p.2.1.2 j == (↑v : Int))),
  (AG (b && !p.2.1.2 j == (↑v : Int))),
  (((b && !p.2.1.2 j == (↑v : Int)) = true) → Con Try.prog 106 0 [] [.p (.int .i64 (p.2.1.2 j)), .p (.int .i64 (↑v : Int))] [] (.agg [.p (.int .i64 x.1), .p (.int .i64 x.2.1)])),
  (AG (b && !p.2.1.2 j == (↑v : Int))),
  (AG (b && !p.2.1.2 j == (↑v : Int))),
  (AG (b && !p.2.1.2 j == (↑v : Int))),
  (((b && !p.2.1.2 j == (↑v : Int)) = true) → (AN 2)),
  (((b && !p.2.1.2 j == (↑v : Int)) = true) → ((m : Nat) ≤ m)),
  (((b && !p.2.1.2 j == (↑v : Int)) = true) → Con Try.prog 105 0 [] [.p (.int .i64 p.1.1), .p (.seq true 2 m (fun i => [.int .i64 ((r i).1), .int .i64 ((r i).2.1)])), .agg [.p (.int .i64 x.1), .p (.int .i64 x.2.1)]] [] (.p (.bool q))),
  (AG (b && !p.2.1.2 j == (↑v : Int))),
  (AG b),
  ((b = true) → (((p.2.1.2 j == (↑v : Int)) = false) → ((b && !p.2.1.2 j == (↑v : Int)) = true))),
  (AG b),
  (((-9223372036854775808) : Int) ≤ ((↑j : Int) + 1)),
  ((((↑j : Int) + 1) : Int) ≤ 9223372036854775807),
  (AI p.1.1),
  (AN p.1.2.1.1),
  (AP p.1.2.1.1 (fun i => [.int .i64 ((p.1.2.1.2 i).1), .int .i64 ((p.1.2.1.2 i).2.1)])),
  (AN p.2.1.1),
  (AP p.2.1.1 (fun i => [.int .i64 (p.2.1.2 i)])),
  (AN 0),
  (AN 0),
  (AN n),
  (AN 0),
  (AN m),
  (AI ((↑v : Int))),
  ((bif b then bif p.2.1.2 j == (↑v : Int) then true else !q else false) = (bif b then bif p.2.1.2 j == (↑v : Int) then true else !q else false)),
  (AI p.1.1),
  (AI ((↑v : Int))),
  (AN p.2.1.1),
  (AP p.2.1.1 (fun i => [.int .i64 (p.2.1.2 i)])),
  (AI ((↑p.2.1.1 : Int))),
  ((((↑j : Int) + 1) : Int) = (↑(j + 1) : Int)),
  (AN 3),
  ((1 : Nat) ≤ 1),
  ((1 : Nat) ≤ 1),
  (AI p.1.1),
  (AN p.1.2.1.1),
  (AP p.1.2.1.1 (fun i => [.int .i64 ((p.1.2.1.2 i).1), .int .i64 ((p.1.2.1.2 i).2.1)])),
  (AN p.2.1.1),
  (AP p.2.1.1 (fun i => [.int .i64 (p.2.1.2 i)])),
  (AN 1),
  ((n : Nat) ≤ n),
  (AA n (fun i => [.p (.int .i64 (h i))])),
  (AN 2),
  ((m : Nat) ≤ m),
  (AA m (fun i => [.p (.int .i64 ((r i).1)), .p (.int .i64 ((r i).2.1))]))]) := by kernel_rfl
theorem yIt (p : T_Pinned) (v j n m : Nat) (h : Nat → Int) (r : Nat → T_Bar) (b : Bool) :
    pieceOb Try.prog 0 [.reg [oT], .dec false, .reg [oT], .dec true, .reg [oT, oT, oT, oT, oT], .reg [oT, oT], .head] [.code (cAt (bodyOf Try.f55) [1, 1, 1, 1, 0, 1, 0, 0, 1, 1, 0, 0, 1, 1, 0, 1, 0, 0]), .inLoop (cAt (bodyOf Try.f55) [1, 1, 1, 1, 0, 1, 0, 0, 1, 1, 0, 0, 1, 1, 0, 1, 0, 0]), .inBlock 2, .code (cAt (bodyOf Try.f55) [1, 1, 1, 1, 0, 1, 0, 0, 1, 1, 0, 0, 1, 1, 1]), .inBlock 1, .code (cAt (bodyOf Try.f55) [1, 1, 1, 1, 0, 1, 0, 0, 1, 1, 1]), .inLoop (cAt (bodyOf Try.f55) [1, 1, 1, 1, 0, 1, 0, 0]), .inBlock 0, .code (cAt (bodyOf Try.f55) [1, 1, 1, 1, 1])] (SYj p v j n m h r b) [0, 163, 2] 1 (SYi p (v + 1) (n + 1) m (snI n h v) r) =
    some ([.code (cAt (bodyOf Try.f55) [1, 1, 1, 1, 0, 1, 0, 0]), .inLoop (cAt (bodyOf Try.f55) [1, 1, 1, 1, 0, 1, 0, 0]), .inBlock 0, .code (cAt (bodyOf Try.f55) [1, 1, 1, 1, 1])], [((decide ((↑j : Int) < (↑p.2.1.1 : Int))) = false),
  (b = true),
  ((1 : Nat) ≤ 1),
  ((n : Nat) ≤ n),
  ((((n + 1) * 8) : Nat) ≤ 140737488355328),
  (((n + 1) : Nat) ≤ 9223372036854775807),
  (((-9223372036854775808) : Int) ≤ ((↑v : Int) + 1)),
  ((((↑v : Int) + 1) : Int) ≤ 9223372036854775807),
  (AI p.1.1),
  (AN p.1.2.1.1),
  (AP p.1.2.1.1 (fun i => [.int .i64 ((p.1.2.1.2 i).1), .int .i64 ((p.1.2.1.2 i).2.1)])),
  (AN p.2.1.1),
  (AP p.2.1.1 (fun i => [.int .i64 (p.2.1.2 i)])),
  (AN 0),
  (AN 0),
  (AN ((n + 1))),
  (AN 0),
  (AN m),
  (AI p.1.1),
  ((((↑v : Int) + 1) : Int) = (↑(v + 1) : Int)),
  (AN 3),
  ((1 : Nat) ≤ 1),
  ((1 : Nat) ≤ 1),
  (AI p.1.1),
  (AN p.1.2.1.1),
  (AP p.1.2.1.1 (fun i => [.int .i64 ((p.1.2.1.2 i).1), .int .i64 ((p.1.2.1.2 i).2.1)])),
  (AN p.2.1.1),
  (AP p.2.1.1 (fun i => [.int .i64 (p.2.1.2 i)])),
  (AN 1),
  (((n + 1) : Nat) ≤ (n + 1)),
  (∀ i : Nat, (((i : Nat) < (n + 1)) → (All (cvtL false [(163, ⟨false, 1, (n + 1), (fun i_1 => (if (i_1 < n) then [.p (.int .i64 (h i_1))] else [.p (.int .i64 (↑v : Int))]))⟩), (131, ⟨false, 1, 1, (fun i_1 => [.p (.int .i64 (↑v : Int))])⟩), (0, ⟨true, 3, 1, (fun i_1 => [.p (.int .i64 p.1.1), .p (.seq true 2 p.1.2.1.1 (fun i_2 => [.int .i64 ((p.1.2.1.2 i_2).1), .int .i64 ((p.1.2.1.2 i_2).2.1)])), .p (.seq true 1 p.2.1.1 (fun i_2 => [.int .i64 (p.2.1.2 i_2)]))])⟩), (2, ⟨false, 2, m, (fun i_1 => [.p (.int .i64 ((r i_1).1)), .p (.int .i64 ((r i_1).2.1))])⟩)] [0, 163, 2] 1 (if (i < n) then [.p (.int .i64 (h i))] else [.p (.int .i64 (↑v : Int))])).2 ∧ (((cvtL false [(163, ⟨false, 1, (n + 1), (fun i_1 => (if (i_1 < n) then [.p (.int .i64 (h i_1))] else [.p (.int .i64 (↑v : Int))]))⟩), (131, ⟨false, 1, 1, (fun i_1 => [.p (.int .i64 (↑v : Int))])⟩), (0, ⟨true, 3, 1, (fun i_1 => [.p (.int .i64 p.1.1), .p (.seq true 2 p.1.2.1.1 (fun i_2 => [.int .i64 ((p.1.2.1.2 i_2).1), .int .i64 ((p.1.2.1.2 i_2).2.1)])), .p (.seq true 1 p.2.1.1 (fun i_2 => [.int .i64 (p.2.1.2 i_2)]))])⟩), (2, ⟨false, 2, m, (fun i_1 => [.p (.int .i64 ((r i_1).1)), .p (.int .i64 ((r i_1).2.1))])⟩)] [0, 163, 2] 1 (if (i < n) then [.p (.int .i64 (h i))] else [.p (.int .i64 (↑v : Int))])).1 : List AV) = [.p (.int .i64 (snI n h (↑v : Int) i))])))),
  (AN 2),
  ((m : Nat) ≤ m),
  (AA m (fun i => [.p (.int .i64 ((r i).1)), .p (.int .i64 ((r i).2.1))]))]) := by kernel_rfl
theorem yIf (p : T_Pinned) (v j n m : Nat) (h : Nat → Int) (r : Nat → T_Bar) (b : Bool) :
    pieceOb Try.prog 0 [.reg [oT], .dec false, .reg [oT], .dec false, .reg [oT, oT], .head] [.code (cAt (bodyOf Try.f55) [1, 1, 1, 1, 0, 1, 0, 0, 1, 1, 0, 0, 1, 1, 0, 1, 0, 0]), .inLoop (cAt (bodyOf Try.f55) [1, 1, 1, 1, 0, 1, 0, 0, 1, 1, 0, 0, 1, 1, 0, 1, 0, 0]), .inBlock 2, .code (cAt (bodyOf Try.f55) [1, 1, 1, 1, 0, 1, 0, 0, 1, 1, 0, 0, 1, 1, 1]), .inBlock 1, .code (cAt (bodyOf Try.f55) [1, 1, 1, 1, 0, 1, 0, 0, 1, 1, 1]), .inLoop (cAt (bodyOf Try.f55) [1, 1, 1, 1, 0, 1, 0, 0]), .inBlock 0, .code (cAt (bodyOf Try.f55) [1, 1, 1, 1, 1])] (SYj p v j n m h r b) [0, 1, 2] 1 (SYi p (v + 1) n m h r) =
    some ([.code (cAt (bodyOf Try.f55) [1, 1, 1, 1, 0, 1, 0, 0]), .inLoop (cAt (bodyOf Try.f55) [1, 1, 1, 1, 0, 1, 0, 0]), .inBlock 0, .code (cAt (bodyOf Try.f55) [1, 1, 1, 1, 1])], [((decide ((↑j : Int) < (↑p.2.1.1 : Int))) = false),
  (b = false),
  (((-9223372036854775808) : Int) ≤ ((↑v : Int) + 1)),
  ((((↑v : Int) + 1) : Int) ≤ 9223372036854775807),
  (AI p.1.1),
  (AN p.1.2.1.1),
  (AP p.1.2.1.1 (fun i => [.int .i64 ((p.1.2.1.2 i).1), .int .i64 ((p.1.2.1.2 i).2.1)])),
  (AN p.2.1.1),
  (AP p.2.1.1 (fun i => [.int .i64 (p.2.1.2 i)])),
  (AN 0),
  (AN 0),
  (AN n),
  (AN 0),
  (AN m),
  (AI p.1.1),
  ((((↑v : Int) + 1) : Int) = (↑(v + 1) : Int)),
  (AN 3),
  ((1 : Nat) ≤ 1),
  ((1 : Nat) ≤ 1),
  (AI p.1.1),
  (AN p.1.2.1.1),
  (AP p.1.2.1.1 (fun i => [.int .i64 ((p.1.2.1.2 i).1), .int .i64 ((p.1.2.1.2 i).2.1)])),
  (AN p.2.1.1),
  (AP p.2.1.1 (fun i => [.int .i64 (p.2.1.2 i)])),
  (AN 1),
  ((n : Nat) ≤ n),
  (AA n (fun i => [.p (.int .i64 (h i))])),
  (AN 2),
  ((m : Nat) ≤ m),
  (AA m (fun i => [.p (.int .i64 ((r i).1)), .p (.int .i64 ((r i).2.1))]))]) := by kernel_rfl
theorem yIe (p : T_Pinned) (v n m : Nat) (h : Nat → Int) (r : Nat → T_Bar) :
    pathOb Try.prog Try.f55 0 [.reg [oT], .dec false, .reg [oT, oT]] [.code (cAt (bodyOf Try.f55) [1, 1, 1, 1, 0, 1, 0, 0]), .inLoop (cAt (bodyOf Try.f55) [1, 1, 1, 1, 0, 1, 0, 0]), .inBlock 0, .code (cAt (bodyOf Try.f55) [1, 1, 1, 1, 1])] (SYi p v n m h r) [1] 1 [(0, iOb n h)] (.ar 1 0 0 n) =
    some [((decide ((↑v : Int) < p.1.1)) = false),
  (AN 0),
  (AN n),
  (AN 1),
  ((n : Nat) ≤ n),
  (AA n (fun i => [.p (.int .i64 (h i))])),
  (AE n)] := by kernel_rfl
theorem yFz (p : T_Pinned) (e a b nb : Nat) (r s : Nat → Int) (g : Nat → T_Bar) :
    pieceOb Try.prog 0 [.reg [oT, oT], .reg [oT, oT], .reg [oT, ⟨true, (some ⟨[], [], [], 1, [], .p (.bool true)⟩), none⟩, oT, oT, oT, oT, oT, oT, oT, oT, ⟨true, (some ⟨[], [], [], 1, [], .p (.bool true)⟩), none⟩, oT, oT], .dec false, .reg [oT, oT, ⟨true, (some ⟨[], [], [], 1, [(0, brOb nb g), (1, iOb p.2.1.1 p.2.1.2)], .agg [.p (.int .i64 p.1.1), .ar 2 0 0 nb, .ar 1 1 0 p.2.1.1]⟩), none⟩, ⟨true, (some ⟨[], [], [], 1, [(0, iOb a r)], .ar 1 0 0 a⟩), none⟩, oT], .reg [oT, ⟨true, (some ⟨[], [], [], 1, [(0, iOb b s)], .ar 1 0 0 b⟩), none⟩, oT, oT], .head] [.code (bodyOf Try.f107)] (start Try.f107 [] 0 [pinA p, .p (.int .i64 e)]) [0, 64, 640, 736] 1 (SYf p e 0 0 a b (fun _ => 0) r s) =
    some ([.code (cAt (bodyOf Try.f107) [1, 1, 1, 1, 0, 1, 0, 0]), .inLoop (cAt (bodyOf Try.f107) [1, 1, 1, 1, 0, 1, 0, 0]), .inBlock 0, .code (cAt (bodyOf Try.f107) [1, 1, 1, 1, 1])], [((0 : Nat) < 1),
  Con Try.prog 52 0 [] [.agg [.p (.int .i64 p.1.1), .p (.seq true 2 p.1.2.1.1 (fun i => [.int .i64 ((p.1.2.1.2 i).1), .int .i64 ((p.1.2.1.2 i).2.1)])), .p (.seq true 1 p.2.1.1 (fun i => [.int .i64 (p.2.1.2 i)]))]] [] (.p (.bool true)),
  (AG (!!true)),
  (AG (!!true)),
  (((!!true) = true) → ((0 : Nat) < 1)),
  (AG (!!true)),
  (AG (!!true)),
  (((!!true) = true) → (((-9223372036854775808) : Int) ≤ ((↑p.1.2.1.1 : Int) - 1))),
  (((!!true) = true) → ((((↑p.1.2.1.1 : Int) - 1) : Int) ≤ 9223372036854775807)),
  (AG (!!true)),
  (AG (!!true)),
  (((!!true) = true) → Con Try.prog 115 0 [] [.p (.int .i64 (↑e : Int)), .p (.int .i64 0), .p (.int .i64 ((↑p.1.2.1.1 : Int) - 1))] [] (.p (.bool true))),
  (AG (!!true)),
  (((!true) = false) → ((!!true) = true)),
  ((bif !true then true else !true) = false),
  ((0 : Nat) < 1),
  Con Try.prog 131 0 [] [.agg [.p (.int .i64 p.1.1), .p (.seq true 2 p.1.2.1.1 (fun i => [.int .i64 ((p.1.2.1.2 i).1), .int .i64 ((p.1.2.1.2 i).2.1)])), .p (.seq true 1 p.2.1.1 (fun i => [.int .i64 (p.2.1.2 i)]))], .p (.int .i64 (↑e : Int))] [(0, ⟨false, 2, nb, (fun i => [.p (.int .i64 ((g i).1)), .p (.int .i64 ((g i).2.1))])⟩), (1, ⟨false, 1, p.2.1.1, (fun i => [.p (.int .i64 (p.2.1.2 i))])⟩)] (.agg [.p (.int .i64 p.1.1), .ar 2 0 0 nb, .ar 1 1 0 p.2.1.1]),
  (AN 2),
  ((nb : Nat) ≤ nb),
  (AN 1),
  ((p.2.1.1 : Nat) ≤ p.2.1.1),
  Con Try.prog 55 0 [] [.agg [.p (.int .i64 p.1.1), .p (.seq true 2 nb (fun i => [.int .i64 ((g i).1), .int .i64 ((g i).2.1)])), .p (.seq true 1 p.2.1.1 (fun i => [.int .i64 (p.2.1.2 i)]))]] [(0, ⟨false, 1, a, (fun i => [.p (.int .i64 (r i))])⟩)] (.ar 1 0 0 a),
  ((0 : Nat) < 1),
  Con Try.prog 55 0 [] [.agg [.p (.int .i64 p.1.1), .p (.seq true 2 p.1.2.1.1 (fun i => [.int .i64 ((p.1.2.1.2 i).1), .int .i64 ((p.1.2.1.2 i).2.1)])), .p (.seq true 1 p.2.1.1 (fun i => [.int .i64 (p.2.1.2 i)]))]] [(0, ⟨false, 1, b, (fun i => [.p (.int .i64 (s i))])⟩)] (.ar 1 0 0 b),
  (AI p.1.1),
  (AN p.1.2.1.1),
  (AP p.1.2.1.1 (fun i => [.int .i64 ((p.1.2.1.2 i).1), .int .i64 ((p.1.2.1.2 i).2.1)])),
  (AN p.2.1.1),
  (AP p.2.1.1 (fun i => [.int .i64 (p.2.1.2 i)])),
  (AI ((↑e : Int))),
  (AN 0),
  (AN 0),
  (AN 0),
  (AN 0),
  (AN a),
  (AN 0),
  (AN b),
  (AI ((↑b : Int))),
  ((0 : Int) = (↑0 : Int)),
  ((([AV.p (PV.int IntKind.i64 p.1.1), graphL p.1.2.1, inL p.2.1].length) : Nat) = 3),
  ((1 : Nat) ≤ 1),
  ((1 : Nat) ≤ 1),
  (AI p.1.1),
  (AN p.1.2.1.1),
  (AP p.1.2.1.1 (fun i => [.int .i64 ((p.1.2.1.2 i).1), .int .i64 ((p.1.2.1.2 i).2.1)])),
  (AN p.2.1.1),
  (AP p.2.1.1 (fun i => [.int .i64 (p.2.1.2 i)])),
  (AN 1),
  ((0 : Nat) ≤ 0),
  (∀ i : Nat, (((i : Nat) < 0) → (All [] ∧ (([.p .any] : List AV) = [.p (.int .i64 0)])))),
  (AN 1),
  ((a : Nat) ≤ a),
  (AA a (fun i => [.p (.int .i64 (r i))])),
  (AN 1),
  ((b : Nat) ≤ b),
  (AA b (fun i => [.p (.int .i64 (s i))]))]) := by kernel_rfl
theorem yFa (p : T_Pinned) (e k n a b : Nat) (h r s : Nat → Int) :
    pieceOb Try.prog 0 [.reg [oT], .dec true, .reg [oT, oT, oT], .reg [oT, oT, ⟨true, (some ⟨[], [], [], 1, [], .p (.bool false)⟩), none⟩, oT], .dec true, .reg [oT, oT, oT, oT, oT], .reg [oT, oT], .head] [.code (cAt (bodyOf Try.f107) [1, 1, 1, 1, 0, 1, 0, 0]), .inLoop (cAt (bodyOf Try.f107) [1, 1, 1, 1, 0, 1, 0, 0]), .inBlock 0, .code (cAt (bodyOf Try.f107) [1, 1, 1, 1, 1])] (SYf p e k n a b h r s) [0, 356, 2, 3] 1 (SYf p e (k + 1) (n + 1) a b (snI n h (s k)) r s) =
    some ([.code (cAt (bodyOf Try.f107) [1, 1, 1, 1, 0, 1, 0, 0]), .inLoop (cAt (bodyOf Try.f107) [1, 1, 1, 1, 0, 1, 0, 0]), .inBlock 0, .code (cAt (bodyOf Try.f107) [1, 1, 1, 1, 1])], [((decide ((↑k : Int) < (↑b : Int))) = true),
  ((0 : Int) ≤ (↑k : Int)),
  (((↑k : Int) : Int) < (↑b : Int)),
  ((k : Nat) < b),
  (AN 1),
  ((a : Nat) ≤ a),
  Con Try.prog 83 0 [] [.p (.seq true 1 a (fun i => [.int .i64 (r i)])), .p (.int .i64 (s k))] [] (.p (.bool false)),
  ((!false) = true),
  ((1 : Nat) ≤ 1),
  ((n : Nat) ≤ n),
  ((((n + 1) * 8) : Nat) ≤ 140737488355328),
  (((n + 1) : Nat) ≤ 9223372036854775807),
  (((-9223372036854775808) : Int) ≤ ((↑k : Int) + 1)),
  ((((↑k : Int) + 1) : Int) ≤ 9223372036854775807),
  (AI p.1.1),
  (AN p.1.2.1.1),
  (AP p.1.2.1.1 (fun i => [.int .i64 ((p.1.2.1.2 i).1), .int .i64 ((p.1.2.1.2 i).2.1)])),
  (AN p.2.1.1),
  (AP p.2.1.1 (fun i => [.int .i64 (p.2.1.2 i)])),
  (AI ((↑e : Int))),
  (AN 0),
  (AN 0),
  (AN ((n + 1))),
  (AN 0),
  (AN a),
  (AN 0),
  (AN b),
  (AI ((↑b : Int))),
  ((((↑k : Int) + 1) : Int) = (↑(k + 1) : Int)),
  (AN 3),
  ((1 : Nat) ≤ 1),
  ((1 : Nat) ≤ 1),
  (AI p.1.1),
  (AN p.1.2.1.1),
  (AP p.1.2.1.1 (fun i => [.int .i64 ((p.1.2.1.2 i).1), .int .i64 ((p.1.2.1.2 i).2.1)])),
  (AN p.2.1.1),
  (AP p.2.1.1 (fun i => [.int .i64 (p.2.1.2 i)])),
  (AN 1),
  (((n + 1) : Nat) ≤ (n + 1)),
  (∀ i : Nat, (((i : Nat) < (n + 1)) → (All (cvtL false [(356, ⟨false, 1, (n + 1), (fun i_1 => (if (i_1 < n) then [.p (.int .i64 (h i_1))] else [.p (.int .i64 (s k))]))⟩), (324, ⟨false, 1, 1, (fun i_1 => [.p (.int .i64 (s k))])⟩), (0, ⟨true, 3, 1, (fun i_1 => [.p (.int .i64 p.1.1), .p (.seq true 2 p.1.2.1.1 (fun i_2 => [.int .i64 ((p.1.2.1.2 i_2).1), .int .i64 ((p.1.2.1.2 i_2).2.1)])), .p (.seq true 1 p.2.1.1 (fun i_2 => [.int .i64 (p.2.1.2 i_2)]))])⟩), (2, ⟨false, 1, a, (fun i_1 => [.p (.int .i64 (r i_1))])⟩), (3, ⟨false, 1, b, (fun i_1 => [.p (.int .i64 (s i_1))])⟩)] [0, 356, 2, 3] 1 (if (i < n) then [.p (.int .i64 (h i))] else [.p (.int .i64 (s k))])).2 ∧ (((cvtL false [(356, ⟨false, 1, (n + 1), (fun i_1 => (if (i_1 < n) then [.p (.int .i64 (h i_1))] else [.p (.int .i64 (s k))]))⟩), (324, ⟨false, 1, 1, (fun i_1 => [.p (.int .i64 (s k))])⟩), (0, ⟨true, 3, 1, (fun i_1 => [.p (.int .i64 p.1.1), .p (.seq true 2 p.1.2.1.1 (fun i_2 => [.int .i64 ((p.1.2.1.2 i_2).1), .int .i64 ((p.1.2.1.2 i_2).2.1)])), .p (.seq true 1 p.2.1.1 (fun i_2 => [.int .i64 (p.2.1.2 i_2)]))])⟩), (2, ⟨false, 1, a, (fun i_1 => [.p (.int .i64 (r i_1))])⟩), (3, ⟨false, 1, b, (fun i_1 => [.p (.int .i64 (s i_1))])⟩)] [0, 356, 2, 3] 1 (if (i < n) then [.p (.int .i64 (h i))] else [.p (.int .i64 (s k))])).1 : List AV) = [.p (.int .i64 (snI n h (s k) i))])))),
  (AN 1),
  ((a : Nat) ≤ a),
  (AA a (fun i => [.p (.int .i64 (r i))])),
  (AN 1),
  ((b : Nat) ≤ b),
  (AA b (fun i => [.p (.int .i64 (s i))]))]) := by kernel_rfl
theorem yFb (p : T_Pinned) (e k n a b : Nat) (h r s : Nat → Int) :
    pieceOb Try.prog 0 [.reg [oT], .dec true, .reg [oT, oT, oT], .reg [oT, oT, ⟨true, (some ⟨[], [], [], 1, [], .p (.bool true)⟩), none⟩, oT], .dec false, .reg [oT, oT], .head] [.code (cAt (bodyOf Try.f107) [1, 1, 1, 1, 0, 1, 0, 0]), .inLoop (cAt (bodyOf Try.f107) [1, 1, 1, 1, 0, 1, 0, 0]), .inBlock 0, .code (cAt (bodyOf Try.f107) [1, 1, 1, 1, 1])] (SYf p e k n a b h r s) [0, 1, 2, 3] 1 (SYf p e (k + 1) n a b h r s) =
    some ([.code (cAt (bodyOf Try.f107) [1, 1, 1, 1, 0, 1, 0, 0]), .inLoop (cAt (bodyOf Try.f107) [1, 1, 1, 1, 0, 1, 0, 0]), .inBlock 0, .code (cAt (bodyOf Try.f107) [1, 1, 1, 1, 1])], [((decide ((↑k : Int) < (↑b : Int))) = true),
  ((0 : Int) ≤ (↑k : Int)),
  (((↑k : Int) : Int) < (↑b : Int)),
  ((k : Nat) < b),
  (AN 1),
  ((a : Nat) ≤ a),
  Con Try.prog 83 0 [] [.p (.seq true 1 a (fun i => [.int .i64 (r i)])), .p (.int .i64 (s k))] [] (.p (.bool true)),
  ((!true) = false),
  (((-9223372036854775808) : Int) ≤ ((↑k : Int) + 1)),
  ((((↑k : Int) + 1) : Int) ≤ 9223372036854775807),
  (AI p.1.1),
  (AN p.1.2.1.1),
  (AP p.1.2.1.1 (fun i => [.int .i64 ((p.1.2.1.2 i).1), .int .i64 ((p.1.2.1.2 i).2.1)])),
  (AN p.2.1.1),
  (AP p.2.1.1 (fun i => [.int .i64 (p.2.1.2 i)])),
  (AI ((↑e : Int))),
  (AN 0),
  (AN 0),
  (AN n),
  (AN 0),
  (AN a),
  (AN 0),
  (AN b),
  (AI ((↑b : Int))),
  ((((↑k : Int) + 1) : Int) = (↑(k + 1) : Int)),
  (AN 3),
  ((1 : Nat) ≤ 1),
  ((1 : Nat) ≤ 1),
  (AI p.1.1),
  (AN p.1.2.1.1),
  (AP p.1.2.1.1 (fun i => [.int .i64 ((p.1.2.1.2 i).1), .int .i64 ((p.1.2.1.2 i).2.1)])),
  (AN p.2.1.1),
  (AP p.2.1.1 (fun i => [.int .i64 (p.2.1.2 i)])),
  (AN 1),
  ((n : Nat) ≤ n),
  (AA n (fun i => [.p (.int .i64 (h i))])),
  (AN 1),
  ((a : Nat) ≤ a),
  (AA a (fun i => [.p (.int .i64 (r i))])),
  (AN 1),
  ((b : Nat) ≤ b),
  (AA b (fun i => [.p (.int .i64 (s i))]))]) := by kernel_rfl
theorem yFe (p : T_Pinned) (e k n a b : Nat) (h r s : Nat → Int) :
    pathOb Try.prog Try.f107 0 [.reg [oT], .dec false, .reg [oT, oT]] [.code (cAt (bodyOf Try.f107) [1, 1, 1, 1, 0, 1, 0, 0]), .inLoop (cAt (bodyOf Try.f107) [1, 1, 1, 1, 0, 1, 0, 0]), .inBlock 0, .code (cAt (bodyOf Try.f107) [1, 1, 1, 1, 1])] (SYf p e k n a b h r s) [1] 1 [(0, iOb n h)] (.ar 1 0 0 n) =
    some [((decide ((↑k : Int) < (↑b : Int))) = false),
  (AN 0),
  (AN n),
  (AN 1),
  ((n : Nat) ≤ n),
  (AA n (fun i => [.p (.int .i64 (h i))])),
  (AE n)] := by kernel_rfl
theorem yGz (p : T_Pinned) (e a b nb : Nat) (r s : Nat → Int) (g : Nat → T_Bar) :
    pieceOb Try.prog 0 [.reg [oT, oT], .reg [oT, oT], .reg [oT, ⟨true, (some ⟨[], [], [], 1, [], .p (.bool true)⟩), none⟩, oT, oT, oT, oT, oT, oT, oT, oT, oT, oT, oT, oT, oT], .dec false, .reg [oT, ⟨true, (some ⟨[], [], [], 1, [(0, iOb b s)], .ar 1 0 0 b⟩), none⟩, oT], .reg [oT, oT, ⟨true, (some ⟨[], [], [], 1, [(0, brOb nb g), (1, iOb p.2.1.1 p.2.1.2)], .agg [.p (.int .i64 p.1.1), .ar 2 0 0 nb, .ar 1 1 0 p.2.1.1]⟩), none⟩, ⟨true, (some ⟨[], [], [], 1, [(0, iOb a r)], .ar 1 0 0 a⟩), none⟩, oT], .reg [oT], .head] [.code (bodyOf Try.f99)] (start Try.f99 [] 0 [pinA p, .p (.int .i64 e)]) [0, 64, 800, 640] 1 (SYg p e 0 0 a b (fun _ => 0) r s) =
    some ([.code (cAt (bodyOf Try.f99) [1, 1, 1, 1, 1, 0, 1, 0, 0]), .inLoop (cAt (bodyOf Try.f99) [1, 1, 1, 1, 1, 0, 1, 0, 0]), .inBlock 0, .code (cAt (bodyOf Try.f99) [1, 1, 1, 1, 1, 1])], [((0 : Nat) < 1),
  Con Try.prog 46 0 [] [.agg [.p (.int .i64 p.1.1), .p (.seq true 2 p.1.2.1.1 (fun i => [.int .i64 ((p.1.2.1.2 i).1), .int .i64 ((p.1.2.1.2 i).2.1)])), .p (.seq true 1 p.2.1.1 (fun i => [.int .i64 (p.2.1.2 i)]))]] [] (.p (.bool true)),
  (AG (!!true)),
  (((!true) = false) → ((!!true) = true)),
  (AG (!bif !true then true else decide ((↑e : Int) < 0))),
  (AG (!bif !true then true else decide ((↑e : Int) < 0))),
  (((!bif !true then true else decide ((↑e : Int) < 0)) = true) → ((0 : Nat) < 1)),
  (AG (!bif !true then true else decide ((↑e : Int) < 0))),
  (AG (!bif !true then true else decide ((↑e : Int) < 0))),
  (AG (!bif !true then true else decide ((↑e : Int) < 0))),
  (((bif !true then true else decide ((↑e : Int) < 0)) = false) → ((!bif !true then true else decide ((↑e : Int) < 0)) = true)),
  ((bif bif !true then true else decide ((↑e : Int) < 0) then true else decide ((↑e : Int) ≥ (↑p.1.2.1.1 : Int))) = false),
  ((0 : Nat) < 1),
  Con Try.prog 49 0 [] [.agg [.p (.int .i64 p.1.1), .p (.seq true 2 p.1.2.1.1 (fun i => [.int .i64 ((p.1.2.1.2 i).1), .int .i64 ((p.1.2.1.2 i).2.1)])), .p (.seq true 1 p.2.1.1 (fun i => [.int .i64 (p.2.1.2 i)]))]] [(0, ⟨false, 1, b, (fun i => [.p (.int .i64 (s i))])⟩)] (.ar 1 0 0 b),
  ((0 : Nat) < 1),
  Con Try.prog 129 0 [] [.agg [.p (.int .i64 p.1.1), .p (.seq true 2 p.1.2.1.1 (fun i => [.int .i64 ((p.1.2.1.2 i).1), .int .i64 ((p.1.2.1.2 i).2.1)])), .p (.seq true 1 p.2.1.1 (fun i => [.int .i64 (p.2.1.2 i)]))], .p (.int .i64 (↑e : Int))] [(0, ⟨false, 2, nb, (fun i => [.p (.int .i64 ((g i).1)), .p (.int .i64 ((g i).2.1))])⟩), (1, ⟨false, 1, p.2.1.1, (fun i => [.p (.int .i64 (p.2.1.2 i))])⟩)] (.agg [.p (.int .i64 p.1.1), .ar 2 0 0 nb, .ar 1 1 0 p.2.1.1]),
  (AN 2),
  ((nb : Nat) ≤ nb),
  (AN 1),
  ((p.2.1.1 : Nat) ≤ p.2.1.1),
  Con Try.prog 49 0 [] [.agg [.p (.int .i64 p.1.1), .p (.seq true 2 nb (fun i => [.int .i64 ((g i).1), .int .i64 ((g i).2.1)])), .p (.seq true 1 p.2.1.1 (fun i => [.int .i64 (p.2.1.2 i)]))]] [(0, ⟨false, 1, a, (fun i => [.p (.int .i64 (r i))])⟩)] (.ar 1 0 0 a),
  (AI p.1.1),
  (AN p.1.2.1.1),
  (AP p.1.2.1.1 (fun i => [.int .i64 ((p.1.2.1.2 i).1), .int .i64 ((p.1.2.1.2 i).2.1)])),
  (AN p.2.1.1),
  (AP p.2.1.1 (fun i => [.int .i64 (p.2.1.2 i)])),
  (AI ((↑e : Int))),
  (AN 0),
  (AN 0),
  (AN 0),
  (AN 0),
  (AN b),
  (AN 0),
  (AN a),
  ((0 : Int) = (↑0 : Int)),
  ((([AV.p (PV.int IntKind.i64 p.1.1), graphL p.1.2.1, inL p.2.1].length) : Nat) = 3),
  ((1 : Nat) ≤ 1),
  ((1 : Nat) ≤ 1),
  (AI p.1.1),
  (AN p.1.2.1.1),
  (AP p.1.2.1.1 (fun i => [.int .i64 ((p.1.2.1.2 i).1), .int .i64 ((p.1.2.1.2 i).2.1)])),
  (AN p.2.1.1),
  (AP p.2.1.1 (fun i => [.int .i64 (p.2.1.2 i)])),
  (AN 1),
  ((0 : Nat) ≤ 0),
  (∀ i : Nat, (((i : Nat) < 0) → (All [] ∧ (([.p .any] : List AV) = [.p (.int .i64 0)])))),
  (AN 1),
  ((a : Nat) ≤ a),
  (AA a (fun i => [.p (.int .i64 (r i))])),
  (AN 1),
  ((b : Nat) ≤ b),
  (AA b (fun i => [.p (.int .i64 (s i))]))]) := by kernel_rfl
theorem yGa (p : T_Pinned) (e k n a b : Nat) (h r s : Nat → Int) :
    pieceOb Try.prog 0 [.reg [oT, oT, oT, oT], .dec true, .reg [oT, oT, oT, oT, oT, ⟨true, (some ⟨[], [], [], 1, [], .p (.bool false)⟩), none⟩, oT], .dec true, .reg [oT, oT, oT, oT, oT, oT, oT, oT], .reg [oT, oT, oT], .head] [.code (cAt (bodyOf Try.f99) [1, 1, 1, 1, 1, 0, 1, 0, 0]), .inLoop (cAt (bodyOf Try.f99) [1, 1, 1, 1, 1, 0, 1, 0, 0]), .inBlock 0, .code (cAt (bodyOf Try.f99) [1, 1, 1, 1, 1, 1])] (SYg p e k n a b h r s) [0, 548, 2, 3] 1 (SYg p e (k + 1) (n + 1) a b (snI n h (s k)) r s) =
    some ([.code (cAt (bodyOf Try.f99) [1, 1, 1, 1, 1, 0, 1, 0, 0]), .inLoop (cAt (bodyOf Try.f99) [1, 1, 1, 1, 1, 0, 1, 0, 0]), .inBlock 0, .code (cAt (bodyOf Try.f99) [1, 1, 1, 1, 1, 1])], [((decide ((↑k : Int) < (↑b : Int))) = true),
  ((0 : Int) ≤ (↑k : Int)),
  (((↑k : Int) : Int) < (↑b : Int)),
  ((k : Nat) < b),
  (AN 1),
  ((a : Nat) ≤ a),
  Con Try.prog 93 0 [] [.p (.seq true 1 a (fun i => [.int .i64 (r i)])), .p (.int .i64 (s k))] [] (.p (.bool false)),
  ((!false) = true),
  ((0 : Int) ≤ (↑k : Int)),
  (((↑k : Int) : Int) < (↑b : Int)),
  ((k : Nat) < b),
  ((1 : Nat) ≤ 1),
  ((n : Nat) ≤ n),
  ((((n + 1) * 8) : Nat) ≤ 140737488355328),
  (((n + 1) : Nat) ≤ 9223372036854775807),
  (((-9223372036854775808) : Int) ≤ ((↑k : Int) + 1)),
  ((((↑k : Int) + 1) : Int) ≤ 9223372036854775807),
  (AI p.1.1),
  (AN p.1.2.1.1),
  (AP p.1.2.1.1 (fun i => [.int .i64 ((p.1.2.1.2 i).1), .int .i64 ((p.1.2.1.2 i).2.1)])),
  (AN p.2.1.1),
  (AP p.2.1.1 (fun i => [.int .i64 (p.2.1.2 i)])),
  (AI ((↑e : Int))),
  (AN 0),
  (AN 0),
  (AN ((n + 1))),
  (AN 0),
  (AN b),
  (AN 0),
  (AN a),
  ((((↑k : Int) + 1) : Int) = (↑(k + 1) : Int)),
  (AN 3),
  ((1 : Nat) ≤ 1),
  ((1 : Nat) ≤ 1),
  (AI p.1.1),
  (AN p.1.2.1.1),
  (AP p.1.2.1.1 (fun i => [.int .i64 ((p.1.2.1.2 i).1), .int .i64 ((p.1.2.1.2 i).2.1)])),
  (AN p.2.1.1),
  (AP p.2.1.1 (fun i => [.int .i64 (p.2.1.2 i)])),
  (AN 1),
  (((n + 1) : Nat) ≤ (n + 1)),
  (∀ i : Nat, (((i : Nat) < (n + 1)) → (All (cvtL false [(548, ⟨false, 1, (n + 1), (fun i_1 => (if (i_1 < n) then [.p (.int .i64 (h i_1))] else [.p (.int .i64 (s k))]))⟩), (516, ⟨false, 1, 1, (fun i_1 => [.p (.int .i64 (s k))])⟩), (0, ⟨true, 3, 1, (fun i_1 => [.p (.int .i64 p.1.1), .p (.seq true 2 p.1.2.1.1 (fun i_2 => [.int .i64 ((p.1.2.1.2 i_2).1), .int .i64 ((p.1.2.1.2 i_2).2.1)])), .p (.seq true 1 p.2.1.1 (fun i_2 => [.int .i64 (p.2.1.2 i_2)]))])⟩), (2, ⟨false, 1, a, (fun i_1 => [.p (.int .i64 (r i_1))])⟩), (3, ⟨false, 1, b, (fun i_1 => [.p (.int .i64 (s i_1))])⟩)] [0, 548, 2, 3] 1 (if (i < n) then [.p (.int .i64 (h i))] else [.p (.int .i64 (s k))])).2 ∧ (((cvtL false [(548, ⟨false, 1, (n + 1), (fun i_1 => (if (i_1 < n) then [.p (.int .i64 (h i_1))] else [.p (.int .i64 (s k))]))⟩), (516, ⟨false, 1, 1, (fun i_1 => [.p (.int .i64 (s k))])⟩), (0, ⟨true, 3, 1, (fun i_1 => [.p (.int .i64 p.1.1), .p (.seq true 2 p.1.2.1.1 (fun i_2 => [.int .i64 ((p.1.2.1.2 i_2).1), .int .i64 ((p.1.2.1.2 i_2).2.1)])), .p (.seq true 1 p.2.1.1 (fun i_2 => [.int .i64 (p.2.1.2 i_2)]))])⟩), (2, ⟨false, 1, a, (fun i_1 => [.p (.int .i64 (r i_1))])⟩), (3, ⟨false, 1, b, (fun i_1 => [.p (.int .i64 (s i_1))])⟩)] [0, 548, 2, 3] 1 (if (i < n) then [.p (.int .i64 (h i))] else [.p (.int .i64 (s k))])).1 : List AV) = [.p (.int .i64 (snI n h (s k) i))])))),
  (AN 1),
  ((a : Nat) ≤ a),
  (AA a (fun i => [.p (.int .i64 (r i))])),
  (AN 1),
  ((b : Nat) ≤ b),
  (AA b (fun i => [.p (.int .i64 (s i))]))]) := by kernel_rfl
theorem yGb (p : T_Pinned) (e k n a b : Nat) (h r s : Nat → Int) :
    pieceOb Try.prog 0 [.reg [oT, oT, oT, oT], .dec true, .reg [oT, oT, oT, oT, oT, ⟨true, (some ⟨[], [], [], 1, [], .p (.bool true)⟩), none⟩, oT], .dec false, .reg [oT, oT, oT], .head] [.code (cAt (bodyOf Try.f99) [1, 1, 1, 1, 1, 0, 1, 0, 0]), .inLoop (cAt (bodyOf Try.f99) [1, 1, 1, 1, 1, 0, 1, 0, 0]), .inBlock 0, .code (cAt (bodyOf Try.f99) [1, 1, 1, 1, 1, 1])] (SYg p e k n a b h r s) [0, 1, 2, 3] 1 (SYg p e (k + 1) n a b h r s) =
    some ([.code (cAt (bodyOf Try.f99) [1, 1, 1, 1, 1, 0, 1, 0, 0]), .inLoop (cAt (bodyOf Try.f99) [1, 1, 1, 1, 1, 0, 1, 0, 0]), .inBlock 0, .code (cAt (bodyOf Try.f99) [1, 1, 1, 1, 1, 1])], [((decide ((↑k : Int) < (↑b : Int))) = true),
  ((0 : Int) ≤ (↑k : Int)),
  (((↑k : Int) : Int) < (↑b : Int)),
  ((k : Nat) < b),
  (AN 1),
  ((a : Nat) ≤ a),
  Con Try.prog 93 0 [] [.p (.seq true 1 a (fun i => [.int .i64 (r i)])), .p (.int .i64 (s k))] [] (.p (.bool true)),
  ((!true) = false),
  (((-9223372036854775808) : Int) ≤ ((↑k : Int) + 1)),
  ((((↑k : Int) + 1) : Int) ≤ 9223372036854775807),
  (AI p.1.1),
  (AN p.1.2.1.1),
  (AP p.1.2.1.1 (fun i => [.int .i64 ((p.1.2.1.2 i).1), .int .i64 ((p.1.2.1.2 i).2.1)])),
  (AN p.2.1.1),
  (AP p.2.1.1 (fun i => [.int .i64 (p.2.1.2 i)])),
  (AI ((↑e : Int))),
  (AN 0),
  (AN 0),
  (AN n),
  (AN 0),
  (AN b),
  (AN 0),
  (AN a),
  ((((↑k : Int) + 1) : Int) = (↑(k + 1) : Int)),
  (AN 3),
  ((1 : Nat) ≤ 1),
  ((1 : Nat) ≤ 1),
  (AI p.1.1),
  (AN p.1.2.1.1),
  (AP p.1.2.1.1 (fun i => [.int .i64 ((p.1.2.1.2 i).1), .int .i64 ((p.1.2.1.2 i).2.1)])),
  (AN p.2.1.1),
  (AP p.2.1.1 (fun i => [.int .i64 (p.2.1.2 i)])),
  (AN 1),
  ((n : Nat) ≤ n),
  (AA n (fun i => [.p (.int .i64 (h i))])),
  (AN 1),
  ((a : Nat) ≤ a),
  (AA a (fun i => [.p (.int .i64 (r i))])),
  (AN 1),
  ((b : Nat) ≤ b),
  (AA b (fun i => [.p (.int .i64 (s i))]))]) := by kernel_rfl
theorem yGe (p : T_Pinned) (e k n a b : Nat) (h r s : Nat → Int) :
    pathOb Try.prog Try.f99 0 [.reg [oT, oT, oT, oT], .dec false, .reg [oT, oT]] [.code (cAt (bodyOf Try.f99) [1, 1, 1, 1, 1, 0, 1, 0, 0]), .inLoop (cAt (bodyOf Try.f99) [1, 1, 1, 1, 1, 0, 1, 0, 0]), .inBlock 0, .code (cAt (bodyOf Try.f99) [1, 1, 1, 1, 1, 1])] (SYg p e k n a b h r s) [1] 1 [(0, iOb n h)] (.ar 1 0 0 n) =
    some [((decide ((↑k : Int) < (↑b : Int))) = false),
  (AN 0),
  (AN n),
  (AN 1),
  ((n : Nat) ≤ n),
  (AA n (fun i => [.p (.int .i64 (h i))])),
  (AE n)] := by kernel_rfl
theorem yWz (p : T_Pinned) :
    pieceOb Try.prog 0 [.reg [oT, oT, oT], .reg [oT, oT], .reg [oT, oT, oT, oT, oT], .head] [.code (bodyOf Try.f56)] (start Try.f56 [] 0 [pinA p]) [0] 1 (SYw p 0 (-1) 0) =
    some ([.code (cAt (bodyOf Try.f56) [1, 1, 0, 1, 0, 0]), .inLoop (cAt (bodyOf Try.f56) [1, 1, 0, 1, 0, 0]), .inBlock 0, .code (cAt (bodyOf Try.f56) [1, 1, 1])], [((0 : Nat) < 1),
  (AI p.1.1),
  (AN p.1.2.1.1),
  (AP p.1.2.1.1 (fun i => [.int .i64 ((p.1.2.1.2 i).1), .int .i64 ((p.1.2.1.2 i).2.1)])),
  (AN p.2.1.1),
  (AP p.2.1.1 (fun i => [.int .i64 (p.2.1.2 i)])),
  (AN 0),
  (AI ((-1))),
  (AI 0),
  (AI ((↑p.1.2.1.1 : Int))),
  ((0 : Int) = (↑0 : Int)),
  ((([AV.p (PV.int IntKind.i64 p.1.1), graphL p.1.2.1, inL p.2.1].length) : Nat) = 3),
  ((1 : Nat) ≤ 1),
  ((1 : Nat) ≤ 1),
  (AI p.1.1),
  (AN p.1.2.1.1),
  (AP p.1.2.1.1 (fun i => [.int .i64 ((p.1.2.1.2 i).1), .int .i64 ((p.1.2.1.2 i).2.1)])),
  (AN p.2.1.1),
  (AP p.2.1.1 (fun i => [.int .i64 (p.2.1.2 i)]))]) := by kernel_rfl
theorem yWa (p : T_Pinned) (k n : Nat) (w m : Int) (h : Nat → Int) :
    pieceOb Try.prog 0 [.reg [oT], .dec true, .reg [oT, oT], .reg [oT, oT, ⟨true, (some ⟨[], [], [], 1, [(0, iOb n h)], .ar 1 0 0 n⟩), none⟩, oT, oT], .reg [oT, oT, oT], .dec true, .reg [oT, oT, oT, oT], .reg [oT, oT], .head] [.code (cAt (bodyOf Try.f56) [1, 1, 0, 1, 0, 0]), .inLoop (cAt (bodyOf Try.f56) [1, 1, 0, 1, 0, 0]), .inBlock 0, .code (cAt (bodyOf Try.f56) [1, 1, 1])] (SYw p k w m) [0] 1 (SYw p (k + 1) k n) =
    some ([.code (cAt (bodyOf Try.f56) [1, 1, 0, 1, 0, 0]), .inLoop (cAt (bodyOf Try.f56) [1, 1, 0, 1, 0, 0]), .inBlock 0, .code (cAt (bodyOf Try.f56) [1, 1, 1])], [((decide ((↑k : Int) < (↑p.1.2.1.1 : Int))) = true),
  ((0 : Nat) < 1),
  Con Try.prog 107 0 [] [.agg [.p (.int .i64 p.1.1), .p (.seq true 2 p.1.2.1.1 (fun i => [.int .i64 ((p.1.2.1.2 i).1), .int .i64 ((p.1.2.1.2 i).2.1)])), .p (.seq true 1 p.2.1.1 (fun i => [.int .i64 (p.2.1.2 i)]))], .p (.int .i64 (↑k : Int))] [(0, ⟨false, 1, n, (fun i => [.p (.int .i64 (h i))])⟩)] (.ar 1 0 0 n),
  ((decide ((↑n : Int) > m)) = true),
  (((-9223372036854775808) : Int) ≤ ((↑k : Int) + 1)),
  ((((↑k : Int) + 1) : Int) ≤ 9223372036854775807),
  (AI p.1.1),
  (AN p.1.2.1.1),
  (AP p.1.2.1.1 (fun i => [.int .i64 ((p.1.2.1.2 i).1), .int .i64 ((p.1.2.1.2 i).2.1)])),
  (AN p.2.1.1),
  (AP p.2.1.1 (fun i => [.int .i64 (p.2.1.2 i)])),
  (AN 0),
  (AI ((↑k : Int))),
  (AI ((↑n : Int))),
  (AI ((↑p.1.2.1.1 : Int))),
  ((((↑k : Int) + 1) : Int) = (↑(k + 1) : Int)),
  (AN 3),
  ((1 : Nat) ≤ 1),
  ((1 : Nat) ≤ 1),
  (AI p.1.1),
  (AN p.1.2.1.1),
  (AP p.1.2.1.1 (fun i => [.int .i64 ((p.1.2.1.2 i).1), .int .i64 ((p.1.2.1.2 i).2.1)])),
  (AN p.2.1.1),
  (AP p.2.1.1 (fun i => [.int .i64 (p.2.1.2 i)]))]) := by kernel_rfl
theorem yWb (p : T_Pinned) (k n : Nat) (w m : Int) (h : Nat → Int) :
    pieceOb Try.prog 0 [.reg [oT], .dec true, .reg [oT, oT], .reg [oT, oT, ⟨true, (some ⟨[], [], [], 1, [(0, iOb n h)], .ar 1 0 0 n⟩), none⟩, oT, oT], .reg [oT, oT, oT], .dec false, .reg [oT, oT], .head] [.code (cAt (bodyOf Try.f56) [1, 1, 0, 1, 0, 0]), .inLoop (cAt (bodyOf Try.f56) [1, 1, 0, 1, 0, 0]), .inBlock 0, .code (cAt (bodyOf Try.f56) [1, 1, 1])] (SYw p k w m) [0] 1 (SYw p (k + 1) w m) =
    some ([.code (cAt (bodyOf Try.f56) [1, 1, 0, 1, 0, 0]), .inLoop (cAt (bodyOf Try.f56) [1, 1, 0, 1, 0, 0]), .inBlock 0, .code (cAt (bodyOf Try.f56) [1, 1, 1])], [((decide ((↑k : Int) < (↑p.1.2.1.1 : Int))) = true),
  ((0 : Nat) < 1),
  Con Try.prog 107 0 [] [.agg [.p (.int .i64 p.1.1), .p (.seq true 2 p.1.2.1.1 (fun i => [.int .i64 ((p.1.2.1.2 i).1), .int .i64 ((p.1.2.1.2 i).2.1)])), .p (.seq true 1 p.2.1.1 (fun i => [.int .i64 (p.2.1.2 i)]))], .p (.int .i64 (↑k : Int))] [(0, ⟨false, 1, n, (fun i => [.p (.int .i64 (h i))])⟩)] (.ar 1 0 0 n),
  ((decide ((↑n : Int) > m)) = false),
  (((-9223372036854775808) : Int) ≤ ((↑k : Int) + 1)),
  ((((↑k : Int) + 1) : Int) ≤ 9223372036854775807),
  (AI p.1.1),
  (AN p.1.2.1.1),
  (AP p.1.2.1.1 (fun i => [.int .i64 ((p.1.2.1.2 i).1), .int .i64 ((p.1.2.1.2 i).2.1)])),
  (AN p.2.1.1),
  (AP p.2.1.1 (fun i => [.int .i64 (p.2.1.2 i)])),
  (AN 0),
  (AI w),
  (AI m),
  (AI ((↑p.1.2.1.1 : Int))),
  ((((↑k : Int) + 1) : Int) = (↑(k + 1) : Int)),
  (AN 3),
  ((1 : Nat) ≤ 1),
  ((1 : Nat) ≤ 1),
  (AI p.1.1),
  (AN p.1.2.1.1),
  (AP p.1.2.1.1 (fun i => [.int .i64 ((p.1.2.1.2 i).1), .int .i64 ((p.1.2.1.2 i).2.1)])),
  (AN p.2.1.1),
  (AP p.2.1.1 (fun i => [.int .i64 (p.2.1.2 i)]))]) := by kernel_rfl
theorem yWe (p : T_Pinned) (k : Nat) (w m : Int) :
    pathOb Try.prog Try.f56 0 [.reg [oT], .dec false, .reg [oT, oT, oT, oT]] [.code (cAt (bodyOf Try.f56) [1, 1, 0, 1, 0, 0]), .inLoop (cAt (bodyOf Try.f56) [1, 1, 0, 1, 0, 0]), .inBlock 0, .code (cAt (bodyOf Try.f56) [1, 1, 1])] (SYw p k w m) [] 1 [] (.tup [.p (.int .i64 w), .p (.int .i64 m)]) =
    some [((decide ((↑k : Int) < (↑p.1.2.1.1 : Int))) = false),
  (AI w),
  (AI m)] := by kernel_rfl
theorem yVz (p : T_Pinned) :
    pieceOb Try.prog 0 [.reg [oT, oT, oT], .reg [oT], .reg [oT], .reg [oT], .head] [.code (bodyOf Try.f50)] (start Try.f50 [] 0 [pinA p]) [0] 1 (SYv p 0 (-1) 0) =
    some ([.code (cAt (bodyOf Try.f50) [1, 1, 1, 0, 1, 0, 0]), .inLoop (cAt (bodyOf Try.f50) [1, 1, 1, 0, 1, 0, 0]), .inBlock 0, .code (cAt (bodyOf Try.f50) [1, 1, 1, 1])], [(AI p.1.1),
  (AN p.1.2.1.1),
  (AP p.1.2.1.1 (fun i => [.int .i64 ((p.1.2.1.2 i).1), .int .i64 ((p.1.2.1.2 i).2.1)])),
  (AN p.2.1.1),
  (AP p.2.1.1 (fun i => [.int .i64 (p.2.1.2 i)])),
  (AN 0),
  (AI ((-1))),
  (AI 0),
  ((0 : Int) = (↑0 : Int)),
  ((([AV.p (PV.int IntKind.i64 p.1.1), graphL p.1.2.1, inL p.2.1].length) : Nat) = 3),
  ((1 : Nat) ≤ 1),
  ((1 : Nat) ≤ 1),
  (AI p.1.1),
  (AN p.1.2.1.1),
  (AP p.1.2.1.1 (fun i => [.int .i64 ((p.1.2.1.2 i).1), .int .i64 ((p.1.2.1.2 i).2.1)])),
  (AN p.2.1.1),
  (AP p.2.1.1 (fun i => [.int .i64 (p.2.1.2 i)]))]) := by kernel_rfl
theorem yVa (p : T_Pinned) (k n : Nat) (w m : Int) (h : Nat → Int) :
    pieceOb Try.prog 0 [.reg [oT, oT, oT, oT, oT, oT], .dec true, .reg [oT, oT, ⟨true, (some ⟨[], [], [], 1, [(0, iOb n h)], .ar 1 0 0 n⟩), none⟩, oT, oT], .reg [oT, oT, oT], .dec true, .reg [oT, oT], .reg [oT, oT], .reg [oT, oT, oT], .head] [.code (cAt (bodyOf Try.f50) [1, 1, 1, 0, 1, 0, 0]), .inLoop (cAt (bodyOf Try.f50) [1, 1, 1, 0, 1, 0, 0]), .inBlock 0, .code (cAt (bodyOf Try.f50) [1, 1, 1, 1])] (SYv p k w m) [0] 1 (SYv p (k + 1) k n) =
    some ([.code (cAt (bodyOf Try.f50) [1, 1, 1, 0, 1, 0, 0]), .inLoop (cAt (bodyOf Try.f50) [1, 1, 1, 0, 1, 0, 0]), .inBlock 0, .code (cAt (bodyOf Try.f50) [1, 1, 1, 1])], [((0 : Nat) < 1),
  ((decide ((↑k : Int) < (↑p.1.2.1.1 : Int))) = true),
  ((0 : Nat) < 1),
  Con Try.prog 99 0 [] [.agg [.p (.int .i64 p.1.1), .p (.seq true 2 p.1.2.1.1 (fun i => [.int .i64 ((p.1.2.1.2 i).1), .int .i64 ((p.1.2.1.2 i).2.1)])), .p (.seq true 1 p.2.1.1 (fun i => [.int .i64 (p.2.1.2 i)]))], .p (.int .i64 (↑k : Int))] [(0, ⟨false, 1, n, (fun i => [.p (.int .i64 (h i))])⟩)] (.ar 1 0 0 n),
  ((decide ((↑n : Int) > m)) = true),
  (((-9223372036854775808) : Int) ≤ ((↑k : Int) + 1)),
  ((((↑k : Int) + 1) : Int) ≤ 9223372036854775807),
  (AI p.1.1),
  (AN p.1.2.1.1),
  (AP p.1.2.1.1 (fun i => [.int .i64 ((p.1.2.1.2 i).1), .int .i64 ((p.1.2.1.2 i).2.1)])),
  (AN p.2.1.1),
  (AP p.2.1.1 (fun i => [.int .i64 (p.2.1.2 i)])),
  (AN 0),
  (AI ((↑k : Int))),
  (AI ((↑n : Int))),
  ((((↑k : Int) + 1) : Int) = (↑(k + 1) : Int)),
  (AN 3),
  ((1 : Nat) ≤ 1),
  ((1 : Nat) ≤ 1),
  (AI p.1.1),
  (AN p.1.2.1.1),
  (AP p.1.2.1.1 (fun i => [.int .i64 ((p.1.2.1.2 i).1), .int .i64 ((p.1.2.1.2 i).2.1)])),
  (AN p.2.1.1),
  (AP p.2.1.1 (fun i => [.int .i64 (p.2.1.2 i)]))]) := by kernel_rfl
theorem yVb (p : T_Pinned) (k n : Nat) (w m : Int) (h : Nat → Int) :
    pieceOb Try.prog 0 [.reg [oT, oT, oT, oT, oT, oT], .dec true, .reg [oT, oT, ⟨true, (some ⟨[], [], [], 1, [(0, iOb n h)], .ar 1 0 0 n⟩), none⟩, oT, oT], .reg [oT, oT, oT], .dec false, .reg [oT, oT, oT], .head] [.code (cAt (bodyOf Try.f50) [1, 1, 1, 0, 1, 0, 0]), .inLoop (cAt (bodyOf Try.f50) [1, 1, 1, 0, 1, 0, 0]), .inBlock 0, .code (cAt (bodyOf Try.f50) [1, 1, 1, 1])] (SYv p k w m) [0] 1 (SYv p (k + 1) w m) =
    some ([.code (cAt (bodyOf Try.f50) [1, 1, 1, 0, 1, 0, 0]), .inLoop (cAt (bodyOf Try.f50) [1, 1, 1, 0, 1, 0, 0]), .inBlock 0, .code (cAt (bodyOf Try.f50) [1, 1, 1, 1])], [((0 : Nat) < 1),
  ((decide ((↑k : Int) < (↑p.1.2.1.1 : Int))) = true),
  ((0 : Nat) < 1),
  Con Try.prog 99 0 [] [.agg [.p (.int .i64 p.1.1), .p (.seq true 2 p.1.2.1.1 (fun i => [.int .i64 ((p.1.2.1.2 i).1), .int .i64 ((p.1.2.1.2 i).2.1)])), .p (.seq true 1 p.2.1.1 (fun i => [.int .i64 (p.2.1.2 i)]))], .p (.int .i64 (↑k : Int))] [(0, ⟨false, 1, n, (fun i => [.p (.int .i64 (h i))])⟩)] (.ar 1 0 0 n),
  ((decide ((↑n : Int) > m)) = false),
  (((-9223372036854775808) : Int) ≤ ((↑k : Int) + 1)),
  ((((↑k : Int) + 1) : Int) ≤ 9223372036854775807),
  (AI p.1.1),
  (AN p.1.2.1.1),
  (AP p.1.2.1.1 (fun i => [.int .i64 ((p.1.2.1.2 i).1), .int .i64 ((p.1.2.1.2 i).2.1)])),
  (AN p.2.1.1),
  (AP p.2.1.1 (fun i => [.int .i64 (p.2.1.2 i)])),
  (AN 0),
  (AI w),
  (AI m),
  ((((↑k : Int) + 1) : Int) = (↑(k + 1) : Int)),
  (AN 3),
  ((1 : Nat) ≤ 1),
  ((1 : Nat) ≤ 1),
  (AI p.1.1),
  (AN p.1.2.1.1),
  (AP p.1.2.1.1 (fun i => [.int .i64 ((p.1.2.1.2 i).1), .int .i64 ((p.1.2.1.2 i).2.1)])),
  (AN p.2.1.1),
  (AP p.2.1.1 (fun i => [.int .i64 (p.2.1.2 i)]))]) := by kernel_rfl
theorem yVe (p : T_Pinned) (k : Nat) (w m : Int) :
    pathOb Try.prog Try.f50 0 [.reg [oT, oT, oT, oT, oT, oT], .dec false, .reg [oT, oT, oT, oT]] [.code (cAt (bodyOf Try.f50) [1, 1, 1, 0, 1, 0, 0]), .inLoop (cAt (bodyOf Try.f50) [1, 1, 1, 0, 1, 0, 0]), .inBlock 0, .code (cAt (bodyOf Try.f50) [1, 1, 1, 1])] (SYv p k w m) [] 1 [] (.tup [.p (.int .i64 w), .p (.int .i64 m)]) =
    some [((0 : Nat) < 1),
  ((decide ((↑k : Int) < (↑p.1.2.1.1 : Int))) = false),
  (AI w),
  (AI m)] := by kernel_rfl
end Go.Proofs.Ytgdbnnmogddkaaa.Mach
namespace Go.Proofs.Ytgdbnnmogddkaaa.Mach
open Go Go.Sort
set_option linter.unusedVariables false
set_option linter.unusedSimpArgs false
theorem imp_symm {N : Nat} {I : List (Nat × Nat)} {a b : Nat} (h : Mat.Imp N I a b) : Mat.Imp N I b a := by
  obtain ⟨R, t, h1, h2⟩ := h
  exact ⟨R, t, h2, h1⟩
theorem rk_swap {N : Nat} {L : List (Nat × Nat)} (hL : ∀ x ∈ L, Mat.GoodBar N x) {a b : Nat} (h1 : a ≠ b) (h2 : a < N) (h3 : b < N) : Mat.rk N (L ++ [(a, b)]) = Mat.rk N L ↔ Mat.rk N (L ++ [(b, a)]) = Mat.rk N L := by
  rw [Mat.rk_same_iff hL ⟨h1, h2, h3⟩, Mat.rk_same_iff hL ⟨Ne.symm h1, h3, h2⟩]
  exact ⟨imp_symm, imp_symm⟩
theorem bL_congr {g g' : Nat → T_Bar} : ∀ n, (∀ i, i < n → g i = g' i) → bL g n = bL g' n
  | 0, _ => rfl
  | n + 1, h => by rw [bL, bL, bL_congr n (fun i hi => h i (by omega)), h n (by omega)]
theorem bL_snoc (g : Nat → T_Bar) (nb : Nat) (x : T_Bar) : bL (snoc nb g x) (nb + 1) = bL g nb ++ [brN x] := by
  rw [bL, bL_congr (g := snoc nb g x) (g' := g) nb (fun i hi => snoc_lt hi), snoc_ge (Nat.lt_irrefl _)]
theorem rk_brX {N : Nat} {L : List (Nat × Nat)} (hL : ∀ x ∈ L, Mat.GoodBar N x) {a b : Int} (hab : a ≠ b) (ha : 0 ≤ a ∧ a < N) (hb : 0 ≤ b ∧ b < N) : Mat.rk N (L ++ [brN (brX a b)]) = Mat.rk N L ↔ Mat.rk N (L ++ [(a.toNat, b.toNat)]) = Mat.rk N L := by
  by_cases h : b < a
  · have e : brN (brX a b) = (b.toNat, a.toNat) := by
      simp only [brN, brX]
      rw [if_pos h, if_neg (by omega)]
    rw [e]
    exact rk_swap hL (by omega) (by omega) (by omega)
  · have e : brN (brX a b) = (a.toNat, b.toNat) := by
      simp only [brN, brX]
      rw [if_neg h, if_pos (by omega)]
    rw [e]
theorem impB_iff {N nb : Nat} {g : Nat → T_Bar} (hok : OkBars N nb g) {a b : Int} (ha : 0 ≤ a ∧ a < N) (hb : 0 ≤ b ∧ b < N) :
    impB N nb g a b = true ↔ a = b ∨ Mat.rk N (bL g nb ++ [(a.toNat, b.toNat)]) = Mat.rk N (bL g nb) := by
  unfold impB
  by_cases h : a = b
  · simp [h]
  · have h' : (a == b) = false := beq_eq_false_iff_ne.2 h
    rw [h', cond_false, acc_len, acc_len, bL_snoc]
    have := rk_brX (bL_good hok) h ha hb
    unfold Mat.rk at this ⊢
    rw [← this]
    simp [h, Int.ofNat_inj]
noncomputable def stB (p : T_Pinned) (v : Nat) : Bool := bif impB p.1.1.toNat (alS p).1 (alS p).2 (p.2.1.2 0) v then impB p.1.1.toNat (alS p).1 (alS p).2 (p.2.1.2 1) v else false
noncomputable def rsB (p : T_Pinned) (x : T_Bar) : Bool := decide (((accI p.1.1.toNat 2 3 (snoc (alC p).1 (alC p).2 x) ((alC p).1 + 1)).length : Int) > ((accI p.1.1.toNat 2 3 (alC p).2 (alC p).1).length : Int))
noncomputable def stI (p : T_Pinned) (v : Nat) : Nat → Bool
  | 0 => true
  | j + 1 => bif stI p v j then (bif p.2.1.2 j == (v : Int) then true else !(rsB p (brX (p.2.1.2 j) v))) else false
theorem PinOk.raise {p : T_Pinned} (h : PinOk p) {u : Int} {v : Nat} (hu : 0 ≤ u ∧ u < p.1.1) (hv : (v : Int) < p.1.1) (hne : u ≠ v) :
    rsB p (brX u v) = false ↔ Mat.rk p.1.1.toNat (bL (alS p).2 (alS p).1 ++ [(u.toNat, v)]) = Mat.rk p.1.1.toNat (bL (alS p).2 (alS p).1) := by
  have hN := h.N
  have hx := brX_ok (N := p.1.1.toNat) (a := u) (b := v) (by omega) (by omega) hne
  have e1 : rkN p.1.1.toNat ((alC p).1 + 1, snoc (alC p).1 (alC p).2 (brX u v)) = rkN p.1.1.toNat ((alS p).1 + 1, snoc (alS p).1 (alS p).2 (brX u v)) := by
    refine h.same (ok_snoc h.okAS hx) (ok_snoc h.okAC hx) (fun y hy => ?_) (fun y hy => ?_) (fun y hy => ?_)
    · show ∃ s, s < (alS p).1 + 1 ∧ snoc (alS p).1 (alS p).2 (brX u v) s = y
      rw [snoc_mem]
      refine .inl ?_
      show mem (alS p) y
      rw [alS, aS_mem]; exact .inl hy
    · show ∃ s, s < (alC p).1 + 1 ∧ snoc (alC p).1 (alC p).2 (brX u v) s = y
      have hy' : ∃ s, s < (alS p).1 + 1 ∧ snoc (alS p).1 (alS p).2 (brX u v) s = y := hy
      rw [snoc_mem] at hy' ⊢
      rcases hy' with hy' | hy'
      · left
        have hm : mem (alS p) y := hy'
        show mem (alC p) y
        rw [alS, aS_mem] at hm
        rw [alC, aC_mem]
        exact hm.imp (h.few y) id
      · exact .inr hy'
    · have hy' : ∃ s, s < (alC p).1 + 1 ∧ snoc (alC p).1 (alC p).2 (brX u v) s = y := hy
      show (∃ s, s < (alS p).1 + 1 ∧ snoc (alS p).1 (alS p).2 (brX u v) s = y) ∨ _
      rw [snoc_mem] at hy' ⊢
      rcases hy' with hy' | hy'
      · have hm : mem (alC p) y := hy'
        rw [alC, aC_mem] at hm
        rcases hm with hm | hm
        · exact .inr hm
        · refine .inl (.inl ?_)
          show mem (alS p) y
          rw [alS, aS_mem]; exact .inr hm
      · exact .inl (.inr hy')
  have e2 := h.rkA
  have e3 := rk_brX (bL_good h.okAS) hne (show 0 ≤ u ∧ u < (p.1.1.toNat : Nat) by omega) (show (0 : Int) ≤ v ∧ (v : Int) < (p.1.1.toNat : Nat) by omega)
  rw [Int.toNat_natCast] at e3
  rw [← e3]
  have e4 := rkN_rk p.1.1.toNat (alS p)
  have e5 : rkN p.1.1.toNat ((alS p).1 + 1, snoc (alS p).1 (alS p).2 (brX u v)) = Mat.rk p.1.1.toNat (bL (alS p).2 (alS p).1 ++ [brN (brX u v)]) := by
    rw [rkN_rk]; show Mat.rk _ (bL (snoc _ _ _) _) = _; rw [bL_snoc]
  have e6 := Mat.rk_le_succ (N := p.1.1.toNat) (L := bL (alS p).2 (alS p).1) (brN (brX u v))
  have e7 : rsB p (brX u v) = decide ((rkN p.1.1.toNat ((alC p).1 + 1, snoc (alC p).1 (alC p).2 (brX u v)) : Int) > (rkN p.1.1.toNat (alC p) : Int)) := rfl
  rw [e7, e1, e2, e4, e5, decide_eq_false_iff_not]
  omega
theorem PinOk.steady {p : T_Pinned} (h : PinOk p) {v : Nat} (hv : (v : Int) < p.1.1) : stI p v p.2.1.1 = stB p v := by
  have hN := h.N; have hm := h.m
  have key : ∀ j, j ≤ p.2.1.1 → (stI p v j = true ↔ ∀ i, i < j → (p.2.1.2 i).toNat = v ∨ Mat.rk p.1.1.toNat (bL (alS p).2 (alS p).1 ++ [((p.2.1.2 i).toNat, v)]) = Mat.rk p.1.1.toNat (bL (alS p).2 (alS p).1)) := by
    intro j
    induction j with
    | zero => intro _; simp [stI]
    | succ j ih =>
      intro hj
      have ih := ih (by omega)
      have hg := h.gr j (by omega)
      have step : (bif p.2.1.2 j == (v : Int) then true else !(rsB p (brX (p.2.1.2 j) v))) = true ↔ ((p.2.1.2 j).toNat = v ∨ Mat.rk p.1.1.toNat (bL (alS p).2 (alS p).1 ++ [((p.2.1.2 j).toNat, v)]) = Mat.rk p.1.1.toNat (bL (alS p).2 (alS p).1)) := by
        by_cases e : p.2.1.2 j = (v : Int)
        · have e' : (p.2.1.2 j == (v : Int)) = true := beq_iff_eq.2 e
          rw [e', cond_true]
          exact ⟨fun _ => .inl (by omega), fun _ => rfl⟩
        · have e' : (p.2.1.2 j == (v : Int)) = false := beq_eq_false_iff_ne.2 e
          rw [e', cond_false, Bool.not_eq_true', h.raise hg hv e]
          constructor
          · intro h'; exact .inr h'
          · rintro (h' | h')
            · omega
            · exact h'
      rw [stI]
      constructor
      · intro hh i hi
        cases hs : stI p v j with
        | false => rw [hs, cond_false] at hh; cases hh
        | true =>
          rw [hs, cond_true] at hh
          by_cases e : i = j
          · subst e; exact step.1 hh
          · exact (ih.1 hs) i (by omega)
      · intro hh
        rw [ih.2 (fun i hi => hh i (by omega)), cond_true]
        exact step.2 (hh j (by omega))
  have g0 := h.gr 0 (by omega)
  have g1 := h.gr 1 (by omega)
  have k0 := impB_iff h.okAS (a := p.2.1.2 0) (b := (v : Int)) (by omega) (by omega)
  have k1 := impB_iff h.okAS (a := p.2.1.2 1) (b := (v : Int)) (by omega) (by omega)
  rw [Int.toNat_natCast] at k0 k1
  have hst := h.grd.steady (L := bL (alS p).2 (alS p).1) (bL_good h.okAS) (fun x hx => by
    rw [bL_in] at hx ⊢
    obtain ⟨y, h1, h2⟩ := hx
    exact ⟨y, by rw [alS, aS_mem]; exact .inl h1, h2⟩) (v := v) (by omega)
  have kk := key p.2.1.1 (Nat.le_refl _)
  have e0 : ((p.2.1.2 0).toNat = v) ↔ p.2.1.2 0 = (v : Int) := by omega
  have e1 : ((p.2.1.2 1).toNat = v) ↔ p.2.1.2 1 = (v : Int) := by omega
  have hb : stB p v = true ↔ stI p v p.2.1.1 = true := by
    rw [kk, ← hst]
    unfold stB
    show _ ↔ ((p.2.1.2 0).toNat = v ∨ _) ∧ ((p.2.1.2 1).toNat = v ∨ _)
    rw [e0, e1, ← k0, ← k1]
    cases impB p.1.1.toNat (alS p).1 (alS p).2 (p.2.1.2 0) v <;> simp
  cases h1 : stB p v <;> cases h2 : stI p v p.2.1.1 <;> simp_all
noncomputable def stD (p : T_Pinned) : Nat → NI
  | 0 => zNI
  | v + 1 => if stB p v = true then snN (stD p v) v else stD p v
noncomputable def stR (p : T_Pinned) : NI := if pinnedF p = true then stD p p.1.1.toNat else zNI
theorem stD_n (p : T_Pinned) : ∀ v, (stD p v).1 ≤ v
  | 0 => Nat.le_refl _
  | v + 1 => by
    have := stD_n p v
    simp only [stD]
    split
    · simp only [snN]; omega
    · omega
theorem stR_n (p : T_Pinned) : (stR p).1 ≤ 8 := by
  unfold stR
  split
  · rename_i h
    have := (pin_ok h).N
    have := stD_n p p.1.1.toNat
    omega
  · exact Nat.zero_le _
theorem PinOk.isG {p : T_Pinned} (h : PinOk p) : isGraphF ((p.1.1.toNat : Int), ((alS p).1, (alS p).2), ()) = true := by
  have hN := h.N; have hn := h.nS; have ha := alS_n p
  exact isG_of (by omega) (by omega) h.okAS (alS_asc p)
theorem con_Steady_s (p : T_Pinned) (hs : smS s_Pinned p) : Con Try.prog 49 0 [] [pinA p] [(0, iOb (stR p).1 (stR p).2)] (.ar 1 0 0 (stR p).1) := by
  have c1 := con_IsPinned_s p hs
  refine con_start Try.func49 rfl (by kernel_rfl) rfl (fun c hc => ?_)
  cases hp : pinnedF p with
  | false =>
    rw [hp] at c1
    rw [show stR p = zNI by simp [stR, hp]]
    have hd : (bif decide (((0 : Nat) : Int) < p.1.1) then false else false) = false := by cases decide (((0 : Nat) : Int) < p.1.1) <;> rfl
    have he : Run Try.prog c 49 [.code (cAt (bodyOf Try.f49) [1, 1, 0, 1, 0, 0]), .inLoop (cAt (bodyOf Try.f49) [1, 1, 0, 1, 0, 0]), .inBlock 0, .code (cAt (bodyOf Try.f49) [1, 1, 1])] (SYs p 0 0 (fun _ => 0)) (Post c [(0, iOb zNI.1 zNI.2)] (.ar 1 0 0 zNI.1)) := by
      refine path_ok mixed Try.func49 hc (ySe p 0 0 (fun _ => 0) false) ?_
      simp only [All]
      repeat' (first | exact trivial | with_reducible apply And.intro)
      all_goals (first | exact aG _ | exact aP _ _ | exact aA _ _ | exact aE _ | omega | rfl | (intros; first | assumption | exact True.intro | rfl | exact absurd (show false = true by assumption) Bool.false_ne_true | ((repeat' (first | assumption | apply anda | apply notf)); done)) | (intros; exact c1) | (exact hd) | (intro t ht; exact absurd ht (Nat.not_lt_zero _)) | (intro t ht; simp [All]))
    refine piece_ok mixed hc (ySz p) ?_ he
    simp only [All]
    repeat' (first | exact trivial | with_reducible apply And.intro)
    all_goals (first | exact aG _ | exact aP _ _ | exact aA _ _ | exact aE _ | omega | rfl | (intros; first | assumption | exact True.intro | rfl | exact absurd (show false = true by assumption) Bool.false_ne_true | ((repeat' (first | assumption | apply anda | apply notf)); done)) | (intro t ht; exact absurd ht (Nat.not_lt_zero _)) | (intro t ht; simp [All]))
  | true =>
    have ok := pin_ok hp
    have hN := ok.N; have hm := ok.m; have hnb := ok.nb
    have hNz : ((p.1.1.toNat : Nat) : Int) = p.1.1 := by omega
    have hG := ok.isG
    have ca := con_l20All p (by omega) (by omega) (by omega)
    rw [hp] at c1
    rw [show stR p = stD p p.1.1.toNat by simp [stR, hp]]
    generalize hR : stD p p.1.1.toNat = R
    have lo : ∀ d v, v + d = p.1.1.toNat → Run Try.prog c 49 [.code (cAt (bodyOf Try.f49) [1, 1, 0, 1, 0, 0]), .inLoop (cAt (bodyOf Try.f49) [1, 1, 0, 1, 0, 0]), .inBlock 0, .code (cAt (bodyOf Try.f49) [1, 1, 1])] (SYs p v (stD p v).1 (stD p v).2) (Post c [(0, iOb R.1 R.2)] (.ar 1 0 0 R.1)) := by
      intro d
      induction d with
      | zero =>
        intro v hv
        obtain rfl : v = p.1.1.toNat := by omega
        have hd : (bif decide (((p.1.1.toNat : Nat) : Int) < p.1.1) then true else false) = false := by
          rw [show decide (((p.1.1.toNat : Nat) : Int) < p.1.1) = false from decide_eq_false (by omega)]; rfl
        rw [hR]
        refine path_ok mixed Try.func49 hc (ySe p p.1.1.toNat R.1 R.2 true) ?_
        simp only [All]
        repeat' (first | exact trivial | with_reducible apply And.intro)
        all_goals (first | exact aG _ | exact aP _ _ | exact aA _ _ | exact aE _ | omega | rfl | (intros; first | assumption | exact True.intro | rfl | exact absurd (show false = true by assumption) Bool.false_ne_true | ((repeat' (first | assumption | apply anda | apply notf)); done)) | (exact hd) | (intros; exact c1) | (intro t ht; simp [All]))
      | succ d ih =>
        intro v hv
        have hrec := ih (v + 1) (by omega)
        have hd : (bif decide ((v : Int) < p.1.1) then true else false) = true := by
          rw [show decide ((v : Int) < p.1.1) = true from decide_eq_true (by omega)]; rfl
        have hn := stD_n p v
        have g0 := ok.gr 0 (by omega)
        have g1 := ok.gr 1 (by omega)
        have i0 := con_IsImplied_s hG ok.okAS (by omega) (by have := ok.nS; have := alS_n p; omega) (a := p.2.1.2 0) (b := (v : Int)) (by omega) (by omega)
        have i1 := con_IsImplied_s hG ok.okAS (by omega) (by have := ok.nS; have := alS_n p; omega) (a := p.2.1.2 1) (b := (v : Int)) (by omega) (by omega)
        rw [grG, hNz] at i0 i1
        have hst : stB p v = bif impB p.1.1.toNat (alS p).1 (alS p).2 (p.2.1.2 0) v then impB p.1.1.toNat (alS p).1 (alS p).2 (p.2.1.2 1) v else false := rfl
        generalize impB p.1.1.toNat (alS p).1 (alS p).2 (p.2.1.2 0) v = b1 at i0 hst
        generalize impB p.1.1.toNat (alS p).1 (alS p).2 (p.2.1.2 1) v = b2 at i1 hst
        cases hh : stB p v with
        | false =>
          rw [hh] at hst
          rw [show stD p (v + 1) = stD p v by simp [stD, hh]] at hrec
          generalize stD p v = q at hn hrec ⊢
          refine piece_ok mixed hc (ySb p v q.1 (alS p).1 q.2 (alS p).2 b1 b2) ?_ hrec
          simp only [All]
          repeat' (first | exact trivial | with_reducible apply And.intro)
          all_goals (first | exact aG _ | exact aP _ _ | exact aA _ _ | exact aE _ | omega | rfl | (intros; first | assumption | exact True.intro | rfl | exact absurd (show false = true by assumption) Bool.false_ne_true | ((repeat' (first | assumption | apply anda | apply notf)); done)) | (exact hd) | (intros; exact c1) | (exact ca) | (exact i0) | (intros; exact i1) | (exact hst.symm) | (intro t ht; simp [All]))
        | true =>
          rw [hh] at hst
          rw [show stD p (v + 1) = snN (stD p v) v by simp [stD, hh]] at hrec
          generalize stD p v = q at hn hrec ⊢
          refine piece_ok mixed hc (ySa p v q.1 (alS p).1 q.2 (alS p).2 b1 b2) ?_ hrec
          simp only [All]
          repeat' (first | exact trivial | with_reducible apply And.intro)
          all_goals (first | exact aG _ | exact aP _ _ | exact aA _ _ | exact aE _ | omega | rfl | (intros; first | assumption | exact True.intro | rfl | exact absurd (show false = true by assumption) Bool.false_ne_true | ((repeat' (first | assumption | apply anda | apply notf)); done)) | (exact hd) | (intros; exact c1) | (exact ca) | (exact i0) | (intros; exact i1) | (exact hst.symm) | (intro t ht; by_cases h' : t < q.1 <;> simp [h', snI, cvtL, cvt, tg, tru, All]))
    refine piece_ok mixed hc (ySz p) ?_ (lo p.1.1.toNat 0 (by omega))
    simp only [All]
    repeat' (first | exact trivial | with_reducible apply And.intro)
    all_goals (first | exact aG _ | exact aP _ _ | exact aA _ _ | exact aE _ | omega | rfl | (intros; first | assumption | exact True.intro | rfl | exact absurd (show false = true by assumption) Bool.false_ne_true | ((repeat' (first | assumption | apply anda | apply notf)); done)) | (intro t ht; exact absurd ht (Nat.not_lt_zero _)) | (intro t ht; simp [All]))
theorem con_Steady_i (p : T_Pinned) (hs : smS s_Pinned p) : Con Try.prog 55 0 [] [pinA p] [(0, iOb (stR p).1 (stR p).2)] (.ar 1 0 0 (stR p).1) := by
  have c1 := con_IsPinned_i p hs
  refine con_start Try.func55 rfl (by kernel_rfl) rfl (fun c hc => ?_)
  cases hp : pinnedF p with
  | false =>
    rw [hp] at c1
    rw [show stR p = zNI by simp [stR, hp]]
    refine path_ok mixed Try.func55 hc (yIn p) ?_
    simp only [All]
    repeat' (first | exact trivial | with_reducible apply And.intro)
    all_goals (first | exact aG _ | exact aP _ _ | exact aA _ _ | exact aE _ | omega | rfl | (intros; first | assumption | exact True.intro | rfl | exact absurd (show false = true by assumption) Bool.false_ne_true | ((repeat' (first | assumption | apply anda | apply notf)); done)) | (exact c1) | (intro t ht; exact absurd ht (Nat.not_lt_zero _)) | (simp; done))
  | true =>
    have ok := pin_ok hp
    have hN := ok.N; have hm := ok.m; have hnb := ok.nb; have hnC := ok.nC
    have hNz : ((p.1.1.toNat : Nat) : Int) = p.1.1 := by omega
    have ch := con_held p hm.2
    rw [show hC p.2.1.2 p.2.1.1 p.2.1.1 = hlC p from rfl] at ch
    rw [hp] at c1
    rw [show stR p = stD p p.1.1.toNat by simp [stR, hp]]
    generalize hR : stD p p.1.1.toNat = R
    have nC : (alC p).1 = (hlC p).1 + p.1.2.1.1 := rfl
    have li : ∀ v : Nat, (v : Int) < p.1.1 → ∀ q : NI, q.1 ≤ 8 → (Run Try.prog c 55 [.code (cAt (bodyOf Try.f55) [1, 1, 1, 1, 0, 1, 0, 0]), .inLoop (cAt (bodyOf Try.f55) [1, 1, 1, 1, 0, 1, 0, 0]), .inBlock 0, .code (cAt (bodyOf Try.f55) [1, 1, 1, 1, 1])] (SYi p (v + 1) (if stB p v = true then snN q v else q).1 (alC p).1 (if stB p v = true then snN q v else q).2 (alC p).2) (Post c [(0, iOb R.1 R.2)] (.ar 1 0 0 R.1))) →
        ∀ d j, j + d = p.2.1.1 → Run Try.prog c 55 [.code (cAt (bodyOf Try.f55) [1, 1, 1, 1, 0, 1, 0, 0, 1, 1, 0, 0, 1, 1, 0, 1, 0, 0]), .inLoop (cAt (bodyOf Try.f55) [1, 1, 1, 1, 0, 1, 0, 0, 1, 1, 0, 0, 1, 1, 0, 1, 0, 0]), .inBlock 2, .code (cAt (bodyOf Try.f55) [1, 1, 1, 1, 0, 1, 0, 0, 1, 1, 0, 0, 1, 1, 1]), .inBlock 1, .code (cAt (bodyOf Try.f55) [1, 1, 1, 1, 0, 1, 0, 0, 1, 1, 1]), .inLoop (cAt (bodyOf Try.f55) [1, 1, 1, 1, 0, 1, 0, 0]), .inBlock 0, .code (cAt (bodyOf Try.f55) [1, 1, 1, 1, 1])] (SYj p v j q.1 (alC p).1 q.2 (alC p).2 (stI p v j)) (Post c [(0, iOb R.1 R.2)] (.ar 1 0 0 R.1)) := by
      intro v hv q hq hk d
      induction d with
      | zero =>
        intro j hj
        obtain rfl : j = p.2.1.1 := by omega
        have hd : decide ((p.2.1.1 : Int) < (p.2.1.1 : Int)) = false := by simp
        rw [ok.steady hv]
        cases hh : stB p v with
        | false =>
          rw [hh, if_neg (by simp)] at hk
          refine piece_ok mixed hc (yIf p v p.2.1.1 q.1 (alC p).1 q.2 (alC p).2 false) ?_ hk
          simp only [All]
          repeat' (first | exact trivial | with_reducible apply And.intro)
          all_goals (first | exact aG _ | exact aP _ _ | exact aA _ _ | exact aE _ | omega | rfl | (intros; first | assumption | exact True.intro | rfl | exact absurd (show false = true by assumption) Bool.false_ne_true | ((repeat' (first | assumption | apply anda | apply notf)); done)) | (exact hd) | (intro t ht; simp [All]))
        | true =>
          rw [hh, if_pos rfl] at hk
          refine piece_ok mixed hc (yIt p v p.2.1.1 q.1 (alC p).1 q.2 (alC p).2 true) ?_ hk
          simp only [All]
          repeat' (first | exact trivial | with_reducible apply And.intro)
          all_goals (first | exact aG _ | exact aP _ _ | exact aA _ _ | exact aE _ | omega | rfl | (intros; first | assumption | exact True.intro | rfl | exact absurd (show false = true by assumption) Bool.false_ne_true | ((repeat' (first | assumption | apply anda | apply notf)); done)) | (exact hd) | (intro t ht; by_cases h' : t < q.1 <;> simp [h', snI, cvtL, cvt, tg, tru, All]) | (intro t ht; simp [All]))
      | succ d ih =>
        intro j hj
        have hd : decide ((j : Int) < (p.2.1.1 : Int)) = true := decide_eq_true (by omega)
        have hg := ok.gr j (by omega)
        have cb := con_barX (p.2.1.2 j) v
        have hrec := ih (j + 1) (by omega)
        rw [show stI p v (j + 1) = bif stI p v j then (bif p.2.1.2 j == (v : Int) then true else !(rsB p (brX (p.2.1.2 j) v))) else false from rfl] at hrec
        have cr : p.2.1.2 j ≠ (v : Int) → Con Try.prog 105 0 [] [.p (.int .i64 p.1.1), brL (alC p).2 (alC p).1, brA (brX (p.2.1.2 j) v)] [] (.p (.bool (rsB p (brX (p.2.1.2 j) v)))) := by
          intro hne
          have hx := brX_ok (N := p.1.1.toNat) (a := p.2.1.2 j) (b := v) (by omega) (by omega) hne
          have := con_raises ok.okAC hx (by omega) (by omega)
          rw [hNz] at this
          exact this
        refine piece_ok mixed hc (yIi p v j q.1 (alC p).1 q.2 (alC p).2 (stI p v j) (rsB p (brX (p.2.1.2 j) v)) (brX (p.2.1.2 j) v)) ?_ hrec
        simp only [All]
        repeat' (first | exact trivial | with_reducible apply And.intro)
        all_goals (first | exact aG _ | exact aP _ _ | exact aA _ _ | exact aE _ | omega | rfl | (intros; first | assumption | exact True.intro | rfl | exact absurd (show false = true by assumption) Bool.false_ne_true | ((repeat' (first | assumption | apply anda | apply notf)); done)) | (exact hd) | (intros; exact cb) | (intro h3; refine cr ?_; simp only [Bool.and_eq_true, Bool.not_eq_true', beq_eq_false_iff_ne] at h3; exact h3.2) | (intro t ht; simp [All]))
    have lo : ∀ d v, v + d = p.1.1.toNat → Run Try.prog c 55 [.code (cAt (bodyOf Try.f55) [1, 1, 1, 1, 0, 1, 0, 0]), .inLoop (cAt (bodyOf Try.f55) [1, 1, 1, 1, 0, 1, 0, 0]), .inBlock 0, .code (cAt (bodyOf Try.f55) [1, 1, 1, 1, 1])] (SYi p v (stD p v).1 (alC p).1 (stD p v).2 (alC p).2) (Post c [(0, iOb R.1 R.2)] (.ar 1 0 0 R.1)) := by
      intro d
      induction d with
      | zero =>
        intro v hv
        obtain rfl : v = p.1.1.toNat := by omega
        have hd : decide (((p.1.1.toNat : Nat) : Int) < p.1.1) = false := decide_eq_false (by omega)
        rw [hR]
        refine path_ok mixed Try.func55 hc (yIe p p.1.1.toNat R.1 (alC p).1 R.2 (alC p).2) ?_
        simp only [All]
        repeat' (first | exact trivial | with_reducible apply And.intro)
        all_goals (first | exact aG _ | exact aP _ _ | exact aA _ _ | exact aE _ | omega | rfl | (intros; first | assumption | exact True.intro | rfl | exact absurd (show false = true by assumption) Bool.false_ne_true | ((repeat' (first | assumption | apply anda | apply notf)); done)) | (exact hd) | (intro t ht; simp [All]))
      | succ d ih =>
        intro v hv
        have hrec := ih (v + 1) (by omega)
        have hd : decide ((v : Int) < p.1.1) = true := decide_eq_true (by omega)
        have hn := stD_n p v
        refine piece_ok mixed hc (yIo p v (stD p v).1 (alC p).1 (stD p v).2 (alC p).2) ?_ (li v (by omega) (stD p v) (by omega) hrec p.2.1.1 0 (by omega))
        simp only [All]
        repeat' (first | exact trivial | with_reducible apply And.intro)
        all_goals (first | exact aG _ | exact aP _ _ | exact aA _ _ | exact aE _ | omega | rfl | (intros; first | assumption | exact True.intro | rfl | exact absurd (show false = true by assumption) Bool.false_ne_true | ((repeat' (first | assumption | apply anda | apply notf)); done)) | (exact hd) | (intro t ht; simp [All]))
    refine piece_ok mixed hc (yIz p (hlC p).1 (alC p).1 (hlC p).2 (alC p).2) ?_ (lo p.1.1.toNat 0 (by omega))
    simp only [All]
    repeat' (first | exact trivial | with_reducible apply And.intro)
    all_goals (first | exact aG _ | exact aP _ _ | exact aA _ _ | exact aE _ | omega | rfl | (intros; first | assumption | exact True.intro | rfl | exact absurd (show false = true by assumption) Bool.false_ne_true | ((repeat' (first | assumption | apply anda | apply notf)); done)) | (exact c1) | (exact ch) | (intro t ht; exact absurd ht (Nat.not_lt_zero _)) | (intro t ht; by_cases h : t < (hlC p).1 <;> simp [h, cvtL, cvt, tg, tru, All, alC, aC]))
end Go.Proofs.Ytgdbnnmogddkaaa.Mach
namespace Go.Proofs.Ytgdbnnmogddkaaa.Mach
open Go
set_option linter.unusedVariables false
set_option linter.unusedSimpArgs false
def byO (n : Nat) (f : Nat → Int) : Ob := ⟨false, 1, n, fun i => [.p (.int .u8 (f i))]⟩
def swF (i j : Nat) (f : Nat → Int) (r : Nat) : Int := if r = j then f i else if r = i then f j else f r
def apF (n : Nat) (f : Nat → Int) (x : Int) (r : Nat) : Int := if r < n then f r else x
def SFs (m : Int) (o : ByteArray) (ng : Bool) : St :=
  ⟨[.p (.int .i64 m), .p .any, .p .any, .p (.str o), .p (.bool ng)] ++ List.replicate 26 anyA, [], 0⟩
def SFi (n m : Int) (l : Nat) (f : Nat → Int) : St :=
  ⟨[.p (.int .i64 n), .p .any, .p .any, .ar 1 0 0 l, .p (.int .i64 m)] ++ List.replicate 54 anyA, [(0, byO l f)], 1⟩
def SFr (l i : Nat) (j : Int) (f : Nat → Int) : St :=
  ⟨[.p .any, .p .any, .p .any, .ar 1 0 0 l, .p .any, .p .any, .p (.int .i64 i), .p (.int .i64 j)] ++ List.replicate 51 anyA, [(0, byO l f)], 1⟩
theorem fS0 (n : Int) (s : ByteArray) :
    pathOb Try.prog Try.f47 0 [.reg [oT], .reg [oT, oT], .dec true, .reg [oT]] [.code (bodyOf Try.f47)] (start Try.f47 [] 0 [.p (.int .i64 n)]) [] 1 [] (.p (.str s)) =
    some [((n == 0) = true),
  (ByteArray.mk #[48] = s)] := by kernel_rfl
theorem fSz (n : Int) (o : ByteArray) :
    pieceOb Try.prog 0 [.reg [oT], .reg [oT, oT], .dec false, .reg [oT], .reg [oT, oT, oT], .head] [.code (bodyOf Try.f47)] (start Try.f47 [] 0 [.p (.int .i64 n)]) [] 1 (SFs n o (decide (n < 0))) =
    some ([.code (cAt (bodyOf Try.f47) [1, 1, 1, 1, 0, 0, 0]), .inLoop (cAt (bodyOf Try.f47) [1, 1, 1, 1, 0, 0, 0]), .inBlock 0, .code (cAt (bodyOf Try.f47) [1, 1, 1, 1, 1])], [((n == 0) = false),
  (AI n),
  (ByteArray.mk #[] = o),
  ((decide (n < 0)) = (decide (n < 0)))]) := by kernel_rfl
theorem fSn (m m2 : Int) (o o2 : ByteArray) (ng : Bool) :
    pieceOb Try.prog 0 [.reg [oT, oT], .dec true, .reg [oT, oF, oT], .reg [oT, oT], .dec true, .reg [oT, oT, oT], .reg [oT, oT, oT, oT, oT, oT, oT, oT], .reg [oT, oF, oT], .head] [.code (cAt (bodyOf Try.f47) [1, 1, 1, 1, 0, 0, 0]), .inLoop (cAt (bodyOf Try.f47) [1, 1, 1, 1, 0, 0, 0]), .inBlock 0, .code (cAt (bodyOf Try.f47) [1, 1, 1, 1, 1])] (SFs m o ng) [] 1 (SFs m2 o2 ng) =
    some ([.code (cAt (bodyOf Try.f47) [1, 1, 1, 1, 0, 0, 0]), .inLoop (cAt (bodyOf Try.f47) [1, 1, 1, 1, 0, 0, 0]), .inBlock 0, .code (cAt (bodyOf Try.f47) [1, 1, 1, 1, 1])], [((m != 0) = true),
  ((10 : Int) ≠ 0),
  ((decide (m.tmod 10 < 0)) = true),
  (((-9223372036854775808) : Int) ≤ (0 - m.tmod 10)),
  (((0 - m.tmod 10) : Int) ≤ 9223372036854775807),
  (((-9223372036854775808) : Int) ≤ (48 + (0 - m.tmod 10))),
  (((48 + (0 - m.tmod 10)) : Int) ≤ 9223372036854775807),
  ((0 : Int) ≤ (48 + (0 - m.tmod 10))),
  (((48 + (0 - m.tmod 10)) : Int) ≤ 255),
  ((1 : Nat) ≤ 1),
  (okBytes 1 (fun i => [.p (.int .u8 (48 + (0 - m.tmod 10)))])),
  ((((bytesOf 1 fun i => [AV.p (PV.int IntKind.u8 (48 + (0 - m.tmod 10)))]).size + o.size) : Nat) ≤ 9223372036854775807),
  ((10 : Int) ≠ 0),
  (((IntKind.i64.wrap (m.tdiv 10)) : Int) = m2),
  ((bytesOf 1 fun i => [AV.p (PV.int IntKind.u8 (48 + (0 - m.tmod 10)))]) ++ o = o2),
  (ng = ng)]) := by kernel_rfl
theorem fSp (m m2 : Int) (o o2 : ByteArray) (ng : Bool) :
    pieceOb Try.prog 0 [.reg [oT, oT], .dec true, .reg [oT, oF, oT], .reg [oT, oT], .dec false, .reg [oT, oT, oT, oT, oT, oT, oT, oT], .reg [oT, oF, oT], .head] [.code (cAt (bodyOf Try.f47) [1, 1, 1, 1, 0, 0, 0]), .inLoop (cAt (bodyOf Try.f47) [1, 1, 1, 1, 0, 0, 0]), .inBlock 0, .code (cAt (bodyOf Try.f47) [1, 1, 1, 1, 1])] (SFs m o ng) [] 1 (SFs m2 o2 ng) =
    some ([.code (cAt (bodyOf Try.f47) [1, 1, 1, 1, 0, 0, 0]), .inLoop (cAt (bodyOf Try.f47) [1, 1, 1, 1, 0, 0, 0]), .inBlock 0, .code (cAt (bodyOf Try.f47) [1, 1, 1, 1, 1])], [((m != 0) = true),
  ((10 : Int) ≠ 0),
  ((decide (m.tmod 10 < 0)) = false),
  (((-9223372036854775808) : Int) ≤ (48 + m.tmod 10)),
  (((48 + m.tmod 10) : Int) ≤ 9223372036854775807),
  ((0 : Int) ≤ (48 + m.tmod 10)),
  (((48 + m.tmod 10) : Int) ≤ 255),
  ((1 : Nat) ≤ 1),
  (okBytes 1 (fun i => [.p (.int .u8 (48 + m.tmod 10))])),
  ((((bytesOf 1 fun i => [AV.p (PV.int IntKind.u8 (48 + m.tmod 10))]).size + o.size) : Nat) ≤ 9223372036854775807),
  ((10 : Int) ≠ 0),
  (((IntKind.i64.wrap (m.tdiv 10)) : Int) = m2),
  ((bytesOf 1 fun i => [AV.p (PV.int IntKind.u8 (48 + m.tmod 10))]) ++ o = o2),
  (ng = ng)]) := by kernel_rfl
theorem fSt (m : Int) (o s : ByteArray) (ng : Bool) :
    pathOb Try.prog Try.f47 0 [.reg [oT, oT], .dec false, .reg [oT], .dec true, .reg [oT, oT, oT]] [.code (cAt (bodyOf Try.f47) [1, 1, 1, 1, 0, 0, 0]), .inLoop (cAt (bodyOf Try.f47) [1, 1, 1, 1, 0, 0, 0]), .inBlock 0, .code (cAt (bodyOf Try.f47) [1, 1, 1, 1, 1])] (SFs m o ng) [] 1 [] (.p (.str s)) =
    some [((m != 0) = false),
  (ng = true),
  ((((ByteArray.mk #[45]).size + o.size) : Nat) ≤ 9223372036854775807),
  (ByteArray.mk #[45] ++ o = s)] := by kernel_rfl
theorem fSf (m : Int) (o s : ByteArray) (ng : Bool) :
    pathOb Try.prog Try.f47 0 [.reg [oT, oT], .dec false, .reg [oT], .dec false, .reg [oT, oT]] [.code (cAt (bodyOf Try.f47) [1, 1, 1, 1, 0, 0, 0]), .inLoop (cAt (bodyOf Try.f47) [1, 1, 1, 1, 0, 0, 0]), .inBlock 0, .code (cAt (bodyOf Try.f47) [1, 1, 1, 1, 1])] (SFs m o ng) [] 1 [] (.p (.str s)) =
    some [((m != 0) = false),
  (ng = false),
  (o = s)] := by kernel_rfl
theorem fI0 (n : Int) (s : ByteArray) :
    pathOb Try.prog Try.f53 0 [.reg [oT], .reg [oT, oT], .dec true, .reg [oT]] [.code (bodyOf Try.f53)] (start Try.f53 [] 0 [.p (.int .i64 n)]) [] 1 [] (.p (.str s)) =
    some [((n == 0) = true),
  (ByteArray.mk #[48] = s)] := by kernel_rfl
theorem fIz (n : Int) :
    pieceOb Try.prog 0 [.reg [oT], .reg [oT, oT], .dec false, .reg [oT, oT], .reg [oT, oT], .head] [.code (bodyOf Try.f53)] (start Try.f53 [] 0 [.p (.int .i64 n)]) [96] 1 (SFi n n 0 (fun _ => 0)) =
    some ([.code (cAt (bodyOf Try.f53) [1, 1, 1, 0, 1, 0, 0]), .inLoop (cAt (bodyOf Try.f53) [1, 1, 1, 0, 1, 0, 0]), .inBlock 0, .code (cAt (bodyOf Try.f53) [1, 1, 1, 1])], [((n == 0) = false),
  (AI n),
  (AN 0),
  (AN 0),
  (AI n),
  (AN 1),
  ((0 : Nat) ≤ 0),
  (∀ i : Nat, (((i : Nat) < 0) → (All [] ∧ (([.p .any] : List AV) = [.p (.int .u8 0)]))))]) := by kernel_rfl
theorem fIn (n m m2 : Int) (l : Nat) (f : Nat → Int) (x : Int) :
    pieceOb Try.prog 0 [.reg [oT, oT], .dec true, .reg [oT, oF, oT], .reg [oT, oT], .dec true, .reg [oT, oT, oT], .reg [oT, oT, oT, oT, oT, oT, oT], .reg [oT, oF, oT], .head] [.code (cAt (bodyOf Try.f53) [1, 1, 1, 0, 1, 0, 0]), .inLoop (cAt (bodyOf Try.f53) [1, 1, 1, 0, 1, 0, 0]), .inBlock 0, .code (cAt (bodyOf Try.f53) [1, 1, 1, 1])] (SFi n m l f) [481] 1 (SFi n m2 (l + 1) (apF l f x)) =
    some ([.code (cAt (bodyOf Try.f53) [1, 1, 1, 0, 1, 0, 0]), .inLoop (cAt (bodyOf Try.f53) [1, 1, 1, 0, 1, 0, 0]), .inBlock 0, .code (cAt (bodyOf Try.f53) [1, 1, 1, 1])], [((m != 0) = true),
  ((10 : Int) ≠ 0),
  ((decide (m.tmod 10 < 0)) = true),
  (((-9223372036854775808) : Int) ≤ (0 - m.tmod 10)),
  (((0 - m.tmod 10) : Int) ≤ 9223372036854775807),
  (((-9223372036854775808) : Int) ≤ (48 + (0 - m.tmod 10))),
  (((48 + (0 - m.tmod 10)) : Int) ≤ 9223372036854775807),
  ((0 : Int) ≤ (48 + (0 - m.tmod 10))),
  (((48 + (0 - m.tmod 10)) : Int) ≤ 255),
  ((1 : Nat) ≤ 1),
  ((l : Nat) ≤ l),
  ((((l + 1) * 1) : Nat) ≤ 140737488355328),
  (((l + 1) : Nat) ≤ 9223372036854775807),
  ((10 : Int) ≠ 0),
  (AI n),
  (AN 0),
  (AN ((l + 1))),
  (((IntKind.i64.wrap (m.tdiv 10)) : Int) = m2),
  (AN 1),
  (((l + 1) : Nat) ≤ (l + 1)),
  (∀ i : Nat, (((i : Nat) < (l + 1)) → (All (cvtL false [(481, ⟨false, 1, (l + 1), (fun i_1 => (if (i_1 < l) then [.p (.int .u8 (f i_1))] else [.p (.int .u8 (48 + (0 - m.tmod 10)))]))⟩), (449, ⟨false, 1, 1, (fun i_1 => [.p (.int .u8 (48 + (0 - m.tmod 10)))])⟩)] [481] 1 (if (i < l) then [.p (.int .u8 (f i))] else [.p (.int .u8 (48 + (0 - m.tmod 10)))])).2 ∧ (((cvtL false [(481, ⟨false, 1, (l + 1), (fun i_1 => (if (i_1 < l) then [.p (.int .u8 (f i_1))] else [.p (.int .u8 (48 + (0 - m.tmod 10)))]))⟩), (449, ⟨false, 1, 1, (fun i_1 => [.p (.int .u8 (48 + (0 - m.tmod 10)))])⟩)] [481] 1 (if (i < l) then [.p (.int .u8 (f i))] else [.p (.int .u8 (48 + (0 - m.tmod 10)))])).1 : List AV) = [.p (.int .u8 (apF l f x i))]))))]) := by kernel_rfl
theorem fIp (n m m2 : Int) (l : Nat) (f : Nat → Int) (x : Int) :
    pieceOb Try.prog 0 [.reg [oT, oT], .dec true, .reg [oT, oF, oT], .reg [oT, oT], .dec false, .reg [oT, oT, oT, oT, oT, oT, oT], .reg [oT, oF, oT], .head] [.code (cAt (bodyOf Try.f53) [1, 1, 1, 0, 1, 0, 0]), .inLoop (cAt (bodyOf Try.f53) [1, 1, 1, 0, 1, 0, 0]), .inBlock 0, .code (cAt (bodyOf Try.f53) [1, 1, 1, 1])] (SFi n m l f) [385] 1 (SFi n m2 (l + 1) (apF l f x)) =
    some ([.code (cAt (bodyOf Try.f53) [1, 1, 1, 0, 1, 0, 0]), .inLoop (cAt (bodyOf Try.f53) [1, 1, 1, 0, 1, 0, 0]), .inBlock 0, .code (cAt (bodyOf Try.f53) [1, 1, 1, 1])], [((m != 0) = true),
  ((10 : Int) ≠ 0),
  ((decide (m.tmod 10 < 0)) = false),
  (((-9223372036854775808) : Int) ≤ (48 + m.tmod 10)),
  (((48 + m.tmod 10) : Int) ≤ 9223372036854775807),
  ((0 : Int) ≤ (48 + m.tmod 10)),
  (((48 + m.tmod 10) : Int) ≤ 255),
  ((1 : Nat) ≤ 1),
  ((l : Nat) ≤ l),
  ((((l + 1) * 1) : Nat) ≤ 140737488355328),
  (((l + 1) : Nat) ≤ 9223372036854775807),
  ((10 : Int) ≠ 0),
  (AI n),
  (AN 0),
  (AN ((l + 1))),
  (((IntKind.i64.wrap (m.tdiv 10)) : Int) = m2),
  (AN 1),
  (((l + 1) : Nat) ≤ (l + 1)),
  (∀ i : Nat, (((i : Nat) < (l + 1)) → (All (cvtL false [(385, ⟨false, 1, (l + 1), (fun i_1 => (if (i_1 < l) then [.p (.int .u8 (f i_1))] else [.p (.int .u8 (48 + m.tmod 10))]))⟩), (353, ⟨false, 1, 1, (fun i_1 => [.p (.int .u8 (48 + m.tmod 10))])⟩)] [385] 1 (if (i < l) then [.p (.int .u8 (f i))] else [.p (.int .u8 (48 + m.tmod 10))])).2 ∧ (((cvtL false [(385, ⟨false, 1, (l + 1), (fun i_1 => (if (i_1 < l) then [.p (.int .u8 (f i_1))] else [.p (.int .u8 (48 + m.tmod 10))]))⟩), (353, ⟨false, 1, 1, (fun i_1 => [.p (.int .u8 (48 + m.tmod 10))])⟩)] [385] 1 (if (i < l) then [.p (.int .u8 (f i))] else [.p (.int .u8 (48 + m.tmod 10))])).1 : List AV) = [.p (.int .u8 (apF l f x i))]))))]) := by kernel_rfl
theorem fIt (n m : Int) (l : Nat) (f : Nat → Int) :
    pieceOb Try.prog 0 [.reg [oT, oT], .dec false, .reg [oT, oT], .dec true, .reg [oT, oT, oT, oT], .reg [oT, oT, oT, oT, oT], .head] [.code (cAt (bodyOf Try.f53) [1, 1, 1, 0, 1, 0, 0]), .inLoop (cAt (bodyOf Try.f53) [1, 1, 1, 0, 1, 0, 0]), .inBlock 0, .code (cAt (bodyOf Try.f53) [1, 1, 1, 1])] (SFi n m l f) [193] 1 (SFr (l + 1) 0 (((l + 1 : Nat) : Int) - 1) (apF l f 45)) =
    some ([.code (cAt (bodyOf Try.f53) [1, 1, 1, 1, 1, 0, 1, 0, 0]), .inLoop (cAt (bodyOf Try.f53) [1, 1, 1, 1, 1, 0, 1, 0, 0]), .inBlock 2, .code (cAt (bodyOf Try.f53) [1, 1, 1, 1, 1, 1])], [((m != 0) = false),
  ((decide (n < 0)) = true),
  ((1 : Nat) ≤ 1),
  ((l : Nat) ≤ l),
  ((((l + 1) * 1) : Nat) ≤ 140737488355328),
  (((l + 1) : Nat) ≤ 9223372036854775807),
  (((-9223372036854775808) : Int) ≤ ((↑(l + 1) : Int) - 1)),
  ((((↑(l + 1) : Int) - 1) : Int) ≤ 9223372036854775807),
  (AN 0),
  (AN ((l + 1))),
  ((0 : Int) = (↑0 : Int)),
  (AI (((↑(l + 1) : Int) - 1))),
  (AN 1),
  (((l + 1) : Nat) ≤ (l + 1)),
  (∀ i : Nat, (((i : Nat) < (l + 1)) → (All (cvtL false [(193, ⟨false, 1, (l + 1), (fun i_1 => (if (i_1 < l) then [.p (.int .u8 (f i_1))] else [.p (.int .u8 45)]))⟩), (161, ⟨false, 1, 1, (fun i_1 => [.p (.int .u8 45)])⟩)] [193] 1 (if (i < l) then [.p (.int .u8 (f i))] else [.p (.int .u8 45)])).2 ∧ (((cvtL false [(193, ⟨false, 1, (l + 1), (fun i_1 => (if (i_1 < l) then [.p (.int .u8 (f i_1))] else [.p (.int .u8 45)]))⟩), (161, ⟨false, 1, 1, (fun i_1 => [.p (.int .u8 45)])⟩)] [193] 1 (if (i < l) then [.p (.int .u8 (f i))] else [.p (.int .u8 45)])).1 : List AV) = [.p (.int .u8 (apF l f 45 i))]))))]) := by kernel_rfl
theorem fIf (n m : Int) (l : Nat) (f : Nat → Int) :
    pieceOb Try.prog 0 [.reg [oT, oT], .dec false, .reg [oT, oT], .dec false, .reg [oT, oT, oT, oT, oT], .head] [.code (cAt (bodyOf Try.f53) [1, 1, 1, 0, 1, 0, 0]), .inLoop (cAt (bodyOf Try.f53) [1, 1, 1, 0, 1, 0, 0]), .inBlock 0, .code (cAt (bodyOf Try.f53) [1, 1, 1, 1])] (SFi n m l f) [0] 1 (SFr l 0 ((l : Int) - 1) f) =
    some ([.code (cAt (bodyOf Try.f53) [1, 1, 1, 1, 1, 0, 1, 0, 0]), .inLoop (cAt (bodyOf Try.f53) [1, 1, 1, 1, 1, 0, 1, 0, 0]), .inBlock 2, .code (cAt (bodyOf Try.f53) [1, 1, 1, 1, 1, 1])], [((m != 0) = false),
  ((decide (n < 0)) = false),
  (((-9223372036854775808) : Int) ≤ ((↑l : Int) - 1)),
  ((((↑l : Int) - 1) : Int) ≤ 9223372036854775807),
  (AN 0),
  (AN l),
  ((0 : Int) = (↑0 : Int)),
  (AI (((↑l : Int) - 1))),
  (AN 1),
  ((l : Nat) ≤ l),
  (AA l (fun i => [.p (.int .u8 (f i))]))]) := by kernel_rfl
theorem fIs (l i : Nat) (j : Int) (f : Nat → Int) :
    pieceOb Try.prog 0 [.reg [oT, oT, oT], .dec true, .reg [oT, oT, oT, oT, oT, oT, oT, oT, oT, oT, oT, oT, oT, oT, oT, oT], .reg [oT, oT, oT, oT, oT, oT], .head] [.code (cAt (bodyOf Try.f53) [1, 1, 1, 1, 1, 0, 1, 0, 0]), .inLoop (cAt (bodyOf Try.f53) [1, 1, 1, 1, 1, 0, 1, 0, 0]), .inBlock 2, .code (cAt (bodyOf Try.f53) [1, 1, 1, 1, 1, 1])] (SFr l i j f) [0] 1 (SFr l (i + 1) (j - 1) (swF i j.toNat f)) =
    some ([.code (cAt (bodyOf Try.f53) [1, 1, 1, 1, 1, 0, 1, 0, 0]), .inLoop (cAt (bodyOf Try.f53) [1, 1, 1, 1, 1, 0, 1, 0, 0]), .inBlock 2, .code (cAt (bodyOf Try.f53) [1, 1, 1, 1, 1, 1])], [((decide ((↑i : Int) < j)) = true),
  ((0 : Int) ≤ j),
  ((j : Int) < (↑l : Int)),
  ((j.toNat : Nat) < l),
  ((0 : Int) ≤ (↑i : Int)),
  (((↑i : Int) : Int) < (↑l : Int)),
  ((i : Nat) < l),
  ((0 : Int) ≤ (↑i : Int)),
  (((↑i : Int) : Int) < (↑l : Int)),
  ((i : Nat) < l),
  ((false = true) → ((l : Nat) = 1)),
  ((0 : Int) ≤ j),
  ((j : Int) < (↑l : Int)),
  ((j.toNat : Nat) < l),
  ((false = true) → ((l : Nat) = 1)),
  (((-9223372036854775808) : Int) ≤ ((↑i : Int) + 1)),
  ((((↑i : Int) + 1) : Int) ≤ 9223372036854775807),
  (((-9223372036854775808) : Int) ≤ (j - 1)),
  (((j - 1) : Int) ≤ 9223372036854775807),
  (AN 0),
  (AN l),
  ((((↑i : Int) + 1) : Int) = (↑(i + 1) : Int)),
  (AI ((j - 1))),
  (AN 1),
  ((l : Nat) ≤ l),
  (∀ i_1 : Nat, (((i_1 : Nat) < l) → (All (cvtL false [(0, ⟨false, 1, l, (fun i_2 => (if (i_2 = j.toNat) then [.p (.int .u8 (f i))] else (if (i_2 = i) then [.p (.int .u8 (f j.toNat))] else [.p (.int .u8 (f i_2))])))⟩)] [0] 1 (if (i_1 = j.toNat) then [.p (.int .u8 (f i))] else (if (i_1 = i) then [.p (.int .u8 (f j.toNat))] else [.p (.int .u8 (f i_1))]))).2 ∧ (((cvtL false [(0, ⟨false, 1, l, (fun i_2 => (if (i_2 = j.toNat) then [.p (.int .u8 (f i))] else (if (i_2 = i) then [.p (.int .u8 (f j.toNat))] else [.p (.int .u8 (f i_2))])))⟩)] [0] 1 (if (i_1 = j.toNat) then [.p (.int .u8 (f i))] else (if (i_1 = i) then [.p (.int .u8 (f j.toNat))] else [.p (.int .u8 (f i_1))]))).1 : List AV) = [.p (.int .u8 (swF i j.toNat f i_1))]))))]) := by kernel_rfl
theorem fIe (l i : Nat) (j : Int) (f : Nat → Int) (s : ByteArray) :
    pathOb Try.prog Try.f53 0 [.reg [oT, oT, oT], .dec false, .reg [oT, oT, oT]] [.code (cAt (bodyOf Try.f53) [1, 1, 1, 1, 1, 0, 1, 0, 0]), .inLoop (cAt (bodyOf Try.f53) [1, 1, 1, 1, 1, 0, 1, 0, 0]), .inBlock 2, .code (cAt (bodyOf Try.f53) [1, 1, 1, 1, 1, 1])] (SFr l i j f) [] 1 [] (.p (.str s)) =
    some [((decide ((↑i : Int) < j)) = false),
  ((l : Nat) ≤ l),
  (okBytes l (fun i_1 => [.p (.int .u8 (f i_1))])),
  ((bytesOf l fun i => [AV.p (PV.int IntKind.u8 (f i))]) = s)] := by kernel_rfl
def dg : Nat → Nat → List Int
  | 0, _ => []
  | f + 1, m => if m = 0 then [] else (48 + ((m % 10 : Nat) : Int)) :: dg f (m / 10)
def bs (l : List Int) : ByteArray := l.foldl (fun r n => r.push (UInt8.ofNat n.toNat)) ByteArray.empty
def fmtL (n : Int) : List Int := dg 20 n.natAbs ++ (if n < 0 then [45] else [])
def fmtI (n : Int) : ByteArray := if n = 0 then bs [48] else bs (fmtL n).reverse
theorem bs_fold (l : List Int) : ∀ s : ByteArray, (l.foldl (fun r n => r.push (UInt8.ofNat n.toNat)) s).data = s.data ++ (l.map fun n => UInt8.ofNat n.toNat).toArray := by
  induction l with
  | nil => intro s; simp
  | cons x l ih =>
    intro s
    simp only [List.foldl_cons, ih, List.map_cons]
    show s.data.push (UInt8.ofNat x.toNat) ++ _ = _
    simp
theorem bs_data (l : List Int) : (bs l).data = (l.map fun n => UInt8.ofNat n.toNat).toArray := by
  rw [bs, bs_fold]
  show #[] ++ _ = _
  simp
theorem bs_append (a b : List Int) : bs (a ++ b) = bs a ++ bs b := by
  apply ByteArray.ext
  rw [bs_data, ByteArray.data_append, bs_data, bs_data]
  simp
theorem bs_size (l : List Int) : (bs l).size = l.length := by
  show (bs l).data.size = _
  rw [bs_data]; simp
theorem bytesOf_bs (m : Nat) (f : Nat → Int) : bytesOf m (fun i => [.p (.int .u8 (f i))]) = bs ((List.range m).map f) := rfl
theorem tm10 (c : Int) : c.tmod 10 = if 0 ≤ c then ((c.natAbs % 10 : Nat) : Int) else -((c.natAbs % 10 : Nat) : Int) := by
  obtain ⟨k, rfl | rfl⟩ := c.eq_nat_or_neg
  · rw [if_pos (by omega), Int.natAbs_natCast]; rfl
  · by_cases h : k = 0
    · subst h; rfl
    · rw [if_neg (by omega), Int.neg_tmod, Int.natAbs_neg, Int.natAbs_natCast]; rfl
theorem td10 (c : Int) : c.tdiv 10 = if 0 ≤ c then ((c.natAbs / 10 : Nat) : Int) else -((c.natAbs / 10 : Nat) : Int) := by
  obtain ⟨k, rfl | rfl⟩ := c.eq_nat_or_neg
  · rw [if_pos (by omega), Int.natAbs_natCast]; rfl
  · by_cases h : k = 0
    · subst h; rfl
    · rw [if_neg (by omega), Int.neg_tdiv, Int.natAbs_neg, Int.natAbs_natCast]; rfl
theorem td_abs (c : Int) : (c.tdiv 10).natAbs = c.natAbs / 10 := by
  rw [td10]; split <;> omega
theorem dg_len : ∀ f m, (dg f m).length ≤ f
  | 0, _ => Nat.le_refl _
  | f + 1, m => by
    simp only [dg]
    split
    · simp
    · have := dg_len f (m / 10); simp; omega
theorem fmt_size (n : Int) : (fmtI n).size ≤ 21 := by
  unfold fmtI
  split
  · simp [bs_size]
  · rw [bs_size, fmtL, List.length_reverse, List.length_append]
    have := dg_len 20 n.natAbs
    split <;> simp <;> omega
theorem con_FormatInt_s (n : Int) (h0 : -9223372036854775808 ≤ n) (h1 : n ≤ 9223372036854775807) : Con Try.prog 47 0 [] [.p (.int .i64 n)] [] (.p (.str (fmtI n))) := by
  refine con_start Try.func47 rfl (by kernel_rfl) rfl (fun c hc => ?_)
  by_cases hz : n = 0
  · subst hz
    refine path_ok mixed Try.func47 hc (fS0 0 (fmtI 0)) ?_
    simp only [All]
    repeat' (first | exact trivial | with_reducible apply And.intro)
    all_goals (first | exact aG _ | exact aP _ _ | exact aA _ _ | exact aE _ | omega | rfl | (intros; first | assumption | exact True.intro | rfl | exact absurd (show false = true by assumption) Bool.false_ne_true | ((repeat' (first | assumption | apply anda | apply notf)); done)) | rfl | (exact ByteArray.ext (by rw [fmtI, if_pos rfl, bs_data]; rfl)))
  have hz' : (n == 0) = false := by simpa using hz
  have lp : ∀ f m l, l.length + f = 20 → m.natAbs < 10 ^ f → dg 20 n.natAbs = l ++ dg f m.natAbs → (n < 0 → m ≤ 0) → (0 ≤ n → 0 ≤ m) → -9223372036854775808 ≤ m → m ≤ 9223372036854775807 →
      Run Try.prog c 47 [.code (cAt (bodyOf Try.f47) [1, 1, 1, 1, 0, 0, 0]), .inLoop (cAt (bodyOf Try.f47) [1, 1, 1, 1, 0, 0, 0]), .inBlock 0, .code (cAt (bodyOf Try.f47) [1, 1, 1, 1, 1])] (SFs m (bs l.reverse) (decide (n < 0))) (Post c [] (.p (.str (fmtI n)))) := by
    have fin : ∀ l, dg 20 n.natAbs = l → l.length ≤ 20 → Run Try.prog c 47 [.code (cAt (bodyOf Try.f47) [1, 1, 1, 1, 0, 0, 0]), .inLoop (cAt (bodyOf Try.f47) [1, 1, 1, 1, 0, 0, 0]), .inBlock 0, .code (cAt (bodyOf Try.f47) [1, 1, 1, 1, 1])] (SFs 0 (bs l.reverse) (decide (n < 0))) (Post c [] (.p (.str (fmtI n)))) := by
      intro l hl hl2
      have hsz := bs_size l.reverse
      rw [List.length_reverse] at hsz
      by_cases hn : n < 0
      · rw [decide_eq_true hn]
        refine path_ok mixed Try.func47 hc (fSt 0 (bs l.reverse) (fmtI n) true) ?_
        simp only [All]
        repeat' (first | exact trivial | with_reducible apply And.intro)
        all_goals (first | exact aG _ | exact aP _ _ | exact aA _ _ | exact aE _ | omega | rfl | (intros; first | assumption | exact True.intro | rfl | exact absurd (show false = true by assumption) Bool.false_ne_true | ((repeat' (first | assumption | apply anda | apply notf)); done)) | (show _ + (bs l.reverse).size ≤ _; rw [hsz]; show 1 + l.length ≤ _; omega) | (rw [fmtI, if_neg hz, fmtL, if_pos hn, hl, List.reverse_append, bs_append]; exact congrArg (· ++ bs l.reverse) (ByteArray.ext (by rw [bs_data]; rfl))))
      · rw [decide_eq_false hn]
        refine path_ok mixed Try.func47 hc (fSf 0 (bs l.reverse) (fmtI n) false) ?_
        simp only [All]
        repeat' (first | exact trivial | with_reducible apply And.intro)
        all_goals (first | exact aG _ | exact aP _ _ | exact aA _ _ | exact aE _ | omega | rfl | (intros; first | assumption | exact True.intro | rfl | exact absurd (show false = true by assumption) Bool.false_ne_true | ((repeat' (first | assumption | apply anda | apply notf)); done)) | (rw [fmtI, if_neg hz, fmtL, if_neg hn, hl, List.append_nil]))
    intro f
    induction f with
    | zero =>
      intro m l hl hm hd hs1 hs2 hb1 hb2
      obtain rfl : m = 0 := by simp at hm; omega
      exact fin l (by rw [hd]; simp [dg]) (by omega)
    | succ f ih =>
      intro m l hl hm hd hs1 hs2 hb1 hb2
      by_cases hm0 : m = 0
      · subst hm0
        exact fin l (by rw [hd]; simp [dg]) (by omega)
      have hmt : (m != 0) = true := by simpa using hm0
      have hma : m.natAbs ≠ 0 := by omega
      have htd := td10 m
      have hrec := ih (m.tdiv 10) (l ++ [48 + ((m.natAbs % 10 : Nat) : Int)]) (by simp; omega) (by rw [td_abs]; rw [Nat.pow_succ] at hm; omega) (by rw [hd, td_abs, dg, if_neg hma]; simp) (by intro h; rw [htd]; split <;> omega) (by intro h; rw [htd]; split <;> omega) (by rw [htd]; split <;> omega) (by rw [htd]; split <;> omega)
      have hw : IntKind.i64.wrap (m.tdiv 10) = m.tdiv 10 := wrap_in (k := .i64) (by show (-9223372036854775808 : Int) ≤ _; rw [htd]; split <;> omega) (by show _ ≤ (9223372036854775807 : Int); rw [htd]; split <;> omega)
      have htm := tm10 m
      have hsz := bs_size l.reverse
      rw [List.length_reverse] at hsz
      have hb : ∀ d : Int, bytesOf 1 (fun _ => [.p (.int .u8 (48 + d))]) = bs [48 + d] := fun d => rfl
      have hout : ∀ d : Int, d = ((m.natAbs % 10 : Nat) : Int) → bs [48 + d] ++ bs l.reverse = bs (l ++ [48 + ((m.natAbs % 10 : Nat) : Int)]).reverse := by
        intro d hd'
        rw [List.reverse_append, bs_append, hd']; rfl
      by_cases hneg : m.tmod 10 < 0
      · have hng : decide (m.tmod 10 < 0) = true := decide_eq_true hneg
        have hd' : 0 - m.tmod 10 = ((m.natAbs % 10 : Nat) : Int) := by rw [htm] at hneg ⊢; split at hneg <;> simp_all <;> omega
        refine piece_ok mixed hc (fSn m (m.tdiv 10) (bs l.reverse) (bs (l ++ [48 + ((m.natAbs % 10 : Nat) : Int)]).reverse) (decide (n < 0))) ?_ hrec
        simp only [All]
        repeat' (first | exact trivial | with_reducible apply And.intro)
        all_goals (first | exact aG _ | exact aP _ _ | exact aA _ _ | exact aE _ | omega | rfl | (intros; first | assumption | exact True.intro | rfl | exact absurd (show false = true by assumption) Bool.false_ne_true | ((repeat' (first | assumption | apply anda | apply notf)); done)) | (exact hmt) | (exact hng) | (exact hw) | (intro i hi; exact ⟨_, rfl⟩) | (show (bs [48 + (0 - m.tmod 10)]).size + (bs l.reverse).size ≤ _; rw [hsz, bs_size]; show 1 + l.length ≤ _; omega) | (exact hout _ hd') | (show (_ : Int) ≤ _; rw [hd']; omega) | (simp only [imin, imax]; omega))
      · have hng : decide (m.tmod 10 < 0) = false := decide_eq_false hneg
        have hd' : m.tmod 10 = ((m.natAbs % 10 : Nat) : Int) := by rw [htm] at hneg ⊢; split at hneg <;> simp_all <;> omega
        refine piece_ok mixed hc (fSp m (m.tdiv 10) (bs l.reverse) (bs (l ++ [48 + ((m.natAbs % 10 : Nat) : Int)]).reverse) (decide (n < 0))) ?_ hrec
        simp only [All]
        repeat' (first | exact trivial | with_reducible apply And.intro)
        all_goals (first | exact aG _ | exact aP _ _ | exact aA _ _ | exact aE _ | omega | rfl | (intros; first | assumption | exact True.intro | rfl | exact absurd (show false = true by assumption) Bool.false_ne_true | ((repeat' (first | assumption | apply anda | apply notf)); done)) | (exact hmt) | (exact hng) | (exact hw) | (intro i hi; exact ⟨_, rfl⟩) | (show (bs [48 + m.tmod 10]).size + (bs l.reverse).size ≤ _; rw [hsz, bs_size]; show 1 + l.length ≤ _; omega) | (exact hout _ hd') | (show (_ : Int) ≤ _; rw [hd']; omega) | (simp only [imin, imax]; omega))
  refine piece_ok mixed hc (fSz n (bs [])) ?_ (lp 20 n [] rfl (by omega) rfl (fun h => by omega) (fun h => h) h0 h1)
  simp only [All]
  repeat' (first | exact trivial | with_reducible apply And.intro)
  all_goals (first | exact aG _ | exact aP _ _ | exact aA _ _ | exact aE _ | omega | rfl | (intros; first | assumption | exact True.intro | rfl | exact absurd (show false = true by assumption) Bool.false_ne_true | ((repeat' (first | assumption | apply anda | apply notf)); done)) | (exact hz') | rfl)
def lsI (n : Nat) (f : Nat → Int) : List Int := (List.range n).map f
theorem lsI_ap (n : Nat) (f : Nat → Int) (x : Int) : lsI (n + 1) (apF n f x) = lsI n f ++ [x] := by
  simp only [lsI, List.range_succ, List.map_append, List.map_cons, List.map_nil]
  congr 1
  · exact List.map_congr_left (fun i hi => by simp [apF, List.mem_range.1 hi])
  · simp [apF]
theorem lsI_rev (n : Nat) (f g : Nat → Int) (h : ∀ r, r < n → g r = f (n - 1 - r)) : lsI n g = (lsI n f).reverse := by
  apply List.ext_getElem
  · simp [lsI]
  · intro i h1 h2
    simp only [lsI, List.length_map, List.length_range] at h1
    simp [lsI, h i h1]
theorem con_FormatInt_i (n : Int) (h0 : -9223372036854775808 ≤ n) (h1 : n ≤ 9223372036854775807) : Con Try.prog 53 0 [] [.p (.int .i64 n)] [] (.p (.str (fmtI n))) := by
  refine con_start Try.func53 rfl (by kernel_rfl) rfl (fun c hc => ?_)
  by_cases hz : n = 0
  · subst hz
    refine path_ok mixed Try.func53 hc (fI0 0 (fmtI 0)) ?_
    simp only [All]
    repeat' (first | exact trivial | with_reducible apply And.intro)
    all_goals (first | exact aG _ | exact aP _ _ | exact aA _ _ | exact aE _ | omega | rfl | (intros; first | assumption | exact True.intro | rfl | exact absurd (show false = true by assumption) Bool.false_ne_true | ((repeat' (first | assumption | apply anda | apply notf)); done)) | rfl | (exact ByteArray.ext (by rw [fmtI, if_pos rfl, bs_data]; rfl)))
  have hz' : (n == 0) = false := by simpa using hz
  have lr : ∀ L f0, L ≤ 21 → lsI L f0 = fmtL n → ∀ d i f, i + d = L → i ≤ L → 2 * i ≤ L + 1 → (∀ r, r < L → f r = if r < i ∨ L - i ≤ r then f0 (L - 1 - r) else f0 r) →
      Run Try.prog c 53 [.code (cAt (bodyOf Try.f53) [1, 1, 1, 1, 1, 0, 1, 0, 0]), .inLoop (cAt (bodyOf Try.f53) [1, 1, 1, 1, 1, 0, 1, 0, 0]), .inBlock 2, .code (cAt (bodyOf Try.f53) [1, 1, 1, 1, 1, 1])] (SFr L i ((L : Int) - 1 - i) f) (Post c [] (.p (.str (fmtI n)))) := by
    intro L f0 hL hl d
    have fin : ∀ i f, i ≤ L → 2 * i ≤ L + 1 → L ≤ 2 * i + 1 → (∀ r, r < L → f r = if r < i ∨ L - i ≤ r then f0 (L - 1 - r) else f0 r) →
        Run Try.prog c 53 [.code (cAt (bodyOf Try.f53) [1, 1, 1, 1, 1, 0, 1, 0, 0]), .inLoop (cAt (bodyOf Try.f53) [1, 1, 1, 1, 1, 0, 1, 0, 0]), .inBlock 2, .code (cAt (bodyOf Try.f53) [1, 1, 1, 1, 1, 1])] (SFr L i ((L : Int) - 1 - i) f) (Post c [] (.p (.str (fmtI n)))) := by
      intro i f hi hi2 hi3 hf
      have hd : decide ((i : Int) < (L : Int) - 1 - i) = false := decide_eq_false (by omega)
      have hrev : ∀ r, r < L → f r = f0 (L - 1 - r) := by
        intro r hr
        rw [hf r hr]
        split
        · rfl
        · rename_i h
          rw [show L - 1 - r = r by omega]
      have he := lsI_rev L f0 f hrev
      refine path_ok mixed Try.func53 hc (fIe L i ((L : Int) - 1 - i) f (fmtI n)) ?_
      simp only [All]
      repeat' (first | exact trivial | with_reducible apply And.intro)
      all_goals (first | exact aG _ | exact aP _ _ | exact aA _ _ | exact aE _ | omega | rfl | (intros; first | assumption | exact True.intro | rfl | exact absurd (show false = true by assumption) Bool.false_ne_true | ((repeat' (first | assumption | apply anda | apply notf)); done)) | (exact hd) | (intro r hr; exact ⟨_, rfl⟩) | (rw [bytesOf_bs]; show bs (lsI L f) = _; rw [he, hl, fmtI, if_neg hz]))
    induction d with
    | zero =>
      intro i f hi hi1 hi2 hf
      exact fin i f hi1 hi2 (by omega) hf
    | succ d ih =>
      intro i f hi hi1 hi2 hf
      by_cases hlt : (i : Int) < (L : Int) - 1 - i
      · have hd : decide ((i : Int) < (L : Int) - 1 - i) = true := decide_eq_true hlt
        have hj : ((L : Int) - 1 - i).toNat = L - 1 - i := by omega
        have hrec := ih (i + 1) (swF i ((L : Int) - 1 - i).toNat f) (by omega) (by omega) (by omega) (by
          intro r hr
          rw [hj]
          unfold swF
          by_cases e1 : r = L - 1 - i
          · rw [if_pos e1, if_pos (by omega), hf i (by omega), if_neg (by omega), e1]
            rw [show L - 1 - (L - 1 - i) = i by omega]
          · rw [if_neg e1]
            by_cases e2 : r = i
            · rw [if_pos e2, if_pos (by omega), hf (L - 1 - i) (by omega), if_neg (by omega), e2]
            · rw [if_neg e2, hf r hr]
              by_cases e3 : r < i ∨ L - i ≤ r
              · rw [if_pos e3, if_pos (by omega)]
              · rw [if_neg e3, if_neg (by omega)])
        rw [show (L : Int) - 1 - ((i + 1 : Nat) : Int) = (L : Int) - 1 - i - 1 by omega] at hrec
        refine piece_ok mixed hc (fIs L i ((L : Int) - 1 - i) f) ?_ hrec
        simp only [All]
        repeat' (first | exact trivial | with_reducible apply And.intro)
        all_goals (first | exact aG _ | exact aP _ _ | exact aA _ _ | exact aE _ | omega | rfl | (intros; first | assumption | exact True.intro | rfl | exact absurd (show false = true by assumption) Bool.false_ne_true | ((repeat' (first | assumption | apply anda | apply notf)); done)) | (exact hd) | (intro r hr; generalize ((L : Int) - 1 - i).toNat = J; by_cases e1 : r = J <;> by_cases e2 : r = i <;> (first | (subst e2; simp [e1, swF, cvtL, cvt, tg, tru, All]; done) | (simp [e1, e2, swF, cvtL, cvt, tg, tru, All]; done))) | (simp only [imin, imax]; omega))
      · exact fin i f hi1 hi2 (by omega) hf
  have lp : ∀ f m l g, l + f = 20 → m.natAbs < 10 ^ f → dg 20 n.natAbs = lsI l g ++ dg f m.natAbs → (n < 0 → m ≤ 0) → (0 ≤ n → 0 ≤ m) → -9223372036854775808 ≤ m → m ≤ 9223372036854775807 →
      Run Try.prog c 53 [.code (cAt (bodyOf Try.f53) [1, 1, 1, 0, 1, 0, 0]), .inLoop (cAt (bodyOf Try.f53) [1, 1, 1, 0, 1, 0, 0]), .inBlock 0, .code (cAt (bodyOf Try.f53) [1, 1, 1, 1])] (SFi n m l g) (Post c [] (.p (.str (fmtI n)))) := by
    have fin : ∀ l g, dg 20 n.natAbs = lsI l g → l ≤ 20 → Run Try.prog c 53 [.code (cAt (bodyOf Try.f53) [1, 1, 1, 0, 1, 0, 0]), .inLoop (cAt (bodyOf Try.f53) [1, 1, 1, 0, 1, 0, 0]), .inBlock 0, .code (cAt (bodyOf Try.f53) [1, 1, 1, 1])] (SFi n 0 l g) (Post c [] (.p (.str (fmtI n)))) := by
      intro l g hl hl2
      by_cases hn : n < 0
      · have hd : decide (n < 0) = true := decide_eq_true hn
        have hr := lr (l + 1) (apF l g 45) (by omega) (by rw [lsI_ap, fmtL, if_pos hn, hl]) (l + 1) 0 (apF l g 45) (by omega) (by omega) (by omega) (fun r hr => by rw [if_neg (by omega)])
        rw [show ((l + 1 : Nat) : Int) - 1 - ((0 : Nat) : Int) = ((l + 1 : Nat) : Int) - 1 by omega] at hr
        refine piece_ok mixed hc (fIt n 0 l g) ?_ hr
        simp only [All]
        repeat' (first | exact trivial | with_reducible apply And.intro)
        all_goals (first | exact aG _ | exact aP _ _ | exact aA _ _ | exact aE _ | omega | rfl | (intros; first | assumption | exact True.intro | rfl | exact absurd (show false = true by assumption) Bool.false_ne_true | ((repeat' (first | assumption | apply anda | apply notf)); done)) | (exact hd) | (intro j hj; by_cases h' : j < l <;> simp [h', apF, cvtL, cvt, tg, tru, All]; done) | (simp only [imin, imax]; omega))
      · have hd : decide (n < 0) = false := decide_eq_false hn
        have hr := lr l g (by omega) (by rw [fmtL, if_neg hn, hl, List.append_nil]) l 0 g (by omega) (by omega) (by omega) (fun r hr => by rw [if_neg (by omega)])
        rw [show (l : Int) - 1 - ((0 : Nat) : Int) = (l : Int) - 1 by omega] at hr
        refine piece_ok mixed hc (fIf n 0 l g) ?_ hr
        simp only [All]
        repeat' (first | exact trivial | with_reducible apply And.intro)
        all_goals (first | exact aG _ | exact aP _ _ | exact aA _ _ | exact aE _ | omega | rfl | (intros; first | assumption | exact True.intro | rfl | exact absurd (show false = true by assumption) Bool.false_ne_true | ((repeat' (first | assumption | apply anda | apply notf)); done)) | (exact hd) | (intro j hj; simp [All]; done) | (simp only [imin, imax]; omega))
    intro f
    induction f with
    | zero =>
      intro m l g hl hm hd hs1 hs2 hb1 hb2
      obtain rfl : m = 0 := by simp at hm; omega
      exact fin l g (by rw [hd]; simp [dg]) (by omega)
    | succ f ih =>
      intro m l g hl hm hd hs1 hs2 hb1 hb2
      by_cases hm0 : m = 0
      · subst hm0
        exact fin l g (by rw [hd]; simp [dg]) (by omega)
      have hmt : (m != 0) = true := by simpa using hm0
      have hma : m.natAbs ≠ 0 := by omega
      have htd := td10 m
      have hrec := ih (m.tdiv 10) (l + 1) (apF l g (48 + ((m.natAbs % 10 : Nat) : Int))) (by omega) (by rw [td_abs]; rw [Nat.pow_succ] at hm; omega) (by rw [hd, td_abs, dg, if_neg hma, lsI_ap]; simp) (by intro h; rw [htd]; split <;> omega) (by intro h; rw [htd]; split <;> omega) (by rw [htd]; split <;> omega) (by rw [htd]; split <;> omega)
      have hw : IntKind.i64.wrap (m.tdiv 10) = m.tdiv 10 := wrap_in (k := .i64) (by show (-9223372036854775808 : Int) ≤ _; rw [htd]; split <;> omega) (by show _ ≤ (9223372036854775807 : Int); rw [htd]; split <;> omega)
      have htm := tm10 m
      by_cases hneg : m.tmod 10 < 0
      · have hng : decide (m.tmod 10 < 0) = true := decide_eq_true hneg
        have hd' : 0 - m.tmod 10 = ((m.natAbs % 10 : Nat) : Int) := by rw [htm] at hneg ⊢; split at hneg <;> simp_all <;> omega
        refine piece_ok mixed hc (fIn n m (m.tdiv 10) l g (48 + ((m.natAbs % 10 : Nat) : Int))) ?_ hrec
        simp only [All]
        repeat' (first | exact trivial | with_reducible apply And.intro)
        all_goals (first | exact aG _ | exact aP _ _ | exact aA _ _ | exact aE _ | omega | rfl | (intros; first | assumption | exact True.intro | rfl | exact absurd (show false = true by assumption) Bool.false_ne_true | ((repeat' (first | assumption | apply anda | apply notf)); done)) | (exact hmt) | (exact hng) | (exact hw) | (intro j hj; by_cases h' : j < l <;> simp [h', hd', apF, cvtL, cvt, tg, tru, All]; done) | (show (_ : Int) ≤ _; rw [hd']; omega) | (simp only [imin, imax]; omega))
      · have hng : decide (m.tmod 10 < 0) = false := decide_eq_false hneg
        have hd' : m.tmod 10 = ((m.natAbs % 10 : Nat) : Int) := by rw [htm] at hneg ⊢; split at hneg <;> simp_all <;> omega
        refine piece_ok mixed hc (fIp n m (m.tdiv 10) l g (48 + ((m.natAbs % 10 : Nat) : Int))) ?_ hrec
        simp only [All]
        repeat' (first | exact trivial | with_reducible apply And.intro)
        all_goals (first | exact aG _ | exact aP _ _ | exact aA _ _ | exact aE _ | omega | rfl | (intros; first | assumption | exact True.intro | rfl | exact absurd (show false = true by assumption) Bool.false_ne_true | ((repeat' (first | assumption | apply anda | apply notf)); done)) | (exact hmt) | (exact hng) | (exact hw) | (intro j hj; by_cases h' : j < l <;> simp [h', hd', apF, cvtL, cvt, tg, tru, All]; done) | (show (_ : Int) ≤ _; rw [hd']; omega) | (simp only [imin, imax]; omega))
  refine piece_ok mixed hc (fIz n) ?_ (lp 20 n 0 (fun _ => 0) rfl (by omega) (by simp [lsI]) (fun h => by omega) (fun h => h) h0 h1)
  simp only [All]
  repeat' (first | exact trivial | with_reducible apply And.intro)
  all_goals (first | exact aG _ | exact aP _ _ | exact aA _ _ | exact aE _ | omega | rfl | (intros; first | assumption | exact True.intro | rfl | exact absurd (show false = true by assumption) Bool.false_ne_true | ((repeat' (first | assumption | apply anda | apply notf)); done)) | (exact hz') | (intro j hj; exact absurd hj (Nat.not_lt_zero _)) | rfl)
end Go.Proofs.Ytgdbnnmogddkaaa.Mach
namespace Go.Proofs.Ytgdbnnmogddkaaa.Mach
open Go Go.Sort
set_option linter.unusedVariables false
set_option linter.unusedSimpArgs false
def kBars : ByteArray := ⟨#[98, 97, 114, 115, 32]⟩
def kFree : ByteArray := ⟨#[32, 102, 114, 101, 101, 100, 111, 109, 32]⟩
def kSteady : ByteArray := ⟨#[32, 115, 116, 101, 97, 100, 121, 32]⟩
def kWorst : ByteArray := ⟨#[32, 119, 111, 114, 115, 116, 32]⟩
def kDash : ByteArray := ⟨#[45]⟩
def kDrops : ByteArray := ⟨#[32, 100, 114, 111, 112, 115, 32]⟩
theorem kBars_z : (ByteArray.mk #[98, 97, 114, 115, 32]).size = 5 := rfl
theorem kFree_z : (ByteArray.mk #[32, 102, 114, 101, 101, 100, 111, 109, 32]).size = 9 := rfl
theorem kSteady_z : (ByteArray.mk #[32, 115, 116, 101, 97, 100, 121, 32]).size = 8 := rfl
theorem kWorst_z : (ByteArray.mk #[32, 119, 111, 114, 115, 116, 32]).size = 7 := rfl
theorem kDash_z : (ByteArray.mk #[45]).size = 1 := rfl
theorem kDrops_z : (ByteArray.mk #[32, 100, 114, 111, 112, 115, 32]).size = 7 := rfl
theorem lEn (x : T_Bar) (fa fb : ByteArray) :
    pathOb Try.prog Try.f57 0 [.reg [oT, oT], .reg [oT, oT, oT, oT, oT, ⟨true, (some ⟨[], [], [], 1, [], .p (.str fa)⟩), none⟩, oT, oT, oT, oT, oT, oT, ⟨true, (some ⟨[], [], [], 1, [], .p (.str fb)⟩), none⟩, oT, oT]] [.code (bodyOf Try.f57)] (start Try.f57 [] 0 [.agg [.p (.int .i64 x.1), .p (.int .i64 x.2.1)]]) [] 1 [] (.p (.str ((fa ++ kDash) ++ fb))) =
    some [((0 : Nat) < 1),
  ((0 : Nat) < 1),
  Con Try.prog 53 0 [] [.p (.int .i64 (if false = true then if x.2.1 > x.1 then x.2.1 else x.1 else if x.2.1 < x.1 then x.2.1 else x.1))] [] (.p (.str fa)),
  (((fa.size + (ByteArray.mk #[45]).size) : Nat) ≤ 9223372036854775807),
  ((0 : Nat) < 1),
  ((0 : Nat) < 1),
  Con Try.prog 53 0 [] [.p (.int .i64 (if true = true then if x.2.1 > x.1 then x.2.1 else x.1 else if x.2.1 < x.1 then x.2.1 else x.1))] [] (.p (.str fb)),
  ((((fa ++ ByteArray.mk #[45]).size + fb.size) : Nat) ≤ 9223372036854775807),
  (fa ++ ByteArray.mk #[45] ++ fb = fa ++ kDash ++ fb)] := by kernel_rfl
theorem lIn (p : T_Pinned) :
    pathOb Try.prog Try.f14 0 [.reg [oT, oT], .reg [oT, ⟨true, (some ⟨[], [], [], 1, [], .p (.bool false)⟩), none⟩, oT], .dec true, .reg [oT]] [.code (bodyOf Try.f14)] (start Try.f14 [] 0 [pinA p]) [] 1 [] (.p (.str ⟨#[]⟩)) =
    some [((0 : Nat) < 1),
  Con Try.prog 52 0 [] [.agg [.p (.int .i64 p.1.1), .p (.seq true 2 p.1.2.1.1 (fun i => [.int .i64 ((p.1.2.1.2 i).1), .int .i64 ((p.1.2.1.2 i).2.1)])), .p (.seq true 1 p.2.1.1 (fun i => [.int .i64 (p.2.1.2 i)]))]] [] (.p (.bool false)),
  ((!false) = true),
  (ByteArray.mk #[] = ByteArray.mk #[])] := by kernel_rfl
theorem lIa (p : T_Pinned) (fr w m : Int) (n : Nat) (h : Nat → Int) (f1 f2 f3 f4 f5 : ByteArray) :
    pathOb Try.prog Try.f14 0 [.reg [oT, oT], .reg [oT, ⟨true, (some ⟨[], [], [], 1, [], .p (.bool true)⟩), none⟩, oT], .dec false, .reg [oT, oT, oT, oT, ⟨true, (some ⟨[], [], [], 1, [], .p (.str f1)⟩), none⟩, oT, oT, oT, ⟨true, (some ⟨[], [], [], 1, [], .p (.int .i64 fr)⟩), none⟩, ⟨true, (some ⟨[], [], [], 1, [], .p (.str f2)⟩), none⟩, oT, oT, oT, ⟨true, (some ⟨[], [], [], 1, [(0, iOb n h)], .ar 1 0 0 n⟩), none⟩, oT, ⟨true, (some ⟨[], [], [], 1, [], .p (.str f3)⟩), none⟩, oT, oT], .reg [oT, ⟨true, (some ⟨[], [], [], 1, [], .tup [.p (.int .i64 w), .p (.int .i64 m)]⟩), none⟩, oT, oT, oT, oT, oT], .reg [oT, oT], .dec true, .reg [oT, oT, oT, oT, oT, oT, oT, oT, ⟨true, (some ⟨[], [], [], 1, [], .p (.str f4)⟩), none⟩, oT, oT, oT, ⟨true, (some ⟨[], [], [], 1, [], .p (.str f5)⟩), none⟩, oT, oT], .reg [oT, oT]] [.code (bodyOf Try.f14)] (start Try.f14 [] 0 [pinA p]) [] 1 [] (.p (.str (((((((((kBars ++ f1) ++ kFree) ++ f2) ++ kSteady) ++ f3) ++ kWorst) ++ f4) ++ kDrops) ++ f5))) =
    some [((0 : Nat) < 1),
  Con Try.prog 52 0 [] [.agg [.p (.int .i64 p.1.1), .p (.seq true 2 p.1.2.1.1 (fun i => [.int .i64 ((p.1.2.1.2 i).1), .int .i64 ((p.1.2.1.2 i).2.1)])), .p (.seq true 1 p.2.1.1 (fun i => [.int .i64 (p.2.1.2 i)]))]] [] (.p (.bool true)),
  ((!true) = false),
  ((0 : Nat) < 1),
  Con Try.prog 53 0 [] [.p (.int .i64 (↑p.1.2.1.1 : Int))] [] (.p (.str f1)),
  ((((ByteArray.mk #[98, 97, 114, 115, 32]).size + f1.size) : Nat) ≤ 9223372036854775807),
  ((((ByteArray.mk #[98, 97, 114, 115, 32] ++ f1).size + (ByteArray.mk #[32, 102, 114, 101, 101, 100, 111, 109, 32]).size) : Nat) ≤ 9223372036854775807),
  ((0 : Nat) < 1),
  Con Try.prog 54 0 [] [.agg [.p (.int .i64 p.1.1), .p (.seq true 2 p.1.2.1.1 (fun i => [.int .i64 ((p.1.2.1.2 i).1), .int .i64 ((p.1.2.1.2 i).2.1)])), .p (.seq true 1 p.2.1.1 (fun i => [.int .i64 (p.2.1.2 i)]))]] [] (.p (.int .i64 fr)),
  Con Try.prog 53 0 [] [.p (.int .i64 fr)] [] (.p (.str f2)),
  ((((ByteArray.mk #[98, 97, 114, 115, 32] ++ f1 ++ ByteArray.mk #[32, 102, 114, 101, 101, 100, 111, 109, 32]).size + f2.size) : Nat) ≤ 9223372036854775807),
  ((((ByteArray.mk #[98, 97, 114, 115, 32] ++ f1 ++ ByteArray.mk #[32, 102, 114, 101, 101, 100, 111, 109, 32] ++ f2).size + (ByteArray.mk #[32, 115, 116, 101, 97, 100, 121, 32]).size) : Nat) ≤ 9223372036854775807),
  ((0 : Nat) < 1),
  Con Try.prog 55 0 [] [.agg [.p (.int .i64 p.1.1), .p (.seq true 2 p.1.2.1.1 (fun i => [.int .i64 ((p.1.2.1.2 i).1), .int .i64 ((p.1.2.1.2 i).2.1)])), .p (.seq true 1 p.2.1.1 (fun i => [.int .i64 (p.2.1.2 i)]))]] [(0, ⟨false, 1, n, (fun i => [.p (.int .i64 (h i))])⟩)] (.ar 1 0 0 n),
  Con Try.prog 53 0 [] [.p (.int .i64 (↑n : Int))] [] (.p (.str f3)),
  ((((ByteArray.mk #[98, 97, 114, 115, 32] ++ f1 ++ ByteArray.mk #[32, 102, 114, 101, 101, 100, 111, 109, 32] ++ f2 ++ ByteArray.mk #[32, 115, 116, 101, 97, 100, 121, 32]).size + f3.size) : Nat) ≤ 9223372036854775807),
  ((0 : Nat) < 1),
  Con Try.prog 56 0 [] [.agg [.p (.int .i64 p.1.1), .p (.seq true 2 p.1.2.1.1 (fun i => [.int .i64 ((p.1.2.1.2 i).1), .int .i64 ((p.1.2.1.2 i).2.1)])), .p (.seq true 1 p.2.1.1 (fun i => [.int .i64 (p.2.1.2 i)]))]] [] (.tup [.p (.int .i64 w), .p (.int .i64 m)]),
  ((decide (w ≥ 0)) = true),
  ((((ByteArray.mk #[98, 97, 114, 115, 32] ++ f1 ++ ByteArray.mk #[32, 102, 114, 101, 101, 100, 111, 109, 32] ++ f2 ++ ByteArray.mk #[32, 115, 116, 101, 97, 100, 121, 32] ++ f3).size + (ByteArray.mk #[32, 119, 111, 114, 115, 116, 32]).size) : Nat) ≤ 9223372036854775807),
  ((0 : Nat) < 1),
  ((0 : Int) ≤ w),
  ((w : Int) < (↑p.1.2.1.1 : Int)),
  Con Try.prog 57 0 [] [.agg [.p (.int .i64 ((p.1.2.1.2 w.toNat).1)), .p (.int .i64 ((p.1.2.1.2 w.toNat).2.1))]] [] (.p (.str f4)),
  ((((ByteArray.mk #[98, 97, 114, 115, 32] ++ f1 ++ ByteArray.mk #[32, 102, 114, 101, 101, 100, 111, 109, 32] ++ f2 ++ ByteArray.mk #[32, 115, 116, 101, 97, 100, 121, 32] ++ f3 ++ ByteArray.mk #[32, 119, 111, 114, 115, 116, 32]).size + f4.size) : Nat) ≤ 9223372036854775807),
  ((((ByteArray.mk #[98, 97, 114, 115, 32] ++ f1 ++ ByteArray.mk #[32, 102, 114, 101, 101, 100, 111, 109, 32] ++ f2 ++ ByteArray.mk #[32, 115, 116, 101, 97, 100, 121, 32] ++ f3 ++ ByteArray.mk #[32, 119, 111, 114, 115, 116, 32] ++ f4).size + (ByteArray.mk #[32, 100, 114, 111, 112, 115, 32]).size) : Nat) ≤ 9223372036854775807),
  Con Try.prog 53 0 [] [.p (.int .i64 m)] [] (.p (.str f5)),
  ((((ByteArray.mk #[98, 97, 114, 115, 32] ++ f1 ++ ByteArray.mk #[32, 102, 114, 101, 101, 100, 111, 109, 32] ++ f2 ++ ByteArray.mk #[32, 115, 116, 101, 97, 100, 121, 32] ++ f3 ++ ByteArray.mk #[32, 119, 111, 114, 115, 116, 32] ++ f4 ++ ByteArray.mk #[32, 100, 114, 111, 112, 115, 32]).size + f5.size) : Nat) ≤ 9223372036854775807),
  (ByteArray.mk #[98, 97, 114, 115, 32] ++ f1 ++ ByteArray.mk #[32, 102, 114, 101, 101, 100, 111, 109, 32] ++ f2 ++ ByteArray.mk #[32, 115, 116, 101, 97, 100, 121, 32] ++ f3 ++ ByteArray.mk #[32, 119, 111, 114, 115, 116, 32] ++ f4 ++ ByteArray.mk #[32, 100, 114, 111, 112, 115, 32] ++ f5 = kBars ++ f1 ++ kFree ++ f2 ++ kSteady ++ f3 ++ kWorst ++ f4 ++ kDrops ++ f5)] := by kernel_rfl
theorem lIb (p : T_Pinned) (fr w m : Int) (n : Nat) (h : Nat → Int) (f1 f2 f3 : ByteArray) :
    pathOb Try.prog Try.f14 0 [.reg [oT, oT], .reg [oT, ⟨true, (some ⟨[], [], [], 1, [], .p (.bool true)⟩), none⟩, oT], .dec false, .reg [oT, oT, oT, oT, ⟨true, (some ⟨[], [], [], 1, [], .p (.str f1)⟩), none⟩, oT, oT, oT, ⟨true, (some ⟨[], [], [], 1, [], .p (.int .i64 fr)⟩), none⟩, ⟨true, (some ⟨[], [], [], 1, [], .p (.str f2)⟩), none⟩, oT, oT, oT, ⟨true, (some ⟨[], [], [], 1, [(0, iOb n h)], .ar 1 0 0 n⟩), none⟩, oT, ⟨true, (some ⟨[], [], [], 1, [], .p (.str f3)⟩), none⟩, oT, oT], .reg [oT, ⟨true, (some ⟨[], [], [], 1, [], .tup [.p (.int .i64 w), .p (.int .i64 m)]⟩), none⟩, oT, oT, oT, oT, oT], .reg [oT, oT], .dec false, .reg [oT, oT]] [.code (bodyOf Try.f14)] (start Try.f14 [] 0 [pinA p]) [] 1 [] (.p (.str (((((kBars ++ f1) ++ kFree) ++ f2) ++ kSteady) ++ f3))) =
    some [((0 : Nat) < 1),
  Con Try.prog 52 0 [] [.agg [.p (.int .i64 p.1.1), .p (.seq true 2 p.1.2.1.1 (fun i => [.int .i64 ((p.1.2.1.2 i).1), .int .i64 ((p.1.2.1.2 i).2.1)])), .p (.seq true 1 p.2.1.1 (fun i => [.int .i64 (p.2.1.2 i)]))]] [] (.p (.bool true)),
  ((!true) = false),
  ((0 : Nat) < 1),
  Con Try.prog 53 0 [] [.p (.int .i64 (↑p.1.2.1.1 : Int))] [] (.p (.str f1)),
  ((((ByteArray.mk #[98, 97, 114, 115, 32]).size + f1.size) : Nat) ≤ 9223372036854775807),
  ((((ByteArray.mk #[98, 97, 114, 115, 32] ++ f1).size + (ByteArray.mk #[32, 102, 114, 101, 101, 100, 111, 109, 32]).size) : Nat) ≤ 9223372036854775807),
  ((0 : Nat) < 1),
  Con Try.prog 54 0 [] [.agg [.p (.int .i64 p.1.1), .p (.seq true 2 p.1.2.1.1 (fun i => [.int .i64 ((p.1.2.1.2 i).1), .int .i64 ((p.1.2.1.2 i).2.1)])), .p (.seq true 1 p.2.1.1 (fun i => [.int .i64 (p.2.1.2 i)]))]] [] (.p (.int .i64 fr)),
  Con Try.prog 53 0 [] [.p (.int .i64 fr)] [] (.p (.str f2)),
  ((((ByteArray.mk #[98, 97, 114, 115, 32] ++ f1 ++ ByteArray.mk #[32, 102, 114, 101, 101, 100, 111, 109, 32]).size + f2.size) : Nat) ≤ 9223372036854775807),
  ((((ByteArray.mk #[98, 97, 114, 115, 32] ++ f1 ++ ByteArray.mk #[32, 102, 114, 101, 101, 100, 111, 109, 32] ++ f2).size + (ByteArray.mk #[32, 115, 116, 101, 97, 100, 121, 32]).size) : Nat) ≤ 9223372036854775807),
  ((0 : Nat) < 1),
  Con Try.prog 55 0 [] [.agg [.p (.int .i64 p.1.1), .p (.seq true 2 p.1.2.1.1 (fun i => [.int .i64 ((p.1.2.1.2 i).1), .int .i64 ((p.1.2.1.2 i).2.1)])), .p (.seq true 1 p.2.1.1 (fun i => [.int .i64 (p.2.1.2 i)]))]] [(0, ⟨false, 1, n, (fun i => [.p (.int .i64 (h i))])⟩)] (.ar 1 0 0 n),
  Con Try.prog 53 0 [] [.p (.int .i64 (↑n : Int))] [] (.p (.str f3)),
  ((((ByteArray.mk #[98, 97, 114, 115, 32] ++ f1 ++ ByteArray.mk #[32, 102, 114, 101, 101, 100, 111, 109, 32] ++ f2 ++ ByteArray.mk #[32, 115, 116, 101, 97, 100, 121, 32]).size + f3.size) : Nat) ≤ 9223372036854775807),
  ((0 : Nat) < 1),
  Con Try.prog 56 0 [] [.agg [.p (.int .i64 p.1.1), .p (.seq true 2 p.1.2.1.1 (fun i => [.int .i64 ((p.1.2.1.2 i).1), .int .i64 ((p.1.2.1.2 i).2.1)])), .p (.seq true 1 p.2.1.1 (fun i => [.int .i64 (p.2.1.2 i)]))]] [] (.tup [.p (.int .i64 w), .p (.int .i64 m)]),
  ((decide (w ≥ 0)) = false),
  (ByteArray.mk #[98, 97, 114, 115, 32] ++ f1 ++ ByteArray.mk #[32, 102, 114, 101, 101, 100, 111, 109, 32] ++ f2 ++ ByteArray.mk #[32, 115, 116, 101, 97, 100, 121, 32] ++ f3 = kBars ++ f1 ++ kFree ++ f2 ++ kSteady ++ f3)] := by kernel_rfl
theorem lSn (p : T_Pinned) :
    pathOb Try.prog Try.f12 0 [.reg [oT, oT], .reg [oT, ⟨true, (some ⟨[], [], [], 1, [], .p (.bool false)⟩), none⟩, oT], .dec true, .reg [oT]] [.code (bodyOf Try.f12)] (start Try.f12 [] 0 [pinA p]) [] 1 [] (.p (.str ⟨#[]⟩)) =
    some [((0 : Nat) < 1),
  Con Try.prog 46 0 [] [.agg [.p (.int .i64 p.1.1), .p (.seq true 2 p.1.2.1.1 (fun i => [.int .i64 ((p.1.2.1.2 i).1), .int .i64 ((p.1.2.1.2 i).2.1)])), .p (.seq true 1 p.2.1.1 (fun i => [.int .i64 (p.2.1.2 i)]))]] [] (.p (.bool false)),
  ((!false) = true),
  (ByteArray.mk #[] = ByteArray.mk #[])] := by kernel_rfl
theorem lSa (p : T_Pinned) (fr w m : Int) (n : Nat) (h : Nat → Int) (f1 f2 f3 f4 f5 f6 : ByteArray) :
    pathOb Try.prog Try.f12 0 [.reg [oT, oT], .reg [oT, ⟨true, (some ⟨[], [], [], 1, [], .p (.bool true)⟩), none⟩, oT], .dec false, .reg [oT, oT, oT, oT, ⟨true, (some ⟨[], [], [], 1, [], .p (.str f1)⟩), none⟩, oT, oT, oT, ⟨true, (some ⟨[], [], [], 1, [], .p (.int .i64 fr)⟩), none⟩, ⟨true, (some ⟨[], [], [], 1, [], .p (.str f2)⟩), none⟩, oT, oT, oT, ⟨true, (some ⟨[], [], [], 1, [(0, iOb n h)], .ar 1 0 0 n⟩), none⟩, oT, ⟨true, (some ⟨[], [], [], 1, [], .p (.str f3)⟩), none⟩, oT, oT], .reg [oT, ⟨true, (some ⟨[], [], [], 1, [], .tup [.p (.int .i64 w), .p (.int .i64 m)]⟩), none⟩, oT, oT, oT, oT, oT], .reg [oT, oT], .dec true, .reg [oT, oT, oT, oT, oT, oT, oT, oT, oT, ⟨true, (some ⟨[], [], [], 1, [], .p (.str f4)⟩), none⟩, oT, oT, oT, oT, oT, oT, oT, oT, oT, ⟨true, (some ⟨[], [], [], 1, [], .p (.str f5)⟩), none⟩, oT, oT, oT, ⟨true, (some ⟨[], [], [], 1, [], .p (.str f6)⟩), none⟩, oT, oT], .reg [oT, oT]] [.code (bodyOf Try.f12)] (start Try.f12 [] 0 [pinA p]) [] 1 [] (.p (.str (((((((((((kBars ++ f1) ++ kFree) ++ f2) ++ kSteady) ++ f3) ++ kWorst) ++ f4) ++ kDash) ++ f5) ++ kDrops) ++ f6))) =
    some [((0 : Nat) < 1),
  Con Try.prog 46 0 [] [.agg [.p (.int .i64 p.1.1), .p (.seq true 2 p.1.2.1.1 (fun i => [.int .i64 ((p.1.2.1.2 i).1), .int .i64 ((p.1.2.1.2 i).2.1)])), .p (.seq true 1 p.2.1.1 (fun i => [.int .i64 (p.2.1.2 i)]))]] [] (.p (.bool true)),
  ((!true) = false),
  ((0 : Nat) < 1),
  Con Try.prog 47 0 [] [.p (.int .i64 (↑p.1.2.1.1 : Int))] [] (.p (.str f1)),
  ((((ByteArray.mk #[98, 97, 114, 115, 32]).size + f1.size) : Nat) ≤ 9223372036854775807),
  ((((ByteArray.mk #[98, 97, 114, 115, 32] ++ f1).size + (ByteArray.mk #[32, 102, 114, 101, 101, 100, 111, 109, 32]).size) : Nat) ≤ 9223372036854775807),
  ((0 : Nat) < 1),
  Con Try.prog 48 0 [] [.agg [.p (.int .i64 p.1.1), .p (.seq true 2 p.1.2.1.1 (fun i => [.int .i64 ((p.1.2.1.2 i).1), .int .i64 ((p.1.2.1.2 i).2.1)])), .p (.seq true 1 p.2.1.1 (fun i => [.int .i64 (p.2.1.2 i)]))]] [] (.p (.int .i64 fr)),
  Con Try.prog 47 0 [] [.p (.int .i64 fr)] [] (.p (.str f2)),
  ((((ByteArray.mk #[98, 97, 114, 115, 32] ++ f1 ++ ByteArray.mk #[32, 102, 114, 101, 101, 100, 111, 109, 32]).size + f2.size) : Nat) ≤ 9223372036854775807),
  ((((ByteArray.mk #[98, 97, 114, 115, 32] ++ f1 ++ ByteArray.mk #[32, 102, 114, 101, 101, 100, 111, 109, 32] ++ f2).size + (ByteArray.mk #[32, 115, 116, 101, 97, 100, 121, 32]).size) : Nat) ≤ 9223372036854775807),
  ((0 : Nat) < 1),
  Con Try.prog 49 0 [] [.agg [.p (.int .i64 p.1.1), .p (.seq true 2 p.1.2.1.1 (fun i => [.int .i64 ((p.1.2.1.2 i).1), .int .i64 ((p.1.2.1.2 i).2.1)])), .p (.seq true 1 p.2.1.1 (fun i => [.int .i64 (p.2.1.2 i)]))]] [(0, ⟨false, 1, n, (fun i => [.p (.int .i64 (h i))])⟩)] (.ar 1 0 0 n),
  Con Try.prog 47 0 [] [.p (.int .i64 (↑n : Int))] [] (.p (.str f3)),
  ((((ByteArray.mk #[98, 97, 114, 115, 32] ++ f1 ++ ByteArray.mk #[32, 102, 114, 101, 101, 100, 111, 109, 32] ++ f2 ++ ByteArray.mk #[32, 115, 116, 101, 97, 100, 121, 32]).size + f3.size) : Nat) ≤ 9223372036854775807),
  ((0 : Nat) < 1),
  Con Try.prog 50 0 [] [.agg [.p (.int .i64 p.1.1), .p (.seq true 2 p.1.2.1.1 (fun i => [.int .i64 ((p.1.2.1.2 i).1), .int .i64 ((p.1.2.1.2 i).2.1)])), .p (.seq true 1 p.2.1.1 (fun i => [.int .i64 (p.2.1.2 i)]))]] [] (.tup [.p (.int .i64 w), .p (.int .i64 m)]),
  ((decide (w ≥ 0)) = true),
  ((((ByteArray.mk #[98, 97, 114, 115, 32] ++ f1 ++ ByteArray.mk #[32, 102, 114, 101, 101, 100, 111, 109, 32] ++ f2 ++ ByteArray.mk #[32, 115, 116, 101, 97, 100, 121, 32] ++ f3).size + (ByteArray.mk #[32, 119, 111, 114, 115, 116, 32]).size) : Nat) ≤ 9223372036854775807),
  ((0 : Nat) < 1),
  ((0 : Int) ≤ w),
  ((w : Int) < (↑p.1.2.1.1 : Int)),
  Con Try.prog 47 0 [] [.p (.int .i64 ((p.1.2.1.2 w.toNat).1))] [] (.p (.str f4)),
  ((((ByteArray.mk #[98, 97, 114, 115, 32] ++ f1 ++ ByteArray.mk #[32, 102, 114, 101, 101, 100, 111, 109, 32] ++ f2 ++ ByteArray.mk #[32, 115, 116, 101, 97, 100, 121, 32] ++ f3 ++ ByteArray.mk #[32, 119, 111, 114, 115, 116, 32]).size + f4.size) : Nat) ≤ 9223372036854775807),
  ((((ByteArray.mk #[98, 97, 114, 115, 32] ++ f1 ++ ByteArray.mk #[32, 102, 114, 101, 101, 100, 111, 109, 32] ++ f2 ++ ByteArray.mk #[32, 115, 116, 101, 97, 100, 121, 32] ++ f3 ++ ByteArray.mk #[32, 119, 111, 114, 115, 116, 32] ++ f4).size + (ByteArray.mk #[45]).size) : Nat) ≤ 9223372036854775807),
  ((0 : Nat) < 1),
  ((0 : Int) ≤ w),
  ((w : Int) < (↑p.1.2.1.1 : Int)),
  Con Try.prog 47 0 [] [.p (.int .i64 ((p.1.2.1.2 w.toNat).2.1))] [] (.p (.str f5)),
  ((((ByteArray.mk #[98, 97, 114, 115, 32] ++ f1 ++ ByteArray.mk #[32, 102, 114, 101, 101, 100, 111, 109, 32] ++ f2 ++ ByteArray.mk #[32, 115, 116, 101, 97, 100, 121, 32] ++ f3 ++ ByteArray.mk #[32, 119, 111, 114, 115, 116, 32] ++ f4 ++ ByteArray.mk #[45]).size + f5.size) : Nat) ≤ 9223372036854775807),
  ((((ByteArray.mk #[98, 97, 114, 115, 32] ++ f1 ++ ByteArray.mk #[32, 102, 114, 101, 101, 100, 111, 109, 32] ++ f2 ++ ByteArray.mk #[32, 115, 116, 101, 97, 100, 121, 32] ++ f3 ++ ByteArray.mk #[32, 119, 111, 114, 115, 116, 32] ++ f4 ++ ByteArray.mk #[45] ++ f5).size + (ByteArray.mk #[32, 100, 114, 111, 112, 115, 32]).size) : Nat) ≤ 9223372036854775807),
  Con Try.prog 47 0 [] [.p (.int .i64 m)] [] (.p (.str f6)),
  ((((ByteArray.mk #[98, 97, 114, 115, 32] ++ f1 ++ ByteArray.mk #[32, 102, 114, 101, 101, 100, 111, 109, 32] ++ f2 ++ ByteArray.mk #[32, 115, 116, 101, 97, 100, 121, 32] ++ f3 ++ ByteArray.mk #[32, 119, 111, 114, 115, 116, 32] ++ f4 ++ ByteArray.mk #[45] ++ f5 ++ ByteArray.mk #[32, 100, 114, 111, 112, 115, 32]).size + f6.size) : Nat) ≤ 9223372036854775807),
  (ByteArray.mk #[98, 97, 114, 115, 32] ++ f1 ++ ByteArray.mk #[32, 102, 114, 101, 101, 100, 111, 109, 32] ++ f2 ++ ByteArray.mk #[32, 115, 116, 101, 97, 100, 121, 32] ++ f3 ++ ByteArray.mk #[32, 119, 111, 114, 115, 116, 32] ++ f4 ++ ByteArray.mk #[45] ++ f5 ++ ByteArray.mk #[32, 100, 114, 111, 112, 115, 32] ++ f6 = kBars ++ f1 ++ kFree ++ f2 ++ kSteady ++ f3 ++ kWorst ++ f4 ++ kDash ++ f5 ++ kDrops ++ f6)] := by kernel_rfl
theorem lSb (p : T_Pinned) (fr w m : Int) (n : Nat) (h : Nat → Int) (f1 f2 f3 : ByteArray) :
    pathOb Try.prog Try.f12 0 [.reg [oT, oT], .reg [oT, ⟨true, (some ⟨[], [], [], 1, [], .p (.bool true)⟩), none⟩, oT], .dec false, .reg [oT, oT, oT, oT, ⟨true, (some ⟨[], [], [], 1, [], .p (.str f1)⟩), none⟩, oT, oT, oT, ⟨true, (some ⟨[], [], [], 1, [], .p (.int .i64 fr)⟩), none⟩, ⟨true, (some ⟨[], [], [], 1, [], .p (.str f2)⟩), none⟩, oT, oT, oT, ⟨true, (some ⟨[], [], [], 1, [(0, iOb n h)], .ar 1 0 0 n⟩), none⟩, oT, ⟨true, (some ⟨[], [], [], 1, [], .p (.str f3)⟩), none⟩, oT, oT], .reg [oT, ⟨true, (some ⟨[], [], [], 1, [], .tup [.p (.int .i64 w), .p (.int .i64 m)]⟩), none⟩, oT, oT, oT, oT, oT], .reg [oT, oT], .dec false, .reg [oT, oT]] [.code (bodyOf Try.f12)] (start Try.f12 [] 0 [pinA p]) [] 1 [] (.p (.str (((((kBars ++ f1) ++ kFree) ++ f2) ++ kSteady) ++ f3))) =
    some [((0 : Nat) < 1),
  Con Try.prog 46 0 [] [.agg [.p (.int .i64 p.1.1), .p (.seq true 2 p.1.2.1.1 (fun i => [.int .i64 ((p.1.2.1.2 i).1), .int .i64 ((p.1.2.1.2 i).2.1)])), .p (.seq true 1 p.2.1.1 (fun i => [.int .i64 (p.2.1.2 i)]))]] [] (.p (.bool true)),
  ((!true) = false),
  ((0 : Nat) < 1),
  Con Try.prog 47 0 [] [.p (.int .i64 (↑p.1.2.1.1 : Int))] [] (.p (.str f1)),
  ((((ByteArray.mk #[98, 97, 114, 115, 32]).size + f1.size) : Nat) ≤ 9223372036854775807),
  ((((ByteArray.mk #[98, 97, 114, 115, 32] ++ f1).size + (ByteArray.mk #[32, 102, 114, 101, 101, 100, 111, 109, 32]).size) : Nat) ≤ 9223372036854775807),
  ((0 : Nat) < 1),
  Con Try.prog 48 0 [] [.agg [.p (.int .i64 p.1.1), .p (.seq true 2 p.1.2.1.1 (fun i => [.int .i64 ((p.1.2.1.2 i).1), .int .i64 ((p.1.2.1.2 i).2.1)])), .p (.seq true 1 p.2.1.1 (fun i => [.int .i64 (p.2.1.2 i)]))]] [] (.p (.int .i64 fr)),
  Con Try.prog 47 0 [] [.p (.int .i64 fr)] [] (.p (.str f2)),
  ((((ByteArray.mk #[98, 97, 114, 115, 32] ++ f1 ++ ByteArray.mk #[32, 102, 114, 101, 101, 100, 111, 109, 32]).size + f2.size) : Nat) ≤ 9223372036854775807),
  ((((ByteArray.mk #[98, 97, 114, 115, 32] ++ f1 ++ ByteArray.mk #[32, 102, 114, 101, 101, 100, 111, 109, 32] ++ f2).size + (ByteArray.mk #[32, 115, 116, 101, 97, 100, 121, 32]).size) : Nat) ≤ 9223372036854775807),
  ((0 : Nat) < 1),
  Con Try.prog 49 0 [] [.agg [.p (.int .i64 p.1.1), .p (.seq true 2 p.1.2.1.1 (fun i => [.int .i64 ((p.1.2.1.2 i).1), .int .i64 ((p.1.2.1.2 i).2.1)])), .p (.seq true 1 p.2.1.1 (fun i => [.int .i64 (p.2.1.2 i)]))]] [(0, ⟨false, 1, n, (fun i => [.p (.int .i64 (h i))])⟩)] (.ar 1 0 0 n),
  Con Try.prog 47 0 [] [.p (.int .i64 (↑n : Int))] [] (.p (.str f3)),
  ((((ByteArray.mk #[98, 97, 114, 115, 32] ++ f1 ++ ByteArray.mk #[32, 102, 114, 101, 101, 100, 111, 109, 32] ++ f2 ++ ByteArray.mk #[32, 115, 116, 101, 97, 100, 121, 32]).size + f3.size) : Nat) ≤ 9223372036854775807),
  ((0 : Nat) < 1),
  Con Try.prog 50 0 [] [.agg [.p (.int .i64 p.1.1), .p (.seq true 2 p.1.2.1.1 (fun i => [.int .i64 ((p.1.2.1.2 i).1), .int .i64 ((p.1.2.1.2 i).2.1)])), .p (.seq true 1 p.2.1.1 (fun i => [.int .i64 (p.2.1.2 i)]))]] [] (.tup [.p (.int .i64 w), .p (.int .i64 m)]),
  ((decide (w ≥ 0)) = false),
  (ByteArray.mk #[98, 97, 114, 115, 32] ++ f1 ++ ByteArray.mk #[32, 102, 114, 101, 101, 100, 111, 109, 32] ++ f2 ++ ByteArray.mk #[32, 115, 116, 101, 97, 100, 121, 32] ++ f3 = kBars ++ f1 ++ kFree ++ f2 ++ kSteady ++ f3)] := by kernel_rfl
theorem sm_pinnedD {p : T_Pinned} (h : pinnedF p = true) : smS s_Pinned p := by
  have := pinned_in h
  have := (graph_inR this.1).2.2.1
  exact sm_pin (by omega) (by omega)
def woP (p : T_Pinned) (e : Nat) : T_Pinned := ((p.1.1, (p.1.2.1.1 - 1, delB p.1.2.1.1 p.1.2.1.2 e), ()), p.2)
theorem con_RemoveBar_s (v : T_Graph) (hg : isGraphF v = true) (e : Nat) (he : e < v.2.1.1) : Con Try.prog 139 0 [] [graphA v, .p (.int .i64 e)] [(0, brOb (v.2.1.1 - 1) (delB v.2.1.1 v.2.1.2 e))] (.tup [.agg [.p (.int .i64 v.1), .ar 2 0 0 (v.2.1.1 - 1)], .p (.bool true)]) := by
  obtain ⟨g1, g2, g3, g4⟩ := graph_inR hg
  have c1 := con_IsGraph_s v (sm_graph (by omega))
  rw [hg] at c1
  have hd : (bif bif !true then true else decide ((e : Int) < 0) then true else decide ((e : Int) ≥ (v.2.1.1 : Int))) = false := by
    rw [decide_eq_false (show ¬ ((e : Int) < 0) by omega), decide_eq_false (show ¬ ((e : Int) ≥ (v.2.1.1 : Int)) by omega)]; rfl
  refine con_start Try.func139 rfl (by kernel_rfl) rfl (fun c hc => ?_)
  refine path_ok mixed Try.func139 hc (yRb v e) ?_
  simp only [All]
  repeat' (first | exact trivial | with_reducible apply And.intro)
  all_goals (first | exact aG _ | exact aP _ _ | exact aA _ _ | exact aE _ | omega | rfl | (intros; first | assumption | exact True.intro | rfl | exact absurd (show false = true by assumption) Bool.false_ne_true | ((repeat' (first | assumption | apply anda | apply notf)); done)) | (exact c1) | (exact hd) | (intro t ht; rcases Nat.lt_or_ge t e with h1 | h1; (simp [h1, delB, cvtL, cvt, tg, tru, All]); (rw [if_neg (show ¬ t < 0 + e by omega), show t - (0 + e) + (e + 1) = t + 1 by omega]; simp [show ¬ t < e by omega, delB, show t + 1 < v.2.1.1 by omega, cvtL, cvt, tg, tru, All])))
theorem con_l27Less (p : T_Pinned) (hp : pinnedF p = true) (e : Nat) (he : e < p.1.2.1.1) : Con Try.prog 129 0 [] [pinA p, .p (.int .i64 e)] [(0, brOb (woP p e).1.2.1.1 (woP p e).1.2.1.2), (1, iOb p.2.1.1 p.2.1.2)] (.agg [.p (.int .i64 p.1.1), .ar 2 0 0 (woP p e).1.2.1.1, .ar 1 1 0 p.2.1.1]) := by
  have hp1 := pinned_in hp
  have ok := pin_ok hp
  have hm := ok.m
  have c1 := con_RemoveBar_s p.1 hp1.1 e he
  refine con_start Try.func129 rfl (by kernel_rfl) rfl (fun c hc => ?_)
  refine path_ok mixed Try.func129 hc (yLl p e (woP p e).1.2.1.1 (woP p e).1.2.1.2) ?_
  simp only [All]
  repeat' (first | exact trivial | with_reducible apply And.intro)
  all_goals (first | exact aG _ | exact aP _ _ | exact aA _ _ | exact aE _ | omega | rfl | (intros; first | assumption | exact True.intro | rfl | exact absurd (show false = true by assumption) Bool.false_ne_true | ((repeat' (first | assumption | apply anda | apply notf)); done)) | (exact c1) | (intro t ht; simp [cvtL, cvt, tg, tru, All]))
theorem con_withoutBar (p : T_Pinned) (hp : pinnedF p = true) (e : Nat) (he : e < p.1.2.1.1) : Con Try.prog 131 0 [] [pinA p, .p (.int .i64 e)] [(0, brOb (woP p e).1.2.1.1 (woP p e).1.2.1.2), (1, iOb p.2.1.1 p.2.1.2)] (.agg [.p (.int .i64 p.1.1), .ar 2 0 0 (woP p e).1.2.1.1, .ar 1 1 0 p.2.1.1]) := by
  have ok := pin_ok hp
  have hm := ok.m; have hnb := ok.nb
  have c1 := con_copyPinned p (sm_pinnedD hp)
  have c2 := con_DelBar p.1.2.1.1 e p.1.2.1.2 he (by omega)
  refine con_start Try.func131 rfl (by kernel_rfl) rfl (fun c hc => ?_)
  refine path_ok mixed Try.func131 hc (yWo p e (p.1.2.1.1 - 1) (delB p.1.2.1.1 p.1.2.1.2 e)) ?_
  simp only [All]
  repeat' (first | exact trivial | with_reducible apply And.intro)
  all_goals (first | exact aG _ | exact aP _ _ | exact aA _ _ | exact aE _ | omega | rfl | (intros; first | assumption | exact True.intro | rfl | exact absurd (show false = true by assumption) Bool.false_ne_true | ((repeat' (first | assumption | apply anda | apply notf)); done)) | (exact c1) | (exact c2) | (intro t ht; simp [cvtL, cvt, tg, tru, All]))
def fwD (b a : NI) : Nat → NI
  | 0 => zNI
  | k + 1 => if hasI a.2 (b.2 k) a.1 = true then fwD b a k else snN (fwD b a k) (b.2 k)
noncomputable def fwR (p : T_Pinned) (e : Nat) : NI := fwD (stR p) (stR (woP p e)) (stR p).1
theorem fwD_n (b a : NI) : ∀ k, (fwD b a k).1 ≤ k
  | 0 => Nat.le_refl _
  | k + 1 => by
    have := fwD_n b a k
    simp only [fwD]
    split
    · omega
    · simp only [snN]; omega
theorem fwR_n (p : T_Pinned) (e : Nat) : (fwR p e).1 ≤ 8 := by
  have := fwD_n (stR p) (stR (woP p e)) (stR p).1
  have := stR_n p
  unfold fwR
  omega
theorem sm_wo {p : T_Pinned} (hp : pinnedF p = true) (e : Nat) : smS s_Pinned (woP p e) := by
  have ok := pin_ok hp
  have hm := ok.m; have hnb := ok.nb
  exact sm_pin (by show p.1.2.1.1 - 1 ≤ 1048576; omega) (by show p.2.1.1 ≤ 1048576; omega)
theorem con_Falls_i (p : T_Pinned) (hp : pinnedF p = true) (e : Nat) (he : e < p.1.2.1.1) : Con Try.prog 107 0 [] [pinA p, .p (.int .i64 e)] [(0, iOb (fwR p e).1 (fwR p e).2)] (.ar 1 0 0 (fwR p e).1) := by
  have hnb := (pin_ok hp).nb
  have c1 := con_IsPinned_i p (sm_pinnedD hp)
  rw [hp] at c1
  have cw := con_within e 0 ((p.1.2.1.1 : Int) - 1)
  rw [show inB (e : Int) 0 ((p.1.2.1.1 : Int) - 1) = true by simp [inB]; omega] at cw
  have co := con_withoutBar p hp e he
  have ca := con_Steady_i (woP p e) (sm_wo hp e)
  have cb := con_Steady_i p (sm_pinnedD hp)
  have na := stR_n (woP p e)
  have nb := stR_n p
  unfold fwR
  generalize stR (woP p e) = A at *
  generalize stR p = B at *
  refine con_start Try.func107 rfl (by kernel_rfl) rfl (fun c hc => ?_)
  generalize hR : fwD B A B.1 = R
  have lo : ∀ d k, k + d = B.1 → Run Try.prog c 107 [.code (cAt (bodyOf Try.f107) [1, 1, 1, 1, 0, 1, 0, 0]), .inLoop (cAt (bodyOf Try.f107) [1, 1, 1, 1, 0, 1, 0, 0]), .inBlock 0, .code (cAt (bodyOf Try.f107) [1, 1, 1, 1, 1])] (SYf p e k (fwD B A k).1 A.1 B.1 (fwD B A k).2 A.2 B.2) (Post c [(0, iOb R.1 R.2)] (.ar 1 0 0 R.1)) := by
    intro d
    induction d with
    | zero =>
      intro k hk
      obtain rfl : k = B.1 := by omega
      have hd : decide ((B.1 : Int) < (B.1 : Int)) = false := by simp
      rw [hR]
      refine path_ok mixed Try.func107 hc (yFe p e B.1 R.1 A.1 B.1 R.2 A.2 B.2) ?_
      simp only [All]
      repeat' (first | exact trivial | with_reducible apply And.intro)
      all_goals (first | exact aG _ | exact aP _ _ | exact aA _ _ | exact aE _ | omega | rfl | (intros; first | assumption | exact True.intro | rfl | exact absurd (show false = true by assumption) Bool.false_ne_true | ((repeat' (first | assumption | apply anda | apply notf)); done)) | (exact hd) | (intro t ht; simp [cvtL, cvt, tg, tru, All]))
    | succ d ih =>
      intro k hk
      have hrec := ih (k + 1) (by omega)
      have hd : decide ((k : Int) < (B.1 : Int)) = true := decide_eq_true (by omega)
      have ch := con_Contains A (B.2 k) (by omega)
      have hn := fwD_n B A k
      cases hh : hasI A.2 (B.2 k) A.1 with
      | true =>
        rw [hh] at ch
        rw [show fwD B A (k + 1) = fwD B A k by simp [fwD, hh]] at hrec
        generalize fwD B A k = q at hn hrec ⊢
        refine piece_ok mixed hc (yFb p e k q.1 A.1 B.1 q.2 A.2 B.2) ?_ hrec
        simp only [All]
        repeat' (first | exact trivial | with_reducible apply And.intro)
        all_goals (first | exact aG _ | exact aP _ _ | exact aA _ _ | exact aE _ | omega | rfl | (intros; first | assumption | exact True.intro | rfl | exact absurd (show false = true by assumption) Bool.false_ne_true | ((repeat' (first | assumption | apply anda | apply notf)); done)) | (exact hd) | (exact ch) | (intro t ht; simp [cvtL, cvt, tg, tru, All]))
      | false =>
        rw [hh] at ch
        rw [show fwD B A (k + 1) = snN (fwD B A k) (B.2 k) by simp [fwD, hh]] at hrec
        generalize fwD B A k = q at hn hrec ⊢
        refine piece_ok mixed hc (yFa p e k q.1 A.1 B.1 q.2 A.2 B.2) ?_ hrec
        simp only [All]
        repeat' (first | exact trivial | with_reducible apply And.intro)
        all_goals (first | exact aG _ | exact aP _ _ | exact aA _ _ | exact aE _ | omega | rfl | (intros; first | assumption | exact True.intro | rfl | exact absurd (show false = true by assumption) Bool.false_ne_true | ((repeat' (first | assumption | apply anda | apply notf)); done)) | (exact hd) | (exact ch) | (intro t ht; by_cases h' : t < q.1 <;> simp [h', snI, cvtL, cvt, tg, tru, All]))
  refine piece_ok mixed hc (yFz p e A.1 B.1 (woP p e).1.2.1.1 A.2 B.2 (woP p e).1.2.1.2) ?_ (lo B.1 0 (by omega))
  simp only [All]
  repeat' (first | exact trivial | with_reducible apply And.intro)
  all_goals (first | exact aG _ | exact aP _ _ | exact aA _ _ | exact aE _ | omega | rfl | (intros; first | assumption | exact True.intro | rfl | exact absurd (show false = true by assumption) Bool.false_ne_true | ((repeat' (first | assumption | apply anda | apply notf)); done)) | (intros; omega) | (exact c1) | (exact cw) | (intros; exact cw) | (exact co) | (exact ca) | (exact cb) | (intro t ht; exact absurd ht (Nat.not_lt_zero _)) | (intro t ht; simp [cvtL, cvt, tg, tru, All]))
theorem con_Falls_s (p : T_Pinned) (hp : pinnedF p = true) (e : Nat) (he : e < p.1.2.1.1) : Con Try.prog 99 0 [] [pinA p, .p (.int .i64 e)] [(0, iOb (fwR p e).1 (fwR p e).2)] (.ar 1 0 0 (fwR p e).1) := by
  have c1 := con_IsPinned_s p (sm_pinnedD hp)
  rw [hp] at c1
  have hd0 : (bif bif !true then true else decide ((e : Int) < 0) then true else decide ((e : Int) ≥ (p.1.2.1.1 : Int))) = false := by
    rw [decide_eq_false (show ¬ ((e : Int) < 0) by omega), decide_eq_false (show ¬ ((e : Int) ≥ (p.1.2.1.1 : Int)) by omega)]; rfl
  have co := con_l27Less p hp e he
  have ca := con_Steady_s (woP p e) (sm_wo hp e)
  have cb := con_Steady_s p (sm_pinnedD hp)
  have na := stR_n (woP p e)
  have nb := stR_n p
  unfold fwR
  generalize stR (woP p e) = A at *
  generalize stR p = B at *
  refine con_start Try.func99 rfl (by kernel_rfl) rfl (fun c hc => ?_)
  generalize hR : fwD B A B.1 = R
  have lo : ∀ d k, k + d = B.1 → Run Try.prog c 99 [.code (cAt (bodyOf Try.f99) [1, 1, 1, 1, 1, 0, 1, 0, 0]), .inLoop (cAt (bodyOf Try.f99) [1, 1, 1, 1, 1, 0, 1, 0, 0]), .inBlock 0, .code (cAt (bodyOf Try.f99) [1, 1, 1, 1, 1, 1])] (SYg p e k (fwD B A k).1 A.1 B.1 (fwD B A k).2 A.2 B.2) (Post c [(0, iOb R.1 R.2)] (.ar 1 0 0 R.1)) := by
    intro d
    induction d with
    | zero =>
      intro k hk
      obtain rfl : k = B.1 := by omega
      have hd : decide ((B.1 : Int) < (B.1 : Int)) = false := by simp
      rw [hR]
      refine path_ok mixed Try.func99 hc (yGe p e B.1 R.1 A.1 B.1 R.2 A.2 B.2) ?_
      simp only [All]
      repeat' (first | exact trivial | with_reducible apply And.intro)
      all_goals (first | exact aG _ | exact aP _ _ | exact aA _ _ | exact aE _ | omega | rfl | (intros; first | assumption | exact True.intro | rfl | exact absurd (show false = true by assumption) Bool.false_ne_true | ((repeat' (first | assumption | apply anda | apply notf)); done)) | (exact hd) | (intro t ht; simp [cvtL, cvt, tg, tru, All]))
    | succ d ih =>
      intro k hk
      have hrec := ih (k + 1) (by omega)
      have hd : decide ((k : Int) < (B.1 : Int)) = true := decide_eq_true (by omega)
      have ch := con_l2Has A (B.2 k) (by omega)
      have hn := fwD_n B A k
      cases hh : hasI A.2 (B.2 k) A.1 with
      | true =>
        rw [hh] at ch
        rw [show fwD B A (k + 1) = fwD B A k by simp [fwD, hh]] at hrec
        generalize fwD B A k = q at hn hrec ⊢
        refine piece_ok mixed hc (yGb p e k q.1 A.1 B.1 q.2 A.2 B.2) ?_ hrec
        simp only [All]
        repeat' (first | exact trivial | with_reducible apply And.intro)
        all_goals (first | exact aG _ | exact aP _ _ | exact aA _ _ | exact aE _ | omega | rfl | (intros; first | assumption | exact True.intro | rfl | exact absurd (show false = true by assumption) Bool.false_ne_true | ((repeat' (first | assumption | apply anda | apply notf)); done)) | (exact hd) | (exact ch) | (intro t ht; simp [cvtL, cvt, tg, tru, All]))
      | false =>
        rw [hh] at ch
        rw [show fwD B A (k + 1) = snN (fwD B A k) (B.2 k) by simp [fwD, hh]] at hrec
        generalize fwD B A k = q at hn hrec ⊢
        refine piece_ok mixed hc (yGa p e k q.1 A.1 B.1 q.2 A.2 B.2) ?_ hrec
        simp only [All]
        repeat' (first | exact trivial | with_reducible apply And.intro)
        all_goals (first | exact aG _ | exact aP _ _ | exact aA _ _ | exact aE _ | omega | rfl | (intros; first | assumption | exact True.intro | rfl | exact absurd (show false = true by assumption) Bool.false_ne_true | ((repeat' (first | assumption | apply anda | apply notf)); done)) | (exact hd) | (exact ch) | (intro t ht; by_cases h' : t < q.1 <;> simp [h', snI, cvtL, cvt, tg, tru, All]))
  refine piece_ok mixed hc (yGz p e A.1 B.1 (woP p e).1.2.1.1 A.2 B.2 (woP p e).1.2.1.2) ?_ (lo B.1 0 (by omega))
  simp only [All]
  repeat' (first | exact trivial | with_reducible apply And.intro)
  all_goals (first | exact aG _ | exact aP _ _ | exact aA _ _ | exact aE _ | omega | rfl | (intros; first | assumption | exact True.intro | rfl | exact absurd (show false = true by assumption) Bool.false_ne_true | ((repeat' (first | assumption | apply anda | apply notf)); done)) | (exact c1) | (exact hd0) | (exact co) | (exact ca) | (exact cb) | (intro t ht; exact absurd ht (Nat.not_lt_zero _)) | (intro t ht; simp [cvtL, cvt, tg, tru, All]))
noncomputable def wbD (p : T_Pinned) : Nat → Int × Int
  | 0 => (-1, 0)
  | k + 1 => if ((fwR p k).1 : Int) > (wbD p k).2 then ((k : Int), ((fwR p k).1 : Int)) else wbD p k
theorem wbD_in (p : T_Pinned) : ∀ k, -1 ≤ (wbD p k).1 ∧ (wbD p k).1 < k ∧ 0 ≤ (wbD p k).2 ∧ (wbD p k).2 ≤ 8
  | 0 => by simp [wbD]
  | k + 1 => by
    have h1 := wbD_in p k
    have h2 := fwR_n p k
    simp only [wbD]
    split
    · simp only; omega
    · omega
theorem con_Worst_i (p : T_Pinned) (hp : pinnedF p = true) : Con Try.prog 56 0 [] [pinA p] [] (.tup [.p (.int .i64 (wbD p p.1.2.1.1).1), .p (.int .i64 (wbD p p.1.2.1.1).2)]) := by
  have ok := pin_ok hp
  have hnb := ok.nb
  refine con_start Try.func56 rfl (by kernel_rfl) rfl (fun c hc => ?_)
  generalize hR : wbD p p.1.2.1.1 = R
  have lo : ∀ d k, k + d = p.1.2.1.1 → Run Try.prog c 56 [.code (cAt (bodyOf Try.f56) [1, 1, 0, 1, 0, 0]), .inLoop (cAt (bodyOf Try.f56) [1, 1, 0, 1, 0, 0]), .inBlock 0, .code (cAt (bodyOf Try.f56) [1, 1, 1])] (SYw p k (wbD p k).1 (wbD p k).2) (Post c [] (.tup [.p (.int .i64 R.1), .p (.int .i64 R.2)])) := by
    intro d
    induction d with
    | zero =>
      intro k hk
      obtain rfl : k = p.1.2.1.1 := by omega
      have hd : decide ((p.1.2.1.1 : Int) < (p.1.2.1.1 : Int)) = false := by simp
      rw [hR]
      refine path_ok mixed Try.func56 hc (yWe p p.1.2.1.1 R.1 R.2) ?_
      simp only [All]
      repeat' (first | exact trivial | with_reducible apply And.intro)
      all_goals (first | exact aG _ | exact aP _ _ | exact aA _ _ | exact aE _ | omega | rfl | (intros; first | assumption | exact True.intro | rfl | exact absurd (show false = true by assumption) Bool.false_ne_true | ((repeat' (first | assumption | apply anda | apply notf)); done)) | (exact hd) | (intro t ht; simp [cvtL, cvt, tg, tru, All]))
    | succ d ih =>
      intro k hk
      have hrec := ih (k + 1) (by omega)
      have hd : decide ((k : Int) < (p.1.2.1.1 : Int)) = true := decide_eq_true (by omega)
      have cf := con_Falls_i p hp k (by omega)
      have hf := fwR_n p k
      have e : wbD p (k + 1) = if ((fwR p k).1 : Int) > (wbD p k).2 then ((k : Int), ((fwR p k).1 : Int)) else wbD p k := rfl
      generalize fwR p k = F at *
      by_cases hh : (F.1 : Int) > (wbD p k).2
      · rw [e, if_pos hh] at hrec
        have hg : decide ((F.1 : Int) > (wbD p k).2) = true := decide_eq_true hh
        generalize wbD p k = q at hg hrec ⊢
        refine piece_ok mixed hc (yWa p k F.1 q.1 q.2 F.2) ?_ hrec
        simp only [All]
        repeat' (first | exact trivial | with_reducible apply And.intro)
        all_goals (first | exact aG _ | exact aP _ _ | exact aA _ _ | exact aE _ | omega | rfl | (intros; first | assumption | exact True.intro | rfl | exact absurd (show false = true by assumption) Bool.false_ne_true | ((repeat' (first | assumption | apply anda | apply notf)); done)) | (exact hd) | (exact cf) | (exact hg) | (intro t ht; simp [cvtL, cvt, tg, tru, All]))
      · rw [e, if_neg hh] at hrec
        have hg : decide ((F.1 : Int) > (wbD p k).2) = false := decide_eq_false hh
        generalize wbD p k = q at hg hrec ⊢
        refine piece_ok mixed hc (yWb p k F.1 q.1 q.2 F.2) ?_ hrec
        simp only [All]
        repeat' (first | exact trivial | with_reducible apply And.intro)
        all_goals (first | exact aG _ | exact aP _ _ | exact aA _ _ | exact aE _ | omega | rfl | (intros; first | assumption | exact True.intro | rfl | exact absurd (show false = true by assumption) Bool.false_ne_true | ((repeat' (first | assumption | apply anda | apply notf)); done)) | (exact hd) | (exact cf) | (exact hg) | (intro t ht; simp [cvtL, cvt, tg, tru, All]))
  refine piece_ok mixed hc (yWz p) ?_ (lo p.1.2.1.1 0 (by omega))
  simp only [All]
  repeat' (first | exact trivial | with_reducible apply And.intro)
  all_goals (first | exact aG _ | exact aP _ _ | exact aA _ _ | exact aE _ | omega | rfl | (intros; first | assumption | exact True.intro | rfl | exact absurd (show false = true by assumption) Bool.false_ne_true | ((repeat' (first | assumption | apply anda | apply notf)); done)) | (intro t ht; simp [cvtL, cvt, tg, tru, All]))
theorem con_Worst_s (p : T_Pinned) (hp : pinnedF p = true) : Con Try.prog 50 0 [] [pinA p] [] (.tup [.p (.int .i64 (wbD p p.1.2.1.1).1), .p (.int .i64 (wbD p p.1.2.1.1).2)]) := by
  have ok := pin_ok hp
  have hnb := ok.nb
  refine con_start Try.func50 rfl (by kernel_rfl) rfl (fun c hc => ?_)
  generalize hR : wbD p p.1.2.1.1 = R
  have lo : ∀ d k, k + d = p.1.2.1.1 → Run Try.prog c 50 [.code (cAt (bodyOf Try.f50) [1, 1, 1, 0, 1, 0, 0]), .inLoop (cAt (bodyOf Try.f50) [1, 1, 1, 0, 1, 0, 0]), .inBlock 0, .code (cAt (bodyOf Try.f50) [1, 1, 1, 1])] (SYv p k (wbD p k).1 (wbD p k).2) (Post c [] (.tup [.p (.int .i64 R.1), .p (.int .i64 R.2)])) := by
    intro d
    induction d with
    | zero =>
      intro k hk
      obtain rfl : k = p.1.2.1.1 := by omega
      have hd : decide ((p.1.2.1.1 : Int) < (p.1.2.1.1 : Int)) = false := by simp
      rw [hR]
      refine path_ok mixed Try.func50 hc (yVe p p.1.2.1.1 R.1 R.2) ?_
      simp only [All]
      repeat' (first | exact trivial | with_reducible apply And.intro)
      all_goals (first | exact aG _ | exact aP _ _ | exact aA _ _ | exact aE _ | omega | rfl | (intros; first | assumption | exact True.intro | rfl | exact absurd (show false = true by assumption) Bool.false_ne_true | ((repeat' (first | assumption | apply anda | apply notf)); done)) | (exact hd) | (intro t ht; simp [cvtL, cvt, tg, tru, All]))
    | succ d ih =>
      intro k hk
      have hrec := ih (k + 1) (by omega)
      have hd : decide ((k : Int) < (p.1.2.1.1 : Int)) = true := decide_eq_true (by omega)
      have cf := con_Falls_s p hp k (by omega)
      have hf := fwR_n p k
      have e : wbD p (k + 1) = if ((fwR p k).1 : Int) > (wbD p k).2 then ((k : Int), ((fwR p k).1 : Int)) else wbD p k := rfl
      generalize fwR p k = F at *
      by_cases hh : (F.1 : Int) > (wbD p k).2
      · rw [e, if_pos hh] at hrec
        have hg : decide ((F.1 : Int) > (wbD p k).2) = true := decide_eq_true hh
        generalize wbD p k = q at hg hrec ⊢
        refine piece_ok mixed hc (yVa p k F.1 q.1 q.2 F.2) ?_ hrec
        simp only [All]
        repeat' (first | exact trivial | with_reducible apply And.intro)
        all_goals (first | exact aG _ | exact aP _ _ | exact aA _ _ | exact aE _ | omega | rfl | (intros; first | assumption | exact True.intro | rfl | exact absurd (show false = true by assumption) Bool.false_ne_true | ((repeat' (first | assumption | apply anda | apply notf)); done)) | (exact hd) | (exact cf) | (exact hg) | (intro t ht; simp [cvtL, cvt, tg, tru, All]))
      · rw [e, if_neg hh] at hrec
        have hg : decide ((F.1 : Int) > (wbD p k).2) = false := decide_eq_false hh
        generalize wbD p k = q at hg hrec ⊢
        refine piece_ok mixed hc (yVb p k F.1 q.1 q.2 F.2) ?_ hrec
        simp only [All]
        repeat' (first | exact trivial | with_reducible apply And.intro)
        all_goals (first | exact aG _ | exact aP _ _ | exact aA _ _ | exact aE _ | omega | rfl | (intros; first | assumption | exact True.intro | rfl | exact absurd (show false = true by assumption) Bool.false_ne_true | ((repeat' (first | assumption | apply anda | apply notf)); done)) | (exact hd) | (exact cf) | (exact hg) | (intro t ht; simp [cvtL, cvt, tg, tru, All]))
  refine piece_ok mixed hc (yVz p) ?_ (lo p.1.2.1.1 0 (by omega))
  simp only [All]
  repeat' (first | exact trivial | with_reducible apply And.intro)
  all_goals (first | exact aG _ | exact aP _ _ | exact aA _ _ | exact aE _ | omega | rfl | (intros; first | assumption | exact True.intro | rfl | exact absurd (show false = true by assumption) Bool.false_ne_true | ((repeat' (first | assumption | apply anda | apply notf)); done)) | (intro t ht; simp [cvtL, cvt, tg, tru, All]))
def enB (x : T_Bar) : ByteArray := (fmtI (if x.2.1 < x.1 then x.2.1 else x.1) ++ kDash) ++ fmtI (if x.2.1 > x.1 then x.2.1 else x.1)
theorem enB_size (x : T_Bar) : (enB x).size ≤ 43 := by
  have h1 := fmt_size (if x.2.1 < x.1 then x.2.1 else x.1)
  have h2 := fmt_size (if x.2.1 > x.1 then x.2.1 else x.1)
  unfold enB
  simp only [ByteArray.size_append, show kDash.size = 1 from rfl]
  omega
theorem con_ends (x : T_Bar) (h0 : -9223372036854775808 ≤ x.1 ∧ x.1 ≤ 9223372036854775807) (h1 : -9223372036854775808 ≤ x.2.1 ∧ x.2.1 ≤ 9223372036854775807) : Con Try.prog 57 0 [] [.agg [.p (.int .i64 x.1), .p (.int .i64 x.2.1)]] [] (.p (.str (enB x))) := by
  have c1 := con_FormatInt_i (if x.2.1 < x.1 then x.2.1 else x.1) (by split <;> omega) (by split <;> omega)
  have c2 := con_FormatInt_i (if x.2.1 > x.1 then x.2.1 else x.1) (by split <;> omega) (by split <;> omega)
  have s1 := fmt_size (if x.2.1 < x.1 then x.2.1 else x.1)
  have s2 := fmt_size (if x.2.1 > x.1 then x.2.1 else x.1)
  unfold enB
  generalize fmtI (if x.2.1 < x.1 then x.2.1 else x.1) = fa at *
  generalize fmtI (if x.2.1 > x.1 then x.2.1 else x.1) = fb at *
  refine con_start Try.func57 rfl (by kernel_rfl) rfl (fun c hc => ?_)
  refine path_ok mixed Try.func57 hc (lEn x fa fb) ?_
  simp only [All]
  repeat' (first | exact trivial | with_reducible apply And.intro)
  all_goals (first | exact aG _ | exact aP _ _ | exact aA _ _ | exact aE _ | omega | rfl | (intros; first | assumption | exact True.intro | rfl | exact absurd (show false = true by assumption) Bool.false_ne_true | ((repeat' (first | assumption | apply anda | apply notf)); done)) | (exact c1) | (exact c2) | (simp only [ByteArray.size_append, kDash_z]; omega))
noncomputable def ilB (p : T_Pinned) : ByteArray :=
  if pinnedF p = true then
    (if (wbD p p.1.2.1.1).1 < 0 then ((((kBars ++ fmtI p.1.2.1.1) ++ kFree) ++ fmtI (frG p)) ++ kSteady) ++ fmtI (stR p).1
    else ((((((((kBars ++ fmtI p.1.2.1.1) ++ kFree) ++ fmtI (frG p)) ++ kSteady) ++ fmtI (stR p).1) ++ kWorst) ++ enB (p.1.2.1.2 (wbD p p.1.2.1.1).1.toNat)) ++ kDrops) ++ fmtI (wbD p p.1.2.1.1).2)
  else ⟨#[]⟩
theorem frG_in (p : T_Pinned) : -100 ≤ frG p ∧ frG p ≤ 100 := by
  have h1 := prG_in p
  have h2 := inrP_n p
  unfold frG
  split <;> omega
theorem con_Inspect_i (p : T_Pinned) (hs : smS s_Pinned p) : Con Try.prog 14 0 [] [pinA p] [] (.p (.str (ilB p))) := by
  have c1 := con_IsPinned_i p hs
  refine con_start Try.func14 rfl (by kernel_rfl) rfl (fun c hc => ?_)
  cases hp : pinnedF p with
  | false =>
    rw [hp] at c1
    rw [show ilB p = ⟨#[]⟩ by simp [ilB, hp]]
    refine path_ok mixed Try.func14 hc (lIn p) ?_
    simp only [All]
    repeat' (first | exact trivial | with_reducible apply And.intro)
    all_goals (first | exact aG _ | exact aP _ _ | exact aA _ _ | exact aE _ | omega | rfl | (intros; first | assumption | exact True.intro | rfl | exact absurd (show false = true by assumption) Bool.false_ne_true | ((repeat' (first | assumption | apply anda | apply notf)); done)) | (exact c1))
  | true =>
    rw [hp] at c1
    have ok := pin_ok hp
    have hnb := ok.nb
    have hfr := frG_in p
    have hst := stR_n p
    have hw := wbD_in p p.1.2.1.1
    have c2 := con_FormatInt_i p.1.2.1.1 (by omega) (by omega)
    have c3 := con_PinnedFreedom_i p hs
    have c4 := con_FormatInt_i (frG p) (by omega) (by omega)
    have c5 := con_Steady_i p hs
    have c6 := con_FormatInt_i (stR p).1 (by omega) (by omega)
    have c7 := con_Worst_i p hp
    have c8 := con_FormatInt_i (wbD p p.1.2.1.1).2 (by omega) (by omega)
    have s1 := fmt_size p.1.2.1.1
    have s2 := fmt_size (frG p)
    have s3 := fmt_size (stR p).1
    have s5 := fmt_size (wbD p p.1.2.1.1).2
    by_cases hw0 : (wbD p p.1.2.1.1).1 < 0
    · rw [show ilB p = ((((kBars ++ fmtI p.1.2.1.1) ++ kFree) ++ fmtI (frG p)) ++ kSteady) ++ fmtI (stR p).1 by simp [ilB, hp, hw0]]
      have hd : decide ((wbD p p.1.2.1.1).1 ≥ 0) = false := decide_eq_false (by omega)
      generalize wbD p p.1.2.1.1 = w at *
      generalize stR p = S at *
      generalize frG p = fr at *
      generalize fmtI p.1.2.1.1 = f1 at *
      generalize fmtI fr = f2 at *
      generalize fmtI S.1 = f3 at *
      refine path_ok mixed Try.func14 hc (lIb p fr w.1 w.2 S.1 S.2 f1 f2 f3) ?_
      simp only [All]
      repeat' (first | exact trivial | with_reducible apply And.intro)
      all_goals (first | exact aG _ | exact aP _ _ | exact aA _ _ | exact aE _ | omega | rfl | (intros; first | assumption | exact True.intro | rfl | exact absurd (show false = true by assumption) Bool.false_ne_true | ((repeat' (first | assumption | apply anda | apply notf)); done)) | (exact c1) | (exact c2) | (exact c3) | (exact c4) | (exact c5) | (exact c6) | (exact c7) | (exact hd) | (simp only [ByteArray.size_append, kBars_z, kFree_z, kSteady_z, kWorst_z, kDrops_z, kDash_z]; omega))
    · rw [show ilB p = ((((((((kBars ++ fmtI p.1.2.1.1) ++ kFree) ++ fmtI (frG p)) ++ kSteady) ++ fmtI (stR p).1) ++ kWorst) ++ enB (p.1.2.1.2 (wbD p p.1.2.1.1).1.toNat)) ++ kDrops) ++ fmtI (wbD p p.1.2.1.1).2 by simp [ilB, hp, hw0]]
      have hd : decide ((wbD p p.1.2.1.1).1 ≥ 0) = true := decide_eq_true (by omega)
      have hb := ok.bars (wbD p p.1.2.1.1).1.toNat (by omega)
      have hN := ok.N
      have c9 := con_ends (p.1.2.1.2 (wbD p p.1.2.1.1).1.toNat) (by omega) (by omega)
      have s4 := enB_size (p.1.2.1.2 (wbD p p.1.2.1.1).1.toNat)
      generalize enB (p.1.2.1.2 (wbD p p.1.2.1.1).1.toNat) = f4 at *
      generalize wbD p p.1.2.1.1 = w at *
      generalize stR p = S at *
      generalize frG p = fr at *
      generalize fmtI p.1.2.1.1 = f1 at *
      generalize fmtI fr = f2 at *
      generalize fmtI S.1 = f3 at *
      generalize fmtI w.2 = f5 at *
      refine path_ok mixed Try.func14 hc (lIa p fr w.1 w.2 S.1 S.2 f1 f2 f3 f4 f5) ?_
      simp only [All]
      repeat' (first | exact trivial | with_reducible apply And.intro)
      all_goals (first | exact aG _ | exact aP _ _ | exact aA _ _ | exact aE _ | omega | rfl | (intros; first | assumption | exact True.intro | rfl | exact absurd (show false = true by assumption) Bool.false_ne_true | ((repeat' (first | assumption | apply anda | apply notf)); done)) | (exact c1) | (exact c2) | (exact c3) | (exact c4) | (exact c5) | (exact c6) | (exact c7) | (exact c8) | (exact c9) | (exact hd) | (simp only [ByteArray.size_append, kBars_z, kFree_z, kSteady_z, kWorst_z, kDrops_z, kDash_z]; omega))
theorem con_Inspect_s (p : T_Pinned) (hs : smS s_Pinned p) : Con Try.prog 12 0 [] [pinA p] [] (.p (.str (ilB p))) := by
  have c1 := con_IsPinned_s p hs
  refine con_start Try.func12 rfl (by kernel_rfl) rfl (fun c hc => ?_)
  cases hp : pinnedF p with
  | false =>
    rw [hp] at c1
    rw [show ilB p = ⟨#[]⟩ by simp [ilB, hp]]
    refine path_ok mixed Try.func12 hc (lSn p) ?_
    simp only [All]
    repeat' (first | exact trivial | with_reducible apply And.intro)
    all_goals (first | exact aG _ | exact aP _ _ | exact aA _ _ | exact aE _ | omega | rfl | (intros; first | assumption | exact True.intro | rfl | exact absurd (show false = true by assumption) Bool.false_ne_true | ((repeat' (first | assumption | apply anda | apply notf)); done)) | (exact c1))
  | true =>
    rw [hp] at c1
    have ok := pin_ok hp
    have hnb := ok.nb
    have hfr := frG_in p
    have hst := stR_n p
    have hw := wbD_in p p.1.2.1.1
    have c2 := con_FormatInt_s p.1.2.1.1 (by omega) (by omega)
    have c3 := con_PinnedFreedom_s p hs
    have c4 := con_FormatInt_s (frG p) (by omega) (by omega)
    have c5 := con_Steady_s p hs
    have c6 := con_FormatInt_s (stR p).1 (by omega) (by omega)
    have c7 := con_Worst_s p hp
    have c8 := con_FormatInt_s (wbD p p.1.2.1.1).2 (by omega) (by omega)
    have s1 := fmt_size p.1.2.1.1
    have s2 := fmt_size (frG p)
    have s3 := fmt_size (stR p).1
    have s5 := fmt_size (wbD p p.1.2.1.1).2
    by_cases hw0 : (wbD p p.1.2.1.1).1 < 0
    · rw [show ilB p = ((((kBars ++ fmtI p.1.2.1.1) ++ kFree) ++ fmtI (frG p)) ++ kSteady) ++ fmtI (stR p).1 by simp [ilB, hp, hw0]]
      have hd : decide ((wbD p p.1.2.1.1).1 ≥ 0) = false := decide_eq_false (by omega)
      generalize wbD p p.1.2.1.1 = w at *
      generalize stR p = S at *
      generalize frG p = fr at *
      generalize fmtI p.1.2.1.1 = f1 at *
      generalize fmtI fr = f2 at *
      generalize fmtI S.1 = f3 at *
      refine path_ok mixed Try.func12 hc (lSb p fr w.1 w.2 S.1 S.2 f1 f2 f3) ?_
      simp only [All]
      repeat' (first | exact trivial | with_reducible apply And.intro)
      all_goals (first | exact aG _ | exact aP _ _ | exact aA _ _ | exact aE _ | omega | rfl | (intros; first | assumption | exact True.intro | rfl | exact absurd (show false = true by assumption) Bool.false_ne_true | ((repeat' (first | assumption | apply anda | apply notf)); done)) | (exact c1) | (exact c2) | (exact c3) | (exact c4) | (exact c5) | (exact c6) | (exact c7) | (exact hd) | (simp only [ByteArray.size_append, kBars_z, kFree_z, kSteady_z, kWorst_z, kDrops_z, kDash_z]; omega))
    · have hb := ok.bars (wbD p p.1.2.1.1).1.toNat (by omega)
      have hN := ok.N
      have he : ilB p = (((((((((((kBars ++ fmtI p.1.2.1.1) ++ kFree) ++ fmtI (frG p)) ++ kSteady) ++ fmtI (stR p).1) ++ kWorst) ++ fmtI (p.1.2.1.2 (wbD p p.1.2.1.1).1.toNat).1) ++ kDash) ++ fmtI (p.1.2.1.2 (wbD p p.1.2.1.1).1.toNat).2.1) ++ kDrops) ++ fmtI (wbD p p.1.2.1.1).2) := by
        unfold ilB
        rw [if_pos hp, if_neg hw0, enB, if_neg (by omega), if_pos (by omega)]
        simp only [ByteArray.append_assoc]
      rw [he]
      have hd : decide ((wbD p p.1.2.1.1).1 ≥ 0) = true := decide_eq_true (by omega)
      have c9 := con_FormatInt_s (p.1.2.1.2 (wbD p p.1.2.1.1).1.toNat).1 (by omega) (by omega)
      have c10 := con_FormatInt_s (p.1.2.1.2 (wbD p p.1.2.1.1).1.toNat).2.1 (by omega) (by omega)
      have s4 := fmt_size (p.1.2.1.2 (wbD p p.1.2.1.1).1.toNat).1
      have s6 := fmt_size (p.1.2.1.2 (wbD p p.1.2.1.1).1.toNat).2.1
      generalize fmtI (p.1.2.1.2 (wbD p p.1.2.1.1).1.toNat).1 = f4 at *
      generalize fmtI (p.1.2.1.2 (wbD p p.1.2.1.1).1.toNat).2.1 = f6 at *
      generalize wbD p p.1.2.1.1 = w at *
      generalize stR p = S at *
      generalize frG p = fr at *
      generalize fmtI p.1.2.1.1 = f1 at *
      generalize fmtI fr = f2 at *
      generalize fmtI S.1 = f3 at *
      generalize fmtI w.2 = f5 at *
      refine path_ok mixed Try.func12 hc (lSa p fr w.1 w.2 S.1 S.2 f1 f2 f3 f4 f6 f5) ?_
      simp only [All]
      repeat' (first | exact trivial | with_reducible apply And.intro)
      all_goals (first | exact aG _ | exact aP _ _ | exact aA _ _ | exact aE _ | omega | rfl | (intros; first | assumption | exact True.intro | rfl | exact absurd (show false = true by assumption) Bool.false_ne_true | ((repeat' (first | assumption | apply anda | apply notf)); done)) | (exact c1) | (exact c2) | (exact c3) | (exact c4) | (exact c5) | (exact c6) | (exact c7) | (exact c8) | (exact c9) | (exact c10) | (exact hd) | (simp only [ByteArray.size_append, kBars_z, kFree_z, kSteady_z, kWorst_z, kDrops_z, kDash_z]; omega))
end Go.Proofs.Ytgdbnnmogddkaaa.Mach
namespace Go.Proofs.Ytgdbnnmogddkaaa.Mach
open Go
set_option linter.unusedVariables false
set_option linter.unusedSimpArgs false
theorem p_FnExactInspectLine_0 (v0 : T_Pinned) :
    pathOb Try.prog Try.f3 0 [.reg [oT, oT], .reg [oT], .reg [oT, oT, ⟨true, (some ⟨[], [], [], 1, [], .p (.int .i64 (f_szPinned v0 1048576))⟩), none⟩, oT], .reg [oT, oT], .dec true, .reg [oT]] [.code (bodyOf Try.f3)] (start Try.f3 [] 0 [.agg [.p (.int .i64 v0.1.1), .p (.seq true 2 v0.1.2.1.1 (fun i => [.int .i64 ((v0.1.2.1.2 i).1), .int .i64 ((v0.1.2.1.2 i).2.1)])), .p (.seq true 1 v0.2.1.1 (fun i => [.int .i64 (v0.2.1.2 i)]))]]) [] 1 [] (.p (.bool true)) =
    some [((0 : Nat) < 1),
  Con Try.prog 11 0 [] [.agg [.p (.int .i64 v0.1.1), .p (.seq true 2 v0.1.2.1.1 (fun i => [.int .i64 ((v0.1.2.1.2 i).1), .int .i64 ((v0.1.2.1.2 i).2.1)])), .p (.seq true 1 v0.2.1.1 (fun i => [.int .i64 (v0.2.1.2 i)]))], .p (.int .i64 1048576)] [] (.p (.int .i64 (f_szPinned v0 1048576))),
  ((decide (f_szPinned v0 1048576 < 0)) = true),
  (true = true)] := by kernel_rfl
theorem p_FnExactInspectLine_e (v0 : T_Pinned) :
    pathOb Try.prog Try.f3 0 [.reg [oT, oT], .reg [oT], .reg [oT, oT, ⟨true, (some ⟨[], [], [], 1, [], .p (.int .i64 (f_szPinned v0 1048576))⟩), none⟩, oT], .reg [oT, oT], .dec false, .reg [oT, ⟨true, (some ⟨[], [], [], 1, [(0, ⟨false, 2, v0.1.2.1.1, fun i => [.p (.int .i64 ((v0.1.2.1.2 i).1)), .p (.int .i64 ((v0.1.2.1.2 i).2.1))]⟩), (1, ⟨false, 1, v0.2.1.1, fun i => [.p (.int .i64 (v0.2.1.2 i))]⟩)], .agg [.p (.int .i64 v0.1.1), .ar 2 0 0 v0.1.2.1.1, .ar 1 1 0 v0.2.1.1]⟩), none⟩, ⟨true, (some ⟨[], [], [], 1, [], .p (.str (ilB v0))⟩), none⟩, oT], .reg [oT, ⟨true, (some ⟨[], [], [], 1, [(0, ⟨false, 2, v0.1.2.1.1, fun i => [.p (.int .i64 ((v0.1.2.1.2 i).1)), .p (.int .i64 ((v0.1.2.1.2 i).2.1))]⟩), (1, ⟨false, 1, v0.2.1.1, fun i => [.p (.int .i64 (v0.2.1.2 i))]⟩)], .agg [.p (.int .i64 v0.1.1), .ar 2 0 0 v0.1.2.1.1, .ar 1 1 0 v0.2.1.1]⟩), none⟩, oT, oT], .reg [oT, ⟨true, (some ⟨[], [], [], 1, [], .p (.str (ilB v0))⟩), none⟩, oT], .reg [oT, oT, oT], .dec false, .reg [oT, oT, ⟨true, (some ⟨[], [], [], 1, [(0, ⟨false, 2, v0.1.2.1.1, fun i => [.p (.int .i64 ((v0.1.2.1.2 i).1)), .p (.int .i64 ((v0.1.2.1.2 i).2.1))]⟩), (1, ⟨false, 1, v0.2.1.1, fun i => [.p (.int .i64 (v0.2.1.2 i))]⟩)], .agg [.p (.int .i64 v0.1.1), .ar 2 0 0 v0.1.2.1.1, .ar 1 1 0 v0.2.1.1]⟩), none⟩, ⟨true, (some ⟨[], [], [], 1, [], .p (.bool true)⟩), none⟩, oT], .dec false, .reg [oT]] [.code (bodyOf Try.f3)] (start Try.f3 [] 0 [.agg [.p (.int .i64 v0.1.1), .p (.seq true 2 v0.1.2.1.1 (fun i => [.int .i64 ((v0.1.2.1.2 i).1), .int .i64 ((v0.1.2.1.2 i).2.1)])), .p (.seq true 1 v0.2.1.1 (fun i => [.int .i64 (v0.2.1.2 i)]))]]) [] 1 [] (.p (.bool true)) =
    some [((0 : Nat) < 1),
  Con Try.prog 11 0 [] [.agg [.p (.int .i64 v0.1.1), .p (.seq true 2 v0.1.2.1.1 (fun i => [.int .i64 ((v0.1.2.1.2 i).1), .int .i64 ((v0.1.2.1.2 i).2.1)])), .p (.seq true 1 v0.2.1.1 (fun i => [.int .i64 (v0.2.1.2 i)]))], .p (.int .i64 1048576)] [] (.p (.int .i64 (f_szPinned v0 1048576))),
  ((decide (f_szPinned v0 1048576 < 0)) = false),
  ((0 : Nat) < 1),
  Con Try.prog 13 0 [] [.agg [.p (.int .i64 v0.1.1), .p (.seq true 2 v0.1.2.1.1 (fun i => [.int .i64 ((v0.1.2.1.2 i).1), .int .i64 ((v0.1.2.1.2 i).2.1)])), .p (.seq true 1 v0.2.1.1 (fun i => [.int .i64 (v0.2.1.2 i)]))]] [(0, ⟨false, 2, v0.1.2.1.1, (fun i => [.p (.int .i64 ((v0.1.2.1.2 i).1)), .p (.int .i64 ((v0.1.2.1.2 i).2.1))])⟩), (1, ⟨false, 1, v0.2.1.1, (fun i => [.p (.int .i64 (v0.2.1.2 i))])⟩)] (.agg [.p (.int .i64 v0.1.1), .ar 2 0 0 v0.1.2.1.1, .ar 1 1 0 v0.2.1.1]),
  (AN 2),
  ((v0.1.2.1.1 : Nat) ≤ v0.1.2.1.1),
  (AN 1),
  ((v0.2.1.1 : Nat) ≤ v0.2.1.1),
  Con Try.prog 12 0 [] [.agg [.p (.int .i64 v0.1.1), .p (.seq true 2 v0.1.2.1.1 (fun i => [.int .i64 ((v0.1.2.1.2 i).1), .int .i64 ((v0.1.2.1.2 i).2.1)])), .p (.seq true 1 v0.2.1.1 (fun i => [.int .i64 (v0.2.1.2 i)]))]] [] (.p (.str (ilB v0))),
  ((0 : Nat) < 1),
  Con Try.prog 13 0 [] [.agg [.p (.int .i64 v0.1.1), .p (.seq true 2 v0.1.2.1.1 (fun i => [.int .i64 ((v0.1.2.1.2 i).1), .int .i64 ((v0.1.2.1.2 i).2.1)])), .p (.seq true 1 v0.2.1.1 (fun i => [.int .i64 (v0.2.1.2 i)]))]] [(0, ⟨false, 2, v0.1.2.1.1, (fun i => [.p (.int .i64 ((v0.1.2.1.2 i).1)), .p (.int .i64 ((v0.1.2.1.2 i).2.1))])⟩), (1, ⟨false, 1, v0.2.1.1, (fun i => [.p (.int .i64 (v0.2.1.2 i))])⟩)] (.agg [.p (.int .i64 v0.1.1), .ar 2 0 0 v0.1.2.1.1, .ar 1 1 0 v0.2.1.1]),
  ((0 : Nat) < 1),
  ((true = true) → (AN 1)),
  ((0 : Nat) < 1),
  (AN 2),
  ((v0.1.2.1.1 : Nat) ≤ v0.1.2.1.1),
  (AN 1),
  ((v0.2.1.1 : Nat) ≤ v0.2.1.1),
  Con Try.prog 14 0 [] [.agg [.p (.int .i64 v0.1.1), .p (.seq true 2 v0.1.2.1.1 (fun i => [.int .i64 ((v0.1.2.1.2 i).1), .int .i64 ((v0.1.2.1.2 i).2.1)])), .p (.seq true 1 v0.2.1.1 (fun i => [.int .i64 (v0.2.1.2 i)]))]] [] (.p (.str (ilB v0))),
  ((!(ilB v0).toList == (ilB v0).toList) = false),
  ((0 : Nat) < 1),
  ((0 : Nat) < 1),
  Con Try.prog 13 0 [] [.agg [.p (.int .i64 v0.1.1), .p (.seq true 2 v0.1.2.1.1 (fun i => [.int .i64 ((v0.1.2.1.2 i).1), .int .i64 ((v0.1.2.1.2 i).2.1)])), .p (.seq true 1 v0.2.1.1 (fun i => [.int .i64 (v0.2.1.2 i)]))]] [(0, ⟨false, 2, v0.1.2.1.1, (fun i => [.p (.int .i64 ((v0.1.2.1.2 i).1)), .p (.int .i64 ((v0.1.2.1.2 i).2.1))])⟩), (1, ⟨false, 1, v0.2.1.1, (fun i => [.p (.int .i64 (v0.2.1.2 i))])⟩)] (.agg [.p (.int .i64 v0.1.1), .ar 2 0 0 v0.1.2.1.1, .ar 1 1 0 v0.2.1.1]),
  (AN 2),
  ((v0.1.2.1.1 : Nat) ≤ v0.1.2.1.1),
  (AN 1),
  ((v0.2.1.1 : Nat) ≤ v0.2.1.1),
  (AN 2),
  ((v0.1.2.1.1 : Nat) ≤ v0.1.2.1.1),
  (AN 1),
  ((v0.2.1.1 : Nat) ≤ v0.2.1.1),
  Con Try.prog 15 0 [] [.agg [.p (.int .i64 v0.1.1), .p (.seq true 2 v0.1.2.1.1 (fun i => [.int .i64 ((v0.1.2.1.2 i).1), .int .i64 ((v0.1.2.1.2 i).2.1)])), .p (.seq true 1 v0.2.1.1 (fun i => [.int .i64 (v0.2.1.2 i)]))], .agg [.p (.int .i64 v0.1.1), .p (.seq true 2 v0.1.2.1.1 (fun i => [.int .i64 ((v0.1.2.1.2 i).1), .int .i64 ((v0.1.2.1.2 i).2.1)])), .p (.seq true 1 v0.2.1.1 (fun i => [.int .i64 (v0.2.1.2 i)]))]] [] (.p (.bool true)),
  ((!true) = false),
  (true = true)] := by kernel_rfl
theorem con_law_FnExactInspectLine (v0 : T_Pinned) (k0 : okS s_Pinned v0) : Con Try.prog 3 0 [] [.agg [.p (.int .i64 v0.1.1), .p (.seq true 2 v0.1.2.1.1 (fun i => [.int .i64 ((v0.1.2.1.2 i).1), .int .i64 ((v0.1.2.1.2 i).2.1)])), .p (.seq true 1 v0.2.1.1 (fun i => [.int .i64 (v0.2.1.2 i)]))]] [] (.p (.bool true)) := by
  refine con_start Try.func3 rfl (by kernel_rfl) rfl (fun c hc => ?_)
  have l0 := le_szPinned v0 1048576 (by omega)
  by_cases g0 : (f_szPinned v0 1048576) < 0
  · refine path_ok mixed Try.func3 hc (p_FnExactInspectLine_0 v0) ?_
    simp only [All]
    repeat' (first | exact trivial | with_reducible apply And.intro)
    all_goals (first | exact aG _ | exact aP _ _ | exact aA _ _ | exact aE _ | omega | rfl | (intros; first | assumption | exact True.intro | rfl | exact absurd (show false = true by assumption) Bool.false_ne_true | ((repeat' (first | assumption | apply anda | apply notf)); done)) | (exact con_szPinned v0 k0 _ (by omega) (by omega)) | (simp; omega))
  have hs0 := sm_szPinned v0 1048576 (by omega) (by omega) g0
  refine path_ok mixed Try.func3 hc (p_FnExactInspectLine_e v0) ?_
  simp only [All]
  repeat' (first | exact trivial | with_reducible apply And.intro)
  all_goals (first | exact aG _ | exact aP _ _ | exact aA _ _ | exact aE _ | omega | rfl | (intros; first | assumption | exact True.intro | rfl | exact absurd (show false = true by assumption) Bool.false_ne_true | ((repeat' (first | assumption | apply anda | apply notf)); done)) | (exact con_szPinned v0 k0 _ (by omega) (by omega)) | (exact con_toPinned v0 hs0) | (exact con_Inspect_s v0 hs0) | (exact con_Inspect_i v0 hs0) | (exact con_eqPinned v0 hs0) | (simp; try omega))
end Go.Proofs.Ytgdbnnmogddkaaa.Mach
