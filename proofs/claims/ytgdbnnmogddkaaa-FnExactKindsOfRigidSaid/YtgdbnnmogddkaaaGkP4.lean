/- What the law Gk needs, part 4 of 5: the abstract machine and the contracts of the functions. Conditions: as each theorem says. -/
import Derived.Test.YtgdbnnmogddkaaaGkP3
namespace Go.Proofs.Ytgdbnnmogddkaaa.Mach
open Go Go.Sort
set_option linter.unusedVariables false
set_option linter.unusedSimpArgs false
abbrev NL := Nat × (Nat → Int)
def snJ (n : Nat) (h : Nat → Int) (x : Int) (s : Nat) : Int := if s < n then h s else x
def snL (r : NL) (x : Int) : NL := (r.1 + 1, snJ r.1 r.2 x)
def zNL : NL := (0, fun _ => 0)
def rlOb (n : Nat) (C : Nat → NL) : Ob := ⟨false, 1, n, fun i => [.p (.seq false 1 (C i).1 (fun s => [.int .i64 ((C i).2 s)]))]⟩
def rlL (r : NL) : AV := .p (.seq true 1 r.1 (fun s => [.int .i64 (r.2 s)]))
def brLs (g : Nat → T_Bar) (nb : Nat) : AV := .p (.seq true 2 nb (fun i => [.int .i64 (g i).1, .int .i64 (g i).2.1]))
def cgO (v : T_Graph) : Ob := ⟨true, 2, 1, fun _ => [.p (.int .i64 v.1), .p (.seq false 2 v.2.1.1 (fun i => [.int .i64 (v.2.1.2 i).1, .int .i64 (v.2.1.2 i).2.1]))]⟩
def cbO (N : Int) (o n : Nat) : Ob := ⟨true, 2, 1, fun _ => [.p (.int .i64 N), .ar 2 o 0 n]⟩
def ctO (a b t : Nat) : Ob := ⟨true, 1, 1, fun _ => [.clo 79 [.pt 2 a 0 0, .pt 2 b 0 0, .pt 1 t 0 0]]⟩
def SKf (n : Nat) (h b : Nat → T_Bar) (k : Nat) : St :=
  ⟨[brLs h n, brLs b n, .p (.fn 82)] ++ List.replicate 8 anyA ++ [brLs h n, .p (.int .i64 n), .p (.int .i64 k)] ++ List.replicate 25 anyA, [], 0⟩
def SKb (v u : T_Graph) (k : Nat) : St :=
  ⟨[graphA v, graphA u, .pt 2 0 0 0, .pt 2 1 0 0, .p .any, .p (.int .i64 k)] ++ List.replicate 36 anyA, [(0, boxG v), (1, boxG u)], 2⟩
def SKt (v : T_Graph) (r : NL) (k o : Nat) (b : Nat → T_Bar) : St :=
  ⟨[rlL r, .pt 2 0 0 0, .pt 2 1 0 0, .pt 1 2 0 0] ++ List.replicate 23 anyA ++ [.p (.int .i64 v.1), .p (.int .i64 k)] ++ List.replicate 14 anyA,
   [(0, cgO v), (1, cbO v.1 4 v.2.1.1), (2, ctO 0 1 2), (4, brOb v.2.1.1 b)], 5⟩
def SKo (n : Int) (i m : Nat) (C : Nat → NL) : St :=
  ⟨[.p (.int .i64 n), .p .any, .p .any, .ar 1 0 0 m, .p (.int .i64 i)] ++ List.replicate 43 anyA, [(0, rlOb m C)], 1⟩
def SKp (n : Int) (i m k q : Nat) (C D : Nat → NL) : St :=
  ⟨[.p (.int .i64 n), .p .any, .p .any, .ar 1 0 0 m, .p (.int .i64 i), .ar 1 1 0 q, .p (.int .i64 k)] ++ List.replicate 41 anyA, [(0, rlOb m C), (1, rlOb q D)], 2⟩
def SKq (n : Int) (i m k q x : Nat) (C D : Nat → NL) : St :=
  ⟨[.p (.int .i64 n), .p .any, .p .any, .ar 1 0 0 m, .p (.int .i64 i), .ar 1 1 0 q, .p (.int .i64 k), .p (.int .i64 x)] ++ List.replicate 40 anyA, [(0, rlOb m C), (1, rlOb q D)], 2⟩
def SKc (v : T_Graph) (i m : Nat) (C : Nat → NL) (b : Nat → T_Bar) : St :=
  ⟨[graphA v, .pt 2 0 0 0, .pt 2 1 0 0, .p (.bool false), .pt 2 2 0 0, .ar 1 3 0 m, .p (.int .i64 i)] ++ List.replicate 36 anyA,
   [(0, boxG v), (1, zG2), (2, cbO v.1 4 v.2.1.1), (3, rlOb m C), (4, brOb v.2.1.1 b)], 5⟩
def nqB (a b : T_Bar) : Bool := !((a.1 == b.1) && ((a.2.1 == b.2.1) && true))
theorem cFz (n : Nat) (h b : Nat → T_Bar) :
    pieceOb Try.prog 0 [.reg [oT], .reg [oT, oT, oT], .head] [.code (bodyOf Try.f81)] (start Try.f81 [] 0 [brLs h n, brLs b n, .p (.fn 82)]) [] 1 (SKf n h b 0) =
    some ([.code (cAt (bodyOf Try.f81) [1, 0, 1, 0, 0]), .inLoop (cAt (bodyOf Try.f81) [1, 0, 1, 0, 0]), .inBlock 0, .code (cAt (bodyOf Try.f81) [1, 1])], [(AN n),
  (AP n (fun i => [.int .i64 ((h i).1), .int .i64 ((h i).2.1)])),
  (AN n),
  (AP n (fun i => [.int .i64 ((b i).1), .int .i64 ((b i).2.1)])),
  (82 = 82),
  (AN n),
  (AP n (fun i => [.int .i64 ((h i).1), .int .i64 ((h i).2.1)])),
  (AI ((↑n : Int))),
  ((0 : Int) = (↑0 : Int))]) := by kernel_rfl
theorem cFa (n : Nat) (h b : Nat → T_Bar) (k : Nat) (q : Int) :
    pieceOb Try.prog 0 [.reg [oT], .dec true, .reg [oT, oT, oT, oT, oT, oT], .reg [oT, oT, oT, oT], .dec false, .reg [oT, oT, oT, oT, oT, oT], .reg [oT, oT, oT, ⟨true, (some ⟨[], [], [], 1, [], .p (.int .i64 q)⟩), none⟩, oT], .reg [oT, oT], .dec false, .reg [oT, oT], .head] [.code (cAt (bodyOf Try.f81) [1, 0, 1, 0, 0]), .inLoop (cAt (bodyOf Try.f81) [1, 0, 1, 0, 0]), .inBlock 0, .code (cAt (bodyOf Try.f81) [1, 1])] (SKf n h b k) [] 1 (SKf n h b (k + 1)) =
    some ([.code (cAt (bodyOf Try.f81) [1, 0, 1, 0, 0]), .inLoop (cAt (bodyOf Try.f81) [1, 0, 1, 0, 0]), .inBlock 0, .code (cAt (bodyOf Try.f81) [1, 1])], [((decide ((↑k : Int) < (↑n : Int))) = true),
  ((0 : Int) ≤ (↑k : Int)),
  (((↑k : Int) : Int) < (↑n : Int)),
  ((0 : Nat) < 1),
  ((true = true) → (AN 1)),
  ((decide ((↑k : Int) ≥ (↑n : Int))) = false),
  ((0 : Int) ≤ (↑k : Int)),
  (((↑k : Int) : Int) < (↑n : Int)),
  ((0 : Nat) < 1),
  ((true = true) → (AN 1)),
  ((0 : Nat) < 1),
  ((0 : Nat) < 1),
  Con Try.prog 82 0 [] [.agg [.p (.int .i64 ((h k).1)), .p (.int .i64 ((h k).2.1))], .agg [.p (.int .i64 ((b k).1)), .p (.int .i64 ((b k).2.1))]] [] (.p (.int .i64 q)),
  ((q != 0) = false),
  (((-9223372036854775808) : Int) ≤ ((↑k : Int) + 1)),
  ((((↑k : Int) + 1) : Int) ≤ 9223372036854775807),
  (AN n),
  (AP n (fun i => [.int .i64 ((h i).1), .int .i64 ((h i).2.1)])),
  (AN n),
  (AP n (fun i => [.int .i64 ((b i).1), .int .i64 ((b i).2.1)])),
  (82 = 82),
  (AN n),
  (AP n (fun i => [.int .i64 ((h i).1), .int .i64 ((h i).2.1)])),
  (AI ((↑n : Int))),
  ((((↑k : Int) + 1) : Int) = (↑(k + 1) : Int))]) := by kernel_rfl
theorem cFb (n : Nat) (h b : Nat → T_Bar) (k : Nat) (q : Int) :
    pathOb Try.prog Try.f81 0 [.reg [oT], .dec true, .reg [oT, oT, oT, oT, oT, oT], .reg [oT, oT, oT, oT], .dec false, .reg [oT, oT, oT, oT, oT, oT], .reg [oT, oT, oT, ⟨true, (some ⟨[], [], [], 1, [], .p (.int .i64 q)⟩), none⟩, oT], .reg [oT, oT], .dec true, .reg [oT, oT]] [.code (cAt (bodyOf Try.f81) [1, 0, 1, 0, 0]), .inLoop (cAt (bodyOf Try.f81) [1, 0, 1, 0, 0]), .inBlock 0, .code (cAt (bodyOf Try.f81) [1, 1])] (SKf n h b k) [] 1 [] (.p (.int .i64 q)) =
    some [((decide ((↑k : Int) < (↑n : Int))) = true),
  ((0 : Int) ≤ (↑k : Int)),
  (((↑k : Int) : Int) < (↑n : Int)),
  ((0 : Nat) < 1),
  ((true = true) → (AN 1)),
  ((decide ((↑k : Int) ≥ (↑n : Int))) = false),
  ((0 : Int) ≤ (↑k : Int)),
  (((↑k : Int) : Int) < (↑n : Int)),
  ((0 : Nat) < 1),
  ((true = true) → (AN 1)),
  ((0 : Nat) < 1),
  ((0 : Nat) < 1),
  Con Try.prog 82 0 [] [.agg [.p (.int .i64 ((h k).1)), .p (.int .i64 ((h k).2.1))], .agg [.p (.int .i64 ((b k).1)), .p (.int .i64 ((b k).2.1))]] [] (.p (.int .i64 q)),
  ((q != 0) = true),
  (AI q)] := by kernel_rfl
theorem cFe (n : Nat) (h b : Nat → T_Bar) (k : Nat) :
    pathOb Try.prog Try.f81 0 [.reg [oT], .dec false, .reg [oT, oT, oT, oT, oT], .dec false, .reg [oT]] [.code (cAt (bodyOf Try.f81) [1, 0, 1, 0, 0]), .inLoop (cAt (bodyOf Try.f81) [1, 0, 1, 0, 0]), .inBlock 0, .code (cAt (bodyOf Try.f81) [1, 1])] (SKf n h b k) [] 1 [] (.p (.int .i64 0)) =
    some [((decide ((↑k : Int) < (↑n : Int))) = false),
  ((decide ((↑n : Int) < (↑n : Int))) = false),
  (AI 0)] := by kernel_rfl
theorem cBz (v u : T_Graph) :
    pieceOb Try.prog 0 [.reg [oT, oT, oT], .reg [oT], .head] [.code (bodyOf Try.f76)] (start Try.f76 [] 0 [graphA v, graphA u]) [0, 32] 1 (SKb v u 0) =
    some ([.code (cAt (bodyOf Try.f76) [1, 0, 1, 0, 0]), .inLoop (cAt (bodyOf Try.f76) [1, 0, 1, 0, 0]), .inBlock 0, .code (cAt (bodyOf Try.f76) [1, 1])], [(AI v.1),
  (AN v.2.1.1),
  (AP v.2.1.1 (fun i => [.int .i64 ((v.2.1.2 i).1), .int .i64 ((v.2.1.2 i).2.1)])),
  (AI u.1),
  (AN u.2.1.1),
  (AP u.2.1.1 (fun i => [.int .i64 ((u.2.1.2 i).1), .int .i64 ((u.2.1.2 i).2.1)])),
  (AN 0),
  (AN 0),
  ((0 : Int) = (↑0 : Int)),
  ((([AV.p (PV.int IntKind.i64 v.1), graphL v.2.1].length) : Nat) = 2),
  ((1 : Nat) ≤ 1),
  ((1 : Nat) ≤ 1),
  (AI v.1),
  (AN v.2.1.1),
  (AP v.2.1.1 (fun i => [.int .i64 ((v.2.1.2 i).1), .int .i64 ((v.2.1.2 i).2.1)])),
  ((([AV.p (PV.int IntKind.i64 u.1), graphL u.2.1].length) : Nat) = 2),
  ((1 : Nat) ≤ 1),
  ((1 : Nat) ≤ 1),
  (AI u.1),
  (AN u.2.1.1),
  (AP u.2.1.1 (fun i => [.int .i64 ((u.2.1.2 i).1), .int .i64 ((u.2.1.2 i).2.1)]))]) := by kernel_rfl
theorem cBa (v u : T_Graph) (k : Nat) :
    pieceOb Try.prog 0 [.reg [oT, oT, oT, oT, oT, oT, oT, oT, oT, oT, oT, oT], .dec true, .reg [oT, oT, oT, oT, oT, oT, oT, oT, oT, oT, oT], .dec false, .reg [oT, oT, oT], .head] [.code (cAt (bodyOf Try.f76) [1, 0, 1, 0, 0]), .inLoop (cAt (bodyOf Try.f76) [1, 0, 1, 0, 0]), .inBlock 0, .code (cAt (bodyOf Try.f76) [1, 1])] (SKb v u k) [0, 1] 1 (SKb v u (k + 1)) =
    some ([.code (cAt (bodyOf Try.f76) [1, 0, 1, 0, 0]), .inLoop (cAt (bodyOf Try.f76) [1, 0, 1, 0, 0]), .inBlock 0, .code (cAt (bodyOf Try.f76) [1, 1])], [((0 : Nat) < 1),
  (AG (decide ((↑k : Int) < (↑v.2.1.1 : Int)))),
  (((decide ((↑k : Int) < (↑v.2.1.1 : Int))) = true) → ((0 : Nat) < 1)),
  (AG (decide ((↑k : Int) < (↑v.2.1.1 : Int)))),
  (AG (decide ((↑k : Int) < (↑v.2.1.1 : Int)))),
  (AG (decide ((↑k : Int) < (↑v.2.1.1 : Int)))),
  (AG (decide ((↑k : Int) < (↑v.2.1.1 : Int)))),
  ((bif decide ((↑k : Int) < (↑v.2.1.1 : Int)) then decide ((↑k : Int) < (↑u.2.1.1 : Int)) else false) = true),
  ((0 : Nat) < 1),
  ((0 : Int) ≤ (↑k : Int)),
  (((↑k : Int) : Int) < (↑v.2.1.1 : Int)),
  ((0 : Nat) < 1),
  ((0 : Int) ≤ (↑k : Int)),
  (((↑k : Int) : Int) < (↑u.2.1.1 : Int)),
  ((!((v.2.1.2 k).1 == (u.2.1.2 k).1 && ((v.2.1.2 k).2.1 == (u.2.1.2 k).2.1 && true))) = false),
  (((-9223372036854775808) : Int) ≤ ((↑k : Int) + 1)),
  ((((↑k : Int) + 1) : Int) ≤ 9223372036854775807),
  (AI v.1),
  (AN v.2.1.1),
  (AP v.2.1.1 (fun i => [.int .i64 ((v.2.1.2 i).1), .int .i64 ((v.2.1.2 i).2.1)])),
  (AI u.1),
  (AN u.2.1.1),
  (AP u.2.1.1 (fun i => [.int .i64 ((u.2.1.2 i).1), .int .i64 ((u.2.1.2 i).2.1)])),
  (AN 0),
  (AN 0),
  ((((↑k : Int) + 1) : Int) = (↑(k + 1) : Int)),
  (AN 2),
  ((1 : Nat) ≤ 1),
  ((1 : Nat) ≤ 1),
  (AI v.1),
  (AN v.2.1.1),
  (AP v.2.1.1 (fun i => [.int .i64 ((v.2.1.2 i).1), .int .i64 ((v.2.1.2 i).2.1)])),
  (AN 2),
  ((1 : Nat) ≤ 1),
  ((1 : Nat) ≤ 1),
  (AI u.1),
  (AN u.2.1.1),
  (AP u.2.1.1 (fun i => [.int .i64 ((u.2.1.2 i).1), .int .i64 ((u.2.1.2 i).2.1)]))]) := by kernel_rfl
theorem cBb (v u : T_Graph) (k : Nat) (q : Bool) :
    pathOb Try.prog Try.f76 0 [.reg [oT, oT, oT, oT, oT, oT, oT, oT, oT, oT, oT, oT], .dec true, .reg [oT, oT, oT, oT, oT, oT, oT, oT, oT, oT, oT], .dec true, .reg [oT, oT, oT, oT, oT, oT, oT, oT, oT, oT, ⟨true, (some ⟨[], [], [], 1, [], .p (.bool q)⟩), none⟩, oT]] [.code (cAt (bodyOf Try.f76) [1, 0, 1, 0, 0]), .inLoop (cAt (bodyOf Try.f76) [1, 0, 1, 0, 0]), .inBlock 0, .code (cAt (bodyOf Try.f76) [1, 1])] (SKb v u k) [] 1 [] (.p (.bool q)) =
    some [((0 : Nat) < 1),
  (AG (decide ((↑k : Int) < (↑v.2.1.1 : Int)))),
  (((decide ((↑k : Int) < (↑v.2.1.1 : Int))) = true) → ((0 : Nat) < 1)),
  (AG (decide ((↑k : Int) < (↑v.2.1.1 : Int)))),
  (AG (decide ((↑k : Int) < (↑v.2.1.1 : Int)))),
  (AG (decide ((↑k : Int) < (↑v.2.1.1 : Int)))),
  (AG (decide ((↑k : Int) < (↑v.2.1.1 : Int)))),
  ((bif decide ((↑k : Int) < (↑v.2.1.1 : Int)) then decide ((↑k : Int) < (↑u.2.1.1 : Int)) else false) = true),
  ((0 : Nat) < 1),
  ((0 : Int) ≤ (↑k : Int)),
  (((↑k : Int) : Int) < (↑v.2.1.1 : Int)),
  ((0 : Nat) < 1),
  ((0 : Int) ≤ (↑k : Int)),
  (((↑k : Int) : Int) < (↑u.2.1.1 : Int)),
  ((!((v.2.1.2 k).1 == (u.2.1.2 k).1 && ((v.2.1.2 k).2.1 == (u.2.1.2 k).2.1 && true))) = true),
  ((0 : Nat) < 1),
  ((0 : Int) ≤ (↑k : Int)),
  (((↑k : Int) : Int) < (↑v.2.1.1 : Int)),
  ((0 : Nat) < 1),
  ((0 : Int) ≤ (↑k : Int)),
  (((↑k : Int) : Int) < (↑u.2.1.1 : Int)),
  Con Try.prog 113 0 [] [.agg [.p (.int .i64 ((v.2.1.2 k).1)), .p (.int .i64 ((v.2.1.2 k).2.1))], .agg [.p (.int .i64 ((u.2.1.2 k).1)), .p (.int .i64 ((u.2.1.2 k).2.1))]] [] (.p (.bool q)),
  (q = q)] := by kernel_rfl
theorem cBe (v u : T_Graph) (k : Nat) :
    pathOb Try.prog Try.f76 0 [.reg [oT, oT, oT, oT, oT, oT, oT, oT, oT, oT, oT, oT], .dec false, .reg [oT]] [.code (cAt (bodyOf Try.f76) [1, 0, 1, 0, 0]), .inLoop (cAt (bodyOf Try.f76) [1, 0, 1, 0, 0]), .inBlock 0, .code (cAt (bodyOf Try.f76) [1, 1])] (SKb v u k) [] 1 [] (.p (.bool false)) =
    some [((0 : Nat) < 1),
  (AG (decide ((↑k : Int) < (↑v.2.1.1 : Int)))),
  (((decide ((↑k : Int) < (↑v.2.1.1 : Int))) = true) → ((0 : Nat) < 1)),
  (AG (decide ((↑k : Int) < (↑v.2.1.1 : Int)))),
  (AG (decide ((↑k : Int) < (↑v.2.1.1 : Int)))),
  (AG (decide ((↑k : Int) < (↑v.2.1.1 : Int)))),
  (AG (decide ((↑k : Int) < (↑v.2.1.1 : Int)))),
  ((bif decide ((↑k : Int) < (↑v.2.1.1 : Int)) then decide ((↑k : Int) < (↑u.2.1.1 : Int)) else false) = false),
  (false = false)] := by kernel_rfl
theorem cTa (v : T_Graph) (r : NL) (b h : Nat → T_Bar) (q : Int) :
    pathOb Try.prog Try.f79 4 [.reg [oT, oT, oT, oT, oT], .dec true, .reg [oT, oT, ⟨true, (some ⟨[], [], [], 1, [(0, brOb v.2.1.1 h)], .tup [.agg [.p (.int .i64 v.1), .ar 2 0 0 v.2.1.1], .p (.bool true)]⟩), none⟩, oT, oT, oT, oT, oT, oT], .reg [oT, oT, oT, oT, ⟨true, (some ⟨[], [], [], 1, [], .p (.int .i64 q)⟩), none⟩, oT], .dec true, .reg [oT, oT]] [.code (bodyOf Try.f79)] (start Try.f79 ([(0, cgO v), (1, cbO v.1 3 v.2.1.1), (2, ctO 0 1 2), (3, brOb v.2.1.1 b)]) 4 [rlL r, .pt 2 0 0 0, .pt 2 1 0 0, .pt 1 2 0 0]) [0, 1, 2, 99999, 228] 1 [(0, cgO v), (1, cbO v.1 4 v.2.1.1), (2, ctO 0 1 2), (4, brOb v.2.1.1 h)] (.tup []) =
    some [((0 : Nat) < 1),
  (((↑r.1 : Int) == v.1) = true),
  ((0 : Nat) < 1),
  Con Try.prog 80 0 [] [.agg [.p (.int .i64 v.1), .p (.seq true 2 v.2.1.1 (fun i => [.int .i64 ((v.2.1.2 i).1), .int .i64 ((v.2.1.2 i).2.1)]))], .p (.seq true 1 r.1 (fun i => [.int .i64 (r.2 i)]))] [(0, ⟨false, 2, v.2.1.1, (fun i => [.p (.int .i64 ((h i).1)), .p (.int .i64 ((h i).2.1))])⟩)] (.tup [.agg [.p (.int .i64 v.1), .ar 2 0 0 v.2.1.1], .p (.bool true)]),
  ((0 : Nat) < 1),
  ((true = true) → (AN 1)),
  ((0 : Nat) < 1),
  ((0 : Nat) < 1),
  (AN 2),
  ((v.2.1.1 : Nat) ≤ v.2.1.1),
  (AN 2),
  ((v.2.1.1 : Nat) ≤ v.2.1.1),
  Con Try.prog 81 0 [] [.p (.seq true 2 v.2.1.1 (fun i => [.int .i64 ((h i).1), .int .i64 ((h i).2.1)])), .p (.seq true 2 v.2.1.1 (fun i => [.int .i64 ((b i).1), .int .i64 ((b i).2.1)])), .p (.fn 82)] [] (.p (.int .i64 q)),
  ((decide (q < 0)) = true),
  ((0 : Nat) < 1),
  ((0 : Nat) < 1),
  ((true = true) → (AN 1)),
  (AN 2),
  ((1 : Nat) ≤ 1),
  ((1 : Nat) ≤ 1),
  (AI v.1),
  (AN v.2.1.1),
  (AP v.2.1.1 (fun i => [.int .i64 ((v.2.1.2 i).1), .int .i64 ((v.2.1.2 i).2.1)])),
  (AN 2),
  ((1 : Nat) ≤ 1),
  ((1 : Nat) ≤ 1),
  (AI v.1),
  (AN 0),
  (AN v.2.1.1),
  (AN 1),
  ((1 : Nat) ≤ 1),
  ((1 : Nat) ≤ 1),
  (AN 0),
  (AN 0),
  (AN 0),
  (AN 2),
  ((v.2.1.1 : Nat) ≤ v.2.1.1),
  (AA v.2.1.1 (fun i => [.p (.int .i64 ((h i).1)), .p (.int .i64 ((h i).2.1))])),
  (∀ i : Nat, (((i : Nat) < 1) → All [(false = false), (AE v.2.1.1)])),
  (AE 1),
  (AE 1),
  (AE v.2.1.1)] := by kernel_rfl
theorem cTb (v : T_Graph) (r : NL) (b h : Nat → T_Bar) (q : Int) :
    pathOb Try.prog Try.f79 4 [.reg [oT, oT, oT, oT, oT], .dec true, .reg [oT, oT, ⟨true, (some ⟨[], [], [], 1, [(0, brOb v.2.1.1 h)], .tup [.agg [.p (.int .i64 v.1), .ar 2 0 0 v.2.1.1], .p (.bool true)]⟩), none⟩, oT, oT, oT, oT, oT, oT], .reg [oT, oT, oT, oT, ⟨true, (some ⟨[], [], [], 1, [], .p (.int .i64 q)⟩), none⟩, oT], .dec false] [.code (bodyOf Try.f79)] (start Try.f79 ([(0, cgO v), (1, cbO v.1 3 v.2.1.1), (2, ctO 0 1 2), (3, brOb v.2.1.1 b)]) 4 [rlL r, .pt 2 0 0 0, .pt 2 1 0 0, .pt 1 2 0 0]) [0, 1, 2, 99999, 3] 1 [(0, cgO v), (1, cbO v.1 4 v.2.1.1), (2, ctO 0 1 2), (4, brOb v.2.1.1 b)] (.tup []) =
    some [((0 : Nat) < 1),
  (((↑r.1 : Int) == v.1) = true),
  ((0 : Nat) < 1),
  Con Try.prog 80 0 [] [.agg [.p (.int .i64 v.1), .p (.seq true 2 v.2.1.1 (fun i => [.int .i64 ((v.2.1.2 i).1), .int .i64 ((v.2.1.2 i).2.1)]))], .p (.seq true 1 r.1 (fun i => [.int .i64 (r.2 i)]))] [(0, ⟨false, 2, v.2.1.1, (fun i => [.p (.int .i64 ((h i).1)), .p (.int .i64 ((h i).2.1))])⟩)] (.tup [.agg [.p (.int .i64 v.1), .ar 2 0 0 v.2.1.1], .p (.bool true)]),
  ((0 : Nat) < 1),
  ((true = true) → (AN 1)),
  ((0 : Nat) < 1),
  ((0 : Nat) < 1),
  (AN 2),
  ((v.2.1.1 : Nat) ≤ v.2.1.1),
  (AN 2),
  ((v.2.1.1 : Nat) ≤ v.2.1.1),
  Con Try.prog 81 0 [] [.p (.seq true 2 v.2.1.1 (fun i => [.int .i64 ((h i).1), .int .i64 ((h i).2.1)])), .p (.seq true 2 v.2.1.1 (fun i => [.int .i64 ((b i).1), .int .i64 ((b i).2.1)])), .p (.fn 82)] [] (.p (.int .i64 q)),
  ((decide (q < 0)) = false),
  (AN 2),
  ((1 : Nat) ≤ 1),
  ((1 : Nat) ≤ 1),
  (AI v.1),
  (AN v.2.1.1),
  (AP v.2.1.1 (fun i => [.int .i64 ((v.2.1.2 i).1), .int .i64 ((v.2.1.2 i).2.1)])),
  (AN 2),
  ((1 : Nat) ≤ 1),
  ((1 : Nat) ≤ 1),
  (AI v.1),
  (AN 0),
  (AN v.2.1.1),
  (AN 1),
  ((1 : Nat) ≤ 1),
  ((1 : Nat) ≤ 1),
  (AN 0),
  (AN 0),
  (AN 0),
  (AN 2),
  ((v.2.1.1 : Nat) ≤ v.2.1.1),
  (AA v.2.1.1 (fun i => [.p (.int .i64 ((b i).1)), .p (.int .i64 ((b i).2.1))])),
  (∀ i : Nat, (((i : Nat) < 1) → All [(false = false), (AE v.2.1.1)])),
  (AE 1),
  (AE 1),
  (AE v.2.1.1)] := by kernel_rfl
theorem cTz (v : T_Graph) (r : NL) (b : Nat → T_Bar) :
    pieceOb Try.prog 4 [.reg [oT, oT, oT, oT, oT], .dec false, .reg [oT, oT, oT], .head] [.code (bodyOf Try.f79)] (start Try.f79 ([(0, cgO v), (1, cbO v.1 3 v.2.1.1), (2, ctO 0 1 2), (3, brOb v.2.1.1 b)]) 4 [rlL r, .pt 2 0 0 0, .pt 2 1 0 0, .pt 1 2 0 0]) [0, 1, 2, 99999, 3] 1 (SKt v r 0 4 b) =
    some ([.code (cAt (bodyOf Try.f79) [1, 1, 0, 0]), .inLoop (cAt (bodyOf Try.f79) [1, 1, 0, 0]), .inBlock 0], [((0 : Nat) < 1),
  (((↑r.1 : Int) == v.1) = false),
  ((0 : Nat) < 1),
  (AN r.1),
  (AP r.1 (fun i => [.int .i64 (r.2 i)])),
  (AN 0),
  (AN 0),
  (AN 0),
  (AI v.1),
  ((0 : Int) = (↑0 : Int)),
  (AN 2),
  ((1 : Nat) ≤ 1),
  ((1 : Nat) ≤ 1),
  (AI v.1),
  (AN v.2.1.1),
  (AP v.2.1.1 (fun i => [.int .i64 ((v.2.1.2 i).1), .int .i64 ((v.2.1.2 i).2.1)])),
  (AN 2),
  ((1 : Nat) ≤ 1),
  ((1 : Nat) ≤ 1),
  (AI v.1),
  (AN 0),
  (AN v.2.1.1),
  (AN 1),
  ((1 : Nat) ≤ 1),
  ((1 : Nat) ≤ 1),
  (AN 0),
  (AN 0),
  (AN 0),
  (AN 2),
  ((v.2.1.1 : Nat) ≤ v.2.1.1),
  (AA v.2.1.1 (fun i => [.p (.int .i64 ((b i).1)), .p (.int .i64 ((b i).2.1))]))]) := by kernel_rfl
theorem cTr (v : T_Graph) (r : NL) (k : Nat) (b h : Nat → T_Bar) :
    pieceOb Try.prog 4 [.reg [oT], .dec true, .reg [oT, oT], .reg [oT, oT, ⟨true, (some ⟨[], [], [], 1, [], .p (.bool false)⟩), none⟩, oT], .dec true, .reg [oT, oT, ⟨true, (some ⟨[], [], [], 1, [(0, iOb r.1 r.2)], .ar 1 0 0 r.1⟩), none⟩, oT, oT, oT, ⟨true, (some ⟨[0, 1, 2, 4], [1000], [], 1, [(0, cgO v), (1, cbO v.1 4 v.2.1.1), (2, ctO 0 1 2), (4, brOb v.2.1.1 h)], .tup []⟩), none⟩], .reg [oT, oT], .head] [.code (cAt (bodyOf Try.f79) [1, 1, 0, 0]), .inLoop (cAt (bodyOf Try.f79) [1, 1, 0, 0]), .inBlock 0] (SKt v r k 4 b) [0, 1, 2, 99999, 421] 1 (SKt v r (k + 1) 4 h) =
    some ([.code (cAt (bodyOf Try.f79) [1, 1, 0, 0]), .inLoop (cAt (bodyOf Try.f79) [1, 1, 0, 0]), .inBlock 0], [((decide ((↑k : Int) < v.1)) = true),
  Con Try.prog 83 0 [] [.p (.seq true 1 r.1 (fun i => [.int .i64 (r.2 i)])), .p (.int .i64 (↑k : Int))] [] (.p (.bool false)),
  ((!false) = true),
  ((0 : Nat) < 1),
  Con Try.prog 84 0 [] [.p (.seq true 1 r.1 (fun i => [.int .i64 (r.2 i)]))] [(0, ⟨false, 1, r.1, (fun i => [.p (.int .i64 (r.2 i))])⟩)] (.ar 1 0 0 r.1),
  ((1 : Nat) ≤ 1),
  ((r.1 : Nat) ≤ r.1),
  ((((r.1 + 1) * 8) : Nat) ≤ 140737488355328),
  (((r.1 + 1) : Nat) ≤ 9223372036854775807),
  (AE 1),
  (AE 1),
  (AE 1),
  (AE v.2.1.1),
  (AN 1),
  (((r.1 + 1) : Nat) ≤ (r.1 + 1)),
  Con Try.prog 79 4 [(0, ⟨true, 2, 1, (fun i => [.p (.int .i64 v.1), .p (.seq false 2 v.2.1.1 (fun i_1 => [.int .i64 ((v.2.1.2 i_1).1), .int .i64 ((v.2.1.2 i_1).2.1)]))])⟩), (1, ⟨true, 2, 1, (fun i => [.p (.int .i64 v.1), .ar 2 3 0 v.2.1.1])⟩), (2, ⟨true, 1, 1, (fun i => [.clo 79 [.pt 2 0 0 0, .pt 2 1 0 0, .pt 1 2 0 0]])⟩), (3, ⟨false, 2, v.2.1.1, (fun i => [.p (.int .i64 ((b i).1)), .p (.int .i64 ((b i).2.1))])⟩)] [.p (.seq true 1 (r.1 + 1) (fun i => [(cellP true (if (i < r.1) then [.p (.int .i64 (r.2 i))] else [.p (.int .i64 (↑k : Int))]) 0)])), .pt 2 0 0 0, .pt 2 1 0 0, .pt 1 2 0 0] [(0, ⟨true, 2, 1, (fun i => [.p (.int .i64 v.1), .p (.seq false 2 v.2.1.1 (fun i_1 => [.int .i64 ((v.2.1.2 i_1).1), .int .i64 ((v.2.1.2 i_1).2.1)]))])⟩), (1, ⟨true, 2, 1, (fun i => [.p (.int .i64 v.1), .ar 2 4 0 v.2.1.1])⟩), (2, ⟨true, 1, 1, (fun i => [.clo 79 [.pt 2 0 0 0, .pt 2 1 0 0, .pt 1 2 0 0]])⟩), (4, ⟨false, 2, v.2.1.1, (fun i => [.p (.int .i64 ((h i).1)), .p (.int .i64 ((h i).2.1))])⟩)] (.tup []),
  (((-9223372036854775808) : Int) ≤ ((↑k : Int) + 1)),
  ((((↑k : Int) + 1) : Int) ≤ 9223372036854775807),
  (AN r.1),
  (AP r.1 (fun i => [.int .i64 (r.2 i)])),
  (AN 0),
  (AN 0),
  (AN 0),
  (AI v.1),
  ((((↑k : Int) + 1) : Int) = (↑(k + 1) : Int)),
  (AN 2),
  ((1 : Nat) ≤ 1),
  ((1 : Nat) ≤ 1),
  (AI v.1),
  (AN v.2.1.1),
  (AP v.2.1.1 (fun i => [.int .i64 ((v.2.1.2 i).1), .int .i64 ((v.2.1.2 i).2.1)])),
  (AN 2),
  ((1 : Nat) ≤ 1),
  ((1 : Nat) ≤ 1),
  (AI v.1),
  (AN 0),
  (AN v.2.1.1),
  (AN 1),
  ((1 : Nat) ≤ 1),
  ((1 : Nat) ≤ 1),
  (AN 0),
  (AN 0),
  (AN 0),
  (AN 2),
  ((v.2.1.1 : Nat) ≤ v.2.1.1),
  (AA v.2.1.1 (fun i => [.p (.int .i64 ((h i).1)), .p (.int .i64 ((h i).2.1))]))]) := by kernel_rfl
theorem cTs (v : T_Graph) (r : NL) (k : Nat) (b : Nat → T_Bar) :
    pieceOb Try.prog 4 [.reg [oT], .dec true, .reg [oT, oT], .reg [oT, oT, ⟨true, (some ⟨[], [], [], 1, [], .p (.bool true)⟩), none⟩, oT], .dec false, .reg [oT, oT], .head] [.code (cAt (bodyOf Try.f79) [1, 1, 0, 0]), .inLoop (cAt (bodyOf Try.f79) [1, 1, 0, 0]), .inBlock 0] (SKt v r k 4 b) [0, 1, 2, 99999, 4] 1 (SKt v r (k + 1) 4 b) =
    some ([.code (cAt (bodyOf Try.f79) [1, 1, 0, 0]), .inLoop (cAt (bodyOf Try.f79) [1, 1, 0, 0]), .inBlock 0], [((decide ((↑k : Int) < v.1)) = true),
  Con Try.prog 83 0 [] [.p (.seq true 1 r.1 (fun i => [.int .i64 (r.2 i)])), .p (.int .i64 (↑k : Int))] [] (.p (.bool true)),
  ((!true) = false),
  (((-9223372036854775808) : Int) ≤ ((↑k : Int) + 1)),
  ((((↑k : Int) + 1) : Int) ≤ 9223372036854775807),
  (AN r.1),
  (AP r.1 (fun i => [.int .i64 (r.2 i)])),
  (AN 0),
  (AN 0),
  (AN 0),
  (AI v.1),
  ((((↑k : Int) + 1) : Int) = (↑(k + 1) : Int)),
  (AN 2),
  ((1 : Nat) ≤ 1),
  ((1 : Nat) ≤ 1),
  (AI v.1),
  (AN v.2.1.1),
  (AP v.2.1.1 (fun i => [.int .i64 ((v.2.1.2 i).1), .int .i64 ((v.2.1.2 i).2.1)])),
  (AN 2),
  ((1 : Nat) ≤ 1),
  ((1 : Nat) ≤ 1),
  (AI v.1),
  (AN 0),
  (AN v.2.1.1),
  (AN 1),
  ((1 : Nat) ≤ 1),
  ((1 : Nat) ≤ 1),
  (AN 0),
  (AN 0),
  (AN 0),
  (AN 2),
  ((v.2.1.1 : Nat) ≤ v.2.1.1),
  (AA v.2.1.1 (fun i => [.p (.int .i64 ((b i).1)), .p (.int .i64 ((b i).2.1))]))]) := by kernel_rfl
theorem cTe (v : T_Graph) (r : NL) (k : Nat) (b : Nat → T_Bar) :
    pathOb Try.prog Try.f79 4 [.reg [oT], .dec false] [.code (cAt (bodyOf Try.f79) [1, 1, 0, 0]), .inLoop (cAt (bodyOf Try.f79) [1, 1, 0, 0]), .inBlock 0] (SKt v r k 4 b) [0, 1, 2, 99999, 4] 1 [(0, cgO v), (1, cbO v.1 4 v.2.1.1), (2, ctO 0 1 2), (4, brOb v.2.1.1 b)] (.tup []) =
    some [((decide ((↑k : Int) < v.1)) = false),
  (AN 2),
  ((1 : Nat) ≤ 1),
  ((1 : Nat) ≤ 1),
  (AI v.1),
  (AN v.2.1.1),
  (AP v.2.1.1 (fun i => [.int .i64 ((v.2.1.2 i).1), .int .i64 ((v.2.1.2 i).2.1)])),
  (AN 2),
  ((1 : Nat) ≤ 1),
  ((1 : Nat) ≤ 1),
  (AI v.1),
  (AN 0),
  (AN v.2.1.1),
  (AN 1),
  ((1 : Nat) ≤ 1),
  ((1 : Nat) ≤ 1),
  (AN 0),
  (AN 0),
  (AN 0),
  (AN 2),
  ((v.2.1.1 : Nat) ≤ v.2.1.1),
  (AA v.2.1.1 (fun i => [.p (.int .i64 ((b i).1)), .p (.int .i64 ((b i).2.1))])),
  (∀ i : Nat, (((i : Nat) < 1) → All [(false = false), (AE v.2.1.1)])),
  (AE 1),
  (AE 1),
  (AE v.2.1.1)] := by kernel_rfl
theorem cIy (v : T_Graph) (b0 : Bool) :
    pathOb Try.prog Try.f34 0 [.reg [oT, oT, oT], .reg [oT, ⟨true, (some ⟨[], [], [], 1, [], .p (.bool b0)⟩), none⟩, oT, oT, oT, oT, oT, oT], .dec true, .reg [oT, oT, oT]] [.code (bodyOf Try.f34)] (start Try.f34 [] 0 [graphA v]) [] 1 [(0, brOb 0 (fun _ => (0, 0, ())))] (.tup [.agg [.p (.int .i64 0), .ar 2 0 0 0], .p (.bool false)]) =
    some [((0 : Nat) < 1),
  Con Try.prog 77 0 [] [.agg [.p (.int .i64 v.1), .p (.seq true 2 v.2.1.1 (fun i => [.int .i64 ((v.2.1.2 i).1), .int .i64 ((v.2.1.2 i).2.1)]))]] [] (.p (.bool b0)),
  (AG (!!b0)),
  (((!!b0) = true) → ((0 : Nat) < 1)),
  (AG (!!b0)),
  (((!b0) = false) → ((!!b0) = true)),
  ((bif !b0 then true else decide (v.1 > 5)) = true),
  ((0 : Nat) < 1),
  ((true = true) → (AN 1)),
  ((0 : Nat) < 1),
  (AI 0),
  (AN 0),
  (false = false),
  (AN 0),
  (AE 0)] := by kernel_rfl
theorem cIz (v : T_Graph) (b0 : Bool) (b h : Nat → T_Bar) :
    pathOb Try.prog Try.f34 0 [.reg [oT, oT, oT], .reg [oT, ⟨true, (some ⟨[], [], [], 1, [], .p (.bool b0)⟩), none⟩, oT, oT, oT, oT, oT, oT], .dec false, .reg [oT, ⟨true, (some ⟨[], [], [], 1, [(0, brOb v.2.1.1 b)], .agg [.p (.int .i64 v.1), .ar 2 0 0 v.2.1.1]⟩), none⟩, oT, oT], .reg [oT], .reg [oT, oT], .reg [oT, oT, ⟨true, (some ⟨[0, 416, 480, 384], [0], [], 1, [(0, cgO v), (1, cbO v.1 4 v.2.1.1), (2, ctO 0 1 2), (4, brOb v.2.1.1 h)], .tup []⟩), none⟩], .reg [oT, oT, oT]] [.code (bodyOf Try.f34)] (start Try.f34 [] 0 [graphA v]) [640] 1 [(0, brOb v.2.1.1 h)] (.tup [.agg [.p (.int .i64 v.1), .ar 2 0 0 v.2.1.1], .p (.bool true)]) =
    some [((0 : Nat) < 1),
  Con Try.prog 77 0 [] [.agg [.p (.int .i64 v.1), .p (.seq true 2 v.2.1.1 (fun i => [.int .i64 ((v.2.1.2 i).1), .int .i64 ((v.2.1.2 i).2.1)]))]] [] (.p (.bool b0)),
  (AG (!!b0)),
  (((!!b0) = true) → ((0 : Nat) < 1)),
  (AG (!!b0)),
  (((!b0) = false) → ((!!b0) = true)),
  ((bif !b0 then true else decide (v.1 > 5)) = false),
  ((0 : Nat) < 1),
  Con Try.prog 78 0 [] [.agg [.p (.int .i64 v.1), .p (.seq true 2 v.2.1.1 (fun i => [.int .i64 ((v.2.1.2 i).1), .int .i64 ((v.2.1.2 i).2.1)]))]] [(0, ⟨false, 2, v.2.1.1, (fun i => [.p (.int .i64 ((b i).1)), .p (.int .i64 ((b i).2.1))])⟩)] (.agg [.p (.int .i64 v.1), .ar 2 0 0 v.2.1.1]),
  ((0 : Nat) < 1),
  ((true = true) → (AN 1)),
  ((0 : Nat) < 1),
  ((true = true) → (AN 1)),
  ((0 : Nat) < 1),
  (AE 1),
  (AE 1),
  (AE 1),
  (AE v.2.1.1),
  (AN 1),
  ((0 : Nat) ≤ 0),
  Con Try.prog 79 4 [(0, ⟨true, 2, 1, (fun i => [.p (.int .i64 v.1), .p (.seq false 2 v.2.1.1 (fun i_1 => [.int .i64 ((v.2.1.2 i_1).1), .int .i64 ((v.2.1.2 i_1).2.1)]))])⟩), (1, ⟨true, 2, 1, (fun i => [.p (.int .i64 v.1), .ar 2 3 0 v.2.1.1])⟩), (2, ⟨true, 1, 1, (fun i => [.clo 79 [.pt 2 0 0 0, .pt 2 1 0 0, .pt 1 2 0 0]])⟩), (3, ⟨false, 2, v.2.1.1, (fun i => [.p (.int .i64 ((b i).1)), .p (.int .i64 ((b i).2.1))])⟩)] [.p (.seq true 1 0 (fun i => [.int .i64 0])), .pt 2 0 0 0, .pt 2 1 0 0, .pt 1 2 0 0] [(0, ⟨true, 2, 1, (fun i => [.p (.int .i64 v.1), .p (.seq false 2 v.2.1.1 (fun i_1 => [.int .i64 ((v.2.1.2 i_1).1), .int .i64 ((v.2.1.2 i_1).2.1)]))])⟩), (1, ⟨true, 2, 1, (fun i => [.p (.int .i64 v.1), .ar 2 4 0 v.2.1.1])⟩), (2, ⟨true, 1, 1, (fun i => [.clo 79 [.pt 2 0 0 0, .pt 2 1 0 0, .pt 1 2 0 0]])⟩), (4, ⟨false, 2, v.2.1.1, (fun i => [.p (.int .i64 ((h i).1)), .p (.int .i64 ((h i).2.1))])⟩)] (.tup []),
  ((0 : Nat) < 1),
  ((0 : Nat) < 1),
  ((true = true) → (AN 1)),
  ((0 : Nat) < 1),
  (AI v.1),
  (AN 0),
  (AN v.2.1.1),
  (true = true),
  (AN 2),
  ((v.2.1.1 : Nat) ≤ v.2.1.1),
  (AA v.2.1.1 (fun i => [.p (.int .i64 ((h i).1)), .p (.int .i64 ((h i).2.1))])),
  (AE v.2.1.1)] := by kernel_rfl
theorem cOz (n : Int) :
    pieceOb Try.prog 0 [.reg [oT], .reg [oT, oT, oT], .reg [oT], .head] [.code (bodyOf Try.f74)] (start Try.f74 [] 0 [.p (.int .i64 n)]) [64] 1 (SKo n 0 1 (fun _ => zNL)) =
    some ([.code (cAt (bodyOf Try.f74) [1, 1, 0, 1, 0, 0]), .inLoop (cAt (bodyOf Try.f74) [1, 1, 0, 1, 0, 0]), .inBlock 0, .code (cAt (bodyOf Try.f74) [1, 1, 1])], [(AI n),
  (AN 0),
  (AN 1),
  ((0 : Int) = (↑0 : Int)),
  (AN 1),
  ((1 : Nat) ≤ 1),
  (∀ i : Nat, (((i : Nat) < 1) → (All [(AN 1), ((0 : Nat) ≤ 0)] ∧ (([.p (.seq false 1 0 (fun i_1 => [.int .i64 0]))] : List AV) = [.p (.seq false 1 0 (fun i_1 => [.int .i64 (zNL.2 i_1)]))]))))]) := by kernel_rfl
theorem cOa (n : Int) (i m : Nat) (C : Nat → NL) :
    pieceOb Try.prog 0 [.reg [oT, oT, oT], .dec true, .reg [oT, oT], .reg [oT], .head] [.code (cAt (bodyOf Try.f74) [1, 1, 0, 1, 0, 0]), .inLoop (cAt (bodyOf Try.f74) [1, 1, 0, 1, 0, 0]), .inBlock 0, .code (cAt (bodyOf Try.f74) [1, 1, 1])] (SKo n i m C) [0, 97] 1 (SKp n i m 0 0 C (fun _ => zNL)) =
    some ([.code (cAt (bodyOf Try.f74) [1, 1, 0, 1, 0, 0, 1, 0, 0, 1, 0, 1, 0, 0]), .inLoop (cAt (bodyOf Try.f74) [1, 1, 0, 1, 0, 0, 1, 0, 0, 1, 0, 1, 0, 0]), .inBlock 2, .code (cAt (bodyOf Try.f74) [1, 1, 0, 1, 0, 0, 1, 0, 0, 1, 1]), .inBlock 1, .code (cAt (bodyOf Try.f74) [1, 1, 0, 1, 0, 0, 1, 1]), .inLoop (cAt (bodyOf Try.f74) [1, 1, 0, 1, 0, 0]), .inBlock 0, .code (cAt (bodyOf Try.f74) [1, 1, 1])], [((decide ((↑i : Int) < n)) = true),
  (AI n),
  (AN 0),
  (AN m),
  (AI ((↑i : Int))),
  (AN 0),
  (AN 0),
  ((0 : Int) = (↑0 : Int)),
  (AN 1),
  ((m : Nat) ≤ m),
  (AA m (fun i_1 => [.p (.seq false 1 ((C i_1).1) (fun i_2 => [.int .i64 ((C i_1).2 i_2)]))])),
  (AN 1),
  ((0 : Nat) ≤ 0),
  (∀ i_1 : Nat, (((i_1 : Nat) < 0) → (All [] ∧ (([.p (.nil)] : List AV) = [.p (.seq false 1 0 (fun i_2 => [.int .i64 (zNL.2 i_2)]))]))))]) := by kernel_rfl
theorem cOb (n : Int) (i m k q : Nat) (C D : Nat → NL) :
    pieceOb Try.prog 0 [.reg [oT, oT, oT, oT], .dec true, .reg [oT], .head] [.code (cAt (bodyOf Try.f74) [1, 1, 0, 1, 0, 0, 1, 0, 0, 1, 0, 1, 0, 0]), .inLoop (cAt (bodyOf Try.f74) [1, 1, 0, 1, 0, 0, 1, 0, 0, 1, 0, 1, 0, 0]), .inBlock 2, .code (cAt (bodyOf Try.f74) [1, 1, 0, 1, 0, 0, 1, 0, 0, 1, 1]), .inBlock 1, .code (cAt (bodyOf Try.f74) [1, 1, 0, 1, 0, 0, 1, 1]), .inLoop (cAt (bodyOf Try.f74) [1, 1, 0, 1, 0, 0]), .inBlock 0, .code (cAt (bodyOf Try.f74) [1, 1, 1])] (SKp n i m k q C D) [0, 1] 1 (SKq n i m k q 0 C D) =
    some ([.code (cAt (bodyOf Try.f74) [1, 1, 0, 1, 0, 0, 1, 0, 0, 1, 0, 1, 0, 0, 1, 0, 0, 1, 0, 0]), .inLoop (cAt (bodyOf Try.f74) [1, 1, 0, 1, 0, 0, 1, 0, 0, 1, 0, 1, 0, 0, 1, 0, 0, 1, 0, 0]), .inBlock 4, .inBlock 3, .code (cAt (bodyOf Try.f74) [1, 1, 0, 1, 0, 0, 1, 0, 0, 1, 0, 1, 0, 0, 1, 1]), .inLoop (cAt (bodyOf Try.f74) [1, 1, 0, 1, 0, 0, 1, 0, 0, 1, 0, 1, 0, 0]), .inBlock 2, .code (cAt (bodyOf Try.f74) [1, 1, 0, 1, 0, 0, 1, 0, 0, 1, 1]), .inBlock 1, .code (cAt (bodyOf Try.f74) [1, 1, 0, 1, 0, 0, 1, 1]), .inLoop (cAt (bodyOf Try.f74) [1, 1, 0, 1, 0, 0]), .inBlock 0, .code (cAt (bodyOf Try.f74) [1, 1, 1])], [((decide ((↑k : Int) < (↑m : Int))) = true),
  (AI n),
  (AN 0),
  (AN m),
  (AI ((↑i : Int))),
  (AN 0),
  (AN q),
  (AI ((↑k : Int))),
  ((0 : Int) = (↑0 : Int)),
  (AN 1),
  ((m : Nat) ≤ m),
  (AA m (fun i_1 => [.p (.seq false 1 ((C i_1).1) (fun i_2 => [.int .i64 ((C i_1).2 i_2)]))])),
  (AN 1),
  ((q : Nat) ≤ q),
  (AA q (fun i_1 => [.p (.seq false 1 ((D i_1).1) (fun i_2 => [.int .i64 ((D i_1).2 i_2)]))]))]) := by kernel_rfl
theorem cOc (n : Int) (i m k q x : Nat) (C D : Nat → NL) (E : Nat → NL) :
    pieceOb Try.prog 0 [.reg [oT, oT, oT], .dec true, .reg [oT, oT, oT, oT, oT, ⟨true, (some ⟨[], [], [], 1, [], .p (.bool false)⟩), none⟩, oT], .dec true, .reg [oT, oT, oT, oT, oT, oT, oT, oT, oT, oT, oT, oT, oT], .reg [oT, oT, oT], .head] [.code (cAt (bodyOf Try.f74) [1, 1, 0, 1, 0, 0, 1, 0, 0, 1, 0, 1, 0, 0, 1, 0, 0, 1, 0, 0]), .inLoop (cAt (bodyOf Try.f74) [1, 1, 0, 1, 0, 0, 1, 0, 0, 1, 0, 1, 0, 0, 1, 0, 0, 1, 0, 0]), .inBlock 4, .inBlock 3, .code (cAt (bodyOf Try.f74) [1, 1, 0, 1, 0, 0, 1, 0, 0, 1, 0, 1, 0, 0, 1, 1]), .inLoop (cAt (bodyOf Try.f74) [1, 1, 0, 1, 0, 0, 1, 0, 0, 1, 0, 1, 0, 0]), .inBlock 2, .code (cAt (bodyOf Try.f74) [1, 1, 0, 1, 0, 0, 1, 0, 0, 1, 1]), .inBlock 1, .code (cAt (bodyOf Try.f74) [1, 1, 0, 1, 0, 0, 1, 1]), .inLoop (cAt (bodyOf Try.f74) [1, 1, 0, 1, 0, 0]), .inBlock 0, .code (cAt (bodyOf Try.f74) [1, 1, 1])] (SKq n i m k q x C D) [0, 674] 1 (SKq n i m k (q + 1) (x + 1) C E) =
    some ([.code (cAt (bodyOf Try.f74) [1, 1, 0, 1, 0, 0, 1, 0, 0, 1, 0, 1, 0, 0, 1, 0, 0, 1, 0, 0]), .inLoop (cAt (bodyOf Try.f74) [1, 1, 0, 1, 0, 0, 1, 0, 0, 1, 0, 1, 0, 0, 1, 0, 0, 1, 0, 0]), .inBlock 4, .inBlock 3, .code (cAt (bodyOf Try.f74) [1, 1, 0, 1, 0, 0, 1, 0, 0, 1, 0, 1, 0, 0, 1, 1]), .inLoop (cAt (bodyOf Try.f74) [1, 1, 0, 1, 0, 0, 1, 0, 0, 1, 0, 1, 0, 0]), .inBlock 2, .code (cAt (bodyOf Try.f74) [1, 1, 0, 1, 0, 0, 1, 0, 0, 1, 1]), .inBlock 1, .code (cAt (bodyOf Try.f74) [1, 1, 0, 1, 0, 0, 1, 1]), .inLoop (cAt (bodyOf Try.f74) [1, 1, 0, 1, 0, 0]), .inBlock 0, .code (cAt (bodyOf Try.f74) [1, 1, 1])], [((decide ((↑x : Int) < n)) = true),
  ((0 : Int) ≤ (↑k : Int)),
  (((↑k : Int) : Int) < (↑m : Int)),
  ((k : Nat) < m),
  Con Try.prog 93 0 [] [.p (.seq true 1 ((C k).1) (fun i_1 => [.int .i64 ((C k).2 i_1)])), .p (.int .i64 (↑x : Int))] [] (.p (.bool false)),
  ((!false) = true),
  ((0 : Int) ≤ (↑k : Int)),
  (((↑k : Int) : Int) < (↑m : Int)),
  ((k : Nat) < m),
  ((0 : Nat) ≤ 0),
  ((((0 + (C k).1) * 8) : Nat) ≤ 140737488355328),
  (((0 + (C k).1) : Nat) ≤ 9223372036854775807),
  ((1 : Nat) ≤ 1),
  (((0 + (C k).1) : Nat) ≤ (0 + (C k).1)),
  ((((0 + (C k).1 + 1) * 8) : Nat) ≤ 140737488355328),
  (((0 + (C k).1 + 1) : Nat) ≤ 9223372036854775807),
  ((1 : Nat) ≤ 1),
  ((q : Nat) ≤ q),
  ((((q + 1) * 24) : Nat) ≤ 140737488355328),
  (((q + 1) : Nat) ≤ 9223372036854775807),
  (((-9223372036854775808) : Int) ≤ ((↑x : Int) + 1)),
  ((((↑x : Int) + 1) : Int) ≤ 9223372036854775807),
  (AI n),
  (AN 0),
  (AN m),
  (AI ((↑i : Int))),
  (AN 0),
  (AN ((q + 1))),
  (AI ((↑k : Int))),
  ((((↑x : Int) + 1) : Int) = (↑(x + 1) : Int)),
  (AN 1),
  ((m : Nat) ≤ m),
  (AA m (fun i_1 => [.p (.seq false 1 ((C i_1).1) (fun i_2 => [.int .i64 ((C i_1).2 i_2)]))])),
  (AN 1),
  (((q + 1) : Nat) ≤ (q + 1)),
  (∀ i_1 : Nat, (((i_1 : Nat) < (q + 1)) → (All (cvtL false [(674, ⟨false, 1, (q + 1), (fun i_2 => (if (i_2 < q) then [.p (.seq false 1 ((D i_2).1) (fun i_3 => [.int .i64 ((D i_2).2 i_3)]))] else [.ar 1 610 0 (0 + (C k).1 + 1)]))⟩), (642, ⟨false, 1, 1, (fun i_2 => [.ar 1 610 0 (0 + (C k).1 + 1)])⟩), (610, ⟨false, 1, (0 + (C k).1 + 1), (fun i_2 => (if (i_2 < 0 + (C k).1) then [.p (.int .i64 ((C k).2 i_2))] else [.p (.int .i64 (↑x : Int))]))⟩), (578, ⟨false, 1, 1, (fun i_2 => [.p (.int .i64 (↑x : Int))])⟩), (0, ⟨false, 1, m, (fun i_2 => [.p (.seq false 1 ((C i_2).1) (fun i_3 => [.int .i64 ((C i_2).2 i_3)]))])⟩)] [0, 674] 1 (if (i_1 < q) then [.p (.seq false 1 ((D i_1).1) (fun i_2 => [.int .i64 ((D i_1).2 i_2)]))] else [.ar 1 610 0 (0 + (C k).1 + 1)])).2 ∧ (((cvtL false [(674, ⟨false, 1, (q + 1), (fun i_2 => (if (i_2 < q) then [.p (.seq false 1 ((D i_2).1) (fun i_3 => [.int .i64 ((D i_2).2 i_3)]))] else [.ar 1 610 0 (0 + (C k).1 + 1)]))⟩), (642, ⟨false, 1, 1, (fun i_2 => [.ar 1 610 0 (0 + (C k).1 + 1)])⟩), (610, ⟨false, 1, (0 + (C k).1 + 1), (fun i_2 => (if (i_2 < 0 + (C k).1) then [.p (.int .i64 ((C k).2 i_2))] else [.p (.int .i64 (↑x : Int))]))⟩), (578, ⟨false, 1, 1, (fun i_2 => [.p (.int .i64 (↑x : Int))])⟩), (0, ⟨false, 1, m, (fun i_2 => [.p (.seq false 1 ((C i_2).1) (fun i_3 => [.int .i64 ((C i_2).2 i_3)]))])⟩)] [0, 674] 1 (if (i_1 < q) then [.p (.seq false 1 ((D i_1).1) (fun i_2 => [.int .i64 ((D i_1).2 i_2)]))] else [.ar 1 610 0 (0 + (C k).1 + 1)])).1 : List AV) = [.p (.seq false 1 ((E i_1).1) (fun i_2 => [.int .i64 ((E i_1).2 i_2)]))]))))]) := by kernel_rfl
theorem cOd (n : Int) (i m k q x : Nat) (C D : Nat → NL) :
    pieceOb Try.prog 0 [.reg [oT, oT, oT], .dec true, .reg [oT, oT, oT, oT, oT, ⟨true, (some ⟨[], [], [], 1, [], .p (.bool true)⟩), none⟩, oT], .dec false, .reg [oT, oT, oT], .head] [.code (cAt (bodyOf Try.f74) [1, 1, 0, 1, 0, 0, 1, 0, 0, 1, 0, 1, 0, 0, 1, 0, 0, 1, 0, 0]), .inLoop (cAt (bodyOf Try.f74) [1, 1, 0, 1, 0, 0, 1, 0, 0, 1, 0, 1, 0, 0, 1, 0, 0, 1, 0, 0]), .inBlock 4, .inBlock 3, .code (cAt (bodyOf Try.f74) [1, 1, 0, 1, 0, 0, 1, 0, 0, 1, 0, 1, 0, 0, 1, 1]), .inLoop (cAt (bodyOf Try.f74) [1, 1, 0, 1, 0, 0, 1, 0, 0, 1, 0, 1, 0, 0]), .inBlock 2, .code (cAt (bodyOf Try.f74) [1, 1, 0, 1, 0, 0, 1, 0, 0, 1, 1]), .inBlock 1, .code (cAt (bodyOf Try.f74) [1, 1, 0, 1, 0, 0, 1, 1]), .inLoop (cAt (bodyOf Try.f74) [1, 1, 0, 1, 0, 0]), .inBlock 0, .code (cAt (bodyOf Try.f74) [1, 1, 1])] (SKq n i m k q x C D) [0, 1] 1 (SKq n i m k q (x + 1) C D) =
    some ([.code (cAt (bodyOf Try.f74) [1, 1, 0, 1, 0, 0, 1, 0, 0, 1, 0, 1, 0, 0, 1, 0, 0, 1, 0, 0]), .inLoop (cAt (bodyOf Try.f74) [1, 1, 0, 1, 0, 0, 1, 0, 0, 1, 0, 1, 0, 0, 1, 0, 0, 1, 0, 0]), .inBlock 4, .inBlock 3, .code (cAt (bodyOf Try.f74) [1, 1, 0, 1, 0, 0, 1, 0, 0, 1, 0, 1, 0, 0, 1, 1]), .inLoop (cAt (bodyOf Try.f74) [1, 1, 0, 1, 0, 0, 1, 0, 0, 1, 0, 1, 0, 0]), .inBlock 2, .code (cAt (bodyOf Try.f74) [1, 1, 0, 1, 0, 0, 1, 0, 0, 1, 1]), .inBlock 1, .code (cAt (bodyOf Try.f74) [1, 1, 0, 1, 0, 0, 1, 1]), .inLoop (cAt (bodyOf Try.f74) [1, 1, 0, 1, 0, 0]), .inBlock 0, .code (cAt (bodyOf Try.f74) [1, 1, 1])], [((decide ((↑x : Int) < n)) = true),
  ((0 : Int) ≤ (↑k : Int)),
  (((↑k : Int) : Int) < (↑m : Int)),
  ((k : Nat) < m),
  Con Try.prog 93 0 [] [.p (.seq true 1 ((C k).1) (fun i_1 => [.int .i64 ((C k).2 i_1)])), .p (.int .i64 (↑x : Int))] [] (.p (.bool true)),
  ((!true) = false),
  (((-9223372036854775808) : Int) ≤ ((↑x : Int) + 1)),
  ((((↑x : Int) + 1) : Int) ≤ 9223372036854775807),
  (AI n),
  (AN 0),
  (AN m),
  (AI ((↑i : Int))),
  (AN 0),
  (AN q),
  (AI ((↑k : Int))),
  ((((↑x : Int) + 1) : Int) = (↑(x + 1) : Int)),
  (AN 1),
  ((m : Nat) ≤ m),
  (AA m (fun i_1 => [.p (.seq false 1 ((C i_1).1) (fun i_2 => [.int .i64 ((C i_1).2 i_2)]))])),
  (AN 1),
  ((q : Nat) ≤ q),
  (AA q (fun i_1 => [.p (.seq false 1 ((D i_1).1) (fun i_2 => [.int .i64 ((D i_1).2 i_2)]))]))]) := by kernel_rfl
theorem cOe (n : Int) (i m k q x : Nat) (C D : Nat → NL) :
    pieceOb Try.prog 0 [.reg [oT, oT, oT], .dec false, .reg [oT, oT, oT], .head] [.code (cAt (bodyOf Try.f74) [1, 1, 0, 1, 0, 0, 1, 0, 0, 1, 0, 1, 0, 0, 1, 0, 0, 1, 0, 0]), .inLoop (cAt (bodyOf Try.f74) [1, 1, 0, 1, 0, 0, 1, 0, 0, 1, 0, 1, 0, 0, 1, 0, 0, 1, 0, 0]), .inBlock 4, .inBlock 3, .code (cAt (bodyOf Try.f74) [1, 1, 0, 1, 0, 0, 1, 0, 0, 1, 0, 1, 0, 0, 1, 1]), .inLoop (cAt (bodyOf Try.f74) [1, 1, 0, 1, 0, 0, 1, 0, 0, 1, 0, 1, 0, 0]), .inBlock 2, .code (cAt (bodyOf Try.f74) [1, 1, 0, 1, 0, 0, 1, 0, 0, 1, 1]), .inBlock 1, .code (cAt (bodyOf Try.f74) [1, 1, 0, 1, 0, 0, 1, 1]), .inLoop (cAt (bodyOf Try.f74) [1, 1, 0, 1, 0, 0]), .inBlock 0, .code (cAt (bodyOf Try.f74) [1, 1, 1])] (SKq n i m k q x C D) [0, 1] 1 (SKp n i m (k + 1) q C D) =
    some ([.code (cAt (bodyOf Try.f74) [1, 1, 0, 1, 0, 0, 1, 0, 0, 1, 0, 1, 0, 0]), .inLoop (cAt (bodyOf Try.f74) [1, 1, 0, 1, 0, 0, 1, 0, 0, 1, 0, 1, 0, 0]), .inBlock 2, .code (cAt (bodyOf Try.f74) [1, 1, 0, 1, 0, 0, 1, 0, 0, 1, 1]), .inBlock 1, .code (cAt (bodyOf Try.f74) [1, 1, 0, 1, 0, 0, 1, 1]), .inLoop (cAt (bodyOf Try.f74) [1, 1, 0, 1, 0, 0]), .inBlock 0, .code (cAt (bodyOf Try.f74) [1, 1, 1])], [((decide ((↑x : Int) < n)) = false),
  (((-9223372036854775808) : Int) ≤ ((↑k : Int) + 1)),
  ((((↑k : Int) + 1) : Int) ≤ 9223372036854775807),
  (AI n),
  (AN 0),
  (AN m),
  (AI ((↑i : Int))),
  (AN 0),
  (AN q),
  ((((↑k : Int) + 1) : Int) = (↑(k + 1) : Int)),
  (AN 1),
  ((m : Nat) ≤ m),
  (AA m (fun i_1 => [.p (.seq false 1 ((C i_1).1) (fun i_2 => [.int .i64 ((C i_1).2 i_2)]))])),
  (AN 1),
  ((q : Nat) ≤ q),
  (AA q (fun i_1 => [.p (.seq false 1 ((D i_1).1) (fun i_2 => [.int .i64 ((D i_1).2 i_2)]))]))]) := by kernel_rfl
theorem cOf (n : Int) (i m k q : Nat) (C D : Nat → NL) :
    pieceOb Try.prog 0 [.reg [oT, oT, oT, oT], .dec false, .reg [oT, oT], .reg [oT, oT, oT], .head] [.code (cAt (bodyOf Try.f74) [1, 1, 0, 1, 0, 0, 1, 0, 0, 1, 0, 1, 0, 0]), .inLoop (cAt (bodyOf Try.f74) [1, 1, 0, 1, 0, 0, 1, 0, 0, 1, 0, 1, 0, 0]), .inBlock 2, .code (cAt (bodyOf Try.f74) [1, 1, 0, 1, 0, 0, 1, 0, 0, 1, 1]), .inBlock 1, .code (cAt (bodyOf Try.f74) [1, 1, 0, 1, 0, 0, 1, 1]), .inLoop (cAt (bodyOf Try.f74) [1, 1, 0, 1, 0, 0]), .inBlock 0, .code (cAt (bodyOf Try.f74) [1, 1, 1])] (SKp n i m k q C D) [1] 1 (SKo n (i + 1) q D) =
    some ([.code (cAt (bodyOf Try.f74) [1, 1, 0, 1, 0, 0]), .inLoop (cAt (bodyOf Try.f74) [1, 1, 0, 1, 0, 0]), .inBlock 0, .code (cAt (bodyOf Try.f74) [1, 1, 1])], [((decide ((↑k : Int) < (↑m : Int))) = false),
  (((-9223372036854775808) : Int) ≤ ((↑i : Int) + 1)),
  ((((↑i : Int) + 1) : Int) ≤ 9223372036854775807),
  (AI n),
  (AN 0),
  (AN q),
  ((((↑i : Int) + 1) : Int) = (↑(i + 1) : Int)),
  (AN 1),
  ((q : Nat) ≤ q),
  (AA q (fun i_1 => [.p (.seq false 1 ((D i_1).1) (fun i_2 => [.int .i64 ((D i_1).2 i_2)]))]))]) := by kernel_rfl
theorem cOg (n : Int) (i m : Nat) (C : Nat → NL) :
    pathOb Try.prog Try.f74 0 [.reg [oT, oT, oT], .dec false, .reg [oT, oT]] [.code (cAt (bodyOf Try.f74) [1, 1, 0, 1, 0, 0]), .inLoop (cAt (bodyOf Try.f74) [1, 1, 0, 1, 0, 0]), .inBlock 0, .code (cAt (bodyOf Try.f74) [1, 1, 1])] (SKo n i m C) [0] 1 [(0, rlOb m C)] (.ar 1 0 0 m) =
    some [((decide ((↑i : Int) < n)) = false),
  (AN 0),
  (AN m),
  (AN 1),
  ((m : Nat) ≤ m),
  (AA m (fun i_1 => [.p (.seq false 1 ((C i_1).1) (fun i_2 => [.int .i64 ((C i_1).2 i_2)]))])),
  (∀ i_1 : Nat, (((i_1 : Nat) < m) → All [(false = false), (AE (((C i_1).1)))]))] := by kernel_rfl
theorem cSy (v : T_Graph) (b0 : Bool) :
    pathOb Try.prog Try.f32 0 [.reg [oT, oT, oT], .reg [oT, ⟨true, (some ⟨[], [], [], 1, [], .p (.bool b0)⟩), none⟩, oT, oT, oT, oT, oT, oT], .dec true, .reg [oT, oT, oT]] [.code (bodyOf Try.f32)] (start Try.f32 [] 0 [graphA v]) [] 1 [(0, brOb 0 (fun _ => (0, 0, ())))] (.tup [.agg [.p (.int .i64 0), .ar 2 0 0 0], .p (.bool false)]) =
    some [((0 : Nat) < 1),
  Con Try.prog 73 0 [] [.agg [.p (.int .i64 v.1), .p (.seq true 2 v.2.1.1 (fun i => [.int .i64 ((v.2.1.2 i).1), .int .i64 ((v.2.1.2 i).2.1)]))]] [] (.p (.bool b0)),
  (AG (!!b0)),
  (((!!b0) = true) → ((0 : Nat) < 1)),
  (AG (!!b0)),
  (((!b0) = false) → ((!!b0) = true)),
  ((bif !b0 then true else decide (v.1 > 5)) = true),
  ((0 : Nat) < 1),
  ((true = true) → (AN 1)),
  ((0 : Nat) < 1),
  (AI 0),
  (AN 0),
  (false = false),
  (AN 0),
  (AE 0)] := by kernel_rfl
theorem cSz (v : T_Graph) (b0 : Bool) (b : Nat → T_Bar) (m : Nat) (C : Nat → NL) :
    pieceOb Try.prog 0 [.reg [oT, oT, oT], .reg [oT, ⟨true, (some ⟨[], [], [], 1, [], .p (.bool b0)⟩), none⟩, oT, oT, oT, oT, oT, oT], .dec false, .reg [oT, ⟨true, (some ⟨[], [], [], 1, [(0, brOb v.2.1.1 b)], .agg [.p (.int .i64 v.1), .ar 2 0 0 v.2.1.1]⟩), none⟩, oT, oT], .reg [oT, oT, ⟨true, (some ⟨[], [], [], 1, [(0, rlOb m C)], .ar 1 0 0 m⟩), none⟩, oT], .reg [oT], .head] [.code (bodyOf Try.f32)] (start Try.f32 [] 0 [graphA v]) [0, 32, 416, 544, 384] 1 (SKc v 0 m C b) =
    some ([.code (cAt (bodyOf Try.f32) [1, 1, 1, 1, 0, 1, 0, 0]), .inLoop (cAt (bodyOf Try.f32) [1, 1, 1, 1, 0, 1, 0, 0]), .inBlock 0, .code (cAt (bodyOf Try.f32) [1, 1, 1, 1, 1])], [((0 : Nat) < 1),
  Con Try.prog 73 0 [] [.agg [.p (.int .i64 v.1), .p (.seq true 2 v.2.1.1 (fun i => [.int .i64 ((v.2.1.2 i).1), .int .i64 ((v.2.1.2 i).2.1)]))]] [] (.p (.bool b0)),
  (AG (!!b0)),
  (((!!b0) = true) → ((0 : Nat) < 1)),
  (AG (!!b0)),
  (((!b0) = false) → ((!!b0) = true)),
  ((bif !b0 then true else decide (v.1 > 5)) = false),
  ((0 : Nat) < 1),
  Con Try.prog 59 0 [] [.agg [.p (.int .i64 v.1), .p (.seq true 2 v.2.1.1 (fun i => [.int .i64 ((v.2.1.2 i).1), .int .i64 ((v.2.1.2 i).2.1)]))]] [(0, ⟨false, 2, v.2.1.1, (fun i => [.p (.int .i64 ((b i).1)), .p (.int .i64 ((b i).2.1))])⟩)] (.agg [.p (.int .i64 v.1), .ar 2 0 0 v.2.1.1]),
  ((0 : Nat) < 1),
  ((true = true) → (AN 1)),
  ((0 : Nat) < 1),
  Con Try.prog 74 0 [] [.p (.int .i64 v.1)] [(0, ⟨false, 1, m, (fun i => [.p (.seq false 1 ((C i).1) (fun i_1 => [.int .i64 ((C i).2 i_1)]))])⟩)] (.ar 1 0 0 m),
  (AI v.1),
  (AN v.2.1.1),
  (AP v.2.1.1 (fun i => [.int .i64 ((v.2.1.2 i).1), .int .i64 ((v.2.1.2 i).2.1)])),
  (AN 0),
  (AN 0),
  (false = false),
  (AN 0),
  (AN 0),
  (AN m),
  ((0 : Int) = (↑0 : Int)),
  ((([AV.p (PV.int IntKind.i64 v.1), graphL v.2.1].length) : Nat) = 2),
  ((1 : Nat) ≤ 1),
  ((1 : Nat) ≤ 1),
  (AI v.1),
  (AN v.2.1.1),
  (AP v.2.1.1 (fun i => [.int .i64 ((v.2.1.2 i).1), .int .i64 ((v.2.1.2 i).2.1)])),
  ((((List.map (fun v => AV.p (absV v)) [Value.int IntKind.i64 0, Value.slice none 0 0]).length) : Nat) = 2),
  ((1 : Nat) ≤ 1),
  ((1 : Nat) ≤ 1),
  (AI 0),
  ((((List.map (fun v => AV.p (absV v)) [Value.int IntKind.i64 0, Value.slice none 0 0]).length) : Nat) = 2),
  ((1 : Nat) ≤ 1),
  ((1 : Nat) ≤ 1),
  (AI v.1),
  (AN 0),
  (AN v.2.1.1),
  (AN 1),
  ((m : Nat) ≤ m),
  (AA m (fun i => [.p (.seq false 1 ((C i).1) (fun i_1 => [.int .i64 ((C i).2 i_1)]))])),
  (AN 2),
  ((v.2.1.1 : Nat) ≤ v.2.1.1),
  (AA v.2.1.1 (fun i => [.p (.int .i64 ((b i).1)), .p (.int .i64 ((b i).2.1))]))]) := by kernel_rfl
theorem cSa (v : T_Graph) (i m : Nat) (C : Nat → NL) (b h : Nat → T_Bar) :
    pieceOb Try.prog 0 [.reg [oT, oT, oT, oT], .dec true, .reg [oT, oT, oT, oT, oT, ⟨true, (some ⟨[], [], [], 1, [(0, brOb v.2.1.1 h)], .tup [.agg [.p (.int .i64 v.1), .ar 2 0 0 v.2.1.1], .p (.bool true)]⟩), none⟩, oT, oT, oT, oT, oT, oT], .reg [oT, oT, ⟨true, (some ⟨[], [], [], 1, [], .p (.bool true)⟩), none⟩], .dec true, .reg [oT, oT], .reg [oT, oT, oT], .head] [.code (cAt (bodyOf Try.f32) [1, 1, 1, 1, 0, 1, 0, 0]), .inLoop (cAt (bodyOf Try.f32) [1, 1, 1, 1, 0, 1, 0, 0]), .inBlock 0, .code (cAt (bodyOf Try.f32) [1, 1, 1, 1, 1])] (SKc v i m C b) [0, 1, 2, 3, 293] 1 (SKc v (i + 1) m C h) =
    some ([.code (cAt (bodyOf Try.f32) [1, 1, 1, 1, 0, 1, 0, 0]), .inLoop (cAt (bodyOf Try.f32) [1, 1, 1, 1, 0, 1, 0, 0]), .inBlock 0, .code (cAt (bodyOf Try.f32) [1, 1, 1, 1, 1])], [((decide ((↑i : Int) < (↑m : Int))) = true),
  ((0 : Nat) < 1),
  ((0 : Int) ≤ (↑i : Int)),
  (((↑i : Int) : Int) < (↑m : Int)),
  ((i : Nat) < m),
  Con Try.prog 75 0 [] [.agg [.p (.int .i64 v.1), .p (.seq true 2 v.2.1.1 (fun i_1 => [.int .i64 ((v.2.1.2 i_1).1), .int .i64 ((v.2.1.2 i_1).2.1)]))], .p (.seq true 1 ((C i).1) (fun i_1 => [.int .i64 ((C i).2 i_1)]))] [(0, ⟨false, 2, v.2.1.1, (fun i_1 => [.p (.int .i64 ((h i_1).1)), .p (.int .i64 ((h i_1).2.1))])⟩)] (.tup [.agg [.p (.int .i64 v.1), .ar 2 0 0 v.2.1.1], .p (.bool true)]),
  ((0 : Nat) < 1),
  ((true = true) → (AN 1)),
  ((0 : Nat) < 1),
  ((0 : Nat) < 1),
  (AN 2),
  ((v.2.1.1 : Nat) ≤ v.2.1.1),
  (AN 2),
  ((v.2.1.1 : Nat) ≤ v.2.1.1),
  Con Try.prog 76 0 [] [.agg [.p (.int .i64 v.1), .p (.seq true 2 v.2.1.1 (fun i_1 => [.int .i64 ((h i_1).1), .int .i64 ((h i_1).2.1)]))], .agg [.p (.int .i64 v.1), .p (.seq true 2 v.2.1.1 (fun i_1 => [.int .i64 ((b i_1).1), .int .i64 ((b i_1).2.1)]))]] [] (.p (.bool true)),
  (true = true),
  ((0 : Nat) < 1),
  ((0 : Nat) < 1),
  ((true = true) → (AN 1)),
  (((-9223372036854775808) : Int) ≤ ((↑i : Int) + 1)),
  ((((↑i : Int) + 1) : Int) ≤ 9223372036854775807),
  (AI v.1),
  (AN v.2.1.1),
  (AP v.2.1.1 (fun i_1 => [.int .i64 ((v.2.1.2 i_1).1), .int .i64 ((v.2.1.2 i_1).2.1)])),
  (AN 0),
  (AN 0),
  (false = false),
  (AN 0),
  (AN 0),
  (AN m),
  ((((↑i : Int) + 1) : Int) = (↑(i + 1) : Int)),
  (AN 2),
  ((1 : Nat) ≤ 1),
  ((1 : Nat) ≤ 1),
  (AI v.1),
  (AN v.2.1.1),
  (AP v.2.1.1 (fun i_1 => [.int .i64 ((v.2.1.2 i_1).1), .int .i64 ((v.2.1.2 i_1).2.1)])),
  (AN 2),
  ((1 : Nat) ≤ 1),
  ((1 : Nat) ≤ 1),
  (AI 0),
  (AN 2),
  ((1 : Nat) ≤ 1),
  ((1 : Nat) ≤ 1),
  (AI v.1),
  (AN 0),
  (AN v.2.1.1),
  (AN 1),
  ((m : Nat) ≤ m),
  (AA m (fun i_1 => [.p (.seq false 1 ((C i_1).1) (fun i_2 => [.int .i64 ((C i_1).2 i_2)]))])),
  (AN 2),
  ((v.2.1.1 : Nat) ≤ v.2.1.1),
  (AA v.2.1.1 (fun i_1 => [.p (.int .i64 ((h i_1).1)), .p (.int .i64 ((h i_1).2.1))]))]) := by kernel_rfl
theorem cSb (v : T_Graph) (i m : Nat) (C : Nat → NL) (b h : Nat → T_Bar) :
    pieceOb Try.prog 0 [.reg [oT, oT, oT, oT], .dec true, .reg [oT, oT, oT, oT, oT, ⟨true, (some ⟨[], [], [], 1, [(0, brOb v.2.1.1 h)], .tup [.agg [.p (.int .i64 v.1), .ar 2 0 0 v.2.1.1], .p (.bool true)]⟩), none⟩, oT, oT, oT, oT, oT, oT], .reg [oT, oT, ⟨true, (some ⟨[], [], [], 1, [], .p (.bool false)⟩), none⟩], .dec false, .reg [oT, oT, oT], .head] [.code (cAt (bodyOf Try.f32) [1, 1, 1, 1, 0, 1, 0, 0]), .inLoop (cAt (bodyOf Try.f32) [1, 1, 1, 1, 0, 1, 0, 0]), .inBlock 0, .code (cAt (bodyOf Try.f32) [1, 1, 1, 1, 1])] (SKc v i m C b) [0, 1, 2, 3, 4] 1 (SKc v (i + 1) m C b) =
    some ([.code (cAt (bodyOf Try.f32) [1, 1, 1, 1, 0, 1, 0, 0]), .inLoop (cAt (bodyOf Try.f32) [1, 1, 1, 1, 0, 1, 0, 0]), .inBlock 0, .code (cAt (bodyOf Try.f32) [1, 1, 1, 1, 1])], [((decide ((↑i : Int) < (↑m : Int))) = true),
  ((0 : Nat) < 1),
  ((0 : Int) ≤ (↑i : Int)),
  (((↑i : Int) : Int) < (↑m : Int)),
  ((i : Nat) < m),
  Con Try.prog 75 0 [] [.agg [.p (.int .i64 v.1), .p (.seq true 2 v.2.1.1 (fun i_1 => [.int .i64 ((v.2.1.2 i_1).1), .int .i64 ((v.2.1.2 i_1).2.1)]))], .p (.seq true 1 ((C i).1) (fun i_1 => [.int .i64 ((C i).2 i_1)]))] [(0, ⟨false, 2, v.2.1.1, (fun i_1 => [.p (.int .i64 ((h i_1).1)), .p (.int .i64 ((h i_1).2.1))])⟩)] (.tup [.agg [.p (.int .i64 v.1), .ar 2 0 0 v.2.1.1], .p (.bool true)]),
  ((0 : Nat) < 1),
  ((true = true) → (AN 1)),
  ((0 : Nat) < 1),
  ((0 : Nat) < 1),
  (AN 2),
  ((v.2.1.1 : Nat) ≤ v.2.1.1),
  (AN 2),
  ((v.2.1.1 : Nat) ≤ v.2.1.1),
  Con Try.prog 76 0 [] [.agg [.p (.int .i64 v.1), .p (.seq true 2 v.2.1.1 (fun i_1 => [.int .i64 ((h i_1).1), .int .i64 ((h i_1).2.1)]))], .agg [.p (.int .i64 v.1), .p (.seq true 2 v.2.1.1 (fun i_1 => [.int .i64 ((b i_1).1), .int .i64 ((b i_1).2.1)]))]] [] (.p (.bool false)),
  (false = false),
  (((-9223372036854775808) : Int) ≤ ((↑i : Int) + 1)),
  ((((↑i : Int) + 1) : Int) ≤ 9223372036854775807),
  (AI v.1),
  (AN v.2.1.1),
  (AP v.2.1.1 (fun i_1 => [.int .i64 ((v.2.1.2 i_1).1), .int .i64 ((v.2.1.2 i_1).2.1)])),
  (AN 0),
  (AN 0),
  (false = false),
  (AN 0),
  (AN 0),
  (AN m),
  ((((↑i : Int) + 1) : Int) = (↑(i + 1) : Int)),
  (AN 2),
  ((1 : Nat) ≤ 1),
  ((1 : Nat) ≤ 1),
  (AI v.1),
  (AN v.2.1.1),
  (AP v.2.1.1 (fun i_1 => [.int .i64 ((v.2.1.2 i_1).1), .int .i64 ((v.2.1.2 i_1).2.1)])),
  (AN 2),
  ((1 : Nat) ≤ 1),
  ((1 : Nat) ≤ 1),
  (AI 0),
  (AN 2),
  ((1 : Nat) ≤ 1),
  ((1 : Nat) ≤ 1),
  (AI v.1),
  (AN 0),
  (AN v.2.1.1),
  (AN 1),
  ((m : Nat) ≤ m),
  (AA m (fun i_1 => [.p (.seq false 1 ((C i_1).1) (fun i_2 => [.int .i64 ((C i_1).2 i_2)]))])),
  (AN 2),
  ((v.2.1.1 : Nat) ≤ v.2.1.1),
  (AA v.2.1.1 (fun i_1 => [.p (.int .i64 ((b i_1).1)), .p (.int .i64 ((b i_1).2.1))]))]) := by kernel_rfl
theorem cSe (v : T_Graph) (i m : Nat) (C : Nat → NL) (b : Nat → T_Bar) :
    pathOb Try.prog Try.f32 0 [.reg [oT, oT, oT, oT], .dec false, .reg [oT, oT, oT]] [.code (cAt (bodyOf Try.f32) [1, 1, 1, 1, 0, 1, 0, 0]), .inLoop (cAt (bodyOf Try.f32) [1, 1, 1, 1, 0, 1, 0, 0]), .inBlock 0, .code (cAt (bodyOf Try.f32) [1, 1, 1, 1, 1])] (SKc v i m C b) [4] 1 [(0, brOb v.2.1.1 b)] (.tup [.agg [.p (.int .i64 v.1), .ar 2 0 0 v.2.1.1], .p (.bool true)]) =
    some [((decide ((↑i : Int) < (↑m : Int))) = false),
  ((0 : Nat) < 1),
  ((0 : Nat) < 1),
  ((true = true) → (AN 1)),
  ((0 : Nat) < 1),
  (AI v.1),
  (AN 0),
  (AN v.2.1.1),
  (true = true),
  (AN 2),
  ((v.2.1.1 : Nat) ≤ v.2.1.1),
  (AA v.2.1.1 (fun i_1 => [.p (.int .i64 ((b i_1).1)), .p (.int .i64 ((b i_1).2.1))])),
  (AE v.2.1.1)] := by kernel_rfl
end Go.Proofs.Ytgdbnnmogddkaaa.Mach
namespace Go.Proofs.Ytgdbnnmogddkaaa.Mach
open Go Go.Sort
set_option linter.unusedVariables false
set_option linter.unusedSimpArgs false
def bfD (h b : Nat → T_Bar) : Nat → Nat → Bool
  | 0, _ => false
  | d + 1, i => if nqB (h i) (b i) = true then aft (h i) (b i) else bfD h b d (i + 1)
def cmD (h b : Nat → T_Bar) : Nat → Nat → Int
  | 0, _ => 0
  | d + 1, i => if cmpB (h i) (b i) = 0 then cmD h b d (i + 1) else cmpB (h i) (b i)
theorem cmp_nq (x y : T_Bar) : (nqB x y = true ↔ cmpB x y ≠ 0) ∧ (nqB x y = true → (decide (cmpB x y < 0) = aft x y)) := by
  unfold nqB cmpB cmpI aft
  by_cases h1 : x.1 = y.1
  · have e1 : (x.1 == y.1) = true := beq_iff_eq.2 h1
    by_cases h2 : x.2.1 = y.2.1
    · simp [h1, h2]
    · have e2 : (x.2.1 == y.2.1) = false := beq_eq_false_iff_ne.2 h2
      rcases Int.lt_or_gt_of_ne h2 with h3 | h3
      · simp [h1, e2, h3, show x.2.1 ≤ y.2.1 by omega]
      · simp [h1, e2, h3, show ¬ x.2.1 < y.2.1 by omega, show ¬ x.2.1 ≤ y.2.1 by omega]
  · have e1 : (x.1 == y.1) = false := beq_eq_false_iff_ne.2 h1
    rcases Int.lt_or_gt_of_ne h1 with h3 | h3
    · simp [e1, h3]
    · simp [e1, h3, show ¬ x.1 < y.1 by omega]
theorem cm_bf (h b : Nat → T_Bar) : ∀ d i, decide (cmD h b d i < 0) = bfD h b d i
  | 0, i => by simp [cmD, bfD]
  | d + 1, i => by
    obtain ⟨h1, h2⟩ := cmp_nq (h i) (b i)
    have e1 : cmD h b (d + 1) i = if cmpB (h i) (b i) = 0 then cmD h b d (i + 1) else cmpB (h i) (b i) := rfl
    have e2 : bfD h b (d + 1) i = if nqB (h i) (b i) = true then aft (h i) (b i) else bfD h b d (i + 1) := rfl
    by_cases e : cmpB (h i) (b i) = 0
    · rw [if_pos e] at e1
      rw [if_neg (fun h => h1.1 h e)] at e2
      rw [e1, e2]
      exact cm_bf h b d (i + 1)
    · rw [if_neg e] at e1
      rw [if_pos (h1.2 e)] at e2
      rw [e1, e2]
      exact h2 (h1.2 e)
theorem con_CmpF (n : Nat) (h b : Nat → T_Bar) (hn : n ≤ 1048576) : Con Try.prog 81 0 [] [brLs h n, brLs b n, .p (.fn 82)] [] (.p (.int .i64 (cmD h b n 0))) := by
  refine con_start Try.func81 rfl (by kernel_rfl) rfl (fun c hc => ?_)
  have lo : ∀ d k, k + d = n → Run Try.prog c 81 [.code (cAt (bodyOf Try.f81) [1, 0, 1, 0, 0]), .inLoop (cAt (bodyOf Try.f81) [1, 0, 1, 0, 0]), .inBlock 0, .code (cAt (bodyOf Try.f81) [1, 1])] (SKf n h b k) (Post c [] (.p (.int .i64 (cmD h b d k)))) := by
    intro d
    induction d with
    | zero =>
      intro k hk
      obtain rfl : k = n := by omega
      have hd : decide ((k : Int) < (k : Int)) = false := by simp
      refine path_ok mixed Try.func81 hc (cFe k h b k) ?_
      simp only [All]
      repeat' (first | exact trivial | with_reducible apply And.intro)
      all_goals (first | exact aG _ | exact aP _ _ | exact aA _ _ | exact aE _ | omega | rfl | (intros; first | assumption | exact True.intro | rfl | exact absurd (show false = true by assumption) Bool.false_ne_true | ((repeat' (first | assumption | apply anda | apply notf)); done)) | (exact hd))
    | succ d ih =>
      intro k hk
      have hrec := ih (k + 1) (by omega)
      have hd : decide ((k : Int) < (n : Int)) = true := decide_eq_true (by omega)
      have hd2 : decide ((k : Int) ≥ (n : Int)) = false := decide_eq_false (by omega)
      have cc := con_compareBars (h k) (b k)
      simp only [cmD]
      by_cases e : cmpB (h k) (b k) = 0
      · rw [if_pos e]
        have hq : (cmpB (h k) (b k) != 0) = false := by simp [e]
        refine piece_ok mixed hc (cFa n h b k (cmpB (h k) (b k))) ?_ hrec
        simp only [All]
        repeat' (first | exact trivial | with_reducible apply And.intro)
        all_goals (first | exact aG _ | exact aP _ _ | exact aA _ _ | exact aE _ | omega | rfl | (intros; first | assumption | exact True.intro | rfl | exact absurd (show false = true by assumption) Bool.false_ne_true | ((repeat' (first | assumption | apply anda | apply notf)); done)) | (exact hd) | (exact hd2) | (exact cc) | (exact hq) | (intro t ht; simp [All, aEt]))
      · rw [if_neg e]
        have hq : (cmpB (h k) (b k) != 0) = true := by simp [e]
        refine path_ok mixed Try.func81 hc (cFb n h b k (cmpB (h k) (b k))) ?_
        simp only [All]
        repeat' (first | exact trivial | with_reducible apply And.intro)
        all_goals (first | exact aG _ | exact aP _ _ | exact aA _ _ | exact aE _ | omega | rfl | (intros; first | assumption | exact True.intro | rfl | exact absurd (show false = true by assumption) Bool.false_ne_true | ((repeat' (first | assumption | apply anda | apply notf)); done)) | (exact hd) | (exact hd2) | (exact cc) | (exact hq))
  refine piece_ok mixed hc (cFz n h b) ?_ (lo n 0 (by omega))
  simp only [All]
  repeat' (first | exact trivial | with_reducible apply And.intro)
  all_goals (first | exact aG _ | exact aP _ _ | exact aA _ _ | exact aE _ | omega | rfl | (intros; first | assumption | exact True.intro | rfl | exact absurd (show false = true by assumption) Bool.false_ne_true | ((repeat' (first | assumption | apply anda | apply notf)); done)) | (intro t ht; simp [All, aEt]))
theorem con_Before (v u : T_Graph) (he : v.2.1.1 = u.2.1.1) (hn : u.2.1.1 ≤ 1048576) : Con Try.prog 76 0 [] [graphA v, graphA u] [] (.p (.bool (bfD v.2.1.2 u.2.1.2 u.2.1.1 0))) := by
  refine con_start Try.func76 rfl (by kernel_rfl) rfl (fun c hc => ?_)
  have lo : ∀ d k, k + d = u.2.1.1 → Run Try.prog c 76 [.code (cAt (bodyOf Try.f76) [1, 0, 1, 0, 0]), .inLoop (cAt (bodyOf Try.f76) [1, 0, 1, 0, 0]), .inBlock 0, .code (cAt (bodyOf Try.f76) [1, 1])] (SKb v u k) (Post c [] (.p (.bool (bfD v.2.1.2 u.2.1.2 d k)))) := by
    intro d
    induction d with
    | zero =>
      intro k hk
      have hd : (bif decide ((k : Int) < (v.2.1.1 : Int)) then decide ((k : Int) < (u.2.1.1 : Int)) else false) = false := by
        rw [decide_eq_false (show ¬ (k : Int) < (v.2.1.1 : Int) by omega)]; rfl
      refine path_ok mixed Try.func76 hc (cBe v u k) ?_
      simp only [All]
      repeat' (first | exact trivial | with_reducible apply And.intro)
      all_goals (first | exact aG _ | exact aP _ _ | exact aA _ _ | exact aE _ | omega | rfl | (intros; first | assumption | exact True.intro | rfl | exact absurd (show false = true by assumption) Bool.false_ne_true | ((repeat' (first | assumption | apply anda | apply notf)); done)) | (exact hd) | (simp; omega))
    | succ d ih =>
      intro k hk
      have hrec := ih (k + 1) (by omega)
      have hd : (bif decide ((k : Int) < (v.2.1.1 : Int)) then decide ((k : Int) < (u.2.1.1 : Int)) else false) = true := by
        rw [decide_eq_true (show (k : Int) < (v.2.1.1 : Int) by omega), decide_eq_true (show (k : Int) < (u.2.1.1 : Int) by omega)]; rfl
      have cc := con_l2After (v.2.1.2 k) (u.2.1.2 k)
      simp only [bfD]
      by_cases e : nqB (v.2.1.2 k) (u.2.1.2 k) = true
      · rw [if_pos e]
        refine path_ok mixed Try.func76 hc (cBb v u k (aft (v.2.1.2 k) (u.2.1.2 k))) ?_
        simp only [All]
        repeat' (first | exact trivial | with_reducible apply And.intro)
        all_goals (first | exact aG _ | exact aP _ _ | exact aA _ _ | exact aE _ | omega | rfl | (intros; first | assumption | exact True.intro | rfl | exact absurd (show false = true by assumption) Bool.false_ne_true | ((repeat' (first | assumption | apply anda | apply notf)); done)) | (exact hd) | (exact e) | (exact cc))
      · rw [if_neg e]
        have e' : nqB (v.2.1.2 k) (u.2.1.2 k) = false := by simpa using e
        refine piece_ok mixed hc (cBa v u k) ?_ hrec
        simp only [All]
        repeat' (first | exact trivial | with_reducible apply And.intro)
        all_goals (first | exact aG _ | exact aP _ _ | exact aA _ _ | exact aE _ | omega | rfl | (intros; first | assumption | exact True.intro | rfl | exact absurd (show false = true by assumption) Bool.false_ne_true | ((repeat' (first | assumption | apply anda | apply notf)); done)) | (exact hd) | (exact e') | (intro t ht; simp [All, aEt]))
  refine piece_ok mixed hc (cBz v u) ?_ (lo u.2.1.1 0 (by omega))
  simp only [All]
  repeat' (first | exact trivial | with_reducible apply And.intro)
  all_goals (first | exact aG _ | exact aP _ _ | exact aA _ _ | exact aE _ | omega | rfl | (intros; first | assumption | exact True.intro | rfl | exact absurd (show false = true by assumption) Bool.false_ne_true | ((repeat' (first | assumption | apply anda | apply notf)); done)) | (intro t ht; simp [All, aEt]))
def foldK {α : Type} (f : Nat → α → α) : Nat → α → α
  | 0, a => a
  | n + 1, a => f n (foldK f n a)
theorem foldK_congr {α : Type} {f g : Nat → α → α} : ∀ n a, (∀ i, i < n → ∀ b, f i b = g i b) → foldK f n a = foldK g n a
  | 0, _, _ => rfl
  | n + 1, a, h => by simp only [foldK]; rw [foldK_congr n a (fun i hi b => h i (by omega) b), h n (by omega)]
def upB (v : T_Graph) (s : Nat → Int) (b : Nat → T_Bar) : Nat → T_Bar :=
  if bfD (srtB v.2.1.1 (rnD v.2.1.2 s)) b v.2.1.1 0 = true then srtB v.2.1.1 (rnD v.2.1.2 s) else b
def dfs (v : T_Graph) : Nat → NL → (Nat → T_Bar) → (Nat → T_Bar)
  | 0 => fun r b => upB v r.2 b
  | d + 1 => fun r b => foldK (fun k b => if hasI r.2 k r.1 = true then b else dfs v d (snL r k) b) v.1.toNat b
abbrev LL := Nat × (Nat → NL)
def snR (q : Nat) (D : Nat → NL) (x : NL) (s : Nat) : NL := if s < q then D s else x
def exI (r : NL) (a : LL) : Nat → LL
  | 0 => a
  | x + 1 => if hasI r.2 x r.1 = true then exI r a x else ((exI r a x).1 + 1, snR (exI r a x).1 (exI r a x).2 (snL r x))
def exK (N : Nat) (O : LL) : Nat → LL
  | 0 => (0, fun _ => zNL)
  | k + 1 => exI (O.2 k) (exK N O k) N
def orD (N : Nat) : Nat → LL
  | 0 => (1, fun _ => zNL)
  | i + 1 => exK N (orD N i) (orD N i).1
def foldL {α : Type} (f : NL → α → α) (L : LL) (a : α) : α := foldK (fun i a => f (L.2 i) a) L.1 a
theorem foldL_sn {α : Type} (f : NL → α → α) (L : LL) (x : NL) (a : α) : foldL f (L.1 + 1, snR L.1 L.2 x) a = f x (foldL f L a) := by
  unfold foldL
  show f (snR L.1 L.2 x L.1) (foldK _ L.1 a) = _
  rw [show snR L.1 L.2 x L.1 = x by simp [snR]]
  congr 1
  exact foldK_congr L.1 a (fun i hi b => by simp [snR, hi])
theorem foldL_exI {α : Type} (f : NL → α → α) (r : NL) (L : LL) (a : α) : ∀ x, foldL f (exI r L x) a = foldK (fun k b => if hasI r.2 k r.1 = true then b else f (snL r k) b) x (foldL f L a)
  | 0 => rfl
  | x + 1 => by
    have ih := foldL_exI f r L a x
    simp only [exI, foldK]
    split
    · exact ih
    · rw [foldL_sn, ih]
theorem foldL_exK (v : T_Graph) (d : Nat) (O : LL) (a : Nat → T_Bar) : ∀ k, foldL (dfs v d) (exK v.1.toNat O k) a = foldK (fun i b => dfs v (d + 1) (O.2 i) b) k a
  | 0 => rfl
  | k + 1 => by
    have ih := foldL_exK v d O a k
    simp only [exK, foldK]
    rw [foldL_exI, ih]
    rfl
theorem orders_dfs (v : T_Graph) (a : Nat → T_Bar) : ∀ i d, foldL (dfs v d) (orD v.1.toNat i) a = dfs v (i + d) zNL a
  | 0, d => by rw [Nat.zero_add]; rfl
  | i + 1, d => by
    rw [orD, foldL_exK]
    have := orders_dfs v a i (d + 1)
    unfold foldL at this
    rw [this, show i + (d + 1) = i + 1 + d by omega]
theorem exI_n (r : NL) (a : LL) : ∀ x, (exI r a x).1 ≤ a.1 + x
  | 0 => Nat.le_refl _
  | x + 1 => by
    have := exI_n r a x
    simp only [exI]
    split
    · omega
    · show (exI r a x).1 + 1 ≤ _; omega
theorem exK_n (N : Nat) (O : LL) : ∀ k, (exK N O k).1 ≤ k * N
  | 0 => Nat.zero_le _
  | k + 1 => by
    have := exK_n N O k
    have := exI_n (O.2 k) (exK N O k) N
    simp only [exK]
    rw [Nat.add_mul]; omega
theorem orD_n (N : Nat) (hN : N ≤ 5) : ∀ i, (orD N i).1 ≤ 5 ^ i
  | 0 => Nat.le_refl _
  | i + 1 => by
    have h1 := orD_n N hN i
    have h2 := exK_n N (orD N i) (orD N i).1
    have h3 := Nat.mul_le_mul h1 hN
    rw [Nat.pow_succ]
    exact Nat.le_trans h2 h3
theorem exI_all (P : NL → Prop) (r : NL) (a : LL) (n : Nat) (ha : ∀ i, i < a.1 → P (a.2 i)) (hr : ∀ x : Nat, x < n → hasI r.2 x r.1 = false → P (snL r x)) : ∀ x, x ≤ n → ∀ i, i < (exI r a x).1 → P ((exI r a x).2 i)
  | 0, _ => ha
  | x + 1, hx => by
    have ih := exI_all P r a n ha hr x (by omega)
    simp only [exI]
    split
    · exact ih
    · rename_i h
      intro i hi
      show P (snR _ _ _ i)
      unfold snR
      split
      · rename_i h'; exact ih i h'
      · exact hr x (by omega) (by simpa using h)
theorem exK_all (P Q : NL → Prop) (N : Nat) (O : LL) (hO : ∀ i, i < O.1 → Q (O.2 i)) (hr : ∀ r, Q r → ∀ x : Nat, x < N → hasI r.2 x r.1 = false → P (snL r x)) : ∀ k, k ≤ O.1 → ∀ i, i < (exK N O k).1 → P ((exK N O k).2 i)
  | 0, _ => fun i hi => absurd hi (Nat.not_lt_zero _)
  | k + 1, hk => exI_all P (O.2 k) (exK N O k) N (exK_all P Q N O hO hr k (by omega)) (fun x hx hh => hr _ (hO k (by omega)) x hx hh) N (Nat.le_refl _)
theorem hasI_congrJ (f g : Nat → Int) (x : Int) : ∀ n, (∀ i, i < n → f i = g i) → hasI f x n = hasI g x n
  | 0, _ => rfl
  | n + 1, h => by simp only [hasI]; rw [hasI_congrJ f g x n (fun i hi => h i (by omega)), h n (by omega)]
theorem okD_congrJ (N : Int) (f g : Nat → Int) : ∀ n, (∀ i, i < n → f i = g i) → okD N f n = okD N g n
  | 0, _ => rfl
  | n + 1, h => by
    simp only [okD, difN]
    rw [okD_congrJ N f g n (fun i hi => h i (by omega)), h n (by omega), hasI_congrJ f g (g n) n (fun i hi => h i (by omega))]
def okNL (v : T_Graph) (i : Nat) (r : NL) : Prop := r.1 = i ∧ okD v.1 r.2 i = true
theorem okNL_sn {v : T_Graph} {i : Nat} {r : NL} (h : okNL v i r) {x : Nat} (hx : x < v.1.toNat) (hh : hasI r.2 x r.1 = false) : okNL v (i + 1) (snL r x) := by
  obtain ⟨rfl, h2⟩ := h
  refine ⟨rfl, ?_⟩
  have e1 : ∀ j, j < r.1 → (snL r x).2 j = r.2 j := fun j hj => by show (if j < r.1 then _ else _) = _; rw [if_pos hj]
  have e2 : (snL r x).2 r.1 = x := by show (if r.1 < r.1 then _ else _) = _; rw [if_neg (Nat.lt_irrefl _)]
  simp only [okD, difN]
  rw [okD_congrJ v.1 (snL r x).2 r.2 r.1 e1, h2, e2, hasI_congrJ (snL r x).2 r.2 x r.1 e1, hh]
  have : inB (x : Int) 0 (v.1 - 1) = true := by simp [inB]; omega
  rw [this]; rfl
theorem orD_ok (v : T_Graph) : ∀ i, ∀ j, j < (orD v.1.toNat i).1 → okNL v i ((orD v.1.toNat i).2 j)
  | 0 => fun j hj => ⟨rfl, rfl⟩
  | i + 1 => exK_all (okNL v (i + 1)) (okNL v i) v.1.toNat (orD v.1.toNat i) (orD_ok v i) (fun r hr x hx hh => okNL_sn hr hx hh) _ (Nat.le_refl _)
theorem rn_ok {v : T_Graph} (hg : isGraphF v = true) {r : NL} (h : okNL v v.1.toNat r) : rnB v r = true ∧ rnG v r = (v.1, (v.2.1.1, srtB v.2.1.1 (rnD v.2.1.2 r.2)), ()) := by
  obtain ⟨h1, h2⟩ := h
  have := graph_inR hg
  have hb : rnB v r = true := by
    simp only [rnB, Bool.and_eq_true, beq_iff_eq]
    refine ⟨hg, ?_, ?_⟩
    · show (r.1 : Int) = v.1; rw [h1]; omega
    · show okD v.1 r.2 r.1 = true; rw [h1]; exact h2
  exact ⟨hb, by simp [rnG, hb]⟩
theorem con_try (v : T_Graph) (hg : isGraphF v = true) : ∀ (d : Nat) (r : NL) (b : Nat → T_Bar), okNL v r.1 r → r.1 + d = v.1.toNat →
    Con Try.prog 79 4 [(0, cgO v), (1, cbO v.1 3 v.2.1.1), (2, ctO 0 1 2), (3, brOb v.2.1.1 b)] [rlL r, .pt 2 0 0 0, .pt 2 1 0 0, .pt 1 2 0 0]
      [(0, cgO v), (1, cbO v.1 4 v.2.1.1), (2, ctO 0 1 2), (4, brOb v.2.1.1 (dfs v d r b))] (.tup [])
  | 0, r, b, hok, hd => by
    have gi := graph_inR hg
    have hok' : okNL v v.1.toNat r := by
      have : r.1 = v.1.toNat := by omega
      rw [← this]; exact hok
    obtain ⟨e1, e2⟩ := rn_ok hg hok'
    have c1 := con_Rename_i v (sm_graph (by omega)) r (by omega)
    rw [e1, e2] at c1
    have c2 := con_CmpF v.2.1.1 (srtB v.2.1.1 (rnD v.2.1.2 r.2)) b (by omega)
    have hlen : ((r.1 : Int) == v.1) = true := beq_iff_eq.2 (by omega)
    have hcb := cm_bf (srtB v.2.1.1 (rnD v.2.1.2 r.2)) b v.2.1.1 0
    show Con _ _ _ _ _ [_, _, _, (4, brOb v.2.1.1 (upB v r.2 b))] _
    unfold upB
    generalize srtB v.2.1.1 (rnD v.2.1.2 r.2) = h at *
    refine con_start Try.func79 rfl (by kernel_rfl) rfl (fun c hc => ?_)
    by_cases hb : bfD h b v.2.1.1 0 = true
    · rw [if_pos hb]
      rw [hb] at hcb
      refine path_ok mixed Try.func79 hc (cTa v r b h (cmD h b v.2.1.1 0)) ?_
      simp only [All]
      repeat' (first | exact trivial | with_reducible apply And.intro)
      all_goals (first | exact aG _ | exact aP _ _ | exact aA _ _ | exact aE _ | omega | rfl | (intros; first | assumption | exact True.intro | rfl | exact absurd (show false = true by assumption) Bool.false_ne_true | ((repeat' (first | assumption | apply anda | apply notf)); done)) | (exact hlen) | (exact c1) | (exact c2) | (exact hcb) | (intros; simp [All, aEt, ntAL, ntA, ntP, ntL]; done))
    · rw [if_neg hb]
      rw [show bfD h b v.2.1.1 0 = false by simpa using hb] at hcb
      refine path_ok mixed Try.func79 hc (cTb v r b h (cmD h b v.2.1.1 0)) ?_
      simp only [All]
      repeat' (first | exact trivial | with_reducible apply And.intro)
      all_goals (first | exact aG _ | exact aP _ _ | exact aA _ _ | exact aE _ | omega | rfl | (intros; first | assumption | exact True.intro | rfl | exact absurd (show false = true by assumption) Bool.false_ne_true | ((repeat' (first | assumption | apply anda | apply notf)); done)) | (exact hlen) | (exact c1) | (exact c2) | (exact hcb) | (intros; simp [All, aEt, ntAL, ntA, ntP, ntL]; done))
  | d + 1, r, b, hok, hd => by
    have ih := con_try v hg d
    have gi := graph_inR hg
    have hlen : ((r.1 : Int) == v.1) = false := beq_eq_false_iff_ne.2 (by omega)
    refine con_start Try.func79 rfl (by kernel_rfl) rfl (fun c hc => ?_)
    have hR : foldK (fun k b => if hasI r.2 k r.1 = true then b else dfs v d (snL r k) b) v.1.toNat b = dfs v (d + 1) r b := rfl
    generalize dfs v (d + 1) r b = R at hR ⊢
    have lo : ∀ m k, k + m = v.1.toNat → Run Try.prog c 79 [.code (cAt (bodyOf Try.f79) [1, 1, 0, 0]), .inLoop (cAt (bodyOf Try.f79) [1, 1, 0, 0]), .inBlock 0] (SKt v r k 4 (foldK (fun k b => if hasI r.2 k r.1 = true then b else dfs v d (snL r k) b) k b)) (Post c [(0, cgO v), (1, cbO v.1 4 v.2.1.1), (2, ctO 0 1 2), (4, brOb v.2.1.1 R)] (.tup [])) := by
      intro m
      induction m with
      | zero =>
        intro k hk
        obtain rfl : k = v.1.toNat := by omega
        have hd0 : decide (((v.1.toNat : Nat) : Int) < v.1) = false := decide_eq_false (by omega)
        rw [hR]
        refine path_ok mixed Try.func79 hc (cTe v r v.1.toNat R) ?_
        simp only [All]
        repeat' (first | exact trivial | with_reducible apply And.intro)
        all_goals (first | exact aG _ | exact aP _ _ | exact aA _ _ | exact aE _ | omega | rfl | (intros; first | assumption | exact True.intro | rfl | exact absurd (show false = true by assumption) Bool.false_ne_true | ((repeat' (first | assumption | apply anda | apply notf)); done)) | (exact hd0) | (intros; simp [All, aEt, ntAL, ntA, ntP, ntL]; done))
      | succ m ihm =>
        intro k hk
        have hrec := ihm (k + 1) (by omega)
        have hd0 : decide ((k : Int) < v.1) = true := decide_eq_true (by omega)
        have ch := con_Contains r k (by omega)
        rw [show foldK (fun k b => if hasI r.2 k r.1 = true then b else dfs v d (snL r k) b) (k + 1) b = (if hasI r.2 k r.1 = true then foldK (fun k b => if hasI r.2 k r.1 = true then b else dfs v d (snL r k) b) k b else dfs v d (snL r k) (foldK (fun k b => if hasI r.2 k r.1 = true then b else dfs v d (snL r k) b) k b)) from rfl] at hrec
        generalize foldK (fun k b => if hasI r.2 k r.1 = true then b else dfs v d (snL r k) b) k b = B at hrec ⊢
        by_cases hh : hasI r.2 k r.1 = true
        · rw [if_pos hh] at hrec
          rw [hh] at ch
          refine piece_ok mixed hc (cTs v r k B) ?_ hrec
          simp only [All]
          repeat' (first | exact trivial | with_reducible apply And.intro)
          all_goals (first | exact aG _ | exact aP _ _ | exact aA _ _ | exact aE _ | omega | rfl | (intros; first | assumption | exact True.intro | rfl | exact absurd (show false = true by assumption) Bool.false_ne_true | ((repeat' (first | assumption | apply anda | apply notf)); done)) | (exact hd0) | (exact ch) | (intros; simp [All, aEt, ntAL, ntA, ntP, ntL]; done))
        · rw [if_neg hh] at hrec
          have hh' : hasI r.2 k r.1 = false := by simpa using hh
          rw [hh'] at ch
          have cc := con_copyInts r.1 r.2 (by omega)
          have ci := ih (snL r k) B (okNL_sn hok (by omega) hh') (by show r.1 + 1 + d = _; omega)
          refine piece_ok mixed hc (cTr v r k B (dfs v d (snL r k) B)) ?_ hrec
          simp only [All]
          repeat' (first | exact trivial | with_reducible apply And.intro)
          all_goals (first | exact aG _ | exact aP _ _ | exact aA _ _ | exact aE _ | omega | rfl | (intros; first | assumption | exact True.intro | rfl | exact absurd (show false = true by assumption) Bool.false_ne_true | ((repeat' (first | assumption | apply anda | apply notf)); done)) | (exact hd0) | (exact ch) | (exact cc) | (refine Con.arg_ext ci ?_; refine ⟨rfl, fun i hi => ?_, rfl, rfl, rfl, trivial⟩; by_cases h' : i < r.1 <;> simp [h', snL, snJ, cellP, tg, tru]) | (intros; simp [All, aEt, ntAL, ntA, ntP, ntL]; done))
    refine piece_ok mixed hc (cTz v r b) ?_ (lo v.1.toNat 0 (by omega))
    simp only [All]
    repeat' (first | exact trivial | with_reducible apply And.intro)
    all_goals (first | exact aG _ | exact aP _ _ | exact aA _ _ | exact aE _ | omega | rfl | (intros; first | assumption | exact True.intro | rfl | exact absurd (show false = true by assumption) Bool.false_ne_true | ((repeat' (first | assumption | apply anda | apply notf)); done)) | (exact hlen) | (intros; simp [All, aEt, ntAL, ntA, ntP, ntL]; done))
end Go.Proofs.Ytgdbnnmogddkaaa.Mach
namespace Go.Proofs.Ytgdbnnmogddkaaa.Mach
open Go Go.Sort
set_option linter.unusedVariables false
set_option linter.unusedSimpArgs false
theorem con_Orders (N : Nat) (hN : N ≤ 5) : Con Try.prog 74 0 [] [.p (.int .i64 N)] [(0, rlOb (orD N N).1 (orD N N).2)] (.ar 1 0 0 (orD N N).1) := by
  refine con_start Try.func74 rfl (by kernel_rfl) rfl (fun c hc => ?_)
  generalize hR : orD N N = R
  have P5 : ∀ i, i ≤ 5 → 5 ^ i ≤ 3125 := by
    intro i hi
    have : 5 ^ i ≤ 5 ^ 5 := Nat.pow_le_pow_right (by omega) hi
    exact this
  have lens : ∀ i, ∀ j, j < (orD N i).1 → ((orD N i).2 j).1 = i := by
    have hv : ((N : Int), ((0, fun _ => (0, 0, ())) : T_BarS), ()).1.toNat = N := Int.toNat_natCast N
    intro i j hj
    have := orD_ok ((N : Int), ((0, fun _ => (0, 0, ())) : T_BarS), ()) i j (by rw [hv]; exact hj)
    rw [hv] at this
    exact this.1
  have lx : ∀ i, i < N → ∀ k, k < (orD N i).1 → ∀ A : LL, A.1 + N ≤ 20000 →
      (Run Try.prog c 74 [.code (cAt (bodyOf Try.f74) [1, 1, 0, 1, 0, 0, 1, 0, 0, 1, 0, 1, 0, 0]), .inLoop (cAt (bodyOf Try.f74) [1, 1, 0, 1, 0, 0, 1, 0, 0, 1, 0, 1, 0, 0]), .inBlock 2, .code (cAt (bodyOf Try.f74) [1, 1, 0, 1, 0, 0, 1, 0, 0, 1, 1]), .inBlock 1, .code (cAt (bodyOf Try.f74) [1, 1, 0, 1, 0, 0, 1, 1]), .inLoop (cAt (bodyOf Try.f74) [1, 1, 0, 1, 0, 0]), .inBlock 0, .code (cAt (bodyOf Try.f74) [1, 1, 1])] (SKp N i (orD N i).1 (k + 1) (exI ((orD N i).2 k) A N).1 (orD N i).2 (exI ((orD N i).2 k) A N).2) (Post c [(0, rlOb R.1 R.2)] (.ar 1 0 0 R.1))) →
      ∀ m x, x + m = N → Run Try.prog c 74 [.code (cAt (bodyOf Try.f74) [1, 1, 0, 1, 0, 0, 1, 0, 0, 1, 0, 1, 0, 0, 1, 0, 0, 1, 0, 0]), .inLoop (cAt (bodyOf Try.f74) [1, 1, 0, 1, 0, 0, 1, 0, 0, 1, 0, 1, 0, 0, 1, 0, 0, 1, 0, 0]), .inBlock 4, .inBlock 3, .code (cAt (bodyOf Try.f74) [1, 1, 0, 1, 0, 0, 1, 0, 0, 1, 0, 1, 0, 0, 1, 1]), .inLoop (cAt (bodyOf Try.f74) [1, 1, 0, 1, 0, 0, 1, 0, 0, 1, 0, 1, 0, 0]), .inBlock 2, .code (cAt (bodyOf Try.f74) [1, 1, 0, 1, 0, 0, 1, 0, 0, 1, 1]), .inBlock 1, .code (cAt (bodyOf Try.f74) [1, 1, 0, 1, 0, 0, 1, 1]), .inLoop (cAt (bodyOf Try.f74) [1, 1, 0, 1, 0, 0]), .inBlock 0, .code (cAt (bodyOf Try.f74) [1, 1, 1])] (SKq N i (orD N i).1 k (exI ((orD N i).2 k) A x).1 x (orD N i).2 (exI ((orD N i).2 k) A x).2) (Post c [(0, rlOb R.1 R.2)] (.ar 1 0 0 R.1)) := by
    intro i hi k hk A hA hnext m
    induction m with
    | zero =>
      intro x hx
      obtain rfl : x = N := by omega
      have hd : decide ((x : Int) < (x : Int)) = false := by simp
      have hO := orD_n x hN i
      have h5 := P5 i (by omega)
      refine piece_ok mixed hc (cOe x i (orD x i).1 k (exI ((orD x i).2 k) A x).1 x (orD x i).2 (exI ((orD x i).2 k) A x).2) ?_ hnext
      simp only [All]
      repeat' (first | exact trivial | with_reducible apply And.intro)
      all_goals (first | exact aG _ | exact aP _ _ | exact aA _ _ | exact aE _ | omega | rfl | (intros; first | assumption | exact True.intro | rfl | exact absurd (show false = true by assumption) Bool.false_ne_true | ((repeat' (first | assumption | apply anda | apply notf)); done)) | (exact hd) | (intros; simp [All, aEt]; done))
    | succ m ih =>
      intro x hx
      have hrec := ih (x + 1) (by omega)
      have hd : decide ((x : Int) < (N : Int)) = true := decide_eq_true (by omega)
      have hlen := lens i k hk
      have hO := orD_n N hN i
      have h5 := P5 i (by omega)
      have hA' := exI_n ((orD N i).2 k) A x
      have ch := con_l2Has ((orD N i).2 k) x (by omega)
      simp only [exI] at hrec
      generalize exI ((orD N i).2 k) A x = B at hA' hrec ⊢
      generalize orD N i = O at *
      by_cases hh : hasI (O.2 k).2 x (O.2 k).1 = true
      · rw [if_pos hh] at hrec
        rw [hh] at ch
        refine piece_ok mixed hc (cOd N i O.1 k B.1 x O.2 B.2) ?_ hrec
        simp only [All]
        repeat' (first | exact trivial | with_reducible apply And.intro)
        all_goals (first | exact aG _ | exact aP _ _ | exact aA _ _ | exact aE _ | omega | rfl | (intros; first | assumption | exact True.intro | rfl | exact absurd (show false = true by assumption) Bool.false_ne_true | ((repeat' (first | assumption | apply anda | apply notf)); done)) | (exact hd) | (exact ch) | (intros; simp [All, aEt]; done))
      · rw [if_neg hh] at hrec
        have hh' : hasI (O.2 k).2 x (O.2 k).1 = false := by simpa using hh
        rw [hh'] at ch
        refine piece_ok mixed hc (cOc N i O.1 k B.1 x O.2 B.2 (snR B.1 B.2 (snL (O.2 k) x))) ?_ hrec
        simp only [All]
        repeat' (first | exact trivial | with_reducible apply And.intro)
        all_goals (first | exact aG _ | exact aP _ _ | exact aA _ _ | exact aE _ | omega | rfl | (intros; first | assumption | exact True.intro | rfl | exact absurd (show false = true by assumption) Bool.false_ne_true | ((repeat' (first | assumption | apply anda | apply notf)); done)) | (exact hd) | (exact ch) | (intro t ht; simp [All, aEt]; done) | (intro t ht; by_cases h : t < B.1; (simp [h, snR, cvtL, cvt, tg, tru, All]); (simp only [h, if_false]; simp [snR, snL, cvtL, cvt, lendP, tab, idx, List.lookup, tg, tru, All, h]; funext s; by_cases h2 : s < (O.2 k).1 <;> simp [h2, snJ, cellP, tg])))
  have lk : ∀ i, i < N → (Run Try.prog c 74 [.code (cAt (bodyOf Try.f74) [1, 1, 0, 1, 0, 0]), .inLoop (cAt (bodyOf Try.f74) [1, 1, 0, 1, 0, 0]), .inBlock 0, .code (cAt (bodyOf Try.f74) [1, 1, 1])] (SKo N (i + 1) (orD N (i + 1)).1 (orD N (i + 1)).2) (Post c [(0, rlOb R.1 R.2)] (.ar 1 0 0 R.1))) →
      ∀ m k, k + m = (orD N i).1 → Run Try.prog c 74 [.code (cAt (bodyOf Try.f74) [1, 1, 0, 1, 0, 0, 1, 0, 0, 1, 0, 1, 0, 0]), .inLoop (cAt (bodyOf Try.f74) [1, 1, 0, 1, 0, 0, 1, 0, 0, 1, 0, 1, 0, 0]), .inBlock 2, .code (cAt (bodyOf Try.f74) [1, 1, 0, 1, 0, 0, 1, 0, 0, 1, 1]), .inBlock 1, .code (cAt (bodyOf Try.f74) [1, 1, 0, 1, 0, 0, 1, 1]), .inLoop (cAt (bodyOf Try.f74) [1, 1, 0, 1, 0, 0]), .inBlock 0, .code (cAt (bodyOf Try.f74) [1, 1, 1])] (SKp N i (orD N i).1 k (exK N (orD N i) k).1 (orD N i).2 (exK N (orD N i) k).2) (Post c [(0, rlOb R.1 R.2)] (.ar 1 0 0 R.1)) := by
    intro i hi hnext m
    induction m with
    | zero =>
      intro k hk
      obtain rfl : k = (orD N i).1 := by omega
      have hd : decide (((orD N i).1 : Int) < ((orD N i).1 : Int)) = false := by simp
      rw [orD] at hnext
      refine piece_ok mixed hc (cOf N i (orD N i).1 (orD N i).1 (exK N (orD N i) (orD N i).1).1 (orD N i).2 (exK N (orD N i) (orD N i).1).2) ?_ hnext
      simp only [All]
      repeat' (first | exact trivial | with_reducible apply And.intro)
      all_goals (first | exact aG _ | exact aP _ _ | exact aA _ _ | exact aE _ | omega | rfl | (intros; first | assumption | exact True.intro | rfl | exact absurd (show false = true by assumption) Bool.false_ne_true | ((repeat' (first | assumption | apply anda | apply notf)); done)) | (exact hd) | (intros; simp [All, aEt]; done))
    | succ m ih =>
      intro k hk
      have hrec := ih (k + 1) (by omega)
      have hd : decide ((k : Int) < ((orD N i).1 : Int)) = true := decide_eq_true (by omega)
      have hO := orD_n N hN i
      have h5 := P5 i (by omega)
      have hK := exK_n N (orD N i) k
      have hK2 : k * N ≤ 3125 * 5 := Nat.mul_le_mul (by omega) hN
      refine piece_ok mixed hc (cOb N i (orD N i).1 k (exK N (orD N i) k).1 (orD N i).2 (exK N (orD N i) k).2) ?_ (lx i hi k (by omega) (exK N (orD N i) k) (by omega) hrec N 0 (by omega))
      simp only [All]
      repeat' (first | exact trivial | with_reducible apply And.intro)
      all_goals (first | exact aG _ | exact aP _ _ | exact aA _ _ | exact aE _ | omega | rfl | (intros; first | assumption | exact True.intro | rfl | exact absurd (show false = true by assumption) Bool.false_ne_true | ((repeat' (first | assumption | apply anda | apply notf)); done)) | (exact hd) | (intros; simp [All, aEt]; done))
  have lo : ∀ m i, i + m = N → Run Try.prog c 74 [.code (cAt (bodyOf Try.f74) [1, 1, 0, 1, 0, 0]), .inLoop (cAt (bodyOf Try.f74) [1, 1, 0, 1, 0, 0]), .inBlock 0, .code (cAt (bodyOf Try.f74) [1, 1, 1])] (SKo N i (orD N i).1 (orD N i).2) (Post c [(0, rlOb R.1 R.2)] (.ar 1 0 0 R.1)) := by
    intro m
    induction m with
    | zero =>
      intro i hi
      obtain rfl : i = N := by omega
      have hd : decide ((i : Int) < (i : Int)) = false := by simp
      rw [hR]
      refine path_ok mixed Try.func74 hc (cOg i i R.1 R.2) ?_
      simp only [All]
      repeat' (first | exact trivial | with_reducible apply And.intro)
      all_goals (first | exact aG _ | exact aP _ _ | exact aA _ _ | exact aE _ | omega | rfl | (intros; first | assumption | exact True.intro | rfl | exact absurd (show false = true by assumption) Bool.false_ne_true | ((repeat' (first | assumption | apply anda | apply notf)); done)) | (exact hd) | (intros; simp [All, aEt, ntAL, ntA, ntP, ntL]; done))
    | succ m ih =>
      intro i hi
      have hrec := ih (i + 1) (by omega)
      have hd : decide ((i : Int) < (N : Int)) = true := decide_eq_true (by omega)
      refine piece_ok mixed hc (cOa N i (orD N i).1 (orD N i).2) ?_ (lk i (by omega) hrec (orD N i).1 0 (by omega))
      simp only [All]
      repeat' (first | exact trivial | with_reducible apply And.intro)
      all_goals (first | exact aG _ | exact aP _ _ | exact aA _ _ | exact aE _ | omega | rfl | (intros; first | assumption | exact True.intro | rfl | exact absurd (show false = true by assumption) Bool.false_ne_true | ((repeat' (first | assumption | apply anda | apply notf)); done)) | (exact hd) | (intro t ht; exact absurd ht (Nat.not_lt_zero _)) | (intros; simp [All, aEt]; done))
  refine piece_ok mixed hc (cOz N) ?_ (lo N 0 (by omega))
  simp only [All]
  repeat' (first | exact trivial | with_reducible apply And.intro)
  all_goals (first | exact aG _ | exact aP _ _ | exact aA _ _ | exact aE _ | omega | rfl | (intros; first | assumption | exact True.intro | rfl | exact absurd (show false = true by assumption) Bool.false_ne_true | ((repeat' (first | assumption | apply anda | apply notf)); done)) | (intro t ht; exact ⟨⟨trivial, Nat.le_refl _, trivial⟩, rfl⟩))
def cnB (v : T_Graph) : Bool := isGraphF v && decide (v.1 ≤ 5)
def cnG (v : T_Graph) : T_Graph := if cnB v = true then (v.1, (v.2.1.1, dfs v v.1.toNat zNL v.2.1.2), ()) else (0, (0, fun _ => (0, 0, ())), ())
theorem cnG_n (v : T_Graph) : (cnG v).2.1.1 ≤ 24 := by
  unfold cnG
  split
  · rename_i h
    simp only [cnB, Bool.and_eq_true] at h
    exact (graph_inR h.1).2.2.1
  · exact Nat.zero_le _
theorem cn_dec (v : T_Graph) : (bif !isGraphF v then true else decide (v.1 > 5)) = !cnB v := by
  unfold cnB
  cases isGraphF v with
  | false => rfl
  | true =>
    by_cases h : v.1 > 5
    · simp [h, show ¬ v.1 ≤ 5 by omega]
    · simp [h, show v.1 ≤ 5 by omega]
theorem con_Canon_i (v : T_Graph) (hs : smS s_Graph v) : Con Try.prog 34 0 [] [graphA v] [(0, brOb (cnG v).2.1.1 (cnG v).2.1.2)] (.tup [.agg [.p (.int .i64 (cnG v).1), .ar 2 0 0 (cnG v).2.1.1], .p (.bool (cnB v))]) := by
  have c1 := con_IsGraph_i v hs
  have hd := cn_dec v
  refine con_start Try.func34 rfl (by kernel_rfl) rfl (fun c hc => ?_)
  cases hb : cnB v with
  | false =>
    rw [show cnG v = (0, (0, fun _ => (0, 0, ())), ()) by simp [cnG, hb]]
    have hd' : (bif !isGraphF v then true else decide (v.1 > 5)) = true := by rw [hd, hb]; rfl
    refine path_ok mixed Try.func34 hc (cIy v (isGraphF v)) ?_
    simp only [All]
    repeat' (first | exact trivial | with_reducible apply And.intro)
    all_goals (first | exact aG _ | exact aP _ _ | exact aA _ _ | exact aE _ | omega | rfl | (intros; first | assumption | exact True.intro | rfl | exact absurd (show false = true by assumption) Bool.false_ne_true | ((repeat' (first | assumption | apply anda | apply notf)); done)) | (exact c1) | (exact hd') | (intro t ht; exact absurd ht (Nat.not_lt_zero _)))
  | true =>
    have hd' : (bif !isGraphF v then true else decide (v.1 > 5)) = false := by rw [hd, hb]; rfl
    rw [show cnG v = (v.1, (v.2.1.1, dfs v v.1.toNat zNL v.2.1.2), ()) by simp [cnG, hb]]
    simp only [cnB, Bool.and_eq_true, decide_eq_true_eq] at hb
    have gi := graph_inR hb.1
    have c2 := con_copyGraph v (by omega)
    have c3 := con_try v hb.1 v.1.toNat zNL v.2.1.2 ⟨rfl, rfl⟩ (by show 0 + v.1.toNat = _; omega)
    refine path_ok mixed Try.func34 hc (cIz v (isGraphF v) v.2.1.2 (dfs v v.1.toNat zNL v.2.1.2)) ?_
    simp only [All]
    repeat' (first | exact trivial | with_reducible apply And.intro)
    all_goals (first | exact aG _ | exact aP _ _ | exact aA _ _ | exact aE _ | omega | rfl | (intros; first | assumption | exact True.intro | rfl | exact absurd (show false = true by assumption) Bool.false_ne_true | ((repeat' (first | assumption | apply anda | apply notf)); done)) | (exact c1) | (exact hd') | (exact c2) | (refine Con.arg_ext c3 ?_; refine ⟨rfl, fun i hi => absurd hi (Nat.not_lt_zero _), rfl, rfl, rfl, trivial⟩) | (intros; simp [All, aEt, ntAL, ntA, ntP, ntL]; done))
theorem con_Canon_s (v : T_Graph) (hs : smS s_Graph v) : Con Try.prog 32 0 [] [graphA v] [(0, brOb (cnG v).2.1.1 (cnG v).2.1.2)] (.tup [.agg [.p (.int .i64 (cnG v).1), .ar 2 0 0 (cnG v).2.1.1], .p (.bool (cnB v))]) := by
  have c1 := con_IsGraph_s v hs
  have hd := cn_dec v
  refine con_start Try.func32 rfl (by kernel_rfl) rfl (fun c hc => ?_)
  cases hb : cnB v with
  | false =>
    rw [show cnG v = (0, (0, fun _ => (0, 0, ())), ()) by simp [cnG, hb]]
    have hd' : (bif !isGraphF v then true else decide (v.1 > 5)) = true := by rw [hd, hb]; rfl
    refine path_ok mixed Try.func32 hc (cSy v (isGraphF v)) ?_
    simp only [All]
    repeat' (first | exact trivial | with_reducible apply And.intro)
    all_goals (first | exact aG _ | exact aP _ _ | exact aA _ _ | exact aE _ | omega | rfl | (intros; first | assumption | exact True.intro | rfl | exact absurd (show false = true by assumption) Bool.false_ne_true | ((repeat' (first | assumption | apply anda | apply notf)); done)) | (exact c1) | (exact hd') | (intro t ht; exact absurd ht (Nat.not_lt_zero _)))
  | true =>
    have hd' : (bif !isGraphF v then true else decide (v.1 > 5)) = false := by rw [hd, hb]; rfl
    rw [show cnG v = (v.1, (v.2.1.1, dfs v v.1.toNat zNL v.2.1.2), ()) by simp [cnG, hb]]
    simp only [cnB, Bool.and_eq_true, decide_eq_true_eq] at hb
    have gi := graph_inR hb.1
    have c2 := con_l2Copy v (by omega)
    have c3 := con_Orders v.1.toNat (by omega)
    have hN : ((v.1.toNat : Nat) : Int) = v.1 := by omega
    rw [hN] at c3
    have hod := orders_dfs v v.2.1.2 v.1.toNat 0
    rw [Nat.add_zero] at hod
    have hok := orD_ok v v.1.toNat
    have hOn := orD_n v.1.toNat (by omega) v.1.toNat
    have h5 : 5 ^ v.1.toNat ≤ 5 ^ 5 := Nat.pow_le_pow_right (by omega) (by omega)
    generalize orD v.1.toNat v.1.toNat = O at *
    generalize dfs v v.1.toNat zNL v.2.1.2 = R at *
    have lo : ∀ d k, k + d = O.1 → Run Try.prog c 32 [.code (cAt (bodyOf Try.f32) [1, 1, 1, 1, 0, 1, 0, 0]), .inLoop (cAt (bodyOf Try.f32) [1, 1, 1, 1, 0, 1, 0, 0]), .inBlock 0, .code (cAt (bodyOf Try.f32) [1, 1, 1, 1, 1])] (SKc v k O.1 O.2 (foldK (fun i a => dfs v 0 (O.2 i) a) k v.2.1.2)) (Post c [(0, brOb v.2.1.1 R)] (.tup [.agg [.p (.int .i64 v.1), .ar 2 0 0 v.2.1.1], .p (.bool true)])) := by
      intro d
      induction d with
      | zero =>
        intro k hk
        obtain rfl : k = O.1 := by omega
        have hd0 : decide ((O.1 : Int) < (O.1 : Int)) = false := by simp
        rw [show foldK (fun i a => dfs v 0 (O.2 i) a) O.1 v.2.1.2 = R from hod]
        refine path_ok mixed Try.func32 hc (cSe v O.1 O.1 O.2 R) ?_
        simp only [All]
        repeat' (first | exact trivial | with_reducible apply And.intro)
        all_goals (first | exact aG _ | exact aP _ _ | exact aA _ _ | exact aE _ | omega | rfl | (intros; first | assumption | exact True.intro | rfl | exact absurd (show false = true by assumption) Bool.false_ne_true | ((repeat' (first | assumption | apply anda | apply notf)); done)) | (exact hd0) | (intros; simp [All, aEt, ntAL, ntA, ntP, ntL]; done))
      | succ d ih =>
        intro k hk
        have hrec := ih (k + 1) (by omega)
        have hd0 : decide ((k : Int) < (O.1 : Int)) = true := decide_eq_true (by omega)
        have hok' := hok k (by omega)
        obtain ⟨e1, e2⟩ := rn_ok hb.1 hok'
        have c4 := con_Rename_s v hs (O.2 k) (by have := hok'.1; omega)
        rw [e1, e2] at c4
        rw [show foldK (fun i a => dfs v 0 (O.2 i) a) (k + 1) v.2.1.2 = upB v (O.2 k).2 (foldK (fun i a => dfs v 0 (O.2 i) a) k v.2.1.2) from rfl] at hrec
        generalize foldK (fun i a => dfs v 0 (O.2 i) a) k v.2.1.2 = B at hrec ⊢
        unfold upB at hrec
        generalize srtB v.2.1.1 (rnD v.2.1.2 (O.2 k).2) = h at *
        have c5 := con_Before (v.1, (v.2.1.1, h), ()) (v.1, (v.2.1.1, B), ()) rfl (by show v.2.1.1 ≤ _; omega)
        change Con _ _ _ _ _ _ (.p (.bool (bfD h B v.2.1.1 0))) at c5
        by_cases hh : bfD h B v.2.1.1 0 = true
        · rw [if_pos hh] at hrec
          rw [hh] at c5
          refine piece_ok mixed hc (cSa v k O.1 O.2 B h) ?_ hrec
          simp only [All]
          repeat' (first | exact trivial | with_reducible apply And.intro)
          all_goals (first | exact aG _ | exact aP _ _ | exact aA _ _ | exact aE _ | omega | rfl | (intros; first | assumption | exact True.intro | rfl | exact absurd (show false = true by assumption) Bool.false_ne_true | ((repeat' (first | assumption | apply anda | apply notf)); done)) | (exact hd0) | (exact c4) | (exact c5) | (intros; simp [All, aEt]; done))
        · rw [if_neg hh] at hrec
          have hh' : bfD h B v.2.1.1 0 = false := by simpa using hh
          rw [hh'] at c5
          refine piece_ok mixed hc (cSb v k O.1 O.2 B h) ?_ hrec
          simp only [All]
          repeat' (first | exact trivial | with_reducible apply And.intro)
          all_goals (first | exact aG _ | exact aP _ _ | exact aA _ _ | exact aE _ | omega | rfl | (intros; first | assumption | exact True.intro | rfl | exact absurd (show false = true by assumption) Bool.false_ne_true | ((repeat' (first | assumption | apply anda | apply notf)); done)) | (exact hd0) | (exact c4) | (exact c5) | (intros; simp [All, aEt]; done))
    refine piece_ok mixed hc (cSz v (isGraphF v) v.2.1.2 O.1 O.2) ?_ (lo O.1 0 (by omega))
    simp only [All]
    repeat' (first | exact trivial | with_reducible apply And.intro)
    all_goals (first | exact aG _ | exact aP _ _ | exact aA _ _ | exact aE _ | omega | rfl | (intros; first | assumption | exact True.intro | rfl | exact absurd (show false = true by assumption) Bool.false_ne_true | ((repeat' (first | assumption | apply anda | apply notf)); done)) | (exact c1) | (exact hd') | (exact c2) | (exact c3) | (intros; simp [All, aEt]; done))
end Go.Proofs.Ytgdbnnmogddkaaa.Mach
namespace Go.Proofs.Ytgdbnnmogddkaaa.Mach
open Go
set_option linter.unusedVariables false
set_option linter.unusedSimpArgs false
def ST0 (N m : Nat) (F T Q : Nat → Int) (x : Int) (i : Nat) : St :=
  ⟨[pebD N m F T Q, .p (.int .i64 x), .pt 3 0 0 0, .p .any, .p .any, .p (.int .i64 (tcI T i x)), .p (.int .i64 i)] ++ List.replicate 17 anyA, [(0, bxD N m F T Q)], 1⟩
def SI0 (g : Nat → T_Bar) (nb N k m : Nat) (F T Q : Nat → Int) (i : Nat) : St :=
  ⟨[grG g nb N, .p (.int .i64 k), pebD N m F T Q, .pt 2 0 0 0, .p .any, .pt 3 1 0 0, .p .any, .p (.int .i64 i)] ++ List.replicate 115 anyA, [(0, bxG g nb N), (1, bxD N m F T Q)], 2⟩
def SI1 (g : Nat → T_Bar) (nb N k m : Nat) (F T Q : Nat → Int) (i : Nat) : St :=
  ⟨[grG g nb N, .p (.int .i64 k), pebD N m F T Q, .pt 2 0 0 0, .p .any, .pt 3 1 0 0, .p .any, .p .any, .p .any, .p (.int .i64 i)] ++ List.replicate 113 anyA, [(0, bxG g nb N), (1, bxD N m F T Q)], 2⟩
def SRu (g : Nat → T_Bar) (nb N k l m : Nat) (F T Q : Nat → Int) (i : Nat) : St :=
  ⟨[grG g nb N, .p (.int .i64 k), .p (.int .i64 l), .pt 2 0 0 0, .p .any, .p .any, .pt 3 1 0 0, .p .any, .pt 3 2 0 0, .p .any, .p (.int .i64 i)] ++ List.replicate 32 anyA,
   [(0, bxG g nb N), (1, bx0), (2, bxP N m 3), (3, iOb N F), (4, iOb m T), (5, iOb m Q)], 6⟩
def badI (g : Nat → T_Bar) (nb : Nat) (T Q : Nat → Int) (i : Nat) : Bool :=
  bif bif bif decide (Q i < 0) then true else decide (Q i ≥ (nb : Int)) then true else bif decide ((i : Int) > 0) then decide (Q ((i : Int) - 1).toNat ≥ Q i) else false then true
    else bif T i != (g (Q i).toNat).1 then T i != (g (Q i).toNat).2.1 else false
theorem nRi (k l : Nat) :
    pathOb Try.prog Try.f167 0 [.reg [oT], .reg [oT, ⟨true, (some ⟨[], [], [], 1, [], .p (.bool true)⟩), none⟩, oT, oT, oT, oT, oT, ⟨true, (some ⟨[], [], [], 1, [], .p (.bool true)⟩), none⟩, oT, oT]] [.code (bodyOf Try.f167)] (start Try.f167 [] 0 [.p (.int .i64 k), .p (.int .i64 l)]) [] 1 [] (.p (.bool true)) =
    some [Con Try.prog 115 0 [] [.p (.int .i64 (↑k : Int)), .p (.int .i64 1), .p (.int .i64 3)] [] (.p (.bool true)),
  (AG true),
  ((true = true) → (((-9223372036854775808) : Int) ≤ (2 * (↑k : Int)))),
  ((true = true) → (((2 * (↑k : Int)) : Int) ≤ 9223372036854775807)),
  (AG true),
  ((true = true) → (((-9223372036854775808) : Int) ≤ (2 * (↑k : Int) - 1))),
  ((true = true) → (((2 * (↑k : Int) - 1) : Int) ≤ 9223372036854775807)),
  (AG true),
  (AG true),
  ((true = true) → Con Try.prog 115 0 [] [.p (.int .i64 (↑l : Int)), .p (.int .i64 0), .p (.int .i64 (2 * (↑k : Int) - 1))] [] (.p (.bool true))),
  (AG true),
  ((bif true then true else false) = true)] := by kernel_rfl
theorem nRs (k l : Nat) :
    pathOb Try.prog Try.f172 0 [.reg [oT], .reg [oT, ⟨true, (some ⟨[], [], [], 1, [], .p (.bool true)⟩), none⟩, oT, oT, oT, oT, oT, oT, oT, oT, oT, oT, oT]] [.code (bodyOf Try.f172)] (start Try.f172 [] 0 [.p (.int .i64 k), .p (.int .i64 l)]) [] 1 [] (.p (.bool true)) =
    some [Con Try.prog 112 0 [] [.p (.int .i64 (↑k : Int)), .p (.int .i64 1), .p (.int .i64 3)] [] (.p (.bool true)),
  (AG true),
  (AG true),
  (AG (bif true then decide ((↑l : Int) ≥ 0) else false)),
  (((bif true then decide ((↑l : Int) ≥ 0) else false) = true) → (((-9223372036854775808) : Int) ≤ (2 * (↑k : Int)))),
  (((bif true then decide ((↑l : Int) ≥ 0) else false) = true) → (((2 * (↑k : Int)) : Int) ≤ 9223372036854775807)),
  (AG (bif true then decide ((↑l : Int) ≥ 0) else false)),
  (AG (bif true then decide ((↑l : Int) ≥ 0) else false)),
  (AG (bif true then decide ((↑l : Int) ≥ 0) else false)),
  ((bif bif true then decide ((↑l : Int) ≥ 0) else false then decide ((↑l : Int) < 2 * (↑k : Int)) else false) = true)] := by kernel_rfl
theorem nUi (g : Nat → T_Bar) (nb N k l m : Nat) (F T Q : Nat → Int) :
    pathOb Try.prog Try.f155 0 [.reg [oT, oT, oT], .reg [oT, ⟨true, (some ⟨[], [], [], 1, [], .p (.bool true)⟩), none⟩, oT, oT, oT, oT, ⟨true, (some ⟨[], [], [], 1, [], .p (.bool true)⟩), none⟩, oT, oT], .dec false, .reg [oT, oT, oT, oT, oT, oT, ⟨true, (some ⟨[], [], [], 1, pebR N m F T Q, pebO N m 0⟩), none⟩, oT, oT]] [.code (bodyOf Try.f155)] (start Try.f155 [] 0 [grG g nb N, .p (.int .i64 k), .p (.int .i64 l)]) [576, 577, 578] 1 (pebR N m F T Q) (.tup [pebO N m 0, .p (.bool true)]) =
    some [((0 : Nat) < 1),
  Con Try.prog 77 0 [] [.agg [.p (.int .i64 (↑N : Int)), .p (.seq true 2 nb (fun i => [.int .i64 ((g i).1), .int .i64 ((g i).2.1)]))]] [] (.p (.bool true)),
  (AG (!!true)),
  (AG (!!true)),
  (((!!true) = true) → Con Try.prog 167 0 [] [.p (.int .i64 (↑k : Int)), .p (.int .i64 (↑l : Int))] [] (.p (.bool true))),
  (AG (!!true)),
  (((!true) = false) → ((!!true) = true)),
  ((bif !true then true else !true) = false),
  ((0 : Nat) < 1),
  ((0 : Nat) < 1),
  Con Try.prog 140 0 [] [.p (.int .i64 (↑N : Int)), .p (.seq true 2 nb (fun i => [.int .i64 ((g i).1), .int .i64 ((g i).2.1)])), .p (.int .i64 (↑k : Int)), .p (.int .i64 (↑l : Int))] [(0, ⟨false, 1, N, (fun i => [.p (.int .i64 (F i))])⟩), (1, ⟨false, 1, m, (fun i => [.p (.int .i64 (T i))])⟩), (2, ⟨false, 1, m, (fun i => [.p (.int .i64 (Q i))])⟩)] (.agg [.ar 1 0 0 N, .ar 1 1 0 m, .ar 1 2 0 m]),
  ((0 : Nat) < 1),
  ((true = true) → (AN 1)),
  ((0 : Nat) < 1),
  (AN 0),
  (AN N),
  (AN 0),
  (AN m),
  (AN 0),
  (AN m),
  (true = true),
  (AN 1),
  ((N : Nat) ≤ N),
  (AA N (fun i => [.p (.int .i64 (F i))])),
  (AN 1),
  ((m : Nat) ≤ m),
  (AA m (fun i => [.p (.int .i64 (T i))])),
  (AN 1),
  ((m : Nat) ≤ m),
  (AA m (fun i => [.p (.int .i64 (Q i))])),
  (AE N),
  (AE m),
  (AE m)] := by kernel_rfl
theorem nKi (g : Nat → T_Bar) (nb N k l m : Nat) (F T Q : Nat → Int) :
    pathOb Try.prog Try.f136 0 [.reg [oT, oT], .reg [oT, oT, oT, ⟨true, (some ⟨[], [], [], 1, pebR N m F T Q, .tup [pebO N m 0, .p (.bool true)]⟩), none⟩, oT, oT, oT, oT, oT, oT], .reg [oT, oT], .dec false, .reg [oT, oT, oT, oT]] [.code (bodyOf Try.f136)] (start Try.f136 [] 0 [grG g nb N, .p (.int .i64 k), .p (.int .i64 l)]) [] 1 [] (.p (.int .i64 m)) =
    some [((0 : Nat) < 1),
  Con Try.prog 155 0 [] [.agg [.p (.int .i64 (↑N : Int)), .p (.seq true 2 nb (fun i => [.int .i64 ((g i).1), .int .i64 ((g i).2.1)]))], .p (.int .i64 (↑k : Int)), .p (.int .i64 (↑l : Int))] [(0, ⟨false, 1, N, (fun i => [.p (.int .i64 (F i))])⟩), (1, ⟨false, 1, m, (fun i => [.p (.int .i64 (T i))])⟩), (2, ⟨false, 1, m, (fun i => [.p (.int .i64 (Q i))])⟩)] (.tup [.agg [.ar 1 0 0 N, .ar 1 1 0 m, .ar 1 2 0 m], .p (.bool true)]),
  ((0 : Nat) < 1),
  ((true = true) → (AN 1)),
  ((!true) = false),
  ((0 : Nat) < 1),
  (AI ((↑m : Int)))] := by kernel_rfl
theorem nKs (g : Nat → T_Bar) (nb N k l m : Nat) (F T Q : Nat → Int) :
    pathOb Try.prog Try.f153 0 [.reg [oT, oT], .reg [oT, oT, oT, ⟨true, (some ⟨[], [], [], 1, pebR N m F T Q, .tup [pebO N m 0, .p (.bool true)]⟩), none⟩, oT, oT, oT, oT, oT, oT], .reg [oT, oT], .dec false, .reg [oT, oT, oT, oT]] [.code (bodyOf Try.f153)] (start Try.f153 [] 0 [grG g nb N, .p (.int .i64 k), .p (.int .i64 l)]) [] 1 [] (.p (.int .i64 m)) =
    some [((0 : Nat) < 1),
  Con Try.prog 166 0 [] [.agg [.p (.int .i64 (↑N : Int)), .p (.seq true 2 nb (fun i => [.int .i64 ((g i).1), .int .i64 ((g i).2.1)]))], .p (.int .i64 (↑k : Int)), .p (.int .i64 (↑l : Int))] [(0, ⟨false, 1, N, (fun i => [.p (.int .i64 (F i))])⟩), (1, ⟨false, 1, m, (fun i => [.p (.int .i64 (T i))])⟩), (2, ⟨false, 1, m, (fun i => [.p (.int .i64 (Q i))])⟩)] (.tup [.agg [.ar 1 0 0 N, .ar 1 1 0 m, .ar 1 2 0 m], .p (.bool true)]),
  ((0 : Nat) < 1),
  ((true = true) → (AN 1)),
  ((!true) = false),
  ((0 : Nat) < 1),
  (AI ((↑m : Int)))] := by kernel_rfl
theorem nTz (N m : Nat) (F T Q : Nat → Int) (x : Int) :
    pieceOb Try.prog 0 [.reg [oT, oT], .reg [oT], .reg [oT], .head] [.code (bodyOf Try.f177)] (start Try.f177 [] 0 [pebD N m F T Q, .p (.int .i64 x)]) [0] 1 (ST0 N m F T Q x 0) =
    some ([.code (cAt (bodyOf Try.f177) [1, 1, 0, 1, 0, 0]), .inLoop (cAt (bodyOf Try.f177) [1, 1, 0, 1, 0, 0]), .inBlock 0, .code (cAt (bodyOf Try.f177) [1, 1, 1])], [(AN N),
  (AP N (fun i => [.int .i64 (F i)])),
  (AN m),
  (AP m (fun i => [.int .i64 (T i)])),
  (AN m),
  (AP m (fun i => [.int .i64 (Q i)])),
  (AI x),
  (AN 0),
  ((0 : Int) = (tcI T 0 x)),
  ((0 : Int) = (↑0 : Int)),
  ((([inD N F, inD m T, inD m Q].length) : Nat) = 3),
  ((1 : Nat) ≤ 1),
  ((1 : Nat) ≤ 1),
  (AN N),
  (AP N (fun i => [.int .i64 (F i)])),
  (AN m),
  (AP m (fun i => [.int .i64 (T i)])),
  (AN m),
  (AP m (fun i => [.int .i64 (Q i)]))]) := by kernel_rfl
theorem nTt (N m : Nat) (F T Q : Nat → Int) (x : Int) (i : Nat) :
    pieceOb Try.prog 0 [.reg [oT, oT, oT, oT, oT], .dec true, .reg [oT, oT, oT, oT, oT, oT, oT], .dec true, .reg [oT, oT, oT], .reg [oT, oT, oT], .head] [.code (cAt (bodyOf Try.f177) [1, 1, 0, 1, 0, 0]), .inLoop (cAt (bodyOf Try.f177) [1, 1, 0, 1, 0, 0]), .inBlock 0, .code (cAt (bodyOf Try.f177) [1, 1, 1])] (ST0 N m F T Q x i) [0] 1 (ST0 N m F T Q x (i + 1)) =
    some ([.code (cAt (bodyOf Try.f177) [1, 1, 0, 1, 0, 0]), .inLoop (cAt (bodyOf Try.f177) [1, 1, 0, 1, 0, 0]), .inBlock 0, .code (cAt (bodyOf Try.f177) [1, 1, 1])], [((0 : Nat) < 1),
  ((decide ((↑i : Int) < (↑m : Int))) = true),
  ((0 : Nat) < 1),
  ((0 : Int) ≤ (↑i : Int)),
  (((↑i : Int) : Int) < (↑m : Int)),
  ((T i == x) = true),
  (((-9223372036854775808) : Int) ≤ (tcI T i x + 1)),
  (((tcI T i x + 1) : Int) ≤ 9223372036854775807),
  (((-9223372036854775808) : Int) ≤ ((↑i : Int) + 1)),
  ((((↑i : Int) + 1) : Int) ≤ 9223372036854775807),
  (AN N),
  (AP N (fun i_1 => [.int .i64 (F i_1)])),
  (AN m),
  (AP m (fun i_1 => [.int .i64 (T i_1)])),
  (AN m),
  (AP m (fun i_1 => [.int .i64 (Q i_1)])),
  (AI x),
  (AN 0),
  (((tcI T i x + 1) : Int) = (tcI T (i + 1) x)),
  ((((↑i : Int) + 1) : Int) = (↑(i + 1) : Int)),
  (AN 3),
  ((1 : Nat) ≤ 1),
  ((1 : Nat) ≤ 1),
  (AN N),
  (AP N (fun i_1 => [.int .i64 (F i_1)])),
  (AN m),
  (AP m (fun i_1 => [.int .i64 (T i_1)])),
  (AN m),
  (AP m (fun i_1 => [.int .i64 (Q i_1)]))]) := by kernel_rfl
theorem nTf (N m : Nat) (F T Q : Nat → Int) (x : Int) (i : Nat) :
    pieceOb Try.prog 0 [.reg [oT, oT, oT, oT, oT], .dec true, .reg [oT, oT, oT, oT, oT, oT, oT], .dec false, .reg [oT, oT, oT], .head] [.code (cAt (bodyOf Try.f177) [1, 1, 0, 1, 0, 0]), .inLoop (cAt (bodyOf Try.f177) [1, 1, 0, 1, 0, 0]), .inBlock 0, .code (cAt (bodyOf Try.f177) [1, 1, 1])] (ST0 N m F T Q x i) [0] 1 (ST0 N m F T Q x (i + 1)) =
    some ([.code (cAt (bodyOf Try.f177) [1, 1, 0, 1, 0, 0]), .inLoop (cAt (bodyOf Try.f177) [1, 1, 0, 1, 0, 0]), .inBlock 0, .code (cAt (bodyOf Try.f177) [1, 1, 1])], [((0 : Nat) < 1),
  ((decide ((↑i : Int) < (↑m : Int))) = true),
  ((0 : Nat) < 1),
  ((0 : Int) ≤ (↑i : Int)),
  (((↑i : Int) : Int) < (↑m : Int)),
  ((T i == x) = false),
  (((-9223372036854775808) : Int) ≤ ((↑i : Int) + 1)),
  ((((↑i : Int) + 1) : Int) ≤ 9223372036854775807),
  (AN N),
  (AP N (fun i_1 => [.int .i64 (F i_1)])),
  (AN m),
  (AP m (fun i_1 => [.int .i64 (T i_1)])),
  (AN m),
  (AP m (fun i_1 => [.int .i64 (Q i_1)])),
  (AI x),
  (AN 0),
  (((tcI T i x) : Int) = (tcI T (i + 1) x)),
  ((((↑i : Int) + 1) : Int) = (↑(i + 1) : Int)),
  (AN 3),
  ((1 : Nat) ≤ 1),
  ((1 : Nat) ≤ 1),
  (AN N),
  (AP N (fun i_1 => [.int .i64 (F i_1)])),
  (AN m),
  (AP m (fun i_1 => [.int .i64 (T i_1)])),
  (AN m),
  (AP m (fun i_1 => [.int .i64 (Q i_1)]))]) := by kernel_rfl
theorem nTe (N m : Nat) (F T Q : Nat → Int) (x : Int) (i : Nat) :
    pathOb Try.prog Try.f177 0 [.reg [oT, oT, oT, oT, oT], .dec false, .reg [oT, oT]] [.code (cAt (bodyOf Try.f177) [1, 1, 0, 1, 0, 0]), .inLoop (cAt (bodyOf Try.f177) [1, 1, 0, 1, 0, 0]), .inBlock 0, .code (cAt (bodyOf Try.f177) [1, 1, 1])] (ST0 N m F T Q x i) [] 1 [] (.p (.int .i64 (tcI T i x))) =
    some [((0 : Nat) < 1),
  ((decide ((↑i : Int) < (↑m : Int))) = false),
  (AI ((tcI T i x)))] := by kernel_rfl
theorem nJz (g : Nat → T_Bar) (nb N k m : Nat) (F T Q : Nat → Int) :
    pieceOb Try.prog 0 [.reg [oT, oT, oT], .reg [oT, ⟨true, (some ⟨[], [], [], 1, [], .p (.bool true)⟩), none⟩, oT, oT, oT, ⟨true, (some ⟨[], [], [], 1, [], .p (.bool true)⟩), none⟩, oT, oT, oT, oT, oT, oT, oT, oT, oT, oT, oT, oT, oT, oT, oT, oT, oT, oT, oT], .dec false, .reg [oT], .head] [.code (bodyOf Try.f175)] (start Try.f175 [] 0 [grG g nb N, .p (.int .i64 k), pebD N m F T Q]) [0, 32] 1 (SI0 g nb N k m F T Q 0) =
    some ([.code (cAt (bodyOf Try.f175) [1, 1, 0, 1, 0, 0]), .inLoop (cAt (bodyOf Try.f175) [1, 1, 0, 1, 0, 0]), .inBlock 0, .code (cAt (bodyOf Try.f175) [1, 1, 1])], [((0 : Nat) < 1),
  Con Try.prog 73 0 [] [.agg [.p (.int .i64 (↑N : Int)), .p (.seq true 2 nb (fun i => [.int .i64 ((g i).1), .int .i64 ((g i).2.1)]))]] [] (.p (.bool true)),
  (AG (!!true)),
  (((!!true) = true) → Con Try.prog 112 0 [] [.p (.int .i64 (↑k : Int)), .p (.int .i64 1), .p (.int .i64 3)] [] (.p (.bool true))),
  (AG (!!true)),
  (((!true) = false) → ((!!true) = true)),
  (AG (!bif !true then true else !true)),
  (((!bif !true then true else !true) = true) → ((0 : Nat) < 1)),
  (AG (!bif !true then true else !true)),
  (AG (!bif !true then true else !true)),
  (((!bif !true then true else !true) = true) → ((0 : Nat) < 1)),
  (AG (!bif !true then true else !true)),
  (AG (!bif !true then true else !true)),
  (((bif !true then true else !true) = false) → ((!bif !true then true else !true) = true)),
  (AG (!bif bif !true then true else !true then true else (↑N : Int) != (↑N : Int))),
  (((!bif bif !true then true else !true then true else (↑N : Int) != (↑N : Int)) = true) → ((0 : Nat) < 1)),
  (AG (!bif bif !true then true else !true then true else (↑N : Int) != (↑N : Int))),
  (AG (!bif bif !true then true else !true then true else (↑N : Int) != (↑N : Int))),
  (((!bif bif !true then true else !true then true else (↑N : Int) != (↑N : Int)) = true) → ((0 : Nat) < 1)),
  (AG (!bif bif !true then true else !true then true else (↑N : Int) != (↑N : Int))),
  (AG (!bif bif !true then true else !true then true else (↑N : Int) != (↑N : Int))),
  (AG (!bif bif !true then true else !true then true else (↑N : Int) != (↑N : Int))),
  (((bif bif !true then true else !true then true else (↑N : Int) != (↑N : Int)) = false) → ((!bif bif !true then true else !true then true else (↑N : Int) != (↑N : Int)) = true)),
  ((bif bif bif !true then true else !true then true else (↑N : Int) != (↑N : Int) then true else (↑m : Int) != (↑m : Int)) = false),
  (AI ((↑N : Int))),
  (AN nb),
  (AP nb (fun i => [.int .i64 ((g i).1), .int .i64 ((g i).2.1)])),
  (AI ((↑k : Int))),
  (AN N),
  (AP N (fun i => [.int .i64 (F i)])),
  (AN m),
  (AP m (fun i => [.int .i64 (T i)])),
  (AN m),
  (AP m (fun i => [.int .i64 (Q i)])),
  (AN 0),
  (AN 0),
  ((0 : Int) = (↑0 : Int)),
  ((([AV.p (PV.int IntKind.i64 (↑N : Int)), brL g nb].length) : Nat) = 2),
  ((1 : Nat) ≤ 1),
  ((1 : Nat) ≤ 1),
  (AI ((↑N : Int))),
  (AN nb),
  (AP nb (fun i => [.int .i64 ((g i).1), .int .i64 ((g i).2.1)])),
  ((([inD N F, inD m T, inD m Q].length) : Nat) = 3),
  ((1 : Nat) ≤ 1),
  ((1 : Nat) ≤ 1),
  (AN N),
  (AP N (fun i => [.int .i64 (F i)])),
  (AN m),
  (AP m (fun i => [.int .i64 (T i)])),
  (AN m),
  (AP m (fun i => [.int .i64 (Q i)]))]) := by kernel_rfl
theorem nI0 (g : Nat → T_Bar) (nb N k m : Nat) (F T Q : Nat → Int) (i : Nat) :
    pieceOb Try.prog 0 [.reg [oT, oT, oT, oT, oT], .dec true, .reg [oT, oT, oT, oT, oT, oT], .reg [oT, oT, oT, oT, oT, oT, oT, oT, oT, oT, oT, oT, oT, oT, oT, oT, oT, oT, oT, oT, oT, oT, oT, oT, oT, oT, oT, oT, oT, oT, oT, oT, oT, oT, oT, oT, oT, oT, oT, oT, oT, oT, oT, oT, oT, oT, oT, oT, oT, oT, oT], .dec false, .reg [oT, oT, oT], .head] [.code (cAt (bodyOf Try.f175) [1, 1, 0, 1, 0, 0]), .inLoop (cAt (bodyOf Try.f175) [1, 1, 0, 1, 0, 0]), .inBlock 0, .code (cAt (bodyOf Try.f175) [1, 1, 1])] (SI0 g nb N k m F T Q i) [0, 1] 1 (SI0 g nb N k m F T Q (i + 1)) =
    some ([.code (cAt (bodyOf Try.f175) [1, 1, 0, 1, 0, 0]), .inLoop (cAt (bodyOf Try.f175) [1, 1, 0, 1, 0, 0]), .inBlock 0, .code (cAt (bodyOf Try.f175) [1, 1, 1])], [((0 : Nat) < 1),
  ((decide ((↑i : Int) < (↑m : Int))) = true),
  ((0 : Nat) < 1),
  ((0 : Int) ≤ (↑i : Int)),
  (((↑i : Int) : Int) < (↑m : Int)),
  (AG (!decide (Q (↑i : Int).toNat < 0))),
  (((!decide (Q (↑i : Int).toNat < 0)) = true) → ((0 : Nat) < 1)),
  (AG (!decide (Q (↑i : Int).toNat < 0))),
  (AG (!decide (Q (↑i : Int).toNat < 0))),
  (AG (!decide (Q (↑i : Int).toNat < 0))),
  (((decide (Q (↑i : Int).toNat < 0)) = false) → ((!decide (Q (↑i : Int).toNat < 0)) = true)),
  (AG (!bif decide (Q (↑i : Int).toNat < 0) then true else decide (Q (↑i : Int).toNat ≥ (↑nb : Int)))),
  (AG (!bif decide (Q (↑i : Int).toNat < 0) then true else decide (Q (↑i : Int).toNat ≥ (↑nb : Int)))),
  (AG ((!bif decide (Q (↑i : Int).toNat < 0) then true else decide (Q (↑i : Int).toNat ≥ (↑nb : Int))) && decide ((↑i : Int) > 0))),
  ((((!bif decide (Q (↑i : Int).toNat < 0) then true else decide (Q (↑i : Int).toNat ≥ (↑nb : Int))) && decide ((↑i : Int) > 0)) = true) → ((0 : Nat) < 1)),
  (AG ((!bif decide (Q (↑i : Int).toNat < 0) then true else decide (Q (↑i : Int).toNat ≥ (↑nb : Int))) && decide ((↑i : Int) > 0))),
  ((((!bif decide (Q (↑i : Int).toNat < 0) then true else decide (Q (↑i : Int).toNat ≥ (↑nb : Int))) && decide ((↑i : Int) > 0)) = true) → (((-9223372036854775808) : Int) ≤ ((↑i : Int) - 1))),
  ((((!bif decide (Q (↑i : Int).toNat < 0) then true else decide (Q (↑i : Int).toNat ≥ (↑nb : Int))) && decide ((↑i : Int) > 0)) = true) → ((((↑i : Int) - 1) : Int) ≤ 9223372036854775807)),
  (AG ((!bif decide (Q (↑i : Int).toNat < 0) then true else decide (Q (↑i : Int).toNat ≥ (↑nb : Int))) && decide ((↑i : Int) > 0))),
  (AG ((!bif decide (Q (↑i : Int).toNat < 0) then true else decide (Q (↑i : Int).toNat ≥ (↑nb : Int))) && decide ((↑i : Int) > 0))),
  ((((!bif decide (Q (↑i : Int).toNat < 0) then true else decide (Q (↑i : Int).toNat ≥ (↑nb : Int))) && decide ((↑i : Int) > 0)) = true) → ((0 : Int) ≤ ((↑i : Int) - 1))),
  ((((!bif decide (Q (↑i : Int).toNat < 0) then true else decide (Q (↑i : Int).toNat ≥ (↑nb : Int))) && decide ((↑i : Int) > 0)) = true) → ((((↑i : Int) - 1) : Int) < (↑m : Int))),
  (AG ((!bif decide (Q (↑i : Int).toNat < 0) then true else decide (Q (↑i : Int).toNat ≥ (↑nb : Int))) && decide ((↑i : Int) > 0))),
  (AG ((!bif decide (Q (↑i : Int).toNat < 0) then true else decide (Q (↑i : Int).toNat ≥ (↑nb : Int))) && decide ((↑i : Int) > 0))),
  (AG ((!bif decide (Q (↑i : Int).toNat < 0) then true else decide (Q (↑i : Int).toNat ≥ (↑nb : Int))) && decide ((↑i : Int) > 0))),
  (AG (!bif decide (Q (↑i : Int).toNat < 0) then true else decide (Q (↑i : Int).toNat ≥ (↑nb : Int)))),
  (((!bif decide (Q (↑i : Int).toNat < 0) then true else decide (Q (↑i : Int).toNat ≥ (↑nb : Int))) = true) → (((decide ((↑i : Int) > 0)) = true) → (((!bif decide (Q (↑i : Int).toNat < 0) then true else decide (Q (↑i : Int).toNat ≥ (↑nb : Int))) && decide ((↑i : Int) > 0)) = true))),
  (((bif decide (Q (↑i : Int).toNat < 0) then true else decide (Q (↑i : Int).toNat ≥ (↑nb : Int))) = false) → ((!bif decide (Q (↑i : Int).toNat < 0) then true else decide (Q (↑i : Int).toNat ≥ (↑nb : Int))) = true)),
  (AG (!bif bif decide (Q (↑i : Int).toNat < 0) then true else decide (Q (↑i : Int).toNat ≥ (↑nb : Int)) then true else bif decide ((↑i : Int) > 0) then decide (Q ((↑i : Int) - 1).toNat ≥ Q (↑i : Int).toNat) else false)),
  (((!bif bif decide (Q (↑i : Int).toNat < 0) then true else decide (Q (↑i : Int).toNat ≥ (↑nb : Int)) then true else bif decide ((↑i : Int) > 0) then decide (Q ((↑i : Int) - 1).toNat ≥ Q (↑i : Int).toNat) else false) = true) → ((0 : Nat) < 1)),
  (AG (!bif bif decide (Q (↑i : Int).toNat < 0) then true else decide (Q (↑i : Int).toNat ≥ (↑nb : Int)) then true else bif decide ((↑i : Int) > 0) then decide (Q ((↑i : Int) - 1).toNat ≥ Q (↑i : Int).toNat) else false)),
  (AG (!bif bif decide (Q (↑i : Int).toNat < 0) then true else decide (Q (↑i : Int).toNat ≥ (↑nb : Int)) then true else bif decide ((↑i : Int) > 0) then decide (Q ((↑i : Int) - 1).toNat ≥ Q (↑i : Int).toNat) else false)),
  (((!bif bif decide (Q (↑i : Int).toNat < 0) then true else decide (Q (↑i : Int).toNat ≥ (↑nb : Int)) then true else bif decide ((↑i : Int) > 0) then decide (Q ((↑i : Int) - 1).toNat ≥ Q (↑i : Int).toNat) else false) = true) → ((0 : Int) ≤ (↑i : Int))),
  (((!bif bif decide (Q (↑i : Int).toNat < 0) then true else decide (Q (↑i : Int).toNat ≥ (↑nb : Int)) then true else bif decide ((↑i : Int) > 0) then decide (Q ((↑i : Int) - 1).toNat ≥ Q (↑i : Int).toNat) else false) = true) → (((↑i : Int) : Int) < (↑m : Int))),
  (AG (!bif bif decide (Q (↑i : Int).toNat < 0) then true else decide (Q (↑i : Int).toNat ≥ (↑nb : Int)) then true else bif decide ((↑i : Int) > 0) then decide (Q ((↑i : Int) - 1).toNat ≥ Q (↑i : Int).toNat) else false)),
  (AG (!bif bif decide (Q (↑i : Int).toNat < 0) then true else decide (Q (↑i : Int).toNat ≥ (↑nb : Int)) then true else bif decide ((↑i : Int) > 0) then decide (Q ((↑i : Int) - 1).toNat ≥ Q (↑i : Int).toNat) else false)),
  (((!bif bif decide (Q (↑i : Int).toNat < 0) then true else decide (Q (↑i : Int).toNat ≥ (↑nb : Int)) then true else bif decide ((↑i : Int) > 0) then decide (Q ((↑i : Int) - 1).toNat ≥ Q (↑i : Int).toNat) else false) = true) → ((0 : Nat) < 1)),
  (AG (!bif bif decide (Q (↑i : Int).toNat < 0) then true else decide (Q (↑i : Int).toNat ≥ (↑nb : Int)) then true else bif decide ((↑i : Int) > 0) then decide (Q ((↑i : Int) - 1).toNat ≥ Q (↑i : Int).toNat) else false)),
  (AG (!bif bif decide (Q (↑i : Int).toNat < 0) then true else decide (Q (↑i : Int).toNat ≥ (↑nb : Int)) then true else bif decide ((↑i : Int) > 0) then decide (Q ((↑i : Int) - 1).toNat ≥ Q (↑i : Int).toNat) else false)),
  (((!bif bif decide (Q (↑i : Int).toNat < 0) then true else decide (Q (↑i : Int).toNat ≥ (↑nb : Int)) then true else bif decide ((↑i : Int) > 0) then decide (Q ((↑i : Int) - 1).toNat ≥ Q (↑i : Int).toNat) else false) = true) → ((0 : Int) ≤ (Q i))),
  (((!bif bif decide (Q (↑i : Int).toNat < 0) then true else decide (Q (↑i : Int).toNat ≥ (↑nb : Int)) then true else bif decide ((↑i : Int) > 0) then decide (Q ((↑i : Int) - 1).toNat ≥ Q (↑i : Int).toNat) else false) = true) → (((Q i) : Int) < (↑nb : Int))),
  (AG (!bif bif decide (Q (↑i : Int).toNat < 0) then true else decide (Q (↑i : Int).toNat ≥ (↑nb : Int)) then true else bif decide ((↑i : Int) > 0) then decide (Q ((↑i : Int) - 1).toNat ≥ Q (↑i : Int).toNat) else false)),
  (AG (!bif bif decide (Q (↑i : Int).toNat < 0) then true else decide (Q (↑i : Int).toNat ≥ (↑nb : Int)) then true else bif decide ((↑i : Int) > 0) then decide (Q ((↑i : Int) - 1).toNat ≥ Q (↑i : Int).toNat) else false)),
  (AG (!bif bif decide (Q (↑i : Int).toNat < 0) then true else decide (Q (↑i : Int).toNat ≥ (↑nb : Int)) then true else bif decide ((↑i : Int) > 0) then decide (Q ((↑i : Int) - 1).toNat ≥ Q (↑i : Int).toNat) else false)),
  (AG (!bif bif decide (Q (↑i : Int).toNat < 0) then true else decide (Q (↑i : Int).toNat ≥ (↑nb : Int)) then true else bif decide ((↑i : Int) > 0) then decide (Q ((↑i : Int) - 1).toNat ≥ Q (↑i : Int).toNat) else false)),
  (AG (!bif bif decide (Q (↑i : Int).toNat < 0) then true else decide (Q (↑i : Int).toNat ≥ (↑nb : Int)) then true else bif decide ((↑i : Int) > 0) then decide (Q ((↑i : Int) - 1).toNat ≥ Q (↑i : Int).toNat) else false)),
  (AG ((!bif bif decide (Q (↑i : Int).toNat < 0) then true else decide (Q (↑i : Int).toNat ≥ (↑nb : Int)) then true else bif decide ((↑i : Int) > 0) then decide (Q ((↑i : Int) - 1).toNat ≥ Q (↑i : Int).toNat) else false) && T i != (g (Q i).toNat).1)),
  ((((!bif bif decide (Q (↑i : Int).toNat < 0) then true else decide (Q (↑i : Int).toNat ≥ (↑nb : Int)) then true else bif decide ((↑i : Int) > 0) then decide (Q ((↑i : Int) - 1).toNat ≥ Q (↑i : Int).toNat) else false) && T i != (g (Q i).toNat).1) = true) → ((0 : Nat) < 1)),
  (AG ((!bif bif decide (Q (↑i : Int).toNat < 0) then true else decide (Q (↑i : Int).toNat ≥ (↑nb : Int)) then true else bif decide ((↑i : Int) > 0) then decide (Q ((↑i : Int) - 1).toNat ≥ Q (↑i : Int).toNat) else false) && T i != (g (Q i).toNat).1)),
  (AG ((!bif bif decide (Q (↑i : Int).toNat < 0) then true else decide (Q (↑i : Int).toNat ≥ (↑nb : Int)) then true else bif decide ((↑i : Int) > 0) then decide (Q ((↑i : Int) - 1).toNat ≥ Q (↑i : Int).toNat) else false) && T i != (g (Q i).toNat).1)),
  ((((!bif bif decide (Q (↑i : Int).toNat < 0) then true else decide (Q (↑i : Int).toNat ≥ (↑nb : Int)) then true else bif decide ((↑i : Int) > 0) then decide (Q ((↑i : Int) - 1).toNat ≥ Q (↑i : Int).toNat) else false) && T i != (g (Q i).toNat).1) = true) → ((0 : Int) ≤ (↑i : Int))),
  ((((!bif bif decide (Q (↑i : Int).toNat < 0) then true else decide (Q (↑i : Int).toNat ≥ (↑nb : Int)) then true else bif decide ((↑i : Int) > 0) then decide (Q ((↑i : Int) - 1).toNat ≥ Q (↑i : Int).toNat) else false) && T i != (g (Q i).toNat).1) = true) → (((↑i : Int) : Int) < (↑m : Int))),
  (AG ((!bif bif decide (Q (↑i : Int).toNat < 0) then true else decide (Q (↑i : Int).toNat ≥ (↑nb : Int)) then true else bif decide ((↑i : Int) > 0) then decide (Q ((↑i : Int) - 1).toNat ≥ Q (↑i : Int).toNat) else false) && T i != (g (Q i).toNat).1)),
  (AG ((!bif bif decide (Q (↑i : Int).toNat < 0) then true else decide (Q (↑i : Int).toNat ≥ (↑nb : Int)) then true else bif decide ((↑i : Int) > 0) then decide (Q ((↑i : Int) - 1).toNat ≥ Q (↑i : Int).toNat) else false) && T i != (g (Q i).toNat).1)),
  ((((!bif bif decide (Q (↑i : Int).toNat < 0) then true else decide (Q (↑i : Int).toNat ≥ (↑nb : Int)) then true else bif decide ((↑i : Int) > 0) then decide (Q ((↑i : Int) - 1).toNat ≥ Q (↑i : Int).toNat) else false) && T i != (g (Q i).toNat).1) = true) → ((0 : Nat) < 1)),
  (AG ((!bif bif decide (Q (↑i : Int).toNat < 0) then true else decide (Q (↑i : Int).toNat ≥ (↑nb : Int)) then true else bif decide ((↑i : Int) > 0) then decide (Q ((↑i : Int) - 1).toNat ≥ Q (↑i : Int).toNat) else false) && T i != (g (Q i).toNat).1)),
  (AG ((!bif bif decide (Q (↑i : Int).toNat < 0) then true else decide (Q (↑i : Int).toNat ≥ (↑nb : Int)) then true else bif decide ((↑i : Int) > 0) then decide (Q ((↑i : Int) - 1).toNat ≥ Q (↑i : Int).toNat) else false) && T i != (g (Q i).toNat).1)),
  ((((!bif bif decide (Q (↑i : Int).toNat < 0) then true else decide (Q (↑i : Int).toNat ≥ (↑nb : Int)) then true else bif decide ((↑i : Int) > 0) then decide (Q ((↑i : Int) - 1).toNat ≥ Q (↑i : Int).toNat) else false) && T i != (g (Q i).toNat).1) = true) → ((0 : Int) ≤ (Q i))),
  ((((!bif bif decide (Q (↑i : Int).toNat < 0) then true else decide (Q (↑i : Int).toNat ≥ (↑nb : Int)) then true else bif decide ((↑i : Int) > 0) then decide (Q ((↑i : Int) - 1).toNat ≥ Q (↑i : Int).toNat) else false) && T i != (g (Q i).toNat).1) = true) → (((Q i) : Int) < (↑nb : Int))),
  (AG ((!bif bif decide (Q (↑i : Int).toNat < 0) then true else decide (Q (↑i : Int).toNat ≥ (↑nb : Int)) then true else bif decide ((↑i : Int) > 0) then decide (Q ((↑i : Int) - 1).toNat ≥ Q (↑i : Int).toNat) else false) && T i != (g (Q i).toNat).1)),
  (AG ((!bif bif decide (Q (↑i : Int).toNat < 0) then true else decide (Q (↑i : Int).toNat ≥ (↑nb : Int)) then true else bif decide ((↑i : Int) > 0) then decide (Q ((↑i : Int) - 1).toNat ≥ Q (↑i : Int).toNat) else false) && T i != (g (Q i).toNat).1)),
  (AG ((!bif bif decide (Q (↑i : Int).toNat < 0) then true else decide (Q (↑i : Int).toNat ≥ (↑nb : Int)) then true else bif decide ((↑i : Int) > 0) then decide (Q ((↑i : Int) - 1).toNat ≥ Q (↑i : Int).toNat) else false) && T i != (g (Q i).toNat).1)),
  (AG ((!bif bif decide (Q (↑i : Int).toNat < 0) then true else decide (Q (↑i : Int).toNat ≥ (↑nb : Int)) then true else bif decide ((↑i : Int) > 0) then decide (Q ((↑i : Int) - 1).toNat ≥ Q (↑i : Int).toNat) else false) && T i != (g (Q i).toNat).1)),
  (AG (!bif bif decide (Q (↑i : Int).toNat < 0) then true else decide (Q (↑i : Int).toNat ≥ (↑nb : Int)) then true else bif decide ((↑i : Int) > 0) then decide (Q ((↑i : Int) - 1).toNat ≥ Q (↑i : Int).toNat) else false)),
  (((!bif bif decide (Q (↑i : Int).toNat < 0) then true else decide (Q (↑i : Int).toNat ≥ (↑nb : Int)) then true else bif decide ((↑i : Int) > 0) then decide (Q ((↑i : Int) - 1).toNat ≥ Q (↑i : Int).toNat) else false) = true) → (((T i != (g (Q i).toNat).1) = true) → (((!bif bif decide (Q (↑i : Int).toNat < 0) then true else decide (Q (↑i : Int).toNat ≥ (↑nb : Int)) then true else bif decide ((↑i : Int) > 0) then decide (Q ((↑i : Int) - 1).toNat ≥ Q (↑i : Int).toNat) else false) && T i != (g (Q i).toNat).1) = true))),
  (((bif bif decide (Q (↑i : Int).toNat < 0) then true else decide (Q (↑i : Int).toNat ≥ (↑nb : Int)) then true else bif decide ((↑i : Int) > 0) then decide (Q ((↑i : Int) - 1).toNat ≥ Q (↑i : Int).toNat) else false) = false) → ((!bif bif decide (Q (↑i : Int).toNat < 0) then true else decide (Q (↑i : Int).toNat ≥ (↑nb : Int)) then true else bif decide ((↑i : Int) > 0) then decide (Q ((↑i : Int) - 1).toNat ≥ Q (↑i : Int).toNat) else false) = true)),
  ((bif bif bif decide (Q (↑i : Int).toNat < 0) then true else decide (Q (↑i : Int).toNat ≥ (↑nb : Int)) then true else bif decide ((↑i : Int) > 0) then decide (Q ((↑i : Int) - 1).toNat ≥ Q (↑i : Int).toNat) else false then true else bif T i != (g (Q i).toNat).1 then T i != (g (Q i).toNat).2.1 else false) = false),
  (((-9223372036854775808) : Int) ≤ ((↑i : Int) + 1)),
  ((((↑i : Int) + 1) : Int) ≤ 9223372036854775807),
  (AI ((↑N : Int))),
  (AN nb),
  (AP nb (fun i_1 => [.int .i64 ((g i_1).1), .int .i64 ((g i_1).2.1)])),
  (AI ((↑k : Int))),
  (AN N),
  (AP N (fun i_1 => [.int .i64 (F i_1)])),
  (AN m),
  (AP m (fun i_1 => [.int .i64 (T i_1)])),
  (AN m),
  (AP m (fun i_1 => [.int .i64 (Q i_1)])),
  (AN 0),
  (AN 0),
  ((((↑i : Int) + 1) : Int) = (↑(i + 1) : Int)),
  (AN 2),
  ((1 : Nat) ≤ 1),
  ((1 : Nat) ≤ 1),
  (AI ((↑N : Int))),
  (AN nb),
  (AP nb (fun i_1 => [.int .i64 ((g i_1).1), .int .i64 ((g i_1).2.1)])),
  (AN 3),
  ((1 : Nat) ≤ 1),
  ((1 : Nat) ≤ 1),
  (AN N),
  (AP N (fun i_1 => [.int .i64 (F i_1)])),
  (AN m),
  (AP m (fun i_1 => [.int .i64 (T i_1)])),
  (AN m),
  (AP m (fun i_1 => [.int .i64 (Q i_1)]))]) := by kernel_rfl
theorem nI01 (g : Nat → T_Bar) (nb N k m : Nat) (F T Q : Nat → Int) (i : Nat) :
    pieceOb Try.prog 0 [.reg [oT, oT, oT, oT, oT], .dec false, .reg [oT], .head] [.code (cAt (bodyOf Try.f175) [1, 1, 0, 1, 0, 0]), .inLoop (cAt (bodyOf Try.f175) [1, 1, 0, 1, 0, 0]), .inBlock 0, .code (cAt (bodyOf Try.f175) [1, 1, 1])] (SI0 g nb N k m F T Q i) [0, 1] 1 (SI1 g nb N k m F T Q 0) =
    some ([.code (cAt (bodyOf Try.f175) [1, 1, 1, 0, 1, 0, 0]), .inLoop (cAt (bodyOf Try.f175) [1, 1, 1, 0, 1, 0, 0]), .inBlock 2, .code (cAt (bodyOf Try.f175) [1, 1, 1, 1])], [((0 : Nat) < 1),
  ((decide ((↑i : Int) < (↑m : Int))) = false),
  (AI ((↑N : Int))),
  (AN nb),
  (AP nb (fun i_1 => [.int .i64 ((g i_1).1), .int .i64 ((g i_1).2.1)])),
  (AI ((↑k : Int))),
  (AN N),
  (AP N (fun i_1 => [.int .i64 (F i_1)])),
  (AN m),
  (AP m (fun i_1 => [.int .i64 (T i_1)])),
  (AN m),
  (AP m (fun i_1 => [.int .i64 (Q i_1)])),
  (AN 0),
  (AN 0),
  ((0 : Int) = (↑0 : Int)),
  (AN 2),
  ((1 : Nat) ≤ 1),
  ((1 : Nat) ≤ 1),
  (AI ((↑N : Int))),
  (AN nb),
  (AP nb (fun i_1 => [.int .i64 ((g i_1).1), .int .i64 ((g i_1).2.1)])),
  (AN 3),
  ((1 : Nat) ≤ 1),
  ((1 : Nat) ≤ 1),
  (AN N),
  (AP N (fun i_1 => [.int .i64 (F i_1)])),
  (AN m),
  (AP m (fun i_1 => [.int .i64 (T i_1)])),
  (AN m),
  (AP m (fun i_1 => [.int .i64 (Q i_1)]))]) := by kernel_rfl
theorem nI1 (g : Nat → T_Bar) (nb N k m : Nat) (F T Q : Nat → Int) (i : Nat) :
    pieceOb Try.prog 0 [.reg [oT, oT, oT, oT], .dec true, .reg [oT, oT, oT, oT, oT, oT, oT, oT, oT, oT, oT, oT, oT, oT, ⟨true, (some ⟨[], [], [], 1, [], .p (.int .i64 (tcI T m i))⟩), none⟩, oT, oT, oT, oT], .dec false, .reg [oT, oT, oT], .head] [.code (cAt (bodyOf Try.f175) [1, 1, 1, 0, 1, 0, 0]), .inLoop (cAt (bodyOf Try.f175) [1, 1, 1, 0, 1, 0, 0]), .inBlock 2, .code (cAt (bodyOf Try.f175) [1, 1, 1, 1])] (SI1 g nb N k m F T Q i) [0, 1] 1 (SI1 g nb N k m F T Q (i + 1)) =
    some ([.code (cAt (bodyOf Try.f175) [1, 1, 1, 0, 1, 0, 0]), .inLoop (cAt (bodyOf Try.f175) [1, 1, 1, 0, 1, 0, 0]), .inBlock 2, .code (cAt (bodyOf Try.f175) [1, 1, 1, 1])], [((0 : Nat) < 1),
  ((decide ((↑i : Int) < (↑N : Int))) = true),
  ((0 : Nat) < 1),
  ((0 : Int) ≤ (↑i : Int)),
  (((↑i : Int) : Int) < (↑N : Int)),
  (AG (!decide (F (↑i : Int).toNat < 0))),
  (((!decide (F (↑i : Int).toNat < 0)) = true) → ((0 : Nat) < 1)),
  (AG (!decide (F (↑i : Int).toNat < 0))),
  (AG (!decide (F (↑i : Int).toNat < 0))),
  (((!decide (F (↑i : Int).toNat < 0)) = true) → ((0 : Int) ≤ (↑i : Int))),
  (((!decide (F (↑i : Int).toNat < 0)) = true) → (((↑i : Int) : Int) < (↑N : Int))),
  (AG (!decide (F (↑i : Int).toNat < 0))),
  (((!decide (F (↑i : Int).toNat < 0)) = true) → ((0 : Nat) < 1)),
  (AG (!decide (F (↑i : Int).toNat < 0))),
  (AG (!decide (F (↑i : Int).toNat < 0))),
  (((!decide (F (↑i : Int).toNat < 0)) = true) → Con Try.prog 177 0 [] [.agg [.p (.seq true 1 N (fun i_1 => [.int .i64 (F i_1)])), .p (.seq true 1 m (fun i_1 => [.int .i64 (T i_1)])), .p (.seq true 1 m (fun i_1 => [.int .i64 (Q i_1)]))], .p (.int .i64 (↑i : Int))] [] (.p (.int .i64 (tcI T m (↑i : Int))))),
  (AG (!decide (F (↑i : Int).toNat < 0))),
  (AG (!decide (F (↑i : Int).toNat < 0))),
  (((!decide (F (↑i : Int).toNat < 0)) = true) → (((-9223372036854775808) : Int) ≤ (F i + tcI T m (↑i : Int)))),
  (((!decide (F (↑i : Int).toNat < 0)) = true) → (((F i + tcI T m (↑i : Int)) : Int) ≤ 9223372036854775807)),
  (AG (!decide (F (↑i : Int).toNat < 0))),
  (AG (!decide (F (↑i : Int).toNat < 0))),
  (((decide (F (↑i : Int).toNat < 0)) = false) → ((!decide (F (↑i : Int).toNat < 0)) = true)),
  ((bif decide (F (↑i : Int).toNat < 0) then true else F i + tcI T m (↑i : Int) != (↑k : Int)) = false),
  (((-9223372036854775808) : Int) ≤ ((↑i : Int) + 1)),
  ((((↑i : Int) + 1) : Int) ≤ 9223372036854775807),
  (AI ((↑N : Int))),
  (AN nb),
  (AP nb (fun i_1 => [.int .i64 ((g i_1).1), .int .i64 ((g i_1).2.1)])),
  (AI ((↑k : Int))),
  (AN N),
  (AP N (fun i_1 => [.int .i64 (F i_1)])),
  (AN m),
  (AP m (fun i_1 => [.int .i64 (T i_1)])),
  (AN m),
  (AP m (fun i_1 => [.int .i64 (Q i_1)])),
  (AN 0),
  (AN 0),
  ((((↑i : Int) + 1) : Int) = (↑(i + 1) : Int)),
  (AN 2),
  ((1 : Nat) ≤ 1),
  ((1 : Nat) ≤ 1),
  (AI ((↑N : Int))),
  (AN nb),
  (AP nb (fun i_1 => [.int .i64 ((g i_1).1), .int .i64 ((g i_1).2.1)])),
  (AN 3),
  ((1 : Nat) ≤ 1),
  ((1 : Nat) ≤ 1),
  (AN N),
  (AP N (fun i_1 => [.int .i64 (F i_1)])),
  (AN m),
  (AP m (fun i_1 => [.int .i64 (T i_1)])),
  (AN m),
  (AP m (fun i_1 => [.int .i64 (Q i_1)]))]) := by kernel_rfl
theorem nJe (g : Nat → T_Bar) (nb N k m : Nat) (F T Q : Nat → Int) (i : Nat) :
    pathOb Try.prog Try.f175 0 [.reg [oT, oT, oT, oT], .dec false, .reg [oT]] [.code (cAt (bodyOf Try.f175) [1, 1, 1, 0, 1, 0, 0]), .inLoop (cAt (bodyOf Try.f175) [1, 1, 1, 0, 1, 0, 0]), .inBlock 2, .code (cAt (bodyOf Try.f175) [1, 1, 1, 1])] (SI1 g nb N k m F T Q i) [] 1 [] (.p (.bool true)) =
    some [((0 : Nat) < 1),
  ((decide ((↑i : Int) < (↑N : Int))) = false),
  (true = true)] := by kernel_rfl
theorem nPf (g : Nat → T_Bar) (nb N k l m e : Nat) (F T Q F1 T1 : Nat → Int) :
    pathOb Try.prog Try.f173 0 [.reg [oT, oT, oT, oT], .reg [oT, oT, oT, ⟨true, (some ⟨[], [], [], 1, [], .p (.bool true)⟩), none⟩, oT, oT, oT, oT, ⟨true, (some ⟨[], [], [], 1, [], .p (.bool true)⟩), none⟩, oT, oT, oT, oT, oT, oT, oT, oT, oT, oT, oT, oT, oT, oT, oT, oT, oT, oT, oT, oT, oT, oT, oT, oT, oT, oT, oT, oT, oT, oT, oT], .dec false, .reg [oT, oT, oT, oT, oT, oT, oT], .reg [oT, oT, oT, oT, oT, oT, oT, oT, ⟨true, (some ⟨[], [], [], 1, pebR N m F1 T1 Q, .tup [pebO N m 0, .p (.bool false)]⟩), none⟩, oT, oT, oT, oT, oT, oT], .reg [oT, oT], .dec true, .reg [oT, ⟨true, (some ⟨[], [], [], 1, pebR N m F T Q, pebO N m 0⟩), none⟩, oT, oT]] [.code (bodyOf Try.f173)] (start Try.f173 [] 0 [grG g nb N, .p (.int .i64 k), .p (.int .i64 l), pebD N m F T Q, .p (.int .i64 e)]) [2208, 2209, 2210] 1 (pebR N m F T Q) (.tup [pebO N m 0, .p (.bool false)]) =
    some [((0 : Nat) < 1),
  ((0 : Nat) < 1),
  Con Try.prog 175 0 [] [.agg [.p (.int .i64 (↑N : Int)), .p (.seq true 2 nb (fun i => [.int .i64 ((g i).1), .int .i64 ((g i).2.1)]))], .p (.int .i64 (↑k : Int)), .agg [.p (.seq true 1 N (fun i => [.int .i64 (F i)])), .p (.seq true 1 m (fun i => [.int .i64 (T i)])), .p (.seq true 1 m (fun i => [.int .i64 (Q i)]))]] [] (.p (.bool true)),
  (AG (!!true)),
  (AG (!!true)),
  (((!!true) = true) → Con Try.prog 172 0 [] [.p (.int .i64 (↑k : Int)), .p (.int .i64 (↑l : Int))] [] (.p (.bool true))),
  (AG (!!true)),
  (((!true) = false) → ((!!true) = true)),
  (AG (!bif !true then true else !true)),
  (((bif !true then true else !true) = false) → ((!bif !true then true else !true) = true)),
  (AG (!bif bif !true then true else !true then true else decide ((↑e : Int) < 0))),
  (((!bif bif !true then true else !true then true else decide ((↑e : Int) < 0)) = true) → ((0 : Nat) < 1)),
  (AG (!bif bif !true then true else !true then true else decide ((↑e : Int) < 0))),
  (AG (!bif bif !true then true else !true then true else decide ((↑e : Int) < 0))),
  (AG (!bif bif !true then true else !true then true else decide ((↑e : Int) < 0))),
  (((bif bif !true then true else !true then true else decide ((↑e : Int) < 0)) = false) → ((!bif bif !true then true else !true then true else decide ((↑e : Int) < 0)) = true)),
  (AG (!bif bif bif !true then true else !true then true else decide ((↑e : Int) < 0) then true else decide ((↑e : Int) ≥ (↑nb : Int)))),
  (((!bif bif bif !true then true else !true then true else decide ((↑e : Int) < 0) then true else decide ((↑e : Int) ≥ (↑nb : Int))) = true) → ((0 : Nat) < 1)),
  (AG (!bif bif bif !true then true else !true then true else decide ((↑e : Int) < 0) then true else decide ((↑e : Int) ≥ (↑nb : Int)))),
  (AG (!bif bif bif !true then true else !true then true else decide ((↑e : Int) < 0) then true else decide ((↑e : Int) ≥ (↑nb : Int)))),
  (AG (!bif bif bif !true then true else !true then true else decide ((↑e : Int) < 0) then true else decide ((↑e : Int) ≥ (↑nb : Int)))),
  (AG ((!bif bif bif !true then true else !true then true else decide ((↑e : Int) < 0) then true else decide ((↑e : Int) ≥ (↑nb : Int))) && decide ((↑m : Int) > 0))),
  ((((!bif bif bif !true then true else !true then true else decide ((↑e : Int) < 0) then true else decide ((↑e : Int) ≥ (↑nb : Int))) && decide ((↑m : Int) > 0)) = true) → ((0 : Nat) < 1)),
  (AG ((!bif bif bif !true then true else !true then true else decide ((↑e : Int) < 0) then true else decide ((↑e : Int) ≥ (↑nb : Int))) && decide ((↑m : Int) > 0))),
  ((((!bif bif bif !true then true else !true then true else decide ((↑e : Int) < 0) then true else decide ((↑e : Int) ≥ (↑nb : Int))) && decide ((↑m : Int) > 0)) = true) → ((0 : Nat) < 1)),
  (AG ((!bif bif bif !true then true else !true then true else decide ((↑e : Int) < 0) then true else decide ((↑e : Int) ≥ (↑nb : Int))) && decide ((↑m : Int) > 0))),
  (AG ((!bif bif bif !true then true else !true then true else decide ((↑e : Int) < 0) then true else decide ((↑e : Int) ≥ (↑nb : Int))) && decide ((↑m : Int) > 0))),
  ((((!bif bif bif !true then true else !true then true else decide ((↑e : Int) < 0) then true else decide ((↑e : Int) ≥ (↑nb : Int))) && decide ((↑m : Int) > 0)) = true) → (((-9223372036854775808) : Int) ≤ ((↑m : Int) - 1))),
  ((((!bif bif bif !true then true else !true then true else decide ((↑e : Int) < 0) then true else decide ((↑e : Int) ≥ (↑nb : Int))) && decide ((↑m : Int) > 0)) = true) → ((((↑m : Int) - 1) : Int) ≤ 9223372036854775807)),
  (AG ((!bif bif bif !true then true else !true then true else decide ((↑e : Int) < 0) then true else decide ((↑e : Int) ≥ (↑nb : Int))) && decide ((↑m : Int) > 0))),
  (AG ((!bif bif bif !true then true else !true then true else decide ((↑e : Int) < 0) then true else decide ((↑e : Int) ≥ (↑nb : Int))) && decide ((↑m : Int) > 0))),
  ((((!bif bif bif !true then true else !true then true else decide ((↑e : Int) < 0) then true else decide ((↑e : Int) ≥ (↑nb : Int))) && decide ((↑m : Int) > 0)) = true) → ((0 : Int) ≤ ((↑m : Int) - 1))),
  ((((!bif bif bif !true then true else !true then true else decide ((↑e : Int) < 0) then true else decide ((↑e : Int) ≥ (↑nb : Int))) && decide ((↑m : Int) > 0)) = true) → ((((↑m : Int) - 1) : Int) < (↑m : Int))),
  (AG ((!bif bif bif !true then true else !true then true else decide ((↑e : Int) < 0) then true else decide ((↑e : Int) ≥ (↑nb : Int))) && decide ((↑m : Int) > 0))),
  (AG ((!bif bif bif !true then true else !true then true else decide ((↑e : Int) < 0) then true else decide ((↑e : Int) ≥ (↑nb : Int))) && decide ((↑m : Int) > 0))),
  (AG ((!bif bif bif !true then true else !true then true else decide ((↑e : Int) < 0) then true else decide ((↑e : Int) ≥ (↑nb : Int))) && decide ((↑m : Int) > 0))),
  (AG (!bif bif bif !true then true else !true then true else decide ((↑e : Int) < 0) then true else decide ((↑e : Int) ≥ (↑nb : Int)))),
  (((!bif bif bif !true then true else !true then true else decide ((↑e : Int) < 0) then true else decide ((↑e : Int) ≥ (↑nb : Int))) = true) → (((decide ((↑m : Int) > 0)) = true) → (((!bif bif bif !true then true else !true then true else decide ((↑e : Int) < 0) then true else decide ((↑e : Int) ≥ (↑nb : Int))) && decide ((↑m : Int) > 0)) = true))),
  (((bif bif bif !true then true else !true then true else decide ((↑e : Int) < 0) then true else decide ((↑e : Int) ≥ (↑nb : Int))) = false) → ((!bif bif bif !true then true else !true then true else decide ((↑e : Int) < 0) then true else decide ((↑e : Int) ≥ (↑nb : Int))) = true)),
  ((bif bif bif bif !true then true else !true then true else decide ((↑e : Int) < 0) then true else decide ((↑e : Int) ≥ (↑nb : Int)) then true else bif decide ((↑m : Int) > 0) then decide (Q ((↑m : Int) - 1).toNat ≥ (↑e : Int)) else false) = false),
  ((0 : Nat) < 1),
  ((0 : Int) ≤ (↑e : Int)),
  (((↑e : Int) : Int) < (↑nb : Int)),
  ((0 : Nat) < 1),
  ((true = true) → (AN 1)),
  ((0 : Nat) < 1),
  ((0 : Nat) < 1),
  ((0 : Nat) < 1),
  ((0 : Nat) < 1),
  (((-9223372036854775808) : Int) ≤ ((↑l : Int) + 1)),
  ((((↑l : Int) + 1) : Int) ≤ 9223372036854775807),
  Con Try.prog 138 0 [] [.agg [.p (.int .i64 (↑N : Int)), .p (.seq true 2 nb (fun i => [.int .i64 ((g i).1), .int .i64 ((g i).2.1)]))], .agg [.p (.seq true 1 N (fun i => [.int .i64 (F i)])), .p (.seq true 1 m (fun i => [.int .i64 (T i)])), .p (.seq true 1 m (fun i => [.int .i64 (Q i)]))], .p (.int .i64 ((g e).1)), .p (.int .i64 ((g e).2.1)), .p (.int .i64 ((↑l : Int) + 1))] [(0, ⟨false, 1, N, (fun i => [.p (.int .i64 (F1 i))])⟩), (1, ⟨false, 1, m, (fun i => [.p (.int .i64 (T1 i))])⟩), (2, ⟨false, 1, m, (fun i => [.p (.int .i64 (Q i))])⟩)] (.tup [.agg [.ar 1 0 0 N, .ar 1 1 0 m, .ar 1 2 0 m], .p (.bool false)]),
  ((0 : Nat) < 1),
  ((true = true) → (AN 1)),
  ((!false) = true),
  ((0 : Nat) < 1),
  Con Try.prog 156 0 [] [.agg [.p (.seq true 1 N (fun i => [.int .i64 (F i)])), .p (.seq true 1 m (fun i => [.int .i64 (T i)])), .p (.seq true 1 m (fun i => [.int .i64 (Q i)]))]] [(0, ⟨false, 1, N, (fun i => [.p (.int .i64 (F i))])⟩), (1, ⟨false, 1, m, (fun i => [.p (.int .i64 (T i))])⟩), (2, ⟨false, 1, m, (fun i => [.p (.int .i64 (Q i))])⟩)] (.agg [.ar 1 0 0 N, .ar 1 1 0 m, .ar 1 2 0 m]),
  ((0 : Nat) < 1),
  ((true = true) → (AN 1)),
  ((0 : Nat) < 1),
  (AN 0),
  (AN N),
  (AN 0),
  (AN m),
  (AN 0),
  (AN m),
  (false = false),
  (AN 1),
  ((N : Nat) ≤ N),
  (AA N (fun i => [.p (.int .i64 (F i))])),
  (AN 1),
  ((m : Nat) ≤ m),
  (AA m (fun i => [.p (.int .i64 (T i))])),
  (AN 1),
  ((m : Nat) ≤ m),
  (AA m (fun i => [.p (.int .i64 (Q i))])),
  (AE N),
  (AE m),
  (AE m)] := by kernel_rfl
theorem nPa (g : Nat → T_Bar) (nb N k l m e : Nat) (F T Q F1 T1 : Nat → Int) :
    pathOb Try.prog Try.f173 0 [.reg [oT, oT, oT, oT], .reg [oT, oT, oT, ⟨true, (some ⟨[], [], [], 1, [], .p (.bool true)⟩), none⟩, oT, oT, oT, oT, ⟨true, (some ⟨[], [], [], 1, [], .p (.bool true)⟩), none⟩, oT, oT, oT, oT, oT, oT, oT, oT, oT, oT, oT, oT, oT, oT, oT, oT, oT, oT, oT, oT, oT, oT, oT, oT, oT, oT, oT, oT, oT, oT, oT], .dec false, .reg [oT, oT, oT, oT, oT, oT, oT], .reg [oT, oT, oT, oT, oT, oT, oT, oT, ⟨true, (some ⟨[], [], [], 1, pebR N m F1 T1 Q, .tup [pebO N m 0, .p (.bool true)]⟩), none⟩, oT, oT, oT, oT, oT, oT], .reg [oT, oT], .dec false, .reg [oT, oT, oT], .reg [oT, oT, oT, oT, oT, oT, oT], .dec false, .reg [oT, oT, oT, oT, oT, oT, oT, oT, oT, oT, oT], .reg [oT, oT, oT, oT, oT, oT, oT], .reg [oT, oT, oT, oT, oT, oT, oT], .reg [oT, oT, oT]] [.code (bodyOf Try.f173)] (start Try.f173 [] 0 [grG g nb N, .p (.int .i64 k), .p (.int .i64 l), pebD N m F T Q, .p (.int .i64 e)]) [1888, 2976, 3200] 1 (pebR N (m + 1) (fun s => if s = (g e).1.toNat then F1 s - 1 else F1 s) (fun s => if s < m then T1 s else (g e).1) (fun s => if s < m then Q s else e)) (.tup [pebO N (m + 1) 0, .p (.bool true)]) =
    some [((0 : Nat) < 1),
  ((0 : Nat) < 1),
  Con Try.prog 175 0 [] [.agg [.p (.int .i64 (↑N : Int)), .p (.seq true 2 nb (fun i => [.int .i64 ((g i).1), .int .i64 ((g i).2.1)]))], .p (.int .i64 (↑k : Int)), .agg [.p (.seq true 1 N (fun i => [.int .i64 (F i)])), .p (.seq true 1 m (fun i => [.int .i64 (T i)])), .p (.seq true 1 m (fun i => [.int .i64 (Q i)]))]] [] (.p (.bool true)),
  (AG (!!true)),
  (AG (!!true)),
  (((!!true) = true) → Con Try.prog 172 0 [] [.p (.int .i64 (↑k : Int)), .p (.int .i64 (↑l : Int))] [] (.p (.bool true))),
  (AG (!!true)),
  (((!true) = false) → ((!!true) = true)),
  (AG (!bif !true then true else !true)),
  (((bif !true then true else !true) = false) → ((!bif !true then true else !true) = true)),
  (AG (!bif bif !true then true else !true then true else decide ((↑e : Int) < 0))),
  (((!bif bif !true then true else !true then true else decide ((↑e : Int) < 0)) = true) → ((0 : Nat) < 1)),
  (AG (!bif bif !true then true else !true then true else decide ((↑e : Int) < 0))),
  (AG (!bif bif !true then true else !true then true else decide ((↑e : Int) < 0))),
  (AG (!bif bif !true then true else !true then true else decide ((↑e : Int) < 0))),
  (((bif bif !true then true else !true then true else decide ((↑e : Int) < 0)) = false) → ((!bif bif !true then true else !true then true else decide ((↑e : Int) < 0)) = true)),
  (AG (!bif bif bif !true then true else !true then true else decide ((↑e : Int) < 0) then true else decide ((↑e : Int) ≥ (↑nb : Int)))),
  (((!bif bif bif !true then true else !true then true else decide ((↑e : Int) < 0) then true else decide ((↑e : Int) ≥ (↑nb : Int))) = true) → ((0 : Nat) < 1)),
  (AG (!bif bif bif !true then true else !true then true else decide ((↑e : Int) < 0) then true else decide ((↑e : Int) ≥ (↑nb : Int)))),
  (AG (!bif bif bif !true then true else !true then true else decide ((↑e : Int) < 0) then true else decide ((↑e : Int) ≥ (↑nb : Int)))),
  (AG (!bif bif bif !true then true else !true then true else decide ((↑e : Int) < 0) then true else decide ((↑e : Int) ≥ (↑nb : Int)))),
  (AG ((!bif bif bif !true then true else !true then true else decide ((↑e : Int) < 0) then true else decide ((↑e : Int) ≥ (↑nb : Int))) && decide ((↑m : Int) > 0))),
  ((((!bif bif bif !true then true else !true then true else decide ((↑e : Int) < 0) then true else decide ((↑e : Int) ≥ (↑nb : Int))) && decide ((↑m : Int) > 0)) = true) → ((0 : Nat) < 1)),
  (AG ((!bif bif bif !true then true else !true then true else decide ((↑e : Int) < 0) then true else decide ((↑e : Int) ≥ (↑nb : Int))) && decide ((↑m : Int) > 0))),
  ((((!bif bif bif !true then true else !true then true else decide ((↑e : Int) < 0) then true else decide ((↑e : Int) ≥ (↑nb : Int))) && decide ((↑m : Int) > 0)) = true) → ((0 : Nat) < 1)),
  (AG ((!bif bif bif !true then true else !true then true else decide ((↑e : Int) < 0) then true else decide ((↑e : Int) ≥ (↑nb : Int))) && decide ((↑m : Int) > 0))),
  (AG ((!bif bif bif !true then true else !true then true else decide ((↑e : Int) < 0) then true else decide ((↑e : Int) ≥ (↑nb : Int))) && decide ((↑m : Int) > 0))),
  ((((!bif bif bif !true then true else !true then true else decide ((↑e : Int) < 0) then true else decide ((↑e : Int) ≥ (↑nb : Int))) && decide ((↑m : Int) > 0)) = true) → (((-9223372036854775808) : Int) ≤ ((↑m : Int) - 1))),
  ((((!bif bif bif !true then true else !true then true else decide ((↑e : Int) < 0) then true else decide ((↑e : Int) ≥ (↑nb : Int))) && decide ((↑m : Int) > 0)) = true) → ((((↑m : Int) - 1) : Int) ≤ 9223372036854775807)),
  (AG ((!bif bif bif !true then true else !true then true else decide ((↑e : Int) < 0) then true else decide ((↑e : Int) ≥ (↑nb : Int))) && decide ((↑m : Int) > 0))),
  (AG ((!bif bif bif !true then true else !true then true else decide ((↑e : Int) < 0) then true else decide ((↑e : Int) ≥ (↑nb : Int))) && decide ((↑m : Int) > 0))),
  ((((!bif bif bif !true then true else !true then true else decide ((↑e : Int) < 0) then true else decide ((↑e : Int) ≥ (↑nb : Int))) && decide ((↑m : Int) > 0)) = true) → ((0 : Int) ≤ ((↑m : Int) - 1))),
  ((((!bif bif bif !true then true else !true then true else decide ((↑e : Int) < 0) then true else decide ((↑e : Int) ≥ (↑nb : Int))) && decide ((↑m : Int) > 0)) = true) → ((((↑m : Int) - 1) : Int) < (↑m : Int))),
  (AG ((!bif bif bif !true then true else !true then true else decide ((↑e : Int) < 0) then true else decide ((↑e : Int) ≥ (↑nb : Int))) && decide ((↑m : Int) > 0))),
  (AG ((!bif bif bif !true then true else !true then true else decide ((↑e : Int) < 0) then true else decide ((↑e : Int) ≥ (↑nb : Int))) && decide ((↑m : Int) > 0))),
  (AG ((!bif bif bif !true then true else !true then true else decide ((↑e : Int) < 0) then true else decide ((↑e : Int) ≥ (↑nb : Int))) && decide ((↑m : Int) > 0))),
  (AG (!bif bif bif !true then true else !true then true else decide ((↑e : Int) < 0) then true else decide ((↑e : Int) ≥ (↑nb : Int)))),
  (((!bif bif bif !true then true else !true then true else decide ((↑e : Int) < 0) then true else decide ((↑e : Int) ≥ (↑nb : Int))) = true) → (((decide ((↑m : Int) > 0)) = true) → (((!bif bif bif !true then true else !true then true else decide ((↑e : Int) < 0) then true else decide ((↑e : Int) ≥ (↑nb : Int))) && decide ((↑m : Int) > 0)) = true))),
  (((bif bif bif !true then true else !true then true else decide ((↑e : Int) < 0) then true else decide ((↑e : Int) ≥ (↑nb : Int))) = false) → ((!bif bif bif !true then true else !true then true else decide ((↑e : Int) < 0) then true else decide ((↑e : Int) ≥ (↑nb : Int))) = true)),
  ((bif bif bif bif !true then true else !true then true else decide ((↑e : Int) < 0) then true else decide ((↑e : Int) ≥ (↑nb : Int)) then true else bif decide ((↑m : Int) > 0) then decide (Q ((↑m : Int) - 1).toNat ≥ (↑e : Int)) else false) = false),
  ((0 : Nat) < 1),
  ((0 : Int) ≤ (↑e : Int)),
  (((↑e : Int) : Int) < (↑nb : Int)),
  ((0 : Nat) < 1),
  ((true = true) → (AN 1)),
  ((0 : Nat) < 1),
  ((0 : Nat) < 1),
  ((0 : Nat) < 1),
  ((0 : Nat) < 1),
  (((-9223372036854775808) : Int) ≤ ((↑l : Int) + 1)),
  ((((↑l : Int) + 1) : Int) ≤ 9223372036854775807),
  Con Try.prog 138 0 [] [.agg [.p (.int .i64 (↑N : Int)), .p (.seq true 2 nb (fun i => [.int .i64 ((g i).1), .int .i64 ((g i).2.1)]))], .agg [.p (.seq true 1 N (fun i => [.int .i64 (F i)])), .p (.seq true 1 m (fun i => [.int .i64 (T i)])), .p (.seq true 1 m (fun i => [.int .i64 (Q i)]))], .p (.int .i64 ((g e).1)), .p (.int .i64 ((g e).2.1)), .p (.int .i64 ((↑l : Int) + 1))] [(0, ⟨false, 1, N, (fun i => [.p (.int .i64 (F1 i))])⟩), (1, ⟨false, 1, m, (fun i => [.p (.int .i64 (T1 i))])⟩), (2, ⟨false, 1, m, (fun i => [.p (.int .i64 (Q i))])⟩)] (.tup [.agg [.ar 1 0 0 N, .ar 1 1 0 m, .ar 1 2 0 m], .p (.bool true)]),
  ((0 : Nat) < 1),
  ((true = true) → (AN 1)),
  ((!true) = false),
  ((0 : Nat) < 1),
  ((0 : Nat) < 1),
  ((0 : Nat) < 1),
  ((0 : Int) ≤ ((g e).1)),
  ((((g e).1) : Int) < (↑N : Int)),
  ((((g e).1.toNat) : Nat) < N),
  ((F1 (g e).1.toNat == 0) = false),
  ((0 : Nat) < 1),
  ((0 : Nat) < 1),
  ((0 : Int) ≤ ((g e).1)),
  ((((g e).1) : Int) < (↑N : Int)),
  ((((g e).1.toNat) : Nat) < N),
  (((-9223372036854775808) : Int) ≤ (F1 (g e).1.toNat - 1)),
  (((F1 (g e).1.toNat - 1) : Int) ≤ 9223372036854775807),
  ((0 : Int) ≤ ((g e).1)),
  ((((g e).1) : Int) < (↑N : Int)),
  ((((g e).1.toNat) : Nat) < N),
  ((false = true) → ((N : Nat) = 1)),
  ((0 : Nat) < 1),
  ((1 : Nat) ≤ 1),
  ((m : Nat) ≤ m),
  ((((m + 1) * 8) : Nat) ≤ 140737488355328),
  (((m + 1) : Nat) ≤ 9223372036854775807),
  ((0 : Nat) < 1),
  ((true = true) → (AN 1)),
  ((0 : Nat) < 1),
  ((1 : Nat) ≤ 1),
  ((m : Nat) ≤ m),
  ((((m + 1) * 8) : Nat) ≤ 140737488355328),
  (((m + 1) : Nat) ≤ 9223372036854775807),
  ((0 : Nat) < 1),
  ((true = true) → (AN 1)),
  ((0 : Nat) < 1),
  ((0 : Nat) < 1),
  ((true = true) → (AN 1)),
  ((0 : Nat) < 1),
  (AN 0),
  (AN N),
  (AN 0),
  (AN ((m + 1))),
  (AN 0),
  (AN ((m + 1))),
  (true = true),
  (AN 1),
  ((N : Nat) ≤ N),
  (∀ i : Nat, (((i : Nat) < N) → (All (cvtL false [(64, ⟨true, 3, 1, (fun i_1 => [.ar 1 1888 0 N, .ar 1 2976 0 (m + 1), .ar 1 3200 0 (m + 1)])⟩), (2016, ⟨true, 3, 1, (fun i_1 => [.ar 1 1888 0 N, .ar 1 2976 0 (m + 1), .ar 1 3200 0 (m + 1)])⟩), (3200, ⟨false, 1, (m + 1), (fun i_1 => (if (i_1 < m) then [.p (.int .i64 (Q i_1))] else [.p (.int .i64 (↑e : Int))]))⟩), (3168, ⟨false, 1, 1, (fun i_1 => [.p (.int .i64 (↑e : Int))])⟩), (2976, ⟨false, 1, (m + 1), (fun i_1 => (if (i_1 < m) then [.p (.int .i64 (T1 i_1))] else [.p (.int .i64 ((g e).1))]))⟩), (2944, ⟨false, 1, 1, (fun i_1 => [.p (.int .i64 ((g e).1))])⟩), (1888, ⟨false, 1, N, (fun i_1 => (if (i_1 = (g e).1.toNat) then [.p (.int .i64 (F1 (g e).1.toNat - 1))] else [.p (.int .i64 (F1 i_1))]))⟩), (1568, ⟨true, 2, 1, (fun i_1 => [.p (.int .i64 ((g e).1)), .p (.int .i64 ((g e).2.1))])⟩), (32, ⟨true, 3, 1, (fun i_1 => [.p (.seq true 1 N (fun i_2 => [.int .i64 (F i_2)])), .p (.seq true 1 m (fun i_2 => [.int .i64 (T i_2)])), .p (.seq true 1 m (fun i_2 => [.int .i64 (Q i_2)]))])⟩), (0, ⟨true, 2, 1, (fun i_1 => [.p (.int .i64 (↑N : Int)), .p (.seq true 2 nb (fun i_2 => [.int .i64 ((g i_2).1), .int .i64 ((g i_2).2.1)]))])⟩)] [1888, 2976, 3200] 1 (if (i = (g e).1.toNat) then [.p (.int .i64 (F1 (g e).1.toNat - 1))] else [.p (.int .i64 (F1 i))])).2 ∧ (((cvtL false [(64, ⟨true, 3, 1, (fun i_1 => [.ar 1 1888 0 N, .ar 1 2976 0 (m + 1), .ar 1 3200 0 (m + 1)])⟩), (2016, ⟨true, 3, 1, (fun i_1 => [.ar 1 1888 0 N, .ar 1 2976 0 (m + 1), .ar 1 3200 0 (m + 1)])⟩), (3200, ⟨false, 1, (m + 1), (fun i_1 => (if (i_1 < m) then [.p (.int .i64 (Q i_1))] else [.p (.int .i64 (↑e : Int))]))⟩), (3168, ⟨false, 1, 1, (fun i_1 => [.p (.int .i64 (↑e : Int))])⟩), (2976, ⟨false, 1, (m + 1), (fun i_1 => (if (i_1 < m) then [.p (.int .i64 (T1 i_1))] else [.p (.int .i64 ((g e).1))]))⟩), (2944, ⟨false, 1, 1, (fun i_1 => [.p (.int .i64 ((g e).1))])⟩), (1888, ⟨false, 1, N, (fun i_1 => (if (i_1 = (g e).1.toNat) then [.p (.int .i64 (F1 (g e).1.toNat - 1))] else [.p (.int .i64 (F1 i_1))]))⟩), (1568, ⟨true, 2, 1, (fun i_1 => [.p (.int .i64 ((g e).1)), .p (.int .i64 ((g e).2.1))])⟩), (32, ⟨true, 3, 1, (fun i_1 => [.p (.seq true 1 N (fun i_2 => [.int .i64 (F i_2)])), .p (.seq true 1 m (fun i_2 => [.int .i64 (T i_2)])), .p (.seq true 1 m (fun i_2 => [.int .i64 (Q i_2)]))])⟩), (0, ⟨true, 2, 1, (fun i_1 => [.p (.int .i64 (↑N : Int)), .p (.seq true 2 nb (fun i_2 => [.int .i64 ((g i_2).1), .int .i64 ((g i_2).2.1)]))])⟩)] [1888, 2976, 3200] 1 (if (i = (g e).1.toNat) then [.p (.int .i64 (F1 (g e).1.toNat - 1))] else [.p (.int .i64 (F1 i))])).1 : List AV) = [.p (.int .i64 (if i = (g e).1.toNat then F1 i - 1 else F1 i))])))),
  (AN 1),
  (((m + 1) : Nat) ≤ (m + 1)),
  (∀ i : Nat, (((i : Nat) < (m + 1)) → (All (cvtL false [(64, ⟨true, 3, 1, (fun i_1 => [.ar 1 1888 0 N, .ar 1 2976 0 (m + 1), .ar 1 3200 0 (m + 1)])⟩), (2016, ⟨true, 3, 1, (fun i_1 => [.ar 1 1888 0 N, .ar 1 2976 0 (m + 1), .ar 1 3200 0 (m + 1)])⟩), (3200, ⟨false, 1, (m + 1), (fun i_1 => (if (i_1 < m) then [.p (.int .i64 (Q i_1))] else [.p (.int .i64 (↑e : Int))]))⟩), (3168, ⟨false, 1, 1, (fun i_1 => [.p (.int .i64 (↑e : Int))])⟩), (2976, ⟨false, 1, (m + 1), (fun i_1 => (if (i_1 < m) then [.p (.int .i64 (T1 i_1))] else [.p (.int .i64 ((g e).1))]))⟩), (2944, ⟨false, 1, 1, (fun i_1 => [.p (.int .i64 ((g e).1))])⟩), (1888, ⟨false, 1, N, (fun i_1 => (if (i_1 = (g e).1.toNat) then [.p (.int .i64 (F1 (g e).1.toNat - 1))] else [.p (.int .i64 (F1 i_1))]))⟩), (1568, ⟨true, 2, 1, (fun i_1 => [.p (.int .i64 ((g e).1)), .p (.int .i64 ((g e).2.1))])⟩), (32, ⟨true, 3, 1, (fun i_1 => [.p (.seq true 1 N (fun i_2 => [.int .i64 (F i_2)])), .p (.seq true 1 m (fun i_2 => [.int .i64 (T i_2)])), .p (.seq true 1 m (fun i_2 => [.int .i64 (Q i_2)]))])⟩), (0, ⟨true, 2, 1, (fun i_1 => [.p (.int .i64 (↑N : Int)), .p (.seq true 2 nb (fun i_2 => [.int .i64 ((g i_2).1), .int .i64 ((g i_2).2.1)]))])⟩)] [1888, 2976, 3200] 1 (if (i < m) then [.p (.int .i64 (T1 i))] else [.p (.int .i64 ((g e).1))])).2 ∧ (((cvtL false [(64, ⟨true, 3, 1, (fun i_1 => [.ar 1 1888 0 N, .ar 1 2976 0 (m + 1), .ar 1 3200 0 (m + 1)])⟩), (2016, ⟨true, 3, 1, (fun i_1 => [.ar 1 1888 0 N, .ar 1 2976 0 (m + 1), .ar 1 3200 0 (m + 1)])⟩), (3200, ⟨false, 1, (m + 1), (fun i_1 => (if (i_1 < m) then [.p (.int .i64 (Q i_1))] else [.p (.int .i64 (↑e : Int))]))⟩), (3168, ⟨false, 1, 1, (fun i_1 => [.p (.int .i64 (↑e : Int))])⟩), (2976, ⟨false, 1, (m + 1), (fun i_1 => (if (i_1 < m) then [.p (.int .i64 (T1 i_1))] else [.p (.int .i64 ((g e).1))]))⟩), (2944, ⟨false, 1, 1, (fun i_1 => [.p (.int .i64 ((g e).1))])⟩), (1888, ⟨false, 1, N, (fun i_1 => (if (i_1 = (g e).1.toNat) then [.p (.int .i64 (F1 (g e).1.toNat - 1))] else [.p (.int .i64 (F1 i_1))]))⟩), (1568, ⟨true, 2, 1, (fun i_1 => [.p (.int .i64 ((g e).1)), .p (.int .i64 ((g e).2.1))])⟩), (32, ⟨true, 3, 1, (fun i_1 => [.p (.seq true 1 N (fun i_2 => [.int .i64 (F i_2)])), .p (.seq true 1 m (fun i_2 => [.int .i64 (T i_2)])), .p (.seq true 1 m (fun i_2 => [.int .i64 (Q i_2)]))])⟩), (0, ⟨true, 2, 1, (fun i_1 => [.p (.int .i64 (↑N : Int)), .p (.seq true 2 nb (fun i_2 => [.int .i64 ((g i_2).1), .int .i64 ((g i_2).2.1)]))])⟩)] [1888, 2976, 3200] 1 (if (i < m) then [.p (.int .i64 (T1 i))] else [.p (.int .i64 ((g e).1))])).1 : List AV) = [.p (.int .i64 (if i < m then T1 i else (g e).1))])))),
  (AN 1),
  (((m + 1) : Nat) ≤ (m + 1)),
  (∀ i : Nat, (((i : Nat) < (m + 1)) → (All (cvtL false [(64, ⟨true, 3, 1, (fun i_1 => [.ar 1 1888 0 N, .ar 1 2976 0 (m + 1), .ar 1 3200 0 (m + 1)])⟩), (2016, ⟨true, 3, 1, (fun i_1 => [.ar 1 1888 0 N, .ar 1 2976 0 (m + 1), .ar 1 3200 0 (m + 1)])⟩), (3200, ⟨false, 1, (m + 1), (fun i_1 => (if (i_1 < m) then [.p (.int .i64 (Q i_1))] else [.p (.int .i64 (↑e : Int))]))⟩), (3168, ⟨false, 1, 1, (fun i_1 => [.p (.int .i64 (↑e : Int))])⟩), (2976, ⟨false, 1, (m + 1), (fun i_1 => (if (i_1 < m) then [.p (.int .i64 (T1 i_1))] else [.p (.int .i64 ((g e).1))]))⟩), (2944, ⟨false, 1, 1, (fun i_1 => [.p (.int .i64 ((g e).1))])⟩), (1888, ⟨false, 1, N, (fun i_1 => (if (i_1 = (g e).1.toNat) then [.p (.int .i64 (F1 (g e).1.toNat - 1))] else [.p (.int .i64 (F1 i_1))]))⟩), (1568, ⟨true, 2, 1, (fun i_1 => [.p (.int .i64 ((g e).1)), .p (.int .i64 ((g e).2.1))])⟩), (32, ⟨true, 3, 1, (fun i_1 => [.p (.seq true 1 N (fun i_2 => [.int .i64 (F i_2)])), .p (.seq true 1 m (fun i_2 => [.int .i64 (T i_2)])), .p (.seq true 1 m (fun i_2 => [.int .i64 (Q i_2)]))])⟩), (0, ⟨true, 2, 1, (fun i_1 => [.p (.int .i64 (↑N : Int)), .p (.seq true 2 nb (fun i_2 => [.int .i64 ((g i_2).1), .int .i64 ((g i_2).2.1)]))])⟩)] [1888, 2976, 3200] 1 (if (i < m) then [.p (.int .i64 (Q i))] else [.p (.int .i64 (↑e : Int))])).2 ∧ (((cvtL false [(64, ⟨true, 3, 1, (fun i_1 => [.ar 1 1888 0 N, .ar 1 2976 0 (m + 1), .ar 1 3200 0 (m + 1)])⟩), (2016, ⟨true, 3, 1, (fun i_1 => [.ar 1 1888 0 N, .ar 1 2976 0 (m + 1), .ar 1 3200 0 (m + 1)])⟩), (3200, ⟨false, 1, (m + 1), (fun i_1 => (if (i_1 < m) then [.p (.int .i64 (Q i_1))] else [.p (.int .i64 (↑e : Int))]))⟩), (3168, ⟨false, 1, 1, (fun i_1 => [.p (.int .i64 (↑e : Int))])⟩), (2976, ⟨false, 1, (m + 1), (fun i_1 => (if (i_1 < m) then [.p (.int .i64 (T1 i_1))] else [.p (.int .i64 ((g e).1))]))⟩), (2944, ⟨false, 1, 1, (fun i_1 => [.p (.int .i64 ((g e).1))])⟩), (1888, ⟨false, 1, N, (fun i_1 => (if (i_1 = (g e).1.toNat) then [.p (.int .i64 (F1 (g e).1.toNat - 1))] else [.p (.int .i64 (F1 i_1))]))⟩), (1568, ⟨true, 2, 1, (fun i_1 => [.p (.int .i64 ((g e).1)), .p (.int .i64 ((g e).2.1))])⟩), (32, ⟨true, 3, 1, (fun i_1 => [.p (.seq true 1 N (fun i_2 => [.int .i64 (F i_2)])), .p (.seq true 1 m (fun i_2 => [.int .i64 (T i_2)])), .p (.seq true 1 m (fun i_2 => [.int .i64 (Q i_2)]))])⟩), (0, ⟨true, 2, 1, (fun i_1 => [.p (.int .i64 (↑N : Int)), .p (.seq true 2 nb (fun i_2 => [.int .i64 ((g i_2).1), .int .i64 ((g i_2).2.1)]))])⟩)] [1888, 2976, 3200] 1 (if (i < m) then [.p (.int .i64 (Q i))] else [.p (.int .i64 (↑e : Int))])).1 : List AV) = [.p (.int .i64 (if i < m then Q i else (↑e : Int)))])))),
  (AE N),
  (AE ((m + 1))),
  (AE ((m + 1)))] := by kernel_rfl
theorem nPb (g : Nat → T_Bar) (nb N k l m e : Nat) (F T Q F1 T1 : Nat → Int) :
    pathOb Try.prog Try.f173 0 [.reg [oT, oT, oT, oT], .reg [oT, oT, oT, ⟨true, (some ⟨[], [], [], 1, [], .p (.bool true)⟩), none⟩, oT, oT, oT, oT, ⟨true, (some ⟨[], [], [], 1, [], .p (.bool true)⟩), none⟩, oT, oT, oT, oT, oT, oT, oT, oT, oT, oT, oT, oT, oT, oT, oT, oT, oT, oT, oT, oT, oT, oT, oT, oT, oT, oT, oT, oT, oT, oT, oT], .dec false, .reg [oT, oT, oT, oT, oT, oT, oT], .reg [oT, oT, oT, oT, oT, oT, oT, oT, ⟨true, (some ⟨[], [], [], 1, pebR N m F1 T1 Q, .tup [pebO N m 0, .p (.bool true)]⟩), none⟩, oT, oT, oT, oT, oT, oT], .reg [oT, oT], .dec false, .reg [oT, oT, oT], .reg [oT, oT, oT, oT, oT, oT, oT], .dec true, .reg [oT, oT, oT], .reg [oT, oT, oT, oT, oT, oT, oT, oT, oT, oT, oT], .reg [oT, oT, oT, oT, oT, oT, oT], .reg [oT, oT, oT, oT, oT, oT, oT], .reg [oT, oT, oT]] [.code (bodyOf Try.f173)] (start Try.f173 [] 0 [grG g nb N, .p (.int .i64 k), .p (.int .i64 l), pebD N m F T Q, .p (.int .i64 e)]) [1888, 3072, 3296] 1 (pebR N (m + 1) (fun s => if s = (g e).2.1.toNat then F1 s - 1 else F1 s) (fun s => if s < m then T1 s else (g e).2.1) (fun s => if s < m then Q s else e)) (.tup [pebO N (m + 1) 0, .p (.bool true)]) =
    some [((0 : Nat) < 1),
  ((0 : Nat) < 1),
  Con Try.prog 175 0 [] [.agg [.p (.int .i64 (↑N : Int)), .p (.seq true 2 nb (fun i => [.int .i64 ((g i).1), .int .i64 ((g i).2.1)]))], .p (.int .i64 (↑k : Int)), .agg [.p (.seq true 1 N (fun i => [.int .i64 (F i)])), .p (.seq true 1 m (fun i => [.int .i64 (T i)])), .p (.seq true 1 m (fun i => [.int .i64 (Q i)]))]] [] (.p (.bool true)),
  (AG (!!true)),
  (AG (!!true)),
  (((!!true) = true) → Con Try.prog 172 0 [] [.p (.int .i64 (↑k : Int)), .p (.int .i64 (↑l : Int))] [] (.p (.bool true))),
  (AG (!!true)),
  (((!true) = false) → ((!!true) = true)),
  (AG (!bif !true then true else !true)),
  (((bif !true then true else !true) = false) → ((!bif !true then true else !true) = true)),
  (AG (!bif bif !true then true else !true then true else decide ((↑e : Int) < 0))),
  (((!bif bif !true then true else !true then true else decide ((↑e : Int) < 0)) = true) → ((0 : Nat) < 1)),
  (AG (!bif bif !true then true else !true then true else decide ((↑e : Int) < 0))),
  (AG (!bif bif !true then true else !true then true else decide ((↑e : Int) < 0))),
  (AG (!bif bif !true then true else !true then true else decide ((↑e : Int) < 0))),
  (((bif bif !true then true else !true then true else decide ((↑e : Int) < 0)) = false) → ((!bif bif !true then true else !true then true else decide ((↑e : Int) < 0)) = true)),
  (AG (!bif bif bif !true then true else !true then true else decide ((↑e : Int) < 0) then true else decide ((↑e : Int) ≥ (↑nb : Int)))),
  (((!bif bif bif !true then true else !true then true else decide ((↑e : Int) < 0) then true else decide ((↑e : Int) ≥ (↑nb : Int))) = true) → ((0 : Nat) < 1)),
  (AG (!bif bif bif !true then true else !true then true else decide ((↑e : Int) < 0) then true else decide ((↑e : Int) ≥ (↑nb : Int)))),
  (AG (!bif bif bif !true then true else !true then true else decide ((↑e : Int) < 0) then true else decide ((↑e : Int) ≥ (↑nb : Int)))),
  (AG (!bif bif bif !true then true else !true then true else decide ((↑e : Int) < 0) then true else decide ((↑e : Int) ≥ (↑nb : Int)))),
  (AG ((!bif bif bif !true then true else !true then true else decide ((↑e : Int) < 0) then true else decide ((↑e : Int) ≥ (↑nb : Int))) && decide ((↑m : Int) > 0))),
  ((((!bif bif bif !true then true else !true then true else decide ((↑e : Int) < 0) then true else decide ((↑e : Int) ≥ (↑nb : Int))) && decide ((↑m : Int) > 0)) = true) → ((0 : Nat) < 1)),
  (AG ((!bif bif bif !true then true else !true then true else decide ((↑e : Int) < 0) then true else decide ((↑e : Int) ≥ (↑nb : Int))) && decide ((↑m : Int) > 0))),
  ((((!bif bif bif !true then true else !true then true else decide ((↑e : Int) < 0) then true else decide ((↑e : Int) ≥ (↑nb : Int))) && decide ((↑m : Int) > 0)) = true) → ((0 : Nat) < 1)),
  (AG ((!bif bif bif !true then true else !true then true else decide ((↑e : Int) < 0) then true else decide ((↑e : Int) ≥ (↑nb : Int))) && decide ((↑m : Int) > 0))),
  (AG ((!bif bif bif !true then true else !true then true else decide ((↑e : Int) < 0) then true else decide ((↑e : Int) ≥ (↑nb : Int))) && decide ((↑m : Int) > 0))),
  ((((!bif bif bif !true then true else !true then true else decide ((↑e : Int) < 0) then true else decide ((↑e : Int) ≥ (↑nb : Int))) && decide ((↑m : Int) > 0)) = true) → (((-9223372036854775808) : Int) ≤ ((↑m : Int) - 1))),
  ((((!bif bif bif !true then true else !true then true else decide ((↑e : Int) < 0) then true else decide ((↑e : Int) ≥ (↑nb : Int))) && decide ((↑m : Int) > 0)) = true) → ((((↑m : Int) - 1) : Int) ≤ 9223372036854775807)),
  (AG ((!bif bif bif !true then true else !true then true else decide ((↑e : Int) < 0) then true else decide ((↑e : Int) ≥ (↑nb : Int))) && decide ((↑m : Int) > 0))),
  (AG ((!bif bif bif !true then true else !true then true else decide ((↑e : Int) < 0) then true else decide ((↑e : Int) ≥ (↑nb : Int))) && decide ((↑m : Int) > 0))),
  ((((!bif bif bif !true then true else !true then true else decide ((↑e : Int) < 0) then true else decide ((↑e : Int) ≥ (↑nb : Int))) && decide ((↑m : Int) > 0)) = true) → ((0 : Int) ≤ ((↑m : Int) - 1))),
  ((((!bif bif bif !true then true else !true then true else decide ((↑e : Int) < 0) then true else decide ((↑e : Int) ≥ (↑nb : Int))) && decide ((↑m : Int) > 0)) = true) → ((((↑m : Int) - 1) : Int) < (↑m : Int))),
  (AG ((!bif bif bif !true then true else !true then true else decide ((↑e : Int) < 0) then true else decide ((↑e : Int) ≥ (↑nb : Int))) && decide ((↑m : Int) > 0))),
  (AG ((!bif bif bif !true then true else !true then true else decide ((↑e : Int) < 0) then true else decide ((↑e : Int) ≥ (↑nb : Int))) && decide ((↑m : Int) > 0))),
  (AG ((!bif bif bif !true then true else !true then true else decide ((↑e : Int) < 0) then true else decide ((↑e : Int) ≥ (↑nb : Int))) && decide ((↑m : Int) > 0))),
  (AG (!bif bif bif !true then true else !true then true else decide ((↑e : Int) < 0) then true else decide ((↑e : Int) ≥ (↑nb : Int)))),
  (((!bif bif bif !true then true else !true then true else decide ((↑e : Int) < 0) then true else decide ((↑e : Int) ≥ (↑nb : Int))) = true) → (((decide ((↑m : Int) > 0)) = true) → (((!bif bif bif !true then true else !true then true else decide ((↑e : Int) < 0) then true else decide ((↑e : Int) ≥ (↑nb : Int))) && decide ((↑m : Int) > 0)) = true))),
  (((bif bif bif !true then true else !true then true else decide ((↑e : Int) < 0) then true else decide ((↑e : Int) ≥ (↑nb : Int))) = false) → ((!bif bif bif !true then true else !true then true else decide ((↑e : Int) < 0) then true else decide ((↑e : Int) ≥ (↑nb : Int))) = true)),
  ((bif bif bif bif !true then true else !true then true else decide ((↑e : Int) < 0) then true else decide ((↑e : Int) ≥ (↑nb : Int)) then true else bif decide ((↑m : Int) > 0) then decide (Q ((↑m : Int) - 1).toNat ≥ (↑e : Int)) else false) = false),
  ((0 : Nat) < 1),
  ((0 : Int) ≤ (↑e : Int)),
  (((↑e : Int) : Int) < (↑nb : Int)),
  ((0 : Nat) < 1),
  ((true = true) → (AN 1)),
  ((0 : Nat) < 1),
  ((0 : Nat) < 1),
  ((0 : Nat) < 1),
  ((0 : Nat) < 1),
  (((-9223372036854775808) : Int) ≤ ((↑l : Int) + 1)),
  ((((↑l : Int) + 1) : Int) ≤ 9223372036854775807),
  Con Try.prog 138 0 [] [.agg [.p (.int .i64 (↑N : Int)), .p (.seq true 2 nb (fun i => [.int .i64 ((g i).1), .int .i64 ((g i).2.1)]))], .agg [.p (.seq true 1 N (fun i => [.int .i64 (F i)])), .p (.seq true 1 m (fun i => [.int .i64 (T i)])), .p (.seq true 1 m (fun i => [.int .i64 (Q i)]))], .p (.int .i64 ((g e).1)), .p (.int .i64 ((g e).2.1)), .p (.int .i64 ((↑l : Int) + 1))] [(0, ⟨false, 1, N, (fun i => [.p (.int .i64 (F1 i))])⟩), (1, ⟨false, 1, m, (fun i => [.p (.int .i64 (T1 i))])⟩), (2, ⟨false, 1, m, (fun i => [.p (.int .i64 (Q i))])⟩)] (.tup [.agg [.ar 1 0 0 N, .ar 1 1 0 m, .ar 1 2 0 m], .p (.bool true)]),
  ((0 : Nat) < 1),
  ((true = true) → (AN 1)),
  ((!true) = false),
  ((0 : Nat) < 1),
  ((0 : Nat) < 1),
  ((0 : Nat) < 1),
  ((0 : Int) ≤ ((g e).1)),
  ((((g e).1) : Int) < (↑N : Int)),
  ((((g e).1.toNat) : Nat) < N),
  ((F1 (g e).1.toNat == 0) = true),
  ((0 : Nat) < 1),
  ((0 : Nat) < 1),
  ((0 : Nat) < 1),
  ((0 : Int) ≤ ((g e).2.1)),
  ((((g e).2.1) : Int) < (↑N : Int)),
  ((((g e).2.1.toNat) : Nat) < N),
  (((-9223372036854775808) : Int) ≤ (F1 (g e).2.1.toNat - 1)),
  (((F1 (g e).2.1.toNat - 1) : Int) ≤ 9223372036854775807),
  ((0 : Int) ≤ ((g e).2.1)),
  ((((g e).2.1) : Int) < (↑N : Int)),
  ((((g e).2.1.toNat) : Nat) < N),
  ((false = true) → ((N : Nat) = 1)),
  ((0 : Nat) < 1),
  ((1 : Nat) ≤ 1),
  ((m : Nat) ≤ m),
  ((((m + 1) * 8) : Nat) ≤ 140737488355328),
  (((m + 1) : Nat) ≤ 9223372036854775807),
  ((0 : Nat) < 1),
  ((true = true) → (AN 1)),
  ((0 : Nat) < 1),
  ((1 : Nat) ≤ 1),
  ((m : Nat) ≤ m),
  ((((m + 1) * 8) : Nat) ≤ 140737488355328),
  (((m + 1) : Nat) ≤ 9223372036854775807),
  ((0 : Nat) < 1),
  ((true = true) → (AN 1)),
  ((0 : Nat) < 1),
  ((0 : Nat) < 1),
  ((true = true) → (AN 1)),
  ((0 : Nat) < 1),
  (AN 0),
  (AN N),
  (AN 0),
  (AN ((m + 1))),
  (AN 0),
  (AN ((m + 1))),
  (true = true),
  (AN 1),
  ((N : Nat) ≤ N),
  (∀ i : Nat, (((i : Nat) < N) → (All (cvtL false [(64, ⟨true, 3, 1, (fun i_1 => [.ar 1 1888 0 N, .ar 1 3072 0 (m + 1), .ar 1 3296 0 (m + 1)])⟩), (2016, ⟨true, 3, 1, (fun i_1 => [.ar 1 1888 0 N, .ar 1 3072 0 (m + 1), .ar 1 3296 0 (m + 1)])⟩), (3296, ⟨false, 1, (m + 1), (fun i_1 => (if (i_1 < m) then [.p (.int .i64 (Q i_1))] else [.p (.int .i64 (↑e : Int))]))⟩), (3264, ⟨false, 1, 1, (fun i_1 => [.p (.int .i64 (↑e : Int))])⟩), (3072, ⟨false, 1, (m + 1), (fun i_1 => (if (i_1 < m) then [.p (.int .i64 (T1 i_1))] else [.p (.int .i64 ((g e).2.1))]))⟩), (3040, ⟨false, 1, 1, (fun i_1 => [.p (.int .i64 ((g e).2.1))])⟩), (1888, ⟨false, 1, N, (fun i_1 => (if (i_1 = (g e).2.1.toNat) then [.p (.int .i64 (F1 (g e).2.1.toNat - 1))] else [.p (.int .i64 (F1 i_1))]))⟩), (1568, ⟨true, 2, 1, (fun i_1 => [.p (.int .i64 ((g e).1)), .p (.int .i64 ((g e).2.1))])⟩), (32, ⟨true, 3, 1, (fun i_1 => [.p (.seq true 1 N (fun i_2 => [.int .i64 (F i_2)])), .p (.seq true 1 m (fun i_2 => [.int .i64 (T i_2)])), .p (.seq true 1 m (fun i_2 => [.int .i64 (Q i_2)]))])⟩), (0, ⟨true, 2, 1, (fun i_1 => [.p (.int .i64 (↑N : Int)), .p (.seq true 2 nb (fun i_2 => [.int .i64 ((g i_2).1), .int .i64 ((g i_2).2.1)]))])⟩)] [1888, 3072, 3296] 1 (if (i = (g e).2.1.toNat) then [.p (.int .i64 (F1 (g e).2.1.toNat - 1))] else [.p (.int .i64 (F1 i))])).2 ∧ (((cvtL false [(64, ⟨true, 3, 1, (fun i_1 => [.ar 1 1888 0 N, .ar 1 3072 0 (m + 1), .ar 1 3296 0 (m + 1)])⟩), (2016, ⟨true, 3, 1, (fun i_1 => [.ar 1 1888 0 N, .ar 1 3072 0 (m + 1), .ar 1 3296 0 (m + 1)])⟩), (3296, ⟨false, 1, (m + 1), (fun i_1 => (if (i_1 < m) then [.p (.int .i64 (Q i_1))] else [.p (.int .i64 (↑e : Int))]))⟩), (3264, ⟨false, 1, 1, (fun i_1 => [.p (.int .i64 (↑e : Int))])⟩), (3072, ⟨false, 1, (m + 1), (fun i_1 => (if (i_1 < m) then [.p (.int .i64 (T1 i_1))] else [.p (.int .i64 ((g e).2.1))]))⟩), (3040, ⟨false, 1, 1, (fun i_1 => [.p (.int .i64 ((g e).2.1))])⟩), (1888, ⟨false, 1, N, (fun i_1 => (if (i_1 = (g e).2.1.toNat) then [.p (.int .i64 (F1 (g e).2.1.toNat - 1))] else [.p (.int .i64 (F1 i_1))]))⟩), (1568, ⟨true, 2, 1, (fun i_1 => [.p (.int .i64 ((g e).1)), .p (.int .i64 ((g e).2.1))])⟩), (32, ⟨true, 3, 1, (fun i_1 => [.p (.seq true 1 N (fun i_2 => [.int .i64 (F i_2)])), .p (.seq true 1 m (fun i_2 => [.int .i64 (T i_2)])), .p (.seq true 1 m (fun i_2 => [.int .i64 (Q i_2)]))])⟩), (0, ⟨true, 2, 1, (fun i_1 => [.p (.int .i64 (↑N : Int)), .p (.seq true 2 nb (fun i_2 => [.int .i64 ((g i_2).1), .int .i64 ((g i_2).2.1)]))])⟩)] [1888, 3072, 3296] 1 (if (i = (g e).2.1.toNat) then [.p (.int .i64 (F1 (g e).2.1.toNat - 1))] else [.p (.int .i64 (F1 i))])).1 : List AV) = [.p (.int .i64 (if i = (g e).2.1.toNat then F1 i - 1 else F1 i))])))),
  (AN 1),
  (((m + 1) : Nat) ≤ (m + 1)),
  (∀ i : Nat, (((i : Nat) < (m + 1)) → (All (cvtL false [(64, ⟨true, 3, 1, (fun i_1 => [.ar 1 1888 0 N, .ar 1 3072 0 (m + 1), .ar 1 3296 0 (m + 1)])⟩), (2016, ⟨true, 3, 1, (fun i_1 => [.ar 1 1888 0 N, .ar 1 3072 0 (m + 1), .ar 1 3296 0 (m + 1)])⟩), (3296, ⟨false, 1, (m + 1), (fun i_1 => (if (i_1 < m) then [.p (.int .i64 (Q i_1))] else [.p (.int .i64 (↑e : Int))]))⟩), (3264, ⟨false, 1, 1, (fun i_1 => [.p (.int .i64 (↑e : Int))])⟩), (3072, ⟨false, 1, (m + 1), (fun i_1 => (if (i_1 < m) then [.p (.int .i64 (T1 i_1))] else [.p (.int .i64 ((g e).2.1))]))⟩), (3040, ⟨false, 1, 1, (fun i_1 => [.p (.int .i64 ((g e).2.1))])⟩), (1888, ⟨false, 1, N, (fun i_1 => (if (i_1 = (g e).2.1.toNat) then [.p (.int .i64 (F1 (g e).2.1.toNat - 1))] else [.p (.int .i64 (F1 i_1))]))⟩), (1568, ⟨true, 2, 1, (fun i_1 => [.p (.int .i64 ((g e).1)), .p (.int .i64 ((g e).2.1))])⟩), (32, ⟨true, 3, 1, (fun i_1 => [.p (.seq true 1 N (fun i_2 => [.int .i64 (F i_2)])), .p (.seq true 1 m (fun i_2 => [.int .i64 (T i_2)])), .p (.seq true 1 m (fun i_2 => [.int .i64 (Q i_2)]))])⟩), (0, ⟨true, 2, 1, (fun i_1 => [.p (.int .i64 (↑N : Int)), .p (.seq true 2 nb (fun i_2 => [.int .i64 ((g i_2).1), .int .i64 ((g i_2).2.1)]))])⟩)] [1888, 3072, 3296] 1 (if (i < m) then [.p (.int .i64 (T1 i))] else [.p (.int .i64 ((g e).2.1))])).2 ∧ (((cvtL false [(64, ⟨true, 3, 1, (fun i_1 => [.ar 1 1888 0 N, .ar 1 3072 0 (m + 1), .ar 1 3296 0 (m + 1)])⟩), (2016, ⟨true, 3, 1, (fun i_1 => [.ar 1 1888 0 N, .ar 1 3072 0 (m + 1), .ar 1 3296 0 (m + 1)])⟩), (3296, ⟨false, 1, (m + 1), (fun i_1 => (if (i_1 < m) then [.p (.int .i64 (Q i_1))] else [.p (.int .i64 (↑e : Int))]))⟩), (3264, ⟨false, 1, 1, (fun i_1 => [.p (.int .i64 (↑e : Int))])⟩), (3072, ⟨false, 1, (m + 1), (fun i_1 => (if (i_1 < m) then [.p (.int .i64 (T1 i_1))] else [.p (.int .i64 ((g e).2.1))]))⟩), (3040, ⟨false, 1, 1, (fun i_1 => [.p (.int .i64 ((g e).2.1))])⟩), (1888, ⟨false, 1, N, (fun i_1 => (if (i_1 = (g e).2.1.toNat) then [.p (.int .i64 (F1 (g e).2.1.toNat - 1))] else [.p (.int .i64 (F1 i_1))]))⟩), (1568, ⟨true, 2, 1, (fun i_1 => [.p (.int .i64 ((g e).1)), .p (.int .i64 ((g e).2.1))])⟩), (32, ⟨true, 3, 1, (fun i_1 => [.p (.seq true 1 N (fun i_2 => [.int .i64 (F i_2)])), .p (.seq true 1 m (fun i_2 => [.int .i64 (T i_2)])), .p (.seq true 1 m (fun i_2 => [.int .i64 (Q i_2)]))])⟩), (0, ⟨true, 2, 1, (fun i_1 => [.p (.int .i64 (↑N : Int)), .p (.seq true 2 nb (fun i_2 => [.int .i64 ((g i_2).1), .int .i64 ((g i_2).2.1)]))])⟩)] [1888, 3072, 3296] 1 (if (i < m) then [.p (.int .i64 (T1 i))] else [.p (.int .i64 ((g e).2.1))])).1 : List AV) = [.p (.int .i64 (if i < m then T1 i else (g e).2.1))])))),
  (AN 1),
  (((m + 1) : Nat) ≤ (m + 1)),
  (∀ i : Nat, (((i : Nat) < (m + 1)) → (All (cvtL false [(64, ⟨true, 3, 1, (fun i_1 => [.ar 1 1888 0 N, .ar 1 3072 0 (m + 1), .ar 1 3296 0 (m + 1)])⟩), (2016, ⟨true, 3, 1, (fun i_1 => [.ar 1 1888 0 N, .ar 1 3072 0 (m + 1), .ar 1 3296 0 (m + 1)])⟩), (3296, ⟨false, 1, (m + 1), (fun i_1 => (if (i_1 < m) then [.p (.int .i64 (Q i_1))] else [.p (.int .i64 (↑e : Int))]))⟩), (3264, ⟨false, 1, 1, (fun i_1 => [.p (.int .i64 (↑e : Int))])⟩), (3072, ⟨false, 1, (m + 1), (fun i_1 => (if (i_1 < m) then [.p (.int .i64 (T1 i_1))] else [.p (.int .i64 ((g e).2.1))]))⟩), (3040, ⟨false, 1, 1, (fun i_1 => [.p (.int .i64 ((g e).2.1))])⟩), (1888, ⟨false, 1, N, (fun i_1 => (if (i_1 = (g e).2.1.toNat) then [.p (.int .i64 (F1 (g e).2.1.toNat - 1))] else [.p (.int .i64 (F1 i_1))]))⟩), (1568, ⟨true, 2, 1, (fun i_1 => [.p (.int .i64 ((g e).1)), .p (.int .i64 ((g e).2.1))])⟩), (32, ⟨true, 3, 1, (fun i_1 => [.p (.seq true 1 N (fun i_2 => [.int .i64 (F i_2)])), .p (.seq true 1 m (fun i_2 => [.int .i64 (T i_2)])), .p (.seq true 1 m (fun i_2 => [.int .i64 (Q i_2)]))])⟩), (0, ⟨true, 2, 1, (fun i_1 => [.p (.int .i64 (↑N : Int)), .p (.seq true 2 nb (fun i_2 => [.int .i64 ((g i_2).1), .int .i64 ((g i_2).2.1)]))])⟩)] [1888, 3072, 3296] 1 (if (i < m) then [.p (.int .i64 (Q i))] else [.p (.int .i64 (↑e : Int))])).2 ∧ (((cvtL false [(64, ⟨true, 3, 1, (fun i_1 => [.ar 1 1888 0 N, .ar 1 3072 0 (m + 1), .ar 1 3296 0 (m + 1)])⟩), (2016, ⟨true, 3, 1, (fun i_1 => [.ar 1 1888 0 N, .ar 1 3072 0 (m + 1), .ar 1 3296 0 (m + 1)])⟩), (3296, ⟨false, 1, (m + 1), (fun i_1 => (if (i_1 < m) then [.p (.int .i64 (Q i_1))] else [.p (.int .i64 (↑e : Int))]))⟩), (3264, ⟨false, 1, 1, (fun i_1 => [.p (.int .i64 (↑e : Int))])⟩), (3072, ⟨false, 1, (m + 1), (fun i_1 => (if (i_1 < m) then [.p (.int .i64 (T1 i_1))] else [.p (.int .i64 ((g e).2.1))]))⟩), (3040, ⟨false, 1, 1, (fun i_1 => [.p (.int .i64 ((g e).2.1))])⟩), (1888, ⟨false, 1, N, (fun i_1 => (if (i_1 = (g e).2.1.toNat) then [.p (.int .i64 (F1 (g e).2.1.toNat - 1))] else [.p (.int .i64 (F1 i_1))]))⟩), (1568, ⟨true, 2, 1, (fun i_1 => [.p (.int .i64 ((g e).1)), .p (.int .i64 ((g e).2.1))])⟩), (32, ⟨true, 3, 1, (fun i_1 => [.p (.seq true 1 N (fun i_2 => [.int .i64 (F i_2)])), .p (.seq true 1 m (fun i_2 => [.int .i64 (T i_2)])), .p (.seq true 1 m (fun i_2 => [.int .i64 (Q i_2)]))])⟩), (0, ⟨true, 2, 1, (fun i_1 => [.p (.int .i64 (↑N : Int)), .p (.seq true 2 nb (fun i_2 => [.int .i64 ((g i_2).1), .int .i64 ((g i_2).2.1)]))])⟩)] [1888, 3072, 3296] 1 (if (i < m) then [.p (.int .i64 (Q i))] else [.p (.int .i64 (↑e : Int))])).1 : List AV) = [.p (.int .i64 (if i < m then Q i else (↑e : Int)))])))),
  (AE N),
  (AE ((m + 1))),
  (AE ((m + 1)))] := by kernel_rfl
theorem nUz (g : Nat → T_Bar) (nb N k l : Nat) :
    pieceOb Try.prog 0 [.reg [oT, oT, oT], .reg [oT, oT, ⟨true, (some ⟨[], [], [], 1, pebR N 0 (fun _ => k) (fun _ => 0) (fun _ => 0), .tup [pebO N 0 0, .p (.bool true)]⟩), none⟩, oT, oT, oT, oT, oT, oT], .reg [oT, oT, oT, oT, oT, ⟨true, (some ⟨[], [], [], 1, [], .p (.bool true)⟩), none⟩, oT, oT], .dec false, .reg [oT], .head] [.code (bodyOf Try.f166)] (start Try.f166 [] 0 [grG g nb N, .p (.int .i64 k), .p (.int .i64 l)]) [0, 32, 288, 160, 161, 162] 1 (SRu g nb N k l 0 (fun _ => k) (fun _ => 0) (fun _ => 0) 0) =
    some ([.code (cAt (bodyOf Try.f166) [1, 1, 1, 0, 1, 0, 0]), .inLoop (cAt (bodyOf Try.f166) [1, 1, 1, 0, 1, 0, 0]), .inBlock 0, .code (cAt (bodyOf Try.f166) [1, 1, 1, 1])], [((0 : Nat) < 1),
  Con Try.prog 137 0 [] [.agg [.p (.int .i64 (↑N : Int)), .p (.seq true 2 nb (fun i => [.int .i64 ((g i).1), .int .i64 ((g i).2.1)]))], .p (.int .i64 (↑k : Int))] [(0, ⟨false, 1, N, (fun i => [.p (.int .i64 (↑k : Int))])⟩), (1, ⟨false, 1, 0, (fun i => [.p (.int .i64 0)])⟩), (2, ⟨false, 1, 0, (fun i => [.p (.int .i64 0)])⟩)] (.tup [.agg [.ar 1 0 0 N, .ar 1 1 0 0, .ar 1 2 0 0], .p (.bool true)]),
  ((0 : Nat) < 1),
  ((true = true) → (AN 1)),
  (AG (!!true)),
  (AG (!!true)),
  (((!!true) = true) → Con Try.prog 172 0 [] [.p (.int .i64 (↑k : Int)), .p (.int .i64 (↑l : Int))] [] (.p (.bool true))),
  (AG (!!true)),
  (((!true) = false) → ((!!true) = true)),
  ((bif !true then true else !true) = false),
  (AI ((↑N : Int))),
  (AN nb),
  (AP nb (fun i => [.int .i64 ((g i).1), .int .i64 ((g i).2.1)])),
  (AI ((↑k : Int))),
  (AI ((↑l : Int))),
  (AN 0),
  (AN 0),
  (AN 0),
  ((0 : Int) = (↑0 : Int)),
  ((([AV.p (PV.int IntKind.i64 (↑N : Int)), brL g nb].length) : Nat) = 2),
  ((1 : Nat) ≤ 1),
  ((1 : Nat) ≤ 1),
  (AI ((↑N : Int))),
  (AN nb),
  (AP nb (fun i => [.int .i64 ((g i).1), .int .i64 ((g i).2.1)])),
  ((((List.map (fun v => AV.p (absV v)) [Value.slice none 0 0, Value.slice none 0 0, Value.slice none 0 0]).length) : Nat) = 3),
  ((1 : Nat) ≤ 1),
  ((1 : Nat) ≤ 1),
  ((((List.map (fun v => AV.p (absV v)) [Value.slice none 0 0, Value.slice none 0 0, Value.slice none 0 0]).length) : Nat) = 3),
  ((1 : Nat) ≤ 1),
  ((1 : Nat) ≤ 1),
  (AN 0),
  (AN N),
  (AN 0),
  (AN 0),
  (AN 0),
  (AN 0),
  (AN 1),
  ((N : Nat) ≤ N),
  (AA N (fun i => [.p (.int .i64 (↑k : Int))])),
  (AN 1),
  ((0 : Nat) ≤ 0),
  (AA 0 (fun i => [.p (.int .i64 0)])),
  (AN 1),
  ((0 : Nat) ≤ 0),
  (AA 0 (fun i => [.p (.int .i64 0)]))]) := by kernel_rfl
theorem nUl (g : Nat → T_Bar) (nb N k l m m' : Nat) (F T Q F' T' Q' : Nat → Int) (i : Nat) (r : Bool) :
    pieceOb Try.prog 0 [.reg [oT, oT, oT, oT, oT], .dec true, .reg [oT, oT, oT, oT, oT, ⟨true, (some ⟨[], [], [], 1, pebR N m' F' T' Q', .tup [pebO N m' 0, .p (.bool r)]⟩), none⟩, oT, oT, oT, oT], .reg [oT, oT, oT], .head] [.code (cAt (bodyOf Try.f166) [1, 1, 1, 0, 1, 0, 0]), .inLoop (cAt (bodyOf Try.f166) [1, 1, 1, 0, 1, 0, 0]), .inBlock 0, .code (cAt (bodyOf Try.f166) [1, 1, 1, 1])] (SRu g nb N k l m F T Q i) [0, 1, 2, 326, 327, 328] 1 (SRu g nb N k l m' F' T' Q' (i + 1)) =
    some ([.code (cAt (bodyOf Try.f166) [1, 1, 1, 0, 1, 0, 0]), .inLoop (cAt (bodyOf Try.f166) [1, 1, 1, 0, 1, 0, 0]), .inBlock 0, .code (cAt (bodyOf Try.f166) [1, 1, 1, 1])], [((0 : Nat) < 1),
  ((decide ((↑i : Int) < (↑nb : Int))) = true),
  ((0 : Nat) < 1),
  ((0 : Nat) < 1),
  (AN 1),
  ((N : Nat) ≤ N),
  (AN 1),
  ((m : Nat) ≤ m),
  (AN 1),
  ((m : Nat) ≤ m),
  Con Try.prog 173 0 [] [.agg [.p (.int .i64 (↑N : Int)), .p (.seq true 2 nb (fun i_1 => [.int .i64 ((g i_1).1), .int .i64 ((g i_1).2.1)]))], .p (.int .i64 (↑k : Int)), .p (.int .i64 (↑l : Int)), .agg [.p (.seq true 1 N (fun i_1 => [.int .i64 (F i_1)])), .p (.seq true 1 m (fun i_1 => [.int .i64 (T i_1)])), .p (.seq true 1 m (fun i_1 => [.int .i64 (Q i_1)]))], .p (.int .i64 (↑i : Int))] [(0, ⟨false, 1, N, (fun i_1 => [.p (.int .i64 (F' i_1))])⟩), (1, ⟨false, 1, m', (fun i_1 => [.p (.int .i64 (T' i_1))])⟩), (2, ⟨false, 1, m', (fun i_1 => [.p (.int .i64 (Q' i_1))])⟩)] (.tup [.agg [.ar 1 0 0 N, .ar 1 1 0 m', .ar 1 2 0 m'], .p (.bool r)]),
  ((0 : Nat) < 1),
  ((true = true) → (AN 1)),
  (((-9223372036854775808) : Int) ≤ ((↑i : Int) + 1)),
  ((((↑i : Int) + 1) : Int) ≤ 9223372036854775807),
  (AI ((↑N : Int))),
  (AN nb),
  (AP nb (fun i_1 => [.int .i64 ((g i_1).1), .int .i64 ((g i_1).2.1)])),
  (AI ((↑k : Int))),
  (AI ((↑l : Int))),
  (AN 0),
  (AN 0),
  (AN 0),
  ((((↑i : Int) + 1) : Int) = (↑(i + 1) : Int)),
  (AN 2),
  ((1 : Nat) ≤ 1),
  ((1 : Nat) ≤ 1),
  (AI ((↑N : Int))),
  (AN nb),
  (AP nb (fun i_1 => [.int .i64 ((g i_1).1), .int .i64 ((g i_1).2.1)])),
  (AN 3),
  ((1 : Nat) ≤ 1),
  ((1 : Nat) ≤ 1),
  (AN 3),
  ((1 : Nat) ≤ 1),
  ((1 : Nat) ≤ 1),
  (AN 0),
  (AN N),
  (AN 0),
  (AN (m')),
  (AN 0),
  (AN (m')),
  (AN 1),
  ((N : Nat) ≤ N),
  (AA N (fun i_1 => [.p (.int .i64 (F' i_1))])),
  (AN 1),
  ((m' : Nat) ≤ m'),
  (AA (m') (fun i_1 => [.p (.int .i64 (T' i_1))])),
  (AN 1),
  ((m' : Nat) ≤ m'),
  (AA (m') (fun i_1 => [.p (.int .i64 (Q' i_1))]))]) := by kernel_rfl
theorem nUe (g : Nat → T_Bar) (nb N k l m : Nat) (F T Q : Nat → Int) (i : Nat) :
    pathOb Try.prog Try.f166 0 [.reg [oT, oT, oT, oT, oT], .dec false, .reg [oT, oT, oT]] [.code (cAt (bodyOf Try.f166) [1, 1, 1, 0, 1, 0, 0]), .inLoop (cAt (bodyOf Try.f166) [1, 1, 1, 0, 1, 0, 0]), .inBlock 0, .code (cAt (bodyOf Try.f166) [1, 1, 1, 1])] (SRu g nb N k l m F T Q i) [3, 4, 5] 1 (pebR N m F T Q) (.tup [pebO N m 0, .p (.bool true)]) =
    some [((0 : Nat) < 1),
  ((decide ((↑i : Int) < (↑nb : Int))) = false),
  ((0 : Nat) < 1),
  ((0 : Nat) < 1),
  ((true = true) → (AN 1)),
  ((0 : Nat) < 1),
  (AN 0),
  (AN N),
  (AN 0),
  (AN m),
  (AN 0),
  (AN m),
  (true = true),
  (AN 1),
  ((N : Nat) ≤ N),
  (AA N (fun i_1 => [.p (.int .i64 (F i_1))])),
  (AN 1),
  ((m : Nat) ≤ m),
  (AA m (fun i_1 => [.p (.int .i64 (T i_1))])),
  (AN 1),
  ((m : Nat) ≤ m),
  (AA m (fun i_1 => [.p (.int .i64 (Q i_1))])),
  (AE N),
  (AE m),
  (AE m)] := by kernel_rfl
end Go.Proofs.Ytgdbnnmogddkaaa.Mach
namespace Go.Proofs.Ytgdbnnmogddkaaa.Mach
open Go
set_option linter.unusedVariables false
set_option linter.unusedSimpArgs false
theorem con_IsRange_i (k l : Nat) (hk : 1 ≤ k ∧ k ≤ 3) (hl : l + 1 ≤ 2 * k) : Con Try.prog 167 0 [] [.p (.int .i64 k), .p (.int .i64 l)] [] (.p (.bool true)) := by
  have h1 := con_within k 1 3
  rw [show inB k 1 3 = true by simp [inB]; omega] at h1
  have h2 := con_within l 0 (2 * (k : Int) - 1)
  rw [show inB l 0 (2 * (k : Int) - 1) = true by simp [inB]; omega] at h2
  refine con_start Try.func167 rfl (by kernel_rfl) rfl (fun c hc => ?_)
  refine path_ok mixed Try.func167 hc (nRi k l) ?_
  simp only [All]
  repeat' (first | exact trivial | with_reducible apply And.intro)
  all_goals (first | exact aG _ | exact aP _ _ | exact aA _ _ | exact aE _ | omega | rfl | (intros; first | assumption | exact True.intro | rfl | exact absurd (show false = true by assumption) Bool.false_ne_true | ((repeat' (first | assumption | apply anda | apply notf)); done)) | (exact h1) | (intros; exact h2) | (intros; omega) | (simp; done))
theorem con_IsRange_s (k l : Nat) (hk : 1 ≤ k ∧ k ≤ 3) (hl : l + 1 ≤ 2 * k) : Con Try.prog 172 0 [] [.p (.int .i64 k), .p (.int .i64 l)] [] (.p (.bool true)) := by
  have h1 := con_l1In k 1 3
  rw [show inB k 1 3 = true by simp [inB]; omega] at h1
  refine con_start Try.func172 rfl (by kernel_rfl) rfl (fun c hc => ?_)
  refine path_ok mixed Try.func172 hc (nRs k l) ?_
  simp only [All]
  repeat' (first | exact trivial | with_reducible apply And.intro)
  all_goals (first | exact aG _ | exact aP _ _ | exact aA _ _ | exact aE _ | omega | rfl | (intros; first | assumption | exact True.intro | rfl | exact absurd (show false = true by assumption) Bool.false_ne_true | ((repeat' (first | assumption | apply anda | apply notf)); done)) | (exact h1) | (intros; omega) | (simp; omega))
def NonN (Q : Nat → Int) (m : Nat) : Prop := ∀ j, j < m → 0 ≤ Q j
theorem con_RunPebbles_i {N nb : Nat} {g : Nat → T_Bar} (hg : isGraphF ((N : Int), (nb, g), ()) = true) (k l : Nat) (hk : 1 ≤ k ∧ k ≤ 3) (hl : l + 1 ≤ 2 * k) :
    ∃ m F T Q, Con Try.prog 155 0 [] [grG g nb N, .p (.int .i64 k), .p (.int .i64 l)] (pebR N m F T Q) (.tup [pebO N m 0, .p (.bool true)]) ∧ m ≤ 24 ∧ NonN Q m ∧ qL Q m = accI N k l g nb := by
  obtain ⟨hN, hnb, hok⟩ := graph_in hg
  have hsm : smS s_Graph ((N : Int), (nb, g), ()) := ⟨by simp [smS, smL], ⟨by show nb ≤ 1048576; omega, fun i hi => by simp [smS, smL]⟩, True.intro⟩
  have hcg := con_IsGraph_i ((N : Int), (nb, g), ()) hsm
  rw [hg] at hcg
  have hr := con_IsRange_i k l hk hl
  obtain ⟨m, F, T, Q, hc1, hp, hq⟩ := con_play (N := N) (k := k) (l := l) hok (by omega) (by omega) (by omega) (by omega)
  have hm : m ≤ 24 := by
    have := accI_len N k l g nb
    rw [← hq, qL_length] at this; omega
  refine ⟨m, F, T, Q, ?_, hm, fun j hj => (hp.q j hj).1, hq⟩
  refine con_start Try.func155 rfl (by kernel_rfl) rfl (fun c hc => ?_)
  refine path_ok mixed Try.func155 hc (nUi g nb N k l m F T Q) ?_
  simp only [All]
  repeat' (first | exact trivial | with_reducible apply And.intro)
  all_goals (first | exact aG _ | exact aP _ _ | exact aA _ _ | exact aE _ | omega | rfl | (intros; first | assumption | exact True.intro | rfl | exact absurd (show false = true by assumption) Bool.false_ne_true | ((repeat' (first | assumption | apply anda | apply notf)); done)) | (exact hcg) | (intros; exact hr) | (exact hc1) | (simp; done) | (intro i hi; simp [All, aEt]))
theorem con_RankOf_i {N nb : Nat} {g : Nat → T_Bar} (hg : isGraphF ((N : Int), (nb, g), ()) = true) (k l : Nat) (hk : 1 ≤ k ∧ k ≤ 3) (hl : l + 1 ≤ 2 * k) :
    Con Try.prog 136 0 [] [grG g nb N, .p (.int .i64 k), .p (.int .i64 l)] [] (.p (.int .i64 ((accI N k l g nb).length : Nat))) := by
  obtain ⟨m, F, T, Q, hrun, hm, hn, hq⟩ := con_RunPebbles_i hg k l hk hl
  rw [← hq, qL_length]
  refine con_start Try.func136 rfl (by kernel_rfl) rfl (fun c hc => ?_)
  refine path_ok mixed Try.func136 hc (nKi g nb N k l m F T Q) ?_
  simp only [All]
  repeat' (first | exact trivial | with_reducible apply And.intro)
  all_goals (first | exact aG _ | exact aP _ _ | exact aA _ _ | exact aE _ | omega | rfl | (intros; first | assumption | exact True.intro | rfl | exact absurd (show false = true by assumption) Bool.false_ne_true | ((repeat' (first | assumption | apply anda | apply notf)); done)) | (exact hrun) | (simp; done) | (intro i hi; simp [All, aEt]))
theorem con_l4Tail (N m : Nat) (F T Q : Nat → Int) (x : Int) (hm : m ≤ 1048576) : Con Try.prog 177 0 [] [pebD N m F T Q, .p (.int .i64 x)] [] (.p (.int .i64 (tcI T m x))) := by
  have hle : ∀ i, 0 ≤ tcI T i x ∧ tcI T i x ≤ i := by
    intro i
    induction i with
    | zero => simp [tcI]
    | succ i ih => simp only [tcI]; split <;> omega
  refine con_start Try.func177 rfl (by kernel_rfl) rfl (fun c hc => ?_)
  have lp : ∀ d i, i + d = m → Run Try.prog c 177 [.code (cAt (bodyOf Try.f177) [1, 1, 0, 1, 0, 0]), .inLoop (cAt (bodyOf Try.f177) [1, 1, 0, 1, 0, 0]), .inBlock 0, .code (cAt (bodyOf Try.f177) [1, 1, 1])] (ST0 N m F T Q x i) (Post c [] (.p (.int .i64 (tcI T m x)))) := by
    intro d
    induction d with
    | zero =>
      intro i hi
      have hi' : i = m := by omega
      have hd : decide ((i : Int) < (m : Int)) = false := by simp; omega
      rw [show tcI T m x = tcI T i x by rw [hi']]
      refine path_ok mixed Try.func177 hc (nTe N m F T Q x i) ?_
      simp only [All]
      repeat' (first | exact trivial | with_reducible apply And.intro)
      all_goals (first | exact aG _ | exact aP _ _ | exact aA _ _ | exact aE _ | omega | rfl | (intros; first | assumption | exact True.intro | rfl | exact absurd (show false = true by assumption) Bool.false_ne_true | ((repeat' (first | assumption | apply anda | apply notf)); done)) | (exact hd) | (simp; done))
    | succ d ih =>
      intro i hi
      have hd : decide ((i : Int) < (m : Int)) = true := by simp; omega
      have hl := hle i
      by_cases h : T i = x
      · have hb : (T i == x) = true := by simp [h]
        refine piece_ok mixed hc (nTt N m F T Q x i) ?_ (ih (i + 1) (by omega))
        simp only [All]
        repeat' (first | exact trivial | with_reducible apply And.intro)
        all_goals (first | exact aG _ | exact aP _ _ | exact aA _ _ | exact aE _ | omega | rfl | (intros; first | assumption | exact True.intro | rfl | exact absurd (show false = true by assumption) Bool.false_ne_true | ((repeat' (first | assumption | apply anda | apply notf)); done)) | (exact hb) | (simp only [tcI, h, if_true]; done) | (simp only [tcI, h, if_true]; omega) | (intro j hj; simp [All, aEt]))
      · have hb : (T i == x) = false := by simp [h]
        refine piece_ok mixed hc (nTf N m F T Q x i) ?_ (ih (i + 1) (by omega))
        simp only [All]
        repeat' (first | exact trivial | with_reducible apply And.intro)
        all_goals (first | exact aG _ | exact aP _ _ | exact aA _ _ | exact aE _ | omega | rfl | (intros; first | assumption | exact True.intro | rfl | exact absurd (show false = true by assumption) Bool.false_ne_true | ((repeat' (first | assumption | apply anda | apply notf)); done)) | (exact hb) | (simp only [tcI, h, if_false]; omega) | (intro j hj; simp [All, aEt]))
  refine piece_ok mixed hc (nTz N m F T Q x) ?_ (lp m 0 (by omega))
  simp only [All]
  repeat' (first | exact trivial | with_reducible apply And.intro)
  all_goals (first | exact aG _ | exact aP _ _ | exact aA _ _ | exact aE _ | omega | rfl | (intros; first | assumption | exact True.intro | rfl | exact absurd (show false = true by assumption) Bool.false_ne_true | ((repeat' (first | assumption | apply anda | apply notf)); done)) | (intro j hj; simp [All, aEt]))
def Asc (Q : Nat → Int) (m : Nat) : Prop := ∀ j, j + 1 < m → Q j < Q (j + 1)
theorem badI_f {N k nb m : Nat} {g : Nat → T_Bar} {F T Q : Nat → Int} (hp : PInv N k nb m g F T Q) (ha : Asc Q m) (i : Nat) (hi : i < m) : badI g nb T Q i = false := by
  have h1 := hp.q i hi
  have h2 := hp.t i hi
  have a1 : decide (Q i < 0) = false := by simp; omega
  have a2 : decide (Q i ≥ (nb : Int)) = false := by simp; omega
  have a3 : (bif decide ((i : Int) > 0) then decide (Q ((i : Int) - 1).toNat ≥ Q i) else false) = false := by
    by_cases h : i = 0
    · subst h; rfl
    · have := ha (i - 1) (by omega)
      have e : ((i : Int) - 1).toNat = i - 1 := by omega
      rw [show i - 1 + 1 = i by omega] at this
      rw [e]
      have h4 : decide (Q (i - 1) ≥ Q i) = false := by simp; omega
      rw [h4]
      cases decide ((i : Int) > 0) <;> rfl
  have a4 : (bif T i != (g (Q i).toNat).1 then T i != (g (Q i).toNat).2.1 else false) = false := by
    rcases h2 with e | e
    · rw [show (T i != (g (Q i).toNat).1) = false by simp [e]]; rfl
    · rw [show (T i != (g (Q i).toNat).2.1) = false by simp [e]]
      cases (T i != (g (Q i).toNat).1) <;> rfl
  unfold badI
  rw [a1, a2, a3, a4]
  rfl
theorem con_IsPebbles {N k nb m : Nat} {g : Nat → T_Bar} {F T Q : Nat → Int} (hp : PInv N k nb m g F T Q) (ha : Asc Q m) (hg : isGraphF ((N : Int), (nb, g), ()) = true) (hk : 1 ≤ k ∧ k ≤ 3) (hm : m ≤ 1048576) :
    Con Try.prog 175 0 [] [grG g nb N, .p (.int .i64 k), pebD N m F T Q] [] (.p (.bool true)) := by
  obtain ⟨hN, hnb, hok⟩ := graph_in hg
  have hsm : smS s_Graph ((N : Int), (nb, g), ()) := ⟨by simp [smS, smL], ⟨by show nb ≤ 1048576; omega, fun i hi => by simp [smS, smL]⟩, True.intro⟩
  have hcg := con_IsGraph_s ((N : Int), (nb, g), ()) hsm
  rw [hg] at hcg
  have h1 := con_l1In k 1 3
  rw [show inB k 1 3 = true by simp [inB]; omega] at h1
  refine con_start Try.func175 rfl (by kernel_rfl) rfl (fun c hc => ?_)
  have lp1 : ∀ d i, i + d = N → Run Try.prog c 175 [.code (cAt (bodyOf Try.f175) [1, 1, 1, 0, 1, 0, 0]), .inLoop (cAt (bodyOf Try.f175) [1, 1, 1, 0, 1, 0, 0]), .inBlock 2, .code (cAt (bodyOf Try.f175) [1, 1, 1, 1])] (SI1 g nb N k m F T Q i) (Post c [] (.p (.bool true))) := by
    intro d
    induction d with
    | zero =>
      intro i hi
      have hd : decide ((i : Int) < (N : Int)) = false := by simp; omega
      refine path_ok mixed Try.func175 hc (nJe g nb N k m F T Q i) ?_
      simp only [All]
      repeat' (first | exact trivial | with_reducible apply And.intro)
      all_goals (first | exact aG _ | exact aP _ _ | exact aA _ _ | exact aE _ | omega | rfl | (intros; first | assumption | exact True.intro | rfl | exact absurd (show false = true by assumption) Bool.false_ne_true | ((repeat' (first | assumption | apply anda | apply notf)); done)) | (exact hd) | (simp; done))
    | succ d ih =>
      intro i hi
      have hd : decide ((i : Int) < (N : Int)) = true := by simp; omega
      have ht := con_l4Tail N m F T Q i hm
      have hf0 := hp.f0 i (by omega)
      have hsum := hp.sum i (by omega)
      have htn := tcI_nonneg T i m
      have hb : (bif decide (F i < 0) then true else F i + tcI T m i != (k : Int)) = false := by
        have h4 : decide (F i < 0) = false := by simp; omega
        rw [h4]
        simp [hsum]
      refine piece_ok mixed hc (nI1 g nb N k m F T Q i) ?_ (ih (i + 1) (by omega))
      simp only [All]
      repeat' (first | exact trivial | with_reducible apply And.intro)
      all_goals (first | exact aG _ | exact aP _ _ | exact aA _ _ | exact aE _ | omega | rfl | (intros; first | assumption | exact True.intro | rfl | exact absurd (show false = true by assumption) Bool.false_ne_true | ((repeat' (first | assumption | apply anda | apply notf)); done)) | (intros; exact ht) | (exact hb) | (intros; omega) | (intro j hj; simp [All, aEt]))
  have lp0 : ∀ d i, i + d = m → Run Try.prog c 175 [.code (cAt (bodyOf Try.f175) [1, 1, 0, 1, 0, 0]), .inLoop (cAt (bodyOf Try.f175) [1, 1, 0, 1, 0, 0]), .inBlock 0, .code (cAt (bodyOf Try.f175) [1, 1, 1])] (SI0 g nb N k m F T Q i) (Post c [] (.p (.bool true))) := by
    intro d
    induction d with
    | zero =>
      intro i hi
      have hd : decide ((i : Int) < (m : Int)) = false := by simp; omega
      refine piece_ok mixed hc (nI01 g nb N k m F T Q i) ?_ (lp1 N 0 (by omega))
      simp only [All]
      repeat' (first | exact trivial | with_reducible apply And.intro)
      all_goals (first | exact aG _ | exact aP _ _ | exact aA _ _ | exact aE _ | omega | rfl | (intros; first | assumption | exact True.intro | rfl | exact absurd (show false = true by assumption) Bool.false_ne_true | ((repeat' (first | assumption | apply anda | apply notf)); done)) | (exact hd) | (intro j hj; simp [All, aEt]))
    | succ d ih =>
      intro i hi
      have him : i < m := by omega
      have hd : decide ((i : Int) < (m : Int)) = true := by simp; omega
      have hbad := badI_f hp ha i him
      have hq := hp.q i him
      refine piece_ok mixed hc (nI0 g nb N k m F T Q i) ?_ (ih (i + 1) (by omega))
      simp only [All]
      repeat' (first | exact trivial | with_reducible apply And.intro)
      all_goals (first | exact aG _ | exact aP _ _ | exact aA _ _ | exact aE _ | omega | rfl | (intros; first | assumption | exact True.intro | rfl | exact absurd (show false = true by assumption) Bool.false_ne_true | ((repeat' (first | assumption | apply anda | apply notf)); done)) | (exact hbad) | (intros; omega) | (intro h; have := idx_lt h him; omega) | (intro h; show (0 : Int) ≤ Q i ∧ Q i < nb; omega) | (intro j hj; simp [All, aEt]))
  refine piece_ok mixed hc (nJz g nb N k m F T Q) ?_ (lp0 m 0 (by omega))
  simp only [All]
  repeat' (first | exact trivial | with_reducible apply And.intro)
  all_goals (first | exact aG _ | exact aP _ _ | exact aA _ _ | exact aE _ | omega | rfl | (intros; first | assumption | exact True.intro | rfl | exact absurd (show false = true by assumption) Bool.false_ne_true | ((repeat' (first | assumption | apply anda | apply notf)); done)) | (exact hcg) | (intros; exact h1) | (simp; done) | (intro j hj; simp [All, aEt]))
theorem con_PlaceBar {N k nb m l e : Nat} {g : Nat → T_Bar} {F T Q : Nat → Int} (hp : PInv N k nb m g F T Q) (ha : Asc Q m) (hlt : ∀ j, j < m → Q j < e) (hg : isGraphF ((N : Int), (nb, g), ()) = true) (hk : 1 ≤ k ∧ k ≤ 3) (hl : l + 1 ≤ 2 * k) (hm : m ≤ 1000) (he : e < nb)
    (hsp : Mat.Sparse N k l (plL g Q m)) :
    (∃ F' T', Con Try.prog 173 0 [] [grG g nb N, .p (.int .i64 k), .p (.int .i64 l), pebD N m F T Q, .p (.int .i64 (e : Nat))] (pebR N (m + 1) F' T' (fun s => if s < m then Q s else e)) (.tup [pebO N (m + 1) 0, .p (.bool true)]) ∧
      PInv N k nb (m + 1) g F' T' (fun s => if s < m then Q s else e) ∧ Mat.Sparse N k l (plL g Q m ++ [brN (g e)])) ∨
    (Con Try.prog 173 0 [] [grG g nb N, .p (.int .i64 k), .p (.int .i64 l), pebD N m F T Q, .p (.int .i64 (e : Nat))] (pebR N m F T Q) (.tup [pebO N m 0, .p (.bool false)]) ∧ ¬ Mat.Sparse N k l (plL g Q m ++ [brN (g e)])) := by
  obtain ⟨hN, hnb, hok⟩ := graph_in hg
  have hbar := hok e he
  have hip := con_IsPebbles hp ha hg hk (by omega)
  have hir := con_IsRange_s k l hk hl
  have hcc := con_l4Copy N m F T Q (by omega) (by omega)
  have hb : (bif bif bif bif !true then true else !true then true else decide ((e : Int) < 0) then true else decide ((e : Int) ≥ (nb : Int)) then true else bif decide ((m : Int) > 0) then decide (Q ((m : Int) - 1).toNat ≥ (e : Int)) else false) = false := by
    have b1 : decide ((e : Int) < 0) = false := decide_eq_false (by omega)
    have b2 : decide ((e : Int) ≥ (nb : Int)) = false := by simp; omega
    have b3 : (bif decide ((m : Int) > 0) then decide (Q ((m : Int) - 1).toNat ≥ (e : Int)) else false) = false := by
      by_cases h : m = 0
      · subst h; rfl
      · have := hlt ((m : Int) - 1).toNat (by omega)
        have h4 : decide (Q ((m : Int) - 1).toNat ≥ (e : Int)) = false := decide_eq_false (by omega)
        rw [h4]
        cases decide ((m : Int) > 0) <;> rfl
    rw [b1, b2, b3]; rfl
  obtain ⟨F1, T1, r, hc1, h1, h2, h3⟩ := con_l4Gather (l := l) (a := (g e).1) (b := (g e).2.1) hp (by omega) (by omega) (by omega) (by omega) (by omega) (by omega) (by omega)
  have hlA := h1.le (v := (g e).1.toNat) (by omega)
  have hlB := h1.le (v := (g e).2.1.toNat) (by omega)
  cases r with
  | false =>
    right
    refine ⟨?_, h3 rfl⟩
    refine con_start Try.func173 rfl (by kernel_rfl) rfl (fun c hc => ?_)
    refine path_ok mixed Try.func173 hc (nPf g nb N k l m e F T Q F1 T1) ?_
    simp only [All]
    repeat' (first | exact trivial | with_reducible apply And.intro)
    all_goals (first | exact aG _ | exact aP _ _ | exact aA _ _ | exact aE _ | omega | rfl | (intros; first | assumption | exact True.intro | rfl | exact absurd (show false = true by assumption) Bool.false_ne_true | ((repeat' (first | assumption | apply anda | apply notf)); done)) | (exact hip) | (intros; exact hir) | (exact hb) | (exact hc1) | (exact hcc) | (simp; done) | (intro h; have := idx_lt h (Nat.lt_succ_self m); omega) | (intro i hi; simp [All, aEt]))
  | true =>
    left
    have hw := h2 rfl
    have hacc : Mat.Sparse N k l (plL g Q m ++ [brN (g e)]) := by
      have := (h1.game l).accept (by rw [barsOf_gm]; exact hsp) (g e).1.toNat (g e).2.1.toNat ⟨by show (g e).1.toNat ≠ (g e).2.1.toNat; omega, by show (g e).1.toNat < N; omega, by show (g e).2.1.toNat < N; omega⟩
        (by show l + 1 ≤ (F1 (g e).1.toNat).toNat + (F1 (g e).2.1.toNat).toNat; omega)
      rw [barsOf_gm] at this
      exact this
    by_cases hz : F1 (g e).1.toNat = 0
    · have hzb : (F1 (g e).1.toNat == 0) = true := by simp [hz]
      refine ⟨_, _, ?_, h1.placed e he (g e).2.1 (.inr rfl) (by omega), hacc⟩
      refine con_start Try.func173 rfl (by kernel_rfl) rfl (fun c hc => ?_)
      refine path_ok mixed Try.func173 hc (nPb g nb N k l m e F T Q F1 T1) ?_
      simp only [All]
      repeat' (first | exact trivial | with_reducible apply And.intro)
      all_goals (first | exact aG _ | exact aP _ _ | exact aA _ _ | exact aE _ | omega | rfl | (intros; first | assumption | exact True.intro | rfl | exact absurd (show false = true by assumption) Bool.false_ne_true | ((repeat' (first | assumption | apply anda | apply notf)); done)) | (exact hip) | (intros; exact hir) | (exact hb) | (exact hc1) | (exact hzb) | (simp; done) | (intro h; have := idx_lt h (Nat.lt_succ_self m); omega) | (intro i hi; simp [All, aEt]; done) | (intro i hi; by_cases h : i < m <;> simp [h, cvtL, cvt, tg, tru, All]; done) | (intro i hi; by_cases h : i = (g e).2.1.toNat <;> simp [h, cvtL, cvt, tg, tru, All]))
    · have hzb : (F1 (g e).1.toNat == 0) = false := by simp [hz]
      refine ⟨_, _, ?_, h1.placed e he (g e).1 (.inl rfl) (by omega), hacc⟩
      refine con_start Try.func173 rfl (by kernel_rfl) rfl (fun c hc => ?_)
      refine path_ok mixed Try.func173 hc (nPa g nb N k l m e F T Q F1 T1) ?_
      simp only [All]
      repeat' (first | exact trivial | with_reducible apply And.intro)
      all_goals (first | exact aG _ | exact aP _ _ | exact aA _ _ | exact aE _ | omega | rfl | (intros; first | assumption | exact True.intro | rfl | exact absurd (show false = true by assumption) Bool.false_ne_true | ((repeat' (first | assumption | apply anda | apply notf)); done)) | (exact hip) | (intros; exact hir) | (exact hb) | (exact hc1) | (exact hzb) | (simp; done) | (intro h; have := idx_lt h (Nat.lt_succ_self m); omega) | (intro i hi; simp [All, aEt]; done) | (intro i hi; by_cases h : i < m <;> simp [h, cvtL, cvt, tg, tru, All]; done) | (intro i hi; by_cases h : i = (g e).1.toNat <;> simp [h, cvtL, cvt, tg, tru, All]))
theorem con_RunPebbles_s {N nb : Nat} {g : Nat → T_Bar} (hg : isGraphF ((N : Int), (nb, g), ()) = true) (k l : Nat) (hk : 1 ≤ k ∧ k ≤ 3) (hl : l + 1 ≤ 2 * k) :
    ∃ m F T Q, Con Try.prog 166 0 [] [grG g nb N, .p (.int .i64 k), .p (.int .i64 l)] (pebR N m F T Q) (.tup [pebO N m 0, .p (.bool true)]) ∧ m ≤ 24 ∧ NonN Q m ∧ qL Q m = accI N k l g nb := by
  obtain ⟨hN, hnb, hok⟩ := graph_in hg
  have hr := con_IsRange_s k l hk hl
  have hn := con_NewPebbles (nb := nb) (g := g) (N := N) (k := k) (by omega) hk hg (by omega)
  have lp : ∀ d i m F T Q, i + d = nb → PInv N k nb m g F T Q → Asc Q m → (∀ j, j < m → Q j < (i : Nat)) → qL Q m = accI N k l g i →
      ∃ m' F' T' Q', (∀ c, c.n = 0 → Run Try.prog c 166 [.code (cAt (bodyOf Try.f166) [1, 1, 1, 0, 1, 0, 0]), .inLoop (cAt (bodyOf Try.f166) [1, 1, 1, 0, 1, 0, 0]), .inBlock 0, .code (cAt (bodyOf Try.f166) [1, 1, 1, 1])] (SRu g nb N k l m F T Q i) (Post c (pebR N m' F' T' Q') (.tup [pebO N m' 0, .p (.bool true)]))) ∧ NonN Q' m' ∧ qL Q' m' = accI N k l g nb := by
    intro d
    induction d with
    | zero =>
      intro i m F T Q hi hp ha hlt hq
      have hi' : i = nb := by omega
      refine ⟨m, F, T, Q, fun c hc => ?_, fun j hj => (hp.q j hj).1, by rw [hq, hi']⟩
      have hd : decide ((i : Int) < (nb : Int)) = false := by simp; omega
      refine path_ok mixed Try.func166 hc (nUe g nb N k l m F T Q i) ?_
      simp only [All]
      repeat' (first | exact trivial | with_reducible apply And.intro)
      all_goals (first | exact aG _ | exact aP _ _ | exact aA _ _ | exact aE _ | omega | rfl | (intros; first | assumption | exact True.intro | rfl | exact absurd (show false = true by assumption) Bool.false_ne_true | ((repeat' (first | assumption | apply anda | apply notf)); done)) | (exact hd) | (intro j hj; simp [All, aEt]))
    | succ d ih =>
      intro i m F T Q hi hp ha hlt hq
      have hd : decide ((i : Int) < (nb : Int)) = true := by simp; omega
      have hm : m ≤ 24 := by
        have := accI_len N k l g i
        rw [← hq, qL_length] at this; omega
      have hsp : Mat.Sparse N k l (plL g Q m) := by rw [plL_qL, hq]; exact accI_sparse N k l g i
      rcases con_PlaceBar (e := i) hp ha hlt hg hk hl (by omega) (by omega) hsp with ⟨F1, T1, hc1, hp1, hs1⟩ | ⟨hc1, hs1⟩
      · obtain ⟨m', F', T', Q', hrun, h2⟩ := ih (i + 1) (m + 1) F1 T1 _ (by omega) hp1 (fun j hj => by
          show (if j < m then Q j else (i : Int)) < (if j + 1 < m then Q (j + 1) else (i : Int))
          rw [if_pos (show j < m by omega)]
          by_cases h : j + 1 < m
          · rw [if_pos h]; exact ha j h
          · rw [if_neg h]; exact hlt j (by omega)) (fun j hj => by
          show (if j < m then Q j else (i : Int)) < ((i + 1 : Nat) : Int)
          by_cases h : j < m
          · rw [if_pos h]; have := hlt j h; omega
          · rw [if_neg h]; omega) (by
          simp only [accI]
          rw [← hq, ← plL_qL, if_pos hs1]
          simp only [qL, Nat.lt_irrefl, if_false, Int.toNat_natCast]
          rw [qL_congr (Q' := Q) m (fun j hj => by simp only [hj, if_true])])
        refine ⟨m', F', T', Q', fun c hc => ?_, h2⟩
        refine piece_ok mixed hc (nUl g nb N k l m (m + 1) F T Q F1 T1 (fun s => if s < m then Q s else i) i true) ?_ (hrun c hc)
        simp only [All]
        repeat' (first | exact trivial | with_reducible apply And.intro)
        all_goals (first | exact aG _ | exact aP _ _ | exact aA _ _ | exact aE _ | omega | rfl | (intros; first | assumption | exact True.intro | rfl | exact absurd (show false = true by assumption) Bool.false_ne_true | ((repeat' (first | assumption | apply anda | apply notf)); done)) | (exact hd) | (exact hc1) | (intro j hj; simp [All, aEt]))
      · obtain ⟨m', F', T', Q', hrun, h2⟩ := ih (i + 1) m F T Q (by omega) hp ha (fun j hj => by have := hlt j hj; omega) (by
          simp only [accI]
          rw [← hq, ← plL_qL, if_neg hs1])
        refine ⟨m', F', T', Q', fun c hc => ?_, h2⟩
        refine piece_ok mixed hc (nUl g nb N k l m m F T Q F T Q i false) ?_ (hrun c hc)
        simp only [All]
        repeat' (first | exact trivial | with_reducible apply And.intro)
        all_goals (first | exact aG _ | exact aP _ _ | exact aA _ _ | exact aE _ | omega | rfl | (intros; first | assumption | exact True.intro | rfl | exact absurd (show false = true by assumption) Bool.false_ne_true | ((repeat' (first | assumption | apply anda | apply notf)); done)) | (exact hd) | (exact hc1) | (intro j hj; simp [All, aEt]))
  obtain ⟨m, F, T, Q, hrun, hnn, hq⟩ := lp nb 0 0 _ _ _ (by omega) (PInv.start hok) (fun j hj => by omega) (fun j hj => absurd hj (Nat.not_lt_zero _)) rfl
  have hm : m ≤ 24 := by
    have := accI_len N k l g nb
    rw [← hq, qL_length] at this; omega
  refine ⟨m, F, T, Q, ?_, hm, hnn, hq⟩
  refine con_start Try.func166 rfl (by kernel_rfl) rfl (fun c hc => ?_)
  refine piece_ok mixed hc (nUz g nb N k l) ?_ (hrun c hc)
  simp only [All]
  repeat' (first | exact trivial | with_reducible apply And.intro)
  all_goals (first | exact aG _ | exact aP _ _ | exact aA _ _ | exact aE _ | omega | rfl | (intros; first | assumption | exact True.intro | rfl | exact absurd (show false = true by assumption) Bool.false_ne_true | ((repeat' (first | assumption | apply anda | apply notf)); done)) | (exact hn) | (intros; exact hr) | (simp; done) | (intro j hj; simp [All, aEt]))
theorem con_RankOf_s {N nb : Nat} {g : Nat → T_Bar} (hg : isGraphF ((N : Int), (nb, g), ()) = true) (k l : Nat) (hk : 1 ≤ k ∧ k ≤ 3) (hl : l + 1 ≤ 2 * k) :
    Con Try.prog 153 0 [] [grG g nb N, .p (.int .i64 k), .p (.int .i64 l)] [] (.p (.int .i64 ((accI N k l g nb).length : Nat))) := by
  obtain ⟨m, F, T, Q, hrun, hm, hn, hq⟩ := con_RunPebbles_s hg k l hk hl
  rw [← hq, qL_length]
  refine con_start Try.func153 rfl (by kernel_rfl) rfl (fun c hc => ?_)
  refine path_ok mixed Try.func153 hc (nKs g nb N k l m F T Q) ?_
  simp only [All]
  repeat' (first | exact trivial | with_reducible apply And.intro)
  all_goals (first | exact aG _ | exact aP _ _ | exact aA _ _ | exact aE _ | omega | rfl | (intros; first | assumption | exact True.intro | rfl | exact absurd (show false = true by assumption) Bool.false_ne_true | ((repeat' (first | assumption | apply anda | apply notf)); done)) | (exact hrun) | (simp; done) | (intro i hi; simp [All, aEt]))
end Go.Proofs.Ytgdbnnmogddkaaa.Mach
namespace Go.Proofs.Ytgdbnnmogddkaaa.Mach
open Go
set_option linter.unusedVariables false
set_option linter.unusedSimpArgs false
def z2 : Ob := ⟨true, 2, 1, fun _ => [.p (.int .i64 0), .p .nil]⟩
def gbx (n : Int) (j c : Nat) : Ob := ⟨true, 2, 1, fun _ => [.p (.int .i64 n), .ar 2 j 0 c]⟩
def gsOb (n : Int) (c : Nat) (G : Nat → T_BarS) : Ob := ⟨false, 2, c, fun i => [.p (.int .i64 n), .p (.seq false 2 (G i).1 (fun s => [.int .i64 ((G i).2 s).1, .int .i64 ((G i).2 s).2.1]))]⟩
def snocB (c : Nat) (G : Nat → T_BarS) (x : T_BarS) (i : Nat) : T_BarS := (if i < c then (G i).1 else x.1, fun s => (if i < c then ((G i).2 s).1 else (x.2 s).1, if i < c then ((G i).2 s).2.1 else (x.2 s).2.1, ()))
def maxI (n : Int) : Int := if 2 * n - 3 > 0 then 2 * n - 3 else 0
def btE (w i : Int) : Bool := bitI .and .i64 (shrI .i64 w i) 1 == 1
def gaI (n : Int) (c : Nat) (h : Nat → T_Bar) : AV := .agg [.p (.int .i64 n), brL h c]
def SGs (n a c : Nat) (h : Nat → T_Bar) : St := ⟨[.p (.int .i64 n), .p .any, .pt 2 0 0 0, .pt 2 1 0 0, .p (.int .i64 a)] ++ List.replicate 28 anyA, [(0, z2), (1, gbx n 2 c), (2, brOb c h)], 3⟩
def SGs1 (n a b c : Nat) (h : Nat → T_Bar) : St := ⟨[.p (.int .i64 n), .p .any, .pt 2 0 0 0, .pt 2 1 0 0, .p (.int .i64 a), .p (.int .i64 b)] ++ List.replicate 27 anyA, [(0, z2), (1, gbx n 2 c), (2, brOb c h)], 3⟩
def SGi (n a c : Nat) (h : Nat → T_Bar) : St := ⟨[.p (.int .i64 n), .p .any, .pt 2 0 0 0, .pt 2 1 0 0] ++ List.replicate 8 anyA ++ [.p (.int .i64 n), .p (.int .i64 a)] ++ List.replicate 19 anyA, [(0, z2), (1, gbx n 2 c), (2, brOb c h)], 3⟩
def SGi1 (n a b c : Nat) (h : Nat → T_Bar) : St := ⟨[.p (.int .i64 n), .p .any, .pt 2 0 0 0, .pt 2 1 0 0, .p (.int .i64 a), .p (.int .i64 b)] ++ List.replicate 6 anyA ++ [.p (.int .i64 n), .p (.int .i64 a)] ++ List.replicate 19 anyA, [(0, z2), (1, gbx n 2 c), (2, brOb c h)], 3⟩
def SSo (w M i c : Nat) (f : Nat → Int) : St := ⟨[.p (.int .i64 w), .p (.int .i64 M), .p .any, .p .any, .p .any, .ar 1 0 0 c, .p .any, .p .any, .p (.int .i64 M), .p (.int .i64 i)] ++ List.replicate 13 anyA, [(0, iOb c f)], 1⟩
def SOb (n : Int) (M : Nat) (A : Nat → T_Bar) (S : T_IntS) (i c : Nat) (h : Nat → T_Bar) : St :=
  ⟨[gaI n M A, inL S, .pt 2 0 0 0, .p .any, .pt 2 1 0 0, .pt 2 2 0 0] ++ List.replicate 6 anyA ++ [brL A M, .p (.int .i64 M), .p (.int .i64 i)] ++ List.replicate 15 anyA, [(0, ⟨true, 2, 1, fun _ => [.p (.int .i64 n), brL A M]⟩), (1, z2), (2, gbx n 3 c), (3, brOb c h)], 4⟩
def SRgi (n : Nat) (M : Nat) (A : Nat → T_Bar) (w c : Nat) (G : Nat → T_BarS) : St :=
  ⟨[.p (.int .i64 n), .p .any, .p .any, .p .any, .ar 2 0 0 c, .pt 2 1 0 0] ++ List.replicate 13 anyA ++ [.p (.int .i64 (shlI .i64 1 M)), .p (.int .i64 w)] ++ List.replicate 25 anyA, [(0, gsOb n c G), (1, gbx n 2 M), (2, brOb M A)], 3⟩
def SRgs (n : Nat) (tg' : Int) (M : Nat) (A : Nat → T_Bar) (w c : Nat) (G : Nat → T_BarS) : St :=
  ⟨[brL A M, .p (.int .i64 n), .p (.int .i64 tg'), .p .any, .p .any, .p .any, .p .any, .ar 2 0 0 c, .p (.int .i64 w)] ++ List.replicate 47 anyA, [(0, gsOb n c G)], 1⟩
def SRs1 (n : Nat) (tg' : Int) (M : Nat) (A : Nat → T_Bar) (w c : Nat) (G : Nat → T_BarS) (i k : Nat) (h : Nat → T_Bar) : St :=
  ⟨[brL A M, .p (.int .i64 n), .p (.int .i64 tg'), .p .any, .p .any, .p .any, .p .any, .ar 2 0 0 c, .p (.int .i64 w), .pt 2 1 0 0, .p (.int .i64 i)] ++ List.replicate 45 anyA, [(0, gsOb n c G), (1, gbx n 2 k), (2, brOb k h)], 3⟩
theorem eFy_s (v : T_Graph) :
    pathOb Try.prog Try.f165 0 [.reg [oT, oT], .reg [oT, ⟨true, (some ⟨[], [], [], 1, [], .p (.bool false)⟩), none⟩, oT], .dec true, .reg [oT]] [.code (bodyOf Try.f165)] (start Try.f165 [] 0 [graphA v]) [] 1 [] (.p (.int .i64 (-1))) =
    some [((0 : Nat) < 1),
  Con Try.prog 73 0 [] [.agg [.p (.int .i64 v.1), .p (.seq true 2 v.2.1.1 (fun i => [.int .i64 ((v.2.1.2 i).1), .int .i64 ((v.2.1.2 i).2.1)]))]] [] (.p (.bool false)),
  ((!false) = true),
  (AI ((-1)))] := by kernel_rfl
theorem eFz_s (g : Nat → T_Bar) (nb N r : Nat) :
    pathOb Try.prog Try.f165 0 [.reg [oT, oT], .reg [oT, ⟨true, (some ⟨[], [], [], 1, [], .p (.bool true)⟩), none⟩, oT], .dec false, .reg [oT, oT, oT, oT, oT, oT, ⟨true, (some ⟨[], [], [], 1, [], .p (.int .i64 r)⟩), none⟩, oT, oT]] [.code (bodyOf Try.f165)] (start Try.f165 [] 0 [grG g nb N]) [] 1 [] (.p (.int .i64 (maxI N - r))) =
    some [((0 : Nat) < 1),
  Con Try.prog 73 0 [] [.agg [.p (.int .i64 (↑N : Int)), .p (.seq true 2 nb (fun i => [.int .i64 ((g i).1), .int .i64 ((g i).2.1)]))]] [] (.p (.bool true)),
  ((!true) = false),
  ((0 : Nat) < 1),
  (((-9223372036854775808) : Int) ≤ (2 * (↑N : Int))),
  (((2 * (↑N : Int)) : Int) ≤ 9223372036854775807),
  (((-9223372036854775808) : Int) ≤ (2 * (↑N : Int) - 3)),
  (((2 * (↑N : Int) - 3) : Int) ≤ 9223372036854775807),
  ((0 : Nat) < 1),
  Con Try.prog 153 0 [] [.agg [.p (.int .i64 (↑N : Int)), .p (.seq true 2 nb (fun i => [.int .i64 ((g i).1), .int .i64 ((g i).2.1)]))], .p (.int .i64 2), .p (.int .i64 3)] [] (.p (.int .i64 (↑r : Int))),
  (((-9223372036854775808) : Int) ≤ ((if true = true then if 2 * (↑N : Int) - 3 > 0 then 2 * (↑N : Int) - 3 else 0 else if 2 * (↑N : Int) - 3 < 0 then 2 * (↑N : Int) - 3 else 0) - (↑r : Int))),
  ((((if true = true then if 2 * (↑N : Int) - 3 > 0 then 2 * (↑N : Int) - 3 else 0 else if 2 * (↑N : Int) - 3 < 0 then 2 * (↑N : Int) - 3 else 0) - (↑r : Int)) : Int) ≤ 9223372036854775807),
  ((((if true = true then if 2 * (↑N : Int) - 3 > 0 then 2 * (↑N : Int) - 3 else 0 else if 2 * (↑N : Int) - 3 < 0 then 2 * (↑N : Int) - 3 else 0) - (↑r : Int)) : Int) = (maxI (↑N : Int) - (↑r : Int)))] := by kernel_rfl
theorem eFy_i (v : T_Graph) :
    pathOb Try.prog Try.f154 0 [.reg [oT, oT], .reg [oT, ⟨true, (some ⟨[], [], [], 1, [], .p (.bool false)⟩), none⟩, oT], .dec true, .reg [oT]] [.code (bodyOf Try.f154)] (start Try.f154 [] 0 [graphA v]) [] 1 [] (.p (.int .i64 (-1))) =
    some [((0 : Nat) < 1),
  Con Try.prog 77 0 [] [.agg [.p (.int .i64 v.1), .p (.seq true 2 v.2.1.1 (fun i => [.int .i64 ((v.2.1.2 i).1), .int .i64 ((v.2.1.2 i).2.1)]))]] [] (.p (.bool false)),
  ((!false) = true),
  (AI ((-1)))] := by kernel_rfl
theorem eFz_i (g : Nat → T_Bar) (nb N r : Nat) :
    pathOb Try.prog Try.f154 0 [.reg [oT, oT], .reg [oT, ⟨true, (some ⟨[], [], [], 1, [], .p (.bool true)⟩), none⟩, oT], .dec false, .reg [oT, oT, oT, oT, oT, oT, ⟨true, (some ⟨[], [], [], 1, [], .p (.int .i64 r)⟩), none⟩, oT, oT]] [.code (bodyOf Try.f154)] (start Try.f154 [] 0 [grG g nb N]) [] 1 [] (.p (.int .i64 (maxI N - r))) =
    some [((0 : Nat) < 1),
  Con Try.prog 77 0 [] [.agg [.p (.int .i64 (↑N : Int)), .p (.seq true 2 nb (fun i => [.int .i64 ((g i).1), .int .i64 ((g i).2.1)]))]] [] (.p (.bool true)),
  ((!true) = false),
  ((0 : Nat) < 1),
  (((-9223372036854775808) : Int) ≤ (2 * (↑N : Int))),
  (((2 * (↑N : Int)) : Int) ≤ 9223372036854775807),
  (((-9223372036854775808) : Int) ≤ (2 * (↑N : Int) - 3)),
  (((2 * (↑N : Int) - 3) : Int) ≤ 9223372036854775807),
  ((0 : Nat) < 1),
  Con Try.prog 136 0 [] [.agg [.p (.int .i64 (↑N : Int)), .p (.seq true 2 nb (fun i => [.int .i64 ((g i).1), .int .i64 ((g i).2.1)]))], .p (.int .i64 2), .p (.int .i64 3)] [] (.p (.int .i64 (↑r : Int))),
  (((-9223372036854775808) : Int) ≤ ((if true = true then if 2 * (↑N : Int) - 3 > 0 then 2 * (↑N : Int) - 3 else 0 else if 2 * (↑N : Int) - 3 < 0 then 2 * (↑N : Int) - 3 else 0) - (↑r : Int))),
  ((((if true = true then if 2 * (↑N : Int) - 3 > 0 then 2 * (↑N : Int) - 3 else 0 else if 2 * (↑N : Int) - 3 < 0 then 2 * (↑N : Int) - 3 else 0) - (↑r : Int)) : Int) ≤ 9223372036854775807),
  ((((if true = true then if 2 * (↑N : Int) - 3 > 0 then 2 * (↑N : Int) - 3 else 0 else if 2 * (↑N : Int) - 3 < 0 then 2 * (↑N : Int) - 3 else 0) - (↑r : Int)) : Int) = (maxI (↑N : Int) - (↑r : Int)))] := by kernel_rfl
theorem eR_s (v : T_Graph) (x : Int) :
    pathOb Try.prog Try.f152 0 [.reg [oT, oT], .reg [oT, ⟨true, (some ⟨[], [], [], 1, [], .p (.int .i64 x)⟩), none⟩, oT, oT]] [.code (bodyOf Try.f152)] (start Try.f152 [] 0 [graphA v]) [] 1 [] (.p (.bool (x == 0))) =
    some [((0 : Nat) < 1),
  Con Try.prog 165 0 [] [.agg [.p (.int .i64 v.1), .p (.seq true 2 v.2.1.1 (fun i => [.int .i64 ((v.2.1.2 i).1), .int .i64 ((v.2.1.2 i).2.1)]))]] [] (.p (.int .i64 x)),
  ((x == 0) = (x == 0))] := by kernel_rfl
theorem eR_i (v : T_Graph) (x : Int) :
    pathOb Try.prog Try.f135 0 [.reg [oT, oT], .reg [oT, ⟨true, (some ⟨[], [], [], 1, [], .p (.int .i64 x)⟩), none⟩, oT, oT]] [.code (bodyOf Try.f135)] (start Try.f135 [] 0 [graphA v]) [] 1 [] (.p (.bool (x == 0))) =
    some [((0 : Nat) < 1),
  Con Try.prog 154 0 [] [.agg [.p (.int .i64 v.1), .p (.seq true 2 v.2.1.1 (fun i => [.int .i64 ((v.2.1.2 i).1), .int .i64 ((v.2.1.2 i).2.1)]))]] [] (.p (.int .i64 x)),
  ((x == 0) = (x == 0))] := by kernel_rfl
theorem eM_s (v : T_Graph) (b : Bool) (r : Nat) :
    pathOb Try.prog Try.f134 0 [.reg [oT, oT], .reg [oT, ⟨true, (some ⟨[], [], [], 1, [], .p (.bool b)⟩), none⟩, oT, oT, oT, oT, oT, ⟨true, (some ⟨[], [], [], 1, [], .p (.int .i64 r)⟩), none⟩, oT, oT, oT]] [.code (bodyOf Try.f134)] (start Try.f134 [] 0 [graphA v]) [] 1 [] (.p (.bool (bif b then (v.2.1.1 : Int) == (r : Int) else false))) =
    some [((0 : Nat) < 1),
  Con Try.prog 152 0 [] [.agg [.p (.int .i64 v.1), .p (.seq true 2 v.2.1.1 (fun i => [.int .i64 ((v.2.1.2 i).1), .int .i64 ((v.2.1.2 i).2.1)]))]] [] (.p (.bool b)),
  (AG b),
  ((b = true) → ((0 : Nat) < 1)),
  (AG b),
  ((b = true) → ((0 : Nat) < 1)),
  (AG b),
  ((b = true) → Con Try.prog 153 0 [] [.agg [.p (.int .i64 v.1), .p (.seq true 2 v.2.1.1 (fun i => [.int .i64 ((v.2.1.2 i).1), .int .i64 ((v.2.1.2 i).2.1)]))], .p (.int .i64 2), .p (.int .i64 3)] [] (.p (.int .i64 (↑r : Int)))),
  (AG b),
  (AG b),
  (AG b),
  ((bif b then (↑v.2.1.1 : Int) == (↑r : Int) else false) = (bif b then (↑v.2.1.1 : Int) == (↑r : Int) else false))] := by kernel_rfl
theorem eM_i (v : T_Graph) (b : Bool) (r : Nat) :
    pathOb Try.prog Try.f125 0 [.reg [oT, oT], .reg [oT, ⟨true, (some ⟨[], [], [], 1, [], .p (.bool b)⟩), none⟩, oT, oT, ⟨true, (some ⟨[], [], [], 1, [], .p (.int .i64 r)⟩), none⟩, oT, oT, oT, oT, oT, oT]] [.code (bodyOf Try.f125)] (start Try.f125 [] 0 [graphA v]) [] 1 [] (.p (.bool (bif b then (r : Int) == (v.2.1.1 : Int) else false))) =
    some [((0 : Nat) < 1),
  Con Try.prog 135 0 [] [.agg [.p (.int .i64 v.1), .p (.seq true 2 v.2.1.1 (fun i => [.int .i64 ((v.2.1.2 i).1), .int .i64 ((v.2.1.2 i).2.1)]))]] [] (.p (.bool b)),
  ((b = true) → ((0 : Nat) < 1)),
  (AG b),
  ((b = true) → Con Try.prog 136 0 [] [.agg [.p (.int .i64 v.1), .p (.seq true 2 v.2.1.1 (fun i => [.int .i64 ((v.2.1.2 i).1), .int .i64 ((v.2.1.2 i).2.1)]))], .p (.int .i64 2), .p (.int .i64 3)] [] (.p (.int .i64 (↑r : Int)))),
  (AG b),
  ((b = true) → ((0 : Nat) < 1)),
  (AG b),
  (AG b),
  (AG b),
  (AG b),
  ((bif b then (↑r : Int) == (↑v.2.1.1 : Int) else false) = (bif b then (↑r : Int) == (↑v.2.1.1 : Int) else false))] := by kernel_rfl
theorem eGs0 (n : Nat) :
    pieceOb Try.prog 0 [.reg [oT], .reg [oT, oT, oT, oT], .reg [oT, ⟨true, (some ⟨[], [], [], 1, [], .p (.bool true)⟩), none⟩, oT], .dec false, .reg [oT], .head] [.code (bodyOf Try.f121)] (start Try.f121 [] 0 [.p (.int .i64 n)]) [0, 96] 1 (SGs n 0 0 (fun _ => (0, 0, ()))) =
    some ([.code (cAt (bodyOf Try.f121) [1, 1, 1, 0, 1, 0, 0]), .inLoop (cAt (bodyOf Try.f121) [1, 1, 1, 0, 1, 0, 0]), .inBlock 0, .code (cAt (bodyOf Try.f121) [1, 1, 1, 1])], [((0 : Nat) < 1),
  ((true = true) → (AN 1)),
  Con Try.prog 112 0 [] [.p (.int .i64 (↑n : Int)), .p (.int .i64 1), .p (.int .i64 7)] [] (.p (.bool true)),
  ((!true) = false),
  (AI ((↑n : Int))),
  (AN 0),
  (AN 0),
  ((0 : Int) = (↑0 : Int)),
  ((((List.map (fun v => AV.p (absV v)) [Value.int IntKind.i64 0, Value.slice none 0 0]).length) : Nat) = 2),
  ((1 : Nat) ≤ 1),
  ((1 : Nat) ≤ 1),
  (AI 0),
  ((((List.map (fun v => AV.p (absV v)) [Value.int IntKind.i64 0, Value.slice none 0 0]).length) : Nat) = 2),
  ((1 : Nat) ≤ 1),
  ((1 : Nat) ≤ 1),
  (AI ((↑n : Int))),
  (AN 0),
  (AN 0)]) := by kernel_rfl
theorem eGs1 (n a c : Nat) (h : Nat → T_Bar) :
    pieceOb Try.prog 0 [.reg [oT, oT, oT], .dec true, .reg [oT, oT, oT], .head] [.code (cAt (bodyOf Try.f121) [1, 1, 1, 0, 1, 0, 0]), .inLoop (cAt (bodyOf Try.f121) [1, 1, 1, 0, 1, 0, 0]), .inBlock 0, .code (cAt (bodyOf Try.f121) [1, 1, 1, 1])] (SGs n a c h) [0, 1, 2] 1 (SGs1 n a (a + 1) c h) =
    some ([.code (cAt (bodyOf Try.f121) [1, 1, 1, 0, 1, 0, 0, 1, 0, 0, 1, 0, 0]), .inLoop (cAt (bodyOf Try.f121) [1, 1, 1, 0, 1, 0, 0, 1, 0, 0, 1, 0, 0]), .inBlock 2, .inBlock 1, .code (cAt (bodyOf Try.f121) [1, 1, 1, 0, 1, 0, 0, 1, 1]), .inLoop (cAt (bodyOf Try.f121) [1, 1, 1, 0, 1, 0, 0]), .inBlock 0, .code (cAt (bodyOf Try.f121) [1, 1, 1, 1])], [((decide ((↑a : Int) < (↑n : Int))) = true),
  (((-9223372036854775808) : Int) ≤ ((↑a : Int) + 1)),
  ((((↑a : Int) + 1) : Int) ≤ 9223372036854775807),
  (AI ((↑n : Int))),
  (AN 0),
  (AN 0),
  (AI ((↑a : Int))),
  ((((↑a : Int) + 1) : Int) = (↑(a + 1) : Int)),
  (AN 2),
  ((1 : Nat) ≤ 1),
  ((1 : Nat) ≤ 1),
  (AI 0),
  (AN 2),
  ((1 : Nat) ≤ 1),
  ((1 : Nat) ≤ 1),
  (AI ((↑n : Int))),
  (AN 0),
  (AN c),
  (AN 2),
  ((c : Nat) ≤ c),
  (AA c (fun i => [.p (.int .i64 ((h i).1)), .p (.int .i64 ((h i).2.1))]))]) := by kernel_rfl
theorem eGse (n a c : Nat) (h : Nat → T_Bar) :
    pathOb Try.prog Try.f121 0 [.reg [oT, oT, oT], .dec false, .reg [oT, oT]] [.code (cAt (bodyOf Try.f121) [1, 1, 1, 0, 1, 0, 0]), .inLoop (cAt (bodyOf Try.f121) [1, 1, 1, 0, 1, 0, 0]), .inBlock 0, .code (cAt (bodyOf Try.f121) [1, 1, 1, 1])] (SGs n a c h) [2] 1 [(0, brOb c h)] (.agg [.p (.int .i64 n), .ar 2 0 0 c]) =
    some [((decide ((↑a : Int) < (↑n : Int))) = false),
  ((0 : Nat) < 1),
  ((0 : Nat) < 1),
  ((true = true) → (AN 1)),
  ((0 : Nat) < 1),
  (AI ((↑n : Int))),
  (AN 0),
  (AN c),
  (AN 2),
  ((c : Nat) ≤ c),
  (AA c (fun i => [.p (.int .i64 ((h i).1)), .p (.int .i64 ((h i).2.1))])),
  (AE c)] := by kernel_rfl
theorem eGs2 (n a b c : Nat) (h : Nat → T_Bar) :
    pieceOb Try.prog 0 [.reg [oT, oT, oT], .dec true, .reg [oT, oT, oT, oT, oT, oT, oT, oT, oT], .reg [oT, oT, oT], .head] [.code (cAt (bodyOf Try.f121) [1, 1, 1, 0, 1, 0, 0, 1, 0, 0, 1, 0, 0]), .inLoop (cAt (bodyOf Try.f121) [1, 1, 1, 0, 1, 0, 0, 1, 0, 0, 1, 0, 0]), .inBlock 2, .inBlock 1, .code (cAt (bodyOf Try.f121) [1, 1, 1, 0, 1, 0, 0, 1, 1]), .inLoop (cAt (bodyOf Try.f121) [1, 1, 1, 0, 1, 0, 0]), .inBlock 0, .code (cAt (bodyOf Try.f121) [1, 1, 1, 1])] (SGs1 n a b c h) [0, 1, 291] 1 (SGs1 n a (b + 1) (c + 1) (snoc c h ((a : Int), (b : Int), ()))) =
    some ([.code (cAt (bodyOf Try.f121) [1, 1, 1, 0, 1, 0, 0, 1, 0, 0, 1, 0, 0]), .inLoop (cAt (bodyOf Try.f121) [1, 1, 1, 0, 1, 0, 0, 1, 0, 0, 1, 0, 0]), .inBlock 2, .inBlock 1, .code (cAt (bodyOf Try.f121) [1, 1, 1, 0, 1, 0, 0, 1, 1]), .inLoop (cAt (bodyOf Try.f121) [1, 1, 1, 0, 1, 0, 0]), .inBlock 0, .code (cAt (bodyOf Try.f121) [1, 1, 1, 1])], [((decide ((↑b : Int) < (↑n : Int))) = true),
  ((0 : Nat) < 1),
  ((1 : Nat) ≤ 1),
  ((c : Nat) ≤ c),
  ((((c + 1) * 16) : Nat) ≤ 140737488355328),
  (((c + 1) : Nat) ≤ 9223372036854775807),
  ((0 : Nat) < 1),
  ((true = true) → (AN 1)),
  (((-9223372036854775808) : Int) ≤ ((↑b : Int) + 1)),
  ((((↑b : Int) + 1) : Int) ≤ 9223372036854775807),
  (AI ((↑n : Int))),
  (AN 0),
  (AN 0),
  (AI ((↑a : Int))),
  ((((↑b : Int) + 1) : Int) = (↑(b + 1) : Int)),
  (AN 2),
  ((1 : Nat) ≤ 1),
  ((1 : Nat) ≤ 1),
  (AI 0),
  (AN 2),
  ((1 : Nat) ≤ 1),
  ((1 : Nat) ≤ 1),
  (AI ((↑n : Int))),
  (AN 0),
  (AN ((c + 1))),
  (AN 2),
  (((c + 1) : Nat) ≤ (c + 1)),
  (∀ i : Nat, (((i : Nat) < (c + 1)) → (All (cvtL false [(1, ⟨true, 2, 1, (fun i_1 => [.p (.int .i64 (↑n : Int)), .ar 2 291 0 (c + 1)])⟩), (291, ⟨false, 2, (c + 1), (fun i_1 => (if (i_1 < c) then [.p (.int .i64 ((h i_1).1)), .p (.int .i64 ((h i_1).2.1))] else [.p (.int .i64 (↑a : Int)), .p (.int .i64 (↑b : Int))]))⟩), (259, ⟨false, 2, 1, (fun i_1 => [.p (.int .i64 (↑a : Int)), .p (.int .i64 (↑b : Int))])⟩), (0, ⟨true, 2, 1, (fun i_1 => [.p (.int .i64 0), .p (.nil)])⟩)] [0, 1, 291] 1 (if (i < c) then [.p (.int .i64 ((h i).1)), .p (.int .i64 ((h i).2.1))] else [.p (.int .i64 (↑a : Int)), .p (.int .i64 (↑b : Int))])).2 ∧ (((cvtL false [(1, ⟨true, 2, 1, (fun i_1 => [.p (.int .i64 (↑n : Int)), .ar 2 291 0 (c + 1)])⟩), (291, ⟨false, 2, (c + 1), (fun i_1 => (if (i_1 < c) then [.p (.int .i64 ((h i_1).1)), .p (.int .i64 ((h i_1).2.1))] else [.p (.int .i64 (↑a : Int)), .p (.int .i64 (↑b : Int))]))⟩), (259, ⟨false, 2, 1, (fun i_1 => [.p (.int .i64 (↑a : Int)), .p (.int .i64 (↑b : Int))])⟩), (0, ⟨true, 2, 1, (fun i_1 => [.p (.int .i64 0), .p (.nil)])⟩)] [0, 1, 291] 1 (if (i < c) then [.p (.int .i64 ((h i).1)), .p (.int .i64 ((h i).2.1))] else [.p (.int .i64 (↑a : Int)), .p (.int .i64 (↑b : Int))])).1 : List AV) = [.p (.int .i64 (if i < c then (h i).1 else (↑a : Int))), .p (.int .i64 (if i < c then (h i).2.1 else (↑b : Int)))]))))]) := by kernel_rfl
theorem eGs3 (n a b c : Nat) (h : Nat → T_Bar) :
    pieceOb Try.prog 0 [.reg [oT, oT, oT], .dec false, .reg [oT, oT, oT], .head] [.code (cAt (bodyOf Try.f121) [1, 1, 1, 0, 1, 0, 0, 1, 0, 0, 1, 0, 0]), .inLoop (cAt (bodyOf Try.f121) [1, 1, 1, 0, 1, 0, 0, 1, 0, 0, 1, 0, 0]), .inBlock 2, .inBlock 1, .code (cAt (bodyOf Try.f121) [1, 1, 1, 0, 1, 0, 0, 1, 1]), .inLoop (cAt (bodyOf Try.f121) [1, 1, 1, 0, 1, 0, 0]), .inBlock 0, .code (cAt (bodyOf Try.f121) [1, 1, 1, 1])] (SGs1 n a b c h) [0, 1, 2] 1 (SGs n (a + 1) c h) =
    some ([.code (cAt (bodyOf Try.f121) [1, 1, 1, 0, 1, 0, 0]), .inLoop (cAt (bodyOf Try.f121) [1, 1, 1, 0, 1, 0, 0]), .inBlock 0, .code (cAt (bodyOf Try.f121) [1, 1, 1, 1])], [((decide ((↑b : Int) < (↑n : Int))) = false),
  (((-9223372036854775808) : Int) ≤ ((↑a : Int) + 1)),
  ((((↑a : Int) + 1) : Int) ≤ 9223372036854775807),
  (AI ((↑n : Int))),
  (AN 0),
  (AN 0),
  ((((↑a : Int) + 1) : Int) = (↑(a + 1) : Int)),
  (AN 2),
  ((1 : Nat) ≤ 1),
  ((1 : Nat) ≤ 1),
  (AI 0),
  (AN 2),
  ((1 : Nat) ≤ 1),
  ((1 : Nat) ≤ 1),
  (AI ((↑n : Int))),
  (AN 0),
  (AN c),
  (AN 2),
  ((c : Nat) ≤ c),
  (AA c (fun i => [.p (.int .i64 ((h i).1)), .p (.int .i64 ((h i).2.1))]))]) := by kernel_rfl
theorem eGi0 (n : Nat) :
    pieceOb Try.prog 0 [.reg [oT], .reg [oT, ⟨true, (some ⟨[], [], [], 1, [], .p (.bool true)⟩), none⟩, oT], .dec false, .reg [oT, oT, oT, oT], .reg [oT, oT], .head] [.code (bodyOf Try.f122)] (start Try.f122 [] 0 [.p (.int .i64 n)]) [0, 192] 1 (SGi n 0 0 (fun _ => (0, 0, ()))) =
    some ([.code (cAt (bodyOf Try.f122) [1, 1, 1, 0, 1, 0, 0]), .inLoop (cAt (bodyOf Try.f122) [1, 1, 1, 0, 1, 0, 0]), .inBlock 0, .code (cAt (bodyOf Try.f122) [1, 1, 1, 1])], [Con Try.prog 115 0 [] [.p (.int .i64 (↑n : Int)), .p (.int .i64 1), .p (.int .i64 7)] [] (.p (.bool true)),
  ((!true) = false),
  ((0 : Nat) < 1),
  ((true = true) → (AN 1)),
  (AI ((↑n : Int))),
  (AN 0),
  (AN 0),
  (AI ((↑n : Int))),
  ((0 : Int) = (↑0 : Int)),
  ((((List.map (fun v => AV.p (absV v)) [Value.int IntKind.i64 0, Value.slice none 0 0]).length) : Nat) = 2),
  ((1 : Nat) ≤ 1),
  ((1 : Nat) ≤ 1),
  (AI 0),
  ((((List.map (fun v => AV.p (absV v)) [Value.int IntKind.i64 0, Value.slice none 0 0]).length) : Nat) = 2),
  ((1 : Nat) ≤ 1),
  ((1 : Nat) ≤ 1),
  (AI ((↑n : Int))),
  (AN 0),
  (AN 0)]) := by kernel_rfl
theorem eGi1 (n a c : Nat) (h : Nat → T_Bar) :
    pieceOb Try.prog 0 [.reg [oT], .dec true, .reg [oT, oT], .reg [oT, oT, oT], .head] [.code (cAt (bodyOf Try.f122) [1, 1, 1, 0, 1, 0, 0]), .inLoop (cAt (bodyOf Try.f122) [1, 1, 1, 0, 1, 0, 0]), .inBlock 0, .code (cAt (bodyOf Try.f122) [1, 1, 1, 1])] (SGi n a c h) [0, 1, 2] 1 (SGi1 n a (a + 1) c h) =
    some ([.code (cAt (bodyOf Try.f122) [1, 1, 1, 0, 1, 0, 0, 1, 1, 0, 0, 1, 1, 0, 0]), .inLoop (cAt (bodyOf Try.f122) [1, 1, 1, 0, 1, 0, 0, 1, 1, 0, 0, 1, 1, 0, 0]), .inBlock 2, .inBlock 1, .code (cAt (bodyOf Try.f122) [1, 1, 1, 0, 1, 0, 0, 1, 1, 1]), .inLoop (cAt (bodyOf Try.f122) [1, 1, 1, 0, 1, 0, 0]), .inBlock 0, .code (cAt (bodyOf Try.f122) [1, 1, 1, 1])], [((decide ((↑a : Int) < (↑n : Int))) = true),
  (((-9223372036854775808) : Int) ≤ ((↑a : Int) + 1)),
  ((((↑a : Int) + 1) : Int) ≤ 9223372036854775807),
  (AI ((↑n : Int))),
  (AN 0),
  (AN 0),
  (AI ((↑a : Int))),
  ((((↑a : Int) + 1) : Int) = (↑(a + 1) : Int)),
  (AI ((↑n : Int))),
  (AI ((↑a : Int))),
  (AN 2),
  ((1 : Nat) ≤ 1),
  ((1 : Nat) ≤ 1),
  (AI 0),
  (AN 2),
  ((1 : Nat) ≤ 1),
  ((1 : Nat) ≤ 1),
  (AI ((↑n : Int))),
  (AN 0),
  (AN c),
  (AN 2),
  ((c : Nat) ≤ c),
  (AA c (fun i => [.p (.int .i64 ((h i).1)), .p (.int .i64 ((h i).2.1))]))]) := by kernel_rfl
theorem eGie (n a c : Nat) (h : Nat → T_Bar) :
    pathOb Try.prog Try.f122 0 [.reg [oT], .dec false, .reg [oT, oT]] [.code (cAt (bodyOf Try.f122) [1, 1, 1, 0, 1, 0, 0]), .inLoop (cAt (bodyOf Try.f122) [1, 1, 1, 0, 1, 0, 0]), .inBlock 0, .code (cAt (bodyOf Try.f122) [1, 1, 1, 1])] (SGi n a c h) [2] 1 [(0, brOb c h)] (.agg [.p (.int .i64 n), .ar 2 0 0 c]) =
    some [((decide ((↑a : Int) < (↑n : Int))) = false),
  ((0 : Nat) < 1),
  ((0 : Nat) < 1),
  ((true = true) → (AN 1)),
  ((0 : Nat) < 1),
  (AI ((↑n : Int))),
  (AN 0),
  (AN c),
  (AN 2),
  ((c : Nat) ≤ c),
  (AA c (fun i => [.p (.int .i64 ((h i).1)), .p (.int .i64 ((h i).2.1))])),
  (AE c)] := by kernel_rfl
theorem eGi2 (n a b c : Nat) (h : Nat → T_Bar) :
    pieceOb Try.prog 0 [.reg [oT, oT, oT], .dec true, .reg [oT, oT, oT, oT, oT, oT, oT, oT, oT], .reg [oT, oT, oT], .head] [.code (cAt (bodyOf Try.f122) [1, 1, 1, 0, 1, 0, 0, 1, 1, 0, 0, 1, 1, 0, 0]), .inLoop (cAt (bodyOf Try.f122) [1, 1, 1, 0, 1, 0, 0, 1, 1, 0, 0, 1, 1, 0, 0]), .inBlock 2, .inBlock 1, .code (cAt (bodyOf Try.f122) [1, 1, 1, 0, 1, 0, 0, 1, 1, 1]), .inLoop (cAt (bodyOf Try.f122) [1, 1, 1, 0, 1, 0, 0]), .inBlock 0, .code (cAt (bodyOf Try.f122) [1, 1, 1, 1])] (SGi1 n a b c h) [0, 1, 291] 1 (SGi1 n a (b + 1) (c + 1) (snoc c h ((a : Int), (b : Int), ()))) =
    some ([.code (cAt (bodyOf Try.f122) [1, 1, 1, 0, 1, 0, 0, 1, 1, 0, 0, 1, 1, 0, 0]), .inLoop (cAt (bodyOf Try.f122) [1, 1, 1, 0, 1, 0, 0, 1, 1, 0, 0, 1, 1, 0, 0]), .inBlock 2, .inBlock 1, .code (cAt (bodyOf Try.f122) [1, 1, 1, 0, 1, 0, 0, 1, 1, 1]), .inLoop (cAt (bodyOf Try.f122) [1, 1, 1, 0, 1, 0, 0]), .inBlock 0, .code (cAt (bodyOf Try.f122) [1, 1, 1, 1])], [((decide ((↑b : Int) < (↑n : Int))) = true),
  ((0 : Nat) < 1),
  ((1 : Nat) ≤ 1),
  ((c : Nat) ≤ c),
  ((((c + 1) * 16) : Nat) ≤ 140737488355328),
  (((c + 1) : Nat) ≤ 9223372036854775807),
  ((0 : Nat) < 1),
  ((true = true) → (AN 1)),
  (((-9223372036854775808) : Int) ≤ ((↑b : Int) + 1)),
  ((((↑b : Int) + 1) : Int) ≤ 9223372036854775807),
  (AI ((↑n : Int))),
  (AN 0),
  (AN 0),
  (AI ((↑a : Int))),
  ((((↑b : Int) + 1) : Int) = (↑(b + 1) : Int)),
  (AI ((↑n : Int))),
  (AI ((↑a : Int))),
  (AN 2),
  ((1 : Nat) ≤ 1),
  ((1 : Nat) ≤ 1),
  (AI 0),
  (AN 2),
  ((1 : Nat) ≤ 1),
  ((1 : Nat) ≤ 1),
  (AI ((↑n : Int))),
  (AN 0),
  (AN ((c + 1))),
  (AN 2),
  (((c + 1) : Nat) ≤ (c + 1)),
  (∀ i : Nat, (((i : Nat) < (c + 1)) → (All (cvtL false [(1, ⟨true, 2, 1, (fun i_1 => [.p (.int .i64 (↑n : Int)), .ar 2 291 0 (c + 1)])⟩), (291, ⟨false, 2, (c + 1), (fun i_1 => (if (i_1 < c) then [.p (.int .i64 ((h i_1).1)), .p (.int .i64 ((h i_1).2.1))] else [.p (.int .i64 (↑a : Int)), .p (.int .i64 (↑b : Int))]))⟩), (259, ⟨false, 2, 1, (fun i_1 => [.p (.int .i64 (↑a : Int)), .p (.int .i64 (↑b : Int))])⟩), (0, ⟨true, 2, 1, (fun i_1 => [.p (.int .i64 0), .p (.nil)])⟩)] [0, 1, 291] 1 (if (i < c) then [.p (.int .i64 ((h i).1)), .p (.int .i64 ((h i).2.1))] else [.p (.int .i64 (↑a : Int)), .p (.int .i64 (↑b : Int))])).2 ∧ (((cvtL false [(1, ⟨true, 2, 1, (fun i_1 => [.p (.int .i64 (↑n : Int)), .ar 2 291 0 (c + 1)])⟩), (291, ⟨false, 2, (c + 1), (fun i_1 => (if (i_1 < c) then [.p (.int .i64 ((h i_1).1)), .p (.int .i64 ((h i_1).2.1))] else [.p (.int .i64 (↑a : Int)), .p (.int .i64 (↑b : Int))]))⟩), (259, ⟨false, 2, 1, (fun i_1 => [.p (.int .i64 (↑a : Int)), .p (.int .i64 (↑b : Int))])⟩), (0, ⟨true, 2, 1, (fun i_1 => [.p (.int .i64 0), .p (.nil)])⟩)] [0, 1, 291] 1 (if (i < c) then [.p (.int .i64 ((h i).1)), .p (.int .i64 ((h i).2.1))] else [.p (.int .i64 (↑a : Int)), .p (.int .i64 (↑b : Int))])).1 : List AV) = [.p (.int .i64 (if i < c then (h i).1 else (↑a : Int))), .p (.int .i64 (if i < c then (h i).2.1 else (↑b : Int)))]))))]) := by kernel_rfl
theorem eGi3 (n a b c : Nat) (h : Nat → T_Bar) :
    pieceOb Try.prog 0 [.reg [oT, oT, oT], .dec false, .reg [oT, oT], .head] [.code (cAt (bodyOf Try.f122) [1, 1, 1, 0, 1, 0, 0, 1, 1, 0, 0, 1, 1, 0, 0]), .inLoop (cAt (bodyOf Try.f122) [1, 1, 1, 0, 1, 0, 0, 1, 1, 0, 0, 1, 1, 0, 0]), .inBlock 2, .inBlock 1, .code (cAt (bodyOf Try.f122) [1, 1, 1, 0, 1, 0, 0, 1, 1, 1]), .inLoop (cAt (bodyOf Try.f122) [1, 1, 1, 0, 1, 0, 0]), .inBlock 0, .code (cAt (bodyOf Try.f122) [1, 1, 1, 1])] (SGi1 n a b c h) [0, 1, 2] 1 (SGi n (a + 1) c h) =
    some ([.code (cAt (bodyOf Try.f122) [1, 1, 1, 0, 1, 0, 0]), .inLoop (cAt (bodyOf Try.f122) [1, 1, 1, 0, 1, 0, 0]), .inBlock 0, .code (cAt (bodyOf Try.f122) [1, 1, 1, 1])], [((decide ((↑b : Int) < (↑n : Int))) = false),
  (((-9223372036854775808) : Int) ≤ ((↑a : Int) + 1)),
  ((((↑a : Int) + 1) : Int) ≤ 9223372036854775807),
  (AI ((↑n : Int))),
  (AN 0),
  (AN 0),
  (AI ((↑n : Int))),
  ((((↑a : Int) + 1) : Int) = (↑(a + 1) : Int)),
  (AN 2),
  ((1 : Nat) ≤ 1),
  ((1 : Nat) ≤ 1),
  (AI 0),
  (AN 2),
  ((1 : Nat) ≤ 1),
  ((1 : Nat) ≤ 1),
  (AI ((↑n : Int))),
  (AN 0),
  (AN c),
  (AN 2),
  ((c : Nat) ≤ c),
  (AA c (fun i => [.p (.int .i64 ((h i).1)), .p (.int .i64 ((h i).2.1))]))]) := by kernel_rfl
theorem eSz (w M : Nat) :
    pieceOb Try.prog 0 [.reg [oT], .reg [oT, oT], .reg [oT, oT], .head] [.code (bodyOf Try.f123)] (start Try.f123 [] 0 [.p (.int .i64 w), .p (.int .i64 M)]) [32] 1 (SSo w M 0 0 (fun _ => 0)) =
    some ([.code (cAt (bodyOf Try.f123) [1, 1, 0, 1, 0, 0]), .inLoop (cAt (bodyOf Try.f123) [1, 1, 0, 1, 0, 0]), .inBlock 0, .code (cAt (bodyOf Try.f123) [1, 1, 1])], [(AI ((↑w : Int))),
  (AI ((↑M : Int))),
  (AN 0),
  (AN 0),
  (AI ((↑M : Int))),
  ((0 : Int) = (↑0 : Int)),
  (AN 1),
  ((0 : Nat) ≤ 0),
  (AA 0 (fun i => [.p (.int .i64 0)]))]) := by kernel_rfl
theorem eSt (w M i c : Nat) (f : Nat → Int) :
    pieceOb Try.prog 0 [.reg [oT], .dec true, .reg [oT, oT], .reg [oT, oT, oT, oT, oT], .dec true, .reg [oT, oT, oT, oT, oT], .reg [oT, oT], .head] [.code (cAt (bodyOf Try.f123) [1, 1, 0, 1, 0, 0]), .inLoop (cAt (bodyOf Try.f123) [1, 1, 0, 1, 0, 0]), .inBlock 0, .code (cAt (bodyOf Try.f123) [1, 1, 1])] (SSo w M i c f) [353] 1 (SSo w M (i + 1) (c + 1) (snocI c f i)) =
    some ([.code (cAt (bodyOf Try.f123) [1, 1, 0, 1, 0, 0]), .inLoop (cAt (bodyOf Try.f123) [1, 1, 0, 1, 0, 0]), .inBlock 0, .code (cAt (bodyOf Try.f123) [1, 1, 1])], [((decide ((↑i : Int) < (↑M : Int))) = true),
  ((0 : Int) ≤ (↑i : Int)),
  ((bitI BinOp.and IntKind.i64 (shrI IntKind.i64 (↑w : Int) (↑i : Int)) 1 == 1) = true),
  ((1 : Nat) ≤ 1),
  ((c : Nat) ≤ c),
  ((((c + 1) * 8) : Nat) ≤ 140737488355328),
  (((c + 1) : Nat) ≤ 9223372036854775807),
  (((-9223372036854775808) : Int) ≤ ((↑i : Int) + 1)),
  ((((↑i : Int) + 1) : Int) ≤ 9223372036854775807),
  (AI ((↑w : Int))),
  (AI ((↑M : Int))),
  (AN 0),
  (AN ((c + 1))),
  (AI ((↑M : Int))),
  ((((↑i : Int) + 1) : Int) = (↑(i + 1) : Int)),
  (AN 1),
  (((c + 1) : Nat) ≤ (c + 1)),
  (∀ i_1 : Nat, (((i_1 : Nat) < (c + 1)) → (All (cvtL false [(353, ⟨false, 1, (c + 1), (fun i_2 => (if (i_2 < c) then [.p (.int .i64 (f i_2))] else [.p (.int .i64 (↑i : Int))]))⟩), (321, ⟨false, 1, 1, (fun i_2 => [.p (.int .i64 (↑i : Int))])⟩)] [353] 1 (if (i_1 < c) then [.p (.int .i64 (f i_1))] else [.p (.int .i64 (↑i : Int))])).2 ∧ (((cvtL false [(353, ⟨false, 1, (c + 1), (fun i_2 => (if (i_2 < c) then [.p (.int .i64 (f i_2))] else [.p (.int .i64 (↑i : Int))]))⟩), (321, ⟨false, 1, 1, (fun i_2 => [.p (.int .i64 (↑i : Int))])⟩)] [353] 1 (if (i_1 < c) then [.p (.int .i64 (f i_1))] else [.p (.int .i64 (↑i : Int))])).1 : List AV) = [.p (.int .i64 (snocI c f (↑i : Int) i_1))]))))]) := by kernel_rfl
theorem eSf (w M i c : Nat) (f : Nat → Int) :
    pieceOb Try.prog 0 [.reg [oT], .dec true, .reg [oT, oT], .reg [oT, oT, oT, oT, oT], .dec false, .reg [oT, oT], .head] [.code (cAt (bodyOf Try.f123) [1, 1, 0, 1, 0, 0]), .inLoop (cAt (bodyOf Try.f123) [1, 1, 0, 1, 0, 0]), .inBlock 0, .code (cAt (bodyOf Try.f123) [1, 1, 1])] (SSo w M i c f) [0] 1 (SSo w M (i + 1) c f) =
    some ([.code (cAt (bodyOf Try.f123) [1, 1, 0, 1, 0, 0]), .inLoop (cAt (bodyOf Try.f123) [1, 1, 0, 1, 0, 0]), .inBlock 0, .code (cAt (bodyOf Try.f123) [1, 1, 1])], [((decide ((↑i : Int) < (↑M : Int))) = true),
  ((0 : Int) ≤ (↑i : Int)),
  ((bitI BinOp.and IntKind.i64 (shrI IntKind.i64 (↑w : Int) (↑i : Int)) 1 == 1) = false),
  (((-9223372036854775808) : Int) ≤ ((↑i : Int) + 1)),
  ((((↑i : Int) + 1) : Int) ≤ 9223372036854775807),
  (AI ((↑w : Int))),
  (AI ((↑M : Int))),
  (AN 0),
  (AN c),
  (AI ((↑M : Int))),
  ((((↑i : Int) + 1) : Int) = (↑(i + 1) : Int)),
  (AN 1),
  ((c : Nat) ≤ c),
  (AA c (fun i_1 => [.p (.int .i64 (f i_1))]))]) := by kernel_rfl
theorem eSe (w M i c : Nat) (f : Nat → Int) :
    pathOb Try.prog Try.f123 0 [.reg [oT], .dec false, .reg [oT, oT]] [.code (cAt (bodyOf Try.f123) [1, 1, 0, 1, 0, 0]), .inLoop (cAt (bodyOf Try.f123) [1, 1, 0, 1, 0, 0]), .inBlock 0, .code (cAt (bodyOf Try.f123) [1, 1, 1])] (SSo w M i c f) [0] 1 [(0, iOb c f)] (.ar 1 0 0 c) =
    some [((decide ((↑i : Int) < (↑M : Int))) = false),
  (AN 0),
  (AN c),
  (AN 1),
  ((c : Nat) ≤ c),
  (AA c (fun i_1 => [.p (.int .i64 (f i_1))])),
  (AE c)] := by kernel_rfl
theorem eOz (n : Int) (M : Nat) (A : Nat → T_Bar) (S : T_IntS) :
    pieceOb Try.prog 0 [.reg [oT, oT], .reg [oT, oT, oT, oT, oT], .reg [oT, oT, oT, oT], .head] [.code (bodyOf Try.f124)] (start Try.f124 [] 0 [gaI n M A, inL S]) [0, 32, 160] 1 (SOb n M A S 0 0 (fun _ => (0, 0, ()))) =
    some ([.code (cAt (bodyOf Try.f124) [1, 1, 0, 1, 0, 0]), .inLoop (cAt (bodyOf Try.f124) [1, 1, 0, 1, 0, 0]), .inBlock 0, .code (cAt (bodyOf Try.f124) [1, 1, 1])], [((0 : Nat) < 1),
  ((0 : Nat) < 1),
  ((true = true) → (AN 1)),
  ((0 : Nat) < 1),
  (AI n),
  (AN M),
  (AP M (fun i => [.int .i64 ((A i).1), .int .i64 ((A i).2.1)])),
  (AN S.1),
  (AP S.1 (fun i => [.int .i64 (S.2 i)])),
  (AN 0),
  (AN 0),
  (AN 0),
  (AN M),
  (AP M (fun i => [.int .i64 ((A i).1), .int .i64 ((A i).2.1)])),
  (AI ((↑M : Int))),
  ((0 : Int) = (↑0 : Int)),
  ((([AV.p (PV.int IntKind.i64 n), brL A M].length) : Nat) = 2),
  ((1 : Nat) ≤ 1),
  ((1 : Nat) ≤ 1),
  (AI n),
  (AN M),
  (AP M (fun i => [.int .i64 ((A i).1), .int .i64 ((A i).2.1)])),
  ((((List.map (fun v => AV.p (absV v)) [Value.int IntKind.i64 0, Value.slice none 0 0]).length) : Nat) = 2),
  ((1 : Nat) ≤ 1),
  ((1 : Nat) ≤ 1),
  (AI 0),
  ((((List.map (fun v => AV.p (absV v)) [Value.int IntKind.i64 0, Value.slice none 0 0]).length) : Nat) = 2),
  ((1 : Nat) ≤ 1),
  ((1 : Nat) ≤ 1),
  (AI n),
  (AN 0),
  (AN 0)]) := by kernel_rfl
theorem eOt (n : Int) (M : Nat) (A : Nat → T_Bar) (S : T_IntS) (i c : Nat) (h : Nat → T_Bar) :
    pieceOb Try.prog 0 [.reg [oT], .dec true, .reg [oT, oT, oT, oT, oT, oT], .reg [oT, oT, ⟨true, (some ⟨[], [], [], 1, [], .p (.bool true)⟩), none⟩], .dec true, .reg [oT, oT, oT, oT, oT, oT, oT], .reg [oT, oT], .head] [.code (cAt (bodyOf Try.f124) [1, 1, 0, 1, 0, 0]), .inLoop (cAt (bodyOf Try.f124) [1, 1, 0, 1, 0, 0]), .inBlock 0, .code (cAt (bodyOf Try.f124) [1, 1, 1])] (SOb n M A S i c h) [0, 1, 2, 452] 1 (SOb n M A S (i + 1) (c + 1) (snoc c h (A i))) =
    some ([.code (cAt (bodyOf Try.f124) [1, 1, 0, 1, 0, 0]), .inLoop (cAt (bodyOf Try.f124) [1, 1, 0, 1, 0, 0]), .inBlock 0, .code (cAt (bodyOf Try.f124) [1, 1, 1])], [((decide ((↑i : Int) < (↑M : Int))) = true),
  ((0 : Int) ≤ (↑i : Int)),
  (((↑i : Int) : Int) < (↑M : Int)),
  ((0 : Nat) < 1),
  ((true = true) → (AN 1)),
  Con Try.prog 83 0 [] [.p (.seq true 1 S.1 (fun i_1 => [.int .i64 (S.2 i_1)])), .p (.int .i64 (↑i : Int))] [] (.p (.bool true)),
  (true = true),
  ((0 : Nat) < 1),
  ((0 : Nat) < 1),
  ((1 : Nat) ≤ 1),
  ((c : Nat) ≤ c),
  ((((c + 1) * 16) : Nat) ≤ 140737488355328),
  (((c + 1) : Nat) ≤ 9223372036854775807),
  ((0 : Nat) < 1),
  ((true = true) → (AN 1)),
  (((-9223372036854775808) : Int) ≤ ((↑i : Int) + 1)),
  ((((↑i : Int) + 1) : Int) ≤ 9223372036854775807),
  (AI n),
  (AN M),
  (AP M (fun i_1 => [.int .i64 ((A i_1).1), .int .i64 ((A i_1).2.1)])),
  (AN S.1),
  (AP S.1 (fun i_1 => [.int .i64 (S.2 i_1)])),
  (AN 0),
  (AN 0),
  (AN 0),
  (AN M),
  (AP M (fun i_1 => [.int .i64 ((A i_1).1), .int .i64 ((A i_1).2.1)])),
  (AI ((↑M : Int))),
  ((((↑i : Int) + 1) : Int) = (↑(i + 1) : Int)),
  (AN 2),
  ((1 : Nat) ≤ 1),
  ((1 : Nat) ≤ 1),
  (AI n),
  (AN M),
  (AP M (fun i_1 => [.int .i64 ((A i_1).1), .int .i64 ((A i_1).2.1)])),
  (AN 2),
  ((1 : Nat) ≤ 1),
  ((1 : Nat) ≤ 1),
  (AI 0),
  (AN 2),
  ((1 : Nat) ≤ 1),
  ((1 : Nat) ≤ 1),
  (AI n),
  (AN 0),
  (AN ((c + 1))),
  (AN 2),
  (((c + 1) : Nat) ≤ (c + 1)),
  (∀ i_1 : Nat, (((i_1 : Nat) < (c + 1)) → (All (cvtL false [(2, ⟨true, 2, 1, (fun i_2 => [.p (.int .i64 n), .ar 2 452 0 (c + 1)])⟩), (452, ⟨false, 2, (c + 1), (fun i_2 => (if (i_2 < c) then [.p (.int .i64 ((h i_2).1)), .p (.int .i64 ((h i_2).2.1))] else [.p (.int .i64 ((A i).1)), .p (.int .i64 ((A i).2.1))]))⟩), (420, ⟨false, 2, 1, (fun i_2 => [.p (.int .i64 ((A i).1)), .p (.int .i64 ((A i).2.1))])⟩), (132, ⟨true, 2, 1, (fun i_2 => [.p (.int .i64 ((A i).1)), .p (.int .i64 ((A i).2.1))])⟩), (0, ⟨true, 2, 1, (fun i_2 => [.p (.int .i64 n), .p (.seq true 2 M (fun i_3 => [.int .i64 ((A i_3).1), .int .i64 ((A i_3).2.1)]))])⟩), (1, ⟨true, 2, 1, (fun i_2 => [.p (.int .i64 0), .p (.nil)])⟩)] [0, 1, 2, 452] 1 (if (i_1 < c) then [.p (.int .i64 ((h i_1).1)), .p (.int .i64 ((h i_1).2.1))] else [.p (.int .i64 ((A i).1)), .p (.int .i64 ((A i).2.1))])).2 ∧ (((cvtL false [(2, ⟨true, 2, 1, (fun i_2 => [.p (.int .i64 n), .ar 2 452 0 (c + 1)])⟩), (452, ⟨false, 2, (c + 1), (fun i_2 => (if (i_2 < c) then [.p (.int .i64 ((h i_2).1)), .p (.int .i64 ((h i_2).2.1))] else [.p (.int .i64 ((A i).1)), .p (.int .i64 ((A i).2.1))]))⟩), (420, ⟨false, 2, 1, (fun i_2 => [.p (.int .i64 ((A i).1)), .p (.int .i64 ((A i).2.1))])⟩), (132, ⟨true, 2, 1, (fun i_2 => [.p (.int .i64 ((A i).1)), .p (.int .i64 ((A i).2.1))])⟩), (0, ⟨true, 2, 1, (fun i_2 => [.p (.int .i64 n), .p (.seq true 2 M (fun i_3 => [.int .i64 ((A i_3).1), .int .i64 ((A i_3).2.1)]))])⟩), (1, ⟨true, 2, 1, (fun i_2 => [.p (.int .i64 0), .p (.nil)])⟩)] [0, 1, 2, 452] 1 (if (i_1 < c) then [.p (.int .i64 ((h i_1).1)), .p (.int .i64 ((h i_1).2.1))] else [.p (.int .i64 ((A i).1)), .p (.int .i64 ((A i).2.1))])).1 : List AV) = [.p (.int .i64 (if i_1 < c then (h i_1).1 else (A i).1)), .p (.int .i64 (if i_1 < c then (h i_1).2.1 else (A i).2.1))]))))]) := by kernel_rfl
theorem eOf (n : Int) (M : Nat) (A : Nat → T_Bar) (S : T_IntS) (i c : Nat) (h : Nat → T_Bar) :
    pieceOb Try.prog 0 [.reg [oT], .dec true, .reg [oT, oT, oT, oT, oT, oT], .reg [oT, oT, ⟨true, (some ⟨[], [], [], 1, [], .p (.bool false)⟩), none⟩], .dec false, .reg [oT, oT], .head] [.code (cAt (bodyOf Try.f124) [1, 1, 0, 1, 0, 0]), .inLoop (cAt (bodyOf Try.f124) [1, 1, 0, 1, 0, 0]), .inBlock 0, .code (cAt (bodyOf Try.f124) [1, 1, 1])] (SOb n M A S i c h) [0, 1, 2, 3] 1 (SOb n M A S (i + 1) c h) =
    some ([.code (cAt (bodyOf Try.f124) [1, 1, 0, 1, 0, 0]), .inLoop (cAt (bodyOf Try.f124) [1, 1, 0, 1, 0, 0]), .inBlock 0, .code (cAt (bodyOf Try.f124) [1, 1, 1])], [((decide ((↑i : Int) < (↑M : Int))) = true),
  ((0 : Int) ≤ (↑i : Int)),
  (((↑i : Int) : Int) < (↑M : Int)),
  ((0 : Nat) < 1),
  ((true = true) → (AN 1)),
  Con Try.prog 83 0 [] [.p (.seq true 1 S.1 (fun i_1 => [.int .i64 (S.2 i_1)])), .p (.int .i64 (↑i : Int))] [] (.p (.bool false)),
  (false = false),
  (((-9223372036854775808) : Int) ≤ ((↑i : Int) + 1)),
  ((((↑i : Int) + 1) : Int) ≤ 9223372036854775807),
  (AI n),
  (AN M),
  (AP M (fun i_1 => [.int .i64 ((A i_1).1), .int .i64 ((A i_1).2.1)])),
  (AN S.1),
  (AP S.1 (fun i_1 => [.int .i64 (S.2 i_1)])),
  (AN 0),
  (AN 0),
  (AN 0),
  (AN M),
  (AP M (fun i_1 => [.int .i64 ((A i_1).1), .int .i64 ((A i_1).2.1)])),
  (AI ((↑M : Int))),
  ((((↑i : Int) + 1) : Int) = (↑(i + 1) : Int)),
  (AN 2),
  ((1 : Nat) ≤ 1),
  ((1 : Nat) ≤ 1),
  (AI n),
  (AN M),
  (AP M (fun i_1 => [.int .i64 ((A i_1).1), .int .i64 ((A i_1).2.1)])),
  (AN 2),
  ((1 : Nat) ≤ 1),
  ((1 : Nat) ≤ 1),
  (AI 0),
  (AN 2),
  ((1 : Nat) ≤ 1),
  ((1 : Nat) ≤ 1),
  (AI n),
  (AN 0),
  (AN c),
  (AN 2),
  ((c : Nat) ≤ c),
  (AA c (fun i_1 => [.p (.int .i64 ((h i_1).1)), .p (.int .i64 ((h i_1).2.1))]))]) := by kernel_rfl
theorem eOe (n : Int) (M : Nat) (A : Nat → T_Bar) (S : T_IntS) (i c : Nat) (h : Nat → T_Bar) :
    pathOb Try.prog Try.f124 0 [.reg [oT], .dec false, .reg [oT, oT]] [.code (cAt (bodyOf Try.f124) [1, 1, 0, 1, 0, 0]), .inLoop (cAt (bodyOf Try.f124) [1, 1, 0, 1, 0, 0]), .inBlock 0, .code (cAt (bodyOf Try.f124) [1, 1, 1])] (SOb n M A S i c h) [3] 1 [(0, brOb c h)] (.agg [.p (.int .i64 n), .ar 2 0 0 c]) =
    some [((decide ((↑i : Int) < (↑M : Int))) = false),
  ((0 : Nat) < 1),
  ((0 : Nat) < 1),
  ((true = true) → (AN 1)),
  ((0 : Nat) < 1),
  (AI n),
  (AN 0),
  (AN c),
  (AN 2),
  ((c : Nat) ≤ c),
  (AA c (fun i_1 => [.p (.int .i64 ((h i_1).1)), .p (.int .i64 ((h i_1).2.1))])),
  (AE c)] := by kernel_rfl
theorem eIy (n : Int) :
    pathOb Try.prog Try.f89 0 [.reg [oT, oT], .reg [oT, oT], .reg [oT, ⟨true, (some ⟨[], [], [], 1, [], .p (.bool false)⟩), none⟩, oT], .dec true, .reg [oT, oT, oT]] [.code (bodyOf Try.f89)] (start Try.f89 [] 0 [.p (.int .i64 n)]) [64] 1 [(0, gsOb n 0 (fun _ => (0, fun _ => (0, 0, ()))))] (.tup [.ar 2 0 0 0, .p (.bool false)]) =
    some [Con Try.prog 115 0 [] [.p (.int .i64 n), .p (.int .i64 1), .p (.int .i64 5)] [] (.p (.bool false)),
  ((!false) = true),
  (AN 0),
  (AN 0),
  (false = false),
  (AN 2),
  ((0 : Nat) ≤ 0),
  (∀ i : Nat, (((i : Nat) < 0) → (All [] ∧ (([.p (.int .i64 0), .p (.nil)] : List AV) = [.p (.int .i64 n), .p (.seq false 2 0 (fun i_1 => [.int .i64 0, .int .i64 0]))])))),
  (∀ i : Nat, (((i : Nat) < 0) → All [(false = false), (AE 0)]))] := by kernel_rfl
theorem eIz (n : Nat) (M : Nat) (A : Nat → T_Bar) :
    pieceOb Try.prog 0 [.reg [oT, oT], .reg [oT, oT], .reg [oT, ⟨true, (some ⟨[], [], [], 1, [], .p (.bool true)⟩), none⟩, oT], .dec false, .reg [oT, ⟨true, (some ⟨[], [], [], 1, [(0, brOb M A)], .agg [.p (.int .i64 n), .ar 2 0 0 M]⟩), none⟩, oT, oT], .reg [oT, oT, oT, oT, oT], .head] [.code (bodyOf Try.f89)] (start Try.f89 [] 0 [.p (.int .i64 n)]) [64, 288, 256] 1 (SRgi n M A 0 0 (fun _ => (0, fun _ => (0, 0, ())))) =
    some ([.code (cAt (bodyOf Try.f89) [1, 1, 1, 1, 0, 1, 0, 0]), .inLoop (cAt (bodyOf Try.f89) [1, 1, 1, 1, 0, 1, 0, 0]), .inBlock 0, .code (cAt (bodyOf Try.f89) [1, 1, 1, 1, 1])], [Con Try.prog 115 0 [] [.p (.int .i64 (↑n : Int)), .p (.int .i64 1), .p (.int .i64 5)] [] (.p (.bool true)),
  ((!true) = false),
  Con Try.prog 122 0 [] [.p (.int .i64 (↑n : Int))] [(0, ⟨false, 2, M, (fun i => [.p (.int .i64 ((A i).1)), .p (.int .i64 ((A i).2.1))])⟩)] (.agg [.p (.int .i64 (↑n : Int)), .ar 2 0 0 M]),
  ((0 : Nat) < 1),
  ((true = true) → (AN 1)),
  ((0 : Nat) < 1),
  ((0 : Int) ≤ (↑M : Int)),
  (AI ((↑n : Int))),
  (AN 0),
  (AN 0),
  (AN 0),
  (AI ((shlI IntKind.i64 1 (↑M : Int)))),
  ((0 : Int) = (↑0 : Int)),
  (AN 2),
  ((0 : Nat) ≤ 0),
  (∀ i : Nat, (((i : Nat) < 0) → (All [] ∧ (([.p (.int .i64 0), .p (.nil)] : List AV) = [.p (.int .i64 (↑n : Int)), .p (.seq false 2 0 (fun i_1 => [.int .i64 0, .int .i64 0]))])))),
  ((((List.map (fun v => AV.p (absV v)) [Value.int IntKind.i64 0, Value.slice none 0 0]).length) : Nat) = 2),
  ((1 : Nat) ≤ 1),
  ((1 : Nat) ≤ 1),
  (AI ((↑n : Int))),
  (AN 0),
  (AN M),
  (AN 2),
  ((M : Nat) ≤ M),
  (AA M (fun i => [.p (.int .i64 ((A i).1)), .p (.int .i64 ((A i).2.1))]))]) := by kernel_rfl
theorem eI1 (n : Nat) (M : Nat) (A : Nat → T_Bar) (w c : Nat) (G : Nat → T_BarS) (S : T_IntS) :
    pieceOb Try.prog 0 [.reg [oT], .dec true, .reg [oT, oT], .reg [oT, oT, oT, oT, ⟨true, (some ⟨[], [], [], 1, [(0, iOb S.1 S.2)], .ar 1 0 0 S.1⟩), none⟩, oT], .reg [oT, oT, oT, oT, oT, oT, oT], .dec true, .reg [oT, oT], .head] [.code (cAt (bodyOf Try.f89) [1, 1, 1, 1, 0, 1, 0, 0]), .inLoop (cAt (bodyOf Try.f89) [1, 1, 1, 1, 0, 1, 0, 0]), .inBlock 0, .code (cAt (bodyOf Try.f89) [1, 1, 1, 1, 1])] (SRgi n M A w c G) [0, 1, 2] 1 (SRgi n M A (w + 1) c G) =
    some ([.code (cAt (bodyOf Try.f89) [1, 1, 1, 1, 0, 1, 0, 0]), .inLoop (cAt (bodyOf Try.f89) [1, 1, 1, 1, 0, 1, 0, 0]), .inBlock 0, .code (cAt (bodyOf Try.f89) [1, 1, 1, 1, 1])], [((decide ((↑w : Int) < shlI IntKind.i64 1 (↑M : Int))) = true),
  ((0 : Nat) < 1),
  Con Try.prog 123 0 [] [.p (.int .i64 (↑w : Int)), .p (.int .i64 (↑M : Int))] [(0, ⟨false, 1, S.1, (fun i => [.p (.int .i64 (S.2 i))])⟩)] (.ar 1 0 0 S.1),
  (((-9223372036854775808) : Int) ≤ (2 * (↑n : Int))),
  (((2 * (↑n : Int)) : Int) ≤ 9223372036854775807),
  (((-9223372036854775808) : Int) ≤ (2 * (↑n : Int) - 3)),
  (((2 * (↑n : Int) - 3) : Int) ≤ 9223372036854775807),
  (((↑S.1 : Int) != if true = true then if 2 * (↑n : Int) - 3 > 0 then 2 * (↑n : Int) - 3 else 0 else if 2 * (↑n : Int) - 3 < 0 then 2 * (↑n : Int) - 3 else 0) = true),
  (((-9223372036854775808) : Int) ≤ ((↑w : Int) + 1)),
  ((((↑w : Int) + 1) : Int) ≤ 9223372036854775807),
  (AI ((↑n : Int))),
  (AN 0),
  (AN c),
  (AN 0),
  (AI ((shlI IntKind.i64 1 (↑M : Int)))),
  ((((↑w : Int) + 1) : Int) = (↑(w + 1) : Int)),
  (AN 2),
  ((c : Nat) ≤ c),
  (AA c (fun i => [.p (.int .i64 (↑n : Int)), .p (.seq false 2 ((G i).1) (fun i_1 => [.int .i64 (((G i).2 i_1).1), .int .i64 (((G i).2 i_1).2.1)]))])),
  (AN 2),
  ((1 : Nat) ≤ 1),
  ((1 : Nat) ≤ 1),
  (AI ((↑n : Int))),
  (AN 0),
  (AN M),
  (AN 2),
  ((M : Nat) ≤ M),
  (AA M (fun i => [.p (.int .i64 ((A i).1)), .p (.int .i64 ((A i).2.1))]))]) := by kernel_rfl
theorem eI2 (n : Nat) (M : Nat) (A : Nat → T_Bar) (w c : Nat) (G : Nat → T_BarS) (S : T_IntS) (x : T_BarS) :
    pieceOb Try.prog 0 [.reg [oT], .dec true, .reg [oT, oT], .reg [oT, oT, oT, oT, ⟨true, (some ⟨[], [], [], 1, [(0, iOb S.1 S.2)], .ar 1 0 0 S.1⟩), none⟩, oT], .reg [oT, oT, oT, oT, oT, oT, oT], .dec false, .reg [oT, oT, ⟨true, (some ⟨[], [], [], 1, [(0, brOb x.1 x.2)], .agg [.p (.int .i64 n), .ar 2 0 0 x.1]⟩), none⟩, oT, oT], .reg [oT, ⟨true, (some ⟨[], [], [], 1, [], .p (.bool true)⟩), none⟩], .dec true, .reg [oT, oT, oT, oT, oT], .reg [oT, oT], .head] [.code (cAt (bodyOf Try.f89) [1, 1, 1, 1, 0, 1, 0, 0]), .inLoop (cAt (bodyOf Try.f89) [1, 1, 1, 1, 0, 1, 0, 0]), .inBlock 0, .code (cAt (bodyOf Try.f89) [1, 1, 1, 1, 1])] (SRgi n M A w c G) [835, 1, 2] 1 (SRgi n M A (w + 1) (c + 1) (snocB c G x)) =
    some ([.code (cAt (bodyOf Try.f89) [1, 1, 1, 1, 0, 1, 0, 0]), .inLoop (cAt (bodyOf Try.f89) [1, 1, 1, 1, 0, 1, 0, 0]), .inBlock 0, .code (cAt (bodyOf Try.f89) [1, 1, 1, 1, 1])], [((decide ((↑w : Int) < shlI IntKind.i64 1 (↑M : Int))) = true),
  ((0 : Nat) < 1),
  Con Try.prog 123 0 [] [.p (.int .i64 (↑w : Int)), .p (.int .i64 (↑M : Int))] [(0, ⟨false, 1, S.1, (fun i => [.p (.int .i64 (S.2 i))])⟩)] (.ar 1 0 0 S.1),
  (((-9223372036854775808) : Int) ≤ (2 * (↑n : Int))),
  (((2 * (↑n : Int)) : Int) ≤ 9223372036854775807),
  (((-9223372036854775808) : Int) ≤ (2 * (↑n : Int) - 3)),
  (((2 * (↑n : Int) - 3) : Int) ≤ 9223372036854775807),
  (((↑S.1 : Int) != if true = true then if 2 * (↑n : Int) - 3 > 0 then 2 * (↑n : Int) - 3 else 0 else if 2 * (↑n : Int) - 3 < 0 then 2 * (↑n : Int) - 3 else 0) = false),
  ((0 : Nat) < 1),
  (AN 2),
  ((M : Nat) ≤ M),
  (AN 1),
  ((S.1 : Nat) ≤ S.1),
  Con Try.prog 124 0 [] [.agg [.p (.int .i64 (↑n : Int)), .p (.seq true 2 M (fun i => [.int .i64 ((A i).1), .int .i64 ((A i).2.1)]))], .p (.seq true 1 S.1 (fun i => [.int .i64 (S.2 i)]))] [(0, ⟨false, 2, x.1, (fun i => [.p (.int .i64 ((x.2 i).1)), .p (.int .i64 ((x.2 i).2.1))])⟩)] (.agg [.p (.int .i64 (↑n : Int)), .ar 2 0 0 x.1]),
  ((0 : Nat) < 1),
  ((true = true) → (AN 1)),
  ((0 : Nat) < 1),
  (AN 2),
  ((x.1 : Nat) ≤ x.1),
  Con Try.prog 125 0 [] [.agg [.p (.int .i64 (↑n : Int)), .p (.seq true 2 x.1 (fun i => [.int .i64 ((x.2 i).1), .int .i64 ((x.2 i).2.1)]))]] [] (.p (.bool true)),
  (true = true),
  ((0 : Nat) < 1),
  ((1 : Nat) ≤ 1),
  ((c : Nat) ≤ c),
  ((((c + 1) * 32) : Nat) ≤ 140737488355328),
  (((c + 1) : Nat) ≤ 9223372036854775807),
  (((-9223372036854775808) : Int) ≤ ((↑w : Int) + 1)),
  ((((↑w : Int) + 1) : Int) ≤ 9223372036854775807),
  (AI ((↑n : Int))),
  (AN 0),
  (AN ((c + 1))),
  (AN 0),
  (AI ((shlI IntKind.i64 1 (↑M : Int)))),
  ((((↑w : Int) + 1) : Int) = (↑(w + 1) : Int)),
  (AN 2),
  (((c + 1) : Nat) ≤ (c + 1)),
  (∀ i : Nat, (((i : Nat) < (c + 1)) → (All (cvtL false [(835, ⟨false, 2, (c + 1), (fun i_1 => (if (i_1 < c) then [.p (.int .i64 (↑n : Int)), .p (.seq false 2 ((G i_1).1) (fun i_2 => [.int .i64 (((G i_1).2 i_2).1), .int .i64 (((G i_1).2 i_2).2.1)]))] else [.p (.int .i64 (↑n : Int)), .ar 2 579 0 x.1]))⟩), (803, ⟨false, 2, 1, (fun i_1 => [.p (.int .i64 (↑n : Int)), .ar 2 579 0 x.1])⟩), (611, ⟨true, 2, 1, (fun i_1 => [.p (.int .i64 (↑n : Int)), .ar 2 579 0 x.1])⟩), (579, ⟨false, 2, x.1, (fun i_1 => [.p (.int .i64 ((x.2 i_1).1)), .p (.int .i64 ((x.2 i_1).2.1))])⟩), (227, ⟨false, 1, S.1, (fun i_1 => [.p (.int .i64 (S.2 i_1))])⟩), (1, ⟨true, 2, 1, (fun i_1 => [.p (.int .i64 (↑n : Int)), .ar 2 2 0 M])⟩), (2, ⟨false, 2, M, (fun i_1 => [.p (.int .i64 ((A i_1).1)), .p (.int .i64 ((A i_1).2.1))])⟩)] [835, 1, 2] 1 (if (i < c) then [.p (.int .i64 (↑n : Int)), .p (.seq false 2 ((G i).1) (fun i_1 => [.int .i64 (((G i).2 i_1).1), .int .i64 (((G i).2 i_1).2.1)]))] else [.p (.int .i64 (↑n : Int)), .ar 2 579 0 x.1])).2 ∧ (((cvtL false [(835, ⟨false, 2, (c + 1), (fun i_1 => (if (i_1 < c) then [.p (.int .i64 (↑n : Int)), .p (.seq false 2 ((G i_1).1) (fun i_2 => [.int .i64 (((G i_1).2 i_2).1), .int .i64 (((G i_1).2 i_2).2.1)]))] else [.p (.int .i64 (↑n : Int)), .ar 2 579 0 x.1]))⟩), (803, ⟨false, 2, 1, (fun i_1 => [.p (.int .i64 (↑n : Int)), .ar 2 579 0 x.1])⟩), (611, ⟨true, 2, 1, (fun i_1 => [.p (.int .i64 (↑n : Int)), .ar 2 579 0 x.1])⟩), (579, ⟨false, 2, x.1, (fun i_1 => [.p (.int .i64 ((x.2 i_1).1)), .p (.int .i64 ((x.2 i_1).2.1))])⟩), (227, ⟨false, 1, S.1, (fun i_1 => [.p (.int .i64 (S.2 i_1))])⟩), (1, ⟨true, 2, 1, (fun i_1 => [.p (.int .i64 (↑n : Int)), .ar 2 2 0 M])⟩), (2, ⟨false, 2, M, (fun i_1 => [.p (.int .i64 ((A i_1).1)), .p (.int .i64 ((A i_1).2.1))])⟩)] [835, 1, 2] 1 (if (i < c) then [.p (.int .i64 (↑n : Int)), .p (.seq false 2 ((G i).1) (fun i_1 => [.int .i64 (((G i).2 i_1).1), .int .i64 (((G i).2 i_1).2.1)]))] else [.p (.int .i64 (↑n : Int)), .ar 2 579 0 x.1])).1 : List AV) = [.p (.int .i64 (↑n : Int)), .p (.seq false 2 (if i < c then (G i).1 else x.1) (fun i_1 => [.int .i64 (if i < c then ((G i).2 i_1).1 else (x.2 i_1).1), .int .i64 (if i < c then ((G i).2 i_1).2.1 else (x.2 i_1).2.1)]))])))),
  (AN 2),
  ((1 : Nat) ≤ 1),
  ((1 : Nat) ≤ 1),
  (AI ((↑n : Int))),
  (AN 0),
  (AN M),
  (AN 2),
  ((M : Nat) ≤ M),
  (AA M (fun i => [.p (.int .i64 ((A i).1)), .p (.int .i64 ((A i).2.1))]))]) := by kernel_rfl
theorem eI3 (n : Nat) (M : Nat) (A : Nat → T_Bar) (w c : Nat) (G : Nat → T_BarS) (S : T_IntS) (x : T_BarS) :
    pieceOb Try.prog 0 [.reg [oT], .dec true, .reg [oT, oT], .reg [oT, oT, oT, oT, ⟨true, (some ⟨[], [], [], 1, [(0, iOb S.1 S.2)], .ar 1 0 0 S.1⟩), none⟩, oT], .reg [oT, oT, oT, oT, oT, oT, oT], .dec false, .reg [oT, oT, ⟨true, (some ⟨[], [], [], 1, [(0, brOb x.1 x.2)], .agg [.p (.int .i64 n), .ar 2 0 0 x.1]⟩), none⟩, oT, oT], .reg [oT, ⟨true, (some ⟨[], [], [], 1, [], .p (.bool false)⟩), none⟩], .dec false, .reg [oT, oT], .head] [.code (cAt (bodyOf Try.f89) [1, 1, 1, 1, 0, 1, 0, 0]), .inLoop (cAt (bodyOf Try.f89) [1, 1, 1, 1, 0, 1, 0, 0]), .inBlock 0, .code (cAt (bodyOf Try.f89) [1, 1, 1, 1, 1])] (SRgi n M A w c G) [0, 1, 2] 1 (SRgi n M A (w + 1) c G) =
    some ([.code (cAt (bodyOf Try.f89) [1, 1, 1, 1, 0, 1, 0, 0]), .inLoop (cAt (bodyOf Try.f89) [1, 1, 1, 1, 0, 1, 0, 0]), .inBlock 0, .code (cAt (bodyOf Try.f89) [1, 1, 1, 1, 1])], [((decide ((↑w : Int) < shlI IntKind.i64 1 (↑M : Int))) = true),
  ((0 : Nat) < 1),
  Con Try.prog 123 0 [] [.p (.int .i64 (↑w : Int)), .p (.int .i64 (↑M : Int))] [(0, ⟨false, 1, S.1, (fun i => [.p (.int .i64 (S.2 i))])⟩)] (.ar 1 0 0 S.1),
  (((-9223372036854775808) : Int) ≤ (2 * (↑n : Int))),
  (((2 * (↑n : Int)) : Int) ≤ 9223372036854775807),
  (((-9223372036854775808) : Int) ≤ (2 * (↑n : Int) - 3)),
  (((2 * (↑n : Int) - 3) : Int) ≤ 9223372036854775807),
  (((↑S.1 : Int) != if true = true then if 2 * (↑n : Int) - 3 > 0 then 2 * (↑n : Int) - 3 else 0 else if 2 * (↑n : Int) - 3 < 0 then 2 * (↑n : Int) - 3 else 0) = false),
  ((0 : Nat) < 1),
  (AN 2),
  ((M : Nat) ≤ M),
  (AN 1),
  ((S.1 : Nat) ≤ S.1),
  Con Try.prog 124 0 [] [.agg [.p (.int .i64 (↑n : Int)), .p (.seq true 2 M (fun i => [.int .i64 ((A i).1), .int .i64 ((A i).2.1)]))], .p (.seq true 1 S.1 (fun i => [.int .i64 (S.2 i)]))] [(0, ⟨false, 2, x.1, (fun i => [.p (.int .i64 ((x.2 i).1)), .p (.int .i64 ((x.2 i).2.1))])⟩)] (.agg [.p (.int .i64 (↑n : Int)), .ar 2 0 0 x.1]),
  ((0 : Nat) < 1),
  ((true = true) → (AN 1)),
  ((0 : Nat) < 1),
  (AN 2),
  ((x.1 : Nat) ≤ x.1),
  Con Try.prog 125 0 [] [.agg [.p (.int .i64 (↑n : Int)), .p (.seq true 2 x.1 (fun i => [.int .i64 ((x.2 i).1), .int .i64 ((x.2 i).2.1)]))]] [] (.p (.bool false)),
  (false = false),
  (((-9223372036854775808) : Int) ≤ ((↑w : Int) + 1)),
  ((((↑w : Int) + 1) : Int) ≤ 9223372036854775807),
  (AI ((↑n : Int))),
  (AN 0),
  (AN c),
  (AN 0),
  (AI ((shlI IntKind.i64 1 (↑M : Int)))),
  ((((↑w : Int) + 1) : Int) = (↑(w + 1) : Int)),
  (AN 2),
  ((c : Nat) ≤ c),
  (AA c (fun i => [.p (.int .i64 (↑n : Int)), .p (.seq false 2 ((G i).1) (fun i_1 => [.int .i64 (((G i).2 i_1).1), .int .i64 (((G i).2 i_1).2.1)]))])),
  (AN 2),
  ((1 : Nat) ≤ 1),
  ((1 : Nat) ≤ 1),
  (AI ((↑n : Int))),
  (AN 0),
  (AN M),
  (AN 2),
  ((M : Nat) ≤ M),
  (AA M (fun i => [.p (.int .i64 ((A i).1)), .p (.int .i64 ((A i).2.1))]))]) := by kernel_rfl
theorem eIe (n : Nat) (M : Nat) (A : Nat → T_Bar) (w c : Nat) (G : Nat → T_BarS) :
    pathOb Try.prog Try.f89 0 [.reg [oT], .dec false, .reg [oT, oT, oT]] [.code (cAt (bodyOf Try.f89) [1, 1, 1, 1, 0, 1, 0, 0]), .inLoop (cAt (bodyOf Try.f89) [1, 1, 1, 1, 0, 1, 0, 0]), .inBlock 0, .code (cAt (bodyOf Try.f89) [1, 1, 1, 1, 1])] (SRgi n M A w c G) [0] 1 [(0, gsOb n c G)] (.tup [.ar 2 0 0 c, .p (.bool true)]) =
    some [((decide ((↑w : Int) < shlI IntKind.i64 1 (↑M : Int))) = false),
  (AN 0),
  (AN c),
  (true = true),
  (AN 2),
  ((c : Nat) ≤ c),
  (AA c (fun i => [.p (.int .i64 (↑n : Int)), .p (.seq false 2 ((G i).1) (fun i_1 => [.int .i64 (((G i).2 i_1).1), .int .i64 (((G i).2 i_1).2.1)]))])),
  (∀ i : Nat, (((i : Nat) < c) → All [(false = false), (AE (((G i).1)))]))] := by kernel_rfl
theorem eCz (n : Nat) (tg' : Int) (M : Nat) (A : Nat → T_Bar) :
    pieceOb Try.prog 0 [.reg [oT], .reg [oT, oT], .reg [oT], .head] [.code (bodyOf Try.f120)] (start Try.f120 [] 0 [brL A M, .p (.int .i64 n), .p (.int .i64 tg')]) [32] 1 (SRgs n tg' M A 0 0 (fun _ => (0, fun _ => (0, 0, ())))) =
    some ([.code (cAt (bodyOf Try.f120) [1, 1, 0, 1, 0, 0]), .inLoop (cAt (bodyOf Try.f120) [1, 1, 0, 1, 0, 0]), .inBlock 0, .code (cAt (bodyOf Try.f120) [1, 1, 1])], [(AN M),
  (AP M (fun i => [.int .i64 ((A i).1), .int .i64 ((A i).2.1)])),
  (AI ((↑n : Int))),
  (AI (tg')),
  (AN 0),
  (AN 0),
  ((0 : Int) = (↑0 : Int)),
  (AN 2),
  ((0 : Nat) ≤ 0),
  (∀ i : Nat, (((i : Nat) < 0) → (All [] ∧ (([.p (.int .i64 0), .p (.nil)] : List AV) = [.p (.int .i64 (↑n : Int)), .p (.seq false 2 0 (fun i_1 => [.int .i64 0, .int .i64 0]))]))))]) := by kernel_rfl
theorem eC1 (n : Nat) (tg' : Int) (M : Nat) (A : Nat → T_Bar) (w c : Nat) (G : Nat → T_BarS) :
    pieceOb Try.prog 0 [.reg [oT, oT, oT, oT, oT], .dec true, .reg [oT, oT, oT, oT, oT], .reg [oT], .head] [.code (cAt (bodyOf Try.f120) [1, 1, 0, 1, 0, 0]), .inLoop (cAt (bodyOf Try.f120) [1, 1, 0, 1, 0, 0]), .inBlock 0, .code (cAt (bodyOf Try.f120) [1, 1, 1])] (SRgs n tg' M A w c G) [0, 257, 193] 1 (SRs1 n tg' M A w c G 0 0 (fun _ => (0, 0, ()))) =
    some ([.code (cAt (bodyOf Try.f120) [1, 1, 0, 1, 0, 0, 1, 0, 0, 1, 0, 1, 0, 0]), .inLoop (cAt (bodyOf Try.f120) [1, 1, 0, 1, 0, 0, 1, 0, 0, 1, 0, 1, 0, 0]), .inBlock 2, .code (cAt (bodyOf Try.f120) [1, 1, 0, 1, 0, 0, 1, 0, 0, 1, 1]), .inBlock 1, .code (cAt (bodyOf Try.f120) [1, 1, 0, 1, 0, 0, 1, 1]), .inLoop (cAt (bodyOf Try.f120) [1, 1, 0, 1, 0, 0]), .inBlock 0, .code (cAt (bodyOf Try.f120) [1, 1, 1])], [((0 : Int) ≤ (↑M : Int)),
  ((decide ((↑w : Int) < shlI IntKind.i64 1 (↑M : Int))) = true),
  ((0 : Nat) < 1),
  ((true = true) → (AN 1)),
  (AN M),
  (AP M (fun i => [.int .i64 ((A i).1), .int .i64 ((A i).2.1)])),
  (AI ((↑n : Int))),
  (AI (tg')),
  (AN 0),
  (AN c),
  (AI ((↑w : Int))),
  (AN 0),
  ((0 : Int) = (↑0 : Int)),
  (AN 2),
  ((c : Nat) ≤ c),
  (AA c (fun i => [.p (.int .i64 (↑n : Int)), .p (.seq false 2 ((G i).1) (fun i_1 => [.int .i64 (((G i).2 i_1).1), .int .i64 (((G i).2 i_1).2.1)]))])),
  ((((List.map (fun v => AV.p (absV v)) [Value.int IntKind.i64 0, Value.slice none 0 0]).length) : Nat) = 2),
  ((1 : Nat) ≤ 1),
  ((1 : Nat) ≤ 1),
  (AI ((↑n : Int))),
  (AN 0),
  (AN 0),
  (AN 2),
  ((0 : Nat) ≤ 0),
  (AA 0 (fun i => [.p (.int .i64 0), .p (.int .i64 0)]))]) := by kernel_rfl
theorem eCe (n : Nat) (tg' : Int) (M : Nat) (A : Nat → T_Bar) (w c : Nat) (G : Nat → T_BarS) :
    pathOb Try.prog Try.f120 0 [.reg [oT, oT, oT, oT, oT], .dec false, .reg [oT, oT]] [.code (cAt (bodyOf Try.f120) [1, 1, 0, 1, 0, 0]), .inLoop (cAt (bodyOf Try.f120) [1, 1, 0, 1, 0, 0]), .inBlock 0, .code (cAt (bodyOf Try.f120) [1, 1, 1])] (SRgs n tg' M A w c G) [0] 1 [(0, gsOb n c G)] (.ar 2 0 0 c) =
    some [((0 : Int) ≤ (↑M : Int)),
  ((decide ((↑w : Int) < shlI IntKind.i64 1 (↑M : Int))) = false),
  (AN 0),
  (AN c),
  (AN 2),
  ((c : Nat) ≤ c),
  (AA c (fun i => [.p (.int .i64 (↑n : Int)), .p (.seq false 2 ((G i).1) (fun i_1 => [.int .i64 (((G i).2 i_1).1), .int .i64 (((G i).2 i_1).2.1)]))])),
  (∀ i : Nat, (((i : Nat) < c) → All [(false = false), (AE (((G i).1)))]))] := by kernel_rfl
theorem eC2t (n : Nat) (tg' : Int) (M : Nat) (A : Nat → T_Bar) (w c : Nat) (G : Nat → T_BarS) (i k : Nat) (h : Nat → T_Bar) :
    pieceOb Try.prog 0 [.reg [oT, oT, oT, oT], .dec true, .reg [oT, oT, oT, oT, oT], .dec true, .reg [oT, oT, oT, oT, oT, oT, oT, oT, oT, oT], .reg [oT, oT, oT], .head] [.code (cAt (bodyOf Try.f120) [1, 1, 0, 1, 0, 0, 1, 0, 0, 1, 0, 1, 0, 0]), .inLoop (cAt (bodyOf Try.f120) [1, 1, 0, 1, 0, 0, 1, 0, 0, 1, 0, 1, 0, 0]), .inBlock 2, .code (cAt (bodyOf Try.f120) [1, 1, 0, 1, 0, 0, 1, 0, 0, 1, 1]), .inBlock 1, .code (cAt (bodyOf Try.f120) [1, 1, 0, 1, 0, 0, 1, 1]), .inLoop (cAt (bodyOf Try.f120) [1, 1, 0, 1, 0, 0]), .inBlock 0, .code (cAt (bodyOf Try.f120) [1, 1, 1])] (SRs1 n tg' M A w c G i k h) [0, 1, 515] 1 (SRs1 n tg' M A w c G (i + 1) (k + 1) (snoc k h (A i))) =
    some ([.code (cAt (bodyOf Try.f120) [1, 1, 0, 1, 0, 0, 1, 0, 0, 1, 0, 1, 0, 0]), .inLoop (cAt (bodyOf Try.f120) [1, 1, 0, 1, 0, 0, 1, 0, 0, 1, 0, 1, 0, 0]), .inBlock 2, .code (cAt (bodyOf Try.f120) [1, 1, 0, 1, 0, 0, 1, 0, 0, 1, 1]), .inBlock 1, .code (cAt (bodyOf Try.f120) [1, 1, 0, 1, 0, 0, 1, 1]), .inLoop (cAt (bodyOf Try.f120) [1, 1, 0, 1, 0, 0]), .inBlock 0, .code (cAt (bodyOf Try.f120) [1, 1, 1])], [((decide ((↑i : Int) < (↑M : Int))) = true),
  ((0 : Int) ≤ (↑i : Int)),
  ((bitI BinOp.and IntKind.i64 (shrI IntKind.i64 (↑w : Int) (↑i : Int)) 1 == 1) = true),
  ((0 : Nat) < 1),
  ((0 : Int) ≤ (↑i : Int)),
  (((↑i : Int) : Int) < (↑M : Int)),
  ((1 : Nat) ≤ 1),
  ((k : Nat) ≤ k),
  ((((k + 1) * 16) : Nat) ≤ 140737488355328),
  (((k + 1) : Nat) ≤ 9223372036854775807),
  ((0 : Nat) < 1),
  ((true = true) → (AN 1)),
  (((-9223372036854775808) : Int) ≤ ((↑i : Int) + 1)),
  ((((↑i : Int) + 1) : Int) ≤ 9223372036854775807),
  (AN M),
  (AP M (fun i_1 => [.int .i64 ((A i_1).1), .int .i64 ((A i_1).2.1)])),
  (AI ((↑n : Int))),
  (AI (tg')),
  (AN 0),
  (AN c),
  (AI ((↑w : Int))),
  (AN 0),
  ((((↑i : Int) + 1) : Int) = (↑(i + 1) : Int)),
  (AN 2),
  ((c : Nat) ≤ c),
  (AA c (fun i_1 => [.p (.int .i64 (↑n : Int)), .p (.seq false 2 ((G i_1).1) (fun i_2 => [.int .i64 (((G i_1).2 i_2).1), .int .i64 (((G i_1).2 i_2).2.1)]))])),
  (AN 2),
  ((1 : Nat) ≤ 1),
  ((1 : Nat) ≤ 1),
  (AI ((↑n : Int))),
  (AN 0),
  (AN ((k + 1))),
  (AN 2),
  (((k + 1) : Nat) ≤ (k + 1)),
  (∀ i_1 : Nat, (((i_1 : Nat) < (k + 1)) → (All (cvtL false [(1, ⟨true, 2, 1, (fun i_2 => [.p (.int .i64 (↑n : Int)), .ar 2 515 0 (k + 1)])⟩), (515, ⟨false, 2, (k + 1), (fun i_2 => (if (i_2 < k) then [.p (.int .i64 ((h i_2).1)), .p (.int .i64 ((h i_2).2.1))] else [.p (.int .i64 ((A i).1)), .p (.int .i64 ((A i).2.1))]))⟩), (483, ⟨false, 2, 1, (fun i_2 => [.p (.int .i64 ((A i).1)), .p (.int .i64 ((A i).2.1))])⟩), (0, ⟨false, 2, c, (fun i_2 => [.p (.int .i64 (↑n : Int)), .p (.seq false 2 ((G i_2).1) (fun i_3 => [.int .i64 (((G i_2).2 i_3).1), .int .i64 (((G i_2).2 i_3).2.1)]))])⟩)] [0, 1, 515] 1 (if (i_1 < k) then [.p (.int .i64 ((h i_1).1)), .p (.int .i64 ((h i_1).2.1))] else [.p (.int .i64 ((A i).1)), .p (.int .i64 ((A i).2.1))])).2 ∧ (((cvtL false [(1, ⟨true, 2, 1, (fun i_2 => [.p (.int .i64 (↑n : Int)), .ar 2 515 0 (k + 1)])⟩), (515, ⟨false, 2, (k + 1), (fun i_2 => (if (i_2 < k) then [.p (.int .i64 ((h i_2).1)), .p (.int .i64 ((h i_2).2.1))] else [.p (.int .i64 ((A i).1)), .p (.int .i64 ((A i).2.1))]))⟩), (483, ⟨false, 2, 1, (fun i_2 => [.p (.int .i64 ((A i).1)), .p (.int .i64 ((A i).2.1))])⟩), (0, ⟨false, 2, c, (fun i_2 => [.p (.int .i64 (↑n : Int)), .p (.seq false 2 ((G i_2).1) (fun i_3 => [.int .i64 (((G i_2).2 i_3).1), .int .i64 (((G i_2).2 i_3).2.1)]))])⟩)] [0, 1, 515] 1 (if (i_1 < k) then [.p (.int .i64 ((h i_1).1)), .p (.int .i64 ((h i_1).2.1))] else [.p (.int .i64 ((A i).1)), .p (.int .i64 ((A i).2.1))])).1 : List AV) = [.p (.int .i64 (if i_1 < k then (h i_1).1 else (A i).1)), .p (.int .i64 (if i_1 < k then (h i_1).2.1 else (A i).2.1))]))))]) := by kernel_rfl
theorem eC2f (n : Nat) (tg' : Int) (M : Nat) (A : Nat → T_Bar) (w c : Nat) (G : Nat → T_BarS) (i k : Nat) (h : Nat → T_Bar) :
    pieceOb Try.prog 0 [.reg [oT, oT, oT, oT], .dec true, .reg [oT, oT, oT, oT, oT], .dec false, .reg [oT, oT, oT], .head] [.code (cAt (bodyOf Try.f120) [1, 1, 0, 1, 0, 0, 1, 0, 0, 1, 0, 1, 0, 0]), .inLoop (cAt (bodyOf Try.f120) [1, 1, 0, 1, 0, 0, 1, 0, 0, 1, 0, 1, 0, 0]), .inBlock 2, .code (cAt (bodyOf Try.f120) [1, 1, 0, 1, 0, 0, 1, 0, 0, 1, 1]), .inBlock 1, .code (cAt (bodyOf Try.f120) [1, 1, 0, 1, 0, 0, 1, 1]), .inLoop (cAt (bodyOf Try.f120) [1, 1, 0, 1, 0, 0]), .inBlock 0, .code (cAt (bodyOf Try.f120) [1, 1, 1])] (SRs1 n tg' M A w c G i k h) [0, 1, 2] 1 (SRs1 n tg' M A w c G (i + 1) k h) =
    some ([.code (cAt (bodyOf Try.f120) [1, 1, 0, 1, 0, 0, 1, 0, 0, 1, 0, 1, 0, 0]), .inLoop (cAt (bodyOf Try.f120) [1, 1, 0, 1, 0, 0, 1, 0, 0, 1, 0, 1, 0, 0]), .inBlock 2, .code (cAt (bodyOf Try.f120) [1, 1, 0, 1, 0, 0, 1, 0, 0, 1, 1]), .inBlock 1, .code (cAt (bodyOf Try.f120) [1, 1, 0, 1, 0, 0, 1, 1]), .inLoop (cAt (bodyOf Try.f120) [1, 1, 0, 1, 0, 0]), .inBlock 0, .code (cAt (bodyOf Try.f120) [1, 1, 1])], [((decide ((↑i : Int) < (↑M : Int))) = true),
  ((0 : Int) ≤ (↑i : Int)),
  ((bitI BinOp.and IntKind.i64 (shrI IntKind.i64 (↑w : Int) (↑i : Int)) 1 == 1) = false),
  (((-9223372036854775808) : Int) ≤ ((↑i : Int) + 1)),
  ((((↑i : Int) + 1) : Int) ≤ 9223372036854775807),
  (AN M),
  (AP M (fun i_1 => [.int .i64 ((A i_1).1), .int .i64 ((A i_1).2.1)])),
  (AI ((↑n : Int))),
  (AI (tg')),
  (AN 0),
  (AN c),
  (AI ((↑w : Int))),
  (AN 0),
  ((((↑i : Int) + 1) : Int) = (↑(i + 1) : Int)),
  (AN 2),
  ((c : Nat) ≤ c),
  (AA c (fun i_1 => [.p (.int .i64 (↑n : Int)), .p (.seq false 2 ((G i_1).1) (fun i_2 => [.int .i64 (((G i_1).2 i_2).1), .int .i64 (((G i_1).2 i_2).2.1)]))])),
  (AN 2),
  ((1 : Nat) ≤ 1),
  ((1 : Nat) ≤ 1),
  (AI ((↑n : Int))),
  (AN 0),
  (AN k),
  (AN 2),
  ((k : Nat) ≤ k),
  (AA k (fun i_1 => [.p (.int .i64 ((h i_1).1)), .p (.int .i64 ((h i_1).2.1))]))]) := by kernel_rfl
theorem eC3t (n : Nat) (tg' : Int) (M : Nat) (A : Nat → T_Bar) (w c : Nat) (G : Nat → T_BarS) (i k : Nat) (h : Nat → T_Bar) (b : Bool) :
    pieceOb Try.prog 0 [.reg [oT, oT, oT, oT], .dec false, .reg [oT, oT, oT, oT, oT, oT, oT, ⟨true, (some ⟨[], [], [], 1, [], .p (.bool b)⟩), none⟩, oT], .dec true, .reg [oT, oT, oT, oT, oT], .reg [oT, oT, oT], .head] [.code (cAt (bodyOf Try.f120) [1, 1, 0, 1, 0, 0, 1, 0, 0, 1, 0, 1, 0, 0]), .inLoop (cAt (bodyOf Try.f120) [1, 1, 0, 1, 0, 0, 1, 0, 0, 1, 0, 1, 0, 0]), .inBlock 2, .code (cAt (bodyOf Try.f120) [1, 1, 0, 1, 0, 0, 1, 0, 0, 1, 1]), .inBlock 1, .code (cAt (bodyOf Try.f120) [1, 1, 0, 1, 0, 0, 1, 1]), .inLoop (cAt (bodyOf Try.f120) [1, 1, 0, 1, 0, 0]), .inBlock 0, .code (cAt (bodyOf Try.f120) [1, 1, 1])] (SRs1 n tg' M A w c G i k h) [515] 1 (SRgs n tg' M A (w + 1) (c + 1) (snocB c G (k, h))) =
    some ([.code (cAt (bodyOf Try.f120) [1, 1, 0, 1, 0, 0]), .inLoop (cAt (bodyOf Try.f120) [1, 1, 0, 1, 0, 0]), .inBlock 0, .code (cAt (bodyOf Try.f120) [1, 1, 1])], [((decide ((↑i : Int) < (↑M : Int))) = false),
  ((0 : Nat) < 1),
  ((((↑k : Int) == tg') = true) → ((0 : Nat) < 1)),
  (AG ((↑k : Int) == tg')),
  ((((↑k : Int) == tg') = true) → (AN 2)),
  ((((↑k : Int) == tg') = true) → ((k : Nat) ≤ k)),
  ((((↑k : Int) == tg') = true) → Con Try.prog 134 0 [] [.agg [.p (.int .i64 (↑n : Int)), .p (.seq true 2 k (fun i_1 => [.int .i64 ((h i_1).1), .int .i64 ((h i_1).2.1)]))]] [] (.p (.bool b))),
  (AG ((↑k : Int) == tg')),
  ((bif (↑k : Int) == tg' then b else false) = true),
  ((0 : Nat) < 1),
  ((1 : Nat) ≤ 1),
  ((c : Nat) ≤ c),
  ((((c + 1) * 32) : Nat) ≤ 140737488355328),
  (((c + 1) : Nat) ≤ 9223372036854775807),
  (((-9223372036854775808) : Int) ≤ ((↑w : Int) + 1)),
  ((((↑w : Int) + 1) : Int) ≤ 9223372036854775807),
  (AN M),
  (AP M (fun i_1 => [.int .i64 ((A i_1).1), .int .i64 ((A i_1).2.1)])),
  (AI ((↑n : Int))),
  (AI (tg')),
  (AN 0),
  (AN ((c + 1))),
  ((((↑w : Int) + 1) : Int) = (↑(w + 1) : Int)),
  (AN 2),
  (((c + 1) : Nat) ≤ (c + 1)),
  (∀ i_1 : Nat, (((i_1 : Nat) < (c + 1)) → (All (cvtL false [(515, ⟨false, 2, (c + 1), (fun i_2 => (if (i_2 < c) then [.p (.int .i64 (↑n : Int)), .p (.seq false 2 ((G i_2).1) (fun i_3 => [.int .i64 (((G i_2).2 i_3).1), .int .i64 (((G i_2).2 i_3).2.1)]))] else [.p (.int .i64 (↑n : Int)), .ar 2 2 0 k]))⟩), (483, ⟨false, 2, 1, (fun i_2 => [.p (.int .i64 (↑n : Int)), .ar 2 2 0 k])⟩), (1, ⟨true, 2, 1, (fun i_2 => [.p (.int .i64 (↑n : Int)), .ar 2 2 0 k])⟩), (2, ⟨false, 2, k, (fun i_2 => [.p (.int .i64 ((h i_2).1)), .p (.int .i64 ((h i_2).2.1))])⟩)] [515] 1 (if (i_1 < c) then [.p (.int .i64 (↑n : Int)), .p (.seq false 2 ((G i_1).1) (fun i_2 => [.int .i64 (((G i_1).2 i_2).1), .int .i64 (((G i_1).2 i_2).2.1)]))] else [.p (.int .i64 (↑n : Int)), .ar 2 2 0 k])).2 ∧ (((cvtL false [(515, ⟨false, 2, (c + 1), (fun i_2 => (if (i_2 < c) then [.p (.int .i64 (↑n : Int)), .p (.seq false 2 ((G i_2).1) (fun i_3 => [.int .i64 (((G i_2).2 i_3).1), .int .i64 (((G i_2).2 i_3).2.1)]))] else [.p (.int .i64 (↑n : Int)), .ar 2 2 0 k]))⟩), (483, ⟨false, 2, 1, (fun i_2 => [.p (.int .i64 (↑n : Int)), .ar 2 2 0 k])⟩), (1, ⟨true, 2, 1, (fun i_2 => [.p (.int .i64 (↑n : Int)), .ar 2 2 0 k])⟩), (2, ⟨false, 2, k, (fun i_2 => [.p (.int .i64 ((h i_2).1)), .p (.int .i64 ((h i_2).2.1))])⟩)] [515] 1 (if (i_1 < c) then [.p (.int .i64 (↑n : Int)), .p (.seq false 2 ((G i_1).1) (fun i_2 => [.int .i64 (((G i_1).2 i_2).1), .int .i64 (((G i_1).2 i_2).2.1)]))] else [.p (.int .i64 (↑n : Int)), .ar 2 2 0 k])).1 : List AV) = [.p (.int .i64 (↑n : Int)), .p (.seq false 2 (if i_1 < c then (G i_1).1 else k) (fun i_2 => [.int .i64 (if i_1 < c then ((G i_1).2 i_2).1 else ((k, h).2 i_2).1), .int .i64 (if i_1 < c then ((G i_1).2 i_2).2.1 else ((k, h).2 i_2).2.1)]))]))))]) := by kernel_rfl
theorem eC3f (n : Nat) (tg' : Int) (M : Nat) (A : Nat → T_Bar) (w c : Nat) (G : Nat → T_BarS) (i k : Nat) (h : Nat → T_Bar) (b : Bool) :
    pieceOb Try.prog 0 [.reg [oT, oT, oT, oT], .dec false, .reg [oT, oT, oT, oT, oT, oT, oT, ⟨true, (some ⟨[], [], [], 1, [], .p (.bool b)⟩), none⟩, oT], .dec false, .reg [oT, oT, oT], .head] [.code (cAt (bodyOf Try.f120) [1, 1, 0, 1, 0, 0, 1, 0, 0, 1, 0, 1, 0, 0]), .inLoop (cAt (bodyOf Try.f120) [1, 1, 0, 1, 0, 0, 1, 0, 0, 1, 0, 1, 0, 0]), .inBlock 2, .code (cAt (bodyOf Try.f120) [1, 1, 0, 1, 0, 0, 1, 0, 0, 1, 1]), .inBlock 1, .code (cAt (bodyOf Try.f120) [1, 1, 0, 1, 0, 0, 1, 1]), .inLoop (cAt (bodyOf Try.f120) [1, 1, 0, 1, 0, 0]), .inBlock 0, .code (cAt (bodyOf Try.f120) [1, 1, 1])] (SRs1 n tg' M A w c G i k h) [0] 1 (SRgs n tg' M A (w + 1) c G) =
    some ([.code (cAt (bodyOf Try.f120) [1, 1, 0, 1, 0, 0]), .inLoop (cAt (bodyOf Try.f120) [1, 1, 0, 1, 0, 0]), .inBlock 0, .code (cAt (bodyOf Try.f120) [1, 1, 1])], [((decide ((↑i : Int) < (↑M : Int))) = false),
  ((0 : Nat) < 1),
  ((((↑k : Int) == tg') = true) → ((0 : Nat) < 1)),
  (AG ((↑k : Int) == tg')),
  ((((↑k : Int) == tg') = true) → (AN 2)),
  ((((↑k : Int) == tg') = true) → ((k : Nat) ≤ k)),
  ((((↑k : Int) == tg') = true) → Con Try.prog 134 0 [] [.agg [.p (.int .i64 (↑n : Int)), .p (.seq true 2 k (fun i_1 => [.int .i64 ((h i_1).1), .int .i64 ((h i_1).2.1)]))]] [] (.p (.bool b))),
  (AG ((↑k : Int) == tg')),
  ((bif (↑k : Int) == tg' then b else false) = false),
  (((-9223372036854775808) : Int) ≤ ((↑w : Int) + 1)),
  ((((↑w : Int) + 1) : Int) ≤ 9223372036854775807),
  (AN M),
  (AP M (fun i_1 => [.int .i64 ((A i_1).1), .int .i64 ((A i_1).2.1)])),
  (AI ((↑n : Int))),
  (AI (tg')),
  (AN 0),
  (AN c),
  ((((↑w : Int) + 1) : Int) = (↑(w + 1) : Int)),
  (AN 2),
  ((c : Nat) ≤ c),
  (AA c (fun i_1 => [.p (.int .i64 (↑n : Int)), .p (.seq false 2 ((G i_1).1) (fun i_2 => [.int .i64 (((G i_1).2 i_2).1), .int .i64 (((G i_1).2 i_2).2.1)]))]))]) := by kernel_rfl
theorem eDy (n : Int) :
    pathOb Try.prog Try.f87 0 [.reg [oT, oT], .reg [oT, ⟨true, (some ⟨[], [], [], 1, [], .p (.bool false)⟩), none⟩, oT], .dec true, .reg [oT, oT, oT]] [.code (bodyOf Try.f87)] (start Try.f87 [] 0 [.p (.int .i64 n)]) [160] 1 [(0, gsOb n 0 (fun _ => (0, fun _ => (0, 0, ()))))] (.tup [.ar 2 0 0 0, .p (.bool false)]) =
    some [Con Try.prog 112 0 [] [.p (.int .i64 n), .p (.int .i64 1), .p (.int .i64 5)] [] (.p (.bool false)),
  ((!false) = true),
  (AN 0),
  (AN 0),
  (false = false),
  (AN 2),
  ((0 : Nat) ≤ 0),
  (∀ i : Nat, (((i : Nat) < 0) → (All [] ∧ (([.p (.int .i64 0), .p (.nil)] : List AV) = [.p (.int .i64 n), .p (.seq false 2 0 (fun i_1 => [.int .i64 0, .int .i64 0]))])))),
  (∀ i : Nat, (((i : Nat) < 0) → All [(false = false), (AE 0)]))] := by kernel_rfl
theorem eDz (n : Nat) (M : Nat) (A : Nat → T_Bar) (c : Nat) (G : Nat → T_BarS) :
    pathOb Try.prog Try.f87 0 [.reg [oT, oT], .reg [oT, ⟨true, (some ⟨[], [], [], 1, [], .p (.bool true)⟩), none⟩, oT], .dec false, .reg [oT, ⟨true, (some ⟨[], [], [], 1, [(0, brOb M A)], .agg [.p (.int .i64 n), .ar 2 0 0 M]⟩), none⟩, oT, oT, oT, oT, oT, oT, ⟨true, (some ⟨[], [], [], 1, [(0, gsOb n c G)], .ar 2 0 0 c⟩), none⟩, oT, oT]] [.code (bodyOf Try.f87)] (start Try.f87 [] 0 [.p (.int .i64 n)]) [416] 1 [(0, gsOb n c G)] (.tup [.ar 2 0 0 c, .p (.bool true)]) =
    some [Con Try.prog 112 0 [] [.p (.int .i64 (↑n : Int)), .p (.int .i64 1), .p (.int .i64 5)] [] (.p (.bool true)),
  ((!true) = false),
  Con Try.prog 121 0 [] [.p (.int .i64 (↑n : Int))] [(0, ⟨false, 2, M, (fun i => [.p (.int .i64 ((A i).1)), .p (.int .i64 ((A i).2.1))])⟩)] (.agg [.p (.int .i64 (↑n : Int)), .ar 2 0 0 M]),
  (((-9223372036854775808) : Int) ≤ (2 * (↑n : Int))),
  (((2 * (↑n : Int)) : Int) ≤ 9223372036854775807),
  (((-9223372036854775808) : Int) ≤ (2 * (↑n : Int) - 3)),
  (((2 * (↑n : Int) - 3) : Int) ≤ 9223372036854775807),
  (AN 2),
  ((M : Nat) ≤ M),
  Con Try.prog 120 0 [] [.p (.seq true 2 M (fun i => [.int .i64 ((A i).1), .int .i64 ((A i).2.1)])), .p (.int .i64 (↑n : Int)), .p (.int .i64 (if true = true then if 2 * (↑n : Int) - 3 > 0 then 2 * (↑n : Int) - 3 else 0 else if 2 * (↑n : Int) - 3 < 0 then 2 * (↑n : Int) - 3 else 0))] [(0, ⟨false, 2, c, (fun i => [.p (.int .i64 (↑n : Int)), .p (.seq false 2 ((G i).1) (fun i_1 => [.int .i64 (((G i).2 i_1).1), .int .i64 (((G i).2 i_1).2.1)]))])⟩)] (.ar 2 0 0 c),
  (AN 0),
  (AN c),
  (true = true),
  (AN 2),
  ((c : Nat) ≤ c),
  (AA c (fun i => [.p (.int .i64 (↑n : Int)), .p (.seq false 2 ((G i).1) (fun i_1 => [.int .i64 (((G i).2 i_1).1), .int .i64 (((G i).2 i_1).2.1)]))])),
  (∀ i : Nat, (((i : Nat) < c) → All [(false = false), (AE (((G i).1)))]))] := by kernel_rfl
end Go.Proofs.Ytgdbnnmogddkaaa.Mach
