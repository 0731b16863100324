/- What the law Gl needs, part 5 of 5: the abstract machine and the contracts of the functions. Conditions: as each theorem says. -/
import Derived.Laws.Strings
import Derived.Test.YtffnfeefjdmifaaGreatGlP4
namespace Go.Proofs.YtffnfeefjdmifaaGreat.Mach
open Go
set_option linter.unusedVariables false
set_option linter.unusedSimpArgs false
def nbx (n : Int) : Ob := ⟨true, 2, 1, fun _ => [.p (.int .i64 n), .p .nil]⟩
def W0 (g : Nat → T_Bar) (nb N : Nat) (S : T_IntS) (v n : Nat) (p : Nat → Int) : St :=
  ⟨[grG g nb N, inL S, .pt 2 0 0 0, .p .any, .pt 2 1 0 0, .ar 1 2 0 N, .pt 2 3 0 0] ++ List.replicate 12 anyA ++ [.p (.int .i64 N), .p (.int .i64 v)] ++ List.replicate 56 anyA, [(0, bxG g nb N), (1, z2), (2, iOb N p), (3, nbx n)], 4⟩
def W1 (g : Nat → T_Bar) (nb N : Nat) (S : T_IntS) (n : Nat) (p : Nat → Int) (k c : Nat) (h : Nat → T_Bar) : St :=
  ⟨[grG g nb N, inL S, .pt 2 0 0 0, .p .any, .pt 2 1 0 0, .ar 1 2 0 N, .pt 2 3 0 0] ++ List.replicate 38 anyA ++ [brL g nb, .p (.int .i64 nb), .p (.int .i64 k)] ++ List.replicate 29 anyA, [(0, bxG g nb N), (1, z2), (2, iOb N p), (3, gbx n 4 c), (4, brOb c h)], 5⟩
def V0 (g : Nat → T_Bar) (nb N : Nat) (S : T_IntS) (v n : Nat) (p : Nat → Int) : St :=
  ⟨[grG g nb N, inL S, .pt 2 0 0 0, .p .any, .pt 2 1 0 0, .ar 1 2 0 N, .p (.int .i64 n), .p (.int .i64 v)] ++ List.replicate 75 anyA, [(0, bxG g nb N), (1, z2), (2, iOb N p)], 3⟩
def V1 (g : Nat → T_Bar) (nb N : Nat) (S : T_IntS) (n : Nat) (p : Nat → Int) (k c : Nat) (h : Nat → T_Bar) : St :=
  ⟨[grG g nb N, inL S, .pt 2 0 0 0, .p .any, .pt 2 1 0 0, .ar 1 2 0 N, .p .any, .p .any, .pt 2 3 0 0, .p (.int .i64 k)] ++ List.replicate 73 anyA, [(0, bxG g nb N), (1, z2), (2, iOb N p), (3, gbx n 4 c), (4, brOb c h)], 5⟩
def C0 (g : Nat → T_Bar) (nb N k w c : Nat) (G : Nat → T_IntS) : St :=
  ⟨[grG g nb N, .p (.int .i64 k), .pt 2 0 0 0, .p .any, .p .any, .ar 1 1 0 c] ++ List.replicate 15 anyA ++ [.p (.int .i64 (shlI .i64 1 N)), .p (.int .i64 w)] ++ List.replicate 27 anyA, [(0, bxG g nb N), (1, ssOb c G)], 2⟩
def D0 (g : Nat → T_Bar) (nb N k w c : Nat) (G : Nat → T_IntS) : St :=
  ⟨[grG g nb N, .p (.int .i64 k), .pt 2 0 0 0, .p .any, .p .any, .ar 1 1 0 c, .p (.int .i64 w)] ++ List.replicate 45 anyA, [(0, bxG g nb N), (1, ssOb c G)], 2⟩
def KI (g : Nat → T_Bar) (nb N k j : Nat) : St :=
  ⟨[grG g nb N, .p (.int .i64 k), .pt 2 0 0 0] ++ List.replicate 17 anyA ++ [.p (.int .i64 k), .p (.int .i64 j)] ++ List.replicate 8 anyA, [(0, bxG g nb N)], 1⟩
def KS (g : Nat → T_Bar) (nb N k j : Nat) : St :=
  ⟨[grG g nb N, .p (.int .i64 k), .pt 2 0 0 0, .p .any, .p .any, .p (.int .i64 j)] ++ List.replicate 24 anyA, [(0, bxG g nb N)], 1⟩
def OI (g : Nat → T_Bar) (nb N k : Nat) : St :=
  ⟨[grG g nb N, .pt 2 0 0 0, .p .any, .p (.int .i64 k)] ++ List.replicate 8 anyA, [(0, bxG g nb N)], 1⟩
def OS (g : Nat → T_Bar) (nb N n k : Nat) : St :=
  ⟨[grG g nb N, .pt 2 0 0 0, .p .any, .p (.int .i64 n), .p (.int .i64 k)] ++ List.replicate 9 anyA, [(0, bxG g nb N)], 1⟩
theorem wiz (g : Nat → T_Bar) (nb N : Nat) (S : T_IntS) :
    pieceOb Tryz.prog 0 [rg 2, rg 6, rg 3, rg 3, .head] [.code (bodyOf Tryz.f201)] (start Tryz.f201 [] 0 [grG g nb N, inL S]) [0, 32, 192, 288] 1 (W0 g nb N S 0 0 (fun _ => 0)) =
    some (zf37, [(NT 0 1),(IL 0 (if true = true then if (if false = true then if 8 > (↑N : Int) then 8 else (↑N : Int) else if 8 < (↑N : Int) then 8 else (↑N : Int)) > 0 then if false = true then if 8 > (↑N : Int) then 8 else (↑N : Int) else if 8 < (↑N : Int) then 8 else (↑N : Int) else 0 else if (if false = true then if 8 > (↑N : Int) then 8 else (↑N : Int) else if 8 < (↑N : Int) then 8 else (↑N : Int)) < 0 then if false = true then if 8 > (↑N : Int) then 8 else (↑N : Int) else if 8 < (↑N : Int) then 8 else (↑N : Int) else 0)),(IL (if true = true then if (if false = true then if 8 > (↑N : Int) then 8 else (↑N : Int) else if 8 < (↑N : Int) then 8 else (↑N : Int)) > 0 then if false = true then if 8 > (↑N : Int) then 8 else (↑N : Int) else if 8 < (↑N : Int) then 8 else (↑N : Int) else 0 else if (if false = true then if 8 > (↑N : Int) then 8 else (↑N : Int) else if 8 < (↑N : Int) then 8 else (↑N : Int)) < 0 then if false = true then if 8 > (↑N : Int) then 8 else (↑N : Int) else if 8 < (↑N : Int) then 8 else (↑N : Int) else 0) (if true = true then if (if false = true then if 8 > (↑N : Int) then 8 else (↑N : Int) else if 8 < (↑N : Int) then 8 else (↑N : Int)) > 0 then if false = true then if 8 > (↑N : Int) then 8 else (↑N : Int) else if 8 < (↑N : Int) then 8 else (↑N : Int) else 0 else if (if false = true then if 8 > (↑N : Int) then 8 else (↑N : Int) else if 8 < (↑N : Int) then 8 else (↑N : Int)) < 0 then if false = true then if 8 > (↑N : Int) then 8 else (↑N : Int) else if 8 < (↑N : Int) then 8 else (↑N : Int) else 0)),(IL ((if true = true then if (if false = true then if 8 > (↑N : Int) then 8 else (↑N : Int) else if 8 < (↑N : Int) then 8 else (↑N : Int)) > 0 then if false = true then if 8 > (↑N : Int) then 8 else (↑N : Int) else if 8 < (↑N : Int) then 8 else (↑N : Int) else 0 else if (if false = true then if 8 > (↑N : Int) then 8 else (↑N : Int) else if 8 < (↑N : Int) then 8 else (↑N : Int)) < 0 then if false = true then if 8 > (↑N : Int) then 8 else (↑N : Int) else if 8 < (↑N : Int) then 8 else (↑N : Int) else 0) * (↑8 : Int)) 281474976710656),(R1 (if true = true then if (if false = true then if 8 > (↑N : Int) then 8 else (↑N : Int) else if 8 < (↑N : Int) then 8 else (↑N : Int)) > 0 then if false = true then if 8 > (↑N : Int) then 8 else (↑N : Int) else if 8 < (↑N : Int) then 8 else (↑N : Int) else 0 else if (if false = true then if 8 > (↑N : Int) then 8 else (↑N : Int) else if 8 < (↑N : Int) then 8 else (↑N : Int)) < 0 then if false = true then if 8 > (↑N : Int) then 8 else (↑N : Int) else if 8 < (↑N : Int) then 8 else (↑N : Int) else 0)),(NT 0 1),((true = true) →  (AN 1)),(AI ((↑N : Int))),(AN nb),(AP nb (fun i => [.int .i64 ((g i).1), .int .i64 ((g i).2.1)])),(AN S.1),(AP S.1 (fun i => [.int .i64 (S.2 i)])),(AN 0),(AN 0),(AN 0),((((if true = true then if (if false = true then if 8 > (↑N : Int) then 8 else (↑N : Int) else if 8 < (↑N : Int) then 8 else (↑N : Int)) > 0 then if false = true then if 8 > (↑N : Int) then 8 else (↑N : Int) else if 8 < (↑N : Int) then 8 else (↑N : Int) else 0 else if (if false = true then if 8 > (↑N : Int) then 8 else (↑N : Int) else if 8 < (↑N : Int) then 8 else (↑N : Int)) < 0 then if false = true then if 8 > (↑N : Int) then 8 else (↑N : Int) else if 8 < (↑N : Int) then 8 else (↑N : Int) else 0).toNat) : Nat) = N),(AN 0),(((↑(if true = true then if (if false = true then if 8 > (↑N : Int) then 8 else (↑N : Int) else if 8 < (↑N : Int) then 8 else (↑N : Int)) > 0 then if false = true then if 8 > (↑N : Int) then 8 else (↑N : Int) else if 8 < (↑N : Int) then 8 else (↑N : Int) else 0 else if (if false = true then if 8 > (↑N : Int) then 8 else (↑N : Int) else if 8 < (↑N : Int) then 8 else (↑N : Int)) < 0 then if false = true then if 8 > (↑N : Int) then 8 else (↑N : Int) else if 8 < (↑N : Int) then 8 else (↑N : Int) else 0).toNat : Int) : Int) = (↑N : Int)),((0 : Int) = (↑0 : Int)),((([AV.p (PV.int IntKind.i64 (↑N : Int)), brL g nb].length) : Nat) = 2),(NL 1 1),(NL 1 1),(AI ((↑N : Int))),(AN nb),(AP nb (fun i => [.int .i64 ((g i).1), .int .i64 ((g i).2.1)])),((((List.map (fun v => AV.p (absV v)) [Value.int IntKind.i64 0, Value.slice none 0 0]).length) : Nat) = 2),(NL 1 1),(NL 1 1),(AI 0),(AN 1),(NL N ((if true = true then if (if false = true then if 8 > (↑N : Int) then 8 else (↑N : Int) else if 8 < (↑N : Int) then 8 else (↑N : Int)) > 0 then if false = true then if 8 > (↑N : Int) then 8 else (↑N : Int) else if 8 < (↑N : Int) then 8 else (↑N : Int) else 0 else if (if false = true then if 8 > (↑N : Int) then 8 else (↑N : Int) else if 8 < (↑N : Int) then 8 else (↑N : Int)) < 0 then if false = true then if 8 > (↑N : Int) then 8 else (↑N : Int) else if 8 < (↑N : Int) then 8 else (↑N : Int) else 0).toNat)),(AA N (fun i => [.p (.int .i64 0)])),((((List.map (fun v => AV.p (absV v)) [Value.int IntKind.i64 0, Value.slice none 0 0]).length) : Nat) = 2),(NL 1 1),(NL 1 1),((0 : Int) = (↑0 : Int))]) := by kernel_rfl
theorem wit (g : Nat → T_Bar) (nb N : Nat) (S : T_IntS) (v n : Nat) (p : Nat → Int) :
    pieceOb Tryz.prog 0 [rg 1, .dec true, rg 2, rg 4, rm [(2, oc [] (.p (.bool false)))] 1, .dec true, rg 6, rg 5, rg 2, .head] zf37 (W0 g nb N S v n p) [0, 1, 2, 3] 1 (W0 g nb N S (v + 1) (n + 1) (fun u => if u = v then n else p u)) =
    some (zf37, [((decide ((↑v : Int) < (↑N : Int))) = true),(IL 0 (↑v : Int)),(IT (↑v : Int) (↑N : Int)),(NT v N),((false = true) →  ((N : Nat) = 1)),Con Tryz.prog 121 0 [] [.p (.seq true 1 S.1 (fun i => [.int .i64 (S.2 i)])), .p (.int .i64 (↑v : Int))] [] (.p (.bool false)),((!false) = true),(NT 0 1),(IL 0 (↑v : Int)),(IT (↑v : Int) (↑N : Int)),(NT v N),((false = true) →  ((N : Nat) = 1)),(NT 0 1),(R0 ((↑n : Int) + 1)),(R1 ((↑n : Int) + 1)),(NT 0 1),((true = true) →  (AN 1)),(R0 ((↑v : Int) + 1)),(R1 ((↑v : Int) + 1)),(AI ((↑N : Int))),(AN nb),(AP nb (fun i => [.int .i64 ((g i).1), .int .i64 ((g i).2.1)])),(AN S.1),(AP S.1 (fun i => [.int .i64 (S.2 i)])),(AN 0),(AN 0),(AN 0),(AN N),(AN 0),(AI ((↑N : Int))),((((↑v : Int) + 1) : Int) = (↑(v + 1) : Int)),(AN 2),(NL 1 1),(NL 1 1),(AI ((↑N : Int))),(AN nb),(AP nb (fun i => [.int .i64 ((g i).1), .int .i64 ((g i).2.1)])),(AN 2),(NL 1 1),(NL 1 1),(AI 0),(AN 1),(NL N N),(CV [(3, ⟨true, 2, 1, (fun i_1 => [.p (.int .i64 ((↑n : Int) + 1)), .p (.nil)])⟩), (2, ⟨false, 1, N, (fun i_1 => (if (i_1 = v) then [.p (.int .i64 (↑n : Int))] else (if (i_1 = v) then [.p (.int .i64 (-1))] else [.p (.int .i64 (p i_1))])))⟩), (0, ⟨true, 2, 1, (fun i_1 => [.p (.int .i64 (↑N : Int)), .p (.seq true 2 nb (fun i_2 => [.int .i64 ((g i_2).1), .int .i64 ((g i_2).2.1)]))])⟩), (1, ⟨true, 2, 1, (fun i_1 => [.p (.int .i64 0), .p (.nil)])⟩)] [0, 1, 2, 3] 1 N (fun i => if (i = v) then [.p (.int .i64 (↑n : Int))] else (if (i = v) then [.p (.int .i64 (-1))] else [.p (.int .i64 (p i))])) (fun i => [.p (.int .i64 (if i = v then (↑n : Int) else p i))])),(AN 2),(NL 1 1),(NL 1 1),((((↑n : Int) + 1) : Int) = (↑(n + 1) : Int))]) := by kernel_rfl
theorem wif (g : Nat → T_Bar) (nb N : Nat) (S : T_IntS) (v n : Nat) (p : Nat → Int) :
    pieceOb Tryz.prog 0 [rg 1, .dec true, rg 2, rg 4, rm [(2, oc [] (.p (.bool true)))] 1, .dec false, rg 2, .head] zf37 (W0 g nb N S v n p) [0, 1, 2, 3] 1 (W0 g nb N S (v + 1) n (fun u => if u = v then -1 else p u)) =
    some (zf37, [((decide ((↑v : Int) < (↑N : Int))) = true),(IL 0 (↑v : Int)),(IT (↑v : Int) (↑N : Int)),(NT v N),((false = true) →  ((N : Nat) = 1)),Con Tryz.prog 121 0 [] [.p (.seq true 1 S.1 (fun i => [.int .i64 (S.2 i)])), .p (.int .i64 (↑v : Int))] [] (.p (.bool true)),((!true) = false),(R0 ((↑v : Int) + 1)),(R1 ((↑v : Int) + 1)),(AI ((↑N : Int))),(AN nb),(AP nb (fun i => [.int .i64 ((g i).1), .int .i64 ((g i).2.1)])),(AN S.1),(AP S.1 (fun i => [.int .i64 (S.2 i)])),(AN 0),(AN 0),(AN 0),(AN N),(AN 0),(AI ((↑N : Int))),((((↑v : Int) + 1) : Int) = (↑(v + 1) : Int)),(AN 2),(NL 1 1),(NL 1 1),(AI ((↑N : Int))),(AN nb),(AP nb (fun i => [.int .i64 ((g i).1), .int .i64 ((g i).2.1)])),(AN 2),(NL 1 1),(NL 1 1),(AI 0),(AN 1),(NL N N),(CV [(2, ⟨false, 1, N, (fun i_1 => (if (i_1 = v) then [.p (.int .i64 (-1))] else [.p (.int .i64 (p i_1))]))⟩), (0, ⟨true, 2, 1, (fun i_1 => [.p (.int .i64 (↑N : Int)), .p (.seq true 2 nb (fun i_2 => [.int .i64 ((g i_2).1), .int .i64 ((g i_2).2.1)]))])⟩), (1, ⟨true, 2, 1, (fun i_1 => [.p (.int .i64 0), .p (.nil)])⟩), (3, ⟨true, 2, 1, (fun i_1 => [.p (.int .i64 (↑n : Int)), .p (.nil)])⟩)] [0, 1, 2, 3] 1 N (fun i => if (i = v) then [.p (.int .i64 (-1))] else [.p (.int .i64 (p i))]) (fun i => [.p (.int .i64 (if i = v then -1 else p i))])),(AN 2),(NL 1 1),(NL 1 1),(AI ((↑n : Int)))]) := by kernel_rfl
theorem wix (g : Nat → T_Bar) (nb N : Nat) (S : T_IntS) (v n : Nat) (p : Nat → Int) :
    pieceOb Tryz.prog 0 [rg 1, .dec false, rm [(1, oc [] (.p (.bool true)))] 1, .dec false, rg 4, .head] zf37 (W0 g nb N S v n p) [0, 1, 2, 3] 1 (W1 g nb N S n p 0 0 (fun _ => (0, 0, ()))) =
    some (zf17, [((decide ((↑v : Int) < (↑N : Int))) = false),(NT 0 1),Con Tryz.prog 35 0 [] [(zf78 N nb g)] [] (.p (.bool true)),((!true) = false),(NT 0 1),(AI ((↑N : Int))),(AN nb),(AP nb (fun i => [.int .i64 ((g i).1), .int .i64 ((g i).2.1)])),(AN S.1),(AP S.1 (fun i => [.int .i64 (S.2 i)])),(AN 0),(AN 0),(AN 0),(AN N),(AN 0),(AN nb),(AP nb (fun i => [.int .i64 ((g i).1), .int .i64 ((g i).2.1)])),(AI ((↑nb : Int))),((0 : Int) = (↑0 : Int)),(AN 2),(NL 1 1),(NL 1 1),(AI ((↑N : Int))),(AN nb),(AP nb (fun i => [.int .i64 ((g i).1), .int .i64 ((g i).2.1)])),(AN 2),(NL 1 1),(NL 1 1),(AI 0),(AN 1),(NL N N),(AA N (fun i => [.p (.int .i64 (p i))])),(AN 2),(NL 1 1),(NL 1 1),(AI ((↑n : Int))),(AN 0),(AN 0)]) := by kernel_rfl
theorem wjt (g : Nat → T_Bar) (nb N : Nat) (S : T_IntS) (n : Nat) (p : Nat → Int) (k c : Nat) (h : Nat → T_Bar) :
    pieceOb Tryz.prog 0 [rg 1, .dec true, rg 4, rg 12, rg 6, .dec true, rg 9, rg 2, .head] zf17 (W1 g nb N S n p k c h) [0, 1, 2, 3, 933] 1 (W1 g nb N S n p (k + 1) (c + 1) (snoc c h (p (g k).1.toNat, p (g k).2.1.toNat, ()))) =
    some (zf17, [((decide ((↑k : Int) < (↑nb : Int))) = true),(IL 0 (↑k : Int)),(IT (↑k : Int) (↑nb : Int)),(NT 0 1),((true = true) →  (AN 1)),(NT 0 1),(IL 0 ((g k).1)),(IT ((g k).1) (↑N : Int)),(NT ((g k).1.toNat) N),(NT 0 1),(IL 0 ((g k).2.1)),(IT ((g k).2.1) (↑N : Int)),(NT ((g k).2.1.toNat) N),(AG (decide (p ((g (↑k : Int).toNat).1.toNat + 0) ≥ 0))),(AG (decide (p ((g (↑k : Int).toNat).1.toNat + 0) ≥ 0))),((bif decide (p ((g (↑k : Int).toNat).1.toNat + 0) ≥ 0) then decide (p ((g (↑k : Int).toNat).2.1.toNat + 0) ≥ 0) else false) = true),(NT 0 1),(NL 1 1),(NL c c),(NL ((c + 1) * 16) 140737488355328),(NL (c + 1) 9223372036854775807),(NT 0 1),((true = true) →  (AN 1)),(R0 ((↑k : Int) + 1)),(R1 ((↑k : Int) + 1)),(AI ((↑N : Int))),(AN nb),(AP nb (fun i => [.int .i64 ((g i).1), .int .i64 ((g i).2.1)])),(AN S.1),(AP S.1 (fun i => [.int .i64 (S.2 i)])),(AN 0),(AN 0),(AN 0),(AN N),(AN 0),(AN nb),(AP nb (fun i => [.int .i64 ((g i).1), .int .i64 ((g i).2.1)])),(AI ((↑nb : Int))),((((↑k : Int) + 1) : Int) = (↑(k + 1) : Int)),(AN 2),(NL 1 1),(NL 1 1),(AI ((↑N : Int))),(AN nb),(AP nb (fun i => [.int .i64 ((g i).1), .int .i64 ((g i).2.1)])),(AN 2),(NL 1 1),(NL 1 1),(AI 0),(AN 1),(NL N N),(AA N (fun i => [.p (.int .i64 (p i))])),(AN 2),(NL 1 1),(NL 1 1),(AI ((↑n : Int))),(AN 0),(AN ((c + 1))),(AN 2),(NL (c + 1) (c + 1)),(CV [(3, ⟨true, 2, 1, (fun i_1 => [.p (.int .i64 (↑n : Int)), .ar 2 933 0 (c + 1)])⟩), (933, ⟨false, 2, (c + 1), (fun i_1 => (if (i_1 < c) then [.p (.int .i64 ((h i_1).1)), .p (.int .i64 ((h i_1).2.1))] else [.p (.int .i64 (p (g k).1.toNat)), .p (.int .i64 (p (g k).2.1.toNat))]))⟩), (901, ⟨false, 2, 1, (fun i_1 => [.p (.int .i64 (p (g k).1.toNat)), .p (.int .i64 (p (g k).2.1.toNat))])⟩), (101, ⟨true, 2, 1, (fun i_1 => [.p (.int .i64 ((g k).1)), .p (.int .i64 ((g k).2.1))])⟩), (0, ⟨true, 2, 1, (fun i_1 => [.p (.int .i64 (↑N : Int)), .p (.seq true 2 nb (fun i_2 => [.int .i64 ((g i_2).1), .int .i64 ((g i_2).2.1)]))])⟩), (1, ⟨true, 2, 1, (fun i_1 => [.p (.int .i64 0), .p (.nil)])⟩), (2, ⟨false, 1, N, (fun i_1 => [.p (.int .i64 (p i_1))])⟩)] [0, 1, 2, 3, 933] 1 (c + 1) (fun i => if (i < c) then [.p (.int .i64 ((h i).1)), .p (.int .i64 ((h i).2.1))] else [.p (.int .i64 (p (g k).1.toNat)), .p (.int .i64 (p (g k).2.1.toNat))]) (fun i => [.p (.int .i64 (if i < c then (h i).1 else p (g k).1.toNat)), .p (.int .i64 (if i < c then (h i).2.1 else p (g k).2.1.toNat))]))]) := by kernel_rfl
theorem wjf (g : Nat → T_Bar) (nb N : Nat) (S : T_IntS) (n : Nat) (p : Nat → Int) (k c : Nat) (h : Nat → T_Bar) :
    pieceOb Tryz.prog 0 [rg 1, .dec true, rg 4, rg 12, rg 6, .dec false, rg 2, .head] zf17 (W1 g nb N S n p k c h) [0, 1, 2, 3, 4] 1 (W1 g nb N S n p (k + 1) c h) =
    some (zf17, [((decide ((↑k : Int) < (↑nb : Int))) = true),(IL 0 (↑k : Int)),(IT (↑k : Int) (↑nb : Int)),(NT 0 1),((true = true) →  (AN 1)),(NT 0 1),(IL 0 ((g k).1)),(IT ((g k).1) (↑N : Int)),(NT ((g k).1.toNat) N),(NT 0 1),(IL 0 ((g k).2.1)),(IT ((g k).2.1) (↑N : Int)),(NT ((g k).2.1.toNat) N),(AG (decide (p ((g (↑k : Int).toNat).1.toNat + 0) ≥ 0))),(AG (decide (p ((g (↑k : Int).toNat).1.toNat + 0) ≥ 0))),((bif decide (p ((g (↑k : Int).toNat).1.toNat + 0) ≥ 0) then decide (p ((g (↑k : Int).toNat).2.1.toNat + 0) ≥ 0) else false) = false),(R0 ((↑k : Int) + 1)),(R1 ((↑k : Int) + 1)),(AI ((↑N : Int))),(AN nb),(AP nb (fun i => [.int .i64 ((g i).1), .int .i64 ((g i).2.1)])),(AN S.1),(AP S.1 (fun i => [.int .i64 (S.2 i)])),(AN 0),(AN 0),(AN 0),(AN N),(AN 0),(AN nb),(AP nb (fun i => [.int .i64 ((g i).1), .int .i64 ((g i).2.1)])),(AI ((↑nb : Int))),((((↑k : Int) + 1) : Int) = (↑(k + 1) : Int)),(AN 2),(NL 1 1),(NL 1 1),(AI ((↑N : Int))),(AN nb),(AP nb (fun i => [.int .i64 ((g i).1), .int .i64 ((g i).2.1)])),(AN 2),(NL 1 1),(NL 1 1),(AI 0),(AN 1),(NL N N),(AA N (fun i => [.p (.int .i64 (p i))])),(AN 2),(NL 1 1),(NL 1 1),(AI ((↑n : Int))),(AN 0),(AN c),(AN 2),(NL c c),(AA c (fun i => [.p (.int .i64 ((h i).1)), .p (.int .i64 ((h i).2.1))]))]) := by kernel_rfl
theorem wje (g : Nat → T_Bar) (nb N : Nat) (S : T_IntS) (n : Nat) (p : Nat → Int) (k c : Nat) (h : Nat → T_Bar) :
    pathOb Tryz.prog Tryz.f201 0 [rg 1, .dec false, rg 2] zf17 (W1 g nb N S n p k c h) [4] 1 [(0, brOb c h)] (.agg [.p (.int .i64 n), .ar 2 0 0 c]) =
    some [((decide ((↑k : Int) < (↑nb : Int))) = false),(NT 0 1),(NT 0 1),((true = true) →  (AN 1)),(NT 0 1),(AI ((↑n : Int))),(AN 0),(AN c),(AN 2),(NL c c),(AA c (fun i => [.p (.int .i64 ((h i).1)), .p (.int .i64 ((h i).2.1))])),(AE c)] := by kernel_rfl
theorem vsz (g : Nat → T_Bar) (nb N : Nat) (S : T_IntS) :
    pieceOb Tryz.prog 0 [rg 2, rg 6, rg 1, rg 1, .head] [.code (bodyOf Tryz.f196)] (start Tryz.f196 [] 0 [grG g nb N, inL S]) [0, 32, 192] 1 (V0 g nb N S 0 0 (fun _ => 0)) =
    some (zf38, [(NT 0 1),(IL 0 (if true = true then if (if false = true then if (↑N : Int) > 8 then (↑N : Int) else 8 else if (↑N : Int) < 8 then (↑N : Int) else 8) > 0 then if false = true then if (↑N : Int) > 8 then (↑N : Int) else 8 else if (↑N : Int) < 8 then (↑N : Int) else 8 else 0 else if (if false = true then if (↑N : Int) > 8 then (↑N : Int) else 8 else if (↑N : Int) < 8 then (↑N : Int) else 8) < 0 then if false = true then if (↑N : Int) > 8 then (↑N : Int) else 8 else if (↑N : Int) < 8 then (↑N : Int) else 8 else 0)),(IL (if true = true then if (if false = true then if (↑N : Int) > 8 then (↑N : Int) else 8 else if (↑N : Int) < 8 then (↑N : Int) else 8) > 0 then if false = true then if (↑N : Int) > 8 then (↑N : Int) else 8 else if (↑N : Int) < 8 then (↑N : Int) else 8 else 0 else if (if false = true then if (↑N : Int) > 8 then (↑N : Int) else 8 else if (↑N : Int) < 8 then (↑N : Int) else 8) < 0 then if false = true then if (↑N : Int) > 8 then (↑N : Int) else 8 else if (↑N : Int) < 8 then (↑N : Int) else 8 else 0) (if true = true then if (if false = true then if (↑N : Int) > 8 then (↑N : Int) else 8 else if (↑N : Int) < 8 then (↑N : Int) else 8) > 0 then if false = true then if (↑N : Int) > 8 then (↑N : Int) else 8 else if (↑N : Int) < 8 then (↑N : Int) else 8 else 0 else if (if false = true then if (↑N : Int) > 8 then (↑N : Int) else 8 else if (↑N : Int) < 8 then (↑N : Int) else 8) < 0 then if false = true then if (↑N : Int) > 8 then (↑N : Int) else 8 else if (↑N : Int) < 8 then (↑N : Int) else 8 else 0)),(IL ((if true = true then if (if false = true then if (↑N : Int) > 8 then (↑N : Int) else 8 else if (↑N : Int) < 8 then (↑N : Int) else 8) > 0 then if false = true then if (↑N : Int) > 8 then (↑N : Int) else 8 else if (↑N : Int) < 8 then (↑N : Int) else 8 else 0 else if (if false = true then if (↑N : Int) > 8 then (↑N : Int) else 8 else if (↑N : Int) < 8 then (↑N : Int) else 8) < 0 then if false = true then if (↑N : Int) > 8 then (↑N : Int) else 8 else if (↑N : Int) < 8 then (↑N : Int) else 8 else 0) * (↑8 : Int)) 281474976710656),(R1 (if true = true then if (if false = true then if (↑N : Int) > 8 then (↑N : Int) else 8 else if (↑N : Int) < 8 then (↑N : Int) else 8) > 0 then if false = true then if (↑N : Int) > 8 then (↑N : Int) else 8 else if (↑N : Int) < 8 then (↑N : Int) else 8 else 0 else if (if false = true then if (↑N : Int) > 8 then (↑N : Int) else 8 else if (↑N : Int) < 8 then (↑N : Int) else 8) < 0 then if false = true then if (↑N : Int) > 8 then (↑N : Int) else 8 else if (↑N : Int) < 8 then (↑N : Int) else 8 else 0)),(AI ((↑N : Int))),(AN nb),(AP nb (fun i => [.int .i64 ((g i).1), .int .i64 ((g i).2.1)])),(AN S.1),(AP S.1 (fun i => [.int .i64 (S.2 i)])),(AN 0),(AN 0),(AN 0),((((if true = true then if (if false = true then if (↑N : Int) > 8 then (↑N : Int) else 8 else if (↑N : Int) < 8 then (↑N : Int) else 8) > 0 then if false = true then if (↑N : Int) > 8 then (↑N : Int) else 8 else if (↑N : Int) < 8 then (↑N : Int) else 8 else 0 else if (if false = true then if (↑N : Int) > 8 then (↑N : Int) else 8 else if (↑N : Int) < 8 then (↑N : Int) else 8) < 0 then if false = true then if (↑N : Int) > 8 then (↑N : Int) else 8 else if (↑N : Int) < 8 then (↑N : Int) else 8 else 0).toNat) : Nat) = N),((0 : Int) = (↑0 : Int)),((0 : Int) = (↑0 : Int)),((([AV.p (PV.int IntKind.i64 (↑N : Int)), brL g nb].length) : Nat) = 2),(NL 1 1),(NL 1 1),(AI ((↑N : Int))),(AN nb),(AP nb (fun i => [.int .i64 ((g i).1), .int .i64 ((g i).2.1)])),((((List.map (fun v => AV.p (absV v)) [Value.int IntKind.i64 0, Value.slice none 0 0]).length) : Nat) = 2),(NL 1 1),(NL 1 1),(AI 0),(AN 1),(NL N ((if true = true then if (if false = true then if (↑N : Int) > 8 then (↑N : Int) else 8 else if (↑N : Int) < 8 then (↑N : Int) else 8) > 0 then if false = true then if (↑N : Int) > 8 then (↑N : Int) else 8 else if (↑N : Int) < 8 then (↑N : Int) else 8 else 0 else if (if false = true then if (↑N : Int) > 8 then (↑N : Int) else 8 else if (↑N : Int) < 8 then (↑N : Int) else 8) < 0 then if false = true then if (↑N : Int) > 8 then (↑N : Int) else 8 else if (↑N : Int) < 8 then (↑N : Int) else 8 else 0).toNat)),(AA N (fun i => [.p (.int .i64 0)]))]) := by kernel_rfl
theorem vst (g : Nat → T_Bar) (nb N : Nat) (S : T_IntS) (v n : Nat) (p : Nat → Int) :
    pieceOb Tryz.prog 0 [rg 4, .dec true, rg 4, rm [(2, oc [] (.p (.bool false)))] 1, .dec true, rg 5, rg 3, rg 3, .head] zf38 (V0 g nb N S v n p) [0, 1, 2] 1 (V0 g nb N S (v + 1) (n + 1) (fun u => if u = v then n else p u)) =
    some (zf38, [((decide ((↑v : Int) < (↑N : Int))) = true),(IL 0 (↑v : Int)),(IT (↑v : Int) (↑N : Int)),(NT v N),((false = true) →  ((N : Nat) = 1)),Con Tryz.prog 116 0 [] [.p (.seq true 1 S.1 (fun i => [.int .i64 (S.2 i)])), .p (.int .i64 (↑v : Int))] [] (.p (.bool false)),((!false) = true),(IL 0 (↑v : Int)),(IT (↑v : Int) (↑N : Int)),(NT v N),((false = true) →  ((N : Nat) = 1)),(R0 ((↑n : Int) + 1)),(R1 ((↑n : Int) + 1)),(R0 ((↑v : Int) + 1)),(R1 ((↑v : Int) + 1)),(AI ((↑N : Int))),(AN nb),(AP nb (fun i => [.int .i64 ((g i).1), .int .i64 ((g i).2.1)])),(AN S.1),(AP S.1 (fun i => [.int .i64 (S.2 i)])),(AN 0),(AN 0),(AN 0),(AN N),((((↑n : Int) + 1) : Int) = (↑(n + 1) : Int)),((((↑v : Int) + 1) : Int) = (↑(v + 1) : Int)),(AN 2),(NL 1 1),(NL 1 1),(AI ((↑N : Int))),(AN nb),(AP nb (fun i => [.int .i64 ((g i).1), .int .i64 ((g i).2.1)])),(AN 2),(NL 1 1),(NL 1 1),(AI 0),(AN 1),(NL N N),(CV [(2, ⟨false, 1, N, (fun i_1 => (if (i_1 = v) then [.p (.int .i64 (↑n : Int))] else (if (i_1 = v) then [.p (.int .i64 (-1))] else [.p (.int .i64 (p i_1))])))⟩), (0, ⟨true, 2, 1, (fun i_1 => [.p (.int .i64 (↑N : Int)), .p (.seq true 2 nb (fun i_2 => [.int .i64 ((g i_2).1), .int .i64 ((g i_2).2.1)]))])⟩), (1, ⟨true, 2, 1, (fun i_1 => [.p (.int .i64 0), .p (.nil)])⟩)] [0, 1, 2] 1 N (fun i => if (i = v) then [.p (.int .i64 (↑n : Int))] else (if (i = v) then [.p (.int .i64 (-1))] else [.p (.int .i64 (p i))])) (fun i => [.p (.int .i64 (if i = v then (↑n : Int) else p i))]))]) := by kernel_rfl
theorem vsf (g : Nat → T_Bar) (nb N : Nat) (S : T_IntS) (v n : Nat) (p : Nat → Int) :
    pieceOb Tryz.prog 0 [rg 4, .dec true, rg 4, rm [(2, oc [] (.p (.bool true)))] 1, .dec false, rg 3, .head] zf38 (V0 g nb N S v n p) [0, 1, 2] 1 (V0 g nb N S (v + 1) n (fun u => if u = v then -1 else p u)) =
    some (zf38, [((decide ((↑v : Int) < (↑N : Int))) = true),(IL 0 (↑v : Int)),(IT (↑v : Int) (↑N : Int)),(NT v N),((false = true) →  ((N : Nat) = 1)),Con Tryz.prog 116 0 [] [.p (.seq true 1 S.1 (fun i => [.int .i64 (S.2 i)])), .p (.int .i64 (↑v : Int))] [] (.p (.bool true)),((!true) = false),(R0 ((↑v : Int) + 1)),(R1 ((↑v : Int) + 1)),(AI ((↑N : Int))),(AN nb),(AP nb (fun i => [.int .i64 ((g i).1), .int .i64 ((g i).2.1)])),(AN S.1),(AP S.1 (fun i => [.int .i64 (S.2 i)])),(AN 0),(AN 0),(AN 0),(AN N),(AI ((↑n : Int))),((((↑v : Int) + 1) : Int) = (↑(v + 1) : Int)),(AN 2),(NL 1 1),(NL 1 1),(AI ((↑N : Int))),(AN nb),(AP nb (fun i => [.int .i64 ((g i).1), .int .i64 ((g i).2.1)])),(AN 2),(NL 1 1),(NL 1 1),(AI 0),(AN 1),(NL N N),(CV [(2, ⟨false, 1, N, (fun i_1 => (if (i_1 = v) then [.p (.int .i64 (-1))] else [.p (.int .i64 (p i_1))]))⟩), (0, ⟨true, 2, 1, (fun i_1 => [.p (.int .i64 (↑N : Int)), .p (.seq true 2 nb (fun i_2 => [.int .i64 ((g i_2).1), .int .i64 ((g i_2).2.1)]))])⟩), (1, ⟨true, 2, 1, (fun i_1 => [.p (.int .i64 0), .p (.nil)])⟩)] [0, 1, 2] 1 N (fun i => if (i = v) then [.p (.int .i64 (-1))] else [.p (.int .i64 (p i))]) (fun i => [.p (.int .i64 (if i = v then -1 else p i))]))]) := by kernel_rfl
theorem vsx (g : Nat → T_Bar) (nb N : Nat) (S : T_IntS) (v n : Nat) (p : Nat → Int) :
    pieceOb Tryz.prog 0 [rg 4, .dec false, rg 5, rg 1, .head] zf38 (V0 g nb N S v n p) [0, 1, 2, 227, 163] 1 (V1 g nb N S n p 0 0 (fun _ => (0, 0, ()))) =
    some (zf18, [((decide ((↑v : Int) < (↑N : Int))) = false),(NT 0 1),((true = true) →  (AN 1)),(AI ((↑N : Int))),(AN nb),(AP nb (fun i => [.int .i64 ((g i).1), .int .i64 ((g i).2.1)])),(AN S.1),(AP S.1 (fun i => [.int .i64 (S.2 i)])),(AN 0),(AN 0),(AN 0),(AN N),(AN 0),((0 : Int) = (↑0 : Int)),(AN 2),(NL 1 1),(NL 1 1),(AI ((↑N : Int))),(AN nb),(AP nb (fun i => [.int .i64 ((g i).1), .int .i64 ((g i).2.1)])),(AN 2),(NL 1 1),(NL 1 1),(AI 0),(AN 1),(NL N N),(AA N (fun i => [.p (.int .i64 (p i))])),((((List.map (fun v => AV.p (absV v)) [Value.int IntKind.i64 0, Value.slice none 0 0]).length) : Nat) = 2),(NL 1 1),(NL 1 1),(AI ((↑n : Int))),(AN 0),(AN 0),(AN 2),(NL 0 0),(AA 0 (fun i => [.p (.int .i64 0), .p (.int .i64 0)]))]) := by kernel_rfl
theorem vjt (g : Nat → T_Bar) (nb N : Nat) (S : T_IntS) (n : Nat) (p : Nat → Int) (k c : Nat) (h : Nat → T_Bar) :
    pieceOb Tryz.prog 0 [rm [(7, oc [] (.p (.bool true)))] 1, .dec true, rg 10, rg 10, rg 6, .dec true, rg 9, rg 3, .head] zf18 (V1 g nb N S n p k c h) [0, 1, 2, 3, 1317] 1 (V1 g nb N S n p (k + 1) (c + 1) (snoc c h (p (g k).1.toNat, p (g k).2.1.toNat, ()))) =
    some (zf18, [(NT 0 1),(((decide ((↑k : Int) < (↑nb : Int))) = true) → (NT 0 1)),(AG (decide ((↑k : Int) < (↑nb : Int)))),(((decide ((↑k : Int) < (↑nb : Int))) = true) →  Con Tryz.prog 22 0 [] [(zf78 N nb g)] [] (.p (.bool true))),(AG (decide ((↑k : Int) < (↑nb : Int)))),((bif decide ((↑k : Int) < (↑nb : Int)) then true else false) = true),(NT 0 1),(IL 0 (↑k : Int)),(IT (↑k : Int) (↑nb : Int)),(IL 0 ((g k).1)),(IT ((g k).1) (↑N : Int)),(NT ((g k).1.toNat) N),(NT 0 1),(IL 0 (↑k : Int)),(IT (↑k : Int) (↑nb : Int)),(IL 0 ((g k).2.1)),(IT ((g k).2.1) (↑N : Int)),(NT ((g k).2.1.toNat) N),(AG (decide (p ((g (↑k : Int).toNat).1.toNat + 0) ≥ 0))),(AG (decide (p ((g (↑k : Int).toNat).1.toNat + 0) ≥ 0))),((bif decide (p ((g (↑k : Int).toNat).1.toNat + 0) ≥ 0) then decide (p ((g (↑k : Int).toNat).2.1.toNat + 0) ≥ 0) else false) = true),(NT 0 1),(NL 1 1),(NL c c),(NL ((c + 1) * 16) 140737488355328),(NL (c + 1) 9223372036854775807),(NT 0 1),((true = true) →  (AN 1)),(R0 ((↑k : Int) + 1)),(R1 ((↑k : Int) + 1)),(AI ((↑N : Int))),(AN nb),(AP nb (fun i => [.int .i64 ((g i).1), .int .i64 ((g i).2.1)])),(AN S.1),(AP S.1 (fun i => [.int .i64 (S.2 i)])),(AN 0),(AN 0),(AN 0),(AN N),(AN 0),((((↑k : Int) + 1) : Int) = (↑(k + 1) : Int)),(AN 2),(NL 1 1),(NL 1 1),(AI ((↑N : Int))),(AN nb),(AP nb (fun i => [.int .i64 ((g i).1), .int .i64 ((g i).2.1)])),(AN 2),(NL 1 1),(NL 1 1),(AI 0),(AN 1),(NL N N),(AA N (fun i => [.p (.int .i64 (p i))])),(AN 2),(NL 1 1),(NL 1 1),(AI ((↑n : Int))),(AN 0),(AN ((c + 1))),(AN 2),(NL (c + 1) (c + 1)),(CV [(3, ⟨true, 2, 1, (fun i_1 => [.p (.int .i64 (↑n : Int)), .ar 2 1317 0 (c + 1)])⟩), (1317, ⟨false, 2, (c + 1), (fun i_1 => (if (i_1 < c) then [.p (.int .i64 ((h i_1).1)), .p (.int .i64 ((h i_1).2.1))] else [.p (.int .i64 (p (g k).1.toNat)), .p (.int .i64 (p (g k).2.1.toNat))]))⟩), (1285, ⟨false, 2, 1, (fun i_1 => [.p (.int .i64 (p (g k).1.toNat)), .p (.int .i64 (p (g k).2.1.toNat))])⟩), (0, ⟨true, 2, 1, (fun i_1 => [.p (.int .i64 (↑N : Int)), .p (.seq true 2 nb (fun i_2 => [.int .i64 ((g i_2).1), .int .i64 ((g i_2).2.1)]))])⟩), (1, ⟨true, 2, 1, (fun i_1 => [.p (.int .i64 0), .p (.nil)])⟩), (2, ⟨false, 1, N, (fun i_1 => [.p (.int .i64 (p i_1))])⟩)] [0, 1, 2, 3, 1317] 1 (c + 1) (fun i => if (i < c) then [.p (.int .i64 ((h i).1)), .p (.int .i64 ((h i).2.1))] else [.p (.int .i64 (p (g k).1.toNat)), .p (.int .i64 (p (g k).2.1.toNat))]) (fun i => [.p (.int .i64 (if i < c then (h i).1 else p (g k).1.toNat)), .p (.int .i64 (if i < c then (h i).2.1 else p (g k).2.1.toNat))]))]) := by kernel_rfl
theorem vjf (g : Nat → T_Bar) (nb N : Nat) (S : T_IntS) (n : Nat) (p : Nat → Int) (k c : Nat) (h : Nat → T_Bar) :
    pieceOb Tryz.prog 0 [rm [(7, oc [] (.p (.bool true)))] 1, .dec true, rg 10, rg 10, rg 6, .dec false, rg 3, .head] zf18 (V1 g nb N S n p k c h) [0, 1, 2, 3, 4] 1 (V1 g nb N S n p (k + 1) c h) =
    some (zf18, [(NT 0 1),(((decide ((↑k : Int) < (↑nb : Int))) = true) → (NT 0 1)),(AG (decide ((↑k : Int) < (↑nb : Int)))),(((decide ((↑k : Int) < (↑nb : Int))) = true) →  Con Tryz.prog 22 0 [] [(zf78 N nb g)] [] (.p (.bool true))),(AG (decide ((↑k : Int) < (↑nb : Int)))),((bif decide ((↑k : Int) < (↑nb : Int)) then true else false) = true),(NT 0 1),(IL 0 (↑k : Int)),(IT (↑k : Int) (↑nb : Int)),(IL 0 ((g k).1)),(IT ((g k).1) (↑N : Int)),(NT ((g k).1.toNat) N),(NT 0 1),(IL 0 (↑k : Int)),(IT (↑k : Int) (↑nb : Int)),(IL 0 ((g k).2.1)),(IT ((g k).2.1) (↑N : Int)),(NT ((g k).2.1.toNat) N),(AG (decide (p ((g (↑k : Int).toNat).1.toNat + 0) ≥ 0))),(AG (decide (p ((g (↑k : Int).toNat).1.toNat + 0) ≥ 0))),((bif decide (p ((g (↑k : Int).toNat).1.toNat + 0) ≥ 0) then decide (p ((g (↑k : Int).toNat).2.1.toNat + 0) ≥ 0) else false) = false),(R0 ((↑k : Int) + 1)),(R1 ((↑k : Int) + 1)),(AI ((↑N : Int))),(AN nb),(AP nb (fun i => [.int .i64 ((g i).1), .int .i64 ((g i).2.1)])),(AN S.1),(AP S.1 (fun i => [.int .i64 (S.2 i)])),(AN 0),(AN 0),(AN 0),(AN N),(AN 0),((((↑k : Int) + 1) : Int) = (↑(k + 1) : Int)),(AN 2),(NL 1 1),(NL 1 1),(AI ((↑N : Int))),(AN nb),(AP nb (fun i => [.int .i64 ((g i).1), .int .i64 ((g i).2.1)])),(AN 2),(NL 1 1),(NL 1 1),(AI 0),(AN 1),(NL N N),(AA N (fun i => [.p (.int .i64 (p i))])),(AN 2),(NL 1 1),(NL 1 1),(AI ((↑n : Int))),(AN 0),(AN c),(AN 2),(NL c c),(AA c (fun i => [.p (.int .i64 ((h i).1)), .p (.int .i64 ((h i).2.1))]))]) := by kernel_rfl
theorem vje (g : Nat → T_Bar) (nb N : Nat) (S : T_IntS) (n : Nat) (p : Nat → Int) (k c : Nat) (h : Nat → T_Bar) :
    pathOb Tryz.prog Tryz.f196 0 [rm [(7, oc [] (.p (.bool true)))] 1, .dec false, rg 2] zf18 (V1 g nb N S n p k c h) [4] 1 [(0, brOb c h)] (.agg [.p (.int .i64 n), .ar 2 0 0 c]) =
    some [(NT 0 1),(((decide ((↑k : Int) < (↑nb : Int))) = true) → (NT 0 1)),(AG (decide ((↑k : Int) < (↑nb : Int)))),(((decide ((↑k : Int) < (↑nb : Int))) = true) →  Con Tryz.prog 22 0 [] [(zf78 N nb g)] [] (.p (.bool true))),(AG (decide ((↑k : Int) < (↑nb : Int)))),((bif decide ((↑k : Int) < (↑nb : Int)) then true else false) = false),(NT 0 1),(NT 0 1),((true = true) →  (AN 1)),(NT 0 1),(AI ((↑n : Int))),(AN 0),(AN c),(AN 2),(NL c c),(AA c (fun i => [.p (.int .i64 ((h i).1)), .p (.int .i64 ((h i).2.1))])),(AE c)] := by kernel_rfl
theorem ciz (g : Nat → T_Bar) (nb N k : Nat) :
    pieceOb Tryz.prog 0 [rg 2, rg 2, rm [(1, oc [] (.p (.bool true))), (3, oc [] (.p (.bool true)))] 2, .dec false, rg 4, .head] [.code (bodyOf Tryz.f160)] (start Tryz.f160 [] 0 [grG g nb N, .p (.int .i64 k)]) [0, 64] 1 (C0 g nb N k 0 0 (fun _ => (0, fun _ => 0))) =
    some (zf39, [(NT 0 1),Con Tryz.prog 35 0 [] [(zf78 N nb g)] [] (.p (.bool true)),(AG (!!true)),(((!!true) = true) →  Con Tryz.prog 104 0 [] [.p (.int .i64 (↑k : Int)), .p (.int .i64 0), .p (.int .i64 3)] [] (.p (.bool true))),(AG (!!true)),(((!true) = false) →  ((!!true) = true)),((bif !true then true else !true) = false),(NT 0 1),(IL 0 (↑N : Int)),(AI ((↑N : Int))),(AN nb),(AP nb (fun i => [.int .i64 ((g i).1), .int .i64 ((g i).2.1)])),(AI ((↑k : Int))),(AN 0),(AN 0),(AN 0),(AI ((shlI IntKind.i64 1 (↑N : Int)))),((0 : Int) = (↑0 : Int)),((([AV.p (PV.int IntKind.i64 (↑N : Int)), brL g nb].length) : Nat) = 2),(NL 1 1),(NL 1 1),(AI ((↑N : Int))),(AN nb),(AP nb (fun i => [.int .i64 ((g i).1), .int .i64 ((g i).2.1)])),(AN 1),(NL 0 0),(∀ i : Nat, (((i : Nat) < 0) → (All [] ∧ (([.p (.nil)] : List AV) = [.p (.seq false 1 0 (fun i_1 => [.int .i64 ((0, fun x => 0).2 i_1)]))]))))]) := by kernel_rfl
theorem cin (g : Nat → T_Bar) (nb N k w c : Nat) (G : Nat → T_IntS) (s : T_IntS) :
    pieceOb Tryz.prog 0 [rg 1, .dec true, rg 2, rm [(3, oc [(0, iOb s.1 s.2)] (.ar 1 0 0 s.1))] 1, rg 4, .dec true, rg 2, .head] zf39 (C0 g nb N k w c G) [0, 1] 1 (C0 g nb N k (w + 1) c G) =
    some (zf39, [((decide ((↑w : Int) < shlI IntKind.i64 1 (↑N : Int))) = true),(NT 0 1),Con Tryz.prog 124 0 [] [.p (.int .i64 (↑w : Int)), .p (.int .i64 (↑N : Int))] [(0, ⟨false, 1, s.1, (fun i => [.p (.int .i64 (s.2 i))])⟩)] (.ar 1 0 0 s.1),(((↑s.1 : Int) != (↑k : Int)) = true),(R0 ((↑w : Int) + 1)),(R1 ((↑w : Int) + 1)),(AI ((↑N : Int))),(AN nb),(AP nb (fun i => [.int .i64 ((g i).1), .int .i64 ((g i).2.1)])),(AI ((↑k : Int))),(AN 0),(AN 0),(AN c),(AI ((shlI IntKind.i64 1 (↑N : Int)))),((((↑w : Int) + 1) : Int) = (↑(w + 1) : Int)),(AN 2),(NL 1 1),(NL 1 1),(AI ((↑N : Int))),(AN nb),(AP nb (fun i => [.int .i64 ((g i).1), .int .i64 ((g i).2.1)])),(AN 1),(NL c c),(AA c (fun i => [.p (.seq false 1 ((G i).1) (fun i_1 => [.int .i64 ((G i).2 i_1)]))]))]) := by kernel_rfl
theorem cit (g : Nat → T_Bar) (nb N k w c : Nat) (G : Nat → T_IntS) (s : T_IntS) (n m : Nat) (h : Nat → T_Bar) (b : Bool) :
    pieceOb Tryz.prog 0 [rg 1, .dec true, rg 2, rm [(3, oc [(0, iOb s.1 s.2)] (.ar 1 0 0 s.1))] 1, rg 4, .dec false, rm [(2, oc [(0, brOb m h)] (.agg [.p (.int .i64 n), .ar 2 0 0 m]))] 2, rm [(5, oc [] (.p (.bool b)))] 2, .dec true, rg 5, rg 2, .head] zf39 (C0 g nb N k w c G) [0, 898] 1 (C0 g nb N k (w + 1) (c + 1) (snocC c G s)) =
    some (zf39, [((decide ((↑w : Int) < shlI IntKind.i64 1 (↑N : Int))) = true),(NT 0 1),Con Tryz.prog 124 0 [] [.p (.int .i64 (↑w : Int)), .p (.int .i64 (↑N : Int))] [(0, ⟨false, 1, s.1, (fun i => [.p (.int .i64 (s.2 i))])⟩)] (.ar 1 0 0 s.1),(((↑s.1 : Int) != (↑k : Int)) = false),(NT 0 1),(AN 1),(NL s.1 s.1),Con Tryz.prog 201 0 [] [(zf78 N nb g), .p (.seq true 1 s.1 (fun i => [.int .i64 (s.2 i)]))] (zf83 m h) (.agg [.p (.int .i64 (↑n : Int)), .ar 2 0 0 m]),(NT 0 1),((true = true) →  (AN 1)),(NT 0 1),(((decide ((↑n : Int) ≥ 2)) = true) → (NT 0 1)),(AG (decide ((↑n : Int) ≥ 2))),(((decide ((↑n : Int) ≥ 2)) = true) →  (AN 2)),(((decide ((↑n : Int) ≥ 2)) = true) → (NL m m)),(((decide ((↑n : Int) ≥ 2)) = true) →  Con Tryz.prog 202 0 [] [(zf78 n m h)] [] (.p (.bool b))),(AG (decide ((↑n : Int) ≥ 2))),(AG (decide ((↑n : Int) ≥ 2))),((bif decide ((↑n : Int) ≥ 2) then !b else false) = true),(NL 1 1),(NL c c),(NL ((c + 1) * 24) 140737488355328),(NL (c + 1) 9223372036854775807),(R0 ((↑w : Int) + 1)),(R1 ((↑w : Int) + 1)),(AI ((↑N : Int))),(AN nb),(AP nb (fun i => [.int .i64 ((g i).1), .int .i64 ((g i).2.1)])),(AI ((↑k : Int))),(AN 0),(AN 0),(AN ((c + 1))),(AI ((shlI IntKind.i64 1 (↑N : Int)))),((((↑w : Int) + 1) : Int) = (↑(w + 1) : Int)),(AN 2),(NL 1 1),(NL 1 1),(AI ((↑N : Int))),(AN nb),(AP nb (fun i => [.int .i64 ((g i).1), .int .i64 ((g i).2.1)])),(AN 1),(NL (c + 1) (c + 1)),(CV [(898, ⟨false, 1, (c + 1), (fun i_1 => (if (i_1 < c) then [.p (.seq false 1 ((G i_1).1) (fun i_2 => [.int .i64 ((G i_1).2 i_2)]))] else [.ar 1 194 0 s.1]))⟩), (866, ⟨false, 1, 1, (fun i_1 => [.ar 1 194 0 s.1])⟩), (482, ⟨true, 2, 1, (fun i_1 => [.p (.int .i64 (↑n : Int)), .ar 2 450 0 m])⟩), (450, ⟨false, 2, m, (fun i_1 => [.p (.int .i64 ((h i_1).1)), .p (.int .i64 ((h i_1).2.1))])⟩), (194, ⟨false, 1, s.1, (fun i_1 => [.p (.int .i64 (s.2 i_1))])⟩), (0, ⟨true, 2, 1, (fun i_1 => [.p (.int .i64 (↑N : Int)), .p (.seq true 2 nb (fun i_2 => [.int .i64 ((g i_2).1), .int .i64 ((g i_2).2.1)]))])⟩)] [0, 898] 1 (c + 1) (fun i => if (i < c) then [.p (.seq false 1 ((G i).1) (fun i_1 => [.int .i64 ((G i).2 i_1)]))] else [.ar 1 194 0 s.1]) (fun i => [.p (.seq false 1 (if i < c then (G i).1 else s.1) (fun i_1 => [.int .i64 ((snocC c G s i).2 i_1)]))]))]) := by kernel_rfl
theorem cif (g : Nat → T_Bar) (nb N k w c : Nat) (G : Nat → T_IntS) (s : T_IntS) (n m : Nat) (h : Nat → T_Bar) (b : Bool) :
    pieceOb Tryz.prog 0 [rg 1, .dec true, rg 2, rm [(3, oc [(0, iOb s.1 s.2)] (.ar 1 0 0 s.1))] 1, rg 4, .dec false, rm [(2, oc [(0, brOb m h)] (.agg [.p (.int .i64 n), .ar 2 0 0 m]))] 2, rm [(5, oc [] (.p (.bool b)))] 2, .dec false, rg 2, .head] zf39 (C0 g nb N k w c G) [0, 1] 1 (C0 g nb N k (w + 1) c G) =
    some (zf39, [((decide ((↑w : Int) < shlI IntKind.i64 1 (↑N : Int))) = true),(NT 0 1),Con Tryz.prog 124 0 [] [.p (.int .i64 (↑w : Int)), .p (.int .i64 (↑N : Int))] [(0, ⟨false, 1, s.1, (fun i => [.p (.int .i64 (s.2 i))])⟩)] (.ar 1 0 0 s.1),(((↑s.1 : Int) != (↑k : Int)) = false),(NT 0 1),(AN 1),(NL s.1 s.1),Con Tryz.prog 201 0 [] [(zf78 N nb g), .p (.seq true 1 s.1 (fun i => [.int .i64 (s.2 i)]))] (zf83 m h) (.agg [.p (.int .i64 (↑n : Int)), .ar 2 0 0 m]),(NT 0 1),((true = true) →  (AN 1)),(NT 0 1),(((decide ((↑n : Int) ≥ 2)) = true) → (NT 0 1)),(AG (decide ((↑n : Int) ≥ 2))),(((decide ((↑n : Int) ≥ 2)) = true) →  (AN 2)),(((decide ((↑n : Int) ≥ 2)) = true) → (NL m m)),(((decide ((↑n : Int) ≥ 2)) = true) →  Con Tryz.prog 202 0 [] [(zf78 n m h)] [] (.p (.bool b))),(AG (decide ((↑n : Int) ≥ 2))),(AG (decide ((↑n : Int) ≥ 2))),((bif decide ((↑n : Int) ≥ 2) then !b else false) = false),(R0 ((↑w : Int) + 1)),(R1 ((↑w : Int) + 1)),(AI ((↑N : Int))),(AN nb),(AP nb (fun i => [.int .i64 ((g i).1), .int .i64 ((g i).2.1)])),(AI ((↑k : Int))),(AN 0),(AN 0),(AN c),(AI ((shlI IntKind.i64 1 (↑N : Int)))),((((↑w : Int) + 1) : Int) = (↑(w + 1) : Int)),(AN 2),(NL 1 1),(NL 1 1),(AI ((↑N : Int))),(AN nb),(AP nb (fun i => [.int .i64 ((g i).1), .int .i64 ((g i).2.1)])),(AN 1),(NL c c),(AA c (fun i => [.p (.seq false 1 ((G i).1) (fun i_1 => [.int .i64 ((G i).2 i_1)]))]))]) := by kernel_rfl
theorem cie (g : Nat → T_Bar) (nb N k w c : Nat) (G : Nat → T_IntS) :
    pathOb Tryz.prog Tryz.f160 0 [rg 1, .dec false, rg 2] zf39 (C0 g nb N k w c G) [1] 1 [(0, ssOb c G)] (.ar 1 0 0 c) =
    some [((decide ((↑w : Int) < shlI IntKind.i64 1 (↑N : Int))) = false),(AN 0),(AN c),(AN 1),(NL c c),(AA c (fun i => [.p (.seq false 1 ((G i).1) (fun i_1 => [.int .i64 ((G i).2 i_1)]))])),(∀ i : Nat, (((i : Nat) < c) → All [(false = false), (AE (((G i).1)))]))] := by kernel_rfl
theorem csz (g : Nat → T_Bar) (nb N k : Nat) :
    pieceOb Tryz.prog 0 [rg 2, rg 2, rm [(1, oc [] (.p (.bool true))), (3, oc [] (.p (.bool true)))] 2, .dec false, rg 1, .head] [.code (bodyOf Tryz.f153)] (start Tryz.f153 [] 0 [grG g nb N, .p (.int .i64 k)]) [0, 64] 1 (D0 g nb N k 0 0 (fun _ => (0, fun _ => 0))) =
    some (zf40, [(NT 0 1),Con Tryz.prog 22 0 [] [(zf78 N nb g)] [] (.p (.bool true)),(AG (!!true)),(((!!true) = true) →  Con Tryz.prog 95 0 [] [.p (.int .i64 (↑k : Int)), .p (.int .i64 0), .p (.int .i64 3)] [] (.p (.bool true))),(AG (!!true)),(((!true) = false) →  ((!!true) = true)),((bif !true then true else !true) = false),(AI ((↑N : Int))),(AN nb),(AP nb (fun i => [.int .i64 ((g i).1), .int .i64 ((g i).2.1)])),(AI ((↑k : Int))),(AN 0),(AN 0),(AN 0),((0 : Int) = (↑0 : Int)),((([AV.p (PV.int IntKind.i64 (↑N : Int)), brL g nb].length) : Nat) = 2),(NL 1 1),(NL 1 1),(AI ((↑N : Int))),(AN nb),(AP nb (fun i => [.int .i64 ((g i).1), .int .i64 ((g i).2.1)])),(AN 1),(NL 0 0),(∀ i : Nat, (((i : Nat) < 0) → (All [] ∧ (([.p (.nil)] : List AV) = [.p (.seq false 1 0 (fun i_1 => [.int .i64 ((0, fun x => 0).2 i_1)]))]))))]) := by kernel_rfl
theorem csn (g : Nat → T_Bar) (nb N k w c : Nat) (G : Nat → T_IntS) (s : T_IntS) :
    pieceOb Tryz.prog 0 [rg 5, .dec true, rm [(3, oc [(0, iOb s.1 s.2)] (.ar 1 0 0 s.1))] 1, rm [(5, ⟨true, none, some false⟩), (0, ⟨true, none, some false⟩), (0, ⟨true, none, some false⟩), (0, ⟨true, none, some false⟩), (0, ⟨true, none, some false⟩), (0, ⟨true, none, some false⟩), (1, ⟨true, none, some false⟩), (0, ⟨true, none, some false⟩), (0, ⟨true, none, some false⟩), (0, ⟨true, none, some false⟩), (0, ⟨true, none, some false⟩), (0, ⟨true, none, some false⟩)] 0, .dec false, rg 3, .head] zf40 (D0 g nb N k w c G) [0, 1] 1 (D0 g nb N k (w + 1) c G) =
    some (zf40, [(NT 0 1),(IL 0 (↑N : Int)),((decide ((↑w : Int) < shlI IntKind.i64 1 (↑N : Int))) = true),(NT 0 1),Con Tryz.prog 118 0 [] [.p (.int .i64 (↑N : Int)), .p (.int .i64 (↑w : Int))] [(0, ⟨false, 1, s.1, (fun i => [.p (.int .i64 (s.2 i))])⟩)] (.ar 1 0 0 s.1),(((↑s.1 : Int) == (↑k : Int)) = false),(((↑s.1 : Int) == (↑k : Int)) = false),(((↑s.1 : Int) == (↑k : Int)) = false),(((↑s.1 : Int) == (↑k : Int)) = false),(((↑s.1 : Int) == (↑k : Int)) = false),(((↑s.1 : Int) == (↑k : Int)) = false),(false = false),(false = false),(false = false),(false = false),(false = false),(false = false),(false = false),(R0 ((↑w : Int) + 1)),(R1 ((↑w : Int) + 1)),(AI ((↑N : Int))),(AN nb),(AP nb (fun i => [.int .i64 ((g i).1), .int .i64 ((g i).2.1)])),(AI ((↑k : Int))),(AN 0),(AN 0),(AN c),((((↑w : Int) + 1) : Int) = (↑(w + 1) : Int)),(AN 2),(NL 1 1),(NL 1 1),(AI ((↑N : Int))),(AN nb),(AP nb (fun i => [.int .i64 ((g i).1), .int .i64 ((g i).2.1)])),(AN 1),(NL c c),(AA c (fun i => [.p (.seq false 1 ((G i).1) (fun i_1 => [.int .i64 ((G i).2 i_1)]))]))]) := by kernel_rfl
theorem csm (g : Nat → T_Bar) (nb N k w c : Nat) (G : Nat → T_IntS) (s : T_IntS) :
    pieceOb Tryz.prog 0 [rg 5, .dec true, rm [(3, oc [(0, iOb s.1 s.2)] (.ar 1 0 0 s.1))] 1, rm [(5, ⟨true, none, some true⟩), (0, ⟨true, none, some true⟩), (0, ⟨true, none, some true⟩), (0, ⟨true, none, some true⟩), (0, ⟨true, none, some true⟩), (0, ⟨true, none, some true⟩), (1, ⟨true, none, some false⟩), (0, ⟨true, none, some false⟩), (0, ⟨true, none, some false⟩), (0, ⟨true, none, some false⟩), (0, ⟨true, none, some false⟩), (0, ⟨true, none, some false⟩)] 0, .dec false, rg 3, .head] zf40 (D0 g nb N k w c G) [0, 1] 1 (D0 g nb N k (w + 1) c G) =
    some (zf40, [(NT 0 1),(IL 0 (↑N : Int)),((decide ((↑w : Int) < shlI IntKind.i64 1 (↑N : Int))) = true),(NT 0 1),Con Tryz.prog 118 0 [] [.p (.int .i64 (↑N : Int)), .p (.int .i64 (↑w : Int))] [(0, ⟨false, 1, s.1, (fun i => [.p (.int .i64 (s.2 i))])⟩)] (.ar 1 0 0 s.1),(((↑s.1 : Int) == (↑k : Int)) = true),(((↑s.1 : Int) == (↑k : Int)) = true),(NT 0 1),(((↑s.1 : Int) == (↑k : Int)) = true),(((↑s.1 : Int) == (↑k : Int)) = true),(R0 ((↑N : Int) - (↑k : Int))),(R1 ((↑N : Int) - (↑k : Int))),(((↑s.1 : Int) == (↑k : Int)) = true),(((↑s.1 : Int) == (↑k : Int)) = true),((decide ((↑N : Int) - (↑k : Int) ≥ 2)) = false),((decide ((↑N : Int) - (↑k : Int) ≥ 2)) = false),((decide ((↑N : Int) - (↑k : Int) ≥ 2)) = false),((decide ((↑N : Int) - (↑k : Int) ≥ 2)) = false),((decide ((↑N : Int) - (↑k : Int) ≥ 2)) = false),((decide ((↑N : Int) - (↑k : Int) ≥ 2)) = false),(false = false),(R0 ((↑w : Int) + 1)),(R1 ((↑w : Int) + 1)),(AI ((↑N : Int))),(AN nb),(AP nb (fun i => [.int .i64 ((g i).1), .int .i64 ((g i).2.1)])),(AI ((↑k : Int))),(AN 0),(AN 0),(AN c),((((↑w : Int) + 1) : Int) = (↑(w + 1) : Int)),(AN 2),(NL 1 1),(NL 1 1),(AI ((↑N : Int))),(AN nb),(AP nb (fun i => [.int .i64 ((g i).1), .int .i64 ((g i).2.1)])),(AN 1),(NL c c),(AA c (fun i => [.p (.seq false 1 ((G i).1) (fun i_1 => [.int .i64 ((G i).2 i_1)]))]))]) := by kernel_rfl
theorem cst (g : Nat → T_Bar) (nb N k w c : Nat) (G : Nat → T_IntS) (s : T_IntS) (n m : Nat) (h : Nat → T_Bar) (b : Bool) :
    pieceOb Tryz.prog 0 [rg 5, .dec true, rm [(3, oc [(0, iOb s.1 s.2)] (.ar 1 0 0 s.1))] 1, rm [(5, ⟨true, none, some true⟩), (0, ⟨true, none, some true⟩), (0, ⟨true, none, some true⟩), (0, ⟨true, none, some true⟩), (0, ⟨true, none, some true⟩), (0, ⟨true, none, some true⟩), (1, ⟨true, none, some true⟩), (0, ⟨true, none, some true⟩), (0, ⟨true, (some ⟨[], [], [], 1, [(0, brOb m h)], .agg [.p (.int .i64 n), .ar 2 0 0 m]⟩), some true⟩), (0, ⟨true, (some ⟨[], [], [], 1, [], .p (.bool b)⟩), some true⟩), (0, ⟨true, none, some true⟩), (0, ⟨true, none, some true⟩)] 0, .dec true, rg 5, rg 3, .head] zf40 (D0 g nb N k w c G) [0, 994] 1 (D0 g nb N k (w + 1) (c + 1) (snocC c G s)) =
    some (zf40, [(NT 0 1),(IL 0 (↑N : Int)),((decide ((↑w : Int) < shlI IntKind.i64 1 (↑N : Int))) = true),(NT 0 1),Con Tryz.prog 118 0 [] [.p (.int .i64 (↑N : Int)), .p (.int .i64 (↑w : Int))] [(0, ⟨false, 1, s.1, (fun i => [.p (.int .i64 (s.2 i))])⟩)] (.ar 1 0 0 s.1),(((↑s.1 : Int) == (↑k : Int)) = true),(((↑s.1 : Int) == (↑k : Int)) = true),(NT 0 1),(((↑s.1 : Int) == (↑k : Int)) = true),(((↑s.1 : Int) == (↑k : Int)) = true),(R0 ((↑N : Int) - (↑k : Int))),(R1 ((↑N : Int) - (↑k : Int))),(((↑s.1 : Int) == (↑k : Int)) = true),(((↑s.1 : Int) == (↑k : Int)) = true),((decide ((↑N : Int) - (↑k : Int) ≥ 2)) = true),(NT 0 1),((decide ((↑N : Int) - (↑k : Int) ≥ 2)) = true),((decide ((↑N : Int) - (↑k : Int) ≥ 2)) = true),(AN 1),(NL s.1 s.1),Con Tryz.prog 196 0 [] [(zf78 N nb g), .p (.seq true 1 s.1 (fun i => [.int .i64 (s.2 i)]))] (zf83 m h) (.agg [.p (.int .i64 (↑n : Int)), .ar 2 0 0 m]),((decide ((↑N : Int) - (↑k : Int) ≥ 2)) = true),(AN 2),(NL m m),Con Tryz.prog 195 0 [] [(zf78 n m h)] [] (.p (.bool b)),((decide ((↑N : Int) - (↑k : Int) ≥ 2)) = true),((decide ((↑N : Int) - (↑k : Int) ≥ 2)) = true),((!b) = true),(NL 1 1),(NL c c),(NL ((c + 1) * 24) 140737488355328),(NL (c + 1) 9223372036854775807),(R0 ((↑w : Int) + 1)),(R1 ((↑w : Int) + 1)),(AI ((↑N : Int))),(AN nb),(AP nb (fun i => [.int .i64 ((g i).1), .int .i64 ((g i).2.1)])),(AI ((↑k : Int))),(AN 0),(AN 0),(AN ((c + 1))),((((↑w : Int) + 1) : Int) = (↑(w + 1) : Int)),(AN 2),(NL 1 1),(NL 1 1),(AI ((↑N : Int))),(AN nb),(AP nb (fun i => [.int .i64 ((g i).1), .int .i64 ((g i).2.1)])),(AN 1),(NL (c + 1) (c + 1)),(CV [(994, ⟨false, 1, (c + 1), (fun i_1 => (if (i_1 < c) then [.p (.seq false 1 ((G i_1).1) (fun i_2 => [.int .i64 ((G i_1).2 i_2)]))] else [.ar 1 258 0 s.1]))⟩), (962, ⟨false, 1, 1, (fun i_1 => [.ar 1 258 0 s.1])⟩), (770, ⟨false, 2, m, (fun i_1 => [.p (.int .i64 ((h i_1).1)), .p (.int .i64 ((h i_1).2.1))])⟩), (258, ⟨false, 1, s.1, (fun i_1 => [.p (.int .i64 (s.2 i_1))])⟩), (0, ⟨true, 2, 1, (fun i_1 => [.p (.int .i64 (↑N : Int)), .p (.seq true 2 nb (fun i_2 => [.int .i64 ((g i_2).1), .int .i64 ((g i_2).2.1)]))])⟩)] [0, 994] 1 (c + 1) (fun i => if (i < c) then [.p (.seq false 1 ((G i).1) (fun i_1 => [.int .i64 ((G i).2 i_1)]))] else [.ar 1 258 0 s.1]) (fun i => [.p (.seq false 1 (if i < c then (G i).1 else s.1) (fun i_1 => [.int .i64 ((snocC c G s i).2 i_1)]))]))]) := by kernel_rfl
theorem csf (g : Nat → T_Bar) (nb N k w c : Nat) (G : Nat → T_IntS) (s : T_IntS) (n m : Nat) (h : Nat → T_Bar) (b : Bool) :
    pieceOb Tryz.prog 0 [rg 5, .dec true, rm [(3, oc [(0, iOb s.1 s.2)] (.ar 1 0 0 s.1))] 1, rm [(5, ⟨true, none, some true⟩), (0, ⟨true, none, some true⟩), (0, ⟨true, none, some true⟩), (0, ⟨true, none, some true⟩), (0, ⟨true, none, some true⟩), (0, ⟨true, none, some true⟩), (1, ⟨true, none, some true⟩), (0, ⟨true, none, some true⟩), (0, ⟨true, (some ⟨[], [], [], 1, [(0, brOb m h)], .agg [.p (.int .i64 n), .ar 2 0 0 m]⟩), some true⟩), (0, ⟨true, (some ⟨[], [], [], 1, [], .p (.bool b)⟩), some true⟩), (0, ⟨true, none, some true⟩), (0, ⟨true, none, some true⟩)] 0, .dec false, rg 3, .head] zf40 (D0 g nb N k w c G) [0, 1] 1 (D0 g nb N k (w + 1) c G) =
    some (zf40, [(NT 0 1),(IL 0 (↑N : Int)),((decide ((↑w : Int) < shlI IntKind.i64 1 (↑N : Int))) = true),(NT 0 1),Con Tryz.prog 118 0 [] [.p (.int .i64 (↑N : Int)), .p (.int .i64 (↑w : Int))] [(0, ⟨false, 1, s.1, (fun i => [.p (.int .i64 (s.2 i))])⟩)] (.ar 1 0 0 s.1),(((↑s.1 : Int) == (↑k : Int)) = true),(((↑s.1 : Int) == (↑k : Int)) = true),(NT 0 1),(((↑s.1 : Int) == (↑k : Int)) = true),(((↑s.1 : Int) == (↑k : Int)) = true),(R0 ((↑N : Int) - (↑k : Int))),(R1 ((↑N : Int) - (↑k : Int))),(((↑s.1 : Int) == (↑k : Int)) = true),(((↑s.1 : Int) == (↑k : Int)) = true),((decide ((↑N : Int) - (↑k : Int) ≥ 2)) = true),(NT 0 1),((decide ((↑N : Int) - (↑k : Int) ≥ 2)) = true),((decide ((↑N : Int) - (↑k : Int) ≥ 2)) = true),(AN 1),(NL s.1 s.1),Con Tryz.prog 196 0 [] [(zf78 N nb g), .p (.seq true 1 s.1 (fun i => [.int .i64 (s.2 i)]))] (zf83 m h) (.agg [.p (.int .i64 (↑n : Int)), .ar 2 0 0 m]),((decide ((↑N : Int) - (↑k : Int) ≥ 2)) = true),(AN 2),(NL m m),Con Tryz.prog 195 0 [] [(zf78 n m h)] [] (.p (.bool b)),((decide ((↑N : Int) - (↑k : Int) ≥ 2)) = true),((decide ((↑N : Int) - (↑k : Int) ≥ 2)) = true),((!b) = false),(R0 ((↑w : Int) + 1)),(R1 ((↑w : Int) + 1)),(AI ((↑N : Int))),(AN nb),(AP nb (fun i => [.int .i64 ((g i).1), .int .i64 ((g i).2.1)])),(AI ((↑k : Int))),(AN 0),(AN 0),(AN c),((((↑w : Int) + 1) : Int) = (↑(w + 1) : Int)),(AN 2),(NL 1 1),(NL 1 1),(AI ((↑N : Int))),(AN nb),(AP nb (fun i => [.int .i64 ((g i).1), .int .i64 ((g i).2.1)])),(AN 1),(NL c c),(AA c (fun i => [.p (.seq false 1 ((G i).1) (fun i_1 => [.int .i64 ((G i).2 i_1)]))]))]) := by kernel_rfl
theorem cse (g : Nat → T_Bar) (nb N k w c : Nat) (G : Nat → T_IntS) :
    pathOb Tryz.prog Tryz.f153 0 [rg 5, .dec false, rg 2] zf40 (D0 g nb N k w c G) [1] 1 [(0, ssOb c G)] (.ar 1 0 0 c) =
    some [(NT 0 1),(IL 0 (↑N : Int)),((decide ((↑w : Int) < shlI IntKind.i64 1 (↑N : Int))) = false),(AN 0),(AN c),(AN 1),(NL c c),(AA c (fun i => [.p (.seq false 1 ((G i).1) (fun i_1 => [.int .i64 ((G i).2 i_1)]))])),(∀ i : Nat, (((i : Nat) < c) → All [(false = false), (AE (((G i).1)))]))] := by kernel_rfl
theorem kin (g : Nat → T_Bar) (nb N k : Nat) :
    pathOb Tryz.prog Tryz.f113 0 [rg 2, rm [(1, oc [] (.p (.bool true))), (3, oc [] (.p (.bool true)))] 8, .dec true, rg 1] [.code (bodyOf Tryz.f113)] (start Tryz.f113 [] 0 [grG g nb N, .p (.int .i64 k)]) [] 1 [] (.p (.bool false)) =
    some [(NT 0 1),Con Tryz.prog 35 0 [] [(zf78 N nb g)] [] (.p (.bool true)),(AG (!!true)),(((!!true) = true) →  Con Tryz.prog 104 0 [] [.p (.int .i64 (↑k : Int)), .p (.int .i64 1), .p (.int .i64 3)] [] (.p (.bool true))),(AG (!!true)),(((!true) = false) →  ((!!true) = true)),(AG (!bif !true then true else !true)),(((!bif !true then true else !true) = true) → (NT 0 1)),(AG (!bif !true then true else !true)),(AG (!bif !true then true else !true)),(((bif !true then true else !true) = false) →  ((!bif !true then true else !true) = true)),((bif bif !true then true else !true then true else decide ((↑N : Int) ≤ (↑k : Int))) = true),(false = false)] := by kernel_rfl
theorem kiz (g : Nat → T_Bar) (nb N k : Nat) :
    pieceOb Tryz.prog 0 [rg 2, rm [(1, oc [] (.p (.bool true))), (3, oc [] (.p (.bool true)))] 8, .dec false, rg 2, .head] [.code (bodyOf Tryz.f113)] (start Tryz.f113 [] 0 [grG g nb N, .p (.int .i64 k)]) [0] 1 (KI g nb N k 0) =
    some (zf55, [(NT 0 1),Con Tryz.prog 35 0 [] [(zf78 N nb g)] [] (.p (.bool true)),(AG (!!true)),(((!!true) = true) →  Con Tryz.prog 104 0 [] [.p (.int .i64 (↑k : Int)), .p (.int .i64 1), .p (.int .i64 3)] [] (.p (.bool true))),(AG (!!true)),(((!true) = false) →  ((!!true) = true)),(AG (!bif !true then true else !true)),(((!bif !true then true else !true) = true) → (NT 0 1)),(AG (!bif !true then true else !true)),(AG (!bif !true then true else !true)),(((bif !true then true else !true) = false) →  ((!bif !true then true else !true) = true)),((bif bif !true then true else !true then true else decide ((↑N : Int) ≤ (↑k : Int))) = false),(AI ((↑N : Int))),(AN nb),(AP nb (fun i => [.int .i64 ((g i).1), .int .i64 ((g i).2.1)])),(AI ((↑k : Int))),(AN 0),(AI ((↑k : Int))),((0 : Int) = (↑0 : Int)),((([AV.p (PV.int IntKind.i64 (↑N : Int)), brL g nb].length) : Nat) = 2),(NL 1 1),(NL 1 1),(AI ((↑N : Int))),(AN nb),(AP nb (fun i => [.int .i64 ((g i).1), .int .i64 ((g i).2.1)]))]) := by kernel_rfl
theorem kit (g : Nat → T_Bar) (nb N k j c : Nat) (G : Nat → T_IntS) :
    pathOb Tryz.prog Tryz.f113 0 [rg 1, .dec true, rg 2, rm [(2, oc [(0, ssOb c G)] (.ar 1 0 0 c))] 2, .dec true, rg 1] zf55 (KI g nb N k j) [] 1 [] (.p (.bool false)) =
    some [((decide ((↑j : Int) < (↑k : Int))) = true),(NT 0 1),Con Tryz.prog 160 0 [] [(zf78 N nb g), .p (.int .i64 (↑j : Int))] (zf81 c G) (.ar 1 0 0 c),((decide ((↑c : Int) > 0)) = true),(false = false)] := by kernel_rfl
theorem kif (g : Nat → T_Bar) (nb N k j c : Nat) (G : Nat → T_IntS) :
    pieceOb Tryz.prog 0 [rg 1, .dec true, rg 2, rm [(2, oc [(0, ssOb c G)] (.ar 1 0 0 c))] 2, .dec false, rg 2, .head] zf55 (KI g nb N k j) [0] 1 (KI g nb N k (j + 1)) =
    some (zf55, [((decide ((↑j : Int) < (↑k : Int))) = true),(NT 0 1),Con Tryz.prog 160 0 [] [(zf78 N nb g), .p (.int .i64 (↑j : Int))] (zf81 c G) (.ar 1 0 0 c),((decide ((↑c : Int) > 0)) = false),(R0 ((↑j : Int) + 1)),(R1 ((↑j : Int) + 1)),(AI ((↑N : Int))),(AN nb),(AP nb (fun i => [.int .i64 ((g i).1), .int .i64 ((g i).2.1)])),(AI ((↑k : Int))),(AN 0),(AI ((↑k : Int))),((((↑j : Int) + 1) : Int) = (↑(j + 1) : Int)),(AN 2),(NL 1 1),(NL 1 1),(AI ((↑N : Int))),(AN nb),(AP nb (fun i => [.int .i64 ((g i).1), .int .i64 ((g i).2.1)]))]) := by kernel_rfl
theorem kie (g : Nat → T_Bar) (nb N k j : Nat) :
    pathOb Tryz.prog Tryz.f113 0 [rg 1, .dec false, rg 1] zf55 (KI g nb N k j) [] 1 [] (.p (.bool true)) =
    some [((decide ((↑j : Int) < (↑k : Int))) = false),(true = true)] := by kernel_rfl
theorem ksn (g : Nat → T_Bar) (nb N k : Nat) :
    pathOb Tryz.prog Tryz.f102 0 [rg 2, rm [(1, oc [] (.p (.bool true))), (3, oc [] (.p (.bool true)))] 8, .dec true, rg 1] [.code (bodyOf Tryz.f102)] (start Tryz.f102 [] 0 [grG g nb N, .p (.int .i64 k)]) [] 1 [] (.p (.bool false)) =
    some [(NT 0 1),Con Tryz.prog 22 0 [] [(zf78 N nb g)] [] (.p (.bool true)),(AG (!!true)),(((!!true) = true) →  Con Tryz.prog 95 0 [] [.p (.int .i64 (↑k : Int)), .p (.int .i64 1), .p (.int .i64 3)] [] (.p (.bool true))),(AG (!!true)),(((!true) = false) →  ((!!true) = true)),(AG (!bif !true then true else !true)),(((!bif !true then true else !true) = true) → (NT 0 1)),(AG (!bif !true then true else !true)),(AG (!bif !true then true else !true)),(((bif !true then true else !true) = false) →  ((!bif !true then true else !true) = true)),((bif bif !true then true else !true then true else decide ((↑N : Int) ≤ (↑k : Int))) = true),(false = false)] := by kernel_rfl
theorem ksz (g : Nat → T_Bar) (nb N k : Nat) :
    pieceOb Tryz.prog 0 [rg 2, rm [(1, oc [] (.p (.bool true))), (3, oc [] (.p (.bool true)))] 8, .dec false, rg 1, .head] [.code (bodyOf Tryz.f102)] (start Tryz.f102 [] 0 [grG g nb N, .p (.int .i64 k)]) [0] 1 (KS g nb N k 0) =
    some (zf56, [(NT 0 1),Con Tryz.prog 22 0 [] [(zf78 N nb g)] [] (.p (.bool true)),(AG (!!true)),(((!!true) = true) →  Con Tryz.prog 95 0 [] [.p (.int .i64 (↑k : Int)), .p (.int .i64 1), .p (.int .i64 3)] [] (.p (.bool true))),(AG (!!true)),(((!true) = false) →  ((!!true) = true)),(AG (!bif !true then true else !true)),(((!bif !true then true else !true) = true) → (NT 0 1)),(AG (!bif !true then true else !true)),(AG (!bif !true then true else !true)),(((bif !true then true else !true) = false) →  ((!bif !true then true else !true) = true)),((bif bif !true then true else !true then true else decide ((↑N : Int) ≤ (↑k : Int))) = false),(AI ((↑N : Int))),(AN nb),(AP nb (fun i => [.int .i64 ((g i).1), .int .i64 ((g i).2.1)])),(AI ((↑k : Int))),(AN 0),((0 : Int) = (↑0 : Int)),((([AV.p (PV.int IntKind.i64 (↑N : Int)), brL g nb].length) : Nat) = 2),(NL 1 1),(NL 1 1),(AI ((↑N : Int))),(AN nb),(AP nb (fun i => [.int .i64 ((g i).1), .int .i64 ((g i).2.1)]))]) := by kernel_rfl
theorem kst (g : Nat → T_Bar) (nb N k j c : Nat) (G : Nat → T_IntS) :
    pathOb Tryz.prog Tryz.f102 0 [rg 3, .dec true, rm [(2, oc [(0, ssOb c G)] (.ar 1 0 0 c))] 2, .dec true, rg 1] zf56 (KS g nb N k j) [] 1 [] (.p (.bool false)) =
    some [((decide ((↑j : Int) < (↑k : Int))) = true),(NT 0 1),Con Tryz.prog 153 0 [] [(zf78 N nb g), .p (.int .i64 (↑j : Int))] (zf81 c G) (.ar 1 0 0 c),((decide ((↑c : Int) > 0)) = true),(false = false)] := by kernel_rfl
theorem ksf (g : Nat → T_Bar) (nb N k j c : Nat) (G : Nat → T_IntS) :
    pieceOb Tryz.prog 0 [rg 3, .dec true, rm [(2, oc [(0, ssOb c G)] (.ar 1 0 0 c))] 2, .dec false, rg 3, .head] zf56 (KS g nb N k j) [0] 1 (KS g nb N k (j + 1)) =
    some (zf56, [((decide ((↑j : Int) < (↑k : Int))) = true),(NT 0 1),Con Tryz.prog 153 0 [] [(zf78 N nb g), .p (.int .i64 (↑j : Int))] (zf81 c G) (.ar 1 0 0 c),((decide ((↑c : Int) > 0)) = false),(R0 ((↑j : Int) + 1)),(R1 ((↑j : Int) + 1)),(AI ((↑N : Int))),(AN nb),(AP nb (fun i => [.int .i64 ((g i).1), .int .i64 ((g i).2.1)])),(AI ((↑k : Int))),(AN 0),((((↑j : Int) + 1) : Int) = (↑(j + 1) : Int)),(AN 2),(NL 1 1),(NL 1 1),(AI ((↑N : Int))),(AN nb),(AP nb (fun i => [.int .i64 ((g i).1), .int .i64 ((g i).2.1)]))]) := by kernel_rfl
theorem kse (g : Nat → T_Bar) (nb N k j : Nat) :
    pathOb Tryz.prog Tryz.f102 0 [rg 3, .dec false, rg 1] zf56 (KS g nb N k j) [] 1 [] (.p (.bool true)) =
    some [((decide ((↑j : Int) < (↑k : Int))) = false),(true = true)] := by kernel_rfl
theorem oiz (g : Nat → T_Bar) (nb N : Nat) :
    pieceOb Tryz.prog 0 [rg 2, rg 1, .head] [.code (bodyOf Tryz.f47)] (start Tryz.f47 [] 0 [grG g nb N]) [0] 1 (OI g nb N 3) =
    some (zf72, [(AI ((↑N : Int))),(AN nb),(AP nb (fun i => [.int .i64 ((g i).1), .int .i64 ((g i).2.1)])),(AN 0),((3 : Int) = (↑3 : Int)),((([AV.p (PV.int IntKind.i64 (↑N : Int)), brL g nb].length) : Nat) = 2),(NL 1 1),(NL 1 1),(AI ((↑N : Int))),(AN nb),(AP nb (fun i => [.int .i64 ((g i).1), .int .i64 ((g i).2.1)]))]) := by kernel_rfl
theorem oit (g : Nat → T_Bar) (nb N k : Nat) :
    pathOb Tryz.prog Tryz.f47 0 [rg 2, .dec true, rm [(2, oc [] (.p (.bool true)))] 0, .dec true, rg 2] zf72 (OI g nb N k) [] 1 [] (.p (.int .i64 k)) =
    some [((decide ((↑k : Int) > 0)) = true),(NT 0 1),Con Tryz.prog 113 0 [] [(zf78 N nb g), .p (.int .i64 (↑k : Int))] [] (.p (.bool true)),(true = true),(AI ((↑k : Int)))] := by kernel_rfl
theorem oif (g : Nat → T_Bar) (nb N k : Nat) :
    pieceOb Tryz.prog 0 [rg 2, .dec true, rm [(2, oc [] (.p (.bool false)))] 0, .dec false, rg 3, .head] zf72 (OI g nb N (k + 1)) [0] 1 (OI g nb N k) =
    some (zf72, [((decide ((↑(k + 1) : Int) > 0)) = true),(NT 0 1),Con Tryz.prog 113 0 [] [(zf78 N nb g), .p (.int .i64 (↑(k + 1) : Int))] [] (.p (.bool false)),(false = false),(R0 ((↑(k + 1) : Int) - 1)),(R1 ((↑(k + 1) : Int) - 1)),(AI ((↑N : Int))),(AN nb),(AP nb (fun i => [.int .i64 ((g i).1), .int .i64 ((g i).2.1)])),(AN 0),((((↑(k + 1) : Int) - 1) : Int) = (↑k : Int)),(AN 2),(NL 1 1),(NL 1 1),(AI ((↑N : Int))),(AN nb),(AP nb (fun i => [.int .i64 ((g i).1), .int .i64 ((g i).2.1)]))]) := by kernel_rfl
theorem oie (g : Nat → T_Bar) (nb N : Nat) :
    pathOb Tryz.prog Tryz.f47 0 [rg 2, .dec false, rg 1] zf72 (OI g nb N 0) [] 1 [] (.p (.int .i64 0)) =
    some [((decide ((↑0 : Int) > 0)) = false),(AI 0)] := by kernel_rfl
theorem osz (g : Nat → T_Bar) (nb N : Nat) :
    pieceOb Tryz.prog 0 [rg 2, rg 1, rg 1, .head] [.code (bodyOf Tryz.f33)] (start Tryz.f33 [] 0 [grG g nb N]) [0] 1 (OS g nb N 0 1) =
    some (zf65, [(AI ((↑N : Int))),(AN nb),(AP nb (fun i => [.int .i64 ((g i).1), .int .i64 ((g i).2.1)])),(AN 0),((0 : Int) = (↑0 : Int)),((1 : Int) = (↑1 : Int)),((([AV.p (PV.int IntKind.i64 (↑N : Int)), brL g nb].length) : Nat) = 2),(NL 1 1),(NL 1 1),(AI ((↑N : Int))),(AN nb),(AP nb (fun i => [.int .i64 ((g i).1), .int .i64 ((g i).2.1)]))]) := by kernel_rfl
theorem ost (g : Nat → T_Bar) (nb N n k : Nat) :
    pieceOb Tryz.prog 0 [rg 2, .dec true, rm [(2, oc [] (.p (.bool true)))] 0, .dec true, rg 2, rg 3, .head] zf65 (OS g nb N n k) [0] 1 (OS g nb N k (k + 1)) =
    some (zf65, [((decide ((↑k : Int) ≤ 3)) = true),(NT 0 1),Con Tryz.prog 102 0 [] [(zf78 N nb g), .p (.int .i64 (↑k : Int))] [] (.p (.bool true)),(true = true),(R0 ((↑k : Int) + 1)),(R1 ((↑k : Int) + 1)),(AI ((↑N : Int))),(AN nb),(AP nb (fun i => [.int .i64 ((g i).1), .int .i64 ((g i).2.1)])),(AN 0),(AI ((↑k : Int))),((((↑k : Int) + 1) : Int) = (↑(k + 1) : Int)),(AN 2),(NL 1 1),(NL 1 1),(AI ((↑N : Int))),(AN nb),(AP nb (fun i => [.int .i64 ((g i).1), .int .i64 ((g i).2.1)]))]) := by kernel_rfl
theorem osf (g : Nat → T_Bar) (nb N n k : Nat) :
    pieceOb Tryz.prog 0 [rg 2, .dec true, rm [(2, oc [] (.p (.bool false)))] 0, .dec false, rg 3, .head] zf65 (OS g nb N n k) [0] 1 (OS g nb N n (k + 1)) =
    some (zf65, [((decide ((↑k : Int) ≤ 3)) = true),(NT 0 1),Con Tryz.prog 102 0 [] [(zf78 N nb g), .p (.int .i64 (↑k : Int))] [] (.p (.bool false)),(false = false),(R0 ((↑k : Int) + 1)),(R1 ((↑k : Int) + 1)),(AI ((↑N : Int))),(AN nb),(AP nb (fun i => [.int .i64 ((g i).1), .int .i64 ((g i).2.1)])),(AN 0),(AI ((↑n : Int))),((((↑k : Int) + 1) : Int) = (↑(k + 1) : Int)),(AN 2),(NL 1 1),(NL 1 1),(AI ((↑N : Int))),(AN nb),(AP nb (fun i => [.int .i64 ((g i).1), .int .i64 ((g i).2.1)]))]) := by kernel_rfl
theorem ose (g : Nat → T_Bar) (nb N n k : Nat) :
    pathOb Tryz.prog Tryz.f33 0 [rg 2, .dec false, rg 2] zf65 (OS g nb N n k) [] 1 [] (.p (.int .i64 n)) =
    some [((decide ((↑k : Int) ≤ 3)) = false),(AI ((↑n : Int)))] := by kernel_rfl
theorem wpB_congr {N : Nat} (g : Nat → T_Bar) {p q : Nat → Int} (h : ∀ u, u < N → p u = q u) : ∀ k, (∀ i, i < k → (g i).1.toNat < N ∧ (g i).2.1.toNat < N) → wpB g p k = wpB g q k
  | 0, _ => rfl
  | k + 1, hk => by
    have h1 := hk k (by omega)
    simp only [wpB, wpB_congr g h k (fun i hi => hk i (by omega)), h _ h1.1, h _ h1.2]
theorem wpD_t {S : T_IntS} {v : Nat} (h : hasI S.2 v S.1 = true) : wpD S (v + 1) = ((wpD S v).1, fun u => if u < v then (wpD S v).2 u else -1) := by simp [wpD, h]
theorem wpD_f {S : T_IntS} {v : Nat} (h : hasI S.2 v S.1 = false) : wpD S (v + 1) = ((wpD S v).1 + 1, fun u => if u < v then (wpD S v).2 u else ((wpD S v).1 : Int)) := by simp [wpD, h]
theorem con_gWithout_i {N nb : Nat} {g : Nat → T_Bar} (hg : isGraphF ((N : Int), (nb, g), ()) = true) (S : T_IntS) (hS : S.1 ≤ 1048576) :
    Con Tryz.prog 201 0 [] [grG g nb N, inL S] [(0, brOb (wpG N nb g S).2.1.1 (wpG N nb g S).2.1.2)] (.agg [.p (.int .i64 (wpG N nb g S).1), .ar 2 0 0 (wpG N nb g S).2.1.1]) := by
  obtain ⟨h1, h2, h3⟩ := graph_in hg
  have he := ends_in h3
  have c1 := con_IsGraph_i ((N : Int), (nb, g), ()) (sm_graph (by show nb ≤ _; omega))
  rw [hg] at c1
  show Con Tryz.prog 201 0 [] [grG g nb N, inL S] [(0, brOb (wpB g (wpD S N).2 nb).1 (wpB g (wpD S N).2 nb).2)] (.agg [.p (.int .i64 ((wpD S N).1 : Int)), .ar 2 0 0 (wpB g (wpD S N).2 nb).1])
  generalize hR : wpB g (wpD S N).2 nb = R
  generalize hn : (wpD S N).1 = n
  have hnN : n ≤ N := by rw [← hn]; exact wpD_le S N
  refine con_start Tryz.func201 rfl (by kernel_rfl) rfl (fun c hc => ?_)
  have lj : ∀ p : Nat → Int, (∀ u, u < N → p u = (wpD S N).2 u) → ∀ d k, k + d = nb → Run Tryz.prog c 201 zf17 (W1 g nb N S n p k (wpB g p k).1 (wpB g p k).2) (Post c [(0, brOb R.1 R.2)] (.agg [.p (.int .i64 (n : Int)), .ar 2 0 0 R.1])) := by
    intro p hp d
    induction d with
    | zero =>
      intro k hk
      obtain rfl : k = nb := by omega
      have hd : decide ((k : Int) < (k : Int)) = false := decide_eq_false (by omega)
      rw [wpB_congr g hp k he, hR]
      refine path_ok mixed Tryz.func201 hc (wje g k N S n p k R.1 R.2) ?_
      simp only [All]
      repeat' (first | exact trivial | with_reducible apply And.intro)
      all_goals (first | exact aA _ _ | exact aE _ | omega | rfl | (intros; first | assumption | exact trivial | rfl | exact fT ‹_› | ((repeat' (first | assumption | apply anda | apply notf)); done)) | (exact hd) | (intro t ht; simp [All, aEt]))
    | succ d ih =>
      intro k hk
      have hd : decide ((k : Int) < (nb : Int)) = true := decide_eq_true (by omega)
      have hb := h3 k (by omega)
      have hrec := ih (k + 1) (by omega)
      have hle := wpB_le g p k
      cases hq : (decide (p (g k).1.toNat ≥ 0) && decide (p (g k).2.1.toNat ≥ 0)) with
      | true =>
        rw [show wpB g p (k + 1) = sn (wpB g p k) (p (g k).1.toNat, p (g k).2.1.toNat, ()) by simp only [wpB]; rw [if_pos hq]] at hrec
        have hq2 : (bif decide (p (g k).1.toNat ≥ 0) then decide (p (g k).2.1.toNat ≥ 0) else false) = true := by rw [← hq]; cases decide (p (g k).1.toNat ≥ 0) <;> rfl
        generalize wpB g p k = q at hrec hle ⊢
        refine piece_ok mixed hc (wjt g nb N S n p k q.1 q.2) ?_ hrec
        simp only [All]
        repeat' (first | exact trivial | with_reducible apply And.intro)
        all_goals (first | exact aG _ | exact aP _ _ | exact aA _ _ | omega | rfl | (intros; first | assumption | exact trivial | rfl | exact fT ‹_› | ((repeat' (first | assumption | apply anda | apply notf)); done)) | (exact hd) | (exact hq2) | (intro t ht; simp [All, aEt]; done) | (intro t ht; by_cases h' : t < q.1 <;> simp [h', snoc, cvtL, cvt, tg, tru, All]) | (simp; omega))
      | false =>
        rw [show wpB g p (k + 1) = wpB g p k by simp only [wpB]; rw [if_neg (by rw [hq]; exact Bool.false_ne_true)]] at hrec
        have hq2 : (bif decide (p (g k).1.toNat ≥ 0) then decide (p (g k).2.1.toNat ≥ 0) else false) = false := by rw [← hq]; cases decide (p (g k).1.toNat ≥ 0) <;> rfl
        refine piece_ok mixed hc (wjf g nb N S n p k _ _) ?_ hrec
        simp only [All]
        repeat' (first | exact trivial | with_reducible apply And.intro)
        all_goals (first | exact aG _ | exact aP _ _ | exact aA _ _ | omega | rfl | (intros; first | assumption | exact trivial | rfl | exact fT ‹_› | ((repeat' (first | assumption | apply anda | apply notf)); done)) | (exact hd) | (exact hq2) | (intro t ht; simp [All, aEt]))
  have lo : ∀ d v p, v + d = N → (∀ u, u < v → p u = (wpD S v).2 u) → Run Tryz.prog c 201 zf37 (W0 g nb N S v (wpD S v).1 p) (Post c [(0, brOb R.1 R.2)] (.agg [.p (.int .i64 (n : Int)), .ar 2 0 0 R.1])) := by
    intro d
    induction d with
    | zero =>
      intro v p hv hp
      obtain rfl : v = N := by omega
      have hd : decide ((v : Int) < (v : Int)) = false := decide_eq_false (by omega)
      rw [hn]
      refine piece_ok mixed hc (wix g nb v S v n p) ?_ (lj p hp nb 0 (by omega))
      simp only [All]
      repeat' (first | exact trivial | with_reducible apply And.intro)
      all_goals (first | exact aP _ _ | exact aA _ _ | omega | rfl | (intros; first | assumption | exact trivial | rfl | exact fT ‹_› | ((repeat' (first | assumption | apply anda | apply notf)); done)) | (exact hd) | (exact c1) | (intro t ht; exact absurd ht (Nat.not_lt_zero _)) | (intro t ht; simp [All, aEt]))
    | succ d ih =>
      intro v p hv hp
      have hd : decide ((v : Int) < (N : Int)) = true := decide_eq_true (by omega)
      have ch := con_Contains S (v : Int) hS
      have hle := wpD_le S v
      cases hq : hasI S.2 (v : Int) S.1 with
      | true =>
        rw [hq] at ch
        have hrec := ih (v + 1) (fun u => if u = v then -1 else p u) (by omega) (by
          intro u hu
          rw [wpD_t hq]
          by_cases h : u = v
          · simp [h]
          · simp [h, show u < v by omega, hp u (by omega)])
        rw [show (wpD S (v + 1)).1 = (wpD S v).1 by rw [wpD_t hq]] at hrec
        refine piece_ok mixed hc (wif g nb N S v _ p) ?_ hrec
        simp only [All]
        repeat' (first | exact trivial | with_reducible apply And.intro)
        all_goals (first | exact aP _ _ | omega | rfl | (intros; first | assumption | exact trivial | rfl | exact fT ‹_› | ((repeat' (first | assumption | apply anda | apply notf)); done)) | (exact hd) | (exact ch) | (intro t ht; simp [All, aEt]; done) | (intro t ht; by_cases h' : t = v <;> simp [h', cvtL, cvt, tg, tru, All]) | (simp; omega))
      | false =>
        rw [hq] at ch
        have hrec := ih (v + 1) (fun u => if u = v then ((wpD S v).1 : Int) else p u) (by omega) (by
          intro u hu
          rw [wpD_f hq]
          by_cases h : u = v
          · simp [h]
          · simp [h, show u < v by omega, hp u (by omega)])
        rw [show (wpD S (v + 1)).1 = (wpD S v).1 + 1 by rw [wpD_f hq]] at hrec
        refine piece_ok mixed hc (wit g nb N S v _ p) ?_ hrec
        simp only [All]
        repeat' (first | exact trivial | with_reducible apply And.intro)
        all_goals (first | exact aP _ _ | omega | rfl | (intros; first | assumption | exact trivial | rfl | exact fT ‹_› | ((repeat' (first | assumption | apply anda | apply notf)); done)) | (exact hd) | (exact ch) | (intro t ht; simp [All, aEt]; done) | (intro t ht; by_cases h' : t = v <;> simp [h', cvtL, cvt, tg, tru, All]) | (simp; omega))
  refine piece_ok mixed hc (wiz g nb N S) ?_ (lo N 0 (fun _ => 0) (by omega) (fun u hu => absurd hu (Nat.not_lt_zero _)))
  simp only [All]
  repeat' (first | exact trivial | with_reducible apply And.intro)
  all_goals (first | exact aP _ _ | exact aA _ _ | omega | rfl | (intros; first | assumption | exact trivial | rfl | exact fT ‹_› | ((repeat' (first | assumption | apply anda | apply notf)); done)) | (intro t ht; simp [All, aEt]; done) | (intro t ht; simp [cvtL, cvt, tg, tru, All]; done) | (simp; omega))
theorem con_gWithout_s {N nb : Nat} {g : Nat → T_Bar} (hg : isGraphF ((N : Int), (nb, g), ()) = true) (S : T_IntS) (hS : S.1 ≤ 1048576) :
    Con Tryz.prog 196 0 [] [grG g nb N, inL S] [(0, brOb (wpG N nb g S).2.1.1 (wpG N nb g S).2.1.2)] (.agg [.p (.int .i64 (wpG N nb g S).1), .ar 2 0 0 (wpG N nb g S).2.1.1]) := by
  obtain ⟨h1, h2, h3⟩ := graph_in hg
  have he := ends_in h3
  have c1 := con_IsGraph_s ((N : Int), (nb, g), ()) (sm_graph (by show nb ≤ _; omega))
  rw [hg] at c1
  show Con Tryz.prog 196 0 [] [grG g nb N, inL S] [(0, brOb (wpB g (wpD S N).2 nb).1 (wpB g (wpD S N).2 nb).2)] (.agg [.p (.int .i64 ((wpD S N).1 : Int)), .ar 2 0 0 (wpB g (wpD S N).2 nb).1])
  generalize hR : wpB g (wpD S N).2 nb = R
  generalize hn : (wpD S N).1 = n
  have hnN : n ≤ N := by rw [← hn]; exact wpD_le S N
  refine con_start Tryz.func196 rfl (by kernel_rfl) rfl (fun c hc => ?_)
  have lj : ∀ p : Nat → Int, (∀ u, u < N → p u = (wpD S N).2 u) → ∀ d k, k + d = nb → Run Tryz.prog c 196 zf18 (V1 g nb N S n p k (wpB g p k).1 (wpB g p k).2) (Post c [(0, brOb R.1 R.2)] (.agg [.p (.int .i64 (n : Int)), .ar 2 0 0 R.1])) := by
    intro p hp d
    induction d with
    | zero =>
      intro k hk
      obtain rfl : k = nb := by omega
      have hd : (bif decide ((k : Int) < (k : Int)) then true else false) = false := by rw [decide_eq_false (show ¬ ((k : Int) < (k : Int)) by omega)]; rfl
      rw [wpB_congr g hp k he, hR]
      refine path_ok mixed Tryz.func196 hc (vje g k N S n p k R.1 R.2) ?_
      simp only [All]
      repeat' (first | exact trivial | with_reducible apply And.intro)
      all_goals (first | exact aG _ | exact aA _ _ | exact aE _ | omega | rfl | (intros; first | assumption | exact trivial | rfl | exact fT ‹_› | ((repeat' (first | assumption | apply anda | apply notf)); done)) | (exact hd) | (intros; exact c1) | (intro t ht; simp [All, aEt]))
    | succ d ih =>
      intro k hk
      have hd : (bif decide ((k : Int) < (nb : Int)) then true else false) = true := by rw [decide_eq_true (show ((k : Int) < (nb : Int)) by omega)]; rfl
      have hb := h3 k (by omega)
      have hrec := ih (k + 1) (by omega)
      have hle := wpB_le g p k
      cases hq : (decide (p (g k).1.toNat ≥ 0) && decide (p (g k).2.1.toNat ≥ 0)) with
      | true =>
        rw [show wpB g p (k + 1) = sn (wpB g p k) (p (g k).1.toNat, p (g k).2.1.toNat, ()) by simp only [wpB]; rw [if_pos hq]] at hrec
        have hq2 : (bif decide (p (g k).1.toNat ≥ 0) then decide (p (g k).2.1.toNat ≥ 0) else false) = true := by rw [← hq]; cases decide (p (g k).1.toNat ≥ 0) <;> rfl
        generalize wpB g p k = q at hrec hle ⊢
        refine piece_ok mixed hc (vjt g nb N S n p k q.1 q.2) ?_ hrec
        simp only [All]
        repeat' (first | exact trivial | with_reducible apply And.intro)
        all_goals (first | exact aG _ | exact aP _ _ | exact aA _ _ | omega | rfl | (intros; first | assumption | exact trivial | rfl | exact fT ‹_› | ((repeat' (first | assumption | apply anda | apply notf)); done)) | (exact hd) | (exact hq2) | (intros; exact c1) | (intro t ht; simp [All, aEt]; done) | (intro t ht; by_cases h' : t < q.1 <;> simp [h', snoc, cvtL, cvt, tg, tru, All]) | (simp; omega))
      | false =>
        rw [show wpB g p (k + 1) = wpB g p k by simp only [wpB]; rw [if_neg (by rw [hq]; exact Bool.false_ne_true)]] at hrec
        have hq2 : (bif decide (p (g k).1.toNat ≥ 0) then decide (p (g k).2.1.toNat ≥ 0) else false) = false := by rw [← hq]; cases decide (p (g k).1.toNat ≥ 0) <;> rfl
        refine piece_ok mixed hc (vjf g nb N S n p k _ _) ?_ hrec
        simp only [All]
        repeat' (first | exact trivial | with_reducible apply And.intro)
        all_goals (first | exact aG _ | exact aP _ _ | exact aA _ _ | omega | rfl | (intros; first | assumption | exact trivial | rfl | exact fT ‹_› | ((repeat' (first | assumption | apply anda | apply notf)); done)) | (exact hd) | (exact hq2) | (intros; exact c1) | (intro t ht; simp [All, aEt]))
  have lo : ∀ d v p, v + d = N → (∀ u, u < v → p u = (wpD S v).2 u) → Run Tryz.prog c 196 zf38 (V0 g nb N S v (wpD S v).1 p) (Post c [(0, brOb R.1 R.2)] (.agg [.p (.int .i64 (n : Int)), .ar 2 0 0 R.1])) := by
    intro d
    induction d with
    | zero =>
      intro v p hv hp
      obtain rfl : v = N := by omega
      have hd : decide ((v : Int) < (v : Int)) = false := decide_eq_false (by omega)
      rw [hn]
      refine piece_ok mixed hc (vsx g nb v S v n p) ?_ (lj p hp nb 0 (by omega))
      simp only [All]
      repeat' (first | exact trivial | with_reducible apply And.intro)
      all_goals (first | exact aP _ _ | exact aA _ _ | omega | rfl | (intros; first | assumption | exact trivial | rfl | exact fT ‹_› | ((repeat' (first | assumption | apply anda | apply notf)); done)) | (exact hd) | (intro t ht; exact absurd ht (Nat.not_lt_zero _)) | (intro t ht; simp [All, aEt]))
    | succ d ih =>
      intro v p hv hp
      have hd : decide ((v : Int) < (N : Int)) = true := decide_eq_true (by omega)
      have ch := con_l2Has S (v : Int) hS
      have hle := wpD_le S v
      cases hq : hasI S.2 (v : Int) S.1 with
      | true =>
        rw [hq] at ch
        have hrec := ih (v + 1) (fun u => if u = v then -1 else p u) (by omega) (by
          intro u hu
          rw [wpD_t hq]
          by_cases h : u = v
          · simp [h]
          · simp [h, show u < v by omega, hp u (by omega)])
        rw [show (wpD S (v + 1)).1 = (wpD S v).1 by rw [wpD_t hq]] at hrec
        refine piece_ok mixed hc (vsf g nb N S v _ p) ?_ hrec
        simp only [All]
        repeat' (first | exact trivial | with_reducible apply And.intro)
        all_goals (first | exact aP _ _ | omega | rfl | (intros; first | assumption | exact trivial | rfl | exact fT ‹_› | ((repeat' (first | assumption | apply anda | apply notf)); done)) | (exact hd) | (exact ch) | (intro t ht; simp [All, aEt]; done) | (intro t ht; by_cases h' : t = v <;> simp [h', cvtL, cvt, tg, tru, All]) | (simp; omega))
      | false =>
        rw [hq] at ch
        have hrec := ih (v + 1) (fun u => if u = v then ((wpD S v).1 : Int) else p u) (by omega) (by
          intro u hu
          rw [wpD_f hq]
          by_cases h : u = v
          · simp [h]
          · simp [h, show u < v by omega, hp u (by omega)])
        rw [show (wpD S (v + 1)).1 = (wpD S v).1 + 1 by rw [wpD_f hq]] at hrec
        refine piece_ok mixed hc (vst g nb N S v _ p) ?_ hrec
        simp only [All]
        repeat' (first | exact trivial | with_reducible apply And.intro)
        all_goals (first | exact aP _ _ | omega | rfl | (intros; first | assumption | exact trivial | rfl | exact fT ‹_› | ((repeat' (first | assumption | apply anda | apply notf)); done)) | (exact hd) | (exact ch) | (intro t ht; simp [All, aEt]; done) | (intro t ht; by_cases h' : t = v <;> simp [h', cvtL, cvt, tg, tru, All]) | (simp; omega))
  refine piece_ok mixed hc (vsz g nb N S) ?_ (lo N 0 (fun _ => 0) (by omega) (fun u hu => absurd hu (Nat.not_lt_zero _)))
  simp only [All]
  repeat' (first | exact trivial | with_reducible apply And.intro)
  all_goals (first | exact aP _ _ | exact aA _ _ | omega | rfl | (intros; first | assumption | exact trivial | rfl | exact fT ‹_› | ((repeat' (first | assumption | apply anda | apply notf)); done)) | (intro t ht; simp [All, aEt]; done) | (intro t ht; simp [cvtL, cvt, tg, tru, All]; done) | (simp; omega))
end Go.Proofs.YtffnfeefjdmifaaGreat.Mach
namespace Go.Proofs.YtffnfeefjdmifaaGreat.Mach
open Go
set_option linter.unusedVariables false
set_option linter.unusedSimpArgs false
theorem wpG_sm (N nb : Nat) (g : Nat → T_Bar) (S : T_IntS) (h : nb ≤ 24) : smS s_Graph (wpG N nb g S) := by
  have := wpB_le g (wpD S N).2 nb
  exact sm_graph (by show (wpB g (wpD S N).2 nb).1 ≤ _; omega)
theorem csD_t {N nb : Nat} {g : Nat → T_Bar} {k w : Nat} (h : ctQ N nb g k w = true) : csD N nb g k (w + 1) = ((csD N nb g k w).1 + 1, snocC (csD N nb g k w).1 (csD N nb g k w).2 (stD w N)) := by simp [csD, h]
theorem csD_f {N nb : Nat} {g : Nat → T_Bar} {k w : Nat} (h : ctQ N nb g k w = false) : csD N nb g k (w + 1) = csD N nb g k w := by simp [csD, h]
theorem con_gCuts_i {N nb : Nat} {g : Nat → T_Bar} (hg : isGraphF ((N : Int), (nb, g), ()) = true) (k : Nat) (hk : k ≤ 3) :
    Con Tryz.prog 160 0 [] [grG g nb N, .p (.int .i64 k)] [(0, ssOb (csD N nb g k (2 ^ N)).1 (csD N nb g k (2 ^ N)).2)] (.ar 1 0 0 (csD N nb g k (2 ^ N)).1) := by
  obtain ⟨h1, h2, h3⟩ := graph_in hg
  have c1 := con_IsGraph_i ((N : Int), (nb, g), ()) (sm_graph (by show nb ≤ _; omega))
  rw [hg] at c1
  have c2 := con_within (k : Int) 0 3
  rw [show inB (k : Int) 0 3 = true by simp [inB]; omega] at c2
  have hsh := shl_nat N (by omega)
  have hP : 2 ^ N ≤ 256 := by
    calc 2 ^ N ≤ 2 ^ 8 := Nat.pow_le_pow_right (by omega) h1.2
      _ = 256 := rfl
  generalize hR : csD N nb g k (2 ^ N) = R
  refine con_start Tryz.func160 rfl (by kernel_rfl) rfl (fun c hc => ?_)
  have lo : ∀ d w, w + d = 2 ^ N → Run Tryz.prog c 160 zf39 (C0 g nb N k w (csD N nb g k w).1 (csD N nb g k w).2) (Post c [(0, ssOb R.1 R.2)] (.ar 1 0 0 R.1)) := by
    intro d
    induction d with
    | zero =>
      intro w hw
      obtain rfl : w = 2 ^ N := by omega
      rw [hR]
      have hd : decide (((2 ^ N : Nat) : Int) < shlI IntKind.i64 1 (N : Int)) = false := by rw [hsh]; exact decide_eq_false (by omega)
      refine path_ok mixed Tryz.func160 hc (cie g nb N k (2 ^ N) R.1 R.2) ?_
      simp only [All]
      repeat' (first | exact trivial | with_reducible apply And.intro)
      all_goals (first | exact aA _ _ | exact aE _ | omega | rfl | (intros; first | assumption | exact trivial | rfl | exact fT ‹_› | ((repeat' (first | assumption | apply anda | apply notf)); done)) | (exact hd) | (intro t ht; simp [All, aEt]))
    | succ d ih =>
      intro w hw
      have hd : decide ((w : Int) < shlI IntKind.i64 1 (N : Int)) = true := by rw [hsh]; exact decide_eq_true (by omega)
      have hrec := ih (w + 1) (by omega)
      have hle := csD_le N nb g k w
      have cs := con_setOf w N (by omega)
      have cw := con_gWithout_i hg (stD w N) (by have := stD_n w N; omega)
      have cn := con_gConn_i (wpG N nb g (stD w N)) (wpG_sm N nb g _ h2)
      by_cases hlen : (stD w N).1 = k
      · have hne : ((((stD w N).1 : Nat) : Int) != (k : Int)) = false := by rw [hlen]; simp
        have hq : ctQ N nb g k w = (bif decide ((((wpD (stD w N) N).1 : Nat) : Int) ≥ 2) then !cnB (wpG N nb g (stD w N)) else false) := by
          unfold ctQ
          rw [hlen, beq_self_eq_true]; rfl
        cases hb : ctQ N nb g k w with
        | true =>
          rw [csD_t hb] at hrec
          rw [hb] at hq
          have hq := hq.symm
          generalize csD N nb g k w = q at hrec hle ⊢
          refine piece_ok mixed hc (cit g nb N k w q.1 q.2 (stD w N) (wpD (stD w N) N).1 (wpG N nb g (stD w N)).2.1.1 (wpG N nb g (stD w N)).2.1.2 (cnB (wpG N nb g (stD w N)))) ?_ hrec
          simp only [All]
          repeat' (first | exact trivial | with_reducible apply And.intro)
          all_goals (first | exact aG _ | exact aP _ _ | omega | rfl | (intros; first | assumption | exact trivial | rfl | exact fT ‹_› | ((repeat' (first | assumption | apply anda | apply notf)); done)) | (exact hd) | (exact cs) | (exact hne) | (exact cw) | (intros; exact cn) | (exact cn) | (exact hq) | (intro j hj; simp [All, aEt]; done) | (intro j hj; by_cases h : j < q.1 <;> simp [h, snocC, cvtL, cvt, lendP, cellP, tab, idx, List.lookup, iOb, tg, tru, All]))
        | false =>
          rw [csD_f hb] at hrec
          rw [hb] at hq
          have hq := hq.symm
          generalize csD N nb g k w = q at hrec hle ⊢
          refine piece_ok mixed hc (cif g nb N k w q.1 q.2 (stD w N) (wpD (stD w N) N).1 (wpG N nb g (stD w N)).2.1.1 (wpG N nb g (stD w N)).2.1.2 (cnB (wpG N nb g (stD w N)))) ?_ hrec
          simp only [All]
          repeat' (first | exact trivial | with_reducible apply And.intro)
          all_goals (first | exact aG _ | exact aP _ _ | exact aA _ _ | omega | rfl | (intros; first | assumption | exact trivial | rfl | exact fT ‹_› | ((repeat' (first | assumption | apply anda | apply notf)); done)) | (exact hd) | (exact cs) | (exact hne) | (exact cw) | (intros; exact cn) | (exact cn) | (exact hq) | (intro j hj; simp [All, aEt]))
      · have hne : ((((stD w N).1 : Nat) : Int) != (k : Int)) = true := by simpa using (show ¬ (((stD w N).1 : Nat) : Int) = (k : Int) by omega)
        have hb : ctQ N nb g k w = false := by
          unfold ctQ
          rw [show ((((stD w N).1 : Nat) : Int) == (k : Int)) = false from beq_eq_false_iff_ne.2 (by omega)]; rfl
        rw [csD_f hb] at hrec
        refine piece_ok mixed hc (cin g nb N k w _ _ (stD w N)) ?_ hrec
        simp only [All]
        repeat' (first | exact trivial | with_reducible apply And.intro)
        all_goals (first | exact aP _ _ | exact aA _ _ | omega | rfl | (intros; first | assumption | exact trivial | rfl | exact fT ‹_› | ((repeat' (first | assumption | apply anda | apply notf)); done)) | (exact hd) | (exact cs) | (exact hne) | (intro j hj; simp [All, aEt]))
  refine piece_ok mixed hc (ciz g nb N k) ?_ (lo (2 ^ N) 0 (by omega))
  simp only [All]
  repeat' (first | exact trivial | with_reducible apply And.intro)
  all_goals (first | exact aG _ | exact aP _ _ | omega | rfl | (intros; first | assumption | exact trivial | rfl | exact fT ‹_› | ((repeat' (first | assumption | apply anda | apply notf)); done)) | (exact c1) | (intros; exact c2) | (exact c2) | (intro t ht; exact absurd ht (Nat.not_lt_zero _)) | (intro t ht; simp [All, aEt]))
theorem con_gCuts_s {N nb : Nat} {g : Nat → T_Bar} (hg : isGraphF ((N : Int), (nb, g), ()) = true) (k : Nat) (hk : k ≤ 3) :
    Con Tryz.prog 153 0 [] [grG g nb N, .p (.int .i64 k)] [(0, ssOb (csD N nb g k (2 ^ N)).1 (csD N nb g k (2 ^ N)).2)] (.ar 1 0 0 (csD N nb g k (2 ^ N)).1) := by
  obtain ⟨h1, h2, h3⟩ := graph_in hg
  have c1 := con_IsGraph_s ((N : Int), (nb, g), ()) (sm_graph (by show nb ≤ _; omega))
  rw [hg] at c1
  have c2 := con_l1In (k : Int) 0 3
  rw [show inB (k : Int) 0 3 = true by simp [inB]; omega] at c2
  have hsh := shl_nat N (by omega)
  have hP : 2 ^ N ≤ 256 := by
    calc 2 ^ N ≤ 2 ^ 8 := Nat.pow_le_pow_right (by omega) h1.2
      _ = 256 := rfl
  generalize hR : csD N nb g k (2 ^ N) = R
  refine con_start Tryz.func153 rfl (by kernel_rfl) rfl (fun c hc => ?_)
  have lo : ∀ d w, w + d = 2 ^ N → Run Tryz.prog c 153 zf40 (D0 g nb N k w (csD N nb g k w).1 (csD N nb g k w).2) (Post c [(0, ssOb R.1 R.2)] (.ar 1 0 0 R.1)) := by
    intro d
    induction d with
    | zero =>
      intro w hw
      obtain rfl : w = 2 ^ N := by omega
      rw [hR]
      have hd : decide (((2 ^ N : Nat) : Int) < shlI IntKind.i64 1 (N : Int)) = false := by rw [hsh]; exact decide_eq_false (by omega)
      refine path_ok mixed Tryz.func153 hc (cse g nb N k (2 ^ N) R.1 R.2) ?_
      simp only [All]
      repeat' (first | exact trivial | with_reducible apply And.intro)
      all_goals (first | exact aA _ _ | exact aE _ | omega | rfl | (intros; first | assumption | exact trivial | rfl | exact fT ‹_› | ((repeat' (first | assumption | apply anda | apply notf)); done)) | (exact hd) | (intro t ht; simp [All, aEt]))
    | succ d ih =>
      intro w hw
      have hd : decide ((w : Int) < shlI IntKind.i64 1 (N : Int)) = true := by rw [hsh]; exact decide_eq_true (by omega)
      have hrec := ih (w + 1) (by omega)
      have hle := csD_le N nb g k w
      have cs := con_l3Set w N (by omega)
      have cw := con_gWithout_s hg (stD w N) (by have := stD_n w N; omega)
      have cn := con_gConn_s (wpG N nb g (stD w N)) (wpG_sm N nb g _ h2)
      have hcnt := wp_cnt w N N (Nat.le_refl _)
      by_cases hlen : (stD w N).1 = k
      · have hne : ((((stD w N).1 : Nat) : Int) == (k : Int)) = true := by rw [hlen]; simp
        by_cases h2w : 2 ≤ (wpD (stD w N) N).1
        · have hge : decide ((N : Int) - (k : Int) ≥ 2) = true := decide_eq_true (by omega)
          have hq : ctQ N nb g k w = !cnB (wpG N nb g (stD w N)) := by
            unfold ctQ
            rw [hlen, beq_self_eq_true, decide_eq_true (show ((((wpD (stD w N) N).1 : Nat) : Int) ≥ 2) by omega)]; rfl
          cases hb : ctQ N nb g k w with
          | true =>
            rw [csD_t hb] at hrec
            rw [hb] at hq
            have hq := hq.symm
            generalize csD N nb g k w = q at hrec hle ⊢
            refine piece_ok mixed hc (cst g nb N k w q.1 q.2 (stD w N) (wpD (stD w N) N).1 (wpG N nb g (stD w N)).2.1.1 (wpG N nb g (stD w N)).2.1.2 (cnB (wpG N nb g (stD w N)))) ?_ hrec
            simp only [All]
            repeat' (first | exact trivial | with_reducible apply And.intro)
            all_goals (first | exact aP _ _ | omega | rfl | (intros; first | assumption | exact trivial | rfl | exact fT ‹_› | ((repeat' (first | assumption | apply anda | apply notf)); done)) | (exact hd) | (exact cs) | (exact hne) | (exact hge) | (exact cw) | (exact cn) | (exact hq) | (intro j hj; simp [All, aEt]; done) | (intro j hj; by_cases h : j < q.1 <;> simp [h, snocC, cvtL, cvt, lendP, cellP, tab, idx, List.lookup, iOb, tg, tru, All]))
          | false =>
            rw [csD_f hb] at hrec
            rw [hb] at hq
            have hq := hq.symm
            generalize csD N nb g k w = q at hrec hle ⊢
            refine piece_ok mixed hc (csf g nb N k w q.1 q.2 (stD w N) (wpD (stD w N) N).1 (wpG N nb g (stD w N)).2.1.1 (wpG N nb g (stD w N)).2.1.2 (cnB (wpG N nb g (stD w N)))) ?_ hrec
            simp only [All]
            repeat' (first | exact trivial | with_reducible apply And.intro)
            all_goals (first | exact aP _ _ | exact aA _ _ | omega | rfl | (intros; first | assumption | exact trivial | rfl | exact fT ‹_› | ((repeat' (first | assumption | apply anda | apply notf)); done)) | (exact hd) | (exact cs) | (exact hne) | (exact hge) | (exact cw) | (exact cn) | (exact hq) | (intro j hj; simp [All, aEt]))
        · have hge : decide ((N : Int) - (k : Int) ≥ 2) = false := decide_eq_false (by omega)
          have hb : ctQ N nb g k w = false := by
            unfold ctQ
            rw [hlen, beq_self_eq_true, decide_eq_false (show ¬ ((((wpD (stD w N) N).1 : Nat) : Int) ≥ 2) by omega)]; rfl
          rw [csD_f hb] at hrec
          refine piece_ok mixed hc (csm g nb N k w _ _ (stD w N)) ?_ hrec
          simp only [All]
          repeat' (first | exact trivial | with_reducible apply And.intro)
          all_goals (first | exact aP _ _ | exact aA _ _ | omega | rfl | (intros; first | assumption | exact trivial | rfl | exact fT ‹_› | ((repeat' (first | assumption | apply anda | apply notf)); done)) | (exact hd) | (exact cs) | (exact hne) | (exact hge) | (intro j hj; simp [All, aEt]))
      · have hne : ((((stD w N).1 : Nat) : Int) == (k : Int)) = false := beq_eq_false_iff_ne.2 (by omega)
        have hb : ctQ N nb g k w = false := by
          unfold ctQ
          rw [hne]; rfl
        rw [csD_f hb] at hrec
        refine piece_ok mixed hc (csn g nb N k w _ _ (stD w N)) ?_ hrec
        simp only [All]
        repeat' (first | exact trivial | with_reducible apply And.intro)
        all_goals (first | exact aP _ _ | exact aA _ _ | omega | rfl | (intros; first | assumption | exact trivial | rfl | exact fT ‹_› | ((repeat' (first | assumption | apply anda | apply notf)); done)) | (exact hd) | (exact cs) | (exact hne) | (intro j hj; simp [All, aEt]))
  refine piece_ok mixed hc (csz g nb N k) ?_ (lo (2 ^ N) 0 (by omega))
  simp only [All]
  repeat' (first | exact trivial | with_reducible apply And.intro)
  all_goals (first | exact aG _ | exact aP _ _ | omega | rfl | (intros; first | assumption | exact trivial | rfl | exact fT ‹_› | ((repeat' (first | assumption | apply anda | apply notf)); done)) | (exact c1) | (intros; exact c2) | (exact c2) | (intro t ht; exact absurd ht (Nat.not_lt_zero _)) | (intro t ht; simp [All, aEt]))
theorem kcA_f {N nb : Nat} {g : Nat → T_Bar} {j : Nat} (h : (decide ((((csD N nb g j (2 ^ N)).1 : Nat) : Int) > 0)) = true) : ∀ d, kcA N nb g (j + 1 + d) = false
  | 0 => by simp only [kcA, h]; simp
  | d + 1 => by show (kcA N nb g (j + 1 + d) && _) = false; rw [kcA_f h d]; rfl
theorem con_gKC_i {N nb : Nat} {g : Nat → T_Bar} (hg : isGraphF ((N : Int), (nb, g), ()) = true) (k : Nat) (hk : 1 ≤ k ∧ k ≤ 3) :
    Con Tryz.prog 113 0 [] [grG g nb N, .p (.int .i64 k)] [] (.p (.bool (kcB N nb g k))) := by
  obtain ⟨h1, h2, h3⟩ := graph_in hg
  have c1 := con_IsGraph_i ((N : Int), (nb, g), ()) (sm_graph (by show nb ≤ _; omega))
  rw [hg] at c1
  have c2 := con_within (k : Int) 1 3
  rw [show inB (k : Int) 1 3 = true by simp [inB]; omega] at c2
  refine con_start Tryz.func113 rfl (by kernel_rfl) rfl (fun c hc => ?_)
  by_cases hNk : N ≤ k
  · have hd : decide ((N : Int) ≤ (k : Int)) = true := decide_eq_true (by omega)
    rw [show kcB N nb g k = false by unfold kcB; rw [hd]; rfl]
    refine path_ok mixed Tryz.func113 hc (kin g nb N k) ?_
    simp only [All]
    repeat' (first | exact trivial | with_reducible apply And.intro)
    all_goals (first | exact aG _ | omega | rfl | (intros; first | assumption | exact trivial | rfl | exact fT ‹_› | ((repeat' (first | assumption | apply anda | apply notf)); done)) | (exact c1) | (intros; exact c2) | (exact c2) | (simp [hd]; done))
  · have hd : decide ((N : Int) ≤ (k : Int)) = false := decide_eq_false (by omega)
    rw [show kcB N nb g k = kcA N nb g k by unfold kcB; rw [hd]; rfl]
    have lo : ∀ d j, j + d = k → kcA N nb g j = true → Run Tryz.prog c 113 zf55 (KI g nb N k j) (Post c [] (.p (.bool (kcA N nb g k)))) := by
      intro d
      induction d with
      | zero =>
        intro j hj ha
        obtain rfl : j = k := by omega
        rw [ha]
        have hd : decide ((j : Int) < (j : Int)) = false := decide_eq_false (by omega)
        refine path_ok mixed Tryz.func113 hc (kie g nb N j j) ?_
        simp only [All]
        repeat' (first | exact trivial | with_reducible apply And.intro)
        all_goals (first | omega | rfl | (intros; first | assumption | exact trivial | rfl | exact fT ‹_› | ((repeat' (first | assumption | apply anda | apply notf)); done)) | (exact hd) | (simp; done))
      | succ d ih =>
        intro j hj ha
        have hd : decide ((j : Int) < (k : Int)) = true := decide_eq_true (by omega)
        have cc := con_gCuts_i hg j (by omega)
        cases hq : decide ((((csD N nb g j (2 ^ N)).1 : Nat) : Int) > 0) with
        | true =>
          rw [show kcA N nb g k = false by rw [show k = j + 1 + (k - j - 1) by omega]; exact kcA_f hq _]
          generalize csD N nb g j (2 ^ N) = R at *
          refine path_ok mixed Tryz.func113 hc (kit g nb N k j R.1 R.2) ?_
          simp only [All]
          repeat' (first | exact trivial | with_reducible apply And.intro)
          all_goals (first | omega | rfl | (intros; first | assumption | exact trivial | rfl | exact fT ‹_› | ((repeat' (first | assumption | apply anda | apply notf)); done)) | (exact hd) | (exact cc) | (exact hq) | (simp; done))
        | false =>
          have hrec := ih (j + 1) (by omega) (by simp only [kcA, ha, hq]; rfl)
          generalize csD N nb g j (2 ^ N) = R at *
          refine piece_ok mixed hc (kif g nb N k j R.1 R.2) ?_ hrec
          simp only [All]
          repeat' (first | exact trivial | with_reducible apply And.intro)
          all_goals (first | exact aP _ _ | omega | rfl | (intros; first | assumption | exact trivial | rfl | exact fT ‹_› | ((repeat' (first | assumption | apply anda | apply notf)); done)) | (exact hd) | (exact cc) | (exact hq) | (simp; done))
    refine piece_ok mixed hc (kiz g nb N k) ?_ (lo k 0 (by omega) rfl)
    simp only [All]
    repeat' (first | exact trivial | with_reducible apply And.intro)
    all_goals (first | exact aG _ | exact aP _ _ | omega | rfl | (intros; first | assumption | exact trivial | rfl | exact fT ‹_› | ((repeat' (first | assumption | apply anda | apply notf)); done)) | (exact c1) | (intros; exact c2) | (exact c2) | (simp [hd]; done))
theorem con_gKC_s {N nb : Nat} {g : Nat → T_Bar} (hg : isGraphF ((N : Int), (nb, g), ()) = true) (k : Nat) (hk : 1 ≤ k ∧ k ≤ 3) :
    Con Tryz.prog 102 0 [] [grG g nb N, .p (.int .i64 k)] [] (.p (.bool (kcB N nb g k))) := by
  obtain ⟨h1, h2, h3⟩ := graph_in hg
  have c1 := con_IsGraph_s ((N : Int), (nb, g), ()) (sm_graph (by show nb ≤ _; omega))
  rw [hg] at c1
  have c2 := con_l1In (k : Int) 1 3
  rw [show inB (k : Int) 1 3 = true by simp [inB]; omega] at c2
  refine con_start Tryz.func102 rfl (by kernel_rfl) rfl (fun c hc => ?_)
  by_cases hNk : N ≤ k
  · have hd : decide ((N : Int) ≤ (k : Int)) = true := decide_eq_true (by omega)
    rw [show kcB N nb g k = false by unfold kcB; rw [hd]; rfl]
    refine path_ok mixed Tryz.func102 hc (ksn g nb N k) ?_
    simp only [All]
    repeat' (first | exact trivial | with_reducible apply And.intro)
    all_goals (first | exact aG _ | omega | rfl | (intros; first | assumption | exact trivial | rfl | exact fT ‹_› | ((repeat' (first | assumption | apply anda | apply notf)); done)) | (exact c1) | (intros; exact c2) | (exact c2) | (simp [hd]; done))
  · have hd : decide ((N : Int) ≤ (k : Int)) = false := decide_eq_false (by omega)
    rw [show kcB N nb g k = kcA N nb g k by unfold kcB; rw [hd]; rfl]
    have lo : ∀ d j, j + d = k → kcA N nb g j = true → Run Tryz.prog c 102 zf56 (KS g nb N k j) (Post c [] (.p (.bool (kcA N nb g k)))) := by
      intro d
      induction d with
      | zero =>
        intro j hj ha
        obtain rfl : j = k := by omega
        rw [ha]
        have hd : decide ((j : Int) < (j : Int)) = false := decide_eq_false (by omega)
        refine path_ok mixed Tryz.func102 hc (kse g nb N j j) ?_
        simp only [All]
        repeat' (first | exact trivial | with_reducible apply And.intro)
        all_goals (first | omega | rfl | (intros; first | assumption | exact trivial | rfl | exact fT ‹_› | ((repeat' (first | assumption | apply anda | apply notf)); done)) | (exact hd) | (simp; done))
      | succ d ih =>
        intro j hj ha
        have hd : decide ((j : Int) < (k : Int)) = true := decide_eq_true (by omega)
        have cc := con_gCuts_s hg j (by omega)
        cases hq : decide ((((csD N nb g j (2 ^ N)).1 : Nat) : Int) > 0) with
        | true =>
          rw [show kcA N nb g k = false by rw [show k = j + 1 + (k - j - 1) by omega]; exact kcA_f hq _]
          generalize csD N nb g j (2 ^ N) = R at *
          refine path_ok mixed Tryz.func102 hc (kst g nb N k j R.1 R.2) ?_
          simp only [All]
          repeat' (first | exact trivial | with_reducible apply And.intro)
          all_goals (first | omega | rfl | (intros; first | assumption | exact trivial | rfl | exact fT ‹_› | ((repeat' (first | assumption | apply anda | apply notf)); done)) | (exact hd) | (exact cc) | (exact hq) | (simp; done))
        | false =>
          have hrec := ih (j + 1) (by omega) (by simp only [kcA, ha, hq]; rfl)
          generalize csD N nb g j (2 ^ N) = R at *
          refine piece_ok mixed hc (ksf g nb N k j R.1 R.2) ?_ hrec
          simp only [All]
          repeat' (first | exact trivial | with_reducible apply And.intro)
          all_goals (first | exact aP _ _ | omega | rfl | (intros; first | assumption | exact trivial | rfl | exact fT ‹_› | ((repeat' (first | assumption | apply anda | apply notf)); done)) | (exact hd) | (exact cc) | (exact hq) | (simp; done))
    refine piece_ok mixed hc (ksz g nb N k) ?_ (lo k 0 (by omega) rfl)
    simp only [All]
    repeat' (first | exact trivial | with_reducible apply And.intro)
    all_goals (first | exact aG _ | exact aP _ _ | omega | rfl | (intros; first | assumption | exact trivial | rfl | exact fT ‹_› | ((repeat' (first | assumption | apply anda | apply notf)); done)) | (exact c1) | (intros; exact c2) | (exact c2) | (simp [hd]; done))
theorem con_gCo_i {N nb : Nat} {g : Nat → T_Bar} (hg : isGraphF ((N : Int), (nb, g), ()) = true) : Con Tryz.prog 47 0 [] [grG g nb N] [] (.p (.int .i64 (coN N nb g : Nat))) := by
  have c3 := con_gKC_i hg 3 (by omega)
  have c2 := con_gKC_i hg 2 (by omega)
  have c1 := con_gKC_i hg 1 (by omega)
  refine con_start Tryz.func47 rfl (by kernel_rfl) rfl (fun c hc => ?_)
  refine piece_ok mixed hc (oiz g nb N) ?_ ?_
  · skip
    simp only [All]
    repeat' (first | exact trivial | with_reducible apply And.intro)
    all_goals (first | exact aP _ _ | omega | rfl | (intros; first | assumption | exact trivial | rfl | exact fT ‹_› | ((repeat' (first | assumption | apply anda | apply notf)); done)) | (simp; done))
  cases h3 : kcB N nb g 3 with
  | true =>
    rw [h3] at c3
    rw [show coN N nb g = 3 by unfold coN; rw [h3]; rfl]
    refine path_ok mixed Tryz.func47 hc (oit g nb N 3) ?_
    simp only [All]
    repeat' (first | exact trivial | with_reducible apply And.intro)
    all_goals (first | omega | rfl | (intros; first | assumption | exact trivial | rfl | exact fT ‹_› | ((repeat' (first | assumption | apply anda | apply notf)); done)) | (exact c3) | (simp; done))
  | false =>
    rw [h3] at c3
    refine piece_ok mixed hc (oif g nb N 2) ?_ ?_
    · skip
      simp only [All]
      repeat' (first | exact trivial | with_reducible apply And.intro)
      all_goals (first | exact aP _ _ | omega | rfl | (intros; first | assumption | exact trivial | rfl | exact fT ‹_› | ((repeat' (first | assumption | apply anda | apply notf)); done)) | (exact c3) | (simp; done))
    cases h2 : kcB N nb g 2 with
    | true =>
      rw [h2] at c2
      rw [show coN N nb g = 2 by unfold coN; rw [h3, h2]; rfl]
      refine path_ok mixed Tryz.func47 hc (oit g nb N 2) ?_
      simp only [All]
      repeat' (first | exact trivial | with_reducible apply And.intro)
      all_goals (first | omega | rfl | (intros; first | assumption | exact trivial | rfl | exact fT ‹_› | ((repeat' (first | assumption | apply anda | apply notf)); done)) | (exact c2) | (simp; done))
    | false =>
      rw [h2] at c2
      refine piece_ok mixed hc (oif g nb N 1) ?_ ?_
      · skip
        simp only [All]
        repeat' (first | exact trivial | with_reducible apply And.intro)
        all_goals (first | exact aP _ _ | omega | rfl | (intros; first | assumption | exact trivial | rfl | exact fT ‹_› | ((repeat' (first | assumption | apply anda | apply notf)); done)) | (exact c2) | (simp; done))
      cases h1 : kcB N nb g 1 with
      | true =>
        rw [h1] at c1
        rw [show coN N nb g = 1 by unfold coN; rw [h3, h2, h1]; rfl]
        refine path_ok mixed Tryz.func47 hc (oit g nb N 1) ?_
        simp only [All]
        repeat' (first | exact trivial | with_reducible apply And.intro)
        all_goals (first | omega | rfl | (intros; first | assumption | exact trivial | rfl | exact fT ‹_› | ((repeat' (first | assumption | apply anda | apply notf)); done)) | (exact c1) | (simp; done))
      | false =>
        rw [h1] at c1
        rw [show coN N nb g = 0 by unfold coN; rw [h3, h2, h1]; rfl]
        refine piece_ok mixed hc (oif g nb N 0) ?_ ?_
        · skip
          simp only [All]
          repeat' (first | exact trivial | with_reducible apply And.intro)
          all_goals (first | exact aP _ _ | omega | rfl | (intros; first | assumption | exact trivial | rfl | exact fT ‹_› | ((repeat' (first | assumption | apply anda | apply notf)); done)) | (exact c1) | (simp; done))
        refine path_ok mixed Tryz.func47 hc (oie g nb N) ?_
        simp only [All]
        repeat' (first | exact trivial | with_reducible apply And.intro)
        all_goals (first | omega | rfl | (intros; first | assumption | exact trivial | rfl | exact fT ‹_› | ((repeat' (first | assumption | apply anda | apply notf)); done)) | (simp; done))
theorem con_gCo_s {N nb : Nat} {g : Nat → T_Bar} (hg : isGraphF ((N : Int), (nb, g), ()) = true) : Con Tryz.prog 33 0 [] [grG g nb N] [] (.p (.int .i64 (coN N nb g : Nat))) := by
  have c3 := con_gKC_s hg 3 (by omega)
  have c2 := con_gKC_s hg 2 (by omega)
  have c1 := con_gKC_s hg 1 (by omega)
  refine con_start Tryz.func33 rfl (by kernel_rfl) rfl (fun c hc => ?_)
  refine piece_ok mixed hc (osz g nb N) ?_ ?_
  · skip
    simp only [All]
    repeat' (first | exact trivial | with_reducible apply And.intro)
    all_goals (first | exact aP _ _ | omega | rfl | (intros; first | assumption | exact trivial | rfl | exact fT ‹_› | ((repeat' (first | assumption | apply anda | apply notf)); done)) | (simp; done))
  have st : ∀ (n k : Nat), k ≤ 3 → Con Tryz.prog 102 0 [] [grG g nb N, .p (.int .i64 k)] [] (.p (.bool (kcB N nb g k))) → ∀ R, Run Tryz.prog c 33 zf65 (OS g nb N (if kcB N nb g k = true then k else n) (k + 1)) R →
      Run Tryz.prog c 33 zf65 (OS g nb N n k) R := by
    intro n k hk cc R hR
    have hd : decide ((k : Int) ≤ 3) = true := decide_eq_true (by omega)
    cases hb : kcB N nb g k with
    | true =>
      rw [hb] at cc hR
      refine piece_ok mixed hc (ost g nb N n k) ?_ hR
      simp only [All]
      repeat' (first | exact trivial | with_reducible apply And.intro)
      all_goals (first | exact aP _ _ | omega | rfl | (intros; first | assumption | exact trivial | rfl | exact fT ‹_› | ((repeat' (first | assumption | apply anda | apply notf)); done)) | (exact hd) | (exact cc) | (simp; done))
    | false =>
      rw [hb] at cc hR
      refine piece_ok mixed hc (osf g nb N n k) ?_ hR
      simp only [All]
      repeat' (first | exact trivial | with_reducible apply And.intro)
      all_goals (first | exact aP _ _ | omega | rfl | (intros; first | assumption | exact trivial | rfl | exact fT ‹_› | ((repeat' (first | assumption | apply anda | apply notf)); done)) | (exact hd) | (exact cc) | (simp; done))
  refine st 0 1 (by omega) c1 _ (st _ 2 (by omega) c2 _ (st _ 3 (by omega) c3 _ ?_))
  rw [show (if kcB N nb g 3 = true then 3 else if kcB N nb g 2 = true then 2 else if kcB N nb g 1 = true then 1 else 0) = coN N nb g from rfl]
  refine path_ok mixed Tryz.func33 hc (ose g nb N _ 4) ?_
  simp only [All]
  repeat' (first | exact trivial | with_reducible apply And.intro)
  all_goals (first | omega | rfl | (intros; first | assumption | exact trivial | rfl | exact fT ‹_› | ((repeat' (first | assumption | apply anda | apply notf)); done)) | (simp; done))
end Go.Proofs.YtffnfeefjdmifaaGreat.Mach
namespace Go.Proofs.YtffnfeefjdmifaaGreat.Mach
open Go
set_option linter.unusedVariables false
set_option linter.unusedSimpArgs false
def kwE : ByteArray := ⟨#[]⟩
def kwGraph : ByteArray := ⟨#[103, 114, 97, 112, 104]⟩
def kwRigid : ByteArray := ⟨#[114, 105, 103, 105, 100]⟩
def kwConn : ByteArray := ⟨#[99, 111, 110, 110, 101, 99, 116, 101, 100]⟩
def kwRed : ByteArray := ⟨#[114, 101, 100, 117, 110, 100, 97, 110, 116]⟩
def HD (g : Nat → T_Bar) (nb N k : Nat) : St := ⟨[grG g nb N, .pt 2 0 0 0, .p .any, .p (.int .i64 k)] ++ List.replicate 19 anyA, [(0, bxG g nb N)], 1⟩
def HS (g : Nat → T_Bar) (nb N k : Nat) : St := ⟨[grG g nb N, .pt 2 0 0 0, .p .any, .p (.int .i64 k)] ++ List.replicate 21 anyA, [(0, bxG g nb N)], 1⟩
theorem hdz (g : Nat → T_Bar) (nb N : Nat) :
    pieceOb Tryz.prog 0 [rg 2, rg 1, .head] [.code (bodyOf Tryz.f158)] (start Tryz.f158 [] 0 [grG g nb N]) [0] 1 (HD g nb N 1) =
    some (zf70, [(AI ((↑N : Int))),(AN nb),(AP nb (fun i => [.int .i64 ((g i).1), .int .i64 ((g i).2.1)])),(AN 0),((1 : Int) = (↑1 : Int)),((([AV.p (PV.int IntKind.i64 (↑N : Int)), brL g nb].length) : Nat) = 2),(NL 1 1),(NL 1 1),(AI ((↑N : Int))),(AN nb),(AP nb (fun i => [.int .i64 ((g i).1), .int .i64 ((g i).2.1)]))]) := by kernel_rfl
theorem hdt (g : Nat → T_Bar) (nb N k : Nat) :
    pathOb Tryz.prog Tryz.f158 0 [rg 5, .dec true, rg 12, .dec true, rg 1] zf70 (HD g nb N (k + 1)) [] 1 [] (.p (.bool true)) =
    some [(NT 0 1),((decide ((↑(k + 1) : Int) < (↑nb : Int))) = true),(NT 0 1),(R0 ((↑(k + 1) : Int) - 1)),(R1 ((↑(k + 1) : Int) - 1)),(IL 0 ((↑(k + 1) : Int) - 1)),(IT ((↑(k + 1) : Int) - 1) (↑nb : Int)),(NT 0 1),(IL 0 (↑(k + 1) : Int)),(IT (↑(k + 1) : Int) (↑nb : Int)),(((g ((↑(k + 1) : Int) - 1).toNat).1 == (g (k + 1)).1 && ((g ((↑(k + 1) : Int) - 1).toNat).2.1 == (g (k + 1)).2.1 && true)) = true),(true = true)] := by kernel_rfl
theorem hdf (g : Nat → T_Bar) (nb N k : Nat) :
    pieceOb Tryz.prog 0 [rg 5, .dec true, rg 12, .dec false, rg 3, .head] zf70 (HD g nb N (k + 1)) [0] 1 (HD g nb N (k + 1 + 1)) =
    some (zf70, [(NT 0 1),((decide ((↑(k + 1) : Int) < (↑nb : Int))) = true),(NT 0 1),(R0 ((↑(k + 1) : Int) - 1)),(R1 ((↑(k + 1) : Int) - 1)),(IL 0 ((↑(k + 1) : Int) - 1)),(IT ((↑(k + 1) : Int) - 1) (↑nb : Int)),(NT 0 1),(IL 0 (↑(k + 1) : Int)),(IT (↑(k + 1) : Int) (↑nb : Int)),(((g ((↑(k + 1) : Int) - 1).toNat).1 == (g (k + 1)).1 && ((g ((↑(k + 1) : Int) - 1).toNat).2.1 == (g (k + 1)).2.1 && true)) = false),(R0 ((↑(k + 1) : Int) + 1)),(R1 ((↑(k + 1) : Int) + 1)),(AI ((↑N : Int))),(AN nb),(AP nb (fun i => [.int .i64 ((g i).1), .int .i64 ((g i).2.1)])),(AN 0),((((↑(k + 1) : Int) + 1) : Int) = (↑(k + 1 + 1) : Int)),(AN 2),(NL 1 1),(NL 1 1),(AI ((↑N : Int))),(AN nb),(AP nb (fun i => [.int .i64 ((g i).1), .int .i64 ((g i).2.1)]))]) := by kernel_rfl
theorem hde (g : Nat → T_Bar) (nb N k : Nat) :
    pathOb Tryz.prog Tryz.f158 0 [rg 5, .dec false, rg 1] zf70 (HD g nb N k) [] 1 [] (.p (.bool false)) =
    some [(NT 0 1),((decide ((↑k : Int) < (↑nb : Int))) = false),(false = false)] := by kernel_rfl
theorem hsz (g : Nat → T_Bar) (nb N : Nat) :
    pieceOb Tryz.prog 0 [rg 2, rg 1, .head] [.code (bodyOf Tryz.f152)] (start Tryz.f152 [] 0 [grG g nb N]) [0] 1 (HS g nb N 1) =
    some (zf71, [(AI ((↑N : Int))),(AN nb),(AP nb (fun i => [.int .i64 ((g i).1), .int .i64 ((g i).2.1)])),(AN 0),((1 : Int) = (↑1 : Int)),((([AV.p (PV.int IntKind.i64 (↑N : Int)), brL g nb].length) : Nat) = 2),(NL 1 1),(NL 1 1),(AI ((↑N : Int))),(AN nb),(AP nb (fun i => [.int .i64 ((g i).1), .int .i64 ((g i).2.1)]))]) := by kernel_rfl
theorem hst (g : Nat → T_Bar) (nb N k : Nat) :
    pathOb Tryz.prog Tryz.f152 0 [rg 5, .dec true, rg 12, .dec true, rg 1] zf71 (HS g nb N (k + 1)) [] 1 [] (.p (.bool false)) =
    some [(NT 0 1),((decide ((↑(k + 1) : Int) < (↑nb : Int))) = true),(NT 0 1),(R0 ((↑(k + 1) : Int) - 1)),(R1 ((↑(k + 1) : Int) - 1)),(IL 0 ((↑(k + 1) : Int) - 1)),(IT ((↑(k + 1) : Int) - 1) (↑nb : Int)),(NT 0 1),(IL 0 (↑(k + 1) : Int)),(IT (↑(k + 1) : Int) (↑nb : Int)),(((g ((↑(k + 1) : Int) - 1).toNat).1 == (g (k + 1)).1 && ((g ((↑(k + 1) : Int) - 1).toNat).2.1 == (g (k + 1)).2.1 && true)) = true),(false = false)] := by kernel_rfl
theorem hsf (g : Nat → T_Bar) (nb N k : Nat) :
    pieceOb Tryz.prog 0 [rg 5, .dec true, rg 12, .dec false, rg 3, .head] zf71 (HS g nb N (k + 1)) [0] 1 (HS g nb N (k + 1 + 1)) =
    some (zf71, [(NT 0 1),((decide ((↑(k + 1) : Int) < (↑nb : Int))) = true),(NT 0 1),(R0 ((↑(k + 1) : Int) - 1)),(R1 ((↑(k + 1) : Int) - 1)),(IL 0 ((↑(k + 1) : Int) - 1)),(IT ((↑(k + 1) : Int) - 1) (↑nb : Int)),(NT 0 1),(IL 0 (↑(k + 1) : Int)),(IT (↑(k + 1) : Int) (↑nb : Int)),(((g ((↑(k + 1) : Int) - 1).toNat).1 == (g (k + 1)).1 && ((g ((↑(k + 1) : Int) - 1).toNat).2.1 == (g (k + 1)).2.1 && true)) = false),(R0 ((↑(k + 1) : Int) + 1)),(R1 ((↑(k + 1) : Int) + 1)),(AI ((↑N : Int))),(AN nb),(AP nb (fun i => [.int .i64 ((g i).1), .int .i64 ((g i).2.1)])),(AN 0),((((↑(k + 1) : Int) + 1) : Int) = (↑(k + 1 + 1) : Int)),(AN 2),(NL 1 1),(NL 1 1),(AI ((↑N : Int))),(AN nb),(AP nb (fun i => [.int .i64 ((g i).1), .int .i64 ((g i).2.1)]))]) := by kernel_rfl
theorem hse (g : Nat → T_Bar) (nb N k : Nat) :
    pathOb Tryz.prog Tryz.f152 0 [rg 5, .dec false, rm [(1, oc [] (.p (.bool true)))] 1] zf71 (HS g nb N k) [] 1 [] (.p (.bool true)) =
    some [(NT 0 1),((decide ((↑k : Int) < (↑nb : Int))) = false),(NT 0 1),Con Tryz.prog 22 0 [] [(zf78 N nb g)] [] (.p (.bool true)),(true = true)] := by kernel_rfl
theorem gw1 (g : Nat → T_Bar) (nb N : Nat) :
    pathOb Tryz.prog Tryz.f112 0 [rg 2, rm [(1, oc [] (.p (.bool true))), (3, oc [] (.p (.bool true)))] 2, .dec true, rg 1] [.code (bodyOf Tryz.f112)] (start Tryz.f112 [] 0 [grG g nb N]) [] 1 [] (.p (.str kwGraph)) =
    some [(NT 0 1),Con Tryz.prog 35 0 [] [(zf78 N nb g)] [] (.p (.bool true)),(((!!true) = true) → (NT 0 1)),(AG (!!true)),(((!!true) = true) →  Con Tryz.prog 158 0 [] [(zf78 N nb g)] [] (.p (.bool true))),(((!true) = false) →  ((!!true) = true)),((bif !true then true else true) = true),(ByteArray.mk #[103, 114, 97, 112, 104] = kwGraph)] := by kernel_rfl
theorem gw2 (g : Nat → T_Bar) (nb N c : Nat) (h : Nat → T_Bar) (b : Bool) :
    pathOb Tryz.prog Tryz.f112 0 [rg 2, rm [(1, oc [] (.p (.bool true))), (3, oc [] (.p (.bool false)))] 2, .dec false, rm [(4, ⟨true, none, some true⟩), (0, ⟨true, (some ⟨[], [], [], 1, [(0, brOb c h)], .ar 2 0 0 c⟩), some true⟩), (0, ⟨true, none, some true⟩), (0, ⟨true, none, some true⟩), (0, ⟨true, none, some true⟩), (6, oc [] (.p (.bool b)))] 4, .dec true, rg 1] [.code (bodyOf Tryz.f112)] (start Tryz.f112 [] 0 [grG g nb N]) [] 1 [] (.p (.str kwRigid)) =
    some [(NT 0 1),Con Tryz.prog 35 0 [] [(zf78 N nb g)] [] (.p (.bool true)),(((!!true) = true) → (NT 0 1)),(AG (!!true)),(((!!true) = true) →  Con Tryz.prog 158 0 [] [(zf78 N nb g)] [] (.p (.bool false))),(((!true) = false) →  ((!!true) = true)),((bif !true then true else false) = false),(NT 0 1),((decide ((↑N : Int) ≤ 3)) = true),(NT 0 1),((decide ((↑N : Int) ≤ 3)) = true),Con Tryz.prog 159 0 [] [(zf78 N nb g)] (zf83 c h) (.ar 2 0 0 c),((decide ((↑N : Int) ≤ 3)) = true),((decide ((↑N : Int) ≤ 3)) = true),((decide ((↑N : Int) ≤ 3)) = true),(AG (!decide ((↑c : Int) > 0))),(((!decide ((↑c : Int) > 0)) = true) → (NT 0 1)),(AG (!decide ((↑c : Int) > 0))),(AG (!decide ((↑c : Int) > 0))),(((!decide ((↑c : Int) > 0) && decide ((↑N : Int) > 3)) = true) → (NT 0 1)),(AG (!decide ((↑c : Int) > 0) && decide ((↑N : Int) > 3))),(((!decide ((↑c : Int) > 0) && decide ((↑N : Int) > 3)) = true) →  Con Tryz.prog 43 0 [] [(zf78 N nb g)] [] (.p (.bool b))),(AG (!decide ((↑c : Int) > 0) && decide ((↑N : Int) > 3))),(AG (!decide ((↑c : Int) > 0))),(((!decide ((↑c : Int) > 0)) = true) → (((decide ((↑N : Int) > 3)) = true) →  ((!decide ((↑c : Int) > 0) && decide ((↑N : Int) > 3)) = true))),(((decide ((↑c : Int) > 0)) = false) →  ((!decide ((↑c : Int) > 0)) = true)),((bif decide ((↑c : Int) > 0) then true else bif decide ((↑N : Int) > 3) then !b else false) = true),(ByteArray.mk #[114, 105, 103, 105, 100] = kwRigid)] := by kernel_rfl
theorem gw3 (g : Nat → T_Bar) (nb N c : Nat) (h : Nat → T_Bar) (b b2 b3 : Bool) :
    pathOb Tryz.prog Tryz.f112 0 [rg 2, rm [(1, oc [] (.p (.bool true))), (3, oc [] (.p (.bool false)))] 2, .dec false, rm [(4, ⟨true, none, some true⟩), (0, ⟨true, (some ⟨[], [], [], 1, [(0, brOb c h)], .ar 2 0 0 c⟩), some true⟩), (0, ⟨true, none, some true⟩), (0, ⟨true, none, some true⟩), (0, ⟨true, none, some true⟩), (6, oc [] (.p (.bool b)))] 4, .dec false, rm [(5, oc [] (.p (.bool b2)))] 3, .dec false, rm [(5, oc [] (.p (.bool b3)))] 3, .dec false, rg 1] [.code (bodyOf Tryz.f112)] (start Tryz.f112 [] 0 [grG g nb N]) [] 1 [] (.p (.str kwE)) =
    some [(NT 0 1),Con Tryz.prog 35 0 [] [(zf78 N nb g)] [] (.p (.bool true)),(((!!true) = true) → (NT 0 1)),(AG (!!true)),(((!!true) = true) →  Con Tryz.prog 158 0 [] [(zf78 N nb g)] [] (.p (.bool false))),(((!true) = false) →  ((!!true) = true)),((bif !true then true else false) = false),(NT 0 1),((decide ((↑N : Int) ≤ 3)) = true),(NT 0 1),((decide ((↑N : Int) ≤ 3)) = true),Con Tryz.prog 159 0 [] [(zf78 N nb g)] (zf83 c h) (.ar 2 0 0 c),((decide ((↑N : Int) ≤ 3)) = true),((decide ((↑N : Int) ≤ 3)) = true),((decide ((↑N : Int) ≤ 3)) = true),(AG (!decide ((↑c : Int) > 0))),(((!decide ((↑c : Int) > 0)) = true) → (NT 0 1)),(AG (!decide ((↑c : Int) > 0))),(AG (!decide ((↑c : Int) > 0))),(((!decide ((↑c : Int) > 0) && decide ((↑N : Int) > 3)) = true) → (NT 0 1)),(AG (!decide ((↑c : Int) > 0) && decide ((↑N : Int) > 3))),(((!decide ((↑c : Int) > 0) && decide ((↑N : Int) > 3)) = true) →  Con Tryz.prog 43 0 [] [(zf78 N nb g)] [] (.p (.bool b))),(AG (!decide ((↑c : Int) > 0) && decide ((↑N : Int) > 3))),(AG (!decide ((↑c : Int) > 0))),(((!decide ((↑c : Int) > 0)) = true) → (((decide ((↑N : Int) > 3)) = true) →  ((!decide ((↑c : Int) > 0) && decide ((↑N : Int) > 3)) = true))),(((decide ((↑c : Int) > 0)) = false) →  ((!decide ((↑c : Int) > 0)) = true)),((bif decide ((↑c : Int) > 0) then true else bif decide ((↑N : Int) > 3) then !b else false) = false),(NT 0 1),(((decide ((↑N : Int) > 3)) = true) → (NT 0 1)),(AG (decide ((↑N : Int) > 3))),(((decide ((↑N : Int) > 3)) = true) →  Con Tryz.prog 113 0 [] [(zf78 N nb g), .p (.int .i64 3)] [] (.p (.bool b2))),(AG (decide ((↑N : Int) > 3))),(AG (decide ((↑N : Int) > 3))),((bif decide ((↑N : Int) > 3) then !b2 else false) = false),(NT 0 1),(((decide ((↑N : Int) > 3)) = true) → (NT 0 1)),(AG (decide ((↑N : Int) > 3))),(((decide ((↑N : Int) > 3)) = true) →  Con Tryz.prog 45 0 [] [(zf78 N nb g)] [] (.p (.bool b3))),(AG (decide ((↑N : Int) > 3))),(AG (decide ((↑N : Int) > 3))),((bif decide ((↑N : Int) > 3) then !b3 else false) = false),(ByteArray.mk #[] = kwE)] := by kernel_rfl
theorem gw4 (g : Nat → T_Bar) (nb N : Nat) (b : Bool) :
    pathOb Tryz.prog Tryz.f112 0 [rg 2, rm [(1, oc [] (.p (.bool true))), (3, oc [] (.p (.bool false)))] 2, .dec false, rm [(4, ⟨true, none, some false⟩), (0, ⟨true, none, some false⟩), (0, ⟨true, none, some false⟩), (0, ⟨true, none, some false⟩), (0, ⟨true, none, some false⟩), (6, oc [] (.p (.bool b)))] 4, .dec true, rg 1] [.code (bodyOf Tryz.f112)] (start Tryz.f112 [] 0 [grG g nb N]) [] 1 [] (.p (.str kwRigid)) =
    some [(NT 0 1),Con Tryz.prog 35 0 [] [(zf78 N nb g)] [] (.p (.bool true)),(((!!true) = true) → (NT 0 1)),(AG (!!true)),(((!!true) = true) →  Con Tryz.prog 158 0 [] [(zf78 N nb g)] [] (.p (.bool false))),(((!true) = false) →  ((!!true) = true)),((bif !true then true else false) = false),(NT 0 1),((decide ((↑N : Int) ≤ 3)) = false),((decide ((↑N : Int) ≤ 3)) = false),((decide ((↑N : Int) ≤ 3)) = false),((decide ((↑N : Int) ≤ 3)) = false),((decide ((↑N : Int) ≤ 3)) = false),(AG (!false)),(((!false) = true) → (NT 0 1)),(AG (!false)),(AG (!false)),(((!false && decide ((↑N : Int) > 3)) = true) → (NT 0 1)),(AG (!false && decide ((↑N : Int) > 3))),(((!false && decide ((↑N : Int) > 3)) = true) →  Con Tryz.prog 43 0 [] [(zf78 N nb g)] [] (.p (.bool b))),(AG (!false && decide ((↑N : Int) > 3))),(AG (!false)),(((!false) = true) → (((decide ((↑N : Int) > 3)) = true) →  ((!false && decide ((↑N : Int) > 3)) = true))),((false = false) →  ((!false) = true)),((bif false then true else bif decide ((↑N : Int) > 3) then !b else false) = true),(ByteArray.mk #[114, 105, 103, 105, 100] = kwRigid)] := by kernel_rfl
theorem gw5 (g : Nat → T_Bar) (nb N : Nat) (b b2 : Bool) :
    pathOb Tryz.prog Tryz.f112 0 [rg 2, rm [(1, oc [] (.p (.bool true))), (3, oc [] (.p (.bool false)))] 2, .dec false, rm [(4, ⟨true, none, some false⟩), (0, ⟨true, none, some false⟩), (0, ⟨true, none, some false⟩), (0, ⟨true, none, some false⟩), (0, ⟨true, none, some false⟩), (6, oc [] (.p (.bool b)))] 4, .dec false, rm [(5, oc [] (.p (.bool b2)))] 3, .dec true, rg 1] [.code (bodyOf Tryz.f112)] (start Tryz.f112 [] 0 [grG g nb N]) [] 1 [] (.p (.str kwConn)) =
    some [(NT 0 1),Con Tryz.prog 35 0 [] [(zf78 N nb g)] [] (.p (.bool true)),(((!!true) = true) → (NT 0 1)),(AG (!!true)),(((!!true) = true) →  Con Tryz.prog 158 0 [] [(zf78 N nb g)] [] (.p (.bool false))),(((!true) = false) →  ((!!true) = true)),((bif !true then true else false) = false),(NT 0 1),((decide ((↑N : Int) ≤ 3)) = false),((decide ((↑N : Int) ≤ 3)) = false),((decide ((↑N : Int) ≤ 3)) = false),((decide ((↑N : Int) ≤ 3)) = false),((decide ((↑N : Int) ≤ 3)) = false),(AG (!false)),(((!false) = true) → (NT 0 1)),(AG (!false)),(AG (!false)),(((!false && decide ((↑N : Int) > 3)) = true) → (NT 0 1)),(AG (!false && decide ((↑N : Int) > 3))),(((!false && decide ((↑N : Int) > 3)) = true) →  Con Tryz.prog 43 0 [] [(zf78 N nb g)] [] (.p (.bool b))),(AG (!false && decide ((↑N : Int) > 3))),(AG (!false)),(((!false) = true) → (((decide ((↑N : Int) > 3)) = true) →  ((!false && decide ((↑N : Int) > 3)) = true))),((false = false) →  ((!false) = true)),((bif false then true else bif decide ((↑N : Int) > 3) then !b else false) = false),(NT 0 1),(((decide ((↑N : Int) > 3)) = true) → (NT 0 1)),(AG (decide ((↑N : Int) > 3))),(((decide ((↑N : Int) > 3)) = true) →  Con Tryz.prog 113 0 [] [(zf78 N nb g), .p (.int .i64 3)] [] (.p (.bool b2))),(AG (decide ((↑N : Int) > 3))),(AG (decide ((↑N : Int) > 3))),((bif decide ((↑N : Int) > 3) then !b2 else false) = true),(ByteArray.mk #[99, 111, 110, 110, 101, 99, 116, 101, 100] = kwConn)] := by kernel_rfl
theorem gw6 (g : Nat → T_Bar) (nb N : Nat) (b b2 b3 : Bool) :
    pathOb Tryz.prog Tryz.f112 0 [rg 2, rm [(1, oc [] (.p (.bool true))), (3, oc [] (.p (.bool false)))] 2, .dec false, rm [(4, ⟨true, none, some false⟩), (0, ⟨true, none, some false⟩), (0, ⟨true, none, some false⟩), (0, ⟨true, none, some false⟩), (0, ⟨true, none, some false⟩), (6, oc [] (.p (.bool b)))] 4, .dec false, rm [(5, oc [] (.p (.bool b2)))] 3, .dec false, rm [(5, oc [] (.p (.bool b3)))] 3, .dec true, rg 1] [.code (bodyOf Tryz.f112)] (start Tryz.f112 [] 0 [grG g nb N]) [] 1 [] (.p (.str kwRed)) =
    some [(NT 0 1),Con Tryz.prog 35 0 [] [(zf78 N nb g)] [] (.p (.bool true)),(((!!true) = true) → (NT 0 1)),(AG (!!true)),(((!!true) = true) →  Con Tryz.prog 158 0 [] [(zf78 N nb g)] [] (.p (.bool false))),(((!true) = false) →  ((!!true) = true)),((bif !true then true else false) = false),(NT 0 1),((decide ((↑N : Int) ≤ 3)) = false),((decide ((↑N : Int) ≤ 3)) = false),((decide ((↑N : Int) ≤ 3)) = false),((decide ((↑N : Int) ≤ 3)) = false),((decide ((↑N : Int) ≤ 3)) = false),(AG (!false)),(((!false) = true) → (NT 0 1)),(AG (!false)),(AG (!false)),(((!false && decide ((↑N : Int) > 3)) = true) → (NT 0 1)),(AG (!false && decide ((↑N : Int) > 3))),(((!false && decide ((↑N : Int) > 3)) = true) →  Con Tryz.prog 43 0 [] [(zf78 N nb g)] [] (.p (.bool b))),(AG (!false && decide ((↑N : Int) > 3))),(AG (!false)),(((!false) = true) → (((decide ((↑N : Int) > 3)) = true) →  ((!false && decide ((↑N : Int) > 3)) = true))),((false = false) →  ((!false) = true)),((bif false then true else bif decide ((↑N : Int) > 3) then !b else false) = false),(NT 0 1),(((decide ((↑N : Int) > 3)) = true) → (NT 0 1)),(AG (decide ((↑N : Int) > 3))),(((decide ((↑N : Int) > 3)) = true) →  Con Tryz.prog 113 0 [] [(zf78 N nb g), .p (.int .i64 3)] [] (.p (.bool b2))),(AG (decide ((↑N : Int) > 3))),(AG (decide ((↑N : Int) > 3))),((bif decide ((↑N : Int) > 3) then !b2 else false) = false),(NT 0 1),(((decide ((↑N : Int) > 3)) = true) → (NT 0 1)),(AG (decide ((↑N : Int) > 3))),(((decide ((↑N : Int) > 3)) = true) →  Con Tryz.prog 45 0 [] [(zf78 N nb g)] [] (.p (.bool b3))),(AG (decide ((↑N : Int) > 3))),(AG (decide ((↑N : Int) > 3))),((bif decide ((↑N : Int) > 3) then !b3 else false) = true),(ByteArray.mk #[114, 101, 100, 117, 110, 100, 97, 110, 116] = kwRed)] := by kernel_rfl
theorem gw7 (g : Nat → T_Bar) (nb N : Nat) (b b2 b3 : Bool) :
    pathOb Tryz.prog Tryz.f112 0 [rg 2, rm [(1, oc [] (.p (.bool true))), (3, oc [] (.p (.bool false)))] 2, .dec false, rm [(4, ⟨true, none, some false⟩), (0, ⟨true, none, some false⟩), (0, ⟨true, none, some false⟩), (0, ⟨true, none, some false⟩), (0, ⟨true, none, some false⟩), (6, oc [] (.p (.bool b)))] 4, .dec false, rm [(5, oc [] (.p (.bool b2)))] 3, .dec false, rm [(5, oc [] (.p (.bool b3)))] 3, .dec false, rg 1] [.code (bodyOf Tryz.f112)] (start Tryz.f112 [] 0 [grG g nb N]) [] 1 [] (.p (.str kwE)) =
    some [(NT 0 1),Con Tryz.prog 35 0 [] [(zf78 N nb g)] [] (.p (.bool true)),(((!!true) = true) → (NT 0 1)),(AG (!!true)),(((!!true) = true) →  Con Tryz.prog 158 0 [] [(zf78 N nb g)] [] (.p (.bool false))),(((!true) = false) →  ((!!true) = true)),((bif !true then true else false) = false),(NT 0 1),((decide ((↑N : Int) ≤ 3)) = false),((decide ((↑N : Int) ≤ 3)) = false),((decide ((↑N : Int) ≤ 3)) = false),((decide ((↑N : Int) ≤ 3)) = false),((decide ((↑N : Int) ≤ 3)) = false),(AG (!false)),(((!false) = true) → (NT 0 1)),(AG (!false)),(AG (!false)),(((!false && decide ((↑N : Int) > 3)) = true) → (NT 0 1)),(AG (!false && decide ((↑N : Int) > 3))),(((!false && decide ((↑N : Int) > 3)) = true) →  Con Tryz.prog 43 0 [] [(zf78 N nb g)] [] (.p (.bool b))),(AG (!false && decide ((↑N : Int) > 3))),(AG (!false)),(((!false) = true) → (((decide ((↑N : Int) > 3)) = true) →  ((!false && decide ((↑N : Int) > 3)) = true))),((false = false) →  ((!false) = true)),((bif false then true else bif decide ((↑N : Int) > 3) then !b else false) = false),(NT 0 1),(((decide ((↑N : Int) > 3)) = true) → (NT 0 1)),(AG (decide ((↑N : Int) > 3))),(((decide ((↑N : Int) > 3)) = true) →  Con Tryz.prog 113 0 [] [(zf78 N nb g), .p (.int .i64 3)] [] (.p (.bool b2))),(AG (decide ((↑N : Int) > 3))),(AG (decide ((↑N : Int) > 3))),((bif decide ((↑N : Int) > 3) then !b2 else false) = false),(NT 0 1),(((decide ((↑N : Int) > 3)) = true) → (NT 0 1)),(AG (decide ((↑N : Int) > 3))),(((decide ((↑N : Int) > 3)) = true) →  Con Tryz.prog 45 0 [] [(zf78 N nb g)] [] (.p (.bool b3))),(AG (decide ((↑N : Int) > 3))),(AG (decide ((↑N : Int) > 3))),((bif decide ((↑N : Int) > 3) then !b3 else false) = false),(ByteArray.mk #[] = kwE)] := by kernel_rfl
theorem sw1 (g : Nat → T_Bar) (nb N : Nat) :
    pathOb Tryz.prog Tryz.f101 0 [rg 2, rm [(1, oc [] (.p (.bool false)))] 2, .dec true, rg 1] [.code (bodyOf Tryz.f101)] (start Tryz.f101 [] 0 [grG g nb N]) [] 1 [] (.p (.str kwGraph)) =
    some [(NT 0 1),Con Tryz.prog 152 0 [] [(zf78 N nb g)] [] (.p (.bool false)),((!false) = true),(ByteArray.mk #[103, 114, 97, 112, 104] = kwGraph)] := by kernel_rfl
theorem sw2 (g : Nat → T_Bar) (nb N : Nat) :
    pathOb Tryz.prog Tryz.f101 0 [rg 2, rm [(1, oc [] (.p (.bool true)))] 2, .dec false, rg 4, .dec true, rg 11, .dec true, rg 1] [.code (bodyOf Tryz.f101)] (start Tryz.f101 [] 0 [grG g nb N]) [] 1 [] (.p (.str kwRigid)) =
    some [(NT 0 1),Con Tryz.prog 152 0 [] [(zf78 N nb g)] [] (.p (.bool true)),((!true) = false),(NT 0 1),((decide ((↑N : Int) ≤ 3)) = true),(NT 0 1),(NT 0 1),(NT 0 1),(R0 ((↑N : Int) - 1)),(R1 ((↑N : Int) - 1)),(R0 ((↑N : Int) * ((↑N : Int) - 1))),(R1 ((↑N : Int) * ((↑N : Int) - 1))),(IL 0 ((↑N : Int) * ((↑N : Int) - 1))),(IT 0 2),(R1 ((↑N : Int) * ((↑N : Int) - 1) / 2)),((decide ((↑nb : Int) < (↑N : Int) * ((↑N : Int) - 1) / 2)) = true),(ByteArray.mk #[114, 105, 103, 105, 100] = kwRigid)] := by kernel_rfl
theorem sw3 (g : Nat → T_Bar) (nb N : Nat) :
    pathOb Tryz.prog Tryz.f101 0 [rg 2, rm [(1, oc [] (.p (.bool true)))] 2, .dec false, rg 4, .dec true, rg 11, .dec false, rg 1] [.code (bodyOf Tryz.f101)] (start Tryz.f101 [] 0 [grG g nb N]) [] 1 [] (.p (.str kwE)) =
    some [(NT 0 1),Con Tryz.prog 152 0 [] [(zf78 N nb g)] [] (.p (.bool true)),((!true) = false),(NT 0 1),((decide ((↑N : Int) ≤ 3)) = true),(NT 0 1),(NT 0 1),(NT 0 1),(R0 ((↑N : Int) - 1)),(R1 ((↑N : Int) - 1)),(R0 ((↑N : Int) * ((↑N : Int) - 1))),(R1 ((↑N : Int) * ((↑N : Int) - 1))),(IL 0 ((↑N : Int) * ((↑N : Int) - 1))),(IT 0 2),(R1 ((↑N : Int) * ((↑N : Int) - 1) / 2)),((decide ((↑nb : Int) < (↑N : Int) * ((↑N : Int) - 1) / 2)) = false),(ByteArray.mk #[] = kwE)] := by kernel_rfl
theorem sw4 (g : Nat → T_Bar) (nb N : Nat) :
    pathOb Tryz.prog Tryz.f101 0 [rg 2, rm [(1, oc [] (.p (.bool true)))] 2, .dec false, rg 4, .dec false, rm [(1, oc [] (.p (.bool false)))] 2, .dec true, rg 1] [.code (bodyOf Tryz.f101)] (start Tryz.f101 [] 0 [grG g nb N]) [] 1 [] (.p (.str kwRigid)) =
    some [(NT 0 1),Con Tryz.prog 152 0 [] [(zf78 N nb g)] [] (.p (.bool true)),((!true) = false),(NT 0 1),((decide ((↑N : Int) ≤ 3)) = false),(NT 0 1),Con Tryz.prog 29 0 [] [(zf78 N nb g)] [] (.p (.bool false)),((!false) = true),(ByteArray.mk #[114, 105, 103, 105, 100] = kwRigid)] := by kernel_rfl
theorem sw5 (g : Nat → T_Bar) (nb N : Nat) :
    pathOb Tryz.prog Tryz.f101 0 [rg 2, rm [(1, oc [] (.p (.bool true)))] 2, .dec false, rg 4, .dec false, rm [(1, oc [] (.p (.bool true)))] 2, .dec false, rm [(1, oc [] (.p (.bool false)))] 2, .dec true, rg 1] [.code (bodyOf Tryz.f101)] (start Tryz.f101 [] 0 [grG g nb N]) [] 1 [] (.p (.str kwConn)) =
    some [(NT 0 1),Con Tryz.prog 152 0 [] [(zf78 N nb g)] [] (.p (.bool true)),((!true) = false),(NT 0 1),((decide ((↑N : Int) ≤ 3)) = false),(NT 0 1),Con Tryz.prog 29 0 [] [(zf78 N nb g)] [] (.p (.bool true)),((!true) = false),(NT 0 1),Con Tryz.prog 102 0 [] [(zf78 N nb g), .p (.int .i64 3)] [] (.p (.bool false)),((!false) = true),(ByteArray.mk #[99, 111, 110, 110, 101, 99, 116, 101, 100] = kwConn)] := by kernel_rfl
theorem sw6 (g : Nat → T_Bar) (nb N : Nat) :
    pathOb Tryz.prog Tryz.f101 0 [rg 2, rm [(1, oc [] (.p (.bool true)))] 2, .dec false, rg 4, .dec false, rm [(1, oc [] (.p (.bool true)))] 2, .dec false, rm [(1, oc [] (.p (.bool true)))] 2, .dec false, rm [(1, oc [] (.p (.bool false)))] 2, .dec true, rg 1] [.code (bodyOf Tryz.f101)] (start Tryz.f101 [] 0 [grG g nb N]) [] 1 [] (.p (.str kwRed)) =
    some [(NT 0 1),Con Tryz.prog 152 0 [] [(zf78 N nb g)] [] (.p (.bool true)),((!true) = false),(NT 0 1),((decide ((↑N : Int) ≤ 3)) = false),(NT 0 1),Con Tryz.prog 29 0 [] [(zf78 N nb g)] [] (.p (.bool true)),((!true) = false),(NT 0 1),Con Tryz.prog 102 0 [] [(zf78 N nb g), .p (.int .i64 3)] [] (.p (.bool true)),((!true) = false),(NT 0 1),Con Tryz.prog 31 0 [] [(zf78 N nb g)] [] (.p (.bool false)),((!false) = true),(ByteArray.mk #[114, 101, 100, 117, 110, 100, 97, 110, 116] = kwRed)] := by kernel_rfl
theorem sw7 (g : Nat → T_Bar) (nb N : Nat) :
    pathOb Tryz.prog Tryz.f101 0 [rg 2, rm [(1, oc [] (.p (.bool true)))] 2, .dec false, rg 4, .dec false, rm [(1, oc [] (.p (.bool true)))] 2, .dec false, rm [(1, oc [] (.p (.bool true)))] 2, .dec false, rm [(1, oc [] (.p (.bool true)))] 2, .dec false, rg 1] [.code (bodyOf Tryz.f101)] (start Tryz.f101 [] 0 [grG g nb N]) [] 1 [] (.p (.str kwE)) =
    some [(NT 0 1),Con Tryz.prog 152 0 [] [(zf78 N nb g)] [] (.p (.bool true)),((!true) = false),(NT 0 1),((decide ((↑N : Int) ≤ 3)) = false),(NT 0 1),Con Tryz.prog 29 0 [] [(zf78 N nb g)] [] (.p (.bool true)),((!true) = false),(NT 0 1),Con Tryz.prog 102 0 [] [(zf78 N nb g), .p (.int .i64 3)] [] (.p (.bool true)),((!true) = false),(NT 0 1),Con Tryz.prog 31 0 [] [(zf78 N nb g)] [] (.p (.bool true)),((!true) = false),(ByteArray.mk #[] = kwE)] := by kernel_rfl
theorem gwi (g : Nat → T_Bar) (nb N : Nat) (s : ByteArray) :
    pathOb Tryz.prog Tryz.f46 0 [rg 2, rm [(1, oc [] (.p (.str s)))] 2] [.code (bodyOf Tryz.f46)] (start Tryz.f46 [] 0 [grG g nb N]) [] 1 [] (.p (.bool (s.toList == kwE.toList))) =
    some [(NT 0 1),Con Tryz.prog 112 0 [] [(zf78 N nb g)] [] (.p (.str s)),((s.toList == (ByteArray.mk #[]).toList) = (s.toList == kwE.toList))] := by kernel_rfl
theorem gws (g : Nat → T_Bar) (nb N : Nat) (s : ByteArray) :
    pathOb Tryz.prog Tryz.f32 0 [rg 2, rm [(1, oc [] (.p (.str s)))] 2] [.code (bodyOf Tryz.f32)] (start Tryz.f32 [] 0 [grG g nb N]) [] 1 [] (.p (.bool (s.toList == kwE.toList))) =
    some [(NT 0 1),Con Tryz.prog 101 0 [] [(zf78 N nb g)] [] (.p (.str s)),((s.toList == (ByteArray.mk #[]).toList) = (s.toList == kwE.toList))] := by kernel_rfl
end Go.Proofs.YtffnfeefjdmifaaGreat.Mach
namespace Go.Proofs.YtffnfeefjdmifaaGreat.Mach
open Go
set_option linter.unusedVariables false
set_option linter.unusedSimpArgs false
theorem sameB_and (a b : T_Bar) : (a.1 == b.1 && (a.2.1 == b.2.1 && true)) = sameB a b := by
  unfold sameB
  cases (a.1 == b.1) <;> simp
theorem dbF_t {g : Nat → T_Bar} {k : Nat} (h : sameB (g k) (g (k + 1)) = true) : ∀ d, dbF g (k + 1 + 1 + d) = true
  | 0 => by
    show dbF g (k + 1 + 1) = true
    rw [dbF]
    cases dbF g (k + 1) with
    | true => rfl
    | false => rw [decide_eq_true (show 0 < k + 1 by omega)]; exact h
  | d + 1 => by
    show dbF g (k + 1 + 1 + d + 1) = true
    rw [dbF, dbF_t h d]; rfl
theorem dbF_f {g : Nat → T_Bar} {k : Nat} (h : sameB (g k) (g (k + 1)) = false) (h' : dbF g (k + 1) = false) : dbF g (k + 1 + 1) = false := by
  rw [dbF, h', decide_eq_true (show 0 < k + 1 by omega)]; exact h
theorem dbF_1 (g : Nat → T_Bar) : ∀ n, n ≤ 1 → dbF g n = false
  | 0, _ => rfl
  | 1, _ => rfl
  | n + 2, h => by omega
theorem con_gDoubles {N nb : Nat} {g : Nat → T_Bar} (hnb : nb ≤ 24) : Con Tryz.prog 158 0 [] [grG g nb N] [] (.p (.bool (dbF g nb))) := by
  refine con_start Tryz.func158 rfl (by kernel_rfl) rfl (fun c hc => ?_)
  have lo : ∀ d k, k + 1 + d = max nb 1 → dbF g (k + 1) = false → Run Tryz.prog c 158 zf70 (HD g nb N (k + 1)) (Post c [] (.p (.bool (dbF g nb)))) := by
    intro d
    induction d with
    | zero =>
      intro k hk ha
      have hd : decide (((k + 1 : Nat) : Int) < (nb : Int)) = false := decide_eq_false (by omega)
      have e : dbF g nb = false := by
        by_cases h : nb ≤ 1
        · exact dbF_1 g nb h
        · rw [show nb = k + 1 by omega]; exact ha
      rw [e]
      refine path_ok mixed Tryz.func158 hc (hde g nb N (k + 1)) ?_
      simp only [All]
      repeat' (first | exact trivial | with_reducible apply And.intro)
      all_goals (first | omega | rfl | (intros; first | assumption | exact trivial | rfl | exact fT ‹_› | ((repeat' (first | assumption | apply anda | apply notf)); done)) | (exact hd) | (simp; done))
    | succ d ih =>
      intro k hk ha
      have hd : decide (((k + 1 : Nat) : Int) < (nb : Int)) = true := decide_eq_true (by omega)
      have hx : (((k + 1 : Nat) : Int) - 1).toNat = k := by omega
      cases hq : sameB (g k) (g (k + 1)) with
      | true =>
        rw [show dbF g nb = true by rw [show nb = k + 1 + 1 + (nb - (k + 1 + 1)) by omega]; exact dbF_t hq _]
        refine path_ok mixed Tryz.func158 hc (hdt g nb N k) ?_
        simp only [All]
        repeat' (first | exact trivial | with_reducible apply And.intro)
        all_goals (first | omega | rfl | (intros; first | assumption | exact trivial | rfl | exact fT ‹_› | ((repeat' (first | assumption | apply anda | apply notf)); done)) | (exact hd) | (rw [hx, sameB_and]; exact hq) | (simp; done))
      | false =>
        refine piece_ok mixed hc (hdf g nb N k) ?_ (ih (k + 1) (by omega) (dbF_f hq ha))
        simp only [All]
        repeat' (first | exact trivial | with_reducible apply And.intro)
        all_goals (first | exact aP _ _ | omega | rfl | (intros; first | assumption | exact trivial | rfl | exact fT ‹_› | ((repeat' (first | assumption | apply anda | apply notf)); done)) | (exact hd) | (rw [hx, sameB_and]; exact hq) | (simp; done))
  refine piece_ok mixed hc (hdz g nb N) ?_ (lo (max nb 1 - 1) 0 (by omega) rfl)
  simp only [All]
  repeat' (first | exact trivial | with_reducible apply And.intro)
  all_goals (first | exact aP _ _ | omega | rfl | (intros; first | assumption | exact trivial | rfl | exact fT ‹_› | ((repeat' (first | assumption | apply anda | apply notf)); done)) | (simp; done))
theorem con_gSimple {N nb : Nat} {g : Nat → T_Bar} (hg : isGraphF ((N : Int), (nb, g), ()) = true) : Con Tryz.prog 152 0 [] [grG g nb N] [] (.p (.bool (!dbF g nb))) := by
  obtain ⟨h1, h2, h3⟩ := graph_in hg
  have c1 := con_IsGraph_s ((N : Int), (nb, g), ()) (sm_graph (by show nb ≤ _; omega))
  rw [hg] at c1
  refine con_start Tryz.func152 rfl (by kernel_rfl) rfl (fun c hc => ?_)
  have lo : ∀ d k, k + 1 + d = max nb 1 → dbF g (k + 1) = false → Run Tryz.prog c 152 zf71 (HS g nb N (k + 1)) (Post c [] (.p (.bool (!dbF g nb)))) := by
    intro d
    induction d with
    | zero =>
      intro k hk ha
      have hd : decide (((k + 1 : Nat) : Int) < (nb : Int)) = false := decide_eq_false (by omega)
      have e : dbF g nb = false := by
        by_cases h : nb ≤ 1
        · exact dbF_1 g nb h
        · rw [show nb = k + 1 by omega]; exact ha
      rw [e]
      refine path_ok mixed Tryz.func152 hc (hse g nb N (k + 1)) ?_
      simp only [All]
      repeat' (first | exact trivial | with_reducible apply And.intro)
      all_goals (first | omega | rfl | (intros; first | assumption | exact trivial | rfl | exact fT ‹_› | ((repeat' (first | assumption | apply anda | apply notf)); done)) | (exact hd) | (exact c1) | (simp; done))
    | succ d ih =>
      intro k hk ha
      have hd : decide (((k + 1 : Nat) : Int) < (nb : Int)) = true := decide_eq_true (by omega)
      have hx : (((k + 1 : Nat) : Int) - 1).toNat = k := by omega
      cases hq : sameB (g k) (g (k + 1)) with
      | true =>
        rw [show dbF g nb = true by rw [show nb = k + 1 + 1 + (nb - (k + 1 + 1)) by omega]; exact dbF_t hq _]
        refine path_ok mixed Tryz.func152 hc (hst g nb N k) ?_
        simp only [All]
        repeat' (first | exact trivial | with_reducible apply And.intro)
        all_goals (first | omega | rfl | (intros; first | assumption | exact trivial | rfl | exact fT ‹_› | ((repeat' (first | assumption | apply anda | apply notf)); done)) | (exact hd) | (rw [hx, sameB_and]; exact hq) | (simp; done))
      | false =>
        refine piece_ok mixed hc (hsf g nb N k) ?_ (ih (k + 1) (by omega) (dbF_f hq ha))
        simp only [All]
        repeat' (first | exact trivial | with_reducible apply And.intro)
        all_goals (first | exact aP _ _ | omega | rfl | (intros; first | assumption | exact trivial | rfl | exact fT ‹_› | ((repeat' (first | assumption | apply anda | apply notf)); done)) | (exact hd) | (rw [hx, sameB_and]; exact hq) | (simp; done))
  refine piece_ok mixed hc (hsz g nb N) ?_ (lo (max nb 1 - 1) 0 (by omega) rfl)
  simp only [All]
  repeat' (first | exact trivial | with_reducible apply And.intro)
  all_goals (first | exact aP _ _ | omega | rfl | (intros; first | assumption | exact trivial | rfl | exact fT ‹_› | ((repeat' (first | assumption | apply anda | apply notf)); done)) | (simp; done))
noncomputable def rgG (N nb : Nat) (g : Nat → T_Bar) : Bool := frGr ((N : Int), (nb, g), ()) == 0
noncomputable def wgF (N nb : Nat) (g : Nat → T_Bar) : ByteArray :=
  if dbF g nb = true then kwGraph else if N ≤ 3 then (if decide ((((msP ((N : Int), (nb, g), ())).1 : Nat) : Int) > 0) = true then kwRigid else kwE) else if rgG N nb g = false then kwRigid else if kcB N nb g 3 = false then kwConn else if rdB N nb g = false then kwRed else kwE
theorem con_gWhy_i {N nb : Nat} {g : Nat → T_Bar} (hg : isGraphF ((N : Int), (nb, g), ()) = true) : Con Tryz.prog 112 0 [] [grG g nb N] [] (.p (.str (wgF N nb g))) := by
  obtain ⟨h1, h2, h3⟩ := graph_in hg
  have hsm : smS s_Graph ((N : Int), (nb, g), ()) := sm_graph (by show nb ≤ _; omega)
  have c1 := con_IsGraph_i ((N : Int), (nb, g), ()) hsm
  rw [hg] at c1
  have c2 := con_gDoubles (N := N) (g := g) h2
  have c3 := con_Missing_i ((N : Int), (nb, g), ()) hsm
  have c4 := con_IsRigid_i ((N : Int), (nb, g), ()) hsm
  have c4 : Con Tryz.prog 43 0 [] [grG g nb N] [] (.p (.bool (rgG N nb g))) := c4
  have c5 := con_gKC_i hg 3 (by omega)
  have c6 := con_gRedun_i hg
  unfold wgF
  generalize rgG N nb g = b at *
  generalize kcB N nb g 3 = b2 at *
  generalize rdB N nb g = b3 at *
  generalize msP ((N : Int), (nb, g), ()) = m at *
  refine con_start Tryz.func112 rfl (by kernel_rfl) rfl (fun c hc => ?_)
  cases hdb : dbF g nb with
  | true =>
    rw [hdb] at c2
    rw [if_pos rfl]
    refine path_ok mixed Tryz.func112 hc (gw1 g nb N) ?_
    simp only [All]
    repeat' (first | exact trivial | with_reducible apply And.intro)
    all_goals (first | exact aG _ | omega | rfl | (intros; first | assumption | exact trivial | rfl | exact fT ‹_› | ((repeat' (first | assumption | apply anda | apply notf)); done)) | (exact c1) | (exact c2) | (intros; exact c2) | (simp; done))
  | false =>
    rw [hdb] at c2
    rw [if_neg Bool.false_ne_true]
    by_cases hN : N ≤ 3
    · rw [if_pos hN]
      have d1 : decide ((N : Int) ≤ 3) = true := decide_eq_true (by omega)
      have d2 : decide ((N : Int) > 3) = false := decide_eq_false (by omega)
      cases hm : decide (((m.1 : Nat) : Int) > 0) with
      | true =>
        rw [if_pos rfl]
        refine path_ok mixed Tryz.func112 hc (gw2 g nb N m.1 m.2 b) ?_
        simp only [All]
        repeat' (first | exact trivial | with_reducible apply And.intro)
        all_goals (first | exact aG _ | omega | rfl | (intros; first | assumption | exact trivial | rfl | exact fT ‹_› | ((repeat' (first | assumption | apply anda | apply notf)); done)) | (exact c1) | (exact c2) | (intros; exact c2) | (exact d1) | (exact c3) | (intros; exact c4) | (rw [hm]; rfl) | (rw [hm, d2]; rfl) | (simp [d2]; done))
      | false =>
        rw [if_neg Bool.false_ne_true]
        refine path_ok mixed Tryz.func112 hc (gw3 g nb N m.1 m.2 b b2 b3) ?_
        simp only [All]
        repeat' (first | exact trivial | with_reducible apply And.intro)
        all_goals (first | exact aG _ | omega | rfl | (intros; first | assumption | exact trivial | rfl | exact fT ‹_› | ((repeat' (first | assumption | apply anda | apply notf)); done)) | (exact c1) | (exact c2) | (intros; exact c2) | (exact d1) | (exact c3) | (intros; exact c4) | (intros; exact c5) | (intros; exact c6) | (rw [hm]; rfl) | (rw [hm, d2]; rfl) | (simp [d2]; done))
    · rw [if_neg hN]
      have d1 : decide ((N : Int) ≤ 3) = false := decide_eq_false (by omega)
      have d2 : decide ((N : Int) > 3) = true := decide_eq_true (by omega)
      cases b with
      | false =>
        rw [if_pos rfl]
        refine path_ok mixed Tryz.func112 hc (gw4 g nb N false) ?_
        simp only [All]
        repeat' (first | exact trivial | with_reducible apply And.intro)
        all_goals (first | exact aG _ | omega | rfl | (intros; first | assumption | exact trivial | rfl | exact fT ‹_› | ((repeat' (first | assumption | apply anda | apply notf)); done)) | (exact c1) | (exact c2) | (intros; exact c2) | (exact d1) | (intros; exact c4) | (simp [d2]; done))
      | true =>
        rw [if_neg (by simp)]
        cases b2 with
        | false =>
          rw [if_pos rfl]
          refine path_ok mixed Tryz.func112 hc (gw5 g nb N true false) ?_
          simp only [All]
          repeat' (first | exact trivial | with_reducible apply And.intro)
          all_goals (first | exact aG _ | omega | rfl | (intros; first | assumption | exact trivial | rfl | exact fT ‹_› | ((repeat' (first | assumption | apply anda | apply notf)); done)) | (exact c1) | (exact c2) | (intros; exact c2) | (exact d1) | (intros; exact c4) | (intros; exact c5) | (simp [d2]; done))
        | true =>
          rw [if_neg (by simp)]
          cases b3 with
          | false =>
            rw [if_pos rfl]
            refine path_ok mixed Tryz.func112 hc (gw6 g nb N true true false) ?_
            simp only [All]
            repeat' (first | exact trivial | with_reducible apply And.intro)
            all_goals (first | exact aG _ | omega | rfl | (intros; first | assumption | exact trivial | rfl | exact fT ‹_› | ((repeat' (first | assumption | apply anda | apply notf)); done)) | (exact c1) | (exact c2) | (intros; exact c2) | (exact d1) | (intros; exact c4) | (intros; exact c5) | (intros; exact c6) | (simp [d2]; done))
          | true =>
            rw [if_neg (by simp)]
            refine path_ok mixed Tryz.func112 hc (gw7 g nb N true true true) ?_
            simp only [All]
            repeat' (first | exact trivial | with_reducible apply And.intro)
            all_goals (first | exact aG _ | omega | rfl | (intros; first | assumption | exact trivial | rfl | exact fT ‹_› | ((repeat' (first | assumption | apply anda | apply notf)); done)) | (exact c1) | (exact c2) | (intros; exact c2) | (exact d1) | (intros; exact c4) | (intros; exact c5) | (intros; exact c6) | (simp [d2]; done))
theorem con_gWhy_s {N nb : Nat} {g : Nat → T_Bar} (hg : isGraphF ((N : Int), (nb, g), ()) = true) : Con Tryz.prog 101 0 [] [grG g nb N] [] (.p (.str (wgF N nb g))) := by
  obtain ⟨h1, h2, h3⟩ := graph_in hg
  have hsm : smS s_Graph ((N : Int), (nb, g), ()) := sm_graph (by show nb ≤ _; omega)
  have c2 := con_gSimple hg
  have c4 := con_IsRigid_s ((N : Int), (nb, g), ()) hsm
  have c4 : Con Tryz.prog 29 0 [] [grG g nb N] [] (.p (.bool (rgG N nb g))) := c4
  have c5 := con_gKC_s hg 3 (by omega)
  have c6 := con_gRedun_s hg
  unfold wgF
  generalize rgG N nb g = b at *
  generalize kcB N nb g 3 = b2 at *
  generalize rdB N nb g = b3 at *
  refine con_start Tryz.func101 rfl (by kernel_rfl) rfl (fun c hc => ?_)
  cases hdb : dbF g nb with
  | true =>
    rw [hdb] at c2
    rw [if_pos rfl]
    refine path_ok mixed Tryz.func101 hc (sw1 g nb N) ?_
    simp only [All]
    repeat' (first | exact trivial | with_reducible apply And.intro)
    all_goals (first | omega | rfl | (intros; first | assumption | exact trivial | rfl | exact fT ‹_› | ((repeat' (first | assumption | apply anda | apply notf)); done)) | (exact c2) | (simp; done))
  | false =>
    have hmf := missing_few hg hdb
    rw [hdb] at c2
    rw [if_neg Bool.false_ne_true]
    by_cases hN : N ≤ 3
    · rw [if_pos hN, hmf hN]
      have d1 : decide ((N : Int) ≤ 3) = true := decide_eq_true (by omega)
      have hmul : (N : Int) * ((N : Int) - 1) / 2 = ((N * (N - 1) / 2 : Nat) : Int) ∧ 0 ≤ (N : Int) * ((N : Int) - 1) ∧ (N : Int) * ((N : Int) - 1) ≤ 6 := by
        have : N = 1 ∨ N = 2 ∨ N = 3 := by omega
        rcases this with rfl | rfl | rfl <;> decide
      cases hm : decide ((nb : Int) < ((N * (N - 1) / 2 : Nat) : Int)) with
      | true =>
        rw [if_pos rfl]
        refine path_ok mixed Tryz.func101 hc (sw2 g nb N) ?_
        simp only [All]
        repeat' (first | exact trivial | with_reducible apply And.intro)
        all_goals (first | omega | rfl | (intros; first | assumption | exact trivial | rfl | exact fT ‹_› | ((repeat' (first | assumption | apply anda | apply notf)); done)) | (exact c2) | (exact d1) | (rw [hmul.1]; exact hm) | (simp; done))
      | false =>
        rw [if_neg Bool.false_ne_true]
        refine path_ok mixed Tryz.func101 hc (sw3 g nb N) ?_
        simp only [All]
        repeat' (first | exact trivial | with_reducible apply And.intro)
        all_goals (first | omega | rfl | (intros; first | assumption | exact trivial | rfl | exact fT ‹_› | ((repeat' (first | assumption | apply anda | apply notf)); done)) | (exact c2) | (exact d1) | (rw [hmul.1]; exact hm) | (simp; done))
    · rw [if_neg hN]
      have d1 : decide ((N : Int) ≤ 3) = false := decide_eq_false (by omega)
      cases b with
      | false =>
        rw [if_pos rfl]
        refine path_ok mixed Tryz.func101 hc (sw4 g nb N) ?_
        simp only [All]
        repeat' (first | exact trivial | with_reducible apply And.intro)
        all_goals (first | omega | rfl | (intros; first | assumption | exact trivial | rfl | exact fT ‹_› | ((repeat' (first | assumption | apply anda | apply notf)); done)) | (exact c2) | (exact d1) | (exact c4) | (simp; done))
      | true =>
        rw [if_neg (by simp)]
        cases b2 with
        | false =>
          rw [if_pos rfl]
          refine path_ok mixed Tryz.func101 hc (sw5 g nb N) ?_
          simp only [All]
          repeat' (first | exact trivial | with_reducible apply And.intro)
          all_goals (first | omega | rfl | (intros; first | assumption | exact trivial | rfl | exact fT ‹_› | ((repeat' (first | assumption | apply anda | apply notf)); done)) | (exact c2) | (exact d1) | (exact c4) | (exact c5) | (simp; done))
        | true =>
          rw [if_neg (by simp)]
          cases b3 with
          | false =>
            rw [if_pos rfl]
            refine path_ok mixed Tryz.func101 hc (sw6 g nb N) ?_
            simp only [All]
            repeat' (first | exact trivial | with_reducible apply And.intro)
            all_goals (first | omega | rfl | (intros; first | assumption | exact trivial | rfl | exact fT ‹_› | ((repeat' (first | assumption | apply anda | apply notf)); done)) | (exact c2) | (exact d1) | (exact c4) | (exact c5) | (exact c6) | (simp; done))
          | true =>
            rw [if_neg (by simp)]
            refine path_ok mixed Tryz.func101 hc (sw7 g nb N) ?_
            simp only [All]
            repeat' (first | exact trivial | with_reducible apply And.intro)
            all_goals (first | omega | rfl | (intros; first | assumption | exact trivial | rfl | exact fT ‹_› | ((repeat' (first | assumption | apply anda | apply notf)); done)) | (exact c2) | (exact d1) | (exact c4) | (exact c5) | (exact c6) | (simp; done))
noncomputable def glB (N nb : Nat) (g : Nat → T_Bar) : Bool := (wgF N nb g).toList == kwE.toList
theorem con_gGlobal_i {N nb : Nat} {g : Nat → T_Bar} (hg : isGraphF ((N : Int), (nb, g), ()) = true) : Con Tryz.prog 46 0 [] [grG g nb N] [] (.p (.bool (glB N nb g))) := by
  have c1 := con_gWhy_i hg
  refine con_start Tryz.func46 rfl (by kernel_rfl) rfl (fun c hc => ?_)
  refine path_ok mixed Tryz.func46 hc (gwi g nb N (wgF N nb g)) ?_
  simp only [All]
  repeat' (first | exact trivial | with_reducible apply And.intro)
  all_goals (first | omega | rfl | (intros; first | assumption | exact trivial | rfl | exact fT ‹_› | ((repeat' (first | assumption | apply anda | apply notf)); done)) | (exact c1) | (simp; done))
theorem con_gGlobal_s {N nb : Nat} {g : Nat → T_Bar} (hg : isGraphF ((N : Int), (nb, g), ()) = true) : Con Tryz.prog 32 0 [] [grG g nb N] [] (.p (.bool (glB N nb g))) := by
  have c1 := con_gWhy_s hg
  refine con_start Tryz.func32 rfl (by kernel_rfl) rfl (fun c hc => ?_)
  refine path_ok mixed Tryz.func32 hc (gws g nb N (wgF N nb g)) ?_
  simp only [All]
  repeat' (first | exact trivial | with_reducible apply And.intro)
  all_goals (first | omega | rfl | (intros; first | assumption | exact trivial | rfl | exact fT ‹_› | ((repeat' (first | assumption | apply anda | apply notf)); done)) | (exact c1) | (simp; done))
end Go.Proofs.YtffnfeefjdmifaaGreat.Mach
namespace Go.Proofs.YtffnfeefjdmifaaGreat.Mach
open Go
set_option linter.unusedVariables false
set_option linter.unusedSimpArgs false
def byO (n : Nat) (f : Nat → Int) : Ob := ⟨false, 1, n, fun i => [.p (.int .u8 (f i))]⟩
def swF (i j : Nat) (f : Nat → Int) (r : Nat) : Int := if r = j then f i else if r = i then f j else f r
def apF (n : Nat) (f : Nat → Int) (x : Int) (r : Nat) : Int := if r < n then f r else x
def SFs (m : Int) (o : ByteArray) (ng : Bool) : St :=
  ⟨[.p (.int .i64 m), .p .any, .p .any, .p (.str o), .p (.bool ng)] ++ List.replicate 26 anyA, [], 0⟩
def SFi (n m : Int) (l : Nat) (f : Nat → Int) : St :=
  ⟨[.p (.int .i64 n), .p .any, .p .any, .ar 1 0 0 l, .p (.int .i64 m)] ++ List.replicate 54 anyA, [(0, byO l f)], 1⟩
def SFr (l i : Nat) (j : Int) (f : Nat → Int) : St :=
  ⟨[.p .any, .p .any, .p .any, .ar 1 0 0 l, .p .any, .p .any, .p (.int .i64 i), .p (.int .i64 j)] ++ List.replicate 51 anyA, [(0, byO l f)], 1⟩
theorem fS0 (n : Int) (s : ByteArray) :
    pathOb Tryz.prog Tryz.f23 0 [rg 1, rg 2, .dec true, rg 1] [.code (bodyOf Tryz.f23)] (start Tryz.f23 [] 0 [.p (.int .i64 n)]) [] 1 [] (.p (.str s)) =
    some [((n == 0) = true),(ByteArray.mk #[48] = s)] := by kernel_rfl
theorem fSz (n : Int) (o : ByteArray) :
    pieceOb Tryz.prog 0 [rg 1, rg 2, .dec false, rg 1, rg 3, .head] [.code (bodyOf Tryz.f23)] (start Tryz.f23 [] 0 [.p (.int .i64 n)]) [] 1 (SFs n o (decide (n < 0))) =
    some (zf41, [((n == 0) = false),(AI n),(ByteArray.mk #[] = o),((decide (n < 0)) = (decide (n < 0)))]) := by kernel_rfl
theorem fSn (m m2 : Int) (o o2 : ByteArray) (ng : Bool) :
    pieceOb Tryz.prog 0 [rg 2, .dec true, rm [(1, oF)] 1, rg 2, .dec true, rg 3, rg 8, rm [(1, oF)] 1, .head] zf41 (SFs m o ng) [] 1 (SFs m2 o2 ng) =
    some (zf41, [((m != 0) = true),((10 : Int) ≠ 0),((decide (m.tmod 10 < 0)) = true),(R0 (0 - m.tmod 10)),(R1 (0 - m.tmod 10)),(R0 (48 + (0 - m.tmod 10))),(R1 (48 + (0 - m.tmod 10))),(IL 0 (48 + (0 - m.tmod 10))),(IL (48 + (0 - m.tmod 10)) 255),(NL 1 1),(okBytes 1 (fun i => [.p (.int .u8 (48 + (0 - m.tmod 10)))])),(NL ((bytesOf 1 fun i => [AV.p (PV.int IntKind.u8 (48 + (0 - m.tmod 10)))]).size + o.size) 9223372036854775807),((10 : Int) ≠ 0),(((IntKind.i64.wrap (m.tdiv 10)) : Int) = m2),((bytesOf 1 fun i => [AV.p (PV.int IntKind.u8 (48 + (0 - m.tmod 10)))]) ++ o = o2),(ng = ng)]) := by kernel_rfl
theorem fSp (m m2 : Int) (o o2 : ByteArray) (ng : Bool) :
    pieceOb Tryz.prog 0 [rg 2, .dec true, rm [(1, oF)] 1, rg 2, .dec false, rg 8, rm [(1, oF)] 1, .head] zf41 (SFs m o ng) [] 1 (SFs m2 o2 ng) =
    some (zf41, [((m != 0) = true),((10 : Int) ≠ 0),((decide (m.tmod 10 < 0)) = false),(R0 (48 + m.tmod 10)),(R1 (48 + m.tmod 10)),(IL 0 (48 + m.tmod 10)),(IL (48 + m.tmod 10) 255),(NL 1 1),(okBytes 1 (fun i => [.p (.int .u8 (48 + m.tmod 10))])),(NL ((bytesOf 1 fun i => [AV.p (PV.int IntKind.u8 (48 + m.tmod 10))]).size + o.size) 9223372036854775807),((10 : Int) ≠ 0),(((IntKind.i64.wrap (m.tdiv 10)) : Int) = m2),((bytesOf 1 fun i => [AV.p (PV.int IntKind.u8 (48 + m.tmod 10))]) ++ o = o2),(ng = ng)]) := by kernel_rfl
theorem fSt (m : Int) (o s : ByteArray) (ng : Bool) :
    pathOb Tryz.prog Tryz.f23 0 [rg 2, .dec false, rg 1, .dec true, rg 3] zf41 (SFs m o ng) [] 1 [] (.p (.str s)) =
    some [((m != 0) = false),(ng = true),(NL ((ByteArray.mk #[45]).size + o.size) 9223372036854775807),(ByteArray.mk #[45] ++ o = s)] := by kernel_rfl
theorem fSf (m : Int) (o s : ByteArray) (ng : Bool) :
    pathOb Tryz.prog Tryz.f23 0 [rg 2, .dec false, rg 1, .dec false, rg 2] zf41 (SFs m o ng) [] 1 [] (.p (.str s)) =
    some [((m != 0) = false),(ng = false),(o = s)] := by kernel_rfl
theorem fI0 (n : Int) (s : ByteArray) :
    pathOb Tryz.prog Tryz.f37 0 [rg 1, rg 2, .dec true, rg 1] [.code (bodyOf Tryz.f37)] (start Tryz.f37 [] 0 [.p (.int .i64 n)]) [] 1 [] (.p (.str s)) =
    some [((n == 0) = true),(ByteArray.mk #[48] = s)] := by kernel_rfl
theorem fIz (n : Int) :
    pieceOb Tryz.prog 0 [rg 1, rg 2, .dec false, rg 2, rg 2, .head] [.code (bodyOf Tryz.f37)] (start Tryz.f37 [] 0 [.p (.int .i64 n)]) [96] 1 (SFi n n 0 (fun _ => 0)) =
    some (zf44, [((n == 0) = false),(AI n),(AN 0),(AN 0),(AI n),(AN 1),(NL 0 0),(AA 0 (fun i => [.p (.int .u8 0)]))]) := by kernel_rfl
theorem fIn (n m m2 : Int) (l : Nat) (f : Nat → Int) (x : Int) :
    pieceOb Tryz.prog 0 [rg 2, .dec true, rm [(1, oF)] 1, rg 2, .dec true, rg 3, rg 7, rm [(1, oF)] 1, .head] zf44 (SFi n m l f) [481] 1 (SFi n m2 (l + 1) (apF l f x)) =
    some (zf44, [((m != 0) = true),((10 : Int) ≠ 0),((decide (m.tmod 10 < 0)) = true),(R0 (0 - m.tmod 10)),(R1 (0 - m.tmod 10)),(R0 (48 + (0 - m.tmod 10))),(R1 (48 + (0 - m.tmod 10))),(IL 0 (48 + (0 - m.tmod 10))),(IL (48 + (0 - m.tmod 10)) 255),(NL 1 1),(NL l l),(NL ((l + 1) * 1) 140737488355328),(NL (l + 1) 9223372036854775807),((10 : Int) ≠ 0),(AI n),(AN 0),(AN ((l + 1))),(((IntKind.i64.wrap (m.tdiv 10)) : Int) = m2),(AN 1),(NL (l + 1) (l + 1)),(CV [(481, ⟨false, 1, (l + 1), (fun i_1 => (if (i_1 < l) then [.p (.int .u8 (f i_1))] else [.p (.int .u8 (48 + (0 - m.tmod 10)))]))⟩), (449, ⟨false, 1, 1, (fun i_1 => [.p (.int .u8 (48 + (0 - m.tmod 10)))])⟩)] [481] 1 (l + 1) (fun i => if (i < l) then [.p (.int .u8 (f i))] else [.p (.int .u8 (48 + (0 - m.tmod 10)))]) (fun i => [.p (.int .u8 (apF l f x i))]))]) := by kernel_rfl
theorem fIp (n m m2 : Int) (l : Nat) (f : Nat → Int) (x : Int) :
    pieceOb Tryz.prog 0 [rg 2, .dec true, rm [(1, oF)] 1, rg 2, .dec false, rg 7, rm [(1, oF)] 1, .head] zf44 (SFi n m l f) [385] 1 (SFi n m2 (l + 1) (apF l f x)) =
    some (zf44, [((m != 0) = true),((10 : Int) ≠ 0),((decide (m.tmod 10 < 0)) = false),(R0 (48 + m.tmod 10)),(R1 (48 + m.tmod 10)),(IL 0 (48 + m.tmod 10)),(IL (48 + m.tmod 10) 255),(NL 1 1),(NL l l),(NL ((l + 1) * 1) 140737488355328),(NL (l + 1) 9223372036854775807),((10 : Int) ≠ 0),(AI n),(AN 0),(AN ((l + 1))),(((IntKind.i64.wrap (m.tdiv 10)) : Int) = m2),(AN 1),(NL (l + 1) (l + 1)),(CV [(385, ⟨false, 1, (l + 1), (fun i_1 => (if (i_1 < l) then [.p (.int .u8 (f i_1))] else [.p (.int .u8 (48 + m.tmod 10))]))⟩), (353, ⟨false, 1, 1, (fun i_1 => [.p (.int .u8 (48 + m.tmod 10))])⟩)] [385] 1 (l + 1) (fun i => if (i < l) then [.p (.int .u8 (f i))] else [.p (.int .u8 (48 + m.tmod 10))]) (fun i => [.p (.int .u8 (apF l f x i))]))]) := by kernel_rfl
theorem fIt (n m : Int) (l : Nat) (f : Nat → Int) :
    pieceOb Tryz.prog 0 [rg 2, .dec false, rg 2, .dec true, rg 4, rg 5, .head] zf44 (SFi n m l f) [193] 1 (SFr (l + 1) 0 (((l + 1 : Nat) : Int) - 1) (apF l f 45)) =
    some (zf21, [((m != 0) = false),((decide (n < 0)) = true),(NL 1 1),(NL l l),(NL ((l + 1) * 1) 140737488355328),(NL (l + 1) 9223372036854775807),(R0 ((↑(l + 1) : Int) - 1)),(R1 ((↑(l + 1) : Int) - 1)),(AN 0),(AN ((l + 1))),((0 : Int) = (↑0 : Int)),(AI (((↑(l + 1) : Int) - 1))),(AN 1),(NL (l + 1) (l + 1)),(CV [(193, ⟨false, 1, (l + 1), (fun i_1 => (if (i_1 < l) then [.p (.int .u8 (f i_1))] else [.p (.int .u8 45)]))⟩), (161, ⟨false, 1, 1, (fun i_1 => [.p (.int .u8 45)])⟩)] [193] 1 (l + 1) (fun i => if (i < l) then [.p (.int .u8 (f i))] else [.p (.int .u8 45)]) (fun i => [.p (.int .u8 (apF l f 45 i))]))]) := by kernel_rfl
theorem fIf (n m : Int) (l : Nat) (f : Nat → Int) :
    pieceOb Tryz.prog 0 [rg 2, .dec false, rg 2, .dec false, rg 5, .head] zf44 (SFi n m l f) [0] 1 (SFr l 0 ((l : Int) - 1) f) =
    some (zf21, [((m != 0) = false),((decide (n < 0)) = false),(R0 ((↑l : Int) - 1)),(R1 ((↑l : Int) - 1)),(AN 0),(AN l),((0 : Int) = (↑0 : Int)),(AI (((↑l : Int) - 1))),(AN 1),(NL l l),(AA l (fun i => [.p (.int .u8 (f i))]))]) := by kernel_rfl
theorem fIs (l i : Nat) (j : Int) (f : Nat → Int) :
    pieceOb Tryz.prog 0 [rg 3, .dec true, rg 16, rg 6, .head] zf21 (SFr l i j f) [0] 1 (SFr l (i + 1) (j - 1) (swF i j.toNat f)) =
    some (zf21, [((decide ((↑i : Int) < j)) = true),(IL 0 j),(IT j (↑l : Int)),(NT j.toNat l),(IL 0 (↑i : Int)),(IT (↑i : Int) (↑l : Int)),(NT i l),(IL 0 (↑i : Int)),(IT (↑i : Int) (↑l : Int)),(NT i l),((false = true) →  ((l : Nat) = 1)),(IL 0 j),(IT j (↑l : Int)),(NT j.toNat l),((false = true) →  ((l : Nat) = 1)),(R0 ((↑i : Int) + 1)),(R1 ((↑i : Int) + 1)),(R0 (j - 1)),(R1 (j - 1)),(AN 0),(AN l),((((↑i : Int) + 1) : Int) = (↑(i + 1) : Int)),(AI ((j - 1))),(AN 1),(NL l l),(CV [(0, ⟨false, 1, l, (fun i_2 => (if (i_2 = j.toNat) then [.p (.int .u8 (f i))] else (if (i_2 = i) then [.p (.int .u8 (f j.toNat))] else [.p (.int .u8 (f i_2))])))⟩)] [0] 1 l (fun i_1 => if (i_1 = j.toNat) then [.p (.int .u8 (f i))] else (if (i_1 = i) then [.p (.int .u8 (f j.toNat))] else [.p (.int .u8 (f i_1))])) (fun i_1 => [.p (.int .u8 (swF i j.toNat f i_1))]))]) := by kernel_rfl
theorem fIe (l i : Nat) (j : Int) (f : Nat → Int) (s : ByteArray) :
    pathOb Tryz.prog Tryz.f37 0 [rg 3, .dec false, rg 3] zf21 (SFr l i j f) [] 1 [] (.p (.str s)) =
    some [((decide ((↑i : Int) < j)) = false),(NL l l),(okBytes l (fun i_1 => [.p (.int .u8 (f i_1))])),((bytesOf l fun i => [AV.p (PV.int IntKind.u8 (f i))]) = s)] := by kernel_rfl
def dg : Nat → Nat → List Int
  | 0, _ => []
  | f + 1, m => if m = 0 then [] else (48 + ((m % 10 : Nat) : Int)) :: dg f (m / 10)
def bs (l : List Int) : ByteArray := l.foldl (fun r n => r.push (UInt8.ofNat n.toNat)) ByteArray.empty
def fmtL (n : Int) : List Int := dg 20 n.natAbs ++ (if n < 0 then [45] else [])
def fmtI (n : Int) : ByteArray := if n = 0 then bs [48] else bs (fmtL n).reverse
theorem bs_fold (l : List Int) : ∀ s : ByteArray, (l.foldl (fun r n => r.push (UInt8.ofNat n.toNat)) s).data = s.data ++ (l.map fun n => UInt8.ofNat n.toNat).toArray := by
  induction l with
  | nil => intro s; simp
  | cons x l ih =>
    intro s
    simp only [List.foldl_cons, ih, List.map_cons]
    show s.data.push (UInt8.ofNat x.toNat) ++ _ = _
    simp
theorem bs_data (l : List Int) : (bs l).data = (l.map fun n => UInt8.ofNat n.toNat).toArray := by
  rw [bs, bs_fold]
  show #[] ++ _ = _
  simp
theorem bs_append (a b : List Int) : bs (a ++ b) = bs a ++ bs b := by
  apply ByteArray.ext
  rw [bs_data, ByteArray.data_append, bs_data, bs_data]
  simp
theorem bs_size (l : List Int) : (bs l).size = l.length := by
  show (bs l).data.size = _
  rw [bs_data]; simp
theorem bytesOf_bs (m : Nat) (f : Nat → Int) : bytesOf m (fun i => [.p (.int .u8 (f i))]) = bs ((List.range m).map f) := rfl
theorem tm10 (c : Int) : c.tmod 10 = if 0 ≤ c then ((c.natAbs % 10 : Nat) : Int) else -((c.natAbs % 10 : Nat) : Int) := by
  obtain ⟨k, rfl | rfl⟩ := c.eq_nat_or_neg
  · rw [if_pos (by omega), Int.natAbs_natCast]; rfl
  · by_cases h : k = 0
    · subst h; rfl
    · rw [if_neg (by omega), Int.neg_tmod, Int.natAbs_neg, Int.natAbs_natCast]; rfl
theorem td10 (c : Int) : c.tdiv 10 = if 0 ≤ c then ((c.natAbs / 10 : Nat) : Int) else -((c.natAbs / 10 : Nat) : Int) := by
  obtain ⟨k, rfl | rfl⟩ := c.eq_nat_or_neg
  · rw [if_pos (by omega), Int.natAbs_natCast]; rfl
  · by_cases h : k = 0
    · subst h; rfl
    · rw [if_neg (by omega), Int.neg_tdiv, Int.natAbs_neg, Int.natAbs_natCast]; rfl
theorem td_abs (c : Int) : (c.tdiv 10).natAbs = c.natAbs / 10 := by
  rw [td10]; split <;> omega
theorem dg_len : ∀ f m, (dg f m).length ≤ f
  | 0, _ => Nat.le_refl _
  | f + 1, m => by
    simp only [dg]
    split
    · simp
    · have := dg_len f (m / 10); simp; omega
theorem fmt_size (n : Int) : (fmtI n).size ≤ 21 := by
  unfold fmtI
  split
  · simp [bs_size]
  · rw [bs_size, fmtL, List.length_reverse, List.length_append]
    have := dg_len 20 n.natAbs
    split <;> simp <;> omega
theorem con_FormatInt_s (n : Int) (h0 : -9223372036854775808 ≤ n) (h1 : n ≤ 9223372036854775807) : Con Tryz.prog 23 0 [] [.p (.int .i64 n)] [] (.p (.str (fmtI n))) := by
  refine con_start Tryz.func23 rfl (by kernel_rfl) rfl (fun c hc => ?_)
  by_cases hz : n = 0
  · subst hz
    refine path_ok mixed Tryz.func23 hc (fS0 0 (fmtI 0)) ?_
    simp only [All]
    repeat' (first | exact trivial | with_reducible apply And.intro)
    all_goals (first | omega | rfl | (intros; first | assumption | exact trivial | rfl | exact fT ‹_› | ((repeat' (first | assumption | apply anda | apply notf)); done)) | rfl | (exact ByteArray.ext (by rw [fmtI, if_pos rfl, bs_data]; rfl)))
  have hz' : (n == 0) = false := by simpa using hz
  have lp : ∀ f m l, l.length + f = 20 → m.natAbs < 10 ^ f → dg 20 n.natAbs = l ++ dg f m.natAbs → (n < 0 → m ≤ 0) → (0 ≤ n → 0 ≤ m) → -9223372036854775808 ≤ m → m ≤ 9223372036854775807 →
      Run Tryz.prog c 23 zf41 (SFs m (bs l.reverse) (decide (n < 0))) (Post c [] (.p (.str (fmtI n)))) := by
    have fin : ∀ l, dg 20 n.natAbs = l → l.length ≤ 20 → Run Tryz.prog c 23 zf41 (SFs 0 (bs l.reverse) (decide (n < 0))) (Post c [] (.p (.str (fmtI n)))) := by
      intro l hl hl2
      have hsz := bs_size l.reverse
      rw [List.length_reverse] at hsz
      by_cases hn : n < 0
      · rw [decide_eq_true hn]
        refine path_ok mixed Tryz.func23 hc (fSt 0 (bs l.reverse) (fmtI n) true) ?_
        simp only [All]
        repeat' (first | exact trivial | with_reducible apply And.intro)
        all_goals (first | omega | rfl | (intros; first | assumption | exact trivial | rfl | exact fT ‹_› | ((repeat' (first | assumption | apply anda | apply notf)); done)) | (show _ + (bs l.reverse).size ≤ _; rw [hsz]; show 1 + l.length ≤ _; omega) | (rw [fmtI, if_neg hz, fmtL, if_pos hn, hl, List.reverse_append, bs_append]; exact congrArg (· ++ bs l.reverse) (ByteArray.ext (by rw [bs_data]; rfl))))
      · rw [decide_eq_false hn]
        refine path_ok mixed Tryz.func23 hc (fSf 0 (bs l.reverse) (fmtI n) false) ?_
        simp only [All]
        repeat' (first | exact trivial | with_reducible apply And.intro)
        all_goals (first | omega | rfl | (intros; first | assumption | exact trivial | rfl | exact fT ‹_› | ((repeat' (first | assumption | apply anda | apply notf)); done)) | (rw [fmtI, if_neg hz, fmtL, if_neg hn, hl, List.append_nil]))
    intro f
    induction f with
    | zero =>
      intro m l hl hm hd hs1 hs2 hb1 hb2
      obtain rfl : m = 0 := by simp at hm; omega
      exact fin l (by rw [hd]; simp [dg]) (by omega)
    | succ f ih =>
      intro m l hl hm hd hs1 hs2 hb1 hb2
      by_cases hm0 : m = 0
      · subst hm0
        exact fin l (by rw [hd]; simp [dg]) (by omega)
      have hmt : (m != 0) = true := by simpa using hm0
      have hma : m.natAbs ≠ 0 := by omega
      have htd := td10 m
      have hrec := ih (m.tdiv 10) (l ++ [48 + ((m.natAbs % 10 : Nat) : Int)]) (by simp; omega) (by rw [td_abs]; rw [Nat.pow_succ] at hm; omega) (by rw [hd, td_abs, dg, if_neg hma]; simp) (by intro h; rw [htd]; split <;> omega) (by intro h; rw [htd]; split <;> omega) (by rw [htd]; split <;> omega) (by rw [htd]; split <;> omega)
      have hw : IntKind.i64.wrap (m.tdiv 10) = m.tdiv 10 := wrap_in (k := .i64) (by show (-9223372036854775808 : Int) ≤ _; rw [htd]; split <;> omega) (by show _ ≤ (9223372036854775807 : Int); rw [htd]; split <;> omega)
      have htm := tm10 m
      have hsz := bs_size l.reverse
      rw [List.length_reverse] at hsz
      have hb : ∀ d : Int, bytesOf 1 (fun _ => [.p (.int .u8 (48 + d))]) = bs [48 + d] := fun d => rfl
      have hout : ∀ d : Int, d = ((m.natAbs % 10 : Nat) : Int) → bs [48 + d] ++ bs l.reverse = bs (l ++ [48 + ((m.natAbs % 10 : Nat) : Int)]).reverse := by
        intro d hd'
        rw [List.reverse_append, bs_append, hd']; rfl
      by_cases hneg : m.tmod 10 < 0
      · have hng : decide (m.tmod 10 < 0) = true := decide_eq_true hneg
        have hd' : 0 - m.tmod 10 = ((m.natAbs % 10 : Nat) : Int) := by rw [htm] at hneg ⊢; split at hneg <;> simp_all <;> omega
        refine piece_ok mixed hc (fSn m (m.tdiv 10) (bs l.reverse) (bs (l ++ [48 + ((m.natAbs % 10 : Nat) : Int)]).reverse) (decide (n < 0))) ?_ hrec
        simp only [All]
        repeat' (first | exact trivial | with_reducible apply And.intro)
        all_goals (first | omega | rfl | (intros; first | assumption | exact trivial | rfl | exact fT ‹_› | ((repeat' (first | assumption | apply anda | apply notf)); done)) | (exact hmt) | (exact hng) | (exact hw) | (intro i hi; exact ⟨_, rfl⟩) | (show (bs [48 + (0 - m.tmod 10)]).size + (bs l.reverse).size ≤ _; rw [hsz, bs_size]; show 1 + l.length ≤ _; omega) | (exact hout _ hd') | (show (_ : Int) ≤ _; rw [hd']; omega) | (simp only [imin, imax]; omega))
      · have hng : decide (m.tmod 10 < 0) = false := decide_eq_false hneg
        have hd' : m.tmod 10 = ((m.natAbs % 10 : Nat) : Int) := by rw [htm] at hneg ⊢; split at hneg <;> simp_all <;> omega
        refine piece_ok mixed hc (fSp m (m.tdiv 10) (bs l.reverse) (bs (l ++ [48 + ((m.natAbs % 10 : Nat) : Int)]).reverse) (decide (n < 0))) ?_ hrec
        simp only [All]
        repeat' (first | exact trivial | with_reducible apply And.intro)
        all_goals (first | omega | rfl | (intros; first | assumption | exact trivial | rfl | exact fT ‹_› | ((repeat' (first | assumption | apply anda | apply notf)); done)) | (exact hmt) | (exact hng) | (exact hw) | (intro i hi; exact ⟨_, rfl⟩) | (show (bs [48 + m.tmod 10]).size + (bs l.reverse).size ≤ _; rw [hsz, bs_size]; show 1 + l.length ≤ _; omega) | (exact hout _ hd') | (show (_ : Int) ≤ _; rw [hd']; omega) | (simp only [imin, imax]; omega))
  refine piece_ok mixed hc (fSz n (bs [])) ?_ (lp 20 n [] rfl (by omega) rfl (fun h => by omega) (fun h => h) h0 h1)
  simp only [All]
  repeat' (first | exact trivial | with_reducible apply And.intro)
  all_goals (first | omega | rfl | (intros; first | assumption | exact trivial | rfl | exact fT ‹_› | ((repeat' (first | assumption | apply anda | apply notf)); done)) | (exact hz') | rfl)
def lsI (n : Nat) (f : Nat → Int) : List Int := (List.range n).map f
theorem lsI_ap (n : Nat) (f : Nat → Int) (x : Int) : lsI (n + 1) (apF n f x) = lsI n f ++ [x] := by
  simp only [lsI, List.range_succ, List.map_append, List.map_cons, List.map_nil]
  congr 1
  · exact List.map_congr_left (fun i hi => by simp [apF, List.mem_range.1 hi])
  · simp [apF]
theorem lsI_rev (n : Nat) (f g : Nat → Int) (h : ∀ r, r < n → g r = f (n - 1 - r)) : lsI n g = (lsI n f).reverse := by
  apply List.ext_getElem
  · simp [lsI]
  · intro i h1 h2
    simp only [lsI, List.length_map, List.length_range] at h1
    simp [lsI, h i h1]
theorem con_FormatInt_i (n : Int) (h0 : -9223372036854775808 ≤ n) (h1 : n ≤ 9223372036854775807) : Con Tryz.prog 37 0 [] [.p (.int .i64 n)] [] (.p (.str (fmtI n))) := by
  refine con_start Tryz.func37 rfl (by kernel_rfl) rfl (fun c hc => ?_)
  by_cases hz : n = 0
  · subst hz
    refine path_ok mixed Tryz.func37 hc (fI0 0 (fmtI 0)) ?_
    simp only [All]
    repeat' (first | exact trivial | with_reducible apply And.intro)
    all_goals (first | omega | rfl | (intros; first | assumption | exact trivial | rfl | exact fT ‹_› | ((repeat' (first | assumption | apply anda | apply notf)); done)) | rfl | (exact ByteArray.ext (by rw [fmtI, if_pos rfl, bs_data]; rfl)))
  have hz' : (n == 0) = false := by simpa using hz
  have lr : ∀ L f0, L ≤ 21 → lsI L f0 = fmtL n → ∀ d i f, i + d = L → i ≤ L → 2 * i ≤ L + 1 → (∀ r, r < L → f r = if r < i ∨ L - i ≤ r then f0 (L - 1 - r) else f0 r) →
      Run Tryz.prog c 37 zf21 (SFr L i ((L : Int) - 1 - i) f) (Post c [] (.p (.str (fmtI n)))) := by
    intro L f0 hL hl d
    have fin : ∀ i f, i ≤ L → 2 * i ≤ L + 1 → L ≤ 2 * i + 1 → (∀ r, r < L → f r = if r < i ∨ L - i ≤ r then f0 (L - 1 - r) else f0 r) →
        Run Tryz.prog c 37 zf21 (SFr L i ((L : Int) - 1 - i) f) (Post c [] (.p (.str (fmtI n)))) := by
      intro i f hi hi2 hi3 hf
      have hd : decide ((i : Int) < (L : Int) - 1 - i) = false := decide_eq_false (by omega)
      have hrev : ∀ r, r < L → f r = f0 (L - 1 - r) := by
        intro r hr
        rw [hf r hr]
        split
        · rfl
        · rename_i h
          rw [show L - 1 - r = r by omega]
      have he := lsI_rev L f0 f hrev
      refine path_ok mixed Tryz.func37 hc (fIe L i ((L : Int) - 1 - i) f (fmtI n)) ?_
      simp only [All]
      repeat' (first | exact trivial | with_reducible apply And.intro)
      all_goals (first | omega | rfl | (intros; first | assumption | exact trivial | rfl | exact fT ‹_› | ((repeat' (first | assumption | apply anda | apply notf)); done)) | (exact hd) | (intro r hr; exact ⟨_, rfl⟩) | (rw [bytesOf_bs]; show bs (lsI L f) = _; rw [he, hl, fmtI, if_neg hz]))
    induction d with
    | zero =>
      intro i f hi hi1 hi2 hf
      exact fin i f hi1 hi2 (by omega) hf
    | succ d ih =>
      intro i f hi hi1 hi2 hf
      by_cases hlt : (i : Int) < (L : Int) - 1 - i
      · have hd : decide ((i : Int) < (L : Int) - 1 - i) = true := decide_eq_true hlt
        have hj : ((L : Int) - 1 - i).toNat = L - 1 - i := by omega
        have hrec := ih (i + 1) (swF i ((L : Int) - 1 - i).toNat f) (by omega) (by omega) (by omega) (by
          intro r hr
          rw [hj]
          unfold swF
          by_cases e1 : r = L - 1 - i
          · rw [if_pos e1, if_pos (by omega), hf i (by omega), if_neg (by omega), e1]
            rw [show L - 1 - (L - 1 - i) = i by omega]
          · rw [if_neg e1]
            by_cases e2 : r = i
            · rw [if_pos e2, if_pos (by omega), hf (L - 1 - i) (by omega), if_neg (by omega), e2]
            · rw [if_neg e2, hf r hr]
              by_cases e3 : r < i ∨ L - i ≤ r
              · rw [if_pos e3, if_pos (by omega)]
              · rw [if_neg e3, if_neg (by omega)])
        rw [show (L : Int) - 1 - ((i + 1 : Nat) : Int) = (L : Int) - 1 - i - 1 by omega] at hrec
        refine piece_ok mixed hc (fIs L i ((L : Int) - 1 - i) f) ?_ hrec
        simp only [All]
        repeat' (first | exact trivial | with_reducible apply And.intro)
        all_goals (first | omega | rfl | (intros; first | assumption | exact trivial | rfl | exact fT ‹_› | ((repeat' (first | assumption | apply anda | apply notf)); done)) | (exact hd) | (intro r hr; generalize ((L : Int) - 1 - i).toNat = J; by_cases e1 : r = J <;> by_cases e2 : r = i <;> (first | (subst e2; simp [e1, swF, cvtL, cvt, tg, tru, All]; done) | (simp [e1, e2, swF, cvtL, cvt, tg, tru, All]; done))) | (simp only [imin, imax]; omega))
      · exact fin i f hi1 hi2 (by omega) hf
  have lp : ∀ f m l g, l + f = 20 → m.natAbs < 10 ^ f → dg 20 n.natAbs = lsI l g ++ dg f m.natAbs → (n < 0 → m ≤ 0) → (0 ≤ n → 0 ≤ m) → -9223372036854775808 ≤ m → m ≤ 9223372036854775807 →
      Run Tryz.prog c 37 zf44 (SFi n m l g) (Post c [] (.p (.str (fmtI n)))) := by
    have fin : ∀ l g, dg 20 n.natAbs = lsI l g → l ≤ 20 → Run Tryz.prog c 37 zf44 (SFi n 0 l g) (Post c [] (.p (.str (fmtI n)))) := by
      intro l g hl hl2
      by_cases hn : n < 0
      · have hd : decide (n < 0) = true := decide_eq_true hn
        have hr := lr (l + 1) (apF l g 45) (by omega) (by rw [lsI_ap, fmtL, if_pos hn, hl]) (l + 1) 0 (apF l g 45) (by omega) (by omega) (by omega) (fun r hr => by rw [if_neg (by omega)])
        rw [show ((l + 1 : Nat) : Int) - 1 - ((0 : Nat) : Int) = ((l + 1 : Nat) : Int) - 1 by omega] at hr
        refine piece_ok mixed hc (fIt n 0 l g) ?_ hr
        simp only [All]
        repeat' (first | exact trivial | with_reducible apply And.intro)
        all_goals (first | omega | rfl | (intros; first | assumption | exact trivial | rfl | exact fT ‹_› | ((repeat' (first | assumption | apply anda | apply notf)); done)) | (exact hd) | (intro j hj; by_cases h' : j < l <;> simp [h', apF, cvtL, cvt, tg, tru, All]; done) | (simp only [imin, imax]; omega))
      · have hd : decide (n < 0) = false := decide_eq_false hn
        have hr := lr l g (by omega) (by rw [fmtL, if_neg hn, hl, List.append_nil]) l 0 g (by omega) (by omega) (by omega) (fun r hr => by rw [if_neg (by omega)])
        rw [show (l : Int) - 1 - ((0 : Nat) : Int) = (l : Int) - 1 by omega] at hr
        refine piece_ok mixed hc (fIf n 0 l g) ?_ hr
        simp only [All]
        repeat' (first | exact trivial | with_reducible apply And.intro)
        all_goals (first | exact aA _ _ | omega | rfl | (intros; first | assumption | exact trivial | rfl | exact fT ‹_› | ((repeat' (first | assumption | apply anda | apply notf)); done)) | (exact hd) | (intro j hj; simp [All, aEt]; done) | (simp only [imin, imax]; omega))
    intro f
    induction f with
    | zero =>
      intro m l g hl hm hd hs1 hs2 hb1 hb2
      obtain rfl : m = 0 := by simp at hm; omega
      exact fin l g (by rw [hd]; simp [dg]) (by omega)
    | succ f ih =>
      intro m l g hl hm hd hs1 hs2 hb1 hb2
      by_cases hm0 : m = 0
      · subst hm0
        exact fin l g (by rw [hd]; simp [dg]) (by omega)
      have hmt : (m != 0) = true := by simpa using hm0
      have hma : m.natAbs ≠ 0 := by omega
      have htd := td10 m
      have hrec := ih (m.tdiv 10) (l + 1) (apF l g (48 + ((m.natAbs % 10 : Nat) : Int))) (by omega) (by rw [td_abs]; rw [Nat.pow_succ] at hm; omega) (by rw [hd, td_abs, dg, if_neg hma, lsI_ap]; simp) (by intro h; rw [htd]; split <;> omega) (by intro h; rw [htd]; split <;> omega) (by rw [htd]; split <;> omega) (by rw [htd]; split <;> omega)
      have hw : IntKind.i64.wrap (m.tdiv 10) = m.tdiv 10 := wrap_in (k := .i64) (by show (-9223372036854775808 : Int) ≤ _; rw [htd]; split <;> omega) (by show _ ≤ (9223372036854775807 : Int); rw [htd]; split <;> omega)
      have htm := tm10 m
      by_cases hneg : m.tmod 10 < 0
      · have hng : decide (m.tmod 10 < 0) = true := decide_eq_true hneg
        have hd' : 0 - m.tmod 10 = ((m.natAbs % 10 : Nat) : Int) := by rw [htm] at hneg ⊢; split at hneg <;> simp_all <;> omega
        refine piece_ok mixed hc (fIn n m (m.tdiv 10) l g (48 + ((m.natAbs % 10 : Nat) : Int))) ?_ hrec
        simp only [All]
        repeat' (first | exact trivial | with_reducible apply And.intro)
        all_goals (first | omega | rfl | (intros; first | assumption | exact trivial | rfl | exact fT ‹_› | ((repeat' (first | assumption | apply anda | apply notf)); done)) | (exact hmt) | (exact hng) | (exact hw) | (intro j hj; by_cases h' : j < l <;> simp [h', hd', apF, cvtL, cvt, tg, tru, All]; done) | (show (_ : Int) ≤ _; rw [hd']; omega) | (simp only [imin, imax]; omega))
      · have hng : decide (m.tmod 10 < 0) = false := decide_eq_false hneg
        have hd' : m.tmod 10 = ((m.natAbs % 10 : Nat) : Int) := by rw [htm] at hneg ⊢; split at hneg <;> simp_all <;> omega
        refine piece_ok mixed hc (fIp n m (m.tdiv 10) l g (48 + ((m.natAbs % 10 : Nat) : Int))) ?_ hrec
        simp only [All]
        repeat' (first | exact trivial | with_reducible apply And.intro)
        all_goals (first | omega | rfl | (intros; first | assumption | exact trivial | rfl | exact fT ‹_› | ((repeat' (first | assumption | apply anda | apply notf)); done)) | (exact hmt) | (exact hng) | (exact hw) | (intro j hj; by_cases h' : j < l <;> simp [h', hd', apF, cvtL, cvt, tg, tru, All]; done) | (show (_ : Int) ≤ _; rw [hd']; omega) | (simp only [imin, imax]; omega))
  refine piece_ok mixed hc (fIz n) ?_ (lp 20 n 0 (fun _ => 0) rfl (by omega) (by simp [lsI]) (fun h => by omega) (fun h => h) h0 h1)
  simp only [All]
  repeat' (first | exact trivial | with_reducible apply And.intro)
  all_goals (first | exact aA _ _ | omega | rfl | (intros; first | assumption | exact trivial | rfl | exact fT ‹_› | ((repeat' (first | assumption | apply anda | apply notf)); done)) | (exact hz') | (intro j hj; exact absurd hj (Nat.not_lt_zero _)) | rfl)
end Go.Proofs.YtffnfeefjdmifaaGreat.Mach
namespace Go.Proofs.YtffnfeefjdmifaaGreat.Mach
open Go
set_option linter.unusedVariables false
set_option linter.unusedSimpArgs false
def sE : ByteArray := ⟨#[]⟩
def sC : ByteArray := ⟨#[44]⟩
def sSp : ByteArray := ⟨#[32]⟩
def sL : ByteArray := ⟨#[123]⟩
def sR : ByteArray := ⟨#[125]⟩
def sNone : ByteArray := ⟨#[110, 111, 110, 101]⟩
def strL (n : Nat) (f : Nat → ByteArray) : AV := .p (.seq true 1 n (fun i => [.str (f i)]))
def stOb (n : Nat) (f : Nat → ByteArray) : Ob := ⟨false, 1, n, fun i => [.p (.str (f i))]⟩
def setsL (n : Nat) (C : Nat → T_IntS) : AV := .p (.seq true 1 n (fun i => [.seq true 1 (C i).1 (fun s => [.int .i64 ((C i).2 s)])]))
def SJ (n : Nat) (f : Nat → ByteArray) (by_ : ByteArray) (k : Nat) (s : ByteArray) : St :=
  ⟨[strL n f, .p (.str by_), .p .any, .p .any, .p .any, .p (.str s), .p .any, .p .any, strL n f, .p (.int .i64 n), .p (.int .i64 k)] ++ List.replicate 14 anyA, [], 0⟩
def SNm (v : T_IntS) (k : Nat) (f : Nat → ByteArray) : St :=
  ⟨[inL v, .p .any, .p .any, .ar 1 0 0 k, .p .any, .p .any, .p .any, inL v, .p (.int .i64 v.1), .p (.int .i64 k)] ++ List.replicate 11 anyA, [(0, stOb k f)], 1⟩
def SFm (n : Nat) (C : Nat → T_IntS) (k : Nat) (f : Nat → ByteArray) : St :=
  ⟨[setsL n C, .p .any, .p .any, .ar 1 0 0 k] ++ List.replicate 6 anyA ++ [setsL n C, .p (.int .i64 n), .p (.int .i64 k)] ++ List.replicate 13 anyA, [(0, stOb k f)], 1⟩
def SFo (n : Nat) (C : Nat → T_IntS) (i : Nat) (s : ByteArray) : St :=
  ⟨[setsL n C, .p .any, .p .any, .p (.str s), .p (.int .i64 i)] ++ List.replicate 41 anyA, [], 0⟩
def SFn (n : Nat) (C : Nat → T_IntS) (i k : Nat) (s : ByteArray) : St :=
  ⟨[setsL n C, .p .any, .p .any, .p (.str s), .p (.int .i64 i), .p (.int .i64 k)] ++ List.replicate 40 anyA, [], 0⟩
theorem jJz (n : Nat) (f : Nat → ByteArray) (by_ : ByteArray) :
    pieceOb Tryz.prog 0 [rg 1, rg 1, rg 3, .head] [.code (bodyOf Tryz.f106)] (start Tryz.f106 [] 0 [strL n f, .p (.str by_)]) [] 1 (SJ n f by_ 0 sE) =
    some (zf57, [(AN n),(AP n (fun i => [.str (f i)])),(by_ = by_),(ByteArray.mk #[] = sE),(AN n),(AP n (fun i => [.str (f i)])),(AI ((↑n : Int))),((0 : Int) = (↑0 : Int))]) := by kernel_rfl
theorem jJt (n : Nat) (f : Nat → ByteArray) (by_ : ByteArray) (k : Nat) (s : ByteArray) :
    pieceOb Tryz.prog 0 [rg 1, .dec true, rg 5, rg 2, .dec true, rg 4, rg 4, rg 2, .head] zf57 (SJ n f by_ k s) [] 1 (SJ n f by_ (k + 1) ((s ++ by_) ++ f k)) =
    some (zf57, [((decide ((↑k : Int) < (↑n : Int))) = true),(IL 0 (↑k : Int)),(IT (↑k : Int) (↑n : Int)),((decide ((↑k : Int) > 0)) = true),(NL (s.size + by_.size) 9223372036854775807),(NL ((s ++ by_).size + (f k).size) 9223372036854775807),(R0 ((↑k : Int) + 1)),(R1 ((↑k : Int) + 1)),(AN n),(AP n (fun i => [.str (f i)])),(by_ = by_),(s ++ by_ ++ f k = s ++ by_ ++ f k),(AN n),(AP n (fun i => [.str (f i)])),(AI ((↑n : Int))),((((↑k : Int) + 1) : Int) = (↑(k + 1) : Int))]) := by kernel_rfl
theorem jJf (n : Nat) (f : Nat → ByteArray) (by_ : ByteArray) (k : Nat) (s : ByteArray) :
    pieceOb Tryz.prog 0 [rg 1, .dec true, rg 5, rg 2, .dec false, rg 4, rg 2, .head] zf57 (SJ n f by_ k s) [] 1 (SJ n f by_ (k + 1) (s ++ f k)) =
    some (zf57, [((decide ((↑k : Int) < (↑n : Int))) = true),(IL 0 (↑k : Int)),(IT (↑k : Int) (↑n : Int)),((decide ((↑k : Int) > 0)) = false),(NL (s.size + (f k).size) 9223372036854775807),(R0 ((↑k : Int) + 1)),(R1 ((↑k : Int) + 1)),(AN n),(AP n (fun i => [.str (f i)])),(by_ = by_),(s ++ f k = s ++ f k),(AN n),(AP n (fun i => [.str (f i)])),(AI ((↑n : Int))),((((↑k : Int) + 1) : Int) = (↑(k + 1) : Int))]) := by kernel_rfl
theorem jJe (n : Nat) (f : Nat → ByteArray) (by_ : ByteArray) (k : Nat) (s : ByteArray) :
    pathOb Tryz.prog Tryz.f106 0 [rg 1, .dec false, rg 2] zf57 (SJ n f by_ k s) [] 1 [] (.p (.str s)) =
    some [((decide ((↑k : Int) < (↑n : Int))) = false),(s = s)] := by kernel_rfl
theorem jNz (v : T_IntS) (f : Nat → ByteArray) :
    pieceOb Tryz.prog 0 [rg 1, rg 2, rg 3, .head] [.code (bodyOf Tryz.f108)] (start Tryz.f108 [] 0 [inL v]) [32] 1 (SNm v 0 f) =
    some (zf58, [(AN v.1),(AP v.1 (fun i => [.int .i64 (v.2 i)])),(AN 0),(AN 0),(AN v.1),(AP v.1 (fun i => [.int .i64 (v.2 i)])),(AI ((↑v.1 : Int))),((0 : Int) = (↑0 : Int)),(AN 1),(NL 0 0),(∀ i : Nat, (((i : Nat) < 0) → (All [] ∧ (([.p (.str (ByteArray.mk #[]))] : List AV) = [.p (.str (f i))]))))]) := by kernel_rfl
theorem jNt (v : T_IntS) (k : Nat) (f : Nat → ByteArray) (s : ByteArray) :
    pieceOb Tryz.prog 0 [rg 1, .dec true, rg 3, rm [(2, oc [] (.p (.str s)))] 3, rg 2, .head] zf58 (SNm v k f) [257] 1 (SNm v (k + 1) f) =
    some (zf58, [((decide ((↑k : Int) < (↑v.1 : Int))) = true),(IL 0 (↑k : Int)),(IT (↑k : Int) (↑v.1 : Int)),Con Tryz.prog 37 0 [] [.p (.int .i64 (v.2 k))] [] (.p (.str s)),(NL 1 1),(NL k k),(NL ((k + 1) * 16) 140737488355328),(NL (k + 1) 9223372036854775807),(R0 ((↑k : Int) + 1)),(R1 ((↑k : Int) + 1)),(AN v.1),(AP v.1 (fun i => [.int .i64 (v.2 i)])),(AN 0),(AN ((k + 1))),(AN v.1),(AP v.1 (fun i => [.int .i64 (v.2 i)])),(AI ((↑v.1 : Int))),((((↑k : Int) + 1) : Int) = (↑(k + 1) : Int)),(AN 1),(NL (k + 1) (k + 1)),(CV [(257, ⟨false, 1, (k + 1), (fun i_1 => (if (i_1 < k) then [.p (.str (f i_1))] else [.p (.str s)]))⟩), (225, ⟨false, 1, 1, (fun i_1 => [.p (.str s)])⟩)] [257] 1 (k + 1) (fun i => if (i < k) then [.p (.str (f i))] else [.p (.str s)]) (fun i => [.p (.str (f i))]))]) := by kernel_rfl
theorem jNe (v : T_IntS) (k : Nat) (f : Nat → ByteArray) (s : ByteArray) :
    pathOb Tryz.prog Tryz.f108 0 [rg 1, .dec false, rm [(1, oc [] (.p (.str s)))] 1] zf58 (SNm v k f) [] 1 [] (.p (.str s)) =
    some [((decide ((↑k : Int) < (↑v.1 : Int))) = false),(AN 1),(NL k k),Con Tryz.prog 106 0 [] [.p (.seq true 1 k (fun i => [.str (f i)])), .p (.str (ByteArray.mk #[44]))] [] (.p (.str s)),(s = s)] := by kernel_rfl
theorem jFn (n : Nat) (C : Nat → T_IntS) :
    pathOb Tryz.prog Tryz.f40 0 [rg 1, rg 3, .dec true, rg 1] [.code (bodyOf Tryz.f40)] (start Tryz.f40 [] 0 [setsL n C]) [] 1 [] (.p (.str sNone)) =
    some [(((↑n : Int) == 0) = true),(ByteArray.mk #[110, 111, 110, 101] = sNone)] := by kernel_rfl
theorem jFz (n : Nat) (C : Nat → T_IntS) (f : Nat → ByteArray) :
    pieceOb Tryz.prog 0 [rg 1, rg 3, .dec false, rg 2, rg 3, .head] [.code (bodyOf Tryz.f40)] (start Tryz.f40 [] 0 [setsL n C]) [128] 1 (SFm n C 0 f) =
    some (zf45, [(((↑n : Int) == 0) = false),(AN n),(AP n (fun i => [.seq true 1 ((C i).1) (fun i_1 => [.int .i64 ((C i).2 i_1)])])),(AN 0),(AN 0),(AN n),(AP n (fun i => [.seq true 1 ((C i).1) (fun i_1 => [.int .i64 ((C i).2 i_1)])])),(AI ((↑n : Int))),((0 : Int) = (↑0 : Int)),(AN 1),(NL 0 0),(∀ i : Nat, (((i : Nat) < 0) → (All [] ∧ (([.p (.str (ByteArray.mk #[]))] : List AV) = [.p (.str (f i))]))))]) := by kernel_rfl
theorem jFt (n : Nat) (C : Nat → T_IntS) (k : Nat) (f : Nat → ByteArray) (s : ByteArray) :
    pieceOb Tryz.prog 0 [rg 1, .dec true, rg 3, rm [(2, oc [] (.p (.str s)))] 5, rg 2, .head] zf45 (SFm n C k f) [321] 1 (SFm n C (k + 1) f) =
    some (zf45, [((decide ((↑k : Int) < (↑n : Int))) = true),(IL 0 (↑k : Int)),(IT (↑k : Int) (↑n : Int)),Con Tryz.prog 108 0 [] [.p (.seq true 1 ((C k).1) (fun i => [.int .i64 ((C k).2 i)]))] [] (.p (.str s)),(NL ((ByteArray.mk #[123]).size + s.size) 9223372036854775807),(NL ((ByteArray.mk #[123] ++ s).size + (ByteArray.mk #[125]).size) 9223372036854775807),(NL 1 1),(NL k k),(NL ((k + 1) * 16) 140737488355328),(NL (k + 1) 9223372036854775807),(R0 ((↑k : Int) + 1)),(R1 ((↑k : Int) + 1)),(AN n),(AP n (fun i => [.seq true 1 ((C i).1) (fun i_1 => [.int .i64 ((C i).2 i_1)])])),(AN 0),(AN ((k + 1))),(AN n),(AP n (fun i => [.seq true 1 ((C i).1) (fun i_1 => [.int .i64 ((C i).2 i_1)])])),(AI ((↑n : Int))),((((↑k : Int) + 1) : Int) = (↑(k + 1) : Int)),(AN 1),(NL (k + 1) (k + 1)),(CV [(321, ⟨false, 1, (k + 1), (fun i_1 => (if (i_1 < k) then [.p (.str (f i_1))] else [.p (.str (ByteArray.mk #[123] ++ s ++ ByteArray.mk #[125]))]))⟩), (289, ⟨false, 1, 1, (fun i_1 => [.p (.str (ByteArray.mk #[123] ++ s ++ ByteArray.mk #[125]))])⟩)] [321] 1 (k + 1) (fun i => if (i < k) then [.p (.str (f i))] else [.p (.str (ByteArray.mk #[123] ++ s ++ ByteArray.mk #[125]))]) (fun i => [.p (.str (f i))]))]) := by kernel_rfl
theorem jFe (n : Nat) (C : Nat → T_IntS) (k : Nat) (f : Nat → ByteArray) (s : ByteArray) :
    pathOb Tryz.prog Tryz.f40 0 [rg 1, .dec false, rm [(1, oc [] (.p (.str s)))] 1] zf45 (SFm n C k f) [] 1 [] (.p (.str s)) =
    some [((decide ((↑k : Int) < (↑n : Int))) = false),(AN 1),(NL k k),Con Tryz.prog 106 0 [] [.p (.seq true 1 k (fun i => [.str (f i)])), .p (.str (ByteArray.mk #[32]))] [] (.p (.str s)),(s = s)] := by kernel_rfl
theorem jGz (n : Nat) (C : Nat → T_IntS) :
    pieceOb Tryz.prog 0 [rg 1, rg 1, rg 1, .head] [.code (bodyOf Tryz.f26)] (start Tryz.f26 [] 0 [setsL n C]) [] 1 (SFo n C 0 sE) =
    some (zf66, [(AN n),(AP n (fun i => [.seq true 1 ((C i).1) (fun i_1 => [.int .i64 ((C i).2 i_1)])])),(ByteArray.mk #[] = sE),((0 : Int) = (↑0 : Int))]) := by kernel_rfl
theorem jGa (n : Nat) (C : Nat → T_IntS) (i : Nat) (s : ByteArray) :
    pieceOb Tryz.prog 0 [rg 4, .dec true, rg 2, .dec true, rg 3, rg 3, rg 1, .head] zf66 (SFo n C i s) [] 1 (SFn n C i 0 ((s ++ sSp) ++ sL)) =
    some (zf6, [((decide ((↑i : Int) < (↑n : Int))) = true),((decide ((↑i : Int) > 0)) = true),(NL (s.size + (ByteArray.mk #[32]).size) 9223372036854775807),(NL ((s ++ ByteArray.mk #[32]).size + (ByteArray.mk #[123]).size) 9223372036854775807),(AN n),(AP n (fun i_1 => [.seq true 1 ((C i_1).1) (fun i_2 => [.int .i64 ((C i_1).2 i_2)])])),(s ++ ByteArray.mk #[32] ++ ByteArray.mk #[123] = s ++ sSp ++ sL),(AI ((↑i : Int))),((0 : Int) = (↑0 : Int))]) := by kernel_rfl
theorem jGb (n : Nat) (C : Nat → T_IntS) (i : Nat) (s : ByteArray) :
    pieceOb Tryz.prog 0 [rg 4, .dec true, rg 2, .dec false, rg 3, rg 1, .head] zf66 (SFo n C i s) [] 1 (SFn n C i 0 (s ++ sL)) =
    some (zf6, [((decide ((↑i : Int) < (↑n : Int))) = true),((decide ((↑i : Int) > 0)) = false),(NL (s.size + (ByteArray.mk #[123]).size) 9223372036854775807),(AN n),(AP n (fun i_1 => [.seq true 1 ((C i_1).1) (fun i_2 => [.int .i64 ((C i_1).2 i_2)])])),(s ++ ByteArray.mk #[123] = s ++ sL),(AI ((↑i : Int))),((0 : Int) = (↑0 : Int))]) := by kernel_rfl
theorem jGc (n : Nat) (C : Nat → T_IntS) (i k : Nat) (s t : ByteArray) :
    pieceOb Tryz.prog 0 [rg 7, .dec true, rg 2, .dec true, rg 3, rm [(8, oc [] (.p (.str t)))] 2, rg 3, .head] zf6 (SFn n C i k s) [] 1 (SFn n C i (k + 1) ((s ++ sC) ++ t)) =
    some (zf6, [(IL 0 (↑i : Int)),(IT (↑i : Int) (↑n : Int)),((decide ((↑k : Int) < (↑(C (↑i : Int).toNat).1 : Int))) = true),((decide ((↑k : Int) > 0)) = true),(NL (s.size + (ByteArray.mk #[44]).size) 9223372036854775807),(IL 0 (↑i : Int)),(IT (↑i : Int) (↑n : Int)),(IL 0 (↑k : Int)),(IT (↑k : Int) (↑(C i).1 : Int)),Con Tryz.prog 23 0 [] [.p (.int .i64 ((C i).2 k))] [] (.p (.str t)),(NL ((s ++ ByteArray.mk #[44]).size + t.size) 9223372036854775807),(R0 ((↑k : Int) + 1)),(R1 ((↑k : Int) + 1)),(AN n),(AP n (fun i_1 => [.seq true 1 ((C i_1).1) (fun i_2 => [.int .i64 ((C i_1).2 i_2)])])),(s ++ ByteArray.mk #[44] ++ t = s ++ sC ++ t),(AI ((↑i : Int))),((((↑k : Int) + 1) : Int) = (↑(k + 1) : Int))]) := by kernel_rfl
theorem jGd (n : Nat) (C : Nat → T_IntS) (i k : Nat) (s t : ByteArray) :
    pieceOb Tryz.prog 0 [rg 7, .dec true, rg 2, .dec false, rm [(8, oc [] (.p (.str t)))] 2, rg 3, .head] zf6 (SFn n C i k s) [] 1 (SFn n C i (k + 1) (s ++ t)) =
    some (zf6, [(IL 0 (↑i : Int)),(IT (↑i : Int) (↑n : Int)),((decide ((↑k : Int) < (↑(C (↑i : Int).toNat).1 : Int))) = true),((decide ((↑k : Int) > 0)) = false),(IL 0 (↑i : Int)),(IT (↑i : Int) (↑n : Int)),(IL 0 (↑k : Int)),(IT (↑k : Int) (↑(C i).1 : Int)),Con Tryz.prog 23 0 [] [.p (.int .i64 ((C i).2 k))] [] (.p (.str t)),(NL (s.size + t.size) 9223372036854775807),(R0 ((↑k : Int) + 1)),(R1 ((↑k : Int) + 1)),(AN n),(AP n (fun i_1 => [.seq true 1 ((C i_1).1) (fun i_2 => [.int .i64 ((C i_1).2 i_2)])])),(s ++ t = s ++ t),(AI ((↑i : Int))),((((↑k : Int) + 1) : Int) = (↑(k + 1) : Int))]) := by kernel_rfl
theorem jGe (n : Nat) (C : Nat → T_IntS) (i k : Nat) (s : ByteArray) :
    pieceOb Tryz.prog 0 [rg 7, .dec false, rg 3, rg 3, .head] zf6 (SFn n C i k s) [] 1 (SFo n C (i + 1) (s ++ sR)) =
    some (zf66, [(IL 0 (↑i : Int)),(IT (↑i : Int) (↑n : Int)),((decide ((↑k : Int) < (↑(C (↑i : Int).toNat).1 : Int))) = false),(NL (s.size + (ByteArray.mk #[125]).size) 9223372036854775807),(R0 ((↑i : Int) + 1)),(R1 ((↑i : Int) + 1)),(AN n),(AP n (fun i_1 => [.seq true 1 ((C i_1).1) (fun i_2 => [.int .i64 ((C i_1).2 i_2)])])),(s ++ ByteArray.mk #[125] = s ++ sR),((((↑i : Int) + 1) : Int) = (↑(i + 1) : Int))]) := by kernel_rfl
theorem jGn (n : Nat) (C : Nat → T_IntS) (i : Nat) (s : ByteArray) :
    pathOb Tryz.prog Tryz.f26 0 [rg 4, .dec false, rg 2, .dec true, rg 1] zf66 (SFo n C i s) [] 1 [] (.p (.str sNone)) =
    some [((decide ((↑i : Int) < (↑n : Int))) = false),((s.toList == (ByteArray.mk #[]).toList) = true),(ByteArray.mk #[110, 111, 110, 101] = sNone)] := by kernel_rfl
theorem jGy (n : Nat) (C : Nat → T_IntS) (i : Nat) (s : ByteArray) :
    pathOb Tryz.prog Tryz.f26 0 [rg 4, .dec false, rg 2, .dec false, rg 2] zf66 (SFo n C i s) [] 1 [] (.p (.str s)) =
    some [((decide ((↑i : Int) < (↑n : Int))) = false),((s.toList == (ByteArray.mk #[]).toList) = false),(s = s)] := by kernel_rfl
theorem jKl (n : Nat) (f : Nat → ByteArray) (s : ByteArray) :
    pathOb Tryz.prog Tryz.f36 0 [rg 1, rm [(1, oc [] (.p (.str s)))] 1] [.code (bodyOf Tryz.f36)] (start Tryz.f36 [] 0 [strL n f]) [] 1 [] (.p (.str s)) =
    some [Con Tryz.prog 106 0 [] [.p (.seq true 1 n (fun i => [.str (f i)])), .p (.str (ByteArray.mk #[32]))] [] (.p (.str s)),(s = s)] := by kernel_rfl
theorem jSn (s : ByteArray) (n : Nat) (f : Nat → ByteArray) :
    pathOb Tryz.prog Tryz.f42 0 [rg 1, rg 2, .dec true, rg 2] [.code (bodyOf Tryz.f42)] (start Tryz.f42 [] 0 [.p (.str s), .p (.bool false), strL n f]) [] 1 [] (.p (.str s)) =
    some [((!false) = true),(s = s)] := by kernel_rfl
theorem jSy (s t : ByteArray) (n : Nat) (f : Nat → ByteArray) :
    pathOb Tryz.prog Tryz.f42 0 [rg 1, rg 2, .dec false, rm [(4, oc [] (.p (.str t)))] 1] [.code (bodyOf Tryz.f42)] (start Tryz.f42 [] 0 [.p (.str s), .p (.bool true), strL n f]) [] 1 [] (.p (.str t)) =
    some [((!true) = false),(NL 1 1),(NL ((1 + n) * 16) 140737488355328),(NL (1 + n) 9223372036854775807),(AN 1),(NL (1 + n) (1 + n)),Con Tryz.prog 36 0 [] [.p (.seq true 1 (1 + n) (fun i => [(cellP true (if (i < 1) then [.p (.str s)] else [.p (.str (f (i - 1)))]) 0)]))] [] (.p (.str t)),(t = t)] := by kernel_rfl
theorem jYy (s : ByteArray) :
    pathOb Tryz.prog Tryz.f28 0 [rg 1, rg 1, .dec true, rg 2] [.code (bodyOf Tryz.f28)] (start Tryz.f28 [] 0 [.p (.bool true), .p (.str s)]) [] 1 [] (.p (.str s)) =
    some [(true = true),(s = s)] := by kernel_rfl
theorem jYn (s : ByteArray) :
    pathOb Tryz.prog Tryz.f28 0 [rg 1, rg 1, .dec false, rg 1] [.code (bodyOf Tryz.f28)] (start Tryz.f28 [] 0 [.p (.bool false), .p (.str s)]) [] 1 [] (.p (.str sE)) =
    some [(false = false),(ByteArray.mk #[] = sE)] := by kernel_rfl
end Go.Proofs.YtffnfeefjdmifaaGreat.Mach
namespace Go.Proofs.YtffnfeefjdmifaaGreat.Mach
open Go
set_option linter.unusedVariables false
set_option linter.unusedSimpArgs false
def joinB (by_ : ByteArray) (f : Nat → ByteArray) : Nat → ByteArray
  | 0 => sE
  | n + 1 => (if 0 < n then joinB by_ f n ++ by_ else joinB by_ f n) ++ f n
theorem joinB_0 (by_ : ByteArray) (f : Nat → ByteArray) : joinB by_ f 0 = sE := rfl
theorem joinB_pos (by_ : ByteArray) (f : Nat → ByteArray) {n : Nat} (h : 0 < n) : joinB by_ f (n + 1) = (joinB by_ f n ++ by_) ++ f n := by simp [joinB, h]
theorem joinB_one (by_ : ByteArray) (f : Nat → ByteArray) : joinB by_ f (0 + 1) = sE ++ f 0 := rfl
theorem joinB_size (by_ : ByteArray) (f : Nat → ByteArray) (B : Nat) : ∀ n, (∀ i, i < n → (f i).size ≤ B) → (joinB by_ f n).size ≤ n * (B + by_.size)
  | 0, _ => (Nat.zero_le _ : 0 ≤ _)
  | n + 1, h => by
    have ih := joinB_size by_ f B n (fun i hi => h i (by omega))
    have := h n (by omega)
    simp only [joinB]
    rw [Nat.add_mul, ByteArray.size_append]
    split
    · rw [ByteArray.size_append]; omega
    · omega
theorem sE_app (s : ByteArray) : sE ++ s = s := ByteArray.empty_append
theorem app_sE (s : ByteArray) : s ++ sE = s := ByteArray.append_empty
theorem str_nil (s : ByteArray) : (s.toList == (ByteArray.mk #[]).toList) = decide (s.size = 0) := by
  rw [ByteArray.toList_eq, ByteArray.toList_eq]
  rw [Bool.eq_iff_iff]
  simp only [beq_iff_eq, decide_eq_true_eq]
  constructor
  · intro h
    show s.data.size = 0
    rw [← Array.length_toList, h]; rfl
  · intro h
    have : s.data.toList.length = 0 := by rw [Array.length_toList]; exact h
    rw [List.length_eq_zero_iff.1 this]
theorem con_glued (n : Nat) (f : Nat → ByteArray) (by_ : ByteArray) (B : Nat) (hn : n ≤ 1048577) (hB : B ≤ 1099511627776) (hby : by_.size ≤ 1000) (hf : ∀ i, i < n → (f i).size ≤ B) :
    Con Tryz.prog 106 0 [] [strL n f, .p (.str by_)] [] (.p (.str (joinB by_ f n))) := by
  have hsz : ∀ k, k ≤ n → (joinB by_ f k).size ≤ 1048577 * 1099511628776 := by
    intro k hk
    have h1 := joinB_size by_ f B k (fun i hi => hf i (by omega))
    have h2 : k * (B + by_.size) ≤ 1048577 * 1099511628776 := Nat.mul_le_mul (by omega) (by omega)
    omega
  refine con_start Tryz.func106 rfl (by kernel_rfl) rfl (fun c hc => ?_)
  have lo : ∀ d k, k + d = n → Run Tryz.prog c 106 zf57 (SJ n f by_ k (joinB by_ f k)) (Post c [] (.p (.str (joinB by_ f n)))) := by
    intro d
    induction d with
    | zero =>
      intro k hk
      obtain rfl : k = n := by omega
      have hd : decide ((k : Int) < (k : Int)) = false := by simp
      refine path_ok mixed Tryz.func106 hc (jJe k f by_ k _) ?_
      simp only [All]
      repeat' (first | exact trivial | with_reducible apply And.intro)
      all_goals (first | omega | rfl | (intros; first | assumption | exact trivial | rfl | exact fT ‹_› | ((repeat' (first | assumption | apply anda | apply notf)); done)) | (exact hd))
    | succ d ih =>
      intro k hk
      have hd : decide ((k : Int) < (n : Int)) = true := decide_eq_true (by omega)
      have hrec := ih (k + 1) (by omega)
      have h1 := hsz k (by omega)
      have h2 := hf k (by omega)
      by_cases h0 : 0 < k
      · have hg : decide ((k : Int) > 0) = true := decide_eq_true (by omega)
        rw [joinB_pos by_ f h0] at hrec
        generalize joinB by_ f k = s at hrec h1 ⊢
        refine piece_ok mixed hc (jJt n f by_ k s) ?_ hrec
        simp only [All]
        repeat' (first | exact trivial | with_reducible apply And.intro)
        all_goals (first | exact aP _ _ | omega | rfl | (intros; first | assumption | exact trivial | rfl | exact fT ‹_› | ((repeat' (first | assumption | apply anda | apply notf)); done)) | (exact hd) | (exact hg) | (rw [ByteArray.size_append]; omega) | (simp; omega))
      · obtain rfl : k = 0 := by omega
        have hg : decide (((0 : Nat) : Int) > 0) = false := by simp
        rw [joinB_one] at hrec
        rw [joinB_0] at h1 ⊢
        refine piece_ok mixed hc (jJf n f by_ 0 sE) ?_ hrec
        simp only [All]
        repeat' (first | exact trivial | with_reducible apply And.intro)
        all_goals (first | exact aP _ _ | omega | rfl | (intros; first | assumption | exact trivial | rfl | exact fT ‹_› | ((repeat' (first | assumption | apply anda | apply notf)); done)) | (exact hd) | (exact hg) | (simp; omega))
  refine piece_ok mixed hc (jJz n f by_) ?_ (lo n 0 (by omega))
  simp only [All]
  repeat' (first | exact trivial | with_reducible apply And.intro)
  all_goals (first | exact aP _ _ | omega | rfl | (intros; first | assumption | exact trivial | rfl | exact fT ‹_› | ((repeat' (first | assumption | apply anda | apply notf)); done)) | (simp; omega))
def In64 (v : T_IntS) : Prop := ∀ i, i < v.1 → -9223372036854775808 ≤ v.2 i ∧ v.2 i ≤ 9223372036854775807
def nmB (v : T_IntS) : ByteArray := joinB sC (fun i => fmtI (v.2 i)) v.1
theorem sC_size : sC.size = 1 := rfl
theorem nmB_size (v : T_IntS) : (nmB v).size ≤ v.1 * 22 := joinB_size sC _ 21 v.1 (fun i hi => fmt_size _)
theorem con_numbers (v : T_IntS) (hn : v.1 ≤ 1048576) (hv : In64 v) : Con Tryz.prog 108 0 [] [inL v] [] (.p (.str (nmB v))) := by
  have cg := con_glued v.1 (fun i => fmtI (v.2 i)) sC 21 (by omega) (by omega) (by rw [sC_size]; omega) (fun i hi => fmt_size _)
  refine con_start Tryz.func108 rfl (by kernel_rfl) rfl (fun c hc => ?_)
  have lo : ∀ d k, k + d = v.1 → Run Tryz.prog c 108 zf58 (SNm v k (fun i => fmtI (v.2 i))) (Post c [] (.p (.str (nmB v)))) := by
    intro d
    induction d with
    | zero =>
      intro k hk
      obtain rfl : k = v.1 := by omega
      have hd : decide ((v.1 : Int) < (v.1 : Int)) = false := by simp
      refine path_ok mixed Tryz.func108 hc (jNe v v.1 (fun i => fmtI (v.2 i)) (nmB v)) ?_
      simp only [All]
      repeat' (first | exact trivial | with_reducible apply And.intro)
      all_goals (first | omega | rfl | (intros; first | assumption | exact trivial | rfl | exact fT ‹_› | ((repeat' (first | assumption | apply anda | apply notf)); done)) | (exact hd) | (exact cg) | (intro t ht; simp [All, aEt]))
    | succ d ih =>
      intro k hk
      have hd : decide ((k : Int) < (v.1 : Int)) = true := decide_eq_true (by omega)
      have hvk := hv k (by omega)
      have cf := con_FormatInt_i (v.2 k) hvk.1 hvk.2
      refine piece_ok mixed hc (jNt v k (fun i => fmtI (v.2 i)) (fmtI (v.2 k))) ?_ (ih (k + 1) (by omega))
      simp only [All]
      repeat' (first | exact trivial | with_reducible apply And.intro)
      all_goals (first | exact aP _ _ | omega | rfl | (intros; first | assumption | exact trivial | rfl | exact fT ‹_› | ((repeat' (first | assumption | apply anda | apply notf)); done)) | (exact hd) | (exact cf) | (intro t ht; rcases Nat.lt_or_eq_of_le (Nat.le_of_lt_succ ht) with h' | h' <;> (simp [h', cvtL, cvt, tg, tru, All]; done)) | (simp; omega))
  refine piece_ok mixed hc (jNz v (fun i => fmtI (v.2 i))) ?_ (lo v.1 0 (by omega))
  simp only [All]
  repeat' (first | exact trivial | with_reducible apply And.intro)
  all_goals (first | exact aP _ _ | omega | rfl | (intros; first | assumption | exact trivial | rfl | exact fT ‹_› | ((repeat' (first | assumption | apply anda | apply notf)); done)) | (intro t ht; exact absurd ht (Nat.not_lt_zero _)) | (intro t ht; simp [All, aEt]) | (simp; omega))
def stB (v : T_IntS) : ByteArray := (sL ++ nmB v) ++ sR
def fsB (n : Nat) (C : Nat → T_IntS) : ByteArray := if n = 0 then sNone else joinB sSp (fun i => stB (C i)) n
theorem stB_size (v : T_IntS) : (stB v).size ≤ v.1 * 22 + 2 ∧ 2 ≤ (stB v).size := by
  have := nmB_size v
  unfold stB
  rw [ByteArray.size_append, ByteArray.size_append]
  show 1 + _ + 1 ≤ _ ∧ 2 ≤ 1 + _ + 1
  omega
theorem con_FormatSets_i (n : Nat) (C : Nat → T_IntS) (hn : n ≤ 1048576) (hC : ∀ i, i < n → (C i).1 ≤ 1048576 ∧ In64 (C i)) : Con Tryz.prog 40 0 [] [setsL n C] [] (.p (.str (fsB n C))) := by
  have cg := con_glued n (fun i => stB (C i)) sSp 30000000 (by omega) (by omega) (by show 1 ≤ 1000; omega) (fun i hi => by have := stB_size (C i); have := hC i hi; omega)
  refine con_start Tryz.func40 rfl (by kernel_rfl) rfl (fun c hc => ?_)
  by_cases h0 : n = 0
  · have hd : ((n : Int) == 0) = true := by rw [h0]; rfl
    rw [show fsB n C = sNone by simp [fsB, h0]]
    refine path_ok mixed Tryz.func40 hc (jFn n C) ?_
    simp only [All]
    repeat' (first | exact trivial | with_reducible apply And.intro)
    all_goals (first | omega | rfl | (intros; first | assumption | exact trivial | rfl | exact fT ‹_› | ((repeat' (first | assumption | apply anda | apply notf)); done)) | (exact hd))
  · have hd0 : ((n : Int) == 0) = false := beq_eq_false_iff_ne.2 (by omega)
    rw [show fsB n C = joinB sSp (fun i => stB (C i)) n by simp [fsB, h0]]
    have lo : ∀ d k, k + d = n → Run Tryz.prog c 40 zf45 (SFm n C k (fun i => stB (C i))) (Post c [] (.p (.str (joinB sSp (fun i => stB (C i)) n)))) := by
      intro d
      induction d with
      | zero =>
        intro k hk
        obtain rfl : k = n := by omega
        have hd : decide ((k : Int) < (k : Int)) = false := by simp
        refine path_ok mixed Tryz.func40 hc (jFe k C k (fun i => stB (C i)) _) ?_
        simp only [All]
        repeat' (first | exact trivial | with_reducible apply And.intro)
        all_goals (first | omega | rfl | (intros; first | assumption | exact trivial | rfl | exact fT ‹_› | ((repeat' (first | assumption | apply anda | apply notf)); done)) | (exact hd) | (exact cg) | (intro t ht; simp [All, aEt]))
      | succ d ih =>
        intro k hk
        have hd : decide ((k : Int) < (n : Int)) = true := decide_eq_true (by omega)
        have hCk := hC k (by omega)
        have cn := con_numbers (C k) hCk.1 hCk.2
        have h1 := nmB_size (C k)
        have e : stB (C k) = ByteArray.mk #[123] ++ nmB (C k) ++ ByteArray.mk #[125] := rfl
        refine piece_ok mixed hc (jFt n C k (fun i => stB (C i)) (nmB (C k))) ?_ (ih (k + 1) (by omega))
        simp only [All]
        repeat' (first | exact trivial | with_reducible apply And.intro)
        all_goals (first | exact aP _ _ | omega | rfl | (intros; first | assumption | exact trivial | rfl | exact fT ‹_› | ((repeat' (first | assumption | apply anda | apply notf)); done)) | (exact hd) | (exact cn) | (show 1 + _ ≤ _; omega) | (rw [ByteArray.size_append]; show 1 + _ + 1 ≤ _; omega) | (intro t ht; rcases Nat.lt_or_eq_of_le (Nat.le_of_lt_succ ht) with h' | h' <;> (simp [h', e, cvtL, cvt, tg, tru, All]; done)) | (simp; omega))
    refine piece_ok mixed hc (jFz n C (fun i => stB (C i))) ?_ (lo n 0 (by omega))
    simp only [All]
    repeat' (first | exact trivial | with_reducible apply And.intro)
    all_goals (first | exact aP _ _ | omega | rfl | (intros; first | assumption | exact trivial | rfl | exact fT ‹_› | ((repeat' (first | assumption | apply anda | apply notf)); done)) | (exact hd0) | (intro t ht; exact absurd ht (Nat.not_lt_zero _)) | (intro t ht; simp [All, aEt]) | (simp; omega))
set_option maxRecDepth 4000 in
theorem con_FormatSets_s (n : Nat) (C : Nat → T_IntS) (hn : n ≤ 1048576) (hC : ∀ i, i < n → (C i).1 ≤ 1048576 ∧ In64 (C i)) : Con Tryz.prog 26 0 [] [setsL n C] [] (.p (.str (fsB n C))) := by
  refine con_start Tryz.func26 rfl (by kernel_rfl) rfl (fun c hc => ?_)
  let F : Nat → ByteArray := fun i => stB (C i)
  have hsz : ∀ k, k ≤ n → (joinB sSp F k).size ≤ k * 30000001 := fun k hk => joinB_size sSp F 30000000 k (fun i hi => by have := stB_size (C i); have := hC i (by omega); show (stB (C i)).size ≤ _; omega)
  have li : ∀ i, i < n → ∀ s : ByteArray, s.size ≤ 40000000000000 → (Run Tryz.prog c 26 zf66 (SFo n C (i + 1) ((s ++ nmB (C i)) ++ sR)) (Post c [] (.p (.str (fsB n C))))) →
      ∀ d k, k + d = (C i).1 → Run Tryz.prog c 26 zf6 (SFn n C i k (s ++ joinB sC (fun j => fmtI ((C i).2 j)) k)) (Post c [] (.p (.str (fsB n C)))) := by
    intro i hi s hs hk d
    have hCi := hC i hi
    have hz : ∀ k, (joinB sC (fun j => fmtI ((C i).2 j)) k).size ≤ k * 22 := fun k => joinB_size sC _ 21 k (fun j hj => fmt_size _)
    induction d with
    | zero =>
      intro k hkn
      obtain rfl : k = (C i).1 := by omega
      have hd : decide (((C i).1 : Int) < ((C i).1 : Int)) = false := by simp
      have h1 := hz (C i).1
      refine piece_ok mixed hc (jGe n C i (C i).1 _) ?_ hk
      simp only [All]
      repeat' (first | exact trivial | with_reducible apply And.intro)
      all_goals (first | exact aP _ _ | omega | rfl | (intros; first | assumption | exact trivial | rfl | exact fT ‹_› | ((repeat' (first | assumption | apply anda | apply notf)); done)) | (exact hd) | (rw [ByteArray.size_append]; show _ + _ + 1 ≤ _; omega) | (simp; omega))
    | succ d ih =>
      intro k hkn
      have hd : decide ((k : Int) < ((C i).1 : Int)) = true := decide_eq_true (by omega)
      have hrec := ih (k + 1) (by omega)
      have hvk := hCi.2 k (by omega)
      have cf := con_FormatInt_s ((C i).2 k) hvk.1 hvk.2
      have h1 := hz k
      have h2 := fmt_size ((C i).2 k)
      by_cases h0 : 0 < k
      · have hg : decide ((k : Int) > 0) = true := decide_eq_true (by omega)
        rw [joinB_pos sC _ h0, ← ByteArray.append_assoc, ← ByteArray.append_assoc] at hrec
        generalize joinB sC (fun j => fmtI ((C i).2 j)) k = q at hrec h1 ⊢
        refine piece_ok mixed hc (jGc n C i k (s ++ q) (fmtI ((C i).2 k))) ?_ hrec
        simp only [All]
        repeat' (first | exact trivial | with_reducible apply And.intro)
        all_goals (first | exact aP _ _ | omega | rfl | (intros; first | assumption | exact trivial | rfl | exact fT ‹_› | ((repeat' (first | assumption | apply anda | apply notf)); done)) | (exact hd) | (exact hg) | (exact cf) | (rw [ByteArray.size_append]; show _ + 1 ≤ _; omega) | (rw [ByteArray.size_append, ByteArray.size_append]; show _ + 1 + _ ≤ _; omega) | (simp; omega))
      · obtain rfl : k = 0 := by omega
        have hg : decide (((0 : Nat) : Int) > 0) = false := by simp
        rw [joinB_one, sE_app] at hrec
        rw [joinB_0, app_sE]
        refine piece_ok mixed hc (jGd n C i 0 s (fmtI ((C i).2 0))) ?_ hrec
        simp only [All]
        repeat' (first | exact trivial | with_reducible apply And.intro)
        all_goals (first | exact aP _ _ | omega | rfl | (intros; first | assumption | exact trivial | rfl | exact fT ‹_› | ((repeat' (first | assumption | apply anda | apply notf)); done)) | (exact hd) | (exact hg) | (exact cf) | (simp; omega))
  have lo : ∀ d i, i + d = n → Run Tryz.prog c 26 zf66 (SFo n C i (joinB sSp F i)) (Post c [] (.p (.str (fsB n C)))) := by
    intro d
    induction d with
    | zero =>
      intro i hi
      obtain rfl : i = n := by omega
      have hd : decide ((i : Int) < (i : Int)) = false := by simp
      have hs := str_nil (joinB sSp F i)
      by_cases h0 : i = 0
      · rw [show fsB i C = sNone by simp [fsB, h0]]
        rw [decide_eq_true (by rw [h0]; rfl)] at hs
        refine path_ok mixed Tryz.func26 hc (jGn i C i _) ?_
        simp only [All]
        repeat' (first | exact trivial | with_reducible apply And.intro)
        all_goals (first | omega | rfl | (intros; first | assumption | exact trivial | rfl | exact fT ‹_› | ((repeat' (first | assumption | apply anda | apply notf)); done)) | (exact hd) | (exact hs))
      · rw [show fsB i C = joinB sSp F i by simp only [fsB, h0, if_false]; rfl]
        have hp : 0 < (joinB sSp F i).size := by
          obtain ⟨m, rfl⟩ : ∃ m, i = m + 1 := ⟨i - 1, by omega⟩
          simp only [joinB]
          rw [ByteArray.size_append]
          have h3 := stB_size (C m)
          show 0 < _ + (stB (C m)).size
          omega
        rw [decide_eq_false (by omega)] at hs
        refine path_ok mixed Tryz.func26 hc (jGy i C i _) ?_
        simp only [All]
        repeat' (first | exact trivial | with_reducible apply And.intro)
        all_goals (first | omega | rfl | (intros; first | assumption | exact trivial | rfl | exact fT ‹_› | ((repeat' (first | assumption | apply anda | apply notf)); done)) | (exact hd) | (exact hs))
    | succ d ih =>
      intro i hi
      have hd : decide ((i : Int) < (n : Int)) = true := decide_eq_true (by omega)
      have hrec := ih (i + 1) (by omega)
      have h1 := hsz i (by omega)
      by_cases h0 : 0 < i
      · have hg : decide ((i : Int) > 0) = true := decide_eq_true (by omega)
        rw [joinB_pos sSp F h0] at hrec
        have e : (joinB sSp F i ++ sSp) ++ F i = (((joinB sSp F i ++ sSp) ++ sL) ++ nmB (C i)) ++ sR := by
          show (joinB sSp F i ++ sSp) ++ ((sL ++ nmB (C i)) ++ sR) = _
          simp only [ByteArray.append_assoc]
        rw [e] at hrec
        have hnx := li i (by omega) ((joinB sSp F i ++ sSp) ++ sL) (by rw [ByteArray.size_append, ByteArray.size_append]; show _ + 1 + 1 ≤ _; omega) hrec (C i).1 0 (by omega)
        rw [joinB_0, app_sE] at hnx
        generalize joinB sSp F i = q at hnx h1 ⊢
        refine piece_ok mixed hc (jGa n C i q) ?_ hnx
        simp only [All]
        repeat' (first | exact trivial | with_reducible apply And.intro)
        all_goals (first | exact aP _ _ | omega | rfl | (intros; first | assumption | exact trivial | rfl | exact fT ‹_› | ((repeat' (first | assumption | apply anda | apply notf)); done)) | (exact hd) | (exact hg) | (show _ + 1 ≤ _; omega) | (rw [ByteArray.size_append]; show _ + 1 + 1 ≤ _; omega) | (simp; omega))
      · obtain rfl : i = 0 := by omega
        have hg : decide (((0 : Nat) : Int) > 0) = false := by simp
        rw [joinB_one] at hrec
        have e : sE ++ F 0 = ((sE ++ sL) ++ nmB (C 0)) ++ sR := by
          show sE ++ ((sL ++ nmB (C 0)) ++ sR) = _
          simp only [ByteArray.append_assoc]
        rw [e] at hrec
        have hnx := li 0 (by omega) (sE ++ sL) (by show 1 ≤ _; omega) hrec (C 0).1 0 (by omega)
        rw [joinB_0, app_sE] at hnx
        rw [joinB_0]
        refine piece_ok mixed hc (jGb n C 0 sE) ?_ hnx
        simp only [All]
        repeat' (first | exact trivial | with_reducible apply And.intro)
        all_goals (first | exact aP _ _ | omega | rfl | (intros; first | assumption | exact trivial | rfl | exact fT ‹_› | ((repeat' (first | assumption | apply anda | apply notf)); done)) | (exact hd) | (exact hg) | (show 0 + 1 ≤ _; omega) | (simp; omega))
  refine piece_ok mixed hc (jGz n C) ?_ (lo n 0 (by omega))
  simp only [All]
  repeat' (first | exact trivial | with_reducible apply And.intro)
  all_goals (first | exact aP _ _ | omega | rfl | (intros; first | assumption | exact trivial | rfl | exact fT ‹_› | ((repeat' (first | assumption | apply anda | apply notf)); done)) | (simp; omega))
def prB (s : ByteArray) (f : Nat → ByteArray) (i : Nat) : ByteArray := if i < 1 then s else f (i - 1)
theorem con_line (n : Nat) (f : Nat → ByteArray) (B : Nat) (hn : n ≤ 1048577) (hB : B ≤ 1099511627776) (hf : ∀ i, i < n → (f i).size ≤ B) : Con Tryz.prog 36 0 [] [strL n f] [] (.p (.str (joinB sSp f n))) := by
  have cg := con_glued n f sSp B hn hB (by show 1 ≤ 1000; omega) hf
  refine con_start Tryz.func36 rfl (by kernel_rfl) rfl (fun c hc => ?_)
  refine path_ok mixed Tryz.func36 hc (jKl n f _) ?_
  simp only [All]
  repeat' (first | exact trivial | with_reducible apply And.intro)
  all_goals (first | omega | rfl | (intros; first | assumption | exact trivial | rfl | exact fT ‹_› | ((repeat' (first | assumption | apply anda | apply notf)); done)) | (exact cg))
def soB (s : ByteArray) (is : Bool) (n : Nat) (f : Nat → ByteArray) : ByteArray := if is = true then joinB sSp (prB s f) (1 + n) else s
theorem con_ifSo (s : ByteArray) (is : Bool) (n : Nat) (f : Nat → ByteArray) (B : Nat) (hn : n ≤ 1048576) (hB : B ≤ 1099511627776) (hs : s.size ≤ B) (hf : ∀ i, i < n → (f i).size ≤ B) :
    Con Tryz.prog 42 0 [] [.p (.str s), .p (.bool is), strL n f] [] (.p (.str (soB s is n f))) := by
  refine con_start Tryz.func42 rfl (by kernel_rfl) rfl (fun c hc => ?_)
  cases is with
  | false =>
    rw [show soB s false n f = s by simp [soB]]
    refine path_ok mixed Tryz.func42 hc (jSn s n f) ?_
    simp only [All]
    repeat' (first | exact trivial | with_reducible apply And.intro)
    all_goals (first | omega | rfl | (intros; first | assumption | exact trivial | rfl | exact fT ‹_› | ((repeat' (first | assumption | apply anda | apply notf)); done)) | rfl)
  | true =>
    rw [show soB s true n f = joinB sSp (prB s f) (1 + n) by simp [soB]]
    have cl := con_line (1 + n) (prB s f) B (by omega) hB (fun i hi => by
      unfold prB
      split
      · exact hs
      · exact hf _ (by omega))
    have e : (.p (.seq true 1 (1 + n) (fun i => [cellP true (if i < 1 then [.p (.str s)] else [.p (.str (f (i - 1)))]) 0])) : AV) = strL (1 + n) (prB s f) := by
      unfold strL prB
      congr 2
      funext i
      by_cases h : i < 1 <;> simp [h, cellP, tg, tru]
    rw [← e] at cl
    refine path_ok mixed Tryz.func42 hc (jSy s _ n f) ?_
    simp only [All]
    repeat' (first | exact trivial | with_reducible apply And.intro)
    all_goals (first | omega | rfl | (intros; first | assumption | exact trivial | rfl | exact fT ‹_› | ((repeat' (first | assumption | apply anda | apply notf)); done)) | rfl | (exact cl) | (simp; omega))
def yesB (b : Bool) (s : ByteArray) : ByteArray := if b = true then s else sE
theorem con_l34Yes (b : Bool) (s : ByteArray) : Con Tryz.prog 28 0 [] [.p (.bool b), .p (.str s)] [] (.p (.str (yesB b s))) := by
  refine con_start Tryz.func28 rfl (by kernel_rfl) rfl (fun c hc => ?_)
  cases b with
  | false =>
    refine path_ok mixed Tryz.func28 hc (jYn s) ?_
    simp only [All]
    repeat' (first | exact trivial | with_reducible apply And.intro)
    all_goals (first | omega | rfl | (intros; first | assumption | exact trivial | rfl | exact fT ‹_› | ((repeat' (first | assumption | apply anda | apply notf)); done)) | rfl)
  | true =>
    refine path_ok mixed Tryz.func28 hc (jYy s) ?_
    simp only [All]
    repeat' (first | exact trivial | with_reducible apply And.intro)
    all_goals (first | omega | rfl | (intros; first | assumption | exact trivial | rfl | exact fT ‹_› | ((repeat' (first | assumption | apply anda | apply notf)); done)) | rfl)
end Go.Proofs.YtffnfeefjdmifaaGreat.Mach
namespace Go.Proofs.YtffnfeefjdmifaaGreat.Mach
open Go
set_option linter.unusedVariables false
set_option linter.unusedSimpArgs false
def wdRank : ByteArray := ⟨#[114, 97, 110, 107]⟩
def wsRank : ByteArray := ⟨#[114, 97, 110, 107, 32]⟩
end Go.Proofs.YtffnfeefjdmifaaGreat.Mach
namespace Go.Proofs.YtffnfeefjdmifaaGreat.Mach
open Go
set_option linter.unusedVariables false
set_option linter.unusedSimpArgs false
def lsF (n : Nat) (ss : List ByteArray) (i : Nat) : ByteArray := ss.getD (rowIx n i) sE
def stA (s : ByteArray) : AV := .p (.str s)
theorem cell_ls : ∀ (ss : List ByteArray) (n i : Nat), rowIx n i < ss.length → cellP true [(List.getD (ss.map stA) (rowIx n i * 1) (.p .any))] 0 = .str (lsF n ss i) := by
  intro ss n i h
  unfold lsF
  rw [Nat.mul_one]
  generalize rowIx n i = k at h ⊢
  rw [List.getD_eq_getElem?_getD, List.getD_eq_getElem?_getD, List.getElem?_map]
  rw [List.getElem?_eq_getElem h]
  rfl
def lsP (n : Nat) (ss : List ByteArray) : AV := .p (.seq true 1 n (fun i => [cellP true [(List.getD (ss.map stA) (rowIx n i * 1) (.p .any))] 0]))
theorem ls_mem (n : Nat) (ss : List ByteArray) (h : ss.length = n) (B : Nat) (hs : ∀ s ∈ ss, s.size ≤ B) : ∀ i, i < n → (lsF n ss i).size ≤ B := by
  intro i hi
  unfold lsF
  rw [rowIx_lt hi]
  have : ss.getD i sE = ss[i] := by rw [List.getD_eq_getElem?_getD, List.getElem?_eq_getElem (by omega)]; rfl
  rw [this]
  exact hs _ (List.getElem_mem _)
theorem con_line_ls (n : Nat) (ss : List ByteArray) (h : ss.length = n) (h3 : n ≤ 1000) (B : Nat) (hB : B ≤ 1099511627776) (hs : ∀ s ∈ ss, s.size ≤ B) :
    Con Tryz.prog 36 0 [] [lsP n ss] [] (.p (.str (joinB sSp (lsF n ss) n))) := by
  have hc := con_line n (lsF n ss) B (by omega) hB (ls_mem n ss h B hs)
  refine hc.arg_ext ?_
  simp only [lsP, strL, wkL, wk, wkP, beq_self_eq_true, Bool.and_self, if_true, ikEq, List.append_nil, List.cons_append, List.nil_append, All]
  have hcell : ∀ i, i < n → cellP true [(List.getD (ss.map stA) (rowIx n i * 1) (.p .any))] 0 = .str (lsF n ss i) := fun i hi => cell_ls ss n i (by rw [rowIx_lt hi]; omega)
  and_intros <;> first | trivial | omega | (intro i hi; rw [hcell i hi])
theorem con_ifSo_ls (s : ByteArray) (is : Bool) (n : Nat) (ss : List ByteArray) (h : ss.length = n) (h3 : n ≤ 1000) (B : Nat) (hB : B ≤ 1099511627776) (hz : s.size ≤ B) (hs : ∀ s ∈ ss, s.size ≤ B) :
    Con Tryz.prog 42 0 [] [.p (.str s), .p (.bool is), lsP n ss] [] (.p (.str (soB s is n (lsF n ss)))) := by
  have hc := con_ifSo s is n (lsF n ss) B (by omega) hB hz (ls_mem n ss h B hs)
  refine hc.arg_ext ?_
  simp only [lsP, strL, wkL, wk, wkP, beq_self_eq_true, Bool.and_self, if_true, ikEq, List.append_nil, List.cons_append, List.nil_append, All]
  have hcell : ∀ i, i < n → cellP true [(List.getD (ss.map stA) (rowIx n i * 1) (.p .any))] 0 = .str (lsF n ss i) := fun i hi => cell_ls ss n i (by rw [rowIx_lt hi]; omega)
  and_intros <;> first | trivial | omega | (intro i hi; rw [hcell i hi])
theorem soB_f (s : ByteArray) (n : Nat) (f : Nat → ByteArray) : soB s false n f = s := rfl
theorem soB_1 (s : ByteArray) (f : Nat → ByteArray) : soB s true 1 f = (s ++ sSp) ++ f 0 := by
  show (if 0 < 1 then (sE ++ s) ++ sSp else _) ++ f 0 = _
  rw [if_pos (by omega), sE_app]
theorem join_2 (by_ : ByteArray) (f : Nat → ByteArray) : joinB by_ f 2 = (f 0 ++ by_) ++ f 1 := by
  show (if 0 < 1 then (sE ++ f 0) ++ by_ else _) ++ f 1 = _
  rw [if_pos (by omega), sE_app]
theorem join_3 (by_ : ByteArray) (f : Nat → ByteArray) : joinB by_ f 3 = (((f 0 ++ by_) ++ f 1) ++ by_) ++ f 2 := by
  show (if 0 < 2 then ((if 0 < 1 then (sE ++ f 0) ++ by_ else _) ++ f 1) ++ by_ else _) ++ f 2 = _
  rw [if_pos (by omega), if_pos (by omega), sE_app]
theorem ws_rank : wsRank = wdRank ++ sSp := rfl
theorem yes_size (b : Bool) (s : ByteArray) : (yesB b s).size ≤ s.size := by
  cases b with
  | false => exact Nat.zero_le _
  | true => exact Nat.le_refl _
end Go.Proofs.YtffnfeefjdmifaaGreat.Mach
namespace Go.Proofs.YtffnfeefjdmifaaGreat.Mach
open Go
set_option linter.unusedVariables false
set_option linter.unusedSimpArgs false
def wdFree : ByteArray := ⟨#[102, 114, 101, 101, 100, 111, 109]⟩
def wdParts : ByteArray := ⟨#[112, 97, 114, 116, 115]⟩
def wdRigid : ByteArray := ⟨#[114, 105, 103, 105, 100]⟩
def wdMin : ByteArray := ⟨#[109, 105, 110, 105, 109, 97, 108]⟩
def wdRedu : ByteArray := ⟨#[114, 101, 100, 117, 110, 100, 97, 110, 116]⟩
def wdGlob : ByteArray := ⟨#[103, 108, 111, 98, 97, 108]⟩
def wdConn : ByteArray := ⟨#[99, 111, 110, 110, 101, 99, 116, 101, 100]⟩
def wsFree : ByteArray := ⟨#[32, 102, 114, 101, 101, 100, 111, 109, 32]⟩
def wsParts : ByteArray := ⟨#[32, 112, 97, 114, 116, 115, 32]⟩
def wsRigid : ByteArray := ⟨#[32, 114, 105, 103, 105, 100]⟩
def wsMin : ByteArray := ⟨#[32, 109, 105, 110, 105, 109, 97, 108]⟩
def wsRedu : ByteArray := ⟨#[32, 114, 101, 100, 117, 110, 100, 97, 110, 116]⟩
def wsGlob : ByteArray := ⟨#[32, 103, 108, 111, 98, 97, 108]⟩
def wsConn : ByteArray := ⟨#[32, 99, 111, 110, 110, 101, 99, 116, 101, 100, 32]⟩
theorem ggn (v : T_Graph) :
    pathOb Tryz.prog Tryz.f9 0 [rg 2, rm [(1, oc [] (.p (.bool false)))] 1, .dec true, rg 1] [.code (bodyOf Tryz.f9)] (start Tryz.f9 [] 0 [graphA v]) [] 1 [] (.p (.str kwE)) =
    some [(NT 0 1),Con Tryz.prog 35 0 [] [(zf75 v)] [] (.p (.bool false)),((!false) = true),(ByteArray.mk #[] = kwE)] := by kernel_rfl
theorem gsn (v : T_Graph) :
    pathOb Tryz.prog Tryz.f7 0 [rg 2, rm [(1, oc [] (.p (.bool false)))] 1, .dec true, rg 1] [.code (bodyOf Tryz.f7)] (start Tryz.f7 [] 0 [graphA v]) [] 1 [] (.p (.str kwE)) =
    some [(NT 0 1),Con Tryz.prog 22 0 [] [(zf75 v)] [] (.p (.bool false)),((!false) = true),(ByteArray.mk #[] = kwE)] := by kernel_rfl
theorem ggy (g : Nat → T_Bar) (nb N cn : Nat) (r fd k : Int) (C : Nat → T_IntS) (b1 b2 b3 b4 : Bool) (fr ff fs s1 s2 s3 s4 s5 fk s6 : ByteArray) :
    pathOb Tryz.prog Tryz.f9 0 [rg 2, rm [(1, oc [] (.p (.bool true)))] 1, .dec false, rm [(1, oc [] (.p (.int .i64 r))), (0, oc [] (.p (.str fr))), (1, oc [] (.p (.int .i64 fd))), (0, oc [] (.p (.str ff))), (1, oc [(0, ssOb cn C)] (.ar 1 0 0 cn)), (0, ⟨true, (some ⟨[], [], [], 2, [], .p (.str fs)⟩), none⟩), (1, oc [] (.p (.str s1)))] 1, rm [(2, oc [] (.p (.bool b1))), (1, oc [] (.p (.str s2)))] 1, rm [(2, oc [] (.p (.bool b2))), (1, oc [] (.p (.str s3)))] 1, rm [(2, oc [] (.p (.bool b3))), (1, oc [] (.p (.str s4)))] 1, rm [(2, oc [] (.p (.bool b4))), (1, oc [] (.p (.str s5)))] 1, rm [(2, oc [] (.p (.int .i64 k))), (0, oc [] (.p (.str fk))), (1, oc [] (.p (.str s6)))] 1] [.code (bodyOf Tryz.f9)] (start Tryz.f9 [] 0 [grG g nb N]) [] 1 [] (.p (.str s6)) =
    some [(NT 0 1),Con Tryz.prog 35 0 [] [(zf78 N nb g)] [] (.p (.bool true)),((!true) = false),(NT 0 1),Con Tryz.prog 38 0 [] [(zf78 N nb g), .p (.int .i64 2), .p (.int .i64 3)] [] (.p (.int .i64 r)),Con Tryz.prog 37 0 [] [.p (.int .i64 r)] [] (.p (.str fr)),(NT 0 1),Con Tryz.prog 39 0 [] [(zf78 N nb g)] [] (.p (.int .i64 fd)),Con Tryz.prog 37 0 [] [.p (.int .i64 fd)] [] (.p (.str ff)),(NT 0 1),Con Tryz.prog 41 0 [] [(zf78 N nb g)] (zf81 cn C) (.ar 1 0 0 cn),(AN 1),(NL cn cn),(AE cn),Con Tryz.prog 40 0 [] [.p (.seq true 1 cn (fun i => [.seq true 1 ((C i).1) (fun i_1 => [.int .i64 ((C i).2 i_1)])]))] [] (.p (.str fs)),(AN 1),(NL 6 6),Con Tryz.prog 36 0 [] [.p (.seq true 1 6 (fun i => [(cellP true [(List.getD ([.p (.str (ByteArray.mk #[114, 97, 110, 107])), .p (.str fr), .p (.str (ByteArray.mk #[102, 114, 101, 101, 100, 111, 109])), .p (.str ff), .p (.str (ByteArray.mk #[112, 97, 114, 116, 115])), .p (.str fs)] : List AV) (rowIx 6 i * 1) (.p .any))] 0)]))] [] (.p (.str s1)),(NT 0 1),Con Tryz.prog 43 0 [] [(zf78 N nb g)] [] (.p (.bool b1)),(AN 1),(NL 1 1),Con Tryz.prog 42 0 [] [.p (.str s1), .p (.bool b1), .p (.seq true 1 1 (fun i => [.str (ByteArray.mk #[114, 105, 103, 105, 100])]))] [] (.p (.str s2)),(NT 0 1),Con Tryz.prog 44 0 [] [(zf78 N nb g)] [] (.p (.bool b2)),(AN 1),(NL 1 1),Con Tryz.prog 42 0 [] [.p (.str s2), .p (.bool b2), .p (.seq true 1 1 (fun i => [.str (ByteArray.mk #[109, 105, 110, 105, 109, 97, 108])]))] [] (.p (.str s3)),(NT 0 1),Con Tryz.prog 45 0 [] [(zf78 N nb g)] [] (.p (.bool b3)),(AN 1),(NL 1 1),Con Tryz.prog 42 0 [] [.p (.str s3), .p (.bool b3), .p (.seq true 1 1 (fun i => [.str (ByteArray.mk #[114, 101, 100, 117, 110, 100, 97, 110, 116])]))] [] (.p (.str s4)),(NT 0 1),Con Tryz.prog 46 0 [] [(zf78 N nb g)] [] (.p (.bool b4)),(AN 1),(NL 1 1),Con Tryz.prog 42 0 [] [.p (.str s4), .p (.bool b4), .p (.seq true 1 1 (fun i => [.str (ByteArray.mk #[103, 108, 111, 98, 97, 108])]))] [] (.p (.str s5)),(NT 0 1),Con Tryz.prog 47 0 [] [(zf78 N nb g)] [] (.p (.int .i64 k)),Con Tryz.prog 37 0 [] [.p (.int .i64 k)] [] (.p (.str fk)),(AN 1),(NL 3 3),Con Tryz.prog 36 0 [] [.p (.seq true 1 3 (fun i => [(cellP true [(List.getD ([.p (.str s5), .p (.str (ByteArray.mk #[99, 111, 110, 110, 101, 99, 116, 101, 100])), .p (.str fk)] : List AV) (rowIx 3 i * 1) (.p .any))] 0)]))] [] (.p (.str s6)),(s6 = s6)] := by kernel_rfl
theorem gsy (g : Nat → T_Bar) (nb N cn : Nat) (r fd k : Int) (C : Nat → T_IntS) (b1 b2 b3 b4 : Bool) (fr ff fs y1 y2 y3 y4 fk : ByteArray) :
    pathOb Tryz.prog Tryz.f7 0 [rg 2, rm [(1, oc [] (.p (.bool true)))] 1, .dec false, rm [(1, oc [] (.p (.int .i64 r))), (0, oc [] (.p (.str fr))), (3, oc [] (.p (.int .i64 fd))), (0, oc [] (.p (.str ff))), (3, oc [(0, ssOb cn C)] (.ar 1 0 0 cn)), (0, ⟨true, (some ⟨[], [], [], 2, [], .p (.str fs)⟩), none⟩)] 2, rm [(2, oc [] (.p (.bool b1))), (0, oc [] (.p (.str y1))), (2, oc [] (.p (.bool b2))), (0, oc [] (.p (.str y2))), (2, oc [] (.p (.bool b3))), (0, oc [] (.p (.str y3))), (2, oc [] (.p (.bool b4))), (0, oc [] (.p (.str y4)))] 2, rm [(3, oc [] (.p (.int .i64 k))), (0, oc [] (.p (.str fk)))] 2] [.code (bodyOf Tryz.f7)] (start Tryz.f7 [] 0 [grG g nb N]) [] 1 [] (.p (.str (((((((((((wsRank ++ fr) ++ wsFree) ++ ff) ++ wsParts) ++ fs) ++ y1) ++ y2) ++ y3) ++ y4) ++ wsConn) ++ fk))) =
    some [(NT 0 1),Con Tryz.prog 22 0 [] [(zf78 N nb g)] [] (.p (.bool true)),((!true) = false),(NT 0 1),Con Tryz.prog 24 0 [] [(zf78 N nb g), .p (.int .i64 2), .p (.int .i64 3)] [] (.p (.int .i64 r)),Con Tryz.prog 23 0 [] [.p (.int .i64 r)] [] (.p (.str fr)),(NL ((ByteArray.mk #[114, 97, 110, 107, 32]).size + fr.size) 9223372036854775807),(NL ((ByteArray.mk #[114, 97, 110, 107, 32] ++ fr).size + (ByteArray.mk #[32, 102, 114, 101, 101, 100, 111, 109, 32]).size) 9223372036854775807),(NT 0 1),Con Tryz.prog 25 0 [] [(zf78 N nb g)] [] (.p (.int .i64 fd)),Con Tryz.prog 23 0 [] [.p (.int .i64 fd)] [] (.p (.str ff)),(NL ((ByteArray.mk #[114, 97, 110, 107, 32] ++ fr ++ ByteArray.mk #[32, 102, 114, 101, 101, 100, 111, 109, 32]).size + ff.size) 9223372036854775807),(NL ((ByteArray.mk #[114, 97, 110, 107, 32] ++ fr ++ ByteArray.mk #[32, 102, 114, 101, 101, 100, 111, 109, 32] ++ ff).size + (ByteArray.mk #[32, 112, 97, 114, 116, 115, 32]).size) 9223372036854775807),(NT 0 1),Con Tryz.prog 27 0 [] [(zf78 N nb g)] (zf81 cn C) (.ar 1 0 0 cn),(AN 1),(NL cn cn),(AE cn),Con Tryz.prog 26 0 [] [.p (.seq true 1 cn (fun i => [.seq true 1 ((C i).1) (fun i_1 => [.int .i64 ((C i).2 i_1)])]))] [] (.p (.str fs)),(NL ((ByteArray.mk #[114, 97, 110, 107, 32] ++ fr ++ ByteArray.mk #[32, 102, 114, 101, 101, 100, 111, 109, 32] ++ ff ++ ByteArray.mk #[32, 112, 97, 114, 116, 115, 32]).size + fs.size) 9223372036854775807),(NT 0 1),Con Tryz.prog 29 0 [] [(zf78 N nb g)] [] (.p (.bool b1)),Con Tryz.prog 28 0 [] [.p (.bool b1), .p (.str (ByteArray.mk #[32, 114, 105, 103, 105, 100]))] [] (.p (.str y1)),(NL ((ByteArray.mk #[114, 97, 110, 107, 32] ++ fr ++ ByteArray.mk #[32, 102, 114, 101, 101, 100, 111, 109, 32] ++ ff ++ ByteArray.mk #[32, 112, 97, 114, 116, 115, 32] ++ fs).size + y1.size) 9223372036854775807),(NT 0 1),Con Tryz.prog 30 0 [] [(zf78 N nb g)] [] (.p (.bool b2)),Con Tryz.prog 28 0 [] [.p (.bool b2), .p (.str (ByteArray.mk #[32, 109, 105, 110, 105, 109, 97, 108]))] [] (.p (.str y2)),(NL ((ByteArray.mk #[114, 97, 110, 107, 32] ++ fr ++ ByteArray.mk #[32, 102, 114, 101, 101, 100, 111, 109, 32] ++ ff ++ ByteArray.mk #[32, 112, 97, 114, 116, 115, 32] ++ fs ++ y1).size + y2.size) 9223372036854775807),(NT 0 1),Con Tryz.prog 31 0 [] [(zf78 N nb g)] [] (.p (.bool b3)),Con Tryz.prog 28 0 [] [.p (.bool b3), .p (.str (ByteArray.mk #[32, 114, 101, 100, 117, 110, 100, 97, 110, 116]))] [] (.p (.str y3)),(NL ((ByteArray.mk #[114, 97, 110, 107, 32] ++ fr ++ ByteArray.mk #[32, 102, 114, 101, 101, 100, 111, 109, 32] ++ ff ++ ByteArray.mk #[32, 112, 97, 114, 116, 115, 32] ++ fs ++ y1 ++ y2).size + y3.size) 9223372036854775807),(NT 0 1),Con Tryz.prog 32 0 [] [(zf78 N nb g)] [] (.p (.bool b4)),Con Tryz.prog 28 0 [] [.p (.bool b4), .p (.str (ByteArray.mk #[32, 103, 108, 111, 98, 97, 108]))] [] (.p (.str y4)),(NL ((ByteArray.mk #[114, 97, 110, 107, 32] ++ fr ++ ByteArray.mk #[32, 102, 114, 101, 101, 100, 111, 109, 32] ++ ff ++ ByteArray.mk #[32, 112, 97, 114, 116, 115, 32] ++ fs ++ y1 ++ y2 ++ y3).size + y4.size) 9223372036854775807),(NL ((ByteArray.mk #[114, 97, 110, 107, 32] ++ fr ++ ByteArray.mk #[32, 102, 114, 101, 101, 100, 111, 109, 32] ++ ff ++ ByteArray.mk #[32, 112, 97, 114, 116, 115, 32] ++ fs ++ y1 ++ y2 ++ y3 ++ y4).size + (ByteArray.mk #[32, 99, 111, 110, 110, 101, 99, 116, 101, 100, 32]).size) 9223372036854775807),(NT 0 1),Con Tryz.prog 33 0 [] [(zf78 N nb g)] [] (.p (.int .i64 k)),Con Tryz.prog 23 0 [] [.p (.int .i64 k)] [] (.p (.str fk)),(NL ((ByteArray.mk #[114, 97, 110, 107, 32] ++ fr ++ ByteArray.mk #[32, 102, 114, 101, 101, 100, 111, 109, 32] ++ ff ++ ByteArray.mk #[32, 112, 97, 114, 116, 115, 32] ++ fs ++ y1 ++ y2 ++ y3 ++ y4 ++ ByteArray.mk #[32, 99, 111, 110, 110, 101, 99, 116, 101, 100, 32]).size + fk.size) 9223372036854775807),(ByteArray.mk #[114, 97, 110, 107, 32] ++ fr ++ ByteArray.mk #[32, 102, 114, 101, 101, 100, 111, 109, 32] ++ ff ++ ByteArray.mk #[32, 112, 97, 114, 116, 115, 32] ++ fs ++ y1 ++ y2 ++ y3 ++ y4 ++ ByteArray.mk #[32, 99, 111, 110, 110, 101, 99, 116, 101, 100, 32] ++ fk = wsRank ++ fr ++ wsFree ++ ff ++ wsParts ++ fs ++ y1 ++ y2 ++ y3 ++ y4 ++ wsConn ++ fk)] := by kernel_rfl
end Go.Proofs.YtffnfeefjdmifaaGreat.Mach
namespace Go.Proofs.YtffnfeefjdmifaaGreat.Mach
open Go
set_option linter.unusedVariables false
set_option linter.unusedSimpArgs false
theorem join_s (by_ : ByteArray) (f : Nat → ByteArray) (n : Nat) : joinB by_ f (n + 2) = (joinB by_ f (n + 1) ++ by_) ++ f (n + 1) := by
  show (if 0 < n + 1 then joinB by_ f (n + 1) ++ by_ else _) ++ f (n + 1) = _
  rw [if_pos (by omega)]
theorem so_yes (s : ByteArray) (b : Bool) (w : ByteArray) : soB s b 1 (lsF 1 [w]) = s ++ yesB b (sSp ++ w) := by
  cases b with
  | false => rw [soB_f]; exact (app_sE s).symm
  | true => rw [soB_1]; exact ByteArray.append_assoc
theorem con_ifSo_1 (s : ByteArray) (b : Bool) (w : ByteArray) (hs : s.size ≤ 1000000) (hw : w.size ≤ 1000) :
    Con Tryz.prog 42 0 [] [.p (.str s), .p (.bool b), lsP 1 [w]] [] (.p (.str (s ++ yesB b (sSp ++ w)))) := by
  rw [← so_yes]
  exact con_ifSo_ls s b 1 [w] rfl (by omega) 1000000 (by omega) hs (by
    intro x hx; simp only [List.mem_cons, List.not_mem_nil, or_false] at hx
    subst hx; omega)
theorem yes1_size (s : ByteArray) (b : Bool) (w : ByteArray) : (s ++ yesB b (sSp ++ w)).size ≤ s.size + 1 + w.size := by
  have := yes_size b (sSp ++ w)
  rw [ByteArray.size_append] at this ⊢
  have : sSp.size = 1 := rfl
  omega
noncomputable def gLn (N nb : Nat) (g : Nat → T_Bar) : ByteArray :=
  (((((((((((wsRank ++ fmtI ((rk2 N nb g : Nat) : Int)) ++ wsFree) ++ fmtI (frGr ((N : Int), (nb, g), ()))) ++ wsParts) ++ fsB (compsD N nb g nb).1 (compsD N nb g nb).2) ++ yesB (rgG N nb g) wsRigid) ++ yesB (mrG ((N : Int), (nb, g), ())) wsMin) ++ yesB (rdB N nb g) wsRedu) ++ yesB (glB N nb g) wsGlob) ++ wsConn) ++ fmtI ((coN N nb g : Nat) : Int))
theorem compD_in (N nb : Nat) (g : Nat → T_Bar) (e : Nat) : ∀ p s, s < (compD N nb g e p).1 → 0 ≤ (compD N nb g e p).2 s ∧ (compD N nb g e p).2 s < p
  | 0, s, h => absurd h (Nat.not_lt_zero _)
  | p + 1, s, h => by
    simp only [compD] at h ⊢
    split at h <;> rename_i hc
    · rw [if_pos hc]
      by_cases hl : s < (compD N nb g e p).1
      · have := compD_in N nb g e p s hl
        simp [hl, snocI]
        omega
      · simp [hl, snocI]
        omega
    · rw [if_neg hc]
      have := compD_in N nb g e p s h
      omega
theorem compsD_in (N nb : Nat) (g : Nat → T_Bar) (hN : N ≤ 8) : ∀ e j, j < (compsD N nb g e).1 → In64 ((compsD N nb g e).2 j)
  | 0, j, h => absurd h (Nat.not_lt_zero _)
  | e + 1, j, h => by
    simp only [compsD] at h ⊢
    split at h <;> rename_i hc
    · rw [if_pos hc]; exact compsD_in N nb g hN e j h
    · rw [if_neg hc]
      by_cases hl : j < (compsD N nb g e).1
      · have := compsD_in N nb g hN e j hl
        simpa [snocC, hl] using this
      · intro i hi
        simp [snocC, hl] at hi ⊢
        have := compD_in N nb g e N i hi
        omega
theorem con_gLine_i {N nb : Nat} {g : Nat → T_Bar} (hg : isGraphF ((N : Int), (nb, g), ()) = true) : Con Tryz.prog 9 0 [] [grG g nb N] [] (.p (.str (gLn N nb g))) := by
  obtain ⟨h1, h2, h3⟩ := graph_in hg
  have hsm : smS s_Graph ((N : Int), (nb, g), ()) := sm_graph (by show nb ≤ _; omega)
  have c1 := con_IsGraph_i ((N : Int), (nb, g), ()) hsm
  rw [hg] at c1
  have hrk := con_RankOf_i hg 2 3 (by omega) (by omega)
  have hrk : Con Tryz.prog 38 0 [] [grG g nb N, .p (.int .i64 2), .p (.int .i64 3)] [] (.p (.int .i64 ((rk2 N nb g : Nat) : Int))) := hrk
  have hrl : rk2 N nb g ≤ 24 := by have := accI_len N 2 3 g nb; show (accI N 2 3 g nb).length ≤ 24; omega
  have hfd := con_FreedomOf_i ((N : Int), (nb, g), ()) hsm
  have hfb : -1 ≤ frGr ((N : Int), (nb, g), ()) + 100 ∧ frGr ((N : Int), (nb, g), ()) ≤ 100 := by
    have hm := maxI_b (n := (N : Int)) (by omega)
    have : frGr ((N : Int), (nb, g), ()) = maxI N - ((rk2 N nb g : Nat) : Int) := by simp [frGr, hg, rkG, rk2]
    rw [this]; omega
  obtain ⟨hcn, hC⟩ := compsD_le N nb g nb
  have hcp := con_Comps_i ((N : Int), (nb, g), ()) hsm
  rw [show compsG ((N : Int), (nb, g), ()) = compsD N nb g nb by simp [compsG, hg]] at hcp
  have hin := compsD_in N nb g h1.2 nb
  have hri := con_IsRigid_i ((N : Int), (nb, g), ()) hsm
  have hri : Con Tryz.prog 43 0 [] [grG g nb N] [] (.p (.bool (rgG N nb g))) := hri
  have hmi := con_IsMin_i ((N : Int), (nb, g), ()) hsm
  have hrd := con_gRedun_i hg
  have hgl := con_gGlobal_i hg
  have hco := con_gCo_i hg
  have hcb : coN N nb g ≤ 3 := by unfold coN; (repeat' split) <;> omega
  have hf1 := con_FormatInt_i ((rk2 N nb g : Nat) : Int) (by omega) (by omega)
  have hf2 := con_FormatInt_i (frGr ((N : Int), (nb, g), ())) (by omega) (by omega)
  have hf3 := con_FormatInt_i ((coN N nb g : Nat) : Int) (by omega) (by omega)
  have hs1 := fmt_size ((rk2 N nb g : Nat) : Int)
  have hs2 := fmt_size (frGr ((N : Int), (nb, g), ()))
  have hs3 := fmt_size ((coN N nb g : Nat) : Int)
  have hfs := con_FormatSets_i (compsD N nb g nb).1 (compsD N nb g nb).2 (by omega) (fun i hi => ⟨by have := hC i hi; omega, hin i hi⟩)
  have hz : (fsB (compsD N nb g nb).1 (compsD N nb g nb).2).size ≤ 10000 := by
    unfold fsB
    split
    · show 4 ≤ _; omega
    · have := joinB_size sSp (fun i => stB ((compsD N nb g nb).2 i)) 200 (compsD N nb g nb).1 (fun i hi => by have h5 := stB_size ((compsD N nb g nb).2 i); have := hC i hi; show (stB ((compsD N nb g nb).2 i)).size ≤ 200; omega)
      rw [show sSp.size = 1 from rfl] at this
      have h6 : (compsD N nb g nb).1 * (200 + 1) ≤ 24 * 201 := Nat.mul_le_mul_right _ (by omega)
      omega
  unfold gLn
  generalize rk2 N nb g = r at *
  generalize frGr ((N : Int), (nb, g), ()) = fd at *
  generalize compsD N nb g nb = K at *
  generalize rgG N nb g = b1 at *
  generalize mrG ((N : Int), (nb, g), ()) = b2 at *
  generalize rdB N nb g = b3 at *
  generalize glB N nb g = b4 at *
  generalize coN N nb g = k at *
  generalize fmtI (r : Int) = fr at *
  generalize fmtI fd = ff at *
  generalize fmtI (k : Int) = fk at *
  generalize fsB K.1 K.2 = fs at *
  have hl1 := con_line_ls 6 [wdRank, fr, wdFree, ff, wdParts, fs] rfl (by omega) 1000000 (by omega) (by
    intro s hs; simp only [List.mem_cons, List.not_mem_nil, or_false] at hs
    rcases hs with rfl | rfl | rfl | rfl | rfl | rfl
    · show 4 ≤ _; omega
    · omega
    · show 7 ≤ _; omega
    · omega
    · show 5 ≤ _; omega
    · omega)
  have e1 : joinB sSp (lsF 6 [wdRank, fr, wdFree, ff, wdParts, fs]) 6 = ((((wsRank ++ fr) ++ wsFree) ++ ff) ++ wsParts) ++ fs := by
    rw [join_s, join_s, join_s, join_s, join_2]
    show ((((((((((wdRank ++ sSp) ++ fr) ++ sSp) ++ wdFree) ++ sSp) ++ ff) ++ sSp) ++ wdParts) ++ sSp) ++ fs) = _
    rw [ws_rank, show wsFree = (sSp ++ wdFree) ++ sSp from rfl, show wsParts = (sSp ++ wdParts) ++ sSp from rfl]
    simp only [ByteArray.append_assoc]
  rw [e1] at hl1
  have z1 : (((((wsRank ++ fr) ++ wsFree) ++ ff) ++ wsParts) ++ fs).size ≤ 20000 := by
    simp only [ByteArray.size_append]
    show 5 + fr.size + 9 + ff.size + 7 + fs.size ≤ _; omega
  generalize ((((wsRank ++ fr) ++ wsFree) ++ ff) ++ wsParts) ++ fs = s1 at *
  have hl2 := con_ifSo_1 s1 b1 wdRigid (by omega) (by show 5 ≤ _; omega)
  have z2 := yes1_size s1 b1 wdRigid
  rw [show wdRigid.size = 5 from rfl] at z2
  rw [show wsRigid = sSp ++ wdRigid from rfl]
  generalize s1 ++ yesB b1 (sSp ++ wdRigid) = s2 at *
  have hl3 := con_ifSo_1 s2 b2 wdMin (by omega) (by show 7 ≤ _; omega)
  have z3 := yes1_size s2 b2 wdMin
  rw [show wdMin.size = 7 from rfl] at z3
  rw [show wsMin = sSp ++ wdMin from rfl]
  generalize s2 ++ yesB b2 (sSp ++ wdMin) = s3 at *
  have hl4 := con_ifSo_1 s3 b3 wdRedu (by omega) (by show 9 ≤ _; omega)
  have z4 := yes1_size s3 b3 wdRedu
  rw [show wdRedu.size = 9 from rfl] at z4
  rw [show wsRedu = sSp ++ wdRedu from rfl]
  generalize s3 ++ yesB b3 (sSp ++ wdRedu) = s4 at *
  have hl5 := con_ifSo_1 s4 b4 wdGlob (by omega) (by show 6 ≤ _; omega)
  have z5 := yes1_size s4 b4 wdGlob
  rw [show wdGlob.size = 6 from rfl] at z5
  rw [show wsGlob = sSp ++ wdGlob from rfl]
  generalize s4 ++ yesB b4 (sSp ++ wdGlob) = s5 at *
  have hl6 := con_line_ls 3 [s5, wdConn, fk] rfl (by omega) 1000000 (by omega) (by
    intro s hs; simp only [List.mem_cons, List.not_mem_nil, or_false] at hs
    rcases hs with rfl | rfl | rfl
    · omega
    · show 9 ≤ _; omega
    · omega)
  have e6 : joinB sSp (lsF 3 [s5, wdConn, fk]) 3 = (s5 ++ wsConn) ++ fk := by
    rw [join_3]
    show (((s5 ++ sSp) ++ wdConn) ++ sSp) ++ fk = _
    rw [show wsConn = (sSp ++ wdConn) ++ sSp from rfl]
    simp only [ByteArray.append_assoc]
  rw [e6] at hl6
  generalize (s5 ++ wsConn) ++ fk = s6 at *
  refine con_start Tryz.func9 rfl (by kernel_rfl) rfl (fun c hc => ?_)
  refine path_ok mixed Tryz.func9 hc (ggy g nb N K.1 (r : Int) fd (k : Int) K.2 b1 b2 b3 b4 fr ff fs s1 s2 s3 s4 s5 fk s6) ?_
  simp only [All]
  repeat' (first | exact trivial | with_reducible apply And.intro)
  all_goals (first | exact aE _ | omega | rfl | (intros; first | assumption | exact trivial | rfl | exact fT ‹_› | ((repeat' (first | assumption | apply anda | apply notf)); done)) | (exact c1) | (exact hrk) | (exact hf1) | (exact hfd) | (exact hf2) | (exact hcp) | (exact hfs) | (exact hl1) | (exact hri) | (exact hl2) | (exact hmi) | (exact hl3) | (exact hrd) | (exact hl4) | (exact hgl) | (exact hl5) | (exact hco) | (exact hf3) | (exact hl6) | (intro i hi; simp [All, aEt]; done) | (simp; done))
theorem con_gLine_s {N nb : Nat} {g : Nat → T_Bar} (hg : isGraphF ((N : Int), (nb, g), ()) = true) : Con Tryz.prog 7 0 [] [grG g nb N] [] (.p (.str (gLn N nb g))) := by
  obtain ⟨h1, h2, h3⟩ := graph_in hg
  have hsm : smS s_Graph ((N : Int), (nb, g), ()) := sm_graph (by show nb ≤ _; omega)
  have c1 := con_IsGraph_s ((N : Int), (nb, g), ()) hsm
  rw [hg] at c1
  have hrk := con_RankOf_s hg 2 3 (by omega) (by omega)
  have hrk : Con Tryz.prog 24 0 [] [grG g nb N, .p (.int .i64 2), .p (.int .i64 3)] [] (.p (.int .i64 ((rk2 N nb g : Nat) : Int))) := hrk
  have hrl : rk2 N nb g ≤ 24 := by have := accI_len N 2 3 g nb; show (accI N 2 3 g nb).length ≤ 24; omega
  have hfd := con_FreedomOf_s ((N : Int), (nb, g), ()) hsm
  have hfb : -1 ≤ frGr ((N : Int), (nb, g), ()) + 100 ∧ frGr ((N : Int), (nb, g), ()) ≤ 100 := by
    have hm := maxI_b (n := (N : Int)) (by omega)
    have : frGr ((N : Int), (nb, g), ()) = maxI N - ((rk2 N nb g : Nat) : Int) := by simp [frGr, hg, rkG, rk2]
    rw [this]; omega
  obtain ⟨hcn, hC⟩ := compsD_le N nb g nb
  have hcp := con_Comps_s ((N : Int), (nb, g), ()) hsm
  rw [show compsG ((N : Int), (nb, g), ()) = compsD N nb g nb by simp [compsG, hg]] at hcp
  have hin := compsD_in N nb g h1.2 nb
  have hri := con_IsRigid_s ((N : Int), (nb, g), ()) hsm
  have hri : Con Tryz.prog 29 0 [] [grG g nb N] [] (.p (.bool (rgG N nb g))) := hri
  have hmi := con_IsMin_s ((N : Int), (nb, g), ()) hsm
  have hrd := con_gRedun_s hg
  have hgl := con_gGlobal_s hg
  have hco := con_gCo_s hg
  have hcb : coN N nb g ≤ 3 := by unfold coN; (repeat' split) <;> omega
  have hf1 := con_FormatInt_s ((rk2 N nb g : Nat) : Int) (by omega) (by omega)
  have hf2 := con_FormatInt_s (frGr ((N : Int), (nb, g), ())) (by omega) (by omega)
  have hf3 := con_FormatInt_s ((coN N nb g : Nat) : Int) (by omega) (by omega)
  have hs1 := fmt_size ((rk2 N nb g : Nat) : Int)
  have hs2 := fmt_size (frGr ((N : Int), (nb, g), ()))
  have hs3 := fmt_size ((coN N nb g : Nat) : Int)
  have hfs := con_FormatSets_s (compsD N nb g nb).1 (compsD N nb g nb).2 (by omega) (fun i hi => ⟨by have := hC i hi; omega, hin i hi⟩)
  have hz : (fsB (compsD N nb g nb).1 (compsD N nb g nb).2).size ≤ 10000 := by
    unfold fsB
    split
    · show 4 ≤ _; omega
    · have := joinB_size sSp (fun i => stB ((compsD N nb g nb).2 i)) 200 (compsD N nb g nb).1 (fun i hi => by have h5 := stB_size ((compsD N nb g nb).2 i); have := hC i hi; show (stB ((compsD N nb g nb).2 i)).size ≤ 200; omega)
      rw [show sSp.size = 1 from rfl] at this
      have h6 : (compsD N nb g nb).1 * (200 + 1) ≤ 24 * 201 := Nat.mul_le_mul_right _ (by omega)
      omega
  unfold gLn
  generalize rk2 N nb g = r at *
  generalize frGr ((N : Int), (nb, g), ()) = fd at *
  generalize compsD N nb g nb = K at *
  generalize rgG N nb g = b1 at *
  generalize mrG ((N : Int), (nb, g), ()) = b2 at *
  generalize rdB N nb g = b3 at *
  generalize glB N nb g = b4 at *
  generalize coN N nb g = k at *
  generalize fmtI (r : Int) = fr at *
  generalize fmtI fd = ff at *
  generalize fmtI (k : Int) = fk at *
  generalize fsB K.1 K.2 = fs at *
  have hy1 := con_l34Yes b1 wsRigid
  have hy2 := con_l34Yes b2 wsMin
  have hy3 := con_l34Yes b3 wsRedu
  have hy4 := con_l34Yes b4 wsGlob
  have z1 : (yesB b1 wsRigid).size ≤ 6 := yes_size _ wsRigid
  have z2 : (yesB b2 wsMin).size ≤ 8 := yes_size _ wsMin
  have z3 : (yesB b3 wsRedu).size ≤ 10 := yes_size _ wsRedu
  have z4 : (yesB b4 wsGlob).size ≤ 7 := yes_size _ wsGlob
  generalize yesB b1 wsRigid = y1 at *
  generalize yesB b2 wsMin = y2 at *
  generalize yesB b3 wsRedu = y3 at *
  generalize yesB b4 wsGlob = y4 at *
  have a1 : (ByteArray.mk #[114, 97, 110, 107, 32]).size = 5 := rfl
  have a2 : (ByteArray.mk #[32, 102, 114, 101, 101, 100, 111, 109, 32]).size = 9 := rfl
  have a3 : (ByteArray.mk #[32, 112, 97, 114, 116, 115, 32]).size = 7 := rfl
  have a4 : (ByteArray.mk #[32, 99, 111, 110, 110, 101, 99, 116, 101, 100, 32]).size = 11 := rfl
  refine con_start Tryz.func7 rfl (by kernel_rfl) rfl (fun c hc => ?_)
  refine path_ok mixed Tryz.func7 hc (gsy g nb N K.1 (r : Int) fd (k : Int) K.2 b1 b2 b3 b4 fr ff fs y1 y2 y3 y4 fk) ?_
  simp only [All]
  repeat' (first | exact trivial | with_reducible apply And.intro)
  all_goals (first | exact aE _ | omega | rfl | (intros; first | assumption | exact trivial | rfl | exact fT ‹_› | ((repeat' (first | assumption | apply anda | apply notf)); done)) | (exact c1) | (exact hrk) | (exact hf1) | (exact hfd) | (exact hf2) | (exact hcp) | (exact hfs) | (exact hri) | (exact hy1) | (exact hmi) | (exact hy2) | (exact hrd) | (exact hy3) | (exact hgl) | (exact hy4) | (exact hco) | (exact hf3) | (intro i hi; simp [All, aEt]; done) | (simp only [ByteArray.size_append, a1, a2, a3, a4]; omega) | (simp; done))
noncomputable def gLF (v : T_Graph) : ByteArray := if isGraphF v = true then gLn v.1.toNat v.2.1.1 v.2.1.2 else kwE
theorem con_GLine_i (v : T_Graph) (hs : smS s_Graph v) : Con Tryz.prog 9 0 [] [graphA v] [] (.p (.str (gLF v))) := by
  cases hg : isGraphF v with
  | true =>
    rw [gLF, if_pos hg]
    obtain ⟨N, nb, g, rfl⟩ := graph_cases v hg
    exact con_gLine_i hg
  | false =>
    rw [gLF, if_neg (by rw [hg]; exact Bool.false_ne_true)]
    have c1 := con_IsGraph_i v hs
    rw [hg] at c1
    refine con_start Tryz.func9 rfl (by kernel_rfl) rfl (fun c hc => ?_)
    refine path_ok mixed Tryz.func9 hc (ggn v) ?_
    simp only [All]
    repeat' (first | exact trivial | with_reducible apply And.intro)
    all_goals (first | omega | rfl | (intros; first | assumption | exact trivial | rfl | exact fT ‹_› | ((repeat' (first | assumption | apply anda | apply notf)); done)) | (exact c1) | rfl)
theorem con_GLine_s (v : T_Graph) (hs : smS s_Graph v) : Con Tryz.prog 7 0 [] [graphA v] [] (.p (.str (gLF v))) := by
  cases hg : isGraphF v with
  | true =>
    rw [gLF, if_pos hg]
    obtain ⟨N, nb, g, rfl⟩ := graph_cases v hg
    exact con_gLine_s hg
  | false =>
    rw [gLF, if_neg (by rw [hg]; exact Bool.false_ne_true)]
    have c1 := con_IsGraph_s v hs
    rw [hg] at c1
    refine con_start Tryz.func7 rfl (by kernel_rfl) rfl (fun c hc => ?_)
    refine path_ok mixed Tryz.func7 hc (gsn v) ?_
    simp only [All]
    repeat' (first | exact trivial | with_reducible apply And.intro)
    all_goals (first | omega | rfl | (intros; first | assumption | exact trivial | rfl | exact fT ‹_› | ((repeat' (first | assumption | apply anda | apply notf)); done)) | (exact c1) | rfl)
end Go.Proofs.YtffnfeefjdmifaaGreat.Mach
namespace Go.Proofs.YtffnfeefjdmifaaGreat.Mach
open Go
set_option linter.unusedVariables false
set_option linter.unusedSimpArgs false
theorem p_FnExactGraphLine_0 (v0 : T_Graph) :
    pathOb Tryz.prog Tryz.f3 0 [rg 2, rg 1, rm [(2, oc [] (.p (.int .i64 (f_szGraph v0 1048576))))] 1, rg 2, .dec true, rg 1] [.code (bodyOf Tryz.f3)] (start Tryz.f3 [] 0 [(zf75 v0)]) [] 1 [] (.p (.bool true)) =
    some [(NT 0 1),Con Tryz.prog 6 0 [] [(zf75 v0), .p (.int .i64 1048576)] [] (.p (.int .i64 (f_szGraph v0 1048576))),((decide (f_szGraph v0 1048576 < 0)) = true),(true = true)] := by kernel_rfl
theorem p_FnExactGraphLine_e (v0 : T_Graph) :
    pathOb Tryz.prog Tryz.f3 0 [rg 2, rg 1, rm [(2, oc [] (.p (.int .i64 (f_szGraph v0 1048576))))] 1, rg 2, .dec false, rm [(1, oc (zf80 v0) (.agg [.p (.int .i64 v0.1), .ar 2 0 0 v0.2.1.1])), (0, oc [] (.p (.str (gLF v0))))] 1, rm [(1, oc (zf80 v0) (.agg [.p (.int .i64 v0.1), .ar 2 0 0 v0.2.1.1]))] 2, rm [(1, oc [] (.p (.str (gLF v0))))] 1, rg 3, .dec false, rm [(2, oc (zf80 v0) (.agg [.p (.int .i64 v0.1), .ar 2 0 0 v0.2.1.1])), (0, oc [] (.p (.bool true)))] 1, .dec false, rg 1] [.code (bodyOf Tryz.f3)] (start Tryz.f3 [] 0 [(zf75 v0)]) [] 1 [] (.p (.bool true)) =
    some [(NT 0 1),Con Tryz.prog 6 0 [] [(zf75 v0), .p (.int .i64 1048576)] [] (.p (.int .i64 (f_szGraph v0 1048576))),((decide (f_szGraph v0 1048576 < 0)) = false),(NT 0 1),Con Tryz.prog 8 0 [] [(zf75 v0)] (zf79 v0) (.agg [.p (.int .i64 v0.1), .ar 2 0 0 v0.2.1.1]),(AN 2),(NL v0.2.1.1 v0.2.1.1),Con Tryz.prog 7 0 [] [(zf75 v0)] [] (.p (.str (gLF v0))),(NT 0 1),Con Tryz.prog 8 0 [] [(zf75 v0)] (zf79 v0) (.agg [.p (.int .i64 v0.1), .ar 2 0 0 v0.2.1.1]),(NT 0 1),((true = true) →  (AN 1)),(NT 0 1),(AN 2),(NL v0.2.1.1 v0.2.1.1),Con Tryz.prog 9 0 [] [(zf75 v0)] [] (.p (.str (gLF v0))),((!(gLF v0).toList == (gLF v0).toList) = false),(NT 0 1),(NT 0 1),Con Tryz.prog 8 0 [] [(zf75 v0)] (zf79 v0) (.agg [.p (.int .i64 v0.1), .ar 2 0 0 v0.2.1.1]),(AN 2),(NL v0.2.1.1 v0.2.1.1),(AN 2),(NL v0.2.1.1 v0.2.1.1),Con Tryz.prog 10 0 [] [(zf75 v0), (zf75 v0)] [] (.p (.bool true)),((!true) = false),(true = true)] := by kernel_rfl
theorem con_law_FnExactGraphLine (v0 : T_Graph) (k0 : okS s_Graph v0) : Con Tryz.prog 3 0 [] [(zf75 v0)] [] (.p (.bool true)) := by
  refine con_start Tryz.func3 rfl (by kernel_rfl) rfl (fun c hc => ?_)
  have l0 := le_szGraph v0 1048576 (by omega)
  by_cases g0 : (f_szGraph v0 1048576) < 0
  · refine path_ok mixed Tryz.func3 hc (p_FnExactGraphLine_0 v0) ?_
    simp only [All]
    repeat' (first | exact trivial | with_reducible apply And.intro)
    all_goals (first | omega | rfl | (intros; first | assumption | exact trivial | rfl | exact fT ‹_› | ((repeat' (first | assumption | apply anda | apply notf)); done)) | (exact con_szGraph v0 k0 _ (by omega) (by omega)) | (simp; omega))
  have hs0 := sm_szGraph v0 1048576 (by omega) (by omega) g0
  refine path_ok mixed Tryz.func3 hc (p_FnExactGraphLine_e v0) ?_
  simp only [All]
  repeat' (first | exact trivial | with_reducible apply And.intro)
  all_goals (first | omega | rfl | (intros; first | assumption | exact trivial | rfl | exact fT ‹_› | ((repeat' (first | assumption | apply anda | apply notf)); done)) | (exact con_szGraph v0 k0 _ (by omega) (by omega)) | (exact con_toGraph v0 hs0) | (exact con_GLine_s v0 hs0) | (exact con_GLine_i v0 hs0) | (exact con_eqGraph v0 hs0) | (simp; try omega))
end Go.Proofs.YtffnfeefjdmifaaGreat.Mach
