/- What the law Gl needs, part 3 of 5: the abstract machine and the contracts of the functions. Conditions: as each theorem says. -/
import Derived.Shelf.SlLaysF0
import Derived.Shelf.SlGeneric
import Derived.Shelf.SlSortCmp.InsertionK
import Derived.Ground.SlsfProg
import Derived.Test.YtffnfeefjdmifaaGreatGlP2
namespace Go.Proofs.YtffnfeefjdmifaaGreat.Mach
open Go
set_option linter.unusedVariables false
set_option linter.unusedSimpArgs false
def grG (g : Nat → T_Bar) (nb N : Nat) : AV := .agg [.p (.int .i64 N), brL g nb]
def bxG (g : Nat → T_Bar) (nb N : Nat) : Ob := ⟨true, 2, 1, fun _ => [.p (.int .i64 N), brL g nb]⟩
def bx0 : Ob := ⟨true, 3, 1, fun _ => [.p .nil, .p .nil, .p .nil]⟩
def bxP (N m j : Nat) : Ob := ⟨true, 3, 1, fun _ => [.ar 1 j 0 N, .ar 1 (j + 1) 0 m, .ar 1 (j + 2) 0 m]⟩
def bxD (N m : Nat) (F T Q : Nat → Int) : Ob := ⟨true, 3, 1, fun _ => [inD N F, inD m T, inD m Q]⟩
def pebD (N m : Nat) (F T Q : Nat → Int) : AV := .agg [inD N F, inD m T, inD m Q]
def bOb (n : Nat) (S : Nat → Bool) : Ob := ⟨false, 1, n, fun i => [.p (.bool (S i))]⟩
def SSc (g : Nat → T_Bar) (nb N m : Nat) (F T Q FR F1 T1 : Nat → Int) (a u : Int) : St :=
  ⟨[grG g nb N, pebD N m F T Q, inD N FR, .p (.int .i64 a), .p (.int .i64 u), .pt 2 0 0 0, .pt 3 1 0 0, .p .any, .p .any, .p .any, .pt 3 2 0 0, .pt 3 3 0 0] ++ List.replicate 51 anyA,
   [(0, bxG g nb N), (1, bxD N m F T Q), (2, bx0), (3, bxP N m 4), (4, iOb N F1), (5, iOb m T1), (6, iOb m Q)], 7⟩
def SSl (g : Nat → T_Bar) (nb N m : Nat) (F T Q FR F1 T1 : Nat → Int) (a u at' : Int) : St :=
  ⟨[grG g nb N, pebD N m F T Q, inD N FR, .p (.int .i64 a), .p (.int .i64 u), .pt 2 0 0 0, .pt 3 1 0 0, .p .any, .p .any, .p .any, .pt 3 2 0 0, .pt 3 3 0 0, .p (.int .i64 at')] ++ List.replicate 50 anyA,
   [(0, bxG g nb N), (1, bxD N m F T Q), (2, bx0), (3, bxP N m 4), (4, iOb N F1), (5, iOb m T1), (6, iOb m Q)], 7⟩
def SF0 (g : Nat → T_Bar) (nb N m : Nat) (F T Q : Nat → Int) (a b : Int) (i : Nat) : St :=
  ⟨[grG g nb N, pebO N m 0, .p (.int .i64 a), .p (.int .i64 b), .pt 2 3 0 0, .pt 3 4 0 0, .p .any, .p .any, .pt 3 5 0 0, .p .any, .ar 1 6 0 N, .p (.int .i64 i)] ++ List.replicate 94 anyA,
   [(0, iOb N F), (1, iOb m T), (2, iOb m Q), (3, bxG g nb N), (4, bxP N m 0), (5, bx0), (6, iOb N (fun s => if s < i then -1 else 0))], 7⟩
def SF1 (g : Nat → T_Bar) (nb N m : Nat) (F T Q td FR : Nat → Int) (SN : Nat → Bool) (a b : Int) (i tn : Nat) : St :=
  ⟨[grG g nb N, pebO N m 0, .p (.int .i64 a), .p (.int .i64 b), .pt 2 3 0 0, .pt 3 4 0 0, .p .any, .p .any, .pt 3 5 0 0, .p .any, .ar 1 6 0 N, .p .any, .ar 1 8 0 tn, .ar 1 7 0 N, .p (.int .i64 i)] ++ List.replicate 91 anyA,
   [(0, iOb N F), (1, iOb m T), (2, iOb m Q), (3, bxG g nb N), (4, bxP N m 0), (5, bx0), (6, iOb N FR), (7, bOb N SN), (8, iOb tn td)], 9⟩
def SF2 (g : Nat → T_Bar) (nb N m : Nat) (F T Q td FR : Nat → Int) (SN : Nat → Bool) (a b v : Int) (i j tn : Nat) : St :=
  ⟨[grG g nb N, pebO N m 0, .p (.int .i64 a), .p (.int .i64 b), .pt 2 3 0 0, .pt 3 4 0 0, .p .any, .p .any, .pt 3 5 0 0, .p .any, .ar 1 6 0 N, .p .any, .ar 1 8 0 tn, .ar 1 7 0 N, .p (.int .i64 i), .p (.int .i64 v), .p (.int .i64 j)] ++ List.replicate 89 anyA,
   [(0, iOb N F), (1, iOb m T), (2, iOb m Q), (3, bxG g nb N), (4, bxP N m 0), (5, bx0), (6, iOb N FR), (7, bOb N SN), (8, iOb tn td)], 9⟩
def SF3 (g : Nat → T_Bar) (nb N m : Nat) (F T Q FR : Nat → Int) (a b u : Int) : St :=
  ⟨[grG g nb N, pebO N m 0, .p (.int .i64 a), .p (.int .i64 b), .pt 2 3 0 0, .pt 3 4 0 0, .p .any, .p .any, .pt 3 5 0 0, .p .any, .ar 1 6 0 N, .p .any, .p .any, .p .any, .p .any, .p .any, .p .any, .p (.int .i64 u)] ++ List.replicate 88 anyA,
   [(0, iOb N F), (1, iOb m T), (2, iOb m Q), (3, bxG g nb N), (4, bxP N m 0), (5, bx0), (6, iOb N FR)], 7⟩
def pebR3 (N m : Nat) (F T Q F' T' Q' : Nat → Int) : Hp := [(0, iOb N F), (1, iOb m T), (2, iOb m Q), (3, iOb N F'), (4, iOb m T'), (5, iOb m Q')]
theorem qOt (x : T_Bar) (v : Int) :
    pathOb Tryz.prog Tryz.f203 0 [rg 2, rg 8] [.code (bodyOf Tryz.f203)] (start Tryz.f203 [] 0 [brA x, .p (.int .i64 v)]) [] 1 [] (.p (.int .i64 (x.1 + x.2.1 - v))) =
    some [(NT 0 1),(NT 0 1),(R0 (x.1 + x.2.1)),(R1 (x.1 + x.2.1)),(R0 (x.1 + x.2.1 - v)),(R1 (x.1 + x.2.1 - v)),(AI ((x.1 + x.2.1 - v)))] := by kernel_rfl
theorem qCp (N m : Nat) (F T Q : Nat → Int) :
    pathOb Tryz.prog Tryz.f192 0 [rg 2, rg 14] [.code (bodyOf Tryz.f192)] (start Tryz.f192 [] 0 [pebD N m F T Q]) [160, 288, 416] 1 (pebR N m F T Q) (pebO N m 0) =
    some [(NT 0 1),(NL 0 0),(NL ((0 + N) * 8) 140737488355328),(NL (0 + N) 9223372036854775807),(NT 0 1),(NL 0 0),(NL ((0 + m) * 8) 140737488355328),(NL (0 + m) 9223372036854775807),(NT 0 1),(NL 0 0),(NL ((0 + m) * 8) 140737488355328),(NL (0 + m) 9223372036854775807),(NT 0 1),((true = true) →  (AN 1)),(NT 0 1),(AN 0),(((0 + N) : Nat) = N),(AN 0),(((0 + m) : Nat) = m),(AN 0),(((0 + m) : Nat) = m),(AN 1),(NL N (0 + N)),(AA N (fun i => [.p (.int .i64 (F i))])),(AN 1),(NL m (0 + m)),(AA m (fun i => [.p (.int .i64 (T i))])),(AN 1),(NL m (0 + m)),(AA m (fun i => [.p (.int .i64 (Q i))])),(AE N),(AE m),(AE m)] := by kernel_rfl
theorem qSz (g : Nat → T_Bar) (nb N m : Nat) (F T Q FR : Nat → Int) (a u : Int) :
    pieceOb Tryz.prog 0 [rg 3, rm [(1, oc (pebR N m F T Q) (pebO N m 0))] 2, rg 11, .head] [.code (bodyOf Tryz.f237)] (start Tryz.f237 [] 0 [grG g nb N, pebD N m F T Q, inD N FR, .p (.int .i64 a), .p (.int .i64 u)]) [0, 32, 64, 160, 128, 129, 130] 1 (SSc g nb N m F T Q FR (fun s => if s = u.toNat then F s - 1 else F s) T a u) =
    some ([.code (cAt (bodyOf Tryz.f237) [1, 1, 1, 0]), .code (cAt (bodyOf Tryz.f237) [1, 1, 1, 1])], [(NT 0 1),Con Tryz.prog 192 0 [] [(zf48 N F m T Q)] (zf25 N F m T Q) (.agg [.ar 1 0 0 N, .ar 1 1 0 m, .ar 1 2 0 m]),(NT 0 1),((true = true) →  (AN 1)),(NT 0 1),(NT 0 1),(IL 0 u),(IT u (↑N : Int)),(NT u.toNat N),(R0 (F u.toNat - 1)),(R1 (F u.toNat - 1)),(IL 0 u),(IT u (↑N : Int)),(NT u.toNat N),((false = true) →  ((N : Nat) = 1)),(AI ((↑N : Int))),(AN nb),(AP nb (fun i => [.int .i64 ((g i).1), .int .i64 ((g i).2.1)])),(AN N),(AP N (fun i => [.int .i64 (F i)])),(AN m),(AP m (fun i => [.int .i64 (T i)])),(AN m),(AP m (fun i => [.int .i64 (Q i)])),(AN N),(AP N (fun i => [.int .i64 (FR i)])),(AI a),(AI u),(AN 0),(AN 0),(AN 0),(AN 0),((([AV.p (PV.int IntKind.i64 (↑N : Int)), brL g nb].length) : Nat) = 2),(NL 1 1),(NL 1 1),(AI ((↑N : Int))),(AN nb),(AP nb (fun i => [.int .i64 ((g i).1), .int .i64 ((g i).2.1)])),((([inD N F, inD m T, inD m Q].length) : Nat) = 3),(NL 1 1),(NL 1 1),(AN N),(AP N (fun i => [.int .i64 (F i)])),(AN m),(AP m (fun i => [.int .i64 (T i)])),(AN m),(AP m (fun i => [.int .i64 (Q i)])),((((List.map (fun v => AV.p (absV v)) [Value.slice none 0 0, Value.slice none 0 0, Value.slice none 0 0]).length) : Nat) = 3),(NL 1 1),(NL 1 1),((((List.map (fun v => AV.p (absV v)) [Value.slice none 0 0, Value.slice none 0 0, Value.slice none 0 0]).length) : Nat) = 3),(NL 1 1),(NL 1 1),(AN 0),(AN N),(AN 0),(AN m),(AN 0),(AN m),(AN 1),(NL N N),(CV [(128, ⟨false, 1, N, (fun i_1 => (if (i_1 = u.toNat) then [.p (.int .i64 (F u.toNat - 1))] else [.p (.int .i64 (F i_1))]))⟩), (160, ⟨true, 3, 1, (fun i_1 => [.ar 1 128 0 N, .ar 1 129 0 m, .ar 1 130 0 m])⟩), (130, ⟨false, 1, m, (fun i_1 => [.p (.int .i64 (Q i_1))])⟩), (129, ⟨false, 1, m, (fun i_1 => [.p (.int .i64 (T i_1))])⟩), (64, ⟨true, 3, 1, (fun i_1 => [.p (.nil), .p (.nil), .p (.nil)])⟩), (32, ⟨true, 3, 1, (fun i_1 => [.p (.seq true 1 N (fun i_2 => [.int .i64 (F i_2)])), .p (.seq true 1 m (fun i_2 => [.int .i64 (T i_2)])), .p (.seq true 1 m (fun i_2 => [.int .i64 (Q i_2)]))])⟩), (0, ⟨true, 2, 1, (fun i_1 => [.p (.int .i64 (↑N : Int)), .p (.seq true 2 nb (fun i_2 => [.int .i64 ((g i_2).1), .int .i64 ((g i_2).2.1)]))])⟩)] [0, 32, 64, 160, 128, 129, 130] 1 N (fun i => if (i = u.toNat) then [.p (.int .i64 (F u.toNat - 1))] else [.p (.int .i64 (F i))]) (fun i => [.p (.int .i64 (if i = u.toNat then F i - 1 else F i))])),(AN 1),(NL m m),(AA m (fun i => [.p (.int .i64 (T i))])),(AN 1),(NL m m),(AA m (fun i => [.p (.int .i64 (Q i))]))]) := by kernel_rfl
theorem qSa (g : Nat → T_Bar) (nb N m : Nat) (F T Q FR F1 T1 : Nat → Int) (a u : Int) :
    pieceOb Tryz.prog 0 [rg 11, rg 2, .head] [.code (cAt (bodyOf Tryz.f237) [1, 1, 1, 0]), .code (cAt (bodyOf Tryz.f237) [1, 1, 1, 1])] (SSc g nb N m F T Q FR F1 T1 a u) [0, 1, 2, 3, 4, 5, 6] 1 (SSl g nb N m F T Q FR (fun s => if s = a.toNat then F1 s + 1 else F1 s) T1 a u u) =
    some (zf22, [(NT 0 1),(NT 0 1),(IL 0 a),(IT a (↑N : Int)),(NT a.toNat N),(R0 (F1 a.toNat + 1)),(R1 (F1 a.toNat + 1)),(IL 0 a),(IT a (↑N : Int)),(NT a.toNat N),((false = true) →  ((N : Nat) = 1)),(AI ((↑N : Int))),(AN nb),(AP nb (fun i => [.int .i64 ((g i).1), .int .i64 ((g i).2.1)])),(AN N),(AP N (fun i => [.int .i64 (F i)])),(AN m),(AP m (fun i => [.int .i64 (T i)])),(AN m),(AP m (fun i => [.int .i64 (Q i)])),(AN N),(AP N (fun i => [.int .i64 (FR i)])),(AI a),(AI u),(AN 0),(AN 0),(AN 0),(AN 0),(AI u),(AN 2),(NL 1 1),(NL 1 1),(AI ((↑N : Int))),(AN nb),(AP nb (fun i => [.int .i64 ((g i).1), .int .i64 ((g i).2.1)])),(AN 3),(NL 1 1),(NL 1 1),(AN N),(AP N (fun i => [.int .i64 (F i)])),(AN m),(AP m (fun i => [.int .i64 (T i)])),(AN m),(AP m (fun i => [.int .i64 (Q i)])),(AN 3),(NL 1 1),(NL 1 1),(AN 3),(NL 1 1),(NL 1 1),(AN 0),(AN N),(AN 0),(AN m),(AN 0),(AN m),(AN 1),(NL N N),(CV [(4, ⟨false, 1, N, (fun i_1 => (if (i_1 = a.toNat) then [.p (.int .i64 (F1 a.toNat + 1))] else [.p (.int .i64 (F1 i_1))]))⟩), (0, ⟨true, 2, 1, (fun i_1 => [.p (.int .i64 (↑N : Int)), .p (.seq true 2 nb (fun i_2 => [.int .i64 ((g i_2).1), .int .i64 ((g i_2).2.1)]))])⟩), (1, ⟨true, 3, 1, (fun i_1 => [.p (.seq true 1 N (fun i_2 => [.int .i64 (F i_2)])), .p (.seq true 1 m (fun i_2 => [.int .i64 (T i_2)])), .p (.seq true 1 m (fun i_2 => [.int .i64 (Q i_2)]))])⟩), (2, ⟨true, 3, 1, (fun i_1 => [.p (.nil), .p (.nil), .p (.nil)])⟩), (3, ⟨true, 3, 1, (fun i_1 => [.ar 1 4 0 N, .ar 1 5 0 m, .ar 1 6 0 m])⟩), (5, ⟨false, 1, m, (fun i_1 => [.p (.int .i64 (T1 i_1))])⟩), (6, ⟨false, 1, m, (fun i_1 => [.p (.int .i64 (Q i_1))])⟩)] [0, 1, 2, 3, 4, 5, 6] 1 N (fun i => if (i = a.toNat) then [.p (.int .i64 (F1 a.toNat + 1))] else [.p (.int .i64 (F1 i))]) (fun i => [.p (.int .i64 (if i = a.toNat then F1 i + 1 else F1 i))])),(AN 1),(NL m m),(AA m (fun i => [.p (.int .i64 (T1 i))])),(AN 1),(NL m m),(AA m (fun i => [.p (.int .i64 (Q i))]))]) := by kernel_rfl
theorem qSl (g : Nat → T_Bar) (nb N m : Nat) (F T Q FR F1 T1 : Nat → Int) (a u at' w : Int) :
    pieceOb Tryz.prog 0 [rg 3, .dec true, rg 5, rm [(10, oc [] (.p (.int .i64 w)))] 1, rg 6, rg 2, .head] zf22 (SSl g nb N m F T Q FR F1 T1 a u at') [0, 1, 2, 3, 4, 5, 6] 1 (SSl g nb N m F T Q FR F1 (fun s => if s = (FR at'.toNat).toNat then at' else T1 s) a u w) =
    some (zf22, [((at' != a) = true),(IL 0 (at')),(IT (at') (↑N : Int)),(NT 0 1),(NT 0 1),(IL 0 (FR at'.toNat)),(IT (FR at'.toNat) (↑m : Int)),(IL 0 (Q (FR at'.toNat).toNat)),(IT (Q (FR at'.toNat).toNat) (↑nb : Int)),Con Tryz.prog 203 0 [] [.agg [.p (.int .i64 ((g (Q (FR at'.toNat).toNat).toNat).1)), .p (.int .i64 ((g (Q (FR at'.toNat).toNat).toNat).2.1))], .p (.int .i64 at')] [] (.p (.int .i64 w)),(NT 0 1),(IL 0 (FR at'.toNat)),(IT (FR at'.toNat) (↑m : Int)),(NT ((FR at'.toNat).toNat) m),((false = true) →  ((m : Nat) = 1)),(AI ((↑N : Int))),(AN nb),(AP nb (fun i => [.int .i64 ((g i).1), .int .i64 ((g i).2.1)])),(AN N),(AP N (fun i => [.int .i64 (F i)])),(AN m),(AP m (fun i => [.int .i64 (T i)])),(AN m),(AP m (fun i => [.int .i64 (Q i)])),(AN N),(AP N (fun i => [.int .i64 (FR i)])),(AI a),(AI u),(AN 0),(AN 0),(AN 0),(AN 0),(AI w),(AN 2),(NL 1 1),(NL 1 1),(AI ((↑N : Int))),(AN nb),(AP nb (fun i => [.int .i64 ((g i).1), .int .i64 ((g i).2.1)])),(AN 3),(NL 1 1),(NL 1 1),(AN N),(AP N (fun i => [.int .i64 (F i)])),(AN m),(AP m (fun i => [.int .i64 (T i)])),(AN m),(AP m (fun i => [.int .i64 (Q i)])),(AN 3),(NL 1 1),(NL 1 1),(AN 3),(NL 1 1),(NL 1 1),(AN 0),(AN N),(AN 0),(AN m),(AN 0),(AN m),(AN 1),(NL N N),(AA N (fun i => [.p (.int .i64 (F1 i))])),(AN 1),(NL m m),(CV [(5, ⟨false, 1, m, (fun i_1 => (if (i_1 = (FR at'.toNat).toNat) then [.p (.int .i64 at')] else [.p (.int .i64 (T1 i_1))]))⟩), (0, ⟨true, 2, 1, (fun i_1 => [.p (.int .i64 (↑N : Int)), .p (.seq true 2 nb (fun i_2 => [.int .i64 ((g i_2).1), .int .i64 ((g i_2).2.1)]))])⟩), (1, ⟨true, 3, 1, (fun i_1 => [.p (.seq true 1 N (fun i_2 => [.int .i64 (F i_2)])), .p (.seq true 1 m (fun i_2 => [.int .i64 (T i_2)])), .p (.seq true 1 m (fun i_2 => [.int .i64 (Q i_2)]))])⟩), (2, ⟨true, 3, 1, (fun i_1 => [.p (.nil), .p (.nil), .p (.nil)])⟩), (3, ⟨true, 3, 1, (fun i_1 => [.ar 1 4 0 N, .ar 1 5 0 m, .ar 1 6 0 m])⟩), (4, ⟨false, 1, N, (fun i_1 => [.p (.int .i64 (F1 i_1))])⟩), (6, ⟨false, 1, m, (fun i_1 => [.p (.int .i64 (Q i_1))])⟩)] [0, 1, 2, 3, 4, 5, 6] 1 m (fun i => if (i = (FR at'.toNat).toNat) then [.p (.int .i64 at')] else [.p (.int .i64 (T1 i))]) (fun i => [.p (.int .i64 (if i = (FR at'.toNat).toNat then at' else T1 i))])),(AN 1),(NL m m),(AA m (fun i => [.p (.int .i64 (Q i))]))]) := by kernel_rfl
theorem qSe (g : Nat → T_Bar) (nb N m : Nat) (F T Q FR F1 T1 : Nat → Int) (a u at' : Int) :
    pathOb Tryz.prog Tryz.f237 0 [rg 3, .dec false, rg 2] zf22 (SSl g nb N m F T Q FR F1 T1 a u at') [4, 5, 6] 1 (pebR N m F1 T1 Q) (pebO N m 0) =
    some [((at' != a) = false),(NT 0 1),(NT 0 1),((true = true) →  (AN 1)),(NT 0 1),(AN 0),(AN N),(AN 0),(AN m),(AN 0),(AN m),(AN 1),(NL N N),(AA N (fun i => [.p (.int .i64 (F1 i))])),(AN 1),(NL m m),(AA m (fun i => [.p (.int .i64 (T1 i))])),(AN 1),(NL m m),(AA m (fun i => [.p (.int .i64 (Q i))])),(AE N),(AE m),(AE m)] := by kernel_rfl
theorem qFz (g : Nat → T_Bar) (nb N m : Nat) (F T Q : Nat → Int) (a b : Int) :
    pieceOb Tryz.prog 3 [rg 4, rg 4, rg 1, .head] [.code (bodyOf Tryz.f220)] (start Tryz.f220 (pebR N m F T Q) 3 [grG g nb N, pebO N m 0, .p (.int .i64 a), .p (.int .i64 b)]) [0, 1, 2, 3, 35, 67, 195] 1 (SF0 g nb N m F T Q a b 0) =
    some (zf49, [(NT 0 1),(IL 0 (↑N : Int)),(IL (↑N : Int) (↑N : Int)),(IL ((↑N : Int) * (↑8 : Int)) 281474976710656),(R1 (↑N : Int)),(AI ((↑N : Int))),(AN nb),(AP nb (fun i => [.int .i64 ((g i).1), .int .i64 ((g i).2.1)])),(AN 0),(AN N),(AN 0),(AN m),(AN 0),(AN m),(AI a),(AI b),(AN 0),(AN 0),(AN 0),(AN 0),(AN N),((0 : Int) = (↑0 : Int)),(AN 1),(NL N N),(AA N (fun i => [.p (.int .i64 (F i))])),(AN 1),(NL m m),(AA m (fun i => [.p (.int .i64 (T i))])),(AN 1),(NL m m),(AA m (fun i => [.p (.int .i64 (Q i))])),((([AV.p (PV.int IntKind.i64 (↑N : Int)), brL g nb].length) : Nat) = 2),(NL 1 1),(NL 1 1),(AI ((↑N : Int))),(AN nb),(AP nb (fun i => [.int .i64 ((g i).1), .int .i64 ((g i).2.1)])),((([AV.ar 1 0 0 N, AV.ar 1 1 0 m, AV.ar 1 2 0 m].length) : Nat) = 3),(NL 1 1),(NL 1 1),(AN 0),(AN N),(AN 0),(AN m),(AN 0),(AN m),((((List.map (fun v => AV.p (absV v)) [Value.slice none 0 0, Value.slice none 0 0, Value.slice none 0 0]).length) : Nat) = 3),(NL 1 1),(NL 1 1),(AN 1),(NL N N),(∀ i : Nat, (((i : Nat) < N) → (All [] ∧ (([.p (.int .i64 0)] : List AV) = [.p (.int .i64 (if i < 0 then -1 else 0))]))))]) := by kernel_rfl
theorem qF0 (g : Nat → T_Bar) (nb N m : Nat) (F T Q : Nat → Int) (a b : Int) (i : Nat) :
    pieceOb Tryz.prog 3 [rg 4, .dec true, rg 4, rg 3, .head] zf49 (SF0 g nb N m F T Q a b i) [0, 1, 2, 3, 4, 5, 6] 1 (SF0 g nb N m F T Q a b (i + 1)) =
    some (zf49, [(NT 0 1),((decide ((↑i : Int) < (↑N : Int))) = true),(IL 0 (↑i : Int)),(IT (↑i : Int) (↑N : Int)),(NT i N),((false = true) →  ((N : Nat) = 1)),(R0 ((↑i : Int) + 1)),(R1 ((↑i : Int) + 1)),(AI ((↑N : Int))),(AN nb),(AP nb (fun i_1 => [.int .i64 ((g i_1).1), .int .i64 ((g i_1).2.1)])),(AN 0),(AN N),(AN 0),(AN m),(AN 0),(AN m),(AI a),(AI b),(AN 0),(AN 0),(AN 0),(AN 0),(AN N),((((↑i : Int) + 1) : Int) = (↑(i + 1) : Int)),(AN 1),(NL N N),(AA N (fun i_1 => [.p (.int .i64 (F i_1))])),(AN 1),(NL m m),(AA m (fun i_1 => [.p (.int .i64 (T i_1))])),(AN 1),(NL m m),(AA m (fun i_1 => [.p (.int .i64 (Q i_1))])),(AN 2),(NL 1 1),(NL 1 1),(AI ((↑N : Int))),(AN nb),(AP nb (fun i_1 => [.int .i64 ((g i_1).1), .int .i64 ((g i_1).2.1)])),(AN 3),(NL 1 1),(NL 1 1),(AN 0),(AN N),(AN 0),(AN m),(AN 0),(AN m),(AN 3),(NL 1 1),(NL 1 1),(AN 1),(NL N N),(CV [(6, ⟨false, 1, N, (fun i_2 => (if (i_2 = i) then [.p (.int .i64 (-1))] else [.p (.int .i64 (if i_2 < i then -1 else 0))]))⟩), (0, ⟨false, 1, N, (fun i_2 => [.p (.int .i64 (F i_2))])⟩), (1, ⟨false, 1, m, (fun i_2 => [.p (.int .i64 (T i_2))])⟩), (2, ⟨false, 1, m, (fun i_2 => [.p (.int .i64 (Q i_2))])⟩), (3, ⟨true, 2, 1, (fun i_2 => [.p (.int .i64 (↑N : Int)), .p (.seq true 2 nb (fun i_3 => [.int .i64 ((g i_3).1), .int .i64 ((g i_3).2.1)]))])⟩), (4, ⟨true, 3, 1, (fun i_2 => [.ar 1 0 0 N, .ar 1 1 0 m, .ar 1 2 0 m])⟩), (5, ⟨true, 3, 1, (fun i_2 => [.p (.nil), .p (.nil), .p (.nil)])⟩)] [0, 1, 2, 3, 4, 5, 6] 1 N (fun i_1 => if (i_1 = i) then [.p (.int .i64 (-1))] else [.p (.int .i64 (if i_1 < i then -1 else 0))]) (fun i_1 => [.p (.int .i64 (if i_1 < i + 1 then -1 else 0))]))]) := by kernel_rfl
theorem qF01 (g : Nat → T_Bar) (nb N m : Nat) (F T Q : Nat → Int) (a b : Int) (i : Nat) :
    pieceOb Tryz.prog 3 [rg 4, .dec false, rg 3, rg 4, rg 4, rg 1, .head] zf49 (SF0 g nb N m F T Q a b i) [0, 1, 2, 3, 4, 5, 6, 295, 167] 1 (SF1 g nb N m F T Q (fun _ => a) (fun _ => -1) (fun s => if s = a.toNat then true else false) a b 0 1) =
    some (zf14, [(NT 0 1),((decide ((↑i : Int) < (↑N : Int))) = false),(NT 0 1),(IL 0 (↑N : Int)),(IL (↑N : Int) (↑N : Int)),(IL ((↑N : Int) * (↑1 : Int)) 281474976710656),(R1 (↑N : Int)),(IL 0 a),(IT a (↑N : Int)),(NT a.toNat N),((false = true) →  ((N : Nat) = 1)),(AI ((↑N : Int))),(AN nb),(AP nb (fun i_1 => [.int .i64 ((g i_1).1), .int .i64 ((g i_1).2.1)])),(AN 0),(AN N),(AN 0),(AN m),(AN 0),(AN m),(AI a),(AI b),(AN 0),(AN 0),(AN 0),(AN 0),(AN N),(AN 0),(AN 1),(AN 0),(AN N),((0 : Int) = (↑0 : Int)),(AN 1),(NL N N),(AA N (fun i_1 => [.p (.int .i64 (F i_1))])),(AN 1),(NL m m),(AA m (fun i_1 => [.p (.int .i64 (T i_1))])),(AN 1),(NL m m),(AA m (fun i_1 => [.p (.int .i64 (Q i_1))])),(AN 2),(NL 1 1),(NL 1 1),(AI ((↑N : Int))),(AN nb),(AP nb (fun i_1 => [.int .i64 ((g i_1).1), .int .i64 ((g i_1).2.1)])),(AN 3),(NL 1 1),(NL 1 1),(AN 0),(AN N),(AN 0),(AN m),(AN 0),(AN m),(AN 3),(NL 1 1),(NL 1 1),(AN 1),(NL N N),(∀ i_1 : Nat, (((i_1 : Nat) < N) → (All [] ∧ (([.p (.int .i64 (if i_1 < i then -1 else 0))] : List AV) = [.p (.int .i64 (-1))])))),(AN 1),(NL N N),(CV [(295, ⟨false, 1, N, (fun i_2 => (if (i_2 = a.toNat) then [.p (.bool true)] else [.p (.bool false)]))⟩), (167, ⟨false, 1, 1, (fun i_2 => [.p (.int .i64 a)])⟩), (0, ⟨false, 1, N, (fun i_2 => [.p (.int .i64 (F i_2))])⟩), (1, ⟨false, 1, m, (fun i_2 => [.p (.int .i64 (T i_2))])⟩), (2, ⟨false, 1, m, (fun i_2 => [.p (.int .i64 (Q i_2))])⟩), (3, ⟨true, 2, 1, (fun i_2 => [.p (.int .i64 (↑N : Int)), .p (.seq true 2 nb (fun i_3 => [.int .i64 ((g i_3).1), .int .i64 ((g i_3).2.1)]))])⟩), (4, ⟨true, 3, 1, (fun i_2 => [.ar 1 0 0 N, .ar 1 1 0 m, .ar 1 2 0 m])⟩), (5, ⟨true, 3, 1, (fun i_2 => [.p (.nil), .p (.nil), .p (.nil)])⟩), (6, ⟨false, 1, N, (fun i_2 => [.p (.int .i64 (if i_2 < i then -1 else 0))])⟩)] [0, 1, 2, 3, 4, 5, 6, 295, 167] 1 N (fun i_1 => if (i_1 = a.toNat) then [.p (.bool true)] else [.p (.bool false)]) (fun i_1 => [.p (.bool (if i_1 = a.toNat then true else false))])),(AN 1),(NL 1 1),(AA 1 (fun i_1 => [.p (.int .i64 a)]))]) := by kernel_rfl
theorem qF1 (g : Nat → T_Bar) (nb N m : Nat) (F T Q td FR : Nat → Int) (SN : Nat → Bool) (a b : Int) (i tn : Nat) :
    pieceOb Tryz.prog 3 [rg 4, .dec true, rg 5, rg 1, .head] zf14 (SF1 g nb N m F T Q td FR SN a b i tn) [0, 1, 2, 3, 4, 5, 6, 7, 8] 1 (SF2 g nb N m F T Q td FR SN a b (td i) i 0 tn) =
    some (zf7, [((decide ((↑i : Int) < (↑tn : Int))) = true),(IL 0 (↑i : Int)),(IT (↑i : Int) (↑tn : Int)),(NT i tn),(AI ((↑N : Int))),(AN nb),(AP nb (fun i_1 => [.int .i64 ((g i_1).1), .int .i64 ((g i_1).2.1)])),(AN 0),(AN N),(AN 0),(AN m),(AN 0),(AN m),(AI a),(AI b),(AN 0),(AN 0),(AN 0),(AN 0),(AN N),(AN 0),(AN tn),(AN 0),(AN N),(AI ((↑i : Int))),(AI ((td i))),((0 : Int) = (↑0 : Int)),(AN 1),(NL N N),(AA N (fun i_1 => [.p (.int .i64 (F i_1))])),(AN 1),(NL m m),(AA m (fun i_1 => [.p (.int .i64 (T i_1))])),(AN 1),(NL m m),(AA m (fun i_1 => [.p (.int .i64 (Q i_1))])),(AN 2),(NL 1 1),(NL 1 1),(AI ((↑N : Int))),(AN nb),(AP nb (fun i_1 => [.int .i64 ((g i_1).1), .int .i64 ((g i_1).2.1)])),(AN 3),(NL 1 1),(NL 1 1),(AN 0),(AN N),(AN 0),(AN m),(AN 0),(AN m),(AN 3),(NL 1 1),(NL 1 1),(AN 1),(NL N N),(AA N (fun i_1 => [.p (.int .i64 (FR i_1))])),(AN 1),(NL N N),(AA N (fun i_1 => [.p (.bool (SN i_1))])),(AN 1),(NL tn tn),(AA tn (fun i_1 => [.p (.int .i64 (td i_1))]))]) := by kernel_rfl
theorem qF1e (g : Nat → T_Bar) (nb N m : Nat) (F T Q td FR : Nat → Int) (SN : Nat → Bool) (a b : Int) (i tn : Nat) :
    pathOb Tryz.prog Tryz.f220 3 [rg 4, .dec false, rg 3] zf14 (SF1 g nb N m F T Q td FR SN a b i tn) [0, 1, 2] 1 (pebR N m F T Q) (.tup [pebO N m 0, .p (.bool false)]) =
    some [((decide ((↑i : Int) < (↑tn : Int))) = false),(NT 0 1),(NT 0 1),((true = true) →  (AN 1)),(NT 0 1),(AN 0),(AN N),(AN 0),(AN m),(AN 0),(AN m),(false = false),(AN 1),(NL N N),(AA N (fun i_1 => [.p (.int .i64 (F i_1))])),(AN 1),(NL m m),(AA m (fun i_1 => [.p (.int .i64 (T i_1))])),(AN 1),(NL m m),(AA m (fun i_1 => [.p (.int .i64 (Q i_1))])),(AE N),(AE m),(AE m)] := by kernel_rfl
theorem qF2e (g : Nat → T_Bar) (nb N m : Nat) (F T Q td FR : Nat → Int) (SN : Nat → Bool) (a b v : Int) (i j tn : Nat) :
    pieceOb Tryz.prog 3 [rg 5, .dec false, rg 3, .head] zf7 (SF2 g nb N m F T Q td FR SN a b v i j tn) [0, 1, 2, 3, 4, 5, 6, 7, 8] 1 (SF1 g nb N m F T Q td FR SN a b (i + 1) tn) =
    some (zf14, [(NT 0 1),((decide ((↑j : Int) < (↑m : Int))) = false),(R0 ((↑i : Int) + 1)),(R1 ((↑i : Int) + 1)),(AI ((↑N : Int))),(AN nb),(AP nb (fun i_1 => [.int .i64 ((g i_1).1), .int .i64 ((g i_1).2.1)])),(AN 0),(AN N),(AN 0),(AN m),(AN 0),(AN m),(AI a),(AI b),(AN 0),(AN 0),(AN 0),(AN 0),(AN N),(AN 0),(AN tn),(AN 0),(AN N),((((↑i : Int) + 1) : Int) = (↑(i + 1) : Int)),(AN 1),(NL N N),(AA N (fun i_1 => [.p (.int .i64 (F i_1))])),(AN 1),(NL m m),(AA m (fun i_1 => [.p (.int .i64 (T i_1))])),(AN 1),(NL m m),(AA m (fun i_1 => [.p (.int .i64 (Q i_1))])),(AN 2),(NL 1 1),(NL 1 1),(AI ((↑N : Int))),(AN nb),(AP nb (fun i_1 => [.int .i64 ((g i_1).1), .int .i64 ((g i_1).2.1)])),(AN 3),(NL 1 1),(NL 1 1),(AN 0),(AN N),(AN 0),(AN m),(AN 0),(AN m),(AN 3),(NL 1 1),(NL 1 1),(AN 1),(NL N N),(AA N (fun i_1 => [.p (.int .i64 (FR i_1))])),(AN 1),(NL N N),(AA N (fun i_1 => [.p (.bool (SN i_1))])),(AN 1),(NL tn tn),(AA tn (fun i_1 => [.p (.int .i64 (td i_1))]))]) := by kernel_rfl
theorem qF2a (g : Nat → T_Bar) (nb N m : Nat) (F T Q td FR : Nat → Int) (SN : Nat → Bool) (a b v : Int) (i j tn : Nat) :
    pieceOb Tryz.prog 3 [rg 5, .dec true, rg 7, .dec true, rg 3, .head] zf7 (SF2 g nb N m F T Q td FR SN a b v i j tn) [0, 1, 2, 3, 4, 5, 6, 7, 8] 1 (SF2 g nb N m F T Q td FR SN a b v i (j + 1) tn) =
    some (zf7, [(NT 0 1),((decide ((↑j : Int) < (↑m : Int))) = true),(NT 0 1),(IL 0 (↑j : Int)),(IT (↑j : Int) (↑m : Int)),(NT j m),((T j != v) = true),(R0 ((↑j : Int) + 1)),(R1 ((↑j : Int) + 1)),(AI ((↑N : Int))),(AN nb),(AP nb (fun i_1 => [.int .i64 ((g i_1).1), .int .i64 ((g i_1).2.1)])),(AN 0),(AN N),(AN 0),(AN m),(AN 0),(AN m),(AI a),(AI b),(AN 0),(AN 0),(AN 0),(AN 0),(AN N),(AN 0),(AN tn),(AN 0),(AN N),(AI ((↑i : Int))),(AI v),((((↑j : Int) + 1) : Int) = (↑(j + 1) : Int)),(AN 1),(NL N N),(AA N (fun i_1 => [.p (.int .i64 (F i_1))])),(AN 1),(NL m m),(AA m (fun i_1 => [.p (.int .i64 (T i_1))])),(AN 1),(NL m m),(AA m (fun i_1 => [.p (.int .i64 (Q i_1))])),(AN 2),(NL 1 1),(NL 1 1),(AI ((↑N : Int))),(AN nb),(AP nb (fun i_1 => [.int .i64 ((g i_1).1), .int .i64 ((g i_1).2.1)])),(AN 3),(NL 1 1),(NL 1 1),(AN 0),(AN N),(AN 0),(AN m),(AN 0),(AN m),(AN 3),(NL 1 1),(NL 1 1),(AN 1),(NL N N),(AA N (fun i_1 => [.p (.int .i64 (FR i_1))])),(AN 1),(NL N N),(AA N (fun i_1 => [.p (.bool (SN i_1))])),(AN 1),(NL tn tn),(AA tn (fun i_1 => [.p (.int .i64 (td i_1))]))]) := by kernel_rfl
theorem qF2b (g : Nat → T_Bar) (nb N m : Nat) (F T Q td FR : Nat → Int) (SN : Nat → Bool) (a b v u : Int) (i j tn : Nat) :
    pieceOb Tryz.prog 3 [rg 5, .dec true, rg 7, .dec false, rm [(10, oc [] (.p (.int .i64 u)))] 1, rg 4, .dec true, rg 3, .head] zf7 (SF2 g nb N m F T Q td FR SN a b v i j tn) [0, 1, 2, 3, 4, 5, 6, 7, 8] 1 (SF2 g nb N m F T Q td FR SN a b v i (j + 1) tn) =
    some (zf7, [(NT 0 1),((decide ((↑j : Int) < (↑m : Int))) = true),(NT 0 1),(IL 0 (↑j : Int)),(IT (↑j : Int) (↑m : Int)),(NT j m),((T j != v) = false),(NT 0 1),(NT 0 1),(IL 0 (↑j : Int)),(IT (↑j : Int) (↑m : Int)),(NT j m),(IL 0 (Q j)),(IT (Q j) (↑nb : Int)),Con Tryz.prog 203 0 [] [(zf84 g Q j), .p (.int .i64 v)] [] (.p (.int .i64 u)),(IL 0 u),(IT u (↑N : Int)),(NT u.toNat N),((SN u.toNat) = true),(R0 ((↑j : Int) + 1)),(R1 ((↑j : Int) + 1)),(AI ((↑N : Int))),(AN nb),(AP nb (fun i_1 => [.int .i64 ((g i_1).1), .int .i64 ((g i_1).2.1)])),(AN 0),(AN N),(AN 0),(AN m),(AN 0),(AN m),(AI a),(AI b),(AN 0),(AN 0),(AN 0),(AN 0),(AN N),(AN 0),(AN tn),(AN 0),(AN N),(AI ((↑i : Int))),(AI v),((((↑j : Int) + 1) : Int) = (↑(j + 1) : Int)),(AN 1),(NL N N),(AA N (fun i_1 => [.p (.int .i64 (F i_1))])),(AN 1),(NL m m),(AA m (fun i_1 => [.p (.int .i64 (T i_1))])),(AN 1),(NL m m),(AA m (fun i_1 => [.p (.int .i64 (Q i_1))])),(AN 2),(NL 1 1),(NL 1 1),(AI ((↑N : Int))),(AN nb),(AP nb (fun i_1 => [.int .i64 ((g i_1).1), .int .i64 ((g i_1).2.1)])),(AN 3),(NL 1 1),(NL 1 1),(AN 0),(AN N),(AN 0),(AN m),(AN 0),(AN m),(AN 3),(NL 1 1),(NL 1 1),(AN 1),(NL N N),(AA N (fun i_1 => [.p (.int .i64 (FR i_1))])),(AN 1),(NL N N),(AA N (fun i_1 => [.p (.bool (SN i_1))])),(AN 1),(NL tn tn),(AA tn (fun i_1 => [.p (.int .i64 (td i_1))]))]) := by kernel_rfl
theorem qF2c (g : Nat → T_Bar) (nb N m : Nat) (F T Q td FR : Nat → Int) (SN : Nat → Bool) (a b v u : Int) (i j tn : Nat) :
    pieceOb Tryz.prog 3 [rg 5, .dec true, rg 7, .dec false, rm [(10, oc [] (.p (.int .i64 u)))] 1, rg 4, .dec false, rg 4, rg 5, rg 11, .dec false, rg 5, rg 3, .head] zf7 (SF2 g nb N m F T Q td FR SN a b v i j tn) [0, 1, 2, 3, 4, 5, 6, 7, 1641] 1 (SF2 g nb N m F T Q (fun s => if s < tn then td s else u) (fun s => if s = u.toNat then j else FR s) (fun s => if s = u.toNat then true else SN s) a b v i (j + 1) (tn + 1)) =
    some (zf7, [(NT 0 1),((decide ((↑j : Int) < (↑m : Int))) = true),(NT 0 1),(IL 0 (↑j : Int)),(IT (↑j : Int) (↑m : Int)),(NT j m),((T j != v) = false),(NT 0 1),(NT 0 1),(IL 0 (↑j : Int)),(IT (↑j : Int) (↑m : Int)),(NT j m),(IL 0 (Q j)),(IT (Q j) (↑nb : Int)),Con Tryz.prog 203 0 [] [(zf84 g Q j), .p (.int .i64 v)] [] (.p (.int .i64 u)),(IL 0 u),(IT u (↑N : Int)),(NT u.toNat N),((SN u.toNat) = false),(IL 0 u),(IT u (↑N : Int)),(NT u.toNat N),((false = true) →  ((N : Nat) = 1)),(IL 0 u),(IT u (↑N : Int)),(NT u.toNat N),((false = true) →  ((N : Nat) = 1)),(AG (u != b)),(((u != b) = true) → (NT 0 1)),(AG (u != b)),(AG (u != b)),(((u != b) = true) → (IL 0 u)),(((u != b) = true) → (IT u (↑N : Int))),(AG (u != b)),(((u != b) = true) → (NT u.toNat N)),(AG (u != b)),(AG (u != b)),((bif u != b then decide (F (u.toNat + 0) > 0) else false) = false),(NL 1 1),(NL tn tn),(NL ((tn + 1) * 8) 140737488355328),(NL (tn + 1) 9223372036854775807),(R0 ((↑j : Int) + 1)),(R1 ((↑j : Int) + 1)),(AI ((↑N : Int))),(AN nb),(AP nb (fun i_1 => [.int .i64 ((g i_1).1), .int .i64 ((g i_1).2.1)])),(AN 0),(AN N),(AN 0),(AN m),(AN 0),(AN m),(AI a),(AI b),(AN 0),(AN 0),(AN 0),(AN 0),(AN N),(AN 0),(AN ((tn + 1))),(AN 0),(AN N),(AI ((↑i : Int))),(AI v),((((↑j : Int) + 1) : Int) = (↑(j + 1) : Int)),(AN 1),(NL N N),(AA N (fun i_1 => [.p (.int .i64 (F i_1))])),(AN 1),(NL m m),(AA m (fun i_1 => [.p (.int .i64 (T i_1))])),(AN 1),(NL m m),(AA m (fun i_1 => [.p (.int .i64 (Q i_1))])),(AN 2),(NL 1 1),(NL 1 1),(AI ((↑N : Int))),(AN nb),(AP nb (fun i_1 => [.int .i64 ((g i_1).1), .int .i64 ((g i_1).2.1)])),(AN 3),(NL 1 1),(NL 1 1),(AN 0),(AN N),(AN 0),(AN m),(AN 0),(AN m),(AN 3),(NL 1 1),(NL 1 1),(AN 1),(NL N N),(CV [(1641, ⟨false, 1, (tn + 1), (fun i_2 => (if (i_2 < tn) then [.p (.int .i64 (td i_2))] else [.p (.int .i64 u)]))⟩), (1609, ⟨false, 1, 1, (fun i_2 => [.p (.int .i64 u)])⟩), (6, ⟨false, 1, N, (fun i_2 => (if (i_2 = u.toNat) then [.p (.int .i64 (↑j : Int))] else [.p (.int .i64 (FR i_2))]))⟩), (7, ⟨false, 1, N, (fun i_2 => (if (i_2 = u.toNat) then [.p (.bool true)] else [.p (.bool (SN i_2))]))⟩), (0, ⟨false, 1, N, (fun i_2 => [.p (.int .i64 (F i_2))])⟩), (1, ⟨false, 1, m, (fun i_2 => [.p (.int .i64 (T i_2))])⟩), (2, ⟨false, 1, m, (fun i_2 => [.p (.int .i64 (Q i_2))])⟩), (3, ⟨true, 2, 1, (fun i_2 => [.p (.int .i64 (↑N : Int)), .p (.seq true 2 nb (fun i_3 => [.int .i64 ((g i_3).1), .int .i64 ((g i_3).2.1)]))])⟩), (4, ⟨true, 3, 1, (fun i_2 => [.ar 1 0 0 N, .ar 1 1 0 m, .ar 1 2 0 m])⟩), (5, ⟨true, 3, 1, (fun i_2 => [.p (.nil), .p (.nil), .p (.nil)])⟩)] [0, 1, 2, 3, 4, 5, 6, 7, 1641] 1 N (fun i_1 => if (i_1 = u.toNat) then [.p (.int .i64 (↑j : Int))] else [.p (.int .i64 (FR i_1))]) (fun i_1 => [.p (.int .i64 (if i_1 = u.toNat then (↑j : Int) else FR i_1))])),(AN 1),(NL N N),(CV [(1641, ⟨false, 1, (tn + 1), (fun i_2 => (if (i_2 < tn) then [.p (.int .i64 (td i_2))] else [.p (.int .i64 u)]))⟩), (1609, ⟨false, 1, 1, (fun i_2 => [.p (.int .i64 u)])⟩), (6, ⟨false, 1, N, (fun i_2 => (if (i_2 = u.toNat) then [.p (.int .i64 (↑j : Int))] else [.p (.int .i64 (FR i_2))]))⟩), (7, ⟨false, 1, N, (fun i_2 => (if (i_2 = u.toNat) then [.p (.bool true)] else [.p (.bool (SN i_2))]))⟩), (0, ⟨false, 1, N, (fun i_2 => [.p (.int .i64 (F i_2))])⟩), (1, ⟨false, 1, m, (fun i_2 => [.p (.int .i64 (T i_2))])⟩), (2, ⟨false, 1, m, (fun i_2 => [.p (.int .i64 (Q i_2))])⟩), (3, ⟨true, 2, 1, (fun i_2 => [.p (.int .i64 (↑N : Int)), .p (.seq true 2 nb (fun i_3 => [.int .i64 ((g i_3).1), .int .i64 ((g i_3).2.1)]))])⟩), (4, ⟨true, 3, 1, (fun i_2 => [.ar 1 0 0 N, .ar 1 1 0 m, .ar 1 2 0 m])⟩), (5, ⟨true, 3, 1, (fun i_2 => [.p (.nil), .p (.nil), .p (.nil)])⟩)] [0, 1, 2, 3, 4, 5, 6, 7, 1641] 1 N (fun i_1 => if (i_1 = u.toNat) then [.p (.bool true)] else [.p (.bool (SN i_1))]) (fun i_1 => [.p (.bool (if i_1 = u.toNat then true else SN i_1))])),(AN 1),(NL (tn + 1) (tn + 1)),(CV [(1641, ⟨false, 1, (tn + 1), (fun i_2 => (if (i_2 < tn) then [.p (.int .i64 (td i_2))] else [.p (.int .i64 u)]))⟩), (1609, ⟨false, 1, 1, (fun i_2 => [.p (.int .i64 u)])⟩), (6, ⟨false, 1, N, (fun i_2 => (if (i_2 = u.toNat) then [.p (.int .i64 (↑j : Int))] else [.p (.int .i64 (FR i_2))]))⟩), (7, ⟨false, 1, N, (fun i_2 => (if (i_2 = u.toNat) then [.p (.bool true)] else [.p (.bool (SN i_2))]))⟩), (0, ⟨false, 1, N, (fun i_2 => [.p (.int .i64 (F i_2))])⟩), (1, ⟨false, 1, m, (fun i_2 => [.p (.int .i64 (T i_2))])⟩), (2, ⟨false, 1, m, (fun i_2 => [.p (.int .i64 (Q i_2))])⟩), (3, ⟨true, 2, 1, (fun i_2 => [.p (.int .i64 (↑N : Int)), .p (.seq true 2 nb (fun i_3 => [.int .i64 ((g i_3).1), .int .i64 ((g i_3).2.1)]))])⟩), (4, ⟨true, 3, 1, (fun i_2 => [.ar 1 0 0 N, .ar 1 1 0 m, .ar 1 2 0 m])⟩), (5, ⟨true, 3, 1, (fun i_2 => [.p (.nil), .p (.nil), .p (.nil)])⟩)] [0, 1, 2, 3, 4, 5, 6, 7, 1641] 1 (tn + 1) (fun i_1 => if (i_1 < tn) then [.p (.int .i64 (td i_1))] else [.p (.int .i64 u)]) (fun i_1 => [.p (.int .i64 (if i_1 < tn then td i_1 else u))]))]) := by kernel_rfl
theorem qF2d (g : Nat → T_Bar) (nb N m : Nat) (F T Q td FR : Nat → Int) (SN : Nat → Bool) (a b v u : Int) (i j tn : Nat) :
    pieceOb Tryz.prog 3 [rg 5, .dec true, rg 7, .dec false, rm [(10, oc [] (.p (.int .i64 u)))] 1, rg 4, .dec false, rg 4, rg 5, rg 11, .dec true, .head] zf7 (SF2 g nb N m F T Q td FR SN a b v i j tn) [0, 1, 2, 3, 4, 5, 6] 1 (SF3 g nb N m F T Q (fun s => if s = u.toNat then j else FR s) a b u) =
    some (zf2, [(NT 0 1),((decide ((↑j : Int) < (↑m : Int))) = true),(NT 0 1),(IL 0 (↑j : Int)),(IT (↑j : Int) (↑m : Int)),(NT j m),((T j != v) = false),(NT 0 1),(NT 0 1),(IL 0 (↑j : Int)),(IT (↑j : Int) (↑m : Int)),(NT j m),(IL 0 (Q j)),(IT (Q j) (↑nb : Int)),Con Tryz.prog 203 0 [] [(zf84 g Q j), .p (.int .i64 v)] [] (.p (.int .i64 u)),(IL 0 u),(IT u (↑N : Int)),(NT u.toNat N),((SN u.toNat) = false),(IL 0 u),(IT u (↑N : Int)),(NT u.toNat N),((false = true) →  ((N : Nat) = 1)),(IL 0 u),(IT u (↑N : Int)),(NT u.toNat N),((false = true) →  ((N : Nat) = 1)),(AG (u != b)),(((u != b) = true) → (NT 0 1)),(AG (u != b)),(AG (u != b)),(((u != b) = true) → (IL 0 u)),(((u != b) = true) → (IT u (↑N : Int))),(AG (u != b)),(((u != b) = true) → (NT u.toNat N)),(AG (u != b)),(AG (u != b)),((bif u != b then decide (F (u.toNat + 0) > 0) else false) = true),(AI ((↑N : Int))),(AN nb),(AP nb (fun i_1 => [.int .i64 ((g i_1).1), .int .i64 ((g i_1).2.1)])),(AN 0),(AN N),(AN 0),(AN m),(AN 0),(AN m),(AI a),(AI b),(AN 0),(AN 0),(AN 0),(AN 0),(AN N),(AI u),(AN 1),(NL N N),(AA N (fun i_1 => [.p (.int .i64 (F i_1))])),(AN 1),(NL m m),(AA m (fun i_1 => [.p (.int .i64 (T i_1))])),(AN 1),(NL m m),(AA m (fun i_1 => [.p (.int .i64 (Q i_1))])),(AN 2),(NL 1 1),(NL 1 1),(AI ((↑N : Int))),(AN nb),(AP nb (fun i_1 => [.int .i64 ((g i_1).1), .int .i64 ((g i_1).2.1)])),(AN 3),(NL 1 1),(NL 1 1),(AN 0),(AN N),(AN 0),(AN m),(AN 0),(AN m),(AN 3),(NL 1 1),(NL 1 1),(AN 1),(NL N N),(CV [(6, ⟨false, 1, N, (fun i_2 => (if (i_2 = u.toNat) then [.p (.int .i64 (↑j : Int))] else [.p (.int .i64 (FR i_2))]))⟩), (7, ⟨false, 1, N, (fun i_2 => (if (i_2 = u.toNat) then [.p (.bool true)] else [.p (.bool (SN i_2))]))⟩), (0, ⟨false, 1, N, (fun i_2 => [.p (.int .i64 (F i_2))])⟩), (1, ⟨false, 1, m, (fun i_2 => [.p (.int .i64 (T i_2))])⟩), (2, ⟨false, 1, m, (fun i_2 => [.p (.int .i64 (Q i_2))])⟩), (3, ⟨true, 2, 1, (fun i_2 => [.p (.int .i64 (↑N : Int)), .p (.seq true 2 nb (fun i_3 => [.int .i64 ((g i_3).1), .int .i64 ((g i_3).2.1)]))])⟩), (4, ⟨true, 3, 1, (fun i_2 => [.ar 1 0 0 N, .ar 1 1 0 m, .ar 1 2 0 m])⟩), (5, ⟨true, 3, 1, (fun i_2 => [.p (.nil), .p (.nil), .p (.nil)])⟩), (8, ⟨false, 1, tn, (fun i_2 => [.p (.int .i64 (td i_2))])⟩)] [0, 1, 2, 3, 4, 5, 6] 1 N (fun i_1 => if (i_1 = u.toNat) then [.p (.int .i64 (↑j : Int))] else [.p (.int .i64 (FR i_1))]) (fun i_1 => [.p (.int .i64 (if i_1 = u.toNat then (↑j : Int) else FR i_1))]))]) := by kernel_rfl
theorem qF3 (g : Nat → T_Bar) (nb N m : Nat) (F T Q FR F1 T1 : Nat → Int) (a b u : Int) :
    pathOb Tryz.prog Tryz.f220 3 [rm [(5, oc (pebR N m F1 T1 Q) (pebO N m 0))] 2] zf2 (SF3 g nb N m F T Q FR a b u) [0, 1, 2, 167, 168, 169] 1 (pebR3 N m F T Q F1 T1 Q) (.tup [pebO N m 3, .p (.bool true)]) =
    some [(NT 0 1),(NT 0 1),(AN 1),(NL N N),(AN 1),(NL m m),(AN 1),(NL m m),(AN 1),(NL N N),Con Tryz.prog 237 0 [] [(zf78 N nb g), (zf48 N F m T Q), .p (.seq true 1 N (fun i => [.int .i64 (FR i)])), .p (.int .i64 a), .p (.int .i64 u)] (zf25 N F1 m T1 Q) (.agg [.ar 1 0 0 N, .ar 1 1 0 m, .ar 1 2 0 m]),(NT 0 1),((true = true) →  (AN 1)),(NT 0 1),(AN 0),(AN N),(AN 0),(AN m),(AN 0),(AN m),(true = true),(AN 1),(NL N N),(AA N (fun i => [.p (.int .i64 (F i))])),(AN 1),(NL m m),(AA m (fun i => [.p (.int .i64 (T i))])),(AN 1),(NL m m),(AA m (fun i => [.p (.int .i64 (Q i))])),(AN 1),(NL N N),(AA N (fun i => [.p (.int .i64 (F1 i))])),(AN 1),(NL m m),(AA m (fun i => [.p (.int .i64 (T1 i))])),(AN 1),(NL m m),(AA m (fun i => [.p (.int .i64 (Q i))])),(AE N),(AE m),(AE m),(AE N),(AE m),(AE m)] := by kernel_rfl
end Go.Proofs.YtffnfeefjdmifaaGreat.Mach
namespace Go.Proofs.YtffnfeefjdmifaaGreat.Mach
open Go
set_option linter.unusedVariables false
set_option linter.unusedSimpArgs false
def inB (x a b : Int) : Bool := decide (a ≤ x) && decide (x ≤ b)
theorem p36 (x a b : Int) :
    pathOb Tryz.prog Tryz.f95 0 [rg 1, rg 9] [.code (bodyOf Tryz.f95)] (start Tryz.f95 [] 0 [.p (.int .i64 x), .p (.int .i64 a), .p (.int .i64 b)]) [] 1 [] (.p (.bool (inB x a b))) =
    some [(AG (decide (x ≥ a))),(AG (decide (x ≥ a))),(AG (decide (x ≥ a))),((bif decide (x ≥ a) then decide (x ≤ b) else false) = (inB x a b))] := by kernel_rfl
theorem p37 (x a b : Int) :
    pathOb Tryz.prog Tryz.f104 0 [rg 1, rg 9] [.code (bodyOf Tryz.f104)] (start Tryz.f104 [] 0 [.p (.int .i64 x), .p (.int .i64 a), .p (.int .i64 b)]) [] 1 [] (.p (.bool (inB x a b))) =
    some [(AG (decide (x ≥ a))),(AG (decide (x ≥ a))),(AG (decide (x ≥ a))),((bif decide (x ≥ a) then decide (x ≤ b) else false) = (inB x a b))] := by kernel_rfl
theorem con_l1In (x a b : Int) : Con Tryz.prog 95 0 [] [.p (.int .i64 x), .p (.int .i64 a), .p (.int .i64 b)] [] (.p (.bool (inB x a b))) := by
  refine con_start Tryz.func95 rfl (by kernel_rfl) rfl (fun c hc => ?_)
  refine path_ok mixed Tryz.func95 hc (p36 x a b) ?_
  simp only [All]
  repeat' (first | exact trivial | with_reducible apply And.intro)
  all_goals (first | exact aG _ | omega | rfl | (intros; first | assumption | exact trivial | rfl | exact fT ‹_› | ((repeat' (first | assumption | apply anda | apply notf)); done)) | (simp only [inB]; cases decide (a ≤ x) <;> rfl))
theorem con_within (x a b : Int) : Con Tryz.prog 104 0 [] [.p (.int .i64 x), .p (.int .i64 a), .p (.int .i64 b)] [] (.p (.bool (inB x a b))) := by
  refine con_start Tryz.func104 rfl (by kernel_rfl) rfl (fun c hc => ?_)
  refine path_ok mixed Tryz.func104 hc (p37 x a b) ?_
  simp only [All]
  repeat' (first | exact trivial | with_reducible apply And.intro)
  all_goals (first | exact aG _ | omega | rfl | (intros; first | assumption | exact trivial | rfl | exact fT ‹_› | ((repeat' (first | assumption | apply anda | apply notf)); done)) | (simp only [inB]; cases decide (a ≤ x) <;> rfl))
end Go.Proofs.YtffnfeefjdmifaaGreat.Mach
namespace Go.Proofs.YtffnfeefjdmifaaGreat.Mach
open Go
set_option linter.unusedVariables false
set_option linter.unusedSimpArgs false
def aft (a b : T_Bar) : Bool := bif decide (a.1 < b.1) then true else bif a.1 == b.1 then decide (a.2.1 ≤ b.2.1) else false
def cmpI (x y : Int) : Int := if x < y then -1 else if x > y then 1 else 0
def cmpB (a b : T_Bar) : Int := if cmpI a.1 b.1 = 0 then cmpI a.2.1 b.2.1 else cmpI a.1 b.1
def badB (N : Int) (g : Nat → T_Bar) (k : Nat) : Bool :=
  bif bif bif decide ((g k).1 < 0) then true else decide ((g k).1 ≥ (g k).2.1) then true else decide ((g k).2.1 ≥ N) then true
    else bif decide ((k : Int) > 0) then !aft (g ((k : Int) - 1).toNat) (g k) else false
def goodB (N : Int) (g : Nat → T_Bar) : Nat → Bool
  | 0 => true
  | k + 1 => goodB N g k && !badB N g k
def isGraphF (v : T_Graph) : Bool := if inB v.1 1 8 = true ∧ v.2.1.1 ≤ 24 then goodB v.1 v.2.1.2 v.2.1.1 else false
def barA (a : T_Bar) : AV := .agg [.p (.int .i64 a.1), .p (.int .i64 a.2.1)]
def graphL (v : T_BarS) : AV := .p (.seq true 2 v.1 (fun i => [.int .i64 (v.2 i).1, .int .i64 (v.2 i).2.1]))
def graphA (v : T_Graph) : AV := .agg [.p (.int .i64 v.1), graphL v.2.1]
def boxG (v : T_Graph) : Ob := ⟨true, 2, 1, fun i => [.p (.int .i64 v.1), graphL v.2.1]⟩
def S48 (v : T_Graph) (k : Nat) : St :=
  ⟨[graphA v, .pt 2 0 0 0, .p .any, .p (.int .i64 k)] ++ List.replicate 55 anyA, [(0, boxG v)], 1⟩
def S51 (v : T_Graph) (k : Nat) : St :=
  ⟨[graphA v, .pt 2 0 0 0] ++ List.replicate 14 anyA ++ [graphL v.2.1, .p (.int .i64 v.2.1.1), .p (.int .i64 k)] ++ List.replicate 37 anyA, [(0, boxG v)], 1⟩
theorem p57 (a b : T_Bar) :
    pathOb Tryz.prog Tryz.f96 0 [rg 3, rg 20] [.code (bodyOf Tryz.f96)] (start Tryz.f96 [] 0 [barA a, barA b]) [] 1 [] (.p (.bool (aft a b))) =
    some [(NT 0 1),(NT 0 1),(AG (!decide (a.1 < b.1))),(((!decide (a.1 < b.1)) = true) → (NT 0 1)),(AG (!decide (a.1 < b.1))),(((!decide (a.1 < b.1)) = true) → (NT 0 1)),(AG (!decide (a.1 < b.1))),(AG (!decide (a.1 < b.1))),(AG (!decide (a.1 < b.1))),(AG (!decide (a.1 < b.1) && a.1 == b.1)),(((!decide (a.1 < b.1) && a.1 == b.1) = true) → (NT 0 1)),(AG (!decide (a.1 < b.1) && a.1 == b.1)),(((!decide (a.1 < b.1) && a.1 == b.1) = true) → (NT 0 1)),(AG (!decide (a.1 < b.1) && a.1 == b.1)),(AG (!decide (a.1 < b.1) && a.1 == b.1)),(AG (!decide (a.1 < b.1))),(((!decide (a.1 < b.1)) = true) → (((a.1 == b.1) = true) →  ((!decide (a.1 < b.1) && a.1 == b.1) = true))),(((decide (a.1 < b.1)) = false) →  ((!decide (a.1 < b.1)) = true)),((bif decide (a.1 < b.1) then true else bif a.1 == b.1 then decide (a.2.1 ≤ b.2.1) else false) = (aft a b))] := by kernel_rfl
theorem p62a (x y : Int) :
    pathOb Tryz.prog Tryz.f154 0 [rg 1, rg 4, .dec true, rg 1] [.code (bodyOf Tryz.f154)] (start Tryz.f154 [] 0 [.p (.int .i64 x), .p (.int .i64 y)]) [] 1 [] (.p (.int .i64 (-1))) =
    some [((decide (x < y)) = true),(AI ((-1)))] := by kernel_rfl
theorem p62b (x y : Int) :
    pathOb Tryz.prog Tryz.f154 0 [rg 1, rg 4, .dec false, rg 4, .dec true, rg 1] [.code (bodyOf Tryz.f154)] (start Tryz.f154 [] 0 [.p (.int .i64 x), .p (.int .i64 y)]) [] 1 [] (.p (.int .i64 1)) =
    some [((decide (x < y)) = false),((decide (x > y)) = true),(AI 1)] := by kernel_rfl
theorem p62c (x y : Int) :
    pathOb Tryz.prog Tryz.f154 0 [rg 1, rg 4, .dec false, rg 4, .dec false, rg 1] [.code (bodyOf Tryz.f154)] (start Tryz.f154 [] 0 [.p (.int .i64 x), .p (.int .i64 y)]) [] 1 [] (.p (.int .i64 0)) =
    some [((decide (x < y)) = false),((decide (x > y)) = false),(AI 0)] := by kernel_rfl
theorem p59a (a b : T_Bar) :
    pathOb Tryz.prog Tryz.f105 0 [rg 3, rm [(4, oc [] (.p (.int .i64 (cmpI a.1 b.1))))] 1, rg 2, .dec true, rg 2] [.code (bodyOf Tryz.f105)] (start Tryz.f105 [] 0 [barA a, barA b]) [] 1 [] (.p (.int .i64 (cmpI a.1 b.1))) =
    some [(NT 0 1),(NT 0 1),Con Tryz.prog 154 0 [] [.p (.int .i64 a.1), .p (.int .i64 b.1)] [] (.p (.int .i64 (cmpI a.1 b.1))),((cmpI a.1 b.1 != 0) = true),(AI ((cmpI a.1 b.1)))] := by kernel_rfl
theorem p59b (a b : T_Bar) :
    pathOb Tryz.prog Tryz.f105 0 [rg 3, rm [(4, oc [] (.p (.int .i64 (cmpI a.1 b.1))))] 1, rg 2, .dec false, rm [(4, oc [] (.p (.int .i64 (cmpI a.2.1 b.2.1))))] 1] [.code (bodyOf Tryz.f105)] (start Tryz.f105 [] 0 [barA a, barA b]) [] 1 [] (.p (.int .i64 (cmpI a.2.1 b.2.1))) =
    some [(NT 0 1),(NT 0 1),Con Tryz.prog 154 0 [] [.p (.int .i64 a.1), .p (.int .i64 b.1)] [] (.p (.int .i64 (cmpI a.1 b.1))),((cmpI a.1 b.1 != 0) = false),(NT 0 1),(NT 0 1),Con Tryz.prog 154 0 [] [.p (.int .i64 a.2.1), .p (.int .i64 b.2.1)] [] (.p (.int .i64 (cmpI a.2.1 b.2.1))),(AI ((cmpI a.2.1 b.2.1)))] := by kernel_rfl
theorem p48z (v : T_Graph) :
    pathOb Tryz.prog Tryz.f22 0 [rg 2, rm [(2, oc [] (.p (.bool (inB v.1 1 8))))] 7, .dec true, rg 1] [.code (bodyOf Tryz.f22)] (start Tryz.f22 [] 0 [graphA v]) [] 1 [] (.p (.bool false)) =
    some [(NT 0 1),Con Tryz.prog 95 0 [] [.p (.int .i64 v.1), .p (.int .i64 1), .p (.int .i64 8)] [] (.p (.bool (inB v.1 1 8))),(AG (!!inB v.1 1 8)),(((!!inB v.1 1 8) = true) → (NT 0 1)),(AG (!!inB v.1 1 8)),(AG (!!inB v.1 1 8)),(((!inB v.1 1 8) = false) →  ((!!inB v.1 1 8) = true)),((bif !inB v.1 1 8 then true else decide ((↑v.2.1.1 : Int) > 24)) = true),(false = false)] := by kernel_rfl
theorem p48a (v : T_Graph) :
    pieceOb Tryz.prog 0 [rg 2, rm [(2, oc [] (.p (.bool (inB v.1 1 8))))] 7, .dec false, rg 1, .head] [.code (bodyOf Tryz.f22)] (start Tryz.f22 [] 0 [graphA v]) [0] 1 (S48 v 0) =
    some (zf62, [(NT 0 1),Con Tryz.prog 95 0 [] [.p (.int .i64 v.1), .p (.int .i64 1), .p (.int .i64 8)] [] (.p (.bool (inB v.1 1 8))),(AG (!!inB v.1 1 8)),(((!!inB v.1 1 8) = true) → (NT 0 1)),(AG (!!inB v.1 1 8)),(AG (!!inB v.1 1 8)),(((!inB v.1 1 8) = false) →  ((!!inB v.1 1 8) = true)),((bif !inB v.1 1 8 then true else decide ((↑v.2.1.1 : Int) > 24)) = false),(AI v.1),(AN v.2.1.1),(AP v.2.1.1 (fun i => [.int .i64 ((v.2.1.2 i).1), .int .i64 ((v.2.1.2 i).2.1)])),(AN 0),((0 : Int) = (↑0 : Int)),((([AV.p (PV.int IntKind.i64 v.1), graphL v.2.1].length) : Nat) = 2),(NL 1 1),(NL 1 1),(AI v.1),(AN v.2.1.1),(AP v.2.1.1 (fun i => [.int .i64 ((v.2.1.2 i).1), .int .i64 ((v.2.1.2 i).2.1)]))]) := by kernel_rfl
theorem p48b (v : T_Graph) (k : Nat) :
    pieceOb Tryz.prog 0 [rg 5, .dec true, rg 7, rm [(28, oc [] (.p (.bool (aft (v.2.1.2 ((k : Int) - 1).toNat) (v.2.1.2 k)))))] 3, .dec false, rg 3, .head] zf62 (S48 v k) [0] 1 (S48 v (k + 1)) =
    some (zf62, [(NT 0 1),((decide ((↑k : Int) < (↑v.2.1.1 : Int))) = true),(NT 0 1),(IL 0 (↑k : Int)),(IT (↑k : Int) (↑v.2.1.1 : Int)),(NT 0 1),((true = true) →  (AN 1)),(NT 0 1),(AG (!decide ((v.2.1.2 (↑k : Int).toNat).1 < 0))),(((!decide ((v.2.1.2 (↑k : Int).toNat).1 < 0)) = true) → (NT 0 1)),(AG (!decide ((v.2.1.2 (↑k : Int).toNat).1 < 0))),(((!decide ((v.2.1.2 (↑k : Int).toNat).1 < 0)) = true) → (NT 0 1)),(AG (!decide ((v.2.1.2 (↑k : Int).toNat).1 < 0))),(AG (!decide ((v.2.1.2 (↑k : Int).toNat).1 < 0))),(((decide ((v.2.1.2 (↑k : Int).toNat).1 < 0)) = false) →  ((!decide ((v.2.1.2 (↑k : Int).toNat).1 < 0)) = true)),(AG (!bif decide ((v.2.1.2 (↑k : Int).toNat).1 < 0) then true else decide ((v.2.1.2 (↑k : Int).toNat).1 ≥ (v.2.1.2 (↑k : Int).toNat).2.1))),(((!bif decide ((v.2.1.2 (↑k : Int).toNat).1 < 0) then true else decide ((v.2.1.2 (↑k : Int).toNat).1 ≥ (v.2.1.2 (↑k : Int).toNat).2.1)) = true) → (NT 0 1)),(AG (!bif decide ((v.2.1.2 (↑k : Int).toNat).1 < 0) then true else decide ((v.2.1.2 (↑k : Int).toNat).1 ≥ (v.2.1.2 (↑k : Int).toNat).2.1))),(((!bif decide ((v.2.1.2 (↑k : Int).toNat).1 < 0) then true else decide ((v.2.1.2 (↑k : Int).toNat).1 ≥ (v.2.1.2 (↑k : Int).toNat).2.1)) = true) → (NT 0 1)),(AG (!bif decide ((v.2.1.2 (↑k : Int).toNat).1 < 0) then true else decide ((v.2.1.2 (↑k : Int).toNat).1 ≥ (v.2.1.2 (↑k : Int).toNat).2.1))),(AG (!bif decide ((v.2.1.2 (↑k : Int).toNat).1 < 0) then true else decide ((v.2.1.2 (↑k : Int).toNat).1 ≥ (v.2.1.2 (↑k : Int).toNat).2.1))),(((bif decide ((v.2.1.2 (↑k : Int).toNat).1 < 0) then true else decide ((v.2.1.2 (↑k : Int).toNat).1 ≥ (v.2.1.2 (↑k : Int).toNat).2.1)) = false) →  ((!bif decide ((v.2.1.2 (↑k : Int).toNat).1 < 0) then true else decide ((v.2.1.2 (↑k : Int).toNat).1 ≥ (v.2.1.2 (↑k : Int).toNat).2.1)) = true)),(AG (!bif bif decide ((v.2.1.2 (↑k : Int).toNat).1 < 0) then true else decide ((v.2.1.2 (↑k : Int).toNat).1 ≥ (v.2.1.2 (↑k : Int).toNat).2.1) then true else decide ((v.2.1.2 (↑k : Int).toNat).2.1 ≥ v.1))),(AG (!bif bif decide ((v.2.1.2 (↑k : Int).toNat).1 < 0) then true else decide ((v.2.1.2 (↑k : Int).toNat).1 ≥ (v.2.1.2 (↑k : Int).toNat).2.1) then true else decide ((v.2.1.2 (↑k : Int).toNat).2.1 ≥ v.1))),(AG ((!bif bif decide ((v.2.1.2 (↑k : Int).toNat).1 < 0) then true else decide ((v.2.1.2 (↑k : Int).toNat).1 ≥ (v.2.1.2 (↑k : Int).toNat).2.1) then true else decide ((v.2.1.2 (↑k : Int).toNat).2.1 ≥ v.1)) && decide ((↑k : Int) > 0))),((((!bif bif decide ((v.2.1.2 (↑k : Int).toNat).1 < 0) then true else decide ((v.2.1.2 (↑k : Int).toNat).1 ≥ (v.2.1.2 (↑k : Int).toNat).2.1) then true else decide ((v.2.1.2 (↑k : Int).toNat).2.1 ≥ v.1)) && decide ((↑k : Int) > 0)) = true) → (NT 0 1)),(AG ((!bif bif decide ((v.2.1.2 (↑k : Int).toNat).1 < 0) then true else decide ((v.2.1.2 (↑k : Int).toNat).1 ≥ (v.2.1.2 (↑k : Int).toNat).2.1) then true else decide ((v.2.1.2 (↑k : Int).toNat).2.1 ≥ v.1)) && decide ((↑k : Int) > 0))),((((!bif bif decide ((v.2.1.2 (↑k : Int).toNat).1 < 0) then true else decide ((v.2.1.2 (↑k : Int).toNat).1 ≥ (v.2.1.2 (↑k : Int).toNat).2.1) then true else decide ((v.2.1.2 (↑k : Int).toNat).2.1 ≥ v.1)) && decide ((↑k : Int) > 0)) = true) → (R0 ((↑k : Int) - 1))),((((!bif bif decide ((v.2.1.2 (↑k : Int).toNat).1 < 0) then true else decide ((v.2.1.2 (↑k : Int).toNat).1 ≥ (v.2.1.2 (↑k : Int).toNat).2.1) then true else decide ((v.2.1.2 (↑k : Int).toNat).2.1 ≥ v.1)) && decide ((↑k : Int) > 0)) = true) → (R1 ((↑k : Int) - 1))),(AG ((!bif bif decide ((v.2.1.2 (↑k : Int).toNat).1 < 0) then true else decide ((v.2.1.2 (↑k : Int).toNat).1 ≥ (v.2.1.2 (↑k : Int).toNat).2.1) then true else decide ((v.2.1.2 (↑k : Int).toNat).2.1 ≥ v.1)) && decide ((↑k : Int) > 0))),(AG ((!bif bif decide ((v.2.1.2 (↑k : Int).toNat).1 < 0) then true else decide ((v.2.1.2 (↑k : Int).toNat).1 ≥ (v.2.1.2 (↑k : Int).toNat).2.1) then true else decide ((v.2.1.2 (↑k : Int).toNat).2.1 ≥ v.1)) && decide ((↑k : Int) > 0))),((((!bif bif decide ((v.2.1.2 (↑k : Int).toNat).1 < 0) then true else decide ((v.2.1.2 (↑k : Int).toNat).1 ≥ (v.2.1.2 (↑k : Int).toNat).2.1) then true else decide ((v.2.1.2 (↑k : Int).toNat).2.1 ≥ v.1)) && decide ((↑k : Int) > 0)) = true) → (IL 0 ((↑k : Int) - 1))),((((!bif bif decide ((v.2.1.2 (↑k : Int).toNat).1 < 0) then true else decide ((v.2.1.2 (↑k : Int).toNat).1 ≥ (v.2.1.2 (↑k : Int).toNat).2.1) then true else decide ((v.2.1.2 (↑k : Int).toNat).2.1 ≥ v.1)) && decide ((↑k : Int) > 0)) = true) → (IT ((↑k : Int) - 1) (↑v.2.1.1 : Int))),(AG ((!bif bif decide ((v.2.1.2 (↑k : Int).toNat).1 < 0) then true else decide ((v.2.1.2 (↑k : Int).toNat).1 ≥ (v.2.1.2 (↑k : Int).toNat).2.1) then true else decide ((v.2.1.2 (↑k : Int).toNat).2.1 ≥ v.1)) && decide ((↑k : Int) > 0))),((((!bif bif decide ((v.2.1.2 (↑k : Int).toNat).1 < 0) then true else decide ((v.2.1.2 (↑k : Int).toNat).1 ≥ (v.2.1.2 (↑k : Int).toNat).2.1) then true else decide ((v.2.1.2 (↑k : Int).toNat).2.1 ≥ v.1)) && decide ((↑k : Int) > 0)) = true) → (NT 0 1)),(AG ((!bif bif decide ((v.2.1.2 (↑k : Int).toNat).1 < 0) then true else decide ((v.2.1.2 (↑k : Int).toNat).1 ≥ (v.2.1.2 (↑k : Int).toNat).2.1) then true else decide ((v.2.1.2 (↑k : Int).toNat).2.1 ≥ v.1)) && decide ((↑k : Int) > 0))),(AG ((!bif bif decide ((v.2.1.2 (↑k : Int).toNat).1 < 0) then true else decide ((v.2.1.2 (↑k : Int).toNat).1 ≥ (v.2.1.2 (↑k : Int).toNat).2.1) then true else decide ((v.2.1.2 (↑k : Int).toNat).2.1 ≥ v.1)) && decide ((↑k : Int) > 0))),((((!bif bif decide ((v.2.1.2 (↑k : Int).toNat).1 < 0) then true else decide ((v.2.1.2 (↑k : Int).toNat).1 ≥ (v.2.1.2 (↑k : Int).toNat).2.1) then true else decide ((v.2.1.2 (↑k : Int).toNat).2.1 ≥ v.1)) && decide ((↑k : Int) > 0)) = true) →  Con Tryz.prog 96 0 [] [(zf77 v k), (zf86 v k)] [] (.p (.bool (aft (v.2.1.2 ((↑k : Int) - 1).toNat) (v.2.1.2 k))))),(AG ((!bif bif decide ((v.2.1.2 (↑k : Int).toNat).1 < 0) then true else decide ((v.2.1.2 (↑k : Int).toNat).1 ≥ (v.2.1.2 (↑k : Int).toNat).2.1) then true else decide ((v.2.1.2 (↑k : Int).toNat).2.1 ≥ v.1)) && decide ((↑k : Int) > 0))),(AG (!bif bif decide ((v.2.1.2 (↑k : Int).toNat).1 < 0) then true else decide ((v.2.1.2 (↑k : Int).toNat).1 ≥ (v.2.1.2 (↑k : Int).toNat).2.1) then true else decide ((v.2.1.2 (↑k : Int).toNat).2.1 ≥ v.1))),(((!bif bif decide ((v.2.1.2 (↑k : Int).toNat).1 < 0) then true else decide ((v.2.1.2 (↑k : Int).toNat).1 ≥ (v.2.1.2 (↑k : Int).toNat).2.1) then true else decide ((v.2.1.2 (↑k : Int).toNat).2.1 ≥ v.1)) = true) → (((decide ((↑k : Int) > 0)) = true) →  (((!bif bif decide ((v.2.1.2 (↑k : Int).toNat).1 < 0) then true else decide ((v.2.1.2 (↑k : Int).toNat).1 ≥ (v.2.1.2 (↑k : Int).toNat).2.1) then true else decide ((v.2.1.2 (↑k : Int).toNat).2.1 ≥ v.1)) && decide ((↑k : Int) > 0)) = true))),(((bif bif decide ((v.2.1.2 (↑k : Int).toNat).1 < 0) then true else decide ((v.2.1.2 (↑k : Int).toNat).1 ≥ (v.2.1.2 (↑k : Int).toNat).2.1) then true else decide ((v.2.1.2 (↑k : Int).toNat).2.1 ≥ v.1)) = false) →  ((!bif bif decide ((v.2.1.2 (↑k : Int).toNat).1 < 0) then true else decide ((v.2.1.2 (↑k : Int).toNat).1 ≥ (v.2.1.2 (↑k : Int).toNat).2.1) then true else decide ((v.2.1.2 (↑k : Int).toNat).2.1 ≥ v.1)) = true)),((bif bif bif decide ((v.2.1.2 (↑k : Int).toNat).1 < 0) then true else decide ((v.2.1.2 (↑k : Int).toNat).1 ≥ (v.2.1.2 (↑k : Int).toNat).2.1) then true else decide ((v.2.1.2 (↑k : Int).toNat).2.1 ≥ v.1) then true else bif decide ((↑k : Int) > 0) then !aft (v.2.1.2 ((↑k : Int) - 1).toNat) (v.2.1.2 k) else false) = false),(R0 ((↑k : Int) + 1)),(R1 ((↑k : Int) + 1)),(AI v.1),(AN v.2.1.1),(AP v.2.1.1 (fun i => [.int .i64 ((v.2.1.2 i).1), .int .i64 ((v.2.1.2 i).2.1)])),(AN 0),((((↑k : Int) + 1) : Int) = (↑(k + 1) : Int)),(AN 2),(NL 1 1),(NL 1 1),(AI v.1),(AN v.2.1.1),(AP v.2.1.1 (fun i => [.int .i64 ((v.2.1.2 i).1), .int .i64 ((v.2.1.2 i).2.1)]))]) := by kernel_rfl
theorem p48c (v : T_Graph) (k : Nat) :
    pathOb Tryz.prog Tryz.f22 0 [rg 5, .dec true, rg 7, rm [(28, oc [] (.p (.bool (aft (v.2.1.2 ((k : Int) - 1).toNat) (v.2.1.2 k)))))] 3, .dec true, rg 1] zf62 (S48 v k) [] 1 [] (.p (.bool false)) =
    some [(NT 0 1),((decide ((↑k : Int) < (↑v.2.1.1 : Int))) = true),(NT 0 1),(IL 0 (↑k : Int)),(IT (↑k : Int) (↑v.2.1.1 : Int)),(NT 0 1),((true = true) →  (AN 1)),(NT 0 1),(AG (!decide ((v.2.1.2 (↑k : Int).toNat).1 < 0))),(((!decide ((v.2.1.2 (↑k : Int).toNat).1 < 0)) = true) → (NT 0 1)),(AG (!decide ((v.2.1.2 (↑k : Int).toNat).1 < 0))),(((!decide ((v.2.1.2 (↑k : Int).toNat).1 < 0)) = true) → (NT 0 1)),(AG (!decide ((v.2.1.2 (↑k : Int).toNat).1 < 0))),(AG (!decide ((v.2.1.2 (↑k : Int).toNat).1 < 0))),(((decide ((v.2.1.2 (↑k : Int).toNat).1 < 0)) = false) →  ((!decide ((v.2.1.2 (↑k : Int).toNat).1 < 0)) = true)),(AG (!bif decide ((v.2.1.2 (↑k : Int).toNat).1 < 0) then true else decide ((v.2.1.2 (↑k : Int).toNat).1 ≥ (v.2.1.2 (↑k : Int).toNat).2.1))),(((!bif decide ((v.2.1.2 (↑k : Int).toNat).1 < 0) then true else decide ((v.2.1.2 (↑k : Int).toNat).1 ≥ (v.2.1.2 (↑k : Int).toNat).2.1)) = true) → (NT 0 1)),(AG (!bif decide ((v.2.1.2 (↑k : Int).toNat).1 < 0) then true else decide ((v.2.1.2 (↑k : Int).toNat).1 ≥ (v.2.1.2 (↑k : Int).toNat).2.1))),(((!bif decide ((v.2.1.2 (↑k : Int).toNat).1 < 0) then true else decide ((v.2.1.2 (↑k : Int).toNat).1 ≥ (v.2.1.2 (↑k : Int).toNat).2.1)) = true) → (NT 0 1)),(AG (!bif decide ((v.2.1.2 (↑k : Int).toNat).1 < 0) then true else decide ((v.2.1.2 (↑k : Int).toNat).1 ≥ (v.2.1.2 (↑k : Int).toNat).2.1))),(AG (!bif decide ((v.2.1.2 (↑k : Int).toNat).1 < 0) then true else decide ((v.2.1.2 (↑k : Int).toNat).1 ≥ (v.2.1.2 (↑k : Int).toNat).2.1))),(((bif decide ((v.2.1.2 (↑k : Int).toNat).1 < 0) then true else decide ((v.2.1.2 (↑k : Int).toNat).1 ≥ (v.2.1.2 (↑k : Int).toNat).2.1)) = false) →  ((!bif decide ((v.2.1.2 (↑k : Int).toNat).1 < 0) then true else decide ((v.2.1.2 (↑k : Int).toNat).1 ≥ (v.2.1.2 (↑k : Int).toNat).2.1)) = true)),(AG (!bif bif decide ((v.2.1.2 (↑k : Int).toNat).1 < 0) then true else decide ((v.2.1.2 (↑k : Int).toNat).1 ≥ (v.2.1.2 (↑k : Int).toNat).2.1) then true else decide ((v.2.1.2 (↑k : Int).toNat).2.1 ≥ v.1))),(AG (!bif bif decide ((v.2.1.2 (↑k : Int).toNat).1 < 0) then true else decide ((v.2.1.2 (↑k : Int).toNat).1 ≥ (v.2.1.2 (↑k : Int).toNat).2.1) then true else decide ((v.2.1.2 (↑k : Int).toNat).2.1 ≥ v.1))),(AG ((!bif bif decide ((v.2.1.2 (↑k : Int).toNat).1 < 0) then true else decide ((v.2.1.2 (↑k : Int).toNat).1 ≥ (v.2.1.2 (↑k : Int).toNat).2.1) then true else decide ((v.2.1.2 (↑k : Int).toNat).2.1 ≥ v.1)) && decide ((↑k : Int) > 0))),((((!bif bif decide ((v.2.1.2 (↑k : Int).toNat).1 < 0) then true else decide ((v.2.1.2 (↑k : Int).toNat).1 ≥ (v.2.1.2 (↑k : Int).toNat).2.1) then true else decide ((v.2.1.2 (↑k : Int).toNat).2.1 ≥ v.1)) && decide ((↑k : Int) > 0)) = true) → (NT 0 1)),(AG ((!bif bif decide ((v.2.1.2 (↑k : Int).toNat).1 < 0) then true else decide ((v.2.1.2 (↑k : Int).toNat).1 ≥ (v.2.1.2 (↑k : Int).toNat).2.1) then true else decide ((v.2.1.2 (↑k : Int).toNat).2.1 ≥ v.1)) && decide ((↑k : Int) > 0))),((((!bif bif decide ((v.2.1.2 (↑k : Int).toNat).1 < 0) then true else decide ((v.2.1.2 (↑k : Int).toNat).1 ≥ (v.2.1.2 (↑k : Int).toNat).2.1) then true else decide ((v.2.1.2 (↑k : Int).toNat).2.1 ≥ v.1)) && decide ((↑k : Int) > 0)) = true) → (R0 ((↑k : Int) - 1))),((((!bif bif decide ((v.2.1.2 (↑k : Int).toNat).1 < 0) then true else decide ((v.2.1.2 (↑k : Int).toNat).1 ≥ (v.2.1.2 (↑k : Int).toNat).2.1) then true else decide ((v.2.1.2 (↑k : Int).toNat).2.1 ≥ v.1)) && decide ((↑k : Int) > 0)) = true) → (R1 ((↑k : Int) - 1))),(AG ((!bif bif decide ((v.2.1.2 (↑k : Int).toNat).1 < 0) then true else decide ((v.2.1.2 (↑k : Int).toNat).1 ≥ (v.2.1.2 (↑k : Int).toNat).2.1) then true else decide ((v.2.1.2 (↑k : Int).toNat).2.1 ≥ v.1)) && decide ((↑k : Int) > 0))),(AG ((!bif bif decide ((v.2.1.2 (↑k : Int).toNat).1 < 0) then true else decide ((v.2.1.2 (↑k : Int).toNat).1 ≥ (v.2.1.2 (↑k : Int).toNat).2.1) then true else decide ((v.2.1.2 (↑k : Int).toNat).2.1 ≥ v.1)) && decide ((↑k : Int) > 0))),((((!bif bif decide ((v.2.1.2 (↑k : Int).toNat).1 < 0) then true else decide ((v.2.1.2 (↑k : Int).toNat).1 ≥ (v.2.1.2 (↑k : Int).toNat).2.1) then true else decide ((v.2.1.2 (↑k : Int).toNat).2.1 ≥ v.1)) && decide ((↑k : Int) > 0)) = true) → (IL 0 ((↑k : Int) - 1))),((((!bif bif decide ((v.2.1.2 (↑k : Int).toNat).1 < 0) then true else decide ((v.2.1.2 (↑k : Int).toNat).1 ≥ (v.2.1.2 (↑k : Int).toNat).2.1) then true else decide ((v.2.1.2 (↑k : Int).toNat).2.1 ≥ v.1)) && decide ((↑k : Int) > 0)) = true) → (IT ((↑k : Int) - 1) (↑v.2.1.1 : Int))),(AG ((!bif bif decide ((v.2.1.2 (↑k : Int).toNat).1 < 0) then true else decide ((v.2.1.2 (↑k : Int).toNat).1 ≥ (v.2.1.2 (↑k : Int).toNat).2.1) then true else decide ((v.2.1.2 (↑k : Int).toNat).2.1 ≥ v.1)) && decide ((↑k : Int) > 0))),((((!bif bif decide ((v.2.1.2 (↑k : Int).toNat).1 < 0) then true else decide ((v.2.1.2 (↑k : Int).toNat).1 ≥ (v.2.1.2 (↑k : Int).toNat).2.1) then true else decide ((v.2.1.2 (↑k : Int).toNat).2.1 ≥ v.1)) && decide ((↑k : Int) > 0)) = true) → (NT 0 1)),(AG ((!bif bif decide ((v.2.1.2 (↑k : Int).toNat).1 < 0) then true else decide ((v.2.1.2 (↑k : Int).toNat).1 ≥ (v.2.1.2 (↑k : Int).toNat).2.1) then true else decide ((v.2.1.2 (↑k : Int).toNat).2.1 ≥ v.1)) && decide ((↑k : Int) > 0))),(AG ((!bif bif decide ((v.2.1.2 (↑k : Int).toNat).1 < 0) then true else decide ((v.2.1.2 (↑k : Int).toNat).1 ≥ (v.2.1.2 (↑k : Int).toNat).2.1) then true else decide ((v.2.1.2 (↑k : Int).toNat).2.1 ≥ v.1)) && decide ((↑k : Int) > 0))),((((!bif bif decide ((v.2.1.2 (↑k : Int).toNat).1 < 0) then true else decide ((v.2.1.2 (↑k : Int).toNat).1 ≥ (v.2.1.2 (↑k : Int).toNat).2.1) then true else decide ((v.2.1.2 (↑k : Int).toNat).2.1 ≥ v.1)) && decide ((↑k : Int) > 0)) = true) →  Con Tryz.prog 96 0 [] [(zf77 v k), (zf86 v k)] [] (.p (.bool (aft (v.2.1.2 ((↑k : Int) - 1).toNat) (v.2.1.2 k))))),(AG ((!bif bif decide ((v.2.1.2 (↑k : Int).toNat).1 < 0) then true else decide ((v.2.1.2 (↑k : Int).toNat).1 ≥ (v.2.1.2 (↑k : Int).toNat).2.1) then true else decide ((v.2.1.2 (↑k : Int).toNat).2.1 ≥ v.1)) && decide ((↑k : Int) > 0))),(AG (!bif bif decide ((v.2.1.2 (↑k : Int).toNat).1 < 0) then true else decide ((v.2.1.2 (↑k : Int).toNat).1 ≥ (v.2.1.2 (↑k : Int).toNat).2.1) then true else decide ((v.2.1.2 (↑k : Int).toNat).2.1 ≥ v.1))),(((!bif bif decide ((v.2.1.2 (↑k : Int).toNat).1 < 0) then true else decide ((v.2.1.2 (↑k : Int).toNat).1 ≥ (v.2.1.2 (↑k : Int).toNat).2.1) then true else decide ((v.2.1.2 (↑k : Int).toNat).2.1 ≥ v.1)) = true) → (((decide ((↑k : Int) > 0)) = true) →  (((!bif bif decide ((v.2.1.2 (↑k : Int).toNat).1 < 0) then true else decide ((v.2.1.2 (↑k : Int).toNat).1 ≥ (v.2.1.2 (↑k : Int).toNat).2.1) then true else decide ((v.2.1.2 (↑k : Int).toNat).2.1 ≥ v.1)) && decide ((↑k : Int) > 0)) = true))),(((bif bif decide ((v.2.1.2 (↑k : Int).toNat).1 < 0) then true else decide ((v.2.1.2 (↑k : Int).toNat).1 ≥ (v.2.1.2 (↑k : Int).toNat).2.1) then true else decide ((v.2.1.2 (↑k : Int).toNat).2.1 ≥ v.1)) = false) →  ((!bif bif decide ((v.2.1.2 (↑k : Int).toNat).1 < 0) then true else decide ((v.2.1.2 (↑k : Int).toNat).1 ≥ (v.2.1.2 (↑k : Int).toNat).2.1) then true else decide ((v.2.1.2 (↑k : Int).toNat).2.1 ≥ v.1)) = true)),((bif bif bif decide ((v.2.1.2 (↑k : Int).toNat).1 < 0) then true else decide ((v.2.1.2 (↑k : Int).toNat).1 ≥ (v.2.1.2 (↑k : Int).toNat).2.1) then true else decide ((v.2.1.2 (↑k : Int).toNat).2.1 ≥ v.1) then true else bif decide ((↑k : Int) > 0) then !aft (v.2.1.2 ((↑k : Int) - 1).toNat) (v.2.1.2 k) else false) = true),(false = false)] := by kernel_rfl
theorem p48d (v : T_Graph) (k : Nat) :
    pathOb Tryz.prog Tryz.f22 0 [rg 5, .dec false, rg 1] zf62 (S48 v k) [] 1 [] (.p (.bool true)) =
    some [(NT 0 1),((decide ((↑k : Int) < (↑v.2.1.1 : Int))) = false),(true = true)] := by kernel_rfl
theorem p51z (v : T_Graph) :
    pathOb Tryz.prog Tryz.f35 0 [rg 2, rm [(2, oc [] (.p (.bool (inB v.1 1 8))))] 7, .dec true, rg 1] [.code (bodyOf Tryz.f35)] (start Tryz.f35 [] 0 [graphA v]) [] 1 [] (.p (.bool false)) =
    some [(NT 0 1),Con Tryz.prog 104 0 [] [.p (.int .i64 v.1), .p (.int .i64 1), .p (.int .i64 8)] [] (.p (.bool (inB v.1 1 8))),(AG (!!inB v.1 1 8)),(((!!inB v.1 1 8) = true) → (NT 0 1)),(AG (!!inB v.1 1 8)),(AG (!!inB v.1 1 8)),(((!inB v.1 1 8) = false) →  ((!!inB v.1 1 8) = true)),((bif !inB v.1 1 8 then true else decide ((↑v.2.1.1 : Int) > 24)) = true),(false = false)] := by kernel_rfl
theorem p51a (v : T_Graph) :
    pieceOb Tryz.prog 0 [rg 2, rm [(2, oc [] (.p (.bool (inB v.1 1 8))))] 7, .dec false, rg 4, .head] [.code (bodyOf Tryz.f35)] (start Tryz.f35 [] 0 [graphA v]) [0] 1 (S51 v 0) =
    some (zf63, [(NT 0 1),Con Tryz.prog 104 0 [] [.p (.int .i64 v.1), .p (.int .i64 1), .p (.int .i64 8)] [] (.p (.bool (inB v.1 1 8))),(AG (!!inB v.1 1 8)),(((!!inB v.1 1 8) = true) → (NT 0 1)),(AG (!!inB v.1 1 8)),(AG (!!inB v.1 1 8)),(((!inB v.1 1 8) = false) →  ((!!inB v.1 1 8) = true)),((bif !inB v.1 1 8 then true else decide ((↑v.2.1.1 : Int) > 24)) = false),(NT 0 1),(AI v.1),(AN v.2.1.1),(AP v.2.1.1 (fun i => [.int .i64 ((v.2.1.2 i).1), .int .i64 ((v.2.1.2 i).2.1)])),(AN 0),(AN v.2.1.1),(AP v.2.1.1 (fun i => [.int .i64 ((v.2.1.2 i).1), .int .i64 ((v.2.1.2 i).2.1)])),(AI ((↑v.2.1.1 : Int))),((0 : Int) = (↑0 : Int)),((([AV.p (PV.int IntKind.i64 v.1), graphL v.2.1].length) : Nat) = 2),(NL 1 1),(NL 1 1),(AI v.1),(AN v.2.1.1),(AP v.2.1.1 (fun i => [.int .i64 ((v.2.1.2 i).1), .int .i64 ((v.2.1.2 i).2.1)]))]) := by kernel_rfl
theorem p51b (v : T_Graph) (k : Nat) :
    pieceOb Tryz.prog 0 [rg 1, .dec true, rg 6, rm [(28, oc [] (.p (.int .i64 (cmpB (v.2.1.2 ((k : Int) - 1).toNat) (v.2.1.2 k)))))] 3, .dec false, rg 2, .head] zf63 (S51 v k) [0] 1 (S51 v (k + 1)) =
    some (zf63, [((decide ((↑k : Int) < (↑v.2.1.1 : Int))) = true),(IL 0 (↑k : Int)),(IT (↑k : Int) (↑v.2.1.1 : Int)),(NT 0 1),((true = true) →  (AN 1)),(NT 0 1),(AG (!decide ((v.2.1.2 (↑k : Int).toNat).1 < 0))),(((!decide ((v.2.1.2 (↑k : Int).toNat).1 < 0)) = true) → (NT 0 1)),(AG (!decide ((v.2.1.2 (↑k : Int).toNat).1 < 0))),(((!decide ((v.2.1.2 (↑k : Int).toNat).1 < 0)) = true) → (NT 0 1)),(AG (!decide ((v.2.1.2 (↑k : Int).toNat).1 < 0))),(AG (!decide ((v.2.1.2 (↑k : Int).toNat).1 < 0))),(((decide ((v.2.1.2 (↑k : Int).toNat).1 < 0)) = false) →  ((!decide ((v.2.1.2 (↑k : Int).toNat).1 < 0)) = true)),(AG (!bif decide ((v.2.1.2 (↑k : Int).toNat).1 < 0) then true else decide ((v.2.1.2 (↑k : Int).toNat).1 ≥ (v.2.1.2 (↑k : Int).toNat).2.1))),(((!bif decide ((v.2.1.2 (↑k : Int).toNat).1 < 0) then true else decide ((v.2.1.2 (↑k : Int).toNat).1 ≥ (v.2.1.2 (↑k : Int).toNat).2.1)) = true) → (NT 0 1)),(AG (!bif decide ((v.2.1.2 (↑k : Int).toNat).1 < 0) then true else decide ((v.2.1.2 (↑k : Int).toNat).1 ≥ (v.2.1.2 (↑k : Int).toNat).2.1))),(((!bif decide ((v.2.1.2 (↑k : Int).toNat).1 < 0) then true else decide ((v.2.1.2 (↑k : Int).toNat).1 ≥ (v.2.1.2 (↑k : Int).toNat).2.1)) = true) → (NT 0 1)),(AG (!bif decide ((v.2.1.2 (↑k : Int).toNat).1 < 0) then true else decide ((v.2.1.2 (↑k : Int).toNat).1 ≥ (v.2.1.2 (↑k : Int).toNat).2.1))),(AG (!bif decide ((v.2.1.2 (↑k : Int).toNat).1 < 0) then true else decide ((v.2.1.2 (↑k : Int).toNat).1 ≥ (v.2.1.2 (↑k : Int).toNat).2.1))),(((bif decide ((v.2.1.2 (↑k : Int).toNat).1 < 0) then true else decide ((v.2.1.2 (↑k : Int).toNat).1 ≥ (v.2.1.2 (↑k : Int).toNat).2.1)) = false) →  ((!bif decide ((v.2.1.2 (↑k : Int).toNat).1 < 0) then true else decide ((v.2.1.2 (↑k : Int).toNat).1 ≥ (v.2.1.2 (↑k : Int).toNat).2.1)) = true)),(AG (!bif bif decide ((v.2.1.2 (↑k : Int).toNat).1 < 0) then true else decide ((v.2.1.2 (↑k : Int).toNat).1 ≥ (v.2.1.2 (↑k : Int).toNat).2.1) then true else decide ((v.2.1.2 (↑k : Int).toNat).2.1 ≥ v.1))),(AG (!bif bif decide ((v.2.1.2 (↑k : Int).toNat).1 < 0) then true else decide ((v.2.1.2 (↑k : Int).toNat).1 ≥ (v.2.1.2 (↑k : Int).toNat).2.1) then true else decide ((v.2.1.2 (↑k : Int).toNat).2.1 ≥ v.1))),(AG ((!bif bif decide ((v.2.1.2 (↑k : Int).toNat).1 < 0) then true else decide ((v.2.1.2 (↑k : Int).toNat).1 ≥ (v.2.1.2 (↑k : Int).toNat).2.1) then true else decide ((v.2.1.2 (↑k : Int).toNat).2.1 ≥ v.1)) && decide ((↑k : Int) > 0))),((((!bif bif decide ((v.2.1.2 (↑k : Int).toNat).1 < 0) then true else decide ((v.2.1.2 (↑k : Int).toNat).1 ≥ (v.2.1.2 (↑k : Int).toNat).2.1) then true else decide ((v.2.1.2 (↑k : Int).toNat).2.1 ≥ v.1)) && decide ((↑k : Int) > 0)) = true) → (NT 0 1)),(AG ((!bif bif decide ((v.2.1.2 (↑k : Int).toNat).1 < 0) then true else decide ((v.2.1.2 (↑k : Int).toNat).1 ≥ (v.2.1.2 (↑k : Int).toNat).2.1) then true else decide ((v.2.1.2 (↑k : Int).toNat).2.1 ≥ v.1)) && decide ((↑k : Int) > 0))),((((!bif bif decide ((v.2.1.2 (↑k : Int).toNat).1 < 0) then true else decide ((v.2.1.2 (↑k : Int).toNat).1 ≥ (v.2.1.2 (↑k : Int).toNat).2.1) then true else decide ((v.2.1.2 (↑k : Int).toNat).2.1 ≥ v.1)) && decide ((↑k : Int) > 0)) = true) → (R0 ((↑k : Int) - 1))),((((!bif bif decide ((v.2.1.2 (↑k : Int).toNat).1 < 0) then true else decide ((v.2.1.2 (↑k : Int).toNat).1 ≥ (v.2.1.2 (↑k : Int).toNat).2.1) then true else decide ((v.2.1.2 (↑k : Int).toNat).2.1 ≥ v.1)) && decide ((↑k : Int) > 0)) = true) → (R1 ((↑k : Int) - 1))),(AG ((!bif bif decide ((v.2.1.2 (↑k : Int).toNat).1 < 0) then true else decide ((v.2.1.2 (↑k : Int).toNat).1 ≥ (v.2.1.2 (↑k : Int).toNat).2.1) then true else decide ((v.2.1.2 (↑k : Int).toNat).2.1 ≥ v.1)) && decide ((↑k : Int) > 0))),(AG ((!bif bif decide ((v.2.1.2 (↑k : Int).toNat).1 < 0) then true else decide ((v.2.1.2 (↑k : Int).toNat).1 ≥ (v.2.1.2 (↑k : Int).toNat).2.1) then true else decide ((v.2.1.2 (↑k : Int).toNat).2.1 ≥ v.1)) && decide ((↑k : Int) > 0))),((((!bif bif decide ((v.2.1.2 (↑k : Int).toNat).1 < 0) then true else decide ((v.2.1.2 (↑k : Int).toNat).1 ≥ (v.2.1.2 (↑k : Int).toNat).2.1) then true else decide ((v.2.1.2 (↑k : Int).toNat).2.1 ≥ v.1)) && decide ((↑k : Int) > 0)) = true) → (IL 0 ((↑k : Int) - 1))),((((!bif bif decide ((v.2.1.2 (↑k : Int).toNat).1 < 0) then true else decide ((v.2.1.2 (↑k : Int).toNat).1 ≥ (v.2.1.2 (↑k : Int).toNat).2.1) then true else decide ((v.2.1.2 (↑k : Int).toNat).2.1 ≥ v.1)) && decide ((↑k : Int) > 0)) = true) → (IT ((↑k : Int) - 1) (↑v.2.1.1 : Int))),(AG ((!bif bif decide ((v.2.1.2 (↑k : Int).toNat).1 < 0) then true else decide ((v.2.1.2 (↑k : Int).toNat).1 ≥ (v.2.1.2 (↑k : Int).toNat).2.1) then true else decide ((v.2.1.2 (↑k : Int).toNat).2.1 ≥ v.1)) && decide ((↑k : Int) > 0))),((((!bif bif decide ((v.2.1.2 (↑k : Int).toNat).1 < 0) then true else decide ((v.2.1.2 (↑k : Int).toNat).1 ≥ (v.2.1.2 (↑k : Int).toNat).2.1) then true else decide ((v.2.1.2 (↑k : Int).toNat).2.1 ≥ v.1)) && decide ((↑k : Int) > 0)) = true) → (NT 0 1)),(AG ((!bif bif decide ((v.2.1.2 (↑k : Int).toNat).1 < 0) then true else decide ((v.2.1.2 (↑k : Int).toNat).1 ≥ (v.2.1.2 (↑k : Int).toNat).2.1) then true else decide ((v.2.1.2 (↑k : Int).toNat).2.1 ≥ v.1)) && decide ((↑k : Int) > 0))),(AG ((!bif bif decide ((v.2.1.2 (↑k : Int).toNat).1 < 0) then true else decide ((v.2.1.2 (↑k : Int).toNat).1 ≥ (v.2.1.2 (↑k : Int).toNat).2.1) then true else decide ((v.2.1.2 (↑k : Int).toNat).2.1 ≥ v.1)) && decide ((↑k : Int) > 0))),((((!bif bif decide ((v.2.1.2 (↑k : Int).toNat).1 < 0) then true else decide ((v.2.1.2 (↑k : Int).toNat).1 ≥ (v.2.1.2 (↑k : Int).toNat).2.1) then true else decide ((v.2.1.2 (↑k : Int).toNat).2.1 ≥ v.1)) && decide ((↑k : Int) > 0)) = true) →  Con Tryz.prog 105 0 [] [(zf77 v k), (zf86 v k)] [] (.p (.int .i64 (cmpB (v.2.1.2 ((↑k : Int) - 1).toNat) (v.2.1.2 k))))),(AG ((!bif bif decide ((v.2.1.2 (↑k : Int).toNat).1 < 0) then true else decide ((v.2.1.2 (↑k : Int).toNat).1 ≥ (v.2.1.2 (↑k : Int).toNat).2.1) then true else decide ((v.2.1.2 (↑k : Int).toNat).2.1 ≥ v.1)) && decide ((↑k : Int) > 0))),(AG (!bif bif decide ((v.2.1.2 (↑k : Int).toNat).1 < 0) then true else decide ((v.2.1.2 (↑k : Int).toNat).1 ≥ (v.2.1.2 (↑k : Int).toNat).2.1) then true else decide ((v.2.1.2 (↑k : Int).toNat).2.1 ≥ v.1))),(((!bif bif decide ((v.2.1.2 (↑k : Int).toNat).1 < 0) then true else decide ((v.2.1.2 (↑k : Int).toNat).1 ≥ (v.2.1.2 (↑k : Int).toNat).2.1) then true else decide ((v.2.1.2 (↑k : Int).toNat).2.1 ≥ v.1)) = true) → (((decide ((↑k : Int) > 0)) = true) →  (((!bif bif decide ((v.2.1.2 (↑k : Int).toNat).1 < 0) then true else decide ((v.2.1.2 (↑k : Int).toNat).1 ≥ (v.2.1.2 (↑k : Int).toNat).2.1) then true else decide ((v.2.1.2 (↑k : Int).toNat).2.1 ≥ v.1)) && decide ((↑k : Int) > 0)) = true))),(((bif bif decide ((v.2.1.2 (↑k : Int).toNat).1 < 0) then true else decide ((v.2.1.2 (↑k : Int).toNat).1 ≥ (v.2.1.2 (↑k : Int).toNat).2.1) then true else decide ((v.2.1.2 (↑k : Int).toNat).2.1 ≥ v.1)) = false) →  ((!bif bif decide ((v.2.1.2 (↑k : Int).toNat).1 < 0) then true else decide ((v.2.1.2 (↑k : Int).toNat).1 ≥ (v.2.1.2 (↑k : Int).toNat).2.1) then true else decide ((v.2.1.2 (↑k : Int).toNat).2.1 ≥ v.1)) = true)),((bif bif bif decide ((v.2.1.2 (↑k : Int).toNat).1 < 0) then true else decide ((v.2.1.2 (↑k : Int).toNat).1 ≥ (v.2.1.2 (↑k : Int).toNat).2.1) then true else decide ((v.2.1.2 (↑k : Int).toNat).2.1 ≥ v.1) then true else bif decide ((↑k : Int) > 0) then decide (cmpB (v.2.1.2 ((↑k : Int) - 1).toNat) (v.2.1.2 k) > 0) else false) = false),(R0 ((↑k : Int) + 1)),(R1 ((↑k : Int) + 1)),(AI v.1),(AN v.2.1.1),(AP v.2.1.1 (fun i => [.int .i64 ((v.2.1.2 i).1), .int .i64 ((v.2.1.2 i).2.1)])),(AN 0),(AN v.2.1.1),(AP v.2.1.1 (fun i => [.int .i64 ((v.2.1.2 i).1), .int .i64 ((v.2.1.2 i).2.1)])),(AI ((↑v.2.1.1 : Int))),((((↑k : Int) + 1) : Int) = (↑(k + 1) : Int)),(AN 2),(NL 1 1),(NL 1 1),(AI v.1),(AN v.2.1.1),(AP v.2.1.1 (fun i => [.int .i64 ((v.2.1.2 i).1), .int .i64 ((v.2.1.2 i).2.1)]))]) := by kernel_rfl
theorem p51c (v : T_Graph) (k : Nat) :
    pathOb Tryz.prog Tryz.f35 0 [rg 1, .dec true, rg 6, rm [(28, oc [] (.p (.int .i64 (cmpB (v.2.1.2 ((k : Int) - 1).toNat) (v.2.1.2 k)))))] 3, .dec true, rg 1] zf63 (S51 v k) [] 1 [] (.p (.bool false)) =
    some [((decide ((↑k : Int) < (↑v.2.1.1 : Int))) = true),(IL 0 (↑k : Int)),(IT (↑k : Int) (↑v.2.1.1 : Int)),(NT 0 1),((true = true) →  (AN 1)),(NT 0 1),(AG (!decide ((v.2.1.2 (↑k : Int).toNat).1 < 0))),(((!decide ((v.2.1.2 (↑k : Int).toNat).1 < 0)) = true) → (NT 0 1)),(AG (!decide ((v.2.1.2 (↑k : Int).toNat).1 < 0))),(((!decide ((v.2.1.2 (↑k : Int).toNat).1 < 0)) = true) → (NT 0 1)),(AG (!decide ((v.2.1.2 (↑k : Int).toNat).1 < 0))),(AG (!decide ((v.2.1.2 (↑k : Int).toNat).1 < 0))),(((decide ((v.2.1.2 (↑k : Int).toNat).1 < 0)) = false) →  ((!decide ((v.2.1.2 (↑k : Int).toNat).1 < 0)) = true)),(AG (!bif decide ((v.2.1.2 (↑k : Int).toNat).1 < 0) then true else decide ((v.2.1.2 (↑k : Int).toNat).1 ≥ (v.2.1.2 (↑k : Int).toNat).2.1))),(((!bif decide ((v.2.1.2 (↑k : Int).toNat).1 < 0) then true else decide ((v.2.1.2 (↑k : Int).toNat).1 ≥ (v.2.1.2 (↑k : Int).toNat).2.1)) = true) → (NT 0 1)),(AG (!bif decide ((v.2.1.2 (↑k : Int).toNat).1 < 0) then true else decide ((v.2.1.2 (↑k : Int).toNat).1 ≥ (v.2.1.2 (↑k : Int).toNat).2.1))),(((!bif decide ((v.2.1.2 (↑k : Int).toNat).1 < 0) then true else decide ((v.2.1.2 (↑k : Int).toNat).1 ≥ (v.2.1.2 (↑k : Int).toNat).2.1)) = true) → (NT 0 1)),(AG (!bif decide ((v.2.1.2 (↑k : Int).toNat).1 < 0) then true else decide ((v.2.1.2 (↑k : Int).toNat).1 ≥ (v.2.1.2 (↑k : Int).toNat).2.1))),(AG (!bif decide ((v.2.1.2 (↑k : Int).toNat).1 < 0) then true else decide ((v.2.1.2 (↑k : Int).toNat).1 ≥ (v.2.1.2 (↑k : Int).toNat).2.1))),(((bif decide ((v.2.1.2 (↑k : Int).toNat).1 < 0) then true else decide ((v.2.1.2 (↑k : Int).toNat).1 ≥ (v.2.1.2 (↑k : Int).toNat).2.1)) = false) →  ((!bif decide ((v.2.1.2 (↑k : Int).toNat).1 < 0) then true else decide ((v.2.1.2 (↑k : Int).toNat).1 ≥ (v.2.1.2 (↑k : Int).toNat).2.1)) = true)),(AG (!bif bif decide ((v.2.1.2 (↑k : Int).toNat).1 < 0) then true else decide ((v.2.1.2 (↑k : Int).toNat).1 ≥ (v.2.1.2 (↑k : Int).toNat).2.1) then true else decide ((v.2.1.2 (↑k : Int).toNat).2.1 ≥ v.1))),(AG (!bif bif decide ((v.2.1.2 (↑k : Int).toNat).1 < 0) then true else decide ((v.2.1.2 (↑k : Int).toNat).1 ≥ (v.2.1.2 (↑k : Int).toNat).2.1) then true else decide ((v.2.1.2 (↑k : Int).toNat).2.1 ≥ v.1))),(AG ((!bif bif decide ((v.2.1.2 (↑k : Int).toNat).1 < 0) then true else decide ((v.2.1.2 (↑k : Int).toNat).1 ≥ (v.2.1.2 (↑k : Int).toNat).2.1) then true else decide ((v.2.1.2 (↑k : Int).toNat).2.1 ≥ v.1)) && decide ((↑k : Int) > 0))),((((!bif bif decide ((v.2.1.2 (↑k : Int).toNat).1 < 0) then true else decide ((v.2.1.2 (↑k : Int).toNat).1 ≥ (v.2.1.2 (↑k : Int).toNat).2.1) then true else decide ((v.2.1.2 (↑k : Int).toNat).2.1 ≥ v.1)) && decide ((↑k : Int) > 0)) = true) → (NT 0 1)),(AG ((!bif bif decide ((v.2.1.2 (↑k : Int).toNat).1 < 0) then true else decide ((v.2.1.2 (↑k : Int).toNat).1 ≥ (v.2.1.2 (↑k : Int).toNat).2.1) then true else decide ((v.2.1.2 (↑k : Int).toNat).2.1 ≥ v.1)) && decide ((↑k : Int) > 0))),((((!bif bif decide ((v.2.1.2 (↑k : Int).toNat).1 < 0) then true else decide ((v.2.1.2 (↑k : Int).toNat).1 ≥ (v.2.1.2 (↑k : Int).toNat).2.1) then true else decide ((v.2.1.2 (↑k : Int).toNat).2.1 ≥ v.1)) && decide ((↑k : Int) > 0)) = true) → (R0 ((↑k : Int) - 1))),((((!bif bif decide ((v.2.1.2 (↑k : Int).toNat).1 < 0) then true else decide ((v.2.1.2 (↑k : Int).toNat).1 ≥ (v.2.1.2 (↑k : Int).toNat).2.1) then true else decide ((v.2.1.2 (↑k : Int).toNat).2.1 ≥ v.1)) && decide ((↑k : Int) > 0)) = true) → (R1 ((↑k : Int) - 1))),(AG ((!bif bif decide ((v.2.1.2 (↑k : Int).toNat).1 < 0) then true else decide ((v.2.1.2 (↑k : Int).toNat).1 ≥ (v.2.1.2 (↑k : Int).toNat).2.1) then true else decide ((v.2.1.2 (↑k : Int).toNat).2.1 ≥ v.1)) && decide ((↑k : Int) > 0))),(AG ((!bif bif decide ((v.2.1.2 (↑k : Int).toNat).1 < 0) then true else decide ((v.2.1.2 (↑k : Int).toNat).1 ≥ (v.2.1.2 (↑k : Int).toNat).2.1) then true else decide ((v.2.1.2 (↑k : Int).toNat).2.1 ≥ v.1)) && decide ((↑k : Int) > 0))),((((!bif bif decide ((v.2.1.2 (↑k : Int).toNat).1 < 0) then true else decide ((v.2.1.2 (↑k : Int).toNat).1 ≥ (v.2.1.2 (↑k : Int).toNat).2.1) then true else decide ((v.2.1.2 (↑k : Int).toNat).2.1 ≥ v.1)) && decide ((↑k : Int) > 0)) = true) → (IL 0 ((↑k : Int) - 1))),((((!bif bif decide ((v.2.1.2 (↑k : Int).toNat).1 < 0) then true else decide ((v.2.1.2 (↑k : Int).toNat).1 ≥ (v.2.1.2 (↑k : Int).toNat).2.1) then true else decide ((v.2.1.2 (↑k : Int).toNat).2.1 ≥ v.1)) && decide ((↑k : Int) > 0)) = true) → (IT ((↑k : Int) - 1) (↑v.2.1.1 : Int))),(AG ((!bif bif decide ((v.2.1.2 (↑k : Int).toNat).1 < 0) then true else decide ((v.2.1.2 (↑k : Int).toNat).1 ≥ (v.2.1.2 (↑k : Int).toNat).2.1) then true else decide ((v.2.1.2 (↑k : Int).toNat).2.1 ≥ v.1)) && decide ((↑k : Int) > 0))),((((!bif bif decide ((v.2.1.2 (↑k : Int).toNat).1 < 0) then true else decide ((v.2.1.2 (↑k : Int).toNat).1 ≥ (v.2.1.2 (↑k : Int).toNat).2.1) then true else decide ((v.2.1.2 (↑k : Int).toNat).2.1 ≥ v.1)) && decide ((↑k : Int) > 0)) = true) → (NT 0 1)),(AG ((!bif bif decide ((v.2.1.2 (↑k : Int).toNat).1 < 0) then true else decide ((v.2.1.2 (↑k : Int).toNat).1 ≥ (v.2.1.2 (↑k : Int).toNat).2.1) then true else decide ((v.2.1.2 (↑k : Int).toNat).2.1 ≥ v.1)) && decide ((↑k : Int) > 0))),(AG ((!bif bif decide ((v.2.1.2 (↑k : Int).toNat).1 < 0) then true else decide ((v.2.1.2 (↑k : Int).toNat).1 ≥ (v.2.1.2 (↑k : Int).toNat).2.1) then true else decide ((v.2.1.2 (↑k : Int).toNat).2.1 ≥ v.1)) && decide ((↑k : Int) > 0))),((((!bif bif decide ((v.2.1.2 (↑k : Int).toNat).1 < 0) then true else decide ((v.2.1.2 (↑k : Int).toNat).1 ≥ (v.2.1.2 (↑k : Int).toNat).2.1) then true else decide ((v.2.1.2 (↑k : Int).toNat).2.1 ≥ v.1)) && decide ((↑k : Int) > 0)) = true) →  Con Tryz.prog 105 0 [] [(zf77 v k), (zf86 v k)] [] (.p (.int .i64 (cmpB (v.2.1.2 ((↑k : Int) - 1).toNat) (v.2.1.2 k))))),(AG ((!bif bif decide ((v.2.1.2 (↑k : Int).toNat).1 < 0) then true else decide ((v.2.1.2 (↑k : Int).toNat).1 ≥ (v.2.1.2 (↑k : Int).toNat).2.1) then true else decide ((v.2.1.2 (↑k : Int).toNat).2.1 ≥ v.1)) && decide ((↑k : Int) > 0))),(AG (!bif bif decide ((v.2.1.2 (↑k : Int).toNat).1 < 0) then true else decide ((v.2.1.2 (↑k : Int).toNat).1 ≥ (v.2.1.2 (↑k : Int).toNat).2.1) then true else decide ((v.2.1.2 (↑k : Int).toNat).2.1 ≥ v.1))),(((!bif bif decide ((v.2.1.2 (↑k : Int).toNat).1 < 0) then true else decide ((v.2.1.2 (↑k : Int).toNat).1 ≥ (v.2.1.2 (↑k : Int).toNat).2.1) then true else decide ((v.2.1.2 (↑k : Int).toNat).2.1 ≥ v.1)) = true) → (((decide ((↑k : Int) > 0)) = true) →  (((!bif bif decide ((v.2.1.2 (↑k : Int).toNat).1 < 0) then true else decide ((v.2.1.2 (↑k : Int).toNat).1 ≥ (v.2.1.2 (↑k : Int).toNat).2.1) then true else decide ((v.2.1.2 (↑k : Int).toNat).2.1 ≥ v.1)) && decide ((↑k : Int) > 0)) = true))),(((bif bif decide ((v.2.1.2 (↑k : Int).toNat).1 < 0) then true else decide ((v.2.1.2 (↑k : Int).toNat).1 ≥ (v.2.1.2 (↑k : Int).toNat).2.1) then true else decide ((v.2.1.2 (↑k : Int).toNat).2.1 ≥ v.1)) = false) →  ((!bif bif decide ((v.2.1.2 (↑k : Int).toNat).1 < 0) then true else decide ((v.2.1.2 (↑k : Int).toNat).1 ≥ (v.2.1.2 (↑k : Int).toNat).2.1) then true else decide ((v.2.1.2 (↑k : Int).toNat).2.1 ≥ v.1)) = true)),((bif bif bif decide ((v.2.1.2 (↑k : Int).toNat).1 < 0) then true else decide ((v.2.1.2 (↑k : Int).toNat).1 ≥ (v.2.1.2 (↑k : Int).toNat).2.1) then true else decide ((v.2.1.2 (↑k : Int).toNat).2.1 ≥ v.1) then true else bif decide ((↑k : Int) > 0) then decide (cmpB (v.2.1.2 ((↑k : Int) - 1).toNat) (v.2.1.2 k) > 0) else false) = true),(false = false)] := by kernel_rfl
theorem p51d (v : T_Graph) (k : Nat) :
    pathOb Tryz.prog Tryz.f35 0 [rg 1, .dec false, rg 1] zf63 (S51 v k) [] 1 [] (.p (.bool true)) =
    some [((decide ((↑k : Int) < (↑v.2.1.1 : Int))) = false),(true = true)] := by kernel_rfl
theorem con_l2After (a b : T_Bar) : Con Tryz.prog 96 0 [] [barA a, barA b] [] (.p (.bool (aft a b))) := by
  refine con_start Tryz.func96 rfl (by kernel_rfl) rfl (fun c hc => ?_)
  refine path_ok mixed Tryz.func96 hc (p57 a b) ?_
  simp only [All]
  repeat' (first | exact trivial | with_reducible apply And.intro)
  all_goals (first | exact aG _ | omega | rfl | (intros; first | assumption | exact trivial | rfl | exact fT ‹_› | ((repeat' (first | assumption | apply anda | apply notf)); done)))
theorem con_compareInts (x y : Int) : Con Tryz.prog 154 0 [] [.p (.int .i64 x), .p (.int .i64 y)] [] (.p (.int .i64 (cmpI x y))) := by
  refine con_start Tryz.func154 rfl (by kernel_rfl) rfl (fun c hc => ?_)
  by_cases h1 : x < y
  · rw [show cmpI x y = -1 by simp [cmpI, h1]]
    refine path_ok mixed Tryz.func154 hc (p62a x y) ?_
    simp only [All]
    repeat' (first | exact trivial | with_reducible apply And.intro)
    all_goals (first | omega | rfl | (intros; first | assumption | exact trivial | rfl | exact fT ‹_› | ((repeat' (first | assumption | apply anda | apply notf)); done)) | (simp; omega))
  · by_cases h2 : x > y
    · rw [show cmpI x y = 1 by simp only [cmpI, h1, h2, if_true, if_false]]
      refine path_ok mixed Tryz.func154 hc (p62b x y) ?_
      simp only [All]
      repeat' (first | exact trivial | with_reducible apply And.intro)
      all_goals (first | omega | rfl | (intros; first | assumption | exact trivial | rfl | exact fT ‹_› | ((repeat' (first | assumption | apply anda | apply notf)); done)) | (simp; omega))
    · rw [show cmpI x y = 0 by simp only [cmpI, h1, h2, if_false]]
      refine path_ok mixed Tryz.func154 hc (p62c x y) ?_
      simp only [All]
      repeat' (first | exact trivial | with_reducible apply And.intro)
      all_goals (first | omega | rfl | (intros; first | assumption | exact trivial | rfl | exact fT ‹_› | ((repeat' (first | assumption | apply anda | apply notf)); done)) | (simp; omega))
theorem con_compareBars (a b : T_Bar) : Con Tryz.prog 105 0 [] [barA a, barA b] [] (.p (.int .i64 (cmpB a b))) := by
  refine con_start Tryz.func105 rfl (by kernel_rfl) rfl (fun c hc => ?_)
  by_cases h1 : cmpI a.1 b.1 = 0
  · rw [show cmpB a b = cmpI a.2.1 b.2.1 by simp [cmpB, h1]]
    refine path_ok mixed Tryz.func105 hc (p59b a b) ?_
    simp only [All]
    repeat' (first | exact trivial | with_reducible apply And.intro)
    all_goals (first | omega | rfl | (intros; first | assumption | exact trivial | rfl | exact fT ‹_› | ((repeat' (first | assumption | apply anda | apply notf)); done)) | (exact con_compareInts _ _) | (simp [h1]))
  · rw [show cmpB a b = cmpI a.1 b.1 by simp [cmpB, h1]]
    refine path_ok mixed Tryz.func105 hc (p59a a b) ?_
    simp only [All]
    repeat' (first | exact trivial | with_reducible apply And.intro)
    all_goals (first | omega | rfl | (intros; first | assumption | exact trivial | rfl | exact fT ‹_› | ((repeat' (first | assumption | apply anda | apply notf)); done)) | (exact con_compareInts _ _) | (simp [h1]))
theorem cmpB_gt (a b : T_Bar) : decide (cmpB a b > 0) = !aft a b := by
  simp only [cmpB, cmpI, aft]
  by_cases h1 : a.1 < b.1
  · simp [h1]
  · by_cases h2 : a.1 > b.1
    · have h3 : ¬ a.1 = b.1 := by omega
      simp [h1, h2, h3]
    · have h3 : a.1 = b.1 := by omega
      simp only [h1, h2, h3, if_true, if_false]
      by_cases h4 : a.2.1 < b.2.1
      · have : a.2.1 ≤ b.2.1 := by omega
        simp [h4, this]
      · by_cases h5 : a.2.1 > b.2.1
        · have : ¬ a.2.1 ≤ b.2.1 := by omega
          simp [h4, h5, this]
        · have : a.2.1 ≤ b.2.1 := by omega
          simp [h4, h5, this]
theorem goodB_bad (N : Int) (g : Nat → T_Bar) (k : Nat) (h : badB N g k = true) : ∀ n, k < n → goodB N g n = false
  | 0, h' => by omega
  | n + 1, h' => by
    by_cases e : k = n
    · subst e; simp [goodB, h]
    · simp [goodB, goodB_bad N g k h n (by omega)]
theorem idx_lt {b : Bool} {k n : Nat} (h : (b && decide ((k : Int) > 0)) = true) (hk : k < n) : 0 ≤ (k : Int) - 1 ∧ (k : Int) - 1 < n ∧ -9223372036854775808 ≤ (k : Int) - 1 ∧ (k : Int) - 1 ≤ n := by
  simp at h
  omega
theorem con_IsGraph_s (v : T_Graph) (hs : smS s_Graph v) : Con Tryz.prog 22 0 [] [graphA v] [] (.p (.bool (isGraphF v))) := by
  refine con_start Tryz.func22 rfl (by kernel_rfl) rfl (fun c hc => ?_)
  have hn : v.2.1.1 ≤ 1048576 := hs.2.1.1
  by_cases hz : inB v.1 1 8 = true ∧ v.2.1.1 ≤ 24
  · rw [show isGraphF v = goodB v.1 v.2.1.2 v.2.1.1 by rw [isGraphF, if_pos hz]]
    have lp : ∀ m k, k + m = v.2.1.1 → goodB v.1 v.2.1.2 k = true → Run Tryz.prog c 22 zf62 (S48 v k) (Post c [] (.p (.bool (goodB v.1 v.2.1.2 v.2.1.1)))) := by
      intro m
      induction m with
      | zero =>
        intro k hk hg
        rw [show goodB v.1 v.2.1.2 v.2.1.1 = true by rw [show v.2.1.1 = k by omega]; exact hg]
        have hd : decide ((k : Int) < (v.2.1.1 : Int)) = false := by simp; omega
        refine path_ok mixed Tryz.func22 hc (p48d v k) ?_
        simp only [All]
        repeat' (first | exact trivial | with_reducible apply And.intro)
        all_goals (first | omega | rfl | (intros; first | assumption | exact trivial | rfl | exact fT ‹_› | ((repeat' (first | assumption | apply anda | apply notf)); done)))
      | succ m ih =>
        intro k hk hg
        have hd : decide ((k : Int) < (v.2.1.1 : Int)) = true := by simp; omega
        have hkn : k < v.2.1.1 := by omega
        cases he : badB v.1 v.2.1.2 k with
        | true =>
          rw [goodB_bad _ _ k he v.2.1.1 (by omega)]
          refine path_ok mixed Tryz.func22 hc (p48c v k) ?_
          simp only [All]
          repeat' (first | exact trivial | with_reducible apply And.intro)
          all_goals (first | exact aG _ | omega | rfl | (intros; first | assumption | exact trivial | rfl | exact fT ‹_› | ((repeat' (first | assumption | apply anda | apply notf)); done)) | (intros; exact con_l2After _ _) | (exact he) | (intro h; have := idx_lt h hkn; omega))
        | false =>
          refine piece_ok mixed hc (p48b v k) ?_ (ih (k + 1) (by omega) (by simp [goodB, hg, he]))
          simp only [All]
          repeat' (first | exact trivial | with_reducible apply And.intro)
          all_goals (first | exact aG _ | exact aP _ _ | omega | rfl | (intros; first | assumption | exact trivial | rfl | exact fT ‹_› | ((repeat' (first | assumption | apply anda | apply notf)); done)) | (intros; exact con_l2After _ _) | (exact he) | (intro h; have := idx_lt h hkn; omega) | (simp [All, aEt]))
    refine piece_ok mixed hc (p48a v) ?_ (lp v.2.1.1 0 (by omega) rfl)
    simp only [All]
    repeat' (first | exact trivial | with_reducible apply And.intro)
    all_goals (first | exact aG _ | exact aP _ _ | omega | rfl | (intros; first | assumption | exact trivial | rfl | exact fT ‹_› | ((repeat' (first | assumption | apply anda | apply notf)); done)) | (exact con_l1In _ _ _) | (simp [hz.1]; omega) | (simp [All, aEt]))
  · rw [show isGraphF v = false by rw [isGraphF, if_neg hz]]
    have hb : (bif !inB v.1 1 8 then true else decide ((v.2.1.1 : Int) > 24)) = true := by
      cases hi : inB v.1 1 8 with
      | false => rfl
      | true =>
        have : ¬ v.2.1.1 ≤ 24 := fun h => hz ⟨hi, h⟩
        simp; omega
    refine path_ok mixed Tryz.func22 hc (p48z v) ?_
    simp only [All]
    repeat' (first | exact trivial | with_reducible apply And.intro)
    all_goals (first | exact aG _ | omega | rfl | (intros; first | assumption | exact trivial | rfl | exact fT ‹_› | ((repeat' (first | assumption | apply anda | apply notf)); done)) | (exact con_l1In _ _ _))
theorem con_IsGraph_i (v : T_Graph) (hs : smS s_Graph v) : Con Tryz.prog 35 0 [] [graphA v] [] (.p (.bool (isGraphF v))) := by
  refine con_start Tryz.func35 rfl (by kernel_rfl) rfl (fun c hc => ?_)
  have hn : v.2.1.1 ≤ 1048576 := hs.2.1.1
  by_cases hz : inB v.1 1 8 = true ∧ v.2.1.1 ≤ 24
  · rw [show isGraphF v = goodB v.1 v.2.1.2 v.2.1.1 by rw [isGraphF, if_pos hz]]
    have lp : ∀ m k, k + m = v.2.1.1 → goodB v.1 v.2.1.2 k = true → Run Tryz.prog c 35 zf63 (S51 v k) (Post c [] (.p (.bool (goodB v.1 v.2.1.2 v.2.1.1)))) := by
      intro m
      induction m with
      | zero =>
        intro k hk hg
        rw [show goodB v.1 v.2.1.2 v.2.1.1 = true by rw [show v.2.1.1 = k by omega]; exact hg]
        have hd : decide ((k : Int) < (v.2.1.1 : Int)) = false := by simp; omega
        refine path_ok mixed Tryz.func35 hc (p51d v k) ?_
        simp only [All]
        repeat' (first | exact trivial | with_reducible apply And.intro)
        all_goals (first | omega | rfl | (intros; first | assumption | exact trivial | rfl | exact fT ‹_› | ((repeat' (first | assumption | apply anda | apply notf)); done)))
      | succ m ih =>
        intro k hk hg
        have hd : decide ((k : Int) < (v.2.1.1 : Int)) = true := by simp; omega
        have hkn : k < v.2.1.1 := by omega
        cases he : badB v.1 v.2.1.2 k with
        | true =>
          rw [goodB_bad _ _ k he v.2.1.1 (by omega)]
          have he2 := he
          rw [badB, ← cmpB_gt] at he2
          refine path_ok mixed Tryz.func35 hc (p51c v k) ?_
          simp only [All]
          repeat' (first | exact trivial | with_reducible apply And.intro)
          all_goals (first | exact aG _ | omega | rfl | (intros; first | assumption | exact trivial | rfl | exact fT ‹_› | ((repeat' (first | assumption | apply anda | apply notf)); done)) | (intros; exact con_compareBars _ _) | (exact he2) | (intro h; have := idx_lt h hkn; omega))
        | false =>
          have he2 := he
          rw [badB, ← cmpB_gt] at he2
          refine piece_ok mixed hc (p51b v k) ?_ (ih (k + 1) (by omega) (by simp [goodB, hg, he]))
          simp only [All]
          repeat' (first | exact trivial | with_reducible apply And.intro)
          all_goals (first | exact aG _ | exact aP _ _ | omega | rfl | (intros; first | assumption | exact trivial | rfl | exact fT ‹_› | ((repeat' (first | assumption | apply anda | apply notf)); done)) | (intros; exact con_compareBars _ _) | (exact he2) | (intro h; have := idx_lt h hkn; omega) | (simp [All, aEt]))
    refine piece_ok mixed hc (p51a v) ?_ (lp v.2.1.1 0 (by omega) rfl)
    simp only [All]
    repeat' (first | exact trivial | with_reducible apply And.intro)
    all_goals (first | exact aG _ | exact aP _ _ | omega | rfl | (intros; first | assumption | exact trivial | rfl | exact fT ‹_› | ((repeat' (first | assumption | apply anda | apply notf)); done)) | (exact con_within _ _ _) | (simp [hz.1]; omega) | (simp [All, aEt]))
  · rw [show isGraphF v = false by rw [isGraphF, if_neg hz]]
    have hb : (bif !inB v.1 1 8 then true else decide ((v.2.1.1 : Int) > 24)) = true := by
      cases hi : inB v.1 1 8 with
      | false => rfl
      | true =>
        have : ¬ v.2.1.1 ≤ 24 := fun h => hz ⟨hi, h⟩
        simp; omega
    refine path_ok mixed Tryz.func35 hc (p51z v) ?_
    simp only [All]
    repeat' (first | exact trivial | with_reducible apply And.intro)
    all_goals (first | exact aG _ | omega | rfl | (intros; first | assumption | exact trivial | rfl | exact fT ‹_› | ((repeat' (first | assumption | apply anda | apply notf)); done)) | (exact con_within _ _ _))
end Go.Proofs.YtffnfeefjdmifaaGreat.Mach
namespace Go.Proofs.YtffnfeefjdmifaaGreat.Mach
open Go
set_option linter.unusedVariables false
set_option linter.unusedSimpArgs false
def brOb (n : Nat) (h : Nat → T_Bar) : Ob := ⟨false, 2, n, fun i => [.p (.int .i64 (h i).1), .p (.int .i64 (h i).2.1)]⟩
def bxB (x : T_Bar) : Ob := ⟨true, 2, 1, fun _ => [.p (.int .i64 x.1), .p (.int .i64 x.2.1)]⟩
def SL (g : Nat → T_Bar) (nb N : Nat) (x : T_Bar) (i n : Nat) (pl : Bool) (h : Nat → T_Bar) : St :=
  ⟨[grG g nb N, brA x, .pt 2 0 0 0, .pt 2 1 0 0, .pt 2 2 0 0, .pt 2 3 0 0, .p (.bool pl), .p (.int .i64 i)] ++ List.replicate 48 anyA,
   [(0, bxG g nb N), (1, bxB x), (2, ⟨true, 2, 1, fun _ => [.p (.int .i64 0), .p .nil]⟩), (3, ⟨true, 2, 1, fun _ => [.p (.int .i64 N), .ar 2 4 0 n]⟩), (4, brOb n h)], 5⟩
def snoc (n : Nat) (h : Nat → T_Bar) (x : T_Bar) (s : Nat) : T_Bar := (if s < n then (h s).1 else x.1, if s < n then (h s).2.1 else x.2.1, ())
abbrev NB := Nat × (Nat → T_Bar)
def zNB : NB := (0, fun _ => (0, 0, ()))
def sn (r : NB) (x : T_Bar) : NB := (r.1 + 1, snoc r.1 r.2 x)
theorem rLz (g : Nat → T_Bar) (nb N : Nat) (x : T_Bar) :
    pieceOb Tryz.prog 0 [rg 3, rg 6, rg 1, rg 1, .head] [.code (bodyOf Tryz.f163)] (start Tryz.f163 [] 0 [grG g nb N, brA x]) [0, 32, 64, 224, 160] 1 (SL g nb N x 0 0 false (fun _ => (0, 0, ()))) =
    some (zf29, [(NT 0 1),(NT 0 1),((true = true) →  (AN 1)),(AI ((↑N : Int))),(AN nb),(AP nb (fun i => [.int .i64 ((g i).1), .int .i64 ((g i).2.1)])),(AI x.1),(AI x.2.1),(AN 0),(AN 0),(AN 0),(AN 0),(false = false),((0 : Int) = (↑0 : Int)),((([AV.p (PV.int IntKind.i64 (↑N : Int)), brL g nb].length) : Nat) = 2),(NL 1 1),(NL 1 1),(AI ((↑N : Int))),(AN nb),(AP nb (fun i => [.int .i64 ((g i).1), .int .i64 ((g i).2.1)])),((([AV.p (PV.int IntKind.i64 x.1), AV.p (PV.int IntKind.i64 x.2.1)].length) : Nat) = 2),(NL 1 1),(NL 1 1),(AI x.1),(AI x.2.1),((((List.map (fun v => AV.p (absV v)) [Value.int IntKind.i64 0, Value.slice none 0 0]).length) : Nat) = 2),(NL 1 1),(NL 1 1),(AI 0),((((List.map (fun v => AV.p (absV v)) [Value.int IntKind.i64 0, Value.slice none 0 0]).length) : Nat) = 2),(NL 1 1),(NL 1 1),(AI ((↑N : Int))),(AN 0),(AN 0),(AN 2),(NL 0 0),(AA 0 (fun i => [.p (.int .i64 0), .p (.int .i64 0)]))]) := by kernel_rfl
theorem rLa (g : Nat → T_Bar) (nb N : Nat) (x : T_Bar) (i n : Nat) (pl : Bool) (h : Nat → T_Bar) :
    pieceOb Tryz.prog 0 [rg 5, .dec true, rm [(9, oc [] (.p (.bool (aft (g i) x))))] 2, .dec true, rg 7, rg 1, rg 11, rg 3, .head] zf29 (SL g nb N x i n pl h) [0, 1, 2, 3, 1061] 1 (SL g nb N x (i + 1) (n + 1 + 1) true (snoc (n + 1) (snoc n h x) (g i))) =
    some (zf29, [(NT 0 1),((decide ((↑i : Int) < (↑nb : Int))) = true),(AG (!pl)),(((!pl) = true) → (NT 0 1)),(AG (!pl)),(AG (!pl)),(((!pl) = true) → (IL 0 (↑i : Int))),(((!pl) = true) → (IT (↑i : Int) (↑nb : Int))),(AG (!pl)),(((!pl) = true) → (NT 0 1)),(AG (!pl)),(AG (!pl)),(((!pl) = true) →  Con Tryz.prog 96 0 [] [.agg [.p (.int .i64 ((g i).1)), .p (.int .i64 ((g i).2.1))], .agg [.p (.int .i64 x.1), .p (.int .i64 x.2.1)]] [] (.p (.bool (aft (g i) x)))),(AG (!pl)),(AG (!pl)),((bif !pl then !aft (g i) x else false) = true),(NT 0 1),(NT 0 1),(NL 1 1),(NL n n),(NL ((n + 1) * 16) 140737488355328),(NL (n + 1) 9223372036854775807),(NT 0 1),((true = true) →  (AN 1)),(NT 0 1),(NT 0 1),(IL 0 (↑i : Int)),(IT (↑i : Int) (↑nb : Int)),(NL 1 1),(NL (n + 1) (n + 1)),(NL ((n + 1 + 1) * 16) 140737488355328),(NL (n + 1 + 1) 9223372036854775807),(NT 0 1),((true = true) →  (AN 1)),(R0 ((↑i : Int) + 1)),(R1 ((↑i : Int) + 1)),(AI ((↑N : Int))),(AN nb),(AP nb (fun i_1 => [.int .i64 ((g i_1).1), .int .i64 ((g i_1).2.1)])),(AI x.1),(AI x.2.1),(AN 0),(AN 0),(AN 0),(AN 0),(true = true),((((↑i : Int) + 1) : Int) = (↑(i + 1) : Int)),(AN 2),(NL 1 1),(NL 1 1),(AI ((↑N : Int))),(AN nb),(AP nb (fun i_1 => [.int .i64 ((g i_1).1), .int .i64 ((g i_1).2.1)])),(AN 2),(NL 1 1),(NL 1 1),(AI x.1),(AI x.2.1),(AN 2),(NL 1 1),(NL 1 1),(AI 0),(AN 2),(NL 1 1),(NL 1 1),(AI ((↑N : Int))),(AN 0),(AN ((n + 1 + 1))),(AN 2),(NL (n + 1 + 1) (n + 1 + 1)),(CV [(3, ⟨true, 2, 1, (fun i_2 => [.p (.int .i64 (↑N : Int)), .ar 2 1061 0 (n + 1 + 1)])⟩), (1061, ⟨false, 2, (n + 1 + 1), (fun i_2 => (if (i_2 < n + 1) then (if (i_2 < n) then [.p (.int .i64 ((h i_2).1)), .p (.int .i64 ((h i_2).2.1))] else [.p (.int .i64 x.1), .p (.int .i64 x.2.1)]) else [.p (.int .i64 ((g i).1)), .p (.int .i64 ((g i).2.1))]))⟩), (1029, ⟨false, 2, 1, (fun i_2 => [.p (.int .i64 ((g i).1)), .p (.int .i64 ((g i).2.1))])⟩), (645, ⟨false, 2, 1, (fun i_2 => [.p (.int .i64 x.1), .p (.int .i64 x.2.1)])⟩), (0, ⟨true, 2, 1, (fun i_2 => [.p (.int .i64 (↑N : Int)), .p (.seq true 2 nb (fun i_3 => [.int .i64 ((g i_3).1), .int .i64 ((g i_3).2.1)]))])⟩), (1, ⟨true, 2, 1, (fun i_2 => [.p (.int .i64 x.1), .p (.int .i64 x.2.1)])⟩), (2, ⟨true, 2, 1, (fun i_2 => [.p (.int .i64 0), .p (.nil)])⟩)] [0, 1, 2, 3, 1061] 1 (n + 1 + 1) (fun i_1 => if (i_1 < n + 1) then (if (i_1 < n) then [.p (.int .i64 ((h i_1).1)), .p (.int .i64 ((h i_1).2.1))] else [.p (.int .i64 x.1), .p (.int .i64 x.2.1)]) else [.p (.int .i64 ((g i).1)), .p (.int .i64 ((g i).2.1))]) (fun i_1 => [.p (.int .i64 (if i_1 < n + 1 then if i_1 < n then (h i_1).1 else x.1 else (g i).1)), .p (.int .i64 (if i_1 < n + 1 then if i_1 < n then (h i_1).2.1 else x.2.1 else (g i).2.1))]))]) := by kernel_rfl
theorem rLb (g : Nat → T_Bar) (nb N : Nat) (x : T_Bar) (i n : Nat) (pl : Bool) (h : Nat → T_Bar) :
    pieceOb Tryz.prog 0 [rg 5, .dec true, rm [(9, oc [] (.p (.bool (aft (g i) x))))] 2, .dec false, rg 11, rg 3, .head] zf29 (SL g nb N x i n pl h) [0, 1, 2, 3, 805] 1 (SL g nb N x (i + 1) (n + 1) pl (snoc n h (g i))) =
    some (zf29, [(NT 0 1),((decide ((↑i : Int) < (↑nb : Int))) = true),(AG (!pl)),(((!pl) = true) → (NT 0 1)),(AG (!pl)),(AG (!pl)),(((!pl) = true) → (IL 0 (↑i : Int))),(((!pl) = true) → (IT (↑i : Int) (↑nb : Int))),(AG (!pl)),(((!pl) = true) → (NT 0 1)),(AG (!pl)),(AG (!pl)),(((!pl) = true) →  Con Tryz.prog 96 0 [] [.agg [.p (.int .i64 ((g i).1)), .p (.int .i64 ((g i).2.1))], .agg [.p (.int .i64 x.1), .p (.int .i64 x.2.1)]] [] (.p (.bool (aft (g i) x)))),(AG (!pl)),(AG (!pl)),((bif !pl then !aft (g i) x else false) = false),(NT 0 1),(NT 0 1),(IL 0 (↑i : Int)),(IT (↑i : Int) (↑nb : Int)),(NL 1 1),(NL n n),(NL ((n + 1) * 16) 140737488355328),(NL (n + 1) 9223372036854775807),(NT 0 1),((true = true) →  (AN 1)),(R0 ((↑i : Int) + 1)),(R1 ((↑i : Int) + 1)),(AI ((↑N : Int))),(AN nb),(AP nb (fun i_1 => [.int .i64 ((g i_1).1), .int .i64 ((g i_1).2.1)])),(AI x.1),(AI x.2.1),(AN 0),(AN 0),(AN 0),(AN 0),(pl = pl),((((↑i : Int) + 1) : Int) = (↑(i + 1) : Int)),(AN 2),(NL 1 1),(NL 1 1),(AI ((↑N : Int))),(AN nb),(AP nb (fun i_1 => [.int .i64 ((g i_1).1), .int .i64 ((g i_1).2.1)])),(AN 2),(NL 1 1),(NL 1 1),(AI x.1),(AI x.2.1),(AN 2),(NL 1 1),(NL 1 1),(AI 0),(AN 2),(NL 1 1),(NL 1 1),(AI ((↑N : Int))),(AN 0),(AN ((n + 1))),(AN 2),(NL (n + 1) (n + 1)),(CV [(3, ⟨true, 2, 1, (fun i_2 => [.p (.int .i64 (↑N : Int)), .ar 2 805 0 (n + 1)])⟩), (805, ⟨false, 2, (n + 1), (fun i_2 => (if (i_2 < n) then [.p (.int .i64 ((h i_2).1)), .p (.int .i64 ((h i_2).2.1))] else [.p (.int .i64 ((g i).1)), .p (.int .i64 ((g i).2.1))]))⟩), (773, ⟨false, 2, 1, (fun i_2 => [.p (.int .i64 ((g i).1)), .p (.int .i64 ((g i).2.1))])⟩), (0, ⟨true, 2, 1, (fun i_2 => [.p (.int .i64 (↑N : Int)), .p (.seq true 2 nb (fun i_3 => [.int .i64 ((g i_3).1), .int .i64 ((g i_3).2.1)]))])⟩), (1, ⟨true, 2, 1, (fun i_2 => [.p (.int .i64 x.1), .p (.int .i64 x.2.1)])⟩), (2, ⟨true, 2, 1, (fun i_2 => [.p (.int .i64 0), .p (.nil)])⟩)] [0, 1, 2, 3, 805] 1 (n + 1) (fun i_1 => if (i_1 < n) then [.p (.int .i64 ((h i_1).1)), .p (.int .i64 ((h i_1).2.1))] else [.p (.int .i64 ((g i).1)), .p (.int .i64 ((g i).2.1))]) (fun i_1 => [.p (.int .i64 (if i_1 < n then (h i_1).1 else (g i).1)), .p (.int .i64 (if i_1 < n then (h i_1).2.1 else (g i).2.1))]))]) := by kernel_rfl
theorem rLc (g : Nat → T_Bar) (nb N : Nat) (x : T_Bar) (i n : Nat) (pl : Bool) (h : Nat → T_Bar) :
    pathOb Tryz.prog Tryz.f163 0 [rg 5, .dec false, rg 2, .dec true, rg 7, rg 2] zf29 (SL g nb N x i n pl h) [357] 1 [(0, brOb (n + 1) (snoc n h x))] (.agg [.p (.int .i64 N), .ar 2 0 0 (n + 1)]) =
    some [(NT 0 1),((decide ((↑i : Int) < (↑nb : Int))) = false),((!pl) = true),(NT 0 1),(NT 0 1),(NL 1 1),(NL n n),(NL ((n + 1) * 16) 140737488355328),(NL (n + 1) 9223372036854775807),(NT 0 1),((true = true) →  (AN 1)),(NT 0 1),(NT 0 1),((true = true) →  (AN 1)),(NT 0 1),(AI ((↑N : Int))),(AN 0),(AN ((n + 1))),(AN 2),(NL (n + 1) (n + 1)),(CV [(2, ⟨true, 2, 1, (fun i_2 => [.p (.int .i64 (↑N : Int)), .ar 2 357 0 (n + 1)])⟩), (3, ⟨true, 2, 1, (fun i_2 => [.p (.int .i64 (↑N : Int)), .ar 2 357 0 (n + 1)])⟩), (357, ⟨false, 2, (n + 1), (fun i_2 => (if (i_2 < n) then [.p (.int .i64 ((h i_2).1)), .p (.int .i64 ((h i_2).2.1))] else [.p (.int .i64 x.1), .p (.int .i64 x.2.1)]))⟩), (325, ⟨false, 2, 1, (fun i_2 => [.p (.int .i64 x.1), .p (.int .i64 x.2.1)])⟩), (0, ⟨true, 2, 1, (fun i_2 => [.p (.int .i64 (↑N : Int)), .p (.seq true 2 nb (fun i_3 => [.int .i64 ((g i_3).1), .int .i64 ((g i_3).2.1)]))])⟩), (1, ⟨true, 2, 1, (fun i_2 => [.p (.int .i64 x.1), .p (.int .i64 x.2.1)])⟩)] [357] 1 (n + 1) (fun i_1 => if (i_1 < n) then [.p (.int .i64 ((h i_1).1)), .p (.int .i64 ((h i_1).2.1))] else [.p (.int .i64 x.1), .p (.int .i64 x.2.1)]) (fun i_1 => [.p (.int .i64 (if i_1 < n then (h i_1).1 else x.1)), .p (.int .i64 (if i_1 < n then (h i_1).2.1 else x.2.1))])),(AE ((n + 1)))] := by kernel_rfl
theorem rLd (g : Nat → T_Bar) (nb N : Nat) (x : T_Bar) (i n : Nat) (pl : Bool) (h : Nat → T_Bar) :
    pathOb Tryz.prog Tryz.f163 0 [rg 5, .dec false, rg 2, .dec false, rg 2] zf29 (SL g nb N x i n pl h) [4] 1 [(0, brOb n h)] (.agg [.p (.int .i64 N), .ar 2 0 0 n]) =
    some [(NT 0 1),((decide ((↑i : Int) < (↑nb : Int))) = false),((!pl) = false),(NT 0 1),(NT 0 1),((true = true) →  (AN 1)),(NT 0 1),(AI ((↑N : Int))),(AN 0),(AN n),(AN 2),(NL n n),(AA n (fun i_1 => [.p (.int .i64 ((h i_1).1)), .p (.int .i64 ((h i_1).2.1))])),(AE n)] := by kernel_rfl
theorem snoc_lt {n : Nat} {h : Nat → T_Bar} {x : T_Bar} {s : Nat} (hs : s < n) : snoc n h x s = h s := by
  simp only [snoc, hs, if_true]
theorem snoc_ge {n : Nat} {h : Nat → T_Bar} {x : T_Bar} {s : Nat} (hs : ¬ s < n) : snoc n h x s = x := by
  simp only [snoc, hs, if_false]
theorem snoc_mem (n : Nat) (h : Nat → T_Bar) (x y : T_Bar) : (∃ s, s < n + 1 ∧ snoc n h x s = y) ↔ (∃ s, s < n ∧ h s = y) ∨ x = y := by
  constructor
  · rintro ⟨s, h1, h2⟩
    by_cases e : s < n
    · rw [snoc_lt e] at h2; exact .inl ⟨s, e, h2⟩
    · rw [snoc_ge e] at h2; exact .inr h2
  · rintro (⟨s, h1, h2⟩ | h2)
    · exact ⟨s, by omega, by rw [snoc_lt h1]; exact h2⟩
    · exact ⟨n, by omega, by rw [snoc_ge (Nat.lt_irrefl n)]; exact h2⟩
def insD (g : Nat → T_Bar) (x : T_Bar) : Nat → Bool × Nat × (Nat → T_Bar)
  | 0 => (false, 0, fun _ => (0, 0, ()))
  | i + 1 =>
    if (bif !(insD g x i).1 then !aft (g i) x else false) = true then (true, (insD g x i).2.1 + 1 + 1, snoc ((insD g x i).2.1 + 1) (snoc (insD g x i).2.1 (insD g x i).2.2 x) (g i))
    else ((insD g x i).1, (insD g x i).2.1 + 1, snoc (insD g x i).2.1 (insD g x i).2.2 (g i))
def insR (g : Nat → T_Bar) (nb : Nat) (x : T_Bar) : Nat × (Nat → T_Bar) :=
  if (insD g x nb).1 = true then ((insD g x nb).2.1, (insD g x nb).2.2) else ((insD g x nb).2.1 + 1, snoc (insD g x nb).2.1 (insD g x nb).2.2 x)
theorem insD_n (g : Nat → T_Bar) (x : T_Bar) : ∀ i, (insD g x i).2.1 = i + (if (insD g x i).1 = true then 1 else 0)
  | 0 => rfl
  | i + 1 => by
    have ih := insD_n g x i
    simp only [insD]
    split
    · rename_i h
      have hf : (insD g x i).1 = false := by
        cases e : (insD g x i).1 with
        | false => rfl
        | true => rw [e] at h; simp at h
      rw [hf] at ih
      simp only [if_true]
      simp at ih
      omega
    · simp only
      omega
theorem insD_mem (g : Nat → T_Bar) (x y : T_Bar) : ∀ i, (∃ s, s < (insD g x i).2.1 ∧ (insD g x i).2.2 s = y) ↔ (∃ s, s < i ∧ g s = y) ∨ ((insD g x i).1 = true ∧ x = y)
  | 0 => by
    constructor
    · rintro ⟨s, h1, _⟩; exact absurd h1 (Nat.not_lt_zero _)
    · rintro (⟨s, h1, _⟩ | ⟨h1, _⟩)
      · exact absurd h1 (Nat.not_lt_zero _)
      · cases h1
  | i + 1 => by
    have ih := insD_mem g x y i
    have step : (∃ s, s < i + 1 ∧ g s = y) ↔ (∃ s, s < i ∧ g s = y) ∨ g i = y := by
      constructor
      · rintro ⟨s, h1, h2⟩
        by_cases e : s = i
        · right; rw [← e]; exact h2
        · exact .inl ⟨s, by omega, h2⟩
      · rintro (⟨s, h1, h2⟩ | h2)
        · exact ⟨s, by omega, h2⟩
        · exact ⟨i, by omega, h2⟩
    simp only [insD]
    split
    · rename_i h
      have hf : (insD g x i).1 = false := by
        cases e : (insD g x i).1 with
        | false => rfl
        | true => rw [e] at h; simp at h
      simp only [snoc_mem, ih, step, hf]
      constructor
      · rintro ((( h | ⟨h, _⟩) | h) | h)
        · exact .inl (.inl h)
        · cases h
        · exact .inr ⟨trivial, h⟩
        · exact .inl (.inr h)
      · rintro ((h | h) | ⟨_, h⟩)
        · exact .inl (.inl (.inl h))
        · exact .inr h
        · exact .inl (.inr h)
    · simp only [snoc_mem, ih, step]
      constructor
      · rintro ((h | h) | h)
        · exact .inl (.inl h)
        · exact .inr h
        · exact .inl (.inr h)
      · rintro ((h | h) | h)
        · exact .inl (.inl h)
        · exact .inr h
        · exact .inl (.inr h)
theorem insR_mem (g : Nat → T_Bar) (nb : Nat) (x y : T_Bar) : (∃ s, s < (insR g nb x).1 ∧ (insR g nb x).2 s = y) ↔ (∃ s, s < nb ∧ g s = y) ∨ x = y := by
  have h := insD_mem g x y nb
  unfold insR
  split
  · rename_i hp
    simp only [h, hp, true_and]
  · rename_i hp
    simp only [snoc_mem, h]
    constructor
    · rintro ((h | ⟨h, _⟩) | h)
      · exact .inl h
      · exact absurd h hp
      · exact .inr h
    · rintro (h | h)
      · exact .inl (.inl h)
      · exact .inr h
theorem insR_n (g : Nat → T_Bar) (nb : Nat) (x : T_Bar) : (insR g nb x).1 = nb + 1 := by
  have h := insD_n g x nb
  unfold insR
  split
  · rename_i hp; rw [if_pos hp] at h; exact h
  · rename_i hp; rw [if_neg hp] at h; show (insD g x nb).2.1 + 1 = nb + 1; omega
theorem con_l2Put (g : Nat → T_Bar) (nb N : Nat) (x : T_Bar) (hnb : nb ≤ 1048576) : Con Tryz.prog 163 0 [] [grG g nb N, brA x] [(0, brOb (insR g nb x).1 (insR g nb x).2)] (.agg [.p (.int .i64 N), .ar 2 0 0 (insR g nb x).1]) := by
  refine con_start Tryz.func163 rfl (by kernel_rfl) rfl (fun c hc => ?_)
  have lp : ∀ d i, i + d = nb → Run Tryz.prog c 163 zf29 (SL g nb N x i (insD g x i).2.1 (insD g x i).1 (insD g x i).2.2) (Post c [(0, brOb (insR g nb x).1 (insR g nb x).2)] (.agg [.p (.int .i64 N), .ar 2 0 0 (insR g nb x).1])) := by
    intro d
    induction d with
    | zero =>
      intro i hi
      obtain rfl : i = nb := by omega
      have hd : decide ((i : Int) < (i : Int)) = false := by simp
      have hn := insD_n g x i
      have hle : (insD g x i).2.1 ≤ i + 1 := by split at hn <;> omega
      cases hp : (insD g x i).1 with
      | true =>
        rw [show insR g i x = ((insD g x i).2.1, (insD g x i).2.2) by simp [insR, hp]]
        refine path_ok mixed Tryz.func163 hc (rLd g i N x i (insD g x i).2.1 true (insD g x i).2.2) ?_
        simp only [All]
        repeat' (first | exact trivial | with_reducible apply And.intro)
        all_goals (first | exact aA _ _ | exact aE _ | omega | rfl | (intros; first | assumption | exact trivial | rfl | exact fT ‹_› | ((repeat' (first | assumption | apply anda | apply notf)); done)) | (intro i hi; simp [All, aEt]))
      | false =>
        rw [show insR g i x = ((insD g x i).2.1 + 1, snoc (insD g x i).2.1 (insD g x i).2.2 x) by simp [insR, hp]]
        refine path_ok mixed Tryz.func163 hc (rLc g i N x i (insD g x i).2.1 false (insD g x i).2.2) ?_
        simp only [All]
        repeat' (first | exact trivial | with_reducible apply And.intro)
        all_goals (first | exact aE _ | omega | rfl | (intros; first | assumption | exact trivial | rfl | exact fT ‹_› | ((repeat' (first | assumption | apply anda | apply notf)); done)) | (intro j hj; simp [All, aEt]; done) | (intro j hj; by_cases h : j < (insD g x i).2.1 <;> simp [h, snoc, cvtL, cvt, tg, tru, All]))
    | succ d ih =>
      intro i hi
      have hd : decide ((i : Int) < (nb : Int)) = true := by simp; omega
      have hn := insD_n g x i
      have hle : (insD g x i).2.1 ≤ i + 1 := by split at hn <;> omega
      have hca := con_l2After (g i) x
      have hs : insD g x (i + 1) = if (bif !(insD g x i).1 then !aft (g i) x else false) = true then (true, (insD g x i).2.1 + 1 + 1, snoc ((insD g x i).2.1 + 1) (snoc (insD g x i).2.1 (insD g x i).2.2 x) (g i)) else ((insD g x i).1, (insD g x i).2.1 + 1, snoc (insD g x i).2.1 (insD g x i).2.2 (g i)) := rfl
      have hih := ih (i + 1) (by omega)
      cases ht : (bif !(insD g x i).1 then !aft (g i) x else false) with
      | true =>
        rw [hs, if_pos ht] at hih
        refine piece_ok mixed hc (rLa g nb N x i (insD g x i).2.1 (insD g x i).1 (insD g x i).2.2) ?_ hih
        simp only [All]
        repeat' (first | exact trivial | with_reducible apply And.intro)
        all_goals (first | exact aG _ | exact aP _ _ | omega | rfl | (intros; first | assumption | exact trivial | rfl | exact fT ‹_› | ((repeat' (first | assumption | apply anda | apply notf)); done)) | (intros; exact hca) | (exact ht) | (intro j hj; simp [All, aEt]; done) | (intro j hj; by_cases h : j < (insD g x i).2.1 + 1 <;> by_cases h' : j < (insD g x i).2.1 <;> simp [h, h', snoc, cvtL, cvt, tg, tru, All]) | (simp; omega))
      | false =>
        rw [hs, if_neg (by rw [ht]; simp)] at hih
        refine piece_ok mixed hc (rLb g nb N x i (insD g x i).2.1 (insD g x i).1 (insD g x i).2.2) ?_ hih
        simp only [All]
        repeat' (first | exact trivial | with_reducible apply And.intro)
        all_goals (first | exact aG _ | exact aP _ _ | omega | rfl | (intros; first | assumption | exact trivial | rfl | exact fT ‹_› | ((repeat' (first | assumption | apply anda | apply notf)); done)) | (intros; exact hca) | (exact ht) | (intro j hj; simp [All, aEt]; done) | (intro j hj; by_cases h : j < (insD g x i).2.1 <;> simp [h, snoc, cvtL, cvt, tg, tru, All]))
  refine piece_ok mixed hc (rLz g nb N x) ?_ (lp nb 0 (by omega))
  simp only [All]
  repeat' (first | exact trivial | with_reducible apply And.intro)
  all_goals (first | exact aP _ _ | exact aA _ _ | omega | rfl | (intros; first | assumption | exact trivial | rfl | exact fT ‹_› | ((repeat' (first | assumption | apply anda | apply notf)); done)) | (intro i hi; simp [All, aEt]))
end Go.Proofs.YtffnfeefjdmifaaGreat.Mach
namespace Go.Proofs
open Go Go.Shelf Go.RowKit Go.Lib Go.Sort
set_option linter.unusedVariables false
set_option linter.unusedSimpArgs false
shelf_lay_g SlLaysF0.n6 Slsf 6 at Tryz 207 as Tryz.sortBar
end Go.Proofs
namespace Go.Proofs.YtffnfeefjdmifaaGreat.Mach
open Go Go.Shelf Go.RowKit Go.Lib Go.Sort
set_option linter.unusedVariables false
set_option linter.unusedSimpArgs false
end Go.Proofs.YtffnfeefjdmifaaGreat.Mach
namespace Go.Proofs.YtffnfeefjdmifaaGreat.Mach
open Go
set_option linter.unusedVariables false
set_option linter.unusedSimpArgs false
def hasI (g : Nat → Int) (x : Int) : Nat → Bool
  | 0 => false
  | k + 1 => hasI g x k || g k == x
def inL (v : T_IntS) : AV := .p (.seq true 1 v.1 (fun i => [.int .i64 (v.2 i)]))
def S85 (v : T_IntS) (x : Int) (k : Nat) : St :=
  ⟨[inL v, .p (.int .i64 x), .p .any, .p .any, .p .any, .p (.int .i64 k)] ++ List.replicate 12 anyA, [], 0⟩
def S112 (v : T_IntS) (x : Int) (k : Nat) : St :=
  ⟨[inL v, .p (.int .i64 x)] ++ List.replicate 5 anyA ++ [.p (.int .i64 v.1), .p (.int .i64 k)] ++ List.replicate 10 anyA, [], 0⟩
theorem p85a (v : T_IntS) (x : Int) :
    pieceOb Tryz.prog 0 [rg 1, rg 1, .head] [.code (bodyOf Tryz.f116)] (start Tryz.f116 [] 0 [inL v, .p (.int .i64 x)]) [] 1 (S85 v x 0) =
    some (zf68, [(AN v.1),(AP v.1 (fun i => [.int .i64 (v.2 i)])),(AI x),((0 : Int) = (↑0 : Int))]) := by kernel_rfl
theorem p85b (v : T_IntS) (x : Int) (k : Nat) :
    pieceOb Tryz.prog 0 [rg 4, .dec true, rg 6, .dec false, rg 3, .head] zf68 (S85 v x k) [] 1 (S85 v x (k + 1)) =
    some (zf68, [((decide ((↑k : Int) < (↑v.1 : Int))) = true),(IL 0 (↑k : Int)),(IT (↑k : Int) (↑v.1 : Int)),((v.2 k == x) = false),(R0 ((↑k : Int) + 1)),(R1 ((↑k : Int) + 1)),(AN v.1),(AP v.1 (fun i => [.int .i64 (v.2 i)])),(AI x),((((↑k : Int) + 1) : Int) = (↑(k + 1) : Int))]) := by kernel_rfl
theorem p85c (v : T_IntS) (x : Int) (k : Nat) :
    pathOb Tryz.prog Tryz.f116 0 [rg 4, .dec true, rg 6, .dec true, rg 1] zf68 (S85 v x k) [] 1 [] (.p (.bool true)) =
    some [((decide ((↑k : Int) < (↑v.1 : Int))) = true),(IL 0 (↑k : Int)),(IT (↑k : Int) (↑v.1 : Int)),((v.2 k == x) = true),(true = true)] := by kernel_rfl
theorem p85d (v : T_IntS) (x : Int) (k : Nat) :
    pathOb Tryz.prog Tryz.f116 0 [rg 4, .dec false, rg 1] zf68 (S85 v x k) [] 1 [] (.p (.bool false)) =
    some [((decide ((↑k : Int) < (↑v.1 : Int))) = false),(false = false)] := by kernel_rfl
theorem p112a (v : T_IntS) (x : Int) :
    pieceOb Tryz.prog 0 [rg 1, rg 3, .head] [.code (bodyOf Tryz.f169)] (start Tryz.f169 [] 0 [inL v, .p (.int .i64 x)]) [] 1 (S112 v x 0) =
    some (zf69, [(AN v.1),(AP v.1 (fun i => [.int .i64 (v.2 i)])),(AI x),(AI ((↑v.1 : Int))),((0 : Int) = (↑0 : Int))]) := by kernel_rfl
theorem p112b (v : T_IntS) (x : Int) (k : Nat) :
    pieceOb Tryz.prog 0 [rg 1, .dec true, rg 2, rg 6, .dec false, rg 2, .head] zf69 (S112 v x k) [] 1 (S112 v x (k + 1)) =
    some (zf69, [((decide ((↑k : Int) < (↑v.1 : Int))) = true),(IL 0 (↑k : Int)),(IT (↑k : Int) (↑v.1 : Int)),((x == v.2 k) = false),(R0 ((↑k : Int) + 1)),(R1 ((↑k : Int) + 1)),(AN v.1),(AP v.1 (fun i => [.int .i64 (v.2 i)])),(AI x),(AI ((↑v.1 : Int))),((((↑k : Int) + 1) : Int) = (↑(k + 1) : Int))]) := by kernel_rfl
theorem p112c (v : T_IntS) (x : Int) (k : Nat) :
    pathOb Tryz.prog Tryz.f169 0 [rg 1, .dec true, rg 2, rg 6, .dec true, rg 2] zf69 (S112 v x k) [] 1 [] (.p (.int .i64 k)) =
    some [((decide ((↑k : Int) < (↑v.1 : Int))) = true),(IL 0 (↑k : Int)),(IT (↑k : Int) (↑v.1 : Int)),((x == v.2 k) = true),(AI ((↑k : Int)))] := by kernel_rfl
theorem p112d (v : T_IntS) (x : Int) (k : Nat) :
    pathOb Tryz.prog Tryz.f169 0 [rg 1, .dec false, rg 1] zf69 (S112 v x k) [] 1 [] (.p (.int .i64 (-1))) =
    some [((decide ((↑k : Int) < (↑v.1 : Int))) = false),(AI ((-1)))] := by kernel_rfl
theorem p90 (v : T_IntS) (x r : Int) :
    pathOb Tryz.prog Tryz.f121 0 [rg 1, rm [(2, oc [] (.p (.int .i64 r)))] 2] [.code (bodyOf Tryz.f121)] (start Tryz.f121 [] 0 [inL v, .p (.int .i64 x)]) [] 1 [] (.p (.bool (decide (r ≥ 0)))) =
    some [Con Tryz.prog 169 0 [] [.p (.seq true 1 v.1 (fun i => [.int .i64 (v.2 i)])), .p (.int .i64 x)] [] (.p (.int .i64 r)),((decide (r ≥ 0)) = (decide (r ≥ 0)))] := by kernel_rfl
theorem hasI_hit (g : Nat → Int) (x : Int) (k : Nat) (h : (g k == x) = true) : ∀ n, k < n → hasI g x n = true
  | 0, h' => by omega
  | n + 1, h' => by
    by_cases e : k = n
    · subst e; simp [hasI, h]
    · simp [hasI, hasI_hit g x k h n (by omega)]
theorem con_l2Has (v : T_IntS) (x : Int) (hn : v.1 ≤ 1048576) : Con Tryz.prog 116 0 [] [inL v, .p (.int .i64 x)] [] (.p (.bool (hasI v.2 x v.1))) := by
  refine con_start Tryz.func116 rfl (by kernel_rfl) rfl (fun c hc => ?_)
  have lp : ∀ m k, k + m = v.1 → hasI v.2 x k = false → Run Tryz.prog c 116 zf68 (S85 v x k) (Post c [] (.p (.bool (hasI v.2 x v.1)))) := by
    intro m
    induction m with
    | zero =>
      intro k hk hg
      rw [show hasI v.2 x v.1 = false by rw [show v.1 = k by omega]; exact hg]
      have hd : decide ((k : Int) < (v.1 : Int)) = false := by simp; omega
      refine path_ok mixed Tryz.func116 hc (p85d v x k) ?_
      simp only [All]
      repeat' (first | exact trivial | with_reducible apply And.intro)
      all_goals (first | omega | rfl | (intros; first | assumption | exact trivial | rfl | exact fT ‹_› | ((repeat' (first | assumption | apply anda | apply notf)); done)))
    | succ m ih =>
      intro k hk hg
      have hd : decide ((k : Int) < (v.1 : Int)) = true := by simp; omega
      cases he : (v.2 k == x) with
      | true =>
        rw [hasI_hit v.2 x k he v.1 (by omega)]
        refine path_ok mixed Tryz.func116 hc (p85c v x k) ?_
        simp only [All]
        repeat' (first | exact trivial | with_reducible apply And.intro)
        all_goals (first | omega | rfl | (intros; first | assumption | exact trivial | rfl | exact fT ‹_› | ((repeat' (first | assumption | apply anda | apply notf)); done)) | (exact he))
      | false =>
        refine piece_ok mixed hc (p85b v x k) ?_ (ih (k + 1) (by omega) (by simp only [hasI, hg, he]; rfl))
        simp only [All]
        repeat' (first | exact trivial | with_reducible apply And.intro)
        all_goals (first | exact aP _ _ | omega | rfl | (intros; first | assumption | exact trivial | rfl | exact fT ‹_› | ((repeat' (first | assumption | apply anda | apply notf)); done)) | (exact he))
  refine piece_ok mixed hc (p85a v x) ?_ (lp v.1 0 (by omega) rfl)
  simp only [All]
  repeat' (first | exact trivial | with_reducible apply And.intro)
  all_goals (first | exact aP _ _ | omega | rfl | (intros; first | assumption | exact trivial | rfl | exact fT ‹_› | ((repeat' (first | assumption | apply anda | apply notf)); done)))
theorem con_Index (v : T_IntS) (x : Int) (hn : v.1 ≤ 1048576) : ∃ r : Int, decide (r ≥ 0) = hasI v.2 x v.1 ∧ Con Tryz.prog 169 0 [] [inL v, .p (.int .i64 x)] [] (.p (.int .i64 r)) := by
  have key : (∃ k, k < v.1 ∧ hasI v.2 x k = false ∧ (v.2 k == x) = true) ∨ hasI v.2 x v.1 = false := by
    have gen : ∀ n, (∃ k, k < n ∧ hasI v.2 x k = false ∧ (v.2 k == x) = true) ∨ hasI v.2 x n = false := by
      intro n
      induction n with
      | zero => exact .inr rfl
      | succ n ih =>
        rcases ih with ⟨k, h1, h2⟩ | h
        · exact .inl ⟨k, by omega, h2⟩
        · cases he : (v.2 n == x) with
          | true => exact .inl ⟨n, by omega, h, he⟩
          | false => exact .inr (by simp only [hasI, h, he]; rfl)
    exact gen v.1
  rcases key with ⟨q, hq, hq1, hq2⟩ | hno
  · refine ⟨(q : Int), by rw [hasI_hit v.2 x q hq2 v.1 hq]; simp, ?_⟩
    refine con_start Tryz.func169 rfl (by kernel_rfl) rfl (fun c hc => ?_)
    have lp : ∀ m k, k + m = q → Run Tryz.prog c 169 zf69 (S112 v x k) (Post c [] (.p (.int .i64 (q : Int)))) := by
      intro m
      induction m with
      | zero =>
        intro k hk
        obtain rfl : k = q := by omega
        have hd : decide ((k : Int) < (v.1 : Int)) = true := by simp; omega
        have he : (x == v.2 k) = true := by rw [beq_iff_eq] at hq2 ⊢; exact hq2.symm
        refine path_ok mixed Tryz.func169 hc (p112c v x k) ?_
        simp only [All]
        repeat' (first | exact trivial | with_reducible apply And.intro)
        all_goals (first | omega | rfl | (intros; first | assumption | exact trivial | rfl | exact fT ‹_› | ((repeat' (first | assumption | apply anda | apply notf)); done)) | (exact he))
      | succ m ih =>
        intro k hk
        have hd : decide ((k : Int) < (v.1 : Int)) = true := by simp; omega
        have he : (x == v.2 k) = false := by
          cases h : (v.2 k == x) with
          | true => rw [hasI_hit v.2 x k h q (by omega)] at hq1; cases hq1
          | false =>
            simp only [beq_eq_false_iff_ne, ne_eq] at h ⊢
            exact fun e => h e.symm
        refine piece_ok mixed hc (p112b v x k) ?_ (ih (k + 1) (by omega))
        simp only [All]
        repeat' (first | exact trivial | with_reducible apply And.intro)
        all_goals (first | exact aP _ _ | omega | rfl | (intros; first | assumption | exact trivial | rfl | exact fT ‹_› | ((repeat' (first | assumption | apply anda | apply notf)); done)) | (exact he))
    refine piece_ok mixed hc (p112a v x) ?_ (lp q 0 (by omega))
    simp only [All]
    repeat' (first | exact trivial | with_reducible apply And.intro)
    all_goals (first | exact aP _ _ | omega | rfl | (intros; first | assumption | exact trivial | rfl | exact fT ‹_› | ((repeat' (first | assumption | apply anda | apply notf)); done)))
  · refine ⟨-1, by rw [hno]; rfl, ?_⟩
    refine con_start Tryz.func169 rfl (by kernel_rfl) rfl (fun c hc => ?_)
    have lp : ∀ m k, k + m = v.1 → Run Tryz.prog c 169 zf69 (S112 v x k) (Post c [] (.p (.int .i64 (-1)))) := by
      intro m
      induction m with
      | zero =>
        intro k hk
        have hd : decide ((k : Int) < (v.1 : Int)) = false := by simp; omega
        refine path_ok mixed Tryz.func169 hc (p112d v x k) ?_
        simp only [All]
        repeat' (first | exact trivial | with_reducible apply And.intro)
        all_goals (first | omega | rfl | (intros; first | assumption | exact trivial | rfl | exact fT ‹_› | ((repeat' (first | assumption | apply anda | apply notf)); done)))
      | succ m ih =>
        intro k hk
        have hd : decide ((k : Int) < (v.1 : Int)) = true := by simp; omega
        have he : (x == v.2 k) = false := by
          cases h : (v.2 k == x) with
          | true => rw [hasI_hit v.2 x k h v.1 (by omega)] at hno; cases hno
          | false =>
            simp only [beq_eq_false_iff_ne, ne_eq] at h ⊢
            exact fun e => h e.symm
        refine piece_ok mixed hc (p112b v x k) ?_ (ih (k + 1) (by omega))
        simp only [All]
        repeat' (first | exact trivial | with_reducible apply And.intro)
        all_goals (first | exact aP _ _ | omega | rfl | (intros; first | assumption | exact trivial | rfl | exact fT ‹_› | ((repeat' (first | assumption | apply anda | apply notf)); done)) | (exact he))
    refine piece_ok mixed hc (p112a v x) ?_ (lp v.1 0 (by omega))
    simp only [All]
    repeat' (first | exact trivial | with_reducible apply And.intro)
    all_goals (first | exact aP _ _ | omega | rfl | (intros; first | assumption | exact trivial | rfl | exact fT ‹_› | ((repeat' (first | assumption | apply anda | apply notf)); done)))
theorem con_Contains (v : T_IntS) (x : Int) (hn : v.1 ≤ 1048576) : Con Tryz.prog 121 0 [] [inL v, .p (.int .i64 x)] [] (.p (.bool (hasI v.2 x v.1))) := by
  obtain ⟨r, hr, hcon⟩ := con_Index v x hn
  rw [← hr]
  refine con_start Tryz.func121 rfl (by kernel_rfl) rfl (fun c hc => ?_)
  refine path_ok mixed Tryz.func121 hc (p90 v x r) ?_
  simp only [All]
  repeat' (first | exact trivial | with_reducible apply And.intro)
  all_goals (first | omega | rfl | (intros; first | assumption | exact trivial | rfl | exact fT ‹_› | ((repeat' (first | assumption | apply anda | apply notf)); done)) | (exact hcon))
end Go.Proofs.YtffnfeefjdmifaaGreat.Mach
namespace Go.Proofs.YtffnfeefjdmifaaGreat.Mach
open Go Go.Sort
set_option linter.unusedVariables false
set_option linter.unusedSimpArgs false
def brX (a b : Int) : T_Bar := (if b < a then b else a, if b > a then b else a, ())
theorem dHas (v : T_Graph) (p : Int) :
    pathOb Tryz.prog Tryz.f143 0 [rg 2, rm [(4, oc [] (.p (.bool (inB p 0 (v.1 - 1)))))] 1] [.code (bodyOf Tryz.f143)] (start Tryz.f143 [] 0 [graphA v, .p (.int .i64 p)]) [] 1 [] (.p (.bool (inB p 0 (v.1 - 1)))) =
    some [(NT 0 1),(R0 (v.1 - 1)),(R1 (v.1 - 1)),Con Tryz.prog 104 0 [] [.p (.int .i64 p), .p (.int .i64 0), .p (.int .i64 (v.1 - 1))] [] (.p (.bool (inB p 0 (v.1 - 1)))),((inB p 0 (v.1 - 1)) = (inB p 0 (v.1 - 1)))] := by kernel_rfl
theorem con_hasX (v : T_Graph) (p : Int) (h1 : 1 ≤ v.1) (h2 : v.1 ≤ 8) : Con Tryz.prog 143 0 [] [graphA v, .p (.int .i64 p)] [] (.p (.bool (inB p 0 (v.1 - 1)))) := by
  refine con_start Tryz.func143 rfl (by kernel_rfl) rfl (fun c hc => ?_)
  refine path_ok mixed Tryz.func143 hc (dHas v p) ?_
  simp only [All]
  repeat' (first | exact trivial | with_reducible apply And.intro)
  all_goals (first | omega | rfl | (intros; first | assumption | exact trivial | rfl | exact fT ‹_› | ((repeat' (first | assumption | apply anda | apply notf)); done)) | (exact con_within _ _ _))
theorem graph_inR {v : T_Graph} (h : isGraphF v = true) : 1 ≤ v.1 ∧ v.1 ≤ 8 ∧ v.2.1.1 ≤ 24 ∧ goodB v.1 v.2.1.2 v.2.1.1 = true := by
  unfold isGraphF at h
  split at h
  · rename_i h1
    simp only [inB, Bool.and_eq_true, decide_eq_true_eq] at h1
    exact ⟨h1.1.1, h1.1.2, h1.2, h⟩
  · cases h
theorem sm_graph {v : T_Graph} (h : v.2.1.1 ≤ 1048576) : smS s_Graph v := ⟨by simp [smS, smL], ⟨h, fun i hi => by simp [smS, smL]⟩, True.intro⟩
end Go.Proofs.YtffnfeefjdmifaaGreat.Mach
namespace Go.Proofs.YtffnfeefjdmifaaGreat.Mach
open Go Go.Sort
set_option linter.unusedVariables false
set_option linter.unusedSimpArgs false
def hitB (x : T_Bar) (a b : Int) : Bool := bif bif x.1 == a then x.2.1 == b else false then true else bif x.1 == b then x.2.1 == a else false
def SOi (v : T_Graph) (a b : Int) (k n : Nat) : St :=
  ⟨[graphA v, .p (.int .i64 a), .p (.int .i64 b), .pt 2 0 0 0, .p .any, .p .any, .p .any, .p (.int .i64 n), .p .any, .p .any, .p .any, graphL v.2.1, .p (.int .i64 v.2.1.1), .p (.int .i64 k)] ++ List.replicate 29 anyA, [(0, boxG v)], 1⟩
def SMio (v : T_Graph) (a n : Nat) (h : Nat → T_Bar) : St :=
  ⟨[graphA v, .pt 2 0 0 0, .p .any, .ar 2 1 0 n] ++ List.replicate 8 anyA ++ [.p (.int .i64 v.1), .p (.int .i64 a)] ++ List.replicate 23 anyA, [(0, boxG v), (1, brOb n h)], 2⟩
def SMii (v : T_Graph) (a b n : Nat) (h : Nat → T_Bar) : St :=
  ⟨[graphA v, .pt 2 0 0 0, .p .any, .ar 2 1 0 n, .p (.int .i64 a), .p (.int .i64 b)] ++ List.replicate 6 anyA ++ [.p (.int .i64 v.1), .p (.int .i64 a)] ++ List.replicate 23 anyA, [(0, boxG v), (1, brOb n h)], 2⟩
theorem oIz (v : T_Graph) (a b : Int) :
    pieceOb Tryz.prog 0 [rg 2, rg 1, rg 4, .head] [.code (bodyOf Tryz.f200)] (start Tryz.f200 [] 0 [graphA v, .p (.int .i64 a), .p (.int .i64 b)]) [0] 1 (SOi v a b 0 0) =
    some (zf50, [(NT 0 1),(AI v.1),(AN v.2.1.1),(AP v.2.1.1 (fun i => [.int .i64 ((v.2.1.2 i).1), .int .i64 ((v.2.1.2 i).2.1)])),(AI a),(AI b),(AN 0),((0 : Int) = (↑0 : Int)),(AN v.2.1.1),(AP v.2.1.1 (fun i => [.int .i64 ((v.2.1.2 i).1), .int .i64 ((v.2.1.2 i).2.1)])),(AI ((↑v.2.1.1 : Int))),((0 : Int) = (↑0 : Int)),((([AV.p (PV.int IntKind.i64 v.1), graphL v.2.1].length) : Nat) = 2),(NL 1 1),(NL 1 1),(AI v.1),(AN v.2.1.1),(AP v.2.1.1 (fun i => [.int .i64 ((v.2.1.2 i).1), .int .i64 ((v.2.1.2 i).2.1)]))]) := by kernel_rfl
theorem oIt (v : T_Graph) (a b : Int) (k n : Nat) :
    pieceOb Tryz.prog 0 [rg 1, .dec true, rg 4, rg 22, .dec true, rg 3, rg 2, .head] zf50 (SOi v a b k n) [0] 1 (SOi v a b (k + 1) (n + 1)) =
    some (zf50, [((decide ((↑k : Int) < (↑v.2.1.1 : Int))) = true),(IL 0 (↑k : Int)),(IT (↑k : Int) (↑v.2.1.1 : Int)),(NT 0 1),((true = true) →  (AN 1)),(NT 0 1),(AG ((v.2.1.2 k).1 == a)),((((v.2.1.2 k).1 == a) = true) → (NT 0 1)),(AG ((v.2.1.2 k).1 == a)),(AG ((v.2.1.2 k).1 == a)),(AG ((v.2.1.2 k).1 == a)),(AG (!bif (v.2.1.2 k).1 == a then (v.2.1.2 k).2.1 == b else false)),(((!bif (v.2.1.2 k).1 == a then (v.2.1.2 k).2.1 == b else false) = true) → (NT 0 1)),(AG (!bif (v.2.1.2 k).1 == a then (v.2.1.2 k).2.1 == b else false)),(AG (!bif (v.2.1.2 k).1 == a then (v.2.1.2 k).2.1 == b else false)),(AG (!bif (v.2.1.2 k).1 == a then (v.2.1.2 k).2.1 == b else false)),(AG ((!bif (v.2.1.2 k).1 == a then (v.2.1.2 k).2.1 == b else false) && (v.2.1.2 k).1 == b)),((((!bif (v.2.1.2 k).1 == a then (v.2.1.2 k).2.1 == b else false) && (v.2.1.2 k).1 == b) = true) → (NT 0 1)),(AG ((!bif (v.2.1.2 k).1 == a then (v.2.1.2 k).2.1 == b else false) && (v.2.1.2 k).1 == b)),(AG ((!bif (v.2.1.2 k).1 == a then (v.2.1.2 k).2.1 == b else false) && (v.2.1.2 k).1 == b)),(AG (!bif (v.2.1.2 k).1 == a then (v.2.1.2 k).2.1 == b else false)),(((!bif (v.2.1.2 k).1 == a then (v.2.1.2 k).2.1 == b else false) = true) → ((((v.2.1.2 k).1 == b) = true) →  (((!bif (v.2.1.2 k).1 == a then (v.2.1.2 k).2.1 == b else false) && (v.2.1.2 k).1 == b) = true))),(((bif (v.2.1.2 k).1 == a then (v.2.1.2 k).2.1 == b else false) = false) →  ((!bif (v.2.1.2 k).1 == a then (v.2.1.2 k).2.1 == b else false) = true)),((bif bif (v.2.1.2 k).1 == a then (v.2.1.2 k).2.1 == b else false then true else bif (v.2.1.2 k).1 == b then (v.2.1.2 k).2.1 == a else false) = true),(R0 ((↑n : Int) + 1)),(R1 ((↑n : Int) + 1)),(R0 ((↑k : Int) + 1)),(R1 ((↑k : Int) + 1)),(AI v.1),(AN v.2.1.1),(AP v.2.1.1 (fun i => [.int .i64 ((v.2.1.2 i).1), .int .i64 ((v.2.1.2 i).2.1)])),(AI a),(AI b),(AN 0),((((↑n : Int) + 1) : Int) = (↑(n + 1) : Int)),(AN v.2.1.1),(AP v.2.1.1 (fun i => [.int .i64 ((v.2.1.2 i).1), .int .i64 ((v.2.1.2 i).2.1)])),(AI ((↑v.2.1.1 : Int))),((((↑k : Int) + 1) : Int) = (↑(k + 1) : Int)),(AN 2),(NL 1 1),(NL 1 1),(AI v.1),(AN v.2.1.1),(AP v.2.1.1 (fun i => [.int .i64 ((v.2.1.2 i).1), .int .i64 ((v.2.1.2 i).2.1)]))]) := by kernel_rfl
theorem oIf (v : T_Graph) (a b : Int) (k n : Nat) :
    pieceOb Tryz.prog 0 [rg 1, .dec true, rg 4, rg 22, .dec false, rg 2, .head] zf50 (SOi v a b k n) [0] 1 (SOi v a b (k + 1) n) =
    some (zf50, [((decide ((↑k : Int) < (↑v.2.1.1 : Int))) = true),(IL 0 (↑k : Int)),(IT (↑k : Int) (↑v.2.1.1 : Int)),(NT 0 1),((true = true) →  (AN 1)),(NT 0 1),(AG ((v.2.1.2 k).1 == a)),((((v.2.1.2 k).1 == a) = true) → (NT 0 1)),(AG ((v.2.1.2 k).1 == a)),(AG ((v.2.1.2 k).1 == a)),(AG ((v.2.1.2 k).1 == a)),(AG (!bif (v.2.1.2 k).1 == a then (v.2.1.2 k).2.1 == b else false)),(((!bif (v.2.1.2 k).1 == a then (v.2.1.2 k).2.1 == b else false) = true) → (NT 0 1)),(AG (!bif (v.2.1.2 k).1 == a then (v.2.1.2 k).2.1 == b else false)),(AG (!bif (v.2.1.2 k).1 == a then (v.2.1.2 k).2.1 == b else false)),(AG (!bif (v.2.1.2 k).1 == a then (v.2.1.2 k).2.1 == b else false)),(AG ((!bif (v.2.1.2 k).1 == a then (v.2.1.2 k).2.1 == b else false) && (v.2.1.2 k).1 == b)),((((!bif (v.2.1.2 k).1 == a then (v.2.1.2 k).2.1 == b else false) && (v.2.1.2 k).1 == b) = true) → (NT 0 1)),(AG ((!bif (v.2.1.2 k).1 == a then (v.2.1.2 k).2.1 == b else false) && (v.2.1.2 k).1 == b)),(AG ((!bif (v.2.1.2 k).1 == a then (v.2.1.2 k).2.1 == b else false) && (v.2.1.2 k).1 == b)),(AG (!bif (v.2.1.2 k).1 == a then (v.2.1.2 k).2.1 == b else false)),(((!bif (v.2.1.2 k).1 == a then (v.2.1.2 k).2.1 == b else false) = true) → ((((v.2.1.2 k).1 == b) = true) →  (((!bif (v.2.1.2 k).1 == a then (v.2.1.2 k).2.1 == b else false) && (v.2.1.2 k).1 == b) = true))),(((bif (v.2.1.2 k).1 == a then (v.2.1.2 k).2.1 == b else false) = false) →  ((!bif (v.2.1.2 k).1 == a then (v.2.1.2 k).2.1 == b else false) = true)),((bif bif (v.2.1.2 k).1 == a then (v.2.1.2 k).2.1 == b else false then true else bif (v.2.1.2 k).1 == b then (v.2.1.2 k).2.1 == a else false) = false),(R0 ((↑k : Int) + 1)),(R1 ((↑k : Int) + 1)),(AI v.1),(AN v.2.1.1),(AP v.2.1.1 (fun i => [.int .i64 ((v.2.1.2 i).1), .int .i64 ((v.2.1.2 i).2.1)])),(AI a),(AI b),(AN 0),(AI ((↑n : Int))),(AN v.2.1.1),(AP v.2.1.1 (fun i => [.int .i64 ((v.2.1.2 i).1), .int .i64 ((v.2.1.2 i).2.1)])),(AI ((↑v.2.1.1 : Int))),((((↑k : Int) + 1) : Int) = (↑(k + 1) : Int)),(AN 2),(NL 1 1),(NL 1 1),(AI v.1),(AN v.2.1.1),(AP v.2.1.1 (fun i => [.int .i64 ((v.2.1.2 i).1), .int .i64 ((v.2.1.2 i).2.1)]))]) := by kernel_rfl
theorem oIe (v : T_Graph) (a b : Int) (k n : Nat) :
    pathOb Tryz.prog Tryz.f200 0 [rg 1, .dec false, rg 2] zf50 (SOi v a b k n) [] 1 [] (.p (.int .i64 n)) =
    some [((decide ((↑k : Int) < (↑v.2.1.1 : Int))) = false),(AI ((↑n : Int)))] := by kernel_rfl
theorem mIn (v : T_Graph) :
    pathOb Tryz.prog Tryz.f159 0 [rg 2, rg 2, rm [(1, oc [] (.p (.bool false)))] 1, .dec true, rg 2] [.code (bodyOf Tryz.f159)] (start Tryz.f159 [] 0 [graphA v]) [64] 1 [(0, brOb 0 (fun _ => (0, 0, ())))] (.ar 2 0 0 0) =
    some [(NT 0 1),Con Tryz.prog 35 0 [] [(zf75 v)] [] (.p (.bool false)),((!false) = true),(AN 0),(AN 0),(AN 2),(NL 0 0),(AA 0 (fun i => [.p (.int .i64 0), .p (.int .i64 0)])),(AE 0)] := by kernel_rfl
theorem mIz (v : T_Graph) :
    pieceOb Tryz.prog 0 [rg 2, rg 2, rm [(1, oc [] (.p (.bool true)))] 1, .dec false, rg 3, .head] [.code (bodyOf Tryz.f159)] (start Tryz.f159 [] 0 [graphA v]) [0, 64] 1 (SMio v 0 0 (fun _ => (0, 0, ()))) =
    some (zf30, [(NT 0 1),Con Tryz.prog 35 0 [] [(zf75 v)] [] (.p (.bool true)),((!true) = false),(NT 0 1),(AI v.1),(AN v.2.1.1),(AP v.2.1.1 (fun i => [.int .i64 ((v.2.1.2 i).1), .int .i64 ((v.2.1.2 i).2.1)])),(AN 0),(AN 0),(AN 0),(AI v.1),((0 : Int) = (↑0 : Int)),((([AV.p (PV.int IntKind.i64 v.1), graphL v.2.1].length) : Nat) = 2),(NL 1 1),(NL 1 1),(AI v.1),(AN v.2.1.1),(AP v.2.1.1 (fun i => [.int .i64 ((v.2.1.2 i).1), .int .i64 ((v.2.1.2 i).2.1)])),(AN 2),(NL 0 0),(AA 0 (fun i => [.p (.int .i64 0), .p (.int .i64 0)]))]) := by kernel_rfl
theorem mIo (v : T_Graph) (a n : Nat) (h : Nat → T_Bar) :
    pieceOb Tryz.prog 0 [rg 1, .dec true, rg 2, rg 3, .head] zf30 (SMio v a n h) [0, 1] 1 (SMii v a (a + 1) n h) =
    some (zf9, [((decide ((↑a : Int) < v.1)) = true),(R0 ((↑a : Int) + 1)),(R1 ((↑a : Int) + 1)),(AI v.1),(AN v.2.1.1),(AP v.2.1.1 (fun i => [.int .i64 ((v.2.1.2 i).1), .int .i64 ((v.2.1.2 i).2.1)])),(AN 0),(AN 0),(AN n),(AI ((↑a : Int))),((((↑a : Int) + 1) : Int) = (↑(a + 1) : Int)),(AI v.1),(AI ((↑a : Int))),(AN 2),(NL 1 1),(NL 1 1),(AI v.1),(AN v.2.1.1),(AP v.2.1.1 (fun i => [.int .i64 ((v.2.1.2 i).1), .int .i64 ((v.2.1.2 i).2.1)])),(AN 2),(NL n n),(AA n (fun i => [.p (.int .i64 ((h i).1)), .p (.int .i64 ((h i).2.1))]))]) := by kernel_rfl
theorem mIt (v : T_Graph) (a b n c : Nat) (h : Nat → T_Bar) :
    pieceOb Tryz.prog 0 [rg 4, .dec true, rm [(3, oc [] (.p (.int .i64 c)))] 1, .dec true, rg 7, rg 3, .head] zf9 (SMii v a b n h) [0, 450] 1 (SMii v a (b + 1) (n + 1) (snoc n h (a, b, ()))) =
    some (zf9, [(NT 0 1),((decide ((↑b : Int) < v.1)) = true),(NT 0 1),Con Tryz.prog 200 0 [] [(zf75 v), .p (.int .i64 (↑a : Int)), .p (.int .i64 (↑b : Int))] [] (.p (.int .i64 (↑c : Int))),(((↑c : Int) == 0) = true),(NL 1 1),(NL n n),(NL ((n + 1) * 16) 140737488355328),(NL (n + 1) 9223372036854775807),(R0 ((↑b : Int) + 1)),(R1 ((↑b : Int) + 1)),(AI v.1),(AN v.2.1.1),(AP v.2.1.1 (fun i => [.int .i64 ((v.2.1.2 i).1), .int .i64 ((v.2.1.2 i).2.1)])),(AN 0),(AN 0),(AN ((n + 1))),(AI ((↑a : Int))),((((↑b : Int) + 1) : Int) = (↑(b + 1) : Int)),(AI v.1),(AI ((↑a : Int))),(AN 2),(NL 1 1),(NL 1 1),(AI v.1),(AN v.2.1.1),(AP v.2.1.1 (fun i => [.int .i64 ((v.2.1.2 i).1), .int .i64 ((v.2.1.2 i).2.1)])),(AN 2),(NL (n + 1) (n + 1)),(CV [(450, ⟨false, 2, (n + 1), (fun i_1 => (if (i_1 < n) then [.p (.int .i64 ((h i_1).1)), .p (.int .i64 ((h i_1).2.1))] else [.p (.int .i64 (↑a : Int)), .p (.int .i64 (↑b : Int))]))⟩), (418, ⟨false, 2, 1, (fun i_1 => [.p (.int .i64 (↑a : Int)), .p (.int .i64 (↑b : Int))])⟩), (0, ⟨true, 2, 1, (fun i_1 => [.p (.int .i64 v.1), .p (.seq true 2 v.2.1.1 (fun i_2 => [.int .i64 ((v.2.1.2 i_2).1), .int .i64 ((v.2.1.2 i_2).2.1)]))])⟩)] [0, 450] 1 (n + 1) (fun i => if (i < n) then [.p (.int .i64 ((h i).1)), .p (.int .i64 ((h i).2.1))] else [.p (.int .i64 (↑a : Int)), .p (.int .i64 (↑b : Int))]) (fun i => [.p (.int .i64 (if i < n then (h i).1 else (↑a : Int))), .p (.int .i64 (if i < n then (h i).2.1 else (↑b : Int)))]))]) := by kernel_rfl
theorem mIf (v : T_Graph) (a b n c : Nat) (h : Nat → T_Bar) :
    pieceOb Tryz.prog 0 [rg 4, .dec true, rm [(3, oc [] (.p (.int .i64 c)))] 1, .dec false, rg 3, .head] zf9 (SMii v a b n h) [0, 1] 1 (SMii v a (b + 1) n h) =
    some (zf9, [(NT 0 1),((decide ((↑b : Int) < v.1)) = true),(NT 0 1),Con Tryz.prog 200 0 [] [(zf75 v), .p (.int .i64 (↑a : Int)), .p (.int .i64 (↑b : Int))] [] (.p (.int .i64 (↑c : Int))),(((↑c : Int) == 0) = false),(R0 ((↑b : Int) + 1)),(R1 ((↑b : Int) + 1)),(AI v.1),(AN v.2.1.1),(AP v.2.1.1 (fun i => [.int .i64 ((v.2.1.2 i).1), .int .i64 ((v.2.1.2 i).2.1)])),(AN 0),(AN 0),(AN n),(AI ((↑a : Int))),((((↑b : Int) + 1) : Int) = (↑(b + 1) : Int)),(AI v.1),(AI ((↑a : Int))),(AN 2),(NL 1 1),(NL 1 1),(AI v.1),(AN v.2.1.1),(AP v.2.1.1 (fun i => [.int .i64 ((v.2.1.2 i).1), .int .i64 ((v.2.1.2 i).2.1)])),(AN 2),(NL n n),(AA n (fun i => [.p (.int .i64 ((h i).1)), .p (.int .i64 ((h i).2.1))]))]) := by kernel_rfl
theorem mIx (v : T_Graph) (a b n : Nat) (h : Nat → T_Bar) :
    pieceOb Tryz.prog 0 [rg 4, .dec false, rg 2, .head] zf9 (SMii v a b n h) [0, 1] 1 (SMio v (a + 1) n h) =
    some (zf30, [(NT 0 1),((decide ((↑b : Int) < v.1)) = false),(R0 ((↑a : Int) + 1)),(R1 ((↑a : Int) + 1)),(AI v.1),(AN v.2.1.1),(AP v.2.1.1 (fun i => [.int .i64 ((v.2.1.2 i).1), .int .i64 ((v.2.1.2 i).2.1)])),(AN 0),(AN 0),(AN n),(AI v.1),((((↑a : Int) + 1) : Int) = (↑(a + 1) : Int)),(AN 2),(NL 1 1),(NL 1 1),(AI v.1),(AN v.2.1.1),(AP v.2.1.1 (fun i => [.int .i64 ((v.2.1.2 i).1), .int .i64 ((v.2.1.2 i).2.1)])),(AN 2),(NL n n),(AA n (fun i => [.p (.int .i64 ((h i).1)), .p (.int .i64 ((h i).2.1))]))]) := by kernel_rfl
theorem mIe (v : T_Graph) (a n : Nat) (h : Nat → T_Bar) :
    pathOb Tryz.prog Tryz.f159 0 [rg 1, .dec false, rg 2] zf30 (SMio v a n h) [1] 1 [(0, brOb n h)] (.ar 2 0 0 n) =
    some [((decide ((↑a : Int) < v.1)) = false),(AN 0),(AN n),(AN 2),(NL n n),(AA n (fun i => [.p (.int .i64 ((h i).1)), .p (.int .i64 ((h i).2.1))])),(AE n)] := by kernel_rfl
def cbN (g : Nat → T_Bar) (a b : Int) : Nat → Nat
  | 0 => 0
  | k + 1 => if hitB (g k) a b = true then cbN g a b k + 1 else cbN g a b k
theorem cbN_le (g : Nat → T_Bar) (a b : Int) : ∀ k, cbN g a b k ≤ k
  | 0 => Nat.le_refl _
  | k + 1 => by
    have := cbN_le g a b k
    simp only [cbN]
    split <;> omega
theorem con_CountBar_i (v : T_Graph) (hs : smS s_Graph v) (a b : Int) : Con Tryz.prog 200 0 [] [graphA v, .p (.int .i64 a), .p (.int .i64 b)] [] (.p (.int .i64 (cbN v.2.1.2 a b v.2.1.1))) := by
  have hn : v.2.1.1 ≤ 1048576 := hs.2.1.1
  refine con_start Tryz.func200 rfl (by kernel_rfl) rfl (fun c hc => ?_)
  have lo : ∀ d k, k + d = v.2.1.1 → Run Tryz.prog c 200 zf50 (SOi v a b k (cbN v.2.1.2 a b k)) (Post c [] (.p (.int .i64 (cbN v.2.1.2 a b v.2.1.1)))) := by
    intro d
    induction d with
    | zero =>
      intro k hk
      obtain rfl : k = v.2.1.1 := by omega
      have hd : decide ((v.2.1.1 : Int) < (v.2.1.1 : Int)) = false := by simp
      refine path_ok mixed Tryz.func200 hc (oIe v a b v.2.1.1 _) ?_
      simp only [All]
      repeat' (first | exact trivial | with_reducible apply And.intro)
      all_goals (first | omega | rfl | (intros; first | assumption | exact trivial | rfl | exact fT ‹_› | ((repeat' (first | assumption | apply anda | apply notf)); done)) | (exact hd))
    | succ d ih =>
      intro k hk
      have hd : decide ((k : Int) < (v.2.1.1 : Int)) = true := decide_eq_true (by omega)
      have hrec := ih (k + 1) (by omega)
      have hl := cbN_le v.2.1.2 a b k
      cases hh : hitB (v.2.1.2 k) a b with
      | true =>
        rw [show cbN v.2.1.2 a b (k + 1) = cbN v.2.1.2 a b k + 1 by simp [cbN, hh]] at hrec
        refine piece_ok mixed hc (oIt v a b k _) ?_ hrec
        simp only [All]
        repeat' (first | exact trivial | with_reducible apply And.intro)
        all_goals (first | exact aG _ | exact aP _ _ | omega | rfl | (intros; first | assumption | exact trivial | rfl | exact fT ‹_› | ((repeat' (first | assumption | apply anda | apply notf)); done)) | (exact hd) | (exact hh) | (simp; omega))
      | false =>
        rw [show cbN v.2.1.2 a b (k + 1) = cbN v.2.1.2 a b k by simp [cbN, hh]] at hrec
        refine piece_ok mixed hc (oIf v a b k _) ?_ hrec
        simp only [All]
        repeat' (first | exact trivial | with_reducible apply And.intro)
        all_goals (first | exact aG _ | exact aP _ _ | omega | rfl | (intros; first | assumption | exact trivial | rfl | exact fT ‹_› | ((repeat' (first | assumption | apply anda | apply notf)); done)) | (exact hd) | (exact hh) | (simp; omega))
  refine piece_ok mixed hc (oIz v a b) ?_ (lo v.2.1.1 0 (by omega))
  simp only [All]
  repeat' (first | exact trivial | with_reducible apply And.intro)
  all_goals (first | exact aP _ _ | omega | rfl | (intros; first | assumption | exact trivial | rfl | exact fT ‹_› | ((repeat' (first | assumption | apply anda | apply notf)); done)) | (simp; omega))
def msI (v : T_Graph) (a : Nat) (r : NB) : Nat → NB
  | 0 => r
  | j + 1 => if cbN v.2.1.2 a ((a + 1 + j : Nat) : Int) v.2.1.1 = 0 then sn (msI v a r j) (a, ((a + 1 + j : Nat) : Int), ()) else msI v a r j
def msO (v : T_Graph) : Nat → NB
  | 0 => zNB
  | a + 1 => msI v a (msO v a) (v.1.toNat - (a + 1))
def msP (v : T_Graph) : NB := if isGraphF v = true then msO v v.1.toNat else zNB
theorem msI_n (v : T_Graph) (a : Nat) (r : NB) : ∀ j, (msI v a r j).1 ≤ r.1 + j
  | 0 => Nat.le_refl _
  | j + 1 => by
    have := msI_n v a r j
    simp only [msI]
    split
    · simp only [sn]; omega
    · omega
theorem msO_n (v : T_Graph) (h : v.1.toNat ≤ 8) : ∀ a, (msO v a).1 ≤ 8 * a
  | 0 => Nat.le_refl _
  | a + 1 => by
    have := msO_n v h a
    have := msI_n v a (msO v a) (v.1.toNat - (a + 1))
    simp only [msO]
    omega
theorem con_Missing_i (v : T_Graph) (hs : smS s_Graph v) : Con Tryz.prog 159 0 [] [graphA v] [(0, brOb (msP v).1 (msP v).2)] (.ar 2 0 0 (msP v).1) := by
  have c1 := con_IsGraph_i v hs
  refine con_start Tryz.func159 rfl (by kernel_rfl) rfl (fun c hc => ?_)
  cases hp : isGraphF v with
  | false =>
    rw [hp] at c1
    rw [show msP v = zNB by simp [msP, hp]]
    refine path_ok mixed Tryz.func159 hc (mIn v) ?_
    simp only [All]
    repeat' (first | exact trivial | with_reducible apply And.intro)
    all_goals (first | exact aA _ _ | exact aE _ | omega | rfl | (intros; first | assumption | exact trivial | rfl | exact fT ‹_› | ((repeat' (first | assumption | apply anda | apply notf)); done)) | (intros; exact c1) | (intro t ht; exact absurd ht (Nat.not_lt_zero _)) | (intro t ht; simp [All, aEt]))
  | true =>
    have hg := graph_inR hp
    rw [hp] at c1
    rw [show msP v = msO v v.1.toNat by simp [msP, hp]]
    generalize hR : msO v v.1.toNat = R
    have li : ∀ a, a < v.1.toNat → (Run Tryz.prog c 159 zf30 (SMio v (a + 1) (msO v (a + 1)).1 (msO v (a + 1)).2) (Post c [(0, brOb R.1 R.2)] (.ar 2 0 0 R.1))) →
        ∀ d j, j + d = v.1.toNat - (a + 1) → Run Tryz.prog c 159 zf9 (SMii v a (a + 1 + j) (msI v a (msO v a) j).1 (msI v a (msO v a) j).2) (Post c [(0, brOb R.1 R.2)] (.ar 2 0 0 R.1)) := by
      intro a ha hk d
      induction d with
      | zero =>
        intro j hj
        obtain rfl : j = v.1.toNat - (a + 1) := by omega
        have hd : decide (((a + 1 + (v.1.toNat - (a + 1)) : Nat) : Int) < v.1) = false := decide_eq_false (by omega)
        refine piece_ok mixed hc (mIx v a (a + 1 + (v.1.toNat - (a + 1))) _ _) ?_ hk
        simp only [All]
        repeat' (first | exact trivial | with_reducible apply And.intro)
        all_goals (first | exact aP _ _ | exact aA _ _ | omega | rfl | (intros; first | assumption | exact trivial | rfl | exact fT ‹_› | ((repeat' (first | assumption | apply anda | apply notf)); done)) | (exact hd) | (intro t ht; simp [All, aEt]) | (simp; omega))
      | succ d ih =>
        intro j hj
        have hd : decide (((a + 1 + j : Nat) : Int) < v.1) = true := decide_eq_true (by omega)
        have hrec := ih (j + 1) (by omega)
        have hn := msI_n v a (msO v a) j
        have hn2 := msO_n v (by omega) a
        have cc := con_CountBar_i v hs a ((a + 1 + j : Nat) : Int)
        by_cases hh : cbN v.2.1.2 a ((a + 1 + j : Nat) : Int) v.2.1.1 = 0
        · have hq : ((cbN v.2.1.2 a ((a + 1 + j : Nat) : Int) v.2.1.1 : Int) == 0) = true := by rw [hh]; rfl
          rw [show msI v a (msO v a) (j + 1) = sn (msI v a (msO v a) j) (a, ((a + 1 + j : Nat) : Int), ()) by simp only [msI, hh, if_true]] at hrec
          generalize msI v a (msO v a) j = q at hn hrec ⊢
          refine piece_ok mixed hc (mIt v a (a + 1 + j) q.1 (cbN v.2.1.2 a ((a + 1 + j : Nat) : Int) v.2.1.1) q.2) ?_ hrec
          simp only [All]
          repeat' (first | exact trivial | with_reducible apply And.intro)
          all_goals (first | exact aP _ _ | omega | rfl | (intros; first | assumption | exact trivial | rfl | exact fT ‹_› | ((repeat' (first | assumption | apply anda | apply notf)); done)) | (exact hd) | (exact cc) | (exact hq) | (intro t ht; by_cases h' : t < q.1 <;> simp [h', snoc, cvtL, cvt, tg, tru, All]) | (simp; omega))
        · have hq : ((cbN v.2.1.2 a ((a + 1 + j : Nat) : Int) v.2.1.1 : Int) == 0) = false := beq_eq_false_iff_ne.2 (fun h => hh (Int.ofNat_eq_zero.1 h))
          rw [show msI v a (msO v a) (j + 1) = msI v a (msO v a) j by simp only [msI, hh, if_false]] at hrec
          generalize msI v a (msO v a) j = q at hn hrec ⊢
          refine piece_ok mixed hc (mIf v a (a + 1 + j) q.1 (cbN v.2.1.2 a ((a + 1 + j : Nat) : Int) v.2.1.1) q.2) ?_ hrec
          simp only [All]
          repeat' (first | exact trivial | with_reducible apply And.intro)
          all_goals (first | exact aP _ _ | exact aA _ _ | omega | rfl | (intros; first | assumption | exact trivial | rfl | exact fT ‹_› | ((repeat' (first | assumption | apply anda | apply notf)); done)) | (exact hd) | (exact cc) | (exact hq) | (intro t ht; simp [All, aEt]) | (simp; omega))
    have lo : ∀ d a, a + d = v.1.toNat → Run Tryz.prog c 159 zf30 (SMio v a (msO v a).1 (msO v a).2) (Post c [(0, brOb R.1 R.2)] (.ar 2 0 0 R.1)) := by
      intro d
      induction d with
      | zero =>
        intro a ha
        obtain rfl : a = v.1.toNat := by omega
        have hd : decide (((v.1.toNat : Nat) : Int) < v.1) = false := decide_eq_false (by omega)
        rw [hR]
        refine path_ok mixed Tryz.func159 hc (mIe v v.1.toNat R.1 R.2) ?_
        simp only [All]
        repeat' (first | exact trivial | with_reducible apply And.intro)
        all_goals (first | exact aA _ _ | exact aE _ | omega | rfl | (intros; first | assumption | exact trivial | rfl | exact fT ‹_› | ((repeat' (first | assumption | apply anda | apply notf)); done)) | (exact hd) | (intros; exact c1) | (intro t ht; simp [All, aEt]))
      | succ d ih =>
        intro a ha
        have hd : decide ((a : Int) < v.1) = true := decide_eq_true (by omega)
        refine piece_ok mixed hc (mIo v a _ _) ?_ (li a (by omega) (ih (a + 1) (by omega)) (v.1.toNat - (a + 1)) 0 (by omega))
        simp only [All]
        repeat' (first | exact trivial | with_reducible apply And.intro)
        all_goals (first | exact aP _ _ | exact aA _ _ | omega | rfl | (intros; first | assumption | exact trivial | rfl | exact fT ‹_› | ((repeat' (first | assumption | apply anda | apply notf)); done)) | (exact hd) | (intros; exact c1) | (intro t ht; simp [All, aEt]))
    refine piece_ok mixed hc (mIz v) ?_ (lo v.1.toNat 0 (by omega))
    simp only [All]
    repeat' (first | exact trivial | with_reducible apply And.intro)
    all_goals (first | exact aP _ _ | exact aA _ _ | omega | rfl | (intros; first | assumption | exact trivial | rfl | exact fT ‹_› | ((repeat' (first | assumption | apply anda | apply notf)); done)) | (intros; exact c1) | (intro t ht; exact absurd ht (Nat.not_lt_zero _)) | (intro t ht; simp [All, aEt]))
end Go.Proofs.YtffnfeefjdmifaaGreat.Mach
namespace Go.Proofs.YtffnfeefjdmifaaGreat.Mach
open Go
set_option linter.unusedVariables false
set_option linter.unusedSimpArgs false
theorem con_l4Other (x : T_Bar) (v : Int) (h1 : 0 ≤ x.1 ∧ x.1 ≤ 1048576) (h2 : 0 ≤ x.2.1 ∧ x.2.1 ≤ 1048576) (h3 : 0 ≤ v ∧ v ≤ 1048576) : Con Tryz.prog 203 0 [] [brA x, .p (.int .i64 v)] [] (.p (.int .i64 (x.1 + x.2.1 - v))) := by
  refine con_start Tryz.func203 rfl (by kernel_rfl) rfl (fun c hc => ?_)
  refine path_ok mixed Tryz.func203 hc (qOt x v) ?_
  simp only [All]
  repeat' (first | exact trivial | with_reducible apply And.intro)
  all_goals (first | omega | rfl | (intros; first | assumption | exact trivial | rfl | exact fT ‹_› | ((repeat' (first | assumption | apply anda | apply notf)); done)) | simp)
theorem con_l4Copy (N m : Nat) (F T Q : Nat → Int) (hN : N ≤ 1048576) (hm : m ≤ 1048576) : Con Tryz.prog 192 0 [] [pebD N m F T Q] (pebR N m F T Q) (pebO N m 0) := by
  refine con_start Tryz.func192 rfl (by kernel_rfl) rfl (fun c hc => ?_)
  refine path_ok mixed Tryz.func192 hc (qCp N m F T Q) ?_
  simp only [All]
  repeat' (first | exact trivial | with_reducible apply And.intro)
  all_goals (first | exact aA _ _ | exact aE _ | omega | rfl | (intros; first | assumption | exact trivial | rfl | exact fT ‹_› | ((repeat' (first | assumption | apply anda | apply notf)); done)) | (intro i hi; simp [All, aEt]))
theorem oth_sum {x : T_Bar} {y z : Int} (h : y = x.1 ∨ y = x.2.1) (hz : othF x y = z) : x.1 + x.2.1 - z = y ∧ x.1 + x.2.1 - y = z := by
  unfold othF at hz
  by_cases e : x.1 = y
  · rw [if_pos e] at hz; omega
  · rw [if_neg e] at hz
    rcases h with h | h
    · exact absurd h.symm e
    · omega
theorem run_shift {N nb m : Nat} {g : Nat → T_Bar} {F F0 F1 T Q td FR : Nat → Int} {a b u : Int} {tn : Nat} (h : BInv N m g F T Q td (fun s => FR (td s).toNat) a b tn) (hN : N ≤ 1048576) (hm : m ≤ 1048576) (hnb : nb ≤ 1048576)
    (hq : ∀ j, j < m → 0 ≤ Q j ∧ Q j < nb) (hbar : ∀ e, e < nb → 0 ≤ (g e).1 ∧ (g e).1 < (g e).2.1 ∧ (g e).2.1 < N) (hT : ∀ j, j < m → T j = (g (Q j).toNat).1 ∨ T j = (g (Q j).toNat).2.1) :
    ∀ s, s < tn → ∀ T' : Nat → Int, TInv m g T Q td (fun s => FR (td s).toNat) T' u s → ∃ T'' s', (∀ c, c.n = 0 → Run Tryz.prog c 237 zf22 (SSl g nb N m F0 T Q FR F1 T' a u (td s)) (Post c (pebR N m F1 T'' Q) (pebO N m 0))) ∧
      TInv m g T Q td (fun s => FR (td s).toNat) T'' u s' ∧ td s' = a := by
  intro s
  induction s using Nat.strongRecOn with
  | ind s ih =>
    intro hs T' ht
    by_cases he : td s = a
    · refine ⟨T', s, fun c hc => ?_, ht, he⟩
      have hb : (td s != a) = false := by simp [he]
      refine path_ok mixed Tryz.func237 hc (qSe g nb N m F0 T Q FR F1 T' a u (td s)) ?_
      simp only [All]
      repeat' (first | exact trivial | with_reducible apply And.intro)
      all_goals (first | exact aA _ _ | exact aE _ | omega | rfl | (intros; first | assumption | exact trivial | rfl | exact fT ‹_› | ((repeat' (first | assumption | apply anda | apply notf)); done)) | (exact hb) | (intro i hi; simp [All, aEt]))
    · have hs1 : 1 ≤ s := by
        cases s with
        | zero => exact absurd h.td0 he
        | succ s => omega
      obtain ⟨j, hj, hVs, s', hs', hk, ht', hTj, hoth⟩ := ht.step h hs hs1
      have hVs : FR (td s).toNat = (j : Int) := hVs
      obtain ⟨T'', s'', hrun, h1, h2⟩ := ih s' hs' (by omega) _ ht'
      refine ⟨T'', s'', fun c hc => ?_, h1, h2⟩
      have hb : (td s != a) = true := by simp [he]
      have hqj := hq j hj
      have hbj := hbar (Q j).toNat (by omega)
      have hrs := h.rng s hs
      have hsum := (oth_sum (by rw [← hTj]; exact hT j hj) hoth).1
      have hcon := con_l4Other (g (Q j).toNat) (td s) (by omega) (by omega) (by omega)
      rw [hsum] at hcon
      refine piece_ok mixed hc (qSl g nb N m F0 T Q FR F1 T' a u (td s) (td s')) ?_ (by rw [hVs]; simp only [Int.toNat_natCast]; exact hrun c hc)
      simp only [All]
      repeat' (first | exact trivial | with_reducible apply And.intro)
      all_goals (first | exact aP _ _ | exact aA _ _ | omega | rfl | (intros; first | assumption | exact trivial | rfl | exact fT ‹_› | ((repeat' (first | assumption | apply anda | apply notf)); done)) | (exact hb) | (rw [hVs]; simp only [Int.toNat_natCast]; omega) | (rw [hVs]; simp only [Int.toNat_natCast]; exact hcon) | (intro i hi; simp [All, aEt]; done) | (simp only [hVs, Int.toNat_natCast]; intro i hi; by_cases h : i = j <;> simp [h, cvtL, cvt, tg, tru, All]))
theorem BInv.congrV {N m : Nat} {g : Nat → T_Bar} {F T Q td V V' : Nat → Int} {a b : Int} {tn : Nat} (h : BInv N m g F T Q td V a b tn) (hv : ∀ s, s < tn → V s = V' s) : BInv N m g F T Q td V' a b tn :=
  ⟨h.n1, h.td0, h.rng, h.inj, fun s h1 h2 => by rw [← hv s h2]; exact h.par s h1 h2⟩
theorem con_l4Shift {N k nb m : Nat} {g : Nat → T_Bar} {F T Q td FR : Nat → Int} {a b u : Int} {tn : Nat} (hp : PInv N k nb m g F T Q) (hk : k ≤ 1048576) (hN : N ≤ 1048576) (hm : m ≤ 1048576) (hnb : nb ≤ 1048576)
    (h : BInv N m g F T Q td (fun s => FR (td s).toNat) a b (tn + 1)) (htn : td tn = u) (ha : 0 ≤ a ∧ a < N) (hu : 0 ≤ u ∧ u < N) (hua : u ≠ a) :
    ∃ T'' s', Con Tryz.prog 237 0 [] [grG g nb N, pebD N m F T Q, inD N FR, .p (.int .i64 a), .p (.int .i64 u)] (pebR N m (fun x => if x = a.toNat then (if x = u.toNat then F x - 1 else F x) + 1 else (if x = u.toNat then F x - 1 else F x)) T'' Q) (pebO N m 0) ∧
      TInv m g T Q td (fun s => FR (td s).toNat) T'' u s' ∧ td s' = a := by
  have ht0 : TInv m g T Q td (fun s => FR (td s).toNat) T u tn := ⟨fun _ _ _ => rfl, hp.t, fun x => by rw [htn]; omega⟩
  obtain ⟨T'', s', hrun, h1, h2⟩ := run_shift (nb := nb) (F0 := F) (F1 := fun x => if x = a.toNat then (if x = u.toNat then F x - 1 else F x) + 1 else (if x = u.toNat then F x - 1 else F x)) h hN hm hnb hp.q hp.bars hp.t tn (by omega) T ht0
  refine ⟨T'', s', ?_, h1, h2⟩
  rw [htn] at hrun
  have hFa := hp.le (v := a.toNat) (by omega)
  have hFu := hp.le (v := u.toNat) (by omega)
  have hcc := con_l4Copy N m F T Q hN hm
  refine con_start Tryz.func237 rfl (by kernel_rfl) rfl (fun c hc => ?_)
  have hrun' := hrun c hc
  refine piece_ok mixed hc (qSz g nb N m F T Q FR a u) ?_ ?_
  ·
    simp only [All]
    repeat' (first | exact trivial | with_reducible apply And.intro)
    all_goals (first | exact aP _ _ | exact aA _ _ | omega | rfl | (intros; first | assumption | exact trivial | rfl | exact fT ‹_› | ((repeat' (first | assumption | apply anda | apply notf)); done)) | (exact hcc) | (intro i hi; simp [All, aEt]; done) | (intro i hi; by_cases h : i = u.toNat <;> simp [h, cvtL, cvt, tg, tru, All]))
  · have hF1 : (fun s => if s = u.toNat then F s - 1 else F s) a.toNat = F a.toNat := by
      show (if a.toNat = u.toNat then F a.toNat - 1 else F a.toNat) = _
      rw [if_neg (by omega)]
    obtain ⟨F1, hF1d⟩ : ∃ F1 : Nat → Int, F1 = (fun s => if s = u.toNat then F s - 1 else F s) := ⟨_, rfl⟩
    have hFF : (fun x => if x = a.toNat then (if x = u.toNat then F x - 1 else F x) + 1 else (if x = u.toNat then F x - 1 else F x)) = (fun s => if s = a.toNat then F1 s + 1 else F1 s) := by
      subst hF1d; rfl
    rw [hFF] at hrun' ⊢
    rw [← hF1d] at hF1 ⊢
    refine piece_ok mixed hc (qSa g nb N m F T Q FR F1 T a u) ?_ hrun'
    simp only [All]
    repeat' (first | exact trivial | with_reducible apply And.intro)
    all_goals (first | exact aP _ _ | exact aA _ _ | omega | rfl | (intros; first | assumption | exact trivial | rfl | exact fT ‹_› | ((repeat' (first | assumption | apply anda | apply notf)); done)) | (rw [hF1]; omega) | (intro i hi; simp [All, aEt]; done) | (intro i hi; by_cases h : i = a.toNat <;> simp [h, cvtL, cvt, tg, tru, All]))
inductive FindR (N k nb m : Nat) (g : Nat → T_Bar) (F T Q : Nat → Int) (a b : Int) : Hp → AV → Prop
  | yes (F' T' : Nat → Int) (h : Moved N k nb m g F T Q a b F' T' true) : FindR N k nb m g F T Q a b (pebR3 N m F T Q F' T' Q) (.tup [pebO N m 3, .p (.bool true)])
  | no (h : Moved N k nb m g F T Q a b F T false) : FindR N k nb m g F T Q a b (pebR N m F T Q) (.tup [pebO N m 0, .p (.bool false)])
def OutS (N k nb m : Nat) (g : Nat → T_Bar) (F T Q : Nat → Int) (a b : Int) (i tn : Nat) (td FR : Nat → Int) (SN : Nat → Bool) : Prop :=
  ∃ H' res, (∀ c, c.n = 3 → Run Tryz.prog c 220 [.code (cAt (bodyOf Tryz.f220) [1, 1, 1, 1, 1, 1, 0, 1, 0, 0]), .inLoop (cAt (bodyOf Tryz.f220) [1, 1, 1, 1, 1, 1, 0, 1, 0, 0]), .inBlock 2, .code (cAt (bodyOf Tryz.f220) [1, 1, 1, 1, 1, 1, 1])] (SF1 g nb N m F T Q td FR SN a b i tn) (Post c H' res)) ∧ FindR N k nb m g F T Q a b H' res
def MidS (N k nb m : Nat) (g : Nat → T_Bar) (F T Q : Nat → Int) (a b : Int) (i j tn : Nat) (td FR : Nat → Int) (SN : Nat → Bool) : Prop :=
  ∃ H' res, (∀ c, c.n = 3 → Run Tryz.prog c 220 [.code (cAt (bodyOf Tryz.f220) [1, 1, 1, 1, 1, 1, 0, 1, 0, 0, 1, 0, 0, 1, 1, 0, 0]), .inLoop (cAt (bodyOf Tryz.f220) [1, 1, 1, 1, 1, 1, 0, 1, 0, 0, 1, 0, 0, 1, 1, 0, 0]), .inBlock 4, .inBlock 3, .code (cAt (bodyOf Tryz.f220) [1, 1, 1, 1, 1, 1, 0, 1, 0, 0, 1, 1]), .inLoop (cAt (bodyOf Tryz.f220) [1, 1, 1, 1, 1, 1, 0, 1, 0, 0]), .inBlock 2, .code (cAt (bodyOf Tryz.f220) [1, 1, 1, 1, 1, 1, 1])] (SF2 g nb N m F T Q td FR SN a b (td i) i j tn) (Post c H' res)) ∧ FindR N k nb m g F T Q a b H' res
def SeenI (N : Nat) (td : Nat → Int) (SN : Nat → Bool) (tn : Nat) : Prop := ∀ x : Nat, x < N → (SN x = true ↔ ∃ s, s < tn ∧ td s = x)
theorem mid_s {N k nb m : Nat} {g : Nat → T_Bar} {F T Q : Nat → Int} {a b : Int} (hp : PInv N k nb m g F T Q) (hk : k ≤ 1048576) (hN : N ≤ 1048576) (hm : m ≤ 1048576) (hnb : nb ≤ 1048576)
    (ha : 0 ≤ a ∧ a < N) (hb : 0 ≤ b ∧ b < N) (hab : a ≠ b) (i : Nat)
    (ih : ∀ tn td FR SN, i + 1 ≤ tn → BInv N m g F T Q td (fun s => FR (td s).toNat) a b tn → SeenI N td SN tn → BZero F td b tn → BClo m g T Q td (i + 1) 0 tn → OutS N k nb m g F T Q a b (i + 1) tn td FR SN) :
    ∀ e j tn td FR SN, j + e = m → i < tn → BInv N m g F T Q td (fun s => FR (td s).toNat) a b tn → SeenI N td SN tn → BZero F td b tn → BClo m g T Q td i j tn → MidS N k nb m g F T Q a b i j tn td FR SN := by
  intro e
  induction e with
  | zero =>
    intro j tn td FR SN hj hi hbi hsn hz hcl
    have htn := pigeon N tn td hbi.rng hbi.inj
    obtain ⟨H', res, hrun, hmv⟩ := ih tn td FR SN (by omega) hbi hsn hz (fun i' j' hij hi' hT => by
      rcases hij with ⟨h1, h2⟩ | ⟨h1, h2⟩
      · by_cases e : i' = i
        · exact hcl i' j' (.inr ⟨e, by omega⟩) hi' hT
        · exact hcl i' j' (.inl ⟨by omega, h2⟩) hi' hT
      · omega)
    refine ⟨H', res, fun c hc => ?_, hmv⟩
    have hd : decide ((j : Int) < (m : Int)) = false := by simp; omega
    refine piece_ok mixed hc (qF2e g nb N m F T Q td FR SN a b (td i) i j tn) ?_ (hrun c hc)
    simp only [All]
    repeat' (first | exact trivial | with_reducible apply And.intro)
    all_goals (first | exact aP _ _ | exact aA _ _ | omega | rfl | (intros; first | assumption | exact trivial | rfl | exact fT ‹_› | ((repeat' (first | assumption | apply anda | apply notf)); done)) | (intro i hi; simp [All, aEt]))
  | succ e ihe =>
    intro j tn td FR SN hj hi hbi hsn hz hcl
    have htn := pigeon N tn td hbi.rng hbi.inj
    have hjm : j < m := by omega
    have hd : decide ((j : Int) < (m : Int)) = true := by simp; omega
    have hq := hp.q j hjm
    have hbar := hp.bars (Q j).toNat (by omega)
    have hrg := hbi.rng i hi
    by_cases hT : T j = td i
    · have ht1 : (T j != td i) = false := by simp [hT]
      obtain ⟨v, hv⟩ : ∃ v, othF (g (Q j).toNat) (td i) = v := ⟨_, rfl⟩
      have hvr : 0 ≤ v ∧ v < N := by rw [← hv]; exact othF_in hbar
      have hsum := (oth_sum (by rw [← hT]; exact hp.t j hjm) hv).2
      have hcon := con_l4Other (g (Q j).toNat) (td i) (by omega) (by omega) (by omega)
      rw [hsum] at hcon
      cases hh : SN v.toNat with
      | true =>
        obtain ⟨s, hs1, hs2⟩ := (hsn v.toNat (by omega)).1 hh
        obtain ⟨H', res, hrun, hmv⟩ := ihe (j + 1) tn td FR SN (by omega) hi hbi hsn hz (fun i' j' hij hi' hTT => by
          by_cases e : i' = i ∧ j' = j
          · obtain ⟨rfl, rfl⟩ := e
            exact ⟨s, hs1, by rw [hs2, hv]; omega⟩
          · exact hcl i' j' (by omega) hi' hTT)
        refine ⟨H', res, fun c hc => ?_, hmv⟩
        refine piece_ok mixed hc (qF2b g nb N m F T Q td FR SN a b (td i) v i j tn) ?_ (hrun c hc)
        simp only [All]
        repeat' (first | exact trivial | with_reducible apply And.intro)
        all_goals (first | exact aP _ _ | exact aA _ _ | omega | rfl | (intros; first | assumption | exact trivial | rfl | exact fT ‹_› | ((repeat' (first | assumption | apply anda | apply notf)); done)) | (exact ht1) | (exact hcon) | (exact hh) | (intro i hi; simp [All, aEt]))
      | false =>
        have hno : ∀ s, s < tn → td s ≠ v := by
          intro s hs e
          have := (hsn v.toNat (by omega)).2 ⟨s, hs, by omega⟩
          rw [hh] at this; cases this
        have hadd0 := hbi.add hi hjm hT hv hvr hno
        have hadd : BInv N m g F T Q (fun s => if s < tn then td s else v) (fun s => (fun x => if x = v.toNat then (j : Int) else FR x) ((fun s => if s < tn then td s else v) s).toNat) a b (tn + 1) := by
          refine hadd0.congrV (fun s hs => ?_)
          show (if s < tn then FR (td s).toNat else (j : Int)) = (if (if s < tn then td s else v).toNat = v.toNat then (j : Int) else FR (if s < tn then td s else v).toNat)
          by_cases e : s < tn
          · have h1 := hno s e
            have h2 := hbi.rng s e
            rw [if_pos e, if_pos e, if_neg (show ¬ (td s).toNat = v.toNat by omega)]
          · rw [if_neg e, if_neg e, if_pos rfl]
        have hF := hp.le (v := v.toNat) (by omega)
        cases hcd : (bif v != b then decide (F v.toNat > 0) else false) with
        | false =>
          have hzv : v = b ∨ F v.toNat = 0 := by
            by_cases e : v = b
            · exact .inl e
            · right
              have : (v != b) = true := by simp [e]
              rw [this] at hcd
              simp at hcd
              omega
          obtain ⟨H', res, hrun, hmv⟩ := ihe (j + 1) (tn + 1) (fun s => if s < tn then td s else v) (fun x => if x = v.toNat then (j : Int) else FR x) (fun s => if s = v.toNat then true else SN s) (by omega) (by omega) hadd (fun x hx => by
            show (if x = v.toNat then true else SN x) = true ↔ ∃ s, s < tn + 1 ∧ (if s < tn then td s else v) = x
            by_cases e : x = v.toNat
            · rw [if_pos e]
              exact ⟨fun _ => ⟨tn, by omega, by rw [if_neg (Nat.lt_irrefl tn)]; omega⟩, fun _ => rfl⟩
            · rw [if_neg e, hsn x hx]
              constructor
              · rintro ⟨s, h1, h2⟩; exact ⟨s, by omega, by rw [if_pos h1]; exact h2⟩
              · rintro ⟨s, h1, h2⟩
                by_cases e2 : s < tn
                · rw [if_pos e2] at h2; exact ⟨s, e2, h2⟩
                · rw [if_neg e2] at h2; omega) (fun s h1 h2 => by
            show (if s < tn then td s else v) = b ∨ F (if s < tn then td s else v).toNat = 0
            by_cases e : s < tn
            · rw [if_pos e]; exact hz s h1 e
            · rw [if_neg e]; exact hzv) (fun i' j' hij hi' hTT => by
            have hi2 : i' < tn := by omega
            have hTT' : T j' = td i' := by rw [hTT]; show (if i' < tn then td i' else v) = _; rw [if_pos hi2]
            show ∃ s, s < tn + 1 ∧ (if s < tn then td s else v) = othF (g (Q j').toNat) (if i' < tn then td i' else v)
            rw [if_pos hi2]
            by_cases e : i' = i ∧ j' = j
            · obtain ⟨rfl, rfl⟩ := e
              exact ⟨tn, by omega, by rw [if_neg (Nat.lt_irrefl tn), hv]⟩
            · obtain ⟨s, h1, h2⟩ := hcl i' j' (by omega) hi2 hTT'
              exact ⟨s, by omega, by rw [if_pos h1]; exact h2⟩)
          refine ⟨H', res, fun c hc => ?_, hmv⟩
          have hrun' := hrun c hc
          simp only [hi, if_true] at hrun'
          refine piece_ok mixed hc (qF2c g nb N m F T Q td FR SN a b (td i) v i j tn) ?_ hrun'
          simp only [All]
          repeat' (first | exact trivial | with_reducible apply And.intro)
          all_goals (first | exact aG _ | exact aP _ _ | exact aA _ _ | omega | rfl | (intros; first | assumption | exact trivial | rfl | exact fT ‹_› | ((repeat' (first | assumption | apply anda | apply notf)); done)) | (exact ht1) | (exact hcon) | (exact hh) | (exact hcd) | (intros; omega) | (intro i hi; simp [All, aEt]; done) | (intro i hi; by_cases h : i < tn <;> simp [h, cvtL, cvt, tg, tru, All]; done) | (intro i hi; by_cases h : i = v.toNat <;> simp [h, cvtL, cvt, tg, tru, All]))
        | true =>
          have hvb : v ≠ b := by
            intro e
            rw [show (v != b) = false by simp [e]] at hcd
            cases hcd
          have hFv : F v.toNat ≠ 0 := by
            intro e
            rw [show (v != b) = true by simp [hvb]] at hcd
            simp [e] at hcd
          have hva : v ≠ a := by
            have := hno 0 (by have := hbi.n1; omega)
            rw [hbi.td0] at this
            exact Ne.symm this
          obtain ⟨T'', s', hcs, h1, h2⟩ := con_l4Shift (td := fun s => if s < tn then td s else v) (FR := fun x => if x = v.toNat then (j : Int) else FR x) (tn := tn) hp hk hN hm hnb hadd (by show (if tn < tn then td tn else v) = v; rw [if_neg (Nat.lt_irrefl tn)]) ha hvr hva
          refine ⟨_, _, fun c hc => ?_, .yes _ T'' (moved_yes hp ha hb hab hvr hva hvb hFv h1 h2)⟩
          refine piece_ok mixed hc (qF2d g nb N m F T Q td FR SN a b (td i) v i j tn) ?_ ?_
          ·
            simp only [All]
            repeat' (first | exact trivial | with_reducible apply And.intro)
            all_goals (first | exact aG _ | exact aP _ _ | exact aA _ _ | omega | rfl | (intros; first | assumption | exact trivial | rfl | exact fT ‹_› | ((repeat' (first | assumption | apply anda | apply notf)); done)) | (exact ht1) | (exact hcon) | (exact hh) | (exact hcd) | (intros; omega) | (intro i hi; simp [All, aEt]; done) | (intro i hi; by_cases h : i = v.toNat <;> simp [h, cvtL, cvt, tg, tru, All]))
          · refine path_ok mixed Tryz.func220 hc (qF3 g nb N m F T Q (fun s => if s = v.toNat then (j : Int) else FR s) _ T'' a b v) ?_
            simp only [All]
            repeat' (first | exact trivial | with_reducible apply And.intro)
            all_goals (first | exact aA _ _ | exact aE _ | omega | rfl | (intros; first | assumption | exact trivial | rfl | exact fT ‹_› | ((repeat' (first | assumption | apply anda | apply notf)); done)) | (exact hcs) | (intro i hi; simp [All, aEt]))
    · have ht1 : (T j != td i) = true := by simp [hT]
      obtain ⟨H', res, hrun, hmv⟩ := ihe (j + 1) tn td FR SN (by omega) hi hbi hsn hz (fun i' j' hij hi' hTT => by
        by_cases e : i' = i ∧ j' = j
        · obtain ⟨rfl, rfl⟩ := e
          exact absurd hTT hT
        · exact hcl i' j' (by omega) hi' hTT)
      refine ⟨H', res, fun c hc => ?_, hmv⟩
      refine piece_ok mixed hc (qF2a g nb N m F T Q td FR SN a b (td i) i j tn) ?_ (hrun c hc)
      simp only [All]
      repeat' (first | exact trivial | with_reducible apply And.intro)
      all_goals (first | exact aP _ _ | exact aA _ _ | omega | rfl | (intros; first | assumption | exact trivial | rfl | exact fT ‹_› | ((repeat' (first | assumption | apply anda | apply notf)); done)) | (exact ht1) | (intro i hi; simp [All, aEt]))
theorem out_s {N k nb m : Nat} {g : Nat → T_Bar} {F T Q : Nat → Int} {a b : Int} (hp : PInv N k nb m g F T Q) (hk : k ≤ 1048576) (hN : N ≤ 1048576) (hm : m ≤ 1048576) (hnb : nb ≤ 1048576)
    (ha : 0 ≤ a ∧ a < N) (hb : 0 ≤ b ∧ b < N) (hab : a ≠ b) : ∀ d i tn td FR SN, N + 1 ≤ i + d → i ≤ tn → BInv N m g F T Q td (fun s => FR (td s).toNat) a b tn → SeenI N td SN tn → BZero F td b tn → BClo m g T Q td i 0 tn → OutS N k nb m g F T Q a b i tn td FR SN := by
  intro d
  induction d with
  | zero =>
    intro i tn td FR SN hd hi hbi _ _ _
    have := pigeon N tn td hbi.rng hbi.inj
    omega
  | succ d ih =>
    intro i tn td FR SN hd hi hbi hsn hz hcl
    have htn := pigeon N tn td hbi.rng hbi.inj
    by_cases hit : i < tn
    · have hd' : decide ((i : Int) < (tn : Int)) = true := by simp; omega
      obtain ⟨H', res, hrun, hmv⟩ := mid_s hp hk hN hm hnb ha hb hab i (fun tn td FR SN h1 h2 h3 h4 h5 => ih (i + 1) tn td FR SN (by omega) h1 h2 h3 h4 h5) m 0 tn td FR SN (by omega) hit hbi hsn hz hcl
      refine ⟨H', res, fun c hc => ?_, hmv⟩
      refine piece_ok mixed hc (qF1 g nb N m F T Q td FR SN a b i tn) ?_ (hrun c hc)
      simp only [All]
      repeat' (first | exact trivial | with_reducible apply And.intro)
      all_goals (first | exact aP _ _ | exact aA _ _ | omega | rfl | (intros; first | assumption | exact trivial | rfl | exact fT ‹_› | ((repeat' (first | assumption | apply anda | apply notf)); done)) | (intro i hi; simp [All, aEt]))
    · have hd' : decide ((i : Int) < (tn : Int)) = false := by simp; omega
      obtain rfl : i = tn := by omega
      refine ⟨_, _, fun c hc => ?_, .no (moved_no hp hbi hz hcl)⟩
      refine path_ok mixed Tryz.func220 hc (qF1e g nb N m F T Q td FR SN a b i i) ?_
      simp only [All]
      repeat' (first | exact trivial | with_reducible apply And.intro)
      all_goals (first | exact aA _ _ | exact aE _ | omega | rfl | (intros; first | assumption | exact trivial | rfl | exact fT ‹_› | ((repeat' (first | assumption | apply anda | apply notf)); done)) | (intro i hi; simp [All, aEt]))
theorem con_l4Find {N k nb m : Nat} {g : Nat → T_Bar} {F T Q : Nat → Int} {a b : Int} (hp : PInv N k nb m g F T Q) (hk : k ≤ 1048576) (hN : N ≤ 1048576) (hm : m ≤ 1048576) (hnb : nb ≤ 1048576)
    (ha : 0 ≤ a ∧ a < N) (hb : 0 ≤ b ∧ b < N) (hab : a ≠ b) : ∃ H' res, Con Tryz.prog 220 3 (pebR N m F T Q) [grG g nb N, pebO N m 0, .p (.int .i64 a), .p (.int .i64 b)] H' res ∧ FindR N k nb m g F T Q a b H' res := by
  obtain ⟨H', res, hrun, hmv⟩ := out_s hp hk hN hm hnb ha hb hab (N + 1) 0 1 (fun _ => a) (fun _ => -1) (fun s => if s = a.toNat then true else false) (by omega) (by omega)
    ⟨by omega, rfl, fun s hs => ha, fun s s' h1 h2 => by omega, fun s h1 h2 => by omega⟩ (fun x hx => by
      show (if x = a.toNat then true else false) = true ↔ ∃ s, s < 1 ∧ a = x
      by_cases e : x = a.toNat
      · rw [if_pos e]; exact ⟨fun _ => ⟨0, by omega, by omega⟩, fun _ => rfl⟩
      · rw [if_neg e]; exact ⟨(fun h => by cases h), (fun ⟨s, h1, h2⟩ => by omega)⟩) (fun s h1 h2 => by omega) (fun i' j' h => by omega)
  refine ⟨H', res, ?_, hmv⟩
  refine con_start Tryz.func220 rfl (by kernel_rfl) rfl (fun c hc => ?_)
  have lp0 : ∀ d i, i + d = N → Run Tryz.prog c 220 zf49 (SF0 g nb N m F T Q a b i) (Post c H' res) := by
    intro d
    induction d with
    | zero =>
      intro i hi
      obtain rfl : i = N := by omega
      have hd : decide ((i : Int) < (i : Int)) = false := by simp
      refine piece_ok mixed hc (qF01 g nb i m F T Q a b i) ?_ (hrun c hc)
      simp only [All]
      repeat' (first | exact trivial | with_reducible apply And.intro)
      all_goals (first | exact aP _ _ | exact aA _ _ | omega | rfl | (intros; first | assumption | exact trivial | rfl | exact fT ‹_› | ((repeat' (first | assumption | apply anda | apply notf)); done)) | (intro j hj; simp [All, aEt]; done) | (intro j hj; simp [hj, All]; done) | (intro j hj; by_cases h : j = a.toNat <;> simp [h, cvtL, cvt, tg, tru, All]))
    | succ d ih =>
      intro i hi
      have hd : decide ((i : Int) < (N : Int)) = true := by simp; omega
      refine piece_ok mixed hc (qF0 g nb N m F T Q a b i) ?_ (ih (i + 1) (by omega))
      simp only [All]
      repeat' (first | exact trivial | with_reducible apply And.intro)
      all_goals (first | exact aP _ _ | exact aA _ _ | omega | rfl | (intros; first | assumption | exact trivial | rfl | exact fT ‹_› | ((repeat' (first | assumption | apply anda | apply notf)); done)) | (intro j hj; simp [All, aEt]; done) | (intro j hj; by_cases h : j = i <;> simp [h, Nat.lt_succ_iff_lt_or_eq, cvtL, cvt, tg, tru, All]))
  refine piece_ok mixed hc (qFz g nb N m F T Q a b) ?_ (lp0 N 0 (by omega))
  simp only [All]
  repeat' (first | exact trivial | with_reducible apply And.intro)
  all_goals (first | exact aP _ _ | exact aA _ _ | omega | rfl | (intros; first | assumption | exact trivial | rfl | exact fT ‹_› | ((repeat' (first | assumption | apply anda | apply notf)); done)) | (intro i hi; simp [All, aEt]))
end Go.Proofs.YtffnfeefjdmifaaGreat.Mach
namespace Go.Proofs.YtffnfeefjdmifaaGreat.Mach
open Go
set_option linter.unusedVariables false
set_option linter.unusedSimpArgs false
def SH (g : Nat → T_Bar) (nb N m : Nat) (F0 T0 F T Q : Nat → Int) (a b want : Int) : St :=
  ⟨[grG g nb N, pebD N m F0 T0 Q, .p (.int .i64 a), .p (.int .i64 b), .p (.int .i64 want), .pt 2 0 0 0, .pt 3 1 0 0, .p .any, .p .any, .p .any, .pt 3 2 0 0, .p .any, .pt 3 3 0 0] ++ List.replicate 40 anyA,
   [(0, bxG g nb N), (1, bxD N m F0 T0 Q), (2, bx0), (3, bxP N m 4), (4, iOb N F), (5, iOb m T), (6, iOb m Q)], 7⟩
def SNc (g : Nat → T_Bar) (nb N k : Nat) : St :=
  ⟨[.p .any, .p (.int .i64 k), .pt 2 0 0 0, .p .any, .pt 3 1 0 0, .p .any, .pt 3 2 0 0] ++ List.replicate 27 anyA,
   [(0, bxG g nb N), (1, bx0), (2, ⟨true, 3, 1, fun _ => [.ar 1 3 0 0, .ar 1 4 0 0, .ar 1 5 0 0]⟩), (3, iOb 0 (fun _ => k)), (4, iOb 0 (fun _ => 0)), (5, iOb 0 (fun _ => 0))], 6⟩
def SN0 (g : Nat → T_Bar) (nb N k i : Nat) : St :=
  ⟨[.p .any, .p (.int .i64 k), .pt 2 0 0 0, .p .any, .pt 3 1 0 0, .p .any, .pt 3 2 0 0, .p (.int .i64 i)] ++ List.replicate 26 anyA,
   [(0, bxG g nb N), (1, bx0), (2, ⟨true, 3, 1, fun _ => [.ar 1 3 0 i, .ar 1 4 0 0, .ar 1 5 0 0]⟩), (3, iOb i (fun _ => k)), (4, iOb 0 (fun _ => 0)), (5, iOb 0 (fun _ => 0))], 6⟩
def SR (g : Nat → T_Bar) (nb N m i : Nat) (F T Q : Nat → Int) : St :=
  ⟨[grG g nb N, .pt 2 0 0 0, .p .any, .pt 3 1 0 0, .p .any, .p (.int .i64 m), .p (.int .i64 i)] ++ List.replicate 77 anyA,
   [(0, bxG g nb N), (1, bxP N m 2), (2, iOb N F), (3, iOb m T), (4, iOb m Q)], 5⟩
theorem qHz (g : Nat → T_Bar) (nb N m : Nat) (F T Q : Nat → Int) (a b want : Int) :
    pieceOb Tryz.prog 0 [rg 4, rm [(1, oc (pebR N m F T Q) (pebO N m 0))] 2, .head] [.code (bodyOf Tryz.f193)] (start Tryz.f193 [] 0 [grG g nb N, pebD N m F T Q, .p (.int .i64 a), .p (.int .i64 b), .p (.int .i64 want)]) [0, 32, 64, 192, 160, 161, 162] 1 (SH g nb N m F T F T Q a b want) =
    some (zf67, [(NT 0 1),Con Tryz.prog 192 0 [] [(zf48 N F m T Q)] (zf25 N F m T Q) (.agg [.ar 1 0 0 N, .ar 1 1 0 m, .ar 1 2 0 m]),(NT 0 1),((true = true) →  (AN 1)),(AI ((↑N : Int))),(AN nb),(AP nb (fun i => [.int .i64 ((g i).1), .int .i64 ((g i).2.1)])),(AN N),(AP N (fun i => [.int .i64 (F i)])),(AN m),(AP m (fun i => [.int .i64 (T i)])),(AN m),(AP m (fun i => [.int .i64 (Q i)])),(AI a),(AI b),(AI want),(AN 0),(AN 0),(AN 0),(AN 0),((([AV.p (PV.int IntKind.i64 (↑N : Int)), brL g nb].length) : Nat) = 2),(NL 1 1),(NL 1 1),(AI ((↑N : Int))),(AN nb),(AP nb (fun i => [.int .i64 ((g i).1), .int .i64 ((g i).2.1)])),((([inD N F, inD m T, inD m Q].length) : Nat) = 3),(NL 1 1),(NL 1 1),(AN N),(AP N (fun i => [.int .i64 (F i)])),(AN m),(AP m (fun i => [.int .i64 (T i)])),(AN m),(AP m (fun i => [.int .i64 (Q i)])),((((List.map (fun v => AV.p (absV v)) [Value.slice none 0 0, Value.slice none 0 0, Value.slice none 0 0]).length) : Nat) = 3),(NL 1 1),(NL 1 1),((((List.map (fun v => AV.p (absV v)) [Value.slice none 0 0, Value.slice none 0 0, Value.slice none 0 0]).length) : Nat) = 3),(NL 1 1),(NL 1 1),(AN 0),(AN N),(AN 0),(AN m),(AN 0),(AN m),(AN 1),(NL N N),(AA N (fun i => [.p (.int .i64 (F i))])),(AN 1),(NL m m),(AA m (fun i => [.p (.int .i64 (T i))])),(AN 1),(NL m m),(AA m (fun i => [.p (.int .i64 (Q i))]))]) := by kernel_rfl
theorem qHa (g : Nat → T_Bar) (nb N m : Nat) (F0 T0 F T Q F1 T1 : Nat → Int) (a b want : Int) :
    pieceOb Tryz.prog 0 [rg 13, .dec true, rm [(4, oq [4, 5, 6] (pebR3 N m F T Q F1 T1 Q) (.tup [pebO N m 3, .p (.bool true)]))] 6, rg 2, .dec false, rg 2, .dec false, rg 2, .head] zf67 (SH g nb N m F0 T0 F T Q a b want) [0, 1, 2, 3, 551, 552, 553] 1 (SH g nb N m F0 T0 F1 T1 Q a b want) =
    some (zf67, [(NT 0 1),(IL 0 a),(IT a (↑N : Int)),(NT a.toNat N),(NT 0 1),(IL 0 b),(IT b (↑N : Int)),(NT b.toNat N),(R0 (F a.toNat + F b.toNat)),(R1 (F a.toNat + F b.toNat)),((decide (F (a.toNat + 0) + F (b.toNat + 0) < want)) = true),(NT 0 1),(NT 0 1),(AE N),(AE m),(AE m),Con Tryz.prog 220 3 (zf25 N F m T Q) [(zf78 N nb g), .agg [.ar 1 0 0 N, .ar 1 1 0 m, .ar 1 2 0 m], .p (.int .i64 a), .p (.int .i64 b)] (zf11 N F m T Q F1 T1) (.tup [.agg [.ar 1 3 0 N, .ar 1 4 0 m, .ar 1 5 0 m], .p (.bool true)]),(NT 0 1),((true = true) →  (AN 1)),((!true) = false),((!true) = false),(NT 0 1),(NT 0 1),((true = true) →  (AN 1)),(AI ((↑N : Int))),(AN nb),(AP nb (fun i => [.int .i64 ((g i).1), .int .i64 ((g i).2.1)])),(AN N),(AP N (fun i => [.int .i64 (F0 i)])),(AN m),(AP m (fun i => [.int .i64 (T0 i)])),(AN m),(AP m (fun i => [.int .i64 (Q i)])),(AI a),(AI b),(AI want),(AN 0),(AN 0),(AN 0),(AN 0),(AN 2),(NL 1 1),(NL 1 1),(AI ((↑N : Int))),(AN nb),(AP nb (fun i => [.int .i64 ((g i).1), .int .i64 ((g i).2.1)])),(AN 3),(NL 1 1),(NL 1 1),(AN N),(AP N (fun i => [.int .i64 (F0 i)])),(AN m),(AP m (fun i => [.int .i64 (T0 i)])),(AN m),(AP m (fun i => [.int .i64 (Q i)])),(AN 3),(NL 1 1),(NL 1 1),(AN 3),(NL 1 1),(NL 1 1),(AN 0),(AN N),(AN 0),(AN m),(AN 0),(AN m),(AN 1),(NL N N),(AA N (fun i => [.p (.int .i64 (F1 i))])),(AN 1),(NL m m),(AA m (fun i => [.p (.int .i64 (T1 i))])),(AN 1),(NL m m),(AA m (fun i => [.p (.int .i64 (Q i))]))]) := by kernel_rfl
theorem qHb (g : Nat → T_Bar) (nb N m : Nat) (F0 T0 F T Q F1 T1 : Nat → Int) (a b want : Int) :
    pieceOb Tryz.prog 0 [rg 13, .dec true, rm [(4, oq [4, 5, 6] (pebR N m F T Q) (.tup [pebO N m 0, .p (.bool false)]))] 6, rg 2, .dec true, rm [(4, oq [4, 5, 6] (pebR3 N m F T Q F1 T1 Q) (.tup [pebO N m 3, .p (.bool true)]))] 5, rg 2, .dec false, rg 2, .head] zf67 (SH g nb N m F0 T0 F T Q a b want) [0, 1, 2, 3, 967, 968, 969] 1 (SH g nb N m F0 T0 F1 T1 Q a b want) =
    some (zf67, [(NT 0 1),(IL 0 a),(IT a (↑N : Int)),(NT a.toNat N),(NT 0 1),(IL 0 b),(IT b (↑N : Int)),(NT b.toNat N),(R0 (F a.toNat + F b.toNat)),(R1 (F a.toNat + F b.toNat)),((decide (F (a.toNat + 0) + F (b.toNat + 0) < want)) = true),(NT 0 1),(NT 0 1),(AE N),(AE m),(AE m),Con Tryz.prog 220 3 (zf25 N F m T Q) [(zf78 N nb g), .agg [.ar 1 0 0 N, .ar 1 1 0 m, .ar 1 2 0 m], .p (.int .i64 a), .p (.int .i64 b)] (zf25 N F m T Q) ((zf87 N m)),(NT 0 1),((true = true) →  (AN 1)),((!false) = true),(NT 0 1),(NT 0 1),(AE N),(AE m),(AE m),Con Tryz.prog 220 3 (zf25 N F m T Q) [(zf78 N nb g), .agg [.ar 1 0 0 N, .ar 1 1 0 m, .ar 1 2 0 m], .p (.int .i64 b), .p (.int .i64 a)] (zf11 N F m T Q F1 T1) (.tup [.agg [.ar 1 3 0 N, .ar 1 4 0 m, .ar 1 5 0 m], .p (.bool true)]),(NT 0 1),((true = true) →  (AN 1)),((!true) = false),(NT 0 1),(NT 0 1),((true = true) →  (AN 1)),(AI ((↑N : Int))),(AN nb),(AP nb (fun i => [.int .i64 ((g i).1), .int .i64 ((g i).2.1)])),(AN N),(AP N (fun i => [.int .i64 (F0 i)])),(AN m),(AP m (fun i => [.int .i64 (T0 i)])),(AN m),(AP m (fun i => [.int .i64 (Q i)])),(AI a),(AI b),(AI want),(AN 0),(AN 0),(AN 0),(AN 0),(AN 2),(NL 1 1),(NL 1 1),(AI ((↑N : Int))),(AN nb),(AP nb (fun i => [.int .i64 ((g i).1), .int .i64 ((g i).2.1)])),(AN 3),(NL 1 1),(NL 1 1),(AN N),(AP N (fun i => [.int .i64 (F0 i)])),(AN m),(AP m (fun i => [.int .i64 (T0 i)])),(AN m),(AP m (fun i => [.int .i64 (Q i)])),(AN 3),(NL 1 1),(NL 1 1),(AN 3),(NL 1 1),(NL 1 1),(AN 0),(AN N),(AN 0),(AN m),(AN 0),(AN m),(AN 1),(NL N N),(AA N (fun i => [.p (.int .i64 (F1 i))])),(AN 1),(NL m m),(AA m (fun i => [.p (.int .i64 (T1 i))])),(AN 1),(NL m m),(AA m (fun i => [.p (.int .i64 (Q i))]))]) := by kernel_rfl
theorem qHc (g : Nat → T_Bar) (nb N m : Nat) (F0 T0 F T Q : Nat → Int) (a b want : Int) :
    pathOb Tryz.prog Tryz.f193 0 [rg 13, .dec true, rm [(4, oq [4, 5, 6] (pebR N m F T Q) (.tup [pebO N m 0, .p (.bool false)]))] 6, rg 2, .dec true, rm [(4, oq [4, 5, 6] (pebR N m F T Q) (.tup [pebO N m 0, .p (.bool false)]))] 5, rg 2, .dec true, rg 3] zf67 (SH g nb N m F0 T0 F T Q a b want) [4, 5, 6] 1 (pebR N m F T Q) (.tup [pebO N m 0, .p (.bool false)]) =
    some [(NT 0 1),(IL 0 a),(IT a (↑N : Int)),(NT a.toNat N),(NT 0 1),(IL 0 b),(IT b (↑N : Int)),(NT b.toNat N),(R0 (F a.toNat + F b.toNat)),(R1 (F a.toNat + F b.toNat)),((decide (F (a.toNat + 0) + F (b.toNat + 0) < want)) = true),(NT 0 1),(NT 0 1),(AE N),(AE m),(AE m),Con Tryz.prog 220 3 (zf25 N F m T Q) [(zf78 N nb g), .agg [.ar 1 0 0 N, .ar 1 1 0 m, .ar 1 2 0 m], .p (.int .i64 a), .p (.int .i64 b)] (zf25 N F m T Q) ((zf87 N m)),(NT 0 1),((true = true) →  (AN 1)),((!false) = true),(NT 0 1),(NT 0 1),(AE N),(AE m),(AE m),Con Tryz.prog 220 3 (zf25 N F m T Q) [(zf78 N nb g), .agg [.ar 1 0 0 N, .ar 1 1 0 m, .ar 1 2 0 m], .p (.int .i64 b), .p (.int .i64 a)] (zf25 N F m T Q) ((zf87 N m)),(NT 0 1),((true = true) →  (AN 1)),((!false) = true),(NT 0 1),(NT 0 1),((true = true) →  (AN 1)),(NT 0 1),(AN 0),(AN N),(AN 0),(AN m),(AN 0),(AN m),(false = false),(AN 1),(NL N N),(AA N (fun i => [.p (.int .i64 (F i))])),(AN 1),(NL m m),(AA m (fun i => [.p (.int .i64 (T i))])),(AN 1),(NL m m),(AA m (fun i => [.p (.int .i64 (Q i))])),(AE N),(AE m),(AE m)] := by kernel_rfl
theorem qHd (g : Nat → T_Bar) (nb N m : Nat) (F0 T0 F T Q : Nat → Int) (a b want : Int) :
    pathOb Tryz.prog Tryz.f193 0 [rg 13, .dec false, rg 3] zf67 (SH g nb N m F0 T0 F T Q a b want) [4, 5, 6] 1 (pebR N m F T Q) (.tup [pebO N m 0, .p (.bool true)]) =
    some [(NT 0 1),(IL 0 a),(IT a (↑N : Int)),(NT a.toNat N),(NT 0 1),(IL 0 b),(IT b (↑N : Int)),(NT b.toNat N),(R0 (F a.toNat + F b.toNat)),(R1 (F a.toNat + F b.toNat)),((decide (F (a.toNat + 0) + F (b.toNat + 0) < want)) = false),(NT 0 1),(NT 0 1),((true = true) →  (AN 1)),(NT 0 1),(AN 0),(AN N),(AN 0),(AN m),(AN 0),(AN m),(true = true),(AN 1),(NL N N),(AA N (fun i => [.p (.int .i64 (F i))])),(AN 1),(NL m m),(AA m (fun i => [.p (.int .i64 (T i))])),(AN 1),(NL m m),(AA m (fun i => [.p (.int .i64 (Q i))])),(AE N),(AE m),(AE m)] := by kernel_rfl
theorem qNz (g : Nat → T_Bar) (N k : Nat) :
    pieceOb Tryz.prog 0 [rg 3, rg 6, .head] [.code (bodyOf Tryz.f148)] (start Tryz.f148 [] 0 [.agg [.p (.int .i64 N), .p .nil], .p (.int .i64 k)]) [0, 32, 224, 96, 128, 160] 1 (SNc g 0 N k) =
    some (zf74, [(NT 0 1),((true = true) →  (AN 1)),(AI ((↑k : Int))),(AN 0),(AN 0),(AN 0),((([AV.p (PV.int IntKind.i64 (↑N : Int)), AV.p PV.nil].length) : Nat) = 2),(NL 1 1),(NL 1 1),(AI ((↑N : Int))),(AN 0),((((List.map (fun v => AV.p (absV v)) [Value.slice none 0 0, Value.slice none 0 0, Value.slice none 0 0]).length) : Nat) = 3),(NL 1 1),(NL 1 1),((((List.map (fun v => AV.p (absV v)) [Value.slice none 0 0, Value.slice none 0 0, Value.slice none 0 0]).length) : Nat) = 3),(NL 1 1),(NL 1 1),(AN 0),(AN 0),(AN 0),(AN 0),(AN 0),(AN 0),(AN 1),(NL 0 0),(∀ i : Nat, (((i : Nat) < 0) → (All [] ∧ (([.p (.int .i64 0)] : List AV) = [.p (.int .i64 (↑k : Int))])))),(AN 1),(NL 0 0),(AA 0 (fun i => [.p (.int .i64 0)])),(AN 1),(NL 0 0),(AA 0 (fun i => [.p (.int .i64 0)]))]) := by kernel_rfl
theorem qNy (g : Nat → T_Bar) (nb N k : Nat) :
    pieceOb Tryz.prog 0 [rg 3, rg 6, .head] [.code (bodyOf Tryz.f148)] (start Tryz.f148 [] 0 [grG g nb N, .p (.int .i64 k)]) [0, 32, 224, 96, 128, 160] 1 (SNc g nb N k) =
    some (zf74, [(NT 0 1),((true = true) →  (AN 1)),(AI ((↑k : Int))),(AN 0),(AN 0),(AN 0),((([AV.p (PV.int IntKind.i64 (↑N : Int)), brL g nb].length) : Nat) = 2),(NL 1 1),(NL 1 1),(AI ((↑N : Int))),(AN nb),(AP nb (fun i => [.int .i64 ((g i).1), .int .i64 ((g i).2.1)])),((((List.map (fun v => AV.p (absV v)) [Value.slice none 0 0, Value.slice none 0 0, Value.slice none 0 0]).length) : Nat) = 3),(NL 1 1),(NL 1 1),((((List.map (fun v => AV.p (absV v)) [Value.slice none 0 0, Value.slice none 0 0, Value.slice none 0 0]).length) : Nat) = 3),(NL 1 1),(NL 1 1),(AN 0),(AN 0),(AN 0),(AN 0),(AN 0),(AN 0),(AN 1),(NL 0 0),(∀ i : Nat, (((i : Nat) < 0) → (All [] ∧ (([.p (.int .i64 0)] : List AV) = [.p (.int .i64 (↑k : Int))])))),(AN 1),(NL 0 0),(AA 0 (fun i => [.p (.int .i64 0)])),(AN 1),(NL 0 0),(AA 0 (fun i => [.p (.int .i64 0)]))]) := by kernel_rfl
theorem qNa (g : Nat → T_Bar) (nb N k : Nat) :
    pieceOb Tryz.prog 0 [rm [(1, oc [] (.p (.bool true))), (3, oc [] (.p (.bool true)))] 2, .dec false, rg 1, .head] zf74 (SNc g nb N k) [0, 1, 2, 3, 4, 5] 1 (SN0 g nb N k 0) =
    some (zf31, [(NT 0 1),Con Tryz.prog 22 0 [] [(zf78 N nb g)] [] (.p (.bool true)),(AG (!!true)),(((!!true) = true) →  Con Tryz.prog 95 0 [] [.p (.int .i64 (↑k : Int)), .p (.int .i64 1), .p (.int .i64 3)] [] (.p (.bool true))),(AG (!!true)),(((!true) = false) →  ((!!true) = true)),((bif !true then true else !true) = false),(AI ((↑k : Int))),(AN 0),(AN 0),(AN 0),((0 : Int) = (↑0 : Int)),(AN 2),(NL 1 1),(NL 1 1),(AI ((↑N : Int))),(AN nb),(AP nb (fun i => [.int .i64 ((g i).1), .int .i64 ((g i).2.1)])),(AN 3),(NL 1 1),(NL 1 1),(AN 3),(NL 1 1),(NL 1 1),(AN 0),(AN 0),(AN 0),(AN 0),(AN 0),(AN 0),(AN 1),(NL 0 0),(AA 0 (fun i => [.p (.int .i64 (↑k : Int))])),(AN 1),(NL 0 0),(AA 0 (fun i => [.p (.int .i64 0)])),(AN 1),(NL 0 0),(AA 0 (fun i => [.p (.int .i64 0)]))]) := by kernel_rfl
theorem qNl (g : Nat → T_Bar) (nb N k i : Nat) :
    pieceOb Tryz.prog 0 [rg 4, .dec true, rg 7, rg 3, .head] zf31 (SN0 g nb N k i) [0, 1, 2, 262, 4, 5] 1 (SN0 g nb N k (i + 1)) =
    some (zf31, [(NT 0 1),((decide ((↑i : Int) < (↑N : Int))) = true),(NT 0 1),(NL 1 1),(NL i i),(NL ((i + 1) * 8) 140737488355328),(NL (i + 1) 9223372036854775807),(NT 0 1),((true = true) →  (AN 1)),(R0 ((↑i : Int) + 1)),(R1 ((↑i : Int) + 1)),(AI ((↑k : Int))),(AN 0),(AN 0),(AN 0),((((↑i : Int) + 1) : Int) = (↑(i + 1) : Int)),(AN 2),(NL 1 1),(NL 1 1),(AI ((↑N : Int))),(AN nb),(AP nb (fun i_1 => [.int .i64 ((g i_1).1), .int .i64 ((g i_1).2.1)])),(AN 3),(NL 1 1),(NL 1 1),(AN 3),(NL 1 1),(NL 1 1),(AN 0),(AN ((i + 1))),(AN 0),(AN 0),(AN 0),(AN 0),(AN 1),(NL (i + 1) (i + 1)),(CV [(2, ⟨true, 3, 1, (fun i_2 => [.ar 1 262 0 (i + 1), .ar 1 4 0 0, .ar 1 5 0 0])⟩), (262, ⟨false, 1, (i + 1), (fun i_2 => (if (i_2 < i) then [.p (.int .i64 (↑k : Int))] else [.p (.int .i64 (↑k : Int))]))⟩), (230, ⟨false, 1, 1, (fun i_2 => [.p (.int .i64 (↑k : Int))])⟩), (0, ⟨true, 2, 1, (fun i_2 => [.p (.int .i64 (↑N : Int)), .p (.seq true 2 nb (fun i_3 => [.int .i64 ((g i_3).1), .int .i64 ((g i_3).2.1)]))])⟩), (1, ⟨true, 3, 1, (fun i_2 => [.p (.nil), .p (.nil), .p (.nil)])⟩), (4, ⟨false, 1, 0, (fun i_2 => [.p (.int .i64 0)])⟩), (5, ⟨false, 1, 0, (fun i_2 => [.p (.int .i64 0)])⟩)] [0, 1, 2, 262, 4, 5] 1 (i + 1) (fun i_1 => if (i_1 < i) then [.p (.int .i64 (↑k : Int))] else [.p (.int .i64 (↑k : Int))]) (fun i_1 => [.p (.int .i64 (↑k : Int))])),(AN 1),(NL 0 0),(AA 0 (fun i_1 => [.p (.int .i64 0)])),(AN 1),(NL 0 0),(AA 0 (fun i_1 => [.p (.int .i64 0)]))]) := by kernel_rfl
theorem qNe (g : Nat → T_Bar) (nb N k i : Nat) :
    pathOb Tryz.prog Tryz.f148 0 [rg 4, .dec false, rg 3] zf31 (SN0 g nb N k i) [3, 4, 5] 1 (pebR i 0 (fun _ => k) (fun _ => 0) (fun _ => 0)) (.tup [pebO i 0 0, .p (.bool true)]) =
    some [(NT 0 1),((decide ((↑i : Int) < (↑N : Int))) = false),(NT 0 1),(NT 0 1),((true = true) →  (AN 1)),(NT 0 1),(AN 0),(AN i),(AN 0),(AN 0),(AN 0),(AN 0),(true = true),(AN 1),(NL i i),(AA i (fun i_1 => [.p (.int .i64 (↑k : Int))])),(AN 1),(NL 0 0),(AA 0 (fun i_1 => [.p (.int .i64 0)])),(AN 1),(NL 0 0),(AA 0 (fun i_1 => [.p (.int .i64 0)])),(AE i),(AE 0),(AE 0)] := by kernel_rfl
theorem qRz (g : Nat → T_Bar) (nb N : Nat) :
    pieceOb Tryz.prog 0 [rg 2, rm [(3, oc (pebR N 0 (fun _ => ((2 : Nat) : Int)) (fun _ => 0) (fun _ => 0)) (.tup [pebO N 0 0, .p (.bool true)]))] 6, rg 1, rg 1, .head] [.code (bodyOf Tryz.f194)] (start Tryz.f194 [] 0 [grG g nb N]) [0, 288, 160, 161, 162] 1 (SR g nb N 0 0 (fun _ => ((2 : Nat) : Int)) (fun _ => 0) (fun _ => 0)) =
    some (zf32, [(NT 0 1),Con Tryz.prog 148 0 [] [.agg [.p (.int .i64 (↑N : Int)), .p (.nil)], .p (.int .i64 2)] [(0, ⟨false, 1, N, (fun i => [.p (.int .i64 2)])⟩), (1, ⟨false, 1, 0, (fun i => [.p (.int .i64 0)])⟩), (2, ⟨false, 1, 0, (fun i => [.p (.int .i64 0)])⟩)] (.tup [.agg [.ar 1 0 0 N, .ar 1 1 0 0, .ar 1 2 0 0], .p (.bool true)]),(NT 0 1),((true = true) →  (AN 1)),(AI ((↑N : Int))),(AN nb),(AP nb (fun i => [.int .i64 ((g i).1), .int .i64 ((g i).2.1)])),(AN 0),(AN 0),((0 : Int) = (↑0 : Int)),((0 : Int) = (↑0 : Int)),((([AV.p (PV.int IntKind.i64 (↑N : Int)), brL g nb].length) : Nat) = 2),(NL 1 1),(NL 1 1),(AI ((↑N : Int))),(AN nb),(AP nb (fun i => [.int .i64 ((g i).1), .int .i64 ((g i).2.1)])),((((List.map (fun v => AV.p (absV v)) [Value.slice none 0 0, Value.slice none 0 0, Value.slice none 0 0]).length) : Nat) = 3),(NL 1 1),(NL 1 1),(AN 0),(AN N),(AN 0),(AN 0),(AN 0),(AN 0),(AN 1),(NL N N),(AA N (fun i => [.p (.int .i64 2)])),(AN 1),(NL 0 0),(AA 0 (fun i => [.p (.int .i64 0)])),(AN 1),(NL 0 0),(AA 0 (fun i => [.p (.int .i64 0)]))]) := by kernel_rfl
theorem qRa (g : Nat → T_Bar) (nb N m i : Nat) (F T Q F1 T1 : Nat → Int) :
    pieceOb Tryz.prog 0 [rg 5, .dec true, rm [(14, oc (pebR N m F1 T1 Q) (.tup [pebO N m 0, .p (.bool true)]))] 6, rg 2, .dec false, rg 21, rg 12, rg 7, rg 2, rg 3, rg 3, .head] zf32 (SR g nb N m i F T Q) [0, 1, 613, 1861, 2085] 1 (SR g nb N (m + 1) (i + 1) (fun s => if s = (g i).1.toNat then F1 s - 1 else F1 s) (fun s => if s < m then T1 s else (g i).1) (fun s => if s < m then Q s else i)) =
    some (zf32, [(NT 0 1),((decide ((↑i : Int) < (↑nb : Int))) = true),(NT 0 1),(NT 0 1),(NT 0 1),(IL 0 (↑i : Int)),(IT (↑i : Int) (↑nb : Int)),(NT 0 1),(IL 0 (↑i : Int)),(IT (↑i : Int) (↑nb : Int)),(AN 1),(NL N N),(AN 1),(NL m m),(AN 1),(NL m m),Con Tryz.prog 193 0 [] [(zf76 N nb g), (zf26 N F m T Q), .p (.int .i64 ((g i).1)), .p (.int .i64 ((g i).2.1)), .p (.int .i64 4)] (zf19 N F1 m T1 Q) ((zf88 N m)),(NT 0 1),((true = true) →  (AN 1)),((!true) = false),(NT 0 1),(NT 0 1),(IL 0 (↑i : Int)),(IT (↑i : Int) (↑nb : Int)),(NT 0 1),(NT 0 1),(IL 0 (↑i : Int)),(IT (↑i : Int) (↑nb : Int)),(IL 0 ((g i).1)),(IT ((g i).1) (↑N : Int)),(NT ((g i).1.toNat) N),(R0 (F1 (g i).1.toNat - 1)),(R1 (F1 (g i).1.toNat - 1)),(IL 0 ((g i).1)),(IT ((g i).1) (↑N : Int)),(NT ((g i).1.toNat) N),((false = true) →  ((N : Nat) = 1)),(NT 0 1),(NT 0 1),(IL 0 (↑i : Int)),(IT (↑i : Int) (↑nb : Int)),(NL 1 1),(NL m m),(NL ((m + 1) * 8) 140737488355328),(NL (m + 1) 9223372036854775807),(NT 0 1),((true = true) →  (AN 1)),(NT 0 1),(NL 1 1),(NL m m),(NL ((m + 1) * 8) 140737488355328),(NL (m + 1) 9223372036854775807),(NT 0 1),((true = true) →  (AN 1)),(NT 0 1),(NT 0 1),((true = true) →  (AN 1)),(R0 ((↑m : Int) + 1)),(R1 ((↑m : Int) + 1)),(R0 ((↑i : Int) + 1)),(R1 ((↑i : Int) + 1)),(AI ((↑N : Int))),(AN nb),(AP nb (fun i_1 => [.int .i64 ((g i_1).1), .int .i64 ((g i_1).2.1)])),(AN 0),(AN 0),((((↑m : Int) + 1) : Int) = (↑(m + 1) : Int)),((((↑i : Int) + 1) : Int) = (↑(i + 1) : Int)),(AN 2),(NL 1 1),(NL 1 1),(AI ((↑N : Int))),(AN nb),(AP nb (fun i_1 => [.int .i64 ((g i_1).1), .int .i64 ((g i_1).2.1)])),(AN 3),(NL 1 1),(NL 1 1),(AN 0),(AN N),(AN 0),(AN ((m + 1))),(AN 0),(AN ((m + 1))),(AN 1),(NL N N),(CV [(1, ⟨true, 3, 1, (fun i_2 => [.ar 1 613 0 N, .ar 1 1861 0 (m + 1), .ar 1 2085 0 (m + 1)])⟩), (741, ⟨true, 3, 1, (fun i_2 => [.ar 1 613 0 N, .ar 1 1861 0 (m + 1), .ar 1 2085 0 (m + 1)])⟩), (2085, ⟨false, 1, (m + 1), (fun i_2 => (if (i_2 < m) then [.p (.int .i64 (Q i_2))] else [.p (.int .i64 (↑i : Int))]))⟩), (2053, ⟨false, 1, 1, (fun i_2 => [.p (.int .i64 (↑i : Int))])⟩), (1861, ⟨false, 1, (m + 1), (fun i_2 => (if (i_2 < m) then [.p (.int .i64 (T1 i_2))] else [.p (.int .i64 ((g i).1))]))⟩), (1829, ⟨false, 1, 1, (fun i_2 => [.p (.int .i64 ((g i).1))])⟩), (613, ⟨false, 1, N, (fun i_2 => (if (i_2 = (g i).1.toNat) then [.p (.int .i64 (F1 (g i).1.toNat - 1))] else [.p (.int .i64 (F1 i_2))]))⟩), (0, ⟨true, 2, 1, (fun i_2 => [.p (.int .i64 (↑N : Int)), .p (.seq true 2 nb (fun i_3 => [.int .i64 ((g i_3).1), .int .i64 ((g i_3).2.1)]))])⟩), (2, ⟨false, 1, N, (fun i_2 => [.p (.int .i64 (F i_2))])⟩), (3, ⟨false, 1, m, (fun i_2 => [.p (.int .i64 (T i_2))])⟩), (4, ⟨false, 1, m, (fun i_2 => [.p (.int .i64 (Q i_2))])⟩)] [0, 1, 613, 1861, 2085] 1 N (fun i_1 => if (i_1 = (g i).1.toNat) then [.p (.int .i64 (F1 (g i).1.toNat - 1))] else [.p (.int .i64 (F1 i_1))]) (fun i_1 => [.p (.int .i64 (if i_1 = (g i).1.toNat then F1 i_1 - 1 else F1 i_1))])),(AN 1),(NL (m + 1) (m + 1)),(CV [(1, ⟨true, 3, 1, (fun i_2 => [.ar 1 613 0 N, .ar 1 1861 0 (m + 1), .ar 1 2085 0 (m + 1)])⟩), (741, ⟨true, 3, 1, (fun i_2 => [.ar 1 613 0 N, .ar 1 1861 0 (m + 1), .ar 1 2085 0 (m + 1)])⟩), (2085, ⟨false, 1, (m + 1), (fun i_2 => (if (i_2 < m) then [.p (.int .i64 (Q i_2))] else [.p (.int .i64 (↑i : Int))]))⟩), (2053, ⟨false, 1, 1, (fun i_2 => [.p (.int .i64 (↑i : Int))])⟩), (1861, ⟨false, 1, (m + 1), (fun i_2 => (if (i_2 < m) then [.p (.int .i64 (T1 i_2))] else [.p (.int .i64 ((g i).1))]))⟩), (1829, ⟨false, 1, 1, (fun i_2 => [.p (.int .i64 ((g i).1))])⟩), (613, ⟨false, 1, N, (fun i_2 => (if (i_2 = (g i).1.toNat) then [.p (.int .i64 (F1 (g i).1.toNat - 1))] else [.p (.int .i64 (F1 i_2))]))⟩), (0, ⟨true, 2, 1, (fun i_2 => [.p (.int .i64 (↑N : Int)), .p (.seq true 2 nb (fun i_3 => [.int .i64 ((g i_3).1), .int .i64 ((g i_3).2.1)]))])⟩), (2, ⟨false, 1, N, (fun i_2 => [.p (.int .i64 (F i_2))])⟩), (3, ⟨false, 1, m, (fun i_2 => [.p (.int .i64 (T i_2))])⟩), (4, ⟨false, 1, m, (fun i_2 => [.p (.int .i64 (Q i_2))])⟩)] [0, 1, 613, 1861, 2085] 1 (m + 1) (fun i_1 => if (i_1 < m) then [.p (.int .i64 (T1 i_1))] else [.p (.int .i64 ((g i).1))]) (fun i_1 => [.p (.int .i64 (if i_1 < m then T1 i_1 else (g i).1))])),(AN 1),(NL (m + 1) (m + 1)),(CV [(1, ⟨true, 3, 1, (fun i_2 => [.ar 1 613 0 N, .ar 1 1861 0 (m + 1), .ar 1 2085 0 (m + 1)])⟩), (741, ⟨true, 3, 1, (fun i_2 => [.ar 1 613 0 N, .ar 1 1861 0 (m + 1), .ar 1 2085 0 (m + 1)])⟩), (2085, ⟨false, 1, (m + 1), (fun i_2 => (if (i_2 < m) then [.p (.int .i64 (Q i_2))] else [.p (.int .i64 (↑i : Int))]))⟩), (2053, ⟨false, 1, 1, (fun i_2 => [.p (.int .i64 (↑i : Int))])⟩), (1861, ⟨false, 1, (m + 1), (fun i_2 => (if (i_2 < m) then [.p (.int .i64 (T1 i_2))] else [.p (.int .i64 ((g i).1))]))⟩), (1829, ⟨false, 1, 1, (fun i_2 => [.p (.int .i64 ((g i).1))])⟩), (613, ⟨false, 1, N, (fun i_2 => (if (i_2 = (g i).1.toNat) then [.p (.int .i64 (F1 (g i).1.toNat - 1))] else [.p (.int .i64 (F1 i_2))]))⟩), (0, ⟨true, 2, 1, (fun i_2 => [.p (.int .i64 (↑N : Int)), .p (.seq true 2 nb (fun i_3 => [.int .i64 ((g i_3).1), .int .i64 ((g i_3).2.1)]))])⟩), (2, ⟨false, 1, N, (fun i_2 => [.p (.int .i64 (F i_2))])⟩), (3, ⟨false, 1, m, (fun i_2 => [.p (.int .i64 (T i_2))])⟩), (4, ⟨false, 1, m, (fun i_2 => [.p (.int .i64 (Q i_2))])⟩)] [0, 1, 613, 1861, 2085] 1 (m + 1) (fun i_1 => if (i_1 < m) then [.p (.int .i64 (Q i_1))] else [.p (.int .i64 (↑i : Int))]) (fun i_1 => [.p (.int .i64 (if i_1 < m then Q i_1 else (↑i : Int)))]))]) := by kernel_rfl
theorem qRb (g : Nat → T_Bar) (nb N m i : Nat) (F T Q F1 T1 : Nat → Int) :
    pieceOb Tryz.prog 0 [rg 5, .dec true, rm [(14, oc (pebR N m F1 T1 Q) (.tup [pebO N m 0, .p (.bool false)]))] 6, rg 2, .dec true, rg 3, .head] zf32 (SR g nb N m i F T Q) [0, 1, 2, 3, 4] 1 (SR g nb N m (i + 1) F T Q) =
    some (zf32, [(NT 0 1),((decide ((↑i : Int) < (↑nb : Int))) = true),(NT 0 1),(NT 0 1),(NT 0 1),(IL 0 (↑i : Int)),(IT (↑i : Int) (↑nb : Int)),(NT 0 1),(IL 0 (↑i : Int)),(IT (↑i : Int) (↑nb : Int)),(AN 1),(NL N N),(AN 1),(NL m m),(AN 1),(NL m m),Con Tryz.prog 193 0 [] [(zf76 N nb g), (zf26 N F m T Q), .p (.int .i64 ((g i).1)), .p (.int .i64 ((g i).2.1)), .p (.int .i64 4)] (zf19 N F1 m T1 Q) ((zf87 N m)),(NT 0 1),((true = true) →  (AN 1)),((!false) = true),(R0 ((↑i : Int) + 1)),(R1 ((↑i : Int) + 1)),(AI ((↑N : Int))),(AN nb),(AP nb (fun i_1 => [.int .i64 ((g i_1).1), .int .i64 ((g i_1).2.1)])),(AN 0),(AN 0),(AI ((↑m : Int))),((((↑i : Int) + 1) : Int) = (↑(i + 1) : Int)),(AN 2),(NL 1 1),(NL 1 1),(AI ((↑N : Int))),(AN nb),(AP nb (fun i_1 => [.int .i64 ((g i_1).1), .int .i64 ((g i_1).2.1)])),(AN 3),(NL 1 1),(NL 1 1),(AN 0),(AN N),(AN 0),(AN m),(AN 0),(AN m),(AN 1),(NL N N),(AA N (fun i_1 => [.p (.int .i64 (F i_1))])),(AN 1),(NL m m),(AA m (fun i_1 => [.p (.int .i64 (T i_1))])),(AN 1),(NL m m),(AA m (fun i_1 => [.p (.int .i64 (Q i_1))]))]) := by kernel_rfl
theorem qRe (g : Nat → T_Bar) (nb N m i : Nat) (F T Q : Nat → Int) :
    pathOb Tryz.prog Tryz.f194 0 [rg 5, .dec false, rg 2] zf32 (SR g nb N m i F T Q) [] 1 [] (.p (.int .i64 m)) =
    some [(NT 0 1),((decide ((↑i : Int) < (↑nb : Int))) = false),(AI ((↑m : Int)))] := by kernel_rfl
theorem con_l4Gather {N k nb m l : Nat} {g : Nat → T_Bar} {F0 T0 Q : Nat → Int} {a b : Int} (hp0 : PInv N k nb m g F0 T0 Q) (hk : k ≤ 1048576) (hN : N ≤ 1048576) (hm : m ≤ 1048576) (hnb : nb ≤ 1048576)
    (ha : 0 ≤ a ∧ a < N) (hb : 0 ≤ b ∧ b < N) (hab : a ≠ b) : ∃ F' T' r, Con Tryz.prog 193 0 [] [grG g nb N, pebD N m F0 T0 Q, .p (.int .i64 a), .p (.int .i64 b), .p (.int .i64 ((l : Int) + 1))] (pebR N m F' T' Q) (.tup [pebO N m 0, .p (.bool r)]) ∧
      PInv N k nb m g F' T' Q ∧ (r = true → (l : Int) + 1 ≤ F' a.toNat + F' b.toNat) ∧ (r = false → ¬ Mat.Sparse N k l (plL g Q m ++ [(a.toNat, b.toNat)])) := by
  have lp : ∀ d F T, PInv N k nb m g F T Q → (l : Int) + 1 ≤ F a.toNat + F b.toNat + (d : Nat) → ∃ F' T' r, (∀ c, c.n = 0 → Run Tryz.prog c 193 zf67 (SH g nb N m F0 T0 F T Q a b ((l : Int) + 1)) (Post c (pebR N m F' T' Q) (.tup [pebO N m 0, .p (.bool r)]))) ∧
      PInv N k nb m g F' T' Q ∧ (r = true → (l : Int) + 1 ≤ F' a.toNat + F' b.toNat) ∧ (r = false → ¬ Mat.Sparse N k l (plL g Q m ++ [(a.toNat, b.toNat)])) := by
    intro d
    induction d with
    | zero =>
      intro F T hp hw
      have hd : decide (F a.toNat + F b.toNat < (l : Int) + 1) = false := by simp; omega
      have l1 := hp.le (v := a.toNat) (by omega)
      have l2 := hp.le (v := b.toNat) (by omega)
      refine ⟨F, T, true, fun c hc => ?_, hp, (fun _ => by omega), (fun h => by cases h)⟩
      refine path_ok mixed Tryz.func193 hc (qHd g nb N m F0 T0 F T Q a b ((l : Int) + 1)) ?_
      simp only [All]
      repeat' (first | exact trivial | with_reducible apply And.intro)
      all_goals (first | exact aA _ _ | exact aE _ | omega | rfl | (intros; first | assumption | exact trivial | rfl | exact fT ‹_› | ((repeat' (first | assumption | apply anda | apply notf)); done)) | (exact hd) | (intro i hi; simp [All, aEt]))
    | succ d ih =>
      intro F T hp hw
      have l1 := hp.le (v := a.toNat) (by omega)
      have l2 := hp.le (v := b.toNat) (by omega)
      by_cases hs : F a.toNat + F b.toNat < (l : Int) + 1
      · have hd : decide (F a.toNat + F b.toNat < (l : Int) + 1) = true := by simp; omega
        obtain ⟨H1, r1, hc1, hf1⟩ := con_l4Find hp hk hN hm hnb ha hb hab
        cases hf1 with
        | yes F1 T1 hm1 =>
          obtain ⟨y1, y2⟩ := hm1.yes rfl
          obtain ⟨F', T', r, hrun, h1, h2, h3⟩ := ih F1 T1 hm1.inv (by omega)
          refine ⟨F', T', r, fun c hc => ?_, h1, h2, h3⟩
          refine piece_ok mixed hc (qHa g nb N m F0 T0 F T Q F1 T1 a b ((l : Int) + 1)) ?_ (hrun c hc)
          simp only [All]
          repeat' (first | exact trivial | with_reducible apply And.intro)
          all_goals (first | exact aP _ _ | exact aA _ _ | exact aE _ | omega | rfl | (intros; first | assumption | exact trivial | rfl | exact fT ‹_› | ((repeat' (first | assumption | apply anda | apply notf)); done)) | (exact hd) | (exact hc1) | (intro i hi; simp [All, aEt]))
        | no hm1 =>
          obtain ⟨H2, r2, hc2, hf2⟩ := con_l4Find hp hk hN hm hnb hb ha (Ne.symm hab)
          cases hf2 with
          | yes F2 T2 hm2 =>
            obtain ⟨y1, y2⟩ := hm2.yes rfl
            obtain ⟨F', T', r, hrun, h1, h2, h3⟩ := ih F2 T2 hm2.inv (by omega)
            refine ⟨F', T', r, fun c hc => ?_, h1, h2, h3⟩
            refine piece_ok mixed hc (qHb g nb N m F0 T0 F T Q F2 T2 a b ((l : Int) + 1)) ?_ (hrun c hc)
            simp only [All]
            repeat' (first | exact trivial | with_reducible apply And.intro)
            all_goals (first | exact aP _ _ | exact aA _ _ | exact aE _ | omega | rfl | (intros; first | assumption | exact trivial | rfl | exact fT ‹_› | ((repeat' (first | assumption | apply anda | apply notf)); done)) | (exact hd) | (exact hc1) | (exact hc2) | (intro i hi; simp [All, aEt]))
          | no hm2 =>
            refine ⟨F, T, false, fun c hc => ?_, hp, (fun h => by cases h), fun _ => gather_no hp ha hb hab (by omega) hm1 hm2⟩
            refine path_ok mixed Tryz.func193 hc (qHc g nb N m F0 T0 F T Q a b ((l : Int) + 1)) ?_
            simp only [All]
            repeat' (first | exact trivial | with_reducible apply And.intro)
            all_goals (first | exact aA _ _ | exact aE _ | omega | rfl | (intros; first | assumption | exact trivial | rfl | exact fT ‹_› | ((repeat' (first | assumption | apply anda | apply notf)); done)) | (exact hd) | (exact hc1) | (exact hc2) | (intro i hi; simp [All, aEt]))
      · have hd : decide (F a.toNat + F b.toNat < (l : Int) + 1) = false := by simp; omega
        refine ⟨F, T, true, fun c hc => ?_, hp, (fun _ => by omega), (fun h => by cases h)⟩
        refine path_ok mixed Tryz.func193 hc (qHd g nb N m F0 T0 F T Q a b ((l : Int) + 1)) ?_
        simp only [All]
        repeat' (first | exact trivial | with_reducible apply And.intro)
        all_goals (first | exact aA _ _ | exact aE _ | omega | rfl | (intros; first | assumption | exact trivial | rfl | exact fT ‹_› | ((repeat' (first | assumption | apply anda | apply notf)); done)) | (exact hd) | (intro i hi; simp [All, aEt]))
  have l1 := hp0.le (v := a.toNat) (by omega)
  have l2 := hp0.le (v := b.toNat) (by omega)
  obtain ⟨F', T', r, hrun, h⟩ := lp (l + 1) F0 T0 hp0 (by omega)
  refine ⟨F', T', r, ?_, h⟩
  have hcc := con_l4Copy N m F0 T0 Q hN hm
  refine con_start Tryz.func193 rfl (by kernel_rfl) rfl (fun c hc => ?_)
  refine piece_ok mixed hc (qHz g nb N m F0 T0 Q a b ((l : Int) + 1)) ?_ (hrun c hc)
  simp only [All]
  repeat' (first | exact trivial | with_reducible apply And.intro)
  all_goals (first | exact aP _ _ | exact aA _ _ | omega | rfl | (intros; first | assumption | exact trivial | rfl | exact fT ‹_› | ((repeat' (first | assumption | apply anda | apply notf)); done)) | (exact hcc) | (intro i hi; simp [All, aEt]))
theorem run_new {g : Nat → T_Bar} {nb N k : Nat} (hN : N ≤ 1048576) (hk : 1 ≤ k ∧ k ≤ 3) (hg : isGraphF ((N : Int), (nb, g), ()) = true) (hnb : nb ≤ 1048576) (c : Cx) (hc : c.n = 0) {items : List Item} (hit : items = zf74) :
    Run Tryz.prog c 148 items (SNc g nb N k) (Post c (pebR N 0 (fun _ => k) (fun _ => 0) (fun _ => 0)) (.tup [pebO N 0 0, .p (.bool true)])) := by
  subst hit
  have hsm : smS s_Graph ((N : Int), (nb, g), ()) := ⟨by simp [smS, smL], ⟨hnb, fun i hi => by simp [smS, smL]⟩, True.intro⟩
  have hcg := con_IsGraph_s ((N : Int), (nb, g), ()) hsm
  rw [hg] at hcg
  have hci := con_l1In k 1 3
  rw [show inB k 1 3 = true by simp [inB]; omega] at hci
  have lp0 : ∀ d i, i + d = N → Run Tryz.prog c 148 zf31 (SN0 g nb N k i) (Post c (pebR N 0 (fun _ => k) (fun _ => 0) (fun _ => 0)) (.tup [pebO N 0 0, .p (.bool true)])) := by
    intro d
    induction d with
    | zero =>
      intro i hi
      obtain rfl : i = N := by omega
      have hd : decide ((i : Int) < (i : Int)) = false := by simp
      refine path_ok mixed Tryz.func148 hc (qNe g nb i k i) ?_
      simp only [All]
      repeat' (first | exact trivial | with_reducible apply And.intro)
      all_goals (first | exact aA _ _ | exact aE _ | omega | rfl | (intros; first | assumption | exact trivial | rfl | exact fT ‹_› | ((repeat' (first | assumption | apply anda | apply notf)); done)) | (intro i hi; simp [All, aEt]))
    | succ d ih =>
      intro i hi
      have hd : decide ((i : Int) < (N : Int)) = true := by simp; omega
      refine piece_ok mixed hc (qNl g nb N k i) ?_ (ih (i + 1) (by omega))
      simp only [All]
      repeat' (first | exact trivial | with_reducible apply And.intro)
      all_goals (first | exact aP _ _ | exact aA _ _ | omega | rfl | (intros; first | assumption | exact trivial | rfl | exact fT ‹_› | ((repeat' (first | assumption | apply anda | apply notf)); done)) | (intro j hj; simp [All, aEt]; done) | (intro j hj; by_cases h : j < i <;> simp [h, cvtL, cvt, tg, tru, All]))
  refine piece_ok mixed hc (qNa g nb N k) ?_ (lp0 N 0 (by omega))
  simp only [All]
  repeat' (first | exact trivial | with_reducible apply And.intro)
  all_goals (first | exact aG _ | exact aP _ _ | exact aA _ _ | omega | rfl | (intros; first | assumption | exact trivial | rfl | exact fT ‹_› | ((repeat' (first | assumption | apply anda | apply notf)); done)) | (exact hcg) | (intros; exact hci) | (intro i hi; simp [All, aEt]))
theorem con_NewPebbles0 {N k : Nat} (hN : 1 ≤ N ∧ N ≤ 8) (hk : 1 ≤ k ∧ k ≤ 3) : Con Tryz.prog 148 0 [] [.agg [.p (.int .i64 N), .p .nil], .p (.int .i64 k)] (pebR N 0 (fun _ => k) (fun _ => 0) (fun _ => 0)) (.tup [pebO N 0 0, .p (.bool true)]) := by
  refine con_start Tryz.func148 rfl (by kernel_rfl) rfl (fun c hc => ?_)
  have hg : isGraphF ((N : Int), (0, fun _ => ((0 : Int), (0 : Int), ())), ()) = true := by
    have : inB N 1 8 = true := by simp [inB]; omega
    simp [isGraphF, this, goodB]
  refine piece_ok mixed hc (qNz (fun _ => (0, 0, ())) N k) ?_ (run_new (g := fun _ => (0, 0, ())) (by omega) hk hg (by omega) c hc rfl)
  simp only [All]
  repeat' (first | exact trivial | with_reducible apply And.intro)
  all_goals (first | exact aA _ _ | omega | rfl | (intros; first | assumption | exact trivial | rfl | exact fT ‹_› | ((repeat' (first | assumption | apply anda | apply notf)); done)) | (intro i hi; simp [All, aEt]))
theorem con_NewPebbles {N k nb : Nat} {g : Nat → T_Bar} (hN : N ≤ 1048576) (hk : 1 ≤ k ∧ k ≤ 3) (hg : isGraphF ((N : Int), (nb, g), ()) = true) (hnb : nb ≤ 1048576) :
    Con Tryz.prog 148 0 [] [grG g nb N, .p (.int .i64 k)] (pebR N 0 (fun _ => k) (fun _ => 0) (fun _ => 0)) (.tup [pebO N 0 0, .p (.bool true)]) := by
  refine con_start Tryz.func148 rfl (by kernel_rfl) rfl (fun c hc => ?_)
  refine piece_ok mixed hc (qNy g nb N k) ?_ (run_new hN hk hg hnb c hc rfl)
  simp only [All]
  repeat' (first | exact trivial | with_reducible apply And.intro)
  all_goals (first | exact aP _ _ | exact aA _ _ | omega | rfl | (intros; first | assumption | exact trivial | rfl | exact fT ‹_› | ((repeat' (first | assumption | apply anda | apply notf)); done)) | (intro i hi; simp [All, aEt]))
theorem con_l6Rank {N nb : Nat} {g : Nat → T_Bar} (hb : ∀ e, e < nb → 0 ≤ (g e).1 ∧ (g e).1 < (g e).2.1 ∧ (g e).2.1 < N) (hN : 1 ≤ N ∧ N ≤ 8) (hnb : nb ≤ 1048576) :
    Con Tryz.prog 194 0 [] [grG g nb N] [] (.p (.int .i64 ((accI N 2 3 g nb).length : Nat))) := by
  refine con_start Tryz.func194 rfl (by kernel_rfl) rfl (fun c hc => ?_)
  have lp : ∀ d i m F T Q, i + d = nb → PInv N 2 nb m g F T Q → qL Q m = accI N 2 3 g i →
      Run Tryz.prog c 194 zf32 (SR g nb N m i F T Q) (Post c [] (.p (.int .i64 ((accI N 2 3 g nb).length : Nat)))) := by
    intro d
    induction d with
    | zero =>
      intro i m F T Q hi hp hq
      obtain rfl : i = nb := by omega
      have hd : decide ((i : Int) < (i : Int)) = false := by simp
      rw [← hq, qL_length]
      refine path_ok mixed Tryz.func194 hc (qRe g i N m i F T Q) ?_
      simp only [All]
      repeat' (first | exact trivial | with_reducible apply And.intro)
      all_goals (first | omega | rfl | (intros; first | assumption | exact trivial | rfl | exact fT ‹_› | ((repeat' (first | assumption | apply anda | apply notf)); done)) | (intro i hi; simp [All, aEt]))
    | succ d ih =>
      intro i m F T Q hi hp hq
      have hd : decide ((i : Int) < (nb : Int)) = true := by simp; omega
      have hm : m ≤ 1048576 := by
        have := accI_len N 2 3 g i
        rw [← hq, qL_length] at this
        omega
      have hsp : Mat.Sparse N 2 3 (plL g Q m) := by rw [plL_qL, hq]; exact accI_sparse N 2 3 g i
      have hbar := hb i (by omega)
      obtain ⟨F1, T1, r, hc1, h1, h2, h3⟩ := con_l4Gather (l := 3) (a := (g i).1) (b := (g i).2.1) hp (by omega) (by omega) hm hnb (by omega) (by omega) (by omega)
      have hlA := h1.le (v := (g i).1.toNat) (by omega)
      have hlB := h1.le (v := (g i).2.1.toNat) (by omega)
      cases r with
      | false =>
        have hrej : ¬ Mat.Sparse N 2 3 (plL g Q m ++ [brN (g i)]) := h3 rfl
        refine piece_ok mixed hc (qRb g nb N m i F T Q F1 T1) ?_ (ih (i + 1) m F T Q (by omega) hp (by
          simp only [accI]
          rw [← hq, ← plL_qL, if_neg hrej]))
        simp only [All]
        repeat' (first | exact trivial | with_reducible apply And.intro)
        all_goals (first | exact aP _ _ | exact aA _ _ | omega | rfl | (intros; first | assumption | exact trivial | rfl | exact fT ‹_› | ((repeat' (first | assumption | apply anda | apply notf)); done)) | (exact hc1) | (intro i hi; simp [All, aEt]))
      | true =>
        have hw := h2 rfl
        have hacc : Mat.Sparse N 2 3 (plL g Q m ++ [brN (g i)]) := by
          have := (h1.game 3).accept (by rw [barsOf_gm]; exact hsp) (g i).1.toNat (g i).2.1.toNat ⟨by show (g i).1.toNat ≠ (g i).2.1.toNat; omega, by show (g i).1.toNat < N; omega, by show (g i).2.1.toNat < N; omega⟩
            (by show 3 + 1 ≤ (F1 (g i).1.toNat).toNat + (F1 (g i).2.1.toNat).toNat; omega)
          rw [barsOf_gm] at this
          exact this
        refine piece_ok mixed hc (qRa g nb N m i F T Q F1 T1) ?_ (ih (i + 1) (m + 1) _ _ _ (by omega) (h1.placed i (by omega) (g i).1 (.inl rfl) (by omega)) (by
          simp only [accI]
          rw [← hq, ← plL_qL, if_pos hacc]
          simp only [qL, Nat.lt_irrefl, if_false, Int.toNat_natCast]
          rw [qL_congr (Q' := Q) m (fun j hj => by simp only [hj, if_true])]))
        simp only [All]
        repeat' (first | exact trivial | with_reducible apply And.intro)
        all_goals (first | exact aP _ _ | omega | rfl | (intros; first | assumption | exact trivial | rfl | exact fT ‹_› | ((repeat' (first | assumption | apply anda | apply notf)); done)) | (exact hc1) | (intro i hi; simp [All, aEt]; done) | (intro j hj; by_cases h : j < m <;> simp [h, cvtL, cvt, tg, tru, All]; done) | (intro j hj; by_cases h : j = (g i).1.toNat <;> simp [h, cvtL, cvt, tg, tru, All]))
  have hn := con_NewPebbles0 (k := 2) hN (by omega)
  refine piece_ok mixed hc (qRz g nb N) ?_ (lp nb 0 0 _ _ _ (by omega) (PInv.start hb) rfl)
  simp only [All]
  repeat' (first | exact trivial | with_reducible apply And.intro)
  all_goals (first | exact aP _ _ | exact aA _ _ | omega | rfl | (intros; first | assumption | exact trivial | rfl | exact fT ‹_› | ((repeat' (first | assumption | apply anda | apply notf)); done)) | (exact hn) | (intro i hi; simp [All, aEt]))
end Go.Proofs.YtffnfeefjdmifaaGreat.Mach
namespace Go.Proofs.YtffnfeefjdmifaaGreat.Mach
open Go
set_option linter.unusedVariables false
set_option linter.unusedSimpArgs false
def snocI (n : Nat) (f : Nat → Int) (p : Int) (s : Nat) : Int := if s < n then f s else p
theorem rIs (g g' : Nat → T_Bar) (nb nb' N : Nat) (a b : Int) (r1 r0 : Nat) :
    pathOb Tryz.prog Tryz.f150 0 [rg 2, rm [(1, oc [] (.p (.bool true)))] 21, .dec false, rm [(8, oc [(0, brOb nb' g')] (.agg [.p (.int .i64 N), .ar 2 0 0 nb']))] 2, rm [(5, oc [] (.p (.int .i64 r1))), (1, oc [] (.p (.int .i64 r0)))] 3] [.code (bodyOf Tryz.f150)] (start Tryz.f150 [] 0 [grG g nb N, .p (.int .i64 a), .p (.int .i64 b)]) [] 1 [] (.p (.bool (bif a == b then true else (r1 : Int) == (r0 : Int)))) =
    some [(NT 0 1),Con Tryz.prog 22 0 [] [(zf78 N nb g)] [] (.p (.bool true)),(AG (!!true)),(((!true) = false) →  ((!!true) = true)),(AG (!bif !true then true else decide (a < 0))),(((bif !true then true else decide (a < 0)) = false) →  ((!bif !true then true else decide (a < 0)) = true)),(AG (!bif bif !true then true else decide (a < 0) then true else decide (b < 0))),(((!bif bif !true then true else decide (a < 0) then true else decide (b < 0)) = true) → (NT 0 1)),(AG (!bif bif !true then true else decide (a < 0) then true else decide (b < 0))),(AG (!bif bif !true then true else decide (a < 0) then true else decide (b < 0))),(((bif bif !true then true else decide (a < 0) then true else decide (b < 0)) = false) →  ((!bif bif !true then true else decide (a < 0) then true else decide (b < 0)) = true)),(AG (!bif bif bif !true then true else decide (a < 0) then true else decide (b < 0) then true else decide (a ≥ (↑N : Int)))),(((!bif bif bif !true then true else decide (a < 0) then true else decide (b < 0) then true else decide (a ≥ (↑N : Int))) = true) → (NT 0 1)),(AG (!bif bif bif !true then true else decide (a < 0) then true else decide (b < 0) then true else decide (a ≥ (↑N : Int)))),(AG (!bif bif bif !true then true else decide (a < 0) then true else decide (b < 0) then true else decide (a ≥ (↑N : Int)))),(((bif bif bif !true then true else decide (a < 0) then true else decide (b < 0) then true else decide (a ≥ (↑N : Int))) = false) →  ((!bif bif bif !true then true else decide (a < 0) then true else decide (b < 0) then true else decide (a ≥ (↑N : Int))) = true)),((bif bif bif bif !true then true else decide (a < 0) then true else decide (b < 0) then true else decide (a ≥ (↑N : Int)) then true else decide (b ≥ (↑N : Int))) = false),(NT 0 1),Con Tryz.prog 163 0 [] [(zf78 N nb g), .agg [.p (.int .i64 (if false = true then if b > a then b else a else if b < a then b else a)), .p (.int .i64 (if true = true then if b > a then b else a else if b < a then b else a))]] (zf83 nb' g') (.agg [.p (.int .i64 (↑N : Int)), .ar 2 0 0 nb']),(NT 0 1),((true = true) →  (AN 1)),(((!a == b) = true) → (NT 0 1)),(AG (!a == b)),(((!a == b) = true) →  (AN 2)),(((!a == b) = true) → (NL (nb') (nb'))),(((!a == b) = true) →  Con Tryz.prog 194 0 [] [(zf78 N nb' g')] [] (.p (.int .i64 (↑r1 : Int)))),(((!a == b) = true) → (NT 0 1)),(AG (!a == b)),(((!a == b) = true) →  Con Tryz.prog 194 0 [] [(zf78 N nb g)] [] (.p (.int .i64 (↑r0 : Int)))),(AG (!a == b)),(AG (!a == b)),(((a == b) = false) →  ((!a == b) = true)),((bif a == b then true else (↑r1 : Int) == (↑r0 : Int)) = (bif a == b then true else (↑r1 : Int) == (↑r0 : Int)))] := by kernel_rfl
theorem rRank (g : Nat → T_Bar) (nb N m : Nat) (F T Q : Nat → Int) :
    pathOb Tryz.prog Tryz.f223 0 [rg 1, rm [(2, oc (pebR N m F T Q) (pebO N m 0))] 3] [.code (bodyOf Tryz.f223)] (start Tryz.f223 [] 0 [.p (.int .i64 N), brL g nb]) [] 1 [] (.p (.int .i64 m)) =
    some [Con Tryz.prog 155 0 [] [.p (.int .i64 (↑N : Int)), .p (.seq true 2 nb (fun i => [.int .i64 ((g i).1), .int .i64 ((g i).2.1)])), .p (.int .i64 2), .p (.int .i64 3)] (zf25 N F m T Q) (.agg [.ar 1 0 0 N, .ar 1 1 0 m, .ar 1 2 0 m]),(AI ((↑m : Int)))] := by kernel_rfl
theorem rRaise (g : Nat → T_Bar) (nb N : Nat) (x : T_Bar) (r1 r0 : Nat) :
    pathOb Tryz.prog Tryz.f199 0 [rg 2, rm [(7, oc [] (.p (.int .i64 r1))), (2, oc [] (.p (.int .i64 r0)))] 2] [.code (bodyOf Tryz.f199)] (start Tryz.f199 [] 0 [.p (.int .i64 N), brL g nb, brA x]) [] 1 [] (.p (.bool (decide ((r1 : Int) > (r0 : Int))))) =
    some [(NL 0 0),(NL ((0 + nb) * 16) 140737488355328),(NL (0 + nb) 9223372036854775807),(NT 0 1),(NL 1 1),(NL (0 + nb) (0 + nb)),(NL ((0 + nb + 1) * 16) 140737488355328),(NL (0 + nb + 1) 9223372036854775807),(AN 2),(NL (0 + nb + 1) (0 + nb + 1)),Con Tryz.prog 223 0 [] [.p (.int .i64 (↑N : Int)), .p (.seq true 2 (0 + nb + 1) (fun i => [(cellP true (if (i < 0 + nb) then [.p (.int .i64 ((g i).1)), .p (.int .i64 ((g i).2.1))] else [.p (.int .i64 x.1), .p (.int .i64 x.2.1)]) 0), (cellP true (if (i < 0 + nb) then [.p (.int .i64 ((g i).1)), .p (.int .i64 ((g i).2.1))] else [.p (.int .i64 x.1), .p (.int .i64 x.2.1)]) 1)]))] [] (.p (.int .i64 (↑r1 : Int))),Con Tryz.prog 223 0 [] [.p (.int .i64 (↑N : Int)), .p (.seq true 2 nb (fun i => [.int .i64 ((g i).1), .int .i64 ((g i).2.1)]))] [] (.p (.int .i64 (↑r0 : Int))),((decide ((↑r1 : Int) > (↑r0 : Int))) = (decide ((↑r1 : Int) > (↑r0 : Int))))] := by kernel_rfl
def bL (g : Nat → T_Bar) : Nat → List (Nat × Nat)
  | 0 => []
  | n + 1 => bL g n ++ [brN (g n)]
theorem bL_mem (g : Nat → T_Bar) (y : Nat × Nat) : ∀ n, y ∈ bL g n ↔ ∃ s, s < n ∧ brN (g s) = y
  | 0 => by
    constructor
    · intro h; cases h
    · rintro ⟨s, h, _⟩; exact absurd h (Nat.not_lt_zero _)
  | n + 1 => by
    simp only [bL, List.mem_append, List.mem_singleton, bL_mem g y n]
    constructor
    · rintro (⟨s, h1, h2⟩ | h)
      · exact ⟨s, by omega, h2⟩
      · exact ⟨n, by omega, h.symm⟩
    · rintro ⟨s, h1, h2⟩
      by_cases e : s = n
      · right; rw [← e]; exact h2.symm
      · exact .inl ⟨s, by omega, h2⟩
theorem acc_greedy (N k l : Nat) (g : Nat → T_Bar) : ∀ n, (accI N k l g n).map (fun i => brN (g i)) = Mat.greedy N k l [] (bL g n)
  | 0 => rfl
  | n + 1 => by
    have ih := acc_greedy N k l g n
    simp only [accI, bL, Mat.greedy_append, Mat.greedy]
    rw [← ih]
    split
    · rw [List.map_append]; rfl
    · rfl
theorem acc_len (N k l : Nat) (g : Nat → T_Bar) (n : Nat) : (accI N k l g n).length = (Mat.greedy N k l [] (bL g n)).length := by
  rw [← acc_greedy, List.length_map]
def OkBars (N nb : Nat) (g : Nat → T_Bar) : Prop := ∀ e, e < nb → 0 ≤ (g e).1 ∧ (g e).1 < (g e).2.1 ∧ (g e).2.1 < N
theorem bL_good {N nb : Nat} {g : Nat → T_Bar} (h : OkBars N nb g) : ∀ x ∈ bL g nb, Mat.GoodBar N x := by
  intro x hx
  obtain ⟨s, h1, h2⟩ := (bL_mem g x nb).1 hx
  have := h s h1
  rw [← h2]
  simp only [Mat.GoodBar, brN]
  omega
theorem acc_same {N n n' : Nat} {g g' : Nat → T_Bar} (h : OkBars N n g) (hm : ∀ y, (∃ s, s < n ∧ g s = y) ↔ ∃ s, s < n' ∧ g' s = y) : (accI N 2 3 g n).length = (accI N 2 3 g' n').length := by
  rw [acc_len, acc_len]
  refine Mat.rank_same _ _ (bL_good h) (fun x => ?_)
  rw [bL_mem, bL_mem]
  constructor
  · rintro ⟨s, h1, h2⟩
    obtain ⟨t, h3, h4⟩ := (hm (g s)).1 ⟨s, h1, rfl⟩
    exact ⟨t, h3, by rw [h4, h2]⟩
  · rintro ⟨s, h1, h2⟩
    obtain ⟨t, h3, h4⟩ := (hm (g' s)).2 ⟨s, h1, rfl⟩
    exact ⟨t, h3, by rw [h4, h2]⟩
theorem acc_congr (N k l : Nat) {g g' : Nat → T_Bar} : ∀ n, (∀ i, i < n → g i = g' i) → accI N k l g n = accI N k l g' n
  | 0, _ => rfl
  | n + 1, h => by
    have ih := acc_congr N k l n (fun i hi => h i (by omega))
    have hb : (accI N k l g n).map (fun i => brN (g i)) = (accI N k l g' n).map (fun i => brN (g' i)) := by
      rw [ih]
      refine List.map_congr_left (fun i hi => ?_)
      rw [h i (by
        have : ∀ n, ∀ i ∈ accI N k l g' n, i < n := by
          intro n
          induction n with
          | zero => intro i hi; cases hi
          | succ n ih2 =>
            intro i hi
            simp only [accI] at hi
            split at hi
            · rcases List.mem_append.1 hi with h | h
              · have := ih2 i h; omega
              · rw [List.mem_singleton] at h; omega
            · have := ih2 i hi; omega
        have := this n i hi
        omega)]
    simp only [accI]
    rw [hb, h n (by omega), ih]
theorem acc_mono (N k l : Nat) (g : Nat → T_Bar) (n : Nat) : (accI N k l g n).length ≤ (accI N k l g (n + 1)).length := by
  simp only [accI]
  split
  · simp
  · exact Nat.le_refl _
theorem con_planeRank {N nb : Nat} {g : Nat → T_Bar} (hb : OkBars N nb g) (hN : N ≤ 1048576) (hnb : nb ≤ 1048576) : Con Tryz.prog 223 0 [] [.p (.int .i64 N), brL g nb] [] (.p (.int .i64 ((accI N 2 3 g nb).length : Nat))) := by
  obtain ⟨m, F, T, Q, hc1, hp, hq⟩ := con_play (N := N) (k := 2) (l := 3) hb (by omega) (by omega) hN hnb
  rw [← hq, qL_length]
  refine con_start Tryz.func223 rfl (by kernel_rfl) rfl (fun c hc => ?_)
  refine path_ok mixed Tryz.func223 hc (rRank g nb N m F T Q) ?_
  simp only [All]
  repeat' (first | exact trivial | with_reducible apply And.intro)
  all_goals (first | omega | rfl | (intros; first | assumption | exact trivial | rfl | exact fT ‹_› | ((repeat' (first | assumption | apply anda | apply notf)); done)) | (exact hc1) | (intro i hi; simp [All, aEt]))
theorem ok_snoc {N nb : Nat} {g : Nat → T_Bar} {x : T_Bar} (hb : OkBars N nb g) (hx : 0 ≤ x.1 ∧ x.1 < x.2.1 ∧ x.2.1 < N) : OkBars N (nb + 1) (snoc nb g x) := by
  intro e he
  by_cases h : e < nb
  · rw [snoc_lt h]; exact hb e h
  · rw [snoc_ge h]; exact hx
theorem con_raises {N nb : Nat} {g : Nat → T_Bar} {x : T_Bar} (hb : OkBars N nb g) (hx : 0 ≤ x.1 ∧ x.1 < x.2.1 ∧ x.2.1 < N) (hN : N ≤ 1048576) (hnb : nb ≤ 1000000) :
    Con Tryz.prog 199 0 [] [.p (.int .i64 N), brL g nb, brA x] [] (.p (.bool (decide (((accI N 2 3 (snoc nb g x) (nb + 1)).length : Int) > ((accI N 2 3 g nb).length : Int))))) := by
  have h0 := con_planeRank hb hN (by omega)
  have h1 := con_planeRank (ok_snoc hb hx) hN (by omega)
  refine con_start Tryz.func199 rfl (by kernel_rfl) rfl (fun c hc => ?_)
  refine path_ok mixed Tryz.func199 hc (rRaise g nb N x _ _) ?_
  simp only [All]
  repeat' (first | exact trivial | with_reducible apply And.intro)
  all_goals (first | omega | rfl | (intros; first | assumption | exact trivial | rfl | exact fT ‹_› | ((repeat' (first | assumption | apply anda | apply notf)); done)) | (exact h0) | (refine Con.arg_ext h1 ?_; simp only [brL, wkL, wk, wkP, beq_self_eq_true, Bool.and_self, if_true, ikEq, List.append_nil, List.cons_append, List.nil_append, All]; refine ⟨trivial, by omega, fun i hi => ?_, trivial⟩; simp only [Nat.zero_add]; by_cases h : i < nb <;> simp [h, cellP, tg, tru, snoc]))
noncomputable def impB (N nb : Nat) (g : Nat → T_Bar) (a b : Int) : Bool :=
  bif a == b then true else (((accI N 2 3 (snoc nb g (brX a b)) (nb + 1)).length : Nat) : Int) == (((accI N 2 3 g nb).length : Nat) : Int)
theorem brX_ok {N : Nat} {a b : Int} (ha : 0 ≤ a ∧ a < N) (hb : 0 ≤ b ∧ b < N) (hab : a ≠ b) : 0 ≤ (brX a b).1 ∧ (brX a b).1 < (brX a b).2.1 ∧ (brX a b).2.1 < N := by
  simp only [brX]
  by_cases h : b < a
  · rw [if_pos h, if_neg (by omega)]; omega
  · rw [if_neg h, if_pos (by omega)]; omega
theorem con_IsImplied_s {N nb : Nat} {g : Nat → T_Bar} (hg : isGraphF ((N : Int), (nb, g), ()) = true) (hok : OkBars N nb g) (hN : 1 ≤ N ∧ N ≤ 8) (hnb : nb ≤ 24) {a b : Int} (ha : 0 ≤ a ∧ a < N) (hb : 0 ≤ b ∧ b < N) :
    Con Tryz.prog 150 0 [] [grG g nb N, .p (.int .i64 a), .p (.int .i64 b)] [] (.p (.bool (impB N nb g a b))) := by
  have hsm : smS s_Graph ((N : Int), (nb, g), ()) := ⟨by simp [smS, smL], ⟨by show nb ≤ 1048576; omega, fun i hi => by simp [smS, smL]⟩, True.intro⟩
  have hcg := con_IsGraph_s ((N : Int), (nb, g), ()) hsm
  rw [hg] at hcg
  have hp := con_l2Put g nb N (brX a b) (by omega)
  have hr0 := con_l6Rank hok hN (by omega)
  have hr1 : a ≠ b → Con Tryz.prog 194 0 [] [grG (insR g nb (brX a b)).2 (insR g nb (brX a b)).1 N] [] (.p (.int .i64 ((accI N 2 3 (snoc nb g (brX a b)) (nb + 1)).length : Nat))) := by
    intro hab
    have hx := brX_ok ha hb hab
    have hm : ∀ y, (∃ s, s < (insR g nb (brX a b)).1 ∧ (insR g nb (brX a b)).2 s = y) ↔ ∃ s, s < nb + 1 ∧ snoc nb g (brX a b) s = y := fun y => by rw [insR_mem, snoc_mem]
    have hok' : OkBars N (insR g nb (brX a b)).1 (insR g nb (brX a b)).2 := by
      intro e he
      obtain ⟨s, h1, h2⟩ := (hm _).1 ⟨e, he, rfl⟩
      rw [← h2]
      exact ok_snoc hok hx s h1
    rw [← acc_same hok' hm]
    exact con_l6Rank hok' hN (by rw [insR_n]; omega)
  refine con_start Tryz.func150 rfl (by kernel_rfl) rfl (fun c hc => ?_)
  have hcond : (bif bif bif bif !true then true else decide (a < 0) then true else decide (b < 0) then true else decide (a ≥ (N : Int)) then true else decide (b ≥ (N : Int))) = false := by
    have h1 : ¬ a < 0 := by omega
    have h2 : ¬ b < 0 := by omega
    have h3 : ¬ (N : Int) ≤ a := by omega
    have h4 : ¬ (N : Int) ≤ b := by omega
    simp [h1, h2, h3, h4]
  refine path_ok mixed Tryz.func150 hc (rIs g (insR g nb (brX a b)).2 nb (insR g nb (brX a b)).1 N a b (accI N 2 3 (snoc nb g (brX a b)) (nb + 1)).length (accI N 2 3 g nb).length) ?_
  simp only [All]
  repeat' (first | exact trivial | with_reducible apply And.intro)
  all_goals (first | exact aG _ | omega | rfl | (intros; first | assumption | exact trivial | rfl | exact fT ‹_› | ((repeat' (first | assumption | apply anda | apply notf)); done)) | (exact hcg) | (exact hcond) | (exact hp) | (intro h; exact hr1 (by simpa using h)) | (intros; exact hr0) | (simp; done))
theorem goodB_in (N : Int) (g : Nat → T_Bar) : ∀ n, goodB N g n = true → ∀ e, e < n → badB N g e = false
  | 0, _, e, he => by omega
  | n + 1, h, e, he => by
    simp only [goodB, Bool.and_eq_true, Bool.not_eq_true'] at h
    by_cases h' : e = n
    · subst h'; exact h.2
    · exact goodB_in N g n h.1 e (by omega)
theorem graph_in {N nb : Nat} {g : Nat → T_Bar} (h : isGraphF ((N : Int), (nb, g), ()) = true) : (1 ≤ N ∧ N ≤ 8) ∧ nb ≤ 24 ∧ OkBars N nb g := by
  unfold isGraphF at h
  split at h
  case isFalse => cases h
  rename_i hc
  obtain ⟨h1, h2⟩ := hc
  simp only [inB, Bool.and_eq_true, decide_eq_true_eq] at h1
  refine ⟨by omega, h2, fun e he => ?_⟩
  have hb := goodB_in (N : Int) g nb h e he
  unfold badB at hb
  by_cases a1 : (g e).1 < 0
  · simp [a1] at hb
  by_cases a2 : (g e).1 ≥ (g e).2.1
  · simp [a2] at hb
  by_cases a3 : (g e).2.1 ≥ (N : Int)
  · simp [a3] at hb
  omega
theorem graph_cases (v : T_Graph) (h : isGraphF v = true) : ∃ (N nb : Nat) (g : Nat → T_Bar), v = ((N : Int), (nb, g), ()) := by
  obtain ⟨v1, ⟨nb, g⟩, ⟨⟩⟩ := v
  have h1 : 0 ≤ v1 := by
    unfold isGraphF at h
    split at h
    · rename_i hc
      have := hc.1
      simp [inB] at this
      omega
    · cases h
  exact ⟨v1.toNat, nb, g, by rw [Int.toNat_of_nonneg h1]⟩
end Go.Proofs.YtffnfeefjdmifaaGreat.Mach
namespace Go.Proofs.YtffnfeefjdmifaaGreat.Mach
open Go
set_option linter.unusedVariables false
set_option linter.unusedSimpArgs false
theorem aft_or (a b : T_Bar) : aft a b = true ↔ a.1 < b.1 ∨ (a.1 = b.1 ∧ a.2.1 ≤ b.2.1) := by
  unfold aft
  by_cases h1 : a.1 < b.1
  · simp [h1]
  · by_cases h2 : a.1 = b.1
    · simp [h2]
    · have : (a.1 == b.1) = false := beq_eq_false_iff_ne.2 h2
      simp [h1, h2]
def AscB (n : Nat) (h : Nat → T_Bar) : Prop := ∀ s, s + 1 < n → aft (h s) (h (s + 1)) = true
theorem isG_of {N nb : Nat} {g : Nat → T_Bar} (hN : 1 ≤ N ∧ N ≤ 8) (hnb : nb ≤ 24) (hok : OkBars N nb g) (ha : AscB nb g) : isGraphF ((N : Int), (nb, g), ()) = true := by
  have hgood : ∀ k, k ≤ nb → goodB (N : Int) g k = true := by
    intro k
    induction k with
    | zero => intro _; rfl
    | succ k ih =>
      intro hk
      rw [goodB, ih (by omega), Bool.true_and, Bool.not_eq_true']
      have hb := hok k (by omega)
      have a1 : decide ((g k).1 < 0) = false := decide_eq_false (by omega)
      have a2 : decide ((g k).1 ≥ (g k).2.1) = false := decide_eq_false (by omega)
      have a3 : decide ((g k).2.1 ≥ (N : Int)) = false := decide_eq_false (by omega)
      unfold badB
      rw [a1, a2, a3]
      simp only [cond_false]
      by_cases h0 : k = 0
      · subst h0; rfl
      · have := ha (k - 1) (by omega)
        rw [show k - 1 + 1 = k by omega] at this
        rw [show ((k : Int) - 1).toNat = k - 1 by omega, this]
        cases decide ((k : Int) > 0) <;> rfl
  have hin : inB (N : Int) 1 8 = true := by simp [inB]; omega
  rw [isGraphF, if_pos ⟨hin, hnb⟩]
  exact hgood nb (Nat.le_refl _)
theorem bad_parts {N : Int} {g : Nat → T_Bar} {k : Nat} (h : badB N g k = false) : 0 ≤ (g k).1 ∧ (g k).1 < (g k).2.1 ∧ (g k).2.1 < N ∧ (0 < k → aft (g (k - 1)) (g k) = true) := by
  unfold badB at h
  by_cases h1 : (g k).1 < 0
  · rw [decide_eq_true h1] at h; cases h
  by_cases h2 : (g k).1 ≥ (g k).2.1
  · rw [decide_eq_false h1, decide_eq_true h2] at h; cases h
  by_cases h3 : (g k).2.1 ≥ N
  · rw [decide_eq_false h1, decide_eq_false h2, decide_eq_true h3] at h; cases h
  rw [decide_eq_false h1, decide_eq_false h2, decide_eq_false h3] at h
  refine ⟨by omega, by omega, by omega, fun hk => ?_⟩
  rw [decide_eq_true (show (k : Int) > 0 by omega)] at h
  rw [show ((k : Int) - 1).toNat = k - 1 by omega] at h
  simpa using h
theorem asc_of {N nb : Nat} {g : Nat → T_Bar} (hg : isGraphF ((N : Int), (nb, g), ()) = true) : AscB nb g := by
  have h := (graph_inR hg).2.2.2
  intro s hs
  have := (bad_parts (goodB_in (N : Int) g nb h (s + 1) hs)).2.2.2 (by omega)
  rwa [show s + 1 - 1 = s by omega] at this
theorem aft_trans {a b c : T_Bar} (h1 : aft a b = true) (h2 : aft b c = true) : aft a c = true := by
  rw [aft_or] at *
  omega
theorem asc_steps {n : Nat} {g : Nat → T_Bar} (h : AscB n g) : ∀ d i, i + (d + 1) < n → aft (g i) (g (i + (d + 1))) = true
  | 0, i, hi => h i hi
  | d + 1, i, hi => aft_trans (asc_steps h d i (by omega)) (h (i + (d + 1)) (by omega))
theorem asc_lt {n : Nat} {g : Nat → T_Bar} (h : AscB n g) {i j : Nat} (hij : i < j) (hj : j < n) : aft (g i) (g j) = true := by
  have := asc_steps h (j - i - 1) i (by omega)
  rwa [show i + (j - i - 1 + 1) = j by omega] at this
end Go.Proofs.YtffnfeefjdmifaaGreat.Mach
namespace Go.Proofs.YtffnfeefjdmifaaGreat.Mach
open Go
set_option linter.unusedVariables false
set_option linter.unusedSimpArgs false
def rSt (s : Nat → Bool) (a b : Nat) : Nat → Bool := fun v => if v = a ∨ v = b then s a || s b else s v
def rRd (g : Nat → T_Bar) (s : Nat → Bool) : Nat → Nat → Bool
  | 0 => s
  | k + 1 => rSt (rRd g s k) (g k).1.toNat (g k).2.1.toNat
def rAg (g : Nat → T_Bar) (s : Nat → Bool) : Nat → Bool
  | 0 => false
  | k + 1 => rAg g s k || (rRd g s k (g k).1.toNat != rRd g s k (g k).2.1.toNat)
def rIt (g : Nat → T_Bar) (nb : Nat) (s : Nat → Bool) : Nat → Nat → Bool
  | 0 => s
  | n + 1 => rRd g (rIt g nb s n) nb
theorem rSt_same {s : Nat → Bool} {a b : Nat} (h : (s a != s b) = false) : rSt s a b = s := by
  have h : s a = s b := by simpa using h
  funext v
  unfold rSt
  split
  · rename_i hv
    rcases hv with rfl | rfl
    · rw [← h, Bool.or_self]
    · rw [h, Bool.or_self]
  · rfl
theorem rSt_mono {s : Nat → Bool} {a b v : Nat} (h : s v = true) : rSt s a b v = true := by
  unfold rSt
  split
  · rename_i hv
    rcases hv with rfl | rfl
    · rw [h, Bool.true_or]
    · rw [h, Bool.or_true]
  · exact h
theorem rSt_on {s : Nat → Bool} {a b : Nat} (h : (s a || s b) = true) : rSt s a b = fun v => if v = b then true else if v = a then true else s v := by
  funext v
  unfold rSt
  by_cases h1 : v = b
  · rw [if_pos (.inr h1), if_pos h1, h]
  · by_cases h2 : v = a
    · rw [if_pos (.inl h2), if_neg h1, if_pos h2, h]
    · rw [if_neg (by rintro (h | h) <;> contradiction), if_neg h1, if_neg h2]
theorem rSt_off {s : Nat → Bool} {a b : Nat} (h : (s a || s b) = false) : rSt s a b = s := by
  simp only [Bool.or_eq_false_iff] at h
  exact rSt_same (by rw [h.1, h.2]; rfl)
theorem rRd_mono (g : Nat → T_Bar) (s : Nat → Bool) (v : Nat) (h : s v = true) : ∀ k, rRd g s k v = true
  | 0 => h
  | k + 1 => rSt_mono (rRd_mono g s v h k)
theorem rRd_same (g : Nat → T_Bar) (s : Nat → Bool) : ∀ k, rAg g s k = false → rRd g s k = s
  | 0, _ => rfl
  | k + 1, h => by
    simp only [rAg, Bool.or_eq_false_iff] at h
    show rSt (rRd g s k) _ _ = s
    rw [rSt_same h.2, rRd_same g s k h.1]
def cnT (s : Nat → Bool) : Nat → Nat
  | 0 => 0
  | n + 1 => cnT s n + (if s n then 1 else 0)
theorem cnT_le (s : Nat → Bool) : ∀ n, cnT s n ≤ n
  | 0 => Nat.le_refl _
  | n + 1 => by have := cnT_le s n; simp only [cnT]; split <;> omega
theorem cnT_mono {s t : Nat → Bool} (h : ∀ v, s v = true → t v = true) : ∀ n, cnT s n ≤ cnT t n
  | 0 => Nat.le_refl _
  | n + 1 => by
    have := cnT_mono h n
    simp only [cnT]
    by_cases hs : s n = true
    · rw [if_pos hs, if_pos (h n hs)]; omega
    · rw [if_neg hs]; omega
theorem cnT_lt {s t : Nat → Bool} (h : ∀ v, s v = true → t v = true) {v : Nat} (h1 : s v = false) (h2 : t v = true) : ∀ n, v < n → cnT s n < cnT t n
  | 0, hv => absurd hv (Nat.not_lt_zero _)
  | n + 1, hv => by
    have hm := cnT_mono h n
    simp only [cnT]
    by_cases hn : v = n
    · subst hn
      simp only [h1, h2]
      simp; omega
    · have := cnT_lt h h1 h2 n (by omega)
      by_cases hs : s n = true
      · rw [if_pos hs, if_pos (h n hs)]; omega
      · rw [if_neg hs]; omega
theorem rAg_grow {g : Nat → T_Bar} {N : Nat} (s : Nat → Bool) : ∀ k, (∀ i, i < k → (g i).1.toNat < N ∧ (g i).2.1.toNat < N) → rAg g s k = true → cnT s N < cnT (rRd g s k) N
  | 0, _, h => by cases h
  | k + 1, hg, h => by
    simp only [rAg] at h
    have hk := hg k (Nat.lt_succ_self k)
    have hm : ∀ v, rRd g s k v = true → rRd g s (k + 1) v = true := fun v hv => rSt_mono hv
    by_cases h1 : rAg g s k = true
    · exact Nat.lt_of_lt_of_le (rAg_grow s k (fun i hi => hg i (by omega)) h1) (cnT_mono hm N)
    · have h1 : rAg g s k = false := by simpa using h1
      rw [h1, Bool.false_or] at h
      have e := rRd_same g s k h1
      rw [e] at h
      have hs : ∀ v, s v = true → rRd g s (k + 1) v = true := fun v hv => rRd_mono g s v hv (k + 1)
      have e2 : rRd g s (k + 1) = rSt s (g k).1.toNat (g k).2.1.toNat := by show rSt (rRd g s k) _ _ = _; rw [e]
      cases ha : s (g k).1.toNat
      · have hb : s (g k).2.1.toNat = true := by rw [ha] at h; simpa using h
        exact cnT_lt hs ha (by rw [e2]; unfold rSt; rw [if_pos (.inl rfl), ha, hb]; rfl) N hk.1
      · have hb : s (g k).2.1.toNat = false := by rw [ha] at h; simpa using h
        exact cnT_lt hs hb (by rw [e2]; unfold rSt; rw [if_pos (.inr rfl), ha, hb]; rfl) N hk.2
theorem rIt_fix {g : Nat → T_Bar} {nb : Nat} {s : Nat → Bool} {j : Nat} (h : rAg g (rIt g nb s j) nb = false) : ∀ d, rIt g nb s (j + d) = rIt g nb s j
  | 0 => rfl
  | d + 1 => by
    show rRd g (rIt g nb s (j + d)) nb = _
    rw [rIt_fix h d, rRd_same g _ nb h]
theorem rIt_cnt {g : Nat → T_Bar} {nb N : Nat} {s : Nat → Bool} (hg : ∀ i, i < nb → (g i).1.toNat < N ∧ (g i).2.1.toNat < N) (h0 : 1 ≤ cnT s N) :
    ∀ j, (∀ i, i < j → rAg g (rIt g nb s i) nb = true) → j + 1 ≤ cnT (rIt g nb s j) N
  | 0, _ => by simp only [rIt]; omega
  | j + 1, h => by
    have := rIt_cnt hg h0 j (fun i hi => h i (by omega))
    have h2 := rAg_grow (N := N) (rIt g nb s j) nb hg (h j (by omega))
    show j + 1 + 1 ≤ cnT (rRd g (rIt g nb s j) nb) N
    omega
theorem rIt_end {g : Nat → T_Bar} {nb N : Nat} {s : Nat → Bool} (hg : ∀ i, i < nb → (g i).1.toNat < N ∧ (g i).2.1.toNat < N) (h0 : 1 ≤ cnT s N) {j : Nat}
    (hj : ∀ i, i < j → rAg g (rIt g nb s i) nb = true) (h : rAg g (rIt g nb s j) nb = false) : rIt g nb s (j + 1) = rIt g nb s N := by
  have h1 := rIt_cnt hg h0 j hj
  have h2 := cnT_le (rIt g nb s j) N
  have e := rIt_fix h (N - j)
  rw [show j + (N - j) = N from by omega] at e
  rw [e, rIt_fix h 1]
theorem cnT_one {N v : Nat} (h : v < N) : 1 ≤ cnT (fun u => decide (u = v)) N := by
  have : ∀ n, v < n → 1 ≤ cnT (fun u => decide (u = v)) n := by
    intro n
    induction n with
    | zero => intro h; omega
    | succ n ih =>
      intro h
      simp only [cnT]
      by_cases hv : v = n
      · subst hv; simp
      · have := ih (by omega); omega
  exact this N h
end Go.Proofs.YtffnfeefjdmifaaGreat.Mach
namespace Go.Proofs.YtffnfeefjdmifaaGreat.Mach
open Go
set_option linter.unusedVariables false
set_option linter.unusedSimpArgs false
def sameB (a b : T_Bar) : Bool := bif a.1 == b.1 then a.2.1 == b.2.1 else false
def dbF (g : Nat → T_Bar) : Nat → Bool
  | 0 => false
  | k + 1 => bif dbF g k then true else bif decide (0 < k) then sameB (g (k - 1)) (g k) else false
theorem dbF_ne {g : Nat → T_Bar} : ∀ n, dbF g n = false → ∀ i, i + 1 < n → sameB (g i) (g (i + 1)) = false
  | 0, _, i, hi => absurd hi (Nat.not_lt_zero _)
  | n + 1, h, i, hi => by
    simp only [dbF] at h
    cases h1 : dbF g n with
    | true => rw [h1] at h; cases h
    | false =>
      by_cases hn : i + 1 < n
      · exact dbF_ne n h1 i hn
      · obtain rfl : n = i + 1 := by omega
        rw [h1, decide_eq_true (show 0 < i + 1 by omega)] at h
        exact h
def LtB (a b : T_Bar) : Prop := a.1 < b.1 ∨ a.1 = b.1 ∧ a.2.1 < b.2.1
theorem aft_ne {a b : T_Bar} (h : aft a b = true) (hn : sameB a b = false) : LtB a b := by
  unfold aft at h
  unfold sameB at hn
  unfold LtB
  by_cases h1 : a.1 < b.1
  · exact .inl h1
  · rw [decide_eq_false h1] at h
    by_cases h2 : a.1 = b.1
    · have e : (a.1 == b.1) = true := beq_iff_eq.2 h2
      rw [e] at h hn
      have h3 : a.2.1 ≤ b.2.1 := of_decide_eq_true h
      have h4 : ¬ a.2.1 = b.2.1 := beq_eq_false_iff_ne.1 hn
      right; omega
    · have e : (a.1 == b.1) = false := beq_eq_false_iff_ne.2 h2
      rw [e] at h; cases h
theorem lt_steps {g : Nat → T_Bar} {n : Nat} (h : ∀ i, i + 1 < n → LtB (g i) (g (i + 1))) : ∀ d i, i + (d + 1) < n → LtB (g i) (g (i + (d + 1)))
  | 0, i, hi => h i hi
  | d + 1, i, hi => by
    have h1 := lt_steps h d i (by omega)
    have h2 := h (i + (d + 1)) (by omega)
    unfold LtB at h1 h2 ⊢
    rw [show i + (d + 1 + 1) = i + (d + 1) + 1 by omega]
    omega
theorem hit_eq {x : T_Bar} {a b : Int} (hx : x.1 < x.2.1) (hab : a < b) : hitB x a b = true ↔ x.1 = a ∧ x.2.1 = b := by
  unfold hitB
  by_cases h1 : x.1 = a
  · have e1 : (x.1 == a) = true := beq_iff_eq.2 h1
    by_cases h2 : x.2.1 = b
    · have e2 : (x.2.1 == b) = true := beq_iff_eq.2 h2
      simp [e1, e2, h1, h2]
    · have e2 : (x.2.1 == b) = false := beq_eq_false_iff_ne.2 h2
      have e3 : (x.1 == b) = false := beq_eq_false_iff_ne.2 (by omega)
      simp [e1, e2, e3, h2]
  · have e1 : (x.1 == a) = false := beq_eq_false_iff_ne.2 h1
    by_cases h3 : x.1 = b
    · have e3 : (x.1 == b) = true := beq_iff_eq.2 h3
      have e4 : (x.2.1 == a) = false := beq_eq_false_iff_ne.2 (by omega)
      simp [e1, e3, e4, h1]
    · have e3 : (x.1 == b) = false := beq_eq_false_iff_ne.2 h3
      simp [e1, e3, h1]
theorem cbN_none {g : Nat → T_Bar} {a b : Int} : ∀ k, (∀ i, i < k → ¬ (hitB (g i) a b = true)) → cbN g a b k = 0
  | 0, _ => rfl
  | k + 1, h => by
    simp only [cbN]
    rw [if_neg (h k (by omega)), cbN_none k (fun i hi => h i (by omega))]
theorem cbN_one {g : Nat → T_Bar} {a b : Int} (hab : a < b) {n : Nat} (hlt : ∀ i, i < n → (g i).1 < (g i).2.1) (hs : ∀ i, i + 1 < n → LtB (g i) (g (i + 1))) : ∀ k, k ≤ n → cbN g a b k ≤ 1
  | 0, _ => Nat.zero_le _
  | k + 1, hk => by
    simp only [cbN]
    split
    · rename_i hh
      have h1 := (hit_eq (hlt k (by omega)) hab).1 hh
      rw [cbN_none k (fun i hi h2 => ?_)]
      · exact Nat.le_refl _
      · have h3 := (hit_eq (hlt i (by omega)) hab).1 h2
        have h4 := lt_steps hs (k - i - 1) i (by omega)
        rw [show i + (k - i - 1 + 1) = k by omega] at h4
        unfold LtB at h4
        omega
    · exact cbN_one hab hlt hs k (by omega)
theorem cbN_sum {g : Nat → T_Bar} {n : Nat} (hb : ∀ i, i < n → 0 ≤ (g i).1 ∧ (g i).1 < (g i).2.1 ∧ (g i).2.1 < 3) : ∀ k, k ≤ n → cbN g 0 1 k + cbN g 0 2 k + cbN g 1 2 k = k
  | 0, _ => rfl
  | k + 1, hk => by
    have ih := cbN_sum hb k (by omega)
    have h := hb k (by omega)
    have h01 := hit_eq (x := g k) (a := 0) (b := 1) h.2.1 (by omega)
    have h02 := hit_eq (x := g k) (a := 0) (b := 2) h.2.1 (by omega)
    have h12 := hit_eq (x := g k) (a := 1) (b := 2) h.2.1 (by omega)
    simp only [cbN]
    have hc : (g k).1 = 0 ∧ (g k).2.1 = 1 ∨ (g k).1 = 0 ∧ (g k).2.1 = 2 ∨ (g k).1 = 1 ∧ (g k).2.1 = 2 := by omega
    rcases hc with hc | hc | hc
    · rw [if_pos (h01.2 hc), if_neg (fun h => by have := h02.1 h; omega), if_neg (fun h => by have := h12.1 h; omega)]; omega
    · rw [if_neg (fun h => by have := h01.1 h; omega), if_pos (h02.2 hc), if_neg (fun h => by have := h12.1 h; omega)]; omega
    · rw [if_neg (fun h => by have := h01.1 h; omega), if_neg (fun h => by have := h02.1 h; omega), if_pos (h12.2 hc)]; omega
theorem missing_few {N nb : Nat} {g : Nat → T_Bar} (hg : isGraphF ((N : Int), (nb, g), ()) = true) (hd : dbF g nb = false) (h3 : N ≤ 3) :
    decide ((((msP ((N : Int), (nb, g), ())).1 : Nat) : Int) > 0) = decide ((nb : Int) < ((N * (N - 1) / 2 : Nat) : Int)) := by
  have hgi := graph_inR hg
  have h1 : 1 ≤ N := by have := hgi.1; simp only at this; omega
  have hbad : ∀ i, i < nb → badB (N : Int) g i = false := goodB_in (N : Int) g nb hgi.2.2.2
  have hb : ∀ i, i < nb → 0 ≤ (g i).1 ∧ (g i).1 < (g i).2.1 ∧ (g i).2.1 < (N : Int) := fun i hi => by have := bad_parts (hbad i hi); exact ⟨this.1, this.2.1, this.2.2.1⟩
  have hs : ∀ i, i + 1 < nb → LtB (g i) (g (i + 1)) := fun i hi => aft_ne ((bad_parts (hbad (i + 1) hi)).2.2.2 (by omega)) (dbF_ne nb hd i hi)
  have hlt : ∀ i, i < nb → (g i).1 < (g i).2.1 := fun i hi => (hb i hi).2.1
  have hsum := cbN_sum (g := g) (n := nb) (fun i hi => by have := hb i hi; omega) nb (Nat.le_refl _)
  have c01 := cbN_one (a := 0) (b := 1) (by omega) hlt hs nb (Nat.le_refl _)
  have c02 := cbN_one (a := 0) (b := 2) (by omega) hlt hs nb (Nat.le_refl _)
  have c12 := cbN_one (a := 1) (b := 2) (by omega) hlt hs nb (Nat.le_refl _)
  have z02 : N ≤ 2 → cbN g 0 2 nb = 0 := fun h => cbN_none nb (fun i hi hh => by have := (hit_eq (hlt i hi) (by omega)).1 hh; have := hb i hi; omega)
  have z12 : N ≤ 2 → cbN g 1 2 nb = 0 := fun h => cbN_none nb (fun i hi hh => by have := (hit_eq (hlt i hi) (by omega)).1 hh; have := hb i hi; omega)
  have z01 : N ≤ 1 → cbN g 0 1 nb = 0 := fun h => cbN_none nb (fun i hi hh => by have := (hit_eq (hlt i hi) (by omega)).1 hh; have := hb i hi; omega)
  rw [show msP ((N : Int), (nb, g), ()) = msO ((N : Int), (nb, g), ()) N by simp [msP, hg]]
  have hN : N = 1 ∨ N = 2 ∨ N = 3 := by omega
  rw [decide_eq_decide]
  rcases hN with rfl | rfl | rfl
  · have := z01 (by omega); have := z02 (by omega); have := z12 (by omega)
    simp [msO, msI, zNB]
    all_goals (try omega)
  · have := z02 (by omega); have := z12 (by omega)
    simp [msO, msI, zNB, sn]
    split <;> simp_all <;> (try omega)
  · simp [msO, msI, zNB, sn]
    split <;> split <;> split <;> simp_all <;> (try omega)
end Go.Proofs.YtffnfeefjdmifaaGreat.Mach
namespace Go.Proofs.YtffnfeefjdmifaaGreat.Mach
open Go
set_option linter.unusedVariables false
set_option linter.unusedSimpArgs false
theorem rBar (a b : Int) :
    pathOb Tryz.prog Tryz.f167 0 [rg 1, rg 8] [.code (bodyOf Tryz.f167)] (start Tryz.f167 [] 0 [.p (.int .i64 a), .p (.int .i64 b)]) [] 1 [] ((zf82 b a)) =
    some [(NT 0 1),((true = true) →  (AN 1)),(NT 0 1),(((if false = true then if b > a then b else a else if b < a then b else a) : Int) = (if b < a then b else a)),(((if true = true then if b > a then b else a else if b < a then b else a) : Int) = (if b > a then b else a))] := by kernel_rfl
theorem rHas (g : Nat → T_Bar) (nb N : Nat) (p : Int) :
    pathOb Tryz.prog Tryz.f143 0 [rg 2, rm [(4, oc [] (.p (.bool (inB p 0 ((N : Int) - 1)))))] 1] [.code (bodyOf Tryz.f143)] (start Tryz.f143 [] 0 [grG g nb N, .p (.int .i64 p)]) [] 1 [] (.p (.bool (inB p 0 ((N : Int) - 1)))) =
    some [(NT 0 1),(R0 ((↑N : Int) - 1)),(R1 ((↑N : Int) - 1)),Con Tryz.prog 104 0 [] [.p (.int .i64 p), .p (.int .i64 0), .p (.int .i64 ((↑N : Int) - 1))] [] (.p (.bool (inB p 0 ((↑N : Int) - 1)))),((inB p 0 ((↑N : Int) - 1)) = (inB p 0 ((↑N : Int) - 1)))] := by kernel_rfl
theorem rIi (g : Nat → T_Bar) (nb N : Nat) (a b : Int) (r : Bool) :
    pathOb Tryz.prog Tryz.f156 0 [rg 2, rm [(1, oc [] (.p (.bool true))), (3, oc [] (.p (.bool true))), (4, oc [] (.p (.bool true))), (12, oc [] (zf82 b a)), (0, oc [] (.p (.bool r)))] 4] [.code (bodyOf Tryz.f156)] (start Tryz.f156 [] 0 [grG g nb N, .p (.int .i64 a), .p (.int .i64 b)]) [] 1 [] (.p (.bool (bif a == b then true else !r))) =
    some [(NT 0 1),Con Tryz.prog 35 0 [] [(zf78 N nb g)] [] (.p (.bool true)),((true = true) → (NT 0 1)),(AG true),(AG true),((true = true) →  Con Tryz.prog 143 0 [] [(zf78 N nb g), .p (.int .i64 a)] [] (.p (.bool true))),(AG true),(((bif true then true else false) = true) → (NT 0 1)),(AG (bif true then true else false)),(AG (bif true then true else false)),(((bif true then true else false) = true) →  Con Tryz.prog 143 0 [] [(zf78 N nb g), .p (.int .i64 b)] [] (.p (.bool true))),(AG (bif true then true else false)),(AG (bif bif true then true else false then true else false)),(AG (bif bif true then true else false then true else false)),(AG (bif bif true then true else false then true else false)),(AG ((bif bif true then true else false then true else false) && !a == b)),((((bif bif true then true else false then true else false) && !a == b) = true) → (NT 0 1)),(AG ((bif bif true then true else false then true else false) && !a == b)),((((bif bif true then true else false then true else false) && !a == b) = true) → (NT 0 1)),(AG ((bif bif true then true else false then true else false) && !a == b)),(AG ((bif bif true then true else false then true else false) && !a == b)),((((bif bif true then true else false then true else false) && !a == b) = true) →  Con Tryz.prog 167 0 [] [.p (.int .i64 a), .p (.int .i64 b)] [] ((zf82 b a))),(AG ((bif bif true then true else false then true else false) && !a == b)),(AG ((bif bif true then true else false then true else false) && !a == b)),(AG ((bif bif true then true else false then true else false) && !a == b)),((((bif bif true then true else false then true else false) && !a == b) = true) →  Con Tryz.prog 199 0 [] [.p (.int .i64 (↑N : Int)), .p (.seq true 2 nb (fun i => [.int .i64 ((g i).1), .int .i64 ((g i).2.1)])), (zf82 b a)] [] (.p (.bool r))),(AG ((bif bif true then true else false then true else false) && !a == b)),(AG (bif bif true then true else false then true else false)),(((bif bif true then true else false then true else false) = true) → (((a == b) = false) →  (((bif bif true then true else false then true else false) && !a == b) = true))),(AG (bif bif true then true else false then true else false)),((bif bif bif true then true else false then true else false then bif a == b then true else !r else false) = (bif a == b then true else !r))] := by kernel_rfl
end Go.Proofs.YtffnfeefjdmifaaGreat.Mach
namespace Go.Proofs.YtffnfeefjdmifaaGreat.Mach
open Go
set_option linter.unusedVariables false
set_option linter.unusedSimpArgs false
theorem con_bar (a b : Int) : Con Tryz.prog 167 0 [] [.p (.int .i64 a), .p (.int .i64 b)] [] (brA (brX a b)) := by
  refine con_start Tryz.func167 rfl (by kernel_rfl) rfl (fun c hc => ?_)
  refine path_ok mixed Tryz.func167 hc (rBar a b) ?_
  simp only [All]
  repeat' (first | exact trivial | with_reducible apply And.intro)
  all_goals (first | omega | rfl | (intros; first | assumption | exact trivial | rfl | exact fT ‹_› | ((repeat' (first | assumption | apply anda | apply notf)); done)) | simp)
theorem con_has {N nb : Nat} {g : Nat → T_Bar} (hN : 1 ≤ N ∧ N ≤ 8) {p : Int} (hp : 0 ≤ p ∧ p < N) : Con Tryz.prog 143 0 [] [grG g nb N, .p (.int .i64 p)] [] (.p (.bool true)) := by
  have hw := con_within p 0 ((N : Int) - 1)
  have ht : inB p 0 ((N : Int) - 1) = true := by simp [inB]; omega
  rw [show (true : Bool) = inB p 0 ((N : Int) - 1) from ht.symm]
  refine con_start Tryz.func143 rfl (by kernel_rfl) rfl (fun c hc => ?_)
  refine path_ok mixed Tryz.func143 hc (rHas g nb N p) ?_
  simp only [All]
  repeat' (first | exact trivial | with_reducible apply And.intro)
  all_goals (first | omega | rfl | (intros; first | assumption | exact trivial | rfl | exact fT ‹_› | ((repeat' (first | assumption | apply anda | apply notf)); done)) | (exact hw))
theorem con_IsImplied_i {N nb : Nat} {g : Nat → T_Bar} (hg : isGraphF ((N : Int), (nb, g), ()) = true) (hok : OkBars N nb g) (hN : 1 ≤ N ∧ N ≤ 8) (hnb : nb ≤ 24) {a b : Int} (ha : 0 ≤ a ∧ a < N) (hb : 0 ≤ b ∧ b < N) :
    Con Tryz.prog 156 0 [] [grG g nb N, .p (.int .i64 a), .p (.int .i64 b)] [] (.p (.bool (impB N nb g a b))) := by
  have hsm : smS s_Graph ((N : Int), (nb, g), ()) := ⟨by simp [smS, smL], ⟨by show nb ≤ 1048576; omega, fun i hi => by simp [smS, smL]⟩, True.intro⟩
  have hcg := con_IsGraph_i ((N : Int), (nb, g), ()) hsm
  rw [hg] at hcg
  have h1 := con_has (g := g) (nb := nb) hN ha
  have h2 := con_has (g := g) (nb := nb) hN hb
  have h3 := con_bar a b
  have h4 : a ≠ b → Con Tryz.prog 199 0 [] [.p (.int .i64 N), brL g nb, brA (brX a b)] [] (.p (.bool (decide (((accI N 2 3 (snoc nb g (brX a b)) (nb + 1)).length : Int) > ((accI N 2 3 g nb).length : Int))))) :=
    fun hab => con_raises hok (brX_ok ha hb hab) (by omega) (by omega)
  have hmono : (accI N 2 3 g nb).length ≤ (accI N 2 3 (snoc nb g (brX a b)) (nb + 1)).length := by
    have e := acc_congr N 2 3 (g := g) (g' := snoc nb g (brX a b)) nb (fun i hi => (snoc_lt hi).symm)
    rw [e]
    exact acc_mono N 2 3 _ nb
  have he : impB N nb g a b = (bif a == b then true else !decide (((accI N 2 3 (snoc nb g (brX a b)) (nb + 1)).length : Int) > ((accI N 2 3 g nb).length : Int))) := by
    unfold impB
    cases a == b with
    | true => rfl
    | false =>
      simp only [cond_false]
      by_cases h : (accI N 2 3 (snoc nb g (brX a b)) (nb + 1)).length = (accI N 2 3 g nb).length
      · rw [h]; simp
      · have h' : ¬ (((accI N 2 3 (snoc nb g (brX a b)) (nb + 1)).length : Nat) : Int) = (((accI N 2 3 g nb).length : Nat) : Int) := by omega
        have h'' : (((accI N 2 3 (snoc nb g (brX a b)) (nb + 1)).length : Nat) : Int) > (((accI N 2 3 g nb).length : Nat) : Int) := by omega
        rw [decide_eq_true h'']
        simpa using h'
  rw [he]
  refine con_start Tryz.func156 rfl (by kernel_rfl) rfl (fun c hc => ?_)
  refine path_ok mixed Tryz.func156 hc (rIi g nb N a b _) ?_
  simp only [All]
  repeat' (first | exact trivial | with_reducible apply And.intro)
  all_goals (first | exact aG _ | omega | rfl | (intros; first | assumption | exact trivial | rfl | exact fT ‹_› | ((repeat' (first | assumption | apply anda | apply notf)); done)) | (exact hcg) | (intros; exact h1) | (intros; exact h2) | (intros; exact h3) | (intro h; exact h4 (by simpa using h)) | (intro _ h; simpa using h) | (simp; done))
end Go.Proofs.YtffnfeefjdmifaaGreat.Mach
