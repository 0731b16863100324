/- What the law Gl needs, part 4 of 5: the abstract machine and the contracts of the functions. Conditions: as each theorem says. -/
import Derived.Test.YtffnfeefjdmifaaGreatGlP3
namespace Go.Proofs.YtffnfeefjdmifaaGreat.Mach
open Go
set_option linter.unusedVariables false
set_option linter.unusedSimpArgs false
def ST0 (N m : Nat) (F T Q : Nat → Int) (x : Int) (i : Nat) : St :=
  ⟨[pebD N m F T Q, .p (.int .i64 x), .pt 3 0 0 0, .p .any, .p .any, .p (.int .i64 (tcI T i x)), .p (.int .i64 i)] ++ List.replicate 17 anyA, [(0, bxD N m F T Q)], 1⟩
def SI0 (g : Nat → T_Bar) (nb N k m : Nat) (F T Q : Nat → Int) (i : Nat) : St :=
  ⟨[grG g nb N, .p (.int .i64 k), pebD N m F T Q, .pt 2 0 0 0, .p .any, .pt 3 1 0 0, .p .any, .p (.int .i64 i)] ++ List.replicate 115 anyA, [(0, bxG g nb N), (1, bxD N m F T Q)], 2⟩
def SI1 (g : Nat → T_Bar) (nb N k m : Nat) (F T Q : Nat → Int) (i : Nat) : St :=
  ⟨[grG g nb N, .p (.int .i64 k), pebD N m F T Q, .pt 2 0 0 0, .p .any, .pt 3 1 0 0, .p .any, .p .any, .p .any, .p (.int .i64 i)] ++ List.replicate 113 anyA, [(0, bxG g nb N), (1, bxD N m F T Q)], 2⟩
def SRu (g : Nat → T_Bar) (nb N k l m : Nat) (F T Q : Nat → Int) (i : Nat) : St :=
  ⟨[grG g nb N, .p (.int .i64 k), .p (.int .i64 l), .pt 2 0 0 0, .p .any, .p .any, .pt 3 1 0 0, .p .any, .pt 3 2 0 0, .p .any, .p (.int .i64 i)] ++ List.replicate 32 anyA,
   [(0, bxG g nb N), (1, bx0), (2, bxP N m 3), (3, iOb N F), (4, iOb m T), (5, iOb m Q)], 6⟩
def badI (g : Nat → T_Bar) (nb : Nat) (T Q : Nat → Int) (i : Nat) : Bool :=
  bif bif bif decide (Q i < 0) then true else decide (Q i ≥ (nb : Int)) then true else bif decide ((i : Int) > 0) then decide (Q ((i : Int) - 1).toNat ≥ Q i) else false then true
    else bif T i != (g (Q i).toNat).1 then T i != (g (Q i).toNat).2.1 else false
theorem nRi (k l : Nat) :
    pathOb Tryz.prog Tryz.f123 0 [rg 1, rm [(1, oc [] (.p (.bool true))), (5, oc [] (.p (.bool true)))] 2] [.code (bodyOf Tryz.f123)] (start Tryz.f123 [] 0 [.p (.int .i64 k), .p (.int .i64 l)]) [] 1 [] (.p (.bool true)) =
    some [Con Tryz.prog 104 0 [] [.p (.int .i64 (↑k : Int)), .p (.int .i64 1), .p (.int .i64 3)] [] (.p (.bool true)),(AG true),((true = true) → (R0 (2 * (↑k : Int)))),((true = true) → (R1 (2 * (↑k : Int)))),(AG true),((true = true) → (R0 (2 * (↑k : Int) - 1))),((true = true) → (R1 (2 * (↑k : Int) - 1))),(AG true),(AG true),((true = true) →  Con Tryz.prog 104 0 [] [.p (.int .i64 (↑l : Int)), .p (.int .i64 0), .p (.int .i64 (2 * (↑k : Int) - 1))] [] (.p (.bool true))),(AG true),((bif true then true else false) = true)] := by kernel_rfl
theorem nRs (k l : Nat) :
    pathOb Tryz.prog Tryz.f117 0 [rg 1, rm [(1, oc [] (.p (.bool true)))] 11] [.code (bodyOf Tryz.f117)] (start Tryz.f117 [] 0 [.p (.int .i64 k), .p (.int .i64 l)]) [] 1 [] (.p (.bool true)) =
    some [Con Tryz.prog 95 0 [] [.p (.int .i64 (↑k : Int)), .p (.int .i64 1), .p (.int .i64 3)] [] (.p (.bool true)),(AG true),(AG true),(AG (bif true then decide ((↑l : Int) ≥ 0) else false)),(((bif true then decide ((↑l : Int) ≥ 0) else false) = true) → (R0 (2 * (↑k : Int)))),(((bif true then decide ((↑l : Int) ≥ 0) else false) = true) → (R1 (2 * (↑k : Int)))),(AG (bif true then decide ((↑l : Int) ≥ 0) else false)),(AG (bif true then decide ((↑l : Int) ≥ 0) else false)),(AG (bif true then decide ((↑l : Int) ≥ 0) else false)),((bif bif true then decide ((↑l : Int) ≥ 0) else false then decide ((↑l : Int) < 2 * (↑k : Int)) else false) = true)] := by kernel_rfl
theorem nUi (g : Nat → T_Bar) (nb N k l m : Nat) (F T Q : Nat → Int) :
    pathOb Tryz.prog Tryz.f107 0 [rg 3, rm [(1, oc [] (.p (.bool true))), (4, oc [] (.p (.bool true)))] 2, .dec false, rm [(6, oc (pebR N m F T Q) (pebO N m 0))] 2] [.code (bodyOf Tryz.f107)] (start Tryz.f107 [] 0 [grG g nb N, .p (.int .i64 k), .p (.int .i64 l)]) [576, 577, 578] 1 (pebR N m F T Q) (.tup [pebO N m 0, .p (.bool true)]) =
    some [(NT 0 1),Con Tryz.prog 35 0 [] [(zf78 N nb g)] [] (.p (.bool true)),(AG (!!true)),(AG (!!true)),(((!!true) = true) →  Con Tryz.prog 123 0 [] [.p (.int .i64 (↑k : Int)), .p (.int .i64 (↑l : Int))] [] (.p (.bool true))),(AG (!!true)),(((!true) = false) →  ((!!true) = true)),((bif !true then true else !true) = false),(NT 0 1),(NT 0 1),Con Tryz.prog 155 0 [] [.p (.int .i64 (↑N : Int)), .p (.seq true 2 nb (fun i => [.int .i64 ((g i).1), .int .i64 ((g i).2.1)])), .p (.int .i64 (↑k : Int)), .p (.int .i64 (↑l : Int))] (zf25 N F m T Q) (.agg [.ar 1 0 0 N, .ar 1 1 0 m, .ar 1 2 0 m]),(NT 0 1),((true = true) →  (AN 1)),(NT 0 1),(AN 0),(AN N),(AN 0),(AN m),(AN 0),(AN m),(true = true),(AN 1),(NL N N),(AA N (fun i => [.p (.int .i64 (F i))])),(AN 1),(NL m m),(AA m (fun i => [.p (.int .i64 (T i))])),(AN 1),(NL m m),(AA m (fun i => [.p (.int .i64 (Q i))])),(AE N),(AE m),(AE m)] := by kernel_rfl
theorem nKi (g : Nat → T_Bar) (nb N k l m : Nat) (F T Q : Nat → Int) :
    pathOb Tryz.prog Tryz.f38 0 [rg 2, rm [(3, oc (pebR N m F T Q) (.tup [pebO N m 0, .p (.bool true)]))] 6, rg 2, .dec false, rg 4] [.code (bodyOf Tryz.f38)] (start Tryz.f38 [] 0 [grG g nb N, .p (.int .i64 k), .p (.int .i64 l)]) [] 1 [] (.p (.int .i64 m)) =
    some [(NT 0 1),Con Tryz.prog 107 0 [] [(zf78 N nb g), .p (.int .i64 (↑k : Int)), .p (.int .i64 (↑l : Int))] (zf25 N F m T Q) ((zf88 N m)),(NT 0 1),((true = true) →  (AN 1)),((!true) = false),(NT 0 1),(AI ((↑m : Int)))] := by kernel_rfl
theorem nKs (g : Nat → T_Bar) (nb N k l m : Nat) (F T Q : Nat → Int) :
    pathOb Tryz.prog Tryz.f24 0 [rg 2, rm [(3, oc (pebR N m F T Q) (.tup [pebO N m 0, .p (.bool true)]))] 6, rg 2, .dec false, rg 4] [.code (bodyOf Tryz.f24)] (start Tryz.f24 [] 0 [grG g nb N, .p (.int .i64 k), .p (.int .i64 l)]) [] 1 [] (.p (.int .i64 m)) =
    some [(NT 0 1),Con Tryz.prog 97 0 [] [(zf78 N nb g), .p (.int .i64 (↑k : Int)), .p (.int .i64 (↑l : Int))] (zf25 N F m T Q) ((zf88 N m)),(NT 0 1),((true = true) →  (AN 1)),((!true) = false),(NT 0 1),(AI ((↑m : Int)))] := by kernel_rfl
theorem nTz (N m : Nat) (F T Q : Nat → Int) (x : Int) :
    pieceOb Tryz.prog 0 [rg 2, rg 1, rg 1, .head] [.code (bodyOf Tryz.f219)] (start Tryz.f219 [] 0 [pebD N m F T Q, .p (.int .i64 x)]) [0] 1 (ST0 N m F T Q x 0) =
    some (zf51, [(AN N),(AP N (fun i => [.int .i64 (F i)])),(AN m),(AP m (fun i => [.int .i64 (T i)])),(AN m),(AP m (fun i => [.int .i64 (Q i)])),(AI x),(AN 0),((0 : Int) = (tcI T 0 x)),((0 : Int) = (↑0 : Int)),((([inD N F, inD m T, inD m Q].length) : Nat) = 3),(NL 1 1),(NL 1 1),(AN N),(AP N (fun i => [.int .i64 (F i)])),(AN m),(AP m (fun i => [.int .i64 (T i)])),(AN m),(AP m (fun i => [.int .i64 (Q i)]))]) := by kernel_rfl
theorem nTt (N m : Nat) (F T Q : Nat → Int) (x : Int) (i : Nat) :
    pieceOb Tryz.prog 0 [rg 5, .dec true, rg 7, .dec true, rg 3, rg 3, .head] zf51 (ST0 N m F T Q x i) [0] 1 (ST0 N m F T Q x (i + 1)) =
    some (zf51, [(NT 0 1),((decide ((↑i : Int) < (↑m : Int))) = true),(NT 0 1),(IL 0 (↑i : Int)),(IT (↑i : Int) (↑m : Int)),((T i == x) = true),(R0 (tcI T i x + 1)),(R1 (tcI T i x + 1)),(R0 ((↑i : Int) + 1)),(R1 ((↑i : Int) + 1)),(AN N),(AP N (fun i_1 => [.int .i64 (F i_1)])),(AN m),(AP m (fun i_1 => [.int .i64 (T i_1)])),(AN m),(AP m (fun i_1 => [.int .i64 (Q i_1)])),(AI x),(AN 0),(((tcI T i x + 1) : Int) = (tcI T (i + 1) x)),((((↑i : Int) + 1) : Int) = (↑(i + 1) : Int)),(AN 3),(NL 1 1),(NL 1 1),(AN N),(AP N (fun i_1 => [.int .i64 (F i_1)])),(AN m),(AP m (fun i_1 => [.int .i64 (T i_1)])),(AN m),(AP m (fun i_1 => [.int .i64 (Q i_1)]))]) := by kernel_rfl
theorem nTf (N m : Nat) (F T Q : Nat → Int) (x : Int) (i : Nat) :
    pieceOb Tryz.prog 0 [rg 5, .dec true, rg 7, .dec false, rg 3, .head] zf51 (ST0 N m F T Q x i) [0] 1 (ST0 N m F T Q x (i + 1)) =
    some (zf51, [(NT 0 1),((decide ((↑i : Int) < (↑m : Int))) = true),(NT 0 1),(IL 0 (↑i : Int)),(IT (↑i : Int) (↑m : Int)),((T i == x) = false),(R0 ((↑i : Int) + 1)),(R1 ((↑i : Int) + 1)),(AN N),(AP N (fun i_1 => [.int .i64 (F i_1)])),(AN m),(AP m (fun i_1 => [.int .i64 (T i_1)])),(AN m),(AP m (fun i_1 => [.int .i64 (Q i_1)])),(AI x),(AN 0),(((tcI T i x) : Int) = (tcI T (i + 1) x)),((((↑i : Int) + 1) : Int) = (↑(i + 1) : Int)),(AN 3),(NL 1 1),(NL 1 1),(AN N),(AP N (fun i_1 => [.int .i64 (F i_1)])),(AN m),(AP m (fun i_1 => [.int .i64 (T i_1)])),(AN m),(AP m (fun i_1 => [.int .i64 (Q i_1)]))]) := by kernel_rfl
theorem nTe (N m : Nat) (F T Q : Nat → Int) (x : Int) (i : Nat) :
    pathOb Tryz.prog Tryz.f219 0 [rg 5, .dec false, rg 2] zf51 (ST0 N m F T Q x i) [] 1 [] (.p (.int .i64 (tcI T i x))) =
    some [(NT 0 1),((decide ((↑i : Int) < (↑m : Int))) = false),(AI ((tcI T i x)))] := by kernel_rfl
theorem nJz (g : Nat → T_Bar) (nb N k m : Nat) (F T Q : Nat → Int) :
    pieceOb Tryz.prog 0 [rg 3, rm [(1, oc [] (.p (.bool true))), (3, oc [] (.p (.bool true)))] 19, .dec false, rg 1, .head] [.code (bodyOf Tryz.f191)] (start Tryz.f191 [] 0 [grG g nb N, .p (.int .i64 k), pebD N m F T Q]) [0, 32] 1 (SI0 g nb N k m F T Q 0) =
    some (zf52, [(NT 0 1),Con Tryz.prog 22 0 [] [(zf78 N nb g)] [] (.p (.bool true)),(AG (!!true)),(((!!true) = true) →  Con Tryz.prog 95 0 [] [.p (.int .i64 (↑k : Int)), .p (.int .i64 1), .p (.int .i64 3)] [] (.p (.bool true))),(AG (!!true)),(((!true) = false) →  ((!!true) = true)),(AG (!bif !true then true else !true)),(((!bif !true then true else !true) = true) → (NT 0 1)),(AG (!bif !true then true else !true)),(AG (!bif !true then true else !true)),(((!bif !true then true else !true) = true) → (NT 0 1)),(AG (!bif !true then true else !true)),(AG (!bif !true then true else !true)),(((bif !true then true else !true) = false) →  ((!bif !true then true else !true) = true)),(AG (!bif bif !true then true else !true then true else (↑N : Int) != (↑N : Int))),(((!bif bif !true then true else !true then true else (↑N : Int) != (↑N : Int)) = true) → (NT 0 1)),(AG (!bif bif !true then true else !true then true else (↑N : Int) != (↑N : Int))),(AG (!bif bif !true then true else !true then true else (↑N : Int) != (↑N : Int))),(((!bif bif !true then true else !true then true else (↑N : Int) != (↑N : Int)) = true) → (NT 0 1)),(AG (!bif bif !true then true else !true then true else (↑N : Int) != (↑N : Int))),(AG (!bif bif !true then true else !true then true else (↑N : Int) != (↑N : Int))),(AG (!bif bif !true then true else !true then true else (↑N : Int) != (↑N : Int))),(((bif bif !true then true else !true then true else (↑N : Int) != (↑N : Int)) = false) →  ((!bif bif !true then true else !true then true else (↑N : Int) != (↑N : Int)) = true)),((bif bif bif !true then true else !true then true else (↑N : Int) != (↑N : Int) then true else (↑m : Int) != (↑m : Int)) = false),(AI ((↑N : Int))),(AN nb),(AP nb (fun i => [.int .i64 ((g i).1), .int .i64 ((g i).2.1)])),(AI ((↑k : Int))),(AN N),(AP N (fun i => [.int .i64 (F i)])),(AN m),(AP m (fun i => [.int .i64 (T i)])),(AN m),(AP m (fun i => [.int .i64 (Q i)])),(AN 0),(AN 0),((0 : Int) = (↑0 : Int)),((([AV.p (PV.int IntKind.i64 (↑N : Int)), brL g nb].length) : Nat) = 2),(NL 1 1),(NL 1 1),(AI ((↑N : Int))),(AN nb),(AP nb (fun i => [.int .i64 ((g i).1), .int .i64 ((g i).2.1)])),((([inD N F, inD m T, inD m Q].length) : Nat) = 3),(NL 1 1),(NL 1 1),(AN N),(AP N (fun i => [.int .i64 (F i)])),(AN m),(AP m (fun i => [.int .i64 (T i)])),(AN m),(AP m (fun i => [.int .i64 (Q i)]))]) := by kernel_rfl
theorem nI0 (g : Nat → T_Bar) (nb N k m : Nat) (F T Q : Nat → Int) (i : Nat) :
    pieceOb Tryz.prog 0 [rg 5, .dec true, rg 6, rg 51, .dec false, rg 3, .head] zf52 (SI0 g nb N k m F T Q i) [0, 1] 1 (SI0 g nb N k m F T Q (i + 1)) =
    some (zf52, [(NT 0 1),((decide ((↑i : Int) < (↑m : Int))) = true),(NT 0 1),(IL 0 (↑i : Int)),(IT (↑i : Int) (↑m : Int)),(AG (!decide (Q (↑i : Int).toNat < 0))),(((!decide (Q (↑i : Int).toNat < 0)) = true) → (NT 0 1)),(AG (!decide (Q (↑i : Int).toNat < 0))),(AG (!decide (Q (↑i : Int).toNat < 0))),(AG (!decide (Q (↑i : Int).toNat < 0))),(((decide (Q (↑i : Int).toNat < 0)) = false) →  ((!decide (Q (↑i : Int).toNat < 0)) = true)),(AG (!bif decide (Q (↑i : Int).toNat < 0) then true else decide (Q (↑i : Int).toNat ≥ (↑nb : Int)))),(AG (!bif decide (Q (↑i : Int).toNat < 0) then true else decide (Q (↑i : Int).toNat ≥ (↑nb : Int)))),(AG ((!bif decide (Q (↑i : Int).toNat < 0) then true else decide (Q (↑i : Int).toNat ≥ (↑nb : Int))) && decide ((↑i : Int) > 0))),((((!bif decide (Q (↑i : Int).toNat < 0) then true else decide (Q (↑i : Int).toNat ≥ (↑nb : Int))) && decide ((↑i : Int) > 0)) = true) → (NT 0 1)),(AG ((!bif decide (Q (↑i : Int).toNat < 0) then true else decide (Q (↑i : Int).toNat ≥ (↑nb : Int))) && decide ((↑i : Int) > 0))),((((!bif decide (Q (↑i : Int).toNat < 0) then true else decide (Q (↑i : Int).toNat ≥ (↑nb : Int))) && decide ((↑i : Int) > 0)) = true) → (R0 ((↑i : Int) - 1))),((((!bif decide (Q (↑i : Int).toNat < 0) then true else decide (Q (↑i : Int).toNat ≥ (↑nb : Int))) && decide ((↑i : Int) > 0)) = true) → (R1 ((↑i : Int) - 1))),(AG ((!bif decide (Q (↑i : Int).toNat < 0) then true else decide (Q (↑i : Int).toNat ≥ (↑nb : Int))) && decide ((↑i : Int) > 0))),(AG ((!bif decide (Q (↑i : Int).toNat < 0) then true else decide (Q (↑i : Int).toNat ≥ (↑nb : Int))) && decide ((↑i : Int) > 0))),((((!bif decide (Q (↑i : Int).toNat < 0) then true else decide (Q (↑i : Int).toNat ≥ (↑nb : Int))) && decide ((↑i : Int) > 0)) = true) → (IL 0 ((↑i : Int) - 1))),((((!bif decide (Q (↑i : Int).toNat < 0) then true else decide (Q (↑i : Int).toNat ≥ (↑nb : Int))) && decide ((↑i : Int) > 0)) = true) → (IT ((↑i : Int) - 1) (↑m : Int))),(AG ((!bif decide (Q (↑i : Int).toNat < 0) then true else decide (Q (↑i : Int).toNat ≥ (↑nb : Int))) && decide ((↑i : Int) > 0))),(AG ((!bif decide (Q (↑i : Int).toNat < 0) then true else decide (Q (↑i : Int).toNat ≥ (↑nb : Int))) && decide ((↑i : Int) > 0))),(AG ((!bif decide (Q (↑i : Int).toNat < 0) then true else decide (Q (↑i : Int).toNat ≥ (↑nb : Int))) && decide ((↑i : Int) > 0))),(AG (!bif decide (Q (↑i : Int).toNat < 0) then true else decide (Q (↑i : Int).toNat ≥ (↑nb : Int)))),(((!bif decide (Q (↑i : Int).toNat < 0) then true else decide (Q (↑i : Int).toNat ≥ (↑nb : Int))) = true) → (((decide ((↑i : Int) > 0)) = true) →  (((!bif decide (Q (↑i : Int).toNat < 0) then true else decide (Q (↑i : Int).toNat ≥ (↑nb : Int))) && decide ((↑i : Int) > 0)) = true))),(((bif decide (Q (↑i : Int).toNat < 0) then true else decide (Q (↑i : Int).toNat ≥ (↑nb : Int))) = false) →  ((!bif decide (Q (↑i : Int).toNat < 0) then true else decide (Q (↑i : Int).toNat ≥ (↑nb : Int))) = true)),(AG (!bif bif decide (Q (↑i : Int).toNat < 0) then true else decide (Q (↑i : Int).toNat ≥ (↑nb : Int)) then true else bif decide ((↑i : Int) > 0) then decide (Q ((↑i : Int) - 1).toNat ≥ Q (↑i : Int).toNat) else false)),(((!bif bif decide (Q (↑i : Int).toNat < 0) then true else decide (Q (↑i : Int).toNat ≥ (↑nb : Int)) then true else bif decide ((↑i : Int) > 0) then decide (Q ((↑i : Int) - 1).toNat ≥ Q (↑i : Int).toNat) else false) = true) → (NT 0 1)),(AG (!bif bif decide (Q (↑i : Int).toNat < 0) then true else decide (Q (↑i : Int).toNat ≥ (↑nb : Int)) then true else bif decide ((↑i : Int) > 0) then decide (Q ((↑i : Int) - 1).toNat ≥ Q (↑i : Int).toNat) else false)),(AG (!bif bif decide (Q (↑i : Int).toNat < 0) then true else decide (Q (↑i : Int).toNat ≥ (↑nb : Int)) then true else bif decide ((↑i : Int) > 0) then decide (Q ((↑i : Int) - 1).toNat ≥ Q (↑i : Int).toNat) else false)),(((!bif bif decide (Q (↑i : Int).toNat < 0) then true else decide (Q (↑i : Int).toNat ≥ (↑nb : Int)) then true else bif decide ((↑i : Int) > 0) then decide (Q ((↑i : Int) - 1).toNat ≥ Q (↑i : Int).toNat) else false) = true) → (IL 0 (↑i : Int))),(((!bif bif decide (Q (↑i : Int).toNat < 0) then true else decide (Q (↑i : Int).toNat ≥ (↑nb : Int)) then true else bif decide ((↑i : Int) > 0) then decide (Q ((↑i : Int) - 1).toNat ≥ Q (↑i : Int).toNat) else false) = true) → (IT (↑i : Int) (↑m : Int))),(AG (!bif bif decide (Q (↑i : Int).toNat < 0) then true else decide (Q (↑i : Int).toNat ≥ (↑nb : Int)) then true else bif decide ((↑i : Int) > 0) then decide (Q ((↑i : Int) - 1).toNat ≥ Q (↑i : Int).toNat) else false)),(AG (!bif bif decide (Q (↑i : Int).toNat < 0) then true else decide (Q (↑i : Int).toNat ≥ (↑nb : Int)) then true else bif decide ((↑i : Int) > 0) then decide (Q ((↑i : Int) - 1).toNat ≥ Q (↑i : Int).toNat) else false)),(((!bif bif decide (Q (↑i : Int).toNat < 0) then true else decide (Q (↑i : Int).toNat ≥ (↑nb : Int)) then true else bif decide ((↑i : Int) > 0) then decide (Q ((↑i : Int) - 1).toNat ≥ Q (↑i : Int).toNat) else false) = true) → (NT 0 1)),(AG (!bif bif decide (Q (↑i : Int).toNat < 0) then true else decide (Q (↑i : Int).toNat ≥ (↑nb : Int)) then true else bif decide ((↑i : Int) > 0) then decide (Q ((↑i : Int) - 1).toNat ≥ Q (↑i : Int).toNat) else false)),(AG (!bif bif decide (Q (↑i : Int).toNat < 0) then true else decide (Q (↑i : Int).toNat ≥ (↑nb : Int)) then true else bif decide ((↑i : Int) > 0) then decide (Q ((↑i : Int) - 1).toNat ≥ Q (↑i : Int).toNat) else false)),(((!bif bif decide (Q (↑i : Int).toNat < 0) then true else decide (Q (↑i : Int).toNat ≥ (↑nb : Int)) then true else bif decide ((↑i : Int) > 0) then decide (Q ((↑i : Int) - 1).toNat ≥ Q (↑i : Int).toNat) else false) = true) → (IL 0 (Q i))),(((!bif bif decide (Q (↑i : Int).toNat < 0) then true else decide (Q (↑i : Int).toNat ≥ (↑nb : Int)) then true else bif decide ((↑i : Int) > 0) then decide (Q ((↑i : Int) - 1).toNat ≥ Q (↑i : Int).toNat) else false) = true) → (IT (Q i) (↑nb : Int))),(AG (!bif bif decide (Q (↑i : Int).toNat < 0) then true else decide (Q (↑i : Int).toNat ≥ (↑nb : Int)) then true else bif decide ((↑i : Int) > 0) then decide (Q ((↑i : Int) - 1).toNat ≥ Q (↑i : Int).toNat) else false)),(AG (!bif bif decide (Q (↑i : Int).toNat < 0) then true else decide (Q (↑i : Int).toNat ≥ (↑nb : Int)) then true else bif decide ((↑i : Int) > 0) then decide (Q ((↑i : Int) - 1).toNat ≥ Q (↑i : Int).toNat) else false)),(AG (!bif bif decide (Q (↑i : Int).toNat < 0) then true else decide (Q (↑i : Int).toNat ≥ (↑nb : Int)) then true else bif decide ((↑i : Int) > 0) then decide (Q ((↑i : Int) - 1).toNat ≥ Q (↑i : Int).toNat) else false)),(AG (!bif bif decide (Q (↑i : Int).toNat < 0) then true else decide (Q (↑i : Int).toNat ≥ (↑nb : Int)) then true else bif decide ((↑i : Int) > 0) then decide (Q ((↑i : Int) - 1).toNat ≥ Q (↑i : Int).toNat) else false)),(AG (!bif bif decide (Q (↑i : Int).toNat < 0) then true else decide (Q (↑i : Int).toNat ≥ (↑nb : Int)) then true else bif decide ((↑i : Int) > 0) then decide (Q ((↑i : Int) - 1).toNat ≥ Q (↑i : Int).toNat) else false)),(AG ((!bif bif decide (Q (↑i : Int).toNat < 0) then true else decide (Q (↑i : Int).toNat ≥ (↑nb : Int)) then true else bif decide ((↑i : Int) > 0) then decide (Q ((↑i : Int) - 1).toNat ≥ Q (↑i : Int).toNat) else false) && T i != (g (Q i).toNat).1)),((((!bif bif decide (Q (↑i : Int).toNat < 0) then true else decide (Q (↑i : Int).toNat ≥ (↑nb : Int)) then true else bif decide ((↑i : Int) > 0) then decide (Q ((↑i : Int) - 1).toNat ≥ Q (↑i : Int).toNat) else false) && T i != (g (Q i).toNat).1) = true) → (NT 0 1)),(AG ((!bif bif decide (Q (↑i : Int).toNat < 0) then true else decide (Q (↑i : Int).toNat ≥ (↑nb : Int)) then true else bif decide ((↑i : Int) > 0) then decide (Q ((↑i : Int) - 1).toNat ≥ Q (↑i : Int).toNat) else false) && T i != (g (Q i).toNat).1)),(AG ((!bif bif decide (Q (↑i : Int).toNat < 0) then true else decide (Q (↑i : Int).toNat ≥ (↑nb : Int)) then true else bif decide ((↑i : Int) > 0) then decide (Q ((↑i : Int) - 1).toNat ≥ Q (↑i : Int).toNat) else false) && T i != (g (Q i).toNat).1)),((((!bif bif decide (Q (↑i : Int).toNat < 0) then true else decide (Q (↑i : Int).toNat ≥ (↑nb : Int)) then true else bif decide ((↑i : Int) > 0) then decide (Q ((↑i : Int) - 1).toNat ≥ Q (↑i : Int).toNat) else false) && T i != (g (Q i).toNat).1) = true) → (IL 0 (↑i : Int))),((((!bif bif decide (Q (↑i : Int).toNat < 0) then true else decide (Q (↑i : Int).toNat ≥ (↑nb : Int)) then true else bif decide ((↑i : Int) > 0) then decide (Q ((↑i : Int) - 1).toNat ≥ Q (↑i : Int).toNat) else false) && T i != (g (Q i).toNat).1) = true) → (IT (↑i : Int) (↑m : Int))),(AG ((!bif bif decide (Q (↑i : Int).toNat < 0) then true else decide (Q (↑i : Int).toNat ≥ (↑nb : Int)) then true else bif decide ((↑i : Int) > 0) then decide (Q ((↑i : Int) - 1).toNat ≥ Q (↑i : Int).toNat) else false) && T i != (g (Q i).toNat).1)),(AG ((!bif bif decide (Q (↑i : Int).toNat < 0) then true else decide (Q (↑i : Int).toNat ≥ (↑nb : Int)) then true else bif decide ((↑i : Int) > 0) then decide (Q ((↑i : Int) - 1).toNat ≥ Q (↑i : Int).toNat) else false) && T i != (g (Q i).toNat).1)),((((!bif bif decide (Q (↑i : Int).toNat < 0) then true else decide (Q (↑i : Int).toNat ≥ (↑nb : Int)) then true else bif decide ((↑i : Int) > 0) then decide (Q ((↑i : Int) - 1).toNat ≥ Q (↑i : Int).toNat) else false) && T i != (g (Q i).toNat).1) = true) → (NT 0 1)),(AG ((!bif bif decide (Q (↑i : Int).toNat < 0) then true else decide (Q (↑i : Int).toNat ≥ (↑nb : Int)) then true else bif decide ((↑i : Int) > 0) then decide (Q ((↑i : Int) - 1).toNat ≥ Q (↑i : Int).toNat) else false) && T i != (g (Q i).toNat).1)),(AG ((!bif bif decide (Q (↑i : Int).toNat < 0) then true else decide (Q (↑i : Int).toNat ≥ (↑nb : Int)) then true else bif decide ((↑i : Int) > 0) then decide (Q ((↑i : Int) - 1).toNat ≥ Q (↑i : Int).toNat) else false) && T i != (g (Q i).toNat).1)),((((!bif bif decide (Q (↑i : Int).toNat < 0) then true else decide (Q (↑i : Int).toNat ≥ (↑nb : Int)) then true else bif decide ((↑i : Int) > 0) then decide (Q ((↑i : Int) - 1).toNat ≥ Q (↑i : Int).toNat) else false) && T i != (g (Q i).toNat).1) = true) → (IL 0 (Q i))),((((!bif bif decide (Q (↑i : Int).toNat < 0) then true else decide (Q (↑i : Int).toNat ≥ (↑nb : Int)) then true else bif decide ((↑i : Int) > 0) then decide (Q ((↑i : Int) - 1).toNat ≥ Q (↑i : Int).toNat) else false) && T i != (g (Q i).toNat).1) = true) → (IT (Q i) (↑nb : Int))),(AG ((!bif bif decide (Q (↑i : Int).toNat < 0) then true else decide (Q (↑i : Int).toNat ≥ (↑nb : Int)) then true else bif decide ((↑i : Int) > 0) then decide (Q ((↑i : Int) - 1).toNat ≥ Q (↑i : Int).toNat) else false) && T i != (g (Q i).toNat).1)),(AG ((!bif bif decide (Q (↑i : Int).toNat < 0) then true else decide (Q (↑i : Int).toNat ≥ (↑nb : Int)) then true else bif decide ((↑i : Int) > 0) then decide (Q ((↑i : Int) - 1).toNat ≥ Q (↑i : Int).toNat) else false) && T i != (g (Q i).toNat).1)),(AG ((!bif bif decide (Q (↑i : Int).toNat < 0) then true else decide (Q (↑i : Int).toNat ≥ (↑nb : Int)) then true else bif decide ((↑i : Int) > 0) then decide (Q ((↑i : Int) - 1).toNat ≥ Q (↑i : Int).toNat) else false) && T i != (g (Q i).toNat).1)),(AG ((!bif bif decide (Q (↑i : Int).toNat < 0) then true else decide (Q (↑i : Int).toNat ≥ (↑nb : Int)) then true else bif decide ((↑i : Int) > 0) then decide (Q ((↑i : Int) - 1).toNat ≥ Q (↑i : Int).toNat) else false) && T i != (g (Q i).toNat).1)),(AG (!bif bif decide (Q (↑i : Int).toNat < 0) then true else decide (Q (↑i : Int).toNat ≥ (↑nb : Int)) then true else bif decide ((↑i : Int) > 0) then decide (Q ((↑i : Int) - 1).toNat ≥ Q (↑i : Int).toNat) else false)),(((!bif bif decide (Q (↑i : Int).toNat < 0) then true else decide (Q (↑i : Int).toNat ≥ (↑nb : Int)) then true else bif decide ((↑i : Int) > 0) then decide (Q ((↑i : Int) - 1).toNat ≥ Q (↑i : Int).toNat) else false) = true) → (((T i != (g (Q i).toNat).1) = true) →  (((!bif bif decide (Q (↑i : Int).toNat < 0) then true else decide (Q (↑i : Int).toNat ≥ (↑nb : Int)) then true else bif decide ((↑i : Int) > 0) then decide (Q ((↑i : Int) - 1).toNat ≥ Q (↑i : Int).toNat) else false) && T i != (g (Q i).toNat).1) = true))),(((bif bif decide (Q (↑i : Int).toNat < 0) then true else decide (Q (↑i : Int).toNat ≥ (↑nb : Int)) then true else bif decide ((↑i : Int) > 0) then decide (Q ((↑i : Int) - 1).toNat ≥ Q (↑i : Int).toNat) else false) = false) →  ((!bif bif decide (Q (↑i : Int).toNat < 0) then true else decide (Q (↑i : Int).toNat ≥ (↑nb : Int)) then true else bif decide ((↑i : Int) > 0) then decide (Q ((↑i : Int) - 1).toNat ≥ Q (↑i : Int).toNat) else false) = true)),((bif bif bif decide (Q (↑i : Int).toNat < 0) then true else decide (Q (↑i : Int).toNat ≥ (↑nb : Int)) then true else bif decide ((↑i : Int) > 0) then decide (Q ((↑i : Int) - 1).toNat ≥ Q (↑i : Int).toNat) else false then true else bif T i != (g (Q i).toNat).1 then T i != (g (Q i).toNat).2.1 else false) = false),(R0 ((↑i : Int) + 1)),(R1 ((↑i : Int) + 1)),(AI ((↑N : Int))),(AN nb),(AP nb (fun i_1 => [.int .i64 ((g i_1).1), .int .i64 ((g i_1).2.1)])),(AI ((↑k : Int))),(AN N),(AP N (fun i_1 => [.int .i64 (F i_1)])),(AN m),(AP m (fun i_1 => [.int .i64 (T i_1)])),(AN m),(AP m (fun i_1 => [.int .i64 (Q i_1)])),(AN 0),(AN 0),((((↑i : Int) + 1) : Int) = (↑(i + 1) : Int)),(AN 2),(NL 1 1),(NL 1 1),(AI ((↑N : Int))),(AN nb),(AP nb (fun i_1 => [.int .i64 ((g i_1).1), .int .i64 ((g i_1).2.1)])),(AN 3),(NL 1 1),(NL 1 1),(AN N),(AP N (fun i_1 => [.int .i64 (F i_1)])),(AN m),(AP m (fun i_1 => [.int .i64 (T i_1)])),(AN m),(AP m (fun i_1 => [.int .i64 (Q i_1)]))]) := by kernel_rfl
theorem nI01 (g : Nat → T_Bar) (nb N k m : Nat) (F T Q : Nat → Int) (i : Nat) :
    pieceOb Tryz.prog 0 [rg 5, .dec false, rg 1, .head] zf52 (SI0 g nb N k m F T Q i) [0, 1] 1 (SI1 g nb N k m F T Q 0) =
    some (zf33, [(NT 0 1),((decide ((↑i : Int) < (↑m : Int))) = false),(AI ((↑N : Int))),(AN nb),(AP nb (fun i_1 => [.int .i64 ((g i_1).1), .int .i64 ((g i_1).2.1)])),(AI ((↑k : Int))),(AN N),(AP N (fun i_1 => [.int .i64 (F i_1)])),(AN m),(AP m (fun i_1 => [.int .i64 (T i_1)])),(AN m),(AP m (fun i_1 => [.int .i64 (Q i_1)])),(AN 0),(AN 0),((0 : Int) = (↑0 : Int)),(AN 2),(NL 1 1),(NL 1 1),(AI ((↑N : Int))),(AN nb),(AP nb (fun i_1 => [.int .i64 ((g i_1).1), .int .i64 ((g i_1).2.1)])),(AN 3),(NL 1 1),(NL 1 1),(AN N),(AP N (fun i_1 => [.int .i64 (F i_1)])),(AN m),(AP m (fun i_1 => [.int .i64 (T i_1)])),(AN m),(AP m (fun i_1 => [.int .i64 (Q i_1)]))]) := by kernel_rfl
theorem nI1 (g : Nat → T_Bar) (nb N k m : Nat) (F T Q : Nat → Int) (i : Nat) :
    pieceOb Tryz.prog 0 [rg 4, .dec true, rm [(14, oc [] (.p (.int .i64 (tcI T m i))))] 4, .dec false, rg 3, .head] zf33 (SI1 g nb N k m F T Q i) [0, 1] 1 (SI1 g nb N k m F T Q (i + 1)) =
    some (zf33, [(NT 0 1),((decide ((↑i : Int) < (↑N : Int))) = true),(NT 0 1),(IL 0 (↑i : Int)),(IT (↑i : Int) (↑N : Int)),(AG (!decide (F (↑i : Int).toNat < 0))),(((!decide (F (↑i : Int).toNat < 0)) = true) → (NT 0 1)),(AG (!decide (F (↑i : Int).toNat < 0))),(AG (!decide (F (↑i : Int).toNat < 0))),(((!decide (F (↑i : Int).toNat < 0)) = true) → (IL 0 (↑i : Int))),(((!decide (F (↑i : Int).toNat < 0)) = true) → (IT (↑i : Int) (↑N : Int))),(AG (!decide (F (↑i : Int).toNat < 0))),(((!decide (F (↑i : Int).toNat < 0)) = true) → (NT 0 1)),(AG (!decide (F (↑i : Int).toNat < 0))),(AG (!decide (F (↑i : Int).toNat < 0))),(((!decide (F (↑i : Int).toNat < 0)) = true) →  Con Tryz.prog 219 0 [] [(zf26 N F m T Q), .p (.int .i64 (↑i : Int))] [] (.p (.int .i64 (tcI T m (↑i : Int))))),(AG (!decide (F (↑i : Int).toNat < 0))),(AG (!decide (F (↑i : Int).toNat < 0))),(((!decide (F (↑i : Int).toNat < 0)) = true) → (R0 (F i + tcI T m (↑i : Int)))),(((!decide (F (↑i : Int).toNat < 0)) = true) → (R1 (F i + tcI T m (↑i : Int)))),(AG (!decide (F (↑i : Int).toNat < 0))),(AG (!decide (F (↑i : Int).toNat < 0))),(((decide (F (↑i : Int).toNat < 0)) = false) →  ((!decide (F (↑i : Int).toNat < 0)) = true)),((bif decide (F (↑i : Int).toNat < 0) then true else F i + tcI T m (↑i : Int) != (↑k : Int)) = false),(R0 ((↑i : Int) + 1)),(R1 ((↑i : Int) + 1)),(AI ((↑N : Int))),(AN nb),(AP nb (fun i_1 => [.int .i64 ((g i_1).1), .int .i64 ((g i_1).2.1)])),(AI ((↑k : Int))),(AN N),(AP N (fun i_1 => [.int .i64 (F i_1)])),(AN m),(AP m (fun i_1 => [.int .i64 (T i_1)])),(AN m),(AP m (fun i_1 => [.int .i64 (Q i_1)])),(AN 0),(AN 0),((((↑i : Int) + 1) : Int) = (↑(i + 1) : Int)),(AN 2),(NL 1 1),(NL 1 1),(AI ((↑N : Int))),(AN nb),(AP nb (fun i_1 => [.int .i64 ((g i_1).1), .int .i64 ((g i_1).2.1)])),(AN 3),(NL 1 1),(NL 1 1),(AN N),(AP N (fun i_1 => [.int .i64 (F i_1)])),(AN m),(AP m (fun i_1 => [.int .i64 (T i_1)])),(AN m),(AP m (fun i_1 => [.int .i64 (Q i_1)]))]) := by kernel_rfl
theorem nJe (g : Nat → T_Bar) (nb N k m : Nat) (F T Q : Nat → Int) (i : Nat) :
    pathOb Tryz.prog Tryz.f191 0 [rg 4, .dec false, rg 1] zf33 (SI1 g nb N k m F T Q i) [] 1 [] (.p (.bool true)) =
    some [(NT 0 1),((decide ((↑i : Int) < (↑N : Int))) = false),(true = true)] := by kernel_rfl
theorem nPf (g : Nat → T_Bar) (nb N k l m e : Nat) (F T Q F1 T1 : Nat → Int) :
    pathOb Tryz.prog Tryz.f149 0 [rg 4, rm [(3, oc [] (.p (.bool true))), (4, oc [] (.p (.bool true)))] 31, .dec false, rg 7, rm [(8, oc (pebR N m F1 T1 Q) (.tup [pebO N m 0, .p (.bool false)]))] 6, rg 2, .dec true, rm [(1, oc (pebR N m F T Q) (pebO N m 0))] 2] [.code (bodyOf Tryz.f149)] (start Tryz.f149 [] 0 [grG g nb N, .p (.int .i64 k), .p (.int .i64 l), pebD N m F T Q, .p (.int .i64 e)]) [2208, 2209, 2210] 1 (pebR N m F T Q) (.tup [pebO N m 0, .p (.bool false)]) =
    some [(NT 0 1),(NT 0 1),Con Tryz.prog 191 0 [] [(zf78 N nb g), .p (.int .i64 (↑k : Int)), (zf48 N F m T Q)] [] (.p (.bool true)),(AG (!!true)),(AG (!!true)),(((!!true) = true) →  Con Tryz.prog 117 0 [] [.p (.int .i64 (↑k : Int)), .p (.int .i64 (↑l : Int))] [] (.p (.bool true))),(AG (!!true)),(((!true) = false) →  ((!!true) = true)),(AG (!bif !true then true else !true)),(((bif !true then true else !true) = false) →  ((!bif !true then true else !true) = true)),(AG (!bif bif !true then true else !true then true else decide ((↑e : Int) < 0))),(((!bif bif !true then true else !true then true else decide ((↑e : Int) < 0)) = true) → (NT 0 1)),(AG (!bif bif !true then true else !true then true else decide ((↑e : Int) < 0))),(AG (!bif bif !true then true else !true then true else decide ((↑e : Int) < 0))),(AG (!bif bif !true then true else !true then true else decide ((↑e : Int) < 0))),(((bif bif !true then true else !true then true else decide ((↑e : Int) < 0)) = false) →  ((!bif bif !true then true else !true then true else decide ((↑e : Int) < 0)) = true)),(AG (!bif bif bif !true then true else !true then true else decide ((↑e : Int) < 0) then true else decide ((↑e : Int) ≥ (↑nb : Int)))),(((!bif bif bif !true then true else !true then true else decide ((↑e : Int) < 0) then true else decide ((↑e : Int) ≥ (↑nb : Int))) = true) → (NT 0 1)),(AG (!bif bif bif !true then true else !true then true else decide ((↑e : Int) < 0) then true else decide ((↑e : Int) ≥ (↑nb : Int)))),(AG (!bif bif bif !true then true else !true then true else decide ((↑e : Int) < 0) then true else decide ((↑e : Int) ≥ (↑nb : Int)))),(AG (!bif bif bif !true then true else !true then true else decide ((↑e : Int) < 0) then true else decide ((↑e : Int) ≥ (↑nb : Int)))),(AG ((!bif bif bif !true then true else !true then true else decide ((↑e : Int) < 0) then true else decide ((↑e : Int) ≥ (↑nb : Int))) && decide ((↑m : Int) > 0))),((((!bif bif bif !true then true else !true then true else decide ((↑e : Int) < 0) then true else decide ((↑e : Int) ≥ (↑nb : Int))) && decide ((↑m : Int) > 0)) = true) → (NT 0 1)),(AG ((!bif bif bif !true then true else !true then true else decide ((↑e : Int) < 0) then true else decide ((↑e : Int) ≥ (↑nb : Int))) && decide ((↑m : Int) > 0))),((((!bif bif bif !true then true else !true then true else decide ((↑e : Int) < 0) then true else decide ((↑e : Int) ≥ (↑nb : Int))) && decide ((↑m : Int) > 0)) = true) → (NT 0 1)),(AG ((!bif bif bif !true then true else !true then true else decide ((↑e : Int) < 0) then true else decide ((↑e : Int) ≥ (↑nb : Int))) && decide ((↑m : Int) > 0))),(AG ((!bif bif bif !true then true else !true then true else decide ((↑e : Int) < 0) then true else decide ((↑e : Int) ≥ (↑nb : Int))) && decide ((↑m : Int) > 0))),((((!bif bif bif !true then true else !true then true else decide ((↑e : Int) < 0) then true else decide ((↑e : Int) ≥ (↑nb : Int))) && decide ((↑m : Int) > 0)) = true) → (R0 ((↑m : Int) - 1))),((((!bif bif bif !true then true else !true then true else decide ((↑e : Int) < 0) then true else decide ((↑e : Int) ≥ (↑nb : Int))) && decide ((↑m : Int) > 0)) = true) → (R1 ((↑m : Int) - 1))),(AG ((!bif bif bif !true then true else !true then true else decide ((↑e : Int) < 0) then true else decide ((↑e : Int) ≥ (↑nb : Int))) && decide ((↑m : Int) > 0))),(AG ((!bif bif bif !true then true else !true then true else decide ((↑e : Int) < 0) then true else decide ((↑e : Int) ≥ (↑nb : Int))) && decide ((↑m : Int) > 0))),((((!bif bif bif !true then true else !true then true else decide ((↑e : Int) < 0) then true else decide ((↑e : Int) ≥ (↑nb : Int))) && decide ((↑m : Int) > 0)) = true) → (IL 0 ((↑m : Int) - 1))),((((!bif bif bif !true then true else !true then true else decide ((↑e : Int) < 0) then true else decide ((↑e : Int) ≥ (↑nb : Int))) && decide ((↑m : Int) > 0)) = true) → (IT ((↑m : Int) - 1) (↑m : Int))),(AG ((!bif bif bif !true then true else !true then true else decide ((↑e : Int) < 0) then true else decide ((↑e : Int) ≥ (↑nb : Int))) && decide ((↑m : Int) > 0))),(AG ((!bif bif bif !true then true else !true then true else decide ((↑e : Int) < 0) then true else decide ((↑e : Int) ≥ (↑nb : Int))) && decide ((↑m : Int) > 0))),(AG ((!bif bif bif !true then true else !true then true else decide ((↑e : Int) < 0) then true else decide ((↑e : Int) ≥ (↑nb : Int))) && decide ((↑m : Int) > 0))),(AG (!bif bif bif !true then true else !true then true else decide ((↑e : Int) < 0) then true else decide ((↑e : Int) ≥ (↑nb : Int)))),(((!bif bif bif !true then true else !true then true else decide ((↑e : Int) < 0) then true else decide ((↑e : Int) ≥ (↑nb : Int))) = true) → (((decide ((↑m : Int) > 0)) = true) →  (((!bif bif bif !true then true else !true then true else decide ((↑e : Int) < 0) then true else decide ((↑e : Int) ≥ (↑nb : Int))) && decide ((↑m : Int) > 0)) = true))),(((bif bif bif !true then true else !true then true else decide ((↑e : Int) < 0) then true else decide ((↑e : Int) ≥ (↑nb : Int))) = false) →  ((!bif bif bif !true then true else !true then true else decide ((↑e : Int) < 0) then true else decide ((↑e : Int) ≥ (↑nb : Int))) = true)),((bif bif bif bif !true then true else !true then true else decide ((↑e : Int) < 0) then true else decide ((↑e : Int) ≥ (↑nb : Int)) then true else bif decide ((↑m : Int) > 0) then decide (Q ((↑m : Int) - 1).toNat ≥ (↑e : Int)) else false) = false),(NT 0 1),(IL 0 (↑e : Int)),(IT (↑e : Int) (↑nb : Int)),(NT 0 1),((true = true) →  (AN 1)),(NT 0 1),(NT 0 1),(NT 0 1),(NT 0 1),(R0 ((↑l : Int) + 1)),(R1 ((↑l : Int) + 1)),Con Tryz.prog 193 0 [] [(zf78 N nb g), (zf48 N F m T Q), .p (.int .i64 ((g e).1)), .p (.int .i64 ((g e).2.1)), .p (.int .i64 ((↑l : Int) + 1))] (zf25 N F1 m T1 Q) ((zf87 N m)),(NT 0 1),((true = true) →  (AN 1)),((!false) = true),(NT 0 1),Con Tryz.prog 192 0 [] [(zf48 N F m T Q)] (zf25 N F m T Q) (.agg [.ar 1 0 0 N, .ar 1 1 0 m, .ar 1 2 0 m]),(NT 0 1),((true = true) →  (AN 1)),(NT 0 1),(AN 0),(AN N),(AN 0),(AN m),(AN 0),(AN m),(false = false),(AN 1),(NL N N),(AA N (fun i => [.p (.int .i64 (F i))])),(AN 1),(NL m m),(AA m (fun i => [.p (.int .i64 (T i))])),(AN 1),(NL m m),(AA m (fun i => [.p (.int .i64 (Q i))])),(AE N),(AE m),(AE m)] := by kernel_rfl
theorem nPa (g : Nat → T_Bar) (nb N k l m e : Nat) (F T Q F1 T1 : Nat → Int) :
    pathOb Tryz.prog Tryz.f149 0 [rg 4, rm [(3, oc [] (.p (.bool true))), (4, oc [] (.p (.bool true)))] 31, .dec false, rg 7, rm [(8, oc (pebR N m F1 T1 Q) (.tup [pebO N m 0, .p (.bool true)]))] 6, rg 2, .dec false, rg 3, rg 7, .dec false, rg 11, rg 7, rg 7, rg 3] [.code (bodyOf Tryz.f149)] (start Tryz.f149 [] 0 [grG g nb N, .p (.int .i64 k), .p (.int .i64 l), pebD N m F T Q, .p (.int .i64 e)]) [1888, 2976, 3200] 1 (pebR N (m + 1) (fun s => if s = (g e).1.toNat then F1 s - 1 else F1 s) (fun s => if s < m then T1 s else (g e).1) (fun s => if s < m then Q s else e)) (.tup [pebO N (m + 1) 0, .p (.bool true)]) =
    some [(NT 0 1),(NT 0 1),Con Tryz.prog 191 0 [] [(zf78 N nb g), .p (.int .i64 (↑k : Int)), (zf48 N F m T Q)] [] (.p (.bool true)),(AG (!!true)),(AG (!!true)),(((!!true) = true) →  Con Tryz.prog 117 0 [] [.p (.int .i64 (↑k : Int)), .p (.int .i64 (↑l : Int))] [] (.p (.bool true))),(AG (!!true)),(((!true) = false) →  ((!!true) = true)),(AG (!bif !true then true else !true)),(((bif !true then true else !true) = false) →  ((!bif !true then true else !true) = true)),(AG (!bif bif !true then true else !true then true else decide ((↑e : Int) < 0))),(((!bif bif !true then true else !true then true else decide ((↑e : Int) < 0)) = true) → (NT 0 1)),(AG (!bif bif !true then true else !true then true else decide ((↑e : Int) < 0))),(AG (!bif bif !true then true else !true then true else decide ((↑e : Int) < 0))),(AG (!bif bif !true then true else !true then true else decide ((↑e : Int) < 0))),(((bif bif !true then true else !true then true else decide ((↑e : Int) < 0)) = false) →  ((!bif bif !true then true else !true then true else decide ((↑e : Int) < 0)) = true)),(AG (!bif bif bif !true then true else !true then true else decide ((↑e : Int) < 0) then true else decide ((↑e : Int) ≥ (↑nb : Int)))),(((!bif bif bif !true then true else !true then true else decide ((↑e : Int) < 0) then true else decide ((↑e : Int) ≥ (↑nb : Int))) = true) → (NT 0 1)),(AG (!bif bif bif !true then true else !true then true else decide ((↑e : Int) < 0) then true else decide ((↑e : Int) ≥ (↑nb : Int)))),(AG (!bif bif bif !true then true else !true then true else decide ((↑e : Int) < 0) then true else decide ((↑e : Int) ≥ (↑nb : Int)))),(AG (!bif bif bif !true then true else !true then true else decide ((↑e : Int) < 0) then true else decide ((↑e : Int) ≥ (↑nb : Int)))),(AG ((!bif bif bif !true then true else !true then true else decide ((↑e : Int) < 0) then true else decide ((↑e : Int) ≥ (↑nb : Int))) && decide ((↑m : Int) > 0))),((((!bif bif bif !true then true else !true then true else decide ((↑e : Int) < 0) then true else decide ((↑e : Int) ≥ (↑nb : Int))) && decide ((↑m : Int) > 0)) = true) → (NT 0 1)),(AG ((!bif bif bif !true then true else !true then true else decide ((↑e : Int) < 0) then true else decide ((↑e : Int) ≥ (↑nb : Int))) && decide ((↑m : Int) > 0))),((((!bif bif bif !true then true else !true then true else decide ((↑e : Int) < 0) then true else decide ((↑e : Int) ≥ (↑nb : Int))) && decide ((↑m : Int) > 0)) = true) → (NT 0 1)),(AG ((!bif bif bif !true then true else !true then true else decide ((↑e : Int) < 0) then true else decide ((↑e : Int) ≥ (↑nb : Int))) && decide ((↑m : Int) > 0))),(AG ((!bif bif bif !true then true else !true then true else decide ((↑e : Int) < 0) then true else decide ((↑e : Int) ≥ (↑nb : Int))) && decide ((↑m : Int) > 0))),((((!bif bif bif !true then true else !true then true else decide ((↑e : Int) < 0) then true else decide ((↑e : Int) ≥ (↑nb : Int))) && decide ((↑m : Int) > 0)) = true) → (R0 ((↑m : Int) - 1))),((((!bif bif bif !true then true else !true then true else decide ((↑e : Int) < 0) then true else decide ((↑e : Int) ≥ (↑nb : Int))) && decide ((↑m : Int) > 0)) = true) → (R1 ((↑m : Int) - 1))),(AG ((!bif bif bif !true then true else !true then true else decide ((↑e : Int) < 0) then true else decide ((↑e : Int) ≥ (↑nb : Int))) && decide ((↑m : Int) > 0))),(AG ((!bif bif bif !true then true else !true then true else decide ((↑e : Int) < 0) then true else decide ((↑e : Int) ≥ (↑nb : Int))) && decide ((↑m : Int) > 0))),((((!bif bif bif !true then true else !true then true else decide ((↑e : Int) < 0) then true else decide ((↑e : Int) ≥ (↑nb : Int))) && decide ((↑m : Int) > 0)) = true) → (IL 0 ((↑m : Int) - 1))),((((!bif bif bif !true then true else !true then true else decide ((↑e : Int) < 0) then true else decide ((↑e : Int) ≥ (↑nb : Int))) && decide ((↑m : Int) > 0)) = true) → (IT ((↑m : Int) - 1) (↑m : Int))),(AG ((!bif bif bif !true then true else !true then true else decide ((↑e : Int) < 0) then true else decide ((↑e : Int) ≥ (↑nb : Int))) && decide ((↑m : Int) > 0))),(AG ((!bif bif bif !true then true else !true then true else decide ((↑e : Int) < 0) then true else decide ((↑e : Int) ≥ (↑nb : Int))) && decide ((↑m : Int) > 0))),(AG ((!bif bif bif !true then true else !true then true else decide ((↑e : Int) < 0) then true else decide ((↑e : Int) ≥ (↑nb : Int))) && decide ((↑m : Int) > 0))),(AG (!bif bif bif !true then true else !true then true else decide ((↑e : Int) < 0) then true else decide ((↑e : Int) ≥ (↑nb : Int)))),(((!bif bif bif !true then true else !true then true else decide ((↑e : Int) < 0) then true else decide ((↑e : Int) ≥ (↑nb : Int))) = true) → (((decide ((↑m : Int) > 0)) = true) →  (((!bif bif bif !true then true else !true then true else decide ((↑e : Int) < 0) then true else decide ((↑e : Int) ≥ (↑nb : Int))) && decide ((↑m : Int) > 0)) = true))),(((bif bif bif !true then true else !true then true else decide ((↑e : Int) < 0) then true else decide ((↑e : Int) ≥ (↑nb : Int))) = false) →  ((!bif bif bif !true then true else !true then true else decide ((↑e : Int) < 0) then true else decide ((↑e : Int) ≥ (↑nb : Int))) = true)),((bif bif bif bif !true then true else !true then true else decide ((↑e : Int) < 0) then true else decide ((↑e : Int) ≥ (↑nb : Int)) then true else bif decide ((↑m : Int) > 0) then decide (Q ((↑m : Int) - 1).toNat ≥ (↑e : Int)) else false) = false),(NT 0 1),(IL 0 (↑e : Int)),(IT (↑e : Int) (↑nb : Int)),(NT 0 1),((true = true) →  (AN 1)),(NT 0 1),(NT 0 1),(NT 0 1),(NT 0 1),(R0 ((↑l : Int) + 1)),(R1 ((↑l : Int) + 1)),Con Tryz.prog 193 0 [] [(zf78 N nb g), (zf48 N F m T Q), .p (.int .i64 ((g e).1)), .p (.int .i64 ((g e).2.1)), .p (.int .i64 ((↑l : Int) + 1))] (zf25 N F1 m T1 Q) ((zf88 N m)),(NT 0 1),((true = true) →  (AN 1)),((!true) = false),(NT 0 1),(NT 0 1),(NT 0 1),(IL 0 ((g e).1)),(IT ((g e).1) (↑N : Int)),(NT ((g e).1.toNat) N),((F1 (g e).1.toNat == 0) = false),(NT 0 1),(NT 0 1),(IL 0 ((g e).1)),(IT ((g e).1) (↑N : Int)),(NT ((g e).1.toNat) N),(R0 (F1 (g e).1.toNat - 1)),(R1 (F1 (g e).1.toNat - 1)),(IL 0 ((g e).1)),(IT ((g e).1) (↑N : Int)),(NT ((g e).1.toNat) N),((false = true) →  ((N : Nat) = 1)),(NT 0 1),(NL 1 1),(NL m m),(NL ((m + 1) * 8) 140737488355328),(NL (m + 1) 9223372036854775807),(NT 0 1),((true = true) →  (AN 1)),(NT 0 1),(NL 1 1),(NL m m),(NL ((m + 1) * 8) 140737488355328),(NL (m + 1) 9223372036854775807),(NT 0 1),((true = true) →  (AN 1)),(NT 0 1),(NT 0 1),((true = true) →  (AN 1)),(NT 0 1),(AN 0),(AN N),(AN 0),(AN ((m + 1))),(AN 0),(AN ((m + 1))),(true = true),(AN 1),(NL N N),(CV [(64, ⟨true, 3, 1, (fun i_1 => [.ar 1 1888 0 N, .ar 1 2976 0 (m + 1), .ar 1 3200 0 (m + 1)])⟩), (2016, ⟨true, 3, 1, (fun i_1 => [.ar 1 1888 0 N, .ar 1 2976 0 (m + 1), .ar 1 3200 0 (m + 1)])⟩), (3200, ⟨false, 1, (m + 1), (fun i_1 => (if (i_1 < m) then [.p (.int .i64 (Q i_1))] else [.p (.int .i64 (↑e : Int))]))⟩), (3168, ⟨false, 1, 1, (fun i_1 => [.p (.int .i64 (↑e : Int))])⟩), (2976, ⟨false, 1, (m + 1), (fun i_1 => (if (i_1 < m) then [.p (.int .i64 (T1 i_1))] else [.p (.int .i64 ((g e).1))]))⟩), (2944, ⟨false, 1, 1, (fun i_1 => [.p (.int .i64 ((g e).1))])⟩), (1888, ⟨false, 1, N, (fun i_1 => (if (i_1 = (g e).1.toNat) then [.p (.int .i64 (F1 (g e).1.toNat - 1))] else [.p (.int .i64 (F1 i_1))]))⟩), (1568, ⟨true, 2, 1, (fun i_1 => [.p (.int .i64 ((g e).1)), .p (.int .i64 ((g e).2.1))])⟩), (32, ⟨true, 3, 1, (fun i_1 => [.p (.seq true 1 N (fun i_2 => [.int .i64 (F i_2)])), .p (.seq true 1 m (fun i_2 => [.int .i64 (T i_2)])), .p (.seq true 1 m (fun i_2 => [.int .i64 (Q i_2)]))])⟩), (0, ⟨true, 2, 1, (fun i_1 => [.p (.int .i64 (↑N : Int)), .p (.seq true 2 nb (fun i_2 => [.int .i64 ((g i_2).1), .int .i64 ((g i_2).2.1)]))])⟩)] [1888, 2976, 3200] 1 N (fun i => if (i = (g e).1.toNat) then [.p (.int .i64 (F1 (g e).1.toNat - 1))] else [.p (.int .i64 (F1 i))]) (fun i => [.p (.int .i64 (if i = (g e).1.toNat then F1 i - 1 else F1 i))])),(AN 1),(NL (m + 1) (m + 1)),(CV [(64, ⟨true, 3, 1, (fun i_1 => [.ar 1 1888 0 N, .ar 1 2976 0 (m + 1), .ar 1 3200 0 (m + 1)])⟩), (2016, ⟨true, 3, 1, (fun i_1 => [.ar 1 1888 0 N, .ar 1 2976 0 (m + 1), .ar 1 3200 0 (m + 1)])⟩), (3200, ⟨false, 1, (m + 1), (fun i_1 => (if (i_1 < m) then [.p (.int .i64 (Q i_1))] else [.p (.int .i64 (↑e : Int))]))⟩), (3168, ⟨false, 1, 1, (fun i_1 => [.p (.int .i64 (↑e : Int))])⟩), (2976, ⟨false, 1, (m + 1), (fun i_1 => (if (i_1 < m) then [.p (.int .i64 (T1 i_1))] else [.p (.int .i64 ((g e).1))]))⟩), (2944, ⟨false, 1, 1, (fun i_1 => [.p (.int .i64 ((g e).1))])⟩), (1888, ⟨false, 1, N, (fun i_1 => (if (i_1 = (g e).1.toNat) then [.p (.int .i64 (F1 (g e).1.toNat - 1))] else [.p (.int .i64 (F1 i_1))]))⟩), (1568, ⟨true, 2, 1, (fun i_1 => [.p (.int .i64 ((g e).1)), .p (.int .i64 ((g e).2.1))])⟩), (32, ⟨true, 3, 1, (fun i_1 => [.p (.seq true 1 N (fun i_2 => [.int .i64 (F i_2)])), .p (.seq true 1 m (fun i_2 => [.int .i64 (T i_2)])), .p (.seq true 1 m (fun i_2 => [.int .i64 (Q i_2)]))])⟩), (0, ⟨true, 2, 1, (fun i_1 => [.p (.int .i64 (↑N : Int)), .p (.seq true 2 nb (fun i_2 => [.int .i64 ((g i_2).1), .int .i64 ((g i_2).2.1)]))])⟩)] [1888, 2976, 3200] 1 (m + 1) (fun i => if (i < m) then [.p (.int .i64 (T1 i))] else [.p (.int .i64 ((g e).1))]) (fun i => [.p (.int .i64 (if i < m then T1 i else (g e).1))])),(AN 1),(NL (m + 1) (m + 1)),(CV [(64, ⟨true, 3, 1, (fun i_1 => [.ar 1 1888 0 N, .ar 1 2976 0 (m + 1), .ar 1 3200 0 (m + 1)])⟩), (2016, ⟨true, 3, 1, (fun i_1 => [.ar 1 1888 0 N, .ar 1 2976 0 (m + 1), .ar 1 3200 0 (m + 1)])⟩), (3200, ⟨false, 1, (m + 1), (fun i_1 => (if (i_1 < m) then [.p (.int .i64 (Q i_1))] else [.p (.int .i64 (↑e : Int))]))⟩), (3168, ⟨false, 1, 1, (fun i_1 => [.p (.int .i64 (↑e : Int))])⟩), (2976, ⟨false, 1, (m + 1), (fun i_1 => (if (i_1 < m) then [.p (.int .i64 (T1 i_1))] else [.p (.int .i64 ((g e).1))]))⟩), (2944, ⟨false, 1, 1, (fun i_1 => [.p (.int .i64 ((g e).1))])⟩), (1888, ⟨false, 1, N, (fun i_1 => (if (i_1 = (g e).1.toNat) then [.p (.int .i64 (F1 (g e).1.toNat - 1))] else [.p (.int .i64 (F1 i_1))]))⟩), (1568, ⟨true, 2, 1, (fun i_1 => [.p (.int .i64 ((g e).1)), .p (.int .i64 ((g e).2.1))])⟩), (32, ⟨true, 3, 1, (fun i_1 => [.p (.seq true 1 N (fun i_2 => [.int .i64 (F i_2)])), .p (.seq true 1 m (fun i_2 => [.int .i64 (T i_2)])), .p (.seq true 1 m (fun i_2 => [.int .i64 (Q i_2)]))])⟩), (0, ⟨true, 2, 1, (fun i_1 => [.p (.int .i64 (↑N : Int)), .p (.seq true 2 nb (fun i_2 => [.int .i64 ((g i_2).1), .int .i64 ((g i_2).2.1)]))])⟩)] [1888, 2976, 3200] 1 (m + 1) (fun i => if (i < m) then [.p (.int .i64 (Q i))] else [.p (.int .i64 (↑e : Int))]) (fun i => [.p (.int .i64 (if i < m then Q i else (↑e : Int)))])),(AE N),(AE ((m + 1))),(AE ((m + 1)))] := by kernel_rfl
theorem nPb (g : Nat → T_Bar) (nb N k l m e : Nat) (F T Q F1 T1 : Nat → Int) :
    pathOb Tryz.prog Tryz.f149 0 [rg 4, rm [(3, oc [] (.p (.bool true))), (4, oc [] (.p (.bool true)))] 31, .dec false, rg 7, rm [(8, oc (pebR N m F1 T1 Q) (.tup [pebO N m 0, .p (.bool true)]))] 6, rg 2, .dec false, rg 3, rg 7, .dec true, rg 3, rg 11, rg 7, rg 7, rg 3] [.code (bodyOf Tryz.f149)] (start Tryz.f149 [] 0 [grG g nb N, .p (.int .i64 k), .p (.int .i64 l), pebD N m F T Q, .p (.int .i64 e)]) [1888, 3072, 3296] 1 (pebR N (m + 1) (fun s => if s = (g e).2.1.toNat then F1 s - 1 else F1 s) (fun s => if s < m then T1 s else (g e).2.1) (fun s => if s < m then Q s else e)) (.tup [pebO N (m + 1) 0, .p (.bool true)]) =
    some [(NT 0 1),(NT 0 1),Con Tryz.prog 191 0 [] [(zf78 N nb g), .p (.int .i64 (↑k : Int)), (zf48 N F m T Q)] [] (.p (.bool true)),(AG (!!true)),(AG (!!true)),(((!!true) = true) →  Con Tryz.prog 117 0 [] [.p (.int .i64 (↑k : Int)), .p (.int .i64 (↑l : Int))] [] (.p (.bool true))),(AG (!!true)),(((!true) = false) →  ((!!true) = true)),(AG (!bif !true then true else !true)),(((bif !true then true else !true) = false) →  ((!bif !true then true else !true) = true)),(AG (!bif bif !true then true else !true then true else decide ((↑e : Int) < 0))),(((!bif bif !true then true else !true then true else decide ((↑e : Int) < 0)) = true) → (NT 0 1)),(AG (!bif bif !true then true else !true then true else decide ((↑e : Int) < 0))),(AG (!bif bif !true then true else !true then true else decide ((↑e : Int) < 0))),(AG (!bif bif !true then true else !true then true else decide ((↑e : Int) < 0))),(((bif bif !true then true else !true then true else decide ((↑e : Int) < 0)) = false) →  ((!bif bif !true then true else !true then true else decide ((↑e : Int) < 0)) = true)),(AG (!bif bif bif !true then true else !true then true else decide ((↑e : Int) < 0) then true else decide ((↑e : Int) ≥ (↑nb : Int)))),(((!bif bif bif !true then true else !true then true else decide ((↑e : Int) < 0) then true else decide ((↑e : Int) ≥ (↑nb : Int))) = true) → (NT 0 1)),(AG (!bif bif bif !true then true else !true then true else decide ((↑e : Int) < 0) then true else decide ((↑e : Int) ≥ (↑nb : Int)))),(AG (!bif bif bif !true then true else !true then true else decide ((↑e : Int) < 0) then true else decide ((↑e : Int) ≥ (↑nb : Int)))),(AG (!bif bif bif !true then true else !true then true else decide ((↑e : Int) < 0) then true else decide ((↑e : Int) ≥ (↑nb : Int)))),(AG ((!bif bif bif !true then true else !true then true else decide ((↑e : Int) < 0) then true else decide ((↑e : Int) ≥ (↑nb : Int))) && decide ((↑m : Int) > 0))),((((!bif bif bif !true then true else !true then true else decide ((↑e : Int) < 0) then true else decide ((↑e : Int) ≥ (↑nb : Int))) && decide ((↑m : Int) > 0)) = true) → (NT 0 1)),(AG ((!bif bif bif !true then true else !true then true else decide ((↑e : Int) < 0) then true else decide ((↑e : Int) ≥ (↑nb : Int))) && decide ((↑m : Int) > 0))),((((!bif bif bif !true then true else !true then true else decide ((↑e : Int) < 0) then true else decide ((↑e : Int) ≥ (↑nb : Int))) && decide ((↑m : Int) > 0)) = true) → (NT 0 1)),(AG ((!bif bif bif !true then true else !true then true else decide ((↑e : Int) < 0) then true else decide ((↑e : Int) ≥ (↑nb : Int))) && decide ((↑m : Int) > 0))),(AG ((!bif bif bif !true then true else !true then true else decide ((↑e : Int) < 0) then true else decide ((↑e : Int) ≥ (↑nb : Int))) && decide ((↑m : Int) > 0))),((((!bif bif bif !true then true else !true then true else decide ((↑e : Int) < 0) then true else decide ((↑e : Int) ≥ (↑nb : Int))) && decide ((↑m : Int) > 0)) = true) → (R0 ((↑m : Int) - 1))),((((!bif bif bif !true then true else !true then true else decide ((↑e : Int) < 0) then true else decide ((↑e : Int) ≥ (↑nb : Int))) && decide ((↑m : Int) > 0)) = true) → (R1 ((↑m : Int) - 1))),(AG ((!bif bif bif !true then true else !true then true else decide ((↑e : Int) < 0) then true else decide ((↑e : Int) ≥ (↑nb : Int))) && decide ((↑m : Int) > 0))),(AG ((!bif bif bif !true then true else !true then true else decide ((↑e : Int) < 0) then true else decide ((↑e : Int) ≥ (↑nb : Int))) && decide ((↑m : Int) > 0))),((((!bif bif bif !true then true else !true then true else decide ((↑e : Int) < 0) then true else decide ((↑e : Int) ≥ (↑nb : Int))) && decide ((↑m : Int) > 0)) = true) → (IL 0 ((↑m : Int) - 1))),((((!bif bif bif !true then true else !true then true else decide ((↑e : Int) < 0) then true else decide ((↑e : Int) ≥ (↑nb : Int))) && decide ((↑m : Int) > 0)) = true) → (IT ((↑m : Int) - 1) (↑m : Int))),(AG ((!bif bif bif !true then true else !true then true else decide ((↑e : Int) < 0) then true else decide ((↑e : Int) ≥ (↑nb : Int))) && decide ((↑m : Int) > 0))),(AG ((!bif bif bif !true then true else !true then true else decide ((↑e : Int) < 0) then true else decide ((↑e : Int) ≥ (↑nb : Int))) && decide ((↑m : Int) > 0))),(AG ((!bif bif bif !true then true else !true then true else decide ((↑e : Int) < 0) then true else decide ((↑e : Int) ≥ (↑nb : Int))) && decide ((↑m : Int) > 0))),(AG (!bif bif bif !true then true else !true then true else decide ((↑e : Int) < 0) then true else decide ((↑e : Int) ≥ (↑nb : Int)))),(((!bif bif bif !true then true else !true then true else decide ((↑e : Int) < 0) then true else decide ((↑e : Int) ≥ (↑nb : Int))) = true) → (((decide ((↑m : Int) > 0)) = true) →  (((!bif bif bif !true then true else !true then true else decide ((↑e : Int) < 0) then true else decide ((↑e : Int) ≥ (↑nb : Int))) && decide ((↑m : Int) > 0)) = true))),(((bif bif bif !true then true else !true then true else decide ((↑e : Int) < 0) then true else decide ((↑e : Int) ≥ (↑nb : Int))) = false) →  ((!bif bif bif !true then true else !true then true else decide ((↑e : Int) < 0) then true else decide ((↑e : Int) ≥ (↑nb : Int))) = true)),((bif bif bif bif !true then true else !true then true else decide ((↑e : Int) < 0) then true else decide ((↑e : Int) ≥ (↑nb : Int)) then true else bif decide ((↑m : Int) > 0) then decide (Q ((↑m : Int) - 1).toNat ≥ (↑e : Int)) else false) = false),(NT 0 1),(IL 0 (↑e : Int)),(IT (↑e : Int) (↑nb : Int)),(NT 0 1),((true = true) →  (AN 1)),(NT 0 1),(NT 0 1),(NT 0 1),(NT 0 1),(R0 ((↑l : Int) + 1)),(R1 ((↑l : Int) + 1)),Con Tryz.prog 193 0 [] [(zf78 N nb g), (zf48 N F m T Q), .p (.int .i64 ((g e).1)), .p (.int .i64 ((g e).2.1)), .p (.int .i64 ((↑l : Int) + 1))] (zf25 N F1 m T1 Q) ((zf88 N m)),(NT 0 1),((true = true) →  (AN 1)),((!true) = false),(NT 0 1),(NT 0 1),(NT 0 1),(IL 0 ((g e).1)),(IT ((g e).1) (↑N : Int)),(NT ((g e).1.toNat) N),((F1 (g e).1.toNat == 0) = true),(NT 0 1),(NT 0 1),(NT 0 1),(IL 0 ((g e).2.1)),(IT ((g e).2.1) (↑N : Int)),(NT ((g e).2.1.toNat) N),(R0 (F1 (g e).2.1.toNat - 1)),(R1 (F1 (g e).2.1.toNat - 1)),(IL 0 ((g e).2.1)),(IT ((g e).2.1) (↑N : Int)),(NT ((g e).2.1.toNat) N),((false = true) →  ((N : Nat) = 1)),(NT 0 1),(NL 1 1),(NL m m),(NL ((m + 1) * 8) 140737488355328),(NL (m + 1) 9223372036854775807),(NT 0 1),((true = true) →  (AN 1)),(NT 0 1),(NL 1 1),(NL m m),(NL ((m + 1) * 8) 140737488355328),(NL (m + 1) 9223372036854775807),(NT 0 1),((true = true) →  (AN 1)),(NT 0 1),(NT 0 1),((true = true) →  (AN 1)),(NT 0 1),(AN 0),(AN N),(AN 0),(AN ((m + 1))),(AN 0),(AN ((m + 1))),(true = true),(AN 1),(NL N N),(CV [(64, ⟨true, 3, 1, (fun i_1 => [.ar 1 1888 0 N, .ar 1 3072 0 (m + 1), .ar 1 3296 0 (m + 1)])⟩), (2016, ⟨true, 3, 1, (fun i_1 => [.ar 1 1888 0 N, .ar 1 3072 0 (m + 1), .ar 1 3296 0 (m + 1)])⟩), (3296, ⟨false, 1, (m + 1), (fun i_1 => (if (i_1 < m) then [.p (.int .i64 (Q i_1))] else [.p (.int .i64 (↑e : Int))]))⟩), (3264, ⟨false, 1, 1, (fun i_1 => [.p (.int .i64 (↑e : Int))])⟩), (3072, ⟨false, 1, (m + 1), (fun i_1 => (if (i_1 < m) then [.p (.int .i64 (T1 i_1))] else [.p (.int .i64 ((g e).2.1))]))⟩), (3040, ⟨false, 1, 1, (fun i_1 => [.p (.int .i64 ((g e).2.1))])⟩), (1888, ⟨false, 1, N, (fun i_1 => (if (i_1 = (g e).2.1.toNat) then [.p (.int .i64 (F1 (g e).2.1.toNat - 1))] else [.p (.int .i64 (F1 i_1))]))⟩), (1568, ⟨true, 2, 1, (fun i_1 => [.p (.int .i64 ((g e).1)), .p (.int .i64 ((g e).2.1))])⟩), (32, ⟨true, 3, 1, (fun i_1 => [.p (.seq true 1 N (fun i_2 => [.int .i64 (F i_2)])), .p (.seq true 1 m (fun i_2 => [.int .i64 (T i_2)])), .p (.seq true 1 m (fun i_2 => [.int .i64 (Q i_2)]))])⟩), (0, ⟨true, 2, 1, (fun i_1 => [.p (.int .i64 (↑N : Int)), .p (.seq true 2 nb (fun i_2 => [.int .i64 ((g i_2).1), .int .i64 ((g i_2).2.1)]))])⟩)] [1888, 3072, 3296] 1 N (fun i => if (i = (g e).2.1.toNat) then [.p (.int .i64 (F1 (g e).2.1.toNat - 1))] else [.p (.int .i64 (F1 i))]) (fun i => [.p (.int .i64 (if i = (g e).2.1.toNat then F1 i - 1 else F1 i))])),(AN 1),(NL (m + 1) (m + 1)),(CV [(64, ⟨true, 3, 1, (fun i_1 => [.ar 1 1888 0 N, .ar 1 3072 0 (m + 1), .ar 1 3296 0 (m + 1)])⟩), (2016, ⟨true, 3, 1, (fun i_1 => [.ar 1 1888 0 N, .ar 1 3072 0 (m + 1), .ar 1 3296 0 (m + 1)])⟩), (3296, ⟨false, 1, (m + 1), (fun i_1 => (if (i_1 < m) then [.p (.int .i64 (Q i_1))] else [.p (.int .i64 (↑e : Int))]))⟩), (3264, ⟨false, 1, 1, (fun i_1 => [.p (.int .i64 (↑e : Int))])⟩), (3072, ⟨false, 1, (m + 1), (fun i_1 => (if (i_1 < m) then [.p (.int .i64 (T1 i_1))] else [.p (.int .i64 ((g e).2.1))]))⟩), (3040, ⟨false, 1, 1, (fun i_1 => [.p (.int .i64 ((g e).2.1))])⟩), (1888, ⟨false, 1, N, (fun i_1 => (if (i_1 = (g e).2.1.toNat) then [.p (.int .i64 (F1 (g e).2.1.toNat - 1))] else [.p (.int .i64 (F1 i_1))]))⟩), (1568, ⟨true, 2, 1, (fun i_1 => [.p (.int .i64 ((g e).1)), .p (.int .i64 ((g e).2.1))])⟩), (32, ⟨true, 3, 1, (fun i_1 => [.p (.seq true 1 N (fun i_2 => [.int .i64 (F i_2)])), .p (.seq true 1 m (fun i_2 => [.int .i64 (T i_2)])), .p (.seq true 1 m (fun i_2 => [.int .i64 (Q i_2)]))])⟩), (0, ⟨true, 2, 1, (fun i_1 => [.p (.int .i64 (↑N : Int)), .p (.seq true 2 nb (fun i_2 => [.int .i64 ((g i_2).1), .int .i64 ((g i_2).2.1)]))])⟩)] [1888, 3072, 3296] 1 (m + 1) (fun i => if (i < m) then [.p (.int .i64 (T1 i))] else [.p (.int .i64 ((g e).2.1))]) (fun i => [.p (.int .i64 (if i < m then T1 i else (g e).2.1))])),(AN 1),(NL (m + 1) (m + 1)),(CV [(64, ⟨true, 3, 1, (fun i_1 => [.ar 1 1888 0 N, .ar 1 3072 0 (m + 1), .ar 1 3296 0 (m + 1)])⟩), (2016, ⟨true, 3, 1, (fun i_1 => [.ar 1 1888 0 N, .ar 1 3072 0 (m + 1), .ar 1 3296 0 (m + 1)])⟩), (3296, ⟨false, 1, (m + 1), (fun i_1 => (if (i_1 < m) then [.p (.int .i64 (Q i_1))] else [.p (.int .i64 (↑e : Int))]))⟩), (3264, ⟨false, 1, 1, (fun i_1 => [.p (.int .i64 (↑e : Int))])⟩), (3072, ⟨false, 1, (m + 1), (fun i_1 => (if (i_1 < m) then [.p (.int .i64 (T1 i_1))] else [.p (.int .i64 ((g e).2.1))]))⟩), (3040, ⟨false, 1, 1, (fun i_1 => [.p (.int .i64 ((g e).2.1))])⟩), (1888, ⟨false, 1, N, (fun i_1 => (if (i_1 = (g e).2.1.toNat) then [.p (.int .i64 (F1 (g e).2.1.toNat - 1))] else [.p (.int .i64 (F1 i_1))]))⟩), (1568, ⟨true, 2, 1, (fun i_1 => [.p (.int .i64 ((g e).1)), .p (.int .i64 ((g e).2.1))])⟩), (32, ⟨true, 3, 1, (fun i_1 => [.p (.seq true 1 N (fun i_2 => [.int .i64 (F i_2)])), .p (.seq true 1 m (fun i_2 => [.int .i64 (T i_2)])), .p (.seq true 1 m (fun i_2 => [.int .i64 (Q i_2)]))])⟩), (0, ⟨true, 2, 1, (fun i_1 => [.p (.int .i64 (↑N : Int)), .p (.seq true 2 nb (fun i_2 => [.int .i64 ((g i_2).1), .int .i64 ((g i_2).2.1)]))])⟩)] [1888, 3072, 3296] 1 (m + 1) (fun i => if (i < m) then [.p (.int .i64 (Q i))] else [.p (.int .i64 (↑e : Int))]) (fun i => [.p (.int .i64 (if i < m then Q i else (↑e : Int)))])),(AE N),(AE ((m + 1))),(AE ((m + 1)))] := by kernel_rfl
theorem nUz (g : Nat → T_Bar) (nb N k l : Nat) :
    pieceOb Tryz.prog 0 [rg 3, rm [(2, oc (pebR N 0 (fun _ => k) (fun _ => 0) (fun _ => 0)) (.tup [pebO N 0 0, .p (.bool true)]))] 6, rm [(5, oc [] (.p (.bool true)))] 2, .dec false, rg 1, .head] [.code (bodyOf Tryz.f97)] (start Tryz.f97 [] 0 [grG g nb N, .p (.int .i64 k), .p (.int .i64 l)]) [0, 32, 288, 160, 161, 162] 1 (SRu g nb N k l 0 (fun _ => k) (fun _ => 0) (fun _ => 0) 0) =
    some (zf42, [(NT 0 1),Con Tryz.prog 148 0 [] [(zf78 N nb g), .p (.int .i64 (↑k : Int))] [(0, ⟨false, 1, N, (fun i => [.p (.int .i64 (↑k : Int))])⟩), (1, ⟨false, 1, 0, (fun i => [.p (.int .i64 0)])⟩), (2, ⟨false, 1, 0, (fun i => [.p (.int .i64 0)])⟩)] (.tup [.agg [.ar 1 0 0 N, .ar 1 1 0 0, .ar 1 2 0 0], .p (.bool true)]),(NT 0 1),((true = true) →  (AN 1)),(AG (!!true)),(AG (!!true)),(((!!true) = true) →  Con Tryz.prog 117 0 [] [.p (.int .i64 (↑k : Int)), .p (.int .i64 (↑l : Int))] [] (.p (.bool true))),(AG (!!true)),(((!true) = false) →  ((!!true) = true)),((bif !true then true else !true) = false),(AI ((↑N : Int))),(AN nb),(AP nb (fun i => [.int .i64 ((g i).1), .int .i64 ((g i).2.1)])),(AI ((↑k : Int))),(AI ((↑l : Int))),(AN 0),(AN 0),(AN 0),((0 : Int) = (↑0 : Int)),((([AV.p (PV.int IntKind.i64 (↑N : Int)), brL g nb].length) : Nat) = 2),(NL 1 1),(NL 1 1),(AI ((↑N : Int))),(AN nb),(AP nb (fun i => [.int .i64 ((g i).1), .int .i64 ((g i).2.1)])),((((List.map (fun v => AV.p (absV v)) [Value.slice none 0 0, Value.slice none 0 0, Value.slice none 0 0]).length) : Nat) = 3),(NL 1 1),(NL 1 1),((((List.map (fun v => AV.p (absV v)) [Value.slice none 0 0, Value.slice none 0 0, Value.slice none 0 0]).length) : Nat) = 3),(NL 1 1),(NL 1 1),(AN 0),(AN N),(AN 0),(AN 0),(AN 0),(AN 0),(AN 1),(NL N N),(AA N (fun i => [.p (.int .i64 (↑k : Int))])),(AN 1),(NL 0 0),(AA 0 (fun i => [.p (.int .i64 0)])),(AN 1),(NL 0 0),(AA 0 (fun i => [.p (.int .i64 0)]))]) := by kernel_rfl
theorem nUl (g : Nat → T_Bar) (nb N k l m m' : Nat) (F T Q F' T' Q' : Nat → Int) (i : Nat) (r : Bool) :
    pieceOb Tryz.prog 0 [rg 5, .dec true, rm [(5, oc (pebR N m' F' T' Q') (.tup [pebO N m' 0, .p (.bool r)]))] 4, rg 3, .head] zf42 (SRu g nb N k l m F T Q i) [0, 1, 2, 326, 327, 328] 1 (SRu g nb N k l m' F' T' Q' (i + 1)) =
    some (zf42, [(NT 0 1),((decide ((↑i : Int) < (↑nb : Int))) = true),(NT 0 1),(NT 0 1),(AN 1),(NL N N),(AN 1),(NL m m),(AN 1),(NL m m),Con Tryz.prog 149 0 [] [(zf76 N nb g), .p (.int .i64 (↑k : Int)), .p (.int .i64 (↑l : Int)), (zf26 N F m T Q), .p (.int .i64 (↑i : Int))] (zf19 N F' m' T' Q') (.tup [.agg [.ar 1 0 0 N, .ar 1 1 0 m', .ar 1 2 0 m'], .p (.bool r)]),(NT 0 1),((true = true) →  (AN 1)),(R0 ((↑i : Int) + 1)),(R1 ((↑i : Int) + 1)),(AI ((↑N : Int))),(AN nb),(AP nb (fun i_1 => [.int .i64 ((g i_1).1), .int .i64 ((g i_1).2.1)])),(AI ((↑k : Int))),(AI ((↑l : Int))),(AN 0),(AN 0),(AN 0),((((↑i : Int) + 1) : Int) = (↑(i + 1) : Int)),(AN 2),(NL 1 1),(NL 1 1),(AI ((↑N : Int))),(AN nb),(AP nb (fun i_1 => [.int .i64 ((g i_1).1), .int .i64 ((g i_1).2.1)])),(AN 3),(NL 1 1),(NL 1 1),(AN 3),(NL 1 1),(NL 1 1),(AN 0),(AN N),(AN 0),(AN (m')),(AN 0),(AN (m')),(AN 1),(NL N N),(AA N (fun i_1 => [.p (.int .i64 (F' i_1))])),(AN 1),(NL (m') (m')),(AA (m') (fun i_1 => [.p (.int .i64 (T' i_1))])),(AN 1),(NL (m') (m')),(AA (m') (fun i_1 => [.p (.int .i64 (Q' i_1))]))]) := by kernel_rfl
theorem nUe (g : Nat → T_Bar) (nb N k l m : Nat) (F T Q : Nat → Int) (i : Nat) :
    pathOb Tryz.prog Tryz.f97 0 [rg 5, .dec false, rg 3] zf42 (SRu g nb N k l m F T Q i) [3, 4, 5] 1 (pebR N m F T Q) (.tup [pebO N m 0, .p (.bool true)]) =
    some [(NT 0 1),((decide ((↑i : Int) < (↑nb : Int))) = false),(NT 0 1),(NT 0 1),((true = true) →  (AN 1)),(NT 0 1),(AN 0),(AN N),(AN 0),(AN m),(AN 0),(AN m),(true = true),(AN 1),(NL N N),(AA N (fun i_1 => [.p (.int .i64 (F i_1))])),(AN 1),(NL m m),(AA m (fun i_1 => [.p (.int .i64 (T i_1))])),(AN 1),(NL m m),(AA m (fun i_1 => [.p (.int .i64 (Q i_1))])),(AE N),(AE m),(AE m)] := by kernel_rfl
end Go.Proofs.YtffnfeefjdmifaaGreat.Mach
namespace Go.Proofs.YtffnfeefjdmifaaGreat.Mach
open Go
set_option linter.unusedVariables false
set_option linter.unusedSimpArgs false
theorem con_IsRange_i (k l : Nat) (hk : 1 ≤ k ∧ k ≤ 3) (hl : l + 1 ≤ 2 * k) : Con Tryz.prog 123 0 [] [.p (.int .i64 k), .p (.int .i64 l)] [] (.p (.bool true)) := by
  have h1 := con_within k 1 3
  rw [show inB k 1 3 = true by simp [inB]; omega] at h1
  have h2 := con_within l 0 (2 * (k : Int) - 1)
  rw [show inB l 0 (2 * (k : Int) - 1) = true by simp [inB]; omega] at h2
  refine con_start Tryz.func123 rfl (by kernel_rfl) rfl (fun c hc => ?_)
  refine path_ok mixed Tryz.func123 hc (nRi k l) ?_
  simp only [All]
  repeat' (first | exact trivial | with_reducible apply And.intro)
  all_goals (first | exact aG _ | omega | rfl | (intros; first | assumption | exact trivial | rfl | exact fT ‹_› | ((repeat' (first | assumption | apply anda | apply notf)); done)) | (exact h1) | (intros; exact h2) | (intros; omega) | (simp; done))
theorem con_IsRange_s (k l : Nat) (hk : 1 ≤ k ∧ k ≤ 3) (hl : l + 1 ≤ 2 * k) : Con Tryz.prog 117 0 [] [.p (.int .i64 k), .p (.int .i64 l)] [] (.p (.bool true)) := by
  have h1 := con_l1In k 1 3
  rw [show inB k 1 3 = true by simp [inB]; omega] at h1
  refine con_start Tryz.func117 rfl (by kernel_rfl) rfl (fun c hc => ?_)
  refine path_ok mixed Tryz.func117 hc (nRs k l) ?_
  simp only [All]
  repeat' (first | exact trivial | with_reducible apply And.intro)
  all_goals (first | exact aG _ | omega | rfl | (intros; first | assumption | exact trivial | rfl | exact fT ‹_› | ((repeat' (first | assumption | apply anda | apply notf)); done)) | (exact h1) | (intros; omega) | (simp; omega))
def NonN (Q : Nat → Int) (m : Nat) : Prop := ∀ j, j < m → 0 ≤ Q j
theorem con_RunPebbles_i {N nb : Nat} {g : Nat → T_Bar} (hg : isGraphF ((N : Int), (nb, g), ()) = true) (k l : Nat) (hk : 1 ≤ k ∧ k ≤ 3) (hl : l + 1 ≤ 2 * k) :
    ∃ m F T Q, Con Tryz.prog 107 0 [] [grG g nb N, .p (.int .i64 k), .p (.int .i64 l)] (pebR N m F T Q) (.tup [pebO N m 0, .p (.bool true)]) ∧ m ≤ 24 ∧ NonN Q m ∧ qL Q m = accI N k l g nb := by
  obtain ⟨hN, hnb, hok⟩ := graph_in hg
  have hsm : smS s_Graph ((N : Int), (nb, g), ()) := ⟨by simp [smS, smL], ⟨by show nb ≤ 1048576; omega, fun i hi => by simp [smS, smL]⟩, True.intro⟩
  have hcg := con_IsGraph_i ((N : Int), (nb, g), ()) hsm
  rw [hg] at hcg
  have hr := con_IsRange_i k l hk hl
  obtain ⟨m, F, T, Q, hc1, hp, hq⟩ := con_play (N := N) (k := k) (l := l) hok (by omega) (by omega) (by omega) (by omega)
  have hm : m ≤ 24 := by
    have := accI_len N k l g nb
    rw [← hq, qL_length] at this; omega
  refine ⟨m, F, T, Q, ?_, hm, fun j hj => (hp.q j hj).1, hq⟩
  refine con_start Tryz.func107 rfl (by kernel_rfl) rfl (fun c hc => ?_)
  refine path_ok mixed Tryz.func107 hc (nUi g nb N k l m F T Q) ?_
  simp only [All]
  repeat' (first | exact trivial | with_reducible apply And.intro)
  all_goals (first | exact aG _ | exact aA _ _ | exact aE _ | omega | rfl | (intros; first | assumption | exact trivial | rfl | exact fT ‹_› | ((repeat' (first | assumption | apply anda | apply notf)); done)) | (exact hcg) | (intros; exact hr) | (exact hc1) | (simp; done) | (intro i hi; simp [All, aEt]))
theorem con_RankOf_i {N nb : Nat} {g : Nat → T_Bar} (hg : isGraphF ((N : Int), (nb, g), ()) = true) (k l : Nat) (hk : 1 ≤ k ∧ k ≤ 3) (hl : l + 1 ≤ 2 * k) :
    Con Tryz.prog 38 0 [] [grG g nb N, .p (.int .i64 k), .p (.int .i64 l)] [] (.p (.int .i64 ((accI N k l g nb).length : Nat))) := by
  obtain ⟨m, F, T, Q, hrun, hm, hn, hq⟩ := con_RunPebbles_i hg k l hk hl
  rw [← hq, qL_length]
  refine con_start Tryz.func38 rfl (by kernel_rfl) rfl (fun c hc => ?_)
  refine path_ok mixed Tryz.func38 hc (nKi g nb N k l m F T Q) ?_
  simp only [All]
  repeat' (first | exact trivial | with_reducible apply And.intro)
  all_goals (first | omega | rfl | (intros; first | assumption | exact trivial | rfl | exact fT ‹_› | ((repeat' (first | assumption | apply anda | apply notf)); done)) | (exact hrun) | (simp; done) | (intro i hi; simp [All, aEt]))
theorem con_l4Tail (N m : Nat) (F T Q : Nat → Int) (x : Int) (hm : m ≤ 1048576) : Con Tryz.prog 219 0 [] [pebD N m F T Q, .p (.int .i64 x)] [] (.p (.int .i64 (tcI T m x))) := by
  have hle : ∀ i, 0 ≤ tcI T i x ∧ tcI T i x ≤ i := by
    intro i
    induction i with
    | zero => simp [tcI]
    | succ i ih => simp only [tcI]; split <;> omega
  refine con_start Tryz.func219 rfl (by kernel_rfl) rfl (fun c hc => ?_)
  have lp : ∀ d i, i + d = m → Run Tryz.prog c 219 zf51 (ST0 N m F T Q x i) (Post c [] (.p (.int .i64 (tcI T m x)))) := by
    intro d
    induction d with
    | zero =>
      intro i hi
      have hi' : i = m := by omega
      have hd : decide ((i : Int) < (m : Int)) = false := by simp; omega
      rw [show tcI T m x = tcI T i x by rw [hi']]
      refine path_ok mixed Tryz.func219 hc (nTe N m F T Q x i) ?_
      simp only [All]
      repeat' (first | exact trivial | with_reducible apply And.intro)
      all_goals (first | omega | rfl | (intros; first | assumption | exact trivial | rfl | exact fT ‹_› | ((repeat' (first | assumption | apply anda | apply notf)); done)) | (exact hd) | (simp; done))
    | succ d ih =>
      intro i hi
      have hd : decide ((i : Int) < (m : Int)) = true := by simp; omega
      have hl := hle i
      by_cases h : T i = x
      · have hb : (T i == x) = true := by simp [h]
        refine piece_ok mixed hc (nTt N m F T Q x i) ?_ (ih (i + 1) (by omega))
        simp only [All]
        repeat' (first | exact trivial | with_reducible apply And.intro)
        all_goals (first | exact aP _ _ | omega | rfl | (intros; first | assumption | exact trivial | rfl | exact fT ‹_› | ((repeat' (first | assumption | apply anda | apply notf)); done)) | (exact hb) | (simp only [tcI, h, if_true]; done) | (simp only [tcI, h, if_true]; omega) | (intro j hj; simp [All, aEt]))
      · have hb : (T i == x) = false := by simp [h]
        refine piece_ok mixed hc (nTf N m F T Q x i) ?_ (ih (i + 1) (by omega))
        simp only [All]
        repeat' (first | exact trivial | with_reducible apply And.intro)
        all_goals (first | exact aP _ _ | omega | rfl | (intros; first | assumption | exact trivial | rfl | exact fT ‹_› | ((repeat' (first | assumption | apply anda | apply notf)); done)) | (exact hb) | (simp only [tcI, h, if_false]; omega) | (intro j hj; simp [All, aEt]))
  refine piece_ok mixed hc (nTz N m F T Q x) ?_ (lp m 0 (by omega))
  simp only [All]
  repeat' (first | exact trivial | with_reducible apply And.intro)
  all_goals (first | exact aP _ _ | omega | rfl | (intros; first | assumption | exact trivial | rfl | exact fT ‹_› | ((repeat' (first | assumption | apply anda | apply notf)); done)) | (intro j hj; simp [All, aEt]))
def Asc (Q : Nat → Int) (m : Nat) : Prop := ∀ j, j + 1 < m → Q j < Q (j + 1)
theorem badI_f {N k nb m : Nat} {g : Nat → T_Bar} {F T Q : Nat → Int} (hp : PInv N k nb m g F T Q) (ha : Asc Q m) (i : Nat) (hi : i < m) : badI g nb T Q i = false := by
  have h1 := hp.q i hi
  have h2 := hp.t i hi
  have a1 : decide (Q i < 0) = false := by simp; omega
  have a2 : decide (Q i ≥ (nb : Int)) = false := by simp; omega
  have a3 : (bif decide ((i : Int) > 0) then decide (Q ((i : Int) - 1).toNat ≥ Q i) else false) = false := by
    by_cases h : i = 0
    · subst h; rfl
    · have := ha (i - 1) (by omega)
      have e : ((i : Int) - 1).toNat = i - 1 := by omega
      rw [show i - 1 + 1 = i by omega] at this
      rw [e]
      have h4 : decide (Q (i - 1) ≥ Q i) = false := by simp; omega
      rw [h4]
      cases decide ((i : Int) > 0) <;> rfl
  have a4 : (bif T i != (g (Q i).toNat).1 then T i != (g (Q i).toNat).2.1 else false) = false := by
    rcases h2 with e | e
    · rw [show (T i != (g (Q i).toNat).1) = false by simp [e]]; rfl
    · rw [show (T i != (g (Q i).toNat).2.1) = false by simp [e]]
      cases (T i != (g (Q i).toNat).1) <;> rfl
  unfold badI
  rw [a1, a2, a3, a4]
  rfl
theorem con_IsPebbles {N k nb m : Nat} {g : Nat → T_Bar} {F T Q : Nat → Int} (hp : PInv N k nb m g F T Q) (ha : Asc Q m) (hg : isGraphF ((N : Int), (nb, g), ()) = true) (hk : 1 ≤ k ∧ k ≤ 3) (hm : m ≤ 1048576) :
    Con Tryz.prog 191 0 [] [grG g nb N, .p (.int .i64 k), pebD N m F T Q] [] (.p (.bool true)) := by
  obtain ⟨hN, hnb, hok⟩ := graph_in hg
  have hsm : smS s_Graph ((N : Int), (nb, g), ()) := ⟨by simp [smS, smL], ⟨by show nb ≤ 1048576; omega, fun i hi => by simp [smS, smL]⟩, True.intro⟩
  have hcg := con_IsGraph_s ((N : Int), (nb, g), ()) hsm
  rw [hg] at hcg
  have h1 := con_l1In k 1 3
  rw [show inB k 1 3 = true by simp [inB]; omega] at h1
  refine con_start Tryz.func191 rfl (by kernel_rfl) rfl (fun c hc => ?_)
  have lp1 : ∀ d i, i + d = N → Run Tryz.prog c 191 zf33 (SI1 g nb N k m F T Q i) (Post c [] (.p (.bool true))) := by
    intro d
    induction d with
    | zero =>
      intro i hi
      have hd : decide ((i : Int) < (N : Int)) = false := by simp; omega
      refine path_ok mixed Tryz.func191 hc (nJe g nb N k m F T Q i) ?_
      simp only [All]
      repeat' (first | exact trivial | with_reducible apply And.intro)
      all_goals (first | omega | rfl | (intros; first | assumption | exact trivial | rfl | exact fT ‹_› | ((repeat' (first | assumption | apply anda | apply notf)); done)) | (exact hd) | (simp; done))
    | succ d ih =>
      intro i hi
      have hd : decide ((i : Int) < (N : Int)) = true := by simp; omega
      have ht := con_l4Tail N m F T Q i hm
      have hf0 := hp.f0 i (by omega)
      have hsum := hp.sum i (by omega)
      have htn := tcI_nonneg T i m
      have hb : (bif decide (F i < 0) then true else F i + tcI T m i != (k : Int)) = false := by
        have h4 : decide (F i < 0) = false := by simp; omega
        rw [h4]
        simp [hsum]
      refine piece_ok mixed hc (nI1 g nb N k m F T Q i) ?_ (ih (i + 1) (by omega))
      simp only [All]
      repeat' (first | exact trivial | with_reducible apply And.intro)
      all_goals (first | exact aG _ | exact aP _ _ | omega | rfl | (intros; first | assumption | exact trivial | rfl | exact fT ‹_› | ((repeat' (first | assumption | apply anda | apply notf)); done)) | (intros; exact ht) | (exact hb) | (intros; omega) | (intro j hj; simp [All, aEt]))
  have lp0 : ∀ d i, i + d = m → Run Tryz.prog c 191 zf52 (SI0 g nb N k m F T Q i) (Post c [] (.p (.bool true))) := by
    intro d
    induction d with
    | zero =>
      intro i hi
      have hd : decide ((i : Int) < (m : Int)) = false := by simp; omega
      refine piece_ok mixed hc (nI01 g nb N k m F T Q i) ?_ (lp1 N 0 (by omega))
      simp only [All]
      repeat' (first | exact trivial | with_reducible apply And.intro)
      all_goals (first | exact aP _ _ | omega | rfl | (intros; first | assumption | exact trivial | rfl | exact fT ‹_› | ((repeat' (first | assumption | apply anda | apply notf)); done)) | (exact hd) | (intro j hj; simp [All, aEt]))
    | succ d ih =>
      intro i hi
      have him : i < m := by omega
      have hd : decide ((i : Int) < (m : Int)) = true := by simp; omega
      have hbad := badI_f hp ha i him
      have hq := hp.q i him
      refine piece_ok mixed hc (nI0 g nb N k m F T Q i) ?_ (ih (i + 1) (by omega))
      simp only [All]
      repeat' (first | exact trivial | with_reducible apply And.intro)
      all_goals (first | exact aG _ | exact aP _ _ | omega | rfl | (intros; first | assumption | exact trivial | rfl | exact fT ‹_› | ((repeat' (first | assumption | apply anda | apply notf)); done)) | (exact hbad) | (intros; omega) | (intro h; have := idx_lt h him; omega) | (intro h; show (0 : Int) ≤ Q i ∧ Q i < nb; omega) | (intro j hj; simp [All, aEt]))
  refine piece_ok mixed hc (nJz g nb N k m F T Q) ?_ (lp0 m 0 (by omega))
  simp only [All]
  repeat' (first | exact trivial | with_reducible apply And.intro)
  all_goals (first | exact aG _ | exact aP _ _ | omega | rfl | (intros; first | assumption | exact trivial | rfl | exact fT ‹_› | ((repeat' (first | assumption | apply anda | apply notf)); done)) | (exact hcg) | (intros; exact h1) | (simp; done) | (intro j hj; simp [All, aEt]))
theorem con_PlaceBar {N k nb m l e : Nat} {g : Nat → T_Bar} {F T Q : Nat → Int} (hp : PInv N k nb m g F T Q) (ha : Asc Q m) (hlt : ∀ j, j < m → Q j < e) (hg : isGraphF ((N : Int), (nb, g), ()) = true) (hk : 1 ≤ k ∧ k ≤ 3) (hl : l + 1 ≤ 2 * k) (hm : m ≤ 1000) (he : e < nb)
    (hsp : Mat.Sparse N k l (plL g Q m)) :
    (∃ F' T', Con Tryz.prog 149 0 [] [grG g nb N, .p (.int .i64 k), .p (.int .i64 l), pebD N m F T Q, .p (.int .i64 (e : Nat))] (pebR N (m + 1) F' T' (fun s => if s < m then Q s else e)) (.tup [pebO N (m + 1) 0, .p (.bool true)]) ∧
      PInv N k nb (m + 1) g F' T' (fun s => if s < m then Q s else e) ∧ Mat.Sparse N k l (plL g Q m ++ [brN (g e)])) ∨
    (Con Tryz.prog 149 0 [] [grG g nb N, .p (.int .i64 k), .p (.int .i64 l), pebD N m F T Q, .p (.int .i64 (e : Nat))] (pebR N m F T Q) (.tup [pebO N m 0, .p (.bool false)]) ∧ ¬ Mat.Sparse N k l (plL g Q m ++ [brN (g e)])) := by
  obtain ⟨hN, hnb, hok⟩ := graph_in hg
  have hbar := hok e he
  have hip := con_IsPebbles hp ha hg hk (by omega)
  have hir := con_IsRange_s k l hk hl
  have hcc := con_l4Copy N m F T Q (by omega) (by omega)
  have hb : (bif bif bif bif !true then true else !true then true else decide ((e : Int) < 0) then true else decide ((e : Int) ≥ (nb : Int)) then true else bif decide ((m : Int) > 0) then decide (Q ((m : Int) - 1).toNat ≥ (e : Int)) else false) = false := by
    have b1 : decide ((e : Int) < 0) = false := decide_eq_false (by omega)
    have b2 : decide ((e : Int) ≥ (nb : Int)) = false := by simp; omega
    have b3 : (bif decide ((m : Int) > 0) then decide (Q ((m : Int) - 1).toNat ≥ (e : Int)) else false) = false := by
      by_cases h : m = 0
      · subst h; rfl
      · have := hlt ((m : Int) - 1).toNat (by omega)
        have h4 : decide (Q ((m : Int) - 1).toNat ≥ (e : Int)) = false := decide_eq_false (by omega)
        rw [h4]
        cases decide ((m : Int) > 0) <;> rfl
    rw [b1, b2, b3]; rfl
  obtain ⟨F1, T1, r, hc1, h1, h2, h3⟩ := con_l4Gather (l := l) (a := (g e).1) (b := (g e).2.1) hp (by omega) (by omega) (by omega) (by omega) (by omega) (by omega) (by omega)
  have hlA := h1.le (v := (g e).1.toNat) (by omega)
  have hlB := h1.le (v := (g e).2.1.toNat) (by omega)
  cases r with
  | false =>
    right
    refine ⟨?_, h3 rfl⟩
    refine con_start Tryz.func149 rfl (by kernel_rfl) rfl (fun c hc => ?_)
    refine path_ok mixed Tryz.func149 hc (nPf g nb N k l m e F T Q F1 T1) ?_
    simp only [All]
    repeat' (first | exact trivial | with_reducible apply And.intro)
    all_goals (first | exact aG _ | exact aA _ _ | exact aE _ | omega | rfl | (intros; first | assumption | exact trivial | rfl | exact fT ‹_› | ((repeat' (first | assumption | apply anda | apply notf)); done)) | (exact hip) | (intros; exact hir) | (exact hb) | (exact hc1) | (exact hcc) | (simp; done) | (intro h; have := idx_lt h (Nat.lt_succ_self m); omega) | (intro i hi; simp [All, aEt]))
  | true =>
    left
    have hw := h2 rfl
    have hacc : Mat.Sparse N k l (plL g Q m ++ [brN (g e)]) := by
      have := (h1.game l).accept (by rw [barsOf_gm]; exact hsp) (g e).1.toNat (g e).2.1.toNat ⟨by show (g e).1.toNat ≠ (g e).2.1.toNat; omega, by show (g e).1.toNat < N; omega, by show (g e).2.1.toNat < N; omega⟩
        (by show l + 1 ≤ (F1 (g e).1.toNat).toNat + (F1 (g e).2.1.toNat).toNat; omega)
      rw [barsOf_gm] at this
      exact this
    by_cases hz : F1 (g e).1.toNat = 0
    · have hzb : (F1 (g e).1.toNat == 0) = true := by simp [hz]
      refine ⟨_, _, ?_, h1.placed e he (g e).2.1 (.inr rfl) (by omega), hacc⟩
      refine con_start Tryz.func149 rfl (by kernel_rfl) rfl (fun c hc => ?_)
      refine path_ok mixed Tryz.func149 hc (nPb g nb N k l m e F T Q F1 T1) ?_
      simp only [All]
      repeat' (first | exact trivial | with_reducible apply And.intro)
      all_goals (first | exact aG _ | exact aE _ | omega | rfl | (intros; first | assumption | exact trivial | rfl | exact fT ‹_› | ((repeat' (first | assumption | apply anda | apply notf)); done)) | (exact hip) | (intros; exact hir) | (exact hb) | (exact hc1) | (exact hzb) | (simp; done) | (intro h; have := idx_lt h (Nat.lt_succ_self m); omega) | (intro i hi; simp [All, aEt]; done) | (intro i hi; by_cases h : i < m <;> simp [h, cvtL, cvt, tg, tru, All]; done) | (intro i hi; by_cases h : i = (g e).2.1.toNat <;> simp [h, cvtL, cvt, tg, tru, All]))
    · have hzb : (F1 (g e).1.toNat == 0) = false := by simp [hz]
      refine ⟨_, _, ?_, h1.placed e he (g e).1 (.inl rfl) (by omega), hacc⟩
      refine con_start Tryz.func149 rfl (by kernel_rfl) rfl (fun c hc => ?_)
      refine path_ok mixed Tryz.func149 hc (nPa g nb N k l m e F T Q F1 T1) ?_
      simp only [All]
      repeat' (first | exact trivial | with_reducible apply And.intro)
      all_goals (first | exact aG _ | exact aE _ | omega | rfl | (intros; first | assumption | exact trivial | rfl | exact fT ‹_› | ((repeat' (first | assumption | apply anda | apply notf)); done)) | (exact hip) | (intros; exact hir) | (exact hb) | (exact hc1) | (exact hzb) | (simp; done) | (intro h; have := idx_lt h (Nat.lt_succ_self m); omega) | (intro i hi; simp [All, aEt]; done) | (intro i hi; by_cases h : i < m <;> simp [h, cvtL, cvt, tg, tru, All]; done) | (intro i hi; by_cases h : i = (g e).1.toNat <;> simp [h, cvtL, cvt, tg, tru, All]))
theorem con_RunPebbles_s {N nb : Nat} {g : Nat → T_Bar} (hg : isGraphF ((N : Int), (nb, g), ()) = true) (k l : Nat) (hk : 1 ≤ k ∧ k ≤ 3) (hl : l + 1 ≤ 2 * k) :
    ∃ m F T Q, Con Tryz.prog 97 0 [] [grG g nb N, .p (.int .i64 k), .p (.int .i64 l)] (pebR N m F T Q) (.tup [pebO N m 0, .p (.bool true)]) ∧ m ≤ 24 ∧ NonN Q m ∧ qL Q m = accI N k l g nb := by
  obtain ⟨hN, hnb, hok⟩ := graph_in hg
  have hr := con_IsRange_s k l hk hl
  have hn := con_NewPebbles (nb := nb) (g := g) (N := N) (k := k) (by omega) hk hg (by omega)
  have lp : ∀ d i m F T Q, i + d = nb → PInv N k nb m g F T Q → Asc Q m → (∀ j, j < m → Q j < (i : Nat)) → qL Q m = accI N k l g i →
      ∃ m' F' T' Q', (∀ c, c.n = 0 → Run Tryz.prog c 97 zf42 (SRu g nb N k l m F T Q i) (Post c (pebR N m' F' T' Q') (.tup [pebO N m' 0, .p (.bool true)]))) ∧ NonN Q' m' ∧ qL Q' m' = accI N k l g nb := by
    intro d
    induction d with
    | zero =>
      intro i m F T Q hi hp ha hlt hq
      have hi' : i = nb := by omega
      refine ⟨m, F, T, Q, fun c hc => ?_, fun j hj => (hp.q j hj).1, by rw [hq, hi']⟩
      have hd : decide ((i : Int) < (nb : Int)) = false := by simp; omega
      refine path_ok mixed Tryz.func97 hc (nUe g nb N k l m F T Q i) ?_
      simp only [All]
      repeat' (first | exact trivial | with_reducible apply And.intro)
      all_goals (first | exact aA _ _ | exact aE _ | omega | rfl | (intros; first | assumption | exact trivial | rfl | exact fT ‹_› | ((repeat' (first | assumption | apply anda | apply notf)); done)) | (exact hd) | (intro j hj; simp [All, aEt]))
    | succ d ih =>
      intro i m F T Q hi hp ha hlt hq
      have hd : decide ((i : Int) < (nb : Int)) = true := by simp; omega
      have hm : m ≤ 24 := by
        have := accI_len N k l g i
        rw [← hq, qL_length] at this; omega
      have hsp : Mat.Sparse N k l (plL g Q m) := by rw [plL_qL, hq]; exact accI_sparse N k l g i
      rcases con_PlaceBar (e := i) hp ha hlt hg hk hl (by omega) (by omega) hsp with ⟨F1, T1, hc1, hp1, hs1⟩ | ⟨hc1, hs1⟩
      · obtain ⟨m', F', T', Q', hrun, h2⟩ := ih (i + 1) (m + 1) F1 T1 _ (by omega) hp1 (fun j hj => by
          show (if j < m then Q j else (i : Int)) < (if j + 1 < m then Q (j + 1) else (i : Int))
          rw [if_pos (show j < m by omega)]
          by_cases h : j + 1 < m
          · rw [if_pos h]; exact ha j h
          · rw [if_neg h]; exact hlt j (by omega)) (fun j hj => by
          show (if j < m then Q j else (i : Int)) < ((i + 1 : Nat) : Int)
          by_cases h : j < m
          · rw [if_pos h]; have := hlt j h; omega
          · rw [if_neg h]; omega) (by
          simp only [accI]
          rw [← hq, ← plL_qL, if_pos hs1]
          simp only [qL, Nat.lt_irrefl, if_false, Int.toNat_natCast]
          rw [qL_congr (Q' := Q) m (fun j hj => by simp only [hj, if_true])])
        refine ⟨m', F', T', Q', fun c hc => ?_, h2⟩
        refine piece_ok mixed hc (nUl g nb N k l m (m + 1) F T Q F1 T1 (fun s => if s < m then Q s else i) i true) ?_ (hrun c hc)
        simp only [All]
        repeat' (first | exact trivial | with_reducible apply And.intro)
        all_goals (first | exact aP _ _ | exact aA _ _ | omega | rfl | (intros; first | assumption | exact trivial | rfl | exact fT ‹_› | ((repeat' (first | assumption | apply anda | apply notf)); done)) | (exact hd) | (exact hc1) | (intro j hj; simp [All, aEt]))
      · obtain ⟨m', F', T', Q', hrun, h2⟩ := ih (i + 1) m F T Q (by omega) hp ha (fun j hj => by have := hlt j hj; omega) (by
          simp only [accI]
          rw [← hq, ← plL_qL, if_neg hs1])
        refine ⟨m', F', T', Q', fun c hc => ?_, h2⟩
        refine piece_ok mixed hc (nUl g nb N k l m m F T Q F T Q i false) ?_ (hrun c hc)
        simp only [All]
        repeat' (first | exact trivial | with_reducible apply And.intro)
        all_goals (first | exact aP _ _ | exact aA _ _ | omega | rfl | (intros; first | assumption | exact trivial | rfl | exact fT ‹_› | ((repeat' (first | assumption | apply anda | apply notf)); done)) | (exact hd) | (exact hc1) | (intro j hj; simp [All, aEt]))
  obtain ⟨m, F, T, Q, hrun, hnn, hq⟩ := lp nb 0 0 _ _ _ (by omega) (PInv.start hok) (fun j hj => by omega) (fun j hj => absurd hj (Nat.not_lt_zero _)) rfl
  have hm : m ≤ 24 := by
    have := accI_len N k l g nb
    rw [← hq, qL_length] at this; omega
  refine ⟨m, F, T, Q, ?_, hm, hnn, hq⟩
  refine con_start Tryz.func97 rfl (by kernel_rfl) rfl (fun c hc => ?_)
  refine piece_ok mixed hc (nUz g nb N k l) ?_ (hrun c hc)
  simp only [All]
  repeat' (first | exact trivial | with_reducible apply And.intro)
  all_goals (first | exact aG _ | exact aP _ _ | exact aA _ _ | omega | rfl | (intros; first | assumption | exact trivial | rfl | exact fT ‹_› | ((repeat' (first | assumption | apply anda | apply notf)); done)) | (exact hn) | (intros; exact hr) | (simp; done) | (intro j hj; simp [All, aEt]))
theorem con_RankOf_s {N nb : Nat} {g : Nat → T_Bar} (hg : isGraphF ((N : Int), (nb, g), ()) = true) (k l : Nat) (hk : 1 ≤ k ∧ k ≤ 3) (hl : l + 1 ≤ 2 * k) :
    Con Tryz.prog 24 0 [] [grG g nb N, .p (.int .i64 k), .p (.int .i64 l)] [] (.p (.int .i64 ((accI N k l g nb).length : Nat))) := by
  obtain ⟨m, F, T, Q, hrun, hm, hn, hq⟩ := con_RunPebbles_s hg k l hk hl
  rw [← hq, qL_length]
  refine con_start Tryz.func24 rfl (by kernel_rfl) rfl (fun c hc => ?_)
  refine path_ok mixed Tryz.func24 hc (nKs g nb N k l m F T Q) ?_
  simp only [All]
  repeat' (first | exact trivial | with_reducible apply And.intro)
  all_goals (first | omega | rfl | (intros; first | assumption | exact trivial | rfl | exact fT ‹_› | ((repeat' (first | assumption | apply anda | apply notf)); done)) | (exact hrun) | (simp; done) | (intro i hi; simp [All, aEt]))
end Go.Proofs.YtffnfeefjdmifaaGreat.Mach
namespace Go.Proofs.YtffnfeefjdmifaaGreat.Mach
open Go
set_option linter.unusedVariables false
set_option linter.unusedSimpArgs false
def z2 : Ob := ⟨true, 2, 1, fun _ => [.p (.int .i64 0), .p .nil]⟩
def gbx (n : Int) (j c : Nat) : Ob := ⟨true, 2, 1, fun _ => [.p (.int .i64 n), .ar 2 j 0 c]⟩
def maxI (n : Int) : Int := if 2 * n - 3 > 0 then 2 * n - 3 else 0
theorem eFy_s (v : T_Graph) :
    pathOb Tryz.prog Tryz.f25 0 [rg 2, rm [(1, oc [] (.p (.bool false)))] 1, .dec true, rg 1] [.code (bodyOf Tryz.f25)] (start Tryz.f25 [] 0 [graphA v]) [] 1 [] (.p (.int .i64 (-1))) =
    some [(NT 0 1),Con Tryz.prog 22 0 [] [(zf75 v)] [] (.p (.bool false)),((!false) = true),(AI ((-1)))] := by kernel_rfl
theorem eFz_s (g : Nat → T_Bar) (nb N r : Nat) :
    pathOb Tryz.prog Tryz.f25 0 [rg 2, rm [(1, oc [] (.p (.bool true)))] 1, .dec false, rm [(6, oc [] (.p (.int .i64 r)))] 2] [.code (bodyOf Tryz.f25)] (start Tryz.f25 [] 0 [grG g nb N]) [] 1 [] (.p (.int .i64 (maxI N - r))) =
    some [(NT 0 1),Con Tryz.prog 22 0 [] [(zf78 N nb g)] [] (.p (.bool true)),((!true) = false),(NT 0 1),(R0 (2 * (↑N : Int))),(R1 (2 * (↑N : Int))),(R0 (2 * (↑N : Int) - 3)),(R1 (2 * (↑N : Int) - 3)),(NT 0 1),Con Tryz.prog 24 0 [] [(zf78 N nb g), .p (.int .i64 2), .p (.int .i64 3)] [] (.p (.int .i64 (↑r : Int))),(R0 ((if true = true then if 2 * (↑N : Int) - 3 > 0 then 2 * (↑N : Int) - 3 else 0 else if 2 * (↑N : Int) - 3 < 0 then 2 * (↑N : Int) - 3 else 0) - (↑r : Int))),(R1 ((if true = true then if 2 * (↑N : Int) - 3 > 0 then 2 * (↑N : Int) - 3 else 0 else if 2 * (↑N : Int) - 3 < 0 then 2 * (↑N : Int) - 3 else 0) - (↑r : Int))),((((if true = true then if 2 * (↑N : Int) - 3 > 0 then 2 * (↑N : Int) - 3 else 0 else if 2 * (↑N : Int) - 3 < 0 then 2 * (↑N : Int) - 3 else 0) - (↑r : Int)) : Int) = (maxI (↑N : Int) - (↑r : Int)))] := by kernel_rfl
theorem eFy_i (v : T_Graph) :
    pathOb Tryz.prog Tryz.f39 0 [rg 2, rm [(1, oc [] (.p (.bool false)))] 1, .dec true, rg 1] [.code (bodyOf Tryz.f39)] (start Tryz.f39 [] 0 [graphA v]) [] 1 [] (.p (.int .i64 (-1))) =
    some [(NT 0 1),Con Tryz.prog 35 0 [] [(zf75 v)] [] (.p (.bool false)),((!false) = true),(AI ((-1)))] := by kernel_rfl
theorem eFz_i (g : Nat → T_Bar) (nb N r : Nat) :
    pathOb Tryz.prog Tryz.f39 0 [rg 2, rm [(1, oc [] (.p (.bool true)))] 1, .dec false, rm [(6, oc [] (.p (.int .i64 r)))] 2] [.code (bodyOf Tryz.f39)] (start Tryz.f39 [] 0 [grG g nb N]) [] 1 [] (.p (.int .i64 (maxI N - r))) =
    some [(NT 0 1),Con Tryz.prog 35 0 [] [(zf78 N nb g)] [] (.p (.bool true)),((!true) = false),(NT 0 1),(R0 (2 * (↑N : Int))),(R1 (2 * (↑N : Int))),(R0 (2 * (↑N : Int) - 3)),(R1 (2 * (↑N : Int) - 3)),(NT 0 1),Con Tryz.prog 38 0 [] [(zf78 N nb g), .p (.int .i64 2), .p (.int .i64 3)] [] (.p (.int .i64 (↑r : Int))),(R0 ((if true = true then if 2 * (↑N : Int) - 3 > 0 then 2 * (↑N : Int) - 3 else 0 else if 2 * (↑N : Int) - 3 < 0 then 2 * (↑N : Int) - 3 else 0) - (↑r : Int))),(R1 ((if true = true then if 2 * (↑N : Int) - 3 > 0 then 2 * (↑N : Int) - 3 else 0 else if 2 * (↑N : Int) - 3 < 0 then 2 * (↑N : Int) - 3 else 0) - (↑r : Int))),((((if true = true then if 2 * (↑N : Int) - 3 > 0 then 2 * (↑N : Int) - 3 else 0 else if 2 * (↑N : Int) - 3 < 0 then 2 * (↑N : Int) - 3 else 0) - (↑r : Int)) : Int) = (maxI (↑N : Int) - (↑r : Int)))] := by kernel_rfl
theorem eR_s (v : T_Graph) (x : Int) :
    pathOb Tryz.prog Tryz.f29 0 [rg 2, rm [(1, oc [] (.p (.int .i64 x)))] 2] [.code (bodyOf Tryz.f29)] (start Tryz.f29 [] 0 [graphA v]) [] 1 [] (.p (.bool (x == 0))) =
    some [(NT 0 1),Con Tryz.prog 25 0 [] [(zf75 v)] [] (.p (.int .i64 x)),((x == 0) = (x == 0))] := by kernel_rfl
theorem eR_i (v : T_Graph) (x : Int) :
    pathOb Tryz.prog Tryz.f43 0 [rg 2, rm [(1, oc [] (.p (.int .i64 x)))] 2] [.code (bodyOf Tryz.f43)] (start Tryz.f43 [] 0 [graphA v]) [] 1 [] (.p (.bool (x == 0))) =
    some [(NT 0 1),Con Tryz.prog 39 0 [] [(zf75 v)] [] (.p (.int .i64 x)),((x == 0) = (x == 0))] := by kernel_rfl
theorem eM_s (v : T_Graph) (b : Bool) (r : Nat) :
    pathOb Tryz.prog Tryz.f30 0 [rg 2, rm [(1, oc [] (.p (.bool b))), (5, oc [] (.p (.int .i64 r)))] 3] [.code (bodyOf Tryz.f30)] (start Tryz.f30 [] 0 [graphA v]) [] 1 [] (.p (.bool (bif b then (v.2.1.1 : Int) == (r : Int) else false))) =
    some [(NT 0 1),Con Tryz.prog 29 0 [] [(zf75 v)] [] (.p (.bool b)),(AG b),((b = true) → (NT 0 1)),(AG b),((b = true) → (NT 0 1)),(AG b),((b = true) →  Con Tryz.prog 24 0 [] [(zf75 v), .p (.int .i64 2), .p (.int .i64 3)] [] (.p (.int .i64 (↑r : Int)))),(AG b),(AG b),(AG b),((bif b then (↑v.2.1.1 : Int) == (↑r : Int) else false) = (bif b then (↑v.2.1.1 : Int) == (↑r : Int) else false))] := by kernel_rfl
theorem eM_i (v : T_Graph) (b : Bool) (r : Nat) :
    pathOb Tryz.prog Tryz.f44 0 [rg 2, rm [(1, oc [] (.p (.bool b))), (2, oc [] (.p (.int .i64 r)))] 6] [.code (bodyOf Tryz.f44)] (start Tryz.f44 [] 0 [graphA v]) [] 1 [] (.p (.bool (bif b then (r : Int) == (v.2.1.1 : Int) else false))) =
    some [(NT 0 1),Con Tryz.prog 43 0 [] [(zf75 v)] [] (.p (.bool b)),((b = true) → (NT 0 1)),(AG b),((b = true) →  Con Tryz.prog 38 0 [] [(zf75 v), .p (.int .i64 2), .p (.int .i64 3)] [] (.p (.int .i64 (↑r : Int)))),(AG b),((b = true) → (NT 0 1)),(AG b),(AG b),(AG b),(AG b),((bif b then (↑r : Int) == (↑v.2.1.1 : Int) else false) = (bif b then (↑r : Int) == (↑v.2.1.1 : Int) else false))] := by kernel_rfl
end Go.Proofs.YtffnfeefjdmifaaGreat.Mach
namespace Go.Proofs.YtffnfeefjdmifaaGreat.Mach
open Go
set_option linter.unusedVariables false
set_option linter.unusedSimpArgs false
noncomputable def rkG (v : T_Graph) : Nat := (accI v.1.toNat 2 3 v.2.1.2 v.2.1.1).length
noncomputable def frGr (v : T_Graph) : Int := if isGraphF v = true then maxI v.1 - (rkG v : Int) else -1
noncomputable def mrG (v : T_Graph) : Bool := bif frGr v == 0 then (v.2.1.1 : Int) == (rkG v : Int) else false
theorem maxI_b {n : Int} (h : n ≤ 8) : 0 ≤ maxI n ∧ maxI n ≤ 13 := by
  unfold maxI; split <;> omega
theorem con_FreedomOf_s (v : T_Graph) (hs : smS s_Graph v) : Con Tryz.prog 25 0 [] [graphA v] [] (.p (.int .i64 (frGr v))) := by
  have hcg := con_IsGraph_s v hs
  cases hg : isGraphF v with
  | false =>
    rw [hg] at hcg
    rw [show frGr v = -1 by simp [frGr, hg]]
    refine con_start Tryz.func25 rfl (by kernel_rfl) rfl (fun c hc => ?_)
    refine path_ok mixed Tryz.func25 hc (eFy_s v) ?_
    simp only [All]
    repeat' (first | exact trivial | with_reducible apply And.intro)
    all_goals (first | omega | rfl | (intros; first | assumption | exact trivial | rfl | exact fT ‹_› | ((repeat' (first | assumption | apply anda | apply notf)); done)) | (intros; exact hcg) | (simp; done))
  | true =>
    rw [hg] at hcg
    obtain ⟨N, nb, g, rfl⟩ := graph_cases v hg
    obtain ⟨hN, hnb, _⟩ := graph_in hg
    have hr := con_RankOf_s hg 2 3 (by omega) (by omega)
    have hl := accI_len N 2 3 g nb
    have hm := maxI_b (n := (N : Int)) (by omega)
    rw [show frGr ((N : Int), (nb, g), ()) = maxI N - ((accI N 2 3 g nb).length : Nat) by simp [frGr, hg, rkG]]
    refine con_start Tryz.func25 rfl (by kernel_rfl) rfl (fun c hc => ?_)
    refine path_ok mixed Tryz.func25 hc (eFz_s g nb N (accI N 2 3 g nb).length) ?_
    simp only [All]
    repeat' (first | exact trivial | with_reducible apply And.intro)
    all_goals (first | omega | rfl | (intros; first | assumption | exact trivial | rfl | exact fT ‹_› | ((repeat' (first | assumption | apply anda | apply notf)); done)) | (intros; exact hcg) | (exact hr) | (simp only [if_true]; show _ ≤ maxI N - _; omega) | (simp only [if_true]; show maxI N - _ ≤ _; omega) | (simp; done) | (simp only [if_true]; rfl))
theorem con_FreedomOf_i (v : T_Graph) (hs : smS s_Graph v) : Con Tryz.prog 39 0 [] [graphA v] [] (.p (.int .i64 (frGr v))) := by
  have hcg := con_IsGraph_i v hs
  cases hg : isGraphF v with
  | false =>
    rw [hg] at hcg
    rw [show frGr v = -1 by simp [frGr, hg]]
    refine con_start Tryz.func39 rfl (by kernel_rfl) rfl (fun c hc => ?_)
    refine path_ok mixed Tryz.func39 hc (eFy_i v) ?_
    simp only [All]
    repeat' (first | exact trivial | with_reducible apply And.intro)
    all_goals (first | omega | rfl | (intros; first | assumption | exact trivial | rfl | exact fT ‹_› | ((repeat' (first | assumption | apply anda | apply notf)); done)) | (intros; exact hcg) | (simp; done))
  | true =>
    rw [hg] at hcg
    obtain ⟨N, nb, g, rfl⟩ := graph_cases v hg
    obtain ⟨hN, hnb, _⟩ := graph_in hg
    have hr := con_RankOf_i hg 2 3 (by omega) (by omega)
    have hl := accI_len N 2 3 g nb
    have hm := maxI_b (n := (N : Int)) (by omega)
    rw [show frGr ((N : Int), (nb, g), ()) = maxI N - ((accI N 2 3 g nb).length : Nat) by simp [frGr, hg, rkG]]
    refine con_start Tryz.func39 rfl (by kernel_rfl) rfl (fun c hc => ?_)
    refine path_ok mixed Tryz.func39 hc (eFz_i g nb N (accI N 2 3 g nb).length) ?_
    simp only [All]
    repeat' (first | exact trivial | with_reducible apply And.intro)
    all_goals (first | omega | rfl | (intros; first | assumption | exact trivial | rfl | exact fT ‹_› | ((repeat' (first | assumption | apply anda | apply notf)); done)) | (intros; exact hcg) | (exact hr) | (simp only [if_true]; show _ ≤ maxI N - _; omega) | (simp only [if_true]; show maxI N - _ ≤ _; omega) | (simp; done) | (simp only [if_true]; rfl))
theorem con_IsRigid_s (v : T_Graph) (hs : smS s_Graph v) : Con Tryz.prog 29 0 [] [graphA v] [] (.p (.bool (frGr v == 0))) := by
  have hf := con_FreedomOf_s v hs
  refine con_start Tryz.func29 rfl (by kernel_rfl) rfl (fun c hc => ?_)
  refine path_ok mixed Tryz.func29 hc (eR_s v _) ?_
  simp only [All]
  repeat' (first | exact trivial | with_reducible apply And.intro)
  all_goals (first | omega | rfl | (intros; first | assumption | exact trivial | rfl | exact fT ‹_› | ((repeat' (first | assumption | apply anda | apply notf)); done)) | (exact hf) | (simp; done))
theorem con_IsRigid_i (v : T_Graph) (hs : smS s_Graph v) : Con Tryz.prog 43 0 [] [graphA v] [] (.p (.bool (frGr v == 0))) := by
  have hf := con_FreedomOf_i v hs
  refine con_start Tryz.func43 rfl (by kernel_rfl) rfl (fun c hc => ?_)
  refine path_ok mixed Tryz.func43 hc (eR_i v _) ?_
  simp only [All]
  repeat' (first | exact trivial | with_reducible apply And.intro)
  all_goals (first | omega | rfl | (intros; first | assumption | exact trivial | rfl | exact fT ‹_› | ((repeat' (first | assumption | apply anda | apply notf)); done)) | (exact hf) | (simp; done))
theorem frG_graph {v : T_Graph} (h : (frGr v == 0) = true) : isGraphF v = true := by
  cases hg : isGraphF v with
  | true => rfl
  | false => simp [frGr, hg] at h
theorem con_IsMin_s (v : T_Graph) (hs : smS s_Graph v) : Con Tryz.prog 30 0 [] [graphA v] [] (.p (.bool (mrG v))) := by
  have hf := con_IsRigid_s v hs
  have hr : (frGr v == 0) = true → Con Tryz.prog 24 0 [] [graphA v, .p (.int .i64 2), .p (.int .i64 3)] [] (.p (.int .i64 (rkG v : Nat))) := by
    intro h
    have hg := frG_graph h
    obtain ⟨N, nb, g, rfl⟩ := graph_cases v hg
    exact con_RankOf_s hg 2 3 (by omega) (by omega)
  refine con_start Tryz.func30 rfl (by kernel_rfl) rfl (fun c hc => ?_)
  refine path_ok mixed Tryz.func30 hc (eM_s v (frGr v == 0) (rkG v)) ?_
  simp only [All]
  repeat' (first | exact trivial | with_reducible apply And.intro)
  all_goals (first | exact aG _ | omega | rfl | (intros; first | assumption | exact trivial | rfl | exact fT ‹_› | ((repeat' (first | assumption | apply anda | apply notf)); done)) | (exact hf) | (intro h; exact hr h) | (intro h; exact h) | (simp; done) | rfl)
theorem con_IsMin_i (v : T_Graph) (hs : smS s_Graph v) : Con Tryz.prog 44 0 [] [graphA v] [] (.p (.bool (mrG v))) := by
  have hf := con_IsRigid_i v hs
  have hr : (frGr v == 0) = true → Con Tryz.prog 38 0 [] [graphA v, .p (.int .i64 2), .p (.int .i64 3)] [] (.p (.int .i64 (rkG v : Nat))) := by
    intro h
    have hg := frG_graph h
    obtain ⟨N, nb, g, rfl⟩ := graph_cases v hg
    exact con_RankOf_i hg 2 3 (by omega) (by omega)
  refine con_start Tryz.func44 rfl (by kernel_rfl) rfl (fun c hc => ?_)
  rw [show mrG v = (bif frGr v == 0 then (rkG v : Int) == (v.2.1.1 : Int) else false) by unfold mrG; rw [show ((v.2.1.1 : Int) == (rkG v : Int)) = ((rkG v : Int) == (v.2.1.1 : Int)) from by rw [Bool.eq_iff_iff]; simp only [beq_iff_eq]; exact eq_comm]]
  refine path_ok mixed Tryz.func44 hc (eM_i v (frGr v == 0) (rkG v)) ?_
  simp only [All]
  repeat' (first | exact trivial | with_reducible apply And.intro)
  all_goals (first | exact aG _ | omega | rfl | (intros; first | assumption | exact trivial | rfl | exact fT ‹_› | ((repeat' (first | assumption | apply anda | apply notf)); done)) | (exact hf) | (intro h; exact hr h) | (intro h; exact h) | (simp; done) | rfl)
end Go.Proofs.YtffnfeefjdmifaaGreat.Mach
namespace Go.Proofs.YtffnfeefjdmifaaGreat.Mach
open Go Go.Sort
set_option linter.unusedVariables false
set_option linter.unusedSimpArgs false
theorem bCi (v : T_Graph) :
    pathOb Tryz.prog Tryz.f55 0 [rg 2, rg 8] [.code (bodyOf Tryz.f55)] (start Tryz.f55 [] 0 [graphA v]) [224] 1 [(0, brOb v.2.1.1 v.2.1.2)] (.agg [.p (.int .i64 v.1), .ar 2 0 0 v.2.1.1]) =
    some [(NT 0 1),(NT 0 1),(NL 0 0),(NL ((0 + v.2.1.1) * 16) 140737488355328),(NL (0 + v.2.1.1) 9223372036854775807),(NT 0 1),((true = true) →  (AN 1)),(NT 0 1),(AI v.1),(AN 0),(((0 + v.2.1.1) : Nat) = v.2.1.1),(AN 2),(NL v.2.1.1 (0 + v.2.1.1)),(AA v.2.1.1 (fun i => [.p (.int .i64 ((v.2.1.2 i).1)), .p (.int .i64 ((v.2.1.2 i).2.1))])),(AE v.2.1.1)] := by kernel_rfl
theorem con_copyGraph (v : T_Graph) (hn : v.2.1.1 ≤ 1048576) : Con Tryz.prog 55 0 [] [graphA v] [(0, brOb v.2.1.1 v.2.1.2)] (.agg [.p (.int .i64 v.1), .ar 2 0 0 v.2.1.1]) := by
  refine con_start Tryz.func55 rfl (by kernel_rfl) rfl (fun c hc => ?_)
  refine path_ok mixed Tryz.func55 hc (bCi v) ?_
  simp only [All]
  repeat' (first | exact trivial | with_reducible apply And.intro)
  all_goals (first | exact aA _ _ | exact aE _ | omega | rfl | (intros; first | assumption | exact trivial | rfl | exact fT ‹_› | ((repeat' (first | assumption | apply anda | apply notf)); done)) | (intro j hj; simp [All, aEt]; done) | (simp; try omega))
end Go.Proofs.YtffnfeefjdmifaaGreat.Mach
namespace Go.Proofs.YtffnfeefjdmifaaGreat.Mach
open Go
set_option linter.unusedVariables false
set_option linter.unusedSimpArgs false
def dlB (h : Nat → T_Bar) (e i : Nat) : T_Bar := if i < e then h i else h (i + 1)
def GBi (g : Nat → T_Bar) (nb N : Nat) (r : Int) (i c : Nat) (f : Nat → Int) : St :=
  ⟨[grG g nb N, .p (.int .i64 2), .p (.int .i64 3), .pt 2 0 0 0, .p .any, .p .any, .p .any, .ar 1 1 0 c, .p (.int .i64 r)] ++ List.replicate 13 anyA ++ [.p (.int .i64 nb), .p (.int .i64 i)] ++ List.replicate 20 anyA, [(0, bxG g nb N), (1, iOb c f)], 2⟩
def GBs (g : Nat → T_Bar) (nb N : Nat) (r : Int) (i c : Nat) (f : Nat → Int) : St :=
  ⟨[grG g nb N, .p (.int .i64 2), .p (.int .i64 3), .pt 2 0 0 0, .p .any, .p .any, .p .any, .ar 1 1 0 c, .p (.int .i64 r), .p (.int .i64 i)] ++ List.replicate 35 anyA, [(0, bxG g nb N), (1, iOb c f)], 2⟩
theorem gRi (g : Nat → T_Bar) (nb N e : Nat) :
    pathOb Tryz.prog Tryz.f185 0 [rg 3, rm [(1, oc [(0, brOb nb g)] (.agg [.p (.int .i64 N), .ar 2 0 0 nb]))] 2, rm [(1, oc [] (.p (.bool true))), (7, oc [] (.p (.bool true)))] 2, .dec false, rg 12, rg 3] [.code (bodyOf Tryz.f185)] (start Tryz.f185 [] 0 [grG g nb N, .p (.int .i64 e)]) [896] 1 [(0, brOb (nb - 1) (dlB g e))] ((zf89 N nb)) =
    some [(NT 0 1),Con Tryz.prog 55 0 [] [(zf78 N nb g)] (zf83 nb g) (.agg [.p (.int .i64 (↑N : Int)), .ar 2 0 0 nb]),(NT 0 1),((true = true) →  (AN 1)),(NT 0 1),Con Tryz.prog 35 0 [] [(zf78 N nb g)] [] (.p (.bool true)),(AG (!!true)),(((!!true) = true) → (NT 0 1)),(AG (!!true)),(AG (!!true)),(((!!true) = true) → (R0 ((↑nb : Int) - 1))),(((!!true) = true) → (R1 ((↑nb : Int) - 1))),(AG (!!true)),(AG (!!true)),(((!!true) = true) →  Con Tryz.prog 104 0 [] [.p (.int .i64 (↑e : Int)), .p (.int .i64 0), .p (.int .i64 ((↑nb : Int) - 1))] [] (.p (.bool true))),(AG (!!true)),(((!true) = false) →  ((!!true) = true)),((bif !true then true else !true) = false),(NT 0 1),(IL 0 0),(IL 0 (↑e : Int)),(IL (↑e : Int) (↑nb : Int)),(NT 0 1),(R0 ((↑e : Int) + 1)),(R1 ((↑e : Int) + 1)),(IL 0 ((↑e : Int) + 1)),(IL ((↑e : Int) + 1) (↑nb : Int)),(IL (↑nb : Int) (↑nb : Int)),(NL (nb - (e + 1) + (e + 1)) nb),(NL e nb),(NL ((e + (nb - (e + 1))) * 16) 140737488355328),(NL (e + (nb - (e + 1))) 9223372036854775807),(NT 0 1),((true = true) →  (AN 1)),(NT 0 1),(NT 0 1),((true = true) →  (AN 1)),(NT 0 1),(AI ((↑N : Int))),(AN 0),(((e + (nb - (e + 1))) : Nat) = (nb - 1)),(true = true),(AN 2),(NL (nb - 1) (e + (nb - (e + 1)))),(CV [(32, ⟨true, 2, 1, (fun i_1 => [.p (.int .i64 (↑N : Int)), .ar 2 896 0 (e + (nb - (e + 1)))])⟩), (160, ⟨true, 2, 1, (fun i_1 => [.p (.int .i64 (↑N : Int)), .ar 2 896 0 (e + (nb - (e + 1)))])⟩), (896, ⟨false, 2, (e + (nb - (e + 1))), (fun i_1 => (if (i_1 < e) then [.p (.int .i64 ((g i_1).1)), .p (.int .i64 ((g i_1).2.1))] else [.p (.int .i64 ((g (i_1 - e + (e + 1))).1)), .p (.int .i64 ((g (i_1 - e + (e + 1))).2.1))]))⟩), (0, ⟨true, 2, 1, (fun i_1 => [.p (.int .i64 (↑N : Int)), .p (.seq true 2 nb (fun i_2 => [.int .i64 ((g i_2).1), .int .i64 ((g i_2).2.1)]))])⟩)] [896] 1 (nb - 1) (fun i => if (i < e) then [.p (.int .i64 ((g i).1)), .p (.int .i64 ((g i).2.1))] else [.p (.int .i64 ((g (i - e + (e + 1))).1)), .p (.int .i64 ((g (i - e + (e + 1))).2.1))]) (fun i => [.p (.int .i64 ((dlB g e i).1)), .p (.int .i64 ((dlB g e i).2.1))])),(AE ((nb - 1)))] := by kernel_rfl
theorem gRs (g : Nat → T_Bar) (nb N e : Nat) :
    pathOb Tryz.prog Tryz.f176 0 [rg 3, rm [(1, oc [] (.p (.bool true)))] 12, .dec false, rg 17] [.code (bodyOf Tryz.f176)] (start Tryz.f176 [] 0 [grG g nb N, .p (.int .i64 e)]) [960] 1 [(0, brOb (nb - 1) (dlB g e))] ((zf89 N nb)) =
    some [(NT 0 1),Con Tryz.prog 22 0 [] [(zf78 N nb g)] [] (.p (.bool true)),(AG (!!true)),(((!true) = false) →  ((!!true) = true)),(AG (!bif !true then true else decide ((↑e : Int) < 0))),(((!bif !true then true else decide ((↑e : Int) < 0)) = true) → (NT 0 1)),(AG (!bif !true then true else decide ((↑e : Int) < 0))),(AG (!bif !true then true else decide ((↑e : Int) < 0))),(AG (!bif !true then true else decide ((↑e : Int) < 0))),(((bif !true then true else decide ((↑e : Int) < 0)) = false) →  ((!bif !true then true else decide ((↑e : Int) < 0)) = true)),((bif bif !true then true else decide ((↑e : Int) < 0) then true else decide ((↑e : Int) ≥ (↑nb : Int))) = false),(NT 0 1),(NT 0 1),(IL 0 0),(IL 0 (↑e : Int)),(IL (↑e : Int) (↑nb : Int)),(NL 0 0),(NL ((0 + e) * 16) 140737488355328),(NL (0 + e) 9223372036854775807),(NT 0 1),(R0 ((↑e : Int) + 1)),(R1 ((↑e : Int) + 1)),(IL 0 ((↑e : Int) + 1)),(IL ((↑e : Int) + 1) (↑nb : Int)),(IL (↑nb : Int) (↑nb : Int)),(NL (0 + e) (0 + e)),(NL ((0 + e + (nb - (e + 1))) * 16) 140737488355328),(NL (0 + e + (nb - (e + 1))) 9223372036854775807),(NT 0 1),((true = true) →  (AN 1)),(NT 0 1),(AI ((↑N : Int))),(AN 0),(((0 + e + (nb - (e + 1))) : Nat) = (nb - 1)),(true = true),(AN 2),(NL (nb - 1) (0 + e + (nb - (e + 1)))),(CV [(32, ⟨true, 2, 1, (fun i_1 => [.p (.int .i64 (↑N : Int)), .ar 2 960 0 (0 + e + (nb - (e + 1)))])⟩), (960, ⟨false, 2, (0 + e + (nb - (e + 1))), (fun i_1 => (if (i_1 < 0 + e) then [.p (.int .i64 ((g i_1).1)), .p (.int .i64 ((g i_1).2.1))] else [.p (.int .i64 ((g (i_1 - (0 + e) + (e + 1))).1)), .p (.int .i64 ((g (i_1 - (0 + e) + (e + 1))).2.1))]))⟩), (0, ⟨true, 2, 1, (fun i_1 => [.p (.int .i64 (↑N : Int)), .p (.seq true 2 nb (fun i_2 => [.int .i64 ((g i_2).1), .int .i64 ((g i_2).2.1)]))])⟩)] [960] 1 (nb - 1) (fun i => if (i < 0 + e) then [.p (.int .i64 ((g i).1)), .p (.int .i64 ((g i).2.1))] else [.p (.int .i64 ((g (i - (0 + e) + (e + 1))).1)), .p (.int .i64 ((g (i - (0 + e) + (e + 1))).2.1))]) (fun i => [.p (.int .i64 ((dlB g e i).1)), .p (.int .i64 ((dlB g e i).2.1))])),(AE ((nb - 1)))] := by kernel_rfl
theorem gBiz (g : Nat → T_Bar) (nb N : Nat) (r : Int) :
    pieceOb Tryz.prog 0 [rg 2, rg 2, rm [(3, oc [] (.p (.int .i64 r)))] 1, rg 2, .dec false, rg 4, .head] [.code (bodyOf Tryz.f157)] (start Tryz.f157 [] 0 [grG g nb N, .p (.int .i64 2), .p (.int .i64 3)]) [0, 64] 1 (GBi g nb N r 0 0 (fun _ => 0)) =
    some (zf23, [(NT 0 1),Con Tryz.prog 38 0 [] [(zf78 N nb g), .p (.int .i64 2), .p (.int .i64 3)] [] (.p (.int .i64 r)),((decide (r < 0)) = false),(NT 0 1),(AI ((↑N : Int))),(AN nb),(AP nb (fun i => [.int .i64 ((g i).1), .int .i64 ((g i).2.1)])),(AI 2),(AI 3),(AN 0),(AN 0),(AN 0),(AI r),(AI ((↑nb : Int))),((0 : Int) = (↑0 : Int)),((([AV.p (PV.int IntKind.i64 (↑N : Int)), brL g nb].length) : Nat) = 2),(NL 1 1),(NL 1 1),(AI ((↑N : Int))),(AN nb),(AP nb (fun i => [.int .i64 ((g i).1), .int .i64 ((g i).2.1)])),(AN 1),(NL 0 0),(AA 0 (fun i => [.p (.int .i64 0)]))]) := by kernel_rfl
theorem gBit (g : Nat → T_Bar) (nb N : Nat) (r r2 : Int) (i c : Nat) (f : Nat → Int) :
    pieceOb Tryz.prog 0 [rg 1, .dec true, rg 2, rm [(2, oc [(0, brOb (nb - 1) (dlB g i))] (zf89 N nb))] 6, rm [(3, oc [] (.p (.int .i64 r2)))] 2, .dec true, rg 5, rg 2, .head] zf23 (GBi g nb N r i c f) [0, 674] 1 (GBi g nb N r (i + 1) (c + 1) (fun s => if s < c then f s else i)) =
    some (zf23, [((decide ((↑i : Int) < (↑nb : Int))) = true),(NT 0 1),Con Tryz.prog 185 0 [] [(zf76 N nb g), .p (.int .i64 (↑i : Int))] [(0, ⟨false, 2, (nb - 1), (fun i_1 => [.p (.int .i64 ((dlB g i i_1).1)), .p (.int .i64 ((dlB g i i_1).2.1))])⟩)] ((zf85 N nb)),(NT 0 1),((true = true) →  (AN 1)),(NT 0 1),(AN 2),(NL (nb - 1) (nb - 1)),Con Tryz.prog 38 0 [] [.agg [.p (.int .i64 (↑N : Int)), .p (.seq true 2 (nb - 1) (fun i_1 => [.int .i64 ((dlB g i i_1).1), .int .i64 ((dlB g i i_1).2.1)]))], .p (.int .i64 2), .p (.int .i64 3)] [] (.p (.int .i64 r2)),((decide (r2 < r)) = true),(NL 1 1),(NL c c),(NL ((c + 1) * 8) 140737488355328),(NL (c + 1) 9223372036854775807),(R0 ((↑i : Int) + 1)),(R1 ((↑i : Int) + 1)),(AI ((↑N : Int))),(AN nb),(AP nb (fun i_1 => [.int .i64 ((g i_1).1), .int .i64 ((g i_1).2.1)])),(AI 2),(AI 3),(AN 0),(AN 0),(AN ((c + 1))),(AI r),(AI ((↑nb : Int))),((((↑i : Int) + 1) : Int) = (↑(i + 1) : Int)),(AN 2),(NL 1 1),(NL 1 1),(AI ((↑N : Int))),(AN nb),(AP nb (fun i_1 => [.int .i64 ((g i_1).1), .int .i64 ((g i_1).2.1)])),(AN 1),(NL (c + 1) (c + 1)),(CV [(674, ⟨false, 1, (c + 1), (fun i_2 => (if (i_2 < c) then [.p (.int .i64 (f i_2))] else [.p (.int .i64 (↑i : Int))]))⟩), (642, ⟨false, 1, 1, (fun i_2 => [.p (.int .i64 (↑i : Int))])⟩), (290, ⟨true, 2, 1, (fun i_2 => [.p (.int .i64 (↑N : Int)), .ar 2 162 0 (nb - 1)])⟩), (162, ⟨false, 2, (nb - 1), (fun i_2 => [.p (.int .i64 ((dlB g i i_2).1)), .p (.int .i64 ((dlB g i i_2).2.1))])⟩), (0, ⟨true, 2, 1, (fun i_2 => [.p (.int .i64 (↑N : Int)), .p (.seq true 2 nb (fun i_3 => [.int .i64 ((g i_3).1), .int .i64 ((g i_3).2.1)]))])⟩)] [0, 674] 1 (c + 1) (fun i_1 => if (i_1 < c) then [.p (.int .i64 (f i_1))] else [.p (.int .i64 (↑i : Int))]) (fun i_1 => [.p (.int .i64 (if i_1 < c then f i_1 else (↑i : Int)))]))]) := by kernel_rfl
theorem gBif (g : Nat → T_Bar) (nb N : Nat) (r r2 : Int) (i c : Nat) (f : Nat → Int) :
    pieceOb Tryz.prog 0 [rg 1, .dec true, rg 2, rm [(2, oc [(0, brOb (nb - 1) (dlB g i))] (zf89 N nb))] 6, rm [(3, oc [] (.p (.int .i64 r2)))] 2, .dec false, rg 2, .head] zf23 (GBi g nb N r i c f) [0, 1] 1 (GBi g nb N r (i + 1) c f) =
    some (zf23, [((decide ((↑i : Int) < (↑nb : Int))) = true),(NT 0 1),Con Tryz.prog 185 0 [] [(zf76 N nb g), .p (.int .i64 (↑i : Int))] [(0, ⟨false, 2, (nb - 1), (fun i_1 => [.p (.int .i64 ((dlB g i i_1).1)), .p (.int .i64 ((dlB g i i_1).2.1))])⟩)] ((zf85 N nb)),(NT 0 1),((true = true) →  (AN 1)),(NT 0 1),(AN 2),(NL (nb - 1) (nb - 1)),Con Tryz.prog 38 0 [] [.agg [.p (.int .i64 (↑N : Int)), .p (.seq true 2 (nb - 1) (fun i_1 => [.int .i64 ((dlB g i i_1).1), .int .i64 ((dlB g i i_1).2.1)]))], .p (.int .i64 2), .p (.int .i64 3)] [] (.p (.int .i64 r2)),((decide (r2 < r)) = false),(R0 ((↑i : Int) + 1)),(R1 ((↑i : Int) + 1)),(AI ((↑N : Int))),(AN nb),(AP nb (fun i_1 => [.int .i64 ((g i_1).1), .int .i64 ((g i_1).2.1)])),(AI 2),(AI 3),(AN 0),(AN 0),(AN c),(AI r),(AI ((↑nb : Int))),((((↑i : Int) + 1) : Int) = (↑(i + 1) : Int)),(AN 2),(NL 1 1),(NL 1 1),(AI ((↑N : Int))),(AN nb),(AP nb (fun i_1 => [.int .i64 ((g i_1).1), .int .i64 ((g i_1).2.1)])),(AN 1),(NL c c),(AA c (fun i_1 => [.p (.int .i64 (f i_1))]))]) := by kernel_rfl
theorem gBie (g : Nat → T_Bar) (nb N : Nat) (r : Int) (i c : Nat) (f : Nat → Int) :
    pathOb Tryz.prog Tryz.f157 0 [rg 1, .dec false, rg 2] zf23 (GBi g nb N r i c f) [1] 1 [(0, iOb c f)] (.ar 1 0 0 c) =
    some [((decide ((↑i : Int) < (↑nb : Int))) = false),(AN 0),(AN c),(AN 1),(NL c c),(AA c (fun i_1 => [.p (.int .i64 (f i_1))])),(AE c)] := by kernel_rfl
theorem gBsz (g : Nat → T_Bar) (nb N : Nat) (r : Int) :
    pieceOb Tryz.prog 0 [rg 2, rg 2, rm [(3, oc [] (.p (.int .i64 r)))] 1, rg 1, .head] [.code (bodyOf Tryz.f151)] (start Tryz.f151 [] 0 [grG g nb N, .p (.int .i64 2), .p (.int .i64 3)]) [0, 64] 1 (GBs g nb N r 0 0 (fun _ => 0)) =
    some (zf34, [(NT 0 1),Con Tryz.prog 24 0 [] [(zf78 N nb g), .p (.int .i64 2), .p (.int .i64 3)] [] (.p (.int .i64 r)),(AI ((↑N : Int))),(AN nb),(AP nb (fun i => [.int .i64 ((g i).1), .int .i64 ((g i).2.1)])),(AI 2),(AI 3),(AN 0),(AN 0),(AN 0),(AI r),((0 : Int) = (↑0 : Int)),((([AV.p (PV.int IntKind.i64 (↑N : Int)), brL g nb].length) : Nat) = 2),(NL 1 1),(NL 1 1),(AI ((↑N : Int))),(AN nb),(AP nb (fun i => [.int .i64 ((g i).1), .int .i64 ((g i).2.1)])),(AN 1),(NL 0 0),(AA 0 (fun i => [.p (.int .i64 0)]))]) := by kernel_rfl
theorem gBst (g : Nat → T_Bar) (nb N : Nat) (r r2 : Int) (i c : Nat) (f : Nat → Int) :
    pieceOb Tryz.prog 0 [rg 9, .dec true, rm [(2, oc [(0, brOb (nb - 1) (dlB g i))] (zf89 N nb))] 6, rm [(3, oc [] (.p (.int .i64 r2)))] 2, .dec true, rg 5, rg 3, .head] zf34 (GBs g nb N r i c f) [0, 866] 1 (GBs g nb N r (i + 1) (c + 1) (fun s => if s < c then f s else i)) =
    some (zf34, [(NT 0 1),(AG (decide ((↑i : Int) < (↑nb : Int)))),(AG (decide ((↑i : Int) < (↑nb : Int)))),((bif decide ((↑i : Int) < (↑nb : Int)) then decide (r ≥ 0) else false) = true),(NT 0 1),Con Tryz.prog 176 0 [] [(zf76 N nb g), .p (.int .i64 (↑i : Int))] [(0, ⟨false, 2, (nb - 1), (fun i_1 => [.p (.int .i64 ((dlB g i i_1).1)), .p (.int .i64 ((dlB g i i_1).2.1))])⟩)] ((zf85 N nb)),(NT 0 1),((true = true) →  (AN 1)),(NT 0 1),(AN 2),(NL (nb - 1) (nb - 1)),Con Tryz.prog 24 0 [] [.agg [.p (.int .i64 (↑N : Int)), .p (.seq true 2 (nb - 1) (fun i_1 => [.int .i64 ((dlB g i i_1).1), .int .i64 ((dlB g i i_1).2.1)]))], .p (.int .i64 2), .p (.int .i64 3)] [] (.p (.int .i64 r2)),((decide (r2 < r)) = true),(NL 1 1),(NL c c),(NL ((c + 1) * 8) 140737488355328),(NL (c + 1) 9223372036854775807),(R0 ((↑i : Int) + 1)),(R1 ((↑i : Int) + 1)),(AI ((↑N : Int))),(AN nb),(AP nb (fun i_1 => [.int .i64 ((g i_1).1), .int .i64 ((g i_1).2.1)])),(AI 2),(AI 3),(AN 0),(AN 0),(AN ((c + 1))),(AI r),((((↑i : Int) + 1) : Int) = (↑(i + 1) : Int)),(AN 2),(NL 1 1),(NL 1 1),(AI ((↑N : Int))),(AN nb),(AP nb (fun i_1 => [.int .i64 ((g i_1).1), .int .i64 ((g i_1).2.1)])),(AN 1),(NL (c + 1) (c + 1)),(CV [(866, ⟨false, 1, (c + 1), (fun i_2 => (if (i_2 < c) then [.p (.int .i64 (f i_2))] else [.p (.int .i64 (↑i : Int))]))⟩), (834, ⟨false, 1, 1, (fun i_2 => [.p (.int .i64 (↑i : Int))])⟩), (482, ⟨true, 2, 1, (fun i_2 => [.p (.int .i64 (↑N : Int)), .ar 2 354 0 (nb - 1)])⟩), (354, ⟨false, 2, (nb - 1), (fun i_2 => [.p (.int .i64 ((dlB g i i_2).1)), .p (.int .i64 ((dlB g i i_2).2.1))])⟩), (0, ⟨true, 2, 1, (fun i_2 => [.p (.int .i64 (↑N : Int)), .p (.seq true 2 nb (fun i_3 => [.int .i64 ((g i_3).1), .int .i64 ((g i_3).2.1)]))])⟩)] [0, 866] 1 (c + 1) (fun i_1 => if (i_1 < c) then [.p (.int .i64 (f i_1))] else [.p (.int .i64 (↑i : Int))]) (fun i_1 => [.p (.int .i64 (if i_1 < c then f i_1 else (↑i : Int)))]))]) := by kernel_rfl
theorem gBsf (g : Nat → T_Bar) (nb N : Nat) (r r2 : Int) (i c : Nat) (f : Nat → Int) :
    pieceOb Tryz.prog 0 [rg 9, .dec true, rm [(2, oc [(0, brOb (nb - 1) (dlB g i))] (zf89 N nb))] 6, rm [(3, oc [] (.p (.int .i64 r2)))] 2, .dec false, rg 3, .head] zf34 (GBs g nb N r i c f) [0, 1] 1 (GBs g nb N r (i + 1) c f) =
    some (zf34, [(NT 0 1),(AG (decide ((↑i : Int) < (↑nb : Int)))),(AG (decide ((↑i : Int) < (↑nb : Int)))),((bif decide ((↑i : Int) < (↑nb : Int)) then decide (r ≥ 0) else false) = true),(NT 0 1),Con Tryz.prog 176 0 [] [(zf76 N nb g), .p (.int .i64 (↑i : Int))] [(0, ⟨false, 2, (nb - 1), (fun i_1 => [.p (.int .i64 ((dlB g i i_1).1)), .p (.int .i64 ((dlB g i i_1).2.1))])⟩)] ((zf85 N nb)),(NT 0 1),((true = true) →  (AN 1)),(NT 0 1),(AN 2),(NL (nb - 1) (nb - 1)),Con Tryz.prog 24 0 [] [.agg [.p (.int .i64 (↑N : Int)), .p (.seq true 2 (nb - 1) (fun i_1 => [.int .i64 ((dlB g i i_1).1), .int .i64 ((dlB g i i_1).2.1)]))], .p (.int .i64 2), .p (.int .i64 3)] [] (.p (.int .i64 r2)),((decide (r2 < r)) = false),(R0 ((↑i : Int) + 1)),(R1 ((↑i : Int) + 1)),(AI ((↑N : Int))),(AN nb),(AP nb (fun i_1 => [.int .i64 ((g i_1).1), .int .i64 ((g i_1).2.1)])),(AI 2),(AI 3),(AN 0),(AN 0),(AN c),(AI r),((((↑i : Int) + 1) : Int) = (↑(i + 1) : Int)),(AN 2),(NL 1 1),(NL 1 1),(AI ((↑N : Int))),(AN nb),(AP nb (fun i_1 => [.int .i64 ((g i_1).1), .int .i64 ((g i_1).2.1)])),(AN 1),(NL c c),(AA c (fun i_1 => [.p (.int .i64 (f i_1))]))]) := by kernel_rfl
theorem gBse (g : Nat → T_Bar) (nb N : Nat) (r : Int) (i c : Nat) (f : Nat → Int) :
    pathOb Tryz.prog Tryz.f151 0 [rg 9, .dec false, rg 2] zf34 (GBs g nb N r i c f) [1] 1 [(0, iOb c f)] (.ar 1 0 0 c) =
    some [(NT 0 1),(AG (decide ((↑i : Int) < (↑nb : Int)))),(AG (decide ((↑i : Int) < (↑nb : Int)))),((bif decide ((↑i : Int) < (↑nb : Int)) then decide (r ≥ 0) else false) = false),(AN 0),(AN c),(AN 1),(NL c c),(AA c (fun i_1 => [.p (.int .i64 (f i_1))])),(AE c)] := by kernel_rfl
theorem gFi (g : Nat → T_Bar) (nb N c : Nat) (f : Nat → Int) :
    pathOb Tryz.prog Tryz.f111 0 [rg 2, rm [(1, oc [(0, iOb c f)] (.ar 1 0 0 c))] 1] [.code (bodyOf Tryz.f111)] (start Tryz.f111 [] 0 [grG g nb N]) [96] 1 [(0, iOb c f)] (.ar 1 0 0 c) =
    some [(NT 0 1),Con Tryz.prog 157 0 [] [(zf78 N nb g), .p (.int .i64 2), .p (.int .i64 3)] [(0, ⟨false, 1, c, (fun i => [.p (.int .i64 (f i))])⟩)] (.ar 1 0 0 c),(AN 0),(AN c),(AN 1),(NL c c),(AA c (fun i => [.p (.int .i64 (f i))])),(AE c)] := by kernel_rfl
theorem gFs (g : Nat → T_Bar) (nb N c : Nat) (f : Nat → Int) :
    pathOb Tryz.prog Tryz.f100 0 [rg 2, rm [(1, oc [(0, iOb c f)] (.ar 1 0 0 c))] 1] [.code (bodyOf Tryz.f100)] (start Tryz.f100 [] 0 [grG g nb N]) [96] 1 [(0, iOb c f)] (.ar 1 0 0 c) =
    some [(NT 0 1),Con Tryz.prog 151 0 [] [(zf78 N nb g), .p (.int .i64 2), .p (.int .i64 3)] [(0, ⟨false, 1, c, (fun i => [.p (.int .i64 (f i))])⟩)] (.ar 1 0 0 c),(AN 0),(AN c),(AN 1),(NL c c),(AA c (fun i => [.p (.int .i64 (f i))])),(AE c)] := by kernel_rfl
theorem gRdit (g : Nat → T_Bar) (nb N c : Nat) (f : Nat → Int) :
    pathOb Tryz.prog Tryz.f45 0 [rg 2, rm [(1, oc [] (.p (.bool true))), (1, ⟨true, none, some true⟩), (0, ⟨true, (some ⟨[], [], [], 1, [(0, iOb c f)], .ar 1 0 0 c⟩), some true⟩), (0, ⟨true, none, some true⟩), (0, ⟨true, none, some true⟩), (0, ⟨true, none, some true⟩)] 1] [.code (bodyOf Tryz.f45)] (start Tryz.f45 [] 0 [grG g nb N]) [] 1 [] (.p (.bool ((c : Int) == 0))) =
    some [(NT 0 1),Con Tryz.prog 43 0 [] [(zf78 N nb g)] [] (.p (.bool true)),(true = true),(NT 0 1),(true = true),Con Tryz.prog 111 0 [] [(zf78 N nb g)] [(0, ⟨false, 1, c, (fun i => [.p (.int .i64 (f i))])⟩)] (.ar 1 0 0 c),(true = true),(true = true),(true = true),(((↑c : Int) == 0) = ((↑c : Int) == 0))] := by kernel_rfl
theorem gRdif (g : Nat → T_Bar) (nb N : Nat) :
    pathOb Tryz.prog Tryz.f45 0 [rg 2, rm [(1, oc [] (.p (.bool false))), (1, ⟨true, none, some false⟩), (0, ⟨true, none, some false⟩), (0, ⟨true, none, some false⟩), (0, ⟨true, none, some false⟩), (0, ⟨true, none, some false⟩)] 1] [.code (bodyOf Tryz.f45)] (start Tryz.f45 [] 0 [grG g nb N]) [] 1 [] (.p (.bool false)) =
    some [(NT 0 1),Con Tryz.prog 43 0 [] [(zf78 N nb g)] [] (.p (.bool false)),(false = false),(false = false),(false = false),(false = false),(false = false),(false = false)] := by kernel_rfl
theorem gRdst (g : Nat → T_Bar) (nb N c : Nat) (f : Nat → Int) :
    pathOb Tryz.prog Tryz.f31 0 [rg 2, rm [(1, oc [] (.p (.bool true))), (1, ⟨true, none, some true⟩), (0, ⟨true, (some ⟨[], [], [], 1, [(0, iOb c f)], .ar 1 0 0 c⟩), some true⟩), (0, ⟨true, none, some true⟩), (0, ⟨true, none, some true⟩), (0, ⟨true, none, some true⟩)] 1] [.code (bodyOf Tryz.f31)] (start Tryz.f31 [] 0 [grG g nb N]) [] 1 [] (.p (.bool ((c : Int) == 0))) =
    some [(NT 0 1),Con Tryz.prog 29 0 [] [(zf78 N nb g)] [] (.p (.bool true)),(true = true),(NT 0 1),(true = true),Con Tryz.prog 100 0 [] [(zf78 N nb g)] [(0, ⟨false, 1, c, (fun i => [.p (.int .i64 (f i))])⟩)] (.ar 1 0 0 c),(true = true),(true = true),(true = true),(((↑c : Int) == 0) = ((↑c : Int) == 0))] := by kernel_rfl
theorem gRdsf (g : Nat → T_Bar) (nb N : Nat) :
    pathOb Tryz.prog Tryz.f31 0 [rg 2, rm [(1, oc [] (.p (.bool false))), (1, ⟨true, none, some false⟩), (0, ⟨true, none, some false⟩), (0, ⟨true, none, some false⟩), (0, ⟨true, none, some false⟩), (0, ⟨true, none, some false⟩)] 1] [.code (bodyOf Tryz.f31)] (start Tryz.f31 [] 0 [grG g nb N]) [] 1 [] (.p (.bool false)) =
    some [(NT 0 1),Con Tryz.prog 29 0 [] [(zf78 N nb g)] [] (.p (.bool false)),(false = false),(false = false),(false = false),(false = false),(false = false),(false = false)] := by kernel_rfl
theorem dl_graph {N nb : Nat} {g : Nat → T_Bar} (hg : isGraphF ((N : Int), (nb, g), ()) = true) {e : Nat} (he : e < nb) : isGraphF ((N : Int), (nb - 1, dlB g e), ()) = true := by
  obtain ⟨h1, h2, h3⟩ := graph_in hg
  have ha := asc_of hg
  refine isG_of h1 (by omega) (fun i hi => ?_) (fun s hs => ?_)
  · unfold dlB
    split
    · exact h3 i (by omega)
    · exact h3 (i + 1) (by omega)
  · unfold dlB
    split <;> split
    · exact ha s (by omega)
    · exact asc_lt ha (by omega) (by omega)
    · omega
    · exact ha (s + 1) (by omega)
theorem con_gRemove_i {N nb : Nat} {g : Nat → T_Bar} (hg : isGraphF ((N : Int), (nb, g), ()) = true) (e : Nat) (he : e < nb) :
    Con Tryz.prog 185 0 [] [grG g nb N, .p (.int .i64 e)] [(0, brOb (nb - 1) (dlB g e))] (.tup [.agg [.p (.int .i64 N), .ar 2 0 0 (nb - 1)], .p (.bool true)]) := by
  obtain ⟨h1, h2, h3⟩ := graph_in hg
  have c1 := con_IsGraph_i ((N : Int), (nb, g), ()) (sm_graph (by show nb ≤ _; omega))
  rw [hg] at c1
  have c2 := con_copyGraph ((N : Int), (nb, g), ()) (by show nb ≤ _; omega)
  have c3 := con_within (e : Int) 0 ((nb : Int) - 1)
  rw [show inB (e : Int) 0 ((nb : Int) - 1) = true by simp [inB]; omega] at c3
  refine con_start Tryz.func185 rfl (by kernel_rfl) rfl (fun c hc => ?_)
  refine path_ok mixed Tryz.func185 hc (gRi g nb N e) ?_
  simp only [All]
  repeat' (first | exact trivial | with_reducible apply And.intro)
  all_goals (first | exact aG _ | exact aE _ | omega | rfl | (intros; first | assumption | exact trivial | rfl | exact fT ‹_› | ((repeat' (first | assumption | apply anda | apply notf)); done)) | (exact c2) | (exact c1) | (intros; exact c3) | (exact c3) | (intro t ht; rcases Nat.lt_or_ge t e with h1 | h1; (simp [h1, dlB, cvtL, cvt, tg, tru, All]); ((try dsimp only); rw [if_neg (show ¬ t < e by omega)]; rw [show t - e + (e + 1) = t + 1 by omega]; simp [show ¬ t < e by omega, dlB, cvtL, cvt, tg, tru, All])))
theorem con_gRemove_s {N nb : Nat} {g : Nat → T_Bar} (hg : isGraphF ((N : Int), (nb, g), ()) = true) (e : Nat) (he : e < nb) :
    Con Tryz.prog 176 0 [] [grG g nb N, .p (.int .i64 e)] [(0, brOb (nb - 1) (dlB g e))] (.tup [.agg [.p (.int .i64 N), .ar 2 0 0 (nb - 1)], .p (.bool true)]) := by
  obtain ⟨h1, h2, h3⟩ := graph_in hg
  have c1 := con_IsGraph_s ((N : Int), (nb, g), ()) (sm_graph (by show nb ≤ _; omega))
  rw [hg] at c1
  have hd : (bif bif !true then true else decide ((e : Int) < 0) then true else decide ((e : Int) ≥ (nb : Int))) = false := by
    rw [decide_eq_false (show ¬ ((e : Int) < 0) by omega), decide_eq_false (show ¬ ((e : Int) ≥ (nb : Int)) by omega)]; rfl
  refine con_start Tryz.func176 rfl (by kernel_rfl) rfl (fun c hc => ?_)
  refine path_ok mixed Tryz.func176 hc (gRs g nb N e) ?_
  simp only [All]
  repeat' (first | exact trivial | with_reducible apply And.intro)
  all_goals (first | exact aG _ | exact aE _ | omega | rfl | (intros; first | assumption | exact trivial | rfl | exact fT ‹_› | ((repeat' (first | assumption | apply anda | apply notf)); done)) | (exact c1) | (exact hd) | (intro t ht; rcases Nat.lt_or_ge t e with h1 | h1; (simp [h1, dlB, cvtL, cvt, tg, tru, All]); ((try dsimp only); rw [if_neg (show ¬ t < 0 + e by omega), show t - (0 + e) + (e + 1) = t + 1 by omega]; simp [show ¬ t < e by omega, dlB, cvtL, cvt, tg, tru, All])))
noncomputable def rk2 (N nb : Nat) (g : Nat → T_Bar) : Nat := (accI N 2 3 g nb).length
noncomputable def brQ (N nb : Nat) (g : Nat → T_Bar) (e : Nat) : Bool := decide (((rk2 N (nb - 1) (dlB g e) : Nat) : Int) < ((rk2 N nb g : Nat) : Int))
noncomputable def brD (N nb : Nat) (g : Nat → T_Bar) : Nat → T_IntS
  | 0 => (0, fun _ => 0)
  | e + 1 => if brQ N nb g e = true then ((brD N nb g e).1 + 1, fun s => if s < (brD N nb g e).1 then (brD N nb g e).2 s else e) else brD N nb g e
theorem brD_n (N nb : Nat) (g : Nat → T_Bar) : ∀ e, (brD N nb g e).1 ≤ e
  | 0 => Nat.le_refl _
  | e + 1 => by
    have := brD_n N nb g e
    simp only [brD]
    split
    · show (brD N nb g e).1 + 1 ≤ e + 1; omega
    · omega
theorem con_gBridges_i {N nb : Nat} {g : Nat → T_Bar} (hg : isGraphF ((N : Int), (nb, g), ()) = true) :
    Con Tryz.prog 157 0 [] [grG g nb N, .p (.int .i64 2), .p (.int .i64 3)] [(0, iOb (brD N nb g nb).1 (brD N nb g nb).2)] (.ar 1 0 0 (brD N nb g nb).1) := by
  obtain ⟨h1, h2, h3⟩ := graph_in hg
  have hr := con_RankOf_i hg 2 3 (by omega) (by omega)
  have hl := accI_len N 2 3 g nb
  generalize hR : brD N nb g nb = R
  refine con_start Tryz.func157 rfl (by kernel_rfl) rfl (fun c hc => ?_)
  have lo : ∀ d i, i + d = nb → Run Tryz.prog c 157 zf23 (GBi g nb N ((rk2 N nb g : Nat) : Int) i (brD N nb g i).1 (brD N nb g i).2) (Post c [(0, iOb R.1 R.2)] (.ar 1 0 0 R.1)) := by
    intro d
    induction d with
    | zero =>
      intro i hi
      obtain rfl : i = nb := by omega
      rw [hR]
      have hd : decide ((i : Int) < (i : Int)) = false := decide_eq_false (by omega)
      refine path_ok mixed Tryz.func157 hc (gBie g i N _ i R.1 R.2) ?_
      simp only [All]
      repeat' (first | exact trivial | with_reducible apply And.intro)
      all_goals (first | exact aA _ _ | exact aE _ | omega | rfl | (intros; first | assumption | exact trivial | rfl | exact fT ‹_› | ((repeat' (first | assumption | apply anda | apply notf)); done)) | (exact hd) | (intro t ht; simp [All, aEt]))
    | succ d ih =>
      intro i hi
      have hd : decide ((i : Int) < (nb : Int)) = true := decide_eq_true (by omega)
      have hrec := ih (i + 1) (by omega)
      have hn := brD_n N nb g i
      have cr := con_gRemove_i hg i (by omega)
      have ck := con_RankOf_i (dl_graph hg (show i < nb by omega)) 2 3 (by omega) (by omega)
      cases hq : brQ N nb g i with
      | true =>
        rw [show brD N nb g (i + 1) = ((brD N nb g i).1 + 1, fun s => if s < (brD N nb g i).1 then (brD N nb g i).2 s else (i : Int)) by simp [brD, hq]] at hrec
        unfold brQ at hq
        generalize brD N nb g i = q at hn hrec ⊢
        refine piece_ok mixed hc (gBit g nb N _ ((rk2 N (nb - 1) (dlB g i) : Nat) : Int) i q.1 q.2) ?_ hrec
        simp only [All]
        repeat' (first | exact trivial | with_reducible apply And.intro)
        all_goals (first | exact aP _ _ | omega | rfl | (intros; first | assumption | exact trivial | rfl | exact fT ‹_› | ((repeat' (first | assumption | apply anda | apply notf)); done)) | (exact hd) | (exact cr) | (exact ck) | (exact hq) | (intro t ht; by_cases h' : t < q.1 <;> simp [h', cvtL, cvt, tg, tru, All]) | (simp; omega))
      | false =>
        rw [show brD N nb g (i + 1) = brD N nb g i by simp [brD, hq]] at hrec
        unfold brQ at hq
        generalize brD N nb g i = q at hn hrec ⊢
        refine piece_ok mixed hc (gBif g nb N _ ((rk2 N (nb - 1) (dlB g i) : Nat) : Int) i q.1 q.2) ?_ hrec
        simp only [All]
        repeat' (first | exact trivial | with_reducible apply And.intro)
        all_goals (first | exact aP _ _ | exact aA _ _ | omega | rfl | (intros; first | assumption | exact trivial | rfl | exact fT ‹_› | ((repeat' (first | assumption | apply anda | apply notf)); done)) | (exact hd) | (exact cr) | (exact ck) | (exact hq) | (intro t ht; simp [All, aEt]) | (simp; omega))
  refine piece_ok mixed hc (gBiz g nb N ((rk2 N nb g : Nat) : Int)) ?_ (lo nb 0 (by omega))
  simp only [All]
  repeat' (first | exact trivial | with_reducible apply And.intro)
  all_goals (first | exact aP _ _ | exact aA _ _ | omega | rfl | (intros; first | assumption | exact trivial | rfl | exact fT ‹_› | ((repeat' (first | assumption | apply anda | apply notf)); done)) | (exact hr) | (exact decide_eq_false (by omega)) | (intro t ht; exact absurd ht (Nat.not_lt_zero _)) | (intro t ht; simp [All, aEt]))
theorem con_gBridges_s {N nb : Nat} {g : Nat → T_Bar} (hg : isGraphF ((N : Int), (nb, g), ()) = true) :
    Con Tryz.prog 151 0 [] [grG g nb N, .p (.int .i64 2), .p (.int .i64 3)] [(0, iOb (brD N nb g nb).1 (brD N nb g nb).2)] (.ar 1 0 0 (brD N nb g nb).1) := by
  obtain ⟨h1, h2, h3⟩ := graph_in hg
  have hr := con_RankOf_s hg 2 3 (by omega) (by omega)
  have hl := accI_len N 2 3 g nb
  generalize hR : brD N nb g nb = R
  refine con_start Tryz.func151 rfl (by kernel_rfl) rfl (fun c hc => ?_)
  have lo : ∀ d i, i + d = nb → Run Tryz.prog c 151 zf34 (GBs g nb N ((rk2 N nb g : Nat) : Int) i (brD N nb g i).1 (brD N nb g i).2) (Post c [(0, iOb R.1 R.2)] (.ar 1 0 0 R.1)) := by
    intro d
    induction d with
    | zero =>
      intro i hi
      obtain rfl : i = nb := by omega
      rw [hR]
      have hd : (bif decide ((i : Int) < (i : Int)) then decide (((rk2 N i g : Nat) : Int) ≥ 0) else false) = false := by rw [decide_eq_false (show ¬ ((i : Int) < (i : Int)) by omega)]; rfl
      refine path_ok mixed Tryz.func151 hc (gBse g i N _ i R.1 R.2) ?_
      simp only [All]
      repeat' (first | exact trivial | with_reducible apply And.intro)
      all_goals (first | exact aG _ | exact aA _ _ | exact aE _ | omega | rfl | (intros; first | assumption | exact trivial | rfl | exact fT ‹_› | ((repeat' (first | assumption | apply anda | apply notf)); done)) | (exact hd) | (intro t ht; simp [All, aEt]))
    | succ d ih =>
      intro i hi
      have hd : (bif decide ((i : Int) < (nb : Int)) then decide (((rk2 N nb g : Nat) : Int) ≥ 0) else false) = true := by
        rw [decide_eq_true (show ((i : Int) < (nb : Int)) by omega), decide_eq_true (show (((rk2 N nb g : Nat) : Int) ≥ 0) by omega)]; rfl
      have hrec := ih (i + 1) (by omega)
      have hn := brD_n N nb g i
      have cr := con_gRemove_s hg i (by omega)
      have ck := con_RankOf_s (dl_graph hg (show i < nb by omega)) 2 3 (by omega) (by omega)
      cases hq : brQ N nb g i with
      | true =>
        rw [show brD N nb g (i + 1) = ((brD N nb g i).1 + 1, fun s => if s < (brD N nb g i).1 then (brD N nb g i).2 s else (i : Int)) by simp [brD, hq]] at hrec
        unfold brQ at hq
        generalize brD N nb g i = q at hn hrec ⊢
        refine piece_ok mixed hc (gBst g nb N _ ((rk2 N (nb - 1) (dlB g i) : Nat) : Int) i q.1 q.2) ?_ hrec
        simp only [All]
        repeat' (first | exact trivial | with_reducible apply And.intro)
        all_goals (first | exact aG _ | exact aP _ _ | omega | rfl | (intros; first | assumption | exact trivial | rfl | exact fT ‹_› | ((repeat' (first | assumption | apply anda | apply notf)); done)) | (exact hd) | (exact cr) | (exact ck) | (exact hq) | (intro t ht; by_cases h' : t < q.1 <;> simp [h', cvtL, cvt, tg, tru, All]) | (simp; omega))
      | false =>
        rw [show brD N nb g (i + 1) = brD N nb g i by simp [brD, hq]] at hrec
        unfold brQ at hq
        generalize brD N nb g i = q at hn hrec ⊢
        refine piece_ok mixed hc (gBsf g nb N _ ((rk2 N (nb - 1) (dlB g i) : Nat) : Int) i q.1 q.2) ?_ hrec
        simp only [All]
        repeat' (first | exact trivial | with_reducible apply And.intro)
        all_goals (first | exact aG _ | exact aP _ _ | exact aA _ _ | omega | rfl | (intros; first | assumption | exact trivial | rfl | exact fT ‹_› | ((repeat' (first | assumption | apply anda | apply notf)); done)) | (exact hd) | (exact cr) | (exact ck) | (exact hq) | (intro t ht; simp [All, aEt]) | (simp; omega))
  refine piece_ok mixed hc (gBsz g nb N ((rk2 N nb g : Nat) : Int)) ?_ (lo nb 0 (by omega))
  simp only [All]
  repeat' (first | exact trivial | with_reducible apply And.intro)
  all_goals (first | exact aP _ _ | exact aA _ _ | omega | rfl | (intros; first | assumption | exact trivial | rfl | exact fT ‹_› | ((repeat' (first | assumption | apply anda | apply notf)); done)) | (exact hr) | (intro t ht; exact absurd ht (Nat.not_lt_zero _)) | (intro t ht; simp [All, aEt]))
theorem con_gFragile_i {N nb : Nat} {g : Nat → T_Bar} (hg : isGraphF ((N : Int), (nb, g), ()) = true) :
    Con Tryz.prog 111 0 [] [grG g nb N] [(0, iOb (brD N nb g nb).1 (brD N nb g nb).2)] (.ar 1 0 0 (brD N nb g nb).1) := by
  have h := con_gBridges_i hg
  generalize brD N nb g nb = R at *
  refine con_start Tryz.func111 rfl (by kernel_rfl) rfl (fun c hc => ?_)
  refine path_ok mixed Tryz.func111 hc (gFi g nb N R.1 R.2) ?_
  simp only [All]
  repeat' (first | exact trivial | with_reducible apply And.intro)
  all_goals (first | exact aA _ _ | exact aE _ | omega | rfl | (intros; first | assumption | exact trivial | rfl | exact fT ‹_› | ((repeat' (first | assumption | apply anda | apply notf)); done)) | (exact h) | (intro t ht; simp [All, aEt]))
theorem con_gFragile_s {N nb : Nat} {g : Nat → T_Bar} (hg : isGraphF ((N : Int), (nb, g), ()) = true) :
    Con Tryz.prog 100 0 [] [grG g nb N] [(0, iOb (brD N nb g nb).1 (brD N nb g nb).2)] (.ar 1 0 0 (brD N nb g nb).1) := by
  have h := con_gBridges_s hg
  generalize brD N nb g nb = R at *
  refine con_start Tryz.func100 rfl (by kernel_rfl) rfl (fun c hc => ?_)
  refine path_ok mixed Tryz.func100 hc (gFs g nb N R.1 R.2) ?_
  simp only [All]
  repeat' (first | exact trivial | with_reducible apply And.intro)
  all_goals (first | exact aA _ _ | exact aE _ | omega | rfl | (intros; first | assumption | exact trivial | rfl | exact fT ‹_› | ((repeat' (first | assumption | apply anda | apply notf)); done)) | (exact h) | (intro t ht; simp [All, aEt]))
noncomputable def rdB (N nb : Nat) (g : Nat → T_Bar) : Bool := bif frGr ((N : Int), (nb, g), ()) == 0 then (((brD N nb g nb).1 : Nat) : Int) == 0 else false
theorem con_gRedun_i {N nb : Nat} {g : Nat → T_Bar} (hg : isGraphF ((N : Int), (nb, g), ()) = true) : Con Tryz.prog 45 0 [] [grG g nb N] [] (.p (.bool (rdB N nb g))) := by
  have h2 := (graph_in hg).2.1
  have hr := con_IsRigid_i ((N : Int), (nb, g), ()) (sm_graph (by show nb ≤ _; omega))
  have h := con_gFragile_i hg
  unfold rdB
  generalize brD N nb g nb = R at *
  generalize (frGr ((N : Int), (nb, g), ()) == 0) = b at *
  refine con_start Tryz.func45 rfl (by kernel_rfl) rfl (fun c hc => ?_)
  cases b with
  | true =>
    refine path_ok mixed Tryz.func45 hc (gRdit g nb N R.1 R.2) ?_
    simp only [All]
    repeat' (first | exact trivial | with_reducible apply And.intro)
    all_goals (first | omega | rfl | (intros; first | assumption | exact trivial | rfl | exact fT ‹_› | ((repeat' (first | assumption | apply anda | apply notf)); done)) | (exact hr) | (exact h) | (simp; done))
  | false =>
    refine path_ok mixed Tryz.func45 hc (gRdif g nb N) ?_
    simp only [All]
    repeat' (first | exact trivial | with_reducible apply And.intro)
    all_goals (first | omega | rfl | (intros; first | assumption | exact trivial | rfl | exact fT ‹_› | ((repeat' (first | assumption | apply anda | apply notf)); done)) | (exact hr) | (simp; done))
theorem con_gRedun_s {N nb : Nat} {g : Nat → T_Bar} (hg : isGraphF ((N : Int), (nb, g), ()) = true) : Con Tryz.prog 31 0 [] [grG g nb N] [] (.p (.bool (rdB N nb g))) := by
  have h2 := (graph_in hg).2.1
  have hr := con_IsRigid_s ((N : Int), (nb, g), ()) (sm_graph (by show nb ≤ _; omega))
  have h := con_gFragile_s hg
  unfold rdB
  generalize brD N nb g nb = R at *
  generalize (frGr ((N : Int), (nb, g), ()) == 0) = b at *
  refine con_start Tryz.func31 rfl (by kernel_rfl) rfl (fun c hc => ?_)
  cases b with
  | true =>
    refine path_ok mixed Tryz.func31 hc (gRdst g nb N R.1 R.2) ?_
    simp only [All]
    repeat' (first | exact trivial | with_reducible apply And.intro)
    all_goals (first | omega | rfl | (intros; first | assumption | exact trivial | rfl | exact fT ‹_› | ((repeat' (first | assumption | apply anda | apply notf)); done)) | (exact hr) | (exact h) | (simp; done))
  | false =>
    refine path_ok mixed Tryz.func31 hc (gRdsf g nb N) ?_
    simp only [All]
    repeat' (first | exact trivial | with_reducible apply And.intro)
    all_goals (first | omega | rfl | (intros; first | assumption | exact trivial | rfl | exact fT ‹_› | ((repeat' (first | assumption | apply anda | apply notf)); done)) | (exact hr) | (simp; done))
end Go.Proofs.YtffnfeefjdmifaaGreat.Mach
namespace Go.Proofs.YtffnfeefjdmifaaGreat.Mach
open Go
def btI (w i : Int) : Bool := bitI .and .i64 (shrI .i64 w i) 1 == 1
theorem shl_nat (e : Nat) (he : e < 62) : shlI .i64 1 (e : Int) = ((2 ^ e : Nat) : Int) := by
  unfold shlI
  have : min (e : Int).toNat IntKind.i64.bits = e := by simp [IntKind.bits]; omega
  rw [this]
  have h2 : 2 ^ e < 2 ^ 62 := Nat.pow_lt_pow_right (by omega) he
  have h3 : (1 : Int) * 2 ^ e = ((2 ^ e : Nat) : Int) := by simp
  rw [h3]
  generalize 2 ^ e = q at h2
  exact wrap_in (by simp only [imin]; omega) (by simp only [imax]; omega)
end Go.Proofs.YtffnfeefjdmifaaGreat.Mach
namespace Go.Proofs.YtffnfeefjdmifaaGreat.Mach
open Go
set_option linter.unusedVariables false
set_option linter.unusedSimpArgs false
def GSo (w M i c : Nat) (f : Nat → Int) : St := ⟨[.p (.int .i64 w), .p (.int .i64 M), .p .any, .p .any, .p .any, .ar 1 0 0 c, .p .any, .p .any, .p (.int .i64 M), .p (.int .i64 i)] ++ List.replicate 13 anyA, [(0, iOb c f)], 1⟩
def GSl (w M i c : Nat) (f : Nat → Int) : St := ⟨[.p (.int .i64 M), .p (.int .i64 w), .p .any, .p .any, .p .any, .ar 1 0 0 c, .p (.int .i64 i)] ++ List.replicate 16 anyA, [(0, iOb c f)], 1⟩
theorem gOz (w M : Nat) :
    pieceOb Tryz.prog 0 [rg 1, rg 2, rg 2, .head] [.code (bodyOf Tryz.f124)] (start Tryz.f124 [] 0 [.p (.int .i64 w), .p (.int .i64 M)]) [32] 1 (GSo w M 0 0 (fun _ => 0)) =
    some (zf53, [(AI ((↑w : Int))),(AI ((↑M : Int))),(AN 0),(AN 0),(AI ((↑M : Int))),((0 : Int) = (↑0 : Int)),(AN 1),(NL 0 0),(AA 0 (fun i => [.p (.int .i64 0)]))]) := by kernel_rfl
theorem gOt (w M i c : Nat) (f : Nat → Int) :
    pieceOb Tryz.prog 0 [rg 1, .dec true, rg 2, rg 5, .dec true, rg 5, rg 2, .head] zf53 (GSo w M i c f) [353] 1 (GSo w M (i + 1) (c + 1) (fun s => if s < c then f s else i)) =
    some (zf53, [((decide ((↑i : Int) < (↑M : Int))) = true),(IL 0 (↑i : Int)),((bitI BinOp.and IntKind.i64 (shrI IntKind.i64 (↑w : Int) (↑i : Int)) 1 == 1) = true),(NL 1 1),(NL c c),(NL ((c + 1) * 8) 140737488355328),(NL (c + 1) 9223372036854775807),(R0 ((↑i : Int) + 1)),(R1 ((↑i : Int) + 1)),(AI ((↑w : Int))),(AI ((↑M : Int))),(AN 0),(AN ((c + 1))),(AI ((↑M : Int))),((((↑i : Int) + 1) : Int) = (↑(i + 1) : Int)),(AN 1),(NL (c + 1) (c + 1)),(CV [(353, ⟨false, 1, (c + 1), (fun i_2 => (if (i_2 < c) then [.p (.int .i64 (f i_2))] else [.p (.int .i64 (↑i : Int))]))⟩), (321, ⟨false, 1, 1, (fun i_2 => [.p (.int .i64 (↑i : Int))])⟩)] [353] 1 (c + 1) (fun i_1 => if (i_1 < c) then [.p (.int .i64 (f i_1))] else [.p (.int .i64 (↑i : Int))]) (fun i_1 => [.p (.int .i64 (if i_1 < c then f i_1 else (↑i : Int)))]))]) := by kernel_rfl
theorem gOf (w M i c : Nat) (f : Nat → Int) :
    pieceOb Tryz.prog 0 [rg 1, .dec true, rg 2, rg 5, .dec false, rg 2, .head] zf53 (GSo w M i c f) [0] 1 (GSo w M (i + 1) c f) =
    some (zf53, [((decide ((↑i : Int) < (↑M : Int))) = true),(IL 0 (↑i : Int)),((bitI BinOp.and IntKind.i64 (shrI IntKind.i64 (↑w : Int) (↑i : Int)) 1 == 1) = false),(R0 ((↑i : Int) + 1)),(R1 ((↑i : Int) + 1)),(AI ((↑w : Int))),(AI ((↑M : Int))),(AN 0),(AN c),(AI ((↑M : Int))),((((↑i : Int) + 1) : Int) = (↑(i + 1) : Int)),(AN 1),(NL c c),(AA c (fun i_1 => [.p (.int .i64 (f i_1))]))]) := by kernel_rfl
theorem gOe (w M i c : Nat) (f : Nat → Int) :
    pathOb Tryz.prog Tryz.f124 0 [rg 1, .dec false, rg 2] zf53 (GSo w M i c f) [0] 1 [(0, iOb c f)] (.ar 1 0 0 c) =
    some [((decide ((↑i : Int) < (↑M : Int))) = false),(AN 0),(AN c),(AN 1),(NL c c),(AA c (fun i_1 => [.p (.int .i64 (f i_1))])),(AE c)] := by kernel_rfl
theorem gLz (w M : Nat) :
    pieceOb Tryz.prog 0 [rg 1, rg 2, rg 1, .head] [.code (bodyOf Tryz.f118)] (start Tryz.f118 [] 0 [.p (.int .i64 M), .p (.int .i64 w)]) [32] 1 (GSl w M 0 0 (fun _ => 0)) =
    some (zf54, [(AI ((↑M : Int))),(AI ((↑w : Int))),(AN 0),(AN 0),((0 : Int) = (↑0 : Int)),(AN 1),(NL 0 0),(AA 0 (fun i => [.p (.int .i64 0)]))]) := by kernel_rfl
theorem gLt (w M i c : Nat) (f : Nat → Int) :
    pieceOb Tryz.prog 0 [rg 3, .dec true, rg 5, .dec true, rg 5, rg 3, .head] zf54 (GSl w M i c f) [353] 1 (GSl w M (i + 1) (c + 1) (fun s => if s < c then f s else i)) =
    some (zf54, [((decide ((↑i : Int) < (↑M : Int))) = true),(IL 0 (↑i : Int)),((bitI BinOp.and IntKind.i64 (shrI IntKind.i64 (↑w : Int) (↑i : Int)) 1 == 1) = true),(NL 1 1),(NL c c),(NL ((c + 1) * 8) 140737488355328),(NL (c + 1) 9223372036854775807),(R0 ((↑i : Int) + 1)),(R1 ((↑i : Int) + 1)),(AI ((↑M : Int))),(AI ((↑w : Int))),(AN 0),(AN ((c + 1))),((((↑i : Int) + 1) : Int) = (↑(i + 1) : Int)),(AN 1),(NL (c + 1) (c + 1)),(CV [(353, ⟨false, 1, (c + 1), (fun i_2 => (if (i_2 < c) then [.p (.int .i64 (f i_2))] else [.p (.int .i64 (↑i : Int))]))⟩), (321, ⟨false, 1, 1, (fun i_2 => [.p (.int .i64 (↑i : Int))])⟩)] [353] 1 (c + 1) (fun i_1 => if (i_1 < c) then [.p (.int .i64 (f i_1))] else [.p (.int .i64 (↑i : Int))]) (fun i_1 => [.p (.int .i64 (if i_1 < c then f i_1 else (↑i : Int)))]))]) := by kernel_rfl
theorem gLf (w M i c : Nat) (f : Nat → Int) :
    pieceOb Tryz.prog 0 [rg 3, .dec true, rg 5, .dec false, rg 3, .head] zf54 (GSl w M i c f) [0] 1 (GSl w M (i + 1) c f) =
    some (zf54, [((decide ((↑i : Int) < (↑M : Int))) = true),(IL 0 (↑i : Int)),((bitI BinOp.and IntKind.i64 (shrI IntKind.i64 (↑w : Int) (↑i : Int)) 1 == 1) = false),(R0 ((↑i : Int) + 1)),(R1 ((↑i : Int) + 1)),(AI ((↑M : Int))),(AI ((↑w : Int))),(AN 0),(AN c),((((↑i : Int) + 1) : Int) = (↑(i + 1) : Int)),(AN 1),(NL c c),(AA c (fun i_1 => [.p (.int .i64 (f i_1))]))]) := by kernel_rfl
theorem gLe (w M i c : Nat) (f : Nat → Int) :
    pathOb Tryz.prog Tryz.f118 0 [rg 3, .dec false, rg 2] zf54 (GSl w M i c f) [0] 1 [(0, iOb c f)] (.ar 1 0 0 c) =
    some [((decide ((↑i : Int) < (↑M : Int))) = false),(AN 0),(AN c),(AN 1),(NL c c),(AA c (fun i_1 => [.p (.int .i64 (f i_1))])),(AE c)] := by kernel_rfl
def stD (w : Nat) : Nat → T_IntS
  | 0 => (0, fun _ => 0)
  | i + 1 => if btI w i = true then ((stD w i).1 + 1, fun s => if s < (stD w i).1 then (stD w i).2 s else i) else stD w i
theorem stD_n (w : Nat) : ∀ i, (stD w i).1 ≤ i
  | 0 => Nat.le_refl _
  | i + 1 => by
    have := stD_n w i
    simp only [stD]
    split
    · show (stD w i).1 + 1 ≤ i + 1; omega
    · omega
theorem con_setOf (w M : Nat) (hM : M ≤ 62) : Con Tryz.prog 124 0 [] [.p (.int .i64 w), .p (.int .i64 M)] [(0, iOb (stD w M).1 (stD w M).2)] (.ar 1 0 0 (stD w M).1) := by
  refine con_start Tryz.func124 rfl (by kernel_rfl) rfl (fun c hc => ?_)
  generalize hR : stD w M = R
  have lo : ∀ d i, i + d = M → Run Tryz.prog c 124 zf53 (GSo w M i (stD w i).1 (stD w i).2) (Post c [(0, iOb R.1 R.2)] (.ar 1 0 0 R.1)) := by
    intro d
    induction d with
    | zero =>
      intro i hi
      obtain rfl : i = M := by omega
      have hd : decide ((i : Int) < (i : Int)) = false := by simp
      rw [hR]
      refine path_ok mixed Tryz.func124 hc (gOe w i i R.1 R.2) ?_
      simp only [All]
      repeat' (first | exact trivial | with_reducible apply And.intro)
      all_goals (first | exact aA _ _ | exact aE _ | omega | rfl | (intros; first | assumption | exact trivial | rfl | exact fT ‹_› | ((repeat' (first | assumption | apply anda | apply notf)); done)) | (exact hd) | (intro t ht; simp [All, aEt]))
    | succ d ih =>
      intro i hi
      have hd : decide ((i : Int) < (M : Int)) = true := decide_eq_true (by omega)
      have hrec := ih (i + 1) (by omega)
      have hn := stD_n w i
      cases hb : btI w i with
      | true =>
        rw [show stD w (i + 1) = ((stD w i).1 + 1, fun s => if s < (stD w i).1 then (stD w i).2 s else i) by simp [stD, hb]] at hrec
        generalize stD w i = q at hn hrec ⊢
        refine piece_ok mixed hc (gOt w M i q.1 q.2) ?_ hrec
        simp only [All]
        repeat' (first | exact trivial | with_reducible apply And.intro)
        all_goals (first | omega | rfl | (intros; first | assumption | exact trivial | rfl | exact fT ‹_› | ((repeat' (first | assumption | apply anda | apply notf)); done)) | (exact hd) | (exact hb) | (intro t ht; by_cases h' : t < q.1 <;> simp [h', cvtL, cvt, tg, tru, All]))
      | false =>
        rw [show stD w (i + 1) = stD w i by simp [stD, hb]] at hrec
        generalize stD w i = q at hn hrec ⊢
        refine piece_ok mixed hc (gOf w M i q.1 q.2) ?_ hrec
        simp only [All]
        repeat' (first | exact trivial | with_reducible apply And.intro)
        all_goals (first | exact aA _ _ | omega | rfl | (intros; first | assumption | exact trivial | rfl | exact fT ‹_› | ((repeat' (first | assumption | apply anda | apply notf)); done)) | (exact hd) | (exact hb) | (intro t ht; simp [All, aEt]))
  refine piece_ok mixed hc (gOz w M) ?_ (lo M 0 (by omega))
  simp only [All]
  repeat' (first | exact trivial | with_reducible apply And.intro)
  all_goals (first | exact aA _ _ | omega | rfl | (intros; first | assumption | exact trivial | rfl | exact fT ‹_› | ((repeat' (first | assumption | apply anda | apply notf)); done)) | (intro t ht; exact absurd ht (Nat.not_lt_zero _)) | (intro t ht; simp [All, aEt]))
theorem con_l3Set (w M : Nat) (hM : M ≤ 62) : Con Tryz.prog 118 0 [] [.p (.int .i64 M), .p (.int .i64 w)] [(0, iOb (stD w M).1 (stD w M).2)] (.ar 1 0 0 (stD w M).1) := by
  refine con_start Tryz.func118 rfl (by kernel_rfl) rfl (fun c hc => ?_)
  generalize hR : stD w M = R
  have lo : ∀ d i, i + d = M → Run Tryz.prog c 118 zf54 (GSl w M i (stD w i).1 (stD w i).2) (Post c [(0, iOb R.1 R.2)] (.ar 1 0 0 R.1)) := by
    intro d
    induction d with
    | zero =>
      intro i hi
      obtain rfl : i = M := by omega
      have hd : decide ((i : Int) < (i : Int)) = false := by simp
      rw [hR]
      refine path_ok mixed Tryz.func118 hc (gLe w i i R.1 R.2) ?_
      simp only [All]
      repeat' (first | exact trivial | with_reducible apply And.intro)
      all_goals (first | exact aA _ _ | exact aE _ | omega | rfl | (intros; first | assumption | exact trivial | rfl | exact fT ‹_› | ((repeat' (first | assumption | apply anda | apply notf)); done)) | (exact hd) | (intro t ht; simp [All, aEt]))
    | succ d ih =>
      intro i hi
      have hd : decide ((i : Int) < (M : Int)) = true := decide_eq_true (by omega)
      have hrec := ih (i + 1) (by omega)
      have hn := stD_n w i
      cases hb : btI w i with
      | true =>
        rw [show stD w (i + 1) = ((stD w i).1 + 1, fun s => if s < (stD w i).1 then (stD w i).2 s else i) by simp [stD, hb]] at hrec
        generalize stD w i = q at hn hrec ⊢
        refine piece_ok mixed hc (gLt w M i q.1 q.2) ?_ hrec
        simp only [All]
        repeat' (first | exact trivial | with_reducible apply And.intro)
        all_goals (first | omega | rfl | (intros; first | assumption | exact trivial | rfl | exact fT ‹_› | ((repeat' (first | assumption | apply anda | apply notf)); done)) | (exact hd) | (exact hb) | (intro t ht; by_cases h' : t < q.1 <;> simp [h', cvtL, cvt, tg, tru, All]))
      | false =>
        rw [show stD w (i + 1) = stD w i by simp [stD, hb]] at hrec
        generalize stD w i = q at hn hrec ⊢
        refine piece_ok mixed hc (gLf w M i q.1 q.2) ?_ hrec
        simp only [All]
        repeat' (first | exact trivial | with_reducible apply And.intro)
        all_goals (first | exact aA _ _ | omega | rfl | (intros; first | assumption | exact trivial | rfl | exact fT ‹_› | ((repeat' (first | assumption | apply anda | apply notf)); done)) | (exact hd) | (exact hb) | (intro t ht; simp [All, aEt]))
  refine piece_ok mixed hc (gLz w M) ?_ (lo M 0 (by omega))
  simp only [All]
  repeat' (first | exact trivial | with_reducible apply And.intro)
  all_goals (first | exact aA _ _ | omega | rfl | (intros; first | assumption | exact trivial | rfl | exact fT ‹_› | ((repeat' (first | assumption | apply anda | apply notf)); done)) | (intro t ht; exact absurd ht (Nat.not_lt_zero _)) | (intro t ht; simp [All, aEt]))
end Go.Proofs.YtffnfeefjdmifaaGreat.Mach
namespace Go.Proofs.YtffnfeefjdmifaaGreat.Mach
open Go
set_option linter.unusedVariables false
set_option linter.unusedSimpArgs false
def flt (p : Nat → Bool) : Nat → T_IntS
  | 0 => (0, fun _ => 0)
  | i + 1 => if p i = true then ((flt p i).1 + 1, fun s => if s < (flt p i).1 then (flt p i).2 s else i) else flt p i
theorem flt_n (p : Nat → Bool) : ∀ i, (flt p i).1 ≤ i
  | 0 => Nat.le_refl _
  | i + 1 => by
    have := flt_n p i
    simp only [flt]
    split
    · show (flt p i).1 + 1 ≤ i + 1; omega
    · omega
theorem flt_t {p : Nat → Bool} {i : Nat} (h : p i = true) : flt p (i + 1) = ((flt p i).1 + 1, fun s => if s < (flt p i).1 then (flt p i).2 s else i) := by simp [flt, h]
theorem flt_f {p : Nat → Bool} {i : Nat} (h : p i = false) : flt p (i + 1) = flt p i := by simp [flt, h]
theorem hasI_congr (f g : Nat → Int) (x : Int) : ∀ n, (∀ i, i < n → f i = g i) → hasI f x n = hasI g x n
  | 0, _ => rfl
  | n + 1, h => by simp only [hasI, hasI_congr f g x n (fun i hi => h i (by omega)), h n (by omega)]
theorem hasI_stD (w : Nat) (x : Int) : ∀ i, hasI (stD w i).2 x (stD w i).1 = (decide (0 ≤ x ∧ x < i) && btI w x)
  | 0 => by
    have : decide (0 ≤ x ∧ x < ((0 : Nat) : Int)) = false := decide_eq_false (by omega)
    rw [this]; rfl
  | i + 1 => by
    have ih := hasI_stD w x i
    by_cases hx : x = i
    · subst hx
      have h1 : decide (0 ≤ (i : Int) ∧ (i : Int) < (i : Int)) = false := decide_eq_false (by omega)
      have h2 : decide (0 ≤ (i : Int) ∧ (i : Int) < ((i + 1 : Nat) : Int)) = true := decide_eq_true (by omega)
      rw [h1] at ih
      rw [h2]
      cases hb : btI w i with
      | true =>
        rw [show stD w (i + 1) = ((stD w i).1 + 1, fun s => if s < (stD w i).1 then (stD w i).2 s else i) by simp [stD, hb]]
        simp [hasI]
      | false =>
        rw [show stD w (i + 1) = stD w i by simp [stD, hb]]
        rw [ih]; rfl
    · have h1 : decide (0 ≤ x ∧ x < ((i + 1 : Nat) : Int)) = decide (0 ≤ x ∧ x < (i : Int)) := by
        rw [decide_eq_decide]; omega
      rw [h1, ← ih]
      cases hb : btI w i with
      | true =>
        rw [show stD w (i + 1) = ((stD w i).1 + 1, fun s => if s < (stD w i).1 then (stD w i).2 s else i) by simp [stD, hb]]
        simp only [hasI, Nat.lt_irrefl, if_false]
        rw [show (((i : Nat) : Int) == x) = false from beq_eq_false_iff_ne.2 (fun h => hx h.symm), Bool.or_false]
        exact hasI_congr _ _ x _ (fun j hj => by simp only [hj, if_true])
      | false => rw [show stD w (i + 1) = stD w i by simp [stD, hb]]
end Go.Proofs.YtffnfeefjdmifaaGreat.Mach
namespace Go.Proofs.YtffnfeefjdmifaaGreat.Mach
open Go
set_option linter.unusedVariables false
set_option linter.unusedSimpArgs false
def ssOb (n : Nat) (C : Nat → T_IntS) : Ob := ⟨false, 1, n, fun i => [.p (.seq false 1 (C i).1 (fun s => [.int .i64 ((C i).2 s)]))]⟩
def snocC (n : Nat) (C : Nat → T_IntS) (c : T_IntS) (i : Nat) : T_IntS := (if i < n then (C i).1 else c.1, fun s => if i < n then (C i).2 s else c.2 s)
def SBs (g : Nat → T_Bar) (nb N e : Nat) (n p : Nat) (f : Nat → Int) : St :=
  ⟨[grG g nb N, .p (.int .i64 e), .pt 2 0 0 0, .p .any, .p .any, .ar 1 1 0 n, .p (.int .i64 (g e).1), .p (.int .i64 (g e).2.1), .p (.int .i64 p)] ++ List.replicate 49 anyA, [(0, bxG g nb N), (1, iOb n f)], 2⟩
def SBi (g : Nat → T_Bar) (nb N e : Nat) (n p : Nat) (f : Nat → Int) : St :=
  ⟨[grG g nb N, .p (.int .i64 e), .pt 2 0 0 0, .p .any, .p .any, .ar 1 1 0 n, .pt 2 2 0 0] ++ List.replicate 21 anyA ++ [.p (.int .i64 N), .p (.int .i64 p)] ++ List.replicate 20 anyA, [(0, bxG g nb N), (1, iOb n f), (2, bxB (g e))], 3⟩
def SCs (g : Nat → T_Bar) (nb N e cn : Nat) (C : Nat → T_IntS) : St :=
  ⟨[grG g nb N, .pt 2 0 0 0, .p .any, .ar 1 1 0 cn, .p (.int .i64 e)] ++ List.replicate 40 anyA, [(0, bxG g nb N), (1, ssOb cn C)], 2⟩
def SCs1 (g : Nat → T_Bar) (nb N e cn : Nat) (C : Nat → T_IntS) (c : T_IntS) (kn : Bool) (k : Nat) : St :=
  ⟨[grG g nb N, .pt 2 0 0 0, .p .any, .ar 1 1 0 cn, .p (.int .i64 e), .ar 1 2 0 c.1, .p (.bool kn), .p (.int .i64 k)] ++ List.replicate 37 anyA, [(0, bxG g nb N), (1, ssOb cn C), (2, iOb c.1 c.2)], 3⟩
def SCi (g : Nat → T_Bar) (nb N e cn : Nat) (C : Nat → T_IntS) : St :=
  ⟨[grG g nb N, .pt 2 0 0 0, .p .any, .ar 1 1 0 cn] ++ List.replicate 12 anyA ++ [.p (.int .i64 nb), .p (.int .i64 e)] ++ List.replicate 26 anyA, [(0, bxG g nb N), (1, ssOb cn C)], 2⟩
def SCi1 (g : Nat → T_Bar) (nb N e cn : Nat) (C : Nat → T_IntS) (c : T_IntS) (kn : Bool) (k : Nat) : St :=
  ⟨[grG g nb N, .pt 2 0 0 0, .p .any, .ar 1 1 0 cn, .p .any, .ar 1 2 0 c.1, .p (.bool kn)] ++ List.replicate 9 anyA ++ [.p (.int .i64 nb), .p (.int .i64 e)] ++ List.replicate 5 anyA ++ [.ar 1 1 0 cn, .p (.int .i64 cn), .p (.int .i64 k)] ++ List.replicate 18 anyA, [(0, bxG g nb N), (1, ssOb cn C), (2, iOb c.1 c.2)], 3⟩
theorem cBsz (g : Nat → T_Bar) (nb N e : Nat) :
    pieceOb Tryz.prog 0 [rg 2, rg 2, rm [(1, oc [] (.p (.bool true)))] 12, .dec false, rg 7, rg 7, rg 1, .head] [.code (bodyOf Tryz.f98)] (start Tryz.f98 [] 0 [grG g nb N, .p (.int .i64 e)]) [0, 64] 1 (SBs g nb N e 0 0 (fun _ => 0)) =
    some (zf20, [(NT 0 1),Con Tryz.prog 22 0 [] [(zf78 N nb g)] [] (.p (.bool true)),(AG (!!true)),(((!true) = false) →  ((!!true) = true)),(AG (!bif !true then true else decide ((↑e : Int) < 0))),(((!bif !true then true else decide ((↑e : Int) < 0)) = true) → (NT 0 1)),(AG (!bif !true then true else decide ((↑e : Int) < 0))),(AG (!bif !true then true else decide ((↑e : Int) < 0))),(AG (!bif !true then true else decide ((↑e : Int) < 0))),(((bif !true then true else decide ((↑e : Int) < 0)) = false) →  ((!bif !true then true else decide ((↑e : Int) < 0)) = true)),((bif bif !true then true else decide ((↑e : Int) < 0) then true else decide ((↑e : Int) ≥ (↑nb : Int))) = false),(NT 0 1),(IL 0 (↑e : Int)),(IT (↑e : Int) (↑nb : Int)),(NT 0 1),(IL 0 (↑e : Int)),(IT (↑e : Int) (↑nb : Int)),(AI ((↑N : Int))),(AN nb),(AP nb (fun i => [.int .i64 ((g i).1), .int .i64 ((g i).2.1)])),(AI ((↑e : Int))),(AN 0),(AN 0),(AN 0),(AI (((g e).1))),(AI (((g e).2.1))),((0 : Int) = (↑0 : Int)),((([AV.p (PV.int IntKind.i64 (↑N : Int)), brL g nb].length) : Nat) = 2),(NL 1 1),(NL 1 1),(AI ((↑N : Int))),(AN nb),(AP nb (fun i => [.int .i64 ((g i).1), .int .i64 ((g i).2.1)])),(AN 1),(NL 0 0),(AA 0 (fun i => [.p (.int .i64 0)]))]) := by kernel_rfl
theorem cBst (g : Nat → T_Bar) (nb N e n p : Nat) (f : Nat → Int) (r1 r2 : Bool) :
    pieceOb Tryz.prog 0 [rg 4, .dec true, rm [(3, oc [] (.p (.bool r1))), (4, oc [] (.p (.bool r2)))] 1, .dec true, rg 5, rg 3, .head] zf20 (SBs g nb N e n p f) [0, 546] 1 (SBs g nb N e (n + 1) (p + 1) (snocI n f p)) =
    some (zf20, [(NT 0 1),((decide ((↑p : Int) < (↑N : Int))) = true),(NT 0 1),Con Tryz.prog 150 0 [] [(zf78 N nb g), .p (.int .i64 ((g e).1)), .p (.int .i64 (↑p : Int))] [] (.p (.bool r1)),((r1 = true) → (NT 0 1)),(AG r1),(AG r1),(AG r1),((r1 = true) →  Con Tryz.prog 150 0 [] [(zf78 N nb g), .p (.int .i64 ((g e).2.1)), .p (.int .i64 (↑p : Int))] [] (.p (.bool r2))),(AG r1),((bif r1 then r2 else false) = true),(NL 1 1),(NL n n),(NL ((n + 1) * 8) 140737488355328),(NL (n + 1) 9223372036854775807),(R0 ((↑p : Int) + 1)),(R1 ((↑p : Int) + 1)),(AI ((↑N : Int))),(AN nb),(AP nb (fun i => [.int .i64 ((g i).1), .int .i64 ((g i).2.1)])),(AI ((↑e : Int))),(AN 0),(AN 0),(AN ((n + 1))),(AI (((g e).1))),(AI (((g e).2.1))),((((↑p : Int) + 1) : Int) = (↑(p + 1) : Int)),(AN 2),(NL 1 1),(NL 1 1),(AI ((↑N : Int))),(AN nb),(AP nb (fun i => [.int .i64 ((g i).1), .int .i64 ((g i).2.1)])),(AN 1),(NL (n + 1) (n + 1)),(CV [(546, ⟨false, 1, (n + 1), (fun i_1 => (if (i_1 < n) then [.p (.int .i64 (f i_1))] else [.p (.int .i64 (↑p : Int))]))⟩), (514, ⟨false, 1, 1, (fun i_1 => [.p (.int .i64 (↑p : Int))])⟩), (0, ⟨true, 2, 1, (fun i_1 => [.p (.int .i64 (↑N : Int)), .p (.seq true 2 nb (fun i_2 => [.int .i64 ((g i_2).1), .int .i64 ((g i_2).2.1)]))])⟩)] [0, 546] 1 (n + 1) (fun i => if (i < n) then [.p (.int .i64 (f i))] else [.p (.int .i64 (↑p : Int))]) (fun i => [.p (.int .i64 (snocI n f (↑p : Int) i))]))]) := by kernel_rfl
theorem cBsf (g : Nat → T_Bar) (nb N e n p : Nat) (f : Nat → Int) (r1 r2 : Bool) :
    pieceOb Tryz.prog 0 [rg 4, .dec true, rm [(3, oc [] (.p (.bool r1))), (4, oc [] (.p (.bool r2)))] 1, .dec false, rg 3, .head] zf20 (SBs g nb N e n p f) [0, 1] 1 (SBs g nb N e n (p + 1) f) =
    some (zf20, [(NT 0 1),((decide ((↑p : Int) < (↑N : Int))) = true),(NT 0 1),Con Tryz.prog 150 0 [] [(zf78 N nb g), .p (.int .i64 ((g e).1)), .p (.int .i64 (↑p : Int))] [] (.p (.bool r1)),((r1 = true) → (NT 0 1)),(AG r1),(AG r1),(AG r1),((r1 = true) →  Con Tryz.prog 150 0 [] [(zf78 N nb g), .p (.int .i64 ((g e).2.1)), .p (.int .i64 (↑p : Int))] [] (.p (.bool r2))),(AG r1),((bif r1 then r2 else false) = false),(R0 ((↑p : Int) + 1)),(R1 ((↑p : Int) + 1)),(AI ((↑N : Int))),(AN nb),(AP nb (fun i => [.int .i64 ((g i).1), .int .i64 ((g i).2.1)])),(AI ((↑e : Int))),(AN 0),(AN 0),(AN n),(AI (((g e).1))),(AI (((g e).2.1))),((((↑p : Int) + 1) : Int) = (↑(p + 1) : Int)),(AN 2),(NL 1 1),(NL 1 1),(AI ((↑N : Int))),(AN nb),(AP nb (fun i => [.int .i64 ((g i).1), .int .i64 ((g i).2.1)])),(AN 1),(NL n n),(AA n (fun i => [.p (.int .i64 (f i))]))]) := by kernel_rfl
theorem cBse (g : Nat → T_Bar) (nb N e n p : Nat) (f : Nat → Int) :
    pathOb Tryz.prog Tryz.f98 0 [rg 4, .dec false, rg 2] zf20 (SBs g nb N e n p f) [1] 1 [(0, iOb n f)] (.ar 1 0 0 n) =
    some [(NT 0 1),((decide ((↑p : Int) < (↑N : Int))) = false),(AN 0),(AN n),(AN 1),(NL n n),(AA n (fun i => [.p (.int .i64 (f i))])),(AE n)] := by kernel_rfl
theorem cBiz (g : Nat → T_Bar) (nb N e : Nat) :
    pieceOb Tryz.prog 0 [rg 2, rg 2, rm [(1, oc [] (.p (.bool true))), (7, oc [] (.p (.bool true)))] 2, .dec false, rg 7, rg 3, .head] [.code (bodyOf Tryz.f109)] (start Tryz.f109 [] 0 [grG g nb N, .p (.int .i64 e)]) [0, 64, 672] 1 (SBi g nb N e 0 0 (fun _ => 0)) =
    some (zf24, [(NT 0 1),Con Tryz.prog 35 0 [] [(zf78 N nb g)] [] (.p (.bool true)),(AG (!!true)),(((!!true) = true) → (NT 0 1)),(AG (!!true)),(AG (!!true)),(((!!true) = true) → (R0 ((↑nb : Int) - 1))),(((!!true) = true) → (R1 ((↑nb : Int) - 1))),(AG (!!true)),(AG (!!true)),(((!!true) = true) →  Con Tryz.prog 104 0 [] [.p (.int .i64 (↑e : Int)), .p (.int .i64 0), .p (.int .i64 ((↑nb : Int) - 1))] [] (.p (.bool true))),(AG (!!true)),(((!true) = false) →  ((!!true) = true)),((bif !true then true else !true) = false),(NT 0 1),(IL 0 (↑e : Int)),(IT (↑e : Int) (↑nb : Int)),(NT 0 1),((true = true) →  (AN 1)),(NT 0 1),(AI ((↑N : Int))),(AN nb),(AP nb (fun i => [.int .i64 ((g i).1), .int .i64 ((g i).2.1)])),(AI ((↑e : Int))),(AN 0),(AN 0),(AN 0),(AN 0),(AI ((↑N : Int))),((0 : Int) = (↑0 : Int)),((([AV.p (PV.int IntKind.i64 (↑N : Int)), brL g nb].length) : Nat) = 2),(NL 1 1),(NL 1 1),(AI ((↑N : Int))),(AN nb),(AP nb (fun i => [.int .i64 ((g i).1), .int .i64 ((g i).2.1)])),(AN 1),(NL 0 0),(AA 0 (fun i => [.p (.int .i64 0)])),((((List.map (fun v => AV.p (absV v)) [Value.int IntKind.i64 0, Value.int IntKind.i64 0]).length) : Nat) = 2),(NL 1 1),(NL 1 1),(AI (((g e).1))),(AI (((g e).2.1)))]) := by kernel_rfl
theorem cBit (g : Nat → T_Bar) (nb N e n p : Nat) (f : Nat → Int) (r1 r2 : Bool) :
    pieceOb Tryz.prog 0 [rg 1, .dec true, rg 2, rm [(4, oc [] (.p (.bool r1))), (5, oc [] (.p (.bool r2)))] 1, .dec true, rg 5, rg 2, .head] zf24 (SBi g nb N e n p f) [0, 579, 2] 1 (SBi g nb N e (n + 1) (p + 1) (snocI n f p)) =
    some (zf24, [((decide ((↑p : Int) < (↑N : Int))) = true),(NT 0 1),(NT 0 1),Con Tryz.prog 156 0 [] [(zf78 N nb g), .p (.int .i64 ((g e).1)), .p (.int .i64 (↑p : Int))] [] (.p (.bool r1)),((r1 = true) → (NT 0 1)),(AG r1),((r1 = true) → (NT 0 1)),(AG r1),(AG r1),(AG r1),((r1 = true) →  Con Tryz.prog 156 0 [] [(zf78 N nb g), .p (.int .i64 ((g e).2.1)), .p (.int .i64 (↑p : Int))] [] (.p (.bool r2))),(AG r1),((bif r1 then r2 else false) = true),(NL 1 1),(NL n n),(NL ((n + 1) * 8) 140737488355328),(NL (n + 1) 9223372036854775807),(R0 ((↑p : Int) + 1)),(R1 ((↑p : Int) + 1)),(AI ((↑N : Int))),(AN nb),(AP nb (fun i => [.int .i64 ((g i).1), .int .i64 ((g i).2.1)])),(AI ((↑e : Int))),(AN 0),(AN 0),(AN ((n + 1))),(AN 0),(AI ((↑N : Int))),((((↑p : Int) + 1) : Int) = (↑(p + 1) : Int)),(AN 2),(NL 1 1),(NL 1 1),(AI ((↑N : Int))),(AN nb),(AP nb (fun i => [.int .i64 ((g i).1), .int .i64 ((g i).2.1)])),(AN 1),(NL (n + 1) (n + 1)),(CV [(579, ⟨false, 1, (n + 1), (fun i_1 => (if (i_1 < n) then [.p (.int .i64 (f i_1))] else [.p (.int .i64 (↑p : Int))]))⟩), (547, ⟨false, 1, 1, (fun i_1 => [.p (.int .i64 (↑p : Int))])⟩), (0, ⟨true, 2, 1, (fun i_1 => [.p (.int .i64 (↑N : Int)), .p (.seq true 2 nb (fun i_2 => [.int .i64 ((g i_2).1), .int .i64 ((g i_2).2.1)]))])⟩), (2, ⟨true, 2, 1, (fun i_1 => [.p (.int .i64 ((g e).1)), .p (.int .i64 ((g e).2.1))])⟩)] [0, 579, 2] 1 (n + 1) (fun i => if (i < n) then [.p (.int .i64 (f i))] else [.p (.int .i64 (↑p : Int))]) (fun i => [.p (.int .i64 (snocI n f (↑p : Int) i))])),(AN 2),(NL 1 1),(NL 1 1),(AI (((g e).1))),(AI (((g e).2.1)))]) := by kernel_rfl
theorem cBif (g : Nat → T_Bar) (nb N e n p : Nat) (f : Nat → Int) (r1 r2 : Bool) :
    pieceOb Tryz.prog 0 [rg 1, .dec true, rg 2, rm [(4, oc [] (.p (.bool r1))), (5, oc [] (.p (.bool r2)))] 1, .dec false, rg 2, .head] zf24 (SBi g nb N e n p f) [0, 1, 2] 1 (SBi g nb N e n (p + 1) f) =
    some (zf24, [((decide ((↑p : Int) < (↑N : Int))) = true),(NT 0 1),(NT 0 1),Con Tryz.prog 156 0 [] [(zf78 N nb g), .p (.int .i64 ((g e).1)), .p (.int .i64 (↑p : Int))] [] (.p (.bool r1)),((r1 = true) → (NT 0 1)),(AG r1),((r1 = true) → (NT 0 1)),(AG r1),(AG r1),(AG r1),((r1 = true) →  Con Tryz.prog 156 0 [] [(zf78 N nb g), .p (.int .i64 ((g e).2.1)), .p (.int .i64 (↑p : Int))] [] (.p (.bool r2))),(AG r1),((bif r1 then r2 else false) = false),(R0 ((↑p : Int) + 1)),(R1 ((↑p : Int) + 1)),(AI ((↑N : Int))),(AN nb),(AP nb (fun i => [.int .i64 ((g i).1), .int .i64 ((g i).2.1)])),(AI ((↑e : Int))),(AN 0),(AN 0),(AN n),(AN 0),(AI ((↑N : Int))),((((↑p : Int) + 1) : Int) = (↑(p + 1) : Int)),(AN 2),(NL 1 1),(NL 1 1),(AI ((↑N : Int))),(AN nb),(AP nb (fun i => [.int .i64 ((g i).1), .int .i64 ((g i).2.1)])),(AN 1),(NL n n),(AA n (fun i => [.p (.int .i64 (f i))])),(AN 2),(NL 1 1),(NL 1 1),(AI (((g e).1))),(AI (((g e).2.1)))]) := by kernel_rfl
theorem cBie (g : Nat → T_Bar) (nb N e n p : Nat) (f : Nat → Int) :
    pathOb Tryz.prog Tryz.f109 0 [rg 1, .dec false, rg 2] zf24 (SBi g nb N e n p f) [1] 1 [(0, iOb n f)] (.ar 1 0 0 n) =
    some [((decide ((↑p : Int) < (↑N : Int))) = false),(AN 0),(AN n),(AN 1),(NL n n),(AA n (fun i => [.p (.int .i64 (f i))])),(AE n)] := by kernel_rfl
theorem cCsz (g : Nat → T_Bar) (nb N : Nat) :
    pieceOb Tryz.prog 0 [rg 2, rg 2, rg 1, .head] [.code (bodyOf Tryz.f27)] (start Tryz.f27 [] 0 [grG g nb N]) [0, 64] 1 (SCs g nb N 0 0 (fun _ => (0, fun _ => 0))) =
    some (zf64, [(AI ((↑N : Int))),(AN nb),(AP nb (fun i => [.int .i64 ((g i).1), .int .i64 ((g i).2.1)])),(AN 0),(AN 0),(AN 0),((0 : Int) = (↑0 : Int)),((([AV.p (PV.int IntKind.i64 (↑N : Int)), brL g nb].length) : Nat) = 2),(NL 1 1),(NL 1 1),(AI ((↑N : Int))),(AN nb),(AP nb (fun i => [.int .i64 ((g i).1), .int .i64 ((g i).2.1)])),(AN 1),(NL 0 0),(∀ i : Nat, (((i : Nat) < 0) → (All [] ∧ (([.p (.nil)] : List AV) = [.p (.seq false 1 0 (fun i_1 => [.int .i64 ((0, fun x => 0).2 i_1)]))]))))]) := by kernel_rfl
theorem cCs1 (g : Nat → T_Bar) (nb N e cn : Nat) (C : Nat → T_IntS) (c : T_IntS) :
    pieceOb Tryz.prog 0 [rm [(7, oc [] (.p (.bool true)))] 1, .dec true, rm [(2, oc [(0, iOb c.1 c.2)] (.ar 1 0 0 c.1))] 1, rg 1, rg 1, .head] zf64 (SCs g nb N e cn C) [0, 1, 354] 1 (SCs1 g nb N e cn C c false 0) =
    some (zf5, [(NT 0 1),(((decide ((↑e : Int) < (↑nb : Int))) = true) → (NT 0 1)),(AG (decide ((↑e : Int) < (↑nb : Int)))),(((decide ((↑e : Int) < (↑nb : Int))) = true) →  Con Tryz.prog 22 0 [] [(zf78 N nb g)] [] (.p (.bool true))),(AG (decide ((↑e : Int) < (↑nb : Int)))),((bif decide ((↑e : Int) < (↑nb : Int)) then true else false) = true),(NT 0 1),Con Tryz.prog 98 0 [] [(zf78 N nb g), .p (.int .i64 (↑e : Int))] [(0, ⟨false, 1, c.1, (fun i => [.p (.int .i64 (c.2 i))])⟩)] (.ar 1 0 0 c.1),(AI ((↑N : Int))),(AN nb),(AP nb (fun i => [.int .i64 ((g i).1), .int .i64 ((g i).2.1)])),(AN 0),(AN 0),(AN cn),(AI ((↑e : Int))),(AN 0),(AN c.1),(false = false),((0 : Int) = (↑0 : Int)),(AN 2),(NL 1 1),(NL 1 1),(AI ((↑N : Int))),(AN nb),(AP nb (fun i => [.int .i64 ((g i).1), .int .i64 ((g i).2.1)])),(AN 1),(NL cn cn),(AA cn (fun i => [.p (.seq false 1 ((C i).1) (fun i_1 => [.int .i64 ((C i).2 i_1)]))])),(AN 1),(NL c.1 c.1),(AA c.1 (fun i => [.p (.int .i64 (c.2 i))]))]) := by kernel_rfl
theorem cCse (g : Nat → T_Bar) (nb N e cn : Nat) (C : Nat → T_IntS) (b : Bool) :
    pathOb Tryz.prog Tryz.f27 0 [rm [(7, oc [] (.p (.bool b)))] 1, .dec false, rg 2] zf64 (SCs g nb N e cn C) [1] 1 [(0, ssOb cn C)] (.ar 1 0 0 cn) =
    some [(NT 0 1),(((decide ((↑e : Int) < (↑nb : Int))) = true) → (NT 0 1)),(AG (decide ((↑e : Int) < (↑nb : Int)))),(((decide ((↑e : Int) < (↑nb : Int))) = true) →  Con Tryz.prog 22 0 [] [(zf78 N nb g)] [] (.p (.bool b))),(AG (decide ((↑e : Int) < (↑nb : Int)))),((bif decide ((↑e : Int) < (↑nb : Int)) then b else false) = false),(AN 0),(AN cn),(AN 1),(NL cn cn),(AA cn (fun i => [.p (.seq false 1 ((C i).1) (fun i_1 => [.int .i64 ((C i).2 i_1)]))])),(∀ i : Nat, (((i : Nat) < cn) → All [(false = false), (AE (((C i).1)))]))] := by kernel_rfl
theorem cCs2 (g : Nat → T_Bar) (nb N e cn : Nat) (C : Nat → T_IntS) (c : T_IntS) (kn : Bool) (k : Nat) (q : Bool) :
    pieceOb Tryz.prog 0 [rg 4, .dec true, rm [(7, oc [] (.p (.bool q)))] 2, rg 3, .head] zf5 (SCs1 g nb N e cn C c kn k) [0, 1, 2] 1 (SCs1 g nb N e cn C c (bif kn then true else q) (k + 1)) =
    some (zf5, [((decide ((↑k : Int) < (↑cn : Int))) = true),(AG (!kn)),(AG (!kn)),(((!kn) = true) → (IL 0 (↑k : Int))),(((!kn) = true) → (IT (↑k : Int) (↑cn : Int))),(AG (!kn)),(((!kn) = true) → (NT k cn)),(AG (!kn)),(AG (!kn)),(((!kn) = true) →  (AN 1)),(((!kn) = true) → (NL c.1 c.1)),(((!kn) = true) →  Con Tryz.prog 99 0 [] [.p (.seq true 1 ((C k).1) (fun i => [.int .i64 ((C k).2 i)])), .p (.seq true 1 c.1 (fun i => [.int .i64 (c.2 i)]))] [] (.p (.bool q))),((kn = false) →  ((!kn) = true)),(R0 ((↑k : Int) + 1)),(R1 ((↑k : Int) + 1)),(AI ((↑N : Int))),(AN nb),(AP nb (fun i => [.int .i64 ((g i).1), .int .i64 ((g i).2.1)])),(AN 0),(AN 0),(AN cn),(AI ((↑e : Int))),(AN 0),(AN c.1),((bif kn then true else q) = (bif kn then true else q)),((((↑k : Int) + 1) : Int) = (↑(k + 1) : Int)),(AN 2),(NL 1 1),(NL 1 1),(AI ((↑N : Int))),(AN nb),(AP nb (fun i => [.int .i64 ((g i).1), .int .i64 ((g i).2.1)])),(AN 1),(NL cn cn),(AA cn (fun i => [.p (.seq false 1 ((C i).1) (fun i_1 => [.int .i64 ((C i).2 i_1)]))])),(AN 1),(NL c.1 c.1),(AA c.1 (fun i => [.p (.int .i64 (c.2 i))]))]) := by kernel_rfl
theorem cCs3 (g : Nat → T_Bar) (nb N e cn : Nat) (C : Nat → T_IntS) (c : T_IntS) (kn : Bool) (k : Nat) :
    pieceOb Tryz.prog 0 [rg 4, .dec false, rg 2, .dec true, rg 5, rg 3, .head] zf5 (SCs1 g nb N e cn C c kn k) [0, 291] 1 (SCs g nb N (e + 1) (cn + 1) (snocC cn C c)) =
    some (zf64, [((decide ((↑k : Int) < (↑cn : Int))) = false),((!kn) = true),(NL 1 1),(NL cn cn),(NL ((cn + 1) * 24) 140737488355328),(NL (cn + 1) 9223372036854775807),(R0 ((↑e : Int) + 1)),(R1 ((↑e : Int) + 1)),(AI ((↑N : Int))),(AN nb),(AP nb (fun i => [.int .i64 ((g i).1), .int .i64 ((g i).2.1)])),(AN 0),(AN 0),(AN ((cn + 1))),((((↑e : Int) + 1) : Int) = (↑(e + 1) : Int)),(AN 2),(NL 1 1),(NL 1 1),(AI ((↑N : Int))),(AN nb),(AP nb (fun i => [.int .i64 ((g i).1), .int .i64 ((g i).2.1)])),(AN 1),(NL (cn + 1) (cn + 1)),(CV [(291, ⟨false, 1, (cn + 1), (fun i_1 => (if (i_1 < cn) then [.p (.seq false 1 ((C i_1).1) (fun i_2 => [.int .i64 ((C i_1).2 i_2)]))] else [.ar 1 2 0 c.1]))⟩), (259, ⟨false, 1, 1, (fun i_1 => [.ar 1 2 0 c.1])⟩), (0, ⟨true, 2, 1, (fun i_1 => [.p (.int .i64 (↑N : Int)), .p (.seq true 2 nb (fun i_2 => [.int .i64 ((g i_2).1), .int .i64 ((g i_2).2.1)]))])⟩), (2, ⟨false, 1, c.1, (fun i_1 => [.p (.int .i64 (c.2 i_1))])⟩)] [0, 291] 1 (cn + 1) (fun i => if (i < cn) then [.p (.seq false 1 ((C i).1) (fun i_1 => [.int .i64 ((C i).2 i_1)]))] else [.ar 1 2 0 c.1]) (fun i => [.p (.seq false 1 (if i < cn then (C i).1 else c.1) (fun i_1 => [.int .i64 ((snocC cn C c i).2 i_1)]))]))]) := by kernel_rfl
theorem cCs4 (g : Nat → T_Bar) (nb N e cn : Nat) (C : Nat → T_IntS) (c : T_IntS) (kn : Bool) (k : Nat) :
    pieceOb Tryz.prog 0 [rg 4, .dec false, rg 2, .dec false, rg 3, .head] zf5 (SCs1 g nb N e cn C c kn k) [0, 1] 1 (SCs g nb N (e + 1) cn C) =
    some (zf64, [((decide ((↑k : Int) < (↑cn : Int))) = false),((!kn) = false),(R0 ((↑e : Int) + 1)),(R1 ((↑e : Int) + 1)),(AI ((↑N : Int))),(AN nb),(AP nb (fun i => [.int .i64 ((g i).1), .int .i64 ((g i).2.1)])),(AN 0),(AN 0),(AN cn),((((↑e : Int) + 1) : Int) = (↑(e + 1) : Int)),(AN 2),(NL 1 1),(NL 1 1),(AI ((↑N : Int))),(AN nb),(AP nb (fun i => [.int .i64 ((g i).1), .int .i64 ((g i).2.1)])),(AN 1),(NL cn cn),(AA cn (fun i => [.p (.seq false 1 ((C i).1) (fun i_1 => [.int .i64 ((C i).2 i_1)]))]))]) := by kernel_rfl
theorem cCiz (g : Nat → T_Bar) (nb N : Nat) :
    pieceOb Tryz.prog 0 [rg 2, rg 2, rm [(1, oc [] (.p (.bool true)))] 1, .dec false, rg 4, .head] [.code (bodyOf Tryz.f41)] (start Tryz.f41 [] 0 [grG g nb N]) [0, 64] 1 (SCi g nb N 0 0 (fun _ => (0, fun _ => 0))) =
    some (zf43, [(NT 0 1),Con Tryz.prog 35 0 [] [(zf78 N nb g)] [] (.p (.bool true)),((!true) = false),(NT 0 1),(AI ((↑N : Int))),(AN nb),(AP nb (fun i => [.int .i64 ((g i).1), .int .i64 ((g i).2.1)])),(AN 0),(AN 0),(AN 0),(AI ((↑nb : Int))),((0 : Int) = (↑0 : Int)),((([AV.p (PV.int IntKind.i64 (↑N : Int)), brL g nb].length) : Nat) = 2),(NL 1 1),(NL 1 1),(AI ((↑N : Int))),(AN nb),(AP nb (fun i => [.int .i64 ((g i).1), .int .i64 ((g i).2.1)])),(AN 1),(NL 0 0),(∀ i : Nat, (((i : Nat) < 0) → (All [] ∧ (([.p (.nil)] : List AV) = [.p (.seq false 1 0 (fun i_1 => [.int .i64 ((0, fun x => 0).2 i_1)]))]))))]) := by kernel_rfl
theorem cCi1 (g : Nat → T_Bar) (nb N e cn : Nat) (C : Nat → T_IntS) (c : T_IntS) :
    pieceOb Tryz.prog 0 [rg 1, .dec true, rg 2, rm [(2, oc [(0, iOb c.1 c.2)] (.ar 1 0 0 c.1))] 1, rg 1, rg 3, .head] zf43 (SCi g nb N e cn C) [0, 1, 162] 1 (SCi1 g nb N e cn C c false 0) =
    some (zf4, [((decide ((↑e : Int) < (↑nb : Int))) = true),(NT 0 1),Con Tryz.prog 109 0 [] [(zf78 N nb g), .p (.int .i64 (↑e : Int))] [(0, ⟨false, 1, c.1, (fun i => [.p (.int .i64 (c.2 i))])⟩)] (.ar 1 0 0 c.1),(AI ((↑N : Int))),(AN nb),(AP nb (fun i => [.int .i64 ((g i).1), .int .i64 ((g i).2.1)])),(AN 0),(AN 0),(AN cn),(AN 0),(AN c.1),(false = false),(AI ((↑nb : Int))),(AI ((↑e : Int))),(AN 0),(AN cn),(AI ((↑cn : Int))),((0 : Int) = (↑0 : Int)),(AN 2),(NL 1 1),(NL 1 1),(AI ((↑N : Int))),(AN nb),(AP nb (fun i => [.int .i64 ((g i).1), .int .i64 ((g i).2.1)])),(AN 1),(NL cn cn),(AA cn (fun i => [.p (.seq false 1 ((C i).1) (fun i_1 => [.int .i64 ((C i).2 i_1)]))])),(AN 1),(NL c.1 c.1),(AA c.1 (fun i => [.p (.int .i64 (c.2 i))]))]) := by kernel_rfl
theorem cCie (g : Nat → T_Bar) (nb N e cn : Nat) (C : Nat → T_IntS) :
    pathOb Tryz.prog Tryz.f41 0 [rg 1, .dec false, rg 2] zf43 (SCi g nb N e cn C) [1] 1 [(0, ssOb cn C)] (.ar 1 0 0 cn) =
    some [((decide ((↑e : Int) < (↑nb : Int))) = false),(AN 0),(AN cn),(AN 1),(NL cn cn),(AA cn (fun i => [.p (.seq false 1 ((C i).1) (fun i_1 => [.int .i64 ((C i).2 i_1)]))])),(∀ i : Nat, (((i : Nat) < cn) → All [(false = false), (AE (((C i).1)))]))] := by kernel_rfl
theorem cCi2 (g : Nat → T_Bar) (nb N e cn : Nat) (C : Nat → T_IntS) (c : T_IntS) (kn : Bool) (k : Nat) (q : Bool) :
    pieceOb Tryz.prog 0 [rg 1, .dec true, rg 3, rm [(4, oc [] (.p (.bool q)))] 2, rg 2, .head] zf4 (SCi1 g nb N e cn C c kn k) [0, 1, 2] 1 (SCi1 g nb N e cn C c (bif kn then true else q) (k + 1)) =
    some (zf4, [((decide ((↑k : Int) < (↑cn : Int))) = true),(IL 0 (↑k : Int)),(IT (↑k : Int) (↑cn : Int)),(NT k cn),(AG (!kn)),(AG (!kn)),(((!kn) = true) →  (AN 1)),(((!kn) = true) → (NL c.1 c.1)),(((!kn) = true) →  Con Tryz.prog 110 0 [] [.p (.seq true 1 ((C k).1) (fun i => [.int .i64 ((C k).2 i)])), .p (.seq true 1 c.1 (fun i => [.int .i64 (c.2 i)]))] [] (.p (.bool q))),((kn = false) →  ((!kn) = true)),(R0 ((↑k : Int) + 1)),(R1 ((↑k : Int) + 1)),(AI ((↑N : Int))),(AN nb),(AP nb (fun i => [.int .i64 ((g i).1), .int .i64 ((g i).2.1)])),(AN 0),(AN 0),(AN cn),(AN 0),(AN c.1),((bif kn then true else q) = (bif kn then true else q)),(AI ((↑nb : Int))),(AI ((↑e : Int))),(AN 0),(AN cn),(AI ((↑cn : Int))),((((↑k : Int) + 1) : Int) = (↑(k + 1) : Int)),(AN 2),(NL 1 1),(NL 1 1),(AI ((↑N : Int))),(AN nb),(AP nb (fun i => [.int .i64 ((g i).1), .int .i64 ((g i).2.1)])),(AN 1),(NL cn cn),(AA cn (fun i => [.p (.seq false 1 ((C i).1) (fun i_1 => [.int .i64 ((C i).2 i_1)]))])),(AN 1),(NL c.1 c.1),(AA c.1 (fun i => [.p (.int .i64 (c.2 i))]))]) := by kernel_rfl
theorem cCi3 (g : Nat → T_Bar) (nb N e cn : Nat) (C : Nat → T_IntS) (c : T_IntS) (kn : Bool) (k : Nat) :
    pieceOb Tryz.prog 0 [rg 1, .dec false, rg 2, .dec true, rg 5, rg 2, .head] zf4 (SCi1 g nb N e cn C c kn k) [0, 195] 1 (SCi g nb N (e + 1) (cn + 1) (snocC cn C c)) =
    some (zf43, [((decide ((↑k : Int) < (↑cn : Int))) = false),((!kn) = true),(NL 1 1),(NL cn cn),(NL ((cn + 1) * 24) 140737488355328),(NL (cn + 1) 9223372036854775807),(R0 ((↑e : Int) + 1)),(R1 ((↑e : Int) + 1)),(AI ((↑N : Int))),(AN nb),(AP nb (fun i => [.int .i64 ((g i).1), .int .i64 ((g i).2.1)])),(AN 0),(AN 0),(AN ((cn + 1))),(AI ((↑nb : Int))),((((↑e : Int) + 1) : Int) = (↑(e + 1) : Int)),(AN 2),(NL 1 1),(NL 1 1),(AI ((↑N : Int))),(AN nb),(AP nb (fun i => [.int .i64 ((g i).1), .int .i64 ((g i).2.1)])),(AN 1),(NL (cn + 1) (cn + 1)),(CV [(195, ⟨false, 1, (cn + 1), (fun i_1 => (if (i_1 < cn) then [.p (.seq false 1 ((C i_1).1) (fun i_2 => [.int .i64 ((C i_1).2 i_2)]))] else [.ar 1 2 0 c.1]))⟩), (163, ⟨false, 1, 1, (fun i_1 => [.ar 1 2 0 c.1])⟩), (0, ⟨true, 2, 1, (fun i_1 => [.p (.int .i64 (↑N : Int)), .p (.seq true 2 nb (fun i_2 => [.int .i64 ((g i_2).1), .int .i64 ((g i_2).2.1)]))])⟩), (2, ⟨false, 1, c.1, (fun i_1 => [.p (.int .i64 (c.2 i_1))])⟩)] [0, 195] 1 (cn + 1) (fun i => if (i < cn) then [.p (.seq false 1 ((C i).1) (fun i_1 => [.int .i64 ((C i).2 i_1)]))] else [.ar 1 2 0 c.1]) (fun i => [.p (.seq false 1 (if i < cn then (C i).1 else c.1) (fun i_1 => [.int .i64 ((snocC cn C c i).2 i_1)]))]))]) := by kernel_rfl
theorem cCi4 (g : Nat → T_Bar) (nb N e cn : Nat) (C : Nat → T_IntS) (c : T_IntS) (kn : Bool) (k : Nat) :
    pieceOb Tryz.prog 0 [rg 1, .dec false, rg 2, .dec false, rg 2, .head] zf4 (SCi1 g nb N e cn C c kn k) [0, 1] 1 (SCi g nb N (e + 1) cn C) =
    some (zf43, [((decide ((↑k : Int) < (↑cn : Int))) = false),((!kn) = false),(R0 ((↑e : Int) + 1)),(R1 ((↑e : Int) + 1)),(AI ((↑N : Int))),(AN nb),(AP nb (fun i => [.int .i64 ((g i).1), .int .i64 ((g i).2.1)])),(AN 0),(AN 0),(AN cn),(AI ((↑nb : Int))),((((↑e : Int) + 1) : Int) = (↑(e + 1) : Int)),(AN 2),(NL 1 1),(NL 1 1),(AI ((↑N : Int))),(AN nb),(AP nb (fun i => [.int .i64 ((g i).1), .int .i64 ((g i).2.1)])),(AN 1),(NL cn cn),(AA cn (fun i => [.p (.seq false 1 ((C i).1) (fun i_1 => [.int .i64 ((C i).2 i_1)]))]))]) := by kernel_rfl
noncomputable def compD (N nb : Nat) (g : Nat → T_Bar) (e : Nat) : Nat → T_IntS
  | 0 => (0, fun _ => 0)
  | p + 1 =>
    if (bif impB N nb g (g e).1 p then impB N nb g (g e).2.1 p else false) = true then ((compD N nb g e p).1 + 1, snocI (compD N nb g e p).1 (compD N nb g e p).2 p)
    else compD N nb g e p
theorem compD_le (N nb : Nat) (g : Nat → T_Bar) (e : Nat) : ∀ p, (compD N nb g e p).1 ≤ p
  | 0 => Nat.le_refl _
  | p + 1 => by
    have := compD_le N nb g e p
    simp only [compD]
    split
    · show (compD N nb g e p).1 + 1 ≤ p + 1; omega
    · omega
def knF (C : Nat → T_IntS) (c : T_IntS) : Nat → Bool
  | 0 => false
  | k + 1 => bif knF C c k then true else q_IntS (C k) c
noncomputable def compsD (N nb : Nat) (g : Nat → T_Bar) : Nat → Nat × (Nat → T_IntS)
  | 0 => (0, fun _ => (0, fun _ => 0))
  | e + 1 =>
    if knF (compsD N nb g e).2 (compD N nb g e N) (compsD N nb g e).1 = true then compsD N nb g e
    else ((compsD N nb g e).1 + 1, snocC (compsD N nb g e).1 (compsD N nb g e).2 (compD N nb g e N))
theorem compsD_le (N nb : Nat) (g : Nat → T_Bar) : ∀ e, (compsD N nb g e).1 ≤ e ∧ ∀ j, j < (compsD N nb g e).1 → ((compsD N nb g e).2 j).1 ≤ N
  | 0 => ⟨Nat.le_refl _, fun j hj => absurd hj (Nat.not_lt_zero _)⟩
  | e + 1 => by
    obtain ⟨h1, h2⟩ := compsD_le N nb g e
    simp only [compsD]
    split
    · exact ⟨by omega, h2⟩
    · refine ⟨by show (compsD N nb g e).1 + 1 ≤ e + 1; omega, fun j hj => ?_⟩
      show (if j < (compsD N nb g e).1 then ((compsD N nb g e).2 j).1 else (compD N nb g e N).1) ≤ N
      split
      · exact h2 j (by assumption)
      · exact compD_le N nb g e N
theorem con_ComponentOfBar_s {N nb : Nat} {g : Nat → T_Bar} (hg : isGraphF ((N : Int), (nb, g), ()) = true) (e : Nat) (he : e < nb) :
    Con Tryz.prog 98 0 [] [grG g nb N, .p (.int .i64 e)] [(0, iOb (compD N nb g e N).1 (compD N nb g e N).2)] (.ar 1 0 0 (compD N nb g e N).1) := by
  obtain ⟨hN, hnb, hok⟩ := graph_in hg
  have hsm : smS s_Graph ((N : Int), (nb, g), ()) := ⟨by simp [smS, smL], ⟨by show nb ≤ 1048576; omega, fun i hi => by simp [smS, smL]⟩, True.intro⟩
  have hcg := con_IsGraph_s ((N : Int), (nb, g), ()) hsm
  rw [hg] at hcg
  have hbar := hok e he
  have hcond : (bif bif !true then true else decide ((e : Int) < 0) then true else decide ((e : Int) ≥ (nb : Int))) = false := by
    have h1 : ¬ (e : Int) < 0 := by omega
    have h2 : ¬ (nb : Int) ≤ (e : Int) := by omega
    simp [h1]; omega
  have hcw := True.intro
  refine con_start Tryz.func98 rfl (by kernel_rfl) rfl (fun c hc => ?_)
  have lp : ∀ d p, p + d = N → Run Tryz.prog c 98 zf20 (SBs g nb N e (compD N nb g e p).1 p (compD N nb g e p).2) (Post c [(0, iOb (compD N nb g e N).1 (compD N nb g e N).2)] (.ar 1 0 0 (compD N nb g e N).1)) := by
    intro d
    induction d with
    | zero =>
      intro p hp
      obtain rfl : p = N := by omega
      have hd : decide ((p : Int) < (p : Int)) = false := by simp
      refine path_ok mixed Tryz.func98 hc (cBse g nb p e (compD p nb g e p).1 p (compD p nb g e p).2) ?_
      simp only [All]
      repeat' (first | exact trivial | with_reducible apply And.intro)
      all_goals (first | exact aA _ _ | exact aE _ | omega | rfl | (intros; first | assumption | exact trivial | rfl | exact fT ‹_› | ((repeat' (first | assumption | apply anda | apply notf)); done)) | (intro i hi; simp [All, aEt]))
    | succ d ih =>
      intro p hp
      have hd : decide ((p : Int) < (N : Int)) = true := by simp; omega
      have hle := compD_le N nb g e p
      have c1 := con_IsImplied_s hg hok hN hnb (a := (g e).1) (b := p) (by omega) (by omega)
      have c2 := con_IsImplied_s hg hok hN hnb (a := (g e).2.1) (b := p) (by omega) (by omega)
      have hih := ih (p + 1) (by omega)
      cases ht : (bif impB N nb g (g e).1 p then impB N nb g (g e).2.1 p else false) with
      | true =>
        rw [show compD N nb g e (p + 1) = ((compD N nb g e p).1 + 1, snocI (compD N nb g e p).1 (compD N nb g e p).2 p) by simp only [compD]; rw [if_pos ht]] at hih
        refine piece_ok mixed hc (cBst g nb N e (compD N nb g e p).1 p (compD N nb g e p).2 (impB N nb g (g e).1 p) (impB N nb g (g e).2.1 p)) ?_ hih
        simp only [All]
        repeat' (first | exact trivial | with_reducible apply And.intro)
        all_goals (first | exact aG _ | exact aP _ _ | omega | rfl | (intros; first | assumption | exact trivial | rfl | exact fT ‹_› | ((repeat' (first | assumption | apply anda | apply notf)); done)) | (exact c1) | (intros; exact c2) | (exact ht) | (intro j hj; simp [All, aEt]; done) | (intro j hj; by_cases h : j < (compD N nb g e p).1 <;> simp [h, snocI, cvtL, cvt, tg, tru, All]))
      | false =>
        rw [show compD N nb g e (p + 1) = compD N nb g e p by simp only [compD]; rw [if_neg (by rw [ht]; simp)]] at hih
        refine piece_ok mixed hc (cBsf g nb N e (compD N nb g e p).1 p (compD N nb g e p).2 (impB N nb g (g e).1 p) (impB N nb g (g e).2.1 p)) ?_ hih
        simp only [All]
        repeat' (first | exact trivial | with_reducible apply And.intro)
        all_goals (first | exact aG _ | exact aP _ _ | exact aA _ _ | omega | rfl | (intros; first | assumption | exact trivial | rfl | exact fT ‹_› | ((repeat' (first | assumption | apply anda | apply notf)); done)) | (exact c1) | (intros; exact c2) | (exact ht) | (intro j hj; simp [All, aEt]))
  refine piece_ok mixed hc (cBsz g nb N e) ?_ (lp N 0 (by omega))
  simp only [All]
  repeat' (first | exact trivial | with_reducible apply And.intro)
  all_goals (first | exact aG _ | exact aP _ _ | exact aA _ _ | omega | rfl | (intros; first | assumption | exact trivial | rfl | exact fT ‹_› | ((repeat' (first | assumption | apply anda | apply notf)); done)) | (exact hcg) | (intros; exact hcw) | (exact hcond) | (intro h; simp at h ⊢; done) | (intro j hj; simp [All, aEt]))
theorem con_ComponentOfBar_i {N nb : Nat} {g : Nat → T_Bar} (hg : isGraphF ((N : Int), (nb, g), ()) = true) (e : Nat) (he : e < nb) :
    Con Tryz.prog 109 0 [] [grG g nb N, .p (.int .i64 e)] [(0, iOb (compD N nb g e N).1 (compD N nb g e N).2)] (.ar 1 0 0 (compD N nb g e N).1) := by
  obtain ⟨hN, hnb, hok⟩ := graph_in hg
  have hsm : smS s_Graph ((N : Int), (nb, g), ()) := ⟨by simp [smS, smL], ⟨by show nb ≤ 1048576; omega, fun i hi => by simp [smS, smL]⟩, True.intro⟩
  have hcg := con_IsGraph_i ((N : Int), (nb, g), ()) hsm
  rw [hg] at hcg
  have hbar := hok e he
  have hcw := con_within (e : Int) 0 ((nb : Int) - 1)
  rw [show inB (e : Int) 0 ((nb : Int) - 1) = true by simp [inB]; omega] at hcw
  have hcond := True.intro
  refine con_start Tryz.func109 rfl (by kernel_rfl) rfl (fun c hc => ?_)
  have lp : ∀ d p, p + d = N → Run Tryz.prog c 109 zf24 (SBi g nb N e (compD N nb g e p).1 p (compD N nb g e p).2) (Post c [(0, iOb (compD N nb g e N).1 (compD N nb g e N).2)] (.ar 1 0 0 (compD N nb g e N).1)) := by
    intro d
    induction d with
    | zero =>
      intro p hp
      obtain rfl : p = N := by omega
      have hd : decide ((p : Int) < (p : Int)) = false := by simp
      refine path_ok mixed Tryz.func109 hc (cBie g nb p e (compD p nb g e p).1 p (compD p nb g e p).2) ?_
      simp only [All]
      repeat' (first | exact trivial | with_reducible apply And.intro)
      all_goals (first | exact aA _ _ | exact aE _ | omega | rfl | (intros; first | assumption | exact trivial | rfl | exact fT ‹_› | ((repeat' (first | assumption | apply anda | apply notf)); done)) | (intro i hi; simp [All, aEt]))
    | succ d ih =>
      intro p hp
      have hd : decide ((p : Int) < (N : Int)) = true := by simp; omega
      have hle := compD_le N nb g e p
      have c1 := con_IsImplied_i hg hok hN hnb (a := (g e).1) (b := p) (by omega) (by omega)
      have c2 := con_IsImplied_i hg hok hN hnb (a := (g e).2.1) (b := p) (by omega) (by omega)
      have hih := ih (p + 1) (by omega)
      cases ht : (bif impB N nb g (g e).1 p then impB N nb g (g e).2.1 p else false) with
      | true =>
        rw [show compD N nb g e (p + 1) = ((compD N nb g e p).1 + 1, snocI (compD N nb g e p).1 (compD N nb g e p).2 p) by simp only [compD]; rw [if_pos ht]] at hih
        refine piece_ok mixed hc (cBit g nb N e (compD N nb g e p).1 p (compD N nb g e p).2 (impB N nb g (g e).1 p) (impB N nb g (g e).2.1 p)) ?_ hih
        simp only [All]
        repeat' (first | exact trivial | with_reducible apply And.intro)
        all_goals (first | exact aG _ | exact aP _ _ | omega | rfl | (intros; first | assumption | exact trivial | rfl | exact fT ‹_› | ((repeat' (first | assumption | apply anda | apply notf)); done)) | (exact c1) | (intros; exact c2) | (exact ht) | (intro j hj; simp [All, aEt]; done) | (intro j hj; by_cases h : j < (compD N nb g e p).1 <;> simp [h, snocI, cvtL, cvt, tg, tru, All]))
      | false =>
        rw [show compD N nb g e (p + 1) = compD N nb g e p by simp only [compD]; rw [if_neg (by rw [ht]; simp)]] at hih
        refine piece_ok mixed hc (cBif g nb N e (compD N nb g e p).1 p (compD N nb g e p).2 (impB N nb g (g e).1 p) (impB N nb g (g e).2.1 p)) ?_ hih
        simp only [All]
        repeat' (first | exact trivial | with_reducible apply And.intro)
        all_goals (first | exact aG _ | exact aP _ _ | exact aA _ _ | omega | rfl | (intros; first | assumption | exact trivial | rfl | exact fT ‹_› | ((repeat' (first | assumption | apply anda | apply notf)); done)) | (exact c1) | (intros; exact c2) | (exact ht) | (intro j hj; simp [All, aEt]))
  refine piece_ok mixed hc (cBiz g nb N e) ?_ (lp N 0 (by omega))
  simp only [All]
  repeat' (first | exact trivial | with_reducible apply And.intro)
  all_goals (first | exact aG _ | exact aP _ _ | exact aA _ _ | omega | rfl | (intros; first | assumption | exact trivial | rfl | exact fT ‹_› | ((repeat' (first | assumption | apply anda | apply notf)); done)) | (exact hcg) | (intros; exact hcw) | (exact hcond) | (intro h; simp at h ⊢; done) | (intro j hj; simp [All, aEt]))
theorem inner_s {N nb : Nat} {g : Nat → T_Bar} {e cn : Nat} {C : Nat → T_IntS} {cc : T_IntS} (hcn : cn ≤ 1048576) (hC : ∀ j, j < cn → (C j).1 ≤ 1048576) (c : Cx) (hc : c.n = 0) {R : Ending → World → Prop}
    (h : Run Tryz.prog c 27 zf5 (SCs1 g nb N e cn C cc (knF C cc cn) cn) R) :
    ∀ d k, k + d = cn → Run Tryz.prog c 27 zf5 (SCs1 g nb N e cn C cc (knF C cc k) k) R := by
  intro d
  induction d with
  | zero =>
    intro k hk
    have hkc : k = cn := by omega
    rw [hkc]
    exact h
  | succ d ih =>
    intro k hk
    have hd : decide ((k : Int) < (cn : Int)) = true := by simp; omega
    have hq := con_ls_l6Same_IntS (C k) cc (hC k (by omega))
    refine piece_ok mixed hc (cCs2 g nb N e cn C cc (knF C cc k) k (q_IntS (C k) cc)) ?_ (ih (k + 1) (by omega))
    simp only [All]
    repeat' (first | exact trivial | with_reducible apply And.intro)
    all_goals (first | exact aG _ | exact aP _ _ | exact aA _ _ | omega | rfl | (intros; first | assumption | exact trivial | rfl | exact fT ‹_› | ((repeat' (first | assumption | apply anda | apply notf)); done)) | (intros; exact hq) | (intro j hj; simp [All, aEt]))
theorem con_ComponentsOf_s {N nb : Nat} {g : Nat → T_Bar} (hg : isGraphF ((N : Int), (nb, g), ()) = true) :
    Con Tryz.prog 27 0 [] [grG g nb N] [(0, ssOb (compsD N nb g nb).1 (compsD N nb g nb).2)] (.ar 1 0 0 (compsD N nb g nb).1) := by
  obtain ⟨hN, hnb, hok⟩ := graph_in hg
  have hsm : smS s_Graph ((N : Int), (nb, g), ()) := ⟨by simp [smS, smL], ⟨by show nb ≤ 1048576; omega, fun i hi => by simp [smS, smL]⟩, True.intro⟩
  have hcg := con_IsGraph_s ((N : Int), (nb, g), ()) hsm
  rw [hg] at hcg
  refine con_start Tryz.func27 rfl (by kernel_rfl) rfl (fun c hc => ?_)
  have lp : ∀ d e, e + d = nb → Run Tryz.prog c 27 zf64 (SCs g nb N e (compsD N nb g e).1 (compsD N nb g e).2) (Post c [(0, ssOb (compsD N nb g nb).1 (compsD N nb g nb).2)] (.ar 1 0 0 (compsD N nb g nb).1)) := by
    intro d
    induction d with
    | zero =>
      intro e he
      obtain rfl : e = nb := by omega
      have hd : decide ((e : Int) < (e : Int)) = false := by simp
      refine path_ok mixed Tryz.func27 hc (cCse g e N e (compsD N e g e).1 (compsD N e g e).2 true) ?_
      simp only [All]
      repeat' (first | exact trivial | with_reducible apply And.intro)
      all_goals (first | exact aG _ | exact aA _ _ | exact aE _ | omega | rfl | (intros; first | assumption | exact trivial | rfl | exact fT ‹_› | ((repeat' (first | assumption | apply anda | apply notf)); done)) | (exact hcg) | (intros; exact hcg) | (intro h; rw [hd] at h; cases h) | (simp; done) | (intro i hi; simp [All, aEt]))
    | succ d ih =>
      intro e he
      have hd : decide ((e : Int) < (nb : Int)) = true := by simp; omega
      obtain ⟨hle, hC⟩ := compsD_le N nb g e
      have hcomp := con_ComponentOfBar_s hg e (by omega)
      have hcl := compD_le N nb g e N
      have hih := ih (e + 1) (by omega)
      have hin : Run Tryz.prog c 27 zf5 (SCs1 g nb N e (compsD N nb g e).1 (compsD N nb g e).2 (compD N nb g e N) (knF (compsD N nb g e).2 (compD N nb g e N) (compsD N nb g e).1) (compsD N nb g e).1) (Post c [(0, ssOb (compsD N nb g nb).1 (compsD N nb g nb).2)] (.ar 1 0 0 (compsD N nb g nb).1)) := by
        have hd' : decide (((compsD N nb g e).1 : Int) < ((compsD N nb g e).1 : Int)) = false := by simp
        cases hk : knF (compsD N nb g e).2 (compD N nb g e N) (compsD N nb g e).1 with
        | false =>
          rw [show compsD N nb g (e + 1) = ((compsD N nb g e).1 + 1, snocC (compsD N nb g e).1 (compsD N nb g e).2 (compD N nb g e N)) by simp only [compsD]; rw [if_neg (by rw [hk]; simp)]] at hih
          refine piece_ok mixed hc (cCs3 g nb N e (compsD N nb g e).1 (compsD N nb g e).2 (compD N nb g e N) false (compsD N nb g e).1) ?_ hih
          simp only [All]
          repeat' (first | exact trivial | with_reducible apply And.intro)
          all_goals (first | exact aP _ _ | omega | rfl | (intros; first | assumption | exact trivial | rfl | exact fT ‹_› | ((repeat' (first | assumption | apply anda | apply notf)); done)) | (intro j hj; simp [All, aEt]; done) | (intro j hj; by_cases h : j < (compsD N nb g e).1 <;> simp [h, snocC, cvtL, cvt, lendP, cellP, tab, idx, List.lookup, iOb, tg, tru, All]))
        | true =>
          rw [show compsD N nb g (e + 1) = compsD N nb g e by simp only [compsD]; rw [if_pos hk]] at hih
          refine piece_ok mixed hc (cCs4 g nb N e (compsD N nb g e).1 (compsD N nb g e).2 (compD N nb g e N) true (compsD N nb g e).1) ?_ hih
          simp only [All]
          repeat' (first | exact trivial | with_reducible apply And.intro)
          all_goals (first | exact aP _ _ | exact aA _ _ | omega | rfl | (intros; first | assumption | exact trivial | rfl | exact fT ‹_› | ((repeat' (first | assumption | apply anda | apply notf)); done)) | (intro j hj; simp [All, aEt]))
      refine piece_ok mixed hc (cCs1 g nb N e (compsD N nb g e).1 (compsD N nb g e).2 (compD N nb g e N)) ?_ (inner_s (by omega) (fun j hj => by have := hC j hj; omega) c hc hin (compsD N nb g e).1 0 (by omega))
      simp only [All]
      repeat' (first | exact trivial | with_reducible apply And.intro)
      all_goals (first | exact aG _ | exact aP _ _ | exact aA _ _ | omega | rfl | (intros; first | assumption | exact trivial | rfl | exact fT ‹_› | ((repeat' (first | assumption | apply anda | apply notf)); done)) | (exact hcg) | (intros; exact hcg) | (exact hcomp) | (rw [hd]; rfl) | (intro j hj; simp [All, aEt]))
  refine piece_ok mixed hc (cCsz g nb N) ?_ (lp nb 0 (by omega))
  simp only [All]
  repeat' (first | exact trivial | with_reducible apply And.intro)
  all_goals (first | exact aP _ _ | omega | rfl | (intros; first | assumption | exact trivial | rfl | exact fT ‹_› | ((repeat' (first | assumption | apply anda | apply notf)); done)) | (exact hcg) | (intro j hj; simp [All, aEt]))
theorem inner_i {N nb : Nat} {g : Nat → T_Bar} {e cn : Nat} {C : Nat → T_IntS} {cc : T_IntS} (hcn : cn ≤ 1048576) (hC : ∀ j, j < cn → (C j).1 ≤ 1048576) (c : Cx) (hc : c.n = 0) {R : Ending → World → Prop}
    (h : Run Tryz.prog c 41 zf4 (SCi1 g nb N e cn C cc (knF C cc cn) cn) R) :
    ∀ d k, k + d = cn → Run Tryz.prog c 41 zf4 (SCi1 g nb N e cn C cc (knF C cc k) k) R := by
  intro d
  induction d with
  | zero =>
    intro k hk
    have hkc : k = cn := by omega
    rw [hkc]
    exact h
  | succ d ih =>
    intro k hk
    have hd : decide ((k : Int) < (cn : Int)) = true := by simp; omega
    have hq := con_seIntS (C k) cc (hC k (by omega))
    refine piece_ok mixed hc (cCi2 g nb N e cn C cc (knF C cc k) k (q_IntS (C k) cc)) ?_ (ih (k + 1) (by omega))
    simp only [All]
    repeat' (first | exact trivial | with_reducible apply And.intro)
    all_goals (first | exact aG _ | exact aP _ _ | exact aA _ _ | omega | rfl | (intros; first | assumption | exact trivial | rfl | exact fT ‹_› | ((repeat' (first | assumption | apply anda | apply notf)); done)) | (intros; exact hq) | (intro j hj; simp [All, aEt]))
theorem con_ComponentsOf_i {N nb : Nat} {g : Nat → T_Bar} (hg : isGraphF ((N : Int), (nb, g), ()) = true) :
    Con Tryz.prog 41 0 [] [grG g nb N] [(0, ssOb (compsD N nb g nb).1 (compsD N nb g nb).2)] (.ar 1 0 0 (compsD N nb g nb).1) := by
  obtain ⟨hN, hnb, hok⟩ := graph_in hg
  have hsm : smS s_Graph ((N : Int), (nb, g), ()) := ⟨by simp [smS, smL], ⟨by show nb ≤ 1048576; omega, fun i hi => by simp [smS, smL]⟩, True.intro⟩
  have hcg := con_IsGraph_i ((N : Int), (nb, g), ()) hsm
  rw [hg] at hcg
  refine con_start Tryz.func41 rfl (by kernel_rfl) rfl (fun c hc => ?_)
  have lp : ∀ d e, e + d = nb → Run Tryz.prog c 41 zf43 (SCi g nb N e (compsD N nb g e).1 (compsD N nb g e).2) (Post c [(0, ssOb (compsD N nb g nb).1 (compsD N nb g nb).2)] (.ar 1 0 0 (compsD N nb g nb).1)) := by
    intro d
    induction d with
    | zero =>
      intro e he
      obtain rfl : e = nb := by omega
      have hd : decide ((e : Int) < (e : Int)) = false := by simp
      refine path_ok mixed Tryz.func41 hc (cCie g e N e (compsD N e g e).1 (compsD N e g e).2) ?_
      simp only [All]
      repeat' (first | exact trivial | with_reducible apply And.intro)
      all_goals (first | exact aA _ _ | exact aE _ | omega | rfl | (intros; first | assumption | exact trivial | rfl | exact fT ‹_› | ((repeat' (first | assumption | apply anda | apply notf)); done)) | (exact hcg) | (intros; exact hcg) | (intro h; rw [hd] at h; cases h) | (simp; done) | (intro i hi; simp [All, aEt]))
    | succ d ih =>
      intro e he
      have hd : decide ((e : Int) < (nb : Int)) = true := by simp; omega
      obtain ⟨hle, hC⟩ := compsD_le N nb g e
      have hcomp := con_ComponentOfBar_i hg e (by omega)
      have hcl := compD_le N nb g e N
      have hih := ih (e + 1) (by omega)
      have hin : Run Tryz.prog c 41 zf4 (SCi1 g nb N e (compsD N nb g e).1 (compsD N nb g e).2 (compD N nb g e N) (knF (compsD N nb g e).2 (compD N nb g e N) (compsD N nb g e).1) (compsD N nb g e).1) (Post c [(0, ssOb (compsD N nb g nb).1 (compsD N nb g nb).2)] (.ar 1 0 0 (compsD N nb g nb).1)) := by
        have hd' : decide (((compsD N nb g e).1 : Int) < ((compsD N nb g e).1 : Int)) = false := by simp
        cases hk : knF (compsD N nb g e).2 (compD N nb g e N) (compsD N nb g e).1 with
        | false =>
          rw [show compsD N nb g (e + 1) = ((compsD N nb g e).1 + 1, snocC (compsD N nb g e).1 (compsD N nb g e).2 (compD N nb g e N)) by simp only [compsD]; rw [if_neg (by rw [hk]; simp)]] at hih
          refine piece_ok mixed hc (cCi3 g nb N e (compsD N nb g e).1 (compsD N nb g e).2 (compD N nb g e N) false (compsD N nb g e).1) ?_ hih
          simp only [All]
          repeat' (first | exact trivial | with_reducible apply And.intro)
          all_goals (first | exact aP _ _ | omega | rfl | (intros; first | assumption | exact trivial | rfl | exact fT ‹_› | ((repeat' (first | assumption | apply anda | apply notf)); done)) | (intro j hj; simp [All, aEt]; done) | (intro j hj; by_cases h : j < (compsD N nb g e).1 <;> simp [h, snocC, cvtL, cvt, lendP, cellP, tab, idx, List.lookup, iOb, tg, tru, All]))
        | true =>
          rw [show compsD N nb g (e + 1) = compsD N nb g e by simp only [compsD]; rw [if_pos hk]] at hih
          refine piece_ok mixed hc (cCi4 g nb N e (compsD N nb g e).1 (compsD N nb g e).2 (compD N nb g e N) true (compsD N nb g e).1) ?_ hih
          simp only [All]
          repeat' (first | exact trivial | with_reducible apply And.intro)
          all_goals (first | exact aP _ _ | exact aA _ _ | omega | rfl | (intros; first | assumption | exact trivial | rfl | exact fT ‹_› | ((repeat' (first | assumption | apply anda | apply notf)); done)) | (intro j hj; simp [All, aEt]))
      refine piece_ok mixed hc (cCi1 g nb N e (compsD N nb g e).1 (compsD N nb g e).2 (compD N nb g e N)) ?_ (inner_i (by omega) (fun j hj => by have := hC j hj; omega) c hc hin (compsD N nb g e).1 0 (by omega))
      simp only [All]
      repeat' (first | exact trivial | with_reducible apply And.intro)
      all_goals (first | exact aP _ _ | exact aA _ _ | omega | rfl | (intros; first | assumption | exact trivial | rfl | exact fT ‹_› | ((repeat' (first | assumption | apply anda | apply notf)); done)) | (exact hcg) | (intros; exact hcg) | (exact hcomp) | (rw [hd]; rfl) | (intro j hj; simp [All, aEt]))
  refine piece_ok mixed hc (cCiz g nb N) ?_ (lp nb 0 (by omega))
  simp only [All]
  repeat' (first | exact trivial | with_reducible apply And.intro)
  all_goals (first | exact aP _ _ | omega | rfl | (intros; first | assumption | exact trivial | rfl | exact fT ‹_› | ((repeat' (first | assumption | apply anda | apply notf)); done)) | (exact hcg) | (intro j hj; simp [All, aEt]))
noncomputable def compsG (v : T_Graph) : Nat × (Nat → T_IntS) := if isGraphF v = true then compsD v.1.toNat v.2.1.1 v.2.1.2 v.2.1.1 else (0, fun _ => (0, fun _ => 0))
end Go.Proofs.YtffnfeefjdmifaaGreat.Mach
namespace Go.Proofs.YtffnfeefjdmifaaGreat.Mach
open Go
set_option linter.unusedVariables false
set_option linter.unusedSimpArgs false
theorem mSy (v : T_Graph) :
    pathOb Tryz.prog Tryz.f27 0 [rg 2, rg 2, rg 1, .loop, rm [(7, oc [] (.p (.bool false)))] 1, .dec false, rg 2] [.code (bodyOf Tryz.f27)] (start Tryz.f27 [] 0 [graphA v]) [64] 1 [(0, ssOb 0 (fun _ => (0, fun _ => 0)))] (.ar 1 0 0 0) =
    some [(NT 0 1),(((decide (0 < (↑v.2.1.1 : Int))) = true) → (NT 0 1)),(AG (decide (0 < (↑v.2.1.1 : Int)))),(((decide (0 < (↑v.2.1.1 : Int))) = true) →  Con Tryz.prog 22 0 [] [(zf75 v)] [] (.p (.bool false))),(AG (decide (0 < (↑v.2.1.1 : Int)))),((bif decide (0 < (↑v.2.1.1 : Int)) then false else false) = false),(AN 0),(AN 0),(AN 1),(NL 0 0),(∀ i : Nat, (((i : Nat) < 0) → (All [] ∧ (([.p (.nil)] : List AV) = [.p (.seq false 1 0 (fun i_1 => [.int .i64 ((0, fun x => 0).2 i_1)]))])))),(∀ i : Nat, (((i : Nat) < 0) → All [(false = false), (AE 0)]))] := by kernel_rfl
theorem mIy (v : T_Graph) :
    pathOb Tryz.prog Tryz.f41 0 [rg 2, rg 2, rm [(1, oc [] (.p (.bool false)))] 1, .dec true, rg 2] [.code (bodyOf Tryz.f41)] (start Tryz.f41 [] 0 [graphA v]) [64] 1 [(0, ssOb 0 (fun _ => (0, fun _ => 0)))] (.ar 1 0 0 0) =
    some [(NT 0 1),Con Tryz.prog 35 0 [] [(zf75 v)] [] (.p (.bool false)),((!false) = true),(AN 0),(AN 0),(AN 1),(NL 0 0),(∀ i : Nat, (((i : Nat) < 0) → (All [] ∧ (([.p (.nil)] : List AV) = [.p (.seq false 1 0 (fun i_1 => [.int .i64 ((0, fun x => 0).2 i_1)]))])))),(∀ i : Nat, (((i : Nat) < 0) → All [(false = false), (AE 0)]))] := by kernel_rfl
theorem con_Comps_s (v : T_Graph) (hs : smS s_Graph v) : Con Tryz.prog 27 0 [] [graphA v] [(0, ssOb (compsG v).1 (compsG v).2)] (.ar 1 0 0 (compsG v).1) := by
  cases hg : isGraphF v with
  | false =>
    have hcg := con_IsGraph_s v hs
    rw [hg] at hcg
    rw [show compsG v = (0, fun _ => (0, fun _ => 0)) by simp [compsG, hg]]
    refine con_start Tryz.func27 rfl (by kernel_rfl) rfl (fun c hc => ?_)
    refine path_ok mixed Tryz.func27 hc (mSy v) ?_
    simp only [All]
    repeat' (first | exact trivial | with_reducible apply And.intro)
    all_goals (first | exact aG _ | exact aE _ | omega | rfl | (intros; first | assumption | exact trivial | rfl | exact fT ‹_› | ((repeat' (first | assumption | apply anda | apply notf)); done)) | (intros; exact hcg) | (simp; done) | (intro i hi; simp [All, aEt]))
  | true =>
    obtain ⟨N, nb, g, rfl⟩ := graph_cases v hg
    rw [show compsG ((N : Int), (nb, g), ()) = compsD N nb g nb by simp [compsG, hg]]
    exact con_ComponentsOf_s hg
theorem con_Comps_i (v : T_Graph) (hs : smS s_Graph v) : Con Tryz.prog 41 0 [] [graphA v] [(0, ssOb (compsG v).1 (compsG v).2)] (.ar 1 0 0 (compsG v).1) := by
  cases hg : isGraphF v with
  | false =>
    have hcg := con_IsGraph_i v hs
    rw [hg] at hcg
    rw [show compsG v = (0, fun _ => (0, fun _ => 0)) by simp [compsG, hg]]
    refine con_start Tryz.func41 rfl (by kernel_rfl) rfl (fun c hc => ?_)
    refine path_ok mixed Tryz.func41 hc (mIy v) ?_
    simp only [All]
    repeat' (first | exact trivial | with_reducible apply And.intro)
    all_goals (first | exact aE _ | omega | rfl | (intros; first | assumption | exact trivial | rfl | exact fT ‹_› | ((repeat' (first | assumption | apply anda | apply notf)); done)) | (intros; exact hcg) | (simp; done) | (intro i hi; simp [All, aEt]))
  | true =>
    obtain ⟨N, nb, g, rfl⟩ := graph_cases v hg
    rw [show compsG ((N : Int), (nb, g), ()) = compsD N nb g nb by simp [compsG, hg]]
    exact con_ComponentsOf_i hg
end Go.Proofs.YtffnfeefjdmifaaGreat.Mach
namespace Go.Proofs.YtffnfeefjdmifaaGreat.Mach
open Go
set_option linter.unusedVariables false
set_option linter.unusedSimpArgs false
def wpD (S : T_IntS) : Nat → T_IntS
  | 0 => (0, fun _ => 0)
  | v + 1 => if hasI S.2 v S.1 = true then ((wpD S v).1, fun u => if u < v then (wpD S v).2 u else -1) else ((wpD S v).1 + 1, fun u => if u < v then (wpD S v).2 u else ((wpD S v).1 : Int))
def wpB (g : Nat → T_Bar) (p : Nat → Int) : Nat → NB
  | 0 => zNB
  | k + 1 => if (decide (p (g k).1.toNat ≥ 0) && decide (p (g k).2.1.toNat ≥ 0)) = true then sn (wpB g p k) (p (g k).1.toNat, p (g k).2.1.toNat, ()) else wpB g p k
def wpG (N nb : Nat) (g : Nat → T_Bar) (S : T_IntS) : T_Graph := (((wpD S N).1 : Int), ((wpB g (wpD S N).2 nb).1, (wpB g (wpD S N).2 nb).2), ())
theorem wpD_le (S : T_IntS) : ∀ v, (wpD S v).1 ≤ v
  | 0 => Nat.le_refl _
  | v + 1 => by
    have := wpD_le S v
    simp only [wpD]
    split
    · show (wpD S v).1 ≤ v + 1; omega
    · show (wpD S v).1 + 1 ≤ v + 1; omega
theorem wpB_le (g : Nat → T_Bar) (p : Nat → Int) : ∀ k, (wpB g p k).1 ≤ k
  | 0 => Nat.le_refl _
  | k + 1 => by
    have := wpB_le g p k
    simp only [wpB]
    split
    · simp only [sn]; omega
    · omega
theorem wp_cnt (w N : Nat) : ∀ i, i ≤ N → (wpD (stD w N) i).1 + (stD w i).1 = i
  | 0, _ => rfl
  | i + 1, h => by
    have ih := wp_cnt w N i (by omega)
    have e : hasI (stD w N).2 (i : Int) (stD w N).1 = btI w i := by
      rw [hasI_stD, decide_eq_true (show (0 : Int) ≤ (i : Int) ∧ (i : Int) < (N : Int) by omega), Bool.true_and]
    simp only [wpD, stD, e]
    cases btI w i with
    | true => simp; omega
    | false => simp; omega
def rcF (v : T_Graph) (u0 : Nat) : Nat → Bool := rIt v.2.1.2 v.2.1.1 (fun u => decide (u = u0)) v.1.toNat
def cnB (v : T_Graph) : Bool := bif isGraphF v then ((flt (rcF v 0) v.1.toNat).1 : Int) == v.1 else false
def ctQ (N nb : Nat) (g : Nat → T_Bar) (k w : Nat) : Bool := bif (((stD w N).1 : Nat) : Int) == (k : Int) then (bif decide ((((wpD (stD w N) N).1 : Nat) : Int) ≥ 2) then !cnB (wpG N nb g (stD w N)) else false) else false
def csD (N nb : Nat) (g : Nat → T_Bar) (k : Nat) : Nat → Nat × (Nat → T_IntS)
  | 0 => (0, fun _ => (0, fun _ => 0))
  | w + 1 => if ctQ N nb g k w = true then ((csD N nb g k w).1 + 1, snocC (csD N nb g k w).1 (csD N nb g k w).2 (stD w N)) else csD N nb g k w
theorem csD_le (N nb : Nat) (g : Nat → T_Bar) (k : Nat) : ∀ w, (csD N nb g k w).1 ≤ w
  | 0 => Nat.le_refl _
  | w + 1 => by
    have := csD_le N nb g k w
    simp only [csD]
    split
    · show (csD N nb g k w).1 + 1 ≤ w + 1; omega
    · omega
def kcA (N nb : Nat) (g : Nat → T_Bar) : Nat → Bool
  | 0 => true
  | j + 1 => kcA N nb g j && !decide ((((csD N nb g j (2 ^ N)).1 : Nat) : Int) > 0)
def kcB (N nb : Nat) (g : Nat → T_Bar) (k : Nat) : Bool := bif decide ((N : Int) ≤ (k : Int)) then false else kcA N nb g k
def coN (N nb : Nat) (g : Nat → T_Bar) : Nat := if kcB N nb g 3 = true then 3 else if kcB N nb g 2 = true then 2 else if kcB N nb g 1 = true then 1 else 0
end Go.Proofs.YtffnfeefjdmifaaGreat.Mach
namespace Go.Proofs.YtffnfeefjdmifaaGreat.Mach
open Go
set_option linter.unusedVariables false
set_option linter.unusedSimpArgs false
def blOb (n : Nat) (K : Nat → Bool) : Ob := ⟨false, 1, n, fun i => [.p (.bool (K i))]⟩
def Rz0 (g : Nat → T_Bar) (nb N : Nat) (b : Bool) (s : Nat → Bool) : St :=
  ⟨[grG g nb N, .p (.int .i64 0), .pt 2 0 0 0, .p .any, .p .any, .ar 1 1 0 N, .p (.bool b)] ++ List.replicate 37 anyA, [(0, bxG g nb N), (1, blOb N s)], 2⟩
def Rz1 (g : Nat → T_Bar) (nb N : Nat) (b : Bool) (k : Nat) (s : Nat → Bool) : St :=
  ⟨[grG g nb N, .p (.int .i64 0), .pt 2 0 0 0, .p .any, .p .any, .ar 1 1 0 N, .p (.bool b)] ++ List.replicate 10 anyA ++ [brL g nb, .p (.int .i64 nb), .p (.int .i64 k)] ++ List.replicate 24 anyA, [(0, bxG g nb N), (1, blOb N s)], 2⟩
def Q0 (g : Nat → T_Bar) (nb N : Nat) (s : Nat → Bool) (k c : Nat) (f : Nat → Int) : St :=
  ⟨[grG g nb N, .p (.int .i64 0), .pt 2 0 0 0, .p .any, .p .any, .ar 1 1 0 c] ++ List.replicate 15 anyA ++ [.ar 1 2 0 N, .p (.int .i64 N), .p (.int .i64 k)] ++ List.replicate 11 anyA, [(0, bxG g nb N), (1, iOb c f), (2, blOb N s)], 3⟩
def P0 (g : Nat → T_Bar) (nb N : Nat) (n : Nat) (s : Nat → Bool) : St :=
  ⟨[grG g nb N, .p (.int .i64 0), .pt 2 0 0 0, .p .any, .p .any, .ar 1 1 0 0, .ar 1 2 0 N, .p (.int .i64 n)] ++ List.replicate 87 anyA, [(0, bxG g nb N), (1, iOb 0 (fun _ => 0)), (2, blOb N s)], 3⟩
def P1 (g : Nat → T_Bar) (nb N : Nat) (n k : Nat) (s : Nat → Bool) : St :=
  ⟨[grG g nb N, .p (.int .i64 0), .pt 2 0 0 0, .p .any, .p .any, .ar 1 1 0 0, .ar 1 2 0 N, .p (.int .i64 n), .p (.int .i64 k)] ++ List.replicate 86 anyA, [(0, bxG g nb N), (1, iOb 0 (fun _ => 0)), (2, blOb N s)], 3⟩
def P2 (g : Nat → T_Bar) (nb N : Nat) (s : Nat → Bool) (i c : Nat) (f : Nat → Int) : St :=
  ⟨[grG g nb N, .p (.int .i64 0), .pt 2 0 0 0, .p .any, .p .any, .ar 1 1 0 c, .ar 1 2 0 N, .p .any, .p .any, .p (.int .i64 i)] ++ List.replicate 85 anyA, [(0, bxG g nb N), (1, iOb c f), (2, blOb N s)], 3⟩
theorem rcz (g : Nat → T_Bar) (nb N : Nat) :
    pieceOb Tryz.prog 0 [rg 2, rg 4, rg 4, rg 1, .head] [.code (bodyOf Tryz.f239)] (start Tryz.f239 [] 0 [grG g nb N, .p (.int .i64 0)]) [0, 128] 1 (Rz0 g nb N true (fun u => decide (u = 0))) =
    some (zf35, [(NT 0 1),(IL 0 (↑N : Int)),(IL (↑N : Int) (↑N : Int)),(IL ((↑N : Int) * (↑1 : Int)) 281474976710656),(R1 (↑N : Int)),(IL 0 0),(IT 0 (↑N : Int)),(NT 0 N),((false = true) →  ((N : Nat) = 1)),(AI ((↑N : Int))),(AN nb),(AP nb (fun i => [.int .i64 ((g i).1), .int .i64 ((g i).2.1)])),(AI 0),(AN 0),(AN 0),(AN N),(true = true),((([AV.p (PV.int IntKind.i64 (↑N : Int)), brL g nb].length) : Nat) = 2),(NL 1 1),(NL 1 1),(AI ((↑N : Int))),(AN nb),(AP nb (fun i => [.int .i64 ((g i).1), .int .i64 ((g i).2.1)])),(AN 1),(NL N N),(CV [(128, ⟨false, 1, N, (fun i_1 => (if (i_1 = 0) then [.p (.bool true)] else [.p (.bool false)]))⟩), (0, ⟨true, 2, 1, (fun i_1 => [.p (.int .i64 (↑N : Int)), .p (.seq true 2 nb (fun i_2 => [.int .i64 ((g i_2).1), .int .i64 ((g i_2).2.1)]))])⟩)] [0, 128] 1 N (fun i => if (i = 0) then [.p (.bool true)] else [.p (.bool false)]) (fun i => [.p (.bool (decide (i = 0)))]))]) := by kernel_rfl
theorem rco (g : Nat → T_Bar) (nb N : Nat) (s : Nat → Bool) :
    pieceOb Tryz.prog 0 [rg 1, .dec true, rg 1, rg 4, .head] zf35 (Rz0 g nb N true s) [0, 1] 1 (Rz1 g nb N false 0 s) =
    some (zf12, [(true = true),(NT 0 1),(AI ((↑N : Int))),(AN nb),(AP nb (fun i => [.int .i64 ((g i).1), .int .i64 ((g i).2.1)])),(AI 0),(AN 0),(AN 0),(AN N),(false = false),(AN nb),(AP nb (fun i => [.int .i64 ((g i).1), .int .i64 ((g i).2.1)])),(AI ((↑nb : Int))),((0 : Int) = (↑0 : Int)),(AN 2),(NL 1 1),(NL 1 1),(AI ((↑N : Int))),(AN nb),(AP nb (fun i => [.int .i64 ((g i).1), .int .i64 ((g i).2.1)])),(AN 1),(NL N N),(AA N (fun i => [.p (.bool (s i))]))]) := by kernel_rfl
theorem rct (g : Nat → T_Bar) (nb N : Nat) (b : Bool) (k : Nat) (s : Nat → Bool) :
    pieceOb Tryz.prog 0 [rg 1, .dec true, rg 4, rg 11, .dec true, rg 5, rg 5, rg 1, rg 2, .head] zf12 (Rz1 g nb N b k s) [0, 1] 1 (Rz1 g nb N true (k + 1) (fun v => if v = (g k).2.1.toNat then true else if v = (g k).1.toNat then true else s v)) =
    some (zf12, [((decide ((↑k : Int) < (↑nb : Int))) = true),(IL 0 (↑k : Int)),(IT (↑k : Int) (↑nb : Int)),(NT 0 1),((true = true) →  (AN 1)),(NT 0 1),(IL 0 ((g k).1)),(IT ((g k).1) (↑N : Int)),(NT ((g k).1.toNat) N),(NT 0 1),(IL 0 ((g k).2.1)),(IT ((g k).2.1) (↑N : Int)),(NT ((g k).2.1.toNat) N),((!s (g k).1.toNat == s (g k).2.1.toNat) = true),(NT 0 1),(IL 0 ((g k).1)),(IT ((g k).1) (↑N : Int)),(NT ((g k).1.toNat) N),((false = true) →  ((N : Nat) = 1)),(NT 0 1),(IL 0 ((g k).2.1)),(IT ((g k).2.1) (↑N : Int)),(NT ((g k).2.1.toNat) N),((false = true) →  ((N : Nat) = 1)),(R0 ((↑k : Int) + 1)),(R1 ((↑k : Int) + 1)),(AI ((↑N : Int))),(AN nb),(AP nb (fun i => [.int .i64 ((g i).1), .int .i64 ((g i).2.1)])),(AI 0),(AN 0),(AN 0),(AN N),(true = true),(AN nb),(AP nb (fun i => [.int .i64 ((g i).1), .int .i64 ((g i).2.1)])),(AI ((↑nb : Int))),((((↑k : Int) + 1) : Int) = (↑(k + 1) : Int)),(AN 2),(NL 1 1),(NL 1 1),(AI ((↑N : Int))),(AN nb),(AP nb (fun i => [.int .i64 ((g i).1), .int .i64 ((g i).2.1)])),(AN 1),(NL N N),(CV [(1, ⟨false, 1, N, (fun i_1 => (if (i_1 = (g k).2.1.toNat) then [.p (.bool true)] else (if (i_1 = (g k).1.toNat) then [.p (.bool true)] else [.p (.bool (s i_1))])))⟩), (98, ⟨true, 2, 1, (fun i_1 => [.p (.int .i64 ((g k).1)), .p (.int .i64 ((g k).2.1))])⟩), (0, ⟨true, 2, 1, (fun i_1 => [.p (.int .i64 (↑N : Int)), .p (.seq true 2 nb (fun i_2 => [.int .i64 ((g i_2).1), .int .i64 ((g i_2).2.1)]))])⟩)] [0, 1] 1 N (fun i => if (i = (g k).2.1.toNat) then [.p (.bool true)] else (if (i = (g k).1.toNat) then [.p (.bool true)] else [.p (.bool (s i))])) (fun i => [.p (.bool (if i = (g k).2.1.toNat then true else if i = (g k).1.toNat then true else s i))]))]) := by kernel_rfl
theorem rcf (g : Nat → T_Bar) (nb N : Nat) (b : Bool) (k : Nat) (s : Nat → Bool) :
    pieceOb Tryz.prog 0 [rg 1, .dec true, rg 4, rg 11, .dec false, rg 2, .head] zf12 (Rz1 g nb N b k s) [0, 1] 1 (Rz1 g nb N b (k + 1) s) =
    some (zf12, [((decide ((↑k : Int) < (↑nb : Int))) = true),(IL 0 (↑k : Int)),(IT (↑k : Int) (↑nb : Int)),(NT 0 1),((true = true) →  (AN 1)),(NT 0 1),(IL 0 ((g k).1)),(IT ((g k).1) (↑N : Int)),(NT ((g k).1.toNat) N),(NT 0 1),(IL 0 ((g k).2.1)),(IT ((g k).2.1) (↑N : Int)),(NT ((g k).2.1.toNat) N),((!s (g k).1.toNat == s (g k).2.1.toNat) = false),(R0 ((↑k : Int) + 1)),(R1 ((↑k : Int) + 1)),(AI ((↑N : Int))),(AN nb),(AP nb (fun i => [.int .i64 ((g i).1), .int .i64 ((g i).2.1)])),(AI 0),(AN 0),(AN 0),(AN N),(b = b),(AN nb),(AP nb (fun i => [.int .i64 ((g i).1), .int .i64 ((g i).2.1)])),(AI ((↑nb : Int))),((((↑k : Int) + 1) : Int) = (↑(k + 1) : Int)),(AN 2),(NL 1 1),(NL 1 1),(AI ((↑N : Int))),(AN nb),(AP nb (fun i => [.int .i64 ((g i).1), .int .i64 ((g i).2.1)])),(AN 1),(NL N N),(AA N (fun i => [.p (.bool (s i))]))]) := by kernel_rfl
theorem rcx (g : Nat → T_Bar) (nb N : Nat) (b : Bool) (k : Nat) (s : Nat → Bool) :
    pieceOb Tryz.prog 0 [rg 1, .dec false, .head] zf12 (Rz1 g nb N b k s) [0, 1] 1 (Rz0 g nb N b s) =
    some (zf35, [((decide ((↑k : Int) < (↑nb : Int))) = false),(AI ((↑N : Int))),(AN nb),(AP nb (fun i => [.int .i64 ((g i).1), .int .i64 ((g i).2.1)])),(AI 0),(AN 0),(AN 0),(AN N),(b = b),(AN 2),(NL 1 1),(NL 1 1),(AI ((↑N : Int))),(AN nb),(AP nb (fun i => [.int .i64 ((g i).1), .int .i64 ((g i).2.1)])),(AN 1),(NL N N),(AA N (fun i => [.p (.bool (s i))]))]) := by kernel_rfl
theorem rce (g : Nat → T_Bar) (nb N : Nat) (s : Nat → Bool) :
    pathOb Tryz.prog Tryz.f239 0 [rg 1, .dec false, rg 2] zf35 (Rz0 g nb N false s) [1] 1 [(0, blOb N s)] (.ar 1 0 0 N) =
    some [(false = false),(AN 0),(AN N),(AN 1),(NL N N),(AA N (fun i => [.p (.bool (s i))])),(AE N)] := by kernel_rfl
theorem roz (g : Nat → T_Bar) (nb N : Nat) (s : Nat → Bool) :
    pieceOb Tryz.prog 0 [rg 2, rg 2, rm [(1, oc [] (.p (.bool true))), (4, oc [] (.p (.bool true)))] 2, .dec false, rm [(2, oc [(0, blOb N s)] (.ar 1 0 0 N))] 2, .head] [.code (bodyOf Tryz.f224)] (start Tryz.f224 [] 0 [grG g nb N, .p (.int .i64 0)]) [0, 64, 480] 1 (Q0 g nb N s 0 0 (fun _ => 0)) =
    some (zf36, [(NT 0 1),Con Tryz.prog 35 0 [] [(zf78 N nb g)] [] (.p (.bool true)),(((!!true) = true) → (NT 0 1)),(AG (!!true)),(AG (!!true)),(((!!true) = true) →  Con Tryz.prog 143 0 [] [(zf78 N nb g), .p (.int .i64 0)] [] (.p (.bool true))),(AG (!!true)),(((!true) = false) →  ((!!true) = true)),((bif !true then true else !true) = false),(NT 0 1),Con Tryz.prog 239 0 [] [(zf78 N nb g), .p (.int .i64 0)] [(0, ⟨false, 1, N, (fun i => [.p (.bool (s i))])⟩)] (.ar 1 0 0 N),(AI ((↑N : Int))),(AN nb),(AP nb (fun i => [.int .i64 ((g i).1), .int .i64 ((g i).2.1)])),(AI 0),(AN 0),(AN 0),(AN 0),(AN 0),(AN N),(AI ((↑N : Int))),((0 : Int) = (↑0 : Int)),((([AV.p (PV.int IntKind.i64 (↑N : Int)), brL g nb].length) : Nat) = 2),(NL 1 1),(NL 1 1),(AI ((↑N : Int))),(AN nb),(AP nb (fun i => [.int .i64 ((g i).1), .int .i64 ((g i).2.1)])),(AN 1),(NL 0 0),(AA 0 (fun i => [.p (.int .i64 0)])),(AN 1),(NL N N),(AA N (fun i => [.p (.bool (s i))]))]) := by kernel_rfl
theorem rot (g : Nat → T_Bar) (nb N : Nat) (s : Nat → Bool) (k c : Nat) (f : Nat → Int) :
    pieceOb Tryz.prog 0 [rg 1, .dec true, rg 5, rg 1, .dec true, rg 5, rg 2, .head] zf36 (Q0 g nb N s k c f) [0, 323, 2] 1 (Q0 g nb N s (k + 1) (c + 1) (fun t => if t < c then f t else k)) =
    some (zf36, [((decide ((↑k : Int) < (↑N : Int))) = true),(IL 0 (↑k : Int)),(IT (↑k : Int) (↑N : Int)),(NT k N),((s k) = true),(NL 1 1),(NL c c),(NL ((c + 1) * 8) 140737488355328),(NL (c + 1) 9223372036854775807),(R0 ((↑k : Int) + 1)),(R1 ((↑k : Int) + 1)),(AI ((↑N : Int))),(AN nb),(AP nb (fun i => [.int .i64 ((g i).1), .int .i64 ((g i).2.1)])),(AI 0),(AN 0),(AN 0),(AN ((c + 1))),(AN 0),(AN N),(AI ((↑N : Int))),((((↑k : Int) + 1) : Int) = (↑(k + 1) : Int)),(AN 2),(NL 1 1),(NL 1 1),(AI ((↑N : Int))),(AN nb),(AP nb (fun i => [.int .i64 ((g i).1), .int .i64 ((g i).2.1)])),(AN 1),(NL (c + 1) (c + 1)),(CV [(323, ⟨false, 1, (c + 1), (fun i_1 => (if (i_1 < c) then [.p (.int .i64 (f i_1))] else [.p (.int .i64 (↑k : Int))]))⟩), (291, ⟨false, 1, 1, (fun i_1 => [.p (.int .i64 (↑k : Int))])⟩), (0, ⟨true, 2, 1, (fun i_1 => [.p (.int .i64 (↑N : Int)), .p (.seq true 2 nb (fun i_2 => [.int .i64 ((g i_2).1), .int .i64 ((g i_2).2.1)]))])⟩), (2, ⟨false, 1, N, (fun i_1 => [.p (.bool (s i_1))])⟩)] [0, 323, 2] 1 (c + 1) (fun i => if (i < c) then [.p (.int .i64 (f i))] else [.p (.int .i64 (↑k : Int))]) (fun i => [.p (.int .i64 (if i < c then f i else (↑k : Int)))])),(AN 1),(NL N N),(AA N (fun i => [.p (.bool (s i))]))]) := by kernel_rfl
theorem rof (g : Nat → T_Bar) (nb N : Nat) (s : Nat → Bool) (k c : Nat) (f : Nat → Int) :
    pieceOb Tryz.prog 0 [rg 1, .dec true, rg 5, rg 1, .dec false, rg 2, .head] zf36 (Q0 g nb N s k c f) [0, 1, 2] 1 (Q0 g nb N s (k + 1) c f) =
    some (zf36, [((decide ((↑k : Int) < (↑N : Int))) = true),(IL 0 (↑k : Int)),(IT (↑k : Int) (↑N : Int)),(NT k N),((s k) = false),(R0 ((↑k : Int) + 1)),(R1 ((↑k : Int) + 1)),(AI ((↑N : Int))),(AN nb),(AP nb (fun i => [.int .i64 ((g i).1), .int .i64 ((g i).2.1)])),(AI 0),(AN 0),(AN 0),(AN c),(AN 0),(AN N),(AI ((↑N : Int))),((((↑k : Int) + 1) : Int) = (↑(k + 1) : Int)),(AN 2),(NL 1 1),(NL 1 1),(AI ((↑N : Int))),(AN nb),(AP nb (fun i => [.int .i64 ((g i).1), .int .i64 ((g i).2.1)])),(AN 1),(NL c c),(AA c (fun i => [.p (.int .i64 (f i))])),(AN 1),(NL N N),(AA N (fun i => [.p (.bool (s i))]))]) := by kernel_rfl
theorem roe (g : Nat → T_Bar) (nb N : Nat) (s : Nat → Bool) (k c : Nat) (f : Nat → Int) :
    pathOb Tryz.prog Tryz.f224 0 [rg 1, .dec false, rg 2] zf36 (Q0 g nb N s k c f) [1] 1 [(0, iOb c f)] (.ar 1 0 0 c) =
    some [((decide ((↑k : Int) < (↑N : Int))) = false),(AN 0),(AN c),(AN 1),(NL c c),(AA c (fun i => [.p (.int .i64 (f i))])),(AE c)] := by kernel_rfl
theorem rsz (g : Nat → T_Bar) (nb N : Nat) :
    pieceOb Tryz.prog 0 [rg 2, rg 2, rm [(1, oc [] (.p (.bool true)))] 11, .dec false, rg 4, rg 4, rg 1, .head] [.code (bodyOf Tryz.f221)] (start Tryz.f221 [] 0 [grG g nb N, .p (.int .i64 0)]) [0, 64, 608] 1 (P0 g nb N 0 (fun u => decide (u = 0))) =
    some (zf16, [(NT 0 1),Con Tryz.prog 22 0 [] [(zf78 N nb g)] [] (.p (.bool true)),(AG (!!true)),(((!true) = false) →  ((!!true) = true)),(AG (!bif !true then true else decide (0 < 0))),(((!bif !true then true else decide (0 < 0)) = true) → (NT 0 1)),(AG (!bif !true then true else decide (0 < 0))),(AG (!bif !true then true else decide (0 < 0))),(((bif !true then true else decide (0 < 0)) = false) →  ((!bif !true then true else decide (0 < 0)) = true)),((bif bif !true then true else decide (0 < 0) then true else decide (0 ≥ (↑N : Int))) = false),(NT 0 1),(IL 0 (↑N : Int)),(IL (↑N : Int) (↑N : Int)),(IL ((↑N : Int) * (↑1 : Int)) 281474976710656),(R1 (↑N : Int)),(IL 0 0),(IT 0 (↑N : Int)),(NT 0 N),((false = true) →  ((N : Nat) = 1)),(AI ((↑N : Int))),(AN nb),(AP nb (fun i => [.int .i64 ((g i).1), .int .i64 ((g i).2.1)])),(AI 0),(AN 0),(AN 0),(AN 0),(AN 0),(AN N),((0 : Int) = (↑0 : Int)),((([AV.p (PV.int IntKind.i64 (↑N : Int)), brL g nb].length) : Nat) = 2),(NL 1 1),(NL 1 1),(AI ((↑N : Int))),(AN nb),(AP nb (fun i => [.int .i64 ((g i).1), .int .i64 ((g i).2.1)])),(AN 1),(NL 0 0),(AA 0 (fun i => [.p (.int .i64 0)])),(AN 1),(NL N N),(CV [(608, ⟨false, 1, N, (fun i_1 => (if (i_1 = 0) then [.p (.bool true)] else [.p (.bool false)]))⟩), (64, ⟨false, 1, 0, (fun i_1 => [.p (.int .i64 0)])⟩), (0, ⟨true, 2, 1, (fun i_1 => [.p (.int .i64 (↑N : Int)), .p (.seq true 2 nb (fun i_2 => [.int .i64 ((g i_2).1), .int .i64 ((g i_2).2.1)]))])⟩)] [0, 64, 608] 1 N (fun i => if (i = 0) then [.p (.bool true)] else [.p (.bool false)]) (fun i => [.p (.bool (decide (i = 0)))]))]) := by kernel_rfl
theorem rso (g : Nat → T_Bar) (nb N n : Nat) (s : Nat → Bool) :
    pieceOb Tryz.prog 0 [rg 4, .dec true, rg 1, .head] zf16 (P0 g nb N n s) [0, 1, 2] 1 (P1 g nb N n 0 s) =
    some (zf8, [(NT 0 1),((decide ((↑n : Int) < (↑N : Int))) = true),(AI ((↑N : Int))),(AN nb),(AP nb (fun i => [.int .i64 ((g i).1), .int .i64 ((g i).2.1)])),(AI 0),(AN 0),(AN 0),(AN 0),(AN 0),(AN N),(AI ((↑n : Int))),((0 : Int) = (↑0 : Int)),(AN 2),(NL 1 1),(NL 1 1),(AI ((↑N : Int))),(AN nb),(AP nb (fun i => [.int .i64 ((g i).1), .int .i64 ((g i).2.1)])),(AN 1),(NL 0 0),(AA 0 (fun i => [.p (.int .i64 0)])),(AN 1),(NL N N),(AA N (fun i => [.p (.bool (s i))]))]) := by kernel_rfl
theorem rst (g : Nat → T_Bar) (nb N n k : Nat) (s : Nat → Bool) :
    pieceOb Tryz.prog 0 [rg 5, .dec true, rg 20, .dec true, rg 9, rg 9, rg 3, .head] zf8 (P1 g nb N n k s) [0, 1, 2] 1 (P1 g nb N n (k + 1) (fun v => if v = (g k).2.1.toNat then true else if v = (g k).1.toNat then true else s v)) =
    some (zf8, [(NT 0 1),((decide ((↑k : Int) < (↑nb : Int))) = true),(NT 0 1),(IL 0 (↑k : Int)),(IT (↑k : Int) (↑nb : Int)),(IL 0 ((g k).1)),(IT ((g k).1) (↑N : Int)),(NT ((g k).1.toNat) N),(AG (!s (g k).1.toNat)),(((!s (g k).1.toNat) = true) → (NT 0 1)),(AG (!s (g k).1.toNat)),(AG (!s (g k).1.toNat)),(((!s (g k).1.toNat) = true) → (IL 0 (↑k : Int))),(((!s (g k).1.toNat) = true) → (IT (↑k : Int) (↑nb : Int))),(AG (!s (g k).1.toNat)),(AG (!s (g k).1.toNat)),(AG (!s (g k).1.toNat)),(AG (!s (g k).1.toNat)),(((!s (g k).1.toNat) = true) → (IL 0 ((g k).2.1))),(((!s (g k).1.toNat) = true) → (IT ((g k).2.1) (↑N : Int))),(AG (!s (g k).1.toNat)),(((!s (g k).1.toNat) = true) → (NT ((g k).2.1.toNat) N)),(((s (g k).1.toNat) = false) →  ((!s (g k).1.toNat) = true)),((bif s (g k).1.toNat then true else s (g k).2.1.toNat) = true),(NT 0 1),(IL 0 (↑k : Int)),(IT (↑k : Int) (↑nb : Int)),(IL 0 ((g k).1)),(IT ((g k).1) (↑N : Int)),(NT ((g k).1.toNat) N),((false = true) →  ((N : Nat) = 1)),(NT 0 1),(IL 0 (↑k : Int)),(IT (↑k : Int) (↑nb : Int)),(IL 0 ((g k).2.1)),(IT ((g k).2.1) (↑N : Int)),(NT ((g k).2.1.toNat) N),((false = true) →  ((N : Nat) = 1)),(R0 ((↑k : Int) + 1)),(R1 ((↑k : Int) + 1)),(AI ((↑N : Int))),(AN nb),(AP nb (fun i => [.int .i64 ((g i).1), .int .i64 ((g i).2.1)])),(AI 0),(AN 0),(AN 0),(AN 0),(AN 0),(AN N),(AI ((↑n : Int))),((((↑k : Int) + 1) : Int) = (↑(k + 1) : Int)),(AN 2),(NL 1 1),(NL 1 1),(AI ((↑N : Int))),(AN nb),(AP nb (fun i => [.int .i64 ((g i).1), .int .i64 ((g i).2.1)])),(AN 1),(NL 0 0),(AA 0 (fun i => [.p (.int .i64 0)])),(AN 1),(NL N N),(CV [(2, ⟨false, 1, N, (fun i_1 => (if (i_1 = (g k).2.1.toNat) then [.p (.bool true)] else (if (i_1 = (g k).1.toNat) then [.p (.bool true)] else [.p (.bool (s i_1))])))⟩), (0, ⟨true, 2, 1, (fun i_1 => [.p (.int .i64 (↑N : Int)), .p (.seq true 2 nb (fun i_2 => [.int .i64 ((g i_2).1), .int .i64 ((g i_2).2.1)]))])⟩), (1, ⟨false, 1, 0, (fun i_1 => [.p (.int .i64 0)])⟩)] [0, 1, 2] 1 N (fun i => if (i = (g k).2.1.toNat) then [.p (.bool true)] else (if (i = (g k).1.toNat) then [.p (.bool true)] else [.p (.bool (s i))])) (fun i => [.p (.bool (if i = (g k).2.1.toNat then true else if i = (g k).1.toNat then true else s i))]))]) := by kernel_rfl
theorem rsf (g : Nat → T_Bar) (nb N n k : Nat) (s : Nat → Bool) :
    pieceOb Tryz.prog 0 [rg 5, .dec true, rg 20, .dec false, rg 3, .head] zf8 (P1 g nb N n k s) [0, 1, 2] 1 (P1 g nb N n (k + 1) s) =
    some (zf8, [(NT 0 1),((decide ((↑k : Int) < (↑nb : Int))) = true),(NT 0 1),(IL 0 (↑k : Int)),(IT (↑k : Int) (↑nb : Int)),(IL 0 ((g k).1)),(IT ((g k).1) (↑N : Int)),(NT ((g k).1.toNat) N),(AG (!s (g k).1.toNat)),(((!s (g k).1.toNat) = true) → (NT 0 1)),(AG (!s (g k).1.toNat)),(AG (!s (g k).1.toNat)),(((!s (g k).1.toNat) = true) → (IL 0 (↑k : Int))),(((!s (g k).1.toNat) = true) → (IT (↑k : Int) (↑nb : Int))),(AG (!s (g k).1.toNat)),(AG (!s (g k).1.toNat)),(AG (!s (g k).1.toNat)),(AG (!s (g k).1.toNat)),(((!s (g k).1.toNat) = true) → (IL 0 ((g k).2.1))),(((!s (g k).1.toNat) = true) → (IT ((g k).2.1) (↑N : Int))),(AG (!s (g k).1.toNat)),(((!s (g k).1.toNat) = true) → (NT ((g k).2.1.toNat) N)),(((s (g k).1.toNat) = false) →  ((!s (g k).1.toNat) = true)),((bif s (g k).1.toNat then true else s (g k).2.1.toNat) = false),(R0 ((↑k : Int) + 1)),(R1 ((↑k : Int) + 1)),(AI ((↑N : Int))),(AN nb),(AP nb (fun i => [.int .i64 ((g i).1), .int .i64 ((g i).2.1)])),(AI 0),(AN 0),(AN 0),(AN 0),(AN 0),(AN N),(AI ((↑n : Int))),((((↑k : Int) + 1) : Int) = (↑(k + 1) : Int)),(AN 2),(NL 1 1),(NL 1 1),(AI ((↑N : Int))),(AN nb),(AP nb (fun i => [.int .i64 ((g i).1), .int .i64 ((g i).2.1)])),(AN 1),(NL 0 0),(AA 0 (fun i => [.p (.int .i64 0)])),(AN 1),(NL N N),(AA N (fun i => [.p (.bool (s i))]))]) := by kernel_rfl
theorem rsx (g : Nat → T_Bar) (nb N n k : Nat) (s : Nat → Bool) :
    pieceOb Tryz.prog 0 [rg 5, .dec false, rg 3, .head] zf8 (P1 g nb N n k s) [0, 1, 2] 1 (P0 g nb N (n + 1) s) =
    some (zf16, [(NT 0 1),((decide ((↑k : Int) < (↑nb : Int))) = false),(R0 ((↑n : Int) + 1)),(R1 ((↑n : Int) + 1)),(AI ((↑N : Int))),(AN nb),(AP nb (fun i => [.int .i64 ((g i).1), .int .i64 ((g i).2.1)])),(AI 0),(AN 0),(AN 0),(AN 0),(AN 0),(AN N),((((↑n : Int) + 1) : Int) = (↑(n + 1) : Int)),(AN 2),(NL 1 1),(NL 1 1),(AI ((↑N : Int))),(AN nb),(AP nb (fun i => [.int .i64 ((g i).1), .int .i64 ((g i).2.1)])),(AN 1),(NL 0 0),(AA 0 (fun i => [.p (.int .i64 0)])),(AN 1),(NL N N),(AA N (fun i => [.p (.bool (s i))]))]) := by kernel_rfl
theorem rsq (g : Nat → T_Bar) (nb N n : Nat) (s : Nat → Bool) :
    pieceOb Tryz.prog 0 [rg 4, .dec false, rg 1, .head] zf16 (P0 g nb N n s) [0, 1, 2] 1 (P2 g nb N s 0 0 (fun _ => 0)) =
    some (zf15, [(NT 0 1),((decide ((↑n : Int) < (↑N : Int))) = false),(AI ((↑N : Int))),(AN nb),(AP nb (fun i => [.int .i64 ((g i).1), .int .i64 ((g i).2.1)])),(AI 0),(AN 0),(AN 0),(AN 0),(AN 0),(AN N),((0 : Int) = (↑0 : Int)),(AN 2),(NL 1 1),(NL 1 1),(AI ((↑N : Int))),(AN nb),(AP nb (fun i => [.int .i64 ((g i).1), .int .i64 ((g i).2.1)])),(AN 1),(NL 0 0),(AA 0 (fun i => [.p (.int .i64 0)])),(AN 1),(NL N N),(AA N (fun i => [.p (.bool (s i))]))]) := by kernel_rfl
theorem rpt (g : Nat → T_Bar) (nb N : Nat) (s : Nat → Bool) (k c : Nat) (f : Nat → Int) :
    pieceOb Tryz.prog 0 [rg 4, .dec true, rg 4, .dec true, rg 5, rg 3, .head] zf15 (P2 g nb N s k c f) [0, 355, 2] 1 (P2 g nb N s (k + 1) (c + 1) (fun t => if t < c then f t else k)) =
    some (zf15, [(NT 0 1),((decide ((↑k : Int) < (↑N : Int))) = true),(IL 0 (↑k : Int)),(IT (↑k : Int) (↑N : Int)),(NT k N),((s k) = true),(NL 1 1),(NL c c),(NL ((c + 1) * 8) 140737488355328),(NL (c + 1) 9223372036854775807),(R0 ((↑k : Int) + 1)),(R1 ((↑k : Int) + 1)),(AI ((↑N : Int))),(AN nb),(AP nb (fun i => [.int .i64 ((g i).1), .int .i64 ((g i).2.1)])),(AI 0),(AN 0),(AN 0),(AN ((c + 1))),(AN 0),(AN N),((((↑k : Int) + 1) : Int) = (↑(k + 1) : Int)),(AN 2),(NL 1 1),(NL 1 1),(AI ((↑N : Int))),(AN nb),(AP nb (fun i => [.int .i64 ((g i).1), .int .i64 ((g i).2.1)])),(AN 1),(NL (c + 1) (c + 1)),(CV [(355, ⟨false, 1, (c + 1), (fun i_1 => (if (i_1 < c) then [.p (.int .i64 (f i_1))] else [.p (.int .i64 (↑k : Int))]))⟩), (323, ⟨false, 1, 1, (fun i_1 => [.p (.int .i64 (↑k : Int))])⟩), (0, ⟨true, 2, 1, (fun i_1 => [.p (.int .i64 (↑N : Int)), .p (.seq true 2 nb (fun i_2 => [.int .i64 ((g i_2).1), .int .i64 ((g i_2).2.1)]))])⟩), (2, ⟨false, 1, N, (fun i_1 => [.p (.bool (s i_1))])⟩)] [0, 355, 2] 1 (c + 1) (fun i => if (i < c) then [.p (.int .i64 (f i))] else [.p (.int .i64 (↑k : Int))]) (fun i => [.p (.int .i64 (if i < c then f i else (↑k : Int)))])),(AN 1),(NL N N),(AA N (fun i => [.p (.bool (s i))]))]) := by kernel_rfl
theorem rpf (g : Nat → T_Bar) (nb N : Nat) (s : Nat → Bool) (k c : Nat) (f : Nat → Int) :
    pieceOb Tryz.prog 0 [rg 4, .dec true, rg 4, .dec false, rg 3, .head] zf15 (P2 g nb N s k c f) [0, 1, 2] 1 (P2 g nb N s (k + 1) c f) =
    some (zf15, [(NT 0 1),((decide ((↑k : Int) < (↑N : Int))) = true),(IL 0 (↑k : Int)),(IT (↑k : Int) (↑N : Int)),(NT k N),((s k) = false),(R0 ((↑k : Int) + 1)),(R1 ((↑k : Int) + 1)),(AI ((↑N : Int))),(AN nb),(AP nb (fun i => [.int .i64 ((g i).1), .int .i64 ((g i).2.1)])),(AI 0),(AN 0),(AN 0),(AN c),(AN 0),(AN N),((((↑k : Int) + 1) : Int) = (↑(k + 1) : Int)),(AN 2),(NL 1 1),(NL 1 1),(AI ((↑N : Int))),(AN nb),(AP nb (fun i => [.int .i64 ((g i).1), .int .i64 ((g i).2.1)])),(AN 1),(NL c c),(AA c (fun i => [.p (.int .i64 (f i))])),(AN 1),(NL N N),(AA N (fun i => [.p (.bool (s i))]))]) := by kernel_rfl
theorem rpe (g : Nat → T_Bar) (nb N : Nat) (s : Nat → Bool) (k c : Nat) (f : Nat → Int) :
    pathOb Tryz.prog Tryz.f221 0 [rg 4, .dec false, rg 2] zf15 (P2 g nb N s k c f) [1] 1 [(0, iOb c f)] (.ar 1 0 0 c) =
    some [(NT 0 1),((decide ((↑k : Int) < (↑N : Int))) = false),(AN 0),(AN c),(AN 1),(NL c c),(AA c (fun i => [.p (.int .i64 (f i))])),(AE c)] := by kernel_rfl
theorem rkit (v : T_Graph) (c : Nat) (f : Nat → Int) :
    pathOb Tryz.prog Tryz.f202 0 [rg 2, rm [(1, oc [] (.p (.bool true))), (1, ⟨true, none, some true⟩), (0, ⟨true, (some ⟨[], [], [], 1, [(0, iOb c f)], .ar 1 0 0 c⟩), some true⟩), (0, ⟨true, none, some true⟩), (0, ⟨true, none, some true⟩), (0, ⟨true, none, some true⟩), (0, ⟨true, none, some true⟩), (0, ⟨true, none, some true⟩)] 1] [.code (bodyOf Tryz.f202)] (start Tryz.f202 [] 0 [graphA v]) [] 1 [] (.p (.bool ((c : Int) == v.1))) =
    some [(NT 0 1),Con Tryz.prog 35 0 [] [(zf75 v)] [] (.p (.bool true)),(true = true),(NT 0 1),(true = true),Con Tryz.prog 224 0 [] [(zf75 v), .p (.int .i64 0)] [(0, ⟨false, 1, c, (fun i => [.p (.int .i64 (f i))])⟩)] (.ar 1 0 0 c),(true = true),(true = true),(true = true),(NT 0 1),(true = true),(true = true),(((↑c : Int) == v.1) = ((↑c : Int) == v.1))] := by kernel_rfl
theorem rkif (v : T_Graph) :
    pathOb Tryz.prog Tryz.f202 0 [rg 2, rm [(1, oc [] (.p (.bool false))), (1, ⟨true, none, some false⟩), (0, ⟨true, none, some false⟩), (0, ⟨true, none, some false⟩), (0, ⟨true, none, some false⟩), (0, ⟨true, none, some false⟩), (0, ⟨true, none, some false⟩), (0, ⟨true, none, some false⟩)] 1] [.code (bodyOf Tryz.f202)] (start Tryz.f202 [] 0 [graphA v]) [] 1 [] (.p (.bool false)) =
    some [(NT 0 1),Con Tryz.prog 35 0 [] [(zf75 v)] [] (.p (.bool false)),(false = false),(false = false),(false = false),(false = false),(false = false),(false = false),(false = false),(false = false)] := by kernel_rfl
theorem rkst (v : T_Graph) (c : Nat) (f : Nat → Int) :
    pathOb Tryz.prog Tryz.f195 0 [rg 2, rm [(1, oc [] (.p (.bool true))), (1, ⟨true, none, some true⟩), (0, ⟨true, (some ⟨[], [], [], 1, [(0, iOb c f)], .ar 1 0 0 c⟩), some true⟩), (0, ⟨true, none, some true⟩), (0, ⟨true, none, some true⟩), (0, ⟨true, none, some true⟩), (0, ⟨true, none, some true⟩), (0, ⟨true, none, some true⟩)] 1] [.code (bodyOf Tryz.f195)] (start Tryz.f195 [] 0 [graphA v]) [] 1 [] (.p (.bool ((c : Int) == v.1))) =
    some [(NT 0 1),Con Tryz.prog 22 0 [] [(zf75 v)] [] (.p (.bool true)),(true = true),(NT 0 1),(true = true),Con Tryz.prog 221 0 [] [(zf75 v), .p (.int .i64 0)] [(0, ⟨false, 1, c, (fun i => [.p (.int .i64 (f i))])⟩)] (.ar 1 0 0 c),(true = true),(true = true),(true = true),(NT 0 1),(true = true),(true = true),(((↑c : Int) == v.1) = ((↑c : Int) == v.1))] := by kernel_rfl
theorem rksf (v : T_Graph) :
    pathOb Tryz.prog Tryz.f195 0 [rg 2, rm [(1, oc [] (.p (.bool false))), (1, ⟨true, none, some false⟩), (0, ⟨true, none, some false⟩), (0, ⟨true, none, some false⟩), (0, ⟨true, none, some false⟩), (0, ⟨true, none, some false⟩), (0, ⟨true, none, some false⟩), (0, ⟨true, none, some false⟩)] 1] [.code (bodyOf Tryz.f195)] (start Tryz.f195 [] 0 [graphA v]) [] 1 [] (.p (.bool false)) =
    some [(NT 0 1),Con Tryz.prog 22 0 [] [(zf75 v)] [] (.p (.bool false)),(false = false),(false = false),(false = false),(false = false),(false = false),(false = false),(false = false),(false = false)] := by kernel_rfl
theorem ends_in {N nb : Nat} {g : Nat → T_Bar} (hok : OkBars N nb g) : ∀ i, i < nb → (g i).1.toNat < N ∧ (g i).2.1.toNat < N := fun i hi => by
  have := hok i hi
  omega
def s00 : Nat → Bool := fun u => decide (u = 0)
theorem con_gReach {N nb : Nat} {g : Nat → T_Bar} (hN : 1 ≤ N ∧ N ≤ 8) (hnb : nb ≤ 24) (hok : OkBars N nb g) :
    Con Tryz.prog 239 0 [] [grG g nb N, .p (.int .i64 0)] [(0, blOb N (rIt g nb s00 N))] (.ar 1 0 0 N) := by
  refine con_start Tryz.func239 rfl (by kernel_rfl) rfl (fun c hc => ?_)
  have he := ends_in hok
  have h0 : 1 ≤ cnT s00 N := cnT_one (by omega)
  have li : ∀ s : Nat → Bool, (Run Tryz.prog c 239 zf35 (Rz0 g nb N (rAg g s nb) (rRd g s nb)) (Post c [(0, blOb N (rIt g nb s00 N))] (.ar 1 0 0 N))) →
      ∀ d k, k + d = nb → Run Tryz.prog c 239 zf12 (Rz1 g nb N (rAg g s k) k (rRd g s k)) (Post c [(0, blOb N (rIt g nb s00 N))] (.ar 1 0 0 N)) := by
    intro s hk d
    induction d with
    | zero =>
      intro k hkd
      obtain rfl : k = nb := by omega
      have hd : decide ((k : Int) < (k : Int)) = false := decide_eq_false (by omega)
      refine piece_ok mixed hc (rcx g k N _ k _) ?_ hk
      simp only [All]
      repeat' (first | exact trivial | with_reducible apply And.intro)
      all_goals (first | exact aP _ _ | exact aA _ _ | omega | rfl | (intros; first | assumption | exact trivial | rfl | exact fT ‹_› | ((repeat' (first | assumption | apply anda | apply notf)); done)) | (exact hd) | (intro t ht; simp [All, aEt]))
    | succ d ih =>
      intro k hkd
      have hd : decide ((k : Int) < (nb : Int)) = true := decide_eq_true (by omega)
      have hb := hok k (by omega)
      have hrec := ih (k + 1) (by omega)
      cases hq : (rRd g s k (g k).1.toNat != rRd g s k (g k).2.1.toNat) with
      | true =>
        rw [show rAg g s (k + 1) = true by simp [rAg, hq]] at hrec
        have hor : (rRd g s k (g k).1.toNat || rRd g s k (g k).2.1.toNat) = true := by
          cases h1 : rRd g s k (g k).1.toNat <;> cases h2 : rRd g s k (g k).2.1.toNat <;> simp [h1, h2] at hq ⊢
        rw [show rRd g s (k + 1) = _ from rSt_on hor] at hrec
        refine piece_ok mixed hc (rct g nb N _ k _) ?_ hrec
        simp only [All]
        repeat' (first | exact trivial | with_reducible apply And.intro)
        all_goals (first | exact aP _ _ | omega | rfl | (intros; first | assumption | exact trivial | rfl | exact fT ‹_› | ((repeat' (first | assumption | apply anda | apply notf)); done)) | (exact hd) | (exact hq) | (intro t ht; simp [All, aEt]; done) | (intro t ht; by_cases h1 : t = (g k).2.1.toNat <;> by_cases h2 : t = (g k).1.toNat <;> simp [h1, h2, cvtL, cvt, tg, tru, All]))
      | false =>
        rw [show rAg g s (k + 1) = rAg g s k by simp [rAg, hq], show rRd g s (k + 1) = rRd g s k from rSt_same hq] at hrec
        refine piece_ok mixed hc (rcf g nb N _ k _) ?_ hrec
        simp only [All]
        repeat' (first | exact trivial | with_reducible apply And.intro)
        all_goals (first | exact aP _ _ | exact aA _ _ | omega | rfl | (intros; first | assumption | exact trivial | rfl | exact fT ‹_› | ((repeat' (first | assumption | apply anda | apply notf)); done)) | (exact hd) | (exact hq) | (intro t ht; simp [All, aEt]))
  have lo : ∀ d j, N - j ≤ d → j ≤ N → (∀ i, i < j → rAg g (rIt g nb s00 i) nb = true) → Run Tryz.prog c 239 zf35 (Rz0 g nb N true (rIt g nb s00 j)) (Post c [(0, blOb N (rIt g nb s00 N))] (.ar 1 0 0 N)) := by
    intro d
    induction d with
    | zero =>
      intro j hj hjN ha
      exfalso
      have h1 := rIt_cnt he h0 j ha
      have h2 := cnT_le (rIt g nb s00 j) N
      omega
    | succ d ih =>
      intro j hj hjN ha
      refine piece_ok mixed hc (rco g nb N _) ?_ (li (rIt g nb s00 j) ?_ nb 0 (by omega))
      · skip
        simp only [All]
        repeat' (first | exact trivial | with_reducible apply And.intro)
        all_goals (first | exact aP _ _ | exact aA _ _ | omega | rfl | (intros; first | assumption | exact trivial | rfl | exact fT ‹_› | ((repeat' (first | assumption | apply anda | apply notf)); done)) | (intro t ht; simp [All, aEt]))
      · cases hq : rAg g (rIt g nb s00 j) nb with
        | true =>
          have h1 := rIt_cnt he h0 j ha
          have h2 := cnT_le (rIt g nb s00 j) N
          exact ih (j + 1) (by omega) (by omega) (fun i hi => by
            by_cases h' : i = j
            · subst h'; exact hq
            · exact ha i (by omega))
        | false =>
          have e := rIt_end he h0 ha hq
          rw [show rRd g (rIt g nb s00 j) nb = rIt g nb s00 N from e]
          refine path_ok mixed Tryz.func239 hc (rce g nb N _) ?_
          simp only [All]
          repeat' (first | exact trivial | with_reducible apply And.intro)
          all_goals (first | exact aA _ _ | exact aE _ | omega | rfl | (intros; first | assumption | exact trivial | rfl | exact fT ‹_› | ((repeat' (first | assumption | apply anda | apply notf)); done)) | (intro t ht; simp [All, aEt]))
  refine piece_ok mixed hc (rcz g nb N) ?_ (lo N 0 (by omega) (by omega) (fun i hi => absurd hi (Nat.not_lt_zero _)))
  simp only [All]
  repeat' (first | exact trivial | with_reducible apply And.intro)
  all_goals (first | exact aP _ _ | omega | rfl | (intros; first | assumption | exact trivial | rfl | exact fT ‹_› | ((repeat' (first | assumption | apply anda | apply notf)); done)) | (intro t ht; by_cases h1 : t = 0 <;> simp [h1, cvtL, cvt, tg, tru, All]))
def rcS (N nb : Nat) (g : Nat → T_Bar) : T_IntS := flt (rIt g nb s00 N) N
theorem con_gReachOf_i {N nb : Nat} {g : Nat → T_Bar} (hg : isGraphF ((N : Int), (nb, g), ()) = true) :
    Con Tryz.prog 224 0 [] [grG g nb N, .p (.int .i64 0)] [(0, iOb (rcS N nb g).1 (rcS N nb g).2)] (.ar 1 0 0 (rcS N nb g).1) := by
  obtain ⟨h1, h2, h3⟩ := graph_in hg
  have c1 := con_IsGraph_i ((N : Int), (nb, g), ()) (sm_graph (by show nb ≤ _; omega))
  rw [hg] at c1
  have c2 := con_hasX ((N : Int), (nb, g), ()) 0 (by show 1 ≤ (N : Int); omega) (by show (N : Int) ≤ 8; omega)
  rw [show inB (0 : Int) 0 ((((N : Int), (nb, g), ()) : T_Graph).1 - 1) = true by simp [inB]; omega] at c2
  have c3 := con_gReach h1 h2 h3
  generalize hs : rIt g nb s00 N = s at c3
  rw [show rcS N nb g = flt s N by simp [rcS, hs]]
  generalize hR : flt s N = R
  refine con_start Tryz.func224 rfl (by kernel_rfl) rfl (fun c hc => ?_)
  have lo : ∀ d i, i + d = N → Run Tryz.prog c 224 zf36 (Q0 g nb N s i (flt s i).1 (flt s i).2) (Post c [(0, iOb R.1 R.2)] (.ar 1 0 0 R.1)) := by
    intro d
    induction d with
    | zero =>
      intro i hi
      obtain rfl : i = N := by omega
      rw [hR]
      have hd : decide ((i : Int) < (i : Int)) = false := decide_eq_false (by omega)
      refine path_ok mixed Tryz.func224 hc (roe g nb i s i R.1 R.2) ?_
      simp only [All]
      repeat' (first | exact trivial | with_reducible apply And.intro)
      all_goals (first | exact aA _ _ | exact aE _ | omega | rfl | (intros; first | assumption | exact trivial | rfl | exact fT ‹_› | ((repeat' (first | assumption | apply anda | apply notf)); done)) | (exact hd) | (intro t ht; simp [All, aEt]))
    | succ d ih =>
      intro i hi
      have hd : decide ((i : Int) < (N : Int)) = true := decide_eq_true (by omega)
      have hrec := ih (i + 1) (by omega)
      have hn := flt_n s i
      cases hq : s i with
      | true =>
        rw [flt_t hq] at hrec
        generalize flt s i = q at hn hrec ⊢
        refine piece_ok mixed hc (rot g nb N s i q.1 q.2) ?_ hrec
        simp only [All]
        repeat' (first | exact trivial | with_reducible apply And.intro)
        all_goals (first | exact aP _ _ | exact aA _ _ | omega | rfl | (intros; first | assumption | exact trivial | rfl | exact fT ‹_› | ((repeat' (first | assumption | apply anda | apply notf)); done)) | (exact hd) | (exact hq) | (intro t ht; by_cases h' : t < q.1 <;> simp [h', cvtL, cvt, tg, tru, All]) | (simp; omega))
      | false =>
        rw [flt_f hq] at hrec
        generalize flt s i = q at hn hrec ⊢
        refine piece_ok mixed hc (rof g nb N s i q.1 q.2) ?_ hrec
        simp only [All]
        repeat' (first | exact trivial | with_reducible apply And.intro)
        all_goals (first | exact aP _ _ | exact aA _ _ | omega | rfl | (intros; first | assumption | exact trivial | rfl | exact fT ‹_› | ((repeat' (first | assumption | apply anda | apply notf)); done)) | (exact hd) | (exact hq) | (intro t ht; simp [All, aEt]) | (simp; omega))
  refine piece_ok mixed hc (roz g nb N s) ?_ (lo N 0 (by omega))
  simp only [All]
  repeat' (first | exact trivial | with_reducible apply And.intro)
  all_goals (first | exact aG _ | exact aP _ _ | exact aA _ _ | omega | rfl | (intros; first | assumption | exact trivial | rfl | exact fT ‹_› | ((repeat' (first | assumption | apply anda | apply notf)); done)) | (exact c1) | (intros; exact c2) | (exact c2) | (exact c3) | (intro t ht; exact absurd ht (Nat.not_lt_zero _)) | (intro t ht; simp [All, aEt]))
theorem con_gReachOf_s {N nb : Nat} {g : Nat → T_Bar} (hg : isGraphF ((N : Int), (nb, g), ()) = true) :
    Con Tryz.prog 221 0 [] [grG g nb N, .p (.int .i64 0)] [(0, iOb (rcS N nb g).1 (rcS N nb g).2)] (.ar 1 0 0 (rcS N nb g).1) := by
  obtain ⟨h1, h2, h3⟩ := graph_in hg
  have c1 := con_IsGraph_s ((N : Int), (nb, g), ()) (sm_graph (by show nb ≤ _; omega))
  rw [hg] at c1
  generalize hR : rcS N nb g = R
  have hR : flt (rIt g nb s00 N) N = R := hR
  refine con_start Tryz.func221 rfl (by kernel_rfl) rfl (fun c hc => ?_)
  have lp : ∀ d i, i + d = N → Run Tryz.prog c 221 zf15 (P2 g nb N (rIt g nb s00 N) i (flt (rIt g nb s00 N) i).1 (flt (rIt g nb s00 N) i).2) (Post c [(0, iOb R.1 R.2)] (.ar 1 0 0 R.1)) := by
    generalize rIt g nb s00 N = s at hR ⊢
    intro d
    induction d with
    | zero =>
      intro i hi
      obtain rfl : i = N := by omega
      rw [hR]
      have hd : decide ((i : Int) < (i : Int)) = false := decide_eq_false (by omega)
      refine path_ok mixed Tryz.func221 hc (rpe g nb i s i R.1 R.2) ?_
      simp only [All]
      repeat' (first | exact trivial | with_reducible apply And.intro)
      all_goals (first | exact aA _ _ | exact aE _ | omega | rfl | (intros; first | assumption | exact trivial | rfl | exact fT ‹_› | ((repeat' (first | assumption | apply anda | apply notf)); done)) | (exact hd) | (intro t ht; simp [All, aEt]))
    | succ d ih =>
      intro i hi
      have hd : decide ((i : Int) < (N : Int)) = true := decide_eq_true (by omega)
      have hrec := ih (i + 1) (by omega)
      have hn := flt_n s i
      cases hq : s i with
      | true =>
        rw [flt_t hq] at hrec
        generalize flt s i = q at hn hrec ⊢
        refine piece_ok mixed hc (rpt g nb N s i q.1 q.2) ?_ hrec
        simp only [All]
        repeat' (first | exact trivial | with_reducible apply And.intro)
        all_goals (first | exact aP _ _ | exact aA _ _ | omega | rfl | (intros; first | assumption | exact trivial | rfl | exact fT ‹_› | ((repeat' (first | assumption | apply anda | apply notf)); done)) | (exact hd) | (exact hq) | (intro t ht; by_cases h' : t < q.1 <;> simp [h', cvtL, cvt, tg, tru, All]) | (simp; omega))
      | false =>
        rw [flt_f hq] at hrec
        generalize flt s i = q at hn hrec ⊢
        refine piece_ok mixed hc (rpf g nb N s i q.1 q.2) ?_ hrec
        simp only [All]
        repeat' (first | exact trivial | with_reducible apply And.intro)
        all_goals (first | exact aP _ _ | exact aA _ _ | omega | rfl | (intros; first | assumption | exact trivial | rfl | exact fT ‹_› | ((repeat' (first | assumption | apply anda | apply notf)); done)) | (exact hd) | (exact hq) | (intro t ht; simp [All, aEt]) | (simp; omega))
  have li : ∀ (n : Nat) (s : Nat → Bool), n < N → (Run Tryz.prog c 221 zf16 (P0 g nb N (n + 1) (rRd g s nb)) (Post c [(0, iOb R.1 R.2)] (.ar 1 0 0 R.1))) →
      ∀ d k, k + d = nb → Run Tryz.prog c 221 zf8 (P1 g nb N n k (rRd g s k)) (Post c [(0, iOb R.1 R.2)] (.ar 1 0 0 R.1)) := by
    intro n s hnN hk d
    induction d with
    | zero =>
      intro k hkd
      obtain rfl : k = nb := by omega
      have hd : decide ((k : Int) < (k : Int)) = false := decide_eq_false (by omega)
      refine piece_ok mixed hc (rsx g k N n k _) ?_ hk
      simp only [All]
      repeat' (first | exact trivial | with_reducible apply And.intro)
      all_goals (first | exact aP _ _ | exact aA _ _ | omega | rfl | (intros; first | assumption | exact trivial | rfl | exact fT ‹_› | ((repeat' (first | assumption | apply anda | apply notf)); done)) | (exact hd) | (intro t ht; simp [All, aEt]))
    | succ d ih =>
      intro k hkd
      have hd : decide ((k : Int) < (nb : Int)) = true := decide_eq_true (by omega)
      have hb := h3 k (by omega)
      have hrec := ih (k + 1) (by omega)
      cases hq : (rRd g s k (g k).1.toNat || rRd g s k (g k).2.1.toNat) with
      | true =>
        rw [show rRd g s (k + 1) = _ from rSt_on hq] at hrec
        have hq2 : (bif rRd g s k (g k).1.toNat then true else rRd g s k (g k).2.1.toNat) = true := by rw [← hq]; cases rRd g s k (g k).1.toNat <;> rfl
        refine piece_ok mixed hc (rst g nb N n k _) ?_ hrec
        simp only [All]
        repeat' (first | exact trivial | with_reducible apply And.intro)
        all_goals (first | exact aG _ | exact aP _ _ | exact aA _ _ | omega | rfl | (intros; first | assumption | exact trivial | rfl | exact fT ‹_› | ((repeat' (first | assumption | apply anda | apply notf)); done)) | (exact hd) | (exact hq2) | (intro t ht; simp [All, aEt]; done) | (intro t ht; by_cases h1 : t = (g k).2.1.toNat <;> by_cases h2 : t = (g k).1.toNat <;> simp [h1, h2, cvtL, cvt, tg, tru, All]))
      | false =>
        rw [show rRd g s (k + 1) = rRd g s k from rSt_off hq] at hrec
        have hq2 : (bif rRd g s k (g k).1.toNat then true else rRd g s k (g k).2.1.toNat) = false := by rw [← hq]; cases rRd g s k (g k).1.toNat <;> rfl
        refine piece_ok mixed hc (rsf g nb N n k _) ?_ hrec
        simp only [All]
        repeat' (first | exact trivial | with_reducible apply And.intro)
        all_goals (first | exact aG _ | exact aP _ _ | exact aA _ _ | omega | rfl | (intros; first | assumption | exact trivial | rfl | exact fT ‹_› | ((repeat' (first | assumption | apply anda | apply notf)); done)) | (exact hd) | (exact hq2) | (intro t ht; simp [All, aEt]))
  have lo : ∀ d n, n + d = N → Run Tryz.prog c 221 zf16 (P0 g nb N n (rIt g nb s00 n)) (Post c [(0, iOb R.1 R.2)] (.ar 1 0 0 R.1)) := by
    intro d
    induction d with
    | zero =>
      intro n hn
      obtain rfl : n = N := by omega
      have hd : decide ((n : Int) < (n : Int)) = false := decide_eq_false (by omega)
      refine piece_ok mixed hc (rsq g nb n n _) ?_ (lp n 0 (by omega))
      simp only [All]
      repeat' (first | exact trivial | with_reducible apply And.intro)
      all_goals (first | exact aP _ _ | exact aA _ _ | omega | rfl | (intros; first | assumption | exact trivial | rfl | exact fT ‹_› | ((repeat' (first | assumption | apply anda | apply notf)); done)) | (exact hd) | (intro t ht; exact absurd ht (Nat.not_lt_zero _)) | (intro t ht; simp [All, aEt]))
    | succ d ih =>
      intro n hn
      have hd : decide ((n : Int) < (N : Int)) = true := decide_eq_true (by omega)
      refine piece_ok mixed hc (rso g nb N n _) ?_ (li n (rIt g nb s00 n) (by omega) (ih (n + 1) (by omega)) nb 0 (by omega))
      simp only [All]
      repeat' (first | exact trivial | with_reducible apply And.intro)
      all_goals (first | exact aP _ _ | exact aA _ _ | omega | rfl | (intros; first | assumption | exact trivial | rfl | exact fT ‹_› | ((repeat' (first | assumption | apply anda | apply notf)); done)) | (exact hd) | (intro t ht; exact absurd ht (Nat.not_lt_zero _)) | (intro t ht; simp [All, aEt]))
  have hd : (bif bif !true then true else decide ((0 : Int) < 0) then true else decide ((0 : Int) ≥ (N : Int))) = false := by
    rw [decide_eq_false (show ¬ ((0 : Int) ≥ (N : Int)) by omega)]; rfl
  refine piece_ok mixed hc (rsz g nb N) ?_ (lo N 0 (by omega))
  simp only [All]
  repeat' (first | exact trivial | with_reducible apply And.intro)
  all_goals (first | exact aG _ | exact aP _ _ | exact aA _ _ | omega | rfl | (intros; first | assumption | exact trivial | rfl | exact fT ‹_› | ((repeat' (first | assumption | apply anda | apply notf)); done)) | (exact c1) | (exact hd) | (intro t ht; exact absurd ht (Nat.not_lt_zero _)) | (intro t ht; by_cases h1 : t = 0 <;> simp [h1, cvtL, cvt, tg, tru, All]))
theorem cnB_eq {N nb : Nat} {g : Nat → T_Bar} (hg : isGraphF ((N : Int), (nb, g), ()) = true) : cnB ((N : Int), (nb, g), ()) = (((rcS N nb g).1 : Int) == (N : Int)) := by
  unfold cnB
  rw [hg]
  rfl
theorem con_gConn_i (v : T_Graph) (hs : smS s_Graph v) : Con Tryz.prog 202 0 [] [graphA v] [] (.p (.bool (cnB v))) := by
  have c1 := con_IsGraph_i v hs
  cases hg : isGraphF v with
  | false =>
    rw [hg] at c1
    rw [show cnB v = false by unfold cnB; rw [hg]; rfl]
    refine con_start Tryz.func202 rfl (by kernel_rfl) rfl (fun c hc => ?_)
    refine path_ok mixed Tryz.func202 hc (rkif v) ?_
    simp only [All]
    repeat' (first | exact trivial | with_reducible apply And.intro)
    all_goals (first | omega | rfl | (intros; first | assumption | exact trivial | rfl | exact fT ‹_› | ((repeat' (first | assumption | apply anda | apply notf)); done)) | (exact c1) | (simp; done))
  | true =>
    rw [hg] at c1
    obtain ⟨N, nb, g, rfl⟩ := graph_cases v hg
    have c2 := con_gReachOf_i hg
    have hn := flt_n (rIt g nb s00 N) N
    have hn : (rcS N nb g).1 ≤ N := hn
    rw [cnB_eq hg]
    generalize rcS N nb g = R at *
    refine con_start Tryz.func202 rfl (by kernel_rfl) rfl (fun c hc => ?_)
    refine path_ok mixed Tryz.func202 hc (rkit ((N : Int), (nb, g), ()) R.1 R.2) ?_
    simp only [All]
    repeat' (first | exact trivial | with_reducible apply And.intro)
    all_goals (first | omega | rfl | (intros; first | assumption | exact trivial | rfl | exact fT ‹_› | ((repeat' (first | assumption | apply anda | apply notf)); done)) | (exact c1) | (intros; exact c2) | (exact c2) | (simp; done))
theorem con_gConn_s (v : T_Graph) (hs : smS s_Graph v) : Con Tryz.prog 195 0 [] [graphA v] [] (.p (.bool (cnB v))) := by
  have c1 := con_IsGraph_s v hs
  cases hg : isGraphF v with
  | false =>
    rw [hg] at c1
    rw [show cnB v = false by unfold cnB; rw [hg]; rfl]
    refine con_start Tryz.func195 rfl (by kernel_rfl) rfl (fun c hc => ?_)
    refine path_ok mixed Tryz.func195 hc (rksf v) ?_
    simp only [All]
    repeat' (first | exact trivial | with_reducible apply And.intro)
    all_goals (first | omega | rfl | (intros; first | assumption | exact trivial | rfl | exact fT ‹_› | ((repeat' (first | assumption | apply anda | apply notf)); done)) | (exact c1) | (simp; done))
  | true =>
    rw [hg] at c1
    obtain ⟨N, nb, g, rfl⟩ := graph_cases v hg
    have c2 := con_gReachOf_s hg
    rw [cnB_eq hg]
    generalize rcS N nb g = R at *
    refine con_start Tryz.func195 rfl (by kernel_rfl) rfl (fun c hc => ?_)
    refine path_ok mixed Tryz.func195 hc (rkst ((N : Int), (nb, g), ()) R.1 R.2) ?_
    simp only [All]
    repeat' (first | exact trivial | with_reducible apply And.intro)
    all_goals (first | omega | rfl | (intros; first | assumption | exact trivial | rfl | exact fT ‹_› | ((repeat' (first | assumption | apply anda | apply notf)); done)) | (exact c1) | (intros; exact c2) | (exact c2) | (simp; done))
end Go.Proofs.YtffnfeefjdmifaaGreat.Mach
