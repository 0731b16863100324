/- What the law Ge needs, part 6 of 6: the abstract machine and the contracts of the functions. Conditions: as each theorem says. -/
import Derived.Test.YtgdbnnmogddkaaaGreatGeP5
namespace Go.Proofs.YtgdbnnmogddkaaaGreat.Mach
open Go Go.Sort
set_option linter.unusedVariables false
set_option linter.unusedSimpArgs false
def kAdd : ByteArray := ⟨#[97, 100, 100]⟩
def kBreak : ByteArray := ⟨#[98, 114, 101, 97, 107]⟩
def kRepair : ByteArray := ⟨#[114, 101, 112, 97, 105, 114]⟩
def kBlank : ByteArray := ⟨#[32]⟩
def snTx (n : Nat) (h : Nat → ByteArray) (x : ByteArray) (s : Nat) : ByteArray := if s < n then h s else x
def siA (v : T_Site) : AV := .agg [.p (.int .i64 v.1.1.1), graphL v.1.1.2.1, inL v.1.2.1, stLt v.2.1.1 v.2.1.2]
def siO (N : Int) (nb m n : Nat) : AV := .agg [.p (.int .i64 N), .ar 2 0 0 nb, .ar 1 1 0 m, .ar 1 2 0 n]
def piO (N : Int) (nb m : Nat) : AV := .agg [.p (.int .i64 N), .ar 2 0 0 nb, .ar 1 1 0 m]
def piH (p : T_Pinned) : Hp := [(0, brOb p.1.2.1.1 p.1.2.1.2), (1, iOb p.2.1.1 p.2.1.2)]
def siH (v : T_Site) : Hp := [(0, brOb v.1.1.2.1.1 v.1.1.2.1.2), (1, iOb v.1.2.1.1 v.1.2.1.2), (2, stOt v.2.1.1 v.2.1.2)]
def siV (v : T_Site) : AV := siO v.1.1.1 v.1.1.2.1.1 v.1.2.1.1 v.2.1.1
def piV (p : T_Pinned) : AV := piO p.1.1 p.1.2.1.1 p.2.1.1
def evtA (e : T_Event) : AV := .agg [.p (.int .i64 e.1), .p (.int .i64 e.2.1), .p (.int .i64 e.2.2.1)]
def brBx (x : T_Bar) : Ob := ⟨true, 2, 1, fun _ => [.p (.int .i64 x.1), .p (.int .i64 x.2.1)]⟩
def SVi (v : T_Graph) (x : T_Bar) (k : Nat) : St :=
  ⟨[graphL v.2.1, .agg [.p (.int .i64 x.1), .p (.int .i64 x.2.1)], .p .any, .pt 2 0 0 0, .p .any, .p .any, graphL v.2.1, .p (.int .i64 v.2.1.1), .p (.int .i64 k)] ++ List.replicate 10 anyA, [(0, brBx x)], 1⟩
def SVs (v : T_Graph) (a b : Int) (k : Nat) : St :=
  ⟨[graphA v, .p (.int .i64 a), .p (.int .i64 b), .pt 2 0 0 0, .p .any, .p .any, .p .any, .p (.int .i64 k)] ++ List.replicate 30 anyA, [(0, boxG v)], 1⟩
def SVw (l : T_BarS) (k : Nat) (s : ByteArray) : St :=
  ⟨[.p (.str s), graphL l] ++ List.replicate 5 anyA ++ [graphL l, .p (.int .i64 l.1), .p (.int .i64 k)] ++ List.replicate 10 anyA, [], 0⟩
def SVb (l : T_BarS) (k : Nat) (s : ByteArray) : St :=
  ⟨[graphL l, .p .any, .p .any, .p (.str s), .p (.int .i64 k)] ++ List.replicate 24 anyA, [], 0⟩
def beqB (x y : T_Bar) : Bool := (x.1 == y.1) && ((x.2.1 == y.2.1) && true)
theorem vIz (v : T_Graph) (x : T_Bar) :
    pieceOb Tryz.prog 0 [rg 2, rg 3, .head] [.code (bodyOf Tryz.f35)] (start Tryz.f35 [] 0 [graphL v.2.1, .agg [.p (.int .i64 x.1), .p (.int .i64 x.2.1)]]) [0] 1 (SVi v x 0) =
    some (zf97, [(AN v.2.1.1),(AP v.2.1.1 (fun i => [.int .i64 ((v.2.1.2 i).1), .int .i64 ((v.2.1.2 i).2.1)])),(AI x.1),(AI x.2.1),(AN 0),(AN v.2.1.1),(AP v.2.1.1 (fun i => [.int .i64 ((v.2.1.2 i).1), .int .i64 ((v.2.1.2 i).2.1)])),(AI ((↑v.2.1.1 : Int))),((0 : Int) = (↑0 : Int)),((([AV.p (PV.int IntKind.i64 x.1), AV.p (PV.int IntKind.i64 x.2.1)].length) : Nat) = 2),(NL 1 1),(NL 1 1),(AI x.1),(AI x.2.1)]) := by kernel_rfl
theorem vIa (v : T_Graph) (x : T_Bar) (k : Nat) :
    pieceOb Tryz.prog 0 [rg 1, .dec true, rg 2, rg 6, .dec false, rg 2, .head] zf97 (SVi v x k) [0] 1 (SVi v x (k + 1)) =
    some (zf97, [((decide ((↑k : Int) < (↑v.2.1.1 : Int))) = true),(NT 0 1),(IL 0 (↑k : Int)),(IT (↑k : Int) (↑v.2.1.1 : Int)),((x.1 == (v.2.1.2 k).1 && (x.2.1 == (v.2.1.2 k).2.1 && true)) = false),(R0 ((↑k : Int) + 1)),(R1 ((↑k : Int) + 1)),(AN v.2.1.1),(AP v.2.1.1 (fun i => [.int .i64 ((v.2.1.2 i).1), .int .i64 ((v.2.1.2 i).2.1)])),(AI x.1),(AI x.2.1),(AN 0),(AN v.2.1.1),(AP v.2.1.1 (fun i => [.int .i64 ((v.2.1.2 i).1), .int .i64 ((v.2.1.2 i).2.1)])),(AI ((↑v.2.1.1 : Int))),((((↑k : Int) + 1) : Int) = (↑(k + 1) : Int)),(AN 2),(NL 1 1),(NL 1 1),(AI x.1),(AI x.2.1)]) := by kernel_rfl
theorem vIb (v : T_Graph) (x : T_Bar) (k : Nat) :
    pathOb Tryz.prog Tryz.f35 0 [rg 1, .dec true, rg 2, rg 6, .dec true, rg 2] zf97 (SVi v x k) [] 1 [] (.p (.int .i64 k)) =
    some [((decide ((↑k : Int) < (↑v.2.1.1 : Int))) = true),(NT 0 1),(IL 0 (↑k : Int)),(IT (↑k : Int) (↑v.2.1.1 : Int)),((x.1 == (v.2.1.2 k).1 && (x.2.1 == (v.2.1.2 k).2.1 && true)) = true),(AI ((↑k : Int)))] := by kernel_rfl
theorem vIe (v : T_Graph) (x : T_Bar) (k : Nat) :
    pathOb Tryz.prog Tryz.f35 0 [rg 1, .dec false, rg 1] zf97 (SVi v x k) [] 1 [] (.p (.int .i64 (-1))) =
    some [((decide ((↑k : Int) < (↑v.2.1.1 : Int))) = false),(AI ((-1)))] := by kernel_rfl
theorem vAz (v : T_Graph) (a b : Int) :
    pieceOb Tryz.prog 0 [rg 2, rg 1, .head] [.code (bodyOf Tryz.f25)] (start Tryz.f25 [] 0 [graphA v, .p (.int .i64 a), .p (.int .i64 b)]) [0] 1 (SVs v a b 0) =
    some (zf98, [(AI v.1),(AN v.2.1.1),(AP v.2.1.1 (fun i => [.int .i64 ((v.2.1.2 i).1), .int .i64 ((v.2.1.2 i).2.1)])),(AI a),(AI b),(AN 0),((0 : Int) = (↑0 : Int)),((([AV.p (PV.int IntKind.i64 v.1), graphL v.2.1].length) : Nat) = 2),(NL 1 1),(NL 1 1),(AI v.1),(AN v.2.1.1),(AP v.2.1.1 (fun i => [.int .i64 ((v.2.1.2 i).1), .int .i64 ((v.2.1.2 i).2.1)]))]) := by kernel_rfl
theorem vAa (v : T_Graph) (a b : Int) (k : Nat) :
    pieceOb Tryz.prog 0 [rg 5, .dec true, rg 22, .dec false, rg 3, .head] zf98 (SVs v a b k) [0] 1 (SVs v a b (k + 1)) =
    some (zf98, [(NT 0 1),((decide ((↑k : Int) < (↑v.2.1.1 : Int))) = true),(NT 0 1),(IL 0 (↑k : Int)),(IT (↑k : Int) (↑v.2.1.1 : Int)),(AG ((v.2.1.2 k).1 == if false = true then if b > a then b else a else if b < a then b else a)),((((v.2.1.2 k).1 == if false = true then if b > a then b else a else if b < a then b else a) = true) → (NT 0 1)),(AG ((v.2.1.2 k).1 == if false = true then if b > a then b else a else if b < a then b else a)),(AG ((v.2.1.2 k).1 == if false = true then if b > a then b else a else if b < a then b else a)),((((v.2.1.2 k).1 == if false = true then if b > a then b else a else if b < a then b else a) = true) → (IL 0 (↑k : Int))),((((v.2.1.2 k).1 == if false = true then if b > a then b else a else if b < a then b else a) = true) → (IT (↑k : Int) (↑v.2.1.1 : Int))),(AG ((v.2.1.2 k).1 == if false = true then if b > a then b else a else if b < a then b else a)),(AG ((v.2.1.2 k).1 == if false = true then if b > a then b else a else if b < a then b else a)),(AG ((v.2.1.2 k).1 == if false = true then if b > a then b else a else if b < a then b else a)),(AG ((v.2.1.2 k).1 == if false = true then if b > a then b else a else if b < a then b else a)),(AG ((v.2.1.2 k).1 == if false = true then if b > a then b else a else if b < a then b else a)),(AG ((v.2.1.2 k).1 == if false = true then if b > a then b else a else if b < a then b else a)),(AG ((v.2.1.2 k).1 == if false = true then if b > a then b else a else if b < a then b else a)),((bif (v.2.1.2 k).1 == if false = true then if b > a then b else a else if b < a then b else a then (v.2.1.2 k).2.1 == if true = true then if b > a then b else a else if b < a then b else a else false) = false),(R0 ((↑k : Int) + 1)),(R1 ((↑k : Int) + 1)),(AI v.1),(AN v.2.1.1),(AP v.2.1.1 (fun i => [.int .i64 ((v.2.1.2 i).1), .int .i64 ((v.2.1.2 i).2.1)])),(AI a),(AI b),(AN 0),((((↑k : Int) + 1) : Int) = (↑(k + 1) : Int)),(AN 2),(NL 1 1),(NL 1 1),(AI v.1),(AN v.2.1.1),(AP v.2.1.1 (fun i => [.int .i64 ((v.2.1.2 i).1), .int .i64 ((v.2.1.2 i).2.1)]))]) := by kernel_rfl
theorem vAb (v : T_Graph) (a b : Int) (k : Nat) :
    pathOb Tryz.prog Tryz.f25 0 [rg 5, .dec true, rg 22, .dec true, rg 2] zf98 (SVs v a b k) [] 1 [] (.p (.int .i64 k)) =
    some [(NT 0 1),((decide ((↑k : Int) < (↑v.2.1.1 : Int))) = true),(NT 0 1),(IL 0 (↑k : Int)),(IT (↑k : Int) (↑v.2.1.1 : Int)),(AG ((v.2.1.2 k).1 == if false = true then if b > a then b else a else if b < a then b else a)),((((v.2.1.2 k).1 == if false = true then if b > a then b else a else if b < a then b else a) = true) → (NT 0 1)),(AG ((v.2.1.2 k).1 == if false = true then if b > a then b else a else if b < a then b else a)),(AG ((v.2.1.2 k).1 == if false = true then if b > a then b else a else if b < a then b else a)),((((v.2.1.2 k).1 == if false = true then if b > a then b else a else if b < a then b else a) = true) → (IL 0 (↑k : Int))),((((v.2.1.2 k).1 == if false = true then if b > a then b else a else if b < a then b else a) = true) → (IT (↑k : Int) (↑v.2.1.1 : Int))),(AG ((v.2.1.2 k).1 == if false = true then if b > a then b else a else if b < a then b else a)),(AG ((v.2.1.2 k).1 == if false = true then if b > a then b else a else if b < a then b else a)),(AG ((v.2.1.2 k).1 == if false = true then if b > a then b else a else if b < a then b else a)),(AG ((v.2.1.2 k).1 == if false = true then if b > a then b else a else if b < a then b else a)),(AG ((v.2.1.2 k).1 == if false = true then if b > a then b else a else if b < a then b else a)),(AG ((v.2.1.2 k).1 == if false = true then if b > a then b else a else if b < a then b else a)),(AG ((v.2.1.2 k).1 == if false = true then if b > a then b else a else if b < a then b else a)),((bif (v.2.1.2 k).1 == if false = true then if b > a then b else a else if b < a then b else a then (v.2.1.2 k).2.1 == if true = true then if b > a then b else a else if b < a then b else a else false) = true),(AI ((↑k : Int)))] := by kernel_rfl
theorem vAe (v : T_Graph) (a b : Int) (k : Nat) :
    pathOb Tryz.prog Tryz.f25 0 [rg 5, .dec false, rg 1] zf98 (SVs v a b k) [] 1 [] (.p (.int .i64 (-1))) =
    some [(NT 0 1),((decide ((↑k : Int) < (↑v.2.1.1 : Int))) = false),(AI ((-1)))] := by kernel_rfl
theorem vWz (l : T_BarS) (s : ByteArray) :
    pieceOb Tryz.prog 0 [rg 1, rg 3, .head] [.code (bodyOf Tryz.f34)] (start Tryz.f34 [] 0 [.p (.str s), graphL l]) [] 1 (SVw l 0 s) =
    some (zf99, [(s = s),(AN l.1),(AP l.1 (fun i => [.int .i64 ((l.2 i).1), .int .i64 ((l.2 i).2.1)])),(AN l.1),(AP l.1 (fun i => [.int .i64 ((l.2 i).1), .int .i64 ((l.2 i).2.1)])),(AI ((↑l.1 : Int))),((0 : Int) = (↑0 : Int))]) := by kernel_rfl
theorem vWa (l : T_BarS) (k : Nat) (s t : ByteArray) :
    pieceOb Tryz.prog 0 [rg 1, .dec true, rg 4, rm [(3, oc [] (.p (.str t)))] 2, rg 2, .head] zf99 (SVw l k s) [] 1 (SVw l (k + 1) ((s ++ kBlank) ++ t)) =
    some (zf99, [((decide ((↑k : Int) < (↑l.1 : Int))) = true),(IL 0 (↑k : Int)),(IT (↑k : Int) (↑l.1 : Int)),(NT 0 1),((true = true) →  (AN 1)),(NL (s.size + (ByteArray.mk #[32]).size) 9223372036854775807),(NT 0 1),Con Tryz.prog 65 0 [] [(zf130 l k)] [] (.p (.str t)),(NL ((s ++ ByteArray.mk #[32]).size + t.size) 9223372036854775807),(R0 ((↑k : Int) + 1)),(R1 ((↑k : Int) + 1)),(s ++ ByteArray.mk #[32] ++ t = s ++ kBlank ++ t),(AN l.1),(AP l.1 (fun i => [.int .i64 ((l.2 i).1), .int .i64 ((l.2 i).2.1)])),(AN l.1),(AP l.1 (fun i => [.int .i64 ((l.2 i).1), .int .i64 ((l.2 i).2.1)])),(AI ((↑l.1 : Int))),((((↑k : Int) + 1) : Int) = (↑(k + 1) : Int))]) := by kernel_rfl
theorem vWe (l : T_BarS) (k : Nat) (s : ByteArray) :
    pathOb Tryz.prog Tryz.f34 0 [rg 1, .dec false, rg 2] zf99 (SVw l k s) [] 1 [] (.p (.str s)) =
    some [((decide ((↑k : Int) < (↑l.1 : Int))) = false),(s = s)] := by kernel_rfl
theorem vBz (l : T_BarS) :
    pieceOb Tryz.prog 0 [rg 1, rg 1, rg 1, .head] [.code (bodyOf Tryz.f24)] (start Tryz.f24 [] 0 [graphL l]) [] 1 (SVb l 0 ⟨#[]⟩) =
    some (zf81, [(AN l.1),(AP l.1 (fun i => [.int .i64 ((l.2 i).1), .int .i64 ((l.2 i).2.1)])),(ByteArray.mk #[] = ByteArray.mk #[]),((0 : Int) = (↑0 : Int))]) := by kernel_rfl
theorem vBa (l : T_BarS) (k : Nat) (s t u : ByteArray) :
    pieceOb Tryz.prog 0 [rg 4, .dec true, rm [(7, oc [] (.p (.str t))), (7, oc [] (.p (.str u)))] 2, rg 3, .head] zf81 (SVb l k s) [] 1 (SVb l (k + 1) ((((s ++ kBlank) ++ t) ++ kDash) ++ u)) =
    some (zf81, [((decide ((↑k : Int) < (↑l.1 : Int))) = true),(NL (s.size + (ByteArray.mk #[32]).size) 9223372036854775807),(IL 0 (↑k : Int)),(IT (↑k : Int) (↑l.1 : Int)),Con Tryz.prog 53 0 [] [.p (.int .i64 ((l.2 k).1))] [] (.p (.str t)),(NL ((s ++ ByteArray.mk #[32]).size + t.size) 9223372036854775807),(NL ((s ++ ByteArray.mk #[32] ++ t).size + (ByteArray.mk #[45]).size) 9223372036854775807),(IL 0 (↑k : Int)),(IT (↑k : Int) (↑l.1 : Int)),Con Tryz.prog 53 0 [] [.p (.int .i64 ((l.2 k).2.1))] [] (.p (.str u)),(NL ((s ++ ByteArray.mk #[32] ++ t ++ ByteArray.mk #[45]).size + u.size) 9223372036854775807),(R0 ((↑k : Int) + 1)),(R1 ((↑k : Int) + 1)),(AN l.1),(AP l.1 (fun i => [.int .i64 ((l.2 i).1), .int .i64 ((l.2 i).2.1)])),(s ++ ByteArray.mk #[32] ++ t ++ ByteArray.mk #[45] ++ u = s ++ kBlank ++ t ++ kDash ++ u),((((↑k : Int) + 1) : Int) = (↑(k + 1) : Int))]) := by kernel_rfl
theorem vBe (l : T_BarS) (k : Nat) (s : ByteArray) :
    pathOb Tryz.prog Tryz.f24 0 [rg 4, .dec false, rg 2] zf81 (SVb l k s) [] 1 [] (.p (.str s)) =
    some [((decide ((↑k : Int) < (↑l.1 : Int))) = false),(s = s)] := by kernel_rfl
theorem vCi (v : T_Site) :
    pathOb Tryz.prog Tryz.f31 0 [rg 2, rm [(2, oc (piH v.1) (piV v.1))] 6] [.code (bodyOf Tryz.f31)] (start Tryz.f31 [] 0 [siA v]) [128, 129, 256] 1 (siH v) (siV v) =
    some [(NT 0 1),Con Tryz.prog 40 0 [] [(zf23 v)] (zf28 v) ((zf123 v)),(NT 0 1),(NL 0 0),(NL ((0 + v.2.1.1) * 16) 140737488355328),(NL (0 + v.2.1.1) 9223372036854775807),(NT 0 1),((true = true) →  (AN 1)),(NT 0 1),(AI v.1.1.1),(AN 0),(AN v.1.1.2.1.1),(AN 0),(AN v.1.2.1.1),(AN 0),(((0 + v.2.1.1) : Nat) = v.2.1.1),(AN 2),(NL v.1.1.2.1.1 v.1.1.2.1.1),(AA v.1.1.2.1.1 (fun i => [.p (.int .i64 ((v.1.1.2.1.2 i).1)), .p (.int .i64 ((v.1.1.2.1.2 i).2.1))])),(AN 1),(NL v.1.2.1.1 v.1.2.1.1),(AA v.1.2.1.1 (fun i => [.p (.int .i64 (v.1.2.1.2 i))])),(AN 1),(NL v.2.1.1 (0 + v.2.1.1)),(AA v.2.1.1 (fun i => [.p (.str (v.2.1.2 i))])),(AE v.1.1.2.1.1),(AE v.1.2.1.1),(AE v.2.1.1)] := by kernel_rfl
theorem vCs (v : T_Site) :
    pathOb Tryz.prog Tryz.f21 0 [rg 2, rm [(3, oc [(0, brOb v.1.1.2.1.1 v.1.1.2.1.2)] (.agg [.p (.int .i64 v.1.1.1), .ar 2 0 0 v.1.1.2.1.1]))] 12] [.code (bodyOf Tryz.f21)] (start Tryz.f21 [] 0 [siA v]) [160, 320, 480] 1 (siH v) (siV v) =
    some [(NT 0 1),Con Tryz.prog 50 0 [] [(zf101 v)] [(0, ⟨false, 2, v.1.1.2.1.1, (fun i => [.p (.int .i64 ((v.1.1.2.1.2 i).1)), .p (.int .i64 ((v.1.1.2.1.2 i).2.1))])⟩)] (.agg [.p (.int .i64 v.1.1.1), .ar 2 0 0 v.1.1.2.1.1]),(NT 0 1),(NL 0 0),(NL ((0 + v.1.2.1.1) * 8) 140737488355328),(NL (0 + v.1.2.1.1) 9223372036854775807),(NT 0 1),(NL 0 0),(NL ((0 + v.2.1.1) * 16) 140737488355328),(NL (0 + v.2.1.1) 9223372036854775807),(NT 0 1),((true = true) →  (AN 1)),(NT 0 1),(AI v.1.1.1),(AN 0),(AN v.1.1.2.1.1),(AN 0),(((0 + v.1.2.1.1) : Nat) = v.1.2.1.1),(AN 0),(((0 + v.2.1.1) : Nat) = v.2.1.1),(AN 2),(NL v.1.1.2.1.1 v.1.1.2.1.1),(AA v.1.1.2.1.1 (fun i => [.p (.int .i64 ((v.1.1.2.1.2 i).1)), .p (.int .i64 ((v.1.1.2.1.2 i).2.1))])),(AN 1),(NL v.1.2.1.1 (0 + v.1.2.1.1)),(AA v.1.2.1.1 (fun i => [.p (.int .i64 (v.1.2.1.2 i))])),(AN 1),(NL v.2.1.1 (0 + v.2.1.1)),(AA v.2.1.1 (fun i => [.p (.str (v.2.1.2 i))])),(AE v.1.1.2.1.1),(AE v.1.2.1.1),(AE v.2.1.1)] := by kernel_rfl
theorem aIy (v : T_Site) (e : T_Event) (b : Bool) :
    pathOb Tryz.prog Tryz.f9 0 [rg 4, rm [(1, oc (siH v) (siV v))] 2, rm [(1, oc [] (.p (.bool b)))] 7, .dec true, rg 3] [.code (bodyOf Tryz.f9)] (start Tryz.f9 [] 0 [siA v, evtA e]) [160, 161, 162] 1 (siH v) (.tup [siV v, .p (.bool false)]) =
    some [(NT 0 1),Con Tryz.prog 31 0 [] [(zf16 v)] (zf17 v) ((zf117 v)),(NT 0 1),((true = true) →  (AN 1)),(NT 0 1),Con Tryz.prog 32 0 [] [(zf16 v)] [] (.p (.bool b)),(AG (!!b)),(((!!b) = true) → (NT 0 1)),(AG (!!b)),(AG (!!b)),(((!b) = false) →  ((!!b) = true)),((bif !b then true else (↑v.2.1.1 : Int) == 20) = true),(NT 0 1),(NT 0 1),((true = true) →  (AN 1)),(NT 0 1),(AI v.1.1.1),(AN 0),(AN v.1.1.2.1.1),(AN 0),(AN v.1.2.1.1),(AN 0),(AN v.2.1.1),(false = false),(AN 2),(NL v.1.1.2.1.1 v.1.1.2.1.1),(AA v.1.1.2.1.1 (fun i => [.p (.int .i64 ((v.1.1.2.1.2 i).1)), .p (.int .i64 ((v.1.1.2.1.2 i).2.1))])),(AN 1),(NL v.1.2.1.1 v.1.2.1.1),(AA v.1.2.1.1 (fun i => [.p (.int .i64 (v.1.2.1.2 i))])),(AN 1),(NL v.2.1.1 v.2.1.1),(AA v.2.1.1 (fun i => [.p (.str (v.2.1.2 i))])),(AE v.1.1.2.1.1),(AE v.1.2.1.1),(AE v.2.1.1)] := by kernel_rfl
theorem aI1t (v : T_Site) (e : T_Event) (p : T_Pinned) (s : ByteArray) :
    pathOb Tryz.prog Tryz.f9 0 [rg 4, rm [(1, oc (siH v) (siV v))] 2, rm [(1, oc [] (.p (.bool true)))] 7, .dec false, rg 4, rg 1, rg 1, rg 2, rg 2, .dec true, rm [(7, oc (piH p) (.tup [piV p, .p (.bool true)]))] 5, rm [(6, oc [] (.p (.str s)))] 1, rg 2, .dec false, rm [(1, oc (piH p) (piV p))] 2, rg 7, rg 3] [.code (bodyOf Tryz.f9)] (start Tryz.f9 [] 0 [siA v, evtA e]) [1632, 1633, 1856] 1 (siH (p, (v.2.1.1 + 1, snTx v.2.1.1 v.2.1.2 s), ())) (.tup [siV (p, (v.2.1.1 + 1, snTx v.2.1.1 v.2.1.2 s), ()), .p (.bool true)]) =
    some [(NT 0 1),Con Tryz.prog 31 0 [] [(zf16 v)] (zf17 v) ((zf117 v)),(NT 0 1),((true = true) →  (AN 1)),(NT 0 1),Con Tryz.prog 32 0 [] [(zf16 v)] [] (.p (.bool true)),(AG (!!true)),(((!!true) = true) → (NT 0 1)),(AG (!!true)),(AG (!!true)),(((!true) = false) →  ((!!true) = true)),((bif !true then true else (↑v.2.1.1 : Int) == 20) = false),(NT 0 1),(NT 0 1),((true = true) →  (AN 1)),(NT 0 1),((e.1 == 1) = true),(NT 0 1),(NT 0 1),(NT 0 1),(AN 2),(NL 1 1),Con Tryz.prog 33 0 [] [(zf23 v), .p (.seq true 2 1 (fun i => [.int .i64 e.2.1, .int .i64 e.2.2.1]))] (zf31 p) ((zf119 p)),(NT 0 1),((true = true) →  (AN 1)),(NT 0 1),(NT 0 1),(AN 2),(NL 1 1),Con Tryz.prog 34 0 [] [.p (.str (ByteArray.mk #[97, 100, 100])), .p (.seq true 2 1 (fun i => [.int .i64 e.2.1, .int .i64 e.2.2.1]))] [] (.p (.str s)),((!true) = false),(NT 0 1),(AN 2),(NL p.1.2.1.1 p.1.2.1.1),(AN 1),(NL p.2.1.1 p.2.1.1),Con Tryz.prog 40 0 [] [(zf26 p)] (zf31 p) ((zf128 p)),(NT 0 1),((true = true) →  (AN 1)),(NT 0 1),(NL 1 1),(NL v.2.1.1 v.2.1.1),(NL ((v.2.1.1 + 1) * 16) 140737488355328),(NL (v.2.1.1 + 1) 9223372036854775807),(NT 0 1),((true = true) →  (AN 1)),(NT 0 1),(NT 0 1),((true = true) →  (AN 1)),(NT 0 1),(AI p.1.1),(AN 0),(AN p.1.2.1.1),(AN 0),(AN p.2.1.1),(AN 0),(AN ((v.2.1.1 + 1))),(true = true),(AN 2),(NL p.1.2.1.1 p.1.2.1.1),(AA p.1.2.1.1 (fun i => [.p (.int .i64 ((p.1.2.1.2 i).1)), .p (.int .i64 ((p.1.2.1.2 i).2.1))])),(AN 1),(NL p.2.1.1 p.2.1.1),(AA p.2.1.1 (fun i => [.p (.int .i64 (p.2.1.2 i))])),(AN 1),(NL (v.2.1.1 + 1) (v.2.1.1 + 1)),(CV [(64, ⟨true, 4, 1, (fun i_1 => [.p (.int .i64 p.1.1), .ar 2 1632 0 p.1.2.1.1, .ar 1 1633 0 p.2.1.1, .ar 1 1856 0 (v.2.1.1 + 1)])⟩), (192, ⟨true, 4, 1, (fun i_1 => [.p (.int .i64 p.1.1), .ar 2 1632 0 p.1.2.1.1, .ar 1 1633 0 p.2.1.1, .ar 1 1856 0 (v.2.1.1 + 1)])⟩), (1856, ⟨false, 1, (v.2.1.1 + 1), (fun i_1 => (if (i_1 < v.2.1.1) then [.p (.str (v.2.1.2 i_1))] else [.p (.str s)]))⟩), (1824, ⟨false, 1, 1, (fun i_1 => [.p (.str s)])⟩), (1633, ⟨false, 1, p.2.1.1, (fun i_1 => [.p (.int .i64 (p.2.1.2 i_1))])⟩), (1632, ⟨false, 2, p.1.2.1.1, (fun i_1 => [.p (.int .i64 ((p.1.2.1.2 i_1).1)), .p (.int .i64 ((p.1.2.1.2 i_1).2.1))])⟩), (1440, ⟨false, 2, 1, (fun i_1 => [.p (.int .i64 e.2.1), .p (.int .i64 e.2.2.1)])⟩), (608, ⟨true, 3, 1, (fun i_1 => [.p (.int .i64 p.1.1), .ar 2 1088 0 p.1.2.1.1, .ar 1 1089 0 p.2.1.1])⟩), (1089, ⟨false, 1, p.2.1.1, (fun i_1 => [.p (.int .i64 (p.2.1.2 i_1))])⟩), (1088, ⟨false, 2, p.1.2.1.1, (fun i_1 => [.p (.int .i64 ((p.1.2.1.2 i_1).1)), .p (.int .i64 ((p.1.2.1.2 i_1).2.1))])⟩), (1056, ⟨false, 2, 1, (fun i_1 => [.p (.int .i64 e.2.1), .p (.int .i64 e.2.2.1)])⟩), (161, ⟨false, 1, v.1.2.1.1, (fun i_1 => [.p (.int .i64 (v.1.2.1.2 i_1))])⟩), (160, ⟨false, 2, v.1.1.2.1.1, (fun i_1 => [.p (.int .i64 ((v.1.1.2.1.2 i_1).1)), .p (.int .i64 ((v.1.1.2.1.2 i_1).2.1))])⟩), (32, ⟨true, 3, 1, (fun i_1 => [.p (.int .i64 e.1), .p (.int .i64 e.2.1), .p (.int .i64 e.2.2.1)])⟩), (0, ⟨true, 4, 1, (fun i_1 => [.p (.int .i64 v.1.1.1), .p (.seq true 2 v.1.1.2.1.1 (fun i_2 => [.int .i64 ((v.1.1.2.1.2 i_2).1), .int .i64 ((v.1.1.2.1.2 i_2).2.1)])), .p (.seq true 1 v.1.2.1.1 (fun i_2 => [.int .i64 (v.1.2.1.2 i_2)])), .p (.seq true 1 v.2.1.1 (fun i_2 => [.str (v.2.1.2 i_2)]))])⟩)] [1632, 1633, 1856] 1 (v.2.1.1 + 1) (fun i => if (i < v.2.1.1) then [.p (.str (v.2.1.2 i))] else [.p (.str s)]) (fun i => [.p (.str ((v.2.1.1 + 1, snTx v.2.1.1 v.2.1.2 s).2 i))])),(AE p.1.2.1.1),(AE p.2.1.1),(AE ((v.2.1.1 + 1)))] := by kernel_rfl
theorem aI1f (v : T_Site) (e : T_Event) (p : T_Pinned) (s : ByteArray) :
    pathOb Tryz.prog Tryz.f9 0 [rg 4, rm [(1, oc (siH v) (siV v))] 2, rm [(1, oc [] (.p (.bool true)))] 7, .dec false, rg 4, rg 1, rg 1, rg 2, rg 2, .dec true, rm [(7, oc (piH p) (.tup [piV p, .p (.bool false)]))] 5, rm [(6, oc [] (.p (.str s)))] 1, rg 2, .dec true, rg 3] [.code (bodyOf Tryz.f9)] (start Tryz.f9 [] 0 [siA v, evtA e]) [160, 161, 162] 1 (siH v) (.tup [siV v, .p (.bool false)]) =
    some [(NT 0 1),Con Tryz.prog 31 0 [] [(zf16 v)] (zf17 v) ((zf117 v)),(NT 0 1),((true = true) →  (AN 1)),(NT 0 1),Con Tryz.prog 32 0 [] [(zf16 v)] [] (.p (.bool true)),(AG (!!true)),(((!!true) = true) → (NT 0 1)),(AG (!!true)),(AG (!!true)),(((!true) = false) →  ((!!true) = true)),((bif !true then true else (↑v.2.1.1 : Int) == 20) = false),(NT 0 1),(NT 0 1),((true = true) →  (AN 1)),(NT 0 1),((e.1 == 1) = true),(NT 0 1),(NT 0 1),(NT 0 1),(AN 2),(NL 1 1),Con Tryz.prog 33 0 [] [(zf23 v), .p (.seq true 2 1 (fun i => [.int .i64 e.2.1, .int .i64 e.2.2.1]))] (zf31 p) (.tup [(zf128 p), .p (.bool false)]),(NT 0 1),((true = true) →  (AN 1)),(NT 0 1),(NT 0 1),(AN 2),(NL 1 1),Con Tryz.prog 34 0 [] [.p (.str (ByteArray.mk #[97, 100, 100])), .p (.seq true 2 1 (fun i => [.int .i64 e.2.1, .int .i64 e.2.2.1]))] [] (.p (.str s)),((!false) = true),(NT 0 1),(NT 0 1),((true = true) →  (AN 1)),(NT 0 1),(AI v.1.1.1),(AN 0),(AN v.1.1.2.1.1),(AN 0),(AN v.1.2.1.1),(AN 0),(AN v.2.1.1),(false = false),(AN 2),(NL v.1.1.2.1.1 v.1.1.2.1.1),(AA v.1.1.2.1.1 (fun i => [.p (.int .i64 ((v.1.1.2.1.2 i).1)), .p (.int .i64 ((v.1.1.2.1.2 i).2.1))])),(AN 1),(NL v.1.2.1.1 v.1.2.1.1),(AA v.1.2.1.1 (fun i => [.p (.int .i64 (v.1.2.1.2 i))])),(AN 1),(NL v.2.1.1 v.2.1.1),(AA v.2.1.1 (fun i => [.p (.str (v.2.1.2 i))])),(AE v.1.1.2.1.1),(AE v.1.2.1.1),(AE v.2.1.1)] := by kernel_rfl
theorem aI2t (v : T_Site) (e : T_Event) (p : T_Pinned) (s : ByteArray) (x : T_Bar) (k : Int) :
    pathOb Tryz.prog Tryz.f9 0 [rg 4, rm [(1, oc (siH v) (siV v))] 2, rm [(1, oc [] (.p (.bool true)))] 7, .dec false, rg 4, rg 1, rg 1, rg 2, rg 2, .dec false, rg 2, .dec true, rm [(7, oc [] (.agg [.p (.int .i64 x.1), .p (.int .i64 x.2.1)])), (0, oc [] (.p (.int .i64 k)))] 1, rg 2, .dec true, rm [(2, oc (piH p) (piV p))] 2, rm [(6, oc [] (.p (.str s)))] 1, rg 2, .dec false, rm [(1, oc (piH p) (piV p))] 2, rg 7, rg 3] [.code (bodyOf Tryz.f9)] (start Tryz.f9 [] 0 [siA v, evtA e]) [1824, 1825, 2048] 1 (siH (p, (v.2.1.1 + 1, snTx v.2.1.1 v.2.1.2 s), ())) (.tup [siV (p, (v.2.1.1 + 1, snTx v.2.1.1 v.2.1.2 s), ()), .p (.bool true)]) =
    some [(NT 0 1),Con Tryz.prog 31 0 [] [(zf16 v)] (zf17 v) ((zf117 v)),(NT 0 1),((true = true) →  (AN 1)),(NT 0 1),Con Tryz.prog 32 0 [] [(zf16 v)] [] (.p (.bool true)),(AG (!!true)),(((!!true) = true) → (NT 0 1)),(AG (!!true)),(AG (!!true)),(((!true) = false) →  ((!!true) = true)),((bif !true then true else (↑v.2.1.1 : Int) == 20) = false),(NT 0 1),(NT 0 1),((true = true) →  (AN 1)),(NT 0 1),((e.1 == 1) = false),((e.1 == 2) = true),(NT 0 1),(NT 0 1),(NT 0 1),Con Tryz.prog 36 0 [] [.p (.int .i64 e.2.1), .p (.int .i64 e.2.2.1)] [] (.agg [.p (.int .i64 x.1), .p (.int .i64 x.2.1)]),Con Tryz.prog 35 0 [] [.p (.seq true 2 v.1.1.2.1.1 (fun i => [.int .i64 ((v.1.1.2.1.2 i).1), .int .i64 ((v.1.1.2.1.2 i).2.1)])), .agg [.p (.int .i64 x.1), .p (.int .i64 x.2.1)]] [] (.p (.int .i64 k)),((decide (k ≥ 0)) = true),(NT 0 1),Con Tryz.prog 37 0 [] [(zf23 v), .p (.int .i64 k)] (zf31 p) ((zf128 p)),(NT 0 1),((true = true) →  (AN 1)),(NT 0 1),(NT 0 1),(AN 2),(NL 1 1),Con Tryz.prog 34 0 [] [.p (.str (ByteArray.mk #[98, 114, 101, 97, 107])), .p (.seq true 2 1 (fun i => [.int .i64 e.2.1, .int .i64 e.2.2.1]))] [] (.p (.str s)),((!true) = false),(NT 0 1),(AN 2),(NL p.1.2.1.1 p.1.2.1.1),(AN 1),(NL p.2.1.1 p.2.1.1),Con Tryz.prog 40 0 [] [(zf26 p)] (zf31 p) ((zf128 p)),(NT 0 1),((true = true) →  (AN 1)),(NT 0 1),(NL 1 1),(NL v.2.1.1 v.2.1.1),(NL ((v.2.1.1 + 1) * 16) 140737488355328),(NL (v.2.1.1 + 1) 9223372036854775807),(NT 0 1),((true = true) →  (AN 1)),(NT 0 1),(NT 0 1),((true = true) →  (AN 1)),(NT 0 1),(AI p.1.1),(AN 0),(AN p.1.2.1.1),(AN 0),(AN p.2.1.1),(AN 0),(AN ((v.2.1.1 + 1))),(true = true),(AN 2),(NL p.1.2.1.1 p.1.2.1.1),(AA p.1.2.1.1 (fun i => [.p (.int .i64 ((p.1.2.1.2 i).1)), .p (.int .i64 ((p.1.2.1.2 i).2.1))])),(AN 1),(NL p.2.1.1 p.2.1.1),(AA p.2.1.1 (fun i => [.p (.int .i64 (p.2.1.2 i))])),(AN 1),(NL (v.2.1.1 + 1) (v.2.1.1 + 1)),(CV [(64, ⟨true, 4, 1, (fun i_1 => [.p (.int .i64 p.1.1), .ar 2 1824 0 p.1.2.1.1, .ar 1 1825 0 p.2.1.1, .ar 1 2048 0 (v.2.1.1 + 1)])⟩), (192, ⟨true, 4, 1, (fun i_1 => [.p (.int .i64 p.1.1), .ar 2 1824 0 p.1.2.1.1, .ar 1 1825 0 p.2.1.1, .ar 1 2048 0 (v.2.1.1 + 1)])⟩), (2048, ⟨false, 1, (v.2.1.1 + 1), (fun i_1 => (if (i_1 < v.2.1.1) then [.p (.str (v.2.1.2 i_1))] else [.p (.str s)]))⟩), (2016, ⟨false, 1, 1, (fun i_1 => [.p (.str s)])⟩), (1825, ⟨false, 1, p.2.1.1, (fun i_1 => [.p (.int .i64 (p.2.1.2 i_1))])⟩), (1824, ⟨false, 2, p.1.2.1.1, (fun i_1 => [.p (.int .i64 ((p.1.2.1.2 i_1).1)), .p (.int .i64 ((p.1.2.1.2 i_1).2.1))])⟩), (1632, ⟨false, 2, 1, (fun i_1 => [.p (.int .i64 e.2.1), .p (.int .i64 e.2.2.1)])⟩), (608, ⟨true, 3, 1, (fun i_1 => [.p (.int .i64 p.1.1), .ar 2 1376 0 p.1.2.1.1, .ar 1 1377 0 p.2.1.1])⟩), (1377, ⟨false, 1, p.2.1.1, (fun i_1 => [.p (.int .i64 (p.2.1.2 i_1))])⟩), (1376, ⟨false, 2, p.1.2.1.1, (fun i_1 => [.p (.int .i64 ((p.1.2.1.2 i_1).1)), .p (.int .i64 ((p.1.2.1.2 i_1).2.1))])⟩), (161, ⟨false, 1, v.1.2.1.1, (fun i_1 => [.p (.int .i64 (v.1.2.1.2 i_1))])⟩), (160, ⟨false, 2, v.1.1.2.1.1, (fun i_1 => [.p (.int .i64 ((v.1.1.2.1.2 i_1).1)), .p (.int .i64 ((v.1.1.2.1.2 i_1).2.1))])⟩), (32, ⟨true, 3, 1, (fun i_1 => [.p (.int .i64 e.1), .p (.int .i64 e.2.1), .p (.int .i64 e.2.2.1)])⟩), (0, ⟨true, 4, 1, (fun i_1 => [.p (.int .i64 v.1.1.1), .p (.seq true 2 v.1.1.2.1.1 (fun i_2 => [.int .i64 ((v.1.1.2.1.2 i_2).1), .int .i64 ((v.1.1.2.1.2 i_2).2.1)])), .p (.seq true 1 v.1.2.1.1 (fun i_2 => [.int .i64 (v.1.2.1.2 i_2)])), .p (.seq true 1 v.2.1.1 (fun i_2 => [.str (v.2.1.2 i_2)]))])⟩)] [1824, 1825, 2048] 1 (v.2.1.1 + 1) (fun i => if (i < v.2.1.1) then [.p (.str (v.2.1.2 i))] else [.p (.str s)]) (fun i => [.p (.str ((v.2.1.1 + 1, snTx v.2.1.1 v.2.1.2 s).2 i))])),(AE p.1.2.1.1),(AE p.2.1.1),(AE ((v.2.1.1 + 1)))] := by kernel_rfl
theorem aI2f (v : T_Site) (e : T_Event) (s : ByteArray) (x : T_Bar) (k : Int) :
    pathOb Tryz.prog Tryz.f9 0 [rg 4, rm [(1, oc (siH v) (siV v))] 2, rm [(1, oc [] (.p (.bool true)))] 7, .dec false, rg 4, rg 1, rg 1, rg 2, rg 2, .dec false, rg 2, .dec true, rm [(7, oc [] (.agg [.p (.int .i64 x.1), .p (.int .i64 x.2.1)])), (0, oc [] (.p (.int .i64 k)))] 1, rg 2, .dec false, rm [(6, oc [] (.p (.str s)))] 1, rg 2, .dec true, rg 3] [.code (bodyOf Tryz.f9)] (start Tryz.f9 [] 0 [siA v, evtA e]) [160, 161, 162] 1 (siH v) (.tup [siV v, .p (.bool false)]) =
    some [(NT 0 1),Con Tryz.prog 31 0 [] [(zf16 v)] (zf17 v) ((zf117 v)),(NT 0 1),((true = true) →  (AN 1)),(NT 0 1),Con Tryz.prog 32 0 [] [(zf16 v)] [] (.p (.bool true)),(AG (!!true)),(((!!true) = true) → (NT 0 1)),(AG (!!true)),(AG (!!true)),(((!true) = false) →  ((!!true) = true)),((bif !true then true else (↑v.2.1.1 : Int) == 20) = false),(NT 0 1),(NT 0 1),((true = true) →  (AN 1)),(NT 0 1),((e.1 == 1) = false),((e.1 == 2) = true),(NT 0 1),(NT 0 1),(NT 0 1),Con Tryz.prog 36 0 [] [.p (.int .i64 e.2.1), .p (.int .i64 e.2.2.1)] [] (.agg [.p (.int .i64 x.1), .p (.int .i64 x.2.1)]),Con Tryz.prog 35 0 [] [.p (.seq true 2 v.1.1.2.1.1 (fun i => [.int .i64 ((v.1.1.2.1.2 i).1), .int .i64 ((v.1.1.2.1.2 i).2.1)])), .agg [.p (.int .i64 x.1), .p (.int .i64 x.2.1)]] [] (.p (.int .i64 k)),((decide (k ≥ 0)) = false),(NT 0 1),(NT 0 1),(AN 2),(NL 1 1),Con Tryz.prog 34 0 [] [.p (.str (ByteArray.mk #[98, 114, 101, 97, 107])), .p (.seq true 2 1 (fun i => [.int .i64 e.2.1, .int .i64 e.2.2.1]))] [] (.p (.str s)),((!false) = true),(NT 0 1),(NT 0 1),((true = true) →  (AN 1)),(NT 0 1),(AI v.1.1.1),(AN 0),(AN v.1.1.2.1.1),(AN 0),(AN v.1.2.1.1),(AN 0),(AN v.2.1.1),(false = false),(AN 2),(NL v.1.1.2.1.1 v.1.1.2.1.1),(AA v.1.1.2.1.1 (fun i => [.p (.int .i64 ((v.1.1.2.1.2 i).1)), .p (.int .i64 ((v.1.1.2.1.2 i).2.1))])),(AN 1),(NL v.1.2.1.1 v.1.2.1.1),(AA v.1.2.1.1 (fun i => [.p (.int .i64 (v.1.2.1.2 i))])),(AN 1),(NL v.2.1.1 v.2.1.1),(AA v.2.1.1 (fun i => [.p (.str (v.2.1.2 i))])),(AE v.1.1.2.1.1),(AE v.1.2.1.1),(AE v.2.1.1)] := by kernel_rfl
theorem aI3t (v : T_Site) (e : T_Event) (s : ByteArray) :
    pathOb Tryz.prog Tryz.f9 0 [rg 4, rm [(1, oc (siH v) (siV v))] 2, rm [(1, oc [] (.p (.bool true)))] 7, .dec false, rg 4, rg 1, rg 1, rg 2, rg 2, .dec false, rg 2, .dec false, rg 2, .dec true, rg 9, rm [(1, oc [] (.p (.str s)))] 1, rg 2, .dec false, rm [(1, oc (piH v.1) (piV v.1))] 2, rg 7, rg 3] [.code (bodyOf Tryz.f9)] (start Tryz.f9 [] 0 [siA v, evtA e]) [1472, 1473, 1696] 1 (siH (v.1, (v.2.1.1 + 1, snTx v.2.1.1 v.2.1.2 s), ())) (.tup [siV (v.1, (v.2.1.1 + 1, snTx v.2.1.1 v.2.1.2 s), ()), .p (.bool true)]) =
    some [(NT 0 1),Con Tryz.prog 31 0 [] [(zf16 v)] (zf17 v) ((zf117 v)),(NT 0 1),((true = true) →  (AN 1)),(NT 0 1),Con Tryz.prog 32 0 [] [(zf16 v)] [] (.p (.bool true)),(AG (!!true)),(((!!true) = true) → (NT 0 1)),(AG (!!true)),(AG (!!true)),(((!true) = false) →  ((!!true) = true)),((bif !true then true else (↑v.2.1.1 : Int) == 20) = false),(NT 0 1),(NT 0 1),((true = true) →  (AN 1)),(NT 0 1),((e.1 == 1) = false),((e.1 == 2) = false),((e.1 == 3) = true),(NT 0 1),(AG (e.2.1 == 0)),(((e.2.1 == 0) = true) → (NT 0 1)),(AG (e.2.1 == 0)),(AG (e.2.1 == 0)),(NT 0 1),Con Tryz.prog 38 0 [] [(zf23 v)] [] (.p (.str s)),((!bif e.2.1 == 0 then e.2.2.1 == 0 else false) = false),(NT 0 1),Con Tryz.prog 40 0 [] [(zf23 v)] (zf28 v) ((zf123 v)),(NT 0 1),((true = true) →  (AN 1)),(NT 0 1),(NL 1 1),(NL v.2.1.1 v.2.1.1),(NL ((v.2.1.1 + 1) * 16) 140737488355328),(NL (v.2.1.1 + 1) 9223372036854775807),(NT 0 1),((true = true) →  (AN 1)),(NT 0 1),(NT 0 1),((true = true) →  (AN 1)),(NT 0 1),(AI v.1.1.1),(AN 0),(AN v.1.1.2.1.1),(AN 0),(AN v.1.2.1.1),(AN 0),(AN ((v.2.1.1 + 1))),(true = true),(AN 2),(NL v.1.1.2.1.1 v.1.1.2.1.1),(AA v.1.1.2.1.1 (fun i => [.p (.int .i64 ((v.1.1.2.1.2 i).1)), .p (.int .i64 ((v.1.1.2.1.2 i).2.1))])),(AN 1),(NL v.1.2.1.1 v.1.2.1.1),(AA v.1.2.1.1 (fun i => [.p (.int .i64 (v.1.2.1.2 i))])),(AN 1),(NL (v.2.1.1 + 1) (v.2.1.1 + 1)),(CV [(64, ⟨true, 4, 1, (fun i_1 => [.p (.int .i64 v.1.1.1), .ar 2 1472 0 v.1.1.2.1.1, .ar 1 1473 0 v.1.2.1.1, .ar 1 1696 0 (v.2.1.1 + 1)])⟩), (192, ⟨true, 4, 1, (fun i_1 => [.p (.int .i64 v.1.1.1), .ar 2 1472 0 v.1.1.2.1.1, .ar 1 1473 0 v.1.2.1.1, .ar 1 1696 0 (v.2.1.1 + 1)])⟩), (1696, ⟨false, 1, (v.2.1.1 + 1), (fun i_1 => (if (i_1 < v.2.1.1) then [.p (.str (v.2.1.2 i_1))] else [.p (.str s)]))⟩), (1664, ⟨false, 1, 1, (fun i_1 => [.p (.str s)])⟩), (1473, ⟨false, 1, v.1.2.1.1, (fun i_1 => [.p (.int .i64 (v.1.2.1.2 i_1))])⟩), (1472, ⟨false, 2, v.1.1.2.1.1, (fun i_1 => [.p (.int .i64 ((v.1.1.2.1.2 i_1).1)), .p (.int .i64 ((v.1.1.2.1.2 i_1).2.1))])⟩), (608, ⟨true, 3, 1, (fun i_1 => [.p (.int .i64 v.1.1.1), .p (.seq true 2 v.1.1.2.1.1 (fun i_2 => [.int .i64 ((v.1.1.2.1.2 i_2).1), .int .i64 ((v.1.1.2.1.2 i_2).2.1)])), .p (.seq true 1 v.1.2.1.1 (fun i_2 => [.int .i64 (v.1.2.1.2 i_2)]))])⟩), (161, ⟨false, 1, v.1.2.1.1, (fun i_1 => [.p (.int .i64 (v.1.2.1.2 i_1))])⟩), (160, ⟨false, 2, v.1.1.2.1.1, (fun i_1 => [.p (.int .i64 ((v.1.1.2.1.2 i_1).1)), .p (.int .i64 ((v.1.1.2.1.2 i_1).2.1))])⟩), (32, ⟨true, 3, 1, (fun i_1 => [.p (.int .i64 e.1), .p (.int .i64 e.2.1), .p (.int .i64 e.2.2.1)])⟩), (0, ⟨true, 4, 1, (fun i_1 => [.p (.int .i64 v.1.1.1), .p (.seq true 2 v.1.1.2.1.1 (fun i_2 => [.int .i64 ((v.1.1.2.1.2 i_2).1), .int .i64 ((v.1.1.2.1.2 i_2).2.1)])), .p (.seq true 1 v.1.2.1.1 (fun i_2 => [.int .i64 (v.1.2.1.2 i_2)])), .p (.seq true 1 v.2.1.1 (fun i_2 => [.str (v.2.1.2 i_2)]))])⟩)] [1472, 1473, 1696] 1 (v.2.1.1 + 1) (fun i => if (i < v.2.1.1) then [.p (.str (v.2.1.2 i))] else [.p (.str s)]) (fun i => [.p (.str ((v.2.1.1 + 1, snTx v.2.1.1 v.2.1.2 s).2 i))])),(AE v.1.1.2.1.1),(AE v.1.2.1.1),(AE ((v.2.1.1 + 1)))] := by kernel_rfl
theorem aI3f (v : T_Site) (e : T_Event) (s : ByteArray) :
    pathOb Tryz.prog Tryz.f9 0 [rg 4, rm [(1, oc (siH v) (siV v))] 2, rm [(1, oc [] (.p (.bool true)))] 7, .dec false, rg 4, rg 1, rg 1, rg 2, rg 2, .dec false, rg 2, .dec false, rg 2, .dec true, rg 9, rm [(1, oc [] (.p (.str s)))] 1, rg 2, .dec true, rg 3] [.code (bodyOf Tryz.f9)] (start Tryz.f9 [] 0 [siA v, evtA e]) [160, 161, 162] 1 (siH v) (.tup [siV v, .p (.bool false)]) =
    some [(NT 0 1),Con Tryz.prog 31 0 [] [(zf16 v)] (zf17 v) ((zf117 v)),(NT 0 1),((true = true) →  (AN 1)),(NT 0 1),Con Tryz.prog 32 0 [] [(zf16 v)] [] (.p (.bool true)),(AG (!!true)),(((!!true) = true) → (NT 0 1)),(AG (!!true)),(AG (!!true)),(((!true) = false) →  ((!!true) = true)),((bif !true then true else (↑v.2.1.1 : Int) == 20) = false),(NT 0 1),(NT 0 1),((true = true) →  (AN 1)),(NT 0 1),((e.1 == 1) = false),((e.1 == 2) = false),((e.1 == 3) = true),(NT 0 1),(AG (e.2.1 == 0)),(((e.2.1 == 0) = true) → (NT 0 1)),(AG (e.2.1 == 0)),(AG (e.2.1 == 0)),(NT 0 1),Con Tryz.prog 38 0 [] [(zf23 v)] [] (.p (.str s)),((!bif e.2.1 == 0 then e.2.2.1 == 0 else false) = true),(NT 0 1),(NT 0 1),((true = true) →  (AN 1)),(NT 0 1),(AI v.1.1.1),(AN 0),(AN v.1.1.2.1.1),(AN 0),(AN v.1.2.1.1),(AN 0),(AN v.2.1.1),(false = false),(AN 2),(NL v.1.1.2.1.1 v.1.1.2.1.1),(AA v.1.1.2.1.1 (fun i => [.p (.int .i64 ((v.1.1.2.1.2 i).1)), .p (.int .i64 ((v.1.1.2.1.2 i).2.1))])),(AN 1),(NL v.1.2.1.1 v.1.2.1.1),(AA v.1.2.1.1 (fun i => [.p (.int .i64 (v.1.2.1.2 i))])),(AN 1),(NL v.2.1.1 v.2.1.1),(AA v.2.1.1 (fun i => [.p (.str (v.2.1.2 i))])),(AE v.1.1.2.1.1),(AE v.1.2.1.1),(AE v.2.1.1)] := by kernel_rfl
theorem aI4t (v : T_Site) (e : T_Event) (p : T_Pinned) (s : ByteArray) (n : Nat) (h : Nat → T_Bar) (b : Bool) :
    pathOb Tryz.prog Tryz.f9 0 [rg 4, rm [(1, oc (siH v) (siV v))] 2, rm [(1, oc [] (.p (.bool true)))] 7, .dec false, rg 4, rg 1, rg 1, rg 2, rg 2, .dec false, rg 2, .dec false, rg 2, .dec false, rg 2, .dec true, rm [(1, oc [(0, brOb n h)] (.tup [.ar 2 0 0 n, .p (.bool b)]))] 5, rg 11, .dec true, rm [(2, oc (piH p) (.tup [piV p, .p (.bool true)]))] 5, rm [(1, oc [] (.p (.str s)))] 1, rg 2, .dec false, rm [(1, oc (piH p) (piV p))] 2, rg 7, rg 3] [.code (bodyOf Tryz.f9)] (start Tryz.f9 [] 0 [siA v, evtA e]) [2080, 2081, 2304] 1 (siH (p, (v.2.1.1 + 1, snTx v.2.1.1 v.2.1.2 s), ())) (.tup [siV (p, (v.2.1.1 + 1, snTx v.2.1.1 v.2.1.2 s), ()), .p (.bool true)]) =
    some [(NT 0 1),Con Tryz.prog 31 0 [] [(zf16 v)] (zf17 v) ((zf117 v)),(NT 0 1),((true = true) →  (AN 1)),(NT 0 1),Con Tryz.prog 32 0 [] [(zf16 v)] [] (.p (.bool true)),(AG (!!true)),(((!!true) = true) → (NT 0 1)),(AG (!!true)),(AG (!!true)),(((!true) = false) →  ((!!true) = true)),((bif !true then true else (↑v.2.1.1 : Int) == 20) = false),(NT 0 1),(NT 0 1),((true = true) →  (AN 1)),(NT 0 1),((e.1 == 1) = false),((e.1 == 2) = false),((e.1 == 3) = false),((e.1 == 4) = true),(NT 0 1),Con Tryz.prog 39 0 [] [(zf23 v)] (zf121 n h) (.tup [.ar 2 0 0 n, .p (.bool b)]),(AG b),((b = true) → (NT 0 1)),(AG b),(AG b),(AG (bif b then e.2.1 == 0 else false)),(((bif b then e.2.1 == 0 else false) = true) → (NT 0 1)),(AG (bif b then e.2.1 == 0 else false)),(AG (bif b then e.2.1 == 0 else false)),((bif bif b then e.2.1 == 0 else false then e.2.2.1 == 0 else false) = true),(NT 0 1),(AN 2),(NL n n),Con Tryz.prog 33 0 [] [(zf23 v), .p (.seq true 2 n (fun i => [.int .i64 ((h i).1), .int .i64 ((h i).2.1)]))] (zf31 p) ((zf119 p)),(NT 0 1),((true = true) →  (AN 1)),(AN 2),(NL n n),Con Tryz.prog 34 0 [] [.p (.str (ByteArray.mk #[114, 101, 112, 97, 105, 114])), .p (.seq true 2 n (fun i => [.int .i64 ((h i).1), .int .i64 ((h i).2.1)]))] [] (.p (.str s)),((!true) = false),(NT 0 1),(AN 2),(NL p.1.2.1.1 p.1.2.1.1),(AN 1),(NL p.2.1.1 p.2.1.1),Con Tryz.prog 40 0 [] [(zf26 p)] (zf31 p) ((zf128 p)),(NT 0 1),((true = true) →  (AN 1)),(NT 0 1),(NL 1 1),(NL v.2.1.1 v.2.1.1),(NL ((v.2.1.1 + 1) * 16) 140737488355328),(NL (v.2.1.1 + 1) 9223372036854775807),(NT 0 1),((true = true) →  (AN 1)),(NT 0 1),(NT 0 1),((true = true) →  (AN 1)),(NT 0 1),(AI p.1.1),(AN 0),(AN p.1.2.1.1),(AN 0),(AN p.2.1.1),(AN 0),(AN ((v.2.1.1 + 1))),(true = true),(AN 2),(NL p.1.2.1.1 p.1.2.1.1),(AA p.1.2.1.1 (fun i => [.p (.int .i64 ((p.1.2.1.2 i).1)), .p (.int .i64 ((p.1.2.1.2 i).2.1))])),(AN 1),(NL p.2.1.1 p.2.1.1),(AA p.2.1.1 (fun i => [.p (.int .i64 (p.2.1.2 i))])),(AN 1),(NL (v.2.1.1 + 1) (v.2.1.1 + 1)),(CV [(64, ⟨true, 4, 1, (fun i_1 => [.p (.int .i64 p.1.1), .ar 2 2080 0 p.1.2.1.1, .ar 1 2081 0 p.2.1.1, .ar 1 2304 0 (v.2.1.1 + 1)])⟩), (192, ⟨true, 4, 1, (fun i_1 => [.p (.int .i64 p.1.1), .ar 2 2080 0 p.1.2.1.1, .ar 1 2081 0 p.2.1.1, .ar 1 2304 0 (v.2.1.1 + 1)])⟩), (2304, ⟨false, 1, (v.2.1.1 + 1), (fun i_1 => (if (i_1 < v.2.1.1) then [.p (.str (v.2.1.2 i_1))] else [.p (.str s)]))⟩), (2272, ⟨false, 1, 1, (fun i_1 => [.p (.str s)])⟩), (2081, ⟨false, 1, p.2.1.1, (fun i_1 => [.p (.int .i64 (p.2.1.2 i_1))])⟩), (2080, ⟨false, 2, p.1.2.1.1, (fun i_1 => [.p (.int .i64 ((p.1.2.1.2 i_1).1)), .p (.int .i64 ((p.1.2.1.2 i_1).2.1))])⟩), (608, ⟨true, 3, 1, (fun i_1 => [.p (.int .i64 p.1.1), .ar 2 1696 0 p.1.2.1.1, .ar 1 1697 0 p.2.1.1])⟩), (1697, ⟨false, 1, p.2.1.1, (fun i_1 => [.p (.int .i64 (p.2.1.2 i_1))])⟩), (1696, ⟨false, 2, p.1.2.1.1, (fun i_1 => [.p (.int .i64 ((p.1.2.1.2 i_1).1)), .p (.int .i64 ((p.1.2.1.2 i_1).2.1))])⟩), (1088, ⟨false, 2, n, (fun i_1 => [.p (.int .i64 ((h i_1).1)), .p (.int .i64 ((h i_1).2.1))])⟩), (161, ⟨false, 1, v.1.2.1.1, (fun i_1 => [.p (.int .i64 (v.1.2.1.2 i_1))])⟩), (160, ⟨false, 2, v.1.1.2.1.1, (fun i_1 => [.p (.int .i64 ((v.1.1.2.1.2 i_1).1)), .p (.int .i64 ((v.1.1.2.1.2 i_1).2.1))])⟩), (32, ⟨true, 3, 1, (fun i_1 => [.p (.int .i64 e.1), .p (.int .i64 e.2.1), .p (.int .i64 e.2.2.1)])⟩), (0, ⟨true, 4, 1, (fun i_1 => [.p (.int .i64 v.1.1.1), .p (.seq true 2 v.1.1.2.1.1 (fun i_2 => [.int .i64 ((v.1.1.2.1.2 i_2).1), .int .i64 ((v.1.1.2.1.2 i_2).2.1)])), .p (.seq true 1 v.1.2.1.1 (fun i_2 => [.int .i64 (v.1.2.1.2 i_2)])), .p (.seq true 1 v.2.1.1 (fun i_2 => [.str (v.2.1.2 i_2)]))])⟩)] [2080, 2081, 2304] 1 (v.2.1.1 + 1) (fun i => if (i < v.2.1.1) then [.p (.str (v.2.1.2 i))] else [.p (.str s)]) (fun i => [.p (.str ((v.2.1.1 + 1, snTx v.2.1.1 v.2.1.2 s).2 i))])),(AE p.1.2.1.1),(AE p.2.1.1),(AE ((v.2.1.1 + 1)))] := by kernel_rfl
theorem aI4f (v : T_Site) (e : T_Event) (s : ByteArray) (n : Nat) (h : Nat → T_Bar) (b : Bool) :
    pathOb Tryz.prog Tryz.f9 0 [rg 4, rm [(1, oc (siH v) (siV v))] 2, rm [(1, oc [] (.p (.bool true)))] 7, .dec false, rg 4, rg 1, rg 1, rg 2, rg 2, .dec false, rg 2, .dec false, rg 2, .dec false, rg 2, .dec true, rm [(1, oc [(0, brOb n h)] (.tup [.ar 2 0 0 n, .p (.bool b)]))] 5, rg 11, .dec false, rm [(1, oc [] (.p (.str s)))] 1, rg 2, .dec true, rg 3] [.code (bodyOf Tryz.f9)] (start Tryz.f9 [] 0 [siA v, evtA e]) [160, 161, 162] 1 (siH v) (.tup [siV v, .p (.bool false)]) =
    some [(NT 0 1),Con Tryz.prog 31 0 [] [(zf16 v)] (zf17 v) ((zf117 v)),(NT 0 1),((true = true) →  (AN 1)),(NT 0 1),Con Tryz.prog 32 0 [] [(zf16 v)] [] (.p (.bool true)),(AG (!!true)),(((!!true) = true) → (NT 0 1)),(AG (!!true)),(AG (!!true)),(((!true) = false) →  ((!!true) = true)),((bif !true then true else (↑v.2.1.1 : Int) == 20) = false),(NT 0 1),(NT 0 1),((true = true) →  (AN 1)),(NT 0 1),((e.1 == 1) = false),((e.1 == 2) = false),((e.1 == 3) = false),((e.1 == 4) = true),(NT 0 1),Con Tryz.prog 39 0 [] [(zf23 v)] (zf121 n h) (.tup [.ar 2 0 0 n, .p (.bool b)]),(AG b),((b = true) → (NT 0 1)),(AG b),(AG b),(AG (bif b then e.2.1 == 0 else false)),(((bif b then e.2.1 == 0 else false) = true) → (NT 0 1)),(AG (bif b then e.2.1 == 0 else false)),(AG (bif b then e.2.1 == 0 else false)),((bif bif b then e.2.1 == 0 else false then e.2.2.1 == 0 else false) = false),(AN 2),(NL n n),Con Tryz.prog 34 0 [] [.p (.str (ByteArray.mk #[114, 101, 112, 97, 105, 114])), .p (.seq true 2 n (fun i => [.int .i64 ((h i).1), .int .i64 ((h i).2.1)]))] [] (.p (.str s)),((!false) = true),(NT 0 1),(NT 0 1),((true = true) →  (AN 1)),(NT 0 1),(AI v.1.1.1),(AN 0),(AN v.1.1.2.1.1),(AN 0),(AN v.1.2.1.1),(AN 0),(AN v.2.1.1),(false = false),(AN 2),(NL v.1.1.2.1.1 v.1.1.2.1.1),(AA v.1.1.2.1.1 (fun i => [.p (.int .i64 ((v.1.1.2.1.2 i).1)), .p (.int .i64 ((v.1.1.2.1.2 i).2.1))])),(AN 1),(NL v.1.2.1.1 v.1.2.1.1),(AA v.1.2.1.1 (fun i => [.p (.int .i64 (v.1.2.1.2 i))])),(AN 1),(NL v.2.1.1 v.2.1.1),(AA v.2.1.1 (fun i => [.p (.str (v.2.1.2 i))])),(AE v.1.1.2.1.1),(AE v.1.2.1.1),(AE v.2.1.1)] := by kernel_rfl
theorem aI5 (v : T_Site) (e : T_Event) :
    pathOb Tryz.prog Tryz.f9 0 [rg 4, rm [(1, oc (siH v) (siV v))] 2, rm [(1, oc [] (.p (.bool true)))] 7, .dec false, rg 4, rg 1, rg 1, rg 2, rg 2, .dec false, rg 2, .dec false, rg 2, .dec false, rg 2, .dec false, rg 2, .dec true, rg 3] [.code (bodyOf Tryz.f9)] (start Tryz.f9 [] 0 [siA v, evtA e]) [160, 161, 162] 1 (siH v) (.tup [siV v, .p (.bool false)]) =
    some [(NT 0 1),Con Tryz.prog 31 0 [] [(zf16 v)] (zf17 v) ((zf117 v)),(NT 0 1),((true = true) →  (AN 1)),(NT 0 1),Con Tryz.prog 32 0 [] [(zf16 v)] [] (.p (.bool true)),(AG (!!true)),(((!!true) = true) → (NT 0 1)),(AG (!!true)),(AG (!!true)),(((!true) = false) →  ((!!true) = true)),((bif !true then true else (↑v.2.1.1 : Int) == 20) = false),(NT 0 1),(NT 0 1),((true = true) →  (AN 1)),(NT 0 1),((e.1 == 1) = false),((e.1 == 2) = false),((e.1 == 3) = false),((e.1 == 4) = false),((!false) = true),(NT 0 1),(NT 0 1),((true = true) →  (AN 1)),(NT 0 1),(AI v.1.1.1),(AN 0),(AN v.1.1.2.1.1),(AN 0),(AN v.1.2.1.1),(AN 0),(AN v.2.1.1),(false = false),(AN 2),(NL v.1.1.2.1.1 v.1.1.2.1.1),(AA v.1.1.2.1.1 (fun i => [.p (.int .i64 ((v.1.1.2.1.2 i).1)), .p (.int .i64 ((v.1.1.2.1.2 i).2.1))])),(AN 1),(NL v.1.2.1.1 v.1.2.1.1),(AA v.1.2.1.1 (fun i => [.p (.int .i64 (v.1.2.1.2 i))])),(AN 1),(NL v.2.1.1 v.2.1.1),(AA v.2.1.1 (fun i => [.p (.str (v.2.1.2 i))])),(AE v.1.1.2.1.1),(AE v.1.2.1.1),(AE v.2.1.1)] := by kernel_rfl
theorem aSy (v : T_Site) (e : T_Event) (b : Bool) :
    pathOb Tryz.prog Tryz.f6 0 [rg 4, rm [(1, oc (siH v) (siV v))] 2, rm [(1, oc [] (.p (.bool b)))] 7, .dec true, rg 3] [.code (bodyOf Tryz.f6)] (start Tryz.f6 [] 0 [siA v, evtA e]) [160, 161, 162] 1 (siH v) (.tup [siV v, .p (.bool false)]) =
    some [(NT 0 1),Con Tryz.prog 21 0 [] [(zf16 v)] (zf17 v) ((zf117 v)),(NT 0 1),((true = true) →  (AN 1)),(NT 0 1),Con Tryz.prog 22 0 [] [(zf16 v)] [] (.p (.bool b)),(AG (!!b)),(((!!b) = true) → (NT 0 1)),(AG (!!b)),(AG (!!b)),(((!b) = false) →  ((!!b) = true)),((bif !b then true else decide ((↑v.2.1.1 : Int) ≥ 20)) = true),(NT 0 1),(NT 0 1),((true = true) →  (AN 1)),(NT 0 1),(AI v.1.1.1),(AN 0),(AN v.1.1.2.1.1),(AN 0),(AN v.1.2.1.1),(AN 0),(AN v.2.1.1),(false = false),(AN 2),(NL v.1.1.2.1.1 v.1.1.2.1.1),(AA v.1.1.2.1.1 (fun i => [.p (.int .i64 ((v.1.1.2.1.2 i).1)), .p (.int .i64 ((v.1.1.2.1.2 i).2.1))])),(AN 1),(NL v.1.2.1.1 v.1.2.1.1),(AA v.1.2.1.1 (fun i => [.p (.int .i64 (v.1.2.1.2 i))])),(AN 1),(NL v.2.1.1 v.2.1.1),(AA v.2.1.1 (fun i => [.p (.str (v.2.1.2 i))])),(AE v.1.1.2.1.1),(AE v.1.2.1.1),(AE v.2.1.1)] := by kernel_rfl
theorem aS1t (v : T_Site) (e : T_Event) (p : T_Pinned) (s : ByteArray) :
    pathOb Tryz.prog Tryz.f6 0 [rg 4, rm [(1, oc (siH v) (siV v))] 2, rm [(1, oc [] (.p (.bool true)))] 7, .dec false, rg 2, rg 2, .dec true, rm [(8, oc (piH p) (.tup [piV p, .p (.bool true)]))] 6, rg 2, .dec false, rg 3, rm [(14, oc [] (.p (.str s)))] 5, rg 3] [.code (bodyOf Tryz.f6)] (start Tryz.f6 [] 0 [siA v, evtA e]) [928, 929, 1856] 1 (siH (p, (v.2.1.1 + 1, snTx v.2.1.1 v.2.1.2 (kAdd ++ s)), ())) (.tup [siV (p, (v.2.1.1 + 1, snTx v.2.1.1 v.2.1.2 (kAdd ++ s)), ()), .p (.bool true)]) =
    some [(NT 0 1),Con Tryz.prog 21 0 [] [(zf16 v)] (zf17 v) ((zf117 v)),(NT 0 1),((true = true) →  (AN 1)),(NT 0 1),Con Tryz.prog 22 0 [] [(zf16 v)] [] (.p (.bool true)),(AG (!!true)),(((!!true) = true) → (NT 0 1)),(AG (!!true)),(AG (!!true)),(((!true) = false) →  ((!!true) = true)),((bif !true then true else decide ((↑v.2.1.1 : Int) ≥ 20)) = false),(NT 0 1),((e.1 == 1) = true),(NT 0 1),(NT 0 1),(NT 0 1),(AN 2),(NL 1 1),Con Tryz.prog 23 0 [] [(zf23 v), .p (.seq true 2 1 (fun i => [.int .i64 e.2.1, .int .i64 e.2.2.1]))] (zf31 p) ((zf119 p)),(NT 0 1),((true = true) →  (AN 1)),((!true) = false),(NT 0 1),(NT 0 1),((true = true) →  (AN 1)),(NT 0 1),(NT 0 1),(NT 0 1),(NT 0 1),(NT 0 1),(AN 2),(NL 1 1),Con Tryz.prog 24 0 [] [.p (.seq true 2 1 (fun i => [.int .i64 (if false = true then if e.2.2.1 > e.2.1 then e.2.2.1 else e.2.1 else if e.2.2.1 < e.2.1 then e.2.2.1 else e.2.1), .int .i64 (if true = true then if e.2.2.1 > e.2.1 then e.2.2.1 else e.2.1 else if e.2.2.1 < e.2.1 then e.2.2.1 else e.2.1)]))] [] (.p (.str s)),(NL ((ByteArray.mk #[97, 100, 100]).size + s.size) 9223372036854775807),(NL 1 1),(NL v.2.1.1 v.2.1.1),(NL ((v.2.1.1 + 1) * 16) 140737488355328),(NL (v.2.1.1 + 1) 9223372036854775807),(NT 0 1),((true = true) →  (AN 1)),(NT 0 1),(NT 0 1),((true = true) →  (AN 1)),(NT 0 1),(AI p.1.1),(AN 0),(AN p.1.2.1.1),(AN 0),(AN p.2.1.1),(AN 0),(AN ((v.2.1.1 + 1))),(true = true),(AN 2),(NL p.1.2.1.1 p.1.2.1.1),(AA p.1.2.1.1 (fun i => [.p (.int .i64 ((p.1.2.1.2 i).1)), .p (.int .i64 ((p.1.2.1.2 i).2.1))])),(AN 1),(NL p.2.1.1 p.2.1.1),(AA p.2.1.1 (fun i => [.p (.int .i64 (p.2.1.2 i))])),(AN 1),(NL (v.2.1.1 + 1) (v.2.1.1 + 1)),(CV [(64, ⟨true, 4, 1, (fun i_1 => [.p (.int .i64 p.1.1), .ar 2 928 0 p.1.2.1.1, .ar 1 929 0 p.2.1.1, .ar 1 1856 0 (v.2.1.1 + 1)])⟩), (192, ⟨true, 4, 1, (fun i_1 => [.p (.int .i64 p.1.1), .ar 2 928 0 p.1.2.1.1, .ar 1 929 0 p.2.1.1, .ar 1 1856 0 (v.2.1.1 + 1)])⟩), (1856, ⟨false, 1, (v.2.1.1 + 1), (fun i_1 => (if (i_1 < v.2.1.1) then [.p (.str (v.2.1.2 i_1))] else [.p (.str (ByteArray.mk #[97, 100, 100] ++ s))]))⟩), (1824, ⟨false, 1, 1, (fun i_1 => [.p (.str (ByteArray.mk #[97, 100, 100] ++ s))])⟩), (1728, ⟨false, 2, 1, (fun i_1 => [.p (.int .i64 (if false = true then if e.2.2.1 > e.2.1 then e.2.2.1 else e.2.1 else if e.2.2.1 < e.2.1 then e.2.2.1 else e.2.1)), .p (.int .i64 (if true = true then if e.2.2.1 > e.2.1 then e.2.2.1 else e.2.1 else if e.2.2.1 < e.2.1 then e.2.2.1 else e.2.1))])⟩), (1056, ⟨true, 3, 1, (fun i_1 => [.p (.int .i64 p.1.1), .ar 2 928 0 p.1.2.1.1, .ar 1 929 0 p.2.1.1])⟩), (929, ⟨false, 1, p.2.1.1, (fun i_1 => [.p (.int .i64 (p.2.1.2 i_1))])⟩), (928, ⟨false, 2, p.1.2.1.1, (fun i_1 => [.p (.int .i64 ((p.1.2.1.2 i_1).1)), .p (.int .i64 ((p.1.2.1.2 i_1).2.1))])⟩), (896, ⟨false, 2, 1, (fun i_1 => [.p (.int .i64 e.2.1), .p (.int .i64 e.2.2.1)])⟩), (161, ⟨false, 1, v.1.2.1.1, (fun i_1 => [.p (.int .i64 (v.1.2.1.2 i_1))])⟩), (160, ⟨false, 2, v.1.1.2.1.1, (fun i_1 => [.p (.int .i64 ((v.1.1.2.1.2 i_1).1)), .p (.int .i64 ((v.1.1.2.1.2 i_1).2.1))])⟩), (32, ⟨true, 3, 1, (fun i_1 => [.p (.int .i64 e.1), .p (.int .i64 e.2.1), .p (.int .i64 e.2.2.1)])⟩), (0, ⟨true, 4, 1, (fun i_1 => [.p (.int .i64 v.1.1.1), .p (.seq true 2 v.1.1.2.1.1 (fun i_2 => [.int .i64 ((v.1.1.2.1.2 i_2).1), .int .i64 ((v.1.1.2.1.2 i_2).2.1)])), .p (.seq true 1 v.1.2.1.1 (fun i_2 => [.int .i64 (v.1.2.1.2 i_2)])), .p (.seq true 1 v.2.1.1 (fun i_2 => [.str (v.2.1.2 i_2)]))])⟩)] [928, 929, 1856] 1 (v.2.1.1 + 1) (fun i => if (i < v.2.1.1) then [.p (.str (v.2.1.2 i))] else [.p (.str (ByteArray.mk #[97, 100, 100] ++ s))]) (fun i => [.p (.str ((v.2.1.1 + 1, snTx v.2.1.1 v.2.1.2 (kAdd ++ s)).2 i))])),(AE p.1.2.1.1),(AE p.2.1.1),(AE ((v.2.1.1 + 1)))] := by kernel_rfl
theorem aS1f (v : T_Site) (e : T_Event) (p : T_Pinned) :
    pathOb Tryz.prog Tryz.f6 0 [rg 4, rm [(1, oc (siH v) (siV v))] 2, rm [(1, oc [] (.p (.bool true)))] 7, .dec false, rg 2, rg 2, .dec true, rm [(8, oc (piH p) (.tup [piV p, .p (.bool false)]))] 6, rg 2, .dec true, rg 3] [.code (bodyOf Tryz.f6)] (start Tryz.f6 [] 0 [siA v, evtA e]) [160, 161, 162] 1 (siH v) (.tup [siV v, .p (.bool false)]) =
    some [(NT 0 1),Con Tryz.prog 21 0 [] [(zf16 v)] (zf17 v) ((zf117 v)),(NT 0 1),((true = true) →  (AN 1)),(NT 0 1),Con Tryz.prog 22 0 [] [(zf16 v)] [] (.p (.bool true)),(AG (!!true)),(((!!true) = true) → (NT 0 1)),(AG (!!true)),(AG (!!true)),(((!true) = false) →  ((!!true) = true)),((bif !true then true else decide ((↑v.2.1.1 : Int) ≥ 20)) = false),(NT 0 1),((e.1 == 1) = true),(NT 0 1),(NT 0 1),(NT 0 1),(AN 2),(NL 1 1),Con Tryz.prog 23 0 [] [(zf23 v), .p (.seq true 2 1 (fun i => [.int .i64 e.2.1, .int .i64 e.2.2.1]))] (zf31 p) (.tup [(zf128 p), .p (.bool false)]),(NT 0 1),((true = true) →  (AN 1)),((!false) = true),(NT 0 1),(NT 0 1),((true = true) →  (AN 1)),(NT 0 1),(AI v.1.1.1),(AN 0),(AN v.1.1.2.1.1),(AN 0),(AN v.1.2.1.1),(AN 0),(AN v.2.1.1),(false = false),(AN 2),(NL v.1.1.2.1.1 v.1.1.2.1.1),(AA v.1.1.2.1.1 (fun i => [.p (.int .i64 ((v.1.1.2.1.2 i).1)), .p (.int .i64 ((v.1.1.2.1.2 i).2.1))])),(AN 1),(NL v.1.2.1.1 v.1.2.1.1),(AA v.1.2.1.1 (fun i => [.p (.int .i64 (v.1.2.1.2 i))])),(AN 1),(NL v.2.1.1 v.2.1.1),(AA v.2.1.1 (fun i => [.p (.str (v.2.1.2 i))])),(AE v.1.1.2.1.1),(AE v.1.2.1.1),(AE v.2.1.1)] := by kernel_rfl
theorem aS2t (v : T_Site) (e : T_Event) (p : T_Pinned) (s : ByteArray) (k : Int) :
    pathOb Tryz.prog Tryz.f6 0 [rg 4, rm [(1, oc (siH v) (siV v))] 2, rm [(1, oc [] (.p (.bool true)))] 7, .dec false, rg 2, rg 2, .dec false, rg 2, .dec true, rm [(7, oc [] (.p (.int .i64 k)))] 1, rg 2, .dec false, rm [(3, oc (piH p) (piV p))] 2, rm [(10, oc [] (.p (.str s)))] 5, rg 3] [.code (bodyOf Tryz.f6)] (start Tryz.f6 [] 0 [siA v, evtA e]) [1184, 1185, 1696] 1 (siH (p, (v.2.1.1 + 1, snTx v.2.1.1 v.2.1.2 (kBreak ++ s)), ())) (.tup [siV (p, (v.2.1.1 + 1, snTx v.2.1.1 v.2.1.2 (kBreak ++ s)), ()), .p (.bool true)]) =
    some [(NT 0 1),Con Tryz.prog 21 0 [] [(zf16 v)] (zf17 v) ((zf117 v)),(NT 0 1),((true = true) →  (AN 1)),(NT 0 1),Con Tryz.prog 22 0 [] [(zf16 v)] [] (.p (.bool true)),(AG (!!true)),(((!!true) = true) → (NT 0 1)),(AG (!!true)),(AG (!!true)),(((!true) = false) →  ((!!true) = true)),((bif !true then true else decide ((↑v.2.1.1 : Int) ≥ 20)) = false),(NT 0 1),((e.1 == 1) = false),((e.1 == 2) = true),(NT 0 1),(NT 0 1),(NT 0 1),Con Tryz.prog 25 0 [] [(zf101 v), .p (.int .i64 e.2.1), .p (.int .i64 e.2.2.1)] [] (.p (.int .i64 k)),((decide (k < 0)) = false),(NT 0 1),Con Tryz.prog 26 0 [] [(zf23 v), .p (.int .i64 k)] (zf31 p) ((zf128 p)),(NT 0 1),((true = true) →  (AN 1)),(NT 0 1),(NT 0 1),(IL 0 k),(IT k (↑v.1.1.2.1.1 : Int)),(AN 2),(NL 1 1),Con Tryz.prog 24 0 [] [.p (.seq true 2 1 (fun i => [.int .i64 ((v.1.1.2.1.2 k.toNat).1), .int .i64 ((v.1.1.2.1.2 k.toNat).2.1)]))] [] (.p (.str s)),(NL ((ByteArray.mk #[98, 114, 101, 97, 107]).size + s.size) 9223372036854775807),(NL 1 1),(NL v.2.1.1 v.2.1.1),(NL ((v.2.1.1 + 1) * 16) 140737488355328),(NL (v.2.1.1 + 1) 9223372036854775807),(NT 0 1),((true = true) →  (AN 1)),(NT 0 1),(NT 0 1),((true = true) →  (AN 1)),(NT 0 1),(AI p.1.1),(AN 0),(AN p.1.2.1.1),(AN 0),(AN p.2.1.1),(AN 0),(AN ((v.2.1.1 + 1))),(true = true),(AN 2),(NL p.1.2.1.1 p.1.2.1.1),(AA p.1.2.1.1 (fun i => [.p (.int .i64 ((p.1.2.1.2 i).1)), .p (.int .i64 ((p.1.2.1.2 i).2.1))])),(AN 1),(NL p.2.1.1 p.2.1.1),(AA p.2.1.1 (fun i => [.p (.int .i64 (p.2.1.2 i))])),(AN 1),(NL (v.2.1.1 + 1) (v.2.1.1 + 1)),(CV [(64, ⟨true, 4, 1, (fun i_1 => [.p (.int .i64 p.1.1), .ar 2 1184 0 p.1.2.1.1, .ar 1 1185 0 p.2.1.1, .ar 1 1696 0 (v.2.1.1 + 1)])⟩), (192, ⟨true, 4, 1, (fun i_1 => [.p (.int .i64 p.1.1), .ar 2 1184 0 p.1.2.1.1, .ar 1 1185 0 p.2.1.1, .ar 1 1696 0 (v.2.1.1 + 1)])⟩), (1696, ⟨false, 1, (v.2.1.1 + 1), (fun i_1 => (if (i_1 < v.2.1.1) then [.p (.str (v.2.1.2 i_1))] else [.p (.str (ByteArray.mk #[98, 114, 101, 97, 107] ++ s))]))⟩), (1664, ⟨false, 1, 1, (fun i_1 => [.p (.str (ByteArray.mk #[98, 114, 101, 97, 107] ++ s))])⟩), (1568, ⟨false, 2, 1, (fun i_1 => [.p (.int .i64 ((v.1.1.2.1.2 k.toNat).1)), .p (.int .i64 ((v.1.1.2.1.2 k.toNat).2.1))])⟩), (1185, ⟨false, 1, p.2.1.1, (fun i_1 => [.p (.int .i64 (p.2.1.2 i_1))])⟩), (1184, ⟨false, 2, p.1.2.1.1, (fun i_1 => [.p (.int .i64 ((p.1.2.1.2 i_1).1)), .p (.int .i64 ((p.1.2.1.2 i_1).2.1))])⟩), (161, ⟨false, 1, v.1.2.1.1, (fun i_1 => [.p (.int .i64 (v.1.2.1.2 i_1))])⟩), (160, ⟨false, 2, v.1.1.2.1.1, (fun i_1 => [.p (.int .i64 ((v.1.1.2.1.2 i_1).1)), .p (.int .i64 ((v.1.1.2.1.2 i_1).2.1))])⟩), (32, ⟨true, 3, 1, (fun i_1 => [.p (.int .i64 e.1), .p (.int .i64 e.2.1), .p (.int .i64 e.2.2.1)])⟩), (0, ⟨true, 4, 1, (fun i_1 => [.p (.int .i64 v.1.1.1), .p (.seq true 2 v.1.1.2.1.1 (fun i_2 => [.int .i64 ((v.1.1.2.1.2 i_2).1), .int .i64 ((v.1.1.2.1.2 i_2).2.1)])), .p (.seq true 1 v.1.2.1.1 (fun i_2 => [.int .i64 (v.1.2.1.2 i_2)])), .p (.seq true 1 v.2.1.1 (fun i_2 => [.str (v.2.1.2 i_2)]))])⟩)] [1184, 1185, 1696] 1 (v.2.1.1 + 1) (fun i => if (i < v.2.1.1) then [.p (.str (v.2.1.2 i))] else [.p (.str (ByteArray.mk #[98, 114, 101, 97, 107] ++ s))]) (fun i => [.p (.str ((v.2.1.1 + 1, snTx v.2.1.1 v.2.1.2 (kBreak ++ s)).2 i))])),(AE p.1.2.1.1),(AE p.2.1.1),(AE ((v.2.1.1 + 1)))] := by kernel_rfl
theorem aS2f (v : T_Site) (e : T_Event) (k : Int) :
    pathOb Tryz.prog Tryz.f6 0 [rg 4, rm [(1, oc (siH v) (siV v))] 2, rm [(1, oc [] (.p (.bool true)))] 7, .dec false, rg 2, rg 2, .dec false, rg 2, .dec true, rm [(7, oc [] (.p (.int .i64 k)))] 1, rg 2, .dec true, rg 3] [.code (bodyOf Tryz.f6)] (start Tryz.f6 [] 0 [siA v, evtA e]) [160, 161, 162] 1 (siH v) (.tup [siV v, .p (.bool false)]) =
    some [(NT 0 1),Con Tryz.prog 21 0 [] [(zf16 v)] (zf17 v) ((zf117 v)),(NT 0 1),((true = true) →  (AN 1)),(NT 0 1),Con Tryz.prog 22 0 [] [(zf16 v)] [] (.p (.bool true)),(AG (!!true)),(((!!true) = true) → (NT 0 1)),(AG (!!true)),(AG (!!true)),(((!true) = false) →  ((!!true) = true)),((bif !true then true else decide ((↑v.2.1.1 : Int) ≥ 20)) = false),(NT 0 1),((e.1 == 1) = false),((e.1 == 2) = true),(NT 0 1),(NT 0 1),(NT 0 1),Con Tryz.prog 25 0 [] [(zf101 v), .p (.int .i64 e.2.1), .p (.int .i64 e.2.2.1)] [] (.p (.int .i64 k)),((decide (k < 0)) = true),(NT 0 1),(NT 0 1),((true = true) →  (AN 1)),(NT 0 1),(AI v.1.1.1),(AN 0),(AN v.1.1.2.1.1),(AN 0),(AN v.1.2.1.1),(AN 0),(AN v.2.1.1),(false = false),(AN 2),(NL v.1.1.2.1.1 v.1.1.2.1.1),(AA v.1.1.2.1.1 (fun i => [.p (.int .i64 ((v.1.1.2.1.2 i).1)), .p (.int .i64 ((v.1.1.2.1.2 i).2.1))])),(AN 1),(NL v.1.2.1.1 v.1.2.1.1),(AA v.1.2.1.1 (fun i => [.p (.int .i64 (v.1.2.1.2 i))])),(AN 1),(NL v.2.1.1 v.2.1.1),(AA v.2.1.1 (fun i => [.p (.str (v.2.1.2 i))])),(AE v.1.1.2.1.1),(AE v.1.2.1.1),(AE v.2.1.1)] := by kernel_rfl
theorem aS3t (v : T_Site) (e : T_Event) (s : ByteArray) :
    pathOb Tryz.prog Tryz.f6 0 [rg 4, rm [(1, oc (siH v) (siV v))] 2, rm [(1, oc [] (.p (.bool true)))] 7, .dec false, rg 2, rg 2, .dec false, rg 2, .dec false, rg 2, .dec true, rg 8, .dec false, rm [(4, oc [] (.p (.str s)))] 4, rg 3] [.code (bodyOf Tryz.f6)] (start Tryz.f6 [] 0 [siA v, evtA e]) [160, 161, 1248] 1 (siH (v.1, (v.2.1.1 + 1, snTx v.2.1.1 v.2.1.2 s), ())) (.tup [siV (v.1, (v.2.1.1 + 1, snTx v.2.1.1 v.2.1.2 s), ()), .p (.bool true)]) =
    some [(NT 0 1),Con Tryz.prog 21 0 [] [(zf16 v)] (zf17 v) ((zf117 v)),(NT 0 1),((true = true) →  (AN 1)),(NT 0 1),Con Tryz.prog 22 0 [] [(zf16 v)] [] (.p (.bool true)),(AG (!!true)),(((!!true) = true) → (NT 0 1)),(AG (!!true)),(AG (!!true)),(((!true) = false) →  ((!!true) = true)),((bif !true then true else decide ((↑v.2.1.1 : Int) ≥ 20)) = false),(NT 0 1),((e.1 == 1) = false),((e.1 == 2) = false),((e.1 == 3) = true),(NT 0 1),(AG (!e.2.1 != 0)),(((!e.2.1 != 0) = true) → (NT 0 1)),(AG (!e.2.1 != 0)),(((e.2.1 != 0) = false) →  ((!e.2.1 != 0) = true)),((bif e.2.1 != 0 then true else e.2.2.1 != 0) = false),(NT 0 1),(NT 0 1),Con Tryz.prog 27 0 [] [(zf23 v)] [] (.p (.str s)),(NL 1 1),(NL v.2.1.1 v.2.1.1),(NL ((v.2.1.1 + 1) * 16) 140737488355328),(NL (v.2.1.1 + 1) 9223372036854775807),(NT 0 1),((true = true) →  (AN 1)),(NT 0 1),(NT 0 1),((true = true) →  (AN 1)),(NT 0 1),(AI v.1.1.1),(AN 0),(AN v.1.1.2.1.1),(AN 0),(AN v.1.2.1.1),(AN 0),(AN ((v.2.1.1 + 1))),(true = true),(AN 2),(NL v.1.1.2.1.1 v.1.1.2.1.1),(AA v.1.1.2.1.1 (fun i => [.p (.int .i64 ((v.1.1.2.1.2 i).1)), .p (.int .i64 ((v.1.1.2.1.2 i).2.1))])),(AN 1),(NL v.1.2.1.1 v.1.2.1.1),(AA v.1.2.1.1 (fun i => [.p (.int .i64 (v.1.2.1.2 i))])),(AN 1),(NL (v.2.1.1 + 1) (v.2.1.1 + 1)),(CV [(64, ⟨true, 4, 1, (fun i_1 => [.p (.int .i64 v.1.1.1), .ar 2 160 0 v.1.1.2.1.1, .ar 1 161 0 v.1.2.1.1, .ar 1 1248 0 (v.2.1.1 + 1)])⟩), (192, ⟨true, 4, 1, (fun i_1 => [.p (.int .i64 v.1.1.1), .ar 2 160 0 v.1.1.2.1.1, .ar 1 161 0 v.1.2.1.1, .ar 1 1248 0 (v.2.1.1 + 1)])⟩), (1248, ⟨false, 1, (v.2.1.1 + 1), (fun i_1 => (if (i_1 < v.2.1.1) then [.p (.str (v.2.1.2 i_1))] else [.p (.str s)]))⟩), (1216, ⟨false, 1, 1, (fun i_1 => [.p (.str s)])⟩), (161, ⟨false, 1, v.1.2.1.1, (fun i_1 => [.p (.int .i64 (v.1.2.1.2 i_1))])⟩), (160, ⟨false, 2, v.1.1.2.1.1, (fun i_1 => [.p (.int .i64 ((v.1.1.2.1.2 i_1).1)), .p (.int .i64 ((v.1.1.2.1.2 i_1).2.1))])⟩), (32, ⟨true, 3, 1, (fun i_1 => [.p (.int .i64 e.1), .p (.int .i64 e.2.1), .p (.int .i64 e.2.2.1)])⟩), (0, ⟨true, 4, 1, (fun i_1 => [.p (.int .i64 v.1.1.1), .p (.seq true 2 v.1.1.2.1.1 (fun i_2 => [.int .i64 ((v.1.1.2.1.2 i_2).1), .int .i64 ((v.1.1.2.1.2 i_2).2.1)])), .p (.seq true 1 v.1.2.1.1 (fun i_2 => [.int .i64 (v.1.2.1.2 i_2)])), .p (.seq true 1 v.2.1.1 (fun i_2 => [.str (v.2.1.2 i_2)]))])⟩)] [160, 161, 1248] 1 (v.2.1.1 + 1) (fun i => if (i < v.2.1.1) then [.p (.str (v.2.1.2 i))] else [.p (.str s)]) (fun i => [.p (.str ((v.2.1.1 + 1, snTx v.2.1.1 v.2.1.2 s).2 i))])),(AE v.1.1.2.1.1),(AE v.1.2.1.1),(AE ((v.2.1.1 + 1)))] := by kernel_rfl
theorem aS3f (v : T_Site) (e : T_Event) :
    pathOb Tryz.prog Tryz.f6 0 [rg 4, rm [(1, oc (siH v) (siV v))] 2, rm [(1, oc [] (.p (.bool true)))] 7, .dec false, rg 2, rg 2, .dec false, rg 2, .dec false, rg 2, .dec true, rg 8, .dec true, rg 3] [.code (bodyOf Tryz.f6)] (start Tryz.f6 [] 0 [siA v, evtA e]) [160, 161, 162] 1 (siH v) (.tup [siV v, .p (.bool false)]) =
    some [(NT 0 1),Con Tryz.prog 21 0 [] [(zf16 v)] (zf17 v) ((zf117 v)),(NT 0 1),((true = true) →  (AN 1)),(NT 0 1),Con Tryz.prog 22 0 [] [(zf16 v)] [] (.p (.bool true)),(AG (!!true)),(((!!true) = true) → (NT 0 1)),(AG (!!true)),(AG (!!true)),(((!true) = false) →  ((!!true) = true)),((bif !true then true else decide ((↑v.2.1.1 : Int) ≥ 20)) = false),(NT 0 1),((e.1 == 1) = false),((e.1 == 2) = false),((e.1 == 3) = true),(NT 0 1),(AG (!e.2.1 != 0)),(((!e.2.1 != 0) = true) → (NT 0 1)),(AG (!e.2.1 != 0)),(((e.2.1 != 0) = false) →  ((!e.2.1 != 0) = true)),((bif e.2.1 != 0 then true else e.2.2.1 != 0) = true),(NT 0 1),(NT 0 1),((true = true) →  (AN 1)),(NT 0 1),(AI v.1.1.1),(AN 0),(AN v.1.1.2.1.1),(AN 0),(AN v.1.2.1.1),(AN 0),(AN v.2.1.1),(false = false),(AN 2),(NL v.1.1.2.1.1 v.1.1.2.1.1),(AA v.1.1.2.1.1 (fun i => [.p (.int .i64 ((v.1.1.2.1.2 i).1)), .p (.int .i64 ((v.1.1.2.1.2 i).2.1))])),(AN 1),(NL v.1.2.1.1 v.1.2.1.1),(AA v.1.2.1.1 (fun i => [.p (.int .i64 (v.1.2.1.2 i))])),(AN 1),(NL v.2.1.1 v.2.1.1),(AA v.2.1.1 (fun i => [.p (.str (v.2.1.2 i))])),(AE v.1.1.2.1.1),(AE v.1.2.1.1),(AE v.2.1.1)] := by kernel_rfl
theorem aS4t (v : T_Site) (e : T_Event) (p : T_Pinned) (s : ByteArray) (n : Nat) (h : Nat → T_Bar) (b : Bool) :
    pathOb Tryz.prog Tryz.f6 0 [rg 4, rm [(1, oc (siH v) (siV v))] 2, rm [(1, oc [] (.p (.bool true)))] 7, .dec false, rg 2, rg 2, .dec false, rg 2, .dec false, rg 2, .dec false, rg 2, .dec true, rm [(2, oc [(0, brOb n h)] (.tup [.ar 2 0 0 n, .p (.bool b)]))] 5, rg 12, .dec false, rm [(3, oc (piH p) (.tup [piV p, .p (.bool true)]))] 5, rm [(3, oc [] (.p (.str s)))] 5, rg 3] [.code (bodyOf Tryz.f6)] (start Tryz.f6 [] 0 [siA v, evtA e]) [1600, 1601, 1984] 1 (siH (p, (v.2.1.1 + 1, snTx v.2.1.1 v.2.1.2 (kRepair ++ s)), ())) (.tup [siV (p, (v.2.1.1 + 1, snTx v.2.1.1 v.2.1.2 (kRepair ++ s)), ()), .p (.bool true)]) =
    some [(NT 0 1),Con Tryz.prog 21 0 [] [(zf16 v)] (zf17 v) ((zf117 v)),(NT 0 1),((true = true) →  (AN 1)),(NT 0 1),Con Tryz.prog 22 0 [] [(zf16 v)] [] (.p (.bool true)),(AG (!!true)),(((!!true) = true) → (NT 0 1)),(AG (!!true)),(AG (!!true)),(((!true) = false) →  ((!!true) = true)),((bif !true then true else decide ((↑v.2.1.1 : Int) ≥ 20)) = false),(NT 0 1),((e.1 == 1) = false),((e.1 == 2) = false),((e.1 == 3) = false),((e.1 == 4) = true),(NT 0 1),Con Tryz.prog 28 0 [] [(zf23 v)] (zf121 n h) (.tup [.ar 2 0 0 n, .p (.bool b)]),(AG (!!b)),(((!!b) = true) → (NT 0 1)),(AG (!!b)),(((!b) = false) →  ((!!b) = true)),(AG (!bif !b then true else e.2.1 != 0)),(((!bif !b then true else e.2.1 != 0) = true) → (NT 0 1)),(AG (!bif !b then true else e.2.1 != 0)),(((bif !b then true else e.2.1 != 0) = false) →  ((!bif !b then true else e.2.1 != 0) = true)),((bif bif !b then true else e.2.1 != 0 then true else e.2.2.1 != 0) = false),(NT 0 1),(AN 2),(NL n n),Con Tryz.prog 23 0 [] [(zf23 v), .p (.seq true 2 n (fun i => [.int .i64 ((h i).1), .int .i64 ((h i).2.1)]))] (zf31 p) ((zf119 p)),(NT 0 1),((true = true) →  (AN 1)),(NT 0 1),(AN 2),(NL n n),Con Tryz.prog 24 0 [] [.p (.seq true 2 n (fun i => [.int .i64 ((h i).1), .int .i64 ((h i).2.1)]))] [] (.p (.str s)),(NL ((ByteArray.mk #[114, 101, 112, 97, 105, 114]).size + s.size) 9223372036854775807),(NL 1 1),(NL v.2.1.1 v.2.1.1),(NL ((v.2.1.1 + 1) * 16) 140737488355328),(NL (v.2.1.1 + 1) 9223372036854775807),(NT 0 1),((true = true) →  (AN 1)),(NT 0 1),(NT 0 1),((true = true) →  (AN 1)),(NT 0 1),(AI p.1.1),(AN 0),(AN p.1.2.1.1),(AN 0),(AN p.2.1.1),(AN 0),(AN ((v.2.1.1 + 1))),(true = true),(AN 2),(NL p.1.2.1.1 p.1.2.1.1),(AA p.1.2.1.1 (fun i => [.p (.int .i64 ((p.1.2.1.2 i).1)), .p (.int .i64 ((p.1.2.1.2 i).2.1))])),(AN 1),(NL p.2.1.1 p.2.1.1),(AA p.2.1.1 (fun i => [.p (.int .i64 (p.2.1.2 i))])),(AN 1),(NL (v.2.1.1 + 1) (v.2.1.1 + 1)),(CV [(64, ⟨true, 4, 1, (fun i_1 => [.p (.int .i64 p.1.1), .ar 2 1600 0 p.1.2.1.1, .ar 1 1601 0 p.2.1.1, .ar 1 1984 0 (v.2.1.1 + 1)])⟩), (192, ⟨true, 4, 1, (fun i_1 => [.p (.int .i64 p.1.1), .ar 2 1600 0 p.1.2.1.1, .ar 1 1601 0 p.2.1.1, .ar 1 1984 0 (v.2.1.1 + 1)])⟩), (1984, ⟨false, 1, (v.2.1.1 + 1), (fun i_1 => (if (i_1 < v.2.1.1) then [.p (.str (v.2.1.2 i_1))] else [.p (.str (ByteArray.mk #[114, 101, 112, 97, 105, 114] ++ s))]))⟩), (1952, ⟨false, 1, 1, (fun i_1 => [.p (.str (ByteArray.mk #[114, 101, 112, 97, 105, 114] ++ s))])⟩), (1601, ⟨false, 1, p.2.1.1, (fun i_1 => [.p (.int .i64 (p.2.1.2 i_1))])⟩), (1600, ⟨false, 2, p.1.2.1.1, (fun i_1 => [.p (.int .i64 ((p.1.2.1.2 i_1).1)), .p (.int .i64 ((p.1.2.1.2 i_1).2.1))])⟩), (928, ⟨false, 2, n, (fun i_1 => [.p (.int .i64 ((h i_1).1)), .p (.int .i64 ((h i_1).2.1))])⟩), (161, ⟨false, 1, v.1.2.1.1, (fun i_1 => [.p (.int .i64 (v.1.2.1.2 i_1))])⟩), (160, ⟨false, 2, v.1.1.2.1.1, (fun i_1 => [.p (.int .i64 ((v.1.1.2.1.2 i_1).1)), .p (.int .i64 ((v.1.1.2.1.2 i_1).2.1))])⟩), (32, ⟨true, 3, 1, (fun i_1 => [.p (.int .i64 e.1), .p (.int .i64 e.2.1), .p (.int .i64 e.2.2.1)])⟩), (0, ⟨true, 4, 1, (fun i_1 => [.p (.int .i64 v.1.1.1), .p (.seq true 2 v.1.1.2.1.1 (fun i_2 => [.int .i64 ((v.1.1.2.1.2 i_2).1), .int .i64 ((v.1.1.2.1.2 i_2).2.1)])), .p (.seq true 1 v.1.2.1.1 (fun i_2 => [.int .i64 (v.1.2.1.2 i_2)])), .p (.seq true 1 v.2.1.1 (fun i_2 => [.str (v.2.1.2 i_2)]))])⟩)] [1600, 1601, 1984] 1 (v.2.1.1 + 1) (fun i => if (i < v.2.1.1) then [.p (.str (v.2.1.2 i))] else [.p (.str (ByteArray.mk #[114, 101, 112, 97, 105, 114] ++ s))]) (fun i => [.p (.str ((v.2.1.1 + 1, snTx v.2.1.1 v.2.1.2 (kRepair ++ s)).2 i))])),(AE p.1.2.1.1),(AE p.2.1.1),(AE ((v.2.1.1 + 1)))] := by kernel_rfl
theorem aS4f (v : T_Site) (e : T_Event) (n : Nat) (h : Nat → T_Bar) (b : Bool) :
    pathOb Tryz.prog Tryz.f6 0 [rg 4, rm [(1, oc (siH v) (siV v))] 2, rm [(1, oc [] (.p (.bool true)))] 7, .dec false, rg 2, rg 2, .dec false, rg 2, .dec false, rg 2, .dec false, rg 2, .dec true, rm [(2, oc [(0, brOb n h)] (.tup [.ar 2 0 0 n, .p (.bool b)]))] 5, rg 12, .dec true, rg 3] [.code (bodyOf Tryz.f6)] (start Tryz.f6 [] 0 [siA v, evtA e]) [160, 161, 162] 1 (siH v) (.tup [siV v, .p (.bool false)]) =
    some [(NT 0 1),Con Tryz.prog 21 0 [] [(zf16 v)] (zf17 v) ((zf117 v)),(NT 0 1),((true = true) →  (AN 1)),(NT 0 1),Con Tryz.prog 22 0 [] [(zf16 v)] [] (.p (.bool true)),(AG (!!true)),(((!!true) = true) → (NT 0 1)),(AG (!!true)),(AG (!!true)),(((!true) = false) →  ((!!true) = true)),((bif !true then true else decide ((↑v.2.1.1 : Int) ≥ 20)) = false),(NT 0 1),((e.1 == 1) = false),((e.1 == 2) = false),((e.1 == 3) = false),((e.1 == 4) = true),(NT 0 1),Con Tryz.prog 28 0 [] [(zf23 v)] (zf121 n h) (.tup [.ar 2 0 0 n, .p (.bool b)]),(AG (!!b)),(((!!b) = true) → (NT 0 1)),(AG (!!b)),(((!b) = false) →  ((!!b) = true)),(AG (!bif !b then true else e.2.1 != 0)),(((!bif !b then true else e.2.1 != 0) = true) → (NT 0 1)),(AG (!bif !b then true else e.2.1 != 0)),(((bif !b then true else e.2.1 != 0) = false) →  ((!bif !b then true else e.2.1 != 0) = true)),((bif bif !b then true else e.2.1 != 0 then true else e.2.2.1 != 0) = true),(NT 0 1),(NT 0 1),((true = true) →  (AN 1)),(NT 0 1),(AI v.1.1.1),(AN 0),(AN v.1.1.2.1.1),(AN 0),(AN v.1.2.1.1),(AN 0),(AN v.2.1.1),(false = false),(AN 2),(NL v.1.1.2.1.1 v.1.1.2.1.1),(AA v.1.1.2.1.1 (fun i => [.p (.int .i64 ((v.1.1.2.1.2 i).1)), .p (.int .i64 ((v.1.1.2.1.2 i).2.1))])),(AN 1),(NL v.1.2.1.1 v.1.2.1.1),(AA v.1.2.1.1 (fun i => [.p (.int .i64 (v.1.2.1.2 i))])),(AN 1),(NL v.2.1.1 v.2.1.1),(AA v.2.1.1 (fun i => [.p (.str (v.2.1.2 i))])),(AE v.1.1.2.1.1),(AE v.1.2.1.1),(AE v.2.1.1)] := by kernel_rfl
theorem aS5 (v : T_Site) (e : T_Event) :
    pathOb Tryz.prog Tryz.f6 0 [rg 4, rm [(1, oc (siH v) (siV v))] 2, rm [(1, oc [] (.p (.bool true)))] 7, .dec false, rg 2, rg 2, .dec false, rg 2, .dec false, rg 2, .dec false, rg 2, .dec false, rg 3] [.code (bodyOf Tryz.f6)] (start Tryz.f6 [] 0 [siA v, evtA e]) [160, 161, 162] 1 (siH v) (.tup [siV v, .p (.bool false)]) =
    some [(NT 0 1),Con Tryz.prog 21 0 [] [(zf16 v)] (zf17 v) ((zf117 v)),(NT 0 1),((true = true) →  (AN 1)),(NT 0 1),Con Tryz.prog 22 0 [] [(zf16 v)] [] (.p (.bool true)),(AG (!!true)),(((!!true) = true) → (NT 0 1)),(AG (!!true)),(AG (!!true)),(((!true) = false) →  ((!!true) = true)),((bif !true then true else decide ((↑v.2.1.1 : Int) ≥ 20)) = false),(NT 0 1),((e.1 == 1) = false),((e.1 == 2) = false),((e.1 == 3) = false),((e.1 == 4) = false),(NT 0 1),(NT 0 1),((true = true) →  (AN 1)),(NT 0 1),(AI v.1.1.1),(AN 0),(AN v.1.1.2.1.1),(AN 0),(AN v.1.2.1.1),(AN 0),(AN v.2.1.1),(false = false),(AN 2),(NL v.1.1.2.1.1 v.1.1.2.1.1),(AA v.1.1.2.1.1 (fun i => [.p (.int .i64 ((v.1.1.2.1.2 i).1)), .p (.int .i64 ((v.1.1.2.1.2 i).2.1))])),(AN 1),(NL v.1.2.1.1 v.1.2.1.1),(AA v.1.2.1.1 (fun i => [.p (.int .i64 (v.1.2.1.2 i))])),(AN 1),(NL v.2.1.1 v.2.1.1),(AA v.2.1.1 (fun i => [.p (.str (v.2.1.2 i))])),(AE v.1.1.2.1.1),(AE v.1.2.1.1),(AE v.2.1.1)] := by kernel_rfl
theorem vSs (v : T_Site) (b : Bool) :
    pathOb Tryz.prog Tryz.f22 0 [rg 2, rm [(2, oc [] (.p (.bool b)))] 7] [.code (bodyOf Tryz.f22)] (start Tryz.f22 [] 0 [siA v]) [] 1 [] (.p (.bool (bif b then decide ((v.2.1.1 : Int) ≤ 20) else false))) =
    some [(NT 0 1),Con Tryz.prog 51 0 [] [(zf23 v)] [] (.p (.bool b)),(AG b),((b = true) → (NT 0 1)),(AG b),(AG b),(AG b),((bif b then decide ((↑v.2.1.1 : Int) ≤ 20) else false) = (bif b then decide ((↑v.2.1.1 : Int) ≤ 20) else false))] := by kernel_rfl
theorem vSi (v : T_Site) (b : Bool) :
    pathOb Tryz.prog Tryz.f32 0 [rg 2, rm [(2, oc [] (.p (.bool b)))] 7] [.code (bodyOf Tryz.f32)] (start Tryz.f32 [] 0 [siA v]) [] 1 [] (.p (.bool (bif b then decide ((v.2.1.1 : Int) ≤ 20) else false))) =
    some [(NT 0 1),Con Tryz.prog 63 0 [] [(zf23 v)] [] (.p (.bool b)),(AG b),((b = true) → (NT 0 1)),(AG b),(AG b),(AG b),((bif b then decide ((↑v.2.1.1 : Int) ≤ 20) else false) = (bif b then decide ((↑v.2.1.1 : Int) ≤ 20) else false))] := by kernel_rfl
end Go.Proofs.YtgdbnnmogddkaaaGreat.Mach
namespace Go.Proofs.YtgdbnnmogddkaaaGreat.Mach
open Go Go.Sort
set_option linter.unusedVariables false
set_option linter.unusedSimpArgs false
def ixI (g : Nat → T_Bar) (x : T_Bar) : Nat → Nat → Int
  | 0, _ => -1
  | d + 1, i => if beqB x (g i) = true then (i : Int) else ixI g x d (i + 1)
theorem ixI_in (g : Nat → T_Bar) (x : T_Bar) : ∀ d i, ixI g x d i = -1 ∨ ((i : Int) ≤ ixI g x d i ∧ ixI g x d i < i + d ∧ beqB x (g (ixI g x d i).toNat) = true)
  | 0, _ => .inl rfl
  | d + 1, i => by
    simp only [ixI]
    split
    · rename_i h; right; exact ⟨Int.le_refl _, by omega, by rw [Int.toNat_natCast]; exact h⟩
    · rcases ixI_in g x d (i + 1) with h | ⟨h1, h2, h3⟩
      · exact .inl h
      · exact .inr ⟨by omega, by omega, h3⟩
theorem beqB_eq {x y : T_Bar} (h : beqB x y = true) : x = y := by
  obtain ⟨a, b, ⟨⟩⟩ := x
  obtain ⟨c, d, ⟨⟩⟩ := y
  simp only [beqB, Bool.and_eq_true, beq_iff_eq] at h
  rw [h.1, h.2.1]
theorem beqB_swap (x y : T_Bar) : (bif y.1 == x.1 then y.2.1 == x.2.1 else false) = beqB x y := by
  unfold beqB
  by_cases h1 : x.1 = y.1
  · by_cases h2 : x.2.1 = y.2.1
    · simp [h1, h2]
    · have : ¬ y.2.1 = x.2.1 := fun h => h2 h.symm
      rw [beq_eq_false_iff_ne.2 this, beq_eq_false_iff_ne.2 h2, h1]; simp
  · have : ¬ y.1 = x.1 := fun h => h1 h.symm
    have e1 : (x.1 == y.1) = false := beq_eq_false_iff_ne.2 h1
    have e2 : (y.1 == x.1) = false := beq_eq_false_iff_ne.2 this
    rw [e1, e2]; rfl
theorem con_IndexB (v : T_Graph) (x : T_Bar) (hn : v.2.1.1 ≤ 1048576) : Con Tryz.prog 35 0 [] [graphL v.2.1, .agg [.p (.int .i64 x.1), .p (.int .i64 x.2.1)]] [] (.p (.int .i64 (ixI v.2.1.2 x v.2.1.1 0))) := by
  refine con_start Tryz.func35 rfl (by kernel_rfl) rfl (fun c hc => ?_)
  have lo : ∀ d k, k + d = v.2.1.1 → Run Tryz.prog c 35 zf97 (SVi v x k) (Post c [] (.p (.int .i64 (ixI v.2.1.2 x d k)))) := by
    intro d
    induction d with
    | zero =>
      intro k hk
      have hd : decide ((k : Int) < (v.2.1.1 : Int)) = false := decide_eq_false (by omega)
      refine path_ok mixed Tryz.func35 hc (vIe v x k) ?_
      simp only [All]
      repeat' (first | exact trivial | with_reducible apply And.intro)
      all_goals (first | omega | rfl | (intros; first | assumption | exact trivial | rfl | contradiction | ((repeat' (first | assumption | apply anda | apply notf)); done)) | (exact hd))
    | succ d ih =>
      intro k hk
      have hd : decide ((k : Int) < (v.2.1.1 : Int)) = true := decide_eq_true (by omega)
      simp only [ixI]
      by_cases h : beqB x (v.2.1.2 k) = true
      · rw [if_pos h]
        refine path_ok mixed Tryz.func35 hc (vIb v x k) ?_
        simp only [All]
        repeat' (first | exact trivial | with_reducible apply And.intro)
        all_goals (first | omega | rfl | (intros; first | assumption | exact trivial | rfl | contradiction | ((repeat' (first | assumption | apply anda | apply notf)); done)) | (exact hd) | (exact h))
      · rw [if_neg h]
        have h' : beqB x (v.2.1.2 k) = false := by simpa using h
        refine piece_ok mixed hc (vIa v x k) ?_ (ih (k + 1) (by omega))
        simp only [All]
        repeat' (first | exact trivial | with_reducible apply And.intro)
        all_goals (first | exact aP _ _ | omega | rfl | (intros; first | assumption | exact trivial | rfl | contradiction | ((repeat' (first | assumption | apply anda | apply notf)); done)) | (exact hd) | (exact h') | (intros; simp [All, aEt]; done))
  refine piece_ok mixed hc (vIz v x) ?_ (lo v.2.1.1 0 (by omega))
  simp only [All]
  repeat' (first | exact trivial | with_reducible apply And.intro)
  all_goals (first | exact aP _ _ | omega | rfl | (intros; first | assumption | exact trivial | rfl | contradiction | ((repeat' (first | assumption | apply anda | apply notf)); done)) | (intros; simp [All, aEt]; done))
theorem con_l7At (v : T_Graph) (a b : Int) (hn : v.2.1.1 ≤ 1048576) : Con Tryz.prog 25 0 [] [graphA v, .p (.int .i64 a), .p (.int .i64 b)] [] (.p (.int .i64 (ixI v.2.1.2 (brX a b) v.2.1.1 0))) := by
  refine con_start Tryz.func25 rfl (by kernel_rfl) rfl (fun c hc => ?_)
  have lo : ∀ d k, k + d = v.2.1.1 → Run Tryz.prog c 25 zf98 (SVs v a b k) (Post c [] (.p (.int .i64 (ixI v.2.1.2 (brX a b) d k)))) := by
    intro d
    induction d with
    | zero =>
      intro k hk
      have hd : decide ((k : Int) < (v.2.1.1 : Int)) = false := decide_eq_false (by omega)
      refine path_ok mixed Tryz.func25 hc (vAe v a b k) ?_
      simp only [All]
      repeat' (first | exact trivial | with_reducible apply And.intro)
      all_goals (first | omega | rfl | (intros; first | assumption | exact trivial | rfl | contradiction | ((repeat' (first | assumption | apply anda | apply notf)); done)) | (exact hd))
    | succ d ih =>
      intro k hk
      have hd : decide ((k : Int) < (v.2.1.1 : Int)) = true := decide_eq_true (by omega)
      have hsw := beqB_swap (brX a b) (v.2.1.2 k)
      simp only [ixI]
      by_cases h : beqB (brX a b) (v.2.1.2 k) = true
      · rw [if_pos h]
        rw [h] at hsw
        refine path_ok mixed Tryz.func25 hc (vAb v a b k) ?_
        simp only [All]
        repeat' (first | exact trivial | with_reducible apply And.intro)
        all_goals (first | exact aG _ | omega | rfl | (intros; first | assumption | exact trivial | rfl | contradiction | ((repeat' (first | assumption | apply anda | apply notf)); done)) | (exact hd) | (exact hsw) | (intros; omega))
      · rw [if_neg h]
        have h' : beqB (brX a b) (v.2.1.2 k) = false := by simpa using h
        rw [h'] at hsw
        refine piece_ok mixed hc (vAa v a b k) ?_ (ih (k + 1) (by omega))
        simp only [All]
        repeat' (first | exact trivial | with_reducible apply And.intro)
        all_goals (first | exact aG _ | exact aP _ _ | omega | rfl | (intros; first | assumption | exact trivial | rfl | contradiction | ((repeat' (first | assumption | apply anda | apply notf)); done)) | (exact hd) | (exact hsw) | (intros; omega) | (intros; simp [All, aEt]; done))
  refine piece_ok mixed hc (vAz v a b) ?_ (lo v.2.1.1 0 (by omega))
  simp only [All]
  repeat' (first | exact trivial | with_reducible apply And.intro)
  all_goals (first | exact aP _ _ | omega | rfl | (intros; first | assumption | exact trivial | rfl | contradiction | ((repeat' (first | assumption | apply anda | apply notf)); done)) | (intros; simp [All, aEt]; done))
def weB (w : ByteArray) (l : T_BarS) : Nat → ByteArray
  | 0 => w
  | k + 1 => (weB w l k ++ kBlank) ++ enB (l.2 k)
def bsB (l : T_BarS) : Nat → ByteArray
  | 0 => ⟨#[]⟩
  | k + 1 => (((bsB l k ++ kBlank) ++ fmtI (l.2 k).1) ++ kDash) ++ fmtI (l.2 k).2.1
theorem kBlank_z : (ByteArray.mk #[32]).size = 1 := rfl
theorem weB_size (w : ByteArray) (l : T_BarS) : ∀ k, (weB w l k).size ≤ w.size + 44 * k
  | 0 => Nat.le_refl _
  | k + 1 => by
    have := weB_size w l k
    have := enB_size (l.2 k)
    simp only [weB, ByteArray.size_append, show kBlank.size = 1 from rfl]
    omega
theorem bsB_size (l : T_BarS) : ∀ k, (bsB l k).size ≤ 44 * k
  | 0 => Nat.le_refl _
  | k + 1 => by
    have := bsB_size l k
    have h1 := fmt_size (l.2 k).1
    have h2 := fmt_size (l.2 k).2.1
    simp only [bsB, ByteArray.size_append, show kBlank.size = 1 from rfl, show kDash.size = 1 from rfl]
    omega
theorem enB_le {x : T_Bar} (h : x.1 ≤ x.2.1) : enB x = (fmtI x.1 ++ kDash) ++ fmtI x.2.1 := by
  unfold enB
  by_cases e : x.1 = x.2.1
  · rw [if_neg (by omega), if_neg (by omega), e]
  · rw [if_neg (by omega), if_pos (by omega)]
theorem enB_brX (a b : Int) : enB (brX a b) = enB (a, b, ()) := by
  unfold enB brX
  simp only
  by_cases h : b < a
  · rw [if_pos h, if_neg (show ¬ b > a by omega), if_neg (show ¬ a < b by omega), if_pos (show a > b by omega)]
  · by_cases h2 : b > a
    · rw [if_neg h, if_pos h2, if_neg (show ¬ b < a by omega), if_pos (show b > a by omega)]
    · rw [if_neg h, if_neg h2, if_neg (show ¬ a < a by omega)]
theorem we_bs (w : ByteArray) (l : T_BarS) : ∀ k, (∀ i, i < k → (l.2 i).1 ≤ (l.2 i).2.1) → weB w l k = w ++ bsB l k
  | 0, _ => (ByteArray.append_empty).symm
  | k + 1, h => by
    rw [weB, we_bs w l k (fun i hi => h i (by omega)), enB_le (h k (by omega)), bsB]
    simp only [ByteArray.append_assoc]
def InI (x : Int) : Prop := -9223372036854775808 ≤ x ∧ x ≤ 9223372036854775807
theorem con_withEnds (w : ByteArray) (l : T_BarS) (hl : l.1 ≤ 1000) (hw : w.size ≤ 100) (hi : ∀ i, i < l.1 → InI (l.2 i).1 ∧ InI (l.2 i).2.1) :
    Con Tryz.prog 34 0 [] [.p (.str w), graphL l] [] (.p (.str (weB w l l.1))) := by
  refine con_start Tryz.func34 rfl (by kernel_rfl) rfl (fun c hc => ?_)
  generalize hR : weB w l l.1 = R
  have lo : ∀ d k, k + d = l.1 → Run Tryz.prog c 34 zf99 (SVw l k (weB w l k)) (Post c [] (.p (.str R))) := by
    intro d
    induction d with
    | zero =>
      intro k hk
      obtain rfl : k = l.1 := by omega
      have hd : decide ((l.1 : Int) < (l.1 : Int)) = false := by simp
      rw [hR]
      refine path_ok mixed Tryz.func34 hc (vWe l l.1 R) ?_
      simp only [All]
      repeat' (first | exact trivial | with_reducible apply And.intro)
      all_goals (first | omega | rfl | (intros; first | assumption | exact trivial | rfl | contradiction | ((repeat' (first | assumption | apply anda | apply notf)); done)) | (exact hd))
    | succ d ih =>
      intro k hk
      have hrec := ih (k + 1) (by omega)
      have hd : decide ((k : Int) < (l.1 : Int)) = true := decide_eq_true (by omega)
      have hz := weB_size w l k
      have hz2 := enB_size (l.2 k)
      have ce := con_ends (l.2 k) (hi k (by omega)).1 (hi k (by omega)).2
      rw [weB] at hrec
      generalize weB w l k = s at *
      generalize enB (l.2 k) = t at *
      refine piece_ok mixed hc (vWa l k s t) ?_ hrec
      simp only [All]
      repeat' (first | exact trivial | with_reducible apply And.intro)
      all_goals (first | exact aP _ _ | omega | rfl | (intros; first | assumption | exact trivial | rfl | contradiction | ((repeat' (first | assumption | apply anda | apply notf)); done)) | (exact hd) | (exact ce) | (simp only [ByteArray.size_append, kBlank_z]; omega) | (intros; simp [All, aEt]; done))
  refine piece_ok mixed hc (vWz l w) ?_ (lo l.1 0 (by omega))
  simp only [All]
  repeat' (first | exact trivial | with_reducible apply And.intro)
  all_goals (first | exact aP _ _ | omega | rfl | (intros; first | assumption | exact trivial | rfl | contradiction | ((repeat' (first | assumption | apply anda | apply notf)); done)) | (intros; simp [All, aEt]; done))
theorem con_l31Bars (l : T_BarS) (hl : l.1 ≤ 1000) (hi : ∀ i, i < l.1 → InI (l.2 i).1 ∧ InI (l.2 i).2.1) :
    Con Tryz.prog 24 0 [] [graphL l] [] (.p (.str (bsB l l.1))) := by
  refine con_start Tryz.func24 rfl (by kernel_rfl) rfl (fun c hc => ?_)
  generalize hR : bsB l l.1 = R
  have lo : ∀ d k, k + d = l.1 → Run Tryz.prog c 24 zf81 (SVb l k (bsB l k)) (Post c [] (.p (.str R))) := by
    intro d
    induction d with
    | zero =>
      intro k hk
      obtain rfl : k = l.1 := by omega
      have hd : decide ((l.1 : Int) < (l.1 : Int)) = false := by simp
      rw [hR]
      refine path_ok mixed Tryz.func24 hc (vBe l l.1 R) ?_
      simp only [All]
      repeat' (first | exact trivial | with_reducible apply And.intro)
      all_goals (first | omega | rfl | (intros; first | assumption | exact trivial | rfl | contradiction | ((repeat' (first | assumption | apply anda | apply notf)); done)) | (exact hd))
    | succ d ih =>
      intro k hk
      have hrec := ih (k + 1) (by omega)
      have hd : decide ((k : Int) < (l.1 : Int)) = true := decide_eq_true (by omega)
      have hz := bsB_size l k
      have h1 := fmt_size (l.2 k).1
      have h2 := fmt_size (l.2 k).2.1
      have c1 := con_FormatInt_s (l.2 k).1 (hi k (by omega)).1.1 (hi k (by omega)).1.2
      have c2 := con_FormatInt_s (l.2 k).2.1 (hi k (by omega)).2.1 (hi k (by omega)).2.2
      rw [bsB] at hrec
      generalize bsB l k = s at *
      generalize fmtI (l.2 k).1 = t at *
      generalize fmtI (l.2 k).2.1 = u at *
      refine piece_ok mixed hc (vBa l k s t u) ?_ hrec
      simp only [All]
      repeat' (first | exact trivial | with_reducible apply And.intro)
      all_goals (first | exact aP _ _ | omega | rfl | (intros; first | assumption | exact trivial | rfl | contradiction | ((repeat' (first | assumption | apply anda | apply notf)); done)) | (exact hd) | (exact c1) | (exact c2) | (simp only [ByteArray.size_append, kBlank_z, kDash_z]; omega) | (intros; simp [All, aEt]; done))
  refine piece_ok mixed hc (vBz l) ?_ (lo l.1 0 (by omega))
  simp only [All]
  repeat' (first | exact trivial | with_reducible apply And.intro)
  all_goals (first | exact aP _ _ | omega | rfl | (intros; first | assumption | exact trivial | rfl | contradiction | ((repeat' (first | assumption | apply anda | apply notf)); done)) | (intros; simp [All, aEt]; done))
def siteF (v : T_Site) : Bool := bif pinnedF v.1 then decide ((v.2.1.1 : Int) ≤ 20) else false
theorem con_IsSite_s (v : T_Site) (hs : smS s_Site v) : Con Tryz.prog 22 0 [] [siA v] [] (.p (.bool (siteF v))) := by
  refine con_start Tryz.func22 rfl (by kernel_rfl) rfl (fun c hc => ?_)
  refine path_ok mixed Tryz.func22 hc (vSs v (pinnedF v.1)) ?_
  simp only [All]
  repeat' (first | exact trivial | with_reducible apply And.intro)
  all_goals (first | exact aG _ | omega | rfl | (intros; first | assumption | exact trivial | rfl | contradiction | ((repeat' (first | assumption | apply anda | apply notf)); done)) | (exact con_IsPinned_s v.1 hs.1) | (simp [siteF]))
theorem con_IsSite_i (v : T_Site) (hs : smS s_Site v) : Con Tryz.prog 32 0 [] [siA v] [] (.p (.bool (siteF v))) := by
  refine con_start Tryz.func32 rfl (by kernel_rfl) rfl (fun c hc => ?_)
  refine path_ok mixed Tryz.func32 hc (vSi v (pinnedF v.1)) ?_
  simp only [All]
  repeat' (first | exact trivial | with_reducible apply And.intro)
  all_goals (first | exact aG _ | omega | rfl | (intros; first | assumption | exact trivial | rfl | contradiction | ((repeat' (first | assumption | apply anda | apply notf)); done)) | (exact con_IsPinned_i v.1 hs.1) | (simp [siteF]))
theorem con_copySite (v : T_Site) (hs : smS s_Site v) : Con Tryz.prog 31 0 [] [siA v] (siH v) (siV v) := by
  have hn := hs.2.1.1
  have hn' : v.2.1.1 ≤ 1048576 := hn
  refine con_start Tryz.func31 rfl (by kernel_rfl) rfl (fun c hc => ?_)
  refine path_ok mixed Tryz.func31 hc (vCi v) ?_
  simp only [All]
  repeat' (first | exact trivial | with_reducible apply And.intro)
  all_goals (first | exact aA _ _ | exact aE _ | omega | rfl | (intros; first | assumption | exact trivial | rfl | contradiction | ((repeat' (first | assumption | apply anda | apply notf)); done)) | (exact con_copyPinned v.1 hs.1) | (intros; simp [All, aEt]; done) | (intro t ht; simp [cvtL, cvt, tg, tru, All]; done) | (intros; simp [All, aEt, ntAL, ntA, ntP, ntL]; done))
theorem con_l31Copy (v : T_Site) (hs : smS s_Site v) : Con Tryz.prog 21 0 [] [siA v] (siH v) (siV v) := by
  have hn := hs.2.1.1
  have hn' : v.2.1.1 ≤ 1048576 := hn
  have h1 : v.1.1.2.1.1 ≤ 1048576 := hs.1.1.2.1.1
  have h2 : v.1.2.1.1 ≤ 1048576 := hs.1.2.1.1
  refine con_start Tryz.func21 rfl (by kernel_rfl) rfl (fun c hc => ?_)
  refine path_ok mixed Tryz.func21 hc (vCs v) ?_
  simp only [All]
  repeat' (first | exact trivial | with_reducible apply And.intro)
  all_goals (first | exact aA _ _ | exact aE _ | omega | rfl | (intros; first | assumption | exact trivial | rfl | contradiction | ((repeat' (first | assumption | apply anda | apply notf)); done)) | (exact con_l2Copy v.1.1 h1) | (intros; simp [All, aEt]; done) | (intro t ht; simp [cvtL, cvt, tg, tru, All]; done) | (intros; simp [All, aEt, ntAL, ntA, ntP, ntL]; done))
end Go.Proofs.YtgdbnnmogddkaaaGreat.Mach
namespace Go.Proofs.YtgdbnnmogddkaaaGreat.Mach
open Go Go.Sort
set_option linter.unusedVariables false
set_option linter.unusedSimpArgs false
def OkB (N : Int) (x : T_Bar) : Prop := 0 ≤ x.1 ∧ x.1 < x.2.1 ∧ x.2.1 < N
theorem sn_all {P : T_Bar → Prop} {r : NB} {x : T_Bar} (h : ∀ i, i < r.1 → P (r.2 i)) (hx : P x) : ∀ i, i < (sn r x).1 → P ((sn r x).2 i) := by
  intro i hi
  show P (snoc r.1 r.2 x i)
  by_cases h' : i < r.1
  · rw [snoc_lt h']; exact h i h'
  · rw [snoc_ge h']; exact hx
theorem msI_all (v : T_Graph) (a : Nat) (r : NB) (h : ∀ i, i < r.1 → OkB v.1 (r.2 i)) : ∀ j, a + j < v.1.toNat → ∀ i, i < (msI v a r j).1 → OkB v.1 ((msI v a r j).2 i)
  | 0, _ => h
  | j + 1, hj => by
    have ih := msI_all v a r h j (by omega)
    simp only [msI]
    split
    · exact sn_all ih ⟨by simp only; omega, by simp only; omega, by simp only; omega⟩
    · exact ih
theorem msO_all (v : T_Graph) : ∀ a, a ≤ v.1.toNat → ∀ i, i < (msO v a).1 → OkB v.1 ((msO v a).2 i)
  | 0, _ => fun i hi => absurd hi (Nat.not_lt_zero _)
  | a + 1, ha => by
    simp only [msO]
    exact msI_all v a (msO v a) (msO_all v a (by omega)) _ (by omega)
theorem msP_all (v : T_Graph) : ∀ i, i < (msP v).1 → OkB v.1 ((msP v).2 i) := by
  unfold msP
  split
  · exact msO_all v _ (Nat.le_refl _)
  · exact fun i hi => absurd hi (Nat.not_lt_zero _)
theorem adD_all {P : T_Bar → Prop} (p : T_Pinned) (s : Nat → T_Bar) : ∀ k, (∀ i, i < k → P (s i)) → ∀ i, i < (adD p s k).2.1 → P ((adD p s k).2.2 i)
  | 0, _ => fun i hi => absurd hi (Nat.not_lt_zero _)
  | k + 1, h => by
    have ih := adD_all p s k (fun i hi => h i (by omega))
    simp only [adD]
    split
    · exact sn_all ih (h k (by omega))
    · exact ih
theorem rbL_all (p : T_Pinned) : ∀ i, i < (rbL p).1 → OkB p.1.1 ((rbL p).2 i) := by
  unfold rbL
  split
  · exact adD_all p _ _ (msP_all p.1)
  · exact fun i hi => absurd hi (Nat.not_lt_zero _)
theorem rbB_ok {p : T_Pinned} (h : rbB p = true) : pinnedF p = true ∧ arB p (rbL p) = true := by
  have hp : pinnedF p = true := by
    cases hh : pinnedF p with
    | true => rfl
    | false => rw [rbB, hh] at h; cases h
  refine ⟨hp, ?_⟩
  rw [rbL, if_pos h]
  exact (ad_arD hp (adD_ok p hp (msP p.1).2 (msP p.1).1)).1
def evL (e : T_Event) : T_BarS := (1, fun _ => (e.2.1, e.2.2.1, ()))
def evS (v : T_Site) (p : T_Pinned) (s : ByteArray) : T_Site := (p, (v.2.1.1 + 1, snTx v.2.1.1 v.2.1.2 s), ())
def evK (v : T_Site) (e : T_Event) : Int := ixI v.1.1.2.1.2 (brX e.2.1 e.2.2.1) v.1.1.2.1.1 0
noncomputable def evR (v : T_Site) (e : T_Event) : T_Site × Bool :=
  if siteF v = true ∧ v.2.1.1 < 20 then
    (if e.1 = 1 then (if arB v.1 (evL e) = true then (evS v (arP v.1 (evL e)) (weB kAdd (evL e) 1), true) else (v, false))
    else if e.1 = 2 then (if 0 ≤ evK v e then (evS v (woP v.1 (evK v e).toNat) (weB kBreak (evL e) 1), true) else (v, false))
    else if e.1 = 3 then (if e.2.1 = 0 ∧ e.2.2.1 = 0 then (evS v v.1 (ilB v.1), true) else (v, false))
    else if e.1 = 4 then (if rbB v.1 = true ∧ e.2.1 = 0 ∧ e.2.2.1 = 0 then (evS v (arP v.1 (rbL v.1)) (weB kRepair (rbL v.1) (rbL v.1).1), true) else (v, false))
    else (v, false))
  else (v, false)
def okE (e : T_Event) : Prop := InI e.1 ∧ InI e.2.1 ∧ InI e.2.2.1
theorem site_in {v : T_Site} (h : siteF v = true ∧ v.2.1.1 < 20) : pinnedF v.1 = true := by
  have := h.1
  unfold siteF at this
  cases hp : pinnedF v.1 with
  | true => rfl
  | false => rw [hp] at this; cases this
theorem site_dec1 (v : T_Site) : (bif !siteF v then true else (v.2.1.1 : Int) == 20) = !decide (siteF v = true ∧ v.2.1.1 < 20) := by
  cases hs : siteF v with
  | false => simp
  | true =>
    have h20 : (v.2.1.1 : Int) ≤ 20 := by
      unfold siteF at hs
      cases hp : pinnedF v.1 with
      | false => rw [hp] at hs; cases hs
      | true => rw [hp] at hs; simpa using hs
    by_cases h : v.2.1.1 < 20
    · have : ((v.2.1.1 : Int) == 20) = false := beq_eq_false_iff_ne.2 (by omega)
      simp [h, this]
    · have : ((v.2.1.1 : Int) == 20) = true := beq_iff_eq.2 (by omega)
      simp [h, this]
theorem site_dec2 (v : T_Site) : (bif !siteF v then true else decide ((v.2.1.1 : Int) ≥ 20)) = !decide (siteF v = true ∧ v.2.1.1 < 20) := by
  cases hs : siteF v with
  | false => simp
  | true =>
    by_cases h : v.2.1.1 < 20
    · simp [h, show ¬ (20 : Int) ≤ v.2.1.1 by omega]
    · simp [h, show (20 : Int) ≤ v.2.1.1 by omega]
theorem kAdd_z : (ByteArray.mk #[97, 100, 100]).size = 3 := rfl
theorem kBreak_z : (ByteArray.mk #[98, 114, 101, 97, 107]).size = 5 := rfl
theorem kRepair_z : (ByteArray.mk #[114, 101, 112, 97, 105, 114]).size = 6 := rfl
theorem con_Apply_i (v : T_Site) (hs : smS s_Site v) (e : T_Event) (he : okE e) : Con Tryz.prog 9 0 [] [siA v, evtA e] (siH (evR v e).1) (.tup [siV (evR v e).1, .p (.bool (evR v e).2)]) := by
  have hn : v.2.1.1 ≤ 1048576 := hs.2.1.1
  have h1 : v.1.1.2.1.1 ≤ 1048576 := hs.1.1.2.1.1
  have h2 : v.1.2.1.1 ≤ 1048576 := hs.1.2.1.1
  have cc := con_copySite v hs
  have ci := con_IsSite_i v hs
  have hd := site_dec1 v
  refine con_start Tryz.func9 rfl (by kernel_rfl) rfl (fun c hc => ?_)
  by_cases hok : siteF v = true ∧ v.2.1.1 < 20
  · have hp := site_in hok
    have hps := sm_pinnedD hp
    rw [decide_eq_true hok, hok.1] at hd
    rw [hok.1] at ci
    have hd' : (bif !true then true else (v.2.1.1 : Int) == 20) = false := hd
    have cl := con_withEnds kAdd (evL e) (by show 1 ≤ 1000; omega) (by show 3 ≤ 100; omega) (fun i hi => ⟨he.2.1, he.2.2⟩)
    have cb := con_withEnds kBreak (evL e) (by show 1 ≤ 1000; omega) (by show 5 ≤ 100; omega) (fun i hi => ⟨he.2.1, he.2.2⟩)
    by_cases k1 : e.1 = 1
    · have d1 : (e.1 == 1) = true := beq_iff_eq.2 k1
      have ca := con_ApplyRepair_i v.1 hs.1 (evL e) (by show 1 ≤ 1048576; omega)
      have hE : evR v e = if arB v.1 (evL e) = true then (evS v (arP v.1 (evL e)) (weB kAdd (evL e) 1), true) else (v, false) := by simp [evR, hok, k1]
      rw [hE]
      cases hb : arB v.1 (evL e) with
      | true =>
        rw [hb] at ca
        rw [if_pos rfl]
        have cp := con_copyPinned (arP v.1 (evL e)) (sm_arP _ _)
        generalize arP v.1 (evL e) = p at *
        refine path_ok mixed Tryz.func9 hc (aI1t v e p (weB kAdd (evL e) 1)) ?_
        simp only [All]
        repeat' (first | exact trivial | with_reducible apply And.intro)
        all_goals (first | exact aG _ | exact aA _ _ | exact aE _ | omega | rfl | (intros; first | assumption | exact trivial | rfl | contradiction | ((repeat' (first | assumption | apply anda | apply notf)); done)) | (exact cc) | (exact ci) | (exact hd') | (exact d1) | (exact ca) | (exact cl) | (exact cp) | (intros; simp [All, aEt]; done) | (intro t ht; by_cases h' : t < v.2.1.1 <;> simp [h', snTx, cvtL, cvt, tg, tru, All]; done) | (intros; simp [All, aEt, ntAL, ntA, ntP, ntL]; done))
      | false =>
        rw [hb] at ca
        rw [if_neg (by simp)]
        refine path_ok mixed Tryz.func9 hc (aI1f v e (arP v.1 (evL e)) (weB kAdd (evL e) 1)) ?_
        simp only [All]
        repeat' (first | exact trivial | with_reducible apply And.intro)
        all_goals (first | exact aG _ | exact aA _ _ | exact aE _ | omega | rfl | (intros; first | assumption | exact trivial | rfl | contradiction | ((repeat' (first | assumption | apply anda | apply notf)); done)) | (exact cc) | (exact ci) | (exact hd') | (exact d1) | (exact ca) | (exact cl) | (intros; simp [All, aEt]; done) | (intros; simp [All, aEt, ntAL, ntA, ntP, ntL]; done))
    have d1 : (e.1 == 1) = false := beq_eq_false_iff_ne.2 k1
    by_cases k2 : e.1 = 2
    · have d2 : (e.1 == 2) = true := beq_iff_eq.2 k2
      have cx := con_barX e.2.1 e.2.2.1
      have ck := con_IndexB v.1.1 (brX e.2.1 e.2.2.1) h1
      have hE : evR v e = if 0 ≤ evK v e then (evS v (woP v.1 (evK v e).toNat) (weB kBreak (evL e) 1), true) else (v, false) := by simp [evR, hok, k2]
      rw [hE]
      have hin := ixI_in v.1.1.2.1.2 (brX e.2.1 e.2.2.1) v.1.1.2.1.1 0
      change evK v e = -1 ∨ ((0 : Nat) : Int) ≤ evK v e ∧ evK v e < ((0 : Nat) : Int) + v.1.1.2.1.1 ∧ _ at hin
      change Con _ _ _ _ _ _ (.p (.int .i64 (evK v e))) at ck
      by_cases hk : 0 ≤ evK v e
      · rw [if_pos hk]
        have cw := con_withoutBar v.1 hp (evK v e).toNat (by omega)
        rw [show (((evK v e).toNat : Nat) : Int) = evK v e by omega] at cw
        have cp := con_copyPinned (woP v.1 (evK v e).toNat) (sm_wo hp _)
        have hkd : decide (evK v e ≥ 0) = true := decide_eq_true hk
        generalize hwp : woP v.1 (evK v e).toNat = p at *
        have hp1 : p.1.1 = v.1.1.1 := by rw [← hwp]; rfl
        have hp2 : p.2 = v.1.2 := by rw [← hwp]; rfl
        have cw' : Con Tryz.prog 37 0 [] [pinA v.1, .p (.int .i64 (evK v e))] (piH p) (piV p) := by
          show Con _ _ _ _ _ [(0, brOb p.1.2.1.1 p.1.2.1.2), (1, iOb p.2.1.1 p.2.1.2)] (.agg [.p (.int .i64 p.1.1), .ar 2 0 0 p.1.2.1.1, .ar 1 1 0 p.2.1.1])
          rw [hp1, hp2]; exact cw
        refine path_ok mixed Tryz.func9 hc (aI2t v e p (weB kBreak (evL e) 1) (brX e.2.1 e.2.2.1) (evK v e)) ?_
        simp only [All]
        repeat' (first | exact trivial | with_reducible apply And.intro)
        all_goals (first | exact aG _ | exact aA _ _ | exact aE _ | omega | rfl | (intros; first | assumption | exact trivial | rfl | contradiction | ((repeat' (first | assumption | apply anda | apply notf)); done)) | (exact cc) | (exact ci) | (exact hd') | (exact d1) | (exact d2) | (exact cx) | (exact ck) | (exact hkd) | (exact cw') | (exact cb) | (exact cp) | (intros; simp [All, aEt]; done) | (intro t ht; by_cases h' : t < v.2.1.1 <;> simp [h', snTx, cvtL, cvt, tg, tru, All]; done) | (intros; simp [All, aEt, ntAL, ntA, ntP, ntL]; done))
      · rw [if_neg hk]
        have hkd : decide (evK v e ≥ 0) = false := decide_eq_false hk
        refine path_ok mixed Tryz.func9 hc (aI2f v e (weB kBreak (evL e) 1) (brX e.2.1 e.2.2.1) (evK v e)) ?_
        simp only [All]
        repeat' (first | exact trivial | with_reducible apply And.intro)
        all_goals (first | exact aG _ | exact aA _ _ | exact aE _ | omega | rfl | (intros; first | assumption | exact trivial | rfl | contradiction | ((repeat' (first | assumption | apply anda | apply notf)); done)) | (exact cc) | (exact ci) | (exact hd') | (exact d1) | (exact d2) | (exact cx) | (exact ck) | (exact hkd) | (exact cb) | (intros; simp [All, aEt]; done) | (intros; simp [All, aEt, ntAL, ntA, ntP, ntL]; done))
    have d2 : (e.1 == 2) = false := beq_eq_false_iff_ne.2 k2
    by_cases k3 : e.1 = 3
    · have d3 : (e.1 == 3) = true := beq_iff_eq.2 k3
      have cI := con_Inspect_i v.1 hs.1
      have hE : evR v e = if e.2.1 = 0 ∧ e.2.2.1 = 0 then (evS v v.1 (ilB v.1), true) else (v, false) := by simp [evR, hok, k3]
      rw [hE]
      by_cases h0 : e.2.1 = 0 ∧ e.2.2.1 = 0
      · rw [if_pos h0]
        have hz : (!bif e.2.1 == 0 then e.2.2.1 == 0 else false) = false := by simp [h0.1, h0.2]
        have cp := con_copyPinned v.1 hs.1
        refine path_ok mixed Tryz.func9 hc (aI3t v e (ilB v.1)) ?_
        simp only [All]
        repeat' (first | exact trivial | with_reducible apply And.intro)
        all_goals (first | exact aG _ | exact aA _ _ | exact aE _ | omega | rfl | (intros; first | assumption | exact trivial | rfl | contradiction | ((repeat' (first | assumption | apply anda | apply notf)); done)) | (exact cc) | (exact ci) | (exact hd') | (exact d1) | (exact d2) | (exact d3) | (exact hz) | (exact cI) | (exact cp) | (intros; simp [All, aEt]; done) | (intro t ht; by_cases h' : t < v.2.1.1 <;> simp [h', snTx, cvtL, cvt, tg, tru, All]; done) | (intros; simp [All, aEt, ntAL, ntA, ntP, ntL]; done))
      · rw [if_neg h0]
        have hz : (!bif e.2.1 == 0 then e.2.2.1 == 0 else false) = true := by
          by_cases h3 : e.2.1 = 0
          · have h4 : (e.2.2.1 == 0) = false := beq_eq_false_iff_ne.2 (fun h => h0 ⟨h3, h⟩)
            simp [h3, h4]
          · have h4 : (e.2.1 == 0) = false := beq_eq_false_iff_ne.2 h3
            rw [h4]; rfl
        refine path_ok mixed Tryz.func9 hc (aI3f v e (ilB v.1)) ?_
        simp only [All]
        repeat' (first | exact trivial | with_reducible apply And.intro)
        all_goals (first | exact aG _ | exact aA _ _ | exact aE _ | omega | rfl | (intros; first | assumption | exact trivial | rfl | contradiction | ((repeat' (first | assumption | apply anda | apply notf)); done)) | (exact cc) | (exact ci) | (exact hd') | (exact d1) | (exact d2) | (exact d3) | (exact hz) | (exact cI) | (intros; simp [All, aEt]; done) | (intros; simp [All, aEt, ntAL, ntA, ntP, ntL]; done))
    have d3 : (e.1 == 3) = false := beq_eq_false_iff_ne.2 k3
    by_cases k4 : e.1 = 4
    · have d4 : (e.1 == 4) = true := beq_iff_eq.2 k4
      have cr := con_RepairBars_i v.1 hs.1
      have hrn := rbL_n v.1
      have hra := rbL_all v.1
      have hN := (pin_ok hp).N
      have ce := con_withEnds kRepair (rbL v.1) (by omega) (by show 6 ≤ 100; omega) (fun i hi => by have := hra i hi; unfold OkB at this; unfold InI; omega)
      have hE : evR v e = if rbB v.1 = true ∧ e.2.1 = 0 ∧ e.2.2.1 = 0 then (evS v (arP v.1 (rbL v.1)) (weB kRepair (rbL v.1) (rbL v.1).1), true) else (v, false) := by simp [evR, hok, k4]
      rw [hE]
      by_cases h0 : rbB v.1 = true ∧ e.2.1 = 0 ∧ e.2.2.1 = 0
      · rw [if_pos h0]
        have hz : (bif (bif rbB v.1 then e.2.1 == 0 else false) then e.2.2.1 == 0 else false) = true := by simp [h0.1, h0.2.1, h0.2.2]
        have ca := con_ApplyRepair_i v.1 hs.1 (rbL v.1) (by omega)
        rw [(rbB_ok h0.1).2] at ca
        have cp := con_copyPinned (arP v.1 (rbL v.1)) (sm_arP _ _)
        generalize arP v.1 (rbL v.1) = p at *
        refine path_ok mixed Tryz.func9 hc (aI4t v e p (weB kRepair (rbL v.1) (rbL v.1).1) (rbL v.1).1 (rbL v.1).2 (rbB v.1)) ?_
        simp only [All]
        repeat' (first | exact trivial | with_reducible apply And.intro)
        all_goals (first | exact aG _ | exact aA _ _ | exact aE _ | omega | rfl | (intros; first | assumption | exact trivial | rfl | contradiction | ((repeat' (first | assumption | apply anda | apply notf)); done)) | (exact cc) | (exact ci) | (exact hd') | (exact d1) | (exact d2) | (exact d3) | (exact d4) | (exact hz) | (exact cr) | (exact ca) | (exact ce) | (exact cp) | (intros; simp [All, aEt]; done) | (intro t ht; by_cases h' : t < v.2.1.1 <;> simp [h', snTx, cvtL, cvt, tg, tru, All]; done) | (intros; simp [All, aEt, ntAL, ntA, ntP, ntL]; done))
      · rw [if_neg h0]
        have hz : (bif (bif rbB v.1 then e.2.1 == 0 else false) then e.2.2.1 == 0 else false) = false := by
          cases hr : rbB v.1 with
          | false => rfl
          | true =>
            by_cases h3 : e.2.1 = 0
            · have h4 : (e.2.2.1 == 0) = false := beq_eq_false_iff_ne.2 (fun h => h0 ⟨hr, h3, h⟩)
              simp [h3, h4]
            · have h4 : (e.2.1 == 0) = false := beq_eq_false_iff_ne.2 h3
              rw [h4]; rfl
        refine path_ok mixed Tryz.func9 hc (aI4f v e (weB kRepair (rbL v.1) (rbL v.1).1) (rbL v.1).1 (rbL v.1).2 (rbB v.1)) ?_
        simp only [All]
        repeat' (first | exact trivial | with_reducible apply And.intro)
        all_goals (first | exact aG _ | exact aA _ _ | exact aE _ | omega | rfl | (intros; first | assumption | exact trivial | rfl | contradiction | ((repeat' (first | assumption | apply anda | apply notf)); done)) | (exact cc) | (exact ci) | (exact hd') | (exact d1) | (exact d2) | (exact d3) | (exact d4) | (exact hz) | (exact cr) | (exact ce) | (intros; simp [All, aEt]; done) | (intros; simp [All, aEt, ntAL, ntA, ntP, ntL]; done))
    have d4 : (e.1 == 4) = false := beq_eq_false_iff_ne.2 k4
    have hE : evR v e = (v, false) := by simp [evR, k1, k2, k3, k4]
    rw [hE]
    refine path_ok mixed Tryz.func9 hc (aI5 v e) ?_
    simp only [All]
    repeat' (first | exact trivial | with_reducible apply And.intro)
    all_goals (first | exact aG _ | exact aA _ _ | exact aE _ | omega | rfl | (intros; first | assumption | exact trivial | rfl | contradiction | ((repeat' (first | assumption | apply anda | apply notf)); done)) | (exact cc) | (exact ci) | (exact hd') | (exact d1) | (exact d2) | (exact d3) | (exact d4) | (intros; simp [All, aEt]; done) | (intros; simp [All, aEt, ntAL, ntA, ntP, ntL]; done))
  · rw [decide_eq_false hok] at hd
    have hE : evR v e = (v, false) := by simp [evR, hok]
    rw [hE]
    refine path_ok mixed Tryz.func9 hc (aIy v e (siteF v)) ?_
    simp only [All]
    repeat' (first | exact trivial | with_reducible apply And.intro)
    all_goals (first | exact aG _ | exact aA _ _ | exact aE _ | omega | rfl | (intros; first | assumption | exact trivial | rfl | contradiction | ((repeat' (first | assumption | apply anda | apply notf)); done)) | (exact cc) | (exact ci) | (exact hd) | (intros; simp [All, aEt]; done) | (intros; simp [All, aEt, ntAL, ntA, ntP, ntL]; done))
end Go.Proofs.YtgdbnnmogddkaaaGreat.Mach
namespace Go.Proofs.YtgdbnnmogddkaaaGreat.Mach
open Go Go.Sort
set_option linter.unusedVariables false
set_option linter.unusedSimpArgs false
def siQ (N : Int) (a b c nb m n : Nat) : Ob := ⟨true, 4, 1, fun _ => [.p (.int .i64 N), .ar 2 a 0 nb, .ar 1 b 0 m, .ar 1 c 0 n]⟩
def siB (v : T_Site) : Ob := ⟨true, 4, 1, fun _ => [.p (.int .i64 v.1.1.1), graphL v.1.1.2.1, inL v.1.2.1, stLt v.2.1.1 v.2.1.2]⟩
def zS4 : Ob := ⟨true, 4, 1, fun _ => [.p (.int .i64 0), .p .nil, .p .nil, .p .nil]⟩
def evLs (l : T_EventS) : AV := .p (.seq true 3 l.1 (fun i => [.int .i64 (l.2 i).1, .int .i64 (l.2 i).2.1, .int .i64 (l.2 i).2.2.1]))
def SRi1 (v u : T_Site) (l : T_EventS) (k : Nat) : St :=
  ⟨[siA v, evLs l, .pt 4 0 0 0, .p .any, .pt 4 1 0 0, .pt 4 2 0 0] ++ List.replicate 4 anyA ++ [evLs l, .p (.int .i64 l.1), .p (.int .i64 k)] ++ List.replicate 11 anyA,
   [(0, siB v), (1, zS4), (2, siQ u.1.1.1 3 4 5 u.1.1.2.1.1 u.1.2.1.1 u.2.1.1), (3, brOb u.1.1.2.1.1 u.1.1.2.1.2), (4, iOb u.1.2.1.1 u.1.2.1.2), (5, stOt u.2.1.1 u.2.1.2)], 6⟩
def SRs1 (v u : T_Site) (l : T_EventS) (k : Nat) : St :=
  ⟨[siA v, evLs l, .pt 4 0 0 0, .p .any, .pt 4 1 0 0, .pt 4 2 0 0, .p (.int .i64 k)] ++ List.replicate 22 anyA,
   [(0, siB v), (1, zS4), (2, siQ u.1.1.1 3 4 5 u.1.1.2.1.1 u.1.2.1.1 u.2.1.1), (3, brOb u.1.1.2.1.1 u.1.1.2.1.2), (4, iOb u.1.2.1.1 u.1.2.1.2), (5, stOt u.2.1.1 u.2.1.2)], 6⟩
theorem wIz (v : T_Site) (l : T_EventS) :
    pieceOb Tryz.prog 0 [rg 2, rm [(1, oc (siH v) (siV v))] 2, rg 3, .head] [.code (bodyOf Tryz.f16)] (start Tryz.f16 [] 0 [siA v, evLs l]) [0, 32, 128, 96, 97, 98] 1 (SRi1 v v l 0) =
    some (zf82, [(NT 0 1),Con Tryz.prog 31 0 [] [(zf16 v)] (zf17 v) ((zf117 v)),(NT 0 1),((true = true) →  (AN 1)),(AI v.1.1.1),(AN v.1.1.2.1.1),(AP v.1.1.2.1.1 (fun i => [.int .i64 ((v.1.1.2.1.2 i).1), .int .i64 ((v.1.1.2.1.2 i).2.1)])),(AN v.1.2.1.1),(AP v.1.2.1.1 (fun i => [.int .i64 (v.1.2.1.2 i)])),(AN v.2.1.1),(AP v.2.1.1 (fun i => [.str (v.2.1.2 i)])),(AN l.1),(AP l.1 (fun i => [.int .i64 ((l.2 i).1), .int .i64 ((l.2 i).2.1), .int .i64 ((l.2 i).2.2.1)])),(AN 0),(AN 0),(AN 0),(AN l.1),(AP l.1 (fun i => [.int .i64 ((l.2 i).1), .int .i64 ((l.2 i).2.1), .int .i64 ((l.2 i).2.2.1)])),(AI ((↑l.1 : Int))),((0 : Int) = (↑0 : Int)),((([AV.p (PV.int IntKind.i64 v.1.1.1), graphL v.1.1.2.1, inL v.1.2.1, stLt v.2.1.1 v.2.1.2].length) : Nat) = 4),(NL 1 1),(NL 1 1),(AI v.1.1.1),(AN v.1.1.2.1.1),(AP v.1.1.2.1.1 (fun i => [.int .i64 ((v.1.1.2.1.2 i).1), .int .i64 ((v.1.1.2.1.2 i).2.1)])),(AN v.1.2.1.1),(AP v.1.2.1.1 (fun i => [.int .i64 (v.1.2.1.2 i)])),(AN v.2.1.1),(AP v.2.1.1 (fun i => [.str (v.2.1.2 i)])),((((List.map (fun v => AV.p (absV v)) [Value.int IntKind.i64 0, Value.slice none 0 0, Value.slice none 0 0, Value.slice none 0 0]).length) : Nat) = 4),(NL 1 1),(NL 1 1),(AI 0),((((List.map (fun v => AV.p (absV v)) [Value.int IntKind.i64 0, Value.slice none 0 0, Value.slice none 0 0, Value.slice none 0 0]).length) : Nat) = 4),(NL 1 1),(NL 1 1),(AI v.1.1.1),(AN 0),(AN v.1.1.2.1.1),(AN 0),(AN v.1.2.1.1),(AN 0),(AN v.2.1.1),(AN 2),(NL v.1.1.2.1.1 v.1.1.2.1.1),(AA v.1.1.2.1.1 (fun i => [.p (.int .i64 ((v.1.1.2.1.2 i).1)), .p (.int .i64 ((v.1.1.2.1.2 i).2.1))])),(AN 1),(NL v.1.2.1.1 v.1.2.1.1),(AA v.1.2.1.1 (fun i => [.p (.int .i64 (v.1.2.1.2 i))])),(AN 1),(NL v.2.1.1 v.2.1.1),(AA v.2.1.1 (fun i => [.p (.str (v.2.1.2 i))]))]) := by kernel_rfl
theorem wIa (v u w : T_Site) (l : T_EventS) (k : Nat) (b : Bool) :
    pieceOb Tryz.prog 0 [rg 1, .dec true, rg 4, rm [(2, oc (siH w) (.tup [siV w, .p (.bool b)]))] 4, rg 2, .head] zf82 (SRi1 v u l k) [0, 1, 2, 230, 231, 232] 1 (SRi1 v w l (k + 1)) =
    some (zf82, [((decide ((↑k : Int) < (↑l.1 : Int))) = true),(IL 0 (↑k : Int)),(IT (↑k : Int) (↑l.1 : Int)),(NT 0 1),((true = true) →  (AN 1)),(NT 0 1),(NT 0 1),(AN 2),(NL u.1.1.2.1.1 u.1.1.2.1.1),(AN 1),(NL u.1.2.1.1 u.1.2.1.1),(AN 1),(NL u.2.1.1 u.2.1.1),Con Tryz.prog 9 0 [] [(zf16 u), (zf116 l k)] (zf17 w) ((zf107 w b)),(NT 0 1),((true = true) →  (AN 1)),(R0 ((↑k : Int) + 1)),(R1 ((↑k : Int) + 1)),(AI v.1.1.1),(AN v.1.1.2.1.1),(AP v.1.1.2.1.1 (fun i => [.int .i64 ((v.1.1.2.1.2 i).1), .int .i64 ((v.1.1.2.1.2 i).2.1)])),(AN v.1.2.1.1),(AP v.1.2.1.1 (fun i => [.int .i64 (v.1.2.1.2 i)])),(AN v.2.1.1),(AP v.2.1.1 (fun i => [.str (v.2.1.2 i)])),(AN l.1),(AP l.1 (fun i => [.int .i64 ((l.2 i).1), .int .i64 ((l.2 i).2.1), .int .i64 ((l.2 i).2.2.1)])),(AN 0),(AN 0),(AN 0),(AN l.1),(AP l.1 (fun i => [.int .i64 ((l.2 i).1), .int .i64 ((l.2 i).2.1), .int .i64 ((l.2 i).2.2.1)])),(AI ((↑l.1 : Int))),((((↑k : Int) + 1) : Int) = (↑(k + 1) : Int)),(AN 4),(NL 1 1),(NL 1 1),(AI v.1.1.1),(AN v.1.1.2.1.1),(AP v.1.1.2.1.1 (fun i => [.int .i64 ((v.1.1.2.1.2 i).1), .int .i64 ((v.1.1.2.1.2 i).2.1)])),(AN v.1.2.1.1),(AP v.1.2.1.1 (fun i => [.int .i64 (v.1.2.1.2 i)])),(AN v.2.1.1),(AP v.2.1.1 (fun i => [.str (v.2.1.2 i)])),(AN 4),(NL 1 1),(NL 1 1),(AI 0),(AN 4),(NL 1 1),(NL 1 1),(AI w.1.1.1),(AN 0),(AN w.1.1.2.1.1),(AN 0),(AN w.1.2.1.1),(AN 0),(AN w.2.1.1),(AN 2),(NL w.1.1.2.1.1 w.1.1.2.1.1),(AA w.1.1.2.1.1 (fun i => [.p (.int .i64 ((w.1.1.2.1.2 i).1)), .p (.int .i64 ((w.1.1.2.1.2 i).2.1))])),(AN 1),(NL w.1.2.1.1 w.1.2.1.1),(AA w.1.2.1.1 (fun i => [.p (.int .i64 (w.1.2.1.2 i))])),(AN 1),(NL w.2.1.1 w.2.1.1),(AA w.2.1.1 (fun i => [.p (.str (w.2.1.2 i))]))]) := by kernel_rfl
theorem wIe (v u : T_Site) (l : T_EventS) (k : Nat) :
    pathOb Tryz.prog Tryz.f16 0 [rg 1, .dec false, rg 2] zf82 (SRi1 v u l k) [3, 4, 5] 1 (siH u) (siV u) =
    some [((decide ((↑k : Int) < (↑l.1 : Int))) = false),(NT 0 1),(NT 0 1),((true = true) →  (AN 1)),(NT 0 1),(AI u.1.1.1),(AN 0),(AN u.1.1.2.1.1),(AN 0),(AN u.1.2.1.1),(AN 0),(AN u.2.1.1),(AN 2),(NL u.1.1.2.1.1 u.1.1.2.1.1),(AA u.1.1.2.1.1 (fun i => [.p (.int .i64 ((u.1.1.2.1.2 i).1)), .p (.int .i64 ((u.1.1.2.1.2 i).2.1))])),(AN 1),(NL u.1.2.1.1 u.1.2.1.1),(AA u.1.2.1.1 (fun i => [.p (.int .i64 (u.1.2.1.2 i))])),(AN 1),(NL u.2.1.1 u.2.1.1),(AA u.2.1.1 (fun i => [.p (.str (u.2.1.2 i))])),(AE u.1.1.2.1.1),(AE u.1.2.1.1),(AE u.2.1.1)] := by kernel_rfl
theorem wSz (v : T_Site) (l : T_EventS) :
    pieceOb Tryz.prog 0 [rg 2, rm [(1, oc (siH v) (siV v))] 2, rg 1, .head] [.code (bodyOf Tryz.f14)] (start Tryz.f14 [] 0 [siA v, evLs l]) [0, 32, 128, 96, 97, 98] 1 (SRs1 v v l 0) =
    some (zf83, [(NT 0 1),Con Tryz.prog 21 0 [] [(zf16 v)] (zf17 v) ((zf117 v)),(NT 0 1),((true = true) →  (AN 1)),(AI v.1.1.1),(AN v.1.1.2.1.1),(AP v.1.1.2.1.1 (fun i => [.int .i64 ((v.1.1.2.1.2 i).1), .int .i64 ((v.1.1.2.1.2 i).2.1)])),(AN v.1.2.1.1),(AP v.1.2.1.1 (fun i => [.int .i64 (v.1.2.1.2 i)])),(AN v.2.1.1),(AP v.2.1.1 (fun i => [.str (v.2.1.2 i)])),(AN l.1),(AP l.1 (fun i => [.int .i64 ((l.2 i).1), .int .i64 ((l.2 i).2.1), .int .i64 ((l.2 i).2.2.1)])),(AN 0),(AN 0),(AN 0),((0 : Int) = (↑0 : Int)),((([AV.p (PV.int IntKind.i64 v.1.1.1), graphL v.1.1.2.1, inL v.1.2.1, stLt v.2.1.1 v.2.1.2].length) : Nat) = 4),(NL 1 1),(NL 1 1),(AI v.1.1.1),(AN v.1.1.2.1.1),(AP v.1.1.2.1.1 (fun i => [.int .i64 ((v.1.1.2.1.2 i).1), .int .i64 ((v.1.1.2.1.2 i).2.1)])),(AN v.1.2.1.1),(AP v.1.2.1.1 (fun i => [.int .i64 (v.1.2.1.2 i)])),(AN v.2.1.1),(AP v.2.1.1 (fun i => [.str (v.2.1.2 i)])),((((List.map (fun v => AV.p (absV v)) [Value.int IntKind.i64 0, Value.slice none 0 0, Value.slice none 0 0, Value.slice none 0 0]).length) : Nat) = 4),(NL 1 1),(NL 1 1),(AI 0),((((List.map (fun v => AV.p (absV v)) [Value.int IntKind.i64 0, Value.slice none 0 0, Value.slice none 0 0, Value.slice none 0 0]).length) : Nat) = 4),(NL 1 1),(NL 1 1),(AI v.1.1.1),(AN 0),(AN v.1.1.2.1.1),(AN 0),(AN v.1.2.1.1),(AN 0),(AN v.2.1.1),(AN 2),(NL v.1.1.2.1.1 v.1.1.2.1.1),(AA v.1.1.2.1.1 (fun i => [.p (.int .i64 ((v.1.1.2.1.2 i).1)), .p (.int .i64 ((v.1.1.2.1.2 i).2.1))])),(AN 1),(NL v.1.2.1.1 v.1.2.1.1),(AA v.1.2.1.1 (fun i => [.p (.int .i64 (v.1.2.1.2 i))])),(AN 1),(NL v.2.1.1 v.2.1.1),(AA v.2.1.1 (fun i => [.p (.str (v.2.1.2 i))]))]) := by kernel_rfl
theorem wSa (v u w : T_Site) (l : T_EventS) (k : Nat) :
    pieceOb Tryz.prog 0 [rg 4, .dec true, rm [(5, oc (siH w) (.tup [siV w, .p (.bool true)]))] 6, rg 1, .dec true, rg 2, rg 3, .head] zf83 (SRs1 v u l k) [0, 1, 2, 294, 295, 296] 1 (SRs1 v w l (k + 1)) =
    some (zf83, [((decide ((↑k : Int) < (↑l.1 : Int))) = true),(NT 0 1),(IL 0 (↑k : Int)),(IT (↑k : Int) (↑l.1 : Int)),(AN 2),(NL u.1.1.2.1.1 u.1.1.2.1.1),(AN 1),(NL u.1.2.1.1 u.1.2.1.1),(AN 1),(NL u.2.1.1 u.2.1.1),Con Tryz.prog 6 0 [] [(zf16 u), (zf116 l k)] (zf17 w) (.tup [(zf117 w), .p (.bool true)]),(NT 0 1),((true = true) →  (AN 1)),(true = true),(NT 0 1),(NT 0 1),((true = true) →  (AN 1)),(R0 ((↑k : Int) + 1)),(R1 ((↑k : Int) + 1)),(AI v.1.1.1),(AN v.1.1.2.1.1),(AP v.1.1.2.1.1 (fun i => [.int .i64 ((v.1.1.2.1.2 i).1), .int .i64 ((v.1.1.2.1.2 i).2.1)])),(AN v.1.2.1.1),(AP v.1.2.1.1 (fun i => [.int .i64 (v.1.2.1.2 i)])),(AN v.2.1.1),(AP v.2.1.1 (fun i => [.str (v.2.1.2 i)])),(AN l.1),(AP l.1 (fun i => [.int .i64 ((l.2 i).1), .int .i64 ((l.2 i).2.1), .int .i64 ((l.2 i).2.2.1)])),(AN 0),(AN 0),(AN 0),((((↑k : Int) + 1) : Int) = (↑(k + 1) : Int)),(AN 4),(NL 1 1),(NL 1 1),(AI v.1.1.1),(AN v.1.1.2.1.1),(AP v.1.1.2.1.1 (fun i => [.int .i64 ((v.1.1.2.1.2 i).1), .int .i64 ((v.1.1.2.1.2 i).2.1)])),(AN v.1.2.1.1),(AP v.1.2.1.1 (fun i => [.int .i64 (v.1.2.1.2 i)])),(AN v.2.1.1),(AP v.2.1.1 (fun i => [.str (v.2.1.2 i)])),(AN 4),(NL 1 1),(NL 1 1),(AI 0),(AN 4),(NL 1 1),(NL 1 1),(AI w.1.1.1),(AN 0),(AN w.1.1.2.1.1),(AN 0),(AN w.1.2.1.1),(AN 0),(AN w.2.1.1),(AN 2),(NL w.1.1.2.1.1 w.1.1.2.1.1),(AA w.1.1.2.1.1 (fun i => [.p (.int .i64 ((w.1.1.2.1.2 i).1)), .p (.int .i64 ((w.1.1.2.1.2 i).2.1))])),(AN 1),(NL w.1.2.1.1 w.1.2.1.1),(AA w.1.2.1.1 (fun i => [.p (.int .i64 (w.1.2.1.2 i))])),(AN 1),(NL w.2.1.1 w.2.1.1),(AA w.2.1.1 (fun i => [.p (.str (w.2.1.2 i))]))]) := by kernel_rfl
theorem wSb (v u w : T_Site) (l : T_EventS) (k : Nat) :
    pieceOb Tryz.prog 0 [rg 4, .dec true, rm [(5, oc (siH w) (.tup [siV w, .p (.bool false)]))] 6, rg 1, .dec false, rg 3, .head] zf83 (SRs1 v u l k) [0, 1, 2, 3, 4, 5] 1 (SRs1 v u l (k + 1)) =
    some (zf83, [((decide ((↑k : Int) < (↑l.1 : Int))) = true),(NT 0 1),(IL 0 (↑k : Int)),(IT (↑k : Int) (↑l.1 : Int)),(AN 2),(NL u.1.1.2.1.1 u.1.1.2.1.1),(AN 1),(NL u.1.2.1.1 u.1.2.1.1),(AN 1),(NL u.2.1.1 u.2.1.1),Con Tryz.prog 6 0 [] [(zf16 u), (zf116 l k)] (zf17 w) (.tup [(zf117 w), .p (.bool false)]),(NT 0 1),((true = true) →  (AN 1)),(false = false),(R0 ((↑k : Int) + 1)),(R1 ((↑k : Int) + 1)),(AI v.1.1.1),(AN v.1.1.2.1.1),(AP v.1.1.2.1.1 (fun i => [.int .i64 ((v.1.1.2.1.2 i).1), .int .i64 ((v.1.1.2.1.2 i).2.1)])),(AN v.1.2.1.1),(AP v.1.2.1.1 (fun i => [.int .i64 (v.1.2.1.2 i)])),(AN v.2.1.1),(AP v.2.1.1 (fun i => [.str (v.2.1.2 i)])),(AN l.1),(AP l.1 (fun i => [.int .i64 ((l.2 i).1), .int .i64 ((l.2 i).2.1), .int .i64 ((l.2 i).2.2.1)])),(AN 0),(AN 0),(AN 0),((((↑k : Int) + 1) : Int) = (↑(k + 1) : Int)),(AN 4),(NL 1 1),(NL 1 1),(AI v.1.1.1),(AN v.1.1.2.1.1),(AP v.1.1.2.1.1 (fun i => [.int .i64 ((v.1.1.2.1.2 i).1), .int .i64 ((v.1.1.2.1.2 i).2.1)])),(AN v.1.2.1.1),(AP v.1.2.1.1 (fun i => [.int .i64 (v.1.2.1.2 i)])),(AN v.2.1.1),(AP v.2.1.1 (fun i => [.str (v.2.1.2 i)])),(AN 4),(NL 1 1),(NL 1 1),(AI 0),(AN 4),(NL 1 1),(NL 1 1),(AI u.1.1.1),(AN 0),(AN u.1.1.2.1.1),(AN 0),(AN u.1.2.1.1),(AN 0),(AN u.2.1.1),(AN 2),(NL u.1.1.2.1.1 u.1.1.2.1.1),(AA u.1.1.2.1.1 (fun i => [.p (.int .i64 ((u.1.1.2.1.2 i).1)), .p (.int .i64 ((u.1.1.2.1.2 i).2.1))])),(AN 1),(NL u.1.2.1.1 u.1.2.1.1),(AA u.1.2.1.1 (fun i => [.p (.int .i64 (u.1.2.1.2 i))])),(AN 1),(NL u.2.1.1 u.2.1.1),(AA u.2.1.1 (fun i => [.p (.str (u.2.1.2 i))]))]) := by kernel_rfl
theorem wSe (v u : T_Site) (l : T_EventS) (k : Nat) :
    pathOb Tryz.prog Tryz.f14 0 [rg 4, .dec false, rg 2] zf83 (SRs1 v u l k) [3, 4, 5] 1 (siH u) (siV u) =
    some [((decide ((↑k : Int) < (↑l.1 : Int))) = false),(NT 0 1),(NT 0 1),((true = true) →  (AN 1)),(NT 0 1),(AI u.1.1.1),(AN 0),(AN u.1.1.2.1.1),(AN 0),(AN u.1.2.1.1),(AN 0),(AN u.2.1.1),(AN 2),(NL u.1.1.2.1.1 u.1.1.2.1.1),(AA u.1.1.2.1.1 (fun i => [.p (.int .i64 ((u.1.1.2.1.2 i).1)), .p (.int .i64 ((u.1.1.2.1.2 i).2.1))])),(AN 1),(NL u.1.2.1.1 u.1.2.1.1),(AA u.1.2.1.1 (fun i => [.p (.int .i64 (u.1.2.1.2 i))])),(AN 1),(NL u.2.1.1 u.2.1.1),(AA u.2.1.1 (fun i => [.p (.str (u.2.1.2 i))])),(AE u.1.1.2.1.1),(AE u.1.2.1.1),(AE u.2.1.1)] := by kernel_rfl
theorem we1 (w : ByteArray) (e : T_Event) : weB w (evL e) 1 = w ++ bsB (1, fun _ => brX e.2.1 e.2.2.1) 1 := by
  have hle : (brX e.2.1 e.2.2.1).1 ≤ (brX e.2.1 e.2.2.1).2.1 := by
    simp only [brX]; split <;> split <;> omega
  show (w ++ kBlank) ++ enB (e.2.1, e.2.2.1, ()) = w ++ bsB (1, fun _ => brX e.2.1 e.2.2.1) 1
  rw [← enB_brX, ← we_bs w (1, fun _ => brX e.2.1 e.2.2.1) 1 (fun i hi => hle)]
  rfl
theorem brX_InI {a b : Int} (ha : InI a) (hb : InI b) : InI (brX a b).1 ∧ InI (brX a b).2.1 := by
  unfold InI at *
  simp only [brX]
  constructor <;> split <;> omega
theorem con_Apply_s (v : T_Site) (hs : smS s_Site v) (e : T_Event) (he : okE e) : Con Tryz.prog 6 0 [] [siA v, evtA e] (siH (evR v e).1) (.tup [siV (evR v e).1, .p (.bool (evR v e).2)]) := by
  have hn : v.2.1.1 ≤ 1048576 := hs.2.1.1
  have h1 : v.1.1.2.1.1 ≤ 1048576 := hs.1.1.2.1.1
  have h2 : v.1.2.1.1 ≤ 1048576 := hs.1.2.1.1
  have cc := con_l31Copy v hs
  have ci := con_IsSite_s v hs
  have hd := site_dec2 v
  refine con_start Tryz.func6 rfl (by kernel_rfl) rfl (fun c hc => ?_)
  by_cases hok : siteF v = true ∧ v.2.1.1 < 20
  · have hp := site_in hok
    rw [decide_eq_true hok, hok.1] at hd
    rw [hok.1] at ci
    have hd' : (bif !true then true else decide ((v.2.1.1 : Int) ≥ 20)) = false := hd
    have hbI := brX_InI he.2.1 he.2.2
    have cl := con_l31Bars (1, fun _ => brX e.2.1 e.2.2.1) (by show 1 ≤ 1000; omega) (fun i hi => hbI)
    have hz1 := bsB_size (1, fun _ => brX e.2.1 e.2.2.1) 1
    change Con _ _ _ _ _ _ (.p (.str (bsB (1, fun _ => brX e.2.1 e.2.2.1) 1))) at cl
    have wA := we1 kAdd e
    have wB := we1 kBreak e
    by_cases k1 : e.1 = 1
    · have d1 : (e.1 == 1) = true := beq_iff_eq.2 k1
      have ca := con_ApplyRepair_s v.1 hs.1 (evL e) (by show 1 ≤ 1048576; omega)
      have hE : evR v e = if arB v.1 (evL e) = true then (evS v (arP v.1 (evL e)) (weB kAdd (evL e) 1), true) else (v, false) := by simp [evR, hok, k1]
      rw [hE]
      cases hb : arB v.1 (evL e) with
      | true =>
        rw [hb] at ca
        rw [if_pos rfl, wA]
        generalize arP v.1 (evL e) = p at *
        generalize bsB (1, fun _ => brX e.2.1 e.2.2.1) 1 = s at *
        refine path_ok mixed Tryz.func6 hc (aS1t v e p s) ?_
        simp only [All]
        repeat' (first | exact trivial | with_reducible apply And.intro)
        all_goals (first | exact aG _ | exact aA _ _ | exact aE _ | omega | rfl | (intros; first | assumption | exact trivial | rfl | contradiction | ((repeat' (first | assumption | apply anda | apply notf)); done)) | (exact cc) | (exact ci) | (exact hd') | (exact d1) | (exact ca) | (exact cl) | (simp only [kAdd_z]; omega) | (intros; simp [All, aEt]; done) | (intro t ht; by_cases h' : t < v.2.1.1 <;> simp [h', snTx, kAdd, cvtL, cvt, tg, tru, All]; done) | (intros; simp [All, aEt, ntAL, ntA, ntP, ntL]; done))
      | false =>
        rw [hb] at ca
        rw [if_neg (by simp)]
        refine path_ok mixed Tryz.func6 hc (aS1f v e (arP v.1 (evL e))) ?_
        simp only [All]
        repeat' (first | exact trivial | with_reducible apply And.intro)
        all_goals (first | exact aG _ | exact aA _ _ | exact aE _ | omega | rfl | (intros; first | assumption | exact trivial | rfl | contradiction | ((repeat' (first | assumption | apply anda | apply notf)); done)) | (exact cc) | (exact ci) | (exact hd') | (exact d1) | (exact ca) | (intros; simp [All, aEt]; done) | (intros; simp [All, aEt, ntAL, ntA, ntP, ntL]; done))
    have d1 : (e.1 == 1) = false := beq_eq_false_iff_ne.2 k1
    by_cases k2 : e.1 = 2
    · have d2 : (e.1 == 2) = true := beq_iff_eq.2 k2
      have ck := con_l7At v.1.1 e.2.1 e.2.2.1 h1
      have hE : evR v e = if 0 ≤ evK v e then (evS v (woP v.1 (evK v e).toNat) (weB kBreak (evL e) 1), true) else (v, false) := by simp [evR, hok, k2]
      rw [hE]
      have hin := ixI_in v.1.1.2.1.2 (brX e.2.1 e.2.2.1) v.1.1.2.1.1 0
      change evK v e = -1 ∨ ((0 : Nat) : Int) ≤ evK v e ∧ evK v e < ((0 : Nat) : Int) + v.1.1.2.1.1 ∧ beqB (brX e.2.1 e.2.2.1) (v.1.1.2.1.2 (evK v e).toNat) = true at hin
      change Con _ _ _ _ _ _ (.p (.int .i64 (evK v e))) at ck
      by_cases hk : 0 ≤ evK v e
      · rw [if_pos hk, wB]
        have heq : v.1.1.2.1.2 (evK v e).toNat = brX e.2.1 e.2.2.1 := by
          rcases hin with h | ⟨_, _, h⟩
          · omega
          · exact (beqB_eq h).symm
        have cw := con_l27Less v.1 hp (evK v e).toNat (by omega)
        rw [show (((evK v e).toNat : Nat) : Int) = evK v e by omega] at cw
        have hkd : decide (evK v e < 0) = false := decide_eq_false (by omega)
        rw [← heq] at cl
        generalize hwp : woP v.1 (evK v e).toNat = p at *
        have hp1 : p.1.1 = v.1.1.1 := by rw [← hwp]; rfl
        have hp2 : p.2 = v.1.2 := by rw [← hwp]; rfl
        have cw' : Con Tryz.prog 26 0 [] [pinA v.1, .p (.int .i64 (evK v e))] (piH p) (piV p) := by
          show Con _ _ _ _ _ [(0, brOb p.1.2.1.1 p.1.2.1.2), (1, iOb p.2.1.1 p.2.1.2)] (.agg [.p (.int .i64 p.1.1), .ar 2 0 0 p.1.2.1.1, .ar 1 1 0 p.2.1.1])
          rw [hp1, hp2]; exact cw
        rw [heq] at cl
        have cl' : Con Tryz.prog 24 0 [] [.p (.seq true 2 1 (fun i => [.int .i64 (v.1.1.2.1.2 (evK v e).toNat).1, .int .i64 (v.1.1.2.1.2 (evK v e).toNat).2.1]))] [] (.p (.str (bsB (1, fun _ => brX e.2.1 e.2.2.1) 1))) := by
          rw [heq]; exact cl
        generalize bsB (1, fun _ => brX e.2.1 e.2.2.1) 1 = s at *
        refine path_ok mixed Tryz.func6 hc (aS2t v e p s (evK v e)) ?_
        simp only [All]
        repeat' (first | exact trivial | with_reducible apply And.intro)
        all_goals (first | exact aG _ | exact aA _ _ | exact aE _ | omega | rfl | (intros; first | assumption | exact trivial | rfl | contradiction | ((repeat' (first | assumption | apply anda | apply notf)); done)) | (exact cc) | (exact ci) | (exact hd') | (exact d1) | (exact d2) | (exact ck) | (exact hkd) | (exact cw') | (exact cl') | (simp only [kBreak_z]; omega) | (intros; simp [All, aEt]; done) | (intro t ht; by_cases h' : t < v.2.1.1 <;> simp [h', snTx, kBreak, cvtL, cvt, tg, tru, All]; done) | (intros; simp [All, aEt, ntAL, ntA, ntP, ntL]; done))
      · rw [if_neg hk]
        have hkd : decide (evK v e < 0) = true := decide_eq_true (by omega)
        refine path_ok mixed Tryz.func6 hc (aS2f v e (evK v e)) ?_
        simp only [All]
        repeat' (first | exact trivial | with_reducible apply And.intro)
        all_goals (first | exact aG _ | exact aA _ _ | exact aE _ | omega | rfl | (intros; first | assumption | exact trivial | rfl | contradiction | ((repeat' (first | assumption | apply anda | apply notf)); done)) | (exact cc) | (exact ci) | (exact hd') | (exact d1) | (exact d2) | (exact ck) | (exact hkd) | (intros; simp [All, aEt]; done) | (intros; simp [All, aEt, ntAL, ntA, ntP, ntL]; done))
    have d2 : (e.1 == 2) = false := beq_eq_false_iff_ne.2 k2
    by_cases k3 : e.1 = 3
    · have d3 : (e.1 == 3) = true := beq_iff_eq.2 k3
      have cI := con_Inspect_s v.1 hs.1
      have hE : evR v e = if e.2.1 = 0 ∧ e.2.2.1 = 0 then (evS v v.1 (ilB v.1), true) else (v, false) := by simp [evR, hok, k3]
      rw [hE]
      by_cases h0 : e.2.1 = 0 ∧ e.2.2.1 = 0
      · rw [if_pos h0]
        have hz : (bif e.2.1 != 0 then true else e.2.2.1 != 0) = false := by simp [h0.1, h0.2]
        refine path_ok mixed Tryz.func6 hc (aS3t v e (ilB v.1)) ?_
        simp only [All]
        repeat' (first | exact trivial | with_reducible apply And.intro)
        all_goals (first | exact aG _ | exact aA _ _ | exact aE _ | omega | rfl | (intros; first | assumption | exact trivial | rfl | contradiction | ((repeat' (first | assumption | apply anda | apply notf)); done)) | (exact cc) | (exact ci) | (exact hd') | (exact d1) | (exact d2) | (exact d3) | (exact hz) | (exact cI) | (intros; simp [All, aEt]; done) | (intro t ht; by_cases h' : t < v.2.1.1 <;> simp [h', snTx, cvtL, cvt, tg, tru, All]; done) | (intros; simp [All, aEt, ntAL, ntA, ntP, ntL]; done))
      · rw [if_neg h0]
        have hz : (bif e.2.1 != 0 then true else e.2.2.1 != 0) = true := by
          by_cases h3 : e.2.1 = 0
          · have h4 : (e.2.2.1 == 0) = false := beq_eq_false_iff_ne.2 (fun h => h0 ⟨h3, h⟩)
            simp [bne, h3, h4]
          · have h4 : (e.2.1 == 0) = false := beq_eq_false_iff_ne.2 h3
            simp [bne, h4]
        refine path_ok mixed Tryz.func6 hc (aS3f v e) ?_
        simp only [All]
        repeat' (first | exact trivial | with_reducible apply And.intro)
        all_goals (first | exact aG _ | exact aA _ _ | exact aE _ | omega | rfl | (intros; first | assumption | exact trivial | rfl | contradiction | ((repeat' (first | assumption | apply anda | apply notf)); done)) | (exact cc) | (exact ci) | (exact hd') | (exact d1) | (exact d2) | (exact d3) | (exact hz) | (intros; simp [All, aEt]; done) | (intros; simp [All, aEt, ntAL, ntA, ntP, ntL]; done))
    have d3 : (e.1 == 3) = false := beq_eq_false_iff_ne.2 k3
    by_cases k4 : e.1 = 4
    · have d4 : (e.1 == 4) = true := beq_iff_eq.2 k4
      have cr := con_RepairBars_s v.1 hs.1
      have hrn := rbL_n v.1
      have hra := rbL_all v.1
      have hN := (pin_ok hp).N
      have ce := con_l31Bars (rbL v.1) (by omega) (fun i hi => by have := hra i hi; unfold OkB at this; unfold InI; omega)
      have hzr := bsB_size (rbL v.1) (rbL v.1).1
      have hwe := we_bs kRepair (rbL v.1) (rbL v.1).1 (fun i hi => by have := hra i hi; unfold OkB at this; omega)
      have hE : evR v e = if rbB v.1 = true ∧ e.2.1 = 0 ∧ e.2.2.1 = 0 then (evS v (arP v.1 (rbL v.1)) (weB kRepair (rbL v.1) (rbL v.1).1), true) else (v, false) := by simp [evR, hok, k4]
      rw [hE]
      by_cases h0 : rbB v.1 = true ∧ e.2.1 = 0 ∧ e.2.2.1 = 0
      · rw [if_pos h0, hwe]
        have hz : (bif (bif !rbB v.1 then true else e.2.1 != 0) then true else e.2.2.1 != 0) = false := by simp [h0.1, h0.2.1, h0.2.2]
        have ca := con_ApplyRepair_s v.1 hs.1 (rbL v.1) (by omega)
        rw [(rbB_ok h0.1).2] at ca
        generalize arP v.1 (rbL v.1) = p at *
        generalize bsB (rbL v.1) (rbL v.1).1 = s at *
        refine path_ok mixed Tryz.func6 hc (aS4t v e p s (rbL v.1).1 (rbL v.1).2 (rbB v.1)) ?_
        simp only [All]
        repeat' (first | exact trivial | with_reducible apply And.intro)
        all_goals (first | exact aG _ | exact aA _ _ | exact aE _ | omega | rfl | (intros; first | assumption | exact trivial | rfl | contradiction | ((repeat' (first | assumption | apply anda | apply notf)); done)) | (exact cc) | (exact ci) | (exact hd') | (exact d1) | (exact d2) | (exact d3) | (exact d4) | (exact hz) | (exact cr) | (exact ca) | (exact ce) | (simp only [kRepair_z]; omega) | (intros; simp [All, aEt]; done) | (intro t ht; by_cases h' : t < v.2.1.1 <;> simp [h', snTx, kRepair, cvtL, cvt, tg, tru, All]; done) | (intros; simp [All, aEt, ntAL, ntA, ntP, ntL]; done))
      · rw [if_neg h0]
        have hz : (bif (bif !rbB v.1 then true else e.2.1 != 0) then true else e.2.2.1 != 0) = true := by
          cases hr : rbB v.1 with
          | false => rfl
          | true =>
            by_cases h3 : e.2.1 = 0
            · have h4 : (e.2.2.1 == 0) = false := beq_eq_false_iff_ne.2 (fun h => h0 ⟨hr, h3, h⟩)
              simp [bne, h3, h4]
            · have h4 : (e.2.1 == 0) = false := beq_eq_false_iff_ne.2 h3
              simp [bne, h4]
        refine path_ok mixed Tryz.func6 hc (aS4f v e (rbL v.1).1 (rbL v.1).2 (rbB v.1)) ?_
        simp only [All]
        repeat' (first | exact trivial | with_reducible apply And.intro)
        all_goals (first | exact aG _ | exact aA _ _ | exact aE _ | omega | rfl | (intros; first | assumption | exact trivial | rfl | contradiction | ((repeat' (first | assumption | apply anda | apply notf)); done)) | (exact cc) | (exact ci) | (exact hd') | (exact d1) | (exact d2) | (exact d3) | (exact d4) | (exact hz) | (exact cr) | (intros; simp [All, aEt]; done) | (intros; simp [All, aEt, ntAL, ntA, ntP, ntL]; done))
    have d4 : (e.1 == 4) = false := beq_eq_false_iff_ne.2 k4
    have hE : evR v e = (v, false) := by simp [evR, k1, k2, k3, k4]
    rw [hE]
    refine path_ok mixed Tryz.func6 hc (aS5 v e) ?_
    simp only [All]
    repeat' (first | exact trivial | with_reducible apply And.intro)
    all_goals (first | exact aG _ | exact aA _ _ | exact aE _ | omega | rfl | (intros; first | assumption | exact trivial | rfl | contradiction | ((repeat' (first | assumption | apply anda | apply notf)); done)) | (exact cc) | (exact ci) | (exact hd') | (exact d1) | (exact d2) | (exact d3) | (exact d4) | (intros; simp [All, aEt]; done) | (intros; simp [All, aEt, ntAL, ntA, ntP, ntL]; done))
  · rw [decide_eq_false hok] at hd
    have hE : evR v e = (v, false) := by simp [evR, hok]
    rw [hE]
    refine path_ok mixed Tryz.func6 hc (aSy v e (siteF v)) ?_
    simp only [All]
    repeat' (first | exact trivial | with_reducible apply And.intro)
    all_goals (first | exact aG _ | exact aA _ _ | exact aE _ | omega | rfl | (intros; first | assumption | exact trivial | rfl | contradiction | ((repeat' (first | assumption | apply anda | apply notf)); done)) | (exact cc) | (exact ci) | (exact hd) | (intros; simp [All, aEt]; done) | (intros; simp [All, aEt, ntAL, ntA, ntP, ntL]; done))
theorem ilB_size (p : T_Pinned) : (ilB p).size ≤ 500 := by
  have s1 := fmt_size p.1.2.1.1
  have s2 := fmt_size (frG p)
  have s3 := fmt_size (sdR p).1
  have s4 := enB_size (p.1.2.1.2 (wbD p p.1.2.1.1).1.toNat)
  have s5 := fmt_size (wbD p p.1.2.1.1).2
  unfold ilB
  split
  · split
    · simp only [ByteArray.size_append, show kBars.size = 5 from rfl, show kFree.size = 9 from rfl, show kSteady.size = 8 from rfl]; omega
    · simp only [ByteArray.size_append, show kBars.size = 5 from rfl, show kFree.size = 9 from rfl, show kSteady.size = 8 from rfl, show kWorst.size = 7 from rfl, show kDrops.size = 7 from rfl]; omega
  · exact Nat.zero_le _
theorem sm_evS {v : T_Site} (hs : smS s_Site v) (hn : v.2.1.1 < 20) {p : T_Pinned} (hp : smS s_Pinned p) {s : ByteArray} (hz : s.size ≤ 1048576) : smS s_Site (evS v p s) := by
  refine ⟨hp, ⟨by show v.2.1.1 + 1 ≤ 1048576; omega, fun i hi => ?_⟩, trivial⟩
  show (snTx v.2.1.1 v.2.1.2 s i).size ≤ 1048576
  unfold snTx
  split
  · rename_i h; exact hs.2.1.2 i h
  · exact hz
theorem sm_evR {v : T_Site} (hs : smS s_Site v) (e : T_Event) : smS s_Site (evR v e).1 := by
  have w1 := weB_size kAdd (evL e) 1
  have w2 := weB_size kBreak (evL e) 1
  have w3 := weB_size kRepair (rbL v.1) (rbL v.1).1
  have w4 := rbL_n v.1
  have w5 := ilB_size v.1
  have z1 : kAdd.size = 3 := rfl
  have z2 : kBreak.size = 5 := rfl
  have z3 : kRepair.size = 6 := rfl
  unfold evR
  split
  · rename_i hok
    have hp := site_in hok
    repeat' split
    all_goals first | exact hs | exact sm_evS hs hok.2 (sm_arP _ _) (by omega) | exact sm_evS hs hok.2 (sm_wo hp _) (by omega) | exact sm_evS hs hok.2 hs.1 (by omega)
  · exact hs
noncomputable def rvD (v : T_Site) (l : T_EventS) : Nat → T_Site
  | 0 => v
  | k + 1 => (evR (rvD v l k) (l.2 k)).1
theorem sm_rvD {v : T_Site} (hs : smS s_Site v) (l : T_EventS) : ∀ k, smS s_Site (rvD v l k)
  | 0 => hs
  | k + 1 => sm_evR (sm_rvD hs l k) _
theorem con_Run_i (v : T_Site) (hs : smS s_Site v) (l : T_EventS) (hl : l.1 ≤ 1048576) (he : ∀ i, i < l.1 → okE (l.2 i)) : Con Tryz.prog 16 0 [] [siA v, evLs l] (siH (rvD v l l.1)) (siV (rvD v l l.1)) := by
  have cc := con_copySite v hs
  refine con_start Tryz.func16 rfl (by kernel_rfl) rfl (fun c hc => ?_)
  generalize hR : rvD v l l.1 = R
  have lo : ∀ d k, k + d = l.1 → Run Tryz.prog c 16 zf82 (SRi1 v (rvD v l k) l k) (Post c (siH R) (siV R)) := by
    intro d
    induction d with
    | zero =>
      intro k hk
      obtain rfl : k = l.1 := by omega
      have hd : decide ((l.1 : Int) < (l.1 : Int)) = false := by simp
      rw [hR]
      refine path_ok mixed Tryz.func16 hc (wIe v R l l.1) ?_
      simp only [All]
      repeat' (first | exact trivial | with_reducible apply And.intro)
      all_goals (first | exact aA _ _ | exact aE _ | omega | rfl | (intros; first | assumption | exact trivial | rfl | contradiction | ((repeat' (first | assumption | apply anda | apply notf)); done)) | (exact hd) | (intros; simp [All, aEt]; done) | (intros; simp [All, aEt, ntAL, ntA, ntP, ntL]; done))
    | succ d ih =>
      intro k hk
      have hrec := ih (k + 1) (by omega)
      have hd : decide ((k : Int) < (l.1 : Int)) = true := decide_eq_true (by omega)
      have ca := con_Apply_i (rvD v l k) (sm_rvD hs l k) (l.2 k) (he k (by omega))
      rw [rvD] at hrec
      generalize rvD v l k = u at *
      refine piece_ok mixed hc (wIa v u (evR u (l.2 k)).1 l k (evR u (l.2 k)).2) ?_ hrec
      simp only [All]
      repeat' (first | exact trivial | with_reducible apply And.intro)
      all_goals (first | exact aP _ _ | exact aA _ _ | omega | rfl | (intros; first | assumption | exact trivial | rfl | contradiction | ((repeat' (first | assumption | apply anda | apply notf)); done)) | (exact hd) | (exact ca) | (intros; simp [All, aEt]; done))
  refine piece_ok mixed hc (wIz v l) ?_ (lo l.1 0 (by omega))
  simp only [All]
  repeat' (first | exact trivial | with_reducible apply And.intro)
  all_goals (first | exact aP _ _ | exact aA _ _ | omega | rfl | (intros; first | assumption | exact trivial | rfl | contradiction | ((repeat' (first | assumption | apply anda | apply notf)); done)) | (exact cc) | (intros; simp [All, aEt]; done))
theorem evR_false {v : T_Site} {e : T_Event} (h : (evR v e).2 = false) : (evR v e).1 = v := by
  have key : (evR v e).2 = true ∨ (evR v e).1 = v := by
    unfold evR
    repeat' split
    all_goals first | exact .inr rfl | exact .inl rfl
  rcases key with k | k
  · rw [h] at k; cases k
  · exact k
theorem con_Run_s (v : T_Site) (hs : smS s_Site v) (l : T_EventS) (hl : l.1 ≤ 1048576) (he : ∀ i, i < l.1 → okE (l.2 i)) : Con Tryz.prog 14 0 [] [siA v, evLs l] (siH (rvD v l l.1)) (siV (rvD v l l.1)) := by
  have cc := con_l31Copy v hs
  refine con_start Tryz.func14 rfl (by kernel_rfl) rfl (fun c hc => ?_)
  generalize hR : rvD v l l.1 = R
  have lo : ∀ d k, k + d = l.1 → Run Tryz.prog c 14 zf83 (SRs1 v (rvD v l k) l k) (Post c (siH R) (siV R)) := by
    intro d
    induction d with
    | zero =>
      intro k hk
      obtain rfl : k = l.1 := by omega
      have hd : decide ((l.1 : Int) < (l.1 : Int)) = false := by simp
      rw [hR]
      refine path_ok mixed Tryz.func14 hc (wSe v R l l.1) ?_
      simp only [All]
      repeat' (first | exact trivial | with_reducible apply And.intro)
      all_goals (first | exact aA _ _ | exact aE _ | omega | rfl | (intros; first | assumption | exact trivial | rfl | contradiction | ((repeat' (first | assumption | apply anda | apply notf)); done)) | (exact hd) | (intros; simp [All, aEt]; done) | (intros; simp [All, aEt, ntAL, ntA, ntP, ntL]; done))
    | succ d ih =>
      intro k hk
      have hrec := ih (k + 1) (by omega)
      have hd : decide ((k : Int) < (l.1 : Int)) = true := decide_eq_true (by omega)
      have ca := con_Apply_s (rvD v l k) (sm_rvD hs l k) (l.2 k) (he k (by omega))
      rw [rvD] at hrec
      generalize rvD v l k = u at *
      cases hb : (evR u (l.2 k)).2 with
      | true =>
        rw [hb] at ca
        refine piece_ok mixed hc (wSa v u (evR u (l.2 k)).1 l k) ?_ hrec
        simp only [All]
        repeat' (first | exact trivial | with_reducible apply And.intro)
        all_goals (first | exact aP _ _ | exact aA _ _ | omega | rfl | (intros; first | assumption | exact trivial | rfl | contradiction | ((repeat' (first | assumption | apply anda | apply notf)); done)) | (exact hd) | (exact ca) | (intros; simp [All, aEt]; done))
      | false =>
        rw [hb] at ca
        rw [evR_false hb] at ca hrec
        refine piece_ok mixed hc (wSb v u u l k) ?_ hrec
        simp only [All]
        repeat' (first | exact trivial | with_reducible apply And.intro)
        all_goals (first | exact aP _ _ | exact aA _ _ | omega | rfl | (intros; first | assumption | exact trivial | rfl | contradiction | ((repeat' (first | assumption | apply anda | apply notf)); done)) | (exact hd) | (exact ca) | (intros; simp [All, aEt]; done))
  refine piece_ok mixed hc (wSz v l) ?_ (lo l.1 0 (by omega))
  simp only [All]
  repeat' (first | exact trivial | with_reducible apply And.intro)
  all_goals (first | exact aP _ _ | exact aA _ _ | omega | rfl | (intros; first | assumption | exact trivial | rfl | contradiction | ((repeat' (first | assumption | apply anda | apply notf)); done)) | (exact cc) | (intros; simp [All, aEt]; done))
end Go.Proofs.YtgdbnnmogddkaaaGreat.Mach
namespace Go.Proofs.YtgdbnnmogddkaaaGreat.Mach
open Go Go.Sort
set_option linter.unusedVariables false
set_option linter.unusedSimpArgs false
def mTs (m : Int) (v : T_Site) : Int := m + 2 * (v.1.1.2.1.1 : Int) + (v.1.2.1.1 : Int) + (v.2.1.1 : Int)
def mTp (m : Int) (v : T_Site) : Int := m + 2 * (v.1.1.2.1.1 : Int) + (v.1.2.1.1 : Int)
def mpH (v : T_Site) (m : Int) : Hp := [(0, ⟨false, 2, v.1.1.2.1.1, fun i => [.p (.int .i64 (m + 2 * (i : Int))), .p (.int .i64 (m + 2 * (i : Int) + 1))]⟩), (1, ⟨false, 1, v.1.2.1.1, fun i => [.p (.int .i64 (m + 2 * (v.1.1.2.1.1 : Int) + (i : Int)))]⟩)]
def msH (v : T_Site) (m : Int) (g : Nat → ByteArray) : Hp := [(0, ⟨false, 2, v.1.1.2.1.1, fun i => [.p (.int .i64 (m + 2 * (i : Int))), .p (.int .i64 (m + 2 * (i : Int) + 1))]⟩), (1, ⟨false, 1, v.1.2.1.1, fun i => [.p (.int .i64 (m + 2 * (v.1.1.2.1.1 : Int) + (i : Int)))]⟩), (2, stOt v.2.1.1 g)]
def hpA (v : T_Site) (m : Int) (g : Nat → ByteArray) : AV := .agg [.p (.int .i64 v.1.1.1), .p (.seq true 2 v.1.1.2.1.1 (fun i => [.int .i64 (m + 2 * (i : Int)), .int .i64 (m + 2 * (i : Int) + 1)])), .p (.seq true 1 v.1.2.1.1 (fun i => [.int .i64 (m + 2 * (v.1.1.2.1.1 : Int) + (i : Int))])), stLt v.2.1.1 g]
def evO (l : T_EventS) : Ob := ⟨false, 3, l.1, fun i => [.p (.int .i64 (l.2 i).1), .p (.int .i64 (l.2 i).2.1), .p (.int .i64 (l.2 i).2.2.1)]⟩
def evM (n : Nat) (m : Int) : Ob := ⟨false, 3, n, fun i => [.p (.int .i64 (m + 3 * (i : Int))), .p (.int .i64 (m + 3 * (i : Int) + 1)), .p (.int .i64 (m + 3 * (i : Int) + 2))]⟩
theorem eMs (v : T_Site) (m : Int) (g : Nat → ByteArray) :
    pathOb Tryz.prog Tryz.f11 3 [rg 2, rm [(3, oq [0, 1] (mpH v m) (.p (.int .i64 (mTp m v))))] 1, rm [(3, oq [2] [(0, stOt v.2.1.1 g)] (.p (.int .i64 (mTs m v))))] 1, rg 2] [.code (bodyOf Tryz.f11)] (start Tryz.f11 (siH v) 3 [siV v, .p (.int .i64 m)]) [0, 1, 2] 1 (msH v m g) (.p (.int .i64 (mTs m v))) =
    some [(NT 0 1),(AE v.1.1.2.1.1),(AE v.1.2.1.1),Con Tryz.prog 43 2 (zf28 v) [(zf123 v), .p (.int .i64 m)] [(0, ⟨false, 2, v.1.1.2.1.1, (fun i => [.p (.int .i64 (m + 2 * (↑i : Int))), .p (.int .i64 (m + 2 * (↑i : Int) + 1))])⟩), (1, ⟨false, 1, v.1.2.1.1, (fun i => [.p (.int .i64 (m + 2 * (↑v.1.1.2.1.1 : Int) + (↑i : Int)))])⟩)] (.p (.int .i64 (mTp m v))),(NT 0 1),(AE v.2.1.1),Con Tryz.prog 44 1 [(0, ⟨false, 1, v.2.1.1, (fun i => [.p (.str (v.2.1.2 i))])⟩)] [.ar 1 0 0 v.2.1.1, .p (.int .i64 (mTp m v))] [(0, ⟨false, 1, v.2.1.1, (fun i => [.p (.str (g i))])⟩)] (.p (.int .i64 (mTs m v))),(AI ((mTs m v))),(AN 2),(NL v.1.1.2.1.1 v.1.1.2.1.1),(AA v.1.1.2.1.1 (fun i => [.p (.int .i64 (m + 2 * (↑i : Int))), .p (.int .i64 (m + 2 * (↑i : Int) + 1))])),(AN 1),(NL v.1.2.1.1 v.1.2.1.1),(AA v.1.2.1.1 (fun i => [.p (.int .i64 (m + 2 * (↑v.1.1.2.1.1 : Int) + (↑i : Int)))])),(AN 1),(NL v.2.1.1 v.2.1.1),(AA v.2.1.1 (fun i => [.p (.str (g i))])),(AE v.1.1.2.1.1),(AE v.1.2.1.1),(AE v.2.1.1)] := by kernel_rfl
theorem eHs (v : T_Site) (m : Int) (g : Nat → ByteArray) :
    pathOb Tryz.prog Tryz.f12 0 [rg 2, rm [(3, oc [] (.p (.int .i64 (mTp m v))))] 1, rg 2, .dec false, rm [(3, oc [] (.p (.int .i64 (mTs m v))))] 1, rg 2, .dec false, rg 2] [.code (bodyOf Tryz.f12)] (start Tryz.f12 [] 0 [hpA v m g, .p (.int .i64 m)]) [] 1 [] (.p (.int .i64 (mTs m v))) =
    some [(NT 0 1),Con Tryz.prog 45 0 [] [.agg [.p (.int .i64 v.1.1.1), .p (.seq true 2 v.1.1.2.1.1 (fun i => [.int .i64 (m + 2 * (↑i : Int)), .int .i64 (m + 2 * (↑i : Int) + 1)])), .p (.seq true 1 v.1.2.1.1 (fun i => [.int .i64 (m + 2 * (↑v.1.1.2.1.1 : Int) + (↑i : Int))]))], .p (.int .i64 m)] [] (.p (.int .i64 (mTp m v))),((decide (mTp m v < 0)) = false),(NT 0 1),Con Tryz.prog 46 0 [] [.p (.seq true 1 v.2.1.1 (fun i => [.str (g i)])), .p (.int .i64 (mTp m v))] [] (.p (.int .i64 (mTs m v))),((decide (mTs m v < 0)) = false),(AI ((mTs m v)))] := by kernel_rfl
theorem eL0 (v : T_Site) (e : T_Event) :
    pathOb Tryz.prog Tryz.f3 0 [rg 3, rg 1, rm [(2, oc [] (.p (.int .i64 (f_szSite v 1048576))))] 1, rg 2, .dec true, rg 1] [.code (bodyOf Tryz.f3)] (start Tryz.f3 [] 0 [siA v, evtA e]) [] 1 [] (.p (.bool true)) =
    some [(NT 0 1),Con Tryz.prog 5 0 [] [(zf16 v), .p (.int .i64 1048576)] [] (.p (.int .i64 (f_szSite v 1048576))),((decide (f_szSite v 1048576 < 0)) = true),(true = true)] := by kernel_rfl
theorem eLe (v w : T_Site) (e : T_Event) (b : Bool) (gv gw : Nat → ByteArray) :
    pathOb Tryz.prog Tryz.f3 0 [rg 3, rg 1, rm [(2, oc [] (.p (.int .i64 (f_szSite v 1048576))))] 1, rg 2, .dec false, rm [(1, oc (siH v) (siV v)), (1, oc [] (evtA e)), (0, oc (siH w) (.tup [siV w, .p (.bool b)]))] 6, rm [(1, oc (siH v) (siV v))] 2, rm [(2, oc [] (evtA e)), (0, oc (siH w) (.tup [siV w, .p (.bool b)]))] 6, rm [(2, oc [] (.p (.bool true)))] 6, .dec false, rm [(2, oc (siH v) (siV v)), (0, oc [] (.p (.bool true)))] 1, .dec false, rg 1, rm [(2, oq [704, 705, 706] (msH v 1 gv) (.p (.int .i64 (mTs 1 v))))] 1, rm [(5, oc [] (.p (.bool true)))] 7, .dec false, rg 1, rm [(2, oq [896, 897, 898] (msH w 1 gw) (.p (.int .i64 (mTs 1 w))))] 1, rg 1, rm [(2, oc [] (.p (.int .i64 (mTs 1 w))))] 1, rg 2, .dec false, rg 3, .dec false, rm [(1, oc (siH v) (siV v)), (1, oc [] (evtA e)), (0, oc (siH w) (.tup [siV w, .p (.bool b)]))] 6, rm [(2, oc [] (.p (.bool true)))] 6, .dec false, rg 1, rm [(2, oc [] (.p (.int .i64 (mTs 1 w))))] 1, rg 2, .dec false, rg 3, .dec false, rg 1] [.code (bodyOf Tryz.f3)] (start Tryz.f3 [] 0 [siA v, evtA e]) [] 1 [] (.p (.bool true)) =
    some [(NT 0 1),Con Tryz.prog 5 0 [] [(zf16 v), .p (.int .i64 1048576)] [] (.p (.int .i64 (f_szSite v 1048576))),((decide (f_szSite v 1048576 < 0)) = false),(NT 0 1),Con Tryz.prog 7 0 [] [(zf16 v)] (zf17 v) ((zf117 v)),(NT 0 1),Con Tryz.prog 8 0 [] [(zf125 e)] [] ((zf125 e)),(AN 2),(NL v.1.1.2.1.1 v.1.1.2.1.1),(AN 1),(NL v.1.2.1.1 v.1.2.1.1),(AN 1),(NL v.2.1.1 v.2.1.1),Con Tryz.prog 6 0 [] [(zf16 v), (zf125 e)] (zf17 w) ((zf107 w b)),(NT 0 1),((true = true) →  (AN 1)),(NT 0 1),Con Tryz.prog 7 0 [] [(zf16 v)] (zf17 v) ((zf117 v)),(NT 0 1),((true = true) →  (AN 1)),(NT 0 1),(NT 0 1),Con Tryz.prog 8 0 [] [(zf125 e)] [] ((zf125 e)),(AN 2),(NL v.1.1.2.1.1 v.1.1.2.1.1),(AN 1),(NL v.1.2.1.1 v.1.2.1.1),(AN 1),(NL v.2.1.1 v.2.1.1),Con Tryz.prog 9 0 [] [(zf16 v), (zf125 e)] (zf17 w) ((zf107 w b)),(NT 0 1),((true = true) →  (AN 1)),(NT 0 1),(NT 0 1),(AN 2),(NL w.1.1.2.1.1 w.1.1.2.1.1),(AN 1),(NL w.1.2.1.1 w.1.2.1.1),(AN 1),(NL w.2.1.1 w.2.1.1),(AN 2),(NL w.1.1.2.1.1 w.1.1.2.1.1),(AN 1),(NL w.1.2.1.1 w.1.2.1.1),(AN 1),(NL w.2.1.1 w.2.1.1),Con Tryz.prog 10 0 [] [(zf16 w), (zf16 w)] [] (.p (.bool true)),(AG (!!true)),(AG (!!true)),(((!true) = false) →  ((!!true) = true)),((bif !true then true else !b == b) = false),(NT 0 1),(NT 0 1),Con Tryz.prog 7 0 [] [(zf16 v)] (zf17 v) ((zf117 v)),(AN 2),(NL v.1.1.2.1.1 v.1.1.2.1.1),(AN 1),(NL v.1.2.1.1 v.1.2.1.1),(AN 1),(NL v.2.1.1 v.2.1.1),(AN 2),(NL v.1.1.2.1.1 v.1.1.2.1.1),(AN 1),(NL v.1.2.1.1 v.1.2.1.1),(AN 1),(NL v.2.1.1 v.2.1.1),Con Tryz.prog 10 0 [] [(zf16 v), (zf16 v)] [] (.p (.bool true)),((!true) = false),(NT 0 1),(AE v.1.1.2.1.1),(AE v.1.2.1.1),(AE v.2.1.1),Con Tryz.prog 11 3 (zf17 v) [(zf117 v), .p (.int .i64 1)] (zf15 v gv) (.p (.int .i64 (mTs 1 v))),(((!decide (mTs 1 v < 0)) = true) → (NT 0 1)),(((!decide (mTs 1 v < 0)) = true) → (NT 0 1)),(AG (!decide (mTs 1 v < 0))),(AG (!decide (mTs 1 v < 0))),(((!decide (mTs 1 v < 0)) = true) →  (AN 2)),(((!decide (mTs 1 v < 0)) = true) → (NL w.1.1.2.1.1 w.1.1.2.1.1)),(((!decide (mTs 1 v < 0)) = true) →  (AN 1)),(((!decide (mTs 1 v < 0)) = true) → (NL w.1.2.1.1 w.1.2.1.1)),(((!decide (mTs 1 v < 0)) = true) →  (AN 1)),(((!decide (mTs 1 v < 0)) = true) → (NL w.2.1.1 w.2.1.1)),(((!decide (mTs 1 v < 0)) = true) →  (AN 2)),(((!decide (mTs 1 v < 0)) = true) → (NL w.1.1.2.1.1 w.1.1.2.1.1)),(((!decide (mTs 1 v < 0)) = true) →  (AN 1)),(((!decide (mTs 1 v < 0)) = true) → (NL w.1.2.1.1 w.1.2.1.1)),(((!decide (mTs 1 v < 0)) = true) →  (AN 1)),(((!decide (mTs 1 v < 0)) = true) → (NL w.2.1.1 w.2.1.1)),(((!decide (mTs 1 v < 0)) = true) →  Con Tryz.prog 10 0 [] [(zf16 w), (zf16 w)] [] (.p (.bool true))),(AG (!decide (mTs 1 v < 0))),(((decide (mTs 1 v < 0)) = false) →  ((!decide (mTs 1 v < 0)) = true)),(AG (!bif decide (mTs 1 v < 0) then true else !true)),(AG (!bif decide (mTs 1 v < 0) then true else !true)),(((bif decide (mTs 1 v < 0) then true else !true) = false) →  ((!bif decide (mTs 1 v < 0) then true else !true) = true)),((bif bif decide (mTs 1 v < 0) then true else !true then true else !b == b) = false),(NT 0 1),(AE w.1.1.2.1.1),(AE w.1.2.1.1),(AE w.2.1.1),Con Tryz.prog 11 3 (zf17 w) [(zf117 w), .p (.int .i64 1)] (zf15 w gw) (.p (.int .i64 (mTs 1 w))),(NT 0 1),(AN 2),(NL w.1.1.2.1.1 w.1.1.2.1.1),(AN 1),(NL w.1.2.1.1 w.1.2.1.1),(AN 1),(NL w.2.1.1 w.2.1.1),Con Tryz.prog 12 0 [] [(zf14 w gw), .p (.int .i64 1)] [] (.p (.int .i64 (mTs 1 w))),((decide (mTs 1 w < 0)) = false),((mTs 1 w != mTs 1 w) = false),(NT 0 1),Con Tryz.prog 7 0 [] [(zf16 v)] (zf17 v) ((zf117 v)),(NT 0 1),Con Tryz.prog 8 0 [] [(zf125 e)] [] ((zf125 e)),(AN 2),(NL v.1.1.2.1.1 v.1.1.2.1.1),(AN 1),(NL v.1.2.1.1 v.1.2.1.1),(AN 1),(NL v.2.1.1 v.2.1.1),Con Tryz.prog 9 0 [] [(zf16 v), (zf125 e)] (zf17 w) ((zf107 w b)),(NT 0 1),((true = true) →  (AN 1)),(NT 0 1),(NT 0 1),(AN 2),(NL w.1.1.2.1.1 w.1.1.2.1.1),(AN 1),(NL w.1.2.1.1 w.1.2.1.1),(AN 1),(NL w.2.1.1 w.2.1.1),(AN 2),(NL w.1.1.2.1.1 w.1.1.2.1.1),(AN 1),(NL w.1.2.1.1 w.1.2.1.1),(AN 1),(NL w.2.1.1 w.2.1.1),Con Tryz.prog 10 0 [] [(zf16 w), (zf16 w)] [] (.p (.bool true)),(AG (!!true)),(AG (!!true)),(((!true) = false) →  ((!!true) = true)),((bif !true then true else !b == b) = false),(NT 0 1),(AN 2),(NL w.1.1.2.1.1 w.1.1.2.1.1),(AN 1),(NL w.1.2.1.1 w.1.2.1.1),(AN 1),(NL w.2.1.1 w.2.1.1),Con Tryz.prog 12 0 [] [(zf14 w gw), .p (.int .i64 1)] [] (.p (.int .i64 (mTs 1 w))),((decide (mTs 1 w < 0)) = false),((mTs 1 w != mTs 1 w) = false),(true = true)] := by kernel_rfl
theorem eR0 (v : T_Site) (l : T_EventS) :
    pathOb Tryz.prog Tryz.f4 0 [rg 2, rg 1, rm [(2, oc [] (.p (.int .i64 (f_szSite v 1048576))))] 1, rg 2, .dec true, rg 1] [.code (bodyOf Tryz.f4)] (start Tryz.f4 [] 0 [siA v, evLs l]) [] 1 [] (.p (.bool true)) =
    some [(NT 0 1),Con Tryz.prog 5 0 [] [(zf16 v), .p (.int .i64 1048576)] [] (.p (.int .i64 (f_szSite v 1048576))),((decide (f_szSite v 1048576 < 0)) = true),(true = true)] := by kernel_rfl
theorem eR1 (v : T_Site) (l : T_EventS) :
    pathOb Tryz.prog Tryz.f4 0 [rg 2, rg 1, rm [(2, oc [] (.p (.int .i64 (f_szSite v 1048576))))] 1, rg 2, .dec false, rm [(2, oc [] (.p (.int .i64 (f_szEventS l (f_szSite v 1048576)))))] 1, rg 2, .dec true, rg 1] [.code (bodyOf Tryz.f4)] (start Tryz.f4 [] 0 [siA v, evLs l]) [] 1 [] (.p (.bool true)) =
    some [(NT 0 1),Con Tryz.prog 5 0 [] [(zf16 v), .p (.int .i64 1048576)] [] (.p (.int .i64 (f_szSite v 1048576))),((decide (f_szSite v 1048576 < 0)) = false),Con Tryz.prog 13 0 [] [.p (.seq true 3 l.1 (fun i => [.int .i64 ((l.2 i).1), .int .i64 ((l.2 i).2.1), .int .i64 ((l.2 i).2.2.1)])), .p (.int .i64 (f_szSite v 1048576))] [] (.p (.int .i64 (f_szEventS l (f_szSite v 1048576)))),((decide (f_szEventS l (f_szSite v 1048576) < 0)) = true),(true = true)] := by kernel_rfl
theorem eRe (v w : T_Site) (l : T_EventS) (gv gw : Nat → ByteArray) :
    pathOb Tryz.prog Tryz.f4 0 [rg 2, rg 1, rm [(2, oc [] (.p (.int .i64 (f_szSite v 1048576))))] 1, rg 2, .dec false, rm [(2, oc [] (.p (.int .i64 (f_szEventS l (f_szSite v 1048576)))))] 1, rg 2, .dec false, rm [(1, oc (siH v) (siV v)), (1, oc [(0, evO l)] (.ar 3 0 0 l.1)), (0, oc (siH w) (siV w))] 2, rm [(1, oc (siH v) (siV v))] 2, rm [(1, oc [(0, evO l)] (.ar 3 0 0 l.1))] 1, rm [(2, oc (siH w) (siV w))] 2, rm [(2, oc [] (.p (.bool true)))] 1, .dec false, rm [(2, oc (siH v) (siV v)), (0, oc [] (.p (.bool true)))] 1, .dec false, rm [(2, oc [(0, evO l)] (.ar 3 0 0 l.1)), (0, oc [] (.p (.bool true)))] 1, .dec false, rg 1, rm [(2, oq [736, 737, 738] (msH v 1 gv) (.p (.int .i64 (mTs 1 v))))] 1, rm [(2, oq [864] [(0, evM l.1 (mTs 1 v))] (.p (.int .i64 (mTs 1 v + 3 * (l.1 : Int)))))] 1, rm [(5, oc [] (.p (.bool true)))] 2, .dec false, rg 1, rm [(2, oq [992, 993, 994] (msH w 1 gw) (.p (.int .i64 (mTs 1 w))))] 1, rg 1, rm [(2, oc [] (.p (.int .i64 (mTs 1 w))))] 1, rg 2, .dec false, rg 3, .dec false, rm [(1, oc (siH v) (siV v)), (1, oc [(0, evO l)] (.ar 3 0 0 l.1)), (0, oc (siH w) (siV w))] 2, rm [(2, oc [] (.p (.bool true)))] 1, .dec false, rg 1, rm [(2, oc [] (.p (.int .i64 (mTs 1 w))))] 1, rg 2, .dec false, rg 3, .dec false, rg 1] [.code (bodyOf Tryz.f4)] (start Tryz.f4 [] 0 [siA v, evLs l]) [] 1 [] (.p (.bool true)) =
    some [(NT 0 1),Con Tryz.prog 5 0 [] [(zf16 v), .p (.int .i64 1048576)] [] (.p (.int .i64 (f_szSite v 1048576))),((decide (f_szSite v 1048576 < 0)) = false),Con Tryz.prog 13 0 [] [.p (.seq true 3 l.1 (fun i => [.int .i64 ((l.2 i).1), .int .i64 ((l.2 i).2.1), .int .i64 ((l.2 i).2.2.1)])), .p (.int .i64 (f_szSite v 1048576))] [] (.p (.int .i64 (f_szEventS l (f_szSite v 1048576)))),((decide (f_szEventS l (f_szSite v 1048576) < 0)) = false),(NT 0 1),Con Tryz.prog 7 0 [] [(zf16 v)] (zf17 v) ((zf117 v)),Con Tryz.prog 15 0 [] [.p (.seq true 3 l.1 (fun i => [.int .i64 ((l.2 i).1), .int .i64 ((l.2 i).2.1), .int .i64 ((l.2 i).2.2.1)]))] (zf104 l) (.ar 3 0 0 l.1),(AN 2),(NL v.1.1.2.1.1 v.1.1.2.1.1),(AN 1),(NL v.1.2.1.1 v.1.2.1.1),(AN 1),(NL v.2.1.1 v.2.1.1),(AN 3),(NL l.1 l.1),Con Tryz.prog 14 0 [] [(zf16 v), .p (.seq true 3 l.1 (fun i => [.int .i64 ((l.2 i).1), .int .i64 ((l.2 i).2.1), .int .i64 ((l.2 i).2.2.1)]))] (zf17 w) ((zf117 w)),(NT 0 1),((true = true) →  (AN 1)),(NT 0 1),Con Tryz.prog 7 0 [] [(zf16 v)] (zf17 v) ((zf117 v)),(NT 0 1),((true = true) →  (AN 1)),Con Tryz.prog 15 0 [] [.p (.seq true 3 l.1 (fun i => [.int .i64 ((l.2 i).1), .int .i64 ((l.2 i).2.1), .int .i64 ((l.2 i).2.2.1)]))] (zf104 l) (.ar 3 0 0 l.1),(NT 0 1),(AN 2),(NL v.1.1.2.1.1 v.1.1.2.1.1),(AN 1),(NL v.1.2.1.1 v.1.2.1.1),(AN 1),(NL v.2.1.1 v.2.1.1),(AN 3),(NL l.1 l.1),Con Tryz.prog 16 0 [] [(zf16 v), .p (.seq true 3 l.1 (fun i => [.int .i64 ((l.2 i).1), .int .i64 ((l.2 i).2.1), .int .i64 ((l.2 i).2.2.1)]))] (zf17 w) ((zf117 w)),(NT 0 1),((true = true) →  (AN 1)),(NT 0 1),(NT 0 1),(AN 2),(NL w.1.1.2.1.1 w.1.1.2.1.1),(AN 1),(NL w.1.2.1.1 w.1.2.1.1),(AN 1),(NL w.2.1.1 w.2.1.1),(AN 2),(NL w.1.1.2.1.1 w.1.1.2.1.1),(AN 1),(NL w.1.2.1.1 w.1.2.1.1),(AN 1),(NL w.2.1.1 w.2.1.1),Con Tryz.prog 10 0 [] [(zf16 w), (zf16 w)] [] (.p (.bool true)),((!true) = false),(NT 0 1),(NT 0 1),Con Tryz.prog 7 0 [] [(zf16 v)] (zf17 v) ((zf117 v)),(AN 2),(NL v.1.1.2.1.1 v.1.1.2.1.1),(AN 1),(NL v.1.2.1.1 v.1.2.1.1),(AN 1),(NL v.2.1.1 v.2.1.1),(AN 2),(NL v.1.1.2.1.1 v.1.1.2.1.1),(AN 1),(NL v.1.2.1.1 v.1.2.1.1),(AN 1),(NL v.2.1.1 v.2.1.1),Con Tryz.prog 10 0 [] [(zf16 v), (zf16 v)] [] (.p (.bool true)),((!true) = false),Con Tryz.prog 15 0 [] [.p (.seq true 3 l.1 (fun i => [.int .i64 ((l.2 i).1), .int .i64 ((l.2 i).2.1), .int .i64 ((l.2 i).2.2.1)]))] (zf104 l) (.ar 3 0 0 l.1),(AN 3),(NL l.1 l.1),(AN 3),(NL l.1 l.1),Con Tryz.prog 17 0 [] [.p (.seq true 3 l.1 (fun i => [.int .i64 ((l.2 i).1), .int .i64 ((l.2 i).2.1), .int .i64 ((l.2 i).2.2.1)])), .p (.seq true 3 l.1 (fun i => [.int .i64 ((l.2 i).1), .int .i64 ((l.2 i).2.1), .int .i64 ((l.2 i).2.2.1)]))] [] (.p (.bool true)),((!true) = false),(NT 0 1),(AE v.1.1.2.1.1),(AE v.1.2.1.1),(AE v.2.1.1),Con Tryz.prog 11 3 (zf17 v) [(zf117 v), .p (.int .i64 1)] (zf15 v gv) (.p (.int .i64 (mTs 1 v))),(AE l.1),Con Tryz.prog 18 1 (zf104 l) [.ar 3 0 0 l.1, .p (.int .i64 (mTs 1 v))] [(0, ⟨false, 3, l.1, (fun i => [.p (.int .i64 (mTs 1 v + 3 * (↑i : Int))), .p (.int .i64 (mTs 1 v + 3 * (↑i : Int) + 1)), .p (.int .i64 (mTs 1 v + 3 * (↑i : Int) + 2))])⟩)] (.p (.int .i64 (mTs 1 v + 3 * (↑l.1 : Int)))),(((!decide (mTs 1 v + 3 * (↑l.1 : Int) < 0)) = true) → (NT 0 1)),(((!decide (mTs 1 v + 3 * (↑l.1 : Int) < 0)) = true) → (NT 0 1)),(AG (!decide (mTs 1 v + 3 * (↑l.1 : Int) < 0))),(AG (!decide (mTs 1 v + 3 * (↑l.1 : Int) < 0))),(((!decide (mTs 1 v + 3 * (↑l.1 : Int) < 0)) = true) →  (AN 2)),(((!decide (mTs 1 v + 3 * (↑l.1 : Int) < 0)) = true) → (NL w.1.1.2.1.1 w.1.1.2.1.1)),(((!decide (mTs 1 v + 3 * (↑l.1 : Int) < 0)) = true) →  (AN 1)),(((!decide (mTs 1 v + 3 * (↑l.1 : Int) < 0)) = true) → (NL w.1.2.1.1 w.1.2.1.1)),(((!decide (mTs 1 v + 3 * (↑l.1 : Int) < 0)) = true) →  (AN 1)),(((!decide (mTs 1 v + 3 * (↑l.1 : Int) < 0)) = true) → (NL w.2.1.1 w.2.1.1)),(((!decide (mTs 1 v + 3 * (↑l.1 : Int) < 0)) = true) →  (AN 2)),(((!decide (mTs 1 v + 3 * (↑l.1 : Int) < 0)) = true) → (NL w.1.1.2.1.1 w.1.1.2.1.1)),(((!decide (mTs 1 v + 3 * (↑l.1 : Int) < 0)) = true) →  (AN 1)),(((!decide (mTs 1 v + 3 * (↑l.1 : Int) < 0)) = true) → (NL w.1.2.1.1 w.1.2.1.1)),(((!decide (mTs 1 v + 3 * (↑l.1 : Int) < 0)) = true) →  (AN 1)),(((!decide (mTs 1 v + 3 * (↑l.1 : Int) < 0)) = true) → (NL w.2.1.1 w.2.1.1)),(((!decide (mTs 1 v + 3 * (↑l.1 : Int) < 0)) = true) →  Con Tryz.prog 10 0 [] [(zf16 w), (zf16 w)] [] (.p (.bool true))),(AG (!decide (mTs 1 v + 3 * (↑l.1 : Int) < 0))),(((decide (mTs 1 v + 3 * (↑l.1 : Int) < 0)) = false) →  ((!decide (mTs 1 v + 3 * (↑l.1 : Int) < 0)) = true)),((bif decide (mTs 1 v + 3 * (↑l.1 : Int) < 0) then true else !true) = false),(NT 0 1),(AE w.1.1.2.1.1),(AE w.1.2.1.1),(AE w.2.1.1),Con Tryz.prog 11 3 (zf17 w) [(zf117 w), .p (.int .i64 1)] (zf15 w gw) (.p (.int .i64 (mTs 1 w))),(NT 0 1),(AN 2),(NL w.1.1.2.1.1 w.1.1.2.1.1),(AN 1),(NL w.1.2.1.1 w.1.2.1.1),(AN 1),(NL w.2.1.1 w.2.1.1),Con Tryz.prog 12 0 [] [(zf14 w gw), .p (.int .i64 1)] [] (.p (.int .i64 (mTs 1 w))),((decide (mTs 1 w < 0)) = false),((mTs 1 w != mTs 1 w) = false),(NT 0 1),Con Tryz.prog 7 0 [] [(zf16 v)] (zf17 v) ((zf117 v)),Con Tryz.prog 15 0 [] [.p (.seq true 3 l.1 (fun i => [.int .i64 ((l.2 i).1), .int .i64 ((l.2 i).2.1), .int .i64 ((l.2 i).2.2.1)]))] (zf104 l) (.ar 3 0 0 l.1),(AN 2),(NL v.1.1.2.1.1 v.1.1.2.1.1),(AN 1),(NL v.1.2.1.1 v.1.2.1.1),(AN 1),(NL v.2.1.1 v.2.1.1),(AN 3),(NL l.1 l.1),Con Tryz.prog 16 0 [] [(zf16 v), .p (.seq true 3 l.1 (fun i => [.int .i64 ((l.2 i).1), .int .i64 ((l.2 i).2.1), .int .i64 ((l.2 i).2.2.1)]))] (zf17 w) ((zf117 w)),(NT 0 1),((true = true) →  (AN 1)),(NT 0 1),(NT 0 1),(AN 2),(NL w.1.1.2.1.1 w.1.1.2.1.1),(AN 1),(NL w.1.2.1.1 w.1.2.1.1),(AN 1),(NL w.2.1.1 w.2.1.1),(AN 2),(NL w.1.1.2.1.1 w.1.1.2.1.1),(AN 1),(NL w.1.2.1.1 w.1.2.1.1),(AN 1),(NL w.2.1.1 w.2.1.1),Con Tryz.prog 10 0 [] [(zf16 w), (zf16 w)] [] (.p (.bool true)),((!true) = false),(NT 0 1),(AN 2),(NL w.1.1.2.1.1 w.1.1.2.1.1),(AN 1),(NL w.1.2.1.1 w.1.2.1.1),(AN 1),(NL w.2.1.1 w.2.1.1),Con Tryz.prog 12 0 [] [(zf14 w gw), .p (.int .i64 1)] [] (.p (.int .i64 (mTs 1 w))),((decide (mTs 1 w < 0)) = false),((mTs 1 w != mTs 1 w) = false),(true = true)] := by kernel_rfl
def mtG (m : Int) (v : T_Site) (i : Nat) : ByteArray := mtB (mTp m v + i)
theorem con_markSiteT (v : T_Site) (hs : smS s_Site v) (m : Int) (h0 : 0 < m) (h1 : m ≤ 1000) : Con Tryz.prog 11 3 (siH v) [siV v, .p (.int .i64 m)] (msH v m (mtG m v)) (.p (.int .i64 (mTs m v))) := by
  have n1 : v.1.1.2.1.1 ≤ 1048576 := hs.1.1.2.1.1
  have n2 : v.1.2.1.1 ≤ 1048576 := hs.1.2.1.1
  have n3 : v.2.1.1 ≤ 1048576 := hs.2.1.1
  have c1 := con_markPinned v.1 m n1 n2 (by omega) (by omega)
  have c2 := con_markTexts v.2.1.1 v.2.1.2 (mTp m v) n3 (by unfold mTp; omega) (by unfold mTp; omega)
  refine con_start Tryz.func11 rfl (by kernel_rfl) rfl (fun c hc => ?_)
  refine path_ok mixed Tryz.func11 hc (eMs v m (mtG m v)) ?_
  simp only [All]
  repeat' (first | exact trivial | with_reducible apply And.intro)
  all_goals (first | exact aA _ _ | exact aE _ | omega | rfl | (intros; first | assumption | exact trivial | rfl | contradiction | ((repeat' (first | assumption | apply anda | apply notf)); done)) | (exact c1) | (exact c2) | (intros; simp [All, aEt]; done) | (intros; simp [All, aEt, ntAL, ntA, ntP, ntL]; done))
theorem con_heldSiteT (v : T_Site) (hs : smS s_Site v) (m : Int) (h0 : 0 < m) (h1 : m ≤ 1000) : Con Tryz.prog 12 0 [] [hpA v m (mtG m v), .p (.int .i64 m)] [] (.p (.int .i64 (mTs m v))) := by
  have n1 : v.1.1.2.1.1 ≤ 1048576 := hs.1.1.2.1.1
  have n2 : v.1.2.1.1 ≤ 1048576 := hs.1.2.1.1
  have n3 : v.2.1.1 ≤ 1048576 := hs.2.1.1
  have c1 := con_heldPinned v.1 m n1 n2 (by omega) (by omega)
  have c2 := con_heldTexts v.2.1.1 (mTp m v) n3 (by unfold mTp; omega) (by unfold mTp; omega)
  have d1 : decide (mTp m v < 0) = false := decide_eq_false (by unfold mTp; omega)
  have d2 : decide (mTs m v < 0) = false := decide_eq_false (by unfold mTs; omega)
  refine con_start Tryz.func12 rfl (by kernel_rfl) rfl (fun c hc => ?_)
  refine path_ok mixed Tryz.func12 hc (eHs v m (mtG m v)) ?_
  simp only [All]
  repeat' (first | exact trivial | with_reducible apply And.intro)
  all_goals (first | omega | rfl | (intros; first | assumption | exact trivial | rfl | contradiction | ((repeat' (first | assumption | apply anda | apply notf)); done)) | (exact c1) | (exact c2) | (exact d1) | (exact d2) | (intros; simp [All, aEt]; done))
theorem con_law_FnExactApplyEvent (v0 : T_Site) (v1 : T_Event) (k0 : okS s_Site v0) (k1 : okS s_Event v1) : Con Tryz.prog 3 0 [] [siA v0, evtA v1] [] (.p (.bool true)) := by
  have he : okE v1 := by
    simp only [s_Event, okS, okL, imin, imax] at k1
    exact ⟨k1.1, k1.2.1, k1.2.2.1⟩
  refine con_start Tryz.func3 rfl (by kernel_rfl) rfl (fun c hc => ?_)
  have l0 := le_szSite v0 1048576 (by omega)
  by_cases g0 : (f_szSite v0 1048576) < 0
  · refine path_ok mixed Tryz.func3 hc (eL0 v0 v1) ?_
    simp only [All]
    repeat' (first | exact trivial | with_reducible apply And.intro)
    all_goals (first | omega | rfl | (intros; first | assumption | exact trivial | rfl | contradiction | ((repeat' (first | assumption | apply anda | apply notf)); done)) | (exact con_szSite v0 k0 _ (by omega) (by omega)) | (simp; omega))
  have hs0 := sm_szSite v0 1048576 (by omega) (by omega) g0
  have hsw := sm_evR hs0 v1
  have c1 := con_Apply_s v0 hs0 v1 he
  have c2 := con_Apply_i v0 hs0 v1 he
  have hse : smS s_Event v1 := ⟨trivial, trivial, trivial, trivial⟩
  generalize evR v0 v1 = R at *
  have d0 : decide (f_szSite v0 1048576 < 0) = false := decide_eq_false g0
  have d1 : decide (mTs 1 v0 < 0) = false := decide_eq_false (by unfold mTs; omega)
  have d2 : decide (mTs 1 R.1 < 0) = false := decide_eq_false (by unfold mTs; omega)
  refine path_ok mixed Tryz.func3 hc (eLe v0 R.1 v1 R.2 (mtG 1 v0) (mtG 1 R.1)) ?_
  simp only [All]
  repeat' (first | exact trivial | with_reducible apply And.intro)
  all_goals (first | exact aG _ | exact aE _ | omega | rfl | (intros; first | assumption | exact trivial | rfl | contradiction | ((repeat' (first | assumption | apply anda | apply notf)); done)) | (exact con_szSite v0 k0 _ (by omega) (by omega)) | (exact con_toSite v0 hs0) | (exact con_toEvent v1 hse) | (exact c1) | (exact c2) | (intros; exact con_eqSite R.1 hsw) | (intros; exact con_eqSite v0 hs0) | (intros; exact con_markSiteT v0 hs0 1 (by omega) (by omega)) | (intros; exact con_markSiteT R.1 hsw 1 (by omega) (by omega)) | (intros; exact con_heldSiteT R.1 hsw 1 (by omega) (by omega)) | (exact d0) | (exact d2) | (rw [d1]; cases R.2 <;> rfl) | (cases R.2 <;> rfl) | (simp; done) | (simp; omega))
theorem con_law_FnExactRunEvents (v0 : T_Site) (v1 : T_EventS) (k0 : okS s_Site v0) (k1 : okS s_EventS v1) : Con Tryz.prog 4 0 [] [siA v0, evLs v1] [] (.p (.bool true)) := by
  have he : ∀ i, i < v1.1 → okE (v1.2 i) := by
    intro i hi
    have := k1
    simp only [s_EventS, okS, okL, imin, imax] at this
    have := this.2 i hi
    exact ⟨this.1, this.2.1, this.2.2.1⟩
  refine con_start Tryz.func4 rfl (by kernel_rfl) rfl (fun c hc => ?_)
  have l0 := le_szSite v0 1048576 (by omega)
  by_cases g0 : (f_szSite v0 1048576) < 0
  · refine path_ok mixed Tryz.func4 hc (eR0 v0 v1) ?_
    simp only [All]
    repeat' (first | exact trivial | with_reducible apply And.intro)
    all_goals (first | omega | rfl | (intros; first | assumption | exact trivial | rfl | contradiction | ((repeat' (first | assumption | apply anda | apply notf)); done)) | (exact con_szSite v0 k0 _ (by omega) (by omega)) | (simp; omega))
  have hs0 := sm_szSite v0 1048576 (by omega) (by omega) g0
  have d0 : decide (f_szSite v0 1048576 < 0) = false := decide_eq_false g0
  by_cases g1 : (f_szEventS v1 (f_szSite v0 1048576)) < 0
  · have d1 : decide (f_szEventS v1 (f_szSite v0 1048576) < 0) = true := decide_eq_true g1
    refine path_ok mixed Tryz.func4 hc (eR1 v0 v1) ?_
    simp only [All]
    repeat' (first | exact trivial | with_reducible apply And.intro)
    all_goals (first | omega | rfl | (intros; first | assumption | exact trivial | rfl | contradiction | ((repeat' (first | assumption | apply anda | apply notf)); done)) | (exact con_szSite v0 k0 _ (by omega) (by omega)) | (exact con_szEventS v1 k1 _ (by omega) (by omega)) | (exact d0) | (exact d1) | (simp; omega))
  have hs1 := sm_szEventS v1 _ (by omega) g1
  have d1 : decide (f_szEventS v1 (f_szSite v0 1048576) < 0) = false := decide_eq_false g1
  have n1 : v1.1 ≤ 1048576 := hs1.1
  have hsw := sm_rvD hs0 v1 v1.1
  have c1 := con_Run_s v0 hs0 v1 n1 he
  have c2 := con_Run_i v0 hs0 v1 n1 he
  generalize rvD v0 v1 v1.1 = R at *
  have a1 : v0.1.1.2.1.1 ≤ 1048576 := hs0.1.1.2.1.1
  have a2 : v0.1.2.1.1 ≤ 1048576 := hs0.1.2.1.1
  have a3 : v0.2.1.1 ≤ 1048576 := hs0.2.1.1
  have cm := con_markEventS v1 (mTs 1 v0) n1 (by unfold mTs; omega) (by unfold mTs; omega)
  have d3 : decide (mTs 1 v0 + 3 * (v1.1 : Int) < 0) = false := decide_eq_false (by unfold mTs; omega)
  have d2 : decide (mTs 1 R < 0) = false := decide_eq_false (by unfold mTs; omega)
  refine path_ok mixed Tryz.func4 hc (eRe v0 R v1 (mtG 1 v0) (mtG 1 R)) ?_
  simp only [All]
  repeat' (first | exact trivial | with_reducible apply And.intro)
  all_goals (first | exact aG _ | exact aE _ | omega | rfl | (intros; first | assumption | exact trivial | rfl | contradiction | ((repeat' (first | assumption | apply anda | apply notf)); done)) | (exact con_szSite v0 k0 _ (by omega) (by omega)) | (exact con_szEventS v1 k1 _ (by omega) (by omega)) | (exact con_toSite v0 hs0) | (exact con_toEventS v1 hs1) | (exact c1) | (exact c2) | (intros; exact con_eqSite R hsw) | (intros; exact con_eqSite v0 hs0) | (intros; exact con_eqEventS v1 hs1) | (intros; exact con_markSiteT v0 hs0 1 (by omega) (by omega)) | (intros; exact con_markSiteT R hsw 1 (by omega) (by omega)) | (exact cm) | (intros; exact con_heldSiteT R hsw 1 (by omega) (by omega)) | (exact d0) | (exact d1) | (exact d2) | (rw [d3]; rfl) | (simp; done) | (simp; omega))
end Go.Proofs.YtgdbnnmogddkaaaGreat.Mach
