/- A graph renamed: both programs give the same graph. Conditions: as each theorem says. -/
import Derived.Test.YtgdbnnmogddkaaaSrtB
import Derived.Test.YtgdbnnmogddkaaaHas
namespace Go.Proofs.Ytgdbnnmogddkaaa.Mach
open Go Go.Sort
set_option linter.unusedVariables false
set_option linter.unusedSimpArgs false

def brX (a b : Int) : T_Bar := (if b < a then b else a, if b > a then b else a, ())
def difN (N : Int) (s : Nat → Int) (k : Nat) : Bool := bif !inB (s k) 0 (N - 1) then true else hasI s (s k) k
def difZ (N : Int) (s : Nat → Int) (k : Nat) : Bool := bif bif decide (s k < 0) then true else decide (s k ≥ N) then true else hasI s (s k) k
def okD (N : Int) (s : Nat → Int) : Nat → Bool
  | 0 => true
  | k + 1 => okD N s k && !difN N s k
def SDi (v : T_Graph) (u : T_IntS) (k : Nat) : St :=
  ⟨[graphA v, inL u, .pt 2 0 0 0, .p .any, .p (.bool false), .p .any, .p .any, inL u, .p (.int .i64 u.1), .p (.int .i64 k)] ++ List.replicate 16 anyA, [(0, boxG v)], 1⟩
def SDs (v : T_Graph) (u : T_IntS) (k : Nat) : St :=
  ⟨[graphA v, inL u, .pt 2 0 0 0, .p .any, .p (.bool false), .p (.int .i64 k)] ++ List.replicate 30 anyA, [(0, boxG v)], 1⟩
def rnD (g : Nat → T_Bar) (s : Nat → Int) (i : Nat) : T_Bar := brX (s (g i).1.toNat) (s (g i).2.1.toNat)
def zG2 : Ob := ⟨true, 2, 1, fun _ => [.p (.int .i64 0), .p .nil]⟩
def SRi (v : T_Graph) (u : T_IntS) (k : Nat) (h : Nat → T_Bar) : St :=
  ⟨[graphA v, inL u, .pt 2 0 0 0, .p .any, .pt 2 1 0 0, .p (.bool false), .pt 2 2 0 0] ++ List.replicate 23 anyA ++ [graphL v.2.1, .p (.int .i64 v.2.1.1), .p (.int .i64 k)] ++ List.replicate 24 anyA,
   [(0, boxG v), (1, zG2), (2, ⟨true, 2, 1, fun _ => [.p (.int .i64 v.1), .ar 2 3 0 k]⟩), (3, brOb k h)], 4⟩
def SRs (v : T_Graph) (u : T_IntS) (k n : Nat) (h : Nat → T_Bar) : St :=
  ⟨[graphA v, inL u, .pt 2 0 0 0, .p .any, .pt 2 1 0 0, .p (.bool false), .pt 2 2 0 0, .p (.int .i64 k)] ++ List.replicate 58 anyA,
   [(0, boxG v), (1, zG2), (2, ⟨true, 2, 1, fun _ => [.p (.int .i64 v.1), .ar 2 3 0 n]⟩), (3, brOb n h)], 4⟩

theorem dBar (a b : Int) :
    pathOb Try.prog Try.f106 0 [.reg [oT], .reg [oT, oT, oT, oT, oT, oT, oT, oT]] [.code (bodyOf Try.f106)] (start Try.f106 [] 0 [.p (.int .i64 a), .p (.int .i64 b)]) [] 1 [] (.agg [.p (.int .i64 (if b < a then b else a)), .p (.int .i64 (if b > a then b else a))]) =
    some [((0 : Nat) < 1),
  (((true) = true) → ((1 : Nat) = 1)),
  ((0 : Nat) < 1),
  (((if false = true then if b > a then b else a else if b < a then b else a) : Int) = (if b < a then b else a)),
  (((if true = true then if b > a then b else a else if b < a then b else a) : Int) = (if b > a then b else a))] := by kernel_rfl
theorem dHas (v : T_Graph) (p : Int) :
    pathOb Try.prog Try.f101 0 [.reg [oT, oT], .reg [oT, oT, oT, oT, ⟨true, (some ⟨[], [], 1, [], .p (.bool (inB p 0 (v.1 - 1)))⟩), none⟩, oT]] [.code (bodyOf Try.f101)] (start Try.f101 [] 0 [graphA v, .p (.int .i64 p)]) [] 1 [] (.p (.bool (inB p 0 (v.1 - 1)))) =
    some [((0 : Nat) < 1),
  (((-9223372036854775808) : Int) ≤ (v.fst - 1)),
  (((v.fst - 1) : Int) ≤ 9223372036854775807),
  Con (Try.prog) 115 0 [] [.p (.int .i64 (p)), .p (.int .i64 0), .p (.int .i64 (v.fst - 1))] [] (.p (.bool (inB p 0 (v.fst - 1)))),
  ((inB p 0 (v.fst - 1)) = (inB p 0 (v.fst - 1)))] := by kernel_rfl
theorem dDa (v : T_Graph) (u : T_IntS) :
    pieceOb Try.prog 0 [.reg [oT, oT], .reg [oT, oT, oT], .head] [.code (bodyOf Try.f116)] (start Try.f116 [] 0 [graphA v, inL u]) [0] 1 (SDi v u 0) =
    some ([.code (cAt (bodyOf Try.f116) [1, 0, 1, 0, 0]), .inLoop (cAt (bodyOf Try.f116) [1, 0, 1, 0, 0]), .inBlock 0, .code (cAt (bodyOf Try.f116) [1, 1])], [(((v.fst) : Int) = (v.fst)),
  (((v.snd.fst.fst) : Nat) = (v.snd.fst.fst)),
  (∀ i : Nat, ((((i) : Nat) < (v.snd.fst.fst)) → (([.int .i64 ((v.snd.fst.snd i).fst), .int .i64 ((v.snd.fst.snd i).snd.fst)] : List PV) = [.int .i64 ((v.snd.fst.snd i).fst), .int .i64 ((v.snd.fst.snd i).snd.fst)]))),
  (((u.fst) : Nat) = (u.fst)),
  (∀ i : Nat, ((((i) : Nat) < (u.fst)) → (([.int .i64 (u.snd i)] : List PV) = [.int .i64 (u.snd i)]))),
  ((0 : Nat) = 0),
  (false = false),
  (((u.fst) : Nat) = (u.fst)),
  (∀ i : Nat, ((((i) : Nat) < (u.fst)) → (([.int .i64 (u.snd i)] : List PV) = [.int .i64 (u.snd i)]))),
  ((((↑u.fst : Int)) : Int) = ((↑u.fst : Int))),
  ((0 : Int) = ((↑0 : Int))),
  ((([AV.p (PV.int IntKind.i64 v.fst), graphL v.snd.fst].length) : Nat) = 2),
  ((1 : Nat) ≤ 1),
  ((1 : Nat) ≤ 1),
  (((v.fst) : Int) = (v.fst)),
  (((v.snd.fst.fst) : Nat) = (v.snd.fst.fst)),
  (∀ i : Nat, ((((i) : Nat) < (v.snd.fst.fst)) → (([.int .i64 ((v.snd.fst.snd i).fst), .int .i64 ((v.snd.fst.snd i).snd.fst)] : List PV) = [.int .i64 ((v.snd.fst.snd i).fst), .int .i64 ((v.snd.fst.snd i).snd.fst)])))]) := by kernel_rfl
theorem dDb (v : T_Graph) (u : T_IntS) (k : Nat) :
    pieceOb Try.prog 0 [.reg [oT], .dec true, .reg [oT, oT, oT, oT, oT], .reg [oT, oT, ⟨true, (some ⟨[], [], 1, [], .p (.bool (inB (u.2 k) 0 (v.1 - 1)))⟩), none⟩, oT, oT, oT, oT, oT, oT, ⟨true, (some ⟨[], [], 1, [], .p (.bool (hasI u.2 (u.2 k) k))⟩), none⟩, oT], .dec false, .reg [oT, oT], .head] [.code (cAt (bodyOf Try.f116) [1, 0, 1, 0, 0]), .inLoop (cAt (bodyOf Try.f116) [1, 0, 1, 0, 0]), .inBlock 0, .code (cAt (bodyOf Try.f116) [1, 1])] (SDi v u k) [0] 1 (SDi v u (k + 1)) =
    some ([.code (cAt (bodyOf Try.f116) [1, 0, 1, 0, 0]), .inLoop (cAt (bodyOf Try.f116) [1, 0, 1, 0, 0]), .inBlock 0, .code (cAt (bodyOf Try.f116) [1, 1])], [((decide ((↑k : Int) < (↑u.fst : Int))) = true),
  ((0 : Int) ≤ ((↑k : Int))),
  ((((↑k : Int)) : Int) < ((↑u.fst : Int))),
  ((0 : Nat) < 1),
  Con (Try.prog) 101 0 [] [.agg [.p (.int .i64 (v.fst)), .p (.seq true 2 (v.snd.fst.fst) (fun i => [.int .i64 ((v.snd.fst.snd i).fst), .int .i64 ((v.snd.fst.snd i).snd.fst)]))], .p (.int .i64 (u.snd k))] [] (.p (.bool (inB (u.snd k) 0 (v.fst - 1)))),
  (((!!inB (u.snd k) 0 (v.fst - 1)) = true) → ((!!inB (u.snd k) 0 (v.fst - 1)) = true)),
  (((!!inB (u.snd k) 0 (v.fst - 1)) = true) → ((!!inB (u.snd k) 0 (v.fst - 1)) = true)),
  (((!!inB (u.snd k) 0 (v.fst - 1)) = true) → ((0 : Int) ≤ 0)),
  (((!!inB (u.snd k) 0 (v.fst - 1)) = true) → ((0 : Int) ≤ ((↑k : Int)))),
  (((!!inB (u.snd k) 0 (v.fst - 1)) = true) → ((((↑k : Int)) : Int) ≤ ((↑u.fst : Int)))),
  (((!!inB (u.snd k) 0 (v.fst - 1)) = true) → ((!!inB (u.snd k) 0 (v.fst - 1)) = true)),
  (((!!inB (u.snd k) 0 (v.fst - 1)) = true) → ((!!inB (u.snd k) 0 (v.fst - 1)) = true)),
  (((!!inB (u.snd k) 0 (v.fst - 1)) = true) → Con (Try.prog) 83 0 [] [.p (.seq true 1 (k) (fun i => [.int .i64 (u.snd i)])), .p (.int .i64 (u.snd k))] [] (.p (.bool (hasI u.snd (u.snd k) k)))),
  (((!inB (u.snd k) 0 (v.fst - 1)) = false) → ((!!inB (u.snd k) 0 (v.fst - 1)) = true)),
  ((bif !inB (u.snd k) 0 (v.fst - 1) then true else hasI u.snd (u.snd k) k) = false),
  (((-9223372036854775808) : Int) ≤ ((↑k : Int) + 1)),
  ((((↑k : Int) + 1) : Int) ≤ 9223372036854775807),
  (((v.fst) : Int) = (v.fst)),
  (((v.snd.fst.fst) : Nat) = (v.snd.fst.fst)),
  (∀ i : Nat, ((((i) : Nat) < (v.snd.fst.fst)) → (([.int .i64 ((v.snd.fst.snd i).fst), .int .i64 ((v.snd.fst.snd i).snd.fst)] : List PV) = [.int .i64 ((v.snd.fst.snd i).fst), .int .i64 ((v.snd.fst.snd i).snd.fst)]))),
  (((u.fst) : Nat) = (u.fst)),
  (∀ i : Nat, ((((i) : Nat) < (u.fst)) → (([.int .i64 (u.snd i)] : List PV) = [.int .i64 (u.snd i)]))),
  ((0 : Nat) = 0),
  (false = false),
  (((u.fst) : Nat) = (u.fst)),
  (∀ i : Nat, ((((i) : Nat) < (u.fst)) → (([.int .i64 (u.snd i)] : List PV) = [.int .i64 (u.snd i)]))),
  ((((↑u.fst : Int)) : Int) = ((↑u.fst : Int))),
  ((((↑k : Int) + 1) : Int) = ((↑(k + 1) : Int))),
  ((2 : Nat) = 2),
  ((1 : Nat) ≤ 1),
  ((1 : Nat) ≤ 1),
  (((v.fst) : Int) = (v.fst)),
  (((v.snd.fst.fst) : Nat) = (v.snd.fst.fst)),
  (∀ i : Nat, ((((i) : Nat) < (v.snd.fst.fst)) → (([.int .i64 ((v.snd.fst.snd i).fst), .int .i64 ((v.snd.fst.snd i).snd.fst)] : List PV) = [.int .i64 ((v.snd.fst.snd i).fst), .int .i64 ((v.snd.fst.snd i).snd.fst)])))]) := by kernel_rfl
theorem dDc (v : T_Graph) (u : T_IntS) (k : Nat) :
    pathOb Try.prog Try.f116 0 [.reg [oT], .dec true, .reg [oT, oT, oT, oT, oT], .reg [oT, oT, ⟨true, (some ⟨[], [], 1, [], .p (.bool (inB (u.2 k) 0 (v.1 - 1)))⟩), none⟩, oT, oT, oT, oT, oT, oT, ⟨true, (some ⟨[], [], 1, [], .p (.bool (hasI u.2 (u.2 k) k))⟩), none⟩, oT], .dec true, .reg [oT]] [.code (cAt (bodyOf Try.f116) [1, 0, 1, 0, 0]), .inLoop (cAt (bodyOf Try.f116) [1, 0, 1, 0, 0]), .inBlock 0, .code (cAt (bodyOf Try.f116) [1, 1])] (SDi v u k) [] 1 [] (.p (.bool false)) =
    some [((decide ((↑k : Int) < (↑u.fst : Int))) = true),
  ((0 : Int) ≤ ((↑k : Int))),
  ((((↑k : Int)) : Int) < ((↑u.fst : Int))),
  ((0 : Nat) < 1),
  Con (Try.prog) 101 0 [] [.agg [.p (.int .i64 (v.fst)), .p (.seq true 2 (v.snd.fst.fst) (fun i => [.int .i64 ((v.snd.fst.snd i).fst), .int .i64 ((v.snd.fst.snd i).snd.fst)]))], .p (.int .i64 (u.snd k))] [] (.p (.bool (inB (u.snd k) 0 (v.fst - 1)))),
  (((!!inB (u.snd k) 0 (v.fst - 1)) = true) → ((!!inB (u.snd k) 0 (v.fst - 1)) = true)),
  (((!!inB (u.snd k) 0 (v.fst - 1)) = true) → ((!!inB (u.snd k) 0 (v.fst - 1)) = true)),
  (((!!inB (u.snd k) 0 (v.fst - 1)) = true) → ((0 : Int) ≤ 0)),
  (((!!inB (u.snd k) 0 (v.fst - 1)) = true) → ((0 : Int) ≤ ((↑k : Int)))),
  (((!!inB (u.snd k) 0 (v.fst - 1)) = true) → ((((↑k : Int)) : Int) ≤ ((↑u.fst : Int)))),
  (((!!inB (u.snd k) 0 (v.fst - 1)) = true) → ((!!inB (u.snd k) 0 (v.fst - 1)) = true)),
  (((!!inB (u.snd k) 0 (v.fst - 1)) = true) → ((!!inB (u.snd k) 0 (v.fst - 1)) = true)),
  (((!!inB (u.snd k) 0 (v.fst - 1)) = true) → Con (Try.prog) 83 0 [] [.p (.seq true 1 (k) (fun i => [.int .i64 (u.snd i)])), .p (.int .i64 (u.snd k))] [] (.p (.bool (hasI u.snd (u.snd k) k)))),
  (((!inB (u.snd k) 0 (v.fst - 1)) = false) → ((!!inB (u.snd k) 0 (v.fst - 1)) = true)),
  ((bif !inB (u.snd k) 0 (v.fst - 1) then true else hasI u.snd (u.snd k) k) = true),
  (false = false)] := by kernel_rfl
theorem dDd (v : T_Graph) (u : T_IntS) (k : Nat) :
    pathOb Try.prog Try.f116 0 [.reg [oT], .dec false, .reg [oT]] [.code (cAt (bodyOf Try.f116) [1, 0, 1, 0, 0]), .inLoop (cAt (bodyOf Try.f116) [1, 0, 1, 0, 0]), .inBlock 0, .code (cAt (bodyOf Try.f116) [1, 1])] (SDi v u k) [] 1 [] (.p (.bool true)) =
    some [((decide ((↑k : Int) < (↑u.fst : Int))) = false),
  (true = true)] := by kernel_rfl
theorem dPa (v : T_Graph) (u : T_IntS) :
    pieceOb Try.prog 0 [.reg [oT, oT], .reg [oT], .head] [.code (bodyOf Try.f114)] (start Try.f114 [] 0 [graphA v, inL u]) [0] 1 (SDs v u 0) =
    some ([.code (cAt (bodyOf Try.f114) [1, 0, 1, 0, 0]), .inLoop (cAt (bodyOf Try.f114) [1, 0, 1, 0, 0]), .inBlock 0, .code (cAt (bodyOf Try.f114) [1, 1])], [(((v.fst) : Int) = (v.fst)),
  (((v.snd.fst.fst) : Nat) = (v.snd.fst.fst)),
  (∀ i : Nat, ((((i) : Nat) < (v.snd.fst.fst)) → (([.int .i64 ((v.snd.fst.snd i).fst), .int .i64 ((v.snd.fst.snd i).snd.fst)] : List PV) = [.int .i64 ((v.snd.fst.snd i).fst), .int .i64 ((v.snd.fst.snd i).snd.fst)]))),
  (((u.fst) : Nat) = (u.fst)),
  (∀ i : Nat, ((((i) : Nat) < (u.fst)) → (([.int .i64 (u.snd i)] : List PV) = [.int .i64 (u.snd i)]))),
  ((0 : Nat) = 0),
  (false = false),
  ((0 : Int) = ((↑0 : Int))),
  ((([AV.p (PV.int IntKind.i64 v.fst), graphL v.snd.fst].length) : Nat) = 2),
  ((1 : Nat) ≤ 1),
  ((1 : Nat) ≤ 1),
  (((v.fst) : Int) = (v.fst)),
  (((v.snd.fst.fst) : Nat) = (v.snd.fst.fst)),
  (∀ i : Nat, ((((i) : Nat) < (v.snd.fst.fst)) → (([.int .i64 ((v.snd.fst.snd i).fst), .int .i64 ((v.snd.fst.snd i).snd.fst)] : List PV) = [.int .i64 ((v.snd.fst.snd i).fst), .int .i64 ((v.snd.fst.snd i).snd.fst)])))]) := by kernel_rfl
theorem dPb (v : T_Graph) (u : T_IntS) (k : Nat) :
    pieceOb Try.prog 0 [.reg [oT, oT, oT, oT], .dec true, .reg [oT, oT, oT, oT, oT, oT, oT, oT, oT, oT, oT, oT, oT, oT, oT, oT, oT, oT, oT, oT, oT, oT, ⟨true, (some ⟨[], [], 1, [], .p (.bool (hasI u.2 (u.2 k) k))⟩), none⟩, oT], .dec false, .reg [oT, oT, oT], .head] [.code (cAt (bodyOf Try.f114) [1, 0, 1, 0, 0]), .inLoop (cAt (bodyOf Try.f114) [1, 0, 1, 0, 0]), .inBlock 0, .code (cAt (bodyOf Try.f114) [1, 1])] (SDs v u k) [0] 1 (SDs v u (k + 1)) =
    some ([.code (cAt (bodyOf Try.f114) [1, 0, 1, 0, 0]), .inLoop (cAt (bodyOf Try.f114) [1, 0, 1, 0, 0]), .inBlock 0, .code (cAt (bodyOf Try.f114) [1, 1])], [((decide ((↑k : Int) < (↑u.fst : Int))) = true),
  ((0 : Int) ≤ ((↑k : Int))),
  ((((↑k : Int)) : Int) < ((↑u.fst : Int))),
  (((!decide (u.snd (↑k : Int).toNat < 0)) = true) → ((!decide (u.snd (↑k : Int).toNat < 0)) = true)),
  (((!decide (u.snd (↑k : Int).toNat < 0)) = true) → ((!decide (u.snd (↑k : Int).toNat < 0)) = true)),
  (((!decide (u.snd (↑k : Int).toNat < 0)) = true) → ((0 : Int) ≤ ((↑k : Int)))),
  (((!decide (u.snd (↑k : Int).toNat < 0)) = true) → ((((↑k : Int)) : Int) < ((↑u.fst : Int)))),
  (((!decide (u.snd (↑k : Int).toNat < 0)) = true) → ((!decide (u.snd (↑k : Int).toNat < 0)) = true)),
  (((!decide (u.snd (↑k : Int).toNat < 0)) = true) → ((!decide (u.snd (↑k : Int).toNat < 0)) = true)),
  (((!decide (u.snd (↑k : Int).toNat < 0)) = true) → ((0 : Nat) < 1)),
  (((!decide (u.snd (↑k : Int).toNat < 0)) = true) → ((!decide (u.snd (↑k : Int).toNat < 0)) = true)),
  (((!decide (u.snd (↑k : Int).toNat < 0)) = true) → ((!decide (u.snd (↑k : Int).toNat < 0)) = true)),
  (((decide (u.snd (↑k : Int).toNat < 0)) = false) → ((!decide (u.snd (↑k : Int).toNat < 0)) = true)),
  (((!bif decide (u.snd (↑k : Int).toNat < 0) then true else decide (u.snd (↑k : Int).toNat ≥ v.fst)) = true) → ((!bif decide (u.snd (↑k : Int).toNat < 0) then true else decide (u.snd (↑k : Int).toNat ≥ v.fst)) = true)),
  (((!bif decide (u.snd (↑k : Int).toNat < 0) then true else decide (u.snd (↑k : Int).toNat ≥ v.fst)) = true) → ((!bif decide (u.snd (↑k : Int).toNat < 0) then true else decide (u.snd (↑k : Int).toNat ≥ v.fst)) = true)),
  (((!bif decide (u.snd (↑k : Int).toNat < 0) then true else decide (u.snd (↑k : Int).toNat ≥ v.fst)) = true) → ((0 : Int) ≤ 0)),
  (((!bif decide (u.snd (↑k : Int).toNat < 0) then true else decide (u.snd (↑k : Int).toNat ≥ v.fst)) = true) → ((0 : Int) ≤ ((↑k : Int)))),
  (((!bif decide (u.snd (↑k : Int).toNat < 0) then true else decide (u.snd (↑k : Int).toNat ≥ v.fst)) = true) → ((((↑k : Int)) : Int) ≤ ((↑u.fst : Int)))),
  (((!bif decide (u.snd (↑k : Int).toNat < 0) then true else decide (u.snd (↑k : Int).toNat ≥ v.fst)) = true) → ((!bif decide (u.snd (↑k : Int).toNat < 0) then true else decide (u.snd (↑k : Int).toNat ≥ v.fst)) = true)),
  (((!bif decide (u.snd (↑k : Int).toNat < 0) then true else decide (u.snd (↑k : Int).toNat ≥ v.fst)) = true) → ((!bif decide (u.snd (↑k : Int).toNat < 0) then true else decide (u.snd (↑k : Int).toNat ≥ v.fst)) = true)),
  (((!bif decide (u.snd (↑k : Int).toNat < 0) then true else decide (u.snd (↑k : Int).toNat ≥ v.fst)) = true) → ((0 : Int) ≤ ((↑k : Int)))),
  (((!bif decide (u.snd (↑k : Int).toNat < 0) then true else decide (u.snd (↑k : Int).toNat ≥ v.fst)) = true) → ((((↑k : Int)) : Int) < ((↑u.fst : Int)))),
  (((!bif decide (u.snd (↑k : Int).toNat < 0) then true else decide (u.snd (↑k : Int).toNat ≥ v.fst)) = true) → ((!bif decide (u.snd (↑k : Int).toNat < 0) then true else decide (u.snd (↑k : Int).toNat ≥ v.fst)) = true)),
  (((!bif decide (u.snd (↑k : Int).toNat < 0) then true else decide (u.snd (↑k : Int).toNat ≥ v.fst)) = true) → ((!bif decide (u.snd (↑k : Int).toNat < 0) then true else decide (u.snd (↑k : Int).toNat ≥ v.fst)) = true)),
  (((!bif decide (u.snd (↑k : Int).toNat < 0) then true else decide (u.snd (↑k : Int).toNat ≥ v.fst)) = true) → ((!bif decide (u.snd (↑k : Int).toNat < 0) then true else decide (u.snd (↑k : Int).toNat ≥ v.fst)) = true)),
  (((!bif decide (u.snd (↑k : Int).toNat < 0) then true else decide (u.snd (↑k : Int).toNat ≥ v.fst)) = true) → Con (Try.prog) 93 0 [] [.p (.seq true 1 (k) (fun i => [.int .i64 (u.snd i)])), .p (.int .i64 (u.snd k))] [] (.p (.bool (hasI u.snd (u.snd k) k)))),
  (((bif decide (u.snd (↑k : Int).toNat < 0) then true else decide (u.snd (↑k : Int).toNat ≥ v.fst)) = false) → ((!bif decide (u.snd (↑k : Int).toNat < 0) then true else decide (u.snd (↑k : Int).toNat ≥ v.fst)) = true)),
  ((bif bif decide (u.snd (↑k : Int).toNat < 0) then true else decide (u.snd (↑k : Int).toNat ≥ v.fst) then true else hasI u.snd (u.snd k) k) = false),
  (((-9223372036854775808) : Int) ≤ ((↑k : Int) + 1)),
  ((((↑k : Int) + 1) : Int) ≤ 9223372036854775807),
  (((v.fst) : Int) = (v.fst)),
  (((v.snd.fst.fst) : Nat) = (v.snd.fst.fst)),
  (∀ i : Nat, ((((i) : Nat) < (v.snd.fst.fst)) → (([.int .i64 ((v.snd.fst.snd i).fst), .int .i64 ((v.snd.fst.snd i).snd.fst)] : List PV) = [.int .i64 ((v.snd.fst.snd i).fst), .int .i64 ((v.snd.fst.snd i).snd.fst)]))),
  (((u.fst) : Nat) = (u.fst)),
  (∀ i : Nat, ((((i) : Nat) < (u.fst)) → (([.int .i64 (u.snd i)] : List PV) = [.int .i64 (u.snd i)]))),
  ((0 : Nat) = 0),
  (false = false),
  ((((↑k : Int) + 1) : Int) = ((↑(k + 1) : Int))),
  ((2 : Nat) = 2),
  ((1 : Nat) ≤ 1),
  ((1 : Nat) ≤ 1),
  (((v.fst) : Int) = (v.fst)),
  (((v.snd.fst.fst) : Nat) = (v.snd.fst.fst)),
  (∀ i : Nat, ((((i) : Nat) < (v.snd.fst.fst)) → (([.int .i64 ((v.snd.fst.snd i).fst), .int .i64 ((v.snd.fst.snd i).snd.fst)] : List PV) = [.int .i64 ((v.snd.fst.snd i).fst), .int .i64 ((v.snd.fst.snd i).snd.fst)])))]) := by kernel_rfl
theorem dPc (v : T_Graph) (u : T_IntS) (k : Nat) :
    pathOb Try.prog Try.f114 0 [.reg [oT, oT, oT, oT], .dec true, .reg [oT, oT, oT, oT, oT, oT, oT, oT, oT, oT, oT, oT, oT, oT, oT, oT, oT, oT, oT, oT, oT, oT, ⟨true, (some ⟨[], [], 1, [], .p (.bool (hasI u.2 (u.2 k) k))⟩), none⟩, oT], .dec true, .reg [oT]] [.code (cAt (bodyOf Try.f114) [1, 0, 1, 0, 0]), .inLoop (cAt (bodyOf Try.f114) [1, 0, 1, 0, 0]), .inBlock 0, .code (cAt (bodyOf Try.f114) [1, 1])] (SDs v u k) [] 1 [] (.p (.bool false)) =
    some [((decide ((↑k : Int) < (↑u.fst : Int))) = true),
  ((0 : Int) ≤ ((↑k : Int))),
  ((((↑k : Int)) : Int) < ((↑u.fst : Int))),
  (((!decide (u.snd (↑k : Int).toNat < 0)) = true) → ((!decide (u.snd (↑k : Int).toNat < 0)) = true)),
  (((!decide (u.snd (↑k : Int).toNat < 0)) = true) → ((!decide (u.snd (↑k : Int).toNat < 0)) = true)),
  (((!decide (u.snd (↑k : Int).toNat < 0)) = true) → ((0 : Int) ≤ ((↑k : Int)))),
  (((!decide (u.snd (↑k : Int).toNat < 0)) = true) → ((((↑k : Int)) : Int) < ((↑u.fst : Int)))),
  (((!decide (u.snd (↑k : Int).toNat < 0)) = true) → ((!decide (u.snd (↑k : Int).toNat < 0)) = true)),
  (((!decide (u.snd (↑k : Int).toNat < 0)) = true) → ((!decide (u.snd (↑k : Int).toNat < 0)) = true)),
  (((!decide (u.snd (↑k : Int).toNat < 0)) = true) → ((0 : Nat) < 1)),
  (((!decide (u.snd (↑k : Int).toNat < 0)) = true) → ((!decide (u.snd (↑k : Int).toNat < 0)) = true)),
  (((!decide (u.snd (↑k : Int).toNat < 0)) = true) → ((!decide (u.snd (↑k : Int).toNat < 0)) = true)),
  (((decide (u.snd (↑k : Int).toNat < 0)) = false) → ((!decide (u.snd (↑k : Int).toNat < 0)) = true)),
  (((!bif decide (u.snd (↑k : Int).toNat < 0) then true else decide (u.snd (↑k : Int).toNat ≥ v.fst)) = true) → ((!bif decide (u.snd (↑k : Int).toNat < 0) then true else decide (u.snd (↑k : Int).toNat ≥ v.fst)) = true)),
  (((!bif decide (u.snd (↑k : Int).toNat < 0) then true else decide (u.snd (↑k : Int).toNat ≥ v.fst)) = true) → ((!bif decide (u.snd (↑k : Int).toNat < 0) then true else decide (u.snd (↑k : Int).toNat ≥ v.fst)) = true)),
  (((!bif decide (u.snd (↑k : Int).toNat < 0) then true else decide (u.snd (↑k : Int).toNat ≥ v.fst)) = true) → ((0 : Int) ≤ 0)),
  (((!bif decide (u.snd (↑k : Int).toNat < 0) then true else decide (u.snd (↑k : Int).toNat ≥ v.fst)) = true) → ((0 : Int) ≤ ((↑k : Int)))),
  (((!bif decide (u.snd (↑k : Int).toNat < 0) then true else decide (u.snd (↑k : Int).toNat ≥ v.fst)) = true) → ((((↑k : Int)) : Int) ≤ ((↑u.fst : Int)))),
  (((!bif decide (u.snd (↑k : Int).toNat < 0) then true else decide (u.snd (↑k : Int).toNat ≥ v.fst)) = true) → ((!bif decide (u.snd (↑k : Int).toNat < 0) then true else decide (u.snd (↑k : Int).toNat ≥ v.fst)) = true)),
  (((!bif decide (u.snd (↑k : Int).toNat < 0) then true else decide (u.snd (↑k : Int).toNat ≥ v.fst)) = true) → ((!bif decide (u.snd (↑k : Int).toNat < 0) then true else decide (u.snd (↑k : Int).toNat ≥ v.fst)) = true)),
  (((!bif decide (u.snd (↑k : Int).toNat < 0) then true else decide (u.snd (↑k : Int).toNat ≥ v.fst)) = true) → ((0 : Int) ≤ ((↑k : Int)))),
  (((!bif decide (u.snd (↑k : Int).toNat < 0) then true else decide (u.snd (↑k : Int).toNat ≥ v.fst)) = true) → ((((↑k : Int)) : Int) < ((↑u.fst : Int)))),
  (((!bif decide (u.snd (↑k : Int).toNat < 0) then true else decide (u.snd (↑k : Int).toNat ≥ v.fst)) = true) → ((!bif decide (u.snd (↑k : Int).toNat < 0) then true else decide (u.snd (↑k : Int).toNat ≥ v.fst)) = true)),
  (((!bif decide (u.snd (↑k : Int).toNat < 0) then true else decide (u.snd (↑k : Int).toNat ≥ v.fst)) = true) → ((!bif decide (u.snd (↑k : Int).toNat < 0) then true else decide (u.snd (↑k : Int).toNat ≥ v.fst)) = true)),
  (((!bif decide (u.snd (↑k : Int).toNat < 0) then true else decide (u.snd (↑k : Int).toNat ≥ v.fst)) = true) → ((!bif decide (u.snd (↑k : Int).toNat < 0) then true else decide (u.snd (↑k : Int).toNat ≥ v.fst)) = true)),
  (((!bif decide (u.snd (↑k : Int).toNat < 0) then true else decide (u.snd (↑k : Int).toNat ≥ v.fst)) = true) → Con (Try.prog) 93 0 [] [.p (.seq true 1 (k) (fun i => [.int .i64 (u.snd i)])), .p (.int .i64 (u.snd k))] [] (.p (.bool (hasI u.snd (u.snd k) k)))),
  (((bif decide (u.snd (↑k : Int).toNat < 0) then true else decide (u.snd (↑k : Int).toNat ≥ v.fst)) = false) → ((!bif decide (u.snd (↑k : Int).toNat < 0) then true else decide (u.snd (↑k : Int).toNat ≥ v.fst)) = true)),
  ((bif bif decide (u.snd (↑k : Int).toNat < 0) then true else decide (u.snd (↑k : Int).toNat ≥ v.fst) then true else hasI u.snd (u.snd k) k) = true),
  (false = false)] := by kernel_rfl
theorem dPd (v : T_Graph) (u : T_IntS) (k : Nat) :
    pathOb Try.prog Try.f114 0 [.reg [oT, oT, oT, oT], .dec false, .reg [oT]] [.code (cAt (bodyOf Try.f114) [1, 0, 1, 0, 0]), .inLoop (cAt (bodyOf Try.f114) [1, 0, 1, 0, 0]), .inBlock 0, .code (cAt (bodyOf Try.f114) [1, 1])] (SDs v u k) [] 1 [] (.p (.bool true)) =
    some [((decide ((↑k : Int) < (↑u.fst : Int))) = false),
  (true = true)] := by kernel_rfl
theorem dRy (v : T_Graph) (u : T_IntS) (b1 b3 : Bool) :
    pathOb Try.prog Try.f80 0 [.reg [oT, oT, oT], .reg [oT, ⟨true, (some ⟨[], [], 1, [], .p (.bool b1)⟩), none⟩, oT, oT, oT, oT, oT, oT, oT, oT, oT, oT, oT, ⟨true, (some ⟨[], [], 1, [], .p (.bool b3)⟩), none⟩, oT, oT], .dec true, .reg [oT, oT, oT]] [.code (bodyOf Try.f80)] (start Try.f80 [] 0 [graphA v, inL u]) [] 1 [(0, brOb 0 (fun _ => (0, 0, ())))] (.tup [.agg [.p (.int .i64 0), .ar 2 0 0 0], .p (.bool false)]) =
    some [((0 : Nat) < 1),
  Con (Try.prog) 77 0 [] [.agg [.p (.int .i64 (v.fst)), .p (.seq true 2 (v.snd.fst.fst) (fun i => [.int .i64 ((v.snd.fst.snd i).fst), .int .i64 ((v.snd.fst.snd i).snd.fst)]))]] [] (.p (.bool (b1))),
  (((!!b1) = true) → ((!!b1) = true)),
  (((!!b1) = true) → ((!!b1) = true)),
  (((!!b1) = true) → ((0 : Nat) < 1)),
  (((!!b1) = true) → ((!!b1) = true)),
  (((!!b1) = true) → ((!!b1) = true)),
  (((!b1) = false) → ((!!b1) = true)),
  (((!bif !b1 then true else (↑u.fst : Int) != v.fst) = true) → ((0 : Nat) < 1)),
  (((!bif !b1 then true else (↑u.fst : Int) != v.fst) = true) → ((!bif !b1 then true else (↑u.fst : Int) != v.fst) = true)),
  (((!bif !b1 then true else (↑u.fst : Int) != v.fst) = true) → ((!bif !b1 then true else (↑u.fst : Int) != v.fst) = true)),
  (((!bif !b1 then true else (↑u.fst : Int) != v.fst) = true) → Con (Try.prog) 116 0 [] [.agg [.p (.int .i64 (v.fst)), .p (.seq true 2 (v.snd.fst.fst) (fun i => [.int .i64 ((v.snd.fst.snd i).fst), .int .i64 ((v.snd.fst.snd i).snd.fst)]))], .p (.seq true 1 (u.fst) (fun i => [.int .i64 (u.snd i)]))] [] (.p (.bool (b3)))),
  (((!bif !b1 then true else (↑u.fst : Int) != v.fst) = true) → ((!bif !b1 then true else (↑u.fst : Int) != v.fst) = true)),
  (((bif !b1 then true else (↑u.fst : Int) != v.fst) = false) → ((!bif !b1 then true else (↑u.fst : Int) != v.fst) = true)),
  ((bif bif !b1 then true else (↑u.fst : Int) != v.fst then true else !b3) = true),
  ((0 : Nat) < 1),
  (((true) = true) → ((1 : Nat) = 1)),
  ((0 : Nat) < 1),
  ((0 : Int) = 0),
  ((0 : Nat) = 0),
  (false = false),
  ((0 : Nat) = 0),
  (∀ i : Nat, ((((i) : Nat) < 0) → All []))] := by kernel_rfl
theorem dRz (v : T_Graph) (u : T_IntS) (b1 b3 : Bool) :
    pieceOb Try.prog 0 [.reg [oT, oT, oT], .reg [oT, ⟨true, (some ⟨[], [], 1, [], .p (.bool b1)⟩), none⟩, oT, oT, oT, oT, oT, oT, oT, oT, oT, oT, oT, ⟨true, (some ⟨[], [], 1, [], .p (.bool b3)⟩), none⟩, oT, oT], .dec false, .reg [oT, oT, oT, oT, oT], .reg [oT, oT, oT, oT], .head] [.code (bodyOf Try.f80)] (start Try.f80 [] 0 [graphA v, inL u]) [0, 32, 704] 1 (SRi v u 0 (fun _ => (0, 0, ()))) =
    some ([.code (cAt (bodyOf Try.f80) [1, 1, 1, 0, 1, 0, 0]), .inLoop (cAt (bodyOf Try.f80) [1, 1, 1, 0, 1, 0, 0]), .inBlock 0, .code (cAt (bodyOf Try.f80) [1, 1, 1, 1])], [((0 : Nat) < 1),
  Con (Try.prog) 77 0 [] [.agg [.p (.int .i64 (v.fst)), .p (.seq true 2 (v.snd.fst.fst) (fun i => [.int .i64 ((v.snd.fst.snd i).fst), .int .i64 ((v.snd.fst.snd i).snd.fst)]))]] [] (.p (.bool (b1))),
  (((!!b1) = true) → ((!!b1) = true)),
  (((!!b1) = true) → ((!!b1) = true)),
  (((!!b1) = true) → ((0 : Nat) < 1)),
  (((!!b1) = true) → ((!!b1) = true)),
  (((!!b1) = true) → ((!!b1) = true)),
  (((!b1) = false) → ((!!b1) = true)),
  (((!bif !b1 then true else (↑u.fst : Int) != v.fst) = true) → ((0 : Nat) < 1)),
  (((!bif !b1 then true else (↑u.fst : Int) != v.fst) = true) → ((!bif !b1 then true else (↑u.fst : Int) != v.fst) = true)),
  (((!bif !b1 then true else (↑u.fst : Int) != v.fst) = true) → ((!bif !b1 then true else (↑u.fst : Int) != v.fst) = true)),
  (((!bif !b1 then true else (↑u.fst : Int) != v.fst) = true) → Con (Try.prog) 116 0 [] [.agg [.p (.int .i64 (v.fst)), .p (.seq true 2 (v.snd.fst.fst) (fun i => [.int .i64 ((v.snd.fst.snd i).fst), .int .i64 ((v.snd.fst.snd i).snd.fst)]))], .p (.seq true 1 (u.fst) (fun i => [.int .i64 (u.snd i)]))] [] (.p (.bool (b3)))),
  (((!bif !b1 then true else (↑u.fst : Int) != v.fst) = true) → ((!bif !b1 then true else (↑u.fst : Int) != v.fst) = true)),
  (((bif !b1 then true else (↑u.fst : Int) != v.fst) = false) → ((!bif !b1 then true else (↑u.fst : Int) != v.fst) = true)),
  ((bif bif !b1 then true else (↑u.fst : Int) != v.fst then true else !b3) = false),
  ((0 : Nat) < 1),
  ((0 : Nat) < 1),
  (((true) = true) → ((1 : Nat) = 1)),
  ((0 : Nat) < 1),
  (((v.fst) : Int) = (v.fst)),
  (((v.snd.fst.fst) : Nat) = (v.snd.fst.fst)),
  (∀ i : Nat, ((((i) : Nat) < (v.snd.fst.fst)) → (([.int .i64 ((v.snd.fst.snd i).fst), .int .i64 ((v.snd.fst.snd i).snd.fst)] : List PV) = [.int .i64 ((v.snd.fst.snd i).fst), .int .i64 ((v.snd.fst.snd i).snd.fst)]))),
  (((u.fst) : Nat) = (u.fst)),
  (∀ i : Nat, ((((i) : Nat) < (u.fst)) → (([.int .i64 (u.snd i)] : List PV) = [.int .i64 (u.snd i)]))),
  ((0 : Nat) = 0),
  ((0 : Nat) = 0),
  (false = false),
  ((0 : Nat) = 0),
  (((v.snd.fst.fst) : Nat) = (v.snd.fst.fst)),
  (∀ i : Nat, ((((i) : Nat) < (v.snd.fst.fst)) → (([.int .i64 ((v.snd.fst.snd i).fst), .int .i64 ((v.snd.fst.snd i).snd.fst)] : List PV) = [.int .i64 ((v.snd.fst.snd i).fst), .int .i64 ((v.snd.fst.snd i).snd.fst)]))),
  ((((↑v.snd.fst.fst : Int)) : Int) = ((↑v.snd.fst.fst : Int))),
  ((0 : Int) = ((↑0 : Int))),
  ((([AV.p (PV.int IntKind.i64 v.fst), graphL v.snd.fst].length) : Nat) = 2),
  ((1 : Nat) ≤ 1),
  ((1 : Nat) ≤ 1),
  (((v.fst) : Int) = (v.fst)),
  (((v.snd.fst.fst) : Nat) = (v.snd.fst.fst)),
  (∀ i : Nat, ((((i) : Nat) < (v.snd.fst.fst)) → (([.int .i64 ((v.snd.fst.snd i).fst), .int .i64 ((v.snd.fst.snd i).snd.fst)] : List PV) = [.int .i64 ((v.snd.fst.snd i).fst), .int .i64 ((v.snd.fst.snd i).snd.fst)]))),
  ((((List.map (fun v => AV.p (absV v)) [Value.int IntKind.i64 0, Value.slice none 0 0]).length) : Nat) = 2),
  ((1 : Nat) ≤ 1),
  ((1 : Nat) ≤ 1),
  ((0 : Int) = 0),
  ((((List.map (fun v => AV.p (absV v)) [Value.int IntKind.i64 0, Value.slice none 0 0]).length) : Nat) = 2),
  ((1 : Nat) ≤ 1),
  ((1 : Nat) ≤ 1),
  (((v.fst) : Int) = (v.fst)),
  ((0 : Nat) = 0),
  ((0 : Nat) = 0)]) := by kernel_rfl
theorem dRa (v : T_Graph) (u : T_IntS) (k : Nat) (h : Nat → T_Bar) (x : T_Bar) :
    pieceOb Try.prog 0 [.reg [oT], .dec true, .reg [oT, oT, oT, oT], .reg [oT, oT, oT, oT, oT, oT, oT, oT, oT, oT, oT, oT, ⟨true, (some ⟨[], [], 1, [], .agg [.p (.int .i64 x.1), .p (.int .i64 x.2.1)]⟩), none⟩, oT, oT, oT, oT], .reg [oT, oT], .head] [.code (cAt (bodyOf Try.f80) [1, 1, 1, 0, 1, 0, 0]), .inLoop (cAt (bodyOf Try.f80) [1, 1, 1, 0, 1, 0, 0]), .inBlock 0, .code (cAt (bodyOf Try.f80) [1, 1, 1, 1])] (SRi v u k h) [0, 1, 2, 612] 1 (SRi v u (k + 1) (snoc k h x)) =
    some ([.code (cAt (bodyOf Try.f80) [1, 1, 1, 0, 1, 0, 0]), .inLoop (cAt (bodyOf Try.f80) [1, 1, 1, 0, 1, 0, 0]), .inBlock 0, .code (cAt (bodyOf Try.f80) [1, 1, 1, 1])], [((decide ((↑k : Int) < (↑v.snd.fst.fst : Int))) = true),
  ((0 : Int) ≤ ((↑k : Int))),
  ((((↑k : Int)) : Int) < ((↑v.snd.fst.fst : Int))),
  ((0 : Nat) < 1),
  (((true) = true) → ((1 : Nat) = 1)),
  ((0 : Nat) < 1),
  ((0 : Nat) < 1),
  ((0 : Int) ≤ ((v.snd.fst.snd k).fst)),
  ((((v.snd.fst.snd k).fst) : Int) < ((↑u.fst : Int))),
  ((0 : Nat) < 1),
  ((0 : Int) ≤ ((v.snd.fst.snd k).snd.fst)),
  ((((v.snd.fst.snd k).snd.fst) : Int) < ((↑u.fst : Int))),
  Con (Try.prog) 106 0 [] [.p (.int .i64 (u.snd (v.snd.fst.snd k).fst.toNat)), .p (.int .i64 (u.snd (v.snd.fst.snd k).snd.fst.toNat))] [] (.agg [.p (.int .i64 (x.fst)), .p (.int .i64 (x.snd.fst))]),
  ((1 : Nat) ≤ 1),
  (((k) : Nat) ≤ (k)),
  ((((k + 1) * 16) : Nat) ≤ 140737488355328),
  (((k + 1) : Nat) ≤ 9223372036854775807),
  ((0 : Nat) < 1),
  (((true) = true) → ((1 : Nat) = 1)),
  (((-9223372036854775808) : Int) ≤ ((↑k : Int) + 1)),
  ((((↑k : Int) + 1) : Int) ≤ 9223372036854775807),
  (((v.fst) : Int) = (v.fst)),
  (((v.snd.fst.fst) : Nat) = (v.snd.fst.fst)),
  (∀ i : Nat, ((((i) : Nat) < (v.snd.fst.fst)) → (([.int .i64 ((v.snd.fst.snd i).fst), .int .i64 ((v.snd.fst.snd i).snd.fst)] : List PV) = [.int .i64 ((v.snd.fst.snd i).fst), .int .i64 ((v.snd.fst.snd i).snd.fst)]))),
  (((u.fst) : Nat) = (u.fst)),
  (∀ i : Nat, ((((i) : Nat) < (u.fst)) → (([.int .i64 (u.snd i)] : List PV) = [.int .i64 (u.snd i)]))),
  ((0 : Nat) = 0),
  ((0 : Nat) = 0),
  (false = false),
  ((0 : Nat) = 0),
  (((v.snd.fst.fst) : Nat) = (v.snd.fst.fst)),
  (∀ i : Nat, ((((i) : Nat) < (v.snd.fst.fst)) → (([.int .i64 ((v.snd.fst.snd i).fst), .int .i64 ((v.snd.fst.snd i).snd.fst)] : List PV) = [.int .i64 ((v.snd.fst.snd i).fst), .int .i64 ((v.snd.fst.snd i).snd.fst)]))),
  ((((↑v.snd.fst.fst : Int)) : Int) = ((↑v.snd.fst.fst : Int))),
  ((((↑k : Int) + 1) : Int) = ((↑(k + 1) : Int))),
  ((2 : Nat) = 2),
  ((1 : Nat) ≤ 1),
  ((1 : Nat) ≤ 1),
  (((v.fst) : Int) = (v.fst)),
  (((v.snd.fst.fst) : Nat) = (v.snd.fst.fst)),
  (∀ i : Nat, ((((i) : Nat) < (v.snd.fst.fst)) → (([.int .i64 ((v.snd.fst.snd i).fst), .int .i64 ((v.snd.fst.snd i).snd.fst)] : List PV) = [.int .i64 ((v.snd.fst.snd i).fst), .int .i64 ((v.snd.fst.snd i).snd.fst)]))),
  ((2 : Nat) = 2),
  ((1 : Nat) ≤ 1),
  ((1 : Nat) ≤ 1),
  ((0 : Int) = 0),
  ((2 : Nat) = 2),
  ((1 : Nat) ≤ 1),
  ((1 : Nat) ≤ 1),
  (((v.fst) : Int) = (v.fst)),
  ((0 : Nat) = 0),
  (((k + 1) : Nat) = (k + 1)),
  ((2 : Nat) = 2),
  (((k + 1) : Nat) ≤ (k + 1)),
  (∀ i : Nat, ((((i) : Nat) < (k + 1)) → (All (cvtL false [(2, ⟨true, 2, 1, (fun i_1 => [.p (.int .i64 (v.fst)), .ar 2 612 0 (k + 1)])⟩), (612, ⟨false, 2, (k + 1), (fun i_1 => (if (i_1 < k) then [.p (.int .i64 ((h i_1).fst)), .p (.int .i64 ((h i_1).snd.fst))] else [.p (.int .i64 (x.fst)), .p (.int .i64 (x.snd.fst))]))⟩), (580, ⟨false, 2, 1, (fun i_1 => [.p (.int .i64 (x.fst)), .p (.int .i64 (x.snd.fst))])⟩), (100, ⟨true, 2, 1, (fun i_1 => [.p (.int .i64 ((v.snd.fst.snd k).fst)), .p (.int .i64 ((v.snd.fst.snd k).snd.fst))])⟩), (0, ⟨true, 2, 1, (fun i_1 => [.p (.int .i64 (v.fst)), .p (.seq true 2 (v.snd.fst.fst) (fun i_2 => [.int .i64 ((v.snd.fst.snd i_2).fst), .int .i64 ((v.snd.fst.snd i_2).snd.fst)]))])⟩), (1, ⟨true, 2, 1, (fun i_1 => [.p (.int .i64 0), .p (.nil)])⟩)] [0, 1, 2, 612] 1 (if (i < k) then [.p (.int .i64 ((h i).fst)), .p (.int .i64 ((h i).snd.fst))] else [.p (.int .i64 (x.fst)), .p (.int .i64 (x.snd.fst))])).2 ∧ (((cvtL false [(2, ⟨true, 2, 1, (fun i_1 => [.p (.int .i64 (v.fst)), .ar 2 612 0 (k + 1)])⟩), (612, ⟨false, 2, (k + 1), (fun i_1 => (if (i_1 < k) then [.p (.int .i64 ((h i_1).fst)), .p (.int .i64 ((h i_1).snd.fst))] else [.p (.int .i64 (x.fst)), .p (.int .i64 (x.snd.fst))]))⟩), (580, ⟨false, 2, 1, (fun i_1 => [.p (.int .i64 (x.fst)), .p (.int .i64 (x.snd.fst))])⟩), (100, ⟨true, 2, 1, (fun i_1 => [.p (.int .i64 ((v.snd.fst.snd k).fst)), .p (.int .i64 ((v.snd.fst.snd k).snd.fst))])⟩), (0, ⟨true, 2, 1, (fun i_1 => [.p (.int .i64 (v.fst)), .p (.seq true 2 (v.snd.fst.fst) (fun i_2 => [.int .i64 ((v.snd.fst.snd i_2).fst), .int .i64 ((v.snd.fst.snd i_2).snd.fst)]))])⟩), (1, ⟨true, 2, 1, (fun i_1 => [.p (.int .i64 0), .p (.nil)])⟩)] [0, 1, 2, 612] 1 (if (i < k) then [.p (.int .i64 ((h i).fst)), .p (.int .i64 ((h i).snd.fst))] else [.p (.int .i64 (x.fst)), .p (.int .i64 (x.snd.fst))])).1 : List AV) = [.p (.int .i64 (if i < k then (h i).fst else x.fst)), .p (.int .i64 (if i < k then (h i).snd.fst else x.snd.fst))]))))]) := by kernel_rfl
theorem dRb (v : T_Graph) (u : T_IntS) (k : Nat) (h r : Nat → T_Bar) :
    pathOb Try.prog Try.f80 0 [.reg [oT], .dec false, .reg [oT, oT, ⟨true, (some ⟨[3], [], 1, [(0, brOb k r)], .tup []⟩), none⟩], .reg [oT, oT, oT]] [.code (cAt (bodyOf Try.f80) [1, 1, 1, 0, 1, 0, 0]), .inLoop (cAt (bodyOf Try.f80) [1, 1, 1, 0, 1, 0, 0]), .inBlock 0, .code (cAt (bodyOf Try.f80) [1, 1, 1, 1])] (SRi v u k h) [3] 1 [(0, brOb k r)] (.tup [.agg [.p (.int .i64 v.1), .ar 2 0 0 k], .p (.bool true)]) =
    some [((decide ((↑k : Int) < (↑v.snd.fst.fst : Int))) = false),
  ((0 : Nat) < 1),
  (∀ i : Nat, ((((i) : Nat) < (k)) → All [])),
  Con (Try.prog) 109 1 [(0, ⟨false, 2, (k), (fun i => [.p (.int .i64 ((h i).fst)), .p (.int .i64 ((h i).snd.fst))])⟩)] [.ar 2 0 0 (k), .p (.fn 82)] [(0, ⟨false, 2, (k), (fun i => [.p (.int .i64 ((r i).fst)), .p (.int .i64 ((r i).snd.fst))])⟩)] (.tup []),
  ((0 : Nat) < 1),
  ((0 : Nat) < 1),
  (((true) = true) → ((1 : Nat) = 1)),
  ((0 : Nat) < 1),
  (((v.fst) : Int) = (v.fst)),
  ((0 : Nat) = 0),
  (((k) : Nat) = (k)),
  (true = true),
  ((2 : Nat) = 2),
  (((k) : Nat) ≤ (k)),
  (∀ i : Nat, ((((i) : Nat) < (k)) → (All [] ∧ (([.p (.int .i64 ((r i).fst)), .p (.int .i64 ((r i).snd.fst))] : List AV) = [.p (.int .i64 ((r i).fst)), .p (.int .i64 ((r i).snd.fst))])))),
  (∀ i : Nat, ((((i) : Nat) < (k)) → All []))] := by kernel_rfl
theorem dSy (v : T_Graph) (u : T_IntS) (b1 b3 : Bool) :
    pathOb Try.prog Try.f75 0 [.reg [oT, oT, oT], .reg [oT, ⟨true, (some ⟨[], [], 1, [], .p (.bool b1)⟩), none⟩, oT, oT, oT, oT, oT, oT, oT, oT, oT, oT, oT, ⟨true, (some ⟨[], [], 1, [], .p (.bool b3)⟩), none⟩, oT, oT], .dec true, .reg [oT, oT, oT]] [.code (bodyOf Try.f75)] (start Try.f75 [] 0 [graphA v, inL u]) [] 1 [(0, brOb 0 (fun _ => (0, 0, ())))] (.tup [.agg [.p (.int .i64 0), .ar 2 0 0 0], .p (.bool false)]) =
    some [((0 : Nat) < 1),
  Con (Try.prog) 73 0 [] [.agg [.p (.int .i64 (v.fst)), .p (.seq true 2 (v.snd.fst.fst) (fun i => [.int .i64 ((v.snd.fst.snd i).fst), .int .i64 ((v.snd.fst.snd i).snd.fst)]))]] [] (.p (.bool (b1))),
  (((!!b1) = true) → ((!!b1) = true)),
  (((!!b1) = true) → ((!!b1) = true)),
  (((!!b1) = true) → ((0 : Nat) < 1)),
  (((!!b1) = true) → ((!!b1) = true)),
  (((!!b1) = true) → ((!!b1) = true)),
  (((!b1) = false) → ((!!b1) = true)),
  (((!bif !b1 then true else (↑u.fst : Int) != v.fst) = true) → ((0 : Nat) < 1)),
  (((!bif !b1 then true else (↑u.fst : Int) != v.fst) = true) → ((!bif !b1 then true else (↑u.fst : Int) != v.fst) = true)),
  (((!bif !b1 then true else (↑u.fst : Int) != v.fst) = true) → ((!bif !b1 then true else (↑u.fst : Int) != v.fst) = true)),
  (((!bif !b1 then true else (↑u.fst : Int) != v.fst) = true) → Con (Try.prog) 114 0 [] [.agg [.p (.int .i64 (v.fst)), .p (.seq true 2 (v.snd.fst.fst) (fun i => [.int .i64 ((v.snd.fst.snd i).fst), .int .i64 ((v.snd.fst.snd i).snd.fst)]))], .p (.seq true 1 (u.fst) (fun i => [.int .i64 (u.snd i)]))] [] (.p (.bool (b3)))),
  (((!bif !b1 then true else (↑u.fst : Int) != v.fst) = true) → ((!bif !b1 then true else (↑u.fst : Int) != v.fst) = true)),
  (((bif !b1 then true else (↑u.fst : Int) != v.fst) = false) → ((!bif !b1 then true else (↑u.fst : Int) != v.fst) = true)),
  ((bif bif !b1 then true else (↑u.fst : Int) != v.fst then true else !b3) = true),
  ((0 : Nat) < 1),
  (((true) = true) → ((1 : Nat) = 1)),
  ((0 : Nat) < 1),
  ((0 : Int) = 0),
  ((0 : Nat) = 0),
  (false = false),
  ((0 : Nat) = 0),
  (∀ i : Nat, ((((i) : Nat) < 0) → All []))] := by kernel_rfl
theorem dSz (v : T_Graph) (u : T_IntS) (b1 b3 : Bool) :
    pieceOb Try.prog 0 [.reg [oT, oT, oT], .reg [oT, ⟨true, (some ⟨[], [], 1, [], .p (.bool b1)⟩), none⟩, oT, oT, oT, oT, oT, oT, oT, oT, oT, oT, oT, ⟨true, (some ⟨[], [], 1, [], .p (.bool b3)⟩), none⟩, oT, oT], .dec false, .reg [oT, oT, oT, oT, oT, oT], .reg [oT], .head] [.code (bodyOf Try.f75)] (start Try.f75 [] 0 [graphA v, inL u]) [0, 32, 736, 672] 1 (SRs v u 0 0 (fun _ => (0, 0, ()))) =
    some ([.code (cAt (bodyOf Try.f75) [1, 1, 1, 0, 1, 0, 0]), .inLoop (cAt (bodyOf Try.f75) [1, 1, 1, 0, 1, 0, 0]), .inBlock 0, .code (cAt (bodyOf Try.f75) [1, 1, 1, 1])], [((0 : Nat) < 1),
  Con (Try.prog) 73 0 [] [.agg [.p (.int .i64 (v.fst)), .p (.seq true 2 (v.snd.fst.fst) (fun i => [.int .i64 ((v.snd.fst.snd i).fst), .int .i64 ((v.snd.fst.snd i).snd.fst)]))]] [] (.p (.bool (b1))),
  (((!!b1) = true) → ((!!b1) = true)),
  (((!!b1) = true) → ((!!b1) = true)),
  (((!!b1) = true) → ((0 : Nat) < 1)),
  (((!!b1) = true) → ((!!b1) = true)),
  (((!!b1) = true) → ((!!b1) = true)),
  (((!b1) = false) → ((!!b1) = true)),
  (((!bif !b1 then true else (↑u.fst : Int) != v.fst) = true) → ((0 : Nat) < 1)),
  (((!bif !b1 then true else (↑u.fst : Int) != v.fst) = true) → ((!bif !b1 then true else (↑u.fst : Int) != v.fst) = true)),
  (((!bif !b1 then true else (↑u.fst : Int) != v.fst) = true) → ((!bif !b1 then true else (↑u.fst : Int) != v.fst) = true)),
  (((!bif !b1 then true else (↑u.fst : Int) != v.fst) = true) → Con (Try.prog) 114 0 [] [.agg [.p (.int .i64 (v.fst)), .p (.seq true 2 (v.snd.fst.fst) (fun i => [.int .i64 ((v.snd.fst.snd i).fst), .int .i64 ((v.snd.fst.snd i).snd.fst)]))], .p (.seq true 1 (u.fst) (fun i => [.int .i64 (u.snd i)]))] [] (.p (.bool (b3)))),
  (((!bif !b1 then true else (↑u.fst : Int) != v.fst) = true) → ((!bif !b1 then true else (↑u.fst : Int) != v.fst) = true)),
  (((bif !b1 then true else (↑u.fst : Int) != v.fst) = false) → ((!bif !b1 then true else (↑u.fst : Int) != v.fst) = true)),
  ((bif bif !b1 then true else (↑u.fst : Int) != v.fst then true else !b3) = false),
  ((0 : Nat) < 1),
  ((0 : Nat) < 1),
  (((true) = true) → ((1 : Nat) = 1)),
  (((v.fst) : Int) = (v.fst)),
  (((v.snd.fst.fst) : Nat) = (v.snd.fst.fst)),
  (∀ i : Nat, ((((i) : Nat) < (v.snd.fst.fst)) → (([.int .i64 ((v.snd.fst.snd i).fst), .int .i64 ((v.snd.fst.snd i).snd.fst)] : List PV) = [.int .i64 ((v.snd.fst.snd i).fst), .int .i64 ((v.snd.fst.snd i).snd.fst)]))),
  (((u.fst) : Nat) = (u.fst)),
  (∀ i : Nat, ((((i) : Nat) < (u.fst)) → (([.int .i64 (u.snd i)] : List PV) = [.int .i64 (u.snd i)]))),
  ((0 : Nat) = 0),
  ((0 : Nat) = 0),
  (false = false),
  ((0 : Nat) = 0),
  ((0 : Int) = ((↑0 : Int))),
  ((([AV.p (PV.int IntKind.i64 v.fst), graphL v.snd.fst].length) : Nat) = 2),
  ((1 : Nat) ≤ 1),
  ((1 : Nat) ≤ 1),
  (((v.fst) : Int) = (v.fst)),
  (((v.snd.fst.fst) : Nat) = (v.snd.fst.fst)),
  (∀ i : Nat, ((((i) : Nat) < (v.snd.fst.fst)) → (([.int .i64 ((v.snd.fst.snd i).fst), .int .i64 ((v.snd.fst.snd i).snd.fst)] : List PV) = [.int .i64 ((v.snd.fst.snd i).fst), .int .i64 ((v.snd.fst.snd i).snd.fst)]))),
  ((((List.map (fun v => AV.p (absV v)) [Value.int IntKind.i64 0, Value.slice none 0 0]).length) : Nat) = 2),
  ((1 : Nat) ≤ 1),
  ((1 : Nat) ≤ 1),
  ((0 : Int) = 0),
  ((((List.map (fun v => AV.p (absV v)) [Value.int IntKind.i64 0, Value.slice none 0 0]).length) : Nat) = 2),
  ((1 : Nat) ≤ 1),
  ((1 : Nat) ≤ 1),
  (((v.fst) : Int) = (v.fst)),
  ((0 : Nat) = 0),
  ((0 : Nat) = 0),
  ((2 : Nat) = 2),
  ((0 : Nat) ≤ 0),
  (∀ i : Nat, ((((i) : Nat) < 0) → (All [] ∧ (([.p .any, .p .any] : List AV) = [.p (.int .i64 0), .p (.int .i64 0)]))))]) := by kernel_rfl
theorem dSa (v : T_Graph) (u : T_IntS) (k n m : Nat) (h h' : Nat → T_Bar) :
    pieceOb Try.prog 0 [.reg [oT, oT, oT, oT, oT], .dec true, .reg [oT, oT, oT, oT, oT, oT, oT, oT, oT, oT], .reg [oT, oT, oT, oT, oT, oT, oT, oT, oT, oT], .reg [oT, oT, oT, oT, oT, oT, oT, oT, ⟨true, (some ⟨[], [], 1, [(0, brOb m h')], .agg [.p (.int .i64 v.1), .ar 2 0 0 m]⟩), none⟩, oT], .reg [oT, oT, oT], .head] [.code (cAt (bodyOf Try.f75) [1, 1, 1, 0, 1, 0, 0]), .inLoop (cAt (bodyOf Try.f75) [1, 1, 1, 0, 1, 0, 0]), .inBlock 0, .code (cAt (bodyOf Try.f75) [1, 1, 1, 1])] (SRs v u k n h) [0, 1, 2, 1060] 1 (SRs v u (k + 1) m h') =
    some ([.code (cAt (bodyOf Try.f75) [1, 1, 1, 0, 1, 0, 0]), .inLoop (cAt (bodyOf Try.f75) [1, 1, 1, 0, 1, 0, 0]), .inBlock 0, .code (cAt (bodyOf Try.f75) [1, 1, 1, 1])], [((0 : Nat) < 1),
  ((decide ((↑k : Int) < (↑v.snd.fst.fst : Int))) = true),
  ((0 : Nat) < 1),
  ((0 : Int) ≤ ((↑k : Int))),
  ((((↑k : Int)) : Int) < ((↑v.snd.fst.fst : Int))),
  ((0 : Int) ≤ ((v.snd.fst.snd k).fst)),
  ((((v.snd.fst.snd k).fst) : Int) < ((↑u.fst : Int))),
  ((0 : Nat) < 1),
  ((0 : Int) ≤ ((↑k : Int))),
  ((((↑k : Int)) : Int) < ((↑v.snd.fst.fst : Int))),
  ((0 : Int) ≤ ((v.snd.fst.snd k).snd.fst)),
  ((((v.snd.fst.snd k).snd.fst) : Int) < ((↑u.fst : Int))),
  ((0 : Nat) < 1),
  ((2 : Nat) = 2),
  (((n) : Nat) ≤ (n)),
  Con (Try.prog) 108 0 [] [.agg [.p (.int .i64 (v.fst)), .p (.seq true 2 (n) (fun i => [.int .i64 ((h i).fst), .int .i64 ((h i).snd.fst)]))], .agg [.p (.int .i64 (if false = true then if u.snd (v.snd.fst.snd (↑k : Int).toNat).snd.fst.toNat > u.snd (v.snd.fst.snd (↑k : Int).toNat).fst.toNat then u.snd (v.snd.fst.snd k).snd.fst.toNat else u.snd (v.snd.fst.snd k).fst.toNat else if u.snd (v.snd.fst.snd (↑k : Int).toNat).snd.fst.toNat < u.snd (v.snd.fst.snd (↑k : Int).toNat).fst.toNat then u.snd (v.snd.fst.snd k).snd.fst.toNat else u.snd (v.snd.fst.snd k).fst.toNat)), .p (.int .i64 (if true = true then if u.snd (v.snd.fst.snd (↑k : Int).toNat).snd.fst.toNat > u.snd (v.snd.fst.snd (↑k : Int).toNat).fst.toNat then u.snd (v.snd.fst.snd k).snd.fst.toNat else u.snd (v.snd.fst.snd k).fst.toNat else if u.snd (v.snd.fst.snd (↑k : Int).toNat).snd.fst.toNat < u.snd (v.snd.fst.snd (↑k : Int).toNat).fst.toNat then u.snd (v.snd.fst.snd k).snd.fst.toNat else u.snd (v.snd.fst.snd k).fst.toNat))]] [(0, ⟨false, 2, (m), (fun i => [.p (.int .i64 ((h' i).fst)), .p (.int .i64 ((h' i).snd.fst))])⟩)] (.agg [.p (.int .i64 (v.fst)), .ar 2 0 0 (m)]),
  ((0 : Nat) < 1),
  (((true) = true) → ((1 : Nat) = 1)),
  (((-9223372036854775808) : Int) ≤ ((↑k : Int) + 1)),
  ((((↑k : Int) + 1) : Int) ≤ 9223372036854775807),
  (((v.fst) : Int) = (v.fst)),
  (((v.snd.fst.fst) : Nat) = (v.snd.fst.fst)),
  (∀ i : Nat, ((((i) : Nat) < (v.snd.fst.fst)) → (([.int .i64 ((v.snd.fst.snd i).fst), .int .i64 ((v.snd.fst.snd i).snd.fst)] : List PV) = [.int .i64 ((v.snd.fst.snd i).fst), .int .i64 ((v.snd.fst.snd i).snd.fst)]))),
  (((u.fst) : Nat) = (u.fst)),
  (∀ i : Nat, ((((i) : Nat) < (u.fst)) → (([.int .i64 (u.snd i)] : List PV) = [.int .i64 (u.snd i)]))),
  ((0 : Nat) = 0),
  ((0 : Nat) = 0),
  (false = false),
  ((0 : Nat) = 0),
  ((((↑k : Int) + 1) : Int) = ((↑(k + 1) : Int))),
  ((2 : Nat) = 2),
  ((1 : Nat) ≤ 1),
  ((1 : Nat) ≤ 1),
  (((v.fst) : Int) = (v.fst)),
  (((v.snd.fst.fst) : Nat) = (v.snd.fst.fst)),
  (∀ i : Nat, ((((i) : Nat) < (v.snd.fst.fst)) → (([.int .i64 ((v.snd.fst.snd i).fst), .int .i64 ((v.snd.fst.snd i).snd.fst)] : List PV) = [.int .i64 ((v.snd.fst.snd i).fst), .int .i64 ((v.snd.fst.snd i).snd.fst)]))),
  ((2 : Nat) = 2),
  ((1 : Nat) ≤ 1),
  ((1 : Nat) ≤ 1),
  ((0 : Int) = 0),
  ((2 : Nat) = 2),
  ((1 : Nat) ≤ 1),
  ((1 : Nat) ≤ 1),
  (((v.fst) : Int) = (v.fst)),
  ((0 : Nat) = 0),
  (((m) : Nat) = (m)),
  ((2 : Nat) = 2),
  (((m) : Nat) ≤ (m)),
  (∀ i : Nat, ((((i) : Nat) < (m)) → (All [] ∧ (([.p (.int .i64 ((h' i).fst)), .p (.int .i64 ((h' i).snd.fst))] : List AV) = [.p (.int .i64 ((h' i).fst)), .p (.int .i64 ((h' i).snd.fst))]))))]) := by kernel_rfl
theorem dSb (v : T_Graph) (u : T_IntS) (k n : Nat) (h r : Nat → T_Bar) :
    pathOb Try.prog Try.f75 0 [.reg [oT, oT, oT, oT, oT], .dec false, .reg [oT, oT, oT]] [.code (cAt (bodyOf Try.f75) [1, 1, 1, 0, 1, 0, 0]), .inLoop (cAt (bodyOf Try.f75) [1, 1, 1, 0, 1, 0, 0]), .inBlock 0, .code (cAt (bodyOf Try.f75) [1, 1, 1, 1])] (SRs v u k n h) [3] 1 [(0, brOb n r)] (.tup [.agg [.p (.int .i64 v.1), .ar 2 0 0 n], .p (.bool true)]) =
    some [((0 : Nat) < 1),
  ((decide ((↑k : Int) < (↑v.snd.fst.fst : Int))) = false),
  ((0 : Nat) < 1),
  ((0 : Nat) < 1),
  (((true) = true) → ((1 : Nat) = 1)),
  ((0 : Nat) < 1),
  (((v.fst) : Int) = (v.fst)),
  ((0 : Nat) = 0),
  (((n) : Nat) = (n)),
  (true = true),
  ((2 : Nat) = 2),
  (((n) : Nat) ≤ (n)),
  (∀ i : Nat, ((((i) : Nat) < (n)) → (All [] ∧ (([.p (.int .i64 ((h i).fst)), .p (.int .i64 ((h i).snd.fst))] : List AV) = [.p (.int .i64 ((r i).fst)), .p (.int .i64 ((r i).snd.fst))])))),
  (∀ i : Nat, ((((i) : Nat) < (n)) → All []))] := by kernel_rfl

theorem con_barX (a b : Int) : Con Try.prog 106 0 [] [.p (.int .i64 a), .p (.int .i64 b)] [] (.agg [.p (.int .i64 (brX a b).1), .p (.int .i64 (brX a b).2.1)]) := by
  refine con_start Try.func106 rfl (by kernel_rfl) rfl (fun c hc => ?_)
  refine path_ok mixed Try.func106 hc (dBar a b) ?_
  simp only [All]
  repeat' (first | exact trivial | with_reducible apply And.intro)
  all_goals (first | omega | rfl | (intros; first | assumption | exact True.intro | rfl | exact absurd (show false = true by assumption) Bool.false_ne_true | ((repeat' (first | assumption | apply anda | apply notf)); done)) | simp)

theorem con_hasX (v : T_Graph) (p : Int) (h1 : 1 ≤ v.1) (h2 : v.1 ≤ 8) : Con Try.prog 101 0 [] [graphA v, .p (.int .i64 p)] [] (.p (.bool (inB p 0 (v.1 - 1)))) := by
  refine con_start Try.func101 rfl (by kernel_rfl) rfl (fun c hc => ?_)
  refine path_ok mixed Try.func101 hc (dHas v p) ?_
  simp only [All]
  repeat' (first | exact trivial | with_reducible apply And.intro)
  all_goals (first | omega | rfl | (intros; first | assumption | exact True.intro | rfl | exact absurd (show false = true by assumption) Bool.false_ne_true | ((repeat' (first | assumption | apply anda | apply notf)); done)) | (exact con_within _ _ _))

theorem difZ_N (N : Int) (s : Nat → Int) (k : Nat) : difZ N s k = difN N s k := by
  unfold difZ difN inB
  by_cases h1 : s k < 0
  · have : ¬ 0 ≤ s k := by omega
    simp [h1, this]
  · have : 0 ≤ s k := by omega
    by_cases h2 : s k ≥ N
    · have h3 : ¬ s k ≤ N - 1 := by omega
      simp [h1, h2, h3]
    · have h3 : s k ≤ N - 1 := by omega
      simp [h1, h2, h3, this]

theorem okD_bad (N : Int) (s : Nat → Int) (k : Nat) (h : difN N s k = true) : ∀ n, k < n → okD N s n = false
  | 0, h' => absurd h' (Nat.not_lt_zero _)
  | n + 1, h' => by
    by_cases e : k = n
    · subst e; simp [okD, h]
    · simp [okD, okD_bad N s k h n (by omega)]

theorem okD_in {N : Int} {s : Nat → Int} : ∀ {n : Nat}, okD N s n = true → ∀ k, k < n → 0 ≤ s k ∧ s k < N ∧ ∀ j, j < k → s j ≠ s k
  | 0, _, k, hk => absurd hk (Nat.not_lt_zero _)
  | n + 1, h, k, hk => by
    simp only [okD, Bool.and_eq_true, Bool.not_eq_true'] at h
    by_cases e : k = n
    · subst e
      have h2 := h.2
      unfold difN at h2
      cases hb : inB (s k) 0 (N - 1) with
      | false => rw [hb] at h2; simp at h2
      | true =>
        rw [hb] at h2
        simp only [Bool.not_true, cond_false] at h2
        simp only [inB, Bool.and_eq_true, decide_eq_true_eq] at hb
        refine ⟨hb.1, by omega, fun j hj hjk => ?_⟩
        rw [hasI_hit s (s k) j (by simpa using hjk) k hj] at h2
        cases h2
    · exact okD_in h.1 k (by omega)

theorem con_areDifferent (v : T_Graph) (u : T_IntS) (h1 : 1 ≤ v.1) (h2 : v.1 ≤ 8) (hn : u.1 ≤ 1048576) : Con Try.prog 116 0 [] [graphA v, inL u] [] (.p (.bool (okD v.1 u.2 u.1))) := by
  refine con_start Try.func116 rfl (by kernel_rfl) rfl (fun c hc => ?_)
  have lp : ∀ m k, k + m = u.1 → okD v.1 u.2 k = true → Run Try.prog c 116 [.code (cAt (bodyOf Try.f116) [1, 0, 1, 0, 0]), .inLoop (cAt (bodyOf Try.f116) [1, 0, 1, 0, 0]), .inBlock 0, .code (cAt (bodyOf Try.f116) [1, 1])] (SDi v u k) (Post c [] (.p (.bool (okD v.1 u.2 u.1)))) := by
    intro m
    induction m with
    | zero =>
      intro k hk hg
      obtain rfl : k = u.1 := by omega
      have hd : decide (((u.1 : Nat) : Int) < (u.1 : Int)) = false := by simp
      rw [hg]
      refine path_ok mixed Try.func116 hc (dDd v u u.1) ?_
      simp only [All]
      repeat' (first | exact trivial | with_reducible apply And.intro)
      all_goals (first | omega | rfl | (intros; first | assumption | exact True.intro | rfl | exact absurd (show false = true by assumption) Bool.false_ne_true | ((repeat' (first | assumption | apply anda | apply notf)); done)))
    | succ m ih =>
      intro k hk hg
      have hd : decide ((k : Int) < (u.1 : Int)) = true := by simp; omega
      have c1 := con_hasX v (u.2 k) h1 h2
      have c2 := con_Contains (k, u.2) (u.2 k) (by show k ≤ 1048576; omega)
      cases he : difN v.1 u.2 k with
      | true =>
        rw [okD_bad v.1 u.2 k he u.1 (by omega)]
        have he' : (bif !inB (u.2 k) 0 (v.1 - 1) then true else hasI u.2 (u.2 k) k) = true := he
        refine path_ok mixed Try.func116 hc (dDc v u k) ?_
        simp only [All]
        repeat' (first | exact trivial | with_reducible apply And.intro)
        all_goals (first | omega | rfl | (intros; first | assumption | exact True.intro | rfl | exact absurd (show false = true by assumption) Bool.false_ne_true | ((repeat' (first | assumption | apply anda | apply notf)); done)) | (exact c1) | (exact he') | (intro _; exact c2) | (intros; omega))
      | false =>
        have he' : (bif !inB (u.2 k) 0 (v.1 - 1) then true else hasI u.2 (u.2 k) k) = false := he
        refine piece_ok mixed hc (dDb v u k) ?_ (ih (k + 1) (by omega) (by simp only [okD, hg, he]; rfl))
        simp only [All]
        repeat' (first | exact trivial | with_reducible apply And.intro)
        all_goals (first | omega | rfl | (intros; first | assumption | exact True.intro | rfl | exact absurd (show false = true by assumption) Bool.false_ne_true | ((repeat' (first | assumption | apply anda | apply notf)); done)) | (exact c1) | (exact he') | (intro _; exact c2) | (intros; omega) | (intro j hj; simp [All]))
  refine piece_ok mixed hc (dDa v u) ?_ (lp u.1 0 (by omega) rfl)
  simp only [All]
  repeat' (first | exact trivial | with_reducible apply And.intro)
  all_goals (first | omega | rfl | (intros; first | assumption | exact True.intro | rfl | exact absurd (show false = true by assumption) Bool.false_ne_true | ((repeat' (first | assumption | apply anda | apply notf)); done)) | (intro j hj; simp [All]))

theorem con_l7Points (v : T_Graph) (u : T_IntS) (hn : u.1 ≤ 1048576) : Con Try.prog 114 0 [] [graphA v, inL u] [] (.p (.bool (okD v.1 u.2 u.1))) := by
  refine con_start Try.func114 rfl (by kernel_rfl) rfl (fun c hc => ?_)
  have lp : ∀ m k, k + m = u.1 → okD v.1 u.2 k = true → Run Try.prog c 114 [.code (cAt (bodyOf Try.f114) [1, 0, 1, 0, 0]), .inLoop (cAt (bodyOf Try.f114) [1, 0, 1, 0, 0]), .inBlock 0, .code (cAt (bodyOf Try.f114) [1, 1])] (SDs v u k) (Post c [] (.p (.bool (okD v.1 u.2 u.1)))) := by
    intro m
    induction m with
    | zero =>
      intro k hk hg
      obtain rfl : k = u.1 := by omega
      have hd : decide (((u.1 : Nat) : Int) < (u.1 : Int)) = false := by simp
      rw [hg]
      refine path_ok mixed Try.func114 hc (dPd v u u.1) ?_
      simp only [All]
      repeat' (first | exact trivial | with_reducible apply And.intro)
      all_goals (first | omega | rfl | (intros; first | assumption | exact True.intro | rfl | exact absurd (show false = true by assumption) Bool.false_ne_true | ((repeat' (first | assumption | apply anda | apply notf)); done)))
    | succ m ih =>
      intro k hk hg
      have hd : decide ((k : Int) < (u.1 : Int)) = true := by simp; omega
      have c2 := con_l2Has (k, u.2) (u.2 k) (by show k ≤ 1048576; omega)
      have hz := difZ_N v.1 u.2 k
      cases he : difN v.1 u.2 k with
      | true =>
        rw [okD_bad v.1 u.2 k he u.1 (by omega)]
        rw [he] at hz
        unfold difZ at hz
        refine path_ok mixed Try.func114 hc (dPc v u k) ?_
        simp only [All]
        repeat' (first | exact trivial | with_reducible apply And.intro)
        all_goals (first | omega | rfl | (intros; first | assumption | exact True.intro | rfl | exact absurd (show false = true by assumption) Bool.false_ne_true | ((repeat' (first | assumption | apply anda | apply notf)); done)) | (exact hz) | (intro _; exact c2) | (intros; omega))
      | false =>
        rw [he] at hz
        unfold difZ at hz
        refine piece_ok mixed hc (dPb v u k) ?_ (ih (k + 1) (by omega) (by simp only [okD, hg, he]; rfl))
        simp only [All]
        repeat' (first | exact trivial | with_reducible apply And.intro)
        all_goals (first | omega | rfl | (intros; first | assumption | exact True.intro | rfl | exact absurd (show false = true by assumption) Bool.false_ne_true | ((repeat' (first | assumption | apply anda | apply notf)); done)) | (exact hz) | (intro _; exact c2) | (intros; omega) | (intro j hj; simp [All]))
  refine piece_ok mixed hc (dPa v u) ?_ (lp u.1 0 (by omega) rfl)
  simp only [All]
  repeat' (first | exact trivial | with_reducible apply And.intro)
  all_goals (first | omega | rfl | (intros; first | assumption | exact True.intro | rfl | exact absurd (show false = true by assumption) Bool.false_ne_true | ((repeat' (first | assumption | apply anda | apply notf)); done)) | (intro j hj; simp [All]))

/-- Whether a graph can be renamed so, and the graph renamed. -/
def rnB (v : T_Graph) (u : T_IntS) : Bool := isGraphF v && ((u.1 : Int) == v.1 && okD v.1 u.2 u.1)
def rnG (v : T_Graph) (u : T_IntS) : T_Graph := if rnB v u = true then (v.1, (v.2.1.1, srtB v.2.1.1 (rnD v.2.1.2 u.2)), ()) else (0, (0, fun _ => (0, 0, ())), ())

theorem graph_inR {v : T_Graph} (h : isGraphF v = true) : 1 ≤ v.1 ∧ v.1 ≤ 8 ∧ v.2.1.1 ≤ 24 ∧ goodB v.1 v.2.1.2 v.2.1.1 = true := by
  unfold isGraphF at h
  split at h
  · rename_i h1
    simp only [inB, Bool.and_eq_true, decide_eq_true_eq] at h1
    exact ⟨h1.1.1, h1.1.2, h1.2, h⟩
  · cases h

theorem goodB_at {N : Int} {g : Nat → T_Bar} : ∀ {n : Nat}, goodB N g n = true → ∀ k, k < n → 0 ≤ (g k).1 ∧ (g k).1 < (g k).2.1 ∧ (g k).2.1 < N ∧ (0 < k → leB (g (k - 1)) (g k))
  | 0, _, k, hk => absurd hk (Nat.not_lt_zero _)
  | n + 1, h, k, hk => by
    simp only [goodB, Bool.and_eq_true, Bool.not_eq_true'] at h
    by_cases e : k = n
    · subst e
      have h2 := h.2
      unfold badB at h2
      by_cases c1 : (g k).1 < 0
      · simp [c1] at h2
      by_cases c2 : (g k).1 ≥ (g k).2.1
      · simp [c1, c2] at h2
      by_cases c3 : (g k).2.1 ≥ N
      · simp [c1, c2, c3] at h2
      refine ⟨by omega, by omega, by omega, fun h0 => ?_⟩
      simp only [c1, c2, c3, decide_false, cond_false] at h2
      rw [decide_eq_true (show (k : Int) > 0 by omega)] at h2
      simp only [cond_true, Bool.not_eq_false'] at h2
      rw [← aft_iff]
      rw [show ((k : Int) - 1).toNat = k - 1 by omega] at h2
      exact h2
    · exact goodB_at h.1 k (by omega)

theorem goodB_sorted {N : Int} {g : Nat → T_Bar} {n : Nat} (h : goodB N g n = true) : (lstB n g).Pairwise leB := by
  have step := goodB_at h
  have htr : ∀ {a b c : T_Bar}, leB a b → leB b c → leB a c := by
    intro a b c h1 h2
    have h1 := (leB_iff a b).1 h1
    have h2 := (leB_iff b c).1 h2
    exact (leB_iff a c).2 (by omega)
  have mono : ∀ d i, i + d < n → leB (g i) (g (i + d)) := by
    intro d
    induction d with
    | zero => intro i hi; show leB (g i) (g i); exact (leB_iff _ _).2 (by omega)
    | succ d ih => intro i hi; exact htr (ih i (by omega)) ((step (i + (d + 1)) hi).2.2.2 (by omega))
  rw [List.pairwise_iff_getElem]
  intro i j hi hj hij
  rw [lstB_len] at hi hj
  have := mono (j - i) i (by omega)
  rw [show i + (j - i) = j by omega] at this
  simpa [lstB] using this

theorem sm_graph {v : T_Graph} (h : v.2.1.1 ≤ 1048576) : smS s_Graph v := ⟨by simp [smS, smL], ⟨h, fun i hi => by simp [smS, smL]⟩, True.intro⟩

theorem con_Rename_i (v : T_Graph) (hs : smS s_Graph v) (u : T_IntS) (hn : u.1 ≤ 1048576) :
    Con Try.prog 80 0 [] [graphA v, inL u] [(0, brOb (rnG v u).2.1.1 (rnG v u).2.1.2)] (.tup [.agg [.p (.int .i64 (rnG v u).1), .ar 2 0 0 (rnG v u).2.1.1], .p (.bool (rnB v u))]) := by
  refine con_start Try.func80 rfl (by kernel_rfl) rfl (fun c hc => ?_)
  have c1 := con_IsGraph_i v hs
  have c3 : isGraphF v = true → Con Try.prog 116 0 [] [graphA v, inL u] [] (.p (.bool (okD v.1 u.2 u.1))) := fun h => by
    have := graph_inR h
    exact con_areDifferent v u this.1 this.2.1 hn
  have c3' : (!bif !isGraphF v then true else (u.1 : Int) != v.1) = true → Con Try.prog 116 0 [] [graphA v, inL u] [] (.p (.bool (okD v.1 u.2 u.1))) := fun h => c3 (by
    cases hb : isGraphF v with
    | true => rfl
    | false => rw [hb] at h; simp at h)
  have hcd : (bif bif !isGraphF v then true else (u.1 : Int) != v.1 then true else !okD v.1 u.2 u.1) = !rnB v u := by
    unfold rnB
    cases isGraphF v <;> cases h : ((u.1 : Int) == v.1) <;> simp [bne, h]
  cases hb : rnB v u with
  | false =>
    rw [hb] at hcd
    have hcd' : (bif bif !isGraphF v then true else (u.1 : Int) != v.1 then true else !okD v.1 u.2 u.1) = true := hcd
    rw [show rnG v u = (0, (0, fun _ => (0, 0, ())), ()) by simp [rnG, hb]]
    refine path_ok mixed Try.func80 hc (dRy v u (isGraphF v) (okD v.1 u.2 u.1)) ?_
    simp only [All]
    repeat' (first | exact trivial | with_reducible apply And.intro)
    all_goals (first | omega | rfl | (intros; first | assumption | exact True.intro | rfl | exact absurd (show false = true by assumption) Bool.false_ne_true | ((repeat' (first | assumption | apply anda | apply notf)); done)) | (exact c1) | (exact c3') | (exact hcd') | (intro j hj; exact absurd hj (Nat.not_lt_zero _)) | (intro j hj; simp [All]))
  | true =>
    rw [hb] at hcd
    have hcd' : (bif bif !isGraphF v then true else (u.1 : Int) != v.1 then true else !okD v.1 u.2 u.1) = false := hcd
    have hb' := hb
    simp only [rnB, Bool.and_eq_true, beq_iff_eq] at hb'
    obtain ⟨hg, hu, hok⟩ := hb'
    obtain ⟨g1, g2, g3, g4⟩ := graph_inR hg
    rw [show rnG v u = (v.1, (v.2.1.1, srtB v.2.1.1 (rnD v.2.1.2 u.2)), ()) by simp [rnG, hb]]
    generalize hr : srtB v.2.1.1 (rnD v.2.1.2 u.2) = r
    have lp : ∀ m k h, k + m = v.2.1.1 → lstB k h = lstB k (rnD v.2.1.2 u.2) → Run Try.prog c 80 [.code (cAt (bodyOf Try.f80) [1, 1, 1, 0, 1, 0, 0]), .inLoop (cAt (bodyOf Try.f80) [1, 1, 1, 0, 1, 0, 0]), .inBlock 0, .code (cAt (bodyOf Try.f80) [1, 1, 1, 1])] (SRi v u k h) (Post c [(0, brOb v.2.1.1 r)] (.tup [.agg [.p (.int .i64 v.1), .ar 2 0 0 v.2.1.1], .p (.bool true)])) := by
      intro m
      induction m with
      | zero =>
        intro k h hk hh
        obtain rfl : k = v.2.1.1 := by omega
        have hd : decide ((v.2.1.1 : Int) < (v.2.1.1 : Int)) = false := by simp
        have hsort := con_sortBars v.2.1.1 h (by omega)
        rw [show srtB v.2.1.1 h = srtB v.2.1.1 (rnD v.2.1.2 u.2) from funext (fun i => by simp only [srtB, hh]), hr] at hsort
        refine path_ok mixed Try.func80 hc (dRb v u v.2.1.1 h r) ?_
        simp only [All]
        repeat' (first | exact trivial | with_reducible apply And.intro)
        all_goals (first | omega | rfl | (intros; first | assumption | exact True.intro | rfl | exact absurd (show false = true by assumption) Bool.false_ne_true | ((repeat' (first | assumption | apply anda | apply notf)); done)) | (exact hsort) | (intro j hj; simp [All]))
      | succ m ih =>
        intro k h hk hh
        have hd : decide ((k : Int) < (v.2.1.1 : Int)) = true := by simp; omega
        have hat := goodB_at g4 k (by omega)
        have cb := con_barX (u.2 (v.2.1.2 k).1.toNat) (u.2 (v.2.1.2 k).2.1.toNat)
        refine piece_ok mixed hc (dRa v u k h (rnD v.2.1.2 u.2 k)) ?_ (ih (k + 1) _ (by omega) (by rw [lstB_snoc, lstB_succ, hh]))
        simp only [All]
        repeat' (first | exact trivial | with_reducible apply And.intro)
        all_goals (first | omega | rfl | (intros; first | assumption | exact True.intro | rfl | exact absurd (show false = true by assumption) Bool.false_ne_true | ((repeat' (first | assumption | apply anda | apply notf)); done)) | (exact cb) | (intro j hj; by_cases h' : j < k <;> simp [h', snoc, cvtL, cvt, tg, tru, All]))
    refine piece_ok mixed hc (dRz v u (isGraphF v) (okD v.1 u.2 u.1)) ?_ (lp v.2.1.1 0 _ (by omega) (by simp [lstB, srtL]))
    simp only [All]
    repeat' (first | exact trivial | with_reducible apply And.intro)
    all_goals (first | omega | rfl | (intros; first | assumption | exact True.intro | rfl | exact absurd (show false = true by assumption) Bool.false_ne_true | ((repeat' (first | assumption | apply anda | apply notf)); done)) | (exact c1) | (exact c3') | (exact hcd') | (intro j hj; exact absurd hj (Nat.not_lt_zero _)) | (intro j hj; simp [All]))

theorem con_Rename_s (v : T_Graph) (hs : smS s_Graph v) (u : T_IntS) (hn : u.1 ≤ 1048576) :
    Con Try.prog 75 0 [] [graphA v, inL u] [(0, brOb (rnG v u).2.1.1 (rnG v u).2.1.2)] (.tup [.agg [.p (.int .i64 (rnG v u).1), .ar 2 0 0 (rnG v u).2.1.1], .p (.bool (rnB v u))]) := by
  refine con_start Try.func75 rfl (by kernel_rfl) rfl (fun c hc => ?_)
  have c1 := con_IsGraph_s v hs
  have c3 := con_l7Points v u hn
  have hcd : (bif bif !isGraphF v then true else (u.1 : Int) != v.1 then true else !okD v.1 u.2 u.1) = !rnB v u := by
    unfold rnB
    cases isGraphF v <;> cases h : ((u.1 : Int) == v.1) <;> simp [bne, h]
  cases hb : rnB v u with
  | false =>
    rw [hb] at hcd
    have hcd' : (bif bif !isGraphF v then true else (u.1 : Int) != v.1 then true else !okD v.1 u.2 u.1) = true := hcd
    rw [show rnG v u = (0, (0, fun _ => (0, 0, ())), ()) by simp [rnG, hb]]
    refine path_ok mixed Try.func75 hc (dSy v u (isGraphF v) (okD v.1 u.2 u.1)) ?_
    simp only [All]
    repeat' (first | exact trivial | with_reducible apply And.intro)
    all_goals (first | omega | rfl | (intros; first | assumption | exact True.intro | rfl | exact absurd (show false = true by assumption) Bool.false_ne_true | ((repeat' (first | assumption | apply anda | apply notf)); done)) | (exact c1) | (intro _; exact c3) | (exact hcd') | (intro j hj; exact absurd hj (Nat.not_lt_zero _)) | (intro j hj; simp [All]))
  | true =>
    rw [hb] at hcd
    have hcd' : (bif bif !isGraphF v then true else (u.1 : Int) != v.1 then true else !okD v.1 u.2 u.1) = false := hcd
    have hb' := hb
    simp only [rnB, Bool.and_eq_true, beq_iff_eq] at hb'
    obtain ⟨hg, hu, hok⟩ := hb'
    obtain ⟨g1, g2, g3, g4⟩ := graph_inR hg
    rw [show rnG v u = (v.1, (v.2.1.1, srtB v.2.1.1 (rnD v.2.1.2 u.2)), ()) by simp [rnG, hb]]
    generalize hr : srtB v.2.1.1 (rnD v.2.1.2 u.2) = r
    have lp : ∀ m k h, k + m = v.2.1.1 → lstB k h = srtL (lstB k (rnD v.2.1.2 u.2)) → Run Try.prog c 75 [.code (cAt (bodyOf Try.f75) [1, 1, 1, 0, 1, 0, 0]), .inLoop (cAt (bodyOf Try.f75) [1, 1, 1, 0, 1, 0, 0]), .inBlock 0, .code (cAt (bodyOf Try.f75) [1, 1, 1, 1])] (SRs v u k k h) (Post c [(0, brOb v.2.1.1 r)] (.tup [.agg [.p (.int .i64 v.1), .ar 2 0 0 v.2.1.1], .p (.bool true)])) := by
      intro m
      induction m with
      | zero =>
        intro k h hk hh
        obtain rfl : k = v.2.1.1 := by omega
        have hd : decide ((v.2.1.1 : Int) < (v.2.1.1 : Int)) = false := by simp
        rw [← lstB_srt, hr] at hh
        have hrow : ∀ i, i < v.2.1.1 → h i = r i := fun i hi => lstB_inj hh i hi
        refine path_ok mixed Try.func75 hc (dSb v u v.2.1.1 v.2.1.1 h r) ?_
        simp only [All]
        repeat' (first | exact trivial | with_reducible apply And.intro)
        all_goals (first | omega | rfl | (intros; first | assumption | exact True.intro | rfl | exact absurd (show false = true by assumption) Bool.false_ne_true | ((repeat' (first | assumption | apply anda | apply notf)); done)) | (intro j hj; simp [All]; done) | (intro j hj; simp [hrow j hj, All]) | (intro j hj; rw [hrow j hj]; simp [cvtL, cvt, tg, tru, All]))
      | succ m ih =>
        intro k h hk hh
        have hd : decide ((k : Int) < (v.2.1.1 : Int)) = true := by simp; omega
        have hat := goodB_at g4 k (by omega)
        have hsrt : (lstB k h).Pairwise leB := by rw [hh]; exact srtL_sorted _
        have hp := con_l2Put h k v.1.toNat (rnD v.2.1.2 u.2 k) (by omega)
        have hN : ((v.1.toNat : Nat) : Int) = v.1 := by omega
        have hl := insR_list h k (rnD v.2.1.2 u.2 k) hsrt
        have hn' := insR_n h k (rnD v.2.1.2 u.2 k)
        rw [hn'] at hp hl
        have hl2 : lstB (k + 1) (insR h k (rnD v.2.1.2 u.2 k)).2 = srtL (lstB (k + 1) (rnD v.2.1.2 u.2)) := by
          rw [hl]
          refine srtL_eq ((srtL_perm _).trans ?_) (srtL_sorted _)
          rw [hh, lstB_succ]
          exact List.Perm.append_right _ (srtL_perm _)
        rw [grG, hN] at hp
        refine piece_ok mixed hc (dSa v u k k (k + 1) h (insR h k (rnD v.2.1.2 u.2 k)).2) ?_ (ih (k + 1) _ (by omega) hl2)
        simp only [All]
        repeat' (first | exact trivial | with_reducible apply And.intro)
        all_goals (first | omega | rfl | (intros; first | assumption | exact True.intro | rfl | exact absurd (show false = true by assumption) Bool.false_ne_true | ((repeat' (first | assumption | apply anda | apply notf)); done)) | (exact hp) | (intro j hj; simp [All]))
    refine piece_ok mixed hc (dSz v u (isGraphF v) (okD v.1 u.2 u.1)) ?_ (lp v.2.1.1 0 _ (by omega) (by simp [lstB, srtL]))
    simp only [All]
    repeat' (first | exact trivial | with_reducible apply And.intro)
    all_goals (first | omega | rfl | (intros; first | assumption | exact True.intro | rfl | exact absurd (show false = true by assumption) Bool.false_ne_true | ((repeat' (first | assumption | apply anda | apply notf)); done)) | (exact c1) | (intro _; exact c3) | (exact hcd') | (intro j hj; exact absurd hj (Nat.not_lt_zero _)) | (intro j hj; simp [All]))

theorem rnG_le (v : T_Graph) (u : T_IntS) : (rnG v u).2.1.1 ≤ 24 := by
  unfold rnG
  split
  · rename_i h
    simp only [rnB, Bool.and_eq_true] at h
    exact (graph_inR h.1).2.2.1
  · exact Nat.zero_le _

end Go.Proofs.Ytgdbnnmogddkaaa.Mach
