/- What the law Gc needs, part 3 of 3: the abstract machine and the contracts of the functions. Conditions: as each theorem says. -/
import Derived.Test.YtgdbnnmogddkaaaGcP2
namespace Go.Proofs.Ytgdbnnmogddkaaa.Mach
open Go Go.Sort
set_option linter.unusedVariables false
set_option linter.unusedSimpArgs false
def brX (a b : Int) : T_Bar := (if b < a then b else a, if b > a then b else a, ())
def difN (N : Int) (s : Nat → Int) (k : Nat) : Bool := bif !inB (s k) 0 (N - 1) then true else hasI s (s k) k
def difZ (N : Int) (s : Nat → Int) (k : Nat) : Bool := bif bif decide (s k < 0) then true else decide (s k ≥ N) then true else hasI s (s k) k
def okD (N : Int) (s : Nat → Int) : Nat → Bool
  | 0 => true
  | k + 1 => okD N s k && !difN N s k
def SDi (v : T_Graph) (u : T_IntS) (k : Nat) : St :=
  ⟨[graphA v, inL u, .pt 2 0 0 0, .p .any, .p (.bool false), .p .any, .p .any, inL u, .p (.int .i64 u.1), .p (.int .i64 k)] ++ List.replicate 16 anyA, [(0, boxG v)], 1⟩
def SDs (v : T_Graph) (u : T_IntS) (k : Nat) : St :=
  ⟨[graphA v, inL u, .pt 2 0 0 0, .p .any, .p (.bool false), .p (.int .i64 k)] ++ List.replicate 30 anyA, [(0, boxG v)], 1⟩
def rnD (g : Nat → T_Bar) (s : Nat → Int) (i : Nat) : T_Bar := brX (s (g i).1.toNat) (s (g i).2.1.toNat)
def zG2 : Ob := ⟨true, 2, 1, fun _ => [.p (.int .i64 0), .p .nil]⟩
def SRi (v : T_Graph) (u : T_IntS) (k : Nat) (h : Nat → T_Bar) : St :=
  ⟨[graphA v, inL u, .pt 2 0 0 0, .p .any, .pt 2 1 0 0, .p (.bool false), .pt 2 2 0 0] ++ List.replicate 23 anyA ++ [graphL v.2.1, .p (.int .i64 v.2.1.1), .p (.int .i64 k)] ++ List.replicate 24 anyA,
   [(0, boxG v), (1, zG2), (2, ⟨true, 2, 1, fun _ => [.p (.int .i64 v.1), .ar 2 3 0 k]⟩), (3, brOb k h)], 4⟩
def SRs (v : T_Graph) (u : T_IntS) (k n : Nat) (h : Nat → T_Bar) : St :=
  ⟨[graphA v, inL u, .pt 2 0 0 0, .p .any, .pt 2 1 0 0, .p (.bool false), .pt 2 2 0 0, .p (.int .i64 k)] ++ List.replicate 58 anyA,
   [(0, boxG v), (1, zG2), (2, ⟨true, 2, 1, fun _ => [.p (.int .i64 v.1), .ar 2 3 0 n]⟩), (3, brOb n h)], 4⟩
theorem dBar (a b : Int) :
    pathOb Try.prog Try.f106 0 [.reg [oT], .reg [oT, oT, oT, oT, oT, oT, oT, oT]] [.code (bodyOf Try.f106)] (start Try.f106 [] 0 [.p (.int .i64 a), .p (.int .i64 b)]) [] 1 [] (.agg [.p (.int .i64 (if b < a then b else a)), .p (.int .i64 (if b > a then b else a))]) =
    some [((0 : Nat) < 1),
  ((true = true) → (AN 1)),
  ((0 : Nat) < 1),
  (((if false = true then if b > a then b else a else if b < a then b else a) : Int) = (if b < a then b else a)),
  (((if true = true then if b > a then b else a else if b < a then b else a) : Int) = (if b > a then b else a))] := by kernel_rfl
theorem dHas (v : T_Graph) (p : Int) :
    pathOb Try.prog Try.f101 0 [.reg [oT, oT], .reg [oT, oT, oT, oT, ⟨true, (some ⟨[], [], [], 1, [], .p (.bool (inB p 0 (v.1 - 1)))⟩), none⟩, oT]] [.code (bodyOf Try.f101)] (start Try.f101 [] 0 [graphA v, .p (.int .i64 p)]) [] 1 [] (.p (.bool (inB p 0 (v.1 - 1)))) =
    some [((0 : Nat) < 1),
  (((-9223372036854775808) : Int) ≤ (v.1 - 1)),
  (((v.1 - 1) : Int) ≤ 9223372036854775807),
  Con Try.prog 115 0 [] [.p (.int .i64 p), .p (.int .i64 0), .p (.int .i64 (v.1 - 1))] [] (.p (.bool (inB p 0 (v.1 - 1)))),
  ((inB p 0 (v.1 - 1)) = (inB p 0 (v.1 - 1)))] := by kernel_rfl
theorem dDa (v : T_Graph) (u : T_IntS) :
    pieceOb Try.prog 0 [.reg [oT, oT], .reg [oT, oT, oT], .head] [.code (bodyOf Try.f116)] (start Try.f116 [] 0 [graphA v, inL u]) [0] 1 (SDi v u 0) =
    some ([.code (cAt (bodyOf Try.f116) [1, 0, 1, 0, 0]), .inLoop (cAt (bodyOf Try.f116) [1, 0, 1, 0, 0]), .inBlock 0, .code (cAt (bodyOf Try.f116) [1, 1])], [(AI v.1),
  (AN v.2.1.1),
  (AP v.2.1.1 (fun i => [.int .i64 ((v.2.1.2 i).1), .int .i64 ((v.2.1.2 i).2.1)])),
  (AN u.1),
  (AP u.1 (fun i => [.int .i64 (u.2 i)])),
  (AN 0),
  (false = false),
  (AN u.1),
  (AP u.1 (fun i => [.int .i64 (u.2 i)])),
  (AI ((↑u.1 : Int))),
  ((0 : Int) = (↑0 : Int)),
  ((([AV.p (PV.int IntKind.i64 v.1), graphL v.2.1].length) : Nat) = 2),
  ((1 : Nat) ≤ 1),
  ((1 : Nat) ≤ 1),
  (AI v.1),
  (AN v.2.1.1),
  (AP v.2.1.1 (fun i => [.int .i64 ((v.2.1.2 i).1), .int .i64 ((v.2.1.2 i).2.1)]))]) := by kernel_rfl
theorem dDb (v : T_Graph) (u : T_IntS) (k : Nat) :
    pieceOb Try.prog 0 [.reg [oT], .dec true, .reg [oT, oT, oT, oT, oT], .reg [oT, oT, ⟨true, (some ⟨[], [], [], 1, [], .p (.bool (inB (u.2 k) 0 (v.1 - 1)))⟩), none⟩, oT, oT, oT, oT, oT, oT, ⟨true, (some ⟨[], [], [], 1, [], .p (.bool (hasI u.2 (u.2 k) k))⟩), none⟩, oT], .dec false, .reg [oT, oT], .head] [.code (cAt (bodyOf Try.f116) [1, 0, 1, 0, 0]), .inLoop (cAt (bodyOf Try.f116) [1, 0, 1, 0, 0]), .inBlock 0, .code (cAt (bodyOf Try.f116) [1, 1])] (SDi v u k) [0] 1 (SDi v u (k + 1)) =
    some ([.code (cAt (bodyOf Try.f116) [1, 0, 1, 0, 0]), .inLoop (cAt (bodyOf Try.f116) [1, 0, 1, 0, 0]), .inBlock 0, .code (cAt (bodyOf Try.f116) [1, 1])], [((decide ((↑k : Int) < (↑u.1 : Int))) = true),
  ((0 : Int) ≤ (↑k : Int)),
  (((↑k : Int) : Int) < (↑u.1 : Int)),
  ((0 : Nat) < 1),
  Con Try.prog 101 0 [] [.agg [.p (.int .i64 v.1), .p (.seq true 2 v.2.1.1 (fun i => [.int .i64 ((v.2.1.2 i).1), .int .i64 ((v.2.1.2 i).2.1)]))], .p (.int .i64 (u.2 k))] [] (.p (.bool (inB (u.2 k) 0 (v.1 - 1)))),
  (AG (!!inB (u.2 k) 0 (v.1 - 1))),
  (AG (!!inB (u.2 k) 0 (v.1 - 1))),
  (((!!inB (u.2 k) 0 (v.1 - 1)) = true) → ((0 : Int) ≤ 0)),
  (((!!inB (u.2 k) 0 (v.1 - 1)) = true) → ((0 : Int) ≤ (↑k : Int))),
  (((!!inB (u.2 k) 0 (v.1 - 1)) = true) → (((↑k : Int) : Int) ≤ (↑u.1 : Int))),
  (AG (!!inB (u.2 k) 0 (v.1 - 1))),
  (AG (!!inB (u.2 k) 0 (v.1 - 1))),
  (((!!inB (u.2 k) 0 (v.1 - 1)) = true) → Con Try.prog 83 0 [] [.p (.seq true 1 k (fun i => [.int .i64 (u.2 i)])), .p (.int .i64 (u.2 k))] [] (.p (.bool (hasI u.2 (u.2 k) k)))),
  (((!inB (u.2 k) 0 (v.1 - 1)) = false) → ((!!inB (u.2 k) 0 (v.1 - 1)) = true)),
  ((bif !inB (u.2 k) 0 (v.1 - 1) then true else hasI u.2 (u.2 k) k) = false),
  (((-9223372036854775808) : Int) ≤ ((↑k : Int) + 1)),
  ((((↑k : Int) + 1) : Int) ≤ 9223372036854775807),
  (AI v.1),
  (AN v.2.1.1),
  (AP v.2.1.1 (fun i => [.int .i64 ((v.2.1.2 i).1), .int .i64 ((v.2.1.2 i).2.1)])),
  (AN u.1),
  (AP u.1 (fun i => [.int .i64 (u.2 i)])),
  (AN 0),
  (false = false),
  (AN u.1),
  (AP u.1 (fun i => [.int .i64 (u.2 i)])),
  (AI ((↑u.1 : Int))),
  ((((↑k : Int) + 1) : Int) = (↑(k + 1) : Int)),
  (AN 2),
  ((1 : Nat) ≤ 1),
  ((1 : Nat) ≤ 1),
  (AI v.1),
  (AN v.2.1.1),
  (AP v.2.1.1 (fun i => [.int .i64 ((v.2.1.2 i).1), .int .i64 ((v.2.1.2 i).2.1)]))]) := by kernel_rfl
theorem dDc (v : T_Graph) (u : T_IntS) (k : Nat) :
    pathOb Try.prog Try.f116 0 [.reg [oT], .dec true, .reg [oT, oT, oT, oT, oT], .reg [oT, oT, ⟨true, (some ⟨[], [], [], 1, [], .p (.bool (inB (u.2 k) 0 (v.1 - 1)))⟩), none⟩, oT, oT, oT, oT, oT, oT, ⟨true, (some ⟨[], [], [], 1, [], .p (.bool (hasI u.2 (u.2 k) k))⟩), none⟩, oT], .dec true, .reg [oT]] [.code (cAt (bodyOf Try.f116) [1, 0, 1, 0, 0]), .inLoop (cAt (bodyOf Try.f116) [1, 0, 1, 0, 0]), .inBlock 0, .code (cAt (bodyOf Try.f116) [1, 1])] (SDi v u k) [] 1 [] (.p (.bool false)) =
    some [((decide ((↑k : Int) < (↑u.1 : Int))) = true),
  ((0 : Int) ≤ (↑k : Int)),
  (((↑k : Int) : Int) < (↑u.1 : Int)),
  ((0 : Nat) < 1),
  Con Try.prog 101 0 [] [.agg [.p (.int .i64 v.1), .p (.seq true 2 v.2.1.1 (fun i => [.int .i64 ((v.2.1.2 i).1), .int .i64 ((v.2.1.2 i).2.1)]))], .p (.int .i64 (u.2 k))] [] (.p (.bool (inB (u.2 k) 0 (v.1 - 1)))),
  (AG (!!inB (u.2 k) 0 (v.1 - 1))),
  (AG (!!inB (u.2 k) 0 (v.1 - 1))),
  (((!!inB (u.2 k) 0 (v.1 - 1)) = true) → ((0 : Int) ≤ 0)),
  (((!!inB (u.2 k) 0 (v.1 - 1)) = true) → ((0 : Int) ≤ (↑k : Int))),
  (((!!inB (u.2 k) 0 (v.1 - 1)) = true) → (((↑k : Int) : Int) ≤ (↑u.1 : Int))),
  (AG (!!inB (u.2 k) 0 (v.1 - 1))),
  (AG (!!inB (u.2 k) 0 (v.1 - 1))),
  (((!!inB (u.2 k) 0 (v.1 - 1)) = true) → Con Try.prog 83 0 [] [.p (.seq true 1 k (fun i => [.int .i64 (u.2 i)])), .p (.int .i64 (u.2 k))] [] (.p (.bool (hasI u.2 (u.2 k) k)))),
  (((!inB (u.2 k) 0 (v.1 - 1)) = false) → ((!!inB (u.2 k) 0 (v.1 - 1)) = true)),
  ((bif !inB (u.2 k) 0 (v.1 - 1) then true else hasI u.2 (u.2 k) k) = true),
  (false = false)] := by kernel_rfl
theorem dDd (v : T_Graph) (u : T_IntS) (k : Nat) :
    pathOb Try.prog Try.f116 0 [.reg [oT], .dec false, .reg [oT]] [.code (cAt (bodyOf Try.f116) [1, 0, 1, 0, 0]), .inLoop (cAt (bodyOf Try.f116) [1, 0, 1, 0, 0]), .inBlock 0, .code (cAt (bodyOf Try.f116) [1, 1])] (SDi v u k) [] 1 [] (.p (.bool true)) =
    some [((decide ((↑k : Int) < (↑u.1 : Int))) = false),
  (true = true)] := by kernel_rfl
theorem dPa (v : T_Graph) (u : T_IntS) :
    pieceOb Try.prog 0 [.reg [oT, oT], .reg [oT], .head] [.code (bodyOf Try.f114)] (start Try.f114 [] 0 [graphA v, inL u]) [0] 1 (SDs v u 0) =
    some ([.code (cAt (bodyOf Try.f114) [1, 0, 1, 0, 0]), .inLoop (cAt (bodyOf Try.f114) [1, 0, 1, 0, 0]), .inBlock 0, .code (cAt (bodyOf Try.f114) [1, 1])], [(AI v.1),
  (AN v.2.1.1),
  (AP v.2.1.1 (fun i => [.int .i64 ((v.2.1.2 i).1), .int .i64 ((v.2.1.2 i).2.1)])),
  (AN u.1),
  (AP u.1 (fun i => [.int .i64 (u.2 i)])),
  (AN 0),
  (false = false),
  ((0 : Int) = (↑0 : Int)),
  ((([AV.p (PV.int IntKind.i64 v.1), graphL v.2.1].length) : Nat) = 2),
  ((1 : Nat) ≤ 1),
  ((1 : Nat) ≤ 1),
  (AI v.1),
  (AN v.2.1.1),
  (AP v.2.1.1 (fun i => [.int .i64 ((v.2.1.2 i).1), .int .i64 ((v.2.1.2 i).2.1)]))]) := by kernel_rfl
theorem dPb (v : T_Graph) (u : T_IntS) (k : Nat) :
    pieceOb Try.prog 0 [.reg [oT, oT, oT, oT], .dec true, .reg [oT, oT, oT, oT, oT, oT, oT, oT, oT, oT, oT, oT, oT, oT, oT, oT, oT, oT, oT, oT, oT, oT, ⟨true, (some ⟨[], [], [], 1, [], .p (.bool (hasI u.2 (u.2 k) k))⟩), none⟩, oT], .dec false, .reg [oT, oT, oT], .head] [.code (cAt (bodyOf Try.f114) [1, 0, 1, 0, 0]), .inLoop (cAt (bodyOf Try.f114) [1, 0, 1, 0, 0]), .inBlock 0, .code (cAt (bodyOf Try.f114) [1, 1])] (SDs v u k) [0] 1 (SDs v u (k + 1)) =
    some ([.code (cAt (bodyOf Try.f114) [1, 0, 1, 0, 0]), .inLoop (cAt (bodyOf Try.f114) [1, 0, 1, 0, 0]), .inBlock 0, .code (cAt (bodyOf Try.f114) [1, 1])], [((decide ((↑k : Int) < (↑u.1 : Int))) = true),
  ((0 : Int) ≤ (↑k : Int)),
  (((↑k : Int) : Int) < (↑u.1 : Int)),
  (AG (!decide (u.2 (↑k : Int).toNat < 0))),
  (AG (!decide (u.2 (↑k : Int).toNat < 0))),
  (((!decide (u.2 (↑k : Int).toNat < 0)) = true) → ((0 : Int) ≤ (↑k : Int))),
  (((!decide (u.2 (↑k : Int).toNat < 0)) = true) → (((↑k : Int) : Int) < (↑u.1 : Int))),
  (AG (!decide (u.2 (↑k : Int).toNat < 0))),
  (AG (!decide (u.2 (↑k : Int).toNat < 0))),
  (((!decide (u.2 (↑k : Int).toNat < 0)) = true) → ((0 : Nat) < 1)),
  (AG (!decide (u.2 (↑k : Int).toNat < 0))),
  (AG (!decide (u.2 (↑k : Int).toNat < 0))),
  (((decide (u.2 (↑k : Int).toNat < 0)) = false) → ((!decide (u.2 (↑k : Int).toNat < 0)) = true)),
  (AG (!bif decide (u.2 (↑k : Int).toNat < 0) then true else decide (u.2 (↑k : Int).toNat ≥ v.1))),
  (AG (!bif decide (u.2 (↑k : Int).toNat < 0) then true else decide (u.2 (↑k : Int).toNat ≥ v.1))),
  (((!bif decide (u.2 (↑k : Int).toNat < 0) then true else decide (u.2 (↑k : Int).toNat ≥ v.1)) = true) → ((0 : Int) ≤ 0)),
  (((!bif decide (u.2 (↑k : Int).toNat < 0) then true else decide (u.2 (↑k : Int).toNat ≥ v.1)) = true) → ((0 : Int) ≤ (↑k : Int))),
  (((!bif decide (u.2 (↑k : Int).toNat < 0) then true else decide (u.2 (↑k : Int).toNat ≥ v.1)) = true) → (((↑k : Int) : Int) ≤ (↑u.1 : Int))),
  (AG (!bif decide (u.2 (↑k : Int).toNat < 0) then true else decide (u.2 (↑k : Int).toNat ≥ v.1))),
  (AG (!bif decide (u.2 (↑k : Int).toNat < 0) then true else decide (u.2 (↑k : Int).toNat ≥ v.1))),
  (((!bif decide (u.2 (↑k : Int).toNat < 0) then true else decide (u.2 (↑k : Int).toNat ≥ v.1)) = true) → ((0 : Int) ≤ (↑k : Int))),
  (((!bif decide (u.2 (↑k : Int).toNat < 0) then true else decide (u.2 (↑k : Int).toNat ≥ v.1)) = true) → (((↑k : Int) : Int) < (↑u.1 : Int))),
  (AG (!bif decide (u.2 (↑k : Int).toNat < 0) then true else decide (u.2 (↑k : Int).toNat ≥ v.1))),
  (AG (!bif decide (u.2 (↑k : Int).toNat < 0) then true else decide (u.2 (↑k : Int).toNat ≥ v.1))),
  (AG (!bif decide (u.2 (↑k : Int).toNat < 0) then true else decide (u.2 (↑k : Int).toNat ≥ v.1))),
  (((!bif decide (u.2 (↑k : Int).toNat < 0) then true else decide (u.2 (↑k : Int).toNat ≥ v.1)) = true) → Con Try.prog 93 0 [] [.p (.seq true 1 k (fun i => [.int .i64 (u.2 i)])), .p (.int .i64 (u.2 k))] [] (.p (.bool (hasI u.2 (u.2 k) k)))),
  (((bif decide (u.2 (↑k : Int).toNat < 0) then true else decide (u.2 (↑k : Int).toNat ≥ v.1)) = false) → ((!bif decide (u.2 (↑k : Int).toNat < 0) then true else decide (u.2 (↑k : Int).toNat ≥ v.1)) = true)),
  ((bif bif decide (u.2 (↑k : Int).toNat < 0) then true else decide (u.2 (↑k : Int).toNat ≥ v.1) then true else hasI u.2 (u.2 k) k) = false),
  (((-9223372036854775808) : Int) ≤ ((↑k : Int) + 1)),
  ((((↑k : Int) + 1) : Int) ≤ 9223372036854775807),
  (AI v.1),
  (AN v.2.1.1),
  (AP v.2.1.1 (fun i => [.int .i64 ((v.2.1.2 i).1), .int .i64 ((v.2.1.2 i).2.1)])),
  (AN u.1),
  (AP u.1 (fun i => [.int .i64 (u.2 i)])),
  (AN 0),
  (false = false),
  ((((↑k : Int) + 1) : Int) = (↑(k + 1) : Int)),
  (AN 2),
  ((1 : Nat) ≤ 1),
  ((1 : Nat) ≤ 1),
  (AI v.1),
  (AN v.2.1.1),
  (AP v.2.1.1 (fun i => [.int .i64 ((v.2.1.2 i).1), .int .i64 ((v.2.1.2 i).2.1)]))]) := by kernel_rfl
theorem dPc (v : T_Graph) (u : T_IntS) (k : Nat) :
    pathOb Try.prog Try.f114 0 [.reg [oT, oT, oT, oT], .dec true, .reg [oT, oT, oT, oT, oT, oT, oT, oT, oT, oT, oT, oT, oT, oT, oT, oT, oT, oT, oT, oT, oT, oT, ⟨true, (some ⟨[], [], [], 1, [], .p (.bool (hasI u.2 (u.2 k) k))⟩), none⟩, oT], .dec true, .reg [oT]] [.code (cAt (bodyOf Try.f114) [1, 0, 1, 0, 0]), .inLoop (cAt (bodyOf Try.f114) [1, 0, 1, 0, 0]), .inBlock 0, .code (cAt (bodyOf Try.f114) [1, 1])] (SDs v u k) [] 1 [] (.p (.bool false)) =
    some [((decide ((↑k : Int) < (↑u.1 : Int))) = true),
  ((0 : Int) ≤ (↑k : Int)),
  (((↑k : Int) : Int) < (↑u.1 : Int)),
  (AG (!decide (u.2 (↑k : Int).toNat < 0))),
  (AG (!decide (u.2 (↑k : Int).toNat < 0))),
  (((!decide (u.2 (↑k : Int).toNat < 0)) = true) → ((0 : Int) ≤ (↑k : Int))),
  (((!decide (u.2 (↑k : Int).toNat < 0)) = true) → (((↑k : Int) : Int) < (↑u.1 : Int))),
  (AG (!decide (u.2 (↑k : Int).toNat < 0))),
  (AG (!decide (u.2 (↑k : Int).toNat < 0))),
  (((!decide (u.2 (↑k : Int).toNat < 0)) = true) → ((0 : Nat) < 1)),
  (AG (!decide (u.2 (↑k : Int).toNat < 0))),
  (AG (!decide (u.2 (↑k : Int).toNat < 0))),
  (((decide (u.2 (↑k : Int).toNat < 0)) = false) → ((!decide (u.2 (↑k : Int).toNat < 0)) = true)),
  (AG (!bif decide (u.2 (↑k : Int).toNat < 0) then true else decide (u.2 (↑k : Int).toNat ≥ v.1))),
  (AG (!bif decide (u.2 (↑k : Int).toNat < 0) then true else decide (u.2 (↑k : Int).toNat ≥ v.1))),
  (((!bif decide (u.2 (↑k : Int).toNat < 0) then true else decide (u.2 (↑k : Int).toNat ≥ v.1)) = true) → ((0 : Int) ≤ 0)),
  (((!bif decide (u.2 (↑k : Int).toNat < 0) then true else decide (u.2 (↑k : Int).toNat ≥ v.1)) = true) → ((0 : Int) ≤ (↑k : Int))),
  (((!bif decide (u.2 (↑k : Int).toNat < 0) then true else decide (u.2 (↑k : Int).toNat ≥ v.1)) = true) → (((↑k : Int) : Int) ≤ (↑u.1 : Int))),
  (AG (!bif decide (u.2 (↑k : Int).toNat < 0) then true else decide (u.2 (↑k : Int).toNat ≥ v.1))),
  (AG (!bif decide (u.2 (↑k : Int).toNat < 0) then true else decide (u.2 (↑k : Int).toNat ≥ v.1))),
  (((!bif decide (u.2 (↑k : Int).toNat < 0) then true else decide (u.2 (↑k : Int).toNat ≥ v.1)) = true) → ((0 : Int) ≤ (↑k : Int))),
  (((!bif decide (u.2 (↑k : Int).toNat < 0) then true else decide (u.2 (↑k : Int).toNat ≥ v.1)) = true) → (((↑k : Int) : Int) < (↑u.1 : Int))),
  (AG (!bif decide (u.2 (↑k : Int).toNat < 0) then true else decide (u.2 (↑k : Int).toNat ≥ v.1))),
  (AG (!bif decide (u.2 (↑k : Int).toNat < 0) then true else decide (u.2 (↑k : Int).toNat ≥ v.1))),
  (AG (!bif decide (u.2 (↑k : Int).toNat < 0) then true else decide (u.2 (↑k : Int).toNat ≥ v.1))),
  (((!bif decide (u.2 (↑k : Int).toNat < 0) then true else decide (u.2 (↑k : Int).toNat ≥ v.1)) = true) → Con Try.prog 93 0 [] [.p (.seq true 1 k (fun i => [.int .i64 (u.2 i)])), .p (.int .i64 (u.2 k))] [] (.p (.bool (hasI u.2 (u.2 k) k)))),
  (((bif decide (u.2 (↑k : Int).toNat < 0) then true else decide (u.2 (↑k : Int).toNat ≥ v.1)) = false) → ((!bif decide (u.2 (↑k : Int).toNat < 0) then true else decide (u.2 (↑k : Int).toNat ≥ v.1)) = true)),
  ((bif bif decide (u.2 (↑k : Int).toNat < 0) then true else decide (u.2 (↑k : Int).toNat ≥ v.1) then true else hasI u.2 (u.2 k) k) = true),
  (false = false)] := by kernel_rfl
theorem dPd (v : T_Graph) (u : T_IntS) (k : Nat) :
    pathOb Try.prog Try.f114 0 [.reg [oT, oT, oT, oT], .dec false, .reg [oT]] [.code (cAt (bodyOf Try.f114) [1, 0, 1, 0, 0]), .inLoop (cAt (bodyOf Try.f114) [1, 0, 1, 0, 0]), .inBlock 0, .code (cAt (bodyOf Try.f114) [1, 1])] (SDs v u k) [] 1 [] (.p (.bool true)) =
    some [((decide ((↑k : Int) < (↑u.1 : Int))) = false),
  (true = true)] := by kernel_rfl
theorem dRy (v : T_Graph) (u : T_IntS) (b1 b3 : Bool) :
    pathOb Try.prog Try.f80 0 [.reg [oT, oT, oT], .reg [oT, ⟨true, (some ⟨[], [], [], 1, [], .p (.bool b1)⟩), none⟩, oT, oT, oT, oT, oT, oT, oT, oT, oT, oT, oT, ⟨true, (some ⟨[], [], [], 1, [], .p (.bool b3)⟩), none⟩, oT, oT], .dec true, .reg [oT, oT, oT]] [.code (bodyOf Try.f80)] (start Try.f80 [] 0 [graphA v, inL u]) [] 1 [(0, brOb 0 (fun _ => (0, 0, ())))] (.tup [.agg [.p (.int .i64 0), .ar 2 0 0 0], .p (.bool false)]) =
    some [((0 : Nat) < 1),
  Con Try.prog 77 0 [] [.agg [.p (.int .i64 v.1), .p (.seq true 2 v.2.1.1 (fun i => [.int .i64 ((v.2.1.2 i).1), .int .i64 ((v.2.1.2 i).2.1)]))]] [] (.p (.bool b1)),
  (AG (!!b1)),
  (AG (!!b1)),
  (((!!b1) = true) → ((0 : Nat) < 1)),
  (AG (!!b1)),
  (AG (!!b1)),
  (((!b1) = false) → ((!!b1) = true)),
  (((!bif !b1 then true else (↑u.1 : Int) != v.1) = true) → ((0 : Nat) < 1)),
  (AG (!bif !b1 then true else (↑u.1 : Int) != v.1)),
  (AG (!bif !b1 then true else (↑u.1 : Int) != v.1)),
  (((!bif !b1 then true else (↑u.1 : Int) != v.1) = true) → Con Try.prog 116 0 [] [.agg [.p (.int .i64 v.1), .p (.seq true 2 v.2.1.1 (fun i => [.int .i64 ((v.2.1.2 i).1), .int .i64 ((v.2.1.2 i).2.1)]))], .p (.seq true 1 u.1 (fun i => [.int .i64 (u.2 i)]))] [] (.p (.bool b3))),
  (AG (!bif !b1 then true else (↑u.1 : Int) != v.1)),
  (((bif !b1 then true else (↑u.1 : Int) != v.1) = false) → ((!bif !b1 then true else (↑u.1 : Int) != v.1) = true)),
  ((bif bif !b1 then true else (↑u.1 : Int) != v.1 then true else !b3) = true),
  ((0 : Nat) < 1),
  ((true = true) → (AN 1)),
  ((0 : Nat) < 1),
  (AI 0),
  (AN 0),
  (false = false),
  (AN 0),
  (AE 0)] := by kernel_rfl
theorem dRz (v : T_Graph) (u : T_IntS) (b1 b3 : Bool) :
    pieceOb Try.prog 0 [.reg [oT, oT, oT], .reg [oT, ⟨true, (some ⟨[], [], [], 1, [], .p (.bool b1)⟩), none⟩, oT, oT, oT, oT, oT, oT, oT, oT, oT, oT, oT, ⟨true, (some ⟨[], [], [], 1, [], .p (.bool b3)⟩), none⟩, oT, oT], .dec false, .reg [oT, oT, oT, oT, oT], .reg [oT, oT, oT, oT], .head] [.code (bodyOf Try.f80)] (start Try.f80 [] 0 [graphA v, inL u]) [0, 32, 704] 1 (SRi v u 0 (fun _ => (0, 0, ()))) =
    some ([.code (cAt (bodyOf Try.f80) [1, 1, 1, 0, 1, 0, 0]), .inLoop (cAt (bodyOf Try.f80) [1, 1, 1, 0, 1, 0, 0]), .inBlock 0, .code (cAt (bodyOf Try.f80) [1, 1, 1, 1])], [((0 : Nat) < 1),
  Con Try.prog 77 0 [] [.agg [.p (.int .i64 v.1), .p (.seq true 2 v.2.1.1 (fun i => [.int .i64 ((v.2.1.2 i).1), .int .i64 ((v.2.1.2 i).2.1)]))]] [] (.p (.bool b1)),
  (AG (!!b1)),
  (AG (!!b1)),
  (((!!b1) = true) → ((0 : Nat) < 1)),
  (AG (!!b1)),
  (AG (!!b1)),
  (((!b1) = false) → ((!!b1) = true)),
  (((!bif !b1 then true else (↑u.1 : Int) != v.1) = true) → ((0 : Nat) < 1)),
  (AG (!bif !b1 then true else (↑u.1 : Int) != v.1)),
  (AG (!bif !b1 then true else (↑u.1 : Int) != v.1)),
  (((!bif !b1 then true else (↑u.1 : Int) != v.1) = true) → Con Try.prog 116 0 [] [.agg [.p (.int .i64 v.1), .p (.seq true 2 v.2.1.1 (fun i => [.int .i64 ((v.2.1.2 i).1), .int .i64 ((v.2.1.2 i).2.1)]))], .p (.seq true 1 u.1 (fun i => [.int .i64 (u.2 i)]))] [] (.p (.bool b3))),
  (AG (!bif !b1 then true else (↑u.1 : Int) != v.1)),
  (((bif !b1 then true else (↑u.1 : Int) != v.1) = false) → ((!bif !b1 then true else (↑u.1 : Int) != v.1) = true)),
  ((bif bif !b1 then true else (↑u.1 : Int) != v.1 then true else !b3) = false),
  ((0 : Nat) < 1),
  ((0 : Nat) < 1),
  ((true = true) → (AN 1)),
  ((0 : Nat) < 1),
  (AI v.1),
  (AN v.2.1.1),
  (AP v.2.1.1 (fun i => [.int .i64 ((v.2.1.2 i).1), .int .i64 ((v.2.1.2 i).2.1)])),
  (AN u.1),
  (AP u.1 (fun i => [.int .i64 (u.2 i)])),
  (AN 0),
  (AN 0),
  (false = false),
  (AN 0),
  (AN v.2.1.1),
  (AP v.2.1.1 (fun i => [.int .i64 ((v.2.1.2 i).1), .int .i64 ((v.2.1.2 i).2.1)])),
  (AI ((↑v.2.1.1 : Int))),
  ((0 : Int) = (↑0 : Int)),
  ((([AV.p (PV.int IntKind.i64 v.1), graphL v.2.1].length) : Nat) = 2),
  ((1 : Nat) ≤ 1),
  ((1 : Nat) ≤ 1),
  (AI v.1),
  (AN v.2.1.1),
  (AP v.2.1.1 (fun i => [.int .i64 ((v.2.1.2 i).1), .int .i64 ((v.2.1.2 i).2.1)])),
  ((((List.map (fun v => AV.p (absV v)) [Value.int IntKind.i64 0, Value.slice none 0 0]).length) : Nat) = 2),
  ((1 : Nat) ≤ 1),
  ((1 : Nat) ≤ 1),
  (AI 0),
  ((((List.map (fun v => AV.p (absV v)) [Value.int IntKind.i64 0, Value.slice none 0 0]).length) : Nat) = 2),
  ((1 : Nat) ≤ 1),
  ((1 : Nat) ≤ 1),
  (AI v.1),
  (AN 0),
  (AN 0)]) := by kernel_rfl
theorem dRa (v : T_Graph) (u : T_IntS) (k : Nat) (h : Nat → T_Bar) (x : T_Bar) :
    pieceOb Try.prog 0 [.reg [oT], .dec true, .reg [oT, oT, oT, oT], .reg [oT, oT, oT, oT, oT, oT, oT, oT, oT, oT, oT, oT, ⟨true, (some ⟨[], [], [], 1, [], .agg [.p (.int .i64 x.1), .p (.int .i64 x.2.1)]⟩), none⟩, oT, oT, oT, oT], .reg [oT, oT], .head] [.code (cAt (bodyOf Try.f80) [1, 1, 1, 0, 1, 0, 0]), .inLoop (cAt (bodyOf Try.f80) [1, 1, 1, 0, 1, 0, 0]), .inBlock 0, .code (cAt (bodyOf Try.f80) [1, 1, 1, 1])] (SRi v u k h) [0, 1, 2, 612] 1 (SRi v u (k + 1) (snoc k h x)) =
    some ([.code (cAt (bodyOf Try.f80) [1, 1, 1, 0, 1, 0, 0]), .inLoop (cAt (bodyOf Try.f80) [1, 1, 1, 0, 1, 0, 0]), .inBlock 0, .code (cAt (bodyOf Try.f80) [1, 1, 1, 1])], [((decide ((↑k : Int) < (↑v.2.1.1 : Int))) = true),
  ((0 : Int) ≤ (↑k : Int)),
  (((↑k : Int) : Int) < (↑v.2.1.1 : Int)),
  ((0 : Nat) < 1),
  ((true = true) → (AN 1)),
  ((0 : Nat) < 1),
  ((0 : Nat) < 1),
  ((0 : Int) ≤ ((v.2.1.2 k).1)),
  ((((v.2.1.2 k).1) : Int) < (↑u.1 : Int)),
  ((0 : Nat) < 1),
  ((0 : Int) ≤ ((v.2.1.2 k).2.1)),
  ((((v.2.1.2 k).2.1) : Int) < (↑u.1 : Int)),
  Con Try.prog 106 0 [] [.p (.int .i64 (u.2 (v.2.1.2 k).1.toNat)), .p (.int .i64 (u.2 (v.2.1.2 k).2.1.toNat))] [] (.agg [.p (.int .i64 x.1), .p (.int .i64 x.2.1)]),
  ((1 : Nat) ≤ 1),
  ((k : Nat) ≤ k),
  ((((k + 1) * 16) : Nat) ≤ 140737488355328),
  (((k + 1) : Nat) ≤ 9223372036854775807),
  ((0 : Nat) < 1),
  ((true = true) → (AN 1)),
  (((-9223372036854775808) : Int) ≤ ((↑k : Int) + 1)),
  ((((↑k : Int) + 1) : Int) ≤ 9223372036854775807),
  (AI v.1),
  (AN v.2.1.1),
  (AP v.2.1.1 (fun i => [.int .i64 ((v.2.1.2 i).1), .int .i64 ((v.2.1.2 i).2.1)])),
  (AN u.1),
  (AP u.1 (fun i => [.int .i64 (u.2 i)])),
  (AN 0),
  (AN 0),
  (false = false),
  (AN 0),
  (AN v.2.1.1),
  (AP v.2.1.1 (fun i => [.int .i64 ((v.2.1.2 i).1), .int .i64 ((v.2.1.2 i).2.1)])),
  (AI ((↑v.2.1.1 : Int))),
  ((((↑k : Int) + 1) : Int) = (↑(k + 1) : Int)),
  (AN 2),
  ((1 : Nat) ≤ 1),
  ((1 : Nat) ≤ 1),
  (AI v.1),
  (AN v.2.1.1),
  (AP v.2.1.1 (fun i => [.int .i64 ((v.2.1.2 i).1), .int .i64 ((v.2.1.2 i).2.1)])),
  (AN 2),
  ((1 : Nat) ≤ 1),
  ((1 : Nat) ≤ 1),
  (AI 0),
  (AN 2),
  ((1 : Nat) ≤ 1),
  ((1 : Nat) ≤ 1),
  (AI v.1),
  (AN 0),
  (AN ((k + 1))),
  (AN 2),
  (((k + 1) : Nat) ≤ (k + 1)),
  (∀ i : Nat, (((i : Nat) < (k + 1)) → (All (cvtL false [(2, ⟨true, 2, 1, (fun i_1 => [.p (.int .i64 v.1), .ar 2 612 0 (k + 1)])⟩), (612, ⟨false, 2, (k + 1), (fun i_1 => (if (i_1 < k) then [.p (.int .i64 ((h i_1).1)), .p (.int .i64 ((h i_1).2.1))] else [.p (.int .i64 x.1), .p (.int .i64 x.2.1)]))⟩), (580, ⟨false, 2, 1, (fun i_1 => [.p (.int .i64 x.1), .p (.int .i64 x.2.1)])⟩), (100, ⟨true, 2, 1, (fun i_1 => [.p (.int .i64 ((v.2.1.2 k).1)), .p (.int .i64 ((v.2.1.2 k).2.1))])⟩), (0, ⟨true, 2, 1, (fun i_1 => [.p (.int .i64 v.1), .p (.seq true 2 v.2.1.1 (fun i_2 => [.int .i64 ((v.2.1.2 i_2).1), .int .i64 ((v.2.1.2 i_2).2.1)]))])⟩), (1, ⟨true, 2, 1, (fun i_1 => [.p (.int .i64 0), .p (.nil)])⟩)] [0, 1, 2, 612] 1 (if (i < k) then [.p (.int .i64 ((h i).1)), .p (.int .i64 ((h i).2.1))] else [.p (.int .i64 x.1), .p (.int .i64 x.2.1)])).2 ∧ (((cvtL false [(2, ⟨true, 2, 1, (fun i_1 => [.p (.int .i64 v.1), .ar 2 612 0 (k + 1)])⟩), (612, ⟨false, 2, (k + 1), (fun i_1 => (if (i_1 < k) then [.p (.int .i64 ((h i_1).1)), .p (.int .i64 ((h i_1).2.1))] else [.p (.int .i64 x.1), .p (.int .i64 x.2.1)]))⟩), (580, ⟨false, 2, 1, (fun i_1 => [.p (.int .i64 x.1), .p (.int .i64 x.2.1)])⟩), (100, ⟨true, 2, 1, (fun i_1 => [.p (.int .i64 ((v.2.1.2 k).1)), .p (.int .i64 ((v.2.1.2 k).2.1))])⟩), (0, ⟨true, 2, 1, (fun i_1 => [.p (.int .i64 v.1), .p (.seq true 2 v.2.1.1 (fun i_2 => [.int .i64 ((v.2.1.2 i_2).1), .int .i64 ((v.2.1.2 i_2).2.1)]))])⟩), (1, ⟨true, 2, 1, (fun i_1 => [.p (.int .i64 0), .p (.nil)])⟩)] [0, 1, 2, 612] 1 (if (i < k) then [.p (.int .i64 ((h i).1)), .p (.int .i64 ((h i).2.1))] else [.p (.int .i64 x.1), .p (.int .i64 x.2.1)])).1 : List AV) = [.p (.int .i64 (if i < k then (h i).1 else x.1)), .p (.int .i64 (if i < k then (h i).2.1 else x.2.1))]))))]) := by kernel_rfl
theorem dRb (v : T_Graph) (u : T_IntS) (k : Nat) (h r : Nat → T_Bar) :
    pathOb Try.prog Try.f80 0 [.reg [oT], .dec false, .reg [oT, oT, ⟨true, (some ⟨[3], [], [], 1, [(0, brOb k r)], .tup []⟩), none⟩], .reg [oT, oT, oT]] [.code (cAt (bodyOf Try.f80) [1, 1, 1, 0, 1, 0, 0]), .inLoop (cAt (bodyOf Try.f80) [1, 1, 1, 0, 1, 0, 0]), .inBlock 0, .code (cAt (bodyOf Try.f80) [1, 1, 1, 1])] (SRi v u k h) [3] 1 [(0, brOb k r)] (.tup [.agg [.p (.int .i64 v.1), .ar 2 0 0 k], .p (.bool true)]) =
    some [((decide ((↑k : Int) < (↑v.2.1.1 : Int))) = false),
  ((0 : Nat) < 1),
  (AE k),
  Con Try.prog 109 1 [(0, ⟨false, 2, k, (fun i => [.p (.int .i64 ((h i).1)), .p (.int .i64 ((h i).2.1))])⟩)] [.ar 2 0 0 k, .p (.fn 82)] [(0, ⟨false, 2, k, (fun i => [.p (.int .i64 ((r i).1)), .p (.int .i64 ((r i).2.1))])⟩)] (.tup []),
  ((0 : Nat) < 1),
  ((0 : Nat) < 1),
  ((true = true) → (AN 1)),
  ((0 : Nat) < 1),
  (AI v.1),
  (AN 0),
  (AN k),
  (true = true),
  (AN 2),
  ((k : Nat) ≤ k),
  (AA k (fun i => [.p (.int .i64 ((r i).1)), .p (.int .i64 ((r i).2.1))])),
  (AE k)] := by kernel_rfl
theorem dSy (v : T_Graph) (u : T_IntS) (b1 b3 : Bool) :
    pathOb Try.prog Try.f75 0 [.reg [oT, oT, oT], .reg [oT, ⟨true, (some ⟨[], [], [], 1, [], .p (.bool b1)⟩), none⟩, oT, oT, oT, oT, oT, oT, oT, oT, oT, oT, oT, ⟨true, (some ⟨[], [], [], 1, [], .p (.bool b3)⟩), none⟩, oT, oT], .dec true, .reg [oT, oT, oT]] [.code (bodyOf Try.f75)] (start Try.f75 [] 0 [graphA v, inL u]) [] 1 [(0, brOb 0 (fun _ => (0, 0, ())))] (.tup [.agg [.p (.int .i64 0), .ar 2 0 0 0], .p (.bool false)]) =
    some [((0 : Nat) < 1),
  Con Try.prog 73 0 [] [.agg [.p (.int .i64 v.1), .p (.seq true 2 v.2.1.1 (fun i => [.int .i64 ((v.2.1.2 i).1), .int .i64 ((v.2.1.2 i).2.1)]))]] [] (.p (.bool b1)),
  (AG (!!b1)),
  (AG (!!b1)),
  (((!!b1) = true) → ((0 : Nat) < 1)),
  (AG (!!b1)),
  (AG (!!b1)),
  (((!b1) = false) → ((!!b1) = true)),
  (((!bif !b1 then true else (↑u.1 : Int) != v.1) = true) → ((0 : Nat) < 1)),
  (AG (!bif !b1 then true else (↑u.1 : Int) != v.1)),
  (AG (!bif !b1 then true else (↑u.1 : Int) != v.1)),
  (((!bif !b1 then true else (↑u.1 : Int) != v.1) = true) → Con Try.prog 114 0 [] [.agg [.p (.int .i64 v.1), .p (.seq true 2 v.2.1.1 (fun i => [.int .i64 ((v.2.1.2 i).1), .int .i64 ((v.2.1.2 i).2.1)]))], .p (.seq true 1 u.1 (fun i => [.int .i64 (u.2 i)]))] [] (.p (.bool b3))),
  (AG (!bif !b1 then true else (↑u.1 : Int) != v.1)),
  (((bif !b1 then true else (↑u.1 : Int) != v.1) = false) → ((!bif !b1 then true else (↑u.1 : Int) != v.1) = true)),
  ((bif bif !b1 then true else (↑u.1 : Int) != v.1 then true else !b3) = true),
  ((0 : Nat) < 1),
  ((true = true) → (AN 1)),
  ((0 : Nat) < 1),
  (AI 0),
  (AN 0),
  (false = false),
  (AN 0),
  (AE 0)] := by kernel_rfl
theorem dSz (v : T_Graph) (u : T_IntS) (b1 b3 : Bool) :
    pieceOb Try.prog 0 [.reg [oT, oT, oT], .reg [oT, ⟨true, (some ⟨[], [], [], 1, [], .p (.bool b1)⟩), none⟩, oT, oT, oT, oT, oT, oT, oT, oT, oT, oT, oT, ⟨true, (some ⟨[], [], [], 1, [], .p (.bool b3)⟩), none⟩, oT, oT], .dec false, .reg [oT, oT, oT, oT, oT, oT], .reg [oT], .head] [.code (bodyOf Try.f75)] (start Try.f75 [] 0 [graphA v, inL u]) [0, 32, 736, 672] 1 (SRs v u 0 0 (fun _ => (0, 0, ()))) =
    some ([.code (cAt (bodyOf Try.f75) [1, 1, 1, 0, 1, 0, 0]), .inLoop (cAt (bodyOf Try.f75) [1, 1, 1, 0, 1, 0, 0]), .inBlock 0, .code (cAt (bodyOf Try.f75) [1, 1, 1, 1])], [((0 : Nat) < 1),
  Con Try.prog 73 0 [] [.agg [.p (.int .i64 v.1), .p (.seq true 2 v.2.1.1 (fun i => [.int .i64 ((v.2.1.2 i).1), .int .i64 ((v.2.1.2 i).2.1)]))]] [] (.p (.bool b1)),
  (AG (!!b1)),
  (AG (!!b1)),
  (((!!b1) = true) → ((0 : Nat) < 1)),
  (AG (!!b1)),
  (AG (!!b1)),
  (((!b1) = false) → ((!!b1) = true)),
  (((!bif !b1 then true else (↑u.1 : Int) != v.1) = true) → ((0 : Nat) < 1)),
  (AG (!bif !b1 then true else (↑u.1 : Int) != v.1)),
  (AG (!bif !b1 then true else (↑u.1 : Int) != v.1)),
  (((!bif !b1 then true else (↑u.1 : Int) != v.1) = true) → Con Try.prog 114 0 [] [.agg [.p (.int .i64 v.1), .p (.seq true 2 v.2.1.1 (fun i => [.int .i64 ((v.2.1.2 i).1), .int .i64 ((v.2.1.2 i).2.1)]))], .p (.seq true 1 u.1 (fun i => [.int .i64 (u.2 i)]))] [] (.p (.bool b3))),
  (AG (!bif !b1 then true else (↑u.1 : Int) != v.1)),
  (((bif !b1 then true else (↑u.1 : Int) != v.1) = false) → ((!bif !b1 then true else (↑u.1 : Int) != v.1) = true)),
  ((bif bif !b1 then true else (↑u.1 : Int) != v.1 then true else !b3) = false),
  ((0 : Nat) < 1),
  ((0 : Nat) < 1),
  ((true = true) → (AN 1)),
  (AI v.1),
  (AN v.2.1.1),
  (AP v.2.1.1 (fun i => [.int .i64 ((v.2.1.2 i).1), .int .i64 ((v.2.1.2 i).2.1)])),
  (AN u.1),
  (AP u.1 (fun i => [.int .i64 (u.2 i)])),
  (AN 0),
  (AN 0),
  (false = false),
  (AN 0),
  ((0 : Int) = (↑0 : Int)),
  ((([AV.p (PV.int IntKind.i64 v.1), graphL v.2.1].length) : Nat) = 2),
  ((1 : Nat) ≤ 1),
  ((1 : Nat) ≤ 1),
  (AI v.1),
  (AN v.2.1.1),
  (AP v.2.1.1 (fun i => [.int .i64 ((v.2.1.2 i).1), .int .i64 ((v.2.1.2 i).2.1)])),
  ((((List.map (fun v => AV.p (absV v)) [Value.int IntKind.i64 0, Value.slice none 0 0]).length) : Nat) = 2),
  ((1 : Nat) ≤ 1),
  ((1 : Nat) ≤ 1),
  (AI 0),
  ((((List.map (fun v => AV.p (absV v)) [Value.int IntKind.i64 0, Value.slice none 0 0]).length) : Nat) = 2),
  ((1 : Nat) ≤ 1),
  ((1 : Nat) ≤ 1),
  (AI v.1),
  (AN 0),
  (AN 0),
  (AN 2),
  ((0 : Nat) ≤ 0),
  (AA 0 (fun i => [.p (.int .i64 0), .p (.int .i64 0)]))]) := by kernel_rfl
theorem dSa (v : T_Graph) (u : T_IntS) (k n m : Nat) (h h' : Nat → T_Bar) :
    pieceOb Try.prog 0 [.reg [oT, oT, oT, oT, oT], .dec true, .reg [oT, oT, oT, oT, oT, oT, oT, oT, oT, oT], .reg [oT, oT, oT, oT, oT, oT, oT, oT, oT, oT], .reg [oT, oT, oT, oT, oT, oT, oT, oT, ⟨true, (some ⟨[], [], [], 1, [(0, brOb m h')], .agg [.p (.int .i64 v.1), .ar 2 0 0 m]⟩), none⟩, oT], .reg [oT, oT, oT], .head] [.code (cAt (bodyOf Try.f75) [1, 1, 1, 0, 1, 0, 0]), .inLoop (cAt (bodyOf Try.f75) [1, 1, 1, 0, 1, 0, 0]), .inBlock 0, .code (cAt (bodyOf Try.f75) [1, 1, 1, 1])] (SRs v u k n h) [0, 1, 2, 1060] 1 (SRs v u (k + 1) m h') =
    some ([.code (cAt (bodyOf Try.f75) [1, 1, 1, 0, 1, 0, 0]), .inLoop (cAt (bodyOf Try.f75) [1, 1, 1, 0, 1, 0, 0]), .inBlock 0, .code (cAt (bodyOf Try.f75) [1, 1, 1, 1])], [((0 : Nat) < 1),
  ((decide ((↑k : Int) < (↑v.2.1.1 : Int))) = true),
  ((0 : Nat) < 1),
  ((0 : Int) ≤ (↑k : Int)),
  (((↑k : Int) : Int) < (↑v.2.1.1 : Int)),
  ((0 : Int) ≤ ((v.2.1.2 k).1)),
  ((((v.2.1.2 k).1) : Int) < (↑u.1 : Int)),
  ((0 : Nat) < 1),
  ((0 : Int) ≤ (↑k : Int)),
  (((↑k : Int) : Int) < (↑v.2.1.1 : Int)),
  ((0 : Int) ≤ ((v.2.1.2 k).2.1)),
  ((((v.2.1.2 k).2.1) : Int) < (↑u.1 : Int)),
  ((0 : Nat) < 1),
  (AN 2),
  ((n : Nat) ≤ n),
  Con Try.prog 108 0 [] [.agg [.p (.int .i64 v.1), .p (.seq true 2 n (fun i => [.int .i64 ((h i).1), .int .i64 ((h i).2.1)]))], .agg [.p (.int .i64 (if false = true then if u.2 (v.2.1.2 (↑k : Int).toNat).2.1.toNat > u.2 (v.2.1.2 (↑k : Int).toNat).1.toNat then u.2 (v.2.1.2 k).2.1.toNat else u.2 (v.2.1.2 k).1.toNat else if u.2 (v.2.1.2 (↑k : Int).toNat).2.1.toNat < u.2 (v.2.1.2 (↑k : Int).toNat).1.toNat then u.2 (v.2.1.2 k).2.1.toNat else u.2 (v.2.1.2 k).1.toNat)), .p (.int .i64 (if true = true then if u.2 (v.2.1.2 (↑k : Int).toNat).2.1.toNat > u.2 (v.2.1.2 (↑k : Int).toNat).1.toNat then u.2 (v.2.1.2 k).2.1.toNat else u.2 (v.2.1.2 k).1.toNat else if u.2 (v.2.1.2 (↑k : Int).toNat).2.1.toNat < u.2 (v.2.1.2 (↑k : Int).toNat).1.toNat then u.2 (v.2.1.2 k).2.1.toNat else u.2 (v.2.1.2 k).1.toNat))]] [(0, ⟨false, 2, m, (fun i => [.p (.int .i64 ((h' i).1)), .p (.int .i64 ((h' i).2.1))])⟩)] (.agg [.p (.int .i64 v.1), .ar 2 0 0 m]),
  ((0 : Nat) < 1),
  ((true = true) → (AN 1)),
  (((-9223372036854775808) : Int) ≤ ((↑k : Int) + 1)),
  ((((↑k : Int) + 1) : Int) ≤ 9223372036854775807),
  (AI v.1),
  (AN v.2.1.1),
  (AP v.2.1.1 (fun i => [.int .i64 ((v.2.1.2 i).1), .int .i64 ((v.2.1.2 i).2.1)])),
  (AN u.1),
  (AP u.1 (fun i => [.int .i64 (u.2 i)])),
  (AN 0),
  (AN 0),
  (false = false),
  (AN 0),
  ((((↑k : Int) + 1) : Int) = (↑(k + 1) : Int)),
  (AN 2),
  ((1 : Nat) ≤ 1),
  ((1 : Nat) ≤ 1),
  (AI v.1),
  (AN v.2.1.1),
  (AP v.2.1.1 (fun i => [.int .i64 ((v.2.1.2 i).1), .int .i64 ((v.2.1.2 i).2.1)])),
  (AN 2),
  ((1 : Nat) ≤ 1),
  ((1 : Nat) ≤ 1),
  (AI 0),
  (AN 2),
  ((1 : Nat) ≤ 1),
  ((1 : Nat) ≤ 1),
  (AI v.1),
  (AN 0),
  (AN m),
  (AN 2),
  ((m : Nat) ≤ m),
  (AA m (fun i => [.p (.int .i64 ((h' i).1)), .p (.int .i64 ((h' i).2.1))]))]) := by kernel_rfl
theorem dSb (v : T_Graph) (u : T_IntS) (k n : Nat) (h r : Nat → T_Bar) :
    pathOb Try.prog Try.f75 0 [.reg [oT, oT, oT, oT, oT], .dec false, .reg [oT, oT, oT]] [.code (cAt (bodyOf Try.f75) [1, 1, 1, 0, 1, 0, 0]), .inLoop (cAt (bodyOf Try.f75) [1, 1, 1, 0, 1, 0, 0]), .inBlock 0, .code (cAt (bodyOf Try.f75) [1, 1, 1, 1])] (SRs v u k n h) [3] 1 [(0, brOb n r)] (.tup [.agg [.p (.int .i64 v.1), .ar 2 0 0 n], .p (.bool true)]) =
    some [((0 : Nat) < 1),
  ((decide ((↑k : Int) < (↑v.2.1.1 : Int))) = false),
  ((0 : Nat) < 1),
  ((0 : Nat) < 1),
  ((true = true) → (AN 1)),
  ((0 : Nat) < 1),
  (AI v.1),
  (AN 0),
  (AN n),
  (true = true),
  (AN 2),
  ((n : Nat) ≤ n),
  (∀ i : Nat, (((i : Nat) < n) → (All [] ∧ (([.p (.int .i64 ((h i).1)), .p (.int .i64 ((h i).2.1))] : List AV) = [.p (.int .i64 ((r i).1)), .p (.int .i64 ((r i).2.1))])))),
  (AE n)] := by kernel_rfl
theorem con_barX (a b : Int) : Con Try.prog 106 0 [] [.p (.int .i64 a), .p (.int .i64 b)] [] (.agg [.p (.int .i64 (brX a b).1), .p (.int .i64 (brX a b).2.1)]) := by
  refine con_start Try.func106 rfl (by kernel_rfl) rfl (fun c hc => ?_)
  refine path_ok mixed Try.func106 hc (dBar a b) ?_
  simp only [All]
  repeat' (first | exact trivial | with_reducible apply And.intro)
  all_goals (first | exact aG _ | exact aP _ _ | exact aA _ _ | exact aE _ | omega | rfl | (intros; first | assumption | exact True.intro | rfl | exact absurd (show false = true by assumption) Bool.false_ne_true | ((repeat' (first | assumption | apply anda | apply notf)); done)) | simp)
theorem con_hasX (v : T_Graph) (p : Int) (h1 : 1 ≤ v.1) (h2 : v.1 ≤ 8) : Con Try.prog 101 0 [] [graphA v, .p (.int .i64 p)] [] (.p (.bool (inB p 0 (v.1 - 1)))) := by
  refine con_start Try.func101 rfl (by kernel_rfl) rfl (fun c hc => ?_)
  refine path_ok mixed Try.func101 hc (dHas v p) ?_
  simp only [All]
  repeat' (first | exact trivial | with_reducible apply And.intro)
  all_goals (first | exact aG _ | exact aP _ _ | exact aA _ _ | exact aE _ | omega | rfl | (intros; first | assumption | exact True.intro | rfl | exact absurd (show false = true by assumption) Bool.false_ne_true | ((repeat' (first | assumption | apply anda | apply notf)); done)) | (exact con_within _ _ _))
theorem difZ_N (N : Int) (s : Nat → Int) (k : Nat) : difZ N s k = difN N s k := by
  unfold difZ difN inB
  by_cases h1 : s k < 0
  · have : ¬ 0 ≤ s k := by omega
    simp [h1, this]
  · have : 0 ≤ s k := by omega
    by_cases h2 : s k ≥ N
    · have h3 : ¬ s k ≤ N - 1 := by omega
      simp [h1, h2, h3]
    · have h3 : s k ≤ N - 1 := by omega
      simp [h1, h2, h3, this]
theorem okD_bad (N : Int) (s : Nat → Int) (k : Nat) (h : difN N s k = true) : ∀ n, k < n → okD N s n = false
  | 0, h' => absurd h' (Nat.not_lt_zero _)
  | n + 1, h' => by
    by_cases e : k = n
    · subst e; simp [okD, h]
    · simp [okD, okD_bad N s k h n (by omega)]
theorem con_areDifferent (v : T_Graph) (u : T_IntS) (h1 : 1 ≤ v.1) (h2 : v.1 ≤ 8) (hn : u.1 ≤ 1048576) : Con Try.prog 116 0 [] [graphA v, inL u] [] (.p (.bool (okD v.1 u.2 u.1))) := by
  refine con_start Try.func116 rfl (by kernel_rfl) rfl (fun c hc => ?_)
  have lp : ∀ m k, k + m = u.1 → okD v.1 u.2 k = true → Run Try.prog c 116 [.code (cAt (bodyOf Try.f116) [1, 0, 1, 0, 0]), .inLoop (cAt (bodyOf Try.f116) [1, 0, 1, 0, 0]), .inBlock 0, .code (cAt (bodyOf Try.f116) [1, 1])] (SDi v u k) (Post c [] (.p (.bool (okD v.1 u.2 u.1)))) := by
    intro m
    induction m with
    | zero =>
      intro k hk hg
      obtain rfl : k = u.1 := by omega
      have hd : decide (((u.1 : Nat) : Int) < (u.1 : Int)) = false := by simp
      rw [hg]
      refine path_ok mixed Try.func116 hc (dDd v u u.1) ?_
      simp only [All]
      repeat' (first | exact trivial | with_reducible apply And.intro)
      all_goals (first | exact aG _ | exact aP _ _ | exact aA _ _ | exact aE _ | omega | rfl | (intros; first | assumption | exact True.intro | rfl | exact absurd (show false = true by assumption) Bool.false_ne_true | ((repeat' (first | assumption | apply anda | apply notf)); done)))
    | succ m ih =>
      intro k hk hg
      have hd : decide ((k : Int) < (u.1 : Int)) = true := by simp; omega
      have c1 := con_hasX v (u.2 k) h1 h2
      have c2 := con_Contains (k, u.2) (u.2 k) (by show k ≤ 1048576; omega)
      cases he : difN v.1 u.2 k with
      | true =>
        rw [okD_bad v.1 u.2 k he u.1 (by omega)]
        have he' : (bif !inB (u.2 k) 0 (v.1 - 1) then true else hasI u.2 (u.2 k) k) = true := he
        refine path_ok mixed Try.func116 hc (dDc v u k) ?_
        simp only [All]
        repeat' (first | exact trivial | with_reducible apply And.intro)
        all_goals (first | exact aG _ | exact aP _ _ | exact aA _ _ | exact aE _ | omega | rfl | (intros; first | assumption | exact True.intro | rfl | exact absurd (show false = true by assumption) Bool.false_ne_true | ((repeat' (first | assumption | apply anda | apply notf)); done)) | (exact c1) | (exact he') | (intro _; exact c2) | (intros; omega))
      | false =>
        have he' : (bif !inB (u.2 k) 0 (v.1 - 1) then true else hasI u.2 (u.2 k) k) = false := he
        refine piece_ok mixed hc (dDb v u k) ?_ (ih (k + 1) (by omega) (by simp only [okD, hg, he]; rfl))
        simp only [All]
        repeat' (first | exact trivial | with_reducible apply And.intro)
        all_goals (first | exact aG _ | exact aP _ _ | exact aA _ _ | exact aE _ | omega | rfl | (intros; first | assumption | exact True.intro | rfl | exact absurd (show false = true by assumption) Bool.false_ne_true | ((repeat' (first | assumption | apply anda | apply notf)); done)) | (exact c1) | (exact he') | (intro _; exact c2) | (intros; omega) | (intro j hj; simp [All]))
  refine piece_ok mixed hc (dDa v u) ?_ (lp u.1 0 (by omega) rfl)
  simp only [All]
  repeat' (first | exact trivial | with_reducible apply And.intro)
  all_goals (first | exact aG _ | exact aP _ _ | exact aA _ _ | exact aE _ | omega | rfl | (intros; first | assumption | exact True.intro | rfl | exact absurd (show false = true by assumption) Bool.false_ne_true | ((repeat' (first | assumption | apply anda | apply notf)); done)) | (intro j hj; simp [All]))
theorem con_l7Points (v : T_Graph) (u : T_IntS) (hn : u.1 ≤ 1048576) : Con Try.prog 114 0 [] [graphA v, inL u] [] (.p (.bool (okD v.1 u.2 u.1))) := by
  refine con_start Try.func114 rfl (by kernel_rfl) rfl (fun c hc => ?_)
  have lp : ∀ m k, k + m = u.1 → okD v.1 u.2 k = true → Run Try.prog c 114 [.code (cAt (bodyOf Try.f114) [1, 0, 1, 0, 0]), .inLoop (cAt (bodyOf Try.f114) [1, 0, 1, 0, 0]), .inBlock 0, .code (cAt (bodyOf Try.f114) [1, 1])] (SDs v u k) (Post c [] (.p (.bool (okD v.1 u.2 u.1)))) := by
    intro m
    induction m with
    | zero =>
      intro k hk hg
      obtain rfl : k = u.1 := by omega
      have hd : decide (((u.1 : Nat) : Int) < (u.1 : Int)) = false := by simp
      rw [hg]
      refine path_ok mixed Try.func114 hc (dPd v u u.1) ?_
      simp only [All]
      repeat' (first | exact trivial | with_reducible apply And.intro)
      all_goals (first | exact aG _ | exact aP _ _ | exact aA _ _ | exact aE _ | omega | rfl | (intros; first | assumption | exact True.intro | rfl | exact absurd (show false = true by assumption) Bool.false_ne_true | ((repeat' (first | assumption | apply anda | apply notf)); done)))
    | succ m ih =>
      intro k hk hg
      have hd : decide ((k : Int) < (u.1 : Int)) = true := by simp; omega
      have c2 := con_l2Has (k, u.2) (u.2 k) (by show k ≤ 1048576; omega)
      have hz := difZ_N v.1 u.2 k
      cases he : difN v.1 u.2 k with
      | true =>
        rw [okD_bad v.1 u.2 k he u.1 (by omega)]
        rw [he] at hz
        unfold difZ at hz
        refine path_ok mixed Try.func114 hc (dPc v u k) ?_
        simp only [All]
        repeat' (first | exact trivial | with_reducible apply And.intro)
        all_goals (first | exact aG _ | exact aP _ _ | exact aA _ _ | exact aE _ | omega | rfl | (intros; first | assumption | exact True.intro | rfl | exact absurd (show false = true by assumption) Bool.false_ne_true | ((repeat' (first | assumption | apply anda | apply notf)); done)) | (exact hz) | (intro _; exact c2) | (intros; omega))
      | false =>
        rw [he] at hz
        unfold difZ at hz
        refine piece_ok mixed hc (dPb v u k) ?_ (ih (k + 1) (by omega) (by simp only [okD, hg, he]; rfl))
        simp only [All]
        repeat' (first | exact trivial | with_reducible apply And.intro)
        all_goals (first | exact aG _ | exact aP _ _ | exact aA _ _ | exact aE _ | omega | rfl | (intros; first | assumption | exact True.intro | rfl | exact absurd (show false = true by assumption) Bool.false_ne_true | ((repeat' (first | assumption | apply anda | apply notf)); done)) | (exact hz) | (intro _; exact c2) | (intros; omega) | (intro j hj; simp [All]))
  refine piece_ok mixed hc (dPa v u) ?_ (lp u.1 0 (by omega) rfl)
  simp only [All]
  repeat' (first | exact trivial | with_reducible apply And.intro)
  all_goals (first | exact aG _ | exact aP _ _ | exact aA _ _ | exact aE _ | omega | rfl | (intros; first | assumption | exact True.intro | rfl | exact absurd (show false = true by assumption) Bool.false_ne_true | ((repeat' (first | assumption | apply anda | apply notf)); done)) | (intro j hj; simp [All]))
def rnB (v : T_Graph) (u : T_IntS) : Bool := isGraphF v && ((u.1 : Int) == v.1 && okD v.1 u.2 u.1)
def rnG (v : T_Graph) (u : T_IntS) : T_Graph := if rnB v u = true then (v.1, (v.2.1.1, srtB v.2.1.1 (rnD v.2.1.2 u.2)), ()) else (0, (0, fun _ => (0, 0, ())), ())
theorem graph_inR {v : T_Graph} (h : isGraphF v = true) : 1 ≤ v.1 ∧ v.1 ≤ 8 ∧ v.2.1.1 ≤ 24 ∧ goodB v.1 v.2.1.2 v.2.1.1 = true := by
  unfold isGraphF at h
  split at h
  · rename_i h1
    simp only [inB, Bool.and_eq_true, decide_eq_true_eq] at h1
    exact ⟨h1.1.1, h1.1.2, h1.2, h⟩
  · cases h
theorem goodB_at {N : Int} {g : Nat → T_Bar} : ∀ {n : Nat}, goodB N g n = true → ∀ k, k < n → 0 ≤ (g k).1 ∧ (g k).1 < (g k).2.1 ∧ (g k).2.1 < N ∧ (0 < k → leB (g (k - 1)) (g k))
  | 0, _, k, hk => absurd hk (Nat.not_lt_zero _)
  | n + 1, h, k, hk => by
    simp only [goodB, Bool.and_eq_true, Bool.not_eq_true'] at h
    by_cases e : k = n
    · subst e
      have h2 := h.2
      unfold badB at h2
      by_cases c1 : (g k).1 < 0
      · simp [c1] at h2
      by_cases c2 : (g k).1 ≥ (g k).2.1
      · simp [c1, c2] at h2
      by_cases c3 : (g k).2.1 ≥ N
      · simp [c1, c2, c3] at h2
      refine ⟨by omega, by omega, by omega, fun h0 => ?_⟩
      simp only [c1, c2, c3, decide_false, cond_false] at h2
      rw [decide_eq_true (show (k : Int) > 0 by omega)] at h2
      simp only [cond_true, Bool.not_eq_false'] at h2
      rw [← aft_iff]
      rw [show ((k : Int) - 1).toNat = k - 1 by omega] at h2
      exact h2
    · exact goodB_at h.1 k (by omega)
theorem sm_graph {v : T_Graph} (h : v.2.1.1 ≤ 1048576) : smS s_Graph v := ⟨by simp [smS, smL], ⟨h, fun i hi => by simp [smS, smL]⟩, True.intro⟩
theorem con_Rename_i (v : T_Graph) (hs : smS s_Graph v) (u : T_IntS) (hn : u.1 ≤ 1048576) :
    Con Try.prog 80 0 [] [graphA v, inL u] [(0, brOb (rnG v u).2.1.1 (rnG v u).2.1.2)] (.tup [.agg [.p (.int .i64 (rnG v u).1), .ar 2 0 0 (rnG v u).2.1.1], .p (.bool (rnB v u))]) := by
  refine con_start Try.func80 rfl (by kernel_rfl) rfl (fun c hc => ?_)
  have c1 := con_IsGraph_i v hs
  have c3 : isGraphF v = true → Con Try.prog 116 0 [] [graphA v, inL u] [] (.p (.bool (okD v.1 u.2 u.1))) := fun h => by
    have := graph_inR h
    exact con_areDifferent v u this.1 this.2.1 hn
  have c3' : (!bif !isGraphF v then true else (u.1 : Int) != v.1) = true → Con Try.prog 116 0 [] [graphA v, inL u] [] (.p (.bool (okD v.1 u.2 u.1))) := fun h => c3 (by
    cases hb : isGraphF v with
    | true => rfl
    | false => rw [hb] at h; simp at h)
  have hcd : (bif bif !isGraphF v then true else (u.1 : Int) != v.1 then true else !okD v.1 u.2 u.1) = !rnB v u := by
    unfold rnB
    cases isGraphF v <;> cases h : ((u.1 : Int) == v.1) <;> simp [bne, h]
  cases hb : rnB v u with
  | false =>
    rw [hb] at hcd
    have hcd' : (bif bif !isGraphF v then true else (u.1 : Int) != v.1 then true else !okD v.1 u.2 u.1) = true := hcd
    rw [show rnG v u = (0, (0, fun _ => (0, 0, ())), ()) by simp [rnG, hb]]
    refine path_ok mixed Try.func80 hc (dRy v u (isGraphF v) (okD v.1 u.2 u.1)) ?_
    simp only [All]
    repeat' (first | exact trivial | with_reducible apply And.intro)
    all_goals (first | exact aG _ | exact aP _ _ | exact aA _ _ | exact aE _ | omega | rfl | (intros; first | assumption | exact True.intro | rfl | exact absurd (show false = true by assumption) Bool.false_ne_true | ((repeat' (first | assumption | apply anda | apply notf)); done)) | (exact c1) | (exact c3') | (exact hcd') | (intro j hj; exact absurd hj (Nat.not_lt_zero _)) | (intro j hj; simp [All]))
  | true =>
    rw [hb] at hcd
    have hcd' : (bif bif !isGraphF v then true else (u.1 : Int) != v.1 then true else !okD v.1 u.2 u.1) = false := hcd
    have hb' := hb
    simp only [rnB, Bool.and_eq_true, beq_iff_eq] at hb'
    obtain ⟨hg, hu, hok⟩ := hb'
    obtain ⟨g1, g2, g3, g4⟩ := graph_inR hg
    rw [show rnG v u = (v.1, (v.2.1.1, srtB v.2.1.1 (rnD v.2.1.2 u.2)), ()) by simp [rnG, hb]]
    generalize hr : srtB v.2.1.1 (rnD v.2.1.2 u.2) = r
    have lp : ∀ m k h, k + m = v.2.1.1 → lstB k h = lstB k (rnD v.2.1.2 u.2) → Run Try.prog c 80 [.code (cAt (bodyOf Try.f80) [1, 1, 1, 0, 1, 0, 0]), .inLoop (cAt (bodyOf Try.f80) [1, 1, 1, 0, 1, 0, 0]), .inBlock 0, .code (cAt (bodyOf Try.f80) [1, 1, 1, 1])] (SRi v u k h) (Post c [(0, brOb v.2.1.1 r)] (.tup [.agg [.p (.int .i64 v.1), .ar 2 0 0 v.2.1.1], .p (.bool true)])) := by
      intro m
      induction m with
      | zero =>
        intro k h hk hh
        obtain rfl : k = v.2.1.1 := by omega
        have hd : decide ((v.2.1.1 : Int) < (v.2.1.1 : Int)) = false := by simp
        have hsort := con_sortBars v.2.1.1 h (by omega)
        rw [show srtB v.2.1.1 h = srtB v.2.1.1 (rnD v.2.1.2 u.2) from funext (fun i => by simp only [srtB, hh]), hr] at hsort
        refine path_ok mixed Try.func80 hc (dRb v u v.2.1.1 h r) ?_
        simp only [All]
        repeat' (first | exact trivial | with_reducible apply And.intro)
        all_goals (first | exact aG _ | exact aP _ _ | exact aA _ _ | exact aE _ | omega | rfl | (intros; first | assumption | exact True.intro | rfl | exact absurd (show false = true by assumption) Bool.false_ne_true | ((repeat' (first | assumption | apply anda | apply notf)); done)) | (exact hsort) | (intro j hj; simp [All]))
      | succ m ih =>
        intro k h hk hh
        have hd : decide ((k : Int) < (v.2.1.1 : Int)) = true := by simp; omega
        have hat := goodB_at g4 k (by omega)
        have cb := con_barX (u.2 (v.2.1.2 k).1.toNat) (u.2 (v.2.1.2 k).2.1.toNat)
        refine piece_ok mixed hc (dRa v u k h (rnD v.2.1.2 u.2 k)) ?_ (ih (k + 1) _ (by omega) (by rw [lstB_snoc, lstB_succ, hh]))
        simp only [All]
        repeat' (first | exact trivial | with_reducible apply And.intro)
        all_goals (first | exact aG _ | exact aP _ _ | exact aA _ _ | exact aE _ | omega | rfl | (intros; first | assumption | exact True.intro | rfl | exact absurd (show false = true by assumption) Bool.false_ne_true | ((repeat' (first | assumption | apply anda | apply notf)); done)) | (exact cb) | (intro j hj; by_cases h' : j < k <;> simp [h', snoc, cvtL, cvt, tg, tru, All]))
    refine piece_ok mixed hc (dRz v u (isGraphF v) (okD v.1 u.2 u.1)) ?_ (lp v.2.1.1 0 _ (by omega) (by simp [lstB, srtL]))
    simp only [All]
    repeat' (first | exact trivial | with_reducible apply And.intro)
    all_goals (first | exact aG _ | exact aP _ _ | exact aA _ _ | exact aE _ | omega | rfl | (intros; first | assumption | exact True.intro | rfl | exact absurd (show false = true by assumption) Bool.false_ne_true | ((repeat' (first | assumption | apply anda | apply notf)); done)) | (exact c1) | (exact c3') | (exact hcd') | (intro j hj; exact absurd hj (Nat.not_lt_zero _)) | (intro j hj; simp [All]))
theorem con_Rename_s (v : T_Graph) (hs : smS s_Graph v) (u : T_IntS) (hn : u.1 ≤ 1048576) :
    Con Try.prog 75 0 [] [graphA v, inL u] [(0, brOb (rnG v u).2.1.1 (rnG v u).2.1.2)] (.tup [.agg [.p (.int .i64 (rnG v u).1), .ar 2 0 0 (rnG v u).2.1.1], .p (.bool (rnB v u))]) := by
  refine con_start Try.func75 rfl (by kernel_rfl) rfl (fun c hc => ?_)
  have c1 := con_IsGraph_s v hs
  have c3 := con_l7Points v u hn
  have hcd : (bif bif !isGraphF v then true else (u.1 : Int) != v.1 then true else !okD v.1 u.2 u.1) = !rnB v u := by
    unfold rnB
    cases isGraphF v <;> cases h : ((u.1 : Int) == v.1) <;> simp [bne, h]
  cases hb : rnB v u with
  | false =>
    rw [hb] at hcd
    have hcd' : (bif bif !isGraphF v then true else (u.1 : Int) != v.1 then true else !okD v.1 u.2 u.1) = true := hcd
    rw [show rnG v u = (0, (0, fun _ => (0, 0, ())), ()) by simp [rnG, hb]]
    refine path_ok mixed Try.func75 hc (dSy v u (isGraphF v) (okD v.1 u.2 u.1)) ?_
    simp only [All]
    repeat' (first | exact trivial | with_reducible apply And.intro)
    all_goals (first | exact aG _ | exact aP _ _ | exact aA _ _ | exact aE _ | omega | rfl | (intros; first | assumption | exact True.intro | rfl | exact absurd (show false = true by assumption) Bool.false_ne_true | ((repeat' (first | assumption | apply anda | apply notf)); done)) | (exact c1) | (intro _; exact c3) | (exact hcd') | (intro j hj; exact absurd hj (Nat.not_lt_zero _)) | (intro j hj; simp [All]))
  | true =>
    rw [hb] at hcd
    have hcd' : (bif bif !isGraphF v then true else (u.1 : Int) != v.1 then true else !okD v.1 u.2 u.1) = false := hcd
    have hb' := hb
    simp only [rnB, Bool.and_eq_true, beq_iff_eq] at hb'
    obtain ⟨hg, hu, hok⟩ := hb'
    obtain ⟨g1, g2, g3, g4⟩ := graph_inR hg
    rw [show rnG v u = (v.1, (v.2.1.1, srtB v.2.1.1 (rnD v.2.1.2 u.2)), ()) by simp [rnG, hb]]
    generalize hr : srtB v.2.1.1 (rnD v.2.1.2 u.2) = r
    have lp : ∀ m k h, k + m = v.2.1.1 → lstB k h = srtL (lstB k (rnD v.2.1.2 u.2)) → Run Try.prog c 75 [.code (cAt (bodyOf Try.f75) [1, 1, 1, 0, 1, 0, 0]), .inLoop (cAt (bodyOf Try.f75) [1, 1, 1, 0, 1, 0, 0]), .inBlock 0, .code (cAt (bodyOf Try.f75) [1, 1, 1, 1])] (SRs v u k k h) (Post c [(0, brOb v.2.1.1 r)] (.tup [.agg [.p (.int .i64 v.1), .ar 2 0 0 v.2.1.1], .p (.bool true)])) := by
      intro m
      induction m with
      | zero =>
        intro k h hk hh
        obtain rfl : k = v.2.1.1 := by omega
        have hd : decide ((v.2.1.1 : Int) < (v.2.1.1 : Int)) = false := by simp
        rw [← lstB_srt, hr] at hh
        have hrow : ∀ i, i < v.2.1.1 → h i = r i := fun i hi => lstB_inj hh i hi
        refine path_ok mixed Try.func75 hc (dSb v u v.2.1.1 v.2.1.1 h r) ?_
        simp only [All]
        repeat' (first | exact trivial | with_reducible apply And.intro)
        all_goals (first | exact aG _ | exact aP _ _ | exact aA _ _ | exact aE _ | omega | rfl | (intros; first | assumption | exact True.intro | rfl | exact absurd (show false = true by assumption) Bool.false_ne_true | ((repeat' (first | assumption | apply anda | apply notf)); done)) | (intro j hj; simp [All]; done) | (intro j hj; simp [hrow j hj, All]) | (intro j hj; rw [hrow j hj]; simp [cvtL, cvt, tg, tru, All]))
      | succ m ih =>
        intro k h hk hh
        have hd : decide ((k : Int) < (v.2.1.1 : Int)) = true := by simp; omega
        have hat := goodB_at g4 k (by omega)
        have hsrt : (lstB k h).Pairwise leB := by rw [hh]; exact srtL_sorted _
        have hp := con_l2Put h k v.1.toNat (rnD v.2.1.2 u.2 k) (by omega)
        have hN : ((v.1.toNat : Nat) : Int) = v.1 := by omega
        have hl := insR_list h k (rnD v.2.1.2 u.2 k) hsrt
        have hn' := insR_n h k (rnD v.2.1.2 u.2 k)
        rw [hn'] at hp hl
        have hl2 : lstB (k + 1) (insR h k (rnD v.2.1.2 u.2 k)).2 = srtL (lstB (k + 1) (rnD v.2.1.2 u.2)) := by
          rw [hl]
          refine srtL_eq ((srtL_perm _).trans ?_) (srtL_sorted _)
          rw [hh, lstB_succ]
          exact List.Perm.append_right _ (srtL_perm _)
        rw [grG, hN] at hp
        refine piece_ok mixed hc (dSa v u k k (k + 1) h (insR h k (rnD v.2.1.2 u.2 k)).2) ?_ (ih (k + 1) _ (by omega) hl2)
        simp only [All]
        repeat' (first | exact trivial | with_reducible apply And.intro)
        all_goals (first | exact aG _ | exact aP _ _ | exact aA _ _ | exact aE _ | omega | rfl | (intros; first | assumption | exact True.intro | rfl | exact absurd (show false = true by assumption) Bool.false_ne_true | ((repeat' (first | assumption | apply anda | apply notf)); done)) | (exact hp) | (intro j hj; simp [All]))
    refine piece_ok mixed hc (dSz v u (isGraphF v) (okD v.1 u.2 u.1)) ?_ (lp v.2.1.1 0 _ (by omega) (by simp [lstB, srtL]))
    simp only [All]
    repeat' (first | exact trivial | with_reducible apply And.intro)
    all_goals (first | exact aG _ | exact aP _ _ | exact aA _ _ | exact aE _ | omega | rfl | (intros; first | assumption | exact True.intro | rfl | exact absurd (show false = true by assumption) Bool.false_ne_true | ((repeat' (first | assumption | apply anda | apply notf)); done)) | (exact c1) | (intro _; exact c3) | (exact hcd') | (intro j hj; exact absurd hj (Nat.not_lt_zero _)) | (intro j hj; simp [All]))
end Go.Proofs.Ytgdbnnmogddkaaa.Mach
namespace Go.Proofs.Ytgdbnnmogddkaaa.Mach
open Go
set_option linter.unusedVariables false
set_option linter.unusedSimpArgs false
inductive FindR (N k nb m : Nat) (g : Nat → T_Bar) (F T Q : Nat → Int) (a b : Int) : Hp → AV → Prop
  | yes (F' T' : Nat → Int) (h : Moved N k nb m g F T Q a b F' T' true) : FindR N k nb m g F T Q a b (pebR3 N m F T Q F' T' Q) (.tup [pebO N m 3, .p (.bool true)])
  | no (h : Moved N k nb m g F T Q a b F T false) : FindR N k nb m g F T Q a b (pebR N m F T Q) (.tup [pebO N m 0, .p (.bool false)])
end Go.Proofs.Ytgdbnnmogddkaaa.Mach
namespace Go.Proofs.Ytgdbnnmogddkaaa.Mach
open Go Go.Sort
set_option linter.unusedVariables false
set_option linter.unusedSimpArgs false
theorem bCi (v : T_Graph) :
    pathOb Try.prog Try.f78 0 [.reg [oT, oT], .reg [oT, oT, oT, oT, oT, oT, oT, oT]] [.code (bodyOf Try.f78)] (start Try.f78 [] 0 [graphA v]) [224] 1 [(0, brOb v.2.1.1 v.2.1.2)] (.agg [.p (.int .i64 v.1), .ar 2 0 0 v.2.1.1]) =
    some [((0 : Nat) < 1),
  ((0 : Nat) < 1),
  ((0 : Nat) ≤ 0),
  ((((0 + v.2.1.1) * 16) : Nat) ≤ 140737488355328),
  (((0 + v.2.1.1) : Nat) ≤ 9223372036854775807),
  ((0 : Nat) < 1),
  ((true = true) → (AN 1)),
  ((0 : Nat) < 1),
  (AI v.1),
  (AN 0),
  (((0 + v.2.1.1) : Nat) = v.2.1.1),
  (AN 2),
  ((v.2.1.1 : Nat) ≤ (0 + v.2.1.1)),
  (AA v.2.1.1 (fun i => [.p (.int .i64 ((v.2.1.2 i).1)), .p (.int .i64 ((v.2.1.2 i).2.1))])),
  (AE v.2.1.1)] := by kernel_rfl
theorem bCs (v : T_Graph) :
    pathOb Try.prog Try.f59 0 [.reg [oT, oT], .reg [oT, oT, oT, oT, oT, oT, oT, oT]] [.code (bodyOf Try.f59)] (start Try.f59 [] 0 [graphA v]) [224] 1 [(0, brOb v.2.1.1 v.2.1.2)] (.agg [.p (.int .i64 v.1), .ar 2 0 0 v.2.1.1]) =
    some [((0 : Nat) < 1),
  ((0 : Nat) < 1),
  ((0 : Nat) ≤ 0),
  ((((0 + v.2.1.1) * 16) : Nat) ≤ 140737488355328),
  (((0 + v.2.1.1) : Nat) ≤ 9223372036854775807),
  ((0 : Nat) < 1),
  ((true = true) → (AN 1)),
  ((0 : Nat) < 1),
  (AI v.1),
  (AN 0),
  (((0 + v.2.1.1) : Nat) = v.2.1.1),
  (AN 2),
  ((v.2.1.1 : Nat) ≤ (0 + v.2.1.1)),
  (AA v.2.1.1 (fun i => [.p (.int .i64 ((v.2.1.2 i).1)), .p (.int .i64 ((v.2.1.2 i).2.1))])),
  (AE v.2.1.1)] := by kernel_rfl
theorem con_copyGraph (v : T_Graph) (hn : v.2.1.1 ≤ 1048576) : Con Try.prog 78 0 [] [graphA v] [(0, brOb v.2.1.1 v.2.1.2)] (.agg [.p (.int .i64 v.1), .ar 2 0 0 v.2.1.1]) := by
  refine con_start Try.func78 rfl (by kernel_rfl) rfl (fun c hc => ?_)
  refine path_ok mixed Try.func78 hc (bCi v) ?_
  simp only [All]
  repeat' (first | exact trivial | with_reducible apply And.intro)
  all_goals (first | exact aG _ | exact aP _ _ | exact aA _ _ | exact aE _ | omega | rfl | (intros; first | assumption | exact True.intro | rfl | exact absurd (show false = true by assumption) Bool.false_ne_true | ((repeat' (first | assumption | apply anda | apply notf)); done)) | (intro j hj; simp [All]; done) | (simp; try omega))
theorem con_l2Copy (v : T_Graph) (hn : v.2.1.1 ≤ 1048576) : Con Try.prog 59 0 [] [graphA v] [(0, brOb v.2.1.1 v.2.1.2)] (.agg [.p (.int .i64 v.1), .ar 2 0 0 v.2.1.1]) := by
  refine con_start Try.func59 rfl (by kernel_rfl) rfl (fun c hc => ?_)
  refine path_ok mixed Try.func59 hc (bCs v) ?_
  simp only [All]
  repeat' (first | exact trivial | with_reducible apply And.intro)
  all_goals (first | exact aG _ | exact aP _ _ | exact aA _ _ | exact aE _ | omega | rfl | (intros; first | assumption | exact True.intro | rfl | exact absurd (show false = true by assumption) Bool.false_ne_true | ((repeat' (first | assumption | apply anda | apply notf)); done)) | (intro j hj; simp [All]; done) | (simp; try omega))
end Go.Proofs.Ytgdbnnmogddkaaa.Mach
namespace Go.Proofs.Ytgdbnnmogddkaaa.Mach
open Go Go.Sort
set_option linter.unusedVariables false
set_option linter.unusedSimpArgs false
abbrev NL := Nat × (Nat → Int)
def snJ (n : Nat) (h : Nat → Int) (x : Int) (s : Nat) : Int := if s < n then h s else x
def snL (r : NL) (x : Int) : NL := (r.1 + 1, snJ r.1 r.2 x)
def zNL : NL := (0, fun _ => 0)
def rlOb (n : Nat) (C : Nat → NL) : Ob := ⟨false, 1, n, fun i => [.p (.seq false 1 (C i).1 (fun s => [.int .i64 ((C i).2 s)]))]⟩
def rlL (r : NL) : AV := .p (.seq true 1 r.1 (fun s => [.int .i64 (r.2 s)]))
def brLs (g : Nat → T_Bar) (nb : Nat) : AV := .p (.seq true 2 nb (fun i => [.int .i64 (g i).1, .int .i64 (g i).2.1]))
def cgO (v : T_Graph) : Ob := ⟨true, 2, 1, fun _ => [.p (.int .i64 v.1), .p (.seq false 2 v.2.1.1 (fun i => [.int .i64 (v.2.1.2 i).1, .int .i64 (v.2.1.2 i).2.1]))]⟩
def cbO (N : Int) (o n : Nat) : Ob := ⟨true, 2, 1, fun _ => [.p (.int .i64 N), .ar 2 o 0 n]⟩
def ctO (a b t : Nat) : Ob := ⟨true, 1, 1, fun _ => [.clo 79 [.pt 2 a 0 0, .pt 2 b 0 0, .pt 1 t 0 0]]⟩
def SKf (n : Nat) (h b : Nat → T_Bar) (k : Nat) : St :=
  ⟨[brLs h n, brLs b n, .p (.fn 82)] ++ List.replicate 8 anyA ++ [brLs h n, .p (.int .i64 n), .p (.int .i64 k)] ++ List.replicate 25 anyA, [], 0⟩
def SKb (v u : T_Graph) (k : Nat) : St :=
  ⟨[graphA v, graphA u, .pt 2 0 0 0, .pt 2 1 0 0, .p .any, .p (.int .i64 k)] ++ List.replicate 36 anyA, [(0, boxG v), (1, boxG u)], 2⟩
def SKt (v : T_Graph) (r : NL) (k o : Nat) (b : Nat → T_Bar) : St :=
  ⟨[rlL r, .pt 2 0 0 0, .pt 2 1 0 0, .pt 1 2 0 0] ++ List.replicate 23 anyA ++ [.p (.int .i64 v.1), .p (.int .i64 k)] ++ List.replicate 14 anyA,
   [(0, cgO v), (1, cbO v.1 4 v.2.1.1), (2, ctO 0 1 2), (4, brOb v.2.1.1 b)], 5⟩
def SKo (n : Int) (i m : Nat) (C : Nat → NL) : St :=
  ⟨[.p (.int .i64 n), .p .any, .p .any, .ar 1 0 0 m, .p (.int .i64 i)] ++ List.replicate 43 anyA, [(0, rlOb m C)], 1⟩
def SKp (n : Int) (i m k q : Nat) (C D : Nat → NL) : St :=
  ⟨[.p (.int .i64 n), .p .any, .p .any, .ar 1 0 0 m, .p (.int .i64 i), .ar 1 1 0 q, .p (.int .i64 k)] ++ List.replicate 41 anyA, [(0, rlOb m C), (1, rlOb q D)], 2⟩
def SKq (n : Int) (i m k q x : Nat) (C D : Nat → NL) : St :=
  ⟨[.p (.int .i64 n), .p .any, .p .any, .ar 1 0 0 m, .p (.int .i64 i), .ar 1 1 0 q, .p (.int .i64 k), .p (.int .i64 x)] ++ List.replicate 40 anyA, [(0, rlOb m C), (1, rlOb q D)], 2⟩
def SKc (v : T_Graph) (i m : Nat) (C : Nat → NL) (b : Nat → T_Bar) : St :=
  ⟨[graphA v, .pt 2 0 0 0, .pt 2 1 0 0, .p (.bool false), .pt 2 2 0 0, .ar 1 3 0 m, .p (.int .i64 i)] ++ List.replicate 36 anyA,
   [(0, boxG v), (1, zG2), (2, cbO v.1 4 v.2.1.1), (3, rlOb m C), (4, brOb v.2.1.1 b)], 5⟩
def nqB (a b : T_Bar) : Bool := !((a.1 == b.1) && ((a.2.1 == b.2.1) && true))
theorem cFz (n : Nat) (h b : Nat → T_Bar) :
    pieceOb Try.prog 0 [.reg [oT], .reg [oT, oT, oT], .head] [.code (bodyOf Try.f81)] (start Try.f81 [] 0 [brLs h n, brLs b n, .p (.fn 82)]) [] 1 (SKf n h b 0) =
    some ([.code (cAt (bodyOf Try.f81) [1, 0, 1, 0, 0]), .inLoop (cAt (bodyOf Try.f81) [1, 0, 1, 0, 0]), .inBlock 0, .code (cAt (bodyOf Try.f81) [1, 1])], [(AN n),
  (AP n (fun i => [.int .i64 ((h i).1), .int .i64 ((h i).2.1)])),
  (AN n),
  (AP n (fun i => [.int .i64 ((b i).1), .int .i64 ((b i).2.1)])),
  (82 = 82),
  (AN n),
  (AP n (fun i => [.int .i64 ((h i).1), .int .i64 ((h i).2.1)])),
  (AI ((↑n : Int))),
  ((0 : Int) = (↑0 : Int))]) := by kernel_rfl
theorem cFa (n : Nat) (h b : Nat → T_Bar) (k : Nat) (q : Int) :
    pieceOb Try.prog 0 [.reg [oT], .dec true, .reg [oT, oT, oT, oT, oT, oT], .reg [oT, oT, oT, oT], .dec false, .reg [oT, oT, oT, oT, oT, oT], .reg [oT, oT, oT, ⟨true, (some ⟨[], [], [], 1, [], .p (.int .i64 q)⟩), none⟩, oT], .reg [oT, oT], .dec false, .reg [oT, oT], .head] [.code (cAt (bodyOf Try.f81) [1, 0, 1, 0, 0]), .inLoop (cAt (bodyOf Try.f81) [1, 0, 1, 0, 0]), .inBlock 0, .code (cAt (bodyOf Try.f81) [1, 1])] (SKf n h b k) [] 1 (SKf n h b (k + 1)) =
    some ([.code (cAt (bodyOf Try.f81) [1, 0, 1, 0, 0]), .inLoop (cAt (bodyOf Try.f81) [1, 0, 1, 0, 0]), .inBlock 0, .code (cAt (bodyOf Try.f81) [1, 1])], [((decide ((↑k : Int) < (↑n : Int))) = true),
  ((0 : Int) ≤ (↑k : Int)),
  (((↑k : Int) : Int) < (↑n : Int)),
  ((0 : Nat) < 1),
  ((true = true) → (AN 1)),
  ((decide ((↑k : Int) ≥ (↑n : Int))) = false),
  ((0 : Int) ≤ (↑k : Int)),
  (((↑k : Int) : Int) < (↑n : Int)),
  ((0 : Nat) < 1),
  ((true = true) → (AN 1)),
  ((0 : Nat) < 1),
  ((0 : Nat) < 1),
  Con Try.prog 82 0 [] [.agg [.p (.int .i64 ((h k).1)), .p (.int .i64 ((h k).2.1))], .agg [.p (.int .i64 ((b k).1)), .p (.int .i64 ((b k).2.1))]] [] (.p (.int .i64 q)),
  ((q != 0) = false),
  (((-9223372036854775808) : Int) ≤ ((↑k : Int) + 1)),
  ((((↑k : Int) + 1) : Int) ≤ 9223372036854775807),
  (AN n),
  (AP n (fun i => [.int .i64 ((h i).1), .int .i64 ((h i).2.1)])),
  (AN n),
  (AP n (fun i => [.int .i64 ((b i).1), .int .i64 ((b i).2.1)])),
  (82 = 82),
  (AN n),
  (AP n (fun i => [.int .i64 ((h i).1), .int .i64 ((h i).2.1)])),
  (AI ((↑n : Int))),
  ((((↑k : Int) + 1) : Int) = (↑(k + 1) : Int))]) := by kernel_rfl
theorem cFb (n : Nat) (h b : Nat → T_Bar) (k : Nat) (q : Int) :
    pathOb Try.prog Try.f81 0 [.reg [oT], .dec true, .reg [oT, oT, oT, oT, oT, oT], .reg [oT, oT, oT, oT], .dec false, .reg [oT, oT, oT, oT, oT, oT], .reg [oT, oT, oT, ⟨true, (some ⟨[], [], [], 1, [], .p (.int .i64 q)⟩), none⟩, oT], .reg [oT, oT], .dec true, .reg [oT, oT]] [.code (cAt (bodyOf Try.f81) [1, 0, 1, 0, 0]), .inLoop (cAt (bodyOf Try.f81) [1, 0, 1, 0, 0]), .inBlock 0, .code (cAt (bodyOf Try.f81) [1, 1])] (SKf n h b k) [] 1 [] (.p (.int .i64 q)) =
    some [((decide ((↑k : Int) < (↑n : Int))) = true),
  ((0 : Int) ≤ (↑k : Int)),
  (((↑k : Int) : Int) < (↑n : Int)),
  ((0 : Nat) < 1),
  ((true = true) → (AN 1)),
  ((decide ((↑k : Int) ≥ (↑n : Int))) = false),
  ((0 : Int) ≤ (↑k : Int)),
  (((↑k : Int) : Int) < (↑n : Int)),
  ((0 : Nat) < 1),
  ((true = true) → (AN 1)),
  ((0 : Nat) < 1),
  ((0 : Nat) < 1),
  Con Try.prog 82 0 [] [.agg [.p (.int .i64 ((h k).1)), .p (.int .i64 ((h k).2.1))], .agg [.p (.int .i64 ((b k).1)), .p (.int .i64 ((b k).2.1))]] [] (.p (.int .i64 q)),
  ((q != 0) = true),
  (AI q)] := by kernel_rfl
theorem cFe (n : Nat) (h b : Nat → T_Bar) (k : Nat) :
    pathOb Try.prog Try.f81 0 [.reg [oT], .dec false, .reg [oT, oT, oT, oT, oT], .dec false, .reg [oT]] [.code (cAt (bodyOf Try.f81) [1, 0, 1, 0, 0]), .inLoop (cAt (bodyOf Try.f81) [1, 0, 1, 0, 0]), .inBlock 0, .code (cAt (bodyOf Try.f81) [1, 1])] (SKf n h b k) [] 1 [] (.p (.int .i64 0)) =
    some [((decide ((↑k : Int) < (↑n : Int))) = false),
  ((decide ((↑n : Int) < (↑n : Int))) = false),
  (AI 0)] := by kernel_rfl
theorem cBz (v u : T_Graph) :
    pieceOb Try.prog 0 [.reg [oT, oT, oT], .reg [oT], .head] [.code (bodyOf Try.f76)] (start Try.f76 [] 0 [graphA v, graphA u]) [0, 32] 1 (SKb v u 0) =
    some ([.code (cAt (bodyOf Try.f76) [1, 0, 1, 0, 0]), .inLoop (cAt (bodyOf Try.f76) [1, 0, 1, 0, 0]), .inBlock 0, .code (cAt (bodyOf Try.f76) [1, 1])], [(AI v.1),
  (AN v.2.1.1),
  (AP v.2.1.1 (fun i => [.int .i64 ((v.2.1.2 i).1), .int .i64 ((v.2.1.2 i).2.1)])),
  (AI u.1),
  (AN u.2.1.1),
  (AP u.2.1.1 (fun i => [.int .i64 ((u.2.1.2 i).1), .int .i64 ((u.2.1.2 i).2.1)])),
  (AN 0),
  (AN 0),
  ((0 : Int) = (↑0 : Int)),
  ((([AV.p (PV.int IntKind.i64 v.1), graphL v.2.1].length) : Nat) = 2),
  ((1 : Nat) ≤ 1),
  ((1 : Nat) ≤ 1),
  (AI v.1),
  (AN v.2.1.1),
  (AP v.2.1.1 (fun i => [.int .i64 ((v.2.1.2 i).1), .int .i64 ((v.2.1.2 i).2.1)])),
  ((([AV.p (PV.int IntKind.i64 u.1), graphL u.2.1].length) : Nat) = 2),
  ((1 : Nat) ≤ 1),
  ((1 : Nat) ≤ 1),
  (AI u.1),
  (AN u.2.1.1),
  (AP u.2.1.1 (fun i => [.int .i64 ((u.2.1.2 i).1), .int .i64 ((u.2.1.2 i).2.1)]))]) := by kernel_rfl
theorem cBa (v u : T_Graph) (k : Nat) :
    pieceOb Try.prog 0 [.reg [oT, oT, oT, oT, oT, oT, oT, oT, oT, oT, oT, oT], .dec true, .reg [oT, oT, oT, oT, oT, oT, oT, oT, oT, oT, oT], .dec false, .reg [oT, oT, oT], .head] [.code (cAt (bodyOf Try.f76) [1, 0, 1, 0, 0]), .inLoop (cAt (bodyOf Try.f76) [1, 0, 1, 0, 0]), .inBlock 0, .code (cAt (bodyOf Try.f76) [1, 1])] (SKb v u k) [0, 1] 1 (SKb v u (k + 1)) =
    some ([.code (cAt (bodyOf Try.f76) [1, 0, 1, 0, 0]), .inLoop (cAt (bodyOf Try.f76) [1, 0, 1, 0, 0]), .inBlock 0, .code (cAt (bodyOf Try.f76) [1, 1])], [((0 : Nat) < 1),
  (AG (decide ((↑k : Int) < (↑v.2.1.1 : Int)))),
  (((decide ((↑k : Int) < (↑v.2.1.1 : Int))) = true) → ((0 : Nat) < 1)),
  (AG (decide ((↑k : Int) < (↑v.2.1.1 : Int)))),
  (AG (decide ((↑k : Int) < (↑v.2.1.1 : Int)))),
  (AG (decide ((↑k : Int) < (↑v.2.1.1 : Int)))),
  (AG (decide ((↑k : Int) < (↑v.2.1.1 : Int)))),
  ((bif decide ((↑k : Int) < (↑v.2.1.1 : Int)) then decide ((↑k : Int) < (↑u.2.1.1 : Int)) else false) = true),
  ((0 : Nat) < 1),
  ((0 : Int) ≤ (↑k : Int)),
  (((↑k : Int) : Int) < (↑v.2.1.1 : Int)),
  ((0 : Nat) < 1),
  ((0 : Int) ≤ (↑k : Int)),
  (((↑k : Int) : Int) < (↑u.2.1.1 : Int)),
  ((!((v.2.1.2 k).1 == (u.2.1.2 k).1 && ((v.2.1.2 k).2.1 == (u.2.1.2 k).2.1 && true))) = false),
  (((-9223372036854775808) : Int) ≤ ((↑k : Int) + 1)),
  ((((↑k : Int) + 1) : Int) ≤ 9223372036854775807),
  (AI v.1),
  (AN v.2.1.1),
  (AP v.2.1.1 (fun i => [.int .i64 ((v.2.1.2 i).1), .int .i64 ((v.2.1.2 i).2.1)])),
  (AI u.1),
  (AN u.2.1.1),
  (AP u.2.1.1 (fun i => [.int .i64 ((u.2.1.2 i).1), .int .i64 ((u.2.1.2 i).2.1)])),
  (AN 0),
  (AN 0),
  ((((↑k : Int) + 1) : Int) = (↑(k + 1) : Int)),
  (AN 2),
  ((1 : Nat) ≤ 1),
  ((1 : Nat) ≤ 1),
  (AI v.1),
  (AN v.2.1.1),
  (AP v.2.1.1 (fun i => [.int .i64 ((v.2.1.2 i).1), .int .i64 ((v.2.1.2 i).2.1)])),
  (AN 2),
  ((1 : Nat) ≤ 1),
  ((1 : Nat) ≤ 1),
  (AI u.1),
  (AN u.2.1.1),
  (AP u.2.1.1 (fun i => [.int .i64 ((u.2.1.2 i).1), .int .i64 ((u.2.1.2 i).2.1)]))]) := by kernel_rfl
theorem cBb (v u : T_Graph) (k : Nat) (q : Bool) :
    pathOb Try.prog Try.f76 0 [.reg [oT, oT, oT, oT, oT, oT, oT, oT, oT, oT, oT, oT], .dec true, .reg [oT, oT, oT, oT, oT, oT, oT, oT, oT, oT, oT], .dec true, .reg [oT, oT, oT, oT, oT, oT, oT, oT, oT, oT, ⟨true, (some ⟨[], [], [], 1, [], .p (.bool q)⟩), none⟩, oT]] [.code (cAt (bodyOf Try.f76) [1, 0, 1, 0, 0]), .inLoop (cAt (bodyOf Try.f76) [1, 0, 1, 0, 0]), .inBlock 0, .code (cAt (bodyOf Try.f76) [1, 1])] (SKb v u k) [] 1 [] (.p (.bool q)) =
    some [((0 : Nat) < 1),
  (AG (decide ((↑k : Int) < (↑v.2.1.1 : Int)))),
  (((decide ((↑k : Int) < (↑v.2.1.1 : Int))) = true) → ((0 : Nat) < 1)),
  (AG (decide ((↑k : Int) < (↑v.2.1.1 : Int)))),
  (AG (decide ((↑k : Int) < (↑v.2.1.1 : Int)))),
  (AG (decide ((↑k : Int) < (↑v.2.1.1 : Int)))),
  (AG (decide ((↑k : Int) < (↑v.2.1.1 : Int)))),
  ((bif decide ((↑k : Int) < (↑v.2.1.1 : Int)) then decide ((↑k : Int) < (↑u.2.1.1 : Int)) else false) = true),
  ((0 : Nat) < 1),
  ((0 : Int) ≤ (↑k : Int)),
  (((↑k : Int) : Int) < (↑v.2.1.1 : Int)),
  ((0 : Nat) < 1),
  ((0 : Int) ≤ (↑k : Int)),
  (((↑k : Int) : Int) < (↑u.2.1.1 : Int)),
  ((!((v.2.1.2 k).1 == (u.2.1.2 k).1 && ((v.2.1.2 k).2.1 == (u.2.1.2 k).2.1 && true))) = true),
  ((0 : Nat) < 1),
  ((0 : Int) ≤ (↑k : Int)),
  (((↑k : Int) : Int) < (↑v.2.1.1 : Int)),
  ((0 : Nat) < 1),
  ((0 : Int) ≤ (↑k : Int)),
  (((↑k : Int) : Int) < (↑u.2.1.1 : Int)),
  Con Try.prog 113 0 [] [.agg [.p (.int .i64 ((v.2.1.2 k).1)), .p (.int .i64 ((v.2.1.2 k).2.1))], .agg [.p (.int .i64 ((u.2.1.2 k).1)), .p (.int .i64 ((u.2.1.2 k).2.1))]] [] (.p (.bool q)),
  (q = q)] := by kernel_rfl
theorem cBe (v u : T_Graph) (k : Nat) :
    pathOb Try.prog Try.f76 0 [.reg [oT, oT, oT, oT, oT, oT, oT, oT, oT, oT, oT, oT], .dec false, .reg [oT]] [.code (cAt (bodyOf Try.f76) [1, 0, 1, 0, 0]), .inLoop (cAt (bodyOf Try.f76) [1, 0, 1, 0, 0]), .inBlock 0, .code (cAt (bodyOf Try.f76) [1, 1])] (SKb v u k) [] 1 [] (.p (.bool false)) =
    some [((0 : Nat) < 1),
  (AG (decide ((↑k : Int) < (↑v.2.1.1 : Int)))),
  (((decide ((↑k : Int) < (↑v.2.1.1 : Int))) = true) → ((0 : Nat) < 1)),
  (AG (decide ((↑k : Int) < (↑v.2.1.1 : Int)))),
  (AG (decide ((↑k : Int) < (↑v.2.1.1 : Int)))),
  (AG (decide ((↑k : Int) < (↑v.2.1.1 : Int)))),
  (AG (decide ((↑k : Int) < (↑v.2.1.1 : Int)))),
  ((bif decide ((↑k : Int) < (↑v.2.1.1 : Int)) then decide ((↑k : Int) < (↑u.2.1.1 : Int)) else false) = false),
  (false = false)] := by kernel_rfl
theorem cTa (v : T_Graph) (r : NL) (b h : Nat → T_Bar) (q : Int) :
    pathOb Try.prog Try.f79 4 [.reg [oT, oT, oT, oT, oT], .dec true, .reg [oT, oT, ⟨true, (some ⟨[], [], [], 1, [(0, brOb v.2.1.1 h)], .tup [.agg [.p (.int .i64 v.1), .ar 2 0 0 v.2.1.1], .p (.bool true)]⟩), none⟩, oT, oT, oT, oT, oT, oT], .reg [oT, oT, oT, oT, ⟨true, (some ⟨[], [], [], 1, [], .p (.int .i64 q)⟩), none⟩, oT], .dec true, .reg [oT, oT]] [.code (bodyOf Try.f79)] (start Try.f79 ([(0, cgO v), (1, cbO v.1 3 v.2.1.1), (2, ctO 0 1 2), (3, brOb v.2.1.1 b)]) 4 [rlL r, .pt 2 0 0 0, .pt 2 1 0 0, .pt 1 2 0 0]) [0, 1, 2, 99999, 228] 1 [(0, cgO v), (1, cbO v.1 4 v.2.1.1), (2, ctO 0 1 2), (4, brOb v.2.1.1 h)] (.tup []) =
    some [((0 : Nat) < 1),
  (((↑r.1 : Int) == v.1) = true),
  ((0 : Nat) < 1),
  Con Try.prog 80 0 [] [.agg [.p (.int .i64 v.1), .p (.seq true 2 v.2.1.1 (fun i => [.int .i64 ((v.2.1.2 i).1), .int .i64 ((v.2.1.2 i).2.1)]))], .p (.seq true 1 r.1 (fun i => [.int .i64 (r.2 i)]))] [(0, ⟨false, 2, v.2.1.1, (fun i => [.p (.int .i64 ((h i).1)), .p (.int .i64 ((h i).2.1))])⟩)] (.tup [.agg [.p (.int .i64 v.1), .ar 2 0 0 v.2.1.1], .p (.bool true)]),
  ((0 : Nat) < 1),
  ((true = true) → (AN 1)),
  ((0 : Nat) < 1),
  ((0 : Nat) < 1),
  (AN 2),
  ((v.2.1.1 : Nat) ≤ v.2.1.1),
  (AN 2),
  ((v.2.1.1 : Nat) ≤ v.2.1.1),
  Con Try.prog 81 0 [] [.p (.seq true 2 v.2.1.1 (fun i => [.int .i64 ((h i).1), .int .i64 ((h i).2.1)])), .p (.seq true 2 v.2.1.1 (fun i => [.int .i64 ((b i).1), .int .i64 ((b i).2.1)])), .p (.fn 82)] [] (.p (.int .i64 q)),
  ((decide (q < 0)) = true),
  ((0 : Nat) < 1),
  ((0 : Nat) < 1),
  ((true = true) → (AN 1)),
  (AN 2),
  ((1 : Nat) ≤ 1),
  ((1 : Nat) ≤ 1),
  (AI v.1),
  (AN v.2.1.1),
  (AP v.2.1.1 (fun i => [.int .i64 ((v.2.1.2 i).1), .int .i64 ((v.2.1.2 i).2.1)])),
  (AN 2),
  ((1 : Nat) ≤ 1),
  ((1 : Nat) ≤ 1),
  (AI v.1),
  (AN 0),
  (AN v.2.1.1),
  (AN 1),
  ((1 : Nat) ≤ 1),
  ((1 : Nat) ≤ 1),
  (AN 0),
  (AN 0),
  (AN 0),
  (AN 2),
  ((v.2.1.1 : Nat) ≤ v.2.1.1),
  (AA v.2.1.1 (fun i => [.p (.int .i64 ((h i).1)), .p (.int .i64 ((h i).2.1))])),
  (∀ i : Nat, (((i : Nat) < 1) → All [(false = false), (AE v.2.1.1)])),
  (AE 1),
  (AE 1),
  (AE v.2.1.1)] := by kernel_rfl
theorem cTb (v : T_Graph) (r : NL) (b h : Nat → T_Bar) (q : Int) :
    pathOb Try.prog Try.f79 4 [.reg [oT, oT, oT, oT, oT], .dec true, .reg [oT, oT, ⟨true, (some ⟨[], [], [], 1, [(0, brOb v.2.1.1 h)], .tup [.agg [.p (.int .i64 v.1), .ar 2 0 0 v.2.1.1], .p (.bool true)]⟩), none⟩, oT, oT, oT, oT, oT, oT], .reg [oT, oT, oT, oT, ⟨true, (some ⟨[], [], [], 1, [], .p (.int .i64 q)⟩), none⟩, oT], .dec false] [.code (bodyOf Try.f79)] (start Try.f79 ([(0, cgO v), (1, cbO v.1 3 v.2.1.1), (2, ctO 0 1 2), (3, brOb v.2.1.1 b)]) 4 [rlL r, .pt 2 0 0 0, .pt 2 1 0 0, .pt 1 2 0 0]) [0, 1, 2, 99999, 3] 1 [(0, cgO v), (1, cbO v.1 4 v.2.1.1), (2, ctO 0 1 2), (4, brOb v.2.1.1 b)] (.tup []) =
    some [((0 : Nat) < 1),
  (((↑r.1 : Int) == v.1) = true),
  ((0 : Nat) < 1),
  Con Try.prog 80 0 [] [.agg [.p (.int .i64 v.1), .p (.seq true 2 v.2.1.1 (fun i => [.int .i64 ((v.2.1.2 i).1), .int .i64 ((v.2.1.2 i).2.1)]))], .p (.seq true 1 r.1 (fun i => [.int .i64 (r.2 i)]))] [(0, ⟨false, 2, v.2.1.1, (fun i => [.p (.int .i64 ((h i).1)), .p (.int .i64 ((h i).2.1))])⟩)] (.tup [.agg [.p (.int .i64 v.1), .ar 2 0 0 v.2.1.1], .p (.bool true)]),
  ((0 : Nat) < 1),
  ((true = true) → (AN 1)),
  ((0 : Nat) < 1),
  ((0 : Nat) < 1),
  (AN 2),
  ((v.2.1.1 : Nat) ≤ v.2.1.1),
  (AN 2),
  ((v.2.1.1 : Nat) ≤ v.2.1.1),
  Con Try.prog 81 0 [] [.p (.seq true 2 v.2.1.1 (fun i => [.int .i64 ((h i).1), .int .i64 ((h i).2.1)])), .p (.seq true 2 v.2.1.1 (fun i => [.int .i64 ((b i).1), .int .i64 ((b i).2.1)])), .p (.fn 82)] [] (.p (.int .i64 q)),
  ((decide (q < 0)) = false),
  (AN 2),
  ((1 : Nat) ≤ 1),
  ((1 : Nat) ≤ 1),
  (AI v.1),
  (AN v.2.1.1),
  (AP v.2.1.1 (fun i => [.int .i64 ((v.2.1.2 i).1), .int .i64 ((v.2.1.2 i).2.1)])),
  (AN 2),
  ((1 : Nat) ≤ 1),
  ((1 : Nat) ≤ 1),
  (AI v.1),
  (AN 0),
  (AN v.2.1.1),
  (AN 1),
  ((1 : Nat) ≤ 1),
  ((1 : Nat) ≤ 1),
  (AN 0),
  (AN 0),
  (AN 0),
  (AN 2),
  ((v.2.1.1 : Nat) ≤ v.2.1.1),
  (AA v.2.1.1 (fun i => [.p (.int .i64 ((b i).1)), .p (.int .i64 ((b i).2.1))])),
  (∀ i : Nat, (((i : Nat) < 1) → All [(false = false), (AE v.2.1.1)])),
  (AE 1),
  (AE 1),
  (AE v.2.1.1)] := by kernel_rfl
theorem cTz (v : T_Graph) (r : NL) (b : Nat → T_Bar) :
    pieceOb Try.prog 4 [.reg [oT, oT, oT, oT, oT], .dec false, .reg [oT, oT, oT], .head] [.code (bodyOf Try.f79)] (start Try.f79 ([(0, cgO v), (1, cbO v.1 3 v.2.1.1), (2, ctO 0 1 2), (3, brOb v.2.1.1 b)]) 4 [rlL r, .pt 2 0 0 0, .pt 2 1 0 0, .pt 1 2 0 0]) [0, 1, 2, 99999, 3] 1 (SKt v r 0 4 b) =
    some ([.code (cAt (bodyOf Try.f79) [1, 1, 0, 0]), .inLoop (cAt (bodyOf Try.f79) [1, 1, 0, 0]), .inBlock 0], [((0 : Nat) < 1),
  (((↑r.1 : Int) == v.1) = false),
  ((0 : Nat) < 1),
  (AN r.1),
  (AP r.1 (fun i => [.int .i64 (r.2 i)])),
  (AN 0),
  (AN 0),
  (AN 0),
  (AI v.1),
  ((0 : Int) = (↑0 : Int)),
  (AN 2),
  ((1 : Nat) ≤ 1),
  ((1 : Nat) ≤ 1),
  (AI v.1),
  (AN v.2.1.1),
  (AP v.2.1.1 (fun i => [.int .i64 ((v.2.1.2 i).1), .int .i64 ((v.2.1.2 i).2.1)])),
  (AN 2),
  ((1 : Nat) ≤ 1),
  ((1 : Nat) ≤ 1),
  (AI v.1),
  (AN 0),
  (AN v.2.1.1),
  (AN 1),
  ((1 : Nat) ≤ 1),
  ((1 : Nat) ≤ 1),
  (AN 0),
  (AN 0),
  (AN 0),
  (AN 2),
  ((v.2.1.1 : Nat) ≤ v.2.1.1),
  (AA v.2.1.1 (fun i => [.p (.int .i64 ((b i).1)), .p (.int .i64 ((b i).2.1))]))]) := by kernel_rfl
theorem cTr (v : T_Graph) (r : NL) (k : Nat) (b h : Nat → T_Bar) :
    pieceOb Try.prog 4 [.reg [oT], .dec true, .reg [oT, oT], .reg [oT, oT, ⟨true, (some ⟨[], [], [], 1, [], .p (.bool false)⟩), none⟩, oT], .dec true, .reg [oT, oT, ⟨true, (some ⟨[], [], [], 1, [(0, iOb r.1 r.2)], .ar 1 0 0 r.1⟩), none⟩, oT, oT, oT, ⟨true, (some ⟨[0, 1, 2, 4], [1000], [], 1, [(0, cgO v), (1, cbO v.1 4 v.2.1.1), (2, ctO 0 1 2), (4, brOb v.2.1.1 h)], .tup []⟩), none⟩], .reg [oT, oT], .head] [.code (cAt (bodyOf Try.f79) [1, 1, 0, 0]), .inLoop (cAt (bodyOf Try.f79) [1, 1, 0, 0]), .inBlock 0] (SKt v r k 4 b) [0, 1, 2, 99999, 421] 1 (SKt v r (k + 1) 4 h) =
    some ([.code (cAt (bodyOf Try.f79) [1, 1, 0, 0]), .inLoop (cAt (bodyOf Try.f79) [1, 1, 0, 0]), .inBlock 0], [((decide ((↑k : Int) < v.1)) = true),
  Con Try.prog 83 0 [] [.p (.seq true 1 r.1 (fun i => [.int .i64 (r.2 i)])), .p (.int .i64 (↑k : Int))] [] (.p (.bool false)),
  ((!false) = true),
  ((0 : Nat) < 1),
  Con Try.prog 84 0 [] [.p (.seq true 1 r.1 (fun i => [.int .i64 (r.2 i)]))] [(0, ⟨false, 1, r.1, (fun i => [.p (.int .i64 (r.2 i))])⟩)] (.ar 1 0 0 r.1),
  ((1 : Nat) ≤ 1),
  ((r.1 : Nat) ≤ r.1),
  ((((r.1 + 1) * 8) : Nat) ≤ 140737488355328),
  (((r.1 + 1) : Nat) ≤ 9223372036854775807),
  (AE 1),
  (AE 1),
  (AE 1),
  (AE v.2.1.1),
  (AN 1),
  (((r.1 + 1) : Nat) ≤ (r.1 + 1)),
  Con Try.prog 79 4 [(0, ⟨true, 2, 1, (fun i => [.p (.int .i64 v.1), .p (.seq false 2 v.2.1.1 (fun i_1 => [.int .i64 ((v.2.1.2 i_1).1), .int .i64 ((v.2.1.2 i_1).2.1)]))])⟩), (1, ⟨true, 2, 1, (fun i => [.p (.int .i64 v.1), .ar 2 3 0 v.2.1.1])⟩), (2, ⟨true, 1, 1, (fun i => [.clo 79 [.pt 2 0 0 0, .pt 2 1 0 0, .pt 1 2 0 0]])⟩), (3, ⟨false, 2, v.2.1.1, (fun i => [.p (.int .i64 ((b i).1)), .p (.int .i64 ((b i).2.1))])⟩)] [.p (.seq true 1 (r.1 + 1) (fun i => [(cellP true (if (i < r.1) then [.p (.int .i64 (r.2 i))] else [.p (.int .i64 (↑k : Int))]) 0)])), .pt 2 0 0 0, .pt 2 1 0 0, .pt 1 2 0 0] [(0, ⟨true, 2, 1, (fun i => [.p (.int .i64 v.1), .p (.seq false 2 v.2.1.1 (fun i_1 => [.int .i64 ((v.2.1.2 i_1).1), .int .i64 ((v.2.1.2 i_1).2.1)]))])⟩), (1, ⟨true, 2, 1, (fun i => [.p (.int .i64 v.1), .ar 2 4 0 v.2.1.1])⟩), (2, ⟨true, 1, 1, (fun i => [.clo 79 [.pt 2 0 0 0, .pt 2 1 0 0, .pt 1 2 0 0]])⟩), (4, ⟨false, 2, v.2.1.1, (fun i => [.p (.int .i64 ((h i).1)), .p (.int .i64 ((h i).2.1))])⟩)] (.tup []),
  (((-9223372036854775808) : Int) ≤ ((↑k : Int) + 1)),
  ((((↑k : Int) + 1) : Int) ≤ 9223372036854775807),
  (AN r.1),
  (AP r.1 (fun i => [.int .i64 (r.2 i)])),
  (AN 0),
  (AN 0),
  (AN 0),
  (AI v.1),
  ((((↑k : Int) + 1) : Int) = (↑(k + 1) : Int)),
  (AN 2),
  ((1 : Nat) ≤ 1),
  ((1 : Nat) ≤ 1),
  (AI v.1),
  (AN v.2.1.1),
  (AP v.2.1.1 (fun i => [.int .i64 ((v.2.1.2 i).1), .int .i64 ((v.2.1.2 i).2.1)])),
  (AN 2),
  ((1 : Nat) ≤ 1),
  ((1 : Nat) ≤ 1),
  (AI v.1),
  (AN 0),
  (AN v.2.1.1),
  (AN 1),
  ((1 : Nat) ≤ 1),
  ((1 : Nat) ≤ 1),
  (AN 0),
  (AN 0),
  (AN 0),
  (AN 2),
  ((v.2.1.1 : Nat) ≤ v.2.1.1),
  (AA v.2.1.1 (fun i => [.p (.int .i64 ((h i).1)), .p (.int .i64 ((h i).2.1))]))]) := by kernel_rfl
theorem cTs (v : T_Graph) (r : NL) (k : Nat) (b : Nat → T_Bar) :
    pieceOb Try.prog 4 [.reg [oT], .dec true, .reg [oT, oT], .reg [oT, oT, ⟨true, (some ⟨[], [], [], 1, [], .p (.bool true)⟩), none⟩, oT], .dec false, .reg [oT, oT], .head] [.code (cAt (bodyOf Try.f79) [1, 1, 0, 0]), .inLoop (cAt (bodyOf Try.f79) [1, 1, 0, 0]), .inBlock 0] (SKt v r k 4 b) [0, 1, 2, 99999, 4] 1 (SKt v r (k + 1) 4 b) =
    some ([.code (cAt (bodyOf Try.f79) [1, 1, 0, 0]), .inLoop (cAt (bodyOf Try.f79) [1, 1, 0, 0]), .inBlock 0], [((decide ((↑k : Int) < v.1)) = true),
  Con Try.prog 83 0 [] [.p (.seq true 1 r.1 (fun i => [.int .i64 (r.2 i)])), .p (.int .i64 (↑k : Int))] [] (.p (.bool true)),
  ((!true) = false),
  (((-9223372036854775808) : Int) ≤ ((↑k : Int) + 1)),
  ((((↑k : Int) + 1) : Int) ≤ 9223372036854775807),
  (AN r.1),
  (AP r.1 (fun i => [.int .i64 (r.2 i)])),
  (AN 0),
  (AN 0),
  (AN 0),
  (AI v.1),
  ((((↑k : Int) + 1) : Int) = (↑(k + 1) : Int)),
  (AN 2),
  ((1 : Nat) ≤ 1),
  ((1 : Nat) ≤ 1),
  (AI v.1),
  (AN v.2.1.1),
  (AP v.2.1.1 (fun i => [.int .i64 ((v.2.1.2 i).1), .int .i64 ((v.2.1.2 i).2.1)])),
  (AN 2),
  ((1 : Nat) ≤ 1),
  ((1 : Nat) ≤ 1),
  (AI v.1),
  (AN 0),
  (AN v.2.1.1),
  (AN 1),
  ((1 : Nat) ≤ 1),
  ((1 : Nat) ≤ 1),
  (AN 0),
  (AN 0),
  (AN 0),
  (AN 2),
  ((v.2.1.1 : Nat) ≤ v.2.1.1),
  (AA v.2.1.1 (fun i => [.p (.int .i64 ((b i).1)), .p (.int .i64 ((b i).2.1))]))]) := by kernel_rfl
theorem cTe (v : T_Graph) (r : NL) (k : Nat) (b : Nat → T_Bar) :
    pathOb Try.prog Try.f79 4 [.reg [oT], .dec false] [.code (cAt (bodyOf Try.f79) [1, 1, 0, 0]), .inLoop (cAt (bodyOf Try.f79) [1, 1, 0, 0]), .inBlock 0] (SKt v r k 4 b) [0, 1, 2, 99999, 4] 1 [(0, cgO v), (1, cbO v.1 4 v.2.1.1), (2, ctO 0 1 2), (4, brOb v.2.1.1 b)] (.tup []) =
    some [((decide ((↑k : Int) < v.1)) = false),
  (AN 2),
  ((1 : Nat) ≤ 1),
  ((1 : Nat) ≤ 1),
  (AI v.1),
  (AN v.2.1.1),
  (AP v.2.1.1 (fun i => [.int .i64 ((v.2.1.2 i).1), .int .i64 ((v.2.1.2 i).2.1)])),
  (AN 2),
  ((1 : Nat) ≤ 1),
  ((1 : Nat) ≤ 1),
  (AI v.1),
  (AN 0),
  (AN v.2.1.1),
  (AN 1),
  ((1 : Nat) ≤ 1),
  ((1 : Nat) ≤ 1),
  (AN 0),
  (AN 0),
  (AN 0),
  (AN 2),
  ((v.2.1.1 : Nat) ≤ v.2.1.1),
  (AA v.2.1.1 (fun i => [.p (.int .i64 ((b i).1)), .p (.int .i64 ((b i).2.1))])),
  (∀ i : Nat, (((i : Nat) < 1) → All [(false = false), (AE v.2.1.1)])),
  (AE 1),
  (AE 1),
  (AE v.2.1.1)] := by kernel_rfl
theorem cIy (v : T_Graph) (b0 : Bool) :
    pathOb Try.prog Try.f34 0 [.reg [oT, oT, oT], .reg [oT, ⟨true, (some ⟨[], [], [], 1, [], .p (.bool b0)⟩), none⟩, oT, oT, oT, oT, oT, oT], .dec true, .reg [oT, oT, oT]] [.code (bodyOf Try.f34)] (start Try.f34 [] 0 [graphA v]) [] 1 [(0, brOb 0 (fun _ => (0, 0, ())))] (.tup [.agg [.p (.int .i64 0), .ar 2 0 0 0], .p (.bool false)]) =
    some [((0 : Nat) < 1),
  Con Try.prog 77 0 [] [.agg [.p (.int .i64 v.1), .p (.seq true 2 v.2.1.1 (fun i => [.int .i64 ((v.2.1.2 i).1), .int .i64 ((v.2.1.2 i).2.1)]))]] [] (.p (.bool b0)),
  (AG (!!b0)),
  (((!!b0) = true) → ((0 : Nat) < 1)),
  (AG (!!b0)),
  (((!b0) = false) → ((!!b0) = true)),
  ((bif !b0 then true else decide (v.1 > 5)) = true),
  ((0 : Nat) < 1),
  ((true = true) → (AN 1)),
  ((0 : Nat) < 1),
  (AI 0),
  (AN 0),
  (false = false),
  (AN 0),
  (AE 0)] := by kernel_rfl
theorem cIz (v : T_Graph) (b0 : Bool) (b h : Nat → T_Bar) :
    pathOb Try.prog Try.f34 0 [.reg [oT, oT, oT], .reg [oT, ⟨true, (some ⟨[], [], [], 1, [], .p (.bool b0)⟩), none⟩, oT, oT, oT, oT, oT, oT], .dec false, .reg [oT, ⟨true, (some ⟨[], [], [], 1, [(0, brOb v.2.1.1 b)], .agg [.p (.int .i64 v.1), .ar 2 0 0 v.2.1.1]⟩), none⟩, oT, oT], .reg [oT], .reg [oT, oT], .reg [oT, oT, ⟨true, (some ⟨[0, 416, 480, 384], [0], [], 1, [(0, cgO v), (1, cbO v.1 4 v.2.1.1), (2, ctO 0 1 2), (4, brOb v.2.1.1 h)], .tup []⟩), none⟩], .reg [oT, oT, oT]] [.code (bodyOf Try.f34)] (start Try.f34 [] 0 [graphA v]) [640] 1 [(0, brOb v.2.1.1 h)] (.tup [.agg [.p (.int .i64 v.1), .ar 2 0 0 v.2.1.1], .p (.bool true)]) =
    some [((0 : Nat) < 1),
  Con Try.prog 77 0 [] [.agg [.p (.int .i64 v.1), .p (.seq true 2 v.2.1.1 (fun i => [.int .i64 ((v.2.1.2 i).1), .int .i64 ((v.2.1.2 i).2.1)]))]] [] (.p (.bool b0)),
  (AG (!!b0)),
  (((!!b0) = true) → ((0 : Nat) < 1)),
  (AG (!!b0)),
  (((!b0) = false) → ((!!b0) = true)),
  ((bif !b0 then true else decide (v.1 > 5)) = false),
  ((0 : Nat) < 1),
  Con Try.prog 78 0 [] [.agg [.p (.int .i64 v.1), .p (.seq true 2 v.2.1.1 (fun i => [.int .i64 ((v.2.1.2 i).1), .int .i64 ((v.2.1.2 i).2.1)]))]] [(0, ⟨false, 2, v.2.1.1, (fun i => [.p (.int .i64 ((b i).1)), .p (.int .i64 ((b i).2.1))])⟩)] (.agg [.p (.int .i64 v.1), .ar 2 0 0 v.2.1.1]),
  ((0 : Nat) < 1),
  ((true = true) → (AN 1)),
  ((0 : Nat) < 1),
  ((true = true) → (AN 1)),
  ((0 : Nat) < 1),
  (AE 1),
  (AE 1),
  (AE 1),
  (AE v.2.1.1),
  (AN 1),
  ((0 : Nat) ≤ 0),
  Con Try.prog 79 4 [(0, ⟨true, 2, 1, (fun i => [.p (.int .i64 v.1), .p (.seq false 2 v.2.1.1 (fun i_1 => [.int .i64 ((v.2.1.2 i_1).1), .int .i64 ((v.2.1.2 i_1).2.1)]))])⟩), (1, ⟨true, 2, 1, (fun i => [.p (.int .i64 v.1), .ar 2 3 0 v.2.1.1])⟩), (2, ⟨true, 1, 1, (fun i => [.clo 79 [.pt 2 0 0 0, .pt 2 1 0 0, .pt 1 2 0 0]])⟩), (3, ⟨false, 2, v.2.1.1, (fun i => [.p (.int .i64 ((b i).1)), .p (.int .i64 ((b i).2.1))])⟩)] [.p (.seq true 1 0 (fun i => [.int .i64 0])), .pt 2 0 0 0, .pt 2 1 0 0, .pt 1 2 0 0] [(0, ⟨true, 2, 1, (fun i => [.p (.int .i64 v.1), .p (.seq false 2 v.2.1.1 (fun i_1 => [.int .i64 ((v.2.1.2 i_1).1), .int .i64 ((v.2.1.2 i_1).2.1)]))])⟩), (1, ⟨true, 2, 1, (fun i => [.p (.int .i64 v.1), .ar 2 4 0 v.2.1.1])⟩), (2, ⟨true, 1, 1, (fun i => [.clo 79 [.pt 2 0 0 0, .pt 2 1 0 0, .pt 1 2 0 0]])⟩), (4, ⟨false, 2, v.2.1.1, (fun i => [.p (.int .i64 ((h i).1)), .p (.int .i64 ((h i).2.1))])⟩)] (.tup []),
  ((0 : Nat) < 1),
  ((0 : Nat) < 1),
  ((true = true) → (AN 1)),
  ((0 : Nat) < 1),
  (AI v.1),
  (AN 0),
  (AN v.2.1.1),
  (true = true),
  (AN 2),
  ((v.2.1.1 : Nat) ≤ v.2.1.1),
  (AA v.2.1.1 (fun i => [.p (.int .i64 ((h i).1)), .p (.int .i64 ((h i).2.1))])),
  (AE v.2.1.1)] := by kernel_rfl
theorem cOz (n : Int) :
    pieceOb Try.prog 0 [.reg [oT], .reg [oT, oT, oT], .reg [oT], .head] [.code (bodyOf Try.f74)] (start Try.f74 [] 0 [.p (.int .i64 n)]) [64] 1 (SKo n 0 1 (fun _ => zNL)) =
    some ([.code (cAt (bodyOf Try.f74) [1, 1, 0, 1, 0, 0]), .inLoop (cAt (bodyOf Try.f74) [1, 1, 0, 1, 0, 0]), .inBlock 0, .code (cAt (bodyOf Try.f74) [1, 1, 1])], [(AI n),
  (AN 0),
  (AN 1),
  ((0 : Int) = (↑0 : Int)),
  (AN 1),
  ((1 : Nat) ≤ 1),
  (∀ i : Nat, (((i : Nat) < 1) → (All [(AN 1), ((0 : Nat) ≤ 0)] ∧ (([.p (.seq false 1 0 (fun i_1 => [.int .i64 0]))] : List AV) = [.p (.seq false 1 0 (fun i_1 => [.int .i64 (zNL.2 i_1)]))]))))]) := by kernel_rfl
theorem cOa (n : Int) (i m : Nat) (C : Nat → NL) :
    pieceOb Try.prog 0 [.reg [oT, oT, oT], .dec true, .reg [oT, oT], .reg [oT], .head] [.code (cAt (bodyOf Try.f74) [1, 1, 0, 1, 0, 0]), .inLoop (cAt (bodyOf Try.f74) [1, 1, 0, 1, 0, 0]), .inBlock 0, .code (cAt (bodyOf Try.f74) [1, 1, 1])] (SKo n i m C) [0, 97] 1 (SKp n i m 0 0 C (fun _ => zNL)) =
    some ([.code (cAt (bodyOf Try.f74) [1, 1, 0, 1, 0, 0, 1, 0, 0, 1, 0, 1, 0, 0]), .inLoop (cAt (bodyOf Try.f74) [1, 1, 0, 1, 0, 0, 1, 0, 0, 1, 0, 1, 0, 0]), .inBlock 2, .code (cAt (bodyOf Try.f74) [1, 1, 0, 1, 0, 0, 1, 0, 0, 1, 1]), .inBlock 1, .code (cAt (bodyOf Try.f74) [1, 1, 0, 1, 0, 0, 1, 1]), .inLoop (cAt (bodyOf Try.f74) [1, 1, 0, 1, 0, 0]), .inBlock 0, .code (cAt (bodyOf Try.f74) [1, 1, 1])], [((decide ((↑i : Int) < n)) = true),
  (AI n),
  (AN 0),
  (AN m),
  (AI ((↑i : Int))),
  (AN 0),
  (AN 0),
  ((0 : Int) = (↑0 : Int)),
  (AN 1),
  ((m : Nat) ≤ m),
  (AA m (fun i_1 => [.p (.seq false 1 ((C i_1).1) (fun i_2 => [.int .i64 ((C i_1).2 i_2)]))])),
  (AN 1),
  ((0 : Nat) ≤ 0),
  (∀ i_1 : Nat, (((i_1 : Nat) < 0) → (All [] ∧ (([.p (.nil)] : List AV) = [.p (.seq false 1 0 (fun i_2 => [.int .i64 (zNL.2 i_2)]))]))))]) := by kernel_rfl
theorem cOb (n : Int) (i m k q : Nat) (C D : Nat → NL) :
    pieceOb Try.prog 0 [.reg [oT, oT, oT, oT], .dec true, .reg [oT], .head] [.code (cAt (bodyOf Try.f74) [1, 1, 0, 1, 0, 0, 1, 0, 0, 1, 0, 1, 0, 0]), .inLoop (cAt (bodyOf Try.f74) [1, 1, 0, 1, 0, 0, 1, 0, 0, 1, 0, 1, 0, 0]), .inBlock 2, .code (cAt (bodyOf Try.f74) [1, 1, 0, 1, 0, 0, 1, 0, 0, 1, 1]), .inBlock 1, .code (cAt (bodyOf Try.f74) [1, 1, 0, 1, 0, 0, 1, 1]), .inLoop (cAt (bodyOf Try.f74) [1, 1, 0, 1, 0, 0]), .inBlock 0, .code (cAt (bodyOf Try.f74) [1, 1, 1])] (SKp n i m k q C D) [0, 1] 1 (SKq n i m k q 0 C D) =
    some ([.code (cAt (bodyOf Try.f74) [1, 1, 0, 1, 0, 0, 1, 0, 0, 1, 0, 1, 0, 0, 1, 0, 0, 1, 0, 0]), .inLoop (cAt (bodyOf Try.f74) [1, 1, 0, 1, 0, 0, 1, 0, 0, 1, 0, 1, 0, 0, 1, 0, 0, 1, 0, 0]), .inBlock 4, .inBlock 3, .code (cAt (bodyOf Try.f74) [1, 1, 0, 1, 0, 0, 1, 0, 0, 1, 0, 1, 0, 0, 1, 1]), .inLoop (cAt (bodyOf Try.f74) [1, 1, 0, 1, 0, 0, 1, 0, 0, 1, 0, 1, 0, 0]), .inBlock 2, .code (cAt (bodyOf Try.f74) [1, 1, 0, 1, 0, 0, 1, 0, 0, 1, 1]), .inBlock 1, .code (cAt (bodyOf Try.f74) [1, 1, 0, 1, 0, 0, 1, 1]), .inLoop (cAt (bodyOf Try.f74) [1, 1, 0, 1, 0, 0]), .inBlock 0, .code (cAt (bodyOf Try.f74) [1, 1, 1])], [((decide ((↑k : Int) < (↑m : Int))) = true),
  (AI n),
  (AN 0),
  (AN m),
  (AI ((↑i : Int))),
  (AN 0),
  (AN q),
  (AI ((↑k : Int))),
  ((0 : Int) = (↑0 : Int)),
  (AN 1),
  ((m : Nat) ≤ m),
  (AA m (fun i_1 => [.p (.seq false 1 ((C i_1).1) (fun i_2 => [.int .i64 ((C i_1).2 i_2)]))])),
  (AN 1),
  ((q : Nat) ≤ q),
  (AA q (fun i_1 => [.p (.seq false 1 ((D i_1).1) (fun i_2 => [.int .i64 ((D i_1).2 i_2)]))]))]) := by kernel_rfl
theorem cOc (n : Int) (i m k q x : Nat) (C D : Nat → NL) (E : Nat → NL) :
    pieceOb Try.prog 0 [.reg [oT, oT, oT], .dec true, .reg [oT, oT, oT, oT, oT, ⟨true, (some ⟨[], [], [], 1, [], .p (.bool false)⟩), none⟩, oT], .dec true, .reg [oT, oT, oT, oT, oT, oT, oT, oT, oT, oT, oT, oT, oT], .reg [oT, oT, oT], .head] [.code (cAt (bodyOf Try.f74) [1, 1, 0, 1, 0, 0, 1, 0, 0, 1, 0, 1, 0, 0, 1, 0, 0, 1, 0, 0]), .inLoop (cAt (bodyOf Try.f74) [1, 1, 0, 1, 0, 0, 1, 0, 0, 1, 0, 1, 0, 0, 1, 0, 0, 1, 0, 0]), .inBlock 4, .inBlock 3, .code (cAt (bodyOf Try.f74) [1, 1, 0, 1, 0, 0, 1, 0, 0, 1, 0, 1, 0, 0, 1, 1]), .inLoop (cAt (bodyOf Try.f74) [1, 1, 0, 1, 0, 0, 1, 0, 0, 1, 0, 1, 0, 0]), .inBlock 2, .code (cAt (bodyOf Try.f74) [1, 1, 0, 1, 0, 0, 1, 0, 0, 1, 1]), .inBlock 1, .code (cAt (bodyOf Try.f74) [1, 1, 0, 1, 0, 0, 1, 1]), .inLoop (cAt (bodyOf Try.f74) [1, 1, 0, 1, 0, 0]), .inBlock 0, .code (cAt (bodyOf Try.f74) [1, 1, 1])] (SKq n i m k q x C D) [0, 674] 1 (SKq n i m k (q + 1) (x + 1) C E) =
    some ([.code (cAt (bodyOf Try.f74) [1, 1, 0, 1, 0, 0, 1, 0, 0, 1, 0, 1, 0, 0, 1, 0, 0, 1, 0, 0]), .inLoop (cAt (bodyOf Try.f74) [1, 1, 0, 1, 0, 0, 1, 0, 0, 1, 0, 1, 0, 0, 1, 0, 0, 1, 0, 0]), .inBlock 4, .inBlock 3, .code (cAt (bodyOf Try.f74) [1, 1, 0, 1, 0, 0, 1, 0, 0, 1, 0, 1, 0, 0, 1, 1]), .inLoop (cAt (bodyOf Try.f74) [1, 1, 0, 1, 0, 0, 1, 0, 0, 1, 0, 1, 0, 0]), .inBlock 2, .code (cAt (bodyOf Try.f74) [1, 1, 0, 1, 0, 0, 1, 0, 0, 1, 1]), .inBlock 1, .code (cAt (bodyOf Try.f74) [1, 1, 0, 1, 0, 0, 1, 1]), .inLoop (cAt (bodyOf Try.f74) [1, 1, 0, 1, 0, 0]), .inBlock 0, .code (cAt (bodyOf Try.f74) [1, 1, 1])], [((decide ((↑x : Int) < n)) = true),
  ((0 : Int) ≤ (↑k : Int)),
  (((↑k : Int) : Int) < (↑m : Int)),
  ((k : Nat) < m),
  Con Try.prog 93 0 [] [.p (.seq true 1 ((C k).1) (fun i_1 => [.int .i64 ((C k).2 i_1)])), .p (.int .i64 (↑x : Int))] [] (.p (.bool false)),
  ((!false) = true),
  ((0 : Int) ≤ (↑k : Int)),
  (((↑k : Int) : Int) < (↑m : Int)),
  ((k : Nat) < m),
  ((0 : Nat) ≤ 0),
  ((((0 + (C k).1) * 8) : Nat) ≤ 140737488355328),
  (((0 + (C k).1) : Nat) ≤ 9223372036854775807),
  ((1 : Nat) ≤ 1),
  (((0 + (C k).1) : Nat) ≤ (0 + (C k).1)),
  ((((0 + (C k).1 + 1) * 8) : Nat) ≤ 140737488355328),
  (((0 + (C k).1 + 1) : Nat) ≤ 9223372036854775807),
  ((1 : Nat) ≤ 1),
  ((q : Nat) ≤ q),
  ((((q + 1) * 24) : Nat) ≤ 140737488355328),
  (((q + 1) : Nat) ≤ 9223372036854775807),
  (((-9223372036854775808) : Int) ≤ ((↑x : Int) + 1)),
  ((((↑x : Int) + 1) : Int) ≤ 9223372036854775807),
  (AI n),
  (AN 0),
  (AN m),
  (AI ((↑i : Int))),
  (AN 0),
  (AN ((q + 1))),
  (AI ((↑k : Int))),
  ((((↑x : Int) + 1) : Int) = (↑(x + 1) : Int)),
  (AN 1),
  ((m : Nat) ≤ m),
  (AA m (fun i_1 => [.p (.seq false 1 ((C i_1).1) (fun i_2 => [.int .i64 ((C i_1).2 i_2)]))])),
  (AN 1),
  (((q + 1) : Nat) ≤ (q + 1)),
  (∀ i_1 : Nat, (((i_1 : Nat) < (q + 1)) → (All (cvtL false [(674, ⟨false, 1, (q + 1), (fun i_2 => (if (i_2 < q) then [.p (.seq false 1 ((D i_2).1) (fun i_3 => [.int .i64 ((D i_2).2 i_3)]))] else [.ar 1 610 0 (0 + (C k).1 + 1)]))⟩), (642, ⟨false, 1, 1, (fun i_2 => [.ar 1 610 0 (0 + (C k).1 + 1)])⟩), (610, ⟨false, 1, (0 + (C k).1 + 1), (fun i_2 => (if (i_2 < 0 + (C k).1) then [.p (.int .i64 ((C k).2 i_2))] else [.p (.int .i64 (↑x : Int))]))⟩), (578, ⟨false, 1, 1, (fun i_2 => [.p (.int .i64 (↑x : Int))])⟩), (0, ⟨false, 1, m, (fun i_2 => [.p (.seq false 1 ((C i_2).1) (fun i_3 => [.int .i64 ((C i_2).2 i_3)]))])⟩)] [0, 674] 1 (if (i_1 < q) then [.p (.seq false 1 ((D i_1).1) (fun i_2 => [.int .i64 ((D i_1).2 i_2)]))] else [.ar 1 610 0 (0 + (C k).1 + 1)])).2 ∧ (((cvtL false [(674, ⟨false, 1, (q + 1), (fun i_2 => (if (i_2 < q) then [.p (.seq false 1 ((D i_2).1) (fun i_3 => [.int .i64 ((D i_2).2 i_3)]))] else [.ar 1 610 0 (0 + (C k).1 + 1)]))⟩), (642, ⟨false, 1, 1, (fun i_2 => [.ar 1 610 0 (0 + (C k).1 + 1)])⟩), (610, ⟨false, 1, (0 + (C k).1 + 1), (fun i_2 => (if (i_2 < 0 + (C k).1) then [.p (.int .i64 ((C k).2 i_2))] else [.p (.int .i64 (↑x : Int))]))⟩), (578, ⟨false, 1, 1, (fun i_2 => [.p (.int .i64 (↑x : Int))])⟩), (0, ⟨false, 1, m, (fun i_2 => [.p (.seq false 1 ((C i_2).1) (fun i_3 => [.int .i64 ((C i_2).2 i_3)]))])⟩)] [0, 674] 1 (if (i_1 < q) then [.p (.seq false 1 ((D i_1).1) (fun i_2 => [.int .i64 ((D i_1).2 i_2)]))] else [.ar 1 610 0 (0 + (C k).1 + 1)])).1 : List AV) = [.p (.seq false 1 ((E i_1).1) (fun i_2 => [.int .i64 ((E i_1).2 i_2)]))]))))]) := by kernel_rfl
theorem cOd (n : Int) (i m k q x : Nat) (C D : Nat → NL) :
    pieceOb Try.prog 0 [.reg [oT, oT, oT], .dec true, .reg [oT, oT, oT, oT, oT, ⟨true, (some ⟨[], [], [], 1, [], .p (.bool true)⟩), none⟩, oT], .dec false, .reg [oT, oT, oT], .head] [.code (cAt (bodyOf Try.f74) [1, 1, 0, 1, 0, 0, 1, 0, 0, 1, 0, 1, 0, 0, 1, 0, 0, 1, 0, 0]), .inLoop (cAt (bodyOf Try.f74) [1, 1, 0, 1, 0, 0, 1, 0, 0, 1, 0, 1, 0, 0, 1, 0, 0, 1, 0, 0]), .inBlock 4, .inBlock 3, .code (cAt (bodyOf Try.f74) [1, 1, 0, 1, 0, 0, 1, 0, 0, 1, 0, 1, 0, 0, 1, 1]), .inLoop (cAt (bodyOf Try.f74) [1, 1, 0, 1, 0, 0, 1, 0, 0, 1, 0, 1, 0, 0]), .inBlock 2, .code (cAt (bodyOf Try.f74) [1, 1, 0, 1, 0, 0, 1, 0, 0, 1, 1]), .inBlock 1, .code (cAt (bodyOf Try.f74) [1, 1, 0, 1, 0, 0, 1, 1]), .inLoop (cAt (bodyOf Try.f74) [1, 1, 0, 1, 0, 0]), .inBlock 0, .code (cAt (bodyOf Try.f74) [1, 1, 1])] (SKq n i m k q x C D) [0, 1] 1 (SKq n i m k q (x + 1) C D) =
    some ([.code (cAt (bodyOf Try.f74) [1, 1, 0, 1, 0, 0, 1, 0, 0, 1, 0, 1, 0, 0, 1, 0, 0, 1, 0, 0]), .inLoop (cAt (bodyOf Try.f74) [1, 1, 0, 1, 0, 0, 1, 0, 0, 1, 0, 1, 0, 0, 1, 0, 0, 1, 0, 0]), .inBlock 4, .inBlock 3, .code (cAt (bodyOf Try.f74) [1, 1, 0, 1, 0, 0, 1, 0, 0, 1, 0, 1, 0, 0, 1, 1]), .inLoop (cAt (bodyOf Try.f74) [1, 1, 0, 1, 0, 0, 1, 0, 0, 1, 0, 1, 0, 0]), .inBlock 2, .code (cAt (bodyOf Try.f74) [1, 1, 0, 1, 0, 0, 1, 0, 0, 1, 1]), .inBlock 1, .code (cAt (bodyOf Try.f74) [1, 1, 0, 1, 0, 0, 1, 1]), .inLoop (cAt (bodyOf Try.f74) [1, 1, 0, 1, 0, 0]), .inBlock 0, .code (cAt (bodyOf Try.f74) [1, 1, 1])], [((decide ((↑x : Int) < n)) = true),
  ((0 : Int) ≤ (↑k : Int)),
  (((↑k : Int) : Int) < (↑m : Int)),
  ((k : Nat) < m),
  Con Try.prog 93 0 [] [.p (.seq true 1 ((C k).1) (fun i_1 => [.int .i64 ((C k).2 i_1)])), .p (.int .i64 (↑x : Int))] [] (.p (.bool true)),
  ((!true) = false),
  (((-9223372036854775808) : Int) ≤ ((↑x : Int) + 1)),
  ((((↑x : Int) + 1) : Int) ≤ 9223372036854775807),
  (AI n),
  (AN 0),
  (AN m),
  (AI ((↑i : Int))),
  (AN 0),
  (AN q),
  (AI ((↑k : Int))),
  ((((↑x : Int) + 1) : Int) = (↑(x + 1) : Int)),
  (AN 1),
  ((m : Nat) ≤ m),
  (AA m (fun i_1 => [.p (.seq false 1 ((C i_1).1) (fun i_2 => [.int .i64 ((C i_1).2 i_2)]))])),
  (AN 1),
  ((q : Nat) ≤ q),
  (AA q (fun i_1 => [.p (.seq false 1 ((D i_1).1) (fun i_2 => [.int .i64 ((D i_1).2 i_2)]))]))]) := by kernel_rfl
theorem cOe (n : Int) (i m k q x : Nat) (C D : Nat → NL) :
    pieceOb Try.prog 0 [.reg [oT, oT, oT], .dec false, .reg [oT, oT, oT], .head] [.code (cAt (bodyOf Try.f74) [1, 1, 0, 1, 0, 0, 1, 0, 0, 1, 0, 1, 0, 0, 1, 0, 0, 1, 0, 0]), .inLoop (cAt (bodyOf Try.f74) [1, 1, 0, 1, 0, 0, 1, 0, 0, 1, 0, 1, 0, 0, 1, 0, 0, 1, 0, 0]), .inBlock 4, .inBlock 3, .code (cAt (bodyOf Try.f74) [1, 1, 0, 1, 0, 0, 1, 0, 0, 1, 0, 1, 0, 0, 1, 1]), .inLoop (cAt (bodyOf Try.f74) [1, 1, 0, 1, 0, 0, 1, 0, 0, 1, 0, 1, 0, 0]), .inBlock 2, .code (cAt (bodyOf Try.f74) [1, 1, 0, 1, 0, 0, 1, 0, 0, 1, 1]), .inBlock 1, .code (cAt (bodyOf Try.f74) [1, 1, 0, 1, 0, 0, 1, 1]), .inLoop (cAt (bodyOf Try.f74) [1, 1, 0, 1, 0, 0]), .inBlock 0, .code (cAt (bodyOf Try.f74) [1, 1, 1])] (SKq n i m k q x C D) [0, 1] 1 (SKp n i m (k + 1) q C D) =
    some ([.code (cAt (bodyOf Try.f74) [1, 1, 0, 1, 0, 0, 1, 0, 0, 1, 0, 1, 0, 0]), .inLoop (cAt (bodyOf Try.f74) [1, 1, 0, 1, 0, 0, 1, 0, 0, 1, 0, 1, 0, 0]), .inBlock 2, .code (cAt (bodyOf Try.f74) [1, 1, 0, 1, 0, 0, 1, 0, 0, 1, 1]), .inBlock 1, .code (cAt (bodyOf Try.f74) [1, 1, 0, 1, 0, 0, 1, 1]), .inLoop (cAt (bodyOf Try.f74) [1, 1, 0, 1, 0, 0]), .inBlock 0, .code (cAt (bodyOf Try.f74) [1, 1, 1])], [((decide ((↑x : Int) < n)) = false),
  (((-9223372036854775808) : Int) ≤ ((↑k : Int) + 1)),
  ((((↑k : Int) + 1) : Int) ≤ 9223372036854775807),
  (AI n),
  (AN 0),
  (AN m),
  (AI ((↑i : Int))),
  (AN 0),
  (AN q),
  ((((↑k : Int) + 1) : Int) = (↑(k + 1) : Int)),
  (AN 1),
  ((m : Nat) ≤ m),
  (AA m (fun i_1 => [.p (.seq false 1 ((C i_1).1) (fun i_2 => [.int .i64 ((C i_1).2 i_2)]))])),
  (AN 1),
  ((q : Nat) ≤ q),
  (AA q (fun i_1 => [.p (.seq false 1 ((D i_1).1) (fun i_2 => [.int .i64 ((D i_1).2 i_2)]))]))]) := by kernel_rfl
theorem cOf (n : Int) (i m k q : Nat) (C D : Nat → NL) :
    pieceOb Try.prog 0 [.reg [oT, oT, oT, oT], .dec false, .reg [oT, oT], .reg [oT, oT, oT], .head] [.code (cAt (bodyOf Try.f74) [1, 1, 0, 1, 0, 0, 1, 0, 0, 1, 0, 1, 0, 0]), .inLoop (cAt (bodyOf Try.f74) [1, 1, 0, 1, 0, 0, 1, 0, 0, 1, 0, 1, 0, 0]), .inBlock 2, .code (cAt (bodyOf Try.f74) [1, 1, 0, 1, 0, 0, 1, 0, 0, 1, 1]), .inBlock 1, .code (cAt (bodyOf Try.f74) [1, 1, 0, 1, 0, 0, 1, 1]), .inLoop (cAt (bodyOf Try.f74) [1, 1, 0, 1, 0, 0]), .inBlock 0, .code (cAt (bodyOf Try.f74) [1, 1, 1])] (SKp n i m k q C D) [1] 1 (SKo n (i + 1) q D) =
    some ([.code (cAt (bodyOf Try.f74) [1, 1, 0, 1, 0, 0]), .inLoop (cAt (bodyOf Try.f74) [1, 1, 0, 1, 0, 0]), .inBlock 0, .code (cAt (bodyOf Try.f74) [1, 1, 1])], [((decide ((↑k : Int) < (↑m : Int))) = false),
  (((-9223372036854775808) : Int) ≤ ((↑i : Int) + 1)),
  ((((↑i : Int) + 1) : Int) ≤ 9223372036854775807),
  (AI n),
  (AN 0),
  (AN q),
  ((((↑i : Int) + 1) : Int) = (↑(i + 1) : Int)),
  (AN 1),
  ((q : Nat) ≤ q),
  (AA q (fun i_1 => [.p (.seq false 1 ((D i_1).1) (fun i_2 => [.int .i64 ((D i_1).2 i_2)]))]))]) := by kernel_rfl
theorem cOg (n : Int) (i m : Nat) (C : Nat → NL) :
    pathOb Try.prog Try.f74 0 [.reg [oT, oT, oT], .dec false, .reg [oT, oT]] [.code (cAt (bodyOf Try.f74) [1, 1, 0, 1, 0, 0]), .inLoop (cAt (bodyOf Try.f74) [1, 1, 0, 1, 0, 0]), .inBlock 0, .code (cAt (bodyOf Try.f74) [1, 1, 1])] (SKo n i m C) [0] 1 [(0, rlOb m C)] (.ar 1 0 0 m) =
    some [((decide ((↑i : Int) < n)) = false),
  (AN 0),
  (AN m),
  (AN 1),
  ((m : Nat) ≤ m),
  (AA m (fun i_1 => [.p (.seq false 1 ((C i_1).1) (fun i_2 => [.int .i64 ((C i_1).2 i_2)]))])),
  (∀ i_1 : Nat, (((i_1 : Nat) < m) → All [(false = false), (AE (((C i_1).1)))]))] := by kernel_rfl
theorem cSy (v : T_Graph) (b0 : Bool) :
    pathOb Try.prog Try.f32 0 [.reg [oT, oT, oT], .reg [oT, ⟨true, (some ⟨[], [], [], 1, [], .p (.bool b0)⟩), none⟩, oT, oT, oT, oT, oT, oT], .dec true, .reg [oT, oT, oT]] [.code (bodyOf Try.f32)] (start Try.f32 [] 0 [graphA v]) [] 1 [(0, brOb 0 (fun _ => (0, 0, ())))] (.tup [.agg [.p (.int .i64 0), .ar 2 0 0 0], .p (.bool false)]) =
    some [((0 : Nat) < 1),
  Con Try.prog 73 0 [] [.agg [.p (.int .i64 v.1), .p (.seq true 2 v.2.1.1 (fun i => [.int .i64 ((v.2.1.2 i).1), .int .i64 ((v.2.1.2 i).2.1)]))]] [] (.p (.bool b0)),
  (AG (!!b0)),
  (((!!b0) = true) → ((0 : Nat) < 1)),
  (AG (!!b0)),
  (((!b0) = false) → ((!!b0) = true)),
  ((bif !b0 then true else decide (v.1 > 5)) = true),
  ((0 : Nat) < 1),
  ((true = true) → (AN 1)),
  ((0 : Nat) < 1),
  (AI 0),
  (AN 0),
  (false = false),
  (AN 0),
  (AE 0)] := by kernel_rfl
theorem cSz (v : T_Graph) (b0 : Bool) (b : Nat → T_Bar) (m : Nat) (C : Nat → NL) :
    pieceOb Try.prog 0 [.reg [oT, oT, oT], .reg [oT, ⟨true, (some ⟨[], [], [], 1, [], .p (.bool b0)⟩), none⟩, oT, oT, oT, oT, oT, oT], .dec false, .reg [oT, ⟨true, (some ⟨[], [], [], 1, [(0, brOb v.2.1.1 b)], .agg [.p (.int .i64 v.1), .ar 2 0 0 v.2.1.1]⟩), none⟩, oT, oT], .reg [oT, oT, ⟨true, (some ⟨[], [], [], 1, [(0, rlOb m C)], .ar 1 0 0 m⟩), none⟩, oT], .reg [oT], .head] [.code (bodyOf Try.f32)] (start Try.f32 [] 0 [graphA v]) [0, 32, 416, 544, 384] 1 (SKc v 0 m C b) =
    some ([.code (cAt (bodyOf Try.f32) [1, 1, 1, 1, 0, 1, 0, 0]), .inLoop (cAt (bodyOf Try.f32) [1, 1, 1, 1, 0, 1, 0, 0]), .inBlock 0, .code (cAt (bodyOf Try.f32) [1, 1, 1, 1, 1])], [((0 : Nat) < 1),
  Con Try.prog 73 0 [] [.agg [.p (.int .i64 v.1), .p (.seq true 2 v.2.1.1 (fun i => [.int .i64 ((v.2.1.2 i).1), .int .i64 ((v.2.1.2 i).2.1)]))]] [] (.p (.bool b0)),
  (AG (!!b0)),
  (((!!b0) = true) → ((0 : Nat) < 1)),
  (AG (!!b0)),
  (((!b0) = false) → ((!!b0) = true)),
  ((bif !b0 then true else decide (v.1 > 5)) = false),
  ((0 : Nat) < 1),
  Con Try.prog 59 0 [] [.agg [.p (.int .i64 v.1), .p (.seq true 2 v.2.1.1 (fun i => [.int .i64 ((v.2.1.2 i).1), .int .i64 ((v.2.1.2 i).2.1)]))]] [(0, ⟨false, 2, v.2.1.1, (fun i => [.p (.int .i64 ((b i).1)), .p (.int .i64 ((b i).2.1))])⟩)] (.agg [.p (.int .i64 v.1), .ar 2 0 0 v.2.1.1]),
  ((0 : Nat) < 1),
  ((true = true) → (AN 1)),
  ((0 : Nat) < 1),
  Con Try.prog 74 0 [] [.p (.int .i64 v.1)] [(0, ⟨false, 1, m, (fun i => [.p (.seq false 1 ((C i).1) (fun i_1 => [.int .i64 ((C i).2 i_1)]))])⟩)] (.ar 1 0 0 m),
  (AI v.1),
  (AN v.2.1.1),
  (AP v.2.1.1 (fun i => [.int .i64 ((v.2.1.2 i).1), .int .i64 ((v.2.1.2 i).2.1)])),
  (AN 0),
  (AN 0),
  (false = false),
  (AN 0),
  (AN 0),
  (AN m),
  ((0 : Int) = (↑0 : Int)),
  ((([AV.p (PV.int IntKind.i64 v.1), graphL v.2.1].length) : Nat) = 2),
  ((1 : Nat) ≤ 1),
  ((1 : Nat) ≤ 1),
  (AI v.1),
  (AN v.2.1.1),
  (AP v.2.1.1 (fun i => [.int .i64 ((v.2.1.2 i).1), .int .i64 ((v.2.1.2 i).2.1)])),
  ((((List.map (fun v => AV.p (absV v)) [Value.int IntKind.i64 0, Value.slice none 0 0]).length) : Nat) = 2),
  ((1 : Nat) ≤ 1),
  ((1 : Nat) ≤ 1),
  (AI 0),
  ((((List.map (fun v => AV.p (absV v)) [Value.int IntKind.i64 0, Value.slice none 0 0]).length) : Nat) = 2),
  ((1 : Nat) ≤ 1),
  ((1 : Nat) ≤ 1),
  (AI v.1),
  (AN 0),
  (AN v.2.1.1),
  (AN 1),
  ((m : Nat) ≤ m),
  (AA m (fun i => [.p (.seq false 1 ((C i).1) (fun i_1 => [.int .i64 ((C i).2 i_1)]))])),
  (AN 2),
  ((v.2.1.1 : Nat) ≤ v.2.1.1),
  (AA v.2.1.1 (fun i => [.p (.int .i64 ((b i).1)), .p (.int .i64 ((b i).2.1))]))]) := by kernel_rfl
theorem cSa (v : T_Graph) (i m : Nat) (C : Nat → NL) (b h : Nat → T_Bar) :
    pieceOb Try.prog 0 [.reg [oT, oT, oT, oT], .dec true, .reg [oT, oT, oT, oT, oT, ⟨true, (some ⟨[], [], [], 1, [(0, brOb v.2.1.1 h)], .tup [.agg [.p (.int .i64 v.1), .ar 2 0 0 v.2.1.1], .p (.bool true)]⟩), none⟩, oT, oT, oT, oT, oT, oT], .reg [oT, oT, ⟨true, (some ⟨[], [], [], 1, [], .p (.bool true)⟩), none⟩], .dec true, .reg [oT, oT], .reg [oT, oT, oT], .head] [.code (cAt (bodyOf Try.f32) [1, 1, 1, 1, 0, 1, 0, 0]), .inLoop (cAt (bodyOf Try.f32) [1, 1, 1, 1, 0, 1, 0, 0]), .inBlock 0, .code (cAt (bodyOf Try.f32) [1, 1, 1, 1, 1])] (SKc v i m C b) [0, 1, 2, 3, 293] 1 (SKc v (i + 1) m C h) =
    some ([.code (cAt (bodyOf Try.f32) [1, 1, 1, 1, 0, 1, 0, 0]), .inLoop (cAt (bodyOf Try.f32) [1, 1, 1, 1, 0, 1, 0, 0]), .inBlock 0, .code (cAt (bodyOf Try.f32) [1, 1, 1, 1, 1])], [((decide ((↑i : Int) < (↑m : Int))) = true),
  ((0 : Nat) < 1),
  ((0 : Int) ≤ (↑i : Int)),
  (((↑i : Int) : Int) < (↑m : Int)),
  ((i : Nat) < m),
  Con Try.prog 75 0 [] [.agg [.p (.int .i64 v.1), .p (.seq true 2 v.2.1.1 (fun i_1 => [.int .i64 ((v.2.1.2 i_1).1), .int .i64 ((v.2.1.2 i_1).2.1)]))], .p (.seq true 1 ((C i).1) (fun i_1 => [.int .i64 ((C i).2 i_1)]))] [(0, ⟨false, 2, v.2.1.1, (fun i_1 => [.p (.int .i64 ((h i_1).1)), .p (.int .i64 ((h i_1).2.1))])⟩)] (.tup [.agg [.p (.int .i64 v.1), .ar 2 0 0 v.2.1.1], .p (.bool true)]),
  ((0 : Nat) < 1),
  ((true = true) → (AN 1)),
  ((0 : Nat) < 1),
  ((0 : Nat) < 1),
  (AN 2),
  ((v.2.1.1 : Nat) ≤ v.2.1.1),
  (AN 2),
  ((v.2.1.1 : Nat) ≤ v.2.1.1),
  Con Try.prog 76 0 [] [.agg [.p (.int .i64 v.1), .p (.seq true 2 v.2.1.1 (fun i_1 => [.int .i64 ((h i_1).1), .int .i64 ((h i_1).2.1)]))], .agg [.p (.int .i64 v.1), .p (.seq true 2 v.2.1.1 (fun i_1 => [.int .i64 ((b i_1).1), .int .i64 ((b i_1).2.1)]))]] [] (.p (.bool true)),
  (true = true),
  ((0 : Nat) < 1),
  ((0 : Nat) < 1),
  ((true = true) → (AN 1)),
  (((-9223372036854775808) : Int) ≤ ((↑i : Int) + 1)),
  ((((↑i : Int) + 1) : Int) ≤ 9223372036854775807),
  (AI v.1),
  (AN v.2.1.1),
  (AP v.2.1.1 (fun i_1 => [.int .i64 ((v.2.1.2 i_1).1), .int .i64 ((v.2.1.2 i_1).2.1)])),
  (AN 0),
  (AN 0),
  (false = false),
  (AN 0),
  (AN 0),
  (AN m),
  ((((↑i : Int) + 1) : Int) = (↑(i + 1) : Int)),
  (AN 2),
  ((1 : Nat) ≤ 1),
  ((1 : Nat) ≤ 1),
  (AI v.1),
  (AN v.2.1.1),
  (AP v.2.1.1 (fun i_1 => [.int .i64 ((v.2.1.2 i_1).1), .int .i64 ((v.2.1.2 i_1).2.1)])),
  (AN 2),
  ((1 : Nat) ≤ 1),
  ((1 : Nat) ≤ 1),
  (AI 0),
  (AN 2),
  ((1 : Nat) ≤ 1),
  ((1 : Nat) ≤ 1),
  (AI v.1),
  (AN 0),
  (AN v.2.1.1),
  (AN 1),
  ((m : Nat) ≤ m),
  (AA m (fun i_1 => [.p (.seq false 1 ((C i_1).1) (fun i_2 => [.int .i64 ((C i_1).2 i_2)]))])),
  (AN 2),
  ((v.2.1.1 : Nat) ≤ v.2.1.1),
  (AA v.2.1.1 (fun i_1 => [.p (.int .i64 ((h i_1).1)), .p (.int .i64 ((h i_1).2.1))]))]) := by kernel_rfl
theorem cSb (v : T_Graph) (i m : Nat) (C : Nat → NL) (b h : Nat → T_Bar) :
    pieceOb Try.prog 0 [.reg [oT, oT, oT, oT], .dec true, .reg [oT, oT, oT, oT, oT, ⟨true, (some ⟨[], [], [], 1, [(0, brOb v.2.1.1 h)], .tup [.agg [.p (.int .i64 v.1), .ar 2 0 0 v.2.1.1], .p (.bool true)]⟩), none⟩, oT, oT, oT, oT, oT, oT], .reg [oT, oT, ⟨true, (some ⟨[], [], [], 1, [], .p (.bool false)⟩), none⟩], .dec false, .reg [oT, oT, oT], .head] [.code (cAt (bodyOf Try.f32) [1, 1, 1, 1, 0, 1, 0, 0]), .inLoop (cAt (bodyOf Try.f32) [1, 1, 1, 1, 0, 1, 0, 0]), .inBlock 0, .code (cAt (bodyOf Try.f32) [1, 1, 1, 1, 1])] (SKc v i m C b) [0, 1, 2, 3, 4] 1 (SKc v (i + 1) m C b) =
    some ([.code (cAt (bodyOf Try.f32) [1, 1, 1, 1, 0, 1, 0, 0]), .inLoop (cAt (bodyOf Try.f32) [1, 1, 1, 1, 0, 1, 0, 0]), .inBlock 0, .code (cAt (bodyOf Try.f32) [1, 1, 1, 1, 1])], [((decide ((↑i : Int) < (↑m : Int))) = true),
  ((0 : Nat) < 1),
  ((0 : Int) ≤ (↑i : Int)),
  (((↑i : Int) : Int) < (↑m : Int)),
  ((i : Nat) < m),
  Con Try.prog 75 0 [] [.agg [.p (.int .i64 v.1), .p (.seq true 2 v.2.1.1 (fun i_1 => [.int .i64 ((v.2.1.2 i_1).1), .int .i64 ((v.2.1.2 i_1).2.1)]))], .p (.seq true 1 ((C i).1) (fun i_1 => [.int .i64 ((C i).2 i_1)]))] [(0, ⟨false, 2, v.2.1.1, (fun i_1 => [.p (.int .i64 ((h i_1).1)), .p (.int .i64 ((h i_1).2.1))])⟩)] (.tup [.agg [.p (.int .i64 v.1), .ar 2 0 0 v.2.1.1], .p (.bool true)]),
  ((0 : Nat) < 1),
  ((true = true) → (AN 1)),
  ((0 : Nat) < 1),
  ((0 : Nat) < 1),
  (AN 2),
  ((v.2.1.1 : Nat) ≤ v.2.1.1),
  (AN 2),
  ((v.2.1.1 : Nat) ≤ v.2.1.1),
  Con Try.prog 76 0 [] [.agg [.p (.int .i64 v.1), .p (.seq true 2 v.2.1.1 (fun i_1 => [.int .i64 ((h i_1).1), .int .i64 ((h i_1).2.1)]))], .agg [.p (.int .i64 v.1), .p (.seq true 2 v.2.1.1 (fun i_1 => [.int .i64 ((b i_1).1), .int .i64 ((b i_1).2.1)]))]] [] (.p (.bool false)),
  (false = false),
  (((-9223372036854775808) : Int) ≤ ((↑i : Int) + 1)),
  ((((↑i : Int) + 1) : Int) ≤ 9223372036854775807),
  (AI v.1),
  (AN v.2.1.1),
  (AP v.2.1.1 (fun i_1 => [.int .i64 ((v.2.1.2 i_1).1), .int .i64 ((v.2.1.2 i_1).2.1)])),
  (AN 0),
  (AN 0),
  (false = false),
  (AN 0),
  (AN 0),
  (AN m),
  ((((↑i : Int) + 1) : Int) = (↑(i + 1) : Int)),
  (AN 2),
  ((1 : Nat) ≤ 1),
  ((1 : Nat) ≤ 1),
  (AI v.1),
  (AN v.2.1.1),
  (AP v.2.1.1 (fun i_1 => [.int .i64 ((v.2.1.2 i_1).1), .int .i64 ((v.2.1.2 i_1).2.1)])),
  (AN 2),
  ((1 : Nat) ≤ 1),
  ((1 : Nat) ≤ 1),
  (AI 0),
  (AN 2),
  ((1 : Nat) ≤ 1),
  ((1 : Nat) ≤ 1),
  (AI v.1),
  (AN 0),
  (AN v.2.1.1),
  (AN 1),
  ((m : Nat) ≤ m),
  (AA m (fun i_1 => [.p (.seq false 1 ((C i_1).1) (fun i_2 => [.int .i64 ((C i_1).2 i_2)]))])),
  (AN 2),
  ((v.2.1.1 : Nat) ≤ v.2.1.1),
  (AA v.2.1.1 (fun i_1 => [.p (.int .i64 ((b i_1).1)), .p (.int .i64 ((b i_1).2.1))]))]) := by kernel_rfl
theorem cSe (v : T_Graph) (i m : Nat) (C : Nat → NL) (b : Nat → T_Bar) :
    pathOb Try.prog Try.f32 0 [.reg [oT, oT, oT, oT], .dec false, .reg [oT, oT, oT]] [.code (cAt (bodyOf Try.f32) [1, 1, 1, 1, 0, 1, 0, 0]), .inLoop (cAt (bodyOf Try.f32) [1, 1, 1, 1, 0, 1, 0, 0]), .inBlock 0, .code (cAt (bodyOf Try.f32) [1, 1, 1, 1, 1])] (SKc v i m C b) [4] 1 [(0, brOb v.2.1.1 b)] (.tup [.agg [.p (.int .i64 v.1), .ar 2 0 0 v.2.1.1], .p (.bool true)]) =
    some [((decide ((↑i : Int) < (↑m : Int))) = false),
  ((0 : Nat) < 1),
  ((0 : Nat) < 1),
  ((true = true) → (AN 1)),
  ((0 : Nat) < 1),
  (AI v.1),
  (AN 0),
  (AN v.2.1.1),
  (true = true),
  (AN 2),
  ((v.2.1.1 : Nat) ≤ v.2.1.1),
  (AA v.2.1.1 (fun i_1 => [.p (.int .i64 ((b i_1).1)), .p (.int .i64 ((b i_1).2.1))])),
  (AE v.2.1.1)] := by kernel_rfl
end Go.Proofs.Ytgdbnnmogddkaaa.Mach
namespace Go.Proofs.Ytgdbnnmogddkaaa.Mach
open Go Go.Sort
set_option linter.unusedVariables false
set_option linter.unusedSimpArgs false
def bfD (h b : Nat → T_Bar) : Nat → Nat → Bool
  | 0, _ => false
  | d + 1, i => if nqB (h i) (b i) = true then aft (h i) (b i) else bfD h b d (i + 1)
def cmD (h b : Nat → T_Bar) : Nat → Nat → Int
  | 0, _ => 0
  | d + 1, i => if cmpB (h i) (b i) = 0 then cmD h b d (i + 1) else cmpB (h i) (b i)
theorem cmp_nq (x y : T_Bar) : (nqB x y = true ↔ cmpB x y ≠ 0) ∧ (nqB x y = true → (decide (cmpB x y < 0) = aft x y)) := by
  unfold nqB cmpB cmpI aft
  by_cases h1 : x.1 = y.1
  · have e1 : (x.1 == y.1) = true := beq_iff_eq.2 h1
    by_cases h2 : x.2.1 = y.2.1
    · simp [h1, h2]
    · have e2 : (x.2.1 == y.2.1) = false := beq_eq_false_iff_ne.2 h2
      rcases Int.lt_or_gt_of_ne h2 with h3 | h3
      · simp [h1, e2, h3, show x.2.1 ≤ y.2.1 by omega]
      · simp [h1, e2, h3, show ¬ x.2.1 < y.2.1 by omega, show ¬ x.2.1 ≤ y.2.1 by omega]
  · have e1 : (x.1 == y.1) = false := beq_eq_false_iff_ne.2 h1
    rcases Int.lt_or_gt_of_ne h1 with h3 | h3
    · simp [e1, h3]
    · simp [e1, h3, show ¬ x.1 < y.1 by omega]
theorem cm_bf (h b : Nat → T_Bar) : ∀ d i, decide (cmD h b d i < 0) = bfD h b d i
  | 0, i => by simp [cmD, bfD]
  | d + 1, i => by
    obtain ⟨h1, h2⟩ := cmp_nq (h i) (b i)
    have e1 : cmD h b (d + 1) i = if cmpB (h i) (b i) = 0 then cmD h b d (i + 1) else cmpB (h i) (b i) := rfl
    have e2 : bfD h b (d + 1) i = if nqB (h i) (b i) = true then aft (h i) (b i) else bfD h b d (i + 1) := rfl
    by_cases e : cmpB (h i) (b i) = 0
    · rw [if_pos e] at e1
      rw [if_neg (fun h => h1.1 h e)] at e2
      rw [e1, e2]
      exact cm_bf h b d (i + 1)
    · rw [if_neg e] at e1
      rw [if_pos (h1.2 e)] at e2
      rw [e1, e2]
      exact h2 (h1.2 e)
theorem con_CmpF (n : Nat) (h b : Nat → T_Bar) (hn : n ≤ 1048576) : Con Try.prog 81 0 [] [brLs h n, brLs b n, .p (.fn 82)] [] (.p (.int .i64 (cmD h b n 0))) := by
  refine con_start Try.func81 rfl (by kernel_rfl) rfl (fun c hc => ?_)
  have lo : ∀ d k, k + d = n → Run Try.prog c 81 [.code (cAt (bodyOf Try.f81) [1, 0, 1, 0, 0]), .inLoop (cAt (bodyOf Try.f81) [1, 0, 1, 0, 0]), .inBlock 0, .code (cAt (bodyOf Try.f81) [1, 1])] (SKf n h b k) (Post c [] (.p (.int .i64 (cmD h b d k)))) := by
    intro d
    induction d with
    | zero =>
      intro k hk
      obtain rfl : k = n := by omega
      have hd : decide ((k : Int) < (k : Int)) = false := by simp
      refine path_ok mixed Try.func81 hc (cFe k h b k) ?_
      simp only [All]
      repeat' (first | exact trivial | with_reducible apply And.intro)
      all_goals (first | exact aG _ | exact aP _ _ | exact aA _ _ | exact aE _ | omega | rfl | (intros; first | assumption | exact True.intro | rfl | exact absurd (show false = true by assumption) Bool.false_ne_true | ((repeat' (first | assumption | apply anda | apply notf)); done)) | (exact hd))
    | succ d ih =>
      intro k hk
      have hrec := ih (k + 1) (by omega)
      have hd : decide ((k : Int) < (n : Int)) = true := decide_eq_true (by omega)
      have hd2 : decide ((k : Int) ≥ (n : Int)) = false := decide_eq_false (by omega)
      have cc := con_compareBars (h k) (b k)
      simp only [cmD]
      by_cases e : cmpB (h k) (b k) = 0
      · rw [if_pos e]
        have hq : (cmpB (h k) (b k) != 0) = false := by simp [e]
        refine piece_ok mixed hc (cFa n h b k (cmpB (h k) (b k))) ?_ hrec
        simp only [All]
        repeat' (first | exact trivial | with_reducible apply And.intro)
        all_goals (first | exact aG _ | exact aP _ _ | exact aA _ _ | exact aE _ | omega | rfl | (intros; first | assumption | exact True.intro | rfl | exact absurd (show false = true by assumption) Bool.false_ne_true | ((repeat' (first | assumption | apply anda | apply notf)); done)) | (exact hd) | (exact hd2) | (exact cc) | (exact hq) | (intro t ht; simp [All]))
      · rw [if_neg e]
        have hq : (cmpB (h k) (b k) != 0) = true := by simp [e]
        refine path_ok mixed Try.func81 hc (cFb n h b k (cmpB (h k) (b k))) ?_
        simp only [All]
        repeat' (first | exact trivial | with_reducible apply And.intro)
        all_goals (first | exact aG _ | exact aP _ _ | exact aA _ _ | exact aE _ | omega | rfl | (intros; first | assumption | exact True.intro | rfl | exact absurd (show false = true by assumption) Bool.false_ne_true | ((repeat' (first | assumption | apply anda | apply notf)); done)) | (exact hd) | (exact hd2) | (exact cc) | (exact hq))
  refine piece_ok mixed hc (cFz n h b) ?_ (lo n 0 (by omega))
  simp only [All]
  repeat' (first | exact trivial | with_reducible apply And.intro)
  all_goals (first | exact aG _ | exact aP _ _ | exact aA _ _ | exact aE _ | omega | rfl | (intros; first | assumption | exact True.intro | rfl | exact absurd (show false = true by assumption) Bool.false_ne_true | ((repeat' (first | assumption | apply anda | apply notf)); done)) | (intro t ht; simp [All]))
theorem con_Before (v u : T_Graph) (he : v.2.1.1 = u.2.1.1) (hn : u.2.1.1 ≤ 1048576) : Con Try.prog 76 0 [] [graphA v, graphA u] [] (.p (.bool (bfD v.2.1.2 u.2.1.2 u.2.1.1 0))) := by
  refine con_start Try.func76 rfl (by kernel_rfl) rfl (fun c hc => ?_)
  have lo : ∀ d k, k + d = u.2.1.1 → Run Try.prog c 76 [.code (cAt (bodyOf Try.f76) [1, 0, 1, 0, 0]), .inLoop (cAt (bodyOf Try.f76) [1, 0, 1, 0, 0]), .inBlock 0, .code (cAt (bodyOf Try.f76) [1, 1])] (SKb v u k) (Post c [] (.p (.bool (bfD v.2.1.2 u.2.1.2 d k)))) := by
    intro d
    induction d with
    | zero =>
      intro k hk
      have hd : (bif decide ((k : Int) < (v.2.1.1 : Int)) then decide ((k : Int) < (u.2.1.1 : Int)) else false) = false := by
        rw [decide_eq_false (show ¬ (k : Int) < (v.2.1.1 : Int) by omega)]; rfl
      refine path_ok mixed Try.func76 hc (cBe v u k) ?_
      simp only [All]
      repeat' (first | exact trivial | with_reducible apply And.intro)
      all_goals (first | exact aG _ | exact aP _ _ | exact aA _ _ | exact aE _ | omega | rfl | (intros; first | assumption | exact True.intro | rfl | exact absurd (show false = true by assumption) Bool.false_ne_true | ((repeat' (first | assumption | apply anda | apply notf)); done)) | (exact hd) | (simp; omega))
    | succ d ih =>
      intro k hk
      have hrec := ih (k + 1) (by omega)
      have hd : (bif decide ((k : Int) < (v.2.1.1 : Int)) then decide ((k : Int) < (u.2.1.1 : Int)) else false) = true := by
        rw [decide_eq_true (show (k : Int) < (v.2.1.1 : Int) by omega), decide_eq_true (show (k : Int) < (u.2.1.1 : Int) by omega)]; rfl
      have cc := con_l2After (v.2.1.2 k) (u.2.1.2 k)
      simp only [bfD]
      by_cases e : nqB (v.2.1.2 k) (u.2.1.2 k) = true
      · rw [if_pos e]
        refine path_ok mixed Try.func76 hc (cBb v u k (aft (v.2.1.2 k) (u.2.1.2 k))) ?_
        simp only [All]
        repeat' (first | exact trivial | with_reducible apply And.intro)
        all_goals (first | exact aG _ | exact aP _ _ | exact aA _ _ | exact aE _ | omega | rfl | (intros; first | assumption | exact True.intro | rfl | exact absurd (show false = true by assumption) Bool.false_ne_true | ((repeat' (first | assumption | apply anda | apply notf)); done)) | (exact hd) | (exact e) | (exact cc))
      · rw [if_neg e]
        have e' : nqB (v.2.1.2 k) (u.2.1.2 k) = false := by simpa using e
        refine piece_ok mixed hc (cBa v u k) ?_ hrec
        simp only [All]
        repeat' (first | exact trivial | with_reducible apply And.intro)
        all_goals (first | exact aG _ | exact aP _ _ | exact aA _ _ | exact aE _ | omega | rfl | (intros; first | assumption | exact True.intro | rfl | exact absurd (show false = true by assumption) Bool.false_ne_true | ((repeat' (first | assumption | apply anda | apply notf)); done)) | (exact hd) | (exact e') | (intro t ht; simp [All]))
  refine piece_ok mixed hc (cBz v u) ?_ (lo u.2.1.1 0 (by omega))
  simp only [All]
  repeat' (first | exact trivial | with_reducible apply And.intro)
  all_goals (first | exact aG _ | exact aP _ _ | exact aA _ _ | exact aE _ | omega | rfl | (intros; first | assumption | exact True.intro | rfl | exact absurd (show false = true by assumption) Bool.false_ne_true | ((repeat' (first | assumption | apply anda | apply notf)); done)) | (intro t ht; simp [All]))
def foldK {α : Type} (f : Nat → α → α) : Nat → α → α
  | 0, a => a
  | n + 1, a => f n (foldK f n a)
theorem foldK_congr {α : Type} {f g : Nat → α → α} : ∀ n a, (∀ i, i < n → ∀ b, f i b = g i b) → foldK f n a = foldK g n a
  | 0, _, _ => rfl
  | n + 1, a, h => by simp only [foldK]; rw [foldK_congr n a (fun i hi b => h i (by omega) b), h n (by omega)]
def upB (v : T_Graph) (s : Nat → Int) (b : Nat → T_Bar) : Nat → T_Bar :=
  if bfD (srtB v.2.1.1 (rnD v.2.1.2 s)) b v.2.1.1 0 = true then srtB v.2.1.1 (rnD v.2.1.2 s) else b
def dfs (v : T_Graph) : Nat → NL → (Nat → T_Bar) → (Nat → T_Bar)
  | 0 => fun r b => upB v r.2 b
  | d + 1 => fun r b => foldK (fun k b => if hasI r.2 k r.1 = true then b else dfs v d (snL r k) b) v.1.toNat b
abbrev LL := Nat × (Nat → NL)
def snR (q : Nat) (D : Nat → NL) (x : NL) (s : Nat) : NL := if s < q then D s else x
def exI (r : NL) (a : LL) : Nat → LL
  | 0 => a
  | x + 1 => if hasI r.2 x r.1 = true then exI r a x else ((exI r a x).1 + 1, snR (exI r a x).1 (exI r a x).2 (snL r x))
def exK (N : Nat) (O : LL) : Nat → LL
  | 0 => (0, fun _ => zNL)
  | k + 1 => exI (O.2 k) (exK N O k) N
def orD (N : Nat) : Nat → LL
  | 0 => (1, fun _ => zNL)
  | i + 1 => exK N (orD N i) (orD N i).1
def foldL {α : Type} (f : NL → α → α) (L : LL) (a : α) : α := foldK (fun i a => f (L.2 i) a) L.1 a
theorem foldL_sn {α : Type} (f : NL → α → α) (L : LL) (x : NL) (a : α) : foldL f (L.1 + 1, snR L.1 L.2 x) a = f x (foldL f L a) := by
  unfold foldL
  show f (snR L.1 L.2 x L.1) (foldK _ L.1 a) = _
  rw [show snR L.1 L.2 x L.1 = x by simp [snR]]
  congr 1
  exact foldK_congr L.1 a (fun i hi b => by simp [snR, hi])
theorem foldL_exI {α : Type} (f : NL → α → α) (r : NL) (L : LL) (a : α) : ∀ x, foldL f (exI r L x) a = foldK (fun k b => if hasI r.2 k r.1 = true then b else f (snL r k) b) x (foldL f L a)
  | 0 => rfl
  | x + 1 => by
    have ih := foldL_exI f r L a x
    simp only [exI, foldK]
    split
    · exact ih
    · rw [foldL_sn, ih]
theorem foldL_exK (v : T_Graph) (d : Nat) (O : LL) (a : Nat → T_Bar) : ∀ k, foldL (dfs v d) (exK v.1.toNat O k) a = foldK (fun i b => dfs v (d + 1) (O.2 i) b) k a
  | 0 => rfl
  | k + 1 => by
    have ih := foldL_exK v d O a k
    simp only [exK, foldK]
    rw [foldL_exI, ih]
    rfl
theorem orders_dfs (v : T_Graph) (a : Nat → T_Bar) : ∀ i d, foldL (dfs v d) (orD v.1.toNat i) a = dfs v (i + d) zNL a
  | 0, d => by rw [Nat.zero_add]; rfl
  | i + 1, d => by
    rw [orD, foldL_exK]
    have := orders_dfs v a i (d + 1)
    unfold foldL at this
    rw [this, show i + (d + 1) = i + 1 + d by omega]
theorem exI_n (r : NL) (a : LL) : ∀ x, (exI r a x).1 ≤ a.1 + x
  | 0 => Nat.le_refl _
  | x + 1 => by
    have := exI_n r a x
    simp only [exI]
    split
    · omega
    · show (exI r a x).1 + 1 ≤ _; omega
theorem exK_n (N : Nat) (O : LL) : ∀ k, (exK N O k).1 ≤ k * N
  | 0 => Nat.zero_le _
  | k + 1 => by
    have := exK_n N O k
    have := exI_n (O.2 k) (exK N O k) N
    simp only [exK]
    rw [Nat.add_mul]; omega
theorem orD_n (N : Nat) (hN : N ≤ 5) : ∀ i, (orD N i).1 ≤ 5 ^ i
  | 0 => Nat.le_refl _
  | i + 1 => by
    have h1 := orD_n N hN i
    have h2 := exK_n N (orD N i) (orD N i).1
    have h3 := Nat.mul_le_mul h1 hN
    rw [Nat.pow_succ]
    exact Nat.le_trans h2 h3
theorem exI_all (P : NL → Prop) (r : NL) (a : LL) (n : Nat) (ha : ∀ i, i < a.1 → P (a.2 i)) (hr : ∀ x : Nat, x < n → hasI r.2 x r.1 = false → P (snL r x)) : ∀ x, x ≤ n → ∀ i, i < (exI r a x).1 → P ((exI r a x).2 i)
  | 0, _ => ha
  | x + 1, hx => by
    have ih := exI_all P r a n ha hr x (by omega)
    simp only [exI]
    split
    · exact ih
    · rename_i h
      intro i hi
      show P (snR _ _ _ i)
      unfold snR
      split
      · rename_i h'; exact ih i h'
      · exact hr x (by omega) (by simpa using h)
theorem exK_all (P Q : NL → Prop) (N : Nat) (O : LL) (hO : ∀ i, i < O.1 → Q (O.2 i)) (hr : ∀ r, Q r → ∀ x : Nat, x < N → hasI r.2 x r.1 = false → P (snL r x)) : ∀ k, k ≤ O.1 → ∀ i, i < (exK N O k).1 → P ((exK N O k).2 i)
  | 0, _ => fun i hi => absurd hi (Nat.not_lt_zero _)
  | k + 1, hk => exI_all P (O.2 k) (exK N O k) N (exK_all P Q N O hO hr k (by omega)) (fun x hx hh => hr _ (hO k (by omega)) x hx hh) N (Nat.le_refl _)
theorem hasI_congrJ (f g : Nat → Int) (x : Int) : ∀ n, (∀ i, i < n → f i = g i) → hasI f x n = hasI g x n
  | 0, _ => rfl
  | n + 1, h => by simp only [hasI]; rw [hasI_congrJ f g x n (fun i hi => h i (by omega)), h n (by omega)]
theorem okD_congrJ (N : Int) (f g : Nat → Int) : ∀ n, (∀ i, i < n → f i = g i) → okD N f n = okD N g n
  | 0, _ => rfl
  | n + 1, h => by
    simp only [okD, difN]
    rw [okD_congrJ N f g n (fun i hi => h i (by omega)), h n (by omega), hasI_congrJ f g (g n) n (fun i hi => h i (by omega))]
def okNL (v : T_Graph) (i : Nat) (r : NL) : Prop := r.1 = i ∧ okD v.1 r.2 i = true
theorem okNL_sn {v : T_Graph} {i : Nat} {r : NL} (h : okNL v i r) {x : Nat} (hx : x < v.1.toNat) (hh : hasI r.2 x r.1 = false) : okNL v (i + 1) (snL r x) := by
  obtain ⟨rfl, h2⟩ := h
  refine ⟨rfl, ?_⟩
  have e1 : ∀ j, j < r.1 → (snL r x).2 j = r.2 j := fun j hj => by show (if j < r.1 then _ else _) = _; rw [if_pos hj]
  have e2 : (snL r x).2 r.1 = x := by show (if r.1 < r.1 then _ else _) = _; rw [if_neg (Nat.lt_irrefl _)]
  simp only [okD, difN]
  rw [okD_congrJ v.1 (snL r x).2 r.2 r.1 e1, h2, e2, hasI_congrJ (snL r x).2 r.2 x r.1 e1, hh]
  have : inB (x : Int) 0 (v.1 - 1) = true := by simp [inB]; omega
  rw [this]; rfl
theorem orD_ok (v : T_Graph) : ∀ i, ∀ j, j < (orD v.1.toNat i).1 → okNL v i ((orD v.1.toNat i).2 j)
  | 0 => fun j hj => ⟨rfl, rfl⟩
  | i + 1 => exK_all (okNL v (i + 1)) (okNL v i) v.1.toNat (orD v.1.toNat i) (orD_ok v i) (fun r hr x hx hh => okNL_sn hr hx hh) _ (Nat.le_refl _)
theorem rn_ok {v : T_Graph} (hg : isGraphF v = true) {r : NL} (h : okNL v v.1.toNat r) : rnB v r = true ∧ rnG v r = (v.1, (v.2.1.1, srtB v.2.1.1 (rnD v.2.1.2 r.2)), ()) := by
  obtain ⟨h1, h2⟩ := h
  have := graph_inR hg
  have hb : rnB v r = true := by
    simp only [rnB, Bool.and_eq_true, beq_iff_eq]
    refine ⟨hg, ?_, ?_⟩
    · show (r.1 : Int) = v.1; rw [h1]; omega
    · show okD v.1 r.2 r.1 = true; rw [h1]; exact h2
  exact ⟨hb, by simp [rnG, hb]⟩
theorem con_try (v : T_Graph) (hg : isGraphF v = true) : ∀ (d : Nat) (r : NL) (b : Nat → T_Bar), okNL v r.1 r → r.1 + d = v.1.toNat →
    Con Try.prog 79 4 [(0, cgO v), (1, cbO v.1 3 v.2.1.1), (2, ctO 0 1 2), (3, brOb v.2.1.1 b)] [rlL r, .pt 2 0 0 0, .pt 2 1 0 0, .pt 1 2 0 0]
      [(0, cgO v), (1, cbO v.1 4 v.2.1.1), (2, ctO 0 1 2), (4, brOb v.2.1.1 (dfs v d r b))] (.tup [])
  | 0, r, b, hok, hd => by
    have gi := graph_inR hg
    have hok' : okNL v v.1.toNat r := by
      have : r.1 = v.1.toNat := by omega
      rw [← this]; exact hok
    obtain ⟨e1, e2⟩ := rn_ok hg hok'
    have c1 := con_Rename_i v (sm_graph (by omega)) r (by omega)
    rw [e1, e2] at c1
    have c2 := con_CmpF v.2.1.1 (srtB v.2.1.1 (rnD v.2.1.2 r.2)) b (by omega)
    have hlen : ((r.1 : Int) == v.1) = true := beq_iff_eq.2 (by omega)
    have hcb := cm_bf (srtB v.2.1.1 (rnD v.2.1.2 r.2)) b v.2.1.1 0
    show Con _ _ _ _ _ [_, _, _, (4, brOb v.2.1.1 (upB v r.2 b))] _
    unfold upB
    generalize srtB v.2.1.1 (rnD v.2.1.2 r.2) = h at *
    refine con_start Try.func79 rfl (by kernel_rfl) rfl (fun c hc => ?_)
    by_cases hb : bfD h b v.2.1.1 0 = true
    · rw [if_pos hb]
      rw [hb] at hcb
      refine path_ok mixed Try.func79 hc (cTa v r b h (cmD h b v.2.1.1 0)) ?_
      simp only [All]
      repeat' (first | exact trivial | with_reducible apply And.intro)
      all_goals (first | exact aG _ | exact aP _ _ | exact aA _ _ | exact aE _ | omega | rfl | (intros; first | assumption | exact True.intro | rfl | exact absurd (show false = true by assumption) Bool.false_ne_true | ((repeat' (first | assumption | apply anda | apply notf)); done)) | (exact hlen) | (exact c1) | (exact c2) | (exact hcb) | (intros; simp [All, ntAL, ntA, ntP, ntL] <;> exact aE _))
    · rw [if_neg hb]
      rw [show bfD h b v.2.1.1 0 = false by simpa using hb] at hcb
      refine path_ok mixed Try.func79 hc (cTb v r b h (cmD h b v.2.1.1 0)) ?_
      simp only [All]
      repeat' (first | exact trivial | with_reducible apply And.intro)
      all_goals (first | exact aG _ | exact aP _ _ | exact aA _ _ | exact aE _ | omega | rfl | (intros; first | assumption | exact True.intro | rfl | exact absurd (show false = true by assumption) Bool.false_ne_true | ((repeat' (first | assumption | apply anda | apply notf)); done)) | (exact hlen) | (exact c1) | (exact c2) | (exact hcb) | (intros; simp [All, ntAL, ntA, ntP, ntL] <;> exact aE _))
  | d + 1, r, b, hok, hd => by
    have ih := con_try v hg d
    have gi := graph_inR hg
    have hlen : ((r.1 : Int) == v.1) = false := beq_eq_false_iff_ne.2 (by omega)
    refine con_start Try.func79 rfl (by kernel_rfl) rfl (fun c hc => ?_)
    have hR : foldK (fun k b => if hasI r.2 k r.1 = true then b else dfs v d (snL r k) b) v.1.toNat b = dfs v (d + 1) r b := rfl
    generalize dfs v (d + 1) r b = R at hR ⊢
    have lo : ∀ m k, k + m = v.1.toNat → Run Try.prog c 79 [.code (cAt (bodyOf Try.f79) [1, 1, 0, 0]), .inLoop (cAt (bodyOf Try.f79) [1, 1, 0, 0]), .inBlock 0] (SKt v r k 4 (foldK (fun k b => if hasI r.2 k r.1 = true then b else dfs v d (snL r k) b) k b)) (Post c [(0, cgO v), (1, cbO v.1 4 v.2.1.1), (2, ctO 0 1 2), (4, brOb v.2.1.1 R)] (.tup [])) := by
      intro m
      induction m with
      | zero =>
        intro k hk
        obtain rfl : k = v.1.toNat := by omega
        have hd0 : decide (((v.1.toNat : Nat) : Int) < v.1) = false := decide_eq_false (by omega)
        rw [hR]
        refine path_ok mixed Try.func79 hc (cTe v r v.1.toNat R) ?_
        simp only [All]
        repeat' (first | exact trivial | with_reducible apply And.intro)
        all_goals (first | exact aG _ | exact aP _ _ | exact aA _ _ | exact aE _ | omega | rfl | (intros; first | assumption | exact True.intro | rfl | exact absurd (show false = true by assumption) Bool.false_ne_true | ((repeat' (first | assumption | apply anda | apply notf)); done)) | (exact hd0) | (intros; simp [All, ntAL, ntA, ntP, ntL] <;> exact aE _))
      | succ m ihm =>
        intro k hk
        have hrec := ihm (k + 1) (by omega)
        have hd0 : decide ((k : Int) < v.1) = true := decide_eq_true (by omega)
        have ch := con_Contains r k (by omega)
        rw [show foldK (fun k b => if hasI r.2 k r.1 = true then b else dfs v d (snL r k) b) (k + 1) b = (if hasI r.2 k r.1 = true then foldK (fun k b => if hasI r.2 k r.1 = true then b else dfs v d (snL r k) b) k b else dfs v d (snL r k) (foldK (fun k b => if hasI r.2 k r.1 = true then b else dfs v d (snL r k) b) k b)) from rfl] at hrec
        generalize foldK (fun k b => if hasI r.2 k r.1 = true then b else dfs v d (snL r k) b) k b = B at hrec ⊢
        by_cases hh : hasI r.2 k r.1 = true
        · rw [if_pos hh] at hrec
          rw [hh] at ch
          refine piece_ok mixed hc (cTs v r k B) ?_ hrec
          simp only [All]
          repeat' (first | exact trivial | with_reducible apply And.intro)
          all_goals (first | exact aG _ | exact aP _ _ | exact aA _ _ | exact aE _ | omega | rfl | (intros; first | assumption | exact True.intro | rfl | exact absurd (show false = true by assumption) Bool.false_ne_true | ((repeat' (first | assumption | apply anda | apply notf)); done)) | (exact hd0) | (exact ch) | (intros; simp [All, ntAL, ntA, ntP, ntL] <;> exact aE _))
        · rw [if_neg hh] at hrec
          have hh' : hasI r.2 k r.1 = false := by simpa using hh
          rw [hh'] at ch
          have cc := con_copyInts r.1 r.2 (by omega)
          have ci := ih (snL r k) B (okNL_sn hok (by omega) hh') (by show r.1 + 1 + d = _; omega)
          refine piece_ok mixed hc (cTr v r k B (dfs v d (snL r k) B)) ?_ hrec
          simp only [All]
          repeat' (first | exact trivial | with_reducible apply And.intro)
          all_goals (first | exact aG _ | exact aP _ _ | exact aA _ _ | exact aE _ | omega | rfl | (intros; first | assumption | exact True.intro | rfl | exact absurd (show false = true by assumption) Bool.false_ne_true | ((repeat' (first | assumption | apply anda | apply notf)); done)) | (exact hd0) | (exact ch) | (exact cc) | (refine Con.arg_ext ci ?_; refine ⟨rfl, fun i hi => ?_, rfl, rfl, rfl, trivial⟩; by_cases h' : i < r.1 <;> simp [h', snL, snJ, cellP, tg, tru]) | (intros; simp [All, ntAL, ntA, ntP, ntL] <;> exact aE _))
    refine piece_ok mixed hc (cTz v r b) ?_ (lo v.1.toNat 0 (by omega))
    simp only [All]
    repeat' (first | exact trivial | with_reducible apply And.intro)
    all_goals (first | exact aG _ | exact aP _ _ | exact aA _ _ | exact aE _ | omega | rfl | (intros; first | assumption | exact True.intro | rfl | exact absurd (show false = true by assumption) Bool.false_ne_true | ((repeat' (first | assumption | apply anda | apply notf)); done)) | (exact hlen) | (intros; simp [All, ntAL, ntA, ntP, ntL] <;> exact aE _))
end Go.Proofs.Ytgdbnnmogddkaaa.Mach
namespace Go.Proofs.Ytgdbnnmogddkaaa.Mach
open Go Go.Sort
set_option linter.unusedVariables false
set_option linter.unusedSimpArgs false
theorem con_Orders (N : Nat) (hN : N ≤ 5) : Con Try.prog 74 0 [] [.p (.int .i64 N)] [(0, rlOb (orD N N).1 (orD N N).2)] (.ar 1 0 0 (orD N N).1) := by
  refine con_start Try.func74 rfl (by kernel_rfl) rfl (fun c hc => ?_)
  generalize hR : orD N N = R
  have P5 : ∀ i, i ≤ 5 → 5 ^ i ≤ 3125 := by
    intro i hi
    have : 5 ^ i ≤ 5 ^ 5 := Nat.pow_le_pow_right (by omega) hi
    exact this
  have lens : ∀ i, ∀ j, j < (orD N i).1 → ((orD N i).2 j).1 = i := by
    have hv : ((N : Int), ((0, fun _ => (0, 0, ())) : T_BarS), ()).1.toNat = N := Int.toNat_natCast N
    intro i j hj
    have := orD_ok ((N : Int), ((0, fun _ => (0, 0, ())) : T_BarS), ()) i j (by rw [hv]; exact hj)
    rw [hv] at this
    exact this.1
  have lx : ∀ i, i < N → ∀ k, k < (orD N i).1 → ∀ A : LL, A.1 + N ≤ 20000 →
      (Run Try.prog c 74 [.code (cAt (bodyOf Try.f74) [1, 1, 0, 1, 0, 0, 1, 0, 0, 1, 0, 1, 0, 0]), .inLoop (cAt (bodyOf Try.f74) [1, 1, 0, 1, 0, 0, 1, 0, 0, 1, 0, 1, 0, 0]), .inBlock 2, .code (cAt (bodyOf Try.f74) [1, 1, 0, 1, 0, 0, 1, 0, 0, 1, 1]), .inBlock 1, .code (cAt (bodyOf Try.f74) [1, 1, 0, 1, 0, 0, 1, 1]), .inLoop (cAt (bodyOf Try.f74) [1, 1, 0, 1, 0, 0]), .inBlock 0, .code (cAt (bodyOf Try.f74) [1, 1, 1])] (SKp N i (orD N i).1 (k + 1) (exI ((orD N i).2 k) A N).1 (orD N i).2 (exI ((orD N i).2 k) A N).2) (Post c [(0, rlOb R.1 R.2)] (.ar 1 0 0 R.1))) →
      ∀ m x, x + m = N → Run Try.prog c 74 [.code (cAt (bodyOf Try.f74) [1, 1, 0, 1, 0, 0, 1, 0, 0, 1, 0, 1, 0, 0, 1, 0, 0, 1, 0, 0]), .inLoop (cAt (bodyOf Try.f74) [1, 1, 0, 1, 0, 0, 1, 0, 0, 1, 0, 1, 0, 0, 1, 0, 0, 1, 0, 0]), .inBlock 4, .inBlock 3, .code (cAt (bodyOf Try.f74) [1, 1, 0, 1, 0, 0, 1, 0, 0, 1, 0, 1, 0, 0, 1, 1]), .inLoop (cAt (bodyOf Try.f74) [1, 1, 0, 1, 0, 0, 1, 0, 0, 1, 0, 1, 0, 0]), .inBlock 2, .code (cAt (bodyOf Try.f74) [1, 1, 0, 1, 0, 0, 1, 0, 0, 1, 1]), .inBlock 1, .code (cAt (bodyOf Try.f74) [1, 1, 0, 1, 0, 0, 1, 1]), .inLoop (cAt (bodyOf Try.f74) [1, 1, 0, 1, 0, 0]), .inBlock 0, .code (cAt (bodyOf Try.f74) [1, 1, 1])] (SKq N i (orD N i).1 k (exI ((orD N i).2 k) A x).1 x (orD N i).2 (exI ((orD N i).2 k) A x).2) (Post c [(0, rlOb R.1 R.2)] (.ar 1 0 0 R.1)) := by
    intro i hi k hk A hA hnext m
    induction m with
    | zero =>
      intro x hx
      obtain rfl : x = N := by omega
      have hd : decide ((x : Int) < (x : Int)) = false := by simp
      have hO := orD_n x hN i
      have h5 := P5 i (by omega)
      refine piece_ok mixed hc (cOe x i (orD x i).1 k (exI ((orD x i).2 k) A x).1 x (orD x i).2 (exI ((orD x i).2 k) A x).2) ?_ hnext
      simp only [All]
      repeat' (first | exact trivial | with_reducible apply And.intro)
      all_goals (first | exact aG _ | exact aP _ _ | exact aA _ _ | exact aE _ | omega | rfl | (intros; first | assumption | exact True.intro | rfl | exact absurd (show false = true by assumption) Bool.false_ne_true | ((repeat' (first | assumption | apply anda | apply notf)); done)) | (exact hd) | (intros; simp [All]; done))
    | succ m ih =>
      intro x hx
      have hrec := ih (x + 1) (by omega)
      have hd : decide ((x : Int) < (N : Int)) = true := decide_eq_true (by omega)
      have hlen := lens i k hk
      have hO := orD_n N hN i
      have h5 := P5 i (by omega)
      have hA' := exI_n ((orD N i).2 k) A x
      have ch := con_l2Has ((orD N i).2 k) x (by omega)
      simp only [exI] at hrec
      generalize exI ((orD N i).2 k) A x = B at hA' hrec ⊢
      generalize orD N i = O at *
      by_cases hh : hasI (O.2 k).2 x (O.2 k).1 = true
      · rw [if_pos hh] at hrec
        rw [hh] at ch
        refine piece_ok mixed hc (cOd N i O.1 k B.1 x O.2 B.2) ?_ hrec
        simp only [All]
        repeat' (first | exact trivial | with_reducible apply And.intro)
        all_goals (first | exact aG _ | exact aP _ _ | exact aA _ _ | exact aE _ | omega | rfl | (intros; first | assumption | exact True.intro | rfl | exact absurd (show false = true by assumption) Bool.false_ne_true | ((repeat' (first | assumption | apply anda | apply notf)); done)) | (exact hd) | (exact ch) | (intros; simp [All]; done))
      · rw [if_neg hh] at hrec
        have hh' : hasI (O.2 k).2 x (O.2 k).1 = false := by simpa using hh
        rw [hh'] at ch
        refine piece_ok mixed hc (cOc N i O.1 k B.1 x O.2 B.2 (snR B.1 B.2 (snL (O.2 k) x))) ?_ hrec
        simp only [All]
        repeat' (first | exact trivial | with_reducible apply And.intro)
        all_goals (first | exact aG _ | exact aP _ _ | exact aA _ _ | exact aE _ | omega | rfl | (intros; first | assumption | exact True.intro | rfl | exact absurd (show false = true by assumption) Bool.false_ne_true | ((repeat' (first | assumption | apply anda | apply notf)); done)) | (exact hd) | (exact ch) | (intro t ht; simp [All]; done) | (intro t ht; by_cases h : t < B.1; (simp [h, snR, cvtL, cvt, tg, tru, All]); (simp only [h, if_false]; simp [snR, snL, cvtL, cvt, lendP, tab, idx, List.lookup, tg, tru, All, h]; funext s; by_cases h2 : s < (O.2 k).1 <;> simp [h2, snJ, cellP, tg])))
  have lk : ∀ i, i < N → (Run Try.prog c 74 [.code (cAt (bodyOf Try.f74) [1, 1, 0, 1, 0, 0]), .inLoop (cAt (bodyOf Try.f74) [1, 1, 0, 1, 0, 0]), .inBlock 0, .code (cAt (bodyOf Try.f74) [1, 1, 1])] (SKo N (i + 1) (orD N (i + 1)).1 (orD N (i + 1)).2) (Post c [(0, rlOb R.1 R.2)] (.ar 1 0 0 R.1))) →
      ∀ m k, k + m = (orD N i).1 → Run Try.prog c 74 [.code (cAt (bodyOf Try.f74) [1, 1, 0, 1, 0, 0, 1, 0, 0, 1, 0, 1, 0, 0]), .inLoop (cAt (bodyOf Try.f74) [1, 1, 0, 1, 0, 0, 1, 0, 0, 1, 0, 1, 0, 0]), .inBlock 2, .code (cAt (bodyOf Try.f74) [1, 1, 0, 1, 0, 0, 1, 0, 0, 1, 1]), .inBlock 1, .code (cAt (bodyOf Try.f74) [1, 1, 0, 1, 0, 0, 1, 1]), .inLoop (cAt (bodyOf Try.f74) [1, 1, 0, 1, 0, 0]), .inBlock 0, .code (cAt (bodyOf Try.f74) [1, 1, 1])] (SKp N i (orD N i).1 k (exK N (orD N i) k).1 (orD N i).2 (exK N (orD N i) k).2) (Post c [(0, rlOb R.1 R.2)] (.ar 1 0 0 R.1)) := by
    intro i hi hnext m
    induction m with
    | zero =>
      intro k hk
      obtain rfl : k = (orD N i).1 := by omega
      have hd : decide (((orD N i).1 : Int) < ((orD N i).1 : Int)) = false := by simp
      rw [orD] at hnext
      refine piece_ok mixed hc (cOf N i (orD N i).1 (orD N i).1 (exK N (orD N i) (orD N i).1).1 (orD N i).2 (exK N (orD N i) (orD N i).1).2) ?_ hnext
      simp only [All]
      repeat' (first | exact trivial | with_reducible apply And.intro)
      all_goals (first | exact aG _ | exact aP _ _ | exact aA _ _ | exact aE _ | omega | rfl | (intros; first | assumption | exact True.intro | rfl | exact absurd (show false = true by assumption) Bool.false_ne_true | ((repeat' (first | assumption | apply anda | apply notf)); done)) | (exact hd) | (intros; simp [All]; done))
    | succ m ih =>
      intro k hk
      have hrec := ih (k + 1) (by omega)
      have hd : decide ((k : Int) < ((orD N i).1 : Int)) = true := decide_eq_true (by omega)
      have hO := orD_n N hN i
      have h5 := P5 i (by omega)
      have hK := exK_n N (orD N i) k
      have hK2 : k * N ≤ 3125 * 5 := Nat.mul_le_mul (by omega) hN
      refine piece_ok mixed hc (cOb N i (orD N i).1 k (exK N (orD N i) k).1 (orD N i).2 (exK N (orD N i) k).2) ?_ (lx i hi k (by omega) (exK N (orD N i) k) (by omega) hrec N 0 (by omega))
      simp only [All]
      repeat' (first | exact trivial | with_reducible apply And.intro)
      all_goals (first | exact aG _ | exact aP _ _ | exact aA _ _ | exact aE _ | omega | rfl | (intros; first | assumption | exact True.intro | rfl | exact absurd (show false = true by assumption) Bool.false_ne_true | ((repeat' (first | assumption | apply anda | apply notf)); done)) | (exact hd) | (intros; simp [All]; done))
  have lo : ∀ m i, i + m = N → Run Try.prog c 74 [.code (cAt (bodyOf Try.f74) [1, 1, 0, 1, 0, 0]), .inLoop (cAt (bodyOf Try.f74) [1, 1, 0, 1, 0, 0]), .inBlock 0, .code (cAt (bodyOf Try.f74) [1, 1, 1])] (SKo N i (orD N i).1 (orD N i).2) (Post c [(0, rlOb R.1 R.2)] (.ar 1 0 0 R.1)) := by
    intro m
    induction m with
    | zero =>
      intro i hi
      obtain rfl : i = N := by omega
      have hd : decide ((i : Int) < (i : Int)) = false := by simp
      rw [hR]
      refine path_ok mixed Try.func74 hc (cOg i i R.1 R.2) ?_
      simp only [All]
      repeat' (first | exact trivial | with_reducible apply And.intro)
      all_goals (first | exact aG _ | exact aP _ _ | exact aA _ _ | exact aE _ | omega | rfl | (intros; first | assumption | exact True.intro | rfl | exact absurd (show false = true by assumption) Bool.false_ne_true | ((repeat' (first | assumption | apply anda | apply notf)); done)) | (exact hd) | (intros; simp [All, ntAL, ntA, ntP, ntL] <;> exact aE _))
    | succ m ih =>
      intro i hi
      have hrec := ih (i + 1) (by omega)
      have hd : decide ((i : Int) < (N : Int)) = true := decide_eq_true (by omega)
      refine piece_ok mixed hc (cOa N i (orD N i).1 (orD N i).2) ?_ (lk i (by omega) hrec (orD N i).1 0 (by omega))
      simp only [All]
      repeat' (first | exact trivial | with_reducible apply And.intro)
      all_goals (first | exact aG _ | exact aP _ _ | exact aA _ _ | exact aE _ | omega | rfl | (intros; first | assumption | exact True.intro | rfl | exact absurd (show false = true by assumption) Bool.false_ne_true | ((repeat' (first | assumption | apply anda | apply notf)); done)) | (exact hd) | (intro t ht; exact absurd ht (Nat.not_lt_zero _)) | (intros; simp [All]; done))
  refine piece_ok mixed hc (cOz N) ?_ (lo N 0 (by omega))
  simp only [All]
  repeat' (first | exact trivial | with_reducible apply And.intro)
  all_goals (first | exact aG _ | exact aP _ _ | exact aA _ _ | exact aE _ | omega | rfl | (intros; first | assumption | exact True.intro | rfl | exact absurd (show false = true by assumption) Bool.false_ne_true | ((repeat' (first | assumption | apply anda | apply notf)); done)) | (intro t ht; exact ⟨⟨trivial, Nat.le_refl _, trivial⟩, rfl⟩))
def cnB (v : T_Graph) : Bool := isGraphF v && decide (v.1 ≤ 5)
def cnG (v : T_Graph) : T_Graph := if cnB v = true then (v.1, (v.2.1.1, dfs v v.1.toNat zNL v.2.1.2), ()) else (0, (0, fun _ => (0, 0, ())), ())
theorem cnG_n (v : T_Graph) : (cnG v).2.1.1 ≤ 24 := by
  unfold cnG
  split
  · rename_i h
    simp only [cnB, Bool.and_eq_true] at h
    exact (graph_inR h.1).2.2.1
  · exact Nat.zero_le _
theorem cn_dec (v : T_Graph) : (bif !isGraphF v then true else decide (v.1 > 5)) = !cnB v := by
  unfold cnB
  cases isGraphF v with
  | false => rfl
  | true =>
    by_cases h : v.1 > 5
    · simp [h, show ¬ v.1 ≤ 5 by omega]
    · simp [h, show v.1 ≤ 5 by omega]
theorem con_Canon_i (v : T_Graph) (hs : smS s_Graph v) : Con Try.prog 34 0 [] [graphA v] [(0, brOb (cnG v).2.1.1 (cnG v).2.1.2)] (.tup [.agg [.p (.int .i64 (cnG v).1), .ar 2 0 0 (cnG v).2.1.1], .p (.bool (cnB v))]) := by
  have c1 := con_IsGraph_i v hs
  have hd := cn_dec v
  refine con_start Try.func34 rfl (by kernel_rfl) rfl (fun c hc => ?_)
  cases hb : cnB v with
  | false =>
    rw [show cnG v = (0, (0, fun _ => (0, 0, ())), ()) by simp [cnG, hb]]
    have hd' : (bif !isGraphF v then true else decide (v.1 > 5)) = true := by rw [hd, hb]; rfl
    refine path_ok mixed Try.func34 hc (cIy v (isGraphF v)) ?_
    simp only [All]
    repeat' (first | exact trivial | with_reducible apply And.intro)
    all_goals (first | exact aG _ | exact aP _ _ | exact aA _ _ | exact aE _ | omega | rfl | (intros; first | assumption | exact True.intro | rfl | exact absurd (show false = true by assumption) Bool.false_ne_true | ((repeat' (first | assumption | apply anda | apply notf)); done)) | (exact c1) | (exact hd') | (intro t ht; exact absurd ht (Nat.not_lt_zero _)))
  | true =>
    have hd' : (bif !isGraphF v then true else decide (v.1 > 5)) = false := by rw [hd, hb]; rfl
    rw [show cnG v = (v.1, (v.2.1.1, dfs v v.1.toNat zNL v.2.1.2), ()) by simp [cnG, hb]]
    simp only [cnB, Bool.and_eq_true, decide_eq_true_eq] at hb
    have gi := graph_inR hb.1
    have c2 := con_copyGraph v (by omega)
    have c3 := con_try v hb.1 v.1.toNat zNL v.2.1.2 ⟨rfl, rfl⟩ (by show 0 + v.1.toNat = _; omega)
    refine path_ok mixed Try.func34 hc (cIz v (isGraphF v) v.2.1.2 (dfs v v.1.toNat zNL v.2.1.2)) ?_
    simp only [All]
    repeat' (first | exact trivial | with_reducible apply And.intro)
    all_goals (first | exact aG _ | exact aP _ _ | exact aA _ _ | exact aE _ | omega | rfl | (intros; first | assumption | exact True.intro | rfl | exact absurd (show false = true by assumption) Bool.false_ne_true | ((repeat' (first | assumption | apply anda | apply notf)); done)) | (exact c1) | (exact hd') | (exact c2) | (refine Con.arg_ext c3 ?_; refine ⟨rfl, fun i hi => absurd hi (Nat.not_lt_zero _), rfl, rfl, rfl, trivial⟩) | (intros; simp [All, ntAL, ntA, ntP, ntL] <;> exact aE _))
theorem con_Canon_s (v : T_Graph) (hs : smS s_Graph v) : Con Try.prog 32 0 [] [graphA v] [(0, brOb (cnG v).2.1.1 (cnG v).2.1.2)] (.tup [.agg [.p (.int .i64 (cnG v).1), .ar 2 0 0 (cnG v).2.1.1], .p (.bool (cnB v))]) := by
  have c1 := con_IsGraph_s v hs
  have hd := cn_dec v
  refine con_start Try.func32 rfl (by kernel_rfl) rfl (fun c hc => ?_)
  cases hb : cnB v with
  | false =>
    rw [show cnG v = (0, (0, fun _ => (0, 0, ())), ()) by simp [cnG, hb]]
    have hd' : (bif !isGraphF v then true else decide (v.1 > 5)) = true := by rw [hd, hb]; rfl
    refine path_ok mixed Try.func32 hc (cSy v (isGraphF v)) ?_
    simp only [All]
    repeat' (first | exact trivial | with_reducible apply And.intro)
    all_goals (first | exact aG _ | exact aP _ _ | exact aA _ _ | exact aE _ | omega | rfl | (intros; first | assumption | exact True.intro | rfl | exact absurd (show false = true by assumption) Bool.false_ne_true | ((repeat' (first | assumption | apply anda | apply notf)); done)) | (exact c1) | (exact hd') | (intro t ht; exact absurd ht (Nat.not_lt_zero _)))
  | true =>
    have hd' : (bif !isGraphF v then true else decide (v.1 > 5)) = false := by rw [hd, hb]; rfl
    rw [show cnG v = (v.1, (v.2.1.1, dfs v v.1.toNat zNL v.2.1.2), ()) by simp [cnG, hb]]
    simp only [cnB, Bool.and_eq_true, decide_eq_true_eq] at hb
    have gi := graph_inR hb.1
    have c2 := con_l2Copy v (by omega)
    have c3 := con_Orders v.1.toNat (by omega)
    have hN : ((v.1.toNat : Nat) : Int) = v.1 := by omega
    rw [hN] at c3
    have hod := orders_dfs v v.2.1.2 v.1.toNat 0
    rw [Nat.add_zero] at hod
    have hok := orD_ok v v.1.toNat
    have hOn := orD_n v.1.toNat (by omega) v.1.toNat
    have h5 : 5 ^ v.1.toNat ≤ 5 ^ 5 := Nat.pow_le_pow_right (by omega) (by omega)
    generalize orD v.1.toNat v.1.toNat = O at *
    generalize dfs v v.1.toNat zNL v.2.1.2 = R at *
    have lo : ∀ d k, k + d = O.1 → Run Try.prog c 32 [.code (cAt (bodyOf Try.f32) [1, 1, 1, 1, 0, 1, 0, 0]), .inLoop (cAt (bodyOf Try.f32) [1, 1, 1, 1, 0, 1, 0, 0]), .inBlock 0, .code (cAt (bodyOf Try.f32) [1, 1, 1, 1, 1])] (SKc v k O.1 O.2 (foldK (fun i a => dfs v 0 (O.2 i) a) k v.2.1.2)) (Post c [(0, brOb v.2.1.1 R)] (.tup [.agg [.p (.int .i64 v.1), .ar 2 0 0 v.2.1.1], .p (.bool true)])) := by
      intro d
      induction d with
      | zero =>
        intro k hk
        obtain rfl : k = O.1 := by omega
        have hd0 : decide ((O.1 : Int) < (O.1 : Int)) = false := by simp
        rw [show foldK (fun i a => dfs v 0 (O.2 i) a) O.1 v.2.1.2 = R from hod]
        refine path_ok mixed Try.func32 hc (cSe v O.1 O.1 O.2 R) ?_
        simp only [All]
        repeat' (first | exact trivial | with_reducible apply And.intro)
        all_goals (first | exact aG _ | exact aP _ _ | exact aA _ _ | exact aE _ | omega | rfl | (intros; first | assumption | exact True.intro | rfl | exact absurd (show false = true by assumption) Bool.false_ne_true | ((repeat' (first | assumption | apply anda | apply notf)); done)) | (exact hd0) | (intros; simp [All, ntAL, ntA, ntP, ntL] <;> exact aE _))
      | succ d ih =>
        intro k hk
        have hrec := ih (k + 1) (by omega)
        have hd0 : decide ((k : Int) < (O.1 : Int)) = true := decide_eq_true (by omega)
        have hok' := hok k (by omega)
        obtain ⟨e1, e2⟩ := rn_ok hb.1 hok'
        have c4 := con_Rename_s v hs (O.2 k) (by have := hok'.1; omega)
        rw [e1, e2] at c4
        rw [show foldK (fun i a => dfs v 0 (O.2 i) a) (k + 1) v.2.1.2 = upB v (O.2 k).2 (foldK (fun i a => dfs v 0 (O.2 i) a) k v.2.1.2) from rfl] at hrec
        generalize foldK (fun i a => dfs v 0 (O.2 i) a) k v.2.1.2 = B at hrec ⊢
        unfold upB at hrec
        generalize srtB v.2.1.1 (rnD v.2.1.2 (O.2 k).2) = h at *
        have c5 := con_Before (v.1, (v.2.1.1, h), ()) (v.1, (v.2.1.1, B), ()) rfl (by show v.2.1.1 ≤ _; omega)
        change Con _ _ _ _ _ _ (.p (.bool (bfD h B v.2.1.1 0))) at c5
        by_cases hh : bfD h B v.2.1.1 0 = true
        · rw [if_pos hh] at hrec
          rw [hh] at c5
          refine piece_ok mixed hc (cSa v k O.1 O.2 B h) ?_ hrec
          simp only [All]
          repeat' (first | exact trivial | with_reducible apply And.intro)
          all_goals (first | exact aG _ | exact aP _ _ | exact aA _ _ | exact aE _ | omega | rfl | (intros; first | assumption | exact True.intro | rfl | exact absurd (show false = true by assumption) Bool.false_ne_true | ((repeat' (first | assumption | apply anda | apply notf)); done)) | (exact hd0) | (exact c4) | (exact c5) | (intros; simp [All]; done))
        · rw [if_neg hh] at hrec
          have hh' : bfD h B v.2.1.1 0 = false := by simpa using hh
          rw [hh'] at c5
          refine piece_ok mixed hc (cSb v k O.1 O.2 B h) ?_ hrec
          simp only [All]
          repeat' (first | exact trivial | with_reducible apply And.intro)
          all_goals (first | exact aG _ | exact aP _ _ | exact aA _ _ | exact aE _ | omega | rfl | (intros; first | assumption | exact True.intro | rfl | exact absurd (show false = true by assumption) Bool.false_ne_true | ((repeat' (first | assumption | apply anda | apply notf)); done)) | (exact hd0) | (exact c4) | (exact c5) | (intros; simp [All]; done))
    refine piece_ok mixed hc (cSz v (isGraphF v) v.2.1.2 O.1 O.2) ?_ (lo O.1 0 (by omega))
    simp only [All]
    repeat' (first | exact trivial | with_reducible apply And.intro)
    all_goals (first | exact aG _ | exact aP _ _ | exact aA _ _ | exact aE _ | omega | rfl | (intros; first | assumption | exact True.intro | rfl | exact absurd (show false = true by assumption) Bool.false_ne_true | ((repeat' (first | assumption | apply anda | apply notf)); done)) | (exact c1) | (exact hd') | (exact c2) | (exact c3) | (intros; simp [All]; done))
end Go.Proofs.Ytgdbnnmogddkaaa.Mach
namespace Go.Proofs.Ytgdbnnmogddkaaa.Mach
open Go
set_option linter.unusedVariables false
set_option linter.unusedSimpArgs false
theorem p_FnExactCanonicalGraph_0 (v0 : T_Graph) :
    pathOb Try.prog Try.f8 0 [.reg [oT, oT], .reg [oT], .reg [oT, oT, ⟨true, (some ⟨[], [], [], 1, [], .p (.int .i64 (f_szGraph v0 1048576))⟩), none⟩, oT], .reg [oT, oT], .dec true, .reg [oT]] [.code (bodyOf Try.f8)] (start Try.f8 [] 0 [.agg [.p (.int .i64 v0.1), .p (.seq true 2 v0.2.1.1 (fun i => [.int .i64 ((v0.2.1.2 i).1), .int .i64 ((v0.2.1.2 i).2.1)]))]]) [] 1 [] (.p (.bool true)) =
    some [((0 : Nat) < 1),
  Con Try.prog 31 0 [] [.agg [.p (.int .i64 v0.1), .p (.seq true 2 v0.2.1.1 (fun i => [.int .i64 ((v0.2.1.2 i).1), .int .i64 ((v0.2.1.2 i).2.1)]))], .p (.int .i64 1048576)] [] (.p (.int .i64 (f_szGraph v0 1048576))),
  ((decide (f_szGraph v0 1048576 < 0)) = true),
  (true = true)] := by kernel_rfl
theorem p_FnExactCanonicalGraph_e (v0 : T_Graph) :
    pathOb Try.prog Try.f8 0 [.reg [oT, oT], .reg [oT], .reg [oT, oT, ⟨true, (some ⟨[], [], [], 1, [], .p (.int .i64 (f_szGraph v0 1048576))⟩), none⟩, oT], .reg [oT, oT], .dec false, .reg [oT, ⟨true, (some ⟨[], [], [], 1, [(0, ⟨false, 2, v0.2.1.1, fun i => [.p (.int .i64 ((v0.2.1.2 i).1)), .p (.int .i64 ((v0.2.1.2 i).2.1))]⟩)], .agg [.p (.int .i64 v0.1), .ar 2 0 0 v0.2.1.1]⟩), none⟩, ⟨true, (some ⟨[], [], [], 1, [(0, ⟨false, 2, (cnG v0).2.1.1, fun i => [.p (.int .i64 (((cnG v0).2.1.2 i).1)), .p (.int .i64 (((cnG v0).2.1.2 i).2.1))]⟩)], .tup [.agg [.p (.int .i64 ((cnG v0).1)), .ar 2 0 0 ((cnG v0).2.1.1)], .p (.bool (cnB v0))]⟩), none⟩, oT, oT, oT, oT, oT, oT], .reg [oT, ⟨true, (some ⟨[], [], [], 1, [(0, ⟨false, 2, v0.2.1.1, fun i => [.p (.int .i64 ((v0.2.1.2 i).1)), .p (.int .i64 ((v0.2.1.2 i).2.1))]⟩)], .agg [.p (.int .i64 v0.1), .ar 2 0 0 v0.2.1.1]⟩), none⟩, oT, oT], .reg [oT, ⟨true, (some ⟨[], [], [], 1, [(0, ⟨false, 2, (cnG v0).2.1.1, fun i => [.p (.int .i64 (((cnG v0).2.1.2 i).1)), .p (.int .i64 (((cnG v0).2.1.2 i).2.1))]⟩)], .tup [.agg [.p (.int .i64 ((cnG v0).1)), .ar 2 0 0 ((cnG v0).2.1.1)], .p (.bool (cnB v0))]⟩), none⟩, oT, oT, oT, oT, oT, oT], .reg [oT, oT, ⟨true, (some ⟨[], [], [], 1, [], .p (.bool true)⟩), none⟩, oT, oT, oT, oT, oT, oT], .dec false, .reg [oT, oT, ⟨true, (some ⟨[], [], [], 1, [(0, ⟨false, 2, v0.2.1.1, fun i => [.p (.int .i64 ((v0.2.1.2 i).1)), .p (.int .i64 ((v0.2.1.2 i).2.1))]⟩)], .agg [.p (.int .i64 v0.1), .ar 2 0 0 v0.2.1.1]⟩), none⟩, ⟨true, (some ⟨[], [], [], 1, [], .p (.bool true)⟩), none⟩, oT], .dec false, .reg [oT], .reg [oT, oT, ⟨true, (some ⟨[608], [], [], 1, [(0, ⟨false, 2, v0.2.1.1, fun i => [.p (.int .i64 (1 + 2 * (i : Int))), .p (.int .i64 (1 + 2 * (i : Int) + 1))]⟩)], .p (.int .i64 (1 + 2 * (v0.2.1.1 : Int)))⟩), none⟩, oT], .reg [oT, oT, oT, oT, oT, ⟨true, (some ⟨[], [], [], 1, [], .p (.bool true)⟩), none⟩, oT, oT, oT, oT, oT, oT, oT], .dec false, .reg [oT], .reg [oT, oT, ⟨true, (some ⟨[736], [], [], 1, [(0, ⟨false, 2, (cnG v0).2.1.1, fun i => [.p (.int .i64 (1 + 2 * (i : Int))), .p (.int .i64 (1 + 2 * (i : Int) + 1))]⟩)], .p (.int .i64 (1 + 2 * ((cnG v0).2.1.1 : Int)))⟩), none⟩, oT], .reg [oT], .reg [oT, oT, ⟨true, (some ⟨[], [], [], 1, [], .p (.int .i64 (1 + 2 * ((cnG v0).2.1.1 : Int)))⟩), none⟩, oT], .reg [oT, oT], .dec false, .reg [oT, oT, oT], .dec false, .reg [oT, ⟨true, (some ⟨[], [], [], 1, [(0, ⟨false, 2, v0.2.1.1, fun i => [.p (.int .i64 ((v0.2.1.2 i).1)), .p (.int .i64 ((v0.2.1.2 i).2.1))]⟩)], .agg [.p (.int .i64 v0.1), .ar 2 0 0 v0.2.1.1]⟩), none⟩, ⟨true, (some ⟨[], [], [], 1, [(0, ⟨false, 2, (cnG v0).2.1.1, fun i => [.p (.int .i64 (((cnG v0).2.1.2 i).1)), .p (.int .i64 (((cnG v0).2.1.2 i).2.1))]⟩)], .tup [.agg [.p (.int .i64 ((cnG v0).1)), .ar 2 0 0 ((cnG v0).2.1.1)], .p (.bool (cnB v0))]⟩), none⟩, oT, oT, oT, oT, oT, oT], .reg [oT, oT, ⟨true, (some ⟨[], [], [], 1, [], .p (.bool true)⟩), none⟩, oT, oT, oT, oT, oT, oT], .dec false, .reg [oT], .reg [oT, oT, ⟨true, (some ⟨[], [], [], 1, [], .p (.int .i64 (1 + 2 * ((cnG v0).2.1.1 : Int)))⟩), none⟩, oT], .reg [oT, oT], .dec false, .reg [oT, oT, oT], .dec false, .reg [oT]] [.code (bodyOf Try.f8)] (start Try.f8 [] 0 [.agg [.p (.int .i64 v0.1), .p (.seq true 2 v0.2.1.1 (fun i => [.int .i64 ((v0.2.1.2 i).1), .int .i64 ((v0.2.1.2 i).2.1)]))]]) [] 1 [] (.p (.bool true)) =
    some [((0 : Nat) < 1),
  Con Try.prog 31 0 [] [.agg [.p (.int .i64 v0.1), .p (.seq true 2 v0.2.1.1 (fun i => [.int .i64 ((v0.2.1.2 i).1), .int .i64 ((v0.2.1.2 i).2.1)]))], .p (.int .i64 1048576)] [] (.p (.int .i64 (f_szGraph v0 1048576))),
  ((decide (f_szGraph v0 1048576 < 0)) = false),
  ((0 : Nat) < 1),
  Con Try.prog 33 0 [] [.agg [.p (.int .i64 v0.1), .p (.seq true 2 v0.2.1.1 (fun i => [.int .i64 ((v0.2.1.2 i).1), .int .i64 ((v0.2.1.2 i).2.1)]))]] [(0, ⟨false, 2, v0.2.1.1, (fun i => [.p (.int .i64 ((v0.2.1.2 i).1)), .p (.int .i64 ((v0.2.1.2 i).2.1))])⟩)] (.agg [.p (.int .i64 v0.1), .ar 2 0 0 v0.2.1.1]),
  (AN 2),
  ((v0.2.1.1 : Nat) ≤ v0.2.1.1),
  Con Try.prog 32 0 [] [.agg [.p (.int .i64 v0.1), .p (.seq true 2 v0.2.1.1 (fun i => [.int .i64 ((v0.2.1.2 i).1), .int .i64 ((v0.2.1.2 i).2.1)]))]] [(0, ⟨false, 2, ((cnG v0).2.1.1), (fun i => [.p (.int .i64 (((cnG v0).2.1.2 i).1)), .p (.int .i64 (((cnG v0).2.1.2 i).2.1))])⟩)] (.tup [.agg [.p (.int .i64 ((cnG v0).1)), .ar 2 0 0 ((cnG v0).2.1.1)], .p (.bool (cnB v0))]),
  ((0 : Nat) < 1),
  ((true = true) → (AN 1)),
  ((0 : Nat) < 1),
  Con Try.prog 33 0 [] [.agg [.p (.int .i64 v0.1), .p (.seq true 2 v0.2.1.1 (fun i => [.int .i64 ((v0.2.1.2 i).1), .int .i64 ((v0.2.1.2 i).2.1)]))]] [(0, ⟨false, 2, v0.2.1.1, (fun i => [.p (.int .i64 ((v0.2.1.2 i).1)), .p (.int .i64 ((v0.2.1.2 i).2.1))])⟩)] (.agg [.p (.int .i64 v0.1), .ar 2 0 0 v0.2.1.1]),
  ((0 : Nat) < 1),
  ((true = true) → (AN 1)),
  ((0 : Nat) < 1),
  (AN 2),
  ((v0.2.1.1 : Nat) ≤ v0.2.1.1),
  Con Try.prog 34 0 [] [.agg [.p (.int .i64 v0.1), .p (.seq true 2 v0.2.1.1 (fun i => [.int .i64 ((v0.2.1.2 i).1), .int .i64 ((v0.2.1.2 i).2.1)]))]] [(0, ⟨false, 2, ((cnG v0).2.1.1), (fun i => [.p (.int .i64 (((cnG v0).2.1.2 i).1)), .p (.int .i64 (((cnG v0).2.1.2 i).2.1))])⟩)] (.tup [.agg [.p (.int .i64 ((cnG v0).1)), .ar 2 0 0 ((cnG v0).2.1.1)], .p (.bool (cnB v0))]),
  ((0 : Nat) < 1),
  ((true = true) → (AN 1)),
  ((0 : Nat) < 1),
  ((0 : Nat) < 1),
  (AN 2),
  ((((cnG v0).2.1.1) : Nat) ≤ ((cnG v0).2.1.1)),
  (AN 2),
  ((((cnG v0).2.1.1) : Nat) ≤ ((cnG v0).2.1.1)),
  Con Try.prog 35 0 [] [.agg [.p (.int .i64 ((cnG v0).1)), .p (.seq true 2 ((cnG v0).2.1.1) (fun i => [.int .i64 (((cnG v0).2.1.2 i).1), .int .i64 (((cnG v0).2.1.2 i).2.1)]))], .agg [.p (.int .i64 ((cnG v0).1)), .p (.seq true 2 ((cnG v0).2.1.1) (fun i => [.int .i64 (((cnG v0).2.1.2 i).1), .int .i64 (((cnG v0).2.1.2 i).2.1)]))]] [] (.p (.bool true)),
  (AG (!!true)),
  (AG (!!true)),
  (((!true) = false) → ((!!true) = true)),
  ((bif !true then true else !cnB v0 == cnB v0) = false),
  ((0 : Nat) < 1),
  ((0 : Nat) < 1),
  Con Try.prog 33 0 [] [.agg [.p (.int .i64 v0.1), .p (.seq true 2 v0.2.1.1 (fun i => [.int .i64 ((v0.2.1.2 i).1), .int .i64 ((v0.2.1.2 i).2.1)]))]] [(0, ⟨false, 2, v0.2.1.1, (fun i => [.p (.int .i64 ((v0.2.1.2 i).1)), .p (.int .i64 ((v0.2.1.2 i).2.1))])⟩)] (.agg [.p (.int .i64 v0.1), .ar 2 0 0 v0.2.1.1]),
  (AN 2),
  ((v0.2.1.1 : Nat) ≤ v0.2.1.1),
  (AN 2),
  ((v0.2.1.1 : Nat) ≤ v0.2.1.1),
  Con Try.prog 35 0 [] [.agg [.p (.int .i64 v0.1), .p (.seq true 2 v0.2.1.1 (fun i => [.int .i64 ((v0.2.1.2 i).1), .int .i64 ((v0.2.1.2 i).2.1)]))], .agg [.p (.int .i64 v0.1), .p (.seq true 2 v0.2.1.1 (fun i => [.int .i64 ((v0.2.1.2 i).1), .int .i64 ((v0.2.1.2 i).2.1)]))]] [] (.p (.bool true)),
  ((!true) = false),
  ((0 : Nat) < 1),
  (AE v0.2.1.1),
  Con Try.prog 36 1 [(0, ⟨false, 2, v0.2.1.1, (fun i => [.p (.int .i64 ((v0.2.1.2 i).1)), .p (.int .i64 ((v0.2.1.2 i).2.1))])⟩)] [.agg [.p (.int .i64 v0.1), .ar 2 0 0 v0.2.1.1], .p (.int .i64 1)] [(0, ⟨false, 2, v0.2.1.1, (fun i => [.p (.int .i64 (1 + 2 * (↑i : Int))), .p (.int .i64 (1 + 2 * (↑i : Int) + 1))])⟩)] (.p (.int .i64 (1 + 2 * (↑v0.2.1.1 : Int)))),
  (((!decide (1 + 2 * (↑v0.2.1.1 : Int) < 0)) = true) → ((0 : Nat) < 1)),
  (((!decide (1 + 2 * (↑v0.2.1.1 : Int) < 0)) = true) → ((0 : Nat) < 1)),
  (AG (!decide (1 + 2 * (↑v0.2.1.1 : Int) < 0))),
  (AG (!decide (1 + 2 * (↑v0.2.1.1 : Int) < 0))),
  (((!decide (1 + 2 * (↑v0.2.1.1 : Int) < 0)) = true) → (AN 2)),
  (((!decide (1 + 2 * (↑v0.2.1.1 : Int) < 0)) = true) → ((((cnG v0).2.1.1) : Nat) ≤ ((cnG v0).2.1.1))),
  (((!decide (1 + 2 * (↑v0.2.1.1 : Int) < 0)) = true) → (AN 2)),
  (((!decide (1 + 2 * (↑v0.2.1.1 : Int) < 0)) = true) → ((((cnG v0).2.1.1) : Nat) ≤ ((cnG v0).2.1.1))),
  (((!decide (1 + 2 * (↑v0.2.1.1 : Int) < 0)) = true) → Con Try.prog 35 0 [] [.agg [.p (.int .i64 ((cnG v0).1)), .p (.seq true 2 ((cnG v0).2.1.1) (fun i => [.int .i64 (((cnG v0).2.1.2 i).1), .int .i64 (((cnG v0).2.1.2 i).2.1)]))], .agg [.p (.int .i64 ((cnG v0).1)), .p (.seq true 2 ((cnG v0).2.1.1) (fun i => [.int .i64 (((cnG v0).2.1.2 i).1), .int .i64 (((cnG v0).2.1.2 i).2.1)]))]] [] (.p (.bool true))),
  (AG (!decide (1 + 2 * (↑v0.2.1.1 : Int) < 0))),
  (((decide (1 + 2 * (↑v0.2.1.1 : Int) < 0)) = false) → ((!decide (1 + 2 * (↑v0.2.1.1 : Int) < 0)) = true)),
  (AG (!bif decide (1 + 2 * (↑v0.2.1.1 : Int) < 0) then true else !true)),
  (AG (!bif decide (1 + 2 * (↑v0.2.1.1 : Int) < 0) then true else !true)),
  (((bif decide (1 + 2 * (↑v0.2.1.1 : Int) < 0) then true else !true) = false) → ((!bif decide (1 + 2 * (↑v0.2.1.1 : Int) < 0) then true else !true) = true)),
  ((bif bif decide (1 + 2 * (↑v0.2.1.1 : Int) < 0) then true else !true then true else !cnB v0 == cnB v0) = false),
  ((0 : Nat) < 1),
  (AE (((cnG v0).2.1.1))),
  Con Try.prog 36 1 [(0, ⟨false, 2, ((cnG v0).2.1.1), (fun i => [.p (.int .i64 (((cnG v0).2.1.2 i).1)), .p (.int .i64 (((cnG v0).2.1.2 i).2.1))])⟩)] [.agg [.p (.int .i64 ((cnG v0).1)), .ar 2 0 0 ((cnG v0).2.1.1)], .p (.int .i64 1)] [(0, ⟨false, 2, ((cnG v0).2.1.1), (fun i => [.p (.int .i64 (1 + 2 * (↑i : Int))), .p (.int .i64 (1 + 2 * (↑i : Int) + 1))])⟩)] (.p (.int .i64 (1 + 2 * (↑(cnG v0).2.1.1 : Int)))),
  ((0 : Nat) < 1),
  (AN 2),
  ((((cnG v0).2.1.1) : Nat) ≤ ((cnG v0).2.1.1)),
  Con Try.prog 37 0 [] [.agg [.p (.int .i64 ((cnG v0).1)), .p (.seq true 2 ((cnG v0).2.1.1) (fun i => [.int .i64 (1 + 2 * (↑i : Int)), .int .i64 (1 + 2 * (↑i : Int) + 1)]))], .p (.int .i64 1)] [] (.p (.int .i64 (1 + 2 * (↑(cnG v0).2.1.1 : Int)))),
  ((decide (1 + 2 * (↑(cnG v0).2.1.1 : Int) < 0)) = false),
  ((1 + 2 * (↑(cnG v0).2.1.1 : Int) != 1 + 2 * (↑(cnG v0).2.1.1 : Int)) = false),
  ((0 : Nat) < 1),
  Con Try.prog 33 0 [] [.agg [.p (.int .i64 v0.1), .p (.seq true 2 v0.2.1.1 (fun i => [.int .i64 ((v0.2.1.2 i).1), .int .i64 ((v0.2.1.2 i).2.1)]))]] [(0, ⟨false, 2, v0.2.1.1, (fun i => [.p (.int .i64 ((v0.2.1.2 i).1)), .p (.int .i64 ((v0.2.1.2 i).2.1))])⟩)] (.agg [.p (.int .i64 v0.1), .ar 2 0 0 v0.2.1.1]),
  (AN 2),
  ((v0.2.1.1 : Nat) ≤ v0.2.1.1),
  Con Try.prog 34 0 [] [.agg [.p (.int .i64 v0.1), .p (.seq true 2 v0.2.1.1 (fun i => [.int .i64 ((v0.2.1.2 i).1), .int .i64 ((v0.2.1.2 i).2.1)]))]] [(0, ⟨false, 2, ((cnG v0).2.1.1), (fun i => [.p (.int .i64 (((cnG v0).2.1.2 i).1)), .p (.int .i64 (((cnG v0).2.1.2 i).2.1))])⟩)] (.tup [.agg [.p (.int .i64 ((cnG v0).1)), .ar 2 0 0 ((cnG v0).2.1.1)], .p (.bool (cnB v0))]),
  ((0 : Nat) < 1),
  ((true = true) → (AN 1)),
  ((0 : Nat) < 1),
  ((0 : Nat) < 1),
  (AN 2),
  ((((cnG v0).2.1.1) : Nat) ≤ ((cnG v0).2.1.1)),
  (AN 2),
  ((((cnG v0).2.1.1) : Nat) ≤ ((cnG v0).2.1.1)),
  Con Try.prog 35 0 [] [.agg [.p (.int .i64 ((cnG v0).1)), .p (.seq true 2 ((cnG v0).2.1.1) (fun i => [.int .i64 (((cnG v0).2.1.2 i).1), .int .i64 (((cnG v0).2.1.2 i).2.1)]))], .agg [.p (.int .i64 ((cnG v0).1)), .p (.seq true 2 ((cnG v0).2.1.1) (fun i => [.int .i64 (((cnG v0).2.1.2 i).1), .int .i64 (((cnG v0).2.1.2 i).2.1)]))]] [] (.p (.bool true)),
  (AG (!!true)),
  (AG (!!true)),
  (((!true) = false) → ((!!true) = true)),
  ((bif !true then true else !cnB v0 == cnB v0) = false),
  ((0 : Nat) < 1),
  (AN 2),
  ((((cnG v0).2.1.1) : Nat) ≤ ((cnG v0).2.1.1)),
  Con Try.prog 37 0 [] [.agg [.p (.int .i64 ((cnG v0).1)), .p (.seq true 2 ((cnG v0).2.1.1) (fun i => [.int .i64 (1 + 2 * (↑i : Int)), .int .i64 (1 + 2 * (↑i : Int) + 1)]))], .p (.int .i64 1)] [] (.p (.int .i64 (1 + 2 * (↑(cnG v0).2.1.1 : Int)))),
  ((decide (1 + 2 * (↑(cnG v0).2.1.1 : Int) < 0)) = false),
  ((1 + 2 * (↑(cnG v0).2.1.1 : Int) != 1 + 2 * (↑(cnG v0).2.1.1 : Int)) = false),
  (true = true)] := by kernel_rfl
theorem con_law_FnExactCanonicalGraph (v0 : T_Graph) (k0 : okS s_Graph v0) : Con Try.prog 8 0 [] [.agg [.p (.int .i64 v0.1), .p (.seq true 2 v0.2.1.1 (fun i => [.int .i64 ((v0.2.1.2 i).1), .int .i64 ((v0.2.1.2 i).2.1)]))]] [] (.p (.bool true)) := by
  refine con_start Try.func8 rfl (by kernel_rfl) rfl (fun c hc => ?_)
  have l0 := le_szGraph v0 1048576 (by omega)
  by_cases g0 : (f_szGraph v0 1048576) < 0
  · refine path_ok mixed Try.func8 hc (p_FnExactCanonicalGraph_0 v0) ?_
    simp only [All]
    repeat' (first | exact trivial | with_reducible apply And.intro)
    all_goals (first | exact aG _ | exact aP _ _ | exact aA _ _ | exact aE _ | omega | rfl | (intros; first | assumption | exact True.intro | rfl | exact absurd (show false = true by assumption) Bool.false_ne_true | ((repeat' (first | assumption | apply anda | apply notf)); done)) | (exact con_szGraph v0 k0 _ (by omega) (by omega)) | (simp; omega))
  have hs0 := sm_szGraph v0 1048576 (by omega) (by omega) g0
  have hr0 : smS s_Graph (cnG v0) := sm_graph (by have := cnG_n v0; omega)
  have n_0 : v0.2.1.1 ≤ 1048576 := hs0.2.1.1
  have n_1 : (cnG v0).2.1.1 ≤ 1048576 := hr0.2.1.1
  refine path_ok mixed Try.func8 hc (p_FnExactCanonicalGraph_e v0) ?_
  simp only [All]
  repeat' (first | exact trivial | with_reducible apply And.intro)
  all_goals (first | exact aG _ | exact aP _ _ | exact aA _ _ | exact aE _ | omega | rfl | (intros; first | assumption | exact True.intro | rfl | exact absurd (show false = true by assumption) Bool.false_ne_true | ((repeat' (first | assumption | apply anda | apply notf)); done)) | (exact con_szGraph v0 k0 _ (by omega) (by omega)) | (exact con_toGraph v0 hs0) | (exact con_Canon_s v0 hs0) | (exact con_Canon_i v0 hs0) | (intros; exact con_eqGraph (cnG v0) hr0) | (intros; exact con_eqGraph v0 hs0) | (intros; exact con_markGraph v0 _ hs0.2.1.1 (by omega) (by omega)) | (intros; exact con_markGraph (cnG v0) _ hr0.2.1.1 (by omega) (by omega)) | (intros; exact con_heldGraph (cnG v0) _ hr0.2.1.1 (by omega) (by omega)) | (cases cnB v0 <;> rfl) | (simp; try omega))
end Go.Proofs.Ytgdbnnmogddkaaa.Mach
namespace Go.Proofs.Ytgdbnnmogddkaaa.Mach
open Go
set_option linter.unusedVariables false
set_option linter.unusedSimpArgs false
def eqGr (v u : T_Graph) : Bool := bif v.1 == u.1 then q_BarS v.2.1 u.2.1 else false
def SEg9 (v u : T_Graph) (k : Nat) : St :=
  ⟨[graphA v, graphA u, .pt 2 0 0 0, .pt 2 1 0 0, .p .any, .p (.int .i64 k)] ++ List.replicate 32 anyA, [(0, boxG v), (1, boxG u)], 2⟩
theorem eg9z (v u : T_Graph) :
    pathOb Try.prog Try.f85 0 [.reg [oT, oT, oT], .reg [oT, oT, oT, oT, oT, oT, oT, oT, oT, oT, oT, oT, oT, oT], .dec true, .reg [oT]] [.code (bodyOf Try.f85)] (start Try.f85 [] 0 [graphA v, graphA u]) [] 1 [] (.p (.bool false)) =
    some [((0 : Nat) < 1),
  ((0 : Nat) < 1),
  (AG (!v.1 != u.1)),
  (((!v.1 != u.1) = true) → ((0 : Nat) < 1)),
  (AG (!v.1 != u.1)),
  (AG (!v.1 != u.1)),
  (((!v.1 != u.1) = true) → ((0 : Nat) < 1)),
  (AG (!v.1 != u.1)),
  (AG (!v.1 != u.1)),
  (AG (!v.1 != u.1)),
  (((v.1 != u.1) = false) → ((!v.1 != u.1) = true)),
  ((bif v.1 != u.1 then true else (↑v.2.1.1 : Int) != (↑u.2.1.1 : Int)) = true),
  (false = false)] := by kernel_rfl
theorem eg9a (v u : T_Graph) :
    pieceOb Try.prog 0 [.reg [oT, oT, oT], .reg [oT, oT, oT, oT, oT, oT, oT, oT, oT, oT, oT, oT, oT, oT], .dec false, .reg [oT], .head] [.code (bodyOf Try.f85)] (start Try.f85 [] 0 [graphA v, graphA u]) [0, 32] 1 (SEg9 v u 0) =
    some ([.code (cAt (bodyOf Try.f85) [1, 1, 0, 1, 0, 0]), .inLoop (cAt (bodyOf Try.f85) [1, 1, 0, 1, 0, 0]), .inBlock 0, .code (cAt (bodyOf Try.f85) [1, 1, 1])], [((0 : Nat) < 1),
  ((0 : Nat) < 1),
  (AG (!v.1 != u.1)),
  (((!v.1 != u.1) = true) → ((0 : Nat) < 1)),
  (AG (!v.1 != u.1)),
  (AG (!v.1 != u.1)),
  (((!v.1 != u.1) = true) → ((0 : Nat) < 1)),
  (AG (!v.1 != u.1)),
  (AG (!v.1 != u.1)),
  (AG (!v.1 != u.1)),
  (((v.1 != u.1) = false) → ((!v.1 != u.1) = true)),
  ((bif v.1 != u.1 then true else (↑v.2.1.1 : Int) != (↑u.2.1.1 : Int)) = false),
  (AI v.1),
  (AN v.2.1.1),
  (AP v.2.1.1 (fun i => [.int .i64 ((v.2.1.2 i).1), .int .i64 ((v.2.1.2 i).2.1)])),
  (AI u.1),
  (AN u.2.1.1),
  (AP u.2.1.1 (fun i => [.int .i64 ((u.2.1.2 i).1), .int .i64 ((u.2.1.2 i).2.1)])),
  (AN 0),
  (AN 0),
  ((0 : Int) = (↑0 : Int)),
  ((([AV.p (PV.int IntKind.i64 v.1), graphL v.2.1].length) : Nat) = 2),
  ((1 : Nat) ≤ 1),
  ((1 : Nat) ≤ 1),
  (AI v.1),
  (AN v.2.1.1),
  (AP v.2.1.1 (fun i => [.int .i64 ((v.2.1.2 i).1), .int .i64 ((v.2.1.2 i).2.1)])),
  ((([AV.p (PV.int IntKind.i64 u.1), graphL u.2.1].length) : Nat) = 2),
  ((1 : Nat) ≤ 1),
  ((1 : Nat) ≤ 1),
  (AI u.1),
  (AN u.2.1.1),
  (AP u.2.1.1 (fun i => [.int .i64 ((u.2.1.2 i).1), .int .i64 ((u.2.1.2 i).2.1)]))]) := by kernel_rfl
theorem eg9b (v u : T_Graph) (k : Nat) :
    pieceOb Try.prog 0 [.reg [oT, oT, oT, oT, oT], .dec true, .reg [oT, oT, oT, oT, oT, oT, oT, oT, oT, oT, oT], .dec false, .reg [oT, oT, oT], .head] [.code (cAt (bodyOf Try.f85) [1, 1, 0, 1, 0, 0]), .inLoop (cAt (bodyOf Try.f85) [1, 1, 0, 1, 0, 0]), .inBlock 0, .code (cAt (bodyOf Try.f85) [1, 1, 1])] (SEg9 v u k) [0, 1] 1 (SEg9 v u (k + 1)) =
    some ([.code (cAt (bodyOf Try.f85) [1, 1, 0, 1, 0, 0]), .inLoop (cAt (bodyOf Try.f85) [1, 1, 0, 1, 0, 0]), .inBlock 0, .code (cAt (bodyOf Try.f85) [1, 1, 1])], [((0 : Nat) < 1),
  ((decide ((↑k : Int) < (↑v.2.1.1 : Int))) = true),
  ((0 : Nat) < 1),
  ((0 : Int) ≤ (↑k : Int)),
  (((↑k : Int) : Int) < (↑v.2.1.1 : Int)),
  ((0 : Nat) < 1),
  ((0 : Int) ≤ (↑k : Int)),
  (((↑k : Int) : Int) < (↑u.2.1.1 : Int)),
  ((!((v.2.1.2 k).1 == (u.2.1.2 k).1 && ((v.2.1.2 k).2.1 == (u.2.1.2 k).2.1 && true))) = false),
  (((-9223372036854775808) : Int) ≤ ((↑k : Int) + 1)),
  ((((↑k : Int) + 1) : Int) ≤ 9223372036854775807),
  (AI v.1),
  (AN v.2.1.1),
  (AP v.2.1.1 (fun i => [.int .i64 ((v.2.1.2 i).1), .int .i64 ((v.2.1.2 i).2.1)])),
  (AI u.1),
  (AN u.2.1.1),
  (AP u.2.1.1 (fun i => [.int .i64 ((u.2.1.2 i).1), .int .i64 ((u.2.1.2 i).2.1)])),
  (AN 0),
  (AN 0),
  ((((↑k : Int) + 1) : Int) = (↑(k + 1) : Int)),
  (AN 2),
  ((1 : Nat) ≤ 1),
  ((1 : Nat) ≤ 1),
  (AI v.1),
  (AN v.2.1.1),
  (AP v.2.1.1 (fun i => [.int .i64 ((v.2.1.2 i).1), .int .i64 ((v.2.1.2 i).2.1)])),
  (AN 2),
  ((1 : Nat) ≤ 1),
  ((1 : Nat) ≤ 1),
  (AI u.1),
  (AN u.2.1.1),
  (AP u.2.1.1 (fun i => [.int .i64 ((u.2.1.2 i).1), .int .i64 ((u.2.1.2 i).2.1)]))]) := by kernel_rfl
theorem eg9c (v u : T_Graph) (k : Nat) :
    pathOb Try.prog Try.f85 0 [.reg [oT, oT, oT, oT, oT], .dec true, .reg [oT, oT, oT, oT, oT, oT, oT, oT, oT, oT, oT], .dec true, .reg [oT]] [.code (cAt (bodyOf Try.f85) [1, 1, 0, 1, 0, 0]), .inLoop (cAt (bodyOf Try.f85) [1, 1, 0, 1, 0, 0]), .inBlock 0, .code (cAt (bodyOf Try.f85) [1, 1, 1])] (SEg9 v u k) [] 1 [] (.p (.bool false)) =
    some [((0 : Nat) < 1),
  ((decide ((↑k : Int) < (↑v.2.1.1 : Int))) = true),
  ((0 : Nat) < 1),
  ((0 : Int) ≤ (↑k : Int)),
  (((↑k : Int) : Int) < (↑v.2.1.1 : Int)),
  ((0 : Nat) < 1),
  ((0 : Int) ≤ (↑k : Int)),
  (((↑k : Int) : Int) < (↑u.2.1.1 : Int)),
  ((!((v.2.1.2 k).1 == (u.2.1.2 k).1 && ((v.2.1.2 k).2.1 == (u.2.1.2 k).2.1 && true))) = true),
  (false = false)] := by kernel_rfl
theorem eg9d (v u : T_Graph) (k : Nat) :
    pathOb Try.prog Try.f85 0 [.reg [oT, oT, oT, oT, oT], .dec false, .reg [oT]] [.code (cAt (bodyOf Try.f85) [1, 1, 0, 1, 0, 0]), .inLoop (cAt (bodyOf Try.f85) [1, 1, 0, 1, 0, 0]), .inBlock 0, .code (cAt (bodyOf Try.f85) [1, 1, 1])] (SEg9 v u k) [] 1 [] (.p (.bool true)) =
    some [((0 : Nat) < 1),
  ((decide ((↑k : Int) < (↑v.2.1.1 : Int))) = false),
  (true = true)] := by kernel_rfl
theorem eg52 (v u : T_Graph) :
    pathOb Try.prog Try.f86 0 [.reg [oT, oT, oT], .reg [oT, oT, oT, oT, oT, oT, oT, oT, oT, oT, ⟨true, (some ⟨[], [], [], 1, [], .p (.bool (q_BarS v.2.1 u.2.1))⟩), none⟩, oT, oT]] [.code (bodyOf Try.f86)] (start Try.f86 [] 0 [graphA v, graphA u]) [] 1 [] (.p (.bool (eqGr v u))) =
    some [((0 : Nat) < 1),
  ((0 : Nat) < 1),
  (AG (v.1 == u.1)),
  (((v.1 == u.1) = true) → ((0 : Nat) < 1)),
  (AG (v.1 == u.1)),
  (((v.1 == u.1) = true) → ((0 : Nat) < 1)),
  (AG (v.1 == u.1)),
  (AG (v.1 == u.1)),
  (((v.1 == u.1) = true) → Con Try.prog 119 0 [] [.p (.seq true 2 v.2.1.1 (fun i => [.int .i64 ((v.2.1.2 i).1), .int .i64 ((v.2.1.2 i).2.1)])), .p (.seq true 2 u.2.1.1 (fun i => [.int .i64 ((u.2.1.2 i).1), .int .i64 ((u.2.1.2 i).2.1)]))] [] (.p (.bool (q_BarS v.2.1 u.2.1)))),
  (AG (v.1 == u.1)),
  ((bif v.1 == u.1 then q_BarS v.2.1 u.2.1 else false) = (eqGr v u))] := by kernel_rfl
theorem con_EqualGraphs_s (v u : T_Graph) (hn : v.2.1.1 ≤ 1048576) : Con Try.prog 85 0 [] [graphA v, graphA u] [] (.p (.bool (eqGr v u))) := by
  refine con_start Try.func85 rfl (by kernel_rfl) rfl (fun c hc => ?_)
  by_cases hz : v.1 = u.1 ∧ v.2.1.1 = u.2.1.1
  · rw [show eqGr v u = qT_BarS v.2.1.2 u.2.1.2 v.2.1.1 by simp [eqGr, q_BarS, hz.1, hz.2]]
    have lp : ∀ m k, k + m = v.2.1.1 → qT_BarS v.2.1.2 u.2.1.2 k = true → Run Try.prog c 85 [.code (cAt (bodyOf Try.f85) [1, 1, 0, 1, 0, 0]), .inLoop (cAt (bodyOf Try.f85) [1, 1, 0, 1, 0, 0]), .inBlock 0, .code (cAt (bodyOf Try.f85) [1, 1, 1])] (SEg9 v u k) (Post c [] (.p (.bool (qT_BarS v.2.1.2 u.2.1.2 v.2.1.1)))) := by
      intro m
      induction m with
      | zero =>
        intro k hk hg
        rw [show qT_BarS v.2.1.2 u.2.1.2 v.2.1.1 = true by rw [show v.2.1.1 = k by omega]; exact hg]
        have hd : decide ((k : Int) < (v.2.1.1 : Int)) = false := by simp; omega
        refine path_ok mixed Try.func85 hc (eg9d v u k) ?_
        simp only [All]
        repeat' (first | exact trivial | with_reducible apply And.intro)
        all_goals (first | exact aG _ | exact aP _ _ | exact aA _ _ | exact aE _ | omega | rfl | (intros; first | assumption | exact True.intro | rfl | exact absurd (show false = true by assumption) Bool.false_ne_true | ((repeat' (first | assumption | apply anda | apply notf)); done)))
      | succ m ih =>
        intro k hk hg
        have hd : decide ((k : Int) < (v.2.1.1 : Int)) = true := by simp; omega
        cases he : q1_BarS (v.2.1.2 k) (u.2.1.2 k) with
        | false =>
          rw [qT_BarS_bad _ _ k he v.2.1.1 (by omega)]
          have he' : (!q1_BarS (v.2.1.2 k) (u.2.1.2 k)) = true := notf he
          refine path_ok mixed Try.func85 hc (eg9c v u k) ?_
          simp only [All]
          repeat' (first | exact trivial | with_reducible apply And.intro)
          all_goals (first | exact aG _ | exact aP _ _ | exact aA _ _ | exact aE _ | omega | rfl | (intros; first | assumption | exact True.intro | rfl | exact absurd (show false = true by assumption) Bool.false_ne_true | ((repeat' (first | assumption | apply anda | apply notf)); done)) | exact he')
        | true =>
          have he' : (!q1_BarS (v.2.1.2 k) (u.2.1.2 k)) = false := nott he
          refine piece_ok mixed hc (eg9b v u k) ?_ (ih (k + 1) (by omega) (by simp [qT_BarS, hg, he]))
          simp only [All]
          repeat' (first | exact trivial | with_reducible apply And.intro)
          all_goals (first | exact aG _ | exact aP _ _ | exact aA _ _ | exact aE _ | omega | rfl | (intros; first | assumption | exact True.intro | rfl | exact absurd (show false = true by assumption) Bool.false_ne_true | ((repeat' (first | assumption | apply anda | apply notf)); done)) | exact he' | (simp [All]))
    refine piece_ok mixed hc (eg9a v u) ?_ (lp v.2.1.1 0 (by omega) rfl)
    simp only [All]
    repeat' (first | exact trivial | with_reducible apply And.intro)
    all_goals (first | exact aG _ | exact aP _ _ | exact aA _ _ | exact aE _ | omega | rfl | (intros; first | assumption | exact True.intro | rfl | exact absurd (show false = true by assumption) Bool.false_ne_true | ((repeat' (first | assumption | apply anda | apply notf)); done)) | (intro h; simp [h]) | (simp [hz.1, hz.2]) | (simp [All]))
  · have hr : eqGr v u = false := by
      simp only [eqGr, q_BarS]
      by_cases h1 : v.1 = u.1
      · have h2 : ¬ v.2.1.1 = u.2.1.1 := fun h => hz ⟨h1, h⟩
        simp [h1, h2]
      · have : (v.1 == u.1) = false := by simpa using h1
        rw [this]; rfl
    rw [hr]
    have hb : (bif v.1 != u.1 then true else (v.2.1.1 : Int) != (u.2.1.1 : Int)) = true := by
      by_cases h1 : v.1 = u.1
      · have h2 : ¬ v.2.1.1 = u.2.1.1 := fun h => hz ⟨h1, h⟩
        simp [h1]; omega
      · simp [h1]
    refine path_ok mixed Try.func85 hc (eg9z v u) ?_
    simp only [All]
    repeat' (first | exact trivial | with_reducible apply And.intro)
    all_goals (first | exact aG _ | exact aP _ _ | exact aA _ _ | exact aE _ | omega | rfl | (intros; first | assumption | exact True.intro | rfl | exact absurd (show false = true by assumption) Bool.false_ne_true | ((repeat' (first | assumption | apply anda | apply notf)); done)))
theorem con_EqualGraphs_i (v u : T_Graph) (hn : v.2.1.1 ≤ 1048576) : Con Try.prog 86 0 [] [graphA v, graphA u] [] (.p (.bool (eqGr v u))) := by
  refine con_start Try.func86 rfl (by kernel_rfl) rfl (fun c hc => ?_)
  refine path_ok mixed Try.func86 hc (eg52 v u) ?_
  simp only [All]
  repeat' (first | exact trivial | with_reducible apply And.intro)
  all_goals (first | exact aG _ | exact aP _ _ | exact aA _ _ | exact aE _ | omega | rfl | (intros; first | assumption | exact True.intro | rfl | exact absurd (show false = true by assumption) Bool.false_ne_true | ((repeat' (first | assumption | apply anda | apply notf)); done)) | (intros; exact con_seBarS v.2.1 u.2.1 hn))
end Go.Proofs.Ytgdbnnmogddkaaa.Mach
namespace Go.Proofs.Ytgdbnnmogddkaaa.Mach
open Go Go.Sort
set_option linter.unusedVariables false
set_option linter.unusedSimpArgs false
theorem iIi (v u x y : T_Graph) (a b q : Bool) :
    pathOb Try.prog Try.f39 0 [.reg [oT, oT, oT], .reg [oT, ⟨true, (some ⟨[], [], [], 1, [(0, brOb x.2.1.1 x.2.1.2)], .tup [.agg [.p (.int .i64 x.1), .ar 2 0 0 x.2.1.1], .p (.bool a)]⟩), none⟩, oT, oT, oT, oT, oT, oT], .reg [oT, ⟨true, (some ⟨[], [], [], 1, [(0, brOb y.2.1.1 y.2.1.2)], .tup [.agg [.p (.int .i64 y.1), .ar 2 0 0 y.2.1.1], .p (.bool b)]⟩), none⟩, oT, oT, oT, oT, oT, oT], .reg [oT, oT, oT, oT, oT, oT, oT, ⟨true, (some ⟨[], [], [], 1, [], .p (.bool q)⟩), none⟩, oT, oT]] [.code (bodyOf Try.f39)] (start Try.f39 [] 0 [graphA v, graphA u]) [] 1 [] (.p (.bool (bif (bif a then b else false) then q else false))) =
    some [((0 : Nat) < 1),
  Con Try.prog 34 0 [] [.agg [.p (.int .i64 v.1), .p (.seq true 2 v.2.1.1 (fun i => [.int .i64 ((v.2.1.2 i).1), .int .i64 ((v.2.1.2 i).2.1)]))]] [(0, ⟨false, 2, x.2.1.1, (fun i => [.p (.int .i64 ((x.2.1.2 i).1)), .p (.int .i64 ((x.2.1.2 i).2.1))])⟩)] (.tup [.agg [.p (.int .i64 x.1), .ar 2 0 0 x.2.1.1], .p (.bool a)]),
  ((0 : Nat) < 1),
  ((true = true) → (AN 1)),
  ((0 : Nat) < 1),
  Con Try.prog 34 0 [] [.agg [.p (.int .i64 u.1), .p (.seq true 2 u.2.1.1 (fun i => [.int .i64 ((u.2.1.2 i).1), .int .i64 ((u.2.1.2 i).2.1)]))]] [(0, ⟨false, 2, y.2.1.1, (fun i => [.p (.int .i64 ((y.2.1.2 i).1)), .p (.int .i64 ((y.2.1.2 i).2.1))])⟩)] (.tup [.agg [.p (.int .i64 y.1), .ar 2 0 0 y.2.1.1], .p (.bool b)]),
  ((0 : Nat) < 1),
  ((true = true) → (AN 1)),
  (AG a),
  (((bif a then b else false) = true) → ((0 : Nat) < 1)),
  (((bif a then b else false) = true) → ((0 : Nat) < 1)),
  (AG (bif a then b else false)),
  (AG (bif a then b else false)),
  (((bif a then b else false) = true) → (AN 2)),
  (((bif a then b else false) = true) → ((x.2.1.1 : Nat) ≤ x.2.1.1)),
  (((bif a then b else false) = true) → (AN 2)),
  (((bif a then b else false) = true) → ((y.2.1.1 : Nat) ≤ y.2.1.1)),
  (((bif a then b else false) = true) → Con Try.prog 86 0 [] [.agg [.p (.int .i64 x.1), .p (.seq true 2 x.2.1.1 (fun i => [.int .i64 ((x.2.1.2 i).1), .int .i64 ((x.2.1.2 i).2.1)]))], .agg [.p (.int .i64 y.1), .p (.seq true 2 y.2.1.1 (fun i => [.int .i64 ((y.2.1.2 i).1), .int .i64 ((y.2.1.2 i).2.1)]))]] [] (.p (.bool q))),
  (AG (bif a then b else false)),
  ((bif bif a then b else false then q else false) = (bif bif a then b else false then q else false))] := by kernel_rfl
theorem iIs (v u x y : T_Graph) (a b q : Bool) :
    pathOb Try.prog Try.f38 0 [.reg [oT, oT, oT], .reg [oT, ⟨true, (some ⟨[], [], [], 1, [(0, brOb x.2.1.1 x.2.1.2)], .tup [.agg [.p (.int .i64 x.1), .ar 2 0 0 x.2.1.1], .p (.bool a)]⟩), none⟩, oT, oT, oT, oT, oT, oT], .reg [oT, ⟨true, (some ⟨[], [], [], 1, [(0, brOb y.2.1.1 y.2.1.2)], .tup [.agg [.p (.int .i64 y.1), .ar 2 0 0 y.2.1.1], .p (.bool b)]⟩), none⟩, oT, oT, oT, oT, oT, oT], .reg [oT, oT, oT, oT, oT, oT, oT, ⟨true, (some ⟨[], [], [], 1, [], .p (.bool q)⟩), none⟩, oT, oT]] [.code (bodyOf Try.f38)] (start Try.f38 [] 0 [graphA v, graphA u]) [] 1 [] (.p (.bool (bif (bif a then b else false) then q else false))) =
    some [((0 : Nat) < 1),
  Con Try.prog 32 0 [] [.agg [.p (.int .i64 v.1), .p (.seq true 2 v.2.1.1 (fun i => [.int .i64 ((v.2.1.2 i).1), .int .i64 ((v.2.1.2 i).2.1)]))]] [(0, ⟨false, 2, x.2.1.1, (fun i => [.p (.int .i64 ((x.2.1.2 i).1)), .p (.int .i64 ((x.2.1.2 i).2.1))])⟩)] (.tup [.agg [.p (.int .i64 x.1), .ar 2 0 0 x.2.1.1], .p (.bool a)]),
  ((0 : Nat) < 1),
  ((true = true) → (AN 1)),
  ((0 : Nat) < 1),
  Con Try.prog 32 0 [] [.agg [.p (.int .i64 u.1), .p (.seq true 2 u.2.1.1 (fun i => [.int .i64 ((u.2.1.2 i).1), .int .i64 ((u.2.1.2 i).2.1)]))]] [(0, ⟨false, 2, y.2.1.1, (fun i => [.p (.int .i64 ((y.2.1.2 i).1)), .p (.int .i64 ((y.2.1.2 i).2.1))])⟩)] (.tup [.agg [.p (.int .i64 y.1), .ar 2 0 0 y.2.1.1], .p (.bool b)]),
  ((0 : Nat) < 1),
  ((true = true) → (AN 1)),
  (AG a),
  (((bif a then b else false) = true) → ((0 : Nat) < 1)),
  (((bif a then b else false) = true) → ((0 : Nat) < 1)),
  (AG (bif a then b else false)),
  (AG (bif a then b else false)),
  (((bif a then b else false) = true) → (AN 2)),
  (((bif a then b else false) = true) → ((x.2.1.1 : Nat) ≤ x.2.1.1)),
  (((bif a then b else false) = true) → (AN 2)),
  (((bif a then b else false) = true) → ((y.2.1.1 : Nat) ≤ y.2.1.1)),
  (((bif a then b else false) = true) → Con Try.prog 85 0 [] [.agg [.p (.int .i64 x.1), .p (.seq true 2 x.2.1.1 (fun i => [.int .i64 ((x.2.1.2 i).1), .int .i64 ((x.2.1.2 i).2.1)]))], .agg [.p (.int .i64 y.1), .p (.seq true 2 y.2.1.1 (fun i => [.int .i64 ((y.2.1.2 i).1), .int .i64 ((y.2.1.2 i).2.1)]))]] [] (.p (.bool q))),
  (AG (bif a then b else false)),
  ((bif bif a then b else false then q else false) = (bif bif a then b else false then q else false))] := by kernel_rfl
def isB' (v u : T_Graph) : Bool := bif (bif cnB v then cnB u else false) then eqGr (cnG v) (cnG u) else false
theorem con_Iso_i (v u : T_Graph) (hs : smS s_Graph v) (hu : smS s_Graph u) : Con Try.prog 39 0 [] [graphA v, graphA u] [] (.p (.bool (isB' v u))) := by
  have c1 := con_Canon_i v hs
  have c2 := con_Canon_i u hu
  have c3 := con_EqualGraphs_i (cnG v) (cnG u) (by have := cnG_n v; omega)
  refine con_start Try.func39 rfl (by kernel_rfl) rfl (fun c hc => ?_)
  refine path_ok mixed Try.func39 hc (iIi v u (cnG v) (cnG u) (cnB v) (cnB u) (eqGr (cnG v) (cnG u))) ?_
  simp only [All]
  repeat' (first | exact trivial | with_reducible apply And.intro)
  all_goals (first | exact aG _ | exact aP _ _ | exact aA _ _ | exact aE _ | omega | rfl | (intros; first | assumption | exact True.intro | rfl | exact absurd (show false = true by assumption) Bool.false_ne_true | ((repeat' (first | assumption | apply anda | apply notf)); done)) | (exact c1) | (exact c2) | (intros; exact c3))
theorem con_Iso_s (v u : T_Graph) (hs : smS s_Graph v) (hu : smS s_Graph u) : Con Try.prog 38 0 [] [graphA v, graphA u] [] (.p (.bool (isB' v u))) := by
  have c1 := con_Canon_s v hs
  have c2 := con_Canon_s u hu
  have c3 := con_EqualGraphs_s (cnG v) (cnG u) (by have := cnG_n v; omega)
  refine con_start Try.func38 rfl (by kernel_rfl) rfl (fun c hc => ?_)
  refine path_ok mixed Try.func38 hc (iIs v u (cnG v) (cnG u) (cnB v) (cnB u) (eqGr (cnG v) (cnG u))) ?_
  simp only [All]
  repeat' (first | exact trivial | with_reducible apply And.intro)
  all_goals (first | exact aG _ | exact aP _ _ | exact aA _ _ | exact aE _ | omega | rfl | (intros; first | assumption | exact True.intro | rfl | exact absurd (show false = true by assumption) Bool.false_ne_true | ((repeat' (first | assumption | apply anda | apply notf)); done)) | (exact c1) | (exact c2) | (intros; exact c3))
end Go.Proofs.Ytgdbnnmogddkaaa.Mach
namespace Go.Proofs.Ytgdbnnmogddkaaa.Mach
open Go
set_option linter.unusedVariables false
set_option linter.unusedSimpArgs false
theorem p_FnExactAreIsomorphic_0 (v0 : T_Graph) (v1 : T_Graph) :
    pathOb Try.prog Try.f9 0 [.reg [oT, oT, oT], .reg [oT], .reg [oT, oT, ⟨true, (some ⟨[], [], [], 1, [], .p (.int .i64 (f_szGraph v0 1048576))⟩), none⟩, oT], .reg [oT, oT], .dec true, .reg [oT]] [.code (bodyOf Try.f9)] (start Try.f9 [] 0 [.agg [.p (.int .i64 v0.1), .p (.seq true 2 v0.2.1.1 (fun i => [.int .i64 ((v0.2.1.2 i).1), .int .i64 ((v0.2.1.2 i).2.1)]))], .agg [.p (.int .i64 v1.1), .p (.seq true 2 v1.2.1.1 (fun i => [.int .i64 ((v1.2.1.2 i).1), .int .i64 ((v1.2.1.2 i).2.1)]))]]) [] 1 [] (.p (.bool true)) =
    some [((0 : Nat) < 1),
  Con Try.prog 31 0 [] [.agg [.p (.int .i64 v0.1), .p (.seq true 2 v0.2.1.1 (fun i => [.int .i64 ((v0.2.1.2 i).1), .int .i64 ((v0.2.1.2 i).2.1)]))], .p (.int .i64 1048576)] [] (.p (.int .i64 (f_szGraph v0 1048576))),
  ((decide (f_szGraph v0 1048576 < 0)) = true),
  (true = true)] := by kernel_rfl
theorem p_FnExactAreIsomorphic_1 (v0 : T_Graph) (v1 : T_Graph) :
    pathOb Try.prog Try.f9 0 [.reg [oT, oT, oT], .reg [oT], .reg [oT, oT, ⟨true, (some ⟨[], [], [], 1, [], .p (.int .i64 (f_szGraph v0 1048576))⟩), none⟩, oT], .reg [oT, oT], .dec false, .reg [oT, oT, ⟨true, (some ⟨[], [], [], 1, [], .p (.int .i64 (f_szGraph v1 (f_szGraph v0 1048576)))⟩), none⟩, oT], .reg [oT, oT], .dec true, .reg [oT]] [.code (bodyOf Try.f9)] (start Try.f9 [] 0 [.agg [.p (.int .i64 v0.1), .p (.seq true 2 v0.2.1.1 (fun i => [.int .i64 ((v0.2.1.2 i).1), .int .i64 ((v0.2.1.2 i).2.1)]))], .agg [.p (.int .i64 v1.1), .p (.seq true 2 v1.2.1.1 (fun i => [.int .i64 ((v1.2.1.2 i).1), .int .i64 ((v1.2.1.2 i).2.1)]))]]) [] 1 [] (.p (.bool true)) =
    some [((0 : Nat) < 1),
  Con Try.prog 31 0 [] [.agg [.p (.int .i64 v0.1), .p (.seq true 2 v0.2.1.1 (fun i => [.int .i64 ((v0.2.1.2 i).1), .int .i64 ((v0.2.1.2 i).2.1)]))], .p (.int .i64 1048576)] [] (.p (.int .i64 (f_szGraph v0 1048576))),
  ((decide (f_szGraph v0 1048576 < 0)) = false),
  ((0 : Nat) < 1),
  Con Try.prog 31 0 [] [.agg [.p (.int .i64 v1.1), .p (.seq true 2 v1.2.1.1 (fun i => [.int .i64 ((v1.2.1.2 i).1), .int .i64 ((v1.2.1.2 i).2.1)]))], .p (.int .i64 (f_szGraph v0 1048576))] [] (.p (.int .i64 (f_szGraph v1 (f_szGraph v0 1048576)))),
  ((decide (f_szGraph v1 (f_szGraph v0 1048576) < 0)) = true),
  (true = true)] := by kernel_rfl
theorem p_FnExactAreIsomorphic_e (v0 : T_Graph) (v1 : T_Graph) :
    pathOb Try.prog Try.f9 0 [.reg [oT, oT, oT], .reg [oT], .reg [oT, oT, ⟨true, (some ⟨[], [], [], 1, [], .p (.int .i64 (f_szGraph v0 1048576))⟩), none⟩, oT], .reg [oT, oT], .dec false, .reg [oT, oT, ⟨true, (some ⟨[], [], [], 1, [], .p (.int .i64 (f_szGraph v1 (f_szGraph v0 1048576)))⟩), none⟩, oT], .reg [oT, oT], .dec false, .reg [oT, ⟨true, (some ⟨[], [], [], 1, [(0, ⟨false, 2, v0.2.1.1, fun i => [.p (.int .i64 ((v0.2.1.2 i).1)), .p (.int .i64 ((v0.2.1.2 i).2.1))]⟩)], .agg [.p (.int .i64 v0.1), .ar 2 0 0 v0.2.1.1]⟩), none⟩, oT, ⟨true, (some ⟨[], [], [], 1, [(0, ⟨false, 2, v1.2.1.1, fun i => [.p (.int .i64 ((v1.2.1.2 i).1)), .p (.int .i64 ((v1.2.1.2 i).2.1))]⟩)], .agg [.p (.int .i64 v1.1), .ar 2 0 0 v1.2.1.1]⟩), none⟩, ⟨true, (some ⟨[], [], [], 1, [], .p (.bool (isB' v0 v1))⟩), none⟩, oT], .reg [oT, ⟨true, (some ⟨[], [], [], 1, [(0, ⟨false, 2, v0.2.1.1, fun i => [.p (.int .i64 ((v0.2.1.2 i).1)), .p (.int .i64 ((v0.2.1.2 i).2.1))]⟩)], .agg [.p (.int .i64 v0.1), .ar 2 0 0 v0.2.1.1]⟩), none⟩, oT, oT], .reg [oT, ⟨true, (some ⟨[], [], [], 1, [(0, ⟨false, 2, v1.2.1.1, fun i => [.p (.int .i64 ((v1.2.1.2 i).1)), .p (.int .i64 ((v1.2.1.2 i).2.1))]⟩)], .agg [.p (.int .i64 v1.1), .ar 2 0 0 v1.2.1.1]⟩), none⟩, oT, oT], .reg [oT, oT, ⟨true, (some ⟨[], [], [], 1, [], .p (.bool (isB' v0 v1))⟩), none⟩, oT], .reg [oT, oT, oT], .dec false, .reg [oT, oT, ⟨true, (some ⟨[], [], [], 1, [(0, ⟨false, 2, v0.2.1.1, fun i => [.p (.int .i64 ((v0.2.1.2 i).1)), .p (.int .i64 ((v0.2.1.2 i).2.1))]⟩)], .agg [.p (.int .i64 v0.1), .ar 2 0 0 v0.2.1.1]⟩), none⟩, ⟨true, (some ⟨[], [], [], 1, [], .p (.bool true)⟩), none⟩, oT], .dec false, .reg [oT, oT, ⟨true, (some ⟨[], [], [], 1, [(0, ⟨false, 2, v1.2.1.1, fun i => [.p (.int .i64 ((v1.2.1.2 i).1)), .p (.int .i64 ((v1.2.1.2 i).2.1))]⟩)], .agg [.p (.int .i64 v1.1), .ar 2 0 0 v1.2.1.1]⟩), none⟩, ⟨true, (some ⟨[], [], [], 1, [], .p (.bool true)⟩), none⟩, oT], .dec false, .reg [oT]] [.code (bodyOf Try.f9)] (start Try.f9 [] 0 [.agg [.p (.int .i64 v0.1), .p (.seq true 2 v0.2.1.1 (fun i => [.int .i64 ((v0.2.1.2 i).1), .int .i64 ((v0.2.1.2 i).2.1)]))], .agg [.p (.int .i64 v1.1), .p (.seq true 2 v1.2.1.1 (fun i => [.int .i64 ((v1.2.1.2 i).1), .int .i64 ((v1.2.1.2 i).2.1)]))]]) [] 1 [] (.p (.bool true)) =
    some [((0 : Nat) < 1),
  Con Try.prog 31 0 [] [.agg [.p (.int .i64 v0.1), .p (.seq true 2 v0.2.1.1 (fun i => [.int .i64 ((v0.2.1.2 i).1), .int .i64 ((v0.2.1.2 i).2.1)]))], .p (.int .i64 1048576)] [] (.p (.int .i64 (f_szGraph v0 1048576))),
  ((decide (f_szGraph v0 1048576 < 0)) = false),
  ((0 : Nat) < 1),
  Con Try.prog 31 0 [] [.agg [.p (.int .i64 v1.1), .p (.seq true 2 v1.2.1.1 (fun i => [.int .i64 ((v1.2.1.2 i).1), .int .i64 ((v1.2.1.2 i).2.1)]))], .p (.int .i64 (f_szGraph v0 1048576))] [] (.p (.int .i64 (f_szGraph v1 (f_szGraph v0 1048576)))),
  ((decide (f_szGraph v1 (f_szGraph v0 1048576) < 0)) = false),
  ((0 : Nat) < 1),
  Con Try.prog 33 0 [] [.agg [.p (.int .i64 v0.1), .p (.seq true 2 v0.2.1.1 (fun i => [.int .i64 ((v0.2.1.2 i).1), .int .i64 ((v0.2.1.2 i).2.1)]))]] [(0, ⟨false, 2, v0.2.1.1, (fun i => [.p (.int .i64 ((v0.2.1.2 i).1)), .p (.int .i64 ((v0.2.1.2 i).2.1))])⟩)] (.agg [.p (.int .i64 v0.1), .ar 2 0 0 v0.2.1.1]),
  ((0 : Nat) < 1),
  Con Try.prog 33 0 [] [.agg [.p (.int .i64 v1.1), .p (.seq true 2 v1.2.1.1 (fun i => [.int .i64 ((v1.2.1.2 i).1), .int .i64 ((v1.2.1.2 i).2.1)]))]] [(0, ⟨false, 2, v1.2.1.1, (fun i => [.p (.int .i64 ((v1.2.1.2 i).1)), .p (.int .i64 ((v1.2.1.2 i).2.1))])⟩)] (.agg [.p (.int .i64 v1.1), .ar 2 0 0 v1.2.1.1]),
  (AN 2),
  ((v0.2.1.1 : Nat) ≤ v0.2.1.1),
  (AN 2),
  ((v1.2.1.1 : Nat) ≤ v1.2.1.1),
  Con Try.prog 38 0 [] [.agg [.p (.int .i64 v0.1), .p (.seq true 2 v0.2.1.1 (fun i => [.int .i64 ((v0.2.1.2 i).1), .int .i64 ((v0.2.1.2 i).2.1)]))], .agg [.p (.int .i64 v1.1), .p (.seq true 2 v1.2.1.1 (fun i => [.int .i64 ((v1.2.1.2 i).1), .int .i64 ((v1.2.1.2 i).2.1)]))]] [] (.p (.bool (isB' v0 v1))),
  ((0 : Nat) < 1),
  Con Try.prog 33 0 [] [.agg [.p (.int .i64 v0.1), .p (.seq true 2 v0.2.1.1 (fun i => [.int .i64 ((v0.2.1.2 i).1), .int .i64 ((v0.2.1.2 i).2.1)]))]] [(0, ⟨false, 2, v0.2.1.1, (fun i => [.p (.int .i64 ((v0.2.1.2 i).1)), .p (.int .i64 ((v0.2.1.2 i).2.1))])⟩)] (.agg [.p (.int .i64 v0.1), .ar 2 0 0 v0.2.1.1]),
  ((0 : Nat) < 1),
  ((true = true) → (AN 1)),
  ((0 : Nat) < 1),
  Con Try.prog 33 0 [] [.agg [.p (.int .i64 v1.1), .p (.seq true 2 v1.2.1.1 (fun i => [.int .i64 ((v1.2.1.2 i).1), .int .i64 ((v1.2.1.2 i).2.1)]))]] [(0, ⟨false, 2, v1.2.1.1, (fun i => [.p (.int .i64 ((v1.2.1.2 i).1)), .p (.int .i64 ((v1.2.1.2 i).2.1))])⟩)] (.agg [.p (.int .i64 v1.1), .ar 2 0 0 v1.2.1.1]),
  ((0 : Nat) < 1),
  ((true = true) → (AN 1)),
  ((0 : Nat) < 1),
  ((0 : Nat) < 1),
  (AN 2),
  ((v0.2.1.1 : Nat) ≤ v0.2.1.1),
  (AN 2),
  ((v1.2.1.1 : Nat) ≤ v1.2.1.1),
  Con Try.prog 39 0 [] [.agg [.p (.int .i64 v0.1), .p (.seq true 2 v0.2.1.1 (fun i => [.int .i64 ((v0.2.1.2 i).1), .int .i64 ((v0.2.1.2 i).2.1)]))], .agg [.p (.int .i64 v1.1), .p (.seq true 2 v1.2.1.1 (fun i => [.int .i64 ((v1.2.1.2 i).1), .int .i64 ((v1.2.1.2 i).2.1)]))]] [] (.p (.bool (isB' v0 v1))),
  ((!isB' v0 v1 == isB' v0 v1) = false),
  ((0 : Nat) < 1),
  ((0 : Nat) < 1),
  Con Try.prog 33 0 [] [.agg [.p (.int .i64 v0.1), .p (.seq true 2 v0.2.1.1 (fun i => [.int .i64 ((v0.2.1.2 i).1), .int .i64 ((v0.2.1.2 i).2.1)]))]] [(0, ⟨false, 2, v0.2.1.1, (fun i => [.p (.int .i64 ((v0.2.1.2 i).1)), .p (.int .i64 ((v0.2.1.2 i).2.1))])⟩)] (.agg [.p (.int .i64 v0.1), .ar 2 0 0 v0.2.1.1]),
  (AN 2),
  ((v0.2.1.1 : Nat) ≤ v0.2.1.1),
  (AN 2),
  ((v0.2.1.1 : Nat) ≤ v0.2.1.1),
  Con Try.prog 35 0 [] [.agg [.p (.int .i64 v0.1), .p (.seq true 2 v0.2.1.1 (fun i => [.int .i64 ((v0.2.1.2 i).1), .int .i64 ((v0.2.1.2 i).2.1)]))], .agg [.p (.int .i64 v0.1), .p (.seq true 2 v0.2.1.1 (fun i => [.int .i64 ((v0.2.1.2 i).1), .int .i64 ((v0.2.1.2 i).2.1)]))]] [] (.p (.bool true)),
  ((!true) = false),
  ((0 : Nat) < 1),
  ((0 : Nat) < 1),
  Con Try.prog 33 0 [] [.agg [.p (.int .i64 v1.1), .p (.seq true 2 v1.2.1.1 (fun i => [.int .i64 ((v1.2.1.2 i).1), .int .i64 ((v1.2.1.2 i).2.1)]))]] [(0, ⟨false, 2, v1.2.1.1, (fun i => [.p (.int .i64 ((v1.2.1.2 i).1)), .p (.int .i64 ((v1.2.1.2 i).2.1))])⟩)] (.agg [.p (.int .i64 v1.1), .ar 2 0 0 v1.2.1.1]),
  (AN 2),
  ((v1.2.1.1 : Nat) ≤ v1.2.1.1),
  (AN 2),
  ((v1.2.1.1 : Nat) ≤ v1.2.1.1),
  Con Try.prog 35 0 [] [.agg [.p (.int .i64 v1.1), .p (.seq true 2 v1.2.1.1 (fun i => [.int .i64 ((v1.2.1.2 i).1), .int .i64 ((v1.2.1.2 i).2.1)]))], .agg [.p (.int .i64 v1.1), .p (.seq true 2 v1.2.1.1 (fun i => [.int .i64 ((v1.2.1.2 i).1), .int .i64 ((v1.2.1.2 i).2.1)]))]] [] (.p (.bool true)),
  ((!true) = false),
  (true = true)] := by kernel_rfl
theorem con_law_FnExactAreIsomorphic (v0 : T_Graph) (v1 : T_Graph) (k0 : okS s_Graph v0) (k1 : okS s_Graph v1) : Con Try.prog 9 0 [] [.agg [.p (.int .i64 v0.1), .p (.seq true 2 v0.2.1.1 (fun i => [.int .i64 ((v0.2.1.2 i).1), .int .i64 ((v0.2.1.2 i).2.1)]))], .agg [.p (.int .i64 v1.1), .p (.seq true 2 v1.2.1.1 (fun i => [.int .i64 ((v1.2.1.2 i).1), .int .i64 ((v1.2.1.2 i).2.1)]))]] [] (.p (.bool true)) := by
  refine con_start Try.func9 rfl (by kernel_rfl) rfl (fun c hc => ?_)
  have l0 := le_szGraph v0 1048576 (by omega)
  by_cases g0 : (f_szGraph v0 1048576) < 0
  · refine path_ok mixed Try.func9 hc (p_FnExactAreIsomorphic_0 v0 v1) ?_
    simp only [All]
    repeat' (first | exact trivial | with_reducible apply And.intro)
    all_goals (first | exact aG _ | exact aP _ _ | exact aA _ _ | exact aE _ | omega | rfl | (intros; first | assumption | exact True.intro | rfl | exact absurd (show false = true by assumption) Bool.false_ne_true | ((repeat' (first | assumption | apply anda | apply notf)); done)) | (exact con_szGraph v0 k0 _ (by omega) (by omega)) | (simp; omega))
  have hs0 := sm_szGraph v0 1048576 (by omega) (by omega) g0
  have l1 := le_szGraph v1 (f_szGraph v0 1048576) (by omega)
  by_cases g1 : (f_szGraph v1 (f_szGraph v0 1048576)) < 0
  · refine path_ok mixed Try.func9 hc (p_FnExactAreIsomorphic_1 v0 v1) ?_
    simp only [All]
    repeat' (first | exact trivial | with_reducible apply And.intro)
    all_goals (first | exact aG _ | exact aP _ _ | exact aA _ _ | exact aE _ | omega | rfl | (intros; first | assumption | exact True.intro | rfl | exact absurd (show false = true by assumption) Bool.false_ne_true | ((repeat' (first | assumption | apply anda | apply notf)); done)) | (exact con_szGraph v0 k0 _ (by omega) (by omega)) | (exact con_szGraph v1 k1 _ (by omega) (by omega)) | (simp; omega))
  have hs1 := sm_szGraph v1 (f_szGraph v0 1048576) (by omega) (by omega) g1
  refine path_ok mixed Try.func9 hc (p_FnExactAreIsomorphic_e v0 v1) ?_
  simp only [All]
  repeat' (first | exact trivial | with_reducible apply And.intro)
  all_goals (first | exact aG _ | exact aP _ _ | exact aA _ _ | exact aE _ | omega | rfl | (intros; first | assumption | exact True.intro | rfl | exact absurd (show false = true by assumption) Bool.false_ne_true | ((repeat' (first | assumption | apply anda | apply notf)); done)) | (exact con_szGraph v0 k0 _ (by omega) (by omega)) | (exact con_szGraph v1 k1 _ (by omega) (by omega)) | (exact con_toGraph v0 hs0) | (exact con_toGraph v1 hs1) | (exact con_Iso_s v0 v1 hs0 hs1) | (exact con_Iso_i v0 v1 hs0 hs1) | (exact con_eqGraph v0 hs0) | (exact con_eqGraph v1 hs1) | (simp; try omega))
end Go.Proofs.Ytgdbnnmogddkaaa.Mach
