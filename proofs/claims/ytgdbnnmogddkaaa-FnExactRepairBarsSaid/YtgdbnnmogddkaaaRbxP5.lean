/- What the law Rbx needs, part 5 of 6: the abstract machine and the contracts of the functions. Conditions: as each theorem says. -/
import Derived.Test.YtgdbnnmogddkaaaRbxP4
namespace Go.Proofs.Ytgdbnnmogddkaaa.Mach
open Go
set_option linter.unusedVariables false
set_option linter.unusedSimpArgs false
def headP (v : T_Pinned) : Bool :=
  bif bif bif bif !isGraphF v.1 then true else dblB v.1.2.1.2 v.1.2.1.1 then true else decide ((v.2.1.1 : Int) < 2) then true else decide ((v.1.2.1.1 : Int) > 15) then true else decide ((v.1.2.1.1 : Int) + 2 * (v.2.1.1 : Int) - 3 > 24)
def S57a (v : T_Pinned) (k : Nat) : St :=
  ⟨[pinA v, .pt 3 0 0 0, .p .any, .pt 2 1 0 0] ++ List.replicate 38 anyA ++ [inL v.2.1, .p (.int .i64 v.2.1.1), .p (.int .i64 k)] ++ List.replicate 43 anyA, [(0, boxP v), (1, boxG v.1)], 2⟩
def S57b (v : T_Pinned) (k : Nat) : St :=
  ⟨[pinA v, .pt 3 0 0 0, .p .any, .p .any] ++ List.replicate 65 anyA ++ [graphL v.1.2.1, .p (.int .i64 v.1.2.1.1), .p (.int .i64 k)] ++ List.replicate 16 anyA, [(0, boxP v)], 1⟩
theorem p57z (v : T_Pinned) :
    pathOb Try.prog Try.f52 0 [.reg [oT, oT], .reg [oT, oT, oT, oT], .reg [oT, ⟨true, (some ⟨[], [], 1, [], .p (.bool (isGraphF v.1))⟩), none⟩, oT, oT, oT, ⟨true, (some ⟨[], [], 1, [], .p (.bool (dblB v.1.2.1.2 v.1.2.1.1))⟩), none⟩, oT, oT, oT, oT, oT, oT, oT, oT, oT, oT, oT, oT, oT, oT, oT, oT, oT, oT, oT, oT, oT, oT, oT, oT, oT], .dec true, .reg [oT]] [.code (bodyOf Try.f52)] (start Try.f52 [] 0 [pinA v]) [] 1 [] (.p (.bool false)) =
    some [((0 : Nat) < 1),
  ((0 : Nat) < 1),
  ((true = true) → ((1 : Nat) = 1)),
  ((0 : Nat) < 1),
  Con Try.prog 77 0 [] [.agg [.p (.int .i64 v.1.1), .p (.seq true 2 v.1.2.1.1 (fun i => [.int .i64 ((v.1.2.1.2 i).1), .int .i64 ((v.1.2.1.2 i).2.1)]))]] [] (.p (.bool (isGraphF v.1))),
  (((!!isGraphF v.1) = true) → ((0 : Nat) < 1)),
  (((!!isGraphF v.1) = true) → ((!!isGraphF v.1) = true)),
  (((!!isGraphF v.1) = true) → Con Try.prog 100 0 [] [.agg [.p (.int .i64 v.1.1), .p (.seq true 2 v.1.2.1.1 (fun i => [.int .i64 ((v.1.2.1.2 i).1), .int .i64 ((v.1.2.1.2 i).2.1)]))]] [] (.p (.bool (dblB v.1.2.1.2 v.1.2.1.1)))),
  (((!isGraphF v.1) = false) → ((!!isGraphF v.1) = true)),
  (((!bif !isGraphF v.1 then true else dblB v.1.2.1.2 v.1.2.1.1) = true) → ((!bif !isGraphF v.1 then true else dblB v.1.2.1.2 v.1.2.1.1) = true)),
  (((!bif !isGraphF v.1 then true else dblB v.1.2.1.2 v.1.2.1.1) = true) → ((0 : Nat) < 1)),
  (((!bif !isGraphF v.1 then true else dblB v.1.2.1.2 v.1.2.1.1) = true) → ((!bif !isGraphF v.1 then true else dblB v.1.2.1.2 v.1.2.1.1) = true)),
  (((!bif !isGraphF v.1 then true else dblB v.1.2.1.2 v.1.2.1.1) = true) → ((!bif !isGraphF v.1 then true else dblB v.1.2.1.2 v.1.2.1.1) = true)),
  (((bif !isGraphF v.1 then true else dblB v.1.2.1.2 v.1.2.1.1) = false) → ((!bif !isGraphF v.1 then true else dblB v.1.2.1.2 v.1.2.1.1) = true)),
  (((!bif bif !isGraphF v.1 then true else dblB v.1.2.1.2 v.1.2.1.1 then true else decide ((↑v.2.1.1 : Int) < 2)) = true) → ((!bif bif !isGraphF v.1 then true else dblB v.1.2.1.2 v.1.2.1.1 then true else decide ((↑v.2.1.1 : Int) < 2)) = true)),
  (((!bif bif !isGraphF v.1 then true else dblB v.1.2.1.2 v.1.2.1.1 then true else decide ((↑v.2.1.1 : Int) < 2)) = true) → ((0 : Nat) < 1)),
  (((!bif bif !isGraphF v.1 then true else dblB v.1.2.1.2 v.1.2.1.1 then true else decide ((↑v.2.1.1 : Int) < 2)) = true) → ((!bif bif !isGraphF v.1 then true else dblB v.1.2.1.2 v.1.2.1.1 then true else decide ((↑v.2.1.1 : Int) < 2)) = true)),
  (((!bif bif !isGraphF v.1 then true else dblB v.1.2.1.2 v.1.2.1.1 then true else decide ((↑v.2.1.1 : Int) < 2)) = true) → ((!bif bif !isGraphF v.1 then true else dblB v.1.2.1.2 v.1.2.1.1 then true else decide ((↑v.2.1.1 : Int) < 2)) = true)),
  (((bif bif !isGraphF v.1 then true else dblB v.1.2.1.2 v.1.2.1.1 then true else decide ((↑v.2.1.1 : Int) < 2)) = false) → ((!bif bif !isGraphF v.1 then true else dblB v.1.2.1.2 v.1.2.1.1 then true else decide ((↑v.2.1.1 : Int) < 2)) = true)),
  (((!bif bif bif !isGraphF v.1 then true else dblB v.1.2.1.2 v.1.2.1.1 then true else decide ((↑v.2.1.1 : Int) < 2) then true else decide ((↑v.1.2.1.1 : Int) > 15)) = true) → ((!bif bif bif !isGraphF v.1 then true else dblB v.1.2.1.2 v.1.2.1.1 then true else decide ((↑v.2.1.1 : Int) < 2) then true else decide ((↑v.1.2.1.1 : Int) > 15)) = true)),
  (((!bif bif bif !isGraphF v.1 then true else dblB v.1.2.1.2 v.1.2.1.1 then true else decide ((↑v.2.1.1 : Int) < 2) then true else decide ((↑v.1.2.1.1 : Int) > 15)) = true) → ((0 : Nat) < 1)),
  (((!bif bif bif !isGraphF v.1 then true else dblB v.1.2.1.2 v.1.2.1.1 then true else decide ((↑v.2.1.1 : Int) < 2) then true else decide ((↑v.1.2.1.1 : Int) > 15)) = true) → ((!bif bif bif !isGraphF v.1 then true else dblB v.1.2.1.2 v.1.2.1.1 then true else decide ((↑v.2.1.1 : Int) < 2) then true else decide ((↑v.1.2.1.1 : Int) > 15)) = true)),
  (((!bif bif bif !isGraphF v.1 then true else dblB v.1.2.1.2 v.1.2.1.1 then true else decide ((↑v.2.1.1 : Int) < 2) then true else decide ((↑v.1.2.1.1 : Int) > 15)) = true) → ((!bif bif bif !isGraphF v.1 then true else dblB v.1.2.1.2 v.1.2.1.1 then true else decide ((↑v.2.1.1 : Int) < 2) then true else decide ((↑v.1.2.1.1 : Int) > 15)) = true)),
  (((!bif bif bif !isGraphF v.1 then true else dblB v.1.2.1.2 v.1.2.1.1 then true else decide ((↑v.2.1.1 : Int) < 2) then true else decide ((↑v.1.2.1.1 : Int) > 15)) = true) → ((0 : Nat) < 1)),
  (((!bif bif bif !isGraphF v.1 then true else dblB v.1.2.1.2 v.1.2.1.1 then true else decide ((↑v.2.1.1 : Int) < 2) then true else decide ((↑v.1.2.1.1 : Int) > 15)) = true) → ((!bif bif bif !isGraphF v.1 then true else dblB v.1.2.1.2 v.1.2.1.1 then true else decide ((↑v.2.1.1 : Int) < 2) then true else decide ((↑v.1.2.1.1 : Int) > 15)) = true)),
  (((!bif bif bif !isGraphF v.1 then true else dblB v.1.2.1.2 v.1.2.1.1 then true else decide ((↑v.2.1.1 : Int) < 2) then true else decide ((↑v.1.2.1.1 : Int) > 15)) = true) → ((!bif bif bif !isGraphF v.1 then true else dblB v.1.2.1.2 v.1.2.1.1 then true else decide ((↑v.2.1.1 : Int) < 2) then true else decide ((↑v.1.2.1.1 : Int) > 15)) = true)),
  (((!bif bif bif !isGraphF v.1 then true else dblB v.1.2.1.2 v.1.2.1.1 then true else decide ((↑v.2.1.1 : Int) < 2) then true else decide ((↑v.1.2.1.1 : Int) > 15)) = true) → (((-9223372036854775808) : Int) ≤ (2 * (↑v.2.1.1 : Int)))),
  (((!bif bif bif !isGraphF v.1 then true else dblB v.1.2.1.2 v.1.2.1.1 then true else decide ((↑v.2.1.1 : Int) < 2) then true else decide ((↑v.1.2.1.1 : Int) > 15)) = true) → (((2 * (↑v.2.1.1 : Int)) : Int) ≤ 9223372036854775807)),
  (((!bif bif bif !isGraphF v.1 then true else dblB v.1.2.1.2 v.1.2.1.1 then true else decide ((↑v.2.1.1 : Int) < 2) then true else decide ((↑v.1.2.1.1 : Int) > 15)) = true) → ((!bif bif bif !isGraphF v.1 then true else dblB v.1.2.1.2 v.1.2.1.1 then true else decide ((↑v.2.1.1 : Int) < 2) then true else decide ((↑v.1.2.1.1 : Int) > 15)) = true)),
  (((!bif bif bif !isGraphF v.1 then true else dblB v.1.2.1.2 v.1.2.1.1 then true else decide ((↑v.2.1.1 : Int) < 2) then true else decide ((↑v.1.2.1.1 : Int) > 15)) = true) → ((!bif bif bif !isGraphF v.1 then true else dblB v.1.2.1.2 v.1.2.1.1 then true else decide ((↑v.2.1.1 : Int) < 2) then true else decide ((↑v.1.2.1.1 : Int) > 15)) = true)),
  (((!bif bif bif !isGraphF v.1 then true else dblB v.1.2.1.2 v.1.2.1.1 then true else decide ((↑v.2.1.1 : Int) < 2) then true else decide ((↑v.1.2.1.1 : Int) > 15)) = true) → (((-9223372036854775808) : Int) ≤ ((↑v.1.2.1.1 : Int) + 2 * (↑v.2.1.1 : Int)))),
  (((!bif bif bif !isGraphF v.1 then true else dblB v.1.2.1.2 v.1.2.1.1 then true else decide ((↑v.2.1.1 : Int) < 2) then true else decide ((↑v.1.2.1.1 : Int) > 15)) = true) → ((((↑v.1.2.1.1 : Int) + 2 * (↑v.2.1.1 : Int)) : Int) ≤ 9223372036854775807)),
  (((!bif bif bif !isGraphF v.1 then true else dblB v.1.2.1.2 v.1.2.1.1 then true else decide ((↑v.2.1.1 : Int) < 2) then true else decide ((↑v.1.2.1.1 : Int) > 15)) = true) → ((!bif bif bif !isGraphF v.1 then true else dblB v.1.2.1.2 v.1.2.1.1 then true else decide ((↑v.2.1.1 : Int) < 2) then true else decide ((↑v.1.2.1.1 : Int) > 15)) = true)),
  (((!bif bif bif !isGraphF v.1 then true else dblB v.1.2.1.2 v.1.2.1.1 then true else decide ((↑v.2.1.1 : Int) < 2) then true else decide ((↑v.1.2.1.1 : Int) > 15)) = true) → (((-9223372036854775808) : Int) ≤ ((↑v.1.2.1.1 : Int) + 2 * (↑v.2.1.1 : Int) - 3))),
  (((!bif bif bif !isGraphF v.1 then true else dblB v.1.2.1.2 v.1.2.1.1 then true else decide ((↑v.2.1.1 : Int) < 2) then true else decide ((↑v.1.2.1.1 : Int) > 15)) = true) → ((((↑v.1.2.1.1 : Int) + 2 * (↑v.2.1.1 : Int) - 3) : Int) ≤ 9223372036854775807)),
  (((!bif bif bif !isGraphF v.1 then true else dblB v.1.2.1.2 v.1.2.1.1 then true else decide ((↑v.2.1.1 : Int) < 2) then true else decide ((↑v.1.2.1.1 : Int) > 15)) = true) → ((!bif bif bif !isGraphF v.1 then true else dblB v.1.2.1.2 v.1.2.1.1 then true else decide ((↑v.2.1.1 : Int) < 2) then true else decide ((↑v.1.2.1.1 : Int) > 15)) = true)),
  (((bif bif bif !isGraphF v.1 then true else dblB v.1.2.1.2 v.1.2.1.1 then true else decide ((↑v.2.1.1 : Int) < 2) then true else decide ((↑v.1.2.1.1 : Int) > 15)) = false) → ((!bif bif bif !isGraphF v.1 then true else dblB v.1.2.1.2 v.1.2.1.1 then true else decide ((↑v.2.1.1 : Int) < 2) then true else decide ((↑v.1.2.1.1 : Int) > 15)) = true)),
  ((bif bif bif bif !isGraphF v.1 then true else dblB v.1.2.1.2 v.1.2.1.1 then true else decide ((↑v.2.1.1 : Int) < 2) then true else decide ((↑v.1.2.1.1 : Int) > 15) then true else decide ((↑v.1.2.1.1 : Int) + 2 * (↑v.2.1.1 : Int) - 3 > 24)) = true),
  (false = false)] := by kernel_rfl
theorem p57a (v : T_Pinned) :
    pieceOb Try.prog 0 [.reg [oT, oT], .reg [oT, oT, oT, oT], .reg [oT, ⟨true, (some ⟨[], [], 1, [], .p (.bool (isGraphF v.1))⟩), none⟩, oT, oT, oT, ⟨true, (some ⟨[], [], 1, [], .p (.bool (dblB v.1.2.1.2 v.1.2.1.1))⟩), none⟩, oT, oT, oT, oT, oT, oT, oT, oT, oT, oT, oT, oT, oT, oT, oT, oT, oT, oT, oT, oT, oT, oT, oT, oT, oT], .dec false, .reg [oT, oT, oT, oT], .head] [.code (bodyOf Try.f52)] (start Try.f52 [] 0 [pinA v]) [0, 128] 1 (S57a v 0) =
    some ([.code (cAt (bodyOf Try.f52) [1, 1, 1, 0, 1, 0, 0]), .inLoop (cAt (bodyOf Try.f52) [1, 1, 1, 0, 1, 0, 0]), .inBlock 0, .code (cAt (bodyOf Try.f52) [1, 1, 1, 1])], [((0 : Nat) < 1),
  ((0 : Nat) < 1),
  ((true = true) → ((1 : Nat) = 1)),
  ((0 : Nat) < 1),
  Con Try.prog 77 0 [] [.agg [.p (.int .i64 v.1.1), .p (.seq true 2 v.1.2.1.1 (fun i => [.int .i64 ((v.1.2.1.2 i).1), .int .i64 ((v.1.2.1.2 i).2.1)]))]] [] (.p (.bool (isGraphF v.1))),
  (((!!isGraphF v.1) = true) → ((0 : Nat) < 1)),
  (((!!isGraphF v.1) = true) → ((!!isGraphF v.1) = true)),
  (((!!isGraphF v.1) = true) → Con Try.prog 100 0 [] [.agg [.p (.int .i64 v.1.1), .p (.seq true 2 v.1.2.1.1 (fun i => [.int .i64 ((v.1.2.1.2 i).1), .int .i64 ((v.1.2.1.2 i).2.1)]))]] [] (.p (.bool (dblB v.1.2.1.2 v.1.2.1.1)))),
  (((!isGraphF v.1) = false) → ((!!isGraphF v.1) = true)),
  (((!bif !isGraphF v.1 then true else dblB v.1.2.1.2 v.1.2.1.1) = true) → ((!bif !isGraphF v.1 then true else dblB v.1.2.1.2 v.1.2.1.1) = true)),
  (((!bif !isGraphF v.1 then true else dblB v.1.2.1.2 v.1.2.1.1) = true) → ((0 : Nat) < 1)),
  (((!bif !isGraphF v.1 then true else dblB v.1.2.1.2 v.1.2.1.1) = true) → ((!bif !isGraphF v.1 then true else dblB v.1.2.1.2 v.1.2.1.1) = true)),
  (((!bif !isGraphF v.1 then true else dblB v.1.2.1.2 v.1.2.1.1) = true) → ((!bif !isGraphF v.1 then true else dblB v.1.2.1.2 v.1.2.1.1) = true)),
  (((bif !isGraphF v.1 then true else dblB v.1.2.1.2 v.1.2.1.1) = false) → ((!bif !isGraphF v.1 then true else dblB v.1.2.1.2 v.1.2.1.1) = true)),
  (((!bif bif !isGraphF v.1 then true else dblB v.1.2.1.2 v.1.2.1.1 then true else decide ((↑v.2.1.1 : Int) < 2)) = true) → ((!bif bif !isGraphF v.1 then true else dblB v.1.2.1.2 v.1.2.1.1 then true else decide ((↑v.2.1.1 : Int) < 2)) = true)),
  (((!bif bif !isGraphF v.1 then true else dblB v.1.2.1.2 v.1.2.1.1 then true else decide ((↑v.2.1.1 : Int) < 2)) = true) → ((0 : Nat) < 1)),
  (((!bif bif !isGraphF v.1 then true else dblB v.1.2.1.2 v.1.2.1.1 then true else decide ((↑v.2.1.1 : Int) < 2)) = true) → ((!bif bif !isGraphF v.1 then true else dblB v.1.2.1.2 v.1.2.1.1 then true else decide ((↑v.2.1.1 : Int) < 2)) = true)),
  (((!bif bif !isGraphF v.1 then true else dblB v.1.2.1.2 v.1.2.1.1 then true else decide ((↑v.2.1.1 : Int) < 2)) = true) → ((!bif bif !isGraphF v.1 then true else dblB v.1.2.1.2 v.1.2.1.1 then true else decide ((↑v.2.1.1 : Int) < 2)) = true)),
  (((bif bif !isGraphF v.1 then true else dblB v.1.2.1.2 v.1.2.1.1 then true else decide ((↑v.2.1.1 : Int) < 2)) = false) → ((!bif bif !isGraphF v.1 then true else dblB v.1.2.1.2 v.1.2.1.1 then true else decide ((↑v.2.1.1 : Int) < 2)) = true)),
  (((!bif bif bif !isGraphF v.1 then true else dblB v.1.2.1.2 v.1.2.1.1 then true else decide ((↑v.2.1.1 : Int) < 2) then true else decide ((↑v.1.2.1.1 : Int) > 15)) = true) → ((!bif bif bif !isGraphF v.1 then true else dblB v.1.2.1.2 v.1.2.1.1 then true else decide ((↑v.2.1.1 : Int) < 2) then true else decide ((↑v.1.2.1.1 : Int) > 15)) = true)),
  (((!bif bif bif !isGraphF v.1 then true else dblB v.1.2.1.2 v.1.2.1.1 then true else decide ((↑v.2.1.1 : Int) < 2) then true else decide ((↑v.1.2.1.1 : Int) > 15)) = true) → ((0 : Nat) < 1)),
  (((!bif bif bif !isGraphF v.1 then true else dblB v.1.2.1.2 v.1.2.1.1 then true else decide ((↑v.2.1.1 : Int) < 2) then true else decide ((↑v.1.2.1.1 : Int) > 15)) = true) → ((!bif bif bif !isGraphF v.1 then true else dblB v.1.2.1.2 v.1.2.1.1 then true else decide ((↑v.2.1.1 : Int) < 2) then true else decide ((↑v.1.2.1.1 : Int) > 15)) = true)),
  (((!bif bif bif !isGraphF v.1 then true else dblB v.1.2.1.2 v.1.2.1.1 then true else decide ((↑v.2.1.1 : Int) < 2) then true else decide ((↑v.1.2.1.1 : Int) > 15)) = true) → ((!bif bif bif !isGraphF v.1 then true else dblB v.1.2.1.2 v.1.2.1.1 then true else decide ((↑v.2.1.1 : Int) < 2) then true else decide ((↑v.1.2.1.1 : Int) > 15)) = true)),
  (((!bif bif bif !isGraphF v.1 then true else dblB v.1.2.1.2 v.1.2.1.1 then true else decide ((↑v.2.1.1 : Int) < 2) then true else decide ((↑v.1.2.1.1 : Int) > 15)) = true) → ((0 : Nat) < 1)),
  (((!bif bif bif !isGraphF v.1 then true else dblB v.1.2.1.2 v.1.2.1.1 then true else decide ((↑v.2.1.1 : Int) < 2) then true else decide ((↑v.1.2.1.1 : Int) > 15)) = true) → ((!bif bif bif !isGraphF v.1 then true else dblB v.1.2.1.2 v.1.2.1.1 then true else decide ((↑v.2.1.1 : Int) < 2) then true else decide ((↑v.1.2.1.1 : Int) > 15)) = true)),
  (((!bif bif bif !isGraphF v.1 then true else dblB v.1.2.1.2 v.1.2.1.1 then true else decide ((↑v.2.1.1 : Int) < 2) then true else decide ((↑v.1.2.1.1 : Int) > 15)) = true) → ((!bif bif bif !isGraphF v.1 then true else dblB v.1.2.1.2 v.1.2.1.1 then true else decide ((↑v.2.1.1 : Int) < 2) then true else decide ((↑v.1.2.1.1 : Int) > 15)) = true)),
  (((!bif bif bif !isGraphF v.1 then true else dblB v.1.2.1.2 v.1.2.1.1 then true else decide ((↑v.2.1.1 : Int) < 2) then true else decide ((↑v.1.2.1.1 : Int) > 15)) = true) → (((-9223372036854775808) : Int) ≤ (2 * (↑v.2.1.1 : Int)))),
  (((!bif bif bif !isGraphF v.1 then true else dblB v.1.2.1.2 v.1.2.1.1 then true else decide ((↑v.2.1.1 : Int) < 2) then true else decide ((↑v.1.2.1.1 : Int) > 15)) = true) → (((2 * (↑v.2.1.1 : Int)) : Int) ≤ 9223372036854775807)),
  (((!bif bif bif !isGraphF v.1 then true else dblB v.1.2.1.2 v.1.2.1.1 then true else decide ((↑v.2.1.1 : Int) < 2) then true else decide ((↑v.1.2.1.1 : Int) > 15)) = true) → ((!bif bif bif !isGraphF v.1 then true else dblB v.1.2.1.2 v.1.2.1.1 then true else decide ((↑v.2.1.1 : Int) < 2) then true else decide ((↑v.1.2.1.1 : Int) > 15)) = true)),
  (((!bif bif bif !isGraphF v.1 then true else dblB v.1.2.1.2 v.1.2.1.1 then true else decide ((↑v.2.1.1 : Int) < 2) then true else decide ((↑v.1.2.1.1 : Int) > 15)) = true) → ((!bif bif bif !isGraphF v.1 then true else dblB v.1.2.1.2 v.1.2.1.1 then true else decide ((↑v.2.1.1 : Int) < 2) then true else decide ((↑v.1.2.1.1 : Int) > 15)) = true)),
  (((!bif bif bif !isGraphF v.1 then true else dblB v.1.2.1.2 v.1.2.1.1 then true else decide ((↑v.2.1.1 : Int) < 2) then true else decide ((↑v.1.2.1.1 : Int) > 15)) = true) → (((-9223372036854775808) : Int) ≤ ((↑v.1.2.1.1 : Int) + 2 * (↑v.2.1.1 : Int)))),
  (((!bif bif bif !isGraphF v.1 then true else dblB v.1.2.1.2 v.1.2.1.1 then true else decide ((↑v.2.1.1 : Int) < 2) then true else decide ((↑v.1.2.1.1 : Int) > 15)) = true) → ((((↑v.1.2.1.1 : Int) + 2 * (↑v.2.1.1 : Int)) : Int) ≤ 9223372036854775807)),
  (((!bif bif bif !isGraphF v.1 then true else dblB v.1.2.1.2 v.1.2.1.1 then true else decide ((↑v.2.1.1 : Int) < 2) then true else decide ((↑v.1.2.1.1 : Int) > 15)) = true) → ((!bif bif bif !isGraphF v.1 then true else dblB v.1.2.1.2 v.1.2.1.1 then true else decide ((↑v.2.1.1 : Int) < 2) then true else decide ((↑v.1.2.1.1 : Int) > 15)) = true)),
  (((!bif bif bif !isGraphF v.1 then true else dblB v.1.2.1.2 v.1.2.1.1 then true else decide ((↑v.2.1.1 : Int) < 2) then true else decide ((↑v.1.2.1.1 : Int) > 15)) = true) → (((-9223372036854775808) : Int) ≤ ((↑v.1.2.1.1 : Int) + 2 * (↑v.2.1.1 : Int) - 3))),
  (((!bif bif bif !isGraphF v.1 then true else dblB v.1.2.1.2 v.1.2.1.1 then true else decide ((↑v.2.1.1 : Int) < 2) then true else decide ((↑v.1.2.1.1 : Int) > 15)) = true) → ((((↑v.1.2.1.1 : Int) + 2 * (↑v.2.1.1 : Int) - 3) : Int) ≤ 9223372036854775807)),
  (((!bif bif bif !isGraphF v.1 then true else dblB v.1.2.1.2 v.1.2.1.1 then true else decide ((↑v.2.1.1 : Int) < 2) then true else decide ((↑v.1.2.1.1 : Int) > 15)) = true) → ((!bif bif bif !isGraphF v.1 then true else dblB v.1.2.1.2 v.1.2.1.1 then true else decide ((↑v.2.1.1 : Int) < 2) then true else decide ((↑v.1.2.1.1 : Int) > 15)) = true)),
  (((bif bif bif !isGraphF v.1 then true else dblB v.1.2.1.2 v.1.2.1.1 then true else decide ((↑v.2.1.1 : Int) < 2) then true else decide ((↑v.1.2.1.1 : Int) > 15)) = false) → ((!bif bif bif !isGraphF v.1 then true else dblB v.1.2.1.2 v.1.2.1.1 then true else decide ((↑v.2.1.1 : Int) < 2) then true else decide ((↑v.1.2.1.1 : Int) > 15)) = true)),
  ((bif bif bif bif !isGraphF v.1 then true else dblB v.1.2.1.2 v.1.2.1.1 then true else decide ((↑v.2.1.1 : Int) < 2) then true else decide ((↑v.1.2.1.1 : Int) > 15) then true else decide ((↑v.1.2.1.1 : Int) + 2 * (↑v.2.1.1 : Int) - 3 > 24)) = false),
  ((0 : Nat) < 1),
  ((v.1.1 : Int) = v.1.1),
  ((v.1.2.1.1 : Nat) = v.1.2.1.1),
  (∀ i : Nat, (((i : Nat) < v.1.2.1.1) → (([.int .i64 ((v.1.2.1.2 i).1), .int .i64 ((v.1.2.1.2 i).2.1)] : List PV) = [.int .i64 ((v.1.2.1.2 i).1), .int .i64 ((v.1.2.1.2 i).2.1)]))),
  ((v.2.1.1 : Nat) = v.2.1.1),
  (∀ i : Nat, (((i : Nat) < v.2.1.1) → (([.int .i64 (v.2.1.2 i)] : List PV) = [.int .i64 (v.2.1.2 i)]))),
  ((0 : Nat) = 0),
  ((0 : Nat) = 0),
  ((v.2.1.1 : Nat) = v.2.1.1),
  (∀ i : Nat, (((i : Nat) < v.2.1.1) → (([.int .i64 (v.2.1.2 i)] : List PV) = [.int .i64 (v.2.1.2 i)]))),
  (((↑v.2.1.1 : Int) : Int) = (↑v.2.1.1 : Int)),
  ((0 : Int) = (↑0 : Int)),
  ((([AV.p (PV.int IntKind.i64 v.1.1), graphL v.1.2.1, inL v.2.1].length) : Nat) = 3),
  ((1 : Nat) ≤ 1),
  ((1 : Nat) ≤ 1),
  ((v.1.1 : Int) = v.1.1),
  ((v.1.2.1.1 : Nat) = v.1.2.1.1),
  (∀ i : Nat, (((i : Nat) < v.1.2.1.1) → (([.int .i64 ((v.1.2.1.2 i).1), .int .i64 ((v.1.2.1.2 i).2.1)] : List PV) = [.int .i64 ((v.1.2.1.2 i).1), .int .i64 ((v.1.2.1.2 i).2.1)]))),
  ((v.2.1.1 : Nat) = v.2.1.1),
  (∀ i : Nat, (((i : Nat) < v.2.1.1) → (([.int .i64 (v.2.1.2 i)] : List PV) = [.int .i64 (v.2.1.2 i)]))),
  ((((List.map (fun v => AV.p (absV v)) [Value.int IntKind.i64 0, Value.slice none 0 0]).length) : Nat) = 2),
  ((1 : Nat) ≤ 1),
  ((1 : Nat) ≤ 1),
  ((v.1.1 : Int) = v.1.1),
  ((v.1.2.1.1 : Nat) = v.1.2.1.1),
  (∀ i : Nat, (((i : Nat) < v.1.2.1.1) → (([.int .i64 ((v.1.2.1.2 i).1), .int .i64 ((v.1.2.1.2 i).2.1)] : List PV) = [.int .i64 ((v.1.2.1.2 i).1), .int .i64 ((v.1.2.1.2 i).2.1)])))]) := by kernel_rfl
theorem p57b (v : T_Pinned) (k : Nat) :
    pieceOb Try.prog 0 [.reg [oT], .dec true, .reg [oT, oT, oT, oT, oT], .reg [oT, oT, ⟨true, (some ⟨[], [], 1, [], .p (.bool (inB (v.2.1.2 k) 0 (v.1.1 - 1)))⟩), none⟩, oT, oT, oT, oT, oT, oT, oT, oT, oT, oT, oT, oT, oT, oT, oT], .dec false, .reg [oT, oT], .head] [.code (cAt (bodyOf Try.f52) [1, 1, 1, 0, 1, 0, 0]), .inLoop (cAt (bodyOf Try.f52) [1, 1, 1, 0, 1, 0, 0]), .inBlock 0, .code (cAt (bodyOf Try.f52) [1, 1, 1, 1])] (S57a v k) [0, 1] 1 (S57a v (k + 1)) =
    some ([.code (cAt (bodyOf Try.f52) [1, 1, 1, 0, 1, 0, 0]), .inLoop (cAt (bodyOf Try.f52) [1, 1, 1, 0, 1, 0, 0]), .inBlock 0, .code (cAt (bodyOf Try.f52) [1, 1, 1, 1])], [((decide ((↑k : Int) < (↑v.2.1.1 : Int))) = true),
  ((0 : Int) ≤ (↑k : Int)),
  (((↑k : Int) : Int) < (↑v.2.1.1 : Int)),
  ((0 : Nat) < 1),
  Con Try.prog 101 0 [] [.agg [.p (.int .i64 v.1.1), .p (.seq true 2 v.1.2.1.1 (fun i => [.int .i64 ((v.1.2.1.2 i).1), .int .i64 ((v.1.2.1.2 i).2.1)]))], .p (.int .i64 (v.2.1.2 k))] [] (.p (.bool (inB (v.2.1.2 k) 0 (v.1.1 - 1)))),
  (((!!inB (v.2.1.2 k) 0 (v.1.1 - 1)) = true) → ((!!inB (v.2.1.2 k) 0 (v.1.1 - 1)) = true)),
  (((!!inB (v.2.1.2 k) 0 (v.1.1 - 1)) = true) → ((!!inB (v.2.1.2 k) 0 (v.1.1 - 1)) = true)),
  (((!!inB (v.2.1.2 k) 0 (v.1.1 - 1) && decide ((↑k : Int) > 0)) = true) → ((!!inB (v.2.1.2 k) 0 (v.1.1 - 1) && decide ((↑k : Int) > 0)) = true)),
  (((!!inB (v.2.1.2 k) 0 (v.1.1 - 1) && decide ((↑k : Int) > 0)) = true) → ((0 : Nat) < 1)),
  (((!!inB (v.2.1.2 k) 0 (v.1.1 - 1) && decide ((↑k : Int) > 0)) = true) → ((!!inB (v.2.1.2 k) 0 (v.1.1 - 1) && decide ((↑k : Int) > 0)) = true)),
  (((!!inB (v.2.1.2 k) 0 (v.1.1 - 1) && decide ((↑k : Int) > 0)) = true) → (((-9223372036854775808) : Int) ≤ ((↑k : Int) - 1))),
  (((!!inB (v.2.1.2 k) 0 (v.1.1 - 1) && decide ((↑k : Int) > 0)) = true) → ((((↑k : Int) - 1) : Int) ≤ 9223372036854775807)),
  (((!!inB (v.2.1.2 k) 0 (v.1.1 - 1) && decide ((↑k : Int) > 0)) = true) → ((!!inB (v.2.1.2 k) 0 (v.1.1 - 1) && decide ((↑k : Int) > 0)) = true)),
  (((!!inB (v.2.1.2 k) 0 (v.1.1 - 1) && decide ((↑k : Int) > 0)) = true) → ((!!inB (v.2.1.2 k) 0 (v.1.1 - 1) && decide ((↑k : Int) > 0)) = true)),
  (((!!inB (v.2.1.2 k) 0 (v.1.1 - 1) && decide ((↑k : Int) > 0)) = true) → ((0 : Int) ≤ ((↑k : Int) - 1))),
  (((!!inB (v.2.1.2 k) 0 (v.1.1 - 1) && decide ((↑k : Int) > 0)) = true) → ((((↑k : Int) - 1) : Int) < (↑v.2.1.1 : Int))),
  (((!!inB (v.2.1.2 k) 0 (v.1.1 - 1) && decide ((↑k : Int) > 0)) = true) → ((!!inB (v.2.1.2 k) 0 (v.1.1 - 1) && decide ((↑k : Int) > 0)) = true)),
  (((!!inB (v.2.1.2 k) 0 (v.1.1 - 1) && decide ((↑k : Int) > 0)) = true) → ((!!inB (v.2.1.2 k) 0 (v.1.1 - 1) && decide ((↑k : Int) > 0)) = true)),
  (((!!inB (v.2.1.2 k) 0 (v.1.1 - 1) && decide ((↑k : Int) > 0)) = true) → ((!!inB (v.2.1.2 k) 0 (v.1.1 - 1) && decide ((↑k : Int) > 0)) = true)),
  (((!!inB (v.2.1.2 k) 0 (v.1.1 - 1)) = true) → ((!!inB (v.2.1.2 k) 0 (v.1.1 - 1)) = true)),
  (((!!inB (v.2.1.2 k) 0 (v.1.1 - 1)) = true) → (((decide ((↑k : Int) > 0)) = true) → ((!!inB (v.2.1.2 k) 0 (v.1.1 - 1) && decide ((↑k : Int) > 0)) = true))),
  (((!inB (v.2.1.2 k) 0 (v.1.1 - 1)) = false) → ((!!inB (v.2.1.2 k) 0 (v.1.1 - 1)) = true)),
  ((bif !inB (v.2.1.2 k) 0 (v.1.1 - 1) then true else bif decide ((↑k : Int) > 0) then decide (v.2.1.2 ((↑k : Int) - 1).toNat ≥ v.2.1.2 (↑k : Int).toNat) else false) = false),
  (((-9223372036854775808) : Int) ≤ ((↑k : Int) + 1)),
  ((((↑k : Int) + 1) : Int) ≤ 9223372036854775807),
  ((v.1.1 : Int) = v.1.1),
  ((v.1.2.1.1 : Nat) = v.1.2.1.1),
  (∀ i : Nat, (((i : Nat) < v.1.2.1.1) → (([.int .i64 ((v.1.2.1.2 i).1), .int .i64 ((v.1.2.1.2 i).2.1)] : List PV) = [.int .i64 ((v.1.2.1.2 i).1), .int .i64 ((v.1.2.1.2 i).2.1)]))),
  ((v.2.1.1 : Nat) = v.2.1.1),
  (∀ i : Nat, (((i : Nat) < v.2.1.1) → (([.int .i64 (v.2.1.2 i)] : List PV) = [.int .i64 (v.2.1.2 i)]))),
  ((0 : Nat) = 0),
  ((0 : Nat) = 0),
  ((v.2.1.1 : Nat) = v.2.1.1),
  (∀ i : Nat, (((i : Nat) < v.2.1.1) → (([.int .i64 (v.2.1.2 i)] : List PV) = [.int .i64 (v.2.1.2 i)]))),
  (((↑v.2.1.1 : Int) : Int) = (↑v.2.1.1 : Int)),
  ((((↑k : Int) + 1) : Int) = (↑(k + 1) : Int)),
  ((3 : Nat) = 3),
  ((1 : Nat) ≤ 1),
  ((1 : Nat) ≤ 1),
  ((v.1.1 : Int) = v.1.1),
  ((v.1.2.1.1 : Nat) = v.1.2.1.1),
  (∀ i : Nat, (((i : Nat) < v.1.2.1.1) → (([.int .i64 ((v.1.2.1.2 i).1), .int .i64 ((v.1.2.1.2 i).2.1)] : List PV) = [.int .i64 ((v.1.2.1.2 i).1), .int .i64 ((v.1.2.1.2 i).2.1)]))),
  ((v.2.1.1 : Nat) = v.2.1.1),
  (∀ i : Nat, (((i : Nat) < v.2.1.1) → (([.int .i64 (v.2.1.2 i)] : List PV) = [.int .i64 (v.2.1.2 i)]))),
  ((2 : Nat) = 2),
  ((1 : Nat) ≤ 1),
  ((1 : Nat) ≤ 1),
  ((v.1.1 : Int) = v.1.1),
  ((v.1.2.1.1 : Nat) = v.1.2.1.1),
  (∀ i : Nat, (((i : Nat) < v.1.2.1.1) → (([.int .i64 ((v.1.2.1.2 i).1), .int .i64 ((v.1.2.1.2 i).2.1)] : List PV) = [.int .i64 ((v.1.2.1.2 i).1), .int .i64 ((v.1.2.1.2 i).2.1)])))]) := by kernel_rfl
theorem p57c (v : T_Pinned) (k : Nat) :
    pathOb Try.prog Try.f52 0 [.reg [oT], .dec true, .reg [oT, oT, oT, oT, oT], .reg [oT, oT, ⟨true, (some ⟨[], [], 1, [], .p (.bool (inB (v.2.1.2 k) 0 (v.1.1 - 1)))⟩), none⟩, oT, oT, oT, oT, oT, oT, oT, oT, oT, oT, oT, oT, oT, oT, oT], .dec true, .reg [oT]] [.code (cAt (bodyOf Try.f52) [1, 1, 1, 0, 1, 0, 0]), .inLoop (cAt (bodyOf Try.f52) [1, 1, 1, 0, 1, 0, 0]), .inBlock 0, .code (cAt (bodyOf Try.f52) [1, 1, 1, 1])] (S57a v k) [] 1 [] (.p (.bool false)) =
    some [((decide ((↑k : Int) < (↑v.2.1.1 : Int))) = true),
  ((0 : Int) ≤ (↑k : Int)),
  (((↑k : Int) : Int) < (↑v.2.1.1 : Int)),
  ((0 : Nat) < 1),
  Con Try.prog 101 0 [] [.agg [.p (.int .i64 v.1.1), .p (.seq true 2 v.1.2.1.1 (fun i => [.int .i64 ((v.1.2.1.2 i).1), .int .i64 ((v.1.2.1.2 i).2.1)]))], .p (.int .i64 (v.2.1.2 k))] [] (.p (.bool (inB (v.2.1.2 k) 0 (v.1.1 - 1)))),
  (((!!inB (v.2.1.2 k) 0 (v.1.1 - 1)) = true) → ((!!inB (v.2.1.2 k) 0 (v.1.1 - 1)) = true)),
  (((!!inB (v.2.1.2 k) 0 (v.1.1 - 1)) = true) → ((!!inB (v.2.1.2 k) 0 (v.1.1 - 1)) = true)),
  (((!!inB (v.2.1.2 k) 0 (v.1.1 - 1) && decide ((↑k : Int) > 0)) = true) → ((!!inB (v.2.1.2 k) 0 (v.1.1 - 1) && decide ((↑k : Int) > 0)) = true)),
  (((!!inB (v.2.1.2 k) 0 (v.1.1 - 1) && decide ((↑k : Int) > 0)) = true) → ((0 : Nat) < 1)),
  (((!!inB (v.2.1.2 k) 0 (v.1.1 - 1) && decide ((↑k : Int) > 0)) = true) → ((!!inB (v.2.1.2 k) 0 (v.1.1 - 1) && decide ((↑k : Int) > 0)) = true)),
  (((!!inB (v.2.1.2 k) 0 (v.1.1 - 1) && decide ((↑k : Int) > 0)) = true) → (((-9223372036854775808) : Int) ≤ ((↑k : Int) - 1))),
  (((!!inB (v.2.1.2 k) 0 (v.1.1 - 1) && decide ((↑k : Int) > 0)) = true) → ((((↑k : Int) - 1) : Int) ≤ 9223372036854775807)),
  (((!!inB (v.2.1.2 k) 0 (v.1.1 - 1) && decide ((↑k : Int) > 0)) = true) → ((!!inB (v.2.1.2 k) 0 (v.1.1 - 1) && decide ((↑k : Int) > 0)) = true)),
  (((!!inB (v.2.1.2 k) 0 (v.1.1 - 1) && decide ((↑k : Int) > 0)) = true) → ((!!inB (v.2.1.2 k) 0 (v.1.1 - 1) && decide ((↑k : Int) > 0)) = true)),
  (((!!inB (v.2.1.2 k) 0 (v.1.1 - 1) && decide ((↑k : Int) > 0)) = true) → ((0 : Int) ≤ ((↑k : Int) - 1))),
  (((!!inB (v.2.1.2 k) 0 (v.1.1 - 1) && decide ((↑k : Int) > 0)) = true) → ((((↑k : Int) - 1) : Int) < (↑v.2.1.1 : Int))),
  (((!!inB (v.2.1.2 k) 0 (v.1.1 - 1) && decide ((↑k : Int) > 0)) = true) → ((!!inB (v.2.1.2 k) 0 (v.1.1 - 1) && decide ((↑k : Int) > 0)) = true)),
  (((!!inB (v.2.1.2 k) 0 (v.1.1 - 1) && decide ((↑k : Int) > 0)) = true) → ((!!inB (v.2.1.2 k) 0 (v.1.1 - 1) && decide ((↑k : Int) > 0)) = true)),
  (((!!inB (v.2.1.2 k) 0 (v.1.1 - 1) && decide ((↑k : Int) > 0)) = true) → ((!!inB (v.2.1.2 k) 0 (v.1.1 - 1) && decide ((↑k : Int) > 0)) = true)),
  (((!!inB (v.2.1.2 k) 0 (v.1.1 - 1)) = true) → ((!!inB (v.2.1.2 k) 0 (v.1.1 - 1)) = true)),
  (((!!inB (v.2.1.2 k) 0 (v.1.1 - 1)) = true) → (((decide ((↑k : Int) > 0)) = true) → ((!!inB (v.2.1.2 k) 0 (v.1.1 - 1) && decide ((↑k : Int) > 0)) = true))),
  (((!inB (v.2.1.2 k) 0 (v.1.1 - 1)) = false) → ((!!inB (v.2.1.2 k) 0 (v.1.1 - 1)) = true)),
  ((bif !inB (v.2.1.2 k) 0 (v.1.1 - 1) then true else bif decide ((↑k : Int) > 0) then decide (v.2.1.2 ((↑k : Int) - 1).toNat ≥ v.2.1.2 (↑k : Int).toNat) else false) = true),
  (false = false)] := by kernel_rfl
theorem p57d (v : T_Pinned) (k : Nat) :
    pieceOb Try.prog 0 [.reg [oT], .dec false, .reg [oT, oT, oT, oT], .head] [.code (cAt (bodyOf Try.f52) [1, 1, 1, 0, 1, 0, 0]), .inLoop (cAt (bodyOf Try.f52) [1, 1, 1, 0, 1, 0, 0]), .inBlock 0, .code (cAt (bodyOf Try.f52) [1, 1, 1, 1])] (S57a v k) [0] 1 (S57b v 0) =
    some ([.code (cAt (bodyOf Try.f52) [1, 1, 1, 1, 0, 1, 0, 0]), .inLoop (cAt (bodyOf Try.f52) [1, 1, 1, 1, 0, 1, 0, 0]), .inBlock 2, .code (cAt (bodyOf Try.f52) [1, 1, 1, 1, 1])], [((decide ((↑k : Int) < (↑v.2.1.1 : Int))) = false),
  ((0 : Nat) < 1),
  ((v.1.1 : Int) = v.1.1),
  ((v.1.2.1.1 : Nat) = v.1.2.1.1),
  (∀ i : Nat, (((i : Nat) < v.1.2.1.1) → (([.int .i64 ((v.1.2.1.2 i).1), .int .i64 ((v.1.2.1.2 i).2.1)] : List PV) = [.int .i64 ((v.1.2.1.2 i).1), .int .i64 ((v.1.2.1.2 i).2.1)]))),
  ((v.2.1.1 : Nat) = v.2.1.1),
  (∀ i : Nat, (((i : Nat) < v.2.1.1) → (([.int .i64 (v.2.1.2 i)] : List PV) = [.int .i64 (v.2.1.2 i)]))),
  ((0 : Nat) = 0),
  ((v.1.2.1.1 : Nat) = v.1.2.1.1),
  (∀ i : Nat, (((i : Nat) < v.1.2.1.1) → (([.int .i64 ((v.1.2.1.2 i).1), .int .i64 ((v.1.2.1.2 i).2.1)] : List PV) = [.int .i64 ((v.1.2.1.2 i).1), .int .i64 ((v.1.2.1.2 i).2.1)]))),
  (((↑v.1.2.1.1 : Int) : Int) = (↑v.1.2.1.1 : Int)),
  ((0 : Int) = (↑0 : Int)),
  ((3 : Nat) = 3),
  ((1 : Nat) ≤ 1),
  ((1 : Nat) ≤ 1),
  ((v.1.1 : Int) = v.1.1),
  ((v.1.2.1.1 : Nat) = v.1.2.1.1),
  (∀ i : Nat, (((i : Nat) < v.1.2.1.1) → (([.int .i64 ((v.1.2.1.2 i).1), .int .i64 ((v.1.2.1.2 i).2.1)] : List PV) = [.int .i64 ((v.1.2.1.2 i).1), .int .i64 ((v.1.2.1.2 i).2.1)]))),
  ((v.2.1.1 : Nat) = v.2.1.1),
  (∀ i : Nat, (((i : Nat) < v.2.1.1) → (([.int .i64 (v.2.1.2 i)] : List PV) = [.int .i64 (v.2.1.2 i)])))]) := by kernel_rfl
theorem p57e (v : T_Pinned) (k : Nat) :
    pieceOb Try.prog 0 [.reg [oT], .dec true, .reg [oT, oT, oT, oT], .reg [oT, oT, oT, oT, ⟨true, (some ⟨[], [], 1, [], .p (.bool (hasI v.2.1.2 (v.1.2.1.2 k).1 v.2.1.1))⟩), none⟩, oT, oT, oT, oT, oT, ⟨true, (some ⟨[], [], 1, [], .p (.bool (hasI v.2.1.2 (v.1.2.1.2 k).2.1 v.2.1.1))⟩), none⟩, oT], .dec false, .reg [oT, oT], .head] [.code (cAt (bodyOf Try.f52) [1, 1, 1, 1, 0, 1, 0, 0]), .inLoop (cAt (bodyOf Try.f52) [1, 1, 1, 1, 0, 1, 0, 0]), .inBlock 2, .code (cAt (bodyOf Try.f52) [1, 1, 1, 1, 1])] (S57b v k) [0] 1 (S57b v (k + 1)) =
    some ([.code (cAt (bodyOf Try.f52) [1, 1, 1, 1, 0, 1, 0, 0]), .inLoop (cAt (bodyOf Try.f52) [1, 1, 1, 1, 0, 1, 0, 0]), .inBlock 2, .code (cAt (bodyOf Try.f52) [1, 1, 1, 1, 1])], [((decide ((↑k : Int) < (↑v.1.2.1.1 : Int))) = true),
  ((0 : Int) ≤ (↑k : Int)),
  (((↑k : Int) : Int) < (↑v.1.2.1.1 : Int)),
  ((0 : Nat) < 1),
  ((true = true) → ((1 : Nat) = 1)),
  ((0 : Nat) < 1),
  ((0 : Nat) < 1),
  Con Try.prog 83 0 [] [.p (.seq true 1 v.2.1.1 (fun i => [.int .i64 (v.2.1.2 i)])), .p (.int .i64 ((v.1.2.1.2 k).1))] [] (.p (.bool (hasI v.2.1.2 (v.1.2.1.2 k).1 v.2.1.1))),
  (((hasI v.2.1.2 (v.1.2.1.2 k).1 v.2.1.1) = true) → ((hasI v.2.1.2 (v.1.2.1.2 k).1 v.2.1.1) = true)),
  (((hasI v.2.1.2 (v.1.2.1.2 k).1 v.2.1.1) = true) → ((0 : Nat) < 1)),
  (((hasI v.2.1.2 (v.1.2.1.2 k).1 v.2.1.1) = true) → ((hasI v.2.1.2 (v.1.2.1.2 k).1 v.2.1.1) = true)),
  (((hasI v.2.1.2 (v.1.2.1.2 k).1 v.2.1.1) = true) → ((0 : Nat) < 1)),
  (((hasI v.2.1.2 (v.1.2.1.2 k).1 v.2.1.1) = true) → ((hasI v.2.1.2 (v.1.2.1.2 k).1 v.2.1.1) = true)),
  (((hasI v.2.1.2 (v.1.2.1.2 k).1 v.2.1.1) = true) → ((hasI v.2.1.2 (v.1.2.1.2 k).1 v.2.1.1) = true)),
  (((hasI v.2.1.2 (v.1.2.1.2 k).1 v.2.1.1) = true) → Con Try.prog 83 0 [] [.p (.seq true 1 v.2.1.1 (fun i => [.int .i64 (v.2.1.2 i)])), .p (.int .i64 ((v.1.2.1.2 k).2.1))] [] (.p (.bool (hasI v.2.1.2 (v.1.2.1.2 k).2.1 v.2.1.1)))),
  (((hasI v.2.1.2 (v.1.2.1.2 k).1 v.2.1.1) = true) → ((hasI v.2.1.2 (v.1.2.1.2 k).1 v.2.1.1) = true)),
  ((bif hasI v.2.1.2 (v.1.2.1.2 k).1 v.2.1.1 then hasI v.2.1.2 (v.1.2.1.2 k).2.1 v.2.1.1 else false) = false),
  (((-9223372036854775808) : Int) ≤ ((↑k : Int) + 1)),
  ((((↑k : Int) + 1) : Int) ≤ 9223372036854775807),
  ((v.1.1 : Int) = v.1.1),
  ((v.1.2.1.1 : Nat) = v.1.2.1.1),
  (∀ i : Nat, (((i : Nat) < v.1.2.1.1) → (([.int .i64 ((v.1.2.1.2 i).1), .int .i64 ((v.1.2.1.2 i).2.1)] : List PV) = [.int .i64 ((v.1.2.1.2 i).1), .int .i64 ((v.1.2.1.2 i).2.1)]))),
  ((v.2.1.1 : Nat) = v.2.1.1),
  (∀ i : Nat, (((i : Nat) < v.2.1.1) → (([.int .i64 (v.2.1.2 i)] : List PV) = [.int .i64 (v.2.1.2 i)]))),
  ((0 : Nat) = 0),
  ((v.1.2.1.1 : Nat) = v.1.2.1.1),
  (∀ i : Nat, (((i : Nat) < v.1.2.1.1) → (([.int .i64 ((v.1.2.1.2 i).1), .int .i64 ((v.1.2.1.2 i).2.1)] : List PV) = [.int .i64 ((v.1.2.1.2 i).1), .int .i64 ((v.1.2.1.2 i).2.1)]))),
  (((↑v.1.2.1.1 : Int) : Int) = (↑v.1.2.1.1 : Int)),
  ((((↑k : Int) + 1) : Int) = (↑(k + 1) : Int)),
  ((3 : Nat) = 3),
  ((1 : Nat) ≤ 1),
  ((1 : Nat) ≤ 1),
  ((v.1.1 : Int) = v.1.1),
  ((v.1.2.1.1 : Nat) = v.1.2.1.1),
  (∀ i : Nat, (((i : Nat) < v.1.2.1.1) → (([.int .i64 ((v.1.2.1.2 i).1), .int .i64 ((v.1.2.1.2 i).2.1)] : List PV) = [.int .i64 ((v.1.2.1.2 i).1), .int .i64 ((v.1.2.1.2 i).2.1)]))),
  ((v.2.1.1 : Nat) = v.2.1.1),
  (∀ i : Nat, (((i : Nat) < v.2.1.1) → (([.int .i64 (v.2.1.2 i)] : List PV) = [.int .i64 (v.2.1.2 i)])))]) := by kernel_rfl
theorem p57f (v : T_Pinned) (k : Nat) :
    pathOb Try.prog Try.f52 0 [.reg [oT], .dec true, .reg [oT, oT, oT, oT], .reg [oT, oT, oT, oT, ⟨true, (some ⟨[], [], 1, [], .p (.bool (hasI v.2.1.2 (v.1.2.1.2 k).1 v.2.1.1))⟩), none⟩, oT, oT, oT, oT, oT, ⟨true, (some ⟨[], [], 1, [], .p (.bool (hasI v.2.1.2 (v.1.2.1.2 k).2.1 v.2.1.1))⟩), none⟩, oT], .dec true, .reg [oT]] [.code (cAt (bodyOf Try.f52) [1, 1, 1, 1, 0, 1, 0, 0]), .inLoop (cAt (bodyOf Try.f52) [1, 1, 1, 1, 0, 1, 0, 0]), .inBlock 2, .code (cAt (bodyOf Try.f52) [1, 1, 1, 1, 1])] (S57b v k) [] 1 [] (.p (.bool false)) =
    some [((decide ((↑k : Int) < (↑v.1.2.1.1 : Int))) = true),
  ((0 : Int) ≤ (↑k : Int)),
  (((↑k : Int) : Int) < (↑v.1.2.1.1 : Int)),
  ((0 : Nat) < 1),
  ((true = true) → ((1 : Nat) = 1)),
  ((0 : Nat) < 1),
  ((0 : Nat) < 1),
  Con Try.prog 83 0 [] [.p (.seq true 1 v.2.1.1 (fun i => [.int .i64 (v.2.1.2 i)])), .p (.int .i64 ((v.1.2.1.2 k).1))] [] (.p (.bool (hasI v.2.1.2 (v.1.2.1.2 k).1 v.2.1.1))),
  (((hasI v.2.1.2 (v.1.2.1.2 k).1 v.2.1.1) = true) → ((hasI v.2.1.2 (v.1.2.1.2 k).1 v.2.1.1) = true)),
  (((hasI v.2.1.2 (v.1.2.1.2 k).1 v.2.1.1) = true) → ((0 : Nat) < 1)),
  (((hasI v.2.1.2 (v.1.2.1.2 k).1 v.2.1.1) = true) → ((hasI v.2.1.2 (v.1.2.1.2 k).1 v.2.1.1) = true)),
  (((hasI v.2.1.2 (v.1.2.1.2 k).1 v.2.1.1) = true) → ((0 : Nat) < 1)),
  (((hasI v.2.1.2 (v.1.2.1.2 k).1 v.2.1.1) = true) → ((hasI v.2.1.2 (v.1.2.1.2 k).1 v.2.1.1) = true)),
  (((hasI v.2.1.2 (v.1.2.1.2 k).1 v.2.1.1) = true) → ((hasI v.2.1.2 (v.1.2.1.2 k).1 v.2.1.1) = true)),
  (((hasI v.2.1.2 (v.1.2.1.2 k).1 v.2.1.1) = true) → Con Try.prog 83 0 [] [.p (.seq true 1 v.2.1.1 (fun i => [.int .i64 (v.2.1.2 i)])), .p (.int .i64 ((v.1.2.1.2 k).2.1))] [] (.p (.bool (hasI v.2.1.2 (v.1.2.1.2 k).2.1 v.2.1.1)))),
  (((hasI v.2.1.2 (v.1.2.1.2 k).1 v.2.1.1) = true) → ((hasI v.2.1.2 (v.1.2.1.2 k).1 v.2.1.1) = true)),
  ((bif hasI v.2.1.2 (v.1.2.1.2 k).1 v.2.1.1 then hasI v.2.1.2 (v.1.2.1.2 k).2.1 v.2.1.1 else false) = true),
  (false = false)] := by kernel_rfl
theorem p57g (v : T_Pinned) (k : Nat) :
    pathOb Try.prog Try.f52 0 [.reg [oT], .dec false, .reg [oT]] [.code (cAt (bodyOf Try.f52) [1, 1, 1, 1, 0, 1, 0, 0]), .inLoop (cAt (bodyOf Try.f52) [1, 1, 1, 1, 0, 1, 0, 0]), .inBlock 2, .code (cAt (bodyOf Try.f52) [1, 1, 1, 1, 1])] (S57b v k) [] 1 [] (.p (.bool true)) =
    some [((decide ((↑k : Int) < (↑v.1.2.1.1 : Int))) = false),
  (true = true)] := by kernel_rfl
theorem dge (a b : Int) : decide (a ≥ b) = !decide (a < b) := by
  by_cases h : a < b
  · have : ¬ (a ≥ b) := by omega
    rw [decide_eq_true h, decide_eq_false this]; rfl
  · have : a ≥ b := by omega
    rw [decide_eq_false h, decide_eq_true this]; rfl
theorem dle (a b : Int) : decide (a ≤ b) = !decide (a > b) := dge b a
theorem headP_tail (v : T_Pinned) : headP v = !tailP v := by
  unfold headP tailP simpleF
  rw [dge, dle, dle]
  generalize decide ((v.2.1.1 : Int) < 2) = x
  generalize decide ((v.1.2.1.1 : Int) > 15) = y
  generalize decide ((v.1.2.1.1 : Int) + 2 * (v.2.1.1 : Int) - 3 > 24) = z
  cases isGraphF v.1 <;> cases dblB v.1.2.1.2 v.1.2.1.1 <;> cases x <;> cases y <;> cases z <;> rfl
theorem bad_in (N : Int) (g : Nat → Int) (k : Nat) {b : Bool} (h : badP N g k = b) :
    (bif !inB (g k) 0 (N - 1) then true else bif decide ((k : Int) > 0) then decide (g ((k : Int) - 1).toNat ≥ g k) else false) = b := by
  rw [← h]
  unfold badP inB
  by_cases h1 : g k < 0
  · have h2 : ¬ (0 ≤ g k) := by omega
    simp [h1, h2]
  · have h2 : 0 ≤ g k := by omega
    by_cases h3 : g k ≥ N
    · have h4 : ¬ (g k ≤ N - 1) := by omega
      simp [h1, h2, h3, h4]
    · have h4 : g k ≤ N - 1 := by omega
      simp [h1, h2, h3, h4]
theorem con_IsPinned_i (v : T_Pinned) (hs : smS s_Pinned v) : Con Try.prog 52 0 [] [pinA v] [] (.p (.bool (pinnedF v))) := by
  refine con_start Try.func52 rfl (by kernel_rfl) rfl (fun c hc => ?_)
  have hg : smS s_Graph v.1 := hs.1
  have hnb : v.1.2.1.1 ≤ 1048576 := hs.1.2.1.1
  have hni : v.2.1.1 ≤ 1048576 := hs.2.1.1
  cases ht : headP v with
  | true =>
    rw [show pinnedF v = false by rw [pinnedF, show tailP v = false by have := headP_tail v; rw [ht] at this; simpa using this]; simp]
    have ht' := ht
    unfold headP at ht'
    refine path_ok mixed Try.func52 hc (p57z v) ?_
    simp only [All]
    repeat' (first | exact trivial | with_reducible apply And.intro)
    all_goals (first | omega | rfl | (intros; first | assumption | exact True.intro | rfl | exact absurd (show false = true by assumption) Bool.false_ne_true | ((repeat' (first | assumption | apply anda | apply notf)); done)) | (exact con_IsGraph_i v.1 hg) | (exact con_hasDoubles v.1 hg) | (intros; exact con_hasDoubles v.1 hg) | (intro h; simpa using h) | (exact ht'))
  | false =>
  have htl : tailP v = true := by have := headP_tail v; rw [ht] at this; simpa using this
  have ht' := ht
  unfold headP at ht'
  have hgr : isGraphF v.1 = true := by
    cases e : isGraphF v.1 with
    | true => rfl
    | false => rw [tailP, simpleF, e] at htl; simp at htl
  have hN : inB v.1.1 1 8 = true := by
    unfold isGraphF at hgr
    split at hgr
    · next h => exact h.1
    · cases hgr
  have hN1 : 1 ≤ v.1.1 ∧ v.1.1 ≤ 8 := by simpa [inB] using hN
  have lp2 : goodP v.1.1 v.2.1.2 v.2.1.1 = true → ∀ m k, k + m = v.1.2.1.1 → freeP v.2.1 v.1.2.1.2 k = true → Run Try.prog c 52 [.code (cAt (bodyOf Try.f52) [1, 1, 1, 1, 0, 1, 0, 0]), .inLoop (cAt (bodyOf Try.f52) [1, 1, 1, 1, 0, 1, 0, 0]), .inBlock 2, .code (cAt (bodyOf Try.f52) [1, 1, 1, 1, 1])] (S57b v k) (Post c [] (.p (.bool (pinnedF v)))) := by
    intro hgood m
    induction m with
    | zero =>
      intro k hk hf
      rw [show pinnedF v = true by rw [pinnedF, hgood, show v.1.2.1.1 = k by omega, hf, htl]; rfl]
      have hd : decide ((k : Int) < (v.1.2.1.1 : Int)) = false := by simp; omega
      refine path_ok mixed Try.func52 hc (p57g v k) ?_
      simp only [All]
      repeat' (first | exact trivial | with_reducible apply And.intro)
      all_goals (first | omega | rfl | (intros; first | assumption | exact True.intro | rfl | exact absurd (show false = true by assumption) Bool.false_ne_true | ((repeat' (first | assumption | apply anda | apply notf)); done)) | simp)
    | succ m ih =>
      intro k hk hf
      have hd : decide ((k : Int) < (v.1.2.1.1 : Int)) = true := by simp; omega
      cases he : bothP v.2.1 (v.1.2.1.2 k) with
      | true =>
        rw [show pinnedF v = false by rw [pinnedF, freeP_bad v.2.1 v.1.2.1.2 k he v.1.2.1.1 (by omega)]; simp]
        refine path_ok mixed Try.func52 hc (p57f v k) ?_
        simp only [All]
        repeat' (first | exact trivial | with_reducible apply And.intro)
        all_goals (first | omega | rfl | (intros; first | assumption | exact True.intro | rfl | exact absurd (show false = true by assumption) Bool.false_ne_true | ((repeat' (first | assumption | apply anda | apply notf)); done)) | (intros; exact con_Contains v.2.1 _ hni) | (exact he))
      | false =>
        refine piece_ok mixed hc (p57e v k) ?_ (ih (k + 1) (by omega) (by rw [freeP, hf, he]; rfl))
        simp only [All]
        repeat' (first | exact trivial | with_reducible apply And.intro)
        all_goals (first | omega | rfl | (intros; first | assumption | exact True.intro | rfl | exact absurd (show false = true by assumption) Bool.false_ne_true | ((repeat' (first | assumption | apply anda | apply notf)); done)) | (intros; exact con_Contains v.2.1 _ hni) | (exact he) | (simp [All]))
  have lp1 : ∀ m k, k + m = v.2.1.1 → goodP v.1.1 v.2.1.2 k = true → Run Try.prog c 52 [.code (cAt (bodyOf Try.f52) [1, 1, 1, 0, 1, 0, 0]), .inLoop (cAt (bodyOf Try.f52) [1, 1, 1, 0, 1, 0, 0]), .inBlock 0, .code (cAt (bodyOf Try.f52) [1, 1, 1, 1])] (S57a v k) (Post c [] (.p (.bool (pinnedF v)))) := by
    intro m
    induction m with
    | zero =>
      intro k hk hgd
      have hd : decide ((k : Int) < (v.2.1.1 : Int)) = false := by simp; omega
      refine piece_ok mixed hc (p57d v k) ?_ (lp2 (by rw [show v.2.1.1 = k by omega]; exact hgd) v.1.2.1.1 0 (by omega) rfl)
      simp only [All]
      repeat' (first | exact trivial | with_reducible apply And.intro)
      all_goals (first | omega | rfl | (intros; first | assumption | exact True.intro | rfl | exact absurd (show false = true by assumption) Bool.false_ne_true | ((repeat' (first | assumption | apply anda | apply notf)); done)) | (simp [All]))
    | succ m ih =>
      intro k hk hgd
      have hkn : k < v.2.1.1 := by omega
      have hd : decide ((k : Int) < (v.2.1.1 : Int)) = true := by simp; omega
      cases he : badP v.1.1 v.2.1.2 k with
      | true =>
        rw [show pinnedF v = false by rw [pinnedF, goodP_bad _ _ k he v.2.1.1 (by omega)]; rfl]
        have he' := bad_in v.1.1 v.2.1.2 k he
        refine path_ok mixed Try.func52 hc (p57c v k) ?_
        simp only [All]
        repeat' (first | exact trivial | with_reducible apply And.intro)
        all_goals (first | omega | rfl | (intros; first | assumption | exact True.intro | rfl | exact absurd (show false = true by assumption) Bool.false_ne_true | ((repeat' (first | assumption | apply anda | apply notf)); done)) | (exact con_Graphhas v.1 _ hN1.1 hN1.2) | (exact he') | (intro h; have := idx_lt h hkn; omega))
      | false =>
        have he' := bad_in v.1.1 v.2.1.2 k he
        refine piece_ok mixed hc (p57b v k) ?_ (ih (k + 1) (by omega) (by rw [goodP, hgd, he]; rfl))
        simp only [All]
        repeat' (first | exact trivial | with_reducible apply And.intro)
        all_goals (first | omega | rfl | (intros; first | assumption | exact True.intro | rfl | exact absurd (show false = true by assumption) Bool.false_ne_true | ((repeat' (first | assumption | apply anda | apply notf)); done)) | (exact con_Graphhas v.1 _ hN1.1 hN1.2) | (exact he') | (intro h; have := idx_lt h hkn; omega) | (simp [All]))
  refine piece_ok mixed hc (p57a v) ?_ (lp1 v.2.1.1 0 (by omega) rfl)
  simp only [All]
  repeat' (first | exact trivial | with_reducible apply And.intro)
  all_goals (first | omega | rfl | (intros; first | assumption | exact True.intro | rfl | exact absurd (show false = true by assumption) Bool.false_ne_true | ((repeat' (first | assumption | apply anda | apply notf)); done)) | (exact con_IsGraph_i v.1 hg) | (intros; exact con_hasDoubles v.1 hg) | (exact ht') | (simp [All]) | (intro h; simpa using h))
end Go.Proofs.Ytgdbnnmogddkaaa.Mach
namespace Go.Proofs.Ytgdbnnmogddkaaa.Mach
open Go Go.Sort
set_option linter.unusedVariables false
set_option linter.unusedSimpArgs false
def zP3 : Ob := ⟨true, 3, 1, fun _ => [.p (.int .i64 0), .p .nil, .p .nil]⟩
def pgO (N : Int) (n m : Nat) : Ob := ⟨true, 3, 1, fun _ => [.p (.int .i64 N), .ar 2 3 0 n, .ar 1 4 0 m]⟩
def SQs (p : T_Pinned) (l : T_BarS) (k : Nat) (N : Int) (n : Nat) (h : Nat → T_Bar) : St :=
  ⟨[pinA p, graphL l, .pt 3 0 0 0, .p .any, .pt 3 1 0 0, .p (.bool false), .pt 3 2 0 0, .p (.int .i64 k)] ++ List.replicate 47 anyA,
   [(0, boxP p), (1, zP3), (2, pgO N n p.2.1.1), (3, brOb n h), (4, iOb p.2.1.1 p.2.1.2)], 5⟩
theorem rWz (p : T_Pinned) (l : T_BarS) :
    pieceOb Try.prog 0 [.reg [oT, oT, oT], .reg [oT, oT, ⟨true, (some ⟨[], [], 1, [(0, brOb p.1.2.1.1 p.1.2.1.2)], .agg [.p (.int .i64 p.1.1), .ar 2 0 0 p.1.2.1.1]⟩), none⟩, oT, oT, oT, oT, oT, oT, oT], .reg [oT], .head] [.code (bodyOf Try.f17)] (start Try.f17 [] 0 [pinA p, graphL l]) [0, 32, 352, 160, 288] 1 (SQs p l 0 p.1.1 p.1.2.1.1 p.1.2.1.2) =
    some ([.code (cAt (bodyOf Try.f17) [1, 1, 0, 1, 0, 0]), .inLoop (cAt (bodyOf Try.f17) [1, 1, 0, 1, 0, 0]), .inBlock 0, .code (cAt (bodyOf Try.f17) [1, 1, 1])], [((0 : Nat) < 1),
  Con Try.prog 59 0 [] [.agg [.p (.int .i64 p.1.1), .p (.seq true 2 p.1.2.1.1 (fun i => [.int .i64 ((p.1.2.1.2 i).1), .int .i64 ((p.1.2.1.2 i).2.1)]))]] [(0, ⟨false, 2, p.1.2.1.1, (fun i => [.p (.int .i64 ((p.1.2.1.2 i).1)), .p (.int .i64 ((p.1.2.1.2 i).2.1))])⟩)] (.agg [.p (.int .i64 p.1.1), .ar 2 0 0 p.1.2.1.1]),
  ((0 : Nat) < 1),
  ((0 : Nat) ≤ 0),
  ((((0 + p.2.1.1) * 8) : Nat) ≤ 140737488355328),
  (((0 + p.2.1.1) : Nat) ≤ 9223372036854775807),
  ((0 : Nat) < 1),
  ((true = true) → ((1 : Nat) = 1)),
  ((p.1.1 : Int) = p.1.1),
  ((p.1.2.1.1 : Nat) = p.1.2.1.1),
  (∀ i : Nat, (((i : Nat) < p.1.2.1.1) → (([.int .i64 ((p.1.2.1.2 i).1), .int .i64 ((p.1.2.1.2 i).2.1)] : List PV) = [.int .i64 ((p.1.2.1.2 i).1), .int .i64 ((p.1.2.1.2 i).2.1)]))),
  ((p.2.1.1 : Nat) = p.2.1.1),
  (∀ i : Nat, (((i : Nat) < p.2.1.1) → (([.int .i64 (p.2.1.2 i)] : List PV) = [.int .i64 (p.2.1.2 i)]))),
  ((l.1 : Nat) = l.1),
  (∀ i : Nat, (((i : Nat) < l.1) → (([.int .i64 ((l.2 i).1), .int .i64 ((l.2 i).2.1)] : List PV) = [.int .i64 ((l.2 i).1), .int .i64 ((l.2 i).2.1)]))),
  ((0 : Nat) = 0),
  ((0 : Nat) = 0),
  (false = false),
  ((0 : Nat) = 0),
  ((0 : Int) = (↑0 : Int)),
  ((([AV.p (PV.int IntKind.i64 p.1.1), graphL p.1.2.1, inL p.2.1].length) : Nat) = 3),
  ((1 : Nat) ≤ 1),
  ((1 : Nat) ≤ 1),
  ((p.1.1 : Int) = p.1.1),
  ((p.1.2.1.1 : Nat) = p.1.2.1.1),
  (∀ i : Nat, (((i : Nat) < p.1.2.1.1) → (([.int .i64 ((p.1.2.1.2 i).1), .int .i64 ((p.1.2.1.2 i).2.1)] : List PV) = [.int .i64 ((p.1.2.1.2 i).1), .int .i64 ((p.1.2.1.2 i).2.1)]))),
  ((p.2.1.1 : Nat) = p.2.1.1),
  (∀ i : Nat, (((i : Nat) < p.2.1.1) → (([.int .i64 (p.2.1.2 i)] : List PV) = [.int .i64 (p.2.1.2 i)]))),
  ((((List.map (fun v => AV.p (absV v)) [Value.int IntKind.i64 0, Value.slice none 0 0, Value.slice none 0 0]).length) : Nat) = 3),
  ((1 : Nat) ≤ 1),
  ((1 : Nat) ≤ 1),
  ((0 : Int) = 0),
  ((((List.map (fun v => AV.p (absV v)) [Value.int IntKind.i64 0, Value.slice none 0 0, Value.slice none 0 0]).length) : Nat) = 3),
  ((1 : Nat) ≤ 1),
  ((1 : Nat) ≤ 1),
  ((p.1.1 : Int) = p.1.1),
  ((0 : Nat) = 0),
  ((p.1.2.1.1 : Nat) = p.1.2.1.1),
  ((0 : Nat) = 0),
  (((0 + p.2.1.1) : Nat) = p.2.1.1),
  ((2 : Nat) = 2),
  ((p.1.2.1.1 : Nat) ≤ p.1.2.1.1),
  (∀ i : Nat, (((i : Nat) < p.1.2.1.1) → (All [] ∧ (([.p (.int .i64 ((p.1.2.1.2 i).1)), .p (.int .i64 ((p.1.2.1.2 i).2.1))] : List AV) = [.p (.int .i64 ((p.1.2.1.2 i).1)), .p (.int .i64 ((p.1.2.1.2 i).2.1))])))),
  ((1 : Nat) = 1),
  ((p.2.1.1 : Nat) ≤ (0 + p.2.1.1)),
  (∀ i : Nat, (((i : Nat) < p.2.1.1) → (All [] ∧ (([.p (.int .i64 (p.2.1.2 i))] : List AV) = [.p (.int .i64 (p.2.1.2 i))]))))]) := by kernel_rfl
theorem rWa (p : T_Pinned) (l : T_BarS) (k : Nat) (N N2 : Int) (n n2 : Nat) (h h2 : Nat → T_Bar) :
    pieceOb Try.prog 0 [.reg [oT, oT, oT, oT], .dec true, .reg [oT, oT, oT, oT, oT, oT, oT, oT, oT, oT, oT, oT, ⟨true, (some ⟨[], [], 1, [(0, brOb n2 h2)], .tup [.agg [.p (.int .i64 N2), .ar 2 0 0 n2], .p (.bool true)]⟩), none⟩, oT, oT, oT, oT, oT, oT], .reg [oT, oT], .dec false, .reg [oT, oT, oT], .reg [oT, oT, oT], .head] [.code (cAt (bodyOf Try.f17) [1, 1, 0, 1, 0, 0]), .inLoop (cAt (bodyOf Try.f17) [1, 1, 0, 1, 0, 0]), .inBlock 0, .code (cAt (bodyOf Try.f17) [1, 1, 1])] (SQs p l k N n h) [0, 1, 2, 517, 4] 1 (SQs p l (k + 1) N2 n2 h2) =
    some ([.code (cAt (bodyOf Try.f17) [1, 1, 0, 1, 0, 0]), .inLoop (cAt (bodyOf Try.f17) [1, 1, 0, 1, 0, 0]), .inBlock 0, .code (cAt (bodyOf Try.f17) [1, 1, 1])], [((decide ((↑k : Int) < (↑l.1 : Int))) = true),
  ((0 : Nat) < 1),
  ((0 : Int) ≤ (↑k : Int)),
  (((↑k : Int) : Int) < (↑l.1 : Int)),
  ((0 : Int) ≤ (↑k : Int)),
  (((↑k : Int) : Int) < (↑l.1 : Int)),
  ((2 : Nat) = 2),
  ((n : Nat) ≤ n),
  Con Try.prog 60 0 [] [.agg [.p (.int .i64 N), .p (.seq true 2 n (fun i => [.int .i64 ((h i).1), .int .i64 ((h i).2.1)]))], .p (.int .i64 ((l.2 k).1)), .p (.int .i64 ((l.2 k).2.1))] [(0, ⟨false, 2, n2, (fun i => [.p (.int .i64 ((h2 i).1)), .p (.int .i64 ((h2 i).2.1))])⟩)] (.tup [.agg [.p (.int .i64 N2), .ar 2 0 0 n2], .p (.bool true)]),
  ((0 : Nat) < 1),
  ((true = true) → ((1 : Nat) = 1)),
  ((!true) = false),
  ((0 : Nat) < 1),
  ((0 : Nat) < 1),
  ((true = true) → ((1 : Nat) = 1)),
  (((-9223372036854775808) : Int) ≤ ((↑k : Int) + 1)),
  ((((↑k : Int) + 1) : Int) ≤ 9223372036854775807),
  ((p.1.1 : Int) = p.1.1),
  ((p.1.2.1.1 : Nat) = p.1.2.1.1),
  (∀ i : Nat, (((i : Nat) < p.1.2.1.1) → (([.int .i64 ((p.1.2.1.2 i).1), .int .i64 ((p.1.2.1.2 i).2.1)] : List PV) = [.int .i64 ((p.1.2.1.2 i).1), .int .i64 ((p.1.2.1.2 i).2.1)]))),
  ((p.2.1.1 : Nat) = p.2.1.1),
  (∀ i : Nat, (((i : Nat) < p.2.1.1) → (([.int .i64 (p.2.1.2 i)] : List PV) = [.int .i64 (p.2.1.2 i)]))),
  ((l.1 : Nat) = l.1),
  (∀ i : Nat, (((i : Nat) < l.1) → (([.int .i64 ((l.2 i).1), .int .i64 ((l.2 i).2.1)] : List PV) = [.int .i64 ((l.2 i).1), .int .i64 ((l.2 i).2.1)]))),
  ((0 : Nat) = 0),
  ((0 : Nat) = 0),
  (false = false),
  ((0 : Nat) = 0),
  ((((↑k : Int) + 1) : Int) = (↑(k + 1) : Int)),
  ((3 : Nat) = 3),
  ((1 : Nat) ≤ 1),
  ((1 : Nat) ≤ 1),
  ((p.1.1 : Int) = p.1.1),
  ((p.1.2.1.1 : Nat) = p.1.2.1.1),
  (∀ i : Nat, (((i : Nat) < p.1.2.1.1) → (([.int .i64 ((p.1.2.1.2 i).1), .int .i64 ((p.1.2.1.2 i).2.1)] : List PV) = [.int .i64 ((p.1.2.1.2 i).1), .int .i64 ((p.1.2.1.2 i).2.1)]))),
  ((p.2.1.1 : Nat) = p.2.1.1),
  (∀ i : Nat, (((i : Nat) < p.2.1.1) → (([.int .i64 (p.2.1.2 i)] : List PV) = [.int .i64 (p.2.1.2 i)]))),
  ((3 : Nat) = 3),
  ((1 : Nat) ≤ 1),
  ((1 : Nat) ≤ 1),
  ((0 : Int) = 0),
  ((3 : Nat) = 3),
  ((1 : Nat) ≤ 1),
  ((1 : Nat) ≤ 1),
  ((N2 : Int) = N2),
  ((0 : Nat) = 0),
  ((n2 : Nat) = n2),
  ((0 : Nat) = 0),
  ((p.2.1.1 : Nat) = p.2.1.1),
  ((2 : Nat) = 2),
  ((n2 : Nat) ≤ n2),
  (∀ i : Nat, (((i : Nat) < n2) → (All [] ∧ (([.p (.int .i64 ((h2 i).1)), .p (.int .i64 ((h2 i).2.1))] : List AV) = [.p (.int .i64 ((h2 i).1)), .p (.int .i64 ((h2 i).2.1))])))),
  ((1 : Nat) = 1),
  ((p.2.1.1 : Nat) ≤ p.2.1.1),
  (∀ i : Nat, (((i : Nat) < p.2.1.1) → (All [] ∧ (([.p (.int .i64 (p.2.1.2 i))] : List AV) = [.p (.int .i64 (p.2.1.2 i))]))))]) := by kernel_rfl
theorem rWb (p : T_Pinned) (l : T_BarS) (k : Nat) (N N2 : Int) (n n2 : Nat) (h h2 : Nat → T_Bar) :
    pathOb Try.prog Try.f17 0 [.reg [oT, oT, oT, oT], .dec true, .reg [oT, oT, oT, oT, oT, oT, oT, oT, oT, oT, oT, oT, ⟨true, (some ⟨[], [], 1, [(0, brOb n2 h2)], .tup [.agg [.p (.int .i64 N2), .ar 2 0 0 n2], .p (.bool false)]⟩), none⟩, oT, oT, oT, oT, oT, oT], .reg [oT, oT], .dec true, .reg [oT, oT, oT]] [.code (cAt (bodyOf Try.f17) [1, 1, 0, 1, 0, 0]), .inLoop (cAt (bodyOf Try.f17) [1, 1, 0, 1, 0, 0]), .inBlock 0, .code (cAt (bodyOf Try.f17) [1, 1, 1])] (SQs p l k N n h) [] 1 [(0, brOb 0 (fun _ => (0, 0, ()))), (1, iOb 0 (fun _ => 0))] (.tup [.agg [.p (.int .i64 0), .ar 2 0 0 0, .ar 1 1 0 0], .p (.bool false)]) =
    some [((decide ((↑k : Int) < (↑l.1 : Int))) = true),
  ((0 : Nat) < 1),
  ((0 : Int) ≤ (↑k : Int)),
  (((↑k : Int) : Int) < (↑l.1 : Int)),
  ((0 : Int) ≤ (↑k : Int)),
  (((↑k : Int) : Int) < (↑l.1 : Int)),
  ((2 : Nat) = 2),
  ((n : Nat) ≤ n),
  Con Try.prog 60 0 [] [.agg [.p (.int .i64 N), .p (.seq true 2 n (fun i => [.int .i64 ((h i).1), .int .i64 ((h i).2.1)]))], .p (.int .i64 ((l.2 k).1)), .p (.int .i64 ((l.2 k).2.1))] [(0, ⟨false, 2, n2, (fun i => [.p (.int .i64 ((h2 i).1)), .p (.int .i64 ((h2 i).2.1))])⟩)] (.tup [.agg [.p (.int .i64 N2), .ar 2 0 0 n2], .p (.bool false)]),
  ((0 : Nat) < 1),
  ((true = true) → ((1 : Nat) = 1)),
  ((!false) = true),
  ((0 : Nat) < 1),
  ((true = true) → ((1 : Nat) = 1)),
  ((0 : Nat) < 1),
  ((0 : Int) = 0),
  ((0 : Nat) = 0),
  ((0 : Nat) = 0),
  (false = false),
  ((0 : Nat) = 0),
  ((0 : Nat) = 0),
  (∀ i : Nat, (((i : Nat) < 0) → All [])),
  (∀ i : Nat, (((i : Nat) < 0) → All []))] := by kernel_rfl
theorem rWc (p : T_Pinned) (l : T_BarS) (k : Nat) (N : Int) (n : Nat) (h : Nat → T_Bar) (b1 b2 : Bool) :
    pathOb Try.prog Try.f17 0 [.reg [oT, oT, oT, oT], .dec false, .reg [oT, ⟨true, (some ⟨[], [], 1, [], .p (.bool b1)⟩), none⟩, oT, oT, oT, ⟨true, (some ⟨[], [], 1, [], .p (.bool b2)⟩), none⟩, oT, oT], .dec true, .reg [oT, oT, oT]] [.code (cAt (bodyOf Try.f17) [1, 1, 0, 1, 0, 0]), .inLoop (cAt (bodyOf Try.f17) [1, 1, 0, 1, 0, 0]), .inBlock 0, .code (cAt (bodyOf Try.f17) [1, 1, 1])] (SQs p l k N n h) [] 1 [(0, brOb 0 (fun _ => (0, 0, ()))), (1, iOb 0 (fun _ => 0))] (.tup [.agg [.p (.int .i64 0), .ar 2 0 0 0, .ar 1 1 0 0], .p (.bool false)]) =
    some [((decide ((↑k : Int) < (↑l.1 : Int))) = false),
  ((0 : Nat) < 1),
  Con Try.prog 46 0 [] [.agg [.p (.int .i64 p.1.1), .p (.seq true 2 p.1.2.1.1 (fun i => [.int .i64 ((p.1.2.1.2 i).1), .int .i64 ((p.1.2.1.2 i).2.1)])), .p (.seq true 1 p.2.1.1 (fun i => [.int .i64 (p.2.1.2 i)]))]] [] (.p (.bool b1)),
  (((!!b1) = true) → ((0 : Nat) < 1)),
  (((!!b1) = true) → ((!!b1) = true)),
  (((!!b1) = true) → ((2 : Nat) = 2)),
  (((!!b1) = true) → ((n : Nat) ≤ n)),
  (((!!b1) = true) → ((1 : Nat) = 1)),
  (((!!b1) = true) → ((p.2.1.1 : Nat) ≤ p.2.1.1)),
  (((!!b1) = true) → Con Try.prog 46 0 [] [.agg [.p (.int .i64 N), .p (.seq true 2 n (fun i => [.int .i64 ((h i).1), .int .i64 ((h i).2.1)])), .p (.seq true 1 p.2.1.1 (fun i => [.int .i64 (p.2.1.2 i)]))]] [] (.p (.bool b2))),
  (((!!b1) = true) → ((!!b1) = true)),
  (((!b1) = false) → ((!!b1) = true)),
  ((bif !b1 then true else !b2) = true),
  ((0 : Nat) < 1),
  ((true = true) → ((1 : Nat) = 1)),
  ((0 : Nat) < 1),
  ((0 : Int) = 0),
  ((0 : Nat) = 0),
  ((0 : Nat) = 0),
  (false = false),
  ((0 : Nat) = 0),
  ((0 : Nat) = 0),
  (∀ i : Nat, (((i : Nat) < 0) → All [])),
  (∀ i : Nat, (((i : Nat) < 0) → All []))] := by kernel_rfl
theorem rWd (p : T_Pinned) (l : T_BarS) (k : Nat) (N : Int) (n : Nat) (h : Nat → T_Bar) (b1 b2 : Bool) :
    pathOb Try.prog Try.f17 0 [.reg [oT, oT, oT, oT], .dec false, .reg [oT, ⟨true, (some ⟨[], [], 1, [], .p (.bool b1)⟩), none⟩, oT, oT, oT, ⟨true, (some ⟨[], [], 1, [], .p (.bool b2)⟩), none⟩, oT, oT], .dec false, .reg [oT, oT, oT]] [.code (cAt (bodyOf Try.f17) [1, 1, 0, 1, 0, 0]), .inLoop (cAt (bodyOf Try.f17) [1, 1, 0, 1, 0, 0]), .inBlock 0, .code (cAt (bodyOf Try.f17) [1, 1, 1])] (SQs p l k N n h) [3, 4] 1 [(0, brOb n h), (1, iOb p.2.1.1 p.2.1.2)] (.tup [.agg [.p (.int .i64 N), .ar 2 0 0 n, .ar 1 1 0 p.2.1.1], .p (.bool true)]) =
    some [((decide ((↑k : Int) < (↑l.1 : Int))) = false),
  ((0 : Nat) < 1),
  Con Try.prog 46 0 [] [.agg [.p (.int .i64 p.1.1), .p (.seq true 2 p.1.2.1.1 (fun i => [.int .i64 ((p.1.2.1.2 i).1), .int .i64 ((p.1.2.1.2 i).2.1)])), .p (.seq true 1 p.2.1.1 (fun i => [.int .i64 (p.2.1.2 i)]))]] [] (.p (.bool b1)),
  (((!!b1) = true) → ((0 : Nat) < 1)),
  (((!!b1) = true) → ((!!b1) = true)),
  (((!!b1) = true) → ((2 : Nat) = 2)),
  (((!!b1) = true) → ((n : Nat) ≤ n)),
  (((!!b1) = true) → ((1 : Nat) = 1)),
  (((!!b1) = true) → ((p.2.1.1 : Nat) ≤ p.2.1.1)),
  (((!!b1) = true) → Con Try.prog 46 0 [] [.agg [.p (.int .i64 N), .p (.seq true 2 n (fun i => [.int .i64 ((h i).1), .int .i64 ((h i).2.1)])), .p (.seq true 1 p.2.1.1 (fun i => [.int .i64 (p.2.1.2 i)]))]] [] (.p (.bool b2))),
  (((!!b1) = true) → ((!!b1) = true)),
  (((!b1) = false) → ((!!b1) = true)),
  ((bif !b1 then true else !b2) = false),
  ((0 : Nat) < 1),
  ((0 : Nat) < 1),
  ((true = true) → ((1 : Nat) = 1)),
  ((0 : Nat) < 1),
  ((N : Int) = N),
  ((0 : Nat) = 0),
  ((n : Nat) = n),
  ((0 : Nat) = 0),
  ((p.2.1.1 : Nat) = p.2.1.1),
  (true = true),
  ((2 : Nat) = 2),
  ((n : Nat) ≤ n),
  (∀ i : Nat, (((i : Nat) < n) → (All [] ∧ (([.p (.int .i64 ((h i).1)), .p (.int .i64 ((h i).2.1))] : List AV) = [.p (.int .i64 ((h i).1)), .p (.int .i64 ((h i).2.1))])))),
  ((1 : Nat) = 1),
  ((p.2.1.1 : Nat) ≤ p.2.1.1),
  (∀ i : Nat, (((i : Nat) < p.2.1.1) → (All [] ∧ (([.p (.int .i64 (p.2.1.2 i))] : List AV) = [.p (.int .i64 (p.2.1.2 i))])))),
  (∀ i : Nat, (((i : Nat) < n) → All [])),
  (∀ i : Nat, (((i : Nat) < p.2.1.1) → All []))] := by kernel_rfl
def arI (v : T_Graph) (l : T_BarS) : Nat → Bool × T_Graph
  | 0 => (true, v)
  | k + 1 => ((arI v l k).1 && abB (arI v l k).2 (l.2 k).1 (l.2 k).2.1, abG (arI v l k).2 (l.2 k).1 (l.2 k).2.1)
theorem arI_false (v : T_Graph) (l : T_BarS) (k : Nat) (h : (arI v l k).1 = false) : ∀ n, k ≤ n → (arI v l n).1 = false
  | 0, h' => by obtain rfl : k = 0 := by omega
                exact h
  | n + 1, h' => by
    by_cases e : k = n + 1
    · subst e; exact h
    · simp [arI, arI_false v l k h n (by omega)]
def arB (p : T_Pinned) (l : T_BarS) : Bool := pinnedF p && ((arI p.1 l l.1).1 && pinnedF ((arI p.1 l l.1).2, p.2))
def zPin : T_Pinned := ((0, (0, fun _ => (0, 0, ())), ()), (0, fun _ => 0), ())
def arP (p : T_Pinned) (l : T_BarS) : T_Pinned := if arB p l = true then ((arI p.1 l l.1).2, p.2) else zPin
theorem arI_n (v : T_Graph) (l : T_BarS) : ∀ k, (arI v l k).2.2.1.1 ≤ v.2.1.1 ∨ (arI v l k).2.2.1.1 ≤ 24
  | 0 => .inl (Nat.le_refl _)
  | k + 1 => by
    have h := arI_n v l k
    have h2 := abG_n (arI v l k).2 (l.2 k).1 (l.2 k).2.1
    simp only [arI]
    omega
theorem sm_pin {p : T_Pinned} (h1 : p.1.2.1.1 ≤ 1048576) (h2 : p.2.1.1 ≤ 1048576) : smS s_Pinned p :=
  ⟨⟨trivial, ⟨h1, fun i hi => by simp [smS, smL]⟩, trivial⟩, ⟨h2, fun i hi => by simp [smS]⟩, trivial⟩
theorem con_ApplyRepair_s (p : T_Pinned) (hs : smS s_Pinned p) (l : T_BarS) (hl : l.1 ≤ 1048576) :
    Con Try.prog 17 0 [] [pinA p, graphL l] [(0, brOb (arP p l).1.2.1.1 (arP p l).1.2.1.2), (1, iOb (arP p l).2.1.1 (arP p l).2.1.2)]
      (.tup [.agg [.p (.int .i64 (arP p l).1.1), .ar 2 0 0 (arP p l).1.2.1.1, .ar 1 1 0 (arP p l).2.1.1], .p (.bool (arB p l))]) := by
  have hn1 : p.1.2.1.1 ≤ 1048576 := hs.1.2.1.1
  have hn2 : p.2.1.1 ≤ 1048576 := hs.2.1.1
  have c1 := con_IsPinned_s p hs
  have cc := con_l2Copy p.1 hn1
  refine con_start Try.func17 rfl (by kernel_rfl) rfl (fun c hc => ?_)
  have lp : ∀ d k, k + d = l.1 → (arI p.1 l k).1 = true →
      Run Try.prog c 17 [.code (cAt (bodyOf Try.f17) [1, 1, 0, 1, 0, 0]), .inLoop (cAt (bodyOf Try.f17) [1, 1, 0, 1, 0, 0]), .inBlock 0, .code (cAt (bodyOf Try.f17) [1, 1, 1])] (SQs p l k (arI p.1 l k).2.1 (arI p.1 l k).2.2.1.1 (arI p.1 l k).2.2.1.2)
        (Post c [(0, brOb (arP p l).1.2.1.1 (arP p l).1.2.1.2), (1, iOb (arP p l).2.1.1 (arP p l).2.1.2)] (.tup [.agg [.p (.int .i64 (arP p l).1.1), .ar 2 0 0 (arP p l).1.2.1.1, .ar 1 1 0 (arP p l).2.1.1], .p (.bool (arB p l))])) := by
    intro d
    induction d with
    | zero =>
      intro k hk ht
      obtain rfl : k = l.1 := by omega
      have hd : decide ((l.1 : Int) < (l.1 : Int)) = false := by simp
      have hgn := arI_n p.1 l l.1
      have c2 := con_IsPinned_s ((arI p.1 l l.1).2, p.2) (sm_pin (by show (arI p.1 l l.1).2.2.1.1 ≤ 1048576; omega) hn2)
      have hcd : (bif !pinnedF p then true else !pinnedF ((arI p.1 l l.1).2, p.2)) = !arB p l := by
        unfold arB
        rw [ht]
        cases pinnedF p <;> cases pinnedF ((arI p.1 l l.1).2, p.2) <;> rfl
      cases hb : arB p l with
      | false =>
        rw [hb] at hcd
        have hcd' : (bif !pinnedF p then true else !pinnedF ((arI p.1 l l.1).2, p.2)) = true := hcd
        rw [show arP p l = zPin by simp [arP, hb]]
        refine path_ok mixed Try.func17 hc (rWc p l l.1 (arI p.1 l l.1).2.1 (arI p.1 l l.1).2.2.1.1 (arI p.1 l l.1).2.2.1.2 (pinnedF p) (pinnedF ((arI p.1 l l.1).2, p.2))) ?_
        simp only [All]
        repeat' (first | exact trivial | with_reducible apply And.intro)
        all_goals (first | omega | rfl | (intros; first | assumption | exact True.intro | rfl | exact absurd (show false = true by assumption) Bool.false_ne_true | ((repeat' (first | assumption | apply anda | apply notf)); done)) | (exact hd) | (exact c1) | (intro _; exact c2) | (exact hcd') | (intro j hj; exact absurd hj (Nat.not_lt_zero _)) | (intro j hj; simp [All]; done) | (simp; done))
      | true =>
        rw [hb] at hcd
        have hcd' : (bif !pinnedF p then true else !pinnedF ((arI p.1 l l.1).2, p.2)) = false := hcd
        rw [show arP p l = ((arI p.1 l l.1).2, p.2) by simp [arP, hb]]
        refine path_ok mixed Try.func17 hc (rWd p l l.1 (arI p.1 l l.1).2.1 (arI p.1 l l.1).2.2.1.1 (arI p.1 l l.1).2.2.1.2 (pinnedF p) (pinnedF ((arI p.1 l l.1).2, p.2))) ?_
        simp only [All]
        repeat' (first | exact trivial | with_reducible apply And.intro)
        all_goals (first | omega | rfl | (intros; first | assumption | exact True.intro | rfl | exact absurd (show false = true by assumption) Bool.false_ne_true | ((repeat' (first | assumption | apply anda | apply notf)); done)) | (exact hd) | (exact c1) | (intro _; exact c2) | (exact hcd') | (intro j hj; simp [All]; done) | (simp; done))
    | succ d ih =>
      intro k hk ht
      have hd : decide ((k : Int) < (l.1 : Int)) = true := by simp; omega
      have hgn := arI_n p.1 l k
      have ca := con_AddBar_s (arI p.1 l k).2 (sm_graph (by omega)) (l.2 k).1 (l.2 k).2.1
      cases ho : abB (arI p.1 l k).2 (l.2 k).1 (l.2 k).2.1 with
      | false =>
        rw [ho] at ca
        have hb : arB p l = false := by
          have := arI_false p.1 l (k + 1) (by simp [arI, ho]) l.1 (by omega)
          simp [arB, this]
        rw [show arP p l = zPin by simp [arP, hb], hb]
        refine path_ok mixed Try.func17 hc (rWb p l k (arI p.1 l k).2.1 (abG (arI p.1 l k).2 (l.2 k).1 (l.2 k).2.1).1 (arI p.1 l k).2.2.1.1 (abG (arI p.1 l k).2 (l.2 k).1 (l.2 k).2.1).2.1.1 (arI p.1 l k).2.2.1.2 (abG (arI p.1 l k).2 (l.2 k).1 (l.2 k).2.1).2.1.2) ?_
        simp only [All]
        repeat' (first | exact trivial | with_reducible apply And.intro)
        all_goals (first | omega | rfl | (intros; first | assumption | exact True.intro | rfl | exact absurd (show false = true by assumption) Bool.false_ne_true | ((repeat' (first | assumption | apply anda | apply notf)); done)) | (exact hd) | (exact ca) | (intro j hj; exact absurd hj (Nat.not_lt_zero _)) | (intro j hj; simp [All]; done) | (simp; done))
      | true =>
        rw [ho] at ca
        refine piece_ok mixed hc (rWa p l k (arI p.1 l k).2.1 _ (arI p.1 l k).2.2.1.1 _ (arI p.1 l k).2.2.1.2 _) ?_ (ih (k + 1) (by omega) (by simp [arI, ht, ho]))
        simp only [All]
        repeat' (first | exact trivial | with_reducible apply And.intro)
        all_goals (first | omega | rfl | (intros; first | assumption | exact True.intro | rfl | exact absurd (show false = true by assumption) Bool.false_ne_true | ((repeat' (first | assumption | apply anda | apply notf)); done)) | (exact hd) | (exact ca) | (intro j hj; simp [All]; done) | (simp; done))
  refine piece_ok mixed hc (rWz p l) ?_ (lp l.1 0 (by omega) rfl)
  simp only [All]
  repeat' (first | exact trivial | with_reducible apply And.intro)
  all_goals (first | omega | rfl | (intros; first | assumption | exact True.intro | rfl | exact absurd (show false = true by assumption) Bool.false_ne_true | ((repeat' (first | assumption | apply anda | apply notf)); done)) | (exact cc) | (intro j hj; simp [All]; done) | (simp; done) | (simp; omega))
theorem goodP_at {N : Int} {g : Nat → Int} : ∀ {n : Nat}, goodP N g n = true → ∀ k, k < n → 0 ≤ g k ∧ g k < N ∧ (0 < k → g (k - 1) < g k)
  | 0, _, k, hk => absurd hk (Nat.not_lt_zero _)
  | n + 1, h, k, hk => by
    simp only [goodP, Bool.and_eq_true, Bool.not_eq_true'] at h
    by_cases e : k = n
    · subst e
      have h2 := h.2
      unfold badP at h2
      by_cases c1 : g k < 0
      · simp [c1] at h2
      by_cases c2 : g k ≥ N
      · simp [c1, c2] at h2
      refine ⟨by omega, by omega, fun h0 => ?_⟩
      simp only [c1, c2, decide_false, cond_false] at h2
      rw [decide_eq_true (show (k : Int) > 0 by omega)] at h2
      simp only [cond_true, decide_eq_false_iff_not] at h2
      rw [show ((k : Int) - 1).toNat = k - 1 by omega] at h2
      omega
    · exact goodP_at h.1 k (by omega)
theorem goodP_asc {N : Int} {g : Nat → Int} {n : Nat} (h : goodP N g n = true) : ∀ j i, i < j → j < n → g i < g j := by
  intro j
  induction j with
  | zero => intro i hi; omega
  | succ j ih =>
    intro i hi hj
    have h1 := (goodP_at h (j + 1) hj).2.2 (by omega)
    rw [show j + 1 - 1 = j by omega] at h1
    by_cases e : i = j
    · rw [e]; exact h1
    · have := ih i (by omega) (by omega); omega
theorem goodP_ge {N : Int} {g : Nat → Int} {n : Nat} (h : goodP N g n = true) : ∀ k, k < n → (k : Int) ≤ g k := by
  intro k
  induction k with
  | zero => intro hk; exact (goodP_at h 0 hk).1
  | succ k ih =>
    intro hk
    have h1 := ih (by omega)
    have h2 := goodP_asc h (k + 1) k (by omega) hk
    omega
theorem pinned_in {p : T_Pinned} (h : pinnedF p = true) : isGraphF p.1 = true ∧ 2 ≤ p.2.1.1 ∧ p.2.1.1 ≤ 8 ∧ p.1.2.1.1 ≤ 15 ∧ p.1.2.1.1 + 2 * p.2.1.1 ≤ 27 := by
  simp only [pinnedF, Bool.and_eq_true] at h
  obtain ⟨h1, h2, h3⟩ := h
  unfold tailP at h3
  cases hs : simpleF p.1 with
  | false => rw [hs] at h3; simp at h3
  | true =>
    rw [hs] at h3
    simp only [simpleF, Bool.and_eq_true] at hs
    have hg := graph_inR hs.2
    by_cases c1 : (p.2.1.1 : Int) ≥ 2
    · by_cases c2 : (p.1.2.1.1 : Int) ≤ 15
      · by_cases c3 : (p.1.2.1.1 : Int) + 2 * (p.2.1.1 : Int) - 3 ≤ 24
        · refine ⟨hs.2, by omega, ?_, by omega, by omega⟩
          have := goodP_ge h1 (p.2.1.1 - 1) (by omega)
          have := goodP_at h1 (p.2.1.1 - 1) (by omega)
          omega
        · simp [c1, c2, c3] at h3
      · simp [c1, c2] at h3
    · simp [c1] at h3
theorem arP_le (p : T_Pinned) (l : T_BarS) : (arP p l).1.2.1.1 ≤ 24 ∧ (arP p l).2.1.1 ≤ 8 := by
  unfold arP
  split
  · rename_i h
    simp only [arB, Bool.and_eq_true] at h
    have := pinned_in h.2.2
    exact ⟨(graph_inR this.1).2.2.1, this.2.2.1⟩
  · exact ⟨Nat.zero_le _, Nat.zero_le _⟩
end Go.Proofs.Ytgdbnnmogddkaaa.Mach
namespace Go.Proofs.Ytgdbnnmogddkaaa.Mat
set_option linter.unusedVariables false
set_option linter.unusedSimpArgs false
noncomputable def rk (N : Nat) (L : List (Nat × Nat)) : Nat := (greedy N 2 3 [] L).length
def Imp (N : Nat) (I : List (Nat × Nat)) (a b : Nat) : Prop := ∃ R, Tight N I R ∧ R a = true ∧ R b = true
theorem cnt_tri (A B C : Nat → Bool) : ∀ l, cnt A l + cnt B l + cnt C l ≤ cnt (uni (uni A B) C) l + cnt (cap2 A B) l + cnt (cap2 A C) l + cnt (cap2 B C) l
  | [] => by simp [cnt]
  | x :: l => by
    have := cnt_tri A B C l
    simp only [cnt, inn, uni, cap2] at *
    cases A x.1 <;> cases B x.1 <;> cases C x.1 <;> cases A x.2 <;> cases B x.2 <;> cases C x.2 <;> simp <;> omega
theorem card_tri (A B C : Nat → Bool) : ∀ n, cardR A n + cardR B n + cardR C n + cardR (cap2 (cap2 A B) C) n = cardR (uni (uni A B) C) n + cardR (cap2 A B) n + cardR (cap2 A C) n + cardR (cap2 B C) n
  | 0 => rfl
  | n + 1 => by
    have := card_tri A B C n
    simp only [cardR, uni, cap2] at *
    cases A n <;> cases B n <;> cases C n <;> simp <;> omega
theorem cnt_zero_of {N : Nat} {I : List (Nat × Nat)} (hI : Sparse N 2 3 I) {R : Nat → Bool} (h : cardR R N ≤ 1) : cnt R I = 0 := by
  have := hI R
  by_cases e : 0 < cnt R I
  · have := this e; omega
  · omega
theorem tight_union2 {N : Nat} {I : List (Nat × Nat)} (hI : Sparse N 2 3 I) {R S : Nat → Bool} (h1 : Tight N I R) (h2 : Tight N I S) (h : 2 ≤ cardR (cap2 R S) N) : Tight N I (uni R S) := by
  have c1 := card_uni R S N
  have c2 := cnt_uni R S I
  have c3 := cnt_mono R (uni R S) (fun v h => by simp [uni, h]) I
  have c4 := hI (uni R S)
  have c5 := hI (cap2 R S)
  unfold Tight at *
  by_cases e : 0 < cnt (cap2 R S) I
  · have := c5 e; have := c4 (by omega); omega
  · have := c4 (by omega); omega
theorem card_none (R : Nat → Bool) : ∀ n, (∀ v, v < n → R v = false) → cardR R n = 0
  | 0, _ => rfl
  | n + 1, h => by simp [cardR, card_none R n (fun v hv => h v (by omega)), h n (by omega)]
theorem card_one_only (R : Nat → Bool) (a : Nat) (ra : R a = true) : ∀ n, a < n → cardR R n ≤ 1 → ∀ v, v < n → R v = true → v = a := by
  intro n ha h v hv hr
  by_cases e : v = a
  · exact e
  · have := card_two R v a hr ra e n hv ha
    omega
theorem tight_tri {N : Nat} {I : List (Nat × Nat)} (hI : Sparse N 2 3 I) {a b c : Nat} (ha : a < N) (hb : b < N) (hc : c < N) (hab : a ≠ b) (hac : a ≠ c) (hbc : b ≠ c)
    (h1 : Imp N I a b) (h2 : Imp N I a c) (h3 : Imp N I b c) : ∃ R, Tight N I R ∧ R a = true ∧ R b = true ∧ R c = true := by
  obtain ⟨A, tA, a1, a2⟩ := h1
  obtain ⟨B, tB, b1, b2⟩ := h2
  obtain ⟨C, tC, c1, c2⟩ := h3
  by_cases k1 : 2 ≤ cardR (cap2 A B) N
  · exact ⟨_, tight_union2 hI tA tB k1, by simp [uni, a1], by simp [uni, a2], by simp [uni, b2]⟩
  by_cases k2 : 2 ≤ cardR (cap2 A C) N
  · exact ⟨_, tight_union2 hI tA tC k2, by simp [uni, a1], by simp [uni, a2], by simp [uni, c2]⟩
  by_cases k3 : 2 ≤ cardR (cap2 B C) N
  · exact ⟨_, tight_union2 hI tB tC k3, by simp [uni, b1], by simp [uni, c1], by simp [uni, b2]⟩
  cases ca : C a with
  | true => exact ⟨C, tC, ca, c1, c2⟩
  | false =>
    have e1 : cardR (cap2 (cap2 A B) C) N = 0 := by
      refine card_none _ _ (fun v hv => ?_)
      cases e : cap2 (cap2 A B) C v with
      | false => rfl
      | true =>
        simp only [cap2, Bool.and_eq_true] at e
        have := card_one_only (cap2 A B) a (by simp [cap2, a1, b1]) N ha (by omega) v hv (by simp [cap2, e.1.1, e.1.2])
        subst this
        rw [ca] at e
        exact absurd e.2 (by simp)
    have f1 := cnt_tri A B C I
    have f2 := card_tri A B C N
    have g1 := card_one (cap2 A B) a (by simp [cap2, a1, b1]) N ha
    have g2 := card_one (cap2 A C) b (by simp [cap2, a2, c1]) N hb
    have g3 := card_one (cap2 B C) c (by simp [cap2, b2, c2]) N hc
    have z1 := cnt_zero_of hI (R := cap2 A B) (by omega)
    have z2 := cnt_zero_of hI (R := cap2 A C) (by omega)
    have z3 := cnt_zero_of hI (R := cap2 B C) (by omega)
    have c4 := hI (uni (uni A B) C)
    have m1 := cnt_mono A (uni (uni A B) C) (fun v h => by simp [uni, h]) I
    refine ⟨uni (uni A B) C, ?_, by simp [uni, a1], by simp [uni, a2], by simp [uni, b2]⟩
    have d1 := card_two A a b a1 a2 hab N ha hb
    unfold Tight at *
    have := c4 (by omega)
    omega
theorem ground_tight {N : Nat} {I : List (Nat × Nat)} (hI : Sparse N 2 3 I) (gr : Nat → Nat) : ∀ m, 2 ≤ m → (∀ i, i < m → gr i < N) → (∀ i j, i < j → j < m → gr i ≠ gr j) →
    (∀ i, 1 ≤ i → i < m → Imp N I (gr 0) (gr i)) → (∀ i, 2 ≤ i → i < m → Imp N I (gr 1) (gr i)) → ∃ R, Tight N I R ∧ ∀ i, i < m → R (gr i) = true
  | 0, h, _, _, _, _ => absurd h (by omega)
  | 1, h, _, _, _, _ => absurd h (by omega)
  | 2, _, hN, hd, h0, h1 => by
    obtain ⟨R, t, r1, r2⟩ := h0 1 (Nat.le_refl _) (by omega)
    refine ⟨R, t, fun i hi => ?_⟩
    rcases (show i = 0 ∨ i = 1 by omega) with rfl | rfl
    · exact r1
    · exact r2
  | m + 3, _, hN, hd, h0, h1 => by
    obtain ⟨R, t, r⟩ := ground_tight hI gr (m + 2) (by omega) (fun i hi => hN i (by omega)) (fun i j h1 h2 => hd i j h1 (by omega)) (fun i h1 h2 => h0 i h1 (by omega)) (fun i h2 h3 => h1 i h2 (by omega))
    obtain ⟨T, tt, t0, t1, t2⟩ := tight_tri hI (hN 0 (by omega)) (hN 1 (by omega)) (hN (m + 2) (by omega)) (hd 0 1 (by omega) (by omega)) (hd 0 (m + 2) (by omega) (by omega)) (hd 1 (m + 2) (by omega) (by omega))
      (h0 1 (Nat.le_refl _) (by omega)) (h0 (m + 2) (by omega) (by omega)) (h1 (m + 2) (by omega) (by omega))
    refine ⟨_, tight_union hI t tt (gr 0) (gr 1) (hd 0 1 (by omega) (by omega)) (hN 0 (by omega)) (hN 1 (by omega)) (r 0 (by omega)) (r 1 (by omega)) t0 t1, fun i hi => ?_⟩
    rcases Nat.lt_or_ge i (m + 2) with h | h
    · simp [uni, r i h]
    · obtain rfl : i = m + 2 := by omega
      simp [uni, t2]
theorem not_sparse_of_tight {N : Nat} {I : List (Nat × Nat)} {R : Nat → Bool} (h : Tight N I R) {x : Nat × Nat} (hx : inn R x = true) : ¬ Sparse N 2 3 (I ++ [x]) := by
  intro hs
  have h1 := hs R
  rw [cnt_append] at h1
  have hc : cnt R [x] = 1 := by simp [cnt, hx]
  rw [hc] at h1
  have := h1 (by omega)
  unfold Tight at h
  omega
theorem greedy_skip {N : Nat} {I : List (Nat × Nat)} : ∀ xs : List (Nat × Nat), (∀ x ∈ xs, ∃ R, Tight N I R ∧ inn R x = true) → greedy N 2 3 I xs = I
  | [], _ => rfl
  | x :: xs, h => by
    obtain ⟨R, t, r⟩ := h x (by simp)
    simp only [greedy]
    rw [if_neg (not_sparse_of_tight t r)]
    exact greedy_skip xs (fun y hy => h y (by simp [hy]))
structure Grd (N m : Nat) (gr : Nat → Nat) (S : List (Nat × Nat)) : Prop where
  two : 2 ≤ m
  lt : ∀ i, i < m → gr i < N
  ne : ∀ i j, i < j → j < m → gr i ≠ gr j
  b0 : ∀ i, 1 ≤ i → i < m → (gr 0, gr i) ∈ S
  b1 : ∀ i, 2 ≤ i → i < m → (gr 1, gr i) ∈ S
theorem Grd.tight {N m : Nat} {gr : Nat → Nat} {S L : List (Nat × Nat)} (h : Grd N m gr S) (hL : ∀ x ∈ L, GoodBar N x) (hs : ∀ x ∈ S, x ∈ L) :
    ∃ R, Tight N (greedy N 2 3 [] L) R ∧ ∀ i, i < m → R (gr i) = true := by
  have ht := greedy_tight L [] hL (sparse_nil N 2 3)
  have imp : ∀ x ∈ S, Imp N (greedy N 2 3 [] L) x.1 x.2 := by
    intro x hx
    obtain ⟨R, t, r⟩ := ht x (hs x hx)
    simp only [inn, Bool.and_eq_true] at r
    exact ⟨R, t, r.1, r.2⟩
  exact ground_tight (greedy_sparse N 2 3 L [] (sparse_nil N 2 3)) gr m h.two h.lt h.ne (fun i h1 h2 => imp _ (h.b0 i h1 h2)) (fun i h1 h2 => imp _ (h.b1 i h1 h2))
theorem Grd.same {N m : Nat} {gr : Nat → Nat} {S L M : List (Nat × Nat)} (h : Grd N m gr S) (hL : ∀ x ∈ L, GoodBar N x) (hM : ∀ x ∈ M, GoodBar N x) (hs : ∀ x ∈ S, x ∈ L) (hLM : ∀ x ∈ L, x ∈ M)
    (hML : ∀ x ∈ M, x ∈ L ∨ ∃ i j, i < m ∧ j < m ∧ x = (gr i, gr j)) : rk N M = rk N L := by
  obtain ⟨R, t, r⟩ := h.tight hL hs
  have e1 : rk N M = rk N (L ++ M) := rank_same M (L ++ M) hM (fun x => by
    simp only [List.mem_append]
    exact ⟨fun h => .inr h, fun h' => h'.elim (hLM x) id⟩)
  rw [e1]
  unfold rk
  rw [greedy_append, greedy_skip M (fun x hx => ?_)]
  rcases hML x hx with h' | ⟨i, j, hi, hj, rfl⟩
  · exact greedy_tight L [] hL (sparse_nil N 2 3) x h'
  · exact ⟨R, t, by simp [inn, r i hi, r j hj]⟩
end Go.Proofs.Ytgdbnnmogddkaaa.Mat
namespace Go.Proofs.Ytgdbnnmogddkaaa.Mach
open Go Go.Sort
set_option linter.unusedVariables false
set_option linter.unusedSimpArgs false
def SHo (p : T_Pinned) (i n : Nat) (h : Nat → T_Bar) : St :=
  ⟨[pinA p, .pt 3 0 0 0, .p .any, .ar 2 1 0 n] ++ List.replicate 6 anyA ++ [inL p.2.1, .p (.int .i64 p.2.1.1), .p (.int .i64 i)] ++ List.replicate 23 anyA, [(0, boxP p), (1, brOb n h)], 2⟩
def SHi (p : T_Pinned) (i j n : Nat) (h : Nat → T_Bar) : St :=
  ⟨[pinA p, .pt 3 0 0 0, .p .any, .ar 2 1 0 n, .p .any, .p (.int .i64 (p.2.1.2 i))] ++ List.replicate 4 anyA ++ [inL p.2.1, .p (.int .i64 p.2.1.1), .p (.int .i64 i)] ++ List.replicate 8 anyA ++
    [.p (.seq true 1 (p.2.1.1 - (i + 1)) (fun s => [.int .i64 (p.2.1.2 (s + (i + 1)))])), .p (.int .i64 ((p.2.1.1 - (i + 1) : Nat) : Int)), .p (.int .i64 j)] ++ List.replicate 12 anyA, [(0, boxP p), (1, brOb n h)], 2⟩
def SKl (p : T_Pinned) (k n : Nat) (h : Nat → T_Bar) : St :=
  ⟨[pinA p, .pt 3 0 0 0, .pt 2 1 0 0, .pt 2 2 0 0, .p (.int .i64 k)] ++ List.replicate 39 anyA, [(0, boxP p), (1, zG2), (2, ⟨true, 2, 1, fun _ => [.p (.int .i64 p.1.1), .ar 2 3 0 n]⟩), (3, brOb n h)], 4⟩
def SKa (p : T_Pinned) (k n : Nat) (h : Nat → T_Bar) : St :=
  ⟨[pinA p, .pt 3 0 0 0, .pt 2 1 0 0, .pt 2 2 0 0, .p (.int .i64 k)] ++ List.replicate 19 anyA, [(0, boxP p), (1, zG2), (2, ⟨true, 2, 1, fun _ => [.p (.int .i64 p.1.1), .ar 2 3 0 n]⟩), (3, brOb n h)], 4⟩
theorem hAz (p : T_Pinned) :
    pieceOb Try.prog 0 [.reg [oT, oT], .reg [oT, oT], .reg [oT, oT, oT, oT], .head] [.code (bodyOf Try.f104)] (start Try.f104 [] 0 [pinA p]) [0, 64] 1 (SHo p 0 0 (fun _ => (0, 0, ()))) =
    some ([.code (cAt (bodyOf Try.f104) [1, 1, 0, 1, 0, 0]), .inLoop (cAt (bodyOf Try.f104) [1, 1, 0, 1, 0, 0]), .inBlock 0, .code (cAt (bodyOf Try.f104) [1, 1, 1])], [((0 : Nat) < 1),
  ((p.1.1 : Int) = p.1.1),
  ((p.1.2.1.1 : Nat) = p.1.2.1.1),
  (∀ i : Nat, (((i : Nat) < p.1.2.1.1) → (([.int .i64 ((p.1.2.1.2 i).1), .int .i64 ((p.1.2.1.2 i).2.1)] : List PV) = [.int .i64 ((p.1.2.1.2 i).1), .int .i64 ((p.1.2.1.2 i).2.1)]))),
  ((p.2.1.1 : Nat) = p.2.1.1),
  (∀ i : Nat, (((i : Nat) < p.2.1.1) → (([.int .i64 (p.2.1.2 i)] : List PV) = [.int .i64 (p.2.1.2 i)]))),
  ((0 : Nat) = 0),
  ((0 : Nat) = 0),
  ((0 : Nat) = 0),
  ((p.2.1.1 : Nat) = p.2.1.1),
  (∀ i : Nat, (((i : Nat) < p.2.1.1) → (([.int .i64 (p.2.1.2 i)] : List PV) = [.int .i64 (p.2.1.2 i)]))),
  (((↑p.2.1.1 : Int) : Int) = (↑p.2.1.1 : Int)),
  ((0 : Int) = (↑0 : Int)),
  ((([AV.p (PV.int IntKind.i64 p.1.1), graphL p.1.2.1, inL p.2.1].length) : Nat) = 3),
  ((1 : Nat) ≤ 1),
  ((1 : Nat) ≤ 1),
  ((p.1.1 : Int) = p.1.1),
  ((p.1.2.1.1 : Nat) = p.1.2.1.1),
  (∀ i : Nat, (((i : Nat) < p.1.2.1.1) → (([.int .i64 ((p.1.2.1.2 i).1), .int .i64 ((p.1.2.1.2 i).2.1)] : List PV) = [.int .i64 ((p.1.2.1.2 i).1), .int .i64 ((p.1.2.1.2 i).2.1)]))),
  ((p.2.1.1 : Nat) = p.2.1.1),
  (∀ i : Nat, (((i : Nat) < p.2.1.1) → (([.int .i64 (p.2.1.2 i)] : List PV) = [.int .i64 (p.2.1.2 i)]))),
  ((2 : Nat) = 2),
  ((0 : Nat) ≤ 0),
  (∀ i : Nat, (((i : Nat) < 0) → (All [] ∧ (([.p .any, .p .any] : List AV) = [.p (.int .i64 0), .p (.int .i64 0)]))))]) := by kernel_rfl
theorem hAo (p : T_Pinned) (i n : Nat) (h : Nat → T_Bar) :
    pieceOb Try.prog 0 [.reg [oT], .dec true, .reg [oT, oT, oT, oT, oT], .reg [oT, oT, oT, oT, oT, oT, oT], .head] [.code (cAt (bodyOf Try.f104) [1, 1, 0, 1, 0, 0]), .inLoop (cAt (bodyOf Try.f104) [1, 1, 0, 1, 0, 0]), .inBlock 0, .code (cAt (bodyOf Try.f104) [1, 1, 1])] (SHo p i n h) [0, 1] 1 (SHi p i 0 n h) =
    some ([.code (cAt (bodyOf Try.f104) [1, 1, 0, 1, 0, 0, 1, 1, 0, 0, 1, 1, 0, 0]), .inLoop (cAt (bodyOf Try.f104) [1, 1, 0, 1, 0, 0, 1, 1, 0, 0, 1, 1, 0, 0]), .inBlock 2, .inBlock 1, .code (cAt (bodyOf Try.f104) [1, 1, 0, 1, 0, 0, 1, 1, 1]), .inLoop (cAt (bodyOf Try.f104) [1, 1, 0, 1, 0, 0]), .inBlock 0, .code (cAt (bodyOf Try.f104) [1, 1, 1])], [((decide ((↑i : Int) < (↑p.2.1.1 : Int))) = true),
  ((0 : Int) ≤ (↑i : Int)),
  (((↑i : Int) : Int) < (↑p.2.1.1 : Int)),
  ((0 : Nat) < 1),
  (((-9223372036854775808) : Int) ≤ ((↑i : Int) + 1)),
  ((((↑i : Int) + 1) : Int) ≤ 9223372036854775807),
  ((0 : Int) ≤ ((↑i : Int) + 1)),
  ((((↑i : Int) + 1) : Int) ≤ (↑p.2.1.1 : Int)),
  (((↑p.2.1.1 : Int) : Int) ≤ (↑p.2.1.1 : Int)),
  ((p.1.1 : Int) = p.1.1),
  ((p.1.2.1.1 : Nat) = p.1.2.1.1),
  (∀ i_1 : Nat, (((i_1 : Nat) < p.1.2.1.1) → (([.int .i64 ((p.1.2.1.2 i_1).1), .int .i64 ((p.1.2.1.2 i_1).2.1)] : List PV) = [.int .i64 ((p.1.2.1.2 i_1).1), .int .i64 ((p.1.2.1.2 i_1).2.1)]))),
  ((p.2.1.1 : Nat) = p.2.1.1),
  (∀ i_1 : Nat, (((i_1 : Nat) < p.2.1.1) → (([.int .i64 (p.2.1.2 i_1)] : List PV) = [.int .i64 (p.2.1.2 i_1)]))),
  ((0 : Nat) = 0),
  ((0 : Nat) = 0),
  ((n : Nat) = n),
  (((p.2.1.2 i) : Int) = (p.2.1.2 i)),
  ((p.2.1.1 : Nat) = p.2.1.1),
  (∀ i_1 : Nat, (((i_1 : Nat) < p.2.1.1) → (([.int .i64 (p.2.1.2 i_1)] : List PV) = [.int .i64 (p.2.1.2 i_1)]))),
  (((↑p.2.1.1 : Int) : Int) = (↑p.2.1.1 : Int)),
  (((↑i : Int) : Int) = (↑i : Int)),
  (((p.2.1.1 - (i + 1)) : Nat) = (p.2.1.1 - (i + 1))),
  (∀ i_1 : Nat, (((i_1 : Nat) < (p.2.1.1 - (i + 1))) → (([.int .i64 (p.2.1.2 (i_1 + (i + 1)))] : List PV) = [.int .i64 (p.2.1.2 (i_1 + (i + 1)))]))),
  (((↑(p.2.1.1 - (i + 1)) : Int) : Int) = (↑(p.2.1.1 - (i + 1)) : Int)),
  ((0 : Int) = (↑0 : Int)),
  ((3 : Nat) = 3),
  ((1 : Nat) ≤ 1),
  ((1 : Nat) ≤ 1),
  ((p.1.1 : Int) = p.1.1),
  ((p.1.2.1.1 : Nat) = p.1.2.1.1),
  (∀ i_1 : Nat, (((i_1 : Nat) < p.1.2.1.1) → (([.int .i64 ((p.1.2.1.2 i_1).1), .int .i64 ((p.1.2.1.2 i_1).2.1)] : List PV) = [.int .i64 ((p.1.2.1.2 i_1).1), .int .i64 ((p.1.2.1.2 i_1).2.1)]))),
  ((p.2.1.1 : Nat) = p.2.1.1),
  (∀ i_1 : Nat, (((i_1 : Nat) < p.2.1.1) → (([.int .i64 (p.2.1.2 i_1)] : List PV) = [.int .i64 (p.2.1.2 i_1)]))),
  ((2 : Nat) = 2),
  ((n : Nat) ≤ n),
  (∀ i_1 : Nat, (((i_1 : Nat) < n) → (All [] ∧ (([.p (.int .i64 ((h i_1).1)), .p (.int .i64 ((h i_1).2.1))] : List AV) = [.p (.int .i64 ((h i_1).1)), .p (.int .i64 ((h i_1).2.1))]))))]) := by kernel_rfl
theorem hAi (p : T_Pinned) (i j n : Nat) (h : Nat → T_Bar) (x : T_Bar) :
    pieceOb Try.prog 0 [.reg [oT], .dec true, .reg [oT, oT, oT], .reg [oT, oT, oT, ⟨true, (some ⟨[], [], 1, [], .agg [.p (.int .i64 x.1), .p (.int .i64 x.2.1)]⟩), none⟩, oT, oT, oT], .reg [oT, oT], .head] [.code (cAt (bodyOf Try.f104) [1, 1, 0, 1, 0, 0, 1, 1, 0, 0, 1, 1, 0, 0]), .inLoop (cAt (bodyOf Try.f104) [1, 1, 0, 1, 0, 0, 1, 1, 0, 0, 1, 1, 0, 0]), .inBlock 2, .inBlock 1, .code (cAt (bodyOf Try.f104) [1, 1, 0, 1, 0, 0, 1, 1, 1]), .inLoop (cAt (bodyOf Try.f104) [1, 1, 0, 1, 0, 0]), .inBlock 0, .code (cAt (bodyOf Try.f104) [1, 1, 1])] (SHi p i j n h) [0, 290] 1 (SHi p i (j + 1) (n + 1) (snoc n h x)) =
    some ([.code (cAt (bodyOf Try.f104) [1, 1, 0, 1, 0, 0, 1, 1, 0, 0, 1, 1, 0, 0]), .inLoop (cAt (bodyOf Try.f104) [1, 1, 0, 1, 0, 0, 1, 1, 0, 0, 1, 1, 0, 0]), .inBlock 2, .inBlock 1, .code (cAt (bodyOf Try.f104) [1, 1, 0, 1, 0, 0, 1, 1, 1]), .inLoop (cAt (bodyOf Try.f104) [1, 1, 0, 1, 0, 0]), .inBlock 0, .code (cAt (bodyOf Try.f104) [1, 1, 1])], [((decide ((↑j : Int) < (↑(p.2.1.1 - (i + 1)) : Int))) = true),
  ((0 : Int) ≤ (↑j : Int)),
  (((↑j : Int) : Int) < (↑(p.2.1.1 - (i + 1)) : Int)),
  Con Try.prog 106 0 [] [.p (.int .i64 (p.2.1.2 i)), .p (.int .i64 (p.2.1.2 (j + (i + 1))))] [] (.agg [.p (.int .i64 x.1), .p (.int .i64 x.2.1)]),
  ((1 : Nat) ≤ 1),
  ((n : Nat) ≤ n),
  ((((n + 1) * 16) : Nat) ≤ 140737488355328),
  (((n + 1) : Nat) ≤ 9223372036854775807),
  (((-9223372036854775808) : Int) ≤ ((↑j : Int) + 1)),
  ((((↑j : Int) + 1) : Int) ≤ 9223372036854775807),
  ((p.1.1 : Int) = p.1.1),
  ((p.1.2.1.1 : Nat) = p.1.2.1.1),
  (∀ i_1 : Nat, (((i_1 : Nat) < p.1.2.1.1) → (([.int .i64 ((p.1.2.1.2 i_1).1), .int .i64 ((p.1.2.1.2 i_1).2.1)] : List PV) = [.int .i64 ((p.1.2.1.2 i_1).1), .int .i64 ((p.1.2.1.2 i_1).2.1)]))),
  ((p.2.1.1 : Nat) = p.2.1.1),
  (∀ i_1 : Nat, (((i_1 : Nat) < p.2.1.1) → (([.int .i64 (p.2.1.2 i_1)] : List PV) = [.int .i64 (p.2.1.2 i_1)]))),
  ((0 : Nat) = 0),
  ((0 : Nat) = 0),
  (((n + 1) : Nat) = (n + 1)),
  (((p.2.1.2 i) : Int) = (p.2.1.2 i)),
  ((p.2.1.1 : Nat) = p.2.1.1),
  (∀ i_1 : Nat, (((i_1 : Nat) < p.2.1.1) → (([.int .i64 (p.2.1.2 i_1)] : List PV) = [.int .i64 (p.2.1.2 i_1)]))),
  (((↑p.2.1.1 : Int) : Int) = (↑p.2.1.1 : Int)),
  (((↑i : Int) : Int) = (↑i : Int)),
  (((p.2.1.1 - (i + 1)) : Nat) = (p.2.1.1 - (i + 1))),
  (∀ i_1 : Nat, (((i_1 : Nat) < (p.2.1.1 - (i + 1))) → (([.int .i64 (p.2.1.2 (i_1 + (i + 1)))] : List PV) = [.int .i64 (p.2.1.2 (i_1 + (i + 1)))]))),
  (((↑(p.2.1.1 - (i + 1)) : Int) : Int) = (↑(p.2.1.1 - (i + 1)) : Int)),
  ((((↑j : Int) + 1) : Int) = (↑(j + 1) : Int)),
  ((3 : Nat) = 3),
  ((1 : Nat) ≤ 1),
  ((1 : Nat) ≤ 1),
  ((p.1.1 : Int) = p.1.1),
  ((p.1.2.1.1 : Nat) = p.1.2.1.1),
  (∀ i_1 : Nat, (((i_1 : Nat) < p.1.2.1.1) → (([.int .i64 ((p.1.2.1.2 i_1).1), .int .i64 ((p.1.2.1.2 i_1).2.1)] : List PV) = [.int .i64 ((p.1.2.1.2 i_1).1), .int .i64 ((p.1.2.1.2 i_1).2.1)]))),
  ((p.2.1.1 : Nat) = p.2.1.1),
  (∀ i_1 : Nat, (((i_1 : Nat) < p.2.1.1) → (([.int .i64 (p.2.1.2 i_1)] : List PV) = [.int .i64 (p.2.1.2 i_1)]))),
  ((2 : Nat) = 2),
  (((n + 1) : Nat) ≤ (n + 1)),
  (∀ i_1 : Nat, (((i_1 : Nat) < (n + 1)) → (All (cvtL false [(290, ⟨false, 2, (n + 1), (fun i_2 => (if (i_2 < n) then [.p (.int .i64 ((h i_2).1)), .p (.int .i64 ((h i_2).2.1))] else [.p (.int .i64 x.1), .p (.int .i64 x.2.1)]))⟩), (258, ⟨false, 2, 1, (fun i_2 => [.p (.int .i64 x.1), .p (.int .i64 x.2.1)])⟩), (0, ⟨true, 3, 1, (fun i_2 => [.p (.int .i64 p.1.1), .p (.seq true 2 p.1.2.1.1 (fun i_3 => [.int .i64 ((p.1.2.1.2 i_3).1), .int .i64 ((p.1.2.1.2 i_3).2.1)])), .p (.seq true 1 p.2.1.1 (fun i_3 => [.int .i64 (p.2.1.2 i_3)]))])⟩)] [0, 290] 1 (if (i_1 < n) then [.p (.int .i64 ((h i_1).1)), .p (.int .i64 ((h i_1).2.1))] else [.p (.int .i64 x.1), .p (.int .i64 x.2.1)])).2 ∧ (((cvtL false [(290, ⟨false, 2, (n + 1), (fun i_2 => (if (i_2 < n) then [.p (.int .i64 ((h i_2).1)), .p (.int .i64 ((h i_2).2.1))] else [.p (.int .i64 x.1), .p (.int .i64 x.2.1)]))⟩), (258, ⟨false, 2, 1, (fun i_2 => [.p (.int .i64 x.1), .p (.int .i64 x.2.1)])⟩), (0, ⟨true, 3, 1, (fun i_2 => [.p (.int .i64 p.1.1), .p (.seq true 2 p.1.2.1.1 (fun i_3 => [.int .i64 ((p.1.2.1.2 i_3).1), .int .i64 ((p.1.2.1.2 i_3).2.1)])), .p (.seq true 1 p.2.1.1 (fun i_3 => [.int .i64 (p.2.1.2 i_3)]))])⟩)] [0, 290] 1 (if (i_1 < n) then [.p (.int .i64 ((h i_1).1)), .p (.int .i64 ((h i_1).2.1))] else [.p (.int .i64 x.1), .p (.int .i64 x.2.1)])).1 : List AV) = [.p (.int .i64 (if i_1 < n then (h i_1).1 else x.1)), .p (.int .i64 (if i_1 < n then (h i_1).2.1 else x.2.1))]))))]) := by kernel_rfl
theorem hAx (p : T_Pinned) (i j n : Nat) (h : Nat → T_Bar) :
    pieceOb Try.prog 0 [.reg [oT], .dec false, .reg [oT, oT], .head] [.code (cAt (bodyOf Try.f104) [1, 1, 0, 1, 0, 0, 1, 1, 0, 0, 1, 1, 0, 0]), .inLoop (cAt (bodyOf Try.f104) [1, 1, 0, 1, 0, 0, 1, 1, 0, 0, 1, 1, 0, 0]), .inBlock 2, .inBlock 1, .code (cAt (bodyOf Try.f104) [1, 1, 0, 1, 0, 0, 1, 1, 1]), .inLoop (cAt (bodyOf Try.f104) [1, 1, 0, 1, 0, 0]), .inBlock 0, .code (cAt (bodyOf Try.f104) [1, 1, 1])] (SHi p i j n h) [0, 1] 1 (SHo p (i + 1) n h) =
    some ([.code (cAt (bodyOf Try.f104) [1, 1, 0, 1, 0, 0]), .inLoop (cAt (bodyOf Try.f104) [1, 1, 0, 1, 0, 0]), .inBlock 0, .code (cAt (bodyOf Try.f104) [1, 1, 1])], [((decide ((↑j : Int) < (↑(p.2.1.1 - (i + 1)) : Int))) = false),
  (((-9223372036854775808) : Int) ≤ ((↑i : Int) + 1)),
  ((((↑i : Int) + 1) : Int) ≤ 9223372036854775807),
  ((p.1.1 : Int) = p.1.1),
  ((p.1.2.1.1 : Nat) = p.1.2.1.1),
  (∀ i_1 : Nat, (((i_1 : Nat) < p.1.2.1.1) → (([.int .i64 ((p.1.2.1.2 i_1).1), .int .i64 ((p.1.2.1.2 i_1).2.1)] : List PV) = [.int .i64 ((p.1.2.1.2 i_1).1), .int .i64 ((p.1.2.1.2 i_1).2.1)]))),
  ((p.2.1.1 : Nat) = p.2.1.1),
  (∀ i_1 : Nat, (((i_1 : Nat) < p.2.1.1) → (([.int .i64 (p.2.1.2 i_1)] : List PV) = [.int .i64 (p.2.1.2 i_1)]))),
  ((0 : Nat) = 0),
  ((0 : Nat) = 0),
  ((n : Nat) = n),
  ((p.2.1.1 : Nat) = p.2.1.1),
  (∀ i_1 : Nat, (((i_1 : Nat) < p.2.1.1) → (([.int .i64 (p.2.1.2 i_1)] : List PV) = [.int .i64 (p.2.1.2 i_1)]))),
  (((↑p.2.1.1 : Int) : Int) = (↑p.2.1.1 : Int)),
  ((((↑i : Int) + 1) : Int) = (↑(i + 1) : Int)),
  ((3 : Nat) = 3),
  ((1 : Nat) ≤ 1),
  ((1 : Nat) ≤ 1),
  ((p.1.1 : Int) = p.1.1),
  ((p.1.2.1.1 : Nat) = p.1.2.1.1),
  (∀ i_1 : Nat, (((i_1 : Nat) < p.1.2.1.1) → (([.int .i64 ((p.1.2.1.2 i_1).1), .int .i64 ((p.1.2.1.2 i_1).2.1)] : List PV) = [.int .i64 ((p.1.2.1.2 i_1).1), .int .i64 ((p.1.2.1.2 i_1).2.1)]))),
  ((p.2.1.1 : Nat) = p.2.1.1),
  (∀ i_1 : Nat, (((i_1 : Nat) < p.2.1.1) → (([.int .i64 (p.2.1.2 i_1)] : List PV) = [.int .i64 (p.2.1.2 i_1)]))),
  ((2 : Nat) = 2),
  ((n : Nat) ≤ n),
  (∀ i_1 : Nat, (((i_1 : Nat) < n) → (All [] ∧ (([.p (.int .i64 ((h i_1).1)), .p (.int .i64 ((h i_1).2.1))] : List AV) = [.p (.int .i64 ((h i_1).1)), .p (.int .i64 ((h i_1).2.1))]))))]) := by kernel_rfl
theorem hAe (p : T_Pinned) (i n : Nat) (h : Nat → T_Bar) :
    pathOb Try.prog Try.f104 0 [.reg [oT], .dec false, .reg [oT, oT]] [.code (cAt (bodyOf Try.f104) [1, 1, 0, 1, 0, 0]), .inLoop (cAt (bodyOf Try.f104) [1, 1, 0, 1, 0, 0]), .inBlock 0, .code (cAt (bodyOf Try.f104) [1, 1, 1])] (SHo p i n h) [1] 1 [(0, brOb n h)] (.ar 2 0 0 n) =
    some [((decide ((↑i : Int) < (↑p.2.1.1 : Int))) = false),
  ((0 : Nat) = 0),
  ((n : Nat) = n),
  ((2 : Nat) = 2),
  ((n : Nat) ≤ n),
  (∀ i_1 : Nat, (((i_1 : Nat) < n) → (All [] ∧ (([.p (.int .i64 ((h i_1).1)), .p (.int .i64 ((h i_1).2.1))] : List AV) = [.p (.int .i64 ((h i_1).1)), .p (.int .i64 ((h i_1).2.1))])))),
  (∀ i_1 : Nat, (((i_1 : Nat) < n) → All []))] := by kernel_rfl
theorem hKz (p : T_Pinned) :
    pieceOb Try.prog 0 [.reg [oT, oT], .reg [oT, oT, oT, oT, oT, oT, oT], .reg [oT], .head] [.code (bodyOf Try.f128)] (start Try.f128 [] 0 [pinA p]) [0, 32, 224, 160] 1 (SKl p 1 0 (fun _ => (0, 0, ()))) =
    some ([.code (cAt (bodyOf Try.f128) [1, 1, 0, 1, 0, 0]), .inLoop (cAt (bodyOf Try.f128) [1, 1, 0, 1, 0, 0]), .inBlock 0, .code (cAt (bodyOf Try.f128) [1, 1, 1])], [((0 : Nat) < 1),
  ((0 : Nat) < 1),
  ((true = true) → ((1 : Nat) = 1)),
  ((p.1.1 : Int) = p.1.1),
  ((p.1.2.1.1 : Nat) = p.1.2.1.1),
  (∀ i : Nat, (((i : Nat) < p.1.2.1.1) → (([.int .i64 ((p.1.2.1.2 i).1), .int .i64 ((p.1.2.1.2 i).2.1)] : List PV) = [.int .i64 ((p.1.2.1.2 i).1), .int .i64 ((p.1.2.1.2 i).2.1)]))),
  ((p.2.1.1 : Nat) = p.2.1.1),
  (∀ i : Nat, (((i : Nat) < p.2.1.1) → (([.int .i64 (p.2.1.2 i)] : List PV) = [.int .i64 (p.2.1.2 i)]))),
  ((0 : Nat) = 0),
  ((0 : Nat) = 0),
  ((0 : Nat) = 0),
  ((1 : Int) = (↑1 : Int)),
  ((([AV.p (PV.int IntKind.i64 p.1.1), graphL p.1.2.1, inL p.2.1].length) : Nat) = 3),
  ((1 : Nat) ≤ 1),
  ((1 : Nat) ≤ 1),
  ((p.1.1 : Int) = p.1.1),
  ((p.1.2.1.1 : Nat) = p.1.2.1.1),
  (∀ i : Nat, (((i : Nat) < p.1.2.1.1) → (([.int .i64 ((p.1.2.1.2 i).1), .int .i64 ((p.1.2.1.2 i).2.1)] : List PV) = [.int .i64 ((p.1.2.1.2 i).1), .int .i64 ((p.1.2.1.2 i).2.1)]))),
  ((p.2.1.1 : Nat) = p.2.1.1),
  (∀ i : Nat, (((i : Nat) < p.2.1.1) → (([.int .i64 (p.2.1.2 i)] : List PV) = [.int .i64 (p.2.1.2 i)]))),
  ((((List.map (fun v => AV.p (absV v)) [Value.int IntKind.i64 0, Value.slice none 0 0]).length) : Nat) = 2),
  ((1 : Nat) ≤ 1),
  ((1 : Nat) ≤ 1),
  ((0 : Int) = 0),
  ((((List.map (fun v => AV.p (absV v)) [Value.int IntKind.i64 0, Value.slice none 0 0]).length) : Nat) = 2),
  ((1 : Nat) ≤ 1),
  ((1 : Nat) ≤ 1),
  ((p.1.1 : Int) = p.1.1),
  ((0 : Nat) = 0),
  ((0 : Nat) = 0),
  ((2 : Nat) = 2),
  ((0 : Nat) ≤ 0),
  (∀ i : Nat, (((i : Nat) < 0) → (All [] ∧ (([.p .any, .p .any] : List AV) = [.p (.int .i64 0), .p (.int .i64 0)]))))]) := by kernel_rfl
theorem hKa (p : T_Pinned) (k n m : Nat) (h r : Nat → T_Bar) :
    pieceOb Try.prog 0 [.reg [oT, oT, oT, oT, oT], .dec true, .reg [oT, oT, oT, oT, oT, oT, oT, oT, oT, oT, oT, ⟨true, (some ⟨[], [], 1, [(0, brOb m r)], .agg [.p (.int .i64 p.1.1), .ar 2 0 0 m]⟩), none⟩, oT], .reg [oT, oT], .dec false, .reg [oT, oT, oT], .head] [.code (cAt (bodyOf Try.f128) [1, 1, 0, 1, 0, 0]), .inLoop (cAt (bodyOf Try.f128) [1, 1, 0, 1, 0, 0]), .inBlock 0, .code (cAt (bodyOf Try.f128) [1, 1, 1])] (SKl p k n h) [0, 1, 2, 516] 1 (SKl p (k + 1) m r) =
    some ([.code (cAt (bodyOf Try.f128) [1, 1, 0, 1, 0, 0]), .inLoop (cAt (bodyOf Try.f128) [1, 1, 0, 1, 0, 0]), .inBlock 0, .code (cAt (bodyOf Try.f128) [1, 1, 1])], [((0 : Nat) < 1),
  ((decide ((↑k : Int) < (↑p.2.1.1 : Int))) = true),
  ((0 : Nat) < 1),
  ((0 : Nat) < 1),
  ((0 : Int) ≤ 0),
  ((0 : Int) < (↑p.2.1.1 : Int)),
  ((0 : Nat) < 1),
  ((0 : Int) ≤ (↑k : Int)),
  (((↑k : Int) : Int) < (↑p.2.1.1 : Int)),
  ((2 : Nat) = 2),
  ((n : Nat) ≤ n),
  Con Try.prog 108 0 [] [.agg [.p (.int .i64 p.1.1), .p (.seq true 2 n (fun i => [.int .i64 ((h i).1), .int .i64 ((h i).2.1)]))], .agg [.p (.int .i64 (p.2.1.2 0)), .p (.int .i64 (p.2.1.2 k))]] [(0, ⟨false, 2, m, (fun i => [.p (.int .i64 ((r i).1)), .p (.int .i64 ((r i).2.1))])⟩)] (.agg [.p (.int .i64 p.1.1), .ar 2 0 0 m]),
  ((0 : Nat) < 1),
  ((true = true) → ((1 : Nat) = 1)),
  ((decide ((↑k : Int) > 1)) = false),
  (((-9223372036854775808) : Int) ≤ ((↑k : Int) + 1)),
  ((((↑k : Int) + 1) : Int) ≤ 9223372036854775807),
  ((p.1.1 : Int) = p.1.1),
  ((p.1.2.1.1 : Nat) = p.1.2.1.1),
  (∀ i : Nat, (((i : Nat) < p.1.2.1.1) → (([.int .i64 ((p.1.2.1.2 i).1), .int .i64 ((p.1.2.1.2 i).2.1)] : List PV) = [.int .i64 ((p.1.2.1.2 i).1), .int .i64 ((p.1.2.1.2 i).2.1)]))),
  ((p.2.1.1 : Nat) = p.2.1.1),
  (∀ i : Nat, (((i : Nat) < p.2.1.1) → (([.int .i64 (p.2.1.2 i)] : List PV) = [.int .i64 (p.2.1.2 i)]))),
  ((0 : Nat) = 0),
  ((0 : Nat) = 0),
  ((0 : Nat) = 0),
  ((((↑k : Int) + 1) : Int) = (↑(k + 1) : Int)),
  ((3 : Nat) = 3),
  ((1 : Nat) ≤ 1),
  ((1 : Nat) ≤ 1),
  ((p.1.1 : Int) = p.1.1),
  ((p.1.2.1.1 : Nat) = p.1.2.1.1),
  (∀ i : Nat, (((i : Nat) < p.1.2.1.1) → (([.int .i64 ((p.1.2.1.2 i).1), .int .i64 ((p.1.2.1.2 i).2.1)] : List PV) = [.int .i64 ((p.1.2.1.2 i).1), .int .i64 ((p.1.2.1.2 i).2.1)]))),
  ((p.2.1.1 : Nat) = p.2.1.1),
  (∀ i : Nat, (((i : Nat) < p.2.1.1) → (([.int .i64 (p.2.1.2 i)] : List PV) = [.int .i64 (p.2.1.2 i)]))),
  ((2 : Nat) = 2),
  ((1 : Nat) ≤ 1),
  ((1 : Nat) ≤ 1),
  ((0 : Int) = 0),
  ((2 : Nat) = 2),
  ((1 : Nat) ≤ 1),
  ((1 : Nat) ≤ 1),
  ((p.1.1 : Int) = p.1.1),
  ((0 : Nat) = 0),
  ((m : Nat) = m),
  ((2 : Nat) = 2),
  ((m : Nat) ≤ m),
  (∀ i : Nat, (((i : Nat) < m) → (All [] ∧ (([.p (.int .i64 ((r i).1)), .p (.int .i64 ((r i).2.1))] : List AV) = [.p (.int .i64 ((r i).1)), .p (.int .i64 ((r i).2.1))]))))]) := by kernel_rfl
theorem hKb (p : T_Pinned) (k n m m2 : Nat) (h r r2 : Nat → T_Bar) :
    pieceOb Try.prog 0 [.reg [oT, oT, oT, oT, oT], .dec true, .reg [oT, oT, oT, oT, oT, oT, oT, oT, oT, oT, oT, ⟨true, (some ⟨[], [], 1, [(0, brOb m r)], .agg [.p (.int .i64 p.1.1), .ar 2 0 0 m]⟩), none⟩, oT], .reg [oT, oT], .dec true, .reg [oT, oT, oT, oT, oT, oT, oT, oT, oT, oT, oT, ⟨true, (some ⟨[], [], 1, [(0, brOb m2 r2)], .agg [.p (.int .i64 p.1.1), .ar 2 0 0 m2]⟩), none⟩, oT], .reg [oT, oT, oT], .head] [.code (cAt (bodyOf Try.f128) [1, 1, 0, 1, 0, 0]), .inLoop (cAt (bodyOf Try.f128) [1, 1, 0, 1, 0, 0]), .inBlock 0, .code (cAt (bodyOf Try.f128) [1, 1, 1])] (SKl p k n h) [0, 1, 2, 996] 1 (SKl p (k + 1) m2 r2) =
    some ([.code (cAt (bodyOf Try.f128) [1, 1, 0, 1, 0, 0]), .inLoop (cAt (bodyOf Try.f128) [1, 1, 0, 1, 0, 0]), .inBlock 0, .code (cAt (bodyOf Try.f128) [1, 1, 1])], [((0 : Nat) < 1),
  ((decide ((↑k : Int) < (↑p.2.1.1 : Int))) = true),
  ((0 : Nat) < 1),
  ((0 : Nat) < 1),
  ((0 : Int) ≤ 0),
  ((0 : Int) < (↑p.2.1.1 : Int)),
  ((0 : Nat) < 1),
  ((0 : Int) ≤ (↑k : Int)),
  (((↑k : Int) : Int) < (↑p.2.1.1 : Int)),
  ((2 : Nat) = 2),
  ((n : Nat) ≤ n),
  Con Try.prog 108 0 [] [.agg [.p (.int .i64 p.1.1), .p (.seq true 2 n (fun i => [.int .i64 ((h i).1), .int .i64 ((h i).2.1)]))], .agg [.p (.int .i64 (p.2.1.2 0)), .p (.int .i64 (p.2.1.2 k))]] [(0, ⟨false, 2, m, (fun i => [.p (.int .i64 ((r i).1)), .p (.int .i64 ((r i).2.1))])⟩)] (.agg [.p (.int .i64 p.1.1), .ar 2 0 0 m]),
  ((0 : Nat) < 1),
  ((true = true) → ((1 : Nat) = 1)),
  ((decide ((↑k : Int) > 1)) = true),
  ((0 : Nat) < 1),
  ((0 : Nat) < 1),
  ((0 : Int) ≤ 1),
  ((1 : Int) < (↑p.2.1.1 : Int)),
  ((0 : Nat) < 1),
  ((0 : Int) ≤ (↑k : Int)),
  (((↑k : Int) : Int) < (↑p.2.1.1 : Int)),
  ((2 : Nat) = 2),
  ((m : Nat) ≤ m),
  Con Try.prog 108 0 [] [.agg [.p (.int .i64 p.1.1), .p (.seq true 2 m (fun i => [.int .i64 ((r i).1), .int .i64 ((r i).2.1)]))], .agg [.p (.int .i64 (p.2.1.2 1)), .p (.int .i64 (p.2.1.2 k))]] [(0, ⟨false, 2, m2, (fun i => [.p (.int .i64 ((r2 i).1)), .p (.int .i64 ((r2 i).2.1))])⟩)] (.agg [.p (.int .i64 p.1.1), .ar 2 0 0 m2]),
  ((0 : Nat) < 1),
  ((true = true) → ((1 : Nat) = 1)),
  (((-9223372036854775808) : Int) ≤ ((↑k : Int) + 1)),
  ((((↑k : Int) + 1) : Int) ≤ 9223372036854775807),
  ((p.1.1 : Int) = p.1.1),
  ((p.1.2.1.1 : Nat) = p.1.2.1.1),
  (∀ i : Nat, (((i : Nat) < p.1.2.1.1) → (([.int .i64 ((p.1.2.1.2 i).1), .int .i64 ((p.1.2.1.2 i).2.1)] : List PV) = [.int .i64 ((p.1.2.1.2 i).1), .int .i64 ((p.1.2.1.2 i).2.1)]))),
  ((p.2.1.1 : Nat) = p.2.1.1),
  (∀ i : Nat, (((i : Nat) < p.2.1.1) → (([.int .i64 (p.2.1.2 i)] : List PV) = [.int .i64 (p.2.1.2 i)]))),
  ((0 : Nat) = 0),
  ((0 : Nat) = 0),
  ((0 : Nat) = 0),
  ((((↑k : Int) + 1) : Int) = (↑(k + 1) : Int)),
  ((3 : Nat) = 3),
  ((1 : Nat) ≤ 1),
  ((1 : Nat) ≤ 1),
  ((p.1.1 : Int) = p.1.1),
  ((p.1.2.1.1 : Nat) = p.1.2.1.1),
  (∀ i : Nat, (((i : Nat) < p.1.2.1.1) → (([.int .i64 ((p.1.2.1.2 i).1), .int .i64 ((p.1.2.1.2 i).2.1)] : List PV) = [.int .i64 ((p.1.2.1.2 i).1), .int .i64 ((p.1.2.1.2 i).2.1)]))),
  ((p.2.1.1 : Nat) = p.2.1.1),
  (∀ i : Nat, (((i : Nat) < p.2.1.1) → (([.int .i64 (p.2.1.2 i)] : List PV) = [.int .i64 (p.2.1.2 i)]))),
  ((2 : Nat) = 2),
  ((1 : Nat) ≤ 1),
  ((1 : Nat) ≤ 1),
  ((0 : Int) = 0),
  ((2 : Nat) = 2),
  ((1 : Nat) ≤ 1),
  ((1 : Nat) ≤ 1),
  ((p.1.1 : Int) = p.1.1),
  ((0 : Nat) = 0),
  ((m2 : Nat) = m2),
  ((2 : Nat) = 2),
  ((m2 : Nat) ≤ m2),
  (∀ i : Nat, (((i : Nat) < m2) → (All [] ∧ (([.p (.int .i64 ((r2 i).1)), .p (.int .i64 ((r2 i).2.1))] : List AV) = [.p (.int .i64 ((r2 i).1)), .p (.int .i64 ((r2 i).2.1))]))))]) := by kernel_rfl
theorem hKe (p : T_Pinned) (k n : Nat) (h : Nat → T_Bar) :
    pathOb Try.prog Try.f128 0 [.reg [oT, oT, oT, oT, oT], .dec false, .reg [oT, oT]] [.code (cAt (bodyOf Try.f128) [1, 1, 0, 1, 0, 0]), .inLoop (cAt (bodyOf Try.f128) [1, 1, 0, 1, 0, 0]), .inBlock 0, .code (cAt (bodyOf Try.f128) [1, 1, 1])] (SKl p k n h) [3] 1 [(0, brOb n h)] (.agg [.p (.int .i64 p.1.1), .ar 2 0 0 n]) =
    some [((0 : Nat) < 1),
  ((decide ((↑k : Int) < (↑p.2.1.1 : Int))) = false),
  ((0 : Nat) < 1),
  ((0 : Nat) < 1),
  ((true = true) → ((1 : Nat) = 1)),
  ((0 : Nat) < 1),
  ((p.1.1 : Int) = p.1.1),
  ((0 : Nat) = 0),
  ((n : Nat) = n),
  ((2 : Nat) = 2),
  ((n : Nat) ≤ n),
  (∀ i : Nat, (((i : Nat) < n) → (All [] ∧ (([.p (.int .i64 ((h i).1)), .p (.int .i64 ((h i).2.1))] : List AV) = [.p (.int .i64 ((h i).1)), .p (.int .i64 ((h i).2.1))])))),
  (∀ i : Nat, (((i : Nat) < n) → All []))] := by kernel_rfl
theorem hLz (p : T_Pinned) (n : Nat) (h : Nat → T_Bar) :
    pieceOb Try.prog 0 [.reg [oT, oT], .reg [oT, ⟨true, (some ⟨[], [], 1, [(0, brOb n h)], .agg [.p (.int .i64 p.1.1), .ar 2 0 0 n]⟩), none⟩, oT, oT], .reg [oT], .head] [.code (bodyOf Try.f97)] (start Try.f97 [] 0 [pinA p]) [0, 32, 128, 96] 1 (SKa p 0 n h) =
    some ([.code (cAt (bodyOf Try.f97) [1, 1, 0, 1, 0, 0]), .inLoop (cAt (bodyOf Try.f97) [1, 1, 0, 1, 0, 0]), .inBlock 0, .code (cAt (bodyOf Try.f97) [1, 1, 1])], [((0 : Nat) < 1),
  Con Try.prog 128 0 [] [.agg [.p (.int .i64 p.1.1), .p (.seq true 2 p.1.2.1.1 (fun i => [.int .i64 ((p.1.2.1.2 i).1), .int .i64 ((p.1.2.1.2 i).2.1)])), .p (.seq true 1 p.2.1.1 (fun i => [.int .i64 (p.2.1.2 i)]))]] [(0, ⟨false, 2, n, (fun i => [.p (.int .i64 ((h i).1)), .p (.int .i64 ((h i).2.1))])⟩)] (.agg [.p (.int .i64 p.1.1), .ar 2 0 0 n]),
  ((0 : Nat) < 1),
  ((true = true) → ((1 : Nat) = 1)),
  ((p.1.1 : Int) = p.1.1),
  ((p.1.2.1.1 : Nat) = p.1.2.1.1),
  (∀ i : Nat, (((i : Nat) < p.1.2.1.1) → (([.int .i64 ((p.1.2.1.2 i).1), .int .i64 ((p.1.2.1.2 i).2.1)] : List PV) = [.int .i64 ((p.1.2.1.2 i).1), .int .i64 ((p.1.2.1.2 i).2.1)]))),
  ((p.2.1.1 : Nat) = p.2.1.1),
  (∀ i : Nat, (((i : Nat) < p.2.1.1) → (([.int .i64 (p.2.1.2 i)] : List PV) = [.int .i64 (p.2.1.2 i)]))),
  ((0 : Nat) = 0),
  ((0 : Nat) = 0),
  ((0 : Nat) = 0),
  ((0 : Int) = (↑0 : Int)),
  ((([AV.p (PV.int IntKind.i64 p.1.1), graphL p.1.2.1, inL p.2.1].length) : Nat) = 3),
  ((1 : Nat) ≤ 1),
  ((1 : Nat) ≤ 1),
  ((p.1.1 : Int) = p.1.1),
  ((p.1.2.1.1 : Nat) = p.1.2.1.1),
  (∀ i : Nat, (((i : Nat) < p.1.2.1.1) → (([.int .i64 ((p.1.2.1.2 i).1), .int .i64 ((p.1.2.1.2 i).2.1)] : List PV) = [.int .i64 ((p.1.2.1.2 i).1), .int .i64 ((p.1.2.1.2 i).2.1)]))),
  ((p.2.1.1 : Nat) = p.2.1.1),
  (∀ i : Nat, (((i : Nat) < p.2.1.1) → (([.int .i64 (p.2.1.2 i)] : List PV) = [.int .i64 (p.2.1.2 i)]))),
  ((((List.map (fun v => AV.p (absV v)) [Value.int IntKind.i64 0, Value.slice none 0 0]).length) : Nat) = 2),
  ((1 : Nat) ≤ 1),
  ((1 : Nat) ≤ 1),
  ((0 : Int) = 0),
  ((((List.map (fun v => AV.p (absV v)) [Value.int IntKind.i64 0, Value.slice none 0 0]).length) : Nat) = 2),
  ((1 : Nat) ≤ 1),
  ((1 : Nat) ≤ 1),
  ((p.1.1 : Int) = p.1.1),
  ((0 : Nat) = 0),
  ((n : Nat) = n),
  ((2 : Nat) = 2),
  ((n : Nat) ≤ n),
  (∀ i : Nat, (((i : Nat) < n) → (All [] ∧ (([.p (.int .i64 ((h i).1)), .p (.int .i64 ((h i).2.1))] : List AV) = [.p (.int .i64 ((h i).1)), .p (.int .i64 ((h i).2.1))]))))]) := by kernel_rfl
theorem hLa (p : T_Pinned) (k n m : Nat) (h r : Nat → T_Bar) :
    pieceOb Try.prog 0 [.reg [oT, oT, oT, oT, oT, oT], .dec true, .reg [oT, oT, oT, oT, oT, oT, oT, ⟨true, (some ⟨[], [], 1, [(0, brOb m r)], .agg [.p (.int .i64 p.1.1), .ar 2 0 0 m]⟩), none⟩, oT], .reg [oT, oT, oT], .head] [.code (cAt (bodyOf Try.f97) [1, 1, 0, 1, 0, 0]), .inLoop (cAt (bodyOf Try.f97) [1, 1, 0, 1, 0, 0]), .inBlock 0, .code (cAt (bodyOf Try.f97) [1, 1, 1])] (SKa p k n h) [0, 1, 2, 420] 1 (SKa p (k + 1) m r) =
    some ([.code (cAt (bodyOf Try.f97) [1, 1, 0, 1, 0, 0]), .inLoop (cAt (bodyOf Try.f97) [1, 1, 0, 1, 0, 0]), .inBlock 0, .code (cAt (bodyOf Try.f97) [1, 1, 1])], [((0 : Nat) < 1),
  ((decide ((↑k : Int) < (↑p.1.2.1.1 : Int))) = true),
  ((0 : Nat) < 1),
  ((0 : Nat) < 1),
  ((0 : Int) ≤ (↑k : Int)),
  (((↑k : Int) : Int) < (↑p.1.2.1.1 : Int)),
  ((2 : Nat) = 2),
  ((n : Nat) ≤ n),
  Con Try.prog 108 0 [] [.agg [.p (.int .i64 p.1.1), .p (.seq true 2 n (fun i => [.int .i64 ((h i).1), .int .i64 ((h i).2.1)]))], .agg [.p (.int .i64 ((p.1.2.1.2 k).1)), .p (.int .i64 ((p.1.2.1.2 k).2.1))]] [(0, ⟨false, 2, m, (fun i => [.p (.int .i64 ((r i).1)), .p (.int .i64 ((r i).2.1))])⟩)] (.agg [.p (.int .i64 p.1.1), .ar 2 0 0 m]),
  ((0 : Nat) < 1),
  ((true = true) → ((1 : Nat) = 1)),
  (((-9223372036854775808) : Int) ≤ ((↑k : Int) + 1)),
  ((((↑k : Int) + 1) : Int) ≤ 9223372036854775807),
  ((p.1.1 : Int) = p.1.1),
  ((p.1.2.1.1 : Nat) = p.1.2.1.1),
  (∀ i : Nat, (((i : Nat) < p.1.2.1.1) → (([.int .i64 ((p.1.2.1.2 i).1), .int .i64 ((p.1.2.1.2 i).2.1)] : List PV) = [.int .i64 ((p.1.2.1.2 i).1), .int .i64 ((p.1.2.1.2 i).2.1)]))),
  ((p.2.1.1 : Nat) = p.2.1.1),
  (∀ i : Nat, (((i : Nat) < p.2.1.1) → (([.int .i64 (p.2.1.2 i)] : List PV) = [.int .i64 (p.2.1.2 i)]))),
  ((0 : Nat) = 0),
  ((0 : Nat) = 0),
  ((0 : Nat) = 0),
  ((((↑k : Int) + 1) : Int) = (↑(k + 1) : Int)),
  ((3 : Nat) = 3),
  ((1 : Nat) ≤ 1),
  ((1 : Nat) ≤ 1),
  ((p.1.1 : Int) = p.1.1),
  ((p.1.2.1.1 : Nat) = p.1.2.1.1),
  (∀ i : Nat, (((i : Nat) < p.1.2.1.1) → (([.int .i64 ((p.1.2.1.2 i).1), .int .i64 ((p.1.2.1.2 i).2.1)] : List PV) = [.int .i64 ((p.1.2.1.2 i).1), .int .i64 ((p.1.2.1.2 i).2.1)]))),
  ((p.2.1.1 : Nat) = p.2.1.1),
  (∀ i : Nat, (((i : Nat) < p.2.1.1) → (([.int .i64 (p.2.1.2 i)] : List PV) = [.int .i64 (p.2.1.2 i)]))),
  ((2 : Nat) = 2),
  ((1 : Nat) ≤ 1),
  ((1 : Nat) ≤ 1),
  ((0 : Int) = 0),
  ((2 : Nat) = 2),
  ((1 : Nat) ≤ 1),
  ((1 : Nat) ≤ 1),
  ((p.1.1 : Int) = p.1.1),
  ((0 : Nat) = 0),
  ((m : Nat) = m),
  ((2 : Nat) = 2),
  ((m : Nat) ≤ m),
  (∀ i : Nat, (((i : Nat) < m) → (All [] ∧ (([.p (.int .i64 ((r i).1)), .p (.int .i64 ((r i).2.1))] : List AV) = [.p (.int .i64 ((r i).1)), .p (.int .i64 ((r i).2.1))]))))]) := by kernel_rfl
theorem hLe (p : T_Pinned) (k n : Nat) (h : Nat → T_Bar) :
    pathOb Try.prog Try.f97 0 [.reg [oT, oT, oT, oT, oT, oT], .dec false, .reg [oT, oT]] [.code (cAt (bodyOf Try.f97) [1, 1, 0, 1, 0, 0]), .inLoop (cAt (bodyOf Try.f97) [1, 1, 0, 1, 0, 0]), .inBlock 0, .code (cAt (bodyOf Try.f97) [1, 1, 1])] (SKa p k n h) [3] 1 [(0, brOb n h)] (.agg [.p (.int .i64 p.1.1), .ar 2 0 0 n]) =
    some [((0 : Nat) < 1),
  ((decide ((↑k : Int) < (↑p.1.2.1.1 : Int))) = false),
  ((0 : Nat) < 1),
  ((0 : Nat) < 1),
  ((true = true) → ((1 : Nat) = 1)),
  ((0 : Nat) < 1),
  ((p.1.1 : Int) = p.1.1),
  ((0 : Nat) = 0),
  ((n : Nat) = n),
  ((2 : Nat) = 2),
  ((n : Nat) ≤ n),
  (∀ i : Nat, (((i : Nat) < n) → (All [] ∧ (([.p (.int .i64 ((h i).1)), .p (.int .i64 ((h i).2.1))] : List AV) = [.p (.int .i64 ((h i).1)), .p (.int .i64 ((h i).2.1))])))),
  (∀ i : Nat, (((i : Nat) < n) → All []))] := by kernel_rfl
theorem hPn (p : T_Pinned) :
    pathOb Try.prog Try.f103 0 [.reg [oT, oT], .reg [oT, ⟨true, (some ⟨[], [], 1, [], .p (.bool false)⟩), none⟩, oT], .dec true, .reg [oT]] [.code (bodyOf Try.f103)] (start Try.f103 [] 0 [pinA p]) [] 1 [] (.p (.int .i64 (-1))) =
    some [((0 : Nat) < 1),
  Con Try.prog 52 0 [] [.agg [.p (.int .i64 p.1.1), .p (.seq true 2 p.1.2.1.1 (fun i => [.int .i64 ((p.1.2.1.2 i).1), .int .i64 ((p.1.2.1.2 i).2.1)])), .p (.seq true 1 p.2.1.1 (fun i => [.int .i64 (p.2.1.2 i)]))]] [] (.p (.bool false)),
  ((!false) = true),
  (((-1) : Int) = (-1))] := by kernel_rfl
theorem hPy (p : T_Pinned) (n : Nat) (h : Nat → T_Bar) (r1 r0 : Nat) :
    pathOb Try.prog Try.f103 0 [.reg [oT, oT], .reg [oT, ⟨true, (some ⟨[], [], 1, [], .p (.bool true)⟩), none⟩, oT], .dec false, .reg [oT, oT, oT, oT], .reg [oT, oT, ⟨true, (some ⟨[], [], 1, [(0, brOb n h)], .ar 2 0 0 n⟩), none⟩, oT, oT, oT, oT, ⟨true, (some ⟨[], [], 1, [], .p (.int .i64 r1)⟩), none⟩, oT, oT, ⟨true, (some ⟨[], [], 1, [(0, brOb n h)], .ar 2 0 0 n⟩), none⟩, ⟨true, (some ⟨[], [], 1, [], .p (.int .i64 r0)⟩), none⟩, oT, oT]] [.code (bodyOf Try.f103)] (start Try.f103 [] 0 [pinA p]) [] 1 [] (.p (.int .i64 ((r1 : Int) - (r0 : Int)))) =
    some [((0 : Nat) < 1),
  Con Try.prog 52 0 [] [.agg [.p (.int .i64 p.1.1), .p (.seq true 2 p.1.2.1.1 (fun i => [.int .i64 ((p.1.2.1.2 i).1), .int .i64 ((p.1.2.1.2 i).2.1)])), .p (.seq true 1 p.2.1.1 (fun i => [.int .i64 (p.2.1.2 i)]))]] [] (.p (.bool true)),
  ((!true) = false),
  ((0 : Nat) < 1),
  ((0 : Nat) < 1),
  Con Try.prog 104 0 [] [.agg [.p (.int .i64 p.1.1), .p (.seq true 2 p.1.2.1.1 (fun i => [.int .i64 ((p.1.2.1.2 i).1), .int .i64 ((p.1.2.1.2 i).2.1)])), .p (.seq true 1 p.2.1.1 (fun i => [.int .i64 (p.2.1.2 i)]))]] [(0, ⟨false, 2, n, (fun i => [.p (.int .i64 ((h i).1)), .p (.int .i64 ((h i).2.1))])⟩)] (.ar 2 0 0 n),
  ((0 : Nat) < 1),
  ((n : Nat) ≤ n),
  ((((n + p.1.2.1.1) * 16) : Nat) ≤ 140737488355328),
  (((n + p.1.2.1.1) : Nat) ≤ 9223372036854775807),
  ((2 : Nat) = 2),
  (((n + p.1.2.1.1) : Nat) ≤ (n + p.1.2.1.1)),
  Con Try.prog 130 0 [] [.p (.int .i64 p.1.1), .p (.seq true 2 (n + p.1.2.1.1) (fun i => [(cellP true (if (i < n) then [.p (.int .i64 ((h i).1)), .p (.int .i64 ((h i).2.1))] else [.p (.int .i64 ((p.1.2.1.2 (i - n)).1)), .p (.int .i64 ((p.1.2.1.2 (i - n)).2.1))]) 0), (cellP true (if (i < n) then [.p (.int .i64 ((h i).1)), .p (.int .i64 ((h i).2.1))] else [.p (.int .i64 ((p.1.2.1.2 (i - n)).1)), .p (.int .i64 ((p.1.2.1.2 (i - n)).2.1))]) 1)]))] [] (.p (.int .i64 (↑r1 : Int))),
  ((0 : Nat) < 1),
  Con Try.prog 104 0 [] [.agg [.p (.int .i64 p.1.1), .p (.seq true 2 p.1.2.1.1 (fun i => [.int .i64 ((p.1.2.1.2 i).1), .int .i64 ((p.1.2.1.2 i).2.1)])), .p (.seq true 1 p.2.1.1 (fun i => [.int .i64 (p.2.1.2 i)]))]] [(0, ⟨false, 2, n, (fun i => [.p (.int .i64 ((h i).1)), .p (.int .i64 ((h i).2.1))])⟩)] (.ar 2 0 0 n),
  ((2 : Nat) = 2),
  ((n : Nat) ≤ n),
  Con Try.prog 130 0 [] [.p (.int .i64 p.1.1), .p (.seq true 2 n (fun i => [.int .i64 ((h i).1), .int .i64 ((h i).2.1)]))] [] (.p (.int .i64 (↑r0 : Int))),
  (((-9223372036854775808) : Int) ≤ ((↑r1 : Int) - (↑r0 : Int))),
  ((((↑r1 : Int) - (↑r0 : Int)) : Int) ≤ 9223372036854775807),
  ((((↑r1 : Int) - (↑r0 : Int)) : Int) = ((↑r1 : Int) - (↑r0 : Int)))] := by kernel_rfl
theorem hQn (p : T_Pinned) :
    pathOb Try.prog Try.f96 0 [.reg [oT, oT], .reg [oT, ⟨true, (some ⟨[], [], 1, [], .p (.bool false)⟩), none⟩, oT], .dec true, .reg [oT]] [.code (bodyOf Try.f96)] (start Try.f96 [] 0 [pinA p]) [] 1 [] (.p (.int .i64 (-1))) =
    some [((0 : Nat) < 1),
  Con Try.prog 46 0 [] [.agg [.p (.int .i64 p.1.1), .p (.seq true 2 p.1.2.1.1 (fun i => [.int .i64 ((p.1.2.1.2 i).1), .int .i64 ((p.1.2.1.2 i).2.1)])), .p (.seq true 1 p.2.1.1 (fun i => [.int .i64 (p.2.1.2 i)]))]] [] (.p (.bool false)),
  ((!false) = true),
  (((-1) : Int) = (-1))] := by kernel_rfl
theorem hQy (p : T_Pinned) (n m : Nat) (h k : Nat → T_Bar) (r1 r0 : Nat) :
    pathOb Try.prog Try.f96 0 [.reg [oT, oT], .reg [oT, ⟨true, (some ⟨[], [], 1, [], .p (.bool true)⟩), none⟩, oT], .dec false, .reg [oT, ⟨true, (some ⟨[], [], 1, [(0, brOb n h)], .agg [.p (.int .i64 p.1.1), .ar 2 0 0 n]⟩), none⟩, ⟨true, (some ⟨[], [], 1, [], .p (.int .i64 r1)⟩), none⟩, oT, ⟨true, (some ⟨[], [], 1, [(0, brOb m k)], .agg [.p (.int .i64 p.1.1), .ar 2 0 0 m]⟩), none⟩, ⟨true, (some ⟨[], [], 1, [], .p (.int .i64 r0)⟩), none⟩, oT, oT]] [.code (bodyOf Try.f96)] (start Try.f96 [] 0 [pinA p]) [] 1 [] (.p (.int .i64 ((r1 : Int) - (r0 : Int)))) =
    some [((0 : Nat) < 1),
  Con Try.prog 46 0 [] [.agg [.p (.int .i64 p.1.1), .p (.seq true 2 p.1.2.1.1 (fun i => [.int .i64 ((p.1.2.1.2 i).1), .int .i64 ((p.1.2.1.2 i).2.1)])), .p (.seq true 1 p.2.1.1 (fun i => [.int .i64 (p.2.1.2 i)]))]] [] (.p (.bool true)),
  ((!true) = false),
  ((0 : Nat) < 1),
  Con Try.prog 97 0 [] [.agg [.p (.int .i64 p.1.1), .p (.seq true 2 p.1.2.1.1 (fun i => [.int .i64 ((p.1.2.1.2 i).1), .int .i64 ((p.1.2.1.2 i).2.1)])), .p (.seq true 1 p.2.1.1 (fun i => [.int .i64 (p.2.1.2 i)]))]] [(0, ⟨false, 2, n, (fun i => [.p (.int .i64 ((h i).1)), .p (.int .i64 ((h i).2.1))])⟩)] (.agg [.p (.int .i64 p.1.1), .ar 2 0 0 n]),
  ((2 : Nat) = 2),
  ((n : Nat) ≤ n),
  Con Try.prog 127 0 [] [.agg [.p (.int .i64 p.1.1), .p (.seq true 2 n (fun i => [.int .i64 ((h i).1), .int .i64 ((h i).2.1)]))]] [] (.p (.int .i64 (↑r1 : Int))),
  ((0 : Nat) < 1),
  Con Try.prog 128 0 [] [.agg [.p (.int .i64 p.1.1), .p (.seq true 2 p.1.2.1.1 (fun i => [.int .i64 ((p.1.2.1.2 i).1), .int .i64 ((p.1.2.1.2 i).2.1)])), .p (.seq true 1 p.2.1.1 (fun i => [.int .i64 (p.2.1.2 i)]))]] [(0, ⟨false, 2, m, (fun i => [.p (.int .i64 ((k i).1)), .p (.int .i64 ((k i).2.1))])⟩)] (.agg [.p (.int .i64 p.1.1), .ar 2 0 0 m]),
  ((2 : Nat) = 2),
  ((m : Nat) ≤ m),
  Con Try.prog 127 0 [] [.agg [.p (.int .i64 p.1.1), .p (.seq true 2 m (fun i => [.int .i64 ((k i).1), .int .i64 ((k i).2.1)]))]] [] (.p (.int .i64 (↑r0 : Int))),
  (((-9223372036854775808) : Int) ≤ ((↑r1 : Int) - (↑r0 : Int))),
  ((((↑r1 : Int) - (↑r0 : Int)) : Int) ≤ 9223372036854775807),
  ((((↑r1 : Int) - (↑r0 : Int)) : Int) = ((↑r1 : Int) - (↑r0 : Int)))] := by kernel_rfl
abbrev NB := Nat × (Nat → T_Bar)
def zNB : NB := (0, fun _ => (0, 0, ()))
def sn (r : NB) (x : T_Bar) : NB := (r.1 + 1, snoc r.1 r.2 x)
def hIn (s : Nat → Int) (i : Nat) (r : NB) : Nat → NB
  | 0 => r
  | j + 1 => sn (hIn s i r j) (brX (s i) (s (j + (i + 1))))
def hC (s : Nat → Int) (m : Nat) : Nat → NB
  | 0 => zNB
  | i + 1 => hIn s i (hC s m i) (m - (i + 1))
def hS (s : Nat → Int) : Nat → NB
  | 0 => zNB
  | k + 1 => if 1 ≤ k then insR (insR (hS s k).2 (hS s k).1 (s 0, s (k + 1), ())).2 (insR (hS s k).2 (hS s k).1 (s 0, s (k + 1), ())).1 (s 1, s (k + 1), ()) else insR (hS s k).2 (hS s k).1 (s 0, s (k + 1), ())
def aS (g : Nat → T_Bar) (r : NB) : Nat → NB
  | 0 => r
  | k + 1 => insR (aS g r k).2 (aS g r k).1 (g k)
def aC (r : NB) (g : Nat → T_Bar) (i : Nat) : T_Bar := (if i < r.1 then (r.2 i).1 else (g (i - r.1)).1, if i < r.1 then (r.2 i).2.1 else (g (i - r.1)).2.1, ())
def mem (r : NB) (y : T_Bar) : Prop := ∃ s, s < r.1 ∧ r.2 s = y
theorem hIn_n (s : Nat → Int) (i : Nat) (r : NB) : ∀ j, (hIn s i r j).1 = r.1 + j
  | 0 => rfl
  | j + 1 => by simp only [hIn, sn, hIn_n s i r j]; omega
theorem hC_n (s : Nat → Int) (m : Nat) : ∀ i, (hC s m i).1 ≤ i * m
  | 0 => by simp [hC, zNB]
  | i + 1 => by
    have := hC_n s m i
    simp only [hC, hIn_n]
    rw [Nat.add_mul]; omega
theorem hIn_mem (s : Nat → Int) (i : Nat) (r : NB) (y : T_Bar) : ∀ j, mem (hIn s i r j) y ↔ mem r y ∨ ∃ q, q < j ∧ brX (s i) (s (q + (i + 1))) = y
  | 0 => by
    constructor
    · intro h; exact .inl h
    · rintro (h | ⟨q, h, _⟩)
      · exact h
      · exact absurd h (Nat.not_lt_zero _)
  | j + 1 => by
    have ih := hIn_mem s i r y j
    show (∃ t, t < (hIn s i r j).1 + 1 ∧ snoc (hIn s i r j).1 (hIn s i r j).2 _ t = y) ↔ _
    rw [snoc_mem]
    rw [show (∃ t, t < (hIn s i r j).1 ∧ (hIn s i r j).2 t = y) ↔ _ from ih]
    constructor
    · rintro ((h | ⟨q, h1, h2⟩) | h)
      · exact .inl h
      · exact .inr ⟨q, by omega, h2⟩
      · exact .inr ⟨j, by omega, h⟩
    · rintro (h | ⟨q, h1, h2⟩)
      · exact .inl (.inl h)
      · by_cases e : q = j
        · subst e; exact .inr h2
        · exact .inl (.inr ⟨q, by omega, h2⟩)
theorem hC_mem (s : Nat → Int) (m : Nat) (y : T_Bar) : ∀ i, i ≤ m → (mem (hC s m i) y ↔ ∃ a b, a < i ∧ a < b ∧ b < m ∧ brX (s a) (s b) = y)
  | 0, _ => by
    constructor
    · rintro ⟨t, h, _⟩; exact absurd h (Nat.not_lt_zero _)
    · rintro ⟨a, b, h, _⟩; exact absurd h (Nat.not_lt_zero _)
  | i + 1, hi => by
    have ih := hC_mem s m y i (by omega)
    simp only [hC]
    rw [hIn_mem, ih]
    constructor
    · rintro (⟨a, b, h1, h2, h3, h4⟩ | ⟨q, h1, h2⟩)
      · exact ⟨a, b, by omega, h2, h3, h4⟩
      · exact ⟨i, q + (i + 1), by omega, by omega, by omega, h2⟩
    · rintro ⟨a, b, h1, h2, h3, h4⟩
      by_cases e : a = i
      · subst e; exact .inr ⟨b - (a + 1), by omega, by rw [show b - (a + 1) + (a + 1) = b by omega]; exact h4⟩
      · exact .inl ⟨a, b, by omega, h2, h3, h4⟩
theorem mem_ins (r : NB) (x y : T_Bar) : mem (insR r.2 r.1 x) y ↔ mem r y ∨ x = y := insR_mem r.2 r.1 x y
theorem hS_mem (s : Nat → Int) (y : T_Bar) : ∀ k, mem (hS s k) y ↔ ∃ b, 1 ≤ b ∧ b ≤ k ∧ ((s 0, s b, ()) = y ∨ (2 ≤ b ∧ (s 1, s b, ()) = y))
  | 0 => by
    constructor
    · rintro ⟨t, h, _⟩; exact absurd h (Nat.not_lt_zero _)
    · rintro ⟨b, h1, h2, _⟩; omega
  | k + 1 => by
    have ih := hS_mem s y k
    simp only [hS]
    split
    · rename_i h1
      rw [mem_ins, mem_ins, ih]
      constructor
      · rintro ((⟨b, h2, h3, h4⟩ | h) | h)
        · exact ⟨b, h2, by omega, h4⟩
        · exact ⟨k + 1, by omega, Nat.le_refl _, .inl h⟩
        · exact ⟨k + 1, by omega, Nat.le_refl _, .inr ⟨by omega, h⟩⟩
      · rintro ⟨b, h2, h3, h4⟩
        by_cases e : b = k + 1
        · subst e
          rcases h4 with h4 | h4
          · exact .inl (.inr h4)
          · exact .inr h4.2
        · exact .inl (.inl ⟨b, h2, by omega, h4⟩)
    · rename_i h1
      rw [mem_ins, ih]
      constructor
      · rintro (⟨b, h2, h3, h4⟩ | h)
        · exact ⟨b, h2, by omega, h4⟩
        · exact ⟨k + 1, by omega, Nat.le_refl _, .inl h⟩
      · rintro ⟨b, h2, h3, h4⟩
        by_cases e : b = k + 1
        · subst e
          rcases h4 with h4 | h4
          · exact .inr h4
          · omega
        · exact .inl ⟨b, h2, by omega, h4⟩
theorem hS_n (s : Nat → Int) : ∀ k, (hS s k).1 ≤ 2 * k ∧ (1 ≤ k → (hS s k).1 + 1 ≤ 2 * k)
  | 0 => by simp [hS, zNB]
  | k + 1 => by
    have ih := hS_n s k
    simp only [hS]
    split
    · rw [insR_n, insR_n]; omega
    · rw [insR_n]; omega
theorem aS_mem (g : Nat → T_Bar) (r : NB) (y : T_Bar) : ∀ k, mem (aS g r k) y ↔ mem r y ∨ ∃ i, i < k ∧ g i = y
  | 0 => by
    constructor
    · intro h; exact .inl h
    · rintro (h | ⟨q, h, _⟩)
      · exact h
      · exact absurd h (Nat.not_lt_zero _)
  | k + 1 => by
    have ih := aS_mem g r y k
    simp only [aS]
    rw [mem_ins, ih]
    constructor
    · rintro ((h | ⟨q, h1, h2⟩) | h)
      · exact .inl h
      · exact .inr ⟨q, by omega, h2⟩
      · exact .inr ⟨k, by omega, h⟩
    · rintro (h | ⟨q, h1, h2⟩)
      · exact .inl (.inl h)
      · by_cases e : q = k
        · subst e; exact .inr h2
        · exact .inl (.inr ⟨q, by omega, h2⟩)
theorem aS_n (g : Nat → T_Bar) (r : NB) : ∀ k, (aS g r k).1 = r.1 + k
  | 0 => rfl
  | k + 1 => by simp only [aS, insR_n, aS_n g r k]; omega
theorem aC_lt {r : NB} {g : Nat → T_Bar} {i : Nat} (h : i < r.1) : aC r g i = r.2 i := by simp only [aC, h, if_true]
theorem aC_ge {r : NB} {g : Nat → T_Bar} {i : Nat} (h : ¬ i < r.1) : aC r g i = g (i - r.1) := by simp only [aC, h, if_false]
theorem aC_mem (r : NB) (g : Nat → T_Bar) (nb : Nat) (y : T_Bar) : mem (r.1 + nb, aC r g) y ↔ mem r y ∨ ∃ i, i < nb ∧ g i = y := by
  constructor
  · rintro ⟨t, h1, h2⟩
    by_cases e : t < r.1
    · exact .inl ⟨t, e, by rw [← h2]; exact (aC_lt e).symm⟩
    · exact .inr ⟨t - r.1, by have : t < r.1 + nb := h1; omega, by rw [← h2]; exact (aC_ge e).symm⟩
  · rintro (⟨t, h1, h2⟩ | ⟨i, h1, h2⟩)
    · exact ⟨t, by show t < r.1 + nb; omega, by show aC r g t = y; rw [aC_lt h1]; exact h2⟩
    · exact ⟨r.1 + i, by show r.1 + i < r.1 + nb; omega, by show aC r g (r.1 + i) = y; rw [aC_ge (by omega), show r.1 + i - r.1 = i by omega]; exact h2⟩
theorem con_held (p : T_Pinned) (hm : p.2.1.1 ≤ 8) : Con Try.prog 104 0 [] [pinA p] [(0, brOb (hC p.2.1.2 p.2.1.1 p.2.1.1).1 (hC p.2.1.2 p.2.1.1 p.2.1.1).2)] (.ar 2 0 0 (hC p.2.1.2 p.2.1.1 p.2.1.1).1) := by
  refine con_start Try.func104 rfl (by kernel_rfl) rfl (fun c hc => ?_)
  generalize hR : hC p.2.1.2 p.2.1.1 p.2.1.1 = R
  have li : ∀ i, i < p.2.1.1 → (Run Try.prog c 104 [.code (cAt (bodyOf Try.f104) [1, 1, 0, 1, 0, 0]), .inLoop (cAt (bodyOf Try.f104) [1, 1, 0, 1, 0, 0]), .inBlock 0, .code (cAt (bodyOf Try.f104) [1, 1, 1])] (SHo p (i + 1) (hC p.2.1.2 p.2.1.1 (i + 1)).1 (hC p.2.1.2 p.2.1.1 (i + 1)).2) (Post c [(0, brOb R.1 R.2)] (.ar 2 0 0 R.1))) →
      ∀ d j, j + d = p.2.1.1 - (i + 1) → Run Try.prog c 104 [.code (cAt (bodyOf Try.f104) [1, 1, 0, 1, 0, 0, 1, 1, 0, 0, 1, 1, 0, 0]), .inLoop (cAt (bodyOf Try.f104) [1, 1, 0, 1, 0, 0, 1, 1, 0, 0, 1, 1, 0, 0]), .inBlock 2, .inBlock 1, .code (cAt (bodyOf Try.f104) [1, 1, 0, 1, 0, 0, 1, 1, 1]), .inLoop (cAt (bodyOf Try.f104) [1, 1, 0, 1, 0, 0]), .inBlock 0, .code (cAt (bodyOf Try.f104) [1, 1, 1])] (SHi p i j (hIn p.2.1.2 i (hC p.2.1.2 p.2.1.1 i) j).1 (hIn p.2.1.2 i (hC p.2.1.2 p.2.1.1 i) j).2) (Post c [(0, brOb R.1 R.2)] (.ar 2 0 0 R.1)) := by
    intro i hi hk d
    induction d with
    | zero =>
      intro j hj
      obtain rfl : j = p.2.1.1 - (i + 1) := by omega
      have hd : decide (((p.2.1.1 - (i + 1) : Nat) : Int) < ((p.2.1.1 - (i + 1) : Nat) : Int)) = false := by simp
      refine piece_ok mixed hc (hAx p i (p.2.1.1 - (i + 1)) _ _) ?_ hk
      simp only [All]
      repeat' (first | exact trivial | with_reducible apply And.intro)
      all_goals (first | omega | rfl | (intros; first | assumption | exact True.intro | rfl | exact absurd (show false = true by assumption) Bool.false_ne_true | ((repeat' (first | assumption | apply anda | apply notf)); done)) | (exact hd) | (intro t ht; simp [All]))
    | succ d ih =>
      intro j hj
      have hd : decide ((j : Int) < ((p.2.1.1 - (i + 1) : Nat) : Int)) = true := decide_eq_true (by omega)
      have cb := con_barX (p.2.1.2 i) (p.2.1.2 (j + (i + 1)))
      have hn := hIn_n p.2.1.2 i (hC p.2.1.2 p.2.1.1 i) j
      have hn2 := hC_n p.2.1.2 p.2.1.1 i
      have hn3 : i * p.2.1.1 ≤ 64 := Nat.le_trans (Nat.mul_le_mul (show i ≤ 8 by omega) hm) (by omega)
      have hrec := ih (j + 1) (by omega)
      generalize hq : hIn p.2.1.2 i (hC p.2.1.2 p.2.1.1 i) j = q at hn ⊢
      rw [show hIn p.2.1.2 i (hC p.2.1.2 p.2.1.1 i) (j + 1) = sn q (brX (p.2.1.2 i) (p.2.1.2 (j + (i + 1)))) by rw [hIn, hq]] at hrec
      refine piece_ok mixed hc (hAi p i j q.1 q.2 (brX (p.2.1.2 i) (p.2.1.2 (j + (i + 1))))) ?_ hrec
      simp only [All]
      repeat' (first | exact trivial | with_reducible apply And.intro)
      all_goals (first | omega | rfl | (intros; first | assumption | exact True.intro | rfl | exact absurd (show false = true by assumption) Bool.false_ne_true | ((repeat' (first | assumption | apply anda | apply notf)); done)) | (exact hd) | (exact cb) | (intro t ht; by_cases h' : t < q.1 <;> simp [h', snoc, cvtL, cvt, tg, tru, All]))
  have lo : ∀ d i, i + d = p.2.1.1 → Run Try.prog c 104 [.code (cAt (bodyOf Try.f104) [1, 1, 0, 1, 0, 0]), .inLoop (cAt (bodyOf Try.f104) [1, 1, 0, 1, 0, 0]), .inBlock 0, .code (cAt (bodyOf Try.f104) [1, 1, 1])] (SHo p i (hC p.2.1.2 p.2.1.1 i).1 (hC p.2.1.2 p.2.1.1 i).2) (Post c [(0, brOb R.1 R.2)] (.ar 2 0 0 R.1)) := by
    intro d
    induction d with
    | zero =>
      intro i hi
      obtain rfl : i = p.2.1.1 := by omega
      have hd : decide ((p.2.1.1 : Int) < (p.2.1.1 : Int)) = false := by simp
      rw [hR]
      refine path_ok mixed Try.func104 hc (hAe p p.2.1.1 R.1 R.2) ?_
      simp only [All]
      repeat' (first | exact trivial | with_reducible apply And.intro)
      all_goals (first | omega | rfl | (intros; first | assumption | exact True.intro | rfl | exact absurd (show false = true by assumption) Bool.false_ne_true | ((repeat' (first | assumption | apply anda | apply notf)); done)) | (exact hd) | (intro t ht; simp [All]))
    | succ d ih =>
      intro i hi
      have hd : decide ((i : Int) < (p.2.1.1 : Int)) = true := decide_eq_true (by omega)
      refine piece_ok mixed hc (hAo p i _ _) ?_ (li i (by omega) (ih (i + 1) (by omega)) (p.2.1.1 - (i + 1)) 0 (by omega))
      simp only [All]
      repeat' (first | exact trivial | with_reducible apply And.intro)
      all_goals (first | omega | rfl | (intros; first | assumption | exact True.intro | rfl | exact absurd (show false = true by assumption) Bool.false_ne_true | ((repeat' (first | assumption | apply anda | apply notf)); done)) | (exact hd) | (intro t ht; simp [All]))
  refine piece_ok mixed hc (hAz p) ?_ (lo p.2.1.1 0 (by omega))
  simp only [All]
  repeat' (first | exact trivial | with_reducible apply And.intro)
  all_goals (first | omega | rfl | (intros; first | assumption | exact True.intro | rfl | exact absurd (show false = true by assumption) Bool.false_ne_true | ((repeat' (first | assumption | apply anda | apply notf)); done)) | (intro t ht; exact absurd ht (Nat.not_lt_zero _)) | (intro t ht; simp [All]))
theorem con_l20Held (p : T_Pinned) (h1 : 0 ≤ p.1.1) (hm : 1 ≤ p.2.1.1 ∧ p.2.1.1 ≤ 8) : Con Try.prog 128 0 [] [pinA p] [(0, brOb (hS p.2.1.2 (p.2.1.1 - 1)).1 (hS p.2.1.2 (p.2.1.1 - 1)).2)] (.agg [.p (.int .i64 p.1.1), .ar 2 0 0 (hS p.2.1.2 (p.2.1.1 - 1)).1]) := by
  refine con_start Try.func128 rfl (by kernel_rfl) rfl (fun c hc => ?_)
  have hN : ((p.1.1.toNat : Nat) : Int) = p.1.1 := by omega
  generalize hR : hS p.2.1.2 (p.2.1.1 - 1) = R
  have lo : ∀ d k, k + 1 + d = p.2.1.1 → Run Try.prog c 128 [.code (cAt (bodyOf Try.f128) [1, 1, 0, 1, 0, 0]), .inLoop (cAt (bodyOf Try.f128) [1, 1, 0, 1, 0, 0]), .inBlock 0, .code (cAt (bodyOf Try.f128) [1, 1, 1])] (SKl p (k + 1) (hS p.2.1.2 k).1 (hS p.2.1.2 k).2) (Post c [(0, brOb R.1 R.2)] (.agg [.p (.int .i64 p.1.1), .ar 2 0 0 R.1])) := by
    intro d
    induction d with
    | zero =>
      intro k hk
      have hd : decide (((k + 1 : Nat) : Int) < (p.2.1.1 : Int)) = false := decide_eq_false (by omega)
      rw [show k = p.2.1.1 - 1 by omega, hR]
      rw [show k = p.2.1.1 - 1 by omega] at hd
      refine path_ok mixed Try.func128 hc (hKe p (p.2.1.1 - 1 + 1) R.1 R.2) ?_
      simp only [All]
      repeat' (first | exact trivial | with_reducible apply And.intro)
      all_goals (first | omega | rfl | (intros; first | assumption | exact True.intro | rfl | exact absurd (show false = true by assumption) Bool.false_ne_true | ((repeat' (first | assumption | apply anda | apply notf)); done)) | (exact hd) | (intro t ht; simp [All]))
    | succ d ih =>
      intro k hk
      have hd : decide (((k + 1 : Nat) : Int) < (p.2.1.1 : Int)) = true := decide_eq_true (by omega)
      have hrec := ih (k + 1) (by omega)
      have hn := hS_n p.2.1.2 k
      have hs : hS p.2.1.2 (k + 1) = if 1 ≤ k then insR (insR (hS p.2.1.2 k).2 (hS p.2.1.2 k).1 (p.2.1.2 0, p.2.1.2 (k + 1), ())).2 (insR (hS p.2.1.2 k).2 (hS p.2.1.2 k).1 (p.2.1.2 0, p.2.1.2 (k + 1), ())).1 (p.2.1.2 1, p.2.1.2 (k + 1), ()) else insR (hS p.2.1.2 k).2 (hS p.2.1.2 k).1 (p.2.1.2 0, p.2.1.2 (k + 1), ()) := rfl
      generalize hS p.2.1.2 k = q at hn hs ⊢
      have c1 := con_l2Put q.2 q.1 p.1.1.toNat (p.2.1.2 0, p.2.1.2 (k + 1), ()) (by omega)
      have n1 := insR_n q.2 q.1 (p.2.1.2 0, p.2.1.2 (k + 1), ())
      rw [grG, hN] at c1
      generalize insR q.2 q.1 (p.2.1.2 0, p.2.1.2 (k + 1), ()) = q1 at c1 n1 hs
      by_cases h1k : 1 ≤ k
      · have hg : decide (((k + 1 : Nat) : Int) > 1) = true := decide_eq_true (by omega)
        rw [if_pos h1k] at hs
        have c2 := con_l2Put q1.2 q1.1 p.1.1.toNat (p.2.1.2 1, p.2.1.2 (k + 1), ()) (by omega)
        rw [grG, hN] at c2
        rw [hs] at hrec
        generalize insR q1.2 q1.1 (p.2.1.2 1, p.2.1.2 (k + 1), ()) = q2 at c2 hrec
        refine piece_ok mixed hc (hKb p (k + 1) q.1 q1.1 q2.1 q.2 q1.2 q2.2) ?_ hrec
        simp only [All]
        repeat' (first | exact trivial | with_reducible apply And.intro)
        all_goals (first | omega | rfl | (intros; first | assumption | exact True.intro | rfl | exact absurd (show false = true by assumption) Bool.false_ne_true | ((repeat' (first | assumption | apply anda | apply notf)); done)) | (exact hd) | (exact hg) | (exact c1) | (exact c2) | (intro t ht; simp [All]))
      · have hg : decide (((k + 1 : Nat) : Int) > 1) = false := decide_eq_false (by omega)
        rw [if_neg h1k] at hs
        rw [hs] at hrec
        refine piece_ok mixed hc (hKa p (k + 1) q.1 q1.1 q.2 q1.2) ?_ hrec
        simp only [All]
        repeat' (first | exact trivial | with_reducible apply And.intro)
        all_goals (first | omega | rfl | (intros; first | assumption | exact True.intro | rfl | exact absurd (show false = true by assumption) Bool.false_ne_true | ((repeat' (first | assumption | apply anda | apply notf)); done)) | (exact hd) | (exact hg) | (exact c1) | (intro t ht; simp [All]))
  refine piece_ok mixed hc (hKz p) ?_ (lo (p.2.1.1 - 1) 0 (by omega))
  simp only [All]
  repeat' (first | exact trivial | with_reducible apply And.intro)
  all_goals (first | omega | rfl | (intros; first | assumption | exact True.intro | rfl | exact absurd (show false = true by assumption) Bool.false_ne_true | ((repeat' (first | assumption | apply anda | apply notf)); done)) | (intro t ht; exact absurd ht (Nat.not_lt_zero _)) | (intro t ht; simp [All]))
def alS (p : T_Pinned) : NB := aS p.1.2.1.2 (hS p.2.1.2 (p.2.1.1 - 1)) p.1.2.1.1
theorem con_l20All (p : T_Pinned) (h1 : 0 ≤ p.1.1) (hm : 1 ≤ p.2.1.1 ∧ p.2.1.1 ≤ 8) (hn : p.1.2.1.1 ≤ 1000) : Con Try.prog 97 0 [] [pinA p] [(0, brOb (alS p).1 (alS p).2)] (.agg [.p (.int .i64 p.1.1), .ar 2 0 0 (alS p).1]) := by
  have c0 := con_l20Held p h1 hm
  have hn0 := hS_n p.2.1.2 (p.2.1.1 - 1)
  unfold alS
  refine con_start Try.func97 rfl (by kernel_rfl) rfl (fun c hc => ?_)
  have hN : ((p.1.1.toNat : Nat) : Int) = p.1.1 := by omega
  generalize hS p.2.1.2 (p.2.1.1 - 1) = r0 at c0 hn0 ⊢
  generalize hR : aS p.1.2.1.2 r0 p.1.2.1.1 = R
  have lo : ∀ d k, k + d = p.1.2.1.1 → Run Try.prog c 97 [.code (cAt (bodyOf Try.f97) [1, 1, 0, 1, 0, 0]), .inLoop (cAt (bodyOf Try.f97) [1, 1, 0, 1, 0, 0]), .inBlock 0, .code (cAt (bodyOf Try.f97) [1, 1, 1])] (SKa p k (aS p.1.2.1.2 r0 k).1 (aS p.1.2.1.2 r0 k).2) (Post c [(0, brOb R.1 R.2)] (.agg [.p (.int .i64 p.1.1), .ar 2 0 0 R.1])) := by
    intro d
    induction d with
    | zero =>
      intro k hk
      obtain rfl : k = p.1.2.1.1 := by omega
      have hd : decide ((p.1.2.1.1 : Int) < (p.1.2.1.1 : Int)) = false := by simp
      rw [hR]
      refine path_ok mixed Try.func97 hc (hLe p p.1.2.1.1 R.1 R.2) ?_
      simp only [All]
      repeat' (first | exact trivial | with_reducible apply And.intro)
      all_goals (first | omega | rfl | (intros; first | assumption | exact True.intro | rfl | exact absurd (show false = true by assumption) Bool.false_ne_true | ((repeat' (first | assumption | apply anda | apply notf)); done)) | (exact hd) | (intro t ht; simp [All]))
    | succ d ih =>
      intro k hk
      have hd : decide ((k : Int) < (p.1.2.1.1 : Int)) = true := decide_eq_true (by omega)
      have hrec := ih (k + 1) (by omega)
      have hnk := aS_n p.1.2.1.2 r0 k
      rw [show aS p.1.2.1.2 r0 (k + 1) = insR (aS p.1.2.1.2 r0 k).2 (aS p.1.2.1.2 r0 k).1 (p.1.2.1.2 k) from rfl] at hrec
      generalize aS p.1.2.1.2 r0 k = q at hnk hrec ⊢
      have c1 := con_l2Put q.2 q.1 p.1.1.toNat (p.1.2.1.2 k) (by omega)
      rw [grG, hN] at c1
      generalize insR q.2 q.1 (p.1.2.1.2 k) = q1 at c1 hrec
      refine piece_ok mixed hc (hLa p k q.1 q1.1 q.2 q1.2) ?_ hrec
      simp only [All]
      repeat' (first | exact trivial | with_reducible apply And.intro)
      all_goals (first | omega | rfl | (intros; first | assumption | exact True.intro | rfl | exact absurd (show false = true by assumption) Bool.false_ne_true | ((repeat' (first | assumption | apply anda | apply notf)); done)) | (exact hd) | (exact c1) | (intro t ht; simp [All]))
  refine piece_ok mixed hc (hLz p r0.1 r0.2) ?_ (lo p.1.2.1.1 0 (by omega))
  simp only [All]
  repeat' (first | exact trivial | with_reducible apply And.intro)
  all_goals (first | omega | rfl | (intros; first | assumption | exact True.intro | rfl | exact absurd (show false = true by assumption) Bool.false_ne_true | ((repeat' (first | assumption | apply anda | apply notf)); done)) | (exact c0) | (intro t ht; simp [All]))
def hlC (p : T_Pinned) : NB := hC p.2.1.2 p.2.1.1 p.2.1.1
def alC (p : T_Pinned) : NB := ((hlC p).1 + p.1.2.1.1, aC (hlC p) p.1.2.1.2)
def hlS (p : T_Pinned) : NB := hS p.2.1.2 (p.2.1.1 - 1)
noncomputable def rkN (N : Nat) (r : NB) : Nat := (accI N 2 3 r.2 r.1).length
def OkN (N : Nat) (r : NB) : Prop := OkBars N r.1 r.2
theorem okN_mem {N : Nat} {r : NB} (h : ∀ y, mem r y → 0 ≤ y.1 ∧ y.1 < y.2.1 ∧ y.2.1 < N) : OkN N r := fun e he => h _ ⟨e, he, rfl⟩
theorem okN_at {N : Nat} {r : NB} (h : OkN N r) {y : T_Bar} (hy : mem r y) : 0 ≤ y.1 ∧ y.1 < y.2.1 ∧ y.2.1 < N := by
  obtain ⟨e, he, rfl⟩ := hy
  exact h e he
structure PinOk (p : T_Pinned) : Prop where
  N : 1 ≤ p.1.1 ∧ p.1.1 ≤ 8
  m : 2 ≤ p.2.1.1 ∧ p.2.1.1 ≤ 8
  nb : p.1.2.1.1 ≤ 15 ∧ p.1.2.1.1 + 2 * p.2.1.1 ≤ 27
  gr : ∀ i, i < p.2.1.1 → 0 ≤ p.2.1.2 i ∧ p.2.1.2 i < p.1.1
  asc : ∀ i j, i < j → j < p.2.1.1 → p.2.1.2 i < p.2.1.2 j
  bars : ∀ i, i < p.1.2.1.1 → 0 ≤ (p.1.2.1.2 i).1 ∧ (p.1.2.1.2 i).1 < (p.1.2.1.2 i).2.1 ∧ (p.1.2.1.2 i).2.1 < p.1.1
theorem pin_ok {p : T_Pinned} (h : pinnedF p = true) : PinOk p := by
  have h1 := pinned_in h
  have h2 := graph_inR h1.1
  simp only [pinnedF, Bool.and_eq_true] at h
  exact ⟨⟨h2.1, h2.2.1⟩, ⟨h1.2.1, h1.2.2.1⟩, h1.2.2.2, fun i hi => ⟨(goodP_at h.1 i hi).1, (goodP_at h.1 i hi).2.1⟩, fun i j hij hj => goodP_asc h.1 j i hij hj,
    fun i hi => by have := goodB_at h2.2.2.2 i hi; exact ⟨this.1, this.2.1, this.2.2.1⟩⟩
theorem PinOk.brx {p : T_Pinned} (h : PinOk p) {a b : Nat} (h1 : a < b) (h2 : b < p.2.1.1) : brX (p.2.1.2 a) (p.2.1.2 b) = (p.2.1.2 a, p.2.1.2 b, ()) := by
  have := h.asc a b h1 h2
  simp only [brX]
  rw [if_neg (by omega), if_pos (by omega)]
theorem PinOk.okHS {p : T_Pinned} (h : PinOk p) : OkN p.1.1.toNat (hlS p) := by
  refine okN_mem (fun y hy => ?_)
  have hN := h.N; have hm := h.m
  rw [hlS, hS_mem] at hy
  obtain ⟨b, h1, h2, h3⟩ := hy
  have gb := h.gr b (by omega)
  rcases h3 with rfl | ⟨h3, rfl⟩
  · have g0 := h.gr 0 (by omega)
    have := h.asc 0 b (by omega) (by omega)
    simp only; omega
  · have g1 := h.gr 1 (by omega)
    have := h.asc 1 b (by omega) (by omega)
    simp only; omega
theorem PinOk.okHC {p : T_Pinned} (h : PinOk p) : OkN p.1.1.toNat (hlC p) := by
  refine okN_mem (fun y hy => ?_)
  have hN := h.N
  rw [hlC, hC_mem _ _ _ _ (Nat.le_refl _)] at hy
  obtain ⟨a, b, h1, h2, h3, rfl⟩ := hy
  have ga := h.gr a (by omega); have gb := h.gr b h3
  have := h.asc a b h2 h3
  rw [h.brx h2 h3]
  simp only; omega
theorem PinOk.okAS {p : T_Pinned} (h : PinOk p) : OkN p.1.1.toNat (alS p) := by
  refine okN_mem (fun y hy => ?_)
  have hN := h.N
  rw [alS, aS_mem] at hy
  rcases hy with hy | ⟨i, h1, rfl⟩
  · exact okN_at h.okHS hy
  · have := h.bars i h1; omega
theorem PinOk.okAC {p : T_Pinned} (h : PinOk p) : OkN p.1.1.toNat (alC p) := by
  refine okN_mem (fun y hy => ?_)
  have hN := h.N
  rw [alC, aC_mem] at hy
  rcases hy with hy | ⟨i, h1, rfl⟩
  · exact okN_at h.okHC hy
  · have := h.bars i h1; omega
theorem rkN_rk (N : Nat) (r : NB) : rkN N r = Mat.rk N (bL r.2 r.1) := acc_len N 2 3 r.2 r.1
theorem bL_in (r : NB) (x : Nat × Nat) : x ∈ bL r.2 r.1 ↔ ∃ y, mem r y ∧ brN y = x := by
  rw [bL_mem]
  constructor
  · rintro ⟨s, h1, h2⟩; exact ⟨_, ⟨s, h1, rfl⟩, h2⟩
  · rintro ⟨y, ⟨s, h1, rfl⟩, h2⟩; exact ⟨s, h1, h2⟩
theorem PinOk.grd {p : T_Pinned} (h : PinOk p) : Mat.Grd p.1.1.toNat p.2.1.1 (fun i => (p.2.1.2 i).toNat) (bL (hlS p).2 (hlS p).1) where
  two := h.m.1
  lt i hi := by have := h.gr i hi; show (p.2.1.2 i).toNat < _; omega
  ne i j hij hj := by have := h.asc i j hij hj; have := h.gr i (by omega); show (p.2.1.2 i).toNat ≠ (p.2.1.2 j).toNat; omega
  b0 i h1 h2 := by
    rw [bL_in]
    refine ⟨(p.2.1.2 0, p.2.1.2 i, ()), ?_, rfl⟩
    rw [hlS, hS_mem]
    exact ⟨i, h1, by omega, .inl rfl⟩
  b1 i h1 h2 := by
    rw [bL_in]
    refine ⟨(p.2.1.2 1, p.2.1.2 i, ()), ?_, rfl⟩
    rw [hlS, hS_mem]
    exact ⟨i, by omega, by omega, .inr ⟨h1, rfl⟩⟩
theorem PinOk.same {p : T_Pinned} (h : PinOk p) {r q : NB} (hr : OkN p.1.1.toNat r) (hq : OkN p.1.1.toNat q) (hs : ∀ y, mem (hlS p) y → mem r y) (h1 : ∀ y, mem r y → mem q y)
    (h2 : ∀ y, mem q y → mem r y ∨ mem (hlC p) y) : rkN p.1.1.toNat q = rkN p.1.1.toNat r := by
  rw [rkN_rk, rkN_rk]
  refine h.grd.same (bL_good hr) (bL_good hq) (fun x hx => ?_) (fun x hx => ?_) (fun x hx => ?_)
  · rw [bL_in] at hx ⊢
    obtain ⟨y, h3, h4⟩ := hx
    exact ⟨y, hs y h3, h4⟩
  · rw [bL_in] at hx ⊢
    obtain ⟨y, h3, h4⟩ := hx
    exact ⟨y, h1 y h3, h4⟩
  · rw [bL_in] at hx
    obtain ⟨y, h3, h4⟩ := hx
    rcases h2 y h3 with h5 | h5
    · exact .inl ((bL_in _ _).2 ⟨y, h5, h4⟩)
    · rw [hlC, hC_mem _ _ _ _ (Nat.le_refl _)] at h5
      obtain ⟨a, b, h6, h7, h8, rfl⟩ := h5
      rw [h.brx h7 h8] at h4
      exact .inr ⟨a, b, h6, h8, h4.symm⟩
theorem PinOk.few {p : T_Pinned} (h : PinOk p) (y : T_Bar) (hy : mem (hlS p) y) : mem (hlC p) y := by
  have hm := h.m
  rw [hlS, hS_mem] at hy
  rw [hlC, hC_mem _ _ _ _ (Nat.le_refl _)]
  obtain ⟨b, h1, h2, h3⟩ := hy
  rcases h3 with rfl | ⟨h3, rfl⟩
  · exact ⟨0, b, by omega, by omega, by omega, h.brx (by omega) (by omega)⟩
  · exact ⟨1, b, by omega, by omega, by omega, h.brx (by omega) (by omega)⟩
theorem PinOk.rkH {p : T_Pinned} (h : PinOk p) : rkN p.1.1.toNat (hlC p) = rkN p.1.1.toNat (hlS p) :=
  h.same h.okHS h.okHC (fun y hy => hy) h.few (fun y hy => .inr hy)
theorem PinOk.rkA {p : T_Pinned} (h : PinOk p) : rkN p.1.1.toNat (alC p) = rkN p.1.1.toNat (alS p) := by
  refine h.same h.okAS h.okAC (fun y hy => ?_) (fun y hy => ?_) (fun y hy => ?_)
  · rw [alS, aS_mem]; exact .inl hy
  · rw [alS, aS_mem] at hy
    rw [alC, aC_mem]
    rcases hy with hy | hy
    · exact .inl (h.few y hy)
    · exact .inr hy
  · rw [alC, aC_mem] at hy
    rw [alS, aS_mem]
    rcases hy with hy | hy
    · exact .inr hy
    · exact .inl (.inr hy)
noncomputable def prG (p : T_Pinned) : Int := if pinnedF p = true then (rkN p.1.1.toNat (alS p) : Int) - (rkN p.1.1.toNat (hlS p) : Int) else -1
theorem accI_le (N k l : Nat) (g : Nat → T_Bar) : ∀ n, (accI N k l g n).length ≤ n
  | 0 => Nat.le_refl _
  | n + 1 => by
    have := accI_le N k l g n
    simp only [accI]
    split
    · simp; omega
    · omega
theorem PinOk.nC {p : T_Pinned} (h : PinOk p) : (hlC p).1 ≤ 64 := by
  have := hC_n p.2.1.2 p.2.1.1 p.2.1.1
  exact Nat.le_trans this (Nat.mul_le_mul h.m.2 h.m.2)
theorem PinOk.nS {p : T_Pinned} (h : PinOk p) : (hlS p).1 + p.1.2.1.1 ≤ 24 := by
  have := (hS_n p.2.1.2 (p.2.1.1 - 1)).2 (by have := h.m; omega)
  have := h.m; have := h.nb
  unfold hlS; omega
theorem alS_n (p : T_Pinned) : (alS p).1 = (hlS p).1 + p.1.2.1.1 := aS_n _ _ _
theorem con_PinnedRank_i (p : T_Pinned) (hs : smS s_Pinned p) : Con Try.prog 103 0 [] [pinA p] [] (.p (.int .i64 (prG p))) := by
  have c1 := con_IsPinned_i p hs
  cases hp : pinnedF p with
  | false =>
    rw [hp] at c1
    rw [show prG p = -1 by simp [prG, hp]]
    refine con_start Try.func103 rfl (by kernel_rfl) rfl (fun c hc => ?_)
    refine path_ok mixed Try.func103 hc (hPn p) ?_
    simp only [All]
    repeat' (first | exact trivial | with_reducible apply And.intro)
    all_goals (first | omega | rfl | (intros; first | assumption | exact True.intro | rfl | exact absurd (show false = true by assumption) Bool.false_ne_true | ((repeat' (first | assumption | apply anda | apply notf)); done)) | (exact c1) | (simp; done))
  | true =>
    rw [hp] at c1
    have ok := pin_ok hp
    have hN := ok.N; have hm := ok.m; have hnb := ok.nb; have hnC := ok.nC
    have ch := con_held p hm.2
    have cr1 := con_planeRank ok.okAC (by omega) (by show (hlC p).1 + p.1.2.1.1 ≤ 1048576; omega)
    have cr0 := con_planeRank ok.okHC (by omega) (by omega)
    have hNz : ((p.1.1.toNat : Nat) : Int) = p.1.1 := by omega
    rw [hNz] at cr1 cr0
    have hr1 : (accI p.1.1.toNat 2 3 (alC p).2 (alC p).1).length = rkN p.1.1.toNat (alS p) := ok.rkA
    have hr0 : (accI p.1.1.toNat 2 3 (hlC p).2 (hlC p).1).length = rkN p.1.1.toNat (hlS p) := ok.rkH
    have hb1 : rkN p.1.1.toNat (alS p) ≤ 24 := by
      have := accI_le p.1.1.toNat 2 3 (alS p).2 (alS p).1
      have := alS_n p; have := ok.nS
      unfold rkN; omega
    have hb0 : rkN p.1.1.toNat (hlS p) ≤ 24 := by
      have := accI_le p.1.1.toNat 2 3 (hlS p).2 (hlS p).1
      have := ok.nS
      unfold rkN; omega
    rw [hr1] at cr1
    rw [hr0] at cr0
    rw [show prG p = (rkN p.1.1.toNat (alS p) : Int) - (rkN p.1.1.toNat (hlS p) : Int) by simp [prG, hp]]
    rw [show hC p.2.1.2 p.2.1.1 p.2.1.1 = hlC p from rfl] at ch
    refine con_start Try.func103 rfl (by kernel_rfl) rfl (fun c hc => ?_)
    refine path_ok mixed Try.func103 hc (hPy p (hlC p).1 (hlC p).2 (rkN p.1.1.toNat (alS p)) (rkN p.1.1.toNat (hlS p))) ?_
    simp only [All]
    repeat' (first | exact trivial | with_reducible apply And.intro)
    all_goals (first | omega | rfl | (intros; first | assumption | exact True.intro | rfl | exact absurd (show false = true by assumption) Bool.false_ne_true | ((repeat' (first | assumption | apply anda | apply notf)); done)) | (exact c1) | (exact ch) | (exact cr0) | (refine Con.arg_ext cr1 ?_; simp only [brL, wkL, wk, wkP, beq_self_eq_true, Bool.and_self, if_true, ikEq, List.append_nil, List.cons_append, List.nil_append, All]; refine ⟨trivial, rfl, fun i hi => ?_, trivial⟩; by_cases h : i < (hlC p).1 <;> simp [h, cellP, tg, tru, alC, aC]))
theorem con_PinnedRank_s (p : T_Pinned) (hs : smS s_Pinned p) : Con Try.prog 96 0 [] [pinA p] [] (.p (.int .i64 (prG p))) := by
  have c1 := con_IsPinned_s p hs
  cases hp : pinnedF p with
  | false =>
    rw [hp] at c1
    rw [show prG p = -1 by simp [prG, hp]]
    refine con_start Try.func96 rfl (by kernel_rfl) rfl (fun c hc => ?_)
    refine path_ok mixed Try.func96 hc (hQn p) ?_
    simp only [All]
    repeat' (first | exact trivial | with_reducible apply And.intro)
    all_goals (first | omega | rfl | (intros; first | assumption | exact True.intro | rfl | exact absurd (show false = true by assumption) Bool.false_ne_true | ((repeat' (first | assumption | apply anda | apply notf)); done)) | (exact c1) | (simp; done))
  | true =>
    rw [hp] at c1
    have ok := pin_ok hp
    have hN := ok.N; have hm := ok.m; have hnb := ok.nb; have hnS := ok.nS; have haS := alS_n p
    have ch := con_l20Held p (by omega) (by omega)
    have ca := con_l20All p (by omega) (by omega) (by omega)
    have cr1 := con_l6Rank ok.okAS (by omega) (by omega)
    have cr0 := con_l6Rank ok.okHS (by omega) (by omega)
    have hNz : ((p.1.1.toNat : Nat) : Int) = p.1.1 := by omega
    rw [grG, hNz] at cr1 cr0
    have hb1 : rkN p.1.1.toNat (alS p) ≤ 24 := by
      have := accI_le p.1.1.toNat 2 3 (alS p).2 (alS p).1
      unfold rkN; omega
    have hb0 : rkN p.1.1.toNat (hlS p) ≤ 24 := by
      have := accI_le p.1.1.toNat 2 3 (hlS p).2 (hlS p).1
      unfold rkN; omega
    rw [show prG p = (rkN p.1.1.toNat (alS p) : Int) - (rkN p.1.1.toNat (hlS p) : Int) by simp [prG, hp]]
    rw [show hS p.2.1.2 (p.2.1.1 - 1) = hlS p from rfl] at ch
    refine con_start Try.func96 rfl (by kernel_rfl) rfl (fun c hc => ?_)
    refine path_ok mixed Try.func96 hc (hQy p (alS p).1 (hlS p).1 (alS p).2 (hlS p).2 (rkN p.1.1.toNat (alS p)) (rkN p.1.1.toNat (hlS p))) ?_
    simp only [All]
    repeat' (first | exact trivial | with_reducible apply And.intro)
    all_goals (first | omega | rfl | (intros; first | assumption | exact True.intro | rfl | exact absurd (show false = true by assumption) Bool.false_ne_true | ((repeat' (first | assumption | apply anda | apply notf)); done)) | (exact c1) | (exact ch) | (exact ca) | (exact cr0) | (exact cr1))
end Go.Proofs.Ytgdbnnmogddkaaa.Mach
namespace Go.Proofs.Ytgdbnnmogddkaaa.Mach
open Go Go.Sort
set_option linter.unusedVariables false
set_option linter.unusedSimpArgs false
def SNs (p : T_Pinned) (v n : Nat) (h : Nat → Int) : St :=
  ⟨[pinA p, .pt 3 0 0 0, .p .any, .ar 1 1 0 n, .p (.int .i64 v)] ++ List.replicate 22 anyA, [(0, boxP p), (1, iOb n h)], 2⟩
def SNi (p : T_Pinned) (v n : Nat) (h : Nat → Int) : St :=
  ⟨[pinA p, .pt 3 0 0 0, .p .any, .ar 1 1 0 n] ++ List.replicate 8 anyA ++ [.p (.int .i64 p.1.1), .p (.int .i64 v)] ++ List.replicate 13 anyA, [(0, boxP p), (1, iOb n h)], 2⟩
def snI (n : Nat) (h : Nat → Int) (x : Int) (s : Nat) : Int := if s < n then h s else x
theorem nSz (p : T_Pinned) :
    pieceOb Try.prog 0 [.reg [oT, oT], .reg [oT, oT], .reg [oT], .head] [.code (bodyOf Try.f95)] (start Try.f95 [] 0 [pinA p]) [0, 64] 1 (SNs p 0 0 (fun _ => 0)) =
    some ([.code (cAt (bodyOf Try.f95) [1, 1, 0, 1, 0, 0]), .inLoop (cAt (bodyOf Try.f95) [1, 1, 0, 1, 0, 0]), .inBlock 0, .code (cAt (bodyOf Try.f95) [1, 1, 1])], [((p.1.1 : Int) = p.1.1),
  ((p.1.2.1.1 : Nat) = p.1.2.1.1),
  (∀ i : Nat, (((i : Nat) < p.1.2.1.1) → (([.int .i64 ((p.1.2.1.2 i).1), .int .i64 ((p.1.2.1.2 i).2.1)] : List PV) = [.int .i64 ((p.1.2.1.2 i).1), .int .i64 ((p.1.2.1.2 i).2.1)]))),
  ((p.2.1.1 : Nat) = p.2.1.1),
  (∀ i : Nat, (((i : Nat) < p.2.1.1) → (([.int .i64 (p.2.1.2 i)] : List PV) = [.int .i64 (p.2.1.2 i)]))),
  ((0 : Nat) = 0),
  ((0 : Nat) = 0),
  ((0 : Nat) = 0),
  ((0 : Int) = (↑0 : Int)),
  ((([AV.p (PV.int IntKind.i64 p.1.1), graphL p.1.2.1, inL p.2.1].length) : Nat) = 3),
  ((1 : Nat) ≤ 1),
  ((1 : Nat) ≤ 1),
  ((p.1.1 : Int) = p.1.1),
  ((p.1.2.1.1 : Nat) = p.1.2.1.1),
  (∀ i : Nat, (((i : Nat) < p.1.2.1.1) → (([.int .i64 ((p.1.2.1.2 i).1), .int .i64 ((p.1.2.1.2 i).2.1)] : List PV) = [.int .i64 ((p.1.2.1.2 i).1), .int .i64 ((p.1.2.1.2 i).2.1)]))),
  ((p.2.1.1 : Nat) = p.2.1.1),
  (∀ i : Nat, (((i : Nat) < p.2.1.1) → (([.int .i64 (p.2.1.2 i)] : List PV) = [.int .i64 (p.2.1.2 i)]))),
  ((1 : Nat) = 1),
  ((0 : Nat) ≤ 0),
  (∀ i : Nat, (((i : Nat) < 0) → (All [] ∧ (([.p .any] : List AV) = [.p (.int .i64 0)]))))]) := by kernel_rfl
theorem nSa (p : T_Pinned) (v n : Nat) (h : Nat → Int) (b : Bool) :
    pieceOb Try.prog 0 [.reg [oT, oT, oT, oT, oT, oT, oT, ⟨true, (some ⟨[], [], 1, [], .p (.bool b)⟩), none⟩, oT], .dec true, .reg [oT, oT, oT, ⟨true, (some ⟨[], [], 1, [], .p (.bool false)⟩), none⟩, oT], .dec true, .reg [oT, oT, oT, oT, oT], .reg [oT, oT, oT], .head] [.code (cAt (bodyOf Try.f95) [1, 1, 0, 1, 0, 0]), .inLoop (cAt (bodyOf Try.f95) [1, 1, 0, 1, 0, 0]), .inBlock 0, .code (cAt (bodyOf Try.f95) [1, 1, 1])] (SNs p v n h) [0, 546] 1 (SNs p (v + 1) (n + 1) (snI n h v)) =
    some ([.code (cAt (bodyOf Try.f95) [1, 1, 0, 1, 0, 0]), .inLoop (cAt (bodyOf Try.f95) [1, 1, 0, 1, 0, 0]), .inBlock 0, .code (cAt (bodyOf Try.f95) [1, 1, 1])], [((0 : Nat) < 1),
  (((decide ((↑v : Int) < p.1.1)) = true) → ((0 : Nat) < 1)),
  (((decide ((↑v : Int) < p.1.1)) = true) → ((decide ((↑v : Int) < p.1.1)) = true)),
  (((decide ((↑v : Int) < p.1.1)) = true) → Con Try.prog 46 0 [] [.agg [.p (.int .i64 p.1.1), .p (.seq true 2 p.1.2.1.1 (fun i => [.int .i64 ((p.1.2.1.2 i).1), .int .i64 ((p.1.2.1.2 i).2.1)])), .p (.seq true 1 p.2.1.1 (fun i => [.int .i64 (p.2.1.2 i)]))]] [] (.p (.bool b))),
  (((decide ((↑v : Int) < p.1.1)) = true) → ((decide ((↑v : Int) < p.1.1)) = true)),
  ((bif decide ((↑v : Int) < p.1.1) then b else false) = true),
  ((0 : Nat) < 1),
  Con Try.prog 93 0 [] [.p (.seq true 1 p.2.1.1 (fun i => [.int .i64 (p.2.1.2 i)])), .p (.int .i64 (↑v : Int))] [] (.p (.bool false)),
  ((!false) = true),
  ((1 : Nat) ≤ 1),
  ((n : Nat) ≤ n),
  ((((n + 1) * 8) : Nat) ≤ 140737488355328),
  (((n + 1) : Nat) ≤ 9223372036854775807),
  (((-9223372036854775808) : Int) ≤ ((↑v : Int) + 1)),
  ((((↑v : Int) + 1) : Int) ≤ 9223372036854775807),
  ((p.1.1 : Int) = p.1.1),
  ((p.1.2.1.1 : Nat) = p.1.2.1.1),
  (∀ i : Nat, (((i : Nat) < p.1.2.1.1) → (([.int .i64 ((p.1.2.1.2 i).1), .int .i64 ((p.1.2.1.2 i).2.1)] : List PV) = [.int .i64 ((p.1.2.1.2 i).1), .int .i64 ((p.1.2.1.2 i).2.1)]))),
  ((p.2.1.1 : Nat) = p.2.1.1),
  (∀ i : Nat, (((i : Nat) < p.2.1.1) → (([.int .i64 (p.2.1.2 i)] : List PV) = [.int .i64 (p.2.1.2 i)]))),
  ((0 : Nat) = 0),
  ((0 : Nat) = 0),
  (((n + 1) : Nat) = (n + 1)),
  ((((↑v : Int) + 1) : Int) = (↑(v + 1) : Int)),
  ((3 : Nat) = 3),
  ((1 : Nat) ≤ 1),
  ((1 : Nat) ≤ 1),
  ((p.1.1 : Int) = p.1.1),
  ((p.1.2.1.1 : Nat) = p.1.2.1.1),
  (∀ i : Nat, (((i : Nat) < p.1.2.1.1) → (([.int .i64 ((p.1.2.1.2 i).1), .int .i64 ((p.1.2.1.2 i).2.1)] : List PV) = [.int .i64 ((p.1.2.1.2 i).1), .int .i64 ((p.1.2.1.2 i).2.1)]))),
  ((p.2.1.1 : Nat) = p.2.1.1),
  (∀ i : Nat, (((i : Nat) < p.2.1.1) → (([.int .i64 (p.2.1.2 i)] : List PV) = [.int .i64 (p.2.1.2 i)]))),
  ((1 : Nat) = 1),
  (((n + 1) : Nat) ≤ (n + 1)),
  (∀ i : Nat, (((i : Nat) < (n + 1)) → (All (cvtL false [(546, ⟨false, 1, (n + 1), (fun i_1 => (if (i_1 < n) then [.p (.int .i64 (h i_1))] else [.p (.int .i64 (↑v : Int))]))⟩), (514, ⟨false, 1, 1, (fun i_1 => [.p (.int .i64 (↑v : Int))])⟩), (0, ⟨true, 3, 1, (fun i_1 => [.p (.int .i64 p.1.1), .p (.seq true 2 p.1.2.1.1 (fun i_2 => [.int .i64 ((p.1.2.1.2 i_2).1), .int .i64 ((p.1.2.1.2 i_2).2.1)])), .p (.seq true 1 p.2.1.1 (fun i_2 => [.int .i64 (p.2.1.2 i_2)]))])⟩)] [0, 546] 1 (if (i < n) then [.p (.int .i64 (h i))] else [.p (.int .i64 (↑v : Int))])).2 ∧ (((cvtL false [(546, ⟨false, 1, (n + 1), (fun i_1 => (if (i_1 < n) then [.p (.int .i64 (h i_1))] else [.p (.int .i64 (↑v : Int))]))⟩), (514, ⟨false, 1, 1, (fun i_1 => [.p (.int .i64 (↑v : Int))])⟩), (0, ⟨true, 3, 1, (fun i_1 => [.p (.int .i64 p.1.1), .p (.seq true 2 p.1.2.1.1 (fun i_2 => [.int .i64 ((p.1.2.1.2 i_2).1), .int .i64 ((p.1.2.1.2 i_2).2.1)])), .p (.seq true 1 p.2.1.1 (fun i_2 => [.int .i64 (p.2.1.2 i_2)]))])⟩)] [0, 546] 1 (if (i < n) then [.p (.int .i64 (h i))] else [.p (.int .i64 (↑v : Int))])).1 : List AV) = [.p (.int .i64 (snI n h (↑v : Int) i))]))))]) := by kernel_rfl
theorem nSb (p : T_Pinned) (v n : Nat) (h : Nat → Int) (b : Bool) :
    pieceOb Try.prog 0 [.reg [oT, oT, oT, oT, oT, oT, oT, ⟨true, (some ⟨[], [], 1, [], .p (.bool b)⟩), none⟩, oT], .dec true, .reg [oT, oT, oT, ⟨true, (some ⟨[], [], 1, [], .p (.bool true)⟩), none⟩, oT], .dec false, .reg [oT, oT, oT], .head] [.code (cAt (bodyOf Try.f95) [1, 1, 0, 1, 0, 0]), .inLoop (cAt (bodyOf Try.f95) [1, 1, 0, 1, 0, 0]), .inBlock 0, .code (cAt (bodyOf Try.f95) [1, 1, 1])] (SNs p v n h) [0, 1] 1 (SNs p (v + 1) n h) =
    some ([.code (cAt (bodyOf Try.f95) [1, 1, 0, 1, 0, 0]), .inLoop (cAt (bodyOf Try.f95) [1, 1, 0, 1, 0, 0]), .inBlock 0, .code (cAt (bodyOf Try.f95) [1, 1, 1])], [((0 : Nat) < 1),
  (((decide ((↑v : Int) < p.1.1)) = true) → ((0 : Nat) < 1)),
  (((decide ((↑v : Int) < p.1.1)) = true) → ((decide ((↑v : Int) < p.1.1)) = true)),
  (((decide ((↑v : Int) < p.1.1)) = true) → Con Try.prog 46 0 [] [.agg [.p (.int .i64 p.1.1), .p (.seq true 2 p.1.2.1.1 (fun i => [.int .i64 ((p.1.2.1.2 i).1), .int .i64 ((p.1.2.1.2 i).2.1)])), .p (.seq true 1 p.2.1.1 (fun i => [.int .i64 (p.2.1.2 i)]))]] [] (.p (.bool b))),
  (((decide ((↑v : Int) < p.1.1)) = true) → ((decide ((↑v : Int) < p.1.1)) = true)),
  ((bif decide ((↑v : Int) < p.1.1) then b else false) = true),
  ((0 : Nat) < 1),
  Con Try.prog 93 0 [] [.p (.seq true 1 p.2.1.1 (fun i => [.int .i64 (p.2.1.2 i)])), .p (.int .i64 (↑v : Int))] [] (.p (.bool true)),
  ((!true) = false),
  (((-9223372036854775808) : Int) ≤ ((↑v : Int) + 1)),
  ((((↑v : Int) + 1) : Int) ≤ 9223372036854775807),
  ((p.1.1 : Int) = p.1.1),
  ((p.1.2.1.1 : Nat) = p.1.2.1.1),
  (∀ i : Nat, (((i : Nat) < p.1.2.1.1) → (([.int .i64 ((p.1.2.1.2 i).1), .int .i64 ((p.1.2.1.2 i).2.1)] : List PV) = [.int .i64 ((p.1.2.1.2 i).1), .int .i64 ((p.1.2.1.2 i).2.1)]))),
  ((p.2.1.1 : Nat) = p.2.1.1),
  (∀ i : Nat, (((i : Nat) < p.2.1.1) → (([.int .i64 (p.2.1.2 i)] : List PV) = [.int .i64 (p.2.1.2 i)]))),
  ((0 : Nat) = 0),
  ((0 : Nat) = 0),
  ((n : Nat) = n),
  ((((↑v : Int) + 1) : Int) = (↑(v + 1) : Int)),
  ((3 : Nat) = 3),
  ((1 : Nat) ≤ 1),
  ((1 : Nat) ≤ 1),
  ((p.1.1 : Int) = p.1.1),
  ((p.1.2.1.1 : Nat) = p.1.2.1.1),
  (∀ i : Nat, (((i : Nat) < p.1.2.1.1) → (([.int .i64 ((p.1.2.1.2 i).1), .int .i64 ((p.1.2.1.2 i).2.1)] : List PV) = [.int .i64 ((p.1.2.1.2 i).1), .int .i64 ((p.1.2.1.2 i).2.1)]))),
  ((p.2.1.1 : Nat) = p.2.1.1),
  (∀ i : Nat, (((i : Nat) < p.2.1.1) → (([.int .i64 (p.2.1.2 i)] : List PV) = [.int .i64 (p.2.1.2 i)]))),
  ((1 : Nat) = 1),
  ((n : Nat) ≤ n),
  (∀ i : Nat, (((i : Nat) < n) → (All [] ∧ (([.p (.int .i64 (h i))] : List AV) = [.p (.int .i64 (h i))]))))]) := by kernel_rfl
theorem nSe (p : T_Pinned) (v n : Nat) (h : Nat → Int) (b : Bool) :
    pathOb Try.prog Try.f95 0 [.reg [oT, oT, oT, oT, oT, oT, oT, ⟨true, (some ⟨[], [], 1, [], .p (.bool b)⟩), none⟩, oT], .dec false, .reg [oT, oT]] [.code (cAt (bodyOf Try.f95) [1, 1, 0, 1, 0, 0]), .inLoop (cAt (bodyOf Try.f95) [1, 1, 0, 1, 0, 0]), .inBlock 0, .code (cAt (bodyOf Try.f95) [1, 1, 1])] (SNs p v n h) [1] 1 [(0, iOb n h)] (.ar 1 0 0 n) =
    some [((0 : Nat) < 1),
  (((decide ((↑v : Int) < p.1.1)) = true) → ((0 : Nat) < 1)),
  (((decide ((↑v : Int) < p.1.1)) = true) → ((decide ((↑v : Int) < p.1.1)) = true)),
  (((decide ((↑v : Int) < p.1.1)) = true) → Con Try.prog 46 0 [] [.agg [.p (.int .i64 p.1.1), .p (.seq true 2 p.1.2.1.1 (fun i => [.int .i64 ((p.1.2.1.2 i).1), .int .i64 ((p.1.2.1.2 i).2.1)])), .p (.seq true 1 p.2.1.1 (fun i => [.int .i64 (p.2.1.2 i)]))]] [] (.p (.bool b))),
  (((decide ((↑v : Int) < p.1.1)) = true) → ((decide ((↑v : Int) < p.1.1)) = true)),
  ((bif decide ((↑v : Int) < p.1.1) then b else false) = false),
  ((0 : Nat) = 0),
  ((n : Nat) = n),
  ((1 : Nat) = 1),
  ((n : Nat) ≤ n),
  (∀ i : Nat, (((i : Nat) < n) → (All [] ∧ (([.p (.int .i64 (h i))] : List AV) = [.p (.int .i64 (h i))])))),
  (∀ i : Nat, (((i : Nat) < n) → All []))] := by kernel_rfl
theorem nIn (p : T_Pinned) :
    pathOb Try.prog Try.f102 0 [.reg [oT, oT], .reg [oT, oT], .reg [oT, ⟨true, (some ⟨[], [], 1, [], .p (.bool false)⟩), none⟩, oT], .dec true, .reg [oT, oT]] [.code (bodyOf Try.f102)] (start Try.f102 [] 0 [pinA p]) [64] 1 [(0, iOb 0 (fun _ => 0))] (.ar 1 0 0 0) =
    some [((0 : Nat) < 1),
  Con Try.prog 52 0 [] [.agg [.p (.int .i64 p.1.1), .p (.seq true 2 p.1.2.1.1 (fun i => [.int .i64 ((p.1.2.1.2 i).1), .int .i64 ((p.1.2.1.2 i).2.1)])), .p (.seq true 1 p.2.1.1 (fun i => [.int .i64 (p.2.1.2 i)]))]] [] (.p (.bool false)),
  ((!false) = true),
  ((0 : Nat) = 0),
  ((0 : Nat) = 0),
  ((1 : Nat) = 1),
  ((0 : Nat) ≤ 0),
  (∀ i : Nat, (((i : Nat) < 0) → (All [] ∧ (([.p .any] : List AV) = [.p (.int .i64 0)])))),
  (∀ i : Nat, (((i : Nat) < 0) → All []))] := by kernel_rfl
theorem nIz (p : T_Pinned) :
    pieceOb Try.prog 0 [.reg [oT, oT], .reg [oT, oT], .reg [oT, ⟨true, (some ⟨[], [], 1, [], .p (.bool true)⟩), none⟩, oT], .dec false, .reg [oT, oT, oT, oT], .head] [.code (bodyOf Try.f102)] (start Try.f102 [] 0 [pinA p]) [0, 64] 1 (SNi p 0 0 (fun _ => 0)) =
    some ([.code (cAt (bodyOf Try.f102) [1, 1, 1, 0, 1, 0, 0]), .inLoop (cAt (bodyOf Try.f102) [1, 1, 1, 0, 1, 0, 0]), .inBlock 0, .code (cAt (bodyOf Try.f102) [1, 1, 1, 1])], [((0 : Nat) < 1),
  Con Try.prog 52 0 [] [.agg [.p (.int .i64 p.1.1), .p (.seq true 2 p.1.2.1.1 (fun i => [.int .i64 ((p.1.2.1.2 i).1), .int .i64 ((p.1.2.1.2 i).2.1)])), .p (.seq true 1 p.2.1.1 (fun i => [.int .i64 (p.2.1.2 i)]))]] [] (.p (.bool true)),
  ((!true) = false),
  ((0 : Nat) < 1),
  ((p.1.1 : Int) = p.1.1),
  ((p.1.2.1.1 : Nat) = p.1.2.1.1),
  (∀ i : Nat, (((i : Nat) < p.1.2.1.1) → (([.int .i64 ((p.1.2.1.2 i).1), .int .i64 ((p.1.2.1.2 i).2.1)] : List PV) = [.int .i64 ((p.1.2.1.2 i).1), .int .i64 ((p.1.2.1.2 i).2.1)]))),
  ((p.2.1.1 : Nat) = p.2.1.1),
  (∀ i : Nat, (((i : Nat) < p.2.1.1) → (([.int .i64 (p.2.1.2 i)] : List PV) = [.int .i64 (p.2.1.2 i)]))),
  ((0 : Nat) = 0),
  ((0 : Nat) = 0),
  ((0 : Nat) = 0),
  ((p.1.1 : Int) = p.1.1),
  ((0 : Int) = (↑0 : Int)),
  ((([AV.p (PV.int IntKind.i64 p.1.1), graphL p.1.2.1, inL p.2.1].length) : Nat) = 3),
  ((1 : Nat) ≤ 1),
  ((1 : Nat) ≤ 1),
  ((p.1.1 : Int) = p.1.1),
  ((p.1.2.1.1 : Nat) = p.1.2.1.1),
  (∀ i : Nat, (((i : Nat) < p.1.2.1.1) → (([.int .i64 ((p.1.2.1.2 i).1), .int .i64 ((p.1.2.1.2 i).2.1)] : List PV) = [.int .i64 ((p.1.2.1.2 i).1), .int .i64 ((p.1.2.1.2 i).2.1)]))),
  ((p.2.1.1 : Nat) = p.2.1.1),
  (∀ i : Nat, (((i : Nat) < p.2.1.1) → (([.int .i64 (p.2.1.2 i)] : List PV) = [.int .i64 (p.2.1.2 i)]))),
  ((1 : Nat) = 1),
  ((0 : Nat) ≤ 0),
  (∀ i : Nat, (((i : Nat) < 0) → (All [] ∧ (([.p .any] : List AV) = [.p (.int .i64 0)]))))]) := by kernel_rfl
theorem nIa (p : T_Pinned) (v n : Nat) (h : Nat → Int) :
    pieceOb Try.prog 0 [.reg [oT], .dec true, .reg [oT, oT], .reg [oT, oT, oT, ⟨true, (some ⟨[], [], 1, [], .p (.bool false)⟩), none⟩, oT], .dec true, .reg [oT, oT, oT, oT, oT], .reg [oT, oT], .head] [.code (cAt (bodyOf Try.f102) [1, 1, 1, 0, 1, 0, 0]), .inLoop (cAt (bodyOf Try.f102) [1, 1, 1, 0, 1, 0, 0]), .inBlock 0, .code (cAt (bodyOf Try.f102) [1, 1, 1, 1])] (SNi p v n h) [0, 354] 1 (SNi p (v + 1) (n + 1) (snI n h v)) =
    some ([.code (cAt (bodyOf Try.f102) [1, 1, 1, 0, 1, 0, 0]), .inLoop (cAt (bodyOf Try.f102) [1, 1, 1, 0, 1, 0, 0]), .inBlock 0, .code (cAt (bodyOf Try.f102) [1, 1, 1, 1])], [((decide ((↑v : Int) < p.1.1)) = true),
  ((0 : Nat) < 1),
  Con Try.prog 83 0 [] [.p (.seq true 1 p.2.1.1 (fun i => [.int .i64 (p.2.1.2 i)])), .p (.int .i64 (↑v : Int))] [] (.p (.bool false)),
  ((!false) = true),
  ((1 : Nat) ≤ 1),
  ((n : Nat) ≤ n),
  ((((n + 1) * 8) : Nat) ≤ 140737488355328),
  (((n + 1) : Nat) ≤ 9223372036854775807),
  (((-9223372036854775808) : Int) ≤ ((↑v : Int) + 1)),
  ((((↑v : Int) + 1) : Int) ≤ 9223372036854775807),
  ((p.1.1 : Int) = p.1.1),
  ((p.1.2.1.1 : Nat) = p.1.2.1.1),
  (∀ i : Nat, (((i : Nat) < p.1.2.1.1) → (([.int .i64 ((p.1.2.1.2 i).1), .int .i64 ((p.1.2.1.2 i).2.1)] : List PV) = [.int .i64 ((p.1.2.1.2 i).1), .int .i64 ((p.1.2.1.2 i).2.1)]))),
  ((p.2.1.1 : Nat) = p.2.1.1),
  (∀ i : Nat, (((i : Nat) < p.2.1.1) → (([.int .i64 (p.2.1.2 i)] : List PV) = [.int .i64 (p.2.1.2 i)]))),
  ((0 : Nat) = 0),
  ((0 : Nat) = 0),
  (((n + 1) : Nat) = (n + 1)),
  ((p.1.1 : Int) = p.1.1),
  ((((↑v : Int) + 1) : Int) = (↑(v + 1) : Int)),
  ((3 : Nat) = 3),
  ((1 : Nat) ≤ 1),
  ((1 : Nat) ≤ 1),
  ((p.1.1 : Int) = p.1.1),
  ((p.1.2.1.1 : Nat) = p.1.2.1.1),
  (∀ i : Nat, (((i : Nat) < p.1.2.1.1) → (([.int .i64 ((p.1.2.1.2 i).1), .int .i64 ((p.1.2.1.2 i).2.1)] : List PV) = [.int .i64 ((p.1.2.1.2 i).1), .int .i64 ((p.1.2.1.2 i).2.1)]))),
  ((p.2.1.1 : Nat) = p.2.1.1),
  (∀ i : Nat, (((i : Nat) < p.2.1.1) → (([.int .i64 (p.2.1.2 i)] : List PV) = [.int .i64 (p.2.1.2 i)]))),
  ((1 : Nat) = 1),
  (((n + 1) : Nat) ≤ (n + 1)),
  (∀ i : Nat, (((i : Nat) < (n + 1)) → (All (cvtL false [(354, ⟨false, 1, (n + 1), (fun i_1 => (if (i_1 < n) then [.p (.int .i64 (h i_1))] else [.p (.int .i64 (↑v : Int))]))⟩), (322, ⟨false, 1, 1, (fun i_1 => [.p (.int .i64 (↑v : Int))])⟩), (0, ⟨true, 3, 1, (fun i_1 => [.p (.int .i64 p.1.1), .p (.seq true 2 p.1.2.1.1 (fun i_2 => [.int .i64 ((p.1.2.1.2 i_2).1), .int .i64 ((p.1.2.1.2 i_2).2.1)])), .p (.seq true 1 p.2.1.1 (fun i_2 => [.int .i64 (p.2.1.2 i_2)]))])⟩)] [0, 354] 1 (if (i < n) then [.p (.int .i64 (h i))] else [.p (.int .i64 (↑v : Int))])).2 ∧ (((cvtL false [(354, ⟨false, 1, (n + 1), (fun i_1 => (if (i_1 < n) then [.p (.int .i64 (h i_1))] else [.p (.int .i64 (↑v : Int))]))⟩), (322, ⟨false, 1, 1, (fun i_1 => [.p (.int .i64 (↑v : Int))])⟩), (0, ⟨true, 3, 1, (fun i_1 => [.p (.int .i64 p.1.1), .p (.seq true 2 p.1.2.1.1 (fun i_2 => [.int .i64 ((p.1.2.1.2 i_2).1), .int .i64 ((p.1.2.1.2 i_2).2.1)])), .p (.seq true 1 p.2.1.1 (fun i_2 => [.int .i64 (p.2.1.2 i_2)]))])⟩)] [0, 354] 1 (if (i < n) then [.p (.int .i64 (h i))] else [.p (.int .i64 (↑v : Int))])).1 : List AV) = [.p (.int .i64 (snI n h (↑v : Int) i))]))))]) := by kernel_rfl
theorem nIb (p : T_Pinned) (v n : Nat) (h : Nat → Int) :
    pieceOb Try.prog 0 [.reg [oT], .dec true, .reg [oT, oT], .reg [oT, oT, oT, ⟨true, (some ⟨[], [], 1, [], .p (.bool true)⟩), none⟩, oT], .dec false, .reg [oT, oT], .head] [.code (cAt (bodyOf Try.f102) [1, 1, 1, 0, 1, 0, 0]), .inLoop (cAt (bodyOf Try.f102) [1, 1, 1, 0, 1, 0, 0]), .inBlock 0, .code (cAt (bodyOf Try.f102) [1, 1, 1, 1])] (SNi p v n h) [0, 1] 1 (SNi p (v + 1) n h) =
    some ([.code (cAt (bodyOf Try.f102) [1, 1, 1, 0, 1, 0, 0]), .inLoop (cAt (bodyOf Try.f102) [1, 1, 1, 0, 1, 0, 0]), .inBlock 0, .code (cAt (bodyOf Try.f102) [1, 1, 1, 1])], [((decide ((↑v : Int) < p.1.1)) = true),
  ((0 : Nat) < 1),
  Con Try.prog 83 0 [] [.p (.seq true 1 p.2.1.1 (fun i => [.int .i64 (p.2.1.2 i)])), .p (.int .i64 (↑v : Int))] [] (.p (.bool true)),
  ((!true) = false),
  (((-9223372036854775808) : Int) ≤ ((↑v : Int) + 1)),
  ((((↑v : Int) + 1) : Int) ≤ 9223372036854775807),
  ((p.1.1 : Int) = p.1.1),
  ((p.1.2.1.1 : Nat) = p.1.2.1.1),
  (∀ i : Nat, (((i : Nat) < p.1.2.1.1) → (([.int .i64 ((p.1.2.1.2 i).1), .int .i64 ((p.1.2.1.2 i).2.1)] : List PV) = [.int .i64 ((p.1.2.1.2 i).1), .int .i64 ((p.1.2.1.2 i).2.1)]))),
  ((p.2.1.1 : Nat) = p.2.1.1),
  (∀ i : Nat, (((i : Nat) < p.2.1.1) → (([.int .i64 (p.2.1.2 i)] : List PV) = [.int .i64 (p.2.1.2 i)]))),
  ((0 : Nat) = 0),
  ((0 : Nat) = 0),
  ((n : Nat) = n),
  ((p.1.1 : Int) = p.1.1),
  ((((↑v : Int) + 1) : Int) = (↑(v + 1) : Int)),
  ((3 : Nat) = 3),
  ((1 : Nat) ≤ 1),
  ((1 : Nat) ≤ 1),
  ((p.1.1 : Int) = p.1.1),
  ((p.1.2.1.1 : Nat) = p.1.2.1.1),
  (∀ i : Nat, (((i : Nat) < p.1.2.1.1) → (([.int .i64 ((p.1.2.1.2 i).1), .int .i64 ((p.1.2.1.2 i).2.1)] : List PV) = [.int .i64 ((p.1.2.1.2 i).1), .int .i64 ((p.1.2.1.2 i).2.1)]))),
  ((p.2.1.1 : Nat) = p.2.1.1),
  (∀ i : Nat, (((i : Nat) < p.2.1.1) → (([.int .i64 (p.2.1.2 i)] : List PV) = [.int .i64 (p.2.1.2 i)]))),
  ((1 : Nat) = 1),
  ((n : Nat) ≤ n),
  (∀ i : Nat, (((i : Nat) < n) → (All [] ∧ (([.p (.int .i64 (h i))] : List AV) = [.p (.int .i64 (h i))]))))]) := by kernel_rfl
theorem nIe (p : T_Pinned) (v n : Nat) (h : Nat → Int) :
    pathOb Try.prog Try.f102 0 [.reg [oT], .dec false, .reg [oT, oT]] [.code (cAt (bodyOf Try.f102) [1, 1, 1, 0, 1, 0, 0]), .inLoop (cAt (bodyOf Try.f102) [1, 1, 1, 0, 1, 0, 0]), .inBlock 0, .code (cAt (bodyOf Try.f102) [1, 1, 1, 1])] (SNi p v n h) [1] 1 [(0, iOb n h)] (.ar 1 0 0 n) =
    some [((decide ((↑v : Int) < p.1.1)) = false),
  ((0 : Nat) = 0),
  ((n : Nat) = n),
  ((1 : Nat) = 1),
  ((n : Nat) ≤ n),
  (∀ i : Nat, (((i : Nat) < n) → (All [] ∧ (([.p (.int .i64 (h i))] : List AV) = [.p (.int .i64 (h i))])))),
  (∀ i : Nat, (((i : Nat) < n) → All []))] := by kernel_rfl
theorem fFn (p : T_Pinned) :
    pathOb Try.prog Try.f54 0 [.reg [oT, oT], .reg [oT, ⟨true, (some ⟨[], [], 1, [], .p (.bool false)⟩), none⟩, oT], .dec true, .reg [oT]] [.code (bodyOf Try.f54)] (start Try.f54 [] 0 [pinA p]) [] 1 [] (.p (.int .i64 (-1))) =
    some [((0 : Nat) < 1),
  Con Try.prog 52 0 [] [.agg [.p (.int .i64 p.1.1), .p (.seq true 2 p.1.2.1.1 (fun i => [.int .i64 ((p.1.2.1.2 i).1), .int .i64 ((p.1.2.1.2 i).2.1)])), .p (.seq true 1 p.2.1.1 (fun i => [.int .i64 (p.2.1.2 i)]))]] [] (.p (.bool false)),
  ((!false) = true),
  (((-1) : Int) = (-1))] := by kernel_rfl
theorem fFy (p : T_Pinned) (n : Nat) (h : Nat → Int) (r : Int) :
    pathOb Try.prog Try.f54 0 [.reg [oT, oT], .reg [oT, ⟨true, (some ⟨[], [], 1, [], .p (.bool true)⟩), none⟩, oT], .dec false, .reg [oT, ⟨true, (some ⟨[], [], 1, [(0, iOb n h)], .ar 1 0 0 n⟩), none⟩, oT, oT, oT, ⟨true, (some ⟨[], [], 1, [], .p (.int .i64 r)⟩), none⟩, oT, oT]] [.code (bodyOf Try.f54)] (start Try.f54 [] 0 [pinA p]) [] 1 [] (.p (.int .i64 (2 * (n : Int) - r))) =
    some [((0 : Nat) < 1),
  Con Try.prog 52 0 [] [.agg [.p (.int .i64 p.1.1), .p (.seq true 2 p.1.2.1.1 (fun i => [.int .i64 ((p.1.2.1.2 i).1), .int .i64 ((p.1.2.1.2 i).2.1)])), .p (.seq true 1 p.2.1.1 (fun i => [.int .i64 (p.2.1.2 i)]))]] [] (.p (.bool true)),
  ((!true) = false),
  ((0 : Nat) < 1),
  Con Try.prog 102 0 [] [.agg [.p (.int .i64 p.1.1), .p (.seq true 2 p.1.2.1.1 (fun i => [.int .i64 ((p.1.2.1.2 i).1), .int .i64 ((p.1.2.1.2 i).2.1)])), .p (.seq true 1 p.2.1.1 (fun i => [.int .i64 (p.2.1.2 i)]))]] [(0, ⟨false, 1, n, (fun i => [.p (.int .i64 (h i))])⟩)] (.ar 1 0 0 n),
  (((-9223372036854775808) : Int) ≤ (2 * (↑n : Int))),
  (((2 * (↑n : Int)) : Int) ≤ 9223372036854775807),
  ((0 : Nat) < 1),
  Con Try.prog 103 0 [] [.agg [.p (.int .i64 p.1.1), .p (.seq true 2 p.1.2.1.1 (fun i => [.int .i64 ((p.1.2.1.2 i).1), .int .i64 ((p.1.2.1.2 i).2.1)])), .p (.seq true 1 p.2.1.1 (fun i => [.int .i64 (p.2.1.2 i)]))]] [] (.p (.int .i64 r)),
  (((-9223372036854775808) : Int) ≤ (2 * (↑n : Int) - r)),
  (((2 * (↑n : Int) - r) : Int) ≤ 9223372036854775807),
  (((2 * (↑n : Int) - r) : Int) = (2 * (↑n : Int) - r))] := by kernel_rfl
theorem fGn (p : T_Pinned) :
    pathOb Try.prog Try.f48 0 [.reg [oT, oT], .reg [oT, ⟨true, (some ⟨[], [], 1, [], .p (.bool false)⟩), none⟩, oT], .dec true, .reg [oT]] [.code (bodyOf Try.f48)] (start Try.f48 [] 0 [pinA p]) [] 1 [] (.p (.int .i64 (-1))) =
    some [((0 : Nat) < 1),
  Con Try.prog 46 0 [] [.agg [.p (.int .i64 p.1.1), .p (.seq true 2 p.1.2.1.1 (fun i => [.int .i64 ((p.1.2.1.2 i).1), .int .i64 ((p.1.2.1.2 i).2.1)])), .p (.seq true 1 p.2.1.1 (fun i => [.int .i64 (p.2.1.2 i)]))]] [] (.p (.bool false)),
  ((!false) = true),
  (((-1) : Int) = (-1))] := by kernel_rfl
theorem fGy (p : T_Pinned) (n : Nat) (h : Nat → Int) (r : Int) :
    pathOb Try.prog Try.f48 0 [.reg [oT, oT], .reg [oT, ⟨true, (some ⟨[], [], 1, [], .p (.bool true)⟩), none⟩, oT], .dec false, .reg [oT, ⟨true, (some ⟨[], [], 1, [(0, iOb n h)], .ar 1 0 0 n⟩), none⟩, oT, oT, oT, ⟨true, (some ⟨[], [], 1, [], .p (.int .i64 r)⟩), none⟩, oT, oT]] [.code (bodyOf Try.f48)] (start Try.f48 [] 0 [pinA p]) [] 1 [] (.p (.int .i64 (2 * (n : Int) - r))) =
    some [((0 : Nat) < 1),
  Con Try.prog 46 0 [] [.agg [.p (.int .i64 p.1.1), .p (.seq true 2 p.1.2.1.1 (fun i => [.int .i64 ((p.1.2.1.2 i).1), .int .i64 ((p.1.2.1.2 i).2.1)])), .p (.seq true 1 p.2.1.1 (fun i => [.int .i64 (p.2.1.2 i)]))]] [] (.p (.bool true)),
  ((!true) = false),
  ((0 : Nat) < 1),
  Con Try.prog 95 0 [] [.agg [.p (.int .i64 p.1.1), .p (.seq true 2 p.1.2.1.1 (fun i => [.int .i64 ((p.1.2.1.2 i).1), .int .i64 ((p.1.2.1.2 i).2.1)])), .p (.seq true 1 p.2.1.1 (fun i => [.int .i64 (p.2.1.2 i)]))]] [(0, ⟨false, 1, n, (fun i => [.p (.int .i64 (h i))])⟩)] (.ar 1 0 0 n),
  (((-9223372036854775808) : Int) ≤ (2 * (↑n : Int))),
  (((2 * (↑n : Int)) : Int) ≤ 9223372036854775807),
  ((0 : Nat) < 1),
  Con Try.prog 96 0 [] [.agg [.p (.int .i64 p.1.1), .p (.seq true 2 p.1.2.1.1 (fun i => [.int .i64 ((p.1.2.1.2 i).1), .int .i64 ((p.1.2.1.2 i).2.1)])), .p (.seq true 1 p.2.1.1 (fun i => [.int .i64 (p.2.1.2 i)]))]] [] (.p (.int .i64 r)),
  (((-9223372036854775808) : Int) ≤ (2 * (↑n : Int) - r)),
  (((2 * (↑n : Int) - r) : Int) ≤ 9223372036854775807),
  (((2 * (↑n : Int) - r) : Int) = (2 * (↑n : Int) - r))] := by kernel_rfl
theorem fRi (p : T_Pinned) (r : Int) :
    pathOb Try.prog Try.f68 0 [.reg [oT, oT], .reg [oT, ⟨true, (some ⟨[], [], 1, [], .p (.int .i64 r)⟩), none⟩, oT, oT]] [.code (bodyOf Try.f68)] (start Try.f68 [] 0 [pinA p]) [] 1 [] (.p (.bool (r == 0))) =
    some [((0 : Nat) < 1),
  Con Try.prog 54 0 [] [.agg [.p (.int .i64 p.1.1), .p (.seq true 2 p.1.2.1.1 (fun i => [.int .i64 ((p.1.2.1.2 i).1), .int .i64 ((p.1.2.1.2 i).2.1)])), .p (.seq true 1 p.2.1.1 (fun i => [.int .i64 (p.2.1.2 i)]))]] [] (.p (.int .i64 r)),
  ((r == 0) = (r == 0))] := by kernel_rfl
theorem fRs (p : T_Pinned) (r : Int) :
    pathOb Try.prog Try.f67 0 [.reg [oT, oT], .reg [oT, ⟨true, (some ⟨[], [], 1, [], .p (.int .i64 r)⟩), none⟩, oT, oT]] [.code (bodyOf Try.f67)] (start Try.f67 [] 0 [pinA p]) [] 1 [] (.p (.bool (r == 0))) =
    some [((0 : Nat) < 1),
  Con Try.prog 48 0 [] [.agg [.p (.int .i64 p.1.1), .p (.seq true 2 p.1.2.1.1 (fun i => [.int .i64 ((p.1.2.1.2 i).1), .int .i64 ((p.1.2.1.2 i).2.1)])), .p (.seq true 1 p.2.1.1 (fun i => [.int .i64 (p.2.1.2 i)]))]] [] (.p (.int .i64 r)),
  ((r == 0) = (r == 0))] := by kernel_rfl
theorem fIs (p : T_Pinned) (l : T_BarS) (q : T_Pinned) (b1 b2 : Bool) :
    pathOb Try.prog Try.f24 0 [.reg [oT, oT], .reg [oT, oT, ⟨true, (some ⟨[], [], 1, [(0, brOb q.1.2.1.1 q.1.2.1.2), (1, iOb q.2.1.1 q.2.1.2)], .tup [.agg [.p (.int .i64 q.1.1), .ar 2 0 0 q.1.2.1.1, .ar 1 1 0 q.2.1.1], .p (.bool b1)]⟩), none⟩, oT, oT, oT, oT, oT, oT], .reg [oT, oT, oT, ⟨true, (some ⟨[], [], 1, [], .p (.bool b2)⟩), none⟩, oT, oT]] [.code (bodyOf Try.f24)] (start Try.f24 [] 0 [pinA p, graphL l]) [] 1 [] (.p (.bool (bif b1 then b2 else false))) =
    some [((0 : Nat) < 1),
  Con Try.prog 17 0 [] [.agg [.p (.int .i64 p.1.1), .p (.seq true 2 p.1.2.1.1 (fun i => [.int .i64 ((p.1.2.1.2 i).1), .int .i64 ((p.1.2.1.2 i).2.1)])), .p (.seq true 1 p.2.1.1 (fun i => [.int .i64 (p.2.1.2 i)]))], .p (.seq true 2 l.1 (fun i => [.int .i64 ((l.2 i).1), .int .i64 ((l.2 i).2.1)]))] [(0, ⟨false, 2, q.1.2.1.1, (fun i => [.p (.int .i64 ((q.1.2.1.2 i).1)), .p (.int .i64 ((q.1.2.1.2 i).2.1))])⟩), (1, ⟨false, 1, q.2.1.1, (fun i => [.p (.int .i64 (q.2.1.2 i))])⟩)] (.tup [.agg [.p (.int .i64 q.1.1), .ar 2 0 0 q.1.2.1.1, .ar 1 1 0 q.2.1.1], .p (.bool b1)]),
  ((0 : Nat) < 1),
  ((true = true) → ((1 : Nat) = 1)),
  ((b1 = true) → ((0 : Nat) < 1)),
  ((b1 = true) → (b1 = true)),
  ((b1 = true) → ((2 : Nat) = 2)),
  ((b1 = true) → ((q.1.2.1.1 : Nat) ≤ q.1.2.1.1)),
  ((b1 = true) → ((1 : Nat) = 1)),
  ((b1 = true) → ((q.2.1.1 : Nat) ≤ q.2.1.1)),
  ((b1 = true) → Con Try.prog 67 0 [] [.agg [.p (.int .i64 q.1.1), .p (.seq true 2 q.1.2.1.1 (fun i => [.int .i64 ((q.1.2.1.2 i).1), .int .i64 ((q.1.2.1.2 i).2.1)])), .p (.seq true 1 q.2.1.1 (fun i => [.int .i64 (q.2.1.2 i)]))]] [] (.p (.bool b2))),
  ((b1 = true) → (b1 = true)),
  ((bif b1 then b2 else false) = (bif b1 then b2 else false))] := by kernel_rfl
abbrev NI := Nat × (Nat → Int)
def zNI : NI := (0, fun _ => 0)
def snN (r : NI) (x : Int) : NI := (r.1 + 1, snI r.1 r.2 x)
def inrD (p : T_Pinned) : Nat → NI
  | 0 => zNI
  | v + 1 => if hasI p.2.1.2 v p.2.1.1 = true then inrD p v else snN (inrD p v) v
def inrP (p : T_Pinned) : NI := if pinnedF p = true then inrD p p.1.1.toNat else zNI
theorem inrD_n (p : T_Pinned) : ∀ v, (inrD p v).1 ≤ v
  | 0 => Nat.le_refl _
  | v + 1 => by
    have := inrD_n p v
    simp only [inrD]
    split
    · omega
    · simp only [snN]; omega
theorem inrP_n (p : T_Pinned) : (inrP p).1 ≤ 8 := by
  unfold inrP
  split
  · rename_i h
    have := (pin_ok h).N
    have := inrD_n p p.1.1.toNat
    omega
  · exact Nat.zero_le _
theorem con_InnerPoints_s (p : T_Pinned) (hs : smS s_Pinned p) : Con Try.prog 95 0 [] [pinA p] [(0, iOb (inrP p).1 (inrP p).2)] (.ar 1 0 0 (inrP p).1) := by
  have hg : p.2.1.1 ≤ 1048576 := hs.2.1.1
  have c1 := con_IsPinned_s p hs
  refine con_start Try.func95 rfl (by kernel_rfl) rfl (fun c hc => ?_)
  cases hp : pinnedF p with
  | false =>
    rw [hp] at c1
    rw [show inrP p = zNI by simp [inrP, hp]]
    have hd : (bif decide (((0 : Nat) : Int) < p.1.1) then false else false) = false := by cases decide (((0 : Nat) : Int) < p.1.1) <;> rfl
    have he : Run Try.prog c 95 [.code (cAt (bodyOf Try.f95) [1, 1, 0, 1, 0, 0]), .inLoop (cAt (bodyOf Try.f95) [1, 1, 0, 1, 0, 0]), .inBlock 0, .code (cAt (bodyOf Try.f95) [1, 1, 1])] (SNs p 0 0 (fun _ => 0)) (Post c [(0, iOb zNI.1 zNI.2)] (.ar 1 0 0 zNI.1)) := by
      refine path_ok mixed Try.func95 hc (nSe p 0 0 (fun _ => 0) false) ?_
      simp only [All]
      repeat' (first | exact trivial | with_reducible apply And.intro)
      all_goals (first | omega | rfl | (intros; first | assumption | exact True.intro | rfl | exact absurd (show false = true by assumption) Bool.false_ne_true | ((repeat' (first | assumption | apply anda | apply notf)); done)) | (intros; exact c1) | (exact hd) | (intro t ht; exact absurd ht (Nat.not_lt_zero _)) | (intro t ht; simp [All]))
    refine piece_ok mixed hc (nSz p) ?_ he
    simp only [All]
    repeat' (first | exact trivial | with_reducible apply And.intro)
    all_goals (first | omega | rfl | (intros; first | assumption | exact True.intro | rfl | exact absurd (show false = true by assumption) Bool.false_ne_true | ((repeat' (first | assumption | apply anda | apply notf)); done)) | (intro t ht; exact absurd ht (Nat.not_lt_zero _)) | (intro t ht; simp [All]))
  | true =>
    have ok := pin_ok hp
    have hN := ok.N
    rw [hp] at c1
    rw [show inrP p = inrD p p.1.1.toNat by simp [inrP, hp]]
    generalize hR : inrD p p.1.1.toNat = R
    have lo : ∀ d v, v + d = p.1.1.toNat → Run Try.prog c 95 [.code (cAt (bodyOf Try.f95) [1, 1, 0, 1, 0, 0]), .inLoop (cAt (bodyOf Try.f95) [1, 1, 0, 1, 0, 0]), .inBlock 0, .code (cAt (bodyOf Try.f95) [1, 1, 1])] (SNs p v (inrD p v).1 (inrD p v).2) (Post c [(0, iOb R.1 R.2)] (.ar 1 0 0 R.1)) := by
      intro d
      induction d with
      | zero =>
        intro v hv
        obtain rfl : v = p.1.1.toNat := by omega
        have hd : (bif decide (((p.1.1.toNat : Nat) : Int) < p.1.1) then true else false) = false := by
          rw [show decide (((p.1.1.toNat : Nat) : Int) < p.1.1) = false from decide_eq_false (by omega)]; rfl
        rw [hR]
        refine path_ok mixed Try.func95 hc (nSe p p.1.1.toNat R.1 R.2 true) ?_
        simp only [All]
        repeat' (first | exact trivial | with_reducible apply And.intro)
        all_goals (first | omega | rfl | (intros; first | assumption | exact True.intro | rfl | exact absurd (show false = true by assumption) Bool.false_ne_true | ((repeat' (first | assumption | apply anda | apply notf)); done)) | (exact hd) | (intros; exact c1) | (intro t ht; simp [All]))
      | succ d ih =>
        intro v hv
        have hrec := ih (v + 1) (by omega)
        have hd : (bif decide ((v : Int) < p.1.1) then true else false) = true := by
          rw [show decide ((v : Int) < p.1.1) = true from decide_eq_true (by omega)]; rfl
        have ch := con_l2Has p.2.1 v hg
        have hn := inrD_n p v
        by_cases hh : hasI p.2.1.2 v p.2.1.1 = true
        · rw [hh] at ch
          rw [show inrD p (v + 1) = inrD p v by simp only [inrD, hh, if_true]] at hrec
          generalize inrD p v = q at hn hrec ⊢
          refine piece_ok mixed hc (nSb p v q.1 q.2 true) ?_ hrec
          simp only [All]
          repeat' (first | exact trivial | with_reducible apply And.intro)
          all_goals (first | omega | rfl | (intros; first | assumption | exact True.intro | rfl | exact absurd (show false = true by assumption) Bool.false_ne_true | ((repeat' (first | assumption | apply anda | apply notf)); done)) | (exact hd) | (intros; exact c1) | (exact ch) | (intro t ht; simp [All]))
        · rw [Bool.not_eq_true] at hh
          rw [hh] at ch
          rw [show inrD p (v + 1) = snN (inrD p v) v by simp [inrD, hh]] at hrec
          generalize inrD p v = q at hn hrec ⊢
          refine piece_ok mixed hc (nSa p v q.1 q.2 true) ?_ hrec
          simp only [All]
          repeat' (first | exact trivial | with_reducible apply And.intro)
          all_goals (first | omega | rfl | (intros; first | assumption | exact True.intro | rfl | exact absurd (show false = true by assumption) Bool.false_ne_true | ((repeat' (first | assumption | apply anda | apply notf)); done)) | (exact hd) | (intros; exact c1) | (exact ch) | (intro t ht; by_cases h' : t < q.1 <;> simp [h', snI, cvtL, cvt, tg, tru, All]))
    refine piece_ok mixed hc (nSz p) ?_ (lo p.1.1.toNat 0 (by omega))
    simp only [All]
    repeat' (first | exact trivial | with_reducible apply And.intro)
    all_goals (first | omega | rfl | (intros; first | assumption | exact True.intro | rfl | exact absurd (show false = true by assumption) Bool.false_ne_true | ((repeat' (first | assumption | apply anda | apply notf)); done)) | (intro t ht; exact absurd ht (Nat.not_lt_zero _)) | (intro t ht; simp [All]))
theorem con_InnerPoints_i (p : T_Pinned) (hs : smS s_Pinned p) : Con Try.prog 102 0 [] [pinA p] [(0, iOb (inrP p).1 (inrP p).2)] (.ar 1 0 0 (inrP p).1) := by
  have hg : p.2.1.1 ≤ 1048576 := hs.2.1.1
  have c1 := con_IsPinned_i p hs
  refine con_start Try.func102 rfl (by kernel_rfl) rfl (fun c hc => ?_)
  cases hp : pinnedF p with
  | false =>
    rw [hp] at c1
    rw [show inrP p = zNI by simp [inrP, hp]]
    refine path_ok mixed Try.func102 hc (nIn p) ?_
    simp only [All]
    repeat' (first | exact trivial | with_reducible apply And.intro)
    all_goals (first | omega | rfl | (intros; first | assumption | exact True.intro | rfl | exact absurd (show false = true by assumption) Bool.false_ne_true | ((repeat' (first | assumption | apply anda | apply notf)); done)) | (exact c1) | (intro t ht; exact absurd ht (Nat.not_lt_zero _)) | (intro t ht; simp [All]))
  | true =>
    have ok := pin_ok hp
    have hN := ok.N
    rw [hp] at c1
    rw [show inrP p = inrD p p.1.1.toNat by simp [inrP, hp]]
    generalize hR : inrD p p.1.1.toNat = R
    have lo : ∀ d v, v + d = p.1.1.toNat → Run Try.prog c 102 [.code (cAt (bodyOf Try.f102) [1, 1, 1, 0, 1, 0, 0]), .inLoop (cAt (bodyOf Try.f102) [1, 1, 1, 0, 1, 0, 0]), .inBlock 0, .code (cAt (bodyOf Try.f102) [1, 1, 1, 1])] (SNi p v (inrD p v).1 (inrD p v).2) (Post c [(0, iOb R.1 R.2)] (.ar 1 0 0 R.1)) := by
      intro d
      induction d with
      | zero =>
        intro v hv
        obtain rfl : v = p.1.1.toNat := by omega
        have hd : decide (((p.1.1.toNat : Nat) : Int) < p.1.1) = false := decide_eq_false (by omega)
        rw [hR]
        refine path_ok mixed Try.func102 hc (nIe p p.1.1.toNat R.1 R.2) ?_
        simp only [All]
        repeat' (first | exact trivial | with_reducible apply And.intro)
        all_goals (first | omega | rfl | (intros; first | assumption | exact True.intro | rfl | exact absurd (show false = true by assumption) Bool.false_ne_true | ((repeat' (first | assumption | apply anda | apply notf)); done)) | (exact hd) | (intro t ht; simp [All]))
      | succ d ih =>
        intro v hv
        have hrec := ih (v + 1) (by omega)
        have hd : decide ((v : Int) < p.1.1) = true := decide_eq_true (by omega)
        have ch := con_Contains p.2.1 v hg
        have hn := inrD_n p v
        by_cases hh : hasI p.2.1.2 v p.2.1.1 = true
        · rw [hh] at ch
          rw [show inrD p (v + 1) = inrD p v by simp only [inrD, hh, if_true]] at hrec
          generalize inrD p v = q at hn hrec ⊢
          refine piece_ok mixed hc (nIb p v q.1 q.2) ?_ hrec
          simp only [All]
          repeat' (first | exact trivial | with_reducible apply And.intro)
          all_goals (first | omega | rfl | (intros; first | assumption | exact True.intro | rfl | exact absurd (show false = true by assumption) Bool.false_ne_true | ((repeat' (first | assumption | apply anda | apply notf)); done)) | (exact hd) | (exact ch) | (intro t ht; simp [All]))
        · rw [Bool.not_eq_true] at hh
          rw [hh] at ch
          rw [show inrD p (v + 1) = snN (inrD p v) v by simp [inrD, hh]] at hrec
          generalize inrD p v = q at hn hrec ⊢
          refine piece_ok mixed hc (nIa p v q.1 q.2) ?_ hrec
          simp only [All]
          repeat' (first | exact trivial | with_reducible apply And.intro)
          all_goals (first | omega | rfl | (intros; first | assumption | exact True.intro | rfl | exact absurd (show false = true by assumption) Bool.false_ne_true | ((repeat' (first | assumption | apply anda | apply notf)); done)) | (exact hd) | (exact ch) | (intro t ht; by_cases h' : t < q.1 <;> simp [h', snI, cvtL, cvt, tg, tru, All]))
    refine piece_ok mixed hc (nIz p) ?_ (lo p.1.1.toNat 0 (by omega))
    simp only [All]
    repeat' (first | exact trivial | with_reducible apply And.intro)
    all_goals (first | omega | rfl | (intros; first | assumption | exact True.intro | rfl | exact absurd (show false = true by assumption) Bool.false_ne_true | ((repeat' (first | assumption | apply anda | apply notf)); done)) | (exact c1) | (intro t ht; exact absurd ht (Nat.not_lt_zero _)) | (intro t ht; simp [All]))
noncomputable def frG (p : T_Pinned) : Int := if pinnedF p = true then 2 * ((inrP p).1 : Int) - prG p else -1
theorem prG_in (p : T_Pinned) : -24 ≤ prG p ∧ prG p ≤ 24 := by
  unfold prG
  split
  · rename_i h
    have ok := pin_ok h
    have h1 := accI_le p.1.1.toNat 2 3 (alS p).2 (alS p).1
    have h2 := accI_le p.1.1.toNat 2 3 (hlS p).2 (hlS p).1
    have := alS_n p; have := ok.nS
    unfold rkN; omega
  · omega
theorem con_PinnedFreedom_i (p : T_Pinned) (hs : smS s_Pinned p) : Con Try.prog 54 0 [] [pinA p] [] (.p (.int .i64 (frG p))) := by
  have c1 := con_IsPinned_i p hs
  have c2 := con_InnerPoints_i p hs
  have c3 := con_PinnedRank_i p hs
  have hn := inrP_n p
  have hr := prG_in p
  refine con_start Try.func54 rfl (by kernel_rfl) rfl (fun c hc => ?_)
  cases hp : pinnedF p with
  | false =>
    rw [hp] at c1
    rw [show frG p = -1 by simp [frG, hp]]
    refine path_ok mixed Try.func54 hc (fFn p) ?_
    simp only [All]
    repeat' (first | exact trivial | with_reducible apply And.intro)
    all_goals (first | omega | rfl | (intros; first | assumption | exact True.intro | rfl | exact absurd (show false = true by assumption) Bool.false_ne_true | ((repeat' (first | assumption | apply anda | apply notf)); done)) | (exact c1) | (simp; done))
  | true =>
    rw [hp] at c1
    rw [show frG p = 2 * ((inrP p).1 : Int) - prG p by simp [frG, hp]]
    refine path_ok mixed Try.func54 hc (fFy p (inrP p).1 (inrP p).2 (prG p)) ?_
    simp only [All]
    repeat' (first | exact trivial | with_reducible apply And.intro)
    all_goals (first | omega | rfl | (intros; first | assumption | exact True.intro | rfl | exact absurd (show false = true by assumption) Bool.false_ne_true | ((repeat' (first | assumption | apply anda | apply notf)); done)) | (exact c1) | (exact c2) | (exact c3))
theorem con_PinnedFreedom_s (p : T_Pinned) (hs : smS s_Pinned p) : Con Try.prog 48 0 [] [pinA p] [] (.p (.int .i64 (frG p))) := by
  have c1 := con_IsPinned_s p hs
  have c2 := con_InnerPoints_s p hs
  have c3 := con_PinnedRank_s p hs
  have hn := inrP_n p
  have hr := prG_in p
  refine con_start Try.func48 rfl (by kernel_rfl) rfl (fun c hc => ?_)
  cases hp : pinnedF p with
  | false =>
    rw [hp] at c1
    rw [show frG p = -1 by simp [frG, hp]]
    refine path_ok mixed Try.func48 hc (fGn p) ?_
    simp only [All]
    repeat' (first | exact trivial | with_reducible apply And.intro)
    all_goals (first | omega | rfl | (intros; first | assumption | exact True.intro | rfl | exact absurd (show false = true by assumption) Bool.false_ne_true | ((repeat' (first | assumption | apply anda | apply notf)); done)) | (exact c1) | (simp; done))
  | true =>
    rw [hp] at c1
    rw [show frG p = 2 * ((inrP p).1 : Int) - prG p by simp [frG, hp]]
    refine path_ok mixed Try.func48 hc (fGy p (inrP p).1 (inrP p).2 (prG p)) ?_
    simp only [All]
    repeat' (first | exact trivial | with_reducible apply And.intro)
    all_goals (first | omega | rfl | (intros; first | assumption | exact True.intro | rfl | exact absurd (show false = true by assumption) Bool.false_ne_true | ((repeat' (first | assumption | apply anda | apply notf)); done)) | (exact c1) | (exact c2) | (exact c3))
noncomputable def rgB (p : T_Pinned) : Bool := frG p == 0
theorem con_IsPinnedRigid_i (p : T_Pinned) (hs : smS s_Pinned p) : Con Try.prog 68 0 [] [pinA p] [] (.p (.bool (rgB p))) := by
  have c1 := con_PinnedFreedom_i p hs
  refine con_start Try.func68 rfl (by kernel_rfl) rfl (fun c hc => ?_)
  refine path_ok mixed Try.func68 hc (fRi p (frG p)) ?_
  simp only [All]
  repeat' (first | exact trivial | with_reducible apply And.intro)
  all_goals (first | omega | rfl | (intros; first | assumption | exact True.intro | rfl | exact absurd (show false = true by assumption) Bool.false_ne_true | ((repeat' (first | assumption | apply anda | apply notf)); done)) | (exact c1))
theorem con_IsPinnedRigid_s (p : T_Pinned) (hs : smS s_Pinned p) : Con Try.prog 67 0 [] [pinA p] [] (.p (.bool (rgB p))) := by
  have c1 := con_PinnedFreedom_s p hs
  refine con_start Try.func67 rfl (by kernel_rfl) rfl (fun c hc => ?_)
  refine path_ok mixed Try.func67 hc (fRs p (frG p)) ?_
  simp only [All]
  repeat' (first | exact trivial | with_reducible apply And.intro)
  all_goals (first | omega | rfl | (intros; first | assumption | exact True.intro | rfl | exact absurd (show false = true by assumption) Bool.false_ne_true | ((repeat' (first | assumption | apply anda | apply notf)); done)) | (exact c1))
noncomputable def irB (p : T_Pinned) (l : T_BarS) : Bool := bif arB p l then rgB (arP p l) else false
theorem sm_arP (p : T_Pinned) (l : T_BarS) : smS s_Pinned (arP p l) := sm_pin (by have := arP_le p l; omega) (by have := arP_le p l; omega)
theorem con_IsRepair_s (p : T_Pinned) (hs : smS s_Pinned p) (l : T_BarS) (hl : l.1 ≤ 1048576) : Con Try.prog 24 0 [] [pinA p, graphL l] [] (.p (.bool (irB p l))) := by
  have c1 := con_ApplyRepair_s p hs l hl
  have c2 := con_IsPinnedRigid_s (arP p l) (sm_arP p l)
  refine con_start Try.func24 rfl (by kernel_rfl) rfl (fun c hc => ?_)
  refine path_ok mixed Try.func24 hc (fIs p l (arP p l) (arB p l) (rgB (arP p l))) ?_
  simp only [All]
  repeat' (first | exact trivial | with_reducible apply And.intro)
  all_goals (first | omega | rfl | (intros; first | assumption | exact True.intro | rfl | exact absurd (show false = true by assumption) Bool.false_ne_true | ((repeat' (first | assumption | apply anda | apply notf)); done)) | (exact c1) | (intro _; exact c2))
end Go.Proofs.Ytgdbnnmogddkaaa.Mach
