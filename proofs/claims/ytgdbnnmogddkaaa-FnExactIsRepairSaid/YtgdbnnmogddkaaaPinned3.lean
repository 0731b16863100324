/- Whether a pinned graph is one: the program's test. Conditions: as each theorem says. -/
import Derived.Test.YtgdbnnmogddkaaaPinned2
namespace Go.Proofs.Ytgdbnnmogddkaaa.Mach
open Go
set_option linter.unusedVariables false
set_option linter.unusedSimpArgs false

def headP (v : T_Pinned) : Bool :=
  bif bif bif bif !isGraphF v.1 then true else dblB v.1.2.1.2 v.1.2.1.1 then true else decide ((v.2.1.1 : Int) < 2) then true else decide ((v.1.2.1.1 : Int) > 15) then true else decide ((v.1.2.1.1 : Int) + 2 * (v.2.1.1 : Int) - 3 > 24)
def S57a (v : T_Pinned) (k : Nat) : St :=
  ⟨[pinA v, .pt 3 0 0 0, .p .any, .pt 2 1 0 0] ++ List.replicate 38 anyA ++ [inL v.2.1, .p (.int .i64 v.2.1.1), .p (.int .i64 k)] ++ List.replicate 43 anyA, [(0, boxP v), (1, boxG v.1)], 2⟩
def S57b (v : T_Pinned) (k : Nat) : St :=
  ⟨[pinA v, .pt 3 0 0 0, .p .any, .p .any] ++ List.replicate 65 anyA ++ [graphL v.1.2.1, .p (.int .i64 v.1.2.1.1), .p (.int .i64 k)] ++ List.replicate 16 anyA, [(0, boxP v)], 1⟩

theorem p57z (v : T_Pinned) :
    pathOb Try.prog Try.f52 0 [.reg [oT, oT], .reg [oT, oT, oT, oT], .reg [oT, ⟨true, (some ⟨[], [], 1, [], .p (.bool (isGraphF v.1))⟩), none⟩, oT, oT, oT, ⟨true, (some ⟨[], [], 1, [], .p (.bool (dblB v.1.2.1.2 v.1.2.1.1))⟩), none⟩, oT, oT, oT, oT, oT, oT, oT, oT, oT, oT, oT, oT, oT, oT, oT, oT, oT, oT, oT, oT, oT, oT, oT, oT, oT], .dec true, .reg [oT]] [.code (bodyOf Try.f52)] (start Try.f52 [] 0 [pinA v]) [] 1 [] (.p (.bool false)) =
    some [((0 : Nat) < 1),
  ((0 : Nat) < 1),
  (((true) = true) → ((1 : Nat) = 1)),
  ((0 : Nat) < 1),
  Con (Try.prog) 77 0 [] [.agg [.p (.int .i64 (v.fst.fst)), .p (.seq true 2 (v.fst.snd.fst.fst) (fun i => [.int .i64 ((v.fst.snd.fst.snd i).fst), .int .i64 ((v.fst.snd.fst.snd i).snd.fst)]))]] [] (.p (.bool (isGraphF v.fst))),
  (((!!isGraphF v.fst) = true) → ((0 : Nat) < 1)),
  (((!!isGraphF v.fst) = true) → ((!!isGraphF v.fst) = true)),
  (((!!isGraphF v.fst) = true) → Con (Try.prog) 100 0 [] [.agg [.p (.int .i64 (v.fst.fst)), .p (.seq true 2 (v.fst.snd.fst.fst) (fun i => [.int .i64 ((v.fst.snd.fst.snd i).fst), .int .i64 ((v.fst.snd.fst.snd i).snd.fst)]))]] [] (.p (.bool (dblB v.fst.snd.fst.snd v.fst.snd.fst.fst)))),
  (((!isGraphF v.fst) = false) → ((!!isGraphF v.fst) = true)),
  (((!bif !isGraphF v.fst then true else dblB v.fst.snd.fst.snd v.fst.snd.fst.fst) = true) → ((!bif !isGraphF v.fst then true else dblB v.fst.snd.fst.snd v.fst.snd.fst.fst) = true)),
  (((!bif !isGraphF v.fst then true else dblB v.fst.snd.fst.snd v.fst.snd.fst.fst) = true) → ((0 : Nat) < 1)),
  (((!bif !isGraphF v.fst then true else dblB v.fst.snd.fst.snd v.fst.snd.fst.fst) = true) → ((!bif !isGraphF v.fst then true else dblB v.fst.snd.fst.snd v.fst.snd.fst.fst) = true)),
  (((!bif !isGraphF v.fst then true else dblB v.fst.snd.fst.snd v.fst.snd.fst.fst) = true) → ((!bif !isGraphF v.fst then true else dblB v.fst.snd.fst.snd v.fst.snd.fst.fst) = true)),
  (((bif !isGraphF v.fst then true else dblB v.fst.snd.fst.snd v.fst.snd.fst.fst) = false) → ((!bif !isGraphF v.fst then true else dblB v.fst.snd.fst.snd v.fst.snd.fst.fst) = true)),
  (((!bif bif !isGraphF v.fst then true else dblB v.fst.snd.fst.snd v.fst.snd.fst.fst then true else decide ((↑v.snd.fst.fst : Int) < 2)) = true) → ((!bif bif !isGraphF v.fst then true else dblB v.fst.snd.fst.snd v.fst.snd.fst.fst then true else decide ((↑v.snd.fst.fst : Int) < 2)) = true)),
  (((!bif bif !isGraphF v.fst then true else dblB v.fst.snd.fst.snd v.fst.snd.fst.fst then true else decide ((↑v.snd.fst.fst : Int) < 2)) = true) → ((0 : Nat) < 1)),
  (((!bif bif !isGraphF v.fst then true else dblB v.fst.snd.fst.snd v.fst.snd.fst.fst then true else decide ((↑v.snd.fst.fst : Int) < 2)) = true) → ((!bif bif !isGraphF v.fst then true else dblB v.fst.snd.fst.snd v.fst.snd.fst.fst then true else decide ((↑v.snd.fst.fst : Int) < 2)) = true)),
  (((!bif bif !isGraphF v.fst then true else dblB v.fst.snd.fst.snd v.fst.snd.fst.fst then true else decide ((↑v.snd.fst.fst : Int) < 2)) = true) → ((!bif bif !isGraphF v.fst then true else dblB v.fst.snd.fst.snd v.fst.snd.fst.fst then true else decide ((↑v.snd.fst.fst : Int) < 2)) = true)),
  (((bif bif !isGraphF v.fst then true else dblB v.fst.snd.fst.snd v.fst.snd.fst.fst then true else decide ((↑v.snd.fst.fst : Int) < 2)) = false) → ((!bif bif !isGraphF v.fst then true else dblB v.fst.snd.fst.snd v.fst.snd.fst.fst then true else decide ((↑v.snd.fst.fst : Int) < 2)) = true)),
  (((!bif bif bif !isGraphF v.fst then true else dblB v.fst.snd.fst.snd v.fst.snd.fst.fst then true else decide ((↑v.snd.fst.fst : Int) < 2) then true else decide ((↑v.fst.snd.fst.fst : Int) > 15)) = true) → ((!bif bif bif !isGraphF v.fst then true else dblB v.fst.snd.fst.snd v.fst.snd.fst.fst then true else decide ((↑v.snd.fst.fst : Int) < 2) then true else decide ((↑v.fst.snd.fst.fst : Int) > 15)) = true)),
  (((!bif bif bif !isGraphF v.fst then true else dblB v.fst.snd.fst.snd v.fst.snd.fst.fst then true else decide ((↑v.snd.fst.fst : Int) < 2) then true else decide ((↑v.fst.snd.fst.fst : Int) > 15)) = true) → ((0 : Nat) < 1)),
  (((!bif bif bif !isGraphF v.fst then true else dblB v.fst.snd.fst.snd v.fst.snd.fst.fst then true else decide ((↑v.snd.fst.fst : Int) < 2) then true else decide ((↑v.fst.snd.fst.fst : Int) > 15)) = true) → ((!bif bif bif !isGraphF v.fst then true else dblB v.fst.snd.fst.snd v.fst.snd.fst.fst then true else decide ((↑v.snd.fst.fst : Int) < 2) then true else decide ((↑v.fst.snd.fst.fst : Int) > 15)) = true)),
  (((!bif bif bif !isGraphF v.fst then true else dblB v.fst.snd.fst.snd v.fst.snd.fst.fst then true else decide ((↑v.snd.fst.fst : Int) < 2) then true else decide ((↑v.fst.snd.fst.fst : Int) > 15)) = true) → ((!bif bif bif !isGraphF v.fst then true else dblB v.fst.snd.fst.snd v.fst.snd.fst.fst then true else decide ((↑v.snd.fst.fst : Int) < 2) then true else decide ((↑v.fst.snd.fst.fst : Int) > 15)) = true)),
  (((!bif bif bif !isGraphF v.fst then true else dblB v.fst.snd.fst.snd v.fst.snd.fst.fst then true else decide ((↑v.snd.fst.fst : Int) < 2) then true else decide ((↑v.fst.snd.fst.fst : Int) > 15)) = true) → ((0 : Nat) < 1)),
  (((!bif bif bif !isGraphF v.fst then true else dblB v.fst.snd.fst.snd v.fst.snd.fst.fst then true else decide ((↑v.snd.fst.fst : Int) < 2) then true else decide ((↑v.fst.snd.fst.fst : Int) > 15)) = true) → ((!bif bif bif !isGraphF v.fst then true else dblB v.fst.snd.fst.snd v.fst.snd.fst.fst then true else decide ((↑v.snd.fst.fst : Int) < 2) then true else decide ((↑v.fst.snd.fst.fst : Int) > 15)) = true)),
  (((!bif bif bif !isGraphF v.fst then true else dblB v.fst.snd.fst.snd v.fst.snd.fst.fst then true else decide ((↑v.snd.fst.fst : Int) < 2) then true else decide ((↑v.fst.snd.fst.fst : Int) > 15)) = true) → ((!bif bif bif !isGraphF v.fst then true else dblB v.fst.snd.fst.snd v.fst.snd.fst.fst then true else decide ((↑v.snd.fst.fst : Int) < 2) then true else decide ((↑v.fst.snd.fst.fst : Int) > 15)) = true)),
  (((!bif bif bif !isGraphF v.fst then true else dblB v.fst.snd.fst.snd v.fst.snd.fst.fst then true else decide ((↑v.snd.fst.fst : Int) < 2) then true else decide ((↑v.fst.snd.fst.fst : Int) > 15)) = true) → (((-9223372036854775808) : Int) ≤ (2 * (↑v.snd.fst.fst : Int)))),
  (((!bif bif bif !isGraphF v.fst then true else dblB v.fst.snd.fst.snd v.fst.snd.fst.fst then true else decide ((↑v.snd.fst.fst : Int) < 2) then true else decide ((↑v.fst.snd.fst.fst : Int) > 15)) = true) → (((2 * (↑v.snd.fst.fst : Int)) : Int) ≤ 9223372036854775807)),
  (((!bif bif bif !isGraphF v.fst then true else dblB v.fst.snd.fst.snd v.fst.snd.fst.fst then true else decide ((↑v.snd.fst.fst : Int) < 2) then true else decide ((↑v.fst.snd.fst.fst : Int) > 15)) = true) → ((!bif bif bif !isGraphF v.fst then true else dblB v.fst.snd.fst.snd v.fst.snd.fst.fst then true else decide ((↑v.snd.fst.fst : Int) < 2) then true else decide ((↑v.fst.snd.fst.fst : Int) > 15)) = true)),
  (((!bif bif bif !isGraphF v.fst then true else dblB v.fst.snd.fst.snd v.fst.snd.fst.fst then true else decide ((↑v.snd.fst.fst : Int) < 2) then true else decide ((↑v.fst.snd.fst.fst : Int) > 15)) = true) → ((!bif bif bif !isGraphF v.fst then true else dblB v.fst.snd.fst.snd v.fst.snd.fst.fst then true else decide ((↑v.snd.fst.fst : Int) < 2) then true else decide ((↑v.fst.snd.fst.fst : Int) > 15)) = true)),
  (((!bif bif bif !isGraphF v.fst then true else dblB v.fst.snd.fst.snd v.fst.snd.fst.fst then true else decide ((↑v.snd.fst.fst : Int) < 2) then true else decide ((↑v.fst.snd.fst.fst : Int) > 15)) = true) → (((-9223372036854775808) : Int) ≤ ((↑v.fst.snd.fst.fst : Int) + 2 * (↑v.snd.fst.fst : Int)))),
  (((!bif bif bif !isGraphF v.fst then true else dblB v.fst.snd.fst.snd v.fst.snd.fst.fst then true else decide ((↑v.snd.fst.fst : Int) < 2) then true else decide ((↑v.fst.snd.fst.fst : Int) > 15)) = true) → ((((↑v.fst.snd.fst.fst : Int) + 2 * (↑v.snd.fst.fst : Int)) : Int) ≤ 9223372036854775807)),
  (((!bif bif bif !isGraphF v.fst then true else dblB v.fst.snd.fst.snd v.fst.snd.fst.fst then true else decide ((↑v.snd.fst.fst : Int) < 2) then true else decide ((↑v.fst.snd.fst.fst : Int) > 15)) = true) → ((!bif bif bif !isGraphF v.fst then true else dblB v.fst.snd.fst.snd v.fst.snd.fst.fst then true else decide ((↑v.snd.fst.fst : Int) < 2) then true else decide ((↑v.fst.snd.fst.fst : Int) > 15)) = true)),
  (((!bif bif bif !isGraphF v.fst then true else dblB v.fst.snd.fst.snd v.fst.snd.fst.fst then true else decide ((↑v.snd.fst.fst : Int) < 2) then true else decide ((↑v.fst.snd.fst.fst : Int) > 15)) = true) → (((-9223372036854775808) : Int) ≤ ((↑v.fst.snd.fst.fst : Int) + 2 * (↑v.snd.fst.fst : Int) - 3))),
  (((!bif bif bif !isGraphF v.fst then true else dblB v.fst.snd.fst.snd v.fst.snd.fst.fst then true else decide ((↑v.snd.fst.fst : Int) < 2) then true else decide ((↑v.fst.snd.fst.fst : Int) > 15)) = true) → ((((↑v.fst.snd.fst.fst : Int) + 2 * (↑v.snd.fst.fst : Int) - 3) : Int) ≤ 9223372036854775807)),
  (((!bif bif bif !isGraphF v.fst then true else dblB v.fst.snd.fst.snd v.fst.snd.fst.fst then true else decide ((↑v.snd.fst.fst : Int) < 2) then true else decide ((↑v.fst.snd.fst.fst : Int) > 15)) = true) → ((!bif bif bif !isGraphF v.fst then true else dblB v.fst.snd.fst.snd v.fst.snd.fst.fst then true else decide ((↑v.snd.fst.fst : Int) < 2) then true else decide ((↑v.fst.snd.fst.fst : Int) > 15)) = true)),
  (((bif bif bif !isGraphF v.fst then true else dblB v.fst.snd.fst.snd v.fst.snd.fst.fst then true else decide ((↑v.snd.fst.fst : Int) < 2) then true else decide ((↑v.fst.snd.fst.fst : Int) > 15)) = false) → ((!bif bif bif !isGraphF v.fst then true else dblB v.fst.snd.fst.snd v.fst.snd.fst.fst then true else decide ((↑v.snd.fst.fst : Int) < 2) then true else decide ((↑v.fst.snd.fst.fst : Int) > 15)) = true)),
  ((bif bif bif bif !isGraphF v.fst then true else dblB v.fst.snd.fst.snd v.fst.snd.fst.fst then true else decide ((↑v.snd.fst.fst : Int) < 2) then true else decide ((↑v.fst.snd.fst.fst : Int) > 15) then true else decide ((↑v.fst.snd.fst.fst : Int) + 2 * (↑v.snd.fst.fst : Int) - 3 > 24)) = true),
  (false = false)] := by kernel_rfl
theorem p57a (v : T_Pinned) :
    pieceOb Try.prog 0 [.reg [oT, oT], .reg [oT, oT, oT, oT], .reg [oT, ⟨true, (some ⟨[], [], 1, [], .p (.bool (isGraphF v.1))⟩), none⟩, oT, oT, oT, ⟨true, (some ⟨[], [], 1, [], .p (.bool (dblB v.1.2.1.2 v.1.2.1.1))⟩), none⟩, oT, oT, oT, oT, oT, oT, oT, oT, oT, oT, oT, oT, oT, oT, oT, oT, oT, oT, oT, oT, oT, oT, oT, oT, oT], .dec false, .reg [oT, oT, oT, oT], .head] [.code (bodyOf Try.f52)] (start Try.f52 [] 0 [pinA v]) [0, 128] 1 (S57a v 0) =
    some ([.code (cAt (bodyOf Try.f52) [1, 1, 1, 0, 1, 0, 0]), .inLoop (cAt (bodyOf Try.f52) [1, 1, 1, 0, 1, 0, 0]), .inBlock 0, .code (cAt (bodyOf Try.f52) [1, 1, 1, 1])], [((0 : Nat) < 1),
  ((0 : Nat) < 1),
  (((true) = true) → ((1 : Nat) = 1)),
  ((0 : Nat) < 1),
  Con (Try.prog) 77 0 [] [.agg [.p (.int .i64 (v.fst.fst)), .p (.seq true 2 (v.fst.snd.fst.fst) (fun i => [.int .i64 ((v.fst.snd.fst.snd i).fst), .int .i64 ((v.fst.snd.fst.snd i).snd.fst)]))]] [] (.p (.bool (isGraphF v.fst))),
  (((!!isGraphF v.fst) = true) → ((0 : Nat) < 1)),
  (((!!isGraphF v.fst) = true) → ((!!isGraphF v.fst) = true)),
  (((!!isGraphF v.fst) = true) → Con (Try.prog) 100 0 [] [.agg [.p (.int .i64 (v.fst.fst)), .p (.seq true 2 (v.fst.snd.fst.fst) (fun i => [.int .i64 ((v.fst.snd.fst.snd i).fst), .int .i64 ((v.fst.snd.fst.snd i).snd.fst)]))]] [] (.p (.bool (dblB v.fst.snd.fst.snd v.fst.snd.fst.fst)))),
  (((!isGraphF v.fst) = false) → ((!!isGraphF v.fst) = true)),
  (((!bif !isGraphF v.fst then true else dblB v.fst.snd.fst.snd v.fst.snd.fst.fst) = true) → ((!bif !isGraphF v.fst then true else dblB v.fst.snd.fst.snd v.fst.snd.fst.fst) = true)),
  (((!bif !isGraphF v.fst then true else dblB v.fst.snd.fst.snd v.fst.snd.fst.fst) = true) → ((0 : Nat) < 1)),
  (((!bif !isGraphF v.fst then true else dblB v.fst.snd.fst.snd v.fst.snd.fst.fst) = true) → ((!bif !isGraphF v.fst then true else dblB v.fst.snd.fst.snd v.fst.snd.fst.fst) = true)),
  (((!bif !isGraphF v.fst then true else dblB v.fst.snd.fst.snd v.fst.snd.fst.fst) = true) → ((!bif !isGraphF v.fst then true else dblB v.fst.snd.fst.snd v.fst.snd.fst.fst) = true)),
  (((bif !isGraphF v.fst then true else dblB v.fst.snd.fst.snd v.fst.snd.fst.fst) = false) → ((!bif !isGraphF v.fst then true else dblB v.fst.snd.fst.snd v.fst.snd.fst.fst) = true)),
  (((!bif bif !isGraphF v.fst then true else dblB v.fst.snd.fst.snd v.fst.snd.fst.fst then true else decide ((↑v.snd.fst.fst : Int) < 2)) = true) → ((!bif bif !isGraphF v.fst then true else dblB v.fst.snd.fst.snd v.fst.snd.fst.fst then true else decide ((↑v.snd.fst.fst : Int) < 2)) = true)),
  (((!bif bif !isGraphF v.fst then true else dblB v.fst.snd.fst.snd v.fst.snd.fst.fst then true else decide ((↑v.snd.fst.fst : Int) < 2)) = true) → ((0 : Nat) < 1)),
  (((!bif bif !isGraphF v.fst then true else dblB v.fst.snd.fst.snd v.fst.snd.fst.fst then true else decide ((↑v.snd.fst.fst : Int) < 2)) = true) → ((!bif bif !isGraphF v.fst then true else dblB v.fst.snd.fst.snd v.fst.snd.fst.fst then true else decide ((↑v.snd.fst.fst : Int) < 2)) = true)),
  (((!bif bif !isGraphF v.fst then true else dblB v.fst.snd.fst.snd v.fst.snd.fst.fst then true else decide ((↑v.snd.fst.fst : Int) < 2)) = true) → ((!bif bif !isGraphF v.fst then true else dblB v.fst.snd.fst.snd v.fst.snd.fst.fst then true else decide ((↑v.snd.fst.fst : Int) < 2)) = true)),
  (((bif bif !isGraphF v.fst then true else dblB v.fst.snd.fst.snd v.fst.snd.fst.fst then true else decide ((↑v.snd.fst.fst : Int) < 2)) = false) → ((!bif bif !isGraphF v.fst then true else dblB v.fst.snd.fst.snd v.fst.snd.fst.fst then true else decide ((↑v.snd.fst.fst : Int) < 2)) = true)),
  (((!bif bif bif !isGraphF v.fst then true else dblB v.fst.snd.fst.snd v.fst.snd.fst.fst then true else decide ((↑v.snd.fst.fst : Int) < 2) then true else decide ((↑v.fst.snd.fst.fst : Int) > 15)) = true) → ((!bif bif bif !isGraphF v.fst then true else dblB v.fst.snd.fst.snd v.fst.snd.fst.fst then true else decide ((↑v.snd.fst.fst : Int) < 2) then true else decide ((↑v.fst.snd.fst.fst : Int) > 15)) = true)),
  (((!bif bif bif !isGraphF v.fst then true else dblB v.fst.snd.fst.snd v.fst.snd.fst.fst then true else decide ((↑v.snd.fst.fst : Int) < 2) then true else decide ((↑v.fst.snd.fst.fst : Int) > 15)) = true) → ((0 : Nat) < 1)),
  (((!bif bif bif !isGraphF v.fst then true else dblB v.fst.snd.fst.snd v.fst.snd.fst.fst then true else decide ((↑v.snd.fst.fst : Int) < 2) then true else decide ((↑v.fst.snd.fst.fst : Int) > 15)) = true) → ((!bif bif bif !isGraphF v.fst then true else dblB v.fst.snd.fst.snd v.fst.snd.fst.fst then true else decide ((↑v.snd.fst.fst : Int) < 2) then true else decide ((↑v.fst.snd.fst.fst : Int) > 15)) = true)),
  (((!bif bif bif !isGraphF v.fst then true else dblB v.fst.snd.fst.snd v.fst.snd.fst.fst then true else decide ((↑v.snd.fst.fst : Int) < 2) then true else decide ((↑v.fst.snd.fst.fst : Int) > 15)) = true) → ((!bif bif bif !isGraphF v.fst then true else dblB v.fst.snd.fst.snd v.fst.snd.fst.fst then true else decide ((↑v.snd.fst.fst : Int) < 2) then true else decide ((↑v.fst.snd.fst.fst : Int) > 15)) = true)),
  (((!bif bif bif !isGraphF v.fst then true else dblB v.fst.snd.fst.snd v.fst.snd.fst.fst then true else decide ((↑v.snd.fst.fst : Int) < 2) then true else decide ((↑v.fst.snd.fst.fst : Int) > 15)) = true) → ((0 : Nat) < 1)),
  (((!bif bif bif !isGraphF v.fst then true else dblB v.fst.snd.fst.snd v.fst.snd.fst.fst then true else decide ((↑v.snd.fst.fst : Int) < 2) then true else decide ((↑v.fst.snd.fst.fst : Int) > 15)) = true) → ((!bif bif bif !isGraphF v.fst then true else dblB v.fst.snd.fst.snd v.fst.snd.fst.fst then true else decide ((↑v.snd.fst.fst : Int) < 2) then true else decide ((↑v.fst.snd.fst.fst : Int) > 15)) = true)),
  (((!bif bif bif !isGraphF v.fst then true else dblB v.fst.snd.fst.snd v.fst.snd.fst.fst then true else decide ((↑v.snd.fst.fst : Int) < 2) then true else decide ((↑v.fst.snd.fst.fst : Int) > 15)) = true) → ((!bif bif bif !isGraphF v.fst then true else dblB v.fst.snd.fst.snd v.fst.snd.fst.fst then true else decide ((↑v.snd.fst.fst : Int) < 2) then true else decide ((↑v.fst.snd.fst.fst : Int) > 15)) = true)),
  (((!bif bif bif !isGraphF v.fst then true else dblB v.fst.snd.fst.snd v.fst.snd.fst.fst then true else decide ((↑v.snd.fst.fst : Int) < 2) then true else decide ((↑v.fst.snd.fst.fst : Int) > 15)) = true) → (((-9223372036854775808) : Int) ≤ (2 * (↑v.snd.fst.fst : Int)))),
  (((!bif bif bif !isGraphF v.fst then true else dblB v.fst.snd.fst.snd v.fst.snd.fst.fst then true else decide ((↑v.snd.fst.fst : Int) < 2) then true else decide ((↑v.fst.snd.fst.fst : Int) > 15)) = true) → (((2 * (↑v.snd.fst.fst : Int)) : Int) ≤ 9223372036854775807)),
  (((!bif bif bif !isGraphF v.fst then true else dblB v.fst.snd.fst.snd v.fst.snd.fst.fst then true else decide ((↑v.snd.fst.fst : Int) < 2) then true else decide ((↑v.fst.snd.fst.fst : Int) > 15)) = true) → ((!bif bif bif !isGraphF v.fst then true else dblB v.fst.snd.fst.snd v.fst.snd.fst.fst then true else decide ((↑v.snd.fst.fst : Int) < 2) then true else decide ((↑v.fst.snd.fst.fst : Int) > 15)) = true)),
  (((!bif bif bif !isGraphF v.fst then true else dblB v.fst.snd.fst.snd v.fst.snd.fst.fst then true else decide ((↑v.snd.fst.fst : Int) < 2) then true else decide ((↑v.fst.snd.fst.fst : Int) > 15)) = true) → ((!bif bif bif !isGraphF v.fst then true else dblB v.fst.snd.fst.snd v.fst.snd.fst.fst then true else decide ((↑v.snd.fst.fst : Int) < 2) then true else decide ((↑v.fst.snd.fst.fst : Int) > 15)) = true)),
  (((!bif bif bif !isGraphF v.fst then true else dblB v.fst.snd.fst.snd v.fst.snd.fst.fst then true else decide ((↑v.snd.fst.fst : Int) < 2) then true else decide ((↑v.fst.snd.fst.fst : Int) > 15)) = true) → (((-9223372036854775808) : Int) ≤ ((↑v.fst.snd.fst.fst : Int) + 2 * (↑v.snd.fst.fst : Int)))),
  (((!bif bif bif !isGraphF v.fst then true else dblB v.fst.snd.fst.snd v.fst.snd.fst.fst then true else decide ((↑v.snd.fst.fst : Int) < 2) then true else decide ((↑v.fst.snd.fst.fst : Int) > 15)) = true) → ((((↑v.fst.snd.fst.fst : Int) + 2 * (↑v.snd.fst.fst : Int)) : Int) ≤ 9223372036854775807)),
  (((!bif bif bif !isGraphF v.fst then true else dblB v.fst.snd.fst.snd v.fst.snd.fst.fst then true else decide ((↑v.snd.fst.fst : Int) < 2) then true else decide ((↑v.fst.snd.fst.fst : Int) > 15)) = true) → ((!bif bif bif !isGraphF v.fst then true else dblB v.fst.snd.fst.snd v.fst.snd.fst.fst then true else decide ((↑v.snd.fst.fst : Int) < 2) then true else decide ((↑v.fst.snd.fst.fst : Int) > 15)) = true)),
  (((!bif bif bif !isGraphF v.fst then true else dblB v.fst.snd.fst.snd v.fst.snd.fst.fst then true else decide ((↑v.snd.fst.fst : Int) < 2) then true else decide ((↑v.fst.snd.fst.fst : Int) > 15)) = true) → (((-9223372036854775808) : Int) ≤ ((↑v.fst.snd.fst.fst : Int) + 2 * (↑v.snd.fst.fst : Int) - 3))),
  (((!bif bif bif !isGraphF v.fst then true else dblB v.fst.snd.fst.snd v.fst.snd.fst.fst then true else decide ((↑v.snd.fst.fst : Int) < 2) then true else decide ((↑v.fst.snd.fst.fst : Int) > 15)) = true) → ((((↑v.fst.snd.fst.fst : Int) + 2 * (↑v.snd.fst.fst : Int) - 3) : Int) ≤ 9223372036854775807)),
  (((!bif bif bif !isGraphF v.fst then true else dblB v.fst.snd.fst.snd v.fst.snd.fst.fst then true else decide ((↑v.snd.fst.fst : Int) < 2) then true else decide ((↑v.fst.snd.fst.fst : Int) > 15)) = true) → ((!bif bif bif !isGraphF v.fst then true else dblB v.fst.snd.fst.snd v.fst.snd.fst.fst then true else decide ((↑v.snd.fst.fst : Int) < 2) then true else decide ((↑v.fst.snd.fst.fst : Int) > 15)) = true)),
  (((bif bif bif !isGraphF v.fst then true else dblB v.fst.snd.fst.snd v.fst.snd.fst.fst then true else decide ((↑v.snd.fst.fst : Int) < 2) then true else decide ((↑v.fst.snd.fst.fst : Int) > 15)) = false) → ((!bif bif bif !isGraphF v.fst then true else dblB v.fst.snd.fst.snd v.fst.snd.fst.fst then true else decide ((↑v.snd.fst.fst : Int) < 2) then true else decide ((↑v.fst.snd.fst.fst : Int) > 15)) = true)),
  ((bif bif bif bif !isGraphF v.fst then true else dblB v.fst.snd.fst.snd v.fst.snd.fst.fst then true else decide ((↑v.snd.fst.fst : Int) < 2) then true else decide ((↑v.fst.snd.fst.fst : Int) > 15) then true else decide ((↑v.fst.snd.fst.fst : Int) + 2 * (↑v.snd.fst.fst : Int) - 3 > 24)) = false),
  ((0 : Nat) < 1),
  (((v.fst.fst) : Int) = (v.fst.fst)),
  (((v.fst.snd.fst.fst) : Nat) = (v.fst.snd.fst.fst)),
  (∀ i : Nat, ((((i) : Nat) < (v.fst.snd.fst.fst)) → (([.int .i64 ((v.fst.snd.fst.snd i).fst), .int .i64 ((v.fst.snd.fst.snd i).snd.fst)] : List PV) = [.int .i64 ((v.fst.snd.fst.snd i).fst), .int .i64 ((v.fst.snd.fst.snd i).snd.fst)]))),
  (((v.snd.fst.fst) : Nat) = (v.snd.fst.fst)),
  (∀ i : Nat, ((((i) : Nat) < (v.snd.fst.fst)) → (([.int .i64 (v.snd.fst.snd i)] : List PV) = [.int .i64 (v.snd.fst.snd i)]))),
  ((0 : Nat) = 0),
  ((0 : Nat) = 0),
  (((v.snd.fst.fst) : Nat) = (v.snd.fst.fst)),
  (∀ i : Nat, ((((i) : Nat) < (v.snd.fst.fst)) → (([.int .i64 (v.snd.fst.snd i)] : List PV) = [.int .i64 (v.snd.fst.snd i)]))),
  ((((↑v.snd.fst.fst : Int)) : Int) = ((↑v.snd.fst.fst : Int))),
  ((0 : Int) = ((↑0 : Int))),
  ((([AV.p (PV.int IntKind.i64 v.fst.fst), graphL v.fst.snd.fst, inL v.snd.fst].length) : Nat) = 3),
  ((1 : Nat) ≤ 1),
  ((1 : Nat) ≤ 1),
  (((v.fst.fst) : Int) = (v.fst.fst)),
  (((v.fst.snd.fst.fst) : Nat) = (v.fst.snd.fst.fst)),
  (∀ i : Nat, ((((i) : Nat) < (v.fst.snd.fst.fst)) → (([.int .i64 ((v.fst.snd.fst.snd i).fst), .int .i64 ((v.fst.snd.fst.snd i).snd.fst)] : List PV) = [.int .i64 ((v.fst.snd.fst.snd i).fst), .int .i64 ((v.fst.snd.fst.snd i).snd.fst)]))),
  (((v.snd.fst.fst) : Nat) = (v.snd.fst.fst)),
  (∀ i : Nat, ((((i) : Nat) < (v.snd.fst.fst)) → (([.int .i64 (v.snd.fst.snd i)] : List PV) = [.int .i64 (v.snd.fst.snd i)]))),
  ((((List.map (fun v => AV.p (absV v)) [Value.int IntKind.i64 0, Value.slice none 0 0]).length) : Nat) = 2),
  ((1 : Nat) ≤ 1),
  ((1 : Nat) ≤ 1),
  (((v.fst.fst) : Int) = (v.fst.fst)),
  (((v.fst.snd.fst.fst) : Nat) = (v.fst.snd.fst.fst)),
  (∀ i : Nat, ((((i) : Nat) < (v.fst.snd.fst.fst)) → (([.int .i64 ((v.fst.snd.fst.snd i).fst), .int .i64 ((v.fst.snd.fst.snd i).snd.fst)] : List PV) = [.int .i64 ((v.fst.snd.fst.snd i).fst), .int .i64 ((v.fst.snd.fst.snd i).snd.fst)])))]) := by kernel_rfl
theorem p57b (v : T_Pinned) (k : Nat) :
    pieceOb Try.prog 0 [.reg [oT], .dec true, .reg [oT, oT, oT, oT, oT], .reg [oT, oT, ⟨true, (some ⟨[], [], 1, [], .p (.bool (inB (v.2.1.2 k) 0 (v.1.1 - 1)))⟩), none⟩, oT, oT, oT, oT, oT, oT, oT, oT, oT, oT, oT, oT, oT, oT, oT], .dec false, .reg [oT, oT], .head] [.code (cAt (bodyOf Try.f52) [1, 1, 1, 0, 1, 0, 0]), .inLoop (cAt (bodyOf Try.f52) [1, 1, 1, 0, 1, 0, 0]), .inBlock 0, .code (cAt (bodyOf Try.f52) [1, 1, 1, 1])] (S57a v k) [0, 1] 1 (S57a v (k + 1)) =
    some ([.code (cAt (bodyOf Try.f52) [1, 1, 1, 0, 1, 0, 0]), .inLoop (cAt (bodyOf Try.f52) [1, 1, 1, 0, 1, 0, 0]), .inBlock 0, .code (cAt (bodyOf Try.f52) [1, 1, 1, 1])], [((decide ((↑k : Int) < (↑v.snd.fst.fst : Int))) = true),
  ((0 : Int) ≤ ((↑k : Int))),
  ((((↑k : Int)) : Int) < ((↑v.snd.fst.fst : Int))),
  ((0 : Nat) < 1),
  Con (Try.prog) 101 0 [] [.agg [.p (.int .i64 (v.fst.fst)), .p (.seq true 2 (v.fst.snd.fst.fst) (fun i => [.int .i64 ((v.fst.snd.fst.snd i).fst), .int .i64 ((v.fst.snd.fst.snd i).snd.fst)]))], .p (.int .i64 (v.snd.fst.snd k))] [] (.p (.bool (inB (v.snd.fst.snd k) 0 (v.fst.fst - 1)))),
  (((!!inB (v.snd.fst.snd k) 0 (v.fst.fst - 1)) = true) → ((!!inB (v.snd.fst.snd k) 0 (v.fst.fst - 1)) = true)),
  (((!!inB (v.snd.fst.snd k) 0 (v.fst.fst - 1)) = true) → ((!!inB (v.snd.fst.snd k) 0 (v.fst.fst - 1)) = true)),
  (((!!inB (v.snd.fst.snd k) 0 (v.fst.fst - 1) && decide ((↑k : Int) > 0)) = true) → ((!!inB (v.snd.fst.snd k) 0 (v.fst.fst - 1) && decide ((↑k : Int) > 0)) = true)),
  (((!!inB (v.snd.fst.snd k) 0 (v.fst.fst - 1) && decide ((↑k : Int) > 0)) = true) → ((0 : Nat) < 1)),
  (((!!inB (v.snd.fst.snd k) 0 (v.fst.fst - 1) && decide ((↑k : Int) > 0)) = true) → ((!!inB (v.snd.fst.snd k) 0 (v.fst.fst - 1) && decide ((↑k : Int) > 0)) = true)),
  (((!!inB (v.snd.fst.snd k) 0 (v.fst.fst - 1) && decide ((↑k : Int) > 0)) = true) → (((-9223372036854775808) : Int) ≤ ((↑k : Int) - 1))),
  (((!!inB (v.snd.fst.snd k) 0 (v.fst.fst - 1) && decide ((↑k : Int) > 0)) = true) → ((((↑k : Int) - 1) : Int) ≤ 9223372036854775807)),
  (((!!inB (v.snd.fst.snd k) 0 (v.fst.fst - 1) && decide ((↑k : Int) > 0)) = true) → ((!!inB (v.snd.fst.snd k) 0 (v.fst.fst - 1) && decide ((↑k : Int) > 0)) = true)),
  (((!!inB (v.snd.fst.snd k) 0 (v.fst.fst - 1) && decide ((↑k : Int) > 0)) = true) → ((!!inB (v.snd.fst.snd k) 0 (v.fst.fst - 1) && decide ((↑k : Int) > 0)) = true)),
  (((!!inB (v.snd.fst.snd k) 0 (v.fst.fst - 1) && decide ((↑k : Int) > 0)) = true) → ((0 : Int) ≤ ((↑k : Int) - 1))),
  (((!!inB (v.snd.fst.snd k) 0 (v.fst.fst - 1) && decide ((↑k : Int) > 0)) = true) → ((((↑k : Int) - 1) : Int) < ((↑v.snd.fst.fst : Int)))),
  (((!!inB (v.snd.fst.snd k) 0 (v.fst.fst - 1) && decide ((↑k : Int) > 0)) = true) → ((!!inB (v.snd.fst.snd k) 0 (v.fst.fst - 1) && decide ((↑k : Int) > 0)) = true)),
  (((!!inB (v.snd.fst.snd k) 0 (v.fst.fst - 1) && decide ((↑k : Int) > 0)) = true) → ((!!inB (v.snd.fst.snd k) 0 (v.fst.fst - 1) && decide ((↑k : Int) > 0)) = true)),
  (((!!inB (v.snd.fst.snd k) 0 (v.fst.fst - 1) && decide ((↑k : Int) > 0)) = true) → ((!!inB (v.snd.fst.snd k) 0 (v.fst.fst - 1) && decide ((↑k : Int) > 0)) = true)),
  (((!!inB (v.snd.fst.snd k) 0 (v.fst.fst - 1)) = true) → ((!!inB (v.snd.fst.snd k) 0 (v.fst.fst - 1)) = true)),
  (((!!inB (v.snd.fst.snd k) 0 (v.fst.fst - 1)) = true) → (((decide ((↑k : Int) > 0)) = true) → ((!!inB (v.snd.fst.snd k) 0 (v.fst.fst - 1) && decide ((↑k : Int) > 0)) = true))),
  (((!inB (v.snd.fst.snd k) 0 (v.fst.fst - 1)) = false) → ((!!inB (v.snd.fst.snd k) 0 (v.fst.fst - 1)) = true)),
  ((bif !inB (v.snd.fst.snd k) 0 (v.fst.fst - 1) then true else bif decide ((↑k : Int) > 0) then decide (v.snd.fst.snd ((↑k : Int) - 1).toNat ≥ v.snd.fst.snd (↑k : Int).toNat) else false) = false),
  (((-9223372036854775808) : Int) ≤ ((↑k : Int) + 1)),
  ((((↑k : Int) + 1) : Int) ≤ 9223372036854775807),
  (((v.fst.fst) : Int) = (v.fst.fst)),
  (((v.fst.snd.fst.fst) : Nat) = (v.fst.snd.fst.fst)),
  (∀ i : Nat, ((((i) : Nat) < (v.fst.snd.fst.fst)) → (([.int .i64 ((v.fst.snd.fst.snd i).fst), .int .i64 ((v.fst.snd.fst.snd i).snd.fst)] : List PV) = [.int .i64 ((v.fst.snd.fst.snd i).fst), .int .i64 ((v.fst.snd.fst.snd i).snd.fst)]))),
  (((v.snd.fst.fst) : Nat) = (v.snd.fst.fst)),
  (∀ i : Nat, ((((i) : Nat) < (v.snd.fst.fst)) → (([.int .i64 (v.snd.fst.snd i)] : List PV) = [.int .i64 (v.snd.fst.snd i)]))),
  ((0 : Nat) = 0),
  ((0 : Nat) = 0),
  (((v.snd.fst.fst) : Nat) = (v.snd.fst.fst)),
  (∀ i : Nat, ((((i) : Nat) < (v.snd.fst.fst)) → (([.int .i64 (v.snd.fst.snd i)] : List PV) = [.int .i64 (v.snd.fst.snd i)]))),
  ((((↑v.snd.fst.fst : Int)) : Int) = ((↑v.snd.fst.fst : Int))),
  ((((↑k : Int) + 1) : Int) = ((↑(k + 1) : Int))),
  ((3 : Nat) = 3),
  ((1 : Nat) ≤ 1),
  ((1 : Nat) ≤ 1),
  (((v.fst.fst) : Int) = (v.fst.fst)),
  (((v.fst.snd.fst.fst) : Nat) = (v.fst.snd.fst.fst)),
  (∀ i : Nat, ((((i) : Nat) < (v.fst.snd.fst.fst)) → (([.int .i64 ((v.fst.snd.fst.snd i).fst), .int .i64 ((v.fst.snd.fst.snd i).snd.fst)] : List PV) = [.int .i64 ((v.fst.snd.fst.snd i).fst), .int .i64 ((v.fst.snd.fst.snd i).snd.fst)]))),
  (((v.snd.fst.fst) : Nat) = (v.snd.fst.fst)),
  (∀ i : Nat, ((((i) : Nat) < (v.snd.fst.fst)) → (([.int .i64 (v.snd.fst.snd i)] : List PV) = [.int .i64 (v.snd.fst.snd i)]))),
  ((2 : Nat) = 2),
  ((1 : Nat) ≤ 1),
  ((1 : Nat) ≤ 1),
  (((v.fst.fst) : Int) = (v.fst.fst)),
  (((v.fst.snd.fst.fst) : Nat) = (v.fst.snd.fst.fst)),
  (∀ i : Nat, ((((i) : Nat) < (v.fst.snd.fst.fst)) → (([.int .i64 ((v.fst.snd.fst.snd i).fst), .int .i64 ((v.fst.snd.fst.snd i).snd.fst)] : List PV) = [.int .i64 ((v.fst.snd.fst.snd i).fst), .int .i64 ((v.fst.snd.fst.snd i).snd.fst)])))]) := by kernel_rfl
theorem p57c (v : T_Pinned) (k : Nat) :
    pathOb Try.prog Try.f52 0 [.reg [oT], .dec true, .reg [oT, oT, oT, oT, oT], .reg [oT, oT, ⟨true, (some ⟨[], [], 1, [], .p (.bool (inB (v.2.1.2 k) 0 (v.1.1 - 1)))⟩), none⟩, oT, oT, oT, oT, oT, oT, oT, oT, oT, oT, oT, oT, oT, oT, oT], .dec true, .reg [oT]] [.code (cAt (bodyOf Try.f52) [1, 1, 1, 0, 1, 0, 0]), .inLoop (cAt (bodyOf Try.f52) [1, 1, 1, 0, 1, 0, 0]), .inBlock 0, .code (cAt (bodyOf Try.f52) [1, 1, 1, 1])] (S57a v k) [] 1 [] (.p (.bool false)) =
    some [((decide ((↑k : Int) < (↑v.snd.fst.fst : Int))) = true),
  ((0 : Int) ≤ ((↑k : Int))),
  ((((↑k : Int)) : Int) < ((↑v.snd.fst.fst : Int))),
  ((0 : Nat) < 1),
  Con (Try.prog) 101 0 [] [.agg [.p (.int .i64 (v.fst.fst)), .p (.seq true 2 (v.fst.snd.fst.fst) (fun i => [.int .i64 ((v.fst.snd.fst.snd i).fst), .int .i64 ((v.fst.snd.fst.snd i).snd.fst)]))], .p (.int .i64 (v.snd.fst.snd k))] [] (.p (.bool (inB (v.snd.fst.snd k) 0 (v.fst.fst - 1)))),
  (((!!inB (v.snd.fst.snd k) 0 (v.fst.fst - 1)) = true) → ((!!inB (v.snd.fst.snd k) 0 (v.fst.fst - 1)) = true)),
  (((!!inB (v.snd.fst.snd k) 0 (v.fst.fst - 1)) = true) → ((!!inB (v.snd.fst.snd k) 0 (v.fst.fst - 1)) = true)),
  (((!!inB (v.snd.fst.snd k) 0 (v.fst.fst - 1) && decide ((↑k : Int) > 0)) = true) → ((!!inB (v.snd.fst.snd k) 0 (v.fst.fst - 1) && decide ((↑k : Int) > 0)) = true)),
  (((!!inB (v.snd.fst.snd k) 0 (v.fst.fst - 1) && decide ((↑k : Int) > 0)) = true) → ((0 : Nat) < 1)),
  (((!!inB (v.snd.fst.snd k) 0 (v.fst.fst - 1) && decide ((↑k : Int) > 0)) = true) → ((!!inB (v.snd.fst.snd k) 0 (v.fst.fst - 1) && decide ((↑k : Int) > 0)) = true)),
  (((!!inB (v.snd.fst.snd k) 0 (v.fst.fst - 1) && decide ((↑k : Int) > 0)) = true) → (((-9223372036854775808) : Int) ≤ ((↑k : Int) - 1))),
  (((!!inB (v.snd.fst.snd k) 0 (v.fst.fst - 1) && decide ((↑k : Int) > 0)) = true) → ((((↑k : Int) - 1) : Int) ≤ 9223372036854775807)),
  (((!!inB (v.snd.fst.snd k) 0 (v.fst.fst - 1) && decide ((↑k : Int) > 0)) = true) → ((!!inB (v.snd.fst.snd k) 0 (v.fst.fst - 1) && decide ((↑k : Int) > 0)) = true)),
  (((!!inB (v.snd.fst.snd k) 0 (v.fst.fst - 1) && decide ((↑k : Int) > 0)) = true) → ((!!inB (v.snd.fst.snd k) 0 (v.fst.fst - 1) && decide ((↑k : Int) > 0)) = true)),
  (((!!inB (v.snd.fst.snd k) 0 (v.fst.fst - 1) && decide ((↑k : Int) > 0)) = true) → ((0 : Int) ≤ ((↑k : Int) - 1))),
  (((!!inB (v.snd.fst.snd k) 0 (v.fst.fst - 1) && decide ((↑k : Int) > 0)) = true) → ((((↑k : Int) - 1) : Int) < ((↑v.snd.fst.fst : Int)))),
  (((!!inB (v.snd.fst.snd k) 0 (v.fst.fst - 1) && decide ((↑k : Int) > 0)) = true) → ((!!inB (v.snd.fst.snd k) 0 (v.fst.fst - 1) && decide ((↑k : Int) > 0)) = true)),
  (((!!inB (v.snd.fst.snd k) 0 (v.fst.fst - 1) && decide ((↑k : Int) > 0)) = true) → ((!!inB (v.snd.fst.snd k) 0 (v.fst.fst - 1) && decide ((↑k : Int) > 0)) = true)),
  (((!!inB (v.snd.fst.snd k) 0 (v.fst.fst - 1) && decide ((↑k : Int) > 0)) = true) → ((!!inB (v.snd.fst.snd k) 0 (v.fst.fst - 1) && decide ((↑k : Int) > 0)) = true)),
  (((!!inB (v.snd.fst.snd k) 0 (v.fst.fst - 1)) = true) → ((!!inB (v.snd.fst.snd k) 0 (v.fst.fst - 1)) = true)),
  (((!!inB (v.snd.fst.snd k) 0 (v.fst.fst - 1)) = true) → (((decide ((↑k : Int) > 0)) = true) → ((!!inB (v.snd.fst.snd k) 0 (v.fst.fst - 1) && decide ((↑k : Int) > 0)) = true))),
  (((!inB (v.snd.fst.snd k) 0 (v.fst.fst - 1)) = false) → ((!!inB (v.snd.fst.snd k) 0 (v.fst.fst - 1)) = true)),
  ((bif !inB (v.snd.fst.snd k) 0 (v.fst.fst - 1) then true else bif decide ((↑k : Int) > 0) then decide (v.snd.fst.snd ((↑k : Int) - 1).toNat ≥ v.snd.fst.snd (↑k : Int).toNat) else false) = true),
  (false = false)] := by kernel_rfl
theorem p57d (v : T_Pinned) (k : Nat) :
    pieceOb Try.prog 0 [.reg [oT], .dec false, .reg [oT, oT, oT, oT], .head] [.code (cAt (bodyOf Try.f52) [1, 1, 1, 0, 1, 0, 0]), .inLoop (cAt (bodyOf Try.f52) [1, 1, 1, 0, 1, 0, 0]), .inBlock 0, .code (cAt (bodyOf Try.f52) [1, 1, 1, 1])] (S57a v k) [0] 1 (S57b v 0) =
    some ([.code (cAt (bodyOf Try.f52) [1, 1, 1, 1, 0, 1, 0, 0]), .inLoop (cAt (bodyOf Try.f52) [1, 1, 1, 1, 0, 1, 0, 0]), .inBlock 2, .code (cAt (bodyOf Try.f52) [1, 1, 1, 1, 1])], [((decide ((↑k : Int) < (↑v.snd.fst.fst : Int))) = false),
  ((0 : Nat) < 1),
  (((v.fst.fst) : Int) = (v.fst.fst)),
  (((v.fst.snd.fst.fst) : Nat) = (v.fst.snd.fst.fst)),
  (∀ i : Nat, ((((i) : Nat) < (v.fst.snd.fst.fst)) → (([.int .i64 ((v.fst.snd.fst.snd i).fst), .int .i64 ((v.fst.snd.fst.snd i).snd.fst)] : List PV) = [.int .i64 ((v.fst.snd.fst.snd i).fst), .int .i64 ((v.fst.snd.fst.snd i).snd.fst)]))),
  (((v.snd.fst.fst) : Nat) = (v.snd.fst.fst)),
  (∀ i : Nat, ((((i) : Nat) < (v.snd.fst.fst)) → (([.int .i64 (v.snd.fst.snd i)] : List PV) = [.int .i64 (v.snd.fst.snd i)]))),
  ((0 : Nat) = 0),
  (((v.fst.snd.fst.fst) : Nat) = (v.fst.snd.fst.fst)),
  (∀ i : Nat, ((((i) : Nat) < (v.fst.snd.fst.fst)) → (([.int .i64 ((v.fst.snd.fst.snd i).fst), .int .i64 ((v.fst.snd.fst.snd i).snd.fst)] : List PV) = [.int .i64 ((v.fst.snd.fst.snd i).fst), .int .i64 ((v.fst.snd.fst.snd i).snd.fst)]))),
  ((((↑v.fst.snd.fst.fst : Int)) : Int) = ((↑v.fst.snd.fst.fst : Int))),
  ((0 : Int) = ((↑0 : Int))),
  ((3 : Nat) = 3),
  ((1 : Nat) ≤ 1),
  ((1 : Nat) ≤ 1),
  (((v.fst.fst) : Int) = (v.fst.fst)),
  (((v.fst.snd.fst.fst) : Nat) = (v.fst.snd.fst.fst)),
  (∀ i : Nat, ((((i) : Nat) < (v.fst.snd.fst.fst)) → (([.int .i64 ((v.fst.snd.fst.snd i).fst), .int .i64 ((v.fst.snd.fst.snd i).snd.fst)] : List PV) = [.int .i64 ((v.fst.snd.fst.snd i).fst), .int .i64 ((v.fst.snd.fst.snd i).snd.fst)]))),
  (((v.snd.fst.fst) : Nat) = (v.snd.fst.fst)),
  (∀ i : Nat, ((((i) : Nat) < (v.snd.fst.fst)) → (([.int .i64 (v.snd.fst.snd i)] : List PV) = [.int .i64 (v.snd.fst.snd i)])))]) := by kernel_rfl
theorem p57e (v : T_Pinned) (k : Nat) :
    pieceOb Try.prog 0 [.reg [oT], .dec true, .reg [oT, oT, oT, oT], .reg [oT, oT, oT, oT, ⟨true, (some ⟨[], [], 1, [], .p (.bool (hasI v.2.1.2 (v.1.2.1.2 k).1 v.2.1.1))⟩), none⟩, oT, oT, oT, oT, oT, ⟨true, (some ⟨[], [], 1, [], .p (.bool (hasI v.2.1.2 (v.1.2.1.2 k).2.1 v.2.1.1))⟩), none⟩, oT], .dec false, .reg [oT, oT], .head] [.code (cAt (bodyOf Try.f52) [1, 1, 1, 1, 0, 1, 0, 0]), .inLoop (cAt (bodyOf Try.f52) [1, 1, 1, 1, 0, 1, 0, 0]), .inBlock 2, .code (cAt (bodyOf Try.f52) [1, 1, 1, 1, 1])] (S57b v k) [0] 1 (S57b v (k + 1)) =
    some ([.code (cAt (bodyOf Try.f52) [1, 1, 1, 1, 0, 1, 0, 0]), .inLoop (cAt (bodyOf Try.f52) [1, 1, 1, 1, 0, 1, 0, 0]), .inBlock 2, .code (cAt (bodyOf Try.f52) [1, 1, 1, 1, 1])], [((decide ((↑k : Int) < (↑v.fst.snd.fst.fst : Int))) = true),
  ((0 : Int) ≤ ((↑k : Int))),
  ((((↑k : Int)) : Int) < ((↑v.fst.snd.fst.fst : Int))),
  ((0 : Nat) < 1),
  (((true) = true) → ((1 : Nat) = 1)),
  ((0 : Nat) < 1),
  ((0 : Nat) < 1),
  Con (Try.prog) 83 0 [] [.p (.seq true 1 (v.snd.fst.fst) (fun i => [.int .i64 (v.snd.fst.snd i)])), .p (.int .i64 ((v.fst.snd.fst.snd k).fst))] [] (.p (.bool (hasI v.snd.fst.snd (v.fst.snd.fst.snd k).fst v.snd.fst.fst))),
  (((hasI v.snd.fst.snd (v.fst.snd.fst.snd k).fst v.snd.fst.fst) = true) → ((hasI v.snd.fst.snd (v.fst.snd.fst.snd k).fst v.snd.fst.fst) = true)),
  (((hasI v.snd.fst.snd (v.fst.snd.fst.snd k).fst v.snd.fst.fst) = true) → ((0 : Nat) < 1)),
  (((hasI v.snd.fst.snd (v.fst.snd.fst.snd k).fst v.snd.fst.fst) = true) → ((hasI v.snd.fst.snd (v.fst.snd.fst.snd k).fst v.snd.fst.fst) = true)),
  (((hasI v.snd.fst.snd (v.fst.snd.fst.snd k).fst v.snd.fst.fst) = true) → ((0 : Nat) < 1)),
  (((hasI v.snd.fst.snd (v.fst.snd.fst.snd k).fst v.snd.fst.fst) = true) → ((hasI v.snd.fst.snd (v.fst.snd.fst.snd k).fst v.snd.fst.fst) = true)),
  (((hasI v.snd.fst.snd (v.fst.snd.fst.snd k).fst v.snd.fst.fst) = true) → ((hasI v.snd.fst.snd (v.fst.snd.fst.snd k).fst v.snd.fst.fst) = true)),
  (((hasI v.snd.fst.snd (v.fst.snd.fst.snd k).fst v.snd.fst.fst) = true) → Con (Try.prog) 83 0 [] [.p (.seq true 1 (v.snd.fst.fst) (fun i => [.int .i64 (v.snd.fst.snd i)])), .p (.int .i64 ((v.fst.snd.fst.snd k).snd.fst))] [] (.p (.bool (hasI v.snd.fst.snd (v.fst.snd.fst.snd k).snd.fst v.snd.fst.fst)))),
  (((hasI v.snd.fst.snd (v.fst.snd.fst.snd k).fst v.snd.fst.fst) = true) → ((hasI v.snd.fst.snd (v.fst.snd.fst.snd k).fst v.snd.fst.fst) = true)),
  ((bif hasI v.snd.fst.snd (v.fst.snd.fst.snd k).fst v.snd.fst.fst then hasI v.snd.fst.snd (v.fst.snd.fst.snd k).snd.fst v.snd.fst.fst else false) = false),
  (((-9223372036854775808) : Int) ≤ ((↑k : Int) + 1)),
  ((((↑k : Int) + 1) : Int) ≤ 9223372036854775807),
  (((v.fst.fst) : Int) = (v.fst.fst)),
  (((v.fst.snd.fst.fst) : Nat) = (v.fst.snd.fst.fst)),
  (∀ i : Nat, ((((i) : Nat) < (v.fst.snd.fst.fst)) → (([.int .i64 ((v.fst.snd.fst.snd i).fst), .int .i64 ((v.fst.snd.fst.snd i).snd.fst)] : List PV) = [.int .i64 ((v.fst.snd.fst.snd i).fst), .int .i64 ((v.fst.snd.fst.snd i).snd.fst)]))),
  (((v.snd.fst.fst) : Nat) = (v.snd.fst.fst)),
  (∀ i : Nat, ((((i) : Nat) < (v.snd.fst.fst)) → (([.int .i64 (v.snd.fst.snd i)] : List PV) = [.int .i64 (v.snd.fst.snd i)]))),
  ((0 : Nat) = 0),
  (((v.fst.snd.fst.fst) : Nat) = (v.fst.snd.fst.fst)),
  (∀ i : Nat, ((((i) : Nat) < (v.fst.snd.fst.fst)) → (([.int .i64 ((v.fst.snd.fst.snd i).fst), .int .i64 ((v.fst.snd.fst.snd i).snd.fst)] : List PV) = [.int .i64 ((v.fst.snd.fst.snd i).fst), .int .i64 ((v.fst.snd.fst.snd i).snd.fst)]))),
  ((((↑v.fst.snd.fst.fst : Int)) : Int) = ((↑v.fst.snd.fst.fst : Int))),
  ((((↑k : Int) + 1) : Int) = ((↑(k + 1) : Int))),
  ((3 : Nat) = 3),
  ((1 : Nat) ≤ 1),
  ((1 : Nat) ≤ 1),
  (((v.fst.fst) : Int) = (v.fst.fst)),
  (((v.fst.snd.fst.fst) : Nat) = (v.fst.snd.fst.fst)),
  (∀ i : Nat, ((((i) : Nat) < (v.fst.snd.fst.fst)) → (([.int .i64 ((v.fst.snd.fst.snd i).fst), .int .i64 ((v.fst.snd.fst.snd i).snd.fst)] : List PV) = [.int .i64 ((v.fst.snd.fst.snd i).fst), .int .i64 ((v.fst.snd.fst.snd i).snd.fst)]))),
  (((v.snd.fst.fst) : Nat) = (v.snd.fst.fst)),
  (∀ i : Nat, ((((i) : Nat) < (v.snd.fst.fst)) → (([.int .i64 (v.snd.fst.snd i)] : List PV) = [.int .i64 (v.snd.fst.snd i)])))]) := by kernel_rfl
theorem p57f (v : T_Pinned) (k : Nat) :
    pathOb Try.prog Try.f52 0 [.reg [oT], .dec true, .reg [oT, oT, oT, oT], .reg [oT, oT, oT, oT, ⟨true, (some ⟨[], [], 1, [], .p (.bool (hasI v.2.1.2 (v.1.2.1.2 k).1 v.2.1.1))⟩), none⟩, oT, oT, oT, oT, oT, ⟨true, (some ⟨[], [], 1, [], .p (.bool (hasI v.2.1.2 (v.1.2.1.2 k).2.1 v.2.1.1))⟩), none⟩, oT], .dec true, .reg [oT]] [.code (cAt (bodyOf Try.f52) [1, 1, 1, 1, 0, 1, 0, 0]), .inLoop (cAt (bodyOf Try.f52) [1, 1, 1, 1, 0, 1, 0, 0]), .inBlock 2, .code (cAt (bodyOf Try.f52) [1, 1, 1, 1, 1])] (S57b v k) [] 1 [] (.p (.bool false)) =
    some [((decide ((↑k : Int) < (↑v.fst.snd.fst.fst : Int))) = true),
  ((0 : Int) ≤ ((↑k : Int))),
  ((((↑k : Int)) : Int) < ((↑v.fst.snd.fst.fst : Int))),
  ((0 : Nat) < 1),
  (((true) = true) → ((1 : Nat) = 1)),
  ((0 : Nat) < 1),
  ((0 : Nat) < 1),
  Con (Try.prog) 83 0 [] [.p (.seq true 1 (v.snd.fst.fst) (fun i => [.int .i64 (v.snd.fst.snd i)])), .p (.int .i64 ((v.fst.snd.fst.snd k).fst))] [] (.p (.bool (hasI v.snd.fst.snd (v.fst.snd.fst.snd k).fst v.snd.fst.fst))),
  (((hasI v.snd.fst.snd (v.fst.snd.fst.snd k).fst v.snd.fst.fst) = true) → ((hasI v.snd.fst.snd (v.fst.snd.fst.snd k).fst v.snd.fst.fst) = true)),
  (((hasI v.snd.fst.snd (v.fst.snd.fst.snd k).fst v.snd.fst.fst) = true) → ((0 : Nat) < 1)),
  (((hasI v.snd.fst.snd (v.fst.snd.fst.snd k).fst v.snd.fst.fst) = true) → ((hasI v.snd.fst.snd (v.fst.snd.fst.snd k).fst v.snd.fst.fst) = true)),
  (((hasI v.snd.fst.snd (v.fst.snd.fst.snd k).fst v.snd.fst.fst) = true) → ((0 : Nat) < 1)),
  (((hasI v.snd.fst.snd (v.fst.snd.fst.snd k).fst v.snd.fst.fst) = true) → ((hasI v.snd.fst.snd (v.fst.snd.fst.snd k).fst v.snd.fst.fst) = true)),
  (((hasI v.snd.fst.snd (v.fst.snd.fst.snd k).fst v.snd.fst.fst) = true) → ((hasI v.snd.fst.snd (v.fst.snd.fst.snd k).fst v.snd.fst.fst) = true)),
  (((hasI v.snd.fst.snd (v.fst.snd.fst.snd k).fst v.snd.fst.fst) = true) → Con (Try.prog) 83 0 [] [.p (.seq true 1 (v.snd.fst.fst) (fun i => [.int .i64 (v.snd.fst.snd i)])), .p (.int .i64 ((v.fst.snd.fst.snd k).snd.fst))] [] (.p (.bool (hasI v.snd.fst.snd (v.fst.snd.fst.snd k).snd.fst v.snd.fst.fst)))),
  (((hasI v.snd.fst.snd (v.fst.snd.fst.snd k).fst v.snd.fst.fst) = true) → ((hasI v.snd.fst.snd (v.fst.snd.fst.snd k).fst v.snd.fst.fst) = true)),
  ((bif hasI v.snd.fst.snd (v.fst.snd.fst.snd k).fst v.snd.fst.fst then hasI v.snd.fst.snd (v.fst.snd.fst.snd k).snd.fst v.snd.fst.fst else false) = true),
  (false = false)] := by kernel_rfl
theorem p57g (v : T_Pinned) (k : Nat) :
    pathOb Try.prog Try.f52 0 [.reg [oT], .dec false, .reg [oT]] [.code (cAt (bodyOf Try.f52) [1, 1, 1, 1, 0, 1, 0, 0]), .inLoop (cAt (bodyOf Try.f52) [1, 1, 1, 1, 0, 1, 0, 0]), .inBlock 2, .code (cAt (bodyOf Try.f52) [1, 1, 1, 1, 1])] (S57b v k) [] 1 [] (.p (.bool true)) =
    some [((decide ((↑k : Int) < (↑v.fst.snd.fst.fst : Int))) = false),
  (true = true)] := by kernel_rfl

theorem dge (a b : Int) : decide (a ≥ b) = !decide (a < b) := by
  by_cases h : a < b
  · have : ¬ (a ≥ b) := by omega
    rw [decide_eq_true h, decide_eq_false this]; rfl
  · have : a ≥ b := by omega
    rw [decide_eq_false h, decide_eq_true this]; rfl

theorem dle (a b : Int) : decide (a ≤ b) = !decide (a > b) := dge b a

theorem headP_tail (v : T_Pinned) : headP v = !tailP v := by
  unfold headP tailP simpleF
  rw [dge, dle, dle]
  generalize decide ((v.2.1.1 : Int) < 2) = x
  generalize decide ((v.1.2.1.1 : Int) > 15) = y
  generalize decide ((v.1.2.1.1 : Int) + 2 * (v.2.1.1 : Int) - 3 > 24) = z
  cases isGraphF v.1 <;> cases dblB v.1.2.1.2 v.1.2.1.1 <;> cases x <;> cases y <;> cases z <;> rfl

theorem bad_in (N : Int) (g : Nat → Int) (k : Nat) {b : Bool} (h : badP N g k = b) :
    (bif !inB (g k) 0 (N - 1) then true else bif decide ((k : Int) > 0) then decide (g ((k : Int) - 1).toNat ≥ g k) else false) = b := by
  rw [← h]
  unfold badP inB
  by_cases h1 : g k < 0
  · have h2 : ¬ (0 ≤ g k) := by omega
    simp [h1, h2]
  · have h2 : 0 ≤ g k := by omega
    by_cases h3 : g k ≥ N
    · have h4 : ¬ (g k ≤ N - 1) := by omega
      simp [h1, h2, h3, h4]
    · have h4 : g k ≤ N - 1 := by omega
      simp [h1, h2, h3, h4]

theorem con_IsPinned_i (v : T_Pinned) (hs : smS s_Pinned v) : Con Try.prog 52 0 [] [pinA v] [] (.p (.bool (pinnedF v))) := by
  refine con_start Try.func52 rfl (by kernel_rfl) rfl (fun c hc => ?_)
  have hg : smS s_Graph v.1 := hs.1
  have hnb : v.1.2.1.1 ≤ 1048576 := hs.1.2.1.1
  have hni : v.2.1.1 ≤ 1048576 := hs.2.1.1
  cases ht : headP v with
  | true =>
    rw [show pinnedF v = false by rw [pinnedF, show tailP v = false by have := headP_tail v; rw [ht] at this; simpa using this]; simp]
    have ht' := ht
    unfold headP at ht'
    refine path_ok mixed Try.func52 hc (p57z v) ?_
    simp only [All]
    repeat' (first | exact trivial | with_reducible apply And.intro)
    all_goals (first | omega | rfl | (intros; first | assumption | exact True.intro | rfl | exact absurd (show false = true by assumption) Bool.false_ne_true | ((repeat' (first | assumption | apply anda | apply notf)); done)) | (exact con_IsGraph_i v.1 hg) | (exact con_hasDoubles v.1 hg) | (intros; exact con_hasDoubles v.1 hg) | (intro h; simpa using h) | (exact ht'))
  | false =>
  have htl : tailP v = true := by have := headP_tail v; rw [ht] at this; simpa using this
  have ht' := ht
  unfold headP at ht'
  have hgr : isGraphF v.1 = true := by
    cases e : isGraphF v.1 with
    | true => rfl
    | false => rw [tailP, simpleF, e] at htl; simp at htl
  have hN : inB v.1.1 1 8 = true := by
    unfold isGraphF at hgr
    split at hgr
    · next h => exact h.1
    · cases hgr
  have hN1 : 1 ≤ v.1.1 ∧ v.1.1 ≤ 8 := by simpa [inB] using hN
  have lp2 : goodP v.1.1 v.2.1.2 v.2.1.1 = true → ∀ m k, k + m = v.1.2.1.1 → freeP v.2.1 v.1.2.1.2 k = true → Run Try.prog c 52 [.code (cAt (bodyOf Try.f52) [1, 1, 1, 1, 0, 1, 0, 0]), .inLoop (cAt (bodyOf Try.f52) [1, 1, 1, 1, 0, 1, 0, 0]), .inBlock 2, .code (cAt (bodyOf Try.f52) [1, 1, 1, 1, 1])] (S57b v k) (Post c [] (.p (.bool (pinnedF v)))) := by
    intro hgood m
    induction m with
    | zero =>
      intro k hk hf
      rw [show pinnedF v = true by rw [pinnedF, hgood, show v.1.2.1.1 = k by omega, hf, htl]; rfl]
      have hd : decide ((k : Int) < (v.1.2.1.1 : Int)) = false := by simp; omega
      refine path_ok mixed Try.func52 hc (p57g v k) ?_
      simp only [All]
      repeat' (first | exact trivial | with_reducible apply And.intro)
      all_goals (first | omega | rfl | (intros; first | assumption | exact True.intro | rfl | exact absurd (show false = true by assumption) Bool.false_ne_true | ((repeat' (first | assumption | apply anda | apply notf)); done)) | simp)
    | succ m ih =>
      intro k hk hf
      have hd : decide ((k : Int) < (v.1.2.1.1 : Int)) = true := by simp; omega
      cases he : bothP v.2.1 (v.1.2.1.2 k) with
      | true =>
        rw [show pinnedF v = false by rw [pinnedF, freeP_bad v.2.1 v.1.2.1.2 k he v.1.2.1.1 (by omega)]; simp]
        refine path_ok mixed Try.func52 hc (p57f v k) ?_
        simp only [All]
        repeat' (first | exact trivial | with_reducible apply And.intro)
        all_goals (first | omega | rfl | (intros; first | assumption | exact True.intro | rfl | exact absurd (show false = true by assumption) Bool.false_ne_true | ((repeat' (first | assumption | apply anda | apply notf)); done)) | (intros; exact con_Contains v.2.1 _ hni) | (exact he))
      | false =>
        refine piece_ok mixed hc (p57e v k) ?_ (ih (k + 1) (by omega) (by rw [freeP, hf, he]; rfl))
        simp only [All]
        repeat' (first | exact trivial | with_reducible apply And.intro)
        all_goals (first | omega | rfl | (intros; first | assumption | exact True.intro | rfl | exact absurd (show false = true by assumption) Bool.false_ne_true | ((repeat' (first | assumption | apply anda | apply notf)); done)) | (intros; exact con_Contains v.2.1 _ hni) | (exact he) | (simp [All]))
  have lp1 : ∀ m k, k + m = v.2.1.1 → goodP v.1.1 v.2.1.2 k = true → Run Try.prog c 52 [.code (cAt (bodyOf Try.f52) [1, 1, 1, 0, 1, 0, 0]), .inLoop (cAt (bodyOf Try.f52) [1, 1, 1, 0, 1, 0, 0]), .inBlock 0, .code (cAt (bodyOf Try.f52) [1, 1, 1, 1])] (S57a v k) (Post c [] (.p (.bool (pinnedF v)))) := by
    intro m
    induction m with
    | zero =>
      intro k hk hgd
      have hd : decide ((k : Int) < (v.2.1.1 : Int)) = false := by simp; omega
      refine piece_ok mixed hc (p57d v k) ?_ (lp2 (by rw [show v.2.1.1 = k by omega]; exact hgd) v.1.2.1.1 0 (by omega) rfl)
      simp only [All]
      repeat' (first | exact trivial | with_reducible apply And.intro)
      all_goals (first | omega | rfl | (intros; first | assumption | exact True.intro | rfl | exact absurd (show false = true by assumption) Bool.false_ne_true | ((repeat' (first | assumption | apply anda | apply notf)); done)) | (simp [All]))
    | succ m ih =>
      intro k hk hgd
      have hkn : k < v.2.1.1 := by omega
      have hd : decide ((k : Int) < (v.2.1.1 : Int)) = true := by simp; omega
      cases he : badP v.1.1 v.2.1.2 k with
      | true =>
        rw [show pinnedF v = false by rw [pinnedF, goodP_bad _ _ k he v.2.1.1 (by omega)]; rfl]
        have he' := bad_in v.1.1 v.2.1.2 k he
        refine path_ok mixed Try.func52 hc (p57c v k) ?_
        simp only [All]
        repeat' (first | exact trivial | with_reducible apply And.intro)
        all_goals (first | omega | rfl | (intros; first | assumption | exact True.intro | rfl | exact absurd (show false = true by assumption) Bool.false_ne_true | ((repeat' (first | assumption | apply anda | apply notf)); done)) | (exact con_Graphhas v.1 _ hN1.1 hN1.2) | (exact he') | (intro h; have := idx_lt h hkn; omega))
      | false =>
        have he' := bad_in v.1.1 v.2.1.2 k he
        refine piece_ok mixed hc (p57b v k) ?_ (ih (k + 1) (by omega) (by rw [goodP, hgd, he]; rfl))
        simp only [All]
        repeat' (first | exact trivial | with_reducible apply And.intro)
        all_goals (first | omega | rfl | (intros; first | assumption | exact True.intro | rfl | exact absurd (show false = true by assumption) Bool.false_ne_true | ((repeat' (first | assumption | apply anda | apply notf)); done)) | (exact con_Graphhas v.1 _ hN1.1 hN1.2) | (exact he') | (intro h; have := idx_lt h hkn; omega) | (simp [All]))
  refine piece_ok mixed hc (p57a v) ?_ (lp1 v.2.1.1 0 (by omega) rfl)
  simp only [All]
  repeat' (first | exact trivial | with_reducible apply And.intro)
  all_goals (first | omega | rfl | (intros; first | assumption | exact True.intro | rfl | exact absurd (show false = true by assumption) Bool.false_ne_true | ((repeat' (first | assumption | apply anda | apply notf)); done)) | (exact con_IsGraph_i v.1 hg) | (intros; exact con_hasDoubles v.1 hg) | (exact ht') | (simp [All]) | (intro h; simpa using h))

end Go.Proofs.Ytgdbnnmogddkaaa.Mach
