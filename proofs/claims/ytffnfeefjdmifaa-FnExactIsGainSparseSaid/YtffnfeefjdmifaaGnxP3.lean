/- What the law Gnx needs, part 3 of 4: the abstract machine and the contracts of the functions. Conditions: as each theorem says. -/
import Derived.Sort.Grow
import Derived.Shelf.SlGeneric
import Derived.Sort.Row
import Derived.Ground.SlgmProg
import Derived.Ground.SlgnProg
import Derived.Shelf.SortM.Plain
import Derived.Shelf.SortM.SortNone
import Derived.Shelf.SlicesG.CompactI
import Derived.Test.YtffnfeefjdmifaaGnxP2
namespace Go.Proofs.Ytffnfeefjdmifaa.Mach
open Go
set_option linter.unusedVariables false
set_option linter.unusedSimpArgs false
def inS (n : Nat) (s : Nat → Int) : AV := .p (.seq true 1 n (fun i => [.int .i64 (s i)]))
def gnL (g : Nat → T_GainBar) (nb : Nat) : AV := .p (.seq true 4 nb (fun i => [.int .i64 (g i).1, .int .i64 (g i).2.1, .int .i64 (g i).2.2.1, .int .i64 (g i).2.2.2.1]))
def gnA (g : Nat → T_GainBar) (nb : Nat) (N : Int) : AV := .agg [.p (.int .i64 N), gnL g nb]
def gnB (g : Nat → T_GainBar) (nb : Nat) (N : Int) : Ob := ⟨true, 2, 1, fun i => [.p (.int .i64 N), gnL g nb]⟩
def gb (g : Nat → T_GainBar) (s : Nat → Int) (i : Nat) : T_GainBar := g (s i).toNat
def bOb (n : Nat) (K : Nat → Bool) : Ob := ⟨false, 1, n, fun i => [.p (.bool (K i))]⟩
def iOb (n : Nat) (F : Nat → Int) : Ob := ⟨false, 1, n, fun i => [.p (.int .i64 (F i))]⟩
def cOb (n : Nat) (F G : Nat → Int) : Ob := ⟨false, 2, n, fun i => [.p (.int .i64 (F i)), .p (.int .i64 (G i))]⟩
def up {α : Type} (F : Nat → α) (k : Nat) (x : α) (i : Nat) : α := if i = k then x else F i
def badS (nb : Nat) (s : Nat → Int) (k : Nat) : Bool :=
  bif bif decide (s k < 0) then true else decide (s k ≥ (nb : Int)) then true else bif decide ((k : Int) > 0) then decide (s ((k : Int) - 1).toNat ≥ s k) else false
def SBl (g : Nat → T_GainBar) (nb : Nat) (N : Int) (n : Nat) (s : Nat → Int) (k : Nat) : St :=
  ⟨[gnA g nb N, inS n s, .pt 2 0 0 0, .p .any, .p .any, .p (.int .i64 k)] ++ List.replicate 39 anyA, [(0, gnB g nb N)], 1⟩
def SB0 (g : Nat → T_GainBar) (nb N n : Nat) (s : Nat → Int) (K : Nat → Bool) (X Y : Nat → Int) (a : Nat) : St :=
  ⟨[gnA g nb N, inS n s, .pt 2 0 0 0, .p .any, .p .any, .ar 1 1 0 N, .ar 1 2 0 N, .ar 1 3 0 N, .p (.int .i64 a)] ++ List.replicate 177 anyA, [(0, gnB g nb N), (1, bOb N K), (2, iOb N X), (3, iOb N Y)], 4⟩
def SB1 (g : Nat → T_GainBar) (nb N n : Nat) (s : Nat → Int) (K : Nat → Bool) (X Y : Nat → Int) (a m : Nat) : St :=
  ⟨[gnA g nb N, inS n s, .pt 2 0 0 0, .p .any, .p .any, .ar 1 1 0 N, .ar 1 2 0 N, .ar 1 3 0 N, .p (.int .i64 a), .p (.int .i64 m)] ++ List.replicate 176 anyA, [(0, gnB g nb N), (1, bOb N K), (2, iOb N X), (3, iOb N Y)], 4⟩
def SB2 (g : Nat → T_GainBar) (nb N n : Nat) (s : Nat → Int) (K : Nat → Bool) (X Y : Nat → Int) (a m i : Nat) : St :=
  ⟨[gnA g nb N, inS n s, .pt 2 0 0 0, .p .any, .p .any, .ar 1 1 0 N, .ar 1 2 0 N, .ar 1 3 0 N, .p (.int .i64 a), .p (.int .i64 m), .p (.int .i64 i)] ++ List.replicate 175 anyA, [(0, gnB g nb N), (1, bOb N K), (2, iOb N X), (3, iOb N Y)], 4⟩
def SB3 (g : Nat → T_GainBar) (nb N n : Nat) (s : Nat → Int) (K : Nat → Bool) (X Y : Nat → Int) (i : Nat) : St :=
  ⟨[gnA g nb N, inS n s, .pt 2 0 0 0, .p .any, .p .any, .ar 1 1 0 N, .ar 1 2 0 N, .ar 1 3 0 N] ++ List.replicate 4 anyA ++ [.p (.int .i64 i)] ++ List.replicate 173 anyA, [(0, gnB g nb N), (1, bOb N K), (2, iOb N X), (3, iOb N Y)], 4⟩
def SY0 (g : Nat → T_GainBar) (nb N n : Nat) (s : Nat → Int) (R X Y : Nat → Int) (k : Nat) : St :=
  ⟨[gnA g nb N, inS n s, .pt 2 0 0 0, .p .any, .p .any, .ar 1 1 0 N, .ar 2 2 0 N] ++ List.replicate 16 anyA ++ [.p (.int .i64 N), .p (.int .i64 k)] ++ List.replicate 108 anyA, [(0, gnB g nb N), (1, iOb N R), (2, cOb N X Y)], 3⟩
def SY1 (g : Nat → T_GainBar) (nb N n : Nat) (s : Nat → Int) (R X Y : Nat → Int) (k : Nat) : St :=
  ⟨[gnA g nb N, inS n s, .pt 2 0 0 0, .p .any, .p .any, .ar 1 1 0 N, .ar 2 2 0 N] ++ List.replicate 25 anyA ++ [inS n s, .p (.int .i64 n), .p (.int .i64 k)] ++ List.replicate 98 anyA, [(0, gnB g nb N), (1, iOb N R), (2, cOb N X Y)], 3⟩
def SY2 (g : Nat → T_GainBar) (nb N n : Nat) (s : Nat → Int) (R X Y : Nat → Int) (k : Nat) (dx dy fr to : Int) (v : Nat) : St :=
  ⟨[gnA g nb N, inS n s, .pt 2 0 0 0, .p .any, .p .any, .ar 1 1 0 N, .ar 2 2 0 N] ++ List.replicate 4 anyA ++ [.p (.int .i64 dx), .p (.int .i64 dy), .p (.int .i64 fr), .p (.int .i64 to)] ++ List.replicate 17 anyA ++ [inS n s, .p (.int .i64 n), .p (.int .i64 k)] ++ List.replicate 60 anyA ++ [.p (.int .i64 N), .p (.int .i64 v)] ++ List.replicate 36 anyA, [(0, gnB g nb N), (1, iOb N R), (2, cOb N X Y)], 3⟩
def SY3 (g : Nat → T_GainBar) (nb N n : Nat) (s : Nat → Int) (R X Y : Nat → Int) (k : Nat) (dx dy fr to : Int) (v : Nat) : St :=
  ⟨[gnA g nb N, inS n s, .pt 2 0 0 0, .p .any, .p .any, .ar 1 1 0 N, .ar 2 2 0 N] ++ List.replicate 4 anyA ++ [.p (.int .i64 dx), .p (.int .i64 dy), .p (.int .i64 fr), .p (.int .i64 to), .p (.int .i64 v)] ++ List.replicate 16 anyA ++ [inS n s, .p (.int .i64 n), .p (.int .i64 k)] ++ List.replicate 60 anyA ++ [.p (.int .i64 N), .p (.int .i64 v)] ++ List.replicate 36 anyA, [(0, gnB g nb N), (1, iOb N R), (2, cOb N X Y)], 3⟩
theorem bLa (g : Nat → T_GainBar) (nb : Nat) (N : Int) (n : Nat) (s : Nat → Int) :
    pieceOb Try.prog 0 [.reg [oT, oT], .reg [oT], .head] [.code (bodyOf Try.f124)] (start Try.f124 [] 0 [gnA g nb N, inS n s]) [0] 1 (SBl g nb N n s 0) =
    some ([.code (cAt (bodyOf Try.f124) [1, 0, 1, 0, 0]), .inLoop (cAt (bodyOf Try.f124) [1, 0, 1, 0, 0]), .inBlock 0, .code (cAt (bodyOf Try.f124) [1, 1])], [(AI N),
  (AN nb),
  (AP nb (fun i => [.int .i64 ((g i).1), .int .i64 ((g i).2.1), .int .i64 ((g i).2.2.1), .int .i64 ((g i).2.2.2.1)])),
  (AN n),
  (AP n (fun i => [.int .i64 (s i)])),
  (AN 0),
  ((0 : Int) = (↑0 : Int)),
  ((([AV.p (PV.int IntKind.i64 N), gnL g nb].length) : Nat) = 2),
  ((1 : Nat) ≤ 1),
  ((1 : Nat) ≤ 1),
  (AI N),
  (AN nb),
  (AP nb (fun i => [.int .i64 ((g i).1), .int .i64 ((g i).2.1), .int .i64 ((g i).2.2.1), .int .i64 ((g i).2.2.2.1)]))]) := by kernel_rfl
theorem bLb (g : Nat → T_GainBar) (nb : Nat) (N : Int) (n : Nat) (s : Nat → Int) (k : Nat) :
    pieceOb Try.prog 0 [.reg [oT, oT, oT, oT], .dec true, .reg [oT, oT, oT, oT, oT, oT, oT, oT, oT, oT, oT, oT, oT, oT, oT, oT, oT, oT, oT, oT, oT, oT, oT, oT, oT, oT, oT, oT, oT, oT, oT], .dec false, .reg [oT, oT, oT], .head] [.code (cAt (bodyOf Try.f124) [1, 0, 1, 0, 0]), .inLoop (cAt (bodyOf Try.f124) [1, 0, 1, 0, 0]), .inBlock 0, .code (cAt (bodyOf Try.f124) [1, 1])] (SBl g nb N n s k) [0] 1 (SBl g nb N n s (k + 1)) =
    some ([.code (cAt (bodyOf Try.f124) [1, 0, 1, 0, 0]), .inLoop (cAt (bodyOf Try.f124) [1, 0, 1, 0, 0]), .inBlock 0, .code (cAt (bodyOf Try.f124) [1, 1])], [((decide ((↑k : Int) < (↑n : Int))) = true),
  ((0 : Int) ≤ (↑k : Int)),
  (((↑k : Int) : Int) < (↑n : Int)),
  (AG (!decide (s (↑k : Int).toNat < 0))),
  (AG (!decide (s (↑k : Int).toNat < 0))),
  (((!decide (s (↑k : Int).toNat < 0)) = true) → ((0 : Int) ≤ (↑k : Int))),
  (((!decide (s (↑k : Int).toNat < 0)) = true) → (((↑k : Int) : Int) < (↑n : Int))),
  (AG (!decide (s (↑k : Int).toNat < 0))),
  (AG (!decide (s (↑k : Int).toNat < 0))),
  (((!decide (s (↑k : Int).toNat < 0)) = true) → ((0 : Nat) < 1)),
  (AG (!decide (s (↑k : Int).toNat < 0))),
  (AG (!decide (s (↑k : Int).toNat < 0))),
  (AG (!decide (s (↑k : Int).toNat < 0))),
  (((decide (s (↑k : Int).toNat < 0)) = false) → ((!decide (s (↑k : Int).toNat < 0)) = true)),
  (AG (!bif decide (s (↑k : Int).toNat < 0) then true else decide (s (↑k : Int).toNat ≥ (↑nb : Int)))),
  (AG (!bif decide (s (↑k : Int).toNat < 0) then true else decide (s (↑k : Int).toNat ≥ (↑nb : Int)))),
  (AG ((!bif decide (s (↑k : Int).toNat < 0) then true else decide (s (↑k : Int).toNat ≥ (↑nb : Int))) && decide ((↑k : Int) > 0))),
  ((((!bif decide (s (↑k : Int).toNat < 0) then true else decide (s (↑k : Int).toNat ≥ (↑nb : Int))) && decide ((↑k : Int) > 0)) = true) → (((-9223372036854775808) : Int) ≤ ((↑k : Int) - 1))),
  ((((!bif decide (s (↑k : Int).toNat < 0) then true else decide (s (↑k : Int).toNat ≥ (↑nb : Int))) && decide ((↑k : Int) > 0)) = true) → ((((↑k : Int) - 1) : Int) ≤ 9223372036854775807)),
  (AG ((!bif decide (s (↑k : Int).toNat < 0) then true else decide (s (↑k : Int).toNat ≥ (↑nb : Int))) && decide ((↑k : Int) > 0))),
  (AG ((!bif decide (s (↑k : Int).toNat < 0) then true else decide (s (↑k : Int).toNat ≥ (↑nb : Int))) && decide ((↑k : Int) > 0))),
  ((((!bif decide (s (↑k : Int).toNat < 0) then true else decide (s (↑k : Int).toNat ≥ (↑nb : Int))) && decide ((↑k : Int) > 0)) = true) → ((0 : Int) ≤ ((↑k : Int) - 1))),
  ((((!bif decide (s (↑k : Int).toNat < 0) then true else decide (s (↑k : Int).toNat ≥ (↑nb : Int))) && decide ((↑k : Int) > 0)) = true) → ((((↑k : Int) - 1) : Int) < (↑n : Int))),
  (AG ((!bif decide (s (↑k : Int).toNat < 0) then true else decide (s (↑k : Int).toNat ≥ (↑nb : Int))) && decide ((↑k : Int) > 0))),
  (AG ((!bif decide (s (↑k : Int).toNat < 0) then true else decide (s (↑k : Int).toNat ≥ (↑nb : Int))) && decide ((↑k : Int) > 0))),
  (AG ((!bif decide (s (↑k : Int).toNat < 0) then true else decide (s (↑k : Int).toNat ≥ (↑nb : Int))) && decide ((↑k : Int) > 0))),
  ((((!bif decide (s (↑k : Int).toNat < 0) then true else decide (s (↑k : Int).toNat ≥ (↑nb : Int))) && decide ((↑k : Int) > 0)) = true) → ((0 : Int) ≤ (↑k : Int))),
  ((((!bif decide (s (↑k : Int).toNat < 0) then true else decide (s (↑k : Int).toNat ≥ (↑nb : Int))) && decide ((↑k : Int) > 0)) = true) → (((↑k : Int) : Int) < (↑n : Int))),
  (AG ((!bif decide (s (↑k : Int).toNat < 0) then true else decide (s (↑k : Int).toNat ≥ (↑nb : Int))) && decide ((↑k : Int) > 0))),
  (AG ((!bif decide (s (↑k : Int).toNat < 0) then true else decide (s (↑k : Int).toNat ≥ (↑nb : Int))) && decide ((↑k : Int) > 0))),
  (AG ((!bif decide (s (↑k : Int).toNat < 0) then true else decide (s (↑k : Int).toNat ≥ (↑nb : Int))) && decide ((↑k : Int) > 0))),
  (AG (!bif decide (s (↑k : Int).toNat < 0) then true else decide (s (↑k : Int).toNat ≥ (↑nb : Int)))),
  (((!bif decide (s (↑k : Int).toNat < 0) then true else decide (s (↑k : Int).toNat ≥ (↑nb : Int))) = true) → (((decide ((↑k : Int) > 0)) = true) → (((!bif decide (s (↑k : Int).toNat < 0) then true else decide (s (↑k : Int).toNat ≥ (↑nb : Int))) && decide ((↑k : Int) > 0)) = true))),
  (((bif decide (s (↑k : Int).toNat < 0) then true else decide (s (↑k : Int).toNat ≥ (↑nb : Int))) = false) → ((!bif decide (s (↑k : Int).toNat < 0) then true else decide (s (↑k : Int).toNat ≥ (↑nb : Int))) = true)),
  ((bif bif decide (s (↑k : Int).toNat < 0) then true else decide (s (↑k : Int).toNat ≥ (↑nb : Int)) then true else bif decide ((↑k : Int) > 0) then decide (s ((↑k : Int) - 1).toNat ≥ s (↑k : Int).toNat) else false) = false),
  (((-9223372036854775808) : Int) ≤ ((↑k : Int) + 1)),
  ((((↑k : Int) + 1) : Int) ≤ 9223372036854775807),
  (AI N),
  (AN nb),
  (AP nb (fun i => [.int .i64 ((g i).1), .int .i64 ((g i).2.1), .int .i64 ((g i).2.2.1), .int .i64 ((g i).2.2.2.1)])),
  (AN n),
  (AP n (fun i => [.int .i64 (s i)])),
  (AN 0),
  ((((↑k : Int) + 1) : Int) = (↑(k + 1) : Int)),
  (AN 2),
  ((1 : Nat) ≤ 1),
  ((1 : Nat) ≤ 1),
  (AI N),
  (AN nb),
  (AP nb (fun i => [.int .i64 ((g i).1), .int .i64 ((g i).2.1), .int .i64 ((g i).2.2.1), .int .i64 ((g i).2.2.2.1)]))]) := by kernel_rfl
theorem bLc (g : Nat → T_GainBar) (nb : Nat) (N : Int) (n : Nat) (s : Nat → Int) (k : Nat) :
    pathOb Try.prog Try.f124 0 [.reg [oT, oT, oT, oT], .dec true, .reg [oT, oT, oT, oT, oT, oT, oT, oT, oT, oT, oT, oT, oT, oT, oT, oT, oT, oT, oT, oT, oT, oT, oT, oT, oT, oT, oT, oT, oT, oT, oT], .dec true, .reg [oT]] [.code (cAt (bodyOf Try.f124) [1, 0, 1, 0, 0]), .inLoop (cAt (bodyOf Try.f124) [1, 0, 1, 0, 0]), .inBlock 0, .code (cAt (bodyOf Try.f124) [1, 1])] (SBl g nb N n s k) [] 1 [] (.p (.bool false)) =
    some [((decide ((↑k : Int) < (↑n : Int))) = true),
  ((0 : Int) ≤ (↑k : Int)),
  (((↑k : Int) : Int) < (↑n : Int)),
  (AG (!decide (s (↑k : Int).toNat < 0))),
  (AG (!decide (s (↑k : Int).toNat < 0))),
  (((!decide (s (↑k : Int).toNat < 0)) = true) → ((0 : Int) ≤ (↑k : Int))),
  (((!decide (s (↑k : Int).toNat < 0)) = true) → (((↑k : Int) : Int) < (↑n : Int))),
  (AG (!decide (s (↑k : Int).toNat < 0))),
  (AG (!decide (s (↑k : Int).toNat < 0))),
  (((!decide (s (↑k : Int).toNat < 0)) = true) → ((0 : Nat) < 1)),
  (AG (!decide (s (↑k : Int).toNat < 0))),
  (AG (!decide (s (↑k : Int).toNat < 0))),
  (AG (!decide (s (↑k : Int).toNat < 0))),
  (((decide (s (↑k : Int).toNat < 0)) = false) → ((!decide (s (↑k : Int).toNat < 0)) = true)),
  (AG (!bif decide (s (↑k : Int).toNat < 0) then true else decide (s (↑k : Int).toNat ≥ (↑nb : Int)))),
  (AG (!bif decide (s (↑k : Int).toNat < 0) then true else decide (s (↑k : Int).toNat ≥ (↑nb : Int)))),
  (AG ((!bif decide (s (↑k : Int).toNat < 0) then true else decide (s (↑k : Int).toNat ≥ (↑nb : Int))) && decide ((↑k : Int) > 0))),
  ((((!bif decide (s (↑k : Int).toNat < 0) then true else decide (s (↑k : Int).toNat ≥ (↑nb : Int))) && decide ((↑k : Int) > 0)) = true) → (((-9223372036854775808) : Int) ≤ ((↑k : Int) - 1))),
  ((((!bif decide (s (↑k : Int).toNat < 0) then true else decide (s (↑k : Int).toNat ≥ (↑nb : Int))) && decide ((↑k : Int) > 0)) = true) → ((((↑k : Int) - 1) : Int) ≤ 9223372036854775807)),
  (AG ((!bif decide (s (↑k : Int).toNat < 0) then true else decide (s (↑k : Int).toNat ≥ (↑nb : Int))) && decide ((↑k : Int) > 0))),
  (AG ((!bif decide (s (↑k : Int).toNat < 0) then true else decide (s (↑k : Int).toNat ≥ (↑nb : Int))) && decide ((↑k : Int) > 0))),
  ((((!bif decide (s (↑k : Int).toNat < 0) then true else decide (s (↑k : Int).toNat ≥ (↑nb : Int))) && decide ((↑k : Int) > 0)) = true) → ((0 : Int) ≤ ((↑k : Int) - 1))),
  ((((!bif decide (s (↑k : Int).toNat < 0) then true else decide (s (↑k : Int).toNat ≥ (↑nb : Int))) && decide ((↑k : Int) > 0)) = true) → ((((↑k : Int) - 1) : Int) < (↑n : Int))),
  (AG ((!bif decide (s (↑k : Int).toNat < 0) then true else decide (s (↑k : Int).toNat ≥ (↑nb : Int))) && decide ((↑k : Int) > 0))),
  (AG ((!bif decide (s (↑k : Int).toNat < 0) then true else decide (s (↑k : Int).toNat ≥ (↑nb : Int))) && decide ((↑k : Int) > 0))),
  (AG ((!bif decide (s (↑k : Int).toNat < 0) then true else decide (s (↑k : Int).toNat ≥ (↑nb : Int))) && decide ((↑k : Int) > 0))),
  ((((!bif decide (s (↑k : Int).toNat < 0) then true else decide (s (↑k : Int).toNat ≥ (↑nb : Int))) && decide ((↑k : Int) > 0)) = true) → ((0 : Int) ≤ (↑k : Int))),
  ((((!bif decide (s (↑k : Int).toNat < 0) then true else decide (s (↑k : Int).toNat ≥ (↑nb : Int))) && decide ((↑k : Int) > 0)) = true) → (((↑k : Int) : Int) < (↑n : Int))),
  (AG ((!bif decide (s (↑k : Int).toNat < 0) then true else decide (s (↑k : Int).toNat ≥ (↑nb : Int))) && decide ((↑k : Int) > 0))),
  (AG ((!bif decide (s (↑k : Int).toNat < 0) then true else decide (s (↑k : Int).toNat ≥ (↑nb : Int))) && decide ((↑k : Int) > 0))),
  (AG ((!bif decide (s (↑k : Int).toNat < 0) then true else decide (s (↑k : Int).toNat ≥ (↑nb : Int))) && decide ((↑k : Int) > 0))),
  (AG (!bif decide (s (↑k : Int).toNat < 0) then true else decide (s (↑k : Int).toNat ≥ (↑nb : Int)))),
  (((!bif decide (s (↑k : Int).toNat < 0) then true else decide (s (↑k : Int).toNat ≥ (↑nb : Int))) = true) → (((decide ((↑k : Int) > 0)) = true) → (((!bif decide (s (↑k : Int).toNat < 0) then true else decide (s (↑k : Int).toNat ≥ (↑nb : Int))) && decide ((↑k : Int) > 0)) = true))),
  (((bif decide (s (↑k : Int).toNat < 0) then true else decide (s (↑k : Int).toNat ≥ (↑nb : Int))) = false) → ((!bif decide (s (↑k : Int).toNat < 0) then true else decide (s (↑k : Int).toNat ≥ (↑nb : Int))) = true)),
  ((bif bif decide (s (↑k : Int).toNat < 0) then true else decide (s (↑k : Int).toNat ≥ (↑nb : Int)) then true else bif decide ((↑k : Int) > 0) then decide (s ((↑k : Int) - 1).toNat ≥ s (↑k : Int).toNat) else false) = true),
  (false = false)] := by kernel_rfl
theorem bLd (g : Nat → T_GainBar) (nb : Nat) (N : Int) (n : Nat) (s : Nat → Int) (k : Nat) (b : Bool) :
    pathOb Try.prog Try.f124 0 [.reg [oT, oT, oT, oT], .dec false, .reg [oT, ⟨true, (some ⟨[], [], [], 1, [], .p (.bool b)⟩), none⟩, oT]] [.code (cAt (bodyOf Try.f124) [1, 0, 1, 0, 0]), .inLoop (cAt (bodyOf Try.f124) [1, 0, 1, 0, 0]), .inBlock 0, .code (cAt (bodyOf Try.f124) [1, 1])] (SBl g nb N n s k) [] 1 [] (.p (.bool b)) =
    some [((decide ((↑k : Int) < (↑n : Int))) = false),
  ((0 : Nat) < 1),
  Con Try.prog 75 0 [] [.agg [.p (.int .i64 N), .p (.seq true 4 nb (fun i => [.int .i64 ((g i).1), .int .i64 ((g i).2.1), .int .i64 ((g i).2.2.1), .int .i64 ((g i).2.2.2.1)]))]] [] (.p (.bool b)),
  (b = b)] := by kernel_rfl
theorem bSz (g : Nat → T_GainBar) (nb : Nat) (N : Int) (n : Nat) (s : Nat → Int) :
    pathOb Try.prog Try.f78 0 [.reg [oT, oT], .reg [oT, oT, ⟨true, (some ⟨[], [], [], 1, [], .p (.bool false)⟩), none⟩, oT], .dec true, .reg [oT]] [.code (bodyOf Try.f78)] (start Try.f78 [] 0 [gnA g nb N, inS n s]) [] 1 [] (.p (.bool false)) =
    some [((0 : Nat) < 1),
  Con Try.prog 124 0 [] [.agg [.p (.int .i64 N), .p (.seq true 4 nb (fun i => [.int .i64 ((g i).1), .int .i64 ((g i).2.1), .int .i64 ((g i).2.2.1), .int .i64 ((g i).2.2.2.1)]))], .p (.seq true 1 n (fun i => [.int .i64 (s i)]))] [] (.p (.bool false)),
  ((!false) = true),
  (false = false)] := by kernel_rfl
theorem bSa (g : Nat → T_GainBar) (nb N n : Nat) (s : Nat → Int) :
    pieceOb Try.prog 0 [.reg [oT, oT], .reg [oT, oT, ⟨true, (some ⟨[], [], [], 1, [], .p (.bool true)⟩), none⟩, oT], .dec false, .reg [oT, oT, oT, oT], .reg [oT, oT, oT, oT], .reg [oT, oT, oT, oT], .reg [oT], .head] [.code (bodyOf Try.f78)] (start Try.f78 [] 0 [gnA g nb N, inS n s]) [0, 256, 384, 512] 1 (SB0 g nb N n s (fun _ => false) (fun _ => 0) (fun _ => 0) 0) =
    some ([.code (cAt (bodyOf Try.f78) [1, 1, 1, 1, 1, 0, 1, 0, 0]), .inLoop (cAt (bodyOf Try.f78) [1, 1, 1, 1, 1, 0, 1, 0, 0]), .inBlock 0, .code (cAt (bodyOf Try.f78) [1, 1, 1, 1, 1, 1])], [((0 : Nat) < 1),
  Con Try.prog 124 0 [] [.agg [.p (.int .i64 (↑N : Int)), .p (.seq true 4 nb (fun i => [.int .i64 ((g i).1), .int .i64 ((g i).2.1), .int .i64 ((g i).2.2.1), .int .i64 ((g i).2.2.2.1)]))], .p (.seq true 1 n (fun i => [.int .i64 (s i)]))] [] (.p (.bool true)),
  ((!true) = false),
  ((0 : Nat) < 1),
  ((0 : Int) ≤ (↑N : Int)),
  (((↑N : Int) : Int) ≤ (↑N : Int)),
  ((((↑N : Int) * (↑1 : Int)) : Int) ≤ 281474976710656),
  (((↑N : Int) : Int) ≤ 9223372036854775807),
  ((0 : Nat) < 1),
  ((0 : Int) ≤ (↑N : Int)),
  (((↑N : Int) : Int) ≤ (↑N : Int)),
  ((((↑N : Int) * (↑8 : Int)) : Int) ≤ 281474976710656),
  (((↑N : Int) : Int) ≤ 9223372036854775807),
  ((0 : Nat) < 1),
  ((0 : Int) ≤ (↑N : Int)),
  (((↑N : Int) : Int) ≤ (↑N : Int)),
  ((((↑N : Int) * (↑8 : Int)) : Int) ≤ 281474976710656),
  (((↑N : Int) : Int) ≤ 9223372036854775807),
  (AI ((↑N : Int))),
  (AN nb),
  (AP nb (fun i => [.int .i64 ((g i).1), .int .i64 ((g i).2.1), .int .i64 ((g i).2.2.1), .int .i64 ((g i).2.2.2.1)])),
  (AN n),
  (AP n (fun i => [.int .i64 (s i)])),
  (AN 0),
  (AN 0),
  (AN N),
  (AN 0),
  (AN N),
  (AN 0),
  (AN N),
  ((0 : Int) = (↑0 : Int)),
  ((([AV.p (PV.int IntKind.i64 (↑N : Int)), gnL g nb].length) : Nat) = 2),
  ((1 : Nat) ≤ 1),
  ((1 : Nat) ≤ 1),
  (AI ((↑N : Int))),
  (AN nb),
  (AP nb (fun i => [.int .i64 ((g i).1), .int .i64 ((g i).2.1), .int .i64 ((g i).2.2.1), .int .i64 ((g i).2.2.2.1)])),
  (AN 1),
  ((N : Nat) ≤ N),
  (AA N (fun i => [.p (.bool false)])),
  (AN 1),
  ((N : Nat) ≤ N),
  (AA N (fun i => [.p (.int .i64 0)])),
  (AN 1),
  ((N : Nat) ≤ N),
  (AA N (fun i => [.p (.int .i64 0)]))]) := by kernel_rfl
theorem bSk (g : Nat → T_GainBar) (nb N n : Nat) (s : Nat → Int) (K : Nat → Bool) (X Y : Nat → Int) (a : Nat) :
    pieceOb Try.prog 0 [.reg [oT, oT, oT, oT], .dec true, .reg [oT, oT, oT, oT], .dec true, .reg [oT, oT, oT], .head] [.code (cAt (bodyOf Try.f78) [1, 1, 1, 1, 1, 0, 1, 0, 0]), .inLoop (cAt (bodyOf Try.f78) [1, 1, 1, 1, 1, 0, 1, 0, 0]), .inBlock 0, .code (cAt (bodyOf Try.f78) [1, 1, 1, 1, 1, 1])] (SB0 g nb N n s K X Y a) [0, 1, 2, 3] 1 (SB0 g nb N n s K X Y (a + 1)) =
    some ([.code (cAt (bodyOf Try.f78) [1, 1, 1, 1, 1, 0, 1, 0, 0]), .inLoop (cAt (bodyOf Try.f78) [1, 1, 1, 1, 1, 0, 1, 0, 0]), .inBlock 0, .code (cAt (bodyOf Try.f78) [1, 1, 1, 1, 1, 1])], [((0 : Nat) < 1),
  ((decide ((↑a : Int) < (↑N : Int))) = true),
  ((0 : Int) ≤ (↑a : Int)),
  (((↑a : Int) : Int) < (↑N : Int)),
  ((a : Nat) < N),
  ((K a) = true),
  (((-9223372036854775808) : Int) ≤ ((↑a : Int) + 1)),
  ((((↑a : Int) + 1) : Int) ≤ 9223372036854775807),
  (AI ((↑N : Int))),
  (AN nb),
  (AP nb (fun i => [.int .i64 ((g i).1), .int .i64 ((g i).2.1), .int .i64 ((g i).2.2.1), .int .i64 ((g i).2.2.2.1)])),
  (AN n),
  (AP n (fun i => [.int .i64 (s i)])),
  (AN 0),
  (AN 0),
  (AN N),
  (AN 0),
  (AN N),
  (AN 0),
  (AN N),
  ((((↑a : Int) + 1) : Int) = (↑(a + 1) : Int)),
  (AN 2),
  ((1 : Nat) ≤ 1),
  ((1 : Nat) ≤ 1),
  (AI ((↑N : Int))),
  (AN nb),
  (AP nb (fun i => [.int .i64 ((g i).1), .int .i64 ((g i).2.1), .int .i64 ((g i).2.2.1), .int .i64 ((g i).2.2.2.1)])),
  (AN 1),
  ((N : Nat) ≤ N),
  (AA N (fun i => [.p (.bool (K i))])),
  (AN 1),
  ((N : Nat) ≤ N),
  (AA N (fun i => [.p (.int .i64 (X i))])),
  (AN 1),
  ((N : Nat) ≤ N),
  (AA N (fun i => [.p (.int .i64 (Y i))]))]) := by kernel_rfl
theorem bSn (g : Nat → T_GainBar) (nb N n : Nat) (s : Nat → Int) (K : Nat → Bool) (X Y : Nat → Int) (a : Nat) :
    pieceOb Try.prog 0 [.reg [oT, oT, oT, oT], .dec true, .reg [oT, oT, oT, oT], .dec false, .reg [oT, oT, oT, oT], .reg [oT], .head] [.code (cAt (bodyOf Try.f78) [1, 1, 1, 1, 1, 0, 1, 0, 0]), .inLoop (cAt (bodyOf Try.f78) [1, 1, 1, 1, 1, 0, 1, 0, 0]), .inBlock 0, .code (cAt (bodyOf Try.f78) [1, 1, 1, 1, 1, 1])] (SB0 g nb N n s K X Y a) [0, 1, 2, 3] 1 (SB1 g nb N n s (up K a true) X Y a 0) =
    some ([.code (cAt (bodyOf Try.f78) [1, 1, 1, 1, 1, 0, 1, 0, 0, 1, 0, 0, 1, 1, 1, 0, 0]), .inLoop (cAt (bodyOf Try.f78) [1, 1, 1, 1, 1, 0, 1, 0, 0, 1, 0, 0, 1, 1, 1, 0, 0]), .inBlock 2, .inBlock 1, .code (cAt (bodyOf Try.f78) [1, 1, 1, 1, 1, 0, 1, 0, 0, 1, 1]), .inLoop (cAt (bodyOf Try.f78) [1, 1, 1, 1, 1, 0, 1, 0, 0]), .inBlock 0, .code (cAt (bodyOf Try.f78) [1, 1, 1, 1, 1, 1])], [((0 : Nat) < 1),
  ((decide ((↑a : Int) < (↑N : Int))) = true),
  ((0 : Int) ≤ (↑a : Int)),
  (((↑a : Int) : Int) < (↑N : Int)),
  ((a : Nat) < N),
  ((K a) = false),
  ((0 : Int) ≤ (↑a : Int)),
  (((↑a : Int) : Int) < (↑N : Int)),
  ((a : Nat) < N),
  ((false = true) → ((N : Nat) = 1)),
  (AI ((↑N : Int))),
  (AN nb),
  (AP nb (fun i => [.int .i64 ((g i).1), .int .i64 ((g i).2.1), .int .i64 ((g i).2.2.1), .int .i64 ((g i).2.2.2.1)])),
  (AN n),
  (AP n (fun i => [.int .i64 (s i)])),
  (AN 0),
  (AN 0),
  (AN N),
  (AN 0),
  (AN N),
  (AN 0),
  (AN N),
  (AI ((↑a : Int))),
  ((0 : Int) = (↑0 : Int)),
  (AN 2),
  ((1 : Nat) ≤ 1),
  ((1 : Nat) ≤ 1),
  (AI ((↑N : Int))),
  (AN nb),
  (AP nb (fun i => [.int .i64 ((g i).1), .int .i64 ((g i).2.1), .int .i64 ((g i).2.2.1), .int .i64 ((g i).2.2.2.1)])),
  (AN 1),
  ((N : Nat) ≤ N),
  (∀ i : Nat, (((i : Nat) < N) → (All (cvtL false [(1, ⟨false, 1, N, (fun i_1 => (if (i_1 = a) then [.p (.bool true)] else [.p (.bool (K i_1))]))⟩), (0, ⟨true, 2, 1, (fun i_1 => [.p (.int .i64 (↑N : Int)), .p (.seq true 4 nb (fun i_2 => [.int .i64 ((g i_2).1), .int .i64 ((g i_2).2.1), .int .i64 ((g i_2).2.2.1), .int .i64 ((g i_2).2.2.2.1)]))])⟩), (2, ⟨false, 1, N, (fun i_1 => [.p (.int .i64 (X i_1))])⟩), (3, ⟨false, 1, N, (fun i_1 => [.p (.int .i64 (Y i_1))])⟩)] [0, 1, 2, 3] 1 (if (i = a) then [.p (.bool true)] else [.p (.bool (K i))])).2 ∧ (((cvtL false [(1, ⟨false, 1, N, (fun i_1 => (if (i_1 = a) then [.p (.bool true)] else [.p (.bool (K i_1))]))⟩), (0, ⟨true, 2, 1, (fun i_1 => [.p (.int .i64 (↑N : Int)), .p (.seq true 4 nb (fun i_2 => [.int .i64 ((g i_2).1), .int .i64 ((g i_2).2.1), .int .i64 ((g i_2).2.2.1), .int .i64 ((g i_2).2.2.2.1)]))])⟩), (2, ⟨false, 1, N, (fun i_1 => [.p (.int .i64 (X i_1))])⟩), (3, ⟨false, 1, N, (fun i_1 => [.p (.int .i64 (Y i_1))])⟩)] [0, 1, 2, 3] 1 (if (i = a) then [.p (.bool true)] else [.p (.bool (K i))])).1 : List AV) = [.p (.bool (up K a true i))])))),
  (AN 1),
  ((N : Nat) ≤ N),
  (AA N (fun i => [.p (.int .i64 (X i))])),
  (AN 1),
  ((N : Nat) ≤ N),
  (AA N (fun i => [.p (.int .i64 (Y i))]))]) := by kernel_rfl
theorem bS1 (g : Nat → T_GainBar) (nb N n : Nat) (s : Nat → Int) (K : Nat → Bool) (X Y : Nat → Int) (a m : Nat) :
    pieceOb Try.prog 0 [.reg [oT, oT, oT, oT], .dec true, .reg [oT], .head] [.code (cAt (bodyOf Try.f78) [1, 1, 1, 1, 1, 0, 1, 0, 0, 1, 0, 0, 1, 1, 1, 0, 0]), .inLoop (cAt (bodyOf Try.f78) [1, 1, 1, 1, 1, 0, 1, 0, 0, 1, 0, 0, 1, 1, 1, 0, 0]), .inBlock 2, .inBlock 1, .code (cAt (bodyOf Try.f78) [1, 1, 1, 1, 1, 0, 1, 0, 0, 1, 1]), .inLoop (cAt (bodyOf Try.f78) [1, 1, 1, 1, 1, 0, 1, 0, 0]), .inBlock 0, .code (cAt (bodyOf Try.f78) [1, 1, 1, 1, 1, 1])] (SB1 g nb N n s K X Y a m) [0, 1, 2, 3] 1 (SB2 g nb N n s K X Y a m 0) =
    some ([.code (cAt (bodyOf Try.f78) [1, 1, 1, 1, 1, 0, 1, 0, 0, 1, 0, 0, 1, 1, 1, 0, 0, 1, 0, 0, 1, 0, 0]), .inLoop (cAt (bodyOf Try.f78) [1, 1, 1, 1, 1, 0, 1, 0, 0, 1, 0, 0, 1, 1, 1, 0, 0, 1, 0, 0, 1, 0, 0]), .inBlock 4, .inBlock 3, .code (cAt (bodyOf Try.f78) [1, 1, 1, 1, 1, 0, 1, 0, 0, 1, 0, 0, 1, 1, 1, 0, 0, 1, 1]), .inLoop (cAt (bodyOf Try.f78) [1, 1, 1, 1, 1, 0, 1, 0, 0, 1, 0, 0, 1, 1, 1, 0, 0]), .inBlock 2, .inBlock 1, .code (cAt (bodyOf Try.f78) [1, 1, 1, 1, 1, 0, 1, 0, 0, 1, 1]), .inLoop (cAt (bodyOf Try.f78) [1, 1, 1, 1, 1, 0, 1, 0, 0]), .inBlock 0, .code (cAt (bodyOf Try.f78) [1, 1, 1, 1, 1, 1])], [((0 : Nat) < 1),
  ((decide ((↑m : Int) < (↑N : Int))) = true),
  (AI ((↑N : Int))),
  (AN nb),
  (AP nb (fun i => [.int .i64 ((g i).1), .int .i64 ((g i).2.1), .int .i64 ((g i).2.2.1), .int .i64 ((g i).2.2.2.1)])),
  (AN n),
  (AP n (fun i => [.int .i64 (s i)])),
  (AN 0),
  (AN 0),
  (AN N),
  (AN 0),
  (AN N),
  (AN 0),
  (AN N),
  (AI ((↑a : Int))),
  (AI ((↑m : Int))),
  ((0 : Int) = (↑0 : Int)),
  (AN 2),
  ((1 : Nat) ≤ 1),
  ((1 : Nat) ≤ 1),
  (AI ((↑N : Int))),
  (AN nb),
  (AP nb (fun i => [.int .i64 ((g i).1), .int .i64 ((g i).2.1), .int .i64 ((g i).2.2.1), .int .i64 ((g i).2.2.2.1)])),
  (AN 1),
  ((N : Nat) ≤ N),
  (AA N (fun i => [.p (.bool (K i))])),
  (AN 1),
  ((N : Nat) ≤ N),
  (AA N (fun i => [.p (.int .i64 (X i))])),
  (AN 1),
  ((N : Nat) ≤ N),
  (AA N (fun i => [.p (.int .i64 (Y i))]))]) := by kernel_rfl
theorem bS1e (g : Nat → T_GainBar) (nb N n : Nat) (s : Nat → Int) (K : Nat → Bool) (X Y : Nat → Int) (a m : Nat) :
    pieceOb Try.prog 0 [.reg [oT, oT, oT, oT], .dec false, .reg [oT, oT, oT], .head] [.code (cAt (bodyOf Try.f78) [1, 1, 1, 1, 1, 0, 1, 0, 0, 1, 0, 0, 1, 1, 1, 0, 0]), .inLoop (cAt (bodyOf Try.f78) [1, 1, 1, 1, 1, 0, 1, 0, 0, 1, 0, 0, 1, 1, 1, 0, 0]), .inBlock 2, .inBlock 1, .code (cAt (bodyOf Try.f78) [1, 1, 1, 1, 1, 0, 1, 0, 0, 1, 1]), .inLoop (cAt (bodyOf Try.f78) [1, 1, 1, 1, 1, 0, 1, 0, 0]), .inBlock 0, .code (cAt (bodyOf Try.f78) [1, 1, 1, 1, 1, 1])] (SB1 g nb N n s K X Y a m) [0, 1, 2, 3] 1 (SB0 g nb N n s K X Y (a + 1)) =
    some ([.code (cAt (bodyOf Try.f78) [1, 1, 1, 1, 1, 0, 1, 0, 0]), .inLoop (cAt (bodyOf Try.f78) [1, 1, 1, 1, 1, 0, 1, 0, 0]), .inBlock 0, .code (cAt (bodyOf Try.f78) [1, 1, 1, 1, 1, 1])], [((0 : Nat) < 1),
  ((decide ((↑m : Int) < (↑N : Int))) = false),
  (((-9223372036854775808) : Int) ≤ ((↑a : Int) + 1)),
  ((((↑a : Int) + 1) : Int) ≤ 9223372036854775807),
  (AI ((↑N : Int))),
  (AN nb),
  (AP nb (fun i => [.int .i64 ((g i).1), .int .i64 ((g i).2.1), .int .i64 ((g i).2.2.1), .int .i64 ((g i).2.2.2.1)])),
  (AN n),
  (AP n (fun i => [.int .i64 (s i)])),
  (AN 0),
  (AN 0),
  (AN N),
  (AN 0),
  (AN N),
  (AN 0),
  (AN N),
  ((((↑a : Int) + 1) : Int) = (↑(a + 1) : Int)),
  (AN 2),
  ((1 : Nat) ≤ 1),
  ((1 : Nat) ≤ 1),
  (AI ((↑N : Int))),
  (AN nb),
  (AP nb (fun i => [.int .i64 ((g i).1), .int .i64 ((g i).2.1), .int .i64 ((g i).2.2.1), .int .i64 ((g i).2.2.2.1)])),
  (AN 1),
  ((N : Nat) ≤ N),
  (AA N (fun i => [.p (.bool (K i))])),
  (AN 1),
  ((N : Nat) ≤ N),
  (AA N (fun i => [.p (.int .i64 (X i))])),
  (AN 1),
  ((N : Nat) ≤ N),
  (AA N (fun i => [.p (.int .i64 (Y i))]))]) := by kernel_rfl
theorem bS2e (g : Nat → T_GainBar) (nb N n : Nat) (s : Nat → Int) (K : Nat → Bool) (X Y : Nat → Int) (a m i : Nat) :
    pieceOb Try.prog 0 [.reg [oT, oT, oT, oT], .dec false, .reg [oT, oT, oT], .head] [.code (cAt (bodyOf Try.f78) [1, 1, 1, 1, 1, 0, 1, 0, 0, 1, 0, 0, 1, 1, 1, 0, 0, 1, 0, 0, 1, 0, 0]), .inLoop (cAt (bodyOf Try.f78) [1, 1, 1, 1, 1, 0, 1, 0, 0, 1, 0, 0, 1, 1, 1, 0, 0, 1, 0, 0, 1, 0, 0]), .inBlock 4, .inBlock 3, .code (cAt (bodyOf Try.f78) [1, 1, 1, 1, 1, 0, 1, 0, 0, 1, 0, 0, 1, 1, 1, 0, 0, 1, 1]), .inLoop (cAt (bodyOf Try.f78) [1, 1, 1, 1, 1, 0, 1, 0, 0, 1, 0, 0, 1, 1, 1, 0, 0]), .inBlock 2, .inBlock 1, .code (cAt (bodyOf Try.f78) [1, 1, 1, 1, 1, 0, 1, 0, 0, 1, 1]), .inLoop (cAt (bodyOf Try.f78) [1, 1, 1, 1, 1, 0, 1, 0, 0]), .inBlock 0, .code (cAt (bodyOf Try.f78) [1, 1, 1, 1, 1, 1])] (SB2 g nb N n s K X Y a m i) [0, 1, 2, 3] 1 (SB1 g nb N n s K X Y a (m + 1)) =
    some ([.code (cAt (bodyOf Try.f78) [1, 1, 1, 1, 1, 0, 1, 0, 0, 1, 0, 0, 1, 1, 1, 0, 0]), .inLoop (cAt (bodyOf Try.f78) [1, 1, 1, 1, 1, 0, 1, 0, 0, 1, 0, 0, 1, 1, 1, 0, 0]), .inBlock 2, .inBlock 1, .code (cAt (bodyOf Try.f78) [1, 1, 1, 1, 1, 0, 1, 0, 0, 1, 1]), .inLoop (cAt (bodyOf Try.f78) [1, 1, 1, 1, 1, 0, 1, 0, 0]), .inBlock 0, .code (cAt (bodyOf Try.f78) [1, 1, 1, 1, 1, 1])], [((decide ((↑i : Int) < (↑n : Int))) = false),
  (((-9223372036854775808) : Int) ≤ ((↑m : Int) + 1)),
  ((((↑m : Int) + 1) : Int) ≤ 9223372036854775807),
  (AI ((↑N : Int))),
  (AN nb),
  (AP nb (fun i_1 => [.int .i64 ((g i_1).1), .int .i64 ((g i_1).2.1), .int .i64 ((g i_1).2.2.1), .int .i64 ((g i_1).2.2.2.1)])),
  (AN n),
  (AP n (fun i_1 => [.int .i64 (s i_1)])),
  (AN 0),
  (AN 0),
  (AN N),
  (AN 0),
  (AN N),
  (AN 0),
  (AN N),
  (AI ((↑a : Int))),
  ((((↑m : Int) + 1) : Int) = (↑(m + 1) : Int)),
  (AN 2),
  ((1 : Nat) ≤ 1),
  ((1 : Nat) ≤ 1),
  (AI ((↑N : Int))),
  (AN nb),
  (AP nb (fun i_1 => [.int .i64 ((g i_1).1), .int .i64 ((g i_1).2.1), .int .i64 ((g i_1).2.2.1), .int .i64 ((g i_1).2.2.2.1)])),
  (AN 1),
  ((N : Nat) ≤ N),
  (AA N (fun i_1 => [.p (.bool (K i_1))])),
  (AN 1),
  ((N : Nat) ≤ N),
  (AA N (fun i_1 => [.p (.int .i64 (X i_1))])),
  (AN 1),
  ((N : Nat) ≤ N),
  (AA N (fun i_1 => [.p (.int .i64 (Y i_1))]))]) := by kernel_rfl
theorem bS2a (g : Nat → T_GainBar) (nb N n : Nat) (s : Nat → Int) (K : Nat → Bool) (X Y : Nat → Int) (a m i : Nat) :
    pieceOb Try.prog 0 [.reg [oT, oT, oT, oT], .dec true, .reg [oT, oT, oT, oT, oT, oT, oT, oT, oT, oT], .reg [oT, oT, oT, oT, oT, oT, oT, oT, oT, oT, oT, oT, oT], .dec true, .reg [oT, oT, oT, oT, oT], .reg [oT, oT, oT, oT, oT, oT, oT, oT, oT, oT, oT, oT, oT], .reg [oT, oT, oT, oT, oT, oT, oT, oT, oT, oT, oT, oT, oT], .reg [oT, oT, oT], .head] [.code (cAt (bodyOf Try.f78) [1, 1, 1, 1, 1, 0, 1, 0, 0, 1, 0, 0, 1, 1, 1, 0, 0, 1, 0, 0, 1, 0, 0]), .inLoop (cAt (bodyOf Try.f78) [1, 1, 1, 1, 1, 0, 1, 0, 0, 1, 0, 0, 1, 1, 1, 0, 0, 1, 0, 0, 1, 0, 0]), .inBlock 4, .inBlock 3, .code (cAt (bodyOf Try.f78) [1, 1, 1, 1, 1, 0, 1, 0, 0, 1, 0, 0, 1, 1, 1, 0, 0, 1, 1]), .inLoop (cAt (bodyOf Try.f78) [1, 1, 1, 1, 1, 0, 1, 0, 0, 1, 0, 0, 1, 1, 1, 0, 0]), .inBlock 2, .inBlock 1, .code (cAt (bodyOf Try.f78) [1, 1, 1, 1, 1, 0, 1, 0, 0, 1, 1]), .inLoop (cAt (bodyOf Try.f78) [1, 1, 1, 1, 1, 0, 1, 0, 0]), .inBlock 0, .code (cAt (bodyOf Try.f78) [1, 1, 1, 1, 1, 1])] (SB2 g nb N n s K X Y a m i) [0, 1, 2, 3] 1 (SB2 g nb N n s (up K (gb g s i).2.1.toNat true) (up X (gb g s i).2.1.toNat (X (gb g s i).1.toNat + (gb g s i).2.2.1)) (up Y (gb g s i).2.1.toNat (Y (gb g s i).1.toNat + (gb g s i).2.2.2.1)) a m (i + 1)) =
    some ([.code (cAt (bodyOf Try.f78) [1, 1, 1, 1, 1, 0, 1, 0, 0, 1, 0, 0, 1, 1, 1, 0, 0, 1, 0, 0, 1, 0, 0]), .inLoop (cAt (bodyOf Try.f78) [1, 1, 1, 1, 1, 0, 1, 0, 0, 1, 0, 0, 1, 1, 1, 0, 0, 1, 0, 0, 1, 0, 0]), .inBlock 4, .inBlock 3, .code (cAt (bodyOf Try.f78) [1, 1, 1, 1, 1, 0, 1, 0, 0, 1, 0, 0, 1, 1, 1, 0, 0, 1, 1]), .inLoop (cAt (bodyOf Try.f78) [1, 1, 1, 1, 1, 0, 1, 0, 0, 1, 0, 0, 1, 1, 1, 0, 0]), .inBlock 2, .inBlock 1, .code (cAt (bodyOf Try.f78) [1, 1, 1, 1, 1, 0, 1, 0, 0, 1, 1]), .inLoop (cAt (bodyOf Try.f78) [1, 1, 1, 1, 1, 0, 1, 0, 0]), .inBlock 0, .code (cAt (bodyOf Try.f78) [1, 1, 1, 1, 1, 1])], [((decide ((↑i : Int) < (↑n : Int))) = true),
  ((0 : Nat) < 1),
  ((0 : Int) ≤ (↑i : Int)),
  (((↑i : Int) : Int) < (↑n : Int)),
  ((0 : Int) ≤ (s i)),
  (((s i) : Int) < (↑nb : Int)),
  ((0 : Nat) < 1),
  ((true = true) → (AN 1)),
  ((0 : Nat) < 1),
  ((0 : Int) ≤ ((g (s i).toNat).1)),
  ((((g (s i).toNat).1) : Int) < (↑N : Int)),
  ((((g (s i).toNat).1.toNat) : Nat) < N),
  (AG (K (g (s i).toNat).1.toNat)),
  (((K (g (s i).toNat).1.toNat) = true) → ((0 : Nat) < 1)),
  (AG (K (g (s i).toNat).1.toNat)),
  (AG (K (g (s i).toNat).1.toNat)),
  (((K (g (s i).toNat).1.toNat) = true) → ((0 : Int) ≤ ((g (s i).toNat).2.1))),
  (((K (g (s i).toNat).1.toNat) = true) → ((((g (s i).toNat).2.1) : Int) < (↑N : Int))),
  (AG (K (g (s i).toNat).1.toNat)),
  (((K (g (s i).toNat).1.toNat) = true) → ((((g (s i).toNat).2.1.toNat) : Nat) < N)),
  (AG (K (g (s i).toNat).1.toNat)),
  (AG (K (g (s i).toNat).1.toNat)),
  ((bif K (g (s i).toNat).1.toNat then !K (g (s i).toNat).2.1.toNat else false) = true),
  ((0 : Nat) < 1),
  ((0 : Int) ≤ ((g (s i).toNat).2.1)),
  ((((g (s i).toNat).2.1) : Int) < (↑N : Int)),
  ((((g (s i).toNat).2.1.toNat) : Nat) < N),
  ((false = true) → ((N : Nat) = 1)),
  ((0 : Nat) < 1),
  ((0 : Nat) < 1),
  ((0 : Int) ≤ ((g (s i).toNat).1)),
  ((((g (s i).toNat).1) : Int) < (↑N : Int)),
  ((((g (s i).toNat).1.toNat) : Nat) < N),
  ((0 : Nat) < 1),
  (((-9223372036854775808) : Int) ≤ (X (g (s i).toNat).1.toNat + (g (s i).toNat).2.2.1)),
  (((X (g (s i).toNat).1.toNat + (g (s i).toNat).2.2.1) : Int) ≤ 9223372036854775807),
  ((0 : Int) ≤ ((g (s i).toNat).2.1)),
  ((((g (s i).toNat).2.1) : Int) < (↑N : Int)),
  ((((g (s i).toNat).2.1.toNat) : Nat) < N),
  ((false = true) → ((N : Nat) = 1)),
  ((0 : Nat) < 1),
  ((0 : Nat) < 1),
  ((0 : Int) ≤ ((g (s i).toNat).1)),
  ((((g (s i).toNat).1) : Int) < (↑N : Int)),
  ((((g (s i).toNat).1.toNat) : Nat) < N),
  ((0 : Nat) < 1),
  (((-9223372036854775808) : Int) ≤ (Y (g (s i).toNat).1.toNat + (g (s i).toNat).2.2.2.1)),
  (((Y (g (s i).toNat).1.toNat + (g (s i).toNat).2.2.2.1) : Int) ≤ 9223372036854775807),
  ((0 : Int) ≤ ((g (s i).toNat).2.1)),
  ((((g (s i).toNat).2.1) : Int) < (↑N : Int)),
  ((((g (s i).toNat).2.1.toNat) : Nat) < N),
  ((false = true) → ((N : Nat) = 1)),
  (((-9223372036854775808) : Int) ≤ ((↑i : Int) + 1)),
  ((((↑i : Int) + 1) : Int) ≤ 9223372036854775807),
  (AI ((↑N : Int))),
  (AN nb),
  (AP nb (fun i_1 => [.int .i64 ((g i_1).1), .int .i64 ((g i_1).2.1), .int .i64 ((g i_1).2.2.1), .int .i64 ((g i_1).2.2.2.1)])),
  (AN n),
  (AP n (fun i_1 => [.int .i64 (s i_1)])),
  (AN 0),
  (AN 0),
  (AN N),
  (AN 0),
  (AN N),
  (AN 0),
  (AN N),
  (AI ((↑a : Int))),
  (AI ((↑m : Int))),
  ((((↑i : Int) + 1) : Int) = (↑(i + 1) : Int)),
  (AN 2),
  ((1 : Nat) ≤ 1),
  ((1 : Nat) ≤ 1),
  (AI ((↑N : Int))),
  (AN nb),
  (AP nb (fun i_1 => [.int .i64 ((g i_1).1), .int .i64 ((g i_1).2.1), .int .i64 ((g i_1).2.2.1), .int .i64 ((g i_1).2.2.2.1)])),
  (AN 1),
  ((N : Nat) ≤ N),
  (∀ i_1 : Nat, (((i_1 : Nat) < N) → (All (cvtL false [(3, ⟨false, 1, N, (fun i_2 => (if (i_2 = (g (s i).toNat).2.1.toNat) then [.p (.int .i64 (Y (g (s i).toNat).1.toNat + (g (s i).toNat).2.2.2.1))] else [.p (.int .i64 (Y i_2))]))⟩), (2, ⟨false, 1, N, (fun i_2 => (if (i_2 = (g (s i).toNat).2.1.toNat) then [.p (.int .i64 (X (g (s i).toNat).1.toNat + (g (s i).toNat).2.2.1))] else [.p (.int .i64 (X i_2))]))⟩), (1, ⟨false, 1, N, (fun i_2 => (if (i_2 = (g (s i).toNat).2.1.toNat) then [.p (.bool true)] else [.p (.bool (K i_2))]))⟩), (388, ⟨true, 4, 1, (fun i_2 => [.p (.int .i64 ((g (s i).toNat).1)), .p (.int .i64 ((g (s i).toNat).2.1)), .p (.int .i64 ((g (s i).toNat).2.2.1)), .p (.int .i64 ((g (s i).toNat).2.2.2.1))])⟩), (0, ⟨true, 2, 1, (fun i_2 => [.p (.int .i64 (↑N : Int)), .p (.seq true 4 nb (fun i_3 => [.int .i64 ((g i_3).1), .int .i64 ((g i_3).2.1), .int .i64 ((g i_3).2.2.1), .int .i64 ((g i_3).2.2.2.1)]))])⟩)] [0, 1, 2, 3] 1 (if (i_1 = (g (s i).toNat).2.1.toNat) then [.p (.bool true)] else [.p (.bool (K i_1))])).2 ∧ (((cvtL false [(3, ⟨false, 1, N, (fun i_2 => (if (i_2 = (g (s i).toNat).2.1.toNat) then [.p (.int .i64 (Y (g (s i).toNat).1.toNat + (g (s i).toNat).2.2.2.1))] else [.p (.int .i64 (Y i_2))]))⟩), (2, ⟨false, 1, N, (fun i_2 => (if (i_2 = (g (s i).toNat).2.1.toNat) then [.p (.int .i64 (X (g (s i).toNat).1.toNat + (g (s i).toNat).2.2.1))] else [.p (.int .i64 (X i_2))]))⟩), (1, ⟨false, 1, N, (fun i_2 => (if (i_2 = (g (s i).toNat).2.1.toNat) then [.p (.bool true)] else [.p (.bool (K i_2))]))⟩), (388, ⟨true, 4, 1, (fun i_2 => [.p (.int .i64 ((g (s i).toNat).1)), .p (.int .i64 ((g (s i).toNat).2.1)), .p (.int .i64 ((g (s i).toNat).2.2.1)), .p (.int .i64 ((g (s i).toNat).2.2.2.1))])⟩), (0, ⟨true, 2, 1, (fun i_2 => [.p (.int .i64 (↑N : Int)), .p (.seq true 4 nb (fun i_3 => [.int .i64 ((g i_3).1), .int .i64 ((g i_3).2.1), .int .i64 ((g i_3).2.2.1), .int .i64 ((g i_3).2.2.2.1)]))])⟩)] [0, 1, 2, 3] 1 (if (i_1 = (g (s i).toNat).2.1.toNat) then [.p (.bool true)] else [.p (.bool (K i_1))])).1 : List AV) = [.p (.bool (up K (gb g s i).2.1.toNat true i_1))])))),
  (AN 1),
  ((N : Nat) ≤ N),
  (∀ i_1 : Nat, (((i_1 : Nat) < N) → (All (cvtL false [(3, ⟨false, 1, N, (fun i_2 => (if (i_2 = (g (s i).toNat).2.1.toNat) then [.p (.int .i64 (Y (g (s i).toNat).1.toNat + (g (s i).toNat).2.2.2.1))] else [.p (.int .i64 (Y i_2))]))⟩), (2, ⟨false, 1, N, (fun i_2 => (if (i_2 = (g (s i).toNat).2.1.toNat) then [.p (.int .i64 (X (g (s i).toNat).1.toNat + (g (s i).toNat).2.2.1))] else [.p (.int .i64 (X i_2))]))⟩), (1, ⟨false, 1, N, (fun i_2 => (if (i_2 = (g (s i).toNat).2.1.toNat) then [.p (.bool true)] else [.p (.bool (K i_2))]))⟩), (388, ⟨true, 4, 1, (fun i_2 => [.p (.int .i64 ((g (s i).toNat).1)), .p (.int .i64 ((g (s i).toNat).2.1)), .p (.int .i64 ((g (s i).toNat).2.2.1)), .p (.int .i64 ((g (s i).toNat).2.2.2.1))])⟩), (0, ⟨true, 2, 1, (fun i_2 => [.p (.int .i64 (↑N : Int)), .p (.seq true 4 nb (fun i_3 => [.int .i64 ((g i_3).1), .int .i64 ((g i_3).2.1), .int .i64 ((g i_3).2.2.1), .int .i64 ((g i_3).2.2.2.1)]))])⟩)] [0, 1, 2, 3] 1 (if (i_1 = (g (s i).toNat).2.1.toNat) then [.p (.int .i64 (X (g (s i).toNat).1.toNat + (g (s i).toNat).2.2.1))] else [.p (.int .i64 (X i_1))])).2 ∧ (((cvtL false [(3, ⟨false, 1, N, (fun i_2 => (if (i_2 = (g (s i).toNat).2.1.toNat) then [.p (.int .i64 (Y (g (s i).toNat).1.toNat + (g (s i).toNat).2.2.2.1))] else [.p (.int .i64 (Y i_2))]))⟩), (2, ⟨false, 1, N, (fun i_2 => (if (i_2 = (g (s i).toNat).2.1.toNat) then [.p (.int .i64 (X (g (s i).toNat).1.toNat + (g (s i).toNat).2.2.1))] else [.p (.int .i64 (X i_2))]))⟩), (1, ⟨false, 1, N, (fun i_2 => (if (i_2 = (g (s i).toNat).2.1.toNat) then [.p (.bool true)] else [.p (.bool (K i_2))]))⟩), (388, ⟨true, 4, 1, (fun i_2 => [.p (.int .i64 ((g (s i).toNat).1)), .p (.int .i64 ((g (s i).toNat).2.1)), .p (.int .i64 ((g (s i).toNat).2.2.1)), .p (.int .i64 ((g (s i).toNat).2.2.2.1))])⟩), (0, ⟨true, 2, 1, (fun i_2 => [.p (.int .i64 (↑N : Int)), .p (.seq true 4 nb (fun i_3 => [.int .i64 ((g i_3).1), .int .i64 ((g i_3).2.1), .int .i64 ((g i_3).2.2.1), .int .i64 ((g i_3).2.2.2.1)]))])⟩)] [0, 1, 2, 3] 1 (if (i_1 = (g (s i).toNat).2.1.toNat) then [.p (.int .i64 (X (g (s i).toNat).1.toNat + (g (s i).toNat).2.2.1))] else [.p (.int .i64 (X i_1))])).1 : List AV) = [.p (.int .i64 (up X (gb g s i).2.1.toNat (X (gb g s i).1.toNat + (gb g s i).2.2.1) i_1))])))),
  (AN 1),
  ((N : Nat) ≤ N),
  (∀ i_1 : Nat, (((i_1 : Nat) < N) → (All (cvtL false [(3, ⟨false, 1, N, (fun i_2 => (if (i_2 = (g (s i).toNat).2.1.toNat) then [.p (.int .i64 (Y (g (s i).toNat).1.toNat + (g (s i).toNat).2.2.2.1))] else [.p (.int .i64 (Y i_2))]))⟩), (2, ⟨false, 1, N, (fun i_2 => (if (i_2 = (g (s i).toNat).2.1.toNat) then [.p (.int .i64 (X (g (s i).toNat).1.toNat + (g (s i).toNat).2.2.1))] else [.p (.int .i64 (X i_2))]))⟩), (1, ⟨false, 1, N, (fun i_2 => (if (i_2 = (g (s i).toNat).2.1.toNat) then [.p (.bool true)] else [.p (.bool (K i_2))]))⟩), (388, ⟨true, 4, 1, (fun i_2 => [.p (.int .i64 ((g (s i).toNat).1)), .p (.int .i64 ((g (s i).toNat).2.1)), .p (.int .i64 ((g (s i).toNat).2.2.1)), .p (.int .i64 ((g (s i).toNat).2.2.2.1))])⟩), (0, ⟨true, 2, 1, (fun i_2 => [.p (.int .i64 (↑N : Int)), .p (.seq true 4 nb (fun i_3 => [.int .i64 ((g i_3).1), .int .i64 ((g i_3).2.1), .int .i64 ((g i_3).2.2.1), .int .i64 ((g i_3).2.2.2.1)]))])⟩)] [0, 1, 2, 3] 1 (if (i_1 = (g (s i).toNat).2.1.toNat) then [.p (.int .i64 (Y (g (s i).toNat).1.toNat + (g (s i).toNat).2.2.2.1))] else [.p (.int .i64 (Y i_1))])).2 ∧ (((cvtL false [(3, ⟨false, 1, N, (fun i_2 => (if (i_2 = (g (s i).toNat).2.1.toNat) then [.p (.int .i64 (Y (g (s i).toNat).1.toNat + (g (s i).toNat).2.2.2.1))] else [.p (.int .i64 (Y i_2))]))⟩), (2, ⟨false, 1, N, (fun i_2 => (if (i_2 = (g (s i).toNat).2.1.toNat) then [.p (.int .i64 (X (g (s i).toNat).1.toNat + (g (s i).toNat).2.2.1))] else [.p (.int .i64 (X i_2))]))⟩), (1, ⟨false, 1, N, (fun i_2 => (if (i_2 = (g (s i).toNat).2.1.toNat) then [.p (.bool true)] else [.p (.bool (K i_2))]))⟩), (388, ⟨true, 4, 1, (fun i_2 => [.p (.int .i64 ((g (s i).toNat).1)), .p (.int .i64 ((g (s i).toNat).2.1)), .p (.int .i64 ((g (s i).toNat).2.2.1)), .p (.int .i64 ((g (s i).toNat).2.2.2.1))])⟩), (0, ⟨true, 2, 1, (fun i_2 => [.p (.int .i64 (↑N : Int)), .p (.seq true 4 nb (fun i_3 => [.int .i64 ((g i_3).1), .int .i64 ((g i_3).2.1), .int .i64 ((g i_3).2.2.1), .int .i64 ((g i_3).2.2.2.1)]))])⟩)] [0, 1, 2, 3] 1 (if (i_1 = (g (s i).toNat).2.1.toNat) then [.p (.int .i64 (Y (g (s i).toNat).1.toNat + (g (s i).toNat).2.2.2.1))] else [.p (.int .i64 (Y i_1))])).1 : List AV) = [.p (.int .i64 (up Y (gb g s i).2.1.toNat (Y (gb g s i).1.toNat + (gb g s i).2.2.2.1) i_1))]))))]) := by kernel_rfl
theorem bS2b (g : Nat → T_GainBar) (nb N n : Nat) (s : Nat → Int) (K : Nat → Bool) (X Y : Nat → Int) (a m i : Nat) :
    pieceOb Try.prog 0 [.reg [oT, oT, oT, oT], .dec true, .reg [oT, oT, oT, oT, oT, oT, oT, oT, oT, oT], .reg [oT, oT, oT, oT, oT, oT, oT, oT, oT, oT, oT, oT, oT], .dec false, .reg [oT, oT, oT, oT, oT, oT, oT, oT, oT, oT, oT, oT, oT], .dec true, .reg [oT, oT, oT, oT, oT], .reg [oT, oT, oT, oT, oT, oT, oT, oT, oT, oT, oT, oT, oT], .reg [oT, oT, oT, oT, oT, oT, oT, oT, oT, oT, oT, oT, oT], .reg [oT, oT, oT], .head] [.code (cAt (bodyOf Try.f78) [1, 1, 1, 1, 1, 0, 1, 0, 0, 1, 0, 0, 1, 1, 1, 0, 0, 1, 0, 0, 1, 0, 0]), .inLoop (cAt (bodyOf Try.f78) [1, 1, 1, 1, 1, 0, 1, 0, 0, 1, 0, 0, 1, 1, 1, 0, 0, 1, 0, 0, 1, 0, 0]), .inBlock 4, .inBlock 3, .code (cAt (bodyOf Try.f78) [1, 1, 1, 1, 1, 0, 1, 0, 0, 1, 0, 0, 1, 1, 1, 0, 0, 1, 1]), .inLoop (cAt (bodyOf Try.f78) [1, 1, 1, 1, 1, 0, 1, 0, 0, 1, 0, 0, 1, 1, 1, 0, 0]), .inBlock 2, .inBlock 1, .code (cAt (bodyOf Try.f78) [1, 1, 1, 1, 1, 0, 1, 0, 0, 1, 1]), .inLoop (cAt (bodyOf Try.f78) [1, 1, 1, 1, 1, 0, 1, 0, 0]), .inBlock 0, .code (cAt (bodyOf Try.f78) [1, 1, 1, 1, 1, 1])] (SB2 g nb N n s K X Y a m i) [0, 1, 2, 3] 1 (SB2 g nb N n s (up K (gb g s i).1.toNat true) (up X (gb g s i).1.toNat (X (gb g s i).2.1.toNat - (gb g s i).2.2.1)) (up Y (gb g s i).1.toNat (Y (gb g s i).2.1.toNat - (gb g s i).2.2.2.1)) a m (i + 1)) =
    some ([.code (cAt (bodyOf Try.f78) [1, 1, 1, 1, 1, 0, 1, 0, 0, 1, 0, 0, 1, 1, 1, 0, 0, 1, 0, 0, 1, 0, 0]), .inLoop (cAt (bodyOf Try.f78) [1, 1, 1, 1, 1, 0, 1, 0, 0, 1, 0, 0, 1, 1, 1, 0, 0, 1, 0, 0, 1, 0, 0]), .inBlock 4, .inBlock 3, .code (cAt (bodyOf Try.f78) [1, 1, 1, 1, 1, 0, 1, 0, 0, 1, 0, 0, 1, 1, 1, 0, 0, 1, 1]), .inLoop (cAt (bodyOf Try.f78) [1, 1, 1, 1, 1, 0, 1, 0, 0, 1, 0, 0, 1, 1, 1, 0, 0]), .inBlock 2, .inBlock 1, .code (cAt (bodyOf Try.f78) [1, 1, 1, 1, 1, 0, 1, 0, 0, 1, 1]), .inLoop (cAt (bodyOf Try.f78) [1, 1, 1, 1, 1, 0, 1, 0, 0]), .inBlock 0, .code (cAt (bodyOf Try.f78) [1, 1, 1, 1, 1, 1])], [((decide ((↑i : Int) < (↑n : Int))) = true),
  ((0 : Nat) < 1),
  ((0 : Int) ≤ (↑i : Int)),
  (((↑i : Int) : Int) < (↑n : Int)),
  ((0 : Int) ≤ (s i)),
  (((s i) : Int) < (↑nb : Int)),
  ((0 : Nat) < 1),
  ((true = true) → (AN 1)),
  ((0 : Nat) < 1),
  ((0 : Int) ≤ ((g (s i).toNat).1)),
  ((((g (s i).toNat).1) : Int) < (↑N : Int)),
  ((((g (s i).toNat).1.toNat) : Nat) < N),
  (AG (K (g (s i).toNat).1.toNat)),
  (((K (g (s i).toNat).1.toNat) = true) → ((0 : Nat) < 1)),
  (AG (K (g (s i).toNat).1.toNat)),
  (AG (K (g (s i).toNat).1.toNat)),
  (((K (g (s i).toNat).1.toNat) = true) → ((0 : Int) ≤ ((g (s i).toNat).2.1))),
  (((K (g (s i).toNat).1.toNat) = true) → ((((g (s i).toNat).2.1) : Int) < (↑N : Int))),
  (AG (K (g (s i).toNat).1.toNat)),
  (((K (g (s i).toNat).1.toNat) = true) → ((((g (s i).toNat).2.1.toNat) : Nat) < N)),
  (AG (K (g (s i).toNat).1.toNat)),
  (AG (K (g (s i).toNat).1.toNat)),
  ((bif K (g (s i).toNat).1.toNat then !K (g (s i).toNat).2.1.toNat else false) = false),
  ((0 : Nat) < 1),
  ((0 : Int) ≤ ((g (s i).toNat).2.1)),
  ((((g (s i).toNat).2.1) : Int) < (↑N : Int)),
  ((((g (s i).toNat).2.1.toNat) : Nat) < N),
  (AG (K (g (s i).toNat).2.1.toNat)),
  (((K (g (s i).toNat).2.1.toNat) = true) → ((0 : Nat) < 1)),
  (AG (K (g (s i).toNat).2.1.toNat)),
  (AG (K (g (s i).toNat).2.1.toNat)),
  (((K (g (s i).toNat).2.1.toNat) = true) → ((0 : Int) ≤ ((g (s i).toNat).1))),
  (((K (g (s i).toNat).2.1.toNat) = true) → ((((g (s i).toNat).1) : Int) < (↑N : Int))),
  (AG (K (g (s i).toNat).2.1.toNat)),
  (((K (g (s i).toNat).2.1.toNat) = true) → ((((g (s i).toNat).1.toNat) : Nat) < N)),
  (AG (K (g (s i).toNat).2.1.toNat)),
  (AG (K (g (s i).toNat).2.1.toNat)),
  ((bif K (g (s i).toNat).2.1.toNat then !K (g (s i).toNat).1.toNat else false) = true),
  ((0 : Nat) < 1),
  ((0 : Int) ≤ ((g (s i).toNat).1)),
  ((((g (s i).toNat).1) : Int) < (↑N : Int)),
  ((((g (s i).toNat).1.toNat) : Nat) < N),
  ((false = true) → ((N : Nat) = 1)),
  ((0 : Nat) < 1),
  ((0 : Nat) < 1),
  ((0 : Int) ≤ ((g (s i).toNat).2.1)),
  ((((g (s i).toNat).2.1) : Int) < (↑N : Int)),
  ((((g (s i).toNat).2.1.toNat) : Nat) < N),
  ((0 : Nat) < 1),
  (((-9223372036854775808) : Int) ≤ (X (g (s i).toNat).2.1.toNat - (g (s i).toNat).2.2.1)),
  (((X (g (s i).toNat).2.1.toNat - (g (s i).toNat).2.2.1) : Int) ≤ 9223372036854775807),
  ((0 : Int) ≤ ((g (s i).toNat).1)),
  ((((g (s i).toNat).1) : Int) < (↑N : Int)),
  ((((g (s i).toNat).1.toNat) : Nat) < N),
  ((false = true) → ((N : Nat) = 1)),
  ((0 : Nat) < 1),
  ((0 : Nat) < 1),
  ((0 : Int) ≤ ((g (s i).toNat).2.1)),
  ((((g (s i).toNat).2.1) : Int) < (↑N : Int)),
  ((((g (s i).toNat).2.1.toNat) : Nat) < N),
  ((0 : Nat) < 1),
  (((-9223372036854775808) : Int) ≤ (Y (g (s i).toNat).2.1.toNat - (g (s i).toNat).2.2.2.1)),
  (((Y (g (s i).toNat).2.1.toNat - (g (s i).toNat).2.2.2.1) : Int) ≤ 9223372036854775807),
  ((0 : Int) ≤ ((g (s i).toNat).1)),
  ((((g (s i).toNat).1) : Int) < (↑N : Int)),
  ((((g (s i).toNat).1.toNat) : Nat) < N),
  ((false = true) → ((N : Nat) = 1)),
  (((-9223372036854775808) : Int) ≤ ((↑i : Int) + 1)),
  ((((↑i : Int) + 1) : Int) ≤ 9223372036854775807),
  (AI ((↑N : Int))),
  (AN nb),
  (AP nb (fun i_1 => [.int .i64 ((g i_1).1), .int .i64 ((g i_1).2.1), .int .i64 ((g i_1).2.2.1), .int .i64 ((g i_1).2.2.2.1)])),
  (AN n),
  (AP n (fun i_1 => [.int .i64 (s i_1)])),
  (AN 0),
  (AN 0),
  (AN N),
  (AN 0),
  (AN N),
  (AN 0),
  (AN N),
  (AI ((↑a : Int))),
  (AI ((↑m : Int))),
  ((((↑i : Int) + 1) : Int) = (↑(i + 1) : Int)),
  (AN 2),
  ((1 : Nat) ≤ 1),
  ((1 : Nat) ≤ 1),
  (AI ((↑N : Int))),
  (AN nb),
  (AP nb (fun i_1 => [.int .i64 ((g i_1).1), .int .i64 ((g i_1).2.1), .int .i64 ((g i_1).2.2.1), .int .i64 ((g i_1).2.2.2.1)])),
  (AN 1),
  ((N : Nat) ≤ N),
  (∀ i_1 : Nat, (((i_1 : Nat) < N) → (All (cvtL false [(3, ⟨false, 1, N, (fun i_2 => (if (i_2 = (g (s i).toNat).1.toNat) then [.p (.int .i64 (Y (g (s i).toNat).2.1.toNat - (g (s i).toNat).2.2.2.1))] else [.p (.int .i64 (Y i_2))]))⟩), (2, ⟨false, 1, N, (fun i_2 => (if (i_2 = (g (s i).toNat).1.toNat) then [.p (.int .i64 (X (g (s i).toNat).2.1.toNat - (g (s i).toNat).2.2.1))] else [.p (.int .i64 (X i_2))]))⟩), (1, ⟨false, 1, N, (fun i_2 => (if (i_2 = (g (s i).toNat).1.toNat) then [.p (.bool true)] else [.p (.bool (K i_2))]))⟩), (388, ⟨true, 4, 1, (fun i_2 => [.p (.int .i64 ((g (s i).toNat).1)), .p (.int .i64 ((g (s i).toNat).2.1)), .p (.int .i64 ((g (s i).toNat).2.2.1)), .p (.int .i64 ((g (s i).toNat).2.2.2.1))])⟩), (0, ⟨true, 2, 1, (fun i_2 => [.p (.int .i64 (↑N : Int)), .p (.seq true 4 nb (fun i_3 => [.int .i64 ((g i_3).1), .int .i64 ((g i_3).2.1), .int .i64 ((g i_3).2.2.1), .int .i64 ((g i_3).2.2.2.1)]))])⟩)] [0, 1, 2, 3] 1 (if (i_1 = (g (s i).toNat).1.toNat) then [.p (.bool true)] else [.p (.bool (K i_1))])).2 ∧ (((cvtL false [(3, ⟨false, 1, N, (fun i_2 => (if (i_2 = (g (s i).toNat).1.toNat) then [.p (.int .i64 (Y (g (s i).toNat).2.1.toNat - (g (s i).toNat).2.2.2.1))] else [.p (.int .i64 (Y i_2))]))⟩), (2, ⟨false, 1, N, (fun i_2 => (if (i_2 = (g (s i).toNat).1.toNat) then [.p (.int .i64 (X (g (s i).toNat).2.1.toNat - (g (s i).toNat).2.2.1))] else [.p (.int .i64 (X i_2))]))⟩), (1, ⟨false, 1, N, (fun i_2 => (if (i_2 = (g (s i).toNat).1.toNat) then [.p (.bool true)] else [.p (.bool (K i_2))]))⟩), (388, ⟨true, 4, 1, (fun i_2 => [.p (.int .i64 ((g (s i).toNat).1)), .p (.int .i64 ((g (s i).toNat).2.1)), .p (.int .i64 ((g (s i).toNat).2.2.1)), .p (.int .i64 ((g (s i).toNat).2.2.2.1))])⟩), (0, ⟨true, 2, 1, (fun i_2 => [.p (.int .i64 (↑N : Int)), .p (.seq true 4 nb (fun i_3 => [.int .i64 ((g i_3).1), .int .i64 ((g i_3).2.1), .int .i64 ((g i_3).2.2.1), .int .i64 ((g i_3).2.2.2.1)]))])⟩)] [0, 1, 2, 3] 1 (if (i_1 = (g (s i).toNat).1.toNat) then [.p (.bool true)] else [.p (.bool (K i_1))])).1 : List AV) = [.p (.bool (up K (gb g s i).1.toNat true i_1))])))),
  (AN 1),
  ((N : Nat) ≤ N),
  (∀ i_1 : Nat, (((i_1 : Nat) < N) → (All (cvtL false [(3, ⟨false, 1, N, (fun i_2 => (if (i_2 = (g (s i).toNat).1.toNat) then [.p (.int .i64 (Y (g (s i).toNat).2.1.toNat - (g (s i).toNat).2.2.2.1))] else [.p (.int .i64 (Y i_2))]))⟩), (2, ⟨false, 1, N, (fun i_2 => (if (i_2 = (g (s i).toNat).1.toNat) then [.p (.int .i64 (X (g (s i).toNat).2.1.toNat - (g (s i).toNat).2.2.1))] else [.p (.int .i64 (X i_2))]))⟩), (1, ⟨false, 1, N, (fun i_2 => (if (i_2 = (g (s i).toNat).1.toNat) then [.p (.bool true)] else [.p (.bool (K i_2))]))⟩), (388, ⟨true, 4, 1, (fun i_2 => [.p (.int .i64 ((g (s i).toNat).1)), .p (.int .i64 ((g (s i).toNat).2.1)), .p (.int .i64 ((g (s i).toNat).2.2.1)), .p (.int .i64 ((g (s i).toNat).2.2.2.1))])⟩), (0, ⟨true, 2, 1, (fun i_2 => [.p (.int .i64 (↑N : Int)), .p (.seq true 4 nb (fun i_3 => [.int .i64 ((g i_3).1), .int .i64 ((g i_3).2.1), .int .i64 ((g i_3).2.2.1), .int .i64 ((g i_3).2.2.2.1)]))])⟩)] [0, 1, 2, 3] 1 (if (i_1 = (g (s i).toNat).1.toNat) then [.p (.int .i64 (X (g (s i).toNat).2.1.toNat - (g (s i).toNat).2.2.1))] else [.p (.int .i64 (X i_1))])).2 ∧ (((cvtL false [(3, ⟨false, 1, N, (fun i_2 => (if (i_2 = (g (s i).toNat).1.toNat) then [.p (.int .i64 (Y (g (s i).toNat).2.1.toNat - (g (s i).toNat).2.2.2.1))] else [.p (.int .i64 (Y i_2))]))⟩), (2, ⟨false, 1, N, (fun i_2 => (if (i_2 = (g (s i).toNat).1.toNat) then [.p (.int .i64 (X (g (s i).toNat).2.1.toNat - (g (s i).toNat).2.2.1))] else [.p (.int .i64 (X i_2))]))⟩), (1, ⟨false, 1, N, (fun i_2 => (if (i_2 = (g (s i).toNat).1.toNat) then [.p (.bool true)] else [.p (.bool (K i_2))]))⟩), (388, ⟨true, 4, 1, (fun i_2 => [.p (.int .i64 ((g (s i).toNat).1)), .p (.int .i64 ((g (s i).toNat).2.1)), .p (.int .i64 ((g (s i).toNat).2.2.1)), .p (.int .i64 ((g (s i).toNat).2.2.2.1))])⟩), (0, ⟨true, 2, 1, (fun i_2 => [.p (.int .i64 (↑N : Int)), .p (.seq true 4 nb (fun i_3 => [.int .i64 ((g i_3).1), .int .i64 ((g i_3).2.1), .int .i64 ((g i_3).2.2.1), .int .i64 ((g i_3).2.2.2.1)]))])⟩)] [0, 1, 2, 3] 1 (if (i_1 = (g (s i).toNat).1.toNat) then [.p (.int .i64 (X (g (s i).toNat).2.1.toNat - (g (s i).toNat).2.2.1))] else [.p (.int .i64 (X i_1))])).1 : List AV) = [.p (.int .i64 (up X (gb g s i).1.toNat (X (gb g s i).2.1.toNat - (gb g s i).2.2.1) i_1))])))),
  (AN 1),
  ((N : Nat) ≤ N),
  (∀ i_1 : Nat, (((i_1 : Nat) < N) → (All (cvtL false [(3, ⟨false, 1, N, (fun i_2 => (if (i_2 = (g (s i).toNat).1.toNat) then [.p (.int .i64 (Y (g (s i).toNat).2.1.toNat - (g (s i).toNat).2.2.2.1))] else [.p (.int .i64 (Y i_2))]))⟩), (2, ⟨false, 1, N, (fun i_2 => (if (i_2 = (g (s i).toNat).1.toNat) then [.p (.int .i64 (X (g (s i).toNat).2.1.toNat - (g (s i).toNat).2.2.1))] else [.p (.int .i64 (X i_2))]))⟩), (1, ⟨false, 1, N, (fun i_2 => (if (i_2 = (g (s i).toNat).1.toNat) then [.p (.bool true)] else [.p (.bool (K i_2))]))⟩), (388, ⟨true, 4, 1, (fun i_2 => [.p (.int .i64 ((g (s i).toNat).1)), .p (.int .i64 ((g (s i).toNat).2.1)), .p (.int .i64 ((g (s i).toNat).2.2.1)), .p (.int .i64 ((g (s i).toNat).2.2.2.1))])⟩), (0, ⟨true, 2, 1, (fun i_2 => [.p (.int .i64 (↑N : Int)), .p (.seq true 4 nb (fun i_3 => [.int .i64 ((g i_3).1), .int .i64 ((g i_3).2.1), .int .i64 ((g i_3).2.2.1), .int .i64 ((g i_3).2.2.2.1)]))])⟩)] [0, 1, 2, 3] 1 (if (i_1 = (g (s i).toNat).1.toNat) then [.p (.int .i64 (Y (g (s i).toNat).2.1.toNat - (g (s i).toNat).2.2.2.1))] else [.p (.int .i64 (Y i_1))])).2 ∧ (((cvtL false [(3, ⟨false, 1, N, (fun i_2 => (if (i_2 = (g (s i).toNat).1.toNat) then [.p (.int .i64 (Y (g (s i).toNat).2.1.toNat - (g (s i).toNat).2.2.2.1))] else [.p (.int .i64 (Y i_2))]))⟩), (2, ⟨false, 1, N, (fun i_2 => (if (i_2 = (g (s i).toNat).1.toNat) then [.p (.int .i64 (X (g (s i).toNat).2.1.toNat - (g (s i).toNat).2.2.1))] else [.p (.int .i64 (X i_2))]))⟩), (1, ⟨false, 1, N, (fun i_2 => (if (i_2 = (g (s i).toNat).1.toNat) then [.p (.bool true)] else [.p (.bool (K i_2))]))⟩), (388, ⟨true, 4, 1, (fun i_2 => [.p (.int .i64 ((g (s i).toNat).1)), .p (.int .i64 ((g (s i).toNat).2.1)), .p (.int .i64 ((g (s i).toNat).2.2.1)), .p (.int .i64 ((g (s i).toNat).2.2.2.1))])⟩), (0, ⟨true, 2, 1, (fun i_2 => [.p (.int .i64 (↑N : Int)), .p (.seq true 4 nb (fun i_3 => [.int .i64 ((g i_3).1), .int .i64 ((g i_3).2.1), .int .i64 ((g i_3).2.2.1), .int .i64 ((g i_3).2.2.2.1)]))])⟩)] [0, 1, 2, 3] 1 (if (i_1 = (g (s i).toNat).1.toNat) then [.p (.int .i64 (Y (g (s i).toNat).2.1.toNat - (g (s i).toNat).2.2.2.1))] else [.p (.int .i64 (Y i_1))])).1 : List AV) = [.p (.int .i64 (up Y (gb g s i).1.toNat (Y (gb g s i).2.1.toNat - (gb g s i).2.2.2.1) i_1))]))))]) := by kernel_rfl
theorem bS2c (g : Nat → T_GainBar) (nb N n : Nat) (s : Nat → Int) (K : Nat → Bool) (X Y : Nat → Int) (a m i : Nat) :
    pieceOb Try.prog 0 [.reg [oT, oT, oT, oT], .dec true, .reg [oT, oT, oT, oT, oT, oT, oT, oT, oT, oT], .reg [oT, oT, oT, oT, oT, oT, oT, oT, oT, oT, oT, oT, oT], .dec false, .reg [oT, oT, oT, oT, oT, oT, oT, oT, oT, oT, oT, oT, oT], .dec false, .reg [oT, oT, oT], .head] [.code (cAt (bodyOf Try.f78) [1, 1, 1, 1, 1, 0, 1, 0, 0, 1, 0, 0, 1, 1, 1, 0, 0, 1, 0, 0, 1, 0, 0]), .inLoop (cAt (bodyOf Try.f78) [1, 1, 1, 1, 1, 0, 1, 0, 0, 1, 0, 0, 1, 1, 1, 0, 0, 1, 0, 0, 1, 0, 0]), .inBlock 4, .inBlock 3, .code (cAt (bodyOf Try.f78) [1, 1, 1, 1, 1, 0, 1, 0, 0, 1, 0, 0, 1, 1, 1, 0, 0, 1, 1]), .inLoop (cAt (bodyOf Try.f78) [1, 1, 1, 1, 1, 0, 1, 0, 0, 1, 0, 0, 1, 1, 1, 0, 0]), .inBlock 2, .inBlock 1, .code (cAt (bodyOf Try.f78) [1, 1, 1, 1, 1, 0, 1, 0, 0, 1, 1]), .inLoop (cAt (bodyOf Try.f78) [1, 1, 1, 1, 1, 0, 1, 0, 0]), .inBlock 0, .code (cAt (bodyOf Try.f78) [1, 1, 1, 1, 1, 1])] (SB2 g nb N n s K X Y a m i) [0, 1, 2, 3] 1 (SB2 g nb N n s K X Y a m (i + 1)) =
    some ([.code (cAt (bodyOf Try.f78) [1, 1, 1, 1, 1, 0, 1, 0, 0, 1, 0, 0, 1, 1, 1, 0, 0, 1, 0, 0, 1, 0, 0]), .inLoop (cAt (bodyOf Try.f78) [1, 1, 1, 1, 1, 0, 1, 0, 0, 1, 0, 0, 1, 1, 1, 0, 0, 1, 0, 0, 1, 0, 0]), .inBlock 4, .inBlock 3, .code (cAt (bodyOf Try.f78) [1, 1, 1, 1, 1, 0, 1, 0, 0, 1, 0, 0, 1, 1, 1, 0, 0, 1, 1]), .inLoop (cAt (bodyOf Try.f78) [1, 1, 1, 1, 1, 0, 1, 0, 0, 1, 0, 0, 1, 1, 1, 0, 0]), .inBlock 2, .inBlock 1, .code (cAt (bodyOf Try.f78) [1, 1, 1, 1, 1, 0, 1, 0, 0, 1, 1]), .inLoop (cAt (bodyOf Try.f78) [1, 1, 1, 1, 1, 0, 1, 0, 0]), .inBlock 0, .code (cAt (bodyOf Try.f78) [1, 1, 1, 1, 1, 1])], [((decide ((↑i : Int) < (↑n : Int))) = true),
  ((0 : Nat) < 1),
  ((0 : Int) ≤ (↑i : Int)),
  (((↑i : Int) : Int) < (↑n : Int)),
  ((0 : Int) ≤ (s i)),
  (((s i) : Int) < (↑nb : Int)),
  ((0 : Nat) < 1),
  ((true = true) → (AN 1)),
  ((0 : Nat) < 1),
  ((0 : Int) ≤ ((g (s i).toNat).1)),
  ((((g (s i).toNat).1) : Int) < (↑N : Int)),
  ((((g (s i).toNat).1.toNat) : Nat) < N),
  (AG (K (g (s i).toNat).1.toNat)),
  (((K (g (s i).toNat).1.toNat) = true) → ((0 : Nat) < 1)),
  (AG (K (g (s i).toNat).1.toNat)),
  (AG (K (g (s i).toNat).1.toNat)),
  (((K (g (s i).toNat).1.toNat) = true) → ((0 : Int) ≤ ((g (s i).toNat).2.1))),
  (((K (g (s i).toNat).1.toNat) = true) → ((((g (s i).toNat).2.1) : Int) < (↑N : Int))),
  (AG (K (g (s i).toNat).1.toNat)),
  (((K (g (s i).toNat).1.toNat) = true) → ((((g (s i).toNat).2.1.toNat) : Nat) < N)),
  (AG (K (g (s i).toNat).1.toNat)),
  (AG (K (g (s i).toNat).1.toNat)),
  ((bif K (g (s i).toNat).1.toNat then !K (g (s i).toNat).2.1.toNat else false) = false),
  ((0 : Nat) < 1),
  ((0 : Int) ≤ ((g (s i).toNat).2.1)),
  ((((g (s i).toNat).2.1) : Int) < (↑N : Int)),
  ((((g (s i).toNat).2.1.toNat) : Nat) < N),
  (AG (K (g (s i).toNat).2.1.toNat)),
  (((K (g (s i).toNat).2.1.toNat) = true) → ((0 : Nat) < 1)),
  (AG (K (g (s i).toNat).2.1.toNat)),
  (AG (K (g (s i).toNat).2.1.toNat)),
  (((K (g (s i).toNat).2.1.toNat) = true) → ((0 : Int) ≤ ((g (s i).toNat).1))),
  (((K (g (s i).toNat).2.1.toNat) = true) → ((((g (s i).toNat).1) : Int) < (↑N : Int))),
  (AG (K (g (s i).toNat).2.1.toNat)),
  (((K (g (s i).toNat).2.1.toNat) = true) → ((((g (s i).toNat).1.toNat) : Nat) < N)),
  (AG (K (g (s i).toNat).2.1.toNat)),
  (AG (K (g (s i).toNat).2.1.toNat)),
  ((bif K (g (s i).toNat).2.1.toNat then !K (g (s i).toNat).1.toNat else false) = false),
  (((-9223372036854775808) : Int) ≤ ((↑i : Int) + 1)),
  ((((↑i : Int) + 1) : Int) ≤ 9223372036854775807),
  (AI ((↑N : Int))),
  (AN nb),
  (AP nb (fun i_1 => [.int .i64 ((g i_1).1), .int .i64 ((g i_1).2.1), .int .i64 ((g i_1).2.2.1), .int .i64 ((g i_1).2.2.2.1)])),
  (AN n),
  (AP n (fun i_1 => [.int .i64 (s i_1)])),
  (AN 0),
  (AN 0),
  (AN N),
  (AN 0),
  (AN N),
  (AN 0),
  (AN N),
  (AI ((↑a : Int))),
  (AI ((↑m : Int))),
  ((((↑i : Int) + 1) : Int) = (↑(i + 1) : Int)),
  (AN 2),
  ((1 : Nat) ≤ 1),
  ((1 : Nat) ≤ 1),
  (AI ((↑N : Int))),
  (AN nb),
  (AP nb (fun i_1 => [.int .i64 ((g i_1).1), .int .i64 ((g i_1).2.1), .int .i64 ((g i_1).2.2.1), .int .i64 ((g i_1).2.2.2.1)])),
  (AN 1),
  ((N : Nat) ≤ N),
  (AA N (fun i_1 => [.p (.bool (K i_1))])),
  (AN 1),
  ((N : Nat) ≤ N),
  (AA N (fun i_1 => [.p (.int .i64 (X i_1))])),
  (AN 1),
  ((N : Nat) ≤ N),
  (AA N (fun i_1 => [.p (.int .i64 (Y i_1))]))]) := by kernel_rfl
theorem bS0e (g : Nat → T_GainBar) (nb N n : Nat) (s : Nat → Int) (K : Nat → Bool) (X Y : Nat → Int) (a : Nat) :
    pieceOb Try.prog 0 [.reg [oT, oT, oT, oT], .dec false, .reg [oT], .head] [.code (cAt (bodyOf Try.f78) [1, 1, 1, 1, 1, 0, 1, 0, 0]), .inLoop (cAt (bodyOf Try.f78) [1, 1, 1, 1, 1, 0, 1, 0, 0]), .inBlock 0, .code (cAt (bodyOf Try.f78) [1, 1, 1, 1, 1, 1])] (SB0 g nb N n s K X Y a) [0, 1, 2, 3] 1 (SB3 g nb N n s K X Y 0) =
    some ([.code (cAt (bodyOf Try.f78) [1, 1, 1, 1, 1, 1, 0, 1, 0, 0]), .inLoop (cAt (bodyOf Try.f78) [1, 1, 1, 1, 1, 1, 0, 1, 0, 0]), .inBlock 6, .code (cAt (bodyOf Try.f78) [1, 1, 1, 1, 1, 1, 1])], [((0 : Nat) < 1),
  ((decide ((↑a : Int) < (↑N : Int))) = false),
  (AI ((↑N : Int))),
  (AN nb),
  (AP nb (fun i => [.int .i64 ((g i).1), .int .i64 ((g i).2.1), .int .i64 ((g i).2.2.1), .int .i64 ((g i).2.2.2.1)])),
  (AN n),
  (AP n (fun i => [.int .i64 (s i)])),
  (AN 0),
  (AN 0),
  (AN N),
  (AN 0),
  (AN N),
  (AN 0),
  (AN N),
  ((0 : Int) = (↑0 : Int)),
  (AN 2),
  ((1 : Nat) ≤ 1),
  ((1 : Nat) ≤ 1),
  (AI ((↑N : Int))),
  (AN nb),
  (AP nb (fun i => [.int .i64 ((g i).1), .int .i64 ((g i).2.1), .int .i64 ((g i).2.2.1), .int .i64 ((g i).2.2.2.1)])),
  (AN 1),
  ((N : Nat) ≤ N),
  (AA N (fun i => [.p (.bool (K i))])),
  (AN 1),
  ((N : Nat) ≤ N),
  (AA N (fun i => [.p (.int .i64 (X i))])),
  (AN 1),
  ((N : Nat) ≤ N),
  (AA N (fun i => [.p (.int .i64 (Y i))]))]) := by kernel_rfl
theorem bS3 (g : Nat → T_GainBar) (nb N n : Nat) (s : Nat → Int) (K : Nat → Bool) (X Y : Nat → Int) (i : Nat) :
    pieceOb Try.prog 0 [.reg [oT, oT, oT, oT], .dec true, .reg [oT, oT, oT, oT, oT, oT, oT, oT, oT, oT], .reg [oT, oT, oT, oT, oT, oT, oT, oT, oT, oT, oT, oT, oT, oT, oT, oT, oT, oT, oT, oT, oT, oT, oT, oT, oT, oT, oT, oT, oT, oT], .dec false, .reg [oT, oT, oT], .head] [.code (cAt (bodyOf Try.f78) [1, 1, 1, 1, 1, 1, 0, 1, 0, 0]), .inLoop (cAt (bodyOf Try.f78) [1, 1, 1, 1, 1, 1, 0, 1, 0, 0]), .inBlock 6, .code (cAt (bodyOf Try.f78) [1, 1, 1, 1, 1, 1, 1])] (SB3 g nb N n s K X Y i) [0, 1, 2, 3] 1 (SB3 g nb N n s K X Y (i + 1)) =
    some ([.code (cAt (bodyOf Try.f78) [1, 1, 1, 1, 1, 1, 0, 1, 0, 0]), .inLoop (cAt (bodyOf Try.f78) [1, 1, 1, 1, 1, 1, 0, 1, 0, 0]), .inBlock 6, .code (cAt (bodyOf Try.f78) [1, 1, 1, 1, 1, 1, 1])], [((decide ((↑i : Int) < (↑n : Int))) = true),
  ((0 : Nat) < 1),
  ((0 : Int) ≤ (↑i : Int)),
  (((↑i : Int) : Int) < (↑n : Int)),
  ((0 : Int) ≤ (s i)),
  (((s i) : Int) < (↑nb : Int)),
  ((0 : Nat) < 1),
  ((true = true) → (AN 1)),
  ((0 : Nat) < 1),
  ((0 : Int) ≤ ((g (s i).toNat).1)),
  ((((g (s i).toNat).1) : Int) < (↑N : Int)),
  ((((g (s i).toNat).1.toNat) : Nat) < N),
  ((0 : Nat) < 1),
  (((-9223372036854775808) : Int) ≤ (X (g (s i).toNat).1.toNat + (g (s i).toNat).2.2.1)),
  (((X (g (s i).toNat).1.toNat + (g (s i).toNat).2.2.1) : Int) ≤ 9223372036854775807),
  ((0 : Nat) < 1),
  ((0 : Int) ≤ ((g (s i).toNat).2.1)),
  ((((g (s i).toNat).2.1) : Int) < (↑N : Int)),
  ((((g (s i).toNat).2.1.toNat) : Nat) < N),
  (AG (!X (g (s i).toNat).1.toNat + (g (s i).toNat).2.2.1 != X (g (s i).toNat).2.1.toNat)),
  (((!X (g (s i).toNat).1.toNat + (g (s i).toNat).2.2.1 != X (g (s i).toNat).2.1.toNat) = true) → ((0 : Nat) < 1)),
  (AG (!X (g (s i).toNat).1.toNat + (g (s i).toNat).2.2.1 != X (g (s i).toNat).2.1.toNat)),
  (AG (!X (g (s i).toNat).1.toNat + (g (s i).toNat).2.2.1 != X (g (s i).toNat).2.1.toNat)),
  (((!X (g (s i).toNat).1.toNat + (g (s i).toNat).2.2.1 != X (g (s i).toNat).2.1.toNat) = true) → ((0 : Int) ≤ ((g (s i).toNat).1))),
  (((!X (g (s i).toNat).1.toNat + (g (s i).toNat).2.2.1 != X (g (s i).toNat).2.1.toNat) = true) → ((((g (s i).toNat).1) : Int) < (↑N : Int))),
  (AG (!X (g (s i).toNat).1.toNat + (g (s i).toNat).2.2.1 != X (g (s i).toNat).2.1.toNat)),
  (((!X (g (s i).toNat).1.toNat + (g (s i).toNat).2.2.1 != X (g (s i).toNat).2.1.toNat) = true) → ((((g (s i).toNat).1.toNat) : Nat) < N)),
  (AG (!X (g (s i).toNat).1.toNat + (g (s i).toNat).2.2.1 != X (g (s i).toNat).2.1.toNat)),
  (((!X (g (s i).toNat).1.toNat + (g (s i).toNat).2.2.1 != X (g (s i).toNat).2.1.toNat) = true) → ((0 : Nat) < 1)),
  (AG (!X (g (s i).toNat).1.toNat + (g (s i).toNat).2.2.1 != X (g (s i).toNat).2.1.toNat)),
  (AG (!X (g (s i).toNat).1.toNat + (g (s i).toNat).2.2.1 != X (g (s i).toNat).2.1.toNat)),
  (((!X (g (s i).toNat).1.toNat + (g (s i).toNat).2.2.1 != X (g (s i).toNat).2.1.toNat) = true) → (((-9223372036854775808) : Int) ≤ (Y (g (s i).toNat).1.toNat + (g (s i).toNat).2.2.2.1))),
  (((!X (g (s i).toNat).1.toNat + (g (s i).toNat).2.2.1 != X (g (s i).toNat).2.1.toNat) = true) → (((Y (g (s i).toNat).1.toNat + (g (s i).toNat).2.2.2.1) : Int) ≤ 9223372036854775807)),
  (AG (!X (g (s i).toNat).1.toNat + (g (s i).toNat).2.2.1 != X (g (s i).toNat).2.1.toNat)),
  (((!X (g (s i).toNat).1.toNat + (g (s i).toNat).2.2.1 != X (g (s i).toNat).2.1.toNat) = true) → ((0 : Nat) < 1)),
  (AG (!X (g (s i).toNat).1.toNat + (g (s i).toNat).2.2.1 != X (g (s i).toNat).2.1.toNat)),
  (AG (!X (g (s i).toNat).1.toNat + (g (s i).toNat).2.2.1 != X (g (s i).toNat).2.1.toNat)),
  (((!X (g (s i).toNat).1.toNat + (g (s i).toNat).2.2.1 != X (g (s i).toNat).2.1.toNat) = true) → ((0 : Int) ≤ ((g (s i).toNat).2.1))),
  (((!X (g (s i).toNat).1.toNat + (g (s i).toNat).2.2.1 != X (g (s i).toNat).2.1.toNat) = true) → ((((g (s i).toNat).2.1) : Int) < (↑N : Int))),
  (AG (!X (g (s i).toNat).1.toNat + (g (s i).toNat).2.2.1 != X (g (s i).toNat).2.1.toNat)),
  (((!X (g (s i).toNat).1.toNat + (g (s i).toNat).2.2.1 != X (g (s i).toNat).2.1.toNat) = true) → ((((g (s i).toNat).2.1.toNat) : Nat) < N)),
  (AG (!X (g (s i).toNat).1.toNat + (g (s i).toNat).2.2.1 != X (g (s i).toNat).2.1.toNat)),
  (AG (!X (g (s i).toNat).1.toNat + (g (s i).toNat).2.2.1 != X (g (s i).toNat).2.1.toNat)),
  (((X (g (s i).toNat).1.toNat + (g (s i).toNat).2.2.1 != X (g (s i).toNat).2.1.toNat) = false) → ((!X (g (s i).toNat).1.toNat + (g (s i).toNat).2.2.1 != X (g (s i).toNat).2.1.toNat) = true)),
  ((bif X (g (s i).toNat).1.toNat + (g (s i).toNat).2.2.1 != X (g (s i).toNat).2.1.toNat then true else Y (g (s i).toNat).1.toNat + (g (s i).toNat).2.2.2.1 != Y (g (s i).toNat).2.1.toNat) = false),
  (((-9223372036854775808) : Int) ≤ ((↑i : Int) + 1)),
  ((((↑i : Int) + 1) : Int) ≤ 9223372036854775807),
  (AI ((↑N : Int))),
  (AN nb),
  (AP nb (fun i_1 => [.int .i64 ((g i_1).1), .int .i64 ((g i_1).2.1), .int .i64 ((g i_1).2.2.1), .int .i64 ((g i_1).2.2.2.1)])),
  (AN n),
  (AP n (fun i_1 => [.int .i64 (s i_1)])),
  (AN 0),
  (AN 0),
  (AN N),
  (AN 0),
  (AN N),
  (AN 0),
  (AN N),
  ((((↑i : Int) + 1) : Int) = (↑(i + 1) : Int)),
  (AN 2),
  ((1 : Nat) ≤ 1),
  ((1 : Nat) ≤ 1),
  (AI ((↑N : Int))),
  (AN nb),
  (AP nb (fun i_1 => [.int .i64 ((g i_1).1), .int .i64 ((g i_1).2.1), .int .i64 ((g i_1).2.2.1), .int .i64 ((g i_1).2.2.2.1)])),
  (AN 1),
  ((N : Nat) ≤ N),
  (AA N (fun i_1 => [.p (.bool (K i_1))])),
  (AN 1),
  ((N : Nat) ≤ N),
  (AA N (fun i_1 => [.p (.int .i64 (X i_1))])),
  (AN 1),
  ((N : Nat) ≤ N),
  (AA N (fun i_1 => [.p (.int .i64 (Y i_1))]))]) := by kernel_rfl
theorem bS3t (g : Nat → T_GainBar) (nb N n : Nat) (s : Nat → Int) (K : Nat → Bool) (X Y : Nat → Int) (i : Nat) :
    pathOb Try.prog Try.f78 0 [.reg [oT, oT, oT, oT], .dec true, .reg [oT, oT, oT, oT, oT, oT, oT, oT, oT, oT], .reg [oT, oT, oT, oT, oT, oT, oT, oT, oT, oT, oT, oT, oT, oT, oT, oT, oT, oT, oT, oT, oT, oT, oT, oT, oT, oT, oT, oT, oT, oT], .dec true, .reg [oT]] [.code (cAt (bodyOf Try.f78) [1, 1, 1, 1, 1, 1, 0, 1, 0, 0]), .inLoop (cAt (bodyOf Try.f78) [1, 1, 1, 1, 1, 1, 0, 1, 0, 0]), .inBlock 6, .code (cAt (bodyOf Try.f78) [1, 1, 1, 1, 1, 1, 1])] (SB3 g nb N n s K X Y i) [] 1 [] (.p (.bool false)) =
    some [((decide ((↑i : Int) < (↑n : Int))) = true),
  ((0 : Nat) < 1),
  ((0 : Int) ≤ (↑i : Int)),
  (((↑i : Int) : Int) < (↑n : Int)),
  ((0 : Int) ≤ (s i)),
  (((s i) : Int) < (↑nb : Int)),
  ((0 : Nat) < 1),
  ((true = true) → (AN 1)),
  ((0 : Nat) < 1),
  ((0 : Int) ≤ ((g (s i).toNat).1)),
  ((((g (s i).toNat).1) : Int) < (↑N : Int)),
  ((((g (s i).toNat).1.toNat) : Nat) < N),
  ((0 : Nat) < 1),
  (((-9223372036854775808) : Int) ≤ (X (g (s i).toNat).1.toNat + (g (s i).toNat).2.2.1)),
  (((X (g (s i).toNat).1.toNat + (g (s i).toNat).2.2.1) : Int) ≤ 9223372036854775807),
  ((0 : Nat) < 1),
  ((0 : Int) ≤ ((g (s i).toNat).2.1)),
  ((((g (s i).toNat).2.1) : Int) < (↑N : Int)),
  ((((g (s i).toNat).2.1.toNat) : Nat) < N),
  (AG (!X (g (s i).toNat).1.toNat + (g (s i).toNat).2.2.1 != X (g (s i).toNat).2.1.toNat)),
  (((!X (g (s i).toNat).1.toNat + (g (s i).toNat).2.2.1 != X (g (s i).toNat).2.1.toNat) = true) → ((0 : Nat) < 1)),
  (AG (!X (g (s i).toNat).1.toNat + (g (s i).toNat).2.2.1 != X (g (s i).toNat).2.1.toNat)),
  (AG (!X (g (s i).toNat).1.toNat + (g (s i).toNat).2.2.1 != X (g (s i).toNat).2.1.toNat)),
  (((!X (g (s i).toNat).1.toNat + (g (s i).toNat).2.2.1 != X (g (s i).toNat).2.1.toNat) = true) → ((0 : Int) ≤ ((g (s i).toNat).1))),
  (((!X (g (s i).toNat).1.toNat + (g (s i).toNat).2.2.1 != X (g (s i).toNat).2.1.toNat) = true) → ((((g (s i).toNat).1) : Int) < (↑N : Int))),
  (AG (!X (g (s i).toNat).1.toNat + (g (s i).toNat).2.2.1 != X (g (s i).toNat).2.1.toNat)),
  (((!X (g (s i).toNat).1.toNat + (g (s i).toNat).2.2.1 != X (g (s i).toNat).2.1.toNat) = true) → ((((g (s i).toNat).1.toNat) : Nat) < N)),
  (AG (!X (g (s i).toNat).1.toNat + (g (s i).toNat).2.2.1 != X (g (s i).toNat).2.1.toNat)),
  (((!X (g (s i).toNat).1.toNat + (g (s i).toNat).2.2.1 != X (g (s i).toNat).2.1.toNat) = true) → ((0 : Nat) < 1)),
  (AG (!X (g (s i).toNat).1.toNat + (g (s i).toNat).2.2.1 != X (g (s i).toNat).2.1.toNat)),
  (AG (!X (g (s i).toNat).1.toNat + (g (s i).toNat).2.2.1 != X (g (s i).toNat).2.1.toNat)),
  (((!X (g (s i).toNat).1.toNat + (g (s i).toNat).2.2.1 != X (g (s i).toNat).2.1.toNat) = true) → (((-9223372036854775808) : Int) ≤ (Y (g (s i).toNat).1.toNat + (g (s i).toNat).2.2.2.1))),
  (((!X (g (s i).toNat).1.toNat + (g (s i).toNat).2.2.1 != X (g (s i).toNat).2.1.toNat) = true) → (((Y (g (s i).toNat).1.toNat + (g (s i).toNat).2.2.2.1) : Int) ≤ 9223372036854775807)),
  (AG (!X (g (s i).toNat).1.toNat + (g (s i).toNat).2.2.1 != X (g (s i).toNat).2.1.toNat)),
  (((!X (g (s i).toNat).1.toNat + (g (s i).toNat).2.2.1 != X (g (s i).toNat).2.1.toNat) = true) → ((0 : Nat) < 1)),
  (AG (!X (g (s i).toNat).1.toNat + (g (s i).toNat).2.2.1 != X (g (s i).toNat).2.1.toNat)),
  (AG (!X (g (s i).toNat).1.toNat + (g (s i).toNat).2.2.1 != X (g (s i).toNat).2.1.toNat)),
  (((!X (g (s i).toNat).1.toNat + (g (s i).toNat).2.2.1 != X (g (s i).toNat).2.1.toNat) = true) → ((0 : Int) ≤ ((g (s i).toNat).2.1))),
  (((!X (g (s i).toNat).1.toNat + (g (s i).toNat).2.2.1 != X (g (s i).toNat).2.1.toNat) = true) → ((((g (s i).toNat).2.1) : Int) < (↑N : Int))),
  (AG (!X (g (s i).toNat).1.toNat + (g (s i).toNat).2.2.1 != X (g (s i).toNat).2.1.toNat)),
  (((!X (g (s i).toNat).1.toNat + (g (s i).toNat).2.2.1 != X (g (s i).toNat).2.1.toNat) = true) → ((((g (s i).toNat).2.1.toNat) : Nat) < N)),
  (AG (!X (g (s i).toNat).1.toNat + (g (s i).toNat).2.2.1 != X (g (s i).toNat).2.1.toNat)),
  (AG (!X (g (s i).toNat).1.toNat + (g (s i).toNat).2.2.1 != X (g (s i).toNat).2.1.toNat)),
  (((X (g (s i).toNat).1.toNat + (g (s i).toNat).2.2.1 != X (g (s i).toNat).2.1.toNat) = false) → ((!X (g (s i).toNat).1.toNat + (g (s i).toNat).2.2.1 != X (g (s i).toNat).2.1.toNat) = true)),
  ((bif X (g (s i).toNat).1.toNat + (g (s i).toNat).2.2.1 != X (g (s i).toNat).2.1.toNat then true else Y (g (s i).toNat).1.toNat + (g (s i).toNat).2.2.2.1 != Y (g (s i).toNat).2.1.toNat) = true),
  (false = false)] := by kernel_rfl
theorem bS3e (g : Nat → T_GainBar) (nb N n : Nat) (s : Nat → Int) (K : Nat → Bool) (X Y : Nat → Int) (i : Nat) :
    pathOb Try.prog Try.f78 0 [.reg [oT, oT, oT, oT], .dec false, .reg [oT]] [.code (cAt (bodyOf Try.f78) [1, 1, 1, 1, 1, 1, 0, 1, 0, 0]), .inLoop (cAt (bodyOf Try.f78) [1, 1, 1, 1, 1, 1, 0, 1, 0, 0]), .inBlock 6, .code (cAt (bodyOf Try.f78) [1, 1, 1, 1, 1, 1, 1])] (SB3 g nb N n s K X Y i) [] 1 [] (.p (.bool true)) =
    some [((decide ((↑i : Int) < (↑n : Int))) = false),
  (true = true)] := by kernel_rfl
theorem bYa (g : Nat → T_GainBar) (nb N n : Nat) (s : Nat → Int) :
    pieceOb Try.prog 0 [.reg [oT, oT], .reg [oT, oT, oT, oT], .reg [oT, oT, oT, oT], .reg [oT, oT, oT], .head] [.code (bodyOf Try.f128)] (start Try.f128 [] 0 [gnA g nb N, inS n s]) [0, 128, 256] 1 (SY0 g nb N n s (fun _ => 0) (fun _ => 0) (fun _ => 0) 0) =
    some ([.code (cAt (bodyOf Try.f128) [1, 1, 1, 0, 1, 0, 0]), .inLoop (cAt (bodyOf Try.f128) [1, 1, 1, 0, 1, 0, 0]), .inBlock 0, .code (cAt (bodyOf Try.f128) [1, 1, 1, 1])], [((0 : Nat) < 1),
  ((0 : Int) ≤ (↑N : Int)),
  (((↑N : Int) : Int) ≤ (↑N : Int)),
  ((((↑N : Int) * (↑8 : Int)) : Int) ≤ 281474976710656),
  (((↑N : Int) : Int) ≤ 9223372036854775807),
  ((0 : Nat) < 1),
  ((0 : Int) ≤ (↑N : Int)),
  (((↑N : Int) : Int) ≤ (↑N : Int)),
  ((((↑N : Int) * (↑16 : Int)) : Int) ≤ 281474976710656),
  (((↑N : Int) : Int) ≤ 9223372036854775807),
  (AI ((↑N : Int))),
  (AN nb),
  (AP nb (fun i => [.int .i64 ((g i).1), .int .i64 ((g i).2.1), .int .i64 ((g i).2.2.1), .int .i64 ((g i).2.2.2.1)])),
  (AN n),
  (AP n (fun i => [.int .i64 (s i)])),
  (AN 0),
  (AN 0),
  (AN N),
  (AN 0),
  (AN N),
  (AI ((↑N : Int))),
  ((0 : Int) = (↑0 : Int)),
  ((([AV.p (PV.int IntKind.i64 (↑N : Int)), gnL g nb].length) : Nat) = 2),
  ((1 : Nat) ≤ 1),
  ((1 : Nat) ≤ 1),
  (AI ((↑N : Int))),
  (AN nb),
  (AP nb (fun i => [.int .i64 ((g i).1), .int .i64 ((g i).2.1), .int .i64 ((g i).2.2.1), .int .i64 ((g i).2.2.2.1)])),
  (AN 1),
  ((N : Nat) ≤ N),
  (AA N (fun i => [.p (.int .i64 0)])),
  (AN 2),
  ((N : Nat) ≤ N),
  (AA N (fun i => [.p (.int .i64 0), .p (.int .i64 0)]))]) := by kernel_rfl
theorem bY0 (g : Nat → T_GainBar) (nb N n : Nat) (s : Nat → Int) (R X Y : Nat → Int) (k : Nat) :
    pieceOb Try.prog 0 [.reg [oT], .dec true, .reg [oT, oT], .reg [oT, oT, oT, oT, oT], .reg [oT, oT], .head] [.code (cAt (bodyOf Try.f128) [1, 1, 1, 0, 1, 0, 0]), .inLoop (cAt (bodyOf Try.f128) [1, 1, 1, 0, 1, 0, 0]), .inBlock 0, .code (cAt (bodyOf Try.f128) [1, 1, 1, 1])] (SY0 g nb N n s R X Y k) [0, 1, 2] 1 (SY0 g nb N n s (up R k (k : Int)) X Y (k + 1)) =
    some ([.code (cAt (bodyOf Try.f128) [1, 1, 1, 0, 1, 0, 0]), .inLoop (cAt (bodyOf Try.f128) [1, 1, 1, 0, 1, 0, 0]), .inBlock 0, .code (cAt (bodyOf Try.f128) [1, 1, 1, 1])], [((decide ((↑k : Int) < (↑N : Int))) = true),
  ((0 : Int) ≤ (↑k : Int)),
  (((↑k : Int) : Int) < (↑N : Int)),
  ((k : Nat) < N),
  ((false = true) → ((N : Nat) = 1)),
  (((-9223372036854775808) : Int) ≤ ((↑k : Int) + 1)),
  ((((↑k : Int) + 1) : Int) ≤ 9223372036854775807),
  (AI ((↑N : Int))),
  (AN nb),
  (AP nb (fun i => [.int .i64 ((g i).1), .int .i64 ((g i).2.1), .int .i64 ((g i).2.2.1), .int .i64 ((g i).2.2.2.1)])),
  (AN n),
  (AP n (fun i => [.int .i64 (s i)])),
  (AN 0),
  (AN 0),
  (AN N),
  (AN 0),
  (AN N),
  (AI ((↑N : Int))),
  ((((↑k : Int) + 1) : Int) = (↑(k + 1) : Int)),
  (AN 2),
  ((1 : Nat) ≤ 1),
  ((1 : Nat) ≤ 1),
  (AI ((↑N : Int))),
  (AN nb),
  (AP nb (fun i => [.int .i64 ((g i).1), .int .i64 ((g i).2.1), .int .i64 ((g i).2.2.1), .int .i64 ((g i).2.2.2.1)])),
  (AN 1),
  ((N : Nat) ≤ N),
  (∀ i : Nat, (((i : Nat) < N) → (All (cvtL false [(1, ⟨false, 1, N, (fun i_1 => (if (i_1 = k) then [.p (.int .i64 (↑k : Int))] else [.p (.int .i64 (R i_1))]))⟩), (0, ⟨true, 2, 1, (fun i_1 => [.p (.int .i64 (↑N : Int)), .p (.seq true 4 nb (fun i_2 => [.int .i64 ((g i_2).1), .int .i64 ((g i_2).2.1), .int .i64 ((g i_2).2.2.1), .int .i64 ((g i_2).2.2.2.1)]))])⟩), (2, ⟨false, 2, N, (fun i_1 => [.p (.int .i64 (X i_1)), .p (.int .i64 (Y i_1))])⟩)] [0, 1, 2] 1 (if (i = k) then [.p (.int .i64 (↑k : Int))] else [.p (.int .i64 (R i))])).2 ∧ (((cvtL false [(1, ⟨false, 1, N, (fun i_1 => (if (i_1 = k) then [.p (.int .i64 (↑k : Int))] else [.p (.int .i64 (R i_1))]))⟩), (0, ⟨true, 2, 1, (fun i_1 => [.p (.int .i64 (↑N : Int)), .p (.seq true 4 nb (fun i_2 => [.int .i64 ((g i_2).1), .int .i64 ((g i_2).2.1), .int .i64 ((g i_2).2.2.1), .int .i64 ((g i_2).2.2.2.1)]))])⟩), (2, ⟨false, 2, N, (fun i_1 => [.p (.int .i64 (X i_1)), .p (.int .i64 (Y i_1))])⟩)] [0, 1, 2] 1 (if (i = k) then [.p (.int .i64 (↑k : Int))] else [.p (.int .i64 (R i))])).1 : List AV) = [.p (.int .i64 (up R k (↑k : Int) i))])))),
  (AN 2),
  ((N : Nat) ≤ N),
  (AA N (fun i => [.p (.int .i64 (X i)), .p (.int .i64 (Y i))]))]) := by kernel_rfl
theorem bY0e (g : Nat → T_GainBar) (nb N n : Nat) (s : Nat → Int) (R X Y : Nat → Int) (k : Nat) :
    pieceOb Try.prog 0 [.reg [oT], .dec false, .reg [oT, oT, oT], .head] [.code (cAt (bodyOf Try.f128) [1, 1, 1, 0, 1, 0, 0]), .inLoop (cAt (bodyOf Try.f128) [1, 1, 1, 0, 1, 0, 0]), .inBlock 0, .code (cAt (bodyOf Try.f128) [1, 1, 1, 1])] (SY0 g nb N n s R X Y k) [0, 1, 2] 1 (SY1 g nb N n s R X Y 0) =
    some ([.code (cAt (bodyOf Try.f128) [1, 1, 1, 1, 0, 1, 0, 0]), .inLoop (cAt (bodyOf Try.f128) [1, 1, 1, 1, 0, 1, 0, 0]), .inBlock 2, .code (cAt (bodyOf Try.f128) [1, 1, 1, 1, 1])], [((decide ((↑k : Int) < (↑N : Int))) = false),
  (AI ((↑N : Int))),
  (AN nb),
  (AP nb (fun i => [.int .i64 ((g i).1), .int .i64 ((g i).2.1), .int .i64 ((g i).2.2.1), .int .i64 ((g i).2.2.2.1)])),
  (AN n),
  (AP n (fun i => [.int .i64 (s i)])),
  (AN 0),
  (AN 0),
  (AN N),
  (AN 0),
  (AN N),
  (AN n),
  (AP n (fun i => [.int .i64 (s i)])),
  (AI ((↑n : Int))),
  ((0 : Int) = (↑0 : Int)),
  (AN 2),
  ((1 : Nat) ≤ 1),
  ((1 : Nat) ≤ 1),
  (AI ((↑N : Int))),
  (AN nb),
  (AP nb (fun i => [.int .i64 ((g i).1), .int .i64 ((g i).2.1), .int .i64 ((g i).2.2.1), .int .i64 ((g i).2.2.2.1)])),
  (AN 1),
  ((N : Nat) ≤ N),
  (AA N (fun i => [.p (.int .i64 (R i))])),
  (AN 2),
  ((N : Nat) ≤ N),
  (AA N (fun i => [.p (.int .i64 (X i)), .p (.int .i64 (Y i))]))]) := by kernel_rfl
theorem bY1e (g : Nat → T_GainBar) (nb N n : Nat) (s : Nat → Int) (R X Y : Nat → Int) (k : Nat) :
    pathOb Try.prog Try.f128 0 [.reg [oT], .dec false, .reg [oT]] [.code (cAt (bodyOf Try.f128) [1, 1, 1, 1, 0, 1, 0, 0]), .inLoop (cAt (bodyOf Try.f128) [1, 1, 1, 1, 0, 1, 0, 0]), .inBlock 2, .code (cAt (bodyOf Try.f128) [1, 1, 1, 1, 1])] (SY1 g nb N n s R X Y k) [] 1 [] (.p (.bool true)) =
    some [((decide ((↑k : Int) < (↑n : Int))) = false),
  (true = true)] := by kernel_rfl
theorem bY1t (g : Nat → T_GainBar) (nb N n : Nat) (s : Nat → Int) (R X Y : Nat → Int) (k : Nat) :
    pathOb Try.prog Try.f128 0 [.reg [oT], .dec true, .reg [oT, oT, oT], .reg [oT, oT, oT, oT, oT, oT, oT], .reg [oT, oT, oT, oT, oT, oT, oT, oT, oT, oT, oT, oT, oT, oT, oT, oT, oT, oT, oT, oT, oT, oT, oT, oT, oT, oT, oT, oT, oT, oT, oT, oT, oT, oT], .reg [oT, oT, oT, oT, oT, oT, oT, oT, oT, oT, oT, oT], .reg [oT, oT, oT], .dec true, .reg [oT, oT, oT, oT, oT, oT], .dec true, .reg [oT]] [.code (cAt (bodyOf Try.f128) [1, 1, 1, 1, 0, 1, 0, 0]), .inLoop (cAt (bodyOf Try.f128) [1, 1, 1, 1, 0, 1, 0, 0]), .inBlock 2, .code (cAt (bodyOf Try.f128) [1, 1, 1, 1, 1])] (SY1 g nb N n s R X Y k) [] 1 [] (.p (.bool false)) =
    some [((decide ((↑k : Int) < (↑n : Int))) = true),
  ((0 : Int) ≤ (↑k : Int)),
  (((↑k : Int) : Int) < (↑n : Int)),
  ((0 : Nat) < 1),
  ((0 : Int) ≤ (s k)),
  (((s k) : Int) < (↑nb : Int)),
  ((0 : Nat) < 1),
  ((true = true) → (AN 1)),
  ((0 : Nat) < 1),
  ((0 : Int) ≤ ((g (s k).toNat).1)),
  ((((g (s k).toNat).1) : Int) < (↑N : Int)),
  ((0 : Int) ≤ 0),
  ((0 : Int) < (↑2 : Int)),
  ((((g (s k).toNat).1.toNat) : Nat) < N),
  ((0 : Nat) < 1),
  (((-9223372036854775808) : Int) ≤ (X (g (s k).toNat).1.toNat + (g (s k).toNat).2.2.1)),
  (((X (g (s k).toNat).1.toNat + (g (s k).toNat).2.2.1) : Int) ≤ 9223372036854775807),
  ((0 : Nat) < 1),
  ((0 : Int) ≤ ((g (s k).toNat).2.1)),
  ((((g (s k).toNat).2.1) : Int) < (↑N : Int)),
  ((0 : Int) ≤ 0),
  ((0 : Int) < (↑2 : Int)),
  ((((g (s k).toNat).2.1.toNat) : Nat) < N),
  (((-9223372036854775808) : Int) ≤ (X (g (s k).toNat).1.toNat + (g (s k).toNat).2.2.1 - X (g (s k).toNat).2.1.toNat)),
  (((X (g (s k).toNat).1.toNat + (g (s k).toNat).2.2.1 - X (g (s k).toNat).2.1.toNat) : Int) ≤ 9223372036854775807),
  ((0 : Nat) < 1),
  ((0 : Int) ≤ ((g (s k).toNat).1)),
  ((((g (s k).toNat).1) : Int) < (↑N : Int)),
  ((0 : Int) ≤ 1),
  ((1 : Int) < (↑2 : Int)),
  ((((g (s k).toNat).1.toNat) : Nat) < N),
  ((0 : Nat) < 1),
  (((-9223372036854775808) : Int) ≤ (Y (g (s k).toNat).1.toNat + (g (s k).toNat).2.2.2.1)),
  (((Y (g (s k).toNat).1.toNat + (g (s k).toNat).2.2.2.1) : Int) ≤ 9223372036854775807),
  ((0 : Nat) < 1),
  ((0 : Int) ≤ ((g (s k).toNat).2.1)),
  ((((g (s k).toNat).2.1) : Int) < (↑N : Int)),
  ((0 : Int) ≤ 1),
  ((1 : Int) < (↑2 : Int)),
  ((((g (s k).toNat).2.1.toNat) : Nat) < N),
  (((-9223372036854775808) : Int) ≤ (Y (g (s k).toNat).1.toNat + (g (s k).toNat).2.2.2.1 - Y (g (s k).toNat).2.1.toNat)),
  (((Y (g (s k).toNat).1.toNat + (g (s k).toNat).2.2.2.1 - Y (g (s k).toNat).2.1.toNat) : Int) ≤ 9223372036854775807),
  ((0 : Nat) < 1),
  ((0 : Int) ≤ ((g (s k).toNat).2.1)),
  ((((g (s k).toNat).2.1) : Int) < (↑N : Int)),
  ((((g (s k).toNat).2.1.toNat) : Nat) < N),
  ((0 : Nat) < 1),
  ((0 : Int) ≤ ((g (s k).toNat).1)),
  ((((g (s k).toNat).1) : Int) < (↑N : Int)),
  ((((g (s k).toNat).1.toNat) : Nat) < N),
  ((R (g (s k).toNat).2.1.toNat == R (g (s k).toNat).1.toNat) = true),
  (AG (!X (g (s k).toNat).1.toNat + (g (s k).toNat).2.2.1 - X (g (s k).toNat).2.1.toNat != 0)),
  (((X (g (s k).toNat).1.toNat + (g (s k).toNat).2.2.1 - X (g (s k).toNat).2.1.toNat != 0) = false) → ((!X (g (s k).toNat).1.toNat + (g (s k).toNat).2.2.1 - X (g (s k).toNat).2.1.toNat != 0) = true)),
  ((bif X (g (s k).toNat).1.toNat + (g (s k).toNat).2.2.1 - X (g (s k).toNat).2.1.toNat != 0 then true else Y (g (s k).toNat).1.toNat + (g (s k).toNat).2.2.2.1 - Y (g (s k).toNat).2.1.toNat != 0) = true),
  (false = false)] := by kernel_rfl
theorem bY1c (g : Nat → T_GainBar) (nb N n : Nat) (s : Nat → Int) (R X Y : Nat → Int) (k : Nat) :
    pieceOb Try.prog 0 [.reg [oT], .dec true, .reg [oT, oT, oT], .reg [oT, oT, oT, oT, oT, oT, oT], .reg [oT, oT, oT, oT, oT, oT, oT, oT, oT, oT, oT, oT, oT, oT, oT, oT, oT, oT, oT, oT, oT, oT, oT, oT, oT, oT, oT, oT, oT, oT, oT, oT, oT, oT], .reg [oT, oT, oT, oT, oT, oT, oT, oT, oT, oT, oT, oT], .reg [oT, oT, oT], .dec true, .reg [oT, oT, oT, oT, oT, oT], .dec false, .reg [oT, oT], .head] [.code (cAt (bodyOf Try.f128) [1, 1, 1, 1, 0, 1, 0, 0]), .inLoop (cAt (bodyOf Try.f128) [1, 1, 1, 1, 0, 1, 0, 0]), .inBlock 2, .code (cAt (bodyOf Try.f128) [1, 1, 1, 1, 1])] (SY1 g nb N n s R X Y k) [0, 1, 2] 1 (SY1 g nb N n s R X Y (k + 1)) =
    some ([.code (cAt (bodyOf Try.f128) [1, 1, 1, 1, 0, 1, 0, 0]), .inLoop (cAt (bodyOf Try.f128) [1, 1, 1, 1, 0, 1, 0, 0]), .inBlock 2, .code (cAt (bodyOf Try.f128) [1, 1, 1, 1, 1])], [((decide ((↑k : Int) < (↑n : Int))) = true),
  ((0 : Int) ≤ (↑k : Int)),
  (((↑k : Int) : Int) < (↑n : Int)),
  ((0 : Nat) < 1),
  ((0 : Int) ≤ (s k)),
  (((s k) : Int) < (↑nb : Int)),
  ((0 : Nat) < 1),
  ((true = true) → (AN 1)),
  ((0 : Nat) < 1),
  ((0 : Int) ≤ ((g (s k).toNat).1)),
  ((((g (s k).toNat).1) : Int) < (↑N : Int)),
  ((0 : Int) ≤ 0),
  ((0 : Int) < (↑2 : Int)),
  ((((g (s k).toNat).1.toNat) : Nat) < N),
  ((0 : Nat) < 1),
  (((-9223372036854775808) : Int) ≤ (X (g (s k).toNat).1.toNat + (g (s k).toNat).2.2.1)),
  (((X (g (s k).toNat).1.toNat + (g (s k).toNat).2.2.1) : Int) ≤ 9223372036854775807),
  ((0 : Nat) < 1),
  ((0 : Int) ≤ ((g (s k).toNat).2.1)),
  ((((g (s k).toNat).2.1) : Int) < (↑N : Int)),
  ((0 : Int) ≤ 0),
  ((0 : Int) < (↑2 : Int)),
  ((((g (s k).toNat).2.1.toNat) : Nat) < N),
  (((-9223372036854775808) : Int) ≤ (X (g (s k).toNat).1.toNat + (g (s k).toNat).2.2.1 - X (g (s k).toNat).2.1.toNat)),
  (((X (g (s k).toNat).1.toNat + (g (s k).toNat).2.2.1 - X (g (s k).toNat).2.1.toNat) : Int) ≤ 9223372036854775807),
  ((0 : Nat) < 1),
  ((0 : Int) ≤ ((g (s k).toNat).1)),
  ((((g (s k).toNat).1) : Int) < (↑N : Int)),
  ((0 : Int) ≤ 1),
  ((1 : Int) < (↑2 : Int)),
  ((((g (s k).toNat).1.toNat) : Nat) < N),
  ((0 : Nat) < 1),
  (((-9223372036854775808) : Int) ≤ (Y (g (s k).toNat).1.toNat + (g (s k).toNat).2.2.2.1)),
  (((Y (g (s k).toNat).1.toNat + (g (s k).toNat).2.2.2.1) : Int) ≤ 9223372036854775807),
  ((0 : Nat) < 1),
  ((0 : Int) ≤ ((g (s k).toNat).2.1)),
  ((((g (s k).toNat).2.1) : Int) < (↑N : Int)),
  ((0 : Int) ≤ 1),
  ((1 : Int) < (↑2 : Int)),
  ((((g (s k).toNat).2.1.toNat) : Nat) < N),
  (((-9223372036854775808) : Int) ≤ (Y (g (s k).toNat).1.toNat + (g (s k).toNat).2.2.2.1 - Y (g (s k).toNat).2.1.toNat)),
  (((Y (g (s k).toNat).1.toNat + (g (s k).toNat).2.2.2.1 - Y (g (s k).toNat).2.1.toNat) : Int) ≤ 9223372036854775807),
  ((0 : Nat) < 1),
  ((0 : Int) ≤ ((g (s k).toNat).2.1)),
  ((((g (s k).toNat).2.1) : Int) < (↑N : Int)),
  ((((g (s k).toNat).2.1.toNat) : Nat) < N),
  ((0 : Nat) < 1),
  ((0 : Int) ≤ ((g (s k).toNat).1)),
  ((((g (s k).toNat).1) : Int) < (↑N : Int)),
  ((((g (s k).toNat).1.toNat) : Nat) < N),
  ((R (g (s k).toNat).2.1.toNat == R (g (s k).toNat).1.toNat) = true),
  (AG (!X (g (s k).toNat).1.toNat + (g (s k).toNat).2.2.1 - X (g (s k).toNat).2.1.toNat != 0)),
  (((X (g (s k).toNat).1.toNat + (g (s k).toNat).2.2.1 - X (g (s k).toNat).2.1.toNat != 0) = false) → ((!X (g (s k).toNat).1.toNat + (g (s k).toNat).2.2.1 - X (g (s k).toNat).2.1.toNat != 0) = true)),
  ((bif X (g (s k).toNat).1.toNat + (g (s k).toNat).2.2.1 - X (g (s k).toNat).2.1.toNat != 0 then true else Y (g (s k).toNat).1.toNat + (g (s k).toNat).2.2.2.1 - Y (g (s k).toNat).2.1.toNat != 0) = false),
  (((-9223372036854775808) : Int) ≤ ((↑k : Int) + 1)),
  ((((↑k : Int) + 1) : Int) ≤ 9223372036854775807),
  (AI ((↑N : Int))),
  (AN nb),
  (AP nb (fun i => [.int .i64 ((g i).1), .int .i64 ((g i).2.1), .int .i64 ((g i).2.2.1), .int .i64 ((g i).2.2.2.1)])),
  (AN n),
  (AP n (fun i => [.int .i64 (s i)])),
  (AN 0),
  (AN 0),
  (AN N),
  (AN 0),
  (AN N),
  (AN n),
  (AP n (fun i => [.int .i64 (s i)])),
  (AI ((↑n : Int))),
  ((((↑k : Int) + 1) : Int) = (↑(k + 1) : Int)),
  (AN 2),
  ((1 : Nat) ≤ 1),
  ((1 : Nat) ≤ 1),
  (AI ((↑N : Int))),
  (AN nb),
  (AP nb (fun i => [.int .i64 ((g i).1), .int .i64 ((g i).2.1), .int .i64 ((g i).2.2.1), .int .i64 ((g i).2.2.2.1)])),
  (AN 1),
  ((N : Nat) ≤ N),
  (AA N (fun i => [.p (.int .i64 (R i))])),
  (AN 2),
  ((N : Nat) ≤ N),
  (AA N (fun i => [.p (.int .i64 (X i)), .p (.int .i64 (Y i))]))]) := by kernel_rfl
theorem bY1m (g : Nat → T_GainBar) (nb N n : Nat) (s : Nat → Int) (R X Y : Nat → Int) (k : Nat) :
    pieceOb Try.prog 0 [.reg [oT], .dec true, .reg [oT, oT, oT], .reg [oT, oT, oT, oT, oT, oT, oT], .reg [oT, oT, oT, oT, oT, oT, oT, oT, oT, oT, oT, oT, oT, oT, oT, oT, oT, oT, oT, oT, oT, oT, oT, oT, oT, oT, oT, oT, oT, oT, oT, oT, oT, oT], .reg [oT, oT, oT, oT, oT, oT, oT, oT, oT, oT, oT, oT], .reg [oT, oT, oT], .dec false, .reg [oT, oT, oT], .head] [.code (cAt (bodyOf Try.f128) [1, 1, 1, 1, 0, 1, 0, 0]), .inLoop (cAt (bodyOf Try.f128) [1, 1, 1, 1, 0, 1, 0, 0]), .inBlock 2, .code (cAt (bodyOf Try.f128) [1, 1, 1, 1, 1])] (SY1 g nb N n s R X Y k) [0, 1, 2] 1 (SY2 g nb N n s R X Y k (X (gb g s k).1.toNat + (gb g s k).2.2.1 - X (gb g s k).2.1.toNat) (Y (gb g s k).1.toNat + (gb g s k).2.2.2.1 - Y (gb g s k).2.1.toNat) (R (gb g s k).2.1.toNat) (R (gb g s k).1.toNat) 0) =
    some ([.code (cAt (bodyOf Try.f128) [1, 1, 1, 1, 0, 1, 0, 0, 1, 1, 0, 0, 1, 1, 1, 1, 1, 1, 0, 0]), .inLoop (cAt (bodyOf Try.f128) [1, 1, 1, 1, 0, 1, 0, 0, 1, 1, 0, 0, 1, 1, 1, 1, 1, 1, 0, 0]), .inBlock 4, .inBlock 3, .code (cAt (bodyOf Try.f128) [1, 1, 1, 1, 0, 1, 0, 0, 1, 1, 1]), .inLoop (cAt (bodyOf Try.f128) [1, 1, 1, 1, 0, 1, 0, 0]), .inBlock 2, .code (cAt (bodyOf Try.f128) [1, 1, 1, 1, 1])], [((decide ((↑k : Int) < (↑n : Int))) = true),
  ((0 : Int) ≤ (↑k : Int)),
  (((↑k : Int) : Int) < (↑n : Int)),
  ((0 : Nat) < 1),
  ((0 : Int) ≤ (s k)),
  (((s k) : Int) < (↑nb : Int)),
  ((0 : Nat) < 1),
  ((true = true) → (AN 1)),
  ((0 : Nat) < 1),
  ((0 : Int) ≤ ((g (s k).toNat).1)),
  ((((g (s k).toNat).1) : Int) < (↑N : Int)),
  ((0 : Int) ≤ 0),
  ((0 : Int) < (↑2 : Int)),
  ((((g (s k).toNat).1.toNat) : Nat) < N),
  ((0 : Nat) < 1),
  (((-9223372036854775808) : Int) ≤ (X (g (s k).toNat).1.toNat + (g (s k).toNat).2.2.1)),
  (((X (g (s k).toNat).1.toNat + (g (s k).toNat).2.2.1) : Int) ≤ 9223372036854775807),
  ((0 : Nat) < 1),
  ((0 : Int) ≤ ((g (s k).toNat).2.1)),
  ((((g (s k).toNat).2.1) : Int) < (↑N : Int)),
  ((0 : Int) ≤ 0),
  ((0 : Int) < (↑2 : Int)),
  ((((g (s k).toNat).2.1.toNat) : Nat) < N),
  (((-9223372036854775808) : Int) ≤ (X (g (s k).toNat).1.toNat + (g (s k).toNat).2.2.1 - X (g (s k).toNat).2.1.toNat)),
  (((X (g (s k).toNat).1.toNat + (g (s k).toNat).2.2.1 - X (g (s k).toNat).2.1.toNat) : Int) ≤ 9223372036854775807),
  ((0 : Nat) < 1),
  ((0 : Int) ≤ ((g (s k).toNat).1)),
  ((((g (s k).toNat).1) : Int) < (↑N : Int)),
  ((0 : Int) ≤ 1),
  ((1 : Int) < (↑2 : Int)),
  ((((g (s k).toNat).1.toNat) : Nat) < N),
  ((0 : Nat) < 1),
  (((-9223372036854775808) : Int) ≤ (Y (g (s k).toNat).1.toNat + (g (s k).toNat).2.2.2.1)),
  (((Y (g (s k).toNat).1.toNat + (g (s k).toNat).2.2.2.1) : Int) ≤ 9223372036854775807),
  ((0 : Nat) < 1),
  ((0 : Int) ≤ ((g (s k).toNat).2.1)),
  ((((g (s k).toNat).2.1) : Int) < (↑N : Int)),
  ((0 : Int) ≤ 1),
  ((1 : Int) < (↑2 : Int)),
  ((((g (s k).toNat).2.1.toNat) : Nat) < N),
  (((-9223372036854775808) : Int) ≤ (Y (g (s k).toNat).1.toNat + (g (s k).toNat).2.2.2.1 - Y (g (s k).toNat).2.1.toNat)),
  (((Y (g (s k).toNat).1.toNat + (g (s k).toNat).2.2.2.1 - Y (g (s k).toNat).2.1.toNat) : Int) ≤ 9223372036854775807),
  ((0 : Nat) < 1),
  ((0 : Int) ≤ ((g (s k).toNat).2.1)),
  ((((g (s k).toNat).2.1) : Int) < (↑N : Int)),
  ((((g (s k).toNat).2.1.toNat) : Nat) < N),
  ((0 : Nat) < 1),
  ((0 : Int) ≤ ((g (s k).toNat).1)),
  ((((g (s k).toNat).1) : Int) < (↑N : Int)),
  ((((g (s k).toNat).1.toNat) : Nat) < N),
  ((R (g (s k).toNat).2.1.toNat == R (g (s k).toNat).1.toNat) = false),
  (AI ((↑N : Int))),
  (AN nb),
  (AP nb (fun i => [.int .i64 ((g i).1), .int .i64 ((g i).2.1), .int .i64 ((g i).2.2.1), .int .i64 ((g i).2.2.2.1)])),
  (AN n),
  (AP n (fun i => [.int .i64 (s i)])),
  (AN 0),
  (AN 0),
  (AN N),
  (AN 0),
  (AN N),
  (((X (g (s k).toNat).1.toNat + (g (s k).toNat).2.2.1 - X (g (s k).toNat).2.1.toNat) : Int) = (X (gb g s k).1.toNat + (gb g s k).2.2.1 - X (gb g s k).2.1.toNat)),
  (((Y (g (s k).toNat).1.toNat + (g (s k).toNat).2.2.2.1 - Y (g (s k).toNat).2.1.toNat) : Int) = (Y (gb g s k).1.toNat + (gb g s k).2.2.2.1 - Y (gb g s k).2.1.toNat)),
  (((R (g (s k).toNat).2.1.toNat) : Int) = (R (gb g s k).2.1.toNat)),
  (((R (g (s k).toNat).1.toNat) : Int) = (R (gb g s k).1.toNat)),
  (AN n),
  (AP n (fun i => [.int .i64 (s i)])),
  (AI ((↑n : Int))),
  (AI ((↑k : Int))),
  (AI ((↑N : Int))),
  ((0 : Int) = (↑0 : Int)),
  (AN 2),
  ((1 : Nat) ≤ 1),
  ((1 : Nat) ≤ 1),
  (AI ((↑N : Int))),
  (AN nb),
  (AP nb (fun i => [.int .i64 ((g i).1), .int .i64 ((g i).2.1), .int .i64 ((g i).2.2.1), .int .i64 ((g i).2.2.2.1)])),
  (AN 1),
  ((N : Nat) ≤ N),
  (AA N (fun i => [.p (.int .i64 (R i))])),
  (AN 2),
  ((N : Nat) ≤ N),
  (AA N (fun i => [.p (.int .i64 (X i)), .p (.int .i64 (Y i))]))]) := by kernel_rfl
theorem bY2e (g : Nat → T_GainBar) (nb N n : Nat) (s : Nat → Int) (R X Y : Nat → Int) (k : Nat) (dx dy fr to : Int) (v : Nat) :
    pieceOb Try.prog 0 [.reg [oT], .dec false, .reg [oT, oT], .head] [.code (cAt (bodyOf Try.f128) [1, 1, 1, 1, 0, 1, 0, 0, 1, 1, 0, 0, 1, 1, 1, 1, 1, 1, 0, 0]), .inLoop (cAt (bodyOf Try.f128) [1, 1, 1, 1, 0, 1, 0, 0, 1, 1, 0, 0, 1, 1, 1, 1, 1, 1, 0, 0]), .inBlock 4, .inBlock 3, .code (cAt (bodyOf Try.f128) [1, 1, 1, 1, 0, 1, 0, 0, 1, 1, 1]), .inLoop (cAt (bodyOf Try.f128) [1, 1, 1, 1, 0, 1, 0, 0]), .inBlock 2, .code (cAt (bodyOf Try.f128) [1, 1, 1, 1, 1])] (SY2 g nb N n s R X Y k dx dy fr to v) [0, 1, 2] 1 (SY1 g nb N n s R X Y (k + 1)) =
    some ([.code (cAt (bodyOf Try.f128) [1, 1, 1, 1, 0, 1, 0, 0]), .inLoop (cAt (bodyOf Try.f128) [1, 1, 1, 1, 0, 1, 0, 0]), .inBlock 2, .code (cAt (bodyOf Try.f128) [1, 1, 1, 1, 1])], [((decide ((↑v : Int) < (↑N : Int))) = false),
  (((-9223372036854775808) : Int) ≤ ((↑k : Int) + 1)),
  ((((↑k : Int) + 1) : Int) ≤ 9223372036854775807),
  (AI ((↑N : Int))),
  (AN nb),
  (AP nb (fun i => [.int .i64 ((g i).1), .int .i64 ((g i).2.1), .int .i64 ((g i).2.2.1), .int .i64 ((g i).2.2.2.1)])),
  (AN n),
  (AP n (fun i => [.int .i64 (s i)])),
  (AN 0),
  (AN 0),
  (AN N),
  (AN 0),
  (AN N),
  (AN n),
  (AP n (fun i => [.int .i64 (s i)])),
  (AI ((↑n : Int))),
  ((((↑k : Int) + 1) : Int) = (↑(k + 1) : Int)),
  (AN 2),
  ((1 : Nat) ≤ 1),
  ((1 : Nat) ≤ 1),
  (AI ((↑N : Int))),
  (AN nb),
  (AP nb (fun i => [.int .i64 ((g i).1), .int .i64 ((g i).2.1), .int .i64 ((g i).2.2.1), .int .i64 ((g i).2.2.2.1)])),
  (AN 1),
  ((N : Nat) ≤ N),
  (AA N (fun i => [.p (.int .i64 (R i))])),
  (AN 2),
  ((N : Nat) ≤ N),
  (AA N (fun i => [.p (.int .i64 (X i)), .p (.int .i64 (Y i))]))]) := by kernel_rfl
theorem bY2n (g : Nat → T_GainBar) (nb N n : Nat) (s : Nat → Int) (R X Y : Nat → Int) (k : Nat) (dx dy fr to : Int) (v : Nat) :
    pieceOb Try.prog 0 [.reg [oT], .dec true, .reg [oT, oT], .reg [oT, oT, oT, oT, oT, oT], .dec false, .reg [oT, oT], .head] [.code (cAt (bodyOf Try.f128) [1, 1, 1, 1, 0, 1, 0, 0, 1, 1, 0, 0, 1, 1, 1, 1, 1, 1, 0, 0]), .inLoop (cAt (bodyOf Try.f128) [1, 1, 1, 1, 0, 1, 0, 0, 1, 1, 0, 0, 1, 1, 1, 1, 1, 1, 0, 0]), .inBlock 4, .inBlock 3, .code (cAt (bodyOf Try.f128) [1, 1, 1, 1, 0, 1, 0, 0, 1, 1, 1]), .inLoop (cAt (bodyOf Try.f128) [1, 1, 1, 1, 0, 1, 0, 0]), .inBlock 2, .code (cAt (bodyOf Try.f128) [1, 1, 1, 1, 1])] (SY2 g nb N n s R X Y k dx dy fr to v) [0, 1, 2] 1 (SY2 g nb N n s R X Y k dx dy fr to (v + 1)) =
    some ([.code (cAt (bodyOf Try.f128) [1, 1, 1, 1, 0, 1, 0, 0, 1, 1, 0, 0, 1, 1, 1, 1, 1, 1, 0, 0]), .inLoop (cAt (bodyOf Try.f128) [1, 1, 1, 1, 0, 1, 0, 0, 1, 1, 0, 0, 1, 1, 1, 1, 1, 1, 0, 0]), .inBlock 4, .inBlock 3, .code (cAt (bodyOf Try.f128) [1, 1, 1, 1, 0, 1, 0, 0, 1, 1, 1]), .inLoop (cAt (bodyOf Try.f128) [1, 1, 1, 1, 0, 1, 0, 0]), .inBlock 2, .code (cAt (bodyOf Try.f128) [1, 1, 1, 1, 1])], [((decide ((↑v : Int) < (↑N : Int))) = true),
  ((0 : Int) ≤ (↑v : Int)),
  (((↑v : Int) : Int) < (↑N : Int)),
  ((v : Nat) < N),
  ((R v == fr) = false),
  (((-9223372036854775808) : Int) ≤ ((↑v : Int) + 1)),
  ((((↑v : Int) + 1) : Int) ≤ 9223372036854775807),
  (AI ((↑N : Int))),
  (AN nb),
  (AP nb (fun i => [.int .i64 ((g i).1), .int .i64 ((g i).2.1), .int .i64 ((g i).2.2.1), .int .i64 ((g i).2.2.2.1)])),
  (AN n),
  (AP n (fun i => [.int .i64 (s i)])),
  (AN 0),
  (AN 0),
  (AN N),
  (AN 0),
  (AN N),
  (AI dx),
  (AI dy),
  (AI fr),
  (AI to),
  (AN n),
  (AP n (fun i => [.int .i64 (s i)])),
  (AI ((↑n : Int))),
  (AI ((↑k : Int))),
  (AI ((↑N : Int))),
  ((((↑v : Int) + 1) : Int) = (↑(v + 1) : Int)),
  (AN 2),
  ((1 : Nat) ≤ 1),
  ((1 : Nat) ≤ 1),
  (AI ((↑N : Int))),
  (AN nb),
  (AP nb (fun i => [.int .i64 ((g i).1), .int .i64 ((g i).2.1), .int .i64 ((g i).2.2.1), .int .i64 ((g i).2.2.2.1)])),
  (AN 1),
  ((N : Nat) ≤ N),
  (AA N (fun i => [.p (.int .i64 (R i))])),
  (AN 2),
  ((N : Nat) ≤ N),
  (AA N (fun i => [.p (.int .i64 (X i)), .p (.int .i64 (Y i))]))]) := by kernel_rfl
theorem bY2t (g : Nat → T_GainBar) (nb N n : Nat) (s : Nat → Int) (R X Y : Nat → Int) (k : Nat) (dx dy fr to : Int) (v : Nat) :
    pieceOb Try.prog 0 [.reg [oT], .dec true, .reg [oT, oT], .reg [oT, oT, oT, oT, oT, oT], .dec true, .reg [oT, oT, oT, oT, oT], .reg [oT, oT, oT, oT, oT, oT, oT, oT, oT, oT, oT, oT], .head] [.code (cAt (bodyOf Try.f128) [1, 1, 1, 1, 0, 1, 0, 0, 1, 1, 0, 0, 1, 1, 1, 1, 1, 1, 0, 0]), .inLoop (cAt (bodyOf Try.f128) [1, 1, 1, 1, 0, 1, 0, 0, 1, 1, 0, 0, 1, 1, 1, 1, 1, 1, 0, 0]), .inBlock 4, .inBlock 3, .code (cAt (bodyOf Try.f128) [1, 1, 1, 1, 0, 1, 0, 0, 1, 1, 1]), .inLoop (cAt (bodyOf Try.f128) [1, 1, 1, 1, 0, 1, 0, 0]), .inBlock 2, .code (cAt (bodyOf Try.f128) [1, 1, 1, 1, 1])] (SY2 g nb N n s R X Y k dx dy fr to v) [0, 1, 2] 1 (SY3 g nb N n s (up R v to) (up X v (X v + dx)) Y k dx dy fr to v) =
    some ([.code (cAt (bodyOf Try.f128) [1, 1, 1, 1, 0, 1, 0, 0, 1, 1, 0, 0, 1, 1, 1, 1, 1, 1, 0, 0, 1, 1, 0, 0, 1, 1, 0, 1, 1]), .inBlock 5, .code (cAt (bodyOf Try.f128) [1, 1, 1, 1, 0, 1, 0, 0, 1, 1, 0, 0, 1, 1, 1, 1, 1, 1, 0, 0, 1, 1, 1]), .inLoop (cAt (bodyOf Try.f128) [1, 1, 1, 1, 0, 1, 0, 0, 1, 1, 0, 0, 1, 1, 1, 1, 1, 1, 0, 0]), .inBlock 4, .inBlock 3, .code (cAt (bodyOf Try.f128) [1, 1, 1, 1, 0, 1, 0, 0, 1, 1, 1]), .inLoop (cAt (bodyOf Try.f128) [1, 1, 1, 1, 0, 1, 0, 0]), .inBlock 2, .code (cAt (bodyOf Try.f128) [1, 1, 1, 1, 1])], [((decide ((↑v : Int) < (↑N : Int))) = true),
  ((0 : Int) ≤ (↑v : Int)),
  (((↑v : Int) : Int) < (↑N : Int)),
  ((v : Nat) < N),
  ((R v == fr) = true),
  ((0 : Int) ≤ (↑v : Int)),
  (((↑v : Int) : Int) < (↑N : Int)),
  ((v : Nat) < N),
  ((false = true) → ((N : Nat) = 1)),
  ((0 : Int) ≤ (↑v : Int)),
  (((↑v : Int) : Int) < (↑N : Int)),
  ((0 : Int) ≤ 0),
  ((0 : Int) < (↑2 : Int)),
  ((v : Nat) < N),
  (((-9223372036854775808) : Int) ≤ (X v + dx)),
  (((X v + dx) : Int) ≤ 9223372036854775807),
  ((0 : Int) ≤ (↑v : Int)),
  (((↑v : Int) : Int) < (↑N : Int)),
  ((0 : Int) ≤ 0),
  ((0 : Int) < (↑2 : Int)),
  ((v : Nat) < N),
  ((false = true) → ((N : Nat) = 1)),
  (AI ((↑N : Int))),
  (AN nb),
  (AP nb (fun i => [.int .i64 ((g i).1), .int .i64 ((g i).2.1), .int .i64 ((g i).2.2.1), .int .i64 ((g i).2.2.2.1)])),
  (AN n),
  (AP n (fun i => [.int .i64 (s i)])),
  (AN 0),
  (AN 0),
  (AN N),
  (AN 0),
  (AN N),
  (AI dx),
  (AI dy),
  (AI fr),
  (AI to),
  (AI ((↑v : Int))),
  (AN n),
  (AP n (fun i => [.int .i64 (s i)])),
  (AI ((↑n : Int))),
  (AI ((↑k : Int))),
  (AI ((↑N : Int))),
  (AI ((↑v : Int))),
  (AN 2),
  ((1 : Nat) ≤ 1),
  ((1 : Nat) ≤ 1),
  (AI ((↑N : Int))),
  (AN nb),
  (AP nb (fun i => [.int .i64 ((g i).1), .int .i64 ((g i).2.1), .int .i64 ((g i).2.2.1), .int .i64 ((g i).2.2.2.1)])),
  (AN 1),
  ((N : Nat) ≤ N),
  (∀ i : Nat, (((i : Nat) < N) → (All (cvtL false [(2, ⟨false, 2, N, (fun i_1 => (if (i_1 = v) then [.p (.int .i64 (X v + dx)), .p (.int .i64 (Y v))] else [.p (.int .i64 (X i_1)), .p (.int .i64 (Y i_1))]))⟩), (1, ⟨false, 1, N, (fun i_1 => (if (i_1 = v) then [.p (.int .i64 to)] else [.p (.int .i64 (R i_1))]))⟩), (0, ⟨true, 2, 1, (fun i_1 => [.p (.int .i64 (↑N : Int)), .p (.seq true 4 nb (fun i_2 => [.int .i64 ((g i_2).1), .int .i64 ((g i_2).2.1), .int .i64 ((g i_2).2.2.1), .int .i64 ((g i_2).2.2.2.1)]))])⟩)] [0, 1, 2] 1 (if (i = v) then [.p (.int .i64 to)] else [.p (.int .i64 (R i))])).2 ∧ (((cvtL false [(2, ⟨false, 2, N, (fun i_1 => (if (i_1 = v) then [.p (.int .i64 (X v + dx)), .p (.int .i64 (Y v))] else [.p (.int .i64 (X i_1)), .p (.int .i64 (Y i_1))]))⟩), (1, ⟨false, 1, N, (fun i_1 => (if (i_1 = v) then [.p (.int .i64 to)] else [.p (.int .i64 (R i_1))]))⟩), (0, ⟨true, 2, 1, (fun i_1 => [.p (.int .i64 (↑N : Int)), .p (.seq true 4 nb (fun i_2 => [.int .i64 ((g i_2).1), .int .i64 ((g i_2).2.1), .int .i64 ((g i_2).2.2.1), .int .i64 ((g i_2).2.2.2.1)]))])⟩)] [0, 1, 2] 1 (if (i = v) then [.p (.int .i64 to)] else [.p (.int .i64 (R i))])).1 : List AV) = [.p (.int .i64 (up R v to i))])))),
  (AN 2),
  ((N : Nat) ≤ N),
  (∀ i : Nat, (((i : Nat) < N) → (All (cvtL false [(2, ⟨false, 2, N, (fun i_1 => (if (i_1 = v) then [.p (.int .i64 (X v + dx)), .p (.int .i64 (Y v))] else [.p (.int .i64 (X i_1)), .p (.int .i64 (Y i_1))]))⟩), (1, ⟨false, 1, N, (fun i_1 => (if (i_1 = v) then [.p (.int .i64 to)] else [.p (.int .i64 (R i_1))]))⟩), (0, ⟨true, 2, 1, (fun i_1 => [.p (.int .i64 (↑N : Int)), .p (.seq true 4 nb (fun i_2 => [.int .i64 ((g i_2).1), .int .i64 ((g i_2).2.1), .int .i64 ((g i_2).2.2.1), .int .i64 ((g i_2).2.2.2.1)]))])⟩)] [0, 1, 2] 1 (if (i = v) then [.p (.int .i64 (X v + dx)), .p (.int .i64 (Y v))] else [.p (.int .i64 (X i)), .p (.int .i64 (Y i))])).2 ∧ (((cvtL false [(2, ⟨false, 2, N, (fun i_1 => (if (i_1 = v) then [.p (.int .i64 (X v + dx)), .p (.int .i64 (Y v))] else [.p (.int .i64 (X i_1)), .p (.int .i64 (Y i_1))]))⟩), (1, ⟨false, 1, N, (fun i_1 => (if (i_1 = v) then [.p (.int .i64 to)] else [.p (.int .i64 (R i_1))]))⟩), (0, ⟨true, 2, 1, (fun i_1 => [.p (.int .i64 (↑N : Int)), .p (.seq true 4 nb (fun i_2 => [.int .i64 ((g i_2).1), .int .i64 ((g i_2).2.1), .int .i64 ((g i_2).2.2.1), .int .i64 ((g i_2).2.2.2.1)]))])⟩)] [0, 1, 2] 1 (if (i = v) then [.p (.int .i64 (X v + dx)), .p (.int .i64 (Y v))] else [.p (.int .i64 (X i)), .p (.int .i64 (Y i))])).1 : List AV) = [.p (.int .i64 (up X v (X v + dx) i)), .p (.int .i64 (Y i))]))))]) := by kernel_rfl
theorem bY2u (g : Nat → T_GainBar) (nb N n : Nat) (s : Nat → Int) (R X Y : Nat → Int) (k : Nat) (dx dy fr to : Int) (v : Nat) :
    pieceOb Try.prog 0 [.reg [oT, oT, oT, oT, oT, oT, oT, oT, oT, oT, oT, oT], .reg [oT, oT], .head] [.code (cAt (bodyOf Try.f128) [1, 1, 1, 1, 0, 1, 0, 0, 1, 1, 0, 0, 1, 1, 1, 1, 1, 1, 0, 0, 1, 1, 0, 0, 1, 1, 0, 1, 1]), .inBlock 5, .code (cAt (bodyOf Try.f128) [1, 1, 1, 1, 0, 1, 0, 0, 1, 1, 0, 0, 1, 1, 1, 1, 1, 1, 0, 0, 1, 1, 1]), .inLoop (cAt (bodyOf Try.f128) [1, 1, 1, 1, 0, 1, 0, 0, 1, 1, 0, 0, 1, 1, 1, 1, 1, 1, 0, 0]), .inBlock 4, .inBlock 3, .code (cAt (bodyOf Try.f128) [1, 1, 1, 1, 0, 1, 0, 0, 1, 1, 1]), .inLoop (cAt (bodyOf Try.f128) [1, 1, 1, 1, 0, 1, 0, 0]), .inBlock 2, .code (cAt (bodyOf Try.f128) [1, 1, 1, 1, 1])] (SY3 g nb N n s R X Y k dx dy fr to v) [0, 1, 2] 1 (SY2 g nb N n s R X (up Y v (Y v + dy)) k dx dy fr to (v + 1)) =
    some ([.code (cAt (bodyOf Try.f128) [1, 1, 1, 1, 0, 1, 0, 0, 1, 1, 0, 0, 1, 1, 1, 1, 1, 1, 0, 0]), .inLoop (cAt (bodyOf Try.f128) [1, 1, 1, 1, 0, 1, 0, 0, 1, 1, 0, 0, 1, 1, 1, 1, 1, 1, 0, 0]), .inBlock 4, .inBlock 3, .code (cAt (bodyOf Try.f128) [1, 1, 1, 1, 0, 1, 0, 0, 1, 1, 1]), .inLoop (cAt (bodyOf Try.f128) [1, 1, 1, 1, 0, 1, 0, 0]), .inBlock 2, .code (cAt (bodyOf Try.f128) [1, 1, 1, 1, 1])], [((0 : Int) ≤ (↑v : Int)),
  (((↑v : Int) : Int) < (↑N : Int)),
  ((0 : Int) ≤ 1),
  ((1 : Int) < (↑2 : Int)),
  ((v : Nat) < N),
  (((-9223372036854775808) : Int) ≤ (Y v + dy)),
  (((Y v + dy) : Int) ≤ 9223372036854775807),
  ((0 : Int) ≤ (↑v : Int)),
  (((↑v : Int) : Int) < (↑N : Int)),
  ((0 : Int) ≤ 1),
  ((1 : Int) < (↑2 : Int)),
  ((v : Nat) < N),
  ((false = true) → ((N : Nat) = 1)),
  (((-9223372036854775808) : Int) ≤ ((↑v : Int) + 1)),
  ((((↑v : Int) + 1) : Int) ≤ 9223372036854775807),
  (AI ((↑N : Int))),
  (AN nb),
  (AP nb (fun i => [.int .i64 ((g i).1), .int .i64 ((g i).2.1), .int .i64 ((g i).2.2.1), .int .i64 ((g i).2.2.2.1)])),
  (AN n),
  (AP n (fun i => [.int .i64 (s i)])),
  (AN 0),
  (AN 0),
  (AN N),
  (AN 0),
  (AN N),
  (AI dx),
  (AI dy),
  (AI fr),
  (AI to),
  (AN n),
  (AP n (fun i => [.int .i64 (s i)])),
  (AI ((↑n : Int))),
  (AI ((↑k : Int))),
  (AI ((↑N : Int))),
  ((((↑v : Int) + 1) : Int) = (↑(v + 1) : Int)),
  (AN 2),
  ((1 : Nat) ≤ 1),
  ((1 : Nat) ≤ 1),
  (AI ((↑N : Int))),
  (AN nb),
  (AP nb (fun i => [.int .i64 ((g i).1), .int .i64 ((g i).2.1), .int .i64 ((g i).2.2.1), .int .i64 ((g i).2.2.2.1)])),
  (AN 1),
  ((N : Nat) ≤ N),
  (AA N (fun i => [.p (.int .i64 (R i))])),
  (AN 2),
  ((N : Nat) ≤ N),
  (∀ i : Nat, (((i : Nat) < N) → (All (cvtL false [(2, ⟨false, 2, N, (fun i_1 => (if (i_1 = v) then [.p (.int .i64 (X v)), .p (.int .i64 (Y v + dy))] else [.p (.int .i64 (X i_1)), .p (.int .i64 (Y i_1))]))⟩), (0, ⟨true, 2, 1, (fun i_1 => [.p (.int .i64 (↑N : Int)), .p (.seq true 4 nb (fun i_2 => [.int .i64 ((g i_2).1), .int .i64 ((g i_2).2.1), .int .i64 ((g i_2).2.2.1), .int .i64 ((g i_2).2.2.2.1)]))])⟩), (1, ⟨false, 1, N, (fun i_1 => [.p (.int .i64 (R i_1))])⟩)] [0, 1, 2] 1 (if (i = v) then [.p (.int .i64 (X v)), .p (.int .i64 (Y v + dy))] else [.p (.int .i64 (X i)), .p (.int .i64 (Y i))])).2 ∧ (((cvtL false [(2, ⟨false, 2, N, (fun i_1 => (if (i_1 = v) then [.p (.int .i64 (X v)), .p (.int .i64 (Y v + dy))] else [.p (.int .i64 (X i_1)), .p (.int .i64 (Y i_1))]))⟩), (0, ⟨true, 2, 1, (fun i_1 => [.p (.int .i64 (↑N : Int)), .p (.seq true 4 nb (fun i_2 => [.int .i64 ((g i_2).1), .int .i64 ((g i_2).2.1), .int .i64 ((g i_2).2.2.1), .int .i64 ((g i_2).2.2.2.1)]))])⟩), (1, ⟨false, 1, N, (fun i_1 => [.p (.int .i64 (R i_1))])⟩)] [0, 1, 2] 1 (if (i = v) then [.p (.int .i64 (X v)), .p (.int .i64 (Y v + dy))] else [.p (.int .i64 (X i)), .p (.int .i64 (Y i))])).1 : List AV) = [.p (.int .i64 (X i)), .p (.int .i64 (up Y v (Y v + dy) i))]))))]) := by kernel_rfl
end Go.Proofs.Ytffnfeefjdmifaa.Mach
namespace Go.Proofs.Ytffnfeefjdmifaa.Mach
open Go
set_option linter.unusedVariables false
set_option linter.unusedSimpArgs false
namespace BL
structure Es where
  n : Nat
  N : Nat
  a : Nat → Nat
  b : Nat → Nat
  x : Nat → Int
  y : Nat → Int
structure Es.Ok (e : Es) : Prop where
  ha : ∀ i, i < e.n → e.a i < e.N
  hb : ∀ i, i < e.n → e.b i < e.N
def Es.Pot (e : Es) (p q : Nat → Int) : Prop := ∀ i, i < e.n → p (e.a i) + e.x i = p (e.b i) ∧ q (e.a i) + e.y i = q (e.b i)
def Es.Bal (e : Es) : Prop := ∃ p q, e.Pot p q
def Es.Closed (e : Es) (K : Nat → Bool) : Prop := ∀ i, i < e.n → K (e.a i) = K (e.b i)
def Es.Good (e : Es) (K : Nat → Bool) (X Y : Nat → Int) : Prop :=
  ∀ p q, e.Pot p q → ∀ i, i < e.n → K (e.a i) = true → K (e.b i) = true → p (e.a i) - X (e.a i) = p (e.b i) - X (e.b i) ∧ q (e.a i) - Y (e.a i) = q (e.b i) - Y (e.b i)
structure Es.Ph (e : Es) (K0 : Nat → Bool) (r : Nat) (K : Nat → Bool) (X Y : Nat → Int) : Prop where
  c0 : e.Closed K0
  g0 : e.Good K0 X Y
  le : ∀ v, K0 v = true → K v = true
  kr : K r = true
  ph : ∀ p q, e.Pot p q → ∀ v, K v = true → K0 v = false → p v - X v = p r - X r ∧ q v - Y v = q r - Y r
theorem up_same {α : Type} (F : Nat → α) (k : Nat) (x : α) : up F k x k = x := by simp [up]
theorem up_ne {α : Type} (F : Nat → α) (k v : Nat) (x : α) (h : v ≠ k) : up F k x v = F v := by simp [up, h]
theorem Es.Ph.add {e : Es} {K0 : Nat → Bool} {r : Nat} {K : Nat → Bool} {X Y : Nat → Int} (h : e.Ph K0 r K X Y) {u w : Nat} {dx dy : Int}
    (hu : K u = true) (hw : K w = false) (hK0 : K0 u = K0 w) (hp : ∀ p q, e.Pot p q → p u + dx = p w ∧ q u + dy = q w) :
    e.Ph K0 r (up K w true) (up X w (X u + dx)) (up Y w (Y u + dy)) := by
  have hw0 : K0 w = false := by
    cases h' : K0 w with
    | false => rfl
    | true => rw [h.le w h'] at hw; cases hw
  have hrw : r ≠ w := fun h' => by rw [← h', h.kr] at hw; cases hw
  have huw : u ≠ w := fun h' => by rw [h', hw] at hu; cases hu
  refine ⟨h.c0, ?_, ?_, ?_, ?_⟩
  · intro p q hpq i hi h1 h2
    have n1 : e.a i ≠ w := fun h' => by rw [h', hw0] at h1; cases h1
    have n2 : e.b i ≠ w := fun h' => by rw [h', hw0] at h2; cases h2
    rw [up_ne _ _ _ _ n1, up_ne _ _ _ _ n2, up_ne _ _ _ _ n1, up_ne _ _ _ _ n2]
    exact h.g0 p q hpq i hi h1 h2
  · intro v hv
    by_cases hvw : v = w
    · rw [hvw]; exact up_same _ _ _
    · rw [up_ne _ _ _ _ hvw]; exact h.le v hv
  · rw [up_ne _ _ _ _ hrw]; exact h.kr
  · intro p q hpq v hv hv0
    rw [up_ne X _ _ _ hrw, up_ne Y _ _ _ hrw]
    by_cases hvw : v = w
    · subst hvw
      rw [up_same, up_same]
      have h1 := h.ph p q hpq u hu (by rw [hK0]; exact hw0)
      have h2 := hp p q hpq
      omega
    · rw [up_ne _ _ _ _ hvw] at hv
      rw [up_ne _ _ _ _ hvw, up_ne _ _ _ _ hvw]
      exact h.ph p q hpq v hv hv0
theorem Es.Ph.done {e : Es} {K0 : Nat → Bool} {r : Nat} {K : Nat → Bool} {X Y : Nat → Int} (h : e.Ph K0 r K X Y) : e.Good K X Y := by
  intro p q hpq i hi h1 h2
  have hc := h.c0 i hi
  cases h0 : K0 (e.a i) with
  | true => exact h.g0 p q hpq i hi h0 (by rw [← hc]; exact h0)
  | false =>
    have a1 := h.ph p q hpq (e.a i) h1 h0
    have a2 := h.ph p q hpq (e.b i) h2 (by rw [← hc]; exact h0)
    omega
def cnt (K : Nat → Bool) : Nat → Nat
  | 0 => 0
  | v + 1 => cnt K v + (if K v = true then 1 else 0)
theorem cnt_le (K : Nat → Bool) : ∀ n, cnt K n ≤ n
  | 0 => Nat.le_refl _
  | n + 1 => by have := cnt_le K n; simp only [cnt]; split <;> omega
theorem cnt_congr (K L : Nat → Bool) : ∀ n, (∀ v, v < n → K v = L v) → cnt K n = cnt L n
  | 0, _ => rfl
  | n + 1, h => by simp only [cnt]; rw [cnt_congr K L n (fun v hv => h v (by omega)), h n (by omega)]
theorem cnt_up (K : Nat → Bool) (w : Nat) (hw : K w = false) : ∀ n, w < n → cnt (up K w true) n = cnt K n + 1
  | 0, h => by omega
  | n + 1, h => by
    simp only [cnt]
    by_cases hn : w = n
    · subst hn
      rw [cnt_congr (up K w true) K w (fun v hv => up_ne _ _ _ _ (by omega)), up_same, hw]; simp
    · rw [cnt_up K w hw n (by omega), up_ne _ _ _ _ (by omega)]; omega
theorem cnt_pos (K : Nat → Bool) (w : Nat) (hw : K w = true) : ∀ n, w < n → 1 ≤ cnt K n
  | 0, h => by omega
  | n + 1, h => by
    simp only [cnt]
    by_cases hn : w = n
    · subst hn; rw [hw]; simp
    · have := cnt_pos K w hw n (by omega); omega
def Es.Sw (e : Es) (K : Nat → Bool) (m i : Nat) : Prop :=
  e.Closed K ∨ m + 2 ≤ cnt K e.N ∨ (m + 1 ≤ cnt K e.N ∧ ∀ j, j < i → K (e.a j) = K (e.b j))
theorem Es.Sw.add {e : Es} {K : Nat → Bool} {m i : Nat} (h : e.Sw K m i) {w : Nat} (hw : w < e.N) (hK : K w = false) (hn : ¬ K (e.a i) = K (e.b i)) (hi : i < e.n) :
    e.Sw (up K w true) m (i + 1) := by
  right; left
  rw [cnt_up K w hK e.N hw]
  rcases h with h | h | h
  · exact absurd (h i hi) hn
  · omega
  · omega
theorem Es.Sw.skip {e : Es} {K : Nat → Bool} {m i : Nat} (h : e.Sw K m i) (hn : K (e.a i) = K (e.b i)) : e.Sw K m (i + 1) := by
  rcases h with h | h | h
  · exact .inl h
  · exact .inr (.inl h)
  · refine .inr (.inr ⟨h.1, fun j hj => ?_⟩)
    by_cases hji : j = i
    · rw [hji]; exact hn
    · exact h.2 j (by omega)
theorem Es.Sw.next {e : Es} {K : Nat → Bool} {m : Nat} (h : e.Sw K m e.n) : e.Sw K (m + 1) 0 := by
  rcases h with h | h | h
  · exact .inl h
  · exact .inr (.inr ⟨h, fun j hj => absurd hj (Nat.not_lt_zero _)⟩)
  · exact .inl h.2
theorem Es.Sw.fin {e : Es} {K : Nat → Bool} (h : e.Sw K e.N 0) : e.Closed K := by
  have := cnt_le K e.N
  rcases h with h | h | h
  · exact h
  · omega
  · omega
structure Es.Uf (e : Es) (k : Nat) (R X Y : Nat → Int) : Prop where
  i1 : ∀ j, j < k → R (e.a j) = R (e.b j) ∧ X (e.a j) + e.x j = X (e.b j) ∧ Y (e.a j) + e.y j = Y (e.b j)
  i2 : ∀ p q, e.Pot p q → ∀ u v, u < e.N → v < e.N → R u = R v → p u - X u = p v - X v ∧ q u - Y u = q v - Y v
def mR (R F : Nat → Int) (fr : Int) (n : Nat) (G : Nat → Int) (u : Nat) : Int := if u < n ∧ R u = fr then G u else F u
theorem mR_up (R F : Nat → Int) (fr : Int) (G : Nat → Int) (v : Nat) (h : R v = fr) : up (mR R F fr v G) v (G v) = mR R F fr (v + 1) G := by
  funext u
  simp only [up, mR]
  by_cases hu : u = v
  · subst hu; rw [if_pos rfl, if_pos ⟨by omega, h⟩]
  · rw [if_neg hu]
    by_cases h2 : u < v ∧ R u = fr
    · rw [if_pos h2, if_pos ⟨by omega, h2.2⟩]
    · rw [if_neg h2, if_neg (fun h3 => h2 ⟨by omega, h3.2⟩)]
theorem mR_skip (R F : Nat → Int) (fr : Int) (G : Nat → Int) (v : Nat) (h : ¬ R v = fr) : mR R F fr v G = mR R F fr (v + 1) G := by
  funext u
  simp only [mR]
  by_cases h2 : u < v ∧ R u = fr
  · rw [if_pos h2, if_pos ⟨by omega, h2.2⟩]
  · rw [if_neg h2, if_neg (fun h3 => ?_)]
    have hn : u ≠ v := fun h4 => h (by rw [← h4]; exact h3.2)
    exact h2 ⟨by omega, h3.2⟩
theorem mR_at (R F : Nat → Int) (fr : Int) (G : Nat → Int) (v : Nat) : mR R F fr v G v = F v := by simp [mR]
theorem Es.Uf.merge {e : Es} (he : e.Ok) {k : Nat} {R X Y : Nat → Int} (h : e.Uf k R X Y) (hk : k < e.n) (hne : ¬ R (e.b k) = R (e.a k)) (dx dy : Int)
    (hx : dx = X (e.a k) + e.x k - X (e.b k)) (hy : dy = Y (e.a k) + e.y k - Y (e.b k)) :
    e.Uf (k + 1) (mR R R (R (e.b k)) e.N (fun _ => R (e.a k))) (mR R X (R (e.b k)) e.N (fun u => X u + dx)) (mR R Y (R (e.b k)) e.N (fun u => Y u + dy)) := by
  have hin : ∀ u, u < e.N → ∀ F G, mR R F (R (e.b k)) e.N G u = if R u = R (e.b k) then G u else F u := by
    intro u hu F G
    simp only [mR]
    by_cases h1 : R u = R (e.b k)
    · rw [if_pos ⟨hu, h1⟩, if_pos h1]
    · rw [if_neg (fun h2 => h1 h2.2), if_neg h1]
  constructor
  · intro j hj
    by_cases hjk : j = k
    · subst hjk
      rw [hin _ (he.ha j hk), hin _ (he.hb j hk), hin _ (he.ha j hk), hin _ (he.hb j hk), hin _ (he.ha j hk), hin _ (he.hb j hk)]
      simp only [if_true, if_neg (fun h' => hne (Eq.symm h'))]
      refine ⟨trivial, ?_, ?_⟩ <;> omega
    · have h1 := h.i1 j (by omega)
      rw [hin _ (he.ha j (by omega)), hin _ (he.hb j (by omega)), hin _ (he.ha j (by omega)), hin _ (he.hb j (by omega)), hin _ (he.ha j (by omega)), hin _ (he.hb j (by omega)), ← h1.1]
      by_cases h2 : R (e.a j) = R (e.b k)
      · simp only [if_pos h2]; refine ⟨trivial, ?_, ?_⟩ <;> omega
      · simp only [if_neg h2]; exact ⟨trivial, h1.2⟩
  · intro p q hpq u v hu hv
    rw [hin u hu, hin v hv, hin u hu, hin v hv, hin u hu, hin v hv]
    have hb := hpq k hk
    by_cases h1 : R u = R (e.b k)
    · by_cases h2 : R v = R (e.b k)
      · simp only [if_pos h1, if_pos h2]; intro _
        have := h.i2 p q hpq u v hu hv (by rw [h1, h2]); omega
      · simp only [if_pos h1, if_neg h2]; intro h3
        have a1 := h.i2 p q hpq u (e.b k) hu (he.hb k hk) h1
        have a2 := h.i2 p q hpq (e.a k) v (he.ha k hk) hv h3
        omega
    · by_cases h2 : R v = R (e.b k)
      · simp only [if_neg h1, if_pos h2]; intro h3
        have a1 := h.i2 p q hpq v (e.b k) hv (he.hb k hk) h2
        have a2 := h.i2 p q hpq (e.a k) u (he.ha k hk) hu h3.symm
        omega
      · simp only [if_neg h1, if_neg h2]; intro h3
        exact h.i2 p q hpq u v hu hv h3
theorem mR_le (R F : Nat → Int) (fr : Int) (n : Nat) (G : Nat → Int) (B : Int) (hF : ∀ v, -B ≤ F v ∧ F v ≤ B) (hG : ∀ v, -B ≤ G v ∧ G v ≤ B) : ∀ v, -B ≤ mR R F fr n G v ∧ mR R F fr n G v ≤ B := by
  intro v; simp only [mR]; split
  · exact hG v
  · exact hF v
theorem up_le (F : Nat → Int) (k : Nat) (x B : Int) (hF : ∀ v, -B ≤ F v ∧ F v ≤ B) (hx : -B ≤ x ∧ x ≤ B) : ∀ v, -B ≤ up F k x v ∧ up F k x v ≤ B := by
  intro v; simp only [up]; split
  · exact hx
  · exact hF v
def mb : Nat → Int
  | 0 => 0
  | k + 1 => 3 * mb k + 9
theorem mb_le (k : Nat) (h : k ≤ 8) : 0 ≤ mb k ∧ mb k ≤ 100000 := by
  rcases k with _ | _ | _ | _ | _ | _ | _ | _ | _ | k
  all_goals first | decide | omega
end BL
open BL
def goodS (nb : Nat) (s : Nat → Int) : Nat → Bool
  | 0 => true
  | k + 1 => goodS nb s k && !badS nb s k
theorem goodS_bad (nb : Nat) (s : Nat → Int) (k : Nat) (h : badS nb s k = true) : ∀ n, k < n → goodS nb s n = false
  | 0, h' => by omega
  | n + 1, h' => by
    by_cases e' : k = n
    · subst e'; simp [goodS, h]
    · simp [goodS, goodS_bad nb s k h n (by omega)]
theorem idx_ltB {b : Bool} {k n : Nat} (h : (b && decide ((k : Int) > 0)) = true) (hk : k < n) : 0 ≤ (k : Int) - 1 ∧ (k : Int) - 1 < n ∧ -9223372036854775808 ≤ (k : Int) - 1 ∧ (k : Int) - 1 ≤ n := by
  simp at h
  omega
theorem goodS_in {nb : Nat} {s : Nat → Int} : ∀ {n : Nat}, goodS nb s n = true → (∀ i, i < n → 0 ≤ s i ∧ s i < nb ∧ (i : Int) ≤ s i)
  | 0, _ => fun i hi => absurd hi (Nat.not_lt_zero _)
  | n + 1, h => by
    simp only [goodS, Bool.and_eq_true, Bool.not_eq_true'] at h
    have ih := goodS_in h.1
    intro i hi
    by_cases e' : i = n
    · subst e'
      have hb := h.2
      simp only [badS] at hb
      cases h1 : decide (s i < 0) with
      | true => rw [h1] at hb; cases hb
      | false =>
        cases h2 : decide (s i ≥ (nb : Int)) with
        | true => rw [h1, h2] at hb; cases hb
        | false =>
          have h1' := of_decide_eq_false h1
          have h2' := of_decide_eq_false h2
          refine ⟨by omega, by omega, ?_⟩
          cases i with
          | zero => omega
          | succ j =>
            rw [h1, h2, show decide (((j + 1 : Nat) : Int) > 0) = true from decide_eq_true (by omega), show (((j + 1 : Nat) : Int) - 1).toNat = j by omega] at hb
            have h3 := of_decide_eq_false hb
            have := (ih j (by omega)).2.2
            omega
    · exact ih i (by omega)
def esO (g : Nat → T_GainBar) (N n : Nat) (s : Nat → Int) : Es :=
  ⟨n, N, fun i => (gb g s i).1.toNat, fun i => (gb g s i).2.1.toNat, fun i => (gb g s i).2.2.1, fun i => (gb g s i).2.2.2.1⟩
open Classical in
noncomputable def balP (g : Nat → T_GainBar) (N n : Nat) (s : Nat → Int) : Bool := decide (esO g N n s).Bal
noncomputable def isBalF (v : T_GainGraph) (u : T_IntS) : Bool := bif goodS v.2.1.1 u.2 u.1 then (bif isGainF v then balP v.2.1.2 v.1.toNat u.1 u.2 else false) else false
theorem con_l29Set (v : T_GainGraph) (hs : smS s_GainGraph v) (u : T_IntS) (hn : u.1 ≤ 1048576) :
    Con Try.prog 124 0 [] [gnA v.2.1.2 v.2.1.1 v.1, inS u.1 u.2] [] (.p (.bool (bif goodS v.2.1.1 u.2 u.1 then isGainF v else false))) := by
  have hcg := con_IsGainGraph_s v hs
  obtain ⟨n, s⟩ := u
  refine con_start Try.func124 rfl (by kernel_rfl) rfl (fun c hc => ?_)
  have lp : ∀ d k, k + d = n → goodS v.2.1.1 s k = true → Run Try.prog c 124 [.code (cAt (bodyOf Try.f124) [1, 0, 1, 0, 0]), .inLoop (cAt (bodyOf Try.f124) [1, 0, 1, 0, 0]), .inBlock 0, .code (cAt (bodyOf Try.f124) [1, 1])] (SBl v.2.1.2 v.2.1.1 v.1 n s k) (Post c [] (.p (.bool (bif goodS v.2.1.1 s n then isGainF v else false)))) := by
    intro d
    induction d with
    | zero =>
      intro k hk hg
      have e : k = n := by omega
      have hd : decide ((k : Int) < (n : Int)) = false := by simp; omega
      rw [show goodS v.2.1.1 s n = true by rw [← e]; exact hg]
      refine path_ok mixed Try.func124 hc (bLd v.2.1.2 v.2.1.1 v.1 n s k (isGainF v)) ?_
      simp only [All]
      repeat' (first | exact trivial | with_reducible apply And.intro)
      all_goals (first | exact aG _ | exact aP _ _ | exact aA _ _ | exact aE _ | omega | rfl | (intros; first | assumption | exact True.intro | rfl | exact absurd (show false = true by assumption) Bool.false_ne_true | ((repeat' (first | assumption | apply anda | apply notf)); done)) | (exact hd) | (exact hcg) | rfl)
    | succ d ih =>
      intro k hk hg
      have hd : decide ((k : Int) < (n : Int)) = true := by simp; omega
      have hk' : k < n := by omega
      cases hb : badS v.2.1.1 s k with
      | true =>
        rw [goodS_bad v.2.1.1 s k hb n hk']
        refine path_ok mixed Try.func124 hc (bLc v.2.1.2 v.2.1.1 v.1 n s k) ?_
        simp only [All]
        repeat' (first | exact trivial | with_reducible apply And.intro)
        all_goals (first | exact aG _ | exact aP _ _ | exact aA _ _ | exact aE _ | omega | rfl | (intros; first | assumption | exact True.intro | rfl | exact absurd (show false = true by assumption) Bool.false_ne_true | ((repeat' (first | assumption | apply anda | apply notf)); done)) | (exact hd) | (exact hb) | (intro h; exact h) | (intro h; rw [h]; rfl) | (intro h1 h2; rw [h1, h2]; rfl) | (intro h; have := idx_ltB h hk'; omega) | (intro h; omega))
      | false =>
        refine piece_ok mixed hc (bLb v.2.1.2 v.2.1.1 v.1 n s k) ?_ (ih (k + 1) (by omega) (by simp [goodS, hg, hb]))
        simp only [All]
        repeat' (first | exact trivial | with_reducible apply And.intro)
        all_goals (first | exact aG _ | exact aP _ _ | exact aA _ _ | exact aE _ | omega | rfl | (intros; first | assumption | exact True.intro | rfl | exact absurd (show false = true by assumption) Bool.false_ne_true | ((repeat' (first | assumption | apply anda | apply notf)); done)) | (exact hd) | (exact hb) | (intro h; exact h) | (intro h; rw [h]; rfl) | (intro h1 h2; rw [h1, h2]; rfl) | (intro h; have := idx_ltB h hk'; omega) | (intro h; omega))
  refine piece_ok mixed hc (bLa v.2.1.2 v.2.1.1 v.1 n s) ?_ (lp n 0 (by omega) rfl)
  simp only [All]
  repeat' (first | exact trivial | with_reducible apply And.intro)
  all_goals (first | exact aG _ | exact aP _ _ | exact aA _ _ | exact aE _ | omega | rfl | (intros; first | assumption | exact True.intro | rfl | exact absurd (show false = true by assumption) Bool.false_ne_true | ((repeat' (first | assumption | apply anda | apply notf)); done)) | (simp; done))
end Go.Proofs.Ytffnfeefjdmifaa.Mach
namespace Go.Proofs.Ytffnfeefjdmifaa.Mach
open Go BL
set_option linter.unusedVariables false
set_option linter.unusedSimpArgs false
def barOk (N : Nat) (b : T_GainBar) : Prop := 0 ≤ b.1 ∧ b.1 ≤ b.2.1 ∧ b.2.1 < N ∧ -9 ≤ b.2.2.1 ∧ b.2.2.1 ≤ 9 ∧ -9 ≤ b.2.2.2.1 ∧ b.2.2.2.1 ≤ 9
theorem badG_ok {N : Int} {b : T_GainBar} (h : badG N b = false) : 0 ≤ b.1 ∧ b.1 ≤ b.2.1 ∧ b.2.1 < N ∧ -9 ≤ b.2.2.1 ∧ b.2.2.1 ≤ 9 ∧ -9 ≤ b.2.2.2.1 ∧ b.2.2.2.1 ≤ 9 := by
  unfold badG at h
  cases h1 : decide (b.1 < 0) <;> cases h2 : decide (b.1 > b.2.1) <;> cases h3 : decide (b.2.1 ≥ N) <;> cases h4 : inB b.2.2.1 (-9) 9 <;> cases h5 : inB b.2.2.2.1 (-9) 9 <;> simp [h1, h2, h3, h4, h5] at h
  simp only [inB, Bool.and_eq_true, decide_eq_true_eq, decide_eq_false_iff_not] at h1 h2 h3 h4 h5
  omega
theorem goodG_all {v : T_GainGraph} : ∀ {n : Nat}, goodG v n = true → ∀ k, k < n → badG v.1 (v.2.1.2 k) = false
  | 0, _ => fun k hk => absurd hk (Nat.not_lt_zero _)
  | n + 1, h => by
    simp only [goodG, Bool.and_eq_true, Bool.not_eq_true'] at h
    intro k hk
    by_cases e' : k = n
    · rw [e']; exact h.2
    · exact goodG_all h.1 k (by omega)
theorem gain_in {v : T_GainGraph} (h : isGainF v = true) : ∃ N nb : Nat, ∃ g, v = ((N : Int), (nb, g), ()) ∧ 1 ≤ N ∧ N ≤ 4 ∧ nb ≤ 8 ∧ ∀ i, i < nb → barOk N (g i) := by
  obtain ⟨n, ⟨nb, g⟩, u⟩ := v
  simp only [isGainF, inB, Bool.and_eq_true, decide_eq_true_eq] at h
  refine ⟨n.toNat, nb, g, ?_, by omega, by omega, h.2.2, fun i hi => ?_⟩
  · rw [show ((n.toNat : Nat) : Int) = n by omega]
  · have h2 := badG_ok (goodG_all h.1 i hi)
    simp only at h2
    unfold barOk
    omega
theorem goodS_n {nb : Nat} {s : Nat → Int} {n : Nat} (h : goodS nb s n = true) : n ≤ nb := by
  cases n with
  | zero => omega
  | succ n => have := goodS_in h n (by omega); omega
theorem esO_ok {N nb n : Nat} {g : Nat → T_GainBar} {s : Nat → Int} (hg : ∀ i, i < nb → barOk N (g i)) (hs : goodS nb s n = true) : (esO g N n s).Ok := by
  constructor
  · intro i hi
    have h1 := goodS_in hs i hi
    have h2 := hg (s i).toNat (by omega)
    unfold barOk at h2
    show (g (s i).toNat).1.toNat < N
    omega
  · intro i hi
    have h1 := goodS_in hs i hi
    have h2 := hg (s i).toNat (by omega)
    unfold barOk at h2
    show (g (s i).toNat).2.1.toNat < N
    omega
theorem balP_t {g : Nat → T_GainBar} {N n : Nat} {s : Nat → Int} (h : (esO g N n s).Bal) : balP g N n s = true := by
  classical
  unfold balP; exact decide_eq_true h
theorem balP_f {g : Nat → T_GainBar} {N n : Nat} {s : Nat → Int} (h : ¬ (esO g N n s).Bal) : balP g N n s = false := by
  classical
  unfold balP; exact decide_eq_false h
theorem con_balanced {N nb n : Nat} {g : Nat → T_GainBar} {s : Nat → Int} (hN : 1 ≤ N ∧ N ≤ 4) (hnb : nb ≤ 8) (hg : ∀ i, i < nb → barOk N (g i)) (hs : goodS nb s n = true) :
    Con Try.prog 128 0 [] [gnA g nb N, inS n s] [] (.p (.bool (balP g N n s))) := by
  have hn := goodS_n hs
  have hok := esO_ok hg hs
  refine con_start Try.func128 rfl (by kernel_rfl) rfl (fun c hc => ?_)
  have l1 : ∀ d k R X Y, k + d = n → (esO g N n s).Uf k R X Y → (∀ v, -mb k ≤ X v ∧ X v ≤ mb k) → (∀ v, -mb k ≤ Y v ∧ Y v ≤ mb k) →
      Run Try.prog c 128 [.code (cAt (bodyOf Try.f128) [1, 1, 1, 1, 0, 1, 0, 0]), .inLoop (cAt (bodyOf Try.f128) [1, 1, 1, 1, 0, 1, 0, 0]), .inBlock 2, .code (cAt (bodyOf Try.f128) [1, 1, 1, 1, 1])] (SY1 g nb N n s R X Y k) (Post c [] (.p (.bool (balP g N n s)))) := by
    intro d
    induction d with
    | zero =>
      intro k R X Y hk hu hX hY
      have hd : decide ((k : Int) < (n : Int)) = false := by simp; omega
      have hall : ∀ i, i < n → i < k := fun i hi => by omega
      rw [balP_t ⟨X, Y, fun i hi => (hu.i1 i (hall i hi)).2⟩]
      refine path_ok mixed Try.func128 hc (bY1e g nb N n s R X Y k) ?_
      simp only [All]
      repeat' (first | exact trivial | with_reducible apply And.intro)
      all_goals (first | exact aG _ | exact aP _ _ | exact aA _ _ | exact aE _ | omega | rfl | (intros; first | assumption | exact True.intro | rfl | exact absurd (show false = true by assumption) Bool.false_ne_true | ((repeat' (first | assumption | apply anda | apply notf)); done)) | (exact hd) | rfl)
    | succ d ih =>
      intro k R X Y hk hu hX hY
      have hkn : k < n := by omega
      have hd : decide ((k : Int) < (n : Int)) = true := by simp; omega
      have hi := goodS_in hs k hkn
      have hb := hg (s k).toNat (by omega)
      unfold barOk at hb
      have hm := mb_le (k + 1) (by omega)
      simp only [mb] at hm
      have xa := hX (g (s k).toNat).1.toNat
      have xb := hX (g (s k).toNat).2.1.toNat
      have ya := hY (g (s k).toNat).1.toNat
      have yb := hY (g (s k).toNat).2.1.toNat
      by_cases hr : R (g (s k).toNat).2.1.toNat = R (g (s k).toNat).1.toNat
      · have hr' : (R (g (s k).toNat).2.1.toNat == R (g (s k).toNat).1.toNat) = true := by rw [hr]; exact beq_self_eq_true _
        by_cases hz : X (g (s k).toNat).1.toNat + (g (s k).toNat).2.2.1 - X (g (s k).toNat).2.1.toNat = 0 ∧ Y (g (s k).toNat).1.toNat + (g (s k).toNat).2.2.2.1 - Y (g (s k).toNat).2.1.toNat = 0
        · have hz' : (bif X (g (s k).toNat).1.toNat + (g (s k).toNat).2.2.1 - X (g (s k).toNat).2.1.toNat != 0 then true else Y (g (s k).toNat).1.toNat + (g (s k).toNat).2.2.2.1 - Y (g (s k).toNat).2.1.toNat != 0) = false := by
            rw [hz.1, hz.2]; rfl
          refine piece_ok mixed hc (bY1c g nb N n s R X Y k) ?_ (ih (k + 1) R X Y (by omega) ⟨?_, hu.i2⟩ (fun v => by have := hX v; simp only [mb]; omega) (fun v => by have := hY v; simp only [mb]; omega))
          ·
            simp only [All]
            repeat' (first | exact trivial | with_reducible apply And.intro)
            all_goals (first | exact aG _ | exact aP _ _ | exact aA _ _ | exact aE _ | omega | rfl | (intros; first | assumption | exact True.intro | rfl | exact absurd (show false = true by assumption) Bool.false_ne_true | ((repeat' (first | assumption | apply anda | apply notf)); done)) | (exact hd) | (exact hr') | (exact hz') | (intro h; exact h) | (intro h; rw [h]; rfl) | (intro h; omega) | (intro j hj; simp [All]))
          · intro j hj
            by_cases hjk : j = k
            · subst hjk
              refine ⟨hr.symm, ?_, ?_⟩
              · show X (g (s j).toNat).1.toNat + (g (s j).toNat).2.2.1 = X (g (s j).toNat).2.1.toNat; omega
              · show Y (g (s j).toNat).1.toNat + (g (s j).toNat).2.2.2.1 = Y (g (s j).toNat).2.1.toNat; omega
            · exact hu.i1 j (by omega)
        · have hz' : (bif X (g (s k).toNat).1.toNat + (g (s k).toNat).2.2.1 - X (g (s k).toNat).2.1.toNat != 0 then true else Y (g (s k).toNat).1.toNat + (g (s k).toNat).2.2.2.1 - Y (g (s k).toNat).2.1.toNat != 0) = true := by
            cases h1 : (X (g (s k).toNat).1.toNat + (g (s k).toNat).2.2.1 - X (g (s k).toNat).2.1.toNat != 0) with
            | true => rfl
            | false =>
              cases h2 : (Y (g (s k).toNat).1.toNat + (g (s k).toNat).2.2.2.1 - Y (g (s k).toNat).2.1.toNat != 0) with
              | true => rfl
              | false => exact absurd ⟨by simpa using h1, by simpa using h2⟩ hz
          rw [balP_f (fun ⟨p, q, hpq⟩ => by
            have h1 := hpq k hkn
            have h2 := hu.i2 p q hpq _ _ (hok.ha k hkn) (hok.hb k hkn) hr.symm
            simp only [esO, gb] at h1 h2
            omega)]
          refine path_ok mixed Try.func128 hc (bY1t g nb N n s R X Y k) ?_
          simp only [All]
          repeat' (first | exact trivial | with_reducible apply And.intro)
          all_goals (first | exact aG _ | exact aP _ _ | exact aA _ _ | exact aE _ | omega | rfl | (intros; first | assumption | exact True.intro | rfl | exact absurd (show false = true by assumption) Bool.false_ne_true | ((repeat' (first | assumption | apply anda | apply notf)); done)) | (exact hd) | (exact hr') | (exact hz') | (intro h; exact h) | (intro h; rw [h]; rfl) | (intro h; omega) | (intro j hj; simp [All]))
      · have hr' : (R (g (s k).toNat).2.1.toNat == R (g (s k).toNat).1.toNat) = false := by simp; exact hr
        have hmg := hu.merge hok hkn hr _ _ rfl rfl
        simp only [esO, gb] at hmg
        generalize hdx : X (g (s k).toNat).1.toNat + (g (s k).toNat).2.2.1 - X (g (s k).toNat).2.1.toNat = dx at hmg
        generalize hdy : Y (g (s k).toNat).1.toNat + (g (s k).toNat).2.2.2.1 - Y (g (s k).toNat).2.1.toNat = dy at hmg
        generalize hfr : R (g (s k).toNat).2.1.toNat = fr at hmg
        generalize hto : R (g (s k).toNat).1.toNat = to' at hmg
        have hX3 : ∀ v, -mb (k + 1) ≤ X v ∧ X v ≤ mb (k + 1) := fun v => by have := hX v; simp only [mb]; omega
        have hY3 : ∀ v, -mb (k + 1) ≤ Y v ∧ Y v ≤ mb (k + 1) := fun v => by have := hY v; simp only [mb]; omega
        have hX4 : ∀ v, -mb (k + 1) ≤ X v + dx ∧ X v + dx ≤ mb (k + 1) := fun v => by have := hX v; simp only [mb]; omega
        have hY4 : ∀ v, -mb (k + 1) ≤ Y v + dy ∧ Y v + dy ≤ mb (k + 1) := fun v => by have := hY v; simp only [mb]; omega
        have hm2 := mb_le (k + 1) (by omega)
        have l2 : ∀ e v, v + e = N → Run Try.prog c 128 [.code (cAt (bodyOf Try.f128) [1, 1, 1, 1, 0, 1, 0, 0, 1, 1, 0, 0, 1, 1, 1, 1, 1, 1, 0, 0]), .inLoop (cAt (bodyOf Try.f128) [1, 1, 1, 1, 0, 1, 0, 0, 1, 1, 0, 0, 1, 1, 1, 1, 1, 1, 0, 0]), .inBlock 4, .inBlock 3, .code (cAt (bodyOf Try.f128) [1, 1, 1, 1, 0, 1, 0, 0, 1, 1, 1]), .inLoop (cAt (bodyOf Try.f128) [1, 1, 1, 1, 0, 1, 0, 0]), .inBlock 2, .code (cAt (bodyOf Try.f128) [1, 1, 1, 1, 1])] (SY2 g nb N n s (mR R R fr v (fun _ => to')) (mR R X fr v (fun u => X u + dx)) (mR R Y fr v (fun u => Y u + dy)) k dx dy fr to' v) (Post c [] (.p (.bool (balP g N n s)))) := by
          intro e
          induction e with
          | zero =>
            intro v hv
            obtain rfl : v = N := by omega
            have hd2 : decide ((v : Int) < (v : Int)) = false := by simp
            refine piece_ok mixed hc (bY2e g nb v n s _ _ _ k dx dy fr to' v) ?_ (ih (k + 1) _ _ _ (by omega) hmg (mR_le _ _ _ _ _ _ hX3 hX4) (mR_le _ _ _ _ _ _ hY3 hY4))
            simp only [All]
            repeat' (first | exact trivial | with_reducible apply And.intro)
            all_goals (first | exact aG _ | exact aP _ _ | exact aA _ _ | exact aE _ | omega | rfl | (intros; first | assumption | exact True.intro | rfl | exact absurd (show false = true by assumption) Bool.false_ne_true | ((repeat' (first | assumption | apply anda | apply notf)); done)) | (exact hd2) | (simp; done) | (intro j hj; simp [All]))
          | succ e ih2 =>
            intro v hv
            have hd2 : decide ((v : Int) < (N : Int)) = true := by simp; omega
            have e1 := mR_at R R fr (fun _ => to') v
            by_cases h3 : R v = fr
            · have h3' : (mR R R fr v (fun _ => to') v == fr) = true := by rw [e1, h3]; exact beq_self_eq_true _
              have h5 := hX4 v
              have h6 := hY4 v
              have q1 := mR_up R R fr (fun _ => to') v h3
              have q2 := mR_up R X fr (fun u => X u + dx) v h3
              have q3 := mR_up R Y fr (fun u => Y u + dy) v h3
              have h7 := ih2 (v + 1) (by omega)
              rw [← q1, ← q2, ← q3] at h7
              refine piece_ok mixed hc (bY2t g nb N n s _ _ _ k dx dy fr to' v) ?_ (piece_ok mixed hc (bY2u g nb N n s _ _ _ k dx dy fr to' v) ?_ (cast (by simp only [mR_at]) h7))
              ·
                simp only [All]
                repeat' (first | exact trivial | with_reducible apply And.intro)
                all_goals (first | exact aG _ | exact aP _ _ | exact aA _ _ | exact aE _ | omega | rfl | (intros; first | assumption | exact True.intro | rfl | exact absurd (show false = true by assumption) Bool.false_ne_true | ((repeat' (first | assumption | apply anda | apply notf)); done)) | (exact hd2) | (exact h3') | (simp only [mR_at]; omega) | (intro j hj; by_cases h' : j = v <;> simp [h', up, mR_at, cvtL, cvt, tg, tru, All]))
              ·
                simp only [All]
                repeat' (first | exact trivial | with_reducible apply And.intro)
                all_goals (first | exact aG _ | exact aP _ _ | exact aA _ _ | exact aE _ | omega | rfl | (intros; first | assumption | exact True.intro | rfl | exact absurd (show false = true by assumption) Bool.false_ne_true | ((repeat' (first | assumption | apply anda | apply notf)); done)) | (exact hd2) | (exact h3') | (simp only [mR_at]; omega) | (intro j hj; by_cases h' : j = v <;> simp [h', up, mR_at, cvtL, cvt, tg, tru, All]))
            · have h3' : (mR R R fr v (fun _ => to') v == fr) = false := by rw [e1]; simp; exact h3
              have h7 := ih2 (v + 1) (by omega)
              rw [← mR_skip R R fr _ v h3, ← mR_skip R X fr _ v h3, ← mR_skip R Y fr _ v h3] at h7
              refine piece_ok mixed hc (bY2n g nb N n s _ _ _ k dx dy fr to' v) ?_ h7
              simp only [All]
              repeat' (first | exact trivial | with_reducible apply And.intro)
              all_goals (first | exact aG _ | exact aP _ _ | exact aA _ _ | exact aE _ | omega | rfl | (intros; first | assumption | exact True.intro | rfl | exact absurd (show false = true by assumption) Bool.false_ne_true | ((repeat' (first | assumption | apply anda | apply notf)); done)) | (exact hd2) | (exact h3') | (simp; done) | (intro j hj; simp [All]))
        have h8 := l2 N 0 (by omega)
        have z1 : ∀ F G, mR R F fr 0 G = F := fun F G => by funext u; simp [mR]
        rw [z1, z1, z1] at h8
        subst hdx hdy hfr hto
        refine piece_ok mixed hc (bY1m g nb N n s R X Y k) ?_ h8
        simp only [All]
        repeat' (first | exact trivial | with_reducible apply And.intro)
        all_goals (first | exact aG _ | exact aP _ _ | exact aA _ _ | exact aE _ | omega | rfl | (intros; first | assumption | exact True.intro | rfl | exact absurd (show false = true by assumption) Bool.false_ne_true | ((repeat' (first | assumption | apply anda | apply notf)); done)) | (exact hd) | (exact hr') | (simp; done) | (intro j hj; simp [All]))
  have l0 : ∀ d k R, k + d = N → (∀ v, v < k → R v = (v : Int)) → Run Try.prog c 128 [.code (cAt (bodyOf Try.f128) [1, 1, 1, 0, 1, 0, 0]), .inLoop (cAt (bodyOf Try.f128) [1, 1, 1, 0, 1, 0, 0]), .inBlock 0, .code (cAt (bodyOf Try.f128) [1, 1, 1, 1])] (SY0 g nb N n s R (fun _ => 0) (fun _ => 0) k) (Post c [] (.p (.bool (balP g N n s)))) := by
    intro d
    induction d with
    | zero =>
      intro k R hk hR
      obtain rfl : k = N := by omega
      have hd : decide ((k : Int) < (k : Int)) = false := by simp
      refine piece_ok mixed hc (bY0e g nb k n s R _ _ k) ?_ (l1 n 0 R _ _ (by omega) ⟨fun j hj => absurd hj (Nat.not_lt_zero _), fun p q hpq u v hu hv huv => ?_⟩ (fun v => by simp [mb]) (fun v => by simp [mb]))
      ·
        simp only [All]
        repeat' (first | exact trivial | with_reducible apply And.intro)
        all_goals (first | exact aG _ | exact aP _ _ | exact aA _ _ | exact aE _ | omega | rfl | (intros; first | assumption | exact True.intro | rfl | exact absurd (show false = true by assumption) Bool.false_ne_true | ((repeat' (first | assumption | apply anda | apply notf)); done)) | (exact hd) | (simp; done) | (intro j hj; simp [All]))
      · rw [hR u hu, hR v hv] at huv
        have : u = v := by omega
        subst this; exact ⟨rfl, rfl⟩
    | succ d ih =>
      intro k R hk hR
      have hd : decide ((k : Int) < (N : Int)) = true := by simp; omega
      refine piece_ok mixed hc (bY0 g nb N n s R _ _ k) ?_ (ih (k + 1) _ (by omega) (fun v hv => ?_))
      ·
        simp only [All]
        repeat' (first | exact trivial | with_reducible apply And.intro)
        all_goals (first | exact aG _ | exact aP _ _ | exact aA _ _ | exact aE _ | omega | rfl | (intros; first | assumption | exact True.intro | rfl | exact absurd (show false = true by assumption) Bool.false_ne_true | ((repeat' (first | assumption | apply anda | apply notf)); done)) | (exact hd) | (intro j hj; by_cases h' : j = k <;> simp [h', up, cvtL, cvt, tg, tru, All]))
      · by_cases h' : v = k
        · rw [h']; exact up_same _ _ _
        · rw [up_ne _ _ _ _ h']; exact hR v (by omega)
  refine piece_ok mixed hc (bYa g nb N n s) ?_ (l0 N 0 _ (by omega) (fun v hv => absurd hv (Nat.not_lt_zero _)))
  simp only [All]
  repeat' (first | exact trivial | with_reducible apply And.intro)
  all_goals (first | exact aG _ | exact aP _ _ | exact aA _ _ | exact aE _ | omega | rfl | (intros; first | assumption | exact True.intro | rfl | exact absurd (show false = true by assumption) Bool.false_ne_true | ((repeat' (first | assumption | apply anda | apply notf)); done)) | (simp; done) | (intro j hj; simp [All]))
end Go.Proofs.Ytffnfeefjdmifaa.Mach
namespace Go.Proofs.Ytffnfeefjdmifaa.Mach
open Go BL
set_option linter.unusedVariables false
set_option linter.unusedSimpArgs false
theorem con_IsBalanced_s (v : T_GainGraph) (hs : smS s_GainGraph v) (u : T_IntS) (hn : u.1 ≤ 1048576) :
    Con Try.prog 78 0 [] [gnA v.2.1.2 v.2.1.1 v.1, inS u.1 u.2] [] (.p (.bool (isBalF v u))) := by
  have hset := con_l29Set v hs u hn
  cases hgs : goodS v.2.1.1 u.2 u.1 with
  | false =>
    rw [hgs] at hset
    rw [show isBalF v u = false by rw [isBalF, hgs]; rfl]
    refine con_start Try.func78 rfl (by kernel_rfl) rfl (fun c hc => ?_)
    refine path_ok mixed Try.func78 hc (bSz v.2.1.2 v.2.1.1 v.1 u.1 u.2) ?_
    simp only [All]
    repeat' (first | exact trivial | with_reducible apply And.intro)
    all_goals (first | exact aG _ | exact aP _ _ | exact aA _ _ | exact aE _ | omega | rfl | (intros; first | assumption | exact True.intro | rfl | exact absurd (show false = true by assumption) Bool.false_ne_true | ((repeat' (first | assumption | apply anda | apply notf)); done)) | (exact hset) | rfl)
  | true =>
    cases hgg : isGainF v with
    | false =>
      rw [hgs, hgg] at hset
      rw [show isBalF v u = false by rw [isBalF, hgs, hgg]; rfl]
      refine con_start Try.func78 rfl (by kernel_rfl) rfl (fun c hc => ?_)
      refine path_ok mixed Try.func78 hc (bSz v.2.1.2 v.2.1.1 v.1 u.1 u.2) ?_
      simp only [All]
      repeat' (first | exact trivial | with_reducible apply And.intro)
      all_goals (first | exact aG _ | exact aP _ _ | exact aA _ _ | exact aE _ | omega | rfl | (intros; first | assumption | exact True.intro | rfl | exact absurd (show false = true by assumption) Bool.false_ne_true | ((repeat' (first | assumption | apply anda | apply notf)); done)) | (exact hset) | rfl)
    | true =>
      rw [hgs, hgg] at hset
      obtain ⟨N, nb, g, rfl, hN1, hN4, hnb, hg⟩ := gain_in hgg
      obtain ⟨n, s⟩ := u
      rw [show isBalF ((N : Int), (nb, g), ()) (n, s) = balP g N n s by rw [isBalF]; simp only at hgs ⊢; rw [hgs, hgg]; rfl]
      simp only at hset hgs ⊢
      have hnn := goodS_n hgs
      have hok := esO_ok hg hgs
      have hin : ∀ i, i < n → (0 ≤ s i ∧ s i < nb) ∧ barOk N (g (s i).toNat) := fun i hi => by
        have h1 := goodS_in hgs i hi
        exact ⟨⟨h1.1, h1.2.1⟩, hg _ (by omega)⟩
      unfold barOk at hin
      generalize hB : balP g N n s = B
      refine con_start Try.func78 rfl (by kernel_rfl) rfl (fun c hc => ?_)
      have l3 : ∀ K X Y, (∀ v, -1152 ≤ X v ∧ X v ≤ 1152) → (∀ v, -1152 ≤ Y v ∧ Y v ≤ 1152) → (esO g N n s).Good K X Y → (∀ v, v < N → K v = true) →
          ∀ d i, i + d = n → (∀ j, j < i → X ((esO g N n s).a j) + (esO g N n s).x j = X ((esO g N n s).b j) ∧ Y ((esO g N n s).a j) + (esO g N n s).y j = Y ((esO g N n s).b j)) →
          Run Try.prog c 78 [.code (cAt (bodyOf Try.f78) [1, 1, 1, 1, 1, 1, 0, 1, 0, 0]), .inLoop (cAt (bodyOf Try.f78) [1, 1, 1, 1, 1, 1, 0, 1, 0, 0]), .inBlock 6, .code (cAt (bodyOf Try.f78) [1, 1, 1, 1, 1, 1, 1])] (SB3 g nb N n s K X Y i) (Post c [] (.p (.bool B))) := by
        intro K X Y hX hY hgd hK d
        induction d with
        | zero =>
          intro i hi hp
          have hd : decide ((i : Int) < (n : Int)) = false := by simp; omega
          have hall : ∀ j, j < n → j < i := fun j hj => by omega
          rw [← hB, balP_t ⟨X, Y, fun j hj => hp j (hall j hj)⟩]
          refine path_ok mixed Try.func78 hc (bS3e g nb N n s K X Y i) ?_
          simp only [All]
          repeat' (first | exact trivial | with_reducible apply And.intro)
          all_goals (first | exact aG _ | exact aP _ _ | exact aA _ _ | exact aE _ | omega | rfl | (intros; first | assumption | exact True.intro | rfl | exact absurd (show false = true by assumption) Bool.false_ne_true | ((repeat' (first | assumption | apply anda | apply notf)); done)) | (exact hd) | rfl)
        | succ d ih =>
          intro i hi hp
          have hin' : i < n := by omega
          have hd : decide ((i : Int) < (n : Int)) = true := by simp; omega
          have hb := hin i hin'
          have xa := hX (g (s i).toNat).1.toNat
          have xb := hX (g (s i).toNat).2.1.toNat
          have ya := hY (g (s i).toNat).1.toNat
          have yb := hY (g (s i).toNat).2.1.toNat
          by_cases hz : X (g (s i).toNat).1.toNat + (g (s i).toNat).2.2.1 = X (g (s i).toNat).2.1.toNat ∧ Y (g (s i).toNat).1.toNat + (g (s i).toNat).2.2.2.1 = Y (g (s i).toNat).2.1.toNat
          · have hz' : (bif X (g (s i).toNat).1.toNat + (g (s i).toNat).2.2.1 != X (g (s i).toNat).2.1.toNat then true else Y (g (s i).toNat).1.toNat + (g (s i).toNat).2.2.2.1 != Y (g (s i).toNat).2.1.toNat) = false := by
              rw [hz.1, hz.2]; simp
            refine piece_ok mixed hc (bS3 g nb N n s K X Y i) ?_ (ih (i + 1) (by omega) (fun j hj => ?_))
            ·
              simp only [All]
              repeat' (first | exact trivial | with_reducible apply And.intro)
              all_goals (first | exact aG _ | exact aP _ _ | exact aA _ _ | exact aE _ | omega | rfl | (intros; first | assumption | exact True.intro | rfl | exact absurd (show false = true by assumption) Bool.false_ne_true | ((repeat' (first | assumption | apply anda | apply notf)); done)) | (exact hd) | (exact hz') | (intro h; exact h) | (intro h; rw [h]; rfl) | (intro h; omega) | (intro j hj; simp [All]))
            · by_cases hji : j = i
              · rw [hji]; exact hz
              · exact hp j (by omega)
          · have hz' : (bif X (g (s i).toNat).1.toNat + (g (s i).toNat).2.2.1 != X (g (s i).toNat).2.1.toNat then true else Y (g (s i).toNat).1.toNat + (g (s i).toNat).2.2.2.1 != Y (g (s i).toNat).2.1.toNat) = true := by
              cases h1 : (X (g (s i).toNat).1.toNat + (g (s i).toNat).2.2.1 != X (g (s i).toNat).2.1.toNat) with
              | true => rfl
              | false =>
                cases h2 : (Y (g (s i).toNat).1.toNat + (g (s i).toNat).2.2.2.1 != Y (g (s i).toNat).2.1.toNat) with
                | true => rfl
                | false => exact absurd ⟨by simpa using h1, by simpa using h2⟩ hz
            rw [← hB, balP_f (fun ⟨p, q, hpq⟩ => by
              have h1 := hpq i hin'
              have h2 := hgd p q hpq i hin' (hK _ (hok.ha i hin')) (hK _ (hok.hb i hin'))
              simp only [esO, gb] at h1 h2
              omega)]
            refine path_ok mixed Try.func78 hc (bS3t g nb N n s K X Y i) ?_
            simp only [All]
            repeat' (first | exact trivial | with_reducible apply And.intro)
            all_goals (first | exact aG _ | exact aP _ _ | exact aA _ _ | exact aE _ | omega | rfl | (intros; first | assumption | exact True.intro | rfl | exact absurd (show false = true by assumption) Bool.false_ne_true | ((repeat' (first | assumption | apply anda | apply notf)); done)) | (exact hd) | (exact hz') | (intro h; exact h) | (intro h; rw [h]; rfl) | (intro h; omega) | (intro j hj; simp [All]))
      have l0 : ∀ d a K X Y, a + d = N → (esO g N n s).Closed K → (esO g N n s).Good K X Y → (∀ v, v < a → K v = true) → (∀ v, -(9 * (32 * (a : Int))) ≤ X v ∧ X v ≤ 9 * (32 * (a : Int))) → (∀ v, -(9 * (32 * (a : Int))) ≤ Y v ∧ Y v ≤ 9 * (32 * (a : Int))) →
          Run Try.prog c 78 [.code (cAt (bodyOf Try.f78) [1, 1, 1, 1, 1, 0, 1, 0, 0]), .inLoop (cAt (bodyOf Try.f78) [1, 1, 1, 1, 1, 0, 1, 0, 0]), .inBlock 0, .code (cAt (bodyOf Try.f78) [1, 1, 1, 1, 1, 1])] (SB0 g nb N n s K X Y a) (Post c [] (.p (.bool B))) := by
        intro d
        induction d with
        | zero =>
          intro a K X Y ha hcl hgd hK hX hY
          obtain rfl : a = N := by omega
          have hd : decide ((a : Int) < (a : Int)) = false := by simp
          refine piece_ok mixed hc (bS0e g nb a n s K X Y a) ?_ (l3 K X Y (fun v => by have := hX v; omega) (fun v => by have := hY v; omega) hgd hK n 0 (by omega) (fun j hj => absurd hj (Nat.not_lt_zero _)))
          simp only [All]
          repeat' (first | exact trivial | with_reducible apply And.intro)
          all_goals (first | exact aG _ | exact aP _ _ | exact aA _ _ | exact aE _ | omega | rfl | (intros; first | assumption | exact True.intro | rfl | exact absurd (show false = true by assumption) Bool.false_ne_true | ((repeat' (first | assumption | apply anda | apply notf)); done)) | (exact hd) | (simp; done) | (intro j hj; simp [All]))
        | succ d ih =>
          intro a K0 X0 Y0 ha hcl hgd hK hX hY
          have haN : a < N := by omega
          have hd : decide ((a : Int) < (N : Int)) = true := by simp; omega
          cases hka : K0 a with
          | true =>
            refine piece_ok mixed hc (bSk g nb N n s K0 X0 Y0 a) ?_ (ih (a + 1) K0 X0 Y0 (by omega) hcl hgd (fun v hv => ?_) (fun v => by have := hX v; omega) (fun v => by have := hY v; omega))
            ·
              simp only [All]
              repeat' (first | exact trivial | with_reducible apply And.intro)
              all_goals (first | exact aG _ | exact aP _ _ | exact aA _ _ | exact aE _ | omega | rfl | (intros; first | assumption | exact True.intro | rfl | exact absurd (show false = true by assumption) Bool.false_ne_true | ((repeat' (first | assumption | apply anda | apply notf)); done)) | (exact hd) | (exact hka) | (simp; done) | (intro j hj; simp [All]))
            · by_cases hva : v = a
              · rw [hva]; exact hka
              · exact hK v (by omega)
          | false =>
            have l1 : ∀ d m K X Y, m + d = N → (esO g N n s).Ph K0 a K X Y → (esO g N n s).Sw K m 0 → (∀ v, -(9 * (32 * (a : Int) + 8 * m)) ≤ X v ∧ X v ≤ 9 * (32 * (a : Int) + 8 * m)) → (∀ v, -(9 * (32 * (a : Int) + 8 * m)) ≤ Y v ∧ Y v ≤ 9 * (32 * (a : Int) + 8 * m)) →
                Run Try.prog c 78 [.code (cAt (bodyOf Try.f78) [1, 1, 1, 1, 1, 0, 1, 0, 0, 1, 0, 0, 1, 1, 1, 0, 0]), .inLoop (cAt (bodyOf Try.f78) [1, 1, 1, 1, 1, 0, 1, 0, 0, 1, 0, 0, 1, 1, 1, 0, 0]), .inBlock 2, .inBlock 1, .code (cAt (bodyOf Try.f78) [1, 1, 1, 1, 1, 0, 1, 0, 0, 1, 1]), .inLoop (cAt (bodyOf Try.f78) [1, 1, 1, 1, 1, 0, 1, 0, 0]), .inBlock 0, .code (cAt (bodyOf Try.f78) [1, 1, 1, 1, 1, 1])] (SB1 g nb N n s K X Y a m) (Post c [] (.p (.bool B))) := by
              intro d1
              induction d1 with
              | zero =>
                intro m K X Y hm hph hsw hX hY
                obtain rfl : m = N := by omega
                have hd1 : decide ((m : Int) < (m : Int)) = false := by simp
                refine piece_ok mixed hc (bS1e g nb m n s K X Y a m) ?_ (ih (a + 1) K X Y (by omega) hsw.fin hph.done (fun v hv => ?_) (fun v => by have := hX v; omega) (fun v => by have := hY v; omega))
                ·
                  simp only [All]
                  repeat' (first | exact trivial | with_reducible apply And.intro)
                  all_goals (first | exact aG _ | exact aP _ _ | exact aA _ _ | exact aE _ | omega | rfl | (intros; first | assumption | exact True.intro | rfl | exact absurd (show false = true by assumption) Bool.false_ne_true | ((repeat' (first | assumption | apply anda | apply notf)); done)) | (exact hd1) | (simp; done) | (intro j hj; simp [All]))
                · by_cases hva : v = a
                  · rw [hva]; exact hph.kr
                  · exact hph.le v (hK v (by omega))
              | succ d1 ih1 =>
                intro m K X Y hm hph hsw hX hY
                have hd1 : decide ((m : Int) < (N : Int)) = true := by simp; omega
                have l2 : ∀ d i K X Y, i + d = n → (esO g N n s).Ph K0 a K X Y → (esO g N n s).Sw K m i → (∀ v, -(9 * (32 * (a : Int) + 8 * m + i)) ≤ X v ∧ X v ≤ 9 * (32 * (a : Int) + 8 * m + i)) → (∀ v, -(9 * (32 * (a : Int) + 8 * m + i)) ≤ Y v ∧ Y v ≤ 9 * (32 * (a : Int) + 8 * m + i)) →
                    Run Try.prog c 78 [.code (cAt (bodyOf Try.f78) [1, 1, 1, 1, 1, 0, 1, 0, 0, 1, 0, 0, 1, 1, 1, 0, 0, 1, 0, 0, 1, 0, 0]), .inLoop (cAt (bodyOf Try.f78) [1, 1, 1, 1, 1, 0, 1, 0, 0, 1, 0, 0, 1, 1, 1, 0, 0, 1, 0, 0, 1, 0, 0]), .inBlock 4, .inBlock 3, .code (cAt (bodyOf Try.f78) [1, 1, 1, 1, 1, 0, 1, 0, 0, 1, 0, 0, 1, 1, 1, 0, 0, 1, 1]), .inLoop (cAt (bodyOf Try.f78) [1, 1, 1, 1, 1, 0, 1, 0, 0, 1, 0, 0, 1, 1, 1, 0, 0]), .inBlock 2, .inBlock 1, .code (cAt (bodyOf Try.f78) [1, 1, 1, 1, 1, 0, 1, 0, 0, 1, 1]), .inLoop (cAt (bodyOf Try.f78) [1, 1, 1, 1, 1, 0, 1, 0, 0]), .inBlock 0, .code (cAt (bodyOf Try.f78) [1, 1, 1, 1, 1, 1])] (SB2 g nb N n s K X Y a m i) (Post c [] (.p (.bool B))) := by
                  intro d2
                  induction d2 with
                  | zero =>
                    intro i K X Y hi hph hsw hX hY
                    have hd2 : decide ((i : Int) < (n : Int)) = false := by simp; omega
                    have hsw' : (esO g N n s).Sw K m (esO g N n s).n := by
                      rw [show i = (esO g N n s).n from by show i = n; omega] at hsw; exact hsw
                    refine piece_ok mixed hc (bS2e g nb N n s K X Y a m i) ?_ (ih1 (m + 1) K X Y (by omega) hph hsw'.next (fun v => by have := hX v; omega) (fun v => by have := hY v; omega))
                    simp only [All]
                    repeat' (first | exact trivial | with_reducible apply And.intro)
                    all_goals (first | exact aG _ | exact aP _ _ | exact aA _ _ | exact aE _ | omega | rfl | (intros; first | assumption | exact True.intro | rfl | exact absurd (show false = true by assumption) Bool.false_ne_true | ((repeat' (first | assumption | apply anda | apply notf)); done)) | (exact hd2) | (simp; done) | (intro j hj; simp [All]))
                  | succ d2 ih2 =>
                    intro i K X Y hi hph hsw hX hY
                    have hin' : i < n := by omega
                    have hd2 : decide ((i : Int) < (n : Int)) = true := by simp; omega
                    have hb := hin i hin'
                    have xa := hX (g (s i).toNat).1.toNat
                    have xb := hX (g (s i).toNat).2.1.toNat
                    have ya := hY (g (s i).toNat).1.toNat
                    have yb := hY (g (s i).toNat).2.1.toNat
                    have hcli := hcl i hin'
                    cases hA : K (g (s i).toNat).1.toNat with
                    | true =>
                      cases hBb : K (g (s i).toNat).2.1.toNat with
                      | true =>
                        have t1 : (bif K (g (s i).toNat).1.toNat then !K (g (s i).toNat).2.1.toNat else false) = false := by rw [hA, hBb]; rfl
                        have t2 : (bif K (g (s i).toNat).2.1.toNat then !K (g (s i).toNat).1.toNat else false) = false := by rw [hA, hBb]; rfl
                        refine piece_ok mixed hc (bS2c g nb N n s K X Y a m i) ?_ (ih2 (i + 1) K X Y (by omega) hph (hsw.skip (by show K (g (s i).toNat).1.toNat = K (g (s i).toNat).2.1.toNat; rw [hA, hBb])) (fun v => by have := hX v; omega) (fun v => by have := hY v; omega))
                        simp only [All]
                        repeat' (first | exact trivial | with_reducible apply And.intro)
                        all_goals (first | exact aG _ | exact aP _ _ | exact aA _ _ | exact aE _ | omega | rfl | (intros; first | assumption | exact True.intro | rfl | exact absurd (show false = true by assumption) Bool.false_ne_true | ((repeat' (first | assumption | apply anda | apply notf)); done)) | (exact hd2) | (exact t1) | (exact t2) | (intro h; exact h) | (intro h; omega) | (simp; done) | (intro j hj; simp [All]))
                      | false =>
                        have t1 : (bif K (g (s i).toNat).1.toNat then !K (g (s i).toNat).2.1.toNat else false) = true := by rw [hA, hBb]; rfl
                        refine piece_ok mixed hc (bS2a g nb N n s K X Y a m i) ?_ (ih2 (i + 1) _ _ _ (by omega) (hph.add hA hBb hcli (fun p q hpq => hpq i hin')) (hsw.add (hok.hb i hin') hBb (by show ¬ K (g (s i).toNat).1.toNat = K (g (s i).toNat).2.1.toNat; rw [hA, hBb]; exact Bool.noConfusion) hin') (up_le _ _ _ _ (fun v => by have := hX v; omega) (by show _ ≤ X (g (s i).toNat).1.toNat + (g (s i).toNat).2.2.1 ∧ X (g (s i).toNat).1.toNat + (g (s i).toNat).2.2.1 ≤ _; omega)) (up_le _ _ _ _ (fun v => by have := hY v; omega) (by show _ ≤ Y (g (s i).toNat).1.toNat + (g (s i).toNat).2.2.2.1 ∧ Y (g (s i).toNat).1.toNat + (g (s i).toNat).2.2.2.1 ≤ _; omega)))
                        simp only [All]
                        repeat' (first | exact trivial | with_reducible apply And.intro)
                        all_goals (first | exact aG _ | exact aP _ _ | exact aA _ _ | exact aE _ | omega | rfl | (intros; first | assumption | exact True.intro | rfl | exact absurd (show false = true by assumption) Bool.false_ne_true | ((repeat' (first | assumption | apply anda | apply notf)); done)) | (exact hd2) | (exact t1) | (intro h; exact h) | (intro h; omega) | (simp; done) | (intro j hj; simp [All]; done) | (intro j hj; by_cases h' : j = (g (s i).toNat).2.1.toNat <;> simp [h', up, gb, cvtL, cvt, tg, tru, All]))
                    | false =>
                      cases hBb : K (g (s i).toNat).2.1.toNat with
                      | false =>
                        have t1 : (bif K (g (s i).toNat).1.toNat then !K (g (s i).toNat).2.1.toNat else false) = false := by rw [hA, hBb]; rfl
                        have t2 : (bif K (g (s i).toNat).2.1.toNat then !K (g (s i).toNat).1.toNat else false) = false := by rw [hA, hBb]; rfl
                        refine piece_ok mixed hc (bS2c g nb N n s K X Y a m i) ?_ (ih2 (i + 1) K X Y (by omega) hph (hsw.skip (by show K (g (s i).toNat).1.toNat = K (g (s i).toNat).2.1.toNat; rw [hA, hBb])) (fun v => by have := hX v; omega) (fun v => by have := hY v; omega))
                        simp only [All]
                        repeat' (first | exact trivial | with_reducible apply And.intro)
                        all_goals (first | exact aG _ | exact aP _ _ | exact aA _ _ | exact aE _ | omega | rfl | (intros; first | assumption | exact True.intro | rfl | exact absurd (show false = true by assumption) Bool.false_ne_true | ((repeat' (first | assumption | apply anda | apply notf)); done)) | (exact hd2) | (exact t1) | (exact t2) | (intro h; exact h) | (intro h; omega) | (simp; done) | (intro j hj; simp [All]))
                      | true =>
                        have t1 : (bif K (g (s i).toNat).1.toNat then !K (g (s i).toNat).2.1.toNat else false) = false := by rw [hA, hBb]; rfl
                        have t2 : (bif K (g (s i).toNat).2.1.toNat then !K (g (s i).toNat).1.toNat else false) = true := by rw [hA, hBb]; rfl
                        have hadd := hph.add (dx := -(g (s i).toNat).2.2.1) (dy := -(g (s i).toNat).2.2.2.1) hBb hA hcli.symm (fun p q hpq => by
                          have h1 := hpq i hin'
                          simp only [esO, gb] at h1
                          omega)
                        rw [show X (g (s i).toNat).2.1.toNat + -(g (s i).toNat).2.2.1 = X (g (s i).toNat).2.1.toNat - (g (s i).toNat).2.2.1 by omega, show Y (g (s i).toNat).2.1.toNat + -(g (s i).toNat).2.2.2.1 = Y (g (s i).toNat).2.1.toNat - (g (s i).toNat).2.2.2.1 by omega] at hadd
                        refine piece_ok mixed hc (bS2b g nb N n s K X Y a m i) ?_ (ih2 (i + 1) _ _ _ (by omega) hadd (hsw.add (hok.ha i hin') hA (by show ¬ K (g (s i).toNat).1.toNat = K (g (s i).toNat).2.1.toNat; rw [hA, hBb]; exact Bool.noConfusion) hin') (up_le _ _ _ _ (fun v => by have := hX v; omega) (by show _ ≤ X (g (s i).toNat).2.1.toNat - (g (s i).toNat).2.2.1 ∧ X (g (s i).toNat).2.1.toNat - (g (s i).toNat).2.2.1 ≤ _; omega)) (up_le _ _ _ _ (fun v => by have := hY v; omega) (by show _ ≤ Y (g (s i).toNat).2.1.toNat - (g (s i).toNat).2.2.2.1 ∧ Y (g (s i).toNat).2.1.toNat - (g (s i).toNat).2.2.2.1 ≤ _; omega)))
                        simp only [All]
                        repeat' (first | exact trivial | with_reducible apply And.intro)
                        all_goals (first | exact aG _ | exact aP _ _ | exact aA _ _ | exact aE _ | omega | rfl | (intros; first | assumption | exact True.intro | rfl | exact absurd (show false = true by assumption) Bool.false_ne_true | ((repeat' (first | assumption | apply anda | apply notf)); done)) | (exact hd2) | (exact t1) | (exact t2) | (intro h; exact h) | (intro h; omega) | (simp; done) | (intro j hj; simp [All]; done) | (intro j hj; by_cases h' : j = (g (s i).toNat).1.toNat <;> simp [h', up, gb, cvtL, cvt, tg, tru, All]))
                refine piece_ok mixed hc (bS1 g nb N n s K X Y a m) ?_ (l2 n 0 K X Y (by omega) hph hsw (fun v => by have := hX v; omega) (fun v => by have := hY v; omega))
                simp only [All]
                repeat' (first | exact trivial | with_reducible apply And.intro)
                all_goals (first | exact aG _ | exact aP _ _ | exact aA _ _ | exact aE _ | omega | rfl | (intros; first | assumption | exact True.intro | rfl | exact absurd (show false = true by assumption) Bool.false_ne_true | ((repeat' (first | assumption | apply anda | apply notf)); done)) | (exact hd1) | (simp; done) | (intro j hj; simp [All]))
            refine piece_ok mixed hc (bSn g nb N n s K0 X0 Y0 a) ?_ (l1 N 0 (up K0 a true) X0 Y0 (by omega) ⟨hcl, hgd, fun v hv => ?_, up_same _ _ _, fun p q hpq v hv hv0 => ?_⟩ (.inr (.inr ⟨?_, fun j hj => absurd hj (Nat.not_lt_zero _)⟩)) (fun v => by have := hX v; omega) (fun v => by have := hY v; omega))
            ·
              simp only [All]
              repeat' (first | exact trivial | with_reducible apply And.intro)
              all_goals (first | exact aG _ | exact aP _ _ | exact aA _ _ | exact aE _ | omega | rfl | (intros; first | assumption | exact True.intro | rfl | exact absurd (show false = true by assumption) Bool.false_ne_true | ((repeat' (first | assumption | apply anda | apply notf)); done)) | (exact hd) | (exact hka) | (simp; done) | (intro j hj; simp [All]; done) | (intro j hj; by_cases h' : j = a <;> simp [h', up, cvtL, cvt, tg, tru, All]))
            · by_cases hva : v = a
              · rw [hva]; exact up_same _ _ _
              · rw [up_ne _ _ _ _ hva]; exact hv
            · by_cases hva : v = a
              · rw [hva]; exact ⟨rfl, rfl⟩
              · rw [up_ne _ _ _ _ hva, hv0] at hv; cases hv
            · exact cnt_pos _ a (up_same _ _ _) N haN
      refine piece_ok mixed hc (bSa g nb N n s) ?_ (l0 N 0 _ _ _ (by omega) (fun i hi => rfl) (fun p q hpq i hi h1 => by cases h1) (fun v hv => absurd hv (Nat.not_lt_zero _)) (fun v => by simp) (fun v => by simp))
      simp only [All]
      repeat' (first | exact trivial | with_reducible apply And.intro)
      all_goals (first | exact aG _ | exact aP _ _ | exact aA _ _ | exact aE _ | omega | rfl | (intros; first | assumption | exact True.intro | rfl | exact absurd (show false = true by assumption) Bool.false_ne_true | ((repeat' (first | assumption | apply anda | apply notf)); done)) | (exact hset) | (simp; done) | (intro j hj; simp [All]))
end Go.Proofs.Ytffnfeefjdmifaa.Mach
namespace Go.Proofs.Ytffnfeefjdmifaa.Mach
open Go Go.Shelf Go.RowKit Go.Sort
set_option linter.unusedVariables false
set_option linter.unusedSimpArgs false
def sW (w : World) (b base q : Nat) (F : Array Value) (os : Array Obj) : World := grow (putRow id (Sort.ahead w q) b base F) os
theorem sW_at {w : World} {b base q : Nat} {F : Array Value} {os : Array Obj} {cells : Array Value} {el : TypeId} {fr : Nat × Nat} (hb : w.heap[b]? = some (.cells cells el fr)) :
    (sW w b base q F os).heap[b]? = some (.cells (putCells id base F cells) el fr) := by
  have hlt : b < w.heap.size := by
    rcases Nat.lt_or_ge b w.heap.size with h | h
    · exact h
    · rw [Array.getElem?_eq_none h] at hb; cases hb
  rw [sW, heap_grow_old _ _ (by rw [size_putRow]; exact hlt)]
  simp only [putRow, mapBlock, heap_ahead, Array.getElem?_modify, if_true, hb, Option.map_some, onCells]
theorem sW_ne {w : World} {b base q c : Nat} {F : Array Value} {os : Array Obj} (hne : c ≠ b) (hlt : c < w.heap.size) :
    (sW w b base q F os).heap[c]? = w.heap[c]? := by
  rw [sW, heap_grow_old _ _ (by rw [size_putRow]; exact hlt)]
  simp only [putRow, mapBlock, heap_ahead, Array.getElem?_modify, if_neg (Ne.symm hne)]
theorem putCells_size (base : Nat) (F cells : Array Value) : (putCells id base F cells).size = cells.size := by simp [putCells]
theorem putCells_in (base : Nat) (F cells : Array Value) (t : Nat) (h : t < F.size) (hs : base + t < cells.size) : (putCells id base F cells)[base + t]? = some F[t]! := by
  simp only [putCells, Array.getElem?_mapIdx, Array.getElem?_eq_getElem hs, Option.map_some, id]
  rw [if_pos ⟨by omega, by omega⟩, show base + t - base = t by omega]
theorem own_one (β : Nat → Option Addr) (ob : Ob) (b : Nat) : ownOf β [(0, ob)] b ↔ ∃ a, β 0 = some a ∧ a.block = b := by
  constructor
  · rintro ⟨o, ob', a, h1, h2, h3⟩
    have : o = 0 := by
      simp only [List.lookup] at h1
      split at h1
      · rename_i h; simpa using h
      · cases h1
    subst this
    exact ⟨a, h2, h3⟩
  · rintro ⟨a, h1, h2⟩
    exact ⟨0, ob, a, rfl, h1, h2⟩
theorem ow_one (X : Nat → Prop) (β : Nat → Option Addr) (ob ob' : Ob) : ow X β [(0, ob)] = ow X β [(0, ob')] := by
  funext t b
  simp only [ow, own_one]
theorem look_one {ob ob' : Ob} {o : Nat} (h : List.lookup o [(0, ob)] = some ob') : o = 0 ∧ ob' = ob := by
  simp only [List.lookup] at h
  split at h
  · rename_i h1
    exact ⟨by simpa using h1, by simpa using h.symm⟩
  · cases h
theorem sW_post {w : World} {β : Nat → Option Addr} {X : Nat → Prop} {z n : Nat} {fo f' : Nat → List AV} {b base q : Nat} {F : Array Value} {os : Array Obj} {cells : Array Value} {el : TypeId} {res : AV} {v : Value}
    (hβ : β 0 = some ⟨b, base, none⟩) (hh : w.heap[b]? = some (.cells cells el (0, 0)))
    (hS : Sep β [(0, ⟨false, z, n, fo⟩)])
    (hsz : base + n * z ≤ cells.size) (hF : F.size = n * z)
    (hrow : ∀ i, i < n → ∀ j, j < z → One (F[i * z + j]!) ∧ ∀ (w : World) (own : Bool → Nat → Prop), VR w β own ((f' i).getD j anyA) (F[i * z + j]!))
    (hv : ∀ own : Bool → Nat → Prop, VR (sW w b base q F os) β own res v) :
    ∃ v' β', Ending.returned v = .returned v' ∧ HR (sW w b base q F os) β' (fr X β' [(0, ⟨false, z, n, f'⟩)]) [(0, ⟨false, z, n, f'⟩)] ∧ Sep β' [(0, ⟨false, z, n, f'⟩)] ∧
      VR (sW w b base q F os) β' (fr X β' [(0, ⟨false, z, n, f'⟩)]) res v' ∧ Ext w (ow X β [(0, ⟨false, z, n, fo⟩)]) (sW w b base q F os) (ow X β' [(0, ⟨false, z, n, f'⟩)]) ∧
      (∀ o a, β o = some a → β' o = some a) ∧ (∀ b, ownOf β' [(0, ⟨false, z, n, f'⟩)] b → ownOf β [(0, ⟨false, z, n, fo⟩)] b ∨ w.heap.size ≤ b) ∧ ∀ k, β' k ≠ none → β k ≠ none ∨ (1 ≤ k ∧ k < 1 + 32) := by
  have hown : ownOf β [(0, ⟨false, z, n, fo⟩)] b := (own_one _ _ _).2 ⟨_, hβ, rfl⟩
  refine ⟨v, β, rfl, ?_, ?_, hv _, ?_, fun o a h => h, fun b' h => .inl ?_, fun k h => .inl h⟩
  · intro o ob hl
    obtain ⟨rfl, rfl⟩ := look_one hl
    refine .inr (.inl ⟨b, base, _, el, hβ, sW_at hh, ?_⟩)
    intro i hi j hj
    change i < n at hi
    change j < z at hj
    show ∃ v, (putCells id base F cells)[base + (i * z + j)]? = some v ∧ One v ∧ _
    have hlt : i * z + j < n * z := by
      have h1 := Nat.mul_le_mul_right z (show i + 1 ≤ n from hi)
      rw [Nat.add_mul, Nat.one_mul] at h1
      have h2 : j < z := hj
      omega
    exact ⟨F[i * z + j]!, putCells_in base F cells _ (by omega) (by omega), (hrow i hi j hj).1, (hrow i hi j hj).2 _ _⟩
  · intro o o' ob ob' a a' h1 h2 h3 h4 h5
    obtain ⟨rfl, rfl⟩ := look_one h1
    obtain ⟨rfl, rfl⟩ := look_one h2
    rfl
  · rw [ow_one X β ⟨false, z, n, f'⟩ ⟨false, z, n, fo⟩]
    refine ⟨rfl, rfl, rfl, by rw [sW, size_grow, size_putRow]; exact Nat.le_add_right _ _, fun t c hc hn => ?_, fun t c hc h => h, fun c cs e f h => ?_, fun c es ck h => ?_⟩
    · refine sW_ne (fun h => hn ?_) hc
      subst h
      exact .inl hown
    · by_cases hcb : c = b
      · subst hcb
        rw [hh] at h
        injection h with h
        injection h with h1 h2 h3
        subst h1
        exact ⟨_, _, _, sW_at hh, by rw [putCells_size]; exact Nat.le_refl _⟩
      · have hlt : c < w.heap.size := by
          rcases Nat.lt_or_ge c w.heap.size with h' | h'
          · exact h'
          · rw [Array.getElem?_eq_none h'] at h; cases h
        exact ⟨cs, e, f, by rw [sW_ne hcb hlt]; exact h, Nat.le_refl _⟩
    · by_cases hcb : c = b
      · subst hcb
        rw [hh] at h
        cases h
      · have hlt : c < w.heap.size := by
          rcases Nat.lt_or_ge c w.heap.size with h' | h'
          · exact h'
          · rw [Array.getElem?_eq_none h'] at h; cases h
        exact ⟨es, ck, by rw [sW_ne hcb hlt]; exact h⟩
  · rw [own_one] at h ⊢; exact h
theorem vr_int {w : World} {β : Nat → Option Addr} {own : Bool → Nat → Prop} {k : IntKind} {x : Int} {v : Value} (h : VR w β own (.p (.int k x)) v) : v = .int k x := by
  cases h with
  | p _ _ hp => cases hp; rfl
end Go.Proofs.Ytffnfeefjdmifaa.Mach
namespace Go.Proofs
open Go Go.Shelf Go.RowKit Go.Lib Go.Sort
set_option linter.unusedVariables false
set_option linter.unusedSimpArgs false
shelf_lay_g SlLaysM.n5 Slgm 5 at Try 126 as Try.sortInt
shelf_lay_g SlLaysN.n43 Slgn 43 at Try 127 as Try.compInt
end Go.Proofs
namespace Go.Proofs.Ytffnfeefjdmifaa.Mach
open Go Go.Shelf Go.RowKit Go.Lib Go.Sort
set_option linter.unusedVariables false
set_option linter.unusedSimpArgs false
def numOb (n : Nat) (h : Nat → Int) : Ob := ⟨false, 1, n, fun i => [.p (.int .i64 (h i))]⟩
def lstI (n : Nat) (h : Nat → Int) : List Int := (List.range n).map h
def srtI (l : List Int) : List Int := l.mergeSort fun x y => decide (x ≤ y)
def atI (l : List Int) (i : Nat) : Int := l.getD i 0
theorem lstI_len (n : Nat) (h : Nat → Int) : (lstI n h).length = n := by simp [lstI]
theorem srtI_len (l : List Int) : (srtI l).length = l.length := by simp [srtI]
theorem putRow_id (w : World) (b base : Nat) (l : List Int) : putRow (Value.int .i64) w b base l.toArray = putRow id w b base (l.map (Value.int .i64)).toArray := by
  unfold putRow
  congr 1
  funext c
  unfold putCells
  congr 1
  funext k x
  have e1 : l.toArray.size = (l.map (Value.int .i64)).toArray.size := by simp
  rw [← e1]
  split
  · rename_i h
    have hk : k - base < l.length := by have := h.2; simp at this; omega
    rw [getElem!_pos _ _ (by simpa using hk), getElem!_pos _ _ (by simpa using hk)]
    simp
  · rfl
theorem int_cell {w : World} {β : Nat → Option Addr} {own : Bool → Nat → Prop} {x : Int} {v : Value} (h : VR w β own (.p (.int .i64 x)) v) : v = .int .i64 x := vr_int h
theorem row_holds {w : World} {β : Nat → Option Addr} {own : Bool → Nat → Prop} {n b base : Nat} {h : Nat → Int} {cells : Array Value} {el : TypeId} (hh : w.heap[b]? = some (.cells cells el (0, 0)))
    (hrw : ∀ i, i < n → ∃ v, cells[base + i]? = some v ∧ One v ∧ VR w β own (.p (.int .i64 (h i))) v) (hpos : 0 < n) :
    Holds (Value.int .i64) w b base (lstI n h).toArray ∧ base + n ≤ cells.size := by
  have hcell : ∀ i, i < n → cells[base + i]? = some (.int .i64 (h i)) := by
    intro i hi
    obtain ⟨u, hu1, hu2, hu3⟩ := hrw i hi
    have := int_cell (x := h i) hu3
    subst this
    exact hu1
  refine ⟨fun t ht => ?_, ?_⟩
  · have ht' : t < n := by simpa [lstI] using ht
    refine ⟨?_, by simp [World.frozen?, hh]⟩
    simp only [World.cell?, hh]
    rw [hcell t ht', getElem!_pos (lstI n h).toArray t ht]
    simp [lstI]
  · have := hcell (n - 1) (by omega)
    rcases Nat.lt_or_ge (base + (n - 1)) cells.size with h' | h'
    · omega
    · rw [Array.getElem?_eq_none h'] at this; cases this
theorem con_rowI (f : FuncId) (hen : enterable Try.prog f = true) (n : Nat) (h : Nat → Int) (l : List Int) (hl : l.length = n) (res : AV)
    (h0 : n = 0 → ∀ (w : World) (p : Option Addr) (cp : Nat), Calls Try.prog f #[.slice p 0 cp] w fun e w' => (∃ v, e = .returned v ∧ ((∀ (w : World) (β : Nat → Option Addr) (own : Bool → Nat → Prop), VR w β own res v) ∨ (v = .slice p 0 cp ∧ res = .ar 1 0 0 0))) ∧ w' = w)
    (h1 : 0 < n → ∀ (w : World) (b base c : Nat), n ≤ c → b < w.heap.size → Holds (Value.int .i64) w b base (lstI n h).toArray →
      Calls Try.prog f #[.slice (some ⟨b, base, none⟩) n c] w fun e w' => (∃ v q os, e = .returned v ∧ w' = grow (putRow (Value.int .i64) (Sort.ahead w q) b base l.toArray) os ∧
        ∀ (w : World) (β : Nat → Option Addr) (own : Bool → Nat → Prop) (cells : Array Value) (el : TypeId), β 0 = some ⟨b, base, none⟩ → w.heap[b]? = some (.cells cells el (0, 0)) → base + c ≤ cells.size → VR w β own res v)) :
    Con Try.prog f 1 [(0, numOb n h)] [.ar 1 0 0 n] [(0, numOb n (atI l))] res := by
  refine ⟨hen, fun w β X vals hX hH hS hd hlen ha => ?_⟩
  obtain ⟨v0, rfl⟩ : ∃ v0, vals = #[v0] := by
    rcases vals with ⟨l⟩
    match l, hlen with
    | [a], _ => exact ⟨a, rfl⟩
  have hv0 : VR w β (ow X β [(0, numOb n h)]) (.ar 1 0 0 n) v0 := ha 0 (by simp)
  rcases Nat.eq_zero_or_pos n with rfl | hpos
  · obtain ⟨p, cap, rfl⟩ : ∃ p cap, v0 = .slice p 0 cap := by
      cases hv0 with
      | ar0 => exact ⟨_, _, rfl⟩
      | ar => exact ⟨_, _, rfl⟩
    refine (h0 rfl w p cap).mono ?_
    rintro e w' ⟨⟨v, rfl, hv⟩, rfl⟩
    have hv' : VR w' β (fr X β [(0, numOb 0 (atI l))]) res v := by
      rcases hv with hv | ⟨rfl, rfl⟩
      · exact hv _ _ _
      · cases hv0 with
        | ar0 => exact .ar0 _ _ _ _
        | ar _ _ _ _ b base c cells elem fr' hβ hh hsz hc => exact .ar _ _ _ _ b base _ cells elem fr' hβ hh hsz hc
    refine ⟨_, β, rfl, ?_, ?_, hv', ?_, fun o a h => h, fun b' h' => .inl ?_, fun k h => .inl h⟩
    · intro o ob hl
      obtain ⟨rfl, rfl⟩ := look_one hl
      rcases hH 0 _ rfl with ⟨hb, _⟩ | ⟨b, base, cells, el, hβ, hh, _⟩ | hm
      · exact .inl ⟨hb, rfl⟩
      · exact .inr (.inl ⟨b, base, cells, el, hβ, hh, fun i hi => absurd hi (Nat.not_lt_zero _)⟩)
      · exact absurd hm.1 (by simp [numOb])
    · intro o o' ob ob' a a' h1 h2 h3 h4 h5
      obtain ⟨rfl, rfl⟩ := look_one h1
      obtain ⟨rfl, rfl⟩ := look_one h2
      rfl
    · rw [ow_one X β (numOb 0 (atI l)) (numOb 0 h)]
      exact Ext.refl _ _
    · rw [own_one] at h' ⊢; exact h'
  · cases hv0 with
    | ar0 => exact absurd hpos (Nat.lt_irrefl 0)
    | ar _ _ _ _ b base c cells elem fr' hβ hh hsz hc =>
      rcases hH 0 _ rfl with ⟨hb, _⟩ | ⟨b', base', cells', el', hβ', hh', hrw⟩ | hm
      · rw [hb] at hβ; cases hβ
      · rw [hβ] at hβ'
        injection hβ' with hβ'
        injection hβ' with i1 i2 _
        subst i1; subst i2
        rw [hh] at hh'
        injection hh' with hh'
        injection hh' with i1 i2 i3
        subst i1; subst i2; subst i3
        have hrw' : ∀ i, i < n → ∃ v, cells[base + i]? = some v ∧ One v ∧ VR w β (ow X β [(0, numOb n h)]) (.p (.int .i64 (h i))) v := by
          intro i hi
          obtain ⟨v, k1, k2, k3⟩ := hrw i hi 0 (by simp [numOb])
          have e : base + (i * (numOb n h).z + 0) = base + i := by simp [numOb]
          exact ⟨v, by rw [← e]; exact k1, k2, k3⟩
        obtain ⟨hHo, hend⟩ := row_holds (n := n) (h := h) hh hrw' hpos
        have hblk : b < w.heap.size := by
          rcases Nat.lt_or_ge b w.heap.size with h' | h'
          · exact h'
          · rw [Array.getElem?_eq_none h'] at hh; cases hh
        have hcon := h1 hpos w b base c hc hblk hHo
        rw [show base + 0 * 1 = base by omega]
        refine hcon.mono ?_
        rintro e w' ⟨v, q, os, rfl, rfl, hv⟩
        rw [putRow_id]
        refine sW_post (F := (l.map (Value.int .i64)).toArray) hβ hh hS (by simpa using hend) (by simp [hl]) (fun i hi j hj => ?_) (fun own => hv _ _ _ _ _ hβ (sW_at hh) (by rw [putCells_size]; omega))
        obtain rfl : j = 0 := by omega
        have e : ((l.map (Value.int .i64)).toArray)[i * 1 + 0]! = .int .i64 (atI l i) := by
          rw [getElem!_pos _ _ (by simp [hl]; omega)]
          simp [atI, List.getD_eq_getElem?_getD, List.getElem?_eq_getElem (show i < l.length by omega)]
        rw [e]
        exact ⟨rfl, fun w' own => .p _ _ (.int _ _)⟩
      · exact absurd hm.1 (by simp [numOb])
theorem con_SortI (n : Nat) (h : Nat → Int) (hn : n ≤ 1048576) :
    Con Try.prog 126 1 [(0, numOb n h)] [.ar 1 0 0 n] [(0, numOb n (atI (srtI (lstI n h))))] (.tup []) := by
  have hnil : ∀ (w : World) (β : Nat → Option Addr) (own : Bool → Nat → Prop), VR w β own (.tup []) (.tuple #[]) := fun w' β own => .tup [] #[] rfl (fun j hj => absurd hj (Nat.not_lt_zero _))
  refine con_rowI _ (by kernel_rfl) n h _ (by rw [srtI_len, lstI_len]) _ (fun h0 w p cap => ?_) (fun hpos w b base c hc hb hH => ?_)
  · refine (AnyM.slices_Sort_int_none (P := Try.prog) Try.sortInt p cap w).mono ?_
    rintro e w' ⟨rfl, rfl⟩
    exact ⟨⟨_, rfl, .inl hnil⟩, rfl⟩
  · have hcon := AnyM.slices_Sort_int (P := Try.prog) Try.sortInt b base c (lstI n h) w hH hb (by rw [lstI_len]; omega)
    rw [lstI_len] at hcon
    change Calls Try.prog 126 _ _ _ at hcon
    refine hcon.mono ?_
    rintro e w' ⟨rfl, q, os, rfl⟩
    exact ⟨_, q, os, rfl, rfl, fun w β own _ _ _ _ _ => hnil _ _ _⟩
def cpI (l : List Int) : List Int := Lib.compact l
def cpZ (l : List Int) : List Int := Lib.compact l ++ List.replicate (l.length - (Lib.compact l).length) 0
theorem con_CompI (n : Nat) (h : Nat → Int) (hn : n ≤ 1048576) (hle : (cpI (lstI n h)).length ≤ n) :
    Con Try.prog 127 1 [(0, numOb n h)] [.ar 1 0 0 n] [(0, numOb n (atI (cpZ (lstI n h))))] (.ar 1 0 0 (cpI (lstI n h)).length) := by
  have hz : (cpZ (lstI n h)).length = n := by
    unfold cpZ cpI at *
    rw [List.length_append, List.length_replicate, lstI_len]; omega
  refine con_rowI _ (by kernel_rfl) n h _ hz _ (fun h0 w p cap => ?_) (fun hpos w b base c hc hb hH => ?_)
  · subst h0
    refine (AnyG.slices_Compact_int_empty (P := Try.prog) Try.compInt p cap w).mono ?_
    rintro e w' ⟨rfl, rfl⟩
    have hk : (cpI (lstI 0 h)).length = 0 := by omega
    rw [hk]
    exact ⟨⟨_, rfl, .inr ⟨rfl, rfl⟩⟩, rfl⟩
  · have hcon := AnyG.slices_Compact_int (P := Try.prog) Try.compInt b base c (lstI n h) w hH (by rw [lstI_len]; omega) (by rw [lstI_len]; exact hc)
    rw [lstI_len] at hcon
    change Calls Try.prog 127 _ _ _ at hcon
    refine hcon.mono ?_
    rintro e w' ⟨rfl, q, rfl⟩
    refine ⟨_, q, #[], rfl, ?_, fun w β own cells el hβ hh hsz => ?_⟩
    · rw [grow_empty]; unfold cpZ; rw [lstI_len]
    · have e : (⟨b, base, none⟩ : Addr) = ⟨b, base + 0 * 1, none⟩ := by simp
      rw [e]
      exact .ar 1 0 0 _ b base c cells el _ hβ hh (by omega) (by omega)
end Go.Proofs.Ytffnfeefjdmifaa.Mach
namespace Go.Proofs.Ytffnfeefjdmifaa.Mach
open Go
def btI (w i : Int) : Bool := bitI .and .i64 (shrI .i64 w i) 1 == 1
theorem shr_nat (m i : Nat) (hi : i < 62) : shrI .i64 (m : Int) (i : Int) = ((m >>> i : Nat) : Int) := by
  unfold shrI
  have : min (i : Int).toNat IntKind.i64.bits = i := by simp [IntKind.bits]; omega
  rw [this, Int.fdiv_eq_ediv_of_nonneg _ (Int.le_of_lt (Int.pow_pos (by omega))), Nat.shiftRight_eq_div_pow]
  simp
theorem bv_nat (x : Nat) : BitVec.ofInt 64 (x : Int) = BitVec.ofNat 64 x := by
  simp
theorem bt_test (m : Nat) (i : Nat) (hm : m < 2 ^ 62) (hi : i < 62) : btI (m : Int) (i : Int) = m.testBit i := by
  unfold btI
  rw [shr_nat m i hi]
  have hle : m >>> i ≤ m := Nat.shiftRight_le m i
  rw [Nat.testBit_eq_decide_div_mod_eq, ← Nat.shiftRight_eq_div_pow]
  generalize m >>> i = x at hle ⊢
  have e : bitI .and .i64 ((x : Nat) : Int) 1 = ((x % 2 : Nat) : Int) := by
    unfold bitI
    have e1 : (BitVec.ofInt IntKind.i64.bits ((x : Nat) : Int) &&& BitVec.ofInt IntKind.i64.bits 1).toNat = x % 2 := by
      rw [BitVec.toNat_and]
      show ((BitVec.ofInt 64 ((x : Nat) : Int)).toNat &&& 1) = _
      rw [bv_nat, BitVec.toNat_ofNat, Nat.mod_eq_of_lt (by omega), Nat.and_one_is_mod]
    simp only [e1]
    exact wrap_in (by simp only [imin]; omega) (by simp only [imax]; omega)
  rw [e]
  rcases Nat.mod_two_eq_zero_or_one x with h | h <;> simp [h]
def clI (m e : Int) : Int := bitI .andNot .i64 m (shlI .i64 1 e)
theorem shl_nat (e : Nat) (he : e < 62) : shlI .i64 1 (e : Int) = ((2 ^ e : Nat) : Int) := by
  unfold shlI
  have : min (e : Int).toNat IntKind.i64.bits = e := by simp [IntKind.bits]; omega
  rw [this]
  have h2 : 2 ^ e < 2 ^ 62 := Nat.pow_lt_pow_right (by omega) he
  have h3 : (1 : Int) * 2 ^ e = ((2 ^ e : Nat) : Int) := by simp
  rw [h3]
  generalize 2 ^ e = q at h2
  exact wrap_in (by simp only [imin]; omega) (by simp only [imax]; omega)
theorem cl_nat (m e : Nat) (hm : m < 2 ^ 62) (he : e < 62) : ∃ r : Nat, clI (m : Int) (e : Int) = (r : Int) ∧ r ≤ m ∧ ∀ i, r.testBit i = (if i = e then false else m.testBit i) := by
  unfold clI
  rw [shl_nat e he]
  let r : Nat := (BitVec.ofNat 64 m &&& ~~~BitVec.ofNat 64 (2 ^ e)).toNat
  have hr : bitI .andNot .i64 (m : Int) ((2 ^ e : Nat) : Int) = IntKind.i64.wrap (r : Int) := by
    unfold bitI
    show IntKind.i64.wrap (((BitVec.ofInt 64 (m : Int) &&& ~~~BitVec.ofInt 64 ((2 ^ e : Nat) : Int)).toNat : Nat) : Int) = _
    rw [bv_nat, bv_nat]
  have hle : r ≤ m := by
    show (BitVec.ofNat 64 m &&& ~~~BitVec.ofNat 64 (2 ^ e)).toNat ≤ m
    rw [BitVec.toNat_and, BitVec.toNat_ofNat, Nat.mod_eq_of_lt (by omega)]
    exact Nat.and_le_left
  have hbit : ∀ i, r.testBit i = (if i = e then false else m.testBit i) := by
    intro i
    show (BitVec.ofNat 64 m &&& ~~~BitVec.ofNat 64 (2 ^ e)).toNat.testBit i = _
    rw [BitVec.testBit_toNat, BitVec.getLsbD_and, BitVec.getLsbD_not, BitVec.getLsbD_ofNat, BitVec.getLsbD_ofNat, Nat.testBit_two_pow]
    by_cases h1 : i < 64
    · by_cases h2 : i = e
      · subst h2; simp
      · have : ¬ e = i := fun h => h2 h.symm
        simp [h1, h2, this]
    · have hb : m.testBit i = false := Nat.testBit_lt_two_pow (Nat.lt_of_lt_of_le hm (Nat.pow_le_pow_right (by omega) (by omega)))
      simp [h1, hb]
  refine ⟨r, ?_, hle, hbit⟩
  rw [hr]
  exact wrap_in (by simp only [imin]; omega) (by simp only [imax]; omega)
end Go.Proofs.Ytffnfeefjdmifaa.Mach
namespace Go.Proofs.Ytffnfeefjdmifaa.Mach
open Go
set_option linter.unusedVariables false
set_option linter.unusedSimpArgs false
def GSo (w M i c : Nat) (f : Nat → Int) : St := ⟨[.p (.int .i64 w), .p (.int .i64 M), .p .any, .p .any, .p .any, .ar 1 0 0 c, .p .any, .p .any, .p (.int .i64 M), .p (.int .i64 i)] ++ List.replicate 13 anyA, [(0, iOb c f)], 1⟩
def GSl (w M i c : Nat) (f : Nat → Int) : St := ⟨[.p (.int .i64 M), .p (.int .i64 w), .p .any, .p .any, .p .any, .ar 1 0 0 c, .p (.int .i64 i)] ++ List.replicate 16 anyA, [(0, iOb c f)], 1⟩
def GP0 (g : Nat → T_GainBar) (nb N n : Nat) (s : Nat → Int) (v q : Nat) : St :=
  ⟨[gnA g nb N, inS n s, .pt 2 0 0 0, .p .any, .p .any, .p (.int .i64 q), .p (.int .i64 v)] ++ List.replicate 45 anyA, [(0, gnB g nb N)], 1⟩
def GP1 (g : Nat → T_GainBar) (nb N n : Nat) (s : Nat → Int) (v q : Nat) (b : Bool) (k : Nat) : St :=
  ⟨[gnA g nb N, inS n s, .pt 2 0 0 0, .p .any, .p .any, .p (.int .i64 q), .p (.int .i64 v), .p (.bool b), .p (.int .i64 k)] ++ List.replicate 43 anyA, [(0, gnB g nb N)], 1⟩
def GQ0 (g : Nat → T_GainBar) (nb N P m : Nat) (F : Nat → Bool) : St :=
  ⟨[gnA g nb N, .pt 2 0 0 0, .p .any, .ar 1 1 0 P] ++ List.replicate 12 anyA ++ [.p (.int .i64 P), .p (.int .i64 m)] ++ List.replicate 80 anyA, [(0, gnB g nb N), (1, bOb P F)], 2⟩
def GQ1 (g : Nat → T_GainBar) (nb N P m : Nat) (F : Nat → Bool) (c : Nat) (s : Nat → Int) (q : Nat) (pts : Nat → Int) (k : Nat) : St :=
  ⟨[gnA g nb N, .pt 2 0 0 0, .p .any, .ar 1 1 0 P, .p (.int .i64 m), .ar 1 2 0 c, .ar 1 3 0 q] ++ List.replicate 9 anyA ++ [.p (.int .i64 P), .p (.int .i64 m)] ++ List.replicate 11 anyA ++
    [.ar 1 2 0 c, .p (.int .i64 c), .p (.int .i64 k)] ++ List.replicate 66 anyA, [(0, gnB g nb N), (1, bOb P F), (2, iOb c s), (3, iOb q pts)], 4⟩
def snp (q : Nat) (pts : Nat → Int) (a b : Int) (i : Nat) : Int := if i < q then pts i else if i = q then a else b
def GT0 (g : Nat → T_GainBar) (nb N m : Nat) : St :=
  ⟨[gnA g nb N, .pt 2 0 0 0, .p .any, .p (.int .i64 m)] ++ List.replicate 32 anyA, [(0, gnB g nb N)], 1⟩
theorem gOz (w M : Nat) :
    pieceOb Try.prog 0 [.reg [oT], .reg [oT, oT], .reg [oT, oT], .head] [.code (bodyOf Try.f42)] (start Try.f42 [] 0 [.p (.int .i64 w), .p (.int .i64 M)]) [32] 1 (GSo w M 0 0 (fun _ => 0)) =
    some ([.code (cAt (bodyOf Try.f42) [1, 1, 0, 1, 0, 0]), .inLoop (cAt (bodyOf Try.f42) [1, 1, 0, 1, 0, 0]), .inBlock 0, .code (cAt (bodyOf Try.f42) [1, 1, 1])], [(AI ((↑w : Int))),
  (AI ((↑M : Int))),
  (AN 0),
  (AN 0),
  (AI ((↑M : Int))),
  ((0 : Int) = (↑0 : Int)),
  (AN 1),
  ((0 : Nat) ≤ 0),
  (∀ i : Nat, (((i : Nat) < 0) → (All [] ∧ (([.p .any] : List AV) = [.p (.int .i64 0)]))))]) := by kernel_rfl
theorem gOt (w M i c : Nat) (f : Nat → Int) :
    pieceOb Try.prog 0 [.reg [oT], .dec true, .reg [oT, oT], .reg [oT, oT, oT, oT, oT], .dec true, .reg [oT, oT, oT, oT, oT], .reg [oT, oT], .head] [.code (cAt (bodyOf Try.f42) [1, 1, 0, 1, 0, 0]), .inLoop (cAt (bodyOf Try.f42) [1, 1, 0, 1, 0, 0]), .inBlock 0, .code (cAt (bodyOf Try.f42) [1, 1, 1])] (GSo w M i c f) [353] 1 (GSo w M (i + 1) (c + 1) (fun s => if s < c then f s else i)) =
    some ([.code (cAt (bodyOf Try.f42) [1, 1, 0, 1, 0, 0]), .inLoop (cAt (bodyOf Try.f42) [1, 1, 0, 1, 0, 0]), .inBlock 0, .code (cAt (bodyOf Try.f42) [1, 1, 1])], [((decide ((↑i : Int) < (↑M : Int))) = true),
  ((0 : Int) ≤ (↑i : Int)),
  ((bitI BinOp.and IntKind.i64 (shrI IntKind.i64 (↑w : Int) (↑i : Int)) 1 == 1) = true),
  ((1 : Nat) ≤ 1),
  ((c : Nat) ≤ c),
  ((((c + 1) * 8) : Nat) ≤ 140737488355328),
  (((c + 1) : Nat) ≤ 9223372036854775807),
  (((-9223372036854775808) : Int) ≤ ((↑i : Int) + 1)),
  ((((↑i : Int) + 1) : Int) ≤ 9223372036854775807),
  (AI ((↑w : Int))),
  (AI ((↑M : Int))),
  (AN 0),
  (AN ((c + 1))),
  (AI ((↑M : Int))),
  ((((↑i : Int) + 1) : Int) = (↑(i + 1) : Int)),
  (AN 1),
  (((c + 1) : Nat) ≤ (c + 1)),
  (∀ i_1 : Nat, (((i_1 : Nat) < (c + 1)) → (All (cvtL false [(353, ⟨false, 1, (c + 1), (fun i_2 => (if (i_2 < c) then [.p (.int .i64 (f i_2))] else [.p (.int .i64 (↑i : Int))]))⟩), (321, ⟨false, 1, 1, (fun i_2 => [.p (.int .i64 (↑i : Int))])⟩)] [353] 1 (if (i_1 < c) then [.p (.int .i64 (f i_1))] else [.p (.int .i64 (↑i : Int))])).2 ∧ (((cvtL false [(353, ⟨false, 1, (c + 1), (fun i_2 => (if (i_2 < c) then [.p (.int .i64 (f i_2))] else [.p (.int .i64 (↑i : Int))]))⟩), (321, ⟨false, 1, 1, (fun i_2 => [.p (.int .i64 (↑i : Int))])⟩)] [353] 1 (if (i_1 < c) then [.p (.int .i64 (f i_1))] else [.p (.int .i64 (↑i : Int))])).1 : List AV) = [.p (.int .i64 (if i_1 < c then f i_1 else (↑i : Int)))]))))]) := by kernel_rfl
theorem gOf (w M i c : Nat) (f : Nat → Int) :
    pieceOb Try.prog 0 [.reg [oT], .dec true, .reg [oT, oT], .reg [oT, oT, oT, oT, oT], .dec false, .reg [oT, oT], .head] [.code (cAt (bodyOf Try.f42) [1, 1, 0, 1, 0, 0]), .inLoop (cAt (bodyOf Try.f42) [1, 1, 0, 1, 0, 0]), .inBlock 0, .code (cAt (bodyOf Try.f42) [1, 1, 1])] (GSo w M i c f) [0] 1 (GSo w M (i + 1) c f) =
    some ([.code (cAt (bodyOf Try.f42) [1, 1, 0, 1, 0, 0]), .inLoop (cAt (bodyOf Try.f42) [1, 1, 0, 1, 0, 0]), .inBlock 0, .code (cAt (bodyOf Try.f42) [1, 1, 1])], [((decide ((↑i : Int) < (↑M : Int))) = true),
  ((0 : Int) ≤ (↑i : Int)),
  ((bitI BinOp.and IntKind.i64 (shrI IntKind.i64 (↑w : Int) (↑i : Int)) 1 == 1) = false),
  (((-9223372036854775808) : Int) ≤ ((↑i : Int) + 1)),
  ((((↑i : Int) + 1) : Int) ≤ 9223372036854775807),
  (AI ((↑w : Int))),
  (AI ((↑M : Int))),
  (AN 0),
  (AN c),
  (AI ((↑M : Int))),
  ((((↑i : Int) + 1) : Int) = (↑(i + 1) : Int)),
  (AN 1),
  ((c : Nat) ≤ c),
  (AA c (fun i_1 => [.p (.int .i64 (f i_1))]))]) := by kernel_rfl
theorem gOe (w M i c : Nat) (f : Nat → Int) :
    pathOb Try.prog Try.f42 0 [.reg [oT], .dec false, .reg [oT, oT]] [.code (cAt (bodyOf Try.f42) [1, 1, 0, 1, 0, 0]), .inLoop (cAt (bodyOf Try.f42) [1, 1, 0, 1, 0, 0]), .inBlock 0, .code (cAt (bodyOf Try.f42) [1, 1, 1])] (GSo w M i c f) [0] 1 [(0, iOb c f)] (.ar 1 0 0 c) =
    some [((decide ((↑i : Int) < (↑M : Int))) = false),
  (AN 0),
  (AN c),
  (AN 1),
  ((c : Nat) ≤ c),
  (AA c (fun i_1 => [.p (.int .i64 (f i_1))])),
  (AE c)] := by kernel_rfl
theorem gLz (w M : Nat) :
    pieceOb Try.prog 0 [.reg [oT], .reg [oT, oT], .reg [oT], .head] [.code (bodyOf Try.f76)] (start Try.f76 [] 0 [.p (.int .i64 M), .p (.int .i64 w)]) [32] 1 (GSl w M 0 0 (fun _ => 0)) =
    some ([.code (cAt (bodyOf Try.f76) [1, 1, 0, 1, 0, 0]), .inLoop (cAt (bodyOf Try.f76) [1, 1, 0, 1, 0, 0]), .inBlock 0, .code (cAt (bodyOf Try.f76) [1, 1, 1])], [(AI ((↑M : Int))),
  (AI ((↑w : Int))),
  (AN 0),
  (AN 0),
  ((0 : Int) = (↑0 : Int)),
  (AN 1),
  ((0 : Nat) ≤ 0),
  (∀ i : Nat, (((i : Nat) < 0) → (All [] ∧ (([.p .any] : List AV) = [.p (.int .i64 0)]))))]) := by kernel_rfl
theorem gLt (w M i c : Nat) (f : Nat → Int) :
    pieceOb Try.prog 0 [.reg [oT, oT, oT], .dec true, .reg [oT, oT, oT, oT, oT], .dec true, .reg [oT, oT, oT, oT, oT], .reg [oT, oT, oT], .head] [.code (cAt (bodyOf Try.f76) [1, 1, 0, 1, 0, 0]), .inLoop (cAt (bodyOf Try.f76) [1, 1, 0, 1, 0, 0]), .inBlock 0, .code (cAt (bodyOf Try.f76) [1, 1, 1])] (GSl w M i c f) [353] 1 (GSl w M (i + 1) (c + 1) (fun s => if s < c then f s else i)) =
    some ([.code (cAt (bodyOf Try.f76) [1, 1, 0, 1, 0, 0]), .inLoop (cAt (bodyOf Try.f76) [1, 1, 0, 1, 0, 0]), .inBlock 0, .code (cAt (bodyOf Try.f76) [1, 1, 1])], [((decide ((↑i : Int) < (↑M : Int))) = true),
  ((0 : Int) ≤ (↑i : Int)),
  ((bitI BinOp.and IntKind.i64 (shrI IntKind.i64 (↑w : Int) (↑i : Int)) 1 == 1) = true),
  ((1 : Nat) ≤ 1),
  ((c : Nat) ≤ c),
  ((((c + 1) * 8) : Nat) ≤ 140737488355328),
  (((c + 1) : Nat) ≤ 9223372036854775807),
  (((-9223372036854775808) : Int) ≤ ((↑i : Int) + 1)),
  ((((↑i : Int) + 1) : Int) ≤ 9223372036854775807),
  (AI ((↑M : Int))),
  (AI ((↑w : Int))),
  (AN 0),
  (AN ((c + 1))),
  ((((↑i : Int) + 1) : Int) = (↑(i + 1) : Int)),
  (AN 1),
  (((c + 1) : Nat) ≤ (c + 1)),
  (∀ i_1 : Nat, (((i_1 : Nat) < (c + 1)) → (All (cvtL false [(353, ⟨false, 1, (c + 1), (fun i_2 => (if (i_2 < c) then [.p (.int .i64 (f i_2))] else [.p (.int .i64 (↑i : Int))]))⟩), (321, ⟨false, 1, 1, (fun i_2 => [.p (.int .i64 (↑i : Int))])⟩)] [353] 1 (if (i_1 < c) then [.p (.int .i64 (f i_1))] else [.p (.int .i64 (↑i : Int))])).2 ∧ (((cvtL false [(353, ⟨false, 1, (c + 1), (fun i_2 => (if (i_2 < c) then [.p (.int .i64 (f i_2))] else [.p (.int .i64 (↑i : Int))]))⟩), (321, ⟨false, 1, 1, (fun i_2 => [.p (.int .i64 (↑i : Int))])⟩)] [353] 1 (if (i_1 < c) then [.p (.int .i64 (f i_1))] else [.p (.int .i64 (↑i : Int))])).1 : List AV) = [.p (.int .i64 (if i_1 < c then f i_1 else (↑i : Int)))]))))]) := by kernel_rfl
theorem gLf (w M i c : Nat) (f : Nat → Int) :
    pieceOb Try.prog 0 [.reg [oT, oT, oT], .dec true, .reg [oT, oT, oT, oT, oT], .dec false, .reg [oT, oT, oT], .head] [.code (cAt (bodyOf Try.f76) [1, 1, 0, 1, 0, 0]), .inLoop (cAt (bodyOf Try.f76) [1, 1, 0, 1, 0, 0]), .inBlock 0, .code (cAt (bodyOf Try.f76) [1, 1, 1])] (GSl w M i c f) [0] 1 (GSl w M (i + 1) c f) =
    some ([.code (cAt (bodyOf Try.f76) [1, 1, 0, 1, 0, 0]), .inLoop (cAt (bodyOf Try.f76) [1, 1, 0, 1, 0, 0]), .inBlock 0, .code (cAt (bodyOf Try.f76) [1, 1, 1])], [((decide ((↑i : Int) < (↑M : Int))) = true),
  ((0 : Int) ≤ (↑i : Int)),
  ((bitI BinOp.and IntKind.i64 (shrI IntKind.i64 (↑w : Int) (↑i : Int)) 1 == 1) = false),
  (((-9223372036854775808) : Int) ≤ ((↑i : Int) + 1)),
  ((((↑i : Int) + 1) : Int) ≤ 9223372036854775807),
  (AI ((↑M : Int))),
  (AI ((↑w : Int))),
  (AN 0),
  (AN c),
  ((((↑i : Int) + 1) : Int) = (↑(i + 1) : Int)),
  (AN 1),
  ((c : Nat) ≤ c),
  (AA c (fun i_1 => [.p (.int .i64 (f i_1))]))]) := by kernel_rfl
theorem gLe (w M i c : Nat) (f : Nat → Int) :
    pathOb Try.prog Try.f76 0 [.reg [oT, oT, oT], .dec false, .reg [oT, oT]] [.code (cAt (bodyOf Try.f76) [1, 1, 0, 1, 0, 0]), .inLoop (cAt (bodyOf Try.f76) [1, 1, 0, 1, 0, 0]), .inBlock 0, .code (cAt (bodyOf Try.f76) [1, 1, 1])] (GSl w M i c f) [0] 1 [(0, iOb c f)] (.ar 1 0 0 c) =
    some [((decide ((↑i : Int) < (↑M : Int))) = false),
  (AN 0),
  (AN c),
  (AN 1),
  ((c : Nat) ≤ c),
  (AA c (fun i_1 => [.p (.int .i64 (f i_1))])),
  (AE c)] := by kernel_rfl
theorem gPz (g : Nat → T_GainBar) (nb N n : Nat) (s : Nat → Int) :
    pieceOb Try.prog 0 [.reg [oT, oT], .reg [oT], .reg [oT], .head] [.code (bodyOf Try.f77)] (start Try.f77 [] 0 [gnA g nb N, inS n s]) [0] 1 (GP0 g nb N n s 0 0) =
    some ([.code (cAt (bodyOf Try.f77) [1, 1, 0, 1, 0, 0]), .inLoop (cAt (bodyOf Try.f77) [1, 1, 0, 1, 0, 0]), .inBlock 0, .code (cAt (bodyOf Try.f77) [1, 1, 1])], [(AI ((↑N : Int))),
  (AN nb),
  (AP nb (fun i => [.int .i64 ((g i).1), .int .i64 ((g i).2.1), .int .i64 ((g i).2.2.1), .int .i64 ((g i).2.2.2.1)])),
  (AN n),
  (AP n (fun i => [.int .i64 (s i)])),
  (AN 0),
  ((0 : Int) = (↑0 : Int)),
  ((0 : Int) = (↑0 : Int)),
  ((([AV.p (PV.int IntKind.i64 (↑N : Int)), gnL g nb].length) : Nat) = 2),
  ((1 : Nat) ≤ 1),
  ((1 : Nat) ≤ 1),
  (AI ((↑N : Int))),
  (AN nb),
  (AP nb (fun i => [.int .i64 ((g i).1), .int .i64 ((g i).2.1), .int .i64 ((g i).2.2.1), .int .i64 ((g i).2.2.2.1)]))]) := by kernel_rfl
theorem gPo (g : Nat → T_GainBar) (nb N n : Nat) (s : Nat → Int) (v q : Nat) :
    pieceOb Try.prog 0 [.reg [oT, oT, oT, oT], .dec true, .reg [oT], .reg [oT], .head] [.code (cAt (bodyOf Try.f77) [1, 1, 0, 1, 0, 0]), .inLoop (cAt (bodyOf Try.f77) [1, 1, 0, 1, 0, 0]), .inBlock 0, .code (cAt (bodyOf Try.f77) [1, 1, 1])] (GP0 g nb N n s v q) [0] 1 (GP1 g nb N n s v q false 0) =
    some ([.code (cAt (bodyOf Try.f77) [1, 1, 0, 1, 0, 0, 1, 0, 0, 1, 0, 1, 0, 0]), .inLoop (cAt (bodyOf Try.f77) [1, 1, 0, 1, 0, 0, 1, 0, 0, 1, 0, 1, 0, 0]), .inBlock 2, .code (cAt (bodyOf Try.f77) [1, 1, 0, 1, 0, 0, 1, 0, 0, 1, 1]), .inBlock 1, .code (cAt (bodyOf Try.f77) [1, 1, 0, 1, 0, 0, 1, 1]), .inLoop (cAt (bodyOf Try.f77) [1, 1, 0, 1, 0, 0]), .inBlock 0, .code (cAt (bodyOf Try.f77) [1, 1, 1])], [((0 : Nat) < 1),
  ((decide ((↑v : Int) < (↑N : Int))) = true),
  (AI ((↑N : Int))),
  (AN nb),
  (AP nb (fun i => [.int .i64 ((g i).1), .int .i64 ((g i).2.1), .int .i64 ((g i).2.2.1), .int .i64 ((g i).2.2.2.1)])),
  (AN n),
  (AP n (fun i => [.int .i64 (s i)])),
  (AN 0),
  (AI ((↑q : Int))),
  (AI ((↑v : Int))),
  (false = false),
  ((0 : Int) = (↑0 : Int)),
  (AN 2),
  ((1 : Nat) ≤ 1),
  ((1 : Nat) ≤ 1),
  (AI ((↑N : Int))),
  (AN nb),
  (AP nb (fun i => [.int .i64 ((g i).1), .int .i64 ((g i).2.1), .int .i64 ((g i).2.2.1), .int .i64 ((g i).2.2.2.1)]))]) := by kernel_rfl
theorem gPi (g : Nat → T_GainBar) (nb N n : Nat) (s : Nat → Int) (v q : Nat) (b : Bool) (k : Nat) :
    pieceOb Try.prog 0 [.reg [oT, oT, oT, oT], .dec true, .reg [oT, oT, oT, oT, oT, oT, oT, oT, oT, oT, oT, oT, oT, oT, oT, oT, oT, oT, oT, oT, oT, oT, oT, oT, oT, oT, oT, oT], .reg [oT, oT, oT], .head] [.code (cAt (bodyOf Try.f77) [1, 1, 0, 1, 0, 0, 1, 0, 0, 1, 0, 1, 0, 0]), .inLoop (cAt (bodyOf Try.f77) [1, 1, 0, 1, 0, 0, 1, 0, 0, 1, 0, 1, 0, 0]), .inBlock 2, .code (cAt (bodyOf Try.f77) [1, 1, 0, 1, 0, 0, 1, 0, 0, 1, 1]), .inBlock 1, .code (cAt (bodyOf Try.f77) [1, 1, 0, 1, 0, 0, 1, 1]), .inLoop (cAt (bodyOf Try.f77) [1, 1, 0, 1, 0, 0]), .inBlock 0, .code (cAt (bodyOf Try.f77) [1, 1, 1])] (GP1 g nb N n s v q b k) [0] 1 (GP1 g nb N n s v q (bif bif b then true else (gb g s k).1 == (v : Int) then true else (gb g s k).2.1 == (v : Int)) (k + 1)) =
    some ([.code (cAt (bodyOf Try.f77) [1, 1, 0, 1, 0, 0, 1, 0, 0, 1, 0, 1, 0, 0]), .inLoop (cAt (bodyOf Try.f77) [1, 1, 0, 1, 0, 0, 1, 0, 0, 1, 0, 1, 0, 0]), .inBlock 2, .code (cAt (bodyOf Try.f77) [1, 1, 0, 1, 0, 0, 1, 0, 0, 1, 1]), .inBlock 1, .code (cAt (bodyOf Try.f77) [1, 1, 0, 1, 0, 0, 1, 1]), .inLoop (cAt (bodyOf Try.f77) [1, 1, 0, 1, 0, 0]), .inBlock 0, .code (cAt (bodyOf Try.f77) [1, 1, 1])], [((decide ((↑k : Int) < (↑n : Int))) = true),
  (AG (!b)),
  (((!b) = true) → ((0 : Nat) < 1)),
  (AG (!b)),
  (AG (!b)),
  (((!b) = true) → ((0 : Int) ≤ (↑k : Int))),
  (((!b) = true) → (((↑k : Int) : Int) < (↑n : Int))),
  (AG (!b)),
  (AG (!b)),
  (AG (!b)),
  (((!b) = true) → ((0 : Int) ≤ (s k))),
  (((!b) = true) → (((s k) : Int) < (↑nb : Int))),
  (AG (!b)),
  (AG (!b)),
  (AG (!b)),
  (AG (!b)),
  ((b = false) → ((!b) = true)),
  (AG (!bif b then true else (g (s k).toNat).1 == (↑v : Int))),
  (((!bif b then true else (g (s k).toNat).1 == (↑v : Int)) = true) → ((0 : Nat) < 1)),
  (AG (!bif b then true else (g (s k).toNat).1 == (↑v : Int))),
  (AG (!bif b then true else (g (s k).toNat).1 == (↑v : Int))),
  (((!bif b then true else (g (s k).toNat).1 == (↑v : Int)) = true) → ((0 : Int) ≤ (↑k : Int))),
  (((!bif b then true else (g (s k).toNat).1 == (↑v : Int)) = true) → (((↑k : Int) : Int) < (↑n : Int))),
  (AG (!bif b then true else (g (s k).toNat).1 == (↑v : Int))),
  (AG (!bif b then true else (g (s k).toNat).1 == (↑v : Int))),
  (AG (!bif b then true else (g (s k).toNat).1 == (↑v : Int))),
  (((!bif b then true else (g (s k).toNat).1 == (↑v : Int)) = true) → ((0 : Int) ≤ (s k))),
  (((!bif b then true else (g (s k).toNat).1 == (↑v : Int)) = true) → (((s k) : Int) < (↑nb : Int))),
  (AG (!bif b then true else (g (s k).toNat).1 == (↑v : Int))),
  (AG (!bif b then true else (g (s k).toNat).1 == (↑v : Int))),
  (AG (!bif b then true else (g (s k).toNat).1 == (↑v : Int))),
  (AG (!bif b then true else (g (s k).toNat).1 == (↑v : Int))),
  (((bif b then true else (g (s k).toNat).1 == (↑v : Int)) = false) → ((!bif b then true else (g (s k).toNat).1 == (↑v : Int)) = true)),
  (((-9223372036854775808) : Int) ≤ ((↑k : Int) + 1)),
  ((((↑k : Int) + 1) : Int) ≤ 9223372036854775807),
  (AI ((↑N : Int))),
  (AN nb),
  (AP nb (fun i => [.int .i64 ((g i).1), .int .i64 ((g i).2.1), .int .i64 ((g i).2.2.1), .int .i64 ((g i).2.2.2.1)])),
  (AN n),
  (AP n (fun i => [.int .i64 (s i)])),
  (AN 0),
  (AI ((↑q : Int))),
  (AI ((↑v : Int))),
  ((bif bif b then true else (g (s k).toNat).1 == (↑v : Int) then true else (g (s k).toNat).2.1 == (↑v : Int)) = (bif bif b then true else (gb g s k).1 == (↑v : Int) then true else (gb g s k).2.1 == (↑v : Int))),
  ((((↑k : Int) + 1) : Int) = (↑(k + 1) : Int)),
  (AN 2),
  ((1 : Nat) ≤ 1),
  ((1 : Nat) ≤ 1),
  (AI ((↑N : Int))),
  (AN nb),
  (AP nb (fun i => [.int .i64 ((g i).1), .int .i64 ((g i).2.1), .int .i64 ((g i).2.2.1), .int .i64 ((g i).2.2.2.1)]))]) := by kernel_rfl
theorem gPt (g : Nat → T_GainBar) (nb N n : Nat) (s : Nat → Int) (v q k : Nat) :
    pieceOb Try.prog 0 [.reg [oT, oT, oT, oT], .dec false, .reg [oT], .dec true, .reg [oT, oT, oT], .reg [oT, oT, oT], .head] [.code (cAt (bodyOf Try.f77) [1, 1, 0, 1, 0, 0, 1, 0, 0, 1, 0, 1, 0, 0]), .inLoop (cAt (bodyOf Try.f77) [1, 1, 0, 1, 0, 0, 1, 0, 0, 1, 0, 1, 0, 0]), .inBlock 2, .code (cAt (bodyOf Try.f77) [1, 1, 0, 1, 0, 0, 1, 0, 0, 1, 1]), .inBlock 1, .code (cAt (bodyOf Try.f77) [1, 1, 0, 1, 0, 0, 1, 1]), .inLoop (cAt (bodyOf Try.f77) [1, 1, 0, 1, 0, 0]), .inBlock 0, .code (cAt (bodyOf Try.f77) [1, 1, 1])] (GP1 g nb N n s v q true k) [0] 1 (GP0 g nb N n s (v + 1) (q + 1)) =
    some ([.code (cAt (bodyOf Try.f77) [1, 1, 0, 1, 0, 0]), .inLoop (cAt (bodyOf Try.f77) [1, 1, 0, 1, 0, 0]), .inBlock 0, .code (cAt (bodyOf Try.f77) [1, 1, 1])], [((decide ((↑k : Int) < (↑n : Int))) = false),
  (true = true),
  (((-9223372036854775808) : Int) ≤ ((↑q : Int) + 1)),
  ((((↑q : Int) + 1) : Int) ≤ 9223372036854775807),
  (((-9223372036854775808) : Int) ≤ ((↑v : Int) + 1)),
  ((((↑v : Int) + 1) : Int) ≤ 9223372036854775807),
  (AI ((↑N : Int))),
  (AN nb),
  (AP nb (fun i => [.int .i64 ((g i).1), .int .i64 ((g i).2.1), .int .i64 ((g i).2.2.1), .int .i64 ((g i).2.2.2.1)])),
  (AN n),
  (AP n (fun i => [.int .i64 (s i)])),
  (AN 0),
  ((((↑q : Int) + 1) : Int) = (↑(q + 1) : Int)),
  ((((↑v : Int) + 1) : Int) = (↑(v + 1) : Int)),
  (AN 2),
  ((1 : Nat) ≤ 1),
  ((1 : Nat) ≤ 1),
  (AI ((↑N : Int))),
  (AN nb),
  (AP nb (fun i => [.int .i64 ((g i).1), .int .i64 ((g i).2.1), .int .i64 ((g i).2.2.1), .int .i64 ((g i).2.2.2.1)]))]) := by kernel_rfl
theorem gPf (g : Nat → T_GainBar) (nb N n : Nat) (s : Nat → Int) (v q k : Nat) :
    pieceOb Try.prog 0 [.reg [oT, oT, oT, oT], .dec false, .reg [oT], .dec false, .reg [oT, oT, oT], .head] [.code (cAt (bodyOf Try.f77) [1, 1, 0, 1, 0, 0, 1, 0, 0, 1, 0, 1, 0, 0]), .inLoop (cAt (bodyOf Try.f77) [1, 1, 0, 1, 0, 0, 1, 0, 0, 1, 0, 1, 0, 0]), .inBlock 2, .code (cAt (bodyOf Try.f77) [1, 1, 0, 1, 0, 0, 1, 0, 0, 1, 1]), .inBlock 1, .code (cAt (bodyOf Try.f77) [1, 1, 0, 1, 0, 0, 1, 1]), .inLoop (cAt (bodyOf Try.f77) [1, 1, 0, 1, 0, 0]), .inBlock 0, .code (cAt (bodyOf Try.f77) [1, 1, 1])] (GP1 g nb N n s v q false k) [0] 1 (GP0 g nb N n s (v + 1) q) =
    some ([.code (cAt (bodyOf Try.f77) [1, 1, 0, 1, 0, 0]), .inLoop (cAt (bodyOf Try.f77) [1, 1, 0, 1, 0, 0]), .inBlock 0, .code (cAt (bodyOf Try.f77) [1, 1, 1])], [((decide ((↑k : Int) < (↑n : Int))) = false),
  (false = false),
  (((-9223372036854775808) : Int) ≤ ((↑v : Int) + 1)),
  ((((↑v : Int) + 1) : Int) ≤ 9223372036854775807),
  (AI ((↑N : Int))),
  (AN nb),
  (AP nb (fun i => [.int .i64 ((g i).1), .int .i64 ((g i).2.1), .int .i64 ((g i).2.2.1), .int .i64 ((g i).2.2.2.1)])),
  (AN n),
  (AP n (fun i => [.int .i64 (s i)])),
  (AN 0),
  (AI ((↑q : Int))),
  ((((↑v : Int) + 1) : Int) = (↑(v + 1) : Int)),
  (AN 2),
  ((1 : Nat) ≤ 1),
  ((1 : Nat) ≤ 1),
  (AI ((↑N : Int))),
  (AN nb),
  (AP nb (fun i => [.int .i64 ((g i).1), .int .i64 ((g i).2.1), .int .i64 ((g i).2.2.1), .int .i64 ((g i).2.2.2.1)]))]) := by kernel_rfl
theorem gPe (g : Nat → T_GainBar) (nb N n : Nat) (s : Nat → Int) (v q : Nat) :
    pathOb Try.prog Try.f77 0 [.reg [oT, oT, oT, oT], .dec false, .reg [oT, oT]] [.code (cAt (bodyOf Try.f77) [1, 1, 0, 1, 0, 0]), .inLoop (cAt (bodyOf Try.f77) [1, 1, 0, 1, 0, 0]), .inBlock 0, .code (cAt (bodyOf Try.f77) [1, 1, 1])] (GP0 g nb N n s v q) [] 1 [] (.p (.int .i64 q)) =
    some [((0 : Nat) < 1),
  ((decide ((↑v : Int) < (↑N : Int))) = false),
  (AI ((↑q : Int)))] := by kernel_rfl
theorem gQz (g : Nat → T_GainBar) (nb N P : Nat) :
    pieceOb Try.prog 0 [.reg [oT, oT], .reg [oT, oT, oT, oT, oT, oT], .reg [oT, oT, oT], .head] [.code (bodyOf Try.f81)] (start Try.f81 [] 0 [gnA g nb N]) [0, 192] 1 (GQ0 g nb N P 0 (fun _ => false)) =
    some ([.code (cAt (bodyOf Try.f81) [1, 1, 0, 1, 0, 0]), .inLoop (cAt (bodyOf Try.f81) [1, 1, 0, 1, 0, 0]), .inBlock 0, .code (cAt (bodyOf Try.f81) [1, 1, 1])], [((0 : Nat) < 1),
  ((0 : Int) ≤ (↑nb : Int)),
  ((0 : Int) ≤ (shlI IntKind.i64 1 (↑nb : Int))),
  (((shlI IntKind.i64 1 (↑nb : Int)) : Int) ≤ (shlI IntKind.i64 1 (↑nb : Int))),
  (((shlI IntKind.i64 1 (↑nb : Int) * (↑1 : Int)) : Int) ≤ 281474976710656),
  (((shlI IntKind.i64 1 (↑nb : Int)) : Int) ≤ 9223372036854775807),
  (AI ((↑N : Int))),
  (AN nb),
  (AP nb (fun i => [.int .i64 ((g i).1), .int .i64 ((g i).2.1), .int .i64 ((g i).2.2.1), .int .i64 ((g i).2.2.2.1)])),
  (AN 0),
  (AN 0),
  ((((shlI IntKind.i64 1 (↑nb : Int)).toNat) : Nat) = P),
  (((↑(shlI IntKind.i64 1 (↑nb : Int)).toNat : Int) : Int) = (↑P : Int)),
  ((0 : Int) = (↑0 : Int)),
  ((([AV.p (PV.int IntKind.i64 (↑N : Int)), gnL g nb].length) : Nat) = 2),
  ((1 : Nat) ≤ 1),
  ((1 : Nat) ≤ 1),
  (AI ((↑N : Int))),
  (AN nb),
  (AP nb (fun i => [.int .i64 ((g i).1), .int .i64 ((g i).2.1), .int .i64 ((g i).2.2.1), .int .i64 ((g i).2.2.2.1)])),
  (AN 1),
  ((P : Nat) ≤ ((shlI IntKind.i64 1 (↑nb : Int)).toNat)),
  (AA P (fun i => [.p (.bool false)]))]) := by kernel_rfl
theorem gQo (g : Nat → T_GainBar) (nb N P m : Nat) (F : Nat → Bool) (c : Nat) (s : Nat → Int) :
    pieceOb Try.prog 0 [.reg [oT], .dec true, .reg [oT, oT], .reg [oT, oT, oT, oT, ⟨true, (some ⟨[], [], [], 1, [(0, iOb c s)], .ar 1 0 0 c⟩), none⟩, oT], .reg [oT, oT, oT, oT], .reg [oT, oT], .reg [oT, oT, oT], .head] [.code (cAt (bodyOf Try.f81) [1, 1, 0, 1, 0, 0]), .inLoop (cAt (bodyOf Try.f81) [1, 1, 0, 1, 0, 0]), .inBlock 0, .code (cAt (bodyOf Try.f81) [1, 1, 1])] (GQ0 g nb N P m F) [0, 1, 226, 418] 1 (GQ1 g nb N P m (up F m true) c s 0 (fun _ => 0) 0) =
    some ([.code (cAt (bodyOf Try.f81) [1, 1, 0, 1, 0, 0, 1, 1, 0, 0, 1, 1, 1, 1, 0, 1, 0, 0]), .inLoop (cAt (bodyOf Try.f81) [1, 1, 0, 1, 0, 0, 1, 1, 0, 0, 1, 1, 1, 1, 0, 1, 0, 0]), .inBlock 2, .code (cAt (bodyOf Try.f81) [1, 1, 0, 1, 0, 0, 1, 1, 0, 0, 1, 1, 1, 1, 1]), .inBlock 1, .code (cAt (bodyOf Try.f81) [1, 1, 0, 1, 0, 0, 1, 1, 1]), .inLoop (cAt (bodyOf Try.f81) [1, 1, 0, 1, 0, 0]), .inBlock 0, .code (cAt (bodyOf Try.f81) [1, 1, 1])], [((decide ((↑m : Int) < (↑P : Int))) = true),
  ((0 : Nat) < 1),
  Con Try.prog 42 0 [] [.p (.int .i64 (↑m : Int)), .p (.int .i64 (↑nb : Int))] [(0, ⟨false, 1, c, (fun i => [.p (.int .i64 (s i))])⟩)] (.ar 1 0 0 c),
  ((0 : Int) ≤ (↑m : Int)),
  (((↑m : Int) : Int) < (↑P : Int)),
  ((m : Nat) < P),
  ((false = true) → ((P : Nat) = 1)),
  (AI ((↑N : Int))),
  (AN nb),
  (AP nb (fun i => [.int .i64 ((g i).1), .int .i64 ((g i).2.1), .int .i64 ((g i).2.2.1), .int .i64 ((g i).2.2.2.1)])),
  (AN 0),
  (AN 0),
  (AN P),
  (AI ((↑m : Int))),
  (AN 0),
  (AN c),
  (AN 0),
  (AN 0),
  (AI ((↑P : Int))),
  (AI ((↑m : Int))),
  (AN 0),
  (AN c),
  (AI ((↑c : Int))),
  ((0 : Int) = (↑0 : Int)),
  (AN 2),
  ((1 : Nat) ≤ 1),
  ((1 : Nat) ≤ 1),
  (AI ((↑N : Int))),
  (AN nb),
  (AP nb (fun i => [.int .i64 ((g i).1), .int .i64 ((g i).2.1), .int .i64 ((g i).2.2.1), .int .i64 ((g i).2.2.2.1)])),
  (AN 1),
  ((P : Nat) ≤ P),
  (∀ i : Nat, (((i : Nat) < P) → (All (cvtL false [(418, ⟨false, 1, 0, (fun i_1 => [.p .any])⟩), (1, ⟨false, 1, P, (fun i_1 => (if (i_1 = m) then [.p (.bool true)] else [.p (.bool (F i_1))]))⟩), (226, ⟨false, 1, c, (fun i_1 => [.p (.int .i64 (s i_1))])⟩), (0, ⟨true, 2, 1, (fun i_1 => [.p (.int .i64 (↑N : Int)), .p (.seq true 4 nb (fun i_2 => [.int .i64 ((g i_2).1), .int .i64 ((g i_2).2.1), .int .i64 ((g i_2).2.2.1), .int .i64 ((g i_2).2.2.2.1)]))])⟩)] [0, 1, 226, 418] 1 (if (i = m) then [.p (.bool true)] else [.p (.bool (F i))])).2 ∧ (((cvtL false [(418, ⟨false, 1, 0, (fun i_1 => [.p .any])⟩), (1, ⟨false, 1, P, (fun i_1 => (if (i_1 = m) then [.p (.bool true)] else [.p (.bool (F i_1))]))⟩), (226, ⟨false, 1, c, (fun i_1 => [.p (.int .i64 (s i_1))])⟩), (0, ⟨true, 2, 1, (fun i_1 => [.p (.int .i64 (↑N : Int)), .p (.seq true 4 nb (fun i_2 => [.int .i64 ((g i_2).1), .int .i64 ((g i_2).2.1), .int .i64 ((g i_2).2.2.1), .int .i64 ((g i_2).2.2.2.1)]))])⟩)] [0, 1, 226, 418] 1 (if (i = m) then [.p (.bool true)] else [.p (.bool (F i))])).1 : List AV) = [.p (.bool (up F m true i))])))),
  (AN 1),
  ((c : Nat) ≤ c),
  (AA c (fun i => [.p (.int .i64 (s i))])),
  (AN 1),
  ((0 : Nat) ≤ 0),
  (∀ i : Nat, (((i : Nat) < 0) → (All [] ∧ (([.p .any] : List AV) = [.p (.int .i64 0)]))))]) := by kernel_rfl
theorem gQi (g : Nat → T_GainBar) (nb N P m : Nat) (F : Nat → Bool) (c : Nat) (s : Nat → Int) (q : Nat) (pts : Nat → Int) (k : Nat) :
    pieceOb Try.prog 0 [.reg [oT], .dec true, .reg [oT, oT, oT], .reg [oT, oT, oT, oT, oT, oT, oT, oT, oT, oT, oT, oT, oT, oT, oT, oT, oT], .reg [oT, oT, oT, oT, oT, oT, oT, oT, oT, oT, oT, oT, oT, oT, oT, oT], .reg [oT, oT], .head] [.code (cAt (bodyOf Try.f81) [1, 1, 0, 1, 0, 0, 1, 1, 0, 0, 1, 1, 1, 1, 0, 1, 0, 0]), .inLoop (cAt (bodyOf Try.f81) [1, 1, 0, 1, 0, 0, 1, 1, 0, 0, 1, 1, 1, 1, 0, 1, 0, 0]), .inBlock 2, .code (cAt (bodyOf Try.f81) [1, 1, 0, 1, 0, 0, 1, 1, 0, 0, 1, 1, 1, 1, 1]), .inBlock 1, .code (cAt (bodyOf Try.f81) [1, 1, 0, 1, 0, 0, 1, 1, 1]), .inLoop (cAt (bodyOf Try.f81) [1, 1, 0, 1, 0, 0]), .inBlock 0, .code (cAt (bodyOf Try.f81) [1, 1, 1])] (GQ1 g nb N P m F c s q pts k) [0, 1, 2, 1124] 1 (GQ1 g nb N P m (up F m (bif F m then F (clI m (s k)).toNat else false)) c s (q + 2) (snp q pts (gb g s k).1 (gb g s k).2.1) (k + 1)) =
    some ([.code (cAt (bodyOf Try.f81) [1, 1, 0, 1, 0, 0, 1, 1, 0, 0, 1, 1, 1, 1, 0, 1, 0, 0]), .inLoop (cAt (bodyOf Try.f81) [1, 1, 0, 1, 0, 0, 1, 1, 0, 0, 1, 1, 1, 1, 0, 1, 0, 0]), .inBlock 2, .code (cAt (bodyOf Try.f81) [1, 1, 0, 1, 0, 0, 1, 1, 0, 0, 1, 1, 1, 1, 1]), .inBlock 1, .code (cAt (bodyOf Try.f81) [1, 1, 0, 1, 0, 0, 1, 1, 1]), .inLoop (cAt (bodyOf Try.f81) [1, 1, 0, 1, 0, 0]), .inBlock 0, .code (cAt (bodyOf Try.f81) [1, 1, 1])], [((decide ((↑k : Int) < (↑c : Int))) = true),
  ((0 : Int) ≤ (↑k : Int)),
  (((↑k : Int) : Int) < (↑c : Int)),
  ((k : Nat) < c),
  ((0 : Int) ≤ (↑m : Int)),
  (((↑m : Int) : Int) < (↑P : Int)),
  ((m : Nat) < P),
  (AG (F m)),
  (((F m) = true) → ((0 : Int) ≤ (s k))),
  (AG (F m)),
  (AG (F m)),
  (AG (F m)),
  (AG (F m)),
  (((F m) = true) → ((0 : Int) ≤ (bitI BinOp.andNot IntKind.i64 (↑m : Int) (shlI IntKind.i64 1 (s k))))),
  (((F m) = true) → (((bitI BinOp.andNot IntKind.i64 (↑m : Int) (shlI IntKind.i64 1 (s k))) : Int) < (↑P : Int))),
  (AG (F m)),
  (((F m) = true) → ((((bitI BinOp.andNot IntKind.i64 (↑m : Int) (shlI IntKind.i64 1 (s k))).toNat) : Nat) < P)),
  (AG (F m)),
  ((0 : Int) ≤ (↑m : Int)),
  (((↑m : Int) : Int) < (↑P : Int)),
  ((m : Nat) < P),
  ((false = true) → ((P : Nat) = 1)),
  ((0 : Nat) < 1),
  ((0 : Int) ≤ (s k)),
  (((s k) : Int) < (↑nb : Int)),
  ((0 : Nat) < 1),
  ((0 : Int) ≤ (s k)),
  (((s k) : Int) < (↑nb : Int)),
  ((2 : Nat) ≤ 2),
  ((q : Nat) ≤ q),
  ((((q + 2) * 8) : Nat) ≤ 140737488355328),
  (((q + 2) : Nat) ≤ 9223372036854775807),
  (((-9223372036854775808) : Int) ≤ ((↑k : Int) + 1)),
  ((((↑k : Int) + 1) : Int) ≤ 9223372036854775807),
  (AI ((↑N : Int))),
  (AN nb),
  (AP nb (fun i => [.int .i64 ((g i).1), .int .i64 ((g i).2.1), .int .i64 ((g i).2.2.1), .int .i64 ((g i).2.2.2.1)])),
  (AN 0),
  (AN 0),
  (AN P),
  (AI ((↑m : Int))),
  (AN 0),
  (AN c),
  (AN 0),
  (AN ((q + 2))),
  (AI ((↑P : Int))),
  (AI ((↑m : Int))),
  (AN 0),
  (AN c),
  (AI ((↑c : Int))),
  ((((↑k : Int) + 1) : Int) = (↑(k + 1) : Int)),
  (AN 2),
  ((1 : Nat) ≤ 1),
  ((1 : Nat) ≤ 1),
  (AI ((↑N : Int))),
  (AN nb),
  (AP nb (fun i => [.int .i64 ((g i).1), .int .i64 ((g i).2.1), .int .i64 ((g i).2.2.1), .int .i64 ((g i).2.2.2.1)])),
  (AN 1),
  ((P : Nat) ≤ P),
  (∀ i : Nat, (((i : Nat) < P) → (All (cvtL false [(1124, ⟨false, 1, (q + 2), (fun i_1 => (if (i_1 < q) then [.p (.int .i64 (pts i_1))] else [(List.getD ([(List.getD ([.p (.int .i64 ((g (s k).toNat).1)), .p (.int .i64 ((g (s k).toNat).2.1))] : List AV) (rowIx 2 (i_1 - q) * 1) (.p .any))] : List AV) 0 (.p .any))]))⟩), (1092, ⟨false, 1, 2, (fun i_1 => [(List.getD ([.p (.int .i64 ((g (s k).toNat).1)), .p (.int .i64 ((g (s k).toNat).2.1))] : List AV) (rowIx 2 i_1 * 1) (.p .any))])⟩), (1, ⟨false, 1, P, (fun i_1 => (if (i_1 = m) then [.p (.bool (bif F m then F (bitI BinOp.andNot IntKind.i64 (↑m : Int) (shlI IntKind.i64 1 (s k))).toNat else false))] else [.p (.bool (F i_1))]))⟩), (0, ⟨true, 2, 1, (fun i_1 => [.p (.int .i64 (↑N : Int)), .p (.seq true 4 nb (fun i_2 => [.int .i64 ((g i_2).1), .int .i64 ((g i_2).2.1), .int .i64 ((g i_2).2.2.1), .int .i64 ((g i_2).2.2.2.1)]))])⟩), (2, ⟨false, 1, c, (fun i_1 => [.p (.int .i64 (s i_1))])⟩)] [0, 1, 2, 1124] 1 (if (i = m) then [.p (.bool (bif F m then F (bitI BinOp.andNot IntKind.i64 (↑m : Int) (shlI IntKind.i64 1 (s k))).toNat else false))] else [.p (.bool (F i))])).2 ∧ (((cvtL false [(1124, ⟨false, 1, (q + 2), (fun i_1 => (if (i_1 < q) then [.p (.int .i64 (pts i_1))] else [(List.getD ([(List.getD ([.p (.int .i64 ((g (s k).toNat).1)), .p (.int .i64 ((g (s k).toNat).2.1))] : List AV) (rowIx 2 (i_1 - q) * 1) (.p .any))] : List AV) 0 (.p .any))]))⟩), (1092, ⟨false, 1, 2, (fun i_1 => [(List.getD ([.p (.int .i64 ((g (s k).toNat).1)), .p (.int .i64 ((g (s k).toNat).2.1))] : List AV) (rowIx 2 i_1 * 1) (.p .any))])⟩), (1, ⟨false, 1, P, (fun i_1 => (if (i_1 = m) then [.p (.bool (bif F m then F (bitI BinOp.andNot IntKind.i64 (↑m : Int) (shlI IntKind.i64 1 (s k))).toNat else false))] else [.p (.bool (F i_1))]))⟩), (0, ⟨true, 2, 1, (fun i_1 => [.p (.int .i64 (↑N : Int)), .p (.seq true 4 nb (fun i_2 => [.int .i64 ((g i_2).1), .int .i64 ((g i_2).2.1), .int .i64 ((g i_2).2.2.1), .int .i64 ((g i_2).2.2.2.1)]))])⟩), (2, ⟨false, 1, c, (fun i_1 => [.p (.int .i64 (s i_1))])⟩)] [0, 1, 2, 1124] 1 (if (i = m) then [.p (.bool (bif F m then F (bitI BinOp.andNot IntKind.i64 (↑m : Int) (shlI IntKind.i64 1 (s k))).toNat else false))] else [.p (.bool (F i))])).1 : List AV) = [.p (.bool (up F m (bif F m then F (clI (↑m : Int) (s k)).toNat else false) i))])))),
  (AN 1),
  ((c : Nat) ≤ c),
  (AA c (fun i => [.p (.int .i64 (s i))])),
  (AN 1),
  (((q + 2) : Nat) ≤ (q + 2)),
  (∀ i : Nat, (((i : Nat) < (q + 2)) → (All (cvtL false [(1124, ⟨false, 1, (q + 2), (fun i_1 => (if (i_1 < q) then [.p (.int .i64 (pts i_1))] else [(List.getD ([(List.getD ([.p (.int .i64 ((g (s k).toNat).1)), .p (.int .i64 ((g (s k).toNat).2.1))] : List AV) (rowIx 2 (i_1 - q) * 1) (.p .any))] : List AV) 0 (.p .any))]))⟩), (1092, ⟨false, 1, 2, (fun i_1 => [(List.getD ([.p (.int .i64 ((g (s k).toNat).1)), .p (.int .i64 ((g (s k).toNat).2.1))] : List AV) (rowIx 2 i_1 * 1) (.p .any))])⟩), (1, ⟨false, 1, P, (fun i_1 => (if (i_1 = m) then [.p (.bool (bif F m then F (bitI BinOp.andNot IntKind.i64 (↑m : Int) (shlI IntKind.i64 1 (s k))).toNat else false))] else [.p (.bool (F i_1))]))⟩), (0, ⟨true, 2, 1, (fun i_1 => [.p (.int .i64 (↑N : Int)), .p (.seq true 4 nb (fun i_2 => [.int .i64 ((g i_2).1), .int .i64 ((g i_2).2.1), .int .i64 ((g i_2).2.2.1), .int .i64 ((g i_2).2.2.2.1)]))])⟩), (2, ⟨false, 1, c, (fun i_1 => [.p (.int .i64 (s i_1))])⟩)] [0, 1, 2, 1124] 1 (if (i < q) then [.p (.int .i64 (pts i))] else [(List.getD ([(List.getD ([.p (.int .i64 ((g (s k).toNat).1)), .p (.int .i64 ((g (s k).toNat).2.1))] : List AV) (rowIx 2 (i - q) * 1) (.p .any))] : List AV) 0 (.p .any))])).2 ∧ (((cvtL false [(1124, ⟨false, 1, (q + 2), (fun i_1 => (if (i_1 < q) then [.p (.int .i64 (pts i_1))] else [(List.getD ([(List.getD ([.p (.int .i64 ((g (s k).toNat).1)), .p (.int .i64 ((g (s k).toNat).2.1))] : List AV) (rowIx 2 (i_1 - q) * 1) (.p .any))] : List AV) 0 (.p .any))]))⟩), (1092, ⟨false, 1, 2, (fun i_1 => [(List.getD ([.p (.int .i64 ((g (s k).toNat).1)), .p (.int .i64 ((g (s k).toNat).2.1))] : List AV) (rowIx 2 i_1 * 1) (.p .any))])⟩), (1, ⟨false, 1, P, (fun i_1 => (if (i_1 = m) then [.p (.bool (bif F m then F (bitI BinOp.andNot IntKind.i64 (↑m : Int) (shlI IntKind.i64 1 (s k))).toNat else false))] else [.p (.bool (F i_1))]))⟩), (0, ⟨true, 2, 1, (fun i_1 => [.p (.int .i64 (↑N : Int)), .p (.seq true 4 nb (fun i_2 => [.int .i64 ((g i_2).1), .int .i64 ((g i_2).2.1), .int .i64 ((g i_2).2.2.1), .int .i64 ((g i_2).2.2.2.1)]))])⟩), (2, ⟨false, 1, c, (fun i_1 => [.p (.int .i64 (s i_1))])⟩)] [0, 1, 2, 1124] 1 (if (i < q) then [.p (.int .i64 (pts i))] else [(List.getD ([(List.getD ([.p (.int .i64 ((g (s k).toNat).1)), .p (.int .i64 ((g (s k).toNat).2.1))] : List AV) (rowIx 2 (i - q) * 1) (.p .any))] : List AV) 0 (.p .any))])).1 : List AV) = [.p (.int .i64 (snp q pts (gb g s k).1 (gb g s k).2.1 i))]))))]) := by kernel_rfl
theorem gQt (g : Nat → T_GainBar) (nb N P m : Nat) (F : Nat → Bool) (c : Nat) (s : Nat → Int) (q : Nat) (pts : Nat → Int) (k d : Nat) (p1 p2 : Nat → Int) :
    pieceOb Try.prog 0 [.reg [oT], .dec false, .reg [oT, ⟨true, (some ⟨[3], [], [], 1, [(0, iOb q p1)], .tup []⟩), none⟩], .reg [oT, ⟨true, (some ⟨[3], [], [], 1, [(0, iOb q p2)], .ar 1 0 0 d⟩), none⟩, oT, oT, oT, oT], .reg [oT, oT, ⟨true, (some ⟨[], [], [], 1, [], .p (.bool true)⟩), none⟩], .dec true, .reg [oT, oT, oT], .reg [oT, oT, oT, oT, oT, oT, oT, oT, oT, oT, oT, oT, oT, oT, oT, oT, oT, oT], .reg [oT, oT], .head] [.code (cAt (bodyOf Try.f81) [1, 1, 0, 1, 0, 0, 1, 1, 0, 0, 1, 1, 1, 1, 0, 1, 0, 0]), .inLoop (cAt (bodyOf Try.f81) [1, 1, 0, 1, 0, 0, 1, 1, 0, 0, 1, 1, 1, 1, 0, 1, 0, 0]), .inBlock 2, .code (cAt (bodyOf Try.f81) [1, 1, 0, 1, 0, 0, 1, 1, 0, 0, 1, 1, 1, 1, 1]), .inBlock 1, .code (cAt (bodyOf Try.f81) [1, 1, 0, 1, 0, 0, 1, 1, 1]), .inLoop (cAt (bodyOf Try.f81) [1, 1, 0, 1, 0, 0]), .inBlock 0, .code (cAt (bodyOf Try.f81) [1, 1, 1])] (GQ1 g nb N P m F c s q pts k) [0, 1] 1 (GQ0 g nb N P (m + 1) (up F m (bif F m then (bif (m : Int) == 0 then true else decide ((c : Int) ≤ 2 * (d : Int) - 2 - 1)) else false))) =
    some ([.code (cAt (bodyOf Try.f81) [1, 1, 0, 1, 0, 0]), .inLoop (cAt (bodyOf Try.f81) [1, 1, 0, 1, 0, 0]), .inBlock 0, .code (cAt (bodyOf Try.f81) [1, 1, 1])], [((decide ((↑k : Int) < (↑c : Int))) = false),
  (AE q),
  Con Try.prog 126 1 [(0, ⟨false, 1, q, (fun i => [.p (.int .i64 (pts i))])⟩)] [.ar 1 0 0 q] [(0, ⟨false, 1, q, (fun i => [.p (.int .i64 (p1 i))])⟩)] (.tup []),
  (AE q),
  Con Try.prog 127 1 [(0, ⟨false, 1, q, (fun i => [.p (.int .i64 (p1 i))])⟩)] [.ar 1 0 0 q] [(0, ⟨false, 1, q, (fun i => [.p (.int .i64 (p2 i))])⟩)] (.ar 1 0 0 d),
  (((-9223372036854775808) : Int) ≤ (2 * (↑d : Int))),
  (((2 * (↑d : Int)) : Int) ≤ 9223372036854775807),
  (((-9223372036854775808) : Int) ≤ (2 * (↑d : Int) - 2)),
  (((2 * (↑d : Int) - 2) : Int) ≤ 9223372036854775807),
  ((0 : Nat) < 1),
  (AN 1),
  ((c : Nat) ≤ c),
  Con Try.prog 128 0 [] [.agg [.p (.int .i64 (↑N : Int)), .p (.seq true 4 nb (fun i => [.int .i64 ((g i).1), .int .i64 ((g i).2.1), .int .i64 ((g i).2.2.1), .int .i64 ((g i).2.2.2.1)]))], .p (.seq true 1 c (fun i => [.int .i64 (s i)]))] [] (.p (.bool true)),
  (true = true),
  (((-9223372036854775808) : Int) ≤ (2 * (↑d : Int) - 2 - 1)),
  (((2 * (↑d : Int) - 2 - 1) : Int) ≤ 9223372036854775807),
  ((0 : Int) ≤ (↑m : Int)),
  (((↑m : Int) : Int) < (↑P : Int)),
  ((m : Nat) < P),
  (AG (F m)),
  (AG (F m)),
  (AG (F m && !(↑m : Int) == 0)),
  (AG (F m && !(↑m : Int) == 0)),
  (AG (F m && !(↑m : Int) == 0)),
  (AG (F m)),
  (((F m) = true) → ((((↑m : Int) == 0) = false) → ((F m && !(↑m : Int) == 0) = true))),
  (AG (F m)),
  ((0 : Int) ≤ (↑m : Int)),
  (((↑m : Int) : Int) < (↑P : Int)),
  ((m : Nat) < P),
  ((false = true) → ((P : Nat) = 1)),
  (((-9223372036854775808) : Int) ≤ ((↑m : Int) + 1)),
  ((((↑m : Int) + 1) : Int) ≤ 9223372036854775807),
  (AI ((↑N : Int))),
  (AN nb),
  (AP nb (fun i => [.int .i64 ((g i).1), .int .i64 ((g i).2.1), .int .i64 ((g i).2.2.1), .int .i64 ((g i).2.2.2.1)])),
  (AN 0),
  (AN 0),
  (AN P),
  (AI ((↑P : Int))),
  ((((↑m : Int) + 1) : Int) = (↑(m + 1) : Int)),
  (AN 2),
  ((1 : Nat) ≤ 1),
  ((1 : Nat) ≤ 1),
  (AI ((↑N : Int))),
  (AN nb),
  (AP nb (fun i => [.int .i64 ((g i).1), .int .i64 ((g i).2.1), .int .i64 ((g i).2.2.1), .int .i64 ((g i).2.2.2.1)])),
  (AN 1),
  ((P : Nat) ≤ P),
  (∀ i : Nat, (((i : Nat) < P) → (All (cvtL false [(1, ⟨false, 1, P, (fun i_1 => (if (i_1 = m) then [.p (.bool (bif F m then bif (↑m : Int) == 0 then true else decide ((↑c : Int) ≤ 2 * (↑d : Int) - 2 - 1) else false))] else [.p (.bool (F i_1))]))⟩), (3, ⟨false, 1, q, (fun i_1 => [.p (.int .i64 (p2 i_1))])⟩), (0, ⟨true, 2, 1, (fun i_1 => [.p (.int .i64 (↑N : Int)), .p (.seq true 4 nb (fun i_2 => [.int .i64 ((g i_2).1), .int .i64 ((g i_2).2.1), .int .i64 ((g i_2).2.2.1), .int .i64 ((g i_2).2.2.2.1)]))])⟩), (2, ⟨false, 1, c, (fun i_1 => [.p (.int .i64 (s i_1))])⟩)] [0, 1] 1 (if (i = m) then [.p (.bool (bif F m then bif (↑m : Int) == 0 then true else decide ((↑c : Int) ≤ 2 * (↑d : Int) - 2 - 1) else false))] else [.p (.bool (F i))])).2 ∧ (((cvtL false [(1, ⟨false, 1, P, (fun i_1 => (if (i_1 = m) then [.p (.bool (bif F m then bif (↑m : Int) == 0 then true else decide ((↑c : Int) ≤ 2 * (↑d : Int) - 2 - 1) else false))] else [.p (.bool (F i_1))]))⟩), (3, ⟨false, 1, q, (fun i_1 => [.p (.int .i64 (p2 i_1))])⟩), (0, ⟨true, 2, 1, (fun i_1 => [.p (.int .i64 (↑N : Int)), .p (.seq true 4 nb (fun i_2 => [.int .i64 ((g i_2).1), .int .i64 ((g i_2).2.1), .int .i64 ((g i_2).2.2.1), .int .i64 ((g i_2).2.2.2.1)]))])⟩), (2, ⟨false, 1, c, (fun i_1 => [.p (.int .i64 (s i_1))])⟩)] [0, 1] 1 (if (i = m) then [.p (.bool (bif F m then bif (↑m : Int) == 0 then true else decide ((↑c : Int) ≤ 2 * (↑d : Int) - 2 - 1) else false))] else [.p (.bool (F i))])).1 : List AV) = [.p (.bool (up F m (bif F m then bif (↑m : Int) == 0 then true else decide ((↑c : Int) ≤ 2 * (↑d : Int) - 2 - 1) else false) i))]))))]) := by kernel_rfl
theorem gQf (g : Nat → T_GainBar) (nb N P m : Nat) (F : Nat → Bool) (c : Nat) (s : Nat → Int) (q : Nat) (pts : Nat → Int) (k d : Nat) (p1 p2 : Nat → Int) :
    pieceOb Try.prog 0 [.reg [oT], .dec false, .reg [oT, ⟨true, (some ⟨[3], [], [], 1, [(0, iOb q p1)], .tup []⟩), none⟩], .reg [oT, ⟨true, (some ⟨[3], [], [], 1, [(0, iOb q p2)], .ar 1 0 0 d⟩), none⟩, oT, oT, oT, oT], .reg [oT, oT, ⟨true, (some ⟨[], [], [], 1, [], .p (.bool false)⟩), none⟩], .dec false, .reg [oT, oT, oT, oT, oT, oT, oT, oT, oT, oT, oT, oT, oT, oT, oT, oT, oT, oT], .reg [oT, oT], .head] [.code (cAt (bodyOf Try.f81) [1, 1, 0, 1, 0, 0, 1, 1, 0, 0, 1, 1, 1, 1, 0, 1, 0, 0]), .inLoop (cAt (bodyOf Try.f81) [1, 1, 0, 1, 0, 0, 1, 1, 0, 0, 1, 1, 1, 1, 0, 1, 0, 0]), .inBlock 2, .code (cAt (bodyOf Try.f81) [1, 1, 0, 1, 0, 0, 1, 1, 0, 0, 1, 1, 1, 1, 1]), .inBlock 1, .code (cAt (bodyOf Try.f81) [1, 1, 0, 1, 0, 0, 1, 1, 1]), .inLoop (cAt (bodyOf Try.f81) [1, 1, 0, 1, 0, 0]), .inBlock 0, .code (cAt (bodyOf Try.f81) [1, 1, 1])] (GQ1 g nb N P m F c s q pts k) [0, 1] 1 (GQ0 g nb N P (m + 1) (up F m (bif F m then (bif (m : Int) == 0 then true else decide ((c : Int) ≤ 2 * (d : Int) - 2)) else false))) =
    some ([.code (cAt (bodyOf Try.f81) [1, 1, 0, 1, 0, 0]), .inLoop (cAt (bodyOf Try.f81) [1, 1, 0, 1, 0, 0]), .inBlock 0, .code (cAt (bodyOf Try.f81) [1, 1, 1])], [((decide ((↑k : Int) < (↑c : Int))) = false),
  (AE q),
  Con Try.prog 126 1 [(0, ⟨false, 1, q, (fun i => [.p (.int .i64 (pts i))])⟩)] [.ar 1 0 0 q] [(0, ⟨false, 1, q, (fun i => [.p (.int .i64 (p1 i))])⟩)] (.tup []),
  (AE q),
  Con Try.prog 127 1 [(0, ⟨false, 1, q, (fun i => [.p (.int .i64 (p1 i))])⟩)] [.ar 1 0 0 q] [(0, ⟨false, 1, q, (fun i => [.p (.int .i64 (p2 i))])⟩)] (.ar 1 0 0 d),
  (((-9223372036854775808) : Int) ≤ (2 * (↑d : Int))),
  (((2 * (↑d : Int)) : Int) ≤ 9223372036854775807),
  (((-9223372036854775808) : Int) ≤ (2 * (↑d : Int) - 2)),
  (((2 * (↑d : Int) - 2) : Int) ≤ 9223372036854775807),
  ((0 : Nat) < 1),
  (AN 1),
  ((c : Nat) ≤ c),
  Con Try.prog 128 0 [] [.agg [.p (.int .i64 (↑N : Int)), .p (.seq true 4 nb (fun i => [.int .i64 ((g i).1), .int .i64 ((g i).2.1), .int .i64 ((g i).2.2.1), .int .i64 ((g i).2.2.2.1)]))], .p (.seq true 1 c (fun i => [.int .i64 (s i)]))] [] (.p (.bool false)),
  (false = false),
  ((0 : Int) ≤ (↑m : Int)),
  (((↑m : Int) : Int) < (↑P : Int)),
  ((m : Nat) < P),
  (AG (F m)),
  (AG (F m)),
  (AG (F m && !(↑m : Int) == 0)),
  (AG (F m && !(↑m : Int) == 0)),
  (AG (F m && !(↑m : Int) == 0)),
  (AG (F m)),
  (((F m) = true) → ((((↑m : Int) == 0) = false) → ((F m && !(↑m : Int) == 0) = true))),
  (AG (F m)),
  ((0 : Int) ≤ (↑m : Int)),
  (((↑m : Int) : Int) < (↑P : Int)),
  ((m : Nat) < P),
  ((false = true) → ((P : Nat) = 1)),
  (((-9223372036854775808) : Int) ≤ ((↑m : Int) + 1)),
  ((((↑m : Int) + 1) : Int) ≤ 9223372036854775807),
  (AI ((↑N : Int))),
  (AN nb),
  (AP nb (fun i => [.int .i64 ((g i).1), .int .i64 ((g i).2.1), .int .i64 ((g i).2.2.1), .int .i64 ((g i).2.2.2.1)])),
  (AN 0),
  (AN 0),
  (AN P),
  (AI ((↑P : Int))),
  ((((↑m : Int) + 1) : Int) = (↑(m + 1) : Int)),
  (AN 2),
  ((1 : Nat) ≤ 1),
  ((1 : Nat) ≤ 1),
  (AI ((↑N : Int))),
  (AN nb),
  (AP nb (fun i => [.int .i64 ((g i).1), .int .i64 ((g i).2.1), .int .i64 ((g i).2.2.1), .int .i64 ((g i).2.2.2.1)])),
  (AN 1),
  ((P : Nat) ≤ P),
  (∀ i : Nat, (((i : Nat) < P) → (All (cvtL false [(1, ⟨false, 1, P, (fun i_1 => (if (i_1 = m) then [.p (.bool (bif F m then bif (↑m : Int) == 0 then true else decide ((↑c : Int) ≤ 2 * (↑d : Int) - 2) else false))] else [.p (.bool (F i_1))]))⟩), (3, ⟨false, 1, q, (fun i_1 => [.p (.int .i64 (p2 i_1))])⟩), (0, ⟨true, 2, 1, (fun i_1 => [.p (.int .i64 (↑N : Int)), .p (.seq true 4 nb (fun i_2 => [.int .i64 ((g i_2).1), .int .i64 ((g i_2).2.1), .int .i64 ((g i_2).2.2.1), .int .i64 ((g i_2).2.2.2.1)]))])⟩), (2, ⟨false, 1, c, (fun i_1 => [.p (.int .i64 (s i_1))])⟩)] [0, 1] 1 (if (i = m) then [.p (.bool (bif F m then bif (↑m : Int) == 0 then true else decide ((↑c : Int) ≤ 2 * (↑d : Int) - 2) else false))] else [.p (.bool (F i))])).2 ∧ (((cvtL false [(1, ⟨false, 1, P, (fun i_1 => (if (i_1 = m) then [.p (.bool (bif F m then bif (↑m : Int) == 0 then true else decide ((↑c : Int) ≤ 2 * (↑d : Int) - 2) else false))] else [.p (.bool (F i_1))]))⟩), (3, ⟨false, 1, q, (fun i_1 => [.p (.int .i64 (p2 i_1))])⟩), (0, ⟨true, 2, 1, (fun i_1 => [.p (.int .i64 (↑N : Int)), .p (.seq true 4 nb (fun i_2 => [.int .i64 ((g i_2).1), .int .i64 ((g i_2).2.1), .int .i64 ((g i_2).2.2.1), .int .i64 ((g i_2).2.2.2.1)]))])⟩), (2, ⟨false, 1, c, (fun i_1 => [.p (.int .i64 (s i_1))])⟩)] [0, 1] 1 (if (i = m) then [.p (.bool (bif F m then bif (↑m : Int) == 0 then true else decide ((↑c : Int) ≤ 2 * (↑d : Int) - 2) else false))] else [.p (.bool (F i))])).1 : List AV) = [.p (.bool (up F m (bif F m then bif (↑m : Int) == 0 then true else decide ((↑c : Int) ≤ 2 * (↑d : Int) - 2) else false) i))]))))]) := by kernel_rfl
theorem gQe (g : Nat → T_GainBar) (nb N P m : Nat) (F F2 : Nat → Bool) :
    pathOb Try.prog Try.f81 0 [.reg [oT], .dec false, .reg [oT, oT]] [.code (cAt (bodyOf Try.f81) [1, 1, 0, 1, 0, 0]), .inLoop (cAt (bodyOf Try.f81) [1, 1, 0, 1, 0, 0]), .inBlock 0, .code (cAt (bodyOf Try.f81) [1, 1, 1])] (GQ0 g nb N P m F) [1] 1 [(0, bOb P F2)] (.ar 1 0 0 P) =
    some [((decide ((↑m : Int) < (↑P : Int))) = false),
  (AN 0),
  (AN P),
  (AN 1),
  ((P : Nat) ≤ P),
  (∀ i : Nat, (((i : Nat) < P) → (All [] ∧ (([.p (.bool (F i))] : List AV) = [.p (.bool (F2 i))])))),
  (AE P)] := by kernel_rfl
theorem gIn (v : T_GainGraph) :
    pathOb Try.prog Try.f28 0 [.reg [oT, oT], .reg [oT, ⟨true, (some ⟨[], [], [], 1, [], .p (.bool false)⟩), none⟩, oT], .dec true, .reg [oT]] [.code (bodyOf Try.f28)] (start Try.f28 [] 0 [gnA v.2.1.2 v.2.1.1 v.1]) [] 1 [] (.p (.bool false)) =
    some [((0 : Nat) < 1),
  Con Try.prog 80 0 [] [.agg [.p (.int .i64 v.1), .p (.seq true 4 v.2.1.1 (fun i => [.int .i64 ((v.2.1.2 i).1), .int .i64 ((v.2.1.2 i).2.1), .int .i64 ((v.2.1.2 i).2.2.1), .int .i64 ((v.2.1.2 i).2.2.2.1)]))]] [] (.p (.bool false)),
  ((!false) = true),
  (false = false)] := by kernel_rfl
theorem gIy (v : T_GainGraph) (P : Nat) (F : Nat → Bool) :
    pathOb Try.prog Try.f28 0 [.reg [oT, oT], .reg [oT, ⟨true, (some ⟨[], [], [], 1, [], .p (.bool true)⟩), none⟩, oT], .dec false, .reg [oT, ⟨true, (some ⟨[], [], [], 1, [(0, bOb P F)], .ar 1 0 0 P⟩), none⟩, oT], .reg [oT, oT, oT, oT, oT, oT, oT]] [.code (bodyOf Try.f28)] (start Try.f28 [] 0 [gnA v.2.1.2 v.2.1.1 v.1]) [] 1 [] (.p (.bool (F (P - 1)))) =
    some [((0 : Nat) < 1),
  Con Try.prog 80 0 [] [.agg [.p (.int .i64 v.1), .p (.seq true 4 v.2.1.1 (fun i => [.int .i64 ((v.2.1.2 i).1), .int .i64 ((v.2.1.2 i).2.1), .int .i64 ((v.2.1.2 i).2.2.1), .int .i64 ((v.2.1.2 i).2.2.2.1)]))]] [] (.p (.bool true)),
  ((!true) = false),
  ((0 : Nat) < 1),
  Con Try.prog 81 0 [] [.agg [.p (.int .i64 v.1), .p (.seq true 4 v.2.1.1 (fun i => [.int .i64 ((v.2.1.2 i).1), .int .i64 ((v.2.1.2 i).2.1), .int .i64 ((v.2.1.2 i).2.2.1), .int .i64 ((v.2.1.2 i).2.2.2.1)]))]] [(0, ⟨false, 1, P, (fun i => [.p (.bool (F i))])⟩)] (.ar 1 0 0 P),
  (((-9223372036854775808) : Int) ≤ ((↑P : Int) - 1)),
  ((((↑P : Int) - 1) : Int) ≤ 9223372036854775807),
  ((0 : Int) ≤ ((↑P : Int) - 1)),
  ((((↑P : Int) - 1) : Int) < (↑P : Int)),
  (((((↑P : Int) - 1).toNat) : Nat) < P),
  ((F ((↑P : Int) - 1).toNat) = (F (P - 1)))] := by kernel_rfl
theorem gTn (v : T_GainGraph) :
    pathOb Try.prog Try.f26 0 [.reg [oT, oT], .reg [oT, ⟨true, (some ⟨[], [], [], 1, [], .p (.bool false)⟩), none⟩, oT], .dec true, .reg [oT]] [.code (bodyOf Try.f26)] (start Try.f26 [] 0 [gnA v.2.1.2 v.2.1.1 v.1]) [] 1 [] (.p (.bool false)) =
    some [((0 : Nat) < 1),
  Con Try.prog 75 0 [] [.agg [.p (.int .i64 v.1), .p (.seq true 4 v.2.1.1 (fun i => [.int .i64 ((v.2.1.2 i).1), .int .i64 ((v.2.1.2 i).2.1), .int .i64 ((v.2.1.2 i).2.2.1), .int .i64 ((v.2.1.2 i).2.2.2.1)]))]] [] (.p (.bool false)),
  ((!false) = true),
  (false = false)] := by kernel_rfl
theorem gTz (g : Nat → T_GainBar) (nb N : Nat) :
    pieceOb Try.prog 0 [.reg [oT, oT], .reg [oT, ⟨true, (some ⟨[], [], [], 1, [], .p (.bool true)⟩), none⟩, oT], .dec false, .reg [oT], .head] [.code (bodyOf Try.f26)] (start Try.f26 [] 0 [gnA g nb N]) [0] 1 (GT0 g nb N 1) =
    some ([.code (cAt (bodyOf Try.f26) [1, 1, 0, 1, 0, 0]), .inLoop (cAt (bodyOf Try.f26) [1, 1, 0, 1, 0, 0]), .inBlock 0, .code (cAt (bodyOf Try.f26) [1, 1, 1])], [((0 : Nat) < 1),
  Con Try.prog 75 0 [] [.agg [.p (.int .i64 (↑N : Int)), .p (.seq true 4 nb (fun i => [.int .i64 ((g i).1), .int .i64 ((g i).2.1), .int .i64 ((g i).2.2.1), .int .i64 ((g i).2.2.2.1)]))]] [] (.p (.bool true)),
  ((!true) = false),
  (AI ((↑N : Int))),
  (AN nb),
  (AP nb (fun i => [.int .i64 ((g i).1), .int .i64 ((g i).2.1), .int .i64 ((g i).2.2.1), .int .i64 ((g i).2.2.2.1)])),
  (AN 0),
  ((1 : Int) = (↑1 : Int)),
  ((([AV.p (PV.int IntKind.i64 (↑N : Int)), gnL g nb].length) : Nat) = 2),
  ((1 : Nat) ≤ 1),
  ((1 : Nat) ≤ 1),
  (AI ((↑N : Int))),
  (AN nb),
  (AP nb (fun i => [.int .i64 ((g i).1), .int .i64 ((g i).2.1), .int .i64 ((g i).2.2.1), .int .i64 ((g i).2.2.2.1)]))]) := by kernel_rfl
theorem gTt (g : Nat → T_GainBar) (nb N m c d : Nat) (s : Nat → Int) :
    pieceOb Try.prog 0 [.reg [oT, oT, oT, oT, oT, oT], .dec true, .reg [oT, oT, oT, oT, ⟨true, (some ⟨[], [], [], 1, [(0, iOb c s)], .ar 1 0 0 c⟩), none⟩, oT], .reg [oT, oT, ⟨true, (some ⟨[], [], [], 1, [], .p (.int .i64 d)⟩), none⟩, oT, oT, oT], .reg [oT, oT, ⟨true, (some ⟨[], [], [], 1, [], .p (.bool true)⟩), none⟩], .dec true, .reg [oT, oT, oT], .reg [oT, oT, oT, oT], .dec false, .reg [oT, oT, oT], .head] [.code (cAt (bodyOf Try.f26) [1, 1, 0, 1, 0, 0]), .inLoop (cAt (bodyOf Try.f26) [1, 1, 0, 1, 0, 0]), .inBlock 0, .code (cAt (bodyOf Try.f26) [1, 1, 1])] (GT0 g nb N m) [0] 1 (GT0 g nb N (m + 1)) =
    some ([.code (cAt (bodyOf Try.f26) [1, 1, 0, 1, 0, 0]), .inLoop (cAt (bodyOf Try.f26) [1, 1, 0, 1, 0, 0]), .inBlock 0, .code (cAt (bodyOf Try.f26) [1, 1, 1])], [((0 : Nat) < 1),
  ((0 : Int) ≤ (↑nb : Int)),
  ((decide ((↑m : Int) < shlI IntKind.i64 1 (↑nb : Int))) = true),
  ((0 : Nat) < 1),
  Con Try.prog 76 0 [] [.p (.int .i64 (↑nb : Int)), .p (.int .i64 (↑m : Int))] [(0, ⟨false, 1, c, (fun i => [.p (.int .i64 (s i))])⟩)] (.ar 1 0 0 c),
  ((0 : Nat) < 1),
  (AN 1),
  ((c : Nat) ≤ c),
  Con Try.prog 77 0 [] [.agg [.p (.int .i64 (↑N : Int)), .p (.seq true 4 nb (fun i => [.int .i64 ((g i).1), .int .i64 ((g i).2.1), .int .i64 ((g i).2.2.1), .int .i64 ((g i).2.2.2.1)]))], .p (.seq true 1 c (fun i => [.int .i64 (s i)]))] [] (.p (.int .i64 (↑d : Int))),
  (((-9223372036854775808) : Int) ≤ (2 * (↑d : Int))),
  (((2 * (↑d : Int)) : Int) ≤ 9223372036854775807),
  (((-9223372036854775808) : Int) ≤ (2 * (↑d : Int) - 2)),
  (((2 * (↑d : Int) - 2) : Int) ≤ 9223372036854775807),
  ((0 : Nat) < 1),
  (AN 1),
  ((c : Nat) ≤ c),
  Con Try.prog 78 0 [] [.agg [.p (.int .i64 (↑N : Int)), .p (.seq true 4 nb (fun i => [.int .i64 ((g i).1), .int .i64 ((g i).2.1), .int .i64 ((g i).2.2.1), .int .i64 ((g i).2.2.2.1)]))], .p (.seq true 1 c (fun i => [.int .i64 (s i)]))] [] (.p (.bool true)),
  (true = true),
  (((-9223372036854775808) : Int) ≤ (2 * (↑d : Int) - 2 - 1)),
  (((2 * (↑d : Int) - 2 - 1) : Int) ≤ 9223372036854775807),
  ((decide ((↑c : Int) > 2 * (↑d : Int) - 2 - 1)) = false),
  (((-9223372036854775808) : Int) ≤ ((↑m : Int) + 1)),
  ((((↑m : Int) + 1) : Int) ≤ 9223372036854775807),
  (AI ((↑N : Int))),
  (AN nb),
  (AP nb (fun i => [.int .i64 ((g i).1), .int .i64 ((g i).2.1), .int .i64 ((g i).2.2.1), .int .i64 ((g i).2.2.2.1)])),
  (AN 0),
  ((((↑m : Int) + 1) : Int) = (↑(m + 1) : Int)),
  (AN 2),
  ((1 : Nat) ≤ 1),
  ((1 : Nat) ≤ 1),
  (AI ((↑N : Int))),
  (AN nb),
  (AP nb (fun i => [.int .i64 ((g i).1), .int .i64 ((g i).2.1), .int .i64 ((g i).2.2.1), .int .i64 ((g i).2.2.2.1)]))]) := by kernel_rfl
theorem gTx (g : Nat → T_GainBar) (nb N m c d : Nat) (s : Nat → Int) :
    pathOb Try.prog Try.f26 0 [.reg [oT, oT, oT, oT, oT, oT], .dec true, .reg [oT, oT, oT, oT, ⟨true, (some ⟨[], [], [], 1, [(0, iOb c s)], .ar 1 0 0 c⟩), none⟩, oT], .reg [oT, oT, ⟨true, (some ⟨[], [], [], 1, [], .p (.int .i64 d)⟩), none⟩, oT, oT, oT], .reg [oT, oT, ⟨true, (some ⟨[], [], [], 1, [], .p (.bool true)⟩), none⟩], .dec true, .reg [oT, oT, oT], .reg [oT, oT, oT, oT], .dec true, .reg [oT]] [.code (cAt (bodyOf Try.f26) [1, 1, 0, 1, 0, 0]), .inLoop (cAt (bodyOf Try.f26) [1, 1, 0, 1, 0, 0]), .inBlock 0, .code (cAt (bodyOf Try.f26) [1, 1, 1])] (GT0 g nb N m) [] 1 [] (.p (.bool false)) =
    some [((0 : Nat) < 1),
  ((0 : Int) ≤ (↑nb : Int)),
  ((decide ((↑m : Int) < shlI IntKind.i64 1 (↑nb : Int))) = true),
  ((0 : Nat) < 1),
  Con Try.prog 76 0 [] [.p (.int .i64 (↑nb : Int)), .p (.int .i64 (↑m : Int))] [(0, ⟨false, 1, c, (fun i => [.p (.int .i64 (s i))])⟩)] (.ar 1 0 0 c),
  ((0 : Nat) < 1),
  (AN 1),
  ((c : Nat) ≤ c),
  Con Try.prog 77 0 [] [.agg [.p (.int .i64 (↑N : Int)), .p (.seq true 4 nb (fun i => [.int .i64 ((g i).1), .int .i64 ((g i).2.1), .int .i64 ((g i).2.2.1), .int .i64 ((g i).2.2.2.1)]))], .p (.seq true 1 c (fun i => [.int .i64 (s i)]))] [] (.p (.int .i64 (↑d : Int))),
  (((-9223372036854775808) : Int) ≤ (2 * (↑d : Int))),
  (((2 * (↑d : Int)) : Int) ≤ 9223372036854775807),
  (((-9223372036854775808) : Int) ≤ (2 * (↑d : Int) - 2)),
  (((2 * (↑d : Int) - 2) : Int) ≤ 9223372036854775807),
  ((0 : Nat) < 1),
  (AN 1),
  ((c : Nat) ≤ c),
  Con Try.prog 78 0 [] [.agg [.p (.int .i64 (↑N : Int)), .p (.seq true 4 nb (fun i => [.int .i64 ((g i).1), .int .i64 ((g i).2.1), .int .i64 ((g i).2.2.1), .int .i64 ((g i).2.2.2.1)]))], .p (.seq true 1 c (fun i => [.int .i64 (s i)]))] [] (.p (.bool true)),
  (true = true),
  (((-9223372036854775808) : Int) ≤ (2 * (↑d : Int) - 2 - 1)),
  (((2 * (↑d : Int) - 2 - 1) : Int) ≤ 9223372036854775807),
  ((decide ((↑c : Int) > 2 * (↑d : Int) - 2 - 1)) = true),
  (false = false)] := by kernel_rfl
theorem gTf (g : Nat → T_GainBar) (nb N m c d : Nat) (s : Nat → Int) :
    pieceOb Try.prog 0 [.reg [oT, oT, oT, oT, oT, oT], .dec true, .reg [oT, oT, oT, oT, ⟨true, (some ⟨[], [], [], 1, [(0, iOb c s)], .ar 1 0 0 c⟩), none⟩, oT], .reg [oT, oT, ⟨true, (some ⟨[], [], [], 1, [], .p (.int .i64 d)⟩), none⟩, oT, oT, oT], .reg [oT, oT, ⟨true, (some ⟨[], [], [], 1, [], .p (.bool false)⟩), none⟩], .dec false, .reg [oT, oT, oT, oT], .dec false, .reg [oT, oT, oT], .head] [.code (cAt (bodyOf Try.f26) [1, 1, 0, 1, 0, 0]), .inLoop (cAt (bodyOf Try.f26) [1, 1, 0, 1, 0, 0]), .inBlock 0, .code (cAt (bodyOf Try.f26) [1, 1, 1])] (GT0 g nb N m) [0] 1 (GT0 g nb N (m + 1)) =
    some ([.code (cAt (bodyOf Try.f26) [1, 1, 0, 1, 0, 0]), .inLoop (cAt (bodyOf Try.f26) [1, 1, 0, 1, 0, 0]), .inBlock 0, .code (cAt (bodyOf Try.f26) [1, 1, 1])], [((0 : Nat) < 1),
  ((0 : Int) ≤ (↑nb : Int)),
  ((decide ((↑m : Int) < shlI IntKind.i64 1 (↑nb : Int))) = true),
  ((0 : Nat) < 1),
  Con Try.prog 76 0 [] [.p (.int .i64 (↑nb : Int)), .p (.int .i64 (↑m : Int))] [(0, ⟨false, 1, c, (fun i => [.p (.int .i64 (s i))])⟩)] (.ar 1 0 0 c),
  ((0 : Nat) < 1),
  (AN 1),
  ((c : Nat) ≤ c),
  Con Try.prog 77 0 [] [.agg [.p (.int .i64 (↑N : Int)), .p (.seq true 4 nb (fun i => [.int .i64 ((g i).1), .int .i64 ((g i).2.1), .int .i64 ((g i).2.2.1), .int .i64 ((g i).2.2.2.1)]))], .p (.seq true 1 c (fun i => [.int .i64 (s i)]))] [] (.p (.int .i64 (↑d : Int))),
  (((-9223372036854775808) : Int) ≤ (2 * (↑d : Int))),
  (((2 * (↑d : Int)) : Int) ≤ 9223372036854775807),
  (((-9223372036854775808) : Int) ≤ (2 * (↑d : Int) - 2)),
  (((2 * (↑d : Int) - 2) : Int) ≤ 9223372036854775807),
  ((0 : Nat) < 1),
  (AN 1),
  ((c : Nat) ≤ c),
  Con Try.prog 78 0 [] [.agg [.p (.int .i64 (↑N : Int)), .p (.seq true 4 nb (fun i => [.int .i64 ((g i).1), .int .i64 ((g i).2.1), .int .i64 ((g i).2.2.1), .int .i64 ((g i).2.2.2.1)]))], .p (.seq true 1 c (fun i => [.int .i64 (s i)]))] [] (.p (.bool false)),
  (false = false),
  ((decide ((↑c : Int) > 2 * (↑d : Int) - 2)) = false),
  (((-9223372036854775808) : Int) ≤ ((↑m : Int) + 1)),
  ((((↑m : Int) + 1) : Int) ≤ 9223372036854775807),
  (AI ((↑N : Int))),
  (AN nb),
  (AP nb (fun i => [.int .i64 ((g i).1), .int .i64 ((g i).2.1), .int .i64 ((g i).2.2.1), .int .i64 ((g i).2.2.2.1)])),
  (AN 0),
  ((((↑m : Int) + 1) : Int) = (↑(m + 1) : Int)),
  (AN 2),
  ((1 : Nat) ≤ 1),
  ((1 : Nat) ≤ 1),
  (AI ((↑N : Int))),
  (AN nb),
  (AP nb (fun i => [.int .i64 ((g i).1), .int .i64 ((g i).2.1), .int .i64 ((g i).2.2.1), .int .i64 ((g i).2.2.2.1)]))]) := by kernel_rfl
theorem gTy (g : Nat → T_GainBar) (nb N m c d : Nat) (s : Nat → Int) :
    pathOb Try.prog Try.f26 0 [.reg [oT, oT, oT, oT, oT, oT], .dec true, .reg [oT, oT, oT, oT, ⟨true, (some ⟨[], [], [], 1, [(0, iOb c s)], .ar 1 0 0 c⟩), none⟩, oT], .reg [oT, oT, ⟨true, (some ⟨[], [], [], 1, [], .p (.int .i64 d)⟩), none⟩, oT, oT, oT], .reg [oT, oT, ⟨true, (some ⟨[], [], [], 1, [], .p (.bool false)⟩), none⟩], .dec false, .reg [oT, oT, oT, oT], .dec true, .reg [oT]] [.code (cAt (bodyOf Try.f26) [1, 1, 0, 1, 0, 0]), .inLoop (cAt (bodyOf Try.f26) [1, 1, 0, 1, 0, 0]), .inBlock 0, .code (cAt (bodyOf Try.f26) [1, 1, 1])] (GT0 g nb N m) [] 1 [] (.p (.bool false)) =
    some [((0 : Nat) < 1),
  ((0 : Int) ≤ (↑nb : Int)),
  ((decide ((↑m : Int) < shlI IntKind.i64 1 (↑nb : Int))) = true),
  ((0 : Nat) < 1),
  Con Try.prog 76 0 [] [.p (.int .i64 (↑nb : Int)), .p (.int .i64 (↑m : Int))] [(0, ⟨false, 1, c, (fun i => [.p (.int .i64 (s i))])⟩)] (.ar 1 0 0 c),
  ((0 : Nat) < 1),
  (AN 1),
  ((c : Nat) ≤ c),
  Con Try.prog 77 0 [] [.agg [.p (.int .i64 (↑N : Int)), .p (.seq true 4 nb (fun i => [.int .i64 ((g i).1), .int .i64 ((g i).2.1), .int .i64 ((g i).2.2.1), .int .i64 ((g i).2.2.2.1)]))], .p (.seq true 1 c (fun i => [.int .i64 (s i)]))] [] (.p (.int .i64 (↑d : Int))),
  (((-9223372036854775808) : Int) ≤ (2 * (↑d : Int))),
  (((2 * (↑d : Int)) : Int) ≤ 9223372036854775807),
  (((-9223372036854775808) : Int) ≤ (2 * (↑d : Int) - 2)),
  (((2 * (↑d : Int) - 2) : Int) ≤ 9223372036854775807),
  ((0 : Nat) < 1),
  (AN 1),
  ((c : Nat) ≤ c),
  Con Try.prog 78 0 [] [.agg [.p (.int .i64 (↑N : Int)), .p (.seq true 4 nb (fun i => [.int .i64 ((g i).1), .int .i64 ((g i).2.1), .int .i64 ((g i).2.2.1), .int .i64 ((g i).2.2.2.1)]))], .p (.seq true 1 c (fun i => [.int .i64 (s i)]))] [] (.p (.bool false)),
  (false = false),
  ((decide ((↑c : Int) > 2 * (↑d : Int) - 2)) = true),
  (false = false)] := by kernel_rfl
theorem gTe (g : Nat → T_GainBar) (nb N m : Nat) :
    pathOb Try.prog Try.f26 0 [.reg [oT, oT, oT, oT, oT, oT], .dec false, .reg [oT]] [.code (cAt (bodyOf Try.f26) [1, 1, 0, 1, 0, 0]), .inLoop (cAt (bodyOf Try.f26) [1, 1, 0, 1, 0, 0]), .inBlock 0, .code (cAt (bodyOf Try.f26) [1, 1, 1])] (GT0 g nb N m) [] 1 [] (.p (.bool true)) =
    some [((0 : Nat) < 1),
  ((0 : Int) ≤ (↑nb : Int)),
  ((decide ((↑m : Int) < shlI IntKind.i64 1 (↑nb : Int))) = false),
  (true = true)] := by kernel_rfl
end Go.Proofs.Ytffnfeefjdmifaa.Mach
namespace Go.Proofs.Ytffnfeefjdmifaa.Sub
set_option linter.unusedVariables false
set_option linter.unusedSimpArgs false
def sel {α : Type} (g : Nat → α) (B : Nat → Bool) : Nat → List α
  | 0 => []
  | n + 1 => if B n = true then sel g B n ++ [g n] else sel g B n
def cntB (B : Nat → Bool) : Nat → Nat
  | 0 => 0
  | n + 1 => if B n = true then cntB B n + 1 else cntB B n
theorem sel_len {α : Type} (g : Nat → α) (B : Nat → Bool) : ∀ n, (sel g B n).length = cntB B n
  | 0 => rfl
  | n + 1 => by
    simp only [sel, cntB]
    split <;> simp [sel_len g B n]
theorem sel_congr {α : Type} {g h : Nat → α} {B C : Nat → Bool} : ∀ n, (∀ i, i < n → B i = C i) → (∀ i, i < n → g i = h i) → sel g B n = sel h C n
  | 0, _, _ => rfl
  | n + 1, h1, h2 => by
    simp only [sel]
    rw [sel_congr n (fun i hi => h1 i (by omega)) (fun i hi => h2 i (by omega)), h1 n (by omega), h2 n (by omega)]
theorem cntB_congr {B C : Nat → Bool} : ∀ n, (∀ i, i < n → B i = C i) → cntB B n = cntB C n
  | 0, _ => rfl
  | n + 1, h1 => by
    simp only [cntB]
    rw [cntB_congr n (fun i hi => h1 i (by omega)), h1 n (by omega)]
theorem sel_mem {α : Type} (g : Nat → α) (B : Nat → Bool) (x : α) : ∀ n, x ∈ sel g B n ↔ ∃ i, i < n ∧ B i = true ∧ g i = x
  | 0 => by simp [sel]
  | n + 1 => by
    have ih := sel_mem g B x n
    simp only [sel]
    split
    · rename_i h
      simp only [List.mem_append, List.mem_cons, List.not_mem_nil, or_false, ih]
      constructor
      · rintro (⟨i, h1, h2⟩ | h1)
        · exact ⟨i, by omega, h2⟩
        · exact ⟨n, by omega, h, h1.symm⟩
      · rintro ⟨i, h1, h2, h3⟩
        by_cases e : i = n
        · subst e; exact .inr h3.symm
        · exact .inl ⟨i, by omega, h2, h3⟩
    · rename_i h
      rw [ih]
      constructor
      · rintro ⟨i, h1, h2⟩; exact ⟨i, by omega, h2⟩
      · rintro ⟨i, h1, h2, h3⟩
        by_cases e : i = n
        · subst e; exact absurd h2 h
        · exact ⟨i, by omega, h2, h3⟩
def Row {α : Type} (g : Nat → α) (M : Nat → Bool) (n : Nat) (h : Nat → α) : Prop := ∀ i, i < cntB M n → (sel g M n)[i]? = some (h i)
def Sub (K M : Nat → Bool) : Prop := ∀ i, K i = true → M i = true
theorem Row.prev {α : Type} {g h : Nat → α} {M : Nat → Bool} {n : Nat} (hr : Row g M (n + 1) h) : Row g M n h := by
  intro i hi
  have h1 := hr i (by simp only [cntB]; split <;> omega)
  simp only [sel] at h1
  split at h1
  · rw [List.getElem?_append_left (by rw [sel_len]; exact hi)] at h1; exact h1
  · exact h1
theorem Row.last {α : Type} {g h : Nat → α} {M : Nat → Bool} {n : Nat} (hr : Row g M (n + 1) h) (hM : M n = true) : h (cntB M n) = g n := by
  have h1 := hr (cntB M n) (by simp [cntB, hM])
  simp only [sel, hM, if_true] at h1
  rw [List.getElem?_append_right (by rw [sel_len]; exact Nat.le_refl _), sel_len, Nat.sub_self] at h1
  simpa using h1.symm
theorem Row.down {α : Type} {g h : Nat → α} {M : Nat → Bool} : ∀ {n : Nat}, Row g M n h → ∀ B : Nat → Bool, ∃ K, Sub K M ∧ sel h B (cntB M n) = sel g K n
  | 0, _, B => ⟨fun _ => false, fun i h => by simp at h, rfl⟩
  | n + 1, hr, B => by
    obtain ⟨K, h1, h2⟩ := Row.down hr.prev B
    cases hM : M n with
    | false =>
      refine ⟨fun i => if i = n then false else K i, fun i h => ?_, ?_⟩
      · by_cases e : i = n
        · simp [e] at h
        · simp [e] at h; exact h1 i h
      · simp only [cntB, hM, Bool.false_eq_true, if_false, sel, if_true]
        rw [h2]
        exact sel_congr n (fun i hi => by simp [show i ≠ n by omega]) (fun i hi => rfl)
    | true =>
      refine ⟨fun i => if i = n then B (cntB M n) else K i, fun i h => ?_, ?_⟩
      · by_cases e : i = n
        · subst e; exact hM
        · simp [e] at h; exact h1 i h
      · have hl := hr.last hM
        have he : sel g (fun i => if i = n then B (cntB M n) else K i) n = sel g K n := sel_congr n (fun i hi => by simp [show i ≠ n by omega]) (fun i hi => rfl)
        simp only [cntB, hM, if_true, sel]
        rw [h2, hl, he]
theorem Row.up {α : Type} {g h : Nat → α} {M : Nat → Bool} : ∀ {n : Nat}, Row g M n h → ∀ K : Nat → Bool, Sub K M → ∃ B, sel h B (cntB M n) = sel g K n
  | 0, _, K, _ => ⟨fun _ => false, rfl⟩
  | n + 1, hr, K, hK => by
    obtain ⟨B, h2⟩ := Row.up hr.prev K hK
    cases hM : M n with
    | false =>
      have hKn : K n = false := by
        cases e : K n with
        | false => rfl
        | true => rw [hK n e] at hM; cases hM
      exact ⟨B, by simp only [cntB, hM, Bool.false_eq_true, if_false, sel, hKn]; exact h2⟩
    | true =>
      have hl := hr.last hM
      refine ⟨fun i => if i = cntB M n then K n else B i, ?_⟩
      have he : sel h (fun i => if i = cntB M n then K n else B i) (cntB M n) = sel h B (cntB M n) := sel_congr _ (fun i hi => by simp [show i ≠ cntB M n by omega]) (fun i hi => rfl)
      simp only [cntB, hM, if_true, sel]
      rw [he, h2, hl]
def All {α : Type} (ok : List α → Prop) (g : Nat → α) (M : Nat → Bool) (n : Nat) : Prop := ∀ K, Sub K M → sel g K n ≠ [] → ok (sel g K n)
theorem Row.all {α : Type} {ok : List α → Prop} {g h : Nat → α} {M : Nat → Bool} {n : Nat} (hr : Row g M n h) : All ok h (fun _ => true) (cntB M n) ↔ All ok g M n := by
  constructor
  · intro H K hK hne
    obtain ⟨B, hB⟩ := hr.up K hK
    rw [← hB] at hne ⊢
    exact H B (fun _ _ => rfl) hne
  · intro H B _ hne
    obtain ⟨K, hK, he⟩ := hr.down B
    rw [he] at hne ⊢
    exact H K hK hne
def drop1 (M : Nat → Bool) (e : Nat) (i : Nat) : Bool := if i = e then false else M i
theorem all_step {α : Type} {ok : List α → Prop} {g : Nat → α} {M : Nat → Bool} {n : Nat} : All ok g M n ↔ (∀ e, e < n → M e = true → All ok g (drop1 M e) n) ∧ (sel g M n ≠ [] → ok (sel g M n)) := by
  constructor
  · intro H
    refine ⟨fun e _ _ K hK hne => H K (fun i hi => ?_) hne, fun hne => H M (fun _ h => h) hne⟩
    have := hK i hi
    unfold drop1 at this
    split at this
    · cases this
    · exact this
  · rintro ⟨h1, h2⟩ K hK hne
    by_cases h : ∃ e, e < n ∧ M e = true ∧ K e = false
    · obtain ⟨e, he, hM, hKe⟩ := h
      refine h1 e he hM K (fun i hi => ?_) hne
      unfold drop1
      by_cases e' : i = e
      · subst e'; rw [hKe] at hi; cases hi
      · simp [e', hK i hi]
    · have he : sel g K n = sel g M n := sel_congr n (fun i hi => by
        cases hM : M i with
        | false =>
          cases hk : K i with
          | false => rfl
          | true => rw [hK i hk] at hM; cases hM
        | true =>
          cases hk : K i with
          | true => rfl
          | false => exact absurd ⟨i, hi, hM, hk⟩ h) (fun i hi => rfl)
      rw [he] at hne ⊢
      exact h2 hne
theorem all_congr {α : Type} {ok : List α → Prop} {g : Nat → α} {M M' : Nat → Bool} {n : Nat} (h : ∀ i, i < n → M i = M' i) : All ok g M n ↔ All ok g M' n := by
  have key : ∀ M M' : Nat → Bool, (∀ i, i < n → M i = M' i) → All ok g M n → All ok g M' n := by
    intro M M' h H K hK hne
    have e : sel g K n = sel g (fun i => if i < n then K i else false) n := sel_congr n (fun i hi => by simp [hi]) (fun i hi => rfl)
    rw [e] at hne ⊢
    refine H _ (fun i hi => ?_) hne
    by_cases hin : i < n
    · simp [hin] at hi; rw [h i hin]; exact hK i hi
    · simp [hin] at hi
  exact ⟨key M M' h, key M' M (fun i hi => (h i hi).symm)⟩
theorem mask_of (B : Nat → Bool) : ∀ n, ∃ m, m < 2 ^ n ∧ ∀ i, i < n → m.testBit i = B i
  | 0 => ⟨0, by simp, fun i hi => absurd hi (Nat.not_lt_zero _)⟩
  | n + 1 => by
    obtain ⟨m, h1, h2⟩ := mask_of B n
    cases hB : B n with
    | false =>
      refine ⟨m, by rw [Nat.pow_succ]; omega, fun i hi => ?_⟩
      by_cases e : i = n
      · subst e; rw [hB]; exact Nat.testBit_lt_two_pow h1
      · exact h2 i (by omega)
    | true =>
      refine ⟨2 ^ n + m, by rw [Nat.pow_succ]; omega, fun i hi => ?_⟩
      by_cases e : i = n
      · subst e; rw [hB, Nat.testBit_two_pow_add_eq, Nat.testBit_lt_two_pow h1]; rfl
      · rw [Nat.testBit_two_pow_add_gt (by omega)]; exact h2 i (by omega)
end Go.Proofs.Ytffnfeefjdmifaa.Sub
namespace Go.Proofs.Ytffnfeefjdmifaa.Mach
open Go BL
set_option linter.unusedVariables false
set_option linter.unusedSimpArgs false
def stD (w : Nat) : Nat → T_IntS
  | 0 => (0, fun _ => 0)
  | i + 1 => if btI w i = true then ((stD w i).1 + 1, fun s => if s < (stD w i).1 then (stD w i).2 s else i) else stD w i
theorem stD_n (w : Nat) : ∀ i, (stD w i).1 ≤ i
  | 0 => Nat.le_refl _
  | i + 1 => by
    have := stD_n w i
    simp only [stD]
    split
    · show (stD w i).1 + 1 ≤ i + 1; omega
    · omega
theorem con_setOf (w M : Nat) (hM : M ≤ 62) : Con Try.prog 42 0 [] [.p (.int .i64 w), .p (.int .i64 M)] [(0, iOb (stD w M).1 (stD w M).2)] (.ar 1 0 0 (stD w M).1) := by
  refine con_start Try.func42 rfl (by kernel_rfl) rfl (fun c hc => ?_)
  generalize hR : stD w M = R
  have lo : ∀ d i, i + d = M → Run Try.prog c 42 [.code (cAt (bodyOf Try.f42) [1, 1, 0, 1, 0, 0]), .inLoop (cAt (bodyOf Try.f42) [1, 1, 0, 1, 0, 0]), .inBlock 0, .code (cAt (bodyOf Try.f42) [1, 1, 1])] (GSo w M i (stD w i).1 (stD w i).2) (Post c [(0, iOb R.1 R.2)] (.ar 1 0 0 R.1)) := by
    intro d
    induction d with
    | zero =>
      intro i hi
      obtain rfl : i = M := by omega
      have hd : decide ((i : Int) < (i : Int)) = false := by simp
      rw [hR]
      refine path_ok mixed Try.func42 hc (gOe w i i R.1 R.2) ?_
      simp only [All]
      repeat' (first | exact trivial | with_reducible apply And.intro)
      all_goals (first | exact aG _ | exact aP _ _ | exact aA _ _ | exact aE _ | omega | rfl | (intros; first | assumption | exact True.intro | rfl | exact absurd (show false = true by assumption) Bool.false_ne_true | ((repeat' (first | assumption | apply anda | apply notf)); done)) | (exact hd) | (intro t ht; simp [All]))
    | succ d ih =>
      intro i hi
      have hd : decide ((i : Int) < (M : Int)) = true := decide_eq_true (by omega)
      have hrec := ih (i + 1) (by omega)
      have hn := stD_n w i
      cases hb : btI w i with
      | true =>
        rw [show stD w (i + 1) = ((stD w i).1 + 1, fun s => if s < (stD w i).1 then (stD w i).2 s else i) by simp [stD, hb]] at hrec
        generalize stD w i = q at hn hrec ⊢
        refine piece_ok mixed hc (gOt w M i q.1 q.2) ?_ hrec
        simp only [All]
        repeat' (first | exact trivial | with_reducible apply And.intro)
        all_goals (first | exact aG _ | exact aP _ _ | exact aA _ _ | exact aE _ | omega | rfl | (intros; first | assumption | exact True.intro | rfl | exact absurd (show false = true by assumption) Bool.false_ne_true | ((repeat' (first | assumption | apply anda | apply notf)); done)) | (exact hd) | (exact hb) | (intro t ht; by_cases h' : t < q.1 <;> simp [h', cvtL, cvt, tg, tru, All]))
      | false =>
        rw [show stD w (i + 1) = stD w i by simp [stD, hb]] at hrec
        generalize stD w i = q at hn hrec ⊢
        refine piece_ok mixed hc (gOf w M i q.1 q.2) ?_ hrec
        simp only [All]
        repeat' (first | exact trivial | with_reducible apply And.intro)
        all_goals (first | exact aG _ | exact aP _ _ | exact aA _ _ | exact aE _ | omega | rfl | (intros; first | assumption | exact True.intro | rfl | exact absurd (show false = true by assumption) Bool.false_ne_true | ((repeat' (first | assumption | apply anda | apply notf)); done)) | (exact hd) | (exact hb) | (intro t ht; simp [All]))
  refine piece_ok mixed hc (gOz w M) ?_ (lo M 0 (by omega))
  simp only [All]
  repeat' (first | exact trivial | with_reducible apply And.intro)
  all_goals (first | exact aG _ | exact aP _ _ | exact aA _ _ | exact aE _ | omega | rfl | (intros; first | assumption | exact True.intro | rfl | exact absurd (show false = true by assumption) Bool.false_ne_true | ((repeat' (first | assumption | apply anda | apply notf)); done)) | (intro t ht; exact absurd ht (Nat.not_lt_zero _)) | (intro t ht; simp [All]))
theorem con_l3Set (w M : Nat) (hM : M ≤ 62) : Con Try.prog 76 0 [] [.p (.int .i64 M), .p (.int .i64 w)] [(0, iOb (stD w M).1 (stD w M).2)] (.ar 1 0 0 (stD w M).1) := by
  refine con_start Try.func76 rfl (by kernel_rfl) rfl (fun c hc => ?_)
  generalize hR : stD w M = R
  have lo : ∀ d i, i + d = M → Run Try.prog c 76 [.code (cAt (bodyOf Try.f76) [1, 1, 0, 1, 0, 0]), .inLoop (cAt (bodyOf Try.f76) [1, 1, 0, 1, 0, 0]), .inBlock 0, .code (cAt (bodyOf Try.f76) [1, 1, 1])] (GSl w M i (stD w i).1 (stD w i).2) (Post c [(0, iOb R.1 R.2)] (.ar 1 0 0 R.1)) := by
    intro d
    induction d with
    | zero =>
      intro i hi
      obtain rfl : i = M := by omega
      have hd : decide ((i : Int) < (i : Int)) = false := by simp
      rw [hR]
      refine path_ok mixed Try.func76 hc (gLe w i i R.1 R.2) ?_
      simp only [All]
      repeat' (first | exact trivial | with_reducible apply And.intro)
      all_goals (first | exact aG _ | exact aP _ _ | exact aA _ _ | exact aE _ | omega | rfl | (intros; first | assumption | exact True.intro | rfl | exact absurd (show false = true by assumption) Bool.false_ne_true | ((repeat' (first | assumption | apply anda | apply notf)); done)) | (exact hd) | (intro t ht; simp [All]))
    | succ d ih =>
      intro i hi
      have hd : decide ((i : Int) < (M : Int)) = true := decide_eq_true (by omega)
      have hrec := ih (i + 1) (by omega)
      have hn := stD_n w i
      cases hb : btI w i with
      | true =>
        rw [show stD w (i + 1) = ((stD w i).1 + 1, fun s => if s < (stD w i).1 then (stD w i).2 s else i) by simp [stD, hb]] at hrec
        generalize stD w i = q at hn hrec ⊢
        refine piece_ok mixed hc (gLt w M i q.1 q.2) ?_ hrec
        simp only [All]
        repeat' (first | exact trivial | with_reducible apply And.intro)
        all_goals (first | exact aG _ | exact aP _ _ | exact aA _ _ | exact aE _ | omega | rfl | (intros; first | assumption | exact True.intro | rfl | exact absurd (show false = true by assumption) Bool.false_ne_true | ((repeat' (first | assumption | apply anda | apply notf)); done)) | (exact hd) | (exact hb) | (intro t ht; by_cases h' : t < q.1 <;> simp [h', cvtL, cvt, tg, tru, All]))
      | false =>
        rw [show stD w (i + 1) = stD w i by simp [stD, hb]] at hrec
        generalize stD w i = q at hn hrec ⊢
        refine piece_ok mixed hc (gLf w M i q.1 q.2) ?_ hrec
        simp only [All]
        repeat' (first | exact trivial | with_reducible apply And.intro)
        all_goals (first | exact aG _ | exact aP _ _ | exact aA _ _ | exact aE _ | omega | rfl | (intros; first | assumption | exact True.intro | rfl | exact absurd (show false = true by assumption) Bool.false_ne_true | ((repeat' (first | assumption | apply anda | apply notf)); done)) | (exact hd) | (exact hb) | (intro t ht; simp [All]))
  refine piece_ok mixed hc (gLz w M) ?_ (lo M 0 (by omega))
  simp only [All]
  repeat' (first | exact trivial | with_reducible apply And.intro)
  all_goals (first | exact aG _ | exact aP _ _ | exact aA _ _ | exact aE _ | omega | rfl | (intros; first | assumption | exact True.intro | rfl | exact absurd (show false = true by assumption) Bool.false_ne_true | ((repeat' (first | assumption | apply anda | apply notf)); done)) | (intro t ht; exact absurd ht (Nat.not_lt_zero _)) | (intro t ht; simp [All]))
def bkL (g : Nat → T_GainBar) (n : Nat) (s : Nat → Int) : List T_GainBar := (List.range n).map fun i => gb g s i
theorem bkL_len (g : Nat → T_GainBar) (n : Nat) (s : Nat → Int) : (bkL g n s).length = n := by simp [bkL]
theorem bkL_mem (g : Nat → T_GainBar) (n : Nat) (s : Nat → Int) (b : T_GainBar) : b ∈ bkL g n s ↔ ∃ i, i < n ∧ gb g s i = b := by simp [bkL]
theorem st_sel (g : Nat → T_GainBar) (w : Nat) (hw : w < 2 ^ 62) : ∀ n, n ≤ 62 → bkL g (stD w n).1 (stD w n).2 = Sub.sel g w.testBit n
  | 0, _ => rfl
  | n + 1, h => by
    have ih := st_sel g w hw n (by omega)
    have hb := bt_test w n hw (by omega)
    simp only [stD, Sub.sel]
    rw [hb]
    split
    · simp only [bkL, List.range_succ, List.map_append, List.map_cons, List.map_nil]
      rw [← ih]
      congr 1
      · refine List.map_congr_left (fun i hi => ?_)
        have hi := List.mem_range.1 hi
        simp [gb, hi]
      · simp [gb]
    · exact ih
theorem st_at (w : Nat) (hw : w < 2 ^ 62) : ∀ n, n ≤ 62 → ∀ i, i < (stD w n).1 → ∃ e : Nat, (stD w n).2 i = (e : Int) ∧ e < n ∧ w.testBit e = true ∧ (∀ j, j < i → (stD w n).2 j < (e : Int))
  | 0, _, i, hi => absurd hi (Nat.not_lt_zero _)
  | n + 1, h, i, hi => by
    have ih := st_at w hw n (by omega)
    have hb := bt_test w n hw (by omega)
    simp only [stD] at hi ⊢
    split at hi
    · rename_i hbt
      rw [if_pos hbt]
      have hi' : i < (stD w n).1 + 1 := hi
      show ∃ e : Nat, (if i < (stD w n).1 then (stD w n).2 i else (n : Int)) = (e : Int) ∧ e < n + 1 ∧ w.testBit e = true ∧ ∀ j, j < i → (if j < (stD w n).1 then (stD w n).2 j else (n : Int)) < (e : Int)
      by_cases e : i < (stD w n).1
      · obtain ⟨x, h1, h2, h3, h4⟩ := ih i e
        exact ⟨x, by rw [if_pos e]; exact h1, by omega, h3, fun j hj => by rw [if_pos (by omega)]; exact h4 j hj⟩
      · refine ⟨n, by rw [if_neg e], by omega, by rw [← hb]; exact hbt, fun j hj => ?_⟩
        obtain ⟨x, h1, h2, _⟩ := ih j (by omega)
        rw [if_pos (by omega), h1]; omega
    · rename_i hbt
      rw [if_neg hbt]
      obtain ⟨x, h1, h2, h3⟩ := ih i hi
      exact ⟨x, h1, by omega, h3⟩
theorem st_has (w : Nat) (hw : w < 2 ^ 62) : ∀ n, n ≤ 62 → ∀ e, e < n → w.testBit e = true → ∃ i, i < (stD w n).1 ∧ (stD w n).2 i = (e : Int)
  | 0, _, e, he, _ => absurd he (Nat.not_lt_zero _)
  | n + 1, h, e, he, ht => by
    have ih := st_has w hw n (by omega)
    have hb := bt_test w n hw (by omega)
    by_cases h1 : btI w n = true
    · have hs : stD w (n + 1) = ((stD w n).1 + 1, fun s => if s < (stD w n).1 then (stD w n).2 s else n) := by simp [stD, h1]
      rw [hs]
      by_cases e' : e = n
      · subst e'; exact ⟨(stD w e).1, Nat.lt_succ_self _, by simp⟩
      · obtain ⟨i, h2, h3⟩ := ih e (by omega) ht
        exact ⟨i, Nat.lt_succ_of_lt h2, by show (if i < (stD w n).1 then (stD w n).2 i else (n : Int)) = _; rw [if_pos h2]; exact h3⟩
    · have hs : stD w (n + 1) = stD w n := by simp [stD, h1]
      rw [hs]
      refine ih e ?_ ht
      by_cases e' : e = n
      · subst e'; rw [hb] at h1; exact absurd ht h1
      · omega
theorem st_good (w nb : Nat) (hw : w < 2 ^ 62) (hn : nb ≤ 62) : goodS nb (stD w nb).2 (stD w nb).1 = true := by
  have key : ∀ k, k ≤ (stD w nb).1 → goodS nb (stD w nb).2 k = true := by
    intro k
    induction k with
    | zero => intro _; rfl
    | succ k ih =>
      intro hk
      obtain ⟨e, h1, h2, _, h4⟩ := st_at w hw nb hn k (by omega)
      simp only [goodS, ih (by omega), Bool.true_and, Bool.not_eq_true']
      unfold badS
      rw [h1, decide_eq_false (by omega), decide_eq_false (show ¬ (e : Int) ≥ (nb : Int) by omega)]
      simp only [cond_false]
      by_cases h0 : (k : Int) > 0
      · rw [decide_eq_true h0]
        have := h4 (k - 1) (by omega)
        rw [show ((k : Int) - 1).toNat = k - 1 by omega]
        simp only [cond_true, decide_eq_false_iff_not]
        omega
      · rw [decide_eq_false h0]; rfl
  exact key _ (Nat.le_refl _)
def pB (L : List T_GainBar) (v : Nat) : Bool := L.any fun b => b.1 == (v : Int) || b.2.1 == (v : Int)
def ptN (N : Nat) (L : List T_GainBar) : Nat := Sub.cntB (pB L) N
open Classical in
noncomputable def balL (L : List T_GainBar) : Bool := decide (∃ p q : Nat → Int, ∀ b ∈ L, p b.1.toNat + b.2.2.1 = p b.2.1.toNat ∧ q b.1.toNat + b.2.2.2.1 = q b.2.1.toNat)
noncomputable def mostL (N : Nat) (L : List T_GainBar) : Int := if balL L = true then 2 * (ptN N L : Int) - 2 - 1 else 2 * (ptN N L : Int) - 2
def okG (N : Nat) (L : List T_GainBar) : Prop := (L.length : Int) ≤ mostL N L
theorem cntB_le (B : Nat → Bool) : ∀ n, Sub.cntB B n ≤ n
  | 0 => Nat.le_refl _
  | n + 1 => by
    have := cntB_le B n
    simp only [Sub.cntB]
    split <;> omega
theorem balP_L (g : Nat → T_GainBar) (N n : Nat) (s : Nat → Int) : balP g N n s = balL (bkL g n s) := by
  unfold balP balL
  congr 1
  apply propext
  constructor
  · rintro ⟨p, q, h⟩
    refine ⟨p, q, fun b hb => ?_⟩
    obtain ⟨i, hi, rfl⟩ := (bkL_mem g n s b).1 hb
    exact h i hi
  · rintro ⟨p, q, h⟩
    exact ⟨p, q, fun i hi => h _ ((bkL_mem g n s _).2 ⟨i, hi, rfl⟩)⟩
def ptB (g : Nat → T_GainBar) (s : Nat → Int) (v : Nat) : Nat → Bool
  | 0 => false
  | k + 1 => bif bif ptB g s v k then true else (gb g s k).1 == (v : Int) then true else (gb g s k).2.1 == (v : Int)
theorem ptB_L (g : Nat → T_GainBar) (s : Nat → Int) (v : Nat) : ∀ n, ptB g s v n = pB (bkL g n s) v
  | 0 => rfl
  | n + 1 => by
    have ih := ptB_L g s v n
    simp only [ptB, ih, pB, bkL, List.range_succ, List.map_append, List.any_append, List.map_cons, List.map_nil, List.any_cons, List.any_nil]
    cases (List.map (fun i => gb g s i) (List.range n)).any fun b => b.1 == (v : Int) || b.2.1 == (v : Int) <;> simp
theorem con_l29Points {N nb n : Nat} {g : Nat → T_GainBar} {s : Nat → Int} (hN : N ≤ 4) (hnb : nb ≤ 8) (hn : n ≤ 8) (hs : ∀ i, i < n → 0 ≤ s i ∧ s i < nb) :
    Con Try.prog 77 0 [] [gnA g nb N, inS n s] [] (.p (.int .i64 (ptN N (bkL g n s)))) := by
  refine con_start Try.func77 rfl (by kernel_rfl) rfl (fun c hc => ?_)
  let B : Nat → Bool := fun v => ptB g s v n
  have hB : ptN N (bkL g n s) = Sub.cntB B N := Sub.cntB_congr N (fun v hv => (ptB_L g s v n).symm)
  rw [hB]
  have li : ∀ v, (Run Try.prog c 77 [.code (cAt (bodyOf Try.f77) [1, 1, 0, 1, 0, 0]), .inLoop (cAt (bodyOf Try.f77) [1, 1, 0, 1, 0, 0]), .inBlock 0, .code (cAt (bodyOf Try.f77) [1, 1, 1])] (GP0 g nb N n s (v + 1) (Sub.cntB B (v + 1))) (Post c [] (.p (.int .i64 (Sub.cntB B N))))) → v < N →
      ∀ d k, k + d = n → Run Try.prog c 77 [.code (cAt (bodyOf Try.f77) [1, 1, 0, 1, 0, 0, 1, 0, 0, 1, 0, 1, 0, 0]), .inLoop (cAt (bodyOf Try.f77) [1, 1, 0, 1, 0, 0, 1, 0, 0, 1, 0, 1, 0, 0]), .inBlock 2, .code (cAt (bodyOf Try.f77) [1, 1, 0, 1, 0, 0, 1, 0, 0, 1, 1]), .inBlock 1, .code (cAt (bodyOf Try.f77) [1, 1, 0, 1, 0, 0, 1, 1]), .inLoop (cAt (bodyOf Try.f77) [1, 1, 0, 1, 0, 0]), .inBlock 0, .code (cAt (bodyOf Try.f77) [1, 1, 1])] (GP1 g nb N n s v (Sub.cntB B v) (ptB g s v k) k) (Post c [] (.p (.int .i64 (Sub.cntB B N)))) := by
    intro v hk hv d
    have hcl := cntB_le B v
    induction d with
    | zero =>
      intro k hkn
      obtain rfl : k = n := by omega
      have hd : decide ((k : Int) < (k : Int)) = false := by simp
      cases hb : ptB g s v k with
      | true =>
        rw [show Sub.cntB B (v + 1) = Sub.cntB B v + 1 by simp only [Sub.cntB]; rw [if_pos hb]] at hk
        refine piece_ok mixed hc (gPt g nb N k s v (Sub.cntB B v) k) ?_ hk
        simp only [All]
        repeat' (first | exact trivial | with_reducible apply And.intro)
        all_goals (first | exact aG _ | exact aP _ _ | exact aA _ _ | exact aE _ | omega | rfl | (intros; first | assumption | exact True.intro | rfl | exact absurd (show false = true by assumption) Bool.false_ne_true | ((repeat' (first | assumption | apply anda | apply notf)); done)) | (exact hd) | (simp; omega))
      | false =>
        rw [show Sub.cntB B (v + 1) = Sub.cntB B v by simp only [Sub.cntB]; rw [if_neg (by show ¬ ptB g s v k = true; rw [hb]; simp)]] at hk
        refine piece_ok mixed hc (gPf g nb N k s v (Sub.cntB B v) k) ?_ hk
        simp only [All]
        repeat' (first | exact trivial | with_reducible apply And.intro)
        all_goals (first | exact aG _ | exact aP _ _ | exact aA _ _ | exact aE _ | omega | rfl | (intros; first | assumption | exact True.intro | rfl | exact absurd (show false = true by assumption) Bool.false_ne_true | ((repeat' (first | assumption | apply anda | apply notf)); done)) | (exact hd) | (simp; omega))
    | succ d ih =>
      intro k hkn
      have hd : decide ((k : Int) < (n : Int)) = true := decide_eq_true (by omega)
      have hsk := hs k (by omega)
      refine piece_ok mixed hc (gPi g nb N n s v (Sub.cntB B v) (ptB g s v k) k) ?_ (ih (k + 1) (by omega))
      simp only [All]
      repeat' (first | exact trivial | with_reducible apply And.intro)
      all_goals (first | exact aG _ | exact aP _ _ | exact aA _ _ | exact aE _ | omega | rfl | (intros; first | assumption | exact True.intro | rfl | exact absurd (show false = true by assumption) Bool.false_ne_true | ((repeat' (first | assumption | apply anda | apply notf)); done)) | (exact hd) | (intros; exact hsk.1) | (intros; exact hsk.2) | (intros; omega) | (intro h; exact h) | (intro h; rw [h]; rfl) | (intro h1 h2; rw [h1, h2]; rfl) | (simp; omega))
  have lo : ∀ d v, v + d = N → Run Try.prog c 77 [.code (cAt (bodyOf Try.f77) [1, 1, 0, 1, 0, 0]), .inLoop (cAt (bodyOf Try.f77) [1, 1, 0, 1, 0, 0]), .inBlock 0, .code (cAt (bodyOf Try.f77) [1, 1, 1])] (GP0 g nb N n s v (Sub.cntB B v)) (Post c [] (.p (.int .i64 (Sub.cntB B N)))) := by
    intro d
    induction d with
    | zero =>
      intro v hv
      obtain rfl : v = N := by omega
      have hd : decide ((v : Int) < (v : Int)) = false := by simp
      refine path_ok mixed Try.func77 hc (gPe g nb v n s v (Sub.cntB B v)) ?_
      simp only [All]
      repeat' (first | exact trivial | with_reducible apply And.intro)
      all_goals (first | exact aG _ | exact aP _ _ | exact aA _ _ | exact aE _ | omega | rfl | (intros; first | assumption | exact True.intro | rfl | exact absurd (show false = true by assumption) Bool.false_ne_true | ((repeat' (first | assumption | apply anda | apply notf)); done)) | (exact hd))
    | succ d ih =>
      intro v hv
      have hd : decide ((v : Int) < (N : Int)) = true := decide_eq_true (by omega)
      have := cntB_le B v
      refine piece_ok mixed hc (gPo g nb N n s v (Sub.cntB B v)) ?_ (li v (ih (v + 1) (by omega)) (by omega) n 0 (by omega))
      simp only [All]
      repeat' (first | exact trivial | with_reducible apply And.intro)
      all_goals (first | exact aG _ | exact aP _ _ | exact aA _ _ | exact aE _ | omega | rfl | (intros; first | assumption | exact True.intro | rfl | exact absurd (show false = true by assumption) Bool.false_ne_true | ((repeat' (first | assumption | apply anda | apply notf)); done)) | (exact hd) | (simp; omega))
  refine piece_ok mixed hc (gPz g nb N n s) ?_ (lo N 0 (by omega))
  simp only [All]
  repeat' (first | exact trivial | with_reducible apply And.intro)
  all_goals (first | exact aG _ | exact aP _ _ | exact aA _ _ | exact aE _ | omega | rfl | (intros; first | assumption | exact True.intro | rfl | exact absurd (show false = true by assumption) Bool.false_ne_true | ((repeat' (first | assumption | apply anda | apply notf)); done)) | (simp; omega))
theorem cntB_add {B C : Nat → Bool} {x : Nat} (hx : B x = false) (hC : ∀ v, C v = if v = x then true else B v) : ∀ n, x < n → Sub.cntB C n = Sub.cntB B n + 1
  | 0, h => absurd h (Nat.not_lt_zero _)
  | n + 1, h => by
    simp only [Sub.cntB]
    by_cases e : x = n
    · subst e
      rw [Sub.cntB_congr (B := C) (C := B) x (fun i hi => by rw [hC i, if_neg (by omega)]), hC x, if_pos rfl, hx]
      simp
    · have hcn : C n = B n := by
        rw [hC n]
        exact if_neg (fun h' => e h'.symm)
      rw [cntB_add hx hC n (by omega), hcn]
      split <;> omega
open Classical in
theorem dist_len {N : Nat} {l : List Int} (hs : l.Pairwise (· ≤ ·)) (h : ∀ x ∈ l, 0 ≤ x ∧ x < N) : (cpI l).length = Sub.cntB (fun v => decide ((v : Int) ∈ l)) N := by
  have at_ : ∀ i, i < l.length → l.toArray[i]! = l.getD i 0 := by
    intro i hi
    rw [getElem!_pos l.toArray i (by simpa using hi)]
    simp [List.getD_eq_getElem?_getD, hi]
  have asc : ∀ i j, i ≤ j → j < l.length → l.toArray[i]! ≤ l.toArray[j]! := by
    intro i j hij hj
    rw [at_ i (by omega), at_ j hj]
    by_cases e : i = j
    · subst e; exact Int.le_refl _
    · have := List.pairwise_iff_getElem.1 hs i j (by omega) hj (by omega)
      simpa [List.getD_eq_getElem?_getD, hj, show i < l.length by omega] using this
  have key : ∀ m, m ≤ l.length → (Lib.compactUpTo l.toArray m).length = Sub.cntB (fun v => decide (∃ j, j < m ∧ l.toArray[j]! = (v : Int))) N := by
    intro m
    induction m with
    | zero =>
      intro _
      rw [show Lib.compactUpTo l.toArray 0 = [] from rfl]
      have : ∀ n, Sub.cntB (fun v => decide (∃ j, j < 0 ∧ l.toArray[j]! = (v : Int))) n = 0 := by
        intro n
        induction n with
        | zero => rfl
        | succ n ih => simp only [Sub.cntB, ih]; simp
      rw [this]; rfl
    | succ m ih =>
      intro hm
      have ih := ih (by omega)
      rw [Lib.compactUpTo_succ, List.length_append, ih]
      have hx : l.toArray[m]! ∈ l := by
        rw [at_ m (by omega), List.getD_eq_getElem?_getD, List.getElem?_eq_getElem (show m < l.length by omega)]
        exact List.getElem_mem _
      have hb := h _ hx
      have hC : ∀ v : Nat, decide (∃ j, j < m + 1 ∧ l.toArray[j]! = (v : Int)) = if v = l.toArray[m]!.toNat then true else decide (∃ j, j < m ∧ l.toArray[j]! = (v : Int)) := by
        intro v
        by_cases e : v = l.toArray[m]!.toNat
        · rw [if_pos e]
          exact decide_eq_true ⟨m, by omega, by omega⟩
        · rw [if_neg e]
          congr 1
          apply propext
          constructor
          · rintro ⟨j, h1, h2⟩
            by_cases e' : j = m
            · subst e'; exact absurd (by omega) e
            · exact ⟨j, by omega, h2⟩
          · rintro ⟨j, h1, h2⟩; exact ⟨j, by omega, h2⟩
      cases hk : Lib.keeps l.toArray m with
      | true =>
        simp only [if_true, List.length_cons, List.length_nil]
        refine (cntB_add (x := l.toArray[m]!.toNat) ?_ hC N (by omega)).symm
        refine decide_eq_false ?_
        rintro ⟨j, h1, h2⟩
        have h2' : l.toArray[j]! = l.toArray[m]! := by omega
        have a1 := asc j (m - 1) (by omega) (by omega)
        have a2 := asc (m - 1) m (by omega) (by omega)
        unfold Lib.keeps at hk
        simp only [decide_eq_true_eq] at hk
        rcases hk with hk | hk
        · omega
        · exact hk (by omega)
      | false =>
        simp only [Bool.false_eq_true, if_false, List.length_nil, Nat.add_zero]
        refine Sub.cntB_congr N (fun v hv => ?_)
        rw [hC v]
        split
        · rename_i e
          unfold Lib.keeps at hk
          simp only [decide_eq_false_iff_not, not_or, ne_eq, Decidable.not_not] at hk
          exact decide_eq_true ⟨m - 1, by omega, by rw [← hk.2]; omega⟩
        · rfl
  rw [show cpI l = Lib.compactUpTo l.toArray l.length from rfl, key _ (Nat.le_refl _)]
  refine Sub.cntB_congr N (fun v hv => ?_)
  congr 1
  apply propext
  rw [List.mem_iff_getElem]
  constructor
  · rintro ⟨j, h1, h2⟩
    refine ⟨j, h1, ?_⟩
    rw [at_ j h1] at h2
    simpa [List.getD_eq_getElem?_getD, h1] using h2
  · rintro ⟨j, h1, h2⟩
    refine ⟨j, h1, ?_⟩
    rw [at_ j h1]
    simpa [List.getD_eq_getElem?_getD, h1] using h2
def ptsD (g : Nat → T_GainBar) (s : Nat → Int) : Nat → T_IntS
  | 0 => (0, fun _ => 0)
  | k + 1 => ((ptsD g s k).1 + 2, snp (ptsD g s k).1 (ptsD g s k).2 (gb g s k).1 (gb g s k).2.1)
theorem ptsD_n (g : Nat → T_GainBar) (s : Nat → Int) : ∀ k, (ptsD g s k).1 = 2 * k
  | 0 => rfl
  | k + 1 => by
    have := ptsD_n g s k
    show (ptsD g s k).1 + 2 = _
    omega
theorem ptsD_mem (g : Nat → T_GainBar) (s : Nat → Int) (x : Int) : ∀ k, x ∈ lstI (ptsD g s k).1 (ptsD g s k).2 ↔ ∃ j, j < k ∧ ((gb g s j).1 = x ∨ (gb g s j).2.1 = x)
  | 0 => by simp [lstI, ptsD]
  | k + 1 => by
    have ih := ptsD_mem g s x k
    simp only [lstI, List.mem_map, List.mem_range] at ih ⊢
    show (∃ a, a < (ptsD g s k).1 + 2 ∧ snp (ptsD g s k).1 (ptsD g s k).2 (gb g s k).1 (gb g s k).2.1 a = x) ↔ _
    generalize ptsD g s k = r at ih ⊢
    constructor
    · rintro ⟨a, h1, h2⟩
      unfold snp at h2
      by_cases e : a < r.1
      · rw [if_pos e] at h2
        obtain ⟨j, h3, h4⟩ := ih.1 ⟨a, e, h2⟩
        exact ⟨j, by omega, h4⟩
      · rw [if_neg e] at h2
        by_cases e' : a = r.1
        · rw [if_pos e'] at h2; exact ⟨k, by omega, .inl h2⟩
        · rw [if_neg e'] at h2; exact ⟨k, by omega, .inr h2⟩
    · rintro ⟨j, h1, h2⟩
      by_cases e : j = k
      · subst e
        rcases h2 with h2 | h2
        · exact ⟨r.1, by omega, by unfold snp; rw [if_neg (by omega), if_pos rfl]; exact h2⟩
        · exact ⟨r.1 + 1, by omega, by unfold snp; rw [if_neg (by omega), if_neg (by omega)]; exact h2⟩
      · obtain ⟨a, h3, h4⟩ := ih.2 ⟨j, by omega, h2⟩
        exact ⟨a, by omega, by unfold snp; rw [if_pos h3]; exact h4⟩
theorem pts_len {N n : Nat} {g : Nat → T_GainBar} {s : Nat → Int} (hb : ∀ i, i < n → 0 ≤ (gb g s i).1 ∧ (gb g s i).1 < N ∧ 0 ≤ (gb g s i).2.1 ∧ (gb g s i).2.1 < N) :
    (cpI (srtI (lstI (ptsD g s n).1 (ptsD g s n).2))).length = ptN N (bkL g n s) := by
  have hm : ∀ x, x ∈ srtI (lstI (ptsD g s n).1 (ptsD g s n).2) ↔ ∃ j, j < n ∧ ((gb g s j).1 = x ∨ (gb g s j).2.1 = x) := by
    intro x
    rw [srtI, (List.mergeSort_perm _ _).mem_iff]
    exact ptsD_mem g s x n
  have hsort : (srtI (lstI (ptsD g s n).1 (ptsD g s n).2)).Pairwise (· ≤ ·) := by
    have := List.pairwise_mergeSort (le := fun x y : Int => decide (x ≤ y)) (fun a b c h1 h2 => by simp only [decide_eq_true_eq] at h1 h2 ⊢; omega) (fun a b => by simp only [Bool.or_eq_true, decide_eq_true_eq]; omega) (lstI (ptsD g s n).1 (ptsD g s n).2)
    exact this.imp (fun {a b} h => by simpa using h)
  rw [dist_len hsort (fun x hx => by
    obtain ⟨j, h1, h2⟩ := (hm x).1 hx
    obtain ⟨a1, a2, a3, a4⟩ := hb j h1
    rcases h2 with h2 | h2
    · rw [← h2]; exact ⟨a1, a2⟩
    · rw [← h2]; exact ⟨a3, a4⟩)]
  refine Sub.cntB_congr N (fun v hv => ?_)
  unfold pB
  rw [Bool.eq_iff_iff]
  simp only [decide_eq_true_eq, hm, List.any_eq_true, Bool.or_eq_true, beq_iff_eq]
  constructor
  · rintro ⟨j, h1, h2⟩
    exact ⟨_, (bkL_mem g n s _).2 ⟨j, h1, rfl⟩, h2⟩
  · rintro ⟨b, h1, h2⟩
    obtain ⟨j, h3, rfl⟩ := (bkL_mem g n s b).1 h1
    exact ⟨j, h3, h2⟩
end Go.Proofs.Ytffnfeefjdmifaa.Mach
