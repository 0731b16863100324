/- A new site: both programs build the same. Conditions: as each theorem says. -/
import Derived.Test.YtgddbgmnehkblabPinned3
import Derived.Test.YtgddbgmnehkblabFamSiteM
namespace Go.Proofs.Ytgddbgmnehkblab.Mach
open Go
set_option linter.unusedVariables false
set_option linter.unusedSimpArgs false

def zeroPin : T_Pinned := ((0, (0, fun _ => (0, 0, ())), ()), (0, fun _ => 0), ())
def pinR (v : T_Pinned) : T_Pinned := if pinnedF v = true then v else zeroPin
def siteR (v : T_Pinned) : T_Site := (pinR v, (0, fun _ => ByteArray.mk #[]), ())
def grOb (v : T_Graph) : Ob := ⟨false, 2, v.2.1.1, fun i => [.p (.int .i64 (v.2.1.2 i).1), .p (.int .i64 (v.2.1.2 i).2.1)]⟩
def inOb (v : T_IntS) : Ob := ⟨false, 1, v.1, fun i => [.p (.int .i64 (v.2 i))]⟩
def grO (v : T_Graph) (j : Nat) : List AV := [.p (.int .i64 v.1), .ar 2 j 0 v.2.1.1]

theorem p98 (v : T_Graph) :
    pathOb Try.prog Try.f98 0 [.reg [oT, oT], .reg [oT, oT, oT, oT, oT, oT, oT, oT]] [.code (bodyOf Try.f98)] (start Try.f98 [] 0 [graphA v]) [224] 1 [(0, grOb v)] (.agg (grO v 0)) =
    some [((0 : Nat) < 1),
  ((0 : Nat) < 1),
  ((0 : Nat) ≤ 0),
  ((((0 + v.snd.fst.fst) * 16) : Nat) ≤ 140737488355328),
  (((0 + v.snd.fst.fst) : Nat) ≤ 9223372036854775807),
  ((0 : Nat) < 1),
  (((true) = true) → ((1 : Nat) = 1)),
  ((0 : Nat) < 1),
  (((v.fst) : Int) = (v.fst)),
  ((0 : Nat) = 0),
  (((0 + v.snd.fst.fst) : Nat) = (v.snd.fst.fst)),
  ((2 : Nat) = 2),
  (((v.snd.fst.fst) : Nat) ≤ (0 + v.snd.fst.fst)),
  (∀ i : Nat, ((((i) : Nat) < (v.snd.fst.fst)) → (All [] ∧ (([.p (.int .i64 ((v.snd.fst.snd i).fst)), .p (.int .i64 ((v.snd.fst.snd i).snd.fst))] : List AV) = [.p (.int .i64 ((v.snd.fst.snd i).fst)), .p (.int .i64 ((v.snd.fst.snd i).snd.fst))])))),
  (∀ i : Nat, ((((i) : Nat) < (v.snd.fst.fst)) → All []))] := by kernel_rfl
theorem p99 (v : T_Graph) :
    pathOb Try.prog Try.f99 0 [.reg [oT, oT], .reg [oT, oT, oT, oT, oT, oT, oT, oT]] [.code (bodyOf Try.f99)] (start Try.f99 [] 0 [graphA v]) [224] 1 [(0, grOb v)] (.agg (grO v 0)) =
    some [((0 : Nat) < 1),
  ((0 : Nat) < 1),
  ((0 : Nat) ≤ 0),
  ((((0 + v.snd.fst.fst) * 16) : Nat) ≤ 140737488355328),
  (((0 + v.snd.fst.fst) : Nat) ≤ 9223372036854775807),
  ((0 : Nat) < 1),
  (((true) = true) → ((1 : Nat) = 1)),
  ((0 : Nat) < 1),
  (((v.fst) : Int) = (v.fst)),
  ((0 : Nat) = 0),
  (((0 + v.snd.fst.fst) : Nat) = (v.snd.fst.fst)),
  ((2 : Nat) = 2),
  (((v.snd.fst.fst) : Nat) ≤ (0 + v.snd.fst.fst)),
  (∀ i : Nat, ((((i) : Nat) < (v.snd.fst.fst)) → (All [] ∧ (([.p (.int .i64 ((v.snd.fst.snd i).fst)), .p (.int .i64 ((v.snd.fst.snd i).snd.fst))] : List AV) = [.p (.int .i64 ((v.snd.fst.snd i).fst)), .p (.int .i64 ((v.snd.fst.snd i).snd.fst))])))),
  (∀ i : Nat, ((((i) : Nat) < (v.snd.fst.fst)) → All []))] := by kernel_rfl
theorem p100 (v : T_IntS) :
    pathOb Try.prog Try.f100 0 [.reg [oT], .reg [oT, oT, oT, oT]] [.code (bodyOf Try.f100)] (start Try.f100 [] 0 [inL v]) [96] 1 [(0, inOb v)] (.ar 1 0 0 v.1) =
    some [((0 : Nat) ≤ 0),
  ((((0 + v.fst) * 8) : Nat) ≤ 140737488355328),
  (((0 + v.fst) : Nat) ≤ 9223372036854775807),
  ((0 : Nat) = 0),
  (((0 + v.fst) : Nat) = (v.fst)),
  ((1 : Nat) = 1),
  (((v.fst) : Nat) ≤ (0 + v.fst)),
  (∀ i : Nat, ((((i) : Nat) < (v.fst)) → (All [] ∧ (([.p (.int .i64 (v.snd i))] : List AV) = [.p (.int .i64 (v.snd i))])))),
  (∀ i : Nat, ((((i) : Nat) < (v.fst)) → All []))] := by kernel_rfl
theorem p70 (v : T_Pinned) :
    pathOb Try.prog Try.f70 0 [.reg [oT, oT], .reg [oT, oT, ⟨true, (some ⟨[], [], 1, [(0, grOb v.1)], .agg (grO v.1 0)⟩)⟩, oT, oT, ⟨true, (some ⟨[], [], 1, [(0, inOb v.2.1)], .ar 1 0 0 v.2.1.1⟩)⟩, oT, oT]] [.code (bodyOf Try.f70)] (start Try.f70 [] 0 [pinA v]) [128, 224] 1 [(0, grOb v.1), (1, inOb v.2.1)] (.agg (grO v.1 0 ++ [.ar 1 1 0 v.2.1.1])) =
    some [((0 : Nat) < 1),
  Con (Try.prog) 99 0 [] [.agg [.p (.int .i64 (v.fst.fst)), .p (.seq true 2 (v.fst.snd.fst.fst) (fun i => [.int .i64 ((v.fst.snd.fst.snd i).fst), .int .i64 ((v.fst.snd.fst.snd i).snd.fst)]))]] [(0, ⟨false, 2, (v.fst.snd.fst.fst), (fun i => [.p (.int .i64 ((v.fst.snd.fst.snd i).fst)), .p (.int .i64 ((v.fst.snd.fst.snd i).snd.fst))])⟩)] (.agg [.p (.int .i64 (v.fst.fst)), .ar 2 0 0 (v.fst.snd.fst.fst)]),
  ((0 : Nat) < 1),
  Con (Try.prog) 100 0 [] [.p (.seq true 1 (v.snd.fst.fst) (fun i => [.int .i64 (v.snd.fst.snd i)]))] [(0, ⟨false, 1, (v.snd.fst.fst), (fun i => [.p (.int .i64 (v.snd.fst.snd i))])⟩)] (.ar 1 0 0 (v.snd.fst.fst)),
  ((0 : Nat) < 1),
  (((true) = true) → ((1 : Nat) = 1)),
  ((0 : Nat) < 1),
  (((v.fst.fst) : Int) = (v.fst.fst)),
  ((0 : Nat) = 0),
  (((v.fst.snd.fst.fst) : Nat) = (v.fst.snd.fst.fst)),
  ((0 : Nat) = 0),
  (((v.snd.fst.fst) : Nat) = (v.snd.fst.fst)),
  ((2 : Nat) = 2),
  (((v.fst.snd.fst.fst) : Nat) ≤ (v.fst.snd.fst.fst)),
  (∀ i : Nat, ((((i) : Nat) < (v.fst.snd.fst.fst)) → (All [] ∧ (([.p (.int .i64 ((v.fst.snd.fst.snd i).fst)), .p (.int .i64 ((v.fst.snd.fst.snd i).snd.fst))] : List AV) = [.p (.int .i64 ((v.fst.snd.fst.snd i).fst)), .p (.int .i64 ((v.fst.snd.fst.snd i).snd.fst))])))),
  ((1 : Nat) = 1),
  (((v.snd.fst.fst) : Nat) ≤ (v.snd.fst.fst)),
  (∀ i : Nat, ((((i) : Nat) < (v.snd.fst.fst)) → (All [] ∧ (([.p (.int .i64 (v.snd.fst.snd i))] : List AV) = [.p (.int .i64 (v.snd.fst.snd i))])))),
  (∀ i : Nat, ((((i) : Nat) < (v.fst.snd.fst.fst)) → All [])),
  (∀ i : Nat, ((((i) : Nat) < (v.snd.fst.fst)) → All []))] := by kernel_rfl
theorem p69 (v : T_Pinned) :
    pathOb Try.prog Try.f69 0 [.reg [oT, oT], .reg [oT, oT, oT, ⟨true, (some ⟨[], [], 1, [(0, grOb v.1)], .agg (grO v.1 0)⟩)⟩, oT, oT, oT, oT, oT, oT, oT, oT, oT, oT, oT, oT]] [.code (bodyOf Try.f69)] (start Try.f69 [] 0 [.agg [.p (.int .i64 v.1.1), graphL v.1.2.1, inL v.2.1, .p .nil]]) [160, 320] 1 [(0, grOb v.1), (1, inOb v.2.1)] (.agg (grO v.1 0 ++ [.ar 1 1 0 v.2.1.1, .p (.seq false 1 0 (fun i => [.str (ByteArray.mk #[])]))])) =
    some [((0 : Nat) < 1),
  Con (Try.prog) 98 0 [] [.agg [.p (.int .i64 (v.fst.fst)), .p (.seq true 2 (v.fst.snd.fst.fst) (fun i => [.int .i64 ((v.fst.snd.fst.snd i).fst), .int .i64 ((v.fst.snd.fst.snd i).snd.fst)]))]] [(0, ⟨false, 2, (v.fst.snd.fst.fst), (fun i => [.p (.int .i64 ((v.fst.snd.fst.snd i).fst)), .p (.int .i64 ((v.fst.snd.fst.snd i).snd.fst))])⟩)] (.agg [.p (.int .i64 (v.fst.fst)), .ar 2 0 0 (v.fst.snd.fst.fst)]),
  ((0 : Nat) < 1),
  ((0 : Nat) ≤ 0),
  ((((0 + v.snd.fst.fst) * 8) : Nat) ≤ 140737488355328),
  (((0 + v.snd.fst.fst) : Nat) ≤ 9223372036854775807),
  ((0 : Nat) < 1),
  ((0 : Nat) ≤ 0),
  ((0 : Nat) ≤ 140737488355328),
  ((0 : Nat) ≤ 9223372036854775807),
  ((0 : Nat) < 1),
  (((true) = true) → ((1 : Nat) = 1)),
  ((0 : Nat) < 1),
  ((1 : Nat) = 1),
  ((0 : Nat) ≤ 0),
  (((v.fst.fst) : Int) = (v.fst.fst)),
  ((0 : Nat) = 0),
  (((v.fst.snd.fst.fst) : Nat) = (v.fst.snd.fst.fst)),
  ((0 : Nat) = 0),
  (((0 + v.snd.fst.fst) : Nat) = (v.snd.fst.fst)),
  ((0 : Nat) = 0),
  (∀ i : Nat, ((((i) : Nat) < 0) → (([.any] : List PV) = [.str ({ data := #[] })]))),
  ((2 : Nat) = 2),
  (((v.fst.snd.fst.fst) : Nat) ≤ (v.fst.snd.fst.fst)),
  (∀ i : Nat, ((((i) : Nat) < (v.fst.snd.fst.fst)) → (All [] ∧ (([.p (.int .i64 ((v.fst.snd.fst.snd i).fst)), .p (.int .i64 ((v.fst.snd.fst.snd i).snd.fst))] : List AV) = [.p (.int .i64 ((v.fst.snd.fst.snd i).fst)), .p (.int .i64 ((v.fst.snd.fst.snd i).snd.fst))])))),
  ((1 : Nat) = 1),
  (((v.snd.fst.fst) : Nat) ≤ (0 + v.snd.fst.fst)),
  (∀ i : Nat, ((((i) : Nat) < (v.snd.fst.fst)) → (All [] ∧ (([.p (.int .i64 (v.snd.fst.snd i))] : List AV) = [.p (.int .i64 (v.snd.fst.snd i))])))),
  (false = false),
  (∀ i : Nat, ((((i) : Nat) < 0) → All [])),
  (∀ i : Nat, ((((i) : Nat) < (v.fst.snd.fst.fst)) → All [])),
  (∀ i : Nat, ((((i) : Nat) < (v.snd.fst.fst)) → All []))] := by kernel_rfl
theorem p29a (v : T_Pinned) :
    pathOb Try.prog Try.f29 0 [.reg [oT, oT, oT], .reg [oT, ⟨true, (some ⟨[], [], 1, [], .p (.bool (pinnedF v))⟩)⟩, oT], .dec false, .reg [oT, oT, ⟨true, (some ⟨[], [], 1, [(0, grOb v.1), (1, inOb v.2.1)], .agg (grO v.1 0 ++ [.ar 1 1 0 v.2.1.1, .p (.seq false 1 0 (fun i => [.str (ByteArray.mk #[])]))])⟩)⟩, oT, oT]] [.code (bodyOf Try.f29)] (start Try.f29 [] 0 [pinA v]) [256, 257] 1 [(0, grOb v.1), (1, inOb v.2.1)] (.tup [.agg (grO v.1 0 ++ [.ar 1 1 0 v.2.1.1, .p (.seq false 1 0 (fun i => [.str (ByteArray.mk #[])]))]), .p (.bool true)]) =
    some [((0 : Nat) < 1),
  Con (Try.prog) 56 0 [] [.agg [.p (.int .i64 (v.fst.fst)), .p (.seq true 2 (v.fst.snd.fst.fst) (fun i => [.int .i64 ((v.fst.snd.fst.snd i).fst), .int .i64 ((v.fst.snd.fst.snd i).snd.fst)])), .p (.seq true 1 (v.snd.fst.fst) (fun i => [.int .i64 (v.snd.fst.snd i)]))]] [] (.p (.bool (pinnedF v))),
  ((!pinnedF v) = false),
  ((0 : Nat) < 1),
  Con (Try.prog) 69 0 [] [.agg [.p (.int .i64 (v.fst.fst)), .p (.seq true 2 (v.fst.snd.fst.fst) (fun i => [.int .i64 ((v.fst.snd.fst.snd i).fst), .int .i64 ((v.fst.snd.fst.snd i).snd.fst)])), .p (.seq true 1 (v.snd.fst.fst) (fun i => [.int .i64 (v.snd.fst.snd i)])), .p (.nil)]] [(0, ⟨false, 2, (v.fst.snd.fst.fst), (fun i => [.p (.int .i64 ((v.fst.snd.fst.snd i).fst)), .p (.int .i64 ((v.fst.snd.fst.snd i).snd.fst))])⟩), (1, ⟨false, 1, (v.snd.fst.fst), (fun i => [.p (.int .i64 (v.snd.fst.snd i))])⟩)] (.agg [.p (.int .i64 (v.fst.fst)), .ar 2 0 0 (v.fst.snd.fst.fst), .ar 1 1 0 (v.snd.fst.fst), .p (.seq false 1 0 (fun i => [.str ({ data := #[] })]))]),
  ((0 : Nat) < 1),
  (((true) = true) → ((1 : Nat) = 1)),
  ((0 : Nat) < 1),
  (((v.fst.fst) : Int) = (v.fst.fst)),
  ((0 : Nat) = 0),
  (((v.fst.snd.fst.fst) : Nat) = (v.fst.snd.fst.fst)),
  ((0 : Nat) = 0),
  (((v.snd.fst.fst) : Nat) = (v.snd.fst.fst)),
  ((0 : Nat) = 0),
  (∀ i : Nat, ((((i) : Nat) < 0) → (([.str ({ data := #[] })] : List PV) = [.str ({ data := #[] })]))),
  (true = true),
  ((2 : Nat) = 2),
  (((v.fst.snd.fst.fst) : Nat) ≤ (v.fst.snd.fst.fst)),
  (∀ i : Nat, ((((i) : Nat) < (v.fst.snd.fst.fst)) → (All [] ∧ (([.p (.int .i64 ((v.fst.snd.fst.snd i).fst)), .p (.int .i64 ((v.fst.snd.fst.snd i).snd.fst))] : List AV) = [.p (.int .i64 ((v.fst.snd.fst.snd i).fst)), .p (.int .i64 ((v.fst.snd.fst.snd i).snd.fst))])))),
  ((1 : Nat) = 1),
  (((v.snd.fst.fst) : Nat) ≤ (v.snd.fst.fst)),
  (∀ i : Nat, ((((i) : Nat) < (v.snd.fst.fst)) → (All [] ∧ (([.p (.int .i64 (v.snd.fst.snd i))] : List AV) = [.p (.int .i64 (v.snd.fst.snd i))])))),
  (false = false),
  (∀ i : Nat, ((((i) : Nat) < 0) → All [])),
  (∀ i : Nat, ((((i) : Nat) < (v.fst.snd.fst.fst)) → All [])),
  (∀ i : Nat, ((((i) : Nat) < (v.snd.fst.fst)) → All []))] := by kernel_rfl
theorem p29b (v : T_Pinned) :
    pathOb Try.prog Try.f29 0 [.reg [oT, oT, oT], .reg [oT, ⟨true, (some ⟨[], [], 1, [], .p (.bool (pinnedF v))⟩)⟩, oT], .dec true, .reg [oT, oT, oT]] [.code (bodyOf Try.f29)] (start Try.f29 [] 0 [pinA v]) [] 1 [(0, grOb zeroPin.1), (1, inOb zeroPin.2.1)] (.tup [.agg (grO zeroPin.1 0 ++ [.ar 1 1 0 zeroPin.2.1.1, .p (.seq false 1 0 (fun i => [.str (ByteArray.mk #[])]))]), .p (.bool false)]) =
    some [((0 : Nat) < 1),
  Con (Try.prog) 56 0 [] [.agg [.p (.int .i64 (v.fst.fst)), .p (.seq true 2 (v.fst.snd.fst.fst) (fun i => [.int .i64 ((v.fst.snd.fst.snd i).fst), .int .i64 ((v.fst.snd.fst.snd i).snd.fst)])), .p (.seq true 1 (v.snd.fst.fst) (fun i => [.int .i64 (v.snd.fst.snd i)]))]] [] (.p (.bool (pinnedF v))),
  ((!pinnedF v) = true),
  ((0 : Nat) < 1),
  (((true) = true) → ((1 : Nat) = 1)),
  ((0 : Nat) < 1),
  ((0 : Int) = 0),
  ((0 : Nat) = 0),
  ((0 : Nat) = 0),
  ((0 : Nat) = 0),
  (false = false),
  ((0 : Nat) = 0),
  ((0 : Nat) = 0),
  (false = false),
  (∀ i : Nat, ((((i) : Nat) < 0) → All [])),
  (∀ i : Nat, ((((i) : Nat) < 0) → All [])),
  (∀ i : Nat, ((((i) : Nat) < 0) → All []))] := by kernel_rfl
theorem p31a (v : T_Pinned) :
    pathOb Try.prog Try.f31 0 [.reg [oT, oT, oT], .reg [oT, ⟨true, (some ⟨[], [], 1, [], .p (.bool (pinnedF v))⟩)⟩, oT], .dec false, .reg [oT, ⟨true, (some ⟨[], [], 1, [(0, grOb v.1), (1, inOb v.2.1)], .agg (grO v.1 0 ++ [.ar 1 1 0 v.2.1.1])⟩)⟩, oT, oT, oT]] [.code (bodyOf Try.f31)] (start Try.f31 [] 0 [pinA v]) [224, 225] 1 [(0, grOb v.1), (1, inOb v.2.1)] (.tup [.agg (grO v.1 0 ++ [.ar 1 1 0 v.2.1.1, .p (.seq false 1 0 (fun i => [.str (ByteArray.mk #[])]))]), .p (.bool true)]) =
    some [((0 : Nat) < 1),
  Con (Try.prog) 57 0 [] [.agg [.p (.int .i64 (v.fst.fst)), .p (.seq true 2 (v.fst.snd.fst.fst) (fun i => [.int .i64 ((v.fst.snd.fst.snd i).fst), .int .i64 ((v.fst.snd.fst.snd i).snd.fst)])), .p (.seq true 1 (v.snd.fst.fst) (fun i => [.int .i64 (v.snd.fst.snd i)]))]] [] (.p (.bool (pinnedF v))),
  ((!pinnedF v) = false),
  ((0 : Nat) < 1),
  Con (Try.prog) 70 0 [] [.agg [.p (.int .i64 (v.fst.fst)), .p (.seq true 2 (v.fst.snd.fst.fst) (fun i => [.int .i64 ((v.fst.snd.fst.snd i).fst), .int .i64 ((v.fst.snd.fst.snd i).snd.fst)])), .p (.seq true 1 (v.snd.fst.fst) (fun i => [.int .i64 (v.snd.fst.snd i)]))]] [(0, ⟨false, 2, (v.fst.snd.fst.fst), (fun i => [.p (.int .i64 ((v.fst.snd.fst.snd i).fst)), .p (.int .i64 ((v.fst.snd.fst.snd i).snd.fst))])⟩), (1, ⟨false, 1, (v.snd.fst.fst), (fun i => [.p (.int .i64 (v.snd.fst.snd i))])⟩)] (.agg [.p (.int .i64 (v.fst.fst)), .ar 2 0 0 (v.fst.snd.fst.fst), .ar 1 1 0 (v.snd.fst.fst)]),
  ((0 : Nat) < 1),
  (((true) = true) → ((1 : Nat) = 1)),
  ((0 : Nat) < 1),
  (((v.fst.fst) : Int) = (v.fst.fst)),
  ((0 : Nat) = 0),
  (((v.fst.snd.fst.fst) : Nat) = (v.fst.snd.fst.fst)),
  ((0 : Nat) = 0),
  (((v.snd.fst.fst) : Nat) = (v.snd.fst.fst)),
  ((0 : Nat) = 0),
  (true = true),
  ((2 : Nat) = 2),
  (((v.fst.snd.fst.fst) : Nat) ≤ (v.fst.snd.fst.fst)),
  (∀ i : Nat, ((((i) : Nat) < (v.fst.snd.fst.fst)) → (All [] ∧ (([.p (.int .i64 ((v.fst.snd.fst.snd i).fst)), .p (.int .i64 ((v.fst.snd.fst.snd i).snd.fst))] : List AV) = [.p (.int .i64 ((v.fst.snd.fst.snd i).fst)), .p (.int .i64 ((v.fst.snd.fst.snd i).snd.fst))])))),
  ((1 : Nat) = 1),
  (((v.snd.fst.fst) : Nat) ≤ (v.snd.fst.fst)),
  (∀ i : Nat, ((((i) : Nat) < (v.snd.fst.fst)) → (All [] ∧ (([.p (.int .i64 (v.snd.fst.snd i))] : List AV) = [.p (.int .i64 (v.snd.fst.snd i))])))),
  (false = false),
  (∀ i : Nat, ((((i) : Nat) < 0) → All [])),
  (∀ i : Nat, ((((i) : Nat) < (v.fst.snd.fst.fst)) → All [])),
  (∀ i : Nat, ((((i) : Nat) < (v.snd.fst.fst)) → All []))] := by kernel_rfl
theorem p31b (v : T_Pinned) :
    pathOb Try.prog Try.f31 0 [.reg [oT, oT, oT], .reg [oT, ⟨true, (some ⟨[], [], 1, [], .p (.bool (pinnedF v))⟩)⟩, oT], .dec true, .reg [oT, oT, oT]] [.code (bodyOf Try.f31)] (start Try.f31 [] 0 [pinA v]) [] 1 [(0, grOb zeroPin.1), (1, inOb zeroPin.2.1)] (.tup [.agg (grO zeroPin.1 0 ++ [.ar 1 1 0 zeroPin.2.1.1, .p (.seq false 1 0 (fun i => [.str (ByteArray.mk #[])]))]), .p (.bool false)]) =
    some [((0 : Nat) < 1),
  Con (Try.prog) 57 0 [] [.agg [.p (.int .i64 (v.fst.fst)), .p (.seq true 2 (v.fst.snd.fst.fst) (fun i => [.int .i64 ((v.fst.snd.fst.snd i).fst), .int .i64 ((v.fst.snd.fst.snd i).snd.fst)])), .p (.seq true 1 (v.snd.fst.fst) (fun i => [.int .i64 (v.snd.fst.snd i)]))]] [] (.p (.bool (pinnedF v))),
  ((!pinnedF v) = true),
  ((0 : Nat) < 1),
  (((true) = true) → ((1 : Nat) = 1)),
  ((0 : Nat) < 1),
  ((0 : Int) = 0),
  ((0 : Nat) = 0),
  ((0 : Nat) = 0),
  ((0 : Nat) = 0),
  (false = false),
  ((0 : Nat) = 0),
  ((0 : Nat) = 0),
  (false = false),
  (∀ i : Nat, ((((i) : Nat) < 0) → All [])),
  (∀ i : Nat, ((((i) : Nat) < 0) → All [])),
  (∀ i : Nat, ((((i) : Nat) < 0) → All []))] := by kernel_rfl

theorem con_l2Copy (v : T_Graph) (hn : v.2.1.1 ≤ 1048576) : Con Try.prog 98 0 [] [graphA v] [(0, grOb v)] (.agg (grO v 0)) := by
  refine con_start Try.func98 rfl (by kernel_rfl) rfl (fun c hc => ?_)
  refine path_ok mixed Try.func98 hc (p98 v) ?_
  simp only [All]
  repeat' (first | exact trivial | with_reducible apply And.intro)
  all_goals (first | omega | rfl | (intros; first | assumption | exact True.intro | rfl | exact absurd (show false = true by assumption) Bool.false_ne_true | ((repeat' (first | assumption | apply anda | apply notf)); done)) | (intro i hi; simp [All]))

theorem con_copyGraph (v : T_Graph) (hn : v.2.1.1 ≤ 1048576) : Con Try.prog 99 0 [] [graphA v] [(0, grOb v)] (.agg (grO v 0)) := by
  refine con_start Try.func99 rfl (by kernel_rfl) rfl (fun c hc => ?_)
  refine path_ok mixed Try.func99 hc (p99 v) ?_
  simp only [All]
  repeat' (first | exact trivial | with_reducible apply And.intro)
  all_goals (first | omega | rfl | (intros; first | assumption | exact True.intro | rfl | exact absurd (show false = true by assumption) Bool.false_ne_true | ((repeat' (first | assumption | apply anda | apply notf)); done)) | (intro i hi; simp [All]))

theorem con_copyInts (v : T_IntS) (hn : v.1 ≤ 1048576) : Con Try.prog 100 0 [] [inL v] [(0, inOb v)] (.ar 1 0 0 v.1) := by
  refine con_start Try.func100 rfl (by kernel_rfl) rfl (fun c hc => ?_)
  refine path_ok mixed Try.func100 hc (p100 v) ?_
  simp only [All]
  repeat' (first | exact trivial | with_reducible apply And.intro)
  all_goals (first | omega | rfl | (intros; first | assumption | exact True.intro | rfl | exact absurd (show false = true by assumption) Bool.false_ne_true | ((repeat' (first | assumption | apply anda | apply notf)); done)) | (intro i hi; simp [All]))

theorem con_copyPinned (v : T_Pinned) (hb : v.1.2.1.1 ≤ 1048576) (hi' : v.2.1.1 ≤ 1048576) : Con Try.prog 70 0 [] [pinA v] [(0, grOb v.1), (1, inOb v.2.1)] (.agg (grO v.1 0 ++ [.ar 1 1 0 v.2.1.1])) := by
  refine con_start Try.func70 rfl (by kernel_rfl) rfl (fun c hc => ?_)
  refine path_ok mixed Try.func70 hc (p70 v) ?_
  simp only [All]
  repeat' (first | exact trivial | with_reducible apply And.intro)
  all_goals (first | omega | rfl | (intros; first | assumption | exact True.intro | rfl | exact absurd (show false = true by assumption) Bool.false_ne_true | ((repeat' (first | assumption | apply anda | apply notf)); done)) | (exact con_copyGraph v.1 hb) | (exact con_copyInts v.2.1 hi') | (intro i hi; simp [All]))

theorem con_l31Copy (v : T_Pinned) (hb : v.1.2.1.1 ≤ 1048576) (hi' : v.2.1.1 ≤ 1048576) : Con Try.prog 69 0 [] [.agg [.p (.int .i64 v.1.1), graphL v.1.2.1, inL v.2.1, .p .nil]] [(0, grOb v.1), (1, inOb v.2.1)] (.agg (grO v.1 0 ++ [.ar 1 1 0 v.2.1.1, .p (.seq false 1 0 (fun i => [.str (ByteArray.mk #[])]))])) := by
  refine con_start Try.func69 rfl (by kernel_rfl) rfl (fun c hc => ?_)
  refine path_ok mixed Try.func69 hc (p69 v) ?_
  simp only [All]
  repeat' (first | exact trivial | with_reducible apply And.intro)
  all_goals (first | omega | rfl | (intros; first | assumption | exact True.intro | rfl | exact absurd (show false = true by assumption) Bool.false_ne_true | ((repeat' (first | assumption | apply anda | apply notf)); done)) | (exact con_l2Copy v.1 hb) | (intro i hi; simp [All]))

theorem con_NewSite_s (v : T_Pinned) (hs : smS s_Pinned v) : Con Try.prog 29 0 [] [pinA v] [(0, grOb (pinR v).1), (1, inOb (pinR v).2.1)]
    (.tup [.agg (grO (pinR v).1 0 ++ [.ar 1 1 0 (pinR v).2.1.1, .p (.seq false 1 0 (fun i => [.str ((siteR v).2.1.2 i)]))]), .p (.bool (pinnedF v))]) := by
  have hb : v.1.2.1.1 ≤ 1048576 := hs.1.2.1.1
  have hi' : v.2.1.1 ≤ 1048576 := hs.2.1.1
  refine con_start Try.func29 rfl (by kernel_rfl) rfl (fun c hc => ?_)
  cases h : pinnedF v with
  | true =>
    rw [show pinR v = v by simp [pinR, h]]
    refine path_ok mixed Try.func29 hc (p29a v) ?_
    simp only [All]
    repeat' (first | exact trivial | with_reducible apply And.intro)
    all_goals (first | omega | rfl | (intros; first | assumption | exact True.intro | rfl | exact absurd (show false = true by assumption) Bool.false_ne_true | ((repeat' (first | assumption | apply anda | apply notf)); done)) | (rw [← h]; exact con_IsPinned_s v hs) | (exact con_IsPinned_s v hs) | (exact con_l31Copy v hb hi') | (intro i hi; simp [All]) | (simp [h]))
  | false =>
    rw [show pinR v = zeroPin by simp [pinR, h]]
    refine path_ok mixed Try.func29 hc (p29b v) ?_
    simp only [All]
    repeat' (first | exact trivial | with_reducible apply And.intro)
    all_goals (first | omega | rfl | (intros; first | assumption | exact True.intro | rfl | exact absurd (show false = true by assumption) Bool.false_ne_true | ((repeat' (first | assumption | apply anda | apply notf)); done)) | (exact con_IsPinned_s v hs) | (intro i hi; simp [All]) | (simp [h]))

theorem con_NewSite_i (v : T_Pinned) (hs : smS s_Pinned v) : Con Try.prog 31 0 [] [pinA v] [(0, grOb (pinR v).1), (1, inOb (pinR v).2.1)]
    (.tup [.agg (grO (pinR v).1 0 ++ [.ar 1 1 0 (pinR v).2.1.1, .p (.seq false 1 0 (fun i => [.str ((siteR v).2.1.2 i)]))]), .p (.bool (pinnedF v))]) := by
  have hb : v.1.2.1.1 ≤ 1048576 := hs.1.2.1.1
  have hi' : v.2.1.1 ≤ 1048576 := hs.2.1.1
  refine con_start Try.func31 rfl (by kernel_rfl) rfl (fun c hc => ?_)
  cases h : pinnedF v with
  | true =>
    rw [show pinR v = v by simp [pinR, h]]
    refine path_ok mixed Try.func31 hc (p31a v) ?_
    simp only [All]
    repeat' (first | exact trivial | with_reducible apply And.intro)
    all_goals (first | omega | rfl | (intros; first | assumption | exact True.intro | rfl | exact absurd (show false = true by assumption) Bool.false_ne_true | ((repeat' (first | assumption | apply anda | apply notf)); done)) | (exact con_IsPinned_i v hs) | (exact con_copyPinned v hb hi') | (intro i hi; simp [All]) | (simp [h]))
  | false =>
    rw [show pinR v = zeroPin by simp [pinR, h]]
    refine path_ok mixed Try.func31 hc (p31b v) ?_
    simp only [All]
    repeat' (first | exact trivial | with_reducible apply And.intro)
    all_goals (first | omega | rfl | (intros; first | assumption | exact True.intro | rfl | exact absurd (show false = true by assumption) Bool.false_ne_true | ((repeat' (first | assumption | apply anda | apply notf)); done)) | (exact con_IsPinned_i v hs) | (intro i hi; simp [All]) | (simp [h]))

theorem sm_siteR (v : T_Pinned) (hs : smS s_Pinned v) : smS s_Site (siteR v) := by
  have h0 : smS s_Pinned zeroPin := ⟨⟨by simp [smS, smL], ⟨by show (0 : Nat) ≤ 1048576; omega, fun i hi => absurd hi (by show ¬ i < 0; omega)⟩, True.intro⟩, ⟨by show (0 : Nat) ≤ 1048576; omega, fun i hi => absurd hi (by show ¬ i < 0; omega)⟩, True.intro⟩
  have h1 : smS s_Pinned (pinR v) := by
    unfold pinR
    split
    · exact hs
    · exact h0
  exact ⟨h1, ⟨by show (0 : Nat) ≤ 1048576; omega, fun i hi => absurd hi (by show ¬ i < 0; omega)⟩, True.intro⟩

end Go.Proofs.Ytgddbgmnehkblab.Mach
