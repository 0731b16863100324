/- The law FnExactNewSite as a contract: it answers true. Written by our own lawtop2.py. Conditions: lengths that values can have. -/
import Derived.Test.YtgddbgmnehkblabNewSite
namespace Go.Proofs.Ytgddbgmnehkblab.Mach
open Go
set_option linter.unusedVariables false
set_option linter.unusedSimpArgs false

theorem p_FnExactNewSite_0 (v0 : T_Pinned) :
    pathOb Try.prog Try.f7 0 [.reg [oT, oT], .reg [oT], .reg [oT, oT, ⟨true, (some ⟨[], [], 1, [], .p (.int .i64 (f_szPinned v0 1048576))⟩)⟩, oT], .reg [oT, oT], .dec true, .reg [oT]] [.code (bodyOf Try.f7)] (start Try.f7 [] 0 [.agg [.p (.int .i64 (v0.1.1)), .p (.seq true 2 (v0.1.2.1.1) (fun i => [.int .i64 ((v0.1.2.1.2 i).1), .int .i64 ((v0.1.2.1.2 i).2.1)])), .p (.seq true 1 (v0.2.1.1) (fun i => [.int .i64 ((v0.2.1.2 i))]))]]) [] 1 [] (.p (.bool true)) =
    some [((0 : Nat) < 1),
  Con (Try.prog) 28 0 [] [.agg [.p (.int .i64 (v0.fst.fst)), .p (.seq true 2 (v0.fst.snd.fst.fst) (fun i => [.int .i64 ((v0.fst.snd.fst.snd i).fst), .int .i64 ((v0.fst.snd.fst.snd i).snd.fst)])), .p (.seq true 1 (v0.snd.fst.fst) (fun i => [.int .i64 (v0.snd.fst.snd i)]))], .p (.int .i64 1048576)] [] (.p (.int .i64 (f_szPinned v0 1048576))),
  ((decide (f_szPinned v0 1048576 < 0)) = true),
  (true = true)] := by kernel_rfl
theorem p_FnExactNewSite_e (v0 : T_Pinned) :
    pathOb Try.prog Try.f7 0 [.reg [oT, oT], .reg [oT], .reg [oT, oT, ⟨true, (some ⟨[], [], 1, [], .p (.int .i64 (f_szPinned v0 1048576))⟩)⟩, oT], .reg [oT, oT], .dec false, .reg [oT, ⟨true, (some ⟨[], [], 1, [(0, ⟨false, 2, v0.1.2.1.1, fun i => [.p (.int .i64 ((v0.1.2.1.2 i).1)), .p (.int .i64 ((v0.1.2.1.2 i).2.1))]⟩), (1, ⟨false, 1, v0.2.1.1, fun i => [.p (.int .i64 ((v0.2.1.2 i)))]⟩)], .agg [.p (.int .i64 (v0.1.1)), .ar 2 0 0 (v0.1.2.1.1), .ar 1 1 0 (v0.2.1.1)]⟩)⟩, ⟨true, (some ⟨[], [], 1, [(0, ⟨false, 2, (siteR v0).1.1.2.1.1, fun i => [.p (.int .i64 (((siteR v0).1.1.2.1.2 i).1)), .p (.int .i64 (((siteR v0).1.1.2.1.2 i).2.1))]⟩), (1, ⟨false, 1, (siteR v0).1.2.1.1, fun i => [.p (.int .i64 (((siteR v0).1.2.1.2 i)))]⟩)], .tup [.agg [.p (.int .i64 ((siteR v0).1.1.1)), .ar 2 0 0 ((siteR v0).1.1.2.1.1), .ar 1 1 0 ((siteR v0).1.2.1.1), .p (.seq false 1 0 (fun i => [.str ((siteR v0).2.1.2 i)]))], .p (.bool ((pinnedF v0)))]⟩)⟩, oT, oT, oT, oT, oT, oT], .reg [oT, ⟨true, (some ⟨[], [], 1, [(0, ⟨false, 2, v0.1.2.1.1, fun i => [.p (.int .i64 ((v0.1.2.1.2 i).1)), .p (.int .i64 ((v0.1.2.1.2 i).2.1))]⟩), (1, ⟨false, 1, v0.2.1.1, fun i => [.p (.int .i64 ((v0.2.1.2 i)))]⟩)], .agg [.p (.int .i64 (v0.1.1)), .ar 2 0 0 (v0.1.2.1.1), .ar 1 1 0 (v0.2.1.1)]⟩)⟩, oT, oT], .reg [oT, ⟨true, (some ⟨[], [], 1, [(0, ⟨false, 2, (siteR v0).1.1.2.1.1, fun i => [.p (.int .i64 (((siteR v0).1.1.2.1.2 i).1)), .p (.int .i64 (((siteR v0).1.1.2.1.2 i).2.1))]⟩), (1, ⟨false, 1, (siteR v0).1.2.1.1, fun i => [.p (.int .i64 (((siteR v0).1.2.1.2 i)))]⟩)], .tup [.agg [.p (.int .i64 ((siteR v0).1.1.1)), .ar 2 0 0 ((siteR v0).1.1.2.1.1), .ar 1 1 0 ((siteR v0).1.2.1.1), .p (.seq false 1 0 (fun i => [.str ((siteR v0).2.1.2 i)]))], .p (.bool ((pinnedF v0)))]⟩)⟩, oT, oT, oT, oT, oT, oT], .reg [oT, oT, ⟨true, (some ⟨[], [], 1, [], .p (.bool true)⟩)⟩, oT, oT, oT, oT, oT, oT], .dec false, .reg [oT, oT, ⟨true, (some ⟨[], [], 1, [(0, ⟨false, 2, v0.1.2.1.1, fun i => [.p (.int .i64 ((v0.1.2.1.2 i).1)), .p (.int .i64 ((v0.1.2.1.2 i).2.1))]⟩), (1, ⟨false, 1, v0.2.1.1, fun i => [.p (.int .i64 ((v0.2.1.2 i)))]⟩)], .agg [.p (.int .i64 (v0.1.1)), .ar 2 0 0 (v0.1.2.1.1), .ar 1 1 0 (v0.2.1.1)]⟩)⟩, ⟨true, (some ⟨[], [], 1, [], .p (.bool true)⟩)⟩, oT], .dec false, .reg [oT], .reg [oT, oT, ⟨true, (some ⟨[608, 609], [], 1, [(0, ⟨false, 2, v0.1.2.1.1, fun i => [.p (.int .i64 (1 + 2 * (i : Int))), .p (.int .i64 (1 + 2 * (i : Int) + 1))]⟩), (1, ⟨false, 1, v0.2.1.1, fun i => [.p (.int .i64 (1 + 2 * (v0.1.2.1.1 : Int) + (i : Int)))]⟩)], .p (.int .i64 (1 + 2 * (v0.1.2.1.1 : Int) + (v0.2.1.1 : Int)))⟩)⟩, oT], .reg [oT, oT, oT, oT, oT, ⟨true, (some ⟨[], [], 1, [], .p (.bool true)⟩)⟩, oT, oT, oT, oT, oT, oT, oT], .dec false, .reg [oT], .reg [oT, oT, ⟨true, (some ⟨[736, 737], [], 1, [(0, ⟨false, 2, (siteR v0).1.1.2.1.1, fun i => [.p (.int .i64 (1 + 2 * (i : Int))), .p (.int .i64 (1 + 2 * (i : Int) + 1))]⟩), (1, ⟨false, 1, (siteR v0).1.2.1.1, fun i => [.p (.int .i64 (1 + 2 * ((siteR v0).1.1.2.1.1 : Int) + (i : Int)))]⟩)], .p (.int .i64 (1 + 2 * ((siteR v0).1.1.2.1.1 : Int) + ((siteR v0).1.2.1.1 : Int)))⟩)⟩, oT], .reg [oT], .reg [oT, oT, ⟨true, (some ⟨[], [], 1, [], .p (.int .i64 (1 + 2 * ((siteR v0).1.1.2.1.1 : Int) + ((siteR v0).1.2.1.1 : Int)))⟩)⟩, oT], .reg [oT, oT], .dec false, .reg [oT, oT, oT], .dec false, .reg [oT, ⟨true, (some ⟨[], [], 1, [(0, ⟨false, 2, v0.1.2.1.1, fun i => [.p (.int .i64 ((v0.1.2.1.2 i).1)), .p (.int .i64 ((v0.1.2.1.2 i).2.1))]⟩), (1, ⟨false, 1, v0.2.1.1, fun i => [.p (.int .i64 ((v0.2.1.2 i)))]⟩)], .agg [.p (.int .i64 (v0.1.1)), .ar 2 0 0 (v0.1.2.1.1), .ar 1 1 0 (v0.2.1.1)]⟩)⟩, ⟨true, (some ⟨[], [], 1, [(0, ⟨false, 2, (siteR v0).1.1.2.1.1, fun i => [.p (.int .i64 (((siteR v0).1.1.2.1.2 i).1)), .p (.int .i64 (((siteR v0).1.1.2.1.2 i).2.1))]⟩), (1, ⟨false, 1, (siteR v0).1.2.1.1, fun i => [.p (.int .i64 (((siteR v0).1.2.1.2 i)))]⟩)], .tup [.agg [.p (.int .i64 ((siteR v0).1.1.1)), .ar 2 0 0 ((siteR v0).1.1.2.1.1), .ar 1 1 0 ((siteR v0).1.2.1.1), .p (.seq false 1 0 (fun i => [.str ((siteR v0).2.1.2 i)]))], .p (.bool ((pinnedF v0)))]⟩)⟩, oT, oT, oT, oT, oT, oT], .reg [oT, oT, ⟨true, (some ⟨[], [], 1, [], .p (.bool true)⟩)⟩, oT, oT, oT, oT, oT, oT], .dec false, .reg [oT], .reg [oT, oT, ⟨true, (some ⟨[], [], 1, [], .p (.int .i64 (1 + 2 * ((siteR v0).1.1.2.1.1 : Int) + ((siteR v0).1.2.1.1 : Int)))⟩)⟩, oT], .reg [oT, oT], .dec false, .reg [oT, oT, oT], .dec false, .reg [oT]] [.code (bodyOf Try.f7)] (start Try.f7 [] 0 [.agg [.p (.int .i64 (v0.1.1)), .p (.seq true 2 (v0.1.2.1.1) (fun i => [.int .i64 ((v0.1.2.1.2 i).1), .int .i64 ((v0.1.2.1.2 i).2.1)])), .p (.seq true 1 (v0.2.1.1) (fun i => [.int .i64 ((v0.2.1.2 i))]))]]) [] 1 [] (.p (.bool true)) =
    some [((0 : Nat) < 1),
  Con (Try.prog) 28 0 [] [.agg [.p (.int .i64 (v0.fst.fst)), .p (.seq true 2 (v0.fst.snd.fst.fst) (fun i => [.int .i64 ((v0.fst.snd.fst.snd i).fst), .int .i64 ((v0.fst.snd.fst.snd i).snd.fst)])), .p (.seq true 1 (v0.snd.fst.fst) (fun i => [.int .i64 (v0.snd.fst.snd i)]))], .p (.int .i64 1048576)] [] (.p (.int .i64 (f_szPinned v0 1048576))),
  ((decide (f_szPinned v0 1048576 < 0)) = false),
  ((0 : Nat) < 1),
  Con (Try.prog) 30 0 [] [.agg [.p (.int .i64 (v0.fst.fst)), .p (.seq true 2 (v0.fst.snd.fst.fst) (fun i => [.int .i64 ((v0.fst.snd.fst.snd i).fst), .int .i64 ((v0.fst.snd.fst.snd i).snd.fst)])), .p (.seq true 1 (v0.snd.fst.fst) (fun i => [.int .i64 (v0.snd.fst.snd i)]))]] [(0, ⟨false, 2, (v0.fst.snd.fst.fst), (fun i => [.p (.int .i64 ((v0.fst.snd.fst.snd i).fst)), .p (.int .i64 ((v0.fst.snd.fst.snd i).snd.fst))])⟩), (1, ⟨false, 1, (v0.snd.fst.fst), (fun i => [.p (.int .i64 (v0.snd.fst.snd i))])⟩)] (.agg [.p (.int .i64 (v0.fst.fst)), .ar 2 0 0 (v0.fst.snd.fst.fst), .ar 1 1 0 (v0.snd.fst.fst)]),
  ((2 : Nat) = 2),
  (((v0.fst.snd.fst.fst) : Nat) ≤ (v0.fst.snd.fst.fst)),
  ((1 : Nat) = 1),
  (((v0.snd.fst.fst) : Nat) ≤ (v0.snd.fst.fst)),
  Con (Try.prog) 29 0 [] [.agg [.p (.int .i64 (v0.fst.fst)), .p (.seq true 2 (v0.fst.snd.fst.fst) (fun i => [.int .i64 ((v0.fst.snd.fst.snd i).fst), .int .i64 ((v0.fst.snd.fst.snd i).snd.fst)])), .p (.seq true 1 (v0.snd.fst.fst) (fun i => [.int .i64 (v0.snd.fst.snd i)]))]] [(0, ⟨false, 2, ((pinR v0).fst.snd.fst.fst), (fun i => [.p (.int .i64 (((pinR v0).fst.snd.fst.snd i).fst)), .p (.int .i64 (((pinR v0).fst.snd.fst.snd i).snd.fst))])⟩), (1, ⟨false, 1, ((pinR v0).snd.fst.fst), (fun i => [.p (.int .i64 ((pinR v0).snd.fst.snd i))])⟩)] (.tup [.agg [.p (.int .i64 ((pinR v0).fst.fst)), .ar 2 0 0 ((pinR v0).fst.snd.fst.fst), .ar 1 1 0 ((pinR v0).snd.fst.fst), .p (.seq false 1 0 (fun i => [.str ((0, fun x => { data := #[] }).snd i)]))], .p (.bool (pinnedF v0))]),
  ((0 : Nat) < 1),
  (((true) = true) → ((1 : Nat) = 1)),
  ((0 : Nat) < 1),
  Con (Try.prog) 30 0 [] [.agg [.p (.int .i64 (v0.fst.fst)), .p (.seq true 2 (v0.fst.snd.fst.fst) (fun i => [.int .i64 ((v0.fst.snd.fst.snd i).fst), .int .i64 ((v0.fst.snd.fst.snd i).snd.fst)])), .p (.seq true 1 (v0.snd.fst.fst) (fun i => [.int .i64 (v0.snd.fst.snd i)]))]] [(0, ⟨false, 2, (v0.fst.snd.fst.fst), (fun i => [.p (.int .i64 ((v0.fst.snd.fst.snd i).fst)), .p (.int .i64 ((v0.fst.snd.fst.snd i).snd.fst))])⟩), (1, ⟨false, 1, (v0.snd.fst.fst), (fun i => [.p (.int .i64 (v0.snd.fst.snd i))])⟩)] (.agg [.p (.int .i64 (v0.fst.fst)), .ar 2 0 0 (v0.fst.snd.fst.fst), .ar 1 1 0 (v0.snd.fst.fst)]),
  ((0 : Nat) < 1),
  (((true) = true) → ((1 : Nat) = 1)),
  ((0 : Nat) < 1),
  ((2 : Nat) = 2),
  (((v0.fst.snd.fst.fst) : Nat) ≤ (v0.fst.snd.fst.fst)),
  ((1 : Nat) = 1),
  (((v0.snd.fst.fst) : Nat) ≤ (v0.snd.fst.fst)),
  Con (Try.prog) 31 0 [] [.agg [.p (.int .i64 (v0.fst.fst)), .p (.seq true 2 (v0.fst.snd.fst.fst) (fun i => [.int .i64 ((v0.fst.snd.fst.snd i).fst), .int .i64 ((v0.fst.snd.fst.snd i).snd.fst)])), .p (.seq true 1 (v0.snd.fst.fst) (fun i => [.int .i64 (v0.snd.fst.snd i)]))]] [(0, ⟨false, 2, ((pinR v0).fst.snd.fst.fst), (fun i => [.p (.int .i64 (((pinR v0).fst.snd.fst.snd i).fst)), .p (.int .i64 (((pinR v0).fst.snd.fst.snd i).snd.fst))])⟩), (1, ⟨false, 1, ((pinR v0).snd.fst.fst), (fun i => [.p (.int .i64 ((pinR v0).snd.fst.snd i))])⟩)] (.tup [.agg [.p (.int .i64 ((pinR v0).fst.fst)), .ar 2 0 0 ((pinR v0).fst.snd.fst.fst), .ar 1 1 0 ((pinR v0).snd.fst.fst), .p (.seq false 1 0 (fun i => [.str ((0, fun x => { data := #[] }).snd i)]))], .p (.bool (pinnedF v0))]),
  ((0 : Nat) < 1),
  (((true) = true) → ((1 : Nat) = 1)),
  ((0 : Nat) < 1),
  ((0 : Nat) < 1),
  ((2 : Nat) = 2),
  ((((pinR v0).fst.snd.fst.fst) : Nat) ≤ ((pinR v0).fst.snd.fst.fst)),
  ((1 : Nat) = 1),
  ((((pinR v0).snd.fst.fst) : Nat) ≤ ((pinR v0).snd.fst.fst)),
  ((2 : Nat) = 2),
  ((((pinR v0).fst.snd.fst.fst) : Nat) ≤ ((pinR v0).fst.snd.fst.fst)),
  ((1 : Nat) = 1),
  ((((pinR v0).snd.fst.fst) : Nat) ≤ ((pinR v0).snd.fst.fst)),
  Con (Try.prog) 20 0 [] [.agg [.p (.int .i64 ((pinR v0).fst.fst)), .p (.seq true 2 ((pinR v0).fst.snd.fst.fst) (fun i => [.int .i64 (((pinR v0).fst.snd.fst.snd i).fst), .int .i64 (((pinR v0).fst.snd.fst.snd i).snd.fst)])), .p (.seq true 1 ((pinR v0).snd.fst.fst) (fun i => [.int .i64 ((pinR v0).snd.fst.snd i)])), .p (.seq true 1 0 (fun i => [.str ((0, fun x => { data := #[] }).snd i)]))], .agg [.p (.int .i64 ((pinR v0).fst.fst)), .p (.seq true 2 ((pinR v0).fst.snd.fst.fst) (fun i => [.int .i64 (((pinR v0).fst.snd.fst.snd i).fst), .int .i64 (((pinR v0).fst.snd.fst.snd i).snd.fst)])), .p (.seq true 1 ((pinR v0).snd.fst.fst) (fun i => [.int .i64 ((pinR v0).snd.fst.snd i)])), .p (.seq true 1 0 (fun i => [.str ((0, fun x => { data := #[] }).snd i)]))]] [] (.p (.bool true)),
  (((!!true) = true) → ((!!true) = true)),
  (((!!true) = true) → ((!!true) = true)),
  (((!true) = false) → ((!!true) = true)),
  ((bif !true then true else !pinnedF v0 == pinnedF v0) = false),
  ((0 : Nat) < 1),
  ((0 : Nat) < 1),
  Con (Try.prog) 30 0 [] [.agg [.p (.int .i64 (v0.fst.fst)), .p (.seq true 2 (v0.fst.snd.fst.fst) (fun i => [.int .i64 ((v0.fst.snd.fst.snd i).fst), .int .i64 ((v0.fst.snd.fst.snd i).snd.fst)])), .p (.seq true 1 (v0.snd.fst.fst) (fun i => [.int .i64 (v0.snd.fst.snd i)]))]] [(0, ⟨false, 2, (v0.fst.snd.fst.fst), (fun i => [.p (.int .i64 ((v0.fst.snd.fst.snd i).fst)), .p (.int .i64 ((v0.fst.snd.fst.snd i).snd.fst))])⟩), (1, ⟨false, 1, (v0.snd.fst.fst), (fun i => [.p (.int .i64 (v0.snd.fst.snd i))])⟩)] (.agg [.p (.int .i64 (v0.fst.fst)), .ar 2 0 0 (v0.fst.snd.fst.fst), .ar 1 1 0 (v0.snd.fst.fst)]),
  ((2 : Nat) = 2),
  (((v0.fst.snd.fst.fst) : Nat) ≤ (v0.fst.snd.fst.fst)),
  ((1 : Nat) = 1),
  (((v0.snd.fst.fst) : Nat) ≤ (v0.snd.fst.fst)),
  ((2 : Nat) = 2),
  (((v0.fst.snd.fst.fst) : Nat) ≤ (v0.fst.snd.fst.fst)),
  ((1 : Nat) = 1),
  (((v0.snd.fst.fst) : Nat) ≤ (v0.snd.fst.fst)),
  Con (Try.prog) 32 0 [] [.agg [.p (.int .i64 (v0.fst.fst)), .p (.seq true 2 (v0.fst.snd.fst.fst) (fun i => [.int .i64 ((v0.fst.snd.fst.snd i).fst), .int .i64 ((v0.fst.snd.fst.snd i).snd.fst)])), .p (.seq true 1 (v0.snd.fst.fst) (fun i => [.int .i64 (v0.snd.fst.snd i)]))], .agg [.p (.int .i64 (v0.fst.fst)), .p (.seq true 2 (v0.fst.snd.fst.fst) (fun i => [.int .i64 ((v0.fst.snd.fst.snd i).fst), .int .i64 ((v0.fst.snd.fst.snd i).snd.fst)])), .p (.seq true 1 (v0.snd.fst.fst) (fun i => [.int .i64 (v0.snd.fst.snd i)]))]] [] (.p (.bool true)),
  ((!true) = false),
  ((0 : Nat) < 1),
  (∀ i : Nat, ((((i) : Nat) < (v0.fst.snd.fst.fst)) → All [])),
  (∀ i : Nat, ((((i) : Nat) < (v0.snd.fst.fst)) → All [])),
  Con (Try.prog) 33 2 [(0, ⟨false, 2, (v0.fst.snd.fst.fst), (fun i => [.p (.int .i64 ((v0.fst.snd.fst.snd i).fst)), .p (.int .i64 ((v0.fst.snd.fst.snd i).snd.fst))])⟩), (1, ⟨false, 1, (v0.snd.fst.fst), (fun i => [.p (.int .i64 (v0.snd.fst.snd i))])⟩)] [.agg [.p (.int .i64 (v0.fst.fst)), .ar 2 0 0 (v0.fst.snd.fst.fst), .ar 1 1 0 (v0.snd.fst.fst)], .p (.int .i64 1)] [(0, ⟨false, 2, (v0.fst.snd.fst.fst), (fun i => [.p (.int .i64 (1 + 2 * (↑i : Int))), .p (.int .i64 (1 + 2 * (↑i : Int) + 1))])⟩), (1, ⟨false, 1, (v0.snd.fst.fst), (fun i => [.p (.int .i64 (1 + 2 * (↑v0.fst.snd.fst.fst : Int) + (↑i : Int)))])⟩)] (.p (.int .i64 (1 + 2 * (↑v0.fst.snd.fst.fst : Int) + (↑v0.snd.fst.fst : Int)))),
  (((!decide (1 + 2 * (↑v0.fst.snd.fst.fst : Int) + (↑v0.snd.fst.fst : Int) < 0)) = true) → ((0 : Nat) < 1)),
  (((!decide (1 + 2 * (↑v0.fst.snd.fst.fst : Int) + (↑v0.snd.fst.fst : Int) < 0)) = true) → ((0 : Nat) < 1)),
  (((!decide (1 + 2 * (↑v0.fst.snd.fst.fst : Int) + (↑v0.snd.fst.fst : Int) < 0)) = true) → ((!decide (1 + 2 * (↑v0.fst.snd.fst.fst : Int) + (↑v0.snd.fst.fst : Int) < 0)) = true)),
  (((!decide (1 + 2 * (↑v0.fst.snd.fst.fst : Int) + (↑v0.snd.fst.fst : Int) < 0)) = true) → ((!decide (1 + 2 * (↑v0.fst.snd.fst.fst : Int) + (↑v0.snd.fst.fst : Int) < 0)) = true)),
  (((!decide (1 + 2 * (↑v0.fst.snd.fst.fst : Int) + (↑v0.snd.fst.fst : Int) < 0)) = true) → ((2 : Nat) = 2)),
  (((!decide (1 + 2 * (↑v0.fst.snd.fst.fst : Int) + (↑v0.snd.fst.fst : Int) < 0)) = true) → ((((pinR v0).fst.snd.fst.fst) : Nat) ≤ ((pinR v0).fst.snd.fst.fst))),
  (((!decide (1 + 2 * (↑v0.fst.snd.fst.fst : Int) + (↑v0.snd.fst.fst : Int) < 0)) = true) → ((1 : Nat) = 1)),
  (((!decide (1 + 2 * (↑v0.fst.snd.fst.fst : Int) + (↑v0.snd.fst.fst : Int) < 0)) = true) → ((((pinR v0).snd.fst.fst) : Nat) ≤ ((pinR v0).snd.fst.fst))),
  (((!decide (1 + 2 * (↑v0.fst.snd.fst.fst : Int) + (↑v0.snd.fst.fst : Int) < 0)) = true) → ((2 : Nat) = 2)),
  (((!decide (1 + 2 * (↑v0.fst.snd.fst.fst : Int) + (↑v0.snd.fst.fst : Int) < 0)) = true) → ((((pinR v0).fst.snd.fst.fst) : Nat) ≤ ((pinR v0).fst.snd.fst.fst))),
  (((!decide (1 + 2 * (↑v0.fst.snd.fst.fst : Int) + (↑v0.snd.fst.fst : Int) < 0)) = true) → ((1 : Nat) = 1)),
  (((!decide (1 + 2 * (↑v0.fst.snd.fst.fst : Int) + (↑v0.snd.fst.fst : Int) < 0)) = true) → ((((pinR v0).snd.fst.fst) : Nat) ≤ ((pinR v0).snd.fst.fst))),
  (((!decide (1 + 2 * (↑v0.fst.snd.fst.fst : Int) + (↑v0.snd.fst.fst : Int) < 0)) = true) → Con (Try.prog) 20 0 [] [.agg [.p (.int .i64 ((pinR v0).fst.fst)), .p (.seq true 2 ((pinR v0).fst.snd.fst.fst) (fun i => [.int .i64 (((pinR v0).fst.snd.fst.snd i).fst), .int .i64 (((pinR v0).fst.snd.fst.snd i).snd.fst)])), .p (.seq true 1 ((pinR v0).snd.fst.fst) (fun i => [.int .i64 ((pinR v0).snd.fst.snd i)])), .p (.seq true 1 0 (fun i => [.str ((0, fun x => { data := #[] }).snd i)]))], .agg [.p (.int .i64 ((pinR v0).fst.fst)), .p (.seq true 2 ((pinR v0).fst.snd.fst.fst) (fun i => [.int .i64 (((pinR v0).fst.snd.fst.snd i).fst), .int .i64 (((pinR v0).fst.snd.fst.snd i).snd.fst)])), .p (.seq true 1 ((pinR v0).snd.fst.fst) (fun i => [.int .i64 ((pinR v0).snd.fst.snd i)])), .p (.seq true 1 0 (fun i => [.str ((0, fun x => { data := #[] }).snd i)]))]] [] (.p (.bool true))),
  (((!decide (1 + 2 * (↑v0.fst.snd.fst.fst : Int) + (↑v0.snd.fst.fst : Int) < 0)) = true) → ((!decide (1 + 2 * (↑v0.fst.snd.fst.fst : Int) + (↑v0.snd.fst.fst : Int) < 0)) = true)),
  (((decide (1 + 2 * (↑v0.fst.snd.fst.fst : Int) + (↑v0.snd.fst.fst : Int) < 0)) = false) → ((!decide (1 + 2 * (↑v0.fst.snd.fst.fst : Int) + (↑v0.snd.fst.fst : Int) < 0)) = true)),
  (((!bif decide (1 + 2 * (↑v0.fst.snd.fst.fst : Int) + (↑v0.snd.fst.fst : Int) < 0) then true else !true) = true) → ((!bif decide (1 + 2 * (↑v0.fst.snd.fst.fst : Int) + (↑v0.snd.fst.fst : Int) < 0) then true else !true) = true)),
  (((!bif decide (1 + 2 * (↑v0.fst.snd.fst.fst : Int) + (↑v0.snd.fst.fst : Int) < 0) then true else !true) = true) → ((!bif decide (1 + 2 * (↑v0.fst.snd.fst.fst : Int) + (↑v0.snd.fst.fst : Int) < 0) then true else !true) = true)),
  (((bif decide (1 + 2 * (↑v0.fst.snd.fst.fst : Int) + (↑v0.snd.fst.fst : Int) < 0) then true else !true) = false) → ((!bif decide (1 + 2 * (↑v0.fst.snd.fst.fst : Int) + (↑v0.snd.fst.fst : Int) < 0) then true else !true) = true)),
  ((bif bif decide (1 + 2 * (↑v0.fst.snd.fst.fst : Int) + (↑v0.snd.fst.fst : Int) < 0) then true else !true then true else !pinnedF v0 == pinnedF v0) = false),
  ((0 : Nat) < 1),
  (∀ i : Nat, ((((i) : Nat) < ((pinR v0).fst.snd.fst.fst)) → All [])),
  (∀ i : Nat, ((((i) : Nat) < ((pinR v0).snd.fst.fst)) → All [])),
  Con (Try.prog) 34 2 [(0, ⟨false, 2, ((pinR v0).fst.snd.fst.fst), (fun i => [.p (.int .i64 (((pinR v0).fst.snd.fst.snd i).fst)), .p (.int .i64 (((pinR v0).fst.snd.fst.snd i).snd.fst))])⟩), (1, ⟨false, 1, ((pinR v0).snd.fst.fst), (fun i => [.p (.int .i64 ((pinR v0).snd.fst.snd i))])⟩)] [.agg [.p (.int .i64 ((pinR v0).fst.fst)), .ar 2 0 0 ((pinR v0).fst.snd.fst.fst), .ar 1 1 0 ((pinR v0).snd.fst.fst), .p (.seq true 1 0 (fun i => [.str ((0, fun x => { data := #[] }).snd i)]))], .p (.int .i64 1)] [(0, ⟨false, 2, ((pinR v0).fst.snd.fst.fst), (fun i => [.p (.int .i64 (1 + 2 * (↑i : Int))), .p (.int .i64 (1 + 2 * (↑i : Int) + 1))])⟩), (1, ⟨false, 1, ((pinR v0).snd.fst.fst), (fun i => [.p (.int .i64 (1 + 2 * (↑(pinR v0).fst.snd.fst.fst : Int) + (↑i : Int)))])⟩)] (.p (.int .i64 (1 + 2 * (↑(pinR v0).fst.snd.fst.fst : Int) + (↑(pinR v0).snd.fst.fst : Int)))),
  ((0 : Nat) < 1),
  ((2 : Nat) = 2),
  ((((pinR v0).fst.snd.fst.fst) : Nat) ≤ ((pinR v0).fst.snd.fst.fst)),
  ((1 : Nat) = 1),
  ((((pinR v0).snd.fst.fst) : Nat) ≤ ((pinR v0).snd.fst.fst)),
  Con (Try.prog) 35 0 [] [.agg [.p (.int .i64 ((pinR v0).fst.fst)), .p (.seq true 2 ((pinR v0).fst.snd.fst.fst) (fun i => [.int .i64 (1 + 2 * (↑i : Int)), .int .i64 (1 + 2 * (↑i : Int) + 1)])), .p (.seq true 1 ((pinR v0).snd.fst.fst) (fun i => [.int .i64 (1 + 2 * (↑(pinR v0).fst.snd.fst.fst : Int) + (↑i : Int))])), .p (.seq true 1 0 (fun i => [.str ((0, fun x => { data := #[] }).snd i)]))], .p (.int .i64 1)] [] (.p (.int .i64 (1 + 2 * (↑(pinR v0).fst.snd.fst.fst : Int) + (↑(pinR v0).snd.fst.fst : Int)))),
  ((decide (1 + 2 * (↑(siteR v0).fst.fst.snd.fst.fst : Int) + (↑(siteR v0).fst.snd.fst.fst : Int) < 0)) = false),
  ((1 + 2 * (↑(pinR v0).fst.snd.fst.fst : Int) + (↑(pinR v0).snd.fst.fst : Int) != 1 + 2 * (↑(pinR v0).fst.snd.fst.fst : Int) + (↑(pinR v0).snd.fst.fst : Int)) = false),
  ((0 : Nat) < 1),
  Con (Try.prog) 30 0 [] [.agg [.p (.int .i64 (v0.fst.fst)), .p (.seq true 2 (v0.fst.snd.fst.fst) (fun i => [.int .i64 ((v0.fst.snd.fst.snd i).fst), .int .i64 ((v0.fst.snd.fst.snd i).snd.fst)])), .p (.seq true 1 (v0.snd.fst.fst) (fun i => [.int .i64 (v0.snd.fst.snd i)]))]] [(0, ⟨false, 2, (v0.fst.snd.fst.fst), (fun i => [.p (.int .i64 ((v0.fst.snd.fst.snd i).fst)), .p (.int .i64 ((v0.fst.snd.fst.snd i).snd.fst))])⟩), (1, ⟨false, 1, (v0.snd.fst.fst), (fun i => [.p (.int .i64 (v0.snd.fst.snd i))])⟩)] (.agg [.p (.int .i64 (v0.fst.fst)), .ar 2 0 0 (v0.fst.snd.fst.fst), .ar 1 1 0 (v0.snd.fst.fst)]),
  ((2 : Nat) = 2),
  (((v0.fst.snd.fst.fst) : Nat) ≤ (v0.fst.snd.fst.fst)),
  ((1 : Nat) = 1),
  (((v0.snd.fst.fst) : Nat) ≤ (v0.snd.fst.fst)),
  Con (Try.prog) 31 0 [] [.agg [.p (.int .i64 (v0.fst.fst)), .p (.seq true 2 (v0.fst.snd.fst.fst) (fun i => [.int .i64 ((v0.fst.snd.fst.snd i).fst), .int .i64 ((v0.fst.snd.fst.snd i).snd.fst)])), .p (.seq true 1 (v0.snd.fst.fst) (fun i => [.int .i64 (v0.snd.fst.snd i)]))]] [(0, ⟨false, 2, ((pinR v0).fst.snd.fst.fst), (fun i => [.p (.int .i64 (((pinR v0).fst.snd.fst.snd i).fst)), .p (.int .i64 (((pinR v0).fst.snd.fst.snd i).snd.fst))])⟩), (1, ⟨false, 1, ((pinR v0).snd.fst.fst), (fun i => [.p (.int .i64 ((pinR v0).snd.fst.snd i))])⟩)] (.tup [.agg [.p (.int .i64 ((pinR v0).fst.fst)), .ar 2 0 0 ((pinR v0).fst.snd.fst.fst), .ar 1 1 0 ((pinR v0).snd.fst.fst), .p (.seq false 1 0 (fun i => [.str ((0, fun x => { data := #[] }).snd i)]))], .p (.bool (pinnedF v0))]),
  ((0 : Nat) < 1),
  (((true) = true) → ((1 : Nat) = 1)),
  ((0 : Nat) < 1),
  ((0 : Nat) < 1),
  ((2 : Nat) = 2),
  ((((pinR v0).fst.snd.fst.fst) : Nat) ≤ ((pinR v0).fst.snd.fst.fst)),
  ((1 : Nat) = 1),
  ((((pinR v0).snd.fst.fst) : Nat) ≤ ((pinR v0).snd.fst.fst)),
  ((2 : Nat) = 2),
  ((((pinR v0).fst.snd.fst.fst) : Nat) ≤ ((pinR v0).fst.snd.fst.fst)),
  ((1 : Nat) = 1),
  ((((pinR v0).snd.fst.fst) : Nat) ≤ ((pinR v0).snd.fst.fst)),
  Con (Try.prog) 20 0 [] [.agg [.p (.int .i64 ((pinR v0).fst.fst)), .p (.seq true 2 ((pinR v0).fst.snd.fst.fst) (fun i => [.int .i64 (((pinR v0).fst.snd.fst.snd i).fst), .int .i64 (((pinR v0).fst.snd.fst.snd i).snd.fst)])), .p (.seq true 1 ((pinR v0).snd.fst.fst) (fun i => [.int .i64 ((pinR v0).snd.fst.snd i)])), .p (.seq true 1 0 (fun i => [.str ((0, fun x => { data := #[] }).snd i)]))], .agg [.p (.int .i64 ((pinR v0).fst.fst)), .p (.seq true 2 ((pinR v0).fst.snd.fst.fst) (fun i => [.int .i64 (((pinR v0).fst.snd.fst.snd i).fst), .int .i64 (((pinR v0).fst.snd.fst.snd i).snd.fst)])), .p (.seq true 1 ((pinR v0).snd.fst.fst) (fun i => [.int .i64 ((pinR v0).snd.fst.snd i)])), .p (.seq true 1 0 (fun i => [.str ((0, fun x => { data := #[] }).snd i)]))]] [] (.p (.bool true)),
  (((!!true) = true) → ((!!true) = true)),
  (((!!true) = true) → ((!!true) = true)),
  (((!true) = false) → ((!!true) = true)),
  ((bif !true then true else !pinnedF v0 == pinnedF v0) = false),
  ((0 : Nat) < 1),
  ((2 : Nat) = 2),
  ((((pinR v0).fst.snd.fst.fst) : Nat) ≤ ((pinR v0).fst.snd.fst.fst)),
  ((1 : Nat) = 1),
  ((((pinR v0).snd.fst.fst) : Nat) ≤ ((pinR v0).snd.fst.fst)),
  Con (Try.prog) 35 0 [] [.agg [.p (.int .i64 ((pinR v0).fst.fst)), .p (.seq true 2 ((pinR v0).fst.snd.fst.fst) (fun i => [.int .i64 (1 + 2 * (↑i : Int)), .int .i64 (1 + 2 * (↑i : Int) + 1)])), .p (.seq true 1 ((pinR v0).snd.fst.fst) (fun i => [.int .i64 (1 + 2 * (↑(pinR v0).fst.snd.fst.fst : Int) + (↑i : Int))])), .p (.seq true 1 0 (fun i => [.str ((0, fun x => { data := #[] }).snd i)]))], .p (.int .i64 1)] [] (.p (.int .i64 (1 + 2 * (↑(pinR v0).fst.snd.fst.fst : Int) + (↑(pinR v0).snd.fst.fst : Int)))),
  ((decide (1 + 2 * (↑(siteR v0).fst.fst.snd.fst.fst : Int) + (↑(siteR v0).fst.snd.fst.fst : Int) < 0)) = false),
  ((1 + 2 * (↑(pinR v0).fst.snd.fst.fst : Int) + (↑(pinR v0).snd.fst.fst : Int) != 1 + 2 * (↑(pinR v0).fst.snd.fst.fst : Int) + (↑(pinR v0).snd.fst.fst : Int)) = false),
  (true = true)] := by kernel_rfl

theorem con_law_FnExactNewSite (v0 : T_Pinned) (k0 : okS s_Pinned v0) : Con Try.prog 7 0 [] [.agg [.p (.int .i64 (v0.1.1)), .p (.seq true 2 (v0.1.2.1.1) (fun i => [.int .i64 ((v0.1.2.1.2 i).1), .int .i64 ((v0.1.2.1.2 i).2.1)])), .p (.seq true 1 (v0.2.1.1) (fun i => [.int .i64 ((v0.2.1.2 i))]))]] [] (.p (.bool true)) := by
  refine con_start Try.func7 rfl (by kernel_rfl) rfl (fun c hc => ?_)
  have l0 := le_szPinned v0 1048576 (by omega)
  by_cases g0 : (f_szPinned v0 1048576) < 0
  · refine path_ok mixed Try.func7 hc (p_FnExactNewSite_0 v0) ?_
    simp only [All]
    repeat' (first | exact trivial | with_reducible apply And.intro)
    all_goals (first | omega | rfl | (intros; first | assumption | exact True.intro | rfl | exact absurd (show false = true by assumption) Bool.false_ne_true | ((repeat' (first | assumption | apply anda | apply notf)); done)) | (exact con_szPinned v0 k0 _ (by omega) (by omega)) | (simp; omega))
  have hs0 := sm_szPinned v0 1048576 (by omega) (by omega) g0
  have hr0 := sm_siteR v0 hs0
  have n_0 : v0.1.2.1.1 ≤ 1048576 := hs0.1.2.1.1
  have n_1 : v0.2.1.1 ≤ 1048576 := hs0.2.1.1
  have n_2 : (siteR v0).1.1.2.1.1 ≤ 1048576 := hr0.1.1.2.1.1
  have n_3 : (siteR v0).1.2.1.1 ≤ 1048576 := hr0.1.2.1.1
  have n_4 : (siteR v0).2.1.1 ≤ 1048576 := hr0.2.1.1
  refine path_ok mixed Try.func7 hc (p_FnExactNewSite_e v0) ?_
  simp only [All]
  repeat' (first | exact trivial | with_reducible apply And.intro)
  all_goals (first | omega | rfl | (intros; first | assumption | exact True.intro | rfl | exact absurd (show false = true by assumption) Bool.false_ne_true | ((repeat' (first | assumption | apply anda | apply notf)); done)) | (exact con_szPinned v0 k0 _ (by omega) (by omega)) | (exact con_toPinned v0 hs0) | (exact con_NewSite_s v0 hs0) | (exact con_NewSite_i v0 hs0) | (intros; exact con_eqSite (siteR v0) hr0) | (intros; exact con_eqPinned v0 hs0) | (intros; exact con_markPinned v0 _ hs0.1.2.1.1 hs0.2.1.1 (by omega) (by omega)) | (intros; exact con_markSite (siteR v0) _ hr0.1.1.2.1.1 hr0.1.2.1.1 (by omega) (by omega)) | (intros; exact con_heldSite (siteR v0) _ hr0.1.1.2.1.1 hr0.1.2.1.1 (by omega) (by omega)) | (simp; try omega))

end Go.Proofs.Ytgddbgmnehkblab.Mach
