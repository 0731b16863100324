/- The law FnExactLoosePoints as a contract: it answers true. Conditions: lengths that a slice can have. -/
import Derived.Test.YtgddbgmnehkblaaLoose
namespace Go.Proofs.Ytgddbgmnehkblaa.Mach
open Go
set_option linter.unusedVariables false
set_option linter.unusedSimpArgs false

def toOb (v : T_Graph) : Ob := ⟨false, 2, v.2.1.1, fun i => [.p (.int .i64 (v.2.1.2 i).1), .p (.int .i64 (v.2.1.2 i).2.1)]⟩
def mkOb (v : T_Graph) : Ob := ⟨false, 2, v.2.1.1, fun i => [.p (.int .i64 (1 + 2 * (i : Int))), .p (.int .i64 (1 + 2 * (i : Int) + 1))]⟩
def mkInts (n : Nat) : Ob := ⟨false, 1, n, fun i => [.p (.int .i64 (1 + (i : Int)))]⟩
theorem p8a (v : T_Graph) :
    pathOb Try.prog Try.f8 0 [.reg [oT, oT], .reg [oT], .reg [oT, oT, ⟨true, (some ⟨[], [], 1, [], .p (.int .i64 (f_szGraph v 1048576))⟩)⟩, oT], .reg [oT, oT], .dec true, .reg [oT]] [.code (bodyOf Try.f8)] (start Try.f8 [] 0 [graphA v]) [] 1 [] (.p (.bool true)) =
    some [((0 : Nat) < 1),
  Con (Try.prog) 27 0 [] [.agg [.p (.int .i64 (v.fst)), .p (.seq true 2 (v.snd.fst.fst) (fun i => [.int .i64 ((v.snd.fst.snd i).fst), .int .i64 ((v.snd.fst.snd i).snd.fst)]))], .p (.int .i64 1048576)] [] (.p (.int .i64 (f_szGraph v 1048576))),
  ((decide (f_szGraph v 1048576 < 0)) = true),
  (true = true)] := by kernel_rfl
theorem p8b (v : T_Graph) :
    pathOb Try.prog Try.f8 0 [.reg [oT, oT], .reg [oT], .reg [oT, oT, ⟨true, (some ⟨[], [], 1, [], .p (.int .i64 (f_szGraph v 1048576))⟩)⟩, oT], .reg [oT, oT], .dec false, .reg [oT, ⟨true, (some ⟨[], [], 1, [(0, toOb v)], .agg [.p (.int .i64 v.1), .ar 2 0 0 v.2.1.1]⟩)⟩, ⟨true, (some ⟨[], [], 1, [(0, intsOb (looseF v))], .ar 1 0 0 (looseF v).length⟩)⟩, oT], .reg [oT, ⟨true, (some ⟨[], [], 1, [(0, toOb v)], .agg [.p (.int .i64 v.1), .ar 2 0 0 v.2.1.1]⟩)⟩, oT, oT], .reg [oT, ⟨true, (some ⟨[], [], 1, [(0, intsOb (looseF v))], .ar 1 0 0 (looseF v).length⟩)⟩, oT], .reg [oT, oT, ⟨true, (some ⟨[], [], 1, [], .p (.bool true)⟩)⟩, oT], .dec false, .reg [oT, oT, ⟨true, (some ⟨[], [], 1, [(0, toOb v)], .agg [.p (.int .i64 v.1), .ar 2 0 0 v.2.1.1]⟩)⟩, ⟨true, (some ⟨[], [], 1, [], .p (.bool true)⟩)⟩, oT], .dec false, .reg [oT], .reg [oT, oT, ⟨true, (some ⟨[448], [], 1, [(0, mkOb v)], .p (.int .i64 (1 + 2 * (v.2.1.1 : Int)))⟩)⟩, oT], .reg [oT, oT, oT, oT, oT, ⟨true, (some ⟨[], [], 1, [], .p (.bool true)⟩)⟩, oT, oT], .dec false, .reg [oT], .reg [oT, oT, ⟨true, (some ⟨[576], [], 1, [(0, mkInts (looseF v).length)], .p (.int .i64 (1 + ((looseF v).length : Int)))⟩)⟩, oT], .reg [oT], .reg [oT, oT, ⟨true, (some ⟨[], [], 1, [], .p (.int .i64 (1 + ((looseF v).length : Int)))⟩)⟩, oT], .reg [oT, oT], .dec false, .reg [oT, oT, oT], .dec false, .reg [oT, ⟨true, (some ⟨[], [], 1, [(0, toOb v)], .agg [.p (.int .i64 v.1), .ar 2 0 0 v.2.1.1]⟩)⟩, ⟨true, (some ⟨[], [], 1, [(0, intsOb (looseF v))], .ar 1 0 0 (looseF v).length⟩)⟩, oT], .reg [oT, oT, ⟨true, (some ⟨[], [], 1, [], .p (.bool true)⟩)⟩, oT], .dec false, .reg [oT], .reg [oT, oT, ⟨true, (some ⟨[], [], 1, [], .p (.int .i64 (1 + ((looseF v).length : Int)))⟩)⟩, oT], .reg [oT, oT], .dec false, .reg [oT, oT, oT], .dec false, .reg [oT]] [.code (bodyOf Try.f8)] (start Try.f8 [] 0 [graphA v]) [] 1 [] (.p (.bool true)) =
    some [((0 : Nat) < 1),
  Con (Try.prog) 27 0 [] [.agg [.p (.int .i64 (v.fst)), .p (.seq true 2 (v.snd.fst.fst) (fun i => [.int .i64 ((v.snd.fst.snd i).fst), .int .i64 ((v.snd.fst.snd i).snd.fst)]))], .p (.int .i64 1048576)] [] (.p (.int .i64 (f_szGraph v 1048576))),
  ((decide (f_szGraph v 1048576 < 0)) = false),
  ((0 : Nat) < 1),
  Con (Try.prog) 29 0 [] [.agg [.p (.int .i64 (v.fst)), .p (.seq true 2 (v.snd.fst.fst) (fun i => [.int .i64 ((v.snd.fst.snd i).fst), .int .i64 ((v.snd.fst.snd i).snd.fst)]))]] [(0, ⟨false, 2, (v.snd.fst.fst), (fun i => [.p (.int .i64 ((v.snd.fst.snd i).fst)), .p (.int .i64 ((v.snd.fst.snd i).snd.fst))])⟩)] (.agg [.p (.int .i64 (v.fst)), .ar 2 0 0 (v.snd.fst.fst)]),
  ((2 : Nat) = 2),
  (((v.snd.fst.fst) : Nat) ≤ (v.snd.fst.fst)),
  Con (Try.prog) 28 0 [] [.agg [.p (.int .i64 (v.fst)), .p (.seq true 2 (v.snd.fst.fst) (fun i => [.int .i64 ((v.snd.fst.snd i).fst), .int .i64 ((v.snd.fst.snd i).snd.fst)]))]] [(0, ⟨false, 1, ((looseF v).length), (fun i => [.p (.int .i64 ((looseF v).getD i 0))])⟩)] (.ar 1 0 0 ((looseF v).length)),
  ((0 : Nat) < 1),
  Con (Try.prog) 29 0 [] [.agg [.p (.int .i64 (v.fst)), .p (.seq true 2 (v.snd.fst.fst) (fun i => [.int .i64 ((v.snd.fst.snd i).fst), .int .i64 ((v.snd.fst.snd i).snd.fst)]))]] [(0, ⟨false, 2, (v.snd.fst.fst), (fun i => [.p (.int .i64 ((v.snd.fst.snd i).fst)), .p (.int .i64 ((v.snd.fst.snd i).snd.fst))])⟩)] (.agg [.p (.int .i64 (v.fst)), .ar 2 0 0 (v.snd.fst.fst)]),
  ((0 : Nat) < 1),
  (((true) = true) → ((1 : Nat) = 1)),
  ((0 : Nat) < 1),
  ((2 : Nat) = 2),
  (((v.snd.fst.fst) : Nat) ≤ (v.snd.fst.fst)),
  Con (Try.prog) 30 0 [] [.agg [.p (.int .i64 (v.fst)), .p (.seq true 2 (v.snd.fst.fst) (fun i => [.int .i64 ((v.snd.fst.snd i).fst), .int .i64 ((v.snd.fst.snd i).snd.fst)]))]] [(0, ⟨false, 1, ((looseF v).length), (fun i => [.p (.int .i64 ((looseF v).getD i 0))])⟩)] (.ar 1 0 0 ((looseF v).length)),
  ((1 : Nat) = 1),
  ((((looseF v).length) : Nat) ≤ ((looseF v).length)),
  ((1 : Nat) = 1),
  ((((looseF v).length) : Nat) ≤ ((looseF v).length)),
  Con (Try.prog) 31 0 [] [.p (.seq true 1 ((looseF v).length) (fun i => [.int .i64 ((looseF v).getD i 0)])), .p (.seq true 1 ((looseF v).length) (fun i => [.int .i64 ((looseF v).getD i 0)]))] [] (.p (.bool true)),
  ((!true) = false),
  ((0 : Nat) < 1),
  ((0 : Nat) < 1),
  Con (Try.prog) 29 0 [] [.agg [.p (.int .i64 (v.fst)), .p (.seq true 2 (v.snd.fst.fst) (fun i => [.int .i64 ((v.snd.fst.snd i).fst), .int .i64 ((v.snd.fst.snd i).snd.fst)]))]] [(0, ⟨false, 2, (v.snd.fst.fst), (fun i => [.p (.int .i64 ((v.snd.fst.snd i).fst)), .p (.int .i64 ((v.snd.fst.snd i).snd.fst))])⟩)] (.agg [.p (.int .i64 (v.fst)), .ar 2 0 0 (v.snd.fst.fst)]),
  ((2 : Nat) = 2),
  (((v.snd.fst.fst) : Nat) ≤ (v.snd.fst.fst)),
  ((2 : Nat) = 2),
  (((v.snd.fst.fst) : Nat) ≤ (v.snd.fst.fst)),
  Con (Try.prog) 32 0 [] [.agg [.p (.int .i64 (v.fst)), .p (.seq true 2 (v.snd.fst.fst) (fun i => [.int .i64 ((v.snd.fst.snd i).fst), .int .i64 ((v.snd.fst.snd i).snd.fst)]))], .agg [.p (.int .i64 (v.fst)), .p (.seq true 2 (v.snd.fst.fst) (fun i => [.int .i64 ((v.snd.fst.snd i).fst), .int .i64 ((v.snd.fst.snd i).snd.fst)]))]] [] (.p (.bool true)),
  ((!true) = false),
  ((0 : Nat) < 1),
  (∀ i : Nat, ((((i) : Nat) < (v.snd.fst.fst)) → All [])),
  Con (Try.prog) 33 1 [(0, ⟨false, 2, (v.snd.fst.fst), (fun i => [.p (.int .i64 ((v.snd.fst.snd i).fst)), .p (.int .i64 ((v.snd.fst.snd i).snd.fst))])⟩)] [.agg [.p (.int .i64 (v.fst)), .ar 2 0 0 (v.snd.fst.fst)], .p (.int .i64 1)] [(0, ⟨false, 2, (v.snd.fst.fst), (fun i => [.p (.int .i64 (1 + 2 * (↑i : Int))), .p (.int .i64 (1 + 2 * (↑i : Int) + 1))])⟩)] (.p (.int .i64 (1 + 2 * (↑v.snd.fst.fst : Int)))),
  (((!decide (1 + 2 * (↑v.snd.fst.fst : Int) < 0)) = true) → ((!decide (1 + 2 * (↑v.snd.fst.fst : Int) < 0)) = true)),
  (((!decide (1 + 2 * (↑v.snd.fst.fst : Int) < 0)) = true) → ((!decide (1 + 2 * (↑v.snd.fst.fst : Int) < 0)) = true)),
  (((!decide (1 + 2 * (↑v.snd.fst.fst : Int) < 0)) = true) → ((1 : Nat) = 1)),
  (((!decide (1 + 2 * (↑v.snd.fst.fst : Int) < 0)) = true) → ((((looseF v).length) : Nat) ≤ ((looseF v).length))),
  (((!decide (1 + 2 * (↑v.snd.fst.fst : Int) < 0)) = true) → ((1 : Nat) = 1)),
  (((!decide (1 + 2 * (↑v.snd.fst.fst : Int) < 0)) = true) → ((((looseF v).length) : Nat) ≤ ((looseF v).length))),
  (((!decide (1 + 2 * (↑v.snd.fst.fst : Int) < 0)) = true) → Con (Try.prog) 31 0 [] [.p (.seq true 1 ((looseF v).length) (fun i => [.int .i64 ((looseF v).getD i 0)])), .p (.seq true 1 ((looseF v).length) (fun i => [.int .i64 ((looseF v).getD i 0)]))] [] (.p (.bool true))),
  (((!decide (1 + 2 * (↑v.snd.fst.fst : Int) < 0)) = true) → ((!decide (1 + 2 * (↑v.snd.fst.fst : Int) < 0)) = true)),
  (((decide (1 + 2 * (↑v.snd.fst.fst : Int) < 0)) = false) → ((!decide (1 + 2 * (↑v.snd.fst.fst : Int) < 0)) = true)),
  ((bif decide (1 + 2 * (↑v.snd.fst.fst : Int) < 0) then true else !true) = false),
  (∀ i : Nat, ((((i) : Nat) < ((looseF v).length)) → All [])),
  Con (Try.prog) 34 1 [(0, ⟨false, 1, ((looseF v).length), (fun i => [.p (.int .i64 ((looseF v).getD i 0))])⟩)] [.ar 1 0 0 ((looseF v).length), .p (.int .i64 1)] [(0, ⟨false, 1, ((looseF v).length), (fun i => [.p (.int .i64 (1 + (↑i : Int)))])⟩)] (.p (.int .i64 (1 + (↑(looseF v).length : Int)))),
  ((1 : Nat) = 1),
  ((((looseF v).length) : Nat) ≤ ((looseF v).length)),
  Con (Try.prog) 35 0 [] [.p (.seq true 1 ((looseF v).length) (fun i => [.int .i64 (1 + (↑i : Int))])), .p (.int .i64 1)] [] (.p (.int .i64 (1 + (↑(looseF v).length : Int)))),
  ((decide (1 + (↑(looseF v).length : Int) < 0)) = false),
  ((1 + (↑(looseF v).length : Int) != 1 + (↑(looseF v).length : Int)) = false),
  ((0 : Nat) < 1),
  Con (Try.prog) 29 0 [] [.agg [.p (.int .i64 (v.fst)), .p (.seq true 2 (v.snd.fst.fst) (fun i => [.int .i64 ((v.snd.fst.snd i).fst), .int .i64 ((v.snd.fst.snd i).snd.fst)]))]] [(0, ⟨false, 2, (v.snd.fst.fst), (fun i => [.p (.int .i64 ((v.snd.fst.snd i).fst)), .p (.int .i64 ((v.snd.fst.snd i).snd.fst))])⟩)] (.agg [.p (.int .i64 (v.fst)), .ar 2 0 0 (v.snd.fst.fst)]),
  ((2 : Nat) = 2),
  (((v.snd.fst.fst) : Nat) ≤ (v.snd.fst.fst)),
  Con (Try.prog) 30 0 [] [.agg [.p (.int .i64 (v.fst)), .p (.seq true 2 (v.snd.fst.fst) (fun i => [.int .i64 ((v.snd.fst.snd i).fst), .int .i64 ((v.snd.fst.snd i).snd.fst)]))]] [(0, ⟨false, 1, ((looseF v).length), (fun i => [.p (.int .i64 ((looseF v).getD i 0))])⟩)] (.ar 1 0 0 ((looseF v).length)),
  ((1 : Nat) = 1),
  ((((looseF v).length) : Nat) ≤ ((looseF v).length)),
  ((1 : Nat) = 1),
  ((((looseF v).length) : Nat) ≤ ((looseF v).length)),
  Con (Try.prog) 31 0 [] [.p (.seq true 1 ((looseF v).length) (fun i => [.int .i64 ((looseF v).getD i 0)])), .p (.seq true 1 ((looseF v).length) (fun i => [.int .i64 ((looseF v).getD i 0)]))] [] (.p (.bool true)),
  ((!true) = false),
  ((1 : Nat) = 1),
  ((((looseF v).length) : Nat) ≤ ((looseF v).length)),
  Con (Try.prog) 35 0 [] [.p (.seq true 1 ((looseF v).length) (fun i => [.int .i64 (1 + (↑i : Int))])), .p (.int .i64 1)] [] (.p (.int .i64 (1 + (↑(looseF v).length : Int)))),
  ((decide (1 + (↑(looseF v).length : Int) < 0)) = false),
  ((1 + (↑(looseF v).length : Int) != 1 + (↑(looseF v).length : Int)) = false),
  (true = true)] := by kernel_rfl

theorem looseF_len (v : T_Graph) : (looseF v).length ≤ 1048576 := by
  unfold looseF
  split
  · rename_i h
    have := isGraph_in h
    have := looseL_len v v.1.toNat
    omega
  · simp

theorem con_law_FnExactLoosePoints (v : T_Graph) (k : okS s_Graph v) : Con Try.prog 8 0 [] [graphA v] [] (.p (.bool true)) := by
  refine con_start Try.func8 rfl (by kernel_rfl) rfl (fun c hc => ?_)
  by_cases h : f_szGraph v 1048576 < 0
  · refine path_ok mixed Try.func8 hc (p8a v) ?_
    simp only [All]
    repeat' (first | exact trivial | with_reducible apply And.intro)
    all_goals (first | omega | rfl | (intros; first | assumption | trivial | rfl | ((repeat' (first | assumption | apply anda | apply notf)); done)) | (exact con_szGraph v k _ (by omega) (by omega)) | (simp; omega))
  · have hs := sm_szGraph v 1048576 (by omega) (by omega) h
    have hn : v.2.1.1 ≤ 1048576 := hs.2.1.1
    have hl := looseF_len v
    have hsi : smS s_IntS ((looseF v).length, fun i => (looseF v).getD i 0) := ⟨hl, fun i hi => by simp [smS]⟩
    refine path_ok mixed Try.func8 hc (p8b v) ?_
    simp only [All]
    repeat' (first | exact trivial | with_reducible apply And.intro)
    all_goals (first | omega | rfl | (intros; first | assumption | trivial | rfl | ((repeat' (first | assumption | apply anda | apply notf)); done)) | (exact con_szGraph v k _ (by omega) (by omega)) | (exact con_toGraph v hs) | (exact con_LoosePoints_s v hs) | (exact con_LoosePoints_i v hs) | (intros; exact con_eqIntS ((looseF v).length, fun i => (looseF v).getD i 0) hsi) | (exact con_eqGraph v hs) | (exact con_markGraph v 1 hn (by omega) (by omega)) | (exact con_markIntS ((looseF v).length, fun i => (looseF v).getD i 0) 1 hl (by omega) (by omega)) | (exact con_heldIntS (looseF v).length 1 hl (by omega) (by omega)) | (simp; try omega))

end Go.Proofs.Ytgddbgmnehkblaa.Mach
