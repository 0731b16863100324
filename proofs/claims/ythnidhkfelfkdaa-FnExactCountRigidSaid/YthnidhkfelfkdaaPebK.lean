/- Rigid components: both programs find the same. Conditions: as each theorem says. -/
import Derived.Test.YthnidhkfelfkdaaPebJ
namespace Go.Proofs.Ythnidhkfelfkdaa.Mach
open Go
set_option linter.unusedVariables false
set_option linter.unusedSimpArgs false

def inS (v : T_IntS) : AV := .p (.seq true 1 v.1 (fun i => [.int .i64 (v.2 i)]))
def ssOb (n : Nat) (C : Nat → T_IntS) : Ob := ⟨false, 1, n, fun i => [.p (.seq false 1 (C i).1 (fun s => [.int .i64 ((C i).2 s)]))]⟩
def snocI (n : Nat) (f : Nat → Int) (p : Int) (s : Nat) : Int := if s < n then f s else p
def snocC (n : Nat) (C : Nat → T_IntS) (c : T_IntS) (i : Nat) : T_IntS := (if i < n then (C i).1 else c.1, fun s => if i < n then (C i).2 s else c.2 s)
def SBs (g : Nat → T_Bar) (nb N e : Nat) (n p : Nat) (f : Nat → Int) : St :=
  ⟨[grG g nb N, .p (.int .i64 e), .pt 2 0 0 0, .p .any, .p .any, .ar 1 1 0 n, .p (.int .i64 (g e).1), .p (.int .i64 (g e).2.1), .p (.int .i64 p)] ++ List.replicate 49 anyA, [(0, bxG g nb N), (1, iOb n f)], 2⟩
def SBi (g : Nat → T_Bar) (nb N e : Nat) (n p : Nat) (f : Nat → Int) : St :=
  ⟨[grG g nb N, .p (.int .i64 e), .pt 2 0 0 0, .p .any, .p .any, .ar 1 1 0 n, .pt 2 2 0 0] ++ List.replicate 21 anyA ++ [.p (.int .i64 N), .p (.int .i64 p)] ++ List.replicate 20 anyA, [(0, bxG g nb N), (1, iOb n f), (2, bxB (g e))], 3⟩
def SCs (g : Nat → T_Bar) (nb N e cn : Nat) (C : Nat → T_IntS) : St :=
  ⟨[grG g nb N, .pt 2 0 0 0, .p .any, .ar 1 1 0 cn, .p (.int .i64 e)] ++ List.replicate 40 anyA, [(0, bxG g nb N), (1, ssOb cn C)], 2⟩
def SCs1 (g : Nat → T_Bar) (nb N e cn : Nat) (C : Nat → T_IntS) (c : T_IntS) (kn : Bool) (k : Nat) : St :=
  ⟨[grG g nb N, .pt 2 0 0 0, .p .any, .ar 1 1 0 cn, .p (.int .i64 e), .ar 1 2 0 c.1, .p (.bool kn), .p (.int .i64 k)] ++ List.replicate 37 anyA, [(0, bxG g nb N), (1, ssOb cn C), (2, iOb c.1 c.2)], 3⟩
def SCi (g : Nat → T_Bar) (nb N e cn : Nat) (C : Nat → T_IntS) : St :=
  ⟨[grG g nb N, .pt 2 0 0 0, .p .any, .ar 1 1 0 cn] ++ List.replicate 12 anyA ++ [.p (.int .i64 nb), .p (.int .i64 e)] ++ List.replicate 26 anyA, [(0, bxG g nb N), (1, ssOb cn C)], 2⟩
def SCi1 (g : Nat → T_Bar) (nb N e cn : Nat) (C : Nat → T_IntS) (c : T_IntS) (kn : Bool) (k : Nat) : St :=
  ⟨[grG g nb N, .pt 2 0 0 0, .p .any, .ar 1 1 0 cn, .p .any, .ar 1 2 0 c.1, .p (.bool kn)] ++ List.replicate 9 anyA ++ [.p (.int .i64 nb), .p (.int .i64 e)] ++ List.replicate 5 anyA ++ [.ar 1 1 0 cn, .p (.int .i64 cn), .p (.int .i64 k)] ++ List.replicate 18 anyA, [(0, bxG g nb N), (1, ssOb cn C), (2, iOb c.1 c.2)], 3⟩

theorem cBsz (g : Nat → T_Bar) (nb N e : Nat) :
    pieceOb Try.prog 0 [.reg [oT, oT], .reg [oT, oT], .reg [oT, ⟨true, (some ⟨[], [], 1, [], .p (.bool true)⟩), none⟩, oT, oT, oT, oT, oT, oT, oT, oT, oT, oT, oT, oT], .dec false, .reg [oT, oT, oT, oT, oT, oT, oT], .reg [oT, oT, oT, oT, oT, oT, oT], .reg [oT], .head] [.code (bodyOf Try.f56)] (start Try.f56 [] 0 [grG g nb N, .p (.int .i64 e)]) [0, 64] 1 (SBs g nb N e 0 0 (fun _ => 0)) =
    some ([.code (cAt (bodyOf Try.f56) [1, 1, 1, 1, 1, 0, 1, 0, 0]), .inLoop (cAt (bodyOf Try.f56) [1, 1, 1, 1, 1, 0, 1, 0, 0]), .inBlock 0, .code (cAt (bodyOf Try.f56) [1, 1, 1, 1, 1, 1])], [((0 : Nat) < 1),
  Con (Try.prog) 35 0 [] [.agg [.p (.int .i64 ((↑N : Int))), .p (.seq true 2 (nb) (fun i => [.int .i64 ((g i).fst), .int .i64 ((g i).snd.fst)]))]] [] (.p (.bool true)),
  (((!!true) = true) → ((!!true) = true)),
  (((!true) = false) → ((!!true) = true)),
  (((!bif !true then true else decide ((↑e : Int) < 0)) = true) → ((!bif !true then true else decide ((↑e : Int) < 0)) = true)),
  (((!bif !true then true else decide ((↑e : Int) < 0)) = true) → ((0 : Nat) < 1)),
  (((!bif !true then true else decide ((↑e : Int) < 0)) = true) → ((!bif !true then true else decide ((↑e : Int) < 0)) = true)),
  (((!bif !true then true else decide ((↑e : Int) < 0)) = true) → ((!bif !true then true else decide ((↑e : Int) < 0)) = true)),
  (((!bif !true then true else decide ((↑e : Int) < 0)) = true) → ((!bif !true then true else decide ((↑e : Int) < 0)) = true)),
  (((bif !true then true else decide ((↑e : Int) < 0)) = false) → ((!bif !true then true else decide ((↑e : Int) < 0)) = true)),
  ((bif bif !true then true else decide ((↑e : Int) < 0) then true else decide ((↑e : Int) ≥ (↑nb : Int))) = false),
  ((0 : Nat) < 1),
  ((0 : Int) ≤ ((↑e : Int))),
  ((((↑e : Int)) : Int) < ((↑nb : Int))),
  ((0 : Nat) < 1),
  ((0 : Int) ≤ ((↑e : Int))),
  ((((↑e : Int)) : Int) < ((↑nb : Int))),
  ((((↑N : Int)) : Int) = ((↑N : Int))),
  (((nb) : Nat) = (nb)),
  (∀ i : Nat, ((((i) : Nat) < (nb)) → (([.int .i64 ((g i).fst), .int .i64 ((g i).snd.fst)] : List PV) = [.int .i64 ((g i).fst), .int .i64 ((g i).snd.fst)]))),
  ((((↑e : Int)) : Int) = ((↑e : Int))),
  ((0 : Nat) = 0),
  ((0 : Nat) = 0),
  ((0 : Nat) = 0),
  ((((g e).fst) : Int) = ((g e).fst)),
  ((((g e).snd.fst) : Int) = ((g e).snd.fst)),
  ((0 : Int) = ((↑0 : Int))),
  ((([AV.p (PV.int IntKind.i64 (↑N : Int)), brL g nb].length) : Nat) = 2),
  ((1 : Nat) ≤ 1),
  ((1 : Nat) ≤ 1),
  ((((↑N : Int)) : Int) = ((↑N : Int))),
  (((nb) : Nat) = (nb)),
  (∀ i : Nat, ((((i) : Nat) < (nb)) → (([.int .i64 ((g i).fst), .int .i64 ((g i).snd.fst)] : List PV) = [.int .i64 ((g i).fst), .int .i64 ((g i).snd.fst)]))),
  ((1 : Nat) = 1),
  ((0 : Nat) ≤ 0),
  (∀ i : Nat, ((((i) : Nat) < 0) → (All [] ∧ (([.p .any] : List AV) = [.p (.int .i64 0)]))))]) := by kernel_rfl
theorem cBst (g : Nat → T_Bar) (nb N e n p : Nat) (f : Nat → Int) (r1 r2 : Bool) :
    pieceOb Try.prog 0 [.reg [oT, oT, oT, oT], .dec true, .reg [oT, oT, oT, ⟨true, (some ⟨[], [], 1, [], .p (.bool r1)⟩), none⟩, oT, oT, oT, oT, ⟨true, (some ⟨[], [], 1, [], .p (.bool r2)⟩), none⟩, oT], .dec true, .reg [oT, oT, oT, oT, oT], .reg [oT, oT, oT], .head] [.code (cAt (bodyOf Try.f56) [1, 1, 1, 1, 1, 0, 1, 0, 0]), .inLoop (cAt (bodyOf Try.f56) [1, 1, 1, 1, 1, 0, 1, 0, 0]), .inBlock 0, .code (cAt (bodyOf Try.f56) [1, 1, 1, 1, 1, 1])] (SBs g nb N e n p f) [0, 546] 1 (SBs g nb N e (n + 1) (p + 1) (snocI n f p)) =
    some ([.code (cAt (bodyOf Try.f56) [1, 1, 1, 1, 1, 0, 1, 0, 0]), .inLoop (cAt (bodyOf Try.f56) [1, 1, 1, 1, 1, 0, 1, 0, 0]), .inBlock 0, .code (cAt (bodyOf Try.f56) [1, 1, 1, 1, 1, 1])], [((0 : Nat) < 1),
  ((decide ((↑p : Int) < (↑N : Int))) = true),
  ((0 : Nat) < 1),
  Con (Try.prog) 68 0 [] [.agg [.p (.int .i64 ((↑N : Int))), .p (.seq true 2 (nb) (fun i => [.int .i64 ((g i).fst), .int .i64 ((g i).snd.fst)]))], .p (.int .i64 ((g e).fst)), .p (.int .i64 ((↑p : Int)))] [] (.p (.bool (r1))),
  (((r1) = true) → ((0 : Nat) < 1)),
  (((r1) = true) → ((r1) = true)),
  (((r1) = true) → ((r1) = true)),
  (((r1) = true) → ((r1) = true)),
  (((r1) = true) → Con (Try.prog) 68 0 [] [.agg [.p (.int .i64 ((↑N : Int))), .p (.seq true 2 (nb) (fun i => [.int .i64 ((g i).fst), .int .i64 ((g i).snd.fst)]))], .p (.int .i64 ((g e).snd.fst)), .p (.int .i64 ((↑p : Int)))] [] (.p (.bool (r2)))),
  (((r1) = true) → ((r1) = true)),
  ((bif r1 then r2 else false) = true),
  ((1 : Nat) ≤ 1),
  (((n) : Nat) ≤ (n)),
  ((((n + 1) * 8) : Nat) ≤ 140737488355328),
  (((n + 1) : Nat) ≤ 9223372036854775807),
  (((-9223372036854775808) : Int) ≤ ((↑p : Int) + 1)),
  ((((↑p : Int) + 1) : Int) ≤ 9223372036854775807),
  ((((↑N : Int)) : Int) = ((↑N : Int))),
  (((nb) : Nat) = (nb)),
  (∀ i : Nat, ((((i) : Nat) < (nb)) → (([.int .i64 ((g i).fst), .int .i64 ((g i).snd.fst)] : List PV) = [.int .i64 ((g i).fst), .int .i64 ((g i).snd.fst)]))),
  ((((↑e : Int)) : Int) = ((↑e : Int))),
  ((0 : Nat) = 0),
  ((0 : Nat) = 0),
  (((n + 1) : Nat) = (n + 1)),
  ((((g e).fst) : Int) = ((g e).fst)),
  ((((g e).snd.fst) : Int) = ((g e).snd.fst)),
  ((((↑p : Int) + 1) : Int) = ((↑(p + 1) : Int))),
  ((2 : Nat) = 2),
  ((1 : Nat) ≤ 1),
  ((1 : Nat) ≤ 1),
  ((((↑N : Int)) : Int) = ((↑N : Int))),
  (((nb) : Nat) = (nb)),
  (∀ i : Nat, ((((i) : Nat) < (nb)) → (([.int .i64 ((g i).fst), .int .i64 ((g i).snd.fst)] : List PV) = [.int .i64 ((g i).fst), .int .i64 ((g i).snd.fst)]))),
  ((1 : Nat) = 1),
  (((n + 1) : Nat) ≤ (n + 1)),
  (∀ i : Nat, ((((i) : Nat) < (n + 1)) → (All (cvtL false [(546, ⟨false, 1, (n + 1), (fun i_1 => (if (i_1 < n) then [.p (.int .i64 (f i_1))] else [.p (.int .i64 ((↑p : Int)))]))⟩), (514, ⟨false, 1, 1, (fun i_1 => [.p (.int .i64 ((↑p : Int)))])⟩), (0, ⟨true, 2, 1, (fun i_1 => [.p (.int .i64 ((↑N : Int))), .p (.seq true 2 (nb) (fun i_2 => [.int .i64 ((g i_2).fst), .int .i64 ((g i_2).snd.fst)]))])⟩)] [0, 546] 1 (if (i < n) then [.p (.int .i64 (f i))] else [.p (.int .i64 ((↑p : Int)))])).2 ∧ (((cvtL false [(546, ⟨false, 1, (n + 1), (fun i_1 => (if (i_1 < n) then [.p (.int .i64 (f i_1))] else [.p (.int .i64 ((↑p : Int)))]))⟩), (514, ⟨false, 1, 1, (fun i_1 => [.p (.int .i64 ((↑p : Int)))])⟩), (0, ⟨true, 2, 1, (fun i_1 => [.p (.int .i64 ((↑N : Int))), .p (.seq true 2 (nb) (fun i_2 => [.int .i64 ((g i_2).fst), .int .i64 ((g i_2).snd.fst)]))])⟩)] [0, 546] 1 (if (i < n) then [.p (.int .i64 (f i))] else [.p (.int .i64 ((↑p : Int)))])).1 : List AV) = [.p (.int .i64 (snocI n f (↑p : Int) i))]))))]) := by kernel_rfl
theorem cBsf (g : Nat → T_Bar) (nb N e n p : Nat) (f : Nat → Int) (r1 r2 : Bool) :
    pieceOb Try.prog 0 [.reg [oT, oT, oT, oT], .dec true, .reg [oT, oT, oT, ⟨true, (some ⟨[], [], 1, [], .p (.bool r1)⟩), none⟩, oT, oT, oT, oT, ⟨true, (some ⟨[], [], 1, [], .p (.bool r2)⟩), none⟩, oT], .dec false, .reg [oT, oT, oT], .head] [.code (cAt (bodyOf Try.f56) [1, 1, 1, 1, 1, 0, 1, 0, 0]), .inLoop (cAt (bodyOf Try.f56) [1, 1, 1, 1, 1, 0, 1, 0, 0]), .inBlock 0, .code (cAt (bodyOf Try.f56) [1, 1, 1, 1, 1, 1])] (SBs g nb N e n p f) [0, 1] 1 (SBs g nb N e n (p + 1) f) =
    some ([.code (cAt (bodyOf Try.f56) [1, 1, 1, 1, 1, 0, 1, 0, 0]), .inLoop (cAt (bodyOf Try.f56) [1, 1, 1, 1, 1, 0, 1, 0, 0]), .inBlock 0, .code (cAt (bodyOf Try.f56) [1, 1, 1, 1, 1, 1])], [((0 : Nat) < 1),
  ((decide ((↑p : Int) < (↑N : Int))) = true),
  ((0 : Nat) < 1),
  Con (Try.prog) 68 0 [] [.agg [.p (.int .i64 ((↑N : Int))), .p (.seq true 2 (nb) (fun i => [.int .i64 ((g i).fst), .int .i64 ((g i).snd.fst)]))], .p (.int .i64 ((g e).fst)), .p (.int .i64 ((↑p : Int)))] [] (.p (.bool (r1))),
  (((r1) = true) → ((0 : Nat) < 1)),
  (((r1) = true) → ((r1) = true)),
  (((r1) = true) → ((r1) = true)),
  (((r1) = true) → ((r1) = true)),
  (((r1) = true) → Con (Try.prog) 68 0 [] [.agg [.p (.int .i64 ((↑N : Int))), .p (.seq true 2 (nb) (fun i => [.int .i64 ((g i).fst), .int .i64 ((g i).snd.fst)]))], .p (.int .i64 ((g e).snd.fst)), .p (.int .i64 ((↑p : Int)))] [] (.p (.bool (r2)))),
  (((r1) = true) → ((r1) = true)),
  ((bif r1 then r2 else false) = false),
  (((-9223372036854775808) : Int) ≤ ((↑p : Int) + 1)),
  ((((↑p : Int) + 1) : Int) ≤ 9223372036854775807),
  ((((↑N : Int)) : Int) = ((↑N : Int))),
  (((nb) : Nat) = (nb)),
  (∀ i : Nat, ((((i) : Nat) < (nb)) → (([.int .i64 ((g i).fst), .int .i64 ((g i).snd.fst)] : List PV) = [.int .i64 ((g i).fst), .int .i64 ((g i).snd.fst)]))),
  ((((↑e : Int)) : Int) = ((↑e : Int))),
  ((0 : Nat) = 0),
  ((0 : Nat) = 0),
  (((n) : Nat) = (n)),
  ((((g e).fst) : Int) = ((g e).fst)),
  ((((g e).snd.fst) : Int) = ((g e).snd.fst)),
  ((((↑p : Int) + 1) : Int) = ((↑(p + 1) : Int))),
  ((2 : Nat) = 2),
  ((1 : Nat) ≤ 1),
  ((1 : Nat) ≤ 1),
  ((((↑N : Int)) : Int) = ((↑N : Int))),
  (((nb) : Nat) = (nb)),
  (∀ i : Nat, ((((i) : Nat) < (nb)) → (([.int .i64 ((g i).fst), .int .i64 ((g i).snd.fst)] : List PV) = [.int .i64 ((g i).fst), .int .i64 ((g i).snd.fst)]))),
  ((1 : Nat) = 1),
  (((n) : Nat) ≤ (n)),
  (∀ i : Nat, ((((i) : Nat) < (n)) → (All [] ∧ (([.p (.int .i64 (f i))] : List AV) = [.p (.int .i64 (f i))]))))]) := by kernel_rfl
theorem cBse (g : Nat → T_Bar) (nb N e n p : Nat) (f : Nat → Int) :
    pathOb Try.prog Try.f56 0 [.reg [oT, oT, oT, oT], .dec false, .reg [oT, oT]] [.code (cAt (bodyOf Try.f56) [1, 1, 1, 1, 1, 0, 1, 0, 0]), .inLoop (cAt (bodyOf Try.f56) [1, 1, 1, 1, 1, 0, 1, 0, 0]), .inBlock 0, .code (cAt (bodyOf Try.f56) [1, 1, 1, 1, 1, 1])] (SBs g nb N e n p f) [1] 1 [(0, iOb n f)] (.ar 1 0 0 n) =
    some [((0 : Nat) < 1),
  ((decide ((↑p : Int) < (↑N : Int))) = false),
  ((0 : Nat) = 0),
  (((n) : Nat) = (n)),
  ((1 : Nat) = 1),
  (((n) : Nat) ≤ (n)),
  (∀ i : Nat, ((((i) : Nat) < (n)) → (All [] ∧ (([.p (.int .i64 (f i))] : List AV) = [.p (.int .i64 (f i))])))),
  (∀ i : Nat, ((((i) : Nat) < (n)) → All []))] := by kernel_rfl
theorem cBiz (g : Nat → T_Bar) (nb N e : Nat) :
    pieceOb Try.prog 0 [.reg [oT, oT], .reg [oT, oT], .reg [oT, ⟨true, (some ⟨[], [], 1, [], .p (.bool true)⟩), none⟩, oT, oT, oT, oT, oT, oT, oT, ⟨true, (some ⟨[], [], 1, [], .p (.bool true)⟩), none⟩, oT, oT], .dec false, .reg [oT, oT, oT, oT, oT, oT, oT], .reg [oT, oT, oT], .head] [.code (bodyOf Try.f60)] (start Try.f60 [] 0 [grG g nb N, .p (.int .i64 e)]) [0, 64, 672] 1 (SBi g nb N e 0 0 (fun _ => 0)) =
    some ([.code (cAt (bodyOf Try.f60) [1, 1, 1, 1, 0, 1, 0, 0]), .inLoop (cAt (bodyOf Try.f60) [1, 1, 1, 1, 0, 1, 0, 0]), .inBlock 0, .code (cAt (bodyOf Try.f60) [1, 1, 1, 1, 1])], [((0 : Nat) < 1),
  Con (Try.prog) 38 0 [] [.agg [.p (.int .i64 ((↑N : Int))), .p (.seq true 2 (nb) (fun i => [.int .i64 ((g i).fst), .int .i64 ((g i).snd.fst)]))]] [] (.p (.bool true)),
  (((!!true) = true) → ((!!true) = true)),
  (((!!true) = true) → ((0 : Nat) < 1)),
  (((!!true) = true) → ((!!true) = true)),
  (((!!true) = true) → ((!!true) = true)),
  (((!!true) = true) → (((-9223372036854775808) : Int) ≤ ((↑nb : Int) - 1))),
  (((!!true) = true) → ((((↑nb : Int) - 1) : Int) ≤ 9223372036854775807)),
  (((!!true) = true) → ((!!true) = true)),
  (((!!true) = true) → ((!!true) = true)),
  (((!!true) = true) → Con (Try.prog) 46 0 [] [.p (.int .i64 ((↑e : Int))), .p (.int .i64 0), .p (.int .i64 ((↑nb : Int) - 1))] [] (.p (.bool true))),
  (((!!true) = true) → ((!!true) = true)),
  (((!true) = false) → ((!!true) = true)),
  ((bif !true then true else !true) = false),
  ((0 : Nat) < 1),
  ((0 : Int) ≤ ((↑e : Int))),
  ((((↑e : Int)) : Int) < ((↑nb : Int))),
  ((0 : Nat) < 1),
  (((true) = true) → ((1 : Nat) = 1)),
  ((0 : Nat) < 1),
  ((((↑N : Int)) : Int) = ((↑N : Int))),
  (((nb) : Nat) = (nb)),
  (∀ i : Nat, ((((i) : Nat) < (nb)) → (([.int .i64 ((g i).fst), .int .i64 ((g i).snd.fst)] : List PV) = [.int .i64 ((g i).fst), .int .i64 ((g i).snd.fst)]))),
  ((((↑e : Int)) : Int) = ((↑e : Int))),
  ((0 : Nat) = 0),
  ((0 : Nat) = 0),
  ((0 : Nat) = 0),
  ((0 : Nat) = 0),
  ((((↑N : Int)) : Int) = ((↑N : Int))),
  ((0 : Int) = ((↑0 : Int))),
  ((([AV.p (PV.int IntKind.i64 (↑N : Int)), brL g nb].length) : Nat) = 2),
  ((1 : Nat) ≤ 1),
  ((1 : Nat) ≤ 1),
  ((((↑N : Int)) : Int) = ((↑N : Int))),
  (((nb) : Nat) = (nb)),
  (∀ i : Nat, ((((i) : Nat) < (nb)) → (([.int .i64 ((g i).fst), .int .i64 ((g i).snd.fst)] : List PV) = [.int .i64 ((g i).fst), .int .i64 ((g i).snd.fst)]))),
  ((1 : Nat) = 1),
  ((0 : Nat) ≤ 0),
  (∀ i : Nat, ((((i) : Nat) < 0) → (All [] ∧ (([.p .any] : List AV) = [.p (.int .i64 0)])))),
  ((((List.map (fun v => AV.p (absV v)) [Value.int IntKind.i64 0, Value.int IntKind.i64 0]).length) : Nat) = 2),
  ((1 : Nat) ≤ 1),
  ((1 : Nat) ≤ 1),
  ((((g e).fst) : Int) = ((g e).fst)),
  ((((g e).snd.fst) : Int) = ((g e).snd.fst))]) := by kernel_rfl
theorem cBit (g : Nat → T_Bar) (nb N e n p : Nat) (f : Nat → Int) (r1 r2 : Bool) :
    pieceOb Try.prog 0 [.reg [oT], .dec true, .reg [oT, oT], .reg [oT, oT, oT, oT, ⟨true, (some ⟨[], [], 1, [], .p (.bool r1)⟩), none⟩, oT, oT, oT, oT, oT, ⟨true, (some ⟨[], [], 1, [], .p (.bool r2)⟩), none⟩, oT], .dec true, .reg [oT, oT, oT, oT, oT], .reg [oT, oT], .head] [.code (cAt (bodyOf Try.f60) [1, 1, 1, 1, 0, 1, 0, 0]), .inLoop (cAt (bodyOf Try.f60) [1, 1, 1, 1, 0, 1, 0, 0]), .inBlock 0, .code (cAt (bodyOf Try.f60) [1, 1, 1, 1, 1])] (SBi g nb N e n p f) [0, 579, 2] 1 (SBi g nb N e (n + 1) (p + 1) (snocI n f p)) =
    some ([.code (cAt (bodyOf Try.f60) [1, 1, 1, 1, 0, 1, 0, 0]), .inLoop (cAt (bodyOf Try.f60) [1, 1, 1, 1, 0, 1, 0, 0]), .inBlock 0, .code (cAt (bodyOf Try.f60) [1, 1, 1, 1, 1])], [((decide ((↑p : Int) < (↑N : Int))) = true),
  ((0 : Nat) < 1),
  ((0 : Nat) < 1),
  Con (Try.prog) 70 0 [] [.agg [.p (.int .i64 ((↑N : Int))), .p (.seq true 2 (nb) (fun i => [.int .i64 ((g i).fst), .int .i64 ((g i).snd.fst)]))], .p (.int .i64 ((g e).fst)), .p (.int .i64 ((↑p : Int)))] [] (.p (.bool (r1))),
  (((r1) = true) → ((0 : Nat) < 1)),
  (((r1) = true) → ((r1) = true)),
  (((r1) = true) → ((0 : Nat) < 1)),
  (((r1) = true) → ((r1) = true)),
  (((r1) = true) → ((r1) = true)),
  (((r1) = true) → ((r1) = true)),
  (((r1) = true) → Con (Try.prog) 70 0 [] [.agg [.p (.int .i64 ((↑N : Int))), .p (.seq true 2 (nb) (fun i => [.int .i64 ((g i).fst), .int .i64 ((g i).snd.fst)]))], .p (.int .i64 ((g e).snd.fst)), .p (.int .i64 ((↑p : Int)))] [] (.p (.bool (r2)))),
  (((r1) = true) → ((r1) = true)),
  ((bif r1 then r2 else false) = true),
  ((1 : Nat) ≤ 1),
  (((n) : Nat) ≤ (n)),
  ((((n + 1) * 8) : Nat) ≤ 140737488355328),
  (((n + 1) : Nat) ≤ 9223372036854775807),
  (((-9223372036854775808) : Int) ≤ ((↑p : Int) + 1)),
  ((((↑p : Int) + 1) : Int) ≤ 9223372036854775807),
  ((((↑N : Int)) : Int) = ((↑N : Int))),
  (((nb) : Nat) = (nb)),
  (∀ i : Nat, ((((i) : Nat) < (nb)) → (([.int .i64 ((g i).fst), .int .i64 ((g i).snd.fst)] : List PV) = [.int .i64 ((g i).fst), .int .i64 ((g i).snd.fst)]))),
  ((((↑e : Int)) : Int) = ((↑e : Int))),
  ((0 : Nat) = 0),
  ((0 : Nat) = 0),
  (((n + 1) : Nat) = (n + 1)),
  ((0 : Nat) = 0),
  ((((↑N : Int)) : Int) = ((↑N : Int))),
  ((((↑p : Int) + 1) : Int) = ((↑(p + 1) : Int))),
  ((2 : Nat) = 2),
  ((1 : Nat) ≤ 1),
  ((1 : Nat) ≤ 1),
  ((((↑N : Int)) : Int) = ((↑N : Int))),
  (((nb) : Nat) = (nb)),
  (∀ i : Nat, ((((i) : Nat) < (nb)) → (([.int .i64 ((g i).fst), .int .i64 ((g i).snd.fst)] : List PV) = [.int .i64 ((g i).fst), .int .i64 ((g i).snd.fst)]))),
  ((1 : Nat) = 1),
  (((n + 1) : Nat) ≤ (n + 1)),
  (∀ i : Nat, ((((i) : Nat) < (n + 1)) → (All (cvtL false [(579, ⟨false, 1, (n + 1), (fun i_1 => (if (i_1 < n) then [.p (.int .i64 (f i_1))] else [.p (.int .i64 ((↑p : Int)))]))⟩), (547, ⟨false, 1, 1, (fun i_1 => [.p (.int .i64 ((↑p : Int)))])⟩), (0, ⟨true, 2, 1, (fun i_1 => [.p (.int .i64 ((↑N : Int))), .p (.seq true 2 (nb) (fun i_2 => [.int .i64 ((g i_2).fst), .int .i64 ((g i_2).snd.fst)]))])⟩), (2, ⟨true, 2, 1, (fun i_1 => [.p (.int .i64 ((g e).fst)), .p (.int .i64 ((g e).snd.fst))])⟩)] [0, 579, 2] 1 (if (i < n) then [.p (.int .i64 (f i))] else [.p (.int .i64 ((↑p : Int)))])).2 ∧ (((cvtL false [(579, ⟨false, 1, (n + 1), (fun i_1 => (if (i_1 < n) then [.p (.int .i64 (f i_1))] else [.p (.int .i64 ((↑p : Int)))]))⟩), (547, ⟨false, 1, 1, (fun i_1 => [.p (.int .i64 ((↑p : Int)))])⟩), (0, ⟨true, 2, 1, (fun i_1 => [.p (.int .i64 ((↑N : Int))), .p (.seq true 2 (nb) (fun i_2 => [.int .i64 ((g i_2).fst), .int .i64 ((g i_2).snd.fst)]))])⟩), (2, ⟨true, 2, 1, (fun i_1 => [.p (.int .i64 ((g e).fst)), .p (.int .i64 ((g e).snd.fst))])⟩)] [0, 579, 2] 1 (if (i < n) then [.p (.int .i64 (f i))] else [.p (.int .i64 ((↑p : Int)))])).1 : List AV) = [.p (.int .i64 (snocI n f (↑p : Int) i))])))),
  ((2 : Nat) = 2),
  ((1 : Nat) ≤ 1),
  ((1 : Nat) ≤ 1),
  ((((g e).fst) : Int) = ((g e).fst)),
  ((((g e).snd.fst) : Int) = ((g e).snd.fst))]) := by kernel_rfl
theorem cBif (g : Nat → T_Bar) (nb N e n p : Nat) (f : Nat → Int) (r1 r2 : Bool) :
    pieceOb Try.prog 0 [.reg [oT], .dec true, .reg [oT, oT], .reg [oT, oT, oT, oT, ⟨true, (some ⟨[], [], 1, [], .p (.bool r1)⟩), none⟩, oT, oT, oT, oT, oT, ⟨true, (some ⟨[], [], 1, [], .p (.bool r2)⟩), none⟩, oT], .dec false, .reg [oT, oT], .head] [.code (cAt (bodyOf Try.f60) [1, 1, 1, 1, 0, 1, 0, 0]), .inLoop (cAt (bodyOf Try.f60) [1, 1, 1, 1, 0, 1, 0, 0]), .inBlock 0, .code (cAt (bodyOf Try.f60) [1, 1, 1, 1, 1])] (SBi g nb N e n p f) [0, 1, 2] 1 (SBi g nb N e n (p + 1) f) =
    some ([.code (cAt (bodyOf Try.f60) [1, 1, 1, 1, 0, 1, 0, 0]), .inLoop (cAt (bodyOf Try.f60) [1, 1, 1, 1, 0, 1, 0, 0]), .inBlock 0, .code (cAt (bodyOf Try.f60) [1, 1, 1, 1, 1])], [((decide ((↑p : Int) < (↑N : Int))) = true),
  ((0 : Nat) < 1),
  ((0 : Nat) < 1),
  Con (Try.prog) 70 0 [] [.agg [.p (.int .i64 ((↑N : Int))), .p (.seq true 2 (nb) (fun i => [.int .i64 ((g i).fst), .int .i64 ((g i).snd.fst)]))], .p (.int .i64 ((g e).fst)), .p (.int .i64 ((↑p : Int)))] [] (.p (.bool (r1))),
  (((r1) = true) → ((0 : Nat) < 1)),
  (((r1) = true) → ((r1) = true)),
  (((r1) = true) → ((0 : Nat) < 1)),
  (((r1) = true) → ((r1) = true)),
  (((r1) = true) → ((r1) = true)),
  (((r1) = true) → ((r1) = true)),
  (((r1) = true) → Con (Try.prog) 70 0 [] [.agg [.p (.int .i64 ((↑N : Int))), .p (.seq true 2 (nb) (fun i => [.int .i64 ((g i).fst), .int .i64 ((g i).snd.fst)]))], .p (.int .i64 ((g e).snd.fst)), .p (.int .i64 ((↑p : Int)))] [] (.p (.bool (r2)))),
  (((r1) = true) → ((r1) = true)),
  ((bif r1 then r2 else false) = false),
  (((-9223372036854775808) : Int) ≤ ((↑p : Int) + 1)),
  ((((↑p : Int) + 1) : Int) ≤ 9223372036854775807),
  ((((↑N : Int)) : Int) = ((↑N : Int))),
  (((nb) : Nat) = (nb)),
  (∀ i : Nat, ((((i) : Nat) < (nb)) → (([.int .i64 ((g i).fst), .int .i64 ((g i).snd.fst)] : List PV) = [.int .i64 ((g i).fst), .int .i64 ((g i).snd.fst)]))),
  ((((↑e : Int)) : Int) = ((↑e : Int))),
  ((0 : Nat) = 0),
  ((0 : Nat) = 0),
  (((n) : Nat) = (n)),
  ((0 : Nat) = 0),
  ((((↑N : Int)) : Int) = ((↑N : Int))),
  ((((↑p : Int) + 1) : Int) = ((↑(p + 1) : Int))),
  ((2 : Nat) = 2),
  ((1 : Nat) ≤ 1),
  ((1 : Nat) ≤ 1),
  ((((↑N : Int)) : Int) = ((↑N : Int))),
  (((nb) : Nat) = (nb)),
  (∀ i : Nat, ((((i) : Nat) < (nb)) → (([.int .i64 ((g i).fst), .int .i64 ((g i).snd.fst)] : List PV) = [.int .i64 ((g i).fst), .int .i64 ((g i).snd.fst)]))),
  ((1 : Nat) = 1),
  (((n) : Nat) ≤ (n)),
  (∀ i : Nat, ((((i) : Nat) < (n)) → (All [] ∧ (([.p (.int .i64 (f i))] : List AV) = [.p (.int .i64 (f i))])))),
  ((2 : Nat) = 2),
  ((1 : Nat) ≤ 1),
  ((1 : Nat) ≤ 1),
  ((((g e).fst) : Int) = ((g e).fst)),
  ((((g e).snd.fst) : Int) = ((g e).snd.fst))]) := by kernel_rfl
theorem cBie (g : Nat → T_Bar) (nb N e n p : Nat) (f : Nat → Int) :
    pathOb Try.prog Try.f60 0 [.reg [oT], .dec false, .reg [oT, oT]] [.code (cAt (bodyOf Try.f60) [1, 1, 1, 1, 0, 1, 0, 0]), .inLoop (cAt (bodyOf Try.f60) [1, 1, 1, 1, 0, 1, 0, 0]), .inBlock 0, .code (cAt (bodyOf Try.f60) [1, 1, 1, 1, 1])] (SBi g nb N e n p f) [1] 1 [(0, iOb n f)] (.ar 1 0 0 n) =
    some [((decide ((↑p : Int) < (↑N : Int))) = false),
  ((0 : Nat) = 0),
  (((n) : Nat) = (n)),
  ((1 : Nat) = 1),
  (((n) : Nat) ≤ (n)),
  (∀ i : Nat, ((((i) : Nat) < (n)) → (All [] ∧ (([.p (.int .i64 (f i))] : List AV) = [.p (.int .i64 (f i))])))),
  (∀ i : Nat, ((((i) : Nat) < (n)) → All []))] := by kernel_rfl
theorem cCsz (g : Nat → T_Bar) (nb N : Nat) :
    pieceOb Try.prog 0 [.reg [oT, oT], .reg [oT, oT], .reg [oT], .head] [.code (bodyOf Try.f36)] (start Try.f36 [] 0 [grG g nb N]) [0, 64] 1 (SCs g nb N 0 0 (fun _ => (0, fun _ => 0))) =
    some ([.code (cAt (bodyOf Try.f36) [1, 1, 0, 1, 0, 0]), .inLoop (cAt (bodyOf Try.f36) [1, 1, 0, 1, 0, 0]), .inBlock 0, .code (cAt (bodyOf Try.f36) [1, 1, 1])], [((((↑N : Int)) : Int) = ((↑N : Int))),
  (((nb) : Nat) = (nb)),
  (∀ i : Nat, ((((i) : Nat) < (nb)) → (([.int .i64 ((g i).fst), .int .i64 ((g i).snd.fst)] : List PV) = [.int .i64 ((g i).fst), .int .i64 ((g i).snd.fst)]))),
  ((0 : Nat) = 0),
  ((0 : Nat) = 0),
  ((0 : Nat) = 0),
  ((0 : Int) = ((↑0 : Int))),
  ((([AV.p (PV.int IntKind.i64 (↑N : Int)), brL g nb].length) : Nat) = 2),
  ((1 : Nat) ≤ 1),
  ((1 : Nat) ≤ 1),
  ((((↑N : Int)) : Int) = ((↑N : Int))),
  (((nb) : Nat) = (nb)),
  (∀ i : Nat, ((((i) : Nat) < (nb)) → (([.int .i64 ((g i).fst), .int .i64 ((g i).snd.fst)] : List PV) = [.int .i64 ((g i).fst), .int .i64 ((g i).snd.fst)]))),
  ((1 : Nat) = 1),
  ((0 : Nat) ≤ 0),
  (∀ i : Nat, ((((i) : Nat) < 0) → (All [] ∧ (([.p .any] : List AV) = [.p (.seq false 1 0 (fun i_1 => [.int .i64 ((0, fun x => 0).snd i_1)]))]))))]) := by kernel_rfl
theorem cCs1 (g : Nat → T_Bar) (nb N e cn : Nat) (C : Nat → T_IntS) (c : T_IntS) :
    pieceOb Try.prog 0 [.reg [oT, oT, oT, oT, oT, oT, oT, ⟨true, (some ⟨[], [], 1, [], .p (.bool true)⟩), none⟩, oT], .dec true, .reg [oT, oT, ⟨true, (some ⟨[], [], 1, [(0, iOb c.1 c.2)], .ar 1 0 0 c.1⟩), none⟩, oT], .reg [oT], .reg [oT], .head] [.code (cAt (bodyOf Try.f36) [1, 1, 0, 1, 0, 0]), .inLoop (cAt (bodyOf Try.f36) [1, 1, 0, 1, 0, 0]), .inBlock 0, .code (cAt (bodyOf Try.f36) [1, 1, 1])] (SCs g nb N e cn C) [0, 1, 354] 1 (SCs1 g nb N e cn C c false 0) =
    some ([.code (cAt (bodyOf Try.f36) [1, 1, 0, 1, 0, 0, 1, 0, 0, 1, 1, 0, 1, 0, 0]), .inLoop (cAt (bodyOf Try.f36) [1, 1, 0, 1, 0, 0, 1, 0, 0, 1, 1, 0, 1, 0, 0]), .inBlock 2, .code (cAt (bodyOf Try.f36) [1, 1, 0, 1, 0, 0, 1, 0, 0, 1, 1, 1]), .inBlock 1, .code (cAt (bodyOf Try.f36) [1, 1, 0, 1, 0, 0, 1, 1]), .inLoop (cAt (bodyOf Try.f36) [1, 1, 0, 1, 0, 0]), .inBlock 0, .code (cAt (bodyOf Try.f36) [1, 1, 1])], [((0 : Nat) < 1),
  (((decide ((↑e : Int) < (↑nb : Int))) = true) → ((0 : Nat) < 1)),
  (((decide ((↑e : Int) < (↑nb : Int))) = true) → ((decide ((↑e : Int) < (↑nb : Int))) = true)),
  (((decide ((↑e : Int) < (↑nb : Int))) = true) → Con (Try.prog) 35 0 [] [.agg [.p (.int .i64 ((↑N : Int))), .p (.seq true 2 (nb) (fun i => [.int .i64 ((g i).fst), .int .i64 ((g i).snd.fst)]))]] [] (.p (.bool true))),
  (((decide ((↑e : Int) < (↑nb : Int))) = true) → ((decide ((↑e : Int) < (↑nb : Int))) = true)),
  ((bif decide ((↑e : Int) < (↑nb : Int)) then true else false) = true),
  ((0 : Nat) < 1),
  Con (Try.prog) 56 0 [] [.agg [.p (.int .i64 ((↑N : Int))), .p (.seq true 2 (nb) (fun i => [.int .i64 ((g i).fst), .int .i64 ((g i).snd.fst)]))], .p (.int .i64 ((↑e : Int)))] [(0, ⟨false, 1, (c.fst), (fun i => [.p (.int .i64 (c.snd i))])⟩)] (.ar 1 0 0 (c.fst)),
  ((((↑N : Int)) : Int) = ((↑N : Int))),
  (((nb) : Nat) = (nb)),
  (∀ i : Nat, ((((i) : Nat) < (nb)) → (([.int .i64 ((g i).fst), .int .i64 ((g i).snd.fst)] : List PV) = [.int .i64 ((g i).fst), .int .i64 ((g i).snd.fst)]))),
  ((0 : Nat) = 0),
  ((0 : Nat) = 0),
  (((cn) : Nat) = (cn)),
  ((((↑e : Int)) : Int) = ((↑e : Int))),
  ((0 : Nat) = 0),
  (((c.fst) : Nat) = (c.fst)),
  (false = false),
  ((0 : Int) = ((↑0 : Int))),
  ((2 : Nat) = 2),
  ((1 : Nat) ≤ 1),
  ((1 : Nat) ≤ 1),
  ((((↑N : Int)) : Int) = ((↑N : Int))),
  (((nb) : Nat) = (nb)),
  (∀ i : Nat, ((((i) : Nat) < (nb)) → (([.int .i64 ((g i).fst), .int .i64 ((g i).snd.fst)] : List PV) = [.int .i64 ((g i).fst), .int .i64 ((g i).snd.fst)]))),
  ((1 : Nat) = 1),
  (((cn) : Nat) ≤ (cn)),
  (∀ i : Nat, ((((i) : Nat) < (cn)) → (All [] ∧ (([.p (.seq false 1 ((C i).fst) (fun i_1 => [.int .i64 ((C i).snd i_1)]))] : List AV) = [.p (.seq false 1 ((C i).fst) (fun i_1 => [.int .i64 ((C i).snd i_1)]))])))),
  ((1 : Nat) = 1),
  (((c.fst) : Nat) ≤ (c.fst)),
  (∀ i : Nat, ((((i) : Nat) < (c.fst)) → (All [] ∧ (([.p (.int .i64 (c.snd i))] : List AV) = [.p (.int .i64 (c.snd i))]))))]) := by kernel_rfl
theorem cCse (g : Nat → T_Bar) (nb N e cn : Nat) (C : Nat → T_IntS) (b : Bool) :
    pathOb Try.prog Try.f36 0 [.reg [oT, oT, oT, oT, oT, oT, oT, ⟨true, (some ⟨[], [], 1, [], .p (.bool b)⟩), none⟩, oT], .dec false, .reg [oT, oT]] [.code (cAt (bodyOf Try.f36) [1, 1, 0, 1, 0, 0]), .inLoop (cAt (bodyOf Try.f36) [1, 1, 0, 1, 0, 0]), .inBlock 0, .code (cAt (bodyOf Try.f36) [1, 1, 1])] (SCs g nb N e cn C) [1] 1 [(0, ssOb cn C)] (.ar 1 0 0 cn) =
    some [((0 : Nat) < 1),
  (((decide ((↑e : Int) < (↑nb : Int))) = true) → ((0 : Nat) < 1)),
  (((decide ((↑e : Int) < (↑nb : Int))) = true) → ((decide ((↑e : Int) < (↑nb : Int))) = true)),
  (((decide ((↑e : Int) < (↑nb : Int))) = true) → Con (Try.prog) 35 0 [] [.agg [.p (.int .i64 ((↑N : Int))), .p (.seq true 2 (nb) (fun i => [.int .i64 ((g i).fst), .int .i64 ((g i).snd.fst)]))]] [] (.p (.bool (b)))),
  (((decide ((↑e : Int) < (↑nb : Int))) = true) → ((decide ((↑e : Int) < (↑nb : Int))) = true)),
  ((bif decide ((↑e : Int) < (↑nb : Int)) then b else false) = false),
  ((0 : Nat) = 0),
  (((cn) : Nat) = (cn)),
  ((1 : Nat) = 1),
  (((cn) : Nat) ≤ (cn)),
  (∀ i : Nat, ((((i) : Nat) < (cn)) → (All [] ∧ (([.p (.seq false 1 ((C i).fst) (fun i_1 => [.int .i64 ((C i).snd i_1)]))] : List AV) = [.p (.seq false 1 ((C i).fst) (fun i_1 => [.int .i64 ((C i).snd i_1)]))])))),
  (∀ i : Nat, ((((i) : Nat) < (cn)) → All [(false = false), (∀ i_1 : Nat, ((((i_1) : Nat) < ((C i).fst)) → All []))]))] := by kernel_rfl
theorem cCs2 (g : Nat → T_Bar) (nb N e cn : Nat) (C : Nat → T_IntS) (c : T_IntS) (kn : Bool) (k : Nat) (q : Bool) :
    pieceOb Try.prog 0 [.reg [oT, oT, oT, oT], .dec true, .reg [oT, oT, oT, oT, oT, oT, oT, ⟨true, (some ⟨[], [], 1, [], .p (.bool q)⟩), none⟩, oT, oT], .reg [oT, oT, oT], .head] [.code (cAt (bodyOf Try.f36) [1, 1, 0, 1, 0, 0, 1, 0, 0, 1, 1, 0, 1, 0, 0]), .inLoop (cAt (bodyOf Try.f36) [1, 1, 0, 1, 0, 0, 1, 0, 0, 1, 1, 0, 1, 0, 0]), .inBlock 2, .code (cAt (bodyOf Try.f36) [1, 1, 0, 1, 0, 0, 1, 0, 0, 1, 1, 1]), .inBlock 1, .code (cAt (bodyOf Try.f36) [1, 1, 0, 1, 0, 0, 1, 1]), .inLoop (cAt (bodyOf Try.f36) [1, 1, 0, 1, 0, 0]), .inBlock 0, .code (cAt (bodyOf Try.f36) [1, 1, 1])] (SCs1 g nb N e cn C c kn k) [0, 1, 2] 1 (SCs1 g nb N e cn C c (bif kn then true else q) (k + 1)) =
    some ([.code (cAt (bodyOf Try.f36) [1, 1, 0, 1, 0, 0, 1, 0, 0, 1, 1, 0, 1, 0, 0]), .inLoop (cAt (bodyOf Try.f36) [1, 1, 0, 1, 0, 0, 1, 0, 0, 1, 1, 0, 1, 0, 0]), .inBlock 2, .code (cAt (bodyOf Try.f36) [1, 1, 0, 1, 0, 0, 1, 0, 0, 1, 1, 1]), .inBlock 1, .code (cAt (bodyOf Try.f36) [1, 1, 0, 1, 0, 0, 1, 1]), .inLoop (cAt (bodyOf Try.f36) [1, 1, 0, 1, 0, 0]), .inBlock 0, .code (cAt (bodyOf Try.f36) [1, 1, 1])], [((decide ((↑k : Int) < (↑cn : Int))) = true),
  (((!kn) = true) → ((!kn) = true)),
  (((!kn) = true) → ((!kn) = true)),
  (((!kn) = true) → ((0 : Int) ≤ ((↑k : Int)))),
  (((!kn) = true) → ((((↑k : Int)) : Int) < ((↑cn : Int)))),
  (((!kn) = true) → ((!kn) = true)),
  (((!kn) = true) → (((k) : Nat) < (cn))),
  (((!kn) = true) → ((!kn) = true)),
  (((!kn) = true) → ((!kn) = true)),
  (((!kn) = true) → ((1 : Nat) = 1)),
  (((!kn) = true) → (((c.fst) : Nat) ≤ (c.fst))),
  (((!kn) = true) → Con (Try.prog) 57 0 [] [.p (.seq true 1 ((C k).fst) (fun i => [.int .i64 ((C k).snd i)])), .p (.seq true 1 (c.fst) (fun i => [.int .i64 (c.snd i)]))] [] (.p (.bool (q)))),
  (((kn) = false) → ((!kn) = true)),
  (((-9223372036854775808) : Int) ≤ ((↑k : Int) + 1)),
  ((((↑k : Int) + 1) : Int) ≤ 9223372036854775807),
  ((((↑N : Int)) : Int) = ((↑N : Int))),
  (((nb) : Nat) = (nb)),
  (∀ i : Nat, ((((i) : Nat) < (nb)) → (([.int .i64 ((g i).fst), .int .i64 ((g i).snd.fst)] : List PV) = [.int .i64 ((g i).fst), .int .i64 ((g i).snd.fst)]))),
  ((0 : Nat) = 0),
  ((0 : Nat) = 0),
  (((cn) : Nat) = (cn)),
  ((((↑e : Int)) : Int) = ((↑e : Int))),
  ((0 : Nat) = 0),
  (((c.fst) : Nat) = (c.fst)),
  ((bif kn then true else q) = (bif kn then true else q)),
  ((((↑k : Int) + 1) : Int) = ((↑(k + 1) : Int))),
  ((2 : Nat) = 2),
  ((1 : Nat) ≤ 1),
  ((1 : Nat) ≤ 1),
  ((((↑N : Int)) : Int) = ((↑N : Int))),
  (((nb) : Nat) = (nb)),
  (∀ i : Nat, ((((i) : Nat) < (nb)) → (([.int .i64 ((g i).fst), .int .i64 ((g i).snd.fst)] : List PV) = [.int .i64 ((g i).fst), .int .i64 ((g i).snd.fst)]))),
  ((1 : Nat) = 1),
  (((cn) : Nat) ≤ (cn)),
  (∀ i : Nat, ((((i) : Nat) < (cn)) → (All [] ∧ (([.p (.seq false 1 ((C i).fst) (fun i_1 => [.int .i64 ((C i).snd i_1)]))] : List AV) = [.p (.seq false 1 ((C i).fst) (fun i_1 => [.int .i64 ((C i).snd i_1)]))])))),
  ((1 : Nat) = 1),
  (((c.fst) : Nat) ≤ (c.fst)),
  (∀ i : Nat, ((((i) : Nat) < (c.fst)) → (All [] ∧ (([.p (.int .i64 (c.snd i))] : List AV) = [.p (.int .i64 (c.snd i))]))))]) := by kernel_rfl
theorem cCs3 (g : Nat → T_Bar) (nb N e cn : Nat) (C : Nat → T_IntS) (c : T_IntS) (kn : Bool) (k : Nat) :
    pieceOb Try.prog 0 [.reg [oT, oT, oT, oT], .dec false, .reg [oT, oT], .dec true, .reg [oT, oT, oT, oT, oT], .reg [oT, oT, oT], .head] [.code (cAt (bodyOf Try.f36) [1, 1, 0, 1, 0, 0, 1, 0, 0, 1, 1, 0, 1, 0, 0]), .inLoop (cAt (bodyOf Try.f36) [1, 1, 0, 1, 0, 0, 1, 0, 0, 1, 1, 0, 1, 0, 0]), .inBlock 2, .code (cAt (bodyOf Try.f36) [1, 1, 0, 1, 0, 0, 1, 0, 0, 1, 1, 1]), .inBlock 1, .code (cAt (bodyOf Try.f36) [1, 1, 0, 1, 0, 0, 1, 1]), .inLoop (cAt (bodyOf Try.f36) [1, 1, 0, 1, 0, 0]), .inBlock 0, .code (cAt (bodyOf Try.f36) [1, 1, 1])] (SCs1 g nb N e cn C c kn k) [0, 291] 1 (SCs g nb N (e + 1) (cn + 1) (snocC cn C c)) =
    some ([.code (cAt (bodyOf Try.f36) [1, 1, 0, 1, 0, 0]), .inLoop (cAt (bodyOf Try.f36) [1, 1, 0, 1, 0, 0]), .inBlock 0, .code (cAt (bodyOf Try.f36) [1, 1, 1])], [((decide ((↑k : Int) < (↑cn : Int))) = false),
  ((!kn) = true),
  ((1 : Nat) ≤ 1),
  (((cn) : Nat) ≤ (cn)),
  ((((cn + 1) * 24) : Nat) ≤ 140737488355328),
  (((cn + 1) : Nat) ≤ 9223372036854775807),
  (((-9223372036854775808) : Int) ≤ ((↑e : Int) + 1)),
  ((((↑e : Int) + 1) : Int) ≤ 9223372036854775807),
  ((((↑N : Int)) : Int) = ((↑N : Int))),
  (((nb) : Nat) = (nb)),
  (∀ i : Nat, ((((i) : Nat) < (nb)) → (([.int .i64 ((g i).fst), .int .i64 ((g i).snd.fst)] : List PV) = [.int .i64 ((g i).fst), .int .i64 ((g i).snd.fst)]))),
  ((0 : Nat) = 0),
  ((0 : Nat) = 0),
  (((cn + 1) : Nat) = (cn + 1)),
  ((((↑e : Int) + 1) : Int) = ((↑(e + 1) : Int))),
  ((2 : Nat) = 2),
  ((1 : Nat) ≤ 1),
  ((1 : Nat) ≤ 1),
  ((((↑N : Int)) : Int) = ((↑N : Int))),
  (((nb) : Nat) = (nb)),
  (∀ i : Nat, ((((i) : Nat) < (nb)) → (([.int .i64 ((g i).fst), .int .i64 ((g i).snd.fst)] : List PV) = [.int .i64 ((g i).fst), .int .i64 ((g i).snd.fst)]))),
  ((1 : Nat) = 1),
  (((cn + 1) : Nat) ≤ (cn + 1)),
  (∀ i : Nat, ((((i) : Nat) < (cn + 1)) → (All (cvtL false [(291, ⟨false, 1, (cn + 1), (fun i_1 => (if (i_1 < cn) then [.p (.seq false 1 ((C i_1).fst) (fun i_2 => [.int .i64 ((C i_1).snd i_2)]))] else [.ar 1 2 0 (c.fst)]))⟩), (259, ⟨false, 1, 1, (fun i_1 => [.ar 1 2 0 (c.fst)])⟩), (0, ⟨true, 2, 1, (fun i_1 => [.p (.int .i64 ((↑N : Int))), .p (.seq true 2 (nb) (fun i_2 => [.int .i64 ((g i_2).fst), .int .i64 ((g i_2).snd.fst)]))])⟩), (2, ⟨false, 1, (c.fst), (fun i_1 => [.p (.int .i64 (c.snd i_1))])⟩)] [0, 291] 1 (if (i < cn) then [.p (.seq false 1 ((C i).fst) (fun i_1 => [.int .i64 ((C i).snd i_1)]))] else [.ar 1 2 0 (c.fst)])).2 ∧ (((cvtL false [(291, ⟨false, 1, (cn + 1), (fun i_1 => (if (i_1 < cn) then [.p (.seq false 1 ((C i_1).fst) (fun i_2 => [.int .i64 ((C i_1).snd i_2)]))] else [.ar 1 2 0 (c.fst)]))⟩), (259, ⟨false, 1, 1, (fun i_1 => [.ar 1 2 0 (c.fst)])⟩), (0, ⟨true, 2, 1, (fun i_1 => [.p (.int .i64 ((↑N : Int))), .p (.seq true 2 (nb) (fun i_2 => [.int .i64 ((g i_2).fst), .int .i64 ((g i_2).snd.fst)]))])⟩), (2, ⟨false, 1, (c.fst), (fun i_1 => [.p (.int .i64 (c.snd i_1))])⟩)] [0, 291] 1 (if (i < cn) then [.p (.seq false 1 ((C i).fst) (fun i_1 => [.int .i64 ((C i).snd i_1)]))] else [.ar 1 2 0 (c.fst)])).1 : List AV) = [.p (.seq false 1 (if i < cn then (C i).fst else c.fst) (fun i_1 => [.int .i64 ((snocC cn C c i).snd i_1)]))]))))]) := by kernel_rfl
theorem cCs4 (g : Nat → T_Bar) (nb N e cn : Nat) (C : Nat → T_IntS) (c : T_IntS) (kn : Bool) (k : Nat) :
    pieceOb Try.prog 0 [.reg [oT, oT, oT, oT], .dec false, .reg [oT, oT], .dec false, .reg [oT, oT, oT], .head] [.code (cAt (bodyOf Try.f36) [1, 1, 0, 1, 0, 0, 1, 0, 0, 1, 1, 0, 1, 0, 0]), .inLoop (cAt (bodyOf Try.f36) [1, 1, 0, 1, 0, 0, 1, 0, 0, 1, 1, 0, 1, 0, 0]), .inBlock 2, .code (cAt (bodyOf Try.f36) [1, 1, 0, 1, 0, 0, 1, 0, 0, 1, 1, 1]), .inBlock 1, .code (cAt (bodyOf Try.f36) [1, 1, 0, 1, 0, 0, 1, 1]), .inLoop (cAt (bodyOf Try.f36) [1, 1, 0, 1, 0, 0]), .inBlock 0, .code (cAt (bodyOf Try.f36) [1, 1, 1])] (SCs1 g nb N e cn C c kn k) [0, 1] 1 (SCs g nb N (e + 1) cn C) =
    some ([.code (cAt (bodyOf Try.f36) [1, 1, 0, 1, 0, 0]), .inLoop (cAt (bodyOf Try.f36) [1, 1, 0, 1, 0, 0]), .inBlock 0, .code (cAt (bodyOf Try.f36) [1, 1, 1])], [((decide ((↑k : Int) < (↑cn : Int))) = false),
  ((!kn) = false),
  (((-9223372036854775808) : Int) ≤ ((↑e : Int) + 1)),
  ((((↑e : Int) + 1) : Int) ≤ 9223372036854775807),
  ((((↑N : Int)) : Int) = ((↑N : Int))),
  (((nb) : Nat) = (nb)),
  (∀ i : Nat, ((((i) : Nat) < (nb)) → (([.int .i64 ((g i).fst), .int .i64 ((g i).snd.fst)] : List PV) = [.int .i64 ((g i).fst), .int .i64 ((g i).snd.fst)]))),
  ((0 : Nat) = 0),
  ((0 : Nat) = 0),
  (((cn) : Nat) = (cn)),
  ((((↑e : Int) + 1) : Int) = ((↑(e + 1) : Int))),
  ((2 : Nat) = 2),
  ((1 : Nat) ≤ 1),
  ((1 : Nat) ≤ 1),
  ((((↑N : Int)) : Int) = ((↑N : Int))),
  (((nb) : Nat) = (nb)),
  (∀ i : Nat, ((((i) : Nat) < (nb)) → (([.int .i64 ((g i).fst), .int .i64 ((g i).snd.fst)] : List PV) = [.int .i64 ((g i).fst), .int .i64 ((g i).snd.fst)]))),
  ((1 : Nat) = 1),
  (((cn) : Nat) ≤ (cn)),
  (∀ i : Nat, ((((i) : Nat) < (cn)) → (All [] ∧ (([.p (.seq false 1 ((C i).fst) (fun i_1 => [.int .i64 ((C i).snd i_1)]))] : List AV) = [.p (.seq false 1 ((C i).fst) (fun i_1 => [.int .i64 ((C i).snd i_1)]))]))))]) := by kernel_rfl
theorem cCiz (g : Nat → T_Bar) (nb N : Nat) :
    pieceOb Try.prog 0 [.reg [oT, oT], .reg [oT, oT], .reg [oT, ⟨true, (some ⟨[], [], 1, [], .p (.bool true)⟩), none⟩, oT], .dec false, .reg [oT, oT, oT, oT], .head] [.code (bodyOf Try.f39)] (start Try.f39 [] 0 [grG g nb N]) [0, 64] 1 (SCi g nb N 0 0 (fun _ => (0, fun _ => 0))) =
    some ([.code (cAt (bodyOf Try.f39) [1, 1, 1, 0, 1, 0, 0]), .inLoop (cAt (bodyOf Try.f39) [1, 1, 1, 0, 1, 0, 0]), .inBlock 0, .code (cAt (bodyOf Try.f39) [1, 1, 1, 1])], [((0 : Nat) < 1),
  Con (Try.prog) 38 0 [] [.agg [.p (.int .i64 ((↑N : Int))), .p (.seq true 2 (nb) (fun i => [.int .i64 ((g i).fst), .int .i64 ((g i).snd.fst)]))]] [] (.p (.bool true)),
  ((!true) = false),
  ((0 : Nat) < 1),
  ((((↑N : Int)) : Int) = ((↑N : Int))),
  (((nb) : Nat) = (nb)),
  (∀ i : Nat, ((((i) : Nat) < (nb)) → (([.int .i64 ((g i).fst), .int .i64 ((g i).snd.fst)] : List PV) = [.int .i64 ((g i).fst), .int .i64 ((g i).snd.fst)]))),
  ((0 : Nat) = 0),
  ((0 : Nat) = 0),
  ((0 : Nat) = 0),
  ((((↑nb : Int)) : Int) = ((↑nb : Int))),
  ((0 : Int) = ((↑0 : Int))),
  ((([AV.p (PV.int IntKind.i64 (↑N : Int)), brL g nb].length) : Nat) = 2),
  ((1 : Nat) ≤ 1),
  ((1 : Nat) ≤ 1),
  ((((↑N : Int)) : Int) = ((↑N : Int))),
  (((nb) : Nat) = (nb)),
  (∀ i : Nat, ((((i) : Nat) < (nb)) → (([.int .i64 ((g i).fst), .int .i64 ((g i).snd.fst)] : List PV) = [.int .i64 ((g i).fst), .int .i64 ((g i).snd.fst)]))),
  ((1 : Nat) = 1),
  ((0 : Nat) ≤ 0),
  (∀ i : Nat, ((((i) : Nat) < 0) → (All [] ∧ (([.p .any] : List AV) = [.p (.seq false 1 0 (fun i_1 => [.int .i64 ((0, fun x => 0).snd i_1)]))]))))]) := by kernel_rfl
theorem cCiy (g : Nat → T_Bar) (nb : Nat) (N : Int) :
    pathOb Try.prog Try.f39 0 [.reg [oT, oT], .reg [oT, oT], .reg [oT, ⟨true, (some ⟨[], [], 1, [], .p (.bool false)⟩), none⟩, oT], .dec true, .reg [oT, oT]] [.code (bodyOf Try.f39)] (start Try.f39 [] 0 [.agg [.p (.int .i64 N), brL g nb]]) [64] 1 [(0, ssOb 0 (fun _ => (0, fun _ => 0)))] (.ar 1 0 0 0) =
    some [((0 : Nat) < 1),
  Con (Try.prog) 38 0 [] [.agg [.p (.int .i64 (N)), .p (.seq true 2 (nb) (fun i => [.int .i64 ((g i).fst), .int .i64 ((g i).snd.fst)]))]] [] (.p (.bool false)),
  ((!false) = true),
  ((0 : Nat) = 0),
  ((0 : Nat) = 0),
  ((1 : Nat) = 1),
  ((0 : Nat) ≤ 0),
  (∀ i : Nat, ((((i) : Nat) < 0) → (All [] ∧ (([.p .any] : List AV) = [.p (.seq false 1 0 (fun i_1 => [.int .i64 ((0, fun x => 0).snd i_1)]))])))),
  (∀ i : Nat, ((((i) : Nat) < 0) → All [(false = false), (∀ i_1 : Nat, ((((i_1) : Nat) < 0) → All []))]))] := by kernel_rfl
theorem cCi1 (g : Nat → T_Bar) (nb N e cn : Nat) (C : Nat → T_IntS) (c : T_IntS) :
    pieceOb Try.prog 0 [.reg [oT], .dec true, .reg [oT, oT], .reg [oT, oT, ⟨true, (some ⟨[], [], 1, [(0, iOb c.1 c.2)], .ar 1 0 0 c.1⟩), none⟩, oT], .reg [oT], .reg [oT, oT, oT], .head] [.code (cAt (bodyOf Try.f39) [1, 1, 1, 0, 1, 0, 0]), .inLoop (cAt (bodyOf Try.f39) [1, 1, 1, 0, 1, 0, 0]), .inBlock 0, .code (cAt (bodyOf Try.f39) [1, 1, 1, 1])] (SCi g nb N e cn C) [0, 1, 162] 1 (SCi1 g nb N e cn C c false 0) =
    some ([.code (cAt (bodyOf Try.f39) [1, 1, 1, 0, 1, 0, 0, 1, 1, 0, 0, 1, 1, 1, 0, 1, 0, 0]), .inLoop (cAt (bodyOf Try.f39) [1, 1, 1, 0, 1, 0, 0, 1, 1, 0, 0, 1, 1, 1, 0, 1, 0, 0]), .inBlock 2, .code (cAt (bodyOf Try.f39) [1, 1, 1, 0, 1, 0, 0, 1, 1, 0, 0, 1, 1, 1, 1]), .inBlock 1, .code (cAt (bodyOf Try.f39) [1, 1, 1, 0, 1, 0, 0, 1, 1, 1]), .inLoop (cAt (bodyOf Try.f39) [1, 1, 1, 0, 1, 0, 0]), .inBlock 0, .code (cAt (bodyOf Try.f39) [1, 1, 1, 1])], [((decide ((↑e : Int) < (↑nb : Int))) = true),
  ((0 : Nat) < 1),
  Con (Try.prog) 60 0 [] [.agg [.p (.int .i64 ((↑N : Int))), .p (.seq true 2 (nb) (fun i => [.int .i64 ((g i).fst), .int .i64 ((g i).snd.fst)]))], .p (.int .i64 ((↑e : Int)))] [(0, ⟨false, 1, (c.fst), (fun i => [.p (.int .i64 (c.snd i))])⟩)] (.ar 1 0 0 (c.fst)),
  ((((↑N : Int)) : Int) = ((↑N : Int))),
  (((nb) : Nat) = (nb)),
  (∀ i : Nat, ((((i) : Nat) < (nb)) → (([.int .i64 ((g i).fst), .int .i64 ((g i).snd.fst)] : List PV) = [.int .i64 ((g i).fst), .int .i64 ((g i).snd.fst)]))),
  ((0 : Nat) = 0),
  ((0 : Nat) = 0),
  (((cn) : Nat) = (cn)),
  ((0 : Nat) = 0),
  (((c.fst) : Nat) = (c.fst)),
  (false = false),
  ((((↑nb : Int)) : Int) = ((↑nb : Int))),
  ((((↑e : Int)) : Int) = ((↑e : Int))),
  ((0 : Nat) = 0),
  (((cn) : Nat) = (cn)),
  ((((↑cn : Int)) : Int) = ((↑cn : Int))),
  ((0 : Int) = ((↑0 : Int))),
  ((2 : Nat) = 2),
  ((1 : Nat) ≤ 1),
  ((1 : Nat) ≤ 1),
  ((((↑N : Int)) : Int) = ((↑N : Int))),
  (((nb) : Nat) = (nb)),
  (∀ i : Nat, ((((i) : Nat) < (nb)) → (([.int .i64 ((g i).fst), .int .i64 ((g i).snd.fst)] : List PV) = [.int .i64 ((g i).fst), .int .i64 ((g i).snd.fst)]))),
  ((1 : Nat) = 1),
  (((cn) : Nat) ≤ (cn)),
  (∀ i : Nat, ((((i) : Nat) < (cn)) → (All [] ∧ (([.p (.seq false 1 ((C i).fst) (fun i_1 => [.int .i64 ((C i).snd i_1)]))] : List AV) = [.p (.seq false 1 ((C i).fst) (fun i_1 => [.int .i64 ((C i).snd i_1)]))])))),
  ((1 : Nat) = 1),
  (((c.fst) : Nat) ≤ (c.fst)),
  (∀ i : Nat, ((((i) : Nat) < (c.fst)) → (All [] ∧ (([.p (.int .i64 (c.snd i))] : List AV) = [.p (.int .i64 (c.snd i))]))))]) := by kernel_rfl
theorem cCie (g : Nat → T_Bar) (nb N e cn : Nat) (C : Nat → T_IntS) :
    pathOb Try.prog Try.f39 0 [.reg [oT], .dec false, .reg [oT, oT]] [.code (cAt (bodyOf Try.f39) [1, 1, 1, 0, 1, 0, 0]), .inLoop (cAt (bodyOf Try.f39) [1, 1, 1, 0, 1, 0, 0]), .inBlock 0, .code (cAt (bodyOf Try.f39) [1, 1, 1, 1])] (SCi g nb N e cn C) [1] 1 [(0, ssOb cn C)] (.ar 1 0 0 cn) =
    some [((decide ((↑e : Int) < (↑nb : Int))) = false),
  ((0 : Nat) = 0),
  (((cn) : Nat) = (cn)),
  ((1 : Nat) = 1),
  (((cn) : Nat) ≤ (cn)),
  (∀ i : Nat, ((((i) : Nat) < (cn)) → (All [] ∧ (([.p (.seq false 1 ((C i).fst) (fun i_1 => [.int .i64 ((C i).snd i_1)]))] : List AV) = [.p (.seq false 1 ((C i).fst) (fun i_1 => [.int .i64 ((C i).snd i_1)]))])))),
  (∀ i : Nat, ((((i) : Nat) < (cn)) → All [(false = false), (∀ i_1 : Nat, ((((i_1) : Nat) < ((C i).fst)) → All []))]))] := by kernel_rfl
theorem cCi2 (g : Nat → T_Bar) (nb N e cn : Nat) (C : Nat → T_IntS) (c : T_IntS) (kn : Bool) (k : Nat) (q : Bool) :
    pieceOb Try.prog 0 [.reg [oT], .dec true, .reg [oT, oT, oT], .reg [oT, oT, oT, oT, ⟨true, (some ⟨[], [], 1, [], .p (.bool q)⟩), none⟩, oT, oT], .reg [oT, oT], .head] [.code (cAt (bodyOf Try.f39) [1, 1, 1, 0, 1, 0, 0, 1, 1, 0, 0, 1, 1, 1, 0, 1, 0, 0]), .inLoop (cAt (bodyOf Try.f39) [1, 1, 1, 0, 1, 0, 0, 1, 1, 0, 0, 1, 1, 1, 0, 1, 0, 0]), .inBlock 2, .code (cAt (bodyOf Try.f39) [1, 1, 1, 0, 1, 0, 0, 1, 1, 0, 0, 1, 1, 1, 1]), .inBlock 1, .code (cAt (bodyOf Try.f39) [1, 1, 1, 0, 1, 0, 0, 1, 1, 1]), .inLoop (cAt (bodyOf Try.f39) [1, 1, 1, 0, 1, 0, 0]), .inBlock 0, .code (cAt (bodyOf Try.f39) [1, 1, 1, 1])] (SCi1 g nb N e cn C c kn k) [0, 1, 2] 1 (SCi1 g nb N e cn C c (bif kn then true else q) (k + 1)) =
    some ([.code (cAt (bodyOf Try.f39) [1, 1, 1, 0, 1, 0, 0, 1, 1, 0, 0, 1, 1, 1, 0, 1, 0, 0]), .inLoop (cAt (bodyOf Try.f39) [1, 1, 1, 0, 1, 0, 0, 1, 1, 0, 0, 1, 1, 1, 0, 1, 0, 0]), .inBlock 2, .code (cAt (bodyOf Try.f39) [1, 1, 1, 0, 1, 0, 0, 1, 1, 0, 0, 1, 1, 1, 1]), .inBlock 1, .code (cAt (bodyOf Try.f39) [1, 1, 1, 0, 1, 0, 0, 1, 1, 1]), .inLoop (cAt (bodyOf Try.f39) [1, 1, 1, 0, 1, 0, 0]), .inBlock 0, .code (cAt (bodyOf Try.f39) [1, 1, 1, 1])], [((decide ((↑k : Int) < (↑cn : Int))) = true),
  ((0 : Int) ≤ ((↑k : Int))),
  ((((↑k : Int)) : Int) < ((↑cn : Int))),
  (((k) : Nat) < (cn)),
  (((!kn) = true) → ((!kn) = true)),
  (((!kn) = true) → ((!kn) = true)),
  (((!kn) = true) → ((1 : Nat) = 1)),
  (((!kn) = true) → (((c.fst) : Nat) ≤ (c.fst))),
  (((!kn) = true) → Con (Try.prog) 61 0 [] [.p (.seq true 1 ((C k).fst) (fun i => [.int .i64 ((C k).snd i)])), .p (.seq true 1 (c.fst) (fun i => [.int .i64 (c.snd i)]))] [] (.p (.bool (q)))),
  (((kn) = false) → ((!kn) = true)),
  (((-9223372036854775808) : Int) ≤ ((↑k : Int) + 1)),
  ((((↑k : Int) + 1) : Int) ≤ 9223372036854775807),
  ((((↑N : Int)) : Int) = ((↑N : Int))),
  (((nb) : Nat) = (nb)),
  (∀ i : Nat, ((((i) : Nat) < (nb)) → (([.int .i64 ((g i).fst), .int .i64 ((g i).snd.fst)] : List PV) = [.int .i64 ((g i).fst), .int .i64 ((g i).snd.fst)]))),
  ((0 : Nat) = 0),
  ((0 : Nat) = 0),
  (((cn) : Nat) = (cn)),
  ((0 : Nat) = 0),
  (((c.fst) : Nat) = (c.fst)),
  ((bif kn then true else q) = (bif kn then true else q)),
  ((((↑nb : Int)) : Int) = ((↑nb : Int))),
  ((((↑e : Int)) : Int) = ((↑e : Int))),
  ((0 : Nat) = 0),
  (((cn) : Nat) = (cn)),
  ((((↑cn : Int)) : Int) = ((↑cn : Int))),
  ((((↑k : Int) + 1) : Int) = ((↑(k + 1) : Int))),
  ((2 : Nat) = 2),
  ((1 : Nat) ≤ 1),
  ((1 : Nat) ≤ 1),
  ((((↑N : Int)) : Int) = ((↑N : Int))),
  (((nb) : Nat) = (nb)),
  (∀ i : Nat, ((((i) : Nat) < (nb)) → (([.int .i64 ((g i).fst), .int .i64 ((g i).snd.fst)] : List PV) = [.int .i64 ((g i).fst), .int .i64 ((g i).snd.fst)]))),
  ((1 : Nat) = 1),
  (((cn) : Nat) ≤ (cn)),
  (∀ i : Nat, ((((i) : Nat) < (cn)) → (All [] ∧ (([.p (.seq false 1 ((C i).fst) (fun i_1 => [.int .i64 ((C i).snd i_1)]))] : List AV) = [.p (.seq false 1 ((C i).fst) (fun i_1 => [.int .i64 ((C i).snd i_1)]))])))),
  ((1 : Nat) = 1),
  (((c.fst) : Nat) ≤ (c.fst)),
  (∀ i : Nat, ((((i) : Nat) < (c.fst)) → (All [] ∧ (([.p (.int .i64 (c.snd i))] : List AV) = [.p (.int .i64 (c.snd i))]))))]) := by kernel_rfl
theorem cCi3 (g : Nat → T_Bar) (nb N e cn : Nat) (C : Nat → T_IntS) (c : T_IntS) (kn : Bool) (k : Nat) :
    pieceOb Try.prog 0 [.reg [oT], .dec false, .reg [oT, oT], .dec true, .reg [oT, oT, oT, oT, oT], .reg [oT, oT], .head] [.code (cAt (bodyOf Try.f39) [1, 1, 1, 0, 1, 0, 0, 1, 1, 0, 0, 1, 1, 1, 0, 1, 0, 0]), .inLoop (cAt (bodyOf Try.f39) [1, 1, 1, 0, 1, 0, 0, 1, 1, 0, 0, 1, 1, 1, 0, 1, 0, 0]), .inBlock 2, .code (cAt (bodyOf Try.f39) [1, 1, 1, 0, 1, 0, 0, 1, 1, 0, 0, 1, 1, 1, 1]), .inBlock 1, .code (cAt (bodyOf Try.f39) [1, 1, 1, 0, 1, 0, 0, 1, 1, 1]), .inLoop (cAt (bodyOf Try.f39) [1, 1, 1, 0, 1, 0, 0]), .inBlock 0, .code (cAt (bodyOf Try.f39) [1, 1, 1, 1])] (SCi1 g nb N e cn C c kn k) [0, 195] 1 (SCi g nb N (e + 1) (cn + 1) (snocC cn C c)) =
    some ([.code (cAt (bodyOf Try.f39) [1, 1, 1, 0, 1, 0, 0]), .inLoop (cAt (bodyOf Try.f39) [1, 1, 1, 0, 1, 0, 0]), .inBlock 0, .code (cAt (bodyOf Try.f39) [1, 1, 1, 1])], [((decide ((↑k : Int) < (↑cn : Int))) = false),
  ((!kn) = true),
  ((1 : Nat) ≤ 1),
  (((cn) : Nat) ≤ (cn)),
  ((((cn + 1) * 24) : Nat) ≤ 140737488355328),
  (((cn + 1) : Nat) ≤ 9223372036854775807),
  (((-9223372036854775808) : Int) ≤ ((↑e : Int) + 1)),
  ((((↑e : Int) + 1) : Int) ≤ 9223372036854775807),
  ((((↑N : Int)) : Int) = ((↑N : Int))),
  (((nb) : Nat) = (nb)),
  (∀ i : Nat, ((((i) : Nat) < (nb)) → (([.int .i64 ((g i).fst), .int .i64 ((g i).snd.fst)] : List PV) = [.int .i64 ((g i).fst), .int .i64 ((g i).snd.fst)]))),
  ((0 : Nat) = 0),
  ((0 : Nat) = 0),
  (((cn + 1) : Nat) = (cn + 1)),
  ((((↑nb : Int)) : Int) = ((↑nb : Int))),
  ((((↑e : Int) + 1) : Int) = ((↑(e + 1) : Int))),
  ((2 : Nat) = 2),
  ((1 : Nat) ≤ 1),
  ((1 : Nat) ≤ 1),
  ((((↑N : Int)) : Int) = ((↑N : Int))),
  (((nb) : Nat) = (nb)),
  (∀ i : Nat, ((((i) : Nat) < (nb)) → (([.int .i64 ((g i).fst), .int .i64 ((g i).snd.fst)] : List PV) = [.int .i64 ((g i).fst), .int .i64 ((g i).snd.fst)]))),
  ((1 : Nat) = 1),
  (((cn + 1) : Nat) ≤ (cn + 1)),
  (∀ i : Nat, ((((i) : Nat) < (cn + 1)) → (All (cvtL false [(195, ⟨false, 1, (cn + 1), (fun i_1 => (if (i_1 < cn) then [.p (.seq false 1 ((C i_1).fst) (fun i_2 => [.int .i64 ((C i_1).snd i_2)]))] else [.ar 1 2 0 (c.fst)]))⟩), (163, ⟨false, 1, 1, (fun i_1 => [.ar 1 2 0 (c.fst)])⟩), (0, ⟨true, 2, 1, (fun i_1 => [.p (.int .i64 ((↑N : Int))), .p (.seq true 2 (nb) (fun i_2 => [.int .i64 ((g i_2).fst), .int .i64 ((g i_2).snd.fst)]))])⟩), (2, ⟨false, 1, (c.fst), (fun i_1 => [.p (.int .i64 (c.snd i_1))])⟩)] [0, 195] 1 (if (i < cn) then [.p (.seq false 1 ((C i).fst) (fun i_1 => [.int .i64 ((C i).snd i_1)]))] else [.ar 1 2 0 (c.fst)])).2 ∧ (((cvtL false [(195, ⟨false, 1, (cn + 1), (fun i_1 => (if (i_1 < cn) then [.p (.seq false 1 ((C i_1).fst) (fun i_2 => [.int .i64 ((C i_1).snd i_2)]))] else [.ar 1 2 0 (c.fst)]))⟩), (163, ⟨false, 1, 1, (fun i_1 => [.ar 1 2 0 (c.fst)])⟩), (0, ⟨true, 2, 1, (fun i_1 => [.p (.int .i64 ((↑N : Int))), .p (.seq true 2 (nb) (fun i_2 => [.int .i64 ((g i_2).fst), .int .i64 ((g i_2).snd.fst)]))])⟩), (2, ⟨false, 1, (c.fst), (fun i_1 => [.p (.int .i64 (c.snd i_1))])⟩)] [0, 195] 1 (if (i < cn) then [.p (.seq false 1 ((C i).fst) (fun i_1 => [.int .i64 ((C i).snd i_1)]))] else [.ar 1 2 0 (c.fst)])).1 : List AV) = [.p (.seq false 1 (if i < cn then (C i).fst else c.fst) (fun i_1 => [.int .i64 ((snocC cn C c i).snd i_1)]))]))))]) := by kernel_rfl
theorem cCi4 (g : Nat → T_Bar) (nb N e cn : Nat) (C : Nat → T_IntS) (c : T_IntS) (kn : Bool) (k : Nat) :
    pieceOb Try.prog 0 [.reg [oT], .dec false, .reg [oT, oT], .dec false, .reg [oT, oT], .head] [.code (cAt (bodyOf Try.f39) [1, 1, 1, 0, 1, 0, 0, 1, 1, 0, 0, 1, 1, 1, 0, 1, 0, 0]), .inLoop (cAt (bodyOf Try.f39) [1, 1, 1, 0, 1, 0, 0, 1, 1, 0, 0, 1, 1, 1, 0, 1, 0, 0]), .inBlock 2, .code (cAt (bodyOf Try.f39) [1, 1, 1, 0, 1, 0, 0, 1, 1, 0, 0, 1, 1, 1, 1]), .inBlock 1, .code (cAt (bodyOf Try.f39) [1, 1, 1, 0, 1, 0, 0, 1, 1, 1]), .inLoop (cAt (bodyOf Try.f39) [1, 1, 1, 0, 1, 0, 0]), .inBlock 0, .code (cAt (bodyOf Try.f39) [1, 1, 1, 1])] (SCi1 g nb N e cn C c kn k) [0, 1] 1 (SCi g nb N (e + 1) cn C) =
    some ([.code (cAt (bodyOf Try.f39) [1, 1, 1, 0, 1, 0, 0]), .inLoop (cAt (bodyOf Try.f39) [1, 1, 1, 0, 1, 0, 0]), .inBlock 0, .code (cAt (bodyOf Try.f39) [1, 1, 1, 1])], [((decide ((↑k : Int) < (↑cn : Int))) = false),
  ((!kn) = false),
  (((-9223372036854775808) : Int) ≤ ((↑e : Int) + 1)),
  ((((↑e : Int) + 1) : Int) ≤ 9223372036854775807),
  ((((↑N : Int)) : Int) = ((↑N : Int))),
  (((nb) : Nat) = (nb)),
  (∀ i : Nat, ((((i) : Nat) < (nb)) → (([.int .i64 ((g i).fst), .int .i64 ((g i).snd.fst)] : List PV) = [.int .i64 ((g i).fst), .int .i64 ((g i).snd.fst)]))),
  ((0 : Nat) = 0),
  ((0 : Nat) = 0),
  (((cn) : Nat) = (cn)),
  ((((↑nb : Int)) : Int) = ((↑nb : Int))),
  ((((↑e : Int) + 1) : Int) = ((↑(e + 1) : Int))),
  ((2 : Nat) = 2),
  ((1 : Nat) ≤ 1),
  ((1 : Nat) ≤ 1),
  ((((↑N : Int)) : Int) = ((↑N : Int))),
  (((nb) : Nat) = (nb)),
  (∀ i : Nat, ((((i) : Nat) < (nb)) → (([.int .i64 ((g i).fst), .int .i64 ((g i).snd.fst)] : List PV) = [.int .i64 ((g i).fst), .int .i64 ((g i).snd.fst)]))),
  ((1 : Nat) = 1),
  (((cn) : Nat) ≤ (cn)),
  (∀ i : Nat, ((((i) : Nat) < (cn)) → (All [] ∧ (([.p (.seq false 1 ((C i).fst) (fun i_1 => [.int .i64 ((C i).snd i_1)]))] : List AV) = [.p (.seq false 1 ((C i).fst) (fun i_1 => [.int .i64 ((C i).snd i_1)]))]))))]) := by kernel_rfl

noncomputable def compD (N nb : Nat) (g : Nat → T_Bar) (e : Nat) : Nat → T_IntS
  | 0 => (0, fun _ => 0)
  | p + 1 =>
    if (bif impB N nb g (g e).1 p then impB N nb g (g e).2.1 p else false) = true then ((compD N nb g e p).1 + 1, snocI (compD N nb g e p).1 (compD N nb g e p).2 p)
    else compD N nb g e p

theorem compD_le (N nb : Nat) (g : Nat → T_Bar) (e : Nat) : ∀ p, (compD N nb g e p).1 ≤ p
  | 0 => Nat.le_refl _
  | p + 1 => by
    have := compD_le N nb g e p
    simp only [compD]
    split
    · show (compD N nb g e p).1 + 1 ≤ p + 1; omega
    · omega

def knF (C : Nat → T_IntS) (c : T_IntS) : Nat → Bool
  | 0 => false
  | k + 1 => bif knF C c k then true else q_IntS (C k) c

noncomputable def compsD (N nb : Nat) (g : Nat → T_Bar) : Nat → Nat × (Nat → T_IntS)
  | 0 => (0, fun _ => (0, fun _ => 0))
  | e + 1 =>
    if knF (compsD N nb g e).2 (compD N nb g e N) (compsD N nb g e).1 = true then compsD N nb g e
    else ((compsD N nb g e).1 + 1, snocC (compsD N nb g e).1 (compsD N nb g e).2 (compD N nb g e N))

theorem compsD_le (N nb : Nat) (g : Nat → T_Bar) : ∀ e, (compsD N nb g e).1 ≤ e ∧ ∀ j, j < (compsD N nb g e).1 → ((compsD N nb g e).2 j).1 ≤ N
  | 0 => ⟨Nat.le_refl _, fun j hj => absurd hj (Nat.not_lt_zero _)⟩
  | e + 1 => by
    obtain ⟨h1, h2⟩ := compsD_le N nb g e
    simp only [compsD]
    split
    · exact ⟨by omega, h2⟩
    · refine ⟨by show (compsD N nb g e).1 + 1 ≤ e + 1; omega, fun j hj => ?_⟩
      show (if j < (compsD N nb g e).1 then ((compsD N nb g e).2 j).1 else (compD N nb g e N).1) ≤ N
      split
      · exact h2 j (by assumption)
      · exact compD_le N nb g e N

theorem con_ComponentOfBar_s {N nb : Nat} {g : Nat → T_Bar} (hg : isGraphF ((N : Int), (nb, g), ()) = true) (e : Nat) (he : e < nb) :
    Con Try.prog 56 0 [] [grG g nb N, .p (.int .i64 e)] [(0, iOb (compD N nb g e N).1 (compD N nb g e N).2)] (.ar 1 0 0 (compD N nb g e N).1) := by
  obtain ⟨hN, hnb, hok⟩ := graph_in hg
  have hsm : smS s_Graph ((N : Int), (nb, g), ()) := ⟨by simp [smS, smL], ⟨by show nb ≤ 1048576; omega, fun i hi => by simp [smS, smL]⟩, True.intro⟩
  have hcg := con_IsGraph_s ((N : Int), (nb, g), ()) hsm
  rw [hg] at hcg
  have hbar := hok e he
  have hcond : (bif bif !true then true else decide ((e : Int) < 0) then true else decide ((e : Int) ≥ (nb : Int))) = false := by
    have h1 : ¬ (e : Int) < 0 := by omega
    have h2 : ¬ (nb : Int) ≤ (e : Int) := by omega
    simp [h1]; omega
  have hcw := True.intro
  refine con_start Try.func56 rfl (by kernel_rfl) rfl (fun c hc => ?_)
  have lp : ∀ d p, p + d = N → Run Try.prog c 56 [.code (cAt (bodyOf Try.f56) [1, 1, 1, 1, 1, 0, 1, 0, 0]), .inLoop (cAt (bodyOf Try.f56) [1, 1, 1, 1, 1, 0, 1, 0, 0]), .inBlock 0, .code (cAt (bodyOf Try.f56) [1, 1, 1, 1, 1, 1])] (SBs g nb N e (compD N nb g e p).1 p (compD N nb g e p).2) (Post c [(0, iOb (compD N nb g e N).1 (compD N nb g e N).2)] (.ar 1 0 0 (compD N nb g e N).1)) := by
    intro d
    induction d with
    | zero =>
      intro p hp
      obtain rfl : p = N := by omega
      have hd : decide ((p : Int) < (p : Int)) = false := by simp
      refine path_ok mixed Try.func56 hc (cBse g nb p e (compD p nb g e p).1 p (compD p nb g e p).2) ?_
      simp only [All]
      repeat' (first | exact trivial | with_reducible apply And.intro)
      all_goals (first | omega | rfl | (intros; first | assumption | exact True.intro | rfl | exact absurd (show false = true by assumption) Bool.false_ne_true | ((repeat' (first | assumption | apply anda | apply notf)); done)) | (intro i hi; simp [All]))
    | succ d ih =>
      intro p hp
      have hd : decide ((p : Int) < (N : Int)) = true := by simp; omega
      have hle := compD_le N nb g e p
      have c1 := con_IsImplied_s hg hok hN hnb (a := (g e).1) (b := p) (by omega) (by omega)
      have c2 := con_IsImplied_s hg hok hN hnb (a := (g e).2.1) (b := p) (by omega) (by omega)
      have hih := ih (p + 1) (by omega)
      cases ht : (bif impB N nb g (g e).1 p then impB N nb g (g e).2.1 p else false) with
      | true =>
        rw [show compD N nb g e (p + 1) = ((compD N nb g e p).1 + 1, snocI (compD N nb g e p).1 (compD N nb g e p).2 p) by simp only [compD]; rw [if_pos ht]] at hih
        refine piece_ok mixed hc (cBst g nb N e (compD N nb g e p).1 p (compD N nb g e p).2 (impB N nb g (g e).1 p) (impB N nb g (g e).2.1 p)) ?_ hih
        simp only [All]
        repeat' (first | exact trivial | with_reducible apply And.intro)
        all_goals (first | omega | rfl | (intros; first | assumption | exact True.intro | rfl | exact absurd (show false = true by assumption) Bool.false_ne_true | ((repeat' (first | assumption | apply anda | apply notf)); done)) | (exact c1) | (intros; exact c2) | (exact ht) | (intro j hj; simp [All]; done) | (intro j hj; by_cases h : j < (compD N nb g e p).1 <;> simp [h, snocI, cvtL, cvt, tg, tru, All]))
      | false =>
        rw [show compD N nb g e (p + 1) = compD N nb g e p by simp only [compD]; rw [if_neg (by rw [ht]; simp)]] at hih
        refine piece_ok mixed hc (cBsf g nb N e (compD N nb g e p).1 p (compD N nb g e p).2 (impB N nb g (g e).1 p) (impB N nb g (g e).2.1 p)) ?_ hih
        simp only [All]
        repeat' (first | exact trivial | with_reducible apply And.intro)
        all_goals (first | omega | rfl | (intros; first | assumption | exact True.intro | rfl | exact absurd (show false = true by assumption) Bool.false_ne_true | ((repeat' (first | assumption | apply anda | apply notf)); done)) | (exact c1) | (intros; exact c2) | (exact ht) | (intro j hj; simp [All]))
  refine piece_ok mixed hc (cBsz g nb N e) ?_ (lp N 0 (by omega))
  simp only [All]
  repeat' (first | exact trivial | with_reducible apply And.intro)
  all_goals (first | omega | rfl | (intros; first | assumption | exact True.intro | rfl | exact absurd (show false = true by assumption) Bool.false_ne_true | ((repeat' (first | assumption | apply anda | apply notf)); done)) | (exact hcg) | (intros; exact hcw) | (exact hcond) | (intro h; simp at h ⊢; done) | (intro j hj; simp [All]))

theorem con_ComponentOfBar_i {N nb : Nat} {g : Nat → T_Bar} (hg : isGraphF ((N : Int), (nb, g), ()) = true) (e : Nat) (he : e < nb) :
    Con Try.prog 60 0 [] [grG g nb N, .p (.int .i64 e)] [(0, iOb (compD N nb g e N).1 (compD N nb g e N).2)] (.ar 1 0 0 (compD N nb g e N).1) := by
  obtain ⟨hN, hnb, hok⟩ := graph_in hg
  have hsm : smS s_Graph ((N : Int), (nb, g), ()) := ⟨by simp [smS, smL], ⟨by show nb ≤ 1048576; omega, fun i hi => by simp [smS, smL]⟩, True.intro⟩
  have hcg := con_IsGraph_i ((N : Int), (nb, g), ()) hsm
  rw [hg] at hcg
  have hbar := hok e he
  have hcw := con_within (e : Int) 0 ((nb : Int) - 1)
  rw [show inB (e : Int) 0 ((nb : Int) - 1) = true by simp [inB]; omega] at hcw
  have hcond := True.intro
  refine con_start Try.func60 rfl (by kernel_rfl) rfl (fun c hc => ?_)
  have lp : ∀ d p, p + d = N → Run Try.prog c 60 [.code (cAt (bodyOf Try.f60) [1, 1, 1, 1, 0, 1, 0, 0]), .inLoop (cAt (bodyOf Try.f60) [1, 1, 1, 1, 0, 1, 0, 0]), .inBlock 0, .code (cAt (bodyOf Try.f60) [1, 1, 1, 1, 1])] (SBi g nb N e (compD N nb g e p).1 p (compD N nb g e p).2) (Post c [(0, iOb (compD N nb g e N).1 (compD N nb g e N).2)] (.ar 1 0 0 (compD N nb g e N).1)) := by
    intro d
    induction d with
    | zero =>
      intro p hp
      obtain rfl : p = N := by omega
      have hd : decide ((p : Int) < (p : Int)) = false := by simp
      refine path_ok mixed Try.func60 hc (cBie g nb p e (compD p nb g e p).1 p (compD p nb g e p).2) ?_
      simp only [All]
      repeat' (first | exact trivial | with_reducible apply And.intro)
      all_goals (first | omega | rfl | (intros; first | assumption | exact True.intro | rfl | exact absurd (show false = true by assumption) Bool.false_ne_true | ((repeat' (first | assumption | apply anda | apply notf)); done)) | (intro i hi; simp [All]))
    | succ d ih =>
      intro p hp
      have hd : decide ((p : Int) < (N : Int)) = true := by simp; omega
      have hle := compD_le N nb g e p
      have c1 := con_IsImplied_i hg hok hN hnb (a := (g e).1) (b := p) (by omega) (by omega)
      have c2 := con_IsImplied_i hg hok hN hnb (a := (g e).2.1) (b := p) (by omega) (by omega)
      have hih := ih (p + 1) (by omega)
      cases ht : (bif impB N nb g (g e).1 p then impB N nb g (g e).2.1 p else false) with
      | true =>
        rw [show compD N nb g e (p + 1) = ((compD N nb g e p).1 + 1, snocI (compD N nb g e p).1 (compD N nb g e p).2 p) by simp only [compD]; rw [if_pos ht]] at hih
        refine piece_ok mixed hc (cBit g nb N e (compD N nb g e p).1 p (compD N nb g e p).2 (impB N nb g (g e).1 p) (impB N nb g (g e).2.1 p)) ?_ hih
        simp only [All]
        repeat' (first | exact trivial | with_reducible apply And.intro)
        all_goals (first | omega | rfl | (intros; first | assumption | exact True.intro | rfl | exact absurd (show false = true by assumption) Bool.false_ne_true | ((repeat' (first | assumption | apply anda | apply notf)); done)) | (exact c1) | (intros; exact c2) | (exact ht) | (intro j hj; simp [All]; done) | (intro j hj; by_cases h : j < (compD N nb g e p).1 <;> simp [h, snocI, cvtL, cvt, tg, tru, All]))
      | false =>
        rw [show compD N nb g e (p + 1) = compD N nb g e p by simp only [compD]; rw [if_neg (by rw [ht]; simp)]] at hih
        refine piece_ok mixed hc (cBif g nb N e (compD N nb g e p).1 p (compD N nb g e p).2 (impB N nb g (g e).1 p) (impB N nb g (g e).2.1 p)) ?_ hih
        simp only [All]
        repeat' (first | exact trivial | with_reducible apply And.intro)
        all_goals (first | omega | rfl | (intros; first | assumption | exact True.intro | rfl | exact absurd (show false = true by assumption) Bool.false_ne_true | ((repeat' (first | assumption | apply anda | apply notf)); done)) | (exact c1) | (intros; exact c2) | (exact ht) | (intro j hj; simp [All]))
  refine piece_ok mixed hc (cBiz g nb N e) ?_ (lp N 0 (by omega))
  simp only [All]
  repeat' (first | exact trivial | with_reducible apply And.intro)
  all_goals (first | omega | rfl | (intros; first | assumption | exact True.intro | rfl | exact absurd (show false = true by assumption) Bool.false_ne_true | ((repeat' (first | assumption | apply anda | apply notf)); done)) | (exact hcg) | (intros; exact hcw) | (exact hcond) | (intro h; simp at h ⊢; done) | (intro j hj; simp [All]))

theorem inner_s {N nb : Nat} {g : Nat → T_Bar} {e cn : Nat} {C : Nat → T_IntS} {cc : T_IntS} (hcn : cn ≤ 1048576) (hC : ∀ j, j < cn → (C j).1 ≤ 1048576) (c : Cx) (hc : c.n = 0) {R : Ending → World → Prop}
    (h : Run Try.prog c 36 [.code (cAt (bodyOf Try.f36) [1, 1, 0, 1, 0, 0, 1, 0, 0, 1, 1, 0, 1, 0, 0]), .inLoop (cAt (bodyOf Try.f36) [1, 1, 0, 1, 0, 0, 1, 0, 0, 1, 1, 0, 1, 0, 0]), .inBlock 2, .code (cAt (bodyOf Try.f36) [1, 1, 0, 1, 0, 0, 1, 0, 0, 1, 1, 1]), .inBlock 1, .code (cAt (bodyOf Try.f36) [1, 1, 0, 1, 0, 0, 1, 1]), .inLoop (cAt (bodyOf Try.f36) [1, 1, 0, 1, 0, 0]), .inBlock 0, .code (cAt (bodyOf Try.f36) [1, 1, 1])] (SCs1 g nb N e cn C cc (knF C cc cn) cn) R) :
    ∀ d k, k + d = cn → Run Try.prog c 36 [.code (cAt (bodyOf Try.f36) [1, 1, 0, 1, 0, 0, 1, 0, 0, 1, 1, 0, 1, 0, 0]), .inLoop (cAt (bodyOf Try.f36) [1, 1, 0, 1, 0, 0, 1, 0, 0, 1, 1, 0, 1, 0, 0]), .inBlock 2, .code (cAt (bodyOf Try.f36) [1, 1, 0, 1, 0, 0, 1, 0, 0, 1, 1, 1]), .inBlock 1, .code (cAt (bodyOf Try.f36) [1, 1, 0, 1, 0, 0, 1, 1]), .inLoop (cAt (bodyOf Try.f36) [1, 1, 0, 1, 0, 0]), .inBlock 0, .code (cAt (bodyOf Try.f36) [1, 1, 1])] (SCs1 g nb N e cn C cc (knF C cc k) k) R := by
  intro d
  induction d with
  | zero =>
    intro k hk
    have hkc : k = cn := by omega
    rw [hkc]
    exact h
  | succ d ih =>
    intro k hk
    have hd : decide ((k : Int) < (cn : Int)) = true := by simp; omega
    have hq := con_ls_l6Same_IntS (C k) cc (hC k (by omega))
    refine piece_ok mixed hc (cCs2 g nb N e cn C cc (knF C cc k) k (q_IntS (C k) cc)) ?_ (ih (k + 1) (by omega))
    simp only [All]
    repeat' (first | exact trivial | with_reducible apply And.intro)
    all_goals (first | omega | rfl | (intros; first | assumption | exact True.intro | rfl | exact absurd (show false = true by assumption) Bool.false_ne_true | ((repeat' (first | assumption | apply anda | apply notf)); done)) | (intros; exact hq) | (intro j hj; simp [All]))

theorem con_ComponentsOf_s {N nb : Nat} {g : Nat → T_Bar} (hg : isGraphF ((N : Int), (nb, g), ()) = true) :
    Con Try.prog 36 0 [] [grG g nb N] [(0, ssOb (compsD N nb g nb).1 (compsD N nb g nb).2)] (.ar 1 0 0 (compsD N nb g nb).1) := by
  obtain ⟨hN, hnb, hok⟩ := graph_in hg
  have hsm : smS s_Graph ((N : Int), (nb, g), ()) := ⟨by simp [smS, smL], ⟨by show nb ≤ 1048576; omega, fun i hi => by simp [smS, smL]⟩, True.intro⟩
  have hcg := con_IsGraph_s ((N : Int), (nb, g), ()) hsm
  rw [hg] at hcg
  refine con_start Try.func36 rfl (by kernel_rfl) rfl (fun c hc => ?_)
  have lp : ∀ d e, e + d = nb → Run Try.prog c 36 [.code (cAt (bodyOf Try.f36) [1, 1, 0, 1, 0, 0]), .inLoop (cAt (bodyOf Try.f36) [1, 1, 0, 1, 0, 0]), .inBlock 0, .code (cAt (bodyOf Try.f36) [1, 1, 1])] (SCs g nb N e (compsD N nb g e).1 (compsD N nb g e).2) (Post c [(0, ssOb (compsD N nb g nb).1 (compsD N nb g nb).2)] (.ar 1 0 0 (compsD N nb g nb).1)) := by
    intro d
    induction d with
    | zero =>
      intro e he
      obtain rfl : e = nb := by omega
      have hd : decide ((e : Int) < (e : Int)) = false := by simp
      refine path_ok mixed Try.func36 hc (cCse g e N e (compsD N e g e).1 (compsD N e g e).2 true) ?_
      simp only [All]
      repeat' (first | exact trivial | with_reducible apply And.intro)
      all_goals (first | omega | rfl | (intros; first | assumption | exact True.intro | rfl | exact absurd (show false = true by assumption) Bool.false_ne_true | ((repeat' (first | assumption | apply anda | apply notf)); done)) | (exact hcg) | (intros; exact hcg) | (intro h; rw [hd] at h; cases h) | (simp; done) | (intro i hi; simp [All]))
    | succ d ih =>
      intro e he
      have hd : decide ((e : Int) < (nb : Int)) = true := by simp; omega
      obtain ⟨hle, hC⟩ := compsD_le N nb g e
      have hcomp := con_ComponentOfBar_s hg e (by omega)
      have hcl := compD_le N nb g e N
      have hih := ih (e + 1) (by omega)
      have hin : Run Try.prog c 36 [.code (cAt (bodyOf Try.f36) [1, 1, 0, 1, 0, 0, 1, 0, 0, 1, 1, 0, 1, 0, 0]), .inLoop (cAt (bodyOf Try.f36) [1, 1, 0, 1, 0, 0, 1, 0, 0, 1, 1, 0, 1, 0, 0]), .inBlock 2, .code (cAt (bodyOf Try.f36) [1, 1, 0, 1, 0, 0, 1, 0, 0, 1, 1, 1]), .inBlock 1, .code (cAt (bodyOf Try.f36) [1, 1, 0, 1, 0, 0, 1, 1]), .inLoop (cAt (bodyOf Try.f36) [1, 1, 0, 1, 0, 0]), .inBlock 0, .code (cAt (bodyOf Try.f36) [1, 1, 1])] (SCs1 g nb N e (compsD N nb g e).1 (compsD N nb g e).2 (compD N nb g e N) (knF (compsD N nb g e).2 (compD N nb g e N) (compsD N nb g e).1) (compsD N nb g e).1) (Post c [(0, ssOb (compsD N nb g nb).1 (compsD N nb g nb).2)] (.ar 1 0 0 (compsD N nb g nb).1)) := by
        have hd' : decide (((compsD N nb g e).1 : Int) < ((compsD N nb g e).1 : Int)) = false := by simp
        cases hk : knF (compsD N nb g e).2 (compD N nb g e N) (compsD N nb g e).1 with
        | false =>
          rw [show compsD N nb g (e + 1) = ((compsD N nb g e).1 + 1, snocC (compsD N nb g e).1 (compsD N nb g e).2 (compD N nb g e N)) by simp only [compsD]; rw [if_neg (by rw [hk]; simp)]] at hih
          refine piece_ok mixed hc (cCs3 g nb N e (compsD N nb g e).1 (compsD N nb g e).2 (compD N nb g e N) false (compsD N nb g e).1) ?_ hih
          simp only [All]
          repeat' (first | exact trivial | with_reducible apply And.intro)
          all_goals (first | omega | rfl | (intros; first | assumption | exact True.intro | rfl | exact absurd (show false = true by assumption) Bool.false_ne_true | ((repeat' (first | assumption | apply anda | apply notf)); done)) | (intro j hj; simp [All]; done) | (intro j hj; by_cases h : j < (compsD N nb g e).1 <;> simp [h, snocC, cvtL, cvt, lendP, cellP, tab, idx, List.lookup, iOb, tg, tru, All]))
        | true =>
          rw [show compsD N nb g (e + 1) = compsD N nb g e by simp only [compsD]; rw [if_pos hk]] at hih
          refine piece_ok mixed hc (cCs4 g nb N e (compsD N nb g e).1 (compsD N nb g e).2 (compD N nb g e N) true (compsD N nb g e).1) ?_ hih
          simp only [All]
          repeat' (first | exact trivial | with_reducible apply And.intro)
          all_goals (first | omega | rfl | (intros; first | assumption | exact True.intro | rfl | exact absurd (show false = true by assumption) Bool.false_ne_true | ((repeat' (first | assumption | apply anda | apply notf)); done)) | (intro j hj; simp [All]))
      refine piece_ok mixed hc (cCs1 g nb N e (compsD N nb g e).1 (compsD N nb g e).2 (compD N nb g e N)) ?_ (inner_s (by omega) (fun j hj => by have := hC j hj; omega) c hc hin (compsD N nb g e).1 0 (by omega))
      simp only [All]
      repeat' (first | exact trivial | with_reducible apply And.intro)
      all_goals (first | omega | rfl | (intros; first | assumption | exact True.intro | rfl | exact absurd (show false = true by assumption) Bool.false_ne_true | ((repeat' (first | assumption | apply anda | apply notf)); done)) | (exact hcg) | (intros; exact hcg) | (exact hcomp) | (rw [hd]; rfl) | (intro j hj; simp [All]))
  refine piece_ok mixed hc (cCsz g nb N) ?_ (lp nb 0 (by omega))
  simp only [All]
  repeat' (first | exact trivial | with_reducible apply And.intro)
  all_goals (first | omega | rfl | (intros; first | assumption | exact True.intro | rfl | exact absurd (show false = true by assumption) Bool.false_ne_true | ((repeat' (first | assumption | apply anda | apply notf)); done)) | (exact hcg) | (intro j hj; simp [All]))

theorem inner_i {N nb : Nat} {g : Nat → T_Bar} {e cn : Nat} {C : Nat → T_IntS} {cc : T_IntS} (hcn : cn ≤ 1048576) (hC : ∀ j, j < cn → (C j).1 ≤ 1048576) (c : Cx) (hc : c.n = 0) {R : Ending → World → Prop}
    (h : Run Try.prog c 39 [.code (cAt (bodyOf Try.f39) [1, 1, 1, 0, 1, 0, 0, 1, 1, 0, 0, 1, 1, 1, 0, 1, 0, 0]), .inLoop (cAt (bodyOf Try.f39) [1, 1, 1, 0, 1, 0, 0, 1, 1, 0, 0, 1, 1, 1, 0, 1, 0, 0]), .inBlock 2, .code (cAt (bodyOf Try.f39) [1, 1, 1, 0, 1, 0, 0, 1, 1, 0, 0, 1, 1, 1, 1]), .inBlock 1, .code (cAt (bodyOf Try.f39) [1, 1, 1, 0, 1, 0, 0, 1, 1, 1]), .inLoop (cAt (bodyOf Try.f39) [1, 1, 1, 0, 1, 0, 0]), .inBlock 0, .code (cAt (bodyOf Try.f39) [1, 1, 1, 1])] (SCi1 g nb N e cn C cc (knF C cc cn) cn) R) :
    ∀ d k, k + d = cn → Run Try.prog c 39 [.code (cAt (bodyOf Try.f39) [1, 1, 1, 0, 1, 0, 0, 1, 1, 0, 0, 1, 1, 1, 0, 1, 0, 0]), .inLoop (cAt (bodyOf Try.f39) [1, 1, 1, 0, 1, 0, 0, 1, 1, 0, 0, 1, 1, 1, 0, 1, 0, 0]), .inBlock 2, .code (cAt (bodyOf Try.f39) [1, 1, 1, 0, 1, 0, 0, 1, 1, 0, 0, 1, 1, 1, 1]), .inBlock 1, .code (cAt (bodyOf Try.f39) [1, 1, 1, 0, 1, 0, 0, 1, 1, 1]), .inLoop (cAt (bodyOf Try.f39) [1, 1, 1, 0, 1, 0, 0]), .inBlock 0, .code (cAt (bodyOf Try.f39) [1, 1, 1, 1])] (SCi1 g nb N e cn C cc (knF C cc k) k) R := by
  intro d
  induction d with
  | zero =>
    intro k hk
    have hkc : k = cn := by omega
    rw [hkc]
    exact h
  | succ d ih =>
    intro k hk
    have hd : decide ((k : Int) < (cn : Int)) = true := by simp; omega
    have hq := con_seIntS (C k) cc (hC k (by omega))
    refine piece_ok mixed hc (cCi2 g nb N e cn C cc (knF C cc k) k (q_IntS (C k) cc)) ?_ (ih (k + 1) (by omega))
    simp only [All]
    repeat' (first | exact trivial | with_reducible apply And.intro)
    all_goals (first | omega | rfl | (intros; first | assumption | exact True.intro | rfl | exact absurd (show false = true by assumption) Bool.false_ne_true | ((repeat' (first | assumption | apply anda | apply notf)); done)) | (intros; exact hq) | (intro j hj; simp [All]))

theorem con_ComponentsOf_i {N nb : Nat} {g : Nat → T_Bar} (hg : isGraphF ((N : Int), (nb, g), ()) = true) :
    Con Try.prog 39 0 [] [grG g nb N] [(0, ssOb (compsD N nb g nb).1 (compsD N nb g nb).2)] (.ar 1 0 0 (compsD N nb g nb).1) := by
  obtain ⟨hN, hnb, hok⟩ := graph_in hg
  have hsm : smS s_Graph ((N : Int), (nb, g), ()) := ⟨by simp [smS, smL], ⟨by show nb ≤ 1048576; omega, fun i hi => by simp [smS, smL]⟩, True.intro⟩
  have hcg := con_IsGraph_i ((N : Int), (nb, g), ()) hsm
  rw [hg] at hcg
  refine con_start Try.func39 rfl (by kernel_rfl) rfl (fun c hc => ?_)
  have lp : ∀ d e, e + d = nb → Run Try.prog c 39 [.code (cAt (bodyOf Try.f39) [1, 1, 1, 0, 1, 0, 0]), .inLoop (cAt (bodyOf Try.f39) [1, 1, 1, 0, 1, 0, 0]), .inBlock 0, .code (cAt (bodyOf Try.f39) [1, 1, 1, 1])] (SCi g nb N e (compsD N nb g e).1 (compsD N nb g e).2) (Post c [(0, ssOb (compsD N nb g nb).1 (compsD N nb g nb).2)] (.ar 1 0 0 (compsD N nb g nb).1)) := by
    intro d
    induction d with
    | zero =>
      intro e he
      obtain rfl : e = nb := by omega
      have hd : decide ((e : Int) < (e : Int)) = false := by simp
      refine path_ok mixed Try.func39 hc (cCie g e N e (compsD N e g e).1 (compsD N e g e).2) ?_
      simp only [All]
      repeat' (first | exact trivial | with_reducible apply And.intro)
      all_goals (first | omega | rfl | (intros; first | assumption | exact True.intro | rfl | exact absurd (show false = true by assumption) Bool.false_ne_true | ((repeat' (first | assumption | apply anda | apply notf)); done)) | (exact hcg) | (intros; exact hcg) | (intro h; rw [hd] at h; cases h) | (simp; done) | (intro i hi; simp [All]))
    | succ d ih =>
      intro e he
      have hd : decide ((e : Int) < (nb : Int)) = true := by simp; omega
      obtain ⟨hle, hC⟩ := compsD_le N nb g e
      have hcomp := con_ComponentOfBar_i hg e (by omega)
      have hcl := compD_le N nb g e N
      have hih := ih (e + 1) (by omega)
      have hin : Run Try.prog c 39 [.code (cAt (bodyOf Try.f39) [1, 1, 1, 0, 1, 0, 0, 1, 1, 0, 0, 1, 1, 1, 0, 1, 0, 0]), .inLoop (cAt (bodyOf Try.f39) [1, 1, 1, 0, 1, 0, 0, 1, 1, 0, 0, 1, 1, 1, 0, 1, 0, 0]), .inBlock 2, .code (cAt (bodyOf Try.f39) [1, 1, 1, 0, 1, 0, 0, 1, 1, 0, 0, 1, 1, 1, 1]), .inBlock 1, .code (cAt (bodyOf Try.f39) [1, 1, 1, 0, 1, 0, 0, 1, 1, 1]), .inLoop (cAt (bodyOf Try.f39) [1, 1, 1, 0, 1, 0, 0]), .inBlock 0, .code (cAt (bodyOf Try.f39) [1, 1, 1, 1])] (SCi1 g nb N e (compsD N nb g e).1 (compsD N nb g e).2 (compD N nb g e N) (knF (compsD N nb g e).2 (compD N nb g e N) (compsD N nb g e).1) (compsD N nb g e).1) (Post c [(0, ssOb (compsD N nb g nb).1 (compsD N nb g nb).2)] (.ar 1 0 0 (compsD N nb g nb).1)) := by
        have hd' : decide (((compsD N nb g e).1 : Int) < ((compsD N nb g e).1 : Int)) = false := by simp
        cases hk : knF (compsD N nb g e).2 (compD N nb g e N) (compsD N nb g e).1 with
        | false =>
          rw [show compsD N nb g (e + 1) = ((compsD N nb g e).1 + 1, snocC (compsD N nb g e).1 (compsD N nb g e).2 (compD N nb g e N)) by simp only [compsD]; rw [if_neg (by rw [hk]; simp)]] at hih
          refine piece_ok mixed hc (cCi3 g nb N e (compsD N nb g e).1 (compsD N nb g e).2 (compD N nb g e N) false (compsD N nb g e).1) ?_ hih
          simp only [All]
          repeat' (first | exact trivial | with_reducible apply And.intro)
          all_goals (first | omega | rfl | (intros; first | assumption | exact True.intro | rfl | exact absurd (show false = true by assumption) Bool.false_ne_true | ((repeat' (first | assumption | apply anda | apply notf)); done)) | (intro j hj; simp [All]; done) | (intro j hj; by_cases h : j < (compsD N nb g e).1 <;> simp [h, snocC, cvtL, cvt, lendP, cellP, tab, idx, List.lookup, iOb, tg, tru, All]))
        | true =>
          rw [show compsD N nb g (e + 1) = compsD N nb g e by simp only [compsD]; rw [if_pos hk]] at hih
          refine piece_ok mixed hc (cCi4 g nb N e (compsD N nb g e).1 (compsD N nb g e).2 (compD N nb g e N) true (compsD N nb g e).1) ?_ hih
          simp only [All]
          repeat' (first | exact trivial | with_reducible apply And.intro)
          all_goals (first | omega | rfl | (intros; first | assumption | exact True.intro | rfl | exact absurd (show false = true by assumption) Bool.false_ne_true | ((repeat' (first | assumption | apply anda | apply notf)); done)) | (intro j hj; simp [All]))
      refine piece_ok mixed hc (cCi1 g nb N e (compsD N nb g e).1 (compsD N nb g e).2 (compD N nb g e N)) ?_ (inner_i (by omega) (fun j hj => by have := hC j hj; omega) c hc hin (compsD N nb g e).1 0 (by omega))
      simp only [All]
      repeat' (first | exact trivial | with_reducible apply And.intro)
      all_goals (first | omega | rfl | (intros; first | assumption | exact True.intro | rfl | exact absurd (show false = true by assumption) Bool.false_ne_true | ((repeat' (first | assumption | apply anda | apply notf)); done)) | (exact hcg) | (intros; exact hcg) | (exact hcomp) | (rw [hd]; rfl) | (intro j hj; simp [All]))
  refine piece_ok mixed hc (cCiz g nb N) ?_ (lp nb 0 (by omega))
  simp only [All]
  repeat' (first | exact trivial | with_reducible apply And.intro)
  all_goals (first | omega | rfl | (intros; first | assumption | exact True.intro | rfl | exact absurd (show false = true by assumption) Bool.false_ne_true | ((repeat' (first | assumption | apply anda | apply notf)); done)) | (exact hcg) | (intro j hj; simp [All]))

theorem graph_cases (v : T_Graph) (h : isGraphF v = true) : ∃ (N nb : Nat) (g : Nat → T_Bar), v = ((N : Int), (nb, g), ()) := by
  obtain ⟨v1, ⟨nb, g⟩, ⟨⟩⟩ := v
  have h1 : 0 ≤ v1 := by
    unfold isGraphF at h
    split at h
    · rename_i hc
      have := hc.1
      simp [inB] at this
      omega
    · cases h
  exact ⟨v1.toNat, nb, g, by rw [Int.toNat_of_nonneg h1]⟩

noncomputable def compsG (v : T_Graph) : Nat × (Nat → T_IntS) := if isGraphF v = true then compsD v.1.toNat v.2.1.1 v.2.1.2 v.2.1.1 else (0, fun _ => (0, fun _ => 0))

end Go.Proofs.Ythnidhkfelfkdaa.Mach
