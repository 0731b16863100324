/- Contracts of uniform functions: how large, laid anew, equal to itself. Written by our own fam.py. Conditions: as each theorem says. -/
import Derived.Test.YtgddbgmnehkblabMachV
namespace Go.Proofs.Ytgddbgmnehkblab.Mach
open Go
set_option linter.unusedVariables false
set_option linter.unusedSimpArgs false

def s_BarS : Sh := (.sl (.st [(.int .i64), (.int .i64)]))
abbrev T_Bar := (Int) × (Int) × Unit
abbrev T_BarS := Nat × (Nat → T_Bar)
def f_szBarS (v : T_BarS) (m : Int) : Int := if m - v.1 < 0 then -1 else m - v.1
def s_Graph : Sh := (.st [(.int .i64), (.sl (.st [(.int .i64), (.int .i64)]))])
abbrev T_Graph := (Int) × (T_BarS) × Unit
def f_szGraph (v : T_Graph) (m : Int) : Int := if (f_szBarS v.2.1 m) < 0 then -1 else ((f_szBarS v.2.1 m))
def s_IntS : Sh := (.sl (.int .i64))
abbrev T_IntS := Nat × (Nat → Int)
def f_szIntS (v : T_IntS) (m : Int) : Int := if m - v.1 < 0 then -1 else m - v.1
def s_Pinned : Sh := (.st [(.st [(.int .i64), (.sl (.st [(.int .i64), (.int .i64)]))]), (.sl (.int .i64))])
abbrev T_Pinned := (T_Graph) × (T_IntS) × Unit
def f_szPinned (v : T_Pinned) (m : Int) : Int := if (f_szGraph v.1 m) < 0 then -1 else (if (f_szIntS v.2.1 (f_szGraph v.1 m)) < 0 then -1 else ((f_szIntS v.2.1 (f_szGraph v.1 m))))
def s_StringS : Sh := (.sl .str)
abbrev T_StringS := Nat × (Nat → ByteArray)
def f_szStringS (v : T_StringS) (m : Int) : Int := if m - v.1 - strSum v.2 v.1 < 0 then -1 else m - v.1 - strSum v.2 v.1
def S_szStringS (v : T_StringS) (m : Int) (k : Nat) : St :=
  ⟨[.p (.seq true 1 (v.1) (fun i => [.str ((v.2 i))])), .p (.int .i64 (m - (↑v.1 : Int) - strSum v.2 k)), .p .any, .p .any, .p .any, .p (.int .i64 k)] ++ List.replicate 22 anyA, [], 0⟩
def s_Site : Sh := (.st [(.st [(.st [(.int .i64), (.sl (.st [(.int .i64), (.int .i64)]))]), (.sl (.int .i64))]), (.sl .str)])
abbrev T_Site := (T_Pinned) × (T_StringS) × Unit
def f_szSite (v : T_Site) (m : Int) : Int := if (f_szPinned v.1 m) < 0 then -1 else (if (f_szStringS v.2.1 (f_szPinned v.1 m)) < 0 then -1 else ((f_szStringS v.2.1 (f_szPinned v.1 m))))
def s_Bar : Sh := (.st [(.int .i64), (.int .i64)])
def S_toBarS (v : T_BarS) (k : Nat) : St :=
  ⟨[.p (.seq true 2 (v.1) (fun i => [.int .i64 ((v.2 i).1), .int .i64 ((v.2 i).2.1)])), .p .any, .p .any, .ar 2 0 0 v.1, .p (.int .i64 k)] ++ List.replicate 18 anyA, [(0, ⟨false, 2, v.1, fun i => [.p (.int .i64 (if i < k then (v.2 i).1 else 0)), .p (.int .i64 (if i < k then (v.2 i).2.1 else 0))]⟩)], 1⟩
def S_toIntS (v : T_IntS) (k : Nat) : St :=
  ⟨[.p (.seq true 1 (v.1) (fun i => [.int .i64 ((v.2 i))])), .p .any, .p .any, .ar 1 0 0 v.1, .p (.int .i64 k)] ++ List.replicate 17 anyA, [(0, ⟨false, 1, v.1, fun i => [.p (.int .i64 (if i < k then (v.2 i) else 0))]⟩)], 1⟩
def S_toStringS (v : T_StringS) (k : Nat) : St :=
  ⟨[.p (.seq true 1 (v.1) (fun i => [.str ((v.2 i))])), .p .any, .p .any, .ar 1 0 0 v.1, .p (.int .i64 k)] ++ List.replicate 17 anyA, [(0, ⟨false, 1, v.1, fun i => [.p (.str (if i < k then (v.2 i) else ByteArray.mk #[]))]⟩)], 1⟩
def S_eqBarS (v : T_BarS) (k : Nat) : St :=
  ⟨[.p (.seq true 2 (v.1) (fun i => [.int .i64 ((v.2 i).1), .int .i64 ((v.2 i).2.1)])), .p (.seq true 2 (v.1) (fun i => [.int .i64 ((v.2 i).1), .int .i64 ((v.2 i).2.1)])), .p .any, .p .any, .p .any, .p (.int .i64 k)] ++ List.replicate 21 anyA, [], 0⟩
def S_eqIntS (v : T_IntS) (k : Nat) : St :=
  ⟨[.p (.seq true 1 (v.1) (fun i => [.int .i64 ((v.2 i))])), .p (.seq true 1 (v.1) (fun i => [.int .i64 ((v.2 i))])), .p .any, .p .any, .p .any, .p (.int .i64 k)] ++ List.replicate 20 anyA, [], 0⟩
def S_eqStringS (v : T_StringS) (k : Nat) : St :=
  ⟨[.p (.seq true 1 (v.1) (fun i => [.str ((v.2 i))])), .p (.seq true 1 (v.1) (fun i => [.str ((v.2 i))])), .p .any, .p .any, .p .any, .p (.int .i64 k)] ++ List.replicate 20 anyA, [], 0⟩
def q1_BarS (a b : T_Bar) : Bool := a.1 == b.1 && (a.2.1 == b.2.1 && true)
def qT_BarS (g h : Nat → T_Bar) : Nat → Bool
  | 0 => true
  | k + 1 => qT_BarS g h k && q1_BarS (g k) (h k)
def q_BarS (v u : T_BarS) : Bool := if v.1 = u.1 then qT_BarS v.2 u.2 v.1 else false
def S_seBarS (v u : T_BarS) (k : Nat) : St :=
  ⟨[.p (.seq true 2 (v.1) (fun i => [.int .i64 ((v.2 i).1), .int .i64 ((v.2 i).2.1)])), .p (.seq true 2 (u.1) (fun i => [.int .i64 ((u.2 i).1), .int .i64 ((u.2 i).2.1)]))] ++ List.replicate 10 anyA ++ [.p (.int .i64 v.1), .p (.int .i64 k)] ++ List.replicate 12 anyA, [], 0⟩
def q1_IntS (a b : Int) : Bool := a == b
def qT_IntS (g h : Nat → Int) : Nat → Bool
  | 0 => true
  | k + 1 => qT_IntS g h k && q1_IntS (g k) (h k)
def q_IntS (v u : T_IntS) : Bool := if v.1 = u.1 then qT_IntS v.2 u.2 v.1 else false
def S_seIntS (v u : T_IntS) (k : Nat) : St :=
  ⟨[.p (.seq true 1 (v.1) (fun i => [.int .i64 ((v.2 i))])), .p (.seq true 1 (u.1) (fun i => [.int .i64 ((u.2 i))]))] ++ List.replicate 10 anyA ++ [.p (.int .i64 v.1), .p (.int .i64 k)] ++ List.replicate 12 anyA, [], 0⟩
def q1_StringS (a b : ByteArray) : Bool := a.toList == b.toList
def qT_StringS (g h : Nat → ByteArray) : Nat → Bool
  | 0 => true
  | k + 1 => qT_StringS g h k && q1_StringS (g k) (h k)
def q_StringS (v u : T_StringS) : Bool := if v.1 = u.1 then qT_StringS v.2 u.2 v.1 else false
def S_seStringS (v u : T_StringS) (k : Nat) : St :=
  ⟨[.p (.seq true 1 (v.1) (fun i => [.str ((v.2 i))])), .p (.seq true 1 (u.1) (fun i => [.str ((u.2 i))]))] ++ List.replicate 10 anyA ++ [.p (.int .i64 v.1), .p (.int .i64 k)] ++ List.replicate 12 anyA, [], 0⟩
def S_ls_l6Same_IntS (v u : T_IntS) (k : Nat) : St :=
  ⟨[.p (.seq true 1 (v.1) (fun i => [.int .i64 ((v.2 i))])), .p (.seq true 1 (u.1) (fun i => [.int .i64 ((u.2 i))])), .p .any, .p .any, .p .any, .p (.int .i64 k)] ++ List.replicate 20 anyA, [], 0⟩

theorem p_szBarS_a (v : T_BarS) (m : Int) :
    pathOb Try.prog Try.f76 0 [.reg [oT], .reg [oT, oT, oT, oT, oT], .reg [oT, oT], .dec true, .reg [oT]] [.code (bodyOf Try.f76)] (start Try.f76 [] 0 [.p (.seq true 2 (v.1) (fun i => [.int .i64 ((v.2 i).1), .int .i64 ((v.2 i).2.1)])), .p (.int .i64 m)]) [] 1 [] (.p (.int .i64 (-1))) =
    some [(((-9223372036854775808) : Int) ≤ (m - (↑v.fst : Int))),
  (((m - (↑v.fst : Int)) : Int) ≤ 9223372036854775807),
  ((decide (m - (↑v.fst : Int) < 0)) = true),
  (((-1) : Int) = (-1))] := by kernel_rfl

theorem p_szBarS_b (v : T_BarS) (m : Int) :
    pathOb Try.prog Try.f76 0 [.reg [oT], .reg [oT, oT, oT, oT, oT], .reg [oT, oT], .dec false, .reg [oT, oT]] [.code (bodyOf Try.f76)] (start Try.f76 [] 0 [.p (.seq true 2 (v.1) (fun i => [.int .i64 ((v.2 i).1), .int .i64 ((v.2 i).2.1)])), .p (.int .i64 m)]) [] 1 [] (.p (.int .i64 (m - v.1))) =
    some [(((-9223372036854775808) : Int) ≤ (m - (↑v.fst : Int))),
  (((m - (↑v.fst : Int)) : Int) ≤ 9223372036854775807),
  ((decide (m - (↑v.fst : Int) < 0)) = false),
  (((m - (↑v.fst : Int)) : Int) = (m - (↑v.fst : Int)))] := by kernel_rfl

theorem p_szGraph_0 (v : T_Graph) (m : Int) :
    pathOb Try.prog Try.f36 0 [.reg [oT, oT], .reg [oT, oT, oT, ⟨true, (some ⟨[], [], 1, [], .p (.int .i64 (f_szBarS v.2.1 m))⟩), none⟩, oT], .reg [oT, oT], .dec true, .reg [oT]] [.code (bodyOf Try.f36)] (start Try.f36 [] 0 [.agg [.p (.int .i64 (v.1)), .p (.seq true 2 (v.2.1.1) (fun i => [.int .i64 ((v.2.1.2 i).1), .int .i64 ((v.2.1.2 i).2.1)]))], .p (.int .i64 m)]) [] 1 [] (.p (.int .i64 (-1))) =
    some [((0 : Nat) < 1),
  Con (Try.prog) 76 0 [] [.p (.seq true 2 (v.snd.fst.fst) (fun i => [.int .i64 ((v.snd.fst.snd i).fst), .int .i64 ((v.snd.fst.snd i).snd.fst)])), .p (.int .i64 (m))] [] (.p (.int .i64 (f_szBarS v.snd.fst m))),
  ((decide (f_szBarS v.snd.fst m < 0)) = true),
  (((-1) : Int) = (-1))] := by kernel_rfl

theorem p_szGraph_e (v : T_Graph) (m : Int) :
    pathOb Try.prog Try.f36 0 [.reg [oT, oT], .reg [oT, oT, oT, ⟨true, (some ⟨[], [], 1, [], .p (.int .i64 (f_szBarS v.2.1 m))⟩), none⟩, oT], .reg [oT, oT], .dec false, .reg [oT, oT]] [.code (bodyOf Try.f36)] (start Try.f36 [] 0 [.agg [.p (.int .i64 (v.1)), .p (.seq true 2 (v.2.1.1) (fun i => [.int .i64 ((v.2.1.2 i).1), .int .i64 ((v.2.1.2 i).2.1)]))], .p (.int .i64 m)]) [] 1 [] (.p (.int .i64 (f_szBarS v.2.1 m))) =
    some [((0 : Nat) < 1),
  Con (Try.prog) 76 0 [] [.p (.seq true 2 (v.snd.fst.fst) (fun i => [.int .i64 ((v.snd.fst.snd i).fst), .int .i64 ((v.snd.fst.snd i).snd.fst)])), .p (.int .i64 (m))] [] (.p (.int .i64 (f_szBarS v.snd.fst m))),
  ((decide (f_szBarS v.snd.fst m < 0)) = false),
  (((f_szBarS v.snd.fst m) : Int) = (f_szBarS v.snd.fst m))] := by kernel_rfl

theorem p_szIntS_a (v : T_IntS) (m : Int) :
    pathOb Try.prog Try.f60 0 [.reg [oT], .reg [oT, oT, oT, oT, oT], .reg [oT, oT], .dec true, .reg [oT]] [.code (bodyOf Try.f60)] (start Try.f60 [] 0 [.p (.seq true 1 (v.1) (fun i => [.int .i64 ((v.2 i))])), .p (.int .i64 m)]) [] 1 [] (.p (.int .i64 (-1))) =
    some [(((-9223372036854775808) : Int) ≤ (m - (↑v.fst : Int))),
  (((m - (↑v.fst : Int)) : Int) ≤ 9223372036854775807),
  ((decide (m - (↑v.fst : Int) < 0)) = true),
  (((-1) : Int) = (-1))] := by kernel_rfl

theorem p_szIntS_b (v : T_IntS) (m : Int) :
    pathOb Try.prog Try.f60 0 [.reg [oT], .reg [oT, oT, oT, oT, oT], .reg [oT, oT], .dec false, .reg [oT, oT]] [.code (bodyOf Try.f60)] (start Try.f60 [] 0 [.p (.seq true 1 (v.1) (fun i => [.int .i64 ((v.2 i))])), .p (.int .i64 m)]) [] 1 [] (.p (.int .i64 (m - v.1))) =
    some [(((-9223372036854775808) : Int) ≤ (m - (↑v.fst : Int))),
  (((m - (↑v.fst : Int)) : Int) ≤ 9223372036854775807),
  ((decide (m - (↑v.fst : Int) < 0)) = false),
  (((m - (↑v.fst : Int)) : Int) = (m - (↑v.fst : Int)))] := by kernel_rfl

theorem p_szPinned_0 (v : T_Pinned) (m : Int) :
    pathOb Try.prog Try.f28 0 [.reg [oT, oT], .reg [oT, oT, oT, ⟨true, (some ⟨[], [], 1, [], .p (.int .i64 (f_szGraph v.1 m))⟩), none⟩, oT], .reg [oT, oT], .dec true, .reg [oT]] [.code (bodyOf Try.f28)] (start Try.f28 [] 0 [.agg [.p (.int .i64 (v.1.1)), .p (.seq true 2 (v.1.2.1.1) (fun i => [.int .i64 ((v.1.2.1.2 i).1), .int .i64 ((v.1.2.1.2 i).2.1)])), .p (.seq true 1 (v.2.1.1) (fun i => [.int .i64 ((v.2.1.2 i))]))], .p (.int .i64 m)]) [] 1 [] (.p (.int .i64 (-1))) =
    some [((0 : Nat) < 1),
  Con (Try.prog) 36 0 [] [.agg [.p (.int .i64 (v.fst.fst)), .p (.seq true 2 (v.fst.snd.fst.fst) (fun i => [.int .i64 ((v.fst.snd.fst.snd i).fst), .int .i64 ((v.fst.snd.fst.snd i).snd.fst)]))], .p (.int .i64 (m))] [] (.p (.int .i64 (f_szGraph v.fst m))),
  ((decide (f_szGraph v.fst m < 0)) = true),
  (((-1) : Int) = (-1))] := by kernel_rfl

theorem p_szPinned_1 (v : T_Pinned) (m : Int) :
    pathOb Try.prog Try.f28 0 [.reg [oT, oT], .reg [oT, oT, oT, ⟨true, (some ⟨[], [], 1, [], .p (.int .i64 (f_szGraph v.1 m))⟩), none⟩, oT], .reg [oT, oT], .dec false, .reg [oT, oT, oT, ⟨true, (some ⟨[], [], 1, [], .p (.int .i64 (f_szIntS v.2.1 (f_szGraph v.1 m)))⟩), none⟩, oT], .reg [oT, oT], .dec true, .reg [oT]] [.code (bodyOf Try.f28)] (start Try.f28 [] 0 [.agg [.p (.int .i64 (v.1.1)), .p (.seq true 2 (v.1.2.1.1) (fun i => [.int .i64 ((v.1.2.1.2 i).1), .int .i64 ((v.1.2.1.2 i).2.1)])), .p (.seq true 1 (v.2.1.1) (fun i => [.int .i64 ((v.2.1.2 i))]))], .p (.int .i64 m)]) [] 1 [] (.p (.int .i64 (-1))) =
    some [((0 : Nat) < 1),
  Con (Try.prog) 36 0 [] [.agg [.p (.int .i64 (v.fst.fst)), .p (.seq true 2 (v.fst.snd.fst.fst) (fun i => [.int .i64 ((v.fst.snd.fst.snd i).fst), .int .i64 ((v.fst.snd.fst.snd i).snd.fst)]))], .p (.int .i64 (m))] [] (.p (.int .i64 (f_szGraph v.fst m))),
  ((decide (f_szGraph v.fst m < 0)) = false),
  ((0 : Nat) < 1),
  Con (Try.prog) 60 0 [] [.p (.seq true 1 (v.snd.fst.fst) (fun i => [.int .i64 (v.snd.fst.snd i)])), .p (.int .i64 (f_szGraph v.fst m))] [] (.p (.int .i64 (f_szIntS v.snd.fst (f_szGraph v.fst m)))),
  ((decide (f_szIntS v.snd.fst (f_szGraph v.fst m) < 0)) = true),
  (((-1) : Int) = (-1))] := by kernel_rfl

theorem p_szPinned_e (v : T_Pinned) (m : Int) :
    pathOb Try.prog Try.f28 0 [.reg [oT, oT], .reg [oT, oT, oT, ⟨true, (some ⟨[], [], 1, [], .p (.int .i64 (f_szGraph v.1 m))⟩), none⟩, oT], .reg [oT, oT], .dec false, .reg [oT, oT, oT, ⟨true, (some ⟨[], [], 1, [], .p (.int .i64 (f_szIntS v.2.1 (f_szGraph v.1 m)))⟩), none⟩, oT], .reg [oT, oT], .dec false, .reg [oT, oT]] [.code (bodyOf Try.f28)] (start Try.f28 [] 0 [.agg [.p (.int .i64 (v.1.1)), .p (.seq true 2 (v.1.2.1.1) (fun i => [.int .i64 ((v.1.2.1.2 i).1), .int .i64 ((v.1.2.1.2 i).2.1)])), .p (.seq true 1 (v.2.1.1) (fun i => [.int .i64 ((v.2.1.2 i))]))], .p (.int .i64 m)]) [] 1 [] (.p (.int .i64 (f_szIntS v.2.1 (f_szGraph v.1 m)))) =
    some [((0 : Nat) < 1),
  Con (Try.prog) 36 0 [] [.agg [.p (.int .i64 (v.fst.fst)), .p (.seq true 2 (v.fst.snd.fst.fst) (fun i => [.int .i64 ((v.fst.snd.fst.snd i).fst), .int .i64 ((v.fst.snd.fst.snd i).snd.fst)]))], .p (.int .i64 (m))] [] (.p (.int .i64 (f_szGraph v.fst m))),
  ((decide (f_szGraph v.fst m < 0)) = false),
  ((0 : Nat) < 1),
  Con (Try.prog) 60 0 [] [.p (.seq true 1 (v.snd.fst.fst) (fun i => [.int .i64 (v.snd.fst.snd i)])), .p (.int .i64 (f_szGraph v.fst m))] [] (.p (.int .i64 (f_szIntS v.snd.fst (f_szGraph v.fst m)))),
  ((decide (f_szIntS v.snd.fst (f_szGraph v.fst m) < 0)) = false),
  (((f_szIntS v.snd.fst (f_szGraph v.fst m)) : Int) = (f_szIntS v.snd.fst (f_szGraph v.fst m)))] := by kernel_rfl

theorem p_szStringS_a (v : T_StringS) (m : Int) :
    pathOb Try.prog Try.f48 0 [.reg [oT], .reg [oT, oT, oT, oT, oT], .reg [oT, oT], .dec true, .reg [oT]] [.code (bodyOf Try.f48)] (start Try.f48 [] 0 [.p (.seq true 1 (v.1) (fun i => [.str ((v.2 i))])), .p (.int .i64 m)]) [] 1 [] (.p (.int .i64 (-1))) =
    some [(((-9223372036854775808) : Int) ≤ (m - (↑v.fst : Int))),
  (((m - (↑v.fst : Int)) : Int) ≤ 9223372036854775807),
  ((decide (m - (↑v.fst : Int) < 0)) = true),
  (((-1) : Int) = (-1))] := by kernel_rfl

theorem p_szStringS_b (v : T_StringS) (m : Int) :
    pieceOb Try.prog 0 [.reg [oT], .reg [oT, oT, oT, oT, oT], .reg [oT, oT], .dec false, .reg [oT], .head] [.code (bodyOf Try.f48)] (start Try.f48 [] 0 [.p (.seq true 1 (v.1) (fun i => [.str ((v.2 i))])), .p (.int .i64 m)]) [] 1 (S_szStringS v m 0) =
    some ([.code (cAt (bodyOf Try.f48) [1, 1, 1, 0, 1, 0, 0]), .inLoop (cAt (bodyOf Try.f48) [1, 1, 1, 0, 1, 0, 0]), .inBlock 0, .code (cAt (bodyOf Try.f48) [1, 1, 1, 1])], [(((-9223372036854775808) : Int) ≤ (m - (↑v.fst : Int))),
  (((m - (↑v.fst : Int)) : Int) ≤ 9223372036854775807),
  ((decide (m - (↑v.fst : Int) < 0)) = false),
  (((v.fst) : Nat) = (v.fst)),
  (∀ i : Nat, ((((i) : Nat) < (v.fst)) → (([.str (v.snd i)] : List PV) = [.str (v.snd i)]))),
  (((m - (↑v.fst : Int)) : Int) = (m - (↑v.fst : Int) - strSum v.snd 0)),
  ((0 : Int) = ((↑0 : Int)))]) := by kernel_rfl

theorem p_szStringS_c (v : T_StringS) (m : Int) (k : Nat) :
    pieceOb Try.prog 0 [.reg [oT, oT, oT, oT], .dec true, .reg [oT, oT, oT, oT, oT, oT, oT, oT], .reg [oT, oT], .dec false, .reg [oT, oT, oT], .head] [.code (cAt (bodyOf Try.f48) [1, 1, 1, 0, 1, 0, 0]), .inLoop (cAt (bodyOf Try.f48) [1, 1, 1, 0, 1, 0, 0]), .inBlock 0, .code (cAt (bodyOf Try.f48) [1, 1, 1, 1])] (S_szStringS v m k) [] 1 (S_szStringS v m (k + 1)) =
    some ([.code (cAt (bodyOf Try.f48) [1, 1, 1, 0, 1, 0, 0]), .inLoop (cAt (bodyOf Try.f48) [1, 1, 1, 0, 1, 0, 0]), .inBlock 0, .code (cAt (bodyOf Try.f48) [1, 1, 1, 1])], [((decide ((↑k : Int) < (↑v.fst : Int))) = true),
  ((0 : Int) ≤ ((↑k : Int))),
  ((((↑k : Int)) : Int) < ((↑v.fst : Int))),
  (((-9223372036854775808) : Int) ≤ (m - (↑v.fst : Int) - strSum v.snd k - (↑(v.snd k).size : Int))),
  (((m - (↑v.fst : Int) - strSum v.snd k - (↑(v.snd k).size : Int)) : Int) ≤ 9223372036854775807),
  ((decide (m - (↑v.fst : Int) - strSum v.snd k - (↑(v.snd (↑k : Int).toNat).size : Int) < 0)) = false),
  (((-9223372036854775808) : Int) ≤ ((↑k : Int) + 1)),
  ((((↑k : Int) + 1) : Int) ≤ 9223372036854775807),
  (((v.fst) : Nat) = (v.fst)),
  (∀ i : Nat, ((((i) : Nat) < (v.fst)) → (([.str (v.snd i)] : List PV) = [.str (v.snd i)]))),
  (((m - (↑v.fst : Int) - strSum v.snd k - (↑(v.snd k).size : Int)) : Int) = (m - (↑v.fst : Int) - strSum v.snd (k + 1))),
  ((((↑k : Int) + 1) : Int) = ((↑(k + 1) : Int)))]) := by kernel_rfl

theorem p_szStringS_d (v : T_StringS) (m : Int) (k : Nat) :
    pathOb Try.prog Try.f48 0 [.reg [oT, oT, oT, oT], .dec true, .reg [oT, oT, oT, oT, oT, oT, oT, oT], .reg [oT, oT], .dec true, .reg [oT]] [.code (cAt (bodyOf Try.f48) [1, 1, 1, 0, 1, 0, 0]), .inLoop (cAt (bodyOf Try.f48) [1, 1, 1, 0, 1, 0, 0]), .inBlock 0, .code (cAt (bodyOf Try.f48) [1, 1, 1, 1])] (S_szStringS v m k) [] 1 [] (.p (.int .i64 (-1))) =
    some [((decide ((↑k : Int) < (↑v.fst : Int))) = true),
  ((0 : Int) ≤ ((↑k : Int))),
  ((((↑k : Int)) : Int) < ((↑v.fst : Int))),
  (((-9223372036854775808) : Int) ≤ (m - (↑v.fst : Int) - strSum v.snd k - (↑(v.snd k).size : Int))),
  (((m - (↑v.fst : Int) - strSum v.snd k - (↑(v.snd k).size : Int)) : Int) ≤ 9223372036854775807),
  ((decide (m - (↑v.fst : Int) - strSum v.snd k - (↑(v.snd (↑k : Int).toNat).size : Int) < 0)) = true),
  (((-1) : Int) = (-1))] := by kernel_rfl

theorem p_szStringS_e (v : T_StringS) (m : Int) (k : Nat) :
    pathOb Try.prog Try.f48 0 [.reg [oT, oT, oT, oT], .dec false, .reg [oT, oT]] [.code (cAt (bodyOf Try.f48) [1, 1, 1, 0, 1, 0, 0]), .inLoop (cAt (bodyOf Try.f48) [1, 1, 1, 0, 1, 0, 0]), .inBlock 0, .code (cAt (bodyOf Try.f48) [1, 1, 1, 1])] (S_szStringS v m k) [] 1 [] (.p (.int .i64 (m - (↑v.1 : Int) - strSum v.2 k))) =
    some [((decide ((↑k : Int) < (↑v.fst : Int))) = false),
  (((m - (↑v.fst : Int) - strSum v.snd k) : Int) = (m - (↑v.fst : Int) - strSum v.snd k))] := by kernel_rfl

theorem p_szSite_0 (v : T_Site) (m : Int) :
    pathOb Try.prog Try.f16 0 [.reg [oT, oT], .reg [oT, oT, oT, ⟨true, (some ⟨[], [], 1, [], .p (.int .i64 (f_szPinned v.1 m))⟩), none⟩, oT], .reg [oT, oT], .dec true, .reg [oT]] [.code (bodyOf Try.f16)] (start Try.f16 [] 0 [.agg [.p (.int .i64 (v.1.1.1)), .p (.seq true 2 (v.1.1.2.1.1) (fun i => [.int .i64 ((v.1.1.2.1.2 i).1), .int .i64 ((v.1.1.2.1.2 i).2.1)])), .p (.seq true 1 (v.1.2.1.1) (fun i => [.int .i64 ((v.1.2.1.2 i))])), .p (.seq true 1 (v.2.1.1) (fun i => [.str ((v.2.1.2 i))]))], .p (.int .i64 m)]) [] 1 [] (.p (.int .i64 (-1))) =
    some [((0 : Nat) < 1),
  Con (Try.prog) 28 0 [] [.agg [.p (.int .i64 (v.fst.fst.fst)), .p (.seq true 2 (v.fst.fst.snd.fst.fst) (fun i => [.int .i64 ((v.fst.fst.snd.fst.snd i).fst), .int .i64 ((v.fst.fst.snd.fst.snd i).snd.fst)])), .p (.seq true 1 (v.fst.snd.fst.fst) (fun i => [.int .i64 (v.fst.snd.fst.snd i)]))], .p (.int .i64 (m))] [] (.p (.int .i64 (f_szPinned v.fst m))),
  ((decide (f_szPinned v.fst m < 0)) = true),
  (((-1) : Int) = (-1))] := by kernel_rfl

theorem p_szSite_1 (v : T_Site) (m : Int) :
    pathOb Try.prog Try.f16 0 [.reg [oT, oT], .reg [oT, oT, oT, ⟨true, (some ⟨[], [], 1, [], .p (.int .i64 (f_szPinned v.1 m))⟩), none⟩, oT], .reg [oT, oT], .dec false, .reg [oT, oT, oT, ⟨true, (some ⟨[], [], 1, [], .p (.int .i64 (f_szStringS v.2.1 (f_szPinned v.1 m)))⟩), none⟩, oT], .reg [oT, oT], .dec true, .reg [oT]] [.code (bodyOf Try.f16)] (start Try.f16 [] 0 [.agg [.p (.int .i64 (v.1.1.1)), .p (.seq true 2 (v.1.1.2.1.1) (fun i => [.int .i64 ((v.1.1.2.1.2 i).1), .int .i64 ((v.1.1.2.1.2 i).2.1)])), .p (.seq true 1 (v.1.2.1.1) (fun i => [.int .i64 ((v.1.2.1.2 i))])), .p (.seq true 1 (v.2.1.1) (fun i => [.str ((v.2.1.2 i))]))], .p (.int .i64 m)]) [] 1 [] (.p (.int .i64 (-1))) =
    some [((0 : Nat) < 1),
  Con (Try.prog) 28 0 [] [.agg [.p (.int .i64 (v.fst.fst.fst)), .p (.seq true 2 (v.fst.fst.snd.fst.fst) (fun i => [.int .i64 ((v.fst.fst.snd.fst.snd i).fst), .int .i64 ((v.fst.fst.snd.fst.snd i).snd.fst)])), .p (.seq true 1 (v.fst.snd.fst.fst) (fun i => [.int .i64 (v.fst.snd.fst.snd i)]))], .p (.int .i64 (m))] [] (.p (.int .i64 (f_szPinned v.fst m))),
  ((decide (f_szPinned v.fst m < 0)) = false),
  ((0 : Nat) < 1),
  Con (Try.prog) 48 0 [] [.p (.seq true 1 (v.snd.fst.fst) (fun i => [.str (v.snd.fst.snd i)])), .p (.int .i64 (f_szPinned v.fst m))] [] (.p (.int .i64 (f_szStringS v.snd.fst (f_szPinned v.fst m)))),
  ((decide (f_szStringS v.snd.fst (f_szPinned v.fst m) < 0)) = true),
  (((-1) : Int) = (-1))] := by kernel_rfl

theorem p_szSite_e (v : T_Site) (m : Int) :
    pathOb Try.prog Try.f16 0 [.reg [oT, oT], .reg [oT, oT, oT, ⟨true, (some ⟨[], [], 1, [], .p (.int .i64 (f_szPinned v.1 m))⟩), none⟩, oT], .reg [oT, oT], .dec false, .reg [oT, oT, oT, ⟨true, (some ⟨[], [], 1, [], .p (.int .i64 (f_szStringS v.2.1 (f_szPinned v.1 m)))⟩), none⟩, oT], .reg [oT, oT], .dec false, .reg [oT, oT]] [.code (bodyOf Try.f16)] (start Try.f16 [] 0 [.agg [.p (.int .i64 (v.1.1.1)), .p (.seq true 2 (v.1.1.2.1.1) (fun i => [.int .i64 ((v.1.1.2.1.2 i).1), .int .i64 ((v.1.1.2.1.2 i).2.1)])), .p (.seq true 1 (v.1.2.1.1) (fun i => [.int .i64 ((v.1.2.1.2 i))])), .p (.seq true 1 (v.2.1.1) (fun i => [.str ((v.2.1.2 i))]))], .p (.int .i64 m)]) [] 1 [] (.p (.int .i64 (f_szStringS v.2.1 (f_szPinned v.1 m)))) =
    some [((0 : Nat) < 1),
  Con (Try.prog) 28 0 [] [.agg [.p (.int .i64 (v.fst.fst.fst)), .p (.seq true 2 (v.fst.fst.snd.fst.fst) (fun i => [.int .i64 ((v.fst.fst.snd.fst.snd i).fst), .int .i64 ((v.fst.fst.snd.fst.snd i).snd.fst)])), .p (.seq true 1 (v.fst.snd.fst.fst) (fun i => [.int .i64 (v.fst.snd.fst.snd i)]))], .p (.int .i64 (m))] [] (.p (.int .i64 (f_szPinned v.fst m))),
  ((decide (f_szPinned v.fst m < 0)) = false),
  ((0 : Nat) < 1),
  Con (Try.prog) 48 0 [] [.p (.seq true 1 (v.snd.fst.fst) (fun i => [.str (v.snd.fst.snd i)])), .p (.int .i64 (f_szPinned v.fst m))] [] (.p (.int .i64 (f_szStringS v.snd.fst (f_szPinned v.fst m)))),
  ((decide (f_szStringS v.snd.fst (f_szPinned v.fst m) < 0)) = false),
  (((f_szStringS v.snd.fst (f_szPinned v.fst m)) : Int) = (f_szStringS v.snd.fst (f_szPinned v.fst m)))] := by kernel_rfl

theorem p_toBar (v : T_Bar) :
    pathOb Try.prog Try.f107 0 [.reg [oT, oT], .reg [oT], .reg [oT, oT, oT, oT], .reg [oT, oT, oT, oT], .reg [oT, oT]] [.code (bodyOf Try.f107)] (start Try.f107 [] 0 [.agg [.p (.int .i64 (v.1)), .p (.int .i64 (v.2.1))]]) [] 1 [] (.agg [.p (.int .i64 (v.1)), .p (.int .i64 (v.2.1))]) =
    some [((0 : Nat) < 1),
  ((0 : Nat) < 1),
  (((true) = true) → ((1 : Nat) = 1)),
  ((0 : Nat) < 1),
  ((0 : Nat) < 1),
  (((true) = true) → ((1 : Nat) = 1)),
  ((0 : Nat) < 1),
  ((0 : Nat) < 1),
  (((true) = true) → ((1 : Nat) = 1)),
  ((0 : Nat) < 1),
  (((v.fst) : Int) = (v.fst)),
  (((v.snd.fst) : Int) = (v.snd.fst))] := by kernel_rfl

theorem p_toBarS_a (v : T_BarS) :
    pieceOb Try.prog 0 [.reg [oT], .reg [oT, oT, oT, oT], .reg [oT], .head] [.code (bodyOf Try.f78)] (start Try.f78 [] 0 [.p (.seq true 2 (v.1) (fun i => [.int .i64 ((v.2 i).1), .int .i64 ((v.2 i).2.1)]))]) [96] 1 (S_toBarS v 0) =
    some ([.code (cAt (bodyOf Try.f78) [1, 1, 0, 1, 0, 0]), .inLoop (cAt (bodyOf Try.f78) [1, 1, 0, 1, 0, 0]), .inBlock 0, .code (cAt (bodyOf Try.f78) [1, 1, 1])], [((0 : Int) ≤ ((↑v.fst : Int))),
  ((((↑v.fst : Int)) : Int) ≤ ((↑v.fst : Int))),
  ((((↑v.fst : Int) * (↑16 : Int)) : Int) ≤ 281474976710656),
  ((((↑v.fst : Int)) : Int) ≤ 9223372036854775807),
  (((v.fst) : Nat) = (v.fst)),
  (∀ i : Nat, ((((i) : Nat) < (v.fst)) → (([.int .i64 ((v.snd i).fst), .int .i64 ((v.snd i).snd.fst)] : List PV) = [.int .i64 ((v.snd i).fst), .int .i64 ((v.snd i).snd.fst)]))),
  ((0 : Nat) = 0),
  (((v.fst) : Nat) = (v.fst)),
  ((0 : Int) = ((↑0 : Int))),
  ((2 : Nat) = 2),
  (((v.fst) : Nat) ≤ (v.fst)),
  (∀ i : Nat, ((((i) : Nat) < (v.fst)) → (All [] ∧ (([.p (.int .i64 0), .p (.int .i64 0)] : List AV) = [.p (.int .i64 (if i < 0 then (v.snd i).fst else 0)), .p (.int .i64 (if i < 0 then (v.snd i).snd.fst else 0))]))))]) := by kernel_rfl

theorem p_toBarS_b (v : T_BarS) (k : Nat) :
    pieceOb Try.prog 0 [.reg [oT, oT, oT, oT], .dec true, .reg [oT, oT, oT, oT, oT, oT, ⟨true, (some ⟨[], [], 1, [], .agg [.p (.int .i64 ((v.2 k).1)), .p (.int .i64 ((v.2 k).2.1))]⟩), none⟩, oT, oT], .reg [oT, oT, oT], .head] [.code (cAt (bodyOf Try.f78) [1, 1, 0, 1, 0, 0]), .inLoop (cAt (bodyOf Try.f78) [1, 1, 0, 1, 0, 0]), .inBlock 0, .code (cAt (bodyOf Try.f78) [1, 1, 1])] (S_toBarS v k) [0] 1 (S_toBarS v (k + 1)) =
    some ([.code (cAt (bodyOf Try.f78) [1, 1, 0, 1, 0, 0]), .inLoop (cAt (bodyOf Try.f78) [1, 1, 0, 1, 0, 0]), .inBlock 0, .code (cAt (bodyOf Try.f78) [1, 1, 1])], [((decide ((↑k : Int) < (↑v.fst : Int))) = true),
  ((0 : Int) ≤ ((↑k : Int))),
  ((((↑k : Int)) : Int) < ((↑v.fst : Int))),
  Con (Try.prog) 107 0 [] [.agg [.p (.int .i64 ((v.snd k).fst)), .p (.int .i64 ((v.snd k).snd.fst))]] [] (.agg [.p (.int .i64 ((v.snd k).fst)), .p (.int .i64 ((v.snd k).snd.fst))]),
  ((0 : Int) ≤ ((↑k : Int))),
  ((((↑k : Int)) : Int) < ((↑v.fst : Int))),
  (((k) : Nat) < (v.fst)),
  (((false) = true) → (((v.fst) : Nat) = 1)),
  (((-9223372036854775808) : Int) ≤ ((↑k : Int) + 1)),
  ((((↑k : Int) + 1) : Int) ≤ 9223372036854775807),
  (((v.fst) : Nat) = (v.fst)),
  (∀ i : Nat, ((((i) : Nat) < (v.fst)) → (([.int .i64 ((v.snd i).fst), .int .i64 ((v.snd i).snd.fst)] : List PV) = [.int .i64 ((v.snd i).fst), .int .i64 ((v.snd i).snd.fst)]))),
  ((0 : Nat) = 0),
  (((v.fst) : Nat) = (v.fst)),
  ((((↑k : Int) + 1) : Int) = ((↑(k + 1) : Int))),
  ((2 : Nat) = 2),
  (((v.fst) : Nat) ≤ (v.fst)),
  (∀ i : Nat, ((((i) : Nat) < (v.fst)) → (All (cvtL false [(0, ⟨false, 2, (v.fst), (fun i_1 => (if (i_1 = k) then [.p (.int .i64 ((v.snd k).fst)), .p (.int .i64 ((v.snd k).snd.fst))] else [.p (.int .i64 (if i_1 < k then (v.snd i_1).fst else 0)), .p (.int .i64 (if i_1 < k then (v.snd i_1).snd.fst else 0))]))⟩)] [0] 1 (if (i = k) then [.p (.int .i64 ((v.snd k).fst)), .p (.int .i64 ((v.snd k).snd.fst))] else [.p (.int .i64 (if i < k then (v.snd i).fst else 0)), .p (.int .i64 (if i < k then (v.snd i).snd.fst else 0))])).2 ∧ (((cvtL false [(0, ⟨false, 2, (v.fst), (fun i_1 => (if (i_1 = k) then [.p (.int .i64 ((v.snd k).fst)), .p (.int .i64 ((v.snd k).snd.fst))] else [.p (.int .i64 (if i_1 < k then (v.snd i_1).fst else 0)), .p (.int .i64 (if i_1 < k then (v.snd i_1).snd.fst else 0))]))⟩)] [0] 1 (if (i = k) then [.p (.int .i64 ((v.snd k).fst)), .p (.int .i64 ((v.snd k).snd.fst))] else [.p (.int .i64 (if i < k then (v.snd i).fst else 0)), .p (.int .i64 (if i < k then (v.snd i).snd.fst else 0))])).1 : List AV) = [.p (.int .i64 (if i < k + 1 then (v.snd i).fst else 0)), .p (.int .i64 (if i < k + 1 then (v.snd i).snd.fst else 0))]))))]) := by kernel_rfl

theorem p_toBarS_c (v : T_BarS) (k : Nat) :
    pathOb Try.prog Try.f78 0 [.reg [oT, oT, oT, oT], .dec false, .reg [oT, oT]] [.code (cAt (bodyOf Try.f78) [1, 1, 0, 1, 0, 0]), .inLoop (cAt (bodyOf Try.f78) [1, 1, 0, 1, 0, 0]), .inBlock 0, .code (cAt (bodyOf Try.f78) [1, 1, 1])] (S_toBarS v k) [0] 1 [(0, ⟨false, 2, v.1, fun i => [.p (.int .i64 ((v.2 i).1)), .p (.int .i64 ((v.2 i).2.1))]⟩)] (.ar 2 0 0 (v.1)) =
    some [((decide ((↑k : Int) < (↑v.fst : Int))) = false),
  ((0 : Nat) = 0),
  (((v.fst) : Nat) = (v.fst)),
  ((2 : Nat) = 2),
  (((v.fst) : Nat) ≤ (v.fst)),
  (∀ i : Nat, ((((i) : Nat) < (v.fst)) → (All [] ∧ (([.p (.int .i64 (if i < k then (v.snd i).fst else 0)), .p (.int .i64 (if i < k then (v.snd i).snd.fst else 0))] : List AV) = [.p (.int .i64 ((v.snd i).fst)), .p (.int .i64 ((v.snd i).snd.fst))])))),
  (∀ i : Nat, ((((i) : Nat) < (v.fst)) → All []))] := by kernel_rfl

theorem p_toGraph (v : T_Graph) :
    pathOb Try.prog Try.f38 0 [.reg [oT, oT], .reg [oT], .reg [oT, oT, oT, oT], .reg [oT, oT, ⟨true, (some ⟨[], [], 1, [(0, ⟨false, 2, v.2.1.1, fun i => [.p (.int .i64 ((v.2.1.2 i).1)), .p (.int .i64 ((v.2.1.2 i).2.1))]⟩)], .ar 2 0 0 (v.2.1.1)⟩), none⟩, oT, oT], .reg [oT, oT]] [.code (bodyOf Try.f38)] (start Try.f38 [] 0 [.agg [.p (.int .i64 (v.1)), .p (.seq true 2 (v.2.1.1) (fun i => [.int .i64 ((v.2.1.2 i).1), .int .i64 ((v.2.1.2 i).2.1)]))]]) [288] 1 [(0, ⟨false, 2, v.2.1.1, fun i => [.p (.int .i64 ((v.2.1.2 i).1)), .p (.int .i64 ((v.2.1.2 i).2.1))]⟩)] (.agg [.p (.int .i64 (v.1)), .ar 2 0 0 (v.2.1.1)]) =
    some [((0 : Nat) < 1),
  ((0 : Nat) < 1),
  (((true) = true) → ((1 : Nat) = 1)),
  ((0 : Nat) < 1),
  Con (Try.prog) 78 0 [] [.p (.seq true 2 (v.snd.fst.fst) (fun i => [.int .i64 ((v.snd.fst.snd i).fst), .int .i64 ((v.snd.fst.snd i).snd.fst)]))] [(0, ⟨false, 2, (v.snd.fst.fst), (fun i => [.p (.int .i64 ((v.snd.fst.snd i).fst)), .p (.int .i64 ((v.snd.fst.snd i).snd.fst))])⟩)] (.ar 2 0 0 (v.snd.fst.fst)),
  ((0 : Nat) < 1),
  (((true) = true) → ((1 : Nat) = 1)),
  ((0 : Nat) < 1),
  ((0 : Nat) < 1),
  (((true) = true) → ((1 : Nat) = 1)),
  ((0 : Nat) < 1),
  (((v.fst) : Int) = (v.fst)),
  ((0 : Nat) = 0),
  (((v.snd.fst.fst) : Nat) = (v.snd.fst.fst)),
  ((2 : Nat) = 2),
  (((v.snd.fst.fst) : Nat) ≤ (v.snd.fst.fst)),
  (∀ i : Nat, ((((i) : Nat) < (v.snd.fst.fst)) → (All [] ∧ (([.p (.int .i64 ((v.snd.fst.snd i).fst)), .p (.int .i64 ((v.snd.fst.snd i).snd.fst))] : List AV) = [.p (.int .i64 ((v.snd.fst.snd i).fst)), .p (.int .i64 ((v.snd.fst.snd i).snd.fst))])))),
  (∀ i : Nat, ((((i) : Nat) < (v.snd.fst.fst)) → All []))] := by kernel_rfl

theorem p_toIntS_a (v : T_IntS) :
    pieceOb Try.prog 0 [.reg [oT], .reg [oT, oT, oT, oT], .reg [oT], .head] [.code (bodyOf Try.f12)] (start Try.f12 [] 0 [.p (.seq true 1 (v.1) (fun i => [.int .i64 ((v.2 i))]))]) [96] 1 (S_toIntS v 0) =
    some ([.code (cAt (bodyOf Try.f12) [1, 1, 0, 1, 0, 0]), .inLoop (cAt (bodyOf Try.f12) [1, 1, 0, 1, 0, 0]), .inBlock 0, .code (cAt (bodyOf Try.f12) [1, 1, 1])], [((0 : Int) ≤ ((↑v.fst : Int))),
  ((((↑v.fst : Int)) : Int) ≤ ((↑v.fst : Int))),
  ((((↑v.fst : Int) * (↑8 : Int)) : Int) ≤ 281474976710656),
  ((((↑v.fst : Int)) : Int) ≤ 9223372036854775807),
  (((v.fst) : Nat) = (v.fst)),
  (∀ i : Nat, ((((i) : Nat) < (v.fst)) → (([.int .i64 (v.snd i)] : List PV) = [.int .i64 (v.snd i)]))),
  ((0 : Nat) = 0),
  (((v.fst) : Nat) = (v.fst)),
  ((0 : Int) = ((↑0 : Int))),
  ((1 : Nat) = 1),
  (((v.fst) : Nat) ≤ (v.fst)),
  (∀ i : Nat, ((((i) : Nat) < (v.fst)) → (All [] ∧ (([.p (.int .i64 0)] : List AV) = [.p (.int .i64 (if i < 0 then v.snd i else 0))]))))]) := by kernel_rfl

theorem p_toIntS_b (v : T_IntS) (k : Nat) :
    pieceOb Try.prog 0 [.reg [oT, oT, oT, oT], .dec true, .reg [oT, oT, oT, oT, oT, oT, oT, oT], .reg [oT, oT, oT], .head] [.code (cAt (bodyOf Try.f12) [1, 1, 0, 1, 0, 0]), .inLoop (cAt (bodyOf Try.f12) [1, 1, 0, 1, 0, 0]), .inBlock 0, .code (cAt (bodyOf Try.f12) [1, 1, 1])] (S_toIntS v k) [0] 1 (S_toIntS v (k + 1)) =
    some ([.code (cAt (bodyOf Try.f12) [1, 1, 0, 1, 0, 0]), .inLoop (cAt (bodyOf Try.f12) [1, 1, 0, 1, 0, 0]), .inBlock 0, .code (cAt (bodyOf Try.f12) [1, 1, 1])], [((decide ((↑k : Int) < (↑v.fst : Int))) = true),
  ((0 : Int) ≤ ((↑k : Int))),
  ((((↑k : Int)) : Int) < ((↑v.fst : Int))),
  ((0 : Int) ≤ ((↑k : Int))),
  ((((↑k : Int)) : Int) < ((↑v.fst : Int))),
  (((k) : Nat) < (v.fst)),
  (((false) = true) → (((v.fst) : Nat) = 1)),
  (((-9223372036854775808) : Int) ≤ ((↑k : Int) + 1)),
  ((((↑k : Int) + 1) : Int) ≤ 9223372036854775807),
  (((v.fst) : Nat) = (v.fst)),
  (∀ i : Nat, ((((i) : Nat) < (v.fst)) → (([.int .i64 (v.snd i)] : List PV) = [.int .i64 (v.snd i)]))),
  ((0 : Nat) = 0),
  (((v.fst) : Nat) = (v.fst)),
  ((((↑k : Int) + 1) : Int) = ((↑(k + 1) : Int))),
  ((1 : Nat) = 1),
  (((v.fst) : Nat) ≤ (v.fst)),
  (∀ i : Nat, ((((i) : Nat) < (v.fst)) → (All (cvtL false [(0, ⟨false, 1, (v.fst), (fun i_1 => (if (i_1 = k) then [.p (.int .i64 (v.snd k))] else [.p (.int .i64 (if i_1 < k then v.snd i_1 else 0))]))⟩)] [0] 1 (if (i = k) then [.p (.int .i64 (v.snd k))] else [.p (.int .i64 (if i < k then v.snd i else 0))])).2 ∧ (((cvtL false [(0, ⟨false, 1, (v.fst), (fun i_1 => (if (i_1 = k) then [.p (.int .i64 (v.snd k))] else [.p (.int .i64 (if i_1 < k then v.snd i_1 else 0))]))⟩)] [0] 1 (if (i = k) then [.p (.int .i64 (v.snd k))] else [.p (.int .i64 (if i < k then v.snd i else 0))])).1 : List AV) = [.p (.int .i64 (if i < k + 1 then v.snd i else 0))]))))]) := by kernel_rfl

theorem p_toIntS_c (v : T_IntS) (k : Nat) :
    pathOb Try.prog Try.f12 0 [.reg [oT, oT, oT, oT], .dec false, .reg [oT, oT]] [.code (cAt (bodyOf Try.f12) [1, 1, 0, 1, 0, 0]), .inLoop (cAt (bodyOf Try.f12) [1, 1, 0, 1, 0, 0]), .inBlock 0, .code (cAt (bodyOf Try.f12) [1, 1, 1])] (S_toIntS v k) [0] 1 [(0, ⟨false, 1, v.1, fun i => [.p (.int .i64 ((v.2 i)))]⟩)] (.ar 1 0 0 (v.1)) =
    some [((decide ((↑k : Int) < (↑v.fst : Int))) = false),
  ((0 : Nat) = 0),
  (((v.fst) : Nat) = (v.fst)),
  ((1 : Nat) = 1),
  (((v.fst) : Nat) ≤ (v.fst)),
  (∀ i : Nat, ((((i) : Nat) < (v.fst)) → (All [] ∧ (([.p (.int .i64 (if i < k then v.snd i else 0))] : List AV) = [.p (.int .i64 (v.snd i))])))),
  (∀ i : Nat, ((((i) : Nat) < (v.fst)) → All []))] := by kernel_rfl

theorem p_toPinned (v : T_Pinned) :
    pathOb Try.prog Try.f30 0 [.reg [oT, oT], .reg [oT], .reg [oT, oT, ⟨true, (some ⟨[], [], 1, [(0, ⟨false, 2, v.1.2.1.1, fun i => [.p (.int .i64 ((v.1.2.1.2 i).1)), .p (.int .i64 ((v.1.2.1.2 i).2.1))]⟩)], .agg [.p (.int .i64 (v.1.1)), .ar 2 0 0 (v.1.2.1.1)]⟩), none⟩, oT, oT], .reg [oT, oT, ⟨true, (some ⟨[], [], 1, [(0, ⟨false, 1, v.2.1.1, fun i => [.p (.int .i64 ((v.2.1.2 i)))]⟩)], .ar 1 0 0 (v.2.1.1)⟩), none⟩, oT, oT], .reg [oT, oT]] [.code (bodyOf Try.f30)] (start Try.f30 [] 0 [.agg [.p (.int .i64 (v.1.1)), .p (.seq true 2 (v.1.2.1.1) (fun i => [.int .i64 ((v.1.2.1.2 i).1), .int .i64 ((v.1.2.1.2 i).2.1)])), .p (.seq true 1 (v.2.1.1) (fun i => [.int .i64 ((v.2.1.2 i))]))]]) [160, 320] 1 [(0, ⟨false, 2, v.1.2.1.1, fun i => [.p (.int .i64 ((v.1.2.1.2 i).1)), .p (.int .i64 ((v.1.2.1.2 i).2.1))]⟩), (1, ⟨false, 1, v.2.1.1, fun i => [.p (.int .i64 ((v.2.1.2 i)))]⟩)] (.agg [.p (.int .i64 (v.1.1)), .ar 2 0 0 (v.1.2.1.1), .ar 1 1 0 (v.2.1.1)]) =
    some [((0 : Nat) < 1),
  Con (Try.prog) 38 0 [] [.agg [.p (.int .i64 (v.fst.fst)), .p (.seq true 2 (v.fst.snd.fst.fst) (fun i => [.int .i64 ((v.fst.snd.fst.snd i).fst), .int .i64 ((v.fst.snd.fst.snd i).snd.fst)]))]] [(0, ⟨false, 2, (v.fst.snd.fst.fst), (fun i => [.p (.int .i64 ((v.fst.snd.fst.snd i).fst)), .p (.int .i64 ((v.fst.snd.fst.snd i).snd.fst))])⟩)] (.agg [.p (.int .i64 (v.fst.fst)), .ar 2 0 0 (v.fst.snd.fst.fst)]),
  ((0 : Nat) < 1),
  (((true) = true) → ((1 : Nat) = 1)),
  ((0 : Nat) < 1),
  Con (Try.prog) 12 0 [] [.p (.seq true 1 (v.snd.fst.fst) (fun i => [.int .i64 (v.snd.fst.snd i)]))] [(0, ⟨false, 1, (v.snd.fst.fst), (fun i => [.p (.int .i64 (v.snd.fst.snd i))])⟩)] (.ar 1 0 0 (v.snd.fst.fst)),
  ((0 : Nat) < 1),
  (((true) = true) → ((1 : Nat) = 1)),
  ((0 : Nat) < 1),
  ((0 : Nat) < 1),
  (((true) = true) → ((1 : Nat) = 1)),
  ((0 : Nat) < 1),
  (((v.fst.fst) : Int) = (v.fst.fst)),
  ((0 : Nat) = 0),
  (((v.fst.snd.fst.fst) : Nat) = (v.fst.snd.fst.fst)),
  ((0 : Nat) = 0),
  (((v.snd.fst.fst) : Nat) = (v.snd.fst.fst)),
  ((2 : Nat) = 2),
  (((v.fst.snd.fst.fst) : Nat) ≤ (v.fst.snd.fst.fst)),
  (∀ i : Nat, ((((i) : Nat) < (v.fst.snd.fst.fst)) → (All [] ∧ (([.p (.int .i64 ((v.fst.snd.fst.snd i).fst)), .p (.int .i64 ((v.fst.snd.fst.snd i).snd.fst))] : List AV) = [.p (.int .i64 ((v.fst.snd.fst.snd i).fst)), .p (.int .i64 ((v.fst.snd.fst.snd i).snd.fst))])))),
  ((1 : Nat) = 1),
  (((v.snd.fst.fst) : Nat) ≤ (v.snd.fst.fst)),
  (∀ i : Nat, ((((i) : Nat) < (v.snd.fst.fst)) → (All [] ∧ (([.p (.int .i64 (v.snd.fst.snd i))] : List AV) = [.p (.int .i64 (v.snd.fst.snd i))])))),
  (∀ i : Nat, ((((i) : Nat) < (v.fst.snd.fst.fst)) → All [])),
  (∀ i : Nat, ((((i) : Nat) < (v.snd.fst.fst)) → All []))] := by kernel_rfl

theorem p_toStringS_a (v : T_StringS) :
    pieceOb Try.prog 0 [.reg [oT], .reg [oT, oT, oT, oT], .reg [oT], .head] [.code (bodyOf Try.f51)] (start Try.f51 [] 0 [.p (.seq true 1 (v.1) (fun i => [.str ((v.2 i))]))]) [96] 1 (S_toStringS v 0) =
    some ([.code (cAt (bodyOf Try.f51) [1, 1, 0, 1, 0, 0]), .inLoop (cAt (bodyOf Try.f51) [1, 1, 0, 1, 0, 0]), .inBlock 0, .code (cAt (bodyOf Try.f51) [1, 1, 1])], [((0 : Int) ≤ ((↑v.fst : Int))),
  ((((↑v.fst : Int)) : Int) ≤ ((↑v.fst : Int))),
  ((((↑v.fst : Int) * (↑16 : Int)) : Int) ≤ 281474976710656),
  ((((↑v.fst : Int)) : Int) ≤ 9223372036854775807),
  (((v.fst) : Nat) = (v.fst)),
  (∀ i : Nat, ((((i) : Nat) < (v.fst)) → (([.str (v.snd i)] : List PV) = [.str (v.snd i)]))),
  ((0 : Nat) = 0),
  (((v.fst) : Nat) = (v.fst)),
  ((0 : Int) = ((↑0 : Int))),
  ((1 : Nat) = 1),
  (((v.fst) : Nat) ≤ (v.fst)),
  (∀ i : Nat, ((((i) : Nat) < (v.fst)) → (All [] ∧ (([.p (.str (ByteArray.mk #[]))] : List AV) = [.p (.str (if i < 0 then v.snd i else ByteArray.mk #[]))]))))]) := by kernel_rfl

theorem p_toStringS_b (v : T_StringS) (k : Nat) :
    pieceOb Try.prog 0 [.reg [oT, oT, oT, oT], .dec true, .reg [oT, oT, oT, oT, oT, oT, oT, oT], .reg [oT, oT, oT], .head] [.code (cAt (bodyOf Try.f51) [1, 1, 0, 1, 0, 0]), .inLoop (cAt (bodyOf Try.f51) [1, 1, 0, 1, 0, 0]), .inBlock 0, .code (cAt (bodyOf Try.f51) [1, 1, 1])] (S_toStringS v k) [0] 1 (S_toStringS v (k + 1)) =
    some ([.code (cAt (bodyOf Try.f51) [1, 1, 0, 1, 0, 0]), .inLoop (cAt (bodyOf Try.f51) [1, 1, 0, 1, 0, 0]), .inBlock 0, .code (cAt (bodyOf Try.f51) [1, 1, 1])], [((decide ((↑k : Int) < (↑v.fst : Int))) = true),
  ((0 : Int) ≤ ((↑k : Int))),
  ((((↑k : Int)) : Int) < ((↑v.fst : Int))),
  ((0 : Int) ≤ ((↑k : Int))),
  ((((↑k : Int)) : Int) < ((↑v.fst : Int))),
  (((k) : Nat) < (v.fst)),
  (((false) = true) → (((v.fst) : Nat) = 1)),
  (((-9223372036854775808) : Int) ≤ ((↑k : Int) + 1)),
  ((((↑k : Int) + 1) : Int) ≤ 9223372036854775807),
  (((v.fst) : Nat) = (v.fst)),
  (∀ i : Nat, ((((i) : Nat) < (v.fst)) → (([.str (v.snd i)] : List PV) = [.str (v.snd i)]))),
  ((0 : Nat) = 0),
  (((v.fst) : Nat) = (v.fst)),
  ((((↑k : Int) + 1) : Int) = ((↑(k + 1) : Int))),
  ((1 : Nat) = 1),
  (((v.fst) : Nat) ≤ (v.fst)),
  (∀ i : Nat, ((((i) : Nat) < (v.fst)) → (All (cvtL false [(0, ⟨false, 1, (v.fst), (fun i_1 => (if (i_1 = k) then [.p (.str (v.snd k))] else [.p (.str (if i_1 < k then v.snd i_1 else ByteArray.mk #[]))]))⟩)] [0] 1 (if (i = k) then [.p (.str (v.snd k))] else [.p (.str (if i < k then v.snd i else ByteArray.mk #[]))])).2 ∧ (((cvtL false [(0, ⟨false, 1, (v.fst), (fun i_1 => (if (i_1 = k) then [.p (.str (v.snd k))] else [.p (.str (if i_1 < k then v.snd i_1 else ByteArray.mk #[]))]))⟩)] [0] 1 (if (i = k) then [.p (.str (v.snd k))] else [.p (.str (if i < k then v.snd i else ByteArray.mk #[]))])).1 : List AV) = [.p (.str (if i < k + 1 then v.snd i else ByteArray.mk #[]))]))))]) := by kernel_rfl

theorem p_toStringS_c (v : T_StringS) (k : Nat) :
    pathOb Try.prog Try.f51 0 [.reg [oT, oT, oT, oT], .dec false, .reg [oT, oT]] [.code (cAt (bodyOf Try.f51) [1, 1, 0, 1, 0, 0]), .inLoop (cAt (bodyOf Try.f51) [1, 1, 0, 1, 0, 0]), .inBlock 0, .code (cAt (bodyOf Try.f51) [1, 1, 1])] (S_toStringS v k) [0] 1 [(0, ⟨false, 1, v.1, fun i => [.p (.str ((v.2 i)))]⟩)] (.ar 1 0 0 (v.1)) =
    some [((decide ((↑k : Int) < (↑v.fst : Int))) = false),
  ((0 : Nat) = 0),
  (((v.fst) : Nat) = (v.fst)),
  ((1 : Nat) = 1),
  (((v.fst) : Nat) ≤ (v.fst)),
  (∀ i : Nat, ((((i) : Nat) < (v.fst)) → (All [] ∧ (([.p (.str (if i < k then v.snd i else ByteArray.mk #[]))] : List AV) = [.p (.str (v.snd i))])))),
  (∀ i : Nat, ((((i) : Nat) < (v.fst)) → All []))] := by kernel_rfl

theorem p_toSite (v : T_Site) :
    pathOb Try.prog Try.f18 0 [.reg [oT, oT], .reg [oT], .reg [oT, oT, ⟨true, (some ⟨[], [], 1, [(0, ⟨false, 2, v.1.1.2.1.1, fun i => [.p (.int .i64 ((v.1.1.2.1.2 i).1)), .p (.int .i64 ((v.1.1.2.1.2 i).2.1))]⟩), (1, ⟨false, 1, v.1.2.1.1, fun i => [.p (.int .i64 ((v.1.2.1.2 i)))]⟩)], .agg [.p (.int .i64 (v.1.1.1)), .ar 2 0 0 (v.1.1.2.1.1), .ar 1 1 0 (v.1.2.1.1)]⟩), none⟩, oT, oT], .reg [oT, oT, ⟨true, (some ⟨[], [], 1, [(0, ⟨false, 1, v.2.1.1, fun i => [.p (.str ((v.2.1.2 i)))]⟩)], .ar 1 0 0 (v.2.1.1)⟩), none⟩, oT, oT], .reg [oT, oT]] [.code (bodyOf Try.f18)] (start Try.f18 [] 0 [.agg [.p (.int .i64 (v.1.1.1)), .p (.seq true 2 (v.1.1.2.1.1) (fun i => [.int .i64 ((v.1.1.2.1.2 i).1), .int .i64 ((v.1.1.2.1.2 i).2.1)])), .p (.seq true 1 (v.1.2.1.1) (fun i => [.int .i64 ((v.1.2.1.2 i))])), .p (.seq true 1 (v.2.1.1) (fun i => [.str ((v.2.1.2 i))]))]]) [160, 161, 320] 1 [(0, ⟨false, 2, v.1.1.2.1.1, fun i => [.p (.int .i64 ((v.1.1.2.1.2 i).1)), .p (.int .i64 ((v.1.1.2.1.2 i).2.1))]⟩), (1, ⟨false, 1, v.1.2.1.1, fun i => [.p (.int .i64 ((v.1.2.1.2 i)))]⟩), (2, ⟨false, 1, v.2.1.1, fun i => [.p (.str ((v.2.1.2 i)))]⟩)] (.agg [.p (.int .i64 (v.1.1.1)), .ar 2 0 0 (v.1.1.2.1.1), .ar 1 1 0 (v.1.2.1.1), .ar 1 2 0 (v.2.1.1)]) =
    some [((0 : Nat) < 1),
  Con (Try.prog) 30 0 [] [.agg [.p (.int .i64 (v.fst.fst.fst)), .p (.seq true 2 (v.fst.fst.snd.fst.fst) (fun i => [.int .i64 ((v.fst.fst.snd.fst.snd i).fst), .int .i64 ((v.fst.fst.snd.fst.snd i).snd.fst)])), .p (.seq true 1 (v.fst.snd.fst.fst) (fun i => [.int .i64 (v.fst.snd.fst.snd i)]))]] [(0, ⟨false, 2, (v.fst.fst.snd.fst.fst), (fun i => [.p (.int .i64 ((v.fst.fst.snd.fst.snd i).fst)), .p (.int .i64 ((v.fst.fst.snd.fst.snd i).snd.fst))])⟩), (1, ⟨false, 1, (v.fst.snd.fst.fst), (fun i => [.p (.int .i64 (v.fst.snd.fst.snd i))])⟩)] (.agg [.p (.int .i64 (v.fst.fst.fst)), .ar 2 0 0 (v.fst.fst.snd.fst.fst), .ar 1 1 0 (v.fst.snd.fst.fst)]),
  ((0 : Nat) < 1),
  (((true) = true) → ((1 : Nat) = 1)),
  ((0 : Nat) < 1),
  Con (Try.prog) 51 0 [] [.p (.seq true 1 (v.snd.fst.fst) (fun i => [.str (v.snd.fst.snd i)]))] [(0, ⟨false, 1, (v.snd.fst.fst), (fun i => [.p (.str (v.snd.fst.snd i))])⟩)] (.ar 1 0 0 (v.snd.fst.fst)),
  ((0 : Nat) < 1),
  (((true) = true) → ((1 : Nat) = 1)),
  ((0 : Nat) < 1),
  ((0 : Nat) < 1),
  (((true) = true) → ((1 : Nat) = 1)),
  ((0 : Nat) < 1),
  (((v.fst.fst.fst) : Int) = (v.fst.fst.fst)),
  ((0 : Nat) = 0),
  (((v.fst.fst.snd.fst.fst) : Nat) = (v.fst.fst.snd.fst.fst)),
  ((0 : Nat) = 0),
  (((v.fst.snd.fst.fst) : Nat) = (v.fst.snd.fst.fst)),
  ((0 : Nat) = 0),
  (((v.snd.fst.fst) : Nat) = (v.snd.fst.fst)),
  ((2 : Nat) = 2),
  (((v.fst.fst.snd.fst.fst) : Nat) ≤ (v.fst.fst.snd.fst.fst)),
  (∀ i : Nat, ((((i) : Nat) < (v.fst.fst.snd.fst.fst)) → (All [] ∧ (([.p (.int .i64 ((v.fst.fst.snd.fst.snd i).fst)), .p (.int .i64 ((v.fst.fst.snd.fst.snd i).snd.fst))] : List AV) = [.p (.int .i64 ((v.fst.fst.snd.fst.snd i).fst)), .p (.int .i64 ((v.fst.fst.snd.fst.snd i).snd.fst))])))),
  ((1 : Nat) = 1),
  (((v.fst.snd.fst.fst) : Nat) ≤ (v.fst.snd.fst.fst)),
  (∀ i : Nat, ((((i) : Nat) < (v.fst.snd.fst.fst)) → (All [] ∧ (([.p (.int .i64 (v.fst.snd.fst.snd i))] : List AV) = [.p (.int .i64 (v.fst.snd.fst.snd i))])))),
  ((1 : Nat) = 1),
  (((v.snd.fst.fst) : Nat) ≤ (v.snd.fst.fst)),
  (∀ i : Nat, ((((i) : Nat) < (v.snd.fst.fst)) → (All [] ∧ (([.p (.str (v.snd.fst.snd i))] : List AV) = [.p (.str (v.snd.fst.snd i))])))),
  (∀ i : Nat, ((((i) : Nat) < (v.fst.fst.snd.fst.fst)) → All [])),
  (∀ i : Nat, ((((i) : Nat) < (v.fst.snd.fst.fst)) → All [])),
  (∀ i : Nat, ((((i) : Nat) < (v.snd.fst.fst)) → All []))] := by kernel_rfl

theorem p_eqBar (v : T_Bar) :
    pathOb Try.prog Try.f109 0 [.reg [oT, oT, oT], .reg [oT, oT, oT, oT, oT], .dec false, .reg [oT, oT, oT, oT, oT], .dec false, .reg [oT]] [.code (bodyOf Try.f109)] (start Try.f109 [] 0 [.agg [.p (.int .i64 (v.1)), .p (.int .i64 (v.2.1))], .agg [.p (.int .i64 (v.1)), .p (.int .i64 (v.2.1))]]) [] 1 [] (.p (.bool true)) =
    some [((0 : Nat) < 1),
  ((0 : Nat) < 1),
  ((v.fst != v.fst) = false),
  ((0 : Nat) < 1),
  ((0 : Nat) < 1),
  ((v.snd.fst != v.snd.fst) = false),
  (true = true)] := by kernel_rfl

theorem p_eqBarS_a (v : T_BarS) :
    pieceOb Try.prog 0 [.reg [oT], .reg [oT, oT, oT, oT, oT], .dec false, .reg [oT], .head] [.code (bodyOf Try.f80)] (start Try.f80 [] 0 [.p (.seq true 2 (v.1) (fun i => [.int .i64 ((v.2 i).1), .int .i64 ((v.2 i).2.1)])), .p (.seq true 2 (v.1) (fun i => [.int .i64 ((v.2 i).1), .int .i64 ((v.2 i).2.1)]))]) [] 1 (S_eqBarS v 0) =
    some ([.code (cAt (bodyOf Try.f80) [1, 1, 0, 1, 0, 0]), .inLoop (cAt (bodyOf Try.f80) [1, 1, 0, 1, 0, 0]), .inBlock 0, .code (cAt (bodyOf Try.f80) [1, 1, 1])], [(((↑v.fst : Int) != (↑v.fst : Int)) = false),
  (((v.fst) : Nat) = (v.fst)),
  (∀ i : Nat, ((((i) : Nat) < (v.fst)) → (([.int .i64 ((v.snd i).fst), .int .i64 ((v.snd i).snd.fst)] : List PV) = [.int .i64 ((v.snd i).fst), .int .i64 ((v.snd i).snd.fst)]))),
  (((v.fst) : Nat) = (v.fst)),
  (∀ i : Nat, ((((i) : Nat) < (v.fst)) → (([.int .i64 ((v.snd i).fst), .int .i64 ((v.snd i).snd.fst)] : List PV) = [.int .i64 ((v.snd i).fst), .int .i64 ((v.snd i).snd.fst)]))),
  ((0 : Int) = ((↑0 : Int)))]) := by kernel_rfl

theorem p_eqBarS_b (v : T_BarS) (k : Nat) :
    pieceOb Try.prog 0 [.reg [oT, oT, oT, oT], .dec true, .reg [oT, oT, oT, oT, oT, oT, oT, oT, ⟨true, (some ⟨[], [], 1, [], .p (.bool true)⟩), none⟩, oT], .dec false, .reg [oT, oT, oT], .head] [.code (cAt (bodyOf Try.f80) [1, 1, 0, 1, 0, 0]), .inLoop (cAt (bodyOf Try.f80) [1, 1, 0, 1, 0, 0]), .inBlock 0, .code (cAt (bodyOf Try.f80) [1, 1, 1])] (S_eqBarS v k) [] 1 (S_eqBarS v (k + 1)) =
    some ([.code (cAt (bodyOf Try.f80) [1, 1, 0, 1, 0, 0]), .inLoop (cAt (bodyOf Try.f80) [1, 1, 0, 1, 0, 0]), .inBlock 0, .code (cAt (bodyOf Try.f80) [1, 1, 1])], [((decide ((↑k : Int) < (↑v.fst : Int))) = true),
  ((0 : Int) ≤ ((↑k : Int))),
  ((((↑k : Int)) : Int) < ((↑v.fst : Int))),
  ((0 : Int) ≤ ((↑k : Int))),
  ((((↑k : Int)) : Int) < ((↑v.fst : Int))),
  Con (Try.prog) 109 0 [] [.agg [.p (.int .i64 ((v.snd k).fst)), .p (.int .i64 ((v.snd k).snd.fst))], .agg [.p (.int .i64 ((v.snd k).fst)), .p (.int .i64 ((v.snd k).snd.fst))]] [] (.p (.bool true)),
  ((!true) = false),
  (((-9223372036854775808) : Int) ≤ ((↑k : Int) + 1)),
  ((((↑k : Int) + 1) : Int) ≤ 9223372036854775807),
  (((v.fst) : Nat) = (v.fst)),
  (∀ i : Nat, ((((i) : Nat) < (v.fst)) → (([.int .i64 ((v.snd i).fst), .int .i64 ((v.snd i).snd.fst)] : List PV) = [.int .i64 ((v.snd i).fst), .int .i64 ((v.snd i).snd.fst)]))),
  (((v.fst) : Nat) = (v.fst)),
  (∀ i : Nat, ((((i) : Nat) < (v.fst)) → (([.int .i64 ((v.snd i).fst), .int .i64 ((v.snd i).snd.fst)] : List PV) = [.int .i64 ((v.snd i).fst), .int .i64 ((v.snd i).snd.fst)]))),
  ((((↑k : Int) + 1) : Int) = ((↑(k + 1) : Int)))]) := by kernel_rfl

theorem p_eqBarS_c (v : T_BarS) (k : Nat) :
    pathOb Try.prog Try.f80 0 [.reg [oT, oT, oT, oT], .dec false, .reg [oT]] [.code (cAt (bodyOf Try.f80) [1, 1, 0, 1, 0, 0]), .inLoop (cAt (bodyOf Try.f80) [1, 1, 0, 1, 0, 0]), .inBlock 0, .code (cAt (bodyOf Try.f80) [1, 1, 1])] (S_eqBarS v k) [] 1 [] (.p (.bool true)) =
    some [((decide ((↑k : Int) < (↑v.fst : Int))) = false),
  (true = true)] := by kernel_rfl

theorem p_eqGraph (v : T_Graph) :
    pathOb Try.prog Try.f40 0 [.reg [oT, oT, oT], .reg [oT, oT, oT, oT, oT], .dec false, .reg [oT, oT, oT, oT, ⟨true, (some ⟨[], [], 1, [], .p (.bool true)⟩), none⟩, oT], .dec false, .reg [oT]] [.code (bodyOf Try.f40)] (start Try.f40 [] 0 [.agg [.p (.int .i64 (v.1)), .p (.seq true 2 (v.2.1.1) (fun i => [.int .i64 ((v.2.1.2 i).1), .int .i64 ((v.2.1.2 i).2.1)]))], .agg [.p (.int .i64 (v.1)), .p (.seq true 2 (v.2.1.1) (fun i => [.int .i64 ((v.2.1.2 i).1), .int .i64 ((v.2.1.2 i).2.1)]))]]) [] 1 [] (.p (.bool true)) =
    some [((0 : Nat) < 1),
  ((0 : Nat) < 1),
  ((v.fst != v.fst) = false),
  ((0 : Nat) < 1),
  ((0 : Nat) < 1),
  Con (Try.prog) 80 0 [] [.p (.seq true 2 (v.snd.fst.fst) (fun i => [.int .i64 ((v.snd.fst.snd i).fst), .int .i64 ((v.snd.fst.snd i).snd.fst)])), .p (.seq true 2 (v.snd.fst.fst) (fun i => [.int .i64 ((v.snd.fst.snd i).fst), .int .i64 ((v.snd.fst.snd i).snd.fst)]))] [] (.p (.bool true)),
  ((!true) = false),
  (true = true)] := by kernel_rfl

theorem p_eqIntS_a (v : T_IntS) :
    pieceOb Try.prog 0 [.reg [oT], .reg [oT, oT, oT, oT, oT], .dec false, .reg [oT], .head] [.code (bodyOf Try.f15)] (start Try.f15 [] 0 [.p (.seq true 1 (v.1) (fun i => [.int .i64 ((v.2 i))])), .p (.seq true 1 (v.1) (fun i => [.int .i64 ((v.2 i))]))]) [] 1 (S_eqIntS v 0) =
    some ([.code (cAt (bodyOf Try.f15) [1, 1, 0, 1, 0, 0]), .inLoop (cAt (bodyOf Try.f15) [1, 1, 0, 1, 0, 0]), .inBlock 0, .code (cAt (bodyOf Try.f15) [1, 1, 1])], [(((↑v.fst : Int) != (↑v.fst : Int)) = false),
  (((v.fst) : Nat) = (v.fst)),
  (∀ i : Nat, ((((i) : Nat) < (v.fst)) → (([.int .i64 (v.snd i)] : List PV) = [.int .i64 (v.snd i)]))),
  (((v.fst) : Nat) = (v.fst)),
  (∀ i : Nat, ((((i) : Nat) < (v.fst)) → (([.int .i64 (v.snd i)] : List PV) = [.int .i64 (v.snd i)]))),
  ((0 : Int) = ((↑0 : Int)))]) := by kernel_rfl

theorem p_eqIntS_b (v : T_IntS) (k : Nat) :
    pieceOb Try.prog 0 [.reg [oT, oT, oT, oT], .dec true, .reg [oT, oT, oT, oT, oT, oT, oT, oT, oT], .dec false, .reg [oT, oT, oT], .head] [.code (cAt (bodyOf Try.f15) [1, 1, 0, 1, 0, 0]), .inLoop (cAt (bodyOf Try.f15) [1, 1, 0, 1, 0, 0]), .inBlock 0, .code (cAt (bodyOf Try.f15) [1, 1, 1])] (S_eqIntS v k) [] 1 (S_eqIntS v (k + 1)) =
    some ([.code (cAt (bodyOf Try.f15) [1, 1, 0, 1, 0, 0]), .inLoop (cAt (bodyOf Try.f15) [1, 1, 0, 1, 0, 0]), .inBlock 0, .code (cAt (bodyOf Try.f15) [1, 1, 1])], [((decide ((↑k : Int) < (↑v.fst : Int))) = true),
  ((0 : Int) ≤ ((↑k : Int))),
  ((((↑k : Int)) : Int) < ((↑v.fst : Int))),
  ((0 : Int) ≤ ((↑k : Int))),
  ((((↑k : Int)) : Int) < ((↑v.fst : Int))),
  ((v.snd k != v.snd k) = false),
  (((-9223372036854775808) : Int) ≤ ((↑k : Int) + 1)),
  ((((↑k : Int) + 1) : Int) ≤ 9223372036854775807),
  (((v.fst) : Nat) = (v.fst)),
  (∀ i : Nat, ((((i) : Nat) < (v.fst)) → (([.int .i64 (v.snd i)] : List PV) = [.int .i64 (v.snd i)]))),
  (((v.fst) : Nat) = (v.fst)),
  (∀ i : Nat, ((((i) : Nat) < (v.fst)) → (([.int .i64 (v.snd i)] : List PV) = [.int .i64 (v.snd i)]))),
  ((((↑k : Int) + 1) : Int) = ((↑(k + 1) : Int)))]) := by kernel_rfl

theorem p_eqIntS_c (v : T_IntS) (k : Nat) :
    pathOb Try.prog Try.f15 0 [.reg [oT, oT, oT, oT], .dec false, .reg [oT]] [.code (cAt (bodyOf Try.f15) [1, 1, 0, 1, 0, 0]), .inLoop (cAt (bodyOf Try.f15) [1, 1, 0, 1, 0, 0]), .inBlock 0, .code (cAt (bodyOf Try.f15) [1, 1, 1])] (S_eqIntS v k) [] 1 [] (.p (.bool true)) =
    some [((decide ((↑k : Int) < (↑v.fst : Int))) = false),
  (true = true)] := by kernel_rfl

theorem p_eqPinned (v : T_Pinned) :
    pathOb Try.prog Try.f32 0 [.reg [oT, oT, oT], .reg [oT, oT, oT, oT, ⟨true, (some ⟨[], [], 1, [], .p (.bool true)⟩), none⟩, oT], .dec false, .reg [oT, oT, oT, oT, ⟨true, (some ⟨[], [], 1, [], .p (.bool true)⟩), none⟩, oT], .dec false, .reg [oT]] [.code (bodyOf Try.f32)] (start Try.f32 [] 0 [.agg [.p (.int .i64 (v.1.1)), .p (.seq true 2 (v.1.2.1.1) (fun i => [.int .i64 ((v.1.2.1.2 i).1), .int .i64 ((v.1.2.1.2 i).2.1)])), .p (.seq true 1 (v.2.1.1) (fun i => [.int .i64 ((v.2.1.2 i))]))], .agg [.p (.int .i64 (v.1.1)), .p (.seq true 2 (v.1.2.1.1) (fun i => [.int .i64 ((v.1.2.1.2 i).1), .int .i64 ((v.1.2.1.2 i).2.1)])), .p (.seq true 1 (v.2.1.1) (fun i => [.int .i64 ((v.2.1.2 i))]))]]) [] 1 [] (.p (.bool true)) =
    some [((0 : Nat) < 1),
  ((0 : Nat) < 1),
  Con (Try.prog) 40 0 [] [.agg [.p (.int .i64 (v.fst.fst)), .p (.seq true 2 (v.fst.snd.fst.fst) (fun i => [.int .i64 ((v.fst.snd.fst.snd i).fst), .int .i64 ((v.fst.snd.fst.snd i).snd.fst)]))], .agg [.p (.int .i64 (v.fst.fst)), .p (.seq true 2 (v.fst.snd.fst.fst) (fun i => [.int .i64 ((v.fst.snd.fst.snd i).fst), .int .i64 ((v.fst.snd.fst.snd i).snd.fst)]))]] [] (.p (.bool true)),
  ((!true) = false),
  ((0 : Nat) < 1),
  ((0 : Nat) < 1),
  Con (Try.prog) 15 0 [] [.p (.seq true 1 (v.snd.fst.fst) (fun i => [.int .i64 (v.snd.fst.snd i)])), .p (.seq true 1 (v.snd.fst.fst) (fun i => [.int .i64 (v.snd.fst.snd i)]))] [] (.p (.bool true)),
  ((!true) = false),
  (true = true)] := by kernel_rfl

theorem p_eqStringS_a (v : T_StringS) :
    pieceOb Try.prog 0 [.reg [oT], .reg [oT, oT, oT, oT, oT], .dec false, .reg [oT], .head] [.code (bodyOf Try.f55)] (start Try.f55 [] 0 [.p (.seq true 1 (v.1) (fun i => [.str ((v.2 i))])), .p (.seq true 1 (v.1) (fun i => [.str ((v.2 i))]))]) [] 1 (S_eqStringS v 0) =
    some ([.code (cAt (bodyOf Try.f55) [1, 1, 0, 1, 0, 0]), .inLoop (cAt (bodyOf Try.f55) [1, 1, 0, 1, 0, 0]), .inBlock 0, .code (cAt (bodyOf Try.f55) [1, 1, 1])], [(((↑v.fst : Int) != (↑v.fst : Int)) = false),
  (((v.fst) : Nat) = (v.fst)),
  (∀ i : Nat, ((((i) : Nat) < (v.fst)) → (([.str (v.snd i)] : List PV) = [.str (v.snd i)]))),
  (((v.fst) : Nat) = (v.fst)),
  (∀ i : Nat, ((((i) : Nat) < (v.fst)) → (([.str (v.snd i)] : List PV) = [.str (v.snd i)]))),
  ((0 : Int) = ((↑0 : Int)))]) := by kernel_rfl

theorem p_eqStringS_b (v : T_StringS) (k : Nat) :
    pieceOb Try.prog 0 [.reg [oT, oT, oT, oT], .dec true, .reg [oT, oT, oT, oT, oT, oT, oT, oT, oT], .dec false, .reg [oT, oT, oT], .head] [.code (cAt (bodyOf Try.f55) [1, 1, 0, 1, 0, 0]), .inLoop (cAt (bodyOf Try.f55) [1, 1, 0, 1, 0, 0]), .inBlock 0, .code (cAt (bodyOf Try.f55) [1, 1, 1])] (S_eqStringS v k) [] 1 (S_eqStringS v (k + 1)) =
    some ([.code (cAt (bodyOf Try.f55) [1, 1, 0, 1, 0, 0]), .inLoop (cAt (bodyOf Try.f55) [1, 1, 0, 1, 0, 0]), .inBlock 0, .code (cAt (bodyOf Try.f55) [1, 1, 1])], [((decide ((↑k : Int) < (↑v.fst : Int))) = true),
  ((0 : Int) ≤ ((↑k : Int))),
  ((((↑k : Int)) : Int) < ((↑v.fst : Int))),
  ((0 : Int) ≤ ((↑k : Int))),
  ((((↑k : Int)) : Int) < ((↑v.fst : Int))),
  ((!(v.snd k).toList == (v.snd k).toList) = false),
  (((-9223372036854775808) : Int) ≤ ((↑k : Int) + 1)),
  ((((↑k : Int) + 1) : Int) ≤ 9223372036854775807),
  (((v.fst) : Nat) = (v.fst)),
  (∀ i : Nat, ((((i) : Nat) < (v.fst)) → (([.str (v.snd i)] : List PV) = [.str (v.snd i)]))),
  (((v.fst) : Nat) = (v.fst)),
  (∀ i : Nat, ((((i) : Nat) < (v.fst)) → (([.str (v.snd i)] : List PV) = [.str (v.snd i)]))),
  ((((↑k : Int) + 1) : Int) = ((↑(k + 1) : Int)))]) := by kernel_rfl

theorem p_eqStringS_c (v : T_StringS) (k : Nat) :
    pathOb Try.prog Try.f55 0 [.reg [oT, oT, oT, oT], .dec false, .reg [oT]] [.code (cAt (bodyOf Try.f55) [1, 1, 0, 1, 0, 0]), .inLoop (cAt (bodyOf Try.f55) [1, 1, 0, 1, 0, 0]), .inBlock 0, .code (cAt (bodyOf Try.f55) [1, 1, 1])] (S_eqStringS v k) [] 1 [] (.p (.bool true)) =
    some [((decide ((↑k : Int) < (↑v.fst : Int))) = false),
  (true = true)] := by kernel_rfl

theorem p_eqSite (v : T_Site) :
    pathOb Try.prog Try.f20 0 [.reg [oT, oT, oT], .reg [oT, oT, oT, oT, ⟨true, (some ⟨[], [], 1, [], .p (.bool true)⟩), none⟩, oT], .dec false, .reg [oT, oT, oT, oT, ⟨true, (some ⟨[], [], 1, [], .p (.bool true)⟩), none⟩, oT], .dec false, .reg [oT]] [.code (bodyOf Try.f20)] (start Try.f20 [] 0 [.agg [.p (.int .i64 (v.1.1.1)), .p (.seq true 2 (v.1.1.2.1.1) (fun i => [.int .i64 ((v.1.1.2.1.2 i).1), .int .i64 ((v.1.1.2.1.2 i).2.1)])), .p (.seq true 1 (v.1.2.1.1) (fun i => [.int .i64 ((v.1.2.1.2 i))])), .p (.seq true 1 (v.2.1.1) (fun i => [.str ((v.2.1.2 i))]))], .agg [.p (.int .i64 (v.1.1.1)), .p (.seq true 2 (v.1.1.2.1.1) (fun i => [.int .i64 ((v.1.1.2.1.2 i).1), .int .i64 ((v.1.1.2.1.2 i).2.1)])), .p (.seq true 1 (v.1.2.1.1) (fun i => [.int .i64 ((v.1.2.1.2 i))])), .p (.seq true 1 (v.2.1.1) (fun i => [.str ((v.2.1.2 i))]))]]) [] 1 [] (.p (.bool true)) =
    some [((0 : Nat) < 1),
  ((0 : Nat) < 1),
  Con (Try.prog) 32 0 [] [.agg [.p (.int .i64 (v.fst.fst.fst)), .p (.seq true 2 (v.fst.fst.snd.fst.fst) (fun i => [.int .i64 ((v.fst.fst.snd.fst.snd i).fst), .int .i64 ((v.fst.fst.snd.fst.snd i).snd.fst)])), .p (.seq true 1 (v.fst.snd.fst.fst) (fun i => [.int .i64 (v.fst.snd.fst.snd i)]))], .agg [.p (.int .i64 (v.fst.fst.fst)), .p (.seq true 2 (v.fst.fst.snd.fst.fst) (fun i => [.int .i64 ((v.fst.fst.snd.fst.snd i).fst), .int .i64 ((v.fst.fst.snd.fst.snd i).snd.fst)])), .p (.seq true 1 (v.fst.snd.fst.fst) (fun i => [.int .i64 (v.fst.snd.fst.snd i)]))]] [] (.p (.bool true)),
  ((!true) = false),
  ((0 : Nat) < 1),
  ((0 : Nat) < 1),
  Con (Try.prog) 55 0 [] [.p (.seq true 1 (v.snd.fst.fst) (fun i => [.str (v.snd.fst.snd i)])), .p (.seq true 1 (v.snd.fst.fst) (fun i => [.str (v.snd.fst.snd i)]))] [] (.p (.bool true)),
  ((!true) = false),
  (true = true)] := by kernel_rfl

theorem p_seBarS_z (v u : T_BarS) :
    pathOb Try.prog Try.f84 0 [.reg [oT], .reg [oT, oT, oT, oT, oT], .dec true, .reg [oT]] [.code (bodyOf Try.f84)] (start Try.f84 [] 0 [.p (.seq true 2 (v.1) (fun i => [.int .i64 ((v.2 i).1), .int .i64 ((v.2 i).2.1)])), .p (.seq true 2 (u.1) (fun i => [.int .i64 ((u.2 i).1), .int .i64 ((u.2 i).2.1)]))]) [] 1 [] (.p (.bool false)) =
    some [(((↑v.fst : Int) != (↑u.fst : Int)) = true),
  (false = false)] := by kernel_rfl

theorem p_seBarS_a (v u : T_BarS) :
    pieceOb Try.prog 0 [.reg [oT], .reg [oT, oT, oT, oT, oT], .dec false, .reg [oT, oT, oT], .head] [.code (bodyOf Try.f84)] (start Try.f84 [] 0 [.p (.seq true 2 (v.1) (fun i => [.int .i64 ((v.2 i).1), .int .i64 ((v.2 i).2.1)])), .p (.seq true 2 (u.1) (fun i => [.int .i64 ((u.2 i).1), .int .i64 ((u.2 i).2.1)]))]) [] 1 (S_seBarS v u 0) =
    some ([.code (cAt (bodyOf Try.f84) [1, 1, 0, 1, 0, 0]), .inLoop (cAt (bodyOf Try.f84) [1, 1, 0, 1, 0, 0]), .inBlock 0, .code (cAt (bodyOf Try.f84) [1, 1, 1])], [(((↑v.fst : Int) != (↑u.fst : Int)) = false),
  (((v.fst) : Nat) = (v.fst)),
  (∀ i : Nat, ((((i) : Nat) < (v.fst)) → (([.int .i64 ((v.snd i).fst), .int .i64 ((v.snd i).snd.fst)] : List PV) = [.int .i64 ((v.snd i).fst), .int .i64 ((v.snd i).snd.fst)]))),
  (((u.fst) : Nat) = (u.fst)),
  (∀ i : Nat, ((((i) : Nat) < (u.fst)) → (([.int .i64 ((u.snd i).fst), .int .i64 ((u.snd i).snd.fst)] : List PV) = [.int .i64 ((u.snd i).fst), .int .i64 ((u.snd i).snd.fst)]))),
  ((((↑v.fst : Int)) : Int) = ((↑v.fst : Int))),
  ((0 : Int) = ((↑0 : Int)))]) := by kernel_rfl

theorem p_seBarS_b (v u : T_BarS) (k : Nat) :
    pieceOb Try.prog 0 [.reg [oT], .dec true, .reg [oT, oT], .reg [oT, oT, oT, oT, oT, oT, oT, oT, oT], .dec false, .reg [oT, oT], .head] [.code (cAt (bodyOf Try.f84) [1, 1, 0, 1, 0, 0]), .inLoop (cAt (bodyOf Try.f84) [1, 1, 0, 1, 0, 0]), .inBlock 0, .code (cAt (bodyOf Try.f84) [1, 1, 1])] (S_seBarS v u k) [] 1 (S_seBarS v u (k + 1)) =
    some ([.code (cAt (bodyOf Try.f84) [1, 1, 0, 1, 0, 0]), .inLoop (cAt (bodyOf Try.f84) [1, 1, 0, 1, 0, 0]), .inBlock 0, .code (cAt (bodyOf Try.f84) [1, 1, 1])], [((decide ((↑k : Int) < (↑v.fst : Int))) = true),
  ((0 : Int) ≤ ((↑k : Int))),
  ((((↑k : Int)) : Int) < ((↑v.fst : Int))),
  ((0 : Int) ≤ ((↑k : Int))),
  ((((↑k : Int)) : Int) < ((↑u.fst : Int))),
  ((!((v.snd k).fst == (u.snd k).fst && ((v.snd k).snd.fst == (u.snd k).snd.fst && true))) = false),
  (((-9223372036854775808) : Int) ≤ ((↑k : Int) + 1)),
  ((((↑k : Int) + 1) : Int) ≤ 9223372036854775807),
  (((v.fst) : Nat) = (v.fst)),
  (∀ i : Nat, ((((i) : Nat) < (v.fst)) → (([.int .i64 ((v.snd i).fst), .int .i64 ((v.snd i).snd.fst)] : List PV) = [.int .i64 ((v.snd i).fst), .int .i64 ((v.snd i).snd.fst)]))),
  (((u.fst) : Nat) = (u.fst)),
  (∀ i : Nat, ((((i) : Nat) < (u.fst)) → (([.int .i64 ((u.snd i).fst), .int .i64 ((u.snd i).snd.fst)] : List PV) = [.int .i64 ((u.snd i).fst), .int .i64 ((u.snd i).snd.fst)]))),
  ((((↑v.fst : Int)) : Int) = ((↑v.fst : Int))),
  ((((↑k : Int) + 1) : Int) = ((↑(k + 1) : Int)))]) := by kernel_rfl

theorem p_seBarS_c (v u : T_BarS) (k : Nat) :
    pathOb Try.prog Try.f84 0 [.reg [oT], .dec true, .reg [oT, oT], .reg [oT, oT, oT, oT, oT, oT, oT, oT, oT], .dec true, .reg [oT]] [.code (cAt (bodyOf Try.f84) [1, 1, 0, 1, 0, 0]), .inLoop (cAt (bodyOf Try.f84) [1, 1, 0, 1, 0, 0]), .inBlock 0, .code (cAt (bodyOf Try.f84) [1, 1, 1])] (S_seBarS v u k) [] 1 [] (.p (.bool false)) =
    some [((decide ((↑k : Int) < (↑v.fst : Int))) = true),
  ((0 : Int) ≤ ((↑k : Int))),
  ((((↑k : Int)) : Int) < ((↑v.fst : Int))),
  ((0 : Int) ≤ ((↑k : Int))),
  ((((↑k : Int)) : Int) < ((↑u.fst : Int))),
  ((!((v.snd k).fst == (u.snd k).fst && ((v.snd k).snd.fst == (u.snd k).snd.fst && true))) = true),
  (false = false)] := by kernel_rfl

theorem p_seBarS_d (v u : T_BarS) (k : Nat) :
    pathOb Try.prog Try.f84 0 [.reg [oT], .dec false, .reg [oT]] [.code (cAt (bodyOf Try.f84) [1, 1, 0, 1, 0, 0]), .inLoop (cAt (bodyOf Try.f84) [1, 1, 0, 1, 0, 0]), .inBlock 0, .code (cAt (bodyOf Try.f84) [1, 1, 1])] (S_seBarS v u k) [] 1 [] (.p (.bool true)) =
    some [((decide ((↑k : Int) < (↑v.fst : Int))) = false),
  (true = true)] := by kernel_rfl

theorem p_seIntS_z (v u : T_IntS) :
    pathOb Try.prog Try.f53 0 [.reg [oT], .reg [oT, oT, oT, oT, oT], .dec true, .reg [oT]] [.code (bodyOf Try.f53)] (start Try.f53 [] 0 [.p (.seq true 1 (v.1) (fun i => [.int .i64 ((v.2 i))])), .p (.seq true 1 (u.1) (fun i => [.int .i64 ((u.2 i))]))]) [] 1 [] (.p (.bool false)) =
    some [(((↑v.fst : Int) != (↑u.fst : Int)) = true),
  (false = false)] := by kernel_rfl

theorem p_seIntS_a (v u : T_IntS) :
    pieceOb Try.prog 0 [.reg [oT], .reg [oT, oT, oT, oT, oT], .dec false, .reg [oT, oT, oT], .head] [.code (bodyOf Try.f53)] (start Try.f53 [] 0 [.p (.seq true 1 (v.1) (fun i => [.int .i64 ((v.2 i))])), .p (.seq true 1 (u.1) (fun i => [.int .i64 ((u.2 i))]))]) [] 1 (S_seIntS v u 0) =
    some ([.code (cAt (bodyOf Try.f53) [1, 1, 0, 1, 0, 0]), .inLoop (cAt (bodyOf Try.f53) [1, 1, 0, 1, 0, 0]), .inBlock 0, .code (cAt (bodyOf Try.f53) [1, 1, 1])], [(((↑v.fst : Int) != (↑u.fst : Int)) = false),
  (((v.fst) : Nat) = (v.fst)),
  (∀ i : Nat, ((((i) : Nat) < (v.fst)) → (([.int .i64 (v.snd i)] : List PV) = [.int .i64 (v.snd i)]))),
  (((u.fst) : Nat) = (u.fst)),
  (∀ i : Nat, ((((i) : Nat) < (u.fst)) → (([.int .i64 (u.snd i)] : List PV) = [.int .i64 (u.snd i)]))),
  ((((↑v.fst : Int)) : Int) = ((↑v.fst : Int))),
  ((0 : Int) = ((↑0 : Int)))]) := by kernel_rfl

theorem p_seIntS_b (v u : T_IntS) (k : Nat) :
    pieceOb Try.prog 0 [.reg [oT], .dec true, .reg [oT, oT], .reg [oT, oT, oT, oT, oT, oT, oT, oT, oT], .dec false, .reg [oT, oT], .head] [.code (cAt (bodyOf Try.f53) [1, 1, 0, 1, 0, 0]), .inLoop (cAt (bodyOf Try.f53) [1, 1, 0, 1, 0, 0]), .inBlock 0, .code (cAt (bodyOf Try.f53) [1, 1, 1])] (S_seIntS v u k) [] 1 (S_seIntS v u (k + 1)) =
    some ([.code (cAt (bodyOf Try.f53) [1, 1, 0, 1, 0, 0]), .inLoop (cAt (bodyOf Try.f53) [1, 1, 0, 1, 0, 0]), .inBlock 0, .code (cAt (bodyOf Try.f53) [1, 1, 1])], [((decide ((↑k : Int) < (↑v.fst : Int))) = true),
  ((0 : Int) ≤ ((↑k : Int))),
  ((((↑k : Int)) : Int) < ((↑v.fst : Int))),
  ((0 : Int) ≤ ((↑k : Int))),
  ((((↑k : Int)) : Int) < ((↑u.fst : Int))),
  ((v.snd k != u.snd k) = false),
  (((-9223372036854775808) : Int) ≤ ((↑k : Int) + 1)),
  ((((↑k : Int) + 1) : Int) ≤ 9223372036854775807),
  (((v.fst) : Nat) = (v.fst)),
  (∀ i : Nat, ((((i) : Nat) < (v.fst)) → (([.int .i64 (v.snd i)] : List PV) = [.int .i64 (v.snd i)]))),
  (((u.fst) : Nat) = (u.fst)),
  (∀ i : Nat, ((((i) : Nat) < (u.fst)) → (([.int .i64 (u.snd i)] : List PV) = [.int .i64 (u.snd i)]))),
  ((((↑v.fst : Int)) : Int) = ((↑v.fst : Int))),
  ((((↑k : Int) + 1) : Int) = ((↑(k + 1) : Int)))]) := by kernel_rfl

theorem p_seIntS_c (v u : T_IntS) (k : Nat) :
    pathOb Try.prog Try.f53 0 [.reg [oT], .dec true, .reg [oT, oT], .reg [oT, oT, oT, oT, oT, oT, oT, oT, oT], .dec true, .reg [oT]] [.code (cAt (bodyOf Try.f53) [1, 1, 0, 1, 0, 0]), .inLoop (cAt (bodyOf Try.f53) [1, 1, 0, 1, 0, 0]), .inBlock 0, .code (cAt (bodyOf Try.f53) [1, 1, 1])] (S_seIntS v u k) [] 1 [] (.p (.bool false)) =
    some [((decide ((↑k : Int) < (↑v.fst : Int))) = true),
  ((0 : Int) ≤ ((↑k : Int))),
  ((((↑k : Int)) : Int) < ((↑v.fst : Int))),
  ((0 : Int) ≤ ((↑k : Int))),
  ((((↑k : Int)) : Int) < ((↑u.fst : Int))),
  ((v.snd k != u.snd k) = true),
  (false = false)] := by kernel_rfl

theorem p_seIntS_d (v u : T_IntS) (k : Nat) :
    pathOb Try.prog Try.f53 0 [.reg [oT], .dec false, .reg [oT]] [.code (cAt (bodyOf Try.f53) [1, 1, 0, 1, 0, 0]), .inLoop (cAt (bodyOf Try.f53) [1, 1, 0, 1, 0, 0]), .inBlock 0, .code (cAt (bodyOf Try.f53) [1, 1, 1])] (S_seIntS v u k) [] 1 [] (.p (.bool true)) =
    some [((decide ((↑k : Int) < (↑v.fst : Int))) = false),
  (true = true)] := by kernel_rfl

theorem p_seStringS_z (v u : T_StringS) :
    pathOb Try.prog Try.f54 0 [.reg [oT], .reg [oT, oT, oT, oT, oT], .dec true, .reg [oT]] [.code (bodyOf Try.f54)] (start Try.f54 [] 0 [.p (.seq true 1 (v.1) (fun i => [.str ((v.2 i))])), .p (.seq true 1 (u.1) (fun i => [.str ((u.2 i))]))]) [] 1 [] (.p (.bool false)) =
    some [(((↑v.fst : Int) != (↑u.fst : Int)) = true),
  (false = false)] := by kernel_rfl

theorem p_seStringS_a (v u : T_StringS) :
    pieceOb Try.prog 0 [.reg [oT], .reg [oT, oT, oT, oT, oT], .dec false, .reg [oT, oT, oT], .head] [.code (bodyOf Try.f54)] (start Try.f54 [] 0 [.p (.seq true 1 (v.1) (fun i => [.str ((v.2 i))])), .p (.seq true 1 (u.1) (fun i => [.str ((u.2 i))]))]) [] 1 (S_seStringS v u 0) =
    some ([.code (cAt (bodyOf Try.f54) [1, 1, 0, 1, 0, 0]), .inLoop (cAt (bodyOf Try.f54) [1, 1, 0, 1, 0, 0]), .inBlock 0, .code (cAt (bodyOf Try.f54) [1, 1, 1])], [(((↑v.fst : Int) != (↑u.fst : Int)) = false),
  (((v.fst) : Nat) = (v.fst)),
  (∀ i : Nat, ((((i) : Nat) < (v.fst)) → (([.str (v.snd i)] : List PV) = [.str (v.snd i)]))),
  (((u.fst) : Nat) = (u.fst)),
  (∀ i : Nat, ((((i) : Nat) < (u.fst)) → (([.str (u.snd i)] : List PV) = [.str (u.snd i)]))),
  ((((↑v.fst : Int)) : Int) = ((↑v.fst : Int))),
  ((0 : Int) = ((↑0 : Int)))]) := by kernel_rfl

theorem p_seStringS_b (v u : T_StringS) (k : Nat) :
    pieceOb Try.prog 0 [.reg [oT], .dec true, .reg [oT, oT], .reg [oT, oT, oT, oT, oT, oT, oT, oT, oT], .dec false, .reg [oT, oT], .head] [.code (cAt (bodyOf Try.f54) [1, 1, 0, 1, 0, 0]), .inLoop (cAt (bodyOf Try.f54) [1, 1, 0, 1, 0, 0]), .inBlock 0, .code (cAt (bodyOf Try.f54) [1, 1, 1])] (S_seStringS v u k) [] 1 (S_seStringS v u (k + 1)) =
    some ([.code (cAt (bodyOf Try.f54) [1, 1, 0, 1, 0, 0]), .inLoop (cAt (bodyOf Try.f54) [1, 1, 0, 1, 0, 0]), .inBlock 0, .code (cAt (bodyOf Try.f54) [1, 1, 1])], [((decide ((↑k : Int) < (↑v.fst : Int))) = true),
  ((0 : Int) ≤ ((↑k : Int))),
  ((((↑k : Int)) : Int) < ((↑v.fst : Int))),
  ((0 : Int) ≤ ((↑k : Int))),
  ((((↑k : Int)) : Int) < ((↑u.fst : Int))),
  ((!(v.snd k).toList == (u.snd k).toList) = false),
  (((-9223372036854775808) : Int) ≤ ((↑k : Int) + 1)),
  ((((↑k : Int) + 1) : Int) ≤ 9223372036854775807),
  (((v.fst) : Nat) = (v.fst)),
  (∀ i : Nat, ((((i) : Nat) < (v.fst)) → (([.str (v.snd i)] : List PV) = [.str (v.snd i)]))),
  (((u.fst) : Nat) = (u.fst)),
  (∀ i : Nat, ((((i) : Nat) < (u.fst)) → (([.str (u.snd i)] : List PV) = [.str (u.snd i)]))),
  ((((↑v.fst : Int)) : Int) = ((↑v.fst : Int))),
  ((((↑k : Int) + 1) : Int) = ((↑(k + 1) : Int)))]) := by kernel_rfl

theorem p_seStringS_c (v u : T_StringS) (k : Nat) :
    pathOb Try.prog Try.f54 0 [.reg [oT], .dec true, .reg [oT, oT], .reg [oT, oT, oT, oT, oT, oT, oT, oT, oT], .dec true, .reg [oT]] [.code (cAt (bodyOf Try.f54) [1, 1, 0, 1, 0, 0]), .inLoop (cAt (bodyOf Try.f54) [1, 1, 0, 1, 0, 0]), .inBlock 0, .code (cAt (bodyOf Try.f54) [1, 1, 1])] (S_seStringS v u k) [] 1 [] (.p (.bool false)) =
    some [((decide ((↑k : Int) < (↑v.fst : Int))) = true),
  ((0 : Int) ≤ ((↑k : Int))),
  ((((↑k : Int)) : Int) < ((↑v.fst : Int))),
  ((0 : Int) ≤ ((↑k : Int))),
  ((((↑k : Int)) : Int) < ((↑u.fst : Int))),
  ((!(v.snd k).toList == (u.snd k).toList) = true),
  (false = false)] := by kernel_rfl

theorem p_seStringS_d (v u : T_StringS) (k : Nat) :
    pathOb Try.prog Try.f54 0 [.reg [oT], .dec false, .reg [oT]] [.code (cAt (bodyOf Try.f54) [1, 1, 0, 1, 0, 0]), .inLoop (cAt (bodyOf Try.f54) [1, 1, 0, 1, 0, 0]), .inBlock 0, .code (cAt (bodyOf Try.f54) [1, 1, 1])] (S_seStringS v u k) [] 1 [] (.p (.bool true)) =
    some [((decide ((↑k : Int) < (↑v.fst : Int))) = false),
  (true = true)] := by kernel_rfl

theorem p_ls_l6Same_IntS_z (v u : T_IntS) :
    pathOb Try.prog Try.f50 0 [.reg [oT], .reg [oT, oT, oT, oT, oT], .dec true, .reg [oT]] [.code (bodyOf Try.f50)] (start Try.f50 [] 0 [.p (.seq true 1 (v.1) (fun i => [.int .i64 ((v.2 i))])), .p (.seq true 1 (u.1) (fun i => [.int .i64 ((u.2 i))]))]) [] 1 [] (.p (.bool false)) =
    some [(((↑v.fst : Int) != (↑u.fst : Int)) = true),
  (false = false)] := by kernel_rfl

theorem p_ls_l6Same_IntS_a (v u : T_IntS) :
    pieceOb Try.prog 0 [.reg [oT], .reg [oT, oT, oT, oT, oT], .dec false, .reg [oT], .head] [.code (bodyOf Try.f50)] (start Try.f50 [] 0 [.p (.seq true 1 (v.1) (fun i => [.int .i64 ((v.2 i))])), .p (.seq true 1 (u.1) (fun i => [.int .i64 ((u.2 i))]))]) [] 1 (S_ls_l6Same_IntS v u 0) =
    some ([.code (cAt (bodyOf Try.f50) [1, 1, 0, 1, 0, 0]), .inLoop (cAt (bodyOf Try.f50) [1, 1, 0, 1, 0, 0]), .inBlock 0, .code (cAt (bodyOf Try.f50) [1, 1, 1])], [(((↑v.fst : Int) != (↑u.fst : Int)) = false),
  (((v.fst) : Nat) = (v.fst)),
  (∀ i : Nat, ((((i) : Nat) < (v.fst)) → (([.int .i64 (v.snd i)] : List PV) = [.int .i64 (v.snd i)]))),
  (((u.fst) : Nat) = (u.fst)),
  (∀ i : Nat, ((((i) : Nat) < (u.fst)) → (([.int .i64 (u.snd i)] : List PV) = [.int .i64 (u.snd i)]))),
  ((0 : Int) = ((↑0 : Int)))]) := by kernel_rfl

theorem p_ls_l6Same_IntS_b (v u : T_IntS) (k : Nat) :
    pieceOb Try.prog 0 [.reg [oT, oT, oT, oT], .dec true, .reg [oT, oT, oT, oT, oT, oT, oT, oT, oT], .dec false, .reg [oT, oT, oT], .head] [.code (cAt (bodyOf Try.f50) [1, 1, 0, 1, 0, 0]), .inLoop (cAt (bodyOf Try.f50) [1, 1, 0, 1, 0, 0]), .inBlock 0, .code (cAt (bodyOf Try.f50) [1, 1, 1])] (S_ls_l6Same_IntS v u k) [] 1 (S_ls_l6Same_IntS v u (k + 1)) =
    some ([.code (cAt (bodyOf Try.f50) [1, 1, 0, 1, 0, 0]), .inLoop (cAt (bodyOf Try.f50) [1, 1, 0, 1, 0, 0]), .inBlock 0, .code (cAt (bodyOf Try.f50) [1, 1, 1])], [((decide ((↑k : Int) < (↑v.fst : Int))) = true),
  ((0 : Int) ≤ ((↑k : Int))),
  ((((↑k : Int)) : Int) < ((↑v.fst : Int))),
  ((0 : Int) ≤ ((↑k : Int))),
  ((((↑k : Int)) : Int) < ((↑u.fst : Int))),
  ((v.snd k != u.snd k) = false),
  (((-9223372036854775808) : Int) ≤ ((↑k : Int) + 1)),
  ((((↑k : Int) + 1) : Int) ≤ 9223372036854775807),
  (((v.fst) : Nat) = (v.fst)),
  (∀ i : Nat, ((((i) : Nat) < (v.fst)) → (([.int .i64 (v.snd i)] : List PV) = [.int .i64 (v.snd i)]))),
  (((u.fst) : Nat) = (u.fst)),
  (∀ i : Nat, ((((i) : Nat) < (u.fst)) → (([.int .i64 (u.snd i)] : List PV) = [.int .i64 (u.snd i)]))),
  ((((↑k : Int) + 1) : Int) = ((↑(k + 1) : Int)))]) := by kernel_rfl

theorem p_ls_l6Same_IntS_c (v u : T_IntS) (k : Nat) :
    pathOb Try.prog Try.f50 0 [.reg [oT, oT, oT, oT], .dec true, .reg [oT, oT, oT, oT, oT, oT, oT, oT, oT], .dec true, .reg [oT]] [.code (cAt (bodyOf Try.f50) [1, 1, 0, 1, 0, 0]), .inLoop (cAt (bodyOf Try.f50) [1, 1, 0, 1, 0, 0]), .inBlock 0, .code (cAt (bodyOf Try.f50) [1, 1, 1])] (S_ls_l6Same_IntS v u k) [] 1 [] (.p (.bool false)) =
    some [((decide ((↑k : Int) < (↑v.fst : Int))) = true),
  ((0 : Int) ≤ ((↑k : Int))),
  ((((↑k : Int)) : Int) < ((↑v.fst : Int))),
  ((0 : Int) ≤ ((↑k : Int))),
  ((((↑k : Int)) : Int) < ((↑u.fst : Int))),
  ((v.snd k != u.snd k) = true),
  (false = false)] := by kernel_rfl

theorem p_ls_l6Same_IntS_d (v u : T_IntS) (k : Nat) :
    pathOb Try.prog Try.f50 0 [.reg [oT, oT, oT, oT], .dec false, .reg [oT]] [.code (cAt (bodyOf Try.f50) [1, 1, 0, 1, 0, 0]), .inLoop (cAt (bodyOf Try.f50) [1, 1, 0, 1, 0, 0]), .inBlock 0, .code (cAt (bodyOf Try.f50) [1, 1, 1])] (S_ls_l6Same_IntS v u k) [] 1 [] (.p (.bool true)) =
    some [((decide ((↑k : Int) < (↑v.fst : Int))) = false),
  (true = true)] := by kernel_rfl

theorem con_szBarS (v : T_BarS) (k : okS s_BarS v) (m : Int) (h0 : 0 ≤ m) (h1 : m ≤ 1048576) : Con Try.prog 76 0 [] [.p (.seq true 2 (v.1) (fun i => [.int .i64 ((v.2 i).1), .int .i64 ((v.2 i).2.1)])), .p (.int .i64 m)] [] (.p (.int .i64 (f_szBarS v m))) := by
  refine con_start Try.func76 rfl (by kernel_rfl) rfl (fun c hc => ?_)
  have hn := k.1
  by_cases h : m - v.1 < 0
  · rw [show f_szBarS v m = -1 by simp [f_szBarS, h]]
    refine path_ok mixed Try.func76 hc (p_szBarS_a v m) ?_
    simp only [All]
    repeat' (first | exact trivial | with_reducible apply And.intro)
    all_goals (first | omega | rfl | (intros; first | assumption | exact True.intro | rfl | exact absurd (show false = true by assumption) Bool.false_ne_true | ((repeat' (first | assumption | apply anda | apply notf)); done)) | (simp; omega))
  · rw [show f_szBarS v m = m - v.1 by simp [f_szBarS, h]]
    refine path_ok mixed Try.func76 hc (p_szBarS_b v m) ?_
    simp only [All]
    repeat' (first | exact trivial | with_reducible apply And.intro)
    all_goals (first | omega | rfl | (intros; first | assumption | exact True.intro | rfl | exact absurd (show false = true by assumption) Bool.false_ne_true | ((repeat' (first | assumption | apply anda | apply notf)); done)) | (simp; omega))

theorem le_szBarS (v : T_BarS) (m : Int) (h0 : 0 ≤ m) : f_szBarS v m ≤ m := by
  unfold f_szBarS; split <;> omega

theorem sm_szBarS (v : T_BarS) (m : Int) (h1 : m ≤ 1048576) (h : ¬ f_szBarS v m < 0) : smS s_BarS v := by
  unfold f_szBarS at h
  split at h
  · omega
  · exact ⟨by omega, fun i hi => by simp [smS, smL]⟩

theorem con_szGraph (v : T_Graph) (k : okS s_Graph v) (m : Int) (h0 : 0 ≤ m) (h1 : m ≤ 1048576) : Con Try.prog 36 0 [] [.agg [.p (.int .i64 (v.1)), .p (.seq true 2 (v.2.1.1) (fun i => [.int .i64 ((v.2.1.2 i).1), .int .i64 ((v.2.1.2 i).2.1)]))], .p (.int .i64 m)] [] (.p (.int .i64 (f_szGraph v m))) := by
  refine con_start Try.func36 rfl (by kernel_rfl) rfl (fun c hc => ?_)
  have l0 := le_szBarS v.2.1 m (by omega)
  by_cases g0 : (f_szBarS v.2.1 m) < 0
  · rw [show f_szGraph v m = -1 by simp [f_szGraph, g0]]
    refine path_ok mixed Try.func36 hc (p_szGraph_0 v m) ?_
    simp only [All]
    repeat' (first | exact trivial | with_reducible apply And.intro)
    all_goals (first | omega | rfl | (intros; first | assumption | exact True.intro | rfl | exact absurd (show false = true by assumption) Bool.false_ne_true | ((repeat' (first | assumption | apply anda | apply notf)); done)) | (exact con_szBarS v.2.1 k.2.1 m (by omega) (by omega)) | (simp; omega))
  rw [show f_szGraph v m = (f_szBarS v.2.1 m) by simp [f_szGraph, g0]]
  refine path_ok mixed Try.func36 hc (p_szGraph_e v m) ?_
  simp only [All]
  repeat' (first | exact trivial | with_reducible apply And.intro)
  all_goals (first | omega | rfl | (intros; first | assumption | exact True.intro | rfl | exact absurd (show false = true by assumption) Bool.false_ne_true | ((repeat' (first | assumption | apply anda | apply notf)); done)) | (exact con_szBarS v.2.1 k.2.1 m (by omega) (by omega)) | (simp; omega))

theorem le_szGraph (v : T_Graph) (m : Int) (h0 : 0 ≤ m) : f_szGraph v m ≤ m := by
  have l0 := le_szBarS v.2.1 m h0
  by_cases g0 : (f_szBarS v.2.1 m) < 0
  · simp only [f_szGraph, g0, if_true, if_false]; omega
  simp only [f_szGraph, g0, if_false]; omega

theorem sm_szGraph (v : T_Graph) (m : Int) (h0 : 0 ≤ m) (h1 : m ≤ 1048576) (h : ¬ f_szGraph v m < 0) : smS s_Graph v := by
  have l0 := le_szBarS v.2.1 m (by omega)
  have g0 : ¬ (f_szBarS v.2.1 m) < 0 := by
    intro g; apply h; simp only [f_szGraph, g, if_true, if_false]; omega
  exact ⟨by simp [smS, smL], sm_szBarS v.2.1 m (by omega) g0, True.intro⟩

theorem con_szIntS (v : T_IntS) (k : okS s_IntS v) (m : Int) (h0 : 0 ≤ m) (h1 : m ≤ 1048576) : Con Try.prog 60 0 [] [.p (.seq true 1 (v.1) (fun i => [.int .i64 ((v.2 i))])), .p (.int .i64 m)] [] (.p (.int .i64 (f_szIntS v m))) := by
  refine con_start Try.func60 rfl (by kernel_rfl) rfl (fun c hc => ?_)
  have hn := k.1
  by_cases h : m - v.1 < 0
  · rw [show f_szIntS v m = -1 by simp [f_szIntS, h]]
    refine path_ok mixed Try.func60 hc (p_szIntS_a v m) ?_
    simp only [All]
    repeat' (first | exact trivial | with_reducible apply And.intro)
    all_goals (first | omega | rfl | (intros; first | assumption | exact True.intro | rfl | exact absurd (show false = true by assumption) Bool.false_ne_true | ((repeat' (first | assumption | apply anda | apply notf)); done)) | (simp; omega))
  · rw [show f_szIntS v m = m - v.1 by simp [f_szIntS, h]]
    refine path_ok mixed Try.func60 hc (p_szIntS_b v m) ?_
    simp only [All]
    repeat' (first | exact trivial | with_reducible apply And.intro)
    all_goals (first | omega | rfl | (intros; first | assumption | exact True.intro | rfl | exact absurd (show false = true by assumption) Bool.false_ne_true | ((repeat' (first | assumption | apply anda | apply notf)); done)) | (simp; omega))

theorem le_szIntS (v : T_IntS) (m : Int) (h0 : 0 ≤ m) : f_szIntS v m ≤ m := by
  unfold f_szIntS; split <;> omega

theorem sm_szIntS (v : T_IntS) (m : Int) (h1 : m ≤ 1048576) (h : ¬ f_szIntS v m < 0) : smS s_IntS v := by
  unfold f_szIntS at h
  split at h
  · omega
  · exact ⟨by omega, fun i hi => by simp [smS, smL]⟩

theorem con_szPinned (v : T_Pinned) (k : okS s_Pinned v) (m : Int) (h0 : 0 ≤ m) (h1 : m ≤ 1048576) : Con Try.prog 28 0 [] [.agg [.p (.int .i64 (v.1.1)), .p (.seq true 2 (v.1.2.1.1) (fun i => [.int .i64 ((v.1.2.1.2 i).1), .int .i64 ((v.1.2.1.2 i).2.1)])), .p (.seq true 1 (v.2.1.1) (fun i => [.int .i64 ((v.2.1.2 i))]))], .p (.int .i64 m)] [] (.p (.int .i64 (f_szPinned v m))) := by
  refine con_start Try.func28 rfl (by kernel_rfl) rfl (fun c hc => ?_)
  have l0 := le_szGraph v.1 m (by omega)
  by_cases g0 : (f_szGraph v.1 m) < 0
  · rw [show f_szPinned v m = -1 by simp [f_szPinned, g0]]
    refine path_ok mixed Try.func28 hc (p_szPinned_0 v m) ?_
    simp only [All]
    repeat' (first | exact trivial | with_reducible apply And.intro)
    all_goals (first | omega | rfl | (intros; first | assumption | exact True.intro | rfl | exact absurd (show false = true by assumption) Bool.false_ne_true | ((repeat' (first | assumption | apply anda | apply notf)); done)) | (exact con_szGraph v.1 k.1 m (by omega) (by omega)) | (simp; omega))
  have l1 := le_szIntS v.2.1 (f_szGraph v.1 m) (by omega)
  by_cases g1 : (f_szIntS v.2.1 (f_szGraph v.1 m)) < 0
  · rw [show f_szPinned v m = -1 by simp [f_szPinned, g0, g1]]
    refine path_ok mixed Try.func28 hc (p_szPinned_1 v m) ?_
    simp only [All]
    repeat' (first | exact trivial | with_reducible apply And.intro)
    all_goals (first | omega | rfl | (intros; first | assumption | exact True.intro | rfl | exact absurd (show false = true by assumption) Bool.false_ne_true | ((repeat' (first | assumption | apply anda | apply notf)); done)) | (exact con_szGraph v.1 k.1 m (by omega) (by omega)) | (exact con_szIntS v.2.1 k.2.1 (f_szGraph v.1 m) (by omega) (by omega)) | (simp; omega))
  rw [show f_szPinned v m = (f_szIntS v.2.1 (f_szGraph v.1 m)) by simp [f_szPinned, g0, g1]]
  refine path_ok mixed Try.func28 hc (p_szPinned_e v m) ?_
  simp only [All]
  repeat' (first | exact trivial | with_reducible apply And.intro)
  all_goals (first | omega | rfl | (intros; first | assumption | exact True.intro | rfl | exact absurd (show false = true by assumption) Bool.false_ne_true | ((repeat' (first | assumption | apply anda | apply notf)); done)) | (exact con_szGraph v.1 k.1 m (by omega) (by omega)) | (exact con_szIntS v.2.1 k.2.1 (f_szGraph v.1 m) (by omega) (by omega)) | (simp; omega))

theorem le_szPinned (v : T_Pinned) (m : Int) (h0 : 0 ≤ m) : f_szPinned v m ≤ m := by
  have l0 := le_szGraph v.1 m h0
  by_cases g0 : (f_szGraph v.1 m) < 0
  · simp only [f_szPinned, g0, if_true, if_false]; omega
  have l1 := le_szIntS v.2.1 (f_szGraph v.1 m) (by omega)
  by_cases g1 : (f_szIntS v.2.1 (f_szGraph v.1 m)) < 0
  · simp only [f_szPinned, g0, g1, if_true, if_false]; omega
  simp only [f_szPinned, g0, g1, if_false]; omega

theorem sm_szPinned (v : T_Pinned) (m : Int) (h0 : 0 ≤ m) (h1 : m ≤ 1048576) (h : ¬ f_szPinned v m < 0) : smS s_Pinned v := by
  have l0 := le_szGraph v.1 m (by omega)
  have g0 : ¬ (f_szGraph v.1 m) < 0 := by
    intro g; apply h; simp only [f_szPinned, g, if_true, if_false]; omega
  have l1 := le_szIntS v.2.1 (f_szGraph v.1 m) (by omega)
  have g1 : ¬ (f_szIntS v.2.1 (f_szGraph v.1 m)) < 0 := by
    intro g; apply h; simp only [f_szPinned, g0, g, if_true, if_false]; omega
  exact ⟨sm_szGraph v.1 m (by omega) (by omega) g0, sm_szIntS v.2.1 (f_szGraph v.1 m) (by omega) g1, True.intro⟩

theorem con_szStringS (v : T_StringS) (k : okS s_StringS v) (m : Int) (h0 : 0 ≤ m) (h1 : m ≤ 1048576) : Con Try.prog 48 0 [] [.p (.seq true 1 (v.1) (fun i => [.str ((v.2 i))])), .p (.int .i64 m)] [] (.p (.int .i64 (f_szStringS v m))) := by
  refine con_start Try.func48 rfl (by kernel_rfl) rfl (fun c hc => ?_)
  have hn := k.1
  have hz := strSum_nonneg v.2 v.1
  by_cases h : m - v.1 < 0
  · rw [show f_szStringS v m = -1 by simp only [f_szStringS]; rw [if_pos (by omega)]]
    refine path_ok mixed Try.func48 hc (p_szStringS_a v m) ?_
    simp only [All]
    repeat' (first | exact trivial | with_reducible apply And.intro)
    all_goals (first | omega | rfl | (intros; first | assumption | exact True.intro | rfl | exact absurd (show false = true by assumption) Bool.false_ne_true | ((repeat' (first | assumption | apply anda | apply notf)); done)) | (simp; omega))
  have lp : ∀ q j, j + q = v.1 → 0 ≤ m - (v.1 : Int) - strSum v.2 j → Run Try.prog c 48 [.code (cAt (bodyOf Try.f48) [1, 1, 1, 0, 1, 0, 0]), .inLoop (cAt (bodyOf Try.f48) [1, 1, 1, 0, 1, 0, 0]), .inBlock 0, .code (cAt (bodyOf Try.f48) [1, 1, 1, 1])] (S_szStringS v m j) (Post c [] (.p (.int .i64 (f_szStringS v m)))) := by
    intro q
    induction q with
    | zero =>
      intro j hj hp
      obtain rfl : j = v.1 := by omega
      rw [show f_szStringS v m = m - v.1 - strSum v.2 v.1 by simp only [f_szStringS]; rw [if_neg (by omega)]]
      refine path_ok mixed Try.func48 hc (p_szStringS_e v m _) ?_
      simp only [All]
      repeat' (first | exact trivial | with_reducible apply And.intro)
      all_goals (first | omega | rfl | (intros; first | assumption | exact True.intro | rfl | exact absurd (show false = true by assumption) Bool.false_ne_true | ((repeat' (first | assumption | apply anda | apply notf)); done)) | (simp; try omega))
    | succ q ih =>
      intro j hj hp
      have hlt : decide ((j : Int) < (v.1 : Int)) = true := by simp; omega
      have hs := k.2 j (by omega)
      have hz' := strSum_nonneg v.2 j
      simp only [okS] at hs
      have hsn : strSum v.2 (j + 1) = strSum v.2 j + (v.2 j).size := rfl
      by_cases hd : m - (v.1 : Int) - strSum v.2 (j + 1) < 0
      · have hm := strSum_mono v.2 (j + 1) v.1 (by omega)
        rw [show f_szStringS v m = -1 by simp only [f_szStringS]; rw [if_pos (by omega)]]
        refine path_ok mixed Try.func48 hc (p_szStringS_d v m j) ?_
        simp only [All]
        repeat' (first | exact trivial | with_reducible apply And.intro)
        all_goals (first | omega | rfl | (intros; first | assumption | exact True.intro | rfl | exact absurd (show false = true by assumption) Bool.false_ne_true | ((repeat' (first | assumption | apply anda | apply notf)); done)) | (simp; omega))
      · refine piece_ok mixed hc (p_szStringS_c v m j) ?_ (ih (j + 1) (by omega) (by omega))
        simp only [All]
        repeat' (first | exact trivial | with_reducible apply And.intro)
        all_goals (first | omega | rfl | (intros; first | assumption | exact True.intro | rfl | exact absurd (show false = true by assumption) Bool.false_ne_true | ((repeat' (first | assumption | apply anda | apply notf)); done)) | (simp; try omega) | (simp only [hsn]; omega))
  refine piece_ok mixed hc (p_szStringS_b v m) ?_ (lp v.1 0 (by omega) (by simp only [strSum]; omega))
  simp only [All]
  repeat' (first | exact trivial | with_reducible apply And.intro)
  all_goals (first | omega | rfl | (intros; first | assumption | exact True.intro | rfl | exact absurd (show false = true by assumption) Bool.false_ne_true | ((repeat' (first | assumption | apply anda | apply notf)); done)) | (simp only [strSum]; omega) | (simp; omega))

theorem le_szStringS (v : T_StringS) (m : Int) (h0 : 0 ≤ m) : f_szStringS v m ≤ m := by
  have := strSum_nonneg v.2 v.1
  unfold f_szStringS; split <;> omega

theorem sm_szStringS (v : T_StringS) (m : Int) (h1 : m ≤ 1048576) (h : ¬ f_szStringS v m < 0) : smS s_StringS v := by
  have hz := strSum_nonneg v.2 v.1
  unfold f_szStringS at h
  split at h
  · omega
  · exact ⟨by omega, fun i hi => by have := strSum_le v.2 v.1 i hi; simp only [smS]; omega⟩

theorem con_szSite (v : T_Site) (k : okS s_Site v) (m : Int) (h0 : 0 ≤ m) (h1 : m ≤ 1048576) : Con Try.prog 16 0 [] [.agg [.p (.int .i64 (v.1.1.1)), .p (.seq true 2 (v.1.1.2.1.1) (fun i => [.int .i64 ((v.1.1.2.1.2 i).1), .int .i64 ((v.1.1.2.1.2 i).2.1)])), .p (.seq true 1 (v.1.2.1.1) (fun i => [.int .i64 ((v.1.2.1.2 i))])), .p (.seq true 1 (v.2.1.1) (fun i => [.str ((v.2.1.2 i))]))], .p (.int .i64 m)] [] (.p (.int .i64 (f_szSite v m))) := by
  refine con_start Try.func16 rfl (by kernel_rfl) rfl (fun c hc => ?_)
  have l0 := le_szPinned v.1 m (by omega)
  by_cases g0 : (f_szPinned v.1 m) < 0
  · rw [show f_szSite v m = -1 by simp [f_szSite, g0]]
    refine path_ok mixed Try.func16 hc (p_szSite_0 v m) ?_
    simp only [All]
    repeat' (first | exact trivial | with_reducible apply And.intro)
    all_goals (first | omega | rfl | (intros; first | assumption | exact True.intro | rfl | exact absurd (show false = true by assumption) Bool.false_ne_true | ((repeat' (first | assumption | apply anda | apply notf)); done)) | (exact con_szPinned v.1 k.1 m (by omega) (by omega)) | (simp; omega))
  have l1 := le_szStringS v.2.1 (f_szPinned v.1 m) (by omega)
  by_cases g1 : (f_szStringS v.2.1 (f_szPinned v.1 m)) < 0
  · rw [show f_szSite v m = -1 by simp [f_szSite, g0, g1]]
    refine path_ok mixed Try.func16 hc (p_szSite_1 v m) ?_
    simp only [All]
    repeat' (first | exact trivial | with_reducible apply And.intro)
    all_goals (first | omega | rfl | (intros; first | assumption | exact True.intro | rfl | exact absurd (show false = true by assumption) Bool.false_ne_true | ((repeat' (first | assumption | apply anda | apply notf)); done)) | (exact con_szPinned v.1 k.1 m (by omega) (by omega)) | (exact con_szStringS v.2.1 k.2.1 (f_szPinned v.1 m) (by omega) (by omega)) | (simp; omega))
  rw [show f_szSite v m = (f_szStringS v.2.1 (f_szPinned v.1 m)) by simp [f_szSite, g0, g1]]
  refine path_ok mixed Try.func16 hc (p_szSite_e v m) ?_
  simp only [All]
  repeat' (first | exact trivial | with_reducible apply And.intro)
  all_goals (first | omega | rfl | (intros; first | assumption | exact True.intro | rfl | exact absurd (show false = true by assumption) Bool.false_ne_true | ((repeat' (first | assumption | apply anda | apply notf)); done)) | (exact con_szPinned v.1 k.1 m (by omega) (by omega)) | (exact con_szStringS v.2.1 k.2.1 (f_szPinned v.1 m) (by omega) (by omega)) | (simp; omega))

theorem le_szSite (v : T_Site) (m : Int) (h0 : 0 ≤ m) : f_szSite v m ≤ m := by
  have l0 := le_szPinned v.1 m h0
  by_cases g0 : (f_szPinned v.1 m) < 0
  · simp only [f_szSite, g0, if_true, if_false]; omega
  have l1 := le_szStringS v.2.1 (f_szPinned v.1 m) (by omega)
  by_cases g1 : (f_szStringS v.2.1 (f_szPinned v.1 m)) < 0
  · simp only [f_szSite, g0, g1, if_true, if_false]; omega
  simp only [f_szSite, g0, g1, if_false]; omega

theorem sm_szSite (v : T_Site) (m : Int) (h0 : 0 ≤ m) (h1 : m ≤ 1048576) (h : ¬ f_szSite v m < 0) : smS s_Site v := by
  have l0 := le_szPinned v.1 m (by omega)
  have g0 : ¬ (f_szPinned v.1 m) < 0 := by
    intro g; apply h; simp only [f_szSite, g, if_true, if_false]; omega
  have l1 := le_szStringS v.2.1 (f_szPinned v.1 m) (by omega)
  have g1 : ¬ (f_szStringS v.2.1 (f_szPinned v.1 m)) < 0 := by
    intro g; apply h; simp only [f_szSite, g0, g, if_true, if_false]; omega
  exact ⟨sm_szPinned v.1 m (by omega) (by omega) g0, sm_szStringS v.2.1 (f_szPinned v.1 m) (by omega) g1, True.intro⟩

theorem con_toBar (v : T_Bar) (hs : smS s_Bar v) : Con Try.prog 107 0 [] [.agg [.p (.int .i64 (v.1)), .p (.int .i64 (v.2.1))]] [] (.agg [.p (.int .i64 (v.1)), .p (.int .i64 (v.2.1))]) := by
  refine con_start Try.func107 rfl (by kernel_rfl) rfl (fun c hc => ?_)
  refine path_ok mixed Try.func107 hc (p_toBar v) ?_
  simp only [All]
  repeat' (first | exact trivial | with_reducible apply And.intro)
  all_goals (first | omega | rfl | (intros; first | assumption | exact True.intro | rfl | exact absurd (show false = true by assumption) Bool.false_ne_true | ((repeat' (first | assumption | apply anda | apply notf)); done)) | (intro i hi; simp [hi, All]))

theorem con_toBarS (v : T_BarS) (hs : smS s_BarS v) : Con Try.prog 78 0 [] [.p (.seq true 2 (v.1) (fun i => [.int .i64 ((v.2 i).1), .int .i64 ((v.2 i).2.1)]))] [(0, ⟨false, 2, v.1, fun i => [.p (.int .i64 ((v.2 i).1)), .p (.int .i64 ((v.2 i).2.1))]⟩)] (.ar 2 0 0 (v.1)) := by
  refine con_start Try.func78 rfl (by kernel_rfl) rfl (fun c hc => ?_)
  have hn := hs.1
  have lp : ∀ m k, k + m = v.1 → Run Try.prog c 78 [.code (cAt (bodyOf Try.f78) [1, 1, 0, 1, 0, 0]), .inLoop (cAt (bodyOf Try.f78) [1, 1, 0, 1, 0, 0]), .inBlock 0, .code (cAt (bodyOf Try.f78) [1, 1, 1])] (S_toBarS v k) (Post c [(0, ⟨false, 2, v.1, fun i => [.p (.int .i64 ((v.2 i).1)), .p (.int .i64 ((v.2 i).2.1))]⟩)] (.ar 2 0 0 (v.1))) := by
    intro m
    induction m with
    | zero =>
      intro k hk
      refine path_ok mixed Try.func78 hc (p_toBarS_c v k) ?_
      simp only [All]
      repeat' (first | exact trivial | with_reducible apply And.intro)
      all_goals (first | omega | rfl | (intros; first | assumption | exact True.intro | rfl | exact absurd (show false = true by assumption) Bool.false_ne_true | ((repeat' (first | assumption | apply anda | apply notf)); done)) | (intro i hi; (have hik : i < k := by omega); simp [hik, All]) | (simp; try omega))
    | succ m ih =>
      intro k hk
      have hlt : decide ((k : Int) < (v.1 : Int)) = true := by simp; omega
      refine piece_ok mixed hc (p_toBarS_b v k) ?_ (ih (k + 1) (by omega))
      simp only [All]
      repeat' (first | exact trivial | with_reducible apply And.intro)
      all_goals (first | omega | rfl | (intros; first | assumption | exact True.intro | rfl | exact absurd (show false = true by assumption) Bool.false_ne_true | ((repeat' (first | assumption | apply anda | apply notf)); done)) | (exact con_toBar (v.2 k) (hs.2 k (by omega))) | (intro i hi; by_cases h : i = k <;> simp [h, Nat.lt_succ_iff_lt_or_eq, cvtL, cvt, tg, tru, All]))
  refine piece_ok mixed hc (p_toBarS_a v) ?_ (lp v.1 0 (by omega))
  simp only [All]
  repeat' (first | exact trivial | with_reducible apply And.intro)
  all_goals (first | omega | rfl | (intros; first | assumption | exact True.intro | rfl | exact absurd (show false = true by assumption) Bool.false_ne_true | ((repeat' (first | assumption | apply anda | apply notf)); done)) | (intro i hi; simp [All]))

theorem con_toGraph (v : T_Graph) (hs : smS s_Graph v) : Con Try.prog 38 0 [] [.agg [.p (.int .i64 (v.1)), .p (.seq true 2 (v.2.1.1) (fun i => [.int .i64 ((v.2.1.2 i).1), .int .i64 ((v.2.1.2 i).2.1)]))]] [(0, ⟨false, 2, v.2.1.1, fun i => [.p (.int .i64 ((v.2.1.2 i).1)), .p (.int .i64 ((v.2.1.2 i).2.1))]⟩)] (.agg [.p (.int .i64 (v.1)), .ar 2 0 0 (v.2.1.1)]) := by
  refine con_start Try.func38 rfl (by kernel_rfl) rfl (fun c hc => ?_)
  refine path_ok mixed Try.func38 hc (p_toGraph v) ?_
  simp only [All]
  repeat' (first | exact trivial | with_reducible apply And.intro)
  all_goals (first | omega | rfl | (intros; first | assumption | exact True.intro | rfl | exact absurd (show false = true by assumption) Bool.false_ne_true | ((repeat' (first | assumption | apply anda | apply notf)); done)) | (exact con_toBarS v.2.1 hs.2.1) | (intro i hi; simp [hi, All]))

theorem con_toIntS (v : T_IntS) (hs : smS s_IntS v) : Con Try.prog 12 0 [] [.p (.seq true 1 (v.1) (fun i => [.int .i64 ((v.2 i))]))] [(0, ⟨false, 1, v.1, fun i => [.p (.int .i64 ((v.2 i)))]⟩)] (.ar 1 0 0 (v.1)) := by
  refine con_start Try.func12 rfl (by kernel_rfl) rfl (fun c hc => ?_)
  have hn := hs.1
  have lp : ∀ m k, k + m = v.1 → Run Try.prog c 12 [.code (cAt (bodyOf Try.f12) [1, 1, 0, 1, 0, 0]), .inLoop (cAt (bodyOf Try.f12) [1, 1, 0, 1, 0, 0]), .inBlock 0, .code (cAt (bodyOf Try.f12) [1, 1, 1])] (S_toIntS v k) (Post c [(0, ⟨false, 1, v.1, fun i => [.p (.int .i64 ((v.2 i)))]⟩)] (.ar 1 0 0 (v.1))) := by
    intro m
    induction m with
    | zero =>
      intro k hk
      refine path_ok mixed Try.func12 hc (p_toIntS_c v k) ?_
      simp only [All]
      repeat' (first | exact trivial | with_reducible apply And.intro)
      all_goals (first | omega | rfl | (intros; first | assumption | exact True.intro | rfl | exact absurd (show false = true by assumption) Bool.false_ne_true | ((repeat' (first | assumption | apply anda | apply notf)); done)) | (intro i hi; (have hik : i < k := by omega); simp [hik, All]) | (simp; try omega))
    | succ m ih =>
      intro k hk
      have hlt : decide ((k : Int) < (v.1 : Int)) = true := by simp; omega
      refine piece_ok mixed hc (p_toIntS_b v k) ?_ (ih (k + 1) (by omega))
      simp only [All]
      repeat' (first | exact trivial | with_reducible apply And.intro)
      all_goals (first | omega | rfl | (intros; first | assumption | exact True.intro | rfl | exact absurd (show false = true by assumption) Bool.false_ne_true | ((repeat' (first | assumption | apply anda | apply notf)); done)) | (intro i hi; by_cases h : i = k <;> simp [h, Nat.lt_succ_iff_lt_or_eq, cvtL, cvt, tg, tru, All]))
  refine piece_ok mixed hc (p_toIntS_a v) ?_ (lp v.1 0 (by omega))
  simp only [All]
  repeat' (first | exact trivial | with_reducible apply And.intro)
  all_goals (first | omega | rfl | (intros; first | assumption | exact True.intro | rfl | exact absurd (show false = true by assumption) Bool.false_ne_true | ((repeat' (first | assumption | apply anda | apply notf)); done)) | (intro i hi; simp [All]))

theorem con_toPinned (v : T_Pinned) (hs : smS s_Pinned v) : Con Try.prog 30 0 [] [.agg [.p (.int .i64 (v.1.1)), .p (.seq true 2 (v.1.2.1.1) (fun i => [.int .i64 ((v.1.2.1.2 i).1), .int .i64 ((v.1.2.1.2 i).2.1)])), .p (.seq true 1 (v.2.1.1) (fun i => [.int .i64 ((v.2.1.2 i))]))]] [(0, ⟨false, 2, v.1.2.1.1, fun i => [.p (.int .i64 ((v.1.2.1.2 i).1)), .p (.int .i64 ((v.1.2.1.2 i).2.1))]⟩), (1, ⟨false, 1, v.2.1.1, fun i => [.p (.int .i64 ((v.2.1.2 i)))]⟩)] (.agg [.p (.int .i64 (v.1.1)), .ar 2 0 0 (v.1.2.1.1), .ar 1 1 0 (v.2.1.1)]) := by
  refine con_start Try.func30 rfl (by kernel_rfl) rfl (fun c hc => ?_)
  refine path_ok mixed Try.func30 hc (p_toPinned v) ?_
  simp only [All]
  repeat' (first | exact trivial | with_reducible apply And.intro)
  all_goals (first | omega | rfl | (intros; first | assumption | exact True.intro | rfl | exact absurd (show false = true by assumption) Bool.false_ne_true | ((repeat' (first | assumption | apply anda | apply notf)); done)) | (exact con_toGraph v.1 hs.1) | (exact con_toIntS v.2.1 hs.2.1) | (intro i hi; simp [hi, All]))

theorem con_toStringS (v : T_StringS) (hs : smS s_StringS v) : Con Try.prog 51 0 [] [.p (.seq true 1 (v.1) (fun i => [.str ((v.2 i))]))] [(0, ⟨false, 1, v.1, fun i => [.p (.str ((v.2 i)))]⟩)] (.ar 1 0 0 (v.1)) := by
  refine con_start Try.func51 rfl (by kernel_rfl) rfl (fun c hc => ?_)
  have hn := hs.1
  have lp : ∀ m k, k + m = v.1 → Run Try.prog c 51 [.code (cAt (bodyOf Try.f51) [1, 1, 0, 1, 0, 0]), .inLoop (cAt (bodyOf Try.f51) [1, 1, 0, 1, 0, 0]), .inBlock 0, .code (cAt (bodyOf Try.f51) [1, 1, 1])] (S_toStringS v k) (Post c [(0, ⟨false, 1, v.1, fun i => [.p (.str ((v.2 i)))]⟩)] (.ar 1 0 0 (v.1))) := by
    intro m
    induction m with
    | zero =>
      intro k hk
      refine path_ok mixed Try.func51 hc (p_toStringS_c v k) ?_
      simp only [All]
      repeat' (first | exact trivial | with_reducible apply And.intro)
      all_goals (first | omega | rfl | (intros; first | assumption | exact True.intro | rfl | exact absurd (show false = true by assumption) Bool.false_ne_true | ((repeat' (first | assumption | apply anda | apply notf)); done)) | (intro i hi; (have hik : i < k := by omega); simp [hik, All]) | (simp; try omega))
    | succ m ih =>
      intro k hk
      have hlt : decide ((k : Int) < (v.1 : Int)) = true := by simp; omega
      refine piece_ok mixed hc (p_toStringS_b v k) ?_ (ih (k + 1) (by omega))
      simp only [All]
      repeat' (first | exact trivial | with_reducible apply And.intro)
      all_goals (first | omega | rfl | (intros; first | assumption | exact True.intro | rfl | exact absurd (show false = true by assumption) Bool.false_ne_true | ((repeat' (first | assumption | apply anda | apply notf)); done)) | (intro i hi; by_cases h : i = k <;> simp [h, Nat.lt_succ_iff_lt_or_eq, cvtL, cvt, tg, tru, All]))
  refine piece_ok mixed hc (p_toStringS_a v) ?_ (lp v.1 0 (by omega))
  simp only [All]
  repeat' (first | exact trivial | with_reducible apply And.intro)
  all_goals (first | omega | rfl | (intros; first | assumption | exact True.intro | rfl | exact absurd (show false = true by assumption) Bool.false_ne_true | ((repeat' (first | assumption | apply anda | apply notf)); done)) | (intro i hi; simp [All]))

theorem con_toSite (v : T_Site) (hs : smS s_Site v) : Con Try.prog 18 0 [] [.agg [.p (.int .i64 (v.1.1.1)), .p (.seq true 2 (v.1.1.2.1.1) (fun i => [.int .i64 ((v.1.1.2.1.2 i).1), .int .i64 ((v.1.1.2.1.2 i).2.1)])), .p (.seq true 1 (v.1.2.1.1) (fun i => [.int .i64 ((v.1.2.1.2 i))])), .p (.seq true 1 (v.2.1.1) (fun i => [.str ((v.2.1.2 i))]))]] [(0, ⟨false, 2, v.1.1.2.1.1, fun i => [.p (.int .i64 ((v.1.1.2.1.2 i).1)), .p (.int .i64 ((v.1.1.2.1.2 i).2.1))]⟩), (1, ⟨false, 1, v.1.2.1.1, fun i => [.p (.int .i64 ((v.1.2.1.2 i)))]⟩), (2, ⟨false, 1, v.2.1.1, fun i => [.p (.str ((v.2.1.2 i)))]⟩)] (.agg [.p (.int .i64 (v.1.1.1)), .ar 2 0 0 (v.1.1.2.1.1), .ar 1 1 0 (v.1.2.1.1), .ar 1 2 0 (v.2.1.1)]) := by
  refine con_start Try.func18 rfl (by kernel_rfl) rfl (fun c hc => ?_)
  refine path_ok mixed Try.func18 hc (p_toSite v) ?_
  simp only [All]
  repeat' (first | exact trivial | with_reducible apply And.intro)
  all_goals (first | omega | rfl | (intros; first | assumption | exact True.intro | rfl | exact absurd (show false = true by assumption) Bool.false_ne_true | ((repeat' (first | assumption | apply anda | apply notf)); done)) | (exact con_toPinned v.1 hs.1) | (exact con_toStringS v.2.1 hs.2.1) | (intro i hi; simp [hi, All]))

theorem con_eqBar (v : T_Bar) (hs : smS s_Bar v) : Con Try.prog 109 0 [] [.agg [.p (.int .i64 (v.1)), .p (.int .i64 (v.2.1))], .agg [.p (.int .i64 (v.1)), .p (.int .i64 (v.2.1))]] [] (.p (.bool true)) := by
  refine con_start Try.func109 rfl (by kernel_rfl) rfl (fun c hc => ?_)
  refine path_ok mixed Try.func109 hc (p_eqBar v) ?_
  simp only [All]
  repeat' (first | exact trivial | with_reducible apply And.intro)
  all_goals (first | omega | rfl | (intros; first | assumption | exact True.intro | rfl | exact absurd (show false = true by assumption) Bool.false_ne_true | ((repeat' (first | assumption | apply anda | apply notf)); done)) | simp)

theorem con_eqBarS (v : T_BarS) (hs : smS s_BarS v) : Con Try.prog 80 0 [] [.p (.seq true 2 (v.1) (fun i => [.int .i64 ((v.2 i).1), .int .i64 ((v.2 i).2.1)])), .p (.seq true 2 (v.1) (fun i => [.int .i64 ((v.2 i).1), .int .i64 ((v.2 i).2.1)]))] [] (.p (.bool true)) := by
  refine con_start Try.func80 rfl (by kernel_rfl) rfl (fun c hc => ?_)
  have hn := hs.1
  have lp : ∀ m k, k + m = v.1 → Run Try.prog c 80 [.code (cAt (bodyOf Try.f80) [1, 1, 0, 1, 0, 0]), .inLoop (cAt (bodyOf Try.f80) [1, 1, 0, 1, 0, 0]), .inBlock 0, .code (cAt (bodyOf Try.f80) [1, 1, 1])] (S_eqBarS v k) (Post c [] (.p (.bool true))) := by
    intro m
    induction m with
    | zero =>
      intro k hk
      refine path_ok mixed Try.func80 hc (p_eqBarS_c v k) ?_
      simp only [All]
      repeat' (first | exact trivial | with_reducible apply And.intro)
      all_goals (first | omega | rfl | (intros; first | assumption | exact True.intro | rfl | exact absurd (show false = true by assumption) Bool.false_ne_true | ((repeat' (first | assumption | apply anda | apply notf)); done)) | (simp; try omega))
    | succ m ih =>
      intro k hk
      have hlt : decide ((k : Int) < (v.1 : Int)) = true := by simp; omega
      refine piece_ok mixed hc (p_eqBarS_b v k) ?_ (ih (k + 1) (by omega))
      simp only [All]
      repeat' (first | exact trivial | with_reducible apply And.intro)
      all_goals (first | omega | rfl | (intros; first | assumption | exact True.intro | rfl | exact absurd (show false = true by assumption) Bool.false_ne_true | ((repeat' (first | assumption | apply anda | apply notf)); done)) | (exact con_eqBar (v.2 k) (hs.2 k (by omega))) | simp)
  refine piece_ok mixed hc (p_eqBarS_a v) ?_ (lp v.1 0 (by omega))
  simp only [All]
  repeat' (first | exact trivial | with_reducible apply And.intro)
  all_goals (first | omega | rfl | (intros; first | assumption | exact True.intro | rfl | exact absurd (show false = true by assumption) Bool.false_ne_true | ((repeat' (first | assumption | apply anda | apply notf)); done)) | simp)

theorem con_eqGraph (v : T_Graph) (hs : smS s_Graph v) : Con Try.prog 40 0 [] [.agg [.p (.int .i64 (v.1)), .p (.seq true 2 (v.2.1.1) (fun i => [.int .i64 ((v.2.1.2 i).1), .int .i64 ((v.2.1.2 i).2.1)]))], .agg [.p (.int .i64 (v.1)), .p (.seq true 2 (v.2.1.1) (fun i => [.int .i64 ((v.2.1.2 i).1), .int .i64 ((v.2.1.2 i).2.1)]))]] [] (.p (.bool true)) := by
  refine con_start Try.func40 rfl (by kernel_rfl) rfl (fun c hc => ?_)
  refine path_ok mixed Try.func40 hc (p_eqGraph v) ?_
  simp only [All]
  repeat' (first | exact trivial | with_reducible apply And.intro)
  all_goals (first | omega | rfl | (intros; first | assumption | exact True.intro | rfl | exact absurd (show false = true by assumption) Bool.false_ne_true | ((repeat' (first | assumption | apply anda | apply notf)); done)) | (exact con_eqBarS v.2.1 hs.2.1) | simp)

theorem con_eqIntS (v : T_IntS) (hs : smS s_IntS v) : Con Try.prog 15 0 [] [.p (.seq true 1 (v.1) (fun i => [.int .i64 ((v.2 i))])), .p (.seq true 1 (v.1) (fun i => [.int .i64 ((v.2 i))]))] [] (.p (.bool true)) := by
  refine con_start Try.func15 rfl (by kernel_rfl) rfl (fun c hc => ?_)
  have hn := hs.1
  have lp : ∀ m k, k + m = v.1 → Run Try.prog c 15 [.code (cAt (bodyOf Try.f15) [1, 1, 0, 1, 0, 0]), .inLoop (cAt (bodyOf Try.f15) [1, 1, 0, 1, 0, 0]), .inBlock 0, .code (cAt (bodyOf Try.f15) [1, 1, 1])] (S_eqIntS v k) (Post c [] (.p (.bool true))) := by
    intro m
    induction m with
    | zero =>
      intro k hk
      refine path_ok mixed Try.func15 hc (p_eqIntS_c v k) ?_
      simp only [All]
      repeat' (first | exact trivial | with_reducible apply And.intro)
      all_goals (first | omega | rfl | (intros; first | assumption | exact True.intro | rfl | exact absurd (show false = true by assumption) Bool.false_ne_true | ((repeat' (first | assumption | apply anda | apply notf)); done)) | (simp; try omega))
    | succ m ih =>
      intro k hk
      have hlt : decide ((k : Int) < (v.1 : Int)) = true := by simp; omega
      refine piece_ok mixed hc (p_eqIntS_b v k) ?_ (ih (k + 1) (by omega))
      simp only [All]
      repeat' (first | exact trivial | with_reducible apply And.intro)
      all_goals (first | omega | rfl | (intros; first | assumption | exact True.intro | rfl | exact absurd (show false = true by assumption) Bool.false_ne_true | ((repeat' (first | assumption | apply anda | apply notf)); done)) | simp)
  refine piece_ok mixed hc (p_eqIntS_a v) ?_ (lp v.1 0 (by omega))
  simp only [All]
  repeat' (first | exact trivial | with_reducible apply And.intro)
  all_goals (first | omega | rfl | (intros; first | assumption | exact True.intro | rfl | exact absurd (show false = true by assumption) Bool.false_ne_true | ((repeat' (first | assumption | apply anda | apply notf)); done)) | simp)

theorem con_eqPinned (v : T_Pinned) (hs : smS s_Pinned v) : Con Try.prog 32 0 [] [.agg [.p (.int .i64 (v.1.1)), .p (.seq true 2 (v.1.2.1.1) (fun i => [.int .i64 ((v.1.2.1.2 i).1), .int .i64 ((v.1.2.1.2 i).2.1)])), .p (.seq true 1 (v.2.1.1) (fun i => [.int .i64 ((v.2.1.2 i))]))], .agg [.p (.int .i64 (v.1.1)), .p (.seq true 2 (v.1.2.1.1) (fun i => [.int .i64 ((v.1.2.1.2 i).1), .int .i64 ((v.1.2.1.2 i).2.1)])), .p (.seq true 1 (v.2.1.1) (fun i => [.int .i64 ((v.2.1.2 i))]))]] [] (.p (.bool true)) := by
  refine con_start Try.func32 rfl (by kernel_rfl) rfl (fun c hc => ?_)
  refine path_ok mixed Try.func32 hc (p_eqPinned v) ?_
  simp only [All]
  repeat' (first | exact trivial | with_reducible apply And.intro)
  all_goals (first | omega | rfl | (intros; first | assumption | exact True.intro | rfl | exact absurd (show false = true by assumption) Bool.false_ne_true | ((repeat' (first | assumption | apply anda | apply notf)); done)) | (exact con_eqGraph v.1 hs.1) | (exact con_eqIntS v.2.1 hs.2.1) | simp)

theorem con_eqStringS (v : T_StringS) (hs : smS s_StringS v) : Con Try.prog 55 0 [] [.p (.seq true 1 (v.1) (fun i => [.str ((v.2 i))])), .p (.seq true 1 (v.1) (fun i => [.str ((v.2 i))]))] [] (.p (.bool true)) := by
  refine con_start Try.func55 rfl (by kernel_rfl) rfl (fun c hc => ?_)
  have hn := hs.1
  have lp : ∀ m k, k + m = v.1 → Run Try.prog c 55 [.code (cAt (bodyOf Try.f55) [1, 1, 0, 1, 0, 0]), .inLoop (cAt (bodyOf Try.f55) [1, 1, 0, 1, 0, 0]), .inBlock 0, .code (cAt (bodyOf Try.f55) [1, 1, 1])] (S_eqStringS v k) (Post c [] (.p (.bool true))) := by
    intro m
    induction m with
    | zero =>
      intro k hk
      refine path_ok mixed Try.func55 hc (p_eqStringS_c v k) ?_
      simp only [All]
      repeat' (first | exact trivial | with_reducible apply And.intro)
      all_goals (first | omega | rfl | (intros; first | assumption | exact True.intro | rfl | exact absurd (show false = true by assumption) Bool.false_ne_true | ((repeat' (first | assumption | apply anda | apply notf)); done)) | (simp; try omega))
    | succ m ih =>
      intro k hk
      have hlt : decide ((k : Int) < (v.1 : Int)) = true := by simp; omega
      refine piece_ok mixed hc (p_eqStringS_b v k) ?_ (ih (k + 1) (by omega))
      simp only [All]
      repeat' (first | exact trivial | with_reducible apply And.intro)
      all_goals (first | omega | rfl | (intros; first | assumption | exact True.intro | rfl | exact absurd (show false = true by assumption) Bool.false_ne_true | ((repeat' (first | assumption | apply anda | apply notf)); done)) | simp)
  refine piece_ok mixed hc (p_eqStringS_a v) ?_ (lp v.1 0 (by omega))
  simp only [All]
  repeat' (first | exact trivial | with_reducible apply And.intro)
  all_goals (first | omega | rfl | (intros; first | assumption | exact True.intro | rfl | exact absurd (show false = true by assumption) Bool.false_ne_true | ((repeat' (first | assumption | apply anda | apply notf)); done)) | simp)

theorem con_eqSite (v : T_Site) (hs : smS s_Site v) : Con Try.prog 20 0 [] [.agg [.p (.int .i64 (v.1.1.1)), .p (.seq true 2 (v.1.1.2.1.1) (fun i => [.int .i64 ((v.1.1.2.1.2 i).1), .int .i64 ((v.1.1.2.1.2 i).2.1)])), .p (.seq true 1 (v.1.2.1.1) (fun i => [.int .i64 ((v.1.2.1.2 i))])), .p (.seq true 1 (v.2.1.1) (fun i => [.str ((v.2.1.2 i))]))], .agg [.p (.int .i64 (v.1.1.1)), .p (.seq true 2 (v.1.1.2.1.1) (fun i => [.int .i64 ((v.1.1.2.1.2 i).1), .int .i64 ((v.1.1.2.1.2 i).2.1)])), .p (.seq true 1 (v.1.2.1.1) (fun i => [.int .i64 ((v.1.2.1.2 i))])), .p (.seq true 1 (v.2.1.1) (fun i => [.str ((v.2.1.2 i))]))]] [] (.p (.bool true)) := by
  refine con_start Try.func20 rfl (by kernel_rfl) rfl (fun c hc => ?_)
  refine path_ok mixed Try.func20 hc (p_eqSite v) ?_
  simp only [All]
  repeat' (first | exact trivial | with_reducible apply And.intro)
  all_goals (first | omega | rfl | (intros; first | assumption | exact True.intro | rfl | exact absurd (show false = true by assumption) Bool.false_ne_true | ((repeat' (first | assumption | apply anda | apply notf)); done)) | (exact con_eqPinned v.1 hs.1) | (exact con_eqStringS v.2.1 hs.2.1) | simp)

theorem qT_BarS_bad (g h : Nat → T_Bar) (k : Nat) (e : q1_BarS (g k) (h k) = false) : ∀ n, k < n → qT_BarS g h n = false
  | 0, h' => by omega
  | n + 1, h' => by
    by_cases e' : k = n
    · subst e'; simp [qT_BarS, e]
    · simp [qT_BarS, qT_BarS_bad g h k e n (by omega)]

theorem con_seBarS (v u : T_BarS) (hv : v.1 ≤ 1048576) : Con Try.prog 84 0 [] [.p (.seq true 2 (v.1) (fun i => [.int .i64 ((v.2 i).1), .int .i64 ((v.2 i).2.1)])), .p (.seq true 2 (u.1) (fun i => [.int .i64 ((u.2 i).1), .int .i64 ((u.2 i).2.1)]))] [] (.p (.bool (q_BarS v u))) := by
  refine con_start Try.func84 rfl (by kernel_rfl) rfl (fun c hc => ?_)
  by_cases hz : v.1 = u.1
  · rw [show q_BarS v u = qT_BarS v.2 u.2 v.1 by simp [q_BarS, hz]]
    have lp : ∀ m k, k + m = v.1 → qT_BarS v.2 u.2 k = true → Run Try.prog c 84 [.code (cAt (bodyOf Try.f84) [1, 1, 0, 1, 0, 0]), .inLoop (cAt (bodyOf Try.f84) [1, 1, 0, 1, 0, 0]), .inBlock 0, .code (cAt (bodyOf Try.f84) [1, 1, 1])] (S_seBarS v u k) (Post c [] (.p (.bool (qT_BarS v.2 u.2 v.1)))) := by
      intro m
      induction m with
      | zero =>
        intro k hk hg
        rw [show qT_BarS v.2 u.2 v.1 = true by rw [show v.1 = k by omega]; exact hg]
        have hd : decide ((k : Int) < (v.1 : Int)) = false := by simp; omega
        refine path_ok mixed Try.func84 hc (p_seBarS_d v u k) ?_
        simp only [All]
        repeat' (first | exact trivial | with_reducible apply And.intro)
        all_goals (first | omega | rfl | (intros; first | assumption | exact True.intro | rfl | exact absurd (show false = true by assumption) Bool.false_ne_true | ((repeat' (first | assumption | apply anda | apply notf)); done)))
      | succ m ih =>
        intro k hk hg
        have hd : decide ((k : Int) < (v.1 : Int)) = true := by simp; omega
        cases he : q1_BarS (v.2 k) (u.2 k) with
        | false =>
          rw [qT_BarS_bad _ _ k he v.1 (by omega)]
          have he' : (!q1_BarS (v.2 k) (u.2 k)) = true := notf he
          refine path_ok mixed Try.func84 hc (p_seBarS_c v u k) ?_
          simp only [All]
          repeat' (first | exact trivial | with_reducible apply And.intro)
          all_goals (first | omega | rfl | (intros; first | assumption | exact True.intro | rfl | exact absurd (show false = true by assumption) Bool.false_ne_true | ((repeat' (first | assumption | apply anda | apply notf)); done)) | exact he')
        | true =>
          have he' : (!q1_BarS (v.2 k) (u.2 k)) = false := nott he
          refine piece_ok mixed hc (p_seBarS_b v u k) ?_ (ih (k + 1) (by omega) (by simp [qT_BarS, hg, he]))
          simp only [All]
          repeat' (first | exact trivial | with_reducible apply And.intro)
          all_goals (first | omega | rfl | (intros; first | assumption | exact True.intro | rfl | exact absurd (show false = true by assumption) Bool.false_ne_true | ((repeat' (first | assumption | apply anda | apply notf)); done)) | exact he')
    refine piece_ok mixed hc (p_seBarS_a v u) ?_ (lp v.1 0 (by omega) rfl)
    simp only [All]
    repeat' (first | exact trivial | with_reducible apply And.intro)
    all_goals (first | omega | rfl | (intros; first | assumption | exact True.intro | rfl | exact absurd (show false = true by assumption) Bool.false_ne_true | ((repeat' (first | assumption | apply anda | apply notf)); done)) | (simp; omega))
  · rw [show q_BarS v u = false by simp [q_BarS, hz]]
    refine path_ok mixed Try.func84 hc (p_seBarS_z v u) ?_
    simp only [All]
    repeat' (first | exact trivial | with_reducible apply And.intro)
    all_goals (first | omega | rfl | (intros; first | assumption | exact True.intro | rfl | exact absurd (show false = true by assumption) Bool.false_ne_true | ((repeat' (first | assumption | apply anda | apply notf)); done)) | (simp; omega))

theorem qT_IntS_bad (g h : Nat → Int) (k : Nat) (e : q1_IntS (g k) (h k) = false) : ∀ n, k < n → qT_IntS g h n = false
  | 0, h' => by omega
  | n + 1, h' => by
    by_cases e' : k = n
    · subst e'; simp [qT_IntS, e]
    · simp [qT_IntS, qT_IntS_bad g h k e n (by omega)]

theorem con_seIntS (v u : T_IntS) (hv : v.1 ≤ 1048576) : Con Try.prog 53 0 [] [.p (.seq true 1 (v.1) (fun i => [.int .i64 ((v.2 i))])), .p (.seq true 1 (u.1) (fun i => [.int .i64 ((u.2 i))]))] [] (.p (.bool (q_IntS v u))) := by
  refine con_start Try.func53 rfl (by kernel_rfl) rfl (fun c hc => ?_)
  by_cases hz : v.1 = u.1
  · rw [show q_IntS v u = qT_IntS v.2 u.2 v.1 by simp [q_IntS, hz]]
    have lp : ∀ m k, k + m = v.1 → qT_IntS v.2 u.2 k = true → Run Try.prog c 53 [.code (cAt (bodyOf Try.f53) [1, 1, 0, 1, 0, 0]), .inLoop (cAt (bodyOf Try.f53) [1, 1, 0, 1, 0, 0]), .inBlock 0, .code (cAt (bodyOf Try.f53) [1, 1, 1])] (S_seIntS v u k) (Post c [] (.p (.bool (qT_IntS v.2 u.2 v.1)))) := by
      intro m
      induction m with
      | zero =>
        intro k hk hg
        rw [show qT_IntS v.2 u.2 v.1 = true by rw [show v.1 = k by omega]; exact hg]
        have hd : decide ((k : Int) < (v.1 : Int)) = false := by simp; omega
        refine path_ok mixed Try.func53 hc (p_seIntS_d v u k) ?_
        simp only [All]
        repeat' (first | exact trivial | with_reducible apply And.intro)
        all_goals (first | omega | rfl | (intros; first | assumption | exact True.intro | rfl | exact absurd (show false = true by assumption) Bool.false_ne_true | ((repeat' (first | assumption | apply anda | apply notf)); done)))
      | succ m ih =>
        intro k hk hg
        have hd : decide ((k : Int) < (v.1 : Int)) = true := by simp; omega
        cases he : q1_IntS (v.2 k) (u.2 k) with
        | false =>
          rw [qT_IntS_bad _ _ k he v.1 (by omega)]
          have he' : (!q1_IntS (v.2 k) (u.2 k)) = true := notf he
          refine path_ok mixed Try.func53 hc (p_seIntS_c v u k) ?_
          simp only [All]
          repeat' (first | exact trivial | with_reducible apply And.intro)
          all_goals (first | omega | rfl | (intros; first | assumption | exact True.intro | rfl | exact absurd (show false = true by assumption) Bool.false_ne_true | ((repeat' (first | assumption | apply anda | apply notf)); done)) | exact he')
        | true =>
          have he' : (!q1_IntS (v.2 k) (u.2 k)) = false := nott he
          refine piece_ok mixed hc (p_seIntS_b v u k) ?_ (ih (k + 1) (by omega) (by simp [qT_IntS, hg, he]))
          simp only [All]
          repeat' (first | exact trivial | with_reducible apply And.intro)
          all_goals (first | omega | rfl | (intros; first | assumption | exact True.intro | rfl | exact absurd (show false = true by assumption) Bool.false_ne_true | ((repeat' (first | assumption | apply anda | apply notf)); done)) | exact he')
    refine piece_ok mixed hc (p_seIntS_a v u) ?_ (lp v.1 0 (by omega) rfl)
    simp only [All]
    repeat' (first | exact trivial | with_reducible apply And.intro)
    all_goals (first | omega | rfl | (intros; first | assumption | exact True.intro | rfl | exact absurd (show false = true by assumption) Bool.false_ne_true | ((repeat' (first | assumption | apply anda | apply notf)); done)) | (simp; omega))
  · rw [show q_IntS v u = false by simp [q_IntS, hz]]
    refine path_ok mixed Try.func53 hc (p_seIntS_z v u) ?_
    simp only [All]
    repeat' (first | exact trivial | with_reducible apply And.intro)
    all_goals (first | omega | rfl | (intros; first | assumption | exact True.intro | rfl | exact absurd (show false = true by assumption) Bool.false_ne_true | ((repeat' (first | assumption | apply anda | apply notf)); done)) | (simp; omega))

theorem qT_StringS_bad (g h : Nat → ByteArray) (k : Nat) (e : q1_StringS (g k) (h k) = false) : ∀ n, k < n → qT_StringS g h n = false
  | 0, h' => by omega
  | n + 1, h' => by
    by_cases e' : k = n
    · subst e'; simp [qT_StringS, e]
    · simp [qT_StringS, qT_StringS_bad g h k e n (by omega)]

theorem con_seStringS (v u : T_StringS) (hv : v.1 ≤ 1048576) : Con Try.prog 54 0 [] [.p (.seq true 1 (v.1) (fun i => [.str ((v.2 i))])), .p (.seq true 1 (u.1) (fun i => [.str ((u.2 i))]))] [] (.p (.bool (q_StringS v u))) := by
  refine con_start Try.func54 rfl (by kernel_rfl) rfl (fun c hc => ?_)
  by_cases hz : v.1 = u.1
  · rw [show q_StringS v u = qT_StringS v.2 u.2 v.1 by simp [q_StringS, hz]]
    have lp : ∀ m k, k + m = v.1 → qT_StringS v.2 u.2 k = true → Run Try.prog c 54 [.code (cAt (bodyOf Try.f54) [1, 1, 0, 1, 0, 0]), .inLoop (cAt (bodyOf Try.f54) [1, 1, 0, 1, 0, 0]), .inBlock 0, .code (cAt (bodyOf Try.f54) [1, 1, 1])] (S_seStringS v u k) (Post c [] (.p (.bool (qT_StringS v.2 u.2 v.1)))) := by
      intro m
      induction m with
      | zero =>
        intro k hk hg
        rw [show qT_StringS v.2 u.2 v.1 = true by rw [show v.1 = k by omega]; exact hg]
        have hd : decide ((k : Int) < (v.1 : Int)) = false := by simp; omega
        refine path_ok mixed Try.func54 hc (p_seStringS_d v u k) ?_
        simp only [All]
        repeat' (first | exact trivial | with_reducible apply And.intro)
        all_goals (first | omega | rfl | (intros; first | assumption | exact True.intro | rfl | exact absurd (show false = true by assumption) Bool.false_ne_true | ((repeat' (first | assumption | apply anda | apply notf)); done)))
      | succ m ih =>
        intro k hk hg
        have hd : decide ((k : Int) < (v.1 : Int)) = true := by simp; omega
        cases he : q1_StringS (v.2 k) (u.2 k) with
        | false =>
          rw [qT_StringS_bad _ _ k he v.1 (by omega)]
          have he' : (!q1_StringS (v.2 k) (u.2 k)) = true := notf he
          refine path_ok mixed Try.func54 hc (p_seStringS_c v u k) ?_
          simp only [All]
          repeat' (first | exact trivial | with_reducible apply And.intro)
          all_goals (first | omega | rfl | (intros; first | assumption | exact True.intro | rfl | exact absurd (show false = true by assumption) Bool.false_ne_true | ((repeat' (first | assumption | apply anda | apply notf)); done)) | exact he')
        | true =>
          have he' : (!q1_StringS (v.2 k) (u.2 k)) = false := nott he
          refine piece_ok mixed hc (p_seStringS_b v u k) ?_ (ih (k + 1) (by omega) (by simp [qT_StringS, hg, he]))
          simp only [All]
          repeat' (first | exact trivial | with_reducible apply And.intro)
          all_goals (first | omega | rfl | (intros; first | assumption | exact True.intro | rfl | exact absurd (show false = true by assumption) Bool.false_ne_true | ((repeat' (first | assumption | apply anda | apply notf)); done)) | exact he')
    refine piece_ok mixed hc (p_seStringS_a v u) ?_ (lp v.1 0 (by omega) rfl)
    simp only [All]
    repeat' (first | exact trivial | with_reducible apply And.intro)
    all_goals (first | omega | rfl | (intros; first | assumption | exact True.intro | rfl | exact absurd (show false = true by assumption) Bool.false_ne_true | ((repeat' (first | assumption | apply anda | apply notf)); done)) | (simp; omega))
  · rw [show q_StringS v u = false by simp [q_StringS, hz]]
    refine path_ok mixed Try.func54 hc (p_seStringS_z v u) ?_
    simp only [All]
    repeat' (first | exact trivial | with_reducible apply And.intro)
    all_goals (first | omega | rfl | (intros; first | assumption | exact True.intro | rfl | exact absurd (show false = true by assumption) Bool.false_ne_true | ((repeat' (first | assumption | apply anda | apply notf)); done)) | (simp; omega))

theorem con_ls_l6Same_IntS (v u : T_IntS) (hv : v.1 ≤ 1048576) : Con Try.prog 50 0 [] [.p (.seq true 1 (v.1) (fun i => [.int .i64 ((v.2 i))])), .p (.seq true 1 (u.1) (fun i => [.int .i64 ((u.2 i))]))] [] (.p (.bool (q_IntS v u))) := by
  refine con_start Try.func50 rfl (by kernel_rfl) rfl (fun c hc => ?_)
  by_cases hz : v.1 = u.1
  · rw [show q_IntS v u = qT_IntS v.2 u.2 v.1 by simp [q_IntS, hz]]
    have lp : ∀ m k, k + m = v.1 → qT_IntS v.2 u.2 k = true → Run Try.prog c 50 [.code (cAt (bodyOf Try.f50) [1, 1, 0, 1, 0, 0]), .inLoop (cAt (bodyOf Try.f50) [1, 1, 0, 1, 0, 0]), .inBlock 0, .code (cAt (bodyOf Try.f50) [1, 1, 1])] (S_ls_l6Same_IntS v u k) (Post c [] (.p (.bool (qT_IntS v.2 u.2 v.1)))) := by
      intro m
      induction m with
      | zero =>
        intro k hk hg
        rw [show qT_IntS v.2 u.2 v.1 = true by rw [show v.1 = k by omega]; exact hg]
        have hd : decide ((k : Int) < (v.1 : Int)) = false := by simp; omega
        refine path_ok mixed Try.func50 hc (p_ls_l6Same_IntS_d v u k) ?_
        simp only [All]
        repeat' (first | exact trivial | with_reducible apply And.intro)
        all_goals (first | omega | rfl | (intros; first | assumption | exact True.intro | rfl | exact absurd (show false = true by assumption) Bool.false_ne_true | ((repeat' (first | assumption | apply anda | apply notf)); done)))
      | succ m ih =>
        intro k hk hg
        have hd : decide ((k : Int) < (v.1 : Int)) = true := by simp; omega
        cases he : q1_IntS (v.2 k) (u.2 k) with
        | false =>
          rw [qT_IntS_bad _ _ k he v.1 (by omega)]
          have he' : (!q1_IntS (v.2 k) (u.2 k)) = true := notf he
          refine path_ok mixed Try.func50 hc (p_ls_l6Same_IntS_c v u k) ?_
          simp only [All]
          repeat' (first | exact trivial | with_reducible apply And.intro)
          all_goals (first | omega | rfl | (intros; first | assumption | exact True.intro | rfl | exact absurd (show false = true by assumption) Bool.false_ne_true | ((repeat' (first | assumption | apply anda | apply notf)); done)) | exact he')
        | true =>
          have he' : (!q1_IntS (v.2 k) (u.2 k)) = false := nott he
          refine piece_ok mixed hc (p_ls_l6Same_IntS_b v u k) ?_ (ih (k + 1) (by omega) (by simp [qT_IntS, hg, he]))
          simp only [All]
          repeat' (first | exact trivial | with_reducible apply And.intro)
          all_goals (first | omega | rfl | (intros; first | assumption | exact True.intro | rfl | exact absurd (show false = true by assumption) Bool.false_ne_true | ((repeat' (first | assumption | apply anda | apply notf)); done)) | exact he')
    refine piece_ok mixed hc (p_ls_l6Same_IntS_a v u) ?_ (lp v.1 0 (by omega) rfl)
    simp only [All]
    repeat' (first | exact trivial | with_reducible apply And.intro)
    all_goals (first | omega | rfl | (intros; first | assumption | exact True.intro | rfl | exact absurd (show false = true by assumption) Bool.false_ne_true | ((repeat' (first | assumption | apply anda | apply notf)); done)) | (simp; omega))
  · rw [show q_IntS v u = false by simp [q_IntS, hz]]
    refine path_ok mixed Try.func50 hc (p_ls_l6Same_IntS_z v u) ?_
    simp only [All]
    repeat' (first | exact trivial | with_reducible apply And.intro)
    all_goals (first | omega | rfl | (intros; first | assumption | exact True.intro | rfl | exact absurd (show false = true by assumption) Bool.false_ne_true | ((repeat' (first | assumption | apply anda | apply notf)); done)) | (simp; omega))

end Go.Proofs.Ytgddbgmnehkblab.Mach
