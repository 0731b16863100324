/- What the law Cl needs, part 3 of 5: the abstract machine and the contracts of the functions. Conditions: as each theorem says. -/
import Derived.Test.YtffnfeefjdmifaaClP2
namespace Go.Proofs.Ytffnfeefjdmifaa.Mach
open Go
set_option linter.unusedVariables false
set_option linter.unusedSimpArgs false
def grG (g : Nat → T_Bar) (nb N : Nat) : AV := .agg [.p (.int .i64 N), brL g nb]
def bxG (g : Nat → T_Bar) (nb N : Nat) : Ob := ⟨true, 2, 1, fun _ => [.p (.int .i64 N), brL g nb]⟩
def bx0 : Ob := ⟨true, 3, 1, fun _ => [.p .nil, .p .nil, .p .nil]⟩
def bxP (N m j : Nat) : Ob := ⟨true, 3, 1, fun _ => [.ar 1 j 0 N, .ar 1 (j + 1) 0 m, .ar 1 (j + 2) 0 m]⟩
def bxD (N m : Nat) (F T Q : Nat → Int) : Ob := ⟨true, 3, 1, fun _ => [inD N F, inD m T, inD m Q]⟩
def pebD (N m : Nat) (F T Q : Nat → Int) : AV := .agg [inD N F, inD m T, inD m Q]
def bOb (n : Nat) (S : Nat → Bool) : Ob := ⟨false, 1, n, fun i => [.p (.bool (S i))]⟩
def SSc (g : Nat → T_Bar) (nb N m : Nat) (F T Q FR F1 T1 : Nat → Int) (a u : Int) : St :=
  ⟨[grG g nb N, pebD N m F T Q, inD N FR, .p (.int .i64 a), .p (.int .i64 u), .pt 2 0 0 0, .pt 3 1 0 0, .p .any, .p .any, .p .any, .pt 3 2 0 0, .pt 3 3 0 0] ++ List.replicate 51 anyA,
   [(0, bxG g nb N), (1, bxD N m F T Q), (2, bx0), (3, bxP N m 4), (4, iOb N F1), (5, iOb m T1), (6, iOb m Q)], 7⟩
def SSl (g : Nat → T_Bar) (nb N m : Nat) (F T Q FR F1 T1 : Nat → Int) (a u at' : Int) : St :=
  ⟨[grG g nb N, pebD N m F T Q, inD N FR, .p (.int .i64 a), .p (.int .i64 u), .pt 2 0 0 0, .pt 3 1 0 0, .p .any, .p .any, .p .any, .pt 3 2 0 0, .pt 3 3 0 0, .p (.int .i64 at')] ++ List.replicate 50 anyA,
   [(0, bxG g nb N), (1, bxD N m F T Q), (2, bx0), (3, bxP N m 4), (4, iOb N F1), (5, iOb m T1), (6, iOb m Q)], 7⟩
def SF0 (g : Nat → T_Bar) (nb N m : Nat) (F T Q : Nat → Int) (a b : Int) (i : Nat) : St :=
  ⟨[grG g nb N, pebO N m 0, .p (.int .i64 a), .p (.int .i64 b), .pt 2 3 0 0, .pt 3 4 0 0, .p .any, .p .any, .pt 3 5 0 0, .p .any, .ar 1 6 0 N, .p (.int .i64 i)] ++ List.replicate 94 anyA,
   [(0, iOb N F), (1, iOb m T), (2, iOb m Q), (3, bxG g nb N), (4, bxP N m 0), (5, bx0), (6, iOb N (fun s => if s < i then -1 else 0))], 7⟩
def SF1 (g : Nat → T_Bar) (nb N m : Nat) (F T Q td FR : Nat → Int) (SN : Nat → Bool) (a b : Int) (i tn : Nat) : St :=
  ⟨[grG g nb N, pebO N m 0, .p (.int .i64 a), .p (.int .i64 b), .pt 2 3 0 0, .pt 3 4 0 0, .p .any, .p .any, .pt 3 5 0 0, .p .any, .ar 1 6 0 N, .p .any, .ar 1 8 0 tn, .ar 1 7 0 N, .p (.int .i64 i)] ++ List.replicate 91 anyA,
   [(0, iOb N F), (1, iOb m T), (2, iOb m Q), (3, bxG g nb N), (4, bxP N m 0), (5, bx0), (6, iOb N FR), (7, bOb N SN), (8, iOb tn td)], 9⟩
def SF2 (g : Nat → T_Bar) (nb N m : Nat) (F T Q td FR : Nat → Int) (SN : Nat → Bool) (a b v : Int) (i j tn : Nat) : St :=
  ⟨[grG g nb N, pebO N m 0, .p (.int .i64 a), .p (.int .i64 b), .pt 2 3 0 0, .pt 3 4 0 0, .p .any, .p .any, .pt 3 5 0 0, .p .any, .ar 1 6 0 N, .p .any, .ar 1 8 0 tn, .ar 1 7 0 N, .p (.int .i64 i), .p (.int .i64 v), .p (.int .i64 j)] ++ List.replicate 89 anyA,
   [(0, iOb N F), (1, iOb m T), (2, iOb m Q), (3, bxG g nb N), (4, bxP N m 0), (5, bx0), (6, iOb N FR), (7, bOb N SN), (8, iOb tn td)], 9⟩
def SF3 (g : Nat → T_Bar) (nb N m : Nat) (F T Q FR : Nat → Int) (a b u : Int) : St :=
  ⟨[grG g nb N, pebO N m 0, .p (.int .i64 a), .p (.int .i64 b), .pt 2 3 0 0, .pt 3 4 0 0, .p .any, .p .any, .pt 3 5 0 0, .p .any, .ar 1 6 0 N, .p .any, .p .any, .p .any, .p .any, .p .any, .p .any, .p (.int .i64 u)] ++ List.replicate 88 anyA,
   [(0, iOb N F), (1, iOb m T), (2, iOb m Q), (3, bxG g nb N), (4, bxP N m 0), (5, bx0), (6, iOb N FR)], 7⟩
def pebR3 (N m : Nat) (F T Q F' T' Q' : Nat → Int) : Hp := [(0, iOb N F), (1, iOb m T), (2, iOb m Q), (3, iOb N F'), (4, iOb m T'), (5, iOb m Q')]
theorem qOt (x : T_Bar) (v : Int) :
    pathOb Try.prog Try.f189 0 [.reg [oT, oT], .reg [oT, oT, oT, oT, oT, oT, oT, oT]] [.code (bodyOf Try.f189)] (start Try.f189 [] 0 [brA x, .p (.int .i64 v)]) [] 1 [] (.p (.int .i64 (x.1 + x.2.1 - v))) =
    some [((0 : Nat) < 1),
  ((0 : Nat) < 1),
  (((-9223372036854775808) : Int) ≤ (x.1 + x.2.1)),
  (((x.1 + x.2.1) : Int) ≤ 9223372036854775807),
  (((-9223372036854775808) : Int) ≤ (x.1 + x.2.1 - v)),
  (((x.1 + x.2.1 - v) : Int) ≤ 9223372036854775807),
  (AI ((x.1 + x.2.1 - v)))] := by kernel_rfl
theorem qCp (N m : Nat) (F T Q : Nat → Int) :
    pathOb Try.prog Try.f161 0 [.reg [oT, oT], .reg [oT, oT, oT, oT, oT, oT, oT, oT, oT, oT, oT, oT, oT, oT]] [.code (bodyOf Try.f161)] (start Try.f161 [] 0 [pebD N m F T Q]) [160, 288, 416] 1 (pebR N m F T Q) (pebO N m 0) =
    some [((0 : Nat) < 1),
  ((0 : Nat) ≤ 0),
  ((((0 + N) * 8) : Nat) ≤ 140737488355328),
  (((0 + N) : Nat) ≤ 9223372036854775807),
  ((0 : Nat) < 1),
  ((0 : Nat) ≤ 0),
  ((((0 + m) * 8) : Nat) ≤ 140737488355328),
  (((0 + m) : Nat) ≤ 9223372036854775807),
  ((0 : Nat) < 1),
  ((0 : Nat) ≤ 0),
  ((((0 + m) * 8) : Nat) ≤ 140737488355328),
  (((0 + m) : Nat) ≤ 9223372036854775807),
  ((0 : Nat) < 1),
  ((true = true) → (AN 1)),
  ((0 : Nat) < 1),
  (AN 0),
  (((0 + N) : Nat) = N),
  (AN 0),
  (((0 + m) : Nat) = m),
  (AN 0),
  (((0 + m) : Nat) = m),
  (AN 1),
  ((N : Nat) ≤ (0 + N)),
  (AA N (fun i => [.p (.int .i64 (F i))])),
  (AN 1),
  ((m : Nat) ≤ (0 + m)),
  (AA m (fun i => [.p (.int .i64 (T i))])),
  (AN 1),
  ((m : Nat) ≤ (0 + m)),
  (AA m (fun i => [.p (.int .i64 (Q i))])),
  (AE N),
  (AE m),
  (AE m)] := by kernel_rfl
theorem qSz (g : Nat → T_Bar) (nb N m : Nat) (F T Q FR : Nat → Int) (a u : Int) :
    pieceOb Try.prog 0 [.reg [oT, oT, oT], .reg [oT, ⟨true, (some ⟨[], [], [], 1, pebR N m F T Q, pebO N m 0⟩), none⟩, oT, oT], .reg [oT, oT, oT, oT, oT, oT, oT, oT, oT, oT, oT], .head] [.code (bodyOf Try.f190)] (start Try.f190 [] 0 [grG g nb N, pebD N m F T Q, inD N FR, .p (.int .i64 a), .p (.int .i64 u)]) [0, 32, 64, 160, 128, 129, 130] 1 (SSc g nb N m F T Q FR (fun s => if s = u.toNat then F s - 1 else F s) T a u) =
    some ([.code (cAt (bodyOf Try.f190) [1, 1, 1, 0]), .code (cAt (bodyOf Try.f190) [1, 1, 1, 1])], [((0 : Nat) < 1),
  Con Try.prog 161 0 [] [.agg [.p (.seq true 1 N (fun i => [.int .i64 (F i)])), .p (.seq true 1 m (fun i => [.int .i64 (T i)])), .p (.seq true 1 m (fun i => [.int .i64 (Q i)]))]] [(0, ⟨false, 1, N, (fun i => [.p (.int .i64 (F i))])⟩), (1, ⟨false, 1, m, (fun i => [.p (.int .i64 (T i))])⟩), (2, ⟨false, 1, m, (fun i => [.p (.int .i64 (Q i))])⟩)] (.agg [.ar 1 0 0 N, .ar 1 1 0 m, .ar 1 2 0 m]),
  ((0 : Nat) < 1),
  ((true = true) → (AN 1)),
  ((0 : Nat) < 1),
  ((0 : Nat) < 1),
  ((0 : Int) ≤ u),
  ((u : Int) < (↑N : Int)),
  ((u.toNat : Nat) < N),
  (((-9223372036854775808) : Int) ≤ (F u.toNat - 1)),
  (((F u.toNat - 1) : Int) ≤ 9223372036854775807),
  ((0 : Int) ≤ u),
  ((u : Int) < (↑N : Int)),
  ((u.toNat : Nat) < N),
  ((false = true) → ((N : Nat) = 1)),
  (AI ((↑N : Int))),
  (AN nb),
  (AP nb (fun i => [.int .i64 ((g i).1), .int .i64 ((g i).2.1)])),
  (AN N),
  (AP N (fun i => [.int .i64 (F i)])),
  (AN m),
  (AP m (fun i => [.int .i64 (T i)])),
  (AN m),
  (AP m (fun i => [.int .i64 (Q i)])),
  (AN N),
  (AP N (fun i => [.int .i64 (FR i)])),
  (AI a),
  (AI u),
  (AN 0),
  (AN 0),
  (AN 0),
  (AN 0),
  ((([AV.p (PV.int IntKind.i64 (↑N : Int)), brL g nb].length) : Nat) = 2),
  ((1 : Nat) ≤ 1),
  ((1 : Nat) ≤ 1),
  (AI ((↑N : Int))),
  (AN nb),
  (AP nb (fun i => [.int .i64 ((g i).1), .int .i64 ((g i).2.1)])),
  ((([inD N F, inD m T, inD m Q].length) : Nat) = 3),
  ((1 : Nat) ≤ 1),
  ((1 : Nat) ≤ 1),
  (AN N),
  (AP N (fun i => [.int .i64 (F i)])),
  (AN m),
  (AP m (fun i => [.int .i64 (T i)])),
  (AN m),
  (AP m (fun i => [.int .i64 (Q i)])),
  ((((List.map (fun v => AV.p (absV v)) [Value.slice none 0 0, Value.slice none 0 0, Value.slice none 0 0]).length) : Nat) = 3),
  ((1 : Nat) ≤ 1),
  ((1 : Nat) ≤ 1),
  ((((List.map (fun v => AV.p (absV v)) [Value.slice none 0 0, Value.slice none 0 0, Value.slice none 0 0]).length) : Nat) = 3),
  ((1 : Nat) ≤ 1),
  ((1 : Nat) ≤ 1),
  (AN 0),
  (AN N),
  (AN 0),
  (AN m),
  (AN 0),
  (AN m),
  (AN 1),
  ((N : Nat) ≤ N),
  (∀ i : Nat, (((i : Nat) < N) → (All (cvtL false [(128, ⟨false, 1, N, (fun i_1 => (if (i_1 = u.toNat) then [.p (.int .i64 (F u.toNat - 1))] else [.p (.int .i64 (F i_1))]))⟩), (160, ⟨true, 3, 1, (fun i_1 => [.ar 1 128 0 N, .ar 1 129 0 m, .ar 1 130 0 m])⟩), (130, ⟨false, 1, m, (fun i_1 => [.p (.int .i64 (Q i_1))])⟩), (129, ⟨false, 1, m, (fun i_1 => [.p (.int .i64 (T i_1))])⟩), (64, ⟨true, 3, 1, (fun i_1 => [.p (.nil), .p (.nil), .p (.nil)])⟩), (32, ⟨true, 3, 1, (fun i_1 => [.p (.seq true 1 N (fun i_2 => [.int .i64 (F i_2)])), .p (.seq true 1 m (fun i_2 => [.int .i64 (T i_2)])), .p (.seq true 1 m (fun i_2 => [.int .i64 (Q i_2)]))])⟩), (0, ⟨true, 2, 1, (fun i_1 => [.p (.int .i64 (↑N : Int)), .p (.seq true 2 nb (fun i_2 => [.int .i64 ((g i_2).1), .int .i64 ((g i_2).2.1)]))])⟩)] [0, 32, 64, 160, 128, 129, 130] 1 (if (i = u.toNat) then [.p (.int .i64 (F u.toNat - 1))] else [.p (.int .i64 (F i))])).2 ∧ (((cvtL false [(128, ⟨false, 1, N, (fun i_1 => (if (i_1 = u.toNat) then [.p (.int .i64 (F u.toNat - 1))] else [.p (.int .i64 (F i_1))]))⟩), (160, ⟨true, 3, 1, (fun i_1 => [.ar 1 128 0 N, .ar 1 129 0 m, .ar 1 130 0 m])⟩), (130, ⟨false, 1, m, (fun i_1 => [.p (.int .i64 (Q i_1))])⟩), (129, ⟨false, 1, m, (fun i_1 => [.p (.int .i64 (T i_1))])⟩), (64, ⟨true, 3, 1, (fun i_1 => [.p (.nil), .p (.nil), .p (.nil)])⟩), (32, ⟨true, 3, 1, (fun i_1 => [.p (.seq true 1 N (fun i_2 => [.int .i64 (F i_2)])), .p (.seq true 1 m (fun i_2 => [.int .i64 (T i_2)])), .p (.seq true 1 m (fun i_2 => [.int .i64 (Q i_2)]))])⟩), (0, ⟨true, 2, 1, (fun i_1 => [.p (.int .i64 (↑N : Int)), .p (.seq true 2 nb (fun i_2 => [.int .i64 ((g i_2).1), .int .i64 ((g i_2).2.1)]))])⟩)] [0, 32, 64, 160, 128, 129, 130] 1 (if (i = u.toNat) then [.p (.int .i64 (F u.toNat - 1))] else [.p (.int .i64 (F i))])).1 : List AV) = [.p (.int .i64 (if i = u.toNat then F i - 1 else F i))])))),
  (AN 1),
  ((m : Nat) ≤ m),
  (AA m (fun i => [.p (.int .i64 (T i))])),
  (AN 1),
  ((m : Nat) ≤ m),
  (AA m (fun i => [.p (.int .i64 (Q i))]))]) := by kernel_rfl
theorem qSa (g : Nat → T_Bar) (nb N m : Nat) (F T Q FR F1 T1 : Nat → Int) (a u : Int) :
    pieceOb Try.prog 0 [.reg [oT, oT, oT, oT, oT, oT, oT, oT, oT, oT, oT], .reg [oT, oT], .head] [.code (cAt (bodyOf Try.f190) [1, 1, 1, 0]), .code (cAt (bodyOf Try.f190) [1, 1, 1, 1])] (SSc g nb N m F T Q FR F1 T1 a u) [0, 1, 2, 3, 4, 5, 6] 1 (SSl g nb N m F T Q FR (fun s => if s = a.toNat then F1 s + 1 else F1 s) T1 a u u) =
    some ([.code (cAt (bodyOf Try.f190) [1, 1, 1, 1, 1, 0, 0, 0]), .inLoop (cAt (bodyOf Try.f190) [1, 1, 1, 1, 1, 0, 0, 0]), .inBlock 0, .code (cAt (bodyOf Try.f190) [1, 1, 1, 1, 1, 1])], [((0 : Nat) < 1),
  ((0 : Nat) < 1),
  ((0 : Int) ≤ a),
  ((a : Int) < (↑N : Int)),
  ((a.toNat : Nat) < N),
  (((-9223372036854775808) : Int) ≤ (F1 a.toNat + 1)),
  (((F1 a.toNat + 1) : Int) ≤ 9223372036854775807),
  ((0 : Int) ≤ a),
  ((a : Int) < (↑N : Int)),
  ((a.toNat : Nat) < N),
  ((false = true) → ((N : Nat) = 1)),
  (AI ((↑N : Int))),
  (AN nb),
  (AP nb (fun i => [.int .i64 ((g i).1), .int .i64 ((g i).2.1)])),
  (AN N),
  (AP N (fun i => [.int .i64 (F i)])),
  (AN m),
  (AP m (fun i => [.int .i64 (T i)])),
  (AN m),
  (AP m (fun i => [.int .i64 (Q i)])),
  (AN N),
  (AP N (fun i => [.int .i64 (FR i)])),
  (AI a),
  (AI u),
  (AN 0),
  (AN 0),
  (AN 0),
  (AN 0),
  (AI u),
  (AN 2),
  ((1 : Nat) ≤ 1),
  ((1 : Nat) ≤ 1),
  (AI ((↑N : Int))),
  (AN nb),
  (AP nb (fun i => [.int .i64 ((g i).1), .int .i64 ((g i).2.1)])),
  (AN 3),
  ((1 : Nat) ≤ 1),
  ((1 : Nat) ≤ 1),
  (AN N),
  (AP N (fun i => [.int .i64 (F i)])),
  (AN m),
  (AP m (fun i => [.int .i64 (T i)])),
  (AN m),
  (AP m (fun i => [.int .i64 (Q i)])),
  (AN 3),
  ((1 : Nat) ≤ 1),
  ((1 : Nat) ≤ 1),
  (AN 3),
  ((1 : Nat) ≤ 1),
  ((1 : Nat) ≤ 1),
  (AN 0),
  (AN N),
  (AN 0),
  (AN m),
  (AN 0),
  (AN m),
  (AN 1),
  ((N : Nat) ≤ N),
  (∀ i : Nat, (((i : Nat) < N) → (All (cvtL false [(4, ⟨false, 1, N, (fun i_1 => (if (i_1 = a.toNat) then [.p (.int .i64 (F1 a.toNat + 1))] else [.p (.int .i64 (F1 i_1))]))⟩), (0, ⟨true, 2, 1, (fun i_1 => [.p (.int .i64 (↑N : Int)), .p (.seq true 2 nb (fun i_2 => [.int .i64 ((g i_2).1), .int .i64 ((g i_2).2.1)]))])⟩), (1, ⟨true, 3, 1, (fun i_1 => [.p (.seq true 1 N (fun i_2 => [.int .i64 (F i_2)])), .p (.seq true 1 m (fun i_2 => [.int .i64 (T i_2)])), .p (.seq true 1 m (fun i_2 => [.int .i64 (Q i_2)]))])⟩), (2, ⟨true, 3, 1, (fun i_1 => [.p (.nil), .p (.nil), .p (.nil)])⟩), (3, ⟨true, 3, 1, (fun i_1 => [.ar 1 4 0 N, .ar 1 5 0 m, .ar 1 6 0 m])⟩), (5, ⟨false, 1, m, (fun i_1 => [.p (.int .i64 (T1 i_1))])⟩), (6, ⟨false, 1, m, (fun i_1 => [.p (.int .i64 (Q i_1))])⟩)] [0, 1, 2, 3, 4, 5, 6] 1 (if (i = a.toNat) then [.p (.int .i64 (F1 a.toNat + 1))] else [.p (.int .i64 (F1 i))])).2 ∧ (((cvtL false [(4, ⟨false, 1, N, (fun i_1 => (if (i_1 = a.toNat) then [.p (.int .i64 (F1 a.toNat + 1))] else [.p (.int .i64 (F1 i_1))]))⟩), (0, ⟨true, 2, 1, (fun i_1 => [.p (.int .i64 (↑N : Int)), .p (.seq true 2 nb (fun i_2 => [.int .i64 ((g i_2).1), .int .i64 ((g i_2).2.1)]))])⟩), (1, ⟨true, 3, 1, (fun i_1 => [.p (.seq true 1 N (fun i_2 => [.int .i64 (F i_2)])), .p (.seq true 1 m (fun i_2 => [.int .i64 (T i_2)])), .p (.seq true 1 m (fun i_2 => [.int .i64 (Q i_2)]))])⟩), (2, ⟨true, 3, 1, (fun i_1 => [.p (.nil), .p (.nil), .p (.nil)])⟩), (3, ⟨true, 3, 1, (fun i_1 => [.ar 1 4 0 N, .ar 1 5 0 m, .ar 1 6 0 m])⟩), (5, ⟨false, 1, m, (fun i_1 => [.p (.int .i64 (T1 i_1))])⟩), (6, ⟨false, 1, m, (fun i_1 => [.p (.int .i64 (Q i_1))])⟩)] [0, 1, 2, 3, 4, 5, 6] 1 (if (i = a.toNat) then [.p (.int .i64 (F1 a.toNat + 1))] else [.p (.int .i64 (F1 i))])).1 : List AV) = [.p (.int .i64 (if i = a.toNat then F1 i + 1 else F1 i))])))),
  (AN 1),
  ((m : Nat) ≤ m),
  (AA m (fun i => [.p (.int .i64 (T1 i))])),
  (AN 1),
  ((m : Nat) ≤ m),
  (AA m (fun i => [.p (.int .i64 (Q i))]))]) := by kernel_rfl
theorem qSl (g : Nat → T_Bar) (nb N m : Nat) (F T Q FR F1 T1 : Nat → Int) (a u at' w : Int) :
    pieceOb Try.prog 0 [.reg [oT, oT, oT], .dec true, .reg [oT, oT, oT, oT, oT], .reg [oT, oT, oT, oT, oT, oT, oT, oT, oT, oT, ⟨true, (some ⟨[], [], [], 1, [], .p (.int .i64 w)⟩), none⟩, oT], .reg [oT, oT, oT, oT, oT, oT], .reg [oT, oT], .head] [.code (cAt (bodyOf Try.f190) [1, 1, 1, 1, 1, 0, 0, 0]), .inLoop (cAt (bodyOf Try.f190) [1, 1, 1, 1, 1, 0, 0, 0]), .inBlock 0, .code (cAt (bodyOf Try.f190) [1, 1, 1, 1, 1, 1])] (SSl g nb N m F T Q FR F1 T1 a u at') [0, 1, 2, 3, 4, 5, 6] 1 (SSl g nb N m F T Q FR F1 (fun s => if s = (FR at'.toNat).toNat then at' else T1 s) a u w) =
    some ([.code (cAt (bodyOf Try.f190) [1, 1, 1, 1, 1, 0, 0, 0]), .inLoop (cAt (bodyOf Try.f190) [1, 1, 1, 1, 1, 0, 0, 0]), .inBlock 0, .code (cAt (bodyOf Try.f190) [1, 1, 1, 1, 1, 1])], [((at' != a) = true),
  ((0 : Int) ≤ at'),
  ((at' : Int) < (↑N : Int)),
  ((0 : Nat) < 1),
  ((0 : Nat) < 1),
  ((0 : Int) ≤ (FR at'.toNat)),
  (((FR at'.toNat) : Int) < (↑m : Int)),
  ((0 : Int) ≤ (Q (FR at'.toNat).toNat)),
  (((Q (FR at'.toNat).toNat) : Int) < (↑nb : Int)),
  Con Try.prog 189 0 [] [.agg [.p (.int .i64 ((g (Q (FR at'.toNat).toNat).toNat).1)), .p (.int .i64 ((g (Q (FR at'.toNat).toNat).toNat).2.1))], .p (.int .i64 at')] [] (.p (.int .i64 w)),
  ((0 : Nat) < 1),
  ((0 : Int) ≤ (FR at'.toNat)),
  (((FR at'.toNat) : Int) < (↑m : Int)),
  ((((FR at'.toNat).toNat) : Nat) < m),
  ((false = true) → ((m : Nat) = 1)),
  (AI ((↑N : Int))),
  (AN nb),
  (AP nb (fun i => [.int .i64 ((g i).1), .int .i64 ((g i).2.1)])),
  (AN N),
  (AP N (fun i => [.int .i64 (F i)])),
  (AN m),
  (AP m (fun i => [.int .i64 (T i)])),
  (AN m),
  (AP m (fun i => [.int .i64 (Q i)])),
  (AN N),
  (AP N (fun i => [.int .i64 (FR i)])),
  (AI a),
  (AI u),
  (AN 0),
  (AN 0),
  (AN 0),
  (AN 0),
  (AI w),
  (AN 2),
  ((1 : Nat) ≤ 1),
  ((1 : Nat) ≤ 1),
  (AI ((↑N : Int))),
  (AN nb),
  (AP nb (fun i => [.int .i64 ((g i).1), .int .i64 ((g i).2.1)])),
  (AN 3),
  ((1 : Nat) ≤ 1),
  ((1 : Nat) ≤ 1),
  (AN N),
  (AP N (fun i => [.int .i64 (F i)])),
  (AN m),
  (AP m (fun i => [.int .i64 (T i)])),
  (AN m),
  (AP m (fun i => [.int .i64 (Q i)])),
  (AN 3),
  ((1 : Nat) ≤ 1),
  ((1 : Nat) ≤ 1),
  (AN 3),
  ((1 : Nat) ≤ 1),
  ((1 : Nat) ≤ 1),
  (AN 0),
  (AN N),
  (AN 0),
  (AN m),
  (AN 0),
  (AN m),
  (AN 1),
  ((N : Nat) ≤ N),
  (AA N (fun i => [.p (.int .i64 (F1 i))])),
  (AN 1),
  ((m : Nat) ≤ m),
  (∀ i : Nat, (((i : Nat) < m) → (All (cvtL false [(5, ⟨false, 1, m, (fun i_1 => (if (i_1 = (FR at'.toNat).toNat) then [.p (.int .i64 at')] else [.p (.int .i64 (T1 i_1))]))⟩), (0, ⟨true, 2, 1, (fun i_1 => [.p (.int .i64 (↑N : Int)), .p (.seq true 2 nb (fun i_2 => [.int .i64 ((g i_2).1), .int .i64 ((g i_2).2.1)]))])⟩), (1, ⟨true, 3, 1, (fun i_1 => [.p (.seq true 1 N (fun i_2 => [.int .i64 (F i_2)])), .p (.seq true 1 m (fun i_2 => [.int .i64 (T i_2)])), .p (.seq true 1 m (fun i_2 => [.int .i64 (Q i_2)]))])⟩), (2, ⟨true, 3, 1, (fun i_1 => [.p (.nil), .p (.nil), .p (.nil)])⟩), (3, ⟨true, 3, 1, (fun i_1 => [.ar 1 4 0 N, .ar 1 5 0 m, .ar 1 6 0 m])⟩), (4, ⟨false, 1, N, (fun i_1 => [.p (.int .i64 (F1 i_1))])⟩), (6, ⟨false, 1, m, (fun i_1 => [.p (.int .i64 (Q i_1))])⟩)] [0, 1, 2, 3, 4, 5, 6] 1 (if (i = (FR at'.toNat).toNat) then [.p (.int .i64 at')] else [.p (.int .i64 (T1 i))])).2 ∧ (((cvtL false [(5, ⟨false, 1, m, (fun i_1 => (if (i_1 = (FR at'.toNat).toNat) then [.p (.int .i64 at')] else [.p (.int .i64 (T1 i_1))]))⟩), (0, ⟨true, 2, 1, (fun i_1 => [.p (.int .i64 (↑N : Int)), .p (.seq true 2 nb (fun i_2 => [.int .i64 ((g i_2).1), .int .i64 ((g i_2).2.1)]))])⟩), (1, ⟨true, 3, 1, (fun i_1 => [.p (.seq true 1 N (fun i_2 => [.int .i64 (F i_2)])), .p (.seq true 1 m (fun i_2 => [.int .i64 (T i_2)])), .p (.seq true 1 m (fun i_2 => [.int .i64 (Q i_2)]))])⟩), (2, ⟨true, 3, 1, (fun i_1 => [.p (.nil), .p (.nil), .p (.nil)])⟩), (3, ⟨true, 3, 1, (fun i_1 => [.ar 1 4 0 N, .ar 1 5 0 m, .ar 1 6 0 m])⟩), (4, ⟨false, 1, N, (fun i_1 => [.p (.int .i64 (F1 i_1))])⟩), (6, ⟨false, 1, m, (fun i_1 => [.p (.int .i64 (Q i_1))])⟩)] [0, 1, 2, 3, 4, 5, 6] 1 (if (i = (FR at'.toNat).toNat) then [.p (.int .i64 at')] else [.p (.int .i64 (T1 i))])).1 : List AV) = [.p (.int .i64 (if i = (FR at'.toNat).toNat then at' else T1 i))])))),
  (AN 1),
  ((m : Nat) ≤ m),
  (AA m (fun i => [.p (.int .i64 (Q i))]))]) := by kernel_rfl
theorem qSe (g : Nat → T_Bar) (nb N m : Nat) (F T Q FR F1 T1 : Nat → Int) (a u at' : Int) :
    pathOb Try.prog Try.f190 0 [.reg [oT, oT, oT], .dec false, .reg [oT, oT]] [.code (cAt (bodyOf Try.f190) [1, 1, 1, 1, 1, 0, 0, 0]), .inLoop (cAt (bodyOf Try.f190) [1, 1, 1, 1, 1, 0, 0, 0]), .inBlock 0, .code (cAt (bodyOf Try.f190) [1, 1, 1, 1, 1, 1])] (SSl g nb N m F T Q FR F1 T1 a u at') [4, 5, 6] 1 (pebR N m F1 T1 Q) (pebO N m 0) =
    some [((at' != a) = false),
  ((0 : Nat) < 1),
  ((0 : Nat) < 1),
  ((true = true) → (AN 1)),
  ((0 : Nat) < 1),
  (AN 0),
  (AN N),
  (AN 0),
  (AN m),
  (AN 0),
  (AN m),
  (AN 1),
  ((N : Nat) ≤ N),
  (AA N (fun i => [.p (.int .i64 (F1 i))])),
  (AN 1),
  ((m : Nat) ≤ m),
  (AA m (fun i => [.p (.int .i64 (T1 i))])),
  (AN 1),
  ((m : Nat) ≤ m),
  (AA m (fun i => [.p (.int .i64 (Q i))])),
  (AE N),
  (AE m),
  (AE m)] := by kernel_rfl
theorem qFz (g : Nat → T_Bar) (nb N m : Nat) (F T Q : Nat → Int) (a b : Int) :
    pieceOb Try.prog 3 [.reg [oT, oT, oT, oT], .reg [oT, oT, oT, oT], .reg [oT], .head] [.code (bodyOf Try.f180)] (start Try.f180 (pebR N m F T Q) 3 [grG g nb N, pebO N m 0, .p (.int .i64 a), .p (.int .i64 b)]) [0, 1, 2, 3, 35, 67, 195] 1 (SF0 g nb N m F T Q a b 0) =
    some ([.code (cAt (bodyOf Try.f180) [1, 1, 0, 1, 0, 0]), .inLoop (cAt (bodyOf Try.f180) [1, 1, 0, 1, 0, 0]), .inBlock 0, .code (cAt (bodyOf Try.f180) [1, 1, 1])], [((0 : Nat) < 1),
  ((0 : Int) ≤ (↑N : Int)),
  (((↑N : Int) : Int) ≤ (↑N : Int)),
  ((((↑N : Int) * (↑8 : Int)) : Int) ≤ 281474976710656),
  (((↑N : Int) : Int) ≤ 9223372036854775807),
  (AI ((↑N : Int))),
  (AN nb),
  (AP nb (fun i => [.int .i64 ((g i).1), .int .i64 ((g i).2.1)])),
  (AN 0),
  (AN N),
  (AN 0),
  (AN m),
  (AN 0),
  (AN m),
  (AI a),
  (AI b),
  (AN 0),
  (AN 0),
  (AN 0),
  (AN 0),
  (AN N),
  ((0 : Int) = (↑0 : Int)),
  (AN 1),
  ((N : Nat) ≤ N),
  (AA N (fun i => [.p (.int .i64 (F i))])),
  (AN 1),
  ((m : Nat) ≤ m),
  (AA m (fun i => [.p (.int .i64 (T i))])),
  (AN 1),
  ((m : Nat) ≤ m),
  (AA m (fun i => [.p (.int .i64 (Q i))])),
  ((([AV.p (PV.int IntKind.i64 (↑N : Int)), brL g nb].length) : Nat) = 2),
  ((1 : Nat) ≤ 1),
  ((1 : Nat) ≤ 1),
  (AI ((↑N : Int))),
  (AN nb),
  (AP nb (fun i => [.int .i64 ((g i).1), .int .i64 ((g i).2.1)])),
  ((([AV.ar 1 0 0 N, AV.ar 1 1 0 m, AV.ar 1 2 0 m].length) : Nat) = 3),
  ((1 : Nat) ≤ 1),
  ((1 : Nat) ≤ 1),
  (AN 0),
  (AN N),
  (AN 0),
  (AN m),
  (AN 0),
  (AN m),
  ((((List.map (fun v => AV.p (absV v)) [Value.slice none 0 0, Value.slice none 0 0, Value.slice none 0 0]).length) : Nat) = 3),
  ((1 : Nat) ≤ 1),
  ((1 : Nat) ≤ 1),
  (AN 1),
  ((N : Nat) ≤ N),
  (∀ i : Nat, (((i : Nat) < N) → (All [] ∧ (([.p (.int .i64 0)] : List AV) = [.p (.int .i64 (if i < 0 then -1 else 0))]))))]) := by kernel_rfl
theorem qF0 (g : Nat → T_Bar) (nb N m : Nat) (F T Q : Nat → Int) (a b : Int) (i : Nat) :
    pieceOb Try.prog 3 [.reg [oT, oT, oT, oT], .dec true, .reg [oT, oT, oT, oT], .reg [oT, oT, oT], .head] [.code (cAt (bodyOf Try.f180) [1, 1, 0, 1, 0, 0]), .inLoop (cAt (bodyOf Try.f180) [1, 1, 0, 1, 0, 0]), .inBlock 0, .code (cAt (bodyOf Try.f180) [1, 1, 1])] (SF0 g nb N m F T Q a b i) [0, 1, 2, 3, 4, 5, 6] 1 (SF0 g nb N m F T Q a b (i + 1)) =
    some ([.code (cAt (bodyOf Try.f180) [1, 1, 0, 1, 0, 0]), .inLoop (cAt (bodyOf Try.f180) [1, 1, 0, 1, 0, 0]), .inBlock 0, .code (cAt (bodyOf Try.f180) [1, 1, 1])], [((0 : Nat) < 1),
  ((decide ((↑i : Int) < (↑N : Int))) = true),
  ((0 : Int) ≤ (↑i : Int)),
  (((↑i : Int) : Int) < (↑N : Int)),
  ((i : Nat) < N),
  ((false = true) → ((N : Nat) = 1)),
  (((-9223372036854775808) : Int) ≤ ((↑i : Int) + 1)),
  ((((↑i : Int) + 1) : Int) ≤ 9223372036854775807),
  (AI ((↑N : Int))),
  (AN nb),
  (AP nb (fun i_1 => [.int .i64 ((g i_1).1), .int .i64 ((g i_1).2.1)])),
  (AN 0),
  (AN N),
  (AN 0),
  (AN m),
  (AN 0),
  (AN m),
  (AI a),
  (AI b),
  (AN 0),
  (AN 0),
  (AN 0),
  (AN 0),
  (AN N),
  ((((↑i : Int) + 1) : Int) = (↑(i + 1) : Int)),
  (AN 1),
  ((N : Nat) ≤ N),
  (AA N (fun i_1 => [.p (.int .i64 (F i_1))])),
  (AN 1),
  ((m : Nat) ≤ m),
  (AA m (fun i_1 => [.p (.int .i64 (T i_1))])),
  (AN 1),
  ((m : Nat) ≤ m),
  (AA m (fun i_1 => [.p (.int .i64 (Q i_1))])),
  (AN 2),
  ((1 : Nat) ≤ 1),
  ((1 : Nat) ≤ 1),
  (AI ((↑N : Int))),
  (AN nb),
  (AP nb (fun i_1 => [.int .i64 ((g i_1).1), .int .i64 ((g i_1).2.1)])),
  (AN 3),
  ((1 : Nat) ≤ 1),
  ((1 : Nat) ≤ 1),
  (AN 0),
  (AN N),
  (AN 0),
  (AN m),
  (AN 0),
  (AN m),
  (AN 3),
  ((1 : Nat) ≤ 1),
  ((1 : Nat) ≤ 1),
  (AN 1),
  ((N : Nat) ≤ N),
  (∀ i_1 : Nat, (((i_1 : Nat) < N) → (All (cvtL false [(6, ⟨false, 1, N, (fun i_2 => (if (i_2 = i) then [.p (.int .i64 (-1))] else [.p (.int .i64 (if i_2 < i then -1 else 0))]))⟩), (0, ⟨false, 1, N, (fun i_2 => [.p (.int .i64 (F i_2))])⟩), (1, ⟨false, 1, m, (fun i_2 => [.p (.int .i64 (T i_2))])⟩), (2, ⟨false, 1, m, (fun i_2 => [.p (.int .i64 (Q i_2))])⟩), (3, ⟨true, 2, 1, (fun i_2 => [.p (.int .i64 (↑N : Int)), .p (.seq true 2 nb (fun i_3 => [.int .i64 ((g i_3).1), .int .i64 ((g i_3).2.1)]))])⟩), (4, ⟨true, 3, 1, (fun i_2 => [.ar 1 0 0 N, .ar 1 1 0 m, .ar 1 2 0 m])⟩), (5, ⟨true, 3, 1, (fun i_2 => [.p (.nil), .p (.nil), .p (.nil)])⟩)] [0, 1, 2, 3, 4, 5, 6] 1 (if (i_1 = i) then [.p (.int .i64 (-1))] else [.p (.int .i64 (if i_1 < i then -1 else 0))])).2 ∧ (((cvtL false [(6, ⟨false, 1, N, (fun i_2 => (if (i_2 = i) then [.p (.int .i64 (-1))] else [.p (.int .i64 (if i_2 < i then -1 else 0))]))⟩), (0, ⟨false, 1, N, (fun i_2 => [.p (.int .i64 (F i_2))])⟩), (1, ⟨false, 1, m, (fun i_2 => [.p (.int .i64 (T i_2))])⟩), (2, ⟨false, 1, m, (fun i_2 => [.p (.int .i64 (Q i_2))])⟩), (3, ⟨true, 2, 1, (fun i_2 => [.p (.int .i64 (↑N : Int)), .p (.seq true 2 nb (fun i_3 => [.int .i64 ((g i_3).1), .int .i64 ((g i_3).2.1)]))])⟩), (4, ⟨true, 3, 1, (fun i_2 => [.ar 1 0 0 N, .ar 1 1 0 m, .ar 1 2 0 m])⟩), (5, ⟨true, 3, 1, (fun i_2 => [.p (.nil), .p (.nil), .p (.nil)])⟩)] [0, 1, 2, 3, 4, 5, 6] 1 (if (i_1 = i) then [.p (.int .i64 (-1))] else [.p (.int .i64 (if i_1 < i then -1 else 0))])).1 : List AV) = [.p (.int .i64 (if i_1 < i + 1 then -1 else 0))]))))]) := by kernel_rfl
theorem qF01 (g : Nat → T_Bar) (nb N m : Nat) (F T Q : Nat → Int) (a b : Int) (i : Nat) :
    pieceOb Try.prog 3 [.reg [oT, oT, oT, oT], .dec false, .reg [oT, oT, oT], .reg [oT, oT, oT, oT], .reg [oT, oT, oT, oT], .reg [oT], .head] [.code (cAt (bodyOf Try.f180) [1, 1, 0, 1, 0, 0]), .inLoop (cAt (bodyOf Try.f180) [1, 1, 0, 1, 0, 0]), .inBlock 0, .code (cAt (bodyOf Try.f180) [1, 1, 1])] (SF0 g nb N m F T Q a b i) [0, 1, 2, 3, 4, 5, 6, 295, 167] 1 (SF1 g nb N m F T Q (fun _ => a) (fun _ => -1) (fun s => if s = a.toNat then true else false) a b 0 1) =
    some ([.code (cAt (bodyOf Try.f180) [1, 1, 1, 1, 1, 1, 0, 1, 0, 0]), .inLoop (cAt (bodyOf Try.f180) [1, 1, 1, 1, 1, 1, 0, 1, 0, 0]), .inBlock 2, .code (cAt (bodyOf Try.f180) [1, 1, 1, 1, 1, 1, 1])], [((0 : Nat) < 1),
  ((decide ((↑i : Int) < (↑N : Int))) = false),
  ((0 : Nat) < 1),
  ((0 : Int) ≤ (↑N : Int)),
  (((↑N : Int) : Int) ≤ (↑N : Int)),
  ((((↑N : Int) * (↑1 : Int)) : Int) ≤ 281474976710656),
  (((↑N : Int) : Int) ≤ 9223372036854775807),
  ((0 : Int) ≤ a),
  ((a : Int) < (↑N : Int)),
  ((a.toNat : Nat) < N),
  ((false = true) → ((N : Nat) = 1)),
  (AI ((↑N : Int))),
  (AN nb),
  (AP nb (fun i_1 => [.int .i64 ((g i_1).1), .int .i64 ((g i_1).2.1)])),
  (AN 0),
  (AN N),
  (AN 0),
  (AN m),
  (AN 0),
  (AN m),
  (AI a),
  (AI b),
  (AN 0),
  (AN 0),
  (AN 0),
  (AN 0),
  (AN N),
  (AN 0),
  (AN 1),
  (AN 0),
  (AN N),
  ((0 : Int) = (↑0 : Int)),
  (AN 1),
  ((N : Nat) ≤ N),
  (AA N (fun i_1 => [.p (.int .i64 (F i_1))])),
  (AN 1),
  ((m : Nat) ≤ m),
  (AA m (fun i_1 => [.p (.int .i64 (T i_1))])),
  (AN 1),
  ((m : Nat) ≤ m),
  (AA m (fun i_1 => [.p (.int .i64 (Q i_1))])),
  (AN 2),
  ((1 : Nat) ≤ 1),
  ((1 : Nat) ≤ 1),
  (AI ((↑N : Int))),
  (AN nb),
  (AP nb (fun i_1 => [.int .i64 ((g i_1).1), .int .i64 ((g i_1).2.1)])),
  (AN 3),
  ((1 : Nat) ≤ 1),
  ((1 : Nat) ≤ 1),
  (AN 0),
  (AN N),
  (AN 0),
  (AN m),
  (AN 0),
  (AN m),
  (AN 3),
  ((1 : Nat) ≤ 1),
  ((1 : Nat) ≤ 1),
  (AN 1),
  ((N : Nat) ≤ N),
  (∀ i_1 : Nat, (((i_1 : Nat) < N) → (All [] ∧ (([.p (.int .i64 (if i_1 < i then -1 else 0))] : List AV) = [.p (.int .i64 (-1))])))),
  (AN 1),
  ((N : Nat) ≤ N),
  (∀ i_1 : Nat, (((i_1 : Nat) < N) → (All (cvtL false [(295, ⟨false, 1, N, (fun i_2 => (if (i_2 = a.toNat) then [.p (.bool true)] else [.p (.bool false)]))⟩), (167, ⟨false, 1, 1, (fun i_2 => [.p (.int .i64 a)])⟩), (0, ⟨false, 1, N, (fun i_2 => [.p (.int .i64 (F i_2))])⟩), (1, ⟨false, 1, m, (fun i_2 => [.p (.int .i64 (T i_2))])⟩), (2, ⟨false, 1, m, (fun i_2 => [.p (.int .i64 (Q i_2))])⟩), (3, ⟨true, 2, 1, (fun i_2 => [.p (.int .i64 (↑N : Int)), .p (.seq true 2 nb (fun i_3 => [.int .i64 ((g i_3).1), .int .i64 ((g i_3).2.1)]))])⟩), (4, ⟨true, 3, 1, (fun i_2 => [.ar 1 0 0 N, .ar 1 1 0 m, .ar 1 2 0 m])⟩), (5, ⟨true, 3, 1, (fun i_2 => [.p (.nil), .p (.nil), .p (.nil)])⟩), (6, ⟨false, 1, N, (fun i_2 => [.p (.int .i64 (if i_2 < i then -1 else 0))])⟩)] [0, 1, 2, 3, 4, 5, 6, 295, 167] 1 (if (i_1 = a.toNat) then [.p (.bool true)] else [.p (.bool false)])).2 ∧ (((cvtL false [(295, ⟨false, 1, N, (fun i_2 => (if (i_2 = a.toNat) then [.p (.bool true)] else [.p (.bool false)]))⟩), (167, ⟨false, 1, 1, (fun i_2 => [.p (.int .i64 a)])⟩), (0, ⟨false, 1, N, (fun i_2 => [.p (.int .i64 (F i_2))])⟩), (1, ⟨false, 1, m, (fun i_2 => [.p (.int .i64 (T i_2))])⟩), (2, ⟨false, 1, m, (fun i_2 => [.p (.int .i64 (Q i_2))])⟩), (3, ⟨true, 2, 1, (fun i_2 => [.p (.int .i64 (↑N : Int)), .p (.seq true 2 nb (fun i_3 => [.int .i64 ((g i_3).1), .int .i64 ((g i_3).2.1)]))])⟩), (4, ⟨true, 3, 1, (fun i_2 => [.ar 1 0 0 N, .ar 1 1 0 m, .ar 1 2 0 m])⟩), (5, ⟨true, 3, 1, (fun i_2 => [.p (.nil), .p (.nil), .p (.nil)])⟩), (6, ⟨false, 1, N, (fun i_2 => [.p (.int .i64 (if i_2 < i then -1 else 0))])⟩)] [0, 1, 2, 3, 4, 5, 6, 295, 167] 1 (if (i_1 = a.toNat) then [.p (.bool true)] else [.p (.bool false)])).1 : List AV) = [.p (.bool (if i_1 = a.toNat then true else false))])))),
  (AN 1),
  ((1 : Nat) ≤ 1),
  (AA 1 (fun i_1 => [.p (.int .i64 a)]))]) := by kernel_rfl
theorem qF1 (g : Nat → T_Bar) (nb N m : Nat) (F T Q td FR : Nat → Int) (SN : Nat → Bool) (a b : Int) (i tn : Nat) :
    pieceOb Try.prog 3 [.reg [oT, oT, oT, oT], .dec true, .reg [oT, oT, oT, oT, oT], .reg [oT], .head] [.code (cAt (bodyOf Try.f180) [1, 1, 1, 1, 1, 1, 0, 1, 0, 0]), .inLoop (cAt (bodyOf Try.f180) [1, 1, 1, 1, 1, 1, 0, 1, 0, 0]), .inBlock 2, .code (cAt (bodyOf Try.f180) [1, 1, 1, 1, 1, 1, 1])] (SF1 g nb N m F T Q td FR SN a b i tn) [0, 1, 2, 3, 4, 5, 6, 7, 8] 1 (SF2 g nb N m F T Q td FR SN a b (td i) i 0 tn) =
    some ([.code (cAt (bodyOf Try.f180) [1, 1, 1, 1, 1, 1, 0, 1, 0, 0, 1, 0, 0, 1, 1, 0, 0]), .inLoop (cAt (bodyOf Try.f180) [1, 1, 1, 1, 1, 1, 0, 1, 0, 0, 1, 0, 0, 1, 1, 0, 0]), .inBlock 4, .inBlock 3, .code (cAt (bodyOf Try.f180) [1, 1, 1, 1, 1, 1, 0, 1, 0, 0, 1, 1]), .inLoop (cAt (bodyOf Try.f180) [1, 1, 1, 1, 1, 1, 0, 1, 0, 0]), .inBlock 2, .code (cAt (bodyOf Try.f180) [1, 1, 1, 1, 1, 1, 1])], [((decide ((↑i : Int) < (↑tn : Int))) = true),
  ((0 : Int) ≤ (↑i : Int)),
  (((↑i : Int) : Int) < (↑tn : Int)),
  ((i : Nat) < tn),
  (AI ((↑N : Int))),
  (AN nb),
  (AP nb (fun i_1 => [.int .i64 ((g i_1).1), .int .i64 ((g i_1).2.1)])),
  (AN 0),
  (AN N),
  (AN 0),
  (AN m),
  (AN 0),
  (AN m),
  (AI a),
  (AI b),
  (AN 0),
  (AN 0),
  (AN 0),
  (AN 0),
  (AN N),
  (AN 0),
  (AN tn),
  (AN 0),
  (AN N),
  (AI ((↑i : Int))),
  (AI ((td i))),
  ((0 : Int) = (↑0 : Int)),
  (AN 1),
  ((N : Nat) ≤ N),
  (AA N (fun i_1 => [.p (.int .i64 (F i_1))])),
  (AN 1),
  ((m : Nat) ≤ m),
  (AA m (fun i_1 => [.p (.int .i64 (T i_1))])),
  (AN 1),
  ((m : Nat) ≤ m),
  (AA m (fun i_1 => [.p (.int .i64 (Q i_1))])),
  (AN 2),
  ((1 : Nat) ≤ 1),
  ((1 : Nat) ≤ 1),
  (AI ((↑N : Int))),
  (AN nb),
  (AP nb (fun i_1 => [.int .i64 ((g i_1).1), .int .i64 ((g i_1).2.1)])),
  (AN 3),
  ((1 : Nat) ≤ 1),
  ((1 : Nat) ≤ 1),
  (AN 0),
  (AN N),
  (AN 0),
  (AN m),
  (AN 0),
  (AN m),
  (AN 3),
  ((1 : Nat) ≤ 1),
  ((1 : Nat) ≤ 1),
  (AN 1),
  ((N : Nat) ≤ N),
  (AA N (fun i_1 => [.p (.int .i64 (FR i_1))])),
  (AN 1),
  ((N : Nat) ≤ N),
  (AA N (fun i_1 => [.p (.bool (SN i_1))])),
  (AN 1),
  ((tn : Nat) ≤ tn),
  (AA tn (fun i_1 => [.p (.int .i64 (td i_1))]))]) := by kernel_rfl
theorem qF1e (g : Nat → T_Bar) (nb N m : Nat) (F T Q td FR : Nat → Int) (SN : Nat → Bool) (a b : Int) (i tn : Nat) :
    pathOb Try.prog Try.f180 3 [.reg [oT, oT, oT, oT], .dec false, .reg [oT, oT, oT]] [.code (cAt (bodyOf Try.f180) [1, 1, 1, 1, 1, 1, 0, 1, 0, 0]), .inLoop (cAt (bodyOf Try.f180) [1, 1, 1, 1, 1, 1, 0, 1, 0, 0]), .inBlock 2, .code (cAt (bodyOf Try.f180) [1, 1, 1, 1, 1, 1, 1])] (SF1 g nb N m F T Q td FR SN a b i tn) [0, 1, 2] 1 (pebR N m F T Q) (.tup [pebO N m 0, .p (.bool false)]) =
    some [((decide ((↑i : Int) < (↑tn : Int))) = false),
  ((0 : Nat) < 1),
  ((0 : Nat) < 1),
  ((true = true) → (AN 1)),
  ((0 : Nat) < 1),
  (AN 0),
  (AN N),
  (AN 0),
  (AN m),
  (AN 0),
  (AN m),
  (false = false),
  (AN 1),
  ((N : Nat) ≤ N),
  (AA N (fun i_1 => [.p (.int .i64 (F i_1))])),
  (AN 1),
  ((m : Nat) ≤ m),
  (AA m (fun i_1 => [.p (.int .i64 (T i_1))])),
  (AN 1),
  ((m : Nat) ≤ m),
  (AA m (fun i_1 => [.p (.int .i64 (Q i_1))])),
  (AE N),
  (AE m),
  (AE m)] := by kernel_rfl
theorem qF2e (g : Nat → T_Bar) (nb N m : Nat) (F T Q td FR : Nat → Int) (SN : Nat → Bool) (a b v : Int) (i j tn : Nat) :
    pieceOb Try.prog 3 [.reg [oT, oT, oT, oT, oT], .dec false, .reg [oT, oT, oT], .head] [.code (cAt (bodyOf Try.f180) [1, 1, 1, 1, 1, 1, 0, 1, 0, 0, 1, 0, 0, 1, 1, 0, 0]), .inLoop (cAt (bodyOf Try.f180) [1, 1, 1, 1, 1, 1, 0, 1, 0, 0, 1, 0, 0, 1, 1, 0, 0]), .inBlock 4, .inBlock 3, .code (cAt (bodyOf Try.f180) [1, 1, 1, 1, 1, 1, 0, 1, 0, 0, 1, 1]), .inLoop (cAt (bodyOf Try.f180) [1, 1, 1, 1, 1, 1, 0, 1, 0, 0]), .inBlock 2, .code (cAt (bodyOf Try.f180) [1, 1, 1, 1, 1, 1, 1])] (SF2 g nb N m F T Q td FR SN a b v i j tn) [0, 1, 2, 3, 4, 5, 6, 7, 8] 1 (SF1 g nb N m F T Q td FR SN a b (i + 1) tn) =
    some ([.code (cAt (bodyOf Try.f180) [1, 1, 1, 1, 1, 1, 0, 1, 0, 0]), .inLoop (cAt (bodyOf Try.f180) [1, 1, 1, 1, 1, 1, 0, 1, 0, 0]), .inBlock 2, .code (cAt (bodyOf Try.f180) [1, 1, 1, 1, 1, 1, 1])], [((0 : Nat) < 1),
  ((decide ((↑j : Int) < (↑m : Int))) = false),
  (((-9223372036854775808) : Int) ≤ ((↑i : Int) + 1)),
  ((((↑i : Int) + 1) : Int) ≤ 9223372036854775807),
  (AI ((↑N : Int))),
  (AN nb),
  (AP nb (fun i_1 => [.int .i64 ((g i_1).1), .int .i64 ((g i_1).2.1)])),
  (AN 0),
  (AN N),
  (AN 0),
  (AN m),
  (AN 0),
  (AN m),
  (AI a),
  (AI b),
  (AN 0),
  (AN 0),
  (AN 0),
  (AN 0),
  (AN N),
  (AN 0),
  (AN tn),
  (AN 0),
  (AN N),
  ((((↑i : Int) + 1) : Int) = (↑(i + 1) : Int)),
  (AN 1),
  ((N : Nat) ≤ N),
  (AA N (fun i_1 => [.p (.int .i64 (F i_1))])),
  (AN 1),
  ((m : Nat) ≤ m),
  (AA m (fun i_1 => [.p (.int .i64 (T i_1))])),
  (AN 1),
  ((m : Nat) ≤ m),
  (AA m (fun i_1 => [.p (.int .i64 (Q i_1))])),
  (AN 2),
  ((1 : Nat) ≤ 1),
  ((1 : Nat) ≤ 1),
  (AI ((↑N : Int))),
  (AN nb),
  (AP nb (fun i_1 => [.int .i64 ((g i_1).1), .int .i64 ((g i_1).2.1)])),
  (AN 3),
  ((1 : Nat) ≤ 1),
  ((1 : Nat) ≤ 1),
  (AN 0),
  (AN N),
  (AN 0),
  (AN m),
  (AN 0),
  (AN m),
  (AN 3),
  ((1 : Nat) ≤ 1),
  ((1 : Nat) ≤ 1),
  (AN 1),
  ((N : Nat) ≤ N),
  (AA N (fun i_1 => [.p (.int .i64 (FR i_1))])),
  (AN 1),
  ((N : Nat) ≤ N),
  (AA N (fun i_1 => [.p (.bool (SN i_1))])),
  (AN 1),
  ((tn : Nat) ≤ tn),
  (AA tn (fun i_1 => [.p (.int .i64 (td i_1))]))]) := by kernel_rfl
theorem qF2a (g : Nat → T_Bar) (nb N m : Nat) (F T Q td FR : Nat → Int) (SN : Nat → Bool) (a b v : Int) (i j tn : Nat) :
    pieceOb Try.prog 3 [.reg [oT, oT, oT, oT, oT], .dec true, .reg [oT, oT, oT, oT, oT, oT, oT], .dec true, .reg [oT, oT, oT], .head] [.code (cAt (bodyOf Try.f180) [1, 1, 1, 1, 1, 1, 0, 1, 0, 0, 1, 0, 0, 1, 1, 0, 0]), .inLoop (cAt (bodyOf Try.f180) [1, 1, 1, 1, 1, 1, 0, 1, 0, 0, 1, 0, 0, 1, 1, 0, 0]), .inBlock 4, .inBlock 3, .code (cAt (bodyOf Try.f180) [1, 1, 1, 1, 1, 1, 0, 1, 0, 0, 1, 1]), .inLoop (cAt (bodyOf Try.f180) [1, 1, 1, 1, 1, 1, 0, 1, 0, 0]), .inBlock 2, .code (cAt (bodyOf Try.f180) [1, 1, 1, 1, 1, 1, 1])] (SF2 g nb N m F T Q td FR SN a b v i j tn) [0, 1, 2, 3, 4, 5, 6, 7, 8] 1 (SF2 g nb N m F T Q td FR SN a b v i (j + 1) tn) =
    some ([.code (cAt (bodyOf Try.f180) [1, 1, 1, 1, 1, 1, 0, 1, 0, 0, 1, 0, 0, 1, 1, 0, 0]), .inLoop (cAt (bodyOf Try.f180) [1, 1, 1, 1, 1, 1, 0, 1, 0, 0, 1, 0, 0, 1, 1, 0, 0]), .inBlock 4, .inBlock 3, .code (cAt (bodyOf Try.f180) [1, 1, 1, 1, 1, 1, 0, 1, 0, 0, 1, 1]), .inLoop (cAt (bodyOf Try.f180) [1, 1, 1, 1, 1, 1, 0, 1, 0, 0]), .inBlock 2, .code (cAt (bodyOf Try.f180) [1, 1, 1, 1, 1, 1, 1])], [((0 : Nat) < 1),
  ((decide ((↑j : Int) < (↑m : Int))) = true),
  ((0 : Nat) < 1),
  ((0 : Int) ≤ (↑j : Int)),
  (((↑j : Int) : Int) < (↑m : Int)),
  ((j : Nat) < m),
  ((T j != v) = true),
  (((-9223372036854775808) : Int) ≤ ((↑j : Int) + 1)),
  ((((↑j : Int) + 1) : Int) ≤ 9223372036854775807),
  (AI ((↑N : Int))),
  (AN nb),
  (AP nb (fun i_1 => [.int .i64 ((g i_1).1), .int .i64 ((g i_1).2.1)])),
  (AN 0),
  (AN N),
  (AN 0),
  (AN m),
  (AN 0),
  (AN m),
  (AI a),
  (AI b),
  (AN 0),
  (AN 0),
  (AN 0),
  (AN 0),
  (AN N),
  (AN 0),
  (AN tn),
  (AN 0),
  (AN N),
  (AI ((↑i : Int))),
  (AI v),
  ((((↑j : Int) + 1) : Int) = (↑(j + 1) : Int)),
  (AN 1),
  ((N : Nat) ≤ N),
  (AA N (fun i_1 => [.p (.int .i64 (F i_1))])),
  (AN 1),
  ((m : Nat) ≤ m),
  (AA m (fun i_1 => [.p (.int .i64 (T i_1))])),
  (AN 1),
  ((m : Nat) ≤ m),
  (AA m (fun i_1 => [.p (.int .i64 (Q i_1))])),
  (AN 2),
  ((1 : Nat) ≤ 1),
  ((1 : Nat) ≤ 1),
  (AI ((↑N : Int))),
  (AN nb),
  (AP nb (fun i_1 => [.int .i64 ((g i_1).1), .int .i64 ((g i_1).2.1)])),
  (AN 3),
  ((1 : Nat) ≤ 1),
  ((1 : Nat) ≤ 1),
  (AN 0),
  (AN N),
  (AN 0),
  (AN m),
  (AN 0),
  (AN m),
  (AN 3),
  ((1 : Nat) ≤ 1),
  ((1 : Nat) ≤ 1),
  (AN 1),
  ((N : Nat) ≤ N),
  (AA N (fun i_1 => [.p (.int .i64 (FR i_1))])),
  (AN 1),
  ((N : Nat) ≤ N),
  (AA N (fun i_1 => [.p (.bool (SN i_1))])),
  (AN 1),
  ((tn : Nat) ≤ tn),
  (AA tn (fun i_1 => [.p (.int .i64 (td i_1))]))]) := by kernel_rfl
theorem qF2b (g : Nat → T_Bar) (nb N m : Nat) (F T Q td FR : Nat → Int) (SN : Nat → Bool) (a b v u : Int) (i j tn : Nat) :
    pieceOb Try.prog 3 [.reg [oT, oT, oT, oT, oT], .dec true, .reg [oT, oT, oT, oT, oT, oT, oT], .dec false, .reg [oT, oT, oT, oT, oT, oT, oT, oT, oT, oT, ⟨true, (some ⟨[], [], [], 1, [], .p (.int .i64 u)⟩), none⟩, oT], .reg [oT, oT, oT, oT], .dec true, .reg [oT, oT, oT], .head] [.code (cAt (bodyOf Try.f180) [1, 1, 1, 1, 1, 1, 0, 1, 0, 0, 1, 0, 0, 1, 1, 0, 0]), .inLoop (cAt (bodyOf Try.f180) [1, 1, 1, 1, 1, 1, 0, 1, 0, 0, 1, 0, 0, 1, 1, 0, 0]), .inBlock 4, .inBlock 3, .code (cAt (bodyOf Try.f180) [1, 1, 1, 1, 1, 1, 0, 1, 0, 0, 1, 1]), .inLoop (cAt (bodyOf Try.f180) [1, 1, 1, 1, 1, 1, 0, 1, 0, 0]), .inBlock 2, .code (cAt (bodyOf Try.f180) [1, 1, 1, 1, 1, 1, 1])] (SF2 g nb N m F T Q td FR SN a b v i j tn) [0, 1, 2, 3, 4, 5, 6, 7, 8] 1 (SF2 g nb N m F T Q td FR SN a b v i (j + 1) tn) =
    some ([.code (cAt (bodyOf Try.f180) [1, 1, 1, 1, 1, 1, 0, 1, 0, 0, 1, 0, 0, 1, 1, 0, 0]), .inLoop (cAt (bodyOf Try.f180) [1, 1, 1, 1, 1, 1, 0, 1, 0, 0, 1, 0, 0, 1, 1, 0, 0]), .inBlock 4, .inBlock 3, .code (cAt (bodyOf Try.f180) [1, 1, 1, 1, 1, 1, 0, 1, 0, 0, 1, 1]), .inLoop (cAt (bodyOf Try.f180) [1, 1, 1, 1, 1, 1, 0, 1, 0, 0]), .inBlock 2, .code (cAt (bodyOf Try.f180) [1, 1, 1, 1, 1, 1, 1])], [((0 : Nat) < 1),
  ((decide ((↑j : Int) < (↑m : Int))) = true),
  ((0 : Nat) < 1),
  ((0 : Int) ≤ (↑j : Int)),
  (((↑j : Int) : Int) < (↑m : Int)),
  ((j : Nat) < m),
  ((T j != v) = false),
  ((0 : Nat) < 1),
  ((0 : Nat) < 1),
  ((0 : Int) ≤ (↑j : Int)),
  (((↑j : Int) : Int) < (↑m : Int)),
  ((j : Nat) < m),
  ((0 : Int) ≤ (Q j)),
  (((Q j) : Int) < (↑nb : Int)),
  Con Try.prog 189 0 [] [.agg [.p (.int .i64 ((g (Q j).toNat).1)), .p (.int .i64 ((g (Q j).toNat).2.1))], .p (.int .i64 v)] [] (.p (.int .i64 u)),
  ((0 : Int) ≤ u),
  ((u : Int) < (↑N : Int)),
  ((u.toNat : Nat) < N),
  ((SN u.toNat) = true),
  (((-9223372036854775808) : Int) ≤ ((↑j : Int) + 1)),
  ((((↑j : Int) + 1) : Int) ≤ 9223372036854775807),
  (AI ((↑N : Int))),
  (AN nb),
  (AP nb (fun i_1 => [.int .i64 ((g i_1).1), .int .i64 ((g i_1).2.1)])),
  (AN 0),
  (AN N),
  (AN 0),
  (AN m),
  (AN 0),
  (AN m),
  (AI a),
  (AI b),
  (AN 0),
  (AN 0),
  (AN 0),
  (AN 0),
  (AN N),
  (AN 0),
  (AN tn),
  (AN 0),
  (AN N),
  (AI ((↑i : Int))),
  (AI v),
  ((((↑j : Int) + 1) : Int) = (↑(j + 1) : Int)),
  (AN 1),
  ((N : Nat) ≤ N),
  (AA N (fun i_1 => [.p (.int .i64 (F i_1))])),
  (AN 1),
  ((m : Nat) ≤ m),
  (AA m (fun i_1 => [.p (.int .i64 (T i_1))])),
  (AN 1),
  ((m : Nat) ≤ m),
  (AA m (fun i_1 => [.p (.int .i64 (Q i_1))])),
  (AN 2),
  ((1 : Nat) ≤ 1),
  ((1 : Nat) ≤ 1),
  (AI ((↑N : Int))),
  (AN nb),
  (AP nb (fun i_1 => [.int .i64 ((g i_1).1), .int .i64 ((g i_1).2.1)])),
  (AN 3),
  ((1 : Nat) ≤ 1),
  ((1 : Nat) ≤ 1),
  (AN 0),
  (AN N),
  (AN 0),
  (AN m),
  (AN 0),
  (AN m),
  (AN 3),
  ((1 : Nat) ≤ 1),
  ((1 : Nat) ≤ 1),
  (AN 1),
  ((N : Nat) ≤ N),
  (AA N (fun i_1 => [.p (.int .i64 (FR i_1))])),
  (AN 1),
  ((N : Nat) ≤ N),
  (AA N (fun i_1 => [.p (.bool (SN i_1))])),
  (AN 1),
  ((tn : Nat) ≤ tn),
  (AA tn (fun i_1 => [.p (.int .i64 (td i_1))]))]) := by kernel_rfl
theorem qF2c (g : Nat → T_Bar) (nb N m : Nat) (F T Q td FR : Nat → Int) (SN : Nat → Bool) (a b v u : Int) (i j tn : Nat) :
    pieceOb Try.prog 3 [.reg [oT, oT, oT, oT, oT], .dec true, .reg [oT, oT, oT, oT, oT, oT, oT], .dec false, .reg [oT, oT, oT, oT, oT, oT, oT, oT, oT, oT, ⟨true, (some ⟨[], [], [], 1, [], .p (.int .i64 u)⟩), none⟩, oT], .reg [oT, oT, oT, oT], .dec false, .reg [oT, oT, oT, oT], .reg [oT, oT, oT, oT, oT], .reg [oT, oT, oT, oT, oT, oT, oT, oT, oT, oT, oT], .dec false, .reg [oT, oT, oT, oT, oT], .reg [oT, oT, oT], .head] [.code (cAt (bodyOf Try.f180) [1, 1, 1, 1, 1, 1, 0, 1, 0, 0, 1, 0, 0, 1, 1, 0, 0]), .inLoop (cAt (bodyOf Try.f180) [1, 1, 1, 1, 1, 1, 0, 1, 0, 0, 1, 0, 0, 1, 1, 0, 0]), .inBlock 4, .inBlock 3, .code (cAt (bodyOf Try.f180) [1, 1, 1, 1, 1, 1, 0, 1, 0, 0, 1, 1]), .inLoop (cAt (bodyOf Try.f180) [1, 1, 1, 1, 1, 1, 0, 1, 0, 0]), .inBlock 2, .code (cAt (bodyOf Try.f180) [1, 1, 1, 1, 1, 1, 1])] (SF2 g nb N m F T Q td FR SN a b v i j tn) [0, 1, 2, 3, 4, 5, 6, 7, 1641] 1 (SF2 g nb N m F T Q (fun s => if s < tn then td s else u) (fun s => if s = u.toNat then j else FR s) (fun s => if s = u.toNat then true else SN s) a b v i (j + 1) (tn + 1)) =
    some ([.code (cAt (bodyOf Try.f180) [1, 1, 1, 1, 1, 1, 0, 1, 0, 0, 1, 0, 0, 1, 1, 0, 0]), .inLoop (cAt (bodyOf Try.f180) [1, 1, 1, 1, 1, 1, 0, 1, 0, 0, 1, 0, 0, 1, 1, 0, 0]), .inBlock 4, .inBlock 3, .code (cAt (bodyOf Try.f180) [1, 1, 1, 1, 1, 1, 0, 1, 0, 0, 1, 1]), .inLoop (cAt (bodyOf Try.f180) [1, 1, 1, 1, 1, 1, 0, 1, 0, 0]), .inBlock 2, .code (cAt (bodyOf Try.f180) [1, 1, 1, 1, 1, 1, 1])], [((0 : Nat) < 1),
  ((decide ((↑j : Int) < (↑m : Int))) = true),
  ((0 : Nat) < 1),
  ((0 : Int) ≤ (↑j : Int)),
  (((↑j : Int) : Int) < (↑m : Int)),
  ((j : Nat) < m),
  ((T j != v) = false),
  ((0 : Nat) < 1),
  ((0 : Nat) < 1),
  ((0 : Int) ≤ (↑j : Int)),
  (((↑j : Int) : Int) < (↑m : Int)),
  ((j : Nat) < m),
  ((0 : Int) ≤ (Q j)),
  (((Q j) : Int) < (↑nb : Int)),
  Con Try.prog 189 0 [] [.agg [.p (.int .i64 ((g (Q j).toNat).1)), .p (.int .i64 ((g (Q j).toNat).2.1))], .p (.int .i64 v)] [] (.p (.int .i64 u)),
  ((0 : Int) ≤ u),
  ((u : Int) < (↑N : Int)),
  ((u.toNat : Nat) < N),
  ((SN u.toNat) = false),
  ((0 : Int) ≤ u),
  ((u : Int) < (↑N : Int)),
  ((u.toNat : Nat) < N),
  ((false = true) → ((N : Nat) = 1)),
  ((0 : Int) ≤ u),
  ((u : Int) < (↑N : Int)),
  ((u.toNat : Nat) < N),
  ((false = true) → ((N : Nat) = 1)),
  (AG (u != b)),
  (((u != b) = true) → ((0 : Nat) < 1)),
  (AG (u != b)),
  (AG (u != b)),
  (((u != b) = true) → ((0 : Int) ≤ u)),
  (((u != b) = true) → ((u : Int) < (↑N : Int))),
  (AG (u != b)),
  (((u != b) = true) → ((u.toNat : Nat) < N)),
  (AG (u != b)),
  (AG (u != b)),
  ((bif u != b then decide (F (u.toNat + 0) > 0) else false) = false),
  ((1 : Nat) ≤ 1),
  ((tn : Nat) ≤ tn),
  ((((tn + 1) * 8) : Nat) ≤ 140737488355328),
  (((tn + 1) : Nat) ≤ 9223372036854775807),
  (((-9223372036854775808) : Int) ≤ ((↑j : Int) + 1)),
  ((((↑j : Int) + 1) : Int) ≤ 9223372036854775807),
  (AI ((↑N : Int))),
  (AN nb),
  (AP nb (fun i_1 => [.int .i64 ((g i_1).1), .int .i64 ((g i_1).2.1)])),
  (AN 0),
  (AN N),
  (AN 0),
  (AN m),
  (AN 0),
  (AN m),
  (AI a),
  (AI b),
  (AN 0),
  (AN 0),
  (AN 0),
  (AN 0),
  (AN N),
  (AN 0),
  (AN ((tn + 1))),
  (AN 0),
  (AN N),
  (AI ((↑i : Int))),
  (AI v),
  ((((↑j : Int) + 1) : Int) = (↑(j + 1) : Int)),
  (AN 1),
  ((N : Nat) ≤ N),
  (AA N (fun i_1 => [.p (.int .i64 (F i_1))])),
  (AN 1),
  ((m : Nat) ≤ m),
  (AA m (fun i_1 => [.p (.int .i64 (T i_1))])),
  (AN 1),
  ((m : Nat) ≤ m),
  (AA m (fun i_1 => [.p (.int .i64 (Q i_1))])),
  (AN 2),
  ((1 : Nat) ≤ 1),
  ((1 : Nat) ≤ 1),
  (AI ((↑N : Int))),
  (AN nb),
  (AP nb (fun i_1 => [.int .i64 ((g i_1).1), .int .i64 ((g i_1).2.1)])),
  (AN 3),
  ((1 : Nat) ≤ 1),
  ((1 : Nat) ≤ 1),
  (AN 0),
  (AN N),
  (AN 0),
  (AN m),
  (AN 0),
  (AN m),
  (AN 3),
  ((1 : Nat) ≤ 1),
  ((1 : Nat) ≤ 1),
  (AN 1),
  ((N : Nat) ≤ N),
  (∀ i_1 : Nat, (((i_1 : Nat) < N) → (All (cvtL false [(1641, ⟨false, 1, (tn + 1), (fun i_2 => (if (i_2 < tn) then [.p (.int .i64 (td i_2))] else [.p (.int .i64 u)]))⟩), (1609, ⟨false, 1, 1, (fun i_2 => [.p (.int .i64 u)])⟩), (6, ⟨false, 1, N, (fun i_2 => (if (i_2 = u.toNat) then [.p (.int .i64 (↑j : Int))] else [.p (.int .i64 (FR i_2))]))⟩), (7, ⟨false, 1, N, (fun i_2 => (if (i_2 = u.toNat) then [.p (.bool true)] else [.p (.bool (SN i_2))]))⟩), (0, ⟨false, 1, N, (fun i_2 => [.p (.int .i64 (F i_2))])⟩), (1, ⟨false, 1, m, (fun i_2 => [.p (.int .i64 (T i_2))])⟩), (2, ⟨false, 1, m, (fun i_2 => [.p (.int .i64 (Q i_2))])⟩), (3, ⟨true, 2, 1, (fun i_2 => [.p (.int .i64 (↑N : Int)), .p (.seq true 2 nb (fun i_3 => [.int .i64 ((g i_3).1), .int .i64 ((g i_3).2.1)]))])⟩), (4, ⟨true, 3, 1, (fun i_2 => [.ar 1 0 0 N, .ar 1 1 0 m, .ar 1 2 0 m])⟩), (5, ⟨true, 3, 1, (fun i_2 => [.p (.nil), .p (.nil), .p (.nil)])⟩)] [0, 1, 2, 3, 4, 5, 6, 7, 1641] 1 (if (i_1 = u.toNat) then [.p (.int .i64 (↑j : Int))] else [.p (.int .i64 (FR i_1))])).2 ∧ (((cvtL false [(1641, ⟨false, 1, (tn + 1), (fun i_2 => (if (i_2 < tn) then [.p (.int .i64 (td i_2))] else [.p (.int .i64 u)]))⟩), (1609, ⟨false, 1, 1, (fun i_2 => [.p (.int .i64 u)])⟩), (6, ⟨false, 1, N, (fun i_2 => (if (i_2 = u.toNat) then [.p (.int .i64 (↑j : Int))] else [.p (.int .i64 (FR i_2))]))⟩), (7, ⟨false, 1, N, (fun i_2 => (if (i_2 = u.toNat) then [.p (.bool true)] else [.p (.bool (SN i_2))]))⟩), (0, ⟨false, 1, N, (fun i_2 => [.p (.int .i64 (F i_2))])⟩), (1, ⟨false, 1, m, (fun i_2 => [.p (.int .i64 (T i_2))])⟩), (2, ⟨false, 1, m, (fun i_2 => [.p (.int .i64 (Q i_2))])⟩), (3, ⟨true, 2, 1, (fun i_2 => [.p (.int .i64 (↑N : Int)), .p (.seq true 2 nb (fun i_3 => [.int .i64 ((g i_3).1), .int .i64 ((g i_3).2.1)]))])⟩), (4, ⟨true, 3, 1, (fun i_2 => [.ar 1 0 0 N, .ar 1 1 0 m, .ar 1 2 0 m])⟩), (5, ⟨true, 3, 1, (fun i_2 => [.p (.nil), .p (.nil), .p (.nil)])⟩)] [0, 1, 2, 3, 4, 5, 6, 7, 1641] 1 (if (i_1 = u.toNat) then [.p (.int .i64 (↑j : Int))] else [.p (.int .i64 (FR i_1))])).1 : List AV) = [.p (.int .i64 (if i_1 = u.toNat then (↑j : Int) else FR i_1))])))),
  (AN 1),
  ((N : Nat) ≤ N),
  (∀ i_1 : Nat, (((i_1 : Nat) < N) → (All (cvtL false [(1641, ⟨false, 1, (tn + 1), (fun i_2 => (if (i_2 < tn) then [.p (.int .i64 (td i_2))] else [.p (.int .i64 u)]))⟩), (1609, ⟨false, 1, 1, (fun i_2 => [.p (.int .i64 u)])⟩), (6, ⟨false, 1, N, (fun i_2 => (if (i_2 = u.toNat) then [.p (.int .i64 (↑j : Int))] else [.p (.int .i64 (FR i_2))]))⟩), (7, ⟨false, 1, N, (fun i_2 => (if (i_2 = u.toNat) then [.p (.bool true)] else [.p (.bool (SN i_2))]))⟩), (0, ⟨false, 1, N, (fun i_2 => [.p (.int .i64 (F i_2))])⟩), (1, ⟨false, 1, m, (fun i_2 => [.p (.int .i64 (T i_2))])⟩), (2, ⟨false, 1, m, (fun i_2 => [.p (.int .i64 (Q i_2))])⟩), (3, ⟨true, 2, 1, (fun i_2 => [.p (.int .i64 (↑N : Int)), .p (.seq true 2 nb (fun i_3 => [.int .i64 ((g i_3).1), .int .i64 ((g i_3).2.1)]))])⟩), (4, ⟨true, 3, 1, (fun i_2 => [.ar 1 0 0 N, .ar 1 1 0 m, .ar 1 2 0 m])⟩), (5, ⟨true, 3, 1, (fun i_2 => [.p (.nil), .p (.nil), .p (.nil)])⟩)] [0, 1, 2, 3, 4, 5, 6, 7, 1641] 1 (if (i_1 = u.toNat) then [.p (.bool true)] else [.p (.bool (SN i_1))])).2 ∧ (((cvtL false [(1641, ⟨false, 1, (tn + 1), (fun i_2 => (if (i_2 < tn) then [.p (.int .i64 (td i_2))] else [.p (.int .i64 u)]))⟩), (1609, ⟨false, 1, 1, (fun i_2 => [.p (.int .i64 u)])⟩), (6, ⟨false, 1, N, (fun i_2 => (if (i_2 = u.toNat) then [.p (.int .i64 (↑j : Int))] else [.p (.int .i64 (FR i_2))]))⟩), (7, ⟨false, 1, N, (fun i_2 => (if (i_2 = u.toNat) then [.p (.bool true)] else [.p (.bool (SN i_2))]))⟩), (0, ⟨false, 1, N, (fun i_2 => [.p (.int .i64 (F i_2))])⟩), (1, ⟨false, 1, m, (fun i_2 => [.p (.int .i64 (T i_2))])⟩), (2, ⟨false, 1, m, (fun i_2 => [.p (.int .i64 (Q i_2))])⟩), (3, ⟨true, 2, 1, (fun i_2 => [.p (.int .i64 (↑N : Int)), .p (.seq true 2 nb (fun i_3 => [.int .i64 ((g i_3).1), .int .i64 ((g i_3).2.1)]))])⟩), (4, ⟨true, 3, 1, (fun i_2 => [.ar 1 0 0 N, .ar 1 1 0 m, .ar 1 2 0 m])⟩), (5, ⟨true, 3, 1, (fun i_2 => [.p (.nil), .p (.nil), .p (.nil)])⟩)] [0, 1, 2, 3, 4, 5, 6, 7, 1641] 1 (if (i_1 = u.toNat) then [.p (.bool true)] else [.p (.bool (SN i_1))])).1 : List AV) = [.p (.bool (if i_1 = u.toNat then true else SN i_1))])))),
  (AN 1),
  (((tn + 1) : Nat) ≤ (tn + 1)),
  (∀ i_1 : Nat, (((i_1 : Nat) < (tn + 1)) → (All (cvtL false [(1641, ⟨false, 1, (tn + 1), (fun i_2 => (if (i_2 < tn) then [.p (.int .i64 (td i_2))] else [.p (.int .i64 u)]))⟩), (1609, ⟨false, 1, 1, (fun i_2 => [.p (.int .i64 u)])⟩), (6, ⟨false, 1, N, (fun i_2 => (if (i_2 = u.toNat) then [.p (.int .i64 (↑j : Int))] else [.p (.int .i64 (FR i_2))]))⟩), (7, ⟨false, 1, N, (fun i_2 => (if (i_2 = u.toNat) then [.p (.bool true)] else [.p (.bool (SN i_2))]))⟩), (0, ⟨false, 1, N, (fun i_2 => [.p (.int .i64 (F i_2))])⟩), (1, ⟨false, 1, m, (fun i_2 => [.p (.int .i64 (T i_2))])⟩), (2, ⟨false, 1, m, (fun i_2 => [.p (.int .i64 (Q i_2))])⟩), (3, ⟨true, 2, 1, (fun i_2 => [.p (.int .i64 (↑N : Int)), .p (.seq true 2 nb (fun i_3 => [.int .i64 ((g i_3).1), .int .i64 ((g i_3).2.1)]))])⟩), (4, ⟨true, 3, 1, (fun i_2 => [.ar 1 0 0 N, .ar 1 1 0 m, .ar 1 2 0 m])⟩), (5, ⟨true, 3, 1, (fun i_2 => [.p (.nil), .p (.nil), .p (.nil)])⟩)] [0, 1, 2, 3, 4, 5, 6, 7, 1641] 1 (if (i_1 < tn) then [.p (.int .i64 (td i_1))] else [.p (.int .i64 u)])).2 ∧ (((cvtL false [(1641, ⟨false, 1, (tn + 1), (fun i_2 => (if (i_2 < tn) then [.p (.int .i64 (td i_2))] else [.p (.int .i64 u)]))⟩), (1609, ⟨false, 1, 1, (fun i_2 => [.p (.int .i64 u)])⟩), (6, ⟨false, 1, N, (fun i_2 => (if (i_2 = u.toNat) then [.p (.int .i64 (↑j : Int))] else [.p (.int .i64 (FR i_2))]))⟩), (7, ⟨false, 1, N, (fun i_2 => (if (i_2 = u.toNat) then [.p (.bool true)] else [.p (.bool (SN i_2))]))⟩), (0, ⟨false, 1, N, (fun i_2 => [.p (.int .i64 (F i_2))])⟩), (1, ⟨false, 1, m, (fun i_2 => [.p (.int .i64 (T i_2))])⟩), (2, ⟨false, 1, m, (fun i_2 => [.p (.int .i64 (Q i_2))])⟩), (3, ⟨true, 2, 1, (fun i_2 => [.p (.int .i64 (↑N : Int)), .p (.seq true 2 nb (fun i_3 => [.int .i64 ((g i_3).1), .int .i64 ((g i_3).2.1)]))])⟩), (4, ⟨true, 3, 1, (fun i_2 => [.ar 1 0 0 N, .ar 1 1 0 m, .ar 1 2 0 m])⟩), (5, ⟨true, 3, 1, (fun i_2 => [.p (.nil), .p (.nil), .p (.nil)])⟩)] [0, 1, 2, 3, 4, 5, 6, 7, 1641] 1 (if (i_1 < tn) then [.p (.int .i64 (td i_1))] else [.p (.int .i64 u)])).1 : List AV) = [.p (.int .i64 (if i_1 < tn then td i_1 else u))]))))]) := by kernel_rfl
theorem qF2d (g : Nat → T_Bar) (nb N m : Nat) (F T Q td FR : Nat → Int) (SN : Nat → Bool) (a b v u : Int) (i j tn : Nat) :
    pieceOb Try.prog 3 [.reg [oT, oT, oT, oT, oT], .dec true, .reg [oT, oT, oT, oT, oT, oT, oT], .dec false, .reg [oT, oT, oT, oT, oT, oT, oT, oT, oT, oT, ⟨true, (some ⟨[], [], [], 1, [], .p (.int .i64 u)⟩), none⟩, oT], .reg [oT, oT, oT, oT], .dec false, .reg [oT, oT, oT, oT], .reg [oT, oT, oT, oT, oT], .reg [oT, oT, oT, oT, oT, oT, oT, oT, oT, oT, oT], .dec true, .head] [.code (cAt (bodyOf Try.f180) [1, 1, 1, 1, 1, 1, 0, 1, 0, 0, 1, 0, 0, 1, 1, 0, 0]), .inLoop (cAt (bodyOf Try.f180) [1, 1, 1, 1, 1, 1, 0, 1, 0, 0, 1, 0, 0, 1, 1, 0, 0]), .inBlock 4, .inBlock 3, .code (cAt (bodyOf Try.f180) [1, 1, 1, 1, 1, 1, 0, 1, 0, 0, 1, 1]), .inLoop (cAt (bodyOf Try.f180) [1, 1, 1, 1, 1, 1, 0, 1, 0, 0]), .inBlock 2, .code (cAt (bodyOf Try.f180) [1, 1, 1, 1, 1, 1, 1])] (SF2 g nb N m F T Q td FR SN a b v i j tn) [0, 1, 2, 3, 4, 5, 6] 1 (SF3 g nb N m F T Q (fun s => if s = u.toNat then j else FR s) a b u) =
    some ([.code (cAt (bodyOf Try.f180) [1, 1, 1, 1, 1, 1, 0, 1, 0, 0, 1, 0, 0, 1, 1, 0, 0, 1, 0, 0, 1, 1, 1, 1, 1, 0, 1, 0, 0]), .code .ret, .code (cAt (bodyOf Try.f180) [1, 1, 1, 1, 1, 1, 0, 1, 0, 0, 1, 0, 0, 1, 1, 0, 0, 1, 0, 0, 1, 1, 1, 1, 1, 1]), .inBlock 5, .code (cAt (bodyOf Try.f180) [1, 1, 1, 1, 1, 1, 0, 1, 0, 0, 1, 0, 0, 1, 1, 0, 0, 1, 1]), .inLoop (cAt (bodyOf Try.f180) [1, 1, 1, 1, 1, 1, 0, 1, 0, 0, 1, 0, 0, 1, 1, 0, 0]), .inBlock 4, .inBlock 3, .code (cAt (bodyOf Try.f180) [1, 1, 1, 1, 1, 1, 0, 1, 0, 0, 1, 1]), .inLoop (cAt (bodyOf Try.f180) [1, 1, 1, 1, 1, 1, 0, 1, 0, 0]), .inBlock 2, .code (cAt (bodyOf Try.f180) [1, 1, 1, 1, 1, 1, 1])], [((0 : Nat) < 1),
  ((decide ((↑j : Int) < (↑m : Int))) = true),
  ((0 : Nat) < 1),
  ((0 : Int) ≤ (↑j : Int)),
  (((↑j : Int) : Int) < (↑m : Int)),
  ((j : Nat) < m),
  ((T j != v) = false),
  ((0 : Nat) < 1),
  ((0 : Nat) < 1),
  ((0 : Int) ≤ (↑j : Int)),
  (((↑j : Int) : Int) < (↑m : Int)),
  ((j : Nat) < m),
  ((0 : Int) ≤ (Q j)),
  (((Q j) : Int) < (↑nb : Int)),
  Con Try.prog 189 0 [] [.agg [.p (.int .i64 ((g (Q j).toNat).1)), .p (.int .i64 ((g (Q j).toNat).2.1))], .p (.int .i64 v)] [] (.p (.int .i64 u)),
  ((0 : Int) ≤ u),
  ((u : Int) < (↑N : Int)),
  ((u.toNat : Nat) < N),
  ((SN u.toNat) = false),
  ((0 : Int) ≤ u),
  ((u : Int) < (↑N : Int)),
  ((u.toNat : Nat) < N),
  ((false = true) → ((N : Nat) = 1)),
  ((0 : Int) ≤ u),
  ((u : Int) < (↑N : Int)),
  ((u.toNat : Nat) < N),
  ((false = true) → ((N : Nat) = 1)),
  (AG (u != b)),
  (((u != b) = true) → ((0 : Nat) < 1)),
  (AG (u != b)),
  (AG (u != b)),
  (((u != b) = true) → ((0 : Int) ≤ u)),
  (((u != b) = true) → ((u : Int) < (↑N : Int))),
  (AG (u != b)),
  (((u != b) = true) → ((u.toNat : Nat) < N)),
  (AG (u != b)),
  (AG (u != b)),
  ((bif u != b then decide (F (u.toNat + 0) > 0) else false) = true),
  (AI ((↑N : Int))),
  (AN nb),
  (AP nb (fun i_1 => [.int .i64 ((g i_1).1), .int .i64 ((g i_1).2.1)])),
  (AN 0),
  (AN N),
  (AN 0),
  (AN m),
  (AN 0),
  (AN m),
  (AI a),
  (AI b),
  (AN 0),
  (AN 0),
  (AN 0),
  (AN 0),
  (AN N),
  (AI u),
  (AN 1),
  ((N : Nat) ≤ N),
  (AA N (fun i_1 => [.p (.int .i64 (F i_1))])),
  (AN 1),
  ((m : Nat) ≤ m),
  (AA m (fun i_1 => [.p (.int .i64 (T i_1))])),
  (AN 1),
  ((m : Nat) ≤ m),
  (AA m (fun i_1 => [.p (.int .i64 (Q i_1))])),
  (AN 2),
  ((1 : Nat) ≤ 1),
  ((1 : Nat) ≤ 1),
  (AI ((↑N : Int))),
  (AN nb),
  (AP nb (fun i_1 => [.int .i64 ((g i_1).1), .int .i64 ((g i_1).2.1)])),
  (AN 3),
  ((1 : Nat) ≤ 1),
  ((1 : Nat) ≤ 1),
  (AN 0),
  (AN N),
  (AN 0),
  (AN m),
  (AN 0),
  (AN m),
  (AN 3),
  ((1 : Nat) ≤ 1),
  ((1 : Nat) ≤ 1),
  (AN 1),
  ((N : Nat) ≤ N),
  (∀ i_1 : Nat, (((i_1 : Nat) < N) → (All (cvtL false [(6, ⟨false, 1, N, (fun i_2 => (if (i_2 = u.toNat) then [.p (.int .i64 (↑j : Int))] else [.p (.int .i64 (FR i_2))]))⟩), (7, ⟨false, 1, N, (fun i_2 => (if (i_2 = u.toNat) then [.p (.bool true)] else [.p (.bool (SN i_2))]))⟩), (0, ⟨false, 1, N, (fun i_2 => [.p (.int .i64 (F i_2))])⟩), (1, ⟨false, 1, m, (fun i_2 => [.p (.int .i64 (T i_2))])⟩), (2, ⟨false, 1, m, (fun i_2 => [.p (.int .i64 (Q i_2))])⟩), (3, ⟨true, 2, 1, (fun i_2 => [.p (.int .i64 (↑N : Int)), .p (.seq true 2 nb (fun i_3 => [.int .i64 ((g i_3).1), .int .i64 ((g i_3).2.1)]))])⟩), (4, ⟨true, 3, 1, (fun i_2 => [.ar 1 0 0 N, .ar 1 1 0 m, .ar 1 2 0 m])⟩), (5, ⟨true, 3, 1, (fun i_2 => [.p (.nil), .p (.nil), .p (.nil)])⟩), (8, ⟨false, 1, tn, (fun i_2 => [.p (.int .i64 (td i_2))])⟩)] [0, 1, 2, 3, 4, 5, 6] 1 (if (i_1 = u.toNat) then [.p (.int .i64 (↑j : Int))] else [.p (.int .i64 (FR i_1))])).2 ∧ (((cvtL false [(6, ⟨false, 1, N, (fun i_2 => (if (i_2 = u.toNat) then [.p (.int .i64 (↑j : Int))] else [.p (.int .i64 (FR i_2))]))⟩), (7, ⟨false, 1, N, (fun i_2 => (if (i_2 = u.toNat) then [.p (.bool true)] else [.p (.bool (SN i_2))]))⟩), (0, ⟨false, 1, N, (fun i_2 => [.p (.int .i64 (F i_2))])⟩), (1, ⟨false, 1, m, (fun i_2 => [.p (.int .i64 (T i_2))])⟩), (2, ⟨false, 1, m, (fun i_2 => [.p (.int .i64 (Q i_2))])⟩), (3, ⟨true, 2, 1, (fun i_2 => [.p (.int .i64 (↑N : Int)), .p (.seq true 2 nb (fun i_3 => [.int .i64 ((g i_3).1), .int .i64 ((g i_3).2.1)]))])⟩), (4, ⟨true, 3, 1, (fun i_2 => [.ar 1 0 0 N, .ar 1 1 0 m, .ar 1 2 0 m])⟩), (5, ⟨true, 3, 1, (fun i_2 => [.p (.nil), .p (.nil), .p (.nil)])⟩), (8, ⟨false, 1, tn, (fun i_2 => [.p (.int .i64 (td i_2))])⟩)] [0, 1, 2, 3, 4, 5, 6] 1 (if (i_1 = u.toNat) then [.p (.int .i64 (↑j : Int))] else [.p (.int .i64 (FR i_1))])).1 : List AV) = [.p (.int .i64 (if i_1 = u.toNat then (↑j : Int) else FR i_1))]))))]) := by kernel_rfl
theorem qF3 (g : Nat → T_Bar) (nb N m : Nat) (F T Q FR F1 T1 : Nat → Int) (a b u : Int) :
    pathOb Try.prog Try.f180 3 [.reg [oT, oT, oT, oT, oT, ⟨true, (some ⟨[], [], [], 1, pebR N m F1 T1 Q, pebO N m 0⟩), none⟩, oT, oT]] [.code (cAt (bodyOf Try.f180) [1, 1, 1, 1, 1, 1, 0, 1, 0, 0, 1, 0, 0, 1, 1, 0, 0, 1, 0, 0, 1, 1, 1, 1, 1, 0, 1, 0, 0]), .code .ret, .code (cAt (bodyOf Try.f180) [1, 1, 1, 1, 1, 1, 0, 1, 0, 0, 1, 0, 0, 1, 1, 0, 0, 1, 0, 0, 1, 1, 1, 1, 1, 1]), .inBlock 5, .code (cAt (bodyOf Try.f180) [1, 1, 1, 1, 1, 1, 0, 1, 0, 0, 1, 0, 0, 1, 1, 0, 0, 1, 1]), .inLoop (cAt (bodyOf Try.f180) [1, 1, 1, 1, 1, 1, 0, 1, 0, 0, 1, 0, 0, 1, 1, 0, 0]), .inBlock 4, .inBlock 3, .code (cAt (bodyOf Try.f180) [1, 1, 1, 1, 1, 1, 0, 1, 0, 0, 1, 1]), .inLoop (cAt (bodyOf Try.f180) [1, 1, 1, 1, 1, 1, 0, 1, 0, 0]), .inBlock 2, .code (cAt (bodyOf Try.f180) [1, 1, 1, 1, 1, 1, 1])] (SF3 g nb N m F T Q FR a b u) [0, 1, 2, 167, 168, 169] 1 (pebR3 N m F T Q F1 T1 Q) (.tup [pebO N m 3, .p (.bool true)]) =
    some [((0 : Nat) < 1),
  ((0 : Nat) < 1),
  (AN 1),
  ((N : Nat) ≤ N),
  (AN 1),
  ((m : Nat) ≤ m),
  (AN 1),
  ((m : Nat) ≤ m),
  (AN 1),
  ((N : Nat) ≤ N),
  Con Try.prog 190 0 [] [.agg [.p (.int .i64 (↑N : Int)), .p (.seq true 2 nb (fun i => [.int .i64 ((g i).1), .int .i64 ((g i).2.1)]))], .agg [.p (.seq true 1 N (fun i => [.int .i64 (F i)])), .p (.seq true 1 m (fun i => [.int .i64 (T i)])), .p (.seq true 1 m (fun i => [.int .i64 (Q i)]))], .p (.seq true 1 N (fun i => [.int .i64 (FR i)])), .p (.int .i64 a), .p (.int .i64 u)] [(0, ⟨false, 1, N, (fun i => [.p (.int .i64 (F1 i))])⟩), (1, ⟨false, 1, m, (fun i => [.p (.int .i64 (T1 i))])⟩), (2, ⟨false, 1, m, (fun i => [.p (.int .i64 (Q i))])⟩)] (.agg [.ar 1 0 0 N, .ar 1 1 0 m, .ar 1 2 0 m]),
  ((0 : Nat) < 1),
  ((true = true) → (AN 1)),
  ((0 : Nat) < 1),
  (AN 0),
  (AN N),
  (AN 0),
  (AN m),
  (AN 0),
  (AN m),
  (true = true),
  (AN 1),
  ((N : Nat) ≤ N),
  (AA N (fun i => [.p (.int .i64 (F i))])),
  (AN 1),
  ((m : Nat) ≤ m),
  (AA m (fun i => [.p (.int .i64 (T i))])),
  (AN 1),
  ((m : Nat) ≤ m),
  (AA m (fun i => [.p (.int .i64 (Q i))])),
  (AN 1),
  ((N : Nat) ≤ N),
  (AA N (fun i => [.p (.int .i64 (F1 i))])),
  (AN 1),
  ((m : Nat) ≤ m),
  (AA m (fun i => [.p (.int .i64 (T1 i))])),
  (AN 1),
  ((m : Nat) ≤ m),
  (AA m (fun i => [.p (.int .i64 (Q i))])),
  (AE N),
  (AE m),
  (AE m),
  (AE N),
  (AE m),
  (AE m)] := by kernel_rfl
end Go.Proofs.Ytffnfeefjdmifaa.Mach
namespace Go.Proofs.Ytffnfeefjdmifaa.Mach
open Go
set_option linter.unusedVariables false
set_option linter.unusedSimpArgs false
theorem con_l4Other (x : T_Bar) (v : Int) (h1 : 0 ≤ x.1 ∧ x.1 ≤ 1048576) (h2 : 0 ≤ x.2.1 ∧ x.2.1 ≤ 1048576) (h3 : 0 ≤ v ∧ v ≤ 1048576) : Con Try.prog 189 0 [] [brA x, .p (.int .i64 v)] [] (.p (.int .i64 (x.1 + x.2.1 - v))) := by
  refine con_start Try.func189 rfl (by kernel_rfl) rfl (fun c hc => ?_)
  refine path_ok mixed Try.func189 hc (qOt x v) ?_
  simp only [All]
  repeat' (first | exact trivial | with_reducible apply And.intro)
  all_goals (first | exact aG _ | exact aP _ _ | exact aA _ _ | exact aE _ | omega | rfl | (intros; first | assumption | exact True.intro | rfl | exact absurd (show false = true by assumption) Bool.false_ne_true | ((repeat' (first | assumption | apply anda | apply notf)); done)) | simp)
theorem con_l4Copy (N m : Nat) (F T Q : Nat → Int) (hN : N ≤ 1048576) (hm : m ≤ 1048576) : Con Try.prog 161 0 [] [pebD N m F T Q] (pebR N m F T Q) (pebO N m 0) := by
  refine con_start Try.func161 rfl (by kernel_rfl) rfl (fun c hc => ?_)
  refine path_ok mixed Try.func161 hc (qCp N m F T Q) ?_
  simp only [All]
  repeat' (first | exact trivial | with_reducible apply And.intro)
  all_goals (first | exact aG _ | exact aP _ _ | exact aA _ _ | exact aE _ | omega | rfl | (intros; first | assumption | exact True.intro | rfl | exact absurd (show false = true by assumption) Bool.false_ne_true | ((repeat' (first | assumption | apply anda | apply notf)); done)) | (intro i hi; simp [All]))
theorem oth_sum {x : T_Bar} {y z : Int} (h : y = x.1 ∨ y = x.2.1) (hz : othF x y = z) : x.1 + x.2.1 - z = y ∧ x.1 + x.2.1 - y = z := by
  unfold othF at hz
  by_cases e : x.1 = y
  · rw [if_pos e] at hz; omega
  · rw [if_neg e] at hz
    rcases h with h | h
    · exact absurd h.symm e
    · omega
theorem run_shift {N nb m : Nat} {g : Nat → T_Bar} {F F0 F1 T Q td FR : Nat → Int} {a b u : Int} {tn : Nat} (h : BInv N m g F T Q td (fun s => FR (td s).toNat) a b tn) (hN : N ≤ 1048576) (hm : m ≤ 1048576) (hnb : nb ≤ 1048576)
    (hq : ∀ j, j < m → 0 ≤ Q j ∧ Q j < nb) (hbar : ∀ e, e < nb → 0 ≤ (g e).1 ∧ (g e).1 < (g e).2.1 ∧ (g e).2.1 < N) (hT : ∀ j, j < m → T j = (g (Q j).toNat).1 ∨ T j = (g (Q j).toNat).2.1) :
    ∀ s, s < tn → ∀ T' : Nat → Int, TInv m g T Q td (fun s => FR (td s).toNat) T' u s → ∃ T'' s', (∀ c, c.n = 0 → Run Try.prog c 190 [.code (cAt (bodyOf Try.f190) [1, 1, 1, 1, 1, 0, 0, 0]), .inLoop (cAt (bodyOf Try.f190) [1, 1, 1, 1, 1, 0, 0, 0]), .inBlock 0, .code (cAt (bodyOf Try.f190) [1, 1, 1, 1, 1, 1])] (SSl g nb N m F0 T Q FR F1 T' a u (td s)) (Post c (pebR N m F1 T'' Q) (pebO N m 0))) ∧
      TInv m g T Q td (fun s => FR (td s).toNat) T'' u s' ∧ td s' = a := by
  intro s
  induction s using Nat.strongRecOn with
  | ind s ih =>
    intro hs T' ht
    by_cases he : td s = a
    · refine ⟨T', s, fun c hc => ?_, ht, he⟩
      have hb : (td s != a) = false := by simp [he]
      refine path_ok mixed Try.func190 hc (qSe g nb N m F0 T Q FR F1 T' a u (td s)) ?_
      simp only [All]
      repeat' (first | exact trivial | with_reducible apply And.intro)
      all_goals (first | exact aG _ | exact aP _ _ | exact aA _ _ | exact aE _ | omega | rfl | (intros; first | assumption | exact True.intro | rfl | exact absurd (show false = true by assumption) Bool.false_ne_true | ((repeat' (first | assumption | apply anda | apply notf)); done)) | (exact hb) | (intro i hi; simp [All]))
    · have hs1 : 1 ≤ s := by
        cases s with
        | zero => exact absurd h.td0 he
        | succ s => omega
      obtain ⟨j, hj, hVs, s', hs', hk, ht', hTj, hoth⟩ := ht.step h hs hs1
      have hVs : FR (td s).toNat = (j : Int) := hVs
      obtain ⟨T'', s'', hrun, h1, h2⟩ := ih s' hs' (by omega) _ ht'
      refine ⟨T'', s'', fun c hc => ?_, h1, h2⟩
      have hb : (td s != a) = true := by simp [he]
      have hqj := hq j hj
      have hbj := hbar (Q j).toNat (by omega)
      have hrs := h.rng s hs
      have hsum := (oth_sum (by rw [← hTj]; exact hT j hj) hoth).1
      have hcon := con_l4Other (g (Q j).toNat) (td s) (by omega) (by omega) (by omega)
      rw [hsum] at hcon
      refine piece_ok mixed hc (qSl g nb N m F0 T Q FR F1 T' a u (td s) (td s')) ?_ (by rw [hVs]; simp only [Int.toNat_natCast]; exact hrun c hc)
      simp only [All]
      repeat' (first | exact trivial | with_reducible apply And.intro)
      all_goals (first | exact aG _ | exact aP _ _ | exact aA _ _ | exact aE _ | omega | rfl | (intros; first | assumption | exact True.intro | rfl | exact absurd (show false = true by assumption) Bool.false_ne_true | ((repeat' (first | assumption | apply anda | apply notf)); done)) | (exact hb) | (rw [hVs]; simp only [Int.toNat_natCast]; omega) | (rw [hVs]; simp only [Int.toNat_natCast]; exact hcon) | (intro i hi; simp [All]; done) | (simp only [hVs, Int.toNat_natCast]; intro i hi; by_cases h : i = j <;> simp [h, cvtL, cvt, tg, tru, All]))
theorem BInv.congrV {N m : Nat} {g : Nat → T_Bar} {F T Q td V V' : Nat → Int} {a b : Int} {tn : Nat} (h : BInv N m g F T Q td V a b tn) (hv : ∀ s, s < tn → V s = V' s) : BInv N m g F T Q td V' a b tn :=
  ⟨h.n1, h.td0, h.rng, h.inj, fun s h1 h2 => by rw [← hv s h2]; exact h.par s h1 h2⟩
theorem con_l4Shift {N k nb m : Nat} {g : Nat → T_Bar} {F T Q td FR : Nat → Int} {a b u : Int} {tn : Nat} (hp : PInv N k nb m g F T Q) (hk : k ≤ 1048576) (hN : N ≤ 1048576) (hm : m ≤ 1048576) (hnb : nb ≤ 1048576)
    (h : BInv N m g F T Q td (fun s => FR (td s).toNat) a b (tn + 1)) (htn : td tn = u) (ha : 0 ≤ a ∧ a < N) (hu : 0 ≤ u ∧ u < N) (hua : u ≠ a) :
    ∃ T'' s', Con Try.prog 190 0 [] [grG g nb N, pebD N m F T Q, inD N FR, .p (.int .i64 a), .p (.int .i64 u)] (pebR N m (fun x => if x = a.toNat then (if x = u.toNat then F x - 1 else F x) + 1 else (if x = u.toNat then F x - 1 else F x)) T'' Q) (pebO N m 0) ∧
      TInv m g T Q td (fun s => FR (td s).toNat) T'' u s' ∧ td s' = a := by
  have ht0 : TInv m g T Q td (fun s => FR (td s).toNat) T u tn := ⟨fun _ _ _ => rfl, hp.t, fun x => by rw [htn]; omega⟩
  obtain ⟨T'', s', hrun, h1, h2⟩ := run_shift (nb := nb) (F0 := F) (F1 := fun x => if x = a.toNat then (if x = u.toNat then F x - 1 else F x) + 1 else (if x = u.toNat then F x - 1 else F x)) h hN hm hnb hp.q hp.bars hp.t tn (by omega) T ht0
  refine ⟨T'', s', ?_, h1, h2⟩
  rw [htn] at hrun
  have hFa := hp.le (v := a.toNat) (by omega)
  have hFu := hp.le (v := u.toNat) (by omega)
  have hcc := con_l4Copy N m F T Q hN hm
  refine con_start Try.func190 rfl (by kernel_rfl) rfl (fun c hc => ?_)
  have hrun' := hrun c hc
  refine piece_ok mixed hc (qSz g nb N m F T Q FR a u) ?_ ?_
  ·
    simp only [All]
    repeat' (first | exact trivial | with_reducible apply And.intro)
    all_goals (first | exact aG _ | exact aP _ _ | exact aA _ _ | exact aE _ | omega | rfl | (intros; first | assumption | exact True.intro | rfl | exact absurd (show false = true by assumption) Bool.false_ne_true | ((repeat' (first | assumption | apply anda | apply notf)); done)) | (exact hcc) | (intro i hi; simp [All]; done) | (intro i hi; by_cases h : i = u.toNat <;> simp [h, cvtL, cvt, tg, tru, All]))
  · have hF1 : (fun s => if s = u.toNat then F s - 1 else F s) a.toNat = F a.toNat := by
      show (if a.toNat = u.toNat then F a.toNat - 1 else F a.toNat) = _
      rw [if_neg (by omega)]
    obtain ⟨F1, hF1d⟩ : ∃ F1 : Nat → Int, F1 = (fun s => if s = u.toNat then F s - 1 else F s) := ⟨_, rfl⟩
    have hFF : (fun x => if x = a.toNat then (if x = u.toNat then F x - 1 else F x) + 1 else (if x = u.toNat then F x - 1 else F x)) = (fun s => if s = a.toNat then F1 s + 1 else F1 s) := by
      subst hF1d; rfl
    rw [hFF] at hrun' ⊢
    rw [← hF1d] at hF1 ⊢
    refine piece_ok mixed hc (qSa g nb N m F T Q FR F1 T a u) ?_ hrun'
    simp only [All]
    repeat' (first | exact trivial | with_reducible apply And.intro)
    all_goals (first | exact aG _ | exact aP _ _ | exact aA _ _ | exact aE _ | omega | rfl | (intros; first | assumption | exact True.intro | rfl | exact absurd (show false = true by assumption) Bool.false_ne_true | ((repeat' (first | assumption | apply anda | apply notf)); done)) | (rw [hF1]; omega) | (intro i hi; simp [All]; done) | (intro i hi; by_cases h : i = a.toNat <;> simp [h, cvtL, cvt, tg, tru, All]))
inductive FindR (N k nb m : Nat) (g : Nat → T_Bar) (F T Q : Nat → Int) (a b : Int) : Hp → AV → Prop
  | yes (F' T' : Nat → Int) (h : Moved N k nb m g F T Q a b F' T' true) : FindR N k nb m g F T Q a b (pebR3 N m F T Q F' T' Q) (.tup [pebO N m 3, .p (.bool true)])
  | no (h : Moved N k nb m g F T Q a b F T false) : FindR N k nb m g F T Q a b (pebR N m F T Q) (.tup [pebO N m 0, .p (.bool false)])
def OutS (N k nb m : Nat) (g : Nat → T_Bar) (F T Q : Nat → Int) (a b : Int) (i tn : Nat) (td FR : Nat → Int) (SN : Nat → Bool) : Prop :=
  ∃ H' res, (∀ c, c.n = 3 → Run Try.prog c 180 [.code (cAt (bodyOf Try.f180) [1, 1, 1, 1, 1, 1, 0, 1, 0, 0]), .inLoop (cAt (bodyOf Try.f180) [1, 1, 1, 1, 1, 1, 0, 1, 0, 0]), .inBlock 2, .code (cAt (bodyOf Try.f180) [1, 1, 1, 1, 1, 1, 1])] (SF1 g nb N m F T Q td FR SN a b i tn) (Post c H' res)) ∧ FindR N k nb m g F T Q a b H' res
def MidS (N k nb m : Nat) (g : Nat → T_Bar) (F T Q : Nat → Int) (a b : Int) (i j tn : Nat) (td FR : Nat → Int) (SN : Nat → Bool) : Prop :=
  ∃ H' res, (∀ c, c.n = 3 → Run Try.prog c 180 [.code (cAt (bodyOf Try.f180) [1, 1, 1, 1, 1, 1, 0, 1, 0, 0, 1, 0, 0, 1, 1, 0, 0]), .inLoop (cAt (bodyOf Try.f180) [1, 1, 1, 1, 1, 1, 0, 1, 0, 0, 1, 0, 0, 1, 1, 0, 0]), .inBlock 4, .inBlock 3, .code (cAt (bodyOf Try.f180) [1, 1, 1, 1, 1, 1, 0, 1, 0, 0, 1, 1]), .inLoop (cAt (bodyOf Try.f180) [1, 1, 1, 1, 1, 1, 0, 1, 0, 0]), .inBlock 2, .code (cAt (bodyOf Try.f180) [1, 1, 1, 1, 1, 1, 1])] (SF2 g nb N m F T Q td FR SN a b (td i) i j tn) (Post c H' res)) ∧ FindR N k nb m g F T Q a b H' res
def SeenI (N : Nat) (td : Nat → Int) (SN : Nat → Bool) (tn : Nat) : Prop := ∀ x : Nat, x < N → (SN x = true ↔ ∃ s, s < tn ∧ td s = x)
theorem mid_s {N k nb m : Nat} {g : Nat → T_Bar} {F T Q : Nat → Int} {a b : Int} (hp : PInv N k nb m g F T Q) (hk : k ≤ 1048576) (hN : N ≤ 1048576) (hm : m ≤ 1048576) (hnb : nb ≤ 1048576)
    (ha : 0 ≤ a ∧ a < N) (hb : 0 ≤ b ∧ b < N) (hab : a ≠ b) (i : Nat)
    (ih : ∀ tn td FR SN, i + 1 ≤ tn → BInv N m g F T Q td (fun s => FR (td s).toNat) a b tn → SeenI N td SN tn → BZero F td b tn → BClo m g T Q td (i + 1) 0 tn → OutS N k nb m g F T Q a b (i + 1) tn td FR SN) :
    ∀ e j tn td FR SN, j + e = m → i < tn → BInv N m g F T Q td (fun s => FR (td s).toNat) a b tn → SeenI N td SN tn → BZero F td b tn → BClo m g T Q td i j tn → MidS N k nb m g F T Q a b i j tn td FR SN := by
  intro e
  induction e with
  | zero =>
    intro j tn td FR SN hj hi hbi hsn hz hcl
    have htn := pigeon N tn td hbi.rng hbi.inj
    obtain ⟨H', res, hrun, hmv⟩ := ih tn td FR SN (by omega) hbi hsn hz (fun i' j' hij hi' hT => by
      rcases hij with ⟨h1, h2⟩ | ⟨h1, h2⟩
      · by_cases e : i' = i
        · exact hcl i' j' (.inr ⟨e, by omega⟩) hi' hT
        · exact hcl i' j' (.inl ⟨by omega, h2⟩) hi' hT
      · omega)
    refine ⟨H', res, fun c hc => ?_, hmv⟩
    have hd : decide ((j : Int) < (m : Int)) = false := by simp; omega
    refine piece_ok mixed hc (qF2e g nb N m F T Q td FR SN a b (td i) i j tn) ?_ (hrun c hc)
    simp only [All]
    repeat' (first | exact trivial | with_reducible apply And.intro)
    all_goals (first | exact aG _ | exact aP _ _ | exact aA _ _ | exact aE _ | omega | rfl | (intros; first | assumption | exact True.intro | rfl | exact absurd (show false = true by assumption) Bool.false_ne_true | ((repeat' (first | assumption | apply anda | apply notf)); done)) | (intro i hi; simp [All]))
  | succ e ihe =>
    intro j tn td FR SN hj hi hbi hsn hz hcl
    have htn := pigeon N tn td hbi.rng hbi.inj
    have hjm : j < m := by omega
    have hd : decide ((j : Int) < (m : Int)) = true := by simp; omega
    have hq := hp.q j hjm
    have hbar := hp.bars (Q j).toNat (by omega)
    have hrg := hbi.rng i hi
    by_cases hT : T j = td i
    · have ht1 : (T j != td i) = false := by simp [hT]
      obtain ⟨v, hv⟩ : ∃ v, othF (g (Q j).toNat) (td i) = v := ⟨_, rfl⟩
      have hvr : 0 ≤ v ∧ v < N := by rw [← hv]; exact othF_in hbar
      have hsum := (oth_sum (by rw [← hT]; exact hp.t j hjm) hv).2
      have hcon := con_l4Other (g (Q j).toNat) (td i) (by omega) (by omega) (by omega)
      rw [hsum] at hcon
      cases hh : SN v.toNat with
      | true =>
        obtain ⟨s, hs1, hs2⟩ := (hsn v.toNat (by omega)).1 hh
        obtain ⟨H', res, hrun, hmv⟩ := ihe (j + 1) tn td FR SN (by omega) hi hbi hsn hz (fun i' j' hij hi' hTT => by
          by_cases e : i' = i ∧ j' = j
          · obtain ⟨rfl, rfl⟩ := e
            exact ⟨s, hs1, by rw [hs2, hv]; omega⟩
          · exact hcl i' j' (by omega) hi' hTT)
        refine ⟨H', res, fun c hc => ?_, hmv⟩
        refine piece_ok mixed hc (qF2b g nb N m F T Q td FR SN a b (td i) v i j tn) ?_ (hrun c hc)
        simp only [All]
        repeat' (first | exact trivial | with_reducible apply And.intro)
        all_goals (first | exact aG _ | exact aP _ _ | exact aA _ _ | exact aE _ | omega | rfl | (intros; first | assumption | exact True.intro | rfl | exact absurd (show false = true by assumption) Bool.false_ne_true | ((repeat' (first | assumption | apply anda | apply notf)); done)) | (exact ht1) | (exact hcon) | (exact hh) | (intro i hi; simp [All]))
      | false =>
        have hno : ∀ s, s < tn → td s ≠ v := by
          intro s hs e
          have := (hsn v.toNat (by omega)).2 ⟨s, hs, by omega⟩
          rw [hh] at this; cases this
        have hadd0 := hbi.add hi hjm hT hv hvr hno
        have hadd : BInv N m g F T Q (fun s => if s < tn then td s else v) (fun s => (fun x => if x = v.toNat then (j : Int) else FR x) ((fun s => if s < tn then td s else v) s).toNat) a b (tn + 1) := by
          refine hadd0.congrV (fun s hs => ?_)
          show (if s < tn then FR (td s).toNat else (j : Int)) = (if (if s < tn then td s else v).toNat = v.toNat then (j : Int) else FR (if s < tn then td s else v).toNat)
          by_cases e : s < tn
          · have h1 := hno s e
            have h2 := hbi.rng s e
            rw [if_pos e, if_pos e, if_neg (show ¬ (td s).toNat = v.toNat by omega)]
          · rw [if_neg e, if_neg e, if_pos rfl]
        have hF := hp.le (v := v.toNat) (by omega)
        cases hcd : (bif v != b then decide (F v.toNat > 0) else false) with
        | false =>
          have hzv : v = b ∨ F v.toNat = 0 := by
            by_cases e : v = b
            · exact .inl e
            · right
              have : (v != b) = true := by simp [e]
              rw [this] at hcd
              simp at hcd
              omega
          obtain ⟨H', res, hrun, hmv⟩ := ihe (j + 1) (tn + 1) (fun s => if s < tn then td s else v) (fun x => if x = v.toNat then (j : Int) else FR x) (fun s => if s = v.toNat then true else SN s) (by omega) (by omega) hadd (fun x hx => by
            show (if x = v.toNat then true else SN x) = true ↔ ∃ s, s < tn + 1 ∧ (if s < tn then td s else v) = x
            by_cases e : x = v.toNat
            · rw [if_pos e]
              exact ⟨fun _ => ⟨tn, by omega, by rw [if_neg (Nat.lt_irrefl tn)]; omega⟩, fun _ => rfl⟩
            · rw [if_neg e, hsn x hx]
              constructor
              · rintro ⟨s, h1, h2⟩; exact ⟨s, by omega, by rw [if_pos h1]; exact h2⟩
              · rintro ⟨s, h1, h2⟩
                by_cases e2 : s < tn
                · rw [if_pos e2] at h2; exact ⟨s, e2, h2⟩
                · rw [if_neg e2] at h2; omega) (fun s h1 h2 => by
            show (if s < tn then td s else v) = b ∨ F (if s < tn then td s else v).toNat = 0
            by_cases e : s < tn
            · rw [if_pos e]; exact hz s h1 e
            · rw [if_neg e]; exact hzv) (fun i' j' hij hi' hTT => by
            have hi2 : i' < tn := by omega
            have hTT' : T j' = td i' := by rw [hTT]; show (if i' < tn then td i' else v) = _; rw [if_pos hi2]
            show ∃ s, s < tn + 1 ∧ (if s < tn then td s else v) = othF (g (Q j').toNat) (if i' < tn then td i' else v)
            rw [if_pos hi2]
            by_cases e : i' = i ∧ j' = j
            · obtain ⟨rfl, rfl⟩ := e
              exact ⟨tn, by omega, by rw [if_neg (Nat.lt_irrefl tn), hv]⟩
            · obtain ⟨s, h1, h2⟩ := hcl i' j' (by omega) hi2 hTT'
              exact ⟨s, by omega, by rw [if_pos h1]; exact h2⟩)
          refine ⟨H', res, fun c hc => ?_, hmv⟩
          have hrun' := hrun c hc
          simp only [hi, if_true] at hrun'
          refine piece_ok mixed hc (qF2c g nb N m F T Q td FR SN a b (td i) v i j tn) ?_ hrun'
          simp only [All]
          repeat' (first | exact trivial | with_reducible apply And.intro)
          all_goals (first | exact aG _ | exact aP _ _ | exact aA _ _ | exact aE _ | omega | rfl | (intros; first | assumption | exact True.intro | rfl | exact absurd (show false = true by assumption) Bool.false_ne_true | ((repeat' (first | assumption | apply anda | apply notf)); done)) | (exact ht1) | (exact hcon) | (exact hh) | (exact hcd) | (intros; omega) | (intro i hi; simp [All]; done) | (intro i hi; by_cases h : i < tn <;> simp [h, cvtL, cvt, tg, tru, All]; done) | (intro i hi; by_cases h : i = v.toNat <;> simp [h, cvtL, cvt, tg, tru, All]))
        | true =>
          have hvb : v ≠ b := by
            intro e
            rw [show (v != b) = false by simp [e]] at hcd
            cases hcd
          have hFv : F v.toNat ≠ 0 := by
            intro e
            rw [show (v != b) = true by simp [hvb]] at hcd
            simp [e] at hcd
          have hva : v ≠ a := by
            have := hno 0 (by have := hbi.n1; omega)
            rw [hbi.td0] at this
            exact Ne.symm this
          obtain ⟨T'', s', hcs, h1, h2⟩ := con_l4Shift (td := fun s => if s < tn then td s else v) (FR := fun x => if x = v.toNat then (j : Int) else FR x) (tn := tn) hp hk hN hm hnb hadd (by show (if tn < tn then td tn else v) = v; rw [if_neg (Nat.lt_irrefl tn)]) ha hvr hva
          refine ⟨_, _, fun c hc => ?_, .yes _ T'' (moved_yes hp ha hb hab hvr hva hvb hFv h1 h2)⟩
          refine piece_ok mixed hc (qF2d g nb N m F T Q td FR SN a b (td i) v i j tn) ?_ ?_
          ·
            simp only [All]
            repeat' (first | exact trivial | with_reducible apply And.intro)
            all_goals (first | exact aG _ | exact aP _ _ | exact aA _ _ | exact aE _ | omega | rfl | (intros; first | assumption | exact True.intro | rfl | exact absurd (show false = true by assumption) Bool.false_ne_true | ((repeat' (first | assumption | apply anda | apply notf)); done)) | (exact ht1) | (exact hcon) | (exact hh) | (exact hcd) | (intros; omega) | (intro i hi; simp [All]; done) | (intro i hi; by_cases h : i = v.toNat <;> simp [h, cvtL, cvt, tg, tru, All]))
          · refine path_ok mixed Try.func180 hc (qF3 g nb N m F T Q (fun s => if s = v.toNat then (j : Int) else FR s) _ T'' a b v) ?_
            simp only [All]
            repeat' (first | exact trivial | with_reducible apply And.intro)
            all_goals (first | exact aG _ | exact aP _ _ | exact aA _ _ | exact aE _ | omega | rfl | (intros; first | assumption | exact True.intro | rfl | exact absurd (show false = true by assumption) Bool.false_ne_true | ((repeat' (first | assumption | apply anda | apply notf)); done)) | (exact hcs) | (intro i hi; simp [All]))
    · have ht1 : (T j != td i) = true := by simp [hT]
      obtain ⟨H', res, hrun, hmv⟩ := ihe (j + 1) tn td FR SN (by omega) hi hbi hsn hz (fun i' j' hij hi' hTT => by
        by_cases e : i' = i ∧ j' = j
        · obtain ⟨rfl, rfl⟩ := e
          exact absurd hTT hT
        · exact hcl i' j' (by omega) hi' hTT)
      refine ⟨H', res, fun c hc => ?_, hmv⟩
      refine piece_ok mixed hc (qF2a g nb N m F T Q td FR SN a b (td i) i j tn) ?_ (hrun c hc)
      simp only [All]
      repeat' (first | exact trivial | with_reducible apply And.intro)
      all_goals (first | exact aG _ | exact aP _ _ | exact aA _ _ | exact aE _ | omega | rfl | (intros; first | assumption | exact True.intro | rfl | exact absurd (show false = true by assumption) Bool.false_ne_true | ((repeat' (first | assumption | apply anda | apply notf)); done)) | (exact ht1) | (intro i hi; simp [All]))
theorem out_s {N k nb m : Nat} {g : Nat → T_Bar} {F T Q : Nat → Int} {a b : Int} (hp : PInv N k nb m g F T Q) (hk : k ≤ 1048576) (hN : N ≤ 1048576) (hm : m ≤ 1048576) (hnb : nb ≤ 1048576)
    (ha : 0 ≤ a ∧ a < N) (hb : 0 ≤ b ∧ b < N) (hab : a ≠ b) : ∀ d i tn td FR SN, N + 1 ≤ i + d → i ≤ tn → BInv N m g F T Q td (fun s => FR (td s).toNat) a b tn → SeenI N td SN tn → BZero F td b tn → BClo m g T Q td i 0 tn → OutS N k nb m g F T Q a b i tn td FR SN := by
  intro d
  induction d with
  | zero =>
    intro i tn td FR SN hd hi hbi _ _ _
    have := pigeon N tn td hbi.rng hbi.inj
    omega
  | succ d ih =>
    intro i tn td FR SN hd hi hbi hsn hz hcl
    have htn := pigeon N tn td hbi.rng hbi.inj
    by_cases hit : i < tn
    · have hd' : decide ((i : Int) < (tn : Int)) = true := by simp; omega
      obtain ⟨H', res, hrun, hmv⟩ := mid_s hp hk hN hm hnb ha hb hab i (fun tn td FR SN h1 h2 h3 h4 h5 => ih (i + 1) tn td FR SN (by omega) h1 h2 h3 h4 h5) m 0 tn td FR SN (by omega) hit hbi hsn hz hcl
      refine ⟨H', res, fun c hc => ?_, hmv⟩
      refine piece_ok mixed hc (qF1 g nb N m F T Q td FR SN a b i tn) ?_ (hrun c hc)
      simp only [All]
      repeat' (first | exact trivial | with_reducible apply And.intro)
      all_goals (first | exact aG _ | exact aP _ _ | exact aA _ _ | exact aE _ | omega | rfl | (intros; first | assumption | exact True.intro | rfl | exact absurd (show false = true by assumption) Bool.false_ne_true | ((repeat' (first | assumption | apply anda | apply notf)); done)) | (intro i hi; simp [All]))
    · have hd' : decide ((i : Int) < (tn : Int)) = false := by simp; omega
      obtain rfl : i = tn := by omega
      refine ⟨_, _, fun c hc => ?_, .no (moved_no hp hbi hz hcl)⟩
      refine path_ok mixed Try.func180 hc (qF1e g nb N m F T Q td FR SN a b i i) ?_
      simp only [All]
      repeat' (first | exact trivial | with_reducible apply And.intro)
      all_goals (first | exact aG _ | exact aP _ _ | exact aA _ _ | exact aE _ | omega | rfl | (intros; first | assumption | exact True.intro | rfl | exact absurd (show false = true by assumption) Bool.false_ne_true | ((repeat' (first | assumption | apply anda | apply notf)); done)) | (intro i hi; simp [All]))
theorem con_l4Find {N k nb m : Nat} {g : Nat → T_Bar} {F T Q : Nat → Int} {a b : Int} (hp : PInv N k nb m g F T Q) (hk : k ≤ 1048576) (hN : N ≤ 1048576) (hm : m ≤ 1048576) (hnb : nb ≤ 1048576)
    (ha : 0 ≤ a ∧ a < N) (hb : 0 ≤ b ∧ b < N) (hab : a ≠ b) : ∃ H' res, Con Try.prog 180 3 (pebR N m F T Q) [grG g nb N, pebO N m 0, .p (.int .i64 a), .p (.int .i64 b)] H' res ∧ FindR N k nb m g F T Q a b H' res := by
  obtain ⟨H', res, hrun, hmv⟩ := out_s hp hk hN hm hnb ha hb hab (N + 1) 0 1 (fun _ => a) (fun _ => -1) (fun s => if s = a.toNat then true else false) (by omega) (by omega)
    ⟨by omega, rfl, fun s hs => ha, fun s s' h1 h2 => by omega, fun s h1 h2 => by omega⟩ (fun x hx => by
      show (if x = a.toNat then true else false) = true ↔ ∃ s, s < 1 ∧ a = x
      by_cases e : x = a.toNat
      · rw [if_pos e]; exact ⟨fun _ => ⟨0, by omega, by omega⟩, fun _ => rfl⟩
      · rw [if_neg e]; exact ⟨(fun h => by cases h), (fun ⟨s, h1, h2⟩ => by omega)⟩) (fun s h1 h2 => by omega) (fun i' j' h => by omega)
  refine ⟨H', res, ?_, hmv⟩
  refine con_start Try.func180 rfl (by kernel_rfl) rfl (fun c hc => ?_)
  have lp0 : ∀ d i, i + d = N → Run Try.prog c 180 [.code (cAt (bodyOf Try.f180) [1, 1, 0, 1, 0, 0]), .inLoop (cAt (bodyOf Try.f180) [1, 1, 0, 1, 0, 0]), .inBlock 0, .code (cAt (bodyOf Try.f180) [1, 1, 1])] (SF0 g nb N m F T Q a b i) (Post c H' res) := by
    intro d
    induction d with
    | zero =>
      intro i hi
      obtain rfl : i = N := by omega
      have hd : decide ((i : Int) < (i : Int)) = false := by simp
      refine piece_ok mixed hc (qF01 g nb i m F T Q a b i) ?_ (hrun c hc)
      simp only [All]
      repeat' (first | exact trivial | with_reducible apply And.intro)
      all_goals (first | exact aG _ | exact aP _ _ | exact aA _ _ | exact aE _ | omega | rfl | (intros; first | assumption | exact True.intro | rfl | exact absurd (show false = true by assumption) Bool.false_ne_true | ((repeat' (first | assumption | apply anda | apply notf)); done)) | (intro j hj; simp [All]; done) | (intro j hj; simp [hj, All]; done) | (intro j hj; by_cases h : j = a.toNat <;> simp [h, cvtL, cvt, tg, tru, All]))
    | succ d ih =>
      intro i hi
      have hd : decide ((i : Int) < (N : Int)) = true := by simp; omega
      refine piece_ok mixed hc (qF0 g nb N m F T Q a b i) ?_ (ih (i + 1) (by omega))
      simp only [All]
      repeat' (first | exact trivial | with_reducible apply And.intro)
      all_goals (first | exact aG _ | exact aP _ _ | exact aA _ _ | exact aE _ | omega | rfl | (intros; first | assumption | exact True.intro | rfl | exact absurd (show false = true by assumption) Bool.false_ne_true | ((repeat' (first | assumption | apply anda | apply notf)); done)) | (intro j hj; simp [All]; done) | (intro j hj; by_cases h : j = i <;> simp [h, Nat.lt_succ_iff_lt_or_eq, cvtL, cvt, tg, tru, All]))
  refine piece_ok mixed hc (qFz g nb N m F T Q a b) ?_ (lp0 N 0 (by omega))
  simp only [All]
  repeat' (first | exact trivial | with_reducible apply And.intro)
  all_goals (first | exact aG _ | exact aP _ _ | exact aA _ _ | exact aE _ | omega | rfl | (intros; first | assumption | exact True.intro | rfl | exact absurd (show false = true by assumption) Bool.false_ne_true | ((repeat' (first | assumption | apply anda | apply notf)); done)) | (intro i hi; simp [All]))
end Go.Proofs.Ytffnfeefjdmifaa.Mach
namespace Go.Proofs.Ytffnfeefjdmifaa.Mach
open Go
set_option linter.unusedVariables false
set_option linter.unusedSimpArgs false
def inB (x a b : Int) : Bool := decide (a ≤ x) && decide (x ≤ b)
theorem p36 (x a b : Int) :
    pathOb Try.prog Try.f37 0 [.reg [oT], .reg [oT, oT, oT, oT, oT, oT, oT, oT, oT]] [.code (bodyOf Try.f37)] (start Try.f37 [] 0 [.p (.int .i64 x), .p (.int .i64 a), .p (.int .i64 b)]) [] 1 [] (.p (.bool (inB x a b))) =
    some [(AG (decide (x ≥ a))),
  (AG (decide (x ≥ a))),
  (AG (decide (x ≥ a))),
  ((bif decide (x ≥ a) then decide (x ≤ b) else false) = (inB x a b))] := by kernel_rfl
theorem p37 (x a b : Int) :
    pathOb Try.prog Try.f40 0 [.reg [oT], .reg [oT, oT, oT, oT, oT, oT, oT, oT, oT]] [.code (bodyOf Try.f40)] (start Try.f40 [] 0 [.p (.int .i64 x), .p (.int .i64 a), .p (.int .i64 b)]) [] 1 [] (.p (.bool (inB x a b))) =
    some [(AG (decide (x ≥ a))),
  (AG (decide (x ≥ a))),
  (AG (decide (x ≥ a))),
  ((bif decide (x ≥ a) then decide (x ≤ b) else false) = (inB x a b))] := by kernel_rfl
theorem con_l1In (x a b : Int) : Con Try.prog 37 0 [] [.p (.int .i64 x), .p (.int .i64 a), .p (.int .i64 b)] [] (.p (.bool (inB x a b))) := by
  refine con_start Try.func37 rfl (by kernel_rfl) rfl (fun c hc => ?_)
  refine path_ok mixed Try.func37 hc (p36 x a b) ?_
  simp only [All]
  repeat' (first | exact trivial | with_reducible apply And.intro)
  all_goals (first | exact aG _ | exact aP _ _ | exact aA _ _ | exact aE _ | omega | rfl | (intros; first | assumption | exact True.intro | rfl | exact absurd (show false = true by assumption) Bool.false_ne_true | ((repeat' (first | assumption | apply anda | apply notf)); done)) | (simp only [inB]; cases decide (a ≤ x) <;> rfl))
theorem con_within (x a b : Int) : Con Try.prog 40 0 [] [.p (.int .i64 x), .p (.int .i64 a), .p (.int .i64 b)] [] (.p (.bool (inB x a b))) := by
  refine con_start Try.func40 rfl (by kernel_rfl) rfl (fun c hc => ?_)
  refine path_ok mixed Try.func40 hc (p37 x a b) ?_
  simp only [All]
  repeat' (first | exact trivial | with_reducible apply And.intro)
  all_goals (first | exact aG _ | exact aP _ _ | exact aA _ _ | exact aE _ | omega | rfl | (intros; first | assumption | exact True.intro | rfl | exact absurd (show false = true by assumption) Bool.false_ne_true | ((repeat' (first | assumption | apply anda | apply notf)); done)) | (simp only [inB]; cases decide (a ≤ x) <;> rfl))
end Go.Proofs.Ytffnfeefjdmifaa.Mach
namespace Go.Proofs.Ytffnfeefjdmifaa.Mach
open Go
set_option linter.unusedVariables false
set_option linter.unusedSimpArgs false
def aft (a b : T_Bar) : Bool := bif decide (a.1 < b.1) then true else bif a.1 == b.1 then decide (a.2.1 ≤ b.2.1) else false
def cmpI (x y : Int) : Int := if x < y then -1 else if x > y then 1 else 0
def cmpB (a b : T_Bar) : Int := if cmpI a.1 b.1 = 0 then cmpI a.2.1 b.2.1 else cmpI a.1 b.1
def badB (N : Int) (g : Nat → T_Bar) (k : Nat) : Bool :=
  bif bif bif decide ((g k).1 < 0) then true else decide ((g k).1 ≥ (g k).2.1) then true else decide ((g k).2.1 ≥ N) then true
    else bif decide ((k : Int) > 0) then !aft (g ((k : Int) - 1).toNat) (g k) else false
def goodB (N : Int) (g : Nat → T_Bar) : Nat → Bool
  | 0 => true
  | k + 1 => goodB N g k && !badB N g k
def isGraphF (v : T_Graph) : Bool := if inB v.1 1 8 = true ∧ v.2.1.1 ≤ 24 then goodB v.1 v.2.1.2 v.2.1.1 else false
def barA (a : T_Bar) : AV := .agg [.p (.int .i64 a.1), .p (.int .i64 a.2.1)]
def graphL (v : T_BarS) : AV := .p (.seq true 2 v.1 (fun i => [.int .i64 (v.2 i).1, .int .i64 (v.2 i).2.1]))
def graphA (v : T_Graph) : AV := .agg [.p (.int .i64 v.1), graphL v.2.1]
def boxG (v : T_Graph) : Ob := ⟨true, 2, 1, fun i => [.p (.int .i64 v.1), graphL v.2.1]⟩
def S48 (v : T_Graph) (k : Nat) : St :=
  ⟨[graphA v, .pt 2 0 0 0, .p .any, .p (.int .i64 k)] ++ List.replicate 55 anyA, [(0, boxG v)], 1⟩
def S51 (v : T_Graph) (k : Nat) : St :=
  ⟨[graphA v, .pt 2 0 0 0] ++ List.replicate 14 anyA ++ [graphL v.2.1, .p (.int .i64 v.2.1.1), .p (.int .i64 k)] ++ List.replicate 37 anyA, [(0, boxG v)], 1⟩
theorem p57 (a b : T_Bar) :
    pathOb Try.prog Try.f141 0 [.reg [oT, oT, oT], .reg [oT, oT, oT, oT, oT, oT, oT, oT, oT, oT, oT, oT, oT, oT, oT, oT, oT, oT, oT, oT]] [.code (bodyOf Try.f141)] (start Try.f141 [] 0 [barA a, barA b]) [] 1 [] (.p (.bool (aft a b))) =
    some [((0 : Nat) < 1),
  ((0 : Nat) < 1),
  (AG (!decide (a.1 < b.1))),
  (((!decide (a.1 < b.1)) = true) → ((0 : Nat) < 1)),
  (AG (!decide (a.1 < b.1))),
  (((!decide (a.1 < b.1)) = true) → ((0 : Nat) < 1)),
  (AG (!decide (a.1 < b.1))),
  (AG (!decide (a.1 < b.1))),
  (AG (!decide (a.1 < b.1))),
  (AG (!decide (a.1 < b.1) && a.1 == b.1)),
  (((!decide (a.1 < b.1) && a.1 == b.1) = true) → ((0 : Nat) < 1)),
  (AG (!decide (a.1 < b.1) && a.1 == b.1)),
  (((!decide (a.1 < b.1) && a.1 == b.1) = true) → ((0 : Nat) < 1)),
  (AG (!decide (a.1 < b.1) && a.1 == b.1)),
  (AG (!decide (a.1 < b.1) && a.1 == b.1)),
  (AG (!decide (a.1 < b.1))),
  (((!decide (a.1 < b.1)) = true) → (((a.1 == b.1) = true) → ((!decide (a.1 < b.1) && a.1 == b.1) = true))),
  (((decide (a.1 < b.1)) = false) → ((!decide (a.1 < b.1)) = true)),
  ((bif decide (a.1 < b.1) then true else bif a.1 == b.1 then decide (a.2.1 ≤ b.2.1) else false) = (aft a b))] := by kernel_rfl
theorem p62a (x y : Int) :
    pathOb Try.prog Try.f152 0 [.reg [oT], .reg [oT, oT, oT, oT], .dec true, .reg [oT]] [.code (bodyOf Try.f152)] (start Try.f152 [] 0 [.p (.int .i64 x), .p (.int .i64 y)]) [] 1 [] (.p (.int .i64 (-1))) =
    some [((decide (x < y)) = true),
  (AI ((-1)))] := by kernel_rfl
theorem p62b (x y : Int) :
    pathOb Try.prog Try.f152 0 [.reg [oT], .reg [oT, oT, oT, oT], .dec false, .reg [oT, oT, oT, oT], .dec true, .reg [oT]] [.code (bodyOf Try.f152)] (start Try.f152 [] 0 [.p (.int .i64 x), .p (.int .i64 y)]) [] 1 [] (.p (.int .i64 1)) =
    some [((decide (x < y)) = false),
  ((decide (x > y)) = true),
  (AI 1)] := by kernel_rfl
theorem p62c (x y : Int) :
    pathOb Try.prog Try.f152 0 [.reg [oT], .reg [oT, oT, oT, oT], .dec false, .reg [oT, oT, oT, oT], .dec false, .reg [oT]] [.code (bodyOf Try.f152)] (start Try.f152 [] 0 [.p (.int .i64 x), .p (.int .i64 y)]) [] 1 [] (.p (.int .i64 0)) =
    some [((decide (x < y)) = false),
  ((decide (x > y)) = false),
  (AI 0)] := by kernel_rfl
theorem p59a (a b : T_Bar) :
    pathOb Try.prog Try.f135 0 [.reg [oT, oT, oT], .reg [oT, oT, oT, oT, ⟨true, (some ⟨[], [], [], 1, [], .p (.int .i64 (cmpI a.1 b.1))⟩), none⟩, oT], .reg [oT, oT], .dec true, .reg [oT, oT]] [.code (bodyOf Try.f135)] (start Try.f135 [] 0 [barA a, barA b]) [] 1 [] (.p (.int .i64 (cmpI a.1 b.1))) =
    some [((0 : Nat) < 1),
  ((0 : Nat) < 1),
  Con Try.prog 152 0 [] [.p (.int .i64 a.1), .p (.int .i64 b.1)] [] (.p (.int .i64 (cmpI a.1 b.1))),
  ((cmpI a.1 b.1 != 0) = true),
  (AI ((cmpI a.1 b.1)))] := by kernel_rfl
theorem p59b (a b : T_Bar) :
    pathOb Try.prog Try.f135 0 [.reg [oT, oT, oT], .reg [oT, oT, oT, oT, ⟨true, (some ⟨[], [], [], 1, [], .p (.int .i64 (cmpI a.1 b.1))⟩), none⟩, oT], .reg [oT, oT], .dec false, .reg [oT, oT, oT, oT, ⟨true, (some ⟨[], [], [], 1, [], .p (.int .i64 (cmpI a.2.1 b.2.1))⟩), none⟩, oT]] [.code (bodyOf Try.f135)] (start Try.f135 [] 0 [barA a, barA b]) [] 1 [] (.p (.int .i64 (cmpI a.2.1 b.2.1))) =
    some [((0 : Nat) < 1),
  ((0 : Nat) < 1),
  Con Try.prog 152 0 [] [.p (.int .i64 a.1), .p (.int .i64 b.1)] [] (.p (.int .i64 (cmpI a.1 b.1))),
  ((cmpI a.1 b.1 != 0) = false),
  ((0 : Nat) < 1),
  ((0 : Nat) < 1),
  Con Try.prog 152 0 [] [.p (.int .i64 a.2.1), .p (.int .i64 b.2.1)] [] (.p (.int .i64 (cmpI a.2.1 b.2.1))),
  (AI ((cmpI a.2.1 b.2.1)))] := by kernel_rfl
theorem p48z (v : T_Graph) :
    pathOb Try.prog Try.f110 0 [.reg [oT, oT], .reg [oT, oT, ⟨true, (some ⟨[], [], [], 1, [], .p (.bool (inB v.1 1 8))⟩), none⟩, oT, oT, oT, oT, oT, oT, oT], .dec true, .reg [oT]] [.code (bodyOf Try.f110)] (start Try.f110 [] 0 [graphA v]) [] 1 [] (.p (.bool false)) =
    some [((0 : Nat) < 1),
  Con Try.prog 37 0 [] [.p (.int .i64 v.1), .p (.int .i64 1), .p (.int .i64 8)] [] (.p (.bool (inB v.1 1 8))),
  (AG (!!inB v.1 1 8)),
  (((!!inB v.1 1 8) = true) → ((0 : Nat) < 1)),
  (AG (!!inB v.1 1 8)),
  (AG (!!inB v.1 1 8)),
  (((!inB v.1 1 8) = false) → ((!!inB v.1 1 8) = true)),
  ((bif !inB v.1 1 8 then true else decide ((↑v.2.1.1 : Int) > 24)) = true),
  (false = false)] := by kernel_rfl
theorem p48a (v : T_Graph) :
    pieceOb Try.prog 0 [.reg [oT, oT], .reg [oT, oT, ⟨true, (some ⟨[], [], [], 1, [], .p (.bool (inB v.1 1 8))⟩), none⟩, oT, oT, oT, oT, oT, oT, oT], .dec false, .reg [oT], .head] [.code (bodyOf Try.f110)] (start Try.f110 [] 0 [graphA v]) [0] 1 (S48 v 0) =
    some ([.code (cAt (bodyOf Try.f110) [1, 1, 0, 1, 0, 0]), .inLoop (cAt (bodyOf Try.f110) [1, 1, 0, 1, 0, 0]), .inBlock 0, .code (cAt (bodyOf Try.f110) [1, 1, 1])], [((0 : Nat) < 1),
  Con Try.prog 37 0 [] [.p (.int .i64 v.1), .p (.int .i64 1), .p (.int .i64 8)] [] (.p (.bool (inB v.1 1 8))),
  (AG (!!inB v.1 1 8)),
  (((!!inB v.1 1 8) = true) → ((0 : Nat) < 1)),
  (AG (!!inB v.1 1 8)),
  (AG (!!inB v.1 1 8)),
  (((!inB v.1 1 8) = false) → ((!!inB v.1 1 8) = true)),
  ((bif !inB v.1 1 8 then true else decide ((↑v.2.1.1 : Int) > 24)) = false),
  (AI v.1),
  (AN v.2.1.1),
  (AP v.2.1.1 (fun i => [.int .i64 ((v.2.1.2 i).1), .int .i64 ((v.2.1.2 i).2.1)])),
  (AN 0),
  ((0 : Int) = (↑0 : Int)),
  ((([AV.p (PV.int IntKind.i64 v.1), graphL v.2.1].length) : Nat) = 2),
  ((1 : Nat) ≤ 1),
  ((1 : Nat) ≤ 1),
  (AI v.1),
  (AN v.2.1.1),
  (AP v.2.1.1 (fun i => [.int .i64 ((v.2.1.2 i).1), .int .i64 ((v.2.1.2 i).2.1)]))]) := by kernel_rfl
theorem p48b (v : T_Graph) (k : Nat) :
    pieceOb Try.prog 0 [.reg [oT, oT, oT, oT, oT], .dec true, .reg [oT, oT, oT, oT, oT, oT, oT], .reg [oT, oT, oT, oT, oT, oT, oT, oT, oT, oT, oT, oT, oT, oT, oT, oT, oT, oT, oT, oT, oT, oT, oT, oT, oT, oT, oT, oT, ⟨true, (some ⟨[], [], [], 1, [], .p (.bool (aft (v.2.1.2 ((k : Int) - 1).toNat) (v.2.1.2 k)))⟩), none⟩, oT, oT, oT], .dec false, .reg [oT, oT, oT], .head] [.code (cAt (bodyOf Try.f110) [1, 1, 0, 1, 0, 0]), .inLoop (cAt (bodyOf Try.f110) [1, 1, 0, 1, 0, 0]), .inBlock 0, .code (cAt (bodyOf Try.f110) [1, 1, 1])] (S48 v k) [0] 1 (S48 v (k + 1)) =
    some ([.code (cAt (bodyOf Try.f110) [1, 1, 0, 1, 0, 0]), .inLoop (cAt (bodyOf Try.f110) [1, 1, 0, 1, 0, 0]), .inBlock 0, .code (cAt (bodyOf Try.f110) [1, 1, 1])], [((0 : Nat) < 1),
  ((decide ((↑k : Int) < (↑v.2.1.1 : Int))) = true),
  ((0 : Nat) < 1),
  ((0 : Int) ≤ (↑k : Int)),
  (((↑k : Int) : Int) < (↑v.2.1.1 : Int)),
  ((0 : Nat) < 1),
  ((true = true) → (AN 1)),
  ((0 : Nat) < 1),
  (AG (!decide ((v.2.1.2 (↑k : Int).toNat).1 < 0))),
  (((!decide ((v.2.1.2 (↑k : Int).toNat).1 < 0)) = true) → ((0 : Nat) < 1)),
  (AG (!decide ((v.2.1.2 (↑k : Int).toNat).1 < 0))),
  (((!decide ((v.2.1.2 (↑k : Int).toNat).1 < 0)) = true) → ((0 : Nat) < 1)),
  (AG (!decide ((v.2.1.2 (↑k : Int).toNat).1 < 0))),
  (AG (!decide ((v.2.1.2 (↑k : Int).toNat).1 < 0))),
  (((decide ((v.2.1.2 (↑k : Int).toNat).1 < 0)) = false) → ((!decide ((v.2.1.2 (↑k : Int).toNat).1 < 0)) = true)),
  (AG (!bif decide ((v.2.1.2 (↑k : Int).toNat).1 < 0) then true else decide ((v.2.1.2 (↑k : Int).toNat).1 ≥ (v.2.1.2 (↑k : Int).toNat).2.1))),
  (((!bif decide ((v.2.1.2 (↑k : Int).toNat).1 < 0) then true else decide ((v.2.1.2 (↑k : Int).toNat).1 ≥ (v.2.1.2 (↑k : Int).toNat).2.1)) = true) → ((0 : Nat) < 1)),
  (AG (!bif decide ((v.2.1.2 (↑k : Int).toNat).1 < 0) then true else decide ((v.2.1.2 (↑k : Int).toNat).1 ≥ (v.2.1.2 (↑k : Int).toNat).2.1))),
  (((!bif decide ((v.2.1.2 (↑k : Int).toNat).1 < 0) then true else decide ((v.2.1.2 (↑k : Int).toNat).1 ≥ (v.2.1.2 (↑k : Int).toNat).2.1)) = true) → ((0 : Nat) < 1)),
  (AG (!bif decide ((v.2.1.2 (↑k : Int).toNat).1 < 0) then true else decide ((v.2.1.2 (↑k : Int).toNat).1 ≥ (v.2.1.2 (↑k : Int).toNat).2.1))),
  (AG (!bif decide ((v.2.1.2 (↑k : Int).toNat).1 < 0) then true else decide ((v.2.1.2 (↑k : Int).toNat).1 ≥ (v.2.1.2 (↑k : Int).toNat).2.1))),
  (((bif decide ((v.2.1.2 (↑k : Int).toNat).1 < 0) then true else decide ((v.2.1.2 (↑k : Int).toNat).1 ≥ (v.2.1.2 (↑k : Int).toNat).2.1)) = false) → ((!bif decide ((v.2.1.2 (↑k : Int).toNat).1 < 0) then true else decide ((v.2.1.2 (↑k : Int).toNat).1 ≥ (v.2.1.2 (↑k : Int).toNat).2.1)) = true)),
  (AG (!bif bif decide ((v.2.1.2 (↑k : Int).toNat).1 < 0) then true else decide ((v.2.1.2 (↑k : Int).toNat).1 ≥ (v.2.1.2 (↑k : Int).toNat).2.1) then true else decide ((v.2.1.2 (↑k : Int).toNat).2.1 ≥ v.1))),
  (AG (!bif bif decide ((v.2.1.2 (↑k : Int).toNat).1 < 0) then true else decide ((v.2.1.2 (↑k : Int).toNat).1 ≥ (v.2.1.2 (↑k : Int).toNat).2.1) then true else decide ((v.2.1.2 (↑k : Int).toNat).2.1 ≥ v.1))),
  (AG ((!bif bif decide ((v.2.1.2 (↑k : Int).toNat).1 < 0) then true else decide ((v.2.1.2 (↑k : Int).toNat).1 ≥ (v.2.1.2 (↑k : Int).toNat).2.1) then true else decide ((v.2.1.2 (↑k : Int).toNat).2.1 ≥ v.1)) && decide ((↑k : Int) > 0))),
  ((((!bif bif decide ((v.2.1.2 (↑k : Int).toNat).1 < 0) then true else decide ((v.2.1.2 (↑k : Int).toNat).1 ≥ (v.2.1.2 (↑k : Int).toNat).2.1) then true else decide ((v.2.1.2 (↑k : Int).toNat).2.1 ≥ v.1)) && decide ((↑k : Int) > 0)) = true) → ((0 : Nat) < 1)),
  (AG ((!bif bif decide ((v.2.1.2 (↑k : Int).toNat).1 < 0) then true else decide ((v.2.1.2 (↑k : Int).toNat).1 ≥ (v.2.1.2 (↑k : Int).toNat).2.1) then true else decide ((v.2.1.2 (↑k : Int).toNat).2.1 ≥ v.1)) && decide ((↑k : Int) > 0))),
  ((((!bif bif decide ((v.2.1.2 (↑k : Int).toNat).1 < 0) then true else decide ((v.2.1.2 (↑k : Int).toNat).1 ≥ (v.2.1.2 (↑k : Int).toNat).2.1) then true else decide ((v.2.1.2 (↑k : Int).toNat).2.1 ≥ v.1)) && decide ((↑k : Int) > 0)) = true) → (((-9223372036854775808) : Int) ≤ ((↑k : Int) - 1))),
  ((((!bif bif decide ((v.2.1.2 (↑k : Int).toNat).1 < 0) then true else decide ((v.2.1.2 (↑k : Int).toNat).1 ≥ (v.2.1.2 (↑k : Int).toNat).2.1) then true else decide ((v.2.1.2 (↑k : Int).toNat).2.1 ≥ v.1)) && decide ((↑k : Int) > 0)) = true) → ((((↑k : Int) - 1) : Int) ≤ 9223372036854775807)),
  (AG ((!bif bif decide ((v.2.1.2 (↑k : Int).toNat).1 < 0) then true else decide ((v.2.1.2 (↑k : Int).toNat).1 ≥ (v.2.1.2 (↑k : Int).toNat).2.1) then true else decide ((v.2.1.2 (↑k : Int).toNat).2.1 ≥ v.1)) && decide ((↑k : Int) > 0))),
  (AG ((!bif bif decide ((v.2.1.2 (↑k : Int).toNat).1 < 0) then true else decide ((v.2.1.2 (↑k : Int).toNat).1 ≥ (v.2.1.2 (↑k : Int).toNat).2.1) then true else decide ((v.2.1.2 (↑k : Int).toNat).2.1 ≥ v.1)) && decide ((↑k : Int) > 0))),
  ((((!bif bif decide ((v.2.1.2 (↑k : Int).toNat).1 < 0) then true else decide ((v.2.1.2 (↑k : Int).toNat).1 ≥ (v.2.1.2 (↑k : Int).toNat).2.1) then true else decide ((v.2.1.2 (↑k : Int).toNat).2.1 ≥ v.1)) && decide ((↑k : Int) > 0)) = true) → ((0 : Int) ≤ ((↑k : Int) - 1))),
  ((((!bif bif decide ((v.2.1.2 (↑k : Int).toNat).1 < 0) then true else decide ((v.2.1.2 (↑k : Int).toNat).1 ≥ (v.2.1.2 (↑k : Int).toNat).2.1) then true else decide ((v.2.1.2 (↑k : Int).toNat).2.1 ≥ v.1)) && decide ((↑k : Int) > 0)) = true) → ((((↑k : Int) - 1) : Int) < (↑v.2.1.1 : Int))),
  (AG ((!bif bif decide ((v.2.1.2 (↑k : Int).toNat).1 < 0) then true else decide ((v.2.1.2 (↑k : Int).toNat).1 ≥ (v.2.1.2 (↑k : Int).toNat).2.1) then true else decide ((v.2.1.2 (↑k : Int).toNat).2.1 ≥ v.1)) && decide ((↑k : Int) > 0))),
  ((((!bif bif decide ((v.2.1.2 (↑k : Int).toNat).1 < 0) then true else decide ((v.2.1.2 (↑k : Int).toNat).1 ≥ (v.2.1.2 (↑k : Int).toNat).2.1) then true else decide ((v.2.1.2 (↑k : Int).toNat).2.1 ≥ v.1)) && decide ((↑k : Int) > 0)) = true) → ((0 : Nat) < 1)),
  (AG ((!bif bif decide ((v.2.1.2 (↑k : Int).toNat).1 < 0) then true else decide ((v.2.1.2 (↑k : Int).toNat).1 ≥ (v.2.1.2 (↑k : Int).toNat).2.1) then true else decide ((v.2.1.2 (↑k : Int).toNat).2.1 ≥ v.1)) && decide ((↑k : Int) > 0))),
  (AG ((!bif bif decide ((v.2.1.2 (↑k : Int).toNat).1 < 0) then true else decide ((v.2.1.2 (↑k : Int).toNat).1 ≥ (v.2.1.2 (↑k : Int).toNat).2.1) then true else decide ((v.2.1.2 (↑k : Int).toNat).2.1 ≥ v.1)) && decide ((↑k : Int) > 0))),
  ((((!bif bif decide ((v.2.1.2 (↑k : Int).toNat).1 < 0) then true else decide ((v.2.1.2 (↑k : Int).toNat).1 ≥ (v.2.1.2 (↑k : Int).toNat).2.1) then true else decide ((v.2.1.2 (↑k : Int).toNat).2.1 ≥ v.1)) && decide ((↑k : Int) > 0)) = true) → Con Try.prog 141 0 [] [.agg [.p (.int .i64 ((v.2.1.2 ((↑k : Int) - 1).toNat).1)), .p (.int .i64 ((v.2.1.2 ((↑k : Int) - 1).toNat).2.1))], .agg [.p (.int .i64 ((v.2.1.2 k).1)), .p (.int .i64 ((v.2.1.2 k).2.1))]] [] (.p (.bool (aft (v.2.1.2 ((↑k : Int) - 1).toNat) (v.2.1.2 k))))),
  (AG ((!bif bif decide ((v.2.1.2 (↑k : Int).toNat).1 < 0) then true else decide ((v.2.1.2 (↑k : Int).toNat).1 ≥ (v.2.1.2 (↑k : Int).toNat).2.1) then true else decide ((v.2.1.2 (↑k : Int).toNat).2.1 ≥ v.1)) && decide ((↑k : Int) > 0))),
  (AG (!bif bif decide ((v.2.1.2 (↑k : Int).toNat).1 < 0) then true else decide ((v.2.1.2 (↑k : Int).toNat).1 ≥ (v.2.1.2 (↑k : Int).toNat).2.1) then true else decide ((v.2.1.2 (↑k : Int).toNat).2.1 ≥ v.1))),
  (((!bif bif decide ((v.2.1.2 (↑k : Int).toNat).1 < 0) then true else decide ((v.2.1.2 (↑k : Int).toNat).1 ≥ (v.2.1.2 (↑k : Int).toNat).2.1) then true else decide ((v.2.1.2 (↑k : Int).toNat).2.1 ≥ v.1)) = true) → (((decide ((↑k : Int) > 0)) = true) → (((!bif bif decide ((v.2.1.2 (↑k : Int).toNat).1 < 0) then true else decide ((v.2.1.2 (↑k : Int).toNat).1 ≥ (v.2.1.2 (↑k : Int).toNat).2.1) then true else decide ((v.2.1.2 (↑k : Int).toNat).2.1 ≥ v.1)) && decide ((↑k : Int) > 0)) = true))),
  (((bif bif decide ((v.2.1.2 (↑k : Int).toNat).1 < 0) then true else decide ((v.2.1.2 (↑k : Int).toNat).1 ≥ (v.2.1.2 (↑k : Int).toNat).2.1) then true else decide ((v.2.1.2 (↑k : Int).toNat).2.1 ≥ v.1)) = false) → ((!bif bif decide ((v.2.1.2 (↑k : Int).toNat).1 < 0) then true else decide ((v.2.1.2 (↑k : Int).toNat).1 ≥ (v.2.1.2 (↑k : Int).toNat).2.1) then true else decide ((v.2.1.2 (↑k : Int).toNat).2.1 ≥ v.1)) = true)),
  ((bif bif bif decide ((v.2.1.2 (↑k : Int).toNat).1 < 0) then true else decide ((v.2.1.2 (↑k : Int).toNat).1 ≥ (v.2.1.2 (↑k : Int).toNat).2.1) then true else decide ((v.2.1.2 (↑k : Int).toNat).2.1 ≥ v.1) then true else bif decide ((↑k : Int) > 0) then !aft (v.2.1.2 ((↑k : Int) - 1).toNat) (v.2.1.2 k) else false) = false),
  (((-9223372036854775808) : Int) ≤ ((↑k : Int) + 1)),
  ((((↑k : Int) + 1) : Int) ≤ 9223372036854775807),
  (AI v.1),
  (AN v.2.1.1),
  (AP v.2.1.1 (fun i => [.int .i64 ((v.2.1.2 i).1), .int .i64 ((v.2.1.2 i).2.1)])),
  (AN 0),
  ((((↑k : Int) + 1) : Int) = (↑(k + 1) : Int)),
  (AN 2),
  ((1 : Nat) ≤ 1),
  ((1 : Nat) ≤ 1),
  (AI v.1),
  (AN v.2.1.1),
  (AP v.2.1.1 (fun i => [.int .i64 ((v.2.1.2 i).1), .int .i64 ((v.2.1.2 i).2.1)]))]) := by kernel_rfl
theorem p48c (v : T_Graph) (k : Nat) :
    pathOb Try.prog Try.f110 0 [.reg [oT, oT, oT, oT, oT], .dec true, .reg [oT, oT, oT, oT, oT, oT, oT], .reg [oT, oT, oT, oT, oT, oT, oT, oT, oT, oT, oT, oT, oT, oT, oT, oT, oT, oT, oT, oT, oT, oT, oT, oT, oT, oT, oT, oT, ⟨true, (some ⟨[], [], [], 1, [], .p (.bool (aft (v.2.1.2 ((k : Int) - 1).toNat) (v.2.1.2 k)))⟩), none⟩, oT, oT, oT], .dec true, .reg [oT]] [.code (cAt (bodyOf Try.f110) [1, 1, 0, 1, 0, 0]), .inLoop (cAt (bodyOf Try.f110) [1, 1, 0, 1, 0, 0]), .inBlock 0, .code (cAt (bodyOf Try.f110) [1, 1, 1])] (S48 v k) [] 1 [] (.p (.bool false)) =
    some [((0 : Nat) < 1),
  ((decide ((↑k : Int) < (↑v.2.1.1 : Int))) = true),
  ((0 : Nat) < 1),
  ((0 : Int) ≤ (↑k : Int)),
  (((↑k : Int) : Int) < (↑v.2.1.1 : Int)),
  ((0 : Nat) < 1),
  ((true = true) → (AN 1)),
  ((0 : Nat) < 1),
  (AG (!decide ((v.2.1.2 (↑k : Int).toNat).1 < 0))),
  (((!decide ((v.2.1.2 (↑k : Int).toNat).1 < 0)) = true) → ((0 : Nat) < 1)),
  (AG (!decide ((v.2.1.2 (↑k : Int).toNat).1 < 0))),
  (((!decide ((v.2.1.2 (↑k : Int).toNat).1 < 0)) = true) → ((0 : Nat) < 1)),
  (AG (!decide ((v.2.1.2 (↑k : Int).toNat).1 < 0))),
  (AG (!decide ((v.2.1.2 (↑k : Int).toNat).1 < 0))),
  (((decide ((v.2.1.2 (↑k : Int).toNat).1 < 0)) = false) → ((!decide ((v.2.1.2 (↑k : Int).toNat).1 < 0)) = true)),
  (AG (!bif decide ((v.2.1.2 (↑k : Int).toNat).1 < 0) then true else decide ((v.2.1.2 (↑k : Int).toNat).1 ≥ (v.2.1.2 (↑k : Int).toNat).2.1))),
  (((!bif decide ((v.2.1.2 (↑k : Int).toNat).1 < 0) then true else decide ((v.2.1.2 (↑k : Int).toNat).1 ≥ (v.2.1.2 (↑k : Int).toNat).2.1)) = true) → ((0 : Nat) < 1)),
  (AG (!bif decide ((v.2.1.2 (↑k : Int).toNat).1 < 0) then true else decide ((v.2.1.2 (↑k : Int).toNat).1 ≥ (v.2.1.2 (↑k : Int).toNat).2.1))),
  (((!bif decide ((v.2.1.2 (↑k : Int).toNat).1 < 0) then true else decide ((v.2.1.2 (↑k : Int).toNat).1 ≥ (v.2.1.2 (↑k : Int).toNat).2.1)) = true) → ((0 : Nat) < 1)),
  (AG (!bif decide ((v.2.1.2 (↑k : Int).toNat).1 < 0) then true else decide ((v.2.1.2 (↑k : Int).toNat).1 ≥ (v.2.1.2 (↑k : Int).toNat).2.1))),
  (AG (!bif decide ((v.2.1.2 (↑k : Int).toNat).1 < 0) then true else decide ((v.2.1.2 (↑k : Int).toNat).1 ≥ (v.2.1.2 (↑k : Int).toNat).2.1))),
  (((bif decide ((v.2.1.2 (↑k : Int).toNat).1 < 0) then true else decide ((v.2.1.2 (↑k : Int).toNat).1 ≥ (v.2.1.2 (↑k : Int).toNat).2.1)) = false) → ((!bif decide ((v.2.1.2 (↑k : Int).toNat).1 < 0) then true else decide ((v.2.1.2 (↑k : Int).toNat).1 ≥ (v.2.1.2 (↑k : Int).toNat).2.1)) = true)),
  (AG (!bif bif decide ((v.2.1.2 (↑k : Int).toNat).1 < 0) then true else decide ((v.2.1.2 (↑k : Int).toNat).1 ≥ (v.2.1.2 (↑k : Int).toNat).2.1) then true else decide ((v.2.1.2 (↑k : Int).toNat).2.1 ≥ v.1))),
  (AG (!bif bif decide ((v.2.1.2 (↑k : Int).toNat).1 < 0) then true else decide ((v.2.1.2 (↑k : Int).toNat).1 ≥ (v.2.1.2 (↑k : Int).toNat).2.1) then true else decide ((v.2.1.2 (↑k : Int).toNat).2.1 ≥ v.1))),
  (AG ((!bif bif decide ((v.2.1.2 (↑k : Int).toNat).1 < 0) then true else decide ((v.2.1.2 (↑k : Int).toNat).1 ≥ (v.2.1.2 (↑k : Int).toNat).2.1) then true else decide ((v.2.1.2 (↑k : Int).toNat).2.1 ≥ v.1)) && decide ((↑k : Int) > 0))),
  ((((!bif bif decide ((v.2.1.2 (↑k : Int).toNat).1 < 0) then true else decide ((v.2.1.2 (↑k : Int).toNat).1 ≥ (v.2.1.2 (↑k : Int).toNat).2.1) then true else decide ((v.2.1.2 (↑k : Int).toNat).2.1 ≥ v.1)) && decide ((↑k : Int) > 0)) = true) → ((0 : Nat) < 1)),
  (AG ((!bif bif decide ((v.2.1.2 (↑k : Int).toNat).1 < 0) then true else decide ((v.2.1.2 (↑k : Int).toNat).1 ≥ (v.2.1.2 (↑k : Int).toNat).2.1) then true else decide ((v.2.1.2 (↑k : Int).toNat).2.1 ≥ v.1)) && decide ((↑k : Int) > 0))),
  ((((!bif bif decide ((v.2.1.2 (↑k : Int).toNat).1 < 0) then true else decide ((v.2.1.2 (↑k : Int).toNat).1 ≥ (v.2.1.2 (↑k : Int).toNat).2.1) then true else decide ((v.2.1.2 (↑k : Int).toNat).2.1 ≥ v.1)) && decide ((↑k : Int) > 0)) = true) → (((-9223372036854775808) : Int) ≤ ((↑k : Int) - 1))),
  ((((!bif bif decide ((v.2.1.2 (↑k : Int).toNat).1 < 0) then true else decide ((v.2.1.2 (↑k : Int).toNat).1 ≥ (v.2.1.2 (↑k : Int).toNat).2.1) then true else decide ((v.2.1.2 (↑k : Int).toNat).2.1 ≥ v.1)) && decide ((↑k : Int) > 0)) = true) → ((((↑k : Int) - 1) : Int) ≤ 9223372036854775807)),
  (AG ((!bif bif decide ((v.2.1.2 (↑k : Int).toNat).1 < 0) then true else decide ((v.2.1.2 (↑k : Int).toNat).1 ≥ (v.2.1.2 (↑k : Int).toNat).2.1) then true else decide ((v.2.1.2 (↑k : Int).toNat).2.1 ≥ v.1)) && decide ((↑k : Int) > 0))),
  (AG ((!bif bif decide ((v.2.1.2 (↑k : Int).toNat).1 < 0) then true else decide ((v.2.1.2 (↑k : Int).toNat).1 ≥ (v.2.1.2 (↑k : Int).toNat).2.1) then true else decide ((v.2.1.2 (↑k : Int).toNat).2.1 ≥ v.1)) && decide ((↑k : Int) > 0))),
  ((((!bif bif decide ((v.2.1.2 (↑k : Int).toNat).1 < 0) then true else decide ((v.2.1.2 (↑k : Int).toNat).1 ≥ (v.2.1.2 (↑k : Int).toNat).2.1) then true else decide ((v.2.1.2 (↑k : Int).toNat).2.1 ≥ v.1)) && decide ((↑k : Int) > 0)) = true) → ((0 : Int) ≤ ((↑k : Int) - 1))),
  ((((!bif bif decide ((v.2.1.2 (↑k : Int).toNat).1 < 0) then true else decide ((v.2.1.2 (↑k : Int).toNat).1 ≥ (v.2.1.2 (↑k : Int).toNat).2.1) then true else decide ((v.2.1.2 (↑k : Int).toNat).2.1 ≥ v.1)) && decide ((↑k : Int) > 0)) = true) → ((((↑k : Int) - 1) : Int) < (↑v.2.1.1 : Int))),
  (AG ((!bif bif decide ((v.2.1.2 (↑k : Int).toNat).1 < 0) then true else decide ((v.2.1.2 (↑k : Int).toNat).1 ≥ (v.2.1.2 (↑k : Int).toNat).2.1) then true else decide ((v.2.1.2 (↑k : Int).toNat).2.1 ≥ v.1)) && decide ((↑k : Int) > 0))),
  ((((!bif bif decide ((v.2.1.2 (↑k : Int).toNat).1 < 0) then true else decide ((v.2.1.2 (↑k : Int).toNat).1 ≥ (v.2.1.2 (↑k : Int).toNat).2.1) then true else decide ((v.2.1.2 (↑k : Int).toNat).2.1 ≥ v.1)) && decide ((↑k : Int) > 0)) = true) → ((0 : Nat) < 1)),
  (AG ((!bif bif decide ((v.2.1.2 (↑k : Int).toNat).1 < 0) then true else decide ((v.2.1.2 (↑k : Int).toNat).1 ≥ (v.2.1.2 (↑k : Int).toNat).2.1) then true else decide ((v.2.1.2 (↑k : Int).toNat).2.1 ≥ v.1)) && decide ((↑k : Int) > 0))),
  (AG ((!bif bif decide ((v.2.1.2 (↑k : Int).toNat).1 < 0) then true else decide ((v.2.1.2 (↑k : Int).toNat).1 ≥ (v.2.1.2 (↑k : Int).toNat).2.1) then true else decide ((v.2.1.2 (↑k : Int).toNat).2.1 ≥ v.1)) && decide ((↑k : Int) > 0))),
  ((((!bif bif decide ((v.2.1.2 (↑k : Int).toNat).1 < 0) then true else decide ((v.2.1.2 (↑k : Int).toNat).1 ≥ (v.2.1.2 (↑k : Int).toNat).2.1) then true else decide ((v.2.1.2 (↑k : Int).toNat).2.1 ≥ v.1)) && decide ((↑k : Int) > 0)) = true) → Con Try.prog 141 0 [] [.agg [.p (.int .i64 ((v.2.1.2 ((↑k : Int) - 1).toNat).1)), .p (.int .i64 ((v.2.1.2 ((↑k : Int) - 1).toNat).2.1))], .agg [.p (.int .i64 ((v.2.1.2 k).1)), .p (.int .i64 ((v.2.1.2 k).2.1))]] [] (.p (.bool (aft (v.2.1.2 ((↑k : Int) - 1).toNat) (v.2.1.2 k))))),
  (AG ((!bif bif decide ((v.2.1.2 (↑k : Int).toNat).1 < 0) then true else decide ((v.2.1.2 (↑k : Int).toNat).1 ≥ (v.2.1.2 (↑k : Int).toNat).2.1) then true else decide ((v.2.1.2 (↑k : Int).toNat).2.1 ≥ v.1)) && decide ((↑k : Int) > 0))),
  (AG (!bif bif decide ((v.2.1.2 (↑k : Int).toNat).1 < 0) then true else decide ((v.2.1.2 (↑k : Int).toNat).1 ≥ (v.2.1.2 (↑k : Int).toNat).2.1) then true else decide ((v.2.1.2 (↑k : Int).toNat).2.1 ≥ v.1))),
  (((!bif bif decide ((v.2.1.2 (↑k : Int).toNat).1 < 0) then true else decide ((v.2.1.2 (↑k : Int).toNat).1 ≥ (v.2.1.2 (↑k : Int).toNat).2.1) then true else decide ((v.2.1.2 (↑k : Int).toNat).2.1 ≥ v.1)) = true) → (((decide ((↑k : Int) > 0)) = true) → (((!bif bif decide ((v.2.1.2 (↑k : Int).toNat).1 < 0) then true else decide ((v.2.1.2 (↑k : Int).toNat).1 ≥ (v.2.1.2 (↑k : Int).toNat).2.1) then true else decide ((v.2.1.2 (↑k : Int).toNat).2.1 ≥ v.1)) && decide ((↑k : Int) > 0)) = true))),
  (((bif bif decide ((v.2.1.2 (↑k : Int).toNat).1 < 0) then true else decide ((v.2.1.2 (↑k : Int).toNat).1 ≥ (v.2.1.2 (↑k : Int).toNat).2.1) then true else decide ((v.2.1.2 (↑k : Int).toNat).2.1 ≥ v.1)) = false) → ((!bif bif decide ((v.2.1.2 (↑k : Int).toNat).1 < 0) then true else decide ((v.2.1.2 (↑k : Int).toNat).1 ≥ (v.2.1.2 (↑k : Int).toNat).2.1) then true else decide ((v.2.1.2 (↑k : Int).toNat).2.1 ≥ v.1)) = true)),
  ((bif bif bif decide ((v.2.1.2 (↑k : Int).toNat).1 < 0) then true else decide ((v.2.1.2 (↑k : Int).toNat).1 ≥ (v.2.1.2 (↑k : Int).toNat).2.1) then true else decide ((v.2.1.2 (↑k : Int).toNat).2.1 ≥ v.1) then true else bif decide ((↑k : Int) > 0) then !aft (v.2.1.2 ((↑k : Int) - 1).toNat) (v.2.1.2 k) else false) = true),
  (false = false)] := by kernel_rfl
theorem p48d (v : T_Graph) (k : Nat) :
    pathOb Try.prog Try.f110 0 [.reg [oT, oT, oT, oT, oT], .dec false, .reg [oT]] [.code (cAt (bodyOf Try.f110) [1, 1, 0, 1, 0, 0]), .inLoop (cAt (bodyOf Try.f110) [1, 1, 0, 1, 0, 0]), .inBlock 0, .code (cAt (bodyOf Try.f110) [1, 1, 1])] (S48 v k) [] 1 [] (.p (.bool true)) =
    some [((0 : Nat) < 1),
  ((decide ((↑k : Int) < (↑v.2.1.1 : Int))) = false),
  (true = true)] := by kernel_rfl
theorem p51z (v : T_Graph) :
    pathOb Try.prog Try.f101 0 [.reg [oT, oT], .reg [oT, oT, ⟨true, (some ⟨[], [], [], 1, [], .p (.bool (inB v.1 1 8))⟩), none⟩, oT, oT, oT, oT, oT, oT, oT], .dec true, .reg [oT]] [.code (bodyOf Try.f101)] (start Try.f101 [] 0 [graphA v]) [] 1 [] (.p (.bool false)) =
    some [((0 : Nat) < 1),
  Con Try.prog 40 0 [] [.p (.int .i64 v.1), .p (.int .i64 1), .p (.int .i64 8)] [] (.p (.bool (inB v.1 1 8))),
  (AG (!!inB v.1 1 8)),
  (((!!inB v.1 1 8) = true) → ((0 : Nat) < 1)),
  (AG (!!inB v.1 1 8)),
  (AG (!!inB v.1 1 8)),
  (((!inB v.1 1 8) = false) → ((!!inB v.1 1 8) = true)),
  ((bif !inB v.1 1 8 then true else decide ((↑v.2.1.1 : Int) > 24)) = true),
  (false = false)] := by kernel_rfl
theorem p51a (v : T_Graph) :
    pieceOb Try.prog 0 [.reg [oT, oT], .reg [oT, oT, ⟨true, (some ⟨[], [], [], 1, [], .p (.bool (inB v.1 1 8))⟩), none⟩, oT, oT, oT, oT, oT, oT, oT], .dec false, .reg [oT, oT, oT, oT], .head] [.code (bodyOf Try.f101)] (start Try.f101 [] 0 [graphA v]) [0] 1 (S51 v 0) =
    some ([.code (cAt (bodyOf Try.f101) [1, 1, 0, 1, 0, 0]), .inLoop (cAt (bodyOf Try.f101) [1, 1, 0, 1, 0, 0]), .inBlock 0, .code (cAt (bodyOf Try.f101) [1, 1, 1])], [((0 : Nat) < 1),
  Con Try.prog 40 0 [] [.p (.int .i64 v.1), .p (.int .i64 1), .p (.int .i64 8)] [] (.p (.bool (inB v.1 1 8))),
  (AG (!!inB v.1 1 8)),
  (((!!inB v.1 1 8) = true) → ((0 : Nat) < 1)),
  (AG (!!inB v.1 1 8)),
  (AG (!!inB v.1 1 8)),
  (((!inB v.1 1 8) = false) → ((!!inB v.1 1 8) = true)),
  ((bif !inB v.1 1 8 then true else decide ((↑v.2.1.1 : Int) > 24)) = false),
  ((0 : Nat) < 1),
  (AI v.1),
  (AN v.2.1.1),
  (AP v.2.1.1 (fun i => [.int .i64 ((v.2.1.2 i).1), .int .i64 ((v.2.1.2 i).2.1)])),
  (AN 0),
  (AN v.2.1.1),
  (AP v.2.1.1 (fun i => [.int .i64 ((v.2.1.2 i).1), .int .i64 ((v.2.1.2 i).2.1)])),
  (AI ((↑v.2.1.1 : Int))),
  ((0 : Int) = (↑0 : Int)),
  ((([AV.p (PV.int IntKind.i64 v.1), graphL v.2.1].length) : Nat) = 2),
  ((1 : Nat) ≤ 1),
  ((1 : Nat) ≤ 1),
  (AI v.1),
  (AN v.2.1.1),
  (AP v.2.1.1 (fun i => [.int .i64 ((v.2.1.2 i).1), .int .i64 ((v.2.1.2 i).2.1)]))]) := by kernel_rfl
theorem p51b (v : T_Graph) (k : Nat) :
    pieceOb Try.prog 0 [.reg [oT], .dec true, .reg [oT, oT, oT, oT, oT, oT], .reg [oT, oT, oT, oT, oT, oT, oT, oT, oT, oT, oT, oT, oT, oT, oT, oT, oT, oT, oT, oT, oT, oT, oT, oT, oT, oT, oT, oT, ⟨true, (some ⟨[], [], [], 1, [], .p (.int .i64 (cmpB (v.2.1.2 ((k : Int) - 1).toNat) (v.2.1.2 k)))⟩), none⟩, oT, oT, oT], .dec false, .reg [oT, oT], .head] [.code (cAt (bodyOf Try.f101) [1, 1, 0, 1, 0, 0]), .inLoop (cAt (bodyOf Try.f101) [1, 1, 0, 1, 0, 0]), .inBlock 0, .code (cAt (bodyOf Try.f101) [1, 1, 1])] (S51 v k) [0] 1 (S51 v (k + 1)) =
    some ([.code (cAt (bodyOf Try.f101) [1, 1, 0, 1, 0, 0]), .inLoop (cAt (bodyOf Try.f101) [1, 1, 0, 1, 0, 0]), .inBlock 0, .code (cAt (bodyOf Try.f101) [1, 1, 1])], [((decide ((↑k : Int) < (↑v.2.1.1 : Int))) = true),
  ((0 : Int) ≤ (↑k : Int)),
  (((↑k : Int) : Int) < (↑v.2.1.1 : Int)),
  ((0 : Nat) < 1),
  ((true = true) → (AN 1)),
  ((0 : Nat) < 1),
  (AG (!decide ((v.2.1.2 (↑k : Int).toNat).1 < 0))),
  (((!decide ((v.2.1.2 (↑k : Int).toNat).1 < 0)) = true) → ((0 : Nat) < 1)),
  (AG (!decide ((v.2.1.2 (↑k : Int).toNat).1 < 0))),
  (((!decide ((v.2.1.2 (↑k : Int).toNat).1 < 0)) = true) → ((0 : Nat) < 1)),
  (AG (!decide ((v.2.1.2 (↑k : Int).toNat).1 < 0))),
  (AG (!decide ((v.2.1.2 (↑k : Int).toNat).1 < 0))),
  (((decide ((v.2.1.2 (↑k : Int).toNat).1 < 0)) = false) → ((!decide ((v.2.1.2 (↑k : Int).toNat).1 < 0)) = true)),
  (AG (!bif decide ((v.2.1.2 (↑k : Int).toNat).1 < 0) then true else decide ((v.2.1.2 (↑k : Int).toNat).1 ≥ (v.2.1.2 (↑k : Int).toNat).2.1))),
  (((!bif decide ((v.2.1.2 (↑k : Int).toNat).1 < 0) then true else decide ((v.2.1.2 (↑k : Int).toNat).1 ≥ (v.2.1.2 (↑k : Int).toNat).2.1)) = true) → ((0 : Nat) < 1)),
  (AG (!bif decide ((v.2.1.2 (↑k : Int).toNat).1 < 0) then true else decide ((v.2.1.2 (↑k : Int).toNat).1 ≥ (v.2.1.2 (↑k : Int).toNat).2.1))),
  (((!bif decide ((v.2.1.2 (↑k : Int).toNat).1 < 0) then true else decide ((v.2.1.2 (↑k : Int).toNat).1 ≥ (v.2.1.2 (↑k : Int).toNat).2.1)) = true) → ((0 : Nat) < 1)),
  (AG (!bif decide ((v.2.1.2 (↑k : Int).toNat).1 < 0) then true else decide ((v.2.1.2 (↑k : Int).toNat).1 ≥ (v.2.1.2 (↑k : Int).toNat).2.1))),
  (AG (!bif decide ((v.2.1.2 (↑k : Int).toNat).1 < 0) then true else decide ((v.2.1.2 (↑k : Int).toNat).1 ≥ (v.2.1.2 (↑k : Int).toNat).2.1))),
  (((bif decide ((v.2.1.2 (↑k : Int).toNat).1 < 0) then true else decide ((v.2.1.2 (↑k : Int).toNat).1 ≥ (v.2.1.2 (↑k : Int).toNat).2.1)) = false) → ((!bif decide ((v.2.1.2 (↑k : Int).toNat).1 < 0) then true else decide ((v.2.1.2 (↑k : Int).toNat).1 ≥ (v.2.1.2 (↑k : Int).toNat).2.1)) = true)),
  (AG (!bif bif decide ((v.2.1.2 (↑k : Int).toNat).1 < 0) then true else decide ((v.2.1.2 (↑k : Int).toNat).1 ≥ (v.2.1.2 (↑k : Int).toNat).2.1) then true else decide ((v.2.1.2 (↑k : Int).toNat).2.1 ≥ v.1))),
  (AG (!bif bif decide ((v.2.1.2 (↑k : Int).toNat).1 < 0) then true else decide ((v.2.1.2 (↑k : Int).toNat).1 ≥ (v.2.1.2 (↑k : Int).toNat).2.1) then true else decide ((v.2.1.2 (↑k : Int).toNat).2.1 ≥ v.1))),
  (AG ((!bif bif decide ((v.2.1.2 (↑k : Int).toNat).1 < 0) then true else decide ((v.2.1.2 (↑k : Int).toNat).1 ≥ (v.2.1.2 (↑k : Int).toNat).2.1) then true else decide ((v.2.1.2 (↑k : Int).toNat).2.1 ≥ v.1)) && decide ((↑k : Int) > 0))),
  ((((!bif bif decide ((v.2.1.2 (↑k : Int).toNat).1 < 0) then true else decide ((v.2.1.2 (↑k : Int).toNat).1 ≥ (v.2.1.2 (↑k : Int).toNat).2.1) then true else decide ((v.2.1.2 (↑k : Int).toNat).2.1 ≥ v.1)) && decide ((↑k : Int) > 0)) = true) → ((0 : Nat) < 1)),
  (AG ((!bif bif decide ((v.2.1.2 (↑k : Int).toNat).1 < 0) then true else decide ((v.2.1.2 (↑k : Int).toNat).1 ≥ (v.2.1.2 (↑k : Int).toNat).2.1) then true else decide ((v.2.1.2 (↑k : Int).toNat).2.1 ≥ v.1)) && decide ((↑k : Int) > 0))),
  ((((!bif bif decide ((v.2.1.2 (↑k : Int).toNat).1 < 0) then true else decide ((v.2.1.2 (↑k : Int).toNat).1 ≥ (v.2.1.2 (↑k : Int).toNat).2.1) then true else decide ((v.2.1.2 (↑k : Int).toNat).2.1 ≥ v.1)) && decide ((↑k : Int) > 0)) = true) → (((-9223372036854775808) : Int) ≤ ((↑k : Int) - 1))),
  ((((!bif bif decide ((v.2.1.2 (↑k : Int).toNat).1 < 0) then true else decide ((v.2.1.2 (↑k : Int).toNat).1 ≥ (v.2.1.2 (↑k : Int).toNat).2.1) then true else decide ((v.2.1.2 (↑k : Int).toNat).2.1 ≥ v.1)) && decide ((↑k : Int) > 0)) = true) → ((((↑k : Int) - 1) : Int) ≤ 9223372036854775807)),
  (AG ((!bif bif decide ((v.2.1.2 (↑k : Int).toNat).1 < 0) then true else decide ((v.2.1.2 (↑k : Int).toNat).1 ≥ (v.2.1.2 (↑k : Int).toNat).2.1) then true else decide ((v.2.1.2 (↑k : Int).toNat).2.1 ≥ v.1)) && decide ((↑k : Int) > 0))),
  (AG ((!bif bif decide ((v.2.1.2 (↑k : Int).toNat).1 < 0) then true else decide ((v.2.1.2 (↑k : Int).toNat).1 ≥ (v.2.1.2 (↑k : Int).toNat).2.1) then true else decide ((v.2.1.2 (↑k : Int).toNat).2.1 ≥ v.1)) && decide ((↑k : Int) > 0))),
  ((((!bif bif decide ((v.2.1.2 (↑k : Int).toNat).1 < 0) then true else decide ((v.2.1.2 (↑k : Int).toNat).1 ≥ (v.2.1.2 (↑k : Int).toNat).2.1) then true else decide ((v.2.1.2 (↑k : Int).toNat).2.1 ≥ v.1)) && decide ((↑k : Int) > 0)) = true) → ((0 : Int) ≤ ((↑k : Int) - 1))),
  ((((!bif bif decide ((v.2.1.2 (↑k : Int).toNat).1 < 0) then true else decide ((v.2.1.2 (↑k : Int).toNat).1 ≥ (v.2.1.2 (↑k : Int).toNat).2.1) then true else decide ((v.2.1.2 (↑k : Int).toNat).2.1 ≥ v.1)) && decide ((↑k : Int) > 0)) = true) → ((((↑k : Int) - 1) : Int) < (↑v.2.1.1 : Int))),
  (AG ((!bif bif decide ((v.2.1.2 (↑k : Int).toNat).1 < 0) then true else decide ((v.2.1.2 (↑k : Int).toNat).1 ≥ (v.2.1.2 (↑k : Int).toNat).2.1) then true else decide ((v.2.1.2 (↑k : Int).toNat).2.1 ≥ v.1)) && decide ((↑k : Int) > 0))),
  ((((!bif bif decide ((v.2.1.2 (↑k : Int).toNat).1 < 0) then true else decide ((v.2.1.2 (↑k : Int).toNat).1 ≥ (v.2.1.2 (↑k : Int).toNat).2.1) then true else decide ((v.2.1.2 (↑k : Int).toNat).2.1 ≥ v.1)) && decide ((↑k : Int) > 0)) = true) → ((0 : Nat) < 1)),
  (AG ((!bif bif decide ((v.2.1.2 (↑k : Int).toNat).1 < 0) then true else decide ((v.2.1.2 (↑k : Int).toNat).1 ≥ (v.2.1.2 (↑k : Int).toNat).2.1) then true else decide ((v.2.1.2 (↑k : Int).toNat).2.1 ≥ v.1)) && decide ((↑k : Int) > 0))),
  (AG ((!bif bif decide ((v.2.1.2 (↑k : Int).toNat).1 < 0) then true else decide ((v.2.1.2 (↑k : Int).toNat).1 ≥ (v.2.1.2 (↑k : Int).toNat).2.1) then true else decide ((v.2.1.2 (↑k : Int).toNat).2.1 ≥ v.1)) && decide ((↑k : Int) > 0))),
  ((((!bif bif decide ((v.2.1.2 (↑k : Int).toNat).1 < 0) then true else decide ((v.2.1.2 (↑k : Int).toNat).1 ≥ (v.2.1.2 (↑k : Int).toNat).2.1) then true else decide ((v.2.1.2 (↑k : Int).toNat).2.1 ≥ v.1)) && decide ((↑k : Int) > 0)) = true) → Con Try.prog 135 0 [] [.agg [.p (.int .i64 ((v.2.1.2 ((↑k : Int) - 1).toNat).1)), .p (.int .i64 ((v.2.1.2 ((↑k : Int) - 1).toNat).2.1))], .agg [.p (.int .i64 ((v.2.1.2 k).1)), .p (.int .i64 ((v.2.1.2 k).2.1))]] [] (.p (.int .i64 (cmpB (v.2.1.2 ((↑k : Int) - 1).toNat) (v.2.1.2 k))))),
  (AG ((!bif bif decide ((v.2.1.2 (↑k : Int).toNat).1 < 0) then true else decide ((v.2.1.2 (↑k : Int).toNat).1 ≥ (v.2.1.2 (↑k : Int).toNat).2.1) then true else decide ((v.2.1.2 (↑k : Int).toNat).2.1 ≥ v.1)) && decide ((↑k : Int) > 0))),
  (AG (!bif bif decide ((v.2.1.2 (↑k : Int).toNat).1 < 0) then true else decide ((v.2.1.2 (↑k : Int).toNat).1 ≥ (v.2.1.2 (↑k : Int).toNat).2.1) then true else decide ((v.2.1.2 (↑k : Int).toNat).2.1 ≥ v.1))),
  (((!bif bif decide ((v.2.1.2 (↑k : Int).toNat).1 < 0) then true else decide ((v.2.1.2 (↑k : Int).toNat).1 ≥ (v.2.1.2 (↑k : Int).toNat).2.1) then true else decide ((v.2.1.2 (↑k : Int).toNat).2.1 ≥ v.1)) = true) → (((decide ((↑k : Int) > 0)) = true) → (((!bif bif decide ((v.2.1.2 (↑k : Int).toNat).1 < 0) then true else decide ((v.2.1.2 (↑k : Int).toNat).1 ≥ (v.2.1.2 (↑k : Int).toNat).2.1) then true else decide ((v.2.1.2 (↑k : Int).toNat).2.1 ≥ v.1)) && decide ((↑k : Int) > 0)) = true))),
  (((bif bif decide ((v.2.1.2 (↑k : Int).toNat).1 < 0) then true else decide ((v.2.1.2 (↑k : Int).toNat).1 ≥ (v.2.1.2 (↑k : Int).toNat).2.1) then true else decide ((v.2.1.2 (↑k : Int).toNat).2.1 ≥ v.1)) = false) → ((!bif bif decide ((v.2.1.2 (↑k : Int).toNat).1 < 0) then true else decide ((v.2.1.2 (↑k : Int).toNat).1 ≥ (v.2.1.2 (↑k : Int).toNat).2.1) then true else decide ((v.2.1.2 (↑k : Int).toNat).2.1 ≥ v.1)) = true)),
  ((bif bif bif decide ((v.2.1.2 (↑k : Int).toNat).1 < 0) then true else decide ((v.2.1.2 (↑k : Int).toNat).1 ≥ (v.2.1.2 (↑k : Int).toNat).2.1) then true else decide ((v.2.1.2 (↑k : Int).toNat).2.1 ≥ v.1) then true else bif decide ((↑k : Int) > 0) then decide (cmpB (v.2.1.2 ((↑k : Int) - 1).toNat) (v.2.1.2 k) > 0) else false) = false),
  (((-9223372036854775808) : Int) ≤ ((↑k : Int) + 1)),
  ((((↑k : Int) + 1) : Int) ≤ 9223372036854775807),
  (AI v.1),
  (AN v.2.1.1),
  (AP v.2.1.1 (fun i => [.int .i64 ((v.2.1.2 i).1), .int .i64 ((v.2.1.2 i).2.1)])),
  (AN 0),
  (AN v.2.1.1),
  (AP v.2.1.1 (fun i => [.int .i64 ((v.2.1.2 i).1), .int .i64 ((v.2.1.2 i).2.1)])),
  (AI ((↑v.2.1.1 : Int))),
  ((((↑k : Int) + 1) : Int) = (↑(k + 1) : Int)),
  (AN 2),
  ((1 : Nat) ≤ 1),
  ((1 : Nat) ≤ 1),
  (AI v.1),
  (AN v.2.1.1),
  (AP v.2.1.1 (fun i => [.int .i64 ((v.2.1.2 i).1), .int .i64 ((v.2.1.2 i).2.1)]))]) := by kernel_rfl
theorem p51c (v : T_Graph) (k : Nat) :
    pathOb Try.prog Try.f101 0 [.reg [oT], .dec true, .reg [oT, oT, oT, oT, oT, oT], .reg [oT, oT, oT, oT, oT, oT, oT, oT, oT, oT, oT, oT, oT, oT, oT, oT, oT, oT, oT, oT, oT, oT, oT, oT, oT, oT, oT, oT, ⟨true, (some ⟨[], [], [], 1, [], .p (.int .i64 (cmpB (v.2.1.2 ((k : Int) - 1).toNat) (v.2.1.2 k)))⟩), none⟩, oT, oT, oT], .dec true, .reg [oT]] [.code (cAt (bodyOf Try.f101) [1, 1, 0, 1, 0, 0]), .inLoop (cAt (bodyOf Try.f101) [1, 1, 0, 1, 0, 0]), .inBlock 0, .code (cAt (bodyOf Try.f101) [1, 1, 1])] (S51 v k) [] 1 [] (.p (.bool false)) =
    some [((decide ((↑k : Int) < (↑v.2.1.1 : Int))) = true),
  ((0 : Int) ≤ (↑k : Int)),
  (((↑k : Int) : Int) < (↑v.2.1.1 : Int)),
  ((0 : Nat) < 1),
  ((true = true) → (AN 1)),
  ((0 : Nat) < 1),
  (AG (!decide ((v.2.1.2 (↑k : Int).toNat).1 < 0))),
  (((!decide ((v.2.1.2 (↑k : Int).toNat).1 < 0)) = true) → ((0 : Nat) < 1)),
  (AG (!decide ((v.2.1.2 (↑k : Int).toNat).1 < 0))),
  (((!decide ((v.2.1.2 (↑k : Int).toNat).1 < 0)) = true) → ((0 : Nat) < 1)),
  (AG (!decide ((v.2.1.2 (↑k : Int).toNat).1 < 0))),
  (AG (!decide ((v.2.1.2 (↑k : Int).toNat).1 < 0))),
  (((decide ((v.2.1.2 (↑k : Int).toNat).1 < 0)) = false) → ((!decide ((v.2.1.2 (↑k : Int).toNat).1 < 0)) = true)),
  (AG (!bif decide ((v.2.1.2 (↑k : Int).toNat).1 < 0) then true else decide ((v.2.1.2 (↑k : Int).toNat).1 ≥ (v.2.1.2 (↑k : Int).toNat).2.1))),
  (((!bif decide ((v.2.1.2 (↑k : Int).toNat).1 < 0) then true else decide ((v.2.1.2 (↑k : Int).toNat).1 ≥ (v.2.1.2 (↑k : Int).toNat).2.1)) = true) → ((0 : Nat) < 1)),
  (AG (!bif decide ((v.2.1.2 (↑k : Int).toNat).1 < 0) then true else decide ((v.2.1.2 (↑k : Int).toNat).1 ≥ (v.2.1.2 (↑k : Int).toNat).2.1))),
  (((!bif decide ((v.2.1.2 (↑k : Int).toNat).1 < 0) then true else decide ((v.2.1.2 (↑k : Int).toNat).1 ≥ (v.2.1.2 (↑k : Int).toNat).2.1)) = true) → ((0 : Nat) < 1)),
  (AG (!bif decide ((v.2.1.2 (↑k : Int).toNat).1 < 0) then true else decide ((v.2.1.2 (↑k : Int).toNat).1 ≥ (v.2.1.2 (↑k : Int).toNat).2.1))),
  (AG (!bif decide ((v.2.1.2 (↑k : Int).toNat).1 < 0) then true else decide ((v.2.1.2 (↑k : Int).toNat).1 ≥ (v.2.1.2 (↑k : Int).toNat).2.1))),
  (((bif decide ((v.2.1.2 (↑k : Int).toNat).1 < 0) then true else decide ((v.2.1.2 (↑k : Int).toNat).1 ≥ (v.2.1.2 (↑k : Int).toNat).2.1)) = false) → ((!bif decide ((v.2.1.2 (↑k : Int).toNat).1 < 0) then true else decide ((v.2.1.2 (↑k : Int).toNat).1 ≥ (v.2.1.2 (↑k : Int).toNat).2.1)) = true)),
  (AG (!bif bif decide ((v.2.1.2 (↑k : Int).toNat).1 < 0) then true else decide ((v.2.1.2 (↑k : Int).toNat).1 ≥ (v.2.1.2 (↑k : Int).toNat).2.1) then true else decide ((v.2.1.2 (↑k : Int).toNat).2.1 ≥ v.1))),
  (AG (!bif bif decide ((v.2.1.2 (↑k : Int).toNat).1 < 0) then true else decide ((v.2.1.2 (↑k : Int).toNat).1 ≥ (v.2.1.2 (↑k : Int).toNat).2.1) then true else decide ((v.2.1.2 (↑k : Int).toNat).2.1 ≥ v.1))),
  (AG ((!bif bif decide ((v.2.1.2 (↑k : Int).toNat).1 < 0) then true else decide ((v.2.1.2 (↑k : Int).toNat).1 ≥ (v.2.1.2 (↑k : Int).toNat).2.1) then true else decide ((v.2.1.2 (↑k : Int).toNat).2.1 ≥ v.1)) && decide ((↑k : Int) > 0))),
  ((((!bif bif decide ((v.2.1.2 (↑k : Int).toNat).1 < 0) then true else decide ((v.2.1.2 (↑k : Int).toNat).1 ≥ (v.2.1.2 (↑k : Int).toNat).2.1) then true else decide ((v.2.1.2 (↑k : Int).toNat).2.1 ≥ v.1)) && decide ((↑k : Int) > 0)) = true) → ((0 : Nat) < 1)),
  (AG ((!bif bif decide ((v.2.1.2 (↑k : Int).toNat).1 < 0) then true else decide ((v.2.1.2 (↑k : Int).toNat).1 ≥ (v.2.1.2 (↑k : Int).toNat).2.1) then true else decide ((v.2.1.2 (↑k : Int).toNat).2.1 ≥ v.1)) && decide ((↑k : Int) > 0))),
  ((((!bif bif decide ((v.2.1.2 (↑k : Int).toNat).1 < 0) then true else decide ((v.2.1.2 (↑k : Int).toNat).1 ≥ (v.2.1.2 (↑k : Int).toNat).2.1) then true else decide ((v.2.1.2 (↑k : Int).toNat).2.1 ≥ v.1)) && decide ((↑k : Int) > 0)) = true) → (((-9223372036854775808) : Int) ≤ ((↑k : Int) - 1))),
  ((((!bif bif decide ((v.2.1.2 (↑k : Int).toNat).1 < 0) then true else decide ((v.2.1.2 (↑k : Int).toNat).1 ≥ (v.2.1.2 (↑k : Int).toNat).2.1) then true else decide ((v.2.1.2 (↑k : Int).toNat).2.1 ≥ v.1)) && decide ((↑k : Int) > 0)) = true) → ((((↑k : Int) - 1) : Int) ≤ 9223372036854775807)),
  (AG ((!bif bif decide ((v.2.1.2 (↑k : Int).toNat).1 < 0) then true else decide ((v.2.1.2 (↑k : Int).toNat).1 ≥ (v.2.1.2 (↑k : Int).toNat).2.1) then true else decide ((v.2.1.2 (↑k : Int).toNat).2.1 ≥ v.1)) && decide ((↑k : Int) > 0))),
  (AG ((!bif bif decide ((v.2.1.2 (↑k : Int).toNat).1 < 0) then true else decide ((v.2.1.2 (↑k : Int).toNat).1 ≥ (v.2.1.2 (↑k : Int).toNat).2.1) then true else decide ((v.2.1.2 (↑k : Int).toNat).2.1 ≥ v.1)) && decide ((↑k : Int) > 0))),
  ((((!bif bif decide ((v.2.1.2 (↑k : Int).toNat).1 < 0) then true else decide ((v.2.1.2 (↑k : Int).toNat).1 ≥ (v.2.1.2 (↑k : Int).toNat).2.1) then true else decide ((v.2.1.2 (↑k : Int).toNat).2.1 ≥ v.1)) && decide ((↑k : Int) > 0)) = true) → ((0 : Int) ≤ ((↑k : Int) - 1))),
  ((((!bif bif decide ((v.2.1.2 (↑k : Int).toNat).1 < 0) then true else decide ((v.2.1.2 (↑k : Int).toNat).1 ≥ (v.2.1.2 (↑k : Int).toNat).2.1) then true else decide ((v.2.1.2 (↑k : Int).toNat).2.1 ≥ v.1)) && decide ((↑k : Int) > 0)) = true) → ((((↑k : Int) - 1) : Int) < (↑v.2.1.1 : Int))),
  (AG ((!bif bif decide ((v.2.1.2 (↑k : Int).toNat).1 < 0) then true else decide ((v.2.1.2 (↑k : Int).toNat).1 ≥ (v.2.1.2 (↑k : Int).toNat).2.1) then true else decide ((v.2.1.2 (↑k : Int).toNat).2.1 ≥ v.1)) && decide ((↑k : Int) > 0))),
  ((((!bif bif decide ((v.2.1.2 (↑k : Int).toNat).1 < 0) then true else decide ((v.2.1.2 (↑k : Int).toNat).1 ≥ (v.2.1.2 (↑k : Int).toNat).2.1) then true else decide ((v.2.1.2 (↑k : Int).toNat).2.1 ≥ v.1)) && decide ((↑k : Int) > 0)) = true) → ((0 : Nat) < 1)),
  (AG ((!bif bif decide ((v.2.1.2 (↑k : Int).toNat).1 < 0) then true else decide ((v.2.1.2 (↑k : Int).toNat).1 ≥ (v.2.1.2 (↑k : Int).toNat).2.1) then true else decide ((v.2.1.2 (↑k : Int).toNat).2.1 ≥ v.1)) && decide ((↑k : Int) > 0))),
  (AG ((!bif bif decide ((v.2.1.2 (↑k : Int).toNat).1 < 0) then true else decide ((v.2.1.2 (↑k : Int).toNat).1 ≥ (v.2.1.2 (↑k : Int).toNat).2.1) then true else decide ((v.2.1.2 (↑k : Int).toNat).2.1 ≥ v.1)) && decide ((↑k : Int) > 0))),
  ((((!bif bif decide ((v.2.1.2 (↑k : Int).toNat).1 < 0) then true else decide ((v.2.1.2 (↑k : Int).toNat).1 ≥ (v.2.1.2 (↑k : Int).toNat).2.1) then true else decide ((v.2.1.2 (↑k : Int).toNat).2.1 ≥ v.1)) && decide ((↑k : Int) > 0)) = true) → Con Try.prog 135 0 [] [.agg [.p (.int .i64 ((v.2.1.2 ((↑k : Int) - 1).toNat).1)), .p (.int .i64 ((v.2.1.2 ((↑k : Int) - 1).toNat).2.1))], .agg [.p (.int .i64 ((v.2.1.2 k).1)), .p (.int .i64 ((v.2.1.2 k).2.1))]] [] (.p (.int .i64 (cmpB (v.2.1.2 ((↑k : Int) - 1).toNat) (v.2.1.2 k))))),
  (AG ((!bif bif decide ((v.2.1.2 (↑k : Int).toNat).1 < 0) then true else decide ((v.2.1.2 (↑k : Int).toNat).1 ≥ (v.2.1.2 (↑k : Int).toNat).2.1) then true else decide ((v.2.1.2 (↑k : Int).toNat).2.1 ≥ v.1)) && decide ((↑k : Int) > 0))),
  (AG (!bif bif decide ((v.2.1.2 (↑k : Int).toNat).1 < 0) then true else decide ((v.2.1.2 (↑k : Int).toNat).1 ≥ (v.2.1.2 (↑k : Int).toNat).2.1) then true else decide ((v.2.1.2 (↑k : Int).toNat).2.1 ≥ v.1))),
  (((!bif bif decide ((v.2.1.2 (↑k : Int).toNat).1 < 0) then true else decide ((v.2.1.2 (↑k : Int).toNat).1 ≥ (v.2.1.2 (↑k : Int).toNat).2.1) then true else decide ((v.2.1.2 (↑k : Int).toNat).2.1 ≥ v.1)) = true) → (((decide ((↑k : Int) > 0)) = true) → (((!bif bif decide ((v.2.1.2 (↑k : Int).toNat).1 < 0) then true else decide ((v.2.1.2 (↑k : Int).toNat).1 ≥ (v.2.1.2 (↑k : Int).toNat).2.1) then true else decide ((v.2.1.2 (↑k : Int).toNat).2.1 ≥ v.1)) && decide ((↑k : Int) > 0)) = true))),
  (((bif bif decide ((v.2.1.2 (↑k : Int).toNat).1 < 0) then true else decide ((v.2.1.2 (↑k : Int).toNat).1 ≥ (v.2.1.2 (↑k : Int).toNat).2.1) then true else decide ((v.2.1.2 (↑k : Int).toNat).2.1 ≥ v.1)) = false) → ((!bif bif decide ((v.2.1.2 (↑k : Int).toNat).1 < 0) then true else decide ((v.2.1.2 (↑k : Int).toNat).1 ≥ (v.2.1.2 (↑k : Int).toNat).2.1) then true else decide ((v.2.1.2 (↑k : Int).toNat).2.1 ≥ v.1)) = true)),
  ((bif bif bif decide ((v.2.1.2 (↑k : Int).toNat).1 < 0) then true else decide ((v.2.1.2 (↑k : Int).toNat).1 ≥ (v.2.1.2 (↑k : Int).toNat).2.1) then true else decide ((v.2.1.2 (↑k : Int).toNat).2.1 ≥ v.1) then true else bif decide ((↑k : Int) > 0) then decide (cmpB (v.2.1.2 ((↑k : Int) - 1).toNat) (v.2.1.2 k) > 0) else false) = true),
  (false = false)] := by kernel_rfl
theorem p51d (v : T_Graph) (k : Nat) :
    pathOb Try.prog Try.f101 0 [.reg [oT], .dec false, .reg [oT]] [.code (cAt (bodyOf Try.f101) [1, 1, 0, 1, 0, 0]), .inLoop (cAt (bodyOf Try.f101) [1, 1, 0, 1, 0, 0]), .inBlock 0, .code (cAt (bodyOf Try.f101) [1, 1, 1])] (S51 v k) [] 1 [] (.p (.bool true)) =
    some [((decide ((↑k : Int) < (↑v.2.1.1 : Int))) = false),
  (true = true)] := by kernel_rfl
theorem con_l2After (a b : T_Bar) : Con Try.prog 141 0 [] [barA a, barA b] [] (.p (.bool (aft a b))) := by
  refine con_start Try.func141 rfl (by kernel_rfl) rfl (fun c hc => ?_)
  refine path_ok mixed Try.func141 hc (p57 a b) ?_
  simp only [All]
  repeat' (first | exact trivial | with_reducible apply And.intro)
  all_goals (first | exact aG _ | exact aP _ _ | exact aA _ _ | exact aE _ | omega | rfl | (intros; first | assumption | exact True.intro | rfl | exact absurd (show false = true by assumption) Bool.false_ne_true | ((repeat' (first | assumption | apply anda | apply notf)); done)))
theorem con_compareInts (x y : Int) : Con Try.prog 152 0 [] [.p (.int .i64 x), .p (.int .i64 y)] [] (.p (.int .i64 (cmpI x y))) := by
  refine con_start Try.func152 rfl (by kernel_rfl) rfl (fun c hc => ?_)
  by_cases h1 : x < y
  · rw [show cmpI x y = -1 by simp [cmpI, h1]]
    refine path_ok mixed Try.func152 hc (p62a x y) ?_
    simp only [All]
    repeat' (first | exact trivial | with_reducible apply And.intro)
    all_goals (first | exact aG _ | exact aP _ _ | exact aA _ _ | exact aE _ | omega | rfl | (intros; first | assumption | exact True.intro | rfl | exact absurd (show false = true by assumption) Bool.false_ne_true | ((repeat' (first | assumption | apply anda | apply notf)); done)) | (simp; omega))
  · by_cases h2 : x > y
    · rw [show cmpI x y = 1 by simp only [cmpI, h1, h2, if_true, if_false]]
      refine path_ok mixed Try.func152 hc (p62b x y) ?_
      simp only [All]
      repeat' (first | exact trivial | with_reducible apply And.intro)
      all_goals (first | exact aG _ | exact aP _ _ | exact aA _ _ | exact aE _ | omega | rfl | (intros; first | assumption | exact True.intro | rfl | exact absurd (show false = true by assumption) Bool.false_ne_true | ((repeat' (first | assumption | apply anda | apply notf)); done)) | (simp; omega))
    · rw [show cmpI x y = 0 by simp only [cmpI, h1, h2, if_false]]
      refine path_ok mixed Try.func152 hc (p62c x y) ?_
      simp only [All]
      repeat' (first | exact trivial | with_reducible apply And.intro)
      all_goals (first | exact aG _ | exact aP _ _ | exact aA _ _ | exact aE _ | omega | rfl | (intros; first | assumption | exact True.intro | rfl | exact absurd (show false = true by assumption) Bool.false_ne_true | ((repeat' (first | assumption | apply anda | apply notf)); done)) | (simp; omega))
theorem con_compareBars (a b : T_Bar) : Con Try.prog 135 0 [] [barA a, barA b] [] (.p (.int .i64 (cmpB a b))) := by
  refine con_start Try.func135 rfl (by kernel_rfl) rfl (fun c hc => ?_)
  by_cases h1 : cmpI a.1 b.1 = 0
  · rw [show cmpB a b = cmpI a.2.1 b.2.1 by simp [cmpB, h1]]
    refine path_ok mixed Try.func135 hc (p59b a b) ?_
    simp only [All]
    repeat' (first | exact trivial | with_reducible apply And.intro)
    all_goals (first | exact aG _ | exact aP _ _ | exact aA _ _ | exact aE _ | omega | rfl | (intros; first | assumption | exact True.intro | rfl | exact absurd (show false = true by assumption) Bool.false_ne_true | ((repeat' (first | assumption | apply anda | apply notf)); done)) | (exact con_compareInts _ _) | (simp [h1]))
  · rw [show cmpB a b = cmpI a.1 b.1 by simp [cmpB, h1]]
    refine path_ok mixed Try.func135 hc (p59a a b) ?_
    simp only [All]
    repeat' (first | exact trivial | with_reducible apply And.intro)
    all_goals (first | exact aG _ | exact aP _ _ | exact aA _ _ | exact aE _ | omega | rfl | (intros; first | assumption | exact True.intro | rfl | exact absurd (show false = true by assumption) Bool.false_ne_true | ((repeat' (first | assumption | apply anda | apply notf)); done)) | (exact con_compareInts _ _) | (simp [h1]))
theorem cmpB_gt (a b : T_Bar) : decide (cmpB a b > 0) = !aft a b := by
  simp only [cmpB, cmpI, aft]
  by_cases h1 : a.1 < b.1
  · simp [h1]
  · by_cases h2 : a.1 > b.1
    · have h3 : ¬ a.1 = b.1 := by omega
      simp [h1, h2, h3]
    · have h3 : a.1 = b.1 := by omega
      simp only [h1, h2, h3, if_true, if_false]
      by_cases h4 : a.2.1 < b.2.1
      · have : a.2.1 ≤ b.2.1 := by omega
        simp [h4, this]
      · by_cases h5 : a.2.1 > b.2.1
        · have : ¬ a.2.1 ≤ b.2.1 := by omega
          simp [h4, h5, this]
        · have : a.2.1 ≤ b.2.1 := by omega
          simp [h4, h5, this]
theorem goodB_bad (N : Int) (g : Nat → T_Bar) (k : Nat) (h : badB N g k = true) : ∀ n, k < n → goodB N g n = false
  | 0, h' => by omega
  | n + 1, h' => by
    by_cases e : k = n
    · subst e; simp [goodB, h]
    · simp [goodB, goodB_bad N g k h n (by omega)]
theorem idx_lt {b : Bool} {k n : Nat} (h : (b && decide ((k : Int) > 0)) = true) (hk : k < n) : 0 ≤ (k : Int) - 1 ∧ (k : Int) - 1 < n ∧ -9223372036854775808 ≤ (k : Int) - 1 ∧ (k : Int) - 1 ≤ n := by
  simp at h
  omega
theorem con_IsGraph_s (v : T_Graph) (hs : smS s_Graph v) : Con Try.prog 110 0 [] [graphA v] [] (.p (.bool (isGraphF v))) := by
  refine con_start Try.func110 rfl (by kernel_rfl) rfl (fun c hc => ?_)
  have hn : v.2.1.1 ≤ 1048576 := hs.2.1.1
  by_cases hz : inB v.1 1 8 = true ∧ v.2.1.1 ≤ 24
  · rw [show isGraphF v = goodB v.1 v.2.1.2 v.2.1.1 by rw [isGraphF, if_pos hz]]
    have lp : ∀ m k, k + m = v.2.1.1 → goodB v.1 v.2.1.2 k = true → Run Try.prog c 110 [.code (cAt (bodyOf Try.f110) [1, 1, 0, 1, 0, 0]), .inLoop (cAt (bodyOf Try.f110) [1, 1, 0, 1, 0, 0]), .inBlock 0, .code (cAt (bodyOf Try.f110) [1, 1, 1])] (S48 v k) (Post c [] (.p (.bool (goodB v.1 v.2.1.2 v.2.1.1)))) := by
      intro m
      induction m with
      | zero =>
        intro k hk hg
        rw [show goodB v.1 v.2.1.2 v.2.1.1 = true by rw [show v.2.1.1 = k by omega]; exact hg]
        have hd : decide ((k : Int) < (v.2.1.1 : Int)) = false := by simp; omega
        refine path_ok mixed Try.func110 hc (p48d v k) ?_
        simp only [All]
        repeat' (first | exact trivial | with_reducible apply And.intro)
        all_goals (first | exact aG _ | exact aP _ _ | exact aA _ _ | exact aE _ | omega | rfl | (intros; first | assumption | exact True.intro | rfl | exact absurd (show false = true by assumption) Bool.false_ne_true | ((repeat' (first | assumption | apply anda | apply notf)); done)))
      | succ m ih =>
        intro k hk hg
        have hd : decide ((k : Int) < (v.2.1.1 : Int)) = true := by simp; omega
        have hkn : k < v.2.1.1 := by omega
        cases he : badB v.1 v.2.1.2 k with
        | true =>
          rw [goodB_bad _ _ k he v.2.1.1 (by omega)]
          refine path_ok mixed Try.func110 hc (p48c v k) ?_
          simp only [All]
          repeat' (first | exact trivial | with_reducible apply And.intro)
          all_goals (first | exact aG _ | exact aP _ _ | exact aA _ _ | exact aE _ | omega | rfl | (intros; first | assumption | exact True.intro | rfl | exact absurd (show false = true by assumption) Bool.false_ne_true | ((repeat' (first | assumption | apply anda | apply notf)); done)) | (intros; exact con_l2After _ _) | (exact he) | (intro h; have := idx_lt h hkn; omega))
        | false =>
          refine piece_ok mixed hc (p48b v k) ?_ (ih (k + 1) (by omega) (by simp [goodB, hg, he]))
          simp only [All]
          repeat' (first | exact trivial | with_reducible apply And.intro)
          all_goals (first | exact aG _ | exact aP _ _ | exact aA _ _ | exact aE _ | omega | rfl | (intros; first | assumption | exact True.intro | rfl | exact absurd (show false = true by assumption) Bool.false_ne_true | ((repeat' (first | assumption | apply anda | apply notf)); done)) | (intros; exact con_l2After _ _) | (exact he) | (intro h; have := idx_lt h hkn; omega) | (simp [All]))
    refine piece_ok mixed hc (p48a v) ?_ (lp v.2.1.1 0 (by omega) rfl)
    simp only [All]
    repeat' (first | exact trivial | with_reducible apply And.intro)
    all_goals (first | exact aG _ | exact aP _ _ | exact aA _ _ | exact aE _ | omega | rfl | (intros; first | assumption | exact True.intro | rfl | exact absurd (show false = true by assumption) Bool.false_ne_true | ((repeat' (first | assumption | apply anda | apply notf)); done)) | (exact con_l1In _ _ _) | (simp [hz.1]; omega) | (simp [All]))
  · rw [show isGraphF v = false by rw [isGraphF, if_neg hz]]
    have hb : (bif !inB v.1 1 8 then true else decide ((v.2.1.1 : Int) > 24)) = true := by
      cases hi : inB v.1 1 8 with
      | false => rfl
      | true =>
        have : ¬ v.2.1.1 ≤ 24 := fun h => hz ⟨hi, h⟩
        simp; omega
    refine path_ok mixed Try.func110 hc (p48z v) ?_
    simp only [All]
    repeat' (first | exact trivial | with_reducible apply And.intro)
    all_goals (first | exact aG _ | exact aP _ _ | exact aA _ _ | exact aE _ | omega | rfl | (intros; first | assumption | exact True.intro | rfl | exact absurd (show false = true by assumption) Bool.false_ne_true | ((repeat' (first | assumption | apply anda | apply notf)); done)) | (exact con_l1In _ _ _))
theorem con_IsGraph_i (v : T_Graph) (hs : smS s_Graph v) : Con Try.prog 101 0 [] [graphA v] [] (.p (.bool (isGraphF v))) := by
  refine con_start Try.func101 rfl (by kernel_rfl) rfl (fun c hc => ?_)
  have hn : v.2.1.1 ≤ 1048576 := hs.2.1.1
  by_cases hz : inB v.1 1 8 = true ∧ v.2.1.1 ≤ 24
  · rw [show isGraphF v = goodB v.1 v.2.1.2 v.2.1.1 by rw [isGraphF, if_pos hz]]
    have lp : ∀ m k, k + m = v.2.1.1 → goodB v.1 v.2.1.2 k = true → Run Try.prog c 101 [.code (cAt (bodyOf Try.f101) [1, 1, 0, 1, 0, 0]), .inLoop (cAt (bodyOf Try.f101) [1, 1, 0, 1, 0, 0]), .inBlock 0, .code (cAt (bodyOf Try.f101) [1, 1, 1])] (S51 v k) (Post c [] (.p (.bool (goodB v.1 v.2.1.2 v.2.1.1)))) := by
      intro m
      induction m with
      | zero =>
        intro k hk hg
        rw [show goodB v.1 v.2.1.2 v.2.1.1 = true by rw [show v.2.1.1 = k by omega]; exact hg]
        have hd : decide ((k : Int) < (v.2.1.1 : Int)) = false := by simp; omega
        refine path_ok mixed Try.func101 hc (p51d v k) ?_
        simp only [All]
        repeat' (first | exact trivial | with_reducible apply And.intro)
        all_goals (first | exact aG _ | exact aP _ _ | exact aA _ _ | exact aE _ | omega | rfl | (intros; first | assumption | exact True.intro | rfl | exact absurd (show false = true by assumption) Bool.false_ne_true | ((repeat' (first | assumption | apply anda | apply notf)); done)))
      | succ m ih =>
        intro k hk hg
        have hd : decide ((k : Int) < (v.2.1.1 : Int)) = true := by simp; omega
        have hkn : k < v.2.1.1 := by omega
        cases he : badB v.1 v.2.1.2 k with
        | true =>
          rw [goodB_bad _ _ k he v.2.1.1 (by omega)]
          have he2 := he
          rw [badB, ← cmpB_gt] at he2
          refine path_ok mixed Try.func101 hc (p51c v k) ?_
          simp only [All]
          repeat' (first | exact trivial | with_reducible apply And.intro)
          all_goals (first | exact aG _ | exact aP _ _ | exact aA _ _ | exact aE _ | omega | rfl | (intros; first | assumption | exact True.intro | rfl | exact absurd (show false = true by assumption) Bool.false_ne_true | ((repeat' (first | assumption | apply anda | apply notf)); done)) | (intros; exact con_compareBars _ _) | (exact he2) | (intro h; have := idx_lt h hkn; omega))
        | false =>
          have he2 := he
          rw [badB, ← cmpB_gt] at he2
          refine piece_ok mixed hc (p51b v k) ?_ (ih (k + 1) (by omega) (by simp [goodB, hg, he]))
          simp only [All]
          repeat' (first | exact trivial | with_reducible apply And.intro)
          all_goals (first | exact aG _ | exact aP _ _ | exact aA _ _ | exact aE _ | omega | rfl | (intros; first | assumption | exact True.intro | rfl | exact absurd (show false = true by assumption) Bool.false_ne_true | ((repeat' (first | assumption | apply anda | apply notf)); done)) | (intros; exact con_compareBars _ _) | (exact he2) | (intro h; have := idx_lt h hkn; omega) | (simp [All]))
    refine piece_ok mixed hc (p51a v) ?_ (lp v.2.1.1 0 (by omega) rfl)
    simp only [All]
    repeat' (first | exact trivial | with_reducible apply And.intro)
    all_goals (first | exact aG _ | exact aP _ _ | exact aA _ _ | exact aE _ | omega | rfl | (intros; first | assumption | exact True.intro | rfl | exact absurd (show false = true by assumption) Bool.false_ne_true | ((repeat' (first | assumption | apply anda | apply notf)); done)) | (exact con_within _ _ _) | (simp [hz.1]; omega) | (simp [All]))
  · rw [show isGraphF v = false by rw [isGraphF, if_neg hz]]
    have hb : (bif !inB v.1 1 8 then true else decide ((v.2.1.1 : Int) > 24)) = true := by
      cases hi : inB v.1 1 8 with
      | false => rfl
      | true =>
        have : ¬ v.2.1.1 ≤ 24 := fun h => hz ⟨hi, h⟩
        simp; omega
    refine path_ok mixed Try.func101 hc (p51z v) ?_
    simp only [All]
    repeat' (first | exact trivial | with_reducible apply And.intro)
    all_goals (first | exact aG _ | exact aP _ _ | exact aA _ _ | exact aE _ | omega | rfl | (intros; first | assumption | exact True.intro | rfl | exact absurd (show false = true by assumption) Bool.false_ne_true | ((repeat' (first | assumption | apply anda | apply notf)); done)) | (exact con_within _ _ _))
end Go.Proofs.Ytffnfeefjdmifaa.Mach
namespace Go.Proofs.Ytffnfeefjdmifaa.Mach
open Go
set_option linter.unusedVariables false
set_option linter.unusedSimpArgs false
def SH (g : Nat → T_Bar) (nb N m : Nat) (F0 T0 F T Q : Nat → Int) (a b want : Int) : St :=
  ⟨[grG g nb N, pebD N m F0 T0 Q, .p (.int .i64 a), .p (.int .i64 b), .p (.int .i64 want), .pt 2 0 0 0, .pt 3 1 0 0, .p .any, .p .any, .p .any, .pt 3 2 0 0, .p .any, .pt 3 3 0 0] ++ List.replicate 40 anyA,
   [(0, bxG g nb N), (1, bxD N m F0 T0 Q), (2, bx0), (3, bxP N m 4), (4, iOb N F), (5, iOb m T), (6, iOb m Q)], 7⟩
def SNc (g : Nat → T_Bar) (nb N k : Nat) : St :=
  ⟨[.p .any, .p (.int .i64 k), .pt 2 0 0 0, .p .any, .pt 3 1 0 0, .p .any, .pt 3 2 0 0] ++ List.replicate 27 anyA,
   [(0, bxG g nb N), (1, bx0), (2, ⟨true, 3, 1, fun _ => [.ar 1 3 0 0, .ar 1 4 0 0, .ar 1 5 0 0]⟩), (3, iOb 0 (fun _ => k)), (4, iOb 0 (fun _ => 0)), (5, iOb 0 (fun _ => 0))], 6⟩
def SN0 (g : Nat → T_Bar) (nb N k i : Nat) : St :=
  ⟨[.p .any, .p (.int .i64 k), .pt 2 0 0 0, .p .any, .pt 3 1 0 0, .p .any, .pt 3 2 0 0, .p (.int .i64 i)] ++ List.replicate 26 anyA,
   [(0, bxG g nb N), (1, bx0), (2, ⟨true, 3, 1, fun _ => [.ar 1 3 0 i, .ar 1 4 0 0, .ar 1 5 0 0]⟩), (3, iOb i (fun _ => k)), (4, iOb 0 (fun _ => 0)), (5, iOb 0 (fun _ => 0))], 6⟩
theorem qHz (g : Nat → T_Bar) (nb N m : Nat) (F T Q : Nat → Int) (a b want : Int) :
    pieceOb Try.prog 0 [.reg [oT, oT, oT, oT], .reg [oT, ⟨true, (some ⟨[], [], [], 1, pebR N m F T Q, pebO N m 0⟩), none⟩, oT, oT], .head] [.code (bodyOf Try.f162)] (start Try.f162 [] 0 [grG g nb N, pebD N m F T Q, .p (.int .i64 a), .p (.int .i64 b), .p (.int .i64 want)]) [0, 32, 64, 192, 160, 161, 162] 1 (SH g nb N m F T F T Q a b want) =
    some ([.code (cAt (bodyOf Try.f162) [1, 1, 0, 0, 0]), .inLoop (cAt (bodyOf Try.f162) [1, 1, 0, 0, 0]), .inBlock 0, .code (cAt (bodyOf Try.f162) [1, 1, 1])], [((0 : Nat) < 1),
  Con Try.prog 161 0 [] [.agg [.p (.seq true 1 N (fun i => [.int .i64 (F i)])), .p (.seq true 1 m (fun i => [.int .i64 (T i)])), .p (.seq true 1 m (fun i => [.int .i64 (Q i)]))]] [(0, ⟨false, 1, N, (fun i => [.p (.int .i64 (F i))])⟩), (1, ⟨false, 1, m, (fun i => [.p (.int .i64 (T i))])⟩), (2, ⟨false, 1, m, (fun i => [.p (.int .i64 (Q i))])⟩)] (.agg [.ar 1 0 0 N, .ar 1 1 0 m, .ar 1 2 0 m]),
  ((0 : Nat) < 1),
  ((true = true) → (AN 1)),
  (AI ((↑N : Int))),
  (AN nb),
  (AP nb (fun i => [.int .i64 ((g i).1), .int .i64 ((g i).2.1)])),
  (AN N),
  (AP N (fun i => [.int .i64 (F i)])),
  (AN m),
  (AP m (fun i => [.int .i64 (T i)])),
  (AN m),
  (AP m (fun i => [.int .i64 (Q i)])),
  (AI a),
  (AI b),
  (AI want),
  (AN 0),
  (AN 0),
  (AN 0),
  (AN 0),
  ((([AV.p (PV.int IntKind.i64 (↑N : Int)), brL g nb].length) : Nat) = 2),
  ((1 : Nat) ≤ 1),
  ((1 : Nat) ≤ 1),
  (AI ((↑N : Int))),
  (AN nb),
  (AP nb (fun i => [.int .i64 ((g i).1), .int .i64 ((g i).2.1)])),
  ((([inD N F, inD m T, inD m Q].length) : Nat) = 3),
  ((1 : Nat) ≤ 1),
  ((1 : Nat) ≤ 1),
  (AN N),
  (AP N (fun i => [.int .i64 (F i)])),
  (AN m),
  (AP m (fun i => [.int .i64 (T i)])),
  (AN m),
  (AP m (fun i => [.int .i64 (Q i)])),
  ((((List.map (fun v => AV.p (absV v)) [Value.slice none 0 0, Value.slice none 0 0, Value.slice none 0 0]).length) : Nat) = 3),
  ((1 : Nat) ≤ 1),
  ((1 : Nat) ≤ 1),
  ((((List.map (fun v => AV.p (absV v)) [Value.slice none 0 0, Value.slice none 0 0, Value.slice none 0 0]).length) : Nat) = 3),
  ((1 : Nat) ≤ 1),
  ((1 : Nat) ≤ 1),
  (AN 0),
  (AN N),
  (AN 0),
  (AN m),
  (AN 0),
  (AN m),
  (AN 1),
  ((N : Nat) ≤ N),
  (AA N (fun i => [.p (.int .i64 (F i))])),
  (AN 1),
  ((m : Nat) ≤ m),
  (AA m (fun i => [.p (.int .i64 (T i))])),
  (AN 1),
  ((m : Nat) ≤ m),
  (AA m (fun i => [.p (.int .i64 (Q i))]))]) := by kernel_rfl
theorem qHa (g : Nat → T_Bar) (nb N m : Nat) (F0 T0 F T Q F1 T1 : Nat → Int) (a b want : Int) :
    pieceOb Try.prog 0 [.reg [oT, oT, oT, oT, oT, oT, oT, oT, oT, oT, oT, oT, oT], .dec true, .reg [oT, oT, oT, oT, ⟨true, (some ⟨[4, 5, 6], [], [], 1, pebR3 N m F T Q F1 T1 Q, .tup [pebO N m 3, .p (.bool true)]⟩), none⟩, oT, oT, oT, oT, oT, oT], .reg [oT, oT], .dec false, .reg [oT, oT], .dec false, .reg [oT, oT], .head] [.code (cAt (bodyOf Try.f162) [1, 1, 0, 0, 0]), .inLoop (cAt (bodyOf Try.f162) [1, 1, 0, 0, 0]), .inBlock 0, .code (cAt (bodyOf Try.f162) [1, 1, 1])] (SH g nb N m F0 T0 F T Q a b want) [0, 1, 2, 3, 551, 552, 553] 1 (SH g nb N m F0 T0 F1 T1 Q a b want) =
    some ([.code (cAt (bodyOf Try.f162) [1, 1, 0, 0, 0]), .inLoop (cAt (bodyOf Try.f162) [1, 1, 0, 0, 0]), .inBlock 0, .code (cAt (bodyOf Try.f162) [1, 1, 1])], [((0 : Nat) < 1),
  ((0 : Int) ≤ a),
  ((a : Int) < (↑N : Int)),
  ((a.toNat : Nat) < N),
  ((0 : Nat) < 1),
  ((0 : Int) ≤ b),
  ((b : Int) < (↑N : Int)),
  ((b.toNat : Nat) < N),
  (((-9223372036854775808) : Int) ≤ (F a.toNat + F b.toNat)),
  (((F a.toNat + F b.toNat) : Int) ≤ 9223372036854775807),
  ((decide (F (a.toNat + 0) + F (b.toNat + 0) < want)) = true),
  ((0 : Nat) < 1),
  ((0 : Nat) < 1),
  (AE N),
  (AE m),
  (AE m),
  Con Try.prog 180 3 [(0, ⟨false, 1, N, (fun i => [.p (.int .i64 (F i))])⟩), (1, ⟨false, 1, m, (fun i => [.p (.int .i64 (T i))])⟩), (2, ⟨false, 1, m, (fun i => [.p (.int .i64 (Q i))])⟩)] [.agg [.p (.int .i64 (↑N : Int)), .p (.seq true 2 nb (fun i => [.int .i64 ((g i).1), .int .i64 ((g i).2.1)]))], .agg [.ar 1 0 0 N, .ar 1 1 0 m, .ar 1 2 0 m], .p (.int .i64 a), .p (.int .i64 b)] [(0, ⟨false, 1, N, (fun i => [.p (.int .i64 (F i))])⟩), (1, ⟨false, 1, m, (fun i => [.p (.int .i64 (T i))])⟩), (2, ⟨false, 1, m, (fun i => [.p (.int .i64 (Q i))])⟩), (3, ⟨false, 1, N, (fun i => [.p (.int .i64 (F1 i))])⟩), (4, ⟨false, 1, m, (fun i => [.p (.int .i64 (T1 i))])⟩), (5, ⟨false, 1, m, (fun i => [.p (.int .i64 (Q i))])⟩)] (.tup [.agg [.ar 1 3 0 N, .ar 1 4 0 m, .ar 1 5 0 m], .p (.bool true)]),
  ((0 : Nat) < 1),
  ((true = true) → (AN 1)),
  ((!true) = false),
  ((!true) = false),
  ((0 : Nat) < 1),
  ((0 : Nat) < 1),
  ((true = true) → (AN 1)),
  (AI ((↑N : Int))),
  (AN nb),
  (AP nb (fun i => [.int .i64 ((g i).1), .int .i64 ((g i).2.1)])),
  (AN N),
  (AP N (fun i => [.int .i64 (F0 i)])),
  (AN m),
  (AP m (fun i => [.int .i64 (T0 i)])),
  (AN m),
  (AP m (fun i => [.int .i64 (Q i)])),
  (AI a),
  (AI b),
  (AI want),
  (AN 0),
  (AN 0),
  (AN 0),
  (AN 0),
  (AN 2),
  ((1 : Nat) ≤ 1),
  ((1 : Nat) ≤ 1),
  (AI ((↑N : Int))),
  (AN nb),
  (AP nb (fun i => [.int .i64 ((g i).1), .int .i64 ((g i).2.1)])),
  (AN 3),
  ((1 : Nat) ≤ 1),
  ((1 : Nat) ≤ 1),
  (AN N),
  (AP N (fun i => [.int .i64 (F0 i)])),
  (AN m),
  (AP m (fun i => [.int .i64 (T0 i)])),
  (AN m),
  (AP m (fun i => [.int .i64 (Q i)])),
  (AN 3),
  ((1 : Nat) ≤ 1),
  ((1 : Nat) ≤ 1),
  (AN 3),
  ((1 : Nat) ≤ 1),
  ((1 : Nat) ≤ 1),
  (AN 0),
  (AN N),
  (AN 0),
  (AN m),
  (AN 0),
  (AN m),
  (AN 1),
  ((N : Nat) ≤ N),
  (AA N (fun i => [.p (.int .i64 (F1 i))])),
  (AN 1),
  ((m : Nat) ≤ m),
  (AA m (fun i => [.p (.int .i64 (T1 i))])),
  (AN 1),
  ((m : Nat) ≤ m),
  (AA m (fun i => [.p (.int .i64 (Q i))]))]) := by kernel_rfl
theorem qHb (g : Nat → T_Bar) (nb N m : Nat) (F0 T0 F T Q F1 T1 : Nat → Int) (a b want : Int) :
    pieceOb Try.prog 0 [.reg [oT, oT, oT, oT, oT, oT, oT, oT, oT, oT, oT, oT, oT], .dec true, .reg [oT, oT, oT, oT, ⟨true, (some ⟨[4, 5, 6], [], [], 1, pebR N m F T Q, .tup [pebO N m 0, .p (.bool false)]⟩), none⟩, oT, oT, oT, oT, oT, oT], .reg [oT, oT], .dec true, .reg [oT, oT, oT, oT, ⟨true, (some ⟨[4, 5, 6], [], [], 1, pebR3 N m F T Q F1 T1 Q, .tup [pebO N m 3, .p (.bool true)]⟩), none⟩, oT, oT, oT, oT, oT], .reg [oT, oT], .dec false, .reg [oT, oT], .head] [.code (cAt (bodyOf Try.f162) [1, 1, 0, 0, 0]), .inLoop (cAt (bodyOf Try.f162) [1, 1, 0, 0, 0]), .inBlock 0, .code (cAt (bodyOf Try.f162) [1, 1, 1])] (SH g nb N m F0 T0 F T Q a b want) [0, 1, 2, 3, 967, 968, 969] 1 (SH g nb N m F0 T0 F1 T1 Q a b want) =
    some ([.code (cAt (bodyOf Try.f162) [1, 1, 0, 0, 0]), .inLoop (cAt (bodyOf Try.f162) [1, 1, 0, 0, 0]), .inBlock 0, .code (cAt (bodyOf Try.f162) [1, 1, 1])], [((0 : Nat) < 1),
  ((0 : Int) ≤ a),
  ((a : Int) < (↑N : Int)),
  ((a.toNat : Nat) < N),
  ((0 : Nat) < 1),
  ((0 : Int) ≤ b),
  ((b : Int) < (↑N : Int)),
  ((b.toNat : Nat) < N),
  (((-9223372036854775808) : Int) ≤ (F a.toNat + F b.toNat)),
  (((F a.toNat + F b.toNat) : Int) ≤ 9223372036854775807),
  ((decide (F (a.toNat + 0) + F (b.toNat + 0) < want)) = true),
  ((0 : Nat) < 1),
  ((0 : Nat) < 1),
  (AE N),
  (AE m),
  (AE m),
  Con Try.prog 180 3 [(0, ⟨false, 1, N, (fun i => [.p (.int .i64 (F i))])⟩), (1, ⟨false, 1, m, (fun i => [.p (.int .i64 (T i))])⟩), (2, ⟨false, 1, m, (fun i => [.p (.int .i64 (Q i))])⟩)] [.agg [.p (.int .i64 (↑N : Int)), .p (.seq true 2 nb (fun i => [.int .i64 ((g i).1), .int .i64 ((g i).2.1)]))], .agg [.ar 1 0 0 N, .ar 1 1 0 m, .ar 1 2 0 m], .p (.int .i64 a), .p (.int .i64 b)] [(0, ⟨false, 1, N, (fun i => [.p (.int .i64 (F i))])⟩), (1, ⟨false, 1, m, (fun i => [.p (.int .i64 (T i))])⟩), (2, ⟨false, 1, m, (fun i => [.p (.int .i64 (Q i))])⟩)] (.tup [.agg [.ar 1 0 0 N, .ar 1 1 0 m, .ar 1 2 0 m], .p (.bool false)]),
  ((0 : Nat) < 1),
  ((true = true) → (AN 1)),
  ((!false) = true),
  ((0 : Nat) < 1),
  ((0 : Nat) < 1),
  (AE N),
  (AE m),
  (AE m),
  Con Try.prog 180 3 [(0, ⟨false, 1, N, (fun i => [.p (.int .i64 (F i))])⟩), (1, ⟨false, 1, m, (fun i => [.p (.int .i64 (T i))])⟩), (2, ⟨false, 1, m, (fun i => [.p (.int .i64 (Q i))])⟩)] [.agg [.p (.int .i64 (↑N : Int)), .p (.seq true 2 nb (fun i => [.int .i64 ((g i).1), .int .i64 ((g i).2.1)]))], .agg [.ar 1 0 0 N, .ar 1 1 0 m, .ar 1 2 0 m], .p (.int .i64 b), .p (.int .i64 a)] [(0, ⟨false, 1, N, (fun i => [.p (.int .i64 (F i))])⟩), (1, ⟨false, 1, m, (fun i => [.p (.int .i64 (T i))])⟩), (2, ⟨false, 1, m, (fun i => [.p (.int .i64 (Q i))])⟩), (3, ⟨false, 1, N, (fun i => [.p (.int .i64 (F1 i))])⟩), (4, ⟨false, 1, m, (fun i => [.p (.int .i64 (T1 i))])⟩), (5, ⟨false, 1, m, (fun i => [.p (.int .i64 (Q i))])⟩)] (.tup [.agg [.ar 1 3 0 N, .ar 1 4 0 m, .ar 1 5 0 m], .p (.bool true)]),
  ((0 : Nat) < 1),
  ((true = true) → (AN 1)),
  ((!true) = false),
  ((0 : Nat) < 1),
  ((0 : Nat) < 1),
  ((true = true) → (AN 1)),
  (AI ((↑N : Int))),
  (AN nb),
  (AP nb (fun i => [.int .i64 ((g i).1), .int .i64 ((g i).2.1)])),
  (AN N),
  (AP N (fun i => [.int .i64 (F0 i)])),
  (AN m),
  (AP m (fun i => [.int .i64 (T0 i)])),
  (AN m),
  (AP m (fun i => [.int .i64 (Q i)])),
  (AI a),
  (AI b),
  (AI want),
  (AN 0),
  (AN 0),
  (AN 0),
  (AN 0),
  (AN 2),
  ((1 : Nat) ≤ 1),
  ((1 : Nat) ≤ 1),
  (AI ((↑N : Int))),
  (AN nb),
  (AP nb (fun i => [.int .i64 ((g i).1), .int .i64 ((g i).2.1)])),
  (AN 3),
  ((1 : Nat) ≤ 1),
  ((1 : Nat) ≤ 1),
  (AN N),
  (AP N (fun i => [.int .i64 (F0 i)])),
  (AN m),
  (AP m (fun i => [.int .i64 (T0 i)])),
  (AN m),
  (AP m (fun i => [.int .i64 (Q i)])),
  (AN 3),
  ((1 : Nat) ≤ 1),
  ((1 : Nat) ≤ 1),
  (AN 3),
  ((1 : Nat) ≤ 1),
  ((1 : Nat) ≤ 1),
  (AN 0),
  (AN N),
  (AN 0),
  (AN m),
  (AN 0),
  (AN m),
  (AN 1),
  ((N : Nat) ≤ N),
  (AA N (fun i => [.p (.int .i64 (F1 i))])),
  (AN 1),
  ((m : Nat) ≤ m),
  (AA m (fun i => [.p (.int .i64 (T1 i))])),
  (AN 1),
  ((m : Nat) ≤ m),
  (AA m (fun i => [.p (.int .i64 (Q i))]))]) := by kernel_rfl
theorem qHc (g : Nat → T_Bar) (nb N m : Nat) (F0 T0 F T Q : Nat → Int) (a b want : Int) :
    pathOb Try.prog Try.f162 0 [.reg [oT, oT, oT, oT, oT, oT, oT, oT, oT, oT, oT, oT, oT], .dec true, .reg [oT, oT, oT, oT, ⟨true, (some ⟨[4, 5, 6], [], [], 1, pebR N m F T Q, .tup [pebO N m 0, .p (.bool false)]⟩), none⟩, oT, oT, oT, oT, oT, oT], .reg [oT, oT], .dec true, .reg [oT, oT, oT, oT, ⟨true, (some ⟨[4, 5, 6], [], [], 1, pebR N m F T Q, .tup [pebO N m 0, .p (.bool false)]⟩), none⟩, oT, oT, oT, oT, oT], .reg [oT, oT], .dec true, .reg [oT, oT, oT]] [.code (cAt (bodyOf Try.f162) [1, 1, 0, 0, 0]), .inLoop (cAt (bodyOf Try.f162) [1, 1, 0, 0, 0]), .inBlock 0, .code (cAt (bodyOf Try.f162) [1, 1, 1])] (SH g nb N m F0 T0 F T Q a b want) [4, 5, 6] 1 (pebR N m F T Q) (.tup [pebO N m 0, .p (.bool false)]) =
    some [((0 : Nat) < 1),
  ((0 : Int) ≤ a),
  ((a : Int) < (↑N : Int)),
  ((a.toNat : Nat) < N),
  ((0 : Nat) < 1),
  ((0 : Int) ≤ b),
  ((b : Int) < (↑N : Int)),
  ((b.toNat : Nat) < N),
  (((-9223372036854775808) : Int) ≤ (F a.toNat + F b.toNat)),
  (((F a.toNat + F b.toNat) : Int) ≤ 9223372036854775807),
  ((decide (F (a.toNat + 0) + F (b.toNat + 0) < want)) = true),
  ((0 : Nat) < 1),
  ((0 : Nat) < 1),
  (AE N),
  (AE m),
  (AE m),
  Con Try.prog 180 3 [(0, ⟨false, 1, N, (fun i => [.p (.int .i64 (F i))])⟩), (1, ⟨false, 1, m, (fun i => [.p (.int .i64 (T i))])⟩), (2, ⟨false, 1, m, (fun i => [.p (.int .i64 (Q i))])⟩)] [.agg [.p (.int .i64 (↑N : Int)), .p (.seq true 2 nb (fun i => [.int .i64 ((g i).1), .int .i64 ((g i).2.1)]))], .agg [.ar 1 0 0 N, .ar 1 1 0 m, .ar 1 2 0 m], .p (.int .i64 a), .p (.int .i64 b)] [(0, ⟨false, 1, N, (fun i => [.p (.int .i64 (F i))])⟩), (1, ⟨false, 1, m, (fun i => [.p (.int .i64 (T i))])⟩), (2, ⟨false, 1, m, (fun i => [.p (.int .i64 (Q i))])⟩)] (.tup [.agg [.ar 1 0 0 N, .ar 1 1 0 m, .ar 1 2 0 m], .p (.bool false)]),
  ((0 : Nat) < 1),
  ((true = true) → (AN 1)),
  ((!false) = true),
  ((0 : Nat) < 1),
  ((0 : Nat) < 1),
  (AE N),
  (AE m),
  (AE m),
  Con Try.prog 180 3 [(0, ⟨false, 1, N, (fun i => [.p (.int .i64 (F i))])⟩), (1, ⟨false, 1, m, (fun i => [.p (.int .i64 (T i))])⟩), (2, ⟨false, 1, m, (fun i => [.p (.int .i64 (Q i))])⟩)] [.agg [.p (.int .i64 (↑N : Int)), .p (.seq true 2 nb (fun i => [.int .i64 ((g i).1), .int .i64 ((g i).2.1)]))], .agg [.ar 1 0 0 N, .ar 1 1 0 m, .ar 1 2 0 m], .p (.int .i64 b), .p (.int .i64 a)] [(0, ⟨false, 1, N, (fun i => [.p (.int .i64 (F i))])⟩), (1, ⟨false, 1, m, (fun i => [.p (.int .i64 (T i))])⟩), (2, ⟨false, 1, m, (fun i => [.p (.int .i64 (Q i))])⟩)] (.tup [.agg [.ar 1 0 0 N, .ar 1 1 0 m, .ar 1 2 0 m], .p (.bool false)]),
  ((0 : Nat) < 1),
  ((true = true) → (AN 1)),
  ((!false) = true),
  ((0 : Nat) < 1),
  ((0 : Nat) < 1),
  ((true = true) → (AN 1)),
  ((0 : Nat) < 1),
  (AN 0),
  (AN N),
  (AN 0),
  (AN m),
  (AN 0),
  (AN m),
  (false = false),
  (AN 1),
  ((N : Nat) ≤ N),
  (AA N (fun i => [.p (.int .i64 (F i))])),
  (AN 1),
  ((m : Nat) ≤ m),
  (AA m (fun i => [.p (.int .i64 (T i))])),
  (AN 1),
  ((m : Nat) ≤ m),
  (AA m (fun i => [.p (.int .i64 (Q i))])),
  (AE N),
  (AE m),
  (AE m)] := by kernel_rfl
theorem qHd (g : Nat → T_Bar) (nb N m : Nat) (F0 T0 F T Q : Nat → Int) (a b want : Int) :
    pathOb Try.prog Try.f162 0 [.reg [oT, oT, oT, oT, oT, oT, oT, oT, oT, oT, oT, oT, oT], .dec false, .reg [oT, oT, oT]] [.code (cAt (bodyOf Try.f162) [1, 1, 0, 0, 0]), .inLoop (cAt (bodyOf Try.f162) [1, 1, 0, 0, 0]), .inBlock 0, .code (cAt (bodyOf Try.f162) [1, 1, 1])] (SH g nb N m F0 T0 F T Q a b want) [4, 5, 6] 1 (pebR N m F T Q) (.tup [pebO N m 0, .p (.bool true)]) =
    some [((0 : Nat) < 1),
  ((0 : Int) ≤ a),
  ((a : Int) < (↑N : Int)),
  ((a.toNat : Nat) < N),
  ((0 : Nat) < 1),
  ((0 : Int) ≤ b),
  ((b : Int) < (↑N : Int)),
  ((b.toNat : Nat) < N),
  (((-9223372036854775808) : Int) ≤ (F a.toNat + F b.toNat)),
  (((F a.toNat + F b.toNat) : Int) ≤ 9223372036854775807),
  ((decide (F (a.toNat + 0) + F (b.toNat + 0) < want)) = false),
  ((0 : Nat) < 1),
  ((0 : Nat) < 1),
  ((true = true) → (AN 1)),
  ((0 : Nat) < 1),
  (AN 0),
  (AN N),
  (AN 0),
  (AN m),
  (AN 0),
  (AN m),
  (true = true),
  (AN 1),
  ((N : Nat) ≤ N),
  (AA N (fun i => [.p (.int .i64 (F i))])),
  (AN 1),
  ((m : Nat) ≤ m),
  (AA m (fun i => [.p (.int .i64 (T i))])),
  (AN 1),
  ((m : Nat) ≤ m),
  (AA m (fun i => [.p (.int .i64 (Q i))])),
  (AE N),
  (AE m),
  (AE m)] := by kernel_rfl
theorem qNy (g : Nat → T_Bar) (nb N k : Nat) :
    pieceOb Try.prog 0 [.reg [oT, oT, oT], .reg [oT, oT, oT, oT, oT, oT], .head] [.code (bodyOf Try.f144)] (start Try.f144 [] 0 [grG g nb N, .p (.int .i64 k)]) [0, 32, 224, 96, 128, 160] 1 (SNc g nb N k) =
    some ([.code (cAt (bodyOf Try.f144) [1, 1, 0, 0]), .code (cAt (bodyOf Try.f144) [1, 1, 0, 1]), .code (cAt (bodyOf Try.f144) [1, 1, 1])], [((0 : Nat) < 1),
  ((true = true) → (AN 1)),
  (AI ((↑k : Int))),
  (AN 0),
  (AN 0),
  (AN 0),
  ((([AV.p (PV.int IntKind.i64 (↑N : Int)), brL g nb].length) : Nat) = 2),
  ((1 : Nat) ≤ 1),
  ((1 : Nat) ≤ 1),
  (AI ((↑N : Int))),
  (AN nb),
  (AP nb (fun i => [.int .i64 ((g i).1), .int .i64 ((g i).2.1)])),
  ((((List.map (fun v => AV.p (absV v)) [Value.slice none 0 0, Value.slice none 0 0, Value.slice none 0 0]).length) : Nat) = 3),
  ((1 : Nat) ≤ 1),
  ((1 : Nat) ≤ 1),
  ((((List.map (fun v => AV.p (absV v)) [Value.slice none 0 0, Value.slice none 0 0, Value.slice none 0 0]).length) : Nat) = 3),
  ((1 : Nat) ≤ 1),
  ((1 : Nat) ≤ 1),
  (AN 0),
  (AN 0),
  (AN 0),
  (AN 0),
  (AN 0),
  (AN 0),
  (AN 1),
  ((0 : Nat) ≤ 0),
  (∀ i : Nat, (((i : Nat) < 0) → (All [] ∧ (([.p .any] : List AV) = [.p (.int .i64 (↑k : Int))])))),
  (AN 1),
  ((0 : Nat) ≤ 0),
  (∀ i : Nat, (((i : Nat) < 0) → (All [] ∧ (([.p .any] : List AV) = [.p (.int .i64 0)])))),
  (AN 1),
  ((0 : Nat) ≤ 0),
  (∀ i : Nat, (((i : Nat) < 0) → (All [] ∧ (([.p .any] : List AV) = [.p (.int .i64 0)]))))]) := by kernel_rfl
theorem qNa (g : Nat → T_Bar) (nb N k : Nat) :
    pieceOb Try.prog 0 [.reg [oT, ⟨true, (some ⟨[], [], [], 1, [], .p (.bool true)⟩), none⟩, oT, oT, oT, ⟨true, (some ⟨[], [], [], 1, [], .p (.bool true)⟩), none⟩, oT, oT], .dec false, .reg [oT], .head] [.code (cAt (bodyOf Try.f144) [1, 1, 0, 0]), .code (cAt (bodyOf Try.f144) [1, 1, 0, 1]), .code (cAt (bodyOf Try.f144) [1, 1, 1])] (SNc g nb N k) [0, 1, 2, 3, 4, 5] 1 (SN0 g nb N k 0) =
    some ([.code (cAt (bodyOf Try.f144) [1, 1, 1, 0, 1, 0, 0]), .inLoop (cAt (bodyOf Try.f144) [1, 1, 1, 0, 1, 0, 0]), .inBlock 0, .code (cAt (bodyOf Try.f144) [1, 1, 1, 1])], [((0 : Nat) < 1),
  Con Try.prog 110 0 [] [.agg [.p (.int .i64 (↑N : Int)), .p (.seq true 2 nb (fun i => [.int .i64 ((g i).1), .int .i64 ((g i).2.1)]))]] [] (.p (.bool true)),
  (AG (!!true)),
  (((!!true) = true) → Con Try.prog 37 0 [] [.p (.int .i64 (↑k : Int)), .p (.int .i64 1), .p (.int .i64 3)] [] (.p (.bool true))),
  (AG (!!true)),
  (((!true) = false) → ((!!true) = true)),
  ((bif !true then true else !true) = false),
  (AI ((↑k : Int))),
  (AN 0),
  (AN 0),
  (AN 0),
  ((0 : Int) = (↑0 : Int)),
  (AN 2),
  ((1 : Nat) ≤ 1),
  ((1 : Nat) ≤ 1),
  (AI ((↑N : Int))),
  (AN nb),
  (AP nb (fun i => [.int .i64 ((g i).1), .int .i64 ((g i).2.1)])),
  (AN 3),
  ((1 : Nat) ≤ 1),
  ((1 : Nat) ≤ 1),
  (AN 3),
  ((1 : Nat) ≤ 1),
  ((1 : Nat) ≤ 1),
  (AN 0),
  (AN 0),
  (AN 0),
  (AN 0),
  (AN 0),
  (AN 0),
  (AN 1),
  ((0 : Nat) ≤ 0),
  (AA 0 (fun i => [.p (.int .i64 (↑k : Int))])),
  (AN 1),
  ((0 : Nat) ≤ 0),
  (AA 0 (fun i => [.p (.int .i64 0)])),
  (AN 1),
  ((0 : Nat) ≤ 0),
  (AA 0 (fun i => [.p (.int .i64 0)]))]) := by kernel_rfl
theorem qNl (g : Nat → T_Bar) (nb N k i : Nat) :
    pieceOb Try.prog 0 [.reg [oT, oT, oT, oT], .dec true, .reg [oT, oT, oT, oT, oT, oT, oT], .reg [oT, oT, oT], .head] [.code (cAt (bodyOf Try.f144) [1, 1, 1, 0, 1, 0, 0]), .inLoop (cAt (bodyOf Try.f144) [1, 1, 1, 0, 1, 0, 0]), .inBlock 0, .code (cAt (bodyOf Try.f144) [1, 1, 1, 1])] (SN0 g nb N k i) [0, 1, 2, 262, 4, 5] 1 (SN0 g nb N k (i + 1)) =
    some ([.code (cAt (bodyOf Try.f144) [1, 1, 1, 0, 1, 0, 0]), .inLoop (cAt (bodyOf Try.f144) [1, 1, 1, 0, 1, 0, 0]), .inBlock 0, .code (cAt (bodyOf Try.f144) [1, 1, 1, 1])], [((0 : Nat) < 1),
  ((decide ((↑i : Int) < (↑N : Int))) = true),
  ((0 : Nat) < 1),
  ((1 : Nat) ≤ 1),
  ((i : Nat) ≤ i),
  ((((i + 1) * 8) : Nat) ≤ 140737488355328),
  (((i + 1) : Nat) ≤ 9223372036854775807),
  ((0 : Nat) < 1),
  ((true = true) → (AN 1)),
  (((-9223372036854775808) : Int) ≤ ((↑i : Int) + 1)),
  ((((↑i : Int) + 1) : Int) ≤ 9223372036854775807),
  (AI ((↑k : Int))),
  (AN 0),
  (AN 0),
  (AN 0),
  ((((↑i : Int) + 1) : Int) = (↑(i + 1) : Int)),
  (AN 2),
  ((1 : Nat) ≤ 1),
  ((1 : Nat) ≤ 1),
  (AI ((↑N : Int))),
  (AN nb),
  (AP nb (fun i_1 => [.int .i64 ((g i_1).1), .int .i64 ((g i_1).2.1)])),
  (AN 3),
  ((1 : Nat) ≤ 1),
  ((1 : Nat) ≤ 1),
  (AN 3),
  ((1 : Nat) ≤ 1),
  ((1 : Nat) ≤ 1),
  (AN 0),
  (AN ((i + 1))),
  (AN 0),
  (AN 0),
  (AN 0),
  (AN 0),
  (AN 1),
  (((i + 1) : Nat) ≤ (i + 1)),
  (∀ i_1 : Nat, (((i_1 : Nat) < (i + 1)) → (All (cvtL false [(2, ⟨true, 3, 1, (fun i_2 => [.ar 1 262 0 (i + 1), .ar 1 4 0 0, .ar 1 5 0 0])⟩), (262, ⟨false, 1, (i + 1), (fun i_2 => (if (i_2 < i) then [.p (.int .i64 (↑k : Int))] else [.p (.int .i64 (↑k : Int))]))⟩), (230, ⟨false, 1, 1, (fun i_2 => [.p (.int .i64 (↑k : Int))])⟩), (0, ⟨true, 2, 1, (fun i_2 => [.p (.int .i64 (↑N : Int)), .p (.seq true 2 nb (fun i_3 => [.int .i64 ((g i_3).1), .int .i64 ((g i_3).2.1)]))])⟩), (1, ⟨true, 3, 1, (fun i_2 => [.p (.nil), .p (.nil), .p (.nil)])⟩), (4, ⟨false, 1, 0, (fun i_2 => [.p (.int .i64 0)])⟩), (5, ⟨false, 1, 0, (fun i_2 => [.p (.int .i64 0)])⟩)] [0, 1, 2, 262, 4, 5] 1 (if (i_1 < i) then [.p (.int .i64 (↑k : Int))] else [.p (.int .i64 (↑k : Int))])).2 ∧ (((cvtL false [(2, ⟨true, 3, 1, (fun i_2 => [.ar 1 262 0 (i + 1), .ar 1 4 0 0, .ar 1 5 0 0])⟩), (262, ⟨false, 1, (i + 1), (fun i_2 => (if (i_2 < i) then [.p (.int .i64 (↑k : Int))] else [.p (.int .i64 (↑k : Int))]))⟩), (230, ⟨false, 1, 1, (fun i_2 => [.p (.int .i64 (↑k : Int))])⟩), (0, ⟨true, 2, 1, (fun i_2 => [.p (.int .i64 (↑N : Int)), .p (.seq true 2 nb (fun i_3 => [.int .i64 ((g i_3).1), .int .i64 ((g i_3).2.1)]))])⟩), (1, ⟨true, 3, 1, (fun i_2 => [.p (.nil), .p (.nil), .p (.nil)])⟩), (4, ⟨false, 1, 0, (fun i_2 => [.p (.int .i64 0)])⟩), (5, ⟨false, 1, 0, (fun i_2 => [.p (.int .i64 0)])⟩)] [0, 1, 2, 262, 4, 5] 1 (if (i_1 < i) then [.p (.int .i64 (↑k : Int))] else [.p (.int .i64 (↑k : Int))])).1 : List AV) = [.p (.int .i64 (↑k : Int))])))),
  (AN 1),
  ((0 : Nat) ≤ 0),
  (AA 0 (fun i_1 => [.p (.int .i64 0)])),
  (AN 1),
  ((0 : Nat) ≤ 0),
  (AA 0 (fun i_1 => [.p (.int .i64 0)]))]) := by kernel_rfl
theorem qNe (g : Nat → T_Bar) (nb N k i : Nat) :
    pathOb Try.prog Try.f144 0 [.reg [oT, oT, oT, oT], .dec false, .reg [oT, oT, oT]] [.code (cAt (bodyOf Try.f144) [1, 1, 1, 0, 1, 0, 0]), .inLoop (cAt (bodyOf Try.f144) [1, 1, 1, 0, 1, 0, 0]), .inBlock 0, .code (cAt (bodyOf Try.f144) [1, 1, 1, 1])] (SN0 g nb N k i) [3, 4, 5] 1 (pebR i 0 (fun _ => k) (fun _ => 0) (fun _ => 0)) (.tup [pebO i 0 0, .p (.bool true)]) =
    some [((0 : Nat) < 1),
  ((decide ((↑i : Int) < (↑N : Int))) = false),
  ((0 : Nat) < 1),
  ((0 : Nat) < 1),
  ((true = true) → (AN 1)),
  ((0 : Nat) < 1),
  (AN 0),
  (AN i),
  (AN 0),
  (AN 0),
  (AN 0),
  (AN 0),
  (true = true),
  (AN 1),
  ((i : Nat) ≤ i),
  (AA i (fun i_1 => [.p (.int .i64 (↑k : Int))])),
  (AN 1),
  ((0 : Nat) ≤ 0),
  (AA 0 (fun i_1 => [.p (.int .i64 0)])),
  (AN 1),
  ((0 : Nat) ≤ 0),
  (AA 0 (fun i_1 => [.p (.int .i64 0)])),
  (AE i),
  (AE 0),
  (AE 0)] := by kernel_rfl
theorem con_l4Gather {N k nb m l : Nat} {g : Nat → T_Bar} {F0 T0 Q : Nat → Int} {a b : Int} (hp0 : PInv N k nb m g F0 T0 Q) (hk : k ≤ 1048576) (hN : N ≤ 1048576) (hm : m ≤ 1048576) (hnb : nb ≤ 1048576)
    (ha : 0 ≤ a ∧ a < N) (hb : 0 ≤ b ∧ b < N) (hab : a ≠ b) : ∃ F' T' r, Con Try.prog 162 0 [] [grG g nb N, pebD N m F0 T0 Q, .p (.int .i64 a), .p (.int .i64 b), .p (.int .i64 ((l : Int) + 1))] (pebR N m F' T' Q) (.tup [pebO N m 0, .p (.bool r)]) ∧
      PInv N k nb m g F' T' Q ∧ (r = true → (l : Int) + 1 ≤ F' a.toNat + F' b.toNat) ∧ (r = false → ¬ Mat.Sparse N k l (plL g Q m ++ [(a.toNat, b.toNat)])) := by
  have lp : ∀ d F T, PInv N k nb m g F T Q → (l : Int) + 1 ≤ F a.toNat + F b.toNat + (d : Nat) → ∃ F' T' r, (∀ c, c.n = 0 → Run Try.prog c 162 [.code (cAt (bodyOf Try.f162) [1, 1, 0, 0, 0]), .inLoop (cAt (bodyOf Try.f162) [1, 1, 0, 0, 0]), .inBlock 0, .code (cAt (bodyOf Try.f162) [1, 1, 1])] (SH g nb N m F0 T0 F T Q a b ((l : Int) + 1)) (Post c (pebR N m F' T' Q) (.tup [pebO N m 0, .p (.bool r)]))) ∧
      PInv N k nb m g F' T' Q ∧ (r = true → (l : Int) + 1 ≤ F' a.toNat + F' b.toNat) ∧ (r = false → ¬ Mat.Sparse N k l (plL g Q m ++ [(a.toNat, b.toNat)])) := by
    intro d
    induction d with
    | zero =>
      intro F T hp hw
      have hd : decide (F a.toNat + F b.toNat < (l : Int) + 1) = false := by simp; omega
      have l1 := hp.le (v := a.toNat) (by omega)
      have l2 := hp.le (v := b.toNat) (by omega)
      refine ⟨F, T, true, fun c hc => ?_, hp, (fun _ => by omega), (fun h => by cases h)⟩
      refine path_ok mixed Try.func162 hc (qHd g nb N m F0 T0 F T Q a b ((l : Int) + 1)) ?_
      simp only [All]
      repeat' (first | exact trivial | with_reducible apply And.intro)
      all_goals (first | exact aG _ | exact aP _ _ | exact aA _ _ | exact aE _ | omega | rfl | (intros; first | assumption | exact True.intro | rfl | exact absurd (show false = true by assumption) Bool.false_ne_true | ((repeat' (first | assumption | apply anda | apply notf)); done)) | (exact hd) | (intro i hi; simp [All]))
    | succ d ih =>
      intro F T hp hw
      have l1 := hp.le (v := a.toNat) (by omega)
      have l2 := hp.le (v := b.toNat) (by omega)
      by_cases hs : F a.toNat + F b.toNat < (l : Int) + 1
      · have hd : decide (F a.toNat + F b.toNat < (l : Int) + 1) = true := by simp; omega
        obtain ⟨H1, r1, hc1, hf1⟩ := con_l4Find hp hk hN hm hnb ha hb hab
        cases hf1 with
        | yes F1 T1 hm1 =>
          obtain ⟨y1, y2⟩ := hm1.yes rfl
          obtain ⟨F', T', r, hrun, h1, h2, h3⟩ := ih F1 T1 hm1.inv (by omega)
          refine ⟨F', T', r, fun c hc => ?_, h1, h2, h3⟩
          refine piece_ok mixed hc (qHa g nb N m F0 T0 F T Q F1 T1 a b ((l : Int) + 1)) ?_ (hrun c hc)
          simp only [All]
          repeat' (first | exact trivial | with_reducible apply And.intro)
          all_goals (first | exact aG _ | exact aP _ _ | exact aA _ _ | exact aE _ | omega | rfl | (intros; first | assumption | exact True.intro | rfl | exact absurd (show false = true by assumption) Bool.false_ne_true | ((repeat' (first | assumption | apply anda | apply notf)); done)) | (exact hd) | (exact hc1) | (intro i hi; simp [All]))
        | no hm1 =>
          obtain ⟨H2, r2, hc2, hf2⟩ := con_l4Find hp hk hN hm hnb hb ha (Ne.symm hab)
          cases hf2 with
          | yes F2 T2 hm2 =>
            obtain ⟨y1, y2⟩ := hm2.yes rfl
            obtain ⟨F', T', r, hrun, h1, h2, h3⟩ := ih F2 T2 hm2.inv (by omega)
            refine ⟨F', T', r, fun c hc => ?_, h1, h2, h3⟩
            refine piece_ok mixed hc (qHb g nb N m F0 T0 F T Q F2 T2 a b ((l : Int) + 1)) ?_ (hrun c hc)
            simp only [All]
            repeat' (first | exact trivial | with_reducible apply And.intro)
            all_goals (first | exact aG _ | exact aP _ _ | exact aA _ _ | exact aE _ | omega | rfl | (intros; first | assumption | exact True.intro | rfl | exact absurd (show false = true by assumption) Bool.false_ne_true | ((repeat' (first | assumption | apply anda | apply notf)); done)) | (exact hd) | (exact hc1) | (exact hc2) | (intro i hi; simp [All]))
          | no hm2 =>
            refine ⟨F, T, false, fun c hc => ?_, hp, (fun h => by cases h), fun _ => gather_no hp ha hb hab (by omega) hm1 hm2⟩
            refine path_ok mixed Try.func162 hc (qHc g nb N m F0 T0 F T Q a b ((l : Int) + 1)) ?_
            simp only [All]
            repeat' (first | exact trivial | with_reducible apply And.intro)
            all_goals (first | exact aG _ | exact aP _ _ | exact aA _ _ | exact aE _ | omega | rfl | (intros; first | assumption | exact True.intro | rfl | exact absurd (show false = true by assumption) Bool.false_ne_true | ((repeat' (first | assumption | apply anda | apply notf)); done)) | (exact hd) | (exact hc1) | (exact hc2) | (intro i hi; simp [All]))
      · have hd : decide (F a.toNat + F b.toNat < (l : Int) + 1) = false := by simp; omega
        refine ⟨F, T, true, fun c hc => ?_, hp, (fun _ => by omega), (fun h => by cases h)⟩
        refine path_ok mixed Try.func162 hc (qHd g nb N m F0 T0 F T Q a b ((l : Int) + 1)) ?_
        simp only [All]
        repeat' (first | exact trivial | with_reducible apply And.intro)
        all_goals (first | exact aG _ | exact aP _ _ | exact aA _ _ | exact aE _ | omega | rfl | (intros; first | assumption | exact True.intro | rfl | exact absurd (show false = true by assumption) Bool.false_ne_true | ((repeat' (first | assumption | apply anda | apply notf)); done)) | (exact hd) | (intro i hi; simp [All]))
  have l1 := hp0.le (v := a.toNat) (by omega)
  have l2 := hp0.le (v := b.toNat) (by omega)
  obtain ⟨F', T', r, hrun, h⟩ := lp (l + 1) F0 T0 hp0 (by omega)
  refine ⟨F', T', r, ?_, h⟩
  have hcc := con_l4Copy N m F0 T0 Q hN hm
  refine con_start Try.func162 rfl (by kernel_rfl) rfl (fun c hc => ?_)
  refine piece_ok mixed hc (qHz g nb N m F0 T0 Q a b ((l : Int) + 1)) ?_ (hrun c hc)
  simp only [All]
  repeat' (first | exact trivial | with_reducible apply And.intro)
  all_goals (first | exact aG _ | exact aP _ _ | exact aA _ _ | exact aE _ | omega | rfl | (intros; first | assumption | exact True.intro | rfl | exact absurd (show false = true by assumption) Bool.false_ne_true | ((repeat' (first | assumption | apply anda | apply notf)); done)) | (exact hcc) | (intro i hi; simp [All]))
theorem run_new {g : Nat → T_Bar} {nb N k : Nat} (hN : N ≤ 1048576) (hk : 1 ≤ k ∧ k ≤ 3) (hg : isGraphF ((N : Int), (nb, g), ()) = true) (hnb : nb ≤ 1048576) (c : Cx) (hc : c.n = 0) {items : List Item} (hit : items = [.code (cAt (bodyOf Try.f144) [1, 1, 0, 0]), .code (cAt (bodyOf Try.f144) [1, 1, 0, 1]), .code (cAt (bodyOf Try.f144) [1, 1, 1])]) :
    Run Try.prog c 144 items (SNc g nb N k) (Post c (pebR N 0 (fun _ => k) (fun _ => 0) (fun _ => 0)) (.tup [pebO N 0 0, .p (.bool true)])) := by
  subst hit
  have hsm : smS s_Graph ((N : Int), (nb, g), ()) := ⟨by simp [smS, smL], ⟨hnb, fun i hi => by simp [smS, smL]⟩, True.intro⟩
  have hcg := con_IsGraph_s ((N : Int), (nb, g), ()) hsm
  rw [hg] at hcg
  have hci := con_l1In k 1 3
  rw [show inB k 1 3 = true by simp [inB]; omega] at hci
  have lp0 : ∀ d i, i + d = N → Run Try.prog c 144 [.code (cAt (bodyOf Try.f144) [1, 1, 1, 0, 1, 0, 0]), .inLoop (cAt (bodyOf Try.f144) [1, 1, 1, 0, 1, 0, 0]), .inBlock 0, .code (cAt (bodyOf Try.f144) [1, 1, 1, 1])] (SN0 g nb N k i) (Post c (pebR N 0 (fun _ => k) (fun _ => 0) (fun _ => 0)) (.tup [pebO N 0 0, .p (.bool true)])) := by
    intro d
    induction d with
    | zero =>
      intro i hi
      obtain rfl : i = N := by omega
      have hd : decide ((i : Int) < (i : Int)) = false := by simp
      refine path_ok mixed Try.func144 hc (qNe g nb i k i) ?_
      simp only [All]
      repeat' (first | exact trivial | with_reducible apply And.intro)
      all_goals (first | exact aG _ | exact aP _ _ | exact aA _ _ | exact aE _ | omega | rfl | (intros; first | assumption | exact True.intro | rfl | exact absurd (show false = true by assumption) Bool.false_ne_true | ((repeat' (first | assumption | apply anda | apply notf)); done)) | (intro i hi; simp [All]))
    | succ d ih =>
      intro i hi
      have hd : decide ((i : Int) < (N : Int)) = true := by simp; omega
      refine piece_ok mixed hc (qNl g nb N k i) ?_ (ih (i + 1) (by omega))
      simp only [All]
      repeat' (first | exact trivial | with_reducible apply And.intro)
      all_goals (first | exact aG _ | exact aP _ _ | exact aA _ _ | exact aE _ | omega | rfl | (intros; first | assumption | exact True.intro | rfl | exact absurd (show false = true by assumption) Bool.false_ne_true | ((repeat' (first | assumption | apply anda | apply notf)); done)) | (intro j hj; simp [All]; done) | (intro j hj; by_cases h : j < i <;> simp [h, cvtL, cvt, tg, tru, All]))
  refine piece_ok mixed hc (qNa g nb N k) ?_ (lp0 N 0 (by omega))
  simp only [All]
  repeat' (first | exact trivial | with_reducible apply And.intro)
  all_goals (first | exact aG _ | exact aP _ _ | exact aA _ _ | exact aE _ | omega | rfl | (intros; first | assumption | exact True.intro | rfl | exact absurd (show false = true by assumption) Bool.false_ne_true | ((repeat' (first | assumption | apply anda | apply notf)); done)) | (exact hcg) | (intros; exact hci) | (intro i hi; simp [All]))
theorem con_NewPebbles {N k nb : Nat} {g : Nat → T_Bar} (hN : N ≤ 1048576) (hk : 1 ≤ k ∧ k ≤ 3) (hg : isGraphF ((N : Int), (nb, g), ()) = true) (hnb : nb ≤ 1048576) :
    Con Try.prog 144 0 [] [grG g nb N, .p (.int .i64 k)] (pebR N 0 (fun _ => k) (fun _ => 0) (fun _ => 0)) (.tup [pebO N 0 0, .p (.bool true)]) := by
  refine con_start Try.func144 rfl (by kernel_rfl) rfl (fun c hc => ?_)
  refine piece_ok mixed hc (qNy g nb N k) ?_ (run_new hN hk hg hnb c hc rfl)
  simp only [All]
  repeat' (first | exact trivial | with_reducible apply And.intro)
  all_goals (first | exact aG _ | exact aP _ _ | exact aA _ _ | exact aE _ | omega | rfl | (intros; first | assumption | exact True.intro | rfl | exact absurd (show false = true by assumption) Bool.false_ne_true | ((repeat' (first | assumption | apply anda | apply notf)); done)) | (intro i hi; simp [All]))
end Go.Proofs.Ytffnfeefjdmifaa.Mach
namespace Go.Proofs.Ytffnfeefjdmifaa.Mach
open Go
set_option linter.unusedVariables false
set_option linter.unusedSimpArgs false
def OkBars (N nb : Nat) (g : Nat → T_Bar) : Prop := ∀ e, e < nb → 0 ≤ (g e).1 ∧ (g e).1 < (g e).2.1 ∧ (g e).2.1 < N
theorem goodB_in (N : Int) (g : Nat → T_Bar) : ∀ n, goodB N g n = true → ∀ e, e < n → badB N g e = false
  | 0, _, e, he => by omega
  | n + 1, h, e, he => by
    simp only [goodB, Bool.and_eq_true, Bool.not_eq_true'] at h
    by_cases h' : e = n
    · subst h'; exact h.2
    · exact goodB_in N g n h.1 e (by omega)
theorem graph_in {N nb : Nat} {g : Nat → T_Bar} (h : isGraphF ((N : Int), (nb, g), ()) = true) : (1 ≤ N ∧ N ≤ 8) ∧ nb ≤ 24 ∧ OkBars N nb g := by
  unfold isGraphF at h
  split at h
  case isFalse => cases h
  rename_i hc
  obtain ⟨h1, h2⟩ := hc
  simp only [inB, Bool.and_eq_true, decide_eq_true_eq] at h1
  refine ⟨by omega, h2, fun e he => ?_⟩
  have hb := goodB_in (N : Int) g nb h e he
  unfold badB at hb
  by_cases a1 : (g e).1 < 0
  · simp [a1] at hb
  by_cases a2 : (g e).1 ≥ (g e).2.1
  · simp [a2] at hb
  by_cases a3 : (g e).2.1 ≥ (N : Int)
  · simp [a3] at hb
  omega
end Go.Proofs.Ytffnfeefjdmifaa.Mach
namespace Go.Proofs.Ytffnfeefjdmifaa.Mach
open Go
set_option linter.unusedVariables false
set_option linter.unusedSimpArgs false
def ST0 (N m : Nat) (F T Q : Nat → Int) (x : Int) (i : Nat) : St :=
  ⟨[pebD N m F T Q, .p (.int .i64 x), .pt 3 0 0 0, .p .any, .p .any, .p (.int .i64 (tcI T i x)), .p (.int .i64 i)] ++ List.replicate 17 anyA, [(0, bxD N m F T Q)], 1⟩
def SI0 (g : Nat → T_Bar) (nb N k m : Nat) (F T Q : Nat → Int) (i : Nat) : St :=
  ⟨[grG g nb N, .p (.int .i64 k), pebD N m F T Q, .pt 2 0 0 0, .p .any, .pt 3 1 0 0, .p .any, .p (.int .i64 i)] ++ List.replicate 115 anyA, [(0, bxG g nb N), (1, bxD N m F T Q)], 2⟩
def SI1 (g : Nat → T_Bar) (nb N k m : Nat) (F T Q : Nat → Int) (i : Nat) : St :=
  ⟨[grG g nb N, .p (.int .i64 k), pebD N m F T Q, .pt 2 0 0 0, .p .any, .pt 3 1 0 0, .p .any, .p .any, .p .any, .p (.int .i64 i)] ++ List.replicate 113 anyA, [(0, bxG g nb N), (1, bxD N m F T Q)], 2⟩
def SRu (g : Nat → T_Bar) (nb N k l m : Nat) (F T Q : Nat → Int) (i : Nat) : St :=
  ⟨[grG g nb N, .p (.int .i64 k), .p (.int .i64 l), .pt 2 0 0 0, .p .any, .p .any, .pt 3 1 0 0, .p .any, .pt 3 2 0 0, .p .any, .p (.int .i64 i)] ++ List.replicate 32 anyA,
   [(0, bxG g nb N), (1, bx0), (2, bxP N m 3), (3, iOb N F), (4, iOb m T), (5, iOb m Q)], 6⟩
def badI (g : Nat → T_Bar) (nb : Nat) (T Q : Nat → Int) (i : Nat) : Bool :=
  bif bif bif decide (Q i < 0) then true else decide (Q i ≥ (nb : Int)) then true else bif decide ((i : Int) > 0) then decide (Q ((i : Int) - 1).toNat ≥ Q i) else false then true
    else bif T i != (g (Q i).toNat).1 then T i != (g (Q i).toNat).2.1 else false
theorem nRi (k l : Nat) :
    pathOb Try.prog Try.f122 0 [.reg [oT], .reg [oT, ⟨true, (some ⟨[], [], [], 1, [], .p (.bool true)⟩), none⟩, oT, oT, oT, oT, oT, ⟨true, (some ⟨[], [], [], 1, [], .p (.bool true)⟩), none⟩, oT, oT]] [.code (bodyOf Try.f122)] (start Try.f122 [] 0 [.p (.int .i64 k), .p (.int .i64 l)]) [] 1 [] (.p (.bool true)) =
    some [Con Try.prog 40 0 [] [.p (.int .i64 (↑k : Int)), .p (.int .i64 1), .p (.int .i64 3)] [] (.p (.bool true)),
  (AG true),
  ((true = true) → (((-9223372036854775808) : Int) ≤ (2 * (↑k : Int)))),
  ((true = true) → (((2 * (↑k : Int)) : Int) ≤ 9223372036854775807)),
  (AG true),
  ((true = true) → (((-9223372036854775808) : Int) ≤ (2 * (↑k : Int) - 1))),
  ((true = true) → (((2 * (↑k : Int) - 1) : Int) ≤ 9223372036854775807)),
  (AG true),
  (AG true),
  ((true = true) → Con Try.prog 40 0 [] [.p (.int .i64 (↑l : Int)), .p (.int .i64 0), .p (.int .i64 (2 * (↑k : Int) - 1))] [] (.p (.bool true))),
  (AG true),
  ((bif true then true else false) = true)] := by kernel_rfl
theorem nRs (k l : Nat) :
    pathOb Try.prog Try.f119 0 [.reg [oT], .reg [oT, ⟨true, (some ⟨[], [], [], 1, [], .p (.bool true)⟩), none⟩, oT, oT, oT, oT, oT, oT, oT, oT, oT, oT, oT]] [.code (bodyOf Try.f119)] (start Try.f119 [] 0 [.p (.int .i64 k), .p (.int .i64 l)]) [] 1 [] (.p (.bool true)) =
    some [Con Try.prog 37 0 [] [.p (.int .i64 (↑k : Int)), .p (.int .i64 1), .p (.int .i64 3)] [] (.p (.bool true)),
  (AG true),
  (AG true),
  (AG (bif true then decide ((↑l : Int) ≥ 0) else false)),
  (((bif true then decide ((↑l : Int) ≥ 0) else false) = true) → (((-9223372036854775808) : Int) ≤ (2 * (↑k : Int)))),
  (((bif true then decide ((↑l : Int) ≥ 0) else false) = true) → (((2 * (↑k : Int)) : Int) ≤ 9223372036854775807)),
  (AG (bif true then decide ((↑l : Int) ≥ 0) else false)),
  (AG (bif true then decide ((↑l : Int) ≥ 0) else false)),
  (AG (bif true then decide ((↑l : Int) ≥ 0) else false)),
  ((bif bif true then decide ((↑l : Int) ≥ 0) else false then decide ((↑l : Int) < 2 * (↑k : Int)) else false) = true)] := by kernel_rfl
theorem nUi (g : Nat → T_Bar) (nb N k l m : Nat) (F T Q : Nat → Int) :
    pathOb Try.prog Try.f120 0 [.reg [oT, oT, oT], .reg [oT, ⟨true, (some ⟨[], [], [], 1, [], .p (.bool true)⟩), none⟩, oT, oT, oT, oT, ⟨true, (some ⟨[], [], [], 1, [], .p (.bool true)⟩), none⟩, oT, oT], .dec false, .reg [oT, oT, oT, oT, oT, oT, ⟨true, (some ⟨[], [], [], 1, pebR N m F T Q, pebO N m 0⟩), none⟩, oT, oT]] [.code (bodyOf Try.f120)] (start Try.f120 [] 0 [grG g nb N, .p (.int .i64 k), .p (.int .i64 l)]) [576, 577, 578] 1 (pebR N m F T Q) (.tup [pebO N m 0, .p (.bool true)]) =
    some [((0 : Nat) < 1),
  Con Try.prog 101 0 [] [.agg [.p (.int .i64 (↑N : Int)), .p (.seq true 2 nb (fun i => [.int .i64 ((g i).1), .int .i64 ((g i).2.1)]))]] [] (.p (.bool true)),
  (AG (!!true)),
  (AG (!!true)),
  (((!!true) = true) → Con Try.prog 122 0 [] [.p (.int .i64 (↑k : Int)), .p (.int .i64 (↑l : Int))] [] (.p (.bool true))),
  (AG (!!true)),
  (((!true) = false) → ((!!true) = true)),
  ((bif !true then true else !true) = false),
  ((0 : Nat) < 1),
  ((0 : Nat) < 1),
  Con Try.prog 146 0 [] [.p (.int .i64 (↑N : Int)), .p (.seq true 2 nb (fun i => [.int .i64 ((g i).1), .int .i64 ((g i).2.1)])), .p (.int .i64 (↑k : Int)), .p (.int .i64 (↑l : Int))] [(0, ⟨false, 1, N, (fun i => [.p (.int .i64 (F i))])⟩), (1, ⟨false, 1, m, (fun i => [.p (.int .i64 (T i))])⟩), (2, ⟨false, 1, m, (fun i => [.p (.int .i64 (Q i))])⟩)] (.agg [.ar 1 0 0 N, .ar 1 1 0 m, .ar 1 2 0 m]),
  ((0 : Nat) < 1),
  ((true = true) → (AN 1)),
  ((0 : Nat) < 1),
  (AN 0),
  (AN N),
  (AN 0),
  (AN m),
  (AN 0),
  (AN m),
  (true = true),
  (AN 1),
  ((N : Nat) ≤ N),
  (AA N (fun i => [.p (.int .i64 (F i))])),
  (AN 1),
  ((m : Nat) ≤ m),
  (AA m (fun i => [.p (.int .i64 (T i))])),
  (AN 1),
  ((m : Nat) ≤ m),
  (AA m (fun i => [.p (.int .i64 (Q i))])),
  (AE N),
  (AE m),
  (AE m)] := by kernel_rfl
theorem nKi (g : Nat → T_Bar) (nb N k l m : Nat) (F T Q : Nat → Int) :
    pathOb Try.prog Try.f65 0 [.reg [oT, oT], .reg [oT, oT, oT, ⟨true, (some ⟨[], [], [], 1, pebR N m F T Q, .tup [pebO N m 0, .p (.bool true)]⟩), none⟩, oT, oT, oT, oT, oT, oT], .reg [oT, oT], .dec false, .reg [oT, oT, oT, oT]] [.code (bodyOf Try.f65)] (start Try.f65 [] 0 [grG g nb N, .p (.int .i64 k), .p (.int .i64 l)]) [] 1 [] (.p (.int .i64 m)) =
    some [((0 : Nat) < 1),
  Con Try.prog 120 0 [] [.agg [.p (.int .i64 (↑N : Int)), .p (.seq true 2 nb (fun i => [.int .i64 ((g i).1), .int .i64 ((g i).2.1)]))], .p (.int .i64 (↑k : Int)), .p (.int .i64 (↑l : Int))] [(0, ⟨false, 1, N, (fun i => [.p (.int .i64 (F i))])⟩), (1, ⟨false, 1, m, (fun i => [.p (.int .i64 (T i))])⟩), (2, ⟨false, 1, m, (fun i => [.p (.int .i64 (Q i))])⟩)] (.tup [.agg [.ar 1 0 0 N, .ar 1 1 0 m, .ar 1 2 0 m], .p (.bool true)]),
  ((0 : Nat) < 1),
  ((true = true) → (AN 1)),
  ((!true) = false),
  ((0 : Nat) < 1),
  (AI ((↑m : Int)))] := by kernel_rfl
theorem nKs (g : Nat → T_Bar) (nb N k l m : Nat) (F T Q : Nat → Int) :
    pathOb Try.prog Try.f57 0 [.reg [oT, oT], .reg [oT, oT, oT, ⟨true, (some ⟨[], [], [], 1, pebR N m F T Q, .tup [pebO N m 0, .p (.bool true)]⟩), none⟩, oT, oT, oT, oT, oT, oT], .reg [oT, oT], .dec false, .reg [oT, oT, oT, oT]] [.code (bodyOf Try.f57)] (start Try.f57 [] 0 [grG g nb N, .p (.int .i64 k), .p (.int .i64 l)]) [] 1 [] (.p (.int .i64 m)) =
    some [((0 : Nat) < 1),
  Con Try.prog 118 0 [] [.agg [.p (.int .i64 (↑N : Int)), .p (.seq true 2 nb (fun i => [.int .i64 ((g i).1), .int .i64 ((g i).2.1)]))], .p (.int .i64 (↑k : Int)), .p (.int .i64 (↑l : Int))] [(0, ⟨false, 1, N, (fun i => [.p (.int .i64 (F i))])⟩), (1, ⟨false, 1, m, (fun i => [.p (.int .i64 (T i))])⟩), (2, ⟨false, 1, m, (fun i => [.p (.int .i64 (Q i))])⟩)] (.tup [.agg [.ar 1 0 0 N, .ar 1 1 0 m, .ar 1 2 0 m], .p (.bool true)]),
  ((0 : Nat) < 1),
  ((true = true) → (AN 1)),
  ((!true) = false),
  ((0 : Nat) < 1),
  (AI ((↑m : Int)))] := by kernel_rfl
theorem nTz (N m : Nat) (F T Q : Nat → Int) (x : Int) :
    pieceOb Try.prog 0 [.reg [oT, oT], .reg [oT], .reg [oT], .head] [.code (bodyOf Try.f179)] (start Try.f179 [] 0 [pebD N m F T Q, .p (.int .i64 x)]) [0] 1 (ST0 N m F T Q x 0) =
    some ([.code (cAt (bodyOf Try.f179) [1, 1, 0, 1, 0, 0]), .inLoop (cAt (bodyOf Try.f179) [1, 1, 0, 1, 0, 0]), .inBlock 0, .code (cAt (bodyOf Try.f179) [1, 1, 1])], [(AN N),
  (AP N (fun i => [.int .i64 (F i)])),
  (AN m),
  (AP m (fun i => [.int .i64 (T i)])),
  (AN m),
  (AP m (fun i => [.int .i64 (Q i)])),
  (AI x),
  (AN 0),
  ((0 : Int) = (tcI T 0 x)),
  ((0 : Int) = (↑0 : Int)),
  ((([inD N F, inD m T, inD m Q].length) : Nat) = 3),
  ((1 : Nat) ≤ 1),
  ((1 : Nat) ≤ 1),
  (AN N),
  (AP N (fun i => [.int .i64 (F i)])),
  (AN m),
  (AP m (fun i => [.int .i64 (T i)])),
  (AN m),
  (AP m (fun i => [.int .i64 (Q i)]))]) := by kernel_rfl
theorem nTt (N m : Nat) (F T Q : Nat → Int) (x : Int) (i : Nat) :
    pieceOb Try.prog 0 [.reg [oT, oT, oT, oT, oT], .dec true, .reg [oT, oT, oT, oT, oT, oT, oT], .dec true, .reg [oT, oT, oT], .reg [oT, oT, oT], .head] [.code (cAt (bodyOf Try.f179) [1, 1, 0, 1, 0, 0]), .inLoop (cAt (bodyOf Try.f179) [1, 1, 0, 1, 0, 0]), .inBlock 0, .code (cAt (bodyOf Try.f179) [1, 1, 1])] (ST0 N m F T Q x i) [0] 1 (ST0 N m F T Q x (i + 1)) =
    some ([.code (cAt (bodyOf Try.f179) [1, 1, 0, 1, 0, 0]), .inLoop (cAt (bodyOf Try.f179) [1, 1, 0, 1, 0, 0]), .inBlock 0, .code (cAt (bodyOf Try.f179) [1, 1, 1])], [((0 : Nat) < 1),
  ((decide ((↑i : Int) < (↑m : Int))) = true),
  ((0 : Nat) < 1),
  ((0 : Int) ≤ (↑i : Int)),
  (((↑i : Int) : Int) < (↑m : Int)),
  ((T i == x) = true),
  (((-9223372036854775808) : Int) ≤ (tcI T i x + 1)),
  (((tcI T i x + 1) : Int) ≤ 9223372036854775807),
  (((-9223372036854775808) : Int) ≤ ((↑i : Int) + 1)),
  ((((↑i : Int) + 1) : Int) ≤ 9223372036854775807),
  (AN N),
  (AP N (fun i_1 => [.int .i64 (F i_1)])),
  (AN m),
  (AP m (fun i_1 => [.int .i64 (T i_1)])),
  (AN m),
  (AP m (fun i_1 => [.int .i64 (Q i_1)])),
  (AI x),
  (AN 0),
  (((tcI T i x + 1) : Int) = (tcI T (i + 1) x)),
  ((((↑i : Int) + 1) : Int) = (↑(i + 1) : Int)),
  (AN 3),
  ((1 : Nat) ≤ 1),
  ((1 : Nat) ≤ 1),
  (AN N),
  (AP N (fun i_1 => [.int .i64 (F i_1)])),
  (AN m),
  (AP m (fun i_1 => [.int .i64 (T i_1)])),
  (AN m),
  (AP m (fun i_1 => [.int .i64 (Q i_1)]))]) := by kernel_rfl
theorem nTf (N m : Nat) (F T Q : Nat → Int) (x : Int) (i : Nat) :
    pieceOb Try.prog 0 [.reg [oT, oT, oT, oT, oT], .dec true, .reg [oT, oT, oT, oT, oT, oT, oT], .dec false, .reg [oT, oT, oT], .head] [.code (cAt (bodyOf Try.f179) [1, 1, 0, 1, 0, 0]), .inLoop (cAt (bodyOf Try.f179) [1, 1, 0, 1, 0, 0]), .inBlock 0, .code (cAt (bodyOf Try.f179) [1, 1, 1])] (ST0 N m F T Q x i) [0] 1 (ST0 N m F T Q x (i + 1)) =
    some ([.code (cAt (bodyOf Try.f179) [1, 1, 0, 1, 0, 0]), .inLoop (cAt (bodyOf Try.f179) [1, 1, 0, 1, 0, 0]), .inBlock 0, .code (cAt (bodyOf Try.f179) [1, 1, 1])], [((0 : Nat) < 1),
  ((decide ((↑i : Int) < (↑m : Int))) = true),
  ((0 : Nat) < 1),
  ((0 : Int) ≤ (↑i : Int)),
  (((↑i : Int) : Int) < (↑m : Int)),
  ((T i == x) = false),
  (((-9223372036854775808) : Int) ≤ ((↑i : Int) + 1)),
  ((((↑i : Int) + 1) : Int) ≤ 9223372036854775807),
  (AN N),
  (AP N (fun i_1 => [.int .i64 (F i_1)])),
  (AN m),
  (AP m (fun i_1 => [.int .i64 (T i_1)])),
  (AN m),
  (AP m (fun i_1 => [.int .i64 (Q i_1)])),
  (AI x),
  (AN 0),
  (((tcI T i x) : Int) = (tcI T (i + 1) x)),
  ((((↑i : Int) + 1) : Int) = (↑(i + 1) : Int)),
  (AN 3),
  ((1 : Nat) ≤ 1),
  ((1 : Nat) ≤ 1),
  (AN N),
  (AP N (fun i_1 => [.int .i64 (F i_1)])),
  (AN m),
  (AP m (fun i_1 => [.int .i64 (T i_1)])),
  (AN m),
  (AP m (fun i_1 => [.int .i64 (Q i_1)]))]) := by kernel_rfl
theorem nTe (N m : Nat) (F T Q : Nat → Int) (x : Int) (i : Nat) :
    pathOb Try.prog Try.f179 0 [.reg [oT, oT, oT, oT, oT], .dec false, .reg [oT, oT]] [.code (cAt (bodyOf Try.f179) [1, 1, 0, 1, 0, 0]), .inLoop (cAt (bodyOf Try.f179) [1, 1, 0, 1, 0, 0]), .inBlock 0, .code (cAt (bodyOf Try.f179) [1, 1, 1])] (ST0 N m F T Q x i) [] 1 [] (.p (.int .i64 (tcI T i x))) =
    some [((0 : Nat) < 1),
  ((decide ((↑i : Int) < (↑m : Int))) = false),
  (AI ((tcI T i x)))] := by kernel_rfl
theorem nIz (g : Nat → T_Bar) (nb N k m : Nat) (F T Q : Nat → Int) :
    pieceOb Try.prog 0 [.reg [oT, oT, oT], .reg [oT, ⟨true, (some ⟨[], [], [], 1, [], .p (.bool true)⟩), none⟩, oT, oT, oT, ⟨true, (some ⟨[], [], [], 1, [], .p (.bool true)⟩), none⟩, oT, oT, oT, oT, oT, oT, oT, oT, oT, oT, oT, oT, oT, oT, oT, oT, oT, oT, oT], .dec false, .reg [oT], .head] [.code (bodyOf Try.f160)] (start Try.f160 [] 0 [grG g nb N, .p (.int .i64 k), pebD N m F T Q]) [0, 32] 1 (SI0 g nb N k m F T Q 0) =
    some ([.code (cAt (bodyOf Try.f160) [1, 1, 0, 1, 0, 0]), .inLoop (cAt (bodyOf Try.f160) [1, 1, 0, 1, 0, 0]), .inBlock 0, .code (cAt (bodyOf Try.f160) [1, 1, 1])], [((0 : Nat) < 1),
  Con Try.prog 110 0 [] [.agg [.p (.int .i64 (↑N : Int)), .p (.seq true 2 nb (fun i => [.int .i64 ((g i).1), .int .i64 ((g i).2.1)]))]] [] (.p (.bool true)),
  (AG (!!true)),
  (((!!true) = true) → Con Try.prog 37 0 [] [.p (.int .i64 (↑k : Int)), .p (.int .i64 1), .p (.int .i64 3)] [] (.p (.bool true))),
  (AG (!!true)),
  (((!true) = false) → ((!!true) = true)),
  (AG (!bif !true then true else !true)),
  (((!bif !true then true else !true) = true) → ((0 : Nat) < 1)),
  (AG (!bif !true then true else !true)),
  (AG (!bif !true then true else !true)),
  (((!bif !true then true else !true) = true) → ((0 : Nat) < 1)),
  (AG (!bif !true then true else !true)),
  (AG (!bif !true then true else !true)),
  (((bif !true then true else !true) = false) → ((!bif !true then true else !true) = true)),
  (AG (!bif bif !true then true else !true then true else (↑N : Int) != (↑N : Int))),
  (((!bif bif !true then true else !true then true else (↑N : Int) != (↑N : Int)) = true) → ((0 : Nat) < 1)),
  (AG (!bif bif !true then true else !true then true else (↑N : Int) != (↑N : Int))),
  (AG (!bif bif !true then true else !true then true else (↑N : Int) != (↑N : Int))),
  (((!bif bif !true then true else !true then true else (↑N : Int) != (↑N : Int)) = true) → ((0 : Nat) < 1)),
  (AG (!bif bif !true then true else !true then true else (↑N : Int) != (↑N : Int))),
  (AG (!bif bif !true then true else !true then true else (↑N : Int) != (↑N : Int))),
  (AG (!bif bif !true then true else !true then true else (↑N : Int) != (↑N : Int))),
  (((bif bif !true then true else !true then true else (↑N : Int) != (↑N : Int)) = false) → ((!bif bif !true then true else !true then true else (↑N : Int) != (↑N : Int)) = true)),
  ((bif bif bif !true then true else !true then true else (↑N : Int) != (↑N : Int) then true else (↑m : Int) != (↑m : Int)) = false),
  (AI ((↑N : Int))),
  (AN nb),
  (AP nb (fun i => [.int .i64 ((g i).1), .int .i64 ((g i).2.1)])),
  (AI ((↑k : Int))),
  (AN N),
  (AP N (fun i => [.int .i64 (F i)])),
  (AN m),
  (AP m (fun i => [.int .i64 (T i)])),
  (AN m),
  (AP m (fun i => [.int .i64 (Q i)])),
  (AN 0),
  (AN 0),
  ((0 : Int) = (↑0 : Int)),
  ((([AV.p (PV.int IntKind.i64 (↑N : Int)), brL g nb].length) : Nat) = 2),
  ((1 : Nat) ≤ 1),
  ((1 : Nat) ≤ 1),
  (AI ((↑N : Int))),
  (AN nb),
  (AP nb (fun i => [.int .i64 ((g i).1), .int .i64 ((g i).2.1)])),
  ((([inD N F, inD m T, inD m Q].length) : Nat) = 3),
  ((1 : Nat) ≤ 1),
  ((1 : Nat) ≤ 1),
  (AN N),
  (AP N (fun i => [.int .i64 (F i)])),
  (AN m),
  (AP m (fun i => [.int .i64 (T i)])),
  (AN m),
  (AP m (fun i => [.int .i64 (Q i)]))]) := by kernel_rfl
theorem nI0 (g : Nat → T_Bar) (nb N k m : Nat) (F T Q : Nat → Int) (i : Nat) :
    pieceOb Try.prog 0 [.reg [oT, oT, oT, oT, oT], .dec true, .reg [oT, oT, oT, oT, oT, oT], .reg [oT, oT, oT, oT, oT, oT, oT, oT, oT, oT, oT, oT, oT, oT, oT, oT, oT, oT, oT, oT, oT, oT, oT, oT, oT, oT, oT, oT, oT, oT, oT, oT, oT, oT, oT, oT, oT, oT, oT, oT, oT, oT, oT, oT, oT, oT, oT, oT, oT, oT, oT], .dec false, .reg [oT, oT, oT], .head] [.code (cAt (bodyOf Try.f160) [1, 1, 0, 1, 0, 0]), .inLoop (cAt (bodyOf Try.f160) [1, 1, 0, 1, 0, 0]), .inBlock 0, .code (cAt (bodyOf Try.f160) [1, 1, 1])] (SI0 g nb N k m F T Q i) [0, 1] 1 (SI0 g nb N k m F T Q (i + 1)) =
    some ([.code (cAt (bodyOf Try.f160) [1, 1, 0, 1, 0, 0]), .inLoop (cAt (bodyOf Try.f160) [1, 1, 0, 1, 0, 0]), .inBlock 0, .code (cAt (bodyOf Try.f160) [1, 1, 1])], [((0 : Nat) < 1),
  ((decide ((↑i : Int) < (↑m : Int))) = true),
  ((0 : Nat) < 1),
  ((0 : Int) ≤ (↑i : Int)),
  (((↑i : Int) : Int) < (↑m : Int)),
  (AG (!decide (Q (↑i : Int).toNat < 0))),
  (((!decide (Q (↑i : Int).toNat < 0)) = true) → ((0 : Nat) < 1)),
  (AG (!decide (Q (↑i : Int).toNat < 0))),
  (AG (!decide (Q (↑i : Int).toNat < 0))),
  (AG (!decide (Q (↑i : Int).toNat < 0))),
  (((decide (Q (↑i : Int).toNat < 0)) = false) → ((!decide (Q (↑i : Int).toNat < 0)) = true)),
  (AG (!bif decide (Q (↑i : Int).toNat < 0) then true else decide (Q (↑i : Int).toNat ≥ (↑nb : Int)))),
  (AG (!bif decide (Q (↑i : Int).toNat < 0) then true else decide (Q (↑i : Int).toNat ≥ (↑nb : Int)))),
  (AG ((!bif decide (Q (↑i : Int).toNat < 0) then true else decide (Q (↑i : Int).toNat ≥ (↑nb : Int))) && decide ((↑i : Int) > 0))),
  ((((!bif decide (Q (↑i : Int).toNat < 0) then true else decide (Q (↑i : Int).toNat ≥ (↑nb : Int))) && decide ((↑i : Int) > 0)) = true) → ((0 : Nat) < 1)),
  (AG ((!bif decide (Q (↑i : Int).toNat < 0) then true else decide (Q (↑i : Int).toNat ≥ (↑nb : Int))) && decide ((↑i : Int) > 0))),
  ((((!bif decide (Q (↑i : Int).toNat < 0) then true else decide (Q (↑i : Int).toNat ≥ (↑nb : Int))) && decide ((↑i : Int) > 0)) = true) → (((-9223372036854775808) : Int) ≤ ((↑i : Int) - 1))),
  ((((!bif decide (Q (↑i : Int).toNat < 0) then true else decide (Q (↑i : Int).toNat ≥ (↑nb : Int))) && decide ((↑i : Int) > 0)) = true) → ((((↑i : Int) - 1) : Int) ≤ 9223372036854775807)),
  (AG ((!bif decide (Q (↑i : Int).toNat < 0) then true else decide (Q (↑i : Int).toNat ≥ (↑nb : Int))) && decide ((↑i : Int) > 0))),
  (AG ((!bif decide (Q (↑i : Int).toNat < 0) then true else decide (Q (↑i : Int).toNat ≥ (↑nb : Int))) && decide ((↑i : Int) > 0))),
  ((((!bif decide (Q (↑i : Int).toNat < 0) then true else decide (Q (↑i : Int).toNat ≥ (↑nb : Int))) && decide ((↑i : Int) > 0)) = true) → ((0 : Int) ≤ ((↑i : Int) - 1))),
  ((((!bif decide (Q (↑i : Int).toNat < 0) then true else decide (Q (↑i : Int).toNat ≥ (↑nb : Int))) && decide ((↑i : Int) > 0)) = true) → ((((↑i : Int) - 1) : Int) < (↑m : Int))),
  (AG ((!bif decide (Q (↑i : Int).toNat < 0) then true else decide (Q (↑i : Int).toNat ≥ (↑nb : Int))) && decide ((↑i : Int) > 0))),
  (AG ((!bif decide (Q (↑i : Int).toNat < 0) then true else decide (Q (↑i : Int).toNat ≥ (↑nb : Int))) && decide ((↑i : Int) > 0))),
  (AG ((!bif decide (Q (↑i : Int).toNat < 0) then true else decide (Q (↑i : Int).toNat ≥ (↑nb : Int))) && decide ((↑i : Int) > 0))),
  (AG (!bif decide (Q (↑i : Int).toNat < 0) then true else decide (Q (↑i : Int).toNat ≥ (↑nb : Int)))),
  (((!bif decide (Q (↑i : Int).toNat < 0) then true else decide (Q (↑i : Int).toNat ≥ (↑nb : Int))) = true) → (((decide ((↑i : Int) > 0)) = true) → (((!bif decide (Q (↑i : Int).toNat < 0) then true else decide (Q (↑i : Int).toNat ≥ (↑nb : Int))) && decide ((↑i : Int) > 0)) = true))),
  (((bif decide (Q (↑i : Int).toNat < 0) then true else decide (Q (↑i : Int).toNat ≥ (↑nb : Int))) = false) → ((!bif decide (Q (↑i : Int).toNat < 0) then true else decide (Q (↑i : Int).toNat ≥ (↑nb : Int))) = true)),
  (AG (!bif bif decide (Q (↑i : Int).toNat < 0) then true else decide (Q (↑i : Int).toNat ≥ (↑nb : Int)) then true else bif decide ((↑i : Int) > 0) then decide (Q ((↑i : Int) - 1).toNat ≥ Q (↑i : Int).toNat) else false)),
  (((!bif bif decide (Q (↑i : Int).toNat < 0) then true else decide (Q (↑i : Int).toNat ≥ (↑nb : Int)) then true else bif decide ((↑i : Int) > 0) then decide (Q ((↑i : Int) - 1).toNat ≥ Q (↑i : Int).toNat) else false) = true) → ((0 : Nat) < 1)),
  (AG (!bif bif decide (Q (↑i : Int).toNat < 0) then true else decide (Q (↑i : Int).toNat ≥ (↑nb : Int)) then true else bif decide ((↑i : Int) > 0) then decide (Q ((↑i : Int) - 1).toNat ≥ Q (↑i : Int).toNat) else false)),
  (AG (!bif bif decide (Q (↑i : Int).toNat < 0) then true else decide (Q (↑i : Int).toNat ≥ (↑nb : Int)) then true else bif decide ((↑i : Int) > 0) then decide (Q ((↑i : Int) - 1).toNat ≥ Q (↑i : Int).toNat) else false)),
  (((!bif bif decide (Q (↑i : Int).toNat < 0) then true else decide (Q (↑i : Int).toNat ≥ (↑nb : Int)) then true else bif decide ((↑i : Int) > 0) then decide (Q ((↑i : Int) - 1).toNat ≥ Q (↑i : Int).toNat) else false) = true) → ((0 : Int) ≤ (↑i : Int))),
  (((!bif bif decide (Q (↑i : Int).toNat < 0) then true else decide (Q (↑i : Int).toNat ≥ (↑nb : Int)) then true else bif decide ((↑i : Int) > 0) then decide (Q ((↑i : Int) - 1).toNat ≥ Q (↑i : Int).toNat) else false) = true) → (((↑i : Int) : Int) < (↑m : Int))),
  (AG (!bif bif decide (Q (↑i : Int).toNat < 0) then true else decide (Q (↑i : Int).toNat ≥ (↑nb : Int)) then true else bif decide ((↑i : Int) > 0) then decide (Q ((↑i : Int) - 1).toNat ≥ Q (↑i : Int).toNat) else false)),
  (AG (!bif bif decide (Q (↑i : Int).toNat < 0) then true else decide (Q (↑i : Int).toNat ≥ (↑nb : Int)) then true else bif decide ((↑i : Int) > 0) then decide (Q ((↑i : Int) - 1).toNat ≥ Q (↑i : Int).toNat) else false)),
  (((!bif bif decide (Q (↑i : Int).toNat < 0) then true else decide (Q (↑i : Int).toNat ≥ (↑nb : Int)) then true else bif decide ((↑i : Int) > 0) then decide (Q ((↑i : Int) - 1).toNat ≥ Q (↑i : Int).toNat) else false) = true) → ((0 : Nat) < 1)),
  (AG (!bif bif decide (Q (↑i : Int).toNat < 0) then true else decide (Q (↑i : Int).toNat ≥ (↑nb : Int)) then true else bif decide ((↑i : Int) > 0) then decide (Q ((↑i : Int) - 1).toNat ≥ Q (↑i : Int).toNat) else false)),
  (AG (!bif bif decide (Q (↑i : Int).toNat < 0) then true else decide (Q (↑i : Int).toNat ≥ (↑nb : Int)) then true else bif decide ((↑i : Int) > 0) then decide (Q ((↑i : Int) - 1).toNat ≥ Q (↑i : Int).toNat) else false)),
  (((!bif bif decide (Q (↑i : Int).toNat < 0) then true else decide (Q (↑i : Int).toNat ≥ (↑nb : Int)) then true else bif decide ((↑i : Int) > 0) then decide (Q ((↑i : Int) - 1).toNat ≥ Q (↑i : Int).toNat) else false) = true) → ((0 : Int) ≤ (Q i))),
  (((!bif bif decide (Q (↑i : Int).toNat < 0) then true else decide (Q (↑i : Int).toNat ≥ (↑nb : Int)) then true else bif decide ((↑i : Int) > 0) then decide (Q ((↑i : Int) - 1).toNat ≥ Q (↑i : Int).toNat) else false) = true) → (((Q i) : Int) < (↑nb : Int))),
  (AG (!bif bif decide (Q (↑i : Int).toNat < 0) then true else decide (Q (↑i : Int).toNat ≥ (↑nb : Int)) then true else bif decide ((↑i : Int) > 0) then decide (Q ((↑i : Int) - 1).toNat ≥ Q (↑i : Int).toNat) else false)),
  (AG (!bif bif decide (Q (↑i : Int).toNat < 0) then true else decide (Q (↑i : Int).toNat ≥ (↑nb : Int)) then true else bif decide ((↑i : Int) > 0) then decide (Q ((↑i : Int) - 1).toNat ≥ Q (↑i : Int).toNat) else false)),
  (AG (!bif bif decide (Q (↑i : Int).toNat < 0) then true else decide (Q (↑i : Int).toNat ≥ (↑nb : Int)) then true else bif decide ((↑i : Int) > 0) then decide (Q ((↑i : Int) - 1).toNat ≥ Q (↑i : Int).toNat) else false)),
  (AG (!bif bif decide (Q (↑i : Int).toNat < 0) then true else decide (Q (↑i : Int).toNat ≥ (↑nb : Int)) then true else bif decide ((↑i : Int) > 0) then decide (Q ((↑i : Int) - 1).toNat ≥ Q (↑i : Int).toNat) else false)),
  (AG (!bif bif decide (Q (↑i : Int).toNat < 0) then true else decide (Q (↑i : Int).toNat ≥ (↑nb : Int)) then true else bif decide ((↑i : Int) > 0) then decide (Q ((↑i : Int) - 1).toNat ≥ Q (↑i : Int).toNat) else false)),
  (AG ((!bif bif decide (Q (↑i : Int).toNat < 0) then true else decide (Q (↑i : Int).toNat ≥ (↑nb : Int)) then true else bif decide ((↑i : Int) > 0) then decide (Q ((↑i : Int) - 1).toNat ≥ Q (↑i : Int).toNat) else false) && T i != (g (Q i).toNat).1)),
  ((((!bif bif decide (Q (↑i : Int).toNat < 0) then true else decide (Q (↑i : Int).toNat ≥ (↑nb : Int)) then true else bif decide ((↑i : Int) > 0) then decide (Q ((↑i : Int) - 1).toNat ≥ Q (↑i : Int).toNat) else false) && T i != (g (Q i).toNat).1) = true) → ((0 : Nat) < 1)),
  (AG ((!bif bif decide (Q (↑i : Int).toNat < 0) then true else decide (Q (↑i : Int).toNat ≥ (↑nb : Int)) then true else bif decide ((↑i : Int) > 0) then decide (Q ((↑i : Int) - 1).toNat ≥ Q (↑i : Int).toNat) else false) && T i != (g (Q i).toNat).1)),
  (AG ((!bif bif decide (Q (↑i : Int).toNat < 0) then true else decide (Q (↑i : Int).toNat ≥ (↑nb : Int)) then true else bif decide ((↑i : Int) > 0) then decide (Q ((↑i : Int) - 1).toNat ≥ Q (↑i : Int).toNat) else false) && T i != (g (Q i).toNat).1)),
  ((((!bif bif decide (Q (↑i : Int).toNat < 0) then true else decide (Q (↑i : Int).toNat ≥ (↑nb : Int)) then true else bif decide ((↑i : Int) > 0) then decide (Q ((↑i : Int) - 1).toNat ≥ Q (↑i : Int).toNat) else false) && T i != (g (Q i).toNat).1) = true) → ((0 : Int) ≤ (↑i : Int))),
  ((((!bif bif decide (Q (↑i : Int).toNat < 0) then true else decide (Q (↑i : Int).toNat ≥ (↑nb : Int)) then true else bif decide ((↑i : Int) > 0) then decide (Q ((↑i : Int) - 1).toNat ≥ Q (↑i : Int).toNat) else false) && T i != (g (Q i).toNat).1) = true) → (((↑i : Int) : Int) < (↑m : Int))),
  (AG ((!bif bif decide (Q (↑i : Int).toNat < 0) then true else decide (Q (↑i : Int).toNat ≥ (↑nb : Int)) then true else bif decide ((↑i : Int) > 0) then decide (Q ((↑i : Int) - 1).toNat ≥ Q (↑i : Int).toNat) else false) && T i != (g (Q i).toNat).1)),
  (AG ((!bif bif decide (Q (↑i : Int).toNat < 0) then true else decide (Q (↑i : Int).toNat ≥ (↑nb : Int)) then true else bif decide ((↑i : Int) > 0) then decide (Q ((↑i : Int) - 1).toNat ≥ Q (↑i : Int).toNat) else false) && T i != (g (Q i).toNat).1)),
  ((((!bif bif decide (Q (↑i : Int).toNat < 0) then true else decide (Q (↑i : Int).toNat ≥ (↑nb : Int)) then true else bif decide ((↑i : Int) > 0) then decide (Q ((↑i : Int) - 1).toNat ≥ Q (↑i : Int).toNat) else false) && T i != (g (Q i).toNat).1) = true) → ((0 : Nat) < 1)),
  (AG ((!bif bif decide (Q (↑i : Int).toNat < 0) then true else decide (Q (↑i : Int).toNat ≥ (↑nb : Int)) then true else bif decide ((↑i : Int) > 0) then decide (Q ((↑i : Int) - 1).toNat ≥ Q (↑i : Int).toNat) else false) && T i != (g (Q i).toNat).1)),
  (AG ((!bif bif decide (Q (↑i : Int).toNat < 0) then true else decide (Q (↑i : Int).toNat ≥ (↑nb : Int)) then true else bif decide ((↑i : Int) > 0) then decide (Q ((↑i : Int) - 1).toNat ≥ Q (↑i : Int).toNat) else false) && T i != (g (Q i).toNat).1)),
  ((((!bif bif decide (Q (↑i : Int).toNat < 0) then true else decide (Q (↑i : Int).toNat ≥ (↑nb : Int)) then true else bif decide ((↑i : Int) > 0) then decide (Q ((↑i : Int) - 1).toNat ≥ Q (↑i : Int).toNat) else false) && T i != (g (Q i).toNat).1) = true) → ((0 : Int) ≤ (Q i))),
  ((((!bif bif decide (Q (↑i : Int).toNat < 0) then true else decide (Q (↑i : Int).toNat ≥ (↑nb : Int)) then true else bif decide ((↑i : Int) > 0) then decide (Q ((↑i : Int) - 1).toNat ≥ Q (↑i : Int).toNat) else false) && T i != (g (Q i).toNat).1) = true) → (((Q i) : Int) < (↑nb : Int))),
  (AG ((!bif bif decide (Q (↑i : Int).toNat < 0) then true else decide (Q (↑i : Int).toNat ≥ (↑nb : Int)) then true else bif decide ((↑i : Int) > 0) then decide (Q ((↑i : Int) - 1).toNat ≥ Q (↑i : Int).toNat) else false) && T i != (g (Q i).toNat).1)),
  (AG ((!bif bif decide (Q (↑i : Int).toNat < 0) then true else decide (Q (↑i : Int).toNat ≥ (↑nb : Int)) then true else bif decide ((↑i : Int) > 0) then decide (Q ((↑i : Int) - 1).toNat ≥ Q (↑i : Int).toNat) else false) && T i != (g (Q i).toNat).1)),
  (AG ((!bif bif decide (Q (↑i : Int).toNat < 0) then true else decide (Q (↑i : Int).toNat ≥ (↑nb : Int)) then true else bif decide ((↑i : Int) > 0) then decide (Q ((↑i : Int) - 1).toNat ≥ Q (↑i : Int).toNat) else false) && T i != (g (Q i).toNat).1)),
  (AG ((!bif bif decide (Q (↑i : Int).toNat < 0) then true else decide (Q (↑i : Int).toNat ≥ (↑nb : Int)) then true else bif decide ((↑i : Int) > 0) then decide (Q ((↑i : Int) - 1).toNat ≥ Q (↑i : Int).toNat) else false) && T i != (g (Q i).toNat).1)),
  (AG (!bif bif decide (Q (↑i : Int).toNat < 0) then true else decide (Q (↑i : Int).toNat ≥ (↑nb : Int)) then true else bif decide ((↑i : Int) > 0) then decide (Q ((↑i : Int) - 1).toNat ≥ Q (↑i : Int).toNat) else false)),
  (((!bif bif decide (Q (↑i : Int).toNat < 0) then true else decide (Q (↑i : Int).toNat ≥ (↑nb : Int)) then true else bif decide ((↑i : Int) > 0) then decide (Q ((↑i : Int) - 1).toNat ≥ Q (↑i : Int).toNat) else false) = true) → (((T i != (g (Q i).toNat).1) = true) → (((!bif bif decide (Q (↑i : Int).toNat < 0) then true else decide (Q (↑i : Int).toNat ≥ (↑nb : Int)) then true else bif decide ((↑i : Int) > 0) then decide (Q ((↑i : Int) - 1).toNat ≥ Q (↑i : Int).toNat) else false) && T i != (g (Q i).toNat).1) = true))),
  (((bif bif decide (Q (↑i : Int).toNat < 0) then true else decide (Q (↑i : Int).toNat ≥ (↑nb : Int)) then true else bif decide ((↑i : Int) > 0) then decide (Q ((↑i : Int) - 1).toNat ≥ Q (↑i : Int).toNat) else false) = false) → ((!bif bif decide (Q (↑i : Int).toNat < 0) then true else decide (Q (↑i : Int).toNat ≥ (↑nb : Int)) then true else bif decide ((↑i : Int) > 0) then decide (Q ((↑i : Int) - 1).toNat ≥ Q (↑i : Int).toNat) else false) = true)),
  ((bif bif bif decide (Q (↑i : Int).toNat < 0) then true else decide (Q (↑i : Int).toNat ≥ (↑nb : Int)) then true else bif decide ((↑i : Int) > 0) then decide (Q ((↑i : Int) - 1).toNat ≥ Q (↑i : Int).toNat) else false then true else bif T i != (g (Q i).toNat).1 then T i != (g (Q i).toNat).2.1 else false) = false),
  (((-9223372036854775808) : Int) ≤ ((↑i : Int) + 1)),
  ((((↑i : Int) + 1) : Int) ≤ 9223372036854775807),
  (AI ((↑N : Int))),
  (AN nb),
  (AP nb (fun i_1 => [.int .i64 ((g i_1).1), .int .i64 ((g i_1).2.1)])),
  (AI ((↑k : Int))),
  (AN N),
  (AP N (fun i_1 => [.int .i64 (F i_1)])),
  (AN m),
  (AP m (fun i_1 => [.int .i64 (T i_1)])),
  (AN m),
  (AP m (fun i_1 => [.int .i64 (Q i_1)])),
  (AN 0),
  (AN 0),
  ((((↑i : Int) + 1) : Int) = (↑(i + 1) : Int)),
  (AN 2),
  ((1 : Nat) ≤ 1),
  ((1 : Nat) ≤ 1),
  (AI ((↑N : Int))),
  (AN nb),
  (AP nb (fun i_1 => [.int .i64 ((g i_1).1), .int .i64 ((g i_1).2.1)])),
  (AN 3),
  ((1 : Nat) ≤ 1),
  ((1 : Nat) ≤ 1),
  (AN N),
  (AP N (fun i_1 => [.int .i64 (F i_1)])),
  (AN m),
  (AP m (fun i_1 => [.int .i64 (T i_1)])),
  (AN m),
  (AP m (fun i_1 => [.int .i64 (Q i_1)]))]) := by kernel_rfl
theorem nI01 (g : Nat → T_Bar) (nb N k m : Nat) (F T Q : Nat → Int) (i : Nat) :
    pieceOb Try.prog 0 [.reg [oT, oT, oT, oT, oT], .dec false, .reg [oT], .head] [.code (cAt (bodyOf Try.f160) [1, 1, 0, 1, 0, 0]), .inLoop (cAt (bodyOf Try.f160) [1, 1, 0, 1, 0, 0]), .inBlock 0, .code (cAt (bodyOf Try.f160) [1, 1, 1])] (SI0 g nb N k m F T Q i) [0, 1] 1 (SI1 g nb N k m F T Q 0) =
    some ([.code (cAt (bodyOf Try.f160) [1, 1, 1, 0, 1, 0, 0]), .inLoop (cAt (bodyOf Try.f160) [1, 1, 1, 0, 1, 0, 0]), .inBlock 2, .code (cAt (bodyOf Try.f160) [1, 1, 1, 1])], [((0 : Nat) < 1),
  ((decide ((↑i : Int) < (↑m : Int))) = false),
  (AI ((↑N : Int))),
  (AN nb),
  (AP nb (fun i_1 => [.int .i64 ((g i_1).1), .int .i64 ((g i_1).2.1)])),
  (AI ((↑k : Int))),
  (AN N),
  (AP N (fun i_1 => [.int .i64 (F i_1)])),
  (AN m),
  (AP m (fun i_1 => [.int .i64 (T i_1)])),
  (AN m),
  (AP m (fun i_1 => [.int .i64 (Q i_1)])),
  (AN 0),
  (AN 0),
  ((0 : Int) = (↑0 : Int)),
  (AN 2),
  ((1 : Nat) ≤ 1),
  ((1 : Nat) ≤ 1),
  (AI ((↑N : Int))),
  (AN nb),
  (AP nb (fun i_1 => [.int .i64 ((g i_1).1), .int .i64 ((g i_1).2.1)])),
  (AN 3),
  ((1 : Nat) ≤ 1),
  ((1 : Nat) ≤ 1),
  (AN N),
  (AP N (fun i_1 => [.int .i64 (F i_1)])),
  (AN m),
  (AP m (fun i_1 => [.int .i64 (T i_1)])),
  (AN m),
  (AP m (fun i_1 => [.int .i64 (Q i_1)]))]) := by kernel_rfl
theorem nI1 (g : Nat → T_Bar) (nb N k m : Nat) (F T Q : Nat → Int) (i : Nat) :
    pieceOb Try.prog 0 [.reg [oT, oT, oT, oT], .dec true, .reg [oT, oT, oT, oT, oT, oT, oT, oT, oT, oT, oT, oT, oT, oT, ⟨true, (some ⟨[], [], [], 1, [], .p (.int .i64 (tcI T m i))⟩), none⟩, oT, oT, oT, oT], .dec false, .reg [oT, oT, oT], .head] [.code (cAt (bodyOf Try.f160) [1, 1, 1, 0, 1, 0, 0]), .inLoop (cAt (bodyOf Try.f160) [1, 1, 1, 0, 1, 0, 0]), .inBlock 2, .code (cAt (bodyOf Try.f160) [1, 1, 1, 1])] (SI1 g nb N k m F T Q i) [0, 1] 1 (SI1 g nb N k m F T Q (i + 1)) =
    some ([.code (cAt (bodyOf Try.f160) [1, 1, 1, 0, 1, 0, 0]), .inLoop (cAt (bodyOf Try.f160) [1, 1, 1, 0, 1, 0, 0]), .inBlock 2, .code (cAt (bodyOf Try.f160) [1, 1, 1, 1])], [((0 : Nat) < 1),
  ((decide ((↑i : Int) < (↑N : Int))) = true),
  ((0 : Nat) < 1),
  ((0 : Int) ≤ (↑i : Int)),
  (((↑i : Int) : Int) < (↑N : Int)),
  (AG (!decide (F (↑i : Int).toNat < 0))),
  (((!decide (F (↑i : Int).toNat < 0)) = true) → ((0 : Nat) < 1)),
  (AG (!decide (F (↑i : Int).toNat < 0))),
  (AG (!decide (F (↑i : Int).toNat < 0))),
  (((!decide (F (↑i : Int).toNat < 0)) = true) → ((0 : Int) ≤ (↑i : Int))),
  (((!decide (F (↑i : Int).toNat < 0)) = true) → (((↑i : Int) : Int) < (↑N : Int))),
  (AG (!decide (F (↑i : Int).toNat < 0))),
  (((!decide (F (↑i : Int).toNat < 0)) = true) → ((0 : Nat) < 1)),
  (AG (!decide (F (↑i : Int).toNat < 0))),
  (AG (!decide (F (↑i : Int).toNat < 0))),
  (((!decide (F (↑i : Int).toNat < 0)) = true) → Con Try.prog 179 0 [] [.agg [.p (.seq true 1 N (fun i_1 => [.int .i64 (F i_1)])), .p (.seq true 1 m (fun i_1 => [.int .i64 (T i_1)])), .p (.seq true 1 m (fun i_1 => [.int .i64 (Q i_1)]))], .p (.int .i64 (↑i : Int))] [] (.p (.int .i64 (tcI T m (↑i : Int))))),
  (AG (!decide (F (↑i : Int).toNat < 0))),
  (AG (!decide (F (↑i : Int).toNat < 0))),
  (((!decide (F (↑i : Int).toNat < 0)) = true) → (((-9223372036854775808) : Int) ≤ (F i + tcI T m (↑i : Int)))),
  (((!decide (F (↑i : Int).toNat < 0)) = true) → (((F i + tcI T m (↑i : Int)) : Int) ≤ 9223372036854775807)),
  (AG (!decide (F (↑i : Int).toNat < 0))),
  (AG (!decide (F (↑i : Int).toNat < 0))),
  (((decide (F (↑i : Int).toNat < 0)) = false) → ((!decide (F (↑i : Int).toNat < 0)) = true)),
  ((bif decide (F (↑i : Int).toNat < 0) then true else F i + tcI T m (↑i : Int) != (↑k : Int)) = false),
  (((-9223372036854775808) : Int) ≤ ((↑i : Int) + 1)),
  ((((↑i : Int) + 1) : Int) ≤ 9223372036854775807),
  (AI ((↑N : Int))),
  (AN nb),
  (AP nb (fun i_1 => [.int .i64 ((g i_1).1), .int .i64 ((g i_1).2.1)])),
  (AI ((↑k : Int))),
  (AN N),
  (AP N (fun i_1 => [.int .i64 (F i_1)])),
  (AN m),
  (AP m (fun i_1 => [.int .i64 (T i_1)])),
  (AN m),
  (AP m (fun i_1 => [.int .i64 (Q i_1)])),
  (AN 0),
  (AN 0),
  ((((↑i : Int) + 1) : Int) = (↑(i + 1) : Int)),
  (AN 2),
  ((1 : Nat) ≤ 1),
  ((1 : Nat) ≤ 1),
  (AI ((↑N : Int))),
  (AN nb),
  (AP nb (fun i_1 => [.int .i64 ((g i_1).1), .int .i64 ((g i_1).2.1)])),
  (AN 3),
  ((1 : Nat) ≤ 1),
  ((1 : Nat) ≤ 1),
  (AN N),
  (AP N (fun i_1 => [.int .i64 (F i_1)])),
  (AN m),
  (AP m (fun i_1 => [.int .i64 (T i_1)])),
  (AN m),
  (AP m (fun i_1 => [.int .i64 (Q i_1)]))]) := by kernel_rfl
theorem nIe (g : Nat → T_Bar) (nb N k m : Nat) (F T Q : Nat → Int) (i : Nat) :
    pathOb Try.prog Try.f160 0 [.reg [oT, oT, oT, oT], .dec false, .reg [oT]] [.code (cAt (bodyOf Try.f160) [1, 1, 1, 0, 1, 0, 0]), .inLoop (cAt (bodyOf Try.f160) [1, 1, 1, 0, 1, 0, 0]), .inBlock 2, .code (cAt (bodyOf Try.f160) [1, 1, 1, 1])] (SI1 g nb N k m F T Q i) [] 1 [] (.p (.bool true)) =
    some [((0 : Nat) < 1),
  ((decide ((↑i : Int) < (↑N : Int))) = false),
  (true = true)] := by kernel_rfl
theorem nPf (g : Nat → T_Bar) (nb N k l m e : Nat) (F T Q F1 T1 : Nat → Int) :
    pathOb Try.prog Try.f145 0 [.reg [oT, oT, oT, oT], .reg [oT, oT, oT, ⟨true, (some ⟨[], [], [], 1, [], .p (.bool true)⟩), none⟩, oT, oT, oT, oT, ⟨true, (some ⟨[], [], [], 1, [], .p (.bool true)⟩), none⟩, oT, oT, oT, oT, oT, oT, oT, oT, oT, oT, oT, oT, oT, oT, oT, oT, oT, oT, oT, oT, oT, oT, oT, oT, oT, oT, oT, oT, oT, oT, oT], .dec false, .reg [oT, oT, oT, oT, oT, oT, oT], .reg [oT, oT, oT, oT, oT, oT, oT, oT, ⟨true, (some ⟨[], [], [], 1, pebR N m F1 T1 Q, .tup [pebO N m 0, .p (.bool false)]⟩), none⟩, oT, oT, oT, oT, oT, oT], .reg [oT, oT], .dec true, .reg [oT, ⟨true, (some ⟨[], [], [], 1, pebR N m F T Q, pebO N m 0⟩), none⟩, oT, oT]] [.code (bodyOf Try.f145)] (start Try.f145 [] 0 [grG g nb N, .p (.int .i64 k), .p (.int .i64 l), pebD N m F T Q, .p (.int .i64 e)]) [2208, 2209, 2210] 1 (pebR N m F T Q) (.tup [pebO N m 0, .p (.bool false)]) =
    some [((0 : Nat) < 1),
  ((0 : Nat) < 1),
  Con Try.prog 160 0 [] [.agg [.p (.int .i64 (↑N : Int)), .p (.seq true 2 nb (fun i => [.int .i64 ((g i).1), .int .i64 ((g i).2.1)]))], .p (.int .i64 (↑k : Int)), .agg [.p (.seq true 1 N (fun i => [.int .i64 (F i)])), .p (.seq true 1 m (fun i => [.int .i64 (T i)])), .p (.seq true 1 m (fun i => [.int .i64 (Q i)]))]] [] (.p (.bool true)),
  (AG (!!true)),
  (AG (!!true)),
  (((!!true) = true) → Con Try.prog 119 0 [] [.p (.int .i64 (↑k : Int)), .p (.int .i64 (↑l : Int))] [] (.p (.bool true))),
  (AG (!!true)),
  (((!true) = false) → ((!!true) = true)),
  (AG (!bif !true then true else !true)),
  (((bif !true then true else !true) = false) → ((!bif !true then true else !true) = true)),
  (AG (!bif bif !true then true else !true then true else decide ((↑e : Int) < 0))),
  (((!bif bif !true then true else !true then true else decide ((↑e : Int) < 0)) = true) → ((0 : Nat) < 1)),
  (AG (!bif bif !true then true else !true then true else decide ((↑e : Int) < 0))),
  (AG (!bif bif !true then true else !true then true else decide ((↑e : Int) < 0))),
  (AG (!bif bif !true then true else !true then true else decide ((↑e : Int) < 0))),
  (((bif bif !true then true else !true then true else decide ((↑e : Int) < 0)) = false) → ((!bif bif !true then true else !true then true else decide ((↑e : Int) < 0)) = true)),
  (AG (!bif bif bif !true then true else !true then true else decide ((↑e : Int) < 0) then true else decide ((↑e : Int) ≥ (↑nb : Int)))),
  (((!bif bif bif !true then true else !true then true else decide ((↑e : Int) < 0) then true else decide ((↑e : Int) ≥ (↑nb : Int))) = true) → ((0 : Nat) < 1)),
  (AG (!bif bif bif !true then true else !true then true else decide ((↑e : Int) < 0) then true else decide ((↑e : Int) ≥ (↑nb : Int)))),
  (AG (!bif bif bif !true then true else !true then true else decide ((↑e : Int) < 0) then true else decide ((↑e : Int) ≥ (↑nb : Int)))),
  (AG (!bif bif bif !true then true else !true then true else decide ((↑e : Int) < 0) then true else decide ((↑e : Int) ≥ (↑nb : Int)))),
  (AG ((!bif bif bif !true then true else !true then true else decide ((↑e : Int) < 0) then true else decide ((↑e : Int) ≥ (↑nb : Int))) && decide ((↑m : Int) > 0))),
  ((((!bif bif bif !true then true else !true then true else decide ((↑e : Int) < 0) then true else decide ((↑e : Int) ≥ (↑nb : Int))) && decide ((↑m : Int) > 0)) = true) → ((0 : Nat) < 1)),
  (AG ((!bif bif bif !true then true else !true then true else decide ((↑e : Int) < 0) then true else decide ((↑e : Int) ≥ (↑nb : Int))) && decide ((↑m : Int) > 0))),
  ((((!bif bif bif !true then true else !true then true else decide ((↑e : Int) < 0) then true else decide ((↑e : Int) ≥ (↑nb : Int))) && decide ((↑m : Int) > 0)) = true) → ((0 : Nat) < 1)),
  (AG ((!bif bif bif !true then true else !true then true else decide ((↑e : Int) < 0) then true else decide ((↑e : Int) ≥ (↑nb : Int))) && decide ((↑m : Int) > 0))),
  (AG ((!bif bif bif !true then true else !true then true else decide ((↑e : Int) < 0) then true else decide ((↑e : Int) ≥ (↑nb : Int))) && decide ((↑m : Int) > 0))),
  ((((!bif bif bif !true then true else !true then true else decide ((↑e : Int) < 0) then true else decide ((↑e : Int) ≥ (↑nb : Int))) && decide ((↑m : Int) > 0)) = true) → (((-9223372036854775808) : Int) ≤ ((↑m : Int) - 1))),
  ((((!bif bif bif !true then true else !true then true else decide ((↑e : Int) < 0) then true else decide ((↑e : Int) ≥ (↑nb : Int))) && decide ((↑m : Int) > 0)) = true) → ((((↑m : Int) - 1) : Int) ≤ 9223372036854775807)),
  (AG ((!bif bif bif !true then true else !true then true else decide ((↑e : Int) < 0) then true else decide ((↑e : Int) ≥ (↑nb : Int))) && decide ((↑m : Int) > 0))),
  (AG ((!bif bif bif !true then true else !true then true else decide ((↑e : Int) < 0) then true else decide ((↑e : Int) ≥ (↑nb : Int))) && decide ((↑m : Int) > 0))),
  ((((!bif bif bif !true then true else !true then true else decide ((↑e : Int) < 0) then true else decide ((↑e : Int) ≥ (↑nb : Int))) && decide ((↑m : Int) > 0)) = true) → ((0 : Int) ≤ ((↑m : Int) - 1))),
  ((((!bif bif bif !true then true else !true then true else decide ((↑e : Int) < 0) then true else decide ((↑e : Int) ≥ (↑nb : Int))) && decide ((↑m : Int) > 0)) = true) → ((((↑m : Int) - 1) : Int) < (↑m : Int))),
  (AG ((!bif bif bif !true then true else !true then true else decide ((↑e : Int) < 0) then true else decide ((↑e : Int) ≥ (↑nb : Int))) && decide ((↑m : Int) > 0))),
  (AG ((!bif bif bif !true then true else !true then true else decide ((↑e : Int) < 0) then true else decide ((↑e : Int) ≥ (↑nb : Int))) && decide ((↑m : Int) > 0))),
  (AG ((!bif bif bif !true then true else !true then true else decide ((↑e : Int) < 0) then true else decide ((↑e : Int) ≥ (↑nb : Int))) && decide ((↑m : Int) > 0))),
  (AG (!bif bif bif !true then true else !true then true else decide ((↑e : Int) < 0) then true else decide ((↑e : Int) ≥ (↑nb : Int)))),
  (((!bif bif bif !true then true else !true then true else decide ((↑e : Int) < 0) then true else decide ((↑e : Int) ≥ (↑nb : Int))) = true) → (((decide ((↑m : Int) > 0)) = true) → (((!bif bif bif !true then true else !true then true else decide ((↑e : Int) < 0) then true else decide ((↑e : Int) ≥ (↑nb : Int))) && decide ((↑m : Int) > 0)) = true))),
  (((bif bif bif !true then true else !true then true else decide ((↑e : Int) < 0) then true else decide ((↑e : Int) ≥ (↑nb : Int))) = false) → ((!bif bif bif !true then true else !true then true else decide ((↑e : Int) < 0) then true else decide ((↑e : Int) ≥ (↑nb : Int))) = true)),
  ((bif bif bif bif !true then true else !true then true else decide ((↑e : Int) < 0) then true else decide ((↑e : Int) ≥ (↑nb : Int)) then true else bif decide ((↑m : Int) > 0) then decide (Q ((↑m : Int) - 1).toNat ≥ (↑e : Int)) else false) = false),
  ((0 : Nat) < 1),
  ((0 : Int) ≤ (↑e : Int)),
  (((↑e : Int) : Int) < (↑nb : Int)),
  ((0 : Nat) < 1),
  ((true = true) → (AN 1)),
  ((0 : Nat) < 1),
  ((0 : Nat) < 1),
  ((0 : Nat) < 1),
  ((0 : Nat) < 1),
  (((-9223372036854775808) : Int) ≤ ((↑l : Int) + 1)),
  ((((↑l : Int) + 1) : Int) ≤ 9223372036854775807),
  Con Try.prog 162 0 [] [.agg [.p (.int .i64 (↑N : Int)), .p (.seq true 2 nb (fun i => [.int .i64 ((g i).1), .int .i64 ((g i).2.1)]))], .agg [.p (.seq true 1 N (fun i => [.int .i64 (F i)])), .p (.seq true 1 m (fun i => [.int .i64 (T i)])), .p (.seq true 1 m (fun i => [.int .i64 (Q i)]))], .p (.int .i64 ((g e).1)), .p (.int .i64 ((g e).2.1)), .p (.int .i64 ((↑l : Int) + 1))] [(0, ⟨false, 1, N, (fun i => [.p (.int .i64 (F1 i))])⟩), (1, ⟨false, 1, m, (fun i => [.p (.int .i64 (T1 i))])⟩), (2, ⟨false, 1, m, (fun i => [.p (.int .i64 (Q i))])⟩)] (.tup [.agg [.ar 1 0 0 N, .ar 1 1 0 m, .ar 1 2 0 m], .p (.bool false)]),
  ((0 : Nat) < 1),
  ((true = true) → (AN 1)),
  ((!false) = true),
  ((0 : Nat) < 1),
  Con Try.prog 161 0 [] [.agg [.p (.seq true 1 N (fun i => [.int .i64 (F i)])), .p (.seq true 1 m (fun i => [.int .i64 (T i)])), .p (.seq true 1 m (fun i => [.int .i64 (Q i)]))]] [(0, ⟨false, 1, N, (fun i => [.p (.int .i64 (F i))])⟩), (1, ⟨false, 1, m, (fun i => [.p (.int .i64 (T i))])⟩), (2, ⟨false, 1, m, (fun i => [.p (.int .i64 (Q i))])⟩)] (.agg [.ar 1 0 0 N, .ar 1 1 0 m, .ar 1 2 0 m]),
  ((0 : Nat) < 1),
  ((true = true) → (AN 1)),
  ((0 : Nat) < 1),
  (AN 0),
  (AN N),
  (AN 0),
  (AN m),
  (AN 0),
  (AN m),
  (false = false),
  (AN 1),
  ((N : Nat) ≤ N),
  (AA N (fun i => [.p (.int .i64 (F i))])),
  (AN 1),
  ((m : Nat) ≤ m),
  (AA m (fun i => [.p (.int .i64 (T i))])),
  (AN 1),
  ((m : Nat) ≤ m),
  (AA m (fun i => [.p (.int .i64 (Q i))])),
  (AE N),
  (AE m),
  (AE m)] := by kernel_rfl
theorem nPa (g : Nat → T_Bar) (nb N k l m e : Nat) (F T Q F1 T1 : Nat → Int) :
    pathOb Try.prog Try.f145 0 [.reg [oT, oT, oT, oT], .reg [oT, oT, oT, ⟨true, (some ⟨[], [], [], 1, [], .p (.bool true)⟩), none⟩, oT, oT, oT, oT, ⟨true, (some ⟨[], [], [], 1, [], .p (.bool true)⟩), none⟩, oT, oT, oT, oT, oT, oT, oT, oT, oT, oT, oT, oT, oT, oT, oT, oT, oT, oT, oT, oT, oT, oT, oT, oT, oT, oT, oT, oT, oT, oT, oT], .dec false, .reg [oT, oT, oT, oT, oT, oT, oT], .reg [oT, oT, oT, oT, oT, oT, oT, oT, ⟨true, (some ⟨[], [], [], 1, pebR N m F1 T1 Q, .tup [pebO N m 0, .p (.bool true)]⟩), none⟩, oT, oT, oT, oT, oT, oT], .reg [oT, oT], .dec false, .reg [oT, oT, oT], .reg [oT, oT, oT, oT, oT, oT, oT], .dec false, .reg [oT, oT, oT, oT, oT, oT, oT, oT, oT, oT, oT], .reg [oT, oT, oT, oT, oT, oT, oT], .reg [oT, oT, oT, oT, oT, oT, oT], .reg [oT, oT, oT]] [.code (bodyOf Try.f145)] (start Try.f145 [] 0 [grG g nb N, .p (.int .i64 k), .p (.int .i64 l), pebD N m F T Q, .p (.int .i64 e)]) [1888, 2976, 3200] 1 (pebR N (m + 1) (fun s => if s = (g e).1.toNat then F1 s - 1 else F1 s) (fun s => if s < m then T1 s else (g e).1) (fun s => if s < m then Q s else e)) (.tup [pebO N (m + 1) 0, .p (.bool true)]) =
    some [((0 : Nat) < 1),
  ((0 : Nat) < 1),
  Con Try.prog 160 0 [] [.agg [.p (.int .i64 (↑N : Int)), .p (.seq true 2 nb (fun i => [.int .i64 ((g i).1), .int .i64 ((g i).2.1)]))], .p (.int .i64 (↑k : Int)), .agg [.p (.seq true 1 N (fun i => [.int .i64 (F i)])), .p (.seq true 1 m (fun i => [.int .i64 (T i)])), .p (.seq true 1 m (fun i => [.int .i64 (Q i)]))]] [] (.p (.bool true)),
  (AG (!!true)),
  (AG (!!true)),
  (((!!true) = true) → Con Try.prog 119 0 [] [.p (.int .i64 (↑k : Int)), .p (.int .i64 (↑l : Int))] [] (.p (.bool true))),
  (AG (!!true)),
  (((!true) = false) → ((!!true) = true)),
  (AG (!bif !true then true else !true)),
  (((bif !true then true else !true) = false) → ((!bif !true then true else !true) = true)),
  (AG (!bif bif !true then true else !true then true else decide ((↑e : Int) < 0))),
  (((!bif bif !true then true else !true then true else decide ((↑e : Int) < 0)) = true) → ((0 : Nat) < 1)),
  (AG (!bif bif !true then true else !true then true else decide ((↑e : Int) < 0))),
  (AG (!bif bif !true then true else !true then true else decide ((↑e : Int) < 0))),
  (AG (!bif bif !true then true else !true then true else decide ((↑e : Int) < 0))),
  (((bif bif !true then true else !true then true else decide ((↑e : Int) < 0)) = false) → ((!bif bif !true then true else !true then true else decide ((↑e : Int) < 0)) = true)),
  (AG (!bif bif bif !true then true else !true then true else decide ((↑e : Int) < 0) then true else decide ((↑e : Int) ≥ (↑nb : Int)))),
  (((!bif bif bif !true then true else !true then true else decide ((↑e : Int) < 0) then true else decide ((↑e : Int) ≥ (↑nb : Int))) = true) → ((0 : Nat) < 1)),
  (AG (!bif bif bif !true then true else !true then true else decide ((↑e : Int) < 0) then true else decide ((↑e : Int) ≥ (↑nb : Int)))),
  (AG (!bif bif bif !true then true else !true then true else decide ((↑e : Int) < 0) then true else decide ((↑e : Int) ≥ (↑nb : Int)))),
  (AG (!bif bif bif !true then true else !true then true else decide ((↑e : Int) < 0) then true else decide ((↑e : Int) ≥ (↑nb : Int)))),
  (AG ((!bif bif bif !true then true else !true then true else decide ((↑e : Int) < 0) then true else decide ((↑e : Int) ≥ (↑nb : Int))) && decide ((↑m : Int) > 0))),
  ((((!bif bif bif !true then true else !true then true else decide ((↑e : Int) < 0) then true else decide ((↑e : Int) ≥ (↑nb : Int))) && decide ((↑m : Int) > 0)) = true) → ((0 : Nat) < 1)),
  (AG ((!bif bif bif !true then true else !true then true else decide ((↑e : Int) < 0) then true else decide ((↑e : Int) ≥ (↑nb : Int))) && decide ((↑m : Int) > 0))),
  ((((!bif bif bif !true then true else !true then true else decide ((↑e : Int) < 0) then true else decide ((↑e : Int) ≥ (↑nb : Int))) && decide ((↑m : Int) > 0)) = true) → ((0 : Nat) < 1)),
  (AG ((!bif bif bif !true then true else !true then true else decide ((↑e : Int) < 0) then true else decide ((↑e : Int) ≥ (↑nb : Int))) && decide ((↑m : Int) > 0))),
  (AG ((!bif bif bif !true then true else !true then true else decide ((↑e : Int) < 0) then true else decide ((↑e : Int) ≥ (↑nb : Int))) && decide ((↑m : Int) > 0))),
  ((((!bif bif bif !true then true else !true then true else decide ((↑e : Int) < 0) then true else decide ((↑e : Int) ≥ (↑nb : Int))) && decide ((↑m : Int) > 0)) = true) → (((-9223372036854775808) : Int) ≤ ((↑m : Int) - 1))),
  ((((!bif bif bif !true then true else !true then true else decide ((↑e : Int) < 0) then true else decide ((↑e : Int) ≥ (↑nb : Int))) && decide ((↑m : Int) > 0)) = true) → ((((↑m : Int) - 1) : Int) ≤ 9223372036854775807)),
  (AG ((!bif bif bif !true then true else !true then true else decide ((↑e : Int) < 0) then true else decide ((↑e : Int) ≥ (↑nb : Int))) && decide ((↑m : Int) > 0))),
  (AG ((!bif bif bif !true then true else !true then true else decide ((↑e : Int) < 0) then true else decide ((↑e : Int) ≥ (↑nb : Int))) && decide ((↑m : Int) > 0))),
  ((((!bif bif bif !true then true else !true then true else decide ((↑e : Int) < 0) then true else decide ((↑e : Int) ≥ (↑nb : Int))) && decide ((↑m : Int) > 0)) = true) → ((0 : Int) ≤ ((↑m : Int) - 1))),
  ((((!bif bif bif !true then true else !true then true else decide ((↑e : Int) < 0) then true else decide ((↑e : Int) ≥ (↑nb : Int))) && decide ((↑m : Int) > 0)) = true) → ((((↑m : Int) - 1) : Int) < (↑m : Int))),
  (AG ((!bif bif bif !true then true else !true then true else decide ((↑e : Int) < 0) then true else decide ((↑e : Int) ≥ (↑nb : Int))) && decide ((↑m : Int) > 0))),
  (AG ((!bif bif bif !true then true else !true then true else decide ((↑e : Int) < 0) then true else decide ((↑e : Int) ≥ (↑nb : Int))) && decide ((↑m : Int) > 0))),
  (AG ((!bif bif bif !true then true else !true then true else decide ((↑e : Int) < 0) then true else decide ((↑e : Int) ≥ (↑nb : Int))) && decide ((↑m : Int) > 0))),
  (AG (!bif bif bif !true then true else !true then true else decide ((↑e : Int) < 0) then true else decide ((↑e : Int) ≥ (↑nb : Int)))),
  (((!bif bif bif !true then true else !true then true else decide ((↑e : Int) < 0) then true else decide ((↑e : Int) ≥ (↑nb : Int))) = true) → (((decide ((↑m : Int) > 0)) = true) → (((!bif bif bif !true then true else !true then true else decide ((↑e : Int) < 0) then true else decide ((↑e : Int) ≥ (↑nb : Int))) && decide ((↑m : Int) > 0)) = true))),
  (((bif bif bif !true then true else !true then true else decide ((↑e : Int) < 0) then true else decide ((↑e : Int) ≥ (↑nb : Int))) = false) → ((!bif bif bif !true then true else !true then true else decide ((↑e : Int) < 0) then true else decide ((↑e : Int) ≥ (↑nb : Int))) = true)),
  ((bif bif bif bif !true then true else !true then true else decide ((↑e : Int) < 0) then true else decide ((↑e : Int) ≥ (↑nb : Int)) then true else bif decide ((↑m : Int) > 0) then decide (Q ((↑m : Int) - 1).toNat ≥ (↑e : Int)) else false) = false),
  ((0 : Nat) < 1),
  ((0 : Int) ≤ (↑e : Int)),
  (((↑e : Int) : Int) < (↑nb : Int)),
  ((0 : Nat) < 1),
  ((true = true) → (AN 1)),
  ((0 : Nat) < 1),
  ((0 : Nat) < 1),
  ((0 : Nat) < 1),
  ((0 : Nat) < 1),
  (((-9223372036854775808) : Int) ≤ ((↑l : Int) + 1)),
  ((((↑l : Int) + 1) : Int) ≤ 9223372036854775807),
  Con Try.prog 162 0 [] [.agg [.p (.int .i64 (↑N : Int)), .p (.seq true 2 nb (fun i => [.int .i64 ((g i).1), .int .i64 ((g i).2.1)]))], .agg [.p (.seq true 1 N (fun i => [.int .i64 (F i)])), .p (.seq true 1 m (fun i => [.int .i64 (T i)])), .p (.seq true 1 m (fun i => [.int .i64 (Q i)]))], .p (.int .i64 ((g e).1)), .p (.int .i64 ((g e).2.1)), .p (.int .i64 ((↑l : Int) + 1))] [(0, ⟨false, 1, N, (fun i => [.p (.int .i64 (F1 i))])⟩), (1, ⟨false, 1, m, (fun i => [.p (.int .i64 (T1 i))])⟩), (2, ⟨false, 1, m, (fun i => [.p (.int .i64 (Q i))])⟩)] (.tup [.agg [.ar 1 0 0 N, .ar 1 1 0 m, .ar 1 2 0 m], .p (.bool true)]),
  ((0 : Nat) < 1),
  ((true = true) → (AN 1)),
  ((!true) = false),
  ((0 : Nat) < 1),
  ((0 : Nat) < 1),
  ((0 : Nat) < 1),
  ((0 : Int) ≤ ((g e).1)),
  ((((g e).1) : Int) < (↑N : Int)),
  ((((g e).1.toNat) : Nat) < N),
  ((F1 (g e).1.toNat == 0) = false),
  ((0 : Nat) < 1),
  ((0 : Nat) < 1),
  ((0 : Int) ≤ ((g e).1)),
  ((((g e).1) : Int) < (↑N : Int)),
  ((((g e).1.toNat) : Nat) < N),
  (((-9223372036854775808) : Int) ≤ (F1 (g e).1.toNat - 1)),
  (((F1 (g e).1.toNat - 1) : Int) ≤ 9223372036854775807),
  ((0 : Int) ≤ ((g e).1)),
  ((((g e).1) : Int) < (↑N : Int)),
  ((((g e).1.toNat) : Nat) < N),
  ((false = true) → ((N : Nat) = 1)),
  ((0 : Nat) < 1),
  ((1 : Nat) ≤ 1),
  ((m : Nat) ≤ m),
  ((((m + 1) * 8) : Nat) ≤ 140737488355328),
  (((m + 1) : Nat) ≤ 9223372036854775807),
  ((0 : Nat) < 1),
  ((true = true) → (AN 1)),
  ((0 : Nat) < 1),
  ((1 : Nat) ≤ 1),
  ((m : Nat) ≤ m),
  ((((m + 1) * 8) : Nat) ≤ 140737488355328),
  (((m + 1) : Nat) ≤ 9223372036854775807),
  ((0 : Nat) < 1),
  ((true = true) → (AN 1)),
  ((0 : Nat) < 1),
  ((0 : Nat) < 1),
  ((true = true) → (AN 1)),
  ((0 : Nat) < 1),
  (AN 0),
  (AN N),
  (AN 0),
  (AN ((m + 1))),
  (AN 0),
  (AN ((m + 1))),
  (true = true),
  (AN 1),
  ((N : Nat) ≤ N),
  (∀ i : Nat, (((i : Nat) < N) → (All (cvtL false [(64, ⟨true, 3, 1, (fun i_1 => [.ar 1 1888 0 N, .ar 1 2976 0 (m + 1), .ar 1 3200 0 (m + 1)])⟩), (2016, ⟨true, 3, 1, (fun i_1 => [.ar 1 1888 0 N, .ar 1 2976 0 (m + 1), .ar 1 3200 0 (m + 1)])⟩), (3200, ⟨false, 1, (m + 1), (fun i_1 => (if (i_1 < m) then [.p (.int .i64 (Q i_1))] else [.p (.int .i64 (↑e : Int))]))⟩), (3168, ⟨false, 1, 1, (fun i_1 => [.p (.int .i64 (↑e : Int))])⟩), (2976, ⟨false, 1, (m + 1), (fun i_1 => (if (i_1 < m) then [.p (.int .i64 (T1 i_1))] else [.p (.int .i64 ((g e).1))]))⟩), (2944, ⟨false, 1, 1, (fun i_1 => [.p (.int .i64 ((g e).1))])⟩), (1888, ⟨false, 1, N, (fun i_1 => (if (i_1 = (g e).1.toNat) then [.p (.int .i64 (F1 (g e).1.toNat - 1))] else [.p (.int .i64 (F1 i_1))]))⟩), (1568, ⟨true, 2, 1, (fun i_1 => [.p (.int .i64 ((g e).1)), .p (.int .i64 ((g e).2.1))])⟩), (32, ⟨true, 3, 1, (fun i_1 => [.p (.seq true 1 N (fun i_2 => [.int .i64 (F i_2)])), .p (.seq true 1 m (fun i_2 => [.int .i64 (T i_2)])), .p (.seq true 1 m (fun i_2 => [.int .i64 (Q i_2)]))])⟩), (0, ⟨true, 2, 1, (fun i_1 => [.p (.int .i64 (↑N : Int)), .p (.seq true 2 nb (fun i_2 => [.int .i64 ((g i_2).1), .int .i64 ((g i_2).2.1)]))])⟩)] [1888, 2976, 3200] 1 (if (i = (g e).1.toNat) then [.p (.int .i64 (F1 (g e).1.toNat - 1))] else [.p (.int .i64 (F1 i))])).2 ∧ (((cvtL false [(64, ⟨true, 3, 1, (fun i_1 => [.ar 1 1888 0 N, .ar 1 2976 0 (m + 1), .ar 1 3200 0 (m + 1)])⟩), (2016, ⟨true, 3, 1, (fun i_1 => [.ar 1 1888 0 N, .ar 1 2976 0 (m + 1), .ar 1 3200 0 (m + 1)])⟩), (3200, ⟨false, 1, (m + 1), (fun i_1 => (if (i_1 < m) then [.p (.int .i64 (Q i_1))] else [.p (.int .i64 (↑e : Int))]))⟩), (3168, ⟨false, 1, 1, (fun i_1 => [.p (.int .i64 (↑e : Int))])⟩), (2976, ⟨false, 1, (m + 1), (fun i_1 => (if (i_1 < m) then [.p (.int .i64 (T1 i_1))] else [.p (.int .i64 ((g e).1))]))⟩), (2944, ⟨false, 1, 1, (fun i_1 => [.p (.int .i64 ((g e).1))])⟩), (1888, ⟨false, 1, N, (fun i_1 => (if (i_1 = (g e).1.toNat) then [.p (.int .i64 (F1 (g e).1.toNat - 1))] else [.p (.int .i64 (F1 i_1))]))⟩), (1568, ⟨true, 2, 1, (fun i_1 => [.p (.int .i64 ((g e).1)), .p (.int .i64 ((g e).2.1))])⟩), (32, ⟨true, 3, 1, (fun i_1 => [.p (.seq true 1 N (fun i_2 => [.int .i64 (F i_2)])), .p (.seq true 1 m (fun i_2 => [.int .i64 (T i_2)])), .p (.seq true 1 m (fun i_2 => [.int .i64 (Q i_2)]))])⟩), (0, ⟨true, 2, 1, (fun i_1 => [.p (.int .i64 (↑N : Int)), .p (.seq true 2 nb (fun i_2 => [.int .i64 ((g i_2).1), .int .i64 ((g i_2).2.1)]))])⟩)] [1888, 2976, 3200] 1 (if (i = (g e).1.toNat) then [.p (.int .i64 (F1 (g e).1.toNat - 1))] else [.p (.int .i64 (F1 i))])).1 : List AV) = [.p (.int .i64 (if i = (g e).1.toNat then F1 i - 1 else F1 i))])))),
  (AN 1),
  (((m + 1) : Nat) ≤ (m + 1)),
  (∀ i : Nat, (((i : Nat) < (m + 1)) → (All (cvtL false [(64, ⟨true, 3, 1, (fun i_1 => [.ar 1 1888 0 N, .ar 1 2976 0 (m + 1), .ar 1 3200 0 (m + 1)])⟩), (2016, ⟨true, 3, 1, (fun i_1 => [.ar 1 1888 0 N, .ar 1 2976 0 (m + 1), .ar 1 3200 0 (m + 1)])⟩), (3200, ⟨false, 1, (m + 1), (fun i_1 => (if (i_1 < m) then [.p (.int .i64 (Q i_1))] else [.p (.int .i64 (↑e : Int))]))⟩), (3168, ⟨false, 1, 1, (fun i_1 => [.p (.int .i64 (↑e : Int))])⟩), (2976, ⟨false, 1, (m + 1), (fun i_1 => (if (i_1 < m) then [.p (.int .i64 (T1 i_1))] else [.p (.int .i64 ((g e).1))]))⟩), (2944, ⟨false, 1, 1, (fun i_1 => [.p (.int .i64 ((g e).1))])⟩), (1888, ⟨false, 1, N, (fun i_1 => (if (i_1 = (g e).1.toNat) then [.p (.int .i64 (F1 (g e).1.toNat - 1))] else [.p (.int .i64 (F1 i_1))]))⟩), (1568, ⟨true, 2, 1, (fun i_1 => [.p (.int .i64 ((g e).1)), .p (.int .i64 ((g e).2.1))])⟩), (32, ⟨true, 3, 1, (fun i_1 => [.p (.seq true 1 N (fun i_2 => [.int .i64 (F i_2)])), .p (.seq true 1 m (fun i_2 => [.int .i64 (T i_2)])), .p (.seq true 1 m (fun i_2 => [.int .i64 (Q i_2)]))])⟩), (0, ⟨true, 2, 1, (fun i_1 => [.p (.int .i64 (↑N : Int)), .p (.seq true 2 nb (fun i_2 => [.int .i64 ((g i_2).1), .int .i64 ((g i_2).2.1)]))])⟩)] [1888, 2976, 3200] 1 (if (i < m) then [.p (.int .i64 (T1 i))] else [.p (.int .i64 ((g e).1))])).2 ∧ (((cvtL false [(64, ⟨true, 3, 1, (fun i_1 => [.ar 1 1888 0 N, .ar 1 2976 0 (m + 1), .ar 1 3200 0 (m + 1)])⟩), (2016, ⟨true, 3, 1, (fun i_1 => [.ar 1 1888 0 N, .ar 1 2976 0 (m + 1), .ar 1 3200 0 (m + 1)])⟩), (3200, ⟨false, 1, (m + 1), (fun i_1 => (if (i_1 < m) then [.p (.int .i64 (Q i_1))] else [.p (.int .i64 (↑e : Int))]))⟩), (3168, ⟨false, 1, 1, (fun i_1 => [.p (.int .i64 (↑e : Int))])⟩), (2976, ⟨false, 1, (m + 1), (fun i_1 => (if (i_1 < m) then [.p (.int .i64 (T1 i_1))] else [.p (.int .i64 ((g e).1))]))⟩), (2944, ⟨false, 1, 1, (fun i_1 => [.p (.int .i64 ((g e).1))])⟩), (1888, ⟨false, 1, N, (fun i_1 => (if (i_1 = (g e).1.toNat) then [.p (.int .i64 (F1 (g e).1.toNat - 1))] else [.p (.int .i64 (F1 i_1))]))⟩), (1568, ⟨true, 2, 1, (fun i_1 => [.p (.int .i64 ((g e).1)), .p (.int .i64 ((g e).2.1))])⟩), (32, ⟨true, 3, 1, (fun i_1 => [.p (.seq true 1 N (fun i_2 => [.int .i64 (F i_2)])), .p (.seq true 1 m (fun i_2 => [.int .i64 (T i_2)])), .p (.seq true 1 m (fun i_2 => [.int .i64 (Q i_2)]))])⟩), (0, ⟨true, 2, 1, (fun i_1 => [.p (.int .i64 (↑N : Int)), .p (.seq true 2 nb (fun i_2 => [.int .i64 ((g i_2).1), .int .i64 ((g i_2).2.1)]))])⟩)] [1888, 2976, 3200] 1 (if (i < m) then [.p (.int .i64 (T1 i))] else [.p (.int .i64 ((g e).1))])).1 : List AV) = [.p (.int .i64 (if i < m then T1 i else (g e).1))])))),
  (AN 1),
  (((m + 1) : Nat) ≤ (m + 1)),
  (∀ i : Nat, (((i : Nat) < (m + 1)) → (All (cvtL false [(64, ⟨true, 3, 1, (fun i_1 => [.ar 1 1888 0 N, .ar 1 2976 0 (m + 1), .ar 1 3200 0 (m + 1)])⟩), (2016, ⟨true, 3, 1, (fun i_1 => [.ar 1 1888 0 N, .ar 1 2976 0 (m + 1), .ar 1 3200 0 (m + 1)])⟩), (3200, ⟨false, 1, (m + 1), (fun i_1 => (if (i_1 < m) then [.p (.int .i64 (Q i_1))] else [.p (.int .i64 (↑e : Int))]))⟩), (3168, ⟨false, 1, 1, (fun i_1 => [.p (.int .i64 (↑e : Int))])⟩), (2976, ⟨false, 1, (m + 1), (fun i_1 => (if (i_1 < m) then [.p (.int .i64 (T1 i_1))] else [.p (.int .i64 ((g e).1))]))⟩), (2944, ⟨false, 1, 1, (fun i_1 => [.p (.int .i64 ((g e).1))])⟩), (1888, ⟨false, 1, N, (fun i_1 => (if (i_1 = (g e).1.toNat) then [.p (.int .i64 (F1 (g e).1.toNat - 1))] else [.p (.int .i64 (F1 i_1))]))⟩), (1568, ⟨true, 2, 1, (fun i_1 => [.p (.int .i64 ((g e).1)), .p (.int .i64 ((g e).2.1))])⟩), (32, ⟨true, 3, 1, (fun i_1 => [.p (.seq true 1 N (fun i_2 => [.int .i64 (F i_2)])), .p (.seq true 1 m (fun i_2 => [.int .i64 (T i_2)])), .p (.seq true 1 m (fun i_2 => [.int .i64 (Q i_2)]))])⟩), (0, ⟨true, 2, 1, (fun i_1 => [.p (.int .i64 (↑N : Int)), .p (.seq true 2 nb (fun i_2 => [.int .i64 ((g i_2).1), .int .i64 ((g i_2).2.1)]))])⟩)] [1888, 2976, 3200] 1 (if (i < m) then [.p (.int .i64 (Q i))] else [.p (.int .i64 (↑e : Int))])).2 ∧ (((cvtL false [(64, ⟨true, 3, 1, (fun i_1 => [.ar 1 1888 0 N, .ar 1 2976 0 (m + 1), .ar 1 3200 0 (m + 1)])⟩), (2016, ⟨true, 3, 1, (fun i_1 => [.ar 1 1888 0 N, .ar 1 2976 0 (m + 1), .ar 1 3200 0 (m + 1)])⟩), (3200, ⟨false, 1, (m + 1), (fun i_1 => (if (i_1 < m) then [.p (.int .i64 (Q i_1))] else [.p (.int .i64 (↑e : Int))]))⟩), (3168, ⟨false, 1, 1, (fun i_1 => [.p (.int .i64 (↑e : Int))])⟩), (2976, ⟨false, 1, (m + 1), (fun i_1 => (if (i_1 < m) then [.p (.int .i64 (T1 i_1))] else [.p (.int .i64 ((g e).1))]))⟩), (2944, ⟨false, 1, 1, (fun i_1 => [.p (.int .i64 ((g e).1))])⟩), (1888, ⟨false, 1, N, (fun i_1 => (if (i_1 = (g e).1.toNat) then [.p (.int .i64 (F1 (g e).1.toNat - 1))] else [.p (.int .i64 (F1 i_1))]))⟩), (1568, ⟨true, 2, 1, (fun i_1 => [.p (.int .i64 ((g e).1)), .p (.int .i64 ((g e).2.1))])⟩), (32, ⟨true, 3, 1, (fun i_1 => [.p (.seq true 1 N (fun i_2 => [.int .i64 (F i_2)])), .p (.seq true 1 m (fun i_2 => [.int .i64 (T i_2)])), .p (.seq true 1 m (fun i_2 => [.int .i64 (Q i_2)]))])⟩), (0, ⟨true, 2, 1, (fun i_1 => [.p (.int .i64 (↑N : Int)), .p (.seq true 2 nb (fun i_2 => [.int .i64 ((g i_2).1), .int .i64 ((g i_2).2.1)]))])⟩)] [1888, 2976, 3200] 1 (if (i < m) then [.p (.int .i64 (Q i))] else [.p (.int .i64 (↑e : Int))])).1 : List AV) = [.p (.int .i64 (if i < m then Q i else (↑e : Int)))])))),
  (AE N),
  (AE ((m + 1))),
  (AE ((m + 1)))] := by kernel_rfl
theorem nPb (g : Nat → T_Bar) (nb N k l m e : Nat) (F T Q F1 T1 : Nat → Int) :
    pathOb Try.prog Try.f145 0 [.reg [oT, oT, oT, oT], .reg [oT, oT, oT, ⟨true, (some ⟨[], [], [], 1, [], .p (.bool true)⟩), none⟩, oT, oT, oT, oT, ⟨true, (some ⟨[], [], [], 1, [], .p (.bool true)⟩), none⟩, oT, oT, oT, oT, oT, oT, oT, oT, oT, oT, oT, oT, oT, oT, oT, oT, oT, oT, oT, oT, oT, oT, oT, oT, oT, oT, oT, oT, oT, oT, oT], .dec false, .reg [oT, oT, oT, oT, oT, oT, oT], .reg [oT, oT, oT, oT, oT, oT, oT, oT, ⟨true, (some ⟨[], [], [], 1, pebR N m F1 T1 Q, .tup [pebO N m 0, .p (.bool true)]⟩), none⟩, oT, oT, oT, oT, oT, oT], .reg [oT, oT], .dec false, .reg [oT, oT, oT], .reg [oT, oT, oT, oT, oT, oT, oT], .dec true, .reg [oT, oT, oT], .reg [oT, oT, oT, oT, oT, oT, oT, oT, oT, oT, oT], .reg [oT, oT, oT, oT, oT, oT, oT], .reg [oT, oT, oT, oT, oT, oT, oT], .reg [oT, oT, oT]] [.code (bodyOf Try.f145)] (start Try.f145 [] 0 [grG g nb N, .p (.int .i64 k), .p (.int .i64 l), pebD N m F T Q, .p (.int .i64 e)]) [1888, 3072, 3296] 1 (pebR N (m + 1) (fun s => if s = (g e).2.1.toNat then F1 s - 1 else F1 s) (fun s => if s < m then T1 s else (g e).2.1) (fun s => if s < m then Q s else e)) (.tup [pebO N (m + 1) 0, .p (.bool true)]) =
    some [((0 : Nat) < 1),
  ((0 : Nat) < 1),
  Con Try.prog 160 0 [] [.agg [.p (.int .i64 (↑N : Int)), .p (.seq true 2 nb (fun i => [.int .i64 ((g i).1), .int .i64 ((g i).2.1)]))], .p (.int .i64 (↑k : Int)), .agg [.p (.seq true 1 N (fun i => [.int .i64 (F i)])), .p (.seq true 1 m (fun i => [.int .i64 (T i)])), .p (.seq true 1 m (fun i => [.int .i64 (Q i)]))]] [] (.p (.bool true)),
  (AG (!!true)),
  (AG (!!true)),
  (((!!true) = true) → Con Try.prog 119 0 [] [.p (.int .i64 (↑k : Int)), .p (.int .i64 (↑l : Int))] [] (.p (.bool true))),
  (AG (!!true)),
  (((!true) = false) → ((!!true) = true)),
  (AG (!bif !true then true else !true)),
  (((bif !true then true else !true) = false) → ((!bif !true then true else !true) = true)),
  (AG (!bif bif !true then true else !true then true else decide ((↑e : Int) < 0))),
  (((!bif bif !true then true else !true then true else decide ((↑e : Int) < 0)) = true) → ((0 : Nat) < 1)),
  (AG (!bif bif !true then true else !true then true else decide ((↑e : Int) < 0))),
  (AG (!bif bif !true then true else !true then true else decide ((↑e : Int) < 0))),
  (AG (!bif bif !true then true else !true then true else decide ((↑e : Int) < 0))),
  (((bif bif !true then true else !true then true else decide ((↑e : Int) < 0)) = false) → ((!bif bif !true then true else !true then true else decide ((↑e : Int) < 0)) = true)),
  (AG (!bif bif bif !true then true else !true then true else decide ((↑e : Int) < 0) then true else decide ((↑e : Int) ≥ (↑nb : Int)))),
  (((!bif bif bif !true then true else !true then true else decide ((↑e : Int) < 0) then true else decide ((↑e : Int) ≥ (↑nb : Int))) = true) → ((0 : Nat) < 1)),
  (AG (!bif bif bif !true then true else !true then true else decide ((↑e : Int) < 0) then true else decide ((↑e : Int) ≥ (↑nb : Int)))),
  (AG (!bif bif bif !true then true else !true then true else decide ((↑e : Int) < 0) then true else decide ((↑e : Int) ≥ (↑nb : Int)))),
  (AG (!bif bif bif !true then true else !true then true else decide ((↑e : Int) < 0) then true else decide ((↑e : Int) ≥ (↑nb : Int)))),
  (AG ((!bif bif bif !true then true else !true then true else decide ((↑e : Int) < 0) then true else decide ((↑e : Int) ≥ (↑nb : Int))) && decide ((↑m : Int) > 0))),
  ((((!bif bif bif !true then true else !true then true else decide ((↑e : Int) < 0) then true else decide ((↑e : Int) ≥ (↑nb : Int))) && decide ((↑m : Int) > 0)) = true) → ((0 : Nat) < 1)),
  (AG ((!bif bif bif !true then true else !true then true else decide ((↑e : Int) < 0) then true else decide ((↑e : Int) ≥ (↑nb : Int))) && decide ((↑m : Int) > 0))),
  ((((!bif bif bif !true then true else !true then true else decide ((↑e : Int) < 0) then true else decide ((↑e : Int) ≥ (↑nb : Int))) && decide ((↑m : Int) > 0)) = true) → ((0 : Nat) < 1)),
  (AG ((!bif bif bif !true then true else !true then true else decide ((↑e : Int) < 0) then true else decide ((↑e : Int) ≥ (↑nb : Int))) && decide ((↑m : Int) > 0))),
  (AG ((!bif bif bif !true then true else !true then true else decide ((↑e : Int) < 0) then true else decide ((↑e : Int) ≥ (↑nb : Int))) && decide ((↑m : Int) > 0))),
  ((((!bif bif bif !true then true else !true then true else decide ((↑e : Int) < 0) then true else decide ((↑e : Int) ≥ (↑nb : Int))) && decide ((↑m : Int) > 0)) = true) → (((-9223372036854775808) : Int) ≤ ((↑m : Int) - 1))),
  ((((!bif bif bif !true then true else !true then true else decide ((↑e : Int) < 0) then true else decide ((↑e : Int) ≥ (↑nb : Int))) && decide ((↑m : Int) > 0)) = true) → ((((↑m : Int) - 1) : Int) ≤ 9223372036854775807)),
  (AG ((!bif bif bif !true then true else !true then true else decide ((↑e : Int) < 0) then true else decide ((↑e : Int) ≥ (↑nb : Int))) && decide ((↑m : Int) > 0))),
  (AG ((!bif bif bif !true then true else !true then true else decide ((↑e : Int) < 0) then true else decide ((↑e : Int) ≥ (↑nb : Int))) && decide ((↑m : Int) > 0))),
  ((((!bif bif bif !true then true else !true then true else decide ((↑e : Int) < 0) then true else decide ((↑e : Int) ≥ (↑nb : Int))) && decide ((↑m : Int) > 0)) = true) → ((0 : Int) ≤ ((↑m : Int) - 1))),
  ((((!bif bif bif !true then true else !true then true else decide ((↑e : Int) < 0) then true else decide ((↑e : Int) ≥ (↑nb : Int))) && decide ((↑m : Int) > 0)) = true) → ((((↑m : Int) - 1) : Int) < (↑m : Int))),
  (AG ((!bif bif bif !true then true else !true then true else decide ((↑e : Int) < 0) then true else decide ((↑e : Int) ≥ (↑nb : Int))) && decide ((↑m : Int) > 0))),
  (AG ((!bif bif bif !true then true else !true then true else decide ((↑e : Int) < 0) then true else decide ((↑e : Int) ≥ (↑nb : Int))) && decide ((↑m : Int) > 0))),
  (AG ((!bif bif bif !true then true else !true then true else decide ((↑e : Int) < 0) then true else decide ((↑e : Int) ≥ (↑nb : Int))) && decide ((↑m : Int) > 0))),
  (AG (!bif bif bif !true then true else !true then true else decide ((↑e : Int) < 0) then true else decide ((↑e : Int) ≥ (↑nb : Int)))),
  (((!bif bif bif !true then true else !true then true else decide ((↑e : Int) < 0) then true else decide ((↑e : Int) ≥ (↑nb : Int))) = true) → (((decide ((↑m : Int) > 0)) = true) → (((!bif bif bif !true then true else !true then true else decide ((↑e : Int) < 0) then true else decide ((↑e : Int) ≥ (↑nb : Int))) && decide ((↑m : Int) > 0)) = true))),
  (((bif bif bif !true then true else !true then true else decide ((↑e : Int) < 0) then true else decide ((↑e : Int) ≥ (↑nb : Int))) = false) → ((!bif bif bif !true then true else !true then true else decide ((↑e : Int) < 0) then true else decide ((↑e : Int) ≥ (↑nb : Int))) = true)),
  ((bif bif bif bif !true then true else !true then true else decide ((↑e : Int) < 0) then true else decide ((↑e : Int) ≥ (↑nb : Int)) then true else bif decide ((↑m : Int) > 0) then decide (Q ((↑m : Int) - 1).toNat ≥ (↑e : Int)) else false) = false),
  ((0 : Nat) < 1),
  ((0 : Int) ≤ (↑e : Int)),
  (((↑e : Int) : Int) < (↑nb : Int)),
  ((0 : Nat) < 1),
  ((true = true) → (AN 1)),
  ((0 : Nat) < 1),
  ((0 : Nat) < 1),
  ((0 : Nat) < 1),
  ((0 : Nat) < 1),
  (((-9223372036854775808) : Int) ≤ ((↑l : Int) + 1)),
  ((((↑l : Int) + 1) : Int) ≤ 9223372036854775807),
  Con Try.prog 162 0 [] [.agg [.p (.int .i64 (↑N : Int)), .p (.seq true 2 nb (fun i => [.int .i64 ((g i).1), .int .i64 ((g i).2.1)]))], .agg [.p (.seq true 1 N (fun i => [.int .i64 (F i)])), .p (.seq true 1 m (fun i => [.int .i64 (T i)])), .p (.seq true 1 m (fun i => [.int .i64 (Q i)]))], .p (.int .i64 ((g e).1)), .p (.int .i64 ((g e).2.1)), .p (.int .i64 ((↑l : Int) + 1))] [(0, ⟨false, 1, N, (fun i => [.p (.int .i64 (F1 i))])⟩), (1, ⟨false, 1, m, (fun i => [.p (.int .i64 (T1 i))])⟩), (2, ⟨false, 1, m, (fun i => [.p (.int .i64 (Q i))])⟩)] (.tup [.agg [.ar 1 0 0 N, .ar 1 1 0 m, .ar 1 2 0 m], .p (.bool true)]),
  ((0 : Nat) < 1),
  ((true = true) → (AN 1)),
  ((!true) = false),
  ((0 : Nat) < 1),
  ((0 : Nat) < 1),
  ((0 : Nat) < 1),
  ((0 : Int) ≤ ((g e).1)),
  ((((g e).1) : Int) < (↑N : Int)),
  ((((g e).1.toNat) : Nat) < N),
  ((F1 (g e).1.toNat == 0) = true),
  ((0 : Nat) < 1),
  ((0 : Nat) < 1),
  ((0 : Nat) < 1),
  ((0 : Int) ≤ ((g e).2.1)),
  ((((g e).2.1) : Int) < (↑N : Int)),
  ((((g e).2.1.toNat) : Nat) < N),
  (((-9223372036854775808) : Int) ≤ (F1 (g e).2.1.toNat - 1)),
  (((F1 (g e).2.1.toNat - 1) : Int) ≤ 9223372036854775807),
  ((0 : Int) ≤ ((g e).2.1)),
  ((((g e).2.1) : Int) < (↑N : Int)),
  ((((g e).2.1.toNat) : Nat) < N),
  ((false = true) → ((N : Nat) = 1)),
  ((0 : Nat) < 1),
  ((1 : Nat) ≤ 1),
  ((m : Nat) ≤ m),
  ((((m + 1) * 8) : Nat) ≤ 140737488355328),
  (((m + 1) : Nat) ≤ 9223372036854775807),
  ((0 : Nat) < 1),
  ((true = true) → (AN 1)),
  ((0 : Nat) < 1),
  ((1 : Nat) ≤ 1),
  ((m : Nat) ≤ m),
  ((((m + 1) * 8) : Nat) ≤ 140737488355328),
  (((m + 1) : Nat) ≤ 9223372036854775807),
  ((0 : Nat) < 1),
  ((true = true) → (AN 1)),
  ((0 : Nat) < 1),
  ((0 : Nat) < 1),
  ((true = true) → (AN 1)),
  ((0 : Nat) < 1),
  (AN 0),
  (AN N),
  (AN 0),
  (AN ((m + 1))),
  (AN 0),
  (AN ((m + 1))),
  (true = true),
  (AN 1),
  ((N : Nat) ≤ N),
  (∀ i : Nat, (((i : Nat) < N) → (All (cvtL false [(64, ⟨true, 3, 1, (fun i_1 => [.ar 1 1888 0 N, .ar 1 3072 0 (m + 1), .ar 1 3296 0 (m + 1)])⟩), (2016, ⟨true, 3, 1, (fun i_1 => [.ar 1 1888 0 N, .ar 1 3072 0 (m + 1), .ar 1 3296 0 (m + 1)])⟩), (3296, ⟨false, 1, (m + 1), (fun i_1 => (if (i_1 < m) then [.p (.int .i64 (Q i_1))] else [.p (.int .i64 (↑e : Int))]))⟩), (3264, ⟨false, 1, 1, (fun i_1 => [.p (.int .i64 (↑e : Int))])⟩), (3072, ⟨false, 1, (m + 1), (fun i_1 => (if (i_1 < m) then [.p (.int .i64 (T1 i_1))] else [.p (.int .i64 ((g e).2.1))]))⟩), (3040, ⟨false, 1, 1, (fun i_1 => [.p (.int .i64 ((g e).2.1))])⟩), (1888, ⟨false, 1, N, (fun i_1 => (if (i_1 = (g e).2.1.toNat) then [.p (.int .i64 (F1 (g e).2.1.toNat - 1))] else [.p (.int .i64 (F1 i_1))]))⟩), (1568, ⟨true, 2, 1, (fun i_1 => [.p (.int .i64 ((g e).1)), .p (.int .i64 ((g e).2.1))])⟩), (32, ⟨true, 3, 1, (fun i_1 => [.p (.seq true 1 N (fun i_2 => [.int .i64 (F i_2)])), .p (.seq true 1 m (fun i_2 => [.int .i64 (T i_2)])), .p (.seq true 1 m (fun i_2 => [.int .i64 (Q i_2)]))])⟩), (0, ⟨true, 2, 1, (fun i_1 => [.p (.int .i64 (↑N : Int)), .p (.seq true 2 nb (fun i_2 => [.int .i64 ((g i_2).1), .int .i64 ((g i_2).2.1)]))])⟩)] [1888, 3072, 3296] 1 (if (i = (g e).2.1.toNat) then [.p (.int .i64 (F1 (g e).2.1.toNat - 1))] else [.p (.int .i64 (F1 i))])).2 ∧ (((cvtL false [(64, ⟨true, 3, 1, (fun i_1 => [.ar 1 1888 0 N, .ar 1 3072 0 (m + 1), .ar 1 3296 0 (m + 1)])⟩), (2016, ⟨true, 3, 1, (fun i_1 => [.ar 1 1888 0 N, .ar 1 3072 0 (m + 1), .ar 1 3296 0 (m + 1)])⟩), (3296, ⟨false, 1, (m + 1), (fun i_1 => (if (i_1 < m) then [.p (.int .i64 (Q i_1))] else [.p (.int .i64 (↑e : Int))]))⟩), (3264, ⟨false, 1, 1, (fun i_1 => [.p (.int .i64 (↑e : Int))])⟩), (3072, ⟨false, 1, (m + 1), (fun i_1 => (if (i_1 < m) then [.p (.int .i64 (T1 i_1))] else [.p (.int .i64 ((g e).2.1))]))⟩), (3040, ⟨false, 1, 1, (fun i_1 => [.p (.int .i64 ((g e).2.1))])⟩), (1888, ⟨false, 1, N, (fun i_1 => (if (i_1 = (g e).2.1.toNat) then [.p (.int .i64 (F1 (g e).2.1.toNat - 1))] else [.p (.int .i64 (F1 i_1))]))⟩), (1568, ⟨true, 2, 1, (fun i_1 => [.p (.int .i64 ((g e).1)), .p (.int .i64 ((g e).2.1))])⟩), (32, ⟨true, 3, 1, (fun i_1 => [.p (.seq true 1 N (fun i_2 => [.int .i64 (F i_2)])), .p (.seq true 1 m (fun i_2 => [.int .i64 (T i_2)])), .p (.seq true 1 m (fun i_2 => [.int .i64 (Q i_2)]))])⟩), (0, ⟨true, 2, 1, (fun i_1 => [.p (.int .i64 (↑N : Int)), .p (.seq true 2 nb (fun i_2 => [.int .i64 ((g i_2).1), .int .i64 ((g i_2).2.1)]))])⟩)] [1888, 3072, 3296] 1 (if (i = (g e).2.1.toNat) then [.p (.int .i64 (F1 (g e).2.1.toNat - 1))] else [.p (.int .i64 (F1 i))])).1 : List AV) = [.p (.int .i64 (if i = (g e).2.1.toNat then F1 i - 1 else F1 i))])))),
  (AN 1),
  (((m + 1) : Nat) ≤ (m + 1)),
  (∀ i : Nat, (((i : Nat) < (m + 1)) → (All (cvtL false [(64, ⟨true, 3, 1, (fun i_1 => [.ar 1 1888 0 N, .ar 1 3072 0 (m + 1), .ar 1 3296 0 (m + 1)])⟩), (2016, ⟨true, 3, 1, (fun i_1 => [.ar 1 1888 0 N, .ar 1 3072 0 (m + 1), .ar 1 3296 0 (m + 1)])⟩), (3296, ⟨false, 1, (m + 1), (fun i_1 => (if (i_1 < m) then [.p (.int .i64 (Q i_1))] else [.p (.int .i64 (↑e : Int))]))⟩), (3264, ⟨false, 1, 1, (fun i_1 => [.p (.int .i64 (↑e : Int))])⟩), (3072, ⟨false, 1, (m + 1), (fun i_1 => (if (i_1 < m) then [.p (.int .i64 (T1 i_1))] else [.p (.int .i64 ((g e).2.1))]))⟩), (3040, ⟨false, 1, 1, (fun i_1 => [.p (.int .i64 ((g e).2.1))])⟩), (1888, ⟨false, 1, N, (fun i_1 => (if (i_1 = (g e).2.1.toNat) then [.p (.int .i64 (F1 (g e).2.1.toNat - 1))] else [.p (.int .i64 (F1 i_1))]))⟩), (1568, ⟨true, 2, 1, (fun i_1 => [.p (.int .i64 ((g e).1)), .p (.int .i64 ((g e).2.1))])⟩), (32, ⟨true, 3, 1, (fun i_1 => [.p (.seq true 1 N (fun i_2 => [.int .i64 (F i_2)])), .p (.seq true 1 m (fun i_2 => [.int .i64 (T i_2)])), .p (.seq true 1 m (fun i_2 => [.int .i64 (Q i_2)]))])⟩), (0, ⟨true, 2, 1, (fun i_1 => [.p (.int .i64 (↑N : Int)), .p (.seq true 2 nb (fun i_2 => [.int .i64 ((g i_2).1), .int .i64 ((g i_2).2.1)]))])⟩)] [1888, 3072, 3296] 1 (if (i < m) then [.p (.int .i64 (T1 i))] else [.p (.int .i64 ((g e).2.1))])).2 ∧ (((cvtL false [(64, ⟨true, 3, 1, (fun i_1 => [.ar 1 1888 0 N, .ar 1 3072 0 (m + 1), .ar 1 3296 0 (m + 1)])⟩), (2016, ⟨true, 3, 1, (fun i_1 => [.ar 1 1888 0 N, .ar 1 3072 0 (m + 1), .ar 1 3296 0 (m + 1)])⟩), (3296, ⟨false, 1, (m + 1), (fun i_1 => (if (i_1 < m) then [.p (.int .i64 (Q i_1))] else [.p (.int .i64 (↑e : Int))]))⟩), (3264, ⟨false, 1, 1, (fun i_1 => [.p (.int .i64 (↑e : Int))])⟩), (3072, ⟨false, 1, (m + 1), (fun i_1 => (if (i_1 < m) then [.p (.int .i64 (T1 i_1))] else [.p (.int .i64 ((g e).2.1))]))⟩), (3040, ⟨false, 1, 1, (fun i_1 => [.p (.int .i64 ((g e).2.1))])⟩), (1888, ⟨false, 1, N, (fun i_1 => (if (i_1 = (g e).2.1.toNat) then [.p (.int .i64 (F1 (g e).2.1.toNat - 1))] else [.p (.int .i64 (F1 i_1))]))⟩), (1568, ⟨true, 2, 1, (fun i_1 => [.p (.int .i64 ((g e).1)), .p (.int .i64 ((g e).2.1))])⟩), (32, ⟨true, 3, 1, (fun i_1 => [.p (.seq true 1 N (fun i_2 => [.int .i64 (F i_2)])), .p (.seq true 1 m (fun i_2 => [.int .i64 (T i_2)])), .p (.seq true 1 m (fun i_2 => [.int .i64 (Q i_2)]))])⟩), (0, ⟨true, 2, 1, (fun i_1 => [.p (.int .i64 (↑N : Int)), .p (.seq true 2 nb (fun i_2 => [.int .i64 ((g i_2).1), .int .i64 ((g i_2).2.1)]))])⟩)] [1888, 3072, 3296] 1 (if (i < m) then [.p (.int .i64 (T1 i))] else [.p (.int .i64 ((g e).2.1))])).1 : List AV) = [.p (.int .i64 (if i < m then T1 i else (g e).2.1))])))),
  (AN 1),
  (((m + 1) : Nat) ≤ (m + 1)),
  (∀ i : Nat, (((i : Nat) < (m + 1)) → (All (cvtL false [(64, ⟨true, 3, 1, (fun i_1 => [.ar 1 1888 0 N, .ar 1 3072 0 (m + 1), .ar 1 3296 0 (m + 1)])⟩), (2016, ⟨true, 3, 1, (fun i_1 => [.ar 1 1888 0 N, .ar 1 3072 0 (m + 1), .ar 1 3296 0 (m + 1)])⟩), (3296, ⟨false, 1, (m + 1), (fun i_1 => (if (i_1 < m) then [.p (.int .i64 (Q i_1))] else [.p (.int .i64 (↑e : Int))]))⟩), (3264, ⟨false, 1, 1, (fun i_1 => [.p (.int .i64 (↑e : Int))])⟩), (3072, ⟨false, 1, (m + 1), (fun i_1 => (if (i_1 < m) then [.p (.int .i64 (T1 i_1))] else [.p (.int .i64 ((g e).2.1))]))⟩), (3040, ⟨false, 1, 1, (fun i_1 => [.p (.int .i64 ((g e).2.1))])⟩), (1888, ⟨false, 1, N, (fun i_1 => (if (i_1 = (g e).2.1.toNat) then [.p (.int .i64 (F1 (g e).2.1.toNat - 1))] else [.p (.int .i64 (F1 i_1))]))⟩), (1568, ⟨true, 2, 1, (fun i_1 => [.p (.int .i64 ((g e).1)), .p (.int .i64 ((g e).2.1))])⟩), (32, ⟨true, 3, 1, (fun i_1 => [.p (.seq true 1 N (fun i_2 => [.int .i64 (F i_2)])), .p (.seq true 1 m (fun i_2 => [.int .i64 (T i_2)])), .p (.seq true 1 m (fun i_2 => [.int .i64 (Q i_2)]))])⟩), (0, ⟨true, 2, 1, (fun i_1 => [.p (.int .i64 (↑N : Int)), .p (.seq true 2 nb (fun i_2 => [.int .i64 ((g i_2).1), .int .i64 ((g i_2).2.1)]))])⟩)] [1888, 3072, 3296] 1 (if (i < m) then [.p (.int .i64 (Q i))] else [.p (.int .i64 (↑e : Int))])).2 ∧ (((cvtL false [(64, ⟨true, 3, 1, (fun i_1 => [.ar 1 1888 0 N, .ar 1 3072 0 (m + 1), .ar 1 3296 0 (m + 1)])⟩), (2016, ⟨true, 3, 1, (fun i_1 => [.ar 1 1888 0 N, .ar 1 3072 0 (m + 1), .ar 1 3296 0 (m + 1)])⟩), (3296, ⟨false, 1, (m + 1), (fun i_1 => (if (i_1 < m) then [.p (.int .i64 (Q i_1))] else [.p (.int .i64 (↑e : Int))]))⟩), (3264, ⟨false, 1, 1, (fun i_1 => [.p (.int .i64 (↑e : Int))])⟩), (3072, ⟨false, 1, (m + 1), (fun i_1 => (if (i_1 < m) then [.p (.int .i64 (T1 i_1))] else [.p (.int .i64 ((g e).2.1))]))⟩), (3040, ⟨false, 1, 1, (fun i_1 => [.p (.int .i64 ((g e).2.1))])⟩), (1888, ⟨false, 1, N, (fun i_1 => (if (i_1 = (g e).2.1.toNat) then [.p (.int .i64 (F1 (g e).2.1.toNat - 1))] else [.p (.int .i64 (F1 i_1))]))⟩), (1568, ⟨true, 2, 1, (fun i_1 => [.p (.int .i64 ((g e).1)), .p (.int .i64 ((g e).2.1))])⟩), (32, ⟨true, 3, 1, (fun i_1 => [.p (.seq true 1 N (fun i_2 => [.int .i64 (F i_2)])), .p (.seq true 1 m (fun i_2 => [.int .i64 (T i_2)])), .p (.seq true 1 m (fun i_2 => [.int .i64 (Q i_2)]))])⟩), (0, ⟨true, 2, 1, (fun i_1 => [.p (.int .i64 (↑N : Int)), .p (.seq true 2 nb (fun i_2 => [.int .i64 ((g i_2).1), .int .i64 ((g i_2).2.1)]))])⟩)] [1888, 3072, 3296] 1 (if (i < m) then [.p (.int .i64 (Q i))] else [.p (.int .i64 (↑e : Int))])).1 : List AV) = [.p (.int .i64 (if i < m then Q i else (↑e : Int)))])))),
  (AE N),
  (AE ((m + 1))),
  (AE ((m + 1)))] := by kernel_rfl
theorem nUz (g : Nat → T_Bar) (nb N k l : Nat) :
    pieceOb Try.prog 0 [.reg [oT, oT, oT], .reg [oT, oT, ⟨true, (some ⟨[], [], [], 1, pebR N 0 (fun _ => k) (fun _ => 0) (fun _ => 0), .tup [pebO N 0 0, .p (.bool true)]⟩), none⟩, oT, oT, oT, oT, oT, oT], .reg [oT, oT, oT, oT, oT, ⟨true, (some ⟨[], [], [], 1, [], .p (.bool true)⟩), none⟩, oT, oT], .dec false, .reg [oT], .head] [.code (bodyOf Try.f118)] (start Try.f118 [] 0 [grG g nb N, .p (.int .i64 k), .p (.int .i64 l)]) [0, 32, 288, 160, 161, 162] 1 (SRu g nb N k l 0 (fun _ => k) (fun _ => 0) (fun _ => 0) 0) =
    some ([.code (cAt (bodyOf Try.f118) [1, 1, 1, 0, 1, 0, 0]), .inLoop (cAt (bodyOf Try.f118) [1, 1, 1, 0, 1, 0, 0]), .inBlock 0, .code (cAt (bodyOf Try.f118) [1, 1, 1, 1])], [((0 : Nat) < 1),
  Con Try.prog 144 0 [] [.agg [.p (.int .i64 (↑N : Int)), .p (.seq true 2 nb (fun i => [.int .i64 ((g i).1), .int .i64 ((g i).2.1)]))], .p (.int .i64 (↑k : Int))] [(0, ⟨false, 1, N, (fun i => [.p (.int .i64 (↑k : Int))])⟩), (1, ⟨false, 1, 0, (fun i => [.p (.int .i64 0)])⟩), (2, ⟨false, 1, 0, (fun i => [.p (.int .i64 0)])⟩)] (.tup [.agg [.ar 1 0 0 N, .ar 1 1 0 0, .ar 1 2 0 0], .p (.bool true)]),
  ((0 : Nat) < 1),
  ((true = true) → (AN 1)),
  (AG (!!true)),
  (AG (!!true)),
  (((!!true) = true) → Con Try.prog 119 0 [] [.p (.int .i64 (↑k : Int)), .p (.int .i64 (↑l : Int))] [] (.p (.bool true))),
  (AG (!!true)),
  (((!true) = false) → ((!!true) = true)),
  ((bif !true then true else !true) = false),
  (AI ((↑N : Int))),
  (AN nb),
  (AP nb (fun i => [.int .i64 ((g i).1), .int .i64 ((g i).2.1)])),
  (AI ((↑k : Int))),
  (AI ((↑l : Int))),
  (AN 0),
  (AN 0),
  (AN 0),
  ((0 : Int) = (↑0 : Int)),
  ((([AV.p (PV.int IntKind.i64 (↑N : Int)), brL g nb].length) : Nat) = 2),
  ((1 : Nat) ≤ 1),
  ((1 : Nat) ≤ 1),
  (AI ((↑N : Int))),
  (AN nb),
  (AP nb (fun i => [.int .i64 ((g i).1), .int .i64 ((g i).2.1)])),
  ((((List.map (fun v => AV.p (absV v)) [Value.slice none 0 0, Value.slice none 0 0, Value.slice none 0 0]).length) : Nat) = 3),
  ((1 : Nat) ≤ 1),
  ((1 : Nat) ≤ 1),
  ((((List.map (fun v => AV.p (absV v)) [Value.slice none 0 0, Value.slice none 0 0, Value.slice none 0 0]).length) : Nat) = 3),
  ((1 : Nat) ≤ 1),
  ((1 : Nat) ≤ 1),
  (AN 0),
  (AN N),
  (AN 0),
  (AN 0),
  (AN 0),
  (AN 0),
  (AN 1),
  ((N : Nat) ≤ N),
  (AA N (fun i => [.p (.int .i64 (↑k : Int))])),
  (AN 1),
  ((0 : Nat) ≤ 0),
  (AA 0 (fun i => [.p (.int .i64 0)])),
  (AN 1),
  ((0 : Nat) ≤ 0),
  (AA 0 (fun i => [.p (.int .i64 0)]))]) := by kernel_rfl
theorem nUl (g : Nat → T_Bar) (nb N k l m m' : Nat) (F T Q F' T' Q' : Nat → Int) (i : Nat) (r : Bool) :
    pieceOb Try.prog 0 [.reg [oT, oT, oT, oT, oT], .dec true, .reg [oT, oT, oT, oT, oT, ⟨true, (some ⟨[], [], [], 1, pebR N m' F' T' Q', .tup [pebO N m' 0, .p (.bool r)]⟩), none⟩, oT, oT, oT, oT], .reg [oT, oT, oT], .head] [.code (cAt (bodyOf Try.f118) [1, 1, 1, 0, 1, 0, 0]), .inLoop (cAt (bodyOf Try.f118) [1, 1, 1, 0, 1, 0, 0]), .inBlock 0, .code (cAt (bodyOf Try.f118) [1, 1, 1, 1])] (SRu g nb N k l m F T Q i) [0, 1, 2, 326, 327, 328] 1 (SRu g nb N k l m' F' T' Q' (i + 1)) =
    some ([.code (cAt (bodyOf Try.f118) [1, 1, 1, 0, 1, 0, 0]), .inLoop (cAt (bodyOf Try.f118) [1, 1, 1, 0, 1, 0, 0]), .inBlock 0, .code (cAt (bodyOf Try.f118) [1, 1, 1, 1])], [((0 : Nat) < 1),
  ((decide ((↑i : Int) < (↑nb : Int))) = true),
  ((0 : Nat) < 1),
  ((0 : Nat) < 1),
  (AN 1),
  ((N : Nat) ≤ N),
  (AN 1),
  ((m : Nat) ≤ m),
  (AN 1),
  ((m : Nat) ≤ m),
  Con Try.prog 145 0 [] [.agg [.p (.int .i64 (↑N : Int)), .p (.seq true 2 nb (fun i_1 => [.int .i64 ((g i_1).1), .int .i64 ((g i_1).2.1)]))], .p (.int .i64 (↑k : Int)), .p (.int .i64 (↑l : Int)), .agg [.p (.seq true 1 N (fun i_1 => [.int .i64 (F i_1)])), .p (.seq true 1 m (fun i_1 => [.int .i64 (T i_1)])), .p (.seq true 1 m (fun i_1 => [.int .i64 (Q i_1)]))], .p (.int .i64 (↑i : Int))] [(0, ⟨false, 1, N, (fun i_1 => [.p (.int .i64 (F' i_1))])⟩), (1, ⟨false, 1, m', (fun i_1 => [.p (.int .i64 (T' i_1))])⟩), (2, ⟨false, 1, m', (fun i_1 => [.p (.int .i64 (Q' i_1))])⟩)] (.tup [.agg [.ar 1 0 0 N, .ar 1 1 0 m', .ar 1 2 0 m'], .p (.bool r)]),
  ((0 : Nat) < 1),
  ((true = true) → (AN 1)),
  (((-9223372036854775808) : Int) ≤ ((↑i : Int) + 1)),
  ((((↑i : Int) + 1) : Int) ≤ 9223372036854775807),
  (AI ((↑N : Int))),
  (AN nb),
  (AP nb (fun i_1 => [.int .i64 ((g i_1).1), .int .i64 ((g i_1).2.1)])),
  (AI ((↑k : Int))),
  (AI ((↑l : Int))),
  (AN 0),
  (AN 0),
  (AN 0),
  ((((↑i : Int) + 1) : Int) = (↑(i + 1) : Int)),
  (AN 2),
  ((1 : Nat) ≤ 1),
  ((1 : Nat) ≤ 1),
  (AI ((↑N : Int))),
  (AN nb),
  (AP nb (fun i_1 => [.int .i64 ((g i_1).1), .int .i64 ((g i_1).2.1)])),
  (AN 3),
  ((1 : Nat) ≤ 1),
  ((1 : Nat) ≤ 1),
  (AN 3),
  ((1 : Nat) ≤ 1),
  ((1 : Nat) ≤ 1),
  (AN 0),
  (AN N),
  (AN 0),
  (AN (m')),
  (AN 0),
  (AN (m')),
  (AN 1),
  ((N : Nat) ≤ N),
  (AA N (fun i_1 => [.p (.int .i64 (F' i_1))])),
  (AN 1),
  ((m' : Nat) ≤ m'),
  (AA (m') (fun i_1 => [.p (.int .i64 (T' i_1))])),
  (AN 1),
  ((m' : Nat) ≤ m'),
  (AA (m') (fun i_1 => [.p (.int .i64 (Q' i_1))]))]) := by kernel_rfl
theorem nUe (g : Nat → T_Bar) (nb N k l m : Nat) (F T Q : Nat → Int) (i : Nat) :
    pathOb Try.prog Try.f118 0 [.reg [oT, oT, oT, oT, oT], .dec false, .reg [oT, oT, oT]] [.code (cAt (bodyOf Try.f118) [1, 1, 1, 0, 1, 0, 0]), .inLoop (cAt (bodyOf Try.f118) [1, 1, 1, 0, 1, 0, 0]), .inBlock 0, .code (cAt (bodyOf Try.f118) [1, 1, 1, 1])] (SRu g nb N k l m F T Q i) [3, 4, 5] 1 (pebR N m F T Q) (.tup [pebO N m 0, .p (.bool true)]) =
    some [((0 : Nat) < 1),
  ((decide ((↑i : Int) < (↑nb : Int))) = false),
  ((0 : Nat) < 1),
  ((0 : Nat) < 1),
  ((true = true) → (AN 1)),
  ((0 : Nat) < 1),
  (AN 0),
  (AN N),
  (AN 0),
  (AN m),
  (AN 0),
  (AN m),
  (true = true),
  (AN 1),
  ((N : Nat) ≤ N),
  (AA N (fun i_1 => [.p (.int .i64 (F i_1))])),
  (AN 1),
  ((m : Nat) ≤ m),
  (AA m (fun i_1 => [.p (.int .i64 (T i_1))])),
  (AN 1),
  ((m : Nat) ≤ m),
  (AA m (fun i_1 => [.p (.int .i64 (Q i_1))])),
  (AE N),
  (AE m),
  (AE m)] := by kernel_rfl
end Go.Proofs.Ytffnfeefjdmifaa.Mach
