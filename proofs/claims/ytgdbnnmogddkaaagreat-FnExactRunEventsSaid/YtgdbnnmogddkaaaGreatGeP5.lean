/- What the law Ge needs, part 5 of 6: the abstract machine and the contracts of the functions. Conditions: as each theorem says. -/
import Derived.Test.YtgdbnnmogddkaaaGreatGeP4
namespace Go.Proofs.YtgdbnnmogddkaaaGreat.Mach
open Go
set_option linter.unusedVariables false
set_option linter.unusedSimpArgs false
theorem aft_or (a b : T_Bar) : aft a b = true ↔ a.1 < b.1 ∨ (a.1 = b.1 ∧ a.2.1 ≤ b.2.1) := by
  unfold aft
  by_cases h1 : a.1 < b.1
  · simp [h1]
  · by_cases h2 : a.1 = b.1
    · simp [h2]
    · have : (a.1 == b.1) = false := beq_eq_false_iff_ne.2 h2
      simp [h1, h2]
def AscB (n : Nat) (h : Nat → T_Bar) : Prop := ∀ s, s + 1 < n → aft (h s) (h (s + 1)) = true
theorem ascB_snoc {n : Nat} {h : Nat → T_Bar} {x : T_Bar} (ha : AscB n h) (hx : 0 < n → aft (h (n - 1)) x = true) : AscB (n + 1) (snoc n h x) := by
  intro s hs
  rw [snoc_lt (show s < n by omega)]
  by_cases h1 : s + 1 < n
  · rw [snoc_lt h1]; exact ha s h1
  · obtain rfl : n = s + 1 := by omega
    rw [snoc_ge (Nat.lt_irrefl _)]
    exact hx (by omega)
theorem ins_asc (g : Nat → T_Bar) (x : T_Bar) (nb : Nat) (hg : AscB nb g) : ∀ i, i ≤ nb → AscB (insD g x i).2.1 (insD g x i).2.2 ∧ (0 < i → 0 < (insD g x i).2.1 ∧ (insD g x i).2.2 ((insD g x i).2.1 - 1) = g (i - 1)) ∧ ((insD g x i).1 = false → (insD g x i).2.1 = i ∧ (0 < i → aft (g (i - 1)) x = true))
  | 0, _ => ⟨fun s hs => absurd hs (Nat.not_lt_zero _), fun h => absurd h (Nat.lt_irrefl 0), fun _ => ⟨rfl, fun h => absurd h (Nat.lt_irrefl 0)⟩⟩
  | i + 1, hi => by
    obtain ⟨h1, h2, h3⟩ := ins_asc g x nb hg i (by omega)
    have hgi : 0 < i → aft (g (i - 1)) (g i) = true := by
      intro h
      have := hg (i - 1) (by omega)
      rw [show i - 1 + 1 = i by omega] at this
      exact this
    have hlast : 0 < (insD g x i).2.1 → (0 < i → (insD g x i).2.2 ((insD g x i).2.1 - 1) = g (i - 1)) := fun _ h => (h2 h).2
    have hpos : (insD g x i).2.1 = i + (if (insD g x i).1 = true then 1 else 0) := insD_n g x i
    simp only [insD]
    split
    · rename_i h
      have hf : (insD g x i).1 = false := by
        cases e : (insD g x i).1 with
        | false => rfl
        | true => rw [e] at h; simp at h
      obtain ⟨h4, h5⟩ := h3 hf
      rw [hf] at h
      have hxg : aft x (g i) = true := by
        have hn : ¬ (aft (g i) x = true) := by simpa using h
        rw [aft_or] at hn ⊢
        omega
      refine ⟨ascB_snoc (ascB_snoc h1 (fun h0 => ?_)) (fun _ => ?_), fun _ => ⟨by show 0 < (insD g x i).2.1 + 1 + 1; omega, ?_⟩, fun h' => by cases h'⟩
      · rw [hlast h0 (by omega)]; exact h5 (by omega)
      · rw [show (insD g x i).2.1 + 1 - 1 = (insD g x i).2.1 by omega, snoc_ge (Nat.lt_irrefl _)]; exact hxg
      · show snoc ((insD g x i).2.1 + 1) _ (g i) ((insD g x i).2.1 + 1 + 1 - 1) = g (i + 1 - 1)
        rw [show (insD g x i).2.1 + 1 + 1 - 1 = (insD g x i).2.1 + 1 by omega, snoc_ge (Nat.lt_irrefl _)]
        rfl
    · rename_i h
      refine ⟨ascB_snoc h1 (fun h0 => ?_), fun _ => ⟨by show 0 < (insD g x i).2.1 + 1; omega, ?_⟩, fun h' => ?_⟩
      · by_cases h6 : 0 < i
        · rw [hlast h0 h6]; exact hgi h6
        · exfalso
          obtain rfl : i = 0 := by omega
          exact absurd h0 (Nat.lt_irrefl 0)
      · show snoc (insD g x i).2.1 _ (g i) ((insD g x i).2.1 + 1 - 1) = g (i + 1 - 1)
        rw [show (insD g x i).2.1 + 1 - 1 = (insD g x i).2.1 by omega, snoc_ge (Nat.lt_irrefl _)]
        rfl
      · have h7 : (insD g x i).1 = false := h'
        obtain ⟨h4, h5⟩ := h3 h7
        refine ⟨by show (insD g x i).2.1 + 1 = i + 1; omega, fun _ => ?_⟩
        rw [h7] at h
        show aft (g i) x = true
        simpa using h
theorem insR_asc {g : Nat → T_Bar} {nb : Nat} (x : T_Bar) (hg : AscB nb g) : AscB (insR g nb x).1 (insR g nb x).2 := by
  obtain ⟨h1, h2, h3⟩ := ins_asc g x nb hg nb (Nat.le_refl _)
  unfold insR
  split
  · exact h1
  · rename_i h
    have hf : (insD g x nb).1 = false := by simpa using h
    obtain ⟨h4, h5⟩ := h3 hf
    refine ascB_snoc h1 (fun h0 => ?_)
    rw [(h2 (by omega)).2]
    exact h5 (by omega)
theorem hS_asc (s : Nat → Int) : ∀ k, AscB (hS s k).1 (hS s k).2
  | 0 => fun t ht => absurd ht (Nat.not_lt_zero _)
  | k + 1 => by
    have ih := hS_asc s k
    simp only [hS]
    split
    · exact insR_asc _ (insR_asc _ ih)
    · exact insR_asc _ ih
theorem aS_asc (g : Nat → T_Bar) {r : NB} (hr : AscB r.1 r.2) : ∀ k, AscB (aS g r k).1 (aS g r k).2
  | 0 => hr
  | k + 1 => by
    have ih := aS_asc g hr k
    simp only [aS]
    exact insR_asc _ ih
theorem alS_asc (p : T_Pinned) : AscB (alS p).1 (alS p).2 := aS_asc _ (hS_asc _ _) _
theorem isG_of {N nb : Nat} {g : Nat → T_Bar} (hN : 1 ≤ N ∧ N ≤ 8) (hnb : nb ≤ 24) (hok : OkBars N nb g) (ha : AscB nb g) : isGraphF ((N : Int), (nb, g), ()) = true := by
  have hgood : ∀ k, k ≤ nb → goodB (N : Int) g k = true := by
    intro k
    induction k with
    | zero => intro _; rfl
    | succ k ih =>
      intro hk
      rw [goodB, ih (by omega), Bool.true_and, Bool.not_eq_true']
      have hb := hok k (by omega)
      have a1 : decide ((g k).1 < 0) = false := decide_eq_false (by omega)
      have a2 : decide ((g k).1 ≥ (g k).2.1) = false := decide_eq_false (by omega)
      have a3 : decide ((g k).2.1 ≥ (N : Int)) = false := decide_eq_false (by omega)
      unfold badB
      rw [a1, a2, a3]
      simp only [cond_false]
      by_cases h0 : k = 0
      · subst h0; rfl
      · have := ha (k - 1) (by omega)
        rw [show k - 1 + 1 = k by omega] at this
        rw [show ((k : Int) - 1).toNat = k - 1 by omega, this]
        cases decide ((k : Int) > 0) <;> rfl
  have hin : inB (N : Int) 1 8 = true := by simp [inB]; omega
  rw [isGraphF, if_pos ⟨hin, hnb⟩]
  exact hgood nb (Nat.le_refl _)
end Go.Proofs.YtgdbnnmogddkaaaGreat.Mach
namespace Go.Proofs.YtgdbnnmogddkaaaGreat.Mach
open Go Go.Sort
set_option linter.unusedVariables false
set_option linter.unusedSimpArgs false
def SYs (p : T_Pinned) (v n : Nat) (h : Nat → Int) : St :=
  ⟨[pinA p, .pt 3 0 0 0, .p .any, .ar 1 1 0 n, .p (.int .i64 v)] ++ List.replicate 36 anyA, [(0, boxP p), (1, iOb n h)], 2⟩
def SYi (p : T_Pinned) (v n m : Nat) (h : Nat → Int) (r : Nat → T_Bar) : St :=
  ⟨[pinA p, .pt 3 0 0 0, .p .any, .ar 1 1 0 n, .ar 2 2 0 m] ++ List.replicate 17 anyA ++ [.p (.int .i64 p.1.1), .p (.int .i64 v)] ++ List.replicate 34 anyA, [(0, boxP p), (1, iOb n h), (2, brOb m r)], 3⟩
def SYj (p : T_Pinned) (v j n m : Nat) (h : Nat → Int) (r : Nat → T_Bar) (b : Bool) : St :=
  ⟨[pinA p, .pt 3 0 0 0, .p .any, .ar 1 1 0 n, .ar 2 2 0 m, .p (.int .i64 v), .p (.bool b)] ++ List.replicate 15 anyA ++ [.p (.int .i64 p.1.1), .p (.int .i64 v)] ++ List.replicate 3 anyA ++
    [inL p.2.1, .p (.int .i64 p.2.1.1), .p (.int .i64 j)] ++ List.replicate 28 anyA, [(0, boxP p), (1, iOb n h), (2, brOb m r)], 3⟩
def SYf (p : T_Pinned) (e k n a b : Nat) (h r s : Nat → Int) : St :=
  ⟨[pinA p, .p (.int .i64 e), .pt 3 0 0 0, .p .any, .p .any, .ar 1 1 0 n, .ar 1 2 0 a, .p .any, .p .any] ++ List.replicate 20 anyA ++ [.ar 1 3 0 b, .p (.int .i64 b), .p (.int .i64 k)] ++ List.replicate 13 anyA,
   [(0, boxP p), (1, iOb n h), (2, iOb a r), (3, iOb b s)], 4⟩
def SYg (p : T_Pinned) (e k n a b : Nat) (h r s : Nat → Int) : St :=
  ⟨[pinA p, .p (.int .i64 e), .pt 3 0 0 0, .p .any, .p .any, .ar 1 1 0 n, .ar 1 3 0 b, .ar 1 2 0 a, .p (.int .i64 k)] ++ List.replicate 44 anyA,
   [(0, boxP p), (1, iOb n h), (2, iOb a r), (3, iOb b s)], 4⟩
def SYw (p : T_Pinned) (k : Nat) (w m : Int) : St :=
  ⟨[pinA p, .pt 3 0 0 0, .p .any, .p .any, .p (.int .i64 w), .p (.int .i64 m)] ++ List.replicate 5 anyA ++ [.p (.int .i64 p.1.2.1.1), .p (.int .i64 k)] ++ List.replicate 14 anyA, [(0, boxP p)], 1⟩
def SYv (p : T_Pinned) (k : Nat) (w m : Int) : St :=
  ⟨[pinA p, .pt 3 0 0 0, .p .any, .p .any, .p (.int .i64 w), .p (.int .i64 m), .p (.int .i64 k)] ++ List.replicate 20 anyA, [(0, boxP p)], 1⟩
theorem zqRb (v : T_Graph) (e : Nat) :
    pathOb Tryz.prog Tryz.f54 0 [rg 3, rm [(1, oc [] (.p (.bool true)))] 12, .dec false, rg 17] [.code (bodyOf Tryz.f54)] (start Tryz.f54 [] 0 [graphA v, .p (.int .i64 e)]) [960] 1 [(0, brOb (v.2.1.1 - 1) (delB v.2.1.1 v.2.1.2 e))] (.tup [.agg [.p (.int .i64 v.1), .ar 2 0 0 (v.2.1.1 - 1)], .p (.bool true)]) =
    some [(NT 0 1),Con Tryz.prog 86 0 [] [(zf106 v)] [] (.p (.bool true)),(AG (!!true)),(((!true) = false) →  ((!!true) = true)),(AG (!bif !true then true else decide ((↑e : Int) < 0))),(((!bif !true then true else decide ((↑e : Int) < 0)) = true) → (NT 0 1)),(AG (!bif !true then true else decide ((↑e : Int) < 0))),(AG (!bif !true then true else decide ((↑e : Int) < 0))),(AG (!bif !true then true else decide ((↑e : Int) < 0))),(((bif !true then true else decide ((↑e : Int) < 0)) = false) →  ((!bif !true then true else decide ((↑e : Int) < 0)) = true)),((bif bif !true then true else decide ((↑e : Int) < 0) then true else decide ((↑e : Int) ≥ (↑v.2.1.1 : Int))) = false),(NT 0 1),(NT 0 1),(IL 0 0),(IL 0 (↑e : Int)),(IL (↑e : Int) (↑v.2.1.1 : Int)),(NL 0 0),(NL ((0 + e) * 16) 140737488355328),(NL (0 + e) 9223372036854775807),(NT 0 1),(R0 ((↑e : Int) + 1)),(R1 ((↑e : Int) + 1)),(IL 0 ((↑e : Int) + 1)),(IL ((↑e : Int) + 1) (↑v.2.1.1 : Int)),(IL (↑v.2.1.1 : Int) (↑v.2.1.1 : Int)),(NL (0 + e) (0 + e)),(NL ((0 + e + (v.2.1.1 - (e + 1))) * 16) 140737488355328),(NL (0 + e + (v.2.1.1 - (e + 1))) 9223372036854775807),(NT 0 1),((true = true) →  (AN 1)),(NT 0 1),(AI v.1),(AN 0),(((0 + e + (v.2.1.1 - (e + 1))) : Nat) = (v.2.1.1 - 1)),(true = true),(AN 2),(NL (v.2.1.1 - 1) (0 + e + (v.2.1.1 - (e + 1)))),(CV [(32, ⟨true, 2, 1, (fun i_1 => [.p (.int .i64 v.1), .ar 2 960 0 (0 + e + (v.2.1.1 - (e + 1)))])⟩), (960, ⟨false, 2, (0 + e + (v.2.1.1 - (e + 1))), (fun i_1 => (if (i_1 < 0 + e) then [.p (.int .i64 ((v.2.1.2 i_1).1)), .p (.int .i64 ((v.2.1.2 i_1).2.1))] else [.p (.int .i64 ((v.2.1.2 (i_1 - (0 + e) + (e + 1))).1)), .p (.int .i64 ((v.2.1.2 (i_1 - (0 + e) + (e + 1))).2.1))]))⟩), (0, ⟨true, 2, 1, (fun i_1 => [.p (.int .i64 v.1), .p (.seq true 2 v.2.1.1 (fun i_2 => [.int .i64 ((v.2.1.2 i_2).1), .int .i64 ((v.2.1.2 i_2).2.1)]))])⟩)] [960] 1 (v.2.1.1 - 1) (fun i => if (i < 0 + e) then [.p (.int .i64 ((v.2.1.2 i).1)), .p (.int .i64 ((v.2.1.2 i).2.1))] else [.p (.int .i64 ((v.2.1.2 (i - (0 + e) + (e + 1))).1)), .p (.int .i64 ((v.2.1.2 (i - (0 + e) + (e + 1))).2.1))]) (fun i => [.p (.int .i64 ((delB v.2.1.1 v.2.1.2 e i).1)), .p (.int .i64 ((delB v.2.1.1 v.2.1.2 e i).2.1))])),(AE ((v.2.1.1 - 1)))] := by kernel_rfl
theorem zqLl (p : T_Pinned) (e n : Nat) (h : Nat → T_Bar) :
    pathOb Tryz.prog Tryz.f26 0 [rg 2, rm [(3, oc [(0, brOb n h)] (.tup [.agg [.p (.int .i64 p.1.1), .ar 2 0 0 n], .p (.bool true)]))] 6, rg 7] [.code (bodyOf Tryz.f26)] (start Tryz.f26 [] 0 [pinA p, .p (.int .i64 e)]) [160, 512] 1 [(0, brOb n h), (1, iOb p.2.1.1 p.2.1.2)] (.agg [.p (.int .i64 p.1.1), .ar 2 0 0 n, .ar 1 1 0 p.2.1.1]) =
    some [(NT 0 1),Con Tryz.prog 54 0 [] [(zf103 p), .p (.int .i64 (↑e : Int))] (zf121 n h) (.tup [.agg [.p (.int .i64 p.1.1), .ar 2 0 0 n], .p (.bool true)]),(NT 0 1),((true = true) →  (AN 1)),(NT 0 1),(NT 0 1),(NL 0 0),(NL ((0 + p.2.1.1) * 8) 140737488355328),(NL (0 + p.2.1.1) 9223372036854775807),(NT 0 1),((true = true) →  (AN 1)),(NT 0 1),(AI p.1.1),(AN 0),(AN n),(AN 0),(((0 + p.2.1.1) : Nat) = p.2.1.1),(AN 2),(NL n n),(AA n (fun i => [.p (.int .i64 ((h i).1)), .p (.int .i64 ((h i).2.1))])),(AN 1),(NL p.2.1.1 (0 + p.2.1.1)),(AA p.2.1.1 (fun i => [.p (.int .i64 (p.2.1.2 i))])),(AE n),(AE p.2.1.1)] := by kernel_rfl
theorem zqWo (p : T_Pinned) (e n : Nat) (h : Nat → T_Bar) :
    pathOb Tryz.prog Tryz.f37 0 [rg 2, rm [(1, oc [(0, brOb p.1.2.1.1 p.1.2.1.2), (1, iOb p.2.1.1 p.2.1.2)] (zf128 p))] 2, rm [(6, oq [96] [(0, brOb p.1.2.1.1 h)] (.ar 2 0 0 n))] 3, rg 2] [.code (bodyOf Tryz.f37)] (start Tryz.f37 [] 0 [pinA p, .p (.int .i64 e)]) [96, 97] 1 [(0, brOb n h), (1, iOb p.2.1.1 p.2.1.2)] (.agg [.p (.int .i64 p.1.1), .ar 2 0 0 n, .ar 1 1 0 p.2.1.1]) =
    some [(NT 0 1),Con Tryz.prog 40 0 [] [(zf26 p)] (zf31 p) ((zf128 p)),(NT 0 1),((true = true) →  (AN 1)),(NT 0 1),(R0 ((↑e : Int) + 1)),(R1 ((↑e : Int) + 1)),(AE p.1.2.1.1),Con Tryz.prog 66 1 (zf110 p) [.ar 2 0 0 p.1.2.1.1, .p (.int .i64 (↑e : Int)), .p (.int .i64 ((↑e : Int) + 1))] [(0, ⟨false, 2, p.1.2.1.1, (fun i => [.p (.int .i64 ((h i).1)), .p (.int .i64 ((h i).2.1))])⟩)] (.ar 2 0 0 n),(NT 0 1),((true = true) →  (AN 1)),(NT 0 1),(NT 0 1),((true = true) →  (AN 1)),(NT 0 1),(AI p.1.1),(AN 0),(AN n),(AN 0),(AN p.2.1.1),(AN 2),(NL n p.1.2.1.1),(AA n (fun i => [.p (.int .i64 ((h i).1)), .p (.int .i64 ((h i).2.1))])),(AN 1),(NL p.2.1.1 p.2.1.1),(AA p.2.1.1 (fun i => [.p (.int .i64 (p.2.1.2 i))])),(AE n),(AE p.2.1.1)] := by kernel_rfl
theorem zqSz (p : T_Pinned) :
    pieceOb Tryz.prog 0 [rg 2, rg 2, rg 1, .head] [.code (bodyOf Tryz.f56)] (start Tryz.f56 [] 0 [pinA p]) [0, 64] 1 (SYs p 0 0 (fun _ => 0)) =
    some (zf76, [(AI p.1.1),(AN p.1.2.1.1),(AP p.1.2.1.1 (fun i => [.int .i64 ((p.1.2.1.2 i).1), .int .i64 ((p.1.2.1.2 i).2.1)])),(AN p.2.1.1),(AP p.2.1.1 (fun i => [.int .i64 (p.2.1.2 i)])),(AN 0),(AN 0),(AN 0),((0 : Int) = (↑0 : Int)),((([AV.p (PV.int IntKind.i64 p.1.1), graphL p.1.2.1, inL p.2.1].length) : Nat) = 3),(NL 1 1),(NL 1 1),(AI p.1.1),(AN p.1.2.1.1),(AP p.1.2.1.1 (fun i => [.int .i64 ((p.1.2.1.2 i).1), .int .i64 ((p.1.2.1.2 i).2.1)])),(AN p.2.1.1),(AP p.2.1.1 (fun i => [.int .i64 (p.2.1.2 i)])),(AN 1),(NL 0 0),(AA 0 (fun i => [.p (.int .i64 0)]))]) := by kernel_rfl
theorem zqSa (p : T_Pinned) (v n m : Nat) (h : Nat → Int) (r : Nat → T_Bar) (b1 b2 : Bool) :
    pieceOb Tryz.prog 0 [rm [(7, oc [] (.p (.bool true)))] 1, .dec true, rm [(1, oc [(0, brOb m r)] (.agg [.p (.int .i64 p.1.1), .ar 2 0 0 m]))] 2, rm [(6, oc [] (.p (.bool b1))), (7, oc [] (.p (.bool b2)))] 1, .dec true, rg 5, rg 3, .head] zf76 (SYs p v n h) [0, 1026] 1 (SYs p (v + 1) (n + 1) (snI n h v)) =
    some (zf76, [(NT 0 1),(((decide ((↑v : Int) < p.1.1)) = true) → (NT 0 1)),(AG (decide ((↑v : Int) < p.1.1))),(((decide ((↑v : Int) < p.1.1)) = true) →  Con Tryz.prog 51 0 [] [(zf26 p)] [] (.p (.bool true))),(AG (decide ((↑v : Int) < p.1.1))),((bif decide ((↑v : Int) < p.1.1) then true else false) = true),(NT 0 1),Con Tryz.prog 90 0 [] [(zf26 p)] (zf121 m r) (.agg [.p (.int .i64 p.1.1), .ar 2 0 0 m]),(NT 0 1),((true = true) →  (AN 1)),(NT 0 1),(NT 0 1),(IL 0 0),(IT 0 (↑p.2.1.1 : Int)),(AN 2),(NL m m),Con Tryz.prog 91 0 [] [(zf113 p m r), .p (.int .i64 (p.2.1.2 0)), .p (.int .i64 (↑v : Int))] [] (.p (.bool b1)),((b1 = true) → (NT 0 1)),(AG b1),((b1 = true) → (NT 0 1)),(AG b1),((b1 = true) → (IL 0 1)),((b1 = true) → (IT 1 (↑p.2.1.1 : Int))),(AG b1),(AG b1),(AG b1),(AG b1),((b1 = true) →  (AN 2)),((b1 = true) → (NL m m)),((b1 = true) →  Con Tryz.prog 91 0 [] [(zf113 p m r), .p (.int .i64 (p.2.1.2 1)), .p (.int .i64 (↑v : Int))] [] (.p (.bool b2))),(AG b1),((bif b1 then b2 else false) = true),(NL 1 1),(NL n n),(NL ((n + 1) * 8) 140737488355328),(NL (n + 1) 9223372036854775807),(R0 ((↑v : Int) + 1)),(R1 ((↑v : Int) + 1)),(AI p.1.1),(AN p.1.2.1.1),(AP p.1.2.1.1 (fun i => [.int .i64 ((p.1.2.1.2 i).1), .int .i64 ((p.1.2.1.2 i).2.1)])),(AN p.2.1.1),(AP p.2.1.1 (fun i => [.int .i64 (p.2.1.2 i)])),(AN 0),(AN 0),(AN ((n + 1))),((((↑v : Int) + 1) : Int) = (↑(v + 1) : Int)),(AN 3),(NL 1 1),(NL 1 1),(AI p.1.1),(AN p.1.2.1.1),(AP p.1.2.1.1 (fun i => [.int .i64 ((p.1.2.1.2 i).1), .int .i64 ((p.1.2.1.2 i).2.1)])),(AN p.2.1.1),(AP p.2.1.1 (fun i => [.int .i64 (p.2.1.2 i)])),(AN 1),(NL (n + 1) (n + 1)),(CV [(1026, ⟨false, 1, (n + 1), (fun i_1 => (if (i_1 < n) then [.p (.int .i64 (h i_1))] else [.p (.int .i64 (↑v : Int))]))⟩), (994, ⟨false, 1, 1, (fun i_1 => [.p (.int .i64 (↑v : Int))])⟩), (354, ⟨true, 2, 1, (fun i_1 => [.p (.int .i64 p.1.1), .ar 2 322 0 m])⟩), (322, ⟨false, 2, m, (fun i_1 => [.p (.int .i64 ((r i_1).1)), .p (.int .i64 ((r i_1).2.1))])⟩), (0, ⟨true, 3, 1, (fun i_1 => [.p (.int .i64 p.1.1), .p (.seq true 2 p.1.2.1.1 (fun i_2 => [.int .i64 ((p.1.2.1.2 i_2).1), .int .i64 ((p.1.2.1.2 i_2).2.1)])), .p (.seq true 1 p.2.1.1 (fun i_2 => [.int .i64 (p.2.1.2 i_2)]))])⟩)] [0, 1026] 1 (n + 1) (fun i => if (i < n) then [.p (.int .i64 (h i))] else [.p (.int .i64 (↑v : Int))]) (fun i => [.p (.int .i64 (snI n h (↑v : Int) i))]))]) := by kernel_rfl
theorem zqSb (p : T_Pinned) (v n m : Nat) (h : Nat → Int) (r : Nat → T_Bar) (b1 b2 : Bool) :
    pieceOb Tryz.prog 0 [rm [(7, oc [] (.p (.bool true)))] 1, .dec true, rm [(1, oc [(0, brOb m r)] (.agg [.p (.int .i64 p.1.1), .ar 2 0 0 m]))] 2, rm [(6, oc [] (.p (.bool b1))), (7, oc [] (.p (.bool b2)))] 1, .dec false, rg 3, .head] zf76 (SYs p v n h) [0, 1] 1 (SYs p (v + 1) n h) =
    some (zf76, [(NT 0 1),(((decide ((↑v : Int) < p.1.1)) = true) → (NT 0 1)),(AG (decide ((↑v : Int) < p.1.1))),(((decide ((↑v : Int) < p.1.1)) = true) →  Con Tryz.prog 51 0 [] [(zf26 p)] [] (.p (.bool true))),(AG (decide ((↑v : Int) < p.1.1))),((bif decide ((↑v : Int) < p.1.1) then true else false) = true),(NT 0 1),Con Tryz.prog 90 0 [] [(zf26 p)] (zf121 m r) (.agg [.p (.int .i64 p.1.1), .ar 2 0 0 m]),(NT 0 1),((true = true) →  (AN 1)),(NT 0 1),(NT 0 1),(IL 0 0),(IT 0 (↑p.2.1.1 : Int)),(AN 2),(NL m m),Con Tryz.prog 91 0 [] [(zf113 p m r), .p (.int .i64 (p.2.1.2 0)), .p (.int .i64 (↑v : Int))] [] (.p (.bool b1)),((b1 = true) → (NT 0 1)),(AG b1),((b1 = true) → (NT 0 1)),(AG b1),((b1 = true) → (IL 0 1)),((b1 = true) → (IT 1 (↑p.2.1.1 : Int))),(AG b1),(AG b1),(AG b1),(AG b1),((b1 = true) →  (AN 2)),((b1 = true) → (NL m m)),((b1 = true) →  Con Tryz.prog 91 0 [] [(zf113 p m r), .p (.int .i64 (p.2.1.2 1)), .p (.int .i64 (↑v : Int))] [] (.p (.bool b2))),(AG b1),((bif b1 then b2 else false) = false),(R0 ((↑v : Int) + 1)),(R1 ((↑v : Int) + 1)),(AI p.1.1),(AN p.1.2.1.1),(AP p.1.2.1.1 (fun i => [.int .i64 ((p.1.2.1.2 i).1), .int .i64 ((p.1.2.1.2 i).2.1)])),(AN p.2.1.1),(AP p.2.1.1 (fun i => [.int .i64 (p.2.1.2 i)])),(AN 0),(AN 0),(AN n),((((↑v : Int) + 1) : Int) = (↑(v + 1) : Int)),(AN 3),(NL 1 1),(NL 1 1),(AI p.1.1),(AN p.1.2.1.1),(AP p.1.2.1.1 (fun i => [.int .i64 ((p.1.2.1.2 i).1), .int .i64 ((p.1.2.1.2 i).2.1)])),(AN p.2.1.1),(AP p.2.1.1 (fun i => [.int .i64 (p.2.1.2 i)])),(AN 1),(NL n n),(AA n (fun i => [.p (.int .i64 (h i))]))]) := by kernel_rfl
theorem zqSe (p : T_Pinned) (v n : Nat) (h : Nat → Int) (b : Bool) :
    pathOb Tryz.prog Tryz.f56 0 [rm [(7, oc [] (.p (.bool b)))] 1, .dec false, rg 2] zf76 (SYs p v n h) [1] 1 [(0, iOb n h)] (.ar 1 0 0 n) =
    some [(NT 0 1),(((decide ((↑v : Int) < p.1.1)) = true) → (NT 0 1)),(AG (decide ((↑v : Int) < p.1.1))),(((decide ((↑v : Int) < p.1.1)) = true) →  Con Tryz.prog 51 0 [] [(zf26 p)] [] (.p (.bool b))),(AG (decide ((↑v : Int) < p.1.1))),((bif decide ((↑v : Int) < p.1.1) then b else false) = false),(AN 0),(AN n),(AN 1),(NL n n),(AA n (fun i => [.p (.int .i64 (h i))])),(AE n)] := by kernel_rfl
theorem zqIn (p : T_Pinned) :
    pathOb Tryz.prog Tryz.f69 0 [rg 2, rg 2, rm [(1, oc [] (.p (.bool false)))] 1, .dec true, rg 2] [.code (bodyOf Tryz.f69)] (start Tryz.f69 [] 0 [pinA p]) [64] 1 [(0, iOb 0 (fun _ => 0))] (.ar 1 0 0 0) =
    some [(NT 0 1),Con Tryz.prog 63 0 [] [(zf26 p)] [] (.p (.bool false)),((!false) = true),(AN 0),(AN 0),(AN 1),(NL 0 0),(AA 0 (fun i => [.p (.int .i64 0)])),(AE 0)] := by kernel_rfl
theorem zqIz (p : T_Pinned) (n m : Nat) (h r : Nat → T_Bar) :
    pieceOb Tryz.prog 0 [rg 2, rg 2, rm [(1, oc [] (.p (.bool true)))] 1, .dec false, rm [(1, oc [(0, brOb n h)] (.ar 2 0 0 n))] 5, rg 4, .head] [.code (bodyOf Tryz.f69)] (start Tryz.f69 [] 0 [pinA p]) [0, 64, 384] 1 (SYi p 0 0 m (fun _ => 0) r) =
    some (zf38, [(NT 0 1),Con Tryz.prog 63 0 [] [(zf26 p)] [] (.p (.bool true)),((!true) = false),(NT 0 1),Con Tryz.prog 104 0 [] [(zf26 p)] (zf121 n h) (.ar 2 0 0 n),(NT 0 1),(NL n n),(NL ((n + p.1.2.1.1) * 16) 140737488355328),(NL (n + p.1.2.1.1) 9223372036854775807),(NT 0 1),(AI p.1.1),(AN p.1.2.1.1),(AP p.1.2.1.1 (fun i => [.int .i64 ((p.1.2.1.2 i).1), .int .i64 ((p.1.2.1.2 i).2.1)])),(AN p.2.1.1),(AP p.2.1.1 (fun i => [.int .i64 (p.2.1.2 i)])),(AN 0),(AN 0),(AN 0),(AN 0),(((n + p.1.2.1.1) : Nat) = m),(AI p.1.1),((0 : Int) = (↑0 : Int)),((([AV.p (PV.int IntKind.i64 p.1.1), graphL p.1.2.1, inL p.2.1].length) : Nat) = 3),(NL 1 1),(NL 1 1),(AI p.1.1),(AN p.1.2.1.1),(AP p.1.2.1.1 (fun i => [.int .i64 ((p.1.2.1.2 i).1), .int .i64 ((p.1.2.1.2 i).2.1)])),(AN p.2.1.1),(AP p.2.1.1 (fun i => [.int .i64 (p.2.1.2 i)])),(AN 1),(NL 0 0),(AA 0 (fun i => [.p (.int .i64 0)])),(AN 2),(NL m (n + p.1.2.1.1)),(CV [(384, ⟨false, 2, (n + p.1.2.1.1), (fun i_1 => (if (i_1 < n) then [.p (.int .i64 ((h i_1).1)), .p (.int .i64 ((h i_1).2.1))] else [.p (.int .i64 ((p.1.2.1.2 (i_1 - n)).1)), .p (.int .i64 ((p.1.2.1.2 (i_1 - n)).2.1))]))⟩), (64, ⟨false, 1, 0, (fun i_1 => [.p (.int .i64 0)])⟩), (0, ⟨true, 3, 1, (fun i_1 => [.p (.int .i64 p.1.1), .p (.seq true 2 p.1.2.1.1 (fun i_2 => [.int .i64 ((p.1.2.1.2 i_2).1), .int .i64 ((p.1.2.1.2 i_2).2.1)])), .p (.seq true 1 p.2.1.1 (fun i_2 => [.int .i64 (p.2.1.2 i_2)]))])⟩)] [0, 64, 384] 1 m (fun i => if (i < n) then [.p (.int .i64 ((h i).1)), .p (.int .i64 ((h i).2.1))] else [.p (.int .i64 ((p.1.2.1.2 (i - n)).1)), .p (.int .i64 ((p.1.2.1.2 (i - n)).2.1))]) (fun i => [.p (.int .i64 ((r i).1)), .p (.int .i64 ((r i).2.1))]))]) := by kernel_rfl
theorem zqIo (p : T_Pinned) (v n m : Nat) (h : Nat → Int) (r : Nat → T_Bar) :
    pieceOb Tryz.prog 0 [rg 1, .dec true, rg 2, rg 1, rg 4, .head] zf38 (SYi p v n m h r) [0, 1, 2] 1 (SYj p v 0 n m h r true) =
    some (zf4, [((decide ((↑v : Int) < p.1.1)) = true),(NT 0 1),(AI p.1.1),(AN p.1.2.1.1),(AP p.1.2.1.1 (fun i => [.int .i64 ((p.1.2.1.2 i).1), .int .i64 ((p.1.2.1.2 i).2.1)])),(AN p.2.1.1),(AP p.2.1.1 (fun i => [.int .i64 (p.2.1.2 i)])),(AN 0),(AN 0),(AN n),(AN 0),(AN m),(AI ((↑v : Int))),(true = true),(AI p.1.1),(AI ((↑v : Int))),(AN p.2.1.1),(AP p.2.1.1 (fun i => [.int .i64 (p.2.1.2 i)])),(AI ((↑p.2.1.1 : Int))),((0 : Int) = (↑0 : Int)),(AN 3),(NL 1 1),(NL 1 1),(AI p.1.1),(AN p.1.2.1.1),(AP p.1.2.1.1 (fun i => [.int .i64 ((p.1.2.1.2 i).1), .int .i64 ((p.1.2.1.2 i).2.1)])),(AN p.2.1.1),(AP p.2.1.1 (fun i => [.int .i64 (p.2.1.2 i)])),(AN 1),(NL n n),(AA n (fun i => [.p (.int .i64 (h i))])),(AN 2),(NL m m),(AA m (fun i => [.p (.int .i64 ((r i).1)), .p (.int .i64 ((r i).2.1))]))]) := by kernel_rfl
theorem zqIi (p : T_Pinned) (v j n m : Nat) (h : Nat → Int) (r : Nat → T_Bar) (b q : Bool) (x : T_Bar) :
    pieceOb Tryz.prog 0 [rg 1, .dec true, rg 3, rm [(12, oc [] (.agg [.p (.int .i64 x.1), .p (.int .i64 x.2.1)])), (0, oc [] (.p (.bool q)))] 4, rg 2, .head] zf4 (SYj p v j n m h r b) [0, 1, 2] 1 (SYj p v (j + 1) n m h r (bif b then (bif p.2.1.2 j == (v : Int) then true else !q) else false)) =
    some (zf4, [((decide ((↑j : Int) < (↑p.2.1.1 : Int))) = true),(IL 0 (↑j : Int)),(IT (↑j : Int) (↑p.2.1.1 : Int)),(AG b),(AG b),(AG b),(AG (b && !p.2.1.2 j == (↑v : Int))),(AG (b && !p.2.1.2 j == (↑v : Int))),(((b && !p.2.1.2 j == (↑v : Int)) = true) → (NT 0 1)),(AG (b && !p.2.1.2 j == (↑v : Int))),(AG (b && !p.2.1.2 j == (↑v : Int))),(((b && !p.2.1.2 j == (↑v : Int)) = true) →  Con Tryz.prog 36 0 [] [.p (.int .i64 (p.2.1.2 j)), .p (.int .i64 (↑v : Int))] [] (.agg [.p (.int .i64 x.1), .p (.int .i64 x.2.1)])),(AG (b && !p.2.1.2 j == (↑v : Int))),(AG (b && !p.2.1.2 j == (↑v : Int))),(AG (b && !p.2.1.2 j == (↑v : Int))),(((b && !p.2.1.2 j == (↑v : Int)) = true) →  (AN 2)),(((b && !p.2.1.2 j == (↑v : Int)) = true) → (NL m m)),(((b && !p.2.1.2 j == (↑v : Int)) = true) →  Con Tryz.prog 105 0 [] [.p (.int .i64 p.1.1), .p (.seq true 2 m (fun i => [.int .i64 ((r i).1), .int .i64 ((r i).2.1)])), .agg [.p (.int .i64 x.1), .p (.int .i64 x.2.1)]] [] (.p (.bool q))),(AG (b && !p.2.1.2 j == (↑v : Int))),(AG b),((b = true) → (((p.2.1.2 j == (↑v : Int)) = false) →  ((b && !p.2.1.2 j == (↑v : Int)) = true))),(AG b),(R0 ((↑j : Int) + 1)),(R1 ((↑j : Int) + 1)),(AI p.1.1),(AN p.1.2.1.1),(AP p.1.2.1.1 (fun i => [.int .i64 ((p.1.2.1.2 i).1), .int .i64 ((p.1.2.1.2 i).2.1)])),(AN p.2.1.1),(AP p.2.1.1 (fun i => [.int .i64 (p.2.1.2 i)])),(AN 0),(AN 0),(AN n),(AN 0),(AN m),(AI ((↑v : Int))),((bif b then bif p.2.1.2 j == (↑v : Int) then true else !q else false) = (bif b then bif p.2.1.2 j == (↑v : Int) then true else !q else false)),(AI p.1.1),(AI ((↑v : Int))),(AN p.2.1.1),(AP p.2.1.1 (fun i => [.int .i64 (p.2.1.2 i)])),(AI ((↑p.2.1.1 : Int))),((((↑j : Int) + 1) : Int) = (↑(j + 1) : Int)),(AN 3),(NL 1 1),(NL 1 1),(AI p.1.1),(AN p.1.2.1.1),(AP p.1.2.1.1 (fun i => [.int .i64 ((p.1.2.1.2 i).1), .int .i64 ((p.1.2.1.2 i).2.1)])),(AN p.2.1.1),(AP p.2.1.1 (fun i => [.int .i64 (p.2.1.2 i)])),(AN 1),(NL n n),(AA n (fun i => [.p (.int .i64 (h i))])),(AN 2),(NL m m),(AA m (fun i => [.p (.int .i64 ((r i).1)), .p (.int .i64 ((r i).2.1))]))]) := by kernel_rfl
theorem zqIt (p : T_Pinned) (v j n m : Nat) (h : Nat → Int) (r : Nat → T_Bar) (b : Bool) :
    pieceOb Tryz.prog 0 [rg 1, .dec false, rg 1, .dec true, rg 5, rg 2, .head] zf4 (SYj p v j n m h r b) [0, 163, 2] 1 (SYi p (v + 1) (n + 1) m (snI n h v) r) =
    some (zf38, [((decide ((↑j : Int) < (↑p.2.1.1 : Int))) = false),(b = true),(NL 1 1),(NL n n),(NL ((n + 1) * 8) 140737488355328),(NL (n + 1) 9223372036854775807),(R0 ((↑v : Int) + 1)),(R1 ((↑v : Int) + 1)),(AI p.1.1),(AN p.1.2.1.1),(AP p.1.2.1.1 (fun i => [.int .i64 ((p.1.2.1.2 i).1), .int .i64 ((p.1.2.1.2 i).2.1)])),(AN p.2.1.1),(AP p.2.1.1 (fun i => [.int .i64 (p.2.1.2 i)])),(AN 0),(AN 0),(AN ((n + 1))),(AN 0),(AN m),(AI p.1.1),((((↑v : Int) + 1) : Int) = (↑(v + 1) : Int)),(AN 3),(NL 1 1),(NL 1 1),(AI p.1.1),(AN p.1.2.1.1),(AP p.1.2.1.1 (fun i => [.int .i64 ((p.1.2.1.2 i).1), .int .i64 ((p.1.2.1.2 i).2.1)])),(AN p.2.1.1),(AP p.2.1.1 (fun i => [.int .i64 (p.2.1.2 i)])),(AN 1),(NL (n + 1) (n + 1)),(CV [(163, ⟨false, 1, (n + 1), (fun i_1 => (if (i_1 < n) then [.p (.int .i64 (h i_1))] else [.p (.int .i64 (↑v : Int))]))⟩), (131, ⟨false, 1, 1, (fun i_1 => [.p (.int .i64 (↑v : Int))])⟩), (0, ⟨true, 3, 1, (fun i_1 => [.p (.int .i64 p.1.1), .p (.seq true 2 p.1.2.1.1 (fun i_2 => [.int .i64 ((p.1.2.1.2 i_2).1), .int .i64 ((p.1.2.1.2 i_2).2.1)])), .p (.seq true 1 p.2.1.1 (fun i_2 => [.int .i64 (p.2.1.2 i_2)]))])⟩), (2, ⟨false, 2, m, (fun i_1 => [.p (.int .i64 ((r i_1).1)), .p (.int .i64 ((r i_1).2.1))])⟩)] [0, 163, 2] 1 (n + 1) (fun i => if (i < n) then [.p (.int .i64 (h i))] else [.p (.int .i64 (↑v : Int))]) (fun i => [.p (.int .i64 (snI n h (↑v : Int) i))])),(AN 2),(NL m m),(AA m (fun i => [.p (.int .i64 ((r i).1)), .p (.int .i64 ((r i).2.1))]))]) := by kernel_rfl
theorem zqIf (p : T_Pinned) (v j n m : Nat) (h : Nat → Int) (r : Nat → T_Bar) (b : Bool) :
    pieceOb Tryz.prog 0 [rg 1, .dec false, rg 1, .dec false, rg 2, .head] zf4 (SYj p v j n m h r b) [0, 1, 2] 1 (SYi p (v + 1) n m h r) =
    some (zf38, [((decide ((↑j : Int) < (↑p.2.1.1 : Int))) = false),(b = false),(R0 ((↑v : Int) + 1)),(R1 ((↑v : Int) + 1)),(AI p.1.1),(AN p.1.2.1.1),(AP p.1.2.1.1 (fun i => [.int .i64 ((p.1.2.1.2 i).1), .int .i64 ((p.1.2.1.2 i).2.1)])),(AN p.2.1.1),(AP p.2.1.1 (fun i => [.int .i64 (p.2.1.2 i)])),(AN 0),(AN 0),(AN n),(AN 0),(AN m),(AI p.1.1),((((↑v : Int) + 1) : Int) = (↑(v + 1) : Int)),(AN 3),(NL 1 1),(NL 1 1),(AI p.1.1),(AN p.1.2.1.1),(AP p.1.2.1.1 (fun i => [.int .i64 ((p.1.2.1.2 i).1), .int .i64 ((p.1.2.1.2 i).2.1)])),(AN p.2.1.1),(AP p.2.1.1 (fun i => [.int .i64 (p.2.1.2 i)])),(AN 1),(NL n n),(AA n (fun i => [.p (.int .i64 (h i))])),(AN 2),(NL m m),(AA m (fun i => [.p (.int .i64 ((r i).1)), .p (.int .i64 ((r i).2.1))]))]) := by kernel_rfl
theorem zqIe (p : T_Pinned) (v n m : Nat) (h : Nat → Int) (r : Nat → T_Bar) :
    pathOb Tryz.prog Tryz.f69 0 [rg 1, .dec false, rg 2] zf38 (SYi p v n m h r) [1] 1 [(0, iOb n h)] (.ar 1 0 0 n) =
    some [((decide ((↑v : Int) < p.1.1)) = false),(AN 0),(AN n),(AN 1),(NL n n),(AA n (fun i => [.p (.int .i64 (h i))])),(AE n)] := by kernel_rfl
theorem zqFz (p : T_Pinned) (e a b nb : Nat) (r s : Nat → Int) (g : Nat → T_Bar) :
    pieceOb Tryz.prog 0 [rg 2, rg 2, rm [(1, oc [] (.p (.bool true))), (8, oc [] (.p (.bool true)))] 2, .dec false, rm [(2, oc [(0, brOb nb g), (1, iOb p.2.1.1 p.2.1.2)] (.agg [.p (.int .i64 p.1.1), .ar 2 0 0 nb, .ar 1 1 0 p.2.1.1])), (0, oc [(0, iOb a r)] (.ar 1 0 0 a))] 1, rm [(1, oc [(0, iOb b s)] (.ar 1 0 0 b))] 2, .head] [.code (bodyOf Tryz.f106)] (start Tryz.f106 [] 0 [pinA p, .p (.int .i64 e)]) [0, 64, 640, 736] 1 (SYf p e 0 0 a b (fun _ => 0) r s) =
    some (zf36, [(NT 0 1),Con Tryz.prog 63 0 [] [(zf26 p)] [] (.p (.bool true)),(AG (!!true)),(AG (!!true)),(((!!true) = true) → (NT 0 1)),(AG (!!true)),(AG (!!true)),(((!!true) = true) → (R0 ((↑p.1.2.1.1 : Int) - 1))),(((!!true) = true) → (R1 ((↑p.1.2.1.1 : Int) - 1))),(AG (!!true)),(AG (!!true)),(((!!true) = true) →  Con Tryz.prog 116 0 [] [.p (.int .i64 (↑e : Int)), .p (.int .i64 0), .p (.int .i64 ((↑p.1.2.1.1 : Int) - 1))] [] (.p (.bool true))),(AG (!!true)),(((!true) = false) →  ((!!true) = true)),((bif !true then true else !true) = false),(NT 0 1),Con Tryz.prog 37 0 [] [(zf26 p), .p (.int .i64 (↑e : Int))] [(0, ⟨false, 2, nb, (fun i => [.p (.int .i64 ((g i).1)), .p (.int .i64 ((g i).2.1))])⟩), (1, ⟨false, 1, p.2.1.1, (fun i => [.p (.int .i64 (p.2.1.2 i))])⟩)] (.agg [.p (.int .i64 p.1.1), .ar 2 0 0 nb, .ar 1 1 0 p.2.1.1]),(AN 2),(NL nb nb),(AN 1),(NL p.2.1.1 p.2.1.1),Con Tryz.prog 69 0 [] [.agg [.p (.int .i64 p.1.1), .p (.seq true 2 nb (fun i => [.int .i64 ((g i).1), .int .i64 ((g i).2.1)])), .p (.seq true 1 p.2.1.1 (fun i => [.int .i64 (p.2.1.2 i)]))]] [(0, ⟨false, 1, a, (fun i => [.p (.int .i64 (r i))])⟩)] (.ar 1 0 0 a),(NT 0 1),Con Tryz.prog 69 0 [] [(zf26 p)] [(0, ⟨false, 1, b, (fun i => [.p (.int .i64 (s i))])⟩)] (.ar 1 0 0 b),(AI p.1.1),(AN p.1.2.1.1),(AP p.1.2.1.1 (fun i => [.int .i64 ((p.1.2.1.2 i).1), .int .i64 ((p.1.2.1.2 i).2.1)])),(AN p.2.1.1),(AP p.2.1.1 (fun i => [.int .i64 (p.2.1.2 i)])),(AI ((↑e : Int))),(AN 0),(AN 0),(AN 0),(AN 0),(AN a),(AN 0),(AN b),(AI ((↑b : Int))),((0 : Int) = (↑0 : Int)),((([AV.p (PV.int IntKind.i64 p.1.1), graphL p.1.2.1, inL p.2.1].length) : Nat) = 3),(NL 1 1),(NL 1 1),(AI p.1.1),(AN p.1.2.1.1),(AP p.1.2.1.1 (fun i => [.int .i64 ((p.1.2.1.2 i).1), .int .i64 ((p.1.2.1.2 i).2.1)])),(AN p.2.1.1),(AP p.2.1.1 (fun i => [.int .i64 (p.2.1.2 i)])),(AN 1),(NL 0 0),(AA 0 (fun i => [.p (.int .i64 0)])),(AN 1),(NL a a),(AA a (fun i => [.p (.int .i64 (r i))])),(AN 1),(NL b b),(AA b (fun i => [.p (.int .i64 (s i))]))]) := by kernel_rfl
theorem zqFa (p : T_Pinned) (e k n a b : Nat) (h r s : Nat → Int) :
    pieceOb Tryz.prog 0 [rg 1, .dec true, rg 3, rm [(2, oc [] (.p (.bool false)))] 1, .dec true, rg 5, rg 2, .head] zf36 (SYf p e k n a b h r s) [0, 356, 2, 3] 1 (SYf p e (k + 1) (n + 1) a b (snI n h (s k)) r s) =
    some (zf36, [((decide ((↑k : Int) < (↑b : Int))) = true),(IL 0 (↑k : Int)),(IT (↑k : Int) (↑b : Int)),(NT k b),(AN 1),(NL a a),Con Tryz.prog 99 0 [] [.p (.seq true 1 a (fun i => [.int .i64 (r i)])), .p (.int .i64 (s k))] [] (.p (.bool false)),((!false) = true),(NL 1 1),(NL n n),(NL ((n + 1) * 8) 140737488355328),(NL (n + 1) 9223372036854775807),(R0 ((↑k : Int) + 1)),(R1 ((↑k : Int) + 1)),(AI p.1.1),(AN p.1.2.1.1),(AP p.1.2.1.1 (fun i => [.int .i64 ((p.1.2.1.2 i).1), .int .i64 ((p.1.2.1.2 i).2.1)])),(AN p.2.1.1),(AP p.2.1.1 (fun i => [.int .i64 (p.2.1.2 i)])),(AI ((↑e : Int))),(AN 0),(AN 0),(AN ((n + 1))),(AN 0),(AN a),(AN 0),(AN b),(AI ((↑b : Int))),((((↑k : Int) + 1) : Int) = (↑(k + 1) : Int)),(AN 3),(NL 1 1),(NL 1 1),(AI p.1.1),(AN p.1.2.1.1),(AP p.1.2.1.1 (fun i => [.int .i64 ((p.1.2.1.2 i).1), .int .i64 ((p.1.2.1.2 i).2.1)])),(AN p.2.1.1),(AP p.2.1.1 (fun i => [.int .i64 (p.2.1.2 i)])),(AN 1),(NL (n + 1) (n + 1)),(CV [(356, ⟨false, 1, (n + 1), (fun i_1 => (if (i_1 < n) then [.p (.int .i64 (h i_1))] else [.p (.int .i64 (s k))]))⟩), (324, ⟨false, 1, 1, (fun i_1 => [.p (.int .i64 (s k))])⟩), (0, ⟨true, 3, 1, (fun i_1 => [.p (.int .i64 p.1.1), .p (.seq true 2 p.1.2.1.1 (fun i_2 => [.int .i64 ((p.1.2.1.2 i_2).1), .int .i64 ((p.1.2.1.2 i_2).2.1)])), .p (.seq true 1 p.2.1.1 (fun i_2 => [.int .i64 (p.2.1.2 i_2)]))])⟩), (2, ⟨false, 1, a, (fun i_1 => [.p (.int .i64 (r i_1))])⟩), (3, ⟨false, 1, b, (fun i_1 => [.p (.int .i64 (s i_1))])⟩)] [0, 356, 2, 3] 1 (n + 1) (fun i => if (i < n) then [.p (.int .i64 (h i))] else [.p (.int .i64 (s k))]) (fun i => [.p (.int .i64 (snI n h (s k) i))])),(AN 1),(NL a a),(AA a (fun i => [.p (.int .i64 (r i))])),(AN 1),(NL b b),(AA b (fun i => [.p (.int .i64 (s i))]))]) := by kernel_rfl
theorem zqFb (p : T_Pinned) (e k n a b : Nat) (h r s : Nat → Int) :
    pieceOb Tryz.prog 0 [rg 1, .dec true, rg 3, rm [(2, oc [] (.p (.bool true)))] 1, .dec false, rg 2, .head] zf36 (SYf p e k n a b h r s) [0, 1, 2, 3] 1 (SYf p e (k + 1) n a b h r s) =
    some (zf36, [((decide ((↑k : Int) < (↑b : Int))) = true),(IL 0 (↑k : Int)),(IT (↑k : Int) (↑b : Int)),(NT k b),(AN 1),(NL a a),Con Tryz.prog 99 0 [] [.p (.seq true 1 a (fun i => [.int .i64 (r i)])), .p (.int .i64 (s k))] [] (.p (.bool true)),((!true) = false),(R0 ((↑k : Int) + 1)),(R1 ((↑k : Int) + 1)),(AI p.1.1),(AN p.1.2.1.1),(AP p.1.2.1.1 (fun i => [.int .i64 ((p.1.2.1.2 i).1), .int .i64 ((p.1.2.1.2 i).2.1)])),(AN p.2.1.1),(AP p.2.1.1 (fun i => [.int .i64 (p.2.1.2 i)])),(AI ((↑e : Int))),(AN 0),(AN 0),(AN n),(AN 0),(AN a),(AN 0),(AN b),(AI ((↑b : Int))),((((↑k : Int) + 1) : Int) = (↑(k + 1) : Int)),(AN 3),(NL 1 1),(NL 1 1),(AI p.1.1),(AN p.1.2.1.1),(AP p.1.2.1.1 (fun i => [.int .i64 ((p.1.2.1.2 i).1), .int .i64 ((p.1.2.1.2 i).2.1)])),(AN p.2.1.1),(AP p.2.1.1 (fun i => [.int .i64 (p.2.1.2 i)])),(AN 1),(NL n n),(AA n (fun i => [.p (.int .i64 (h i))])),(AN 1),(NL a a),(AA a (fun i => [.p (.int .i64 (r i))])),(AN 1),(NL b b),(AA b (fun i => [.p (.int .i64 (s i))]))]) := by kernel_rfl
theorem zqFe (p : T_Pinned) (e k n a b : Nat) (h r s : Nat → Int) :
    pathOb Tryz.prog Tryz.f106 0 [rg 1, .dec false, rg 2] zf36 (SYf p e k n a b h r s) [1] 1 [(0, iOb n h)] (.ar 1 0 0 n) =
    some [((decide ((↑k : Int) < (↑b : Int))) = false),(AN 0),(AN n),(AN 1),(NL n n),(AA n (fun i => [.p (.int .i64 (h i))])),(AE n)] := by kernel_rfl
theorem zqGz (p : T_Pinned) (e a b nb : Nat) (r s : Nat → Int) (g : Nat → T_Bar) :
    pieceOb Tryz.prog 0 [rg 2, rg 2, rm [(1, oc [] (.p (.bool true)))] 13, .dec false, rm [(1, oc [(0, iOb b s)] (.ar 1 0 0 b))] 1, rm [(2, oc [(0, brOb nb g), (1, iOb p.2.1.1 p.2.1.2)] (.agg [.p (.int .i64 p.1.1), .ar 2 0 0 nb, .ar 1 1 0 p.2.1.1])), (0, oc [(0, iOb a r)] (.ar 1 0 0 a))] 1, rg 1, .head] [.code (bodyOf Tryz.f92)] (start Tryz.f92 [] 0 [pinA p, .p (.int .i64 e)]) [0, 64, 800, 640] 1 (SYg p e 0 0 a b (fun _ => 0) r s) =
    some (zf32, [(NT 0 1),Con Tryz.prog 51 0 [] [(zf26 p)] [] (.p (.bool true)),(AG (!!true)),(((!true) = false) →  ((!!true) = true)),(AG (!bif !true then true else decide ((↑e : Int) < 0))),(AG (!bif !true then true else decide ((↑e : Int) < 0))),(((!bif !true then true else decide ((↑e : Int) < 0)) = true) → (NT 0 1)),(AG (!bif !true then true else decide ((↑e : Int) < 0))),(AG (!bif !true then true else decide ((↑e : Int) < 0))),(AG (!bif !true then true else decide ((↑e : Int) < 0))),(((bif !true then true else decide ((↑e : Int) < 0)) = false) →  ((!bif !true then true else decide ((↑e : Int) < 0)) = true)),((bif bif !true then true else decide ((↑e : Int) < 0) then true else decide ((↑e : Int) ≥ (↑p.1.2.1.1 : Int))) = false),(NT 0 1),Con Tryz.prog 56 0 [] [(zf26 p)] [(0, ⟨false, 1, b, (fun i => [.p (.int .i64 (s i))])⟩)] (.ar 1 0 0 b),(NT 0 1),Con Tryz.prog 26 0 [] [(zf26 p), .p (.int .i64 (↑e : Int))] [(0, ⟨false, 2, nb, (fun i => [.p (.int .i64 ((g i).1)), .p (.int .i64 ((g i).2.1))])⟩), (1, ⟨false, 1, p.2.1.1, (fun i => [.p (.int .i64 (p.2.1.2 i))])⟩)] (.agg [.p (.int .i64 p.1.1), .ar 2 0 0 nb, .ar 1 1 0 p.2.1.1]),(AN 2),(NL nb nb),(AN 1),(NL p.2.1.1 p.2.1.1),Con Tryz.prog 56 0 [] [.agg [.p (.int .i64 p.1.1), .p (.seq true 2 nb (fun i => [.int .i64 ((g i).1), .int .i64 ((g i).2.1)])), .p (.seq true 1 p.2.1.1 (fun i => [.int .i64 (p.2.1.2 i)]))]] [(0, ⟨false, 1, a, (fun i => [.p (.int .i64 (r i))])⟩)] (.ar 1 0 0 a),(AI p.1.1),(AN p.1.2.1.1),(AP p.1.2.1.1 (fun i => [.int .i64 ((p.1.2.1.2 i).1), .int .i64 ((p.1.2.1.2 i).2.1)])),(AN p.2.1.1),(AP p.2.1.1 (fun i => [.int .i64 (p.2.1.2 i)])),(AI ((↑e : Int))),(AN 0),(AN 0),(AN 0),(AN 0),(AN b),(AN 0),(AN a),((0 : Int) = (↑0 : Int)),((([AV.p (PV.int IntKind.i64 p.1.1), graphL p.1.2.1, inL p.2.1].length) : Nat) = 3),(NL 1 1),(NL 1 1),(AI p.1.1),(AN p.1.2.1.1),(AP p.1.2.1.1 (fun i => [.int .i64 ((p.1.2.1.2 i).1), .int .i64 ((p.1.2.1.2 i).2.1)])),(AN p.2.1.1),(AP p.2.1.1 (fun i => [.int .i64 (p.2.1.2 i)])),(AN 1),(NL 0 0),(AA 0 (fun i => [.p (.int .i64 0)])),(AN 1),(NL a a),(AA a (fun i => [.p (.int .i64 (r i))])),(AN 1),(NL b b),(AA b (fun i => [.p (.int .i64 (s i))]))]) := by kernel_rfl
theorem zqGa (p : T_Pinned) (e k n a b : Nat) (h r s : Nat → Int) :
    pieceOb Tryz.prog 0 [rg 4, .dec true, rm [(5, oc [] (.p (.bool false)))] 1, .dec true, rg 8, rg 3, .head] zf32 (SYg p e k n a b h r s) [0, 548, 2, 3] 1 (SYg p e (k + 1) (n + 1) a b (snI n h (s k)) r s) =
    some (zf32, [((decide ((↑k : Int) < (↑b : Int))) = true),(IL 0 (↑k : Int)),(IT (↑k : Int) (↑b : Int)),(NT k b),(AN 1),(NL a a),Con Tryz.prog 84 0 [] [.p (.seq true 1 a (fun i => [.int .i64 (r i)])), .p (.int .i64 (s k))] [] (.p (.bool false)),((!false) = true),(IL 0 (↑k : Int)),(IT (↑k : Int) (↑b : Int)),(NT k b),(NL 1 1),(NL n n),(NL ((n + 1) * 8) 140737488355328),(NL (n + 1) 9223372036854775807),(R0 ((↑k : Int) + 1)),(R1 ((↑k : Int) + 1)),(AI p.1.1),(AN p.1.2.1.1),(AP p.1.2.1.1 (fun i => [.int .i64 ((p.1.2.1.2 i).1), .int .i64 ((p.1.2.1.2 i).2.1)])),(AN p.2.1.1),(AP p.2.1.1 (fun i => [.int .i64 (p.2.1.2 i)])),(AI ((↑e : Int))),(AN 0),(AN 0),(AN ((n + 1))),(AN 0),(AN b),(AN 0),(AN a),((((↑k : Int) + 1) : Int) = (↑(k + 1) : Int)),(AN 3),(NL 1 1),(NL 1 1),(AI p.1.1),(AN p.1.2.1.1),(AP p.1.2.1.1 (fun i => [.int .i64 ((p.1.2.1.2 i).1), .int .i64 ((p.1.2.1.2 i).2.1)])),(AN p.2.1.1),(AP p.2.1.1 (fun i => [.int .i64 (p.2.1.2 i)])),(AN 1),(NL (n + 1) (n + 1)),(CV [(548, ⟨false, 1, (n + 1), (fun i_1 => (if (i_1 < n) then [.p (.int .i64 (h i_1))] else [.p (.int .i64 (s k))]))⟩), (516, ⟨false, 1, 1, (fun i_1 => [.p (.int .i64 (s k))])⟩), (0, ⟨true, 3, 1, (fun i_1 => [.p (.int .i64 p.1.1), .p (.seq true 2 p.1.2.1.1 (fun i_2 => [.int .i64 ((p.1.2.1.2 i_2).1), .int .i64 ((p.1.2.1.2 i_2).2.1)])), .p (.seq true 1 p.2.1.1 (fun i_2 => [.int .i64 (p.2.1.2 i_2)]))])⟩), (2, ⟨false, 1, a, (fun i_1 => [.p (.int .i64 (r i_1))])⟩), (3, ⟨false, 1, b, (fun i_1 => [.p (.int .i64 (s i_1))])⟩)] [0, 548, 2, 3] 1 (n + 1) (fun i => if (i < n) then [.p (.int .i64 (h i))] else [.p (.int .i64 (s k))]) (fun i => [.p (.int .i64 (snI n h (s k) i))])),(AN 1),(NL a a),(AA a (fun i => [.p (.int .i64 (r i))])),(AN 1),(NL b b),(AA b (fun i => [.p (.int .i64 (s i))]))]) := by kernel_rfl
theorem zqGb (p : T_Pinned) (e k n a b : Nat) (h r s : Nat → Int) :
    pieceOb Tryz.prog 0 [rg 4, .dec true, rm [(5, oc [] (.p (.bool true)))] 1, .dec false, rg 3, .head] zf32 (SYg p e k n a b h r s) [0, 1, 2, 3] 1 (SYg p e (k + 1) n a b h r s) =
    some (zf32, [((decide ((↑k : Int) < (↑b : Int))) = true),(IL 0 (↑k : Int)),(IT (↑k : Int) (↑b : Int)),(NT k b),(AN 1),(NL a a),Con Tryz.prog 84 0 [] [.p (.seq true 1 a (fun i => [.int .i64 (r i)])), .p (.int .i64 (s k))] [] (.p (.bool true)),((!true) = false),(R0 ((↑k : Int) + 1)),(R1 ((↑k : Int) + 1)),(AI p.1.1),(AN p.1.2.1.1),(AP p.1.2.1.1 (fun i => [.int .i64 ((p.1.2.1.2 i).1), .int .i64 ((p.1.2.1.2 i).2.1)])),(AN p.2.1.1),(AP p.2.1.1 (fun i => [.int .i64 (p.2.1.2 i)])),(AI ((↑e : Int))),(AN 0),(AN 0),(AN n),(AN 0),(AN b),(AN 0),(AN a),((((↑k : Int) + 1) : Int) = (↑(k + 1) : Int)),(AN 3),(NL 1 1),(NL 1 1),(AI p.1.1),(AN p.1.2.1.1),(AP p.1.2.1.1 (fun i => [.int .i64 ((p.1.2.1.2 i).1), .int .i64 ((p.1.2.1.2 i).2.1)])),(AN p.2.1.1),(AP p.2.1.1 (fun i => [.int .i64 (p.2.1.2 i)])),(AN 1),(NL n n),(AA n (fun i => [.p (.int .i64 (h i))])),(AN 1),(NL a a),(AA a (fun i => [.p (.int .i64 (r i))])),(AN 1),(NL b b),(AA b (fun i => [.p (.int .i64 (s i))]))]) := by kernel_rfl
theorem zqGe (p : T_Pinned) (e k n a b : Nat) (h r s : Nat → Int) :
    pathOb Tryz.prog Tryz.f92 0 [rg 4, .dec false, rg 2] zf32 (SYg p e k n a b h r s) [1] 1 [(0, iOb n h)] (.ar 1 0 0 n) =
    some [((decide ((↑k : Int) < (↑b : Int))) = false),(AN 0),(AN n),(AN 1),(NL n n),(AA n (fun i => [.p (.int .i64 (h i))])),(AE n)] := by kernel_rfl
theorem zqWz (p : T_Pinned) :
    pieceOb Tryz.prog 0 [rg 3, rg 2, rg 5, .head] [.code (bodyOf Tryz.f70)] (start Tryz.f70 [] 0 [pinA p]) [0] 1 (SYw p 0 (-1) 0) =
    some (zf77, [(NT 0 1),(AI p.1.1),(AN p.1.2.1.1),(AP p.1.2.1.1 (fun i => [.int .i64 ((p.1.2.1.2 i).1), .int .i64 ((p.1.2.1.2 i).2.1)])),(AN p.2.1.1),(AP p.2.1.1 (fun i => [.int .i64 (p.2.1.2 i)])),(AN 0),(AI ((-1))),(AI 0),(AI ((↑p.1.2.1.1 : Int))),((0 : Int) = (↑0 : Int)),((([AV.p (PV.int IntKind.i64 p.1.1), graphL p.1.2.1, inL p.2.1].length) : Nat) = 3),(NL 1 1),(NL 1 1),(AI p.1.1),(AN p.1.2.1.1),(AP p.1.2.1.1 (fun i => [.int .i64 ((p.1.2.1.2 i).1), .int .i64 ((p.1.2.1.2 i).2.1)])),(AN p.2.1.1),(AP p.2.1.1 (fun i => [.int .i64 (p.2.1.2 i)]))]) := by kernel_rfl
theorem zqWa (p : T_Pinned) (k n : Nat) (w m : Int) (h : Nat → Int) :
    pieceOb Tryz.prog 0 [rg 1, .dec true, rg 2, rm [(2, oc [(0, iOb n h)] (.ar 1 0 0 n))] 2, rg 3, .dec true, rg 4, rg 2, .head] zf77 (SYw p k w m) [0] 1 (SYw p (k + 1) k n) =
    some (zf77, [((decide ((↑k : Int) < (↑p.1.2.1.1 : Int))) = true),(NT 0 1),Con Tryz.prog 106 0 [] [(zf26 p), .p (.int .i64 (↑k : Int))] [(0, ⟨false, 1, n, (fun i => [.p (.int .i64 (h i))])⟩)] (.ar 1 0 0 n),((decide ((↑n : Int) > m)) = true),(R0 ((↑k : Int) + 1)),(R1 ((↑k : Int) + 1)),(AI p.1.1),(AN p.1.2.1.1),(AP p.1.2.1.1 (fun i => [.int .i64 ((p.1.2.1.2 i).1), .int .i64 ((p.1.2.1.2 i).2.1)])),(AN p.2.1.1),(AP p.2.1.1 (fun i => [.int .i64 (p.2.1.2 i)])),(AN 0),(AI ((↑k : Int))),(AI ((↑n : Int))),(AI ((↑p.1.2.1.1 : Int))),((((↑k : Int) + 1) : Int) = (↑(k + 1) : Int)),(AN 3),(NL 1 1),(NL 1 1),(AI p.1.1),(AN p.1.2.1.1),(AP p.1.2.1.1 (fun i => [.int .i64 ((p.1.2.1.2 i).1), .int .i64 ((p.1.2.1.2 i).2.1)])),(AN p.2.1.1),(AP p.2.1.1 (fun i => [.int .i64 (p.2.1.2 i)]))]) := by kernel_rfl
theorem zqWb (p : T_Pinned) (k n : Nat) (w m : Int) (h : Nat → Int) :
    pieceOb Tryz.prog 0 [rg 1, .dec true, rg 2, rm [(2, oc [(0, iOb n h)] (.ar 1 0 0 n))] 2, rg 3, .dec false, rg 2, .head] zf77 (SYw p k w m) [0] 1 (SYw p (k + 1) w m) =
    some (zf77, [((decide ((↑k : Int) < (↑p.1.2.1.1 : Int))) = true),(NT 0 1),Con Tryz.prog 106 0 [] [(zf26 p), .p (.int .i64 (↑k : Int))] [(0, ⟨false, 1, n, (fun i => [.p (.int .i64 (h i))])⟩)] (.ar 1 0 0 n),((decide ((↑n : Int) > m)) = false),(R0 ((↑k : Int) + 1)),(R1 ((↑k : Int) + 1)),(AI p.1.1),(AN p.1.2.1.1),(AP p.1.2.1.1 (fun i => [.int .i64 ((p.1.2.1.2 i).1), .int .i64 ((p.1.2.1.2 i).2.1)])),(AN p.2.1.1),(AP p.2.1.1 (fun i => [.int .i64 (p.2.1.2 i)])),(AN 0),(AI w),(AI m),(AI ((↑p.1.2.1.1 : Int))),((((↑k : Int) + 1) : Int) = (↑(k + 1) : Int)),(AN 3),(NL 1 1),(NL 1 1),(AI p.1.1),(AN p.1.2.1.1),(AP p.1.2.1.1 (fun i => [.int .i64 ((p.1.2.1.2 i).1), .int .i64 ((p.1.2.1.2 i).2.1)])),(AN p.2.1.1),(AP p.2.1.1 (fun i => [.int .i64 (p.2.1.2 i)]))]) := by kernel_rfl
theorem zqWe (p : T_Pinned) (k : Nat) (w m : Int) :
    pathOb Tryz.prog Tryz.f70 0 [rg 1, .dec false, rg 4] zf77 (SYw p k w m) [] 1 [] (.tup [.p (.int .i64 w), .p (.int .i64 m)]) =
    some [((decide ((↑k : Int) < (↑p.1.2.1.1 : Int))) = false),(AI w),(AI m)] := by kernel_rfl
theorem zqVz (p : T_Pinned) :
    pieceOb Tryz.prog 0 [rg 3, rg 1, rg 1, rg 1, .head] [.code (bodyOf Tryz.f57)] (start Tryz.f57 [] 0 [pinA p]) [0] 1 (SYv p 0 (-1) 0) =
    some (zf51, [(AI p.1.1),(AN p.1.2.1.1),(AP p.1.2.1.1 (fun i => [.int .i64 ((p.1.2.1.2 i).1), .int .i64 ((p.1.2.1.2 i).2.1)])),(AN p.2.1.1),(AP p.2.1.1 (fun i => [.int .i64 (p.2.1.2 i)])),(AN 0),(AI ((-1))),(AI 0),((0 : Int) = (↑0 : Int)),((([AV.p (PV.int IntKind.i64 p.1.1), graphL p.1.2.1, inL p.2.1].length) : Nat) = 3),(NL 1 1),(NL 1 1),(AI p.1.1),(AN p.1.2.1.1),(AP p.1.2.1.1 (fun i => [.int .i64 ((p.1.2.1.2 i).1), .int .i64 ((p.1.2.1.2 i).2.1)])),(AN p.2.1.1),(AP p.2.1.1 (fun i => [.int .i64 (p.2.1.2 i)]))]) := by kernel_rfl
theorem zqVa (p : T_Pinned) (k n : Nat) (w m : Int) (h : Nat → Int) :
    pieceOb Tryz.prog 0 [rg 6, .dec true, rm [(2, oc [(0, iOb n h)] (.ar 1 0 0 n))] 2, rg 3, .dec true, rg 2, rg 2, rg 3, .head] zf51 (SYv p k w m) [0] 1 (SYv p (k + 1) k n) =
    some (zf51, [(NT 0 1),((decide ((↑k : Int) < (↑p.1.2.1.1 : Int))) = true),(NT 0 1),Con Tryz.prog 92 0 [] [(zf26 p), .p (.int .i64 (↑k : Int))] [(0, ⟨false, 1, n, (fun i => [.p (.int .i64 (h i))])⟩)] (.ar 1 0 0 n),((decide ((↑n : Int) > m)) = true),(R0 ((↑k : Int) + 1)),(R1 ((↑k : Int) + 1)),(AI p.1.1),(AN p.1.2.1.1),(AP p.1.2.1.1 (fun i => [.int .i64 ((p.1.2.1.2 i).1), .int .i64 ((p.1.2.1.2 i).2.1)])),(AN p.2.1.1),(AP p.2.1.1 (fun i => [.int .i64 (p.2.1.2 i)])),(AN 0),(AI ((↑k : Int))),(AI ((↑n : Int))),((((↑k : Int) + 1) : Int) = (↑(k + 1) : Int)),(AN 3),(NL 1 1),(NL 1 1),(AI p.1.1),(AN p.1.2.1.1),(AP p.1.2.1.1 (fun i => [.int .i64 ((p.1.2.1.2 i).1), .int .i64 ((p.1.2.1.2 i).2.1)])),(AN p.2.1.1),(AP p.2.1.1 (fun i => [.int .i64 (p.2.1.2 i)]))]) := by kernel_rfl
theorem zqVb (p : T_Pinned) (k n : Nat) (w m : Int) (h : Nat → Int) :
    pieceOb Tryz.prog 0 [rg 6, .dec true, rm [(2, oc [(0, iOb n h)] (.ar 1 0 0 n))] 2, rg 3, .dec false, rg 3, .head] zf51 (SYv p k w m) [0] 1 (SYv p (k + 1) w m) =
    some (zf51, [(NT 0 1),((decide ((↑k : Int) < (↑p.1.2.1.1 : Int))) = true),(NT 0 1),Con Tryz.prog 92 0 [] [(zf26 p), .p (.int .i64 (↑k : Int))] [(0, ⟨false, 1, n, (fun i => [.p (.int .i64 (h i))])⟩)] (.ar 1 0 0 n),((decide ((↑n : Int) > m)) = false),(R0 ((↑k : Int) + 1)),(R1 ((↑k : Int) + 1)),(AI p.1.1),(AN p.1.2.1.1),(AP p.1.2.1.1 (fun i => [.int .i64 ((p.1.2.1.2 i).1), .int .i64 ((p.1.2.1.2 i).2.1)])),(AN p.2.1.1),(AP p.2.1.1 (fun i => [.int .i64 (p.2.1.2 i)])),(AN 0),(AI w),(AI m),((((↑k : Int) + 1) : Int) = (↑(k + 1) : Int)),(AN 3),(NL 1 1),(NL 1 1),(AI p.1.1),(AN p.1.2.1.1),(AP p.1.2.1.1 (fun i => [.int .i64 ((p.1.2.1.2 i).1), .int .i64 ((p.1.2.1.2 i).2.1)])),(AN p.2.1.1),(AP p.2.1.1 (fun i => [.int .i64 (p.2.1.2 i)]))]) := by kernel_rfl
theorem zqVe (p : T_Pinned) (k : Nat) (w m : Int) :
    pathOb Tryz.prog Tryz.f57 0 [rg 6, .dec false, rg 4] zf51 (SYv p k w m) [] 1 [] (.tup [.p (.int .i64 w), .p (.int .i64 m)]) =
    some [(NT 0 1),((decide ((↑k : Int) < (↑p.1.2.1.1 : Int))) = false),(AI w),(AI m)] := by kernel_rfl
end Go.Proofs.YtgdbnnmogddkaaaGreat.Mach
namespace Go.Proofs.YtgdbnnmogddkaaaGreat.Mach
open Go Go.Sort
set_option linter.unusedVariables false
set_option linter.unusedSimpArgs false
theorem imp_symm {N : Nat} {I : List (Nat × Nat)} {a b : Nat} (h : Mat.Imp N I a b) : Mat.Imp N I b a := by
  obtain ⟨R, t, h1, h2⟩ := h
  exact ⟨R, t, h2, h1⟩
theorem rk_swap {N : Nat} {L : List (Nat × Nat)} (hL : ∀ x ∈ L, Mat.GoodBar N x) {a b : Nat} (h1 : a ≠ b) (h2 : a < N) (h3 : b < N) : Mat.rk N (L ++ [(a, b)]) = Mat.rk N L ↔ Mat.rk N (L ++ [(b, a)]) = Mat.rk N L := by
  rw [Mat.rk_same_iff hL ⟨h1, h2, h3⟩, Mat.rk_same_iff hL ⟨Ne.symm h1, h3, h2⟩]
  exact ⟨imp_symm, imp_symm⟩
theorem bL_congr {g g' : Nat → T_Bar} : ∀ n, (∀ i, i < n → g i = g' i) → bL g n = bL g' n
  | 0, _ => rfl
  | n + 1, h => by rw [bL, bL, bL_congr n (fun i hi => h i (by omega)), h n (by omega)]
theorem bL_snoc (g : Nat → T_Bar) (nb : Nat) (x : T_Bar) : bL (snoc nb g x) (nb + 1) = bL g nb ++ [brN x] := by
  rw [bL, bL_congr (g := snoc nb g x) (g' := g) nb (fun i hi => snoc_lt hi), snoc_ge (Nat.lt_irrefl _)]
theorem rk_brX {N : Nat} {L : List (Nat × Nat)} (hL : ∀ x ∈ L, Mat.GoodBar N x) {a b : Int} (hab : a ≠ b) (ha : 0 ≤ a ∧ a < N) (hb : 0 ≤ b ∧ b < N) : Mat.rk N (L ++ [brN (brX a b)]) = Mat.rk N L ↔ Mat.rk N (L ++ [(a.toNat, b.toNat)]) = Mat.rk N L := by
  by_cases h : b < a
  · have e : brN (brX a b) = (b.toNat, a.toNat) := by
      simp only [brN, brX]
      rw [if_pos h, if_neg (by omega)]
    rw [e]
    exact rk_swap hL (by omega) (by omega) (by omega)
  · have e : brN (brX a b) = (a.toNat, b.toNat) := by
      simp only [brN, brX]
      rw [if_neg h, if_pos (by omega)]
    rw [e]
theorem impB_iff {N nb : Nat} {g : Nat → T_Bar} (hok : OkBars N nb g) {a b : Int} (ha : 0 ≤ a ∧ a < N) (hb : 0 ≤ b ∧ b < N) :
    impB N nb g a b = true ↔ a = b ∨ Mat.rk N (bL g nb ++ [(a.toNat, b.toNat)]) = Mat.rk N (bL g nb) := by
  unfold impB
  by_cases h : a = b
  · simp [h]
  · have h' : (a == b) = false := beq_eq_false_iff_ne.2 h
    rw [h', cond_false, acc_len, acc_len, bL_snoc]
    have := rk_brX (bL_good hok) h ha hb
    unfold Mat.rk at this ⊢
    rw [← this]
    simp [h, Int.ofNat_inj]
noncomputable def sdB (p : T_Pinned) (v : Nat) : Bool := bif impB p.1.1.toNat (alS p).1 (alS p).2 (p.2.1.2 0) v then impB p.1.1.toNat (alS p).1 (alS p).2 (p.2.1.2 1) v else false
noncomputable def rsB (p : T_Pinned) (x : T_Bar) : Bool := decide (((accI p.1.1.toNat 2 3 (snoc (alC p).1 (alC p).2 x) ((alC p).1 + 1)).length : Int) > ((accI p.1.1.toNat 2 3 (alC p).2 (alC p).1).length : Int))
noncomputable def sdI (p : T_Pinned) (v : Nat) : Nat → Bool
  | 0 => true
  | j + 1 => bif sdI p v j then (bif p.2.1.2 j == (v : Int) then true else !(rsB p (brX (p.2.1.2 j) v))) else false
theorem PinOk.raise {p : T_Pinned} (h : PinOk p) {u : Int} {v : Nat} (hu : 0 ≤ u ∧ u < p.1.1) (hv : (v : Int) < p.1.1) (hne : u ≠ v) :
    rsB p (brX u v) = false ↔ Mat.rk p.1.1.toNat (bL (alS p).2 (alS p).1 ++ [(u.toNat, v)]) = Mat.rk p.1.1.toNat (bL (alS p).2 (alS p).1) := by
  have hN := h.N
  have hx := brX_ok (N := p.1.1.toNat) (a := u) (b := v) (by omega) (by omega) hne
  have e1 : rkN p.1.1.toNat ((alC p).1 + 1, snoc (alC p).1 (alC p).2 (brX u v)) = rkN p.1.1.toNat ((alS p).1 + 1, snoc (alS p).1 (alS p).2 (brX u v)) := by
    refine h.same (ok_snoc h.okAS hx) (ok_snoc h.okAC hx) (fun y hy => ?_) (fun y hy => ?_) (fun y hy => ?_)
    · show ∃ s, s < (alS p).1 + 1 ∧ snoc (alS p).1 (alS p).2 (brX u v) s = y
      rw [snoc_mem]
      refine .inl ?_
      show mem (alS p) y
      rw [alS, aS_mem]; exact .inl hy
    · show ∃ s, s < (alC p).1 + 1 ∧ snoc (alC p).1 (alC p).2 (brX u v) s = y
      have hy' : ∃ s, s < (alS p).1 + 1 ∧ snoc (alS p).1 (alS p).2 (brX u v) s = y := hy
      rw [snoc_mem] at hy' ⊢
      rcases hy' with hy' | hy'
      · left
        have hm : mem (alS p) y := hy'
        show mem (alC p) y
        rw [alS, aS_mem] at hm
        rw [alC, aC_mem]
        exact hm.imp (h.few y) id
      · exact .inr hy'
    · have hy' : ∃ s, s < (alC p).1 + 1 ∧ snoc (alC p).1 (alC p).2 (brX u v) s = y := hy
      show (∃ s, s < (alS p).1 + 1 ∧ snoc (alS p).1 (alS p).2 (brX u v) s = y) ∨ _
      rw [snoc_mem] at hy' ⊢
      rcases hy' with hy' | hy'
      · have hm : mem (alC p) y := hy'
        rw [alC, aC_mem] at hm
        rcases hm with hm | hm
        · exact .inr hm
        · refine .inl (.inl ?_)
          show mem (alS p) y
          rw [alS, aS_mem]; exact .inr hm
      · exact .inl (.inr hy')
  have e2 := h.rkA
  have e3 := rk_brX (bL_good h.okAS) hne (show 0 ≤ u ∧ u < (p.1.1.toNat : Nat) by omega) (show (0 : Int) ≤ v ∧ (v : Int) < (p.1.1.toNat : Nat) by omega)
  rw [Int.toNat_natCast] at e3
  rw [← e3]
  have e4 := rkN_rk p.1.1.toNat (alS p)
  have e5 : rkN p.1.1.toNat ((alS p).1 + 1, snoc (alS p).1 (alS p).2 (brX u v)) = Mat.rk p.1.1.toNat (bL (alS p).2 (alS p).1 ++ [brN (brX u v)]) := by
    rw [rkN_rk]; show Mat.rk _ (bL (snoc _ _ _) _) = _; rw [bL_snoc]
  have e6 := Mat.rk_le_succ (N := p.1.1.toNat) (L := bL (alS p).2 (alS p).1) (brN (brX u v))
  have e7 : rsB p (brX u v) = decide ((rkN p.1.1.toNat ((alC p).1 + 1, snoc (alC p).1 (alC p).2 (brX u v)) : Int) > (rkN p.1.1.toNat (alC p) : Int)) := rfl
  rw [e7, e1, e2, e4, e5, decide_eq_false_iff_not]
  omega
theorem PinOk.steady {p : T_Pinned} (h : PinOk p) {v : Nat} (hv : (v : Int) < p.1.1) : sdI p v p.2.1.1 = sdB p v := by
  have hN := h.N; have hm := h.m
  have key : ∀ j, j ≤ p.2.1.1 → (sdI p v j = true ↔ ∀ i, i < j → (p.2.1.2 i).toNat = v ∨ Mat.rk p.1.1.toNat (bL (alS p).2 (alS p).1 ++ [((p.2.1.2 i).toNat, v)]) = Mat.rk p.1.1.toNat (bL (alS p).2 (alS p).1)) := by
    intro j
    induction j with
    | zero => intro _; simp [sdI]
    | succ j ih =>
      intro hj
      have ih := ih (by omega)
      have hg := h.gr j (by omega)
      have step : (bif p.2.1.2 j == (v : Int) then true else !(rsB p (brX (p.2.1.2 j) v))) = true ↔ ((p.2.1.2 j).toNat = v ∨ Mat.rk p.1.1.toNat (bL (alS p).2 (alS p).1 ++ [((p.2.1.2 j).toNat, v)]) = Mat.rk p.1.1.toNat (bL (alS p).2 (alS p).1)) := by
        by_cases e : p.2.1.2 j = (v : Int)
        · have e' : (p.2.1.2 j == (v : Int)) = true := beq_iff_eq.2 e
          rw [e', cond_true]
          exact ⟨fun _ => .inl (by omega), fun _ => rfl⟩
        · have e' : (p.2.1.2 j == (v : Int)) = false := beq_eq_false_iff_ne.2 e
          rw [e', cond_false, Bool.not_eq_true', h.raise hg hv e]
          constructor
          · intro h'; exact .inr h'
          · rintro (h' | h')
            · omega
            · exact h'
      rw [sdI]
      constructor
      · intro hh i hi
        cases hs : sdI p v j with
        | false => rw [hs, cond_false] at hh; cases hh
        | true =>
          rw [hs, cond_true] at hh
          by_cases e : i = j
          · subst e; exact step.1 hh
          · exact (ih.1 hs) i (by omega)
      · intro hh
        rw [ih.2 (fun i hi => hh i (by omega)), cond_true]
        exact step.2 (hh j (by omega))
  have g0 := h.gr 0 (by omega)
  have g1 := h.gr 1 (by omega)
  have k0 := impB_iff h.okAS (a := p.2.1.2 0) (b := (v : Int)) (by omega) (by omega)
  have k1 := impB_iff h.okAS (a := p.2.1.2 1) (b := (v : Int)) (by omega) (by omega)
  rw [Int.toNat_natCast] at k0 k1
  have hst := h.grd.steady (L := bL (alS p).2 (alS p).1) (bL_good h.okAS) (fun x hx => by
    rw [bL_in] at hx ⊢
    obtain ⟨y, h1, h2⟩ := hx
    exact ⟨y, by rw [alS, aS_mem]; exact .inl h1, h2⟩) (v := v) (by omega)
  have kk := key p.2.1.1 (Nat.le_refl _)
  have e0 : ((p.2.1.2 0).toNat = v) ↔ p.2.1.2 0 = (v : Int) := by omega
  have e1 : ((p.2.1.2 1).toNat = v) ↔ p.2.1.2 1 = (v : Int) := by omega
  have hb : sdB p v = true ↔ sdI p v p.2.1.1 = true := by
    rw [kk, ← hst]
    unfold sdB
    show _ ↔ ((p.2.1.2 0).toNat = v ∨ _) ∧ ((p.2.1.2 1).toNat = v ∨ _)
    rw [e0, e1, ← k0, ← k1]
    cases impB p.1.1.toNat (alS p).1 (alS p).2 (p.2.1.2 0) v <;> simp
  cases h1 : sdB p v <;> cases h2 : sdI p v p.2.1.1 <;> simp_all
noncomputable def sdD (p : T_Pinned) : Nat → NI
  | 0 => zNI
  | v + 1 => if sdB p v = true then snN (sdD p v) v else sdD p v
noncomputable def sdR (p : T_Pinned) : NI := if pinnedF p = true then sdD p p.1.1.toNat else zNI
theorem sdD_n (p : T_Pinned) : ∀ v, (sdD p v).1 ≤ v
  | 0 => Nat.le_refl _
  | v + 1 => by
    have := sdD_n p v
    simp only [sdD]
    split
    · simp only [snN]; omega
    · omega
theorem sdR_n (p : T_Pinned) : (sdR p).1 ≤ 8 := by
  unfold sdR
  split
  · rename_i h
    have := (pin_ok h).N
    have := sdD_n p p.1.1.toNat
    omega
  · exact Nat.zero_le _
theorem PinOk.isG {p : T_Pinned} (h : PinOk p) : isGraphF ((p.1.1.toNat : Int), ((alS p).1, (alS p).2), ()) = true := by
  have hN := h.N; have hn := h.nS; have ha := alS_n p
  exact isG_of (by omega) (by omega) h.okAS (alS_asc p)
theorem con_Steady_s (p : T_Pinned) (hs : smS s_Pinned p) : Con Tryz.prog 56 0 [] [pinA p] [(0, iOb (sdR p).1 (sdR p).2)] (.ar 1 0 0 (sdR p).1) := by
  have c1 := con_IsPinned_s p hs
  refine con_start Tryz.func56 rfl (by kernel_rfl) rfl (fun c hc => ?_)
  cases hp : pinnedF p with
  | false =>
    rw [hp] at c1
    rw [show sdR p = zNI by simp [sdR, hp]]
    have hd : (bif decide (((0 : Nat) : Int) < p.1.1) then false else false) = false := by cases decide (((0 : Nat) : Int) < p.1.1) <;> rfl
    have he : Run Tryz.prog c 56 zf76 (SYs p 0 0 (fun _ => 0)) (Post c [(0, iOb zNI.1 zNI.2)] (.ar 1 0 0 zNI.1)) := by
      refine path_ok mixed Tryz.func56 hc (zqSe p 0 0 (fun _ => 0) false) ?_
      simp only [All]
      repeat' (first | exact trivial | with_reducible apply And.intro)
      all_goals (first | exact aG _ | exact aA _ _ | exact aE _ | omega | rfl | (intros; first | assumption | exact trivial | rfl | contradiction | ((repeat' (first | assumption | apply anda | apply notf)); done)) | (intros; exact c1) | (exact hd) | (intro t ht; exact absurd ht (Nat.not_lt_zero _)) | (intro t ht; simp [All, aEt]))
    refine piece_ok mixed hc (zqSz p) ?_ he
    simp only [All]
    repeat' (first | exact trivial | with_reducible apply And.intro)
    all_goals (first | exact aP _ _ | exact aA _ _ | omega | rfl | (intros; first | assumption | exact trivial | rfl | contradiction | ((repeat' (first | assumption | apply anda | apply notf)); done)) | (intro t ht; exact absurd ht (Nat.not_lt_zero _)) | (intro t ht; simp [All, aEt]))
  | true =>
    have ok := pin_ok hp
    have hN := ok.N; have hm := ok.m; have hnb := ok.nb
    have hNz : ((p.1.1.toNat : Nat) : Int) = p.1.1 := by omega
    have hG := ok.isG
    have ca := con_l20All p (by omega) (by omega) (by omega)
    rw [hp] at c1
    rw [show sdR p = sdD p p.1.1.toNat by simp [sdR, hp]]
    generalize hR : sdD p p.1.1.toNat = R
    have lo : ∀ d v, v + d = p.1.1.toNat → Run Tryz.prog c 56 zf76 (SYs p v (sdD p v).1 (sdD p v).2) (Post c [(0, iOb R.1 R.2)] (.ar 1 0 0 R.1)) := by
      intro d
      induction d with
      | zero =>
        intro v hv
        obtain rfl : v = p.1.1.toNat := by omega
        have hd : (bif decide (((p.1.1.toNat : Nat) : Int) < p.1.1) then true else false) = false := by
          rw [show decide (((p.1.1.toNat : Nat) : Int) < p.1.1) = false from decide_eq_false (by omega)]; rfl
        rw [hR]
        refine path_ok mixed Tryz.func56 hc (zqSe p p.1.1.toNat R.1 R.2 true) ?_
        simp only [All]
        repeat' (first | exact trivial | with_reducible apply And.intro)
        all_goals (first | exact aG _ | exact aA _ _ | exact aE _ | omega | rfl | (intros; first | assumption | exact trivial | rfl | contradiction | ((repeat' (first | assumption | apply anda | apply notf)); done)) | (exact hd) | (intros; exact c1) | (intro t ht; simp [All, aEt]))
      | succ d ih =>
        intro v hv
        have hrec := ih (v + 1) (by omega)
        have hd : (bif decide ((v : Int) < p.1.1) then true else false) = true := by
          rw [show decide ((v : Int) < p.1.1) = true from decide_eq_true (by omega)]; rfl
        have hn := sdD_n p v
        have g0 := ok.gr 0 (by omega)
        have g1 := ok.gr 1 (by omega)
        have i0 := con_IsImplied_s hG ok.okAS (by omega) (by have := ok.nS; have := alS_n p; omega) (a := p.2.1.2 0) (b := (v : Int)) (by omega) (by omega)
        have i1 := con_IsImplied_s hG ok.okAS (by omega) (by have := ok.nS; have := alS_n p; omega) (a := p.2.1.2 1) (b := (v : Int)) (by omega) (by omega)
        rw [grG, hNz] at i0 i1
        have hst : sdB p v = bif impB p.1.1.toNat (alS p).1 (alS p).2 (p.2.1.2 0) v then impB p.1.1.toNat (alS p).1 (alS p).2 (p.2.1.2 1) v else false := rfl
        generalize impB p.1.1.toNat (alS p).1 (alS p).2 (p.2.1.2 0) v = b1 at i0 hst
        generalize impB p.1.1.toNat (alS p).1 (alS p).2 (p.2.1.2 1) v = b2 at i1 hst
        cases hh : sdB p v with
        | false =>
          rw [hh] at hst
          rw [show sdD p (v + 1) = sdD p v by simp [sdD, hh]] at hrec
          generalize sdD p v = q at hn hrec ⊢
          refine piece_ok mixed hc (zqSb p v q.1 (alS p).1 q.2 (alS p).2 b1 b2) ?_ hrec
          simp only [All]
          repeat' (first | exact trivial | with_reducible apply And.intro)
          all_goals (first | exact aG _ | exact aP _ _ | exact aA _ _ | omega | rfl | (intros; first | assumption | exact trivial | rfl | contradiction | ((repeat' (first | assumption | apply anda | apply notf)); done)) | (exact hd) | (intros; exact c1) | (exact ca) | (exact i0) | (intros; exact i1) | (exact hst.symm) | (intro t ht; simp [All, aEt]))
        | true =>
          rw [hh] at hst
          rw [show sdD p (v + 1) = snN (sdD p v) v by simp [sdD, hh]] at hrec
          generalize sdD p v = q at hn hrec ⊢
          refine piece_ok mixed hc (zqSa p v q.1 (alS p).1 q.2 (alS p).2 b1 b2) ?_ hrec
          simp only [All]
          repeat' (first | exact trivial | with_reducible apply And.intro)
          all_goals (first | exact aG _ | exact aP _ _ | omega | rfl | (intros; first | assumption | exact trivial | rfl | contradiction | ((repeat' (first | assumption | apply anda | apply notf)); done)) | (exact hd) | (intros; exact c1) | (exact ca) | (exact i0) | (intros; exact i1) | (exact hst.symm) | (intro t ht; by_cases h' : t < q.1 <;> simp [h', snI, cvtL, cvt, tg, tru, All]))
    refine piece_ok mixed hc (zqSz p) ?_ (lo p.1.1.toNat 0 (by omega))
    simp only [All]
    repeat' (first | exact trivial | with_reducible apply And.intro)
    all_goals (first | exact aP _ _ | exact aA _ _ | omega | rfl | (intros; first | assumption | exact trivial | rfl | contradiction | ((repeat' (first | assumption | apply anda | apply notf)); done)) | (intro t ht; exact absurd ht (Nat.not_lt_zero _)) | (intro t ht; simp [All, aEt]))
theorem con_Steady_i (p : T_Pinned) (hs : smS s_Pinned p) : Con Tryz.prog 69 0 [] [pinA p] [(0, iOb (sdR p).1 (sdR p).2)] (.ar 1 0 0 (sdR p).1) := by
  have c1 := con_IsPinned_i p hs
  refine con_start Tryz.func69 rfl (by kernel_rfl) rfl (fun c hc => ?_)
  cases hp : pinnedF p with
  | false =>
    rw [hp] at c1
    rw [show sdR p = zNI by simp [sdR, hp]]
    refine path_ok mixed Tryz.func69 hc (zqIn p) ?_
    simp only [All]
    repeat' (first | exact trivial | with_reducible apply And.intro)
    all_goals (first | exact aA _ _ | exact aE _ | omega | rfl | (intros; first | assumption | exact trivial | rfl | contradiction | ((repeat' (first | assumption | apply anda | apply notf)); done)) | (exact c1) | (intro t ht; exact absurd ht (Nat.not_lt_zero _)) | (simp; done))
  | true =>
    have ok := pin_ok hp
    have hN := ok.N; have hm := ok.m; have hnb := ok.nb; have hnC := ok.nC
    have hNz : ((p.1.1.toNat : Nat) : Int) = p.1.1 := by omega
    have ch := con_held p hm.2
    rw [show hC p.2.1.2 p.2.1.1 p.2.1.1 = hlC p from rfl] at ch
    rw [hp] at c1
    rw [show sdR p = sdD p p.1.1.toNat by simp [sdR, hp]]
    generalize hR : sdD p p.1.1.toNat = R
    have nC : (alC p).1 = (hlC p).1 + p.1.2.1.1 := rfl
    have li : ∀ v : Nat, (v : Int) < p.1.1 → ∀ q : NI, q.1 ≤ 8 → (Run Tryz.prog c 69 zf38 (SYi p (v + 1) (if sdB p v = true then snN q v else q).1 (alC p).1 (if sdB p v = true then snN q v else q).2 (alC p).2) (Post c [(0, iOb R.1 R.2)] (.ar 1 0 0 R.1))) →
        ∀ d j, j + d = p.2.1.1 → Run Tryz.prog c 69 zf4 (SYj p v j q.1 (alC p).1 q.2 (alC p).2 (sdI p v j)) (Post c [(0, iOb R.1 R.2)] (.ar 1 0 0 R.1)) := by
      intro v hv q hq hk d
      induction d with
      | zero =>
        intro j hj
        obtain rfl : j = p.2.1.1 := by omega
        have hd : decide ((p.2.1.1 : Int) < (p.2.1.1 : Int)) = false := by simp
        rw [ok.steady hv]
        cases hh : sdB p v with
        | false =>
          rw [hh, if_neg (by simp)] at hk
          refine piece_ok mixed hc (zqIf p v p.2.1.1 q.1 (alC p).1 q.2 (alC p).2 false) ?_ hk
          simp only [All]
          repeat' (first | exact trivial | with_reducible apply And.intro)
          all_goals (first | exact aP _ _ | exact aA _ _ | omega | rfl | (intros; first | assumption | exact trivial | rfl | contradiction | ((repeat' (first | assumption | apply anda | apply notf)); done)) | (exact hd) | (intro t ht; simp [All, aEt]))
        | true =>
          rw [hh, if_pos rfl] at hk
          refine piece_ok mixed hc (zqIt p v p.2.1.1 q.1 (alC p).1 q.2 (alC p).2 true) ?_ hk
          simp only [All]
          repeat' (first | exact trivial | with_reducible apply And.intro)
          all_goals (first | exact aP _ _ | exact aA _ _ | omega | rfl | (intros; first | assumption | exact trivial | rfl | contradiction | ((repeat' (first | assumption | apply anda | apply notf)); done)) | (exact hd) | (intro t ht; by_cases h' : t < q.1 <;> simp [h', snI, cvtL, cvt, tg, tru, All]) | (intro t ht; simp [All, aEt]))
      | succ d ih =>
        intro j hj
        have hd : decide ((j : Int) < (p.2.1.1 : Int)) = true := decide_eq_true (by omega)
        have hg := ok.gr j (by omega)
        have cb := con_barX (p.2.1.2 j) v
        have hrec := ih (j + 1) (by omega)
        rw [show sdI p v (j + 1) = bif sdI p v j then (bif p.2.1.2 j == (v : Int) then true else !(rsB p (brX (p.2.1.2 j) v))) else false from rfl] at hrec
        have cr : p.2.1.2 j ≠ (v : Int) → Con Tryz.prog 105 0 [] [.p (.int .i64 p.1.1), brL (alC p).2 (alC p).1, brA (brX (p.2.1.2 j) v)] [] (.p (.bool (rsB p (brX (p.2.1.2 j) v)))) := by
          intro hne
          have hx := brX_ok (N := p.1.1.toNat) (a := p.2.1.2 j) (b := v) (by omega) (by omega) hne
          have := con_raises ok.okAC hx (by omega) (by omega)
          rw [hNz] at this
          exact this
        refine piece_ok mixed hc (zqIi p v j q.1 (alC p).1 q.2 (alC p).2 (sdI p v j) (rsB p (brX (p.2.1.2 j) v)) (brX (p.2.1.2 j) v)) ?_ hrec
        simp only [All]
        repeat' (first | exact trivial | with_reducible apply And.intro)
        all_goals (first | exact aG _ | exact aP _ _ | exact aA _ _ | omega | rfl | (intros; first | assumption | exact trivial | rfl | contradiction | ((repeat' (first | assumption | apply anda | apply notf)); done)) | (exact hd) | (intros; exact cb) | (intro h3; refine cr ?_; simp only [Bool.and_eq_true, Bool.not_eq_true', beq_eq_false_iff_ne] at h3; exact h3.2) | (intro t ht; simp [All, aEt]))
    have lo : ∀ d v, v + d = p.1.1.toNat → Run Tryz.prog c 69 zf38 (SYi p v (sdD p v).1 (alC p).1 (sdD p v).2 (alC p).2) (Post c [(0, iOb R.1 R.2)] (.ar 1 0 0 R.1)) := by
      intro d
      induction d with
      | zero =>
        intro v hv
        obtain rfl : v = p.1.1.toNat := by omega
        have hd : decide (((p.1.1.toNat : Nat) : Int) < p.1.1) = false := decide_eq_false (by omega)
        rw [hR]
        refine path_ok mixed Tryz.func69 hc (zqIe p p.1.1.toNat R.1 (alC p).1 R.2 (alC p).2) ?_
        simp only [All]
        repeat' (first | exact trivial | with_reducible apply And.intro)
        all_goals (first | exact aA _ _ | exact aE _ | omega | rfl | (intros; first | assumption | exact trivial | rfl | contradiction | ((repeat' (first | assumption | apply anda | apply notf)); done)) | (exact hd) | (intro t ht; simp [All, aEt]))
      | succ d ih =>
        intro v hv
        have hrec := ih (v + 1) (by omega)
        have hd : decide ((v : Int) < p.1.1) = true := decide_eq_true (by omega)
        have hn := sdD_n p v
        refine piece_ok mixed hc (zqIo p v (sdD p v).1 (alC p).1 (sdD p v).2 (alC p).2) ?_ (li v (by omega) (sdD p v) (by omega) hrec p.2.1.1 0 (by omega))
        simp only [All]
        repeat' (first | exact trivial | with_reducible apply And.intro)
        all_goals (first | exact aP _ _ | exact aA _ _ | omega | rfl | (intros; first | assumption | exact trivial | rfl | contradiction | ((repeat' (first | assumption | apply anda | apply notf)); done)) | (exact hd) | (intro t ht; simp [All, aEt]))
    refine piece_ok mixed hc (zqIz p (hlC p).1 (alC p).1 (hlC p).2 (alC p).2) ?_ (lo p.1.1.toNat 0 (by omega))
    simp only [All]
    repeat' (first | exact trivial | with_reducible apply And.intro)
    all_goals (first | exact aP _ _ | exact aA _ _ | omega | rfl | (intros; first | assumption | exact trivial | rfl | contradiction | ((repeat' (first | assumption | apply anda | apply notf)); done)) | (exact c1) | (exact ch) | (intro t ht; exact absurd ht (Nat.not_lt_zero _)) | (intro t ht; by_cases h : t < (hlC p).1 <;> simp [h, cvtL, cvt, tg, tru, All, alC, aC]))
end Go.Proofs.YtgdbnnmogddkaaaGreat.Mach
namespace Go.Proofs.YtgdbnnmogddkaaaGreat.Mach
open Go
set_option linter.unusedVariables false
set_option linter.unusedSimpArgs false
def byO (n : Nat) (f : Nat → Int) : Ob := ⟨false, 1, n, fun i => [.p (.int .u8 (f i))]⟩
def swF (i j : Nat) (f : Nat → Int) (r : Nat) : Int := if r = j then f i else if r = i then f j else f r
def apF (n : Nat) (f : Nat → Int) (x : Int) (r : Nat) : Int := if r < n then f r else x
def SFs (m : Int) (o : ByteArray) (ng : Bool) : St :=
  ⟨[.p (.int .i64 m), .p .any, .p .any, .p (.str o), .p (.bool ng)] ++ List.replicate 26 anyA, [], 0⟩
def SFi (n m : Int) (l : Nat) (f : Nat → Int) : St :=
  ⟨[.p (.int .i64 n), .p .any, .p .any, .ar 1 0 0 l, .p (.int .i64 m)] ++ List.replicate 54 anyA, [(0, byO l f)], 1⟩
def SFr (l i : Nat) (j : Int) (f : Nat → Int) : St :=
  ⟨[.p .any, .p .any, .p .any, .ar 1 0 0 l, .p .any, .p .any, .p (.int .i64 i), .p (.int .i64 j)] ++ List.replicate 51 anyA, [(0, byO l f)], 1⟩
theorem fS0 (n : Int) (s : ByteArray) :
    pathOb Tryz.prog Tryz.f53 0 [rg 1, rg 2, .dec true, rg 1] [.code (bodyOf Tryz.f53)] (start Tryz.f53 [] 0 [.p (.int .i64 n)]) [] 1 [] (.p (.str s)) =
    some [((n == 0) = true),(ByteArray.mk #[48] = s)] := by kernel_rfl
theorem fSz (n : Int) (o : ByteArray) :
    pieceOb Tryz.prog 0 [rg 1, rg 2, .dec false, rg 1, rg 3, .head] [.code (bodyOf Tryz.f53)] (start Tryz.f53 [] 0 [.p (.int .i64 n)]) [] 1 (SFs n o (decide (n < 0))) =
    some (zf45, [((n == 0) = false),(AI n),(ByteArray.mk #[] = o),((decide (n < 0)) = (decide (n < 0)))]) := by kernel_rfl
theorem fSn (m m2 : Int) (o o2 : ByteArray) (ng : Bool) :
    pieceOb Tryz.prog 0 [rg 2, .dec true, rm [(1, oF)] 1, rg 2, .dec true, rg 3, rg 8, rm [(1, oF)] 1, .head] zf45 (SFs m o ng) [] 1 (SFs m2 o2 ng) =
    some (zf45, [((m != 0) = true),((10 : Int) ≠ 0),((decide (m.tmod 10 < 0)) = true),(R0 (0 - m.tmod 10)),(R1 (0 - m.tmod 10)),(R0 (48 + (0 - m.tmod 10))),(R1 (48 + (0 - m.tmod 10))),(IL 0 (48 + (0 - m.tmod 10))),(IL (48 + (0 - m.tmod 10)) 255),(NL 1 1),(okBytes 1 (fun i => [.p (.int .u8 (48 + (0 - m.tmod 10)))])),(NL ((bytesOf 1 fun i => [AV.p (PV.int IntKind.u8 (48 + (0 - m.tmod 10)))]).size + o.size) 9223372036854775807),((10 : Int) ≠ 0),(((IntKind.i64.wrap (m.tdiv 10)) : Int) = m2),((bytesOf 1 fun i => [AV.p (PV.int IntKind.u8 (48 + (0 - m.tmod 10)))]) ++ o = o2),(ng = ng)]) := by kernel_rfl
theorem fSp (m m2 : Int) (o o2 : ByteArray) (ng : Bool) :
    pieceOb Tryz.prog 0 [rg 2, .dec true, rm [(1, oF)] 1, rg 2, .dec false, rg 8, rm [(1, oF)] 1, .head] zf45 (SFs m o ng) [] 1 (SFs m2 o2 ng) =
    some (zf45, [((m != 0) = true),((10 : Int) ≠ 0),((decide (m.tmod 10 < 0)) = false),(R0 (48 + m.tmod 10)),(R1 (48 + m.tmod 10)),(IL 0 (48 + m.tmod 10)),(IL (48 + m.tmod 10) 255),(NL 1 1),(okBytes 1 (fun i => [.p (.int .u8 (48 + m.tmod 10))])),(NL ((bytesOf 1 fun i => [AV.p (PV.int IntKind.u8 (48 + m.tmod 10))]).size + o.size) 9223372036854775807),((10 : Int) ≠ 0),(((IntKind.i64.wrap (m.tdiv 10)) : Int) = m2),((bytesOf 1 fun i => [AV.p (PV.int IntKind.u8 (48 + m.tmod 10))]) ++ o = o2),(ng = ng)]) := by kernel_rfl
theorem fSt (m : Int) (o s : ByteArray) (ng : Bool) :
    pathOb Tryz.prog Tryz.f53 0 [rg 2, .dec false, rg 1, .dec true, rg 3] zf45 (SFs m o ng) [] 1 [] (.p (.str s)) =
    some [((m != 0) = false),(ng = true),(NL ((ByteArray.mk #[45]).size + o.size) 9223372036854775807),(ByteArray.mk #[45] ++ o = s)] := by kernel_rfl
theorem fSf (m : Int) (o s : ByteArray) (ng : Bool) :
    pathOb Tryz.prog Tryz.f53 0 [rg 2, .dec false, rg 1, .dec false, rg 2] zf45 (SFs m o ng) [] 1 [] (.p (.str s)) =
    some [((m != 0) = false),(ng = false),(o = s)] := by kernel_rfl
theorem fI0 (n : Int) (s : ByteArray) :
    pathOb Tryz.prog Tryz.f67 0 [rg 1, rg 2, .dec true, rg 1] [.code (bodyOf Tryz.f67)] (start Tryz.f67 [] 0 [.p (.int .i64 n)]) [] 1 [] (.p (.str s)) =
    some [((n == 0) = true),(ByteArray.mk #[48] = s)] := by kernel_rfl
theorem fIz (n : Int) :
    pieceOb Tryz.prog 0 [rg 1, rg 2, .dec false, rg 2, rg 2, .head] [.code (bodyOf Tryz.f67)] (start Tryz.f67 [] 0 [.p (.int .i64 n)]) [96] 1 (SFi n n 0 (fun _ => 0)) =
    some (zf52, [((n == 0) = false),(AI n),(AN 0),(AN 0),(AI n),(AN 1),(NL 0 0),(AA 0 (fun i => [.p (.int .u8 0)]))]) := by kernel_rfl
theorem fIn (n m m2 : Int) (l : Nat) (f : Nat → Int) (x : Int) :
    pieceOb Tryz.prog 0 [rg 2, .dec true, rm [(1, oF)] 1, rg 2, .dec true, rg 3, rg 7, rm [(1, oF)] 1, .head] zf52 (SFi n m l f) [481] 1 (SFi n m2 (l + 1) (apF l f x)) =
    some (zf52, [((m != 0) = true),((10 : Int) ≠ 0),((decide (m.tmod 10 < 0)) = true),(R0 (0 - m.tmod 10)),(R1 (0 - m.tmod 10)),(R0 (48 + (0 - m.tmod 10))),(R1 (48 + (0 - m.tmod 10))),(IL 0 (48 + (0 - m.tmod 10))),(IL (48 + (0 - m.tmod 10)) 255),(NL 1 1),(NL l l),(NL ((l + 1) * 1) 140737488355328),(NL (l + 1) 9223372036854775807),((10 : Int) ≠ 0),(AI n),(AN 0),(AN ((l + 1))),(((IntKind.i64.wrap (m.tdiv 10)) : Int) = m2),(AN 1),(NL (l + 1) (l + 1)),(CV [(481, ⟨false, 1, (l + 1), (fun i_1 => (if (i_1 < l) then [.p (.int .u8 (f i_1))] else [.p (.int .u8 (48 + (0 - m.tmod 10)))]))⟩), (449, ⟨false, 1, 1, (fun i_1 => [.p (.int .u8 (48 + (0 - m.tmod 10)))])⟩)] [481] 1 (l + 1) (fun i => if (i < l) then [.p (.int .u8 (f i))] else [.p (.int .u8 (48 + (0 - m.tmod 10)))]) (fun i => [.p (.int .u8 (apF l f x i))]))]) := by kernel_rfl
theorem fIp (n m m2 : Int) (l : Nat) (f : Nat → Int) (x : Int) :
    pieceOb Tryz.prog 0 [rg 2, .dec true, rm [(1, oF)] 1, rg 2, .dec false, rg 7, rm [(1, oF)] 1, .head] zf52 (SFi n m l f) [385] 1 (SFi n m2 (l + 1) (apF l f x)) =
    some (zf52, [((m != 0) = true),((10 : Int) ≠ 0),((decide (m.tmod 10 < 0)) = false),(R0 (48 + m.tmod 10)),(R1 (48 + m.tmod 10)),(IL 0 (48 + m.tmod 10)),(IL (48 + m.tmod 10) 255),(NL 1 1),(NL l l),(NL ((l + 1) * 1) 140737488355328),(NL (l + 1) 9223372036854775807),((10 : Int) ≠ 0),(AI n),(AN 0),(AN ((l + 1))),(((IntKind.i64.wrap (m.tdiv 10)) : Int) = m2),(AN 1),(NL (l + 1) (l + 1)),(CV [(385, ⟨false, 1, (l + 1), (fun i_1 => (if (i_1 < l) then [.p (.int .u8 (f i_1))] else [.p (.int .u8 (48 + m.tmod 10))]))⟩), (353, ⟨false, 1, 1, (fun i_1 => [.p (.int .u8 (48 + m.tmod 10))])⟩)] [385] 1 (l + 1) (fun i => if (i < l) then [.p (.int .u8 (f i))] else [.p (.int .u8 (48 + m.tmod 10))]) (fun i => [.p (.int .u8 (apF l f x i))]))]) := by kernel_rfl
theorem fIt (n m : Int) (l : Nat) (f : Nat → Int) :
    pieceOb Tryz.prog 0 [rg 2, .dec false, rg 2, .dec true, rg 4, rg 5, .head] zf52 (SFi n m l f) [193] 1 (SFr (l + 1) 0 (((l + 1 : Nat) : Int) - 1) (apF l f 45)) =
    some (zf33, [((m != 0) = false),((decide (n < 0)) = true),(NL 1 1),(NL l l),(NL ((l + 1) * 1) 140737488355328),(NL (l + 1) 9223372036854775807),(R0 ((↑(l + 1) : Int) - 1)),(R1 ((↑(l + 1) : Int) - 1)),(AN 0),(AN ((l + 1))),((0 : Int) = (↑0 : Int)),(AI (((↑(l + 1) : Int) - 1))),(AN 1),(NL (l + 1) (l + 1)),(CV [(193, ⟨false, 1, (l + 1), (fun i_1 => (if (i_1 < l) then [.p (.int .u8 (f i_1))] else [.p (.int .u8 45)]))⟩), (161, ⟨false, 1, 1, (fun i_1 => [.p (.int .u8 45)])⟩)] [193] 1 (l + 1) (fun i => if (i < l) then [.p (.int .u8 (f i))] else [.p (.int .u8 45)]) (fun i => [.p (.int .u8 (apF l f 45 i))]))]) := by kernel_rfl
theorem fIf (n m : Int) (l : Nat) (f : Nat → Int) :
    pieceOb Tryz.prog 0 [rg 2, .dec false, rg 2, .dec false, rg 5, .head] zf52 (SFi n m l f) [0] 1 (SFr l 0 ((l : Int) - 1) f) =
    some (zf33, [((m != 0) = false),((decide (n < 0)) = false),(R0 ((↑l : Int) - 1)),(R1 ((↑l : Int) - 1)),(AN 0),(AN l),((0 : Int) = (↑0 : Int)),(AI (((↑l : Int) - 1))),(AN 1),(NL l l),(AA l (fun i => [.p (.int .u8 (f i))]))]) := by kernel_rfl
theorem fIs (l i : Nat) (j : Int) (f : Nat → Int) :
    pieceOb Tryz.prog 0 [rg 3, .dec true, rg 16, rg 6, .head] zf33 (SFr l i j f) [0] 1 (SFr l (i + 1) (j - 1) (swF i j.toNat f)) =
    some (zf33, [((decide ((↑i : Int) < j)) = true),(IL 0 j),(IT j (↑l : Int)),(NT j.toNat l),(IL 0 (↑i : Int)),(IT (↑i : Int) (↑l : Int)),(NT i l),(IL 0 (↑i : Int)),(IT (↑i : Int) (↑l : Int)),(NT i l),((false = true) →  ((l : Nat) = 1)),(IL 0 j),(IT j (↑l : Int)),(NT j.toNat l),((false = true) →  ((l : Nat) = 1)),(R0 ((↑i : Int) + 1)),(R1 ((↑i : Int) + 1)),(R0 (j - 1)),(R1 (j - 1)),(AN 0),(AN l),((((↑i : Int) + 1) : Int) = (↑(i + 1) : Int)),(AI ((j - 1))),(AN 1),(NL l l),(CV [(0, ⟨false, 1, l, (fun i_2 => (if (i_2 = j.toNat) then [.p (.int .u8 (f i))] else (if (i_2 = i) then [.p (.int .u8 (f j.toNat))] else [.p (.int .u8 (f i_2))])))⟩)] [0] 1 l (fun i_1 => if (i_1 = j.toNat) then [.p (.int .u8 (f i))] else (if (i_1 = i) then [.p (.int .u8 (f j.toNat))] else [.p (.int .u8 (f i_1))])) (fun i_1 => [.p (.int .u8 (swF i j.toNat f i_1))]))]) := by kernel_rfl
theorem fIe (l i : Nat) (j : Int) (f : Nat → Int) (s : ByteArray) :
    pathOb Tryz.prog Tryz.f67 0 [rg 3, .dec false, rg 3] zf33 (SFr l i j f) [] 1 [] (.p (.str s)) =
    some [((decide ((↑i : Int) < j)) = false),(NL l l),(okBytes l (fun i_1 => [.p (.int .u8 (f i_1))])),((bytesOf l fun i => [AV.p (PV.int IntKind.u8 (f i))]) = s)] := by kernel_rfl
def dg : Nat → Nat → List Int
  | 0, _ => []
  | f + 1, m => if m = 0 then [] else (48 + ((m % 10 : Nat) : Int)) :: dg f (m / 10)
def bs (l : List Int) : ByteArray := l.foldl (fun r n => r.push (UInt8.ofNat n.toNat)) ByteArray.empty
def fmtL (n : Int) : List Int := dg 20 n.natAbs ++ (if n < 0 then [45] else [])
def fmtI (n : Int) : ByteArray := if n = 0 then bs [48] else bs (fmtL n).reverse
theorem bs_fold (l : List Int) : ∀ s : ByteArray, (l.foldl (fun r n => r.push (UInt8.ofNat n.toNat)) s).data = s.data ++ (l.map fun n => UInt8.ofNat n.toNat).toArray := by
  induction l with
  | nil => intro s; simp
  | cons x l ih =>
    intro s
    simp only [List.foldl_cons, ih, List.map_cons]
    show s.data.push (UInt8.ofNat x.toNat) ++ _ = _
    simp
theorem bs_data (l : List Int) : (bs l).data = (l.map fun n => UInt8.ofNat n.toNat).toArray := by
  rw [bs, bs_fold]
  show #[] ++ _ = _
  simp
theorem bs_append (a b : List Int) : bs (a ++ b) = bs a ++ bs b := by
  apply ByteArray.ext
  rw [bs_data, ByteArray.data_append, bs_data, bs_data]
  simp
theorem bs_size (l : List Int) : (bs l).size = l.length := by
  show (bs l).data.size = _
  rw [bs_data]; simp
theorem bytesOf_bs (m : Nat) (f : Nat → Int) : bytesOf m (fun i => [.p (.int .u8 (f i))]) = bs ((List.range m).map f) := rfl
theorem tm10 (c : Int) : c.tmod 10 = if 0 ≤ c then ((c.natAbs % 10 : Nat) : Int) else -((c.natAbs % 10 : Nat) : Int) := by
  obtain ⟨k, rfl | rfl⟩ := c.eq_nat_or_neg
  · rw [if_pos (by omega), Int.natAbs_natCast]; rfl
  · by_cases h : k = 0
    · subst h; rfl
    · rw [if_neg (by omega), Int.neg_tmod, Int.natAbs_neg, Int.natAbs_natCast]; rfl
theorem td10 (c : Int) : c.tdiv 10 = if 0 ≤ c then ((c.natAbs / 10 : Nat) : Int) else -((c.natAbs / 10 : Nat) : Int) := by
  obtain ⟨k, rfl | rfl⟩ := c.eq_nat_or_neg
  · rw [if_pos (by omega), Int.natAbs_natCast]; rfl
  · by_cases h : k = 0
    · subst h; rfl
    · rw [if_neg (by omega), Int.neg_tdiv, Int.natAbs_neg, Int.natAbs_natCast]; rfl
theorem td_abs (c : Int) : (c.tdiv 10).natAbs = c.natAbs / 10 := by
  rw [td10]; split <;> omega
theorem dg_len : ∀ f m, (dg f m).length ≤ f
  | 0, _ => Nat.le_refl _
  | f + 1, m => by
    simp only [dg]
    split
    · simp
    · have := dg_len f (m / 10); simp; omega
theorem fmt_size (n : Int) : (fmtI n).size ≤ 21 := by
  unfold fmtI
  split
  · simp [bs_size]
  · rw [bs_size, fmtL, List.length_reverse, List.length_append]
    have := dg_len 20 n.natAbs
    split <;> simp <;> omega
theorem con_FormatInt_s (n : Int) (h0 : -9223372036854775808 ≤ n) (h1 : n ≤ 9223372036854775807) : Con Tryz.prog 53 0 [] [.p (.int .i64 n)] [] (.p (.str (fmtI n))) := by
  refine con_start Tryz.func53 rfl (by kernel_rfl) rfl (fun c hc => ?_)
  by_cases hz : n = 0
  · subst hz
    refine path_ok mixed Tryz.func53 hc (fS0 0 (fmtI 0)) ?_
    simp only [All]
    repeat' (first | exact trivial | with_reducible apply And.intro)
    all_goals (first | omega | rfl | (intros; first | assumption | exact trivial | rfl | contradiction | ((repeat' (first | assumption | apply anda | apply notf)); done)) | rfl | (exact ByteArray.ext (by rw [fmtI, if_pos rfl, bs_data]; rfl)))
  have hz' : (n == 0) = false := by simpa using hz
  have lp : ∀ f m l, l.length + f = 20 → m.natAbs < 10 ^ f → dg 20 n.natAbs = l ++ dg f m.natAbs → (n < 0 → m ≤ 0) → (0 ≤ n → 0 ≤ m) → -9223372036854775808 ≤ m → m ≤ 9223372036854775807 →
      Run Tryz.prog c 53 zf45 (SFs m (bs l.reverse) (decide (n < 0))) (Post c [] (.p (.str (fmtI n)))) := by
    have fin : ∀ l, dg 20 n.natAbs = l → l.length ≤ 20 → Run Tryz.prog c 53 zf45 (SFs 0 (bs l.reverse) (decide (n < 0))) (Post c [] (.p (.str (fmtI n)))) := by
      intro l hl hl2
      have hsz := bs_size l.reverse
      rw [List.length_reverse] at hsz
      by_cases hn : n < 0
      · rw [decide_eq_true hn]
        refine path_ok mixed Tryz.func53 hc (fSt 0 (bs l.reverse) (fmtI n) true) ?_
        simp only [All]
        repeat' (first | exact trivial | with_reducible apply And.intro)
        all_goals (first | omega | rfl | (intros; first | assumption | exact trivial | rfl | contradiction | ((repeat' (first | assumption | apply anda | apply notf)); done)) | (show _ + (bs l.reverse).size ≤ _; rw [hsz]; show 1 + l.length ≤ _; omega) | (rw [fmtI, if_neg hz, fmtL, if_pos hn, hl, List.reverse_append, bs_append]; exact congrArg (· ++ bs l.reverse) (ByteArray.ext (by rw [bs_data]; rfl))))
      · rw [decide_eq_false hn]
        refine path_ok mixed Tryz.func53 hc (fSf 0 (bs l.reverse) (fmtI n) false) ?_
        simp only [All]
        repeat' (first | exact trivial | with_reducible apply And.intro)
        all_goals (first | omega | rfl | (intros; first | assumption | exact trivial | rfl | contradiction | ((repeat' (first | assumption | apply anda | apply notf)); done)) | (rw [fmtI, if_neg hz, fmtL, if_neg hn, hl, List.append_nil]))
    intro f
    induction f with
    | zero =>
      intro m l hl hm hd hs1 hs2 hb1 hb2
      obtain rfl : m = 0 := by simp at hm; omega
      exact fin l (by rw [hd]; simp [dg]) (by omega)
    | succ f ih =>
      intro m l hl hm hd hs1 hs2 hb1 hb2
      by_cases hm0 : m = 0
      · subst hm0
        exact fin l (by rw [hd]; simp [dg]) (by omega)
      have hmt : (m != 0) = true := by simpa using hm0
      have hma : m.natAbs ≠ 0 := by omega
      have htd := td10 m
      have hrec := ih (m.tdiv 10) (l ++ [48 + ((m.natAbs % 10 : Nat) : Int)]) (by simp; omega) (by rw [td_abs]; rw [Nat.pow_succ] at hm; omega) (by rw [hd, td_abs, dg, if_neg hma]; simp) (by intro h; rw [htd]; split <;> omega) (by intro h; rw [htd]; split <;> omega) (by rw [htd]; split <;> omega) (by rw [htd]; split <;> omega)
      have hw : IntKind.i64.wrap (m.tdiv 10) = m.tdiv 10 := wrap_in (k := .i64) (by show (-9223372036854775808 : Int) ≤ _; rw [htd]; split <;> omega) (by show _ ≤ (9223372036854775807 : Int); rw [htd]; split <;> omega)
      have htm := tm10 m
      have hsz := bs_size l.reverse
      rw [List.length_reverse] at hsz
      have hb : ∀ d : Int, bytesOf 1 (fun _ => [.p (.int .u8 (48 + d))]) = bs [48 + d] := fun d => rfl
      have hout : ∀ d : Int, d = ((m.natAbs % 10 : Nat) : Int) → bs [48 + d] ++ bs l.reverse = bs (l ++ [48 + ((m.natAbs % 10 : Nat) : Int)]).reverse := by
        intro d hd'
        rw [List.reverse_append, bs_append, hd']; rfl
      by_cases hneg : m.tmod 10 < 0
      · have hng : decide (m.tmod 10 < 0) = true := decide_eq_true hneg
        have hd' : 0 - m.tmod 10 = ((m.natAbs % 10 : Nat) : Int) := by rw [htm] at hneg ⊢; split at hneg <;> simp_all <;> omega
        refine piece_ok mixed hc (fSn m (m.tdiv 10) (bs l.reverse) (bs (l ++ [48 + ((m.natAbs % 10 : Nat) : Int)]).reverse) (decide (n < 0))) ?_ hrec
        simp only [All]
        repeat' (first | exact trivial | with_reducible apply And.intro)
        all_goals (first | omega | rfl | (intros; first | assumption | exact trivial | rfl | contradiction | ((repeat' (first | assumption | apply anda | apply notf)); done)) | (exact hmt) | (exact hng) | (exact hw) | (intro i hi; exact ⟨_, rfl⟩) | (show (bs [48 + (0 - m.tmod 10)]).size + (bs l.reverse).size ≤ _; rw [hsz, bs_size]; show 1 + l.length ≤ _; omega) | (exact hout _ hd') | (show (_ : Int) ≤ _; rw [hd']; omega) | (simp only [imin, imax]; omega))
      · have hng : decide (m.tmod 10 < 0) = false := decide_eq_false hneg
        have hd' : m.tmod 10 = ((m.natAbs % 10 : Nat) : Int) := by rw [htm] at hneg ⊢; split at hneg <;> simp_all <;> omega
        refine piece_ok mixed hc (fSp m (m.tdiv 10) (bs l.reverse) (bs (l ++ [48 + ((m.natAbs % 10 : Nat) : Int)]).reverse) (decide (n < 0))) ?_ hrec
        simp only [All]
        repeat' (first | exact trivial | with_reducible apply And.intro)
        all_goals (first | omega | rfl | (intros; first | assumption | exact trivial | rfl | contradiction | ((repeat' (first | assumption | apply anda | apply notf)); done)) | (exact hmt) | (exact hng) | (exact hw) | (intro i hi; exact ⟨_, rfl⟩) | (show (bs [48 + m.tmod 10]).size + (bs l.reverse).size ≤ _; rw [hsz, bs_size]; show 1 + l.length ≤ _; omega) | (exact hout _ hd') | (show (_ : Int) ≤ _; rw [hd']; omega) | (simp only [imin, imax]; omega))
  refine piece_ok mixed hc (fSz n (bs [])) ?_ (lp 20 n [] rfl (by omega) rfl (fun h => by omega) (fun h => h) h0 h1)
  simp only [All]
  repeat' (first | exact trivial | with_reducible apply And.intro)
  all_goals (first | omega | rfl | (intros; first | assumption | exact trivial | rfl | contradiction | ((repeat' (first | assumption | apply anda | apply notf)); done)) | (exact hz') | rfl)
def lsI (n : Nat) (f : Nat → Int) : List Int := (List.range n).map f
theorem lsI_ap (n : Nat) (f : Nat → Int) (x : Int) : lsI (n + 1) (apF n f x) = lsI n f ++ [x] := by
  simp only [lsI, List.range_succ, List.map_append, List.map_cons, List.map_nil]
  congr 1
  · exact List.map_congr_left (fun i hi => by simp [apF, List.mem_range.1 hi])
  · simp [apF]
theorem lsI_rev (n : Nat) (f g : Nat → Int) (h : ∀ r, r < n → g r = f (n - 1 - r)) : lsI n g = (lsI n f).reverse := by
  apply List.ext_getElem
  · simp [lsI]
  · intro i h1 h2
    simp only [lsI, List.length_map, List.length_range] at h1
    simp [lsI, h i h1]
theorem con_FormatInt_i (n : Int) (h0 : -9223372036854775808 ≤ n) (h1 : n ≤ 9223372036854775807) : Con Tryz.prog 67 0 [] [.p (.int .i64 n)] [] (.p (.str (fmtI n))) := by
  refine con_start Tryz.func67 rfl (by kernel_rfl) rfl (fun c hc => ?_)
  by_cases hz : n = 0
  · subst hz
    refine path_ok mixed Tryz.func67 hc (fI0 0 (fmtI 0)) ?_
    simp only [All]
    repeat' (first | exact trivial | with_reducible apply And.intro)
    all_goals (first | omega | rfl | (intros; first | assumption | exact trivial | rfl | contradiction | ((repeat' (first | assumption | apply anda | apply notf)); done)) | rfl | (exact ByteArray.ext (by rw [fmtI, if_pos rfl, bs_data]; rfl)))
  have hz' : (n == 0) = false := by simpa using hz
  have lr : ∀ L f0, L ≤ 21 → lsI L f0 = fmtL n → ∀ d i f, i + d = L → i ≤ L → 2 * i ≤ L + 1 → (∀ r, r < L → f r = if r < i ∨ L - i ≤ r then f0 (L - 1 - r) else f0 r) →
      Run Tryz.prog c 67 zf33 (SFr L i ((L : Int) - 1 - i) f) (Post c [] (.p (.str (fmtI n)))) := by
    intro L f0 hL hl d
    have fin : ∀ i f, i ≤ L → 2 * i ≤ L + 1 → L ≤ 2 * i + 1 → (∀ r, r < L → f r = if r < i ∨ L - i ≤ r then f0 (L - 1 - r) else f0 r) →
        Run Tryz.prog c 67 zf33 (SFr L i ((L : Int) - 1 - i) f) (Post c [] (.p (.str (fmtI n)))) := by
      intro i f hi hi2 hi3 hf
      have hd : decide ((i : Int) < (L : Int) - 1 - i) = false := decide_eq_false (by omega)
      have hrev : ∀ r, r < L → f r = f0 (L - 1 - r) := by
        intro r hr
        rw [hf r hr]
        split
        · rfl
        · rename_i h
          rw [show L - 1 - r = r by omega]
      have he := lsI_rev L f0 f hrev
      refine path_ok mixed Tryz.func67 hc (fIe L i ((L : Int) - 1 - i) f (fmtI n)) ?_
      simp only [All]
      repeat' (first | exact trivial | with_reducible apply And.intro)
      all_goals (first | omega | rfl | (intros; first | assumption | exact trivial | rfl | contradiction | ((repeat' (first | assumption | apply anda | apply notf)); done)) | (exact hd) | (intro r hr; exact ⟨_, rfl⟩) | (rw [bytesOf_bs]; show bs (lsI L f) = _; rw [he, hl, fmtI, if_neg hz]))
    induction d with
    | zero =>
      intro i f hi hi1 hi2 hf
      exact fin i f hi1 hi2 (by omega) hf
    | succ d ih =>
      intro i f hi hi1 hi2 hf
      by_cases hlt : (i : Int) < (L : Int) - 1 - i
      · have hd : decide ((i : Int) < (L : Int) - 1 - i) = true := decide_eq_true hlt
        have hj : ((L : Int) - 1 - i).toNat = L - 1 - i := by omega
        have hrec := ih (i + 1) (swF i ((L : Int) - 1 - i).toNat f) (by omega) (by omega) (by omega) (by
          intro r hr
          rw [hj]
          unfold swF
          by_cases e1 : r = L - 1 - i
          · rw [if_pos e1, if_pos (by omega), hf i (by omega), if_neg (by omega), e1]
            rw [show L - 1 - (L - 1 - i) = i by omega]
          · rw [if_neg e1]
            by_cases e2 : r = i
            · rw [if_pos e2, if_pos (by omega), hf (L - 1 - i) (by omega), if_neg (by omega), e2]
            · rw [if_neg e2, hf r hr]
              by_cases e3 : r < i ∨ L - i ≤ r
              · rw [if_pos e3, if_pos (by omega)]
              · rw [if_neg e3, if_neg (by omega)])
        rw [show (L : Int) - 1 - ((i + 1 : Nat) : Int) = (L : Int) - 1 - i - 1 by omega] at hrec
        refine piece_ok mixed hc (fIs L i ((L : Int) - 1 - i) f) ?_ hrec
        simp only [All]
        repeat' (first | exact trivial | with_reducible apply And.intro)
        all_goals (first | omega | rfl | (intros; first | assumption | exact trivial | rfl | contradiction | ((repeat' (first | assumption | apply anda | apply notf)); done)) | (exact hd) | (intro r hr; generalize ((L : Int) - 1 - i).toNat = J; by_cases e1 : r = J <;> by_cases e2 : r = i <;> (first | (subst e2; simp [e1, swF, cvtL, cvt, tg, tru, All]; done) | (simp [e1, e2, swF, cvtL, cvt, tg, tru, All]; done))) | (simp only [imin, imax]; omega))
      · exact fin i f hi1 hi2 (by omega) hf
  have lp : ∀ f m l g, l + f = 20 → m.natAbs < 10 ^ f → dg 20 n.natAbs = lsI l g ++ dg f m.natAbs → (n < 0 → m ≤ 0) → (0 ≤ n → 0 ≤ m) → -9223372036854775808 ≤ m → m ≤ 9223372036854775807 →
      Run Tryz.prog c 67 zf52 (SFi n m l g) (Post c [] (.p (.str (fmtI n)))) := by
    have fin : ∀ l g, dg 20 n.natAbs = lsI l g → l ≤ 20 → Run Tryz.prog c 67 zf52 (SFi n 0 l g) (Post c [] (.p (.str (fmtI n)))) := by
      intro l g hl hl2
      by_cases hn : n < 0
      · have hd : decide (n < 0) = true := decide_eq_true hn
        have hr := lr (l + 1) (apF l g 45) (by omega) (by rw [lsI_ap, fmtL, if_pos hn, hl]) (l + 1) 0 (apF l g 45) (by omega) (by omega) (by omega) (fun r hr => by rw [if_neg (by omega)])
        rw [show ((l + 1 : Nat) : Int) - 1 - ((0 : Nat) : Int) = ((l + 1 : Nat) : Int) - 1 by omega] at hr
        refine piece_ok mixed hc (fIt n 0 l g) ?_ hr
        simp only [All]
        repeat' (first | exact trivial | with_reducible apply And.intro)
        all_goals (first | omega | rfl | (intros; first | assumption | exact trivial | rfl | contradiction | ((repeat' (first | assumption | apply anda | apply notf)); done)) | (exact hd) | (intro j hj; by_cases h' : j < l <;> simp [h', apF, cvtL, cvt, tg, tru, All]; done) | (simp only [imin, imax]; omega))
      · have hd : decide (n < 0) = false := decide_eq_false hn
        have hr := lr l g (by omega) (by rw [fmtL, if_neg hn, hl, List.append_nil]) l 0 g (by omega) (by omega) (by omega) (fun r hr => by rw [if_neg (by omega)])
        rw [show (l : Int) - 1 - ((0 : Nat) : Int) = (l : Int) - 1 by omega] at hr
        refine piece_ok mixed hc (fIf n 0 l g) ?_ hr
        simp only [All]
        repeat' (first | exact trivial | with_reducible apply And.intro)
        all_goals (first | exact aA _ _ | omega | rfl | (intros; first | assumption | exact trivial | rfl | contradiction | ((repeat' (first | assumption | apply anda | apply notf)); done)) | (exact hd) | (intro j hj; simp [All, aEt]; done) | (simp only [imin, imax]; omega))
    intro f
    induction f with
    | zero =>
      intro m l g hl hm hd hs1 hs2 hb1 hb2
      obtain rfl : m = 0 := by simp at hm; omega
      exact fin l g (by rw [hd]; simp [dg]) (by omega)
    | succ f ih =>
      intro m l g hl hm hd hs1 hs2 hb1 hb2
      by_cases hm0 : m = 0
      · subst hm0
        exact fin l g (by rw [hd]; simp [dg]) (by omega)
      have hmt : (m != 0) = true := by simpa using hm0
      have hma : m.natAbs ≠ 0 := by omega
      have htd := td10 m
      have hrec := ih (m.tdiv 10) (l + 1) (apF l g (48 + ((m.natAbs % 10 : Nat) : Int))) (by omega) (by rw [td_abs]; rw [Nat.pow_succ] at hm; omega) (by rw [hd, td_abs, dg, if_neg hma, lsI_ap]; simp) (by intro h; rw [htd]; split <;> omega) (by intro h; rw [htd]; split <;> omega) (by rw [htd]; split <;> omega) (by rw [htd]; split <;> omega)
      have hw : IntKind.i64.wrap (m.tdiv 10) = m.tdiv 10 := wrap_in (k := .i64) (by show (-9223372036854775808 : Int) ≤ _; rw [htd]; split <;> omega) (by show _ ≤ (9223372036854775807 : Int); rw [htd]; split <;> omega)
      have htm := tm10 m
      by_cases hneg : m.tmod 10 < 0
      · have hng : decide (m.tmod 10 < 0) = true := decide_eq_true hneg
        have hd' : 0 - m.tmod 10 = ((m.natAbs % 10 : Nat) : Int) := by rw [htm] at hneg ⊢; split at hneg <;> simp_all <;> omega
        refine piece_ok mixed hc (fIn n m (m.tdiv 10) l g (48 + ((m.natAbs % 10 : Nat) : Int))) ?_ hrec
        simp only [All]
        repeat' (first | exact trivial | with_reducible apply And.intro)
        all_goals (first | omega | rfl | (intros; first | assumption | exact trivial | rfl | contradiction | ((repeat' (first | assumption | apply anda | apply notf)); done)) | (exact hmt) | (exact hng) | (exact hw) | (intro j hj; by_cases h' : j < l <;> simp [h', hd', apF, cvtL, cvt, tg, tru, All]; done) | (show (_ : Int) ≤ _; rw [hd']; omega) | (simp only [imin, imax]; omega))
      · have hng : decide (m.tmod 10 < 0) = false := decide_eq_false hneg
        have hd' : m.tmod 10 = ((m.natAbs % 10 : Nat) : Int) := by rw [htm] at hneg ⊢; split at hneg <;> simp_all <;> omega
        refine piece_ok mixed hc (fIp n m (m.tdiv 10) l g (48 + ((m.natAbs % 10 : Nat) : Int))) ?_ hrec
        simp only [All]
        repeat' (first | exact trivial | with_reducible apply And.intro)
        all_goals (first | omega | rfl | (intros; first | assumption | exact trivial | rfl | contradiction | ((repeat' (first | assumption | apply anda | apply notf)); done)) | (exact hmt) | (exact hng) | (exact hw) | (intro j hj; by_cases h' : j < l <;> simp [h', hd', apF, cvtL, cvt, tg, tru, All]; done) | (show (_ : Int) ≤ _; rw [hd']; omega) | (simp only [imin, imax]; omega))
  refine piece_ok mixed hc (fIz n) ?_ (lp 20 n 0 (fun _ => 0) rfl (by omega) (by simp [lsI]) (fun h => by omega) (fun h => h) h0 h1)
  simp only [All]
  repeat' (first | exact trivial | with_reducible apply And.intro)
  all_goals (first | exact aA _ _ | omega | rfl | (intros; first | assumption | exact trivial | rfl | contradiction | ((repeat' (first | assumption | apply anda | apply notf)); done)) | (exact hz') | (intro j hj; exact absurd hj (Nat.not_lt_zero _)) | rfl)
end Go.Proofs.YtgdbnnmogddkaaaGreat.Mach
namespace Go.Proofs.YtgdbnnmogddkaaaGreat.Mach
open Go Go.Sort
set_option linter.unusedVariables false
set_option linter.unusedSimpArgs false
def kBars : ByteArray := ⟨#[98, 97, 114, 115, 32]⟩
def kFree : ByteArray := ⟨#[32, 102, 114, 101, 101, 100, 111, 109, 32]⟩
def kSteady : ByteArray := ⟨#[32, 115, 116, 101, 97, 100, 121, 32]⟩
def kWorst : ByteArray := ⟨#[32, 119, 111, 114, 115, 116, 32]⟩
def kDash : ByteArray := ⟨#[45]⟩
def kDrops : ByteArray := ⟨#[32, 100, 114, 111, 112, 115, 32]⟩
theorem kBars_z : (ByteArray.mk #[98, 97, 114, 115, 32]).size = 5 := rfl
theorem kFree_z : (ByteArray.mk #[32, 102, 114, 101, 101, 100, 111, 109, 32]).size = 9 := rfl
theorem kSteady_z : (ByteArray.mk #[32, 115, 116, 101, 97, 100, 121, 32]).size = 8 := rfl
theorem kWorst_z : (ByteArray.mk #[32, 119, 111, 114, 115, 116, 32]).size = 7 := rfl
theorem kDash_z : (ByteArray.mk #[45]).size = 1 := rfl
theorem kDrops_z : (ByteArray.mk #[32, 100, 114, 111, 112, 115, 32]).size = 7 := rfl
theorem lEn (x : T_Bar) (fa fb : ByteArray) :
    pathOb Tryz.prog Tryz.f65 0 [rg 2, rm [(5, oc [] (.p (.str fa))), (6, oc [] (.p (.str fb)))] 2] [.code (bodyOf Tryz.f65)] (start Tryz.f65 [] 0 [.agg [.p (.int .i64 x.1), .p (.int .i64 x.2.1)]]) [] 1 [] (.p (.str ((fa ++ kDash) ++ fb))) =
    some [(NT 0 1),(NT 0 1),Con Tryz.prog 67 0 [] [.p (.int .i64 (if false = true then if x.2.1 > x.1 then x.2.1 else x.1 else if x.2.1 < x.1 then x.2.1 else x.1))] [] (.p (.str fa)),(NL (fa.size + (ByteArray.mk #[45]).size) 9223372036854775807),(NT 0 1),(NT 0 1),Con Tryz.prog 67 0 [] [.p (.int .i64 (if true = true then if x.2.1 > x.1 then x.2.1 else x.1 else if x.2.1 < x.1 then x.2.1 else x.1))] [] (.p (.str fb)),(NL ((fa ++ ByteArray.mk #[45]).size + fb.size) 9223372036854775807),(fa ++ ByteArray.mk #[45] ++ fb = fa ++ kDash ++ fb)] := by kernel_rfl
theorem lIn (p : T_Pinned) :
    pathOb Tryz.prog Tryz.f38 0 [rg 2, rm [(1, oc [] (.p (.bool false)))] 1, .dec true, rg 1] [.code (bodyOf Tryz.f38)] (start Tryz.f38 [] 0 [pinA p]) [] 1 [] (.p (.str ⟨#[]⟩)) =
    some [(NT 0 1),Con Tryz.prog 63 0 [] [(zf26 p)] [] (.p (.bool false)),((!false) = true),(ByteArray.mk #[] = ByteArray.mk #[])] := by kernel_rfl
theorem lIa (p : T_Pinned) (fr w m : Int) (n : Nat) (h : Nat → Int) (f1 f2 f3 f4 f5 : ByteArray) :
    pathOb Tryz.prog Tryz.f38 0 [rg 2, rm [(1, oc [] (.p (.bool true)))] 1, .dec false, rm [(4, oc [] (.p (.str f1))), (3, oc [] (.p (.int .i64 fr))), (0, oc [] (.p (.str f2))), (3, oc [(0, iOb n h)] (.ar 1 0 0 n)), (1, oc [] (.p (.str f3)))] 2, rm [(1, oc [] (.tup [.p (.int .i64 w), .p (.int .i64 m)]))] 5, rg 2, .dec true, rm [(8, oc [] (.p (.str f4))), (3, oc [] (.p (.str f5)))] 2, rg 2] [.code (bodyOf Tryz.f38)] (start Tryz.f38 [] 0 [pinA p]) [] 1 [] (.p (.str (((((((((kBars ++ f1) ++ kFree) ++ f2) ++ kSteady) ++ f3) ++ kWorst) ++ f4) ++ kDrops) ++ f5))) =
    some [(NT 0 1),Con Tryz.prog 63 0 [] [(zf26 p)] [] (.p (.bool true)),((!true) = false),(NT 0 1),Con Tryz.prog 67 0 [] [.p (.int .i64 (↑p.1.2.1.1 : Int))] [] (.p (.str f1)),(NL ((ByteArray.mk #[98, 97, 114, 115, 32]).size + f1.size) 9223372036854775807),(NL ((ByteArray.mk #[98, 97, 114, 115, 32] ++ f1).size + (ByteArray.mk #[32, 102, 114, 101, 101, 100, 111, 109, 32]).size) 9223372036854775807),(NT 0 1),Con Tryz.prog 68 0 [] [(zf26 p)] [] (.p (.int .i64 fr)),Con Tryz.prog 67 0 [] [.p (.int .i64 fr)] [] (.p (.str f2)),(NL ((ByteArray.mk #[98, 97, 114, 115, 32] ++ f1 ++ ByteArray.mk #[32, 102, 114, 101, 101, 100, 111, 109, 32]).size + f2.size) 9223372036854775807),(NL ((ByteArray.mk #[98, 97, 114, 115, 32] ++ f1 ++ ByteArray.mk #[32, 102, 114, 101, 101, 100, 111, 109, 32] ++ f2).size + (ByteArray.mk #[32, 115, 116, 101, 97, 100, 121, 32]).size) 9223372036854775807),(NT 0 1),Con Tryz.prog 69 0 [] [(zf26 p)] [(0, ⟨false, 1, n, (fun i => [.p (.int .i64 (h i))])⟩)] (.ar 1 0 0 n),Con Tryz.prog 67 0 [] [.p (.int .i64 (↑n : Int))] [] (.p (.str f3)),(NL ((ByteArray.mk #[98, 97, 114, 115, 32] ++ f1 ++ ByteArray.mk #[32, 102, 114, 101, 101, 100, 111, 109, 32] ++ f2 ++ ByteArray.mk #[32, 115, 116, 101, 97, 100, 121, 32]).size + f3.size) 9223372036854775807),(NT 0 1),Con Tryz.prog 70 0 [] [(zf26 p)] [] (.tup [.p (.int .i64 w), .p (.int .i64 m)]),((decide (w ≥ 0)) = true),(NL ((ByteArray.mk #[98, 97, 114, 115, 32] ++ f1 ++ ByteArray.mk #[32, 102, 114, 101, 101, 100, 111, 109, 32] ++ f2 ++ ByteArray.mk #[32, 115, 116, 101, 97, 100, 121, 32] ++ f3).size + (ByteArray.mk #[32, 119, 111, 114, 115, 116, 32]).size) 9223372036854775807),(NT 0 1),(IL 0 w),(IT w (↑p.1.2.1.1 : Int)),Con Tryz.prog 65 0 [] [.agg [.p (.int .i64 ((p.1.2.1.2 w.toNat).1)), .p (.int .i64 ((p.1.2.1.2 w.toNat).2.1))]] [] (.p (.str f4)),(NL ((ByteArray.mk #[98, 97, 114, 115, 32] ++ f1 ++ ByteArray.mk #[32, 102, 114, 101, 101, 100, 111, 109, 32] ++ f2 ++ ByteArray.mk #[32, 115, 116, 101, 97, 100, 121, 32] ++ f3 ++ ByteArray.mk #[32, 119, 111, 114, 115, 116, 32]).size + f4.size) 9223372036854775807),(NL ((ByteArray.mk #[98, 97, 114, 115, 32] ++ f1 ++ ByteArray.mk #[32, 102, 114, 101, 101, 100, 111, 109, 32] ++ f2 ++ ByteArray.mk #[32, 115, 116, 101, 97, 100, 121, 32] ++ f3 ++ ByteArray.mk #[32, 119, 111, 114, 115, 116, 32] ++ f4).size + (ByteArray.mk #[32, 100, 114, 111, 112, 115, 32]).size) 9223372036854775807),Con Tryz.prog 67 0 [] [.p (.int .i64 m)] [] (.p (.str f5)),(NL ((ByteArray.mk #[98, 97, 114, 115, 32] ++ f1 ++ ByteArray.mk #[32, 102, 114, 101, 101, 100, 111, 109, 32] ++ f2 ++ ByteArray.mk #[32, 115, 116, 101, 97, 100, 121, 32] ++ f3 ++ ByteArray.mk #[32, 119, 111, 114, 115, 116, 32] ++ f4 ++ ByteArray.mk #[32, 100, 114, 111, 112, 115, 32]).size + f5.size) 9223372036854775807),(ByteArray.mk #[98, 97, 114, 115, 32] ++ f1 ++ ByteArray.mk #[32, 102, 114, 101, 101, 100, 111, 109, 32] ++ f2 ++ ByteArray.mk #[32, 115, 116, 101, 97, 100, 121, 32] ++ f3 ++ ByteArray.mk #[32, 119, 111, 114, 115, 116, 32] ++ f4 ++ ByteArray.mk #[32, 100, 114, 111, 112, 115, 32] ++ f5 = kBars ++ f1 ++ kFree ++ f2 ++ kSteady ++ f3 ++ kWorst ++ f4 ++ kDrops ++ f5)] := by kernel_rfl
theorem lIb (p : T_Pinned) (fr w m : Int) (n : Nat) (h : Nat → Int) (f1 f2 f3 : ByteArray) :
    pathOb Tryz.prog Tryz.f38 0 [rg 2, rm [(1, oc [] (.p (.bool true)))] 1, .dec false, rm [(4, oc [] (.p (.str f1))), (3, oc [] (.p (.int .i64 fr))), (0, oc [] (.p (.str f2))), (3, oc [(0, iOb n h)] (.ar 1 0 0 n)), (1, oc [] (.p (.str f3)))] 2, rm [(1, oc [] (.tup [.p (.int .i64 w), .p (.int .i64 m)]))] 5, rg 2, .dec false, rg 2] [.code (bodyOf Tryz.f38)] (start Tryz.f38 [] 0 [pinA p]) [] 1 [] (.p (.str (((((kBars ++ f1) ++ kFree) ++ f2) ++ kSteady) ++ f3))) =
    some [(NT 0 1),Con Tryz.prog 63 0 [] [(zf26 p)] [] (.p (.bool true)),((!true) = false),(NT 0 1),Con Tryz.prog 67 0 [] [.p (.int .i64 (↑p.1.2.1.1 : Int))] [] (.p (.str f1)),(NL ((ByteArray.mk #[98, 97, 114, 115, 32]).size + f1.size) 9223372036854775807),(NL ((ByteArray.mk #[98, 97, 114, 115, 32] ++ f1).size + (ByteArray.mk #[32, 102, 114, 101, 101, 100, 111, 109, 32]).size) 9223372036854775807),(NT 0 1),Con Tryz.prog 68 0 [] [(zf26 p)] [] (.p (.int .i64 fr)),Con Tryz.prog 67 0 [] [.p (.int .i64 fr)] [] (.p (.str f2)),(NL ((ByteArray.mk #[98, 97, 114, 115, 32] ++ f1 ++ ByteArray.mk #[32, 102, 114, 101, 101, 100, 111, 109, 32]).size + f2.size) 9223372036854775807),(NL ((ByteArray.mk #[98, 97, 114, 115, 32] ++ f1 ++ ByteArray.mk #[32, 102, 114, 101, 101, 100, 111, 109, 32] ++ f2).size + (ByteArray.mk #[32, 115, 116, 101, 97, 100, 121, 32]).size) 9223372036854775807),(NT 0 1),Con Tryz.prog 69 0 [] [(zf26 p)] [(0, ⟨false, 1, n, (fun i => [.p (.int .i64 (h i))])⟩)] (.ar 1 0 0 n),Con Tryz.prog 67 0 [] [.p (.int .i64 (↑n : Int))] [] (.p (.str f3)),(NL ((ByteArray.mk #[98, 97, 114, 115, 32] ++ f1 ++ ByteArray.mk #[32, 102, 114, 101, 101, 100, 111, 109, 32] ++ f2 ++ ByteArray.mk #[32, 115, 116, 101, 97, 100, 121, 32]).size + f3.size) 9223372036854775807),(NT 0 1),Con Tryz.prog 70 0 [] [(zf26 p)] [] (.tup [.p (.int .i64 w), .p (.int .i64 m)]),((decide (w ≥ 0)) = false),(ByteArray.mk #[98, 97, 114, 115, 32] ++ f1 ++ ByteArray.mk #[32, 102, 114, 101, 101, 100, 111, 109, 32] ++ f2 ++ ByteArray.mk #[32, 115, 116, 101, 97, 100, 121, 32] ++ f3 = kBars ++ f1 ++ kFree ++ f2 ++ kSteady ++ f3)] := by kernel_rfl
theorem lSn (p : T_Pinned) :
    pathOb Tryz.prog Tryz.f27 0 [rg 2, rm [(1, oc [] (.p (.bool false)))] 1, .dec true, rg 1] [.code (bodyOf Tryz.f27)] (start Tryz.f27 [] 0 [pinA p]) [] 1 [] (.p (.str ⟨#[]⟩)) =
    some [(NT 0 1),Con Tryz.prog 51 0 [] [(zf26 p)] [] (.p (.bool false)),((!false) = true),(ByteArray.mk #[] = ByteArray.mk #[])] := by kernel_rfl
theorem lSa (p : T_Pinned) (fr w m : Int) (n : Nat) (h : Nat → Int) (f1 f2 f3 f4 f5 f6 : ByteArray) :
    pathOb Tryz.prog Tryz.f27 0 [rg 2, rm [(1, oc [] (.p (.bool true)))] 1, .dec false, rm [(4, oc [] (.p (.str f1))), (3, oc [] (.p (.int .i64 fr))), (0, oc [] (.p (.str f2))), (3, oc [(0, iOb n h)] (.ar 1 0 0 n)), (1, oc [] (.p (.str f3)))] 2, rm [(1, oc [] (.tup [.p (.int .i64 w), .p (.int .i64 m)]))] 5, rg 2, .dec true, rm [(9, oc [] (.p (.str f4))), (9, oc [] (.p (.str f5))), (3, oc [] (.p (.str f6)))] 2, rg 2] [.code (bodyOf Tryz.f27)] (start Tryz.f27 [] 0 [pinA p]) [] 1 [] (.p (.str (((((((((((kBars ++ f1) ++ kFree) ++ f2) ++ kSteady) ++ f3) ++ kWorst) ++ f4) ++ kDash) ++ f5) ++ kDrops) ++ f6))) =
    some [(NT 0 1),Con Tryz.prog 51 0 [] [(zf26 p)] [] (.p (.bool true)),((!true) = false),(NT 0 1),Con Tryz.prog 53 0 [] [.p (.int .i64 (↑p.1.2.1.1 : Int))] [] (.p (.str f1)),(NL ((ByteArray.mk #[98, 97, 114, 115, 32]).size + f1.size) 9223372036854775807),(NL ((ByteArray.mk #[98, 97, 114, 115, 32] ++ f1).size + (ByteArray.mk #[32, 102, 114, 101, 101, 100, 111, 109, 32]).size) 9223372036854775807),(NT 0 1),Con Tryz.prog 55 0 [] [(zf26 p)] [] (.p (.int .i64 fr)),Con Tryz.prog 53 0 [] [.p (.int .i64 fr)] [] (.p (.str f2)),(NL ((ByteArray.mk #[98, 97, 114, 115, 32] ++ f1 ++ ByteArray.mk #[32, 102, 114, 101, 101, 100, 111, 109, 32]).size + f2.size) 9223372036854775807),(NL ((ByteArray.mk #[98, 97, 114, 115, 32] ++ f1 ++ ByteArray.mk #[32, 102, 114, 101, 101, 100, 111, 109, 32] ++ f2).size + (ByteArray.mk #[32, 115, 116, 101, 97, 100, 121, 32]).size) 9223372036854775807),(NT 0 1),Con Tryz.prog 56 0 [] [(zf26 p)] [(0, ⟨false, 1, n, (fun i => [.p (.int .i64 (h i))])⟩)] (.ar 1 0 0 n),Con Tryz.prog 53 0 [] [.p (.int .i64 (↑n : Int))] [] (.p (.str f3)),(NL ((ByteArray.mk #[98, 97, 114, 115, 32] ++ f1 ++ ByteArray.mk #[32, 102, 114, 101, 101, 100, 111, 109, 32] ++ f2 ++ ByteArray.mk #[32, 115, 116, 101, 97, 100, 121, 32]).size + f3.size) 9223372036854775807),(NT 0 1),Con Tryz.prog 57 0 [] [(zf26 p)] [] (.tup [.p (.int .i64 w), .p (.int .i64 m)]),((decide (w ≥ 0)) = true),(NL ((ByteArray.mk #[98, 97, 114, 115, 32] ++ f1 ++ ByteArray.mk #[32, 102, 114, 101, 101, 100, 111, 109, 32] ++ f2 ++ ByteArray.mk #[32, 115, 116, 101, 97, 100, 121, 32] ++ f3).size + (ByteArray.mk #[32, 119, 111, 114, 115, 116, 32]).size) 9223372036854775807),(NT 0 1),(IL 0 w),(IT w (↑p.1.2.1.1 : Int)),Con Tryz.prog 53 0 [] [.p (.int .i64 ((p.1.2.1.2 w.toNat).1))] [] (.p (.str f4)),(NL ((ByteArray.mk #[98, 97, 114, 115, 32] ++ f1 ++ ByteArray.mk #[32, 102, 114, 101, 101, 100, 111, 109, 32] ++ f2 ++ ByteArray.mk #[32, 115, 116, 101, 97, 100, 121, 32] ++ f3 ++ ByteArray.mk #[32, 119, 111, 114, 115, 116, 32]).size + f4.size) 9223372036854775807),(NL ((ByteArray.mk #[98, 97, 114, 115, 32] ++ f1 ++ ByteArray.mk #[32, 102, 114, 101, 101, 100, 111, 109, 32] ++ f2 ++ ByteArray.mk #[32, 115, 116, 101, 97, 100, 121, 32] ++ f3 ++ ByteArray.mk #[32, 119, 111, 114, 115, 116, 32] ++ f4).size + (ByteArray.mk #[45]).size) 9223372036854775807),(NT 0 1),(IL 0 w),(IT w (↑p.1.2.1.1 : Int)),Con Tryz.prog 53 0 [] [.p (.int .i64 ((p.1.2.1.2 w.toNat).2.1))] [] (.p (.str f5)),(NL ((ByteArray.mk #[98, 97, 114, 115, 32] ++ f1 ++ ByteArray.mk #[32, 102, 114, 101, 101, 100, 111, 109, 32] ++ f2 ++ ByteArray.mk #[32, 115, 116, 101, 97, 100, 121, 32] ++ f3 ++ ByteArray.mk #[32, 119, 111, 114, 115, 116, 32] ++ f4 ++ ByteArray.mk #[45]).size + f5.size) 9223372036854775807),(NL ((ByteArray.mk #[98, 97, 114, 115, 32] ++ f1 ++ ByteArray.mk #[32, 102, 114, 101, 101, 100, 111, 109, 32] ++ f2 ++ ByteArray.mk #[32, 115, 116, 101, 97, 100, 121, 32] ++ f3 ++ ByteArray.mk #[32, 119, 111, 114, 115, 116, 32] ++ f4 ++ ByteArray.mk #[45] ++ f5).size + (ByteArray.mk #[32, 100, 114, 111, 112, 115, 32]).size) 9223372036854775807),Con Tryz.prog 53 0 [] [.p (.int .i64 m)] [] (.p (.str f6)),(NL ((ByteArray.mk #[98, 97, 114, 115, 32] ++ f1 ++ ByteArray.mk #[32, 102, 114, 101, 101, 100, 111, 109, 32] ++ f2 ++ ByteArray.mk #[32, 115, 116, 101, 97, 100, 121, 32] ++ f3 ++ ByteArray.mk #[32, 119, 111, 114, 115, 116, 32] ++ f4 ++ ByteArray.mk #[45] ++ f5 ++ ByteArray.mk #[32, 100, 114, 111, 112, 115, 32]).size + f6.size) 9223372036854775807),(ByteArray.mk #[98, 97, 114, 115, 32] ++ f1 ++ ByteArray.mk #[32, 102, 114, 101, 101, 100, 111, 109, 32] ++ f2 ++ ByteArray.mk #[32, 115, 116, 101, 97, 100, 121, 32] ++ f3 ++ ByteArray.mk #[32, 119, 111, 114, 115, 116, 32] ++ f4 ++ ByteArray.mk #[45] ++ f5 ++ ByteArray.mk #[32, 100, 114, 111, 112, 115, 32] ++ f6 = kBars ++ f1 ++ kFree ++ f2 ++ kSteady ++ f3 ++ kWorst ++ f4 ++ kDash ++ f5 ++ kDrops ++ f6)] := by kernel_rfl
theorem lSb (p : T_Pinned) (fr w m : Int) (n : Nat) (h : Nat → Int) (f1 f2 f3 : ByteArray) :
    pathOb Tryz.prog Tryz.f27 0 [rg 2, rm [(1, oc [] (.p (.bool true)))] 1, .dec false, rm [(4, oc [] (.p (.str f1))), (3, oc [] (.p (.int .i64 fr))), (0, oc [] (.p (.str f2))), (3, oc [(0, iOb n h)] (.ar 1 0 0 n)), (1, oc [] (.p (.str f3)))] 2, rm [(1, oc [] (.tup [.p (.int .i64 w), .p (.int .i64 m)]))] 5, rg 2, .dec false, rg 2] [.code (bodyOf Tryz.f27)] (start Tryz.f27 [] 0 [pinA p]) [] 1 [] (.p (.str (((((kBars ++ f1) ++ kFree) ++ f2) ++ kSteady) ++ f3))) =
    some [(NT 0 1),Con Tryz.prog 51 0 [] [(zf26 p)] [] (.p (.bool true)),((!true) = false),(NT 0 1),Con Tryz.prog 53 0 [] [.p (.int .i64 (↑p.1.2.1.1 : Int))] [] (.p (.str f1)),(NL ((ByteArray.mk #[98, 97, 114, 115, 32]).size + f1.size) 9223372036854775807),(NL ((ByteArray.mk #[98, 97, 114, 115, 32] ++ f1).size + (ByteArray.mk #[32, 102, 114, 101, 101, 100, 111, 109, 32]).size) 9223372036854775807),(NT 0 1),Con Tryz.prog 55 0 [] [(zf26 p)] [] (.p (.int .i64 fr)),Con Tryz.prog 53 0 [] [.p (.int .i64 fr)] [] (.p (.str f2)),(NL ((ByteArray.mk #[98, 97, 114, 115, 32] ++ f1 ++ ByteArray.mk #[32, 102, 114, 101, 101, 100, 111, 109, 32]).size + f2.size) 9223372036854775807),(NL ((ByteArray.mk #[98, 97, 114, 115, 32] ++ f1 ++ ByteArray.mk #[32, 102, 114, 101, 101, 100, 111, 109, 32] ++ f2).size + (ByteArray.mk #[32, 115, 116, 101, 97, 100, 121, 32]).size) 9223372036854775807),(NT 0 1),Con Tryz.prog 56 0 [] [(zf26 p)] [(0, ⟨false, 1, n, (fun i => [.p (.int .i64 (h i))])⟩)] (.ar 1 0 0 n),Con Tryz.prog 53 0 [] [.p (.int .i64 (↑n : Int))] [] (.p (.str f3)),(NL ((ByteArray.mk #[98, 97, 114, 115, 32] ++ f1 ++ ByteArray.mk #[32, 102, 114, 101, 101, 100, 111, 109, 32] ++ f2 ++ ByteArray.mk #[32, 115, 116, 101, 97, 100, 121, 32]).size + f3.size) 9223372036854775807),(NT 0 1),Con Tryz.prog 57 0 [] [(zf26 p)] [] (.tup [.p (.int .i64 w), .p (.int .i64 m)]),((decide (w ≥ 0)) = false),(ByteArray.mk #[98, 97, 114, 115, 32] ++ f1 ++ ByteArray.mk #[32, 102, 114, 101, 101, 100, 111, 109, 32] ++ f2 ++ ByteArray.mk #[32, 115, 116, 101, 97, 100, 121, 32] ++ f3 = kBars ++ f1 ++ kFree ++ f2 ++ kSteady ++ f3)] := by kernel_rfl
theorem sm_pinnedD {p : T_Pinned} (h : pinnedF p = true) : smS s_Pinned p := by
  have := pinned_in h
  have := (graph_inR this.1).2.2.1
  exact sm_pin (by omega) (by omega)
def woP (p : T_Pinned) (e : Nat) : T_Pinned := ((p.1.1, (p.1.2.1.1 - 1, delB p.1.2.1.1 p.1.2.1.2 e), ()), p.2)
theorem con_RemoveBar_s (v : T_Graph) (hg : isGraphF v = true) (e : Nat) (he : e < v.2.1.1) : Con Tryz.prog 54 0 [] [graphA v, .p (.int .i64 e)] [(0, brOb (v.2.1.1 - 1) (delB v.2.1.1 v.2.1.2 e))] (.tup [.agg [.p (.int .i64 v.1), .ar 2 0 0 (v.2.1.1 - 1)], .p (.bool true)]) := by
  obtain ⟨g1, g2, g3, g4⟩ := graph_inR hg
  have c1 := con_IsGraph_s v (sm_graph (by omega))
  rw [hg] at c1
  have hd : (bif bif !true then true else decide ((e : Int) < 0) then true else decide ((e : Int) ≥ (v.2.1.1 : Int))) = false := by
    rw [decide_eq_false (show ¬ ((e : Int) < 0) by omega), decide_eq_false (show ¬ ((e : Int) ≥ (v.2.1.1 : Int)) by omega)]; rfl
  refine con_start Tryz.func54 rfl (by kernel_rfl) rfl (fun c hc => ?_)
  refine path_ok mixed Tryz.func54 hc (zqRb v e) ?_
  simp only [All]
  repeat' (first | exact trivial | with_reducible apply And.intro)
  all_goals (first | exact aG _ | exact aE _ | omega | rfl | (intros; first | assumption | exact trivial | rfl | contradiction | ((repeat' (first | assumption | apply anda | apply notf)); done)) | (exact c1) | (exact hd) | (intro t ht; rcases Nat.lt_or_ge t e with h1 | h1; (simp [h1, delB, cvtL, cvt, tg, tru, All]); ((try dsimp only); rw [if_neg (show ¬ t < 0 + e by omega), show t - (0 + e) + (e + 1) = t + 1 by omega]; simp [show ¬ t < e by omega, delB, show t + 1 < v.2.1.1 by omega, cvtL, cvt, tg, tru, All])))
theorem con_l27Less (p : T_Pinned) (hp : pinnedF p = true) (e : Nat) (he : e < p.1.2.1.1) : Con Tryz.prog 26 0 [] [pinA p, .p (.int .i64 e)] [(0, brOb (woP p e).1.2.1.1 (woP p e).1.2.1.2), (1, iOb p.2.1.1 p.2.1.2)] (.agg [.p (.int .i64 p.1.1), .ar 2 0 0 (woP p e).1.2.1.1, .ar 1 1 0 p.2.1.1]) := by
  have hp1 := pinned_in hp
  have ok := pin_ok hp
  have hm := ok.m
  have c1 := con_RemoveBar_s p.1 hp1.1 e he
  refine con_start Tryz.func26 rfl (by kernel_rfl) rfl (fun c hc => ?_)
  refine path_ok mixed Tryz.func26 hc (zqLl p e (woP p e).1.2.1.1 (woP p e).1.2.1.2) ?_
  simp only [All]
  repeat' (first | exact trivial | with_reducible apply And.intro)
  all_goals (first | exact aA _ _ | exact aE _ | omega | rfl | (intros; first | assumption | exact trivial | rfl | contradiction | ((repeat' (first | assumption | apply anda | apply notf)); done)) | (exact c1) | (intro t ht; simp [cvtL, cvt, tg, tru, All]))
theorem con_withoutBar (p : T_Pinned) (hp : pinnedF p = true) (e : Nat) (he : e < p.1.2.1.1) : Con Tryz.prog 37 0 [] [pinA p, .p (.int .i64 e)] [(0, brOb (woP p e).1.2.1.1 (woP p e).1.2.1.2), (1, iOb p.2.1.1 p.2.1.2)] (.agg [.p (.int .i64 p.1.1), .ar 2 0 0 (woP p e).1.2.1.1, .ar 1 1 0 p.2.1.1]) := by
  have ok := pin_ok hp
  have hm := ok.m; have hnb := ok.nb
  have c1 := con_copyPinned p (sm_pinnedD hp)
  have c2 := con_DelBar p.1.2.1.1 e p.1.2.1.2 he (by omega)
  refine con_start Tryz.func37 rfl (by kernel_rfl) rfl (fun c hc => ?_)
  refine path_ok mixed Tryz.func37 hc (zqWo p e (p.1.2.1.1 - 1) (delB p.1.2.1.1 p.1.2.1.2 e)) ?_
  simp only [All]
  repeat' (first | exact trivial | with_reducible apply And.intro)
  all_goals (first | exact aA _ _ | exact aE _ | omega | rfl | (intros; first | assumption | exact trivial | rfl | contradiction | ((repeat' (first | assumption | apply anda | apply notf)); done)) | (exact c1) | (exact c2) | (intro t ht; simp [cvtL, cvt, tg, tru, All]))
def fwD (b a : NI) : Nat → NI
  | 0 => zNI
  | k + 1 => if hasI a.2 (b.2 k) a.1 = true then fwD b a k else snN (fwD b a k) (b.2 k)
noncomputable def fwR (p : T_Pinned) (e : Nat) : NI := fwD (sdR p) (sdR (woP p e)) (sdR p).1
theorem fwD_n (b a : NI) : ∀ k, (fwD b a k).1 ≤ k
  | 0 => Nat.le_refl _
  | k + 1 => by
    have := fwD_n b a k
    simp only [fwD]
    split
    · omega
    · simp only [snN]; omega
theorem fwR_n (p : T_Pinned) (e : Nat) : (fwR p e).1 ≤ 8 := by
  have := fwD_n (sdR p) (sdR (woP p e)) (sdR p).1
  have := sdR_n p
  unfold fwR
  omega
theorem sm_wo {p : T_Pinned} (hp : pinnedF p = true) (e : Nat) : smS s_Pinned (woP p e) := by
  have ok := pin_ok hp
  have hm := ok.m; have hnb := ok.nb
  exact sm_pin (by show p.1.2.1.1 - 1 ≤ 1048576; omega) (by show p.2.1.1 ≤ 1048576; omega)
theorem con_Falls_i (p : T_Pinned) (hp : pinnedF p = true) (e : Nat) (he : e < p.1.2.1.1) : Con Tryz.prog 106 0 [] [pinA p, .p (.int .i64 e)] [(0, iOb (fwR p e).1 (fwR p e).2)] (.ar 1 0 0 (fwR p e).1) := by
  have hnb := (pin_ok hp).nb
  have c1 := con_IsPinned_i p (sm_pinnedD hp)
  rw [hp] at c1
  have cw := con_within e 0 ((p.1.2.1.1 : Int) - 1)
  rw [show inB (e : Int) 0 ((p.1.2.1.1 : Int) - 1) = true by simp [inB]; omega] at cw
  have co := con_withoutBar p hp e he
  have ca := con_Steady_i (woP p e) (sm_wo hp e)
  have cb := con_Steady_i p (sm_pinnedD hp)
  have na := sdR_n (woP p e)
  have nb := sdR_n p
  unfold fwR
  generalize sdR (woP p e) = A at *
  generalize sdR p = B at *
  refine con_start Tryz.func106 rfl (by kernel_rfl) rfl (fun c hc => ?_)
  generalize hR : fwD B A B.1 = R
  have lo : ∀ d k, k + d = B.1 → Run Tryz.prog c 106 zf36 (SYf p e k (fwD B A k).1 A.1 B.1 (fwD B A k).2 A.2 B.2) (Post c [(0, iOb R.1 R.2)] (.ar 1 0 0 R.1)) := by
    intro d
    induction d with
    | zero =>
      intro k hk
      obtain rfl : k = B.1 := by omega
      have hd : decide ((B.1 : Int) < (B.1 : Int)) = false := by simp
      rw [hR]
      refine path_ok mixed Tryz.func106 hc (zqFe p e B.1 R.1 A.1 B.1 R.2 A.2 B.2) ?_
      simp only [All]
      repeat' (first | exact trivial | with_reducible apply And.intro)
      all_goals (first | exact aA _ _ | exact aE _ | omega | rfl | (intros; first | assumption | exact trivial | rfl | contradiction | ((repeat' (first | assumption | apply anda | apply notf)); done)) | (exact hd) | (intro t ht; simp [cvtL, cvt, tg, tru, All]))
    | succ d ih =>
      intro k hk
      have hrec := ih (k + 1) (by omega)
      have hd : decide ((k : Int) < (B.1 : Int)) = true := decide_eq_true (by omega)
      have ch := con_Contains A (B.2 k) (by omega)
      have hn := fwD_n B A k
      cases hh : hasI A.2 (B.2 k) A.1 with
      | true =>
        rw [hh] at ch
        rw [show fwD B A (k + 1) = fwD B A k by simp [fwD, hh]] at hrec
        generalize fwD B A k = q at hn hrec ⊢
        refine piece_ok mixed hc (zqFb p e k q.1 A.1 B.1 q.2 A.2 B.2) ?_ hrec
        simp only [All]
        repeat' (first | exact trivial | with_reducible apply And.intro)
        all_goals (first | exact aP _ _ | exact aA _ _ | omega | rfl | (intros; first | assumption | exact trivial | rfl | contradiction | ((repeat' (first | assumption | apply anda | apply notf)); done)) | (exact hd) | (exact ch) | (intro t ht; simp [cvtL, cvt, tg, tru, All]))
      | false =>
        rw [hh] at ch
        rw [show fwD B A (k + 1) = snN (fwD B A k) (B.2 k) by simp [fwD, hh]] at hrec
        generalize fwD B A k = q at hn hrec ⊢
        refine piece_ok mixed hc (zqFa p e k q.1 A.1 B.1 q.2 A.2 B.2) ?_ hrec
        simp only [All]
        repeat' (first | exact trivial | with_reducible apply And.intro)
        all_goals (first | exact aP _ _ | exact aA _ _ | omega | rfl | (intros; first | assumption | exact trivial | rfl | contradiction | ((repeat' (first | assumption | apply anda | apply notf)); done)) | (exact hd) | (exact ch) | (intro t ht; by_cases h' : t < q.1 <;> simp [h', snI, cvtL, cvt, tg, tru, All]))
  refine piece_ok mixed hc (zqFz p e A.1 B.1 (woP p e).1.2.1.1 A.2 B.2 (woP p e).1.2.1.2) ?_ (lo B.1 0 (by omega))
  simp only [All]
  repeat' (first | exact trivial | with_reducible apply And.intro)
  all_goals (first | exact aG _ | exact aP _ _ | exact aA _ _ | omega | rfl | (intros; first | assumption | exact trivial | rfl | contradiction | ((repeat' (first | assumption | apply anda | apply notf)); done)) | (intros; omega) | (exact c1) | (exact cw) | (intros; exact cw) | (exact co) | (exact ca) | (exact cb) | (intro t ht; exact absurd ht (Nat.not_lt_zero _)) | (intro t ht; simp [cvtL, cvt, tg, tru, All]))
theorem con_Falls_s (p : T_Pinned) (hp : pinnedF p = true) (e : Nat) (he : e < p.1.2.1.1) : Con Tryz.prog 92 0 [] [pinA p, .p (.int .i64 e)] [(0, iOb (fwR p e).1 (fwR p e).2)] (.ar 1 0 0 (fwR p e).1) := by
  have c1 := con_IsPinned_s p (sm_pinnedD hp)
  rw [hp] at c1
  have hd0 : (bif bif !true then true else decide ((e : Int) < 0) then true else decide ((e : Int) ≥ (p.1.2.1.1 : Int))) = false := by
    rw [decide_eq_false (show ¬ ((e : Int) < 0) by omega), decide_eq_false (show ¬ ((e : Int) ≥ (p.1.2.1.1 : Int)) by omega)]; rfl
  have co := con_l27Less p hp e he
  have ca := con_Steady_s (woP p e) (sm_wo hp e)
  have cb := con_Steady_s p (sm_pinnedD hp)
  have na := sdR_n (woP p e)
  have nb := sdR_n p
  unfold fwR
  generalize sdR (woP p e) = A at *
  generalize sdR p = B at *
  refine con_start Tryz.func92 rfl (by kernel_rfl) rfl (fun c hc => ?_)
  generalize hR : fwD B A B.1 = R
  have lo : ∀ d k, k + d = B.1 → Run Tryz.prog c 92 zf32 (SYg p e k (fwD B A k).1 A.1 B.1 (fwD B A k).2 A.2 B.2) (Post c [(0, iOb R.1 R.2)] (.ar 1 0 0 R.1)) := by
    intro d
    induction d with
    | zero =>
      intro k hk
      obtain rfl : k = B.1 := by omega
      have hd : decide ((B.1 : Int) < (B.1 : Int)) = false := by simp
      rw [hR]
      refine path_ok mixed Tryz.func92 hc (zqGe p e B.1 R.1 A.1 B.1 R.2 A.2 B.2) ?_
      simp only [All]
      repeat' (first | exact trivial | with_reducible apply And.intro)
      all_goals (first | exact aA _ _ | exact aE _ | omega | rfl | (intros; first | assumption | exact trivial | rfl | contradiction | ((repeat' (first | assumption | apply anda | apply notf)); done)) | (exact hd) | (intro t ht; simp [cvtL, cvt, tg, tru, All]))
    | succ d ih =>
      intro k hk
      have hrec := ih (k + 1) (by omega)
      have hd : decide ((k : Int) < (B.1 : Int)) = true := decide_eq_true (by omega)
      have ch := con_l2Has A (B.2 k) (by omega)
      have hn := fwD_n B A k
      cases hh : hasI A.2 (B.2 k) A.1 with
      | true =>
        rw [hh] at ch
        rw [show fwD B A (k + 1) = fwD B A k by simp [fwD, hh]] at hrec
        generalize fwD B A k = q at hn hrec ⊢
        refine piece_ok mixed hc (zqGb p e k q.1 A.1 B.1 q.2 A.2 B.2) ?_ hrec
        simp only [All]
        repeat' (first | exact trivial | with_reducible apply And.intro)
        all_goals (first | exact aP _ _ | exact aA _ _ | omega | rfl | (intros; first | assumption | exact trivial | rfl | contradiction | ((repeat' (first | assumption | apply anda | apply notf)); done)) | (exact hd) | (exact ch) | (intro t ht; simp [cvtL, cvt, tg, tru, All]))
      | false =>
        rw [hh] at ch
        rw [show fwD B A (k + 1) = snN (fwD B A k) (B.2 k) by simp [fwD, hh]] at hrec
        generalize fwD B A k = q at hn hrec ⊢
        refine piece_ok mixed hc (zqGa p e k q.1 A.1 B.1 q.2 A.2 B.2) ?_ hrec
        simp only [All]
        repeat' (first | exact trivial | with_reducible apply And.intro)
        all_goals (first | exact aP _ _ | exact aA _ _ | omega | rfl | (intros; first | assumption | exact trivial | rfl | contradiction | ((repeat' (first | assumption | apply anda | apply notf)); done)) | (exact hd) | (exact ch) | (intro t ht; by_cases h' : t < q.1 <;> simp [h', snI, cvtL, cvt, tg, tru, All]))
  refine piece_ok mixed hc (zqGz p e A.1 B.1 (woP p e).1.2.1.1 A.2 B.2 (woP p e).1.2.1.2) ?_ (lo B.1 0 (by omega))
  simp only [All]
  repeat' (first | exact trivial | with_reducible apply And.intro)
  all_goals (first | exact aG _ | exact aP _ _ | exact aA _ _ | omega | rfl | (intros; first | assumption | exact trivial | rfl | contradiction | ((repeat' (first | assumption | apply anda | apply notf)); done)) | (exact c1) | (exact hd0) | (exact co) | (exact ca) | (exact cb) | (intro t ht; exact absurd ht (Nat.not_lt_zero _)) | (intro t ht; simp [cvtL, cvt, tg, tru, All]))
noncomputable def wbD (p : T_Pinned) : Nat → Int × Int
  | 0 => (-1, 0)
  | k + 1 => if ((fwR p k).1 : Int) > (wbD p k).2 then ((k : Int), ((fwR p k).1 : Int)) else wbD p k
theorem wbD_in (p : T_Pinned) : ∀ k, -1 ≤ (wbD p k).1 ∧ (wbD p k).1 < k ∧ 0 ≤ (wbD p k).2 ∧ (wbD p k).2 ≤ 8
  | 0 => by simp [wbD]
  | k + 1 => by
    have h1 := wbD_in p k
    have h2 := fwR_n p k
    simp only [wbD]
    split
    · simp only; omega
    · omega
theorem con_Worst_i (p : T_Pinned) (hp : pinnedF p = true) : Con Tryz.prog 70 0 [] [pinA p] [] (.tup [.p (.int .i64 (wbD p p.1.2.1.1).1), .p (.int .i64 (wbD p p.1.2.1.1).2)]) := by
  have ok := pin_ok hp
  have hnb := ok.nb
  refine con_start Tryz.func70 rfl (by kernel_rfl) rfl (fun c hc => ?_)
  generalize hR : wbD p p.1.2.1.1 = R
  have lo : ∀ d k, k + d = p.1.2.1.1 → Run Tryz.prog c 70 zf77 (SYw p k (wbD p k).1 (wbD p k).2) (Post c [] (.tup [.p (.int .i64 R.1), .p (.int .i64 R.2)])) := by
    intro d
    induction d with
    | zero =>
      intro k hk
      obtain rfl : k = p.1.2.1.1 := by omega
      have hd : decide ((p.1.2.1.1 : Int) < (p.1.2.1.1 : Int)) = false := by simp
      rw [hR]
      refine path_ok mixed Tryz.func70 hc (zqWe p p.1.2.1.1 R.1 R.2) ?_
      simp only [All]
      repeat' (first | exact trivial | with_reducible apply And.intro)
      all_goals (first | omega | rfl | (intros; first | assumption | exact trivial | rfl | contradiction | ((repeat' (first | assumption | apply anda | apply notf)); done)) | (exact hd) | (intro t ht; simp [cvtL, cvt, tg, tru, All]))
    | succ d ih =>
      intro k hk
      have hrec := ih (k + 1) (by omega)
      have hd : decide ((k : Int) < (p.1.2.1.1 : Int)) = true := decide_eq_true (by omega)
      have cf := con_Falls_i p hp k (by omega)
      have hf := fwR_n p k
      have e : wbD p (k + 1) = if ((fwR p k).1 : Int) > (wbD p k).2 then ((k : Int), ((fwR p k).1 : Int)) else wbD p k := rfl
      generalize fwR p k = F at *
      by_cases hh : (F.1 : Int) > (wbD p k).2
      · rw [e, if_pos hh] at hrec
        have hg : decide ((F.1 : Int) > (wbD p k).2) = true := decide_eq_true hh
        generalize wbD p k = q at hg hrec ⊢
        refine piece_ok mixed hc (zqWa p k F.1 q.1 q.2 F.2) ?_ hrec
        simp only [All]
        repeat' (first | exact trivial | with_reducible apply And.intro)
        all_goals (first | exact aP _ _ | omega | rfl | (intros; first | assumption | exact trivial | rfl | contradiction | ((repeat' (first | assumption | apply anda | apply notf)); done)) | (exact hd) | (exact cf) | (exact hg) | (intro t ht; simp [cvtL, cvt, tg, tru, All]))
      · rw [e, if_neg hh] at hrec
        have hg : decide ((F.1 : Int) > (wbD p k).2) = false := decide_eq_false hh
        generalize wbD p k = q at hg hrec ⊢
        refine piece_ok mixed hc (zqWb p k F.1 q.1 q.2 F.2) ?_ hrec
        simp only [All]
        repeat' (first | exact trivial | with_reducible apply And.intro)
        all_goals (first | exact aP _ _ | omega | rfl | (intros; first | assumption | exact trivial | rfl | contradiction | ((repeat' (first | assumption | apply anda | apply notf)); done)) | (exact hd) | (exact cf) | (exact hg) | (intro t ht; simp [cvtL, cvt, tg, tru, All]))
  refine piece_ok mixed hc (zqWz p) ?_ (lo p.1.2.1.1 0 (by omega))
  simp only [All]
  repeat' (first | exact trivial | with_reducible apply And.intro)
  all_goals (first | exact aP _ _ | omega | rfl | (intros; first | assumption | exact trivial | rfl | contradiction | ((repeat' (first | assumption | apply anda | apply notf)); done)) | (intro t ht; simp [cvtL, cvt, tg, tru, All]))
theorem con_Worst_s (p : T_Pinned) (hp : pinnedF p = true) : Con Tryz.prog 57 0 [] [pinA p] [] (.tup [.p (.int .i64 (wbD p p.1.2.1.1).1), .p (.int .i64 (wbD p p.1.2.1.1).2)]) := by
  have ok := pin_ok hp
  have hnb := ok.nb
  refine con_start Tryz.func57 rfl (by kernel_rfl) rfl (fun c hc => ?_)
  generalize hR : wbD p p.1.2.1.1 = R
  have lo : ∀ d k, k + d = p.1.2.1.1 → Run Tryz.prog c 57 zf51 (SYv p k (wbD p k).1 (wbD p k).2) (Post c [] (.tup [.p (.int .i64 R.1), .p (.int .i64 R.2)])) := by
    intro d
    induction d with
    | zero =>
      intro k hk
      obtain rfl : k = p.1.2.1.1 := by omega
      have hd : decide ((p.1.2.1.1 : Int) < (p.1.2.1.1 : Int)) = false := by simp
      rw [hR]
      refine path_ok mixed Tryz.func57 hc (zqVe p p.1.2.1.1 R.1 R.2) ?_
      simp only [All]
      repeat' (first | exact trivial | with_reducible apply And.intro)
      all_goals (first | omega | rfl | (intros; first | assumption | exact trivial | rfl | contradiction | ((repeat' (first | assumption | apply anda | apply notf)); done)) | (exact hd) | (intro t ht; simp [cvtL, cvt, tg, tru, All]))
    | succ d ih =>
      intro k hk
      have hrec := ih (k + 1) (by omega)
      have hd : decide ((k : Int) < (p.1.2.1.1 : Int)) = true := decide_eq_true (by omega)
      have cf := con_Falls_s p hp k (by omega)
      have hf := fwR_n p k
      have e : wbD p (k + 1) = if ((fwR p k).1 : Int) > (wbD p k).2 then ((k : Int), ((fwR p k).1 : Int)) else wbD p k := rfl
      generalize fwR p k = F at *
      by_cases hh : (F.1 : Int) > (wbD p k).2
      · rw [e, if_pos hh] at hrec
        have hg : decide ((F.1 : Int) > (wbD p k).2) = true := decide_eq_true hh
        generalize wbD p k = q at hg hrec ⊢
        refine piece_ok mixed hc (zqVa p k F.1 q.1 q.2 F.2) ?_ hrec
        simp only [All]
        repeat' (first | exact trivial | with_reducible apply And.intro)
        all_goals (first | exact aP _ _ | omega | rfl | (intros; first | assumption | exact trivial | rfl | contradiction | ((repeat' (first | assumption | apply anda | apply notf)); done)) | (exact hd) | (exact cf) | (exact hg) | (intro t ht; simp [cvtL, cvt, tg, tru, All]))
      · rw [e, if_neg hh] at hrec
        have hg : decide ((F.1 : Int) > (wbD p k).2) = false := decide_eq_false hh
        generalize wbD p k = q at hg hrec ⊢
        refine piece_ok mixed hc (zqVb p k F.1 q.1 q.2 F.2) ?_ hrec
        simp only [All]
        repeat' (first | exact trivial | with_reducible apply And.intro)
        all_goals (first | exact aP _ _ | omega | rfl | (intros; first | assumption | exact trivial | rfl | contradiction | ((repeat' (first | assumption | apply anda | apply notf)); done)) | (exact hd) | (exact cf) | (exact hg) | (intro t ht; simp [cvtL, cvt, tg, tru, All]))
  refine piece_ok mixed hc (zqVz p) ?_ (lo p.1.2.1.1 0 (by omega))
  simp only [All]
  repeat' (first | exact trivial | with_reducible apply And.intro)
  all_goals (first | exact aP _ _ | omega | rfl | (intros; first | assumption | exact trivial | rfl | contradiction | ((repeat' (first | assumption | apply anda | apply notf)); done)) | (intro t ht; simp [cvtL, cvt, tg, tru, All]))
def enB (x : T_Bar) : ByteArray := (fmtI (if x.2.1 < x.1 then x.2.1 else x.1) ++ kDash) ++ fmtI (if x.2.1 > x.1 then x.2.1 else x.1)
theorem enB_size (x : T_Bar) : (enB x).size ≤ 43 := by
  have h1 := fmt_size (if x.2.1 < x.1 then x.2.1 else x.1)
  have h2 := fmt_size (if x.2.1 > x.1 then x.2.1 else x.1)
  unfold enB
  simp only [ByteArray.size_append, show kDash.size = 1 from rfl]
  omega
theorem con_ends (x : T_Bar) (h0 : -9223372036854775808 ≤ x.1 ∧ x.1 ≤ 9223372036854775807) (h1 : -9223372036854775808 ≤ x.2.1 ∧ x.2.1 ≤ 9223372036854775807) : Con Tryz.prog 65 0 [] [.agg [.p (.int .i64 x.1), .p (.int .i64 x.2.1)]] [] (.p (.str (enB x))) := by
  have c1 := con_FormatInt_i (if x.2.1 < x.1 then x.2.1 else x.1) (by split <;> omega) (by split <;> omega)
  have c2 := con_FormatInt_i (if x.2.1 > x.1 then x.2.1 else x.1) (by split <;> omega) (by split <;> omega)
  have s1 := fmt_size (if x.2.1 < x.1 then x.2.1 else x.1)
  have s2 := fmt_size (if x.2.1 > x.1 then x.2.1 else x.1)
  unfold enB
  generalize fmtI (if x.2.1 < x.1 then x.2.1 else x.1) = fa at *
  generalize fmtI (if x.2.1 > x.1 then x.2.1 else x.1) = fb at *
  refine con_start Tryz.func65 rfl (by kernel_rfl) rfl (fun c hc => ?_)
  refine path_ok mixed Tryz.func65 hc (lEn x fa fb) ?_
  simp only [All]
  repeat' (first | exact trivial | with_reducible apply And.intro)
  all_goals (first | omega | rfl | (intros; first | assumption | exact trivial | rfl | contradiction | ((repeat' (first | assumption | apply anda | apply notf)); done)) | (exact c1) | (exact c2) | (simp only [ByteArray.size_append, kDash_z]; omega))
noncomputable def ilB (p : T_Pinned) : ByteArray :=
  if pinnedF p = true then
    (if (wbD p p.1.2.1.1).1 < 0 then ((((kBars ++ fmtI p.1.2.1.1) ++ kFree) ++ fmtI (frG p)) ++ kSteady) ++ fmtI (sdR p).1
    else ((((((((kBars ++ fmtI p.1.2.1.1) ++ kFree) ++ fmtI (frG p)) ++ kSteady) ++ fmtI (sdR p).1) ++ kWorst) ++ enB (p.1.2.1.2 (wbD p p.1.2.1.1).1.toNat)) ++ kDrops) ++ fmtI (wbD p p.1.2.1.1).2)
  else ⟨#[]⟩
theorem frG_in (p : T_Pinned) : -100 ≤ frG p ∧ frG p ≤ 100 := by
  have h1 := prG_in p
  have h2 := inrP_n p
  unfold frG
  split <;> omega
theorem con_Inspect_i (p : T_Pinned) (hs : smS s_Pinned p) : Con Tryz.prog 38 0 [] [pinA p] [] (.p (.str (ilB p))) := by
  have c1 := con_IsPinned_i p hs
  refine con_start Tryz.func38 rfl (by kernel_rfl) rfl (fun c hc => ?_)
  cases hp : pinnedF p with
  | false =>
    rw [hp] at c1
    rw [show ilB p = ⟨#[]⟩ by simp [ilB, hp]]
    refine path_ok mixed Tryz.func38 hc (lIn p) ?_
    simp only [All]
    repeat' (first | exact trivial | with_reducible apply And.intro)
    all_goals (first | omega | rfl | (intros; first | assumption | exact trivial | rfl | contradiction | ((repeat' (first | assumption | apply anda | apply notf)); done)) | (exact c1))
  | true =>
    rw [hp] at c1
    have ok := pin_ok hp
    have hnb := ok.nb
    have hfr := frG_in p
    have hst := sdR_n p
    have hw := wbD_in p p.1.2.1.1
    have c2 := con_FormatInt_i p.1.2.1.1 (by omega) (by omega)
    have c3 := con_PinnedFreedom_i p hs
    have c4 := con_FormatInt_i (frG p) (by omega) (by omega)
    have c5 := con_Steady_i p hs
    have c6 := con_FormatInt_i (sdR p).1 (by omega) (by omega)
    have c7 := con_Worst_i p hp
    have c8 := con_FormatInt_i (wbD p p.1.2.1.1).2 (by omega) (by omega)
    have s1 := fmt_size p.1.2.1.1
    have s2 := fmt_size (frG p)
    have s3 := fmt_size (sdR p).1
    have s5 := fmt_size (wbD p p.1.2.1.1).2
    by_cases hw0 : (wbD p p.1.2.1.1).1 < 0
    · rw [show ilB p = ((((kBars ++ fmtI p.1.2.1.1) ++ kFree) ++ fmtI (frG p)) ++ kSteady) ++ fmtI (sdR p).1 by simp [ilB, hp, hw0]]
      have hd : decide ((wbD p p.1.2.1.1).1 ≥ 0) = false := decide_eq_false (by omega)
      generalize wbD p p.1.2.1.1 = w at *
      generalize sdR p = S at *
      generalize frG p = fr at *
      generalize fmtI p.1.2.1.1 = f1 at *
      generalize fmtI fr = f2 at *
      generalize fmtI S.1 = f3 at *
      refine path_ok mixed Tryz.func38 hc (lIb p fr w.1 w.2 S.1 S.2 f1 f2 f3) ?_
      simp only [All]
      repeat' (first | exact trivial | with_reducible apply And.intro)
      all_goals (first | omega | rfl | (intros; first | assumption | exact trivial | rfl | contradiction | ((repeat' (first | assumption | apply anda | apply notf)); done)) | (exact c1) | (exact c2) | (exact c3) | (exact c4) | (exact c5) | (exact c6) | (exact c7) | (exact hd) | (simp only [ByteArray.size_append, kBars_z, kFree_z, kSteady_z, kWorst_z, kDrops_z, kDash_z]; omega))
    · rw [show ilB p = ((((((((kBars ++ fmtI p.1.2.1.1) ++ kFree) ++ fmtI (frG p)) ++ kSteady) ++ fmtI (sdR p).1) ++ kWorst) ++ enB (p.1.2.1.2 (wbD p p.1.2.1.1).1.toNat)) ++ kDrops) ++ fmtI (wbD p p.1.2.1.1).2 by simp [ilB, hp, hw0]]
      have hd : decide ((wbD p p.1.2.1.1).1 ≥ 0) = true := decide_eq_true (by omega)
      have hb := ok.bars (wbD p p.1.2.1.1).1.toNat (by omega)
      have hN := ok.N
      have c9 := con_ends (p.1.2.1.2 (wbD p p.1.2.1.1).1.toNat) (by omega) (by omega)
      have s4 := enB_size (p.1.2.1.2 (wbD p p.1.2.1.1).1.toNat)
      generalize enB (p.1.2.1.2 (wbD p p.1.2.1.1).1.toNat) = f4 at *
      generalize wbD p p.1.2.1.1 = w at *
      generalize sdR p = S at *
      generalize frG p = fr at *
      generalize fmtI p.1.2.1.1 = f1 at *
      generalize fmtI fr = f2 at *
      generalize fmtI S.1 = f3 at *
      generalize fmtI w.2 = f5 at *
      refine path_ok mixed Tryz.func38 hc (lIa p fr w.1 w.2 S.1 S.2 f1 f2 f3 f4 f5) ?_
      simp only [All]
      repeat' (first | exact trivial | with_reducible apply And.intro)
      all_goals (first | omega | rfl | (intros; first | assumption | exact trivial | rfl | contradiction | ((repeat' (first | assumption | apply anda | apply notf)); done)) | (exact c1) | (exact c2) | (exact c3) | (exact c4) | (exact c5) | (exact c6) | (exact c7) | (exact c8) | (exact c9) | (exact hd) | (simp only [ByteArray.size_append, kBars_z, kFree_z, kSteady_z, kWorst_z, kDrops_z, kDash_z]; omega))
theorem con_Inspect_s (p : T_Pinned) (hs : smS s_Pinned p) : Con Tryz.prog 27 0 [] [pinA p] [] (.p (.str (ilB p))) := by
  have c1 := con_IsPinned_s p hs
  refine con_start Tryz.func27 rfl (by kernel_rfl) rfl (fun c hc => ?_)
  cases hp : pinnedF p with
  | false =>
    rw [hp] at c1
    rw [show ilB p = ⟨#[]⟩ by simp [ilB, hp]]
    refine path_ok mixed Tryz.func27 hc (lSn p) ?_
    simp only [All]
    repeat' (first | exact trivial | with_reducible apply And.intro)
    all_goals (first | omega | rfl | (intros; first | assumption | exact trivial | rfl | contradiction | ((repeat' (first | assumption | apply anda | apply notf)); done)) | (exact c1))
  | true =>
    rw [hp] at c1
    have ok := pin_ok hp
    have hnb := ok.nb
    have hfr := frG_in p
    have hst := sdR_n p
    have hw := wbD_in p p.1.2.1.1
    have c2 := con_FormatInt_s p.1.2.1.1 (by omega) (by omega)
    have c3 := con_PinnedFreedom_s p hs
    have c4 := con_FormatInt_s (frG p) (by omega) (by omega)
    have c5 := con_Steady_s p hs
    have c6 := con_FormatInt_s (sdR p).1 (by omega) (by omega)
    have c7 := con_Worst_s p hp
    have c8 := con_FormatInt_s (wbD p p.1.2.1.1).2 (by omega) (by omega)
    have s1 := fmt_size p.1.2.1.1
    have s2 := fmt_size (frG p)
    have s3 := fmt_size (sdR p).1
    have s5 := fmt_size (wbD p p.1.2.1.1).2
    by_cases hw0 : (wbD p p.1.2.1.1).1 < 0
    · rw [show ilB p = ((((kBars ++ fmtI p.1.2.1.1) ++ kFree) ++ fmtI (frG p)) ++ kSteady) ++ fmtI (sdR p).1 by simp [ilB, hp, hw0]]
      have hd : decide ((wbD p p.1.2.1.1).1 ≥ 0) = false := decide_eq_false (by omega)
      generalize wbD p p.1.2.1.1 = w at *
      generalize sdR p = S at *
      generalize frG p = fr at *
      generalize fmtI p.1.2.1.1 = f1 at *
      generalize fmtI fr = f2 at *
      generalize fmtI S.1 = f3 at *
      refine path_ok mixed Tryz.func27 hc (lSb p fr w.1 w.2 S.1 S.2 f1 f2 f3) ?_
      simp only [All]
      repeat' (first | exact trivial | with_reducible apply And.intro)
      all_goals (first | omega | rfl | (intros; first | assumption | exact trivial | rfl | contradiction | ((repeat' (first | assumption | apply anda | apply notf)); done)) | (exact c1) | (exact c2) | (exact c3) | (exact c4) | (exact c5) | (exact c6) | (exact c7) | (exact hd) | (simp only [ByteArray.size_append, kBars_z, kFree_z, kSteady_z, kWorst_z, kDrops_z, kDash_z]; omega))
    · have hb := ok.bars (wbD p p.1.2.1.1).1.toNat (by omega)
      have hN := ok.N
      have he : ilB p = (((((((((((kBars ++ fmtI p.1.2.1.1) ++ kFree) ++ fmtI (frG p)) ++ kSteady) ++ fmtI (sdR p).1) ++ kWorst) ++ fmtI (p.1.2.1.2 (wbD p p.1.2.1.1).1.toNat).1) ++ kDash) ++ fmtI (p.1.2.1.2 (wbD p p.1.2.1.1).1.toNat).2.1) ++ kDrops) ++ fmtI (wbD p p.1.2.1.1).2) := by
        unfold ilB
        rw [if_pos hp, if_neg hw0, enB, if_neg (by omega), if_pos (by omega)]
        simp only [ByteArray.append_assoc]
      rw [he]
      have hd : decide ((wbD p p.1.2.1.1).1 ≥ 0) = true := decide_eq_true (by omega)
      have c9 := con_FormatInt_s (p.1.2.1.2 (wbD p p.1.2.1.1).1.toNat).1 (by omega) (by omega)
      have c10 := con_FormatInt_s (p.1.2.1.2 (wbD p p.1.2.1.1).1.toNat).2.1 (by omega) (by omega)
      have s4 := fmt_size (p.1.2.1.2 (wbD p p.1.2.1.1).1.toNat).1
      have s6 := fmt_size (p.1.2.1.2 (wbD p p.1.2.1.1).1.toNat).2.1
      generalize fmtI (p.1.2.1.2 (wbD p p.1.2.1.1).1.toNat).1 = f4 at *
      generalize fmtI (p.1.2.1.2 (wbD p p.1.2.1.1).1.toNat).2.1 = f6 at *
      generalize wbD p p.1.2.1.1 = w at *
      generalize sdR p = S at *
      generalize frG p = fr at *
      generalize fmtI p.1.2.1.1 = f1 at *
      generalize fmtI fr = f2 at *
      generalize fmtI S.1 = f3 at *
      generalize fmtI w.2 = f5 at *
      refine path_ok mixed Tryz.func27 hc (lSa p fr w.1 w.2 S.1 S.2 f1 f2 f3 f4 f6 f5) ?_
      simp only [All]
      repeat' (first | exact trivial | with_reducible apply And.intro)
      all_goals (first | omega | rfl | (intros; first | assumption | exact trivial | rfl | contradiction | ((repeat' (first | assumption | apply anda | apply notf)); done)) | (exact c1) | (exact c2) | (exact c3) | (exact c4) | (exact c5) | (exact c6) | (exact c7) | (exact c8) | (exact c9) | (exact c10) | (exact hd) | (simp only [ByteArray.size_append, kBars_z, kFree_z, kSteady_z, kWorst_z, kDrops_z, kDash_z]; omega))
end Go.Proofs.YtgdbnnmogddkaaaGreat.Mach
namespace Go.Proofs.YtgdbnnmogddkaaaGreat.Mach
open Go Go.Sort
set_option linter.unusedVariables false
set_option linter.unusedSimpArgs false
def hitB (x : T_Bar) (a b : Int) : Bool := bif bif x.1 == a then x.2.1 == b else false then true else bif x.1 == b then x.2.1 == a else false
def SOs (v : T_Graph) (a b : Int) (k n : Nat) : St :=
  ⟨[graphA v, .p (.int .i64 a), .p (.int .i64 b), .pt 2 0 0 0, .p .any, .p .any, .p .any, .p (.int .i64 n), .p (.int .i64 k)] ++ List.replicate 48 anyA, [(0, boxG v)], 1⟩
def SOi (v : T_Graph) (a b : Int) (k n : Nat) : St :=
  ⟨[graphA v, .p (.int .i64 a), .p (.int .i64 b), .pt 2 0 0 0, .p .any, .p .any, .p .any, .p (.int .i64 n), .p .any, .p .any, .p .any, graphL v.2.1, .p (.int .i64 v.2.1.1), .p (.int .i64 k)] ++ List.replicate 29 anyA, [(0, boxG v)], 1⟩
def SMso (v : T_Graph) (a n : Nat) (h : Nat → T_Bar) : St :=
  ⟨[graphA v, .pt 2 0 0 0, .p .any, .ar 2 1 0 n, .p (.int .i64 a)] ++ List.replicate 32 anyA, [(0, boxG v), (1, brOb n h)], 2⟩
def SMsi (v : T_Graph) (a b n : Nat) (h : Nat → T_Bar) : St :=
  ⟨[graphA v, .pt 2 0 0 0, .p .any, .ar 2 1 0 n, .p (.int .i64 a), .p (.int .i64 b)] ++ List.replicate 31 anyA, [(0, boxG v), (1, brOb n h)], 2⟩
def SMio (v : T_Graph) (a n : Nat) (h : Nat → T_Bar) : St :=
  ⟨[graphA v, .pt 2 0 0 0, .p .any, .ar 2 1 0 n] ++ List.replicate 8 anyA ++ [.p (.int .i64 v.1), .p (.int .i64 a)] ++ List.replicate 23 anyA, [(0, boxG v), (1, brOb n h)], 2⟩
def SMii (v : T_Graph) (a b n : Nat) (h : Nat → T_Bar) : St :=
  ⟨[graphA v, .pt 2 0 0 0, .p .any, .ar 2 1 0 n, .p (.int .i64 a), .p (.int .i64 b)] ++ List.replicate 6 anyA ++ [.p (.int .i64 v.1), .p (.int .i64 a)] ++ List.replicate 23 anyA, [(0, boxG v), (1, brOb n h)], 2⟩
def pinF (p : T_Pinned) : AV := .agg [.p (.int .i64 p.1.1), .p (.seq false 2 p.1.2.1.1 (fun i => [.int .i64 (p.1.2.1.2 i).1, .int .i64 (p.1.2.1.2 i).2.1])), .p (.seq false 1 p.2.1.1 (fun i => [.int .i64 (p.2.1.2 i)]))]
def boxF (p : T_Pinned) : Ob := ⟨true, 3, 1, fun _ => [.p (.int .i64 p.1.1), .p (.seq false 2 p.1.2.1.1 (fun i => [.int .i64 (p.1.2.1.2 i).1, .int .i64 (p.1.2.1.2 i).2.1])), .p (.seq false 1 p.2.1.1 (fun i => [.int .i64 (p.2.1.2 i)]))]⟩
def SAd (q : T_Pinned) (l : T_BarS) (k n : Nat) (h : Nat → T_Bar) : St :=
  ⟨[.p .any, .p .any, .pt 3 0 0 0, .p .any, .pt 3 1 0 0, .p .any, .ar 2 2 0 n] ++ List.replicate 6 anyA ++ [graphL l, .p (.int .i64 l.1), .p (.int .i64 k)] ++ List.replicate 38 anyA,
   [(0, boxF q), (1, zP3), (2, brOb n h)], 3⟩
theorem oSz (v : T_Graph) (a b : Int) :
    pieceOb Tryz.prog 0 [rg 2, rg 1, rg 1, .head] [.code (bodyOf Tryz.f93)] (start Tryz.f93 [] 0 [graphA v, .p (.int .i64 a), .p (.int .i64 b)]) [0] 1 (SOs v a b 0 0) =
    some (zf78, [(AI v.1),(AN v.2.1.1),(AP v.2.1.1 (fun i => [.int .i64 ((v.2.1.2 i).1), .int .i64 ((v.2.1.2 i).2.1)])),(AI a),(AI b),(AN 0),((0 : Int) = (↑0 : Int)),((0 : Int) = (↑0 : Int)),((([AV.p (PV.int IntKind.i64 v.1), graphL v.2.1].length) : Nat) = 2),(NL 1 1),(NL 1 1),(AI v.1),(AN v.2.1.1),(AP v.2.1.1 (fun i => [.int .i64 ((v.2.1.2 i).1), .int .i64 ((v.2.1.2 i).2.1)]))]) := by kernel_rfl
theorem oSt (v : T_Graph) (a b : Int) (k n : Nat) :
    pieceOb Tryz.prog 0 [rg 5, .dec true, rg 38, .dec true, rg 3, rg 3, .head] zf78 (SOs v a b k n) [0] 1 (SOs v a b (k + 1) (n + 1)) =
    some (zf78, [(NT 0 1),((decide ((↑k : Int) < (↑v.2.1.1 : Int))) = true),(NT 0 1),(IL 0 (↑k : Int)),(IT (↑k : Int) (↑v.2.1.1 : Int)),(AG ((v.2.1.2 k).1 == a)),((((v.2.1.2 k).1 == a) = true) → (NT 0 1)),(AG ((v.2.1.2 k).1 == a)),(AG ((v.2.1.2 k).1 == a)),((((v.2.1.2 k).1 == a) = true) → (IL 0 (↑k : Int))),((((v.2.1.2 k).1 == a) = true) → (IT (↑k : Int) (↑v.2.1.1 : Int))),(AG ((v.2.1.2 k).1 == a)),(AG ((v.2.1.2 k).1 == a)),(AG ((v.2.1.2 k).1 == a)),(AG ((v.2.1.2 k).1 == a)),(AG ((v.2.1.2 k).1 == a)),(AG (!bif (v.2.1.2 k).1 == a then (v.2.1.2 k).2.1 == b else false)),(((!bif (v.2.1.2 k).1 == a then (v.2.1.2 k).2.1 == b else false) = true) → (NT 0 1)),(AG (!bif (v.2.1.2 k).1 == a then (v.2.1.2 k).2.1 == b else false)),(AG (!bif (v.2.1.2 k).1 == a then (v.2.1.2 k).2.1 == b else false)),(((!bif (v.2.1.2 k).1 == a then (v.2.1.2 k).2.1 == b else false) = true) → (IL 0 (↑k : Int))),(((!bif (v.2.1.2 k).1 == a then (v.2.1.2 k).2.1 == b else false) = true) → (IT (↑k : Int) (↑v.2.1.1 : Int))),(AG (!bif (v.2.1.2 k).1 == a then (v.2.1.2 k).2.1 == b else false)),(AG (!bif (v.2.1.2 k).1 == a then (v.2.1.2 k).2.1 == b else false)),(AG (!bif (v.2.1.2 k).1 == a then (v.2.1.2 k).2.1 == b else false)),(AG (!bif (v.2.1.2 k).1 == a then (v.2.1.2 k).2.1 == b else false)),(AG (!bif (v.2.1.2 k).1 == a then (v.2.1.2 k).2.1 == b else false)),(AG ((!bif (v.2.1.2 k).1 == a then (v.2.1.2 k).2.1 == b else false) && (v.2.1.2 k).1 == b)),((((!bif (v.2.1.2 k).1 == a then (v.2.1.2 k).2.1 == b else false) && (v.2.1.2 k).1 == b) = true) → (NT 0 1)),(AG ((!bif (v.2.1.2 k).1 == a then (v.2.1.2 k).2.1 == b else false) && (v.2.1.2 k).1 == b)),(AG ((!bif (v.2.1.2 k).1 == a then (v.2.1.2 k).2.1 == b else false) && (v.2.1.2 k).1 == b)),((((!bif (v.2.1.2 k).1 == a then (v.2.1.2 k).2.1 == b else false) && (v.2.1.2 k).1 == b) = true) → (IL 0 (↑k : Int))),((((!bif (v.2.1.2 k).1 == a then (v.2.1.2 k).2.1 == b else false) && (v.2.1.2 k).1 == b) = true) → (IT (↑k : Int) (↑v.2.1.1 : Int))),(AG ((!bif (v.2.1.2 k).1 == a then (v.2.1.2 k).2.1 == b else false) && (v.2.1.2 k).1 == b)),(AG ((!bif (v.2.1.2 k).1 == a then (v.2.1.2 k).2.1 == b else false) && (v.2.1.2 k).1 == b)),(AG ((!bif (v.2.1.2 k).1 == a then (v.2.1.2 k).2.1 == b else false) && (v.2.1.2 k).1 == b)),(AG ((!bif (v.2.1.2 k).1 == a then (v.2.1.2 k).2.1 == b else false) && (v.2.1.2 k).1 == b)),(AG (!bif (v.2.1.2 k).1 == a then (v.2.1.2 k).2.1 == b else false)),(((!bif (v.2.1.2 k).1 == a then (v.2.1.2 k).2.1 == b else false) = true) → ((((v.2.1.2 k).1 == b) = true) →  (((!bif (v.2.1.2 k).1 == a then (v.2.1.2 k).2.1 == b else false) && (v.2.1.2 k).1 == b) = true))),(((bif (v.2.1.2 k).1 == a then (v.2.1.2 k).2.1 == b else false) = false) →  ((!bif (v.2.1.2 k).1 == a then (v.2.1.2 k).2.1 == b else false) = true)),((bif bif (v.2.1.2 k).1 == a then (v.2.1.2 k).2.1 == b else false then true else bif (v.2.1.2 k).1 == b then (v.2.1.2 k).2.1 == a else false) = true),(R0 ((↑n : Int) + 1)),(R1 ((↑n : Int) + 1)),(R0 ((↑k : Int) + 1)),(R1 ((↑k : Int) + 1)),(AI v.1),(AN v.2.1.1),(AP v.2.1.1 (fun i => [.int .i64 ((v.2.1.2 i).1), .int .i64 ((v.2.1.2 i).2.1)])),(AI a),(AI b),(AN 0),((((↑n : Int) + 1) : Int) = (↑(n + 1) : Int)),((((↑k : Int) + 1) : Int) = (↑(k + 1) : Int)),(AN 2),(NL 1 1),(NL 1 1),(AI v.1),(AN v.2.1.1),(AP v.2.1.1 (fun i => [.int .i64 ((v.2.1.2 i).1), .int .i64 ((v.2.1.2 i).2.1)]))]) := by kernel_rfl
theorem oSf (v : T_Graph) (a b : Int) (k n : Nat) :
    pieceOb Tryz.prog 0 [rg 5, .dec true, rg 38, .dec false, rg 3, .head] zf78 (SOs v a b k n) [0] 1 (SOs v a b (k + 1) n) =
    some (zf78, [(NT 0 1),((decide ((↑k : Int) < (↑v.2.1.1 : Int))) = true),(NT 0 1),(IL 0 (↑k : Int)),(IT (↑k : Int) (↑v.2.1.1 : Int)),(AG ((v.2.1.2 k).1 == a)),((((v.2.1.2 k).1 == a) = true) → (NT 0 1)),(AG ((v.2.1.2 k).1 == a)),(AG ((v.2.1.2 k).1 == a)),((((v.2.1.2 k).1 == a) = true) → (IL 0 (↑k : Int))),((((v.2.1.2 k).1 == a) = true) → (IT (↑k : Int) (↑v.2.1.1 : Int))),(AG ((v.2.1.2 k).1 == a)),(AG ((v.2.1.2 k).1 == a)),(AG ((v.2.1.2 k).1 == a)),(AG ((v.2.1.2 k).1 == a)),(AG ((v.2.1.2 k).1 == a)),(AG (!bif (v.2.1.2 k).1 == a then (v.2.1.2 k).2.1 == b else false)),(((!bif (v.2.1.2 k).1 == a then (v.2.1.2 k).2.1 == b else false) = true) → (NT 0 1)),(AG (!bif (v.2.1.2 k).1 == a then (v.2.1.2 k).2.1 == b else false)),(AG (!bif (v.2.1.2 k).1 == a then (v.2.1.2 k).2.1 == b else false)),(((!bif (v.2.1.2 k).1 == a then (v.2.1.2 k).2.1 == b else false) = true) → (IL 0 (↑k : Int))),(((!bif (v.2.1.2 k).1 == a then (v.2.1.2 k).2.1 == b else false) = true) → (IT (↑k : Int) (↑v.2.1.1 : Int))),(AG (!bif (v.2.1.2 k).1 == a then (v.2.1.2 k).2.1 == b else false)),(AG (!bif (v.2.1.2 k).1 == a then (v.2.1.2 k).2.1 == b else false)),(AG (!bif (v.2.1.2 k).1 == a then (v.2.1.2 k).2.1 == b else false)),(AG (!bif (v.2.1.2 k).1 == a then (v.2.1.2 k).2.1 == b else false)),(AG (!bif (v.2.1.2 k).1 == a then (v.2.1.2 k).2.1 == b else false)),(AG ((!bif (v.2.1.2 k).1 == a then (v.2.1.2 k).2.1 == b else false) && (v.2.1.2 k).1 == b)),((((!bif (v.2.1.2 k).1 == a then (v.2.1.2 k).2.1 == b else false) && (v.2.1.2 k).1 == b) = true) → (NT 0 1)),(AG ((!bif (v.2.1.2 k).1 == a then (v.2.1.2 k).2.1 == b else false) && (v.2.1.2 k).1 == b)),(AG ((!bif (v.2.1.2 k).1 == a then (v.2.1.2 k).2.1 == b else false) && (v.2.1.2 k).1 == b)),((((!bif (v.2.1.2 k).1 == a then (v.2.1.2 k).2.1 == b else false) && (v.2.1.2 k).1 == b) = true) → (IL 0 (↑k : Int))),((((!bif (v.2.1.2 k).1 == a then (v.2.1.2 k).2.1 == b else false) && (v.2.1.2 k).1 == b) = true) → (IT (↑k : Int) (↑v.2.1.1 : Int))),(AG ((!bif (v.2.1.2 k).1 == a then (v.2.1.2 k).2.1 == b else false) && (v.2.1.2 k).1 == b)),(AG ((!bif (v.2.1.2 k).1 == a then (v.2.1.2 k).2.1 == b else false) && (v.2.1.2 k).1 == b)),(AG ((!bif (v.2.1.2 k).1 == a then (v.2.1.2 k).2.1 == b else false) && (v.2.1.2 k).1 == b)),(AG ((!bif (v.2.1.2 k).1 == a then (v.2.1.2 k).2.1 == b else false) && (v.2.1.2 k).1 == b)),(AG (!bif (v.2.1.2 k).1 == a then (v.2.1.2 k).2.1 == b else false)),(((!bif (v.2.1.2 k).1 == a then (v.2.1.2 k).2.1 == b else false) = true) → ((((v.2.1.2 k).1 == b) = true) →  (((!bif (v.2.1.2 k).1 == a then (v.2.1.2 k).2.1 == b else false) && (v.2.1.2 k).1 == b) = true))),(((bif (v.2.1.2 k).1 == a then (v.2.1.2 k).2.1 == b else false) = false) →  ((!bif (v.2.1.2 k).1 == a then (v.2.1.2 k).2.1 == b else false) = true)),((bif bif (v.2.1.2 k).1 == a then (v.2.1.2 k).2.1 == b else false then true else bif (v.2.1.2 k).1 == b then (v.2.1.2 k).2.1 == a else false) = false),(R0 ((↑k : Int) + 1)),(R1 ((↑k : Int) + 1)),(AI v.1),(AN v.2.1.1),(AP v.2.1.1 (fun i => [.int .i64 ((v.2.1.2 i).1), .int .i64 ((v.2.1.2 i).2.1)])),(AI a),(AI b),(AN 0),(AI ((↑n : Int))),((((↑k : Int) + 1) : Int) = (↑(k + 1) : Int)),(AN 2),(NL 1 1),(NL 1 1),(AI v.1),(AN v.2.1.1),(AP v.2.1.1 (fun i => [.int .i64 ((v.2.1.2 i).1), .int .i64 ((v.2.1.2 i).2.1)]))]) := by kernel_rfl
theorem oSe (v : T_Graph) (a b : Int) (k n : Nat) :
    pathOb Tryz.prog Tryz.f93 0 [rg 5, .dec false, rg 2] zf78 (SOs v a b k n) [] 1 [] (.p (.int .i64 n)) =
    some [(NT 0 1),((decide ((↑k : Int) < (↑v.2.1.1 : Int))) = false),(AI ((↑n : Int)))] := by kernel_rfl
theorem oIz (v : T_Graph) (a b : Int) :
    pieceOb Tryz.prog 0 [rg 2, rg 1, rg 4, .head] [.code (bodyOf Tryz.f107)] (start Tryz.f107 [] 0 [graphA v, .p (.int .i64 a), .p (.int .i64 b)]) [0] 1 (SOi v a b 0 0) =
    some (zf61, [(NT 0 1),(AI v.1),(AN v.2.1.1),(AP v.2.1.1 (fun i => [.int .i64 ((v.2.1.2 i).1), .int .i64 ((v.2.1.2 i).2.1)])),(AI a),(AI b),(AN 0),((0 : Int) = (↑0 : Int)),(AN v.2.1.1),(AP v.2.1.1 (fun i => [.int .i64 ((v.2.1.2 i).1), .int .i64 ((v.2.1.2 i).2.1)])),(AI ((↑v.2.1.1 : Int))),((0 : Int) = (↑0 : Int)),((([AV.p (PV.int IntKind.i64 v.1), graphL v.2.1].length) : Nat) = 2),(NL 1 1),(NL 1 1),(AI v.1),(AN v.2.1.1),(AP v.2.1.1 (fun i => [.int .i64 ((v.2.1.2 i).1), .int .i64 ((v.2.1.2 i).2.1)]))]) := by kernel_rfl
theorem oIt (v : T_Graph) (a b : Int) (k n : Nat) :
    pieceOb Tryz.prog 0 [rg 1, .dec true, rg 4, rg 22, .dec true, rg 3, rg 2, .head] zf61 (SOi v a b k n) [0] 1 (SOi v a b (k + 1) (n + 1)) =
    some (zf61, [((decide ((↑k : Int) < (↑v.2.1.1 : Int))) = true),(IL 0 (↑k : Int)),(IT (↑k : Int) (↑v.2.1.1 : Int)),(NT 0 1),((true = true) →  (AN 1)),(NT 0 1),(AG ((v.2.1.2 k).1 == a)),((((v.2.1.2 k).1 == a) = true) → (NT 0 1)),(AG ((v.2.1.2 k).1 == a)),(AG ((v.2.1.2 k).1 == a)),(AG ((v.2.1.2 k).1 == a)),(AG (!bif (v.2.1.2 k).1 == a then (v.2.1.2 k).2.1 == b else false)),(((!bif (v.2.1.2 k).1 == a then (v.2.1.2 k).2.1 == b else false) = true) → (NT 0 1)),(AG (!bif (v.2.1.2 k).1 == a then (v.2.1.2 k).2.1 == b else false)),(AG (!bif (v.2.1.2 k).1 == a then (v.2.1.2 k).2.1 == b else false)),(AG (!bif (v.2.1.2 k).1 == a then (v.2.1.2 k).2.1 == b else false)),(AG ((!bif (v.2.1.2 k).1 == a then (v.2.1.2 k).2.1 == b else false) && (v.2.1.2 k).1 == b)),((((!bif (v.2.1.2 k).1 == a then (v.2.1.2 k).2.1 == b else false) && (v.2.1.2 k).1 == b) = true) → (NT 0 1)),(AG ((!bif (v.2.1.2 k).1 == a then (v.2.1.2 k).2.1 == b else false) && (v.2.1.2 k).1 == b)),(AG ((!bif (v.2.1.2 k).1 == a then (v.2.1.2 k).2.1 == b else false) && (v.2.1.2 k).1 == b)),(AG (!bif (v.2.1.2 k).1 == a then (v.2.1.2 k).2.1 == b else false)),(((!bif (v.2.1.2 k).1 == a then (v.2.1.2 k).2.1 == b else false) = true) → ((((v.2.1.2 k).1 == b) = true) →  (((!bif (v.2.1.2 k).1 == a then (v.2.1.2 k).2.1 == b else false) && (v.2.1.2 k).1 == b) = true))),(((bif (v.2.1.2 k).1 == a then (v.2.1.2 k).2.1 == b else false) = false) →  ((!bif (v.2.1.2 k).1 == a then (v.2.1.2 k).2.1 == b else false) = true)),((bif bif (v.2.1.2 k).1 == a then (v.2.1.2 k).2.1 == b else false then true else bif (v.2.1.2 k).1 == b then (v.2.1.2 k).2.1 == a else false) = true),(R0 ((↑n : Int) + 1)),(R1 ((↑n : Int) + 1)),(R0 ((↑k : Int) + 1)),(R1 ((↑k : Int) + 1)),(AI v.1),(AN v.2.1.1),(AP v.2.1.1 (fun i => [.int .i64 ((v.2.1.2 i).1), .int .i64 ((v.2.1.2 i).2.1)])),(AI a),(AI b),(AN 0),((((↑n : Int) + 1) : Int) = (↑(n + 1) : Int)),(AN v.2.1.1),(AP v.2.1.1 (fun i => [.int .i64 ((v.2.1.2 i).1), .int .i64 ((v.2.1.2 i).2.1)])),(AI ((↑v.2.1.1 : Int))),((((↑k : Int) + 1) : Int) = (↑(k + 1) : Int)),(AN 2),(NL 1 1),(NL 1 1),(AI v.1),(AN v.2.1.1),(AP v.2.1.1 (fun i => [.int .i64 ((v.2.1.2 i).1), .int .i64 ((v.2.1.2 i).2.1)]))]) := by kernel_rfl
theorem oIf (v : T_Graph) (a b : Int) (k n : Nat) :
    pieceOb Tryz.prog 0 [rg 1, .dec true, rg 4, rg 22, .dec false, rg 2, .head] zf61 (SOi v a b k n) [0] 1 (SOi v a b (k + 1) n) =
    some (zf61, [((decide ((↑k : Int) < (↑v.2.1.1 : Int))) = true),(IL 0 (↑k : Int)),(IT (↑k : Int) (↑v.2.1.1 : Int)),(NT 0 1),((true = true) →  (AN 1)),(NT 0 1),(AG ((v.2.1.2 k).1 == a)),((((v.2.1.2 k).1 == a) = true) → (NT 0 1)),(AG ((v.2.1.2 k).1 == a)),(AG ((v.2.1.2 k).1 == a)),(AG ((v.2.1.2 k).1 == a)),(AG (!bif (v.2.1.2 k).1 == a then (v.2.1.2 k).2.1 == b else false)),(((!bif (v.2.1.2 k).1 == a then (v.2.1.2 k).2.1 == b else false) = true) → (NT 0 1)),(AG (!bif (v.2.1.2 k).1 == a then (v.2.1.2 k).2.1 == b else false)),(AG (!bif (v.2.1.2 k).1 == a then (v.2.1.2 k).2.1 == b else false)),(AG (!bif (v.2.1.2 k).1 == a then (v.2.1.2 k).2.1 == b else false)),(AG ((!bif (v.2.1.2 k).1 == a then (v.2.1.2 k).2.1 == b else false) && (v.2.1.2 k).1 == b)),((((!bif (v.2.1.2 k).1 == a then (v.2.1.2 k).2.1 == b else false) && (v.2.1.2 k).1 == b) = true) → (NT 0 1)),(AG ((!bif (v.2.1.2 k).1 == a then (v.2.1.2 k).2.1 == b else false) && (v.2.1.2 k).1 == b)),(AG ((!bif (v.2.1.2 k).1 == a then (v.2.1.2 k).2.1 == b else false) && (v.2.1.2 k).1 == b)),(AG (!bif (v.2.1.2 k).1 == a then (v.2.1.2 k).2.1 == b else false)),(((!bif (v.2.1.2 k).1 == a then (v.2.1.2 k).2.1 == b else false) = true) → ((((v.2.1.2 k).1 == b) = true) →  (((!bif (v.2.1.2 k).1 == a then (v.2.1.2 k).2.1 == b else false) && (v.2.1.2 k).1 == b) = true))),(((bif (v.2.1.2 k).1 == a then (v.2.1.2 k).2.1 == b else false) = false) →  ((!bif (v.2.1.2 k).1 == a then (v.2.1.2 k).2.1 == b else false) = true)),((bif bif (v.2.1.2 k).1 == a then (v.2.1.2 k).2.1 == b else false then true else bif (v.2.1.2 k).1 == b then (v.2.1.2 k).2.1 == a else false) = false),(R0 ((↑k : Int) + 1)),(R1 ((↑k : Int) + 1)),(AI v.1),(AN v.2.1.1),(AP v.2.1.1 (fun i => [.int .i64 ((v.2.1.2 i).1), .int .i64 ((v.2.1.2 i).2.1)])),(AI a),(AI b),(AN 0),(AI ((↑n : Int))),(AN v.2.1.1),(AP v.2.1.1 (fun i => [.int .i64 ((v.2.1.2 i).1), .int .i64 ((v.2.1.2 i).2.1)])),(AI ((↑v.2.1.1 : Int))),((((↑k : Int) + 1) : Int) = (↑(k + 1) : Int)),(AN 2),(NL 1 1),(NL 1 1),(AI v.1),(AN v.2.1.1),(AP v.2.1.1 (fun i => [.int .i64 ((v.2.1.2 i).1), .int .i64 ((v.2.1.2 i).2.1)]))]) := by kernel_rfl
theorem oIe (v : T_Graph) (a b : Int) (k n : Nat) :
    pathOb Tryz.prog Tryz.f107 0 [rg 1, .dec false, rg 2] zf61 (SOi v a b k n) [] 1 [] (.p (.int .i64 n)) =
    some [((decide ((↑k : Int) < (↑v.2.1.1 : Int))) = false),(AI ((↑n : Int)))] := by kernel_rfl
theorem mSz (v : T_Graph) :
    pieceOb Tryz.prog 0 [rg 2, rg 2, rg 1, .head] [.code (bodyOf Tryz.f59)] (start Tryz.f59 [] 0 [graphA v]) [0, 64] 1 (SMso v 0 0 (fun _ => (0, 0, ()))) =
    some (zf79, [(AI v.1),(AN v.2.1.1),(AP v.2.1.1 (fun i => [.int .i64 ((v.2.1.2 i).1), .int .i64 ((v.2.1.2 i).2.1)])),(AN 0),(AN 0),(AN 0),((0 : Int) = (↑0 : Int)),((([AV.p (PV.int IntKind.i64 v.1), graphL v.2.1].length) : Nat) = 2),(NL 1 1),(NL 1 1),(AI v.1),(AN v.2.1.1),(AP v.2.1.1 (fun i => [.int .i64 ((v.2.1.2 i).1), .int .i64 ((v.2.1.2 i).2.1)])),(AN 2),(NL 0 0),(AA 0 (fun i => [.p (.int .i64 0), .p (.int .i64 0)]))]) := by kernel_rfl
theorem mSo (v : T_Graph) (a n : Nat) (h : Nat → T_Bar) (b : Bool) :
    pieceOb Tryz.prog 0 [rm [(6, oc [] (.p (.bool b)))] 1, .dec true, rg 3, .head] zf79 (SMso v a n h) [0, 1] 1 (SMsi v a (a + 1) n h) =
    some (zf10, [(NT 0 1),(((decide ((↑a : Int) < v.1)) = true) → (NT 0 1)),(AG (decide ((↑a : Int) < v.1))),(((decide ((↑a : Int) < v.1)) = true) →  Con Tryz.prog 86 0 [] [(zf106 v)] [] (.p (.bool b))),(AG (decide ((↑a : Int) < v.1))),((bif decide ((↑a : Int) < v.1) then b else false) = true),(R0 ((↑a : Int) + 1)),(R1 ((↑a : Int) + 1)),(AI v.1),(AN v.2.1.1),(AP v.2.1.1 (fun i => [.int .i64 ((v.2.1.2 i).1), .int .i64 ((v.2.1.2 i).2.1)])),(AN 0),(AN 0),(AN n),(AI ((↑a : Int))),((((↑a : Int) + 1) : Int) = (↑(a + 1) : Int)),(AN 2),(NL 1 1),(NL 1 1),(AI v.1),(AN v.2.1.1),(AP v.2.1.1 (fun i => [.int .i64 ((v.2.1.2 i).1), .int .i64 ((v.2.1.2 i).2.1)])),(AN 2),(NL n n),(AA n (fun i => [.p (.int .i64 ((h i).1)), .p (.int .i64 ((h i).2.1))]))]) := by kernel_rfl
theorem mSt (v : T_Graph) (a b n c : Nat) (h : Nat → T_Bar) :
    pieceOb Tryz.prog 0 [rg 4, .dec true, rm [(3, oc [] (.p (.int .i64 c)))] 1, .dec true, rg 7, rg 3, .head] zf10 (SMsi v a b n h) [0, 450] 1 (SMsi v a (b + 1) (n + 1) (snoc n h (a, b, ()))) =
    some (zf10, [(NT 0 1),((decide ((↑b : Int) < v.1)) = true),(NT 0 1),Con Tryz.prog 93 0 [] [(zf106 v), .p (.int .i64 (↑a : Int)), .p (.int .i64 (↑b : Int))] [] (.p (.int .i64 (↑c : Int))),(((↑c : Int) == 0) = true),(NL 1 1),(NL n n),(NL ((n + 1) * 16) 140737488355328),(NL (n + 1) 9223372036854775807),(R0 ((↑b : Int) + 1)),(R1 ((↑b : Int) + 1)),(AI v.1),(AN v.2.1.1),(AP v.2.1.1 (fun i => [.int .i64 ((v.2.1.2 i).1), .int .i64 ((v.2.1.2 i).2.1)])),(AN 0),(AN 0),(AN ((n + 1))),(AI ((↑a : Int))),((((↑b : Int) + 1) : Int) = (↑(b + 1) : Int)),(AN 2),(NL 1 1),(NL 1 1),(AI v.1),(AN v.2.1.1),(AP v.2.1.1 (fun i => [.int .i64 ((v.2.1.2 i).1), .int .i64 ((v.2.1.2 i).2.1)])),(AN 2),(NL (n + 1) (n + 1)),(CV [(450, ⟨false, 2, (n + 1), (fun i_1 => (if (i_1 < n) then [.p (.int .i64 ((h i_1).1)), .p (.int .i64 ((h i_1).2.1))] else [.p (.int .i64 (↑a : Int)), .p (.int .i64 (↑b : Int))]))⟩), (418, ⟨false, 2, 1, (fun i_1 => [.p (.int .i64 (↑a : Int)), .p (.int .i64 (↑b : Int))])⟩), (0, ⟨true, 2, 1, (fun i_1 => [.p (.int .i64 v.1), .p (.seq true 2 v.2.1.1 (fun i_2 => [.int .i64 ((v.2.1.2 i_2).1), .int .i64 ((v.2.1.2 i_2).2.1)]))])⟩)] [0, 450] 1 (n + 1) (fun i => if (i < n) then [.p (.int .i64 ((h i).1)), .p (.int .i64 ((h i).2.1))] else [.p (.int .i64 (↑a : Int)), .p (.int .i64 (↑b : Int))]) (fun i => [.p (.int .i64 (if i < n then (h i).1 else (↑a : Int))), .p (.int .i64 (if i < n then (h i).2.1 else (↑b : Int)))]))]) := by kernel_rfl
theorem mSf (v : T_Graph) (a b n c : Nat) (h : Nat → T_Bar) :
    pieceOb Tryz.prog 0 [rg 4, .dec true, rm [(3, oc [] (.p (.int .i64 c)))] 1, .dec false, rg 3, .head] zf10 (SMsi v a b n h) [0, 1] 1 (SMsi v a (b + 1) n h) =
    some (zf10, [(NT 0 1),((decide ((↑b : Int) < v.1)) = true),(NT 0 1),Con Tryz.prog 93 0 [] [(zf106 v), .p (.int .i64 (↑a : Int)), .p (.int .i64 (↑b : Int))] [] (.p (.int .i64 (↑c : Int))),(((↑c : Int) == 0) = false),(R0 ((↑b : Int) + 1)),(R1 ((↑b : Int) + 1)),(AI v.1),(AN v.2.1.1),(AP v.2.1.1 (fun i => [.int .i64 ((v.2.1.2 i).1), .int .i64 ((v.2.1.2 i).2.1)])),(AN 0),(AN 0),(AN n),(AI ((↑a : Int))),((((↑b : Int) + 1) : Int) = (↑(b + 1) : Int)),(AN 2),(NL 1 1),(NL 1 1),(AI v.1),(AN v.2.1.1),(AP v.2.1.1 (fun i => [.int .i64 ((v.2.1.2 i).1), .int .i64 ((v.2.1.2 i).2.1)])),(AN 2),(NL n n),(AA n (fun i => [.p (.int .i64 ((h i).1)), .p (.int .i64 ((h i).2.1))]))]) := by kernel_rfl
theorem mSx (v : T_Graph) (a b n : Nat) (h : Nat → T_Bar) :
    pieceOb Tryz.prog 0 [rg 4, .dec false, rg 3, .head] zf10 (SMsi v a b n h) [0, 1] 1 (SMso v (a + 1) n h) =
    some (zf79, [(NT 0 1),((decide ((↑b : Int) < v.1)) = false),(R0 ((↑a : Int) + 1)),(R1 ((↑a : Int) + 1)),(AI v.1),(AN v.2.1.1),(AP v.2.1.1 (fun i => [.int .i64 ((v.2.1.2 i).1), .int .i64 ((v.2.1.2 i).2.1)])),(AN 0),(AN 0),(AN n),((((↑a : Int) + 1) : Int) = (↑(a + 1) : Int)),(AN 2),(NL 1 1),(NL 1 1),(AI v.1),(AN v.2.1.1),(AP v.2.1.1 (fun i => [.int .i64 ((v.2.1.2 i).1), .int .i64 ((v.2.1.2 i).2.1)])),(AN 2),(NL n n),(AA n (fun i => [.p (.int .i64 ((h i).1)), .p (.int .i64 ((h i).2.1))]))]) := by kernel_rfl
theorem mSe (v : T_Graph) (a n : Nat) (h : Nat → T_Bar) (b : Bool) :
    pathOb Tryz.prog Tryz.f59 0 [rm [(6, oc [] (.p (.bool b)))] 1, .dec false, rg 2] zf79 (SMso v a n h) [1] 1 [(0, brOb n h)] (.ar 2 0 0 n) =
    some [(NT 0 1),(((decide ((↑a : Int) < v.1)) = true) → (NT 0 1)),(AG (decide ((↑a : Int) < v.1))),(((decide ((↑a : Int) < v.1)) = true) →  Con Tryz.prog 86 0 [] [(zf106 v)] [] (.p (.bool b))),(AG (decide ((↑a : Int) < v.1))),((bif decide ((↑a : Int) < v.1) then b else false) = false),(AN 0),(AN n),(AN 2),(NL n n),(AA n (fun i => [.p (.int .i64 ((h i).1)), .p (.int .i64 ((h i).2.1))])),(AE n)] := by kernel_rfl
theorem mIn (v : T_Graph) :
    pathOb Tryz.prog Tryz.f72 0 [rg 2, rg 2, rm [(1, oc [] (.p (.bool false)))] 1, .dec true, rg 2] [.code (bodyOf Tryz.f72)] (start Tryz.f72 [] 0 [graphA v]) [64] 1 [(0, brOb 0 (fun _ => (0, 0, ())))] (.ar 2 0 0 0) =
    some [(NT 0 1),Con Tryz.prog 96 0 [] [(zf106 v)] [] (.p (.bool false)),((!false) = true),(AN 0),(AN 0),(AN 2),(NL 0 0),(AA 0 (fun i => [.p (.int .i64 0), .p (.int .i64 0)])),(AE 0)] := by kernel_rfl
theorem mIz (v : T_Graph) :
    pieceOb Tryz.prog 0 [rg 2, rg 2, rm [(1, oc [] (.p (.bool true)))] 1, .dec false, rg 3, .head] [.code (bodyOf Tryz.f72)] (start Tryz.f72 [] 0 [graphA v]) [0, 64] 1 (SMio v 0 0 (fun _ => (0, 0, ()))) =
    some (zf53, [(NT 0 1),Con Tryz.prog 96 0 [] [(zf106 v)] [] (.p (.bool true)),((!true) = false),(NT 0 1),(AI v.1),(AN v.2.1.1),(AP v.2.1.1 (fun i => [.int .i64 ((v.2.1.2 i).1), .int .i64 ((v.2.1.2 i).2.1)])),(AN 0),(AN 0),(AN 0),(AI v.1),((0 : Int) = (↑0 : Int)),((([AV.p (PV.int IntKind.i64 v.1), graphL v.2.1].length) : Nat) = 2),(NL 1 1),(NL 1 1),(AI v.1),(AN v.2.1.1),(AP v.2.1.1 (fun i => [.int .i64 ((v.2.1.2 i).1), .int .i64 ((v.2.1.2 i).2.1)])),(AN 2),(NL 0 0),(AA 0 (fun i => [.p (.int .i64 0), .p (.int .i64 0)]))]) := by kernel_rfl
theorem mIo (v : T_Graph) (a n : Nat) (h : Nat → T_Bar) :
    pieceOb Tryz.prog 0 [rg 1, .dec true, rg 2, rg 3, .head] zf53 (SMio v a n h) [0, 1] 1 (SMii v a (a + 1) n h) =
    some (zf6, [((decide ((↑a : Int) < v.1)) = true),(R0 ((↑a : Int) + 1)),(R1 ((↑a : Int) + 1)),(AI v.1),(AN v.2.1.1),(AP v.2.1.1 (fun i => [.int .i64 ((v.2.1.2 i).1), .int .i64 ((v.2.1.2 i).2.1)])),(AN 0),(AN 0),(AN n),(AI ((↑a : Int))),((((↑a : Int) + 1) : Int) = (↑(a + 1) : Int)),(AI v.1),(AI ((↑a : Int))),(AN 2),(NL 1 1),(NL 1 1),(AI v.1),(AN v.2.1.1),(AP v.2.1.1 (fun i => [.int .i64 ((v.2.1.2 i).1), .int .i64 ((v.2.1.2 i).2.1)])),(AN 2),(NL n n),(AA n (fun i => [.p (.int .i64 ((h i).1)), .p (.int .i64 ((h i).2.1))]))]) := by kernel_rfl
theorem mIt (v : T_Graph) (a b n c : Nat) (h : Nat → T_Bar) :
    pieceOb Tryz.prog 0 [rg 4, .dec true, rm [(3, oc [] (.p (.int .i64 c)))] 1, .dec true, rg 7, rg 3, .head] zf6 (SMii v a b n h) [0, 450] 1 (SMii v a (b + 1) (n + 1) (snoc n h (a, b, ()))) =
    some (zf6, [(NT 0 1),((decide ((↑b : Int) < v.1)) = true),(NT 0 1),Con Tryz.prog 107 0 [] [(zf106 v), .p (.int .i64 (↑a : Int)), .p (.int .i64 (↑b : Int))] [] (.p (.int .i64 (↑c : Int))),(((↑c : Int) == 0) = true),(NL 1 1),(NL n n),(NL ((n + 1) * 16) 140737488355328),(NL (n + 1) 9223372036854775807),(R0 ((↑b : Int) + 1)),(R1 ((↑b : Int) + 1)),(AI v.1),(AN v.2.1.1),(AP v.2.1.1 (fun i => [.int .i64 ((v.2.1.2 i).1), .int .i64 ((v.2.1.2 i).2.1)])),(AN 0),(AN 0),(AN ((n + 1))),(AI ((↑a : Int))),((((↑b : Int) + 1) : Int) = (↑(b + 1) : Int)),(AI v.1),(AI ((↑a : Int))),(AN 2),(NL 1 1),(NL 1 1),(AI v.1),(AN v.2.1.1),(AP v.2.1.1 (fun i => [.int .i64 ((v.2.1.2 i).1), .int .i64 ((v.2.1.2 i).2.1)])),(AN 2),(NL (n + 1) (n + 1)),(CV [(450, ⟨false, 2, (n + 1), (fun i_1 => (if (i_1 < n) then [.p (.int .i64 ((h i_1).1)), .p (.int .i64 ((h i_1).2.1))] else [.p (.int .i64 (↑a : Int)), .p (.int .i64 (↑b : Int))]))⟩), (418, ⟨false, 2, 1, (fun i_1 => [.p (.int .i64 (↑a : Int)), .p (.int .i64 (↑b : Int))])⟩), (0, ⟨true, 2, 1, (fun i_1 => [.p (.int .i64 v.1), .p (.seq true 2 v.2.1.1 (fun i_2 => [.int .i64 ((v.2.1.2 i_2).1), .int .i64 ((v.2.1.2 i_2).2.1)]))])⟩)] [0, 450] 1 (n + 1) (fun i => if (i < n) then [.p (.int .i64 ((h i).1)), .p (.int .i64 ((h i).2.1))] else [.p (.int .i64 (↑a : Int)), .p (.int .i64 (↑b : Int))]) (fun i => [.p (.int .i64 (if i < n then (h i).1 else (↑a : Int))), .p (.int .i64 (if i < n then (h i).2.1 else (↑b : Int)))]))]) := by kernel_rfl
theorem mIf (v : T_Graph) (a b n c : Nat) (h : Nat → T_Bar) :
    pieceOb Tryz.prog 0 [rg 4, .dec true, rm [(3, oc [] (.p (.int .i64 c)))] 1, .dec false, rg 3, .head] zf6 (SMii v a b n h) [0, 1] 1 (SMii v a (b + 1) n h) =
    some (zf6, [(NT 0 1),((decide ((↑b : Int) < v.1)) = true),(NT 0 1),Con Tryz.prog 107 0 [] [(zf106 v), .p (.int .i64 (↑a : Int)), .p (.int .i64 (↑b : Int))] [] (.p (.int .i64 (↑c : Int))),(((↑c : Int) == 0) = false),(R0 ((↑b : Int) + 1)),(R1 ((↑b : Int) + 1)),(AI v.1),(AN v.2.1.1),(AP v.2.1.1 (fun i => [.int .i64 ((v.2.1.2 i).1), .int .i64 ((v.2.1.2 i).2.1)])),(AN 0),(AN 0),(AN n),(AI ((↑a : Int))),((((↑b : Int) + 1) : Int) = (↑(b + 1) : Int)),(AI v.1),(AI ((↑a : Int))),(AN 2),(NL 1 1),(NL 1 1),(AI v.1),(AN v.2.1.1),(AP v.2.1.1 (fun i => [.int .i64 ((v.2.1.2 i).1), .int .i64 ((v.2.1.2 i).2.1)])),(AN 2),(NL n n),(AA n (fun i => [.p (.int .i64 ((h i).1)), .p (.int .i64 ((h i).2.1))]))]) := by kernel_rfl
theorem mIx (v : T_Graph) (a b n : Nat) (h : Nat → T_Bar) :
    pieceOb Tryz.prog 0 [rg 4, .dec false, rg 2, .head] zf6 (SMii v a b n h) [0, 1] 1 (SMio v (a + 1) n h) =
    some (zf53, [(NT 0 1),((decide ((↑b : Int) < v.1)) = false),(R0 ((↑a : Int) + 1)),(R1 ((↑a : Int) + 1)),(AI v.1),(AN v.2.1.1),(AP v.2.1.1 (fun i => [.int .i64 ((v.2.1.2 i).1), .int .i64 ((v.2.1.2 i).2.1)])),(AN 0),(AN 0),(AN n),(AI v.1),((((↑a : Int) + 1) : Int) = (↑(a + 1) : Int)),(AN 2),(NL 1 1),(NL 1 1),(AI v.1),(AN v.2.1.1),(AP v.2.1.1 (fun i => [.int .i64 ((v.2.1.2 i).1), .int .i64 ((v.2.1.2 i).2.1)])),(AN 2),(NL n n),(AA n (fun i => [.p (.int .i64 ((h i).1)), .p (.int .i64 ((h i).2.1))]))]) := by kernel_rfl
theorem mIe (v : T_Graph) (a n : Nat) (h : Nat → T_Bar) :
    pathOb Tryz.prog Tryz.f72 0 [rg 1, .dec false, rg 2] zf53 (SMio v a n h) [1] 1 [(0, brOb n h)] (.ar 2 0 0 n) =
    some [((decide ((↑a : Int) < v.1)) = false),(AN 0),(AN n),(AN 2),(NL n n),(AA n (fun i => [.p (.int .i64 ((h i).1)), .p (.int .i64 ((h i).2.1))])),(AE n)] := by kernel_rfl
theorem dAz (p : T_Pinned) (l : T_BarS) :
    pieceOb Tryz.prog 0 [rg 3, rg 2, rg 3, .head] [.code (bodyOf Tryz.f71)] (start Tryz.f71 [] 0 [pinF p, graphL l]) [0, 32, 96] 1 (SAd p l 0 0 (fun _ => (0, 0, ()))) =
    some (zf80, [(AN 0),(AN 0),(AN 0),(AN 0),(AN l.1),(AP l.1 (fun i => [.int .i64 ((l.2 i).1), .int .i64 ((l.2 i).2.1)])),(AI ((↑l.1 : Int))),((0 : Int) = (↑0 : Int)),((([AV.p (PV.int IntKind.i64 p.1.1), AV.p (PV.seq false 2 p.1.2.1.1 fun i => [PV.int IntKind.i64 (p.1.2.1.2 i).1, PV.int IntKind.i64 (p.1.2.1.2 i).2.1]), AV.p (PV.seq false 1 p.2.1.1 fun i => [PV.int IntKind.i64 (p.2.1.2 i)])].length) : Nat) = 3),(NL 1 1),(NL 1 1),(AI p.1.1),(AN p.1.2.1.1),(AP p.1.2.1.1 (fun i => [.int .i64 ((p.1.2.1.2 i).1), .int .i64 ((p.1.2.1.2 i).2.1)])),(AN p.2.1.1),(AP p.2.1.1 (fun i => [.int .i64 (p.2.1.2 i)])),((((List.map (fun v => AV.p (absV v)) [Value.int IntKind.i64 0, Value.slice none 0 0, Value.slice none 0 0]).length) : Nat) = 3),(NL 1 1),(NL 1 1),(AI 0),(AN 2),(NL 0 0),(AA 0 (fun i => [.p (.int .i64 0), .p (.int .i64 0)]))]) := by kernel_rfl
theorem dAt (q : T_Pinned) (l : T_BarS) (k n : Nat) (h : Nat → T_Bar) (v : T_Graph) (b1 b2 : Bool) (r1 r2 : Int) :
    pieceOb Tryz.prog 0 [rg 1, .dec true, rg 4, rm [(6, oc [(0, brOb v.2.1.1 v.2.1.2)] (zf129 v b1))] 6, rg 6, rm [(3, oc [] (.p (.bool b2))), (3, oc [] (.p (.int .i64 r2))), (1, oc [] (.p (.int .i64 r1)))] 3, .dec true, rg 5, rg 2, rg 2, .head] zf80 (SAd q l k n h) [0, 1, 1283] 1 (SAd (v, q.2) l (k + 1) (n + 1) (snoc n h (l.2 k))) =
    some (zf80, [((decide ((↑k : Int) < (↑l.1 : Int))) = true),(IL 0 (↑k : Int)),(IT (↑k : Int) (↑l.1 : Int)),(NT 0 1),((true = true) →  (AN 1)),(NT 0 1),(NT 0 1),(NT 0 1),Con Tryz.prog 64 0 [] [(zf103 q), .p (.int .i64 ((l.2 k).1)), .p (.int .i64 ((l.2 k).2.1))] (zf112 v) ((zf129 v b1)),(NT 0 1),((true = true) →  (AN 1)),(NT 0 1),(NT 0 1),(NT 0 1),((true = true) →  (AN 1)),((b1 = true) → (NT 0 1)),(AG b1),((b1 = true) →  (AN 2)),((b1 = true) → (NL v.2.1.1 v.2.1.1)),((b1 = true) →  Con Tryz.prog 63 0 [] [(zf29 v q)] [] (.p (.bool b2))),(AG b1),(((bif b1 then b2 else false) = true) → (NT 0 1)),(AG (bif b1 then b2 else false)),(((bif b1 then b2 else false) = true) →  (AN 2)),(((bif b1 then b2 else false) = true) → (NL v.2.1.1 v.2.1.1)),(((bif b1 then b2 else false) = true) →  Con Tryz.prog 103 0 [] [(zf29 v q)] [] (.p (.int .i64 r2))),(((bif b1 then b2 else false) = true) → (NT 0 1)),(AG (bif b1 then b2 else false)),(((bif b1 then b2 else false) = true) →  Con Tryz.prog 103 0 [] [(zf26 q)] [] (.p (.int .i64 r1))),(AG (bif b1 then b2 else false)),(((bif b1 then b2 else false) = true) → (R0 (r1 + 1))),(((bif b1 then b2 else false) = true) → (R1 (r1 + 1))),(AG (bif b1 then b2 else false)),(AG (bif b1 then b2 else false)),(AG (bif b1 then b2 else false)),((bif bif b1 then b2 else false then r2 == r1 + 1 else false) = true),(NT 0 1),(NL 1 1),(NL n n),(NL ((n + 1) * 16) 140737488355328),(NL (n + 1) 9223372036854775807),(NT 0 1),(NT 0 1),((true = true) →  (AN 1)),(R0 ((↑k : Int) + 1)),(R1 ((↑k : Int) + 1)),(AN 0),(AN 0),(AN 0),(AN ((n + 1))),(AN l.1),(AP l.1 (fun i => [.int .i64 ((l.2 i).1), .int .i64 ((l.2 i).2.1)])),(AI ((↑l.1 : Int))),((((↑k : Int) + 1) : Int) = (↑(k + 1) : Int)),(AN 3),(NL 1 1),(NL 1 1),(AN 2),(NL v.2.1.1 v.2.1.1),(AI v.1),(AN v.2.1.1),(AP v.2.1.1 (fun i => [.int .i64 ((v.2.1.2 i).1), .int .i64 ((v.2.1.2 i).2.1)])),(AN q.2.1.1),(AP q.2.1.1 (fun i => [.int .i64 (q.2.1.2 i)])),(AN 3),(NL 1 1),(NL 1 1),(AI 0),(AN 2),(NL (n + 1) (n + 1)),(CV [(0, ⟨true, 3, 1, (fun i_1 => [.p (.int .i64 v.1), .ar 2 355 0 v.2.1.1, .p (.seq false 1 q.2.1.1 (fun i_2 => [.int .i64 (q.2.1.2 i_2)]))])⟩), (1283, ⟨false, 2, (n + 1), (fun i_1 => (if (i_1 < n) then [.p (.int .i64 ((h i_1).1)), .p (.int .i64 ((h i_1).2.1))] else [.p (.int .i64 ((l.2 k).1)), .p (.int .i64 ((l.2 k).2.1))]))⟩), (1251, ⟨false, 2, 1, (fun i_1 => [.p (.int .i64 ((l.2 k).1)), .p (.int .i64 ((l.2 k).2.1))])⟩), (707, ⟨true, 3, 1, (fun i_1 => [.p (.int .i64 v.1), .ar 2 355 0 v.2.1.1, .p (.seq false 1 q.2.1.1 (fun i_2 => [.int .i64 (q.2.1.2 i_2)]))])⟩), (483, ⟨true, 2, 1, (fun i_1 => [.p (.int .i64 v.1), .ar 2 355 0 v.2.1.1])⟩), (355, ⟨false, 2, v.2.1.1, (fun i_1 => [.p (.int .i64 ((v.2.1.2 i_1).1)), .p (.int .i64 ((v.2.1.2 i_1).2.1))])⟩), (99, ⟨true, 2, 1, (fun i_1 => [.p (.int .i64 ((l.2 k).1)), .p (.int .i64 ((l.2 k).2.1))])⟩), (1, ⟨true, 3, 1, (fun i_1 => [.p (.int .i64 0), .p (.nil), .p (.nil)])⟩)] [0, 1, 1283] 1 (n + 1) (fun i => if (i < n) then [.p (.int .i64 ((h i).1)), .p (.int .i64 ((h i).2.1))] else [.p (.int .i64 ((l.2 k).1)), .p (.int .i64 ((l.2 k).2.1))]) (fun i => [.p (.int .i64 (if i < n then (h i).1 else (l.2 k).1)), .p (.int .i64 (if i < n then (h i).2.1 else (l.2 k).2.1))]))]) := by kernel_rfl
theorem dAf (q : T_Pinned) (l : T_BarS) (k n : Nat) (h : Nat → T_Bar) (v : T_Graph) (b1 b2 : Bool) (r1 r2 : Int) :
    pieceOb Tryz.prog 0 [rg 1, .dec true, rg 4, rm [(6, oc [(0, brOb v.2.1.1 v.2.1.2)] (zf129 v b1))] 6, rg 6, rm [(3, oc [] (.p (.bool b2))), (3, oc [] (.p (.int .i64 r2))), (1, oc [] (.p (.int .i64 r1)))] 3, .dec false, rg 2, .head] zf80 (SAd q l k n h) [0, 1, 2] 1 (SAd q l (k + 1) n h) =
    some (zf80, [((decide ((↑k : Int) < (↑l.1 : Int))) = true),(IL 0 (↑k : Int)),(IT (↑k : Int) (↑l.1 : Int)),(NT 0 1),((true = true) →  (AN 1)),(NT 0 1),(NT 0 1),(NT 0 1),Con Tryz.prog 64 0 [] [(zf103 q), .p (.int .i64 ((l.2 k).1)), .p (.int .i64 ((l.2 k).2.1))] (zf112 v) ((zf129 v b1)),(NT 0 1),((true = true) →  (AN 1)),(NT 0 1),(NT 0 1),(NT 0 1),((true = true) →  (AN 1)),((b1 = true) → (NT 0 1)),(AG b1),((b1 = true) →  (AN 2)),((b1 = true) → (NL v.2.1.1 v.2.1.1)),((b1 = true) →  Con Tryz.prog 63 0 [] [(zf29 v q)] [] (.p (.bool b2))),(AG b1),(((bif b1 then b2 else false) = true) → (NT 0 1)),(AG (bif b1 then b2 else false)),(((bif b1 then b2 else false) = true) →  (AN 2)),(((bif b1 then b2 else false) = true) → (NL v.2.1.1 v.2.1.1)),(((bif b1 then b2 else false) = true) →  Con Tryz.prog 103 0 [] [(zf29 v q)] [] (.p (.int .i64 r2))),(((bif b1 then b2 else false) = true) → (NT 0 1)),(AG (bif b1 then b2 else false)),(((bif b1 then b2 else false) = true) →  Con Tryz.prog 103 0 [] [(zf26 q)] [] (.p (.int .i64 r1))),(AG (bif b1 then b2 else false)),(((bif b1 then b2 else false) = true) → (R0 (r1 + 1))),(((bif b1 then b2 else false) = true) → (R1 (r1 + 1))),(AG (bif b1 then b2 else false)),(AG (bif b1 then b2 else false)),(AG (bif b1 then b2 else false)),((bif bif b1 then b2 else false then r2 == r1 + 1 else false) = false),(R0 ((↑k : Int) + 1)),(R1 ((↑k : Int) + 1)),(AN 0),(AN 0),(AN 0),(AN n),(AN l.1),(AP l.1 (fun i => [.int .i64 ((l.2 i).1), .int .i64 ((l.2 i).2.1)])),(AI ((↑l.1 : Int))),((((↑k : Int) + 1) : Int) = (↑(k + 1) : Int)),(AN 3),(NL 1 1),(NL 1 1),(AI q.1.1),(AN q.1.2.1.1),(AP q.1.2.1.1 (fun i => [.int .i64 ((q.1.2.1.2 i).1), .int .i64 ((q.1.2.1.2 i).2.1)])),(AN q.2.1.1),(AP q.2.1.1 (fun i => [.int .i64 (q.2.1.2 i)])),(AN 3),(NL 1 1),(NL 1 1),(AI 0),(AN 2),(NL n n),(AA n (fun i => [.p (.int .i64 ((h i).1)), .p (.int .i64 ((h i).2.1))]))]) := by kernel_rfl
theorem dAe (q : T_Pinned) (l : T_BarS) (k n : Nat) (h : Nat → T_Bar) :
    pathOb Tryz.prog Tryz.f71 0 [rg 1, .dec false, rg 4] zf80 (SAd q l k n h) [2] 1 [(0, brOb n h)] (.tup [pinF q, .ar 2 0 0 n]) =
    some [((decide ((↑k : Int) < (↑l.1 : Int))) = false),(NT 0 1),(NT 0 1),((true = true) →  (AN 1)),(NT 0 1),(AI q.1.1),(AN q.1.2.1.1),(AP q.1.2.1.1 (fun i => [.int .i64 ((q.1.2.1.2 i).1), .int .i64 ((q.1.2.1.2 i).2.1)])),(AN q.2.1.1),(AP q.2.1.1 (fun i => [.int .i64 (q.2.1.2 i)])),(AN 0),(AN n),(AN 2),(NL n n),(AA n (fun i => [.p (.int .i64 ((h i).1)), .p (.int .i64 ((h i).2.1))])),(false = false),(AE q.1.2.1.1),(false = false),(AE q.2.1.1),(AE n)] := by kernel_rfl
def cbN (g : Nat → T_Bar) (a b : Int) : Nat → Nat
  | 0 => 0
  | k + 1 => if hitB (g k) a b = true then cbN g a b k + 1 else cbN g a b k
theorem cbN_le (g : Nat → T_Bar) (a b : Int) : ∀ k, cbN g a b k ≤ k
  | 0 => Nat.le_refl _
  | k + 1 => by
    have := cbN_le g a b k
    simp only [cbN]
    split <;> omega
theorem con_CountBar_s (v : T_Graph) (hs : smS s_Graph v) (a b : Int) : Con Tryz.prog 93 0 [] [graphA v, .p (.int .i64 a), .p (.int .i64 b)] [] (.p (.int .i64 (cbN v.2.1.2 a b v.2.1.1))) := by
  have hn : v.2.1.1 ≤ 1048576 := hs.2.1.1
  refine con_start Tryz.func93 rfl (by kernel_rfl) rfl (fun c hc => ?_)
  have lo : ∀ d k, k + d = v.2.1.1 → Run Tryz.prog c 93 zf78 (SOs v a b k (cbN v.2.1.2 a b k)) (Post c [] (.p (.int .i64 (cbN v.2.1.2 a b v.2.1.1)))) := by
    intro d
    induction d with
    | zero =>
      intro k hk
      obtain rfl : k = v.2.1.1 := by omega
      have hd : decide ((v.2.1.1 : Int) < (v.2.1.1 : Int)) = false := by simp
      refine path_ok mixed Tryz.func93 hc (oSe v a b v.2.1.1 _) ?_
      simp only [All]
      repeat' (first | exact trivial | with_reducible apply And.intro)
      all_goals (first | omega | rfl | (intros; first | assumption | exact trivial | rfl | contradiction | ((repeat' (first | assumption | apply anda | apply notf)); done)) | (exact hd))
    | succ d ih =>
      intro k hk
      have hd : decide ((k : Int) < (v.2.1.1 : Int)) = true := decide_eq_true (by omega)
      have hrec := ih (k + 1) (by omega)
      have hl := cbN_le v.2.1.2 a b k
      cases hh : hitB (v.2.1.2 k) a b with
      | true =>
        rw [show cbN v.2.1.2 a b (k + 1) = cbN v.2.1.2 a b k + 1 by simp [cbN, hh]] at hrec
        refine piece_ok mixed hc (oSt v a b k _) ?_ hrec
        simp only [All]
        repeat' (first | exact trivial | with_reducible apply And.intro)
        all_goals (first | exact aG _ | exact aP _ _ | omega | rfl | (intros; first | assumption | exact trivial | rfl | contradiction | ((repeat' (first | assumption | apply anda | apply notf)); done)) | (exact hd) | (exact hh) | (simp; omega))
      | false =>
        rw [show cbN v.2.1.2 a b (k + 1) = cbN v.2.1.2 a b k by simp [cbN, hh]] at hrec
        refine piece_ok mixed hc (oSf v a b k _) ?_ hrec
        simp only [All]
        repeat' (first | exact trivial | with_reducible apply And.intro)
        all_goals (first | exact aG _ | exact aP _ _ | omega | rfl | (intros; first | assumption | exact trivial | rfl | contradiction | ((repeat' (first | assumption | apply anda | apply notf)); done)) | (exact hd) | (exact hh) | (simp; omega))
  refine piece_ok mixed hc (oSz v a b) ?_ (lo v.2.1.1 0 (by omega))
  simp only [All]
  repeat' (first | exact trivial | with_reducible apply And.intro)
  all_goals (first | exact aP _ _ | omega | rfl | (intros; first | assumption | exact trivial | rfl | contradiction | ((repeat' (first | assumption | apply anda | apply notf)); done)) | (simp; omega))
theorem con_CountBar_i (v : T_Graph) (hs : smS s_Graph v) (a b : Int) : Con Tryz.prog 107 0 [] [graphA v, .p (.int .i64 a), .p (.int .i64 b)] [] (.p (.int .i64 (cbN v.2.1.2 a b v.2.1.1))) := by
  have hn : v.2.1.1 ≤ 1048576 := hs.2.1.1
  refine con_start Tryz.func107 rfl (by kernel_rfl) rfl (fun c hc => ?_)
  have lo : ∀ d k, k + d = v.2.1.1 → Run Tryz.prog c 107 zf61 (SOi v a b k (cbN v.2.1.2 a b k)) (Post c [] (.p (.int .i64 (cbN v.2.1.2 a b v.2.1.1)))) := by
    intro d
    induction d with
    | zero =>
      intro k hk
      obtain rfl : k = v.2.1.1 := by omega
      have hd : decide ((v.2.1.1 : Int) < (v.2.1.1 : Int)) = false := by simp
      refine path_ok mixed Tryz.func107 hc (oIe v a b v.2.1.1 _) ?_
      simp only [All]
      repeat' (first | exact trivial | with_reducible apply And.intro)
      all_goals (first | omega | rfl | (intros; first | assumption | exact trivial | rfl | contradiction | ((repeat' (first | assumption | apply anda | apply notf)); done)) | (exact hd))
    | succ d ih =>
      intro k hk
      have hd : decide ((k : Int) < (v.2.1.1 : Int)) = true := decide_eq_true (by omega)
      have hrec := ih (k + 1) (by omega)
      have hl := cbN_le v.2.1.2 a b k
      cases hh : hitB (v.2.1.2 k) a b with
      | true =>
        rw [show cbN v.2.1.2 a b (k + 1) = cbN v.2.1.2 a b k + 1 by simp [cbN, hh]] at hrec
        refine piece_ok mixed hc (oIt v a b k _) ?_ hrec
        simp only [All]
        repeat' (first | exact trivial | with_reducible apply And.intro)
        all_goals (first | exact aG _ | exact aP _ _ | omega | rfl | (intros; first | assumption | exact trivial | rfl | contradiction | ((repeat' (first | assumption | apply anda | apply notf)); done)) | (exact hd) | (exact hh) | (simp; omega))
      | false =>
        rw [show cbN v.2.1.2 a b (k + 1) = cbN v.2.1.2 a b k by simp [cbN, hh]] at hrec
        refine piece_ok mixed hc (oIf v a b k _) ?_ hrec
        simp only [All]
        repeat' (first | exact trivial | with_reducible apply And.intro)
        all_goals (first | exact aG _ | exact aP _ _ | omega | rfl | (intros; first | assumption | exact trivial | rfl | contradiction | ((repeat' (first | assumption | apply anda | apply notf)); done)) | (exact hd) | (exact hh) | (simp; omega))
  refine piece_ok mixed hc (oIz v a b) ?_ (lo v.2.1.1 0 (by omega))
  simp only [All]
  repeat' (first | exact trivial | with_reducible apply And.intro)
  all_goals (first | exact aP _ _ | omega | rfl | (intros; first | assumption | exact trivial | rfl | contradiction | ((repeat' (first | assumption | apply anda | apply notf)); done)) | (simp; omega))
def msI (v : T_Graph) (a : Nat) (r : NB) : Nat → NB
  | 0 => r
  | j + 1 => if cbN v.2.1.2 a ((a + 1 + j : Nat) : Int) v.2.1.1 = 0 then sn (msI v a r j) (a, ((a + 1 + j : Nat) : Int), ()) else msI v a r j
def msO (v : T_Graph) : Nat → NB
  | 0 => zNB
  | a + 1 => msI v a (msO v a) (v.1.toNat - (a + 1))
def msP (v : T_Graph) : NB := if isGraphF v = true then msO v v.1.toNat else zNB
theorem msI_n (v : T_Graph) (a : Nat) (r : NB) : ∀ j, (msI v a r j).1 ≤ r.1 + j
  | 0 => Nat.le_refl _
  | j + 1 => by
    have := msI_n v a r j
    simp only [msI]
    split
    · simp only [sn]; omega
    · omega
theorem msO_n (v : T_Graph) (h : v.1.toNat ≤ 8) : ∀ a, (msO v a).1 ≤ 8 * a
  | 0 => Nat.le_refl _
  | a + 1 => by
    have := msO_n v h a
    have := msI_n v a (msO v a) (v.1.toNat - (a + 1))
    simp only [msO]
    omega
theorem msP_n (v : T_Graph) : (msP v).1 ≤ 64 := by
  unfold msP
  split
  · rename_i h
    have hg := graph_inR h
    have := msO_n v (by omega) v.1.toNat
    omega
  · exact Nat.zero_le _
theorem con_Missing_s (v : T_Graph) (hs : smS s_Graph v) : Con Tryz.prog 59 0 [] [graphA v] [(0, brOb (msP v).1 (msP v).2)] (.ar 2 0 0 (msP v).1) := by
  have c1 := con_IsGraph_s v hs
  refine con_start Tryz.func59 rfl (by kernel_rfl) rfl (fun c hc => ?_)
  cases hp : isGraphF v with
  | false =>
    rw [hp] at c1
    rw [show msP v = zNB by simp [msP, hp]]
    have hd : (bif decide (((0 : Nat) : Int) < v.1) then false else false) = false := by cases decide (((0 : Nat) : Int) < v.1) <;> rfl
    have he : Run Tryz.prog c 59 zf79 (SMso v 0 0 (fun _ => (0, 0, ()))) (Post c [(0, brOb zNB.1 zNB.2)] (.ar 2 0 0 zNB.1)) := by
      refine path_ok mixed Tryz.func59 hc (mSe v 0 0 (fun _ => (0, 0, ())) false) ?_
      simp only [All]
      repeat' (first | exact trivial | with_reducible apply And.intro)
      all_goals (first | exact aG _ | exact aA _ _ | exact aE _ | omega | rfl | (intros; first | assumption | exact trivial | rfl | contradiction | ((repeat' (first | assumption | apply anda | apply notf)); done)) | (intros; exact c1) | (exact hd) | (intro t ht; exact absurd ht (Nat.not_lt_zero _)) | (intro t ht; simp [All, aEt]))
    refine piece_ok mixed hc (mSz v) ?_ he
    simp only [All]
    repeat' (first | exact trivial | with_reducible apply And.intro)
    all_goals (first | exact aP _ _ | exact aA _ _ | omega | rfl | (intros; first | assumption | exact trivial | rfl | contradiction | ((repeat' (first | assumption | apply anda | apply notf)); done)) | (intro t ht; exact absurd ht (Nat.not_lt_zero _)) | (intro t ht; simp [All, aEt]))
  | true =>
    have hg := graph_inR hp
    rw [hp] at c1
    rw [show msP v = msO v v.1.toNat by simp [msP, hp]]
    generalize hR : msO v v.1.toNat = R
    have li : ∀ a, a < v.1.toNat → (Run Tryz.prog c 59 zf79 (SMso v (a + 1) (msO v (a + 1)).1 (msO v (a + 1)).2) (Post c [(0, brOb R.1 R.2)] (.ar 2 0 0 R.1))) →
        ∀ d j, j + d = v.1.toNat - (a + 1) → Run Tryz.prog c 59 zf10 (SMsi v a (a + 1 + j) (msI v a (msO v a) j).1 (msI v a (msO v a) j).2) (Post c [(0, brOb R.1 R.2)] (.ar 2 0 0 R.1)) := by
      intro a ha hk d
      induction d with
      | zero =>
        intro j hj
        obtain rfl : j = v.1.toNat - (a + 1) := by omega
        have hd : decide (((a + 1 + (v.1.toNat - (a + 1)) : Nat) : Int) < v.1) = false := decide_eq_false (by omega)
        refine piece_ok mixed hc (mSx v a (a + 1 + (v.1.toNat - (a + 1))) _ _) ?_ hk
        simp only [All]
        repeat' (first | exact trivial | with_reducible apply And.intro)
        all_goals (first | exact aP _ _ | exact aA _ _ | omega | rfl | (intros; first | assumption | exact trivial | rfl | contradiction | ((repeat' (first | assumption | apply anda | apply notf)); done)) | (exact hd) | (intro t ht; simp [All, aEt]))
      | succ d ih =>
        intro j hj
        have hd : decide (((a + 1 + j : Nat) : Int) < v.1) = true := decide_eq_true (by omega)
        have hrec := ih (j + 1) (by omega)
        have hn := msI_n v a (msO v a) j
        have hn2 := msO_n v (by omega) a
        have cc := con_CountBar_s v hs a ((a + 1 + j : Nat) : Int)
        by_cases hh : cbN v.2.1.2 a ((a + 1 + j : Nat) : Int) v.2.1.1 = 0
        · have hq : ((cbN v.2.1.2 a ((a + 1 + j : Nat) : Int) v.2.1.1 : Int) == 0) = true := by rw [hh]; rfl
          rw [show msI v a (msO v a) (j + 1) = sn (msI v a (msO v a) j) (a, ((a + 1 + j : Nat) : Int), ()) by simp only [msI, hh, if_true]] at hrec
          generalize msI v a (msO v a) j = q at hn hrec ⊢
          refine piece_ok mixed hc (mSt v a (a + 1 + j) q.1 (cbN v.2.1.2 a ((a + 1 + j : Nat) : Int) v.2.1.1) q.2) ?_ hrec
          simp only [All]
          repeat' (first | exact trivial | with_reducible apply And.intro)
          all_goals (first | exact aP _ _ | omega | rfl | (intros; first | assumption | exact trivial | rfl | contradiction | ((repeat' (first | assumption | apply anda | apply notf)); done)) | (exact hd) | (exact cc) | (exact hq) | (intro t ht; by_cases h' : t < q.1 <;> simp [h', snoc, cvtL, cvt, tg, tru, All]) | (simp; omega))
        · have hq : ((cbN v.2.1.2 a ((a + 1 + j : Nat) : Int) v.2.1.1 : Int) == 0) = false := beq_eq_false_iff_ne.2 (fun h => hh (Int.ofNat_eq_zero.1 h))
          rw [show msI v a (msO v a) (j + 1) = msI v a (msO v a) j by simp only [msI, hh, if_false]] at hrec
          generalize msI v a (msO v a) j = q at hn hrec ⊢
          refine piece_ok mixed hc (mSf v a (a + 1 + j) q.1 (cbN v.2.1.2 a ((a + 1 + j : Nat) : Int) v.2.1.1) q.2) ?_ hrec
          simp only [All]
          repeat' (first | exact trivial | with_reducible apply And.intro)
          all_goals (first | exact aP _ _ | exact aA _ _ | omega | rfl | (intros; first | assumption | exact trivial | rfl | contradiction | ((repeat' (first | assumption | apply anda | apply notf)); done)) | (exact hd) | (exact cc) | (exact hq) | (intro t ht; simp [All, aEt]) | (simp; omega))
    have lo : ∀ d a, a + d = v.1.toNat → Run Tryz.prog c 59 zf79 (SMso v a (msO v a).1 (msO v a).2) (Post c [(0, brOb R.1 R.2)] (.ar 2 0 0 R.1)) := by
      intro d
      induction d with
      | zero =>
        intro a ha
        obtain rfl : a = v.1.toNat := by omega
        have hd : (bif decide (((v.1.toNat : Nat) : Int) < v.1) then true else false) = false := by
          rw [show decide (((v.1.toNat : Nat) : Int) < v.1) = false from decide_eq_false (by omega)]; rfl
        rw [hR]
        refine path_ok mixed Tryz.func59 hc (mSe v v.1.toNat R.1 R.2 true) ?_
        simp only [All]
        repeat' (first | exact trivial | with_reducible apply And.intro)
        all_goals (first | exact aG _ | exact aA _ _ | exact aE _ | omega | rfl | (intros; first | assumption | exact trivial | rfl | contradiction | ((repeat' (first | assumption | apply anda | apply notf)); done)) | (exact hd) | (intros; exact c1) | (intro t ht; simp [All, aEt]))
      | succ d ih =>
        intro a ha
        have hd : (bif decide ((a : Int) < v.1) then true else false) = true := by
          rw [show decide ((a : Int) < v.1) = true from decide_eq_true (by omega)]; rfl
        refine piece_ok mixed hc (mSo v a _ _ true) ?_ (li a (by omega) (ih (a + 1) (by omega)) (v.1.toNat - (a + 1)) 0 (by omega))
        simp only [All]
        repeat' (first | exact trivial | with_reducible apply And.intro)
        all_goals (first | exact aG _ | exact aP _ _ | exact aA _ _ | omega | rfl | (intros; first | assumption | exact trivial | rfl | contradiction | ((repeat' (first | assumption | apply anda | apply notf)); done)) | (exact hd) | (intros; exact c1) | (intro t ht; simp [All, aEt]))
    refine piece_ok mixed hc (mSz v) ?_ (lo v.1.toNat 0 (by omega))
    simp only [All]
    repeat' (first | exact trivial | with_reducible apply And.intro)
    all_goals (first | exact aP _ _ | exact aA _ _ | omega | rfl | (intros; first | assumption | exact trivial | rfl | contradiction | ((repeat' (first | assumption | apply anda | apply notf)); done)) | (intro t ht; exact absurd ht (Nat.not_lt_zero _)) | (intro t ht; simp [All, aEt]))
theorem con_Missing_i (v : T_Graph) (hs : smS s_Graph v) : Con Tryz.prog 72 0 [] [graphA v] [(0, brOb (msP v).1 (msP v).2)] (.ar 2 0 0 (msP v).1) := by
  have c1 := con_IsGraph_i v hs
  refine con_start Tryz.func72 rfl (by kernel_rfl) rfl (fun c hc => ?_)
  cases hp : isGraphF v with
  | false =>
    rw [hp] at c1
    rw [show msP v = zNB by simp [msP, hp]]
    refine path_ok mixed Tryz.func72 hc (mIn v) ?_
    simp only [All]
    repeat' (first | exact trivial | with_reducible apply And.intro)
    all_goals (first | exact aA _ _ | exact aE _ | omega | rfl | (intros; first | assumption | exact trivial | rfl | contradiction | ((repeat' (first | assumption | apply anda | apply notf)); done)) | (intros; exact c1) | (intro t ht; exact absurd ht (Nat.not_lt_zero _)) | (intro t ht; simp [All, aEt]))
  | true =>
    have hg := graph_inR hp
    rw [hp] at c1
    rw [show msP v = msO v v.1.toNat by simp [msP, hp]]
    generalize hR : msO v v.1.toNat = R
    have li : ∀ a, a < v.1.toNat → (Run Tryz.prog c 72 zf53 (SMio v (a + 1) (msO v (a + 1)).1 (msO v (a + 1)).2) (Post c [(0, brOb R.1 R.2)] (.ar 2 0 0 R.1))) →
        ∀ d j, j + d = v.1.toNat - (a + 1) → Run Tryz.prog c 72 zf6 (SMii v a (a + 1 + j) (msI v a (msO v a) j).1 (msI v a (msO v a) j).2) (Post c [(0, brOb R.1 R.2)] (.ar 2 0 0 R.1)) := by
      intro a ha hk d
      induction d with
      | zero =>
        intro j hj
        obtain rfl : j = v.1.toNat - (a + 1) := by omega
        have hd : decide (((a + 1 + (v.1.toNat - (a + 1)) : Nat) : Int) < v.1) = false := decide_eq_false (by omega)
        refine piece_ok mixed hc (mIx v a (a + 1 + (v.1.toNat - (a + 1))) _ _) ?_ hk
        simp only [All]
        repeat' (first | exact trivial | with_reducible apply And.intro)
        all_goals (first | exact aP _ _ | exact aA _ _ | omega | rfl | (intros; first | assumption | exact trivial | rfl | contradiction | ((repeat' (first | assumption | apply anda | apply notf)); done)) | (exact hd) | (intro t ht; simp [All, aEt]) | (simp; omega))
      | succ d ih =>
        intro j hj
        have hd : decide (((a + 1 + j : Nat) : Int) < v.1) = true := decide_eq_true (by omega)
        have hrec := ih (j + 1) (by omega)
        have hn := msI_n v a (msO v a) j
        have hn2 := msO_n v (by omega) a
        have cc := con_CountBar_i v hs a ((a + 1 + j : Nat) : Int)
        by_cases hh : cbN v.2.1.2 a ((a + 1 + j : Nat) : Int) v.2.1.1 = 0
        · have hq : ((cbN v.2.1.2 a ((a + 1 + j : Nat) : Int) v.2.1.1 : Int) == 0) = true := by rw [hh]; rfl
          rw [show msI v a (msO v a) (j + 1) = sn (msI v a (msO v a) j) (a, ((a + 1 + j : Nat) : Int), ()) by simp only [msI, hh, if_true]] at hrec
          generalize msI v a (msO v a) j = q at hn hrec ⊢
          refine piece_ok mixed hc (mIt v a (a + 1 + j) q.1 (cbN v.2.1.2 a ((a + 1 + j : Nat) : Int) v.2.1.1) q.2) ?_ hrec
          simp only [All]
          repeat' (first | exact trivial | with_reducible apply And.intro)
          all_goals (first | exact aP _ _ | omega | rfl | (intros; first | assumption | exact trivial | rfl | contradiction | ((repeat' (first | assumption | apply anda | apply notf)); done)) | (exact hd) | (exact cc) | (exact hq) | (intro t ht; by_cases h' : t < q.1 <;> simp [h', snoc, cvtL, cvt, tg, tru, All]) | (simp; omega))
        · have hq : ((cbN v.2.1.2 a ((a + 1 + j : Nat) : Int) v.2.1.1 : Int) == 0) = false := beq_eq_false_iff_ne.2 (fun h => hh (Int.ofNat_eq_zero.1 h))
          rw [show msI v a (msO v a) (j + 1) = msI v a (msO v a) j by simp only [msI, hh, if_false]] at hrec
          generalize msI v a (msO v a) j = q at hn hrec ⊢
          refine piece_ok mixed hc (mIf v a (a + 1 + j) q.1 (cbN v.2.1.2 a ((a + 1 + j : Nat) : Int) v.2.1.1) q.2) ?_ hrec
          simp only [All]
          repeat' (first | exact trivial | with_reducible apply And.intro)
          all_goals (first | exact aP _ _ | exact aA _ _ | omega | rfl | (intros; first | assumption | exact trivial | rfl | contradiction | ((repeat' (first | assumption | apply anda | apply notf)); done)) | (exact hd) | (exact cc) | (exact hq) | (intro t ht; simp [All, aEt]) | (simp; omega))
    have lo : ∀ d a, a + d = v.1.toNat → Run Tryz.prog c 72 zf53 (SMio v a (msO v a).1 (msO v a).2) (Post c [(0, brOb R.1 R.2)] (.ar 2 0 0 R.1)) := by
      intro d
      induction d with
      | zero =>
        intro a ha
        obtain rfl : a = v.1.toNat := by omega
        have hd : decide (((v.1.toNat : Nat) : Int) < v.1) = false := decide_eq_false (by omega)
        rw [hR]
        refine path_ok mixed Tryz.func72 hc (mIe v v.1.toNat R.1 R.2) ?_
        simp only [All]
        repeat' (first | exact trivial | with_reducible apply And.intro)
        all_goals (first | exact aA _ _ | exact aE _ | omega | rfl | (intros; first | assumption | exact trivial | rfl | contradiction | ((repeat' (first | assumption | apply anda | apply notf)); done)) | (exact hd) | (intros; exact c1) | (intro t ht; simp [All, aEt]))
      | succ d ih =>
        intro a ha
        have hd : decide ((a : Int) < v.1) = true := decide_eq_true (by omega)
        refine piece_ok mixed hc (mIo v a _ _) ?_ (li a (by omega) (ih (a + 1) (by omega)) (v.1.toNat - (a + 1)) 0 (by omega))
        simp only [All]
        repeat' (first | exact trivial | with_reducible apply And.intro)
        all_goals (first | exact aP _ _ | exact aA _ _ | omega | rfl | (intros; first | assumption | exact trivial | rfl | contradiction | ((repeat' (first | assumption | apply anda | apply notf)); done)) | (exact hd) | (intros; exact c1) | (intro t ht; simp [All, aEt]))
    refine piece_ok mixed hc (mIz v) ?_ (lo v.1.toNat 0 (by omega))
    simp only [All]
    repeat' (first | exact trivial | with_reducible apply And.intro)
    all_goals (first | exact aP _ _ | exact aA _ _ | omega | rfl | (intros; first | assumption | exact trivial | rfl | contradiction | ((repeat' (first | assumption | apply anda | apply notf)); done)) | (intros; exact c1) | (intro t ht; exact absurd ht (Nat.not_lt_zero _)) | (intro t ht; simp [All, aEt]))
def nxP (q : T_Pinned) (x : T_Bar) : T_Pinned := (abG q.1 x.1 x.2.1, q.2)
noncomputable def adT (q : T_Pinned) (x : T_Bar) : Bool := bif bif abB q.1 x.1 x.2.1 then pinnedF (nxP q x) else false then prG (nxP q x) == prG q + 1 else false
noncomputable def adD (p : T_Pinned) (s : Nat → T_Bar) : Nat → T_Pinned × NB
  | 0 => (p, zNB)
  | k + 1 => if adT (adD p s k).1 (s k) = true then (nxP (adD p s k).1 (s k), sn (adD p s k).2 (s k)) else adD p s k
theorem adT_in {q : T_Pinned} {x : T_Bar} (h : adT q x = true) : abB q.1 x.1 x.2.1 = true ∧ pinnedF (nxP q x) = true ∧ prG (nxP q x) = prG q + 1 := by
  unfold adT at h
  cases h1 : abB q.1 x.1 x.2.1 <;> cases h2 : pinnedF (nxP q x) <;> rw [h1, h2] at h <;> simp at h
  exact ⟨rfl, rfl, h⟩
theorem adD_n (p : T_Pinned) (s : Nat → T_Bar) : ∀ k, (adD p s k).2.1 ≤ k
  | 0 => Nat.le_refl _
  | k + 1 => by
    have := adD_n p s k
    simp only [adD]
    split
    · simp only [sn]; omega
    · omega
theorem arI_congr (v : T_Graph) {l m : T_BarS} : ∀ n, (∀ i, i < n → l.2 i = m.2 i) → arI v l n = arI v m n
  | 0, _ => rfl
  | n + 1, h => by simp only [arI]; rw [arI_congr v n (fun i hi => h i (by omega)), h n (by omega)]
theorem arI_snoc (v : T_Graph) (r : NB) (x : T_Bar) : arI v (sn r x) (r.1 + 1) = ((arI v r r.1).1 && abB (arI v r r.1).2 x.1 x.2.1, abG (arI v r r.1).2 x.1 x.2.1) := by
  have e : (sn r x).2 r.1 = x := snoc_ge (Nat.lt_irrefl _)
  simp only [arI]
  rw [arI_congr v (l := sn r x) (m := r) r.1 (fun i hi => snoc_lt hi), e]
structure AdOk (p : T_Pinned) (d : T_Pinned × NB) : Prop where
  pin : pinnedF d.1 = true
  eq : d.1 = ((arI p.1 d.2 d.2.1).2, p.2)
  ok : (arI p.1 d.2 d.2.1).1 = true
  rk : prG d.1 = prG p + d.2.1
theorem adD_ok (p : T_Pinned) (hp : pinnedF p = true) (s : Nat → T_Bar) : ∀ k, AdOk p (adD p s k)
  | 0 => ⟨hp, rfl, rfl, by show prG p = prG p + ((0 : Nat) : Int); omega⟩
  | k + 1 => by
    have ih := adD_ok p hp s k
    simp only [adD]
    split
    · rename_i h
      obtain ⟨h1, h2, h3⟩ := adT_in h
      have e := arI_snoc p.1 (adD p s k).2 (s k)
      have e1 : (adD p s k).1.1 = (arI p.1 (adD p s k).2 (adD p s k).2.1).2 := by rw [ih.eq]
      have e2 : (adD p s k).1.2 = p.2 := by rw [ih.eq]
      refine ⟨h2, ?_, ?_, ?_⟩
      · show nxP _ _ = ((arI p.1 (sn (adD p s k).2 (s k)) ((adD p s k).2.1 + 1)).2, p.2)
        rw [e, nxP, e1, e2]
      · show (arI p.1 (sn (adD p s k).2 (s k)) ((adD p s k).2.1 + 1)).1 = true
        rw [e, ← e1]
        simp [ih.ok, h1]
      · show prG (nxP _ _) = prG p + (((adD p s k).2.1 + 1 : Nat) : Int)
        rw [h3, ih.rk]; omega
    · exact ih
theorem ad_arB {p : T_Pinned} (hp : pinnedF p = true) {d : T_Pinned × NB} (ih : AdOk p d) (x : T_Bar) :
    arB p (sn d.2 x) = (bif abB d.1.1 x.1 x.2.1 then pinnedF (nxP d.1 x) else false) ∧ (arB p (sn d.2 x) = true → arP p (sn d.2 x) = nxP d.1 x) := by
  have e := arI_snoc p.1 d.2 x
  have e1 : d.1.1 = (arI p.1 d.2 d.2.1).2 := by rw [ih.eq]
  have e2 : d.1.2 = p.2 := by rw [ih.eq]
  have hb : arB p (sn d.2 x) = (bif abB d.1.1 x.1 x.2.1 then pinnedF (nxP d.1 x) else false) := by
    unfold arB
    show (pinnedF p && ((arI p.1 (sn d.2 x) (d.2.1 + 1)).1 && pinnedF ((arI p.1 (sn d.2 x) (d.2.1 + 1)).2, p.2))) = _
    rw [e, ← e1, nxP, e2, hp, ih.ok]
    cases abB d.1.1 x.1 x.2.1 <;> simp
  refine ⟨hb, fun h => ?_⟩
  unfold arP
  rw [if_pos h]
  show ((arI p.1 (sn d.2 x) (d.2.1 + 1)).2, p.2) = _
  rw [e, ← e1, nxP, e2]
theorem ad_arD {p : T_Pinned} (hp : pinnedF p = true) {d : T_Pinned × NB} (ih : AdOk p d) : arB p d.2 = true ∧ arP p d.2 = d.1 := by
  have h : arB p d.2 = true := by
    unfold arB
    rw [hp, ih.ok, ← ih.eq, ih.pin]; rfl
  refine ⟨h, ?_⟩
  unfold arP
  rw [if_pos h, ← ih.eq]
theorem sm_pinned {p : T_Pinned} (h : pinnedF p = true) : smS s_Pinned p := by
  have := pinned_in h
  have := (graph_inR this.1).2.2.1
  exact sm_pin (by omega) (by omega)
theorem sm_nx {q : T_Pinned} (h : pinnedF q = true) (x : T_Bar) : smS s_Pinned (nxP q x) := by
  have := pinned_in h
  have := (graph_inR this.1).2.2.1
  have := abG_n q.1 x.1 x.2.1
  exact sm_pin (by show (abG q.1 x.1 x.2.1).2.1.1 ≤ 1048576; omega) (by show q.2.1.1 ≤ 1048576; omega)
theorem con_added (p : T_Pinned) (hp : pinnedF p = true) (l : T_BarS) (hl : l.1 ≤ 1048576) :
    Con Tryz.prog 71 0 [] [pinF p, graphL l] [(0, brOb (adD p l.2 l.1).2.1 (adD p l.2 l.1).2.2)] (.tup [pinF (adD p l.2 l.1).1, .ar 2 0 0 (adD p l.2 l.1).2.1]) := by
  refine con_start Tryz.func71 rfl (by kernel_rfl) rfl (fun c hc => ?_)
  generalize hR : adD p l.2 l.1 = R
  have lo : ∀ d k, k + d = l.1 → Run Tryz.prog c 71 zf80 (SAd (adD p l.2 k).1 l k (adD p l.2 k).2.1 (adD p l.2 k).2.2) (Post c [(0, brOb R.2.1 R.2.2)] (.tup [pinF R.1, .ar 2 0 0 R.2.1])) := by
    intro d
    induction d with
    | zero =>
      intro k hk
      obtain rfl : k = l.1 := by omega
      have hd : decide ((l.1 : Int) < (l.1 : Int)) = false := by simp
      rw [hR]
      refine path_ok mixed Tryz.func71 hc (dAe R.1 l l.1 R.2.1 R.2.2) ?_
      simp only [All]
      repeat' (first | exact trivial | with_reducible apply And.intro)
      all_goals (first | exact aP _ _ | exact aA _ _ | exact aE _ | omega | rfl | (intros; first | assumption | exact trivial | rfl | contradiction | ((repeat' (first | assumption | apply anda | apply notf)); done)) | (exact hd) | (intro t ht; simp [All, aEt, ntP, ntL]))
    | succ d ih =>
      intro k hk
      have hd : decide ((k : Int) < (l.1 : Int)) = true := decide_eq_true (by omega)
      have hrec := ih (k + 1) (by omega)
      have hn := adD_n p l.2 k
      have hok := adD_ok p hp l.2 k
      have hsd : adD p l.2 (k + 1) = if adT (adD p l.2 k).1 (l.2 k) = true then (nxP (adD p l.2 k).1 (l.2 k), sn (adD p l.2 k).2 (l.2 k)) else adD p l.2 k := rfl
      generalize adD p l.2 k = q at hn hok hsd ⊢
      have hgr := pinned_in hok.pin
      have hnb := (graph_inR hgr.1).2.2.1
      have ca := con_AddBar_i q.1.1 (sm_graph (by omega)) (l.2 k).1 (l.2 k).2.1
      have c2 := con_IsPinned_i (nxP q.1 (l.2 k)) (sm_nx hok.pin _)
      have c3 := con_PinnedRank_i (nxP q.1 (l.2 k)) (sm_nx hok.pin _)
      have c4 := con_PinnedRank_i q.1 (sm_pinned hok.pin)
      have r1 := prG_in q.1
      cases ht : adT q.1 (l.2 k) with
      | true =>
        rw [ht, if_pos rfl] at hsd
        rw [hsd] at hrec
        refine piece_ok mixed hc (dAt q.1 l k q.2.1 q.2.2 (abG q.1.1 (l.2 k).1 (l.2 k).2.1) (abB q.1.1 (l.2 k).1 (l.2 k).2.1) (pinnedF (nxP q.1 (l.2 k))) (prG q.1) (prG (nxP q.1 (l.2 k)))) ?_ hrec
        simp only [All]
        repeat' (first | exact trivial | with_reducible apply And.intro)
        all_goals (first | exact aG _ | exact aP _ _ | omega | rfl | (intros; first | assumption | exact trivial | rfl | contradiction | ((repeat' (first | assumption | apply anda | apply notf)); done)) | (exact hd) | (exact ca) | (intros; exact c2) | (intros; exact c3) | (intros; exact c4) | (exact ht) | (intro t ht; by_cases h' : t < q.2.1 <;> simp [h', snoc, cvtL, cvt, tg, tru, All]) | (intros; simp; omega))
      | false =>
        rw [ht, if_neg (by simp)] at hsd
        rw [hsd] at hrec
        refine piece_ok mixed hc (dAf q.1 l k q.2.1 q.2.2 (abG q.1.1 (l.2 k).1 (l.2 k).2.1) (abB q.1.1 (l.2 k).1 (l.2 k).2.1) (pinnedF (nxP q.1 (l.2 k))) (prG q.1) (prG (nxP q.1 (l.2 k)))) ?_ hrec
        simp only [All]
        repeat' (first | exact trivial | with_reducible apply And.intro)
        all_goals (first | exact aG _ | exact aP _ _ | exact aA _ _ | omega | rfl | (intros; first | assumption | exact trivial | rfl | contradiction | ((repeat' (first | assumption | apply anda | apply notf)); done)) | (exact hd) | (exact ca) | (intros; exact c2) | (intros; exact c3) | (intros; exact c4) | (exact ht) | (intro t ht; simp [All, aEt]) | (intros; simp; omega))
  refine piece_ok mixed hc (dAz p l) ?_ (lo l.1 0 (by omega))
  simp only [All]
  repeat' (first | exact trivial | with_reducible apply And.intro)
  all_goals (first | exact aP _ _ | exact aA _ _ | omega | rfl | (intros; first | assumption | exact trivial | rfl | contradiction | ((repeat' (first | assumption | apply anda | apply notf)); done)) | (intro t ht; exact absurd ht (Nat.not_lt_zero _)) | (intro t ht; simp [All, aEt]))
end Go.Proofs.YtgdbnnmogddkaaaGreat.Mach
namespace Go.Proofs.YtgdbnnmogddkaaaGreat.Mach
open Go Go.Sort
set_option linter.unusedVariables false
set_option linter.unusedSimpArgs false
def SLf (p : T_Pinned) (l : T_BarS) (rk : Int) (k n : Nat) (h : Nat → T_Bar) : St :=
  ⟨[pinA p, graphL l, .pt 3 0 0 0, .p .any, .p .any, .ar 2 1 0 n, .p (.int .i64 rk), .p (.int .i64 k)] ++ List.replicate 44 anyA, [(0, boxP p), (1, brOb n h)], 2⟩
theorem dLz (p : T_Pinned) (l : T_BarS) (rk : Int) :
    pieceOb Tryz.prog 0 [rg 2, rg 2, rm [(1, oc [] (.p (.int .i64 rk)))] 1, rg 1, .head] [.code (bodyOf Tryz.f58)] (start Tryz.f58 [] 0 [pinA p, graphL l]) [0, 64] 1 (SLf p l rk 0 0 (fun _ => (0, 0, ()))) =
    some (zf54, [(NT 0 1),Con Tryz.prog 89 0 [] [(zf26 p)] [] (.p (.int .i64 rk)),(AI p.1.1),(AN p.1.2.1.1),(AP p.1.2.1.1 (fun i => [.int .i64 ((p.1.2.1.2 i).1), .int .i64 ((p.1.2.1.2 i).2.1)])),(AN p.2.1.1),(AP p.2.1.1 (fun i => [.int .i64 (p.2.1.2 i)])),(AN l.1),(AP l.1 (fun i => [.int .i64 ((l.2 i).1), .int .i64 ((l.2 i).2.1)])),(AN 0),(AN 0),(AN 0),(AI rk),((0 : Int) = (↑0 : Int)),((([AV.p (PV.int IntKind.i64 p.1.1), graphL p.1.2.1, inL p.2.1].length) : Nat) = 3),(NL 1 1),(NL 1 1),(AI p.1.1),(AN p.1.2.1.1),(AP p.1.2.1.1 (fun i => [.int .i64 ((p.1.2.1.2 i).1), .int .i64 ((p.1.2.1.2 i).2.1)])),(AN p.2.1.1),(AP p.2.1.1 (fun i => [.int .i64 (p.2.1.2 i)])),(AN 2),(NL 0 0),(AA 0 (fun i => [.p (.int .i64 0), .p (.int .i64 0)]))]) := by kernel_rfl
theorem dLt (p q : T_Pinned) (l : T_BarS) (k n : Nat) (h : Nat → T_Bar) (b1 : Bool) (rk r2 : Int) :
    pieceOb Tryz.prog 0 [rg 4, .dec true, rm [(10, oc [(0, brOb q.1.2.1.1 q.1.2.1.2), (1, iOb q.2.1.1 q.2.1.2)] (zf120 q b1))] 6, rm [(3, oc [] (.p (.int .i64 r2)))] 7, .dec true, rg 8, rg 3, .head] zf54 (SLf p l rk k n h) [0, 1218] 1 (SLf p l rk (k + 1) (n + 1) (snoc n h (l.2 k))) =
    some (zf54, [((decide ((↑k : Int) < (↑l.1 : Int))) = true),(NT 0 1),(NL n n),(NL 0 0),(NL ((0 + n) * 16) 140737488355328),(NL (0 + n) 9223372036854775807),(IL 0 (↑k : Int)),(IT (↑k : Int) (↑l.1 : Int)),(NL 1 1),(NL (0 + n) (0 + n)),(NL ((0 + n + 1) * 16) 140737488355328),(NL (0 + n + 1) 9223372036854775807),(AN 2),(NL (0 + n + 1) (0 + n + 1)),Con Tryz.prog 23 0 [] [(zf26 p), .p (.seq true 2 (0 + n + 1) (fun i => [(cellP true (if (i < 0 + n) then [.p (.int .i64 ((h i).1)), .p (.int .i64 ((h i).2.1))] else [.p (.int .i64 ((l.2 k).1)), .p (.int .i64 ((l.2 k).2.1))]) 0), (cellP true (if (i < 0 + n) then [.p (.int .i64 ((h i).1)), .p (.int .i64 ((h i).2.1))] else [.p (.int .i64 ((l.2 k).1)), .p (.int .i64 ((l.2 k).2.1))]) 1)]))] (zf31 q) ((zf120 q b1)),(NT 0 1),((true = true) →  (AN 1)),((b1 = true) → (NT 0 1)),(AG b1),((b1 = true) →  (AN 2)),((b1 = true) → (NL q.1.2.1.1 q.1.2.1.1)),((b1 = true) →  (AN 1)),((b1 = true) → (NL q.2.1.1 q.2.1.1)),((b1 = true) →  Con Tryz.prog 89 0 [] [(zf26 q)] [] (.p (.int .i64 r2))),(AG b1),(AG b1),(AG b1),((b1 = true) → (R0 (rk + (↑n : Int)))),((b1 = true) → (R1 (rk + (↑n : Int)))),(AG b1),((b1 = true) → (R0 (rk + (↑n : Int) + 1))),((b1 = true) → (R1 (rk + (↑n : Int) + 1))),(AG b1),(AG b1),(AG b1),((bif b1 then r2 == rk + (↑n : Int) + 1 else false) = true),(IL 0 (↑k : Int)),(IT (↑k : Int) (↑l.1 : Int)),(NL 1 1),(NL n n),(NL ((n + 1) * 16) 140737488355328),(NL (n + 1) 9223372036854775807),(R0 ((↑k : Int) + 1)),(R1 ((↑k : Int) + 1)),(AI p.1.1),(AN p.1.2.1.1),(AP p.1.2.1.1 (fun i => [.int .i64 ((p.1.2.1.2 i).1), .int .i64 ((p.1.2.1.2 i).2.1)])),(AN p.2.1.1),(AP p.2.1.1 (fun i => [.int .i64 (p.2.1.2 i)])),(AN l.1),(AP l.1 (fun i => [.int .i64 ((l.2 i).1), .int .i64 ((l.2 i).2.1)])),(AN 0),(AN 0),(AN ((n + 1))),(AI rk),((((↑k : Int) + 1) : Int) = (↑(k + 1) : Int)),(AN 3),(NL 1 1),(NL 1 1),(AI p.1.1),(AN p.1.2.1.1),(AP p.1.2.1.1 (fun i => [.int .i64 ((p.1.2.1.2 i).1), .int .i64 ((p.1.2.1.2 i).2.1)])),(AN p.2.1.1),(AP p.2.1.1 (fun i => [.int .i64 (p.2.1.2 i)])),(AN 2),(NL (n + 1) (n + 1)),(CV [(1218, ⟨false, 2, (n + 1), (fun i_1 => (if (i_1 < n) then [.p (.int .i64 ((h i_1).1)), .p (.int .i64 ((h i_1).2.1))] else [.p (.int .i64 ((l.2 k).1)), .p (.int .i64 ((l.2 k).2.1))]))⟩), (1186, ⟨false, 2, 1, (fun i_1 => [.p (.int .i64 ((l.2 k).1)), .p (.int .i64 ((l.2 k).2.1))])⟩), (578, ⟨true, 3, 1, (fun i_1 => [.p (.int .i64 q.1.1), .ar 2 450 0 q.1.2.1.1, .ar 1 451 0 q.2.1.1])⟩), (451, ⟨false, 1, q.2.1.1, (fun i_1 => [.p (.int .i64 (q.2.1.2 i_1))])⟩), (450, ⟨false, 2, q.1.2.1.1, (fun i_1 => [.p (.int .i64 ((q.1.2.1.2 i_1).1)), .p (.int .i64 ((q.1.2.1.2 i_1).2.1))])⟩), (418, ⟨false, 2, (0 + n + 1), (fun i_1 => (if (i_1 < 0 + n) then [.p (.int .i64 ((h i_1).1)), .p (.int .i64 ((h i_1).2.1))] else [.p (.int .i64 ((l.2 k).1)), .p (.int .i64 ((l.2 k).2.1))]))⟩), (386, ⟨false, 2, 1, (fun i_1 => [.p (.int .i64 ((l.2 k).1)), .p (.int .i64 ((l.2 k).2.1))])⟩), (0, ⟨true, 3, 1, (fun i_1 => [.p (.int .i64 p.1.1), .p (.seq true 2 p.1.2.1.1 (fun i_2 => [.int .i64 ((p.1.2.1.2 i_2).1), .int .i64 ((p.1.2.1.2 i_2).2.1)])), .p (.seq true 1 p.2.1.1 (fun i_2 => [.int .i64 (p.2.1.2 i_2)]))])⟩)] [0, 1218] 1 (n + 1) (fun i => if (i < n) then [.p (.int .i64 ((h i).1)), .p (.int .i64 ((h i).2.1))] else [.p (.int .i64 ((l.2 k).1)), .p (.int .i64 ((l.2 k).2.1))]) (fun i => [.p (.int .i64 (if i < n then (h i).1 else (l.2 k).1)), .p (.int .i64 (if i < n then (h i).2.1 else (l.2 k).2.1))]))]) := by kernel_rfl
theorem dLf (p q : T_Pinned) (l : T_BarS) (k n : Nat) (h : Nat → T_Bar) (b1 : Bool) (rk r2 : Int) :
    pieceOb Tryz.prog 0 [rg 4, .dec true, rm [(10, oc [(0, brOb q.1.2.1.1 q.1.2.1.2), (1, iOb q.2.1.1 q.2.1.2)] (zf120 q b1))] 6, rm [(3, oc [] (.p (.int .i64 r2)))] 7, .dec false, rg 3, .head] zf54 (SLf p l rk k n h) [0, 1] 1 (SLf p l rk (k + 1) n h) =
    some (zf54, [((decide ((↑k : Int) < (↑l.1 : Int))) = true),(NT 0 1),(NL n n),(NL 0 0),(NL ((0 + n) * 16) 140737488355328),(NL (0 + n) 9223372036854775807),(IL 0 (↑k : Int)),(IT (↑k : Int) (↑l.1 : Int)),(NL 1 1),(NL (0 + n) (0 + n)),(NL ((0 + n + 1) * 16) 140737488355328),(NL (0 + n + 1) 9223372036854775807),(AN 2),(NL (0 + n + 1) (0 + n + 1)),Con Tryz.prog 23 0 [] [(zf26 p), .p (.seq true 2 (0 + n + 1) (fun i => [(cellP true (if (i < 0 + n) then [.p (.int .i64 ((h i).1)), .p (.int .i64 ((h i).2.1))] else [.p (.int .i64 ((l.2 k).1)), .p (.int .i64 ((l.2 k).2.1))]) 0), (cellP true (if (i < 0 + n) then [.p (.int .i64 ((h i).1)), .p (.int .i64 ((h i).2.1))] else [.p (.int .i64 ((l.2 k).1)), .p (.int .i64 ((l.2 k).2.1))]) 1)]))] (zf31 q) ((zf120 q b1)),(NT 0 1),((true = true) →  (AN 1)),((b1 = true) → (NT 0 1)),(AG b1),((b1 = true) →  (AN 2)),((b1 = true) → (NL q.1.2.1.1 q.1.2.1.1)),((b1 = true) →  (AN 1)),((b1 = true) → (NL q.2.1.1 q.2.1.1)),((b1 = true) →  Con Tryz.prog 89 0 [] [(zf26 q)] [] (.p (.int .i64 r2))),(AG b1),(AG b1),(AG b1),((b1 = true) → (R0 (rk + (↑n : Int)))),((b1 = true) → (R1 (rk + (↑n : Int)))),(AG b1),((b1 = true) → (R0 (rk + (↑n : Int) + 1))),((b1 = true) → (R1 (rk + (↑n : Int) + 1))),(AG b1),(AG b1),(AG b1),((bif b1 then r2 == rk + (↑n : Int) + 1 else false) = false),(R0 ((↑k : Int) + 1)),(R1 ((↑k : Int) + 1)),(AI p.1.1),(AN p.1.2.1.1),(AP p.1.2.1.1 (fun i => [.int .i64 ((p.1.2.1.2 i).1), .int .i64 ((p.1.2.1.2 i).2.1)])),(AN p.2.1.1),(AP p.2.1.1 (fun i => [.int .i64 (p.2.1.2 i)])),(AN l.1),(AP l.1 (fun i => [.int .i64 ((l.2 i).1), .int .i64 ((l.2 i).2.1)])),(AN 0),(AN 0),(AN n),(AI rk),((((↑k : Int) + 1) : Int) = (↑(k + 1) : Int)),(AN 3),(NL 1 1),(NL 1 1),(AI p.1.1),(AN p.1.2.1.1),(AP p.1.2.1.1 (fun i => [.int .i64 ((p.1.2.1.2 i).1), .int .i64 ((p.1.2.1.2 i).2.1)])),(AN p.2.1.1),(AP p.2.1.1 (fun i => [.int .i64 (p.2.1.2 i)])),(AN 2),(NL n n),(AA n (fun i => [.p (.int .i64 ((h i).1)), .p (.int .i64 ((h i).2.1))]))]) := by kernel_rfl
theorem dLe (p : T_Pinned) (l : T_BarS) (rk : Int) (k n : Nat) (h : Nat → T_Bar) :
    pathOb Tryz.prog Tryz.f58 0 [rg 4, .dec false, rg 2] zf54 (SLf p l rk k n h) [1] 1 [(0, brOb n h)] (.ar 2 0 0 n) =
    some [((decide ((↑k : Int) < (↑l.1 : Int))) = false),(AN 0),(AN n),(AN 2),(NL n n),(AA n (fun i => [.p (.int .i64 ((h i).1)), .p (.int .i64 ((h i).2.1))])),(AE n)] := by kernel_rfl
theorem rBn (p : T_Pinned) :
    pathOb Tryz.prog Tryz.f39 0 [rg 3, rm [(1, oc [] (.p (.bool false)))] 1, .dec true, rg 3] [.code (bodyOf Tryz.f39)] (start Tryz.f39 [] 0 [pinA p]) [192] 1 [(0, brOb 0 (fun _ => (0, 0, ())))] (.tup [.ar 2 0 0 0, .p (.bool false)]) =
    some [(NT 0 1),Con Tryz.prog 63 0 [] [(zf26 p)] [] (.p (.bool false)),((!false) = true),(AN 0),(AN 0),(false = false),(AN 2),(NL 0 0),(AA 0 (fun i => [.p (.int .i64 0), .p (.int .i64 0)])),(AE 0)] := by kernel_rfl
theorem rBf (p q : T_Pinned) (n m : Nat) (h g : Nat → T_Bar) :
    pathOb Tryz.prog Tryz.f39 0 [rg 3, rm [(1, oc [] (.p (.bool true)))] 1, .dec false, rm [(3, oc [(0, brOb n h)] (.ar 2 0 0 n)), (0, ⟨true, (some ⟨[], [0], [], 1, [(0, brOb m g)], .tup [pinF q, .ar 2 0 0 m]⟩), none⟩)] 6, rm [(1, oc [] (.p (.bool false)))] 1, .dec true, rg 3] [.code (bodyOf Tryz.f39)] (start Tryz.f39 [] 0 [pinA p]) [640] 1 [(0, brOb 0 (fun _ => (0, 0, ())))] (.tup [.ar 2 0 0 0, .p (.bool false)]) =
    some [(NT 0 1),Con Tryz.prog 63 0 [] [(zf26 p)] [] (.p (.bool true)),((!true) = false),(NT 0 1),(NT 0 1),Con Tryz.prog 72 0 [] [(zf103 p)] (zf121 n h) (.ar 2 0 0 n),(AN 2),(NL n n),Con Tryz.prog 71 0 [] [(zf25 p), .p (.seq true 2 n (fun i => [.int .i64 ((h i).1), .int .i64 ((h i).2.1)]))] (zf121 m g) ((zf21 q m)),(NT 0 1),((true = true) →  (AN 1)),(NT 0 1),Con Tryz.prog 73 0 [] [(zf26 q)] [] (.p (.bool false)),((!false) = true),(AN 0),(AN 0),(false = false),(AN 2),(NL 0 0),(AA 0 (fun i => [.p (.int .i64 0), .p (.int .i64 0)])),(AE 0)] := by kernel_rfl
theorem rBt (p q : T_Pinned) (n m : Nat) (h g : Nat → T_Bar) :
    pathOb Tryz.prog Tryz.f39 0 [rg 3, rm [(1, oc [] (.p (.bool true)))] 1, .dec false, rm [(3, oc [(0, brOb n h)] (.ar 2 0 0 n)), (0, ⟨true, (some ⟨[], [0], [], 1, [(0, brOb m g)], .tup [pinF q, .ar 2 0 0 m]⟩), none⟩)] 6, rm [(1, oc [] (.p (.bool true)))] 1, .dec false, rg 3] [.code (bodyOf Tryz.f39)] (start Tryz.f39 [] 0 [pinA p]) [320] 1 [(0, brOb m g)] (.tup [.ar 2 0 0 m, .p (.bool true)]) =
    some [(NT 0 1),Con Tryz.prog 63 0 [] [(zf26 p)] [] (.p (.bool true)),((!true) = false),(NT 0 1),(NT 0 1),Con Tryz.prog 72 0 [] [(zf103 p)] (zf121 n h) (.ar 2 0 0 n),(AN 2),(NL n n),Con Tryz.prog 71 0 [] [(zf25 p), .p (.seq true 2 n (fun i => [.int .i64 ((h i).1), .int .i64 ((h i).2.1)]))] (zf121 m g) ((zf21 q m)),(NT 0 1),((true = true) →  (AN 1)),(NT 0 1),Con Tryz.prog 73 0 [] [(zf26 q)] [] (.p (.bool true)),((!true) = false),(AN 0),(AN m),(true = true),(AN 2),(NL m m),(AA m (fun i => [.p (.int .i64 ((g i).1)), .p (.int .i64 ((g i).2.1))])),(AE m)] := by kernel_rfl
theorem rDn (p : T_Pinned) :
    pathOb Tryz.prog Tryz.f28 0 [rg 3, rm [(1, oc [] (.p (.bool false)))] 1, .dec true, rg 3] [.code (bodyOf Tryz.f28)] (start Tryz.f28 [] 0 [pinA p]) [192] 1 [(0, brOb 0 (fun _ => (0, 0, ())))] (.tup [.ar 2 0 0 0, .p (.bool false)]) =
    some [(NT 0 1),Con Tryz.prog 51 0 [] [(zf26 p)] [] (.p (.bool false)),((!false) = true),(AN 0),(AN 0),(false = false),(AN 2),(NL 0 0),(AA 0 (fun i => [.p (.int .i64 0), .p (.int .i64 0)])),(AE 0)] := by kernel_rfl
theorem rDf (p : T_Pinned) (n m : Nat) (h g : Nat → T_Bar) :
    pathOb Tryz.prog Tryz.f28 0 [rg 3, rm [(1, oc [] (.p (.bool true)))] 1, .dec false, rm [(3, oc [(0, brOb n h)] (.ar 2 0 0 n)), (0, oc [(0, brOb m g)] (.ar 2 0 0 m))] 1, rm [(2, oc [] (.p (.bool false)))] 1, .dec true, rg 3] [.code (bodyOf Tryz.f28)] (start Tryz.f28 [] 0 [pinA p]) [512] 1 [(0, brOb 0 (fun _ => (0, 0, ())))] (.tup [.ar 2 0 0 0, .p (.bool false)]) =
    some [(NT 0 1),Con Tryz.prog 51 0 [] [(zf26 p)] [] (.p (.bool true)),((!true) = false),(NT 0 1),(NT 0 1),Con Tryz.prog 59 0 [] [(zf103 p)] (zf121 n h) (.ar 2 0 0 n),(AN 2),(NL n n),Con Tryz.prog 58 0 [] [(zf26 p), .p (.seq true 2 n (fun i => [.int .i64 ((h i).1), .int .i64 ((h i).2.1)]))] (zf121 m g) (.ar 2 0 0 m),(NT 0 1),(AN 2),(NL m m),Con Tryz.prog 60 0 [] [(zf26 p), .p (.seq true 2 m (fun i => [.int .i64 ((g i).1), .int .i64 ((g i).2.1)]))] [] (.p (.bool false)),((!false) = true),(AN 0),(AN 0),(false = false),(AN 2),(NL 0 0),(AA 0 (fun i => [.p (.int .i64 0), .p (.int .i64 0)])),(AE 0)] := by kernel_rfl
theorem rDt (p : T_Pinned) (n m : Nat) (h g : Nat → T_Bar) :
    pathOb Tryz.prog Tryz.f28 0 [rg 3, rm [(1, oc [] (.p (.bool true)))] 1, .dec false, rm [(3, oc [(0, brOb n h)] (.ar 2 0 0 n)), (0, oc [(0, brOb m g)] (.ar 2 0 0 m))] 1, rm [(2, oc [] (.p (.bool true)))] 1, .dec false, rg 3] [.code (bodyOf Tryz.f28)] (start Tryz.f28 [] 0 [pinA p]) [320] 1 [(0, brOb m g)] (.tup [.ar 2 0 0 m, .p (.bool true)]) =
    some [(NT 0 1),Con Tryz.prog 51 0 [] [(zf26 p)] [] (.p (.bool true)),((!true) = false),(NT 0 1),(NT 0 1),Con Tryz.prog 59 0 [] [(zf103 p)] (zf121 n h) (.ar 2 0 0 n),(AN 2),(NL n n),Con Tryz.prog 58 0 [] [(zf26 p), .p (.seq true 2 n (fun i => [.int .i64 ((h i).1), .int .i64 ((h i).2.1)]))] (zf121 m g) (.ar 2 0 0 m),(NT 0 1),(AN 2),(NL m m),Con Tryz.prog 60 0 [] [(zf26 p), .p (.seq true 2 m (fun i => [.int .i64 ((g i).1), .int .i64 ((g i).2.1)]))] [] (.p (.bool true)),((!true) = false),(AN 0),(AN m),(true = true),(AN 2),(NL m m),(AA m (fun i => [.p (.int .i64 ((g i).1)), .p (.int .i64 ((g i).2.1))])),(AE m)] := by kernel_rfl
theorem put_arg {f : Nat} {H' : Hp} {res : AV} (p : T_Pinned) (r : NB) (x : T_Bar) (h : Con Tryz.prog f 0 [] [pinA p, graphL (sn r x)] H' res) :
    Con Tryz.prog f 0 [] [pinA p, .p (.seq true 2 (0 + r.1 + 1) (fun i => [cellP true (if i < 0 + r.1 then [.p (.int .i64 (r.2 i).1), .p (.int .i64 (r.2 i).2.1)] else [.p (.int .i64 x.1), .p (.int .i64 x.2.1)]) 0,
      cellP true (if i < 0 + r.1 then [.p (.int .i64 (r.2 i).1), .p (.int .i64 (r.2 i).2.1)] else [.p (.int .i64 x.1), .p (.int .i64 x.2.1)]) 1]))] H' res := by
  have e : (.p (.seq true 2 (0 + r.1 + 1) (fun i => [cellP true (if i < 0 + r.1 then [.p (.int .i64 (r.2 i).1), .p (.int .i64 (r.2 i).2.1)] else [.p (.int .i64 x.1), .p (.int .i64 x.2.1)]) 0,
      cellP true (if i < 0 + r.1 then [.p (.int .i64 (r.2 i).1), .p (.int .i64 (r.2 i).2.1)] else [.p (.int .i64 x.1), .p (.int .i64 x.2.1)]) 1])) : AV) = graphL (sn r x) := by
    simp only [graphL, sn, Nat.zero_add]
    congr 2
    funext i
    by_cases h : i < r.1 <;> simp [h, snoc, cellP, tg, tru]
  rw [e]
  exact h
theorem con_l28From (p : T_Pinned) (hp : pinnedF p = true) (l : T_BarS) (hl : l.1 ≤ 1000000) :
    Con Tryz.prog 58 0 [] [pinA p, graphL l] [(0, brOb (adD p l.2 l.1).2.1 (adD p l.2 l.1).2.2)] (.ar 2 0 0 (adD p l.2 l.1).2.1) := by
  have c0 := con_PinnedRank_s p (sm_pinned hp)
  refine con_start Tryz.func58 rfl (by kernel_rfl) rfl (fun c hc => ?_)
  generalize hR : adD p l.2 l.1 = R
  have rp := prG_in p
  have lo : ∀ d k, k + d = l.1 → Run Tryz.prog c 58 zf54 (SLf p l (prG p) k (adD p l.2 k).2.1 (adD p l.2 k).2.2) (Post c [(0, brOb R.2.1 R.2.2)] (.ar 2 0 0 R.2.1)) := by
    intro d
    induction d with
    | zero =>
      intro k hk
      obtain rfl : k = l.1 := by omega
      have hd : decide ((l.1 : Int) < (l.1 : Int)) = false := by simp
      rw [hR]
      refine path_ok mixed Tryz.func58 hc (dLe p l (prG p) l.1 R.2.1 R.2.2) ?_
      simp only [All]
      repeat' (first | exact trivial | with_reducible apply And.intro)
      all_goals (first | exact aA _ _ | exact aE _ | omega | rfl | (intros; first | assumption | exact trivial | rfl | contradiction | ((repeat' (first | assumption | apply anda | apply notf)); done)) | (exact hd) | (intro t ht; simp [All, aEt]))
    | succ d ih =>
      intro k hk
      have hd : decide ((k : Int) < (l.1 : Int)) = true := decide_eq_true (by omega)
      have hrec := ih (k + 1) (by omega)
      have hn := adD_n p l.2 k
      have hok := adD_ok p hp l.2 k
      have hsd : adD p l.2 (k + 1) = if adT (adD p l.2 k).1 (l.2 k) = true then (nxP (adD p l.2 k).1 (l.2 k), sn (adD p l.2 k).2 (l.2 k)) else adD p l.2 k := rfl
      generalize adD p l.2 k = q at hn hok hsd ⊢
      have hA := ad_arB hp hok (l.2 k)
      have ca := con_ApplyRepair_s p (sm_pinned hp) (sn q.2 (l.2 k)) (by show q.2.1 + 1 ≤ 1048576; omega)
      have hgd : (bif arB p (sn q.2 (l.2 k)) then prG (arP p (sn q.2 (l.2 k))) == prG p + (q.2.1 : Int) + 1 else false) = adT q.1 (l.2 k) := by
        unfold adT
        rw [← hA.1]
        cases hb : arB p (sn q.2 (l.2 k)) with
        | false => simp only [cond_false]
        | true => rw [hA.2 hb, hok.rk]
      have c3 := con_PinnedRank_s (arP p (sn q.2 (l.2 k))) (sm_arP p _)
      generalize arP p (sn q.2 (l.2 k)) = u at ca hgd c3
      generalize arB p (sn q.2 (l.2 k)) = b at ca hgd
      cases ht : adT q.1 (l.2 k) with
      | true =>
        rw [ht, if_pos rfl] at hsd
        rw [hsd] at hrec
        rw [ht] at hgd
        refine piece_ok mixed hc (dLt p u l k q.2.1 q.2.2 b (prG p) (prG u)) ?_ hrec
        simp only [All]
        repeat' (first | exact trivial | with_reducible apply And.intro)
        all_goals (first | exact aG _ | exact aP _ _ | omega | rfl | (intros; first | assumption | exact trivial | rfl | contradiction | ((repeat' (first | assumption | apply anda | apply notf)); done)) | (exact hd) | (intros; exact c3) | (exact hgd) | (exact put_arg p q.2 (l.2 k) ca) | (intro t ht; by_cases h' : t < q.2.1 <;> simp [h', snoc, cvtL, cvt, tg, tru, All]) | (intros; simp; omega))
      | false =>
        rw [ht, if_neg (by simp)] at hsd
        rw [hsd] at hrec
        rw [ht] at hgd
        refine piece_ok mixed hc (dLf p u l k q.2.1 q.2.2 b (prG p) (prG u)) ?_ hrec
        simp only [All]
        repeat' (first | exact trivial | with_reducible apply And.intro)
        all_goals (first | exact aG _ | exact aP _ _ | exact aA _ _ | omega | rfl | (intros; first | assumption | exact trivial | rfl | contradiction | ((repeat' (first | assumption | apply anda | apply notf)); done)) | (exact hd) | (intros; exact c3) | (exact hgd) | (exact put_arg p q.2 (l.2 k) ca) | (intro t ht; simp [All, aEt]) | (intros; simp; omega))
  refine piece_ok mixed hc (dLz p l (prG p)) ?_ (lo l.1 0 (by omega))
  simp only [All]
  repeat' (first | exact trivial | with_reducible apply And.intro)
  all_goals (first | exact aP _ _ | exact aA _ _ | omega | rfl | (intros; first | assumption | exact trivial | rfl | contradiction | ((repeat' (first | assumption | apply anda | apply notf)); done)) | (exact c0) | (intro t ht; exact absurd ht (Nat.not_lt_zero _)) | (intro t ht; simp [All, aEt]))
noncomputable def rpD (p : T_Pinned) : T_Pinned × NB := adD p (msP p.1).2 (msP p.1).1
noncomputable def rbB (p : T_Pinned) : Bool := bif pinnedF p then rgB (rpD p).1 else false
noncomputable def rbL (p : T_Pinned) : NB := if rbB p = true then (rpD p).2 else zNB
theorem rbL_n (p : T_Pinned) : (rbL p).1 ≤ 64 := by
  unfold rbL
  split
  · have := adD_n p (msP p.1).2 (msP p.1).1
    have := msP_n p.1
    unfold rpD; omega
  · exact Nat.zero_le _
theorem con_RepairBars_i (p : T_Pinned) (hs : smS s_Pinned p) : Con Tryz.prog 39 0 [] [pinA p] [(0, brOb (rbL p).1 (rbL p).2)] (.tup [.ar 2 0 0 (rbL p).1, .p (.bool (rbB p))]) := by
  have c1 := con_IsPinned_i p hs
  refine con_start Tryz.func39 rfl (by kernel_rfl) rfl (fun c hc => ?_)
  cases hp : pinnedF p with
  | false =>
    rw [hp] at c1
    have hb : rbB p = false := by simp [rbB, hp]
    rw [hb, show rbL p = zNB by simp [rbL, hb]]
    refine path_ok mixed Tryz.func39 hc (rBn p) ?_
    simp only [All]
    repeat' (first | exact trivial | with_reducible apply And.intro)
    all_goals (first | exact aA _ _ | exact aE _ | omega | rfl | (intros; first | assumption | exact trivial | rfl | contradiction | ((repeat' (first | assumption | apply anda | apply notf)); done)) | (exact c1) | (intro t ht; exact absurd ht (Nat.not_lt_zero _)) | (intro t ht; simp [All, aEt]))
  | true =>
    rw [hp] at c1
    have cm := con_Missing_i p.1 (sm_graph hs.1.2.1.1)
    have hmn := msP_n p.1
    have ca := con_added p hp (msP p.1) (by omega)
    have hok := adD_ok p hp (msP p.1).2 (msP p.1).1
    have cg := con_IsPinnedRigid_i (adD p (msP p.1).2 (msP p.1).1).1 (sm_pinned hok.pin)
    have hb : rbB p = rgB (adD p (msP p.1).2 (msP p.1).1).1 := by simp [rbB, hp, rpD]
    have hL : rbL p = if rbB p = true then (adD p (msP p.1).2 (msP p.1).1).2 else zNB := rfl
    rw [hL, hb]
    have hn := adD_n p (msP p.1).2 (msP p.1).1
    generalize adD p (msP p.1).2 (msP p.1).1 = q at ca cg hn ⊢
    generalize msP p.1 = m at cm ca hmn hn
    cases hr : rgB q.1 with
    | false =>
      rw [hr] at cg
      simp only [Bool.false_eq_true, if_false]
      refine path_ok mixed Tryz.func39 hc (rBf p q.1 m.1 q.2.1 m.2 q.2.2) ?_
      simp only [All]
      repeat' (first | exact trivial | with_reducible apply And.intro)
      all_goals (first | exact aA _ _ | exact aE _ | omega | rfl | (intros; first | assumption | exact trivial | rfl | contradiction | ((repeat' (first | assumption | apply anda | apply notf)); done)) | (exact c1) | (exact cm) | (exact ca) | (exact cg) | (intro t ht; exact absurd ht (Nat.not_lt_zero _)) | (intro t ht; simp [All, aEt]))
    | true =>
      rw [hr] at cg
      simp only [if_true]
      refine path_ok mixed Tryz.func39 hc (rBt p q.1 m.1 q.2.1 m.2 q.2.2) ?_
      simp only [All]
      repeat' (first | exact trivial | with_reducible apply And.intro)
      all_goals (first | exact aA _ _ | exact aE _ | omega | rfl | (intros; first | assumption | exact trivial | rfl | contradiction | ((repeat' (first | assumption | apply anda | apply notf)); done)) | (exact c1) | (exact cm) | (exact ca) | (exact cg) | (intro t ht; simp [All, aEt]))
theorem con_RepairBars_s (p : T_Pinned) (hs : smS s_Pinned p) : Con Tryz.prog 28 0 [] [pinA p] [(0, brOb (rbL p).1 (rbL p).2)] (.tup [.ar 2 0 0 (rbL p).1, .p (.bool (rbB p))]) := by
  have c1 := con_IsPinned_s p hs
  refine con_start Tryz.func28 rfl (by kernel_rfl) rfl (fun c hc => ?_)
  cases hp : pinnedF p with
  | false =>
    rw [hp] at c1
    have hb : rbB p = false := by simp [rbB, hp]
    rw [hb, show rbL p = zNB by simp [rbL, hb]]
    refine path_ok mixed Tryz.func28 hc (rDn p) ?_
    simp only [All]
    repeat' (first | exact trivial | with_reducible apply And.intro)
    all_goals (first | exact aA _ _ | exact aE _ | omega | rfl | (intros; first | assumption | exact trivial | rfl | contradiction | ((repeat' (first | assumption | apply anda | apply notf)); done)) | (exact c1) | (intro t ht; exact absurd ht (Nat.not_lt_zero _)) | (intro t ht; simp [All, aEt]))
  | true =>
    rw [hp] at c1
    have cm := con_Missing_s p.1 (sm_graph hs.1.2.1.1)
    have hmn := msP_n p.1
    have ca := con_l28From p hp (msP p.1) (by omega)
    have hok := adD_ok p hp (msP p.1).2 (msP p.1).1
    have hd := ad_arD hp hok
    have hn := adD_n p (msP p.1).2 (msP p.1).1
    have cg := con_IsRepair_s p hs (adD p (msP p.1).2 (msP p.1).1).2 (by omega)
    have hi : irB p (adD p (msP p.1).2 (msP p.1).1).2 = rgB (adD p (msP p.1).2 (msP p.1).1).1 := by simp only [irB, hd.1, hd.2, cond_true]
    rw [hi] at cg
    have hb : rbB p = rgB (adD p (msP p.1).2 (msP p.1).1).1 := by simp [rbB, hp, rpD]
    have hL : rbL p = if rbB p = true then (adD p (msP p.1).2 (msP p.1).1).2 else zNB := rfl
    rw [hL, hb]
    generalize adD p (msP p.1).2 (msP p.1).1 = q at ca cg hn ⊢
    generalize msP p.1 = m at cm ca hmn hn
    cases hr : rgB q.1 with
    | false =>
      rw [hr] at cg
      simp only [Bool.false_eq_true, if_false]
      refine path_ok mixed Tryz.func28 hc (rDf p m.1 q.2.1 m.2 q.2.2) ?_
      simp only [All]
      repeat' (first | exact trivial | with_reducible apply And.intro)
      all_goals (first | exact aA _ _ | exact aE _ | omega | rfl | (intros; first | assumption | exact trivial | rfl | contradiction | ((repeat' (first | assumption | apply anda | apply notf)); done)) | (exact c1) | (exact cm) | (exact ca) | (exact cg) | (intro t ht; exact absurd ht (Nat.not_lt_zero _)) | (intro t ht; simp [All, aEt]))
    | true =>
      rw [hr] at cg
      simp only [if_true]
      refine path_ok mixed Tryz.func28 hc (rDt p m.1 q.2.1 m.2 q.2.2) ?_
      simp only [All]
      repeat' (first | exact trivial | with_reducible apply And.intro)
      all_goals (first | exact aA _ _ | exact aE _ | omega | rfl | (intros; first | assumption | exact trivial | rfl | contradiction | ((repeat' (first | assumption | apply anda | apply notf)); done)) | (exact c1) | (exact cm) | (exact ca) | (exact cg) | (intro t ht; simp [All, aEt]))
end Go.Proofs.YtgdbnnmogddkaaaGreat.Mach
namespace Go.Proofs.YtgdbnnmogddkaaaGreat.Mach
open Go
set_option linter.unusedVariables false
set_option linter.unusedSimpArgs false
def stOt (n : Nat) (f : Nat → ByteArray) : Ob := ⟨false, 1, n, fun i => [.p (.str (f i))]⟩
def stLt (n : Nat) (f : Nat → ByteArray) : AV := .p (.seq true 1 n (fun i => [.str (f i)]))
def kM : ByteArray := ⟨#[109]⟩
def mkF (g f : Nat → ByteArray) (k i : Nat) : ByteArray := if i < k then g i else f i
def STm (m : Int) (o : ByteArray) : St := ⟨[.p (.int .i64 m), .p .any, .p .any, .p (.str o)] ++ List.replicate 16 anyA, [], 0⟩
def STk (n k : Nat) (m : Int) (g f : Nat → ByteArray) : St :=
  ⟨[.ar 1 0 0 n, .p (.int .i64 (m + k)), .p .any, .p .any, .p .any, .p (.int .i64 k)] ++ List.replicate 14 anyA, [(0, stOt n (mkF g f k))], 1⟩
def STh (n k : Nat) (m : Int) (g : Nat → ByteArray) : St :=
  ⟨[stLt n g, .p (.int .i64 (m + k)), .p .any, .p .any, .p .any, .p (.int .i64 k)] ++ List.replicate 16 anyA, [], 0⟩
theorem tMz (k : Int) :
    pieceOb Tryz.prog 0 [rg 1, rg 2, .dec false, rg 1, .head] [.code (bodyOf Tryz.f80)] (start Tryz.f80 [] 0 [.p (.int .i64 k)]) [] 1 (STm k ⟨#[]⟩) =
    some (zf62, [((decide (k ≤ 0)) = false),(AI k),(ByteArray.mk #[] = ByteArray.mk #[])]) := by kernel_rfl
theorem tMa (m : Int) (o o2 : ByteArray) :
    pieceOb Tryz.prog 0 [rg 2, .dec true, rg 9, rg 3, .head] zf62 (STm m o) [] 1 (STm (m / 10) o2) =
    some (zf62, [((decide (m > 0)) = true),(IL 0 m),(IT 0 10),(R0 (48 + m % 10)),(R1 (48 + m % 10)),(IL 0 (48 + m % 10)),(IL (48 + m % 10) 255),(NL 1 1),(okBytes 1 (fun i => [.p (.int .u8 (48 + m % 10))])),(NL ((bytesOf 1 fun i => [AV.p (PV.int IntKind.u8 (48 + m % 10))]).size + o.size) 9223372036854775807),(IL 0 m),(IT 0 10),(R1 (m / 10)),(AI ((m / 10))),((bytesOf 1 fun i => [AV.p (PV.int IntKind.u8 (48 + m % 10))]) ++ o = o2)]) := by kernel_rfl
theorem tMe (m : Int) (o s : ByteArray) :
    pathOb Tryz.prog Tryz.f80 0 [rg 2, .dec false, rg 3] zf62 (STm m o) [] 1 [] (.p (.str s)) =
    some [((decide (m > 0)) = false),(NL ((ByteArray.mk #[109]).size + o.size) 9223372036854775807),(ByteArray.mk #[109] ++ o = s)] := by kernel_rfl
theorem tKz (n : Nat) (m : Int) (g f : Nat → ByteArray) :
    pieceOb Tryz.prog 1 [rg 1, rg 1, .head] [.code (bodyOf Tryz.f44)] (start Tryz.f44 [(0, stOt n f)] 1 [.ar 1 0 0 n, .p (.int .i64 m)]) [0] 1 (STk n 0 m g f) =
    some (zf95, [(AN 0),(AN n),((m : Int) = (m + (↑0 : Int))),((0 : Int) = (↑0 : Int)),(AN 1),(NL n n),(∀ i : Nat, (((i : Nat) < n) → (All [] ∧ (([.p (.str (f i))] : List AV) = [.p (.str (mkF g f 0 i))]))))]) := by kernel_rfl
theorem tKa (n k : Nat) (m : Int) (g f : Nat → ByteArray) :
    pieceOb Tryz.prog 1 [rg 4, .dec true, rm [(3, oc [] (.p (.str (g k))))] 2, rg 3, rg 3, .head] zf95 (STk n k m g f) [0] 1 (STk n (k + 1) m g f) =
    some (zf95, [((decide ((↑k : Int) < (↑n : Int))) = true),Con Tryz.prog 80 0 [] [.p (.int .i64 (m + (↑k : Int)))] [] (.p (.str (g k))),(IL 0 (↑k : Int)),(IT (↑k : Int) (↑n : Int)),(NT k n),((false = true) →  ((n : Nat) = 1)),(R0 (m + (↑k : Int) + 1)),(R1 (m + (↑k : Int) + 1)),(R0 ((↑k : Int) + 1)),(R1 ((↑k : Int) + 1)),(AN 0),(AN n),(((m + (↑k : Int) + 1) : Int) = (m + (↑(k + 1) : Int))),((((↑k : Int) + 1) : Int) = (↑(k + 1) : Int)),(AN 1),(NL n n),(CV [(0, ⟨false, 1, n, (fun i_1 => (if (i_1 = k) then [.p (.str (g k))] else [.p (.str (mkF g f k i_1))]))⟩)] [0] 1 n (fun i => if (i = k) then [.p (.str (g k))] else [.p (.str (mkF g f k i))]) (fun i => [.p (.str (mkF g f (k + 1) i))]))]) := by kernel_rfl
theorem tKe (n k : Nat) (m : Int) (g f : Nat → ByteArray) :
    pathOb Tryz.prog Tryz.f44 1 [rg 4, .dec false, rg 2] zf95 (STk n k m g f) [0] 1 [(0, stOt n g)] (.p (.int .i64 (m + k))) =
    some [((decide ((↑k : Int) < (↑n : Int))) = false),(AI ((m + (↑k : Int)))),(AN 1),(NL n n),(∀ i : Nat, (((i : Nat) < n) → (All [] ∧ (([.p (.str (mkF g f k i))] : List AV) = [.p (.str (g i))])))),(AE n)] := by kernel_rfl
theorem tHz (n : Nat) (m : Int) (g : Nat → ByteArray) :
    pieceOb Tryz.prog 0 [rg 1, rg 1, .head] [.code (bodyOf Tryz.f46)] (start Tryz.f46 [] 0 [stLt n g, .p (.int .i64 m)]) [] 1 (STh n 0 m g) =
    some (zf96, [(AN n),(AP n (fun i => [.str (g i)])),((m : Int) = (m + (↑0 : Int))),((0 : Int) = (↑0 : Int))]) := by kernel_rfl
theorem tHa (n k : Nat) (m : Int) (g : Nat → ByteArray) :
    pieceOb Tryz.prog 0 [rg 4, .dec true, rm [(5, oc [] (.p (.str (g k))))] 1, .dec false, rg 3, rg 3, .head] zf96 (STh n k m g) [] 1 (STh n (k + 1) m g) =
    some (zf96, [((decide ((↑k : Int) < (↑n : Int))) = true),(IL 0 (↑k : Int)),(IT (↑k : Int) (↑n : Int)),Con Tryz.prog 80 0 [] [.p (.int .i64 (m + (↑k : Int)))] [] (.p (.str (g k))),((!(g k).toList == (g k).toList) = false),(R0 (m + (↑k : Int) + 1)),(R1 (m + (↑k : Int) + 1)),(R0 ((↑k : Int) + 1)),(R1 ((↑k : Int) + 1)),(AN n),(AP n (fun i => [.str (g i)])),(((m + (↑k : Int) + 1) : Int) = (m + (↑(k + 1) : Int))),((((↑k : Int) + 1) : Int) = (↑(k + 1) : Int))]) := by kernel_rfl
theorem tHe (n k : Nat) (m : Int) (g : Nat → ByteArray) :
    pathOb Tryz.prog Tryz.f46 0 [rg 4, .dec false, rg 2] zf96 (STh n k m g) [] 1 [] (.p (.int .i64 (m + k))) =
    some [((decide ((↑k : Int) < (↑n : Int))) = false),(AI ((m + (↑k : Int))))] := by kernel_rfl
def mtB (k : Int) : ByteArray := kM ++ bs (dg 20 k.natAbs).reverse
theorem con_markText (k : Int) (h0 : 0 < k) (h1 : k ≤ 9223372036854775807) : Con Tryz.prog 80 0 [] [.p (.int .i64 k)] [] (.p (.str (mtB k))) := by
  refine con_start Tryz.func80 rfl (by kernel_rfl) rfl (fun c hc => ?_)
  have hz : decide (k ≤ 0) = false := decide_eq_false (by omega)
  have lp : ∀ f m l, l.length + f = 20 → m.natAbs < 10 ^ f → dg 20 k.natAbs = l ++ dg f m.natAbs → 0 ≤ m → m ≤ 9223372036854775807 →
      Run Tryz.prog c 80 zf62 (STm m (bs l.reverse)) (Post c [] (.p (.str (mtB k)))) := by
    have fin : ∀ l, dg 20 k.natAbs = l → l.length ≤ 20 → Run Tryz.prog c 80 zf62 (STm 0 (bs l.reverse)) (Post c [] (.p (.str (mtB k)))) := by
      intro l hl hl2
      have hsz := bs_size l.reverse
      rw [List.length_reverse] at hsz
      refine path_ok mixed Tryz.func80 hc (tMe 0 (bs l.reverse) (mtB k)) ?_
      simp only [All]
      repeat' (first | exact trivial | with_reducible apply And.intro)
      all_goals (first | omega | rfl | (intros; first | assumption | exact trivial | rfl | contradiction | ((repeat' (first | assumption | apply anda | apply notf)); done)) | (show _ + (bs l.reverse).size ≤ _; rw [hsz]; show 1 + l.length ≤ _; omega) | (rw [mtB, hl]; rfl))
    intro f
    induction f with
    | zero =>
      intro m l hl hm hd hs hb
      obtain rfl : m = 0 := by simp at hm; omega
      exact fin l (by rw [hd]; simp [dg]) (by omega)
    | succ f ih =>
      intro m l hl hm hd hs hb
      by_cases hm0 : m = 0
      · subst hm0
        exact fin l (by rw [hd]; simp [dg]) (by omega)
      have hmt : decide (m > 0) = true := decide_eq_true (by omega)
      have hma : m.natAbs ≠ 0 := by omega
      have hdiv : (m / 10).natAbs = m.natAbs / 10 := by omega
      have hrec := ih (m / 10) (l ++ [48 + ((m.natAbs % 10 : Nat) : Int)]) (by simp; omega) (by rw [hdiv]; rw [Nat.pow_succ] at hm; omega) (by rw [hd, hdiv, dg, if_neg hma]; simp) (by omega) (by omega)
      have hmod : m % 10 = ((m.natAbs % 10 : Nat) : Int) := by omega
      have hsz := bs_size l.reverse
      rw [List.length_reverse] at hsz
      have hout : bs [48 + m % 10] ++ bs l.reverse = bs (l ++ [48 + ((m.natAbs % 10 : Nat) : Int)]).reverse := by
        rw [List.reverse_append, bs_append, hmod]; rfl
      refine piece_ok mixed hc (tMa m (bs l.reverse) (bs (l ++ [48 + ((m.natAbs % 10 : Nat) : Int)]).reverse)) ?_ hrec
      simp only [All]
      repeat' (first | exact trivial | with_reducible apply And.intro)
      all_goals (first | omega | rfl | (intros; first | assumption | exact trivial | rfl | contradiction | ((repeat' (first | assumption | apply anda | apply notf)); done)) | (exact hmt) | (intro i hi; exact ⟨_, rfl⟩) | (show (bs [48 + m % 10]).size + (bs l.reverse).size ≤ _; rw [hsz, bs_size]; show 1 + l.length ≤ _; omega) | (exact hout) | (simp only [imin, imax]; omega))
  refine piece_ok mixed hc (tMz k) ?_ (lp 20 k [] rfl (by omega) rfl (by omega) h1)
  simp only [All]
  repeat' (first | exact trivial | with_reducible apply And.intro)
  all_goals (first | omega | rfl | (intros; first | assumption | exact trivial | rfl | contradiction | ((repeat' (first | assumption | apply anda | apply notf)); done)) | (exact hz) | rfl)
theorem con_markTexts (n : Nat) (f : Nat → ByteArray) (m : Int) (hn : n ≤ 1048576) (h0 : 0 < m) (h1 : m ≤ 1099511627776) :
    Con Tryz.prog 44 1 [(0, stOt n f)] [.ar 1 0 0 n, .p (.int .i64 m)] [(0, stOt n (fun i => mtB (m + i)))] (.p (.int .i64 (m + n))) := by
  refine con_start Tryz.func44 rfl (by kernel_rfl) rfl (fun c hc => ?_)
  have lo : ∀ d k, k + d = n → Run Tryz.prog c 44 zf95 (STk n k m (fun i => mtB (m + i)) f) (Post c [(0, stOt n (fun i => mtB (m + i)))] (.p (.int .i64 (m + n)))) := by
    intro d
    induction d with
    | zero =>
      intro k hk
      obtain rfl : k = n := by omega
      have hd : decide ((k : Int) < (k : Int)) = false := by simp
      refine path_ok mixed Tryz.func44 hc (tKe k k m (fun i => mtB (m + i)) f) ?_
      simp only [All]
      repeat' (first | exact trivial | with_reducible apply And.intro)
      all_goals (first | exact aE _ | omega | rfl | (intros; first | assumption | exact trivial | rfl | contradiction | ((repeat' (first | assumption | apply anda | apply notf)); done)) | (exact hd) | (intro t ht; simp [mkF, ht, cvtL, cvt, tg, tru, All]; done) | (intros; simp [All, aEt, ntAL, ntA, ntP, ntL]; done))
    | succ d ih =>
      intro k hk
      have hd : decide ((k : Int) < (n : Int)) = true := decide_eq_true (by omega)
      have ct := con_markText (m + k) (by omega) (by omega)
      refine piece_ok mixed hc (tKa n k m (fun i => mtB (m + i)) f) ?_ (ih (k + 1) (by omega))
      simp only [All]
      repeat' (first | exact trivial | with_reducible apply And.intro)
      all_goals (first | omega | rfl | (intros; first | assumption | exact trivial | rfl | contradiction | ((repeat' (first | assumption | apply anda | apply notf)); done)) | (exact hd) | (exact ct) | (intro t ht; by_cases h1 : t = k; (subst h1; simp [mkF, cvtL, cvt, tg, tru, All]); (simp [h1, mkF, show (t < k + 1) = (t < k) by (apply propext; omega), cvtL, cvt, tg, tru, All])))
  refine piece_ok mixed hc (tKz n m (fun i => mtB (m + i)) f) ?_ (lo n 0 (by omega))
  simp only [All]
  repeat' (first | exact trivial | with_reducible apply And.intro)
  all_goals (first | omega | rfl | (intros; first | assumption | exact trivial | rfl | contradiction | ((repeat' (first | assumption | apply anda | apply notf)); done)) | (intro t ht; simp [mkF, cvtL, cvt, tg, tru, All]))
theorem con_heldTexts (n : Nat) (m : Int) (hn : n ≤ 1048576) (h0 : 0 < m) (h1 : m ≤ 1099511627776) :
    Con Tryz.prog 46 0 [] [stLt n (fun i => mtB (m + i)), .p (.int .i64 m)] [] (.p (.int .i64 (m + n))) := by
  refine con_start Tryz.func46 rfl (by kernel_rfl) rfl (fun c hc => ?_)
  have lo : ∀ d k, k + d = n → Run Tryz.prog c 46 zf96 (STh n k m (fun i => mtB (m + i))) (Post c [] (.p (.int .i64 (m + n)))) := by
    intro d
    induction d with
    | zero =>
      intro k hk
      obtain rfl : k = n := by omega
      have hd : decide ((k : Int) < (k : Int)) = false := by simp
      refine path_ok mixed Tryz.func46 hc (tHe k k m (fun i => mtB (m + i))) ?_
      simp only [All]
      repeat' (first | exact trivial | with_reducible apply And.intro)
      all_goals (first | omega | rfl | (intros; first | assumption | exact trivial | rfl | contradiction | ((repeat' (first | assumption | apply anda | apply notf)); done)) | (exact hd))
    | succ d ih =>
      intro k hk
      have hd : decide ((k : Int) < (n : Int)) = true := decide_eq_true (by omega)
      have ct := con_markText (m + k) (by omega) (by omega)
      refine piece_ok mixed hc (tHa n k m (fun i => mtB (m + i))) ?_ (ih (k + 1) (by omega))
      simp only [All]
      repeat' (first | exact trivial | with_reducible apply And.intro)
      all_goals (first | exact aP _ _ | omega | rfl | (intros; first | assumption | exact trivial | rfl | contradiction | ((repeat' (first | assumption | apply anda | apply notf)); done)) | (exact hd) | (exact ct) | (simp; done) | (intro t ht; simp [All, aEt]))
  refine piece_ok mixed hc (tHz n m (fun i => mtB (m + i))) ?_ (lo n 0 (by omega))
  simp only [All]
  repeat' (first | exact trivial | with_reducible apply And.intro)
  all_goals (first | exact aP _ _ | omega | rfl | (intros; first | assumption | exact trivial | rfl | contradiction | ((repeat' (first | assumption | apply anda | apply notf)); done)) | (intro t ht; simp [All, aEt]))
end Go.Proofs.YtgdbnnmogddkaaaGreat.Mach
