/- The abstract machine: any one operation but a call of a Go function. Conditions: as in MachD. -/
import Derived.Test.YtgdbnnmogddkaaaMachJ
namespace Go.Proofs.Ytgdbnnmogddkaaa.Mach
open Go
set_option linter.unusedVariables false
set_option linter.unusedSimpArgs false

section
variable {X : Nat → Prop} {P : Program} {w : World} {β : Nat → Option Addr} {H : Hp}

theorem optR_map {own : Bool → Nat → Prop} {ρ : Operand → AV} {ev : Operand → Value} (hρ : ∀ x, VR w β own (ρ x) (ev x)) (x : Option Operand) :
    OptR (VR w β own) (x.map ρ) (x.map ev) := by
  cases x with
  | none => exact trivial
  | some x => exact hρ x

theorem parts_map {own : Bool → Nat → Prop} {ρ : Operand → AV} {ev : Operand → Value} (hρ : ∀ x, VR w β own (ρ x) (ev x)) (ps : Array (Nat × Operand)) :
    (ps.toList.map fun p => (p.1, ρ p.2)).length = (ps.map fun (i, x) => (i, ev x)).toList.length ∧
    ∀ (j : Nat) (p : Nat × AV) (p' : Nat × Value), (ps.toList.map fun p => (p.1, ρ p.2))[j]? = some p → (ps.map fun (i, x) => (i, ev x)).toList[j]? = some p' → p.1 = p'.1 ∧ VR w β own p.2 p'.2 := by
  refine ⟨by simp, fun j p p' h1 h2 => ?_⟩
  simp only [List.getElem?_map, Array.toList_map] at h1 h2
  cases hj : ps.toList[j]? with
  | none => rw [hj] at h1; cases h1
  | some q =>
    rw [hj] at h1 h2
    simp only [Option.map_some, Option.some.injEq] at h1 h2
    subst h1
    subst h2
    exact ⟨rfl, hρ _⟩

theorem evStr_ok {L : Hp} {s d el : TypeId} {x : AV} {xv : Value} {e : Eff} (hH : HR w β (ow X β H) H) (hL : ∀ o ob, L.lookup o = some ob → H.lookup o = some ob)
    (hs : P.underlying s = some (.slice el)) (hd : P.underlying d = some .string) (he : evStr P L el x = some e) (hob : ∀ p ∈ e.ob, p) (hx : VR w β (ow X β H) x xv) :
    e.wr = [] ∧ ∃ v, (convert s d xv).run P w = .ok v w ∧ VR w β (ow X β H) e.v v := by
  unfold evStr at he
  split at he
  case h_2 => cases he
  rename_i m fx ob hel hr
  simp only [Option.some.injEq] at he
  subst he
  refine ⟨rfl, .string (bytesOf m fx), ?_, .p _ _ (.str _)⟩
  obtain ⟨news, cx⟩ := rows_ok (P := P) hH hL hr (fun p hp => hob p (by simp [hp])) hx
  have hby : okBytes m fx := hob _ (by simp)
  have hnews : news = (((List.range m).map fun i => byteI (fx i)).map (Value.int .u8)).toArray := by
    apply Array.ext_getElem?
    intro i
    rcases Nat.lt_or_ge i m with hi | hi
    · obtain ⟨u, h1, _, h3⟩ := cx.cell i hi 0 (Nat.zero_lt_one)
      obtain ⟨n, hn⟩ := hby i hi
      rw [hn] at h3
      have hu : u = .int .u8 n := by
        cases h3 with
        | p _ _ hp => cases hp; rfl
      rw [Nat.mul_one, Nat.add_zero] at h1
      rw [h1, hu]
      simp [hi, hn, byteI]
    · rw [Array.getElem?_eq_none (by rw [cx.size]; omega), Array.getElem?_eq_none (by simp; omega)]
  obtain ⟨a, n, c, rfl⟩ : ∃ a n c, xv = .slice a n c := by
    unfold rowsOf at hr
    split at hr
    · cases hx; rename_i hp; cases hp; exact ⟨_, _, _, rfl⟩
    · cases hx; rename_i hp; cases hp <;> exact ⟨_, _, _, rfl⟩
    · cases hx <;> exact ⟨_, _, _, rfl⟩
    · cases hr
  have hlen : n = m := by
    have := cx.len w
    simpa [Builtin.lenOf] using this
  subst hlen
  rw [run_convert_bytes_string w s d el a n c hs hel hd]
  cases a with
  | none =>
    have h0 := cx.run w rfl
    have hz : news = #[] := by simpa [Builtin.firstCells] using h0.symm
    have h1 := cx.size
    rw [hz] at h1
    obtain rfl : n = 0 := by simpa using h1.symm
    rfl
  | some a =>
    refine run_bytesToString w a n c _ ?_
    rw [← hnews]
    have := cx.run w rfl
    simpa [Builtin.firstCells] using this

set_option maxHeartbeats 1000000 in
theorem opEval_ok {k : Nat} {nw : Bool} {L : Hp} {o : Oper} {a : Act} {ρ : Operand → AV} {e : Eff} (hH : HR w β (ow X β H) H) (hS : Sep β H) (hβ : β k = none)
    (hL : ∀ o ob, L.lookup o = some ob → H.lookup o = some ob) (hρ : ∀ x, VR w β (ow X β H) (ρ x) (a.eval x))
    (he : opEval P k nw L ρ o.op = some e) (hob : ∀ p ∈ e.ob, p) : OpRes X P (execOp a.eval o) w β H e k := by
  have pure' : ∀ {s : Sem Value} {e : Eff}, (e.wr = [] ∧ ∃ v, s.run P w = .ok v w ∧ VR w β (ow X β H) e.v v) → OpRes X P (do pure (Next.value (← s))) w β H e k := by
    rintro s e ⟨h1, v, h2, h3⟩
    exact OpRes.pure hH hS h1 (by simp [h2]) h3
  have make' : ∀ {s : Sem Value} {e : Eff}, (∃ v w' β', s.run P w = .ok v w' ∧ Placed X w β H w' β' (happ H e.wr) k ∧ VR w' β' (ow X β' (happ H e.wr)) e.v v) → OpRes X P (do pure (Next.value (← s))) w β H e k := by
    rintro s e ⟨v, w', β', h1, h2, h3⟩
    exact ⟨v, w', β', .inl (by simp [h1]), h2, h3⟩
  obtain ⟨dst, op, type, pos, after, guard⟩ := o
  simp only at he
  unfold opEval at he
  split at he
  · -- move
    simp only [Option.some.injEq] at he
    subst he
    exact OpRes.pure hH hS rfl rfl (hρ _)
  · simp only [Option.some.injEq] at he
    subst he
    exact OpRes.pure hH hS rfl rfl (hρ _)
  · -- pick
    rename_i c x y
    split at he
    case h_2 => cases he
    rename_i b hc
    have hcr := hρ c
    rw [hc] at hcr
    obtain ⟨h1, h2⟩ := evPick_ok he hob (hρ x) (hρ y)
    generalize hce : a.eval c = cv at hcr
    cases hcr; rename_i hp; cases hp
    refine OpRes.pure hH hS h1 (v := if b then a.eval x else a.eval y) ?_ h2
    simp [execOp, hce, asBool]
  · -- alloc
    rename_i el
    split at he
    case h_2 => cases he
    rename_i i hi
    cases hz : zeroCells i with
    | none => rw [hz] at he; cases he
    | some cs =>
      rw [hz] at he
      simp only [Option.map_some, Option.some.injEq] at he
      subst he
      obtain ⟨z, h1, h2, hcr⟩ := zero_CR (w := w) (β := β) hz (ow X β H)
      obtain ⟨w', g1, g2⟩ := newVar_ok (P := P) hH hS hβ el z hcr.1 hcr.2
      refine ⟨.pointer (some ⟨w.heap.size, 0, none⟩), w', _, .inl ?_, g2, ?_⟩
      · simp [execOp, Instr.alloc, run_zero hi h1, g1]
      · have : VR w' (upd β k ⟨w.heap.size, 0, none⟩) (ow X (upd β k ⟨w.heap.size, 0, none⟩) (happ H [(k, some ⟨true, cs.length, 1, fun _ => cs⟩)])) (.pt cs.length k 0 0) (.pointer (some ⟨w.heap.size, 0 + (0 * cs.length + 0), none⟩)) :=
          .pt _ _ _ _ _ _ (by simp [upd])
        simpa using this
  · -- box
    rename_i el x
    cases hc : (ρ x).cells with
    | none => rw [hc] at he; cases he
    | some cs =>
      rw [hc] at he
      simp only [Option.map_some, Option.some.injEq] at he
      subst he
      obtain ⟨h1, h2⟩ := cells_rel (hρ x) hc
      obtain ⟨w', g1, g2⟩ := newVar_ok (P := P) hH hS hβ el (a.eval x) h1 h2
      refine ⟨.pointer (some ⟨w.heap.size, 0, none⟩), w', _, .inl ?_, g2, ?_⟩
      · simp [execOp, Instr.box, g1]
      · have : VR w' (upd β k ⟨w.heap.size, 0, none⟩) (ow X (upd β k ⟨w.heap.size, 0, none⟩) (happ H [(k, some ⟨true, cs.length, 1, fun _ => cs⟩)])) (.pt cs.length k 0 0) (.pointer (some ⟨w.heap.size, 0 + (0 * cs.length + 0), none⟩)) :=
          .pt _ _ _ _ _ _ (by simp [upd])
        simpa using this
  · -- build
    rename_i t ps
    obtain ⟨h1, h2⟩ := parts_map hρ ps
    exact pure' (evBuild_ok he h1 h2)
  · rename_i t len ps
    obtain ⟨h1, h2⟩ := parts_map hρ ps
    exact make' (evBuildSlice_ok hH hS hβ he h1 h2)
  · -- load
    rename_i t x
    exact pure' (evLoad_ok hH hS hL he hob (hρ x))
  · -- store
    rename_i t x y
    obtain ⟨w', h1, h2, h3⟩ := evStore_ok hH hS hL he hob (hρ x) (hρ y) k
    refine ⟨undef, w', β, .inr ⟨by simp [execOp, h1], rfl⟩, h2, ?_⟩
    rw [h3]
    exact .any _
  · -- nilCheck
    rename_i x
    have hx := hρ x
    split at he
    · rename_i z oo row off hx'
      simp only [Option.some.injEq] at he
      subst he
      rw [hx'] at hx
      generalize hce : a.eval x = xv at hx
      cases hx
      rename_i b base hb
      exact OpRes.pure hH hS rfl (by simp only [execOp, hce]; rfl) (.pt _ _ _ _ _ _ hb)
    · rename_i tg cs hx'
      simp only [Option.some.injEq] at he
      subst he
      rw [hx'] at hx
      generalize hce : a.eval x = xv at hx
      have hx2 := hx
      cases hx
      exact OpRes.pure hH hS rfl (by simp only [execOp, hce]; rfl) hx2
    · cases he
  · -- binOp
    rename_i bop t x y yt
    obtain ⟨h1, v, h2, h3⟩ := evBin_ok he hob (hρ x) (hρ y)
    exact OpRes.pure hH hS h1 (by simp [execOp, eqGuard_ok (x := x) (y := y) (hρ x) (hρ y) he, h2]) h3
  · -- unOp
    rename_i uop t x
    have hx := hρ x
    split at he
    · rename_i b hx'
      simp only [Option.some.injEq] at he
      subst he
      rw [hx'] at hx
      generalize hce : a.eval x = xv at hx
      cases hx; rename_i hp; cases hp
      exact OpRes.pure hH hS rfl (by simp only [execOp, hce]; rfl) (.p _ _ (.bool _))
    · rename_i kk n hx'
      rw [hx'] at hx
      generalize hce : a.eval x = xv at hx
      cases hx; rename_i hp; cases hp
      simp only [binI, Option.map_some, Option.some.injEq] at he
      subst he
      exact OpRes.pure hH hS rfl (by simp only [execOp, hce]; rfl) (.p _ _ (wr1_ok hob (ow X β H)))
    · cases he
  · -- convert
    rename_i s d x
    have hx := hρ x
    split at he
    · rename_i d1 kk kn n hs hd hx'
      rw [hx'] at hx
      generalize hce : a.eval x = xv at hx
      cases hx; rename_i hp; cases hp
      simp only [Option.some.injEq] at he
      subst he
      refine OpRes.pure hH hS rfl (v := .int kk (kk.wrap n)) ?_ (.p _ _ (wr1_ok hob (ow X β H)))
      simp only [execOp, hce, convert, Sem.run_bind, run_underlying hs, run_underlying hd, Result.andThen_ok, Conv.intToInt, Sem.run_pure]
    · rename_i el hs hd
      obtain ⟨h1, v, h2, h3⟩ := evStr_ok hH hL hs hd he hob hx
      refine OpRes.pure hH hS h1 (v := v) ?_ h3
      simp only [execOp, Sem.run_bind, h2, Result.andThen_ok, Sem.run_pure]
    · cases he
  · -- makeSlice
    rename_i t x y
    exact make' (evMake_ok hH hS hβ he hob (hρ x) (hρ y))
  · -- slice
    rename_i t x lo hi
    exact pure' (evSlice_ok he hob (hρ x) (optR_map hρ lo) (optR_map hρ hi))
  · rename_i s x f
    exact pure' (evFieldAddr_ok he (hρ x))
  · rename_i s x f
    exact pure' (evField_ok he (hρ x))
  · rename_i t x i
    exact pure' (evIndexAddr_ok he hob (hρ x) (hρ i))
  · rename_i t x i
    exact pure' (evIndex_ok he hob (hρ x) (hρ i))
  · -- extract
    rename_i x i
    have hx := hρ x
    split at he
    case h_2 => cases he
    rename_i vs hx'
    rw [hx'] at hx
    split at he
    case isFalse => cases he
    rename_i hlt
    simp only [Nat.blt_eq] at hlt
    simp only [Option.some.injEq] at he
    subst he
    generalize hce : a.eval x = xv at hx
    cases hx
    rename_i ws hl h
    refine OpRes.pure hH hS rfl (v := ws.getD i undef) ?_ (h i hlt)
    have : i < ws.size := by omega
    simp [execOp, hce, Instr.extract, this, Array.getD_eq_getD_getElem?]
  · -- makeFunc
    rename_i fn first captured
    split at he
    case h_2 => cases he
    rename_i f
    split at he
    case isFalse => cases he
    rename_i hz
    simp only [Bool.and_eq_true, beq_iff_eq, Array.size_eq_zero_iff] at hz
    obtain ⟨rfl, rfl⟩ := hz
    simp only [Option.some.injEq] at he
    subst he
    exact OpRes.pure (v := .func (.func f) #[] #[]) hH hS rfl (by simp [execOp, Instr.makeFunc]) (.p _ _ (.fn _))
  · -- makeMap
    rename_i t
    simp only [Option.some.injEq] at he
    subst he
    exact make' (makeMap_ok hH hS hβ t)
  · -- insert
    rename_i t m kk v
    obtain ⟨w', h1, h2, h3⟩ := evMapPut_ok (P := P) hH hS hL he hob (hρ m) (hρ kk) (hρ v) k
    refine ⟨undef, w', β, .inr ⟨by simp [execOp, h1], rfl⟩, h2, ?_⟩
    rw [h3]
    exact .any _
  · -- mapUpdate
    rename_i t m kk v
    obtain ⟨w', h1, h2, h3⟩ := evMapPut_ok (P := P) hH hS hL he hob (hρ m) (hρ kk) (hρ v) k
    refine ⟨undef, w', β, .inr ⟨by simp [execOp, h1], rfl⟩, h2, ?_⟩
    rw [h3]
    exact .any _
  · -- lookup
    rename_i t m kk ok
    exact pure' (evLookup_ok hH hL he (hρ m) (hρ kk))
  · -- builtins
    rename_i c
    obtain ⟨callee, args, ts⟩ := c
    simp only at he
    split at he
    case h_2 => cases he
    rename_i b
    have hrun : ∀ vs : Array Value, args.map a.eval = vs → execOp a.eval ⟨dst, .call { callee := .builtin b, args := args, argTypes := ts }, type, pos, after, guard⟩ =
        builtin b ts type (args.map fun | .const _ => true | _ => false) vs := by
      intro vs hv
      subst hv
      rfl
    unfold evBuiltin at he
    split at he
    · rename_i av hargs
      have : ∃ x, args = #[x] ∧ ρ x = av := by
        cases h : args.toList with
        | nil => rw [h] at hargs; cases hargs
        | cons x r =>
          rw [h] at hargs
          cases r with
          | nil => exact ⟨x, by rw [← Array.toArray_toList (xs := args), h], by simpa using hargs⟩
          | cons y r => simp at hargs
      obtain ⟨x, rfl, rfl⟩ := this
      split at he
      case h_2 => cases he
      rename_i t hts
      obtain ⟨h1, v, h2, h3⟩ := evLen_ok (P := P) type he (hρ x)
      refine OpRes.pure hH hS h1 ?_ h3
      have e : ts = #[t] := by rw [← Array.toArray_toList (xs := ts), hts]
      rw [hrun #[a.eval x] (by simp)]
      simp [builtin, e, h2]
    · rename_i av bv hargs
      have : ∃ x y, args = #[x, y] ∧ ρ x = av ∧ ρ y = bv := by
        cases h : args.toList with
        | nil => rw [h] at hargs; cases hargs
        | cons x r =>
          rw [h] at hargs
          cases r with
          | nil => simp at hargs
          | cons y r =>
            cases r with
            | nil =>
              simp only [List.map_cons, List.map_nil, List.cons.injEq, and_true] at hargs
              exact ⟨x, y, by rw [← Array.toArray_toList (xs := args), h], hargs.1, hargs.2⟩
            | cons z r => simp at hargs
      obtain ⟨x, y, rfl, rfl, rfl⟩ := this
      rw [hrun #[a.eval x, a.eval y] (by simp)]
      split at he
      · split at he
        case h_2 => cases he
        rename_i t t' hts
        obtain ⟨v, w', β', h1, h2, h3⟩ := evAppend_ok (ty := type) hH hS hβ hL he hob (hρ x) (hρ y)
        have e : ts = #[t, t'] := by rw [← Array.toArray_toList (xs := ts), hts]
        exact ⟨v, w', β', .inl (by simp [builtin, e, h1]), h2, h3⟩
      · obtain ⟨h1, v, h2, h3⟩ := evMinMax_ok (P := P) ts type he (hρ x) (hρ y)
        simp only [Bool.false_eq_true, if_false] at h2
        exact OpRes.pure hH hS h1 (by simp [builtin, h2]) h3
      · obtain ⟨h1, v, h2, h3⟩ := evMinMax_ok (P := P) ts type he (hρ x) (hρ y)
        simp only [if_true] at h2
        exact OpRes.pure hH hS h1 (by simp [builtin, h2]) h3
      · cases he
    · cases he
  · cases he

end
end Go.Proofs.Ytgdbnnmogddkaaa.Mach
