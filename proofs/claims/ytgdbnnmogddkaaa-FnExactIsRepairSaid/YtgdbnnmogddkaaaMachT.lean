/- The abstract machine: whole paths. Conditions: as in MachD. -/
import Derived.Test.YtgdbnnmogddkaaaMachS
namespace Go.Proofs.Ytgdbnnmogddkaaa.Mach
open Go
set_option linter.unusedVariables false
set_option linter.unusedSimpArgs false

def bodyOf (fn : Func) : Code := fn.body.getD .skip

def oT : OpS := ⟨true, none, none⟩
def oF : OpS := ⟨false, none, none⟩

def isRet : List Item → Bool
  | [] => true
  | .code .ret :: _ => true
  | _ => false

def start (fn : Func) (H : Hp) (n : Nat) (args : List AV) : St := ⟨args ++ List.replicate (fn.ntmps - args.length) anyA, H, n⟩

/-- A path to the end of the call. -/
def pathOb (P : Program) (fn : Func) (n : Nat) (sc : List ScI) (k : List Item) (st : St) (keep : List Nat) (d : Nat) (H' : Hp) (res : AV) : Option (List Prop) :=
  match runTo P 10000 sc k st with
  | some (k', st', ob) => if isRet k' then some (ob ++ retOb n P fn.results.toList st' keep d H' res) else none
  | none => none

/-- A path to the head of a round. -/
def pieceOb (P : Program) (n : Nat) (sc : List ScI) (k : List Item) (st : St) (keep : List Nat) (d : Nat) (st2 : St) : Option (List Item × List Prop) :=
  match runTo P 10000 sc k st with
  | some (k', st', ob) => some (k', ob ++ convOb n st' keep d st2)
  | none => none

section
variable {P : Program} {c : Cx} {f : FuncId} {R : Ending → World → Prop}

theorem path_ok {fn : Func} {n : Nat} {sc : List ScI} {k : List Item} {st : St} {keep : List Nat} {d : Nat} {H' : Hp} {res : AV} {ob : List Prop} (hm : P.follows .mixedOrders = true) (hf : P.funcs[f]? = some fn) (hc : c.n = n)
    (h : pathOb P fn n sc k st keep d H' res = some ob) (hob : All ob) : Run P c f k st (Post c H' res) := by
  unfold pathOb at h
  split at h
  case h_2 => cases h
  rename_i k' st' ob' hr
  split at h
  case isFalse => cases h
  rename_i hret
  simp only [Option.some.injEq] at h
  subst h
  obtain ⟨h1, h2⟩ := All_app hob
  refine runTo_ok hm _ _ _ _ _ _ _ hr ((All_iff _).1 h1) (ret_ok hf ?_ (by rw [hc]; exact h2))
  unfold isRet at hret
  split at hret
  · exact .inl rfl
  · exact .inr ⟨_, rfl⟩
  · cases hret

theorem piece_ok {n : Nat} {sc : List ScI} {k k2 : List Item} {st st2 : St} {keep : List Nat} {d : Nat} {ob : List Prop} (hm : P.follows .mixedOrders = true) (hc : c.n = n)
    (h : pieceOb P n sc k st keep d st2 = some (k2, ob)) (hob : All ob) (hr : Run P c f k2 st2 R) : Run P c f k st R := by
  unfold pieceOb at h
  split at h
  case h_2 => cases h
  rename_i k' st' ob' hr'
  simp only [Option.some.injEq, Prod.mk.injEq] at h
  obtain ⟨rfl, rfl⟩ := h
  obtain ⟨h1, h2⟩ := All_app hob
  exact runTo_ok hm _ _ _ _ _ _ _ hr' ((All_iff _).1 h1) (conv_ok keep d (by rw [hc]; exact h2) hr)

/-- A contract out of a run from the start. -/
theorem con_start {fn : Func} (hf : P.funcs[f]? = some fn) (hb : fn.body = some (bodyOf fn)) (hen : enterable P f = true) {n : Nat} {H H' : Hp} {args : List AV} {res : AV}
    (hkeys : (H.all fun e => Nat.blt e.1 n) = true) (hrun : ∀ c : Cx, c.n = n → Run P c f [.code (bodyOf fn)] (start fn H n args) (Post c H' res)) : Con P f n H args H' res :=
  con_of_run hf hb hen hkeys hrun

end
end Go.Proofs.Ytgdbnnmogddkaaa.Mach
