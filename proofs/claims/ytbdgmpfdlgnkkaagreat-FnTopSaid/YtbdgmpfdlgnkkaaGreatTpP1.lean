/- What the law Tp needs, part 1 of 7: the abstract machine and the contracts of the functions. Conditions: as each theorem says. -/
import Derived.WalkKit
import Derived.Laws.StructEq
set_option linter.unusedVariables false
set_option linter.unusedSimpArgs false
namespace Go.Proofs.YtbdgmpfdlgnkkaaGreat.Mach
open Go
inductive PV where
  | any
  | int (k:IntKind) (n:Int)
  | bool (b:Bool)
  | str (s:ByteArray)
  | nil
  | seq (t:Bool) (z n:Nat) (f:Nat→List PV)
  | fn (f:FuncId)
structure Id where
  o:Nat
  m:Option Nat
instance (n:Nat):OfNat Id n:=⟨⟨n,none⟩⟩
instance:Coe Nat Id:=⟨fun n=>⟨n,none⟩⟩
theorem sP (n:Nat):(no_index (OfNat.ofNat n):Id).o=n:=rfl
theorem sM (n:Nat):(no_index (OfNat.ofNat n):Id).m=none:=rfl
inductive AV where
  | p (v:PV)
  | ar (z:Nat) (o:Id) (off n:Nat)
  | pt (z:Nat) (o:Id) (row off:Nat)
  | ip (t:Bool) (cs:List PV)
  | mp (o:Nat)
  | agg (cs:List AV)
  | tup (vs:List AV)
  | clo (f:FuncId) (cs:List AV)
  | cnd (g:Bool) (v:AV)
structure Ob where
  bx:Bool
  z:Nat
  n:Nat
  f:Nat→List AV
abbrev Hp:=List (Nat×Ob)
abbrev ag:AV:=.p .any
def One (v:Value):Prop:=v.oneCell'=true
inductive PR (w:World) (own:Bool→Nat→Prop):PV→Value→Prop
  | any (x:Value):PR w own .any x
  | int (k:IntKind) (n:Int):PR w own (.int k n) (.int k n)
  | bool (b:Bool):PR w own (.bool b) (.bool b)
  | str (s:ByteArray):PR w own (.str s) (.string s)
  | nil:PR w own .nil (.slice none 0 0)
  | seq0 (t:Bool) (z:Nat) (f:Nat→List PV) (a:Option Addr) (c:Nat):PR w own (.seq t z 0 f) (.slice a 0 c)
  | seq (t:Bool) (z n:Nat) (f:Nat→List PV) (b off c:Nat) (g:Nat→Nat→Value) (hb:¬ own t b) (hlt:b<w.heap.size) (hc:n≤c)
      (hcell:∀ i,i<n→∀ j,j<z→w.cell? ⟨b,off+(i*z+j),none⟩=some (g i j))
      (hone:∀ i,i<n→∀ j,j<z→One (g i j))
      (h:∀ i,i<n→∀ j,j<z→PR w own ((f i).getD j .any) (g i j)):PR w own (.seq t z n f) (.slice (some ⟨b,off,none⟩) n c)
  | fn (f:FuncId):PR w own (.fn f) (.func (.func f) #[] #[])
inductive VR (w:World) (β:Id→Option Addr) (own:Bool→Nat→Prop):AV→Value→Prop
  | p (v:PV) (x:Value) (h:PR w own v x):VR w β own (.p v) x
  | ar0 (z:Nat) (o:Id) (off:Nat) (a:Option Addr):VR w β own (.ar z o off 0) (.slice a 0 0)
  | ar (z:Nat) (o:Id) (off n:Nat) (b base c:Nat) (cells:Array Value) (elem:TypeId) (fr:Nat×Nat) (hβ:β o=some ⟨b,base,none⟩)
      (hh:w.heap[b]? = some (.cells cells elem fr)) (hsz:base+(off+c)*z≤cells.size) (hc:n≤c) :
      VR w β own (.ar z o off n) (.slice (some ⟨b,base+off*z,none⟩) n c)
  | pt (z:Nat) (o:Id) (row off:Nat) (b base:Nat) (hβ:β o=some ⟨b,base,none⟩):VR w β own (.pt z o row off) (.pointer (some ⟨b,base+(row*z+off),none⟩))
  | ip (t:Bool) (cs:List PV) (b off:Nat) (g:Nat→Value) (hb:¬ own t b) (hlt:b<w.heap.size)
      (hcell:∀ j,j<cs.length→w.cell? ⟨b,off+j,none⟩=some (g j)) (hone:∀ j,j<cs.length→One (g j))
      (h:∀ j,j<cs.length→PR w own (cs.getD j .any) (g j)):VR w β own (.ip t cs) (.pointer (some ⟨b,off,none⟩))
  | mp (o b:Nat) (hβ:β ⟨o,none⟩=some ⟨b,0,none⟩) (hm:∃ es ck,w.heap[b]? = some (.map es ck)):VR w β own (.mp o) (.map (some b))
  | agg (cs:List AV) (vs:Array Value) (hl:cs.length=vs.size) (hone:∀ j,j<cs.length→One (vs.getD j undef))
      (h:∀ j,j<cs.length→VR w β own (cs.getD j ag) (vs.getD j undef)):VR w β own (.agg cs) (.agg vs)
  | tup (cs:List AV) (vs:Array Value) (hl:cs.length=vs.size)
      (h:∀ j,j<cs.length→VR w β own (cs.getD j ag) (vs.getD j undef)):VR w β own (.tup cs) (.tuple vs)
  | clo (f:FuncId) (cs:List AV) (vs:Array Value) (hl:cs.length=vs.size)
      (h:∀ j,j<cs.length→VR w β own (cs.getD j ag) (vs.getD j undef)):VR w β own (.clo f cs) (.func (.func f) #[] vs)
  | cnd (g:Bool) (v:AV) (x:Value) (h:g=true→VR w β own v x) (h':g=false→x=undef):VR w β own (.cnd g v) x
theorem VR.any {w:World} {β:Id→Option Addr} {own:Bool→Nat→Prop} (x:Value):VR w β own ag x:=.p _ _ (.any x)
def Ob.isF (ob:Ob):Bool:=match ob.z with
  | 0=>ob.bx
  | _+1=>false
def d7 {α:Type}:Nat→(Nat→α)→List α
  | 0,_=>[]
  | n+1,f=>f 0::d7 n (fun j=>f (j+1))
def bt:List AV→Option Ob
  | [.p (.seq _ z n g)]=>some ⟨false,z,n,fun r=>d7 z fun j=>.p ((g r).getD j .any)⟩
  | _=>none
def vw (ob:Ob):Option Nat→Option Ob
  | none=>if ob.isF=true then none else some ob
  | some i=>if ob.isF=true∧i<ob.n then bt (ob.f i) else none
def lk (H:Hp) (x:Id):Option Ob:=match H.lookup x.o with
  | some ob=>vw ob x.m
  | none=>none
def aU (β:Id→Option Addr) (H:Hp) (b:Nat):Prop:=∃ o ob a,lk H o=some ob∧β o=some a∧a.block=b
def ow (X:Nat→Prop) (β:Id→Option Addr) (H:Hp) (t:Bool) (b:Nat):Prop:=aU β H b∨(t=false∧X b)
def GJ (w:World) (β:Id→Option Addr) (o:Id) (ob:Ob):Prop :=
  o.m=none∧ob.z=0∧ob.bx=false∧∃ (b:Nat) (es:Array MapEntry) (clock:Nat),β o=some ⟨b,0,none⟩∧w.heap[b]? = some (.map es clock)∧es.size=ob.n ∧
    ∃ K V:Nat→Int,∀ i,i<ob.n→ob.f i=[.p (.int .i64 (K i)),.p (.int .i64 (V i))]∧∃ e,es[i]? = some e∧e.key=.int .i64 (K i)∧e.val=.int .i64 (V i)
def HR (w:World) (β:Id→Option Addr) (own:Bool→Nat→Prop) (H:Hp):Prop :=
  ∀ o ob,lk H o=some ob→(β o=none∧ob.n=0) ∨
    (∃ b base cells elem,β o=some ⟨b,base,none⟩∧w.heap[b]? = some (.cells cells elem (0,0)) ∧
      ∀ i,i<ob.n→∀ j,j<ob.z→∃ v,cells[base+(i*ob.z+j)]? = some v∧One v∧VR w β own ((ob.f i).getD j ag) v)∨GJ w β o ob
def Sep (β:Id→Option Addr) (H:Hp):Prop :=
  ∀ o o' ob ob' a a',lk H o=some ob→lk H o'=some ob'→β o=some a→β o'=some a'→a.block=a'.block→o=o'
structure Ext (w:World) (own:Bool→Nat→Prop) (w':World) (own':Bool→Nat→Prop):Prop where
  os:w'.os=w.os
  tape:w'.tape=w.tape
  output:w'.output=w.output
  size:w.heap.size≤w'.heap.size
  block:∀ t b,b<w.heap.size→¬ own t b→w'.heap[b]? = w.heap[b]?
  owns:∀ t b,b<w.heap.size→own' t b→own t b
  grow:∀ (b:Nat) (c:Array Value) (e:TypeId) (f:Nat×Nat),w.heap[b]? = some (Obj.cells c e f) →
    ∃ (c':Array Value) (e':TypeId) (f':Nat×Nat),w'.heap[b]? = some (Obj.cells c' e' f')∧c.size≤c'.size
  maps:∀ (b:Nat) (es:Array MapEntry) (ck:Nat),w.heap[b]? = some (Obj.map es ck)→∃ es' ck',w'.heap[b]? = some (Obj.map es' ck')
theorem Ext.refl (w:World) (own:Bool→Nat→Prop):Ext w own w own :=
  ⟨rfl,rfl,rfl,Nat.le_refl _,fun _ _ _ _=>rfl,fun _ _ _ h=>h,fun _ c e f h=>⟨c,e,f,h,Nat.le_refl _⟩,fun _ es ck h=>⟨es,ck,h⟩⟩
theorem Ext.trans {w w' w'':World} {o o' o'':Bool→Nat→Prop} (h:Ext w o w' o') (k:Ext w' o' w'' o''):Ext w o w'' o'' where
  os:=k.os.trans h.os
  tape:=k.tape.trans h.tape
  output:=k.output.trans h.output
  size:=Nat.le_trans h.size k.size
  block t b hb hn:=(k.block t b (Nat.lt_of_lt_of_le hb h.size) (fun ho=>hn (h.owns t b hb ho))).trans (h.block t b hb hn)
  owns t b hb ho:=h.owns t b hb (k.owns t b (Nat.lt_of_lt_of_le hb h.size) ho)
  grow b c e f hc:=by
    obtain ⟨c',e',f',h1,h2⟩:=h.grow b c e f hc
    obtain ⟨c2,e2,f2,h3,h4⟩:=k.grow b c' e' f' h1
    exact ⟨c2,e2,f2,h3,Nat.le_trans h2 h4⟩
  maps b es ck hm:=by
    obtain ⟨es',ck',h1⟩:=h.maps b es ck hm
    exact k.maps b es' ck' h1
theorem Ext.cell {w w':World} {own own':Bool→Nat→Prop} (h:Ext w own w' own') {a:Addr} {u:Value} {t:Bool} (hb:¬ own t a.block) (hlt:a.block<w.heap.size)
    (hc:w.cell? a=some u):w'.cell? a=some u:=by
  rw [← hc];exact World.cell?_of_block (h.block _ _ hlt hb)
theorem PR.ext {w w':World} {own own':Bool→Nat→Prop} (h:Ext w own w' own') {v:PV} {x:Value} (hr:PR w own v x):PR w' own' v x:=by
  induction hr with
  | any x=>exact .any x
  | int k n=>exact .int k n
  | bool b=>exact .bool b
  | str s=>exact .str s
  | nil=>exact .nil
  | seq0 t z f a c=>exact .seq0 t z f a c
  | seq t z n f b off c g hb hlt hc hcell hone _ ih =>
    exact .seq t z n f b off c g (fun ho=>hb (h.owns t b hlt ho)) (Nat.lt_of_lt_of_le hlt h.size) hc
      (fun i hi j hj=>h.cell (a:=⟨b,_,none⟩) hb hlt (hcell i hi j hj)) hone ih
  | fn f=>exact .fn f
theorem VR.ext {w w':World} {β β':Id→Option Addr} {own own':Bool→Nat→Prop} (h:Ext w own w' own') (hβ:∀ o a,β o=some a→β' o=some a)
    {v:AV} {x:Value} (hr:VR w β own v x):VR w' β' own' v x:=by
  induction hr with
  | p v x hp=>exact .p v x (hp.ext h)
  | ar0 z o off a=>exact .ar0 z o off a
  | ar z o off n b base c cells elem fr hb hh hsz hc =>
    obtain ⟨c',e',f',h1,h2⟩:=h.grow b cells elem fr hh
    exact .ar z o off n b base c c' e' f' (hβ _ _ hb) h1 (Nat.le_trans hsz h2) hc
  | pt z o row off b base hb=>exact .pt z o row off b base (hβ _ _ hb)
  | ip t cs b off g hb hlt hcell hone hp =>
    exact .ip t cs b off g (fun ho=>hb (h.owns t b hlt ho)) (Nat.lt_of_lt_of_le hlt h.size) (fun j hj=>h.cell (a:=⟨b,_,none⟩) hb hlt (hcell j hj)) hone (fun j hj=>(hp j hj).ext h)
  | mp o b hb hm =>
    obtain ⟨es,ck,hm⟩:=hm
    exact .mp o b (hβ _ _ hb) (h.maps b es ck hm)
  | agg cs vs hl hone _ ih=>exact .agg cs vs hl hone ih
  | tup cs vs hl _ ih=>exact .tup cs vs hl ih
  | clo f cs vs hl _ ih=>exact .clo f cs vs hl ih
  | cnd g v x _ h' ih=>exact .cnd g v x ih h'
def AV.cells:AV→Option (List AV)
  | .agg cs=>some cs
  | .p .any=>none
  | .tup _=>none
  | .cnd _ _=>none
  | v=>some [v]
theorem ky {w:World} {β:Id→Option Addr} {own:Bool→Nat→Prop} {v:AV} {x:Value} {cs:List AV} (h:VR w β own v x) (hc:v.cells=some cs) :
    cs.length=x.cells.size∧∀ j,j<cs.length→One (x.cells.getD j undef)∧VR w β own (cs.getD j ag) (x.cells.getD j undef):=by
  have one:∀ {u:AV} {y:Value},VR w β own u y→y.oneCell'=true→([u]:List AV).length=(#[y]:Array Value).size ∧
      ∀ j,j<([u]:List AV).length→One ((#[y]:Array Value).getD j undef)∧VR w β own (([u]:List AV).getD j ag) ((#[y]:Array Value).getD j undef):=by
    intro u y hu hy
    refine ⟨rfl,fun j hj=>?_⟩
    have:j=0:=by simpa using hj
    subst this
    exact ⟨hy,hu⟩
  cases h with
  | agg cs' vs hl hone h =>
    simp only [AV.cells,Option.some.injEq] at hc
    subst hc
    exact ⟨hl,fun j hj=>⟨hone j hj,h j hj⟩⟩
  | p v x hp =>
    cases hp<;>simp only [AV.cells,Option.some.injEq,reduceCtorEq] at hc<;>subst hc
    · exact one (.p _ _ (.int _ _)) rfl
    · exact one (.p _ _ (.bool _)) rfl
    · exact one (.p _ _ (.str _)) rfl
    · exact one (.p _ _ .nil) rfl
    · exact one (.p _ _ (.seq0 _ _ _ _ _)) rfl
    · rename_i t z n f b off c g hb hlt hc' hcell hone hp
      exact one (.p _ _ (.seq _ _ _ _ _ _ _ g hb hlt hc' hcell hone hp)) rfl
    · exact one (.p _ _ (.fn _)) rfl
  | ar0 z o off a=>simp only [AV.cells,Option.some.injEq] at hc;subst hc;exact one (.ar0 _ _ _ _) rfl
  | ar z o off n b base c cells elem fr hb hh hsz hc' =>
    simp only [AV.cells,Option.some.injEq] at hc;subst hc;exact one (.ar _ _ _ _ _ _ _ _ _ _ hb hh hsz hc') rfl
  | pt z o row off b base hb=>simp only [AV.cells,Option.some.injEq] at hc;subst hc;exact one (.pt _ _ _ _ _ _ hb) rfl
  | ip t cs' b off g hb hlt hcell hone hp =>
    simp only [AV.cells,Option.some.injEq] at hc;subst hc;exact one (.ip _ _ _ _ g hb hlt hcell hone hp) rfl
  | mp o b hb hm=>simp only [AV.cells,Option.some.injEq] at hc;subst hc;exact one (.mp _ _ hb hm) rfl
  | tup=>simp [AV.cells] at hc
  | clo f cs' vs hl h=>simp only [AV.cells,Option.some.injEq] at hc;subst hc;exact one (.clo f cs' vs hl h) rfl
  | cnd=>simp [AV.cells] at hc
def bZ:Value→PV
  | .int k n=>.int k n
  | .bool b=>.bool b
  | .string s=>.str s
  | .slice none 0 0=>.nil
  | _=>.any
theorem me (w:World) (own:Bool→Nat→Prop) (v:Value):PR w own (bZ v) v:=by
  unfold bZ
  split
  · exact .int _ _
  · exact .bool _
  · exact .str _
  · exact .nil
  · exact .any _
def eM (k:Nat):Hp→Hp
  | []=>[]
  | (j,x)::r=>if k=j then eM k r else (j,x)::eM k r
def dy (k:Nat) (ob:Ob) (H:Hp):Hp:=(k,ob)::eM k H
theorem bN (k j:Nat) (H:Hp):(eM k H).lookup j=if j=k then none else H.lookup j:=by
  induction H with
  | nil=>simp [eM]
  | cons e r ih =>
    obtain ⟨i,x⟩:=e
    simp only [eM]
    by_cases hki:k=i
    · subst hki
      simp only [if_true,ih]
      by_cases hj:j=k
      · simp [hj]
      · have:(j==k)=false:=by simpa using hj
        simp [hj,List.lookup_cons,this]
    · simp only [hki,if_false,List.lookup_cons,ih]
      by_cases hji:j=i
      · subst hji;simp [Ne.symm hki]
      · have:(j==i)=false:=by simpa using hji
        simp [this]
theorem cj (k j:Nat) (ob:Ob) (H:Hp):(dy k ob H).lookup j=if j=k then some ob else H.lookup j:=by
  simp only [dy,List.lookup_cons,bN]
  by_cases h:j=k
  · subst h;simp
  · have:(j==k)=false:=by simpa using h
    simp [this,h]
instance:DecidableEq Id:=fun a b=>by
  cases a;cases b
  simp only [Id.mk.injEq]
  exact inferInstance
def dG (β:Id→Option Addr) (k:Id) (a:Addr) (j:Id):Option Addr:=if j=k then some a else β j
theorem bV (k:Nat) (x:Id) (H:Hp):lk (eM k H) x=if x.o=k then none else lk H x:=by
  unfold lk
  rw [bN]
  by_cases h:x.o=k<;>simp [h]
theorem jD (k:Nat) (x:Id) (ob:Ob) (H:Hp):lk (dy k ob H) x=if x.o=k then vw ob x.m else lk H x:=by
  unfold lk
  rw [cj]
  by_cases h:x.o=k<;>simp [h]
theorem a5 {ob:Ob} (h:ob.isF=false) {m:Option Nat} {y:Ob} (hv:vw ob m=some y):m=none∧y=ob:=by
  cases m with
  | none=>simp [vw,h] at hv;exact ⟨rfl,hv.symm⟩
  | some i=>simp [vw,h] at hv
theorem dz {H:Hp} {o:Nat} {ob:Ob} (h:H.lookup o=some ob) (hf:ob.isF=false):lk H ⟨o,none⟩=some ob:=by
  simp [lk,h,vw,hf]
theorem oh {H:Hp} {x:Id} {y:Ob} (h:lk H x=some y):H.lookup x.o≠none:=by
  unfold lk at h
  split at h
  · rename_i ob hob;rw [hob];simp
  · cases h
theorem Aw {l:List AV} {y:Ob} (h:bt l=some y):y.bx=false:=by
  unfold bt at h
  split at h
  · cases h;rfl
  · cases h
theorem A1 {H:Hp} {x:Id} {y:Ob} (h:lk H x=some y):y.isF=false:=by
  unfold lk at h
  split at h
  · rename_i ob hob
    cases hm:x.m with
    | none =>
      rw [hm] at h
      simp only [vw] at h
      split at h
      · cases h
      · rename_i hf
        cases h
        simpa using hf
    | some i =>
      rw [hm] at h
      simp only [vw] at h
      split at h
      · have:=Aw h
        unfold Ob.isF
        split
        · exact this
        · rfl
      · cases h
  · cases h
theorem dD {ob:Ob} (h:ob.bx=false):ob.isF=false:=by
  unfold Ob.isF
  split
  · exact h
  · rfl
theorem xl {β:Id→Option Addr} {H H0:Hp} (hsub:∀ j x,lk H0 j=some x→lk H j=some x) {b:Nat} (h:aU β H0 b):aU β H b:=by
  obtain ⟨o,ob,a,h1,h2,h3⟩:=h
  exact ⟨o,ob,a,hsub _ _ h1,h2,h3⟩
theorem Ef {X:Nat→Prop} {β:Id→Option Addr} {H H0:Hp} (hsub:∀ j x,lk H0 j=some x→lk H j=some x) {t:Bool} {b:Nat} (h:ow X β H0 t b):ow X β H t b :=
  h.imp (xl hsub) id
theorem Ext.sub {w:World} {own own':Bool→Nat→Prop} (h:∀ t b,own' t b→own t b):Ext w own w own' :=
  ⟨rfl,rfl,rfl,Nat.le_refl _,fun _ _ _ _=>rfl,fun t b _ h'=>h t b h',fun _ c e f h=>⟨c,e,f,h,Nat.le_refl _⟩,fun _ es ck h=>⟨es,ck,h⟩⟩
theorem HR.sub {w:World} {X:Nat→Prop} {β:Id→Option Addr} {H H0:Hp} (hH:HR w β (ow X β H) H) (hsub:∀ j x,lk H0 j=some x→lk H j=some x) :
    HR w β (ow X β H0) H0:=by
  intro o ob ho
  rcases hH o ob (hsub _ _ ho) with h | ⟨b,base,cells,elem,h1,h2,h3⟩ | h
  · exact .inl h
  · refine .inr (.inl ⟨b,base,cells,elem,h1,h2,fun i hi j hj=>?_⟩)
    obtain ⟨v,hv,h1',h2'⟩:=h3 i hi j hj
    exact ⟨v,hv,h1',h2'.ext (Ext.sub fun t b=>Ef hsub) (fun _ _ h=>h)⟩
  · exact .inr (.inr h)
theorem Sep.sub {β:Id→Option Addr} {H H0:Hp} (hS:Sep β H) (hsub:∀ j x,lk H0 j=some x→lk H j=some x):Sep β H0 :=
  fun o o' ob ob' a a' h1 h2 h3 h4 h5=>hS o o' ob ob' a a' (hsub _ _ h1) (hsub _ _ h2) h3 h4 h5
structure Placed (X:Nat→Prop) (w:World) (β:Id→Option Addr) (H:Hp) (w':World) (β':Id→Option Addr) (H':Hp) (k:Nat):Prop where
  hr:HR w' β' (ow X β' H') H'
  sep:Sep β' H'
  ext:Ext w (ow X β H) w' (ow X β' H')
  mono:∀ o a,β o=some a→β' o=some a
  dom:∀ j,β' j≠none→β j≠none∨j.o=k
  own:∀ b,aU β' H' b→aU β H b∨w.heap.size≤b
theorem Ba {X:Nat→Prop} {w w':World} {β:Id→Option Addr} {H H':Hp} {k:Id} {b base:Nat} {ob:Ob} {cells:Array Value} {elem:TypeId}
    (hH:HR w β (ow X β H) H) (hS:Sep β H)
    (hlk:∀ x y,lk H' x=some y→(x=k∧y=ob)∨(x≠k∧lk H x=some y))
    (hβ:β k=none∨β k=some ⟨b,base,none⟩)
    (hos:w'.os=w.os) (htape:w'.tape=w.tape) (hout:w'.output=w.output) (hsize:w.heap.size≤w'.heap.size)
    (hoth:∀ c,c<w.heap.size→c≠b→w'.heap[c]? = w.heap[c]?)
    (hb:w'.heap[b]? = some (.cells cells elem (0,0)))
    (hfree:∀ j x a,j≠k→lk H' j=some x→β j=some a→a.block≠b)
    (hown:b<w.heap.size→aU β H b∧∃ c0 e0 f0,w.heap[b]? = some (.cells c0 e0 f0)∧c0.size≤cells.size)
    (hcells:∀ i,i<ob.n→∀ j,j<ob.z→∃ v,cells[base+(i*ob.z+j)]? = some v∧One v∧VR w β (ow X β H) ((ob.f i).getD j ag) v) :
    Placed X w β H w' (dG β k ⟨b,base,none⟩) H' k.o:=by
  have mono:∀ o a,β o=some a→dG β k ⟨b,base,none⟩ o=some a:=by
    intro o a ho
    unfold dG
    split
    · rename_i hok;subst hok;rcases hβ with h | h
      · rw [h] at ho;cases ho
      · rw [← ho,h]
    · exact ho
  have own':∀ c,aU (dG β k ⟨b,base,none⟩) H' c→c=b∨(aU β H c):=by
    rintro c ⟨o,x,a,h1,h2,h3⟩
    unfold dG at h2
    rcases hlk o x h1 with ⟨hok,_⟩ | ⟨hok,h1⟩
    · subst hok
      simp only [if_true,Option.some.injEq] at h2
      subst h2
      exact .inl h3.symm
    · simp only [hok,if_false] at h2
      exact .inr ⟨o,x,a,h1,h2,h3⟩
  have ext:Ext w (ow X β H) w' (ow X (dG β k ⟨b,base,none⟩) H'):=by
    refine ⟨hos,htape,hout,hsize,fun t c hc hn=>?_,fun t c hc ho=>?_,fun c cs e f hc=>?_,fun c es1 ck1 hc=>?_⟩
    · refine hoth c hc (fun he=>?_)
      subst he
      exact hn (.inl (hown hc).1)
    · rcases ho with ho | ho
      · rcases own' c ho with h | h
        · subst h;exact .inl (hown hc).1
        · exact .inl h
      · exact .inr ho
    · have hlt:c<w.heap.size:=(Array.getElem?_eq_some_iff.1 hc).1
      by_cases hcb:c=b
      · subst hcb
        obtain ⟨c0,e0,f0,h1,h2⟩:=(hown hlt).2
        rw [hc] at h1
        cases h1
        exact ⟨cells,elem,_,hb,h2⟩
      · exact ⟨cs,e,f,by rw [hoth c hlt hcb];exact hc,Nat.le_refl _⟩
    · have hlt:c<w.heap.size:=(Array.getElem?_eq_some_iff.1 hc).1
      by_cases hcb:c=b
      · subst hcb
        obtain ⟨c0,e0,f0,h1,h2⟩:=(hown hlt).2
        rw [hc] at h1
        cases h1
      · exact ⟨es1,ck1,by rw [hoth c hlt hcb];exact hc⟩
  refine ⟨?_,?_,ext,mono,?_,?_⟩
  · intro o x ho
    rcases hlk o x ho with ⟨hok,hob⟩ | ⟨hok,ho'⟩
    · subst hok
      subst hob
      refine .inr (.inl ⟨b,base,cells,elem,by simp [dG],hb,fun i hi j hj=>?_⟩)
      obtain ⟨v,h1,h2,h3⟩:=hcells i hi j hj
      exact ⟨v,h1,h2,h3.ext ext mono⟩
    · rcases hH o x ho' with h | ⟨c,base',cells',elem',h1,h2,h3⟩ | ⟨hm0,hz,hbx,c,es,ck,h1,h2,h3⟩
      · exact .inl ⟨by simp [dG,hok,h.1],h.2⟩
      · have hcb:c≠b:=fun he=>hfree o x _ hok ho h1 he
        have hlt:c<w.heap.size:=(Array.getElem?_eq_some_iff.1 h2).1
        refine .inr (.inl ⟨c,base',cells',elem',mono _ _ h1,by rw [hoth c hlt hcb];exact h2,fun i hi j hj=>?_⟩)
        obtain ⟨v,h4,h5,h6⟩:=h3 i hi j hj
        exact ⟨v,h4,h5,h6.ext ext mono⟩
      · have hcb:c≠b:=fun he=>hfree o x _ hok ho h1 he
        have hlt:c<w.heap.size:=(Array.getElem?_eq_some_iff.1 h2).1
        exact .inr (.inr ⟨hm0,hz,hbx,c,es,ck,mono _ _ h1,by rw [hoth c hlt hcb];exact h2,h3⟩)
  · intro o o' x x' a a' h1 h2 h3 h4 h5
    unfold dG at h3 h4
    rcases hlk o x h1 with ⟨ho,_⟩ | ⟨ho,g1⟩
    · rcases hlk o' x' h2 with ⟨ho',_⟩ | ⟨ho',g2⟩
      · rw [ho,ho']
      · simp only [ho,if_true,Option.some.injEq] at h3
        simp only [ho',if_false] at h4
        subst h3
        exact absurd h5.symm (hfree o' x' a' ho' h2 h4)
    · rcases hlk o' x' h2 with ⟨ho',_⟩ | ⟨ho',g2⟩
      · simp only [ho',if_true,Option.some.injEq] at h4
        simp only [ho,if_false] at h3
        subst h4
        exact absurd h5 (hfree o x a ho h1 h3)
      · simp only [ho,ho',if_false] at h3 h4
        exact hS o o' x x' a a' g1 g2 h3 h4 h5
  · intro j hj
    unfold dG at hj
    split at hj
    · rename_i h;exact .inr (by rw [h])
    · exact .inl hj
  · intro c hc
    rcases own' c hc with h | h
    · subst h
      by_cases hlt:c<w.heap.size
      · exact .inl (hown hlt).1
      · exact .inr (by omega)
    · exact .inl h
theorem iz {H H0:Hp} {k:Nat} {ob:Ob} (hnf:ob.isF=false) (_hsub:∀ j x,lk H0 j=some x→lk H j=some x) (_hk:∀ m,lk H0 ⟨k,m⟩=none) (x:Id) (y:Ob) (h:lk (dy k ob H0) x=some y) :
    (x=⟨k,none⟩∧y=ob)∨(x≠⟨k,none⟩∧lk H0 x=some y):=by
  rw [jD] at h
  split at h
  · rename_i hx
    obtain ⟨h1,h2⟩:=a5 hnf h
    obtain ⟨o,m⟩:=x
    simp only at hx h1
    subst hx;subst h1
    exact .inl ⟨rfl,h2⟩
  · rename_i hx
    exact .inr ⟨fun e=>hx (by rw [e]),h⟩
theorem jK {X:Nat→Prop} {w w':World} {β:Id→Option Addr} {H H0:Hp} {k b base:Nat} {ob:Ob} {cells:Array Value} {elem:TypeId}
    (hH:HR w β (ow X β H) H) (hS:Sep β H) (hnf:ob.isF=false)
    (hsub:∀ j x,lk H0 j=some x→lk H j=some x) (hk:∀ m,lk H0 ⟨k,m⟩=none)
    (hβ:β k=none∨β k=some ⟨b,base,none⟩)
    (hos:w'.os=w.os) (htape:w'.tape=w.tape) (hout:w'.output=w.output) (hsize:w.heap.size≤w'.heap.size)
    (hoth:∀ c,c<w.heap.size→c≠b→w'.heap[c]? = w.heap[c]?)
    (hb:w'.heap[b]? = some (.cells cells elem (0,0)))
    (hfree:∀ j x a,lk H0 j=some x→β j=some a→a.block≠b)
    (hown:b<w.heap.size→aU β H b∧∃ c0 e0 f0,w.heap[b]? = some (.cells c0 e0 f0)∧c0.size≤cells.size)
    (hcells:∀ i,i<ob.n→∀ j,j<ob.z→∃ v,cells[base+(i*ob.z+j)]? = some v∧One v∧VR w β (ow X β H) ((ob.f i).getD j ag) v) :
    Placed X w β H w' (dG β k ⟨b,base,none⟩) (dy k ob H0) k :=
  Ba (k:=⟨k,none⟩) hH hS (fun x y h=>(iz hnf hsub hk x y h).imp id (fun h=>⟨h.1,hsub _ _ h.2⟩)) hβ hos htape hout hsize hoth hb
    (fun j x a hj h1 h2=>by
      rcases iz hnf hsub hk j x h1 with ⟨h,_⟩ | ⟨_,h⟩
      · exact absurd h hj
      · exact hfree j x a h h2) hown hcells
theorem oA {X:Nat→Prop} {w w':World} {β:Id→Option Addr} {H H0:Hp} {k b:Nat} {ob:Ob} {es:Array MapEntry} {clock:Nat}
    (hH:HR w β (ow X β H) H) (hS:Sep β H)
    (hsub:∀ j x,lk H0 j=some x→lk H j=some x) (hk:∀ m,lk H0 ⟨k,m⟩=none)
    (hβ:β k=none∨β k=some ⟨b,0,none⟩)
    (hos:w'.os=w.os) (htape:w'.tape=w.tape) (hout:w'.output=w.output) (hsize:w.heap.size≤w'.heap.size)
    (hoth:∀ c,c<w.heap.size→c≠b→w'.heap[c]? = w.heap[c]?)
    (hb:w'.heap[b]? = some (.map es clock))
    (hfree:∀ j x a,lk H0 j=some x→β j=some a→a.block≠b)
    (hown:b<w.heap.size→aU β H b∧∃ es0 ck0,w.heap[b]? = some (.map es0 ck0))
    (hz:ob.z=0) (hbx:ob.bx=false) (hsz:es.size=ob.n)
    (hrows:∃ K V:Nat→Int,∀ i,i<ob.n→ob.f i=[.p (.int .i64 (K i)),.p (.int .i64 (V i))]∧∃ e,es[i]? = some e∧e.key=.int .i64 (K i)∧e.val=.int .i64 (V i)) :
    Placed X w β H w' (dG β k ⟨b,0,none⟩) (dy k ob H0) k:=by
  have hnf:ob.isF=false:=by unfold Ob.isF;rw [hz];exact hbx
  have hlk:=iz hnf hsub hk
  have mono:∀ o a,β o=some a→dG β k ⟨b,0,none⟩ o=some a:=by
    intro o a ho
    unfold dG
    split
    · rename_i hok;subst hok;rcases hβ with h | h
      · rw [h] at ho;cases ho
      · rw [← ho,h]
    · exact ho
  have own':∀ c,aU (dG β k ⟨b,0,none⟩) (dy k ob H0) c→c=b∨(aU β H c):=by
    rintro c ⟨o,x,a,h1,h2,h3⟩
    unfold dG at h2
    rcases hlk o x h1 with ⟨hok,_⟩ | ⟨hok,h1⟩
    · subst hok
      simp only [if_true,Option.some.injEq] at h2
      subst h2
      exact .inl h3.symm
    · simp only [hok,if_false] at h2
      exact .inr ⟨o,x,a,hsub _ _ h1,h2,h3⟩
  have ext:Ext w (ow X β H) w' (ow X (dG β k ⟨b,0,none⟩) (dy k ob H0)):=by
    refine ⟨hos,htape,hout,hsize,fun t c hc hn=>?_,fun t c hc ho=>?_,fun c cs e f hc=>?_,fun c es1 ck1 hc=>?_⟩
    · refine hoth c hc (fun he=>?_)
      subst he
      exact hn (.inl (hown hc).1)
    · rcases ho with ho | ho
      · rcases own' c ho with h | h
        · subst h;exact .inl (hown hc).1
        · exact .inl h
      · exact .inr ho
    · have hlt:c<w.heap.size:=(Array.getElem?_eq_some_iff.1 hc).1
      by_cases hcb:c=b
      · subst hcb
        obtain ⟨es0,ck0,h1⟩:=(hown hlt).2
        rw [hc] at h1
        cases h1
      · exact ⟨cs,e,f,by rw [hoth c hlt hcb];exact hc,Nat.le_refl _⟩
    · have hlt:c<w.heap.size:=(Array.getElem?_eq_some_iff.1 hc).1
      by_cases hcb:c=b
      · subst hcb
        exact ⟨es,clock,hb⟩
      · exact ⟨es1,ck1,by rw [hoth c hlt hcb];exact hc⟩
  refine ⟨?_,?_,ext,mono,?_,?_⟩
  · intro o x ho
    rcases hlk o x ho with ⟨hok,hob⟩ | ⟨hok,ho⟩
    · subst hok
      subst hob
      exact .inr (.inr ⟨rfl,hz,hbx,b,es,clock,by simp [dG],hb,hsz,hrows⟩)
    · rcases hH o x (hsub _ _ ho) with h | ⟨c,base',cells',elem',h1,h2,h3⟩ | ⟨hm0,hz',hbx',c,es',ck,h1,h2,h3⟩
      · exact .inl ⟨by simp [dG,hok,h.1],h.2⟩
      · have hcb:c≠b:=fun he=>hfree o x _ ho h1 he
        have hlt:c<w.heap.size:=(Array.getElem?_eq_some_iff.1 h2).1
        refine .inr (.inl ⟨c,base',cells',elem',mono _ _ h1,by rw [hoth c hlt hcb];exact h2,fun i hi j hj=>?_⟩)
        obtain ⟨v,h4,h5,h6⟩:=h3 i hi j hj
        exact ⟨v,h4,h5,h6.ext ext mono⟩
      · have hcb:c≠b:=fun he=>hfree o x _ ho h1 he
        have hlt:c<w.heap.size:=(Array.getElem?_eq_some_iff.1 h2).1
        exact .inr (.inr ⟨hm0,hz',hbx',c,es',ck,mono _ _ h1,by rw [hoth c hlt hcb];exact h2,h3⟩)
  · intro o o' x x' a a' h1 h2 h3 h4 h5
    unfold dG at h3 h4
    rcases hlk o x h1 with ⟨ho,_⟩ | ⟨ho,g1⟩
    · rcases hlk o' x' h2 with ⟨ho',_⟩ | ⟨ho',g2⟩
      · rw [ho,ho']
      · simp only [ho,if_true,Option.some.injEq] at h3
        simp only [ho',if_false] at h4
        subst h3
        exact absurd h5.symm (hfree o' x' a' g2 h4)
    · rcases hlk o' x' h2 with ⟨ho',_⟩ | ⟨ho',g2⟩
      · simp only [ho',if_true,Option.some.injEq] at h4
        simp only [ho,if_false] at h3
        subst h4
        exact absurd h5 (hfree o x a g1 h3)
      · simp only [ho,ho',if_false] at h3 h4
        exact hS o o' x x' a a' (hsub _ _ g1) (hsub _ _ g2) h3 h4 h5
  · intro j hj
    unfold dG at hj
    split at hj
    · rename_i h;exact .inr (by rw [h])
    · exact .inl hj
  · intro c hc
    rcases own' c hc with h | h
    · subst h
      by_cases hlt:c<w.heap.size
      · exact .inl (hown hlt).1
      · exact .inr (by omega)
    · exact .inl h
theorem xX (k:Nat) (l:Hp):eM k (eM k l)=eM k l:=by
  induction l with
  | nil=>rfl
  | cons e r ih =>
    obtain ⟨i,x⟩:=e
    simp only [eM]
    split
    · exact ih
    · rename_i hne
      simp only [eM,hne,if_false,ih]
theorem ft (k:Nat) (ob:Ob) (H:Hp):dy k ob (eM k H)=dy k ob H:=by
  unfold dy;rw [xX]
theorem sd {β:Id→Option Addr} {k:Id} {a:Addr} (h:β k=some a):dG β k a=β:=by
  funext j
  unfold dG
  split
  · rename_i e;rw [e,h]
  · rfl
theorem il {X:Nat→Prop} {w w':World} {β:Id→Option Addr} {H H0:Hp} {k:Nat} {ob:Ob} {cells:Array Value} {elem:TypeId}
    (hH:HR w β (ow X β H) H) (hS:Sep β H) (hnf:ob.isF=false) (hsub:∀ j x,lk H0 j=some x→lk H j=some x) (hβ:β k=none)
    (hos:w'.os=w.os) (htape:w'.tape=w.tape) (hout:w'.output=w.output) (hheap:w'.heap=w.heap.push (.cells cells elem))
    (hcells:∀ i,i<ob.n→∀ j,j<ob.z→∃ v,cells[i*ob.z+j]? = some v∧One v∧VR w β (ow X β H) ((ob.f i).getD j ag) v) :
    Placed X w β H w' (dG β k ⟨w.heap.size,0,none⟩) (dy k ob H0) k:=by
  have hs:∀ j x,lk (eM k H0) j=some x→lk H j=some x:=by
    intro j x h
    rw [bV] at h
    split at h
    · cases h
    · exact hsub _ _ h
  rw [← ft k ob H0]
  refine jK (cells:=cells) (elem:=elem) hH hS hnf hs (fun m=>by rw [bV];simp) (.inl hβ) hos htape hout (by rw [hheap];simp) (fun c hc _=>?_) (by rw [hheap];simp) (fun j x a h1 h2 he=>?_) (fun h=>absurd h (Nat.lt_irrefl _)) (by simpa using hcells)
  · rw [hheap,Array.getElem?_push,if_neg (Nat.ne_of_lt hc)]
  · have hlt:a.block<w.heap.size:=by
      rcases hH j x (hs _ _ h1) with h | ⟨b,base,cs,e,h3,h4,_⟩ | ⟨_,_,_,b,es,ck,h3,h4,_⟩
      · rw [h.1] at h2;cases h2
      · rw [h2] at h3;cases h3;exact (Array.getElem?_eq_some_iff.1 h4).1
      · rw [h2] at h3;cases h3;exact (Array.getElem?_eq_some_iff.1 h4).1
    omega
theorem aM {α:Type} (n:Nat):∀ f:Nat→α,(d7 n f).length=n:=by
  induction n with
  | zero=>intro f;rfl
  | succ n ih=>intro f;simp [d7,ih]
theorem aH {α:Type} (n:Nat):∀ (f:Nat→α) (j:Nat) (d:α),j<n→(d7 n f).getD j d=f j:=by
  induction n with
  | zero=>intro f j d h;omega
  | succ n ih =>
    intro f j d h
    cases j with
    | zero=>simp [d7]
    | succ j=>simpa [d7] using ih (fun j=>f (j+1)) j d (by omega)
def dW:TypeDesc→Bool
  | .struct _=>true
  | .array _ _=>true
  | _=>false
structure Eff where
  v:AV
  wr:List (Nat×Option Ob)
  ob:List Prop
def a7 (H:Hp):List (Nat×Option Ob)→Hp
  | []=>H
  | (k,some ob)::r=>a7 (dy k ob H) r
  | (k,none)::r=>a7 (eM k H) r
def lv:IntKind→Int
  | .i8=>-128 | .i16=>-32768 | .i32=>-2147483648 | .i64=>-9223372036854775808
  | _=>0
def jF:IntKind→Int
  | .i8=>127 | .i16=>32767 | .i32=>2147483647 | .i64=>9223372036854775807
  | .u8=>255 | .u16=>65535 | .u32=>4294967295 | .u64=>18446744073709551615
theorem ew {k:IntKind} {n:Int} (h0:lv k≤n) (h1:n≤jF k):k.wrap n=n:=by
  cases k<;>simp only [lv,jF] at h0 h1<;>simp only [IntKind.wrap,IntKind.bits,IntKind.signed]<;>simp<;>omega
def bj (op:BinOp) (k:IntKind) (x y:Int):Int :=
  match op with
  | .and=>k.wrap (BitVec.ofInt k.bits x &&& BitVec.ofInt k.bits y).toNat
  | .or=>k.wrap (BitVec.ofInt k.bits x ||| BitVec.ofInt k.bits y).toNat
  | .xor=>k.wrap (BitVec.ofInt k.bits x ^^^ BitVec.ofInt k.bits y).toNat
  | _=>k.wrap (BitVec.ofInt k.bits x &&& ~~~BitVec.ofInt k.bits y).toNat
def qE (k:IntKind) (x y:Int):Int:=k.wrap (x*2 ^ (min y.toNat k.bits))
def bT (k:IntKind) (x y:Int):Int:=x.fdiv (2 ^ (min y.toNat k.bits))
def CT (nw:Bool) (k:IntKind) (n:Int):PV×List Prop:=if nw then (.int k n,[lv k≤n,n≤jF k]) else (.int k (k.wrap n),[])
def xW (nw:Bool) (op:BinOp) (k:IntKind) (x y:Int):Option (PV×List Prop) :=
  match op with
  | .add=>some (CT nw k (x+y))
  | .sub=>some (CT nw k (x - y))
  | .mul=>some (CT nw k (x*y))
  | .quo=>some (if nw then (.int k (x / y),[0≤x,0<y,x / y≤jF k]) else (.int k (k.wrap (x.tdiv y)),[y≠0]))
  | .rem=>some (if nw then (.int k (x % y),[0≤x,0<y]) else (.int k (x.tmod y),[y≠0]))
  | .and=>some (.int k (bj .and k x y),[])
  | .or=>some (.int k (bj .or k x y),[])
  | .xor=>some (.int k (bj .xor k x y),[])
  | .andNot=>some (.int k (bj .andNot k x y),[])
  | .eql=>some (.bool (x==y),[])
  | .neq=>some (.bool (x != y),[])
  | .lss=>some (.bool (decide (x<y)),[])
  | .leq=>some (.bool (decide (x≤y)),[])
  | .gtr=>some (.bool (decide (x>y)),[])
  | .geq=>some (.bool (decide (x≥y)),[])
  | _=>none
def lC:IntKind→IntKind→Bool
  | .i8,.i8 | .i16,.i16 | .i32,.i32 | .i64,.i64 | .u8,.u8 | .u16,.u16 | .u32,.u32 | .u64,.u64=>true
  | _,_=>false
theorem jH {a b:IntKind} (h:lC a b=true):a=b:=by cases a<;>cases b<;>simp_all [lC]
def I3 (d:TypeDesc) (x y:AV):Option Bool :=
  match d,x,y with
  | .int _,.p (.int k a),.p (.int k' b)=>if lC k k' then some (a==b) else none
  | .bool,.p (.bool a),.p (.bool b)=>some (a==b)
  | _,_,_=>none
def s8 (P:Program) (xs ys:List AV):List Field→Nat→Option Bool
  | [],_=>some true
  | f::fs,off =>
    if f.offset==off&&f.name != "_" && Nat.blt off xs.length&&Nat.blt off ys.length then
      match P.underlying f.type with
      | some d =>
        match I3 d (xs.getD off ag) (ys.getD off ag),s8 P xs ys fs (off+1) with
        | some b,some r=>some (b&&r)
        | _,_=>none
      | none=>none
    else none
def ri (P:Program) (nw:Bool) (op:BinOp) (t:TypeId) (x y:AV):Option Eff :=
  match x,y with
  | .p (.int k a),.p (.int k' b) =>
    match op with
    | .shl=>some ⟨.p (.int k (qE k a b)),[],[0≤b]⟩
    | .shr=>some ⟨.p (.int k (bT k a b)),[],[0≤b]⟩
    | _=>if lC k k' then (xW nw op k a b).map fun r=>⟨.p r.1,[],r.2⟩ else none
  | .p (.str a),.p (.str b) =>
    match op with
    | .add=>some ⟨.p (.str (a++b)),[],[a.size+b.size≤9223372036854775807]⟩
    | .eql=>some ⟨.p (.bool (a.toList==b.toList)),[],[]⟩
    | .neq=>some ⟨.p (.bool (!(a.toList==b.toList))),[],[]⟩
    | _=>none
  | .p (.bool a),.p (.bool b) =>
    match P.underlying t with
    | some .bool =>
      match op with
      | .eql=>some ⟨.p (.bool (a==b)),[],[]⟩
      | .neq=>some ⟨.p (.bool (!(a==b))),[],[]⟩
      | _=>none
    | _=>none
  | .agg xs,.agg ys =>
    if !P.stoodInHeld t&&!P.eqGuardType P.depth t then
      match P.underlying t with
      | some (.struct fs) =>
        match op with
        | .eql=>(s8 P xs ys fs.toList 0).map fun b=>⟨.p (.bool b),[],[]⟩
        | .neq=>(s8 P xs ys fs.toList 0).map fun b=>⟨.p (.bool (!b)),[],[]⟩
        | _=>none
      | _=>none
    else none
  | _,_=>none
def BZ (v:AV):AV×(Bool→List Prop) :=
  match v with
  | .cnd g u=>(u,fun _=>[g=true])
  | v=>(v,fun _=>[])
def tR (c:Bool) (a b:AV):Option Eff :=
  match BZ a,BZ b with
  | (.p (.bool x),f),(.p (.bool y),g)=>some ⟨.p (.bool (cond c x y)),[],(f true).map (c=true→·)++(g true).map (c=false→·)⟩
  | (.p (.int k x),f),(.p (.int k' y),g) =>
    if lC k k' then some ⟨.p (.int k (cond c x y)),[],(f true).map (c=true→·)++(g true).map (c=false→·)⟩ else none
  | _,_=>none
def qQ (L:Hp) (x:Id):Option (Ob×List Prop) :=
  match L.lookup x.o with
  | some ob=>match x.m with
    | none=>match ob.isF with
      | true=>none
      | false=>some (ob,[])
    | some i=>match ob.isF with
      | true=>match bt (ob.f i) with
        | some y=>some (y,[i<ob.n])
        | none=>none
      | false=>none
  | none=>none
def toP:AV→PV
  | .p v=>v
  | _=>.any
def kH (ob:Ob) (i:Nat) (y:Ob):Ob:={ ob with f:=fun q=>if q=i then [.p (.seq false y.z y.n fun r=>d7 y.z fun j=>toP ((y.f r).getD j ag))] else ob.f q }
def G3 (L:Hp) (x:Id) (y:Ob):Nat×Option Ob :=
  match x.m with
  | none=>(x.o,some y)
  | some i=>match L.lookup x.o with
    | some ob=>(x.o,some (kH ob i y))
    | none=>(x.o,none)
def Fd (L:Hp) (x:Id):Nat×Option Ob :=
  match x.m with
  | none=>(x.o,none)
  | some i=>match L.lookup x.o with
    | some ob=>(x.o,some { ob with f:=fun q=>if q=i then [] else ob.f q })
    | none=>(x.o,none)
def pB (P:Program) (L:Hp) (t:TypeId) (a:AV):Option Eff :=
  match P.underlying t,P.info? t with
  | some d,some i =>
    match a with
    | .pt z o row off =>
      match qQ L o with
      | some (ob,ps) =>
        if ob.z==z&&Nat.ble (off+i.size) z then
          if dW d then some ⟨.agg (d7 i.size fun j=>(ob.f row).getD (off+j) ag),[],ps++[row<ob.n]⟩
          else if Nat.ble (off+1) z then some ⟨(ob.f row).getD off ag,[],ps++[row<ob.n]⟩ else none
        else none
      | none=>none
    | .ip tg cs =>
      if dW d then (if Nat.ble i.size cs.length then some ⟨.agg (d7 i.size fun j=>.p (cs.getD j .any)),[],[]⟩ else none)
      else if Nat.ble 1 cs.length then some ⟨.p (cs.getD 0 .any),[],[]⟩ else none
    | _=>none
  | _,_=>none
def db (z off:Nat) (old new:List AV):List AV :=
  d7 z fun j=>if Nat.ble off j&&Nat.blt j (off+new.length) then new.getD (j - off) ag else old.getD j ag
def fN (ob:Ob) (row:Nat) (r:List AV):Nat→List AV:=if ob.bx then (fun _=>r) else fun i=>if i=row then r else ob.f i
def qj (P:Program) (L:Hp) (t:TypeId) (a v:AV):Option Eff :=
  match P.info? t with
  | some i =>
    match a,v.cells with
    | .pt z o row off,some cs =>
      match qQ L o with
      | some (ob,ps) =>
        if ob.z==z&&Nat.ble (off+cs.length) z&&cs.length==i.size&&Nat.blt 0 cs.length then
          some ⟨ag,[G3 L o { ob with f:=fN ob row (db z off (ob.f row) cs) }],ps++[row<ob.n,ob.bx=true→ob.n=1]⟩
        else none
      | none=>none
    | _,_=>none
  | none=>none
def zeroCells (i:TypeInfo):Option (List AV) :=
  match i.zero with
  | some z=>if z.cells.toList.all (·.oneCell')&&z.cells.size==i.size then some (z.cells.toList.map fun v=>.p (bZ v)) else none
  | none=>none
def gv (P:Program) (s:TypeId) (x:AV) (f:Nat):Option Eff :=
  match P.underlying s with
  | some (.struct fs) =>
    match fs[f]? with
    | some fl =>
      match P.info? fl.type with
      | some i =>
        if i.size==0 then none else
        match x with
        | .pt z o row off=>some ⟨.pt z o row (off+fl.offset),[],[]⟩
        | .ip tg cs=>if Nat.ble fl.offset cs.length then some ⟨.ip tg (cs.drop fl.offset),[],[]⟩ else none
        | _=>none
      | none=>none
    | none=>none
  | _=>none
def qa (P:Program) (s:TypeId) (x:AV) (f:Nat):Option Eff :=
  match P.underlying s with
  | some (.struct fs) =>
    match fs[f]? with
    | some fl =>
      match P.underlying fl.type,P.info? fl.type with
      | some d,some i =>
        match x with
        | .agg cs =>
          if Nat.ble (fl.offset+i.size) cs.length&&Nat.ble (fl.offset+1) cs.length then
            if dW d then some ⟨.agg (d7 i.size fun j=>cs.getD (fl.offset+j) ag),[],[]⟩ else some ⟨cs.getD fl.offset ag,[],[]⟩
          else none
        | _=>none
      | _,_=>none
    | none=>none
  | _=>none
def gR (P:Program) (t:TypeId) (x ix:AV):Option Eff :=
  match ix with
  | .p (.int _ k) =>
    match P.underlying t with
    | some (.slice e) =>
      match P.info? e with
      | some i =>
        match x with
        | .p (.seq tg z n f)=>if z==i.size then some ⟨.ip tg (d7 z fun j=>(f k.toNat).getD j .any),[],[0≤k,k<(n:Int)]⟩ else none
        | .ar z o off n=>if z==i.size then some ⟨.pt z o (k.toNat+off) 0,[],[0≤k,k<(n:Int)]⟩ else none
        | _=>none
      | none=>none
    | some (.array len e) =>
      match P.info? e with
      | some i =>
        match x with
        | .pt z o row off=>some ⟨.pt z o row (off+k.toNat*i.size),[],[0≤k,k<(len:Int)]⟩
        | _=>none
      | none=>none
    | _=>none
  | _=>none
def ql (P:Program) (t:TypeId) (x ix:AV):Option Eff :=
  match ix with
  | .p (.int _ k) =>
    match P.underlying t,x with
    | some .string,.p (.str s)=>some ⟨.p (.int .u8 ((s.data.getD k.toNat 0).toNat:Nat)),[],[0≤k,k<(s.size:Int)]⟩
    | some (.array len e),.agg cs =>
      match P.underlying e,P.info? e with
      | some d,some i =>
        if dW d then none
        else if Nat.ble (k.toNat*i.size+1) cs.length then some ⟨cs.getD (k.toNat*i.size) ag,[],[0≤k,k<(len:Int)]⟩ else none
      | _,_=>none
    | _,_=>none
  | _=>none
def yN (P:Program) (t:TypeId) (x:AV):Option Eff :=
  match P.underlying t,x with
  | some .string,.p (.str s)=>some ⟨.p (.int .i64 (s.size:Int)),[],[]⟩
  | some (.slice _),.p (.seq _ _ n _)=>some ⟨.p (.int .i64 (n:Int)),[],[]⟩
  | some (.slice _),.p .nil=>some ⟨.p (.int .i64 ((0:Nat):Int)),[],[]⟩
  | some (.slice _),.ar _ _ _ n=>some ⟨.p (.int .i64 (n:Int)),[],[]⟩
  | _,_=>none
def tO (P:Program) (id:Nat) (t:TypeId) (l c:AV):Option Eff :=
  match P.underlying t with
  | some (.slice e) =>
    match P.info? e with
    | some i =>
      match zeroCells i,l,c with
      | some zs,.p (.int _ n),.p (.int _ m) =>
        some ⟨.ar i.size id 0 n.toNat,[(id,some ⟨false,i.size,n.toNat,fun _=>zs⟩)],[0≤n,n≤m,m*i.bytes≤281474976710656,m≤9223372036854775807]⟩
      | _,_,_=>none
    | none=>none
  | _=>none
def dE (x:Option AV) (d:Int):Option Int :=
  match x with
  | none=>some d
  | some (.p (.int _ n))=>some n
  | _=>none
def pS (P:Program) (t:TypeId) (x:AV) (lo hi:Option AV):Option Eff :=
  match P.underlying t with
  | some .string =>
    match x with
    | .p (.str s) =>
      match dE lo 0,dE hi (s.size:Nat) with
      | some l,some h=>some ⟨.p (.str (s.extract l.toNat h.toNat)),[],[0≤l,l≤h,h≤(s.size:Int)]⟩
      | _,_=>none
    | _=>none
  | some (.slice e) =>
    match P.info? e with
    | some i =>
      match x with
      | .p (.seq tg z n f) =>
        match dE lo 0,dE hi (n:Nat) with
        | some l,some h=>if z==i.size then some ⟨.p (.seq tg z (h.toNat - l.toNat) fun j=>f (j+l.toNat)),[],[0≤l,l≤h,h≤(n:Int)]⟩ else none
        | _,_=>none
      | .ar z o off n =>
        match dE lo 0,dE hi (n:Nat) with
        | some l,some h=>if z==i.size then some ⟨.ar z o (l.toNat+off) (h.toNat - l.toNat),[],[0≤l,l≤h,h≤(n:Int)]⟩ else none
        | _,_=>none
      | _=>none
    | none=>none
  | _=>none
def j6 (L:Hp) (z:Nat):AV→Option (Nat×(Nat→List AV)×List Prop)
  | .p .nil=>some (0,(fun _=>[]),[])
  | .p (.seq _ z' n f)=>if z'==z then some (n,(fun i=>d7 z fun j=>.p ((f i).getD j .any)),[]) else none
  | .ar z' o off n=>if z'==z then (match qQ L o with
    | some (ob,ps)=>if ob.z==z then some (n,(fun i=>d7 z fun j=>(ob.f (i+off)).getD j ag),ps++[n+off≤ob.n]) else none
    | none=>none) else none
  | _=>none
def lY (P:Program) (id:Nat) (L:Hp) (t t':TypeId) (s x:AV):Option Eff :=
  if t==t' then
  match P.underlying t with
  | some (.slice e) =>
    match P.info? e with
    | some i =>
      match zeroCells i,j6 L i.size x with
      | some _,some (m,fx,obx) =>
        if i.size==0 then none else
        match s with
        | .p .nil=>some ⟨.ar i.size id 0 m,[(id,some ⟨false,i.size,m,fx⟩)],obx++[m*i.bytes≤140737488355328,m≤9223372036854775807]⟩
        | .ar z o off n =>
          match qQ L o with
          | some (ob,ps) =>
            if z==i.size&&ob.z==z&&!ob.bx then
              some ⟨.ar z id 0 (n+m),[Fd L o,(id,some ⟨false,z,n+m,fun j=>if j<n then ob.f (j+off) else fx (j - n)⟩)],
                obx++ps++[n+off≤ob.n,(n+m)*i.bytes≤140737488355328,n+m≤9223372036854775807]⟩
            else none
          | _=>none
        | _=>none
      | _,_=>none
    | none=>none
  | _=>none
  else none
def fu (jK:Nat→Option (Nat×Nat)) (cells:List AV):List (Nat×AV)→Option (List AV)
  | []=>some cells
  | (i,v)::rest =>
    match jK i,v.cells with
    | some (off,size),some cs =>
      if cs.length==size&&Nat.ble (off+cs.length) cells.length then fu jK (db cells.length off cells cs) rest else none
    | _,_=>none
def pE (P:Program) (t:TypeId) (parts:List (Nat×AV)):Option Eff :=
  match P.underlying t,P.info? t with
  | some (.struct fs),some i =>
    match zeroCells i with
    | some zs =>
      match fs.toList.mapM (fun f=>(P.info? f.type).map fun i=>(f.offset,i.size)) with
      | some places=>(fu (fun j=>places[j]?) zs parts).map fun cs=>⟨.agg cs,[],[]⟩
      | none=>none
    | none=>none
  | some (.array _ e),some i =>
    match zeroCells i,P.info? e with
    | some zs,some ie=>(fu (fun j=>some (j*ie.size,ie.size)) zs parts).map fun cs=>⟨.agg cs,[],[]⟩
    | _,_=>none
  | _,_=>none
def bk:Nat→Nat→Nat
  | 0,_=>0
  | 1,_=>0
  | _,r=>r
theorem fe {n r:Nat} (h:r<n):bk n r=r:=by
  unfold bk
  split<;>omega
def Du:Nat→List AV→List AV→List AV
  | 0,zs,_=>zs
  | _+1,_,cs=>cs
theorem Ar {n r:Nat} (h:r<n) (zs cs:List AV):Du n zs cs=cs:=by
  cases n with
  | zero=>omega
  | succ n=>rfl
def fP (P:Program) (id:Nat) (t:TypeId) (len:Nat) (parts:List (Nat×AV)):Option Eff :=
  match P.underlying t with
  | some (.slice e) =>
    match P.info? e with
    | some i =>
      match zeroCells i with
      | some zs =>
        if i.size==0 then none else
        if Nat.ble (len*i.size) 1024 then
          (fu (fun j=>some (j*i.size,i.size)) (d7 (len*i.size) fun j=>zs.getD (j % i.size) ag) parts).map fun cs =>
            ⟨.ar i.size id 0 len,[(id,some ⟨false,i.size,len,fun r=>d7 i.size fun j=>(Du len zs cs).getD (bk len r*i.size+j) ag⟩)],[]⟩
        else none
      | none=>none
    | none=>none
  | _=>none
def jz (mx:Bool) (x y:AV):Option Eff :=
  match x,y with
  | .p (.int k a),.p (.int _ b)=>some ⟨.p (.int k (if mx then (if b>a then b else a) else (if b<a then b else a))),[],[]⟩
  | _,_=>none
def oQ (P:Program) (id:Nat) (L:Hp) (b:Builtin) (args:List AV) (ts:List TypeId):Option Eff :=
  match args with
  | [x]=>match b,ts with
    | .len,[t]=>yN P t x
    | _,_=>none
  | [x,y]=>match b with
    | .append=>match ts with
      | [t,t']=>lY P id L t t' x y
      | _=>none
    | .min=>jz false x y
    | .max=>jz true x y
    | _=>none
  | _=>none
def A2 (r:List AV):Int:=match r with
  | .p (.int _ n)::_=>n
  | _=>0
def wc (m:Nat) (f:Nat→List AV):ByteArray:=((List.range m).map fun i=>A2 (f i)).foldl (fun r n=>r.push (UInt8.ofNat n.toNat)) ByteArray.empty
def vu (m:Nat) (f:Nat→List AV):Prop:=∀ i,i<m→∃ n,f i=[.p (.int .u8 n)]
def AD (P:Program) (L:Hp) (e:TypeId) (x:AV):Option Eff :=
  match P.underlying e,j6 L 1 x with
  | some (.int .u8),some (m,fx,ob)=>some ⟨.p (.str (wc m fx)),[],ob++[vu m fx]⟩
  | _,_=>none
def jX (K V:Nat→Int) (a:Int):Nat→Nat→Option (Nat×Int)
  | 0,_=>none
  | m+1,i=>if K i=a then some (i,V i) else jX K V a m (i+1)
def iJ (K:Nat→Int) (n:Nat) (a:Int):Bool:=(jX K (fun _=>0) a n 0).isSome
def g8 (K V:Nat→Int) (n:Nat) (a d:Int):Int:=match jX K V a n 0 with | some x=>x.2 | none=>d
def eu (r:List AV):Int:=match r with
  | .p (.int _ k)::_=>k
  | _=>0
def kb (r:List AV):Int:=match r with
  | _::.p (.int _ v)::_=>v
  | _=>0
def BH (P:Program) (t:TypeId):Bool:=match P.underlying t with
  | some (.int .i64)=>true
  | _=>false
def ji (P:Program) (L:Hp) (t:TypeId) (m k v:AV):Option Eff :=
  match m,k,v with
  | .mp o,.p (.int .i64 a),.p (.int .i64 b) =>
    match L.lookup o,P.underlying t with
    | some ob,some (.map kt _) =>
      if ob.z==0&&!ob.bx&&BH P kt then
        some ⟨ag,[(o,some ⟨false,0,ob.n+1,fun i=>if i<ob.n then ob.f i else [.p (.int .i64 a),.p (.int .i64 b)]⟩)],[iJ (fun i=>eu (ob.f i)) ob.n a=false]⟩
      else none
    | _,_=>none
  | _,_,_=>none
def nl (P:Program) (L:Hp) (t:TypeId) (m k:AV) (ok:Bool):Option Eff :=
  match m,k with
  | .mp o,.p (.int .i64 a) =>
    match L.lookup o,P.underlying t with
    | some ob,some (.map kt et) =>
      if ob.z==0&&!ob.bx&&BH P kt then
        match (P.info? et).bind (·.zero) with
        | some (.int .i64 d) =>
          match ok with
          | true=>some ⟨.tup [.p (.int .i64 (g8 (fun i=>eu (ob.f i)) (fun i=>kb (ob.f i)) ob.n a d)),.p (.bool (iJ (fun i=>eu (ob.f i)) ob.n a))],[],[]⟩
          | false=>some ⟨.p (.int .i64 (g8 (fun i=>eu (ob.f i)) (fun i=>kb (ob.f i)) ob.n a d)),[],[]⟩
        | _=>none
      else none
    | _,_=>none
  | _,_=>none
def ud (P:Program) (id:Nat) (nw:Bool) (L:Hp) (ρ:Operand→AV) (op:Op):Option Eff :=
  match op with
  | .move x=>some ⟨ρ x,[],[]⟩
  | .assign x=>some ⟨ρ x,[],[]⟩
  | .pick c a b=>match ρ c with
    | .p (.bool c)=>tR c (ρ a) (ρ b)
    | _=>none
  | .alloc e=>match P.info? e with
    | some i=>(zeroCells i).bind fun cs=>if Nat.blt 0 cs.length then some ⟨.pt cs.length id 0 0,[(id,some ⟨true,cs.length,1,fun _=>cs⟩)],[]⟩ else none
    | none=>none
  | .box _ x=>(ρ x).cells.bind fun cs=>if Nat.blt 0 cs.length then some ⟨.pt cs.length id 0 0,[(id,some ⟨true,cs.length,1,fun _=>cs⟩)],[]⟩ else none
  | .build t parts=>pE P t (parts.toList.map fun p=>(p.1,ρ p.2))
  | .buildSlice t len parts=>fP P id t len (parts.toList.map fun p=>(p.1,ρ p.2))
  | .load t a=>pB P L t (ρ a)
  | .store t a v=>qj P L t (ρ a) (ρ v)
  | .nilCheck x=>match ρ x with
    | .pt z o row off=>some ⟨.pt z o row off,[],[]⟩
    | .ip tg cs=>some ⟨.ip tg cs,[],[]⟩
    | _=>none
  | .binOp op t x y _=>ri P nw op t (ρ x) (ρ y)
  | .unOp op _ x=>match op,ρ x with
    | .not,.p (.bool b)=>some ⟨.p (.bool !b),[],[]⟩
    | .neg,.p (.int k n)=>(xW nw .sub k 0 n).map fun r=>⟨.p r.1,[],r.2⟩
    | _,_=>none
  | .convert s d x=>match P.underlying s,P.underlying d,ρ x with
    | some _,some (.int k),.p (.int _ n)=>some ⟨.p (CT nw k n).1,[],(CT nw k n).2⟩
    | some (.slice e),some .string,v=>AD P L e v
    | _,_,_=>none
  | .makeSlice t l c=>tO P id t (ρ l) (ρ c)
  | .slice t x lo hi none=>pS P t (ρ x) (lo.map ρ) (hi.map ρ)
  | .fieldAddr s x f=>gv P s (ρ x) f
  | .field s x f=>qa P s (ρ x) f
  | .indexAddr t x i=>gR P t (ρ x) (ρ i)
  | .index t x i=>ql P t (ρ x) (ρ i)
  | .extract x i=>match ρ x with
    | .tup vs=>if Nat.blt i vs.length then some ⟨vs.getD i ag,[],[]⟩ else none
    | _=>none
  | .makeFunc fn first captured=>match fn with
    | .func f=>if first.size==0 then (if captured.size==0 then some ⟨.p (.fn f),[],[]⟩ else some ⟨.clo f (captured.toList.map ρ),[],[]⟩) else none
    | _=>none
  | .makeMap _ none=>some ⟨.mp id,[(id,some ⟨false,0,0,fun _=>[]⟩)],[]⟩
  | .insert t m k v=>ji P L t (ρ m) (ρ k) (ρ v)
  | .mapUpdate t m k v=>ji P L t (ρ m) (ρ k) (ρ v)
  | .lookup t m k ok=>nl P L t (ρ m) (ρ k) ok
  | .call c=>match c.callee with
    | .builtin b=>oQ P id L b (c.args.toList.map ρ) c.argTypes.toList
    | _=>none
  | _=>none
theorem Placed.same (X:Nat→Prop) (w:World) (β:Id→Option Addr) (H:Hp) (k:Nat) (hH:HR w β (ow X β H) H) (hS:Sep β H):Placed X w β H w β H k :=
  ⟨hH,hS,.refl _ _,fun _ _ h=>h,fun _ h=>.inl h,fun _ h=>.inl h⟩
theorem fK {L H:Hp} (hL:∀ o ob,L.lookup o=some ob→H.lookup o=some ob) {x:Id} {ob:Ob} {ps:List Prop} (h:qQ L x=some (ob,ps)) (hps:∀ p∈ps,p):lk H x=some ob:=by
  unfold qQ at h
  unfold lk
  split at h
  case h_2=>cases h
  rename_i y hy
  rw [hL _ _ hy]
  simp only
  split at h
  · rename_i hm
    rw [hm]
    split at h
    · cases h
    · rename_i hf
      simp only [Option.some.injEq,Prod.mk.injEq] at h
      obtain ⟨rfl,_⟩:=h
      simp [vw,hf]
  · rename_i i hm
    rw [hm]
    split at h
    · rename_i hf
      split at h
      · rename_i z hz
        simp only [Option.some.injEq,Prod.mk.injEq] at h
        obtain ⟨rfl,rfl⟩:=h
        have:i<y.n:=hps _ (by simp)
        simp [vw,hf,this,hz]
      · cases h
    · cases h
theorem VR.toP {w:World} {β:Id→Option Addr} {own:Bool→Nat→Prop} {a:AV} {v:Value} (h:VR w β own a v):VR w β own (.p (Mach.toP a)) v:=by
  cases a with
  | p u=>exact h
  | _=>exact .p _ _ (.any _)
theorem D6 {L H:Hp} (hL:∀ o ob,L.lookup o=some ob→H.lookup o=some ob) {o:Id} {ob0 ob':Ob} {ps:List Prop} (h:qQ L o=some (ob0,ps)) (hps:∀ p∈ps,p) (hnf:ob'.isF=false) :
    ∃ obW:Ob,(∀ x y,lk (a7 H [G3 L o ob']) x=some y→(x=o∧y=obW)∨(x≠o∧lk H x=some y))∧obW.n=ob'.n∧obW.z=ob'.z ∧
      ∀ (r j:Nat) (w:World) (β:Id→Option Addr) (own:Bool→Nat→Prop) (v:Value),j<ob'.z→VR w β own ((ob'.f r).getD j ag) v→VR w β own ((obW.f r).getD j ag) v:=by
  obtain ⟨oo,m⟩:=o
  cases m with
  | none =>
    refine ⟨ob',fun x y hx=>?_,rfl,rfl,fun _ _ _ _ _ _ _ h=>h⟩
    simp only [G3,a7] at hx
    rw [← ft] at hx
    rcases iz (H:=H) hnf (fun j x h=>by rw [bV] at h;split at h<;>first | exact h | cases h) (fun m=>by rw [bV];simp) x y hx with h | ⟨h1,h2⟩
    · exact .inl h
    · rw [bV] at h2
      split at h2
      · cases h2
      · exact .inr ⟨h1,h2⟩
  | some i =>
    unfold qQ at h
    simp only at h
    split at h
    case h_2=>cases h
    rename_i fam hfam
    split at h
    case h_2=>cases h
    rename_i hf
    split at h
    case h_2=>cases h
    rename_i y0 hy0
    simp only [Option.some.injEq,Prod.mk.injEq] at h
    obtain ⟨rfl,rfl⟩:=h
    have hi:i<fam.n:=hps _ (by simp)
    have hf':(kH fam i ob').isF=true:=hf
    refine ⟨⟨false,ob'.z,ob'.n,fun r=>d7 ob'.z fun j=>.p ((d7 ob'.z fun j=>toP ((ob'.f r).getD j ag)).getD j .any)⟩,fun x y hx=>?_,rfl,rfl,fun r j w β own v hj hv=>?_⟩
    · simp only [G3,hfam,a7] at hx
      rw [jD] at hx
      split at hx
      · rename_i hxo
        obtain ⟨xo,xm⟩:=x
        simp only at hxo
        subst hxo
        cases xm with
        | none=>simp [vw,hf'] at hx
        | some q =>
          simp only [vw,hf',true_and] at hx
          split at hx
          case isFalse=>cases hx
          rename_i hq
          have hq:q<fam.n:=hq
          simp only [kH] at hx
          by_cases hqi:q=i
          · subst hqi
            simp only [if_true,bt,Option.some.injEq] at hx
            exact .inl ⟨rfl,hx.symm⟩
          · simp only [hqi,if_false] at hx
            refine .inr ⟨fun e=>hqi (by simpa using e),?_⟩
            simp [lk,hL _ _ hfam,vw,hf,hq,hx]
      · rename_i hxo
        exact .inr ⟨fun e=>hxo (by rw [e]),hx⟩
    · simp only
      rw [aH _ _ _ _ hj,aH _ _ _ _ hj]
      exact hv.toP
def OpRes (X:Nat→Prop) (P:Program) (s:Sem Next) (w:World) (β:Id→Option Addr) (H:Hp) (e:Eff) (k:Nat):Prop :=
  ∃ v w' β',(s.run P w=.ok (.value v) w'∨(s.run P w=.ok .skip w'∧v=undef))∧Placed X w β H w' β' (a7 H e.wr) k ∧
    VR w' β' (ow X β' (a7 H e.wr)) e.v v
section
variable {X:Nat→Prop} {P:Program} {w:World} {β:Id→Option Addr} {H:Hp} {k:Nat}
theorem OpRes.pure {s:Sem Next} {e:Eff} {v:Value} (hH:HR w β (ow X β H) H) (hS:Sep β H) (hw:e.wr=[]) (hr:s.run P w=.ok (.value v) w)
    (hv:VR w β (ow X β H) e.v v):OpRes X P s w β H e k :=
  ⟨v,w,β,.inl hr,by rw [hw];exact .same X w β H k hH hS,by rw [hw];exact hv⟩
theorem fa {t:TypeId} {d:TypeDesc} (h:P.underlying t=some d) (w:World):(isAgg t).run P w=.ok (dW d) w:=by
  unfold isAgg
  simp only [Sem.run_bind,run_underlying h,Result.andThen_ok]
  cases d<;>rfl
theorem bo {t:TypeId} {i:TypeInfo} (h:P.info? t=some i) (w:World):(sizeOf t).run P w=.ok i.size w:=by
  simp [sizeOf,typeInfo,h]
theorem Addr.add_plain (b o j:Nat):(⟨b,o,none⟩:Addr).add j=⟨b,o+j,none⟩:=by
  unfold Addr.add;split<;>simp_all
theorem fX {t:TypeId} {d:TypeDesc} {i:TypeInfo} (h:P.underlying t=some d) (hi:P.info? t=some i) (hd:dW d=true) (b off:Nat) (g:Nat→Value)
    (hg:∀ j,j<i.size→w.cell? ⟨b,off+j,none⟩=some (g j)):(loadVar t ⟨b,off,none⟩).run P w=.ok (.agg (d7 i.size g).toArray) w:=by
  have hl:=run_loadCells (P:=P) w ⟨b,off,none⟩ i.size g (fun j hj=>by rw [Addr.add_plain];exact hg j hj)
  have ht:((List.range i.size).map g)=d7 i.size g:=by
    apply List.ext_getElem?
    intro j
    by_cases hj:j<i.size
    · have h2:=aH i.size g j undef hj
      have hl2:j<(d7 i.size g).length:=by rw [aM];exact hj
      rw [List.getD_eq_getElem?_getD,List.getElem?_eq_getElem hl2] at h2
      simp only [Option.getD_some] at h2
      simp [hj,List.getElem?_eq_getElem hl2,h2]
    · simp [hj,List.getElem?_eq_none (show (d7 i.size g).length≤j by rw [aM];omega)]
  unfold loadVar
  simp only [Sem.run_bind,fa h,hd,Result.andThen_ok,if_true,bo hi,hl,ht,Sem.run_pure]
theorem gg {t:TypeId} {d:TypeDesc} (h:P.underlying t=some d) (hd:dW d=false) (a:Addr) (v:Value)
    (hg:w.cell? a=some v):(loadVar t a).run P w=.ok v w:=by
  unfold loadVar
  simp [fa h,hd,hg]
theorem dJ (l:List Value) (j:Nat):l.toArray.getD j undef=l.getD j undef:=by simp [List.getD_eq_getElem?_getD]
theorem oE {L:Hp} {t:TypeId} {a:AV} {x:Value} {e:Eff} (hH:HR w β (ow X β H) H) (hS:Sep β H) (hL:∀ o ob,L.lookup o=some ob→H.lookup o=some ob)
    (he:pB P L t a=some e) (hob:∀ p∈e.ob,p) (hx:VR w β (ow X β H) a x) :
    e.wr=[]∧∃ v,(Instr.loadAt t x).run P w=.ok v w∧VR w β (ow X β H) e.v v:=by
  unfold pB at he
  split at he
  · rename_i d i hd hi
    cases hx<;>simp only [] at he<;>try (cases he;done)
    · rename_i z o row off b base hβ
      split at he
      · rename_i ob ps hlo
        split at he
        · rename_i hz
          simp only [Bool.and_eq_true,beq_iff_eq,Nat.ble_eq] at hz
          have hcell:(∀ p∈ps,p)→row<ob.n→∀ j,off+j<ob.z→∃ u,w.cell? ⟨b,base+(row*z+off)+j,none⟩=some u∧One u∧VR w β (ow X β H) ((ob.f row).getD (off+j) ag) u:=by
            intro hps hrow j hj
            rcases hH o ob (fK hL hlo hps) with h | ⟨b',base',cells,elem,h1,h2,h3⟩ | ⟨_,hz0,_⟩
            rotate_left 2
            · omega
            · rw [h.1] at hβ;cases hβ
            · rw [hβ] at h1
              cases h1
              obtain ⟨u,h4,h5,h6⟩:=h3 row hrow (off+j) hj
              refine ⟨u,?_,h5,h6⟩
              have e:base+(row*z+off)+j=base+(row*ob.z+(off+j)):=by rw [hz.1];omega
              rw [e]
              simp [World.cell?,h2,h4]
          split at he
          · rename_i hagg
            simp only [Option.some.injEq] at he
            subst he
            have hrow:row<ob.n:=hob _ (by simp)
            have hcell:=hcell (fun p hp=>hob p (by simp [hp]))
            refine ⟨rfl,.agg (d7 i.size fun j=>(w.cell? ⟨b,base+(row*z+off)+j,none⟩).getD undef).toArray,?_,?_⟩
            · unfold Instr.loadAt Instr.sureAddr
              simp only [Sem.run_bind,Sem.run_pure,Result.andThen_ok]
              refine fX hd hi hagg b _ _ (fun j hj=>?_)
              obtain ⟨u,h1,_,_⟩:=hcell hrow j (by omega)
              rw [h1];rfl
            · refine .agg _ _ (by simp [aM]) (fun j hj=>?_) (fun j hj=>?_)
              · rw [aM] at hj
                obtain ⟨u,h1,h2,_⟩:=hcell hrow j (by omega)
                rw [dJ,aH _ _ _ _ hj,h1]
                exact h2
              · rw [aM] at hj
                obtain ⟨u,h1,_,h3⟩:=hcell hrow j (by omega)
                rw [dJ,aH _ _ _ _ hj,aH _ _ _ _ hj,h1]
                exact h3
          · rename_i hagg
            split at he
            · rename_i h1z
              simp only [Nat.ble_eq] at h1z
              simp only [Option.some.injEq] at he
              subst he
              have hrow:row<ob.n:=hob _ (by simp)
              have hcell:=hcell (fun p hp=>hob p (by simp [hp]))
              obtain ⟨u,h1,_,h3⟩:=hcell hrow 0 (by omega)
              refine ⟨rfl,u,?_,by simpa using h3⟩
              unfold Instr.loadAt Instr.sureAddr
              simp only [Sem.run_bind,Sem.run_pure,Result.andThen_ok]
              exact gg hd (by simpa using hagg) _ _ (by simpa using h1)
            · cases he
        · cases he
      · cases he
    · rename_i tg cs b off g hb hlt hcell hone hp
      split at he
      · rename_i hagg
        split at he
        · rename_i hz
          simp only [Nat.ble_eq] at hz
          simp only [Option.some.injEq] at he
          subst he
          refine ⟨rfl,.agg (d7 i.size g).toArray,?_,?_⟩
          · unfold Instr.loadAt Instr.sureAddr
            simp only [Sem.run_bind,Sem.run_pure,Result.andThen_ok]
            exact fX hd hi hagg b off g (fun j hj=>hcell j (by omega))
          · refine .agg _ _ (by simp [aM]) (fun j hj=>?_) (fun j hj=>?_)
            · rw [aM] at hj
              rw [dJ,aH _ _ _ _ hj]
              exact hone j (by omega)
            · rw [aM] at hj
              rw [dJ,aH _ _ _ _ hj,aH _ _ _ _ hj]
              exact .p _ _ (hp j (by omega))
        · cases he
      · rename_i hagg
        split at he
        · rename_i hz
          simp only [Nat.ble_eq] at hz
          simp only [Option.some.injEq] at he
          subst he
          refine ⟨rfl,g 0,?_,.p _ _ (hp 0 (by omega))⟩
          unfold Instr.loadAt Instr.sureAddr
          simp only [Sem.run_bind,Sem.run_pure,Result.andThen_ok]
          exact gg hd (by simpa using hagg) _ _ (by simpa using hcell 0 (by omega))
        · cases he
  · cases he
theorem eS (z off:Nat) (old new:List AV):(db z off old new).length=z:=aM _ _
theorem kY {z off:Nat} {old new:List AV} {j:Nat} (hj:j<z) :
    (db z off old new).getD j ag=if off≤j∧j<off+new.length then new.getD (j - off) ag else old.getD j ag:=by
  unfold db
  rw [aH _ _ _ _ hj]
  by_cases h:off≤j∧j<off+new.length
  · rw [if_pos h,if_pos (by simp [Nat.blt,h.1];omega)]
  · rw [if_neg h,if_neg (by simp [Nat.blt];intro h1;omega)]
theorem row_getElem? (cur:Array Value) (at_:Nat) (vs:List Value) (hfit:at_+vs.length≤cur.size) (q:Nat) :
    (cur.toList.take at_++vs++cur.toList.drop (at_+vs.length)).toArray[q]? = if at_≤q∧q<at_+vs.length then vs[q - at_]? else cur[q]?:=by
  have hl:(cur.toList.take at_).length=at_:=by simp;omega
  simp only [List.getElem?_toArray,List.append_assoc]
  by_cases h1:q<at_
  · rw [List.getElem?_append_left (by rw [hl];exact h1),if_neg (by omega)]
    simp [List.getElem?_take,h1]
  · rw [List.getElem?_append_right (by rw [hl];omega),hl]
    by_cases h2:q<at_+vs.length
    · rw [List.getElem?_append_left (by omega),if_pos (by omega)]
    · rw [List.getElem?_append_right (by omega),if_neg (by omega),List.getElem?_drop]
      have:at_+vs.length+(q - at_ - vs.length)=q:=by omega
      rw [this]
      simp
theorem l8 (cur:Array Value) (at_:Nat) (vs:List Value) (hfit:at_+vs.length≤cur.size) :
    (cur.toList.take at_++vs++cur.toList.drop (at_+vs.length)).toArray.size=cur.size:=by
  simp;omega
theorem cS {i n z j m:Nat} (hi:i<n) (hj:j<z) (hm:n≤m):i*z+j<m*z:=by
  have h1:(i+1)*z≤m*z:=Nat.mul_le_mul_right _ (by omega)
  rw [Nat.succ_mul] at h1
  omega
theorem yk {i r z j q:Nat} (hj:j<z) (hq:q<z) (h:i*z+j=r*z+q):i=r∧j=q:=by
  have hz:0<z:=by omega
  have e1:(i*z+j) / z=i:=by
    rw [Nat.mul_comm,Nat.mul_add_div hz,Nat.div_eq_of_lt hj];omega
  have e2:(r*z+q) / z=r:=by
    rw [Nat.mul_comm,Nat.mul_add_div hz,Nat.div_eq_of_lt hq];omega
  have e3:i=r:=by rw [← e1,← e2,h]
  subst e3
  exact ⟨rfl,by omega⟩
theorem uy {L:Hp} {t:TypeId} {a va:AV} {x v:Value} {e:Eff} (hH:HR w β (ow X β H) H) (hS:Sep β H) (hL:∀ o ob,L.lookup o=some ob→H.lookup o=some ob)
    (he:qj P L t a va=some e) (hob:∀ p∈e.ob,p) (hx:VR w β (ow X β H) a x) (hv:VR w β (ow X β H) va v) (q:Nat) :
    ∃ w',(Instr.storeAt t x v).run P w=.ok () w'∧Placed X w β H w' β (a7 H e.wr) q∧e.v=ag:=by
  unfold qj at he
  split at he
  case h_2=>cases he
  rename_i i hi
  split at he
  case h_2=>cases he
  rename_i z o row off cs hcs
  split at he
  case h_2=>cases he
  rename_i ob ps hlo
  split at he
  case isFalse=>cases he
  rename_i hz
  simp only [Bool.and_eq_true,beq_iff_eq,Nat.ble_eq,Nat.blt_eq] at hz
  obtain ⟨⟨⟨hz1,hz2⟩,hz3⟩,hz4⟩:=hz
  simp only [Option.some.injEq] at he
  subst he
  have hps:∀ p∈ps,p:=fun p hp=>hob p (by simp [hp])
  have hrow:row<ob.n:=hob _ (by simp)
  have hbx:ob.bx=true→ob.n=1:=hob _ (by simp)
  cases hx
  rename_i b base hβ
  have hlo':=fK hL hlo hps
  rcases hH o ob hlo' with h | ⟨b',base',cells,elem,h1,h2,h3⟩ | ⟨_,hz0,_⟩
  rotate_left 2
  · omega
  · rw [h.1] at hβ;cases hβ
  rw [hβ] at h1
  cases h1
  obtain ⟨hl,hc⟩:=ky hv hcs
  have hvl:v.cells.toList.length=cs.length:=by simp [hl]
  have hone:∀ u∈v.cells.toList,u.oneCell'=true:=by
    intro u hu
    obtain ⟨j,hj,rfl⟩:=List.getElem_of_mem hu
    have:=(hc j (by rw [← hvl];exact hj)).1
    simpa [One,Array.getD,show j<v.cells.size by simpa using hj] using this
  have hfit:base+(row*z+off)+v.cells.toList.length≤cells.size:=by
    obtain ⟨u,hu,_⟩:=h3 row hrow (off+cs.length - 1) (by omega)
    have:=(Array.getElem?_eq_some_iff.1 hu).1
    rw [hvl]
    rw [hz1] at this
    omega
  have hst:=run_storeCells_at P b (base+(row*z+off)) elem v.cells.toList 0 cells w h2 (by simpa using hfit) hone
  refine ⟨w.setRow b (cells.toList.take (base+(row*z+off))++v.cells.toList++cells.toList.drop (base+(row*z+off)+v.cells.toList.length)).toArray,?_,?_,rfl⟩
  · show (storeVar t ⟨b,base+(row*z+off),none⟩ v).run P w=_
    unfold storeVar
    have hsz:¬ (v.cells.size≠i.size):=by rw [← hl];simpa using hz3
    simp only [Sem.run_bind,bo hi,Result.andThen_ok,hsz,if_false,Sem.run_pure]
    exact hst
  · obtain ⟨obW,hlk,w1,w2,w3⟩:=D6 (H:=H) hL (ob':={ ob with f:=fN ob row (db z off (ob.f row) cs) }) hlo hps (A1 hlo':ob.isF=false)
    have hp:=Ba (k:=o) (ob:=obW)
      (w':=w.setRow b (cells.toList.take (base+(row*z+off))++v.cells.toList++cells.toList.drop (base+(row*z+off)+v.cells.toList.length)).toArray)
      (cells:=(cells.toList.take (base+(row*z+off))++v.cells.toList++cells.toList.drop (base+(row*z+off)+v.cells.toList.length)).toArray)
      (elem:=elem) (b:=b) (base:=base) hH hS hlk (.inr hβ) rfl rfl rfl (by simp) (fun c _ hcb=>setRow_other w b c _ hcb) (setRow_heap w b cells _ elem _ h2) ?hfree ?hown ?hcells
    case hfree =>
      intro j y a hj hjl ha he
      rcases hlk j y hjl with ⟨h,_⟩ | ⟨_,h⟩
      · exact hj h
      · exact hj (hS j o y ob a _ h hlo' ha hβ he)
    case hown =>
      intro _
      exact ⟨⟨o,ob,_,hlo',hβ,rfl⟩,cells,elem,_,h2,by rw [l8 _ _ _ hfit];exact Nat.le_refl _⟩
    case hcells =>
      intro i' hi' j hj
      rw [w1] at hi'
      rw [w2] at hj
      rw [w2]
      suffices hsf:∃ u,(cells.toList.take (base+(row*z+off))++v.cells.toList++cells.toList.drop (base+(row*z+off)+v.cells.toList.length)).toArray[base+(i'*ob.z+j)]? = some u∧One u ∧
          VR w β (ow X β H) ((fN ob row (db z off (ob.f row) cs) i').getD j ag) u by
        obtain ⟨u,q1,q2,q3⟩:=hsf
        exact ⟨u,q1,q2,w3 i' j _ _ _ _ hj q3⟩
      simp only at hi' hj
      rw [row_getElem? _ _ _ hfit]
      have keep:∀ r:Nat→List AV,(r i'=ob.f i')→∃ u,cells[base+(i'*ob.z+j)]? = some u∧One u∧VR w β (ow X β H) ((r i').getD j ag) u:=by
        intro r hr
        rw [hr]
        exact h3 i' hi' j hj
      by_cases hir:i'=row
      · subst hir
        have hrr:fN ob i' (db z off (ob.f i') cs) i'=db z off (ob.f i') cs:=by unfold fN;split<;>simp
        rw [hrr,kY (by omega)]
        by_cases hjr:off≤j∧j<off+cs.length
        · rw [if_pos (by rw [hvl,hz1];omega),if_pos hjr]
          obtain ⟨g1,g2⟩:=hc (j - off) (by omega)
          refine ⟨v.cells.getD (j - off) undef,?_,g1,g2⟩
          have hjl:j - off<v.cells.size:=by rw [← hl];omega
          have e:base+(i'*ob.z+j) - (base+(i'*z+off))=j - off:=by rw [hz1];omega
          rw [e]
          simp [Array.getD,hjl]
        · rw [if_neg (by rw [hvl,hz1];omega),if_neg hjr]
          exact h3 i' hi' j hj
      · have hnb:ob.bx=false:=by
          cases hbb:ob.bx with
          | false=>rfl
          | true=>have:=hbx hbb;omega
        have hrr:fN ob row (db z off (ob.f row) cs) i'=ob.f i':=by unfold fN;simp [hnb,hir]
        rw [if_neg,hrr]
        · exact h3 i' hi' j hj
        · rw [hvl]
          rintro ⟨g1,g2⟩
          have:=yk (i:=i') (r:=row) (z:=z) (j:=j) (q:=i'*z+j - row*z) (by omega) (by rw [hz1] at g1 g2;omega) (by rw [hz1] at g1;omega)
          exact hir this.1
    rw [sd hβ] at hp
    exact ⟨hp.hr,hp.sep,hp.ext,hp.mono,fun j hj=>.inl hj,hp.own⟩
end
section
variable {X:Nat→Prop} {P:Program} {w:World} {β:Id→Option Addr} {H:Hp}
theorem Dp {own:Bool→Nat→Prop} {tg:Bool} {cs:List PV} {x:Value} (h:VR w β own (.ip tg cs) x) :
    ∃ (b off:Nat) (g:Nat→Value),x=.pointer (some ⟨b,off,none⟩)∧¬ own tg b∧b<w.heap.size∧(∀ j,j<cs.length→w.cell? ⟨b,off+j,none⟩=some (g j))∧(∀ j,j<cs.length→One (g j)) ∧
      ∀ j,j<cs.length→PR w own (cs.getD j .any) (g j):=by
  cases h with
  | ip _ _ b off g hb hlt hcell hone hp=>exact ⟨b,off,g,rfl,hb,hlt,hcell,hone,hp⟩
theorem B5 {own:Bool→Nat→Prop} {tg:Bool} {z n:Nat} {f:Nat→List PV} {x:Value} (h:VR w β own (.p (.seq tg z n f)) x) :
    (n=0∧∃ a c,x=.slice a 0 c)∨∃ (b off c:Nat) (g:Nat→Nat→Value),x=.slice (some ⟨b,off,none⟩) n c∧¬ own tg b∧b<w.heap.size∧n≤c ∧
      (∀ i,i<n→∀ j,j<z→w.cell? ⟨b,off+(i*z+j),none⟩=some (g i j))∧(∀ i,i<n→∀ j,j<z→One (g i j)) ∧
      ∀ i,i<n→∀ j,j<z→PR w own ((f i).getD j .any) (g i j):=by
  cases h with
  | p _ _ h =>
    cases h with
    | seq0 _ _ _ a c=>exact .inl ⟨rfl,a,c,rfl⟩
    | seq _ _ _ _ b off c g hb hlt hc hcell hone hp=>exact .inr ⟨b,off,c,g,rfl,hb,hlt,hc,hcell,hone,hp⟩
theorem AX {α γ:Type} (g:α→γ) (l:List α) (j:Nat) (d:α) (d':γ) (hj:j<l.length):(l.map g).getD j d'=g (l.getD j d):=by
  simp [List.getD_eq_getElem?_getD,hj]
theorem fC {i:TypeInfo} {cs:List AV} (h:zeroCells i=some cs) :
    ∃ z,i.zero=some z∧cs.length=i.size∧z.cells.size=i.size∧∀ j,j<i.size→∃ u,z.cells[j]? = some u∧One u∧∀ (w:World) (β:Id→Option Addr) (own:Bool→Nat→Prop),VR w β own (cs.getD j ag) u:=by
  unfold zeroCells at h
  split at h
  case h_2=>cases h
  rename_i z hz
  split at h
  case isFalse=>cases h
  rename_i hc
  simp only [Bool.and_eq_true,List.all_eq_true,beq_iff_eq] at hc
  simp only [Option.some.injEq] at h
  subst h
  refine ⟨z,hz,by simp [hc.2],hc.2,fun j hj=>?_⟩
  have hj':j<z.cells.size:=by omega
  refine ⟨z.cells[j],by simp [hj'],hc.1 _ (by simp),fun w β own=>?_⟩
  rw [AX (fun v=>AV.p (bZ v)) z.cells.toList j undef ag (by simpa using hj')]
  have:z.cells.toList.getD j undef=z.cells[j]:=by simp [List.getD_eq_getElem?_getD,hj']
  rw [this]
  exact .p _ _ (me _ _ _)
theorem oO (hH:HR w β (ow X β H) H) (hS:Sep β H) {k:Nat} (hβ:β k=none) (t:TypeId) (v:Value) {cs:List AV} (hl:cs.length=v.cells.size) (hpos:0<cs.length)
    (hc:∀ j,j<cs.length→One (v.cells.getD j undef)∧VR w β (ow X β H) (cs.getD j ag) (v.cells.getD j undef)) :
    ∃ w',(newVar t v).run P w=.ok ⟨w.heap.size,0,none⟩ w' ∧
      Placed X w β H w' (dG β k ⟨w.heap.size,0,none⟩) (dy k ⟨true,cs.length,1,fun _=>cs⟩ H) k:=by
  refine ⟨w.alloc (.cells v.cells t),by simp [newVar,newRow],?_⟩
  refine il (cells:=v.cells) (elem:=t) hH hS (by unfold Ob.isF;cases h:cs.length with | zero=>omega | succ n=>rfl) (fun _ _ h=>h) hβ rfl rfl rfl rfl (fun i hi j hj=>?_)
  simp only at hi hj ⊢
  obtain ⟨h1,h2⟩:=hc j hj
  have:i=0:=by omega
  subst this
  refine ⟨v.cells.getD j undef,?_,h1,h2⟩
  have:j<v.cells.size:=by omega
  simp [Array.getD,this]
theorem lZ {s:TypeId} {a:AV} {x:Value} {f:Nat} {e:Eff} (he:gv P s a f=some e) (hx:VR w β (ow X β H) a x) :
    e.wr=[]∧∃ v,(Instr.fieldAt s x f).run P w=.ok v w∧VR w β (ow X β H) e.v v:=by
  unfold gv at he
  split at he
  case h_2=>cases he
  rename_i fs hs
  split at he
  case h_2=>cases he
  rename_i fl hf
  split at he
  case h_2=>cases he
  rename_i i hi
  split at he
  case isTrue=>cases he
  rename_i hsz
  have hsz':¬ (i.size=0):=by simpa using hsz
  have run:∀ (b o:Nat),(Instr.fieldAt s (.pointer (some ⟨b,o,none⟩)) f).run P w=.ok (.pointer (some ⟨b,o+fl.offset,none⟩)) w:=by
    intro b o
    simp [Instr.fieldAt,run_underlying hs,hf,Instr.sureAddr,fieldPlace,bo hi,hsz',Addr.add_plain]
  split at he
  · cases hx
    rename_i z o row off b base hβ
    simp only [Option.some.injEq] at he
    subst he
    refine ⟨rfl,_,run _ _,?_⟩
    have e:base+(row*z+off)+fl.offset=base+(row*z+(off+fl.offset)):=by omega
    rw [e]
    exact .pt _ _ _ _ _ _ hβ
  · split at he
    case isFalse=>cases he
    rename_i hle
    simp only [Nat.ble_eq] at hle
    rename_i tg cs _
    obtain ⟨b,off,g,rfl,hb,hlt,hcell,hone,hp⟩:=Dp hx
    simp only [Option.some.injEq] at he
    subst he
    refine ⟨rfl,_,run _ _,?_⟩
    refine .ip _ _ b (off+fl.offset) (fun j=>g (fl.offset+j)) hb hlt (fun j hj=>?_) (fun j hj=>?_) (fun j hj=>?_)
    · rw [List.length_drop] at hj
      rw [Nat.add_assoc]
      exact hcell _ (by omega)
    · rw [List.length_drop] at hj
      exact hone _ (by omega)
    · rw [List.length_drop] at hj
      have:=hp (fl.offset+j) (by omega)
      simpa [List.getD_eq_getElem?_getD,List.getElem?_drop] using this
  · cases he
theorem pC {t:TypeId} {d:TypeDesc} {i:TypeInfo} (h:P.underlying t=some d) (hi:P.info? t=some i) (hd:dW d=true) (cs:Array Value) (off:Nat) :
    (part t cs off).run P w=.ok (.agg (cs.extract off (off+i.size))) w:=by
  unfold part
  simp [fa h,hd,bo hi]
theorem jN {t:TypeId} {d:TypeDesc} (h:P.underlying t=some d) (hd:dW d=false) (cs:Array Value) (off:Nat) (v:Value) (hv:cs[off]? = some v) :
    (part t cs off).run P w=.ok v w:=by
  unfold part
  simp [fa h,hd,hv]
theorem uc {s:TypeId} {a:AV} {x:Value} {f:Nat} {e:Eff} (he:qa P s a f=some e) (hx:VR w β (ow X β H) a x) :
    e.wr=[]∧∃ v,(Instr.field s x f).run P w=.ok v w∧VR w β (ow X β H) e.v v:=by
  unfold qa at he
  split at he
  case h_2=>cases he
  rename_i fs hs
  split at he
  case h_2=>cases he
  rename_i fl hf
  split at he
  case h_2=>cases he
  rename_i d i hd hi
  split at he
  case h_2=>cases he
  rename_i cs
  split at he
  case isFalse=>cases he
  rename_i hle
  simp only [Bool.and_eq_true,Nat.ble_eq] at hle
  cases hx
  rename_i vs hl hone h
  split at he
  · rename_i hagg
    simp only [Option.some.injEq] at he
    subst he
    refine ⟨rfl,.agg (vs.extract fl.offset (fl.offset+i.size)),?_,?_⟩
    · simp [Instr.field,run_underlying hs,hf,asAgg,pC hd hi hagg]
    · have e:∀ j,j<i.size→(vs.extract fl.offset (fl.offset+i.size)).getD j undef=vs.getD (fl.offset+j) undef:=by
        intro j hj
        have h1:j<(vs.extract fl.offset (fl.offset+i.size)).size:=by simp;omega
        have h2:fl.offset+j<vs.size:=by omega
        simp only [Array.getD]
        rw [dif_pos h1,dif_pos h2]
        simp
      refine .agg _ _ (by simp [aM];omega) (fun j hj=>?_) (fun j hj=>?_)
      · rw [aM] at hj
        rw [e j hj]
        exact hone _ (by omega)
      · rw [aM] at hj
        rw [e j hj,aH _ _ _ _ hj]
        exact h _ (by omega)
  · rename_i hagg
    simp only [Option.some.injEq] at he
    subst he
    refine ⟨rfl,vs.getD fl.offset undef,?_,h _ (by omega)⟩
    have h2:fl.offset<vs.size:=by omega
    have hv:vs[fl.offset]? = some (vs.getD fl.offset undef):=by simp [Array.getD,h2]
    simp only [Instr.field,Sem.run_bind,run_underlying hs,Result.andThen_ok,hf,asAgg,Sem.run_pure]
    exact jN hd (by simpa using hagg) vs _ _ hv
theorem mB {t:TypeId} {a ia:AV} {x ix:Value} {e:Eff} (he:gR P t a ia=some e) (hob:∀ p∈e.ob,p) (hx:VR w β (ow X β H) a x) (hi:VR w β (ow X β H) ia ix) :
    e.wr=[]∧∃ v,(Instr.indexAt t x ix).run P w=.ok v w∧VR w β (ow X β H) e.v v:=by
  unfold gR at he
  split at he
  case h_2=>cases he
  rename_i kk k
  cases hi
  rename_i hik
  cases hik
  split at he
  · rename_i el hs
    split at he
    case h_2=>cases he
    rename_i i hinfo
    split at he
    · rename_i tg z n f
      split at he
      case isFalse=>cases he
      rename_i hz
      have hz:z=i.size:=by simpa using hz
      simp only [Option.some.injEq] at he
      subst he
      have h0:0≤k:=hob _ (by simp)
      have h1:k<(n:Int):=hob _ (by simp)
      rcases B5 hx with ⟨h,_⟩ | ⟨b,off,c,g,rfl,hb,hlt,hc,hcell,hone,hp⟩
      · omega
      · have hkn:k.toNat<n:=by omega
        refine ⟨rfl,.pointer (some ⟨b,off+k.toNat*z,none⟩),?_,?_⟩
        · simp [Instr.indexAt,asIntOf,run_underlying hs,h0,h1,bo hinfo,Addr.add_plain,hz]
        · refine .ip _ _ b _ (g k.toNat) hb hlt (fun j hj=>?_) (fun j hj=>?_) (fun j hj=>?_)
          · rw [aM] at hj
            rw [Nat.add_assoc]
            exact hcell _ hkn _ hj
          · rw [aM] at hj
            exact hone _ hkn _ hj
          · rw [aM] at hj
            rw [aH _ _ _ _ hj]
            exact hp _ hkn _ hj
    · rename_i z o off n
      split at he
      case isFalse=>cases he
      rename_i hz
      have hz:z=i.size:=by simpa using hz
      simp only [Option.some.injEq] at he
      subst he
      have h0:0≤k:=hob _ (by simp)
      have h1:k<(n:Int):=hob _ (by simp)
      cases hx with
      | ar0=>omega
      | ar _ _ _ _ b base c cells elem fr hβ hh hsz hc =>
        refine ⟨rfl,.pointer (some ⟨b,base+off*z+k.toNat*z,none⟩),?_,?_⟩
        · simp [Instr.indexAt,asIntOf,run_underlying hs,h0,h1,bo hinfo,Addr.add_plain,hz]
        · have e:base+off*z+k.toNat*z=base+((k.toNat+off)*z+0):=by rw [Nat.add_mul];omega
          rw [e]
          exact .pt _ _ _ _ _ _ hβ
    · cases he
  · rename_i len el hs
    split at he
    case h_2=>cases he
    rename_i i hinfo
    split at he
    case h_2=>cases he
    rename_i z o row off
    simp only [Option.some.injEq] at he
    subst he
    have h0:0≤k:=hob _ (by simp)
    have h1:k<(len:Int):=hob _ (by simp)
    cases hx
    rename_i b base hβ
    refine ⟨rfl,.pointer (some ⟨b,base+(row*z+off)+k.toNat*i.size,none⟩),?_,?_⟩
    · simp [Instr.indexAt,asIntOf,run_underlying hs,Instr.sureAddr,h0,h1,bo hinfo,Addr.add_plain]
    · have e:base+(row*z+off)+k.toNat*i.size=base+(row*z+(off+k.toNat*i.size)):=by omega
      rw [e]
      exact .pt _ _ _ _ _ _ hβ
  · cases he
theorem th {t:TypeId} {a ia:AV} {x ix:Value} {e:Eff} (he:ql P t a ia=some e) (hob:∀ p∈e.ob,p) (hx:VR w β (ow X β H) a x) (hi:VR w β (ow X β H) ia ix) :
    e.wr=[]∧∃ v,(Instr.index t x ix).run P w=.ok v w∧VR w β (ow X β H) e.v v:=by
  unfold ql at he
  split at he
  case h_2=>cases he
  rename_i kk k
  cases hi
  rename_i hik
  cases hik
  split at he
  · rename_i s hs
    simp only [Option.some.injEq] at he
    subst he
    have h0:0≤k:=hob _ (by simp)
    have h1:k<(s.size:Int):=hob _ (by simp)
    cases hx
    rename_i hp
    cases hp
    have hlt:k.toNat<s.size:=by omega
    have hd:k.toNat<s.data.size:=hlt
    refine ⟨rfl,.int .u8 (s[k.toNat]'hlt).toNat,?_,?_⟩
    · simp [Instr.index,asIntOf,run_underlying hs,h0,hlt]
    · have:s.data.getD k.toNat 0=s[k.toNat]'hlt:=by
        simp only [Array.getD]
        rw [dif_pos hd]
        rfl
      simp only [this]
      exact .p _ _ (.int _ _)
  · rename_i len el cs hs
    split at he
    case h_2=>cases he
    rename_i d i hd hinfo
    split at he
    case isTrue=>cases he
    rename_i hagg
    split at he
    case isFalse=>cases he
    rename_i hle
    simp only [Nat.ble_eq] at hle
    simp only [Option.some.injEq] at he
    subst he
    have h0:0≤k:=hob _ (by simp)
    have h1:k<(len:Int):=hob _ (by simp)
    cases hx
    rename_i vs hl hone h
    refine ⟨rfl,vs.getD (k.toNat*i.size) undef,?_,h _ (by omega)⟩
    have h2:k.toNat*i.size<vs.size:=by omega
    have hv:vs[k.toNat*i.size]? = some (vs.getD (k.toNat*i.size) undef):=by simp [Array.getD,h2]
    have hp:=jN (w:=w) hd (by simpa using hagg) vs _ _ hv
    simp [Instr.index,asIntOf,run_underlying hs,h0,h1,bo hinfo,hp]
  · cases he
theorem yR {t:TypeId} {a:AV} {x:Value} {e:Eff} (ty:TypeId) (he:yN P t a=some e) (hx:VR w β (ow X β H) a x) :
    e.wr=[]∧∃ v,(Builtin.len_ #[t] ty #[x]).run P w=.ok v w∧VR w β (ow X β H) e.v v:=by
  unfold yN at he
  split at he
  · rename_i s hs
    simp only [Option.some.injEq] at he
    subst he
    cases hx
    rename_i hp
    cases hp
    exact ⟨rfl,goInt s.size,by simp [Builtin.len_,run_underlying hs],.p _ _ (.int _ _)⟩
  · rename_i el tg z n f hs
    simp only [Option.some.injEq] at he
    subst he
    cases hx
    rename_i hp
    cases hp
    · exact ⟨rfl,goInt (0:Nat),by simp [Builtin.len_,run_underlying hs],.p _ _ (.int _ _)⟩
    · exact ⟨rfl,goInt n,by simp [Builtin.len_,run_underlying hs],.p _ _ (.int _ _)⟩
  · rename_i el hs
    simp only [Option.some.injEq] at he
    subst he
    cases hx
    rename_i hp
    cases hp
    exact ⟨rfl,goInt (0:Nat),by simp [Builtin.len_,run_underlying hs],.p _ _ (.int _ _)⟩
  · rename_i el z o off n hs
    simp only [Option.some.injEq] at he
    subst he
    cases hx
    · exact ⟨rfl,goInt (0:Nat),by simp [Builtin.len_,run_underlying hs],.p _ _ (.int _ _)⟩
    · exact ⟨rfl,goInt n,by simp [Builtin.len_,run_underlying hs],.p _ _ (.int _ _)⟩
  · cases he
theorem lX {nw:Bool} {k:IntKind} {n:Int} (hob:∀ p∈(CT nw k n).2,p) (own:Bool→Nat→Prop):PR w own (CT nw k n).1 (.int k (k.wrap n)):=by
  unfold CT at *
  cases nw with
  | true =>
    simp only [if_true] at hob ⊢
    rw [ew (hob _ (by simp)) (hob _ (by simp))]
    exact .int _ _
  | false=>exact .int _ _
theorem Cz {k:IntKind} {x y:Int} (h0:0≤x) (hy:0<y) (h1:x / y≤jF k):k.wrap (x.tdiv y)=x / y:=by
  rw [Int.tdiv_eq_ediv_of_nonneg h0]
  refine ew ?_ h1
  have:0≤x / y:=Int.ediv_nonneg h0 (by omega)
  cases k<;>simp only [lv]<;>omega
theorem Cn {nw:Bool} {op:BinOp} {k:IntKind} {x y:Int} {r:PV×List Prop} (he:xW nw op k x y=some r) (hob:∀ p∈r.2,p) (t:TypeId) (own:Bool→Nat→Prop) :
    ∃ v,(binOp op t (.int k x) (.int k y)).run P w=.ok v w∧PR w own r.1 v:=by
  cases op<;>simp only [xW,Option.some.injEq,reduceCtorEq] at he<;>subst he
  case add=>exact ⟨_,by simp [binOp,Op.intArith],lX hob own⟩
  case sub=>exact ⟨_,by simp [binOp,Op.intArith],lX hob own⟩
  case mul=>exact ⟨_,by simp [binOp,Op.intArith],lX hob own⟩
  case quo =>
    cases nw with
    | true =>
      simp only [if_true] at hob ⊢
      have h0:0≤x:=hob _ (by simp)
      have hy:0<y:=hob _ (by simp)
      have h1:x / y≤jF k:=hob _ (by simp)
      have hne:y≠0:=by omega
      exact ⟨.int k (x / y),by simp [binOp,Op.intDiv,hne,Cz h0 hy h1],.int _ _⟩
    | false =>
      have hne:y≠0:=hob _ (by simp)
      exact ⟨_,by simp [binOp,Op.intDiv,hne],.int _ _⟩
  case rem =>
    cases nw with
    | true =>
      simp only [if_true] at hob ⊢
      have h0:0≤x:=hob _ (by simp)
      have hy:0<y:=hob _ (by simp)
      have hne:y≠0:=by omega
      exact ⟨.int k (x % y),by simp [binOp,Op.intDiv,hne,Int.tmod_eq_emod_of_nonneg h0],.int _ _⟩
    | false =>
      have hne:y≠0:=hob _ (by simp)
      exact ⟨_,by simp [binOp,Op.intDiv,hne],.int _ _⟩
  case and=>exact ⟨.int k (bj .and k x y),by simp only [binOp,ne_eq,not_true_eq_false,if_false,Op.intBits];rfl,.int _ _⟩
  case or=>exact ⟨.int k (bj .or k x y),by simp only [binOp,ne_eq,not_true_eq_false,if_false,Op.intBits];rfl,.int _ _⟩
  case xor=>exact ⟨.int k (bj .xor k x y),by simp only [binOp,ne_eq,not_true_eq_false,if_false,Op.intBits];rfl,.int _ _⟩
  case andNot=>exact ⟨.int k (bj .andNot k x y),by simp only [binOp,ne_eq,not_true_eq_false,if_false,Op.intBits];rfl,.int _ _⟩
  case eql=>exact ⟨.bool (x==y),by simp [binOp,Op.intCmp],.bool _⟩
  case neq=>exact ⟨.bool (x != y),by simp [binOp,Op.intCmp],.bool _⟩
  case lss=>exact ⟨.bool (decide (x<y)),by simp [binOp,Op.intCmp],.bool _⟩
  case leq=>exact ⟨.bool (decide (x≤y)),by simp [binOp,Op.intCmp],.bool _⟩
  case gtr=>exact ⟨.bool (decide (x>y)),by simp [binOp,Op.intCmp],.bool _⟩
  case geq=>exact ⟨.bool (decide (x≥y)),by simp [binOp,Op.intCmp],.bool _⟩
end
section
variable {X:Nat→Prop} {P:Program} {w:World} {β:Id→Option Addr} {H:Hp}
theorem jM {t:TypeId} (ht:P.underlying t=some .bool) (d:Nat) (a b:Bool):(Op.equalIn (d+1) t (.bool a) (.bool b)).run P w=.ok (a==b) w:=by
  rw [Op.equalIn.eq_2]
  simp only [Sem.run_bind,run_underlying ht,Result.andThen_ok,Sem.run_pure]
theorem lV {t:TypeId} (ht:P.underlying t=some .bool) (a b:Bool):(Op.equal t (.bool a) (.bool b)).run P w=.ok (a==b) w :=
  jM ht 9999 a b
theorem DV {d:TypeDesc} {t:TypeId} (hd:P.underlying t=some d) {a b:AV} {x y:Value} {r:Bool} (h:I3 d a b=some r) (hx:VR w β (ow X β H) a x) (hy:VR w β (ow X β H) b y) (n:Nat) :
    dW d=false∧(Op.equalIn (n+1) t x y).run P w=.ok r w:=by
  unfold I3 at h
  split at h
  · cases hx;rename_i hx;cases hx
    cases hy;rename_i hy;cases hy
    split at h
    case isFalse=>cases h
    rename_i hk
    obtain rfl:=jH hk
    simp only [Option.some.injEq] at h
    subst h
    refine ⟨rfl,?_⟩
    rw [Op.equalIn.eq_2]
    simp only [Sem.run_bind,run_underlying hd,Result.andThen_ok,Sem.run_pure,if_true]
  · cases hx;rename_i hx;cases hx
    cases hy;rename_i hy;cases hy
    simp only [Option.some.injEq] at h
    subst h
    exact ⟨rfl,jM hd n _ _⟩
  · cases h
theorem oN {t:TypeId} {d:TypeDesc} (hd:P.underlying t=some d) (ha:dW d=false) (cs:Array Value) (off:Nat) (h:off<cs.size):(part t cs off).run P w=.ok (cs.getD off undef) w:=by
  unfold part
  simp only [Sem.run_bind,fa hd,Result.andThen_ok,ha,Bool.false_eq_true,if_false]
  rw [Array.getElem?_eq_getElem h]
  simp [Array.getD_eq_getD_getElem?,h]
theorem wz {xs ys:List AV} {us vs:Array Value} (hx:VR w β (ow X β H) (.agg xs) (.agg us)) (hy:VR w β (ow X β H) (.agg ys) (.agg vs)) (n:Nat):∀ (fs:List Field) (off:Nat) (r:Bool),
    s8 P xs ys fs off=some r→(Op.eqFields (n+1) us vs fs).run P w=.ok r w
  | [],off,r,h=>by
    simp only [s8,Option.some.injEq] at h
    subst h
    simp [Op.eqFields]
  | f::fs,off,r,h=>by
    simp only [s8] at h
    split at h
    case isFalse=>cases h
    rename_i hc
    simp only [Bool.and_eq_true,beq_iff_eq,bne_iff_ne,ne_eq,Nat.blt_eq] at hc
    obtain ⟨⟨⟨c1,c2⟩,c3⟩,c4⟩:=hc
    split at h
    case h_2=>cases h
    rename_i d hd
    split at h
    case h_2=>cases h
    rename_i b r' hb hr
    simp only [Option.some.injEq] at h
    subst h
    cases hx with
    | agg _ _ hl1 ho1 hv1 =>
      cases hy with
      | agg _ _ hl2 ho2 hv2 =>
        obtain ⟨e1,e2⟩:=DV hd hb (hv1 off c3) (hv2 off c4) n
        have ih:=wz (.agg _ _ hl1 ho1 hv1) (.agg _ _ hl2 ho2 hv2) n fs (off+1) r' hr
        simp only [Op.eqFields,c2,ne_eq,not_false_eq_true,if_true,Sem.run_bind,c1,oN hd e1 us off (by omega),oN hd e1 vs off (by omega),e2,Result.andThen_ok]
        cases b with
        | false=>simp
        | true=>simpa using ih
theorem jO {t:TypeId} {fs:Array Field} {xs ys:List AV} {us vs:Array Value} {r:Bool} (hs:P.stoodInHeld t=false) (ht:P.underlying t=some (.struct fs)) (hx:VR w β (ow X β H) (.agg xs) (.agg us))
    (hy:VR w β (ow X β H) (.agg ys) (.agg vs)) (h:s8 P xs ys fs.toList 0=some r):(Op.equal t (.agg us) (.agg vs)).run P w=.ok r w:=by
  have hf:P.fieldsOf t=fs:=by simp [Program.fieldsOf,ht]
  show (Op.equalIn (9999+1) t (.agg us) (.agg vs)).run P w=_
  rw [run_equalIn_struct w 9999 t us vs (by rw [hf];exact ht) hs,hf]
  exact wz hx hy 9998 fs.toList 0 r h
theorem Ao {nw:Bool} {op:BinOp} {t:TypeId} {a b:AV} {x y:Value} {e:Eff} (he:ri P nw op t a b=some e) (hob:∀ p∈e.ob,p)
    (hx:VR w β (ow X β H) a x) (hy:VR w β (ow X β H) b y) :
    e.wr=[]∧∃ v,(binOp op t x y).run P w=.ok v w∧VR w β (ow X β H) e.v v:=by
  unfold ri at he
  split at he
  · rename_i k a k' b
    cases hx;rename_i hx;cases hx
    cases hy;rename_i hy;cases hy
    split at he
    · simp only [Option.some.injEq] at he
      subst he
      have h0:0≤b:=hob _ (by simp)
      have h0':¬ b<0:=by omega
      exact ⟨rfl,.int k (qE k a b),by simp [binOp,Op.shift,h0',qE],.p _ _ (.int _ _)⟩
    · simp only [Option.some.injEq] at he
      subst he
      have h0:0≤b:=hob _ (by simp)
      have h0':¬ b<0:=by omega
      exact ⟨rfl,.int k (bT k a b),by simp [binOp,Op.shift,h0',bT],.p _ _ (.int _ _)⟩
    · split at he
      case isFalse=>cases he
      rename_i hk
      obtain rfl:=jH hk
      cases hr:xW nw op k a b with
      | none=>rw [hr] at he;cases he
      | some r =>
        rw [hr] at he
        simp only [Option.map_some,Option.some.injEq] at he
        subst he
        obtain ⟨v,h1,h2⟩:=Cn (P:=P) (w:=w) hr hob t (ow X β H)
        exact ⟨rfl,v,h1,.p _ _ h2⟩
  · rename_i a b
    cases hx;rename_i hx;cases hx
    cases hy;rename_i hy;cases hy
    split at he
    · simp only [Option.some.injEq] at he
      subst he
      have h0:a.size+b.size≤9223372036854775807:=hob _ (by simp)
      have h1:¬ ((a.size+b.size:Nat):Int)>IntKind.i64.max:=by
        simp only [IntKind.max,IntKind.signed,IntKind.bits]
        simp
        omega
      refine ⟨rfl,.string (a++b),?_,.p _ _ (.str _)⟩
      simp only [binOp,Op.stringOp,h1,if_false]
      rfl
    · simp only [Option.some.injEq] at he
      subst he
      exact ⟨rfl,.bool (a.toList==b.toList),rfl,.p _ _ (.bool _)⟩
    · simp only [Option.some.injEq] at he
      subst he
      exact ⟨rfl,.bool (!(a.toList==b.toList)),rfl,.p _ _ (.bool _)⟩
    · cases he
  · rename_i a b
    cases hx;rename_i hx;cases hx
    cases hy;rename_i hy;cases hy
    split at he
    case h_2=>cases he
    rename_i ht
    split at he
    · simp only [Option.some.injEq] at he
      subst he
      exact ⟨rfl,.bool (a==b),by
        show (do pure (Value.bool (← Op.equal t (.bool a) (.bool b))):Sem Value).run P w=_
        simp only [Sem.run_bind,lV ht,Result.andThen_ok,Sem.run_pure],.p _ _ (.bool _)⟩
    · simp only [Option.some.injEq] at he
      subst he
      exact ⟨rfl,.bool (!(a==b)),by
        show (do pure (Value.bool (!(← Op.equal t (.bool a) (.bool b)))):Sem Value).run P w=_
        simp only [Sem.run_bind,lV ht,Result.andThen_ok,Sem.run_pure],.p _ _ (.bool _)⟩
    · cases he
  · rename_i xs ys
    split at he
    case isFalse=>cases he
    rename_i hc
    simp only [Bool.and_eq_true,Bool.not_eq_true'] at hc
    split at he
    case h_2=>cases he
    rename_i fs ht
    have hx':=hx
    have hy':=hy
    cases hx
    cases hy
    split at he
    · obtain ⟨r,hr,rfl⟩:=Option.map_eq_some_iff.1 he
      exact ⟨rfl,.bool r,by
        show (do pure (Value.bool (← Op.equal t (.agg _) (.agg _))):Sem Value).run P w=_
        simp only [Sem.run_bind,jO hc.1 ht hx' hy' hr,Result.andThen_ok,Sem.run_pure],.p _ _ (.bool _)⟩
    · obtain ⟨r,hr,rfl⟩:=Option.map_eq_some_iff.1 he
      exact ⟨rfl,.bool (!r),by
        show (do pure (Value.bool (!(← Op.equal t (.agg _) (.agg _)))):Sem Value).run P w=_
        simp only [Sem.run_bind,jO hc.1 ht hx' hy' hr,Result.andThen_ok,Sem.run_pure],.p _ _ (.bool _)⟩
    · cases he
  · cases he
theorem tm {op:BinOp} {t:TypeId} {x y:Operand} {a b:AV} {u v:Value} (hx:VR w β (ow X β H) a u) (hy:VR w β (ow X β H) b v) {nw:Bool} {e:Eff}
    (he:ri P nw op t a b=some e):(eqGuard op t x y u v).run P w=.ok () w:=by
  unfold ri at he
  split at he
  · cases hx;rename_i hx;cases hx
    cases hy;rename_i hy;cases hy
    unfold eqGuard;split<;>rfl
  · cases hx;rename_i hx;cases hx
    cases hy;rename_i hy;cases hy
    unfold eqGuard;split<;>rfl
  · cases hx;rename_i hx;cases hx
    cases hy;rename_i hy;cases hy
    unfold eqGuard;split<;>rfl
  · split at he
    case isFalse=>cases he
    rename_i hc
    simp only [Bool.and_eq_true,Bool.not_eq_true'] at hc
    cases hx
    cases hy
    cases op<;>simp [eqGuard,hc.2]
  · cases he
theorem xk {c:Bool} {a b:AV} {x y:Value} {e:Eff} (he:tR c a b=some e) (hob:∀ p∈e.ob,p)
    (hx:VR w β (ow X β H) a x) (hy:VR w β (ow X β H) b y) :
    e.wr=[]∧VR w β (ow X β H) e.v (if c then x else y):=by
  have un:∀ {v:AV} {u:Value} {r:AV} {f:Bool→List Prop},BZ v=(r,f)→VR w β (ow X β H) v u→(∀ p∈f true,p)→VR w β (ow X β H) r u:=by
    intro v u r f hu hv hp
    unfold BZ at hu
    split at hu
    · simp only [Prod.mk.injEq] at hu
      obtain ⟨rfl,rfl⟩:=hu
      cases hv with
      | cnd _ _ _ h _=>exact h (hp _ (by simp))
    · simp only [Prod.mk.injEq] at hu
      obtain ⟨rfl,rfl⟩:=hu
      exact hv
  unfold tR at he
  split at he
  · rename_i p f q g h1 h2
    simp only [Option.some.injEq] at he
    subst he
    refine ⟨rfl,?_⟩
    cases c with
    | true =>
      have:=un h1 hx (fun p hp=>hob (true=true→p) (List.mem_append_left _ (List.mem_map.2 ⟨p,hp,rfl⟩)) rfl)
      simpa using this
    | false =>
      have:=un h2 hy (fun p hp=>hob (false=false→p) (List.mem_append_right _ (List.mem_map.2 ⟨p,hp,rfl⟩)) rfl)
      simpa using this
  · rename_i k p f k' q g h1 h2
    split at he
    case isFalse=>cases he
    rename_i hk
    obtain rfl:=jH hk
    simp only [Option.some.injEq] at he
    subst he
    refine ⟨rfl,?_⟩
    cases c with
    | true =>
      have:=un h1 hx (fun p hp=>hob (true=true→p) (List.mem_append_left _ (List.mem_map.2 ⟨p,hp,rfl⟩)) rfl)
      simpa using this
    | false =>
      have:=un h2 hy (fun p hp=>hob (false=false→p) (List.mem_append_right _ (List.mem_map.2 ⟨p,hp,rfl⟩)) rfl)
      simpa using this
  · cases he
theorem kL {mx:Bool} {a b:AV} {x y:Value} {e:Eff} (ts:Array TypeId) (ty:TypeId) (he:jz mx a b=some e)
    (hx:VR w β (ow X β H) a x) (hy:VR w β (ow X β H) b y) :
    e.wr=[]∧∃ v,(if mx then Builtin.max_ ts ty #[x,y] else Builtin.min_ ts ty #[x,y]).run P w=.ok v w∧VR w β (ow X β H) e.v v:=by
  unfold jz at he
  split at he
  case h_2=>cases he
  cases hx;rename_i hx;cases hx
  cases hy;rename_i hy;cases hy
  simp only [Option.some.injEq] at he
  subst he
  cases mx with
  | true=>exact ⟨rfl,_,by simp [Builtin.max_,Builtin.max2],.p _ _ (.int _ _)⟩
  | false=>exact ⟨rfl,_,by simp [Builtin.min_,Builtin.min2],.p _ _ (.int _ _)⟩
theorem gt {kk:IntKind} {n:Int} {y:Nat} (code:BoundsCode) (h0:0≤n) (h1:n≤(y:Int)):(Instr.sliceBound (.int kk n) y code).run P w=.ok n.toNat w:=by
  simp [Instr.sliceBound,asIntOf,h0,h1]
def l4 (R:AV→Value→Prop):Option AV→Option Value→Prop
  | some a,some v=>R a v
  | none,none=>True
  | _,_=>False
theorem eW {lo hi:Option AV} {lo' hi':Option Value} {len cap:Nat} {l h:Int} (isSlice:Bool) (hlc:len≤cap)
    (hlo:dE lo 0=some l) (hhi:dE hi (len:Nat)=some h) (h0:0≤l) (h1:l≤h) (h2:h≤(len:Int))
    (rlo:l4 (VR w β (ow X β H)) lo lo')
    (rhi:l4 (VR w β (ow X β H)) hi hi') :
    (Instr.sliceBounds isSlice len cap lo' hi' none).run P w=.ok (l.toNat,h.toNat,cap) w:=by
  have hL:∀ (y:Nat) (code:BoundsCode),l≤(y:Int)→(match lo' with | some v=>Instr.sliceBound v y code | none=>pure 0:Sem Nat).run P w=.ok l.toNat w:=by
    intro y code hy
    cases lo with
    | none =>
      cases lo' with
      | none=>simp [dE] at hlo;subst hlo;simp
      | some v=>exact absurd rlo (by simp [l4])
    | some a =>
      cases lo' with
      | none=>exact absurd rlo (by simp [l4])
      | some v =>
        simp only [l4] at rlo
        unfold dE at hlo
        split at hlo
        · rename_i hh;cases hh
        · rename_i kk n hh
          cases hh
          cases rlo;rename_i hp;cases hp
          simp only [Option.some.injEq] at hlo
          subst hlo
          exact gt code h0 hy
        · cases hlo
  have hHi:∀ (code:BoundsCode),(match hi' with | some v=>Instr.sliceBound v cap code | none=>pure len:Sem Nat).run P w=.ok h.toNat w:=by
    intro code
    cases hi with
    | none =>
      cases hi' with
      | none=>simp [dE] at hhi;subst hhi;simp
      | some v=>exact absurd rhi (by simp [l4])
    | some a =>
      cases hi' with
      | none=>exact absurd rhi (by simp [l4])
      | some v =>
        simp only [l4] at rhi
        unfold dE at hhi
        split at hhi
        · rename_i hh;cases hh
        · rename_i kk n hh
          cases hh
          cases rhi;rename_i hp;cases hp
          simp only [Option.some.injEq] at hhi
          subst hhi
          exact gt code (by omega) (by omega)
        · cases hhi
  have h4:=fun code=>hL h.toNat code (by omega)
  cases hi' with
  | none =>
    have h3:=hHi .sliceAcap
    simp only [Sem.run_pure,Result.ok.injEq,and_true] at h3
    cases lo' with
    | none =>
      have h5:=h4 .sliceB
      simp only [Sem.run_pure,Result.ok.injEq,and_true] at h5
      simp only [Instr.sliceBounds,Sem.run_bind,Sem.run_pure,Result.andThen_ok,← h3,← h5]
    | some v =>
      have h5:=h4 .sliceB
      simp only [] at h5
      simp only [Instr.sliceBounds,Sem.run_bind,Sem.run_pure,Result.andThen_ok,h3,h5]
      simp [h5]
  | some v =>
    have h3:=hHi (if isSlice then .sliceAcap else .sliceAlen)
    simp only [] at h3
    cases lo' with
    | none =>
      have h5:=h4 .sliceB
      simp only [Sem.run_pure,Result.ok.injEq,and_true] at h5
      simp only [Instr.sliceBounds,Sem.run_bind,Sem.run_pure,Result.andThen_ok,h3,← h5]
    | some v' =>
      have h5:=h4 .sliceB
      simp only [] at h5
      simp only [Instr.sliceBounds,Sem.run_bind,Sem.run_pure,Result.andThen_ok,h3]
      simp [h5]
end
section
variable {X:Nat→Prop} {P:Program} {w:World} {β:Id→Option Addr} {H:Hp}
theorem tN {t:TypeId} {a:AV} {lo hi:Option AV} {x:Value} {lo' hi':Option Value} {e:Eff} (he:pS P t a lo hi=some e) (hob:∀ p∈e.ob,p)
    (hx:VR w β (ow X β H) a x)
    (rlo:l4 (VR w β (ow X β H)) lo lo')
    (rhi:l4 (VR w β (ow X β H)) hi hi') :
    e.wr=[]∧∃ v,(Instr.sliceAt t x lo' hi' none).run P w=.ok v w∧VR w β (ow X β H) e.v v:=by
  unfold pS at he
  split at he
  · rename_i hs
    split at he
    case h_2=>cases he
    rename_i s
    split at he
    case h_2=>cases he
    rename_i l h hl hh
    simp only [Option.some.injEq] at he
    subst he
    have h0:0≤l:=hob _ (by simp)
    have h1:l≤h:=hob _ (by simp)
    have h2:=hob _ (List.mem_cons_of_mem _ (List.mem_cons_of_mem _ (List.mem_cons_self ..)))
    cases hx;rename_i hp;cases hp
    have hb:=eW (P:=P) (w:=w) (len:=s.size) (cap:=s.size) false (Nat.le_refl _) hl hh h0 h1 h2 rlo rhi
    refine ⟨rfl,.string (s.extract l.toNat h.toNat),?_,.p _ _ (.str _)⟩
    simp only [Instr.sliceAt,Instr.slice,Sem.run_bind,run_underlying hs,Result.andThen_ok,hb,Option.isSome_none,Bool.false_eq_true,if_false,Sem.run_pure]
  · rename_i el hs
    split at he
    case h_2=>cases he
    rename_i i hinfo
    have run:∀ (a:Option Addr) (len cap l h:Nat),(Instr.sliceBounds true len cap lo' hi' none).run P w=.ok (l,h,cap) w →
        (Instr.sliceAt t (.slice a len cap) lo' hi' none).run P w=.ok (.slice (if cap=l then a else a.map (·.add (l*i.size))) (h - l) (cap - l)) w:=by
      intro a len cap l h hb
      simp only [Instr.sliceAt,Instr.slice,Sem.run_bind,run_underlying hs,Result.andThen_ok,hb,bo hinfo,Sem.run_pure]
    split at he
    · rename_i tg z n f
      split at he
      case h_2=>cases he
      rename_i l h hl hh
      split at he
      case isFalse=>cases he
      rename_i hz
      have hz:z=i.size:=by simpa using hz
      simp only [Option.some.injEq] at he
      subst he
      have h0:0≤l:=hob _ (by simp)
      have h1:l≤h:=hob _ (by simp)
      have h2:h≤(n:Int):=hob _ (by simp)
      cases hx;rename_i hp
      cases hp with
      | seq0 _ _ _ a c =>
        have hb:=eW (P:=P) (w:=w) (len:=0) (cap:=c) true (Nat.zero_le _) hl hh h0 h1 h2 rlo rhi
        refine ⟨rfl,_,run _ _ _ _ _ hb,.p _ _ ?_⟩
        have e1:h.toNat - l.toNat=0:=by omega
        simp only [e1]
        exact .seq0 _ _ _ _ _
      | seq _ _ _ _ b off c g hb' hlt hc hcell hone hp =>
        have hb:=eW (P:=P) (w:=w) (len:=n) (cap:=c) true hc hl hh h0 h1 h2 rlo rhi
        refine ⟨rfl,_,run _ _ _ _ _ hb,.p _ _ ?_⟩
        by_cases hcl:c=l.toNat
        · have e1:h.toNat - l.toNat=0:=by omega
          simp only [e1]
          exact .seq0 _ _ _ _ _
        · simp only [hcl,if_false,Option.map_some,Addr.add_plain]
          refine .seq _ _ _ _ b (off+l.toNat*i.size) (c - l.toNat) (fun p q=>g (p+l.toNat) q) hb' hlt (by omega) (fun p hp' q hq=>?_) (fun p hp' q hq=>?_) (fun p hp' q hq=>?_)
          · have e:off+l.toNat*i.size+(p*z+q)=off+((p+l.toNat)*z+q):=by rw [Nat.add_mul,hz];omega
            rw [e]
            exact hcell _ (by omega) _ hq
          · exact hone _ (by omega) _ hq
          · exact hp _ (by omega) _ hq
    · rename_i z o off n
      split at he
      case h_2=>cases he
      rename_i l h hl hh
      split at he
      case isFalse=>cases he
      rename_i hz
      have hz:z=i.size:=by simpa using hz
      simp only [Option.some.injEq] at he
      subst he
      have h0:0≤l:=hob _ (by simp)
      have h1:l≤h:=hob _ (by simp)
      have h2:h≤(n:Int):=hob _ (by simp)
      cases hx with
      | ar0 _ _ _ a =>
        have hb:=eW (P:=P) (w:=w) (len:=0) (cap:=0) true (Nat.zero_le _) hl hh h0 h1 h2 rlo rhi
        refine ⟨rfl,_,run _ _ _ _ _ hb,?_⟩
        have e1:h.toNat - l.toNat=0:=by omega
        have e2:(0:Nat) - l.toNat=0:=by omega
        simp only [e1,e2]
        exact .ar0 _ _ _ _
      | ar _ _ _ _ b base c cells elem fr hβ hh' hsz hc =>
        have hb:=eW (P:=P) (w:=w) (len:=n) (cap:=c) true hc hl hh h0 h1 h2 rlo rhi
        refine ⟨rfl,_,run _ _ _ _ _ hb,?_⟩
        by_cases hcl:c=l.toNat
        · have e1:h.toNat - l.toNat=0:=by omega
          have e2:c - l.toNat=0:=by omega
          simp only [e1,e2]
          exact .ar0 _ _ _ _
        · simp only [hcl,if_false,Option.map_some,Addr.add_plain]
          have e:base+off*z+l.toNat*i.size=base+(l.toNat+off)*z:=by rw [Nat.add_mul,hz];omega
          rw [e]
          refine .ar _ _ _ _ b base (c - l.toNat) cells elem fr hβ hh' ?_ (by omega)
          have:l.toNat+off+(c - l.toNat)=off+c:=by omega
          rw [this]
          exact hsz
    · cases he
  · cases he
theorem xL {k:Nat} {t:TypeId} {la ca:AV} {l c:Value} {e:Eff} (hH:HR w β (ow X β H) H) (hS:Sep β H) (hβ:β k=none)
    (he:tO P k t la ca=some e) (hob:∀ p∈e.ob,p) (hl:VR w β (ow X β H) la l) (hc:VR w β (ow X β H) ca c) :
    ∃ v w' β',(Instr.makeSlice t l c).run P w=.ok v w'∧Placed X w β H w' β' (a7 H e.wr) k∧VR w' β' (ow X β' (a7 H e.wr)) e.v v:=by
  unfold tO at he
  split at he
  case h_2=>cases he
  rename_i el hs
  split at he
  case h_2=>cases he
  rename_i i hinfo
  split at he
  case h_2=>cases he
  rename_i zs kn n km m hzs
  cases hl;rename_i hp;cases hp
  cases hc;rename_i hp;cases hp
  simp only [Option.some.injEq] at he
  subst he
  have h0:0≤n:=hob _ (by simp)
  have h1:n≤m:=hob _ (by simp)
  have h2:m*i.bytes≤281474976710656:=hob _ (by simp)
  have h3:m≤9223372036854775807:=hob _ (by simp)
  obtain ⟨z,hz,hzl,hzs',hzc⟩:=fC hzs
  let cells:Array Value:=(Array.range (m.toNat*i.size)).map (fun q=>z.cells[q % z.cells.size]!)
  have hcells:∀ q,q<m.toNat*i.size→∃ u,cells[q]? = some u∧u=z.cells[q % i.size]!:=by
    intro q hq
    refine ⟨z.cells[q % z.cells.size]!,?_,by rw [hzs']⟩
    simp only [cells,Array.getElem?_map]
    rw [Array.getElem?_eq_getElem (by simpa using hq)]
    simp
  refine ⟨.slice (some ⟨w.heap.size,0,none⟩) n.toNat m.toNat,w.alloc (.cells cells el),dG β k ⟨w.heap.size,0,none⟩,?_,?_,?_⟩
  · have hr:=run_make (P:=P) w t el i z hs hinfo hz kn km n m h0 h1 (by rw [Int.mul_comm];exact h2) h3
    exact hr
  · simp only [a7]
    refine il (cells:=cells) (elem:=el) hH hS (dD rfl) (fun _ _ h=>h) hβ rfl rfl rfl rfl (fun p hp q hq=>?_)
    simp only at hp hq ⊢
    have hlt:p*i.size+q<m.toNat*i.size:=cS hp hq (by omega)
    obtain ⟨u,hu,hu'⟩:=hcells _ hlt
    obtain ⟨u2,g1,g2,g3⟩:=hzc q hq
    have hmod:(p*i.size+q) % i.size=q:=by rw [Nat.mul_comm,Nat.mul_add_mod];exact Nat.mod_eq_of_lt hq
    have hq':q<z.cells.size:=by omega
    have:u=u2:=by
      rw [hu',hmod]
      simp [hq'] at g1 ⊢
      exact g1
    exact ⟨u,hu,this ▸ g2,this ▸ g3 _ _ _⟩
  · have e:VR (w.alloc (.cells cells el)) (dG β k ⟨w.heap.size,0,none⟩) (ow X (dG β k ⟨w.heap.size,0,none⟩) (a7 H [(k,some ⟨false,i.size,n.toNat,fun _=>zs⟩)])) (.ar i.size k 0 n.toNat) (.slice (some ⟨w.heap.size,0+0*i.size,none⟩) n.toNat m.toNat):=by
      refine .ar i.size k 0 n.toNat w.heap.size 0 m.toNat cells el (0,0) (by simp [dG]) ?_ ?_ (by omega)
      · show (w.heap.push _)[w.heap.size]? = _
        simp
      · simp [cells]
    simpa using e
end
section
variable {X:Nat→Prop} {P:Program} {w:World} {β:Id→Option Addr} {H:Hp}
theorem tab_getElem? {α:Type} (n:Nat) (f:Nat→α) (j:Nat) (hj:j<n):(d7 n f)[j]? = some (f j):=by
  have hl:j<(d7 n f).length:=by rw [aM];exact hj
  have h2:=aH n f j (f j) hj
  rw [List.getD_eq_getElem?_getD,List.getElem?_eq_getElem hl] at h2
  rw [List.getElem?_eq_getElem hl]
  simpa using h2
theorem jS (b off n:Nat) (g:Nat→Value) (h:∀ j,j<n→w.cell? ⟨b,off+j,none⟩=some (g j)) :
    (loadCells ⟨b,off,none⟩ n).run P w=.ok (d7 n g).toArray w:=by
  have hl:n=(d7 n g).length:=(aM n g).symm
  have:=run_loadCells_list (P:=P) w ⟨b,off,none⟩ (d7 n g) (fun j v hv=>by
    have hj:j<n:=by rw [hl];exact (List.getElem?_eq_some_iff.1 hv).1
    rw [tab_getElem? n g j hj] at hv
    cases hv
    rw [Addr.add_plain]
    exact h j hj)
  rw [← hl] at this
  exact this
theorem ph {q m z:Nat} (h:q<m*z):q / z<m∧q % z<z∧q / z*z+q % z=q:=by
  have hz:0<z:=by
    rcases Nat.eq_zero_or_pos z with h0 | h0
    · subst h0;omega
    · exact h0
  refine ⟨Nat.div_lt_of_lt_mul (by rw [Nat.mul_comm];exact h),Nat.mod_lt _ hz,?_⟩
  rw [Nat.mul_comm]
  exact Nat.div_add_mod q z
structure Cells (P:Program) (w:World) (β:Id→Option Addr) (own:Bool→Nat→Prop) (z m:Nat) (fx:Nat→List AV) (x:Value) (news:Array Value):Prop where
  size:news.size=m*z
  len:∀ w2,(Builtin.lenOf x).run P w2=.ok m w2
  run:∀ w2:World,w2.heap=w.heap→(Builtin.firstCells z m x).run P w2=.ok news w2
  cell:∀ i,i<m→∀ j,j<z→∃ u,news[i*z+j]? = some u∧One u∧VR w β own ((fx i).getD j ag) u
  one:∀ u∈news.toList,u.oneCell'=true
theorem rU {z m b off:Nat} {fx:Nat→List AV} {g:Nat→Nat→Value} {len cap:Nat}
    (hcell:∀ i,i<m→∀ j,j<z→w.cell? ⟨b,off+(i*z+j),none⟩=some (g i j)) (hone:∀ i,i<m→∀ j,j<z→One (g i j)) {own:Bool→Nat→Prop}
    (hrel:∀ i,i<m→∀ j,j<z→VR w β own ((fx i).getD j ag) (g i j)) :
    Cells P w β own z m fx (.slice (some ⟨b,off,none⟩) m cap) (d7 (m*z) fun q=>g (q / z) (q % z)).toArray:=by
  refine ⟨by simp [aM],fun w2=>rfl,fun w2 hw=>?_,fun i hi j hj=>?_,fun u hu=>?_⟩
  · simp only [Builtin.firstCells]
    refine jS b off (m*z) _ (fun q hq=>?_)
    obtain ⟨h1,h2,h3⟩:=ph hq
    have:=hcell _ h1 _ h2
    rw [h3] at this
    rw [← this]
    simp [World.cell?,hw]
  · have hq:=cS hi hj (Nat.le_refl m)
    refine ⟨g i j,?_,hone i hi j hj,hrel i hi j hj⟩
    have hz:0<z:=by omega
    have e1:(i*z+j) / z=i:=by rw [Nat.mul_comm,Nat.mul_add_div hz,Nat.div_eq_of_lt hj];omega
    have e2:(i*z+j) % z=j:=by rw [Nat.mul_comm,Nat.mul_add_mod];exact Nat.mod_eq_of_lt hj
    have:=tab_getElem? (m*z) (fun q=>g (q / z) (q % z)) _ hq
    simp only [e1,e2] at this
    simpa using this
  · simp only at hu
    obtain ⟨q,hq,rfl⟩:=List.getElem_of_mem hu
    rw [aM] at hq
    obtain ⟨h1,h2,_⟩:=ph hq
    have:=hone _ h1 _ h2
    have e:=tab_getElem? (m*z) (fun q=>g (q / z) (q % z)) q hq
    have e':(d7 (m*z) fun q=>g (q / z) (q % z))[q]=g (q / z) (q % z):=by
      rw [List.getElem?_eq_getElem (by rw [aM];exact hq)] at e
      simpa using e
    rw [e']
    exact this
theorem lP {L:Hp} {z:Nat} {x:AV} {xv:Value} {m:Nat} {fx:Nat→List AV} {obx:List Prop} (hH:HR w β (ow X β H) H) (hL:∀ o ob,L.lookup o=some ob→H.lookup o=some ob)
    (he:j6 L z x=some (m,fx,obx)) (hob:∀ p∈obx,p) (hx:VR w β (ow X β H) x xv) :
    ∃ news,Cells P w β (ow X β H) z m fx xv news:=by
  have empty:∀ (a:Option Addr) (c:Nat) (fx:Nat→List AV),Cells P w β (ow X β H) z 0 fx (.slice a 0 c) #[]:=by
    intro a c fx
    refine ⟨by simp,fun w2=>rfl,fun w2 _=>?_,fun i hi=>absurd hi (Nat.not_lt_zero _),fun u hu=>by simp at hu⟩
    cases a with
    | none=>rfl
    | some a=>simp [Builtin.firstCells,loadCells,loadCellsFrom]
  unfold j6 at he
  split at he
  · simp only [Option.some.injEq,Prod.mk.injEq] at he
    obtain ⟨rfl,rfl,rfl⟩:=he
    cases hx;rename_i hp;cases hp
    exact ⟨_,empty none 0 _⟩
  · rename_i tg z' n f
    split at he
    case isFalse=>cases he
    rename_i hz
    have hz:z'=z:=by simpa using hz
    subst hz
    simp only [Option.some.injEq,Prod.mk.injEq] at he
    obtain ⟨rfl,rfl,rfl⟩:=he
    cases hx;rename_i hp
    cases hp with
    | seq0 _ _ _ a c=>exact ⟨_,empty a c _⟩
    | seq _ _ _ _ b off c g hb hlt hc hcell hone hp =>
      refine ⟨_,rU (len:=n) hcell hone (fun i hi j hj=>?_)⟩
      rw [aH _ _ _ _ hj]
      exact .p _ _ (hp i hi j hj)
  · rename_i z' o off n
    split at he
    case isFalse=>cases he
    rename_i hz
    have hz:z'=z:=by simpa using hz
    subst hz
    cases hlo:qQ L o with
    | none=>rw [hlo] at he;cases he
    | some obp =>
      obtain ⟨ob,ps⟩:=obp
      rw [hlo] at he
      simp only at he
      split at he
      case isFalse=>cases he
      rename_i hz
      have hz:ob.z=z':=by simpa using hz
      simp only [Option.some.injEq,Prod.mk.injEq] at he
      obtain ⟨rfl,rfl,rfl⟩:=he
      have hn:n+off≤ob.n:=hob _ (by simp)
      have hps:∀ p∈ps,p:=fun p hp=>hob p (by simp [hp])
      cases hx with
      | ar0 _ _ _ a=>exact ⟨_,empty a 0 _⟩
      | ar _ _ _ _ b base c cells elem fr hβ hh hsz hc =>
        by_cases hn0:n=0
        · subst hn0
          exact ⟨_,empty _ c _⟩
        rcases hH o ob (fK hL hlo hps) with h | ⟨b',base',cells',elem',h1,h2,h3⟩ | ⟨_,_,_,b',es,ck,h1,h2,_⟩
        rotate_left 2
        · rw [hβ] at h1;cases h1;rw [hh] at h2;cases h2
        · rw [h.1] at hβ;cases hβ
        · rw [hβ] at h1
          cases h1
          refine ⟨_,rU (len:=n) (g:=fun i j=>(cells'[base+((i+off)*z'+j)]?).getD undef) (fun i hi j hj=>?_) (fun i hi j hj=>?_) (fun i hi j hj=>?_)⟩
          · obtain ⟨u,g1,_,_⟩:=h3 (i+off) (by omega) j (by omega)
            rw [hz] at g1
            have e:base+off*z'+(i*z'+j)=base+((i+off)*z'+j):=by rw [Nat.add_mul];omega
            rw [e]
            simp [World.cell?,h2,g1]
          · obtain ⟨u,g1,g2,_⟩:=h3 (i+off) (by omega) j (by omega)
            rw [hz] at g1
            rw [g1]
            exact g2
          · obtain ⟨u,g1,_,g3⟩:=h3 (i+off) (by omega) j (by omega)
            rw [hz] at g1
            rw [g1,aH _ _ _ _ hj]
            exact g3
  · cases he
theorem kJ {t ty el:TypeId} {i:TypeInfo} (ht:P.underlying t=some (.slice el)) (hi:P.info? el=some i) {b off n c m:Nat} {x:Value} {news cur:Array Value} {elem:TypeId}
    (hg:w.heap[b]? = some (.cells cur elem (0,0))) (hlen:(Builtin.lenOf x).run P w=.ok m w) (hf:(Builtin.firstCells i.size m x).run P w=.ok news w) (hone:∀ u∈news.toList,u.oneCell'=true)
    (hroom:n+m≤c) (hfit:off+n*i.size+news.size≤cur.size) :
    (Builtin.append_ #[t,t] ty #[.slice (some ⟨b,off,none⟩) n c,x]).run P w =
      .ok (.slice (some ⟨b,off,none⟩) (n+m) c) (w.setRow b (cur.toList.take (off+n*i.size)++news.toList++cur.toList.drop (off+n*i.size+news.toList.length)).toArray):=by
  have hst:=run_storeCells_at P b (off+n*i.size) elem news.toList 0 cur w hg (by simpa using hfit) hone
  simp only [Nat.add_zero] at hst
  simp [Builtin.append_,run_underlying ht,sizeOf,typeInfo,hi,hlen,hroom,hf,Addr.add_plain]
  simpa using congrArg (fun r=>r.andThen fun _ w'=>Result.ok (Value.slice (some ⟨b,off,none⟩) (n+m) c) w') hst
theorem fp {t ty el:TypeId} {i:TypeInfo} {z:Value} (ht:P.underlying t=some (.slice el)) (hi:P.info? el=some i) (hz:i.zero=some z) {a:Option Addr} {n c m:Nat} {x:Value} {news olds:Array Value}
    (hlen:(Builtin.lenOf x).run P w=.ok m w) (hf:(Builtin.firstCells i.size m x).run P w.drew=.ok news w.drew) (ho:(Builtin.firstCells i.size n (.slice a n c)).run P w.drew=.ok olds w.drew)
    (hg:c<n+m) (h63:n+m≤9223372036854775807) (hb:(n+m)*i.bytes≤140737488355328) :
    (Builtin.append_ #[t,t] ty #[.slice a n c,x]).run P w =
      .ok (.slice (some ⟨w.heap.size,0,none⟩) (n+m) (grownCap w (n+m) c el))
        (w.drew.alloc (.cells (olds++news++Builtin.zeroCells z.cells (grownCap w (n+m) c el - (n+m))) el)):=by
  have hn:¬ (n+m≤c):=by omega
  have h63':¬ (9223372036854775807<((n:Int)+(m:Int))):=by omega
  have hfit:=growslice_fits hg hb
  have h48':¬ (281474976710656<Builtin.nextslicecap (n+m) c*i.bytes):=by omega
  simp [Builtin.append_,run_underlying ht,sizeOf,typeInfo,zeroValue,hi,hz,hlen,hn,h63',h48',Question.forced,hf,ho,newRow,grownCap]
end
section
variable {X:Nat→Prop} {P:Program} {w:World} {β:Id→Option Addr} {H:Hp}
theorem sr (k:Nat) {H H0:Hp} (h:∀ j x,lk H0 j=some x→lk H j=some x):∀ j x,lk (eM k H0) j=some x→lk H j=some x:=by
  intro j x hj
  rw [bV] at hj
  split at hj
  · cases hj
  · exact h _ _ hj
theorem kK {H0:Hp} {k:Nat} {ob:Ob} (hH:HR w β (ow X β H) H) (hS:Sep β H) (hnf:ob.isF=false) (hsub:∀ j x,lk H0 j=some x→lk H j=some x) (hβ:β k=none) (hn:ob.n=0) :
    Placed X w β H w β (dy k ob H0) k:=by
  have hlk:∀ x y,lk (dy k ob H0) x=some y→(x=⟨k,none⟩∧y=ob)∨lk H0 x=some y:=by
    intro x y h
    rw [jD] at h
    split at h
    · rename_i hx
      obtain ⟨h1,h2⟩:=a5 hnf h
      obtain ⟨o,m⟩:=x
      simp only at hx h1
      subst hx;subst h1
      exact .inl ⟨rfl,h2⟩
    · exact .inr h
  have own':∀ b,aU β (dy k ob H0) b→aU β H b:=by
    rintro b ⟨o,x,a,h1,h2,h3⟩
    rcases hlk o x h1 with ⟨h,_⟩ | h1
    · subst h;exact absurd (hβ.symm.trans h2) (by simp)
    · exact ⟨o,x,a,hsub _ _ h1,h2,h3⟩
  have own'':∀ t b,ow X β (dy k ob H0) t b→ow X β H t b:=fun t b h=>h.imp (own' b) id
  refine ⟨?_,?_,Ext.sub own'',fun _ _ h=>h,fun _ h=>.inl h,fun b h=>.inl (own' b h)⟩
  · intro o x ho
    rcases hlk o x ho with ⟨h,h'⟩ | ho
    · subst h;subst h'
      exact .inl ⟨hβ,hn⟩
    · rcases hH o x (hsub _ _ ho) with h | ⟨b,base,cells,elem,h1,h2,h3⟩ | h
      · exact .inl h
      · refine .inr (.inl ⟨b,base,cells,elem,h1,h2,fun i hi j hj=>?_⟩)
        obtain ⟨v,h4,h5,h6⟩:=h3 i hi j hj
        exact ⟨v,h4,h5,h6.ext (Ext.sub own'') (fun _ _ h=>h)⟩
      · exact .inr (.inr h)
  · intro o o' x x' a a' h1 h2 h3 h4 h5
    rcases hlk o x h1 with ⟨h,_⟩ | h1
    · subst h;exact absurd (hβ.symm.trans h3) (by simp)
    · rcases hlk o' x' h2 with ⟨h,_⟩ | h2
      · subst h;exact absurd (hβ.symm.trans h4) (by simp)
      · exact hS o o' x x' a a' (hsub _ _ h1) (hsub _ _ h2) h3 h4 h5
theorem fW {t ty el:TypeId} {i:TypeInfo} (ht:P.underlying t=some (.slice el)) (hi:P.info? el=some i) {a:Option Addr} {n c:Nat} {x:Value} {news:Array Value}
    (hlen:(Builtin.lenOf x).run P w=.ok 0 w) (hf:(Builtin.firstCells i.size 0 x).run P w=.ok news w) (hnews:news.size=0) (hroom:n≤c) :
    (Builtin.append_ #[t,t] ty #[.slice a n c,x]).run P w=.ok (.slice a n c) w:=by
  have:news = #[]:=by simpa using hnews
  subst this
  cases a<;>simp [Builtin.append_,run_underlying ht,sizeOf,typeInfo,hi,hlen,hroom,hf,storeCells]
theorem q5 {k z n m el:Nat} {H0:Hp} {fs fx:Nat→List AV} {sv xv:Value} {olds news rest:Array Value} (hH:HR w β (ow X β H) H) (hS:Sep β H)
    (hsub:∀ j x,lk H0 j=some x→lk H j=some x) (hβ:β k=none) (cs:Cells P w β (ow X β H) z n fs sv olds) (cx:Cells P w β (ow X β H) z m fx xv news)
    (f:Nat→List AV) (hf1:∀ i,i<n→f i=fs i) (hf2:∀ i,i<m→f (n+i)=fx i) (c:Nat) (hc:n+m≤c) (hrest:rest.size=(c - (n+m))*z) :
    Placed X w β H (w.drew.alloc (.cells (olds++news++rest) el)) (dG β k ⟨w.heap.size,0,none⟩) (dy k ⟨false,z,n+m,f⟩ H0) k ∧
      VR (w.drew.alloc (.cells (olds++news++rest) el)) (dG β k ⟨w.heap.size,0,none⟩) (ow X (dG β k ⟨w.heap.size,0,none⟩) (dy k ⟨false,z,n+m,f⟩ H0)) (.ar z k 0 (n+m)) (.slice (some ⟨w.heap.size,0,none⟩) (n+m) c):=by
  constructor
  · refine il (cells:=olds++news++rest) (elem:=el) hH hS (dD rfl) hsub hβ rfl rfl rfl rfl (fun p hp q hq=>?_)
    simp only at hp hq ⊢
    by_cases hpn:p<n
    · obtain ⟨u,h1,h2,h3⟩:=cs.cell p hpn q hq
      have hlt:p*z+q<olds.size:=by rw [cs.size];exact cS hpn hq (Nat.le_refl _)
      refine ⟨u,?_,h2,by rw [hf1 p hpn];exact h3⟩
      rw [Array.append_assoc,Array.getElem?_append_left hlt]
      exact h1
    · obtain ⟨u,h1,h2,h3⟩:=cx.cell (p - n) (by omega) q hq
      have e0:p=n+(p - n):=by omega
      have e1:p*z+q=olds.size+((p - n)*z+q):=by
        rw [cs.size]
        conv=>lhs;rw [e0,Nat.add_mul]
        omega
      have hlt:(p - n)*z+q<news.size:=by rw [cx.size];exact cS (by omega) hq (Nat.le_refl _)
      refine ⟨u,?_,h2,by rw [e0,hf2 _ (by omega)];exact h3⟩
      rw [Array.append_assoc,Array.getElem?_append_right (by omega),e1]
      rw [Nat.add_sub_cancel_left,Array.getElem?_append_left hlt]
      exact h1
  · have e:VR (w.drew.alloc (.cells (olds++news++rest) el)) (dG β k ⟨w.heap.size,0,none⟩) (ow X (dG β k ⟨w.heap.size,0,none⟩) (dy k ⟨false,z,n+m,f⟩ H0)) (.ar z k 0 (n+m)) (.slice (some ⟨w.heap.size,0+0*z,none⟩) (n+m) c):=by
      refine .ar z k 0 (n+m) w.heap.size 0 c (olds++news++rest) el (0,0) (by simp [dG]) ?_ ?_ hc
      · show (w.heap.push _)[w.heap.size]? = _
        simp
      · simp only [Array.size_append,cs.size,cx.size,hrest,Nat.zero_add]
        rw [← Nat.add_mul,← Nat.add_mul]
        have:n+m+(c - (n+m))=c:=by omega
        rw [this]
        exact Nat.le_refl _
    simpa using e
theorem Al (H:Hp) (e:Nat×Option Ob) (k:Nat) (ob:Ob):a7 H [e,(k,some ob)]=dy k ob (a7 H [e]):=by
  obtain ⟨j,x⟩:=e
  cases x<;>rfl
theorem B8 {L H:Hp} (hL:∀ o ob,L.lookup o=some ob→H.lookup o=some ob) {o:Id} {ob:Ob} {ps:List Prop} (h:qQ L o=some (ob,ps)) :
    (∀ j y,lk (a7 H [Fd L o]) j=some y→lk H j=some y)∧lk (a7 H [Fd L o]) o=none:=by
  obtain ⟨k,m⟩:=o
  cases m with
  | none =>
    refine ⟨sr k (fun _ _ h=>h),?_⟩
    show lk (eM k H) ⟨k,none⟩=none
    rw [bV,if_pos rfl]
  | some i =>
    unfold qQ at h
    simp only at h
    split at h
    case h_2=>cases h
    rename_i F hF
    split at h
    case h_2=>cases h
    rename_i hf
    have e:Fd L ⟨k,some i⟩=(k,some { F with f:=fun q=>if q=i then [] else F.f q }):=by simp only [Fd,hF]
    rw [e]
    have hH:=hL k F hF
    have hf':({ F with f:=fun q=>if q=i then [] else F.f q }:Ob).isF=true:=by unfold Ob.isF at hf ⊢;exact hf
    constructor
    · intro j y hj
      simp only [a7] at hj
      rw [jD] at hj
      split at hj
      · rename_i hjk
        obtain ⟨j1,j2⟩:=j
        simp only at hjk
        subst hjk
        unfold lk
        rw [hH]
        cases j2 with
        | none=>simp [vw,hf'] at hj
        | some q =>
          simp only [vw,hf',true_and] at hj ⊢
          split at hj
          · rename_i hq
            rw [if_pos ⟨hf,hq⟩]
            by_cases e:q=i
            · simp [e,bt] at hj
            · simpa [e] using hj
          · cases hj
      · exact hj
    · simp only [a7]
      rw [jD,if_pos rfl]
      simp [vw,bt]
theorem r7 {k:Nat} {L:Hp} {t t' ty:TypeId} {sa xa:AV} {s x:Value} {e:Eff} (hH:HR w β (ow X β H) H) (hS:Sep β H) (hβ:β k=none)
    (hL:∀ o ob,L.lookup o=some ob→H.lookup o=some ob)
    (he:lY P k L t t' sa xa=some e) (hob:∀ p∈e.ob,p) (hs:VR w β (ow X β H) sa s) (hx:VR w β (ow X β H) xa x) :
    ∃ v w' β',(Builtin.append_ #[t,t'] ty #[s,x]).run P w=.ok v w'∧Placed X w β H w' β' (a7 H e.wr) k∧VR w' β' (ow X β' (a7 H e.wr)) e.v v:=by
  unfold lY at he
  split at he
  case isFalse=>cases he
  rename_i htt
  have htt:t=t':=by simpa using htt
  subst htt
  split at he
  case h_2=>cases he
  rename_i el ht
  split at he
  case h_2=>cases he
  rename_i i hi
  split at he
  case h_2=>cases he
  rename_i zs m fx obx hzs hrx
  split at he
  case isTrue=>cases he
  rename_i hsz
  have hsz:i.size≠0:=by simpa using hsz
  obtain ⟨z0,hz0,hzl,hzs',hzc⟩:=fC hzs
  have hrest:∀ q:Nat,(Builtin.zeroCells z0.cells q).size=q*i.size:=fun q=>by rw [size_zeroCells,hzs']
  split at he
  · simp only [Option.some.injEq] at he
    subst he
    cases hs;rename_i hp;cases hp
    obtain ⟨news,cx⟩:=lP (P:=P) hH hL hrx (fun p hp=>hob p (by simp [hp])) hx
    have hb:m*i.bytes≤140737488355328:=hob _ (by simp)
    have h63:m≤9223372036854775807:=hob _ (by simp)
    simp only [a7]
    by_cases hm:m=0
    · subst hm
      refine ⟨_,w,β,fW ht hi (cx.len w) (cx.run w rfl) (by rw [cx.size];simp) (Nat.le_refl _),kK hH hS (dD rfl) (fun _ _ h=>h) hβ rfl,.ar0 _ _ _ _⟩
    · have cs:Cells P w β (ow X β H) i.size 0 (fun _=>[]) (.slice none 0 0) #[] :=
        ⟨by simp,fun w2=>rfl,fun w2 _=>rfl,fun i hi=>absurd hi (Nat.not_lt_zero _),fun u hu=>by simp at hu⟩
      have hr:=fp (P:=P) (w:=w) (ty:=ty) ht hi hz0 (a:=none) (n:=0) (c:=0) (cx.len w) (cx.run w.drew rfl) (cs.run w.drew rfl) (by omega) (by omega) (by simpa using hb)
      have hg:=q5 (P:=P) (k:=k) (el:=el) (rest:=Builtin.zeroCells z0.cells (grownCap w (0+m) 0 el - (0+m))) hH hS (H0:=H) (fun _ _ h=>h) hβ cs cx fx (fun i hi=>absurd hi (Nat.not_lt_zero _)) (fun i _=>by rw [Nat.zero_add])
        (grownCap w (0+m) 0 el) (grownCap_ge _ _ _ _) (hrest _)
      simp only [Nat.zero_add] at hr hg
      exact ⟨_,_,_,hr,hg.1,hg.2⟩
  · rename_i z o off n
    split at he
    case h_2=>cases he
    rename_i ob ps hlo
    split at he
    case isFalse=>cases he
    rename_i hz
    simp only [Bool.and_eq_true,beq_iff_eq,Bool.not_eq_true'] at hz
    obtain ⟨⟨hz1,hz2⟩,hz3⟩:=hz
    subst hz1
    simp only [Option.some.injEq] at he
    subst he
    have hps:∀ p∈ps,p:=fun p hp=>hob p (by simp [hp])
    have hlo':=fK hL hlo hps
    obtain ⟨news,cx⟩:=lP (P:=P) hH hL hrx (fun p hp=>hob p (by simp [hp])) hx
    have hnob:n+off≤ob.n:=hob _ (by simp)
    have hb:(n+m)*i.bytes≤140737488355328:=hob _ (by simp)
    have h63:n+m≤9223372036854775807:=hob _ (by simp)
    obtain ⟨olds,cs⟩:=lP (P:=P) (L:=L) (z:=i.size) (x:=.ar i.size o off n) (m:=n) (fx:=fun p=>d7 i.size fun j=>(ob.f (p+off)).getD j ag) (obx:=ps++[n+off≤ob.n]) hH hL (by simp [j6,hlo,hz2]) (fun p hp=>by rcases List.mem_append.1 hp with hp | hp;exact hps p hp;rw [List.mem_singleton] at hp;rw [hp];exact hnob) hs
    obtain ⟨hsub,hgone⟩:=B8 hL hlo
    rw [Al]
    generalize a7 H [Fd L o]=HD at hsub hgone ⊢
    have grow:∀ (a:Option Addr) (c:Nat),s=.slice a n c→c<n+m →
        ∃ v w' β',(Builtin.append_ #[t,t] ty #[s,x]).run P w=.ok v w'∧Placed X w β H w' β' (dy k ⟨false,i.size,n+m,fun j=>if j<n then ob.f (j+off) else fx (j - n)⟩ HD) k ∧
          VR w' β' (ow X β' (dy k ⟨false,i.size,n+m,fun j=>if j<n then ob.f (j+off) else fx (j - n)⟩ HD)) (.ar i.size k 0 (n+m)) v:=by
      intro a c hsv hcn
      subst hsv
      have hr:=fp (P:=P) (w:=w) (ty:=ty) ht hi hz0 (a:=a) (n:=n) (c:=c) (cx.len w) (cx.run w.drew rfl) (cs.run w.drew rfl) hcn h63 hb
      have cs':Cells P w β (ow X β H) i.size n (fun p=>ob.f (p+off)) (.slice a n c) olds:=by
        refine ⟨cs.size,cs.len,cs.run,fun p hp q hq=>?_,cs.one⟩
        obtain ⟨u,h1,h2,h3⟩:=cs.cell p hp q hq
        rw [aH _ _ _ _ hq] at h3
        exact ⟨u,h1,h2,h3⟩
      have hg:=q5 (P:=P) (k:=k) (el:=el) (rest:=Builtin.zeroCells z0.cells (grownCap w (n+m) c el - (n+m))) hH hS hsub hβ cs' cx
        (fun j=>if j<n then ob.f (j+off) else fx (j - n)) (fun p hp=>by simp [hp]) (fun p hp=>by rw [if_neg (by omega),Nat.add_sub_cancel_left]) (grownCap w (n+m) c el) (grownCap_ge _ _ _ _) (hrest _)
      exact ⟨_,_,_,hr,hg.1,hg.2⟩
    cases hs with
    | ar0 _ _ _ a =>
      by_cases hm:m=0
      · subst hm
        exact ⟨_,w,β,fW ht hi (cx.len w) (cx.run w rfl) (by rw [cx.size];simp) (Nat.le_refl _),kK hH hS (dD rfl) hsub hβ rfl,.ar0 _ _ _ _⟩
      · exact grow a 0 rfl (by omega)
    | ar _ _ _ _ b base c cells elem fr hβo hh hszc hc =>
      by_cases hroom:n+m≤c
      · rcases hH o ob hlo' with h | ⟨b',base',cells',elem',h1,h2,h3⟩ | ⟨_,_,_,b',es,ck,h1,h2,_⟩
        rotate_left 2
        · rw [hβo] at h1;cases h1;rw [hh] at h2;cases h2
        · rw [h.1] at hβo;cases hβo
        rw [hβo] at h1
        cases h1
        rw [hh] at h2
        cases h2
        have hnz:n*i.size+news.size=(n+m)*i.size:=by rw [cx.size,← Nat.add_mul]
        have hle:(n+m)*i.size≤c*i.size:=Nat.mul_le_mul_right _ hroom
        have hexp:(off+c)*i.size=off*i.size+c*i.size:=Nat.add_mul _ _ _
        have hfit:base+off*i.size+n*i.size+news.size≤cells.size:=by omega
        have hfit':base+off*i.size+n*i.size+news.toList.length≤cells.size:=by simpa using hfit
        have hr:=kJ (P:=P) (w:=w) (ty:=ty) ht hi hh (cx.len w) (cx.run w rfl) cx.one hroom hfit
        refine ⟨_,_,dG β k ⟨b,base+off*i.size,none⟩,hr,?_,?_⟩
        · rw [← ft k _ HD]
          refine jK (H0:=eM k HD) (b:=b) (base:=base+off*i.size) (cells:=(cells.toList.take (base+off*i.size+n*i.size)++news.toList++cells.toList.drop (base+off*i.size+n*i.size+news.toList.length)).toArray) (elem:=elem)
            hH hS (dD rfl) (sr k hsub) (fun m=>by rw [bV];simp) (.inl hβ) rfl rfl rfl (by simp) (fun d _ hdb=>setRow_other w b d _ hdb) (setRow_heap w b cells _ elem _ hh) ?_ ?_ ?_
          · intro j y a hj ha hab
            rw [bV] at hj
            split at hj
            · cases hj
            · have e:=hS j o y ob a _ (hsub j y hj) hlo' ha hβo hab
              rw [e,hgone] at hj
              cases hj
          · intro _
            exact ⟨⟨o,ob,_,hlo',hβo,rfl⟩,cells,elem,_,hh,by rw [l8 _ _ _ hfit'];exact Nat.le_refl _⟩
          · intro p hp q hq
            simp only at hp hq ⊢
            rw [row_getElem? _ _ _ hfit']
            by_cases hpn:p<n
            · have hlt:=cS hpn hq (Nat.le_refl n)
              rw [if_neg (by omega)]
              obtain ⟨u,g1,g2,g3⟩:=h3 (p+off) (by omega) q (by omega)
              refine ⟨u,?_,g2,by simpa [hpn] using g3⟩
              rw [← g1,hz2]
              congr 1
              rw [Nat.add_mul]
              omega
            · obtain ⟨u,g1,g2,g3⟩:=cx.cell (p - n) (by omega) q hq
              have hlt:(p - n)*i.size+q<m*i.size:=cS (by omega) hq (Nat.le_refl m)
              have e0:p=n+(p - n):=by omega
              have e1:p*i.size=n*i.size+(p - n)*i.size:=by conv=>lhs;rw [e0,Nat.add_mul]
              have hsn:news.toList.length=m*i.size:=by simpa using cx.size
              rw [if_pos (by omega)]
              refine ⟨u,?_,g2,by simpa [hpn] using g3⟩
              have e2:base+off*i.size+(p*i.size+q) - (base+off*i.size+n*i.size)=(p - n)*i.size+q:=by omega
              rw [e2]
              simpa using g1
        · have e:VR (w.setRow b (cells.toList.take (base+off*i.size+n*i.size)++news.toList++cells.toList.drop (base+off*i.size+n*i.size+news.toList.length)).toArray) (dG β k ⟨b,base+off*i.size,none⟩)
              (ow X (dG β k ⟨b,base+off*i.size,none⟩) (dy k ⟨false,i.size,n+m,fun j=>if j<n then ob.f (j+off) else fx (j - n)⟩ HD)) (.ar i.size k 0 (n+m)) (.slice (some ⟨b,base+off*i.size+0*i.size,none⟩) (n+m) c):=by
            refine .ar i.size k 0 (n+m) b (base+off*i.size) c _ elem (0,0) (by simp [dG]) (setRow_heap w b cells _ elem _ hh) ?_ hroom
            rw [l8 _ _ _ hfit',Nat.zero_add]
            omega
          simpa using e
      · exact grow _ c rfl (by omega)
  · cases he
end
section
variable {X:Nat→Prop} {P:Program} {w:World} {β:Id→Option Addr} {H:Hp}
theorem oJ (off:Nat):∀ (l:List Value) (s:Nat) (arr:Array Value),
    (((l.zipIdx s).foldl (fun cs p=>cs.setIfInBounds (off+p.2) p.1) arr).size=arr.size) ∧
    ∀ q,((l.zipIdx s).foldl (fun cs p=>cs.setIfInBounds (off+p.2) p.1) arr)[q]? = if off+s≤q∧q<off+s+l.length∧q<arr.size then l[q - off - s]? else arr[q]?
  | [],s,arr=>by refine ⟨rfl,fun q=>?_⟩;rw [if_neg (by simp;omega)];rfl
  | v::l,s,arr=>by
    simp only [List.zipIdx_cons,List.foldl_cons]
    obtain ⟨h1,h2⟩:=oJ off l (s+1) (arr.setIfInBounds (off+s) v)
    refine ⟨by rw [h1];simp,fun q=>?_⟩
    rw [h2]
    simp only [Array.size_setIfInBounds,List.length_cons]
    by_cases hq:q=off+s
    · subst hq
      rw [if_neg (by omega)]
      by_cases hs:off+s<arr.size
      · rw [if_pos (by omega)]
        have:off+s - off - s=0:=by omega
        rw [this]
        simp [hs]
      · rw [if_neg (by omega)]
        simp [hs]
    · by_cases hc:off+(s+1)≤q∧q<off+(s+1)+l.length∧q<arr.size
      · rw [if_pos hc,if_pos (by omega)]
        have:q - off - s=(q - off - (s+1))+1:=by omega
        rw [this]
        simp
      · rw [if_neg hc,if_neg (by omega)]
        rw [Array.getElem?_setIfInBounds_ne (by omega)]
def CR (w:World) (β:Id→Option Addr) (own:Bool→Nat→Prop) (cs:List AV) (vs:Array Value):Prop :=
  cs.length=vs.size∧∀ j,j<cs.length→One (vs.getD j undef)∧VR w β own (cs.getD j ag) (vs.getD j undef)
theorem jx {vs:Array Value} {j:Nat} {u:Value} (h:vs[j]? = some u):vs.getD j undef=u:=by
  simp [Array.getD_eq_getD_getElem?,h]
theorem lE {own:Bool→Nat→Prop} {jK:Nat→Option (Nat×Nat)}:∀ (parts:List (Nat×AV)) (parts':List (Nat×Value)) (cs:List AV) (vs:Array Value) (cs':List AV),
    CR w β own cs vs→parts.length=parts'.length→(∀ (j:Nat) (p:Nat×AV) (p':Nat×Value),parts[j]? = some p→parts'[j]? = some p'→p.1=p'.1∧VR w β own p.2 p'.2) →
    fu jK cs parts=some cs'→∃ vs',Instr.fill jK vs parts'=some vs'∧CR w β own cs' vs'
  | [],[],cs,vs,cs',hc,_,_,h=>by
    simp only [fu,Option.some.injEq] at h
    subst h
    exact ⟨vs,rfl,hc⟩
  | [],_::_,_,_,_,_,hl,_,_=>by simp at hl
  | _::_,[],_,_,_,_,hl,_,_=>by simp at hl
  | (i,v)::parts,(i',v')::parts',cs,vs,cs',hc,hl,hp,h=>by
    obtain ⟨h1,h2⟩:=hp 0 (i,v) (i',v') rfl rfl
    simp only at h1 h2
    subst h1
    simp only [fu] at h
    split at h
    case h_2=>cases h
    rename_i off size c hpl hvc
    split at h
    case isFalse=>cases h
    rename_i hz
    simp only [Bool.and_eq_true,beq_iff_eq,Nat.ble_eq] at hz
    obtain ⟨g1,g2⟩:=ky h2 hvc
    obtain ⟨f1,f2⟩:=oJ off v'.cells.toList 0 vs
    have hnew:CR w β own (db cs.length off cs c) ((v'.cells.toList.zipIdx 0).foldl (fun cs p=>cs.setIfInBounds (off+p.2) p.1) vs):=by
      refine ⟨by rw [eS,f1];exact hc.1,fun j hj=>?_⟩
      rw [eS] at hj
      rw [kY hj]
      have hjv:j<vs.size:=by rw [← hc.1];exact hj
      by_cases hin:off≤j∧j<off+c.length
      · rw [if_pos hin]
        have hlt:j - off<v'.cells.size:=by omega
        have e:((v'.cells.toList.zipIdx 0).foldl (fun cs p=>cs.setIfInBounds (off+p.2) p.1) vs)[j]? = some (v'.cells.getD (j - off) undef):=by
          rw [f2,if_pos (by simp;omega)]
          simp [Array.getD_eq_getD_getElem?,hlt]
        rw [jx e]
        exact g2 _ (by omega)
      · rw [if_neg hin]
        have e:((v'.cells.toList.zipIdx 0).foldl (fun cs p=>cs.setIfInBounds (off+p.2) p.1) vs)[j]? = some (vs.getD j undef):=by
          rw [f2,if_neg (by simp;omega)]
          simp [Array.getD_eq_getD_getElem?,hjv]
        rw [jx e]
        exact hc.2 j hj
    have hz':(v'.cells.zipIdx.foldl (fun cs x=>cs.setIfInBounds (off+x.2) x.1) vs)=((v'.cells.toList.zipIdx 0).foldl (fun cs p=>cs.setIfInBounds (off+p.2) p.1) vs):=by
      rw [← Array.foldl_toList,Array.toList_zipIdx]
    obtain ⟨vs',k1,k2⟩:=lE parts parts' _ _ cs' hnew (by simpa using hl) (fun j p p' hj hj'=>hp (j+1) p p' (by simpa using hj) (by simpa using hj')) h
    refine ⟨vs',?_,k2⟩
    simp only [Instr.fill,hpl]
    have hcl:=hc.1
    rw [if_neg (by simp only [Bool.or_eq_true,bne_iff_ne,ne_eq,decide_eq_true_eq,gt_iff_lt,not_or];simp;omega)]
    exact (congrArg (fun a=>Instr.fill jK a parts') hz').trans k1
theorem hO {t:TypeId} {i:TypeInfo} {z:Value} (hi:P.info? t=some i) (hz:i.zero=some z):(zeroValue t).run P w=.ok z w:=by
  simp [zeroValue,typeInfo,hi,hz]
theorem lH {i:TypeInfo} {zs:List AV} (h:zeroCells i=some zs) (own:Bool→Nat→Prop):∃ z,i.zero=some z∧z.cells.size=i.size∧CR w β own zs z.cells:=by
  obtain ⟨z,h1,h2,h3,h4⟩:=fC h
  refine ⟨z,h1,h3,by omega,fun j hj=>?_⟩
  obtain ⟨u,g1,g2,g3⟩:=h4 j (by omega)
  rw [jx g1]
  exact ⟨g2,g3 _ _ _⟩
theorem CR.agg {own:Bool→Nat→Prop} {cs:List AV} {vs:Array Value} (h:CR w β own cs vs):VR w β own (.agg cs) (.agg vs) :=
  .agg _ _ h.1 (fun j hj=>(h.2 j hj).1) (fun j hj=>(h.2 j hj).2)
theorem uj {t:TypeId} {parts:List (Nat×AV)} {parts':Array (Nat×Value)} {e:Eff} (he:pE P t parts=some e) (hl:parts.length=parts'.toList.length)
    (hp:∀ (j:Nat) (p:Nat×AV) (p':Nat×Value),parts[j]? = some p→parts'.toList[j]? = some p'→p.1=p'.1∧VR w β (ow X β H) p.2 p'.2) :
    e.wr=[]∧∃ v,(Instr.build t parts').run P w=.ok v w∧VR w β (ow X β H) e.v v:=by
  unfold pE at he
  split at he
  · rename_i fs i hu hi
    split at he
    case h_2=>cases he
    rename_i zs hzs
    split at he
    case h_2=>cases he
    rename_i places hpl
    cases hf:fu (fun j=>places[j]?) zs parts with
    | none=>rw [hf] at he;cases he
    | some cs =>
      rw [hf] at he
      simp only [Option.map_some,Option.some.injEq] at he
      subst he
      obtain ⟨z,hz,_,hcr⟩:=lH (w:=w) (β:=β) hzs (ow X β H)
      obtain ⟨vs,h1,h2⟩:=lE parts parts'.toList zs z.cells cs hcr hl hp hf
      refine ⟨rfl,.agg vs,?_,h2.agg⟩
      have h1':Instr.fill (fun x=>places[x]?) z.cells parts'.toList=some vs:=h1
      simp [Instr.build,run_underlying hu,hO hi hz,Array.mapM_eq_mapM_toList,run_places w _ _ hpl,h1']
  · rename_i len el i hu hi
    split at he
    case h_2=>cases he
    rename_i zs ie hzs hie
    cases hf:fu (fun j=>some (j*ie.size,ie.size)) zs parts with
    | none=>rw [hf] at he;cases he
    | some cs =>
      rw [hf] at he
      simp only [Option.map_some,Option.some.injEq] at he
      subst he
      obtain ⟨z,hz,_,hcr⟩:=lH (w:=w) (β:=β) hzs (ow X β H)
      obtain ⟨vs,h1,h2⟩:=lE parts parts'.toList zs z.cells cs hcr hl hp hf
      refine ⟨rfl,.agg vs,?_,h2.agg⟩
      simp [Instr.build,run_underlying hu,hO hi hz,bo hie,h1]
  · cases he
theorem ln {k:Nat} {t:TypeId} {len:Nat} {parts:List (Nat×AV)} {parts':Array (Nat×Value)} {e:Eff} (hH:HR w β (ow X β H) H) (hS:Sep β H) (hβ:β k=none)
    (he:fP P k t len parts=some e) (hl:parts.length=parts'.toList.length)
    (hp:∀ (j:Nat) (p:Nat×AV) (p':Nat×Value),parts[j]? = some p→parts'.toList[j]? = some p'→p.1=p'.1∧VR w β (ow X β H) p.2 p'.2) :
    ∃ v w' β',(Instr.buildSlice t len parts').run P w=.ok v w'∧Placed X w β H w' β' (a7 H e.wr) k∧VR w' β' (ow X β' (a7 H e.wr)) e.v v:=by
  unfold fP at he
  split at he
  case h_2=>cases he
  rename_i el hu
  split at he
  case h_2=>cases he
  rename_i i hi
  split at he
  case h_2=>cases he
  rename_i zs hzs
  split at he
  case isTrue=>cases he
  rename_i hsz
  have hsz:i.size≠0:=by simpa using hsz
  split at he
  case isFalse=>cases he
  rename_i hle
  simp only [Nat.ble_eq] at hle
  cases hf:fu (fun j=>some (j*i.size,i.size)) (d7 (len*i.size) fun j=>zs.getD (j % i.size) ag) parts with
  | none=>rw [hf] at he;cases he
  | some cs =>
    rw [hf] at he
    simp only [Option.map_some,Option.some.injEq] at he
    subst he
    obtain ⟨z,hz,hzl,hcr⟩:=lH (w:=w) (β:=β) hzs (ow X β H)
    let zero:Array Value:=if len*i.size=0 then #[] else z.cells
    have hcr0:CR w β (ow X β H) (d7 (len*i.size) fun j=>zs.getD (j % i.size) ag) ((Array.range (len*i.size)).map (fun q=>zero[q % zero.size]!)):=by
      refine ⟨by simp [aM],fun j hj=>?_⟩
      rw [aM] at hj
      have hne:len*i.size≠0:=by omega
      have hzero:zero=z.cells:=by simp [zero,hne]
      have hm:j % i.size<z.cells.size:=by rw [hzl];exact Nat.mod_lt _ (by omega)
      have e:((Array.range (len*i.size)).map (fun q=>zero[q % zero.size]!))[j]? = some (z.cells.getD (j % i.size) undef):=by
        simp only [Array.getElem?_map]
        rw [Array.getElem?_eq_getElem (by simpa using hj)]
        simp [hzero,hzl,Array.getD_eq_getD_getElem?,hm]
        rw [getElem!_pos z.cells _ hm,Array.getElem?_eq_getElem hm]
        rfl
      rw [jx e,aH _ _ _ _ hj]
      exact hcr.2 _ (by rw [hcr.1];exact hm)
    obtain ⟨vs,h1,h2⟩:=lE parts parts'.toList _ _ cs hcr0 hl hp hf
    have hcl:cs.length=len*i.size:=by
      have:∀ (parts:List (Nat×AV)) (c c':List AV),fu (fun j=>some (j*i.size,i.size)) c parts=some c'→c'.length=c.length:=by
        intro parts
        induction parts with
        | nil=>intro c c' h;simp only [fu,Option.some.injEq] at h;rw [h]
        | cons p parts ih =>
          obtain ⟨q,v⟩:=p
          intro c c' h
          simp only [fu] at h
          split at h
          · split at h
            · rw [ih _ _ h,eS]
            · cases h
          · cases h
      rw [this _ _ _ hf,aM]
    refine ⟨.slice (some ⟨w.heap.size,0,none⟩) len len,w.alloc (.cells vs el),dG β k ⟨w.heap.size,0,none⟩,?_,?_,?_⟩
    · have hnot:¬ (len*i.size>2 ^ 24):=by omega
      by_cases h0:len*i.size=0
      · have h1':=h1
        simp only [zero,h0,if_true] at h1'
        simp [Instr.buildSlice,run_underlying hu,bo hi,hnot,h0,newRow]
        simp at h1'
        simp [h1']
      · have h1':=h1
        simp only [zero,h0,if_false] at h1'
        simp only [Instr.buildSlice,Sem.run_bind,run_underlying hu,Result.andThen_ok,bo hi,hnot,if_false,h0,hO hi hz,Sem.run_pure,h1',newRow,run_newObj]
        rfl
    · simp only [a7]
      refine il (cells:=vs) (elem:=el) hH hS (dD rfl) (fun _ _ h=>h) hβ rfl rfl rfl rfl (fun p hp q hq=>?_)
      simp only at hp hq ⊢
      have hlt:=cS hp hq (Nat.le_refl len)
      obtain ⟨g1,g2⟩:=h2.2 (p*i.size+q) (by omega)
      refine ⟨vs.getD (p*i.size+q) undef,?_,g1,by rw [aH _ _ _ _ hq,fe hp,Ar hp];exact g2⟩
      have:p*i.size+q<vs.size:=by rw [← h2.1];omega
      simp [Array.getD_eq_getD_getElem?,this]
    · have e:VR (w.alloc (.cells vs el)) (dG β k ⟨w.heap.size,0,none⟩) (ow X (dG β k ⟨w.heap.size,0,none⟩) (a7 H [(k,some ⟨false,i.size,len,fun r=>d7 i.size fun j=>(Du len zs cs).getD (bk len r*i.size+j) ag⟩)])) (.ar i.size k 0 len) (.slice (some ⟨w.heap.size,0+0*i.size,none⟩) len len):=by
        refine .ar i.size k 0 len w.heap.size 0 len vs el (0,0) (by simp [dG]) ?_ ?_ (Nat.le_refl _)
        · show (w.heap.push _)[w.heap.size]? = _
          simp
        · rw [← h2.1,hcl];simp
      simpa using e
theorem nu (a:Int) (K V:Nat→Int):∀ (es:List MapEntry) (s:Nat),(∀ (i:Nat),i<es.length→∃ e,es[i]? = some e∧e.key=.int .i64 (K (s+i))∧e.val=.int .i64 (V (s+i))) →
    Instr.findNow (.int .i64) (.int .i64 a) es s=some ((jX K V a es.length s).map fun x=>(x.1,.int .i64 x.2))
  | [],s,_=>rfl
  | e::es,s,h=>by
    obtain ⟨e',h1,h2,h3⟩:=h 0 (by simp)
    simp only [List.getElem?_cons_zero,Option.some.injEq] at h1
    subst h1
    have ih:=nu a K V es (s+1) (fun i hi=>by
      obtain ⟨e',g1,g2,g3⟩:=h (i+1) (by simp;omega)
      refine ⟨e',by simpa using g1,?_,?_⟩
      · rw [g2];congr 2;omega
      · rw [g3];congr 2;omega)
    simp only [Instr.findNow,h2,h3,Instr.sameNow,List.length_cons,jX,Nat.add_zero]
    by_cases hk:K s=a
    · simp [hk]
    · have hk':(a==K s)=false:=by simpa using Ne.symm hk
      simp only [if_true,hk',if_neg hk]
      exact ih
theorem i5 (K V V':Nat→Int) (a:Int):∀ m s,(jX K V a m s).isSome=(jX K V' a m s).isSome
  | 0,_=>rfl
  | m+1,s=>by
    simp only [jX]
    split
    · rfl
    · exact i5 K V V' a m (s+1)
theorem pp {K K' V V':Nat→Int} (a:Int):∀ m s,(∀ i,s≤i→i<s+m→K i=K' i∧V i=V' i)→jX K V a m s=jX K' V' a m s
  | 0,_,_=>rfl
  | m+1,s,h=>by
    obtain ⟨h1,h2⟩:=h s (Nat.le_refl _) (by omega)
    simp only [jX,h1,h2]
    rw [pp a m (s+1) (fun i h3 h4=>h i (by omega) (by omega))]
theorem vN {t:TypeId} (h:BH P t=true):P.underlying t=some (.int .i64):=by
  unfold BH at h
  split at h
  · assumption
  · cases h
theorem jW {kt:TypeId} (h:P.underlying kt=some (.int .i64)) (em:Bool) (a:Int):(Instr.checkKey em 10000 kt (.int .i64 a)).run P w=.ok () w:=by
  rw [show (10000:Nat)=9999+1 from rfl,Instr.checkKey]
  simp [run_underlying h]
theorem mo {r:Nat} {es:Array MapEntry} {ck:Nat} (h:w.heap[r]? = some (.map es ck)):(getObj r).run P w=.ok (.map es ck) w:=by simp [getObj,Sem.run,h]
theorem u4 {r:Nat} {es:Array MapEntry} {ck:Nat} (o:Obj) (h:w.heap[r]? = some (.map es ck)):(setObj r o).run P w=.ok () { w with heap:=w.heap.setIfInBounds r o }:=by simp [setObj,Sem.run,h]
theorem oH {f:Nat→List AV} {n:Nat} {K V:Nat→Int} (h:∀ i,i<n→f i=[.p (.int .i64 (K i)),.p (.int .i64 (V i))]) (a:Int) :
    jX (fun i=>eu (f i)) (fun i=>kb (f i)) a n 0=jX K V a n 0 :=
  pp a n 0 (fun i _ hi=>by rw [h i (by omega)];exact ⟨rfl,rfl⟩)
theorem ul {k:Nat} (hH:HR w β (ow X β H) H) (hS:Sep β H) (hβ:β k=none) (t:TypeId) :
    ∃ v w' β',(Instr.makeMap t none).run P w=.ok v w'∧Placed X w β H w' β' (a7 H [(k,some ⟨false,0,0,fun _=>[]⟩)]) k∧VR w' β' (ow X β' (a7 H [(k,some ⟨false,0,0,fun _=>[]⟩)])) (.mp k) v:=by
  refine ⟨.map (some w.heap.size),{ w with heap:=w.heap.push (.map #[] 0) },dG β k ⟨w.heap.size,0,none⟩,?_,?_,.mp _ _ (by simp [dG]) ⟨#[],0,by simp⟩⟩
  · rfl
  · simp only [a7]
    rw [← ft k _ H]
    have hs:∀ j x,lk (eM k H) j=some x→lk H j=some x:=by
      intro j x h
      rw [bV] at h
      split at h
      · cases h
      · exact h
    refine oA (es:=#[]) (clock:=0) hH hS hs (fun m=>by rw [bV];simp) (.inl hβ) rfl rfl rfl (by simp) (fun c hc _=>?_) (by simp) (fun j x a h1 h2 he=>?_) (fun h=>absurd h (Nat.lt_irrefl _)) rfl rfl rfl
      ⟨fun _=>0,fun _=>0,fun i hi=>absurd hi (Nat.not_lt_zero _)⟩
    · show (w.heap.push _)[c]? = _
      rw [Array.getElem?_push,if_neg (Nat.ne_of_lt hc)]
    · have hlt:a.block<w.heap.size:=by
        rcases hH j x (hs _ _ h1) with h | ⟨b,base,cs,e,h3,h4,_⟩ | ⟨_,_,_,b,es,ck,h3,h4,_⟩
        · rw [h.1] at h2;cases h2
        · rw [h2] at h3;cases h3;exact (Array.getElem?_eq_some_iff.1 h4).1
        · rw [h2] at h3;cases h3;exact (Array.getElem?_eq_some_iff.1 h4).1
      omega
theorem vK {L:Hp} {o:Nat} {ob:Ob} {x:Value} (hH:HR w β (ow X β H) H) (hL:∀ o ob,L.lookup o=some ob→H.lookup o=some ob) (hlo:L.lookup o=some ob) (hnf:ob.isF=false)
    (hx:VR w β (ow X β H) (.mp o) x):∃ b es ck,x=.map (some b)∧β ⟨o,none⟩=some ⟨b,0,none⟩∧w.heap[b]? = some (.map es ck)∧es.size=ob.n ∧
      ∃ K V:Nat→Int,∀ i,i<ob.n→ob.f i=[.p (.int .i64 (K i)),.p (.int .i64 (V i))]∧∃ e,es[i]? = some e∧e.key=.int .i64 (K i)∧e.val=.int .i64 (V i):=by
  cases hx with
  | mp _ b hβ hm =>
    obtain ⟨es0,ck0,hm⟩:=hm
    rcases hH ⟨o,none⟩ ob (dz (hL _ _ hlo) hnf) with h | ⟨b',base,cells,elem,h1,h2,h3⟩ | ⟨_,_,_,b',es,ck,h1,h2,h3⟩
    · rw [h.1] at hβ;cases hβ
    · rw [hβ] at h1;cases h1;rw [hm] at h2;cases h2
    · rw [hβ] at h1;cases h1;exact ⟨b,es,ck,rfl,hβ,h2,h3⟩
theorem qJ {kt:TypeId} (hkt:P.underlying kt=some (.int .i64)) {es:Array MapEntry} {n:Nat} {K V:Nat→Int} (hn:es.size=n) (a:Int)
    (hr:∀ i,i<n→∃ e,es[i]? = some e∧e.key=.int .i64 (K i)∧e.val=.int .i64 (V i)) :
    (Instr.findKey kt (.int .i64 a) es.toList).run P w=.ok ((jX K V a n 0).map fun x=>(x.1,.int .i64 x.2)) w:=by
  have h:=nu a K V es.toList 0 (fun i hi=>by
    obtain ⟨e,h1,h2,h3⟩:=hr i (by simpa [← hn] using hi)
    exact ⟨e,by simpa using h1,by simpa using h2,by simpa using h3⟩)
  unfold Instr.findKey
  simp only [Sem.run_bind,run_underlying hkt,Result.andThen_ok,h,Sem.run_pure]
  simp [hn]
theorem qP {L:Hp} {t:TypeId} {m k:AV} {x y:Value} {ok:Bool} {e:Eff} (hH:HR w β (ow X β H) H) (hL:∀ o ob,L.lookup o=some ob→H.lookup o=some ob)
    (he:nl P L t m k ok=some e) (hx:VR w β (ow X β H) m x) (hy:VR w β (ow X β H) k y) :
    e.wr=[]∧∃ v,(Instr.lookup t x y ok).run P w=.ok v w∧VR w β (ow X β H) e.v v:=by
  unfold nl at he
  split at he
  case h_2=>cases he
  rename_i o a
  split at he
  case h_2=>cases he
  rename_i ob kt et hlo ht
  split at he
  case isFalse=>cases he
  rename_i hz
  simp only [Bool.and_eq_true,Bool.not_eq_true'] at hz
  have hkt:=vN hz.2
  split at he
  case h_2=>cases he
  rename_i d hd
  cases hi:P.info? et with
  | none=>rw [hi] at hd;cases hd
  | some i =>
    rw [hi] at hd
    simp only [Option.bind_some] at hd
    obtain ⟨b,es,ck,rfl,hβ,hh,hsz,K,V,hr⟩:=vK hH hL hlo (dD hz.1.2) hx
    cases hy;rename_i hp;cases hp
    have hf:=qJ (P:=P) (w:=w) hkt hsz a (fun i hi=>(hr i hi).2)
    have hrows:=oH (fun i hi=>(hr i hi).1) a
    have hget:g8 (fun i=>eu (ob.f i)) (fun i=>kb (ob.f i)) ob.n a d=(match jX K V a ob.n 0 with | some x=>x.2 | none=>d):=by
      unfold g8;rw [hrows];try (cases jX K V a ob.n 0<;>rfl)
    have hhas:iJ (fun i=>eu (ob.f i)) ob.n a=(jX K V a ob.n 0).isSome:=by
      unfold iJ;rw [i5 _ _ (fun i=>kb (ob.f i)),hrows]
    have hrun:(Instr.lookup t (.map (some b)) (.int .i64 a) ok).run P w =
        .ok (if ok then .tuple #[.int .i64 (match jX K V a ob.n 0 with | some x=>x.2 | none=>d),.bool (jX K V a ob.n 0).isSome] else .int .i64 (match jX K V a ob.n 0 with | some x=>x.2 | none=>d)) w:=by
      unfold Instr.lookup
      simp only [Sem.run_bind,run_underlying ht,Result.andThen_ok,mo hh,Sem.run_pure,jW hkt,hf]
      cases jX K V a ob.n 0 with
      | none=>simp [hO hi hd]
      | some x=>simp
    cases ok with
    | true =>
      simp only [Option.some.injEq] at he
      subst he
      refine ⟨rfl,_,hrun,?_⟩
      rw [hget,hhas]
      refine .tup _ _ rfl (fun j hj=>?_)
      match j,hj with
      | 0,_=>exact .p _ _ (.int _ _)
      | 1,_=>exact .p _ _ (.bool _)
    | false =>
      simp only [Option.some.injEq] at he
      subst he
      refine ⟨rfl,_,hrun,?_⟩
      rw [hget]
      exact .p _ _ (.int _ _)
theorem lb {L:Hp} {t:TypeId} {m k v:AV} {x y z:Value} {e:Eff} (hH:HR w β (ow X β H) H) (hS:Sep β H) (hL:∀ o ob,L.lookup o=some ob→H.lookup o=some ob)
    (he:ji P L t m k v=some e) (hob:∀ p∈e.ob,p) (hx:VR w β (ow X β H) m x) (hy:VR w β (ow X β H) k y) (hv:VR w β (ow X β H) v z) (q:Nat) :
    ∃ w',(Instr.mapUpdate t x y z).run P w=.ok () w'∧Placed X w β H w' β (a7 H e.wr) q∧e.v=ag:=by
  unfold ji at he
  split at he
  case h_2=>cases he
  rename_i o a c
  split at he
  case h_2=>cases he
  rename_i ob kt et hlo ht
  split at he
  case isFalse=>cases he
  rename_i hz
  simp only [Bool.and_eq_true,Bool.not_eq_true'] at hz
  have hkt:=vN hz.2
  simp only [Option.some.injEq] at he
  subst he
  have hno:iJ (fun i=>eu (ob.f i)) ob.n a=false:=hob _ (by simp)
  obtain ⟨b,es,ck,rfl,hβ,hh,hsz,K,V,hr⟩:=vK hH hL hlo (dD hz.1.2) hx
  cases hy;rename_i hp;cases hp
  cases hv;rename_i hp;cases hp
  have hf:=qJ (P:=P) (w:=w) hkt hsz a (fun i hi=>(hr i hi).2)
  have hrows:=oH (fun i hi=>(hr i hi).1) a
  have hnone:jX K V a ob.n 0=none:=by
    have:iJ (fun i=>eu (ob.f i)) ob.n a=(jX K V a ob.n 0).isSome:=by
      unfold iJ;rw [i5 _ _ (fun i=>kb (ob.f i)),hrows]
    rw [hno] at this
    cases h:jX K V a ob.n 0 with
    | none=>rfl
    | some x=>rw [h] at this;cases this
  rw [hnone] at hf
  refine ⟨{ w with heap:=w.heap.setIfInBounds b (.map (es.push { key:=.int .i64 a,val:=.int .i64 c,born:=ck }) (ck+1)) },?_,?_,rfl⟩
  · unfold Instr.mapUpdate
    simp only [Sem.run_bind,run_underlying ht,Result.andThen_ok,mo hh,jW hkt,hf,Option.map_none,u4 _ hh]
  · have hlt:b<w.heap.size:=(Array.getElem?_eq_some_iff.1 hh).1
    simp only [a7]
    rw [← ft o _ H]
    have hs:∀ j x,lk (eM o H) j=some x→lk H j=some x:=by
      intro j x h
      rw [bV] at h
      split at h
      · cases h
      · exact h
    have hp:=oA (k:=o) (b:=b) (ob:=⟨false,0,ob.n+1,fun i=>if i<ob.n then ob.f i else [.p (.int .i64 a),.p (.int .i64 c)]⟩) (es:=es.push { key:=.int .i64 a,val:=.int .i64 c,born:=ck }) (clock:=ck+1)
      (w':={ w with heap:=w.heap.setIfInBounds b (.map (es.push { key:=.int .i64 a,val:=.int .i64 c,born:=ck }) (ck+1)) })
      hH hS hs (fun m=>by rw [bV];simp) (.inr hβ) rfl rfl rfl (by simp) (fun c' hc hne=>by show (w.heap.setIfInBounds b _)[c']? = _;rw [Array.getElem?_setIfInBounds_ne (Ne.symm hne)]) (by simp [hlt])
      (fun j y a' hj ha he=>by
        rw [bV] at hj
        split at hj
        · cases hj
        · rename_i hjo
          exact hjo (congrArg Id.o (hS j ⟨o,none⟩ y ob a' _ hj (dz (hL _ _ hlo) (dD hz.1.2)) ha hβ he)))
      (fun _=>⟨⟨⟨o,none⟩,ob,_,dz (hL _ _ hlo) (dD hz.1.2),hβ,rfl⟩,es,ck,hh⟩) rfl rfl (by simp [hsz])
      ⟨fun i=>if i<ob.n then K i else a,fun i=>if i<ob.n then V i else c,fun i hi=>by
        simp only at hi ⊢
        by_cases hin:i<ob.n
        · obtain ⟨h1,e,h2,h3,h4⟩:=hr i hin
          simp only [hin,if_true]
          exact ⟨h1,e,by rw [Array.getElem?_push,if_neg (by omega)];exact h2,h3,h4⟩
        · simp only [hin,if_false]
          exact ⟨trivial,_,by rw [Array.getElem?_push,if_pos (by omega)],rfl,rfl⟩⟩
    rw [sd hβ] at hp
    exact ⟨hp.hr,hp.sep,hp.ext,hp.mono,fun j hj=>.inl hj,hp.own⟩
end
section
variable {X:Nat→Prop} {P:Program} {w:World} {β:Id→Option Addr} {H:Hp}
theorem rO {own:Bool→Nat→Prop} {ρ:Operand→AV} {ev:Operand→Value} (hρ:∀ x,VR w β own (ρ x) (ev x)) (x:Option Operand) :
    l4 (VR w β own) (x.map ρ) (x.map ev):=by
  cases x with
  | none=>exact trivial
  | some x=>exact hρ x
theorem pu {own:Bool→Nat→Prop} {ρ:Operand→AV} {ev:Operand→Value} (hρ:∀ x,VR w β own (ρ x) (ev x)) (ps:Array (Nat×Operand)) :
    (ps.toList.map fun p=>(p.1,ρ p.2)).length=(ps.map fun (i,x)=>(i,ev x)).toList.length ∧
    ∀ (j:Nat) (p:Nat×AV) (p':Nat×Value),(ps.toList.map fun p=>(p.1,ρ p.2))[j]? = some p→(ps.map fun (i,x)=>(i,ev x)).toList[j]? = some p'→p.1=p'.1∧VR w β own p.2 p'.2:=by
  refine ⟨by simp,fun j p p' h1 h2=>?_⟩
  simp only [List.getElem?_map,Array.toList_map] at h1 h2
  cases hj:ps.toList[j]? with
  | none=>rw [hj] at h1;cases h1
  | some q =>
    rw [hj] at h1 h2
    simp only [Option.map_some,Option.some.injEq] at h1 h2
    subst h1
    subst h2
    exact ⟨rfl,hρ _⟩
theorem z9 {L:Hp} {s d el:TypeId} {x:AV} {xv:Value} {e:Eff} (hH:HR w β (ow X β H) H) (hL:∀ o ob,L.lookup o=some ob→H.lookup o=some ob)
    (hs:P.underlying s=some (.slice el)) (hd:P.underlying d=some .string) (he:AD P L el x=some e) (hob:∀ p∈e.ob,p) (hx:VR w β (ow X β H) x xv) :
    e.wr=[]∧∃ v,(convert s d xv).run P w=.ok v w∧VR w β (ow X β H) e.v v:=by
  unfold AD at he
  split at he
  case h_2=>cases he
  rename_i m fx ob hel hr
  simp only [Option.some.injEq] at he
  subst he
  refine ⟨rfl,.string (wc m fx),?_,.p _ _ (.str _)⟩
  obtain ⟨news,cx⟩:=lP (P:=P) hH hL hr (fun p hp=>hob p (by simp [hp])) hx
  have hby:vu m fx:=hob _ (by simp)
  have hnews:news=(((List.range m).map fun i=>A2 (fx i)).map (Value.int .u8)).toArray:=by
    apply Array.ext_getElem?
    intro i
    rcases Nat.lt_or_ge i m with hi | hi
    · obtain ⟨u,h1,_,h3⟩:=cx.cell i hi 0 (Nat.zero_lt_one)
      obtain ⟨n,hn⟩:=hby i hi
      rw [hn] at h3
      have hu:u=.int .u8 n:=by
        cases h3 with
        | p _ _ hp=>cases hp;rfl
      rw [Nat.mul_one,Nat.add_zero] at h1
      rw [h1,hu]
      simp [hi,hn,A2]
    · rw [Array.getElem?_eq_none (by rw [cx.size];omega),Array.getElem?_eq_none (by simp;omega)]
  obtain ⟨a,n,c,rfl⟩:∃ a n c,xv=.slice a n c:=by
    unfold j6 at hr
    split at hr
    · cases hx;rename_i hp;cases hp;exact ⟨_,_,_,rfl⟩
    · cases hx;rename_i hp;cases hp<;>exact ⟨_,_,_,rfl⟩
    · cases hx<;>exact ⟨_,_,_,rfl⟩
    · cases hr
  have hlen:n=m:=by
    have:=cx.len w
    simpa [Builtin.lenOf] using this
  subst hlen
  rw [run_convert_bytes_string w s d el a n c hs hel hd]
  cases a with
  | none =>
    have h0:=cx.run w rfl
    have hz:news = #[]:=by simpa [Builtin.firstCells] using h0.symm
    have h1:=cx.size
    rw [hz] at h1
    obtain rfl:n=0:=by simpa using h1.symm
    rfl
  | some a =>
    refine run_bytesToString w a n c _ ?_
    rw [← hnews]
    have:=cx.run w rfl
    simpa [Builtin.firstCells] using this
set_option maxHeartbeats 1000000 in
theorem yp {k:Nat} {nw:Bool} {L:Hp} {o:Oper} {a:Act} {ρ:Operand→AV} {e:Eff} (hH:HR w β (ow X β H) H) (hS:Sep β H) (hβ:β k=none)
    (hL:∀ o ob,L.lookup o=some ob→H.lookup o=some ob) (hρ:∀ x,VR w β (ow X β H) (ρ x) (a.eval x))
    (he:ud P k nw L ρ o.op=some e) (hob:∀ p∈e.ob,p):OpRes X P (execOp a.eval o) w β H e k:=by
  have pure':∀ {s:Sem Value} {e:Eff},(e.wr=[]∧∃ v,s.run P w=.ok v w∧VR w β (ow X β H) e.v v)→OpRes X P (do pure (Next.value (← s))) w β H e k:=by
    rintro s e ⟨h1,v,h2,h3⟩
    exact OpRes.pure hH hS h1 (by simp [h2]) h3
  have make':∀ {s:Sem Value} {e:Eff},(∃ v w' β',s.run P w=.ok v w'∧Placed X w β H w' β' (a7 H e.wr) k∧VR w' β' (ow X β' (a7 H e.wr)) e.v v)→OpRes X P (do pure (Next.value (← s))) w β H e k:=by
    rintro s e ⟨v,w',β',h1,h2,h3⟩
    exact ⟨v,w',β',.inl (by simp [h1]),h2,h3⟩
  obtain ⟨dst,op,type,pos,after,guard⟩:=o
  simp only at he
  unfold ud at he
  split at he
  ·
    simp only [Option.some.injEq] at he
    subst he
    exact OpRes.pure hH hS rfl rfl (hρ _)
  · simp only [Option.some.injEq] at he
    subst he
    exact OpRes.pure hH hS rfl rfl (hρ _)
  ·
    rename_i c x y
    split at he
    case h_2=>cases he
    rename_i b hc
    have hcr:=hρ c
    rw [hc] at hcr
    obtain ⟨h1,h2⟩:=xk he hob (hρ x) (hρ y)
    generalize hce:a.eval c=cv at hcr
    cases hcr;rename_i hp;cases hp
    refine OpRes.pure hH hS h1 (v:=if b then a.eval x else a.eval y) ?_ h2
    simp [execOp,hce,asBool]
  ·
    rename_i el
    split at he
    case h_2=>cases he
    rename_i i hi
    cases hz:zeroCells i with
    | none=>rw [hz] at he;cases he
    | some cs =>
      rw [hz] at he
      simp only [Option.bind_some] at he
      split at he
      case isFalse=>cases he
      rename_i hpos
      simp only [Nat.blt_eq] at hpos
      simp only [Option.some.injEq] at he
      subst he
      obtain ⟨z,h1,h2,hcr⟩:=lH (w:=w) (β:=β) hz (ow X β H)
      obtain ⟨w',g1,g2⟩:=oO (P:=P) hH hS hβ el z hcr.1 hpos hcr.2
      refine ⟨.pointer (some ⟨w.heap.size,0,none⟩),w',_,.inl ?_,g2,?_⟩
      · simp [execOp,Instr.alloc,hO hi h1,g1]
      · have:VR w' (dG β k ⟨w.heap.size,0,none⟩) (ow X (dG β k ⟨w.heap.size,0,none⟩) (a7 H [(k,some ⟨true,cs.length,1,fun _=>cs⟩)])) (.pt cs.length k 0 0) (.pointer (some ⟨w.heap.size,0+(0*cs.length+0),none⟩)) :=
          .pt _ _ _ _ _ _ (by simp [dG])
        simpa using this
  ·
    rename_i el x
    cases hc:(ρ x).cells with
    | none=>rw [hc] at he;cases he
    | some cs =>
      rw [hc] at he
      simp only [Option.bind_some] at he
      split at he
      case isFalse=>cases he
      rename_i hpos
      simp only [Nat.blt_eq] at hpos
      simp only [Option.some.injEq] at he
      subst he
      obtain ⟨h1,h2⟩:=ky (hρ x) hc
      obtain ⟨w',g1,g2⟩:=oO (P:=P) hH hS hβ el (a.eval x) h1 hpos h2
      refine ⟨.pointer (some ⟨w.heap.size,0,none⟩),w',_,.inl ?_,g2,?_⟩
      · simp [execOp,Instr.box,g1]
      · have:VR w' (dG β k ⟨w.heap.size,0,none⟩) (ow X (dG β k ⟨w.heap.size,0,none⟩) (a7 H [(k,some ⟨true,cs.length,1,fun _=>cs⟩)])) (.pt cs.length k 0 0) (.pointer (some ⟨w.heap.size,0+(0*cs.length+0),none⟩)) :=
          .pt _ _ _ _ _ _ (by simp [dG])
        simpa using this
  ·
    rename_i t ps
    obtain ⟨h1,h2⟩:=pu hρ ps
    exact pure' (uj he h1 h2)
  · rename_i t len ps
    obtain ⟨h1,h2⟩:=pu hρ ps
    exact make' (ln hH hS hβ he h1 h2)
  ·
    rename_i t x
    exact pure' (oE hH hS hL he hob (hρ x))
  ·
    rename_i t x y
    obtain ⟨w',h1,h2,h3⟩:=uy hH hS hL he hob (hρ x) (hρ y) k
    refine ⟨undef,w',β,.inr ⟨by simp [execOp,h1],rfl⟩,h2,?_⟩
    rw [h3]
    exact .any _
  ·
    rename_i x
    have hx:=hρ x
    split at he
    · rename_i z oo row off hx'
      simp only [Option.some.injEq] at he
      subst he
      rw [hx'] at hx
      generalize hce:a.eval x=xv at hx
      cases hx
      rename_i b base hb
      exact OpRes.pure hH hS rfl (by simp only [execOp,hce];rfl) (.pt _ _ _ _ _ _ hb)
    · rename_i tg cs hx'
      simp only [Option.some.injEq] at he
      subst he
      rw [hx'] at hx
      generalize hce:a.eval x=xv at hx
      have hx2:=hx
      cases hx
      exact OpRes.pure hH hS rfl (by simp only [execOp,hce];rfl) hx2
    · cases he
  ·
    rename_i bop t x y yt
    obtain ⟨h1,v,h2,h3⟩:=Ao he hob (hρ x) (hρ y)
    exact OpRes.pure hH hS h1 (by simp [execOp,tm (x:=x) (y:=y) (hρ x) (hρ y) he,h2]) h3
  ·
    rename_i uop t x
    have hx:=hρ x
    split at he
    · rename_i b hx'
      simp only [Option.some.injEq] at he
      subst he
      rw [hx'] at hx
      generalize hce:a.eval x=xv at hx
      cases hx;rename_i hp;cases hp
      exact OpRes.pure hH hS rfl (by simp only [execOp,hce];rfl) (.p _ _ (.bool _))
    · rename_i kk n hx'
      rw [hx'] at hx
      generalize hce:a.eval x=xv at hx
      cases hx;rename_i hp;cases hp
      simp only [xW,Option.map_some,Option.some.injEq] at he
      subst he
      exact OpRes.pure hH hS rfl (by simp only [execOp,hce];rfl) (.p _ _ (lX hob (ow X β H)))
    · cases he
  ·
    rename_i s d x
    have hx:=hρ x
    split at he
    · rename_i d1 kk kn n hs hd hx'
      rw [hx'] at hx
      generalize hce:a.eval x=xv at hx
      cases hx;rename_i hp;cases hp
      simp only [Option.some.injEq] at he
      subst he
      refine OpRes.pure hH hS rfl (v:=.int kk (kk.wrap n)) ?_ (.p _ _ (lX hob (ow X β H)))
      simp only [execOp,hce,convert,Sem.run_bind,run_underlying hs,run_underlying hd,Result.andThen_ok,Conv.intToInt,Sem.run_pure]
    · rename_i el hs hd
      obtain ⟨h1,v,h2,h3⟩:=z9 hH hL hs hd he hob hx
      refine OpRes.pure hH hS h1 (v:=v) ?_ h3
      simp only [execOp,Sem.run_bind,h2,Result.andThen_ok,Sem.run_pure]
    · cases he
  ·
    rename_i t x y
    exact make' (xL hH hS hβ he hob (hρ x) (hρ y))
  ·
    rename_i t x lo hi
    exact pure' (tN he hob (hρ x) (rO hρ lo) (rO hρ hi))
  · rename_i s x f
    exact pure' (lZ he (hρ x))
  · rename_i s x f
    exact pure' (uc he (hρ x))
  · rename_i t x i
    exact pure' (mB he hob (hρ x) (hρ i))
  · rename_i t x i
    exact pure' (th he hob (hρ x) (hρ i))
  ·
    rename_i x i
    have hx:=hρ x
    split at he
    case h_2=>cases he
    rename_i vs hx'
    rw [hx'] at hx
    split at he
    case isFalse=>cases he
    rename_i hlt
    simp only [Nat.blt_eq] at hlt
    simp only [Option.some.injEq] at he
    subst he
    generalize hce:a.eval x=xv at hx
    cases hx
    rename_i ws hl h
    refine OpRes.pure hH hS rfl (v:=ws.getD i undef) ?_ (h i hlt)
    have:i<ws.size:=by omega
    simp [execOp,hce,Instr.extract,this,Array.getD_eq_getD_getElem?]
  ·
    rename_i fn first captured
    split at he
    case h_2=>cases he
    rename_i f
    split at he
    case isFalse=>cases he
    rename_i hz
    simp only [beq_iff_eq,Array.size_eq_zero_iff] at hz
    subst hz
    split at he
    · rename_i hz
      simp only [beq_iff_eq,Array.size_eq_zero_iff] at hz
      subst hz
      simp only [Option.some.injEq] at he
      subst he
      exact OpRes.pure (v:=.func (.func f) #[] #[]) hH hS rfl (by simp [execOp,Instr.makeFunc]) (.p _ _ (.fn _))
    · simp only [Option.some.injEq] at he
      subst he
      refine OpRes.pure (v:=.func (.func f) #[] (captured.map a.eval)) hH hS rfl (by simp [execOp,Instr.makeFunc]) (.clo _ _ _ (by simp) (fun j hj=>?_))
      have hj':j<captured.size:=by simpa using hj
      rw [AX ρ captured.toList j (.tmp 0) ag (by simpa using hj')]
      have e2:(captured.map a.eval).getD j undef=a.eval (captured.toList.getD j (.tmp 0)):=by
        simp [Array.getD_eq_getD_getElem?,List.getD_eq_getElem?_getD,hj']
      rw [e2]
      exact hρ _
  ·
    rename_i t
    simp only [Option.some.injEq] at he
    subst he
    exact make' (ul hH hS hβ t)
  ·
    rename_i t m kk v
    obtain ⟨w',h1,h2,h3⟩:=lb (P:=P) hH hS hL he hob (hρ m) (hρ kk) (hρ v) k
    refine ⟨undef,w',β,.inr ⟨by simp [execOp,h1],rfl⟩,h2,?_⟩
    rw [h3]
    exact .any _
  ·
    rename_i t m kk v
    obtain ⟨w',h1,h2,h3⟩:=lb (P:=P) hH hS hL he hob (hρ m) (hρ kk) (hρ v) k
    refine ⟨undef,w',β,.inr ⟨by simp [execOp,h1],rfl⟩,h2,?_⟩
    rw [h3]
    exact .any _
  ·
    rename_i t m kk ok
    exact pure' (qP hH hL he (hρ m) (hρ kk))
  ·
    rename_i c
    obtain ⟨callee,args,ts⟩:=c
    simp only at he
    split at he
    case h_2=>cases he
    rename_i b
    have hrun:∀ vs:Array Value,args.map a.eval=vs→execOp a.eval ⟨dst,.call { callee:=.builtin b,args:=args,argTypes:=ts },type,pos,after,guard⟩ =
        builtin b ts type (args.map fun | .const _=>true | _=>false) vs:=by
      intro vs hv
      subst hv
      rfl
    unfold oQ at he
    split at he
    · rename_i av hargs
      have:∃ x,args = #[x]∧ρ x=av:=by
        cases h:args.toList with
        | nil=>rw [h] at hargs;cases hargs
        | cons x r =>
          rw [h] at hargs
          cases r with
          | nil=>exact ⟨x,by rw [← Array.toArray_toList (xs:=args),h],by simpa using hargs⟩
          | cons y r=>simp at hargs
      obtain ⟨x,rfl,rfl⟩:=this
      split at he
      case h_2=>cases he
      rename_i t hts
      obtain ⟨h1,v,h2,h3⟩:=yR (P:=P) type he (hρ x)
      refine OpRes.pure hH hS h1 ?_ h3
      have e:ts = #[t]:=by rw [← Array.toArray_toList (xs:=ts),hts]
      rw [hrun #[a.eval x] (by simp)]
      simp [builtin,e,h2]
    · rename_i av bv hargs
      have:∃ x y,args = #[x,y]∧ρ x=av∧ρ y=bv:=by
        cases h:args.toList with
        | nil=>rw [h] at hargs;cases hargs
        | cons x r =>
          rw [h] at hargs
          cases r with
          | nil=>simp at hargs
          | cons y r =>
            cases r with
            | nil =>
              simp only [List.map_cons,List.map_nil,List.cons.injEq,and_true] at hargs
              exact ⟨x,y,by rw [← Array.toArray_toList (xs:=args),h],hargs.1,hargs.2⟩
            | cons z r=>simp at hargs
      obtain ⟨x,y,rfl,rfl,rfl⟩:=this
      rw [hrun #[a.eval x,a.eval y] (by simp)]
      split at he
      · split at he
        case h_2=>cases he
        rename_i t t' hts
        obtain ⟨v,w',β',h1,h2,h3⟩:=r7 (ty:=type) hH hS hβ hL he hob (hρ x) (hρ y)
        have e:ts = #[t,t']:=by rw [← Array.toArray_toList (xs:=ts),hts]
        exact ⟨v,w',β',.inl (by simp [builtin,e,h1]),h2,h3⟩
      · obtain ⟨h1,v,h2,h3⟩:=kL (P:=P) ts type he (hρ x) (hρ y)
        simp only [Bool.false_eq_true,if_false] at h2
        exact OpRes.pure hH hS h1 (by simp [builtin,h2]) h3
      · obtain ⟨h1,v,h2,h3⟩:=kL (P:=P) ts type he (hρ x) (hρ y)
        simp only [if_true] at h2
        exact OpRes.pure hH hS h1 (by simp [builtin,h2]) h3
      · cases he
    · cases he
  · cases he
end
def af:List Prop→Prop
  | []=>True
  | p::r=>p∧af r
theorem bQ (l:List Prop):af l↔∀ p∈l,p:=by
  induction l with
  | nil=>simp [af]
  | cons p r ih =>
    simp only [af,ih,List.mem_cons]
    exact ⟨fun h q hq=>hq.elim (fun e=>e ▸ h.1) (h.2 q),fun h=>⟨h p (.inl rfl),fun q hq=>h q (.inr hq)⟩⟩
theorem aL {l r:List Prop} (h:af (l++r)):af l∧af r:=by
  rw [bQ] at h
  exact ⟨(bQ _).2 fun p hp=>h p (by simp [hp]),(bQ _).2 fun p hp=>h p (by simp [hp])⟩
def cT (P:Program) (f:FuncId):Bool :=
  match P.funcs[f]? with
  | some fn=>!(fn.name == "runtime.NumGoroutine")&&fn.body.isSome
  | none=>false
def fr (X:Nat→Prop) (β:Id→Option Addr) (H:Hp) (t:Bool) (b:Nat):Prop:=t=true∨ow X β H t b
structure Con (P:Program) (f:FuncId) (n:Nat) (H:Hp) (args:List AV) (H':Hp) (res:AV):Prop where
  en:cT P f=true
  go:∀ (w:World) (β:Id→Option Addr) (X:Nat→Prop) (vals:Array Value),(∀ b,X b→b<w.heap.size∧¬ aU β H b) →
    HR w β (ow X β H) H→Sep β H→(∀ k,β k≠none→k.o<n) →
    args.length=vals.size→(∀ j,j<args.length→VR w β (ow X β H) (args.getD j ag) (vals.getD j undef)) →
    Calls P f vals w fun e w'=>∃ v β',e=.returned v∧HR w' β' (fr X β' H') H'∧Sep β' H'∧VR w' β' (fr X β' H') res v ∧
      Ext w (ow X β H) w' (ow X β' H')∧(∀ o a,β o=some a→β' o=some a)∧(∀ b,aU β' H' b→aU β H b∨w.heap.size≤b)∧∀ k,β' k≠none→β k≠none∨(n≤k.o∧k.o<n+32)
mutual
def ren (r:Id→Id):AV→AV
  | .p v=>.p v
  | .ar z o off n=>.ar z (r o) off n
  | .pt z o row off=>.pt z (r o) row off
  | .ip t cs=>.ip t cs
  | .mp o=>match (r ⟨o,none⟩).m with
    | none=>.mp (r ⟨o,none⟩).o
    | some _=>ag
  | .agg cs=>.agg (de r cs)
  | .tup vs=>.tup (de r vs)
  | .clo f cs=>.clo f (de r cs)
  | .cnd g v=>.cnd g (ren r v)
def de (r:Id→Id):List AV→List AV
  | []=>[]
  | v::l=>ren r v::de r l
end
theorem bO (r:Id→Id):∀ l:List AV,(de r l).length=l.length
  | []=>by simp [de]
  | v::l=>by simp [de,bO r l]
theorem dR (r:Id→Id):∀ (l:List AV) (j:Nat),(de r l).getD j ag=ren r (l.getD j ag)
  | [],j=>by simp [de,ren]
  | v::l,0=>by simp [de]
  | v::l,j+1=>by simpa [de] using dR r l j
def Dh (r:Id→Id) (ob:Ob):Ob:={ ob with f:=fun i=>de r (ob.f i) }
mutual
def bu:PV→PV
  | .seq _ z n f=>.seq true z n (fun i=>yz (f i))
  | .any=>.any
  | .int k n=>.int k n
  | .bool b=>.bool b
  | .str s=>.str s
  | .nil=>.nil
  | .fn f=>.fn f
def yz:List PV→List PV
  | []=>[]
  | v::l=>bu v::yz l
end
theorem iB:∀ (l:List PV) (j:Nat),(yz l).getD j .any=bu (l.getD j .any)
  | [],j=>by simp [yz,bu]
  | v::l,0=>by simp [yz]
  | v::l,j+1=>by simpa [yz] using iB l j
theorem ui {w:World} {own ownc:Bool→Nat→Prop} (hc:∀ t b,ownc true b→own t b) {v:PV} {x:Value} (h:PR w own v x):PR w ownc (bu v) x:=by
  induction h with
  | any x=>simp only [bu];exact .any x
  | int k n=>simp only [bu];exact .int k n
  | bool b=>simp only [bu];exact .bool b
  | str s=>simp only [bu];exact .str s
  | nil=>simp only [bu];exact .nil
  | seq0 t z f a c=>simp only [bu];exact .seq0 _ _ _ _ _
  | seq t z n f b off c g hb hlt hcc hcell hone _ ih =>
    simp only [bu]
    exact .seq _ _ _ _ b off c g (fun h=>hb (hc t b h)) hlt hcc hcell hone (fun i hi j hj=>by rw [iB];exact ih i hi j hj)
  | fn f=>simp only [bu];exact .fn f
inductive K where
  | pl (p:Id)
  | ins (G k a:Nat)
  | perm (G:Nat) (σ τ:Nat→Nat)
instance (n:Nat):OfNat K n:=⟨.pl ⟨n,none⟩⟩
instance:Coe Id K:=⟨.pl⟩
def eh (p:Id) (m:Option Nat):Option Id:=match p.m with
  | none=>some ⟨p.o,m⟩
  | some i=>match m with
    | none=>some ⟨p.o,some i⟩
    | some _=>none
def cA (p:K) (m:Option Nat):Option Id:=match p with
  | .pl p=>eh p m
  | .ins G k a=>match m with
    | some i=>if i=k then some ⟨a,none⟩ else some ⟨G,some i⟩
    | none=>none
  | .perm G σ _=>match m with
    | some i=>some ⟨G,some (σ i)⟩
    | none=>none
def K.nums:K→List Nat
  | .pl p=>[p.o]
  | .ins G _ a=>[G,a]
  | .perm G _ _=>[G]
def dd (x:Id) (p:K) (k:Nat):Option (Id×List Prop):=match p with
  | .pl p=>if x.o==p.o then (match p.m with
    | none=>some (⟨k,x.m⟩,[])
    | some i=>match x.m with
      | some j=>some (⟨k,none⟩,[j=i])
      | none=>none) else none
  | .ins G kk a=>match x.m with
    | none=>if x.o==a then some (⟨k,some kk⟩,[]) else none
    | some j=>if x.o==G then some (⟨k,some j⟩,[j≠kk]) else none
  | .perm G σ τ=>match x.m with
    | none=>none
    | some j=>if x.o==G then some (⟨k,some (τ j)⟩,[σ (τ j)=j]) else none
def iE (x:Id):List K→Nat→Option (Id×List Prop)
  | [],_=>none
  | p::l,k=>match dd x p k with
    | some r=>some r
    | none=>iE x l (k+1)
def tg (t:Bool) (v:PV):PV:=if t then bu v else v
def bG (t:Bool) (r:List AV) (j:Nat):PV:=match r.getD j ag with
  | .p v=>tg t v
  | _=>.any
def eH (t:Bool) (L:Hp) (pass:List K):Nat→AV→PV×List Prop
  | _,.p v=>(tg t v,[])
  | 1,.ar z o off n =>
    match iE o pass 0,qQ L o with
    | none,some (ob,ps)=>(.seq t z n (fun i=>d7 z fun j=>bG t (ob.f (i+off)) j),ps++[ob.z=z,n+off≤ob.n])
    | _,_=>(.any,[])
  | d+2,.ar z o off n =>
    match iE o pass 0,qQ L o with
    | none,some (ob,ps)=>(.seq t z n (fun i=>d7 z fun j=>(eH t L pass (d+1) ((ob.f (i+off)).getD j ag)).1),
        ps++[ob.z=z,n+off≤ob.n,∀ i,i<n→af ((d7 z fun j=>(eH t L pass (d+1) ((ob.f (i+off)).getD j ag)).2).flatten)])
    | _,_=>(.any,[])
  | _,_=>(.any,[])
mutual
def bh (t:Bool) (L:Hp) (pass:List K) (d:Nat):AV→AV×List Prop
  | .p v=>(.p (tg t v),[])
  | .ar z o off n =>
    match iE o pass 0 with
    | some (k,ps)=>(.ar z k off n,ps)
    | none=>(.p (eH t L pass d (.ar z o off n)).1,(eH t L pass d (.ar z o off n)).2)
  | .pt z o row off =>
    match iE o pass 0 with
    | some (k,ps)=>(.pt z k row off,ps)
    | none=>(ag,[])
  | .ip s cs=>if t then (ag,[]) else (.ip s cs,[])
  | .mp o =>
    match iE ⟨o,none⟩ pass 0 with
    | some (k,ps)=>(match k.m with
      | none=>(.mp k.o,ps)
      | some _=>(ag,[]))
    | none=>(ag,[])
  | .agg cs=>(.agg (ay t L pass d cs).1,(ay t L pass d cs).2)
  | .tup vs=>if t then (ag,[]) else (.tup (ay t L pass d vs).1,(ay t L pass d vs).2)
  | .clo f cs=>(.clo f (ay t L pass d cs).1,(ay t L pass d cs).2)
  | .cnd _ _=>(ag,[])
def ay (t:Bool) (L:Hp) (pass:List K) (d:Nat):List AV→List AV×List Prop
  | []=>([],[])
  | v::l=>((bh t L pass d v).1::(ay t L pass d l).1,(bh t L pass d v).2++(ay t L pass d l).2)
end
theorem D8 (t:Bool):tg t .any=.any:=by cases t<;>simp [tg,bu]
theorem bF (t:Bool) (L:Hp) (pass:List K) (d:Nat):∀ l:List AV,(ay t L pass d l).1.length=l.length
  | []=>by simp [ay]
  | v::l=>by simp [ay,bF t L pass d l]
theorem dm (t:Bool) (L:Hp) (pass:List K) (d:Nat):∀ (l:List AV) (j:Nat),(ay t L pass d l).1.getD j ag=(bh t L pass d (l.getD j ag)).1
  | [],j=>by simp [ay,bh,D8]
  | v::l,0=>by simp [ay]
  | v::l,j+1=>by simpa [ay] using dm t L pass d l j
theorem fH (t:Bool) (L:Hp) (pass:List K) (d:Nat):∀ (l:List AV) (j:Nat),af (ay t L pass d l).2→af (bh t L pass d (l.getD j ag)).2
  | [],j,_=>by simp [bh,af]
  | v::l,0,h=>by simp only [ay] at h;simpa using (aL h).1
  | v::l,j+1,h=>by simp only [ay] at h;simpa using fH t L pass d l j (aL h).2
theorem yb {x:Id} {p:K} {k:Nat} {y:Id} {ps:List Prop} (h:dd x p k=some (y,ps)) (ha:af ps):y.o=k∧cA p y.m=some x:=by
  obtain ⟨xo,xm⟩:=x
  cases p with
  | pl p =>
    simp only [dd] at h
    split at h
    case isFalse=>cases h
    rename_i e
    have e:xo=p.o:=by simpa using e
    split at h
    · rename_i hm
      cases h
      exact ⟨rfl,by simp [cA,eh,hm,← e]⟩
    · rename_i i hm
      cases xm with
      | none=>cases h
      | some j =>
        cases h
        have hji:j=i:=ha.1
        exact ⟨rfl,by simp [cA,eh,hm,← e,hji]⟩
  | ins G kk a =>
    cases xm with
    | none =>
      simp only [dd] at h
      split at h
      case isFalse=>cases h
      rename_i e
      have e:xo=a:=by simpa using e
      cases h
      exact ⟨rfl,by simp [cA,e]⟩
    | some j =>
      simp only [dd] at h
      split at h
      case isFalse=>cases h
      rename_i e
      have e:xo=G:=by simpa using e
      cases h
      have hj:j≠kk:=ha.1
      exact ⟨rfl,by simp [cA,e,hj]⟩
  | perm G σ τ =>
    cases xm with
    | none=>simp [dd] at h
    | some j =>
      simp only [dd] at h
      split at h
      case isFalse=>cases h
      rename_i e
      have e:xo=G:=by simpa using e
      cases h
      have hj:σ (τ j)=j:=ha.1
      exact ⟨rfl,by simp [cA,e,hj]⟩
theorem xH {x:Id} {p:K} {k:Nat} (h:dd x p k=none) (m:Option Nat):cA p m≠some x:=by
  intro hs
  cases p with
  | pl p =>
    simp only [cA] at hs
    simp only [dd] at h
    unfold eh at hs
    split at hs
    · rename_i hm
      cases hs
      simp [hm] at h
    · rename_i i hm
      split at hs
      · cases hs
        simp [hm] at h
      · cases hs
  | ins G kk a =>
    cases m with
    | none=>simp [cA] at hs
    | some i =>
      simp only [cA] at hs
      split at hs
      · cases hs;simp [dd] at h
      · cases hs;simp [dd] at h
  | perm G σ τ =>
    cases m with
    | none=>simp [cA] at hs
    | some i =>
      simp only [cA] at hs
      cases hs
      simp [dd] at h
theorem rr {x:Id}:∀ (l:List K) (k:Nat) (y:Id) (ps:List Prop),iE x l k=some (y,ps)→af ps→k≤y.o∧∃ p,l[y.o - k]? = some p∧cA p y.m=some x
  | [],k,y,ps,h,_=>by simp [iE] at h
  | p::l,k,y,ps,h,ha=>by
    simp only [iE] at h
    split at h
    · rename_i r hr
      cases h
      obtain ⟨h1,h2⟩:=yb hr ha
      exact ⟨by omega,p,by simp [h1],h2⟩
    · obtain ⟨h1,q,h2,h3⟩:=rr l (k+1) y ps h ha
      refine ⟨by omega,q,?_,h3⟩
      have:y.o - k=(y.o - (k+1))+1:=by omega
      rw [this]
      simpa using h2
theorem mw {x:Id}:∀ (l:List K) (k:Nat),iE x l k=none→∀ p∈l,∀ m,cA p m≠some x
  | [],k,_=>by simp
  | p::l,k,h=>by
    simp only [iE] at h
    split at h
    · cases h
    · rename_i hr
      intro q hq m
      rcases List.mem_cons.1 hq with rfl | hq
      · exact xH hr m
      · exact mw l (k+1) h q hq m
theorem wi {p:Id} {m m':Option Nat} {x:Id} (h:eh p m=some x) (h':eh p m'=some x):m=m':=by
  unfold eh at h h'
  cases hp:p.m with
  | none =>
    rw [hp] at h h'
    simp only [Option.some.injEq] at h h'
    rw [← h'] at h
    simpa using h
  | some i =>
    rw [hp] at h h'
    cases m with
    | none=>cases m' with
      | none=>rfl
      | some _=>simp at h'
    | some _=>simp at h
theorem mR {p:Id} {m:Option Nat} {x:Id} (h:eh p m=some x):x.o=p.o:=by
  unfold eh at h
  split at h
  · cases h;rfl
  · split at h
    · cases h;rfl
    · cases h
def cE (β:Id→Option Addr) (pass:List K) (k:Id):Option Addr:=match pass[k.o]? with
  | some p=>match cA p k.m with
    | some x=>β x
    | none=>none
  | none=>none
theorem dp {β:Id→Option Addr} {pass:List K} {k x:Id} {p:K} (h1:pass[k.o]? = some p) (h2:cA p k.m=some x):cE β pass k=β x:=by
  simp [cE,h1,h2]
theorem sx {β:Id→Option Addr} {pass:List K} {k:Id} {a:Addr} (h:cE β pass k=some a):∃ p x,pass[k.o]? = some p∧cA p k.m=some x∧β x=some a:=by
  unfold cE at h
  split at h
  · rename_i p hp
    split at h
    · rename_i x hx
      exact ⟨p,x,hp,hx,h⟩
    · cases h
  · cases h
section
variable {X:Nat→Prop} {w:World} {β:Id→Option Addr} {H L:Hp} {pass:List K}
theorem C9 {t:Bool} {own ownc:Bool→Nat→Prop} (hc:∀ t b,ownc t b→own t b) (hc':∀ t b,ownc true b→own t b) {v:PV} {x:Value} (h:PR w own v x):PR w ownc (tg t v) x:=by
  cases t with
  | true=>exact ui hc' h
  | false=>exact h.ext (Ext.sub hc)
theorem wG {t:Bool} {ownc:Bool→Nat→Prop} (hH:HR w β (ow X β H) H) (hL:∀ o ob,L.lookup o=some ob→H.lookup o=some ob)
    (hc:∀ t b,ownc t b→ow X β H t b) (hc':∀ t b,ownc true b→ow X β H t b)
    (hfree:∀ o ob a,lk H o=some ob→iE o pass 0=none→β o=some a→¬ ownc t a.block) :
    ∀ (d:Nat) (x:AV) (v:Value),VR w β (ow X β H) x v→af (eH t L pass d x).2→PR w ownc (eH t L pass d x).1 v:=by
  have pm:∀ {v:PV} {x:Value},PR w (ow X β H) v x→PR w ownc (tg t v) x:=fun h=>C9 hc hc' h
  have core:∀ (z:Nat) (o:Id) (off n:Nat) (v:Value) (ob:Ob) (f:Nat→List PV),VR w β (ow X β H) (.ar z o off n) v→iE o pass 0=none→lk H o=some ob→ob.z=z→n+off≤ob.n →
      (∀ i,i<n→∀ j,j<z→∀ u,VR w β (ow X β H) ((ob.f (i+off)).getD j ag) u→PR w ownc ((f i).getD j .any) u)→PR w ownc (.seq t z n f) v:=by
    intro z o off n v ob f hv hi hlo hz hn hf
    cases hv with
    | ar0 _ _ _ a=>exact .seq0 _ _ _ _ _
    | ar _ _ _ _ b base c cells elem fr hβ hh hsz hc' =>
      by_cases hn0:n=0
      · subst hn0;exact .seq0 _ _ _ _ _
      rcases hH o ob hlo with h | ⟨b',base',cells',elem',h1,h2,h3⟩ | ⟨_,_,_,b',es,ck,h1,h2,_⟩
      rotate_left 2
      · rw [hβ] at h1;cases h1;rw [hh] at h2;cases h2
      · rw [h.1] at hβ;cases hβ
      rw [hβ] at h1
      cases h1
      have hcell:∀ i,i<n→∀ j,j<z→∃ u,w.cell? ⟨b,base+off*z+(i*z+j),none⟩=some u∧One u∧VR w β (ow X β H) ((ob.f (i+off)).getD j ag) u:=by
        intro i hi' j hj
        obtain ⟨u,g1,g2,g3⟩:=h3 (i+off) (by omega) j (by omega)
        refine ⟨u,?_,g2,g3⟩
        rw [hz] at g1
        have e:base+off*z+(i*z+j)=base+((i+off)*z+j):=by rw [Nat.add_mul];omega
        rw [e]
        simp [World.cell?,h2,g1]
      refine .seq t z n f b (base+off*z) c (fun i j=>(w.cell? ⟨b,base+off*z+(i*z+j),none⟩).getD undef) (hfree o ob _ hlo hi hβ) (Array.getElem?_eq_some_iff.1 hh).1 hc' (fun i hi' j hj=>?_) (fun i hi' j hj=>?_) (fun i hi' j hj=>?_)
      · obtain ⟨u,g1,_,_⟩:=hcell i hi' j hj
        rw [g1];rfl
      · obtain ⟨u,g1,g2,_⟩:=hcell i hi' j hj
        rw [g1];exact g2
      · obtain ⟨u,g1,_,g3⟩:=hcell i hi' j hj
        rw [g1];exact hf i hi' j hj u g3
  intro d
  induction d with
  | zero =>
    intro x v hv _
    cases x<;>simp only [eH]<;>first | exact .any _ | (cases hv;rename_i h;exact pm h)
  | succ d ih =>
    intro x v hv hob
    cases x with
    | p u=>simp only [eH];cases hv;rename_i h;exact pm h
    | ar z o off n =>
      cases d with
      | zero =>
        simp only [eH] at hob ⊢
        split at hob
        · rename_i ob ps hi hlo
          obtain ⟨hps,h1,h2,_⟩:=aL hob
          refine core z o off n v ob _ hv hi (fK hL hlo ((bQ _).1 hps)) h1 h2 (fun i hi' j hj u hu=>?_)
          rw [aH _ _ _ _ hj]
          unfold bG
          split
          · rename_i v' hv'
            rw [hv'] at hu
            cases hu;rename_i h;exact pm h
          · exact .any _
        · exact .any _
      | succ d =>
        simp only [eH] at hob ⊢
        split at hob
        · rename_i ob ps hi hlo
          obtain ⟨hps,h1,h2,h3,_⟩:=aL hob
          refine core z o off n v ob _ hv hi (fK hL hlo ((bQ _).1 hps)) h1 h2 (fun i hi' j hj u hu=>?_)
          rw [aH _ _ _ _ hj]
          refine ih _ u hu ?_
          have h4:=h3 i hi'
          rw [bQ] at h4 ⊢
          intro p hp
          refine h4 p (List.mem_flatten.2 ⟨_,?_,hp⟩)
          have:=tab_getElem? z (fun j=>(eH t L pass (d+1) ((ob.f (i+off)).getD j ag)).2) j hj
          exact List.mem_of_getElem? this
        · exact .any _
    | _=>simp only [eH];exact .any _
theorem AY {t:Bool} {ownc:Bool→Nat→Prop} (hH:HR w β (ow X β H) H) (hL:∀ o ob,L.lookup o=some ob→H.lookup o=some ob)
    (hc:∀ t b,ownc t b→ow X β H t b) (hc':∀ t b,ownc true b→ow X β H t b)
    (hfree:∀ o ob a,lk H o=some ob→iE o pass 0=none→β o=some a→¬ ownc t a.block) (d:Nat) :
    ∀ (x:AV) (v:Value),VR w β (ow X β H) x v→af (bh t L pass d x).2→VR w (cE β pass) ownc (bh t L pass d x).1 v:=by
  have sub:∀ {o k:Id} {a:Addr} {ps:List Prop},iE o pass 0=some (k,ps)→af ps→β o=some a→cE β pass k=some a:=by
    intro o k a ps h hps hβ
    obtain ⟨_,p,h2,h3⟩:=rr pass 0 k ps h hps
    simp only [Nat.sub_zero] at h2
    simp [cE,h2,h3,hβ]
  intro x v hv
  induction hv with
  | p v x h=>intro _;simp only [bh];exact .p _ _ (C9 hc hc' h)
  | ar0 z o off a =>
    intro hob
    simp only [bh] at hob ⊢
    split
    · exact .ar0 _ _ _ _
    · rename_i hi
      rw [hi] at hob
      exact .p _ _ (wG hH hL hc hc' hfree d _ _ (.ar0 _ _ _ _) hob)
  | ar z o off n b base c cells elem fr hβ hh hsz hcc =>
    intro hob
    simp only [bh] at hob ⊢
    split
    · rename_i k ps hi
      rw [hi] at hob
      exact .ar _ _ _ _ b base c cells elem fr (sub hi hob hβ) hh hsz hcc
    · rename_i hi
      rw [hi] at hob
      exact .p _ _ (wG hH hL hc hc' hfree d _ _ (.ar _ _ _ _ b base c cells elem fr hβ hh hsz hcc) hob)
  | pt z o row off b base hβ =>
    intro hob
    simp only [bh] at hob ⊢
    split
    · rename_i k ps hi
      rw [hi] at hob
      exact .pt _ _ _ _ b base (sub hi hob hβ)
    · exact .any _
  | ip s cs b off g hb hlt hcell hone hp =>
    intro _
    simp only [bh]
    split
    · exact .any _
    · exact .ip s cs b off g (fun h=>hb (hc s b h)) hlt hcell hone (fun j hj=>(hp j hj).ext (Ext.sub hc))
  | mp o b hβ hm =>
    intro hob
    simp only [bh] at hob ⊢
    split
    · rename_i k ps hi
      rw [hi] at hob
      obtain ⟨ko,km⟩:=k
      cases km with
      | none=>exact .mp _ b (sub hi hob hβ) hm
      | some _=>exact .any _
    · exact .any _
  | agg cs vs hl hone h ih =>
    intro hob
    simp only [bh] at hob ⊢
    refine .agg _ _ (by rw [bF];exact hl) (fun j hj=>hone j (by rw [bF] at hj;exact hj)) (fun j hj=>?_)
    rw [dm]
    exact ih j (by rw [bF] at hj;exact hj) (fH t L pass d cs j hob)
  | tup cs vs hl h ih =>
    intro hob
    simp only [bh] at hob ⊢
    split
    · exact .any _
    · rename_i ht
      rw [if_neg ht] at hob
      refine .tup _ _ (by simp only [bF];exact hl) (fun j hj=>?_)
      simp only [bF] at hj
      simp only [dm]
      exact ih j hj (fH t L pass d cs j hob)
  | clo f cs vs hl h ih =>
    intro hob
    simp only [bh] at hob ⊢
    refine .clo _ _ _ (by rw [bF];exact hl) (fun j hj=>?_)
    rw [dm]
    exact ih j (by rw [bF] at hj;exact hj) (fH t L pass d cs j hob)
  | cnd g v x _ _ _=>intro _;simp only [bh];exact .any _
theorem VR.ren {βc β':Id→Option Addr} {ownc own':Bool→Nat→Prop} {r:Id→Id} (hβ:∀ k a,βc k=some a→β' (r k)=some a) (hown:∀ t b,own' t b→ownc t b) {x:AV} {v:Value}
    (h:VR w βc ownc x v):VR w β' own' (ren r x) v:=by
  induction h with
  | p v x h=>simp only [Mach.ren];exact .p _ _ (h.ext (Ext.sub hown))
  | ar0 z o off a=>simp only [Mach.ren];exact .ar0 _ _ _ _
  | ar z o off n b base c cells elem fr hb hh hsz hc=>simp only [Mach.ren];exact .ar _ _ _ _ b base c cells elem fr (hβ _ _ hb) hh hsz hc
  | pt z o row off b base hb=>simp only [Mach.ren];exact .pt _ _ _ _ b base (hβ _ _ hb)
  | ip s cs b off g hb hlt hcell hone hp=>simp only [Mach.ren];exact .ip s cs b off g (fun h=>hb (hown s b h)) hlt hcell hone (fun j hj=>(hp j hj).ext (Ext.sub hown))
  | mp o b hb hm =>
    have h1:=hβ _ _ hb
    simp only [Mach.ren]
    generalize r ⟨o,none⟩=y at h1 ⊢
    obtain ⟨yo,ym⟩:=y
    cases ym with
    | none=>exact .mp _ b h1 hm
    | some _=>exact .any _
  | agg cs vs hl hone h ih =>
    simp only [Mach.ren]
    refine .agg _ _ (by rw [bO];exact hl) (fun j hj=>hone j (by rw [bO] at hj;exact hj)) (fun j hj=>?_)
    rw [dR]
    exact ih j (by rw [bO] at hj;exact hj)
  | tup cs vs hl h ih =>
    simp only [Mach.ren]
    refine .tup _ _ (by rw [bO];exact hl) (fun j hj=>?_)
    rw [dR]
    exact ih j (by rw [bO] at hj;exact hj)
  | clo f cs vs hl h ih =>
    simp only [Mach.ren]
    refine .clo _ _ _ (by rw [bO];exact hl) (fun j hj=>?_)
    rw [dR]
    exact ih j (by rw [bO] at hj;exact hj)
  | cnd g v x _ h' ih=>simp only [Mach.ren];exact .cnd g _ x ih h'
end
structure CallD where
  pass:List Id
  lend:List Nat
  see:List Nat
  depth:Nat
  H':Hp
  res:AV
def iX:List Nat→Bool
  | []=>true
  | x::l=>!(l.elem x)&&iX l
theorem fz:∀ {l:List Nat},iX l=true→l.Nodup
  | [],_=>List.nodup_nil
  | x::l,h=>by
    simp only [iX,Bool.and_eq_true,Bool.not_eq_true',List.elem_eq_mem,decide_eq_false_iff_not] at h
    exact List.nodup_cons.2 ⟨h.1,fz h.2⟩
theorem pr:∀ {l:List Nat} {i j x:Nat},l.Nodup→l[i]? = some x→l[j]? = some x→i=j
  | [],i,j,x,_,h,_=>by simp at h
  | y::l,i,j,x,hn,h1,h2=>by
    rw [List.nodup_cons] at hn
    cases i with
    | zero =>
      cases j with
      | zero=>rfl
      | succ j =>
        simp only [List.getElem?_cons_zero,Option.some.injEq] at h1
        simp only [List.getElem?_cons_succ] at h2
        subst h1
        exact absurd (List.mem_of_getElem? h2) hn.1
    | succ i =>
      cases j with
      | zero =>
        simp only [List.getElem?_cons_zero,Option.some.injEq] at h2
        simp only [List.getElem?_cons_succ] at h1
        subst h2
        exact absurd (List.mem_of_getElem? h1) hn.1
      | succ j =>
        simp only [List.getElem?_cons_succ] at h1 h2
        rw [pr hn.2 h1 h2]
def kk (l:List Id):List K:=l.map .pl
theorem AZ (l:List Id) (q:Nat):(kk l)[q]? = (l[q]?).map .pl:=by simp [kk]
def iS (pass:List Id) (base:Nat) (k:Id):Id:=match pass[k.o]? with
  | some p=>(match eh p k.m with
    | some x=>x
    | none=>p)
  | none=>⟨base+(k.o - pass.length),k.m⟩
def Fy (L H':Hp) (r:Ob→Ob) (p:Id) (k:Nat):Option Ob:=match p.m with
  | none=>(match H'.lookup k with
    | some ob=>some (r ob)
    | none=>none)
  | some i=>(match L.lookup p.o with
    | some fam=>some (match H'.lookup k with
      | some ob=>kH fam i (r ob)
      | none=>{ fam with f:=fun q=>if q=i then [] else fam.f q })
    | none=>none)
def Bx (L H':Hp) (r:Ob→Ob):List Id→Nat→List (Nat×Option Ob)
  | [],_=>[]
  | p::l,k=>(p.o,Fy L H' r p k)::Bx L H' r l (k+1)
def sC (m base:Nat) (r:Ob→Ob):Hp→List (Nat×Option Ob)
  | []=>[]
  | (k,ob)::l=>if Nat.ble m k then (base+(k - m),some (r ob))::sC m base r l else sC m base r l
mutual
def qI:PV→PV
  | .seq _ z n f=>.seq false z n (fun i=>yf (f i))
  | .any=>.any
  | .int k n=>.int k n
  | .bool b=>.bool b
  | .str s=>.str s
  | .nil=>.nil
  | .fn f=>.fn f
def yf:List PV→List PV
  | []=>[]
  | v::l=>qI v::yf l
end
mutual
def bor:AV→AV
  | .p v=>.p (bu v)
  | .agg cs=>.agg (ep cs)
  | .tup vs=>.tup (ep vs)
  | .ip _ _=>ag
  | .cnd _ _=>ag
  | .clo f cs=>.clo f (ep cs)
  | x=>x
def ep:List AV→List AV
  | []=>[]
  | v::l=>bor v::ep l
end
def kf (k:Bool) (v:PV):PV:=match k with
  | true=>v
  | false=>qI v
mutual
def nn (k:Bool) (L:Hp) (pass:List K) (d:Nat):AV→AV×List Prop
  | .p v=>(.p (kf k v),[])
  | .agg cs=>(.agg (gW k L pass d cs).1,(gW k L pass d cs).2)
  | .tup _=>(ag,[])
  | x=>bh true L pass d x
def gW (k:Bool) (L:Hp) (pass:List K) (d:Nat):List AV→List AV×List Prop
  | []=>([],[])
  | v::l=>((nn k L pass d v).1::(gW k L pass d l).1,(nn k L pass d v).2++(gW k L pass d l).2)
end
def mE (m q:Bool) (L:Hp) (pass:List K) (d:Nat) (r:List AV):List AV×List Prop:=match q with
  | true=>gW true L pass d r
  | false=>match m with
    | true=>gW false L pass d r
    | false=>ay true L pass d r
def i9 (m q:Bool) (v:PV):PV:=match q with
  | true=>v
  | false=>match m with
    | true=>qI v
    | false=>bu v
def pG (φ:PV→PV):List AV→List AV
  | [.p v]=>[.p (φ v)]
  | _=>[]
def xE (L:Hp) (p:Id):Option (Ob×List Prop):=match p.m with
  | none=>(match L.lookup p.o with
    | some ob=>some (ob,[])
    | none=>none)
  | some _=>qQ L p
def iW (m q:Bool) (L:Hp) (pass:List K) (d:Nat) (ob:Ob):Ob×List Prop:=match ob.isF with
  | true=>({ ob with f:=fun i=>pG (i9 m q) (ob.f i) },[])
  | false=>({ ob with f:=fun i=>(mE m q L pass d (ob.f i)).1 },[∀ i,i<ob.n→af (mE m q L pass d (ob.f i)).2])
def dC (m q:Bool) (L:Hp) (pass:List K) (d:Nat):List Id→Nat→Hp×List Prop
  | [],_=>([],[])
  | p::r,k =>
    match xE L p with
    | some (ob,ps)=>((k,(iW m q L pass d ob).1)::(dC m q L pass d r (k+1)).1,ps++((iW m q L pass d ob).2++(dC m q L pass d r (k+1)).2))
    | none=>dC m q L pass d r (k+1)
def AM (eh:List Nat) (L:Hp) (pass:List K) (d:Nat):Nat→List AV→List AV×List Prop
  | _,[]=>([],[])
  | k,v::l=>((if eh.elem k then nn false L pass d v else bh true L pass d v).1::(AM eh L pass d (k+1) l).1,(if eh.elem k then nn false L pass d v else bh true L pass d v).2++(AM eh L pass d (k+1) l).2)
def GV (d:CallD):Bool:=d.lend.elem 1000
def Dk (d:CallD):Bool:=!d.lend.isEmpty&&!GV d
def sH (m:Bool) (eh:List Nat) (L:Hp) (pass:List K) (d:Nat) (args:List AV):List AV×List Prop:=if m then AM eh L pass d 0 args else ay true L pass d args
def nL (m:Bool) (r:Id→Id) (x:AV):AV:=if m then bor (ren r x) else ren r x
def j4 (m:Bool) (r:Id→Id) (ob:Ob):Ob:=if m then { ob with f:=fun i=>ep (de r (ob.f i)) } else Dh r ob
def Cd (H':Hp):List Id→Nat→Bool
  | [],_=>true
  | p::l,k=>(match p.m with
    | none=>true
    | some _=>(match H'.lookup k with
      | some ob=>Nat.blt 0 ob.z
      | none=>true))&&Cd H' l (k+1)
def ww (P:Program) (base:Nat) (L:Hp) (f:FuncId) (args:List AV) (d:CallD):Option Eff :=
    if iX (d.pass.map (·.o))&&Cd d.H' d.pass 0&&d.pass.all (fun p=>(xE L p).isSome&&(Nat.blt p.o base||Nat.ble (base+32) p.o))&&iX (d.H'.map (·.1))&&d.H'.all (fun e=>Nat.blt e.1 (d.pass.length+32)) then
      some ⟨nL (Dk d) (iS d.pass base) d.res,Bx L d.H' (j4 (Dk d) (iS d.pass base)) d.pass 0++sC d.pass.length base (j4 (Dk d) (iS d.pass base)) d.H',
        (dC (Dk d) (GV d) L (kk d.pass) d.depth d.pass 0).2++(sH (Dk d) d.lend L (kk d.pass) d.depth args).2++[Con P f d.pass.length (dC (Dk d) (GV d) L (kk d.pass) d.depth d.pass 0).1 (sH (Dk d) d.lend L (kk d.pass) d.depth args).1 d.H' d.res]⟩
    else none
def gJ (P:Program) (base:Nat) (L:Hp) (fv:AV) (args:List AV) (d:CallD):Option Eff :=
  match fv with
  | .p (.fn f)=>ww P base L f args d
  | .clo f cs=>ww P base L f (args++cs) d
  | _=>none
theorem dB:∀ (wr:List (Nat×Option Ob)) (H:Hp) (j:Nat),(wr.map (·.1)).Nodup →
    (a7 H wr).lookup j=match wr.lookup j with | some x=>x | none=>H.lookup j
  | [],H,j,_=>by simp [a7]
  | (k,x)::r,H,j,hn=>by
    simp only [List.map_cons,List.nodup_cons] at hn
    have hk:r.lookup k=none:=by
      rw [List.lookup_eq_none_iff]
      intro p hp
      have:p.1∈r.map (·.1):=List.mem_map_of_mem hp
      simp only [bne_iff_ne,ne_eq,beq_eq_false_iff_ne]
      intro e
      exact hn.1 (e ▸ this)
    by_cases hj:j=k
    · subst hj
      cases x with
      | none=>simp only [a7];rw [dB r _ _ hn.2,hk,bN];simp
      | some ob=>simp only [a7];rw [dB r _ _ hn.2,hk,cj];simp
    · have hb:(j==k)=false:=by simpa using hj
      cases x with
      | none =>
        simp only [a7]
        rw [dB r _ _ hn.2,bN]
        simp [List.lookup_cons,hb,hj]
      | some ob =>
        simp only [a7]
        rw [dB r _ _ hn.2,cj]
        simp [List.lookup_cons,hb,hj]
theorem eK (m u:Bool) (L:Hp) (pass:List K) (d:Nat):∀ (l:List Id) (k j:Nat) (ob:Ob),(dC m u L pass d l k).1.lookup j=some ob→af (dC m u L pass d l k).2 →
    k≤j∧∃ p ob0 ps,l[j - k]? = some p∧xE L p=some (ob0,ps)∧af ps∧ob=(iW m u L pass d ob0).1∧af (iW m u L pass d ob0).2
  | [],k,j,ob,h,_=>by simp [dC] at h
  | p::l,k,j,ob,h,ha=>by
    simp only [dC] at h ha
    cases hlo:xE L p with
    | none =>
      rw [hlo] at h ha
      obtain ⟨h1,o',ob0,ps,h2,h3⟩:=eK m u L pass d l (k+1) j ob h ha
      refine ⟨by omega,o',ob0,ps,?_,h3⟩
      have:j - k=(j - (k+1))+1:=by omega
      rw [this]
      simpa using h2
    | some obp =>
      obtain ⟨ob1,ps1⟩:=obp
      rw [hlo] at h ha
      obtain ⟨ha1,ha4⟩:=aL ha
      obtain ⟨ha2,ha3⟩:=aL ha4
      simp only [List.lookup_cons] at h
      by_cases hj:j=k
      · subst hj
        simp only [beq_self_eq_true,Option.some.injEq] at h
        exact ⟨Nat.le_refl _,p,ob1,ps1,by simp,hlo,ha1,h.symm,ha2⟩
      · have hb:(j==k)=false:=by simpa using hj
        rw [hb] at h
        obtain ⟨h1,o',ob0,ps,h2,h3⟩:=eK m u L pass d l (k+1) j ob h ha3
        refine ⟨by omega,o',ob0,ps,?_,h3⟩
        have:j - k=(j - (k+1))+1:=by omega
        rw [this]
        simpa using h2
theorem r8 (L H':Hp) (r:Ob→Ob):∀ (l:List Id) (k:Nat),(Bx L H' r l k).map (·.1)=l.map (·.o)
  | [],k=>rfl
  | o::l,k=>by simp [Bx,r8 L H' r l (k+1)]
theorem mh (L H':Hp) (r:Ob→Ob):∀ (l:List Id) (k j:Nat),(l.map (·.o)).Nodup →
    (∃ q p,l[q]? = some p∧p.o=j∧(Bx L H' r l k).lookup j=some (Fy L H' r p (k+q)))∨((∀ p∈l,p.o≠j)∧(Bx L H' r l k).lookup j=none)
  | [],k,j,_=>.inr ⟨by simp,rfl⟩
  | p::l,k,j,hn=>by
    simp only [List.map_cons,List.nodup_cons] at hn
    simp only [Bx,List.lookup_cons]
    by_cases h:j=p.o
    · subst h
      exact .inl ⟨0,p,by simp,rfl,by simp⟩
    · have hb:(j==p.o)=false:=by simpa using h
      rw [hb]
      rcases mh L H' r l (k+1) j hn.2 with ⟨q,p',h1,h2,h3⟩ | ⟨h1,h2⟩
      · refine .inl ⟨q+1,p',by simpa using h1,h2,?_⟩
        rw [← Nat.add_assoc,Nat.add_right_comm]
        exact h3
      · exact .inr ⟨fun p' hp'=>by
          rcases List.mem_cons.1 hp' with rfl | hp'
          · exact Ne.symm h
          · exact h1 p' hp',h2⟩
theorem vO (H':Hp):∀ (l:List Id) (k q:Nat) (p:Id) (i:Nat) (ob:Ob),Cd H' l k=true→l[q]? = some p→p.m=some i→H'.lookup (k+q)=some ob→0<ob.z
  | [],k,q,p,i,ob,_,h,_,_=>by simp at h
  | p'::l,k,q,p,i,ob,hm,h,hp,ho=>by
    simp only [Cd,Bool.and_eq_true] at hm
    cases q with
    | zero =>
      simp only [List.getElem?_cons_zero,Option.some.injEq] at h
      subst h
      have h1:=hm.1
      rw [hp] at h1
      simp only [Nat.add_zero] at ho
      rw [ho] at h1
      simpa using h1
    | succ q=>exact vO H' l (k+1) q p i ob hm.2 (by simpa using h) hp (by rw [← ho];congr 1;omega)
theorem zC {L:Hp} {p:Id} {i:Nat} (hp:p.m=some i) (h:(xE L p).isSome=true):∃ fam,L.lookup p.o=some fam∧fam.isF=true:=by
  unfold xE at h
  rw [hp] at h
  simp only at h
  unfold qQ at h
  rw [hp] at h
  simp only at h
  split at h
  · rename_i fam hf
    split at h
    · rename_i hF
      exact ⟨fam,hf,hF⟩
    · cases h
  · cases h
theorem iV (m base:Nat) (r:Ob→Ob):∀ (l:Hp) (j:Nat),base≤j→(sC m base r l).lookup j=(l.lookup (m+(j - base))).map (fun ob=>some (r ob))
  | [],j,_=>by simp [sC]
  | (k,ob)::l,j,hj=>by
    simp only [sC]
    by_cases hm:m≤k
    · have:Nat.ble m k=true:=by simpa using hm
      simp only [this,if_true,List.lookup_cons]
      by_cases he:j=base+(k - m)
      · have e1:(j==base+(k - m))=true:=by simpa using he
        have e2:(m+(j - base)==k)=true:=by simp;omega
        simp [e1,e2]
      · have e1:(j==base+(k - m))=false:=by simpa using he
        have e2:(m+(j - base)==k)=false:=by simp;omega
        simp only [e1,e2]
        exact iV m base r l j hj
    · have:Nat.ble m k=false:=by
        cases h:Nat.ble m k with
        | false=>rfl
        | true=>rw [Nat.ble_eq] at h;omega
      have e2:(m+(j - base)==k)=false:=by simp;omega
      simp only [this,List.lookup_cons,e2]
      exact iV m base r l j hj
theorem jy (m base:Nat) (r:Ob→Ob):∀ (l:Hp) (x:Nat),x∈(sC m base r l).map (·.1)→∃ k∈l.map (·.1),m≤k∧x=base+(k - m)
  | [],x,h=>by simp [sC] at h
  | (k,ob)::l,x,h=>by
    simp only [sC] at h
    split at h
    · rename_i hm
      simp only [Nat.ble_eq] at hm
      simp only [List.map_cons,List.mem_cons] at h
      rcases h with h | h
      · exact ⟨k,by simp,hm,h⟩
      · obtain ⟨k',h1,h2⟩:=jy m base r l x h
        exact ⟨k',by simp [h1],h2⟩
    · obtain ⟨k',h1,h2⟩:=jy m base r l x h
      exact ⟨k',by simp [h1],h2⟩
theorem kI (m base:Nat) (r:Ob→Ob):∀ (l:Hp),(l.map (·.1)).Nodup→((sC m base r l).map (·.1)).Nodup
  | [],_=>by simp [sC]
  | (k,ob)::l,h=>by
    simp only [List.map_cons,List.nodup_cons] at h
    simp only [sC]
    split
    · rename_i hm
      simp only [Nat.ble_eq] at hm
      simp only [List.map_cons,List.nodup_cons]
      refine ⟨fun hx=>?_,kI m base r l h.2⟩
      obtain ⟨k',h1,h2,h3⟩:=jy m base r l _ hx
      have:k=k':=by omega
      exact h.1 (this ▸ h1)
    · exact kI m base r l h.2
structure Called (X:Nat→Prop) (w:World) (β:Id→Option Addr) (H:Hp) (w':World) (β':Id→Option Addr) (H':Hp) (k:Nat):Prop where
  hr:HR w' β' (ow X β' H') H'
  sep:Sep β' H'
  ext:Ext w (ow X β H) w' (ow X β' H')
  mono:∀ o a,β o=some a→β' o=some a
  dom:∀ j,β' j≠none→β j≠none∨(k≤j.o∧j.o<k+32)
  own:∀ b,aU β' H' b→aU β H b∨w.heap.size≤b
theorem Placed.called {X:Nat→Prop} {w w':World} {β β':Id→Option Addr} {H H':Hp} {k:Nat} (h:Placed X w β H w' β' H' k):Called X w β H w' β' H' k :=
  ⟨h.hr,h.sep,h.ext,h.mono,fun j hj=>(h.dom j hj).imp id (fun e=>by omega),h.own⟩
theorem kz:∀ (l:List PV) (j:Nat),(yf l).getD j .any=qI (l.getD j .any)
  | [],j=>by simp [yf,qI]
  | v::l,0=>by simp [yf]
  | v::l,j+1=>by simpa [yf] using kz l j
theorem uL {w:World} {own ownc:Bool→Nat→Prop} (hc:∀ t t' b,ownc t b→own t' b) {v:PV} {x:Value} (h:PR w own v x):PR w ownc (qI v) x:=by
  induction h with
  | any x=>simp only [qI];exact .any x
  | int k n=>simp only [qI];exact .int k n
  | bool b=>simp only [qI];exact .bool b
  | str s=>simp only [qI];exact .str s
  | nil=>simp only [qI];exact .nil
  | seq0 t z f a c=>simp only [qI];exact .seq0 _ _ _ _ _
  | seq t z n f b off c g hb hlt hcc hcell hone _ ih =>
    simp only [qI]
    exact .seq _ _ _ _ b off c g (fun h=>hb (hc _ _ b h)) hlt hcc hcell hone (fun i hi j hj=>by rw [kz];exact ih i hi j hj)
  | fn f=>simp only [qI];exact .fn f
theorem bP:∀ l:List AV,(ep l).length=l.length
  | []=>by simp [ep]
  | v::l=>by simp [ep,bP l]
theorem eZ:∀ (l:List AV) (j:Nat),(ep l).getD j ag=bor (l.getD j ag)
  | [],j=>by simp [ep,bor,bu]
  | v::l,0=>by simp [ep]
  | v::l,j+1=>by simpa [ep] using eZ l j
theorem VR.bor {w:World} {β:Id→Option Addr} {own own':Bool→Nat→Prop} (hown:∀ t b,own' true b→own t b) {x:AV} {v:Value} (h:VR w β own x v):VR w β own' (Mach.bor x) v:=by
  induction h with
  | p v x h=>simp only [Mach.bor];exact .p _ _ (ui hown h)
  | ar0 z o off a=>simp only [Mach.bor];exact .ar0 _ _ _ _
  | ar z o off n b base c cells elem fr hb hh hsz hc=>simp only [Mach.bor];exact .ar _ _ _ _ b base c cells elem fr hb hh hsz hc
  | pt z o row off b base hb=>simp only [Mach.bor];exact .pt _ _ _ _ b base hb
  | ip s cs b off g hb hlt hcell hone hp=>simp only [Mach.bor];exact .any _
  | mp o b hb hm=>simp only [Mach.bor];exact .mp _ b hb hm
  | agg cs vs hl hone h ih =>
    simp only [Mach.bor]
    refine .agg _ _ (by rw [bP];exact hl) (fun j hj=>hone j (by rw [bP] at hj;exact hj)) (fun j hj=>?_)
    rw [eZ]
    exact ih j (by rw [bP] at hj;exact hj)
  | tup cs vs hl h ih =>
    simp only [Mach.bor]
    refine .tup _ _ (by rw [bP];exact hl) (fun j hj=>?_)
    rw [eZ]
    exact ih j (by rw [bP] at hj;exact hj)
  | clo f cs vs hl h ih =>
    simp only [Mach.bor]
    refine .clo f _ _ (by rw [bP];exact hl) (fun j hj=>?_)
    rw [eZ]
    exact ih j (by rw [bP] at hj;exact hj)
  | cnd g v x _ h' ih=>simp only [Mach.bor];exact .any _
theorem eC (q:Bool) (L:Hp) (pass:List K) (d:Nat):∀ l:List AV,(gW q L pass d l).1.length=l.length
  | []=>by simp [gW]
  | v::l=>by simp [gW,eC q L pass d l]
theorem iy (q:Bool) (L:Hp) (pass:List K) (d:Nat):∀ (l:List AV) (j:Nat),(gW q L pass d l).1.getD j ag=(nn q L pass d (l.getD j ag)).1
  | [],j=>by cases q<;>simp [gW,nn,kf,qI]
  | v::l,0=>by simp [gW]
  | v::l,j+1=>by simpa [gW] using iy q L pass d l j
theorem lI (q:Bool) (L:Hp) (pass:List K) (d:Nat):∀ (l:List AV) (j:Nat),af (gW q L pass d l).2→af (nn q L pass d (l.getD j ag)).2
  | [],j,_=>by simp [nn,af]
  | v::l,0,h=>by simp only [gW] at h;simpa using (aL h).1
  | v::l,j+1,h=>by simp only [gW] at h;simpa using lI q L pass d l j (aL h).2
theorem uo {q:Bool} {w:World} {β βc:Id→Option Addr} {own ownc:Bool→Nat→Prop} {L:Hp} {pass:List K} {d:Nat}
    (hcvt:∀ (x:AV) (v:Value),VR w β own x v→af (bh true L pass d x).2→VR w βc ownc (bh true L pass d x).1 v) (hf:∀ (v:PV) (x:Value),PR w own v x→PR w ownc (kf q v) x)
    {x:AV} {v:Value} (h:VR w β own x v):af (nn q L pass d x).2→VR w βc ownc (nn q L pass d x).1 v:=by
  induction h with
  | p v x h=>intro _;simp only [nn];exact .p _ _ (hf _ _ h)
  | ar0 z o off a=>intro ho;simp only [nn] at ho ⊢;exact hcvt _ _ (.ar0 _ _ _ _) ho
  | ar z o off n b base c cells elem fr hb hh hsz hc=>intro ho;simp only [nn] at ho ⊢;exact hcvt _ _ (.ar _ _ _ _ b base c cells elem fr hb hh hsz hc) ho
  | pt z o row off b base hb=>intro ho;simp only [nn] at ho ⊢;exact hcvt _ _ (.pt _ _ _ _ b base hb) ho
  | ip s cs b off g hb hlt hcell hone hp=>intro ho;simp only [nn] at ho ⊢;exact hcvt _ _ (.ip s cs b off g hb hlt hcell hone hp) ho
  | mp o b hb hm=>intro ho;simp only [nn] at ho ⊢;exact hcvt _ _ (.mp _ b hb hm) ho
  | agg cs vs hl hone h ih =>
    intro ho
    simp only [nn] at ho ⊢
    refine .agg _ _ (by rw [eC];exact hl) (fun j hj=>hone j (by rw [eC] at hj;exact hj)) (fun j hj=>?_)
    rw [iy]
    exact ih j (by rw [eC] at hj;exact hj) (lI q L pass d cs j ho)
  | tup cs vs hl h ih=>intro ho;simp only [nn];exact .any _
  | clo f cs vs hl h ih=>intro ho;simp only [nn] at ho ⊢;exact hcvt _ _ (.clo f cs vs hl h) ho
  | cnd g v x h h' ih=>intro ho;simp only [nn,bh];exact .any _
theorem md (eh:List Nat) (L:Hp) (pass:List K) (d:Nat):∀ (l:List AV) (k:Nat),(AM eh L pass d k l).1.length=l.length
  | [],k=>by simp [AM]
  | v::l,k=>by simp [AM,md eh L pass d l (k+1)]
theorem A5 (eh:List Nat) (L:Hp) (pass:List K) (d:Nat):∀ (l:List AV) (k j:Nat),j<l.length→af (AM eh L pass d k l).2 →
    ((AM eh L pass d k l).1.getD j ag=(nn false L pass d (l.getD j ag)).1∧af (nn false L pass d (l.getD j ag)).2)∨((AM eh L pass d k l).1.getD j ag=(bh true L pass d (l.getD j ag)).1∧af (bh true L pass d (l.getD j ag)).2)
  | [],k,j,hj,_=>by simp at hj
  | v::l,k,0,_,h=>by
    simp only [AM] at h ⊢
    have h1:=(aL h).1
    cases e:eh.elem k with
    | true=>rw [e] at h1;exact .inl ⟨by simp,by simpa using h1⟩
    | false=>rw [e] at h1;exact .inr ⟨by simp,by simpa using h1⟩
  | v::l,k,j+1,hj,h=>by
    simp only [AM] at h ⊢
    simpa using A5 eh L pass d l (k+1) j (by simpa using hj) (aL h).2
theorem kU (m:Bool) (eh:List Nat) (L:Hp) (pass:List K) (d:Nat) (args:List AV):(sH m eh L pass d args).1.length=args.length:=by
  cases m<;>simp [sH,md,bF]
theorem r6 (m:Bool) (r:Id→Id) (ob:Ob) (i j:Nat):((j4 m r ob).f i).getD j ag=nL m r ((ob.f i).getD j ag):=by
  cases m
  · simp only [j4,nL,Dh,Bool.false_eq_true,if_false,dR]
  · simp only [j4,nL,if_true,eZ,dR]
theorem Ab (m:Bool) (r:Id→Id) (ob:Ob):(j4 m r ob).n=ob.n∧(j4 m r ob).z=ob.z∧(j4 m r ob).bx=ob.bx:=by
  cases m<;>exact ⟨rfl,rfl,rfl⟩
section
variable {X:Nat→Prop} {P:Program} {w:World} {β:Id→Option Addr} {H L:Hp}
theorem mY {own:Bool→Nat→Prop} (hH:HR w β own H) {b:Nat} (h:aU β H b):b<w.heap.size:=by
  obtain ⟨o,ob,a,h1,h2,rfl⟩:=h
  rcases hH o ob h1 with g | ⟨b,base,cells,elem,g1,g2,_⟩ | ⟨_,_,_,b,es,ck,g1,g2,_⟩
  · rw [g.1] at h2;cases h2
  · rw [h2] at g1;cases g1;exact (Array.getElem?_eq_some_iff.1 g2).1
  · rw [h2] at g1;cases g1;exact (Array.getElem?_eq_some_iff.1 g2).1
theorem tq {m q:Bool} {r:List AV} {obc:Ob} (h:bt (pG (i9 m q) r)=some obc) :
    ∃ ob0,bt r=some ob0∧obc.z=ob0.z∧obc.n=ob0.n∧obc.bx=false∧ob0.bx=false∧∀ i j,j<ob0.z→∃ v,(ob0.f i).getD j ag=.p v∧(obc.f i).getD j ag=.p (i9 m q v):=by
  unfold pG at h
  split at h
  · rename_i v
    cases v with
    | seq t z n g =>
      refine ⟨⟨false,z,n,fun r=>d7 z fun j=>.p ((g r).getD j .any)⟩,rfl,?_⟩
      cases q with
      | true =>
        simp only [i9,bt,Option.some.injEq] at h
        subst h
        refine ⟨rfl,rfl,rfl,rfl,fun i j hj=>⟨(g i).getD j .any,?_,?_⟩⟩<;>simp only [i9]<;>rw [aH _ _ _ _ hj]
      | false =>
        cases m with
        | true =>
          simp only [i9,qI,bt,Option.some.injEq] at h
          subst h
          refine ⟨rfl,rfl,rfl,rfl,fun i j hj=>⟨(g i).getD j .any,?_,?_⟩⟩<;>simp only [i9]<;>rw [aH _ _ _ _ hj]
          rw [kz]
        | false =>
          simp only [i9,bu,bt,Option.some.injEq] at h
          subst h
          refine ⟨rfl,rfl,rfl,rfl,fun i j hj=>⟨(g i).getD j .any,?_,?_⟩⟩<;>simp only [i9]<;>rw [aH _ _ _ _ hj]
          rw [iB]
    | _=>cases q<;>cases m<;>simp [i9,qI,bu,bt] at h
  · simp [bt] at h
theorem yS {m:Bool} {r:Id→Id} {ob0:Ob} {mm:Option Nat} {ob:Ob} (h:vw (j4 m r ob0) mm=some ob) :
    ∃ obd,vw ob0 mm=some obd∧ob.n=obd.n∧ob.z=obd.z∧ob.bx=obd.bx∧(mm=none→ob=j4 m r obd) ∧
      ∀ i j,j<obd.z→(ob.f i).getD j ag=nL m r ((obd.f i).getD j ag):=by
  obtain ⟨e1,e2,e3⟩:=Ab m r ob0
  have eF:(j4 m r ob0).isF=ob0.isF:=by unfold Ob.isF;rw [e2,e3]
  cases mm with
  | none =>
    simp only [vw,eF] at h
    split at h
    · cases h
    · rename_i hf
      cases h
      exact ⟨ob0,by simp [vw,hf],e1,e2,e3,fun _=>rfl,fun i j _=>r6 m r ob0 i j⟩
  | some i =>
    simp only [vw,eF,e1] at h
    split at h
    case isFalse=>cases h
    rename_i hf
    have hrow:∃ t z n g,ob0.f i=[.p (.seq t z n g)]:=by
      have hsh:(j4 m r ob0).f i=(if m then ep (de r (ob0.f i)) else de r (ob0.f i)):=by cases m<;>rfl
      rw [hsh] at h
      generalize ob0.f i=row at h
      have hmp:∀ o,(∃ q,ren r (.mp o)=.mp q)∨ren r (.mp o)=ag:=by
        intro o
        simp only [ren]
        split
        · exact .inl ⟨_,rfl⟩
        · exact .inr rfl
      match row with
      | []=>cases m<;>simp [de,ep,bt] at h
      | [x] =>
        cases x with
        | p v=>cases v<;>cases m<;>simp [de,ep,ren,bor,bu,bt] at h<;>exact ⟨_,_,_,_,rfl⟩
        | mp o=>rcases hmp o with ⟨q,e⟩ | e<;>cases m<;>simp [de,ep,e,bor,bu,bt] at h
        | _=>cases m<;>simp [de,ep,ren,bor,bu,bt] at h
      | x::y::l=>cases m<;>simp [de,ep,bt] at h
    obtain ⟨t,z,n,g,hg⟩:=hrow
    refine ⟨⟨false,z,n,fun r=>d7 z fun j=>.p ((g r).getD j .any)⟩,by simp [vw,hf,hg,bt],?_⟩
    cases m with
    | true =>
      have hsh:(j4 true r ob0).f i=[.p (bu (.seq t z n g))]:=by
        show ep (de r (ob0.f i))=_
        rw [hg];simp [de,ep,ren,bor]
      rw [hsh] at h
      simp only [bu,bt,Option.some.injEq] at h
      subst h
      refine ⟨rfl,rfl,rfl,fun h=>(by cases h),fun i j hj=>?_⟩
      simp only
      rw [aH _ _ _ _ hj,aH _ _ _ _ hj,iB]
      simp [nL,ren,bor]
    | false =>
      have hsh:(j4 false r ob0).f i=[.p (.seq t z n g)]:=by
        show de r (ob0.f i)=_
        rw [hg];simp [de,ren]
      rw [hsh] at h
      simp only [bt,Option.some.injEq] at h
      subst h
      refine ⟨rfl,rfl,rfl,fun h=>(by cases h),fun i j hj=>?_⟩
      simp only
      rw [aH _ _ _ _ hj]
      simp [nL,ren]
set_option maxHeartbeats 1000000 in
theorem wl {base:Nat} {f:FuncId} {args:List AV} {vals:Array Value} {d:CallD} {e:Eff} (hX:∀ b,X b→b<w.heap.size∧¬ aU β H b)
    (hH:HR w β (ow X β H) H) (hS:Sep β H) (hβ:∀ k:Id,base≤k.o→k.o<base+32→β k=none∧H.lookup k.o=none) (hL:∀ o ob,L.lookup o=some ob→H.lookup o=some ob)
    (hlen:args.length=vals.size) (hargs:∀ j,j<args.length→VR w β (ow X β H) (args.getD j ag) (vals.getD j undef))
    (he:ww P base L f args d=some e) (hob:∀ p∈e.ob,p) :
    cT P f=true∧Calls P f vals w fun en w'=>∃ v β',en=.returned v∧Called X w β H w' β' (a7 H e.wr) base∧VR w' β' (ow X β' (a7 H e.wr)) e.v v:=by
  unfold ww at he
  split at he
  case isFalse=>cases he
  rename_i hz
  simp only [Bool.and_eq_true,List.all_eq_true,Bool.or_eq_true,Nat.blt_eq,Nat.ble_eq] at hz
  obtain ⟨⟨⟨⟨hnd,hmem⟩,hpass⟩,hnd'⟩,hkeys⟩:=hz
  have hnd:=fz hnd
  have hnd':=fz hnd'
  simp only [Option.some.injEq] at he
  subst he
  generalize Dk d=m at hob ⊢
  generalize GV d=u at hob
  obtain ⟨pass,lend,see,lr,Hc',res⟩:=d
  simp only at hnd hmem hpass hnd' hkeys hob ⊢
  have hob1:af (dC m u L (kk pass) lr pass 0).2:=(bQ _).2 fun p hp=>hob p (by simp [hp])
  have hob2:af (sH m lend L (kk pass) lr args).2:=(bQ _).2 fun p hp=>hob p (by simp [hp])
  have hcon:Con P f pass.length (dC m u L (kk pass) lr pass 0).1 (sH m lend L (kk pass) lr args).1 Hc' res:=hob _ (by simp)
  refine ⟨hcon.1,?_⟩
  have katp:∀ {q:Nat} {p:Id},pass[q]? = some p→(kk pass)[q]? = some (.pl p):=fun h=>by rw [AZ,h];rfl
  have hsame:∀ {q q':Nat} {p p':Id},pass[q]? = some p→pass[q']? = some p'→p.o=p'.o→q=q':=by
    intro q q' p p' h1 h2 h3
    refine pr hnd (x:=p.o) ?_ ?_
    · rw [List.getElem?_map,h1];rfl
    · rw [List.getElem?_map,h2,h3];rfl
  let βc:=cE β (kk pass)
  let Hc:=(dC m u L (kk pass) lr pass 0).1
  have hcl0:∀ (x:Id) (obc:Ob),lk Hc x=some obc→∃ (p y:Id) (ob0:Ob),pass[x.o]? = some p∧eh p x.m=some y∧lk H y=some ob0∧obc.n=ob0.n∧obc.z=ob0.z∧obc.bx=ob0.bx ∧
      ((x.m=none∧y.m=p.m∧obc={ ob0 with f:=fun i=>(mE m u L (kk pass) lr (ob0.f i)).1 }∧∀ i,i<ob0.n→af (mE m u L (kk pass) lr (ob0.f i)).2) ∨
        (x.m≠none∧∀ i j,j<ob0.z→∃ v,(ob0.f i).getD j ag=.p v∧(obc.f i).getD j ag=.p (i9 m u v))):=by
    intro x obc hx
    unfold lk at hx
    split at hx
    case h_2=>cases hx
    rename_i ob hob'
    obtain ⟨_,p,ob0,ps,h2,h3,h4,h5,h6⟩:=eK m u L (kk pass) lr pass 0 x.o ob hob' hob1
    simp only [Nat.sub_zero] at h2
    have hzz:ob.z=ob0.z∧ob.n=ob0.n∧ob.bx=ob0.bx:=by
      rw [h5];unfold iW;split<;>exact ⟨rfl,rfl,rfl⟩
    have hFF:ob.isF=ob0.isF:=by unfold Ob.isF;rw [hzz.1,hzz.2.2]
    have plain:ob0.isF=false→∀ y,eh p none=some y→lk H y=some ob0→y.m=p.m→∃ (p y:Id) (ob0:Ob),pass[x.o]? = some p∧eh p x.m=some y∧lk H y=some ob0∧obc.n=ob0.n∧obc.z=ob0.z∧obc.bx=ob0.bx ∧
      ((x.m=none∧y.m=p.m∧obc={ ob0 with f:=fun i=>(mE m u L (kk pass) lr (ob0.f i)).1 }∧∀ i,i<ob0.n→af (mE m u L (kk pass) lr (ob0.f i)).2) ∨
        (x.m≠none∧∀ i j,j<ob0.z→∃ v,(ob0.f i).getD j ag=.p v∧(obc.f i).getD j ag=.p (i9 m u v))):=by
      intro hF y hy hly hym
      obtain ⟨g1,g2⟩:=a5 (by rw [hFF];exact hF) hx
      subst g2
      refine ⟨p,y,ob0,h2,by rw [g1];exact hy,hly,hzz.2.1,hzz.1,hzz.2.2,.inl ⟨g1,hym,?_⟩⟩
      unfold iW at h5 h6
      rw [hF] at h5 h6
      exact ⟨h5,h6.1⟩
    cases hpm:p.m with
    | none =>
      unfold xE at h3
      rw [hpm] at h3
      simp only at h3
      split at h3
      case h_2=>cases h3
      rename_i ob1 hlo
      simp only [Option.some.injEq,Prod.mk.injEq] at h3
      obtain ⟨h31,_⟩:=h3
      subst h31
      cases hF:ob1.isF with
      | false=>exact plain hF ⟨p.o,none⟩ (by simp [eh,hpm]) (dz (hL _ _ hlo) hF) hpm.symm
      | true =>
        cases hxm:x.m with
        | none=>rw [hxm] at hx;simp [vw,hFF,hF] at hx
        | some i =>
          rw [hxm] at hx
          simp only [vw,hFF,hF,true_and] at hx
          split at hx
          case isFalse=>cases hx
          rename_i hi
          have hrow:ob.f i=pG (i9 m u) (ob1.f i):=by
            rw [h5];unfold iW;rw [hF]
          rw [hrow] at hx
          obtain ⟨ob2,g1,g2,g3,g4,g5,g6⟩:=tq hx
          refine ⟨p,⟨p.o,some i⟩,ob2,h2,by simp [eh,hpm],?_,g3,g2,by rw [g4,g5],.inr ⟨by simp,g6⟩⟩
          have hi':i<ob1.n:=by rw [← hzz.2.1];exact hi
          simp [lk,hL _ _ hlo,vw,hF,hi',g1]
    | some i =>
      unfold xE at h3
      rw [hpm] at h3
      simp only at h3
      have hly:=fK hL h3 ((bQ _).1 h4)
      have hp:p=⟨p.o,some i⟩:=by rw [← hpm]
      exact plain (A1 hly) p (by rw [hp];rfl) hly rfl
  have ownc:∀ b,aU βc Hc b→∃ (p y:Id) (mm:Option Nat) (ob0:Ob) (a:Addr),p∈pass∧eh p mm=some y∧lk H y=some ob0∧β y=some a∧a.block=b:=by
    rintro b ⟨j,ob,a,h1,h2,h3⟩
    obtain ⟨p,y,ob0,g1,g2,g3,_⟩:=hcl0 j ob h1
    have:β y=some a:=(dp (β:=β) (k:=j) (katp g1) g2).symm.trans h2
    exact ⟨p,y,j.m,ob0,a,List.mem_of_getElem? g1,g2,g3,this,h3⟩
  have ownc_own:∀ b,aU βc Hc b→aU β H b:=by
    intro b hb
    obtain ⟨p,y,mm,ob0,a,g1,g2,g3,g4,g5⟩:=ownc b hb
    exact ⟨y,ob0,a,g3,g4,g5⟩
  let Xc:Nat→Prop:=fun b=>(aU β H b∧¬ aU βc Hc b)∨(m=false∧X b)
  have hXc:∀ b,Xc b→b<w.heap.size∧¬ aU βc Hc b:=by
    rintro b (⟨h1,h2⟩ | h)
    · exact ⟨mY hH h1,h2⟩
    · exact ⟨(hX b h.2).1,fun h'=>(hX b h.2).2 (ownc_own b h')⟩
  have hc:∀ t b,ow Xc βc Hc t b→ow X β H t b:=by
    rintro t b (h | ⟨ht,h⟩)
    · exact .inl (ownc_own b h)
    · rcases h with ⟨h1,_⟩ | h
      · exact .inl h1
      · exact .inr ⟨ht,h.2⟩
  have hc2:m=true→∀ t t' b,ow Xc βc Hc t b→ow X β H t' b:=by
    rintro rfl t t' b (h | ⟨ht,h⟩)
    · exact .inl (ownc_own b h)
    · rcases h with ⟨h1,_⟩ | ⟨h,_⟩
      · exact .inl h1
      · cases h
  have hc':∀ t b,ow Xc βc Hc true b→ow X β H t b:=by
    rintro t b (h | ⟨ht,h⟩)
    · exact .inl (ownc_own b h)
    · cases ht
  have hfree:∀ o ob a,lk H o=some ob→iE o (kk pass) 0=none→β o=some a→¬ ow Xc βc Hc true a.block:=by
    rintro o ob a h1 h2 h3 (h | ⟨ht,h⟩)
    · obtain ⟨p,y,mm,ob0,a',g1,g2,g3,g4,g5⟩:=ownc _ h
      have:y=o:=hS y o ob0 ob a' a g3 h1 g4 h3 g5
      subst this
      exact mw (kk pass) 0 h2 (.pl p) (List.mem_map_of_mem g1) mm g2
    · cases ht
  have hcvt:=fun (x:AV) (v:Value) (h:VR w β (ow X β H) x v) (hb:af (bh true L (kk pass) lr x).2)=>AY (t:=true) (pass:=kk pass) hH hL hc hc' hfree lr x v h hb
  have hφ:∀ (v:PV) (x:Value),PR w (ow X β H) v x→PR w (ow Xc βc Hc) (i9 m u v) x:=by
    intro v x h
    unfold i9
    cases u with
    | true=>exact h.ext (Ext.sub hc)
    | false =>
      cases m with
      | true=>exact uL (hc2 rfl) h
      | false=>exact ui hc' h
  have hHc:HR w βc (ow Xc βc Hc) Hc:=by
    intro j ob hj
    obtain ⟨p,y,ob0,g1,g2,g3,gn,gz,gb,g4⟩:=hcl0 j ob hj
    have hβc:βc j=β y:=dp (katp g1) g2
    rcases hH y ob0 g3 with h | ⟨b,bs,cells,elem,h1,h2,h3⟩ | ⟨m0,m1,m2,b,es,ck,m3,m4,m5,K,V,m6⟩
    · exact .inl ⟨by rw [hβc];exact h.1,by rw [gn];exact h.2⟩
    · refine .inr (.inl ⟨b,bs,cells,elem,by rw [hβc];exact h1,h2,fun i hi q hq=>?_⟩)
      rw [gn] at hi
      rw [gz] at hq ⊢
      obtain ⟨v,k1,k2,k3⟩:=h3 i hi q hq
      refine ⟨v,k1,k2,?_⟩
      rcases g4 with ⟨_,_,g4,g5⟩ | ⟨_,g4⟩
      · rw [g4]
        have g5:=g5 i hi
        cases u with
        | true =>
          simp only [mE,iy] at g5 ⊢
          exact uo (q:=true) hcvt (fun v x h=>h.ext (Ext.sub hc)) k3 (lI true L (kk pass) lr _ q g5)
        | false =>
        cases m with
        | false =>
          simp only [mE,dm] at g5 ⊢
          exact hcvt _ v k3 (fH true L (kk pass) lr _ q g5)
        | true =>
          simp only [mE,iy] at g5 ⊢
          exact uo (q:=false) hcvt (fun v x h=>uL (hc2 rfl) h) k3 (lI false L (kk pass) lr _ q g5)
      · obtain ⟨pv,e1,e2⟩:=g4 i q hq
        rw [e1] at k3
        rw [e2]
        cases k3;rename_i k3
        exact .p _ _ (hφ _ _ k3)
    · rcases g4 with ⟨hxm,hym,g4,g5⟩ | ⟨hxm,g4⟩
      · subst g4
        refine .inr (.inr ⟨hxm,m1,m2,b,es,ck,by rw [hβc];exact m3,m4,m5,K,V,fun i hi=>⟨?_,(m6 i hi).2⟩⟩)
        show (mE m u L (kk pass) lr (ob0.f i)).1=_
        rw [(m6 i hi).1]
        cases u<;>cases m<;>simp [mE,gW,nn,kf,qI,ay,bh,tg,bu]
      · exfalso
        unfold eh at g2
        split at g2
        · cases g2;exact hxm m0
        · split at g2
          · cases g2;cases m0
          · cases g2
  have hSc:Sep βc Hc:=by
    intro j j' ob ob' a a' h1 h2 h3 h4 h5
    obtain ⟨p,y,ob0,g1,g2,g3,_⟩:=hcl0 j ob h1
    obtain ⟨p',y',ob0',g1',g2',g3',_⟩:=hcl0 j' ob' h2
    have e1:β y=some a:=(dp (β:=β) (k:=j) (katp g1) g2).symm.trans h3
    have e2:β y'=some a':=(dp (β:=β) (k:=j') (katp g1') g2').symm.trans h4
    have e3:=hS y y' ob0 ob0' a a' g3 g3' e1 e2 h5
    subst e3
    have e4:j.o=j'.o:=hsame g1 g1' (by rw [← mR g2,← mR g2'])
    rw [e4] at g1
    rw [g1] at g1'
    cases g1'
    have e5:j.m=j'.m:=wi g2 g2'
    obtain ⟨jo,jm⟩:=j
    obtain ⟨jo',jm'⟩:=j'
    simp only at e4 e5
    rw [e4,e5]
  have hdomc:∀ k,βc k≠none→k.o<pass.length:=by
    intro k hk
    by_cases h:k.o<pass.length
    · exact h
    · exfalso
      apply hk
      simp [βc,cE,AZ,List.getElem?_eq_none (Nat.le_of_not_lt h)]
  have hcall:=hcon.2 w βc Xc vals hXc hHc hSc hdomc (by rw [kU];exact hlen) (fun j hj=>by
    rw [kU] at hj
    cases m with
    | false =>
      simp only [sH,Bool.false_eq_true,if_false] at hob2 ⊢
      rw [dm]
      exact hcvt _ _ (hargs j hj) (fH true L (kk pass) lr _ j hob2)
    | true =>
      simp only [sH,if_true] at hob2 ⊢
      rcases A5 lend L (kk pass) lr args 0 j hj hob2 with ⟨h1,h2⟩ | ⟨h1,h2⟩
      · rw [h1]
        exact uo (q:=false) hcvt (fun v x h=>uL (hc2 rfl) h) (hargs j hj) h2
      · rw [h1]
        exact hcvt _ _ (hargs j hj) h2)
  refine hcall.mono fun en w' ⟨v,βd,hen,hHd,hSd,hv,hext,hmono,hown,hdom⟩=>?_
  let r:=iS pass base
  let β':Id→Option Addr:=fun k=>if base≤k.o∧k.o<base+32 then βd ⟨pass.length+(k.o - base),k.m⟩ else β k
  have hnw:((Bx L Hc' (j4 m r) pass 0++sC pass.length base (j4 m r) Hc').map (·.1)).Nodup:=by
    rw [List.map_append,r8]
    refine List.nodup_append.2 ⟨hnd,kI _ _ _ _ hnd',fun a ha b hb he=>?_⟩
    subst he
    obtain ⟨k,h1,h2,h3⟩:=jy _ _ _ _ _ hb
    obtain ⟨e,he,rfl⟩:=List.mem_map.1 h1
    obtain ⟨p,hp,rfl⟩:=List.mem_map.1 ha
    have:=hkeys e he
    have:=(hpass p hp).2
    omega
  let H':=a7 H (Bx L Hc' (j4 m r) pass 0++sC pass.length base (j4 m r) Hc')
  have hlook:∀ j,(∃ q p,pass[q]? = some p∧p.o=j∧H'.lookup j=Fy L Hc' (j4 m r) p q) ∨
      ((∀ p∈pass,p.o≠j)∧((base≤j∧j<base+32∧∃ obd,Hc'.lookup (pass.length+(j - base))=some obd∧H'.lookup j=some (j4 m r obd))∨H'.lookup j=H.lookup j)):=by
    intro j
    have hh:H'.lookup j=match (Bx L Hc' (j4 m r) pass 0++sC pass.length base (j4 m r) Hc').lookup j with | some x=>x | none=>H.lookup j:=dB _ _ _ hnw
    rw [List.lookup_append] at hh
    rcases mh L Hc' (j4 m r) pass 0 j hnd with ⟨q,p,h1,h2,h3⟩ | ⟨h1,h2⟩
    · rw [h3] at hh
      simp only [Option.some_or,Nat.zero_add] at hh
      exact .inl ⟨q,p,h1,h2,hh⟩
    · refine .inr ⟨h1,?_⟩
      rw [h2] at hh
      simp only [Option.none_or] at hh
      by_cases hb:base≤j
      · rw [iV _ _ _ _ _ hb] at hh
        cases hm2:Hc'.lookup (pass.length+(j - base)) with
        | none=>rw [hm2] at hh;exact .inr hh
        | some obd =>
          rw [hm2] at hh
          refine .inl ⟨hb,?_,obd,rfl,hh⟩
          have:(pass.length+(j - base),obd)∈Hc':=by
            obtain ⟨l1,l2,h,_⟩:=List.lookup_eq_some_iff.1 hm2
            rw [h];simp
          have:=hkeys _ this
          simp only at this
          omega
      · have:(sC pass.length base (j4 m r) Hc').lookup j=none:=by
          rw [List.lookup_eq_none_iff]
          intro p hp
          have:p.1∈(sC pass.length base (j4 m r) Hc').map (·.1):=List.mem_map_of_mem hp
          obtain ⟨k,_,_,h3⟩:=jy _ _ _ _ _ this
          simp only [bne_iff_ne,ne_eq,beq_eq_false_iff_ne]
          omega
        rw [this] at hh
        exact .inr hh
  have hmono':∀ o a,β o=some a→β' o=some a:=by
    intro o a ho
    simp only [β']
    split
    · rename_i h;rw [(hβ o h.1 h.2).1] at ho;cases ho
    · exact ho
  have hpo:∀ {q:Nat} {p:Id},pass[q]? = some p→¬ (base≤p.o∧p.o<base+32):=by
    intro q p h1
    have:=(hpass p (List.mem_of_getElem? h1)).2
    omega
  have hql:∀ {q:Nat} {p:Id},pass[q]? = some p→q<pass.length:=fun h=>(List.getElem?_eq_some_iff.1 h).1
  have hback:∀ k a,βd k=some a→β' (r k)=some a:=by
    intro k a hk
    rcases hdom k (by rw [hk];simp) with h | h
    · cases hb:βc k with
      | none=>exact absurd hb h
      | some a' =>
        have e1:=hmono k a' hb
        rw [hk] at e1
        cases e1
        obtain ⟨pk,y,g1,g2,g3⟩:=sx hb
        rw [AZ] at g1
        obtain ⟨p,g4,rfl⟩:=Option.map_eq_some_iff.1 g1
        clear g1
        have g1:=g4
        have g2:eh p k.m=some y:=g2
        have hr:r k=y:=by
          show iS pass base k=y
          unfold iS
          rw [g1]
          simp only
          rw [g2]
        rw [hr]
        exact hmono' y a g3
    · have hr:r k=⟨base+(k.o - pass.length),k.m⟩:=by simp [r,iS,List.getElem?_eq_none h.1]
      rw [hr]
      simp only [β']
      rw [if_pos (by omega)]
      have:pass.length+(base+(k.o - pass.length) - base)=k.o:=by omega
      rw [this]
      exact hk
  have unp:∀ (j:Id) (ob:Ob) (a:Addr),lk H j=some ob→β j=some a→(∀ p∈pass,∀ mm,eh p mm≠some j)→¬ aU βc Hc a.block:=by
    intro j ob a h1 h2 h3 h
    obtain ⟨p,y,mm,ob0,a',g1,g2,g3,g4,g5⟩:=ownc _ h
    have:y=j:=hS y j ob0 ob a' a g3 h1 g4 h2 g5
    subst this
    exact h3 p g1 mm g2
  have hplace:∀ {q:Nat} {p x:Id} {mm:Option Nat},pass[q]? = some p→eh p mm=some x→β' x=βd ⟨q,mm⟩:=by
    intro q p x mm h1 h2
    have hxo:=mR h2
    have hbx:β' x=β x:=by
      simp only [β']
      rw [if_neg (by rw [hxo];exact hpo h1)]
    have hck:βc ⟨q,mm⟩=β x:=dp (k:=⟨q,mm⟩) (katp h1) h2
    rw [hbx]
    cases hb:β x with
    | some a=>exact (hmono _ a (by rw [hck,hb])).symm
    | none =>
      cases hd:βd ⟨q,mm⟩ with
      | none=>rfl
      | some a =>
        exfalso
        rcases hdom ⟨q,mm⟩ (by rw [hd];simp) with h | h
        · rw [hck] at h;exact h hb
        · have:=hql h1
          simp only at h
          omega
  have hcls:∀ (x:Id) (ob:Ob),lk H' x=some ob →
      (∃ (mm:Id) (obd:Ob),lk Hc' mm=some obd∧r mm=x∧β' x=βd mm∧ob.n=obd.n∧ob.z=obd.z∧(mm.m=none→obd.z=0→x.m=none∧ob=j4 m r obd) ∧
        ∀ i j,j<obd.z→(ob.f i).getD j ag=nL m r ((obd.f i).getD j ag)∨(ob.f i).getD j ag=.p (toP (nL m r ((obd.f i).getD j ag)))) ∨
      (lk H x=some ob∧β' x=β x∧∀ p∈pass,∀ mm,eh p mm≠some x):=by
    intro x ob hx
    have hx0:=hx
    unfold lk at hx
    split at hx
    case h_2=>cases hx
    rename_i obe hobe
    rcases hlook x.o with ⟨q,p,h1,h2,h3⟩ | ⟨h1,h2⟩
    · have hobe:Fy L Hc' (j4 m r) p q=some obe:=h3.symm.trans hobe
      unfold Fy at hobe
      cases hpm:p.m with
      | none =>
        rw [hpm] at hobe
        simp only at hobe
        split at hobe
        case h_2=>cases hobe
        rename_i obd0 hobd0
        cases hobe
        obtain ⟨obd,g1,g2,g3,g4,g5,g6⟩:=yS hx
        have hsel:eh p x.m=some x:=by
          obtain ⟨xo,xm⟩:=x
          simp only at h2
          simp [eh,hpm,h2]
        exact .inl ⟨⟨q,x.m⟩,obd,by simp [lk,hobd0,g1],by simp [r,iS,h1,hsel],hplace h1 hsel,g2,g3,fun h _=>⟨h,g5 h⟩,fun i j hj=>.inl (g6 i j hj)⟩
      | some i =>
        rw [hpm] at hobe
        simp only at hobe
        obtain ⟨fam,hfam,hF⟩:=zC hpm (hpass p (List.mem_of_getElem? h1)).1
        rw [hfam] at hobe
        simp only [Option.some.injEq] at hobe
        have hfamH:=hL _ _ hfam
        have hFe:obe.isF=true∧obe.n=fam.n∧∀ q',q'≠i→obe.f q'=fam.f q':=by
          rw [← hobe]
          split
          · exact ⟨hF,rfl,fun q' hq'=>by simp [kH,hq']⟩
          · exact ⟨hF,rfl,fun q' hq'=>by simp [hq']⟩
        cases hxm:x.m with
        | none=>rw [hxm] at hx;simp [vw,hFe.1] at hx
        | some i' =>
          rw [hxm] at hx
          simp only [vw,hFe.1,true_and] at hx
          split at hx
          case isFalse=>cases hx
          rename_i hi'
          rw [hFe.2.1] at hi'
          by_cases hii:i'=i
          · subst hii
            have hxp:x=p:=by
              obtain ⟨xo,xm⟩:=x
              obtain ⟨po,pm⟩:=p
              simp only at h2 hxm hpm
              rw [← h2,hxm,hpm]
            cases hq:Hc'.lookup q with
            | none =>
              rw [hq] at hobe
              simp only at hobe
              rw [← hobe] at hx
              simp [bt] at hx
            | some obd =>
              rw [hq] at hobe
              simp only at hobe
              have hzp:0<obd.z:=vO Hc' pass 0 q p i' obd hmem h1 hpm (by rw [Nat.zero_add];exact hq)
              obtain ⟨e1,e2,e3⟩:=Ab m r obd
              rw [← hobe] at hx
              simp only [kH,if_true,bt,Option.some.injEq] at hx
              have hnf:obd.isF=false:=by
                unfold Ob.isF
                cases hz:obd.z with
                | zero=>omega
                | succ n=>rfl
              have hsel:eh p none=some x:=by rw [hxp];obtain ⟨po,pm⟩:=p;simp only at hpm;subst hpm;rfl
              refine .inl ⟨⟨q,none⟩,obd,dz hq hnf,by simp [r,iS,h1,hsel],hplace h1 hsel,by rw [← hx];exact e1,by rw [← hx];exact e2,fun _ h=>by omega,fun i j hj=>.inr ?_⟩
              rw [← hx]
              simp only
              rw [e2,aH _ _ _ _ hj,aH _ _ _ _ hj,r6]
          · have hl:lk H x=some ob:=by
              rw [hFe.2.2 i' hii] at hx
              obtain ⟨xo,xm⟩:=x
              simp only at h2 hxm
              subst hxm
              subst h2
              simp [lk,hfamH,vw,hF,hi',hx]
            refine .inr ⟨hl,?_,fun p' hp' mm hs=>?_⟩
            · simp only [β']
              rw [if_neg (by rw [← h2];exact hpo h1)]
            · obtain ⟨q',hq'⟩:=List.getElem?_of_mem hp'
              have:q'=q:=hsame hq' h1 (by rw [← mR hs,h2])
              subst this
              rw [h1] at hq'
              cases hq'
              unfold eh at hs
              rw [hpm] at hs
              simp only at hs
              split at hs
              · cases hs
                simp only [Option.some.injEq] at hxm
                exact hii hxm.symm
              · cases hs
    · rcases h2 with ⟨h2,h3,obd0,h4,h5⟩ | h2
      · have hobe:obe=j4 m r obd0:=by
          have:=h5.symm.trans hobe
          simpa using this.symm
        subst hobe
        obtain ⟨obd,g1,g2,g3,g4,g5,g6⟩:=yS hx
        refine .inl ⟨⟨pass.length+(x.o - base),x.m⟩,obd,by simp [lk,h4,g1],?_,?_,g2,g3,fun h _=>⟨h,g5 h⟩,fun i j hj=>.inl (g6 i j hj)⟩
        · simp only [r,iS]
          rw [List.getElem?_eq_none (by simp)]
          obtain ⟨xo,xm⟩:=x
          simp only at h2 h3 ⊢
          congr 1
          omega
        · simp only [β']
          rw [if_pos ⟨h2,h3⟩]
      · have hl:lk H x=some ob:=by
          unfold lk
          rw [← h2,hobe]
          exact hx
        refine .inr ⟨hl,?_,fun p' hp' mm hs=>h1 p' hp' (mR hs).symm⟩
        simp only [β']
        split
        · rename_i hb
          exact absurd (hβ x hb.1 hb.2).2 (oh hl)
        · rfl
  have hownb:∀ b,aU β' H' b→aU βd Hc' b∨(aU β H b∧¬ aU βc Hc b):=by
    rintro b ⟨j,ob,a,h1,h2,rfl⟩
    rcases hcls j ob h1 with ⟨mm,obd,g1,_,g4,_⟩ | ⟨g1,g2,g3⟩
    · exact .inl ⟨mm,obd,a,g1,by rw [← g4];exact h2,rfl⟩
    · rw [g2] at h2
      exact .inr ⟨⟨j,ob,a,g1,h2,rfl⟩,unp j ob a g1 h2 g3⟩
  have hownf:m=false→∀ t b,ow X β' H' t b→fr Xc βd Hc' t b:=by
    intro hmf t b h
    cases t with
    | true=>exact .inl rfl
    | false =>
      refine .inr ?_
      rcases h with h | ⟨_,h⟩
      · rcases hownb b h with h | h
        · exact .inl h
        · exact .inr ⟨rfl,.inl h⟩
      · exact .inr ⟨rfl,.inr ⟨hmf,h⟩⟩
  have hownB:∀ t b,ow X β' H' true b→fr Xc βd Hc' t b:=by
    intro t b h
    cases t with
    | true=>exact .inl rfl
    | false =>
      refine .inr ?_
      rcases h with h | ⟨h,_⟩
      · rcases hownb b h with h | h
        · exact .inl h
        · exact .inr ⟨rfl,.inl h⟩
      · cases h
  have hcr:∀ (x:AV) (v:Value),VR w' βd (fr Xc βd Hc') x v→VR w' β' (ow X β' H') (nL m r x) v:=by
    intro x v hx
    cases m with
    | false=>exact hx.ren hback (hownf rfl)
    | true=>exact (hx.ren hback (fun _ _ h=>h)).bor hownB
  have hownbase:∀ b,aU β' H' b→aU β H b∨w.heap.size≤b:=by
    intro b hb
    rcases hownb b hb with h | h
    · rcases hown b h with h | h
      · exact .inl (ownc_own b h)
      · exact .inr h
    · exact .inl h.1
  have hextc:Ext w (ow X β H) w' (ow X β' H'):=by
    refine ⟨hext.os,hext.tape,hext.output,hext.size,fun t b hb hn=>?_,fun t b hb ho=>?_,hext.grow,hext.maps⟩
    · refine hext.block true b hb (fun h=>?_)
      rcases h with h | ⟨h,_⟩
      · exact hn (.inl (ownc_own b h))
      · cases h
    · rcases ho with h | h
      · rcases hownbase b h with h | h
        · exact .inl h
        · omega
      · exact .inr h
  refine ⟨v,β',hen,⟨?_,?_,hextc,hmono',?_,hownbase⟩,hcr _ _ hv⟩
  · intro j ob hj
    rcases hcls j ob hj with ⟨mm,obd,g1,_,g4,gn,gz,gm,gc⟩ | ⟨g1,g2,g3⟩
    · rcases hHd mm obd g1 with h | ⟨b,bs,cells,elem,h1,h2,h3⟩ | ⟨m0,m1,m2,b,es,ck,m3,m4,m5,K,V,m6⟩
      · exact .inl ⟨by rw [g4];exact h.1,by rw [gn];exact h.2⟩
      · refine .inr (.inl ⟨b,bs,cells,elem,by rw [g4];exact h1,h2,fun i hi q hq=>?_⟩)
        rw [gn] at hi
        rw [gz] at hq ⊢
        obtain ⟨u,k1,k2,k3⟩:=h3 i hi q hq
        refine ⟨u,k1,k2,?_⟩
        rcases gc i q hq with e | e
        · rw [e];exact hcr _ _ k3
        · rw [e];exact (hcr _ _ k3).toP
      · obtain ⟨hxm,g2⟩:=gm m0 m1
        subst g2
        have hz:=Ab m r obd
        refine .inr (.inr ⟨hxm,hz.2.1.trans m1,hz.2.2.trans m2,b,es,ck,by rw [g4];exact m3,m4,by rw [hz.1];exact m5,K,V,fun i hi=>⟨?_,(m6 i (by rw [hz.1] at hi;exact hi)).2⟩⟩)
        have h6:=(m6 i (by rw [hz.1] at hi;exact hi)).1
        cases m
        · show de r (obd.f i)=_
          rw [h6]
          simp [de,ren]
        · show ep (de r (obd.f i))=_
          rw [h6]
          simp [ep,de,ren,bor,bu]
    · rcases hH j ob g1 with h | ⟨b,bs,cells,elem,h1,h2,h3⟩ | ⟨m0,m1,m2,b,es,ck,m3,m4,m5⟩
      · exact .inl ⟨by rw [g2];exact h.1,h.2⟩
      · have hlt:b<w.heap.size:=(Array.getElem?_eq_some_iff.1 h2).1
        have hnot:=unp j ob _ g1 h1 g3
        refine .inr (.inl ⟨b,bs,cells,elem,by rw [g2];exact h1,?_,fun i hi q hq=>?_⟩)
        · rw [hext.block true b hlt (fun h=>h.elim hnot (fun h=>by cases h.1))]
          exact h2
        · obtain ⟨u,k1,k2,k3⟩:=h3 i hi q hq
          exact ⟨u,k1,k2,k3.ext hextc hmono'⟩
      · have hlt:b<w.heap.size:=(Array.getElem?_eq_some_iff.1 m4).1
        have hnot:=unp j ob _ g1 m3 g3
        refine .inr (.inr ⟨m0,m1,m2,b,es,ck,by rw [g2];exact m3,?_,m5⟩)
        rw [hext.block true b hlt (fun h=>h.elim hnot (fun h=>by cases h.1))]
        exact m4
  · intro j j' ob ob' a a' h1 h2 h3 h4 h5
    rcases hcls j ob h1 with ⟨mm,obd,g1,g3,g4,_⟩ | ⟨g1,g2,g3⟩<;>rcases hcls j' ob' h2 with ⟨mm',obd',g1',g3',g4',_⟩ | ⟨g1',g2',g3'⟩
    · have:=hSd mm mm' obd obd' a a' g1 g1' (by rw [← g4];exact h3) (by rw [← g4'];exact h4) h5
      rw [← g3,← g3',this]
    · exfalso
      rw [g2'] at h4
      have hd:aU βd Hc' a.block:=⟨mm,obd,a,g1,by rw [← g4];exact h3,rfl⟩
      have ho:aU β H a'.block:=⟨j',ob',a',g1',h4,rfl⟩
      rcases hown _ hd with h | h
      · rw [h5] at h;exact unp j' ob' a' g1' h4 g3' h
      · have:=mY hH ho;omega
    · exfalso
      rw [g2] at h3
      have hd:aU βd Hc' a'.block:=⟨mm',obd',a',g1',by rw [← g4'];exact h4,rfl⟩
      have ho:aU β H a.block:=⟨j,ob,a,g1,h3,rfl⟩
      rcases hown _ hd with h | h
      · rw [← h5] at h;exact unp j ob a g1 h3 g3 h
      · have:=mY hH ho;omega
    · rw [g2] at h3
      rw [g2'] at h4
      exact hS j j' ob ob' a a' g1 g1' h3 h4 h5
  · intro j hj
    by_cases hb:base≤j.o∧j.o<base+32
    · exact .inr hb
    · exact .inl (by simp only [β'] at hj;rw [if_neg hb] at hj;exact hj)
end
structure Cx where
  n:Nat
  X:Nat→Prop
  w0:World
  β0:Id→Option Addr
  H0:Hp
structure Rel (c:Cx) (dom:Nat→Prop) (env:List AV) (H:Hp) (a:Act) (w:World) (β:Id→Option Addr):Prop where
  hr:HR w β (ow c.X β H) H
  sep:Sep β H
  ev:∀ t,VR w β (ow c.X β H) (env.getD t ag) (a.tmps.getD t undef)
  len:env.length≤a.tmps.size
  dfr:a.defers=[]
  dom:∀ k:Id,β k≠none∨H.lookup k.o≠none→dom k.o
  ext:Ext c.w0 (ow c.X c.β0 c.H0) w (ow c.X β H)
  xs:∀ b,c.X b→b<c.w0.heap.size∧¬ aU β H b
  own:∀ b,aU β H b→aU c.β0 c.H0 b∨c.w0.heap.size≤b
  init:∀ k:Id,k.o<c.n→β k=c.β0 k
def qz (v:Value):AV :=
  match v with
  | .agg cs=>if cs.toList.all (·.oneCell') then .agg (cs.toList.map fun v=>.p (bZ v)) else ag
  | v=>.p (bZ v)
theorem om {w:World} {β:Id→Option Addr} {own:Bool→Nat→Prop} (v:Value):VR w β own (qz v) v:=by
  unfold qz
  split
  · rename_i cs
    split
    · rename_i h
      simp only [List.all_eq_true] at h
      refine .agg _ _ (by simp) (fun j hj=>?_) (fun j hj=>?_)
      · have hj':j<cs.size:=by simpa using hj
        rw [jx (Array.getElem?_eq_getElem hj')]
        exact h _ (by simp)
      · have hj':j<cs.size:=by simpa using hj
        rw [AX (fun v=>AV.p (bZ v)) cs.toList j undef ag (by simpa using hj')]
        have:cs.toList.getD j undef=cs.getD j undef:=by simp [List.getD_eq_getElem?_getD,Array.getD_eq_getD_getElem?]
        rw [this]
        exact .p _ _ (me _ _ _)
    · exact .any _
  · exact .p _ _ (me _ _ _)
def JJ (env:List AV):Operand→AV
  | .tmp t=>env.getD t ag
  | .const v=>qz v
  | .global _=>ag
  | .func f=>.p (.fn f)
theorem D0 {w:World} {β:Id→Option Addr} {own:Bool→Nat→Prop} {env:List AV} {a:Act} (h:∀ t,VR w β own (env.getD t ag) (a.tmps.getD t undef)) (x:Operand) :
    VR w β own (JJ env x) (a.eval x):=by
  cases x with
  | tmp t=>exact h t
  | const v=>exact om v
  | global g=>exact .any _
  | func f=>exact .p _ _ (.fn f)
structure OpS where
  nw:Bool
  call:Option CallD
  gd:Option Bool
mutual
def Et:AV→List Nat
  | .ar _ o _ _=>[o.o]
  | .pt _ o _ _=>[o.o]
  | .mp o=>[o]
  | .cnd _ v=>Et v
  | .agg cs=>wu cs
  | .tup cs=>wu cs
  | .clo _ cs=>wu cs
  | .p _=>[]
  | .ip _ _=>[]
def wu:List AV→List Nat
  | []=>[]
  | v::l=>Et v++wu l
end
def eV (H:Hp):List Nat→Hp
  | []=>[]
  | o::r =>
    match H.lookup o with
    | some ob=>(o,ob)::eV H r
    | none=>eV H r
theorem g9 (H:Hp):∀ (l:List Nat) (o:Nat) (ob:Ob),(eV H l).lookup o=some ob→H.lookup o=some ob
  | [],o,ob,h=>by simp [eV] at h
  | x::l,o,ob,h=>by
    simp only [eV] at h
    cases hx:H.lookup x with
    | none=>rw [hx] at h;exact g9 H l o ob h
    | some ob' =>
      rw [hx] at h
      simp only [List.lookup_cons] at h
      by_cases he:o=x
      · subst he;simp only [beq_self_eq_true,Option.some.injEq] at h;rw [hx,h]
      · have:(o==x)=false:=by simpa using he
        rw [this] at h
        exact g9 H l o ob h
theorem eE {H H2:Hp}:∀ (l:List Nat),(∀ o∈l,H.lookup o=H2.lookup o)→eV H l=eV H2 l
  | [],_=>rfl
  | x::l,h=>by
    simp only [eV]
    rw [h x (by simp),eE l (fun o ho=>h o (by simp [ho]))]
def cI (op:Op):List Nat:=op.operands.toList.filterMap fun | .tmp t=>some t | _=>none
def cX (env:List AV) (ts:List Nat):List (Nat×AV):=ts.map fun t=>(t,env.getD t ag)
def GB:Op→Nat→Bool
  | .pick (.tmp c) _ _,t=>t==c
  | .pick _ _ _,_=>false
  | _,_=>true
def gU (op:Op) (t:Nat) (v:AV):AV×List Prop:=if GB op t then ((BZ v).1,(BZ v).2 true) else (v,[])
def ku (env:List AV) (op:Op):List (Nat×AV):=(cI op).map fun t=>(t,(gU op t (env.getD t ag)).1)
def ρOf (ps:List (Nat×AV)):Operand→AV
  | .tmp t=>(ps.lookup t).getD ag
  | .const v=>qz v
  | .global _=>ag
  | .func f=>.p (.fn f)
theorem jQ (g:Nat→AV):∀ (ts:List Nat) (t:Nat),((ts.map fun t=>(t,g t)).lookup t=some (g t)∧t∈ts)∨(ts.map fun t=>(t,g t)).lookup t=none
  | [],t=>.inr rfl
  | x::ts,t=>by
    simp only [List.map_cons,List.lookup_cons]
    by_cases h:t=x
    · subst h;exact .inl ⟨by simp,by simp⟩
    · have hb:(t==x)=false:=by simpa using h
      rw [hb]
      exact (jQ g ts t).imp (fun h=>⟨h.1,by simp [h.2]⟩) id
theorem ρOf_ok {w:World} {β:Id→Option Addr} {own:Bool→Nat→Prop} {a:Act} {ts:List Nat} (g:Nat→AV) (h:∀ t∈ts,VR w β own (g t) (a.tmps.getD t undef)) (x:Operand) :
    VR w β own (ρOf (ts.map fun t=>(t,g t)) x) (a.eval x):=by
  cases x with
  | tmp t =>
    simp only [ρOf]
    rcases jQ g ts t with ⟨h1,h2⟩ | h1
    · rw [h1];exact h t h2
    · rw [h1];exact .any _
  | const v=>exact om v
  | global g=>exact .any _
  | func f=>exact .p _ _ (.fn f)
def sf (op:Op) (ps:List (Nat×AV)) (sc:OpS):List Nat :=
  match op with
  | .build _ _=>[]
  | .indexAddr _ _ _=>[]
  | .fieldAddr _ _ _=>[]
  | .field _ _ _=>[]
  | .move _=>[]
  | .assign _=>[]
  | .extract _ _=>[]
  | .box _ _=>[]
  | _ =>
  (match sc.call with
   | some d=>d.pass.map (·.o)++d.see
   | none=>[])++(ps.map fun p=>Et p.2).flatten
def zl (gd:Option Bool) (ρ:Operand→AV) (op:Op):Option Eff :=
  match gd,op with
  | some b,.pick c x y =>
    match ρ c with
    | .p (.bool cb)=>some ⟨ρ (if b then x else y),[],[cb=b]⟩
    | _=>none
  | _,_=>none
theorem Br {X:Nat→Prop} {P:Program} {w:World} {β:Id→Option Addr} {H:Hp} {k:Nat} {gd:Option Bool} {o:Oper} {a:Act} {ρ:Operand→AV} {e:Eff} (hH:HR w β (ow X β H) H) (hS:Sep β H)
    (hρ:∀ x,VR w β (ow X β H) (ρ x) (a.eval x)) (he:zl gd ρ o.op=some e) (hob:∀ p∈e.ob,p):OpRes X P (execOp a.eval o) w β H e k:=by
  obtain ⟨dst,op,type,pos,after,guard⟩:=o
  simp only at he
  unfold zl at he
  split at he
  case h_2=>cases he
  rename_i b c x y
  split at he
  case h_2=>cases he
  rename_i cb hc
  simp only [Option.some.injEq] at he
  subst he
  have hb:cb=b:=hob _ (by simp)
  subst hb
  have hcr:=hρ c
  rw [hc] at hcr
  generalize hce:a.eval c=cv at hcr
  cases hcr;rename_i hp;cases hp
  refine OpRes.pure hH hS rfl (v:=a.eval (if cb then x else y)) ?_ (hρ _)
  cases cb<;>simp [execOp,hce,asBool]
def Av (P:Program) (id:Nat) (sc:OpS) (L:Hp) (ρ:Operand→AV) (op:Op):Option Eff :=
  match sc.call with
  | none=>match zl sc.gd ρ op with
    | some e=>some e
    | none=>ud P id sc.nw L ρ op
  | some d =>
    match op with
    | .call c =>
      match c.callee with
      | .value f=>gJ P id L (ρ f) (c.args.toList.map ρ) d
      | _=>none
    | _=>none
def nF (v:AV) (want:Bool):Option Bool :=
  match v with
  | .p (.bool b)=>some (match want with | true=>b | false=>!b)
  | .cnd g (.p (.bool b))=>some (g&&match want with | true=>b | false=>!b)
  | _=>none
def uE (ops:Array Oper) (env:List AV) (j:Nat):AV :=
  match (ops[j]?).bind (·.dst) with
  | some d=>env.getD d ag
  | none=>ag
def FQ (id:Nat) (L:Hp) (wr:List (Nat×Option Ob)):Bool:=wr.all fun p=>(L.lookup p.1).isSome||(Nat.ble id p.1&&Nat.blt p.1 (id+32))
def eO (P:Program) (ops:Array Oper) (base:Nat) (env:List AV) (H:Hp) (i:Nat) (sc:OpS):Option (List Nat×Eff) :=
  match ops[i]? with
  | none=>none
  | some o =>
    match o.guard with
    | none =>
      match Av P (base+32*i) sc (eV H (sf o.op (cX env (cI o.op)) sc)) (ρOf (cX env (cI o.op))) o.op with
      | some e=>if FQ (base+32*i) (eV H (sf o.op (cX env (cI o.op)) sc)) e.wr then some (sf o.op (cX env (cI o.op)) sc,e) else none
      | none=>none
    | some (j,want) =>
      match nF (uE ops env j) want with
      | none=>none
      | some g =>
        match sc.gd with
        | some true =>
          match Av P (base+32*i) sc (eV H (sf o.op (cX env (cI o.op)) sc)) (ρOf (cX env (cI o.op))) o.op with
          | some e=>if FQ (base+32*i) (eV H (sf o.op (cX env (cI o.op)) sc)) e.wr then some (sf o.op (cX env (cI o.op)) sc,⟨e.v,e.wr,(g=true)::e.ob⟩) else none
          | none=>none
        | some false=>some ([],⟨ag,[],[g=false]⟩)
        | none =>
        match Av P (base+32*i) sc (eV H (sf o.op (ku env o.op) sc)) (ρOf (ku env o.op)) o.op with
        | some e =>
          if e.wr.isEmpty then
            some (sf o.op (ku env o.op) sc,⟨.cnd g e.v,[],(((cI o.op).map fun t=>(gU o.op t (env.getD t ag)).2).flatten++e.ob).map (g=true→·)⟩)
          else none
        | none=>none
def gk (env:List AV) (dst:Option Tmp) (v:AV):List AV :=
  match dst with
  | some d=>env.set d v
  | none=>env
theorem Ey {w:World} {β:Id→Option Addr} {own:Bool→Nat→Prop} {env:List AV} {a:Act} (h:∀ t,VR w β own (env.getD t ag) (a.tmps.getD t undef)) (hl:env.length≤a.tmps.size)
    (dst:Option Tmp) {v:AV} {x:Value} (hv:VR w β own v x):(∀ t,VR w β own ((gk env dst v).getD t ag) ((a.put dst x).tmps.getD t undef))∧(gk env dst v).length≤(a.put dst x).tmps.size∧(a.put dst x).defers=a.defers:=by
  cases dst with
  | none=>exact ⟨h,hl,rfl⟩
  | some d =>
    refine ⟨fun t=>?_,by simp [gk,Act.put];exact hl,rfl⟩
    simp only [gk,Act.put]
    by_cases ht:t=d
    · subst ht
      by_cases hlt:t<env.length
      · have e1:(env.set t v).getD t ag=v:=by simp [List.getD_eq_getElem?_getD,hlt]
        have e2:(a.tmps.setIfInBounds t x).getD t undef=x:=by
          have:t<a.tmps.size:=by omega
          simp [Array.getD_eq_getD_getElem?,this]
        rw [e1,e2]
        exact hv
      · have e1:(env.set t v).getD t ag=ag:=by simp [List.getD_eq_getElem?_getD,List.getElem?_eq_none (show (env.set t v).length≤t by simp;omega)]
        rw [e1]
        exact .any _
    · have e1:(env.set d v).getD t ag=env.getD t ag:=by simp [List.getD_eq_getElem?_getD,List.getElem?_set_ne (Ne.symm ht)]
      have e2:(a.tmps.setIfInBounds d x).getD t undef=a.tmps.getD t undef:=by simp [Array.getD_eq_getD_getElem?,Array.getElem?_setIfInBounds_ne (Ne.symm ht)]
      rw [e1,e2]
      exact h t
section
variable {P:Program}
theorem Rel.step {c:Cx} {dom:Nat→Prop} {env:List AV} {H H':Hp} {a:Act} {w w':World} {β β':Id→Option Addr} {id:Nat} {v:AV} {x:Value} (h:Rel c dom env H a w β) (hk:Called c.X w β H w' β' H' id)
    (hn:c.n≤id) (hkeys:∀ k,H'.lookup k≠none→H.lookup k≠none∨(id≤k∧k<id+32)) (dst:Option Tmp) (hv:VR w' β' (ow c.X β' H') v x) (hfree:∀ k:Id,id≤k.o→k.o<id+32→β k=none) :
    Rel c (fun k=>dom k∨(id≤k∧k<id+32)) (gk env dst v) H' (a.put dst x) w' β':=by
  obtain ⟨e1,e2,e3⟩:=Ey (fun t=>(h.ev t).ext hk.ext hk.mono) h.len dst hv
  refine ⟨hk.hr,hk.sep,e1,e2,by rw [e3];exact h.dfr,fun k hk'=>?_,h.ext.trans hk.ext,fun b hb=>⟨(h.xs b hb).1,fun ho=>?_⟩,fun b hb=>?_,fun k hkn=>?_⟩
  · rcases hk' with h1 | h1
    · rcases hk.dom k h1 with h2 | h2
      · exact .inl (h.dom k (.inl h2))
      · exact .inr h2
    · rcases hkeys k.o h1 with h2 | h2
      · exact .inl (h.dom k (.inr h2))
      · exact .inr h2
  · rcases hk.own b ho with h1 | h1
    · exact (h.xs b hb).2 h1
    · have:=(h.xs b hb).1;have:=h.ext.size;omega
  · rcases hk.own b hb with h1 | h1
    · exact h.own b h1
    · have:=h.ext.size;exact .inr (by omega)
  · cases hb:β k with
    | some a'=>rw [← h.init k hkn,hb];exact hk.mono k a' hb
    | none =>
      cases hb':β' k with
      | none=>rw [← h.init k hkn,hb]
      | some a' =>
        exfalso
        rcases hk.dom k (by rw [hb'];simp) with h1 | h1
        · exact h1 hb
        · omega
theorem rS {a:Act} {w:World} {o:Oper} {cl:Call} {f:Operand} {fid:FuncId} (ho:o.op=.call cl) (hc:cl.callee=.value f) {caps:Array Value} (hf:a.eval f=.func (.func fid) #[] caps) (hen:cT P fid=true) :
    (execOp a.eval o).run P w=.ok (.enter fid (cl.args.map a.eval++caps)) w:=by
  unfold cT at hen
  split at hen
  case h_2=>cases hen
  rename_i fn hfn
  simp only [Bool.and_eq_true,Bool.not_eq_true'] at hen
  have hb:¬ fn.body=none:=by intro h;rw [h] at hen;cases hen.2
  have hname:¬ fn.name = "runtime.NumGoroutine":=by simpa using hen.1
  simp [execOp,ho,resolve,hc,hf,Deferred.ofValue,invoke,callFunc,hfn,hname,hb]
theorem kA {id:Nat} {L:Hp}:∀ (wr:List (Nat×Option Ob)) (H:Hp),(∀ o ob,L.lookup o=some ob→H.lookup o=some ob)→(∀ p∈wr,∀ o ob,L.lookup o=some ob→True) →
    (wr.all fun p=>(L.lookup p.1).isSome||(Nat.ble id p.1&&Nat.blt p.1 (id+32)))=true→∀ (H1:Hp),(∀ j,H1.lookup j≠none→H.lookup j≠none∨(id≤j∧j<id+32)) →
    ∀ j,(a7 H1 wr).lookup j≠none→H.lookup j≠none∨(id≤j∧j<id+32)
  | [],H,_,_,_,H1,h1,j,hj=>h1 j hj
  | (k,x)::r,H,hL,ht,ha,H1,h1,j,hj=>by
    simp only [List.all_cons,Bool.and_eq_true,Bool.or_eq_true,Nat.ble_eq,Nat.blt_eq] at ha
    have hk:H.lookup k≠none∨(id≤k∧k<id+32):=by
      rcases ha.1 with h | h
      · obtain ⟨ob,hob⟩:=Option.isSome_iff_exists.1 h
        exact .inl (by rw [hL k ob hob];simp)
      · exact .inr h
    have ha2:(r.all fun p=>(L.lookup p.1).isSome||(Nat.ble id p.1&&Nat.blt p.1 (id+32)))=true:=by
      simp only [List.all_eq_true,Bool.or_eq_true,Bool.and_eq_true,Nat.ble_eq,Nat.blt_eq] at ha ⊢
      exact ha.2
    cases x with
    | none =>
      refine kA r H hL (fun _ _ _ _ _=>trivial) ha2 (eM k H1) (fun j hj=>?_) j hj
      rw [bN] at hj
      split at hj
      · exact absurd rfl hj
      · exact h1 j hj
    | some ob =>
      refine kA r H hL (fun _ _ _ _ _=>trivial) ha2 (dy k ob H1) (fun j hj=>?_) j hj
      rw [cj] at hj
      split at hj
      · rename_i e;rw [e];exact hk
      · exact h1 j hj
theorem Bc {c:Cx} {dom:Nat→Prop} {env:List AV} {H:Hp} {a:Act} {w:World} {β:Id→Option Addr} {id:Nat} {sc:OpS} {L:Hp} {ρ:Operand→AV} {o:Oper} {e:Eff} (h:Rel c dom env H a w β)
    (hid:∀ k,id≤k→k<id+32→¬ dom k) (hn:c.n≤id) (hL:∀ o ob,L.lookup o=some ob→H.lookup o=some ob) (hρ:∀ x,VR w β (ow c.X β H) (ρ x) (a.eval x))
    (he:Av P id sc L ρ o.op=some e) (hk:(e.wr.all fun p=>(L.lookup p.1).isSome||(Nat.ble id p.1&&Nat.blt p.1 (id+32)))=true) (hob:∀ p∈e.ob,p)
    {K:Act→World→Prop} {Q:Exit→Act→World→Prop}
    (hK:∀ x w' β',Called c.X w β H w' β' (a7 H e.wr) id→VR w' β' (ow c.X β' (a7 H e.wr)) e.v x→Rel c (fun k=>dom k∨(id≤k∧k<id+32)) (gk env o.dst e.v) (a7 H e.wr) (a.put o.dst x) w' β'→K (a.put o.dst x) w') :
    o.wp P a w K Q:=by
  have hfree:∀ k:Id,id≤k.o→k.o<id+32→β k=none∧H.lookup k.o=none:=by
    intro k h1 h2
    have hd:=hid k.o h1 h2
    constructor
    · cases hb:β k with
      | none=>rfl
      | some a=>exact absurd (h.dom k (.inl (by rw [hb];simp))) hd
    · cases hb:H.lookup k.o with
      | none=>rfl
      | some a=>exact absurd (h.dom k (.inr (by rw [hb];simp))) hd
  have hkeys:=kA e.wr H hL (fun _ _ _ _ _=>trivial) hk H (fun j hj=>.inl hj)
  have fin:∀ x w' β',Called c.X w β H w' β' (a7 H e.wr) id→VR w' β' (ow c.X β' (a7 H e.wr)) e.v x→K (a.put o.dst x) w' :=
    fun x w' β' h1 h2=>hK x w' β' h1 h2 (h.step h1 hn hkeys o.dst h2 (fun k h1 h2=>(hfree k h1 h2).1))
  unfold Av at he
  split at he
  · have hres:OpRes c.X P (execOp a.eval o) w β H e id:=by
      split at he
      · rename_i e' hpk
        simp only [Option.some.injEq] at he
        subst he
        exact Br h.hr h.sep hρ hpk hob
      · exact yp h.hr h.sep (hfree ⟨id,none⟩ (Nat.le_refl _) (by simp only;omega)).1 hL hρ he hob
    obtain ⟨v,w',β',hr,hp,hv⟩:=hres
    unfold Oper.wp
    rcases hr with hr | ⟨hr,rfl⟩
    · rw [hr];exact fin v w' β' hp.called hv
    · rw [hr];exact fin undef w' β' hp.called hv
  · rename_i d hd
    split at he
    case h_2=>cases he
    rename_i cl hop
    split at he
    case h_2=>cases he
    rename_i f hcal
    cases hfv:ρ f with
    | p pv =>
      cases pv with
      | fn fid =>
        rw [hfv] at he
        simp only [gJ] at he
        have hxs:∀ b,c.X b→b<w.heap.size∧¬ aU β H b:=fun b hb=>⟨by have:=(h.xs b hb).1;have:=h.ext.size;omega,(h.xs b hb).2⟩
        obtain ⟨h1,h2⟩:=wl (P:=P) (vals:=cl.args.map a.eval) hxs h.hr h.sep hfree hL (by simp) (fun j hj=>by
          have hj':j<cl.args.size:=by simpa using hj
          rw [AX ρ cl.args.toList j (.tmp 0) ag (by simpa using hj')]
          have e2:(cl.args.map a.eval).getD j undef=a.eval (cl.args.toList.getD j (.tmp 0)):=by
            simp [Array.getD_eq_getD_getElem?,List.getD_eq_getElem?_getD,hj']
          rw [e2]
          exact hρ _) he hob
        have hfe:=hρ f
        rw [hfv] at hfe
        have hfe':a.eval f=.func (.func fid) #[] #[]:=by
          generalize a.eval f=y at hfe
          cases hfe with
          | p _ _ hp=>cases hp;rfl
        unfold Oper.wp
        rw [rS hop hcal hfe' h1,Array.append_empty]
        refine h2.mono fun en w' ⟨v,β',hen,hc,hv⟩=>?_
        subst hen
        exact fin v w' β' hc hv
      | _=>rw [hfv] at he;simp [gJ] at he
    | clo fid cs =>
      rw [hfv] at he
      simp only [gJ] at he
      have hxs:∀ b,c.X b→b<w.heap.size∧¬ aU β H b:=fun b hb=>⟨by have:=(h.xs b hb).1;have:=h.ext.size;omega,(h.xs b hb).2⟩
      have hfe:=hρ f
      rw [hfv] at hfe
      obtain ⟨caps,hfe',hcl,hcv⟩:∃ caps:Array Value,a.eval f=.func (.func fid) #[] caps∧cs.length=caps.size∧∀ j,j<cs.length→VR w β (ow c.X β H) (cs.getD j ag) (caps.getD j undef):=by
        generalize a.eval f=y at hfe
        cases hfe with
        | clo _ _ vs hl hv=>exact ⟨vs,rfl,hl,hv⟩
      obtain ⟨h1,h2⟩:=wl (P:=P) (vals:=cl.args.map a.eval++caps) hxs h.hr h.sep hfree hL (by simp [hcl]) (fun j hj=>by
        have hl1:(cl.args.toList.map ρ).length=cl.args.size:=by simp
        by_cases hj':j<cl.args.size
        · have e1:(cl.args.toList.map ρ++cs).getD j ag=(cl.args.toList.map ρ).getD j ag:=by
            simp [List.getD_eq_getElem?_getD,List.getElem?_append_left (show j<(cl.args.toList.map ρ).length by omega)]
          have e3:(cl.args.map a.eval++caps).getD j undef=(cl.args.map a.eval).getD j undef:=by
            simp [Array.getD_eq_getD_getElem?,Array.getElem?_append_left (show j<(cl.args.map a.eval).size by simpa using hj')]
          rw [e1,e3,AX ρ cl.args.toList j (.tmp 0) ag (by simpa using hj')]
          have e2:(cl.args.map a.eval).getD j undef=a.eval (cl.args.toList.getD j (.tmp 0)):=by
            simp [Array.getD_eq_getD_getElem?,List.getD_eq_getElem?_getD,hj']
          rw [e2]
          exact hρ _
        · have e1:(cl.args.toList.map ρ++cs).getD j ag=cs.getD (j - cl.args.size) ag:=by
            simp [List.getD_eq_getElem?_getD,List.getElem?_append_right (show (cl.args.toList.map ρ).length≤j by omega)]
          have e3:(cl.args.map a.eval++caps).getD j undef=caps.getD (j - cl.args.size) undef:=by
            simp [Array.getD_eq_getD_getElem?,Array.getElem?_append_right (show (cl.args.map a.eval).size≤j by simpa using hj')]
          rw [e1,e3]
          exact hcv _ (by simp at hj;omega)) he hob
      unfold Oper.wp
      rw [rS hop hcal hfe' h1]
      refine h2.mono fun en w' ⟨v,β',hen,hc,hv⟩=>?_
      subst hen
      exact fin v w' β' hc hv
    | _=>rw [hfv] at he;simp [gJ] at he
end
end Go.Proofs.YtbdgmpfdlgnkkaaGreat.Mach
