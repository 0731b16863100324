/- What the law Tp needs, part 2 of 7: the abstract machine and the contracts of the functions. Conditions: as each theorem says. -/
import Derived.ProofKit
import Derived.OpenShut
import Derived.Carry
import Derived.Test.YtbdgmpfdlgnkkaaGreatRows
import Derived.Test.YtbdgmpfdlgnkkaaGreatTpP1
set_option linter.unusedVariables false
set_option linter.unusedSimpArgs false
namespace Go.Proofs.YtbdgmpfdlgnkkaaGreat.Mach
open Go
section
variable {P:Program} {ops:Array Oper}
theorem D3 {w:World} {β:Id→Option Addr} {own:Bool→Nat→Prop} {v:AV} {x:Value} (h:VR w β own v x) (hp:∀ p∈(BZ v).2 true,p):VR w β own (BZ v).1 x:=by
  unfold BZ at *
  split
  · cases h with
    | cnd _ _ _ h _=>exact h (hp _ (by simp))
  · exact h
theorem Gk {w:World} {β:Id→Option Addr} {own:Bool→Nat→Prop} {op:Op} {t:Nat} {v:AV} {x:Value} (h:VR w β own v x) (hp:∀ p∈(gU op t v).2,p):VR w β own (gU op t v).1 x:=by
  unfold gU at hp ⊢
  split at hp
  · rename_i hs;rw [if_pos hs];exact D3 h hp
  · rename_i hs;rw [if_neg hs];exact h
theorem zY {w:World} {β:Id→Option Addr} {own:Bool→Nat→Prop} {env:List AV} {a:Act} (hev:∀ t,VR w β own (env.getD t ag) (a.tmps.getD t undef)) {j:Nat} {want g:Bool}
    (h:nF (uE ops env j) want=some g):(yielded ops a.tmps j==some want)=g:=by
  unfold uE at h
  unfold yielded
  cases hd:(ops[j]?).bind (·.dst) with
  | none=>rw [hd] at h;simp [nF] at h
  | some d =>
    rw [hd] at h
    simp only at h
    have hv:=hev d
    simp only [Option.bind_some]
    have key:∀ b:Bool,a.tmps.getD d undef=.bool b→a.tmps[d]? = some (.bool b):=by
      intro b hb
      by_cases hlt:d<a.tmps.size
      · rw [Array.getElem?_eq_getElem hlt]
        simp only [Array.getD_eq_getD_getElem?,Array.getElem?_eq_getElem hlt,Option.getD_some] at hb
        rw [hb]
      · simp only [Array.getD_eq_getD_getElem?,Array.getElem?_eq_none (Nat.le_of_not_lt hlt),Option.getD_none] at hb
        cases hb
    unfold nF at h
    split at h
    · rename_i b hb
      rw [hb] at hv
      generalize hx:a.tmps.getD d undef=x at hv
      cases hv with
      | p _ _ hp =>
        cases hp
        rw [key b hx]
        simp only [Option.some.injEq] at h
        rw [← h]
        cases want<;>cases b<;>rfl
    · rename_i g0 b hb
      rw [hb] at hv
      generalize hx:a.tmps.getD d undef=x at hv
      cases hv with
      | cnd _ _ _ h1 h2 =>
        simp only [Option.some.injEq] at h
        cases g0 with
        | true =>
          have:=h1 rfl
          cases this with
          | p _ _ hp =>
            cases hp
            rw [key b hx]
            rw [← h]
            cases want<;>cases b<;>rfl
        | false =>
          have:=h2 rfl
          subst this
          rw [← h]
          have:∀ b,a.tmps[d]?≠some (.bool b):=by
            intro b hb'
            rw [Array.getD_eq_getD_getElem?,hb'] at hx
            cases hx
          cases ht:a.tmps[d]? with
          | none=>rfl
          | some y =>
            cases y<;>first | rfl | exact absurd ht (this _)
    · cases h
def d6 (ops:Array Oper) (i:Nat):Option Tmp:=(ops[i]?).bind (·.dst)
theorem pb {c:Cx} {dom:Nat→Prop} {env:List AV} {H:Hp} {a:Act} {w:World} {β:Id→Option Addr} {base i:Nat} {sc:OpS} {rd:List Nat} {e:Eff} (h:Rel c dom env H a w β)
    (hid:∀ k,base+32*i≤k→k<base+32*i+32→¬ dom k) (hn:c.n≤base) (he:eO P ops base env H i sc=some (rd,e)) (hob:∀ p∈e.ob,p)
    {K:Act→World→Prop} {Q:Exit→Act→World→Prop}
    (hK:∀ a' w' β',Rel c (fun k=>dom k∨(base+32*i≤k∧k<base+32*i+32)) (gk env (d6 ops i) e.v) (a7 H e.wr) a' w' β'→K a' w') :
    wpOp P ops Q i K a w:=by
  unfold eO at he
  unfold wpOp
  cases ho:ops[i]? with
  | none=>rw [ho] at he;cases he
  | some o =>
    have hdst:d6 ops i=o.dst:=by simp [d6,ho]
    rw [hdst] at hK
    rw [ho] at he
    simp only at he ⊢
    cases hg:o.guard with
    | none =>
      rw [hg] at he
      simp only at he
      have hw:Region.wanted o (yielded ops a.tmps)=true:=by simp [Region.wanted,hg]
      rw [hw]
      simp only [if_true]
      split at he
      case h_2=>cases he
      rename_i e' hgo
      split at he
      case isFalse=>cases he
      rename_i hwr
      simp only [Option.some.injEq,Prod.mk.injEq] at he
      obtain ⟨_,rfl⟩:=he
      exact .inl (Bc h hid (by omega) (g9 H _) (ρOf_ok _ (fun t _=>h.ev t)) hgo hwr hob (fun x w' β' _ _ hr=>hK _ _ _ hr))
    | some gw =>
      obtain ⟨j,want⟩:=gw
      rw [hg] at he
      simp only at he
      split at he
      case h_1=>cases he
      rename_i g hgb
      have hgd:=zY h.ev hgb
      have hw:Region.wanted o (yielded ops a.tmps)=g:=by simp only [Region.wanted,hg];exact hgd
      rw [hw]
      split at he
      · split at he
        case h_2=>cases he
        rename_i e' hgo
        split at he
        case isFalse=>cases he
        rename_i hwr
        simp only [Option.some.injEq,Prod.mk.injEq] at he
        obtain ⟨_,rfl⟩:=he
        have hgt:g=true:=hob _ (by simp)
        subst hgt
        simp only [if_true]
        exact .inl (Bc h hid (by omega) (g9 H _) (ρOf_ok _ (fun t _=>h.ev t)) hgo hwr (fun p hp=>hob p (by simp [hp])) (fun x w' β' _ _ hr=>hK _ _ _ hr))
      · simp only [Option.some.injEq,Prod.mk.injEq] at he
        obtain ⟨_,rfl⟩:=he
        have hgf:g=false:=hob _ (by simp)
        subst hgf
        simp only [Bool.false_eq_true,if_false]
        refine hK _ _ β ?_
        refine h.step (Placed.same c.X w β H (base+32*i) h.hr h.sep).called (by omega) (fun k hk=>.inl hk) o.dst (.any _) (fun k h1 h2=>?_)
        cases hb:β k with
        | none=>rfl
        | some a=>exact absurd (h.dom k (.inl (by rw [hb];simp))) (hid k.o h1 h2)
      split at he
      case h_2=>cases he
      rename_i e' hgo
      split at he
      case isFalse=>cases he
      rename_i hwr
      simp only [Option.some.injEq,Prod.mk.injEq] at he
      obtain ⟨_,rfl⟩:=he
      have hnil:e'.wr=[]:=by simpa using hwr
      cases g with
      | true =>
        simp only [if_true]
        have hob':∀ p∈((cI o.op).map fun t=>(gU o.op t (env.getD t ag)).2).flatten++e'.ob,p :=
          fun p hp=>hob (true=true→p) (List.mem_map.2 ⟨p,hp,rfl⟩) rfl
        refine .inl (Bc h hid (by omega) (g9 H _) (ρOf_ok _ (fun t ht=>Gk (h.ev t) (fun p hp=>hob' p (List.mem_append_left _ (List.mem_flatten.2 ⟨_,List.mem_map.2 ⟨t,ht,rfl⟩,hp⟩))))) hgo
          (by rw [hnil];rfl) (fun p hp=>hob' p (List.mem_append_right _ hp)) (fun x w' β' hc hv hr=>?_))
        refine hK _ _ β' ?_
        rw [hnil] at hc hv
        have hkeys:∀ k,(a7 H []).lookup k≠none→H.lookup k≠none∨(base+32*i≤k∧k<base+32*i+32):=fun k hk=>.inl hk
        refine h.step hc (by omega) hkeys o.dst (.cnd _ _ _ (fun _=>hv) (fun h=>by cases h)) (fun k h1 h2=>?_)
        cases hb:β k with
        | none=>rfl
        | some a=>exact absurd (h.dom k (.inl (by rw [hb];simp))) (hid k.o h1 h2)
      | false =>
        simp only [Bool.false_eq_true,if_false]
        refine hK _ _ β ?_
        refine h.step (Placed.same c.X w β H (base+32*i) h.hr h.sep).called (by omega) (fun k hk=>.inl hk) o.dst (.cnd _ _ _ (fun h=>by cases h) (fun _=>rfl)) (fun k h1 h2=>?_)
        cases hb:β k with
        | none=>rfl
        | some a=>exact absurd (h.dom k (.inl (by rw [hb];simp))) (hid k.o h1 h2)
def fZ (P:Program) (ops:Array Oper) (base:Nat):List OpS→Nat→List AV→Hp→Option (List AV×Hp×List (List Nat×Eff))
  | [],i,env,H=>if i==ops.size then some (env,H,[]) else none
  | s::r,i,env,H =>
    match eO P ops base env H i s with
    | none=>none
    | some x =>
      match fZ P ops base r (i+1) (gk env (d6 ops i) x.2.v) (a7 H x.2.wr) with
      | none=>none
      | some y=>some (y.1,y.2.1,x::y.2.2)
def ot (tr:List (List Nat×Eff)):List Prop:=(tr.map fun x=>x.2.ob).flatten
theorem Rel.dom_mono {c:Cx} {dom dom':Nat→Prop} {env:List AV} {H:Hp} {a:Act} {w:World} {β:Id→Option Addr} (h:Rel c dom env H a w β) (hd:∀ k,dom k→dom' k):Rel c dom' env H a w β :=
  { h with dom:=fun k hk=>hd k.o (h.dom k hk) }
theorem eY {base:Nat}:∀ (ss:List OpS) (i:Nat) (env:List AV) (H:Hp) {y:List AV×Hp×List (List Nat×Eff)},fZ P ops base ss i env H=some y→i+ss.length=ops.size
  | [],i,env,H,y,hr=>by
    simp only [fZ] at hr
    split at hr
    case isFalse=>cases hr
    rename_i hi
    have hi:i=ops.size:=by simpa using hi
    simp [hi]
  | s::r,i,env,H,y,hr=>by
    simp only [fZ] at hr
    split at hr
    case h_1=>cases hr
    rename_i x hx
    split at hr
    case h_1=>cases hr
    rename_i y hy
    have:=eY r (i+1) _ _ hy
    simp only [List.length_cons]
    omega
theorem Au {c:Cx} {base:Nat} {Q:Exit→Act→World→Prop} (hn:c.n≤base):∀ (ss:List OpS) (i:Nat) (env:List AV) (H:Hp) (a:Act) (w:World) (β:Id→Option Addr) (env':List AV) (H':Hp) (tr:List (List Nat×Eff)),
    fZ P ops base ss i env H=some (env',H',tr)→(∀ p∈ot tr,p)→Rel c (fun k=>k<base+32*i) env H a w β →
    (∀ a' w' β',Rel c (fun k=>k<base+32*ops.size) env' H' a' w' β'→Q .normal a' w')→wpOps P ops Q (List.range' i ss.length) a w
  | [],i,env,H,a,w,β,env',H',tr,hr,_,h,hQ=>by
    have hi:=eY [] i env H hr
    simp only [fZ] at hr
    split at hr
    case isFalse=>cases hr
    simp only [Option.some.injEq,Prod.mk.injEq] at hr
    obtain ⟨rfl,rfl,rfl⟩:=hr
    simp only [List.length_nil,Nat.add_zero] at hi
    subst hi
    exact hQ _ _ _ h
  | s::r,i,env,H,a,w,β,env',H',tr,hr,hob,h,hQ=>by
    simp only [fZ] at hr
    split at hr
    case h_1=>cases hr
    rename_i x hx
    split at hr
    case h_1=>cases hr
    rename_i y hy
    simp only [Option.some.injEq,Prod.mk.injEq] at hr
    obtain ⟨rfl,rfl,rfl⟩:=hr
    have hob1:∀ p∈x.2.ob,p:=fun p hp=>hob p (by simp [ot,hp])
    have hob2:∀ p∈ot y.2.2,p:=fun p hp=>hob p (by simp only [ot,List.map_cons,List.flatten_cons];exact List.mem_append_right _ hp)
    simp only [List.length_cons,List.range'_succ]
    rw [wpOps_cons]
    exact pb h (fun k h1 h2=>by omega) hn hx hob1 (fun a' w' β' hr=>Au hn r (i+1) _ _ a' w' β' y.1 y.2.1 y.2.2 hy hob2 (hr.dom_mono (fun k hk=>by omega)) hQ)
def dg (wr:List (Nat×Option Ob)):List Nat:=wr.map (·.1)
def n8 (a b:List Nat):Bool:=a.all fun x=>!(b.elem x)
theorem mA {a b:List Nat} (h:n8 a b=true):∀ x∈a,x∉b:=by
  intro x hx
  simp only [n8,List.all_eq_true] at h
  simpa using h x hx
def oY (ops:Array Oper) (o:Oper):List Nat :=
  cI o.op++(match o.guard with | some (g,_)=>(d6 ops g).toList | none=>[])
def tS (ops:Array Oper) (x y:Oper):Bool :=
  (match x.dst with | some d=>!((oY ops y).elem d)&&!(y.dst==some d) | none=>true) &&
  (match y.dst with | some d=>!((oY ops x).elem d) | none=>true)
def lR (ops:Array Oper) (tr:List (List Nat×Eff)) (i j:Nat):Bool :=
  match ops[i]?,ops[j]?,tr[i]?,tr[j]? with
  | some oi,some oj,some ti,some tj =>
    tS ops oi oj&&n8 (dg ti.2.wr) tj.1&&n8 (dg ti.2.wr) (dg tj.2.wr)&&n8 (dg tj.2.wr) ti.1
  | _,_,_,_=>false
def og (ops:Array Oper) (i j:Nat):Bool :=
  match ops[j]? with
  | some oj=>oj.after.any fun e=>Region.binds .any e&&e.on==i
  | none=>false
def fA (ops:Array Oper):Nat→Nat→Nat→Bool
  | 0,i,j=>og ops i j
  | n+1,i,j=>og ops i j||(List.range j).any fun k=>og ops k j&&fA ops n i k
def Gs (ops:Array Oper) (tr:List (List Nat×Eff)):Bool :=
  (List.range ops.size).all fun j =>
    (match ops[j]? with | some oj=>oj.after.all fun e=>!Region.binds .any e||Nat.blt e.on j | none=>false) &&
    (List.range j).all fun i=>og ops i j||(lR ops tr i j||fA ops 5 i j)
theorem cR:∀ (wr:List (Nat×Option Ob)) (H:Hp) (k:Nat),k∉dg wr→(a7 H wr).lookup k=H.lookup k
  | [],H,k,_=>rfl
  | (j,x)::r,H,k,h=>by
    simp only [dg,List.map_cons,List.mem_cons,not_or] at h
    cases x with
    | none=>simp only [a7];rw [cR r _ k h.2,bN,if_neg h.1]
    | some ob=>simp only [a7];rw [cR r _ k h.2,cj,if_neg h.1]
theorem ju:∀ (wr:List (Nat×Option Ob)) (H H2:Hp) (k:Nat),(k∈dg wr∨H.lookup k=H2.lookup k)→(a7 H wr).lookup k=(a7 H2 wr).lookup k
  | [],H,H2,k,h=>by
    rcases h with h | h
    · simp [dg] at h
    · exact h
  | (j,x)::r,H,H2,k,h=>by
    cases x with
    | none =>
      simp only [a7]
      refine ju r _ _ k ?_
      rw [bN,bN]
      by_cases hk:k=j
      · exact .inr (by simp [hk])
      · rcases h with h | h
        · simp only [dg,List.map_cons,List.mem_cons] at h
          exact .inl (h.resolve_left hk)
        · exact .inr (by simp [hk,h])
    | some ob =>
      simp only [a7]
      refine ju r _ _ k ?_
      rw [cj,cj]
      by_cases hk:k=j
      · exact .inr (by simp [hk])
      · rcases h with h | h
        · simp only [dg,List.map_cons,List.mem_cons] at h
          exact .inl (h.resolve_left hk)
        · exact .inr (by simp [hk,h])
def Heq (H H2:Hp):Prop:=∀ k,H.lookup k=H2.lookup k
theorem t9 {H H2:Hp} (h:Heq H H2) (wr:List (Nat×Option Ob)):Heq (a7 H wr) (a7 H2 wr):=fun k=>ju wr H H2 k (.inr (h k))
theorem xC {H:Hp} {a b:List (Nat×Option Ob)} (h:n8 (dg a) (dg b)=true):Heq (a7 (a7 H a) b) (a7 (a7 H b) a):=by
  intro k
  have hd:=mA h
  by_cases hka:k∈dg a
  · rw [cR b _ k (hd k hka)]
    exact ju a _ _ k (.inl hka)
  · rw [cR a _ k hka]
    exact ju b _ _ k (.inr (cR a H k hka))
theorem fF {base:Nat} {env env2:List AV} {H H2:Hp} {j:Nat} {oj:Oper} {sc:OpS} {rd:List Nat} {e:Eff} (hj:ops[j]? = some oj) (hl:∀ t∈oY ops oj,env.getD t ag=env2.getD t ag)
    (h:eO P ops base env H j sc=some (rd,e)) (hH:∀ k∈rd,H.lookup k=H2.lookup k):eO P ops base env2 H2 j sc=some (rd,e):=by
  have hp:cX env (cI oj.op)=cX env2 (cI oj.op):=by
    unfold cX
    refine List.map_congr_left (fun t ht=>?_)
    rw [hl t (List.mem_append_left _ ht)]
  have hu:ku env oj.op=ku env2 oj.op:=by
    unfold ku
    refine List.map_congr_left (fun t ht=>?_)
    rw [hl t (List.mem_append_left _ ht)]
  have hc:(cI oj.op).map (fun t=>(gU oj.op t (env.getD t ag)).2)=(cI oj.op).map (fun t=>(gU oj.op t (env2.getD t ag)).2) :=
    List.map_congr_left (fun t ht=>by rw [hl t (List.mem_append_left _ ht)])
  unfold eO at h ⊢
  rw [hj] at h ⊢
  simp only at h ⊢
  cases hg:oj.guard with
  | none =>
    rw [hg] at h
    simp only at h ⊢
    rw [hp] at h
    split at h
    case h_2=>cases h
    rename_i e' hgo
    split at h
    case isFalse=>cases h
    rename_i hwr
    simp only [Option.some.injEq,Prod.mk.injEq] at h
    obtain ⟨rfl,rfl⟩:=h
    rw [← eE _ hH,hgo]
    simp only
    rw [if_pos hwr]
  | some gw =>
    obtain ⟨g,want⟩:=gw
    rw [hg] at h
    simp only at h ⊢
    have hd:uE ops env g=uE ops env2 g:=by
      unfold uE
      cases hd:(ops[g]?).bind (·.dst) with
      | none=>rfl
      | some d =>
        simp only
        refine hl d ?_
        unfold oY
        rw [hg]
        refine List.mem_append_right _ ?_
        simp only [d6]
        rw [hd]
        simp
    rw [hd,hu,hc] at h
    cases hgb:nF (uE ops env2 g) want with
    | none=>rw [hgb] at h;cases h
    | some gb=>?_
    rw [hgb] at h
    simp only at h ⊢
    cases hsg:sc.gd with
    | some bb =>
      rw [hsg] at h
      cases bb with
      | false=>exact h
      | true =>
        simp only at h ⊢
        rw [hp] at h
        split at h
        case h_2=>cases h
        rename_i e' hgo
        split at h
        case isFalse=>cases h
        rename_i hwr
        simp only [Option.some.injEq,Prod.mk.injEq] at h
        obtain ⟨rfl,rfl⟩:=h
        rw [← eE _ hH,hgo]
        simp only
        rw [if_pos hwr]
    | none=>?_
    rw [hsg] at h
    simp only at h ⊢
    split at h
    case h_2=>cases h
    rename_i e' hgo
    split at h
    case isFalse=>cases h
    rename_i hwr
    simp only [Option.some.injEq,Prod.mk.injEq] at h
    obtain ⟨rfl,rfl⟩:=h
    rw [← eE _ hH,hgo]
    simp only
    rw [if_pos hwr]
def eN (tr:List (List Nat×Eff)) (i:Nat):List Nat×Eff:=tr.getD i ([],⟨ag,[],[]⟩)
def uO (P:Program) (ops:Array Oper) (base:Nat) (ss:List OpS) (tr:List (List Nat×Eff)) (envN:List AV) (HN:Hp):Nat→Array Bool→List AV→Hp→Prop
  | 0,listed,env,H=>Region.ready .any ops listed=[]∧env=envN∧Heq H HN
  | fuel+1,listed,env,H=>(Region.ready .any ops listed=[]→env=envN∧Heq H HN)∧∀ i∈Region.ready .any ops listed,
      eO P ops base env H i (ss.getD i ⟨true,none,none⟩)=some (eN tr i) ∧
      uO P ops base ss tr envN HN fuel (listed.setIfInBounds i true) (gk env (d6 ops i) (eN tr i).2.v) (a7 H (eN tr i).2.wr)
section
variable {base:Nat} {ss:List OpS} {tr:List (List Nat×Eff)} {envN:List AV} {HN:Hp}
theorem nv:∀ (fuel:Nat) (listed:Array Bool) (env:List AV) (H H2:Hp),Heq H H2→uO P ops base ss tr envN HN fuel listed env H→uO P ops base ss tr envN HN fuel listed env H2
  | 0,_,_,_,_,hq,h=>⟨h.1,h.2.1,fun k=>(hq k).symm.trans (h.2.2 k)⟩
  | fuel+1,listed,env,H,H2,hq,h=>by
    refine ⟨fun h0=>⟨(h.1 h0).1,fun k=>(hq k).symm.trans ((h.1 h0).2 k)⟩,fun i hi=>?_⟩
    obtain ⟨h1,h2⟩:=h.2 i hi
    obtain ⟨_,o,ho,_⟩:=mem_ready.1 hi
    exact ⟨fF ho (fun _ _=>rfl) h1 (fun k _=>hq k),nv fuel _ _ _ _ (t9 hq _) h2⟩
theorem rI {env:List AV} {dst:Option Tmp} {v:AV} {t:Nat} (h:∀ d,dst=some d→d≠t):(gk env dst v).getD t ag=env.getD t ag:=by
  cases dst with
  | none=>rfl
  | some d=>simp [gk,List.getD_eq_getElem?_getD,List.getElem?_set_ne (h d rfl)]
theorem yy {env:List AV} {x y:Option Tmp} {u v:AV} (h:∀ d,x=some d→y≠some d):gk (gk env x u) y v=gk (gk env y v) x u:=by
  cases x with
  | none=>rfl
  | some d =>
    cases y with
    | none=>rfl
    | some e =>
      have hne:d≠e:=fun he=>h d rfl (by rw [he])
      simp only [gk]
      exact List.set_comm _ _ hne
theorem wZ {x y:Oper} (h:tS ops x y=true):(∀ d,x.dst=some d→d∉oY ops y)∧(∀ d,x.dst=some d→y.dst≠some d)∧(∀ d,y.dst=some d→d∉oY ops x):=by
  refine ⟨fun d hd=>?_,fun d hd=>?_,fun d hd=>?_⟩<;>simp [tS,hd] at h
  · exact h.1.1
  · exact h.1.2
  · exact h.2
def Closed (ops:Array Oper) (listed:Array Bool):Prop:=∀ k ok,ops[k]? = some ok→listed.getD k true=true→∀ e∈ok.after,Region.binds .any e=true→listed.getD e.on true=true
theorem ki {i j:Nat} (h:og ops i j=true):∃ oj,ops[j]? = some oj∧∃ e∈oj.after,Region.binds .any e=true∧e.on=i:=by
  unfold og at h
  split at h
  · rename_i oj hoj
    rw [Array.any_eq_true'] at h
    obtain ⟨e,he,hb⟩:=h
    simp only [Bool.and_eq_true,beq_iff_eq] at hb
    exact ⟨oj,hoj,e,he,hb.1,hb.2⟩
  · cases h
theorem iU {listed:Array Bool} (hc:Closed ops listed) {i:Nat}:∀ (n j:Nat),(∀ oj,ops[j]? = some oj→∀ e∈oj.after,Region.binds .any e=true→listed.getD e.on true=true) →
    fA ops n i j=true→listed.getD i true=true
  | 0,j,hd,h=>by
    obtain ⟨oj,hoj,e,he,hb,hi⟩:=ki h
    rw [← hi];exact hd oj hoj e he hb
  | n+1,j,hd,h=>by
    simp only [fA,Bool.or_eq_true,List.any_eq_true,List.mem_range,Bool.and_eq_true] at h
    rcases h with h | ⟨k,_,hk1,hk2⟩
    · obtain ⟨oj,hoj,e,he,hb,hi⟩:=ki h
      rw [← hi];exact hd oj hoj e he hb
    · obtain ⟨oj,hoj,e,he,hb,hi⟩:=ki hk1
      have hkl:listed.getD k true=true:=by rw [← hi];exact hd oj hoj e he hb
      exact iU hc n k (fun ok hok e he hb=>hc k ok hok hkl e he hb) hk2
theorem wK {listed:Array Bool} {k:Nat} (h:listed.getD k false=true):listed.getD k true=true:=by
  rw [Array.getD_eq_getD_getElem?] at h ⊢
  rcases Nat.lt_or_ge k listed.size with h' | h'
  · simpa [h'] using h
  · simp [h']
theorem o8 {listed:Array Bool} {j k:Nat} (h:listed.getD k true=true):(listed.setIfInBounds j true).getD k true=true:=by
  by_cases hjk:j=k
  · subst hjk
    rw [Array.getD_eq_getD_getElem?]
    rcases Nat.lt_or_ge j listed.size with h' | h'
    · simp [h']
    · simp [h']
  · rw [getD_set_ne true hjk];exact h
theorem Closed.next {listed:Array Bool} (hc:Closed ops listed) {j:Nat} (hj:j∈Region.ready .any ops listed):Closed ops (listed.setIfInBounds j true):=by
  obtain ⟨_,oj,hoj,hall⟩:=mem_ready.1 hj
  intro k ok hok hk e he hb
  by_cases hjk:j=k
  · subst hjk
    rw [hoj] at hok
    obtain rfl:=Option.some.inj hok
    exact o8 (wK (hall e he hb))
  · rw [getD_set_ne true hjk] at hk
    exact o8 (hc k ok hok hk e he hb)
theorem t6 {i:Nat}:∀ (fuel:Nat) (listed:Array Bool) (env:List AV) (H:Hp),
    Closed ops listed→(∀ j,j<ops.size→j≠i→listed.getD j true=false→fA ops 5 i j=false→lR ops tr i j=true)→i∈Region.ready .any ops listed →
    eO P ops base env H i (ss.getD i ⟨true,none,none⟩)=some (eN tr i) →
    uO P ops base ss tr envN HN fuel (listed.setIfInBounds i true) (gk env (d6 ops i) (eN tr i).2.v) (a7 H (eN tr i).2.wr) →
    uO P ops base ss tr envN HN (fuel+1) listed env H:=by
  intro fuel
  induction fuel with
  | zero =>
    intro listed env H _ _ hr hs h
    refine ⟨fun h0=>(by rw [h0] at hr;cases hr),fun j hj=>?_⟩
    by_cases hji:j=i
    · subst hji;exact ⟨hs,h⟩
    · have:=ready_mono hj hji
      rw [h.1] at this
      cases this
  | succ fuel ih =>
    intro listed env H hcl hap hr hs h
    refine ⟨fun h0=>(by rw [h0] at hr;cases hr),fun j hj=>?_⟩
    by_cases hji:j=i
    · subst hji;exact ⟨hs,h⟩
    obtain ⟨h1,h2⟩:=h.2 j (ready_mono hj hji)
    obtain ⟨hjun,oj,hoj,hall⟩:=mem_ready.1 hj
    obtain ⟨hiun,oi,hoi,_⟩:=mem_ready.1 hr
    have hjlt:j<ops.size:=(Array.getElem?_eq_some_iff.1 hoj).1
    have hnot:fA ops 5 i j=false:=by
      cases hw:fA ops 5 i j with
      | false=>rfl
      | true =>
        have:=iU hcl 5 j (fun oj' hoj' e he hb=>by rw [hoj] at hoj';obtain rfl:=Option.some.inj hoj';exact wK (hall e he hb)) hw
        rw [hiun] at this
        cases this
    have hap1:=hap j hjlt hji hjun hnot
    unfold lR at hap1
    rw [hoi,hoj] at hap1
    cases hti:tr[i]? with
    | none=>rw [hti] at hap1;simp at hap1
    | some ti =>
      cases htj:tr[j]? with
      | none=>rw [hti,htj] at hap1;simp at hap1
      | some tj =>
        rw [hti,htj] at hap1
        simp only [Bool.and_eq_true] at hap1
        obtain ⟨⟨⟨ha,hd1⟩,hd2⟩,hd3⟩:=hap1
        obtain ⟨k1,k2,k3⟩:=wZ ha
        have ei:eN tr i=ti:=by simp [eN,List.getD_eq_getElem?_getD,hti]
        have ej:eN tr j=tj:=by simp [eN,List.getD_eq_getElem?_getD,htj]
        have di:d6 ops i=oi.dst:=by simp [d6,hoi]
        have dj:d6 ops j=oj.dst:=by simp [d6,hoj]
        have hsj:eO P ops base env H j (ss.getD j ⟨true,none,none⟩)=some (eN tr j):=by
          rw [ej] at h1 ⊢
          refine fF hoj (fun t ht=>?_) h1 (fun k hk=>?_)
          · exact rI (fun d hd he=>k1 d (by rw [← di];exact hd) (he ▸ ht))
          · exact cR _ _ _ (by rw [ei];exact fun hk'=>mA hd1 k hk' hk)
        have hsi:eO P ops base (gk env (d6 ops j) (eN tr j).2.v) (a7 H (eN tr j).2.wr) i (ss.getD i ⟨true,none,none⟩)=some (eN tr i):=by
          rw [ei] at hs ⊢
          refine fF hoi (fun t ht=>?_) hs (fun k hk=>?_)
          · exact (rI (fun d hd he=>k3 d (by rw [← dj];exact hd) (he ▸ ht))).symm
          · exact (cR _ _ _ (by rw [ej];exact fun hk'=>mA hd3 k hk' hk)).symm
        refine ⟨hsj,ih (listed.setIfInBounds j true) _ _ (hcl.next hj) (fun k hk hki hun hw=>hap k hk hki ?_ hw) (ready_mono hr (Ne.symm hji)) hsi ?_⟩
        · by_cases hjk:j=k
          · subst hjk;exact hjun
          · rw [getD_set_ne true hjk] at hun;exact hun
        · rw [Array.setIfInBounds_comm _ _ hji]
          rw [yy (x:=d6 ops j) (y:=d6 ops i) (fun d hd he=>k2 d (by rw [← di];exact he) (by rw [← dj];exact hd))]
          refine nv _ _ _ _ _ (xC ?_) h2
          rw [ei,ej]
          exact hd2
end
end
section
variable {P:Program} {ops:Array Oper} {base:Nat} {ss:List OpS} {tr:List (List Nat×Eff)} {envN:List AV} {HN:Hp}
theorem sX (h:Gs ops tr=true) {j:Nat} (hj:j<ops.size):(∃ oj,ops[j]? = some oj∧∀ e∈oj.after,Region.binds .any e=true→e.on<j)∧∀ i,i<j→fA ops 5 i j=true∨lR ops tr i j=true:=by
  simp only [Gs,List.all_eq_true,List.mem_range,Bool.and_eq_true,Bool.or_eq_true] at h
  obtain ⟨h1,h2⟩:=h j hj
  refine ⟨?_,fun i hi=>?_⟩
  rotate_left
  · rcases h2 i hi with h | h | h
    · left;simp [fA,h]
    · exact .inr h
    · exact .inl h
  split at h1
  · rename_i oj hoj
    refine ⟨oj,hoj,fun e he hb=>?_⟩
    have:=Array.all_eq_true_iff_forall_mem.1 h1 e he
    simp only [Bool.or_eq_true,Bool.not_eq_true',Nat.blt_eq] at this
    rcases this with h | h
    · rw [h] at hb;cases hb
    · exact h
  · cases h1
def Upto (ops:Array Oper) (i:Nat) (listed:Array Bool):Prop:=listed.size=ops.size∧∀ j,j<ops.size→listed[j]? = some (decide (j<i))
theorem Upto.getD {i:Nat} {listed:Array Bool} (h:Upto ops i listed) {j:Nat} (hj:j<ops.size) (d:Bool):listed.getD j d=decide (j<i):=by
  rw [Array.getD_eq_getD_getElem?,h.2 j hj];rfl
theorem Upto.next {i:Nat} {listed:Array Bool} (h:Upto ops i listed) (hi:i<ops.size):Upto ops (i+1) (listed.setIfInBounds i true):=by
  refine ⟨by simp [h.1],fun j hj=>?_⟩
  by_cases hij:i=j
  · subst hij
    simp [h.1,hi]
  · rw [Array.getElem?_setIfInBounds_ne hij,h.2 j hj]
    congr 1
    apply decide_eq_decide.2
    omega
theorem rE (hc:Gs ops tr=true):∀ (r:List OpS) (i:Nat) (listed:Array Bool) (env:List AV) (H:Hp) (envN:List AV) (HN:Hp) (tr':List (List Nat×Eff)),fZ P ops base r i env H=some (envN,HN,tr') →
    (∀ k,r[k]? = ss[i+k]?)→(∀ k,tr'[k]? = tr[i+k]?)→Upto ops i listed→uO P ops base ss tr envN HN r.length listed env H
  | [],i,listed,env,H,envN,HN,tr',hr,hs,ht,hu=>by
    have hi:=eY [] i env H hr
    simp only [fZ] at hr
    split at hr
    case isFalse=>cases hr
    simp only [Option.some.injEq,Prod.mk.injEq] at hr
    obtain ⟨rfl,rfl,rfl⟩:=hr
    refine ⟨?_,rfl,fun _=>rfl⟩
    rw [List.eq_nil_iff_forall_not_mem]
    intro j hj
    obtain ⟨h1,o,ho,_⟩:=mem_ready.1 hj
    have hjl:j<ops.size:=(Array.getElem?_eq_some_iff.1 ho).1
    rw [hu.getD hjl] at h1
    simp at h1 hi
    omega
  | s::r,i,listed,env,H,envN,HN,tr',hr,hs,ht,hu=>by
    have hlen:=eY _ i env H hr
    simp only [List.length_cons] at hlen
    have hi:i<ops.size:=by omega
    simp only [fZ] at hr
    split at hr
    case h_1=>cases hr
    rename_i x hx
    split at hr
    case h_1=>cases hr
    rename_i y hy
    simp only [Option.some.injEq,Prod.mk.injEq] at hr
    obtain ⟨rfl,rfl,rfl⟩:=hr
    have hs0:ss.getD i ⟨true,none,none⟩=s:=by
      have:=hs 0
      simp only [Nat.add_zero,List.getElem?_cons_zero] at this
      rw [List.getD_eq_getElem?_getD,← this];rfl
    have ht0:eN tr i=x:=by
      have:=ht 0
      simp only [Nat.add_zero,List.getElem?_cons_zero] at this
      rw [eN,List.getD_eq_getElem?_getD,← this];rfl
    obtain ⟨⟨oi,hoi,hon⟩,_⟩:=sX hc hi
    refine t6 r.length listed env H (fun k ok hok hk e he hb=>?_) (fun j hj hji hun hw=>?_) ?_ (by rw [hs0,ht0];exact hx) ?_
    · have hks:k<ops.size:=(Array.getElem?_eq_some_iff.1 hok).1
      rw [hu.getD hks] at hk
      obtain ⟨⟨ok',hok',hon'⟩,_⟩:=sX hc hks
      rw [hok] at hok'
      obtain rfl:=Option.some.inj hok'
      have h1:=hon' e he hb
      have hk:=of_decide_eq_true hk
      rw [hu.getD (by omega)]
      exact decide_eq_true (by omega)
    · rw [hu.getD hj] at hun
      simp only [decide_eq_false_iff_not] at hun
      rcases (sX hc hj).2 i (by omega) with h | h
      · rw [h] at hw;cases hw
      · exact h
    · refine mem_ready.2 ⟨by rw [hu.getD hi];simp,oi,hoi,fun e he hb=>?_⟩
      have:=hon e he hb
      rw [hu.getD (by omega)]
      simpa using this
    · rw [ht0]
      exact rE hc r (i+1) _ _ _ _ _ y.2.2 hy (fun k=>by have:=hs (k+1);simpa [Nat.add_assoc,Nat.add_comm 1 k] using this)
        (fun k=>by have:=ht (k+1);simpa [Nat.add_assoc,Nat.add_comm 1 k] using this) (hu.next hi)
theorem Heq.lk {H H2:Hp} (h:Heq H H2) (x:Id):lk H x=lk H2 x:=by
  unfold Mach.lk
  rw [h x.o]
theorem Heq.own {β:Id→Option Addr} {H H2:Hp} (h:Heq H H2):aU β H=aU β H2:=by
  funext b
  unfold aU
  simp only [h.lk]
theorem Rel.heq {c:Cx} {dom:Nat→Prop} {env:List AV} {H H2:Hp} {a:Act} {w:World} {β:Id→Option Addr} (h:Rel c dom env H a w β) (hq:Heq H H2):Rel c dom env H2 a w β:=by
  have ho:=hq.own (β:=β)
  have hw:ow c.X β H=ow c.X β H2:=by funext t b;unfold ow;rw [ho]
  refine ⟨fun o ob hl=>?_,fun o o' ob ob' a a' h1 h2=>h.sep o o' ob ob' a a' (by rw [hq.lk o];exact h1) (by rw [hq.lk o'];exact h2),by rw [← hw];exact h.ev,h.len,h.dfr,fun k hk=>h.dom k (by rw [hq k.o];exact hk),by rw [← hw];exact h.ext,by rw [← ho];exact h.xs,by rw [← ho];exact h.own,h.init⟩
  rw [← hw]
  exact h.hr o ob (by rw [hq.lk o];exact hl)
def FU (base:Nat) (listed:Array Bool) (k:Nat):Prop:=k<base∨∃ i,listed.getD i false=true∧base+32*i≤k∧k<base+32*i+32
theorem uF {c:Cx} (hn:c.n≤base) {Q:Exit→Act→World→Prop} (hob:∀ i,∀ p∈(eN tr i).2.ob,p)
    (hQ:∀ a' w' β',Rel c (fun k=>k<base+32*ops.size) envN HN a' w' β'→Q .normal a' w') :
    ∀ (fuel:Nat) (listed:Array Bool) (env:List AV) (H:Hp) (a:Act) (w:World) (β:Id→Option Addr),listed.size=ops.size→Rel c (FU base listed) env H a w β →
      uO P ops base ss tr envN HN fuel listed env H→wpAny P .any ops Q fuel listed a w:=by
  have fin:∀ (listed:Array Bool) (env:List AV) (H:Hp) (a:Act) (w:World) (β:Id→Option Addr),listed.size=ops.size→Rel c (FU base listed) env H a w β→env=envN→Heq H HN→Q .normal a w:=by
    intro listed env H a w β hl hr he hq
    subst he
    refine hQ a w β ((hr.heq hq).dom_mono (fun k hk=>?_))
    rcases hk with h | ⟨i,h1,h2,h3⟩
    · omega
    · have:i<listed.size:=by
        rcases Nat.lt_or_ge i listed.size with h' | h'
        · exact h'
        · simp [Array.getElem?_eq_none h'] at h1
      omega
  intro fuel
  induction fuel with
  | zero=>intro listed env H a w β hl hr h;exact ⟨h.1,fin listed env H a w β hl hr h.2.1 h.2.2⟩
  | succ fuel ih =>
    intro listed env H a w β hl hr h
    refine ⟨fun h0=>fin listed env H a w β hl hr (h.1 h0).1 (h.1 h0).2,fun i hi=>?_⟩
    obtain ⟨h1,h2⟩:=h.2 i hi
    obtain ⟨hun,oi,hoi,_⟩:=mem_ready.1 hi
    refine pb (rd:=(eN tr i).1) (e:=(eN tr i).2) hr (fun k k1 k2 hd=>?_) hn h1 (hob i) (fun a' w' β' hr'=>?_)
    · rcases hd with hd | ⟨i',g1,g2,g3⟩
      · omega
      · have:i'=i:=by omega
        subst this
        rcases Nat.lt_or_ge i' listed.size with h' | h'
        · simp [h'] at hun g1;rw [hun] at g1;cases g1
        · simp [Array.getElem?_eq_none h'] at g1
    · refine ih _ _ _ a' w' β' (by simp [hl]) (hr'.dom_mono (fun k hk=>?_)) h2
      rcases hk with hk | hk
      · rcases hk with hk | ⟨i',g1,g2⟩
        · exact .inl hk
        · exact .inr ⟨i',getD_set_true g1,g2⟩
      · have hil:i<listed.size:=by rw [hl];exact (Array.getElem?_eq_some_iff.1 hoi).1
        exact .inr ⟨i,by simp [Array.getD_eq_getD_getElem?,hil],hk⟩
theorem xZ {c:Cx} {id:Nat} {draw:Bool} {env env':List AV} {H H':Hp} {a:Act} {w:World} {β:Id→Option Addr} (hm:P.follows .mixedOrders=true) (hn:c.n≤base)
    (hr:fZ P ops base ss 0 env H=some (env',H',tr)) (hob:∀ p∈ot tr,p) (hc:draw=true→Gs ops tr=true) (h:Rel c (fun k=>k<base) env H a w β)
    {Q:Exit→Act→World→Prop} (hQ:∀ a' w' β',Rel c (fun k=>k<base+32*ops.size) env' H' a' w' β'→Q .normal a' w'):(Code.region id ops draw).wp P Q a w:=by
  have hlen:=eY ss 0 env H hr
  cases draw with
  | false =>
    refine wp_region ?_
    have:=Au (Q:=Q) hn ss 0 env H a w β env' H' tr hr hob (h.dom_mono (fun k hk=>by omega)) hQ
    rw [List.range_eq_range',show ops.size=ss.length by omega]
    exact this
  | true =>
    refine wp_region_any hm ?_
    have hE:∀ own:Bool→Nat→Prop,Ext w own { w with drawn:=w.drawn+1 } own:=fun own=>⟨rfl,rfl,rfl,Nat.le_refl _,fun _ _ _ _=>rfl,fun _ _ _ h=>h,fun _ c e f h=>⟨c,e,f,h,Nat.le_refl _⟩,fun _ es ck h=>⟨es,ck,h⟩⟩
    have hd:Rel c (fun k=>k<base) env H a { w with drawn:=w.drawn+1 } β :=
      { hr:=fun o ob hl=>by
          rcases h.hr o ob hl with h' | ⟨b,bs,cells,elem,h1,h2,h3⟩ | h'
          · exact .inl h'
          · refine .inr (.inl ⟨b,bs,cells,elem,h1,h2,fun i hi j hj=>?_⟩)
            obtain ⟨v,g1,g2,g3⟩:=h3 i hi j hj
            exact ⟨v,g1,g2,g3.ext (hE _) (fun _ _ h=>h)⟩
          · exact .inr (.inr h')
        sep:=h.sep
        ev:=fun t=>(h.ev t).ext (hE _) (fun _ _ h=>h)
        len:=h.len,dfr:=h.dfr,dom:=h.dom
        ext:=h.ext.trans (hE _)
        xs:=h.xs,own:=h.own,init:=h.init }
    have hob':∀ i,∀ p∈(eN tr i).2.ob,p:=by
      intro i p hp
      unfold eN at hp
      rw [List.getD_eq_getElem?_getD] at hp
      cases hi:tr[i]? with
      | none=>rw [hi] at hp;simp at hp
      | some x =>
        rw [hi] at hp
        exact hob p (List.mem_flatten.2 ⟨x.2.ob,List.mem_map.2 ⟨x,List.mem_of_getElem? hi,rfl⟩,hp⟩)
    have hu:Upto ops 0 (Array.replicate ops.size false):=⟨by simp,fun j hj=>by simp [hj]⟩
    have hlex:=rE (ss:=ss) (hc rfl) ss 0 (Array.replicate ops.size false) env H env' H' tr hr (fun k=>by simp) (fun k=>by simp) hu
    have hl:ss.length=ops.size:=by omega
    rw [hl] at hlex
    exact uF hn hob' hQ ops.size _ env H a _ β (by simp) (hd.dom_mono (fun k hk=>.inl hk)) hlex
end
structure St where
  env:List AV
  H:Hp
  ctr:Nat
def Run (P:Program) (c:Cx) (f:FuncId) (k:List Item) (st:St) (R:Ending→World→Prop):Prop :=
  c.n≤st.ctr→∀ (b:Frame) (cs:List Frame) (a:Act) (w:World) (β:Id→Option Addr),b.fn=f→b.kind=.normal→Rel c (fun k=>k<st.ctr) st.env st.H a w β →
    ∃ e w' fr,R e w'∧Comes P (lone (b.at a k) cs w) (lone fr cs w') e∧fr.fn=f∧fr.leaving P w' e
inductive ScI where
  | reg (ss:List OpS)
  | dec (b:Bool)
  | loop
  | head
section
variable {P:Program} {c:Cx} {f:FuncId} {R:Ending→World→Prop}
theorem Run.step {k k':List Item} {st:St} (h:∀ (b:Frame) (cs:List Frame) (a:Act) (w:World),Steps P (lone (b.at a k) cs w) (lone (b.at a k') cs w)) (hr:Run P c f k' st R):Run P c f k st R:=by
  intro hn b cs a w β h1 h2 h3
  obtain ⟨e,w',fr,g1,g2,g3,g4⟩:=hr hn b cs a w β h1 h2 h3
  exact ⟨e,w',fr,g1,g2.of_steps (h b cs a w),g3,g4⟩
def dH (P:Program):Nat→List ScI→List Item→St→Option (List Item×St×List Prop)
  | 0,_,_,_=>none
  | fuel+1,sc,k,st =>
    match k with
    | []=>match sc with
      | []=>some ([],st,[])
      | _=>none
    | .inBlock _::k=>dH P fuel sc k st
    | .inScope _::k=>dH P fuel sc k st
    | .inLoop body::k=>match sc with
      | .loop::sc=>dH P fuel sc (.code body::.inLoop body::k) st
      | .head::_=>some (.code body::.inLoop body::k,st,[])
      | _=>none
    | .code code::k =>
      match code with
      | .seq a b=>dH P fuel sc (.code a::.code b::k) st
      | .skip=>dH P fuel sc k st
      | .label _=>dH P fuel sc k st
      | .block id body=>dH P fuel sc (.code body::.inBlock id::k) st
      | .scope body=>dH P fuel sc (.code body::.inScope body::k) st
      | .exit id=>match exitTo id k with
        | some k'=>dH P fuel sc k' st
        | none=>none
      | .loop body=>match sc with
        | .loop::sc=>dH P fuel sc (.code body::.inLoop body::k) st
        | .head::_=>some (.code body::.inLoop body::k,st,[])
        | _=>none
      | .cond cnd x y=>match sc with
        | .dec b::sc=>match JJ st.env cnd with
          | .p (.bool v)=>match dH P fuel sc (.code (if b then x else y)::k) st with
            | some (k',st',ob)=>some (k',st',(v=b)::ob)
            | none=>none
          | _=>none
        | _=>none
      | .region rid ops draw=>match sc with
        | .head::_=>some (.code (.region rid ops draw)::k,st,[])
        | .reg ss::sc=>match fZ P ops st.ctr ss 0 st.env st.H with
          | some (env',H',tr) =>
            if !draw||Gs ops tr then
              match dH P fuel sc k ⟨env',H',st.ctr+32*ops.size⟩ with
              | some (k',st',ob)=>some (k',st',ot tr++ob)
              | none=>none
            else none
          | none=>none
        | _=>none
      | .ret=>match sc with
        | []=>some (.code .ret::k,st,[])
        | _=>none
      | _=>none
    | _=>none
theorem qZ (hm:P.follows .mixedOrders=true):∀ (fuel:Nat) (sc:List ScI) (k:List Item) (st:St) (k':List Item) (st':St) (ob:List Prop),dH P fuel sc k st=some (k',st',ob)→(∀ p∈ob,p) →
    Run P c f k' st' R→Run P c f k st R:=by
  intro fuel
  induction fuel with
  | zero=>intro sc k st k' st' ob h;cases h
  | succ fuel ih =>
    intro sc k st k' st' ob h hob hr
    unfold dH at h
    split at h
    ·
      split at h
      · cases h;exact hr
      · cases h
    · exact Run.step (fun b cs a w=>.one step_inBlock) (ih _ _ _ _ _ _ h hob hr)
    · exact Run.step (fun b cs a w=>.one (step_lone_go (by simp [stepG,stepG.exec,Frame.at]))) (ih _ _ _ _ _ _ h hob hr)
    · split at h
      · exact Run.step (fun b cs a w=>.one step_inLoop) (ih _ _ _ _ _ _ h hob hr)
      · cases h;exact Run.step (fun b cs a w=>.one step_inLoop) hr
      · cases h
    · rename_i code k
      split at h
      · exact Run.step (fun b cs a w=>.one step_seq) (ih _ _ _ _ _ _ h hob hr)
      · exact Run.step (fun b cs a w=>.one step_skip) (ih _ _ _ _ _ _ h hob hr)
      · exact Run.step (fun b cs a w=>.one step_label) (ih _ _ _ _ _ _ h hob hr)
      · exact Run.step (fun b cs a w=>.one step_block) (ih _ _ _ _ _ _ h hob hr)
      · exact Run.step (fun b cs a w=>.one (step_lone_go (by simp [stepG,stepG.exec,Frame.at]))) (ih _ _ _ _ _ _ h hob hr)
      · split at h
        · rename_i k2 hk2
          exact Run.step (fun b cs a w=>.one (step_exit hk2)) (ih _ _ _ _ _ _ h hob hr)
        · cases h
      · split at h
        · exact Run.step (fun b cs a w=>.one step_loop) (ih _ _ _ _ _ _ h hob hr)
        · cases h;exact Run.step (fun b cs a w=>.one step_loop) hr
        · cases h
      ·
        rename_i cnd x y
        split at h
        case h_2=>cases h
        rename_i b sc
        split at h
        case h_2=>cases h
        rename_i v hv
        split at h
        case h_2=>cases h
        rename_i k2 st2 ob2 h2
        simp only [Option.some.injEq,Prod.mk.injEq] at h
        obtain ⟨rfl,rfl,rfl⟩:=h
        have hvb:v=b:=hob _ (by simp)
        have hrun:=ih _ _ _ _ _ _ h2 (fun p hp=>hob p (by simp [hp])) hr
        intro hn fr cs a w β h1 h3 hrel
        have hc:=D0 hrel.ev cnd
        rw [hv] at hc
        have hcv:a.eval cnd=.bool b:=by
          generalize a.eval cnd=z at hc
          cases hc with
          | p _ _ hp=>cases hp;rw [hvb]
        obtain ⟨e,w',fr',g1,g2,g3,g4⟩:=hrun hn fr cs a w β h1 h3 hrel
        exact ⟨e,w',fr',g1,g2.of_steps (.one (step_cond hcv)),g3,g4⟩
      ·
        rename_i id ops draw
        split at h
        case h_1=>cases h;exact hr
        case h_3=>cases h
        rename_i ss sc
        split at h
        case h_2=>cases h
        rename_i env' H' tr htr
        split at h
        case isFalse=>cases h
        rename_i hd
        split at h
        case h_2=>cases h
        rename_i k2 st2 ob2 h2
        simp only [Option.some.injEq,Prod.mk.injEq] at h
        obtain ⟨rfl,rfl,rfl⟩:=h
        have hrun:=ih _ _ _ _ _ _ h2 (fun p hp=>hob p (List.mem_append_right _ hp)) hr
        intro hn fr cs a w β h1 h3 hrel
        have hwp:=xZ (id:=id) (draw:=draw) (Q:=fun ex a' w'=>ex=.normal∧∃ β',Rel c (fun k=>k<st.ctr+32*ops.size) env' H' a' w' β') hm hn htr (fun p hp=>hob p (List.mem_append_left _ hp))
          (fun h=>by rw [h] at hd;simpa using hd) hrel (fun a' w' β' h=>⟨rfl,β',h⟩)
        obtain ⟨ex,a',w',⟨rfl,β',hrel'⟩,harr⟩:=hwp fr k cs
        obtain ⟨e,w2,fr',g1,g2,g3,g4⟩:=hrun (by simp only;omega) fr cs a' w' β' h1 h3 hrel'
        exact ⟨e,w2,fr',g1,g2.of_steps harr,g3,g4⟩
      · split at h
        · cases h;exact hr
        · cases h
      · cases h
    · cases h
end
def CY:PV→PV→List Prop
  | .int k n,.int k' n'=>if lC k k' then [n=n'] else [False]
  | .bool b,.bool b'=>[b=b']
  | .str s,.str s'=>[s=s']
  | .nil,.nil=>[]
  | .nil,.seq _ _ n' _=>[n'=0]
  | .seq t z n f,.seq t' z' n' f'=>if t==t'&&z==z' then [n=n',∀ i,i<n→f i=f' i] else [False]
  | .fn f,.fn f'=>[f=f']
  | _,.any=>[]
  | _,_=>[False]
def GU (x y:Id):Option (List Prop):=if x.o==y.o then (match x.m,y.m with
  | none,none=>some []
  | some i,some j=>some [i=j]
  | _,_=>none) else none
theorem tM {x y:Id} {ps:List Prop} (h:GU x y=some ps) (hp:af ps):x=y:=by
  unfold GU at h
  split at h
  · rename_i e
    have e:x.o=y.o:=by simpa using e
    obtain ⟨xo,xm⟩:=x
    obtain ⟨yo,ym⟩:=y
    simp only at e h
    subst e
    cases xm with
    | none=>cases ym with
      | none=>rfl
      | some j=>simp at h
    | some i=>cases ym with
      | none=>simp at h
      | some j =>
        simp only [Option.some.injEq] at h
        subst h
        obtain ⟨rfl,_⟩:=hp
        rfl
  · cases h
mutual
def wk:AV→AV→List Prop
  | .p v,.p v'=>CY v v'
  | .p v,.ar _ _ _ n'=>match v with
    | .nil=>[n'=0]
    | _=>[False]
  | .ar z o off n,.ar z' o' off' n'=>if z==z' then (match GU o o' with
    | some ps=>ps++[off=off',n=n']
    | none=>[False]) else [False]
  | .pt z o row off,.pt z' o' row' off'=>if z==z'&&off==off' then (match GU o o' with
    | some ps=>ps++[row=row']
    | none=>[False]) else [False]
  | .ip t cs,.ip t' cs'=>[t=t',cs=cs']
  | .mp o,.mp o'=>if o==o' then [] else [False]
  | .agg cs,.agg cs'=>pI cs cs'
  | .tup cs,.tup cs'=>pI cs cs'
  | .clo f cs,.clo f' cs'=>if f==f' then pI cs cs' else [False]
  | .cnd g v,.cnd g' v'=>[g=g',AV.cnd g v=.cnd g v']
  | _,.p .any=>[]
  | _,_=>[False]
def pI:List AV→List AV→List Prop
  | [],[]=>[]
  | v::l,v'::l'=>wk v v'++pI l l'
  | _,_=>[False]
end
theorem dk:∀ (l l':List AV),af (pI l l')→l.length=l'.length
  | [],[],_=>rfl
  | v::l,v'::l',h=>by simp only [pI] at h;simp [dk l l' (aL h).2]
  | [],_::_,h=>by simp [pI,af] at h
  | _::_,[],h=>by simp [pI,af] at h
theorem fb:∀ (l l':List AV) (j:Nat),af (pI l l')→j<l.length→af (wk (l.getD j ag) (l'.getD j ag))
  | [],_,j,_,hj=>by simp at hj
  | v::l,v'::l',0,h,_=>by simp only [pI] at h;simpa using (aL h).1
  | v::l,v'::l',j+1,h,hj=>by simp only [pI] at h;simpa using fb l l' j (aL h).2 (by simpa using hj)
  | _::_,[],_,h,_=>by simp [pI,af] at h
theorem Ch {w:World} {own:Bool→Nat→Prop} {t:Bool} {z n:Nat} {f f':Nat→List PV} {x:Value} (h:PR w own (.seq t z n f) x) (hf:∀ i,i<n→f i=f' i):PR w own (.seq t z n f') x:=by
  cases h with
  | seq0 _ _ _ a c=>exact .seq0 _ _ _ _ _
  | seq _ _ _ _ b off c g hb hlt hc hcell hone hp=>exact .seq _ _ _ _ b off c g hb hlt hc hcell hone (fun i hi j hj=>by rw [← hf i hi];exact hp i hi j hj)
theorem DX {w:World} {own:Bool→Nat→Prop} {v v':PV} {x:Value} (h:PR w own v x) (ho:af (CY v v')):PR w own v' x:=by
  unfold CY at ho
  split at ho
  · split at ho
    · rename_i hk
      obtain rfl:=jH hk
      obtain ⟨rfl,_⟩:=ho;exact h
    · exact ho.1.elim
  · obtain ⟨rfl,_⟩:=ho;exact h
  · obtain ⟨rfl,_⟩:=ho;exact h
  · exact h
  · obtain ⟨rfl,_⟩:=ho;cases h;exact .seq0 _ _ _ _ _
  · split at ho
    · rename_i hz
      simp only [Bool.and_eq_true,beq_iff_eq] at hz
      obtain ⟨rfl,rfl⟩:=hz
      obtain ⟨rfl,hf,_⟩:=ho;exact Ch h hf
    · exact ho.1.elim
  · obtain ⟨rfl,_⟩:=ho;exact h
  · exact .any _
  · exact ho.1.elim
theorem wA {w:World} {β:Id→Option Addr} {own:Bool→Nat→Prop} {v:AV} {x:Value} (h:VR w β own v x):∀ v':AV,af (wk v v')→VR w β own v' x:=by
  induction h with
  | p u x hp =>
    intro v' ho
    cases v'<;>simp only [wk] at ho<;>try (exact ho.1.elim)
    · exact .p _ _ (DX hp ho)
    · split at ho
      · obtain ⟨rfl,_⟩:=ho
        cases hp
        exact .ar0 _ _ _ _
      · exact ho.1.elim
  | ar0 z o off a =>
    intro v' ho
    cases v' with
    | ar z' o' off' n' =>
      simp only [wk] at ho
      split at ho
      · rename_i hz
        have hz:z=z':=by simpa using hz
        subst hz
        split at ho
        · rename_i ps hid
          obtain ⟨hp,rfl,rfl,_⟩:=aL ho
          obtain rfl:=tM hid hp
          exact .ar0 _ _ _ _
        · exact ho.1.elim
      · exact ho.1.elim
    | p u=>cases u<;>simp only [wk] at ho<;>first | exact .any _ | exact ho.1.elim
    | _=>simp only [wk] at ho;exact ho.1.elim
  | ar z o off n b base c cells elem fr hβ hh hsz hc =>
    intro v' ho
    cases v' with
    | ar z' o' off' n' =>
      simp only [wk] at ho
      split at ho
      · rename_i hz
        have hz:z=z':=by simpa using hz
        subst hz
        split at ho
        · rename_i ps hid
          obtain ⟨hp,rfl,rfl,_⟩:=aL ho
          obtain rfl:=tM hid hp
          exact .ar _ _ _ _ b base c cells elem fr hβ hh hsz hc
        · exact ho.1.elim
      · exact ho.1.elim
    | p u=>cases u<;>simp only [wk] at ho<;>first | exact .any _ | exact ho.1.elim
    | _=>simp only [wk] at ho;exact ho.1.elim
  | pt z o row off b base hβ =>
    intro v' ho
    cases v' with
    | pt z' o' row' off' =>
      simp only [wk] at ho
      split at ho
      · rename_i hz
        simp only [Bool.and_eq_true,beq_iff_eq] at hz
        obtain ⟨rfl,rfl⟩:=hz
        split at ho
        · rename_i ps hid
          obtain ⟨hp,rfl,_⟩:=aL ho
          obtain rfl:=tM hid hp
          exact .pt _ _ _ _ b base hβ
        · exact ho.1.elim
      · exact ho.1.elim
    | p u=>cases u<;>simp only [wk] at ho<;>first | exact .any _ | exact ho.1.elim
    | _=>simp only [wk] at ho;exact ho.1.elim
  | ip t cs b off g hb hlt hcell hone hp =>
    intro v' ho
    cases v' with
    | ip t' cs' =>
      simp only [wk] at ho
      obtain ⟨rfl,rfl,_⟩:=ho
      exact .ip t cs b off g hb hlt hcell hone hp
    | p u=>cases u<;>simp only [wk] at ho<;>first | exact .any _ | exact ho.1.elim
    | _=>simp only [wk] at ho;exact ho.1.elim
  | mp o b hβ hm =>
    intro v' ho
    cases v' with
    | mp o' =>
      simp only [wk] at ho
      split at ho
      · rename_i hz
        have hz:o=o':=by simpa using hz
        subst hz
        exact .mp _ b hβ hm
      · exact ho.1.elim
    | p u=>cases u<;>simp only [wk] at ho<;>first | exact .any _ | exact ho.1.elim
    | _=>simp only [wk] at ho;exact ho.1.elim
  | agg cs vs hl hone h ih =>
    intro v' ho
    cases v' with
    | agg cs' =>
      simp only [wk] at ho
      have hlen:=dk _ _ ho
      exact .agg _ _ (by omega) (fun j hj=>hone j (by omega)) (fun j hj=>ih j (by omega) _ (fb _ _ j ho (by omega)))
    | p u=>cases u<;>simp only [wk] at ho<;>first | exact .any _ | exact ho.1.elim
    | _=>simp only [wk] at ho;exact ho.1.elim
  | tup cs vs hl h ih =>
    intro v' ho
    cases v' with
    | tup cs' =>
      simp only [wk] at ho
      have hlen:=dk _ _ ho
      exact .tup _ _ (by omega) (fun j hj=>ih j (by omega) _ (fb _ _ j ho (by omega)))
    | p u=>cases u<;>simp only [wk] at ho<;>first | exact .any _ | exact ho.1.elim
    | _=>simp only [wk] at ho;exact ho.1.elim
  | clo f cs vs hl h ih =>
    intro v' ho
    cases v' with
    | clo f' cs' =>
      simp only [wk] at ho
      split at ho
      · rename_i hz
        have hz:f=f':=by simpa using hz
        subst hz
        have hlen:=dk _ _ ho
        exact .clo _ _ _ (by omega) (fun j hj=>ih j (by omega) _ (fb _ _ j ho (by omega)))
      · exact ho.1.elim
    | p u=>cases u<;>simp only [wk] at ho<;>first | exact .any _ | exact ho.1.elim
    | _=>simp only [wk] at ho;exact ho.1.elim
  | cnd g v x h h' ih =>
    intro v' ho
    cases v' with
    | cnd g' v' =>
      simp only [wk] at ho
      obtain ⟨rfl,he,_⟩:=ho
      rw [← he]
      exact .cnd g v x h h'
    | p u=>cases u<;>simp only [wk] at ho<;>first | exact .any _ | exact ho.1.elim
    | _=>simp only [wk] at ho;exact ho.1.elim
def Ea (H:Hp) (keep:List K) (d:Nat):List AV→List AV→List Prop
  | _,[]=>[]
  | [],_::_=>[False]
  | s::l,t::l' =>
    (match t with
     | .p .any=>[]
     | _=>(bh false H keep d s).2++wk (bh false H keep d s).1 t)++Ea H keep d l l'
def eo:List AV→List AV→List Prop
  | [.p (.seq _ z n g)],[.p (.seq _ z' n' g')]=>[z=z',n'≤n,∀ r,r<n'→g r=g' r]
  | _,[]=>[]
  | _,_=>[False]
def JI (H:Hp) (keep:List K) (d:Nat) (ob ob':Ob):List Prop :=
  (match ob'.z with
   | 0=>[ob'.n=ob.n,ob.bx=false,ob'.bx=false]
   | _+1=>[]) ++
  (match ob'.bx with
   | true=>[ob.z=ob'.z,ob'.n≤ob.n,ob'.n≤1]++((ay false H keep d (ob.f 0)).2++pI (ay false H keep d (ob.f 0)).1 (ob'.f 0))
   | false=>[ob.z=ob'.z,ob'.n≤ob.n,∀ i,i<ob'.n→af ((ay false H keep d (ob.f i)).2)∧(ay false H keep d (ob.f i)).1=ob'.f i])
def Fn (ob:Ob):List AV→List Prop
  | [.p (.seq _ z n g)]=>[ob.z=z,n≤ob.n,∀ r,r<n→d7 z (fun j=>toP ((ob.f r).getD j ag))=d7 z (fun j=>(g r).getD j .any)]
  | []=>[]
  | _=>[False]
def JP (fam ob':Ob):List Prop:=match ob'.isF,fam.isF with
  | true,true=>[ob'.n≤fam.n,∀ i,i<ob'.n→af (eo (fam.f i) (ob'.f i))]
  | _,_=>[False]
def JG (fam oa ob':Ob) (k:Nat):List Prop:=match ob'.isF,fam.isF,oa.isF,oa.z with
  | true,true,false,_+1=>[∀ i,i<ob'.n→i≠k→i<fam.n∧af (eo (fam.f i) (ob'.f i)),k<ob'.n→af (Fn oa (ob'.f k))]
  | _,_,_,_=>[False]
def JX (fam ob':Ob) (σ τ:Nat→Nat):List Prop:=match ob'.isF,fam.isF with
  | true,true=>[∀ i,i<ob'.n→σ i<fam.n∧τ (σ i)=i∧af (eo (fam.f (σ i)) (ob'.f i))]
  | _,_=>[False]
def GY (H:Hp) (keep:List K) (d:Nat) (ob':Ob):K→List Prop
  | .pl p=>(match xE H p with
     | some (ob,ps)=>ps++(match ob'.isF with
       | true=>JP ob ob'
       | false=>(match ob.isF with
         | true=>[False]
         | false=>JI H keep d ob ob'))
     | none=>[False])
  | .ins G k a=>(match H.lookup G,H.lookup a with
     | some fam,some oa=>JG fam oa ob' k
     | _,_=>[False])
  | .perm G σ τ=>(match H.lookup G with
     | some fam=>JX fam ob' σ τ
     | none=>[False])
def zG (H:Hp) (keep:List K) (d:Nat):Hp→List Prop
  | []=>[]
  | (k,ob')::r =>
    (match keep[k]? with
     | some p=>GY H keep d ob' p
     | none=>[ob'.n=0])++zG H keep d r
def v4 (n m:Nat) (keep:List K) (H':Hp):Bool:=(List.range n).all fun k=>match keep[k]? with
  | some (.pl p)=>(p.o==k&&p.m.isNone)||((H'.lookup k).isNone&&Nat.ble m p.o)
  | _=>false
def uq (n:Nat) (st:St) (keep:List K) (d:Nat) (st':St):List Prop :=
  (if v4 n st.ctr keep st'.H&&iX ((keep.map K.nums).flatten)&&Nat.ble keep.length st'.ctr&&Nat.ble n st'.ctr&&st'.H.all (fun e=>Nat.blt e.1 st'.ctr) then [] else [False])++Ea st.H keep d st.env st'.env++zG st.H keep d st'.H
theorem yZ {H:Hp} {keep:List K} {d:Nat}:∀ (l l':List AV),af (Ea H keep d l l')→l'.length≤l.length∧∀ j,l'.getD j ag=ag∨(af (bh false H keep d (l.getD j ag)).2∧af (wk (bh false H keep d (l.getD j ag)).1 (l'.getD j ag)))
  | l,[],_=>⟨by simp,fun j=>.inl (by simp)⟩
  | [],t::l',h=>by simp [Ea,af] at h
  | s::l,t::l',h=>by
    simp only [Ea] at h
    obtain ⟨h1,h2⟩:=aL h
    obtain ⟨g1,g2⟩:=yZ l l' h2
    refine ⟨by simpa using g1,fun j=>?_⟩
    cases j with
    | zero =>
      simp only [List.getD_cons_zero]
      split at h1
      · exact .inl rfl
      · exact .inr (aL h1)
    | succ j=>simpa using g2 j
theorem jb {r:List AV} {ob:Ob} (h:bt r=some ob) (i:Nat) {j:Nat} (hj:j<ob.z):∃ v,(ob.f i).getD j ag=.p v:=by
  unfold bt at h
  split at h
  case h_2=>cases h
  rename_i t z n g
  cases h
  exact ⟨(g i).getD j .any,aH _ _ _ _ hj⟩
theorem AW {H:Hp} {keep:List K} {d:Nat}:∀ (H':Hp),af (zG H keep d H')→∀ k ob',H'.lookup k=some ob'→af (zG H keep d [(k,ob')])
  | [],_,k,ob',h=>by simp at h
  | (j,x)::r,ha,k,ob',h=>by
    simp only [zG] at ha
    obtain ⟨h1,h2⟩:=aL ha
    simp only [List.lookup_cons] at h
    by_cases hk:k=j
    · subst hk
      simp only [beq_self_eq_true,Option.some.injEq] at h
      subst h
      simp only [zG]
      rw [bQ] at h1 ⊢
      intro p hp
      exact h1 p (by simpa using hp)
    · have:(k==j)=false:=by simpa using hk
      rw [this] at h
      exact AW r h2 k ob' h
theorem pR {r r':List AV} {ob':Ob} (h:bt r'=some ob') (ha:af (eo r r')) :
    ∃ ob,bt r=some ob∧ob.z=ob'.z∧ob'.n≤ob.n∧ob.bx=false∧ob'.bx=false∧∀ i,i<ob'.n→∀ j,j<ob'.z→(ob.f i).getD j ag=(ob'.f i).getD j ag:=by
  unfold bt at h
  split at h
  case h_2=>cases h
  rename_i t' z' n' g'
  cases h
  match r,ha with
  | [.p (.seq t z n g)],ha =>
    obtain ⟨e1,e2,e3,_⟩:=ha
    subst e1
    refine ⟨_,rfl,rfl,e2,rfl,rfl,fun i hi j hj=>?_⟩
    simp only
    rw [aH _ _ _ _ hj,aH _ _ _ _ hj,e3 i hi]
  | [],ha=>simp [eo,af] at ha
  | _::_::_,ha=>simp [eo,af] at ha
  | [.ar _ _ _ _],ha=>simp [eo,af] at ha
  | [.pt _ _ _ _],ha=>simp [eo,af] at ha
  | [.ip _ _],ha=>simp [eo,af] at ha
  | [.mp _],ha=>simp [eo,af] at ha
  | [.agg _],ha=>simp [eo,af] at ha
  | [.tup _],ha=>simp [eo,af] at ha
  | [.clo _ _],ha=>simp [eo,af] at ha
  | [.cnd _ _],ha=>simp [eo,af] at ha
  | [.p .any],ha=>simp [eo,af] at ha
  | [.p (.int _ _)],ha=>simp [eo,af] at ha
  | [.p (.bool _)],ha=>simp [eo,af] at ha
  | [.p (.str _)],ha=>simp [eo,af] at ha
  | [.p .nil],ha=>simp [eo,af] at ha
  | [.p (.fn _)],ha=>simp [eo,af] at ha
theorem A6 {L H:Hp} (hL:∀ o ob,L.lookup o=some ob→H.lookup o=some ob) {p:Id} {ob:Ob} {ps:List Prop} (h:xE L p=some (ob,ps)) (hps:af ps) (hF:ob.isF=false):eh p none=some p∧lk H p=some ob:=by
  unfold xE at h
  cases hpm:p.m with
  | none =>
    rw [hpm] at h
    simp only at h
    split at h
    case h_2=>cases h
    rename_i ob1 hlo
    simp only [Option.some.injEq,Prod.mk.injEq] at h
    obtain ⟨rfl,_⟩:=h
    obtain ⟨po,pm⟩:=p
    simp only at hpm hlo
    subst hpm
    exact ⟨rfl,dz (hL _ _ hlo) hF⟩
  | some i =>
    rw [hpm] at h
    simp only at h
    refine ⟨?_,fK hL h ((bQ _).1 hps)⟩
    obtain ⟨po,pm⟩:=p
    simp only at hpm
    subst hpm
    rfl
theorem BP {L H:Hp} (hL:∀ o ob,L.lookup o=some ob→H.lookup o=some ob) {p:Id} {ob:Ob} {ps:List Prop} (h:xE L p=some (ob,ps)) (hps:af ps) (hF:ob.isF=true):p.m=none∧H.lookup p.o=some ob:=by
  unfold xE at h
  cases hpm:p.m with
  | none =>
    rw [hpm] at h
    simp only at h
    split at h
    case h_2=>cases h
    rename_i ob1 hlo
    simp only [Option.some.injEq,Prod.mk.injEq] at h
    obtain ⟨rfl,_⟩:=h
    exact ⟨rfl,hL _ _ hlo⟩
  | some i =>
    rw [hpm] at h
    simp only at h
    have:=A1 (fK hL h ((bQ _).1 hps))
    rw [hF] at this
    cases this
theorem B4 {oa:Ob} {r':List AV} {ob':Ob} (h:bt r'=some ob') (ha:af (Fn oa r')) :
    oa.z=ob'.z∧ob'.n≤oa.n∧ob'.bx=false∧∀ i,i<ob'.n→∀ j,j<ob'.z→(ob'.f i).getD j ag=.p (toP ((oa.f i).getD j ag)):=by
  unfold bt at h
  split at h
  case h_2=>cases h
  rename_i t' z' n' g'
  cases h
  obtain ⟨e1,e2,e3,_⟩:=ha
  refine ⟨e1,e2,rfl,fun i hi j hj=>?_⟩
  simp only
  have e4:(d7 z' (fun j=>toP ((oa.f i).getD j ag))).getD j .any=(d7 z' (fun j=>(g' i).getD j .any)).getD j .any:=by rw [e3 i hi]
  rw [aH _ _ _ _ hj,aH _ _ _ _ hj] at e4
  rw [aH _ _ _ _ hj,e4]
theorem oU {p:K} {m:Option Nat} {y:Id} (h:cA p m=some y):y.o∈p.nums:=by
  cases p with
  | pl p=>simp [K.nums,mR h]
  | ins G k a =>
    simp only [cA] at h
    split at h
    · split at h
      · cases h;simp [K.nums]
      · cases h;simp [K.nums]
    · cases h
  | perm G σ τ =>
    simp only [cA] at h
    split at h
    · cases h;simp [K.nums]
    · cases h
theorem o9:∀ {keep:List K} {q q':Nat} {p p':K} {n:Nat},((keep.map K.nums).flatten).Nodup→keep[q]? = some p→keep[q']? = some p'→n∈p.nums→n∈p'.nums→q=q'
  | [],q,q',p,p',n,_,h1,_,_,_=>by simp at h1
  | x::l,q,q',p,p',n,hnd,h1,h2,h3,h4=>by
    simp only [List.map_cons,List.flatten_cons] at hnd
    obtain ⟨_,hl,hd⟩:=List.nodup_append.1 hnd
    have mem:∀ {q:Nat} {p:K},l[q]? = some p→n∈p.nums→n∈(l.map K.nums).flatten:=fun h hn=>List.mem_flatten.2 ⟨_,List.mem_map_of_mem (List.mem_of_getElem? h),hn⟩
    cases q with
    | zero =>
      simp only [List.getElem?_cons_zero,Option.some.injEq] at h1
      subst h1
      cases q' with
      | zero=>rfl
      | succ q'=>exact absurd rfl (hd n h3 n (mem (by simpa using h2) h4))
    | succ q =>
      cases q' with
      | zero =>
        simp only [List.getElem?_cons_zero,Option.some.injEq] at h2
        subst h2
        exact absurd rfl (hd n h4 n (mem (by simpa using h1) h3))
      | succ q'=>exact congrArg (· + 1) (o9 (p:=p) (p':=p') hl (by simpa using h1) (by simpa using h2) h3 h4)
theorem EJ {H:Hp} {keep:List K} {d:Nat} (H':Hp) (ha:af (zG H keep d H')) (x:Id) (ob':Ob) (hx:lk H' x=some ob'):(keep[x.o]? = none∧ob'.n=0)∨∃ p y ob,keep[x.o]? = some p∧cA p x.m=some y∧lk H y=some ob∧ob.z=ob'.z∧ob'.n≤ob.n ∧
    (∀ m' obm,lk H' ⟨x.o,m'⟩=some obm→cA p m'=some y→m'=x.m) ∧
    ((x.m=none∧(∀ i,i<ob'.n→af ((ay false H keep d (ob.f i)).2)∧∀ j,(ay false H keep d (ob.f i)).1.getD j ag=(ob'.f i).getD j ag∨af (wk ((ay false H keep d (ob.f i)).1.getD j ag) ((ob'.f i).getD j ag))) ∧
      (ob'.z=0→ob'.n=ob.n∧ob'.bx=false∧∀ i,i<ob'.n→(ay false H keep d (ob.f i)).1=ob'.f i)) ∨
     (x.m≠none∧(y.m≠none∨ob.z≠0)∧∀ i,i<ob'.n→∀ j,j<ob'.z→(ob'.f i).getD j ag=.p (toP ((ob.f i).getD j ag)))):=by
  unfold lk at hx
  split at hx
  case h_2=>cases hx
  rename_i obe hobe
  have h1:=AW H' ha x.o obe hobe
  simp only [zG] at h1
  obtain ⟨h1,_⟩:=aL h1
  have live:∀ m' obm,lk H' ⟨x.o,m'⟩=some obm→obe.isF=true→∃ i,m'=some i∧i<obe.n:=by
    intro m' obm h hF
    unfold lk at h
    rw [hobe] at h
    cases m' with
    | none=>simp [vw,hF] at h
    | some i =>
      simp only [vw,hF,true_and] at h
      split at h
      · rename_i hi;exact ⟨i,rfl,hi⟩
      · cases h
  have memb:obe.isF=true→∃ i,x.m=some i∧i<obe.n∧bt (obe.f i)=some ob':=by
    intro hF
    cases hxm:x.m with
    | none=>rw [hxm] at hx;simp [vw,hF] at hx
    | some i =>
      rw [hxm] at hx
      simp only [vw,hF,true_and] at hx
      split at hx
      · rename_i hi;exact ⟨i,rfl,hi,hx⟩
      · cases hx
  split at h1
  · rename_i p hkk
    cases p with
    | pl p =>
      simp only [GY] at h1
      split at h1
      · rename_i ob ps hraw
        obtain ⟨hps,h1⟩:=aL h1
        split at h1
        ·
          rename_i hF'
          unfold JP at h1
          rw [hF'] at h1
          cases hF:ob.isF with
          | false=>rw [hF] at h1;exact h1.1.elim
          | true =>
            rw [hF] at h1
            obtain ⟨g1,g2,_⟩:=h1
            obtain ⟨r1,r2⟩:=BP (fun _ _ h=>h) hraw hps hF
            obtain ⟨i,hxm,hi,hx⟩:=memb hF'
            obtain ⟨ob0,e1,e2,e3,e4,e5,e6⟩:=pR hx (g2 i hi)
            have hi2:i<ob.n:=by omega
            rw [hxm]
            refine .inr ⟨.pl p,⟨p.o,some i⟩,ob0,hkk,by simp [cA,eh,r1],by simp [lk,r2,vw,hF,hi2,e1],e2,e3,fun m' obm _ hs=>?_,.inr ⟨by simp,.inl (by simp),fun q hq j hj=>?_⟩⟩
            · simpa [cA,eh,r1] using hs
            · obtain ⟨v,hv⟩:=jb hx q hj
              rw [e6 q hq j hj,hv]
              rfl
        · rename_i hF'
          split at h1
          · exact h1.1.elim
          rename_i hF
          obtain ⟨g1,g2⟩:=a5 hF' hx
          subst g2
          obtain ⟨r1,r2⟩:=A6 (fun _ _ h=>h) hraw hps hF
          unfold JI at h1
          obtain ⟨h0,h1⟩:=aL h1
          have hz:ob'.z=0→ob'.n=ob.n∧ob'.bx=false:=by
            intro hz
            rw [hz] at h0
            exact ⟨h0.1,h0.2.2.1⟩
          have inj:∀ m' obm,lk H' ⟨x.o,m'⟩=some obm→cA (.pl p) m'=some p→m'=x.m:=by
            intro m' obm _ hs
            rw [g1]
            exact wi hs r1
          split at h1
          · rename_i hbx
            obtain ⟨⟨g1',g2,g3,_⟩,g5⟩:=aL h1
            obtain ⟨g6,g7⟩:=aL g5
            refine .inr ⟨.pl p,p,ob,hkk,by rw [g1];exact r1,r2,g1',g2,inj,.inl ⟨g1,fun i hi=>?_,fun h=>by have:=(hz h).2;rw [hbx] at this;cases this⟩⟩
            obtain rfl:i=0:=by omega
            refine ⟨g6,fun j=>?_⟩
            by_cases hj:j<(ay false H keep d (ob.f 0)).1.length
            · exact .inr (fb _ _ j g7 hj)
            · have hl:=dk _ _ g7
              left
              rw [List.getD_eq_getElem?_getD,List.getD_eq_getElem?_getD,List.getElem?_eq_none (by omega),List.getElem?_eq_none (by omega)]
          · obtain ⟨g1',g2,g3,_⟩:=h1
            exact .inr ⟨.pl p,p,ob,hkk,by rw [g1];exact r1,r2,g1',g2,inj,.inl ⟨g1,fun i hi=>⟨(g3 i hi).1,fun j=>.inl (by rw [(g3 i hi).2])⟩,fun h=>⟨(hz h).1,(hz h).2,fun i hi=>(g3 i hi).2⟩⟩⟩
      · exact h1.1.elim
    | ins G k a =>
      simp only [GY] at h1
      split at h1
      case h_2=>exact h1.1.elim
      rename_i fam oa hG hA
      unfold JG at h1
      split at h1
      case h_2=>exact h1.1.elim
      rename_i z0 hF' hFf hFa hz0
      obtain ⟨g1,g2,_⟩:=h1
      obtain ⟨i,hxm,hi,hx⟩:=memb hF'
      rw [hxm]
      have inj:∀ (y:Id) m' obm,lk H' ⟨x.o,m'⟩=some obm→cA (.ins G k a) m'=some y→cA (.ins G k a) (some i)=some y→m'=some i:=by
        intro y m' obm h hs hs'
        obtain ⟨i',rfl,_⟩:=live m' obm h hF'
        simp only [cA] at hs hs'
        rw [← hs] at hs'
        by_cases h1:i=k<;>by_cases h2:i'=k<;>simp [h1,h2] at hs'
        · rw [h1,h2]
        · rw [hs']
      by_cases hik:i=k
      · subst hik
        obtain ⟨e1,e2,e3,e4⟩:=B4 hx (g2 hi)
        exact .inr ⟨.ins G i a,⟨a,none⟩,oa,hkk,by simp [cA],dz hA hFa,e1,e2,fun m' obm h hs=>inj _ m' obm h hs (by simp [cA]),.inr ⟨by simp,.inr (by omega),e4⟩⟩
      · obtain ⟨q1,q2⟩:=g1 i hi hik
        obtain ⟨ob0,e1,e2,e3,e4,e5,e6⟩:=pR hx q2
        refine .inr ⟨.ins G k a,⟨G,some i⟩,ob0,hkk,by simp [cA,hik],by simp [lk,hG,vw,hFf,q1,e1],e2,e3,fun m' obm h hs=>inj _ m' obm h hs (by simp [cA,hik]),.inr ⟨by simp,.inl (by simp),fun q hq j hj=>?_⟩⟩
        obtain ⟨v,hv⟩:=jb hx q hj
        rw [e6 q hq j hj,hv]
        rfl
    | perm G σ τ =>
      simp only [GY] at h1
      split at h1
      case h_2=>exact h1.1.elim
      rename_i fam hG
      unfold JX at h1
      split at h1
      case h_2=>exact h1.1.elim
      rename_i hF' hFf
      obtain ⟨g1,_⟩:=h1
      obtain ⟨i,hxm,hi,hx⟩:=memb hF'
      obtain ⟨q1,q2,q3⟩:=g1 i hi
      rw [hxm]
      obtain ⟨ob0,e1,e2,e3,e4,e5,e6⟩:=pR hx q3
      refine .inr ⟨.perm G σ τ,⟨G,some (σ i)⟩,ob0,hkk,by simp [cA],by simp [lk,hG,vw,hFf,q1,e1],e2,e3,fun m' obm h hs=>?_,.inr ⟨by simp,.inl (by simp),fun q hq j hj=>?_⟩⟩
      · obtain ⟨i',rfl,hi'⟩:=live m' obm h hF'
        simp only [cA,Option.some.injEq,Id.mk.injEq,true_and] at hs
        have:=(g1 i' hi').2.1
        rw [hs,q2] at this
        rw [this]
      · obtain ⟨v,hv⟩:=jb hx q hj
        rw [e6 q hq j hj,hv]
        rfl
  · rename_i hkk
    have hn:obe.n=0:=h1.1
    refine .inl ⟨hkk,?_⟩
    cases hxm:x.m with
    | none =>
      rw [hxm] at hx
      simp only [vw] at hx
      split at hx
      · cases hx
      · cases hx;exact hn
    | some i =>
      rw [hxm] at hx
      simp only [vw] at hx
      split at hx
      · rename_i h;omega
      · cases hx
section
variable {P:Program} {c:Cx} {f:FuncId} {R:Ending→World→Prop}
theorem Rel.conv0 {dom:Nat→Prop} {env env':List AV} {H H':Hp} {a:Act} {w:World} {β:Id→Option Addr} {keep:List K} {d:Nat} (h:Rel c dom env H a w β)
    (hnd:((keep.map K.nums).flatten).Nodup) (hS:af (Ea H keep d env env')) (hH:af (zG H keep d H')) :
    Rel { c with n:=0 } (fun k=>k<keep.length∨H'.lookup k≠none) env' H' a w (cE β keep) ∧
      ∀ (x:AV) (v:Value) (x':AV),VR w β (ow c.X β H) x v→af (bh false H keep d x).2→af (wk (bh false H keep d x).1 x')→VR w (cE β keep) (ow c.X (cE β keep) H') x' v:=by
  have hh:=EJ H' hH
  have cls:∀ b,aU (cE β keep) H' b→∃ (k:Id) (p:K) (y:Id) (ob:Ob) (a:Addr),keep[k.o]? = some p∧cA p k.m=some y∧lk H y=some ob∧β y=some a∧a.block=b:=by
    rintro b ⟨k,ob',a,h1,h2,h3⟩
    rcases hh k ob' h1 with ⟨q1,_⟩ | ⟨p,y,ob,g1,g2,g3,_⟩
    · simp [cE,q1] at h2
    exact ⟨k,p,y,ob,a,g1,g2,g3,(dp (β:=β) g1 g2).symm.trans h2,h3⟩
  have own_own:∀ b,aU (cE β keep) H' b→aU β H b:=by
    intro b hb
    obtain ⟨k,p,y,ob,a,g1,g2,g3,g4,g5⟩:=cls b hb
    exact ⟨y,ob,a,g3,g4,g5⟩
  have hc:∀ t b,ow c.X (cE β keep) H' t b→ow c.X β H t b:=fun t b h=>h.imp (own_own b) id
  have hc':∀ t b,ow c.X (cE β keep) H' true b→ow c.X β H t b:=by
    rintro t b (h | ⟨h,_⟩)
    · exact .inl (own_own b h)
    · cases h
  have hfree:∀ o ob a,lk H o=some ob→iE o keep 0=none→β o=some a→¬ ow c.X (cE β keep) H' false a.block:=by
    rintro o ob a h1 h2 h3 (h' | ⟨_,h'⟩)
    · obtain ⟨k,p,y,ob',a',g1,g2,g3,g4,g5⟩:=cls _ h'
      have:y=o:=h.sep y o ob' ob a' a g3 h1 g4 h3 g5
      subst this
      exact mw keep 0 h2 p (List.mem_of_getElem? g1) k.m g2
    · exact (h.xs _ h').2 ⟨o,ob,a,h1,h3,rfl⟩
  have cv:=fun (x:AV) (v:Value) (hv:VR w β (ow c.X β H) x v) (hb:af (bh false H keep d x).2)=>AY (t:=false) (L:=H) (pass:=keep) h.hr (fun _ _ h=>h) hc hc' hfree d x v hv hb
  have ext:Ext w (ow c.X β H) w (ow c.X (cE β keep) H'):=Ext.sub hc
  obtain ⟨hl,hs⟩:=yZ env env' hS
  refine ⟨⟨?_,?_,fun t=>?_,Nat.le_trans hl h.len,h.dfr,fun k hk'=>?_,h.ext.trans ext,fun b hb=>⟨(h.xs b hb).1,fun ho=>(h.xs b hb).2 (own_own b ho)⟩,fun b hb=>h.own b (own_own b hb),fun k hk'=>?_⟩,?_⟩
  · intro k ob' hk'
    rcases hh k ob' hk' with ⟨q1,q2⟩ | ⟨p,y,ob,g1,gs,g2,g3,g4,_,g56⟩
    · exact .inl ⟨by simp [cE,q1],q2⟩
    have hβ:cE β keep k=β y:=dp g1 gs
    rcases h.hr y ob g2 with h' | ⟨b,base,cells,elem,h1,h2,h3⟩ | ⟨m0,m1,m2,b,es,ck,m3,m4,m5,K,V,m6⟩
    · exact .inl ⟨by rw [hβ];exact h'.1,by omega⟩
    · refine .inr (.inl ⟨b,base,cells,elem,by rw [hβ];exact h1,h2,fun i hi j hj=>?_⟩)
      obtain ⟨v,k1,k2,k3⟩:=h3 i (by omega) j (by omega)
      rw [g3] at k1
      refine ⟨v,k1,k2,?_⟩
      rcases g56 with ⟨_,g5,_⟩ | ⟨_,_,g5⟩
      · obtain ⟨m1,m2⟩:=g5 i hi
        have hcv:=cv _ v k3 (fH false H keep d _ j m1)
        rw [← dm] at hcv
        rcases m2 j with m2 | m2
        · rw [← m2];exact hcv
        · exact wA hcv _ m2
      · rw [g5 i hi j hj]
        have k4:=k3.toP
        cases k4;rename_i k4
        exact .p _ _ (k4.ext ext)
    · rcases g56 with ⟨hxm,_,g6⟩ | ⟨_,hym,_⟩
      · obtain ⟨n1,n2,n3⟩:=g6 (by omega)
        refine .inr (.inr ⟨hxm,by omega,n2,b,es,ck,by rw [hβ];exact m3,m4,by omega,K,V,fun i hi=>⟨?_,(m6 i (by omega)).2⟩⟩)
        rw [← n3 i hi,(m6 i (by omega)).1]
        simp [ay,bh,tg]
      · rcases hym with hym | hym
        · exact absurd m0 hym
        · exact absurd m1 hym
  · intro k k' ob ob' a1 a2 h1 h2 h3 h4 h5
    rcases hh k ob h1 with ⟨q1,_⟩ | ⟨p,y,ob0,g1,g2,g3,_,_,ginj,_⟩
    · simp [cE,q1] at h3
    rcases hh k' ob' h2 with ⟨q1,_⟩ | ⟨p',y',ob0',g1',g2',g3',_⟩
    · simp [cE,q1] at h4
    have e1:β y=some a1:=(dp (β:=β) g1 g2).symm.trans h3
    have e2:β y'=some a2:=(dp (β:=β) g1' g2').symm.trans h4
    have e3:=h.sep y y' ob0 ob0' a1 a2 g3 g3' e1 e2 h5
    subst e3
    have e4:k.o=k'.o:=o9 hnd g1 g1' (oU g2) (oU g2')
    obtain ⟨jo,jm⟩:=k
    obtain ⟨jo',jm'⟩:=k'
    simp only at e4
    subst e4
    simp only at g1 g1' g2' ginj
    rw [g1] at g1'
    cases g1'
    rw [ginj jm' ob' h2 g2']
  · rcases hs t with h' | ⟨h1,h2⟩
    · rw [h'];exact .any _
    · exact wA (cv _ _ (h.ev t) h1) _ h2
  · rcases hk' with hk' | hk'
    · left
      by_cases hlt:k.o<keep.length
      · exact hlt
      · exfalso
        apply hk'
        simp [cE,List.getElem?_eq_none (Nat.le_of_not_lt hlt)]
    · exact .inr hk'
  · exact absurd hk' (Nat.not_lt_zero _)
  · intro x v x' hv h1 h2
    exact wA (cv x v hv h1) x' h2
def i7 (c:Cx) (β:Id→Option Addr) (keep:List K) (k:Id):Option Addr:=if k.o<c.n then c.β0 k else cE β keep k
theorem iw {β β':Id→Option Addr} {H:Hp} (h:∀ k:Id,H.lookup k.o≠none→β k=β' k) (b:Nat):aU β H b↔aU β' H b:=by
  constructor
  · rintro ⟨o,ob,a,h1,h2,h3⟩
    exact ⟨o,ob,a,h1,by rw [← h o (oh h1)];exact h2,h3⟩
  · rintro ⟨o,ob,a,h1,h2,h3⟩
    exact ⟨o,ob,a,h1,by rw [h o (oh h1)];exact h2,h3⟩
theorem Rel.conv {dom:Nat→Prop} {env env':List AV} {H H':Hp} {a:Act} {w:World} {β:Id→Option Addr} {keep:List K} {d m:Nat} (h:Rel c dom env H a w β) (hm:∀ k,m≤k→¬ dom k)
    (hk:v4 c.n m keep H'=true) (hnd:((keep.map K.nums).flatten).Nodup) (hS:af (Ea H keep d env env')) (hH:af (zG H keep d H')) :
    Rel c (fun k=>k<keep.length∨H'.lookup k≠none) env' H' a w (i7 c β keep) ∧
      ∀ (x:AV) (v:Value) (x':AV),VR w β (ow c.X β H) x v→af (bh false H keep d x).2→af (wk (bh false H keep d x).1 x')→VR w (i7 c β keep) (ow c.X (i7 c β keep) H') x' v:=by
  obtain ⟨r,rv⟩:=h.conv0 hnd hS hH
  have hkk:∀ k,k<c.n→keep[k]? = some (.pl ⟨k,none⟩)∨(H'.lookup k=none∧∃ q:Id,keep[k]? = some (.pl q)∧m≤q.o):=by
    intro k hk'
    simp only [v4,List.all_eq_true,List.mem_range] at hk
    have h1:=hk k hk'
    split at h1
    · rename_i p hp
      simp only [Bool.or_eq_true,Bool.and_eq_true,beq_iff_eq,Option.isNone_iff_eq_none,Nat.ble_eq] at h1
      rcases h1 with ⟨h1,h2⟩ | ⟨h1,h2⟩
      · left
        obtain ⟨po,pm⟩:=p
        simp only at h1 h2
        rw [hp,h1,h2]
      · exact .inr ⟨h1,p,hp,h2⟩
    · cases h1
  have fresh:∀ (k q:Id) (a:Addr),keep[k.o]? = some (.pl q)→m≤q.o→cE β keep k=some a→False:=by
    intro k q a h1 h2 hs
    obtain ⟨p,x,g1,g2,g3⟩:=sx hs
    rw [h1] at g1
    cases g1
    have hxo:=mR (p:=q) g2
    exact hm x.o (by omega) (h.dom x (.inl (by rw [g3];simp)))
  have same:∀ k:Id,keep[k.o]? = some (.pl ⟨k.o,none⟩)→cE β keep k=β k:=by
    intro k hk'
    obtain ⟨ko,km⟩:=k
    exact dp hk' rfl
  have sub:∀ k a,cE β keep k=some a→i7 c β keep k=some a:=by
    intro k a hs
    unfold i7
    by_cases hkn:k.o<c.n
    · rw [if_pos hkn]
      rcases hkk k.o hkn with h1 | ⟨_,q,h1,h2⟩
      · rw [← h.init k hkn,← same k h1]
        exact hs
      · exact (fresh k q a h1 h2 hs).elim
    · rw [if_neg hkn];exact hs
  have agree:∀ k:Id,H'.lookup k.o≠none→cE β keep k=i7 c β keep k:=by
    intro k hl
    unfold i7
    by_cases hkn:k.o<c.n
    · rw [if_pos hkn]
      rcases hkk k.o hkn with h1 | ⟨h1,_⟩
      · rw [← h.init k hkn]
        exact same k h1
      · exact absurd h1 hl
    · rw [if_neg hkn]
  have hown:∀ t b,ow c.X (i7 c β keep) H' t b→ow c.X (cE β keep) H' t b:=fun t b hb=>hb.imp (iw agree b).2 id
  have hown2:∀ t b,ow c.X (cE β keep) H' t b→ow c.X (i7 c β keep) H' t b:=fun t b hb=>hb.imp (iw agree b).1 id
  have tr:∀ (x:AV) (v:Value),VR w (cE β keep) (ow c.X (cE β keep) H') x v→VR w (i7 c β keep) (ow c.X (i7 c β keep) H') x v:=fun x v hv=>hv.ext (Ext.sub hown) (fun o a ho=>sub o a ho)
  refine ⟨⟨fun o ob hl=>?_,fun o o' ob ob' a a' h1 h2 h3 h4 h5=>?_,fun t=>tr _ _ (r.ev t),r.len,r.dfr,fun k hk'=>?_,?_,fun b hb=>⟨(r.xs b hb).1,fun ho=>(r.xs b hb).2 ((iw agree b).2 ho)⟩,fun b hb=>r.own b ((iw agree b).2 hb),fun k hk'=>?_⟩,fun x v x' hv h1 h2=>tr _ _ (rv x v x' hv h1 h2)⟩
  · have hb:=agree o (oh hl)
    rcases r.hr o ob hl with h' | ⟨b,base,cells,elem,h1,h2,h3⟩ | ⟨m0,m1,m2,b,es,ck,m3,m4⟩
    · exact .inl ⟨by rw [← hb];exact h'.1,h'.2⟩
    · exact .inr (.inl ⟨b,base,cells,elem,by rw [← hb];exact h1,h2,fun i hi j hj=>by
        obtain ⟨v,k1,k2,k3⟩:=h3 i hi j hj
        exact ⟨v,k1,k2,tr _ _ k3⟩⟩)
    · exact .inr (.inr ⟨m0,m1,m2,b,es,ck,by rw [← hb];exact m3,m4⟩)
  · rw [← agree o (oh h1)] at h3
    rw [← agree o' (oh h2)] at h4
    exact r.sep o o' ob ob' a a' h1 h2 h3 h4 h5
  · rcases hk' with hk' | hk'
    · unfold i7 at hk'
      by_cases hkn:k.o<c.n
      · left
        rcases hkk k.o hkn with h1 | ⟨_,q,h1,_⟩
        · exact (List.getElem?_eq_some_iff.1 h1).1
        · exact (List.getElem?_eq_some_iff.1 h1).1
      · rw [if_neg hkn] at hk'
        exact r.dom k (.inl hk')
    · exact .inr hk'
  · exact r.ext.trans (Ext.sub hown)
  · unfold i7
    rw [if_pos hk']
theorem Cb {k:List Item} {st st':St} (keep:List K) (d:Nat) (hob:af (uq c.n st keep d st')) (hr:Run P c f k st' R):Run P c f k st R:=by
  unfold uq at hob
  obtain ⟨h12,h3⟩:=aL hob
  obtain ⟨h1,h2⟩:=aL h12
  split at h1
  case isFalse=>exact h1.1.elim
  rename_i hz
  simp only [Bool.and_eq_true,Nat.ble_eq,List.all_eq_true,Nat.blt_eq] at hz
  obtain ⟨⟨⟨⟨z1,z2⟩,z3⟩,z4⟩,z5⟩:=hz
  intro hn b cs a w β hb1 hb2 hrel
  obtain ⟨hrel',_⟩:=hrel.conv (m:=st.ctr) (fun k h1 h2=>absurd h2 (by omega)) z1 (fz z2) h2 h3
  refine hr z4 b cs a w _ hb1 hb2 (hrel'.dom_mono (fun k hk=>?_))
  rcases hk with hk | hk
  · omega
  · cases hl:st'.H.lookup k with
    | none=>exact absurd hl hk
    | some ob =>
      have:(k,ob)∈st'.H:=by
        have:=List.lookup_eq_some_iff.1 hl
        obtain ⟨l1,l2,h,_⟩:=this
        rw [h];simp
      exact z5 _ this
end
mutual
def Dm:PV→List Prop
  | .seq t _ n f=>[t=false,∀ i,i<n→af (Gz (f i))]
  | .any=>[]
  | .int _ _=>[]
  | .bool _=>[]
  | .str _=>[]
  | .nil=>[]
  | .fn _=>[]
def Gz:List PV→List Prop
  | []=>[]
  | v::l=>Dm v++Gz l
end
mutual
def xt:AV→List Prop
  | .p v=>Dm v
  | .ar _ _ _ _=>[]
  | .pt _ _ _ _=>[]
  | .ip _ _=>[False]
  | .mp _=>[]
  | .agg cs=>nZ cs
  | .tup cs=>nZ cs
  | .clo _ cs=>nZ cs
  | .cnd _ _=>[False]
def nZ:List AV→List Prop
  | []=>[]
  | v::l=>xt v++nZ l
end
theorem mZ:∀ (l:List PV) (j:Nat),af (Gz l)→af (Dm (l.getD j .any))
  | [],j,_=>by simp [Dm,af]
  | v::l,0,h=>by simp only [Gz] at h;simpa using (aL h).1
  | v::l,j+1,h=>by simp only [Gz] at h;simpa using mZ l j (aL h).2
theorem fm:∀ (l:List AV) (j:Nat),af (nZ l)→af (xt (l.getD j ag))
  | [],j,_=>by simp [xt,Dm,af]
  | v::l,0,h=>by simp only [nZ] at h;simpa using (aL h).1
  | v::l,j+1,h=>by simp only [nZ] at h;simpa using fm l j (aL h).2
section
variable {X:Nat→Prop} {w:World} {β:Id→Option Addr} {H:Hp}
theorem D5 {v:PV} {x:Value} (h:PR w (ow X β H) v x):af (Dm v)→PR w (fr X β H) v x:=by
  induction h with
  | any x=>exact fun _=>.any x
  | int k n=>exact fun _=>.int k n
  | bool b=>exact fun _=>.bool b
  | str s=>exact fun _=>.str s
  | nil=>exact fun _=>.nil
  | seq0 t z f a c=>exact fun _=>.seq0 _ _ _ _ _
  | seq t z n f b off c g hb hlt hc hcell hone h ih =>
    intro ho
    simp only [Dm] at ho
    obtain ⟨rfl,ho,_⟩:=ho
    exact .seq _ _ _ _ b off c g (fun h=>h.elim (fun h=>by cases h) hb) hlt hc hcell hone (fun i hi j hj=>ih i hi j hj (mZ _ j (ho i hi)))
  | fn f=>exact fun _=>.fn f
theorem AQ {v:AV} {x:Value} (h:VR w β (ow X β H) v x):af (xt v)→VR w β (fr X β H) v x:=by
  induction h with
  | p v x h=>exact fun ho=>.p _ _ (D5 h ho)
  | ar0 z o off a=>exact fun _=>.ar0 _ _ _ _
  | ar z o off n b base c cells elem fr hβ hh hsz hc=>exact fun _=>.ar _ _ _ _ b base c cells elem fr hβ hh hsz hc
  | pt z o row off b base hβ=>exact fun _=>.pt _ _ _ _ b base hβ
  | ip t cs b off g hb hlt hcell hone hp=>intro ho;simp only [xt] at ho;exact ho.1.elim
  | mp o b hβ hm=>exact fun _=>.mp _ b hβ hm
  | agg cs vs hl hone h ih=>intro ho;simp only [xt] at ho;exact .agg _ _ hl hone (fun j hj=>ih j hj (fm _ j ho))
  | tup cs vs hl h ih=>intro ho;simp only [xt] at ho;exact .tup _ _ hl (fun j hj=>ih j hj (fm _ j ho))
  | clo f cs vs hl h ih=>intro ho;simp only [xt] at ho;exact .clo _ _ _ hl (fun j hj=>ih j hj (fm _ j ho))
  | cnd g v x h h' ih=>intro ho;simp only [xt] at ho;exact ho.1.elim
end
def ao:Code→List Nat→Code
  | c,[]=>c
  | .seq a _,0::p=>ao a p
  | .seq _ b,_::p=>ao b p
  | .cond _ a _,0::p=>ao a p
  | .cond _ _ b,_::p=>ao b p
  | .block _ a,_::p=>ao a p
  | .loop a,_::p=>ao a p
  | .scope a,_::p=>ao a p
  | c,_=>c
def dw (P:Program) (env:List AV) (H:Hp):List ResultVar→Option (List AV×List Prop)
  | []=>some ([],[])
  | .tmp t::r=>(dw P env H r).map fun x=>(env.getD t ag::x.1,x.2)
  | .cell a t::r =>
    match pB P H t (env.getD a ag) with
    | some e=>(dw P env H r).map fun x=>(e.v::x.1,e.ob++x.2)
    | none=>none
def GA (P:Program) (env:List AV) (H:Hp) (rs:List ResultVar):Option (AV×List Prop) :=
  (dw P env H rs).map fun x=>(match x.1 with | [v]=>v | vs=>.tup vs,x.2)
def GQ:Hp→List Prop
  | []=>[]
  | (_,ob)::r=>(∀ i,i<ob.n→af (nZ (ob.f i)))::GQ r
theorem Be:∀ (l:Hp),af (GQ l)→∀ (k:Nat) (ob:Ob),l.lookup k=some ob→∀ i,i<ob.n→af (nZ (ob.f i))
  | [],_,k,ob,h=>by simp at h
  | (j,y)::r,ha,k,ob,h=>by
    simp only [List.lookup_cons] at h
    by_cases hkj:k=j
    · subst hkj
      simp only [beq_self_eq_true,Option.some.injEq] at h
      subst h
      exact ha.1
    · have:(k==j)=false:=by simpa using hkj
      rw [this] at h
      exact Be r ha.2 k ob h
theorem DN {l:Hp} (ha:af (GQ l)) {x:Id} {ob:Ob} (h:lk l x=some ob) (i:Nat) (hi:i<ob.n) (j:Nat) (hj:j<ob.z):af (xt ((ob.f i).getD j ag)):=by
  unfold lk at h
  split at h
  case h_2=>cases h
  rename_i obe hobe
  have h1:=Be l ha x.o obe hobe
  cases hxm:x.m with
  | none =>
    rw [hxm] at h
    simp only [vw] at h
    split at h
    · cases h
    · cases h
      exact fm _ j (h1 i hi)
  | some q =>
    rw [hxm] at h
    simp only [vw] at h
    split at h
    case isFalse=>cases h
    rename_i hq
    have h2:=h1 q hq.2
    unfold bt at h
    split at h
    case h_2=>cases h
    rename_i t z n g hrow
    cases h
    rw [hrow] at h2
    simp only [nZ,xt,Dm,List.append_nil] at h2
    simp only at hi hj ⊢
    rw [aH _ _ _ _ hj]
    simp only [xt]
    exact mZ _ j (h2.2.1 i hi)
def vD (n:Nat) (P:Program) (rs:List ResultVar) (st:St) (keep:List K) (d:Nat) (H':Hp) (res:AV):List Prop :=
  match GA P st.env st.H rs with
  | some x =>
    (if v4 n st.ctr keep H'&&iX ((keep.map K.nums).flatten)&&Nat.ble keep.length (n+32) then [] else [False])++x.2++(bh false st.H keep d x.1).2++wk (bh false st.H keep d x.1).1 res++zG st.H keep d H'++xt res++GQ H'
  | none=>[False]
def aS (c:Cx) (H':Hp) (res:AV):Ending→World→Prop:=fun e w'=>∃ v β',e=.returned v∧HR w' β' (fr c.X β' H') H'∧Sep β' H'∧VR w' β' (fr c.X β' H') res v ∧
  Ext c.w0 (ow c.X c.β0 c.H0) w' (ow c.X β' H')∧(∀ o:Id,o.o<c.n→β' o=c.β0 o)∧(∀ b,aU β' H' b→aU c.β0 c.H0 b∨c.w0.heap.size≤b)∧∀ k,β' k≠none→k.o<c.n+32
section
variable {P:Program} {c:Cx} {f:FuncId}
def tQ (tmps:Array Value):ResultVar→Sem Value
  | .tmp t=>pure (tmps.getD t undef)
  | .cell at_ t=>do loadVar t (← asAddr (tmps.getD at_ undef))
theorem je {dom:Nat→Prop} {env:List AV} {H:Hp} {a:Act} {w:World} {β:Id→Option Addr} (h:Rel c dom env H a w β):∀ (rs:List ResultVar) (vs:List AV) (ob:List Prop),dw P env H rs=some (vs,ob)→(∀ p∈ob,p) →
    ∃ xs:List Value,(rs.mapM (tQ a.tmps):Sem (List Value)).run P w=.ok xs w∧vs.length=xs.length ∧
      ∀ j,j<vs.length→VR w β (ow c.X β H) (vs.getD j ag) (xs.getD j undef)
  | [],vs,ob,hr,_=>by
    simp only [dw,Option.some.injEq,Prod.mk.injEq] at hr
    obtain ⟨rfl,rfl⟩:=hr
    exact ⟨[],by simp,rfl,fun j hj=>by simp at hj⟩
  | .tmp t::r,vs,ob,hr,hob=>by
    simp only [dw] at hr
    cases hr2:dw P env H r with
    | none=>rw [hr2] at hr;cases hr
    | some x =>
      rw [hr2] at hr
      simp only [Option.map_some,Option.some.injEq,Prod.mk.injEq] at hr
      obtain ⟨rfl,rfl⟩:=hr
      obtain ⟨xs,g1,g2,g3⟩:=je h r x.1 x.2 hr2 hob
      refine ⟨a.tmps.getD t undef::xs,by simp only [List.mapM_cons,tQ,Sem.run_bind,Sem.run_pure,Result.andThen_ok,g1],by simp [g2],fun j hj=>?_⟩
      cases j with
      | zero=>simpa using h.ev t
      | succ j=>simpa using g3 j (by simpa using hj)
  | .cell at_ t::r,vs,ob,hr,hob=>by
    simp only [dw] at hr
    split at hr
    case h_2=>cases hr
    rename_i e he
    cases hr2:dw P env H r with
    | none=>rw [hr2] at hr;cases hr
    | some x =>
      rw [hr2] at hr
      simp only [Option.map_some,Option.some.injEq,Prod.mk.injEq] at hr
      obtain ⟨rfl,rfl⟩:=hr
      obtain ⟨xs,g1,g2,g3⟩:=je h r x.1 x.2 hr2 (fun p hp=>hob p (List.mem_append_right _ hp))
      obtain ⟨_,v,h1,h2⟩:=oE (P:=P) h.hr h.sep (fun _ _ h=>h) he (fun p hp=>hob p (List.mem_append_left _ hp)) (h.ev at_)
      have h1':(do loadVar t (← asAddr (a.tmps.getD at_ undef)):Sem Value).run P w=.ok v w:=by
        generalize a.tmps.getD at_ undef=y at h1
        cases y with
        | pointer p =>
          cases p with
          | none=>simp [Instr.loadAt,Instr.sureAddr] at h1
          | some p=>simpa [Instr.loadAt,Instr.sureAddr,asAddr] using h1
        | _=>simp [Instr.loadAt,Instr.sureAddr] at h1
      refine ⟨v::xs,by
        rw [List.mapM_cons,Sem.run_bind]
        show ((do loadVar t (← asAddr (a.tmps.getD at_ undef)):Sem Value).run P w).andThen _=_
        rw [h1']
        simp only [Sem.run_bind,Sem.run_pure,Result.andThen_ok,g1],by simp [g2],fun j hj=>?_⟩
      cases j with
      | zero=>simpa using h2
      | succ j=>simpa using g3 j (by simpa using hj)
theorem BY {st:St} {a:Act} {w:World} {β:Id→Option Addr} {fn:Func} {keep:List K} {d:Nat} {H':Hp} {res:AV} (h:Rel c (fun k=>k<st.ctr) st.env st.H a w β)
    (hob:af (vD c.n P fn.results.toList st keep d H' res)):∃ v,(results fn a.tmps).run P w=.ok v w∧aS c H' res (.returned v) w:=by
  unfold vD at hob
  split at hob
  case h_2=>exact hob.1.elim
  rename_i x hx
  obtain ⟨hob,o7⟩:=aL hob
  obtain ⟨hob,o6⟩:=aL hob
  obtain ⟨hob,o5⟩:=aL hob
  obtain ⟨hob,o4⟩:=aL hob
  obtain ⟨hob,o3⟩:=aL hob
  obtain ⟨o1,o2⟩:=aL hob
  split at o1
  case isFalse=>exact o1.1.elim
  rename_i hz
  simp only [Bool.and_eq_true,Nat.ble_eq] at hz
  obtain ⟨⟨z1,z2⟩,z3⟩:=hz
  unfold GA at hx
  cases hr:dw P st.env st.H fn.results.toList with
  | none=>rw [hr] at hx;cases hx
  | some y =>
    rw [hr] at hx
    simp only [Option.map_some,Option.some.injEq] at hx
    subst hx
    obtain ⟨xs,g1,g2,g3⟩:=je (P:=P) h _ y.1 y.2 hr ((bQ _).1 o2)
    obtain ⟨hrel,hval⟩:=h.conv (H':=H') (env':=[]) (keep:=keep) (d:=d) (m:=st.ctr) (fun k h1 h2=>absurd h2 (by omega)) z1 (fz z2) (by cases st.env<;>exact trivial) o5
    have hrun:(results fn a.tmps).run P w=.ok (if h:xs.toArray.size=1 then xs.toArray[0] else .tuple xs.toArray) w:=by
      have hfun:results fn a.tmps=(do let vs ← fn.results.mapM (tQ a.tmps);pure (if h:vs.size=1 then vs[0] else .tuple vs)):=rfl
      rw [hfun,Array.mapM_eq_mapM_toList]
      simp only [Sem.run_bind,Sem.run_map,Result.andThen_ok,Sem.run_pure,g1]
    refine ⟨_,hrun,?_⟩
    have hv:VR w β (ow c.X β st.H) (match y.1 with | [v]=>v | vs=>.tup vs) (if h:xs.toArray.size=1 then xs.toArray[0] else .tuple xs.toArray):=by
      split
      · rename_i v hv
        rw [hv] at g2 g3
        have h1:xs.toArray.size=1:=by simpa using g2.symm
        rw [dif_pos h1]
        have:=g3 0 (by simp)
        cases xs with
        | nil=>simp at g2
        | cons x xs=>simpa using this
      · rename_i hne
        have h1:¬ xs.toArray.size=1:=by
          intro h1
          have:y.1.length=1:=by rw [g2];simpa using h1
          obtain ⟨v,hv⟩:=List.length_eq_one_iff.1 this
          exact hne v hv
        rw [dif_neg h1]
        exact .tup _ _ (by simpa using g2) (fun j hj=>by
          have:=g3 j hj
          simpa [Array.getD_eq_getD_getElem?,List.getD_eq_getElem?_getD] using this)
    have hres:=hval _ _ res hv o3 o4
    refine ⟨_,i7 c β keep,rfl,?_,hrel.sep,AQ hres o6,hrel.ext,hrel.init,hrel.own,fun k hk=>?_⟩
    · intro k ob hk
      rcases hrel.hr k ob hk with h' | ⟨b,base,cells,elem,h1,h2,h3⟩ | h'
      · exact .inl h'
      · refine .inr (.inl ⟨b,base,cells,elem,h1,h2,fun i hi j hj=>?_⟩)
        obtain ⟨v,k1,k2,k3⟩:=h3 i hi j hj
        exact ⟨v,k1,k2,AQ k3 (DN o7 hk i hi j hj)⟩
      · exact .inr (.inr h')
    · unfold i7 at hk
      by_cases hkn:k.o<c.n
      · omega
      · rw [if_neg hkn] at hk
        have:k.o<keep.length:=by
          by_cases hlt:k.o<keep.length
          · exact hlt
          · exfalso
            apply hk
            simp [cE,List.getElem?_eq_none (Nat.le_of_not_lt hlt)]
        omega
theorem Dq {fn:Func} (hf:P.funcs[f]? = some fn) {k:List Item} (hk:k=[]∨∃ k',k=.code .ret::k') {st:St} {keep:List K} {d:Nat} {H':Hp} {res:AV}
    (hob:af (vD c.n P fn.results.toList st keep d H' res)):Run P c f k st (aS c H' res):=by
  intro hn b cs a w β h1 h2 hrel
  obtain ⟨v,hr,hp⟩:=BY hrel hob
  rcases hk with rfl | ⟨k',rfl⟩
  · exact ⟨.returned v,w,_,hp,.one step_end,h1,rfl,hrel.dfr,h2,fn,by rw [← h1] at hf;exact hf,hr⟩
  · exact ⟨.returned v,w,_,hp,.one step_ret,h1,rfl,hrel.dfr,h2,fn,by rw [← h1] at hf;exact hf,hr⟩
theorem tU {fn:Func} {code:Code} (hf:P.funcs[f]? = some fn) (hb:fn.body=some code) (hen:cT P f=true) {n:Nat} {H H':Hp} {args:List AV} {res:AV}
    (hkeys:(H.all fun e=>Nat.blt e.1 n)=true)
    (hrun:∀ c:Cx,c.n=n→Run P c f [.code code] ⟨args++List.replicate (fn.ntmps - args.length) ag,H,n⟩ (aS c H' res)):Con P f n H args H' res:=by
  refine ⟨hen,fun w β X vals hX hHR hSep hdom hlen hargs=>?_⟩
  have hrel:Rel ⟨n,X,w,β,H⟩ (fun k=>k<n) (args++List.replicate (fn.ntmps - args.length) ag) H { tmps:=vals++Array.replicate (fn.ntmps - vals.size) undef,defers:=[] } w β:=by
    refine ⟨hHR,hSep,fun t=>?_,by simp [hlen],rfl,fun k hk=>?_,.refl _ _,hX,fun b hb=>.inl hb,fun _ _=>rfl⟩
    · by_cases ht:t<args.length
      · have e1:(args++List.replicate (fn.ntmps - args.length) ag).getD t ag=args.getD t ag:=by
          simp [List.getD_eq_getElem?_getD,List.getElem?_append_left ht]
        have e2:(vals++Array.replicate (fn.ntmps - vals.size) undef).getD t undef=vals.getD t undef:=by
          simp [Array.getD_eq_getD_getElem?,Array.getElem?_append_left (show t<vals.size by omega)]
        simp only [e1,e2]
        exact hargs t ht
      · have e1:(args++List.replicate (fn.ntmps - args.length) ag).getD t ag=ag:=by
          rw [List.getD_eq_getElem?_getD,List.getElem?_append_right (by omega),List.getElem?_replicate]
          split<;>rfl
        rw [e1]
        exact .any _
    · rcases hk with hk | hk
      · exact hdom k hk
      · cases hl:H.lookup k.o with
        | none=>exact absurd hl hk
        | some ob =>
          obtain ⟨l1,l2,h,_⟩:=List.lookup_eq_some_iff.1 hl
          simp only [List.all_eq_true,Nat.blt_eq] at hkeys
          exact hkeys (k.o,ob) (by rw [h];simp)
  intro cs
  let b:Frame:={ (default:Frame) with fn:=f,kind:=.normal }
  have henter:Frame.enter P f vals .normal=b.at { tmps:=vals++Array.replicate (fn.ntmps - vals.size) undef,defers:=[] } [.code code]:=by
    simp [Frame.enter,Frame.at,hf,hb,b]
  obtain ⟨e,w',fr,g1,g2,g3,g4⟩:=hrun ⟨n,X,w,β,H⟩ rfl (Nat.le_refl _) b cs _ w β rfl rfl hrel
  rw [henter]
  refine ⟨e,w',fr,?_,g2,g3,g4⟩
  obtain ⟨v,β',p1,p2,p3,p4,p5,p6,p7,p8⟩:=g1
  refine ⟨v,β',p1,p2,p3,p4,p5,fun o a ho=>?_,p7,fun k hk=>?_⟩
  · rw [p6 o (hdom o (by rw [ho];simp))];exact ho
  · by_cases hkn:k.o<n
    · left
      have:=p6 k hkn
      simp only at this
      rw [← this]
      exact hk
    · exact .inr ⟨by omega,p8 k hk⟩
end
def ab (fn:Func):Code:=fn.body.getD .skip
def oT:OpS:=⟨true,none,none⟩
def oF:OpS:=⟨false,none,none⟩
def C2:List Item→Bool
  | []=>true
  | .code .ret::_=>true
  | _=>false
def start (fn:Func) (H:Hp) (n:Nat) (args:List AV):St:=⟨args++List.replicate (fn.ntmps - args.length) ag,H,n⟩
def kF (P:Program) (fn:Func) (n:Nat) (sc:List ScI) (k:List Item) (st:St) (keep:List K) (d:Nat) (H':Hp) (res:AV):Option (List Prop) :=
  match dH P 10000 sc k st with
  | some (k',st',ob)=>if C2 k' then some (ob++vD n P fn.results.toList st' keep d H' res) else none
  | none=>none
def ij (P:Program) (n:Nat) (sc:List ScI) (k:List Item) (st:St) (keep:List K) (d:Nat) (st2:St):Option (List Item×List Prop) :=
  match dH P 10000 sc k st with
  | some (k',st',ob)=>some (k',ob++uq n st' keep d st2)
  | none=>none
section
variable {P:Program} {c:Cx} {f:FuncId} {R:Ending→World→Prop}
theorem vt {fn:Func} {n:Nat} {sc:List ScI} {k:List Item} {st:St} {keep:List K} {d:Nat} {H':Hp} {res:AV} {ob:List Prop} (hm:P.follows .mixedOrders=true) (hf:P.funcs[f]? = some fn) (hc:c.n=n)
    (h:kF P fn n sc k st keep d H' res=some ob) (hob:af ob):Run P c f k st (aS c H' res):=by
  unfold kF at h
  split at h
  case h_2=>cases h
  rename_i k' st' ob' hr
  split at h
  case isFalse=>cases h
  rename_i hret
  simp only [Option.some.injEq] at h
  subst h
  obtain ⟨h1,h2⟩:=aL hob
  refine qZ hm _ _ _ _ _ _ _ hr ((bQ _).1 h1) (Dq hf ?_ (by rw [hc];exact h2))
  unfold C2 at hret
  split at hret
  · exact .inl rfl
  · exact .inr ⟨_,rfl⟩
  · cases hret
theorem sL {n:Nat} {sc:List ScI} {k k2:List Item} {st st2:St} {keep:List K} {d:Nat} {ob:List Prop} (hm:P.follows .mixedOrders=true) (hc:c.n=n)
    (h:ij P n sc k st keep d st2=some (k2,ob)) (hob:af ob) (hr:Run P c f k2 st2 R):Run P c f k st R:=by
  unfold ij at h
  split at h
  case h_2=>cases h
  rename_i k' st' ob' hr'
  simp only [Option.some.injEq,Prod.mk.injEq] at h
  obtain ⟨rfl,rfl⟩:=h
  obtain ⟨h1,h2⟩:=aL hob
  exact qZ hm _ _ _ _ _ _ _ hr' ((bQ _).1 h1) (Cb keep d (by rw [hc];exact h2) hr)
theorem yw {fn:Func} (hf:P.funcs[f]? = some fn) (hb:fn.body=some (ab fn)) (hen:cT P f=true) {n:Nat} {H H':Hp} {args:List AV} {res:AV}
    (hkeys:(H.all fun e=>Nat.blt e.1 n)=true) (hrun:∀ c:Cx,c.n=n→Run P c f [.code (ab fn)] (start fn H n args) (aS c H' res)):Con P f n H args H' res :=
  tU hf hb hen hkeys hrun
end
inductive Sh where
  | int (k:IntKind)
  | bool
  | str
  | st (l:List Sh)
  | sl (s:Sh)
mutual
def Sh.z:Sh→Nat
  | .int _=>1
  | .bool=>1
  | .str=>1
  | .st l=>zL l
  | .sl _=>1
def zL:List Sh→Nat
  | []=>0
  | s::l=>s.z+zL l
end
mutual
def Sh.T:Sh→Type
  | .int _=>Int
  | .bool=>Bool
  | .str=>ByteArray
  | .st l=>TL l
  | .sl s=>Nat×(Nat→s.T)
def TL:List Sh→Type
  | []=>Unit
  | s::l=>s.T×TL l
end
mutual
def G1:(s:Sh)→s.T
  | .int _=>(0:Int)
  | .bool=>false
  | .str=>ByteArray.empty
  | .st l=>Gt l
  | .sl s=>((0:Nat),fun _=>G1 s)
def Gt:(l:List Sh)→TL l
  | []=>()
  | s::l=>(G1 s,Gt l)
end
mutual
def Dd:(s:Sh)→s.T→List PV
  | .int k,n=>[.int k n]
  | .bool,b=>[.bool b]
  | .str,x=>[.str x]
  | .st l,v=>BD l v
  | .sl s,v=>[.seq true s.z v.1 fun i=>Dd s (v.2 i)]
def BD:(l:List Sh)→TL l→List PV
  | [],_=>[]
  | s::l,v=>Dd s v.1++BD l v.2
end
mutual
def uk:(s:Sh)→s.T→Prop
  | .int k,n=>lv k≤(show Int from n)∧(show Int from n)≤jF k
  | .bool,_=>True
  | .str,x=>(show ByteArray from x).size≤9223372036854775807
  | .st l,v=>ER l v
  | .sl s,v=>v.1≤9223372036854775807∧∀ i,i<v.1→uk s (v.2 i)
def ER:(l:List Sh)→TL l→Prop
  | [],_=>True
  | s::l,v=>uk s v.1∧ER l v.2
end
mutual
def iF (P:Program):Sh→TypeId→Bool
  | .int k,t=>match P.underlying t with | some (.int k')=>lC k k' | _=>false
  | .bool,t=>match P.underlying t with | some .bool=>true | _=>false
  | .str,t=>match P.underlying t with | some .string=>true | _=>false
  | .st l,t=>match P.underlying t with | some (.struct fs)=>P.cellsOf t==zL l&&rR P l fs.toList 0 | _=>false
  | .sl s,t=>match P.underlying t with | some (.slice e)=>P.cellsOf e==s.z&&Nat.blt 0 s.z&&iF P s e | _=>false
def rR (P:Program):List Sh→List Field→Nat→Bool
  | [],[],_=>true
  | s::l,f::fs,off=>f.offset==off&&P.cellsOf f.type==s.z&&iF P s f.type&&rR P l fs (off+s.z)
  | _,_,_=>false
end
def no:Bool→Nat→Prop:=ow (fun _=>False) (fun _=>none) []
theorem C1 {t:Bool} {b:Nat}:¬ no t b:=by
  rintro (⟨o,ob,a,h,_⟩ | ⟨_,h⟩)
  · simp [lk] at h
  · exact h
inductive Rd (w:World):List PV→List Value→Prop
  | nil:Rd w [] []
  | cons {v:PV} {x:Value} {l:List PV} {r:List Value} (h:PR w no v x) (h1:One x) (hr:Rd w l r):Rd w (v::l) (x::r)
theorem Rd.append {w:World} {a b:List PV} {c d:List Value} (h:Rd w a c) (h':Rd w b d):Rd w (a++b) (c++d):=by
  induction h with
  | nil=>exact h'
  | cons h h1 hr ih=>exact .cons h h1 ih
theorem Rd.length {w:World} {a:List PV} {c:List Value} (h:Rd w a c):a.length=c.length:=by
  induction h with
  | nil=>rfl
  | cons h h1 hr ih=>simp [ih]
theorem Rd.get {w:World} {a:List PV} {c:List Value} (h:Rd w a c):∀ j,j<c.length→PR w no (a.getD j .any) (c.getD j undef)∧One (c.getD j undef):=by
  induction h with
  | nil=>intro j hj;simp at hj
  | cons h h1 hr ih =>
    intro j hj
    cases j with
    | zero=>exact ⟨h,h1⟩
    | succ j=>simpa using ih j (by simpa using hj)
section
variable {H:Type} {enc:TypeId×Value→H} {P:Program} {w:World} {base:Nat} {spare:Nat→Bool} {held:Bool}
theorem wm {b o x y:Nat}:((⟨b,o,none⟩:Addr).add x).add y=⟨b,o+(x+y),none⟩:=by
  unfold Addr.add
  split<;>split<;>simp_all<;>omega
theorem xx {a:Addr} {v:Value} (h:w.cell? a=some v):a.spot=none∧a.block<w.heap.size:=by
  unfold World.cell? at h
  split at h
  · rename_i c e f hb
    split at h
    · cases h
    · rename_i hs
      refine ⟨by simpa using hs,?_⟩
      exact (Array.getElem?_eq_some_iff.1 hb).1
  · cases h
mutual
theorem Ce:(s:Sh)→∀ (t:TypeId) (fuel:Nat) (cs:List Value) (x:DataW H×List MemPlace),iF P s t=true→DataW.trod enc P w base spare held fuel t cs=some x→∃ v:s.T,uk s v∧Rd w (Dd s v) cs
  | .int k,t,fuel,cs,x,hf,h=>by
    simp only [iF] at hf
    split at hf
    case h_2=>cases hf
    rename_i k' hu
    obtain rfl:=jH hf
    obtain ⟨n,rfl,_,hw⟩:=DataW.trod_int hu h
    refine ⟨n,?_,.cons (.int _ _) rfl .nil⟩
    simp only [Lit.wf,Bool.and_eq_true,decide_eq_true_eq] at hw
    cases k<;>exact hw
  | .bool,t,fuel,cs,x,hf,h=>by
    simp only [iF] at hf
    split at hf
    case h_2=>cases hf
    rename_i hu
    obtain ⟨b,rfl,_⟩:=DataW.trod_bool hu h
    exact ⟨b,by simp [uk],.cons (.bool _) rfl .nil⟩
  | .str,t,fuel,cs,x,hf,h=>by
    simp only [iF] at hf
    split at hf
    case h_2=>cases hf
    rename_i hu
    obtain ⟨b,rfl,_,hm⟩:=DataW.trod_string hu h
    exact ⟨b,by simpa [uk,maxLen] using hm,.cons (.str _) rfl .nil⟩
  | .st l,t,fuel,cs,x,hf,h=>by
    simp only [iF] at hf
    split at hf
    case h_2=>cases hf
    rename_i fs hu
    simp only [Bool.and_eq_true,beq_iff_eq] at hf
    obtain ⟨xs,n,rfl,rfl,hl,hxs,hall⟩:=DataW.trod_struct hu h
    obtain ⟨v,h1,h2⟩:=Dl l fs.toList 0 n cs hf.2 (by omega) (fun i f hi=>by
      have hi':fs[i]? = some f:=by simpa using hi
      have:=hall i f hi'
      have hlt:i<xs.length:=by
        rw [hxs]
        exact (Array.getElem?_eq_some_iff.1 hi').1
      exact ⟨xs[i],by rw [this,List.getElem?_eq_getElem hlt]⟩)
    exact ⟨v,by simpa [uk] using h1,by simpa [Dd] using h2⟩
  | .sl s,t,fuel,cs,x,hf,h=>by
    simp only [iF] at hf
    split at hf
    case h_2=>cases hf
    rename_i e hu
    simp only [Bool.and_eq_true,beq_iff_eq] at hf
    obtain ⟨⟨hz,hpos⟩,hf⟩:=hf
    have hpos:0<s.z:=Nat.le_of_ble_eq_true hpos
    rcases DataW.trod_slice hu h with ⟨rfl,_⟩ | ⟨a,len,cap,elems,rest,n,rfl,rfl,rfl,hb,hl,hm,hlen,hel,_⟩
    · exact ⟨((0:Nat),fun _=>G1 s),by simp [uk],.cons (.seq0 _ _ _ _ _) rfl .nil⟩
    · have key:∀ i,∃ y:s.T×List Value,i<len→w.cells? base (a.add (i*s.z)) s.z=some y.2∧uk s y.1∧Rd w (Dd s y.1) y.2:=by
        intro i
        by_cases hi:i<len
        · have hx:=hel i hi
          rw [List.getElem?_eq_getElem (by omega)] at hx
          obtain ⟨cs',h1,h2⟩:=Option.bind_eq_some_iff.1 hx
          obtain ⟨v,h3,h4⟩:=Ce s e n cs' _ hf h2
          exact ⟨(v,cs'),fun _=>⟨by rw [← hz];exact h1,h3,h4⟩⟩
        · exact ⟨(G1 s,[]),fun h=>absurd h hi⟩
      obtain ⟨F,hF⟩:=Classical.axiomOfChoice key
      refine ⟨((len:Nat),fun i=>(F i).1),⟨?_,fun i hi=>(hF i hi).2.1⟩,.cons ?_ rfl .nil⟩
      · have:maxLen=9223372036854775807:=rfl
        show len≤9223372036854775807
        omega
      · cases hl0:len with
        | zero=>exact .seq0 _ _ _ _ _
        | succ l' =>
          rw [← hl0]
          have h0:=(hF 0 (by omega)).1
          obtain ⟨_,hcl,hcell⟩:=World.cells?_some h0
          have hc0:=hcell 0 hpos
          rw [List.getElem?_eq_getElem (by omega)] at hc0
          obtain ⟨hs,hlt⟩:=xx hc0
          obtain ⟨b,o,sp⟩:=a
          have hb':∀ q,((⟨b,o,sp⟩:Addr).add q).block=b:=by intro q;unfold Addr.add;split<;>rfl
          have hsp:sp=none:=by simpa [Addr.add] using hs
          subst hsp
          have hlt':b<w.heap.size:=by
            have e1:(((⟨b,o,none⟩:Addr).add (0*s.z)).add 0).block=b:=by rw [wm]
            rw [e1] at hlt;exact hlt
          refine .seq _ _ _ _ b o cap (fun i j=>(F i).2.getD j undef) C1 hlt' hl (fun i hi j hj=>?_) (fun i hi j hj=>?_) (fun i hi j hj=>?_)
          all_goals
            obtain ⟨g1,g2,g3⟩:=hF i hi
            obtain ⟨_,k1,k2⟩:=World.cells?_some g1
          · have:=k2 j hj
            rw [wm] at this
            rw [this,List.getElem?_eq_getElem (by omega)]
            simp [List.getD_eq_getElem?_getD,List.getElem?_eq_getElem (show j<(F i).2.length by omega)]
          · exact (g3.get j (by omega)).2
          · exact (g3.get j (by omega)).1
theorem Dl:(l:List Sh)→∀ (fs:List Field) (off n:Nat) (cs:List Value),rR P l fs off=true→off+zL l=cs.length →
    (∀ (i:Nat) (f:Field),fs[i]? = some f→∃ x,DataW.trod enc P w base spare held n f.type ((cs.drop f.offset).take (P.cellsOf f.type))=some x)→∃ v:TL l,ER l v∧Rd w (BD l v) (cs.drop off)
  | [],fs,off,n,cs,hf,hz,h=>by
    refine ⟨(),by simp [ER],?_⟩
    simp only [zL,Nat.add_zero] at hz
    subst hz
    simp only [List.drop_length,BD]
    exact .nil
  | s::l,[],off,n,cs,hf,hz,h=>by simp [rR] at hf
  | s::l,f::fs,off,n,cs,hf,hz,h=>by
    simp only [rR,Bool.and_eq_true,beq_iff_eq] at hf
    obtain ⟨⟨⟨h1,h2⟩,h3⟩,h4⟩:=hf
    obtain ⟨x,hx⟩:=h 0 f rfl
    rw [h1,h2] at hx
    obtain ⟨v,g1,g2⟩:=Ce s f.type n _ x h3 hx
    obtain ⟨r,g3,g4⟩:=Dl l fs (off+s.z) n cs h4 (by simp only [zL] at hz;omega) (fun i f' hi=>h (i+1) f' (by simpa using hi))
    refine ⟨(v,r),by simp only [ER];exact ⟨g1,g3⟩,?_⟩
    have:=g2.append g4
    rw [← List.drop_drop,List.take_append_drop] at this
    simpa only [BD] using this
end
def Fv:(s:Sh)→s.T→AV
  | .int k,n=>.p (.int k n)
  | .bool,b=>.p (.bool b)
  | .str,x=>.p (.str x)
  | .st l,v=>.agg ((BD l v).map .p)
  | .sl s,v=>.p (.seq true s.z v.1 fun i=>Dd s (v.2 i))
theorem D1 {l:List Sh} {t:TypeId} {r:Reach} {b0:Nat} {x:Value} {d:DataW H} {ps:List MemPlace} (hf:iF P (.st l) t=true) (hv:Value.okWide P w r b0 t x) (h:DataW.Trod enc P w base spare held t x d ps) :
    ∃ v:TL l,ER l v∧VR w (fun _=>none) no (.agg ((BD l v).map .p)) x:=by
  have hf':=hf
  simp only [iF] at hf
  split at hf
  case h_2=>cases hf
  rename_i fs hu
  obtain ⟨cs,rfl,hsz⟩:=WideShapes.okWide_struct hu hv
  obtain ⟨fuel,h⟩:=h
  obtain ⟨v,h1,h2⟩:=Ce (.st l) t fuel _ _ hf' h
  simp only [Dd] at h2
  refine ⟨v,by simpa [uk] using h1,.agg _ _ (by simpa [Value.cells] using h2.length) (fun j hj=>?_) (fun j hj=>?_)⟩
  all_goals
    have hl:=h2.length
    simp only [Value.cells,List.length_map,Array.length_toList] at hl hj
    have:=h2.get j (by simp [Value.cells];omega)
    simp only [Value.cells] at this
    rw [show cs.toList.getD j undef=cs.getD j undef by simp [List.getD_eq_getElem?_getD,Array.getD_eq_getD_getElem?]] at this
  · exact this.2
  · have e:((BD l v).map AV.p).getD j ag=.p ((BD l v).getD j .any):=by
      simp only [List.getD_eq_getElem?_getD,List.getElem?_map]
      cases (BD l v)[j]?<;>rfl
    rw [e]
    exact .p _ _ this.1
theorem lL {s:Sh} {t:TypeId} {x:Value} {d:DataW H} {ps:List MemPlace} (hf:iF P s t=true) (hc:x.cells = #[x]) (h:DataW.Trod enc P w base spare held t x d ps) :
    ∃ v:s.T,uk s v∧VR w (fun _=>none) no (.p ((Dd s v).getD 0 .any)) x:=by
  obtain ⟨fuel,h⟩:=h
  obtain ⟨v,h1,h2⟩:=Ce s t fuel _ _ hf h
  rw [hc] at h2
  have:=h2.get 0 (by simp)
  exact ⟨v,h1,.p _ _ (by simpa using this.1)⟩
theorem DO {r:Reach} {b0:Nat} {x:Value} {d:DataW H} {ps:List MemPlace}:(s:Sh)→∀ {t:TypeId},iF P s t=true→Value.okWide P w r b0 t x→DataW.Trod enc P w base spare held t x d ps →
    ∃ v:s.T,uk s v∧VR w (fun _=>none) no (Fv s v) x
  | .st l,t,hf,hv,h=>by
    obtain ⟨v,h1,h2⟩:=D1 hf hv h
    exact ⟨v,by simpa [uk] using h1,h2⟩
  | .int k,t,hf,hv,h=>by
    have hf':=hf
    simp only [iF] at hf
    split at hf
    case h_2=>cases hf
    rename_i hu
    obtain ⟨y,rfl⟩:=WideShapes.okWide_int hu hv
    obtain ⟨v,h1,h2⟩:=lL hf' rfl h
    exact ⟨v,h1,h2⟩
  | .bool,t,hf,hv,h=>by
    have hf':=hf
    simp only [iF] at hf
    split at hf
    case h_2=>cases hf
    rename_i hu
    obtain ⟨y,rfl⟩:=WideShapes.okWide_bool hu hv
    obtain ⟨v,h1,h2⟩:=lL hf' rfl h
    exact ⟨v,h1,h2⟩
  | .str,t,hf,hv,h=>by
    have hf':=hf
    simp only [iF] at hf
    split at hf
    case h_2=>cases hf
    rename_i hu
    obtain ⟨y,rfl⟩:=WideShapes.okWide_string hu hv
    obtain ⟨v,h1,h2⟩:=lL hf' rfl h
    exact ⟨v,h1,h2⟩
  | .sl s,t,hf,hv,h=>by
    have hf':=hf
    simp only [iF] at hf
    split at hf
    case h_2=>cases hf
    rename_i hu
    obtain ⟨y,z,u,rfl⟩:=WideShapes.okWide_slice hu hv
    obtain ⟨v,h1,h2⟩:=lL hf' rfl h
    exact ⟨v,h1,h2⟩
end
theorem Ej {P:Program} {f:FuncId} {args:List AV} {vals:Array Value} {W:World} (h:Con P f 0 [] args [] (.p (.bool true))) (hl:args.length=vals.size)
    (ha:∀ j,j<args.length→VR W (fun _=>none) no (args.getD j ag) (vals.getD j undef)) :
    Calls P f vals W fun e W'=>e=.returned (.bool true)∧RowKit.Below W.heap.size W W':=by
  refine (h.2 W (fun _=>none) (fun _=>False) vals (fun b h=>h.elim) (fun o ob h=>by simp [lk] at h) (fun o o' ob ob' a a' h=>by simp [lk] at h) (fun k h=>absurd rfl h) hl ha).mono ?_
  rintro e W' ⟨v,β',rfl,_,_,hv,hext,_,_,_⟩
  cases hv with
  | p _ _ hp =>
    cases hp with
    | bool b=>exact ⟨rfl,hext.os,hext.tape,hext.output,hext.size,fun k hk=>hext.block true k hk C1⟩
mutual
def cP:(s:Sh)→s.T→Prop
  | .int _,_=>True
  | .bool,_=>True
  | .str,x=>(show ByteArray from x).size≤1048576
  | .st l,v=>j0 l v
  | .sl s,v=>v.1≤1048576∧∀ i,i<v.1→cP s (v.2 i)
def j0:(l:List Sh)→TL l→Prop
  | [],_=>True
  | s::l,v=>cP s v.1∧j0 l v.2
end
theorem Gj {b:Bool} (h:b=false):(!b)=true:=by subst h;rfl
theorem Hs {b:Bool} (h:b=true):(!b)=false:=by subst h;rfl
theorem IB {a b:Bool} (h:a=true) (h':b=true):(a&&b)=true:=by subst h;subst h';rfl
theorem wE:Tryz.prog.follows .mixedOrders=true:=by kernel_rfl
theorem Con.arg_ext {P:Program} {f:FuncId} {n:Nat} {H H':Hp} {args args':List AV} {res:AV} (h:Con P f n H args H' res) (hw:af (pI args' args)):Con P f n H args' H' res:=by
  refine ⟨h.en,fun w β X vals hX hH hS hd hl ha=>?_⟩
  have hlen:=dk _ _ hw
  refine h.go w β X vals hX hH hS hd (by omega) (fun j hj=>?_)
  exact wA (ha j (by omega)) _ (fb _ _ j hw (by omega))
def AA (n:Nat) (f:Nat→List AV):Prop:=∀ i,i<n→(af []∧f i=f i)
def AP (n:Nat) (f:Nat→List PV):Prop:=∀ i,i<n→f i=f i
abbrev AG (b:Bool):Prop:=b=true→b=true
def AE (n:Nat):Prop:=∀ i,i<n→af []
abbrev AN (n:Nat):Prop:=n=n
abbrev AI (n:Int):Prop:=n=n
theorem aA (n:Nat) (f:Nat→List AV):AA n f:=fun _ _=>⟨trivial,rfl⟩
theorem aP (n:Nat) (f:Nat→List PV):AP n f:=fun _ _=>rfl
theorem aG (b:Bool):AG b:=fun h=>h
theorem aE (n:Nat):AE n:=fun _ _=>trivial
@[simp] theorem OJ (n:Nat):AE n=True:=eq_true (aE n)
@[simp] theorem OK (n:Nat) (f:Nat→List PV):AP n f=True:=eq_true (aP n f)
@[simp] theorem OI (n:Nat) (f:Nat→List AV):AA n f=True:=eq_true (aA n f)
theorem aI {p:Prop} {r:List Prop} (h:p) (k:af r):af (p::r):=⟨h,k⟩
theorem aN:af []:=trivial
theorem fT {p:Prop} (h:false=true):p:=absurd h Bool.false_ne_true
def rg (n:Nat):ScI:=.reg (List.replicate n oT)
def rm (l:List (Nat×OpS)) (n:Nat):ScI:=.reg (l.foldr (fun p r=>List.replicate p.1 oT++p.2::r) (List.replicate n oT))
def oc (H:Hp) (R:AV):OpS:=⟨true,some ⟨[],[],[],1,H,R⟩,none⟩
def oq (p:List Id) (H:Hp) (R:AV):OpS:=⟨true,some ⟨p,[],[],1,H,R⟩,none⟩
def gF:OpS:=⟨true,none,some false⟩
def gT:OpS:=⟨true,none,some true⟩
abbrev NT (a b:Nat):Prop:=a<b
abbrev NL (a b:Nat):Prop:=a≤b
abbrev IT (a b:Int):Prop:=a<b
abbrev IL (a b:Int):Prop:=a≤b
abbrev ax (a:Int):Prop:=-9223372036854775808≤a
abbrev au (a:Int):Prop:=a≤9223372036854775807
abbrev CV (H:Hp) (k:List K) (d n:Nat) (f g:Nat→List AV):Prop:=∀ i,i<n→(af (ay false H k d (f i)).2∧(ay false H k d (f i)).1=g i)
noncomputable abbrev Fa (x0:(Int×(Int×(Nat×(Nat→(Int×Int×Unit)))×Unit)×(((Int×(Nat×(Nat→(Int×Int×Unit)))×Unit)×(Nat×(Nat→(Int×Int×Unit)))×Unit)×(Nat×(Nat→Int))×Unit)×(Nat×(Nat→(Int×Int×Int×Int×Int×Unit)))×(Nat×(Nat→Int))×Unit)):AV:=.agg [.p (.int .i64 x0.1),.p (.int .i64 x0.2.1.1),.p (.seq true 2 x0.2.1.2.1.1 (fun i=>[.int .i64 ((x0.2.1.2.1.2 i).1),.int .i64 ((x0.2.1.2.1.2 i).2.1)])),.p (.int .i64 x0.2.2.1.1.1.1),.p (.seq true 2 x0.2.2.1.1.1.2.1.1 (fun i=>[.int .i64 ((x0.2.2.1.1.1.2.1.2 i).1),.int .i64 ((x0.2.2.1.1.1.2.1.2 i).2.1)])),.p (.seq true 2 x0.2.2.1.1.2.1.1 (fun i=>[.int .i64 ((x0.2.2.1.1.2.1.2 i).1),.int .i64 ((x0.2.2.1.1.2.1.2 i).2.1)])),.p (.seq true 1 x0.2.2.1.2.1.1 (fun i=>[.int .i64 (x0.2.2.1.2.1.2 i)])),.p (.seq true 5 x0.2.2.2.1.1 (fun i=>[.int .i64 ((x0.2.2.2.1.2 i).1),.int .i64 ((x0.2.2.2.1.2 i).2.1),.int .i64 ((x0.2.2.2.1.2 i).2.2.1),.int .i64 ((x0.2.2.2.1.2 i).2.2.2.1),.int .i64 ((x0.2.2.2.1.2 i).2.2.2.2.1)])),.p (.seq true 1 x0.2.2.2.2.1.1 (fun i=>[.int .i64 (x0.2.2.2.2.1.2 i)]))]
noncomputable abbrev EZ (x0:(Int×(Int×(Nat×(Nat→(Int×Int×Unit)))×Unit)×(((Int×(Nat×(Nat→(Int×Int×Unit)))×Unit)×(Nat×(Nat→(Int×Int×Unit)))×Unit)×(Nat×(Nat→Int))×Unit)×(Nat×(Nat→(Int×Int×Int×Int×Int×Unit)))×(Nat×(Nat→Int))×Unit)):Hp:=[(0,⟨false,2,x0.2.1.2.1.1,(fun i=>[.p (.int .i64 ((x0.2.1.2.1.2 i).1)),.p (.int .i64 ((x0.2.1.2.1.2 i).2.1))])⟩),(1,⟨false,2,x0.2.2.1.1.1.2.1.1,(fun i=>[.p (.int .i64 ((x0.2.2.1.1.1.2.1.2 i).1)),.p (.int .i64 ((x0.2.2.1.1.1.2.1.2 i).2.1))])⟩),(2,⟨false,2,x0.2.2.1.1.2.1.1,(fun i=>[.p (.int .i64 ((x0.2.2.1.1.2.1.2 i).1)),.p (.int .i64 ((x0.2.2.1.1.2.1.2 i).2.1))])⟩),(3,⟨false,1,x0.2.2.1.2.1.1,(fun i=>[.p (.int .i64 (x0.2.2.1.2.1.2 i))])⟩),(4,⟨false,5,x0.2.2.2.1.1,(fun i=>[.p (.int .i64 ((x0.2.2.2.1.2 i).1)),.p (.int .i64 ((x0.2.2.2.1.2 i).2.1)),.p (.int .i64 ((x0.2.2.2.1.2 i).2.2.1)),.p (.int .i64 ((x0.2.2.2.1.2 i).2.2.2.1)),.p (.int .i64 ((x0.2.2.2.1.2 i).2.2.2.2.1))])⟩),(5,⟨false,1,x0.2.2.2.2.1.1,(fun i=>[.p (.int .i64 (x0.2.2.2.2.1.2 i))])⟩)]
noncomputable abbrev Gi:List Item:=[.code (ao (ab Tryz.f84) [1,1,1,1,0,1,0,0,1,0,0,1,1,1,1,1,1,0,1,0,0,1,1,0,0,1,1,1,1,0,0]),.inLoop (ao (ab Tryz.f84) [1,1,1,1,0,1,0,0,1,0,0,1,1,1,1,1,1,0,1,0,0,1,1,0,0,1,1,1,1,0,0]),.inBlock 6,.inBlock 5,.code (ao (ab Tryz.f84) [1,1,1,1,0,1,0,0,1,0,0,1,1,1,1,1,1,0,1,0,0,1,1,1]),.inLoop (ao (ab Tryz.f84) [1,1,1,1,0,1,0,0,1,0,0,1,1,1,1,1,1,0,1,0,0]),.inBlock 4,.code (ao (ab Tryz.f84) [1,1,1,1,0,1,0,0,1,0,0,1,1,1,1,1,1,1]),.inBlock 1,.code (ao (ab Tryz.f84) [1,1,1,1,0,1,0,0,1,1]),.inLoop (ao (ab Tryz.f84) [1,1,1,1,0,1,0,0]),.inBlock 0,.code (ao (ab Tryz.f84) [1,1,1,1,1])]
noncomputable abbrev F5:List Item:=[.code (ao (ab Tryz.f152) [1,1,1,0,1,0,0,1,0,0,1,0,0,1,1,0,0,1,1,1,1,1,1,1,1,0,1,0,0]),.inLoop (ao (ab Tryz.f152) [1,1,1,0,1,0,0,1,0,0,1,0,0,1,1,0,0,1,1,1,1,1,1,1,1,0,1,0,0]),.inBlock 4,.code (ao (ab Tryz.f152) [1,1,1,0,1,0,0,1,0,0,1,0,0,1,1,0,0,1,1,1,1,1,1,1,1,1]),.inBlock 3,.code (ao (ab Tryz.f152) [1,1,1,0,1,0,0,1,0,0,1,0,0,1,1,1]),.inLoop (ao (ab Tryz.f152) [1,1,1,0,1,0,0,1,0,0,1,0,0]),.inBlock 2,.inBlock 1,.code (ao (ab Tryz.f152) [1,1,1,0,1,0,0,1,1]),.inLoop (ao (ab Tryz.f152) [1,1,1,0,1,0,0]),.inBlock 0,.code (ao (ab Tryz.f152) [1,1,1,1])]
noncomputable abbrev JK:List Item:=[.code (ao (ab Tryz.f121) [1,1,1,1,1,1,0,1,0,0,1,0,0,1,1,0,0,1,0,0,1,1,1,1,1,0,1,0,0]),.code .ret,.code (ao (ab Tryz.f121) [1,1,1,1,1,1,0,1,0,0,1,0,0,1,1,0,0,1,0,0,1,1,1,1,1,1]),.inBlock 5,.code (ao (ab Tryz.f121) [1,1,1,1,1,1,0,1,0,0,1,0,0,1,1,0,0,1,1]),.inLoop (ao (ab Tryz.f121) [1,1,1,1,1,1,0,1,0,0,1,0,0,1,1,0,0]),.inBlock 4,.inBlock 3,.code (ao (ab Tryz.f121) [1,1,1,1,1,1,0,1,0,0,1,1]),.inLoop (ao (ab Tryz.f121) [1,1,1,1,1,1,0,1,0,0]),.inBlock 2,.code (ao (ab Tryz.f121) [1,1,1,1,1,1,1])]
noncomputable abbrev Jy:List Item:=[.code (ao (ab Tryz.f152) [1,1,1,0,1,0,0,1,0,0,1,0,0,1,1,0,0,1,1,1,1,1,1,1,0]),.code (ao (ab Tryz.f152) [1,1,1,0,1,0,0,1,0,0,1,0,0,1,1,0,0,1,1,1,1,1,1,1,1]),.inBlock 3,.code (ao (ab Tryz.f152) [1,1,1,0,1,0,0,1,0,0,1,0,0,1,1,1]),.inLoop (ao (ab Tryz.f152) [1,1,1,0,1,0,0,1,0,0,1,0,0]),.inBlock 2,.inBlock 1,.code (ao (ab Tryz.f152) [1,1,1,0,1,0,0,1,1]),.inLoop (ao (ab Tryz.f152) [1,1,1,0,1,0,0]),.inBlock 0,.code (ao (ab Tryz.f152) [1,1,1,1])]
noncomputable abbrev FD:List Item:=[.code (ao (ab Tryz.f7) [1,1,0,1,0,1,1,1,0,1,1,1,1,1,0,1,0,0,1,1,0,0,1,1,1,0,0]),.inLoop (ao (ab Tryz.f7) [1,1,0,1,0,1,1,1,0,1,1,1,1,1,0,1,0,0,1,1,0,0,1,1,1,0,0]),.inBlock 5,.inBlock 4,.code (ao (ab Tryz.f7) [1,1,0,1,0,1,1,1,0,1,1,1,1,1,0,1,0,0,1,1,1]),.inLoop (ao (ab Tryz.f7) [1,1,0,1,0,1,1,1,0,1,1,1,1,1,0,1,0,0]),.inBlock 3,.code (ao (ab Tryz.f7) [1,1,0,1,0,1,1,1,0,1,1,1,1,1,1]),.inBlock 0,.code (ao (ab Tryz.f7) [1,1,1])]
noncomputable abbrev DW:List Item:=[.code (ao (ab Tryz.f85) [1,1,1,1,1,1,0,1,0,0,1,1,0,0,1,1,1,1,0,1,0,0]),.inLoop (ao (ab Tryz.f85) [1,1,1,1,1,1,0,1,0,0,1,1,0,0,1,1,1,1,0,1,0,0]),.inBlock 6,.code (ao (ab Tryz.f85) [1,1,1,1,1,1,0,1,0,0,1,1,0,0,1,1,1,1,1]),.inBlock 5,.code (ao (ab Tryz.f85) [1,1,1,1,1,1,0,1,0,0,1,1,1]),.inLoop (ao (ab Tryz.f85) [1,1,1,1,1,1,0,1,0,0]),.inBlock 4,.code (ao (ab Tryz.f85) [1,1,1,1,1,1,1])]
noncomputable abbrev Da:List Item:=[.code (ao (ab Tryz.f55) [1,1,1,1,0,1,0,0,1,0,0,1,1,1,0,1,1,1,0,0,0]),.inLoop (ao (ab Tryz.f55) [1,1,1,1,0,1,0,0,1,0,0,1,1,1,0,1,1,1,0,0,0]),.inBlock 2,.code (ao (ab Tryz.f55) [1,1,1,1,0,1,0,0,1,0,0,1,1,1,0,1,1,1,1]),.inBlock 1,.code (ao (ab Tryz.f55) [1,1,1,1,0,1,0,0,1,1]),.inLoop (ao (ab Tryz.f55) [1,1,1,1,0,1,0,0]),.inBlock 0,.code (ao (ab Tryz.f55) [1,1,1,1,1])]
noncomputable abbrev rn:List Item:=[.code (ao (ab Tryz.f84) [1,1,1,1,0,1,0,0,1,0,0,1,1,1,1,1,1,0,1,0,0]),.inLoop (ao (ab Tryz.f84) [1,1,1,1,0,1,0,0,1,0,0,1,1,1,1,1,1,0,1,0,0]),.inBlock 4,.code (ao (ab Tryz.f84) [1,1,1,1,0,1,0,0,1,0,0,1,1,1,1,1,1,1]),.inBlock 1,.code (ao (ab Tryz.f84) [1,1,1,1,0,1,0,0,1,1]),.inLoop (ao (ab Tryz.f84) [1,1,1,1,0,1,0,0]),.inBlock 0,.code (ao (ab Tryz.f84) [1,1,1,1,1])]
noncomputable abbrev rB:List Item:=[.code (ao (ab Tryz.f28) [1,1,1,0,1,0,0,1,1,0,0,1,1,1,0,1,0,0]),.inLoop (ao (ab Tryz.f28) [1,1,1,0,1,0,0,1,1,0,0,1,1,1,0,1,0,0]),.inBlock 2,.code (ao (ab Tryz.f28) [1,1,1,0,1,0,0,1,1,0,0,1,1,1,1]),.inBlock 1,.code (ao (ab Tryz.f28) [1,1,1,0,1,0,0,1,1,1]),.inLoop (ao (ab Tryz.f28) [1,1,1,0,1,0,0]),.inBlock 0,.code (ao (ab Tryz.f28) [1,1,1,1])]
noncomputable abbrev xf:List Item:=[.code (ao (ab Tryz.f84) [1,1,1,1,0,1,0,0,1,0,0,1,1,0,0,0]),.inLoop (ao (ab Tryz.f84) [1,1,1,1,0,1,0,0,1,0,0,1,1,0,0,0]),.inBlock 2,.code (ao (ab Tryz.f84) [1,1,1,1,0,1,0,0,1,0,0,1,1,1]),.inBlock 1,.code (ao (ab Tryz.f84) [1,1,1,1,0,1,0,0,1,1]),.inLoop (ao (ab Tryz.f84) [1,1,1,1,0,1,0,0]),.inBlock 0,.code (ao (ab Tryz.f84) [1,1,1,1,1])]
noncomputable abbrev tW:List Item:=[.code (ao (ab Tryz.f29) [1,1,0,1,0,0,1,0,0,1,1,0,1,0,0]),.inLoop (ao (ab Tryz.f29) [1,1,0,1,0,0,1,0,0,1,1,0,1,0,0]),.inBlock 4,.code (ao (ab Tryz.f29) [1,1,0,1,0,0,1,0,0,1,1,1]),.inBlock 1,.code (ao (ab Tryz.f29) [1,1,0,1,0,0,1,1]),.inLoop (ao (ab Tryz.f29) [1,1,0,1,0,0]),.inBlock 0,.code (ao (ab Tryz.f29) [1,1,1])]
noncomputable abbrev zJ:List Item:=[.code (ao (ab Tryz.f29) [1,1,0,1,0,0,1,0,0,1,0,1,0,0]),.inLoop (ao (ab Tryz.f29) [1,1,0,1,0,0,1,0,0,1,0,1,0,0]),.inBlock 2,.code (ao (ab Tryz.f29) [1,1,0,1,0,0,1,0,0,1,1]),.inBlock 1,.code (ao (ab Tryz.f29) [1,1,0,1,0,0,1,1]),.inLoop (ao (ab Tryz.f29) [1,1,0,1,0,0]),.inBlock 0,.code (ao (ab Tryz.f29) [1,1,1])]
noncomputable abbrev qm:List Item:=[.code (ao (ab Tryz.f121) [1,1,1,1,1,1,0,1,0,0,1,0,0,1,1,0,0]),.inLoop (ao (ab Tryz.f121) [1,1,1,1,1,1,0,1,0,0,1,0,0,1,1,0,0]),.inBlock 4,.inBlock 3,.code (ao (ab Tryz.f121) [1,1,1,1,1,1,0,1,0,0,1,1]),.inLoop (ao (ab Tryz.f121) [1,1,1,1,1,1,0,1,0,0]),.inBlock 2,.code (ao (ab Tryz.f121) [1,1,1,1,1,1,1])]
noncomputable abbrev Gb:List Item:=[.code (ao (ab Tryz.f84) [1,1,1,1,0,1,0,0,1,0,0,1,1,1,1,1,0]),.code (ao (ab Tryz.f84) [1,1,1,1,0,1,0,0,1,0,0,1,1,1,1,1,1]),.inBlock 1,.code (ao (ab Tryz.f84) [1,1,1,1,0,1,0,0,1,1]),.inLoop (ao (ab Tryz.f84) [1,1,1,1,0,1,0,0]),.inBlock 0,.code (ao (ab Tryz.f84) [1,1,1,1,1])]
noncomputable abbrev qd:List Item:=[.code (ao (ab Tryz.f152) [1,1,1,0,1,0,0,1,0,0,1,0,0]),.inLoop (ao (ab Tryz.f152) [1,1,1,0,1,0,0,1,0,0,1,0,0]),.inBlock 2,.inBlock 1,.code (ao (ab Tryz.f152) [1,1,1,0,1,0,0,1,1]),.inLoop (ao (ab Tryz.f152) [1,1,1,0,1,0,0]),.inBlock 0,.code (ao (ab Tryz.f152) [1,1,1,1])]
noncomputable abbrev Fm (x0:Nat) (x1:Nat→Int) (x2:Nat) (x3:Nat→Int) (x4:Nat→Int) (x5:Nat→Int) (x6:Nat→Int):Hp:=[(0,⟨false,1,x0,(fun i=>[.p (.int .i64 (x1 i))])⟩),(1,⟨false,1,x2,(fun i=>[.p (.int .i64 (x3 i))])⟩),(2,⟨false,1,x2,(fun i=>[.p (.int .i64 (x4 i))])⟩),(3,⟨false,1,x0,(fun i=>[.p (.int .i64 (x5 i))])⟩),(4,⟨false,1,x2,(fun i=>[.p (.int .i64 (x6 i))])⟩),(5,⟨false,1,x2,(fun i=>[.p (.int .i64 (x4 i))])⟩)]
noncomputable abbrev uK:List Item:=[.code (ao (ab Tryz.f108) [1,1,0,1,0,0,1,0,0,1,0,0]),.inLoop (ao (ab Tryz.f108) [1,1,0,1,0,0,1,0,0,1,0,0]),.inBlock 2,.inBlock 1,.code (ao (ab Tryz.f108) [1,1,0,1,0,0,1,1]),.inLoop (ao (ab Tryz.f108) [1,1,0,1,0,0]),.inBlock 0,.code (ao (ab Tryz.f108) [1,1,1])]
noncomputable abbrev vd (x0:Nat) (x1:Nat→Int) (x2:Nat×Int) (x3:Nat) (x4:Nat→(Int×Int×Unit)) (x5:Nat) (x6:Nat→(Int×Int×Unit)):Hp:=[(0,⟨true,3,1,(fun i=>[.p (.seq false 1 x0 (fun i_1=>[.int .u8 (x1 i_1)])),.p (.int .i64 (↑x2.1:Int)),.p (.int .i64 x2.2)])⟩),(1,⟨false,2,x3,(fun i=>[.p (.int .i64 ((x4 i).1)),.p (.int .i64 ((x4 i).2.1))])⟩),(2,⟨false,2,x5,(fun i=>[.p (.int .i64 ((x6 i).1)),.p (.int .i64 ((x6 i).2.1))])⟩)]
noncomputable abbrev zb:List Item:=[.code (ao (ab Tryz.f7) [1,1,0,1,0,1,1,1,0,1,1,1,1,1,0,1,0,0]),.inLoop (ao (ab Tryz.f7) [1,1,0,1,0,1,1,1,0,1,1,1,1,1,0,1,0,0]),.inBlock 3,.code (ao (ab Tryz.f7) [1,1,0,1,0,1,1,1,0,1,1,1,1,1,1]),.inBlock 0,.code (ao (ab Tryz.f7) [1,1,1])]
noncomputable abbrev xT:List Item:=[.code (ao (ab Tryz.f7) [1,1,0,1,0,1,0,1,1,1,1,0,1,0,0]),.inLoop (ao (ab Tryz.f7) [1,1,0,1,0,1,0,1,1,1,1,0,1,0,0]),.inBlock 1,.code (ao (ab Tryz.f7) [1,1,0,1,0,1,0,1,1,1,1,1]),.inBlock 0,.code (ao (ab Tryz.f7) [1,1,1])]
noncomputable abbrev Dn (x0:(Int×(Int×(Nat×(Nat→(Int×Int×Unit)))×Unit)×(((Int×(Nat×(Nat→(Int×Int×Unit)))×Unit)×(Nat×(Nat→(Int×Int×Unit)))×Unit)×(Nat×(Nat→Int))×Unit)×(Nat×(Nat→(Int×Int×Int×Int×Int×Unit)))×(Nat×(Nat→Int))×Unit)):AV:=.tup [.agg [.p (.int .i64 x0.1),.p (.int .i64 x0.2.1.1),.ar 2 0 0 x0.2.1.2.1.1,.p (.int .i64 x0.2.2.1.1.1.1),.ar 2 1 0 x0.2.2.1.1.1.2.1.1,.ar 2 2 0 x0.2.2.1.1.2.1.1,.ar 1 3 0 x0.2.2.1.2.1.1,.ar 5 4 0 x0.2.2.2.1.1,.ar 1 5 0 x0.2.2.2.2.1.1],.p (.bool false)]
noncomputable abbrev Eg (x0:(Int×(Int×(Nat×(Nat→(Int×Int×Unit)))×Unit)×(((Int×(Nat×(Nat→(Int×Int×Unit)))×Unit)×(Nat×(Nat→(Int×Int×Unit)))×Unit)×(Nat×(Nat→Int))×Unit)×(Nat×(Nat→(Int×Int×Int×Int×Int×Unit)))×(Nat×(Nat→Int))×Unit)) (x1:Bool):AV:=.tup [.agg [.p (.int .i64 x0.1),.p (.int .i64 x0.2.1.1),.ar 2 0 0 x0.2.1.2.1.1,.p (.int .i64 x0.2.2.1.1.1.1),.ar 2 1 0 x0.2.2.1.1.1.2.1.1,.ar 2 2 0 x0.2.2.1.1.2.1.1,.ar 1 3 0 x0.2.2.1.2.1.1,.ar 5 4 0 x0.2.2.2.1.1,.ar 1 5 0 x0.2.2.2.2.1.1],.p (.bool x1)]
noncomputable abbrev fQ (x0:Nat) (x1:Nat) (x2:Nat→Int) (x3:Nat→Int) (x4:Nat→Int):Hp:=[(0,⟨true,3,1,(fun i=>[.ar 1 1 0 x0,.ar 1 2 0 x1,.ar 1 3 0 x1])⟩),(1,⟨false,1,x0,(fun i=>[.p (.int .i64 (x2 i))])⟩),(2,⟨false,1,x1,(fun i=>[.p (.int .i64 (x3 i))])⟩),(3,⟨false,1,x1,(fun i=>[.p (.int .i64 (x4 i))])⟩)]
noncomputable abbrev lc (x0:Nat) (x1:Nat→Int) (x2:Nat×Int) (x3:Nat) (x4:Nat→(Int×Int×Unit)):Hp:=[(0,⟨true,3,1,(fun i=>[.p (.seq false 1 x0 (fun i_1=>[.int .u8 (x1 i_1)])),.p (.int .i64 (↑x2.1:Int)),.p (.int .i64 x2.2)])⟩),(1,⟨false,2,x3,(fun i=>[.p (.int .i64 ((x4 i).1)),.p (.int .i64 ((x4 i).2.1))])⟩)]
noncomputable abbrev qy:List Item:=[.code (ao (ab Tryz.f6) [1,1,1,1,0,1,0,1,1,1,0,1,1,0,0]),.inLoop (ao (ab Tryz.f6) [1,1,1,1,0,1,0,1,1,1,0,1,1,0,0]),.inBlock 1,.inBlock 0,.code (ao (ab Tryz.f6) [1,1,1,1,1])]
noncomputable abbrev zW (x0:Nat) (x1:Nat) (x2:Nat→(Int×Int×Unit)) (x3:Nat) (x4:Nat→(Int×Int×Unit)):AV:=.agg [.p (.int .i64 (↑x0:Int)),.p (.seq true 2 x1 (fun i_1=>[.int .i64 ((x2 i_1).1),.int .i64 ((x2 i_1).2.1)])),.p (.seq true 2 x3 (fun i_1=>[.int .i64 ((x4 i_1).1),.int .i64 ((x4 i_1).2.1)]))]
noncomputable abbrev nR (x0:Int) (x1:Nat) (x2:Nat→(Int×Int×Unit)) (x3:Nat) (x4:Nat→(Int×Int×Unit)) (x5:Nat):AV:=.agg [.p (.int .i64 x0),.p (.seq true 2 x1 (fun i=>[.int .i64 ((x2 i).1),.int .i64 ((x2 i).2.1)])),.p (.seq true 2 x3 (fun i=>[.int .i64 ((x4 (i+x5)).1),.int .i64 ((x4 (i+x5)).2.1)]))]
noncomputable abbrev B2:List Item:=[.code (ao (ab Tryz.f121) [1,1,1,1,1,1,0,1,0,0]),.inLoop (ao (ab Tryz.f121) [1,1,1,1,1,1,0,1,0,0]),.inBlock 2,.code (ao (ab Tryz.f121) [1,1,1,1,1,1,1])]
noncomputable abbrev xG:List Item:=[.code (ao (ab Tryz.f111) [1,1,1,1,1,1,0,1,0,0]),.inLoop (ao (ab Tryz.f111) [1,1,1,1,1,1,0,1,0,0]),.inBlock 2,.code (ao (ab Tryz.f111) [1,1,1,1,1,1,1])]
noncomputable abbrev nV (x0:Nat) (x1:Nat) (x2:Nat→(Int×Int×Unit)) (x3:Nat) (x4:Nat→(Int×Int×Unit)):AV:=.agg [.p (.int .i64 (↑x0:Int)),.p (.seq true 2 x1 (fun i=>[.int .i64 ((x2 i).1),.int .i64 ((x2 i).2.1)])),.p (.seq true 2 x3 (fun i=>[.int .i64 ((x4 i).1),.int .i64 ((x4 i).2.1)]))]
noncomputable abbrev tf:List Item:=[.code (ao (ab Tryz.f85) [1,1,1,1,1,1,0,1,0,0]),.inLoop (ao (ab Tryz.f85) [1,1,1,1,1,1,0,1,0,0]),.inBlock 4,.code (ao (ab Tryz.f85) [1,1,1,1,1,1,1])]
noncomputable abbrev wT (x0:Nat) (x1:Nat→(Int×Int×Int×Int×Int×Unit)):Hp:=[(0,⟨false,5,x0,(fun i=>[.p (.int .i64 ((x1 i).1)),.p (.int .i64 ((x1 i).2.1)),.p (.int .i64 ((x1 i).2.2.1)),.p (.int .i64 ((x1 i).2.2.2.1)),.p (.int .i64 ((x1 i).2.2.2.2.1))])⟩)]
noncomputable abbrev rZ (x0:Int) (x1:Nat) (x2:Nat→(Int×Int×Unit)) (x3:Nat) (x4:Nat→(Int×Int×Unit)):AV:=.agg [.p (.int .i64 x0),.p (.seq true 2 x1 (fun i=>[.int .i64 ((x2 i).1),.int .i64 ((x2 i).2.1)])),.p (.seq true 2 x3 (fun i=>[.int .i64 ((x4 i).1),.int .i64 ((x4 i).2.1)]))]
noncomputable abbrev AH:List Item:=[.code (ao (ab Tryz.f132) [1,1,1,1,1,0,0,0]),.inLoop (ao (ab Tryz.f132) [1,1,1,1,1,0,0,0]),.inBlock 0,.code (ao (ab Tryz.f132) [1,1,1,1,1,1])]
noncomputable abbrev uM:List Item:=[.code (ao (ab Tryz.f55) [1,1,1,1,0,1,0,0]),.inLoop (ao (ab Tryz.f55) [1,1,1,1,0,1,0,0]),.inBlock 0,.code (ao (ab Tryz.f55) [1,1,1,1,1])]
noncomputable abbrev ta:List Item:=[.code (ao (ab Tryz.f66) [1,1,1,1,0,1,0,0]),.inLoop (ao (ab Tryz.f66) [1,1,1,1,0,1,0,0]),.inBlock 0,.code (ao (ab Tryz.f66) [1,1,1,1,1])]
noncomputable abbrev u6:List Item:=[.code (ao (ab Tryz.f84) [1,1,1,1,0,1,0,0]),.inLoop (ao (ab Tryz.f84) [1,1,1,1,0,1,0,0]),.inBlock 0,.code (ao (ab Tryz.f84) [1,1,1,1,1])]
noncomputable abbrev wY:List Item:=[.code (ao (ab Tryz.f46) [1,1,1,1,0,1,0,0]),.inLoop (ao (ab Tryz.f46) [1,1,1,1,0,1,0,0]),.inBlock 2,.code (ao (ab Tryz.f46) [1,1,1,1,1])]
noncomputable abbrev Bi:List Item:=[.code (ao (ab Tryz.f85) [1,1,1,1,0,1,0,0]),.inLoop (ao (ab Tryz.f85) [1,1,1,1,0,1,0,0]),.inBlock 2,.code (ao (ab Tryz.f85) [1,1,1,1,1])]
noncomputable abbrev yq:List Item:=[.code (ao (ab Tryz.f49) [1,1,1,1,0,1,0,0]),.inLoop (ao (ab Tryz.f49) [1,1,1,1,0,1,0,0]),.inBlock 0,.code (ao (ab Tryz.f49) [1,1,1,1,1])]
noncomputable abbrev vc:List Item:=[.code (ao (ab Tryz.f20) [1,1,1,1,0,1,0,0]),.inLoop (ao (ab Tryz.f20) [1,1,1,1,0,1,0,0]),.inBlock 2,.code (ao (ab Tryz.f20) [1,1,1,1,1])]
noncomputable abbrev eb (x0:Nat) (x1:Nat→Int) (x2:Nat) (x3:Nat→Int) (x4:Nat→Int):Hp:=[(0,⟨false,1,x0,(fun i=>[.p (.int .i64 (x1 i))])⟩),(1,⟨false,1,x2,(fun i=>[.p (.int .i64 (x3 i))])⟩),(2,⟨false,1,x2,(fun i=>[.p (.int .i64 (x4 i))])⟩)]
noncomputable abbrev B3:List Item:=[.code (ao (ab Tryz.f152) [1,1,1,0,1,0,0]),.inLoop (ao (ab Tryz.f152) [1,1,1,0,1,0,0]),.inBlock 0,.code (ao (ab Tryz.f152) [1,1,1,1])]
noncomputable abbrev Aa:List Item:=[.code (ao (ab Tryz.f105) [1,1,1,0,1,0,0]),.inLoop (ao (ab Tryz.f105) [1,1,1,0,1,0,0]),.inBlock 2,.code (ao (ab Tryz.f105) [1,1,1,1])]
noncomputable abbrev uw:List Item:=[.code (ao (ab Tryz.f109) [1,1,1,0,1,0,0]),.inLoop (ao (ab Tryz.f109) [1,1,1,0,1,0,0]),.inBlock 2,.code (ao (ab Tryz.f109) [1,1,1,1])]
noncomputable abbrev pP:List Item:=[.code (ao (ab Tryz.f111) [1,1,1,0,1,0,0]),.inLoop (ao (ab Tryz.f111) [1,1,1,0,1,0,0]),.inBlock 0,.code (ao (ab Tryz.f111) [1,1,1,1])]
noncomputable abbrev Gl (x0:Nat→(Int×Int×Int×Int×Int×Unit)) (x1:Nat):AV:=.agg [.p (.int .i64 ((x0 x1).1)),.p (.int .i64 ((x0 x1).2.1)),.p (.int .i64 ((x0 x1).2.2.1)),.p (.int .i64 ((x0 x1).2.2.2.1)),.p (.int .i64 ((x0 x1).2.2.2.2.1))]
noncomputable abbrev ue:List Item:=[.code (ao (ab Tryz.f99) [1,1,1,0,1,0,0]),.inLoop (ao (ab Tryz.f99) [1,1,1,0,1,0,0]),.inBlock 2,.code (ao (ab Tryz.f99) [1,1,1,1])]
noncomputable abbrev yH:List Item:=[.code (ao (ab Tryz.f78) [1,1,1,0,1,0,0]),.inLoop (ao (ab Tryz.f78) [1,1,1,0,1,0,0]),.inBlock 0,.code (ao (ab Tryz.f78) [1,1,1,1])]
noncomputable abbrev rG:List Item:=[.code (ao (ab Tryz.f89) [1,1,1,0,1,0,0]),.inLoop (ao (ab Tryz.f89) [1,1,1,0,1,0,0]),.inBlock 0,.code (ao (ab Tryz.f89) [1,1,1,1])]
noncomputable abbrev Bq:List Item:=[.code (ao (ab Tryz.f43) [1,1,1,0,1,0,0]),.inLoop (ao (ab Tryz.f43) [1,1,1,0,1,0,0]),.inBlock 0,.code (ao (ab Tryz.f43) [1,1,1,1])]
noncomputable abbrev tG:List Item:=[.code (ao (ab Tryz.f94) [1,1,1,0,1,0,0]),.inLoop (ao (ab Tryz.f94) [1,1,1,0,1,0,0]),.inBlock 0,.code (ao (ab Tryz.f94) [1,1,1,1])]
noncomputable abbrev uJ:List Item:=[.code (ao (ab Tryz.f11) [1,1,1,0,1,0,0]),.inLoop (ao (ab Tryz.f11) [1,1,1,0,1,0,0]),.inBlock 0,.code (ao (ab Tryz.f11) [1,1,1,1])]
noncomputable abbrev xg:List Item:=[.code (ao (ab Tryz.f28) [1,1,1,0,1,0,0]),.inLoop (ao (ab Tryz.f28) [1,1,1,0,1,0,0]),.inBlock 0,.code (ao (ab Tryz.f28) [1,1,1,1])]
noncomputable abbrev ya:List Item:=[.code (ao (ab Tryz.f46) [1,1,1,0,1,0,0]),.inLoop (ao (ab Tryz.f46) [1,1,1,0,1,0,0]),.inBlock 0,.code (ao (ab Tryz.f46) [1,1,1,1])]
noncomputable abbrev wV:List Item:=[.code (ao (ab Tryz.f13) [1,1,1,0,1,0,0]),.inLoop (ao (ab Tryz.f13) [1,1,1,0,1,0,0]),.inBlock 2,.code (ao (ab Tryz.f13) [1,1,1,1])]
noncomputable abbrev zt:List Item:=[.code (ao (ab Tryz.f48) [1,1,1,0,1,0,0]),.inLoop (ao (ab Tryz.f48) [1,1,1,0,1,0,0]),.inBlock 0,.code (ao (ab Tryz.f48) [1,1,1,1])]
noncomputable abbrev An:List Item:=[.code (ao (ab Tryz.f85) [1,1,1,0,1,0,0]),.inLoop (ao (ab Tryz.f85) [1,1,1,0,1,0,0]),.inBlock 0,.code (ao (ab Tryz.f85) [1,1,1,1])]
noncomputable abbrev xi:List Item:=[.code (ao (ab Tryz.f20) [1,1,1,0,1,0,0]),.inLoop (ao (ab Tryz.f20) [1,1,1,0,1,0,0]),.inBlock 0,.code (ao (ab Tryz.f20) [1,1,1,1])]
noncomputable abbrev xR:List Item:=[.code (ao (ab Tryz.f30) [1,1,1,0,1,0,0]),.inLoop (ao (ab Tryz.f30) [1,1,1,0,1,0,0]),.inBlock 0,.code (ao (ab Tryz.f30) [1,1,1,1])]
noncomputable abbrev rx:List Item:=[.code (ao (ab Tryz.f33) [1,1,1,0,1,0,0]),.inLoop (ao (ab Tryz.f33) [1,1,1,0,1,0,0]),.inBlock 0,.code (ao (ab Tryz.f33) [1,1,1,1])]
noncomputable abbrev Ap:List Item:=[.code (ao (ab Tryz.f123) [1,1,1,0,0,0]),.inLoop (ao (ab Tryz.f123) [1,1,1,0,0,0]),.inBlock 0,.code (ao (ab Tryz.f123) [1,1,1,1])]
noncomputable abbrev lm (x0:Nat) (x1:Nat→Int) (x2:Nat) (x3:Nat→Int) (x4:Nat→Int):AV:=.agg [.p (.seq true 1 x0 (fun i=>[.int .i64 (x1 i)])),.p (.seq true 1 x2 (fun i=>[.int .i64 (x3 i)])),.p (.seq true 1 x2 (fun i=>[.int .i64 (x4 i)]))]
noncomputable abbrev zw:List Item:=[.code (ao (ab Tryz.f121) [1,1,0,1,0,0]),.inLoop (ao (ab Tryz.f121) [1,1,0,1,0,0]),.inBlock 0,.code (ao (ab Tryz.f121) [1,1,1])]
noncomputable abbrev Bk:List Item:=[.code (ao (ab Tryz.f108) [1,1,0,1,0,0]),.inLoop (ao (ab Tryz.f108) [1,1,0,1,0,0]),.inBlock 0,.code (ao (ab Tryz.f108) [1,1,1])]
noncomputable abbrev vl:List Item:=[.code (ao (ab Tryz.f120) [1,1,0,1,0,0]),.inLoop (ao (ab Tryz.f120) [1,1,0,1,0,0]),.inBlock 0,.code (ao (ab Tryz.f120) [1,1,1])]
noncomputable abbrev Bp:List Item:=[.code (ao (ab Tryz.f105) [1,1,0,1,0,0]),.inLoop (ao (ab Tryz.f105) [1,1,0,1,0,0]),.inBlock 0,.code (ao (ab Tryz.f105) [1,1,1])]
noncomputable abbrev ve:List Item:=[.code (ao (ab Tryz.f25) [1,1,1,0,0,0]),.inLoop (ao (ab Tryz.f25) [1,1,1,0,0,0]),.inBlock 0,.code (ao (ab Tryz.f25) [1,1,1,1])]
noncomputable abbrev Bt:List Item:=[.code (ao (ab Tryz.f109) [1,1,0,1,0,0]),.inLoop (ao (ab Tryz.f109) [1,1,0,1,0,0]),.inBlock 0,.code (ao (ab Tryz.f109) [1,1,1])]
noncomputable abbrev zz:List Item:=[.code (ao (ab Tryz.f110) [1,1,0,1,0,0]),.inLoop (ao (ab Tryz.f110) [1,1,0,1,0,0]),.inBlock 0,.code (ao (ab Tryz.f110) [1,1,1])]
noncomputable abbrev ua:List Item:=[.code (ao (ab Tryz.f101) [1,1,0,1,0,0]),.inLoop (ao (ab Tryz.f101) [1,1,0,1,0,0]),.inBlock 0,.code (ao (ab Tryz.f101) [1,1,1])]
noncomputable abbrev xy:List Item:=[.code (ao (ab Tryz.f67) [1,1,0,1,0,0]),.inLoop (ao (ab Tryz.f67) [1,1,0,1,0,0]),.inBlock 0,.code (ao (ab Tryz.f67) [1,1,1])]
noncomputable abbrev yM:List Item:=[.code (ao (ab Tryz.f22) [1,1,0,1,0,0]),.inLoop (ao (ab Tryz.f22) [1,1,0,1,0,0]),.inBlock 0,.code (ao (ab Tryz.f22) [1,1,1])]
noncomputable abbrev yQ:List Item:=[.code (ao (ab Tryz.f99) [1,1,0,1,0,0]),.inLoop (ao (ab Tryz.f99) [1,1,0,1,0,0]),.inBlock 0,.code (ao (ab Tryz.f99) [1,1,1])]
noncomputable abbrev yj:List Item:=[.code (ao (ab Tryz.f10) [1,1,0,1,0,0]),.inLoop (ao (ab Tryz.f10) [1,1,0,1,0,0]),.inBlock 0,.code (ao (ab Tryz.f10) [1,1,1])]
noncomputable abbrev w8:List Item:=[.code (ao (ab Tryz.f23) [1,1,0,1,0,0]),.inLoop (ao (ab Tryz.f23) [1,1,0,1,0,0]),.inBlock 0,.code (ao (ab Tryz.f23) [1,1,1])]
noncomputable abbrev AR:List Item:=[.code (ao (ab Tryz.f88) [1,1,0,1,0,0]),.inLoop (ao (ab Tryz.f88) [1,1,0,1,0,0]),.inBlock 0,.code (ao (ab Tryz.f88) [1,1,1])]
noncomputable abbrev tp:List Item:=[.code (ao (ab Tryz.f26) [1,1,0,1,0,0]),.inLoop (ao (ab Tryz.f26) [1,1,0,1,0,0]),.inBlock 0,.code (ao (ab Tryz.f26) [1,1,1])]
noncomputable abbrev uA:List Item:=[.code (ao (ab Tryz.f69) [1,1,0,1,0,0]),.inLoop (ao (ab Tryz.f69) [1,1,0,1,0,0]),.inBlock 0,.code (ao (ab Tryz.f69) [1,1,1])]
noncomputable abbrev yx:List Item:=[.code (ao (ab Tryz.f29) [1,1,0,1,0,0]),.inLoop (ao (ab Tryz.f29) [1,1,0,1,0,0]),.inBlock 0,.code (ao (ab Tryz.f29) [1,1,1])]
noncomputable abbrev n4:List Item:=[.code (ao (ab Tryz.f61) [1,1,0,1,0,0]),.inLoop (ao (ab Tryz.f61) [1,1,0,1,0,0]),.inBlock 2,.code (ao (ab Tryz.f61) [1,1,1])]
noncomputable abbrev xD:List Item:=[.code (ao (ab Tryz.f13) [1,1,0,1,0,0]),.inLoop (ao (ab Tryz.f13) [1,1,0,1,0,0]),.inBlock 0,.code (ao (ab Tryz.f13) [1,1,1])]
noncomputable abbrev tJ:List Item:=[.code (ao (ab Tryz.f34) [1,1,0,1,0,0]),.inLoop (ao (ab Tryz.f34) [1,1,0,1,0,0]),.inBlock 0,.code (ao (ab Tryz.f34) [1,1,1])]
noncomputable abbrev Aj:List Item:=[.code (ao (ab Tryz.f19) [1,1,0,1,0,0]),.inLoop (ao (ab Tryz.f19) [1,1,0,1,0,0]),.inBlock 0,.code (ao (ab Tryz.f19) [1,1,1])]
noncomputable abbrev ro:List Item:=[.code (ao (ab Tryz.f107) [1,1,0,0,0]),.inLoop (ao (ab Tryz.f107) [1,1,0,0,0]),.inBlock 0,.code (ao (ab Tryz.f107) [1,1,1])]
noncomputable abbrev vk (x0:(Int×Int×Int×Int×Int×Unit)):AV:=.agg [.p (.int .i64 (if x0.2.2.2.1<x0.2.2.1 then x0.2.2.2.1 else x0.2.2.1)),.p (.int .i64 (if x0.2.2.2.1>x0.2.2.1 then x0.2.2.2.1 else x0.2.2.1))]
noncomputable abbrev Ep (x0:Nat) (x1:Nat→(Int×Int×Unit)) (x2:Nat) (x3:Nat→Int):Hp:=[(0,⟨false,2,x0,(fun i=>[.p (.int .i64 ((x1 i).1)),.p (.int .i64 ((x1 i).2.1))])⟩),(1,⟨false,1,x2,(fun i=>[.p (.int .i64 (x3 i))])⟩)]
noncomputable abbrev xK:List Item:=[.code (ao (ab Tryz.f44) [1,0,1,0,0]),.inLoop (ao (ab Tryz.f44) [1,0,1,0,0]),.inBlock 0,.code (ao (ab Tryz.f44) [1,1])]
noncomputable abbrev ut:List Item:=[.code (ao (ab Tryz.f98) [1,0,1,0,0]),.inLoop (ao (ab Tryz.f98) [1,0,1,0,0]),.inBlock 0,.code (ao (ab Tryz.f98) [1,1])]
noncomputable abbrev x9:List Item:=[.code (ao (ab Tryz.f36) [1,0,1,0,0]),.inLoop (ao (ab Tryz.f36) [1,0,1,0,0]),.inBlock 0,.code (ao (ab Tryz.f36) [1,1])]
noncomputable abbrev w4:List Item:=[.code (ao (ab Tryz.f61) [1,0,1,0,0]),.inLoop (ao (ab Tryz.f61) [1,0,1,0,0]),.inBlock 0,.code (ao (ab Tryz.f61) [1,1])]
noncomputable abbrev B6 (x0:Nat) (x1:Nat→(Int×Int×Unit)) (x2:Nat→Int):Hp:=[(0,⟨false,2,x0,(fun i=>[.p (.int .i64 ((x1 i).1)),.p (.int .i64 ((x1 i).2.1))])⟩),(1,⟨false,1,3,(fun i=>[.p (.int .i64 (x2 i))])⟩)]
noncomputable abbrev xu:List Item:=[.code (ao (ab Tryz.f86) [1,0,1,0,0]),.inLoop (ao (ab Tryz.f86) [1,0,1,0,0]),.inBlock 0,.code (ao (ab Tryz.f86) [1,1])]
noncomputable abbrev yg:List Item:=[.code (ao (ab Tryz.f18) [1,0,1,0,0]),.inLoop (ao (ab Tryz.f18) [1,0,1,0,0]),.inBlock 0,.code (ao (ab Tryz.f18) [1,1])]
noncomputable abbrev xj:List Item:=[.code (ao (ab Tryz.f72) [1,0,1,0,0]),.inLoop (ao (ab Tryz.f72) [1,0,1,0,0]),.inBlock 0,.code (ao (ab Tryz.f72) [1,1])]
noncomputable abbrev yv:List Item:=[.code (ao (ab Tryz.f73) [1,0,1,0,0]),.inLoop (ao (ab Tryz.f73) [1,0,1,0,0]),.inBlock 0,.code (ao (ab Tryz.f73) [1,1])]
noncomputable abbrev rl:List Item:=[.code (ao (ab Tryz.f127) [1,0,0,0]),.inLoop (ao (ab Tryz.f127) [1,0,0,0]),.inBlock 0,.code (ao (ab Tryz.f127) [1,1])]
noncomputable abbrev vA (x0:Nat) (x1:Nat→Int) (x2:Nat×Int):Hp:=[(0,⟨true,3,1,(fun i_1=>[.p (.seq false 1 x0 (fun i_2=>[.int .u8 (x1 i_2)])),.p (.int .i64 (↑x2.1:Int)),.p (.int .i64 x2.2)])⟩)]
noncomputable abbrev am (x0:Nat) (x1:Nat→Int) (x2:Nat×Int):Hp:=[(0,⟨true,3,1,(fun i=>[.p (.seq false 1 x0 (fun i_1=>[.int .u8 (x1 i_1)])),.p (.int .i64 (↑x2.1:Int)),.p (.int .i64 x2.2)])⟩)]
noncomputable abbrev Aq:List Item:=[.code (ao (ab Tryz.f78) [1,1,0,0]),.code (ao (ab Tryz.f78) [1,1,0,1]),.code (ao (ab Tryz.f78) [1,1,1])]
noncomputable abbrev br (x0:(Int×(Nat×(Nat→(Int×Int×Unit)))×Unit)):AV:=.agg [.p (.int .i64 x0.1),.p (.seq true 2 x0.2.1.1 (fun i=>[.int .i64 ((x0.2.1.2 i).1),.int .i64 ((x0.2.1.2 i).2.1)]))]
noncomputable abbrev wb:List Item:=[.code (ao (ab Tryz.f3) [1,1,1,1,1,1,1,1,1,0]),.code (ao (ab Tryz.f3) [1,1,1,1,1,1,1,1,1,1])]
noncomputable abbrev za (x0:Nat) (x1:Nat) (x2:Nat→(Int×Int×Unit)):AV:=.agg [.p (.int .i64 (↑x0:Int)),.p (.seq true 2 x1 (fun i_1=>[.int .i64 ((x2 i_1).1),.int .i64 ((x2 i_1).2.1)]))]
noncomputable abbrev jv (x0:Nat) (x1:Nat) (x2:Nat→(Int×Int×Unit)):AV:=.agg [.p (.int .i64 (↑x0:Int)),.p (.seq true 2 (x1+1) (fun i=>[.int .i64 ((x2 i).1),.int .i64 ((x2 i).2.1)]))]
noncomputable abbrev wq (x0:(Int×(Nat×(Nat→(Int×Int×Unit)))×Unit)) (x1:Nat):AV:=.agg [.p (.int .i64 ((x0.2.1.2 ((↑x1:Int) - 1).toNat).1)),.p (.int .i64 ((x0.2.1.2 ((↑x1:Int) - 1).toNat).2.1))]
noncomputable abbrev ak (x0:Nat) (x1:Nat) (x2:Nat→(Int×Int×Unit)):AV:=.agg [.p (.int .i64 (↑x0:Int)),.p (.seq true 2 x1 (fun i=>[.int .i64 ((x2 i).1),.int .i64 ((x2 i).2.1)]))]
noncomputable abbrev vQ (x0:Nat→Int):AV:=.agg [.p (.int .i64 (if x0 1<x0 0 then x0 1 else x0 0)),.p (.int .i64 (if x0 1>x0 0 then x0 1 else x0 0))]
noncomputable abbrev zc (x0:Nat→Int):AV:=.agg [.p (.int .i64 (if x0 2<x0 1 then x0 2 else x0 1)),.p (.int .i64 (if x0 2>x0 1 then x0 2 else x0 1))]
noncomputable abbrev vX (x0:Int) (x1:Nat) (x2:Nat→(Int×Int×Unit)):AV:=.agg [.p (.int .i64 (2+x0)),.p (.seq true 2 x1 (fun i=>[.int .i64 ((x2 i).1),.int .i64 ((x2 i).2.1)]))]
noncomputable abbrev wB (x0:(Int×(Nat×(Nat→(Int×Int×Unit)))×Unit)):Hp:=[(0,⟨false,2,x0.2.1.1,(fun i=>[.p (.int .i64 ((x0.2.1.2 i).1)),.p (.int .i64 ((x0.2.1.2 i).2.1))])⟩)]
noncomputable abbrev cq (x0:Int) (x1:Nat) (x2:Nat→(Int×Int×Unit)):AV:=.agg [.p (.int .i64 x0),.p (.seq true 2 x1 (fun i=>[.int .i64 ((x2 i).1),.int .i64 ((x2 i).2.1)]))]
noncomputable abbrev iT (x0:Nat) (x1:Nat→(Int×Int×Unit)):Hp:=[(0,⟨false,2,(x0+1),(fun i=>[.p (.int .i64 ((x1 i).1)),.p (.int .i64 ((x1 i).2.1))])⟩)]
noncomputable abbrev qN:List Item:=[.code (ao (ab Tryz.f62) [1,0,0]),.inLoop (ao (ab Tryz.f62) [1,0,0]),.inBlock 0]
noncomputable abbrev qO (x0:Int) (x1:Int):AV:=.agg [.p (.int .i64 (if x0<x1 then x0 else x1)),.p (.int .i64 (if x0>x1 then x0 else x1))]
noncomputable abbrev bg (x0:Nat) (x1:Nat→(Int×Int×Unit)):Hp:=[(0,⟨false,2,x0,(fun i=>[.p (.int .i64 ((x1 i).1)),.p (.int .i64 ((x1 i).2.1))])⟩)]
noncomputable abbrev zu:List Item:=[.code (ao (ab Tryz.f95) [1,1,1,0]),.code (ao (ab Tryz.f95) [1,1,1,1])]
noncomputable abbrev oy (x0:Nat→(Int×Int×Unit)) (x1:Nat→Int) (x2:Nat):AV:=.agg [.p (.int .i64 ((x0 (x1 x2).toNat).1)),.p (.int .i64 ((x0 (x1 x2).toNat).2.1))]
noncomputable abbrev pf (x0:(Int×(Nat×(Nat→(Int×Int×Unit)))×Unit)) (x1:Nat):AV:=.agg [.p (.int .i64 ((x0.2.1.2 x1).1)),.p (.int .i64 ((x0.2.1.2 x1).2.1))]
noncomputable abbrev vY (x0:Nat) (x1:Nat):AV:=.tup [.agg [.ar 1 0 0 x0,.ar 1 1 0 x1,.ar 1 2 0 x1],.p (.bool false)]
noncomputable abbrev oW (x0:Nat) (x1:Nat):AV:=.tup [.agg [.ar 1 0 0 x0,.ar 1 1 0 x1,.ar 1 2 0 x1],.p (.bool true)]
noncomputable abbrev wt (x0:Nat) (x1:Nat):AV:=.tup [.agg [.p (.int .i64 (↑x0:Int)),.ar 2 0 0 x1],.ar 1 1 0 3]
noncomputable abbrev wy (x0:Int) (x1:(Nat×(Nat→(Int×Int×Unit)))):AV:=.tup [.agg [.p (.int .i64 x0),.ar 2 0 0 x1.1],.p (.bool true)]
noncomputable abbrev jE (x0:Nat) (x1:Nat):AV:=.tup [.agg [.p (.int .i64 x0),.ar 2 0 0 x1],.p (.bool false)]
noncomputable abbrev wM:AV:=.tup [.agg [.p (.int .i64 0),.ar 2 0 0 0],.p (.bool false)]
theorem be {c:Cx} {f:FuncId} {fn:Func} {n:Nat} {sc:List ScI} {k:List Item} {st:St} {keep:List K} {d:Nat} {H':Hp} {res:AV} {ob:List Prop} (hf:Tryz.prog.funcs[f]? = some fn) (hc:c.n=n)
    (h:kF Tryz.prog fn n sc k st keep d H' res=some ob) (hob:af ob):Run Tryz.prog c f k st (aS c H' res):=vt wE hf hc h hob
theorem cW {c:Cx} {f:FuncId} {R:Ending→World→Prop} {n:Nat} {sc:List ScI} {k k2:List Item} {st st2:St} {keep:List K} {d:Nat} {ob:List Prop} (hc:c.n=n)
    (h:ij Tryz.prog n sc k st keep d st2=some (k2,ob)) (hob:af ob) (hr:Run Tryz.prog c f k2 st2 R):Run Tryz.prog c f k st R:=sL wE hc h hob hr
theorem aW {f:FuncId} {fn:Func} {n:Nat} {H H':Hp} {args:List AV} {res:AV} (hf:Tryz.prog.funcs[f]? = some fn)
    (hrun:∀ c:Cx,c.n=n→Run Tryz.prog c f [.code (ab fn)] (start fn H n args) (aS c H' res)) (hb:fn.body=some (ab fn):=by exact rfl) (hen:cT Tryz.prog f=true:=by kernel_rfl)
    (hkeys:(H.all fun e=>Nat.blt e.1 n)=true:=by exact rfl):Con Tryz.prog f n H args H' res:=yw hf hb hen hkeys hrun
abbrev jI (n : Int) : AV := .p (.int .i64 n)
abbrev jB (b : Bool) : AV := .p (.bool b)
def aF (g : Nat → Int × Int × Unit) : Nat → List PV := fun i => [.int .i64 (g i).1, .int .i64 (g i).2.1]
def c8 (w : Nat × (Nat → Int)) : Nat → List PV := fun i => [.int .i64 (w.2 i)]
def sO (v : Int × (Nat × (Nat → Int × Int × Unit)) × Unit) (k : Nat) : Int × Int × Unit := v.2.1.2 (k : Int).toNat
def zD (l : List Prop) (n : List Nat) : List Prop := n.map fun i => l.getD i True
theorem zA {l : List Prop} (h : af l) : ∀ n, af (zD l n)
  | [] => trivial
  | i :: n => ⟨by
    show l.getD i True
    induction l generalizing i with
    | nil => exact trivial
    | cons a r ih =>
      cases i with
      | zero => exact h.1
      | succ i => exact ih h.2 i, zA h n⟩
noncomputable abbrev zE (f : FuncId) (a : List AV) (H : Hp) (r : AV) : Prop := Con Tryz.prog f 0 [] a H r
noncomputable abbrev zR (c : Cx) (f : FuncId) := Run Tryz.prog c f
noncomputable abbrev zP := kF Tryz.prog
noncomputable abbrev zM := ij Tryz.prog
noncomputable abbrev zS (f : Func) (s : List ScI) (a : List AV) (k : List K) := kF Tryz.prog f 0 s [.code (ab f)] (start f [] 0 a) k 1
noncomputable abbrev zT (f : Func) (s : List ScI) (a : List AV) (k : List K) (t : St) := ij Tryz.prog 0 s [.code (ab f)] (start f [] 0 a) k 1 t
theorem bz {c : Cx} {f : FuncId} {fn : Func} {n : Nat} {sc : List ScI} {k : List Item} {st : St} {keep : List K} {d : Nat} {H' : Hp} {res : AV} {ob : List Prop} {is : List Nat} (hf : Tryz.prog.funcs[f]? = some fn) (hc : c.n = n)
    (h : kF Tryz.prog fn n sc k st keep d H' res = some (zD ob is)) (hob : af ob) : Run Tryz.prog c f k st (aS c H' res) := vt wE hf hc h (zA hob is)
theorem a9 {c : Cx} {f : FuncId} {R : Ending → World → Prop} {n : Nat} {sc : List ScI} {k k2 : List Item} {st st2 : St} {keep : List K} {d : Nat} {ob : List Prop} {is : List Nat} (hc : c.n = n)
    (h : ij Tryz.prog n sc k st keep d st2 = some (k2, zD ob is)) (hob : af ob) (hr : Run Tryz.prog c f k2 st2 R) : Run Tryz.prog c f k st R := sL wE hc h (zA hob is) hr
theorem zN {p : Prop} (h : p := by first | exact aG _ | exact aP _ _ | exact aA _ _ | exact aE _ | omega | rfl | (intros; first | assumption | exact trivial | rfl)) : p := h
theorem zI {p : Prop} (h : p := by first | exact aG _ | exact aP _ _ | exact aA _ _ | exact aE _ | omega | rfl | (intros; first | assumption | exact trivial | rfl | exact fT ‹_›)) : p := h
theorem zH {p : Prop} (h : p := by first | exact aG _ | exact aP _ _ | exact aA _ _ | exact aE _ | omega | rfl | (intros; first | assumption | exact trivial | rfl | exact fT ‹_› | ((repeat' (first | assumption | apply IB | apply Gj)) <;> fail))) : p := h
abbrev ad:=Nat×(Nat→Int)
abbrev aa:=Int×Int×Unit
abbrev b5:=Nat×(Nat→aa)
def a6:Sh:=(.st [(.int .i64),(.sl (.st [(.int .i64),(.int .i64)]))])
abbrev ai:=Int×b5×Unit
abbrev ae:=Int×Int×Unit
abbrev Af:=Nat×(Nat→ae)
abbrev rH:=ai×Af×Unit
abbrev js:=rH×ad×Unit
abbrev ap:=Int×Int×Int×Int×Int×Unit
abbrev aT:=Nat×(Nat→ap)
def dL:Sh:=(.st [(.int .i64),(.st [(.int .i64),(.sl (.st [(.int .i64),(.int .i64)]))]),(.st [(.st [(.st [(.int .i64),(.sl (.st [(.int .i64),(.int .i64)]))]),(.sl (.st [(.int .i64),(.int .i64)]))]),(.sl (.int .i64))]),(.sl (.st [(.int .i64),(.int .i64),(.int .i64),(.int .i64),(.int .i64)])),(.sl (.int .i64))])
abbrev cF:=Int×ai×js×aT×ad×Unit
def B9 (a b:aa):Bool:=a.1==b.1&&(a.2.1==b.2.1&&true)
def vP (g h:Nat→aa):Nat→Bool
  | 0=>true
  | k+1=>vP g h k&&B9 (g k) (h k)
def Ez (v u:b5):Bool:=if v.1=u.1 then vP v.2 u.2 v.1 else false
def fB (a b:Int):Bool:=a==b
def bW (g h:Nat→Int):Nat→Bool
  | 0=>true
  | k+1=>bW g h k&&fB (g k) (h k)
def bR (v u:ad):Bool:=if v.1=u.1 then bW v.2 u.2 v.1 else false
def fj (v u:ad) (k:Nat):St :=
  ⟨[.p (.seq true 1 v.1 (fun i=>[.int .i64 (v.2 i)])),.p (.seq true 1 u.1 (fun i=>[.int .i64 (u.2 i)]))]++List.replicate 10 ag++[.p (.int .i64 v.1),.p (.int .i64 k)]++List.replicate 12 ag,[],0⟩
theorem uX (v u:ad) :
    zS Tryz.f67 [rg 1,rg 5,.dec true,rg 1] [.p (.seq true 1 v.1 (c8 v)),.p (.seq true 1 u.1 (c8 u))] [] [] (jB false) =
    some [(((v.1:Int) != (u.1:Int))=true),(false=false)]:=by kernel_rfl
theorem uI (v u:ad) :
    zT Tryz.f67 [rg 1,rg 5,.dec false,rg 3,.head] [.p (.seq true 1 v.1 (c8 v)),.p (.seq true 1 u.1 (c8 u))] [] (fj v u 0) =
    some (xy,[(((v.1:Int) != (u.1:Int))=false),(AN v.1),(AP v.1 (c8 v)),(AN u.1),(AP u.1 (c8 u)),(AI ((v.1:Int))),((0:Int)=(↑0:Int))]):=by kernel_rfl
theorem sU (v u:ad) (k:Nat) :
    zM 0 [rg 1,.dec true,rg 2,rg 9,.dec false,rg 2,.head] xy (fj v u k) [] 1 (fj v u (k+1)) =
    some (xy,[((decide ((k:Int)<(v.1:Int)))=true),(IL 0 (k:Int)),(IT (k:Int) (v.1:Int)),(IL 0 (k:Int)),(IT (k:Int) (u.1:Int)),((v.2 k != u.2 k)=false),(ax ((k:Int)+1)),(au ((k:Int)+1)),(AN v.1),(AP v.1 (c8 v)),(AN u.1),(AP u.1 (c8 u)),(AI ((v.1:Int))),((((k:Int)+1):Int)=(↑(k+1):Int))]):=by kernel_rfl
theorem tF (v u:ad) (k:Nat) :
    zP Tryz.f67 0 [rg 1,.dec true,rg 2,rg 9,.dec true,rg 1] xy (fj v u k) [] 1 [] (jB false) =
    some [((decide ((k:Int)<(v.1:Int)))=true),(IL 0 (k:Int)),(IT (k:Int) (v.1:Int)),(IL 0 (k:Int)),(IT (k:Int) (u.1:Int)),((v.2 k != u.2 k)=true),(false=false)]:=by kernel_rfl
theorem uB (v u:ad) (k:Nat) :
    zP Tryz.f67 0 [rg 1,.dec false,rg 1] xy (fj v u k) [] 1 [] (jB true) =
    some [((decide ((k:Int)<(v.1:Int)))=false),(true=true)]:=by kernel_rfl
theorem kO (g h:Nat→Int) (k:Nat) (e:fB (g k) (h k)=false):∀ n,k<n→bW g h n=false
  | 0,h'=>by omega
  | n+1,h'=>by
    by_cases e':k=n
    · subst e';simp [bW,e]
    · simp [bW,kO g h k e n (by omega)]
theorem uD (v u:ad) (hv:v.1≤1048576):zE 67 [.p (.seq true 1 v.1 (fun i=>[.int .i64 (v.2 i)])),.p (.seq true 1 u.1 (fun i=>[.int .i64 (u.2 i)]))] [] (.p (.bool (bR v u))):=by
  refine aW Tryz.func67 (fun c hc=>?_)
  by_cases hz:v.1=u.1
  · rw [show bR v u=bW v.2 u.2 v.1 by simp [bR,hz]]
    have lp:∀ m k,k+m=v.1→bW v.2 u.2 k=true→zR c 67 xy (fj v u k) (aS c [] (.p (.bool (bW v.2 u.2 v.1)))):=by
      intro m
      induction m with
      | zero =>
        intro k hk hg
        rw [show bW v.2 u.2 v.1=true by rw [show v.1=k by omega];exact hg]
        have hd:decide ((k:Int)<(v.1:Int))=false:=by simp;omega
        refine be Tryz.func67 hc (uB v u k) ?_
        and_intros
        all_goals (first | exact zN)
      | succ m ih =>
        intro k hk hg
        have hd:decide ((k:Int)<(v.1:Int))=true:=by simp;omega
        cases he:fB (v.2 k) (u.2 k) with
        | false =>
          rw [kO _ _ k he v.1 (by omega)]
          have he':(!fB (v.2 k) (u.2 k))=true:=Gj he
          refine be Tryz.func67 hc (tF v u k) ?_
          and_intros
          all_goals (first | exact zN | exact he')
        | true =>
          have he':(!fB (v.2 k) (u.2 k))=false:=Hs he
          refine cW hc (sU v u k) ?_ (ih (k+1) (by omega) (by simp [bW,hg,he]))
          and_intros
          all_goals (first | exact zN | exact he')
    refine cW hc (uI v u) ?_ (lp v.1 0 (by omega) rfl)
    and_intros
    all_goals (first | exact zN | (simp;omega))
  · rw [show bR v u=false by simp [bR,hz]]
    refine be Tryz.func67 hc (uX v u) ?_
    and_intros
    all_goals (first | exact zN | (simp;omega))
def bC (x a b:Int):Bool:=decide (a≤x)&&decide (x≤b)
theorem LC (x a b:Int) :
    zS Tryz.f41 [rg 1,rg 9] [jI x,jI a,jI b] [] [] (jB (bC x a b)) =
    some (zD [(AG (decide (x≥a))),((bif decide (x≥a) then decide (x≤b) else false)=(bC x a b))] [0,0,0,1]):=by kernel_rfl
theorem Ku (x a b:Int) :
    zS Tryz.f58 [rg 1,rg 9] [jI x,jI a,jI b] [] [] (jB (bC x a b)) =
    some (zD [(AG (decide (x≥a))),((bif decide (x≥a) then decide (x≤b) else false)=(bC x a b))] [0,0,0,1]):=by kernel_rfl
theorem dY (x a b:Int):zE 41 [.p (.int .i64 x),.p (.int .i64 a),.p (.int .i64 b)] [] (.p (.bool (bC x a b))):=by
  refine aW Tryz.func41 (fun c hc=>?_)
  refine bz Tryz.func41 hc (LC x a b) ?_
  and_intros
  all_goals (first | exact zN | (simp only [bC];cases decide (a≤x)<;>rfl))
theorem bp (x a b:Int):zE 58 [.p (.int .i64 x),.p (.int .i64 a),.p (.int .i64 b)] [] (.p (.bool (bC x a b))):=by
  refine aW Tryz.func58 (fun c hc=>?_)
  refine bz Tryz.func58 hc (Ku x a b) ?_
  and_intros
  all_goals (first | exact zN | (simp only [bC];cases decide (a≤x)<;>rfl))
def yE (n:Nat) (f:Nat→Int):AV:=.p (.seq true 1 n (fun i=>[.int .u8 (f i)]))
def GT (n:Nat) (f:Nat→Int):AV:=.p (.seq false 1 n (fun i=>[.int .u8 (f i)]))
def aR (n:Nat) (f:Nat→Int) (s:Nat×Int):Ob:=⟨true,3,1,fun _=>[GT n f,.p (.int .i64 (s.1:Int)),.p (.int .i64 s.2)]⟩
def F9 (n:Nat) (f:Nat→Int) (i:Nat) (h:Int):St :=
  ⟨[GT n f,.p .any,.p .any,.p (.int .i64 h),.p (.int .i64 i)]++List.replicate 27 ag,[],0⟩
def HC (h y:Int):Int:=bj .and .i64 (IntKind.i64.wrap (IntKind.i64.wrap (IntKind.i64.wrap (h*131)+y)+7)) 1073741823
def zp (h:Int):Int:=IntKind.i64.wrap (IntKind.i64.wrap (h*6364136223846793005)+1442695040888963407)
def GX (h:Int):Int:=bj .and .i64 (bj .xor .i64 (bT .i64 (zp h) 33) (bT .i64 (zp h) 45)) 255
def Hy (h y:Int):Int:=bj .and .i64 (GX h+y) 255
theorem Fu (n:Nat) (f:Nat→Int) :
    zS Tryz.f4 [rg 1,rg 4] [yE n f] [] [] (jB (decide ((n:Int)>1048576))) =
    some (let A:Bool:=decide ((n:Int)>1048576);[((A)=(A))]):=by kernel_rfl
theorem Ic (n:Nat) (f:Nat→Int) :
    zT Tryz.f22 [rg 1,rg 4,rg 1,.head] [GT n f] [] (F9 n f 0 (10101+n)) =
    some (yM,[(ax (10101+(n:Int))),(au (10101+(n:Int))),(AN n),(AP n (fun i=>[.int .u8 (f i)])),(AI ((10101+(n:Int)))),((0:Int)=(↑0:Int))]):=by kernel_rfl
theorem H3 (n:Nat) (f:Nat→Int) (i:Nat) (h:Int) :
    zM 0 [rg 8,.dec true,rm [(1,oF),(5,oF),(0,oF)] 2,rg 3,.head] yM (F9 n f i h) [] 1 (F9 n f (i+1) (HC h (f i))) =
    some (yM,zD (let A:Bool:=decide ((i:Int)<(n:Int));[(AG A),((bif A then decide ((i:Int)<4000) else false)=true),(IL 0 (i:Int)),(IT (i:Int) (n:Int)),(ax (f i)),(au (f i)),(ax ((i:Int)+1)),(au ((i:Int)+1)),(AN n),(AP n (fun i_1=>[.int .u8 (f i_1)])),(((bj BinOp.and IntKind.i64 (IntKind.i64.wrap (IntKind.i64.wrap (IntKind.i64.wrap (h*131)+f i)+7)) 1073741823):Int)=(HC h (f i))),((((i:Int)+1):Int)=(↑(i+1):Int))]) [0,0,1,2,3,4,5,6,7,8,9,10,11]):=by kernel_rfl
theorem FG (n:Nat) (f:Nat→Int) (i:Nat) (h:Int) :
    zP Tryz.f22 0 [rg 8,.dec false,rg 5] yM (F9 n f i h) [352] 1 [(0,aR n f (0,h))] (.pt 3 0 0 0) =
    some (zD [(AG (decide ((i:Int)<(n:Int)))),((bif decide ((i:Int)<(n:Int)) then decide ((i:Int)<4000) else false)=false),(AN 0),((((db (db (List.map (fun v=>AV.p (bZ v)) [Value.slice none 0 0,Value.int IntKind.i64 0,Value.int IntKind.i64 0]).length 0 (List.map (fun v=>AV.p (bZ v)) [Value.slice none 0 0,Value.int IntKind.i64 0,Value.int IntKind.i64 0]) [AV.p (PV.seq false 1 n fun i=>[PV.int IntKind.u8 (f i)])]).length 2 (db (List.map (fun v=>AV.p (bZ v)) [Value.slice none 0 0,Value.int IntKind.i64 0,Value.int IntKind.i64 0]).length 0 (List.map (fun v=>AV.p (bZ v)) [Value.slice none 0 0,Value.int IntKind.i64 0,Value.int IntKind.i64 0]) [AV.p (PV.seq false 1 n fun i=>[PV.int IntKind.u8 (f i)])]) [AV.p (PV.int IntKind.i64 h)]).length):Nat)=3),(NL 1 1),(AN n),(AP n (fun i_1=>[.int .u8 (f i_1)])),((0:Int)=(↑0:Int)),(AI h),(∀ i_1:Nat,(((i_1:Nat)<1)→af [(false=false),(AE n)]))] [0,0,1,2,3,4,4,5,6,7,8,9]):=by kernel_rfl
theorem Ie (n:Nat) (f:Nat→Int) (s:Nat×Int) :
    zP Tryz.f87 1 [rg 1,rm [(5,oF),(0,oF)] 3,rg 13,rg 10,.dec true,rg 15,rg 9,rg 2] [.code (ab Tryz.f87)] (start Tryz.f87 [(0,aR n f s)] 1 [.pt 3 0 0 0]) [0] 1 [(0,aR n f (s.1+1,zp s.2))] (jI (Hy s.2 (f s.1))) =
    some (zD [(NT 0 1),((true=true)→(AN 1)),(IL 0 33),(IL 0 45),((decide ((s.1:Int)<(n:Int)))=true),(IL 0 (s.1:Int)),(IT (s.1:Int) (n:Int)),(ax (f s.1)),(au (f s.1)),(ax (bj BinOp.and IntKind.i64 (bj BinOp.xor IntKind.i64 (bT IntKind.i64 (IntKind.i64.wrap (IntKind.i64.wrap (s.2*6364136223846793005)+1442695040888963407)) 33) (bT IntKind.i64 (IntKind.i64.wrap (IntKind.i64.wrap (s.2*6364136223846793005)+1442695040888963407)) 45)) 255+f s.1)),(au (bj BinOp.and IntKind.i64 (bj BinOp.xor IntKind.i64 (bT IntKind.i64 (IntKind.i64.wrap (IntKind.i64.wrap (s.2*6364136223846793005)+1442695040888963407)) 33) (bT IntKind.i64 (IntKind.i64.wrap (IntKind.i64.wrap (s.2*6364136223846793005)+1442695040888963407)) 45)) 255+f s.1)),(ax ((s.1:Int)+1)),(au ((s.1:Int)+1)),(((bj BinOp.and IntKind.i64 (bj BinOp.and IntKind.i64 (bj BinOp.xor IntKind.i64 (bT IntKind.i64 (IntKind.i64.wrap (IntKind.i64.wrap (s.2*6364136223846793005)+1442695040888963407)) 33) (bT IntKind.i64 (IntKind.i64.wrap (IntKind.i64.wrap (s.2*6364136223846793005)+1442695040888963407)) 45)) 255+f s.1) 255):Int)=(Hy s.2 (f s.1))),(AN 3),(NL 1 1),(AN n),(AP n (fun i=>[.int .u8 (f i)])),((((s.1:Int)+1):Int)=(↑(s.1+1):Int)),(((IntKind.i64.wrap (IntKind.i64.wrap (s.2*6364136223846793005)+1442695040888963407)):Int)=(zp s.2)),(∀ i:Nat,(((i:Nat)<1)→af [(false=false),(AE n)]))] [0,0,1,0,2,0,3,0,0,4,0,0,5,6,7,8,9,10,0,11,12,0,1,13,14,15,15,16,17,18,19,20]):=by kernel_rfl
theorem ID (n:Nat) (f:Nat→Int) (s:Nat×Int) :
    zP Tryz.f87 1 [rg 1,rm [(5,oF),(0,oF)] 3,rg 13,rg 10,.dec false,rg 2] [.code (ab Tryz.f87)] (start Tryz.f87 [(0,aR n f s)] 1 [.pt 3 0 0 0]) [0] 1 [(0,aR n f (s.1,zp s.2))] (jI (GX s.2)) =
    some (zD [(NT 0 1),((true=true)→(AN 1)),(IL 0 33),(IL 0 45),((decide ((s.1:Int)<(n:Int)))=false),(((bj BinOp.and IntKind.i64 (bj BinOp.xor IntKind.i64 (bT IntKind.i64 (IntKind.i64.wrap (IntKind.i64.wrap (s.2*6364136223846793005)+1442695040888963407)) 33) (bT IntKind.i64 (IntKind.i64.wrap (IntKind.i64.wrap (s.2*6364136223846793005)+1442695040888963407)) 45)) 255):Int)=(GX s.2)),(AN 3),(NL 1 1),(AN n),(AP n (fun i=>[.int .u8 (f i)])),(AI ((s.1:Int))),(((IntKind.i64.wrap (IntKind.i64.wrap (s.2*6364136223846793005)+1442695040888963407)):Int)=(zp s.2)),(∀ i:Nat,(((i:Nat)<1)→af [(false=false),(AE n)]))] [0,0,1,0,2,0,3,0,0,4,5,6,7,7,8,9,10,11,12]):=by kernel_rfl
theorem HA (n:Nat) (f:Nat→Int) (s:Nat×Int) (k:Int) :
    zP Tryz.f53 1 [rg 1,rg 2,.dec true,rg 1] [.code (ab Tryz.f53)] (start Tryz.f53 [(0,aR n f s)] 1 [.pt 3 0 0 0,jI k]) [0] 1 [(0,aR n f s)] (jI 0) =
    some [((decide (k≤0))=true),(AI 0),(AN 3),(NL 1 1),(NL 1 1),(AN n),(AP n (fun i=>[.int .u8 (f i)])),(AI ((s.1:Int))),(AI s.2),(∀ i:Nat,(((i:Nat)<1)→af [(false=false),(AE n)]))]:=by kernel_rfl
theorem Im (n:Nat) (f:Nat→Int) (s s2:Nat×Int) (k x:Int) :
    zP Tryz.f53 1 [rg 1,rg 2,.dec false,rg 2,.dec true,rm [(1,⟨true,(some ⟨[0],[1000],[],1,[(0,aR n f s2)],jI x⟩),none⟩)] 3] [.code (ab Tryz.f53)] (start Tryz.f53 [(0,aR n f s)] 1 [.pt 3 0 0 0,jI k]) [0] 1 [(0,aR n f s2)] (jI (x.tmod k)) =
    some [((decide (k≤0))=false),((decide (k≤256))=true),(AE 1),Con Tryz.prog 87 1 (am n f s) [.pt 3 0 0 0] (am n f s2) (jI x),(IL 0 x),(IT 0 k),(((x % k):Int)=(x.tmod k)),(AN 3),(NL 1 1),(NL 1 1),(AN n),(AP n (fun i=>[.int .u8 (f i)])),(AI ((s2.1:Int))),(AI s2.2),(∀ i:Nat,(((i:Nat)<1)→af [(false=false),(AE n)]))]:=by kernel_rfl
theorem Kb (n:Nat) (f:Nat→Int) (s s2:Nat×Int) (k x:Int) :
    zP Tryz.f90 1 [rg 1,rm [(2,⟨true,(some ⟨[0],[1000],[],1,[(0,aR n f s2)],jI x⟩),none⟩)] 2] [.code (ab Tryz.f90)] (start Tryz.f90 [(0,aR n f s)] 1 [.pt 3 0 0 0,jI k]) [0] 1 [(0,aR n f s2)] (jB (x==0)) =
    some [(AE 1),Con Tryz.prog 53 1 (am n f s) [.pt 3 0 0 0,jI k] (am n f s2) (jI x),((x==0)=(x==0)),(AN 3),(NL 1 1),(NL 1 1),(AN n),(AP n (fun i=>[.int .u8 (f i)])),(AI ((s2.1:Int))),(AI s2.2),(∀ i:Nat,(((i:Nat)<1)→af [(false=false),(AE n)]))]:=by kernel_rfl
theorem Ld (n:Nat) (f:Nat→Int) (s s2:Nat×Int) (m:Nat) (g:Nat→Int) (x:Nat) :
    zP Tryz.f82 1 [rg 1,rm [(4,⟨true,(some ⟨[0],[1000],[],1,[(0,aR n f s2)],jI x⟩),none⟩)] 3] [.code (ab Tryz.f82)] (start Tryz.f82 [(0,aR n f s)] 1 [.pt 3 0 0 0,.p (.seq true 1 m (fun i=>[.int .i64 (g i)]))]) [0] 1 [(0,aR n f s2)] (jI (g x)) =
    some [(AE 1),Con Tryz.prog 53 1 (am n f s) [.pt 3 0 0 0,jI (m:Int)] (am n f s2) (jI (x:Int)),(IL 0 (x:Int)),(IT (x:Int) (m:Int)),(AI ((g x))),(AN 3),(NL 1 1),(NL 1 1),(AN n),(AP n (fun i=>[.int .u8 (f i)])),(AI ((s2.1:Int))),(AI s2.2),(∀ i:Nat,(((i:Nat)<1)→af [(false=false),(AE n)]))]:=by kernel_rfl
theorem qA (a:Int):0≤bj .and .i64 a 255∧bj .and .i64 a 255≤255:=by
  have h:bj .and .i64 a 255=(((BitVec.ofInt 64 a).toNat &&& 255:Nat):Int):=by
    unfold bj
    have e1:(BitVec.ofInt IntKind.i64.bits a &&& BitVec.ofInt IntKind.i64.bits 255).toNat=(BitVec.ofInt 64 a).toNat &&& 255:=by
      rw [BitVec.toNat_and];rfl
    simp only [e1]
    have h2:(BitVec.ofInt 64 a).toNat &&& 255≤255:=Nat.and_le_right
    exact ew (by simp only [lv];omega) (by simp only [jF];omega)
  have h2:(BitVec.ofInt 64 a).toNat &&& 255≤255:=Nat.and_le_right
  rw [h]
  omega
def ff (n:Nat) (f:Nat→Int):Prop:=n≤1048576∧∀ i,i<n→0≤f i∧f i≤255
theorem Ci (n:Nat) (f:Nat→Int):zE 4 [yE n f] [] (.p (.bool (decide ((n:Int)>1048576)))):=by
  refine aW Tryz.func4 (fun c hc=>?_)
  refine be Tryz.func4 hc (Fu n f) ?_
  and_intros
  all_goals (first | exact zN | (simp;done))
set_option maxRecDepth 20000 in
theorem oB (n:Nat) (f:Nat→Int) (hn:ff n f):∃ s:Nat×Int,s.1≤n∧zE 22 [GT n f] [(0,aR n f s)] (.pt 3 0 0 0):=by
  have key:∀ e i h,i+e=n→∃ h':Int,∀ c:Cx,c.n=0→zR c 22 yM (F9 n f i h) (aS c [(0,aR n f (0,h'))] (.pt 3 0 0 0)):=by
    intro e
    induction e with
    | zero =>
      intro i h hi
      refine ⟨h,fun c hc=>?_⟩
      have hd:decide ((i:Int)<(n:Int))=false:=decide_eq_false (by omega)
      refine bz Tryz.func22 hc (FG n f i h) ?_
      and_intros
      iterate 2 all_goals (first | exact zN | (rw [hd];rfl) | (simp [hd];done) | simp only [af])
    | succ e ih =>
      intro i h hi
      by_cases h4:i<4000
      · obtain ⟨h',hr⟩:=ih (i+1) (HC h (f i)) (by omega)
        refine ⟨h',fun c hc=>?_⟩
        have hd:decide ((i:Int)<(n:Int))=true:=decide_eq_true (by omega)
        have hd4:decide ((i:Int)<4000)=true:=decide_eq_true (by omega)
        have hb:=hn.2 i (by omega)
        refine a9 hc (H3 n f i h) ?_ (hr c hc)
        and_intros
        all_goals (first | exact zN | (exact hd) | (exact hd4) | (rw [hd,hd4];rfl) | (simp [hd,hd4];done) | (simp;omega))
      · refine ⟨h,fun c hc=>?_⟩
        have hd4:decide ((i:Int)<4000)=false:=decide_eq_false (by omega)
        refine bz Tryz.func22 hc (FG n f i h) ?_
        and_intros
        iterate 2 all_goals (first | exact zN | (rw [hd4];cases decide ((i:Int)<(n:Int))<;>rfl) | (simp [hd4];done) | simp only [af])
  obtain ⟨h',hr⟩:=key n 0 (10101+n) (by omega)
  refine ⟨(0,h'),Nat.zero_le _,?_⟩
  have hn1:=hn.1
  refine aW Tryz.func22 (fun c hc=>?_)
  refine cW hc (Ic n f) ?_ (hr c hc)
  and_intros
  all_goals (first | exact zN | (simp;omega))
theorem u1 (n:Nat) (f:Nat→Int) (hn:ff n f) (s:Nat×Int) (hs:s.1≤n):∃ (s2:Nat×Int) (x:Int),s2.1≤n∧(0≤x∧x≤255) ∧
    Con Tryz.prog 87 1 [(0,aR n f s)] [.pt 3 0 0 0] [(0,aR n f s2)] (.p (.int .i64 x)):=by
  have hn1:=hn.1
  by_cases h:s.1<n
  · have hd:decide ((s.1:Int)<(n:Int))=true:=decide_eq_true (by omega)
    have hb:=hn.2 s.1 h
    have hx:=qA (bj .xor .i64 (bT .i64 (zp s.2) 33) (bT .i64 (zp s.2) 45))
    simp only [zp] at hx
    refine ⟨(s.1+1,zp s.2),Hy s.2 (f s.1),h,qA _,?_⟩
    refine aW Tryz.func87 (fun c hc=>?_)
    refine bz Tryz.func87 hc (Ie n f s) ?_
    and_intros
    iterate 2 all_goals (first | exact zI | (exact hd) | (exact hb.1) | (simp;done) | (simp;omega) | simp only [af])
  · have hd:decide ((s.1:Int)<(n:Int))=false:=decide_eq_false (by omega)
    refine ⟨(s.1,zp s.2),GX s.2,hs,qA _,?_⟩
    refine aW Tryz.func87 (fun c hc=>?_)
    refine bz Tryz.func87 hc (ID n f s) ?_
    and_intros
    iterate 2 all_goals (first | exact zI | (exact hd) | (simp;done) | (simp;omega) | simp only [af])
theorem aq (n:Nat) (f:Nat→Int) (hn:ff n f) (s:Nat×Int) (hs:s.1≤n) (k:Int) (hk:k≤256):∃ (s2:Nat×Int) (x:Int),s2.1≤n∧(0≤x∧(1≤k→x<k)∧x≤255) ∧
    Con Tryz.prog 53 1 [(0,aR n f s)] [.pt 3 0 0 0,.p (.int .i64 k)] [(0,aR n f s2)] (.p (.int .i64 x)):=by
  by_cases h:k≤0
  · have hd:decide (k≤0)=true:=decide_eq_true h
    refine ⟨s,0,hs,⟨Int.le_refl _,fun h1=>by omega,by omega⟩,?_⟩
    refine aW Tryz.func53 (fun c hc=>?_)
    refine be Tryz.func53 hc (HA n f s k) ?_
    and_intros
    iterate 2 all_goals (first | exact zN | (exact hd) | (simp;done) | simp only [af])
  · have hd:decide (k≤0)=false:=decide_eq_false h
    have hd2:decide (k≤256)=true:=decide_eq_true hk
    obtain ⟨s2,x,h2,hx,cb⟩:=u1 n f hn s hs
    have e:x.tmod k=x % k:=Int.tmod_eq_emod_of_nonneg hx.1
    have e1:=Int.emod_nonneg x (show k≠0 by omega)
    have e2:=Int.emod_lt_of_pos x (show 0<k by omega)
    refine ⟨s2,x.tmod k,h2,by rw [e];exact ⟨e1,fun _=>e2,by omega⟩,?_⟩
    refine aW Tryz.func53 (fun c hc=>?_)
    refine be Tryz.func53 hc (Im n f s s2 k x) ?_
    and_intros
    iterate 2 all_goals (first | exact zN | (exact hd) | (exact hd2) | (exact cb) | omega | (simp;done) | (simp;omega) | simp only [af])
theorem uu (n:Nat) (f:Nat→Int) (hn:ff n f) (s:Nat×Int) (hs:s.1≤n) (k:Int) (hk:k≤256):∃ (s2:Nat×Int) (b:Bool),s2.1≤n ∧
    Con Tryz.prog 90 1 [(0,aR n f s)] [.pt 3 0 0 0,.p (.int .i64 k)] [(0,aR n f s2)] (.p (.bool b)):=by
  obtain ⟨s2,x,h2,hx,cb⟩:=aq n f hn s hs k hk
  refine ⟨s2,x==0,h2,?_⟩
  refine aW Tryz.func90 (fun c hc=>?_)
  refine be Tryz.func90 hc (Kb n f s s2 k x) ?_
  and_intros
  iterate 2 all_goals (first | exact zN | (exact cb) | (simp;done) | simp only [af])
theorem n7 (n:Nat) (f:Nat→Int) (hn:ff n f) (s:Nat×Int) (hs:s.1≤n) (m:Nat) (g:Nat→Int) (hm:1≤m∧m≤256):∃ (s2:Nat×Int) (j:Nat),s2.1≤n∧j<m ∧
    Con Tryz.prog 82 1 [(0,aR n f s)] [.pt 3 0 0 0,.p (.seq true 1 m (fun i=>[.int .i64 (g i)]))] [(0,aR n f s2)] (.p (.int .i64 (g j))):=by
  obtain ⟨s2,x,h2,hx,cb⟩:=aq n f hn s hs m (by omega)
  have hx2:=hx.2.1 (by omega)
  obtain ⟨j,rfl⟩:∃ j:Nat,x=(j:Int):=⟨x.toNat,by omega⟩
  refine ⟨s2,j,h2,by omega,?_⟩
  refine aW Tryz.func82 (fun c hc=>?_)
  refine be Tryz.func82 hc (Ld n f s s2 m g j) ?_
  and_intros
  iterate 2 all_goals (first | exact zN | (exact cb) | (simp;done) | (simp;omega) | simp only [af])
def GZ (x:Int):AV:=.p (.int .i64 x)
def HL (n:Nat) (l:List Int):AV:=.p (.seq true 1 n (fun i=>[(bG true [(List.getD (l.map GZ) (bk n i*1) (.p .any))] 0)]))
theorem BN (l:List Int) (n i:Nat) (h:bk n i*1<l.length) (hi:bk n i=i):bG true [(List.getD (l.map GZ) (bk n i*1) (.p .any))] 0=.int .i64 (l.getD i 0):=by
  rw [Nat.mul_one] at h ⊢
  rw [hi] at h ⊢
  simp [List.getD_eq_getElem?_getD,List.getElem?_eq_getElem h,GZ,bG,tg,bu]
theorem DE {P:Program} {f:FuncId} {H H':Hp} {l:List Int} {n:Nat} {res:AV} (h:Con P f 1 H [.pt 3 0 0 0,.p (.seq true 1 l.length (fun i=>[.int .i64 (l.getD i 0)]))] H' res) (hl:l.length=n):Con P f 1 H [.pt 3 0 0 0,HL n l] H' res:=by
  refine h.arg_ext ?_
  subst hl
  have hcell:∀ i,i<l.length→bG true [(List.getD (l.map GZ) (bk l.length i*1) (.p .any))] 0=.int .i64 (l.getD i 0):=fun i hi=>BN l _ i (by rw [fe hi];omega) (fe hi)
  simp only [HL,pI,wk,CY,beq_self_eq_true,Bool.and_self,if_true,lC,List.append_nil,List.cons_append,List.nil_append,af]
  and_intros<;>first | trivial | omega | (intro i hi;rw [hcell i hi]) | (intro i hi;rfl)
theorem qY (n:Nat) (f:Nat→Int) (hn:ff n f) (s:Nat×Int) (hs:s.1≤n) (l:List Int) (hm:1≤l.length∧l.length≤256):∃ (s2:Nat×Int) (x:Int),s2.1≤n∧x∈l ∧
    Con Tryz.prog 82 1 [(0,aR n f s)] [.pt 3 0 0 0,HL l.length l] [(0,aR n f s2)] (.p (.int .i64 x)):=by
  obtain ⟨s2,j,h2,hj,cp⟩:=n7 n f hn s hs l.length (fun i=>l.getD i 0) hm
  refine ⟨s2,l.getD j 0,h2,?_,DE cp rfl⟩
  rw [List.getD_eq_getElem?_getD,List.getElem?_eq_getElem hj]
  exact List.getElem_mem hj
end Go.Proofs.YtbdgmpfdlgnkkaaGreat.Mach
namespace Go.Proofs.YtbdgmpfdlgnkkaaGreat.Mat
def cardR (R:Nat→Bool):Nat→Nat
  | 0=>0
  | n+1=>cardR R n+(R n).toNat
def inn (R:Nat→Bool) (x:Nat×Nat):Bool:=R x.1&&R x.2
def cnt (R:Nat→Bool):List (Nat×Nat)→Nat
  | []=>0
  | x::l=>(inn R x).toNat+cnt R l
def Sparse (N k l:Nat) (I:List (Nat×Nat)):Prop:=∀ R,0<cnt R I→cnt R I+l≤k*cardR R N
def uni (R S:Nat→Bool) (v:Nat):Bool:=R v||S v
def cap2 (R S:Nat→Bool) (v:Nat):Bool:=R v&&S v
theorem jw (R S:Nat→Bool):∀ n,cardR (uni R S) n+cardR (cap2 R S) n=cardR R n+cardR S n
  | 0=>rfl
  | n+1=>by
    have:=jw R S n
    simp only [cardR,uni,cap2] at *
    cases R n<;>cases S n<;>simp<;>omega
theorem qe (R S:Nat→Bool):∀ l,cnt R l+cnt S l≤cnt (uni R S) l+cnt (cap2 R S) l
  | []=>by simp [cnt]
  | x::l=>by
    have:=qe R S l
    simp only [cnt,inn,uni,cap2] at *
    cases R x.1<;>cases S x.1<;>cases R x.2<;>cases S x.2<;>simp<;>omega
theorem gY (R S:Nat→Bool) (h:∀ v,R v=true→S v=true):∀ l,cnt R l≤cnt S l
  | []=>Nat.le_refl _
  | x::l=>by
    have:=gY R S h l
    have h1:=h x.1;have h2:=h x.2
    simp only [cnt,inn]
    cases e:R x.1<;>cases f:R x.2<;>simp_all<;>omega
theorem oV (R S:Nat→Bool) (h:∀ v,R v=true→S v=true):∀ n,cardR R n≤cardR S n
  | 0=>Nat.le_refl _
  | n+1=>by
    have:=oV R S h n
    have h1:=h n
    simp only [cardR]
    cases e:R n<;>simp_all<;>omega
theorem card_le (R:Nat→Bool):∀ n,cardR R n≤n
  | 0=>Nat.le_refl _
  | n+1=>by have:=card_le R n;simp only [cardR];cases R n<;>simp<;>omega
theorem fh (R:Nat→Bool) (a:Nat) (h:R a=true):∀ n,a<n→1≤cardR R n
  | 0,h'=>by omega
  | n+1,h'=>by
    simp only [cardR]
    by_cases e:a=n
    · subst e;simp [h]
    · have:=fh R a h n (by omega);omega
theorem card_two (R:Nat→Bool) (a b:Nat) (h:R a=true) (hb:R b=true) (hn:a≠b):∀ n,a<n→b<n→2≤cardR R n
  | 0,h',_=>by omega
  | n+1,h',h''=>by
    simp only [cardR]
    by_cases e:a=n
    · subst e
      have:=fh R b hb a (by omega);simp [h];omega
    · by_cases e':b=n
      · subst e'
        have:=fh R a h b (by omega);simp [hb];omega
      · have:=card_two R a b h hb hn n (by omega) (by omega);omega
theorem gq (a:Nat):∀ n,cardR (fun v=>v==a) n≤1∧(n≤a→cardR (fun v=>v==a) n=0)
  | 0=>by simp [cardR]
  | n+1=>by
    obtain ⟨h1,h2⟩:=gq a n
    simp only [cardR]
    by_cases e:n=a
    · subst e;rw [h2 (Nat.le_refl _)];simp
    · rw [show (n==a)=false by simp [e]];exact ⟨h1,fun h=>h2 (by omega)⟩
theorem card_pair (a b n:Nat):cardR (fun v=>v==a||v==b) n≤2:=by
  have h:=jw (fun v=>v==a) (fun v=>v==b) n
  have h1:=(gq a n).1
  have h2:=(gq b n).1
  have e:cardR (uni (fun v=>v==a) (fun v=>v==b)) n=cardR (fun v=>v==a||v==b) n:=rfl
  omega
theorem card_eq (R S:Nat→Bool) (h:∀ v,R v=true→S v=true):∀ n,cardR S n≤cardR R n→∀ v,v<n→S v=true→R v=true
  | 0,_,v,hv,_=>by omega
  | n+1,hc,v,hv,hs=>by
    have hm:=oV R S h n
    have h1:=h n
    simp only [cardR] at hc
    by_cases e:v=n
    · subst e
      cases er:R v
      · rw [er,hs] at hc;simp at hc;omega
      · rfl
    · refine card_eq R S h n ?_ v (by omega) hs
      cases er:R n<;>cases es:S n<;>simp_all<;>omega
def Tight (N:Nat) (I:List (Nat×Nat)) (R:Nat→Bool):Prop:=cnt R I+3=2*cardR R N
theorem tight_union {N:Nat} {I:List (Nat×Nat)} (hI:Sparse N 2 3 I) {R S:Nat→Bool} (h1:Tight N I R) (h2:Tight N I S)
    (a b:Nat) (hab:a≠b) (ha:a<N) (hb:b<N) (ra:R a=true) (rb:R b=true) (sa:S a=true) (sb:S b=true):Tight N I (uni R S):=by
  have c1:=jw R S N
  have c2:=qe R S I
  have c3:=gY R (uni R S) (fun v h=>by simp [uni,h]) I
  have c4:=hI (uni R S)
  have c5:=hI (cap2 R S)
  have c6:=card_two (cap2 R S) a b (by simp [cap2,ra,sa]) (by simp [cap2,rb,sb]) hab N ha hb
  unfold Tight at *
  by_cases e:0<cnt (cap2 R S) I
  · have:=c5 e;have:=c4 (by omega);omega
  · have:=c4 (by omega);omega
theorem biggest {N:Nat} {I:List (Nat×Nat)} (x:Nat×Nat) (h:∃ R,Tight N I R∧inn R x=true) :
    ∃ R,Tight N I R∧inn R x=true∧∀ S,Tight N I S→inn S x=true→cardR S N≤cardR R N:=by
  have key:∀ d,∀ R,Tight N I R→inn R x=true→N - cardR R N≤d →
      ∃ R,Tight N I R∧inn R x=true∧∀ S,Tight N I S→inn S x=true→cardR S N≤cardR R N:=by
    intro d
    induction d with
    | zero =>
      intro R h1 h2 h3
      exact ⟨R,h1,h2,fun S _ _=>by have:=card_le S N;omega⟩
    | succ d ih =>
      intro R h1 h2 h3
      by_cases hS:∃ S,Tight N I S∧inn S x=true∧cardR R N<cardR S N
      · obtain ⟨S,s1,s2,s3⟩:=hS
        exact ih S s1 s2 (by omega)
      · refine ⟨R,h1,h2,fun S s1 s2=>?_⟩
        by_cases e:cardR S N≤cardR R N
        · exact e
        · exact absurd ⟨S,s1,s2,by omega⟩ hS
  obtain ⟨R,h1,h2⟩:=h
  exact key _ R h1 h2 (Nat.le_refl _)
def GoodBar (N:Nat) (x:Nat×Nat):Prop:=x.1≠x.2∧x.1<N∧x.2<N
def rA (N:Nat):List (Nat→Bool)→Nat
  | []=>0
  | R::F=>(2*cardR R N - 3)+rA N F
def cntAll (F:List (Nat→Bool)) (I:List (Nat×Nat)):Nat:=match F with
  | []=>0
  | R::F=>cnt R I+cntAll F I
def homes (x:Nat×Nat):List (Nat→Bool)→Nat
  | []=>0
  | R::F=>(inn R x).toNat+homes x F
theorem uG (F:List (Nat→Bool)):cntAll F []=0:=by
  induction F with
  | nil=>rfl
  | cons R F ih=>simp [cntAll,cnt,ih]
theorem rX (F:List (Nat→Bool)) (x:Nat×Nat) (l:List (Nat×Nat)):cntAll F (x::l)=homes x F+cntAll F l:=by
  induction F with
  | nil=>rfl
  | cons R F ih=>simp only [cntAll,cnt,homes,ih];omega
theorem cntAll_length (F:List (Nat→Bool)):∀ l:List (Nat×Nat),(∀ x∈l,homes x F=1)→cntAll F l=l.length
  | [],_=>uG F
  | x::l,h=>by
    rw [rX,h x (by simp),cntAll_length F l (fun y hy=>h y (by simp [hy]))];simp;omega
theorem jA {N:Nat} {I:List (Nat×Nat)}:∀ F:List (Nat→Bool),(∀ R∈F,Tight N I R)→cntAll F I=rA N F
  | [],_=>rfl
  | R::F,h=>by
    have h1:=h R (by simp)
    unfold Tight at h1
    simp only [cntAll,rA,jA F (fun S hS=>h S (by simp [hS]))];omega
theorem iP {N:Nat} {J:List (Nat×Nat)} (hJ:Sparse N 2 3 J):∀ F:List (Nat→Bool),cntAll F J≤rA N F
  | []=>Nat.le_refl _
  | R::F=>by
    have h1:=hJ R
    have:=iP hJ F
    simp only [cntAll,rA]
    by_cases e:0<cnt R J
    · have:=h1 e;omega
    · omega
theorem Ak {N:Nat} {I:List (Nat×Nat)} (hI:Sparse N 2 3 I) (L:List (Nat×Nat)) (hL:∀ x∈L,GoodBar N x)
    (hT:∀ x∈L,∃ R,Tight N I R∧inn R x=true):∀ M:List (Nat×Nat),(∀ x∈M,x∈L) →
      ∃ F:List (Nat→Bool),(∀ R∈F,Tight N I R)∧(∀ R∈F,∃ x∈L,inn R x=true∧∀ S,Tight N I S→inn S x=true→cardR S N≤cardR R N) ∧
        (∀ x∈L,homes x F≤1)∧(∀ x∈M,homes x F=1)
  | [],_=>⟨[],by simp,by simp,by simp [homes],by simp⟩
  | y::M,hM=>by
    obtain ⟨F,f1,f2,f3,f4⟩:=Ak hI L hL hT M (fun x hx=>hM x (by simp [hx]))
    by_cases hy:homes y F=1
    · refine ⟨F,f1,f2,f3,fun x hx=>?_⟩
      rcases List.mem_cons.mp hx with e | e
      · rw [e];exact hy
      · exact f4 x e
    · have hyL:y∈L:=hM y (by simp)
      have hy0:homes y F=0:=by have:=f3 y hyL;omega
      obtain ⟨B,b1,b2,b3⟩:=biggest y (hT y hyL)
      have key:∀ x∈L,inn B x=true→homes x F=0:=by
        intro x hx hBx
        have none:∀ F':List (Nat→Bool),(∀ R∈F',R∈F)→homes x F'=0:=by
          intro F'
          induction F' with
          | nil=>intro _;rfl
          | cons R F' ih =>
            intro hs
            have h0:=ih (fun S hS=>hs S (by simp [hS]))
            simp only [homes,h0]
            cases e:inn R x with
            | false=>simp
            | true =>
              exfalso
              have hR:=hs R (by simp)
              obtain ⟨w,hw,w1,w2⟩:=f2 R hR
              have hg:=hL x hx
              simp only [inn,Bool.and_eq_true] at e hBx b2 w1
              have hu:=tight_union hI (f1 R hR) b1 x.1 x.2 hg.1 hg.2.1 hg.2.2 e.1 e.2 hBx.1 hBx.2
              have hc:=w2 _ hu (by simp [inn,uni,w1.1,w1.2])
              have heq:=card_eq R (uni R B) (fun v h=>by simp [uni,h]) N hc
              have gy:=hL y hyL
              have r1:=heq y.1 gy.2.1 (by simp [uni,b2.1])
              have r2:=heq y.2 gy.2.2 (by simp [uni,b2.2])
              have:∀ F'':List (Nat→Bool),R∈F''→1≤homes y F'':=by
                intro F''
                induction F'' with
                | nil=>intro h;cases h
                | cons S F'' ih2 =>
                  intro h
                  simp only [homes]
                  rcases List.mem_cons.mp h with e2 | e2
                  · subst e2;simp [inn,r1,r2]
                  · have:=ih2 e2;omega
              have:=this F hR
              omega
        exact none F (fun R h=>h)
      refine ⟨B::F,?_,?_,?_,?_⟩
      · intro R hR
        rcases List.mem_cons.mp hR with e | e
        · rw [e];exact b1
        · exact f1 R e
      · intro R hR
        rcases List.mem_cons.mp hR with e | e
        · rw [e];exact ⟨y,hyL,b2,b3⟩
        · exact f2 R e
      · intro x hx
        simp only [homes]
        cases e:inn B x with
        | true=>rw [key x hx e];simp
        | false=>simpa using f3 x hx
      · intro x hx
        simp only [homes]
        rcases List.mem_cons.mp hx with e | e
        · subst e;rw [b2,hy0];simp
        · have h1:=f4 x e
          cases e2:inn B x with
          | true=>have:=key x (hM x hx) e2;omega
          | false=>simpa using h1
theorem rank_le {N:Nat} {I J:List (Nat×Nat)} (L:List (Nat×Nat)) (hL:∀ x∈L,GoodBar N x) (hI:Sparse N 2 3 I) (hIL:∀ x∈I,x∈L)
    (hT:∀ x∈L,∃ R,Tight N I R∧inn R x=true) (hJ:Sparse N 2 3 J) (hJL:∀ x∈J,x∈L):J.length≤I.length:=by
  obtain ⟨F,f1,_,_,f4⟩:=Ak hI L hL hT L (fun x h=>h)
  have e1:=cntAll_length F I (fun x hx=>f4 x (hIL x hx))
  have e2:=cntAll_length F J (fun x hx=>f4 x (hJL x hx))
  have e3:=jA F f1
  have e4:=iP hJ F
  omega
open Classical in
noncomputable def greedy (N k l:Nat):List (Nat×Nat)→List (Nat×Nat)→List (Nat×Nat)
  | acc,[]=>acc
  | acc,x::xs=>if Sparse N k l (acc++[x]) then greedy N k l (acc++[x]) xs else greedy N k l acc xs
theorem cnt_append (R:Nat→Bool):∀ a b:List (Nat×Nat),cnt R (a++b)=cnt R a+cnt R b
  | [],b=>by simp [cnt]
  | x::a,b=>by simp only [List.cons_append,cnt,cnt_append R a b];omega
theorem greedy_append (N k l:Nat):∀ (xs ys acc:List (Nat×Nat)),greedy N k l acc (xs++ys)=greedy N k l (greedy N k l acc xs) ys
  | [],ys,acc=>rfl
  | x::xs,ys,acc=>by
    simp only [List.cons_append,greedy]
    split
    · exact greedy_append N k l xs ys _
    · exact greedy_append N k l xs ys _
theorem greedy_sparse (N k l:Nat):∀ (xs acc:List (Nat×Nat)),Sparse N k l acc→Sparse N k l (greedy N k l acc xs)
  | [],acc,h=>h
  | x::xs,acc,h=>by
    simp only [greedy]
    split
    · next h'=>exact greedy_sparse N k l xs _ h'
    · exact greedy_sparse N k l xs acc h
theorem greedy_pre (N k l:Nat):∀ (xs acc:List (Nat×Nat)),∃ t,greedy N k l acc xs=acc++t∧∀ x∈t,x∈xs
  | [],acc=>⟨[],by simp [greedy],by simp⟩
  | x::xs,acc=>by
    simp only [greedy]
    split
    · obtain ⟨t,h1,h2⟩:=greedy_pre N k l xs (acc++[x])
      refine ⟨x::t,by simp [h1],fun y hy=>?_⟩
      rcases List.mem_cons.mp hy with e | e
      · simp [e]
      · simp [h2 y e]
    · obtain ⟨t,h1,h2⟩:=greedy_pre N k l xs acc
      exact ⟨t,h1,fun y hy=>by simp [h2 y hy]⟩
theorem sparse_nil (N k l:Nat):Sparse N k l []:=fun R h=>by simp [cnt] at h
theorem oS {N:Nat} {I t:List (Nat×Nat)} {R:Nat→Bool} (hs:Sparse N 2 3 (I++t)) (h:Tight N I R):Tight N (I++t) R:=by
  have h1:=hs R
  have h2:=cnt_append R I t
  unfold Tight at *
  have:=h1 (by omega)
  omega
theorem greedy_tight {N:Nat}:∀ (xs acc:List (Nat×Nat)),(∀ x∈xs,GoodBar N x)→Sparse N 2 3 acc→∀ x∈xs,∃ R,Tight N (greedy N 2 3 acc xs) R∧inn R x=true
  | [],acc,_,_,x,hx=>by cases hx
  | y::xs,acc,hg,hs,x,hx=>by
    simp only [greedy]
    have hgy:=hg y (by simp)
    split
    · next h' =>
      rcases List.mem_cons.mp hx with e | e
      · subst e
        obtain ⟨t,ht,_⟩:=greedy_pre N 2 3 xs (acc++[x])
        have hs':=greedy_sparse N 2 3 xs _ h'
        refine ⟨fun v=>v==x.1||v==x.2,?_,by simp [inn]⟩
        rw [ht] at hs' ⊢
        refine oS hs' ?_
        have c1:=h' (fun v=>v==x.1||v==x.2) (by rw [cnt_append];simp [cnt,inn])
        have c2:1≤cnt (fun v=>v==x.1||v==x.2) (acc++[x]):=by rw [cnt_append];simp [cnt,inn]
        have c3:=card_pair x.1 x.2 N
        unfold Tight;omega
      · exact greedy_tight xs _ (fun z hz=>hg z (by simp [hz])) h' x e
    · next h' =>
      rcases List.mem_cons.mp hx with e | e
      · subst e
        obtain ⟨t,ht,_⟩:=greedy_pre N 2 3 xs acc
        have hs':=greedy_sparse N 2 3 xs acc hs
        obtain ⟨R,hR⟩:=Classical.not_forall.mp h'
        obtain ⟨hp,hq⟩:=Classical.not_imp.mp hR
        rw [cnt_append] at hp hq
        have hc:cnt R [x]=(inn R x).toNat:=by simp [cnt]
        have h1:=hs R
        cases e2:inn R x with
        | false=>rw [hc,e2] at hp hq;simp at hp hq;have:=h1 hp;omega
        | true =>
          rw [hc,e2] at hp hq
          simp only [Bool.toNat_true] at hp hq
          refine ⟨R,?_,e2⟩
          rw [ht] at hs' ⊢
          refine oS hs' ?_
          simp only [inn,Bool.and_eq_true] at e2
          have c6:=card_two R x.1 x.2 e2.1 e2.2 hgy.1 N hgy.2.1 hgy.2.2
          unfold Tight
          by_cases e3:0<cnt R acc
          · have:=h1 e3;omega
          · omega
      · exact greedy_tight xs acc (fun z hz=>hg z (by simp [hz])) hs x e
abbrev PB:=Nat×(Nat×Nat)
def tc (v:Nat):List PB→Nat
  | []=>0
  | p::l=>(p.1==v).toNat+tc v l
def rV (R:Nat→Bool):List PB→Nat
  | []=>0
  | p::l=>(R p.1).toNat+rV R l
def barsOf:List PB→List (Nat×Nat)
  | []=>[]
  | p::l=>p.2::barsOf l
def fi (R:Nat→Bool) (f:Nat→Nat):Nat→Nat
  | 0=>0
  | n+1=>fi R f n+(if R n then f n else 0)
theorem pa (R:Nat→Bool):∀ N,fi R (fun v=>tc v []) N=0
  | 0=>rfl
  | n+1=>by
    have:=pa R n
    have e:tc n []=0:=rfl
    simp only [fi];rw [this,e];simp
theorem pH (R:Nat→Bool) (N:Nat):∀ l:List PB,(∀ p∈l,p.1<N)→fi R (fun v=>tc v l) N=rV R l
  | [],_=>by
    simp only [rV]
    exact pa R N
  | p::l,h=>by
    have ih:=pH R N l (fun q hq=>h q (by simp [hq]))
    have hp:=h p (by simp)
    simp only [rV,← ih]
    have key:∀ n,fi R (fun v=>tc v (p::l)) n=(if p.1<n then (R p.1).toNat else 0)+fi R (fun v=>tc v l) n:=by
      intro n
      induction n with
      | zero=>simp [fi]
      | succ n ih2 =>
        simp only [fi]
        rw [ih2]
        have et:tc n (p::l)=(p.1==n).toNat+tc n l:=rfl
        rw [et]
        by_cases e:p.1=n
        · subst e
          rw [if_neg (Nat.lt_irrefl _),if_pos (Nat.lt_succ_self _)]
          cases R p.1<;>simp;omega
        · have e1:(p.1==n)=false:=by simp [e]
          have e1:(p.1==n).toNat=0:=by rw [e1];rfl
          rw [e1]
          by_cases e2:p.1<n
          · rw [if_pos e2,if_pos (show p.1<n+1 by omega)];cases R n<;>simp<;>omega
          · rw [if_neg e2,if_neg (show ¬ p.1<n+1 by omega)];cases R n<;>simp
    rw [key N,if_pos hp]
theorem my (R:Nat→Bool) (f g:Nat→Nat) (k:Nat):∀ N,(∀ v,v<N→f v+g v=k)→fi R f N+fi R g N=k*cardR R N
  | 0,_=>by simp [fi,cardR]
  | n+1,h=>by
    have ih:=my R f g k n (fun v hv=>h v (by omega))
    have h1:=h n (by omega)
    simp only [fi,cardR,Nat.mul_add]
    cases R n<;>simp<;>omega
theorem nk (R:Nat→Bool):∀ l:List PB,(∀ p∈l,p.1=p.2.1∨p.1=p.2.2)→cnt R (barsOf l)≤rV R l
  | [],_=>Nat.le_refl _
  | p::l,h=>by
    have ih:=nk R l (fun q hq=>h q (by simp [hq]))
    have hp:=h p (by simp)
    simp only [barsOf,cnt,rV,inn]
    rcases hp with e | e<;>rw [e]<;>cases R p.2.1<;>cases R p.2.2<;>simp<;>omega
theorem mj (R:Nat→Bool):∀ l:List PB,(∀ p∈l,p.1=p.2.1∨p.1=p.2.2)→(∀ p∈l,R p.1=true→inn R p.2=true)→cnt R (barsOf l)=rV R l
  | [],_,_=>rfl
  | p::l,h,hc=>by
    have ih:=mj R l (fun q hq=>h q (by simp [hq])) (fun q hq=>hc q (by simp [hq]))
    have hp:=h p (by simp)
    have hq:=hc p (by simp)
    simp only [barsOf,cnt,rV,inn,ih] at *
    rcases hp with e | e<;>rw [e] at hq ⊢<;>cases e1:R p.2.1<;>cases e2:R p.2.2<;>simp_all
theorem Ae (R:Nat→Bool) (f:Nat→Nat) (a b:Nat) (hab:a≠b) (ra:R a=true) (rb:R b=true):∀ N,a<N→b<N→f a+f b≤fi R f N:=by
  have one:∀ c,R c=true→∀ N,c<N→f c≤fi R f N:=by
    intro c hc N
    induction N with
    | zero=>omega
    | succ n ih =>
      intro h
      simp only [fi]
      by_cases e:c=n
      · subst e;simp [hc]
      · have:=ih (by omega);omega
  intro N
  induction N with
  | zero=>omega
  | succ n ih =>
    intro h1 h2
    simp only [fi]
    by_cases e:a=n
    · subst e;have:=one b rb a (by omega);simp [ra];omega
    · by_cases e':b=n
      · subst e';have:=one a ra b (by omega);simp [rb];omega
      · have:=ih (by omega) (by omega);omega
theorem yr (R:Nat→Bool) (f:Nat→Nat) (a b:Nat) (hab:a≠b) (h0:∀ v,R v=true→v≠a→v≠b→f v=0):∀ N,fi R f N≤f a+f b:=by
  have key:∀ N,fi R f N≤(if a<N then f a else 0)+(if b<N then f b else 0):=by
    intro N
    induction N with
    | zero=>simp [fi]
    | succ n ih =>
      simp only [fi]
      by_cases e:a=n
      · subst e
        rw [if_neg (Nat.lt_irrefl a)] at ih
        rw [if_pos (Nat.lt_succ_self a)]
        have:(if R a=true then f a else 0)≤f a:=by split<;>omega
        by_cases q:b<a
        · rw [if_pos q] at ih;rw [if_pos (show b<a+1 by omega)];omega
        · rw [if_neg q] at ih;omega
      · by_cases e':b=n
        · subst e'
          rw [if_neg (Nat.lt_irrefl b)] at ih
          rw [if_pos (Nat.lt_succ_self b)]
          have:(if R b=true then f b else 0)≤f b:=by split<;>omega
          by_cases q:a<b
          · rw [if_pos q] at ih;rw [if_pos (show a<b+1 by omega)];omega
          · rw [if_neg q] at ih;omega
        · have e1:(if R n=true then f n else 0)=0:=by
            split
            · next h=>exact h0 n h (Ne.symm e) (Ne.symm e')
            · rfl
          rw [e1]
          by_cases q:a<n<;>by_cases q':b<n<;>simp only [q,q',if_true,if_false] at ih<;>(first | rw [if_pos (show a<n+1 by omega)] | rw [if_neg (show ¬ a<n+1 by omega)])<;>(first | rw [if_pos (show b<n+1 by omega)] | rw [if_neg (show ¬ b<n+1 by omega)])<;>omega
  intro N
  have:=key N
  have h1:(if a<N then f a else 0)≤f a:=by split<;>omega
  have h2:(if b<N then f b else 0)≤f b:=by split<;>omega
  omega
structure Game (N k l:Nat) (free:Nat→Nat) (P:List PB):Prop where
  ends:∀ p∈P,p.1=p.2.1∨p.1=p.2.2
  good:∀ p∈P,GoodBar N p.2
  sum:∀ v,v<N→free v+tc v P=k
theorem Game.lt {N k l:Nat} {free:Nat→Nat} {P:List PB} (h:Game N k l free P):∀ p∈P,p.1<N:=by
  intro p hp
  have:=h.good p hp
  rcases h.ends p hp with e | e
  · rw [e];exact this.2.1
  · rw [e];exact this.2.2
theorem Game.accept {N k l:Nat} {free:Nat→Nat} {P:List PB} (h:Game N k l free P) (hs:Sparse N k l (barsOf P)) (a b:Nat) (hab:GoodBar N (a,b)) (hf:l+1≤free a+free b) :
    Sparse N k l (barsOf P++[(a,b)]):=by
  intro R hp
  rw [cnt_append] at hp ⊢
  have hc:cnt R [(a,b)]=(inn R (a,b)).toNat:=by simp [cnt]
  have h1:=hs R
  rw [hc] at hp ⊢
  cases e:inn R (a,b) with
  | false=>rw [e] at hp;simp at hp ⊢;exact h1 hp
  | true =>
    have e':=e
    simp only [inn,Bool.and_eq_true] at e'
    have c1:=nk R P h.ends
    have c2:=pH R N P h.lt
    have c3:=my R free (fun v=>tc v P) k N h.sum
    have c4:=Ae R free a b hab.1 e'.1 e'.2 N hab.2.1 hab.2.2
    simp only [Bool.toNat_true];omega
theorem Game.reject {N k l:Nat} {free:Nat→Nat} {P:List PB} (h:Game N k l free P) (a b:Nat) (hab:GoodBar N (a,b)) (hf:free a+free b≤l) (R:Nat→Bool)
    (ra:R a=true) (rb:R b=true) (hcl:∀ p∈P,R p.1=true→inn R p.2=true) (h0:∀ v,R v=true→v≠a→v≠b→free v=0) :
    ¬ Sparse N k l (barsOf P++[(a,b)]):=by
  intro hs
  have h1:=hs R
  rw [cnt_append] at h1
  have hc:cnt R [(a,b)]=1:=by simp [cnt,inn,ra,rb]
  rw [hc] at h1
  have c1:=mj R P h.ends hcl
  have c2:=pH R N P h.lt
  have c3:=my R free (fun v=>tc v P) k N h.sum
  have c4:=yr R free a b hab.1 h0 N
  have:=h1 (by omega)
  omega
end Go.Proofs.YtbdgmpfdlgnkkaaGreat.Mat
namespace Go.Proofs.YtbdgmpfdlgnkkaaGreat.Mach
open Go
def b4 (g:Nat→aa) (nb:Nat):AV:=.p (.seq true 2 nb (fun i=>[.int .i64 (g i).1,.int .i64 (g i).2.1]))
def jZ (x:aa):AV:=.agg [.p (.int .i64 x.1),.p (.int .i64 x.2.1)]
def aY (n:Nat) (F:Nat→Int):Ob:=⟨false,1,n,fun i=>[.p (.int .i64 (F i))]⟩
def As (N m:Nat):Ob:=⟨true,3,1,fun _=>[.ar 1 1 0 N,.ar 1 2 0 m,.ar 1 3 0 m]⟩
def aw (x:aa) (v:Int):Int:=if x.1=v then x.2.1 else x.1
def cQ (N m:Nat) (F T Q:Nat→Int):Hp:=[(0,As N m),(1,aY N F),(2,aY m T),(3,aY m Q)]
def b8 (n:Nat) (K V:Nat→Int):Ob:=⟨false,0,n,fun i=>[.p (.int .i64 (K i)),.p (.int .i64 (V i))]⟩
def SO (g:Nat→aa) (nb N m:Nat) (F T Q td V:Nat→Int) (a b:Int) (i tn:Nat):St :=
  ⟨[b4 g nb,.pt 3 0 0 0,.p (.int .i64 a),.p (.int .i64 b),.p .any,.p .any,.p .any,.p .any,.p .any,.mp 4,.ar 1 5 0 tn,.p (.int .i64 i)]++List.replicate 118 ag,
   [(0,As N m),(1,aY N F),(2,aY m T),(3,aY m Q),(4,b8 tn td V),(5,aY tn td)],6⟩
def SM (g:Nat→aa) (nb N m:Nat) (F T Q td V:Nat→Int) (a b:Int) (i j tn:Nat):St :=
  ⟨[b4 g nb,.pt 3 0 0 0,.p (.int .i64 a),.p (.int .i64 b),.p .any,.p .any,.p .any,.p .any,.p .any,.mp 4,.ar 1 5 0 tn,.p (.int .i64 i)]++List.replicate 22 ag++[.ar 1 3 0 m,.p (.int .i64 m),.p (.int .i64 j)]++List.replicate 93 ag,
   [(0,As N m),(1,aY N F),(2,aY m T),(3,aY m Q),(4,b8 tn td V),(5,aY tn td)],6⟩
def SC (g:Nat→aa) (nb N m:Nat) (F T Q td V:Nat→Int) (a b v:Int) (tn:Nat):St :=
  ⟨[b4 g nb,.pt 3 0 0 0,.p (.int .i64 a),.p (.int .i64 b),.p .any,.p .any,.p .any,.p .any,.p .any,.mp 4,.p .any,.p .any,.p .any,.p .any,.p (.int .i64 v)]++List.replicate 115 ag,
   [(0,As N m),(1,aY N F),(2,aY m T),(3,aY m Q),(4,b8 tn td V)],5⟩
def SP (g:Nat→aa) (nb N m:Nat) (F T Q td V:Nat→Int) (a b at':Int) (tn:Nat):St :=
  ⟨[b4 g nb,.pt 3 0 0 0,.p (.int .i64 a),.p (.int .i64 b),.p .any,.p .any,.p .any,.p .any,.p .any,.mp 4,.p .any,.p .any,.p .any,.p .any,.p .any,.p .any,.p .any,.p (.int .i64 at')]++List.replicate 112 ag,
   [(0,As N m),(1,aY N F),(2,aY m T),(3,aY m Q),(4,b8 tn td V)],5⟩
theorem CD (x:aa) (v:Int) :
    zS Tryz.f113 [rg 2,rg 4,.dec true,rg 3] [jZ x,jI v] [] [] (jI x.2.1) =
    some [(NT 0 1),((x.1==v)=true),(NT 0 1),(AI x.2.1)]:=by kernel_rfl
theorem Cj (x:aa) (v:Int) :
    zS Tryz.f113 [rg 2,rg 4,.dec false,rg 3] [jZ x,jI v] [] [] (jI x.1) =
    some [(NT 0 1),((x.1==v)=false),(NT 0 1),(AI x.1)]:=by kernel_rfl
theorem LR (g:Nat→aa) (nb N m:Nat) (F T Q:Nat→Int) (a b:Int) :
    zM 4 [rg 1,rg 5,rg 3,rg 1,.head] [.code (ab Tryz.f152)] (start Tryz.f152 (cQ N m F T Q) 4 [b4 g nb,.pt 3 0 0 0,jI a,jI b]) [0,1,2,3,36,228] 1 (SO g nb N m F T Q (fun _=>a) (fun _=>-1) a b 0 1) =
    some (B3,zD [((iJ (fun i=>eu ((Ob.mk false 0 0 fun x=>[]).f i)) 0 a)=false),(AN nb),(AP nb (aF g)),(AN 0),(AI a),(AI b),(AN 1),((0:Int)=(↑0:Int)),(AN 3),(NL 1 1),(AN N),(AN m),(NL N N),(AA N (fun i=>[.p (.int .i64 (F i))])),(NL m m),(AA m (fun i=>[.p (.int .i64 (T i))])),(AA m (fun i=>[.p (.int .i64 (Q i))])),(false=false),(AA 1 (fun i=>[.p (.int .i64 a),.p (.int .i64 (-1))])),(AA 1 (fun i=>[.p (.int .i64 a)]))] [0,1,2,3,4,5,3,6,7,8,9,9,3,10,3,11,3,11,6,12,13,6,14,15,6,14,16,6,17,17,3,9,18,6,9,19]):=by kernel_rfl
theorem Ji (g:Nat→aa) (nb N m:Nat) (F T Q td V:Nat→Int) (a b:Int) (i tn:Nat) :
    zM 4 [rg 4,.dec true,rg 6,.head] B3 (SO g nb N m F T Q td V a b i tn) [0,1,2,3,4,5] 1 (SM g nb N m F T Q td V a b i 0 tn) =
    some (qd,zD [((decide ((i:Int)<(tn:Int)))=true),(NT 0 1),(AN nb),(AP nb (aF g)),(AN 0),(AI a),(AI b),(AN tn),(AI ((i:Int))),(AN m),(AI ((m:Int))),((0:Int)=(↑0:Int)),(AN 3),(NL 1 1),(AN N),(AN 1),(NL N N),(AA N (fun i_1=>[.p (.int .i64 (F i_1))])),(NL m m),(AA m (fun i_1=>[.p (.int .i64 (T i_1))])),(AA m (fun i_1=>[.p (.int .i64 (Q i_1))])),(false=false),(NL tn tn),(AA tn (fun i_1=>[.p (.int .i64 (td i_1)),.p (.int .i64 (V i_1))])),(AA tn (fun i_1=>[.p (.int .i64 (td i_1))]))] [0,1,2,3,4,5,6,4,7,8,4,9,10,11,12,13,13,4,14,4,9,4,9,15,16,17,15,18,19,15,18,20,7,21,21,4,22,23,15,22,24]):=by kernel_rfl
theorem Jt (g:Nat→aa) (nb N m:Nat) (F T Q td V:Nat→Int) (a b:Int) (i tn:Nat) :
    zP Tryz.f152 4 [rg 4,.dec false,rg 1] B3 (SO g nb N m F T Q td V a b i tn) [0,1,2,3] 1 (cQ N m F T Q) (jB false) =
    some [((decide ((i:Int)<(tn:Int)))=false),(false=false),(AN 3),(NL 1 1),(NL 1 1),(AN 0),(AN N),(AN 0),(AN m),(AN 0),(AN m),(AN 1),(NL N N),(AA N (fun i_1=>[.p (.int .i64 (F i_1))])),(AN 1),(NL m m),(AA m (fun i_1=>[.p (.int .i64 (T i_1))])),(AN 1),(NL m m),(AA m (fun i_1=>[.p (.int .i64 (Q i_1))])),(AE 1),(AE N),(AE m),(AE m)]:=by kernel_rfl
theorem II (g:Nat→aa) (nb N m:Nat) (F T Q td V:Nat→Int) (a b:Int) (i j tn:Nat) :
    zM 4 [rg 1,.dec false,rg 3,.head] qd (SM g nb N m F T Q td V a b i j tn) [0,1,2,3,4,5] 1 (SO g nb N m F T Q td V a b (i+1) tn) =
    some (B3,zD [((decide ((j:Int)<(m:Int)))=false),(ax ((i:Int)+1)),(au ((i:Int)+1)),(AN nb),(AP nb (aF g)),(AN 0),(AI a),(AI b),(AN tn),((((i:Int)+1):Int)=(↑(i+1):Int)),(AN 3),(NL 1 1),(AN N),(AN m),(AN 1),(NL N N),(AA N (fun i_1=>[.p (.int .i64 (F i_1))])),(NL m m),(AA m (fun i_1=>[.p (.int .i64 (T i_1))])),(AA m (fun i_1=>[.p (.int .i64 (Q i_1))])),(false=false),(NL tn tn),(AA tn (fun i_1=>[.p (.int .i64 (td i_1)),.p (.int .i64 (V i_1))])),(AA tn (fun i_1=>[.p (.int .i64 (td i_1))]))] [0,1,2,3,4,5,6,7,5,8,9,10,11,11,5,12,5,13,5,13,14,15,16,14,17,18,14,17,19,8,20,20,5,21,22,14,21,23]):=by kernel_rfl
theorem Je (g:Nat→aa) (nb N m:Nat) (F T Q td V:Nat→Int) (a b:Int) (i j tn:Nat) :
    zM 4 [rg 1,.dec true,rg 5,rg 12,.dec true,rg 2,.head] qd (SM g nb N m F T Q td V a b i j tn) [0,1,2,3,4,5] 1 (SM g nb N m F T Q td V a b i (j+1) tn) =
    some (qd,zD [((decide ((j:Int)<(m:Int)))=true),(IL 0 (j:Int)),(IT (j:Int) (m:Int)),(NT j m),(NT 0 1),(IL 0 (i:Int)),(IT (i:Int) (tn:Int)),(NT i tn),((T j != td i)=true),(ax ((j:Int)+1)),(au ((j:Int)+1)),(AN nb),(AP nb (aF g)),(AN 0),(AI a),(AI b),(AN tn),(AI ((i:Int))),(AN m),(AI ((m:Int))),((((j:Int)+1):Int)=(↑(j+1):Int)),(AN 3),(NL 1 1),(AN N),(AN 1),(NL N N),(AA N (fun i_1=>[.p (.int .i64 (F i_1))])),(NL m m),(AA m (fun i_1=>[.p (.int .i64 (T i_1))])),(AA m (fun i_1=>[.p (.int .i64 (Q i_1))])),(false=false),(NL tn tn),(AA tn (fun i_1=>[.p (.int .i64 (td i_1)),.p (.int .i64 (V i_1))])),(AA tn (fun i_1=>[.p (.int .i64 (td i_1))]))] [0,1,2,3,4,1,2,3,5,6,7,8,9,10,11,12,13,14,15,13,16,17,13,18,19,20,21,22,22,13,23,13,18,13,18,24,25,26,24,27,28,24,27,29,16,30,30,13,31,32,24,31,33]):=by kernel_rfl
theorem Ih (g:Nat→aa) (nb N m:Nat) (F T Q td V:Nat→Int) (a b v:Int) (i j tn:Nat) :
    zM 4 [rg 1,.dec true,rg 5,rg 12,.dec false,rm [(8,oc [] (jI v))] 1,rg 8,rg 1,.dec true,rg 2,.head] qd (SM g nb N m F T Q td V a b i j tn) [0,1,2,3,4,5] 1 (SM g nb N m F T Q td V a b i (j+1) tn) =
    some (qd,zD [((decide ((j:Int)<(m:Int)))=true),(IL 0 (j:Int)),(IT (j:Int) (m:Int)),(NT j m),(NT 0 1),(IL 0 (i:Int)),(IT (i:Int) (tn:Int)),(NT i tn),((T j != td i)=false),(IL 0 (Q j)),(IT (Q j) (nb:Int)),zE 113 [(oy g Q j),jI (td i)] [] (jI v),((iJ (fun i=>eu ((b8 tn td V).f i)) tn v)=true),(ax ((j:Int)+1)),(au ((j:Int)+1)),(AN nb),(AP nb (aF g)),(AN 0),(AI a),(AI b),(AN tn),(AI ((i:Int))),(AN m),(AI ((m:Int))),((((j:Int)+1):Int)=(↑(j+1):Int)),(AN 3),(NL 1 1),(AN N),(AN 1),(NL N N),(AA N (fun i_1=>[.p (.int .i64 (F i_1))])),(NL m m),(AA m (fun i_1=>[.p (.int .i64 (T i_1))])),(AA m (fun i_1=>[.p (.int .i64 (Q i_1))])),(false=false),(NL tn tn),(AA tn (fun i_1=>[.p (.int .i64 (td i_1)),.p (.int .i64 (V i_1))])),(AA tn (fun i_1=>[.p (.int .i64 (td i_1))]))] [0,1,2,3,4,1,2,3,5,6,7,8,9,10,5,6,7,11,12,13,14,15,16,17,18,19,17,20,21,17,22,23,24,25,26,26,17,27,17,22,17,22,28,29,30,28,31,32,28,31,33,20,34,34,17,35,36,28,35,37]):=by kernel_rfl
theorem Iy (g:Nat→aa) (nb N m:Nat) (F T Q td V:Nat→Int) (a b v:Int) (i j tn:Nat) :
    zM 4 [rg 1,.dec true,rg 5,rg 12,.dec false,rm [(8,oc [] (jI v))] 1,rg 8,rg 1,.dec false,rg 4,rg 13,.dec true,rg 5,rg 2,.head] qd (SM g nb N m F T Q td V a b i j tn) [0,1,2,3,4,1830] 1 (SM g nb N m F T Q (fun s=>if s<tn then td s else v) (fun s=>if s<tn then V s else j) a b i (j+1) (tn+1)) =
    some (qd,zD [((decide ((j:Int)<(m:Int)))=true),(IL 0 (j:Int)),(IT (j:Int) (m:Int)),(NT j m),(NT 0 1),(IL 0 (i:Int)),(IT (i:Int) (tn:Int)),(NT i tn),((T j != td i)=false),(IL 0 (Q j)),(IT (Q j) (nb:Int)),zE 113 [(oy g Q j),jI (td i)] [] (jI v),((iJ (fun i=>eu ((b8 tn td V).f i)) tn v)=false),(AG (!v==b)),(((!v==b)=true)→(NT 0 1)),(((!v==b)=true)→(IL 0 v)),(((!v==b)=true)→(IT v (N:Int))),(((!v==b)=true)→(NT v.toNat N)),(((v==b)=false)→((!v==b)=true)),((bif v==b then true else F v.toNat==0)=true),(NL 1 1),(NL tn tn),(NL ((tn+1)*8) 140737488355328),(NL (tn+1) 9223372036854775807),(ax ((j:Int)+1)),(au ((j:Int)+1)),(AN nb),(AP nb (aF g)),(AN 0),(AI a),(AI b),(AN ((tn+1))),(AI ((i:Int))),(AN m),(AI ((m:Int))),((((j:Int)+1):Int)=(↑(j+1):Int)),(AN 3),(AN N),(AN 1),(NL N N),(AA N (fun i_1=>[.p (.int .i64 (F i_1))])),(NL m m),(AA m (fun i_1=>[.p (.int .i64 (T i_1))])),(AA m (fun i_1=>[.p (.int .i64 (Q i_1))])),(false=false),(NL (tn+1) (tn+1)),(CV [(1830,⟨false,1,(tn+1),(fun i_2=>(if (i_2<tn) then [.p (.int .i64 (td i_2))] else [.p (.int .i64 v)]))⟩),(1798,⟨false,1,1,(fun i_2=>[.p (.int .i64 v)])⟩),(4,⟨false,0,(tn+1),(fun i_2=>(if (i_2<tn) then [.p (.int .i64 (td i_2)),.p (.int .i64 (V i_2))] else [.p (.int .i64 v),.p (.int .i64 (j:Int))]))⟩),(0,⟨true,3,1,(fun i_2=>[.ar 1 1 0 N,.ar 1 2 0 m,.ar 1 3 0 m])⟩),(1,⟨false,1,N,(fun i_2=>[.p (.int .i64 (F i_2))])⟩),(2,⟨false,1,m,(fun i_2=>[.p (.int .i64 (T i_2))])⟩),(3,⟨false,1,m,(fun i_2=>[.p (.int .i64 (Q i_2))])⟩)] [0,1,2,3,4,1830] 1 (tn+1) (fun i_1=>if (i_1<tn) then [.p (.int .i64 (td i_1)),.p (.int .i64 (V i_1))] else [.p (.int .i64 v),.p (.int .i64 (j:Int))]) (fun i_1=>[.p (.int .i64 (if i_1<tn then td i_1 else v)),.p (.int .i64 (if i_1<tn then V i_1 else (j:Int)))])),(CV [(1830,⟨false,1,(tn+1),(fun i_2=>(if (i_2<tn) then [.p (.int .i64 (td i_2))] else [.p (.int .i64 v)]))⟩),(1798,⟨false,1,1,(fun i_2=>[.p (.int .i64 v)])⟩),(4,⟨false,0,(tn+1),(fun i_2=>(if (i_2<tn) then [.p (.int .i64 (td i_2)),.p (.int .i64 (V i_2))] else [.p (.int .i64 v),.p (.int .i64 (j:Int))]))⟩),(0,⟨true,3,1,(fun i_2=>[.ar 1 1 0 N,.ar 1 2 0 m,.ar 1 3 0 m])⟩),(1,⟨false,1,N,(fun i_2=>[.p (.int .i64 (F i_2))])⟩),(2,⟨false,1,m,(fun i_2=>[.p (.int .i64 (T i_2))])⟩),(3,⟨false,1,m,(fun i_2=>[.p (.int .i64 (Q i_2))])⟩)] [0,1,2,3,4,1830] 1 (tn+1) (fun i_1=>if (i_1<tn) then [.p (.int .i64 (td i_1))] else [.p (.int .i64 v)]) (fun i_1=>[.p (.int .i64 (if i_1<tn then td i_1 else v))]))] [0,1,2,3,4,1,2,3,5,6,7,8,9,10,5,6,7,11,12,12,13,13,13,14,13,13,15,16,13,17,13,18,19,20,21,22,23,24,25,26,27,28,29,30,28,31,32,28,33,34,35,36,20,20,28,37,28,33,28,33,38,39,40,38,41,42,38,41,43,31,44,44,28,45,46,38,45,47]):=by kernel_rfl
theorem IX (g:Nat→aa) (nb N m:Nat) (F T Q td V:Nat→Int) (a b v:Int) (i j tn:Nat) :
    zM 4 [rg 1,.dec true,rg 5,rg 12,.dec false,rm [(8,oc [] (jI v))] 1,rg 8,rg 1,.dec false,rg 4,rg 13,.dec false,rg 10,.head] qd (SM g nb N m F T Q td V a b i j tn) [0,1,2,3,4] 1 (SC g nb N m (fun s=>if s=v.toNat then F s - 1 else F s) T Q (fun s=>if s<tn then td s else v) (fun s=>if s<tn then V s else j) a b v (tn+1)) =
    some (Jy,zD [((decide ((j:Int)<(m:Int)))=true),(IL 0 (j:Int)),(IT (j:Int) (m:Int)),(NT j m),(NT 0 1),(IL 0 (i:Int)),(IT (i:Int) (tn:Int)),(NT i tn),((T j != td i)=false),(IL 0 (Q j)),(IT (Q j) (nb:Int)),zE 113 [(oy g Q j),jI (td i)] [] (jI v),((iJ (fun i=>eu ((b8 tn td V).f i)) tn v)=false),(AG (!v==b)),(((!v==b)=true)→(NT 0 1)),(((!v==b)=true)→(IL 0 v)),(((!v==b)=true)→(IT v (N:Int))),(((!v==b)=true)→(NT v.toNat N)),(((v==b)=false)→((!v==b)=true)),((bif v==b then true else F v.toNat==0)=false),(IL 0 v),(IT v (N:Int)),(NT v.toNat N),(ax (F v.toNat - 1)),(au (F v.toNat - 1)),((false=true)→((N:Nat)=1)),(AN nb),(AP nb (aF g)),(AN 0),(AI a),(AI b),(AI v),(AN 3),(NL 1 1),(AN N),(AN m),(AN 1),(NL N N),(CV [(1,⟨false,1,N,(fun i_2=>(if (i_2=v.toNat) then [.p (.int .i64 (F v.toNat - 1))] else [.p (.int .i64 (F i_2))]))⟩),(4,⟨false,0,(tn+1),(fun i_2=>(if (i_2<tn) then [.p (.int .i64 (td i_2)),.p (.int .i64 (V i_2))] else [.p (.int .i64 v),.p (.int .i64 (j:Int))]))⟩),(0,⟨true,3,1,(fun i_2=>[.ar 1 1 0 N,.ar 1 2 0 m,.ar 1 3 0 m])⟩),(2,⟨false,1,m,(fun i_2=>[.p (.int .i64 (T i_2))])⟩),(3,⟨false,1,m,(fun i_2=>[.p (.int .i64 (Q i_2))])⟩),(5,⟨false,1,tn,(fun i_2=>[.p (.int .i64 (td i_2))])⟩)] [0,1,2,3,4] 1 N (fun i_1=>if (i_1=v.toNat) then [.p (.int .i64 (F v.toNat - 1))] else [.p (.int .i64 (F i_1))]) (fun i_1=>[.p (.int .i64 (if i_1=v.toNat then F i_1 - 1 else F i_1))])),(NL m m),(AA m (fun i_1=>[.p (.int .i64 (T i_1))])),(AA m (fun i_1=>[.p (.int .i64 (Q i_1))])),(AN ((tn+1))),(false=false),(NL (tn+1) (tn+1)),(CV [(1,⟨false,1,N,(fun i_2=>(if (i_2=v.toNat) then [.p (.int .i64 (F v.toNat - 1))] else [.p (.int .i64 (F i_2))]))⟩),(4,⟨false,0,(tn+1),(fun i_2=>(if (i_2<tn) then [.p (.int .i64 (td i_2)),.p (.int .i64 (V i_2))] else [.p (.int .i64 v),.p (.int .i64 (j:Int))]))⟩),(0,⟨true,3,1,(fun i_2=>[.ar 1 1 0 N,.ar 1 2 0 m,.ar 1 3 0 m])⟩),(2,⟨false,1,m,(fun i_2=>[.p (.int .i64 (T i_2))])⟩),(3,⟨false,1,m,(fun i_2=>[.p (.int .i64 (Q i_2))])⟩),(5,⟨false,1,tn,(fun i_2=>[.p (.int .i64 (td i_2))])⟩)] [0,1,2,3,4] 1 (tn+1) (fun i_1=>if (i_1<tn) then [.p (.int .i64 (td i_1)),.p (.int .i64 (V i_1))] else [.p (.int .i64 v),.p (.int .i64 (j:Int))]) (fun i_1=>[.p (.int .i64 (if i_1<tn then td i_1 else v)),.p (.int .i64 (if i_1<tn then V i_1 else (j:Int)))]))] [0,1,2,3,4,1,2,3,5,6,7,8,9,10,5,6,7,11,12,12,13,13,13,14,13,13,15,16,13,17,13,18,19,4,20,21,22,23,24,20,21,22,25,26,27,28,29,30,31,32,33,33,28,34,28,35,28,35,36,37,38,36,39,40,36,39,41,42,43,43,28,44,45]):=by kernel_rfl
theorem Hn (g:Nat→aa) (nb N m:Nat) (F T Q td V:Nat→Int) (a b v:Int) (tn:Nat) :
    zM 4 [rg 10,rg 2,.head] Jy (SC g nb N m F T Q td V a b v tn) [0,1,2,3,4] 1 (SP g nb N m (fun s=>if s=a.toNat then F s+1 else F s) T Q td V a b v tn) =
    some (F5,zD [(NT 0 1),(IL 0 a),(IT a (N:Int)),(NT a.toNat N),(ax (F a.toNat+1)),(au (F a.toNat+1)),((false=true)→((N:Nat)=1)),(AN nb),(AP nb (aF g)),(AN 0),(AI a),(AI b),(AI v),(AN 3),(NL 1 1),(AN N),(AN m),(AN 1),(NL N N),(CV [(1,⟨false,1,N,(fun i_1=>(if (i_1=a.toNat) then [.p (.int .i64 (F a.toNat+1))] else [.p (.int .i64 (F i_1))]))⟩),(0,⟨true,3,1,(fun i_1=>[.ar 1 1 0 N,.ar 1 2 0 m,.ar 1 3 0 m])⟩),(2,⟨false,1,m,(fun i_1=>[.p (.int .i64 (T i_1))])⟩),(3,⟨false,1,m,(fun i_1=>[.p (.int .i64 (Q i_1))])⟩),(4,⟨false,0,tn,(fun i_1=>[.p (.int .i64 (td i_1)),.p (.int .i64 (V i_1))])⟩)] [0,1,2,3,4] 1 N (fun i=>if (i=a.toNat) then [.p (.int .i64 (F a.toNat+1))] else [.p (.int .i64 (F i))]) (fun i=>[.p (.int .i64 (if i=a.toNat then F i+1 else F i))])),(NL m m),(AA m (fun i=>[.p (.int .i64 (T i))])),(AA m (fun i=>[.p (.int .i64 (Q i))])),(AN tn),(false=false),(NL tn tn),(AA tn (fun i=>[.p (.int .i64 (td i)),.p (.int .i64 (V i))]))] [0,1,2,3,4,5,1,2,3,6,7,8,9,10,11,12,13,14,14,9,15,9,16,9,16,17,18,19,17,20,21,17,20,22,23,24,24,9,25,26]):=by kernel_rfl
theorem Jv (g:Nat→aa) (nb N m:Nat) (F T Q td V:Nat→Int) (a b at' kk:Int) (tn:Nat) :
    zM 4 [rg 3,.dec true,rg 4,rg 8,rg 8,rg 2,.head] F5 (SP g nb N m F T Q td V a b at' tn) [0,1,2,3,4] 1 (SP g nb N m F (fun s=>if s=(g8 td V tn at' 0).toNat then at' else T s) Q td V a b (T (g8 td V tn at' 0).toNat) tn) =
    some (F5,zD [((at' != a)=true),(NT 0 1),(IL 0 (g8 (fun i=>eu ((b8 tn td V).f i)) (fun i=>kb ((b8 tn td V).f i)) tn at' 0)),(IT (g8 (fun i=>eu ((b8 tn td V).f i)) (fun i=>kb ((b8 tn td V).f i)) tn at' 0) (m:Int)),(NT ((g8 (fun i=>eu ((b8 tn td V).f i)) (fun i=>kb ((b8 tn td V).f i)) tn at' 0).toNat) m),((false=true)→((m:Nat)=1)),(AN nb),(AP nb (aF g)),(AN 0),(AI a),(AI b),(((T (g8 (fun i=>eu ((b8 tn td V).f i)) (fun i=>kb ((b8 tn td V).f i)) tn at' 0).toNat):Int)=(T (g8 td V tn at' 0).toNat)),(AN 3),(NL 1 1),(AN N),(AN m),(AN 1),(NL N N),(AA N (fun i=>[.p (.int .i64 (F i))])),(NL m m),(CV [(2,⟨false,1,m,(fun i_1=>(if (i_1=(g8 (fun i=>eu ((b8 tn td V).f i)) (fun i=>kb ((b8 tn td V).f i)) tn at' 0).toNat) then [.p (.int .i64 at')] else [.p (.int .i64 (T i_1))]))⟩),(0,⟨true,3,1,(fun i_1=>[.ar 1 1 0 N,.ar 1 2 0 m,.ar 1 3 0 m])⟩),(1,⟨false,1,N,(fun i_1=>[.p (.int .i64 (F i_1))])⟩),(3,⟨false,1,m,(fun i_1=>[.p (.int .i64 (Q i_1))])⟩),(4,⟨false,0,tn,(fun i_1=>[.p (.int .i64 (td i_1)),.p (.int .i64 (V i_1))])⟩)] [0,1,2,3,4] 1 m (fun i=>if (i=(g8 (fun i=>eu ((b8 tn td V).f i)) (fun i=>kb ((b8 tn td V).f i)) tn at' 0).toNat) then [.p (.int .i64 at')] else [.p (.int .i64 (T i))]) (fun i=>[.p (.int .i64 (if i=(g8 td V tn at' 0).toNat then at' else T i))])),(AA m (fun i=>[.p (.int .i64 (Q i))])),(AN tn),(false=false),(NL tn tn),(AA tn (fun i=>[.p (.int .i64 (td i)),.p (.int .i64 (V i))]))] [0,1,2,3,4,1,2,3,4,5,6,7,8,9,10,11,12,13,13,8,14,8,15,8,15,16,17,18,16,19,20,16,19,21,22,23,23,8,24,25]):=by kernel_rfl
theorem G7 (g:Nat→aa) (nb N m:Nat) (F T Q td V:Nat→Int) (a b at':Int) (tn:Nat) :
    zP Tryz.f152 4 [rg 3,.dec false,rg 1] F5 (SP g nb N m F T Q td V a b at' tn) [0,1,2,3] 1 (cQ N m F T Q) (jB true) =
    some [((at' != a)=false),(true=true),(AN 3),(NL 1 1),(NL 1 1),(AN 0),(AN N),(AN 0),(AN m),(AN 0),(AN m),(AN 1),(NL N N),(AA N (fun i=>[.p (.int .i64 (F i))])),(AN 1),(NL m m),(AA m (fun i=>[.p (.int .i64 (T i))])),(AN 1),(NL m m),(AA m (fun i=>[.p (.int .i64 (Q i))])),(AE 1),(AE N),(AE m),(AE m)]:=by kernel_rfl
def dQ (T:Nat→Int):Nat→Int→Int
  | 0,_=>0
  | m+1,v=>dQ T m v+if T m=v then 1 else 0
structure PInv (N k nb m:Nat) (g:Nat→aa) (F T Q:Nat→Int):Prop where
  bars:∀ e,e<nb→0≤(g e).1∧(g e).1<(g e).2.1∧(g e).2.1<N
  q:∀ j,j<m→0≤Q j∧Q j<nb
  t:∀ j,j<m→T j=(g (Q j).toNat).1∨T j=(g (Q j).toNat).2.1
  f0:∀ v,v<N→0≤F v
  sum:∀ v:Nat,v<N→F v+dQ T m v=k
theorem CL (T:Nat→Int) (j:Nat) (u x:Int):∀ m,j<m→dQ (fun s=>if s=j then u else T s) m x=dQ T m x+(if u=x then 1 else 0) - (if T j=x then 1 else 0):=by
  have out:∀ m,m≤j→dQ (fun s=>if s=j then u else T s) m x=dQ T m x:=by
    intro m
    induction m with
    | zero=>intro _;rfl
    | succ m ih =>
      intro h
      simp only [dQ,show ¬ m=j by omega,if_false]
      rw [ih (by omega)]
  intro m
  induction m with
  | zero=>omega
  | succ m ih =>
    intro h
    by_cases e:j=m
    · subst e
      simp only [dQ,if_true]
      rw [out j (Nat.le_refl _)]
      omega
    · simp only [dQ,show ¬ m=j by omega,if_false]
      rw [ih (by omega)]
      omega
theorem jd (T:Nat→Int) (x:Int):∀ m,0≤dQ T m x
  | 0=>Int.le_refl 0
  | m+1=>by have:=jd T x m;simp only [dQ];split<;>omega
theorem ru (K V:Nat→Int) (v:Int):∀ n s,(jX K V v n s).isSome=true↔∃ i,s≤i∧i<s+n∧K i=v
  | 0,s=>by simp [jX];intro i h1 h2;omega
  | n+1,s=>by
    simp only [jX]
    by_cases h:K s=v
    · simp only [h,if_true,Option.isSome_some,true_iff]
      exact ⟨s,Nat.le_refl _,by omega,h⟩
    · rw [if_neg h,ru K V v n (s+1)]
      constructor
      · rintro ⟨i,h1,h2,h3⟩;exact ⟨i,by omega,by omega,h3⟩
      · rintro ⟨i,h1,h2,h3⟩
        have:i≠s:=fun e=>h (by rw [← e];exact h3)
        exact ⟨i,by omega,by omega,h3⟩
theorem rF (K:Nat→Int) (n:Nat) (v:Int):iJ K n v=true↔∃ i,i<n∧K i=v:=by
  unfold iJ
  rw [ru]
  simp
theorem v8 (K V:Nat→Int) (v d:Int) (p:Nat) (hv:K p=v):∀ n s,s≤p→p<s+n→(∀ i,s≤i→i<p→K i≠v)→jX K V v n s=some (p,V p)
  | 0,s,h1,h2,_=>by omega
  | n+1,s,h1,h2,h3=>by
    simp only [jX]
    by_cases e:s=p
    · subst e;rw [if_pos hv]
    · rw [if_neg (h3 s (Nat.le_refl _) (by omega)),v8 K V v d p hv n (s+1) (by omega) (by omega) (fun i h4 h5=>h3 i (by omega) h5)]
theorem eL:∀ (N n:Nat) (td:Nat→Int),(∀ s,s<n→0≤td s∧td s<N)→(∀ s s',s<s'→s'<n→td s≠td s')→n≤N
  | 0,n,td,h,_=>by
    cases n with
    | zero=>exact Nat.le_refl _
    | succ n=>have:=h 0 (by omega);omega
  | N+1,n,td,h,hi=>by
    by_cases hs:∃ s,s<n∧td s=N
    · obtain ⟨s,h1,h2⟩:=hs
      have:=eL N (n - 1) (fun x=>if x<s then td x else td (x+1)) (fun x hx=>by
        have hne:∀ y,y<n→y≠s→td y≠N:=by
          intro y hy hys e
          rcases Nat.lt_or_gt_of_ne hys with h' | h'
          · exact hi y s h' h1 (by rw [e,h2])
          · exact hi s y h' hy (by rw [e,h2])
        show 0≤(if x<s then td x else td (x+1))∧(if x<s then td x else td (x+1))<N
        split
        · have:=h x (by omega);have:=hne x (by omega) (by omega);omega
        · have:=h (x+1) (by omega);have:=hne (x+1) (by omega) (by omega);omega) (fun x y hxy hy=>by
        show (if x<s then td x else td (x+1))≠(if y<s then td y else td (y+1))
        split<;>split
        · exact hi x y hxy (by omega)
        · exact hi x (y+1) (by omega) (by omega)
        · omega
        · exact hi (x+1) (y+1) (by omega) (by omega))
      omega
    · have:=eL N n td (fun s hs'=>by
        have:=h s hs'
        have:td s≠N:=fun e=>hs ⟨s,hs',e⟩
        omega) hi
      omega
structure BInv (N m:Nat) (g:Nat→aa) (F T Q td V:Nat→Int) (a b:Int) (tn:Nat):Prop where
  n1:1≤tn
  td0:td 0=a
  rng:∀ s,s<tn→0≤td s∧td s<N
  inj:∀ s s',s<s'→s'<tn→td s≠td s'
  par:∀ s,1≤s→s<tn→∃ j:Nat,j<m∧V s=j∧∃ s',s'<s∧T j=td s'∧aw (g (Q j).toNat) (td s')=td s
def mQ (F td:Nat→Int) (b:Int) (tn:Nat):Prop:=∀ s,1≤s→s<tn→td s=b∨F (td s).toNat=0
def tH (m:Nat) (g:Nat→aa) (T Q td:Nat→Int) (i j tn:Nat):Prop :=
  ∀ i' j',(i'<i∧j'<m)∨(i'=i∧j'<j)→i'<tn→T j'=td i'→∃ s,s<tn∧td s=aw (g (Q j').toNat) (td i')
theorem BInv.add {N m:Nat} {g:Nat→aa} {F T Q td V:Nat→Int} {a b:Int} {tn:Nat} (h:BInv N m g F T Q td V a b tn) {i j:Nat} (hi:i<tn) (hj:j<m) (ht:T j=td i) {v:Int}
    (hv:aw (g (Q j).toNat) (td i)=v) (hr:0≤v∧v<N) (hno:∀ s,s<tn→td s≠v) :
    BInv N m g F T Q (fun s=>if s<tn then td s else v) (fun s=>if s<tn then V s else j) a b (tn+1):=by
  have hn1:=h.n1
  refine ⟨by omega,?_,fun s hs=>?_,fun s s' h1 h2=>?_,fun s h1 h2=>?_⟩
  · show (if 0<tn then td 0 else v)=a
    rw [if_pos (by omega)];exact h.td0
  · show 0≤(if s<tn then td s else v)∧(if s<tn then td s else v)<N
    split
    · exact h.rng s (by assumption)
    · exact hr
  · show (if s<tn then td s else v)≠(if s'<tn then td s' else v)
    rw [if_pos (show s<tn by omega)]
    split
    · exact h.inj s s' h1 (by assumption)
    · exact hno s (by omega)
  · by_cases hs:s<tn
    · obtain ⟨j',g1,g2,s',g3,g4,g5⟩:=h.par s h1 hs
      refine ⟨j',g1,by simp only [hs,if_true];exact g2,s',g3,?_,?_⟩
      · show T j'=(if s'<tn then td s' else v)
        rw [if_pos (by omega)];exact g4
      · show aw (g (Q j').toNat) (if s'<tn then td s' else v)=(if s<tn then td s else v)
        rw [if_pos (by omega),if_pos hs];exact g5
    · refine ⟨j,hj,by simp only [hs,if_false],i,by omega,?_,?_⟩
      · show T j=(if i<tn then td i else v)
        rw [if_pos hi];exact ht
      · show aw (g (Q j).toNat) (if i<tn then td i else v)=(if s<tn then td s else v)
        rw [if_pos hi,if_neg hs];exact hv
theorem vU {x:aa} {v:Int} {N:Nat} (h:0≤x.1∧x.1<x.2.1∧x.2.1<N):0≤aw x v∧aw x v<N:=by
  unfold aw;split<;>omega
theorem AO {x:aa} (v:Int):aw x v=x.1∨aw x v=x.2.1:=by
  unfold aw;split
  · exact .inr rfl
  · exact .inl rfl
structure TInv (m:Nat) (g:Nat→aa) (T Q td V T':Nat→Int) (v:Int) (s:Nat):Prop where
  keep:∀ p,1≤p→p≤s→T' (V p).toNat=T (V p).toNat
  t:∀ j,j<m→T' j=(g (Q j).toNat).1∨T' j=(g (Q j).toNat).2.1
  cnt:∀ x,dQ T' m x=dQ T m x+(if v=x then 1 else 0) - (if td s=x then 1 else 0)
theorem TInv.step {N m:Nat} {g:Nat→aa} {F T Q td V:Nat→Int} {a b:Int} {tn:Nat} (h:BInv N m g F T Q td V a b tn) {T':Nat→Int} {v:Int} {s:Nat} (hs:s<tn) (hs1:1≤s)
    (ht:TInv m g T Q td V T' v s):∃ j:Nat,j<m∧V s=j∧∃ s',s'<s∧T' j=td s'∧TInv m g T Q td V (fun x=>if x=j then td s else T' x) v s'∧T j=td s'∧aw (g (Q j).toNat) (td s')=td s:=by
  obtain ⟨j,g1,g2,s',g3,g4,g5⟩:=h.par s hs1 hs
  have hk:T' j=td s':=by
    have:=ht.keep s hs1 (Nat.le_refl _)
    rw [g2] at this
    simp only [Int.toNat_natCast] at this
    rw [this,g4]
  refine ⟨j,g1,g2,s',g3,hk,⟨fun p h1 h2=>?_,fun j' hj'=>?_,fun x=>?_⟩,g4,g5⟩
  · obtain ⟨jp,e1,e2,sp,e3,e4,e5⟩:=h.par p h1 (by omega)
    have hne:jp≠j:=by
      intro e
      subst e
      rw [g4] at e4
      rw [← e4,g5] at e5
      exact h.inj p s (by omega) hs e5.symm
    have:=ht.keep p h1 (by omega)
    rw [e2] at this ⊢
    simp only [Int.toNat_natCast] at this ⊢
    rw [if_neg hne];exact this
  · show (if j'=j then td s else T' j')=_∨(if j'=j then td s else T' j')=_
    by_cases e:j'=j
    · subst e
      rw [if_pos rfl,← g5]
      exact AO _
    · rw [if_neg e];exact ht.t j' hj'
  · rw [CL T' j (td s) x m g1,ht.cnt x,hk]
    omega
structure Moved (N k nb m:Nat) (g:Nat→aa) (F T Q:Nat→Int) (a b:Int) (F' T':Nat→Int) (r:Bool):Prop where
  inv:PInv N k nb m g F' T' Q
  yes:r=true→F' a.toNat=F a.toNat+1∧F' b.toNat=F b.toNat
  no:r=false→F'=F∧T'=T∧∃ R:Nat→Bool,R a.toNat=true∧(∀ j,j<m→R (T j).toNat=true→R (aw (g (Q j).toNat) (T j)).toNat=true)∧∀ v:Nat,R v=true→(v:Int)≠a→(v:Int)≠b→F v=0
open Classical in
theorem qR {N k nb m:Nat} {g:Nat→aa} {F T Q td V:Nat→Int} {a b:Int} {tn:Nat} (hp:PInv N k nb m g F T Q) (h:BInv N m g F T Q td V a b tn) (hz:mQ F td b tn) (hc:tH m g T Q td tn 0 tn) :
    Moved N k nb m g F T Q a b F T false:=by
  refine ⟨hp,(fun e=>by cases e),fun _=>⟨rfl,rfl,fun v=>decide (∃ s,s<tn∧td s=v),?_,fun j hj hR=>?_,fun v hR h1 h2=>?_⟩⟩
  · have hn:=h.n1
    have:=h.rng 0 (by omega)
    rw [h.td0] at this
    exact decide_eq_true ⟨0,by omega,by rw [h.td0];omega⟩
  · obtain ⟨s,h1,h2⟩:=of_decide_eq_true hR
    have hT:0≤T j:=by
      have hb:=hp.bars (Q j).toNat (by have:=hp.q j hj;omega)
      rcases hp.t j hj with e | e<;>rw [e]<;>omega
    have hTs:T j=td s:=by omega
    obtain ⟨s',h3,h4⟩:=hc s j (.inl ⟨h1,hj⟩) h1 hTs
    refine decide_eq_true ⟨s',h3,?_⟩
    have:=h.rng s' h3
    rw [hTs,← h4];omega
  · obtain ⟨s,h3,h4⟩:=of_decide_eq_true hR
    have hs1:1≤s:=by
      cases s with
      | zero=>exact absurd (by rw [← h4,h.td0]) h1
      | succ s=>omega
    rcases hz s hs1 h3 with e | e
    · exact absurd (by rw [← h4,e]) h2
    · rw [h4] at e;simpa using e
theorem oX {N k nb m:Nat} {g:Nat→aa} {F T Q td V T':Nat→Int} {a b v:Int} {s:Nat} (hp:PInv N k nb m g F T Q) (ha:0≤a∧a<N) (hb:0≤b∧b<N) (hab:a≠b) (hv:0≤v∧v<N) (hva:v≠a) (hvb:v≠b) (hF:F v.toNat≠0)
    (ht:TInv m g T Q td V T' v s) (hs:td s=a) :
    Moved N k nb m g F T Q a b (fun x=>if x=a.toNat then (if x=v.toNat then F x - 1 else F x)+1 else (if x=v.toNat then F x - 1 else F x)) T' true:=by
  refine ⟨⟨hp.bars,hp.q,ht.t,fun x hx=>?_,fun x hx=>?_⟩,fun _=>⟨?_,?_⟩,(fun e=>by cases e)⟩
  · have h1:=hp.f0 x hx
    show 0≤(if x=a.toNat then (if x=v.toNat then F x - 1 else F x)+1 else (if x=v.toNat then F x - 1 else F x))
    by_cases e:x=v.toNat
    · rw [← e] at hF
      rw [if_neg (show ¬ x=a.toNat by omega),if_pos e];omega
    · by_cases e':x=a.toNat
      · rw [if_pos e',if_neg e];omega
      · rw [if_neg e',if_neg e];omega
  · have h1:=hp.sum x hx
    have h2:=ht.cnt x
    rw [hs] at h2
    show (if x=a.toNat then (if x=v.toNat then F x - 1 else F x)+1 else (if x=v.toNat then F x - 1 else F x))+dQ T' m x=k
    by_cases e1:x=a.toNat
    · have e2:¬ x=v.toNat:=by omega
      have e3:¬ v=(x:Int):=by omega
      have e4:a=(x:Int):=by omega
      rw [if_pos e1,if_neg e2]
      rw [if_neg e3,if_pos e4] at h2
      omega
    · have e4:¬ a=(x:Int):=by omega
      rw [if_neg e1]
      rw [if_neg e4] at h2
      by_cases e2:x=v.toNat
      · have e3:v=(x:Int):=by omega
        rw [if_pos e2]
        rw [if_pos e3] at h2
        omega
      · have e3:¬ v=(x:Int):=by omega
        rw [if_neg e2]
        rw [if_neg e3] at h2
        omega
  · show (if a.toNat=a.toNat then (if a.toNat=v.toNat then F a.toNat - 1 else F a.toNat)+1 else _)=_
    rw [if_pos rfl,if_neg (by omega)]
  · show (if b.toNat=a.toNat then _ else (if b.toNat=v.toNat then F b.toNat - 1 else F b.toNat))=_
    rw [if_neg (by omega),if_neg (by omega)]
theorem pq (x:aa) (v:Int):zE 113 [jZ x,.p (.int .i64 v)] [] (.p (.int .i64 (aw x v))):=by
  refine aW Tryz.func113 (fun c hc=>?_)
  by_cases h:x.1=v
  · have hb:(x.1==v)=true:=by simp [h]
    rw [show aw x v=x.2.1 by simp [aw,h]]
    refine be Tryz.func113 hc (CD x v) ?_
    and_intros
    all_goals (first | exact zN | simp)
  · have hb:(x.1==v)=false:=by simp [h]
    rw [show aw x v=x.1 by simp [aw,h]]
    refine be Tryz.func113 hc (Cj x v) ?_
    and_intros
    all_goals (first | exact zN | simp)
theorem AU {N nb m:Nat} {g:Nat→aa} {F F1 T Q td V:Nat→Int} {a b v:Int} {tn:Nat} (h:BInv N m g F T Q td V a b tn) (hN:N≤1048576) (hm:m≤1048576) :
    ∀ s,s<tn→∀ T':Nat→Int,TInv m g T Q td V T' v s→∃ T'' s',(∀ c,c.n=4→zR c 152 F5 (SP g nb N m F1 T' Q td V a b (td s) tn) (aS c (cQ N m F1 T'' Q) (.p (.bool true)))) ∧
      TInv m g T Q td V T'' v s'∧td s'=a:=by
  intro s
  induction s using Nat.strongRecOn with
  | ind s ih =>
    intro hs T' ht
    by_cases he:td s=a
    · refine ⟨T',s,fun c hc=>?_,ht,he⟩
      have hb:(td s != a)=false:=by simp [he]
      refine be Tryz.func152 hc (G7 g nb N m F1 T' Q td V a b (td s) tn) ?_
      and_intros
      all_goals (first | exact zN | (exact hb) | (intro i hi;simp [af]))
    · have hs1:1≤s:=by
        cases s with
        | zero=>exact absurd h.td0 he
        | succ s=>omega
      obtain ⟨j,hj,hVs,s',hs',hk,ht',_,_⟩:=ht.step h hs hs1
      obtain ⟨T'',s'',hrun,h1,h2⟩:=ih s' hs' (by omega) _ ht'
      refine ⟨T'',s'',fun c hc=>?_,h1,h2⟩
      have hb:(td s != a)=true:=by simp [he]
      have hmg:g8 td V tn (td s) 0=(j:Int):=by
        unfold g8
        rw [v8 td V (td s) 0 s rfl tn 0 (by omega) (by omega) (fun i _ hi=>h.inj i s hi hs)]
        exact hVs
      have hmM:g8 (fun i=>eu ((b8 tn td V).f i)) (fun i=>kb ((b8 tn td V).f i)) tn (td s) 0=(j:Int):=hmg
      refine a9 hc (Jv g nb N m F1 T' Q td V a b (td s) 0 tn) ?_ (by rw [hmg];simp only [Int.toNat_natCast];rw [hk];exact hrun c hc)
      and_intros
      all_goals (first | exact zI | (exact hb) | (rw [hmM];omega) | (rw [hmM,hmg];done) | (intro i hi;simp [af];done) | (simp only [hmM,hmg,Int.toNat_natCast];intro i hi;by_cases h:i=j<;>simp [h,ay,bh,tg,bu,af]))
def Gm (N k nb m:Nat) (g:Nat→aa) (F T Q:Nat→Int) (a b:Int) (i tn:Nat) (td V:Nat→Int):Prop :=
  ∃ F' T' r,(∀ c,c.n=4→zR c 152 [.code (ao (ab Tryz.f152) [1,1,1,0,1,0,0]),.inLoop (ao (ab Tryz.f152) [1,1,1,0,1,0,0]),.inBlock 0,.code (ao (ab Tryz.f152) [1,1,1,1])] (SO g nb N m F T Q td V a b i tn) (aS c (cQ N m F' T' Q) (.p (.bool r))))∧Moved N k nb m g F T Q a b F' T' r
def Iz (N k nb m:Nat) (g:Nat→aa) (F T Q:Nat→Int) (a b:Int) (i j tn:Nat) (td V:Nat→Int):Prop :=
  ∃ F' T' r,(∀ c,c.n=4→zR c 152 [.code (ao (ab Tryz.f152) [1,1,1,0,1,0,0,1,0,0,1,0,0]),.inLoop (ao (ab Tryz.f152) [1,1,1,0,1,0,0,1,0,0,1,0,0]),.inBlock 2,.inBlock 1,.code (ao (ab Tryz.f152) [1,1,1,0,1,0,0,1,1]),.inLoop (ao (ab Tryz.f152) [1,1,1,0,1,0,0]),.inBlock 0,.code (ao (ab Tryz.f152) [1,1,1,1])] (SM g nb N m F T Q td V a b i j tn) (aS c (cQ N m F' T' Q) (.p (.bool r))))∧Moved N k nb m g F T Q a b F' T' r
theorem PInv.le {N k nb m:Nat} {g:Nat→aa} {F T Q:Nat→Int} (hp:PInv N k nb m g F T Q) {v:Nat} (hv:v<N):0≤F v∧F v≤k:=by
  have h1:=hp.f0 v hv
  have h2:=hp.sum v hv
  have h3:=jd T v m
  omega
theorem B7 {N k nb m:Nat} {g:Nat→aa} {F T Q:Nat→Int} {a b:Int} (hp:PInv N k nb m g F T Q) (hk:k≤1048576) (hN:N≤1048576) (hm:m≤1048576) (hnb:nb≤1048576)
    (ha:0≤a∧a<N) (hb:0≤b∧b<N) (hab:a≠b) (i:Nat)
    (ih:∀ tn td V,i+1≤tn→BInv N m g F T Q td V a b tn→mQ F td b tn→tH m g T Q td (i+1) 0 tn→Gm N k nb m g F T Q a b (i+1) tn td V) :
    ∀ e j tn td V,j+e=m→i<tn→BInv N m g F T Q td V a b tn→mQ F td b tn→tH m g T Q td i j tn→Iz N k nb m g F T Q a b i j tn td V:=by
  intro e
  induction e with
  | zero =>
    intro j tn td V hj hi hbi hz hcl
    have htn:=eL N tn td hbi.rng hbi.inj
    obtain ⟨F',T',r,hrun,hmv⟩:=ih tn td V (by omega) hbi hz (fun i' j' hij hi' hT=>by
      rcases hij with ⟨h1,h2⟩ | ⟨h1,h2⟩
      · by_cases e:i'=i
        · exact hcl i' j' (.inr ⟨e,by omega⟩) hi' hT
        · exact hcl i' j' (.inl ⟨by omega,h2⟩) hi' hT
      · omega)
    refine ⟨F',T',r,fun c hc=>?_,hmv⟩
    have hd:decide ((j:Int)<(m:Int))=false:=by simp;omega
    refine a9 hc (II g nb N m F T Q td V a b i j tn) ?_ (hrun c hc)
    and_intros
    all_goals (first | exact zN | (intro i hi;simp [af]))
  | succ e ihe =>
    intro j tn td V hj hi hbi hz hcl
    have htn:=eL N tn td hbi.rng hbi.inj
    have hjm:j<m:=by omega
    have hd:decide ((j:Int)<(m:Int))=true:=by simp;omega
    have hq:=hp.q j hjm
    have hbar:=hp.bars (Q j).toNat (by omega)
    have hrg:=hbi.rng i hi
    by_cases hT:T j=td i
    · have ht1:(T j != td i)=false:=by simp [hT]
      obtain ⟨v,hv⟩:∃ v,aw (g (Q j).toNat) (td i)=v:=⟨_,rfl⟩
      have hvr:0≤v∧v<N:=by rw [← hv];exact vU hbar
      have hcon:=pq (g (Q j).toNat) (td i)
      rw [hv] at hcon
      cases hh:iJ td tn v with
      | true =>
        have hhM:iJ (fun i=>eu ((b8 tn td V).f i)) tn v=true:=hh
        obtain ⟨s,hs1,hs2⟩:=(rF td tn v).1 hh
        obtain ⟨F',T',r,hrun,hmv⟩:=ihe (j+1) tn td V (by omega) hi hbi hz (fun i' j' hij hi' hTT=>by
          by_cases e:i'=i∧j'=j
          · obtain ⟨rfl,rfl⟩:=e
            exact ⟨s,hs1,by rw [hs2,hv]⟩
          · exact hcl i' j' (by omega) hi' hTT)
        refine ⟨F',T',r,fun c hc=>?_,hmv⟩
        refine a9 hc (Ih g nb N m F T Q td V a b v i j tn) ?_ (hrun c hc)
        and_intros
        all_goals (first | exact zN | (exact ht1) | (exact hcon) | (exact hhM) | (intro i hi;simp [af]))
      | false =>
        have hhM:iJ (fun i=>eu ((b8 tn td V).f i)) tn v=false:=hh
        have hno:∀ s,s<tn→td s≠v:=by
          intro s hs e
          have:=(rF td tn v).2 ⟨s,hs,e⟩
          rw [hh] at this;cases this
        have hadd:=hbi.add hi hjm hT hv hvr hno
        have hF:=hp.le (v:=v.toNat) (by omega)
        cases hcd:(bif v==b then true else F v.toNat==0) with
        | true =>
          have hzv:v=b∨F v.toNat=0:=by
            by_cases e:v=b
            · exact .inl e
            · right
              have:(v==b)=false:=by simp [e]
              rw [this] at hcd
              simpa using hcd
          obtain ⟨F',T',r,hrun,hmv⟩:=ihe (j+1) (tn+1) _ _ (by omega) (by omega) hadd (fun s h1 h2=>by
            show (if s<tn then td s else v)=b∨F (if s<tn then td s else v).toNat=0
            by_cases e:s<tn
            · rw [if_pos e];exact hz s h1 e
            · rw [if_neg e];exact hzv) (fun i' j' hij hi' hTT=>by
            have hi2:i'<tn:=by omega
            have hTT':T j'=td i':=by rw [hTT];show (if i'<tn then td i' else v)=_;rw [if_pos hi2]
            show ∃ s,s<tn+1∧(if s<tn then td s else v)=aw (g (Q j').toNat) (if i'<tn then td i' else v)
            rw [if_pos hi2]
            by_cases e:i'=i∧j'=j
            · obtain ⟨rfl,rfl⟩:=e
              exact ⟨tn,by omega,by rw [if_neg (Nat.lt_irrefl tn),hv]⟩
            · obtain ⟨s,h1,h2⟩:=hcl i' j' (by omega) hi2 hTT'
              exact ⟨s,by omega,by rw [if_pos h1];exact h2⟩)
          refine ⟨F',T',r,fun c hc=>?_,hmv⟩
          refine a9 hc (Iy g nb N m F T Q td V a b v i j tn) ?_ (hrun c hc)
          and_intros
          all_goals (first | exact zH | (exact ht1) | (exact hcon) | (exact hhM) | (exact hcd) | (intro i hi;simp [af];done) | (intro i hi;by_cases h:i<tn<;>simp [h,ay,bh,tg,bu,af]))
        | false =>
          have hvb:v≠b:=by
            intro e
            rw [show (v==b)=true by simp [e]] at hcd
            cases hcd
          have hFv:F v.toNat≠0:=by
            intro e
            rw [show (v==b)=false by simp [hvb]] at hcd
            simp [e] at hcd
          have hva:v≠a:=by
            have:=hno 0 (by have:=hbi.n1;omega)
            rw [hbi.td0] at this
            exact Ne.symm this
          have ht0:TInv m g T Q (fun s=>if s<tn then td s else v) (fun s=>if s<tn then V s else j) T v tn:=by
            refine ⟨fun _ _ _=>rfl,hp.t,fun x=>?_⟩
            show _=dQ T m x+_ - (if (if tn<tn then td tn else v)=x then 1 else 0)
            simp only [Nat.lt_irrefl,if_false]
            omega
          obtain ⟨T'',s',hrun,h1,h2⟩:=AU (nb:=nb) (F1:=fun x=>if x=a.toNat then (if x=v.toNat then F x - 1 else F x)+1 else (if x=v.toNat then F x - 1 else F x)) hadd hN hm tn (by omega) T ht0
          refine ⟨_,T'',true,fun c hc=>?_,oX hp ha hb hab hvr hva hvb hFv h1 h2⟩
          have hFa:=hp.le (v:=a.toNat) (by omega)
          have hrun':=hrun c hc
          simp only [Nat.lt_irrefl,if_false] at hrun'
          refine a9 hc (IX g nb N m F T Q td V a b v i j tn) ?_ ?_
          ·
            and_intros
            all_goals (first | exact zH | (exact ht1) | (exact hcon) | (exact hhM) | (exact hcd) | (intros;omega) | (intro i hi;simp [af];done) | (intro i hi;by_cases h:i<tn<;>simp [h,ay,bh,tg,bu,af];done) | (intro i hi;by_cases h:i=v.toNat<;>simp [h,ay,bh,tg,bu,af]))
          · have hF1:(fun s=>if s=v.toNat then F s - 1 else F s) a.toNat=F a.toNat:=by
              show (if a.toNat=v.toNat then F a.toNat - 1 else F a.toNat)=_
              rw [if_neg (by omega)]
            obtain ⟨F1,hF1d⟩:∃ F1:Nat→Int,F1=(fun s=>if s=v.toNat then F s - 1 else F s):=⟨_,rfl⟩
            have hFF:(fun x=>if x=a.toNat then (if x=v.toNat then F x - 1 else F x)+1 else (if x=v.toNat then F x - 1 else F x))=(fun s=>if s=a.toNat then F1 s+1 else F1 s):=by
              subst hF1d;rfl
            rw [hFF] at hrun' ⊢
            rw [← hF1d] at hF1 ⊢
            refine a9 hc (Hn g nb N m F1 T Q _ _ a b v (tn+1)) ?_ hrun'
            and_intros
            all_goals (first | exact zI | (rw [hF1];omega) | (intro i hi;simp [af];done) | (intro i hi;by_cases h:i=a.toNat<;>simp [h,ay,bh,tg,bu,af]))
    · have ht1:(T j != td i)=true:=by simp [hT]
      obtain ⟨F',T',r,hrun,hmv⟩:=ihe (j+1) tn td V (by omega) hi hbi hz (fun i' j' hij hi' hTT=>by
        by_cases e:i'=i∧j'=j
        · obtain ⟨rfl,rfl⟩:=e
          exact absurd hTT hT
        · exact hcl i' j' (by omega) hi' hTT)
      refine ⟨F',T',r,fun c hc=>?_,hmv⟩
      refine a9 hc (Je g nb N m F T Q td V a b i j tn) ?_ (hrun c hc)
      and_intros
      all_goals (first | exact zN | (exact ht1) | (intro i hi;simp [af]))
theorem BV {N k nb m:Nat} {g:Nat→aa} {F T Q:Nat→Int} {a b:Int} (hp:PInv N k nb m g F T Q) (hk:k≤1048576) (hN:N≤1048576) (hm:m≤1048576) (hnb:nb≤1048576)
    (ha:0≤a∧a<N) (hb:0≤b∧b<N) (hab:a≠b):∀ d i tn td V,N+1≤i+d→i≤tn→BInv N m g F T Q td V a b tn→mQ F td b tn→tH m g T Q td i 0 tn→Gm N k nb m g F T Q a b i tn td V:=by
  intro d
  induction d with
  | zero =>
    intro i tn td V hd hi hbi _ _
    have:=eL N tn td hbi.rng hbi.inj
    omega
  | succ d ih =>
    intro i tn td V hd hi hbi hz hcl
    have htn:=eL N tn td hbi.rng hbi.inj
    by_cases hit:i<tn
    · have hd':decide ((i:Int)<(tn:Int))=true:=by simp;omega
      obtain ⟨F',T',r,hrun,hmv⟩:=B7 hp hk hN hm hnb ha hb hab i (fun tn td V h1 h2 h3 h4=>ih (i+1) tn td V (by omega) h1 h2 h3 h4) m 0 tn td V (by omega) hit hbi hz hcl
      refine ⟨F',T',r,fun c hc=>?_,hmv⟩
      refine a9 hc (Ji g nb N m F T Q td V a b i tn) ?_ (hrun c hc)
      and_intros
      all_goals (first | exact zN | (intro i hi;simp [af]))
    · have hd':decide ((i:Int)<(tn:Int))=false:=by simp;omega
      obtain rfl:i=tn:=by omega
      refine ⟨F,T,false,fun c hc=>?_,qR hp hbi hz hcl⟩
      refine be Tryz.func152 hc (Jt g nb N m F T Q td V a b i i) ?_
      and_intros
      all_goals (first | exact zN | (intro i hi;simp [af]))
theorem mG {N k nb m:Nat} {g:Nat→aa} {F T Q:Nat→Int} {a b:Int} (hp:PInv N k nb m g F T Q) (hk:k≤1048576) (hN:N≤1048576) (hm:m≤1048576) (hnb:nb≤1048576)
    (ha:0≤a∧a<N) (hb:0≤b∧b<N) (hab:a≠b):∃ F' T' r,Con Tryz.prog 152 4 (cQ N m F T Q) [b4 g nb,.pt 3 0 0 0,.p (.int .i64 a),.p (.int .i64 b)] (cQ N m F' T' Q) (.p (.bool r)) ∧
      Moved N k nb m g F T Q a b F' T' r:=by
  obtain ⟨F',T',r,hrun,hmv⟩:=BV hp hk hN hm hnb ha hb hab (N+1) 0 1 (fun _=>a) (fun _=>-1) (by omega) (by omega)
    ⟨by omega,rfl,fun s hs=>ha,fun s s' h1 h2=>by omega,fun s h1 h2=>by omega⟩ (fun s h1 h2=>by omega) (fun i' j' h=>by omega)
  refine ⟨F',T',r,?_,hmv⟩
  refine aW Tryz.func152 (fun c hc=>?_)
  refine a9 hc (LR g nb N m F T Q a b) ?_ (hrun c hc)
  and_intros
  all_goals (first | exact zN | (intro i hi;simp [af]))
def SG (g:Nat→aa) (nb N m:Nat) (F T Q:Nat→Int) (a b want:Int):St :=
  ⟨[b4 g nb,.pt 3 0 0 0,.p (.int .i64 a),.p (.int .i64 b),.p (.int .i64 want)]++List.replicate 37 ag,cQ N m F T Q,4⟩
def vy (N m:Nat) (F T Q:Nat→Int):Hp:=[(0,⟨true,3,1,fun _=>[.ar 1 1 0 N,.ar 1 4 0 m,.ar 1 5 0 m]⟩),(1,aY N F),(4,aY m T),(5,aY m Q)]
theorem KQ (g:Nat→aa) (nb N m:Nat) (F T Q:Nat→Int) (a b want:Int) :
    zM 4 [rg 1,.head] [.code (ab Tryz.f127)] (start Tryz.f127 (cQ N m F T Q) 4 [b4 g nb,.pt 3 0 0 0,jI a,jI b,jI want]) [0,1,2,3] 1 (SG g nb N m F T Q a b want) =
    some (rl,[(AN nb),(AP nb (aF g)),(AN 0),(AI a),(AI b),(AI want),(AN 3),(NL 1 1),(NL 1 1),(AN 0),(AN N),(AN 0),(AN m),(AN 0),(AN m),(AN 1),(NL N N),(AA N (fun i=>[.p (.int .i64 (F i))])),(AN 1),(NL m m),(AA m (fun i=>[.p (.int .i64 (T i))])),(AN 1),(NL m m),(AA m (fun i=>[.p (.int .i64 (Q i))]))]):=by kernel_rfl
theorem KT (g:Nat→aa) (nb N m:Nat) (F T Q F1 T1:Nat→Int) (a b want:Int) :
    zM 4 [rg 17,.dec true,rm [(4,oq [0,1,2,3] (cQ N m F1 T1 Q) (jB true)),(2,gF),(0,gF),(0,gF),(0,gF),(0,gF),(0,gF),(0,gF)] 0,.dec false,.head] rl (SG g nb N m F T Q a b want) [0,1,2,3] 1 (SG g nb N m F1 T1 Q a b want) =
    some (rl,zD [(NT 0 1),(IL 0 a),(IT a (N:Int)),(NT a.toNat N),(IL 0 b),(IT b (N:Int)),(NT b.toNat N),(ax (F a.toNat+F b.toNat)),(au (F a.toNat+F b.toNat)),((decide (F (a.toNat+0)+F (b.toNat+0)<want))=true),(AE 1),(AE N),(AE m),Con Tryz.prog 152 4 (fQ N m F T Q) [.p (.seq true 2 nb (aF g)),.pt 3 0 0 0,jI a,jI b] (fQ N m F1 T1 Q) (jB true),((!true)=false),(false=false),(AN nb),(AP nb (aF g)),(AN 0),(AI a),(AI b),(AI want),(AN 3),(NL 1 1),(AN N),(AN m),(AN 1),(NL N N),(AA N (fun i=>[.p (.int .i64 (F1 i))])),(NL m m),(AA m (fun i=>[.p (.int .i64 (T1 i))])),(AA m (fun i=>[.p (.int .i64 (Q i))]))] [0,1,2,3,0,4,5,6,7,8,9,10,11,12,12,13,14,14,14,14,14,14,14,15,16,17,18,19,20,21,22,23,23,18,24,18,25,18,25,26,27,28,26,29,30,26,29,31]):=by kernel_rfl
theorem Ny (g:Nat→aa) (nb N m:Nat) (F T Q F1 T1 F2 T2:Nat→Int) (a b want:Int) :
    zM 4 [rg 17,.dec true,rm [(4,oq [0,1,2,3] (cQ N m F1 T1 Q) (jB false)),(2,gT),(0,gT),(0,gT),(0,gT),(0,⟨true,(some ⟨[0,1,2,3],[],[],1,cQ N m F2 T2 Q,jB true⟩),some true⟩),(0,gT),(0,gT)] 0,.dec false,.head] rl (SG g nb N m F T Q a b want) [0,1,2,3] 1 (SG g nb N m F2 T2 Q a b want) =
    some (rl,zD [(NT 0 1),(IL 0 a),(IT a (N:Int)),(NT a.toNat N),(IL 0 b),(IT b (N:Int)),(NT b.toNat N),(ax (F a.toNat+F b.toNat)),(au (F a.toNat+F b.toNat)),((decide (F (a.toNat+0)+F (b.toNat+0)<want))=true),(AE 1),(AE N),(AE m),Con Tryz.prog 152 4 (fQ N m F T Q) [.p (.seq true 2 nb (aF g)),.pt 3 0 0 0,jI a,jI b] (fQ N m F1 T1 Q) (jB false),((!false)=true),Con Tryz.prog 152 4 (fQ N m F1 T1 Q) [.p (.seq true 2 nb (aF g)),.pt 3 0 0 0,jI b,jI a] (fQ N m F2 T2 Q) (jB true),((!true)=false),(AN nb),(AP nb (aF g)),(AN 0),(AI a),(AI b),(AI want),(AN 3),(NL 1 1),(AN N),(AN m),(AN 1),(NL N N),(AA N (fun i=>[.p (.int .i64 (F2 i))])),(NL m m),(AA m (fun i=>[.p (.int .i64 (T2 i))])),(AA m (fun i=>[.p (.int .i64 (Q i))]))] [0,1,2,3,0,4,5,6,7,8,9,10,11,12,12,13,14,14,14,14,14,10,11,12,12,15,14,14,16,17,18,19,20,21,22,23,24,24,19,25,19,26,19,26,27,28,29,27,30,31,27,30,32]):=by kernel_rfl
theorem LG (g:Nat→aa) (nb N m:Nat) (F T Q F1 T1 F2 T2:Nat→Int) (a b want:Int) :
    zP Tryz.f127 4 [rg 17,.dec true,rm [(4,oq [0,1,2,3] (cQ N m F1 T1 Q) (jB false)),(2,gT),(0,gT),(0,gT),(0,gT),(0,⟨true,(some ⟨[0,1,2,3],[],[],1,cQ N m F2 T2 Q,jB false⟩),some true⟩),(0,gT),(0,gT)] 0,.dec true,rg 1] rl (SG g nb N m F T Q a b want) [0,1,2,3] 1 (cQ N m F2 T2 Q) (jB false) =
    some (zD [(NT 0 1),(IL 0 a),(IT a (N:Int)),(NT a.toNat N),(IL 0 b),(IT b (N:Int)),(NT b.toNat N),(ax (F a.toNat+F b.toNat)),(au (F a.toNat+F b.toNat)),((decide (F (a.toNat+0)+F (b.toNat+0)<want))=true),(AE 1),(AE N),(AE m),Con Tryz.prog 152 4 (fQ N m F T Q) [.p (.seq true 2 nb (aF g)),.pt 3 0 0 0,jI a,jI b] (fQ N m F1 T1 Q) (jB false),((!false)=true),Con Tryz.prog 152 4 (fQ N m F1 T1 Q) [.p (.seq true 2 nb (aF g)),.pt 3 0 0 0,jI b,jI a] (fQ N m F2 T2 Q) (jB false),(false=false),(AN 3),(NL 1 1),(AN 0),(AN N),(AN m),(AN 1),(NL N N),(AA N (fun i=>[.p (.int .i64 (F2 i))])),(NL m m),(AA m (fun i=>[.p (.int .i64 (T2 i))])),(AA m (fun i=>[.p (.int .i64 (Q i))]))] [0,1,2,3,0,4,5,6,7,8,9,10,11,12,12,13,14,14,14,14,14,10,11,12,12,15,14,14,14,16,17,18,18,19,20,19,21,19,21,22,23,24,22,25,26,22,25,27,10,11,12,12]):=by kernel_rfl
theorem JH (g:Nat→aa) (nb N m:Nat) (F T Q:Nat→Int) (a b want:Int) :
    zP Tryz.f127 4 [rg 17,.dec false,rg 1] rl (SG g nb N m F T Q a b want) [0,1,2,3] 1 (cQ N m F T Q) (jB true) =
    some [(NT 0 1),(IL 0 a),(IT a (N:Int)),(NT a.toNat N),(NT 0 1),(IL 0 b),(IT b (N:Int)),(NT b.toNat N),(ax (F a.toNat+F b.toNat)),(au (F a.toNat+F b.toNat)),((decide (F (a.toNat+0)+F (b.toNat+0)<want))=false),(true=true),(AN 3),(NL 1 1),(NL 1 1),(AN 0),(AN N),(AN 0),(AN m),(AN 0),(AN m),(AN 1),(NL N N),(AA N (fun i=>[.p (.int .i64 (F i))])),(AN 1),(NL m m),(AA m (fun i=>[.p (.int .i64 (T i))])),(AN 1),(NL m m),(AA m (fun i=>[.p (.int .i64 (Q i))])),(AE 1),(AE N),(AE m),(AE m)]:=by kernel_rfl
theorem LT (g:Nat→aa) (nb N m:Nat) (F T Q F1 T1:Nat→Int) (l:Int) (e:Nat) :
    zP Tryz.f117 4 [rg 1,rg 6,rm [(8,oq [0,1,2,3] (cQ N m F1 T1 Q) (jB false))] 1,.dec true,rg 1] [.code (ab Tryz.f117)] (start Tryz.f117 (cQ N m F T Q) 4 [b4 g nb,jI l,.pt 3 0 0 0,jI e]) [0,1,2,3] 1 (cQ N m F1 T1 Q) (jB false) =
    some (zD [(IL 0 (e:Int)),(IT (e:Int) (nb:Int)),(NT 0 1),((true=true)→(AN 1)),(ax (l+1)),(au (l+1)),(AE 1),(AE N),(AE m),Con Tryz.prog 127 4 (fQ N m F T Q) [.p (.seq true 2 nb (aF g)),.pt 3 0 0 0,jI ((g e).1),jI ((g e).2.1),jI (l+1)] (fQ N m F1 T1 Q) (jB false),((!false)=true),(false=false),(AN 3),(NL 1 1),(AN 0),(AN N),(AN m),(AN 1),(NL N N),(AA N (fun i=>[.p (.int .i64 (F1 i))])),(NL m m),(AA m (fun i=>[.p (.int .i64 (T1 i))])),(AA m (fun i=>[.p (.int .i64 (Q i))]))] [0,1,2,3,2,2,4,5,6,7,8,8,9,10,11,12,13,13,14,15,14,16,14,16,17,18,19,17,20,21,17,20,22,6,7,8,8]):=by kernel_rfl
theorem Ou (g:Nat→aa) (nb N m:Nat) (F T Q F1 T1:Nat→Int) (l:Int) (e:Nat) :
    zP Tryz.f117 4 [rg 1,rg 6,rm [(8,oq [0,1,2,3] (cQ N m F1 T1 Q) (jB true))] 1,.dec false,rg 3,rg 9,.dec false,rg 10,rg 11,rg 11,rg 1] [.code (ab Tryz.f117)] (start Tryz.f117 (cQ N m F T Q) 4 [b4 g nb,jI l,.pt 3 0 0 0,jI e]) [0,1,2,3,1476,1828] 1 (vy N (m+1) (fun s=>if s=(g e).1.toNat then F1 s - 1 else F1 s) (fun s=>if s<m then T1 s else (g e).1) (fun s=>if s<m then Q s else e)) (jB true) =
    some (zD [(IL 0 (e:Int)),(IT (e:Int) (nb:Int)),(NT 0 1),((true=true)→(AN 1)),(ax (l+1)),(au (l+1)),(AE 1),(AE N),(AE m),Con Tryz.prog 127 4 (fQ N m F T Q) [.p (.seq true 2 nb (aF g)),.pt 3 0 0 0,jI ((g e).1),jI ((g e).2.1),jI (l+1)] (fQ N m F1 T1 Q) (jB true),((!true)=false),(IL 0 ((g e).1)),(IT ((g e).1) (N:Int)),(NT ((g e).1.toNat) N),((F1 (g e).1.toNat==0)=false),(ax (F1 (g e).1.toNat - 1)),(au (F1 (g e).1.toNat - 1)),((false=true)→((N:Nat)=1)),(NL 1 1),(NL m m),(NL ((m+1)*8) 140737488355328),(NL (m+1) 9223372036854775807),(true=true),(AN 3),(AN 0),(AN N),(AN ((m+1))),(AN 1),(NL N N),(CV [(0,⟨true,3,1,(fun i_1=>[.ar 1 1 0 N,.ar 1 1476 0 (m+1),.ar 1 1828 0 (m+1)])⟩),(1828,⟨false,1,(m+1),(fun i_1=>(if (i_1<m) then [.p (.int .i64 (Q i_1))] else [.p (.int .i64 (e:Int))]))⟩),(1796,⟨false,1,1,(fun i_1=>[.p (.int .i64 (e:Int))])⟩),(1476,⟨false,1,(m+1),(fun i_1=>(if (i_1<m) then [.p (.int .i64 (T1 i_1))] else [.p (.int .i64 ((g e).1))]))⟩),(1444,⟨false,1,1,(fun i_1=>[.p (.int .i64 ((g e).1))])⟩),(1,⟨false,1,N,(fun i_1=>(if (i_1=(g e).1.toNat) then [.p (.int .i64 (F1 (g e).1.toNat - 1))] else [.p (.int .i64 (F1 i_1))]))⟩),(164,⟨true,2,1,(fun i_1=>[.p (.int .i64 ((g e).1)),.p (.int .i64 ((g e).2.1))])⟩)] [0,1,2,3,1476,1828] 1 N (fun i=>if (i=(g e).1.toNat) then [.p (.int .i64 (F1 (g e).1.toNat - 1))] else [.p (.int .i64 (F1 i))]) (fun i=>[.p (.int .i64 (if i=(g e).1.toNat then F1 i - 1 else F1 i))])),(NL (m+1) (m+1)),(CV [(0,⟨true,3,1,(fun i_1=>[.ar 1 1 0 N,.ar 1 1476 0 (m+1),.ar 1 1828 0 (m+1)])⟩),(1828,⟨false,1,(m+1),(fun i_1=>(if (i_1<m) then [.p (.int .i64 (Q i_1))] else [.p (.int .i64 (e:Int))]))⟩),(1796,⟨false,1,1,(fun i_1=>[.p (.int .i64 (e:Int))])⟩),(1476,⟨false,1,(m+1),(fun i_1=>(if (i_1<m) then [.p (.int .i64 (T1 i_1))] else [.p (.int .i64 ((g e).1))]))⟩),(1444,⟨false,1,1,(fun i_1=>[.p (.int .i64 ((g e).1))])⟩),(1,⟨false,1,N,(fun i_1=>(if (i_1=(g e).1.toNat) then [.p (.int .i64 (F1 (g e).1.toNat - 1))] else [.p (.int .i64 (F1 i_1))]))⟩),(164,⟨true,2,1,(fun i_1=>[.p (.int .i64 ((g e).1)),.p (.int .i64 ((g e).2.1))])⟩)] [0,1,2,3,1476,1828] 1 (m+1) (fun i=>if (i<m) then [.p (.int .i64 (T1 i))] else [.p (.int .i64 ((g e).1))]) (fun i=>[.p (.int .i64 (if i<m then T1 i else (g e).1))])),(CV [(0,⟨true,3,1,(fun i_1=>[.ar 1 1 0 N,.ar 1 1476 0 (m+1),.ar 1 1828 0 (m+1)])⟩),(1828,⟨false,1,(m+1),(fun i_1=>(if (i_1<m) then [.p (.int .i64 (Q i_1))] else [.p (.int .i64 (e:Int))]))⟩),(1796,⟨false,1,1,(fun i_1=>[.p (.int .i64 (e:Int))])⟩),(1476,⟨false,1,(m+1),(fun i_1=>(if (i_1<m) then [.p (.int .i64 (T1 i_1))] else [.p (.int .i64 ((g e).1))]))⟩),(1444,⟨false,1,1,(fun i_1=>[.p (.int .i64 ((g e).1))])⟩),(1,⟨false,1,N,(fun i_1=>(if (i_1=(g e).1.toNat) then [.p (.int .i64 (F1 (g e).1.toNat - 1))] else [.p (.int .i64 (F1 i_1))]))⟩),(164,⟨true,2,1,(fun i_1=>[.p (.int .i64 ((g e).1)),.p (.int .i64 ((g e).2.1))])⟩)] [0,1,2,3,1476,1828] 1 (m+1) (fun i=>if (i<m) then [.p (.int .i64 (Q i))] else [.p (.int .i64 (e:Int))]) (fun i=>[.p (.int .i64 (if i<m then Q i else (e:Int)))])),(AE ((m+1)))] [0,1,2,3,2,2,4,5,6,7,8,8,9,10,2,2,2,11,12,13,14,2,11,12,13,15,16,11,12,13,17,2,18,19,20,21,2,3,2,18,19,20,21,2,3,22,23,18,18,24,25,24,26,24,26,27,28,29,27,30,31,27,30,32,6,7,33,33]):=by kernel_rfl
theorem MA (g:Nat→aa) (nb N m:Nat) (F T Q F1 T1:Nat→Int) (l:Int) (e:Nat) :
    zP Tryz.f117 4 [rg 1,rg 6,rm [(8,oq [0,1,2,3] (cQ N m F1 T1 Q) (jB true))] 1,.dec false,rg 3,rg 9,.dec true,rg 3,rg 10,rg 11,rg 11,rg 1] [.code (ab Tryz.f117)] (start Tryz.f117 (cQ N m F T Q) 4 [b4 g nb,jI l,.pt 3 0 0 0,jI e]) [0,1,2,3,1572,1924] 1 (vy N (m+1) (fun s=>if s=(g e).2.1.toNat then F1 s - 1 else F1 s) (fun s=>if s<m then T1 s else (g e).2.1) (fun s=>if s<m then Q s else e)) (jB true) =
    some (zD [(IL 0 (e:Int)),(IT (e:Int) (nb:Int)),(NT 0 1),((true=true)→(AN 1)),(ax (l+1)),(au (l+1)),(AE 1),(AE N),(AE m),Con Tryz.prog 127 4 (fQ N m F T Q) [.p (.seq true 2 nb (aF g)),.pt 3 0 0 0,jI ((g e).1),jI ((g e).2.1),jI (l+1)] (fQ N m F1 T1 Q) (jB true),((!true)=false),(IL 0 ((g e).1)),(IT ((g e).1) (N:Int)),(NT ((g e).1.toNat) N),((F1 (g e).1.toNat==0)=true),(IL 0 ((g e).2.1)),(IT ((g e).2.1) (N:Int)),(NT ((g e).2.1.toNat) N),(ax (F1 (g e).2.1.toNat - 1)),(au (F1 (g e).2.1.toNat - 1)),((false=true)→((N:Nat)=1)),(NL 1 1),(NL m m),(NL ((m+1)*8) 140737488355328),(NL (m+1) 9223372036854775807),(true=true),(AN 3),(AN 0),(AN N),(AN ((m+1))),(AN 1),(NL N N),(CV [(0,⟨true,3,1,(fun i_1=>[.ar 1 1 0 N,.ar 1 1572 0 (m+1),.ar 1 1924 0 (m+1)])⟩),(1924,⟨false,1,(m+1),(fun i_1=>(if (i_1<m) then [.p (.int .i64 (Q i_1))] else [.p (.int .i64 (e:Int))]))⟩),(1892,⟨false,1,1,(fun i_1=>[.p (.int .i64 (e:Int))])⟩),(1572,⟨false,1,(m+1),(fun i_1=>(if (i_1<m) then [.p (.int .i64 (T1 i_1))] else [.p (.int .i64 ((g e).2.1))]))⟩),(1540,⟨false,1,1,(fun i_1=>[.p (.int .i64 ((g e).2.1))])⟩),(1,⟨false,1,N,(fun i_1=>(if (i_1=(g e).2.1.toNat) then [.p (.int .i64 (F1 (g e).2.1.toNat - 1))] else [.p (.int .i64 (F1 i_1))]))⟩),(164,⟨true,2,1,(fun i_1=>[.p (.int .i64 ((g e).1)),.p (.int .i64 ((g e).2.1))])⟩)] [0,1,2,3,1572,1924] 1 N (fun i=>if (i=(g e).2.1.toNat) then [.p (.int .i64 (F1 (g e).2.1.toNat - 1))] else [.p (.int .i64 (F1 i))]) (fun i=>[.p (.int .i64 (if i=(g e).2.1.toNat then F1 i - 1 else F1 i))])),(NL (m+1) (m+1)),(CV [(0,⟨true,3,1,(fun i_1=>[.ar 1 1 0 N,.ar 1 1572 0 (m+1),.ar 1 1924 0 (m+1)])⟩),(1924,⟨false,1,(m+1),(fun i_1=>(if (i_1<m) then [.p (.int .i64 (Q i_1))] else [.p (.int .i64 (e:Int))]))⟩),(1892,⟨false,1,1,(fun i_1=>[.p (.int .i64 (e:Int))])⟩),(1572,⟨false,1,(m+1),(fun i_1=>(if (i_1<m) then [.p (.int .i64 (T1 i_1))] else [.p (.int .i64 ((g e).2.1))]))⟩),(1540,⟨false,1,1,(fun i_1=>[.p (.int .i64 ((g e).2.1))])⟩),(1,⟨false,1,N,(fun i_1=>(if (i_1=(g e).2.1.toNat) then [.p (.int .i64 (F1 (g e).2.1.toNat - 1))] else [.p (.int .i64 (F1 i_1))]))⟩),(164,⟨true,2,1,(fun i_1=>[.p (.int .i64 ((g e).1)),.p (.int .i64 ((g e).2.1))])⟩)] [0,1,2,3,1572,1924] 1 (m+1) (fun i=>if (i<m) then [.p (.int .i64 (T1 i))] else [.p (.int .i64 ((g e).2.1))]) (fun i=>[.p (.int .i64 (if i<m then T1 i else (g e).2.1))])),(CV [(0,⟨true,3,1,(fun i_1=>[.ar 1 1 0 N,.ar 1 1572 0 (m+1),.ar 1 1924 0 (m+1)])⟩),(1924,⟨false,1,(m+1),(fun i_1=>(if (i_1<m) then [.p (.int .i64 (Q i_1))] else [.p (.int .i64 (e:Int))]))⟩),(1892,⟨false,1,1,(fun i_1=>[.p (.int .i64 (e:Int))])⟩),(1572,⟨false,1,(m+1),(fun i_1=>(if (i_1<m) then [.p (.int .i64 (T1 i_1))] else [.p (.int .i64 ((g e).2.1))]))⟩),(1540,⟨false,1,1,(fun i_1=>[.p (.int .i64 ((g e).2.1))])⟩),(1,⟨false,1,N,(fun i_1=>(if (i_1=(g e).2.1.toNat) then [.p (.int .i64 (F1 (g e).2.1.toNat - 1))] else [.p (.int .i64 (F1 i_1))]))⟩),(164,⟨true,2,1,(fun i_1=>[.p (.int .i64 ((g e).1)),.p (.int .i64 ((g e).2.1))])⟩)] [0,1,2,3,1572,1924] 1 (m+1) (fun i=>if (i<m) then [.p (.int .i64 (Q i))] else [.p (.int .i64 (e:Int))]) (fun i=>[.p (.int .i64 (if i<m then Q i else (e:Int)))])),(AE ((m+1)))] [0,1,2,3,2,2,4,5,6,7,8,8,9,10,2,2,2,11,12,13,14,2,2,15,16,17,18,19,15,16,17,20,2,21,22,23,24,2,3,2,21,22,23,24,2,3,25,26,21,21,27,28,27,29,27,29,30,31,32,30,33,34,30,33,35,6,7,36,36]):=by kernel_rfl
def bB (x:aa):Nat×Nat:=(x.1.toNat,x.2.1.toNat)
def ov (g:Nat→aa) (Q:Nat→Int):Nat→List (Nat×Nat)
  | 0=>[]
  | m+1=>ov g Q m++[bB (g (Q m).toNat)]
def CC (g:Nat→aa) (T Q:Nat→Int):Nat→List Mat.PB
  | 0=>[]
  | m+1=>CC g T Q m++[((T m).toNat,bB (g (Q m).toNat))]
theorem mf:∀ a b:List Mat.PB,Mat.barsOf (a++b)=Mat.barsOf a++Mat.barsOf b
  | [],_=>rfl
  | p::a,b=>by simp only [List.cons_append,Mat.barsOf,mf a b]
theorem y9 (v:Nat):∀ a b:List Mat.PB,Mat.tc v (a++b)=Mat.tc v a+Mat.tc v b
  | [],b=>by simp [Mat.tc]
  | p::a,b=>by simp only [List.cons_append,Mat.tc,y9 v a b];omega
theorem dP (g:Nat→aa) (T Q:Nat→Int):∀ m,Mat.barsOf (CC g T Q m)=ov g Q m
  | 0=>rfl
  | m+1=>by simp only [CC,ov,mf,dP g T Q m,Mat.barsOf]
theorem CU (g:Nat→aa) (T Q:Nat→Int) (v:Nat):∀ m,(∀ j,j<m→0≤T j)→(Mat.tc v (CC g T Q m):Int)=dQ T m v
  | 0,_=>rfl
  | m+1,h=>by
    have ih:=CU g T Q v m (fun j hj=>h j (by omega))
    have h1:=h m (by omega)
    simp only [CC,y9,Mat.tc,dQ]
    by_cases e:T m=v
    · have e':((T m).toNat==v)=true:=by simp;omega
      rw [e',if_pos e];simp;omega
    · have e':((T m).toNat==v)=false:=by simp;omega
      rw [e',if_neg e];simp;omega
theorem qh (g:Nat→aa) (T Q:Nat→Int) (p:Mat.PB):∀ m,p∈CC g T Q m→∃ j,j<m∧p=((T j).toNat,bB (g (Q j).toNat))
  | 0,h=>by cases h
  | m+1,h=>by
    simp only [CC,List.mem_append,List.mem_singleton] at h
    rcases h with h | h
    · obtain ⟨j,h1,h2⟩:=qh g T Q p m h
      exact ⟨j,by omega,h2⟩
    · exact ⟨m,by omega,h⟩
theorem PInv.t0 {N k nb m:Nat} {g:Nat→aa} {F T Q:Nat→Int} (h:PInv N k nb m g F T Q):∀ j,j<m→0≤T j∧T j<N:=by
  intro j hj
  have h1:=h.q j hj
  have h2:=h.bars (Q j).toNat (by omega)
  rcases h.t j hj with e | e<;>rw [e]<;>omega
theorem PInv.game {N k nb m:Nat} {g:Nat→aa} {F T Q:Nat→Int} (h:PInv N k nb m g F T Q) (l:Nat):Mat.Game N k l (fun v=>(F v).toNat) (CC g T Q m):=by
  refine ⟨fun p hp=>?_,fun p hp=>?_,fun v hv=>?_⟩
  · obtain ⟨j,h1,rfl⟩:=qh g T Q p m hp
    simp only [bB]
    rcases h.t j h1 with e | e
    · left;rw [e]
    · right;rw [e]
  · obtain ⟨j,h1,rfl⟩:=qh g T Q p m hp
    have h2:=h.q j h1
    have h3:=h.bars (Q j).toNat (by omega)
    simp only [bB,Mat.GoodBar]
    omega
  · have h1:=h.sum v hv
    have h2:=h.f0 v hv
    have h3:=CU g T Q v m (fun j hj=>(h.t0 j hj).1)
    show (F v).toNat+Mat.tc v (CC g T Q m)=k
    omega
theorem n9 {N k nb m l:Nat} {g:Nat→aa} {F T Q:Nat→Int} {a b:Int} (hp:PInv N k nb m g F T Q) (ha:0≤a∧a<N) (hb:0≤b∧b<N) (hab:a≠b) (hs:F a.toNat+F b.toNat≤l)
    {F1 T1 F2 T2:Nat→Int} (h1:Moved N k nb m g F T Q a b F1 T1 false) (h2:Moved N k nb m g F T Q b a F2 T2 false):¬ Mat.Sparse N k l (ov g Q m++[(a.toNat,b.toNat)]):=by
  obtain ⟨_,_,R1,r1,c1,z1⟩:=h1.no rfl
  obtain ⟨_,_,R2,r2,c2,z2⟩:=h2.no rfl
  have f1:=hp.f0 a.toNat (by omega)
  have f2:=hp.f0 b.toNat (by omega)
  rw [← dP g T Q m]
  refine (hp.game l).reject a.toNat b.toNat ⟨by show a.toNat≠b.toNat;omega,by show a.toNat<N;omega,by show b.toNat<N;omega⟩ (by show (F a.toNat).toNat+(F b.toNat).toNat≤l;omega) (fun v=>R1 v||R2 v) (by simp [r1]) (by simp [r2]) (fun p hpm hR=>?_) (fun v hR v1 v2=>?_)
  · obtain ⟨j,h3,rfl⟩:=qh g T Q p m hpm
    have key:∀ R:Nat→Bool,R (T j).toNat=true→R (aw (g (Q j).toNat) (T j)).toNat=true→R (g (Q j).toNat).1.toNat=true∧R (g (Q j).toNat).2.1.toNat=true:=by
      intro R k1 k2
      unfold aw at k2
      by_cases e:(g (Q j).toNat).1=T j
      · rw [if_pos e] at k2
        exact ⟨by rw [e];exact k1,k2⟩
      · rw [if_neg e] at k2
        rcases hp.t j h3 with e' | e'
        · exact absurd e'.symm e
        · exact ⟨k2,by rw [← e'];exact k1⟩
    simp only [Mat.inn,bB]
    simp only [Bool.or_eq_true] at hR
    rcases hR with hR | hR
    · obtain ⟨k1,k2⟩:=key R1 hR (c1 j h3 hR)
      simp [k1,k2]
    · obtain ⟨k1,k2⟩:=key R2 hR (c2 j h3 hR)
      simp [k1,k2]
  · simp only [Bool.or_eq_true] at hR
    have:F v=0:=by
      rcases hR with hR | hR
      · exact z1 v hR (by omega) (by omega)
      · exact z2 v hR (by omega) (by omega)
    show (F v).toNat=0
    rw [this];rfl
theorem s7 {N k nb m l:Nat} {g:Nat→aa} {F T Q:Nat→Int} {a b:Int} (hp:PInv N k nb m g F T Q) (hk:k≤1048576) (hN:N≤1048576) (hm:m≤1048576) (hnb:nb≤1048576)
    (ha:0≤a∧a<N) (hb:0≤b∧b<N) (hab:a≠b):∃ F' T' r,Con Tryz.prog 127 4 (cQ N m F T Q) [b4 g nb,.pt 3 0 0 0,.p (.int .i64 a),.p (.int .i64 b),.p (.int .i64 ((l:Int)+1))] (cQ N m F' T' Q) (.p (.bool r)) ∧
      PInv N k nb m g F' T' Q∧(r=true→(l:Int)+1≤F' a.toNat+F' b.toNat)∧(r=false→¬ Mat.Sparse N k l (ov g Q m++[(a.toNat,b.toNat)])):=by
  have lp:∀ d F T,PInv N k nb m g F T Q→(l:Int)+1≤F a.toNat+F b.toNat+(d:Nat)→∃ F' T' r,(∀ c,c.n=4→zR c 127 rl (SG g nb N m F T Q a b ((l:Int)+1)) (aS c (cQ N m F' T' Q) (.p (.bool r)))) ∧
      PInv N k nb m g F' T' Q∧(r=true→(l:Int)+1≤F' a.toNat+F' b.toNat)∧(r=false→¬ Mat.Sparse N k l (ov g Q m++[(a.toNat,b.toNat)])):=by
    intro d
    induction d with
    | zero =>
      intro F T hp hw
      have hd:decide (F a.toNat+F b.toNat<(l:Int)+1)=false:=by simp;omega
      have l1:=hp.le (v:=a.toNat) (by omega)
      have l2:=hp.le (v:=b.toNat) (by omega)
      refine ⟨F,T,true,fun c hc=>?_,hp,(fun _=>by omega),(fun h=>by cases h)⟩
      refine be Tryz.func127 hc (JH g nb N m F T Q a b ((l:Int)+1)) ?_
      and_intros
      all_goals (first | exact zN | (exact hd) | (intro i hi;simp [af]))
    | succ d ih =>
      intro F T hp hw
      have l1:=hp.le (v:=a.toNat) (by omega)
      have l2:=hp.le (v:=b.toNat) (by omega)
      by_cases hs:F a.toNat+F b.toNat<(l:Int)+1
      · have hd:decide (F a.toNat+F b.toNat<(l:Int)+1)=true:=by simp;omega
        obtain ⟨F1,T1,r1,hc1,hm1⟩:=mG hp hk hN hm hnb ha hb hab
        cases r1 with
        | true =>
          obtain ⟨y1,y2⟩:=hm1.yes rfl
          obtain ⟨F',T',r,hrun,h1,h2,h3⟩:=ih F1 T1 hm1.inv (by omega)
          refine ⟨F',T',r,fun c hc=>?_,h1,h2,h3⟩
          refine a9 hc (KT g nb N m F T Q F1 T1 a b ((l:Int)+1)) ?_ (hrun c hc)
          and_intros
          all_goals (first | exact zN | (exact hd) | (exact hc1) | (intro i hi;simp [af]))
        | false =>
          obtain ⟨n1,n2,_⟩:=hm1.no rfl
          subst n1;subst n2
          obtain ⟨F2,T2,r2,hc2,hm2⟩:=mG hp hk hN hm hnb hb ha (Ne.symm hab)
          cases r2 with
          | true =>
            obtain ⟨y1,y2⟩:=hm2.yes rfl
            obtain ⟨F',T',r,hrun,h1,h2,h3⟩:=ih F2 T2 hm2.inv (by omega)
            refine ⟨F',T',r,fun c hc=>?_,h1,h2,h3⟩
            refine a9 hc (Ny g nb N m F1 T1 Q F1 T1 F2 T2 a b ((l:Int)+1)) ?_ (hrun c hc)
            and_intros
            all_goals (first | exact zN | (exact hd) | (exact hc1) | (exact hc2) | (intro i hi;simp [af]))
          | false =>
            refine ⟨F2,T2,false,fun c hc=>?_,hm2.inv,(fun h=>by cases h),fun _=>n9 hp ha hb hab (by omega) hm1 hm2⟩
            refine bz Tryz.func127 hc (LG g nb N m F1 T1 Q F1 T1 F2 T2 a b ((l:Int)+1)) ?_
            and_intros
            all_goals (first | exact zN | (exact hd) | (exact hc1) | (exact hc2) | (intro i hi;simp [af]))
      · have hd:decide (F a.toNat+F b.toNat<(l:Int)+1)=false:=by simp;omega
        refine ⟨F,T,true,fun c hc=>?_,hp,(fun _=>by omega),(fun h=>by cases h)⟩
        refine be Tryz.func127 hc (JH g nb N m F T Q a b ((l:Int)+1)) ?_
        and_intros
        all_goals (first | exact zN | (exact hd) | (intro i hi;simp [af]))
  have l1:=hp.le (v:=a.toNat) (by omega)
  have l2:=hp.le (v:=b.toNat) (by omega)
  obtain ⟨F',T',r,hrun,h⟩:=lp (l+1) F T hp (by omega)
  refine ⟨F',T',r,?_,h⟩
  refine aW Tryz.func127 (fun c hc=>?_)
  refine cW hc (KQ g nb N m F T Q a b ((l:Int)+1)) ?_ (hrun c hc)
  and_intros
  all_goals (first | exact zN | (intro i hi;simp [af]))
theorem oK {T T':Nat→Int} (x:Int):∀ m,(∀ j,j<m→T j=T' j)→dQ T m x=dQ T' m x
  | 0,_=>rfl
  | m+1,h=>by simp only [dQ];rw [oK x m (fun j hj=>h j (by omega)),h m (by omega)]
theorem PInv.placed {N k nb m:Nat} {g:Nat→aa} {F T Q:Nat→Int} (hp:PInv N k nb m g F T Q) (e:Nat) (he:e<nb) (tl:Int) (ht:tl=(g e).1∨tl=(g e).2.1) (hf:1≤F tl.toNat) :
    PInv N k nb (m+1) g (fun s=>if s=tl.toNat then F s - 1 else F s) (fun s=>if s<m then T s else tl) (fun s=>if s<m then Q s else e):=by
  have hb:=hp.bars e he
  have h0:0≤tl∧tl<N:=by rcases ht with h | h<;>rw [h]<;>omega
  refine ⟨hp.bars,fun j hj=>?_,fun j hj=>?_,fun v hv=>?_,fun v hv=>?_⟩
  · show 0≤(if j<m then Q j else (e:Int))∧(if j<m then Q j else (e:Int))<nb
    by_cases h:j<m
    · rw [if_pos h];exact hp.q j h
    · rw [if_neg h];omega
  · show (if j<m then T j else tl)=(g (if j<m then Q j else (e:Int)).toNat).1∨(if j<m then T j else tl)=(g (if j<m then Q j else (e:Int)).toNat).2.1
    by_cases h:j<m
    · rw [if_pos h,if_pos h];exact hp.t j h
    · rw [if_neg h,if_neg h];exact ht
  · have:=hp.f0 v hv
    show 0≤(if v=tl.toNat then F v - 1 else F v)
    by_cases h:v=tl.toNat
    · rw [if_pos h,h];omega
    · rw [if_neg h];exact this
  · have h1:=hp.sum v hv
    show (if v=tl.toNat then F v - 1 else F v)+(dQ (fun s=>if s<m then T s else tl) m v+(if (if m<m then T m else tl)=(v:Int) then 1 else 0))=k
    rw [oK (T':=T) v m (fun j hj=>by show (if j<m then T j else tl)=T j;rw [if_pos hj])]
    simp only [Nat.lt_irrefl,if_false]
    by_cases h:v=tl.toNat
    · rw [if_pos h,if_pos (by omega)];omega
    · rw [if_neg h,if_neg (by omega)];omega
theorem xq {N k nb m l:Nat} {g:Nat→aa} {F T Q:Nat→Int} (hp:PInv N k nb m g F T Q) (hk:k≤1048576) (hl:l≤1048576) (hN:N≤1048576) (hm:m≤1048576) (hnb:nb≤1048576) (e:Nat) (he:e<nb)
    (hsp:Mat.Sparse N k l (ov g Q m)) :
    (∃ F' T',Con Tryz.prog 117 4 (cQ N m F T Q) [b4 g nb,.p (.int .i64 l),.pt 3 0 0 0,.p (.int .i64 e)] (vy N (m+1) F' T' (fun s=>if s<m then Q s else e)) (.p (.bool true)) ∧
      PInv N k nb (m+1) g F' T' (fun s=>if s<m then Q s else e)∧Mat.Sparse N k l (ov g Q m++[bB (g e)])) ∨
    (∃ F' T',Con Tryz.prog 117 4 (cQ N m F T Q) [b4 g nb,.p (.int .i64 l),.pt 3 0 0 0,.p (.int .i64 e)] (cQ N m F' T' Q) (.p (.bool false))∧¬ Mat.Sparse N k l (ov g Q m++[bB (g e)])):=by
  have hbar:=hp.bars e he
  obtain ⟨F1,T1,r,hc1,h1,h2,h3⟩:=s7 (l:=l) (a:=(g e).1) (b:=(g e).2.1) hp hk hN hm hnb (by omega) (by omega) (by omega)
  have hlA:=h1.le (v:=(g e).1.toNat) (by omega)
  have hlB:=h1.le (v:=(g e).2.1.toNat) (by omega)
  cases r with
  | false =>
    right
    refine ⟨F1,T1,?_,h3 rfl⟩
    refine aW Tryz.func117 (fun c hc=>?_)
    refine bz Tryz.func117 hc (LT g nb N m F T Q F1 T1 l e) ?_
    and_intros
    all_goals (first | exact zI | (exact hc1) | (intro i hi;simp [af]))
  | true =>
    left
    have hw:=h2 rfl
    have hacc:Mat.Sparse N k l (ov g Q m++[bB (g e)]):=by
      have:=(h1.game l).accept (by rw [dP];exact hsp) (g e).1.toNat (g e).2.1.toNat ⟨by show (g e).1.toNat≠(g e).2.1.toNat;omega,by show (g e).1.toNat<N;omega,by show (g e).2.1.toNat<N;omega⟩
        (by show l+1≤(F1 (g e).1.toNat).toNat+(F1 (g e).2.1.toNat).toNat;omega)
      rw [dP] at this
      exact this
    by_cases hz:F1 (g e).1.toNat=0
    · have hzb:(F1 (g e).1.toNat==0)=true:=by simp [hz]
      refine ⟨_,_,?_,h1.placed e he (g e).2.1 (.inr rfl) (by omega),hacc⟩
      refine aW Tryz.func117 (fun c hc=>?_)
      refine bz Tryz.func117 hc (MA g nb N m F T Q F1 T1 l e) ?_
      and_intros
      all_goals (first | exact zI | (exact hc1) | (exact hzb) | (intro i hi;simp [af];done) | (intro i hi;by_cases h:i<m<;>simp [h,ay,bh,tg,bu,af];done) | (intro i hi;by_cases h:i=(g e).2.1.toNat<;>simp [h,ay,bh,tg,bu,af]))
    · have hzb:(F1 (g e).1.toNat==0)=false:=by simp [hz]
      refine ⟨_,_,?_,h1.placed e he (g e).1 (.inl rfl) (by omega),hacc⟩
      refine aW Tryz.func117 (fun c hc=>?_)
      refine bz Tryz.func117 hc (Ou g nb N m F T Q F1 T1 l e) ?_
      and_intros
      all_goals (first | exact zI | (exact hc1) | (exact hzb) | (intro i hi;simp [af];done) | (intro i hi;by_cases h:i<m<;>simp [h,ay,bh,tg,bu,af];done) | (intro i hi;by_cases h:i=(g e).1.toNat<;>simp [h,ay,bh,tg,bu,af]))
def gM (n:Nat) (F:Nat→Int):AV:=.p (.seq true 1 n (fun i=>[.int .i64 (F i)]))
def bf (N m:Nat) (j:Nat):AV:=.agg [.ar 1 j 0 N,.ar 1 ⟨j+1,none⟩ 0 m,.ar 1 ⟨j+2,none⟩ 0 m]
def bl (N m:Nat) (F T Q:Nat→Int):Hp:=[(0,aY N F),(1,aY m T),(2,aY m Q)]
def Gy (g:Nat→aa) (nb N k l i:Nat):St :=
  ⟨[.p (.int .i64 N),b4 g nb,.p (.int .i64 k),.p (.int .i64 l),.p .any,.p .any,.p .any,.p .any,.pt 3 0 0 0,.pt 3 1 0 0,.p .any,.p .any,.p .any,.p (.int .i64 N),.p (.int .i64 i)]++List.replicate 22 ag,
   [(0,⟨true,3,1,fun _=>[.p .nil,.p .nil,.p .nil]⟩),(1,⟨true,3,1,fun _=>[.ar 1 2 0 i,.ar 1 3 0 0,.ar 1 4 0 0]⟩),(2,aY i (fun _=>k)),(3,aY 0 (fun _=>0)),(4,aY 0 (fun _=>0))],5⟩
def DT (g:Nat→aa) (nb N m k l e:Nat) (F T Q:Nat→Int):St :=
  ⟨[.p (.int .i64 N),b4 g nb,.p (.int .i64 k),.p (.int .i64 l),.p .any,.p .any,.p .any,.p .any,.pt 3 0 0 0,.pt 3 1 0 0]++List.replicate 14 ag++[.p (.int .i64 nb),.p (.int .i64 e)]++List.replicate 11 ag,
   [(0,⟨true,3,1,fun _=>[.p .nil,.p .nil,.p .nil]⟩),(1,⟨true,3,1,fun _=>[.ar 1 2 0 N,.ar 1 3 0 m,.ar 1 4 0 m]⟩),(2,aY N F),(3,aY m T),(4,aY m Q)],5⟩
theorem NJ (n:Nat) (F:Nat→Int) :
    zS Tryz.f65 [rg 1,rg 4] [gM n F] [96] [(0,aY n F)] (.ar 1 0 0 n) =
    some [(NL 0 0),(NL ((0+n)*8) 140737488355328),(NL (0+n) 9223372036854775807),(AN 0),(((0+n):Nat)=n),(AN 1),(NL n (0+n)),(AA n (fun i=>[.p (.int .i64 (F i))])),(AE n)]:=by kernel_rfl
theorem LW (N m m':Nat) (F T Q:Nat→Int) :
    zS Tryz.f116 [rg 2,rm [(2,oc [(0,aY N F)] (.ar 1 0 0 N)),(2,oc [(0,aY m T)] (.ar 1 0 0 m)),(2,oc [(0,aY m Q)] (.ar 1 0 0 m))] 2] [.agg [gM N F,gM m T,gM m Q]] [128,224,320] (bl N m F T Q) (bf N m 0) =
    some (zD [(NT 0 1),zE 65 [.p (.seq true 1 N (fun i=>[.int .i64 (F i)]))] [(0,⟨false,1,N,(fun i=>[.p (.int .i64 (F i))])⟩)] (.ar 1 0 0 N),zE 65 [.p (.seq true 1 m (fun i=>[.int .i64 (T i)]))] [(0,⟨false,1,m,(fun i=>[.p (.int .i64 (T i))])⟩)] (.ar 1 0 0 m),zE 65 [.p (.seq true 1 m (fun i=>[.int .i64 (Q i)]))] [(0,⟨false,1,m,(fun i=>[.p (.int .i64 (Q i))])⟩)] (.ar 1 0 0 m),((true=true)→(AN 1)),(AN 0),(AN N),(AN m),(AN 1),(NL N N),(AA N (fun i=>[.p (.int .i64 (F i))])),(NL m m),(AA m (fun i=>[.p (.int .i64 (T i))])),(AA m (fun i=>[.p (.int .i64 (Q i))])),(AE N),(AE m)] [0,1,0,2,0,3,0,4,0,5,6,5,7,5,7,8,9,10,8,11,12,8,11,13,14,15,15]):=by kernel_rfl
theorem K4 (g:Nat→aa) (nb N k l:Nat) :
    zT Tryz.f99 [rg 1,rg 3,rg 2,.head] [jI N,b4 g nb,jI k,jI l] [0,64] (Gy g nb N k l 0) =
    some (yQ,zD [(NT 0 1),((true=true)→(AN 1)),(AI ((N:Int))),(AN nb),(AP nb (aF g)),(AI ((k:Int))),(AI ((l:Int))),(AN 0),((0:Int)=(↑0:Int)),((((List.map (fun v=>AV.p (bZ v)) [Value.slice none 0 0,Value.slice none 0 0,Value.slice none 0 0]).length):Nat)=3),(NL 1 1)] [0,1,2,3,4,5,6,7,7,2,8,9,10,10,9,10,10,7,7,7,7,7,7]):=by kernel_rfl
theorem NH (g:Nat→aa) (nb N k l i:Nat) :
    zM 0 [rg 1,.dec true,rg 7,rg 2,.head] yQ (Gy g nb N k l i) [0,1,165,3,4] 1 (Gy g nb N k l (i+1)) =
    some (yQ,zD [((decide ((i:Int)<(N:Int)))=true),(NT 0 1),(NL 1 1),(NL i i),(NL ((i+1)*8) 140737488355328),(NL (i+1) 9223372036854775807),((true=true)→(AN 1)),(ax ((i:Int)+1)),(au ((i:Int)+1)),(AI ((N:Int))),(AN nb),(AP nb (aF g)),(AI ((k:Int))),(AI ((l:Int))),(AN 0),((((i:Int)+1):Int)=(↑(i+1):Int)),(AN 3),(AN ((i+1))),(AN 1),(NL (i+1) (i+1)),(CV [(1,⟨true,3,1,(fun i_2=>[.ar 1 165 0 (i+1),.ar 1 3 0 0,.ar 1 4 0 0])⟩),(165,⟨false,1,(i+1),(fun i_2=>(if (i_2<i) then [.p (.int .i64 (k:Int))] else [.p (.int .i64 (k:Int))]))⟩),(133,⟨false,1,1,(fun i_2=>[.p (.int .i64 (k:Int))])⟩),(0,⟨true,3,1,(fun i_2=>[.p (.nil),.p (.nil),.p (.nil)])⟩),(3,⟨false,1,0,(fun i_2=>[.p (.int .i64 0)])⟩),(4,⟨false,1,0,(fun i_2=>[.p (.int .i64 0)])⟩)] [0,1,165,3,4] 1 (i+1) (fun i_1=>if (i_1<i) then [.p (.int .i64 (k:Int))] else [.p (.int .i64 (k:Int))]) (fun i_1=>[.p (.int .i64 (k:Int))])),(NL 0 0),(AA 0 (fun i_1=>[.p (.int .i64 0)]))] [0,1,2,3,4,5,1,6,7,8,9,10,11,12,13,14,14,9,15,16,2,2,16,2,2,14,17,14,14,14,14,18,19,20,18,21,22,18,21,22]):=by kernel_rfl
theorem I5 (g:Nat→aa) (nb N k l i:Nat) :
    zM 0 [rg 1,.dec false,rg 3,.head] yQ (Gy g nb N k l i) [0,1,2,3,4] 1 (DT g nb N 0 k l 0 (fun _=>k) (fun _=>0) (fun _=>0)) =
    some (ue,zD [((decide ((i:Int)<(N:Int)))=false),(AI ((N:Int))),(AN nb),(AP nb (aF g)),(AI ((k:Int))),(AI ((l:Int))),(AN 0),(AI ((nb:Int))),((0:Int)=(↑0:Int)),(AN 3),(NL 1 1),((i:Nat)=N),(AN 1),(NL N i),(AA N (fun i_1=>[.p (.int .i64 (k:Int))])),(NL 0 0),(AA 0 (fun i_1=>[.p (.int .i64 0)]))] [0,1,2,3,4,5,6,6,7,8,9,10,10,9,10,10,6,11,6,6,6,6,12,13,14,12,15,16,12,15,16]):=by kernel_rfl
theorem Ix (g:Nat→aa) (nb N m k l e:Nat) (F T Q F1 T1:Nat→Int) :
    zM 0 [rg 1,.dec true,rg 2,rm [(1,oc (bl N m F T Q) (bf N m 0))] 2,rm [(3,oq [165,133,134,135] (vy N (m+1) F1 T1 (fun s=>if s<m then Q s else e)) (jB true))] 0,.dec true,rg 2,rg 2,.head] ue (DT g nb N m k l e F T Q) [0,1,133,325,326] 1 (DT g nb N (m+1) k l (e+1) F1 T1 (fun s=>if s<m then Q s else e)) =
    some (ue,zD [((decide ((e:Int)<(nb:Int)))=true),(NT 0 1),(AN 1),(NL N N),(NL m m),zE 116 [(lm N F m T Q)] (eb N F m T Q) (.agg [.ar 1 0 0 N,.ar 1 1 0 m,.ar 1 2 0 m]),((true=true)→(AN 1)),(AE 1),(AE N),(AE m),Con Tryz.prog 117 4 (fQ N m F T Q) [.p (.seq true 2 nb (aF g)),jI (l:Int),.pt 3 0 0 0,jI (e:Int)] [(0,⟨true,3,1,(fun i=>[.ar 1 1 0 N,.ar 1 4 0 (m+1),.ar 1 5 0 (m+1)])⟩),(1,⟨false,1,N,(fun i=>[.p (.int .i64 (F1 i))])⟩),(4,⟨false,1,(m+1),(fun i=>[.p (.int .i64 (T1 i))])⟩),(5,⟨false,1,(m+1),(fun i=>[.p (.int .i64 (if i<m then Q i else (e:Int)))])⟩)] (jB true),(true=true),(ax ((e:Int)+1)),(au ((e:Int)+1)),(AI ((N:Int))),(AN nb),(AP nb (aF g)),(AI ((k:Int))),(AI ((l:Int))),(AN 0),(AI ((nb:Int))),((((e:Int)+1):Int)=(↑(e+1):Int)),(AN 3),(NL 1 1),(AN N),(AN ((m+1))),(AA N (fun i=>[.p (.int .i64 (F1 i))])),(NL (m+1) (m+1)),(AA ((m+1)) (fun i=>[.p (.int .i64 (T1 i))])),(AA ((m+1)) (fun i=>[.p (.int .i64 (if i<m then Q i else (e:Int)))]))] [0,1,2,3,2,4,2,4,5,1,6,7,8,9,9,10,11,1,1,6,12,13,14,15,16,17,18,19,19,20,21,22,23,23,22,23,23,19,24,19,25,19,25,2,3,26,2,27,28,2,27,29]):=by kernel_rfl
theorem HO (g:Nat→aa) (nb N m k l e:Nat) (F T Q F1 T1:Nat→Int) :
    zM 0 [rg 1,.dec true,rg 2,rm [(1,oc (bl N m F T Q) (bf N m 0))] 2,rm [(3,oq [165,133,134,135] (cQ N m F1 T1 Q) (jB false))] 0,.dec false,rg 2,.head] ue (DT g nb N m k l e F T Q) [0,1,2,3,4] 1 (DT g nb N m k l (e+1) F T Q) =
    some (ue,zD [((decide ((e:Int)<(nb:Int)))=true),(NT 0 1),(AN 1),(NL N N),(NL m m),zE 116 [(lm N F m T Q)] (eb N F m T Q) (.agg [.ar 1 0 0 N,.ar 1 1 0 m,.ar 1 2 0 m]),((true=true)→(AN 1)),(AE 1),(AE N),(AE m),Con Tryz.prog 117 4 (fQ N m F T Q) [.p (.seq true 2 nb (aF g)),jI (l:Int),.pt 3 0 0 0,jI (e:Int)] (fQ N m F1 T1 Q) (jB false),(false=false),(ax ((e:Int)+1)),(au ((e:Int)+1)),(AI ((N:Int))),(AN nb),(AP nb (aF g)),(AI ((k:Int))),(AI ((l:Int))),(AN 0),(AI ((nb:Int))),((((e:Int)+1):Int)=(↑(e+1):Int)),(AN 3),(NL 1 1),(AN N),(AN m),(AA N (fun i=>[.p (.int .i64 (F i))])),(AA m (fun i=>[.p (.int .i64 (T i))])),(AA m (fun i=>[.p (.int .i64 (Q i))]))] [0,1,2,3,2,4,2,4,5,1,6,7,8,9,9,10,11,12,13,14,15,16,17,18,19,19,20,21,22,23,23,22,23,23,19,24,19,25,19,25,2,3,26,2,4,27,2,4,28]):=by kernel_rfl
theorem M3 (g:Nat→aa) (nb N m k l e:Nat) (F T Q:Nat→Int) :
    zP Tryz.f99 0 [rg 1,.dec false,rg 2] ue (DT g nb N m k l e F T Q) [2,3,4] 1 (bl N m F T Q) (bf N m 0) =
    some (zD [((decide ((e:Int)<(nb:Int)))=false),(NT 0 1),((true=true)→(AN 1)),(AN 0),(AN N),(AN m),(AN 1),(NL N N),(AA N (fun i=>[.p (.int .i64 (F i))])),(NL m m),(AA m (fun i=>[.p (.int .i64 (T i))])),(AA m (fun i=>[.p (.int .i64 (Q i))])),(AE N),(AE m)] [0,1,1,2,1,3,4,3,5,3,5,6,7,8,6,9,10,6,9,11,12,13,13]):=by kernel_rfl
theorem cG (n:Nat) (F:Nat→Int) (hn:n≤1048576):zE 65 [gM n F] [(0,aY n F)] (.ar 1 0 0 n):=by
  refine aW Tryz.func65 (fun c hc=>?_)
  refine be Tryz.func65 hc (NJ n F) ?_
  and_intros
  all_goals (first | exact zN | (intro i hi;simp [af]))
theorem lx (N m:Nat) (F T Q:Nat→Int) (hN:N≤1048576) (hm:m≤1048576):zE 116 [.agg [gM N F,gM m T,gM m Q]] (bl N m F T Q) (bf N m 0):=by
  refine aW Tryz.func116 (fun c hc=>?_)
  refine bz Tryz.func116 hc (LW N m m F T Q) ?_
  and_intros
  all_goals (first | exact zI | (exact cG N F hN) | (exact cG m T hm) | (exact cG m Q hm) | (intro i hi;simp [af]))
open Classical in
noncomputable def aK (N k l:Nat) (g:Nat→aa):Nat→List Nat
  | 0=>[]
  | e+1=>if Mat.Sparse N k l ((aK N k l g e).map (fun i=>bB (g i))++[bB (g e)]) then aK N k l g e++[e] else aK N k l g e
theorem gC (N k l:Nat) (g:Nat→aa):∀ e,Mat.Sparse N k l ((aK N k l g e).map (fun i=>bB (g i)))
  | 0=>Mat.sparse_nil N k l
  | e+1=>by
    simp only [aK]
    split
    · rename_i h;rw [List.map_append];exact h
    · exact gC N k l g e
def qL (Q:Nat→Int):Nat→List Nat
  | 0=>[]
  | m+1=>qL Q m++[(Q m).toNat]
theorem bE (Q:Nat→Int):∀ m,(qL Q m).length=m
  | 0=>rfl
  | m+1=>by simp [qL,bE Q m]
theorem mS {Q Q':Nat→Int}:∀ m,(∀ j,j<m→Q j=Q' j)→qL Q m=qL Q' m
  | 0,_=>rfl
  | m+1,h=>by simp only [qL];rw [mS m (fun j hj=>h j (by omega)),h m (by omega)]
theorem jc (g:Nat→aa) (Q:Nat→Int):∀ m,ov g Q m=(qL Q m).map (fun i=>bB (g i))
  | 0=>rfl
  | m+1=>by simp only [ov,qL,jc g Q m,List.map_append,List.map_cons,List.map_nil]
theorem dc (N k l:Nat) (g:Nat→aa):∀ e,(aK N k l g e).length≤e
  | 0=>Nat.le_refl _
  | e+1=>by
    have:=dc N k l g e
    simp only [aK]
    split
    · simp;omega
    · omega
theorem PInv.start {N k nb:Nat} {g:Nat→aa} (hb:∀ e,e<nb→0≤(g e).1∧(g e).1<(g e).2.1∧(g e).2.1<N):PInv N k nb 0 g (fun _=>(k:Int)) (fun _=>0) (fun _=>0) :=
  ⟨hb,fun j hj=>absurd hj (Nat.not_lt_zero _),fun j hj=>absurd hj (Nat.not_lt_zero _),fun v _=>by show (0:Int)≤k;omega,fun v _=>by show (k:Int)+0=k;omega⟩
theorem sh {N k l nb:Nat} {g:Nat→aa} (hb:∀ e,e<nb→0≤(g e).1∧(g e).1<(g e).2.1∧(g e).2.1<N) (hk:k≤1048576) (hl:l≤1048576) (hN:N≤1048576) (hnb:nb≤1048576) :
    ∃ m F T Q,zE 99 [.p (.int .i64 N),b4 g nb,.p (.int .i64 k),.p (.int .i64 l)] (bl N m F T Q) (bf N m 0)∧PInv N k nb m g F T Q∧qL Q m=aK N k l g nb:=by
  have lp1:∀ d e m F T Q,e+d=nb→PInv N k nb m g F T Q→qL Q m=aK N k l g e →
      ∃ m' F' T' Q',(∀ c,c.n=0→zR c 99 ue (DT g nb N m k l e F T Q) (aS c (bl N m' F' T' Q') (bf N m' 0)))∧PInv N k nb m' g F' T' Q'∧qL Q' m'=aK N k l g nb:=by
    intro d
    induction d with
    | zero =>
      intro e m F T Q he hp hq
      obtain rfl:e=nb:=by omega
      refine ⟨m,F,T,Q,fun c hc=>?_,hp,hq⟩
      have hd:decide ((e:Int)<(e:Int))=false:=by simp
      refine bz Tryz.func99 hc (M3 g e N m k l e F T Q) ?_
      and_intros
      all_goals (first | exact zI | (intro i hi;simp [af]))
    | succ d ih =>
      intro e m F T Q he hp hq
      have hd:decide ((e:Int)<(nb:Int))=true:=by simp;omega
      have hm:m≤1048576:=by
        have:=dc N k l g e
        rw [← hq,bE] at this
        omega
      have hsp:Mat.Sparse N k l (ov g Q m):=by rw [jc,hq];exact gC N k l g e
      have hcc:=lx N m F T Q hN hm
      rcases xq hp hk hl hN hm hnb e (by omega) hsp with ⟨F1,T1,hc1,hp1,hs1⟩ | ⟨F1,T1,hc1,hs1⟩
      · obtain ⟨m',F',T',Q',hrun,h1,h2⟩:=ih (e+1) (m+1) F1 T1 _ (by omega) hp1 (by
          simp only [aK]
          rw [← hq,← jc,if_pos hs1]
          simp only [qL,Nat.lt_irrefl,if_false,Int.toNat_natCast]
          rw [mS (Q':=Q) m (fun j hj=>by simp only [hj,if_true])])
        refine ⟨m',F',T',Q',fun c hc=>?_,h1,h2⟩
        refine a9 hc (Ix g nb N m k l e F T Q F1 T1) ?_ (hrun c hc)
        and_intros
        all_goals (first | exact zI | (exact hcc) | (exact hc1) | (intro i hi;simp [af]))
      · obtain ⟨m',F',T',Q',hrun,h1,h2⟩:=ih (e+1) m F T Q (by omega) hp (by
          simp only [aK]
          rw [← hq,← jc,if_neg hs1])
        refine ⟨m',F',T',Q',fun c hc=>?_,h1,h2⟩
        refine a9 hc (HO g nb N m k l e F T Q F1 T1) ?_ (hrun c hc)
        and_intros
        all_goals (first | exact zI | (exact hcc) | (exact hc1) | (intro i hi;simp [af]))
  obtain ⟨m',F',T',Q',hrun,h1,h2⟩:=lp1 nb 0 0 _ _ _ (by omega) (PInv.start hb) rfl
  refine ⟨m',F',T',Q',?_,h1,h2⟩
  refine aW Tryz.func99 (fun c hc=>?_)
  have lp0:∀ d i,i+d=N→zR c 99 yQ (Gy g nb N k l i) (aS c (bl N m' F' T' Q') (bf N m' 0)):=by
    intro d
    induction d with
    | zero =>
      intro i hi
      obtain rfl:i=N:=by omega
      have hd:decide ((i:Int)<(i:Int))=false:=by simp
      refine a9 hc (I5 g nb i k l i) ?_ (hrun c hc)
      and_intros
      all_goals (first | exact zN | (intro i hi;simp [af]))
    | succ d ih =>
      intro i hi
      have hd:decide ((i:Int)<(N:Int))=true:=by simp;omega
      refine a9 hc (NH g nb N k l i) ?_ (ih (i+1) (by omega))
      and_intros
      all_goals (first | exact zI | (intro j hj;simp [af];done) | (intro j hj;by_cases h:j<i<;>simp [h,ay,bh,tg,bu,af]))
  refine a9 hc (K4 g nb N k l) ?_ (lp0 N 0 (by omega))
  and_intros
  all_goals (first | exact zI | (intro i hi;simp [af]))
end Go.Proofs.YtbdgmpfdlgnkkaaGreat.Mach
