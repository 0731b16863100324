/- What the law Pr needs, part 2 of 4: the abstract machine and the contracts of the functions. Conditions: as each theorem says. -/
import Derived.ProofKit
import Derived.OpenShut
import Derived.Carry
import Derived.Test.YtgabljneilgilaaRows
import Derived.Sort.Grow
import Derived.Shelf.SlGeneric
import Derived.Sort.Row
import Derived.Test.YtgabljneilgilaaPrP1
namespace Go.Proofs.Ytgabljneilgilaa.Mach
open Go
set_option linter.unusedVariables false
set_option linter.unusedSimpArgs false
section
variable {P:Program} {ops:Array Oper}
theorem unC_ok {w:World} {β:Id→Option Addr} {own:Bool→Nat→Prop} {v:AV} {x:Value} (h:VR w β own v x) (hp:∀ p∈(unC v).2 true,p):VR w β own (unC v).1 x:=by
  unfold unC at *
  split
  · cases h with
    | cnd _ _ _ h _=>exact h (hp _ (by simp))
  · exact h
theorem gU_ok {w:World} {β:Id→Option Addr} {own:Bool→Nat→Prop} {op:Op} {t:Nat} {v:AV} {x:Value} (h:VR w β own v x) (hp:∀ p∈(gU op t v).2,p):VR w β own (gU op t v).1 x:=by
  unfold gU at hp ⊢
  split at hp
  · rename_i hs;rw [if_pos hs];exact unC_ok h hp
  · rename_i hs;rw [if_neg hs];exact h
theorem guard_ok {w:World} {β:Id→Option Addr} {own:Bool→Nat→Prop} {env:List AV} {a:Act} (hev:∀ t,VR w β own (env.getD t anyA) (a.tmps.getD t undef)) {j:Nat} {want g:Bool}
    (h:guardB (dstV ops env j) want=some g):(yielded ops a.tmps j==some want)=g:=by
  unfold dstV at h
  unfold yielded
  cases hd:(ops[j]?).bind (·.dst) with
  | none=>rw [hd] at h;simp [guardB] at h
  | some d =>
    rw [hd] at h
    simp only at h
    have hv:=hev d
    simp only [Option.bind_some]
    have key:∀ b:Bool,a.tmps.getD d undef=.bool b→a.tmps[d]? = some (.bool b):=by
      intro b hb
      by_cases hlt:d<a.tmps.size
      · rw [Array.getElem?_eq_getElem hlt]
        simp only [Array.getD_eq_getD_getElem?,Array.getElem?_eq_getElem hlt,Option.getD_some] at hb
        rw [hb]
      · simp only [Array.getD_eq_getD_getElem?,Array.getElem?_eq_none (Nat.le_of_not_lt hlt),Option.getD_none] at hb
        cases hb
    unfold guardB at h
    split at h
    · rename_i b hb
      rw [hb] at hv
      generalize hx:a.tmps.getD d undef=x at hv
      cases hv with
      | p _ _ hp =>
        cases hp
        rw [key b hx]
        simp only [Option.some.injEq] at h
        rw [← h]
        cases want<;>cases b<;>rfl
    · rename_i g0 b hb
      rw [hb] at hv
      generalize hx:a.tmps.getD d undef=x at hv
      cases hv with
      | cnd _ _ _ h1 h2 =>
        simp only [Option.some.injEq] at h
        cases g0 with
        | true =>
          have:=h1 rfl
          cases this with
          | p _ _ hp =>
            cases hp
            rw [key b hx]
            rw [← h]
            cases want<;>cases b<;>rfl
        | false =>
          have:=h2 rfl
          subst this
          rw [← h]
          have:∀ b,a.tmps[d]?≠some (.bool b):=by
            intro b hb'
            rw [Array.getD_eq_getD_getElem?,hb'] at hx
            cases hx
          cases ht:a.tmps[d]? with
          | none=>rfl
          | some y =>
            cases y<;>first | rfl | exact absurd ht (this _)
    · cases h
def dstOf (ops:Array Oper) (i:Nat):Option Tmp:=(ops[i]?).bind (·.dst)
theorem stepOp_ok {c:Cx} {dom:Nat→Prop} {env:List AV} {H:Hp} {a:Act} {w:World} {β:Id→Option Addr} {base i:Nat} {sc:OpS} {rd:List Nat} {e:Eff} (h:Rel c dom env H a w β)
    (hid:∀ k,base+32*i≤k→k<base+32*i+32→¬ dom k) (hn:c.n≤base) (he:stepOp P ops base env H i sc=some (rd,e)) (hob:∀ p∈e.ob,p)
    {K:Act→World→Prop} {Q:Exit→Act→World→Prop}
    (hK:∀ a' w' β',Rel c (fun k=>dom k∨(base+32*i≤k∧k<base+32*i+32)) (putE env (dstOf ops i) e.v) (happ H e.wr) a' w' β'→K a' w') :
    wpOp P ops Q i K a w:=by
  unfold stepOp at he
  unfold wpOp
  cases ho:ops[i]? with
  | none=>rw [ho] at he;cases he
  | some o =>
    have hdst:dstOf ops i=o.dst:=by simp [dstOf,ho]
    rw [hdst] at hK
    rw [ho] at he
    simp only at he ⊢
    cases hg:o.guard with
    | none =>
      rw [hg] at he
      simp only at he
      have hw:Region.wanted o (yielded ops a.tmps)=true:=by simp [Region.wanted,hg]
      rw [hw]
      simp only [if_true]
      split at he
      case h_2=>cases he
      rename_i e' hgo
      split at he
      case isFalse=>cases he
      rename_i hwr
      simp only [Option.some.injEq,Prod.mk.injEq] at he
      obtain ⟨_,rfl⟩:=he
      exact .inl (go_ok h hid (by omega) (locOf_ok H _) (ρOf_ok _ (fun t _=>h.ev t)) hgo hwr hob (fun x w' β' _ _ hr=>hK _ _ _ hr))
    | some gw =>
      obtain ⟨j,want⟩:=gw
      rw [hg] at he
      simp only at he
      split at he
      case h_1=>cases he
      rename_i g hgb
      have hgd:=guard_ok h.ev hgb
      have hw:Region.wanted o (yielded ops a.tmps)=g:=by simp only [Region.wanted,hg];exact hgd
      rw [hw]
      split at he
      · split at he
        case h_2=>cases he
        rename_i e' hgo
        split at he
        case isFalse=>cases he
        rename_i hwr
        simp only [Option.some.injEq,Prod.mk.injEq] at he
        obtain ⟨_,rfl⟩:=he
        have hgt:g=true:=hob _ (by simp)
        subst hgt
        simp only [if_true]
        exact .inl (go_ok h hid (by omega) (locOf_ok H _) (ρOf_ok _ (fun t _=>h.ev t)) hgo hwr (fun p hp=>hob p (by simp [hp])) (fun x w' β' _ _ hr=>hK _ _ _ hr))
      · simp only [Option.some.injEq,Prod.mk.injEq] at he
        obtain ⟨_,rfl⟩:=he
        have hgf:g=false:=hob _ (by simp)
        subst hgf
        simp only [Bool.false_eq_true,if_false]
        refine hK _ _ β ?_
        refine h.step (Placed.same c.X w β H (base+32*i) h.hr h.sep).called (by omega) (fun k hk=>.inl hk) o.dst (.any _) (fun k h1 h2=>?_)
        cases hb:β k with
        | none=>rfl
        | some a=>exact absurd (h.dom k (.inl (by rw [hb];simp))) (hid k.o h1 h2)
      split at he
      case h_2=>cases he
      rename_i e' hgo
      split at he
      case isFalse=>cases he
      rename_i hwr
      simp only [Option.some.injEq,Prod.mk.injEq] at he
      obtain ⟨_,rfl⟩:=he
      have hnil:e'.wr=[]:=by simpa using hwr
      cases g with
      | true =>
        simp only [if_true]
        have hob':∀ p∈((opTmps o.op).map fun t=>(gU o.op t (env.getD t anyA)).2).flatten++e'.ob,p :=
          fun p hp=>hob (true=true→p) (List.mem_map.2 ⟨p,hp,rfl⟩) rfl
        refine .inl (go_ok h hid (by omega) (locOf_ok H _) (ρOf_ok _ (fun t ht=>gU_ok (h.ev t) (fun p hp=>hob' p (List.mem_append_left _ (List.mem_flatten.2 ⟨_,List.mem_map.2 ⟨t,ht,rfl⟩,hp⟩))))) hgo
          (by rw [hnil];rfl) (fun p hp=>hob' p (List.mem_append_right _ hp)) (fun x w' β' hc hv hr=>?_))
        refine hK _ _ β' ?_
        rw [hnil] at hc hv
        have hkeys:∀ k,(happ H []).lookup k≠none→H.lookup k≠none∨(base+32*i≤k∧k<base+32*i+32):=fun k hk=>.inl hk
        refine h.step hc (by omega) hkeys o.dst (.cnd _ _ _ (fun _=>hv) (fun h=>by cases h)) (fun k h1 h2=>?_)
        cases hb:β k with
        | none=>rfl
        | some a=>exact absurd (h.dom k (.inl (by rw [hb];simp))) (hid k.o h1 h2)
      | false =>
        simp only [Bool.false_eq_true,if_false]
        refine hK _ _ β ?_
        refine h.step (Placed.same c.X w β H (base+32*i) h.hr h.sep).called (by omega) (fun k hk=>.inl hk) o.dst (.cnd _ _ _ (fun h=>by cases h) (fun _=>rfl)) (fun k h1 h2=>?_)
        cases hb:β k with
        | none=>rfl
        | some a=>exact absurd (h.dom k (.inl (by rw [hb];simp))) (hid k.o h1 h2)
def runTr (P:Program) (ops:Array Oper) (base:Nat):List OpS→Nat→List AV→Hp→Option (List AV×Hp×List (List Nat×Eff))
  | [],i,env,H=>if i==ops.size then some (env,H,[]) else none
  | s::r,i,env,H =>
    match stepOp P ops base env H i s with
    | none=>none
    | some x =>
      match runTr P ops base r (i+1) (putE env (dstOf ops i) x.2.v) (happ H x.2.wr) with
      | none=>none
      | some y=>some (y.1,y.2.1,x::y.2.2)
def obsOf (tr:List (List Nat×Eff)):List Prop:=(tr.map fun x=>x.2.ob).flatten
theorem Rel.dom_mono {c:Cx} {dom dom':Nat→Prop} {env:List AV} {H:Hp} {a:Act} {w:World} {β:Id→Option Addr} (h:Rel c dom env H a w β) (hd:∀ k,dom k→dom' k):Rel c dom' env H a w β :=
  { h with dom:=fun k hk=>hd k.o (h.dom k hk) }
theorem runTr_len {base:Nat}:∀ (ss:List OpS) (i:Nat) (env:List AV) (H:Hp) {y:List AV×Hp×List (List Nat×Eff)},runTr P ops base ss i env H=some y→i+ss.length=ops.size
  | [],i,env,H,y,hr=>by
    simp only [runTr] at hr
    split at hr
    case isFalse=>cases hr
    rename_i hi
    have hi:i=ops.size:=by simpa using hi
    simp [hi]
  | s::r,i,env,H,y,hr=>by
    simp only [runTr] at hr
    split at hr
    case h_1=>cases hr
    rename_i x hx
    split at hr
    case h_1=>cases hr
    rename_i y hy
    have:=runTr_len r (i+1) _ _ hy
    simp only [List.length_cons]
    omega
theorem seq_ok {c:Cx} {base:Nat} {Q:Exit→Act→World→Prop} (hn:c.n≤base):∀ (ss:List OpS) (i:Nat) (env:List AV) (H:Hp) (a:Act) (w:World) (β:Id→Option Addr) (env':List AV) (H':Hp) (tr:List (List Nat×Eff)),
    runTr P ops base ss i env H=some (env',H',tr)→(∀ p∈obsOf tr,p)→Rel c (fun k=>k<base+32*i) env H a w β →
    (∀ a' w' β',Rel c (fun k=>k<base+32*ops.size) env' H' a' w' β'→Q .normal a' w')→wpOps P ops Q (List.range' i ss.length) a w
  | [],i,env,H,a,w,β,env',H',tr,hr,_,h,hQ=>by
    have hi:=runTr_len [] i env H hr
    simp only [runTr] at hr
    split at hr
    case isFalse=>cases hr
    simp only [Option.some.injEq,Prod.mk.injEq] at hr
    obtain ⟨rfl,rfl,rfl⟩:=hr
    simp only [List.length_nil,Nat.add_zero] at hi
    subst hi
    exact hQ _ _ _ h
  | s::r,i,env,H,a,w,β,env',H',tr,hr,hob,h,hQ=>by
    simp only [runTr] at hr
    split at hr
    case h_1=>cases hr
    rename_i x hx
    split at hr
    case h_1=>cases hr
    rename_i y hy
    simp only [Option.some.injEq,Prod.mk.injEq] at hr
    obtain ⟨rfl,rfl,rfl⟩:=hr
    have hob1:∀ p∈x.2.ob,p:=fun p hp=>hob p (by simp [obsOf,hp])
    have hob2:∀ p∈obsOf y.2.2,p:=fun p hp=>hob p (by simp only [obsOf,List.map_cons,List.flatten_cons];exact List.mem_append_right _ hp)
    simp only [List.length_cons,List.range'_succ]
    rw [wpOps_cons]
    exact stepOp_ok h (fun k h1 h2=>by omega) hn hx hob1 (fun a' w' β' hr=>seq_ok hn r (i+1) _ _ a' w' β' y.1 y.2.1 y.2.2 hy hob2 (hr.dom_mono (fun k hk=>by omega)) hQ)
def keysOf (wr:List (Nat×Option Ob)):List Nat:=wr.map (·.1)
def disjB (a b:List Nat):Bool:=a.all fun x=>!(b.elem x)
theorem disjB_ok {a b:List Nat} (h:disjB a b=true):∀ x∈a,x∉b:=by
  intro x hx
  simp only [disjB,List.all_eq_true] at h
  simpa using h x hx
def looks (ops:Array Oper) (o:Oper):List Nat :=
  opTmps o.op++(match o.guard with | some (g,_)=>(dstOf ops g).toList | none=>[])
def apartB (ops:Array Oper) (x y:Oper):Bool :=
  (match x.dst with | some d=>!((looks ops y).elem d)&&!(y.dst==some d) | none=>true) &&
  (match y.dst with | some d=>!((looks ops x).elem d) | none=>true)
def apartAt (ops:Array Oper) (tr:List (List Nat×Eff)) (i j:Nat):Bool :=
  match ops[i]?,ops[j]?,tr[i]?,tr[j]? with
  | some oi,some oj,some ti,some tj =>
    apartB ops oi oj&&disjB (keysOf ti.2.wr) tj.1&&disjB (keysOf ti.2.wr) (keysOf tj.2.wr)&&disjB (keysOf tj.2.wr) ti.1
  | _,_,_,_=>false
def waits (ops:Array Oper) (i j:Nat):Bool :=
  match ops[j]? with
  | some oj=>oj.after.any fun e=>Region.binds .any e&&e.on==i
  | none=>false
def waitsT (ops:Array Oper):Nat→Nat→Nat→Bool
  | 0,i,j=>waits ops i j
  | n+1,i,j=>waits ops i j||(List.range j).any fun k=>waits ops k j&&waitsT ops n i k
def chk (ops:Array Oper) (tr:List (List Nat×Eff)):Bool :=
  (List.range ops.size).all fun j =>
    (match ops[j]? with | some oj=>oj.after.all fun e=>!Region.binds .any e||Nat.blt e.on j | none=>false) &&
    (List.range j).all fun i=>waits ops i j||(apartAt ops tr i j||waitsT ops 5 i j)
theorem happ_other:∀ (wr:List (Nat×Option Ob)) (H:Hp) (k:Nat),k∉keysOf wr→(happ H wr).lookup k=H.lookup k
  | [],H,k,_=>rfl
  | (j,x)::r,H,k,h=>by
    simp only [keysOf,List.map_cons,List.mem_cons,not_or] at h
    cases x with
    | none=>simp only [happ];rw [happ_other r _ k h.2,lookup_hdel,if_neg h.1]
    | some ob=>simp only [happ];rw [happ_other r _ k h.2,lookup_hput,if_neg h.1]
theorem happ_at:∀ (wr:List (Nat×Option Ob)) (H H2:Hp) (k:Nat),(k∈keysOf wr∨H.lookup k=H2.lookup k)→(happ H wr).lookup k=(happ H2 wr).lookup k
  | [],H,H2,k,h=>by
    rcases h with h | h
    · simp [keysOf] at h
    · exact h
  | (j,x)::r,H,H2,k,h=>by
    cases x with
    | none =>
      simp only [happ]
      refine happ_at r _ _ k ?_
      rw [lookup_hdel,lookup_hdel]
      by_cases hk:k=j
      · exact .inr (by simp [hk])
      · rcases h with h | h
        · simp only [keysOf,List.map_cons,List.mem_cons] at h
          exact .inl (h.resolve_left hk)
        · exact .inr (by simp [hk,h])
    | some ob =>
      simp only [happ]
      refine happ_at r _ _ k ?_
      rw [lookup_hput,lookup_hput]
      by_cases hk:k=j
      · exact .inr (by simp [hk])
      · rcases h with h | h
        · simp only [keysOf,List.map_cons,List.mem_cons] at h
          exact .inl (h.resolve_left hk)
        · exact .inr (by simp [hk,h])
def Heq (H H2:Hp):Prop:=∀ k,H.lookup k=H2.lookup k
theorem happ_congr {H H2:Hp} (h:Heq H H2) (wr:List (Nat×Option Ob)):Heq (happ H wr) (happ H2 wr):=fun k=>happ_at wr H H2 k (.inr (h k))
theorem happ_comm {H:Hp} {a b:List (Nat×Option Ob)} (h:disjB (keysOf a) (keysOf b)=true):Heq (happ (happ H a) b) (happ (happ H b) a):=by
  intro k
  have hd:=disjB_ok h
  by_cases hka:k∈keysOf a
  · rw [happ_other b _ k (hd k hka)]
    exact happ_at a _ _ k (.inl hka)
  · rw [happ_other a _ k hka]
    exact happ_at b _ _ k (.inr (happ_other a H k hka))
theorem stepOp_congr {base:Nat} {env env2:List AV} {H H2:Hp} {j:Nat} {oj:Oper} {sc:OpS} {rd:List Nat} {e:Eff} (hj:ops[j]? = some oj) (hl:∀ t∈looks ops oj,env.getD t anyA=env2.getD t anyA)
    (h:stepOp P ops base env H j sc=some (rd,e)) (hH:∀ k∈rd,H.lookup k=H2.lookup k):stepOp P ops base env2 H2 j sc=some (rd,e):=by
  have hp:pairsOf env (opTmps oj.op)=pairsOf env2 (opTmps oj.op):=by
    unfold pairsOf
    refine List.map_congr_left (fun t ht=>?_)
    rw [hl t (List.mem_append_left _ ht)]
  have hu:pairsU env oj.op=pairsU env2 oj.op:=by
    unfold pairsU
    refine List.map_congr_left (fun t ht=>?_)
    rw [hl t (List.mem_append_left _ ht)]
  have hc:(opTmps oj.op).map (fun t=>(gU oj.op t (env.getD t anyA)).2)=(opTmps oj.op).map (fun t=>(gU oj.op t (env2.getD t anyA)).2) :=
    List.map_congr_left (fun t ht=>by rw [hl t (List.mem_append_left _ ht)])
  unfold stepOp at h ⊢
  rw [hj] at h ⊢
  simp only at h ⊢
  cases hg:oj.guard with
  | none =>
    rw [hg] at h
    simp only at h ⊢
    rw [hp] at h
    split at h
    case h_2=>cases h
    rename_i e' hgo
    split at h
    case isFalse=>cases h
    rename_i hwr
    simp only [Option.some.injEq,Prod.mk.injEq] at h
    obtain ⟨rfl,rfl⟩:=h
    rw [← locOf_congr _ hH,hgo]
    simp only
    rw [if_pos hwr]
  | some gw =>
    obtain ⟨g,want⟩:=gw
    rw [hg] at h
    simp only at h ⊢
    have hd:dstV ops env g=dstV ops env2 g:=by
      unfold dstV
      cases hd:(ops[g]?).bind (·.dst) with
      | none=>rfl
      | some d =>
        simp only
        refine hl d ?_
        unfold looks
        rw [hg]
        refine List.mem_append_right _ ?_
        simp only [dstOf]
        rw [hd]
        simp
    rw [hd,hu,hc] at h
    cases hgb:guardB (dstV ops env2 g) want with
    | none=>rw [hgb] at h;cases h
    | some gb=>?_
    rw [hgb] at h
    simp only at h ⊢
    cases hsg:sc.gd with
    | some bb =>
      rw [hsg] at h
      cases bb with
      | false=>exact h
      | true =>
        simp only at h ⊢
        rw [hp] at h
        split at h
        case h_2=>cases h
        rename_i e' hgo
        split at h
        case isFalse=>cases h
        rename_i hwr
        simp only [Option.some.injEq,Prod.mk.injEq] at h
        obtain ⟨rfl,rfl⟩:=h
        rw [← locOf_congr _ hH,hgo]
        simp only
        rw [if_pos hwr]
    | none=>?_
    rw [hsg] at h
    simp only at h ⊢
    split at h
    case h_2=>cases h
    rename_i e' hgo
    split at h
    case isFalse=>cases h
    rename_i hwr
    simp only [Option.some.injEq,Prod.mk.injEq] at h
    obtain ⟨rfl,rfl⟩:=h
    rw [← locOf_congr _ hH,hgo]
    simp only
    rw [if_pos hwr]
def trOf (tr:List (List Nat×Eff)) (i:Nat):List Nat×Eff:=tr.getD i ([],⟨anyA,[],[]⟩)
def AAny (P:Program) (ops:Array Oper) (base:Nat) (ss:List OpS) (tr:List (List Nat×Eff)) (envN:List AV) (HN:Hp):Nat→Array Bool→List AV→Hp→Prop
  | 0,listed,env,H=>Region.ready .any ops listed=[]∧env=envN∧Heq H HN
  | fuel+1,listed,env,H=>(Region.ready .any ops listed=[]→env=envN∧Heq H HN)∧∀ i∈Region.ready .any ops listed,
      stepOp P ops base env H i (ss.getD i ⟨true,none,none⟩)=some (trOf tr i) ∧
      AAny P ops base ss tr envN HN fuel (listed.setIfInBounds i true) (putE env (dstOf ops i) (trOf tr i).2.v) (happ H (trOf tr i).2.wr)
section
variable {base:Nat} {ss:List OpS} {tr:List (List Nat×Eff)} {envN:List AV} {HN:Hp}
theorem AAny_congr:∀ (fuel:Nat) (listed:Array Bool) (env:List AV) (H H2:Hp),Heq H H2→AAny P ops base ss tr envN HN fuel listed env H→AAny P ops base ss tr envN HN fuel listed env H2
  | 0,_,_,_,_,hq,h=>⟨h.1,h.2.1,fun k=>(hq k).symm.trans (h.2.2 k)⟩
  | fuel+1,listed,env,H,H2,hq,h=>by
    refine ⟨fun h0=>⟨(h.1 h0).1,fun k=>(hq k).symm.trans ((h.1 h0).2 k)⟩,fun i hi=>?_⟩
    obtain ⟨h1,h2⟩:=h.2 i hi
    obtain ⟨_,o,ho,_⟩:=mem_ready.1 hi
    exact ⟨stepOp_congr ho (fun _ _=>rfl) h1 (fun k _=>hq k),AAny_congr fuel _ _ _ _ (happ_congr hq _) h2⟩
theorem putE_get {env:List AV} {dst:Option Tmp} {v:AV} {t:Nat} (h:∀ d,dst=some d→d≠t):(putE env dst v).getD t anyA=env.getD t anyA:=by
  cases dst with
  | none=>rfl
  | some d=>simp [putE,List.getD_eq_getElem?_getD,List.getElem?_set_ne (h d rfl)]
theorem putE_comm {env:List AV} {x y:Option Tmp} {u v:AV} (h:∀ d,x=some d→y≠some d):putE (putE env x u) y v=putE (putE env y v) x u:=by
  cases x with
  | none=>rfl
  | some d =>
    cases y with
    | none=>rfl
    | some e =>
      have hne:d≠e:=fun he=>h d rfl (by rw [he])
      simp only [putE]
      exact List.set_comm _ _ hne
theorem apartB_ok {x y:Oper} (h:apartB ops x y=true):(∀ d,x.dst=some d→d∉looks ops y)∧(∀ d,x.dst=some d→y.dst≠some d)∧(∀ d,y.dst=some d→d∉looks ops x):=by
  refine ⟨fun d hd=>?_,fun d hd=>?_,fun d hd=>?_⟩<;>simp [apartB,hd] at h
  · exact h.1.1
  · exact h.1.2
  · exact h.2
def Closed (ops:Array Oper) (listed:Array Bool):Prop:=∀ k ok,ops[k]? = some ok→listed.getD k true=true→∀ e∈ok.after,Region.binds .any e=true→listed.getD e.on true=true
theorem waits_dep {i j:Nat} (h:waits ops i j=true):∃ oj,ops[j]? = some oj∧∃ e∈oj.after,Region.binds .any e=true∧e.on=i:=by
  unfold waits at h
  split at h
  · rename_i oj hoj
    rw [Array.any_eq_true'] at h
    obtain ⟨e,he,hb⟩:=h
    simp only [Bool.and_eq_true,beq_iff_eq] at hb
    exact ⟨oj,hoj,e,he,hb.1,hb.2⟩
  · cases h
theorem waitsT_listed {listed:Array Bool} (hc:Closed ops listed) {i:Nat}:∀ (n j:Nat),(∀ oj,ops[j]? = some oj→∀ e∈oj.after,Region.binds .any e=true→listed.getD e.on true=true) →
    waitsT ops n i j=true→listed.getD i true=true
  | 0,j,hd,h=>by
    obtain ⟨oj,hoj,e,he,hb,hi⟩:=waits_dep h
    rw [← hi];exact hd oj hoj e he hb
  | n+1,j,hd,h=>by
    simp only [waitsT,Bool.or_eq_true,List.any_eq_true,List.mem_range,Bool.and_eq_true] at h
    rcases h with h | ⟨k,_,hk1,hk2⟩
    · obtain ⟨oj,hoj,e,he,hb,hi⟩:=waits_dep h
      rw [← hi];exact hd oj hoj e he hb
    · obtain ⟨oj,hoj,e,he,hb,hi⟩:=waits_dep hk1
      have hkl:listed.getD k true=true:=by rw [← hi];exact hd oj hoj e he hb
      exact waitsT_listed hc n k (fun ok hok e he hb=>hc k ok hok hkl e he hb) hk2
theorem getD_ft {listed:Array Bool} {k:Nat} (h:listed.getD k false=true):listed.getD k true=true:=by
  rw [Array.getD_eq_getD_getElem?] at h ⊢
  rcases Nat.lt_or_ge k listed.size with h' | h'
  · simpa [h'] using h
  · simp [h']
theorem getD_setT {listed:Array Bool} {j k:Nat} (h:listed.getD k true=true):(listed.setIfInBounds j true).getD k true=true:=by
  by_cases hjk:j=k
  · subst hjk
    rw [Array.getD_eq_getD_getElem?]
    rcases Nat.lt_or_ge j listed.size with h' | h'
    · simp [h']
    · simp [h']
  · rw [getD_set_ne true hjk];exact h
theorem Closed.next {listed:Array Bool} (hc:Closed ops listed) {j:Nat} (hj:j∈Region.ready .any ops listed):Closed ops (listed.setIfInBounds j true):=by
  obtain ⟨_,oj,hoj,hall⟩:=mem_ready.1 hj
  intro k ok hok hk e he hb
  by_cases hjk:j=k
  · subst hjk
    rw [hoj] at hok
    obtain rfl:=Option.some.inj hok
    exact getD_setT (getD_ft (hall e he hb))
  · rw [getD_set_ne true hjk] at hk
    exact getD_setT (hc k ok hok hk e he hb)
theorem AAny_first {i:Nat}:∀ (fuel:Nat) (listed:Array Bool) (env:List AV) (H:Hp),
    Closed ops listed→(∀ j,j<ops.size→j≠i→listed.getD j true=false→waitsT ops 5 i j=false→apartAt ops tr i j=true)→i∈Region.ready .any ops listed →
    stepOp P ops base env H i (ss.getD i ⟨true,none,none⟩)=some (trOf tr i) →
    AAny P ops base ss tr envN HN fuel (listed.setIfInBounds i true) (putE env (dstOf ops i) (trOf tr i).2.v) (happ H (trOf tr i).2.wr) →
    AAny P ops base ss tr envN HN (fuel+1) listed env H:=by
  intro fuel
  induction fuel with
  | zero =>
    intro listed env H _ _ hr hs h
    refine ⟨fun h0=>(by rw [h0] at hr;cases hr),fun j hj=>?_⟩
    by_cases hji:j=i
    · subst hji;exact ⟨hs,h⟩
    · have:=ready_mono hj hji
      rw [h.1] at this
      cases this
  | succ fuel ih =>
    intro listed env H hcl hap hr hs h
    refine ⟨fun h0=>(by rw [h0] at hr;cases hr),fun j hj=>?_⟩
    by_cases hji:j=i
    · subst hji;exact ⟨hs,h⟩
    obtain ⟨h1,h2⟩:=h.2 j (ready_mono hj hji)
    obtain ⟨hjun,oj,hoj,hall⟩:=mem_ready.1 hj
    obtain ⟨hiun,oi,hoi,_⟩:=mem_ready.1 hr
    have hjlt:j<ops.size:=(Array.getElem?_eq_some_iff.1 hoj).1
    have hnot:waitsT ops 5 i j=false:=by
      cases hw:waitsT ops 5 i j with
      | false=>rfl
      | true =>
        have:=waitsT_listed hcl 5 j (fun oj' hoj' e he hb=>by rw [hoj] at hoj';obtain rfl:=Option.some.inj hoj';exact getD_ft (hall e he hb)) hw
        rw [hiun] at this
        cases this
    have hap1:=hap j hjlt hji hjun hnot
    unfold apartAt at hap1
    rw [hoi,hoj] at hap1
    cases hti:tr[i]? with
    | none=>rw [hti] at hap1;simp at hap1
    | some ti =>
      cases htj:tr[j]? with
      | none=>rw [hti,htj] at hap1;simp at hap1
      | some tj =>
        rw [hti,htj] at hap1
        simp only [Bool.and_eq_true] at hap1
        obtain ⟨⟨⟨ha,hd1⟩,hd2⟩,hd3⟩:=hap1
        obtain ⟨k1,k2,k3⟩:=apartB_ok ha
        have ei:trOf tr i=ti:=by simp [trOf,List.getD_eq_getElem?_getD,hti]
        have ej:trOf tr j=tj:=by simp [trOf,List.getD_eq_getElem?_getD,htj]
        have di:dstOf ops i=oi.dst:=by simp [dstOf,hoi]
        have dj:dstOf ops j=oj.dst:=by simp [dstOf,hoj]
        have hsj:stepOp P ops base env H j (ss.getD j ⟨true,none,none⟩)=some (trOf tr j):=by
          rw [ej] at h1 ⊢
          refine stepOp_congr hoj (fun t ht=>?_) h1 (fun k hk=>?_)
          · exact putE_get (fun d hd he=>k1 d (by rw [← di];exact hd) (he ▸ ht))
          · exact happ_other _ _ _ (by rw [ei];exact fun hk'=>disjB_ok hd1 k hk' hk)
        have hsi:stepOp P ops base (putE env (dstOf ops j) (trOf tr j).2.v) (happ H (trOf tr j).2.wr) i (ss.getD i ⟨true,none,none⟩)=some (trOf tr i):=by
          rw [ei] at hs ⊢
          refine stepOp_congr hoi (fun t ht=>?_) hs (fun k hk=>?_)
          · exact (putE_get (fun d hd he=>k3 d (by rw [← dj];exact hd) (he ▸ ht))).symm
          · exact (happ_other _ _ _ (by rw [ej];exact fun hk'=>disjB_ok hd3 k hk' hk)).symm
        refine ⟨hsj,ih (listed.setIfInBounds j true) _ _ (hcl.next hj) (fun k hk hki hun hw=>hap k hk hki ?_ hw) (ready_mono hr (Ne.symm hji)) hsi ?_⟩
        · by_cases hjk:j=k
          · subst hjk;exact hjun
          · rw [getD_set_ne true hjk] at hun;exact hun
        · rw [Array.setIfInBounds_comm _ _ hji]
          rw [putE_comm (x:=dstOf ops j) (y:=dstOf ops i) (fun d hd he=>k2 d (by rw [← di];exact he) (by rw [← dj];exact hd))]
          refine AAny_congr _ _ _ _ _ (happ_comm ?_) h2
          rw [ei,ej]
          exact hd2
end
end
section
variable {P:Program} {ops:Array Oper} {base:Nat} {ss:List OpS} {tr:List (List Nat×Eff)} {envN:List AV} {HN:Hp}
theorem chk_ok (h:chk ops tr=true) {j:Nat} (hj:j<ops.size):(∃ oj,ops[j]? = some oj∧∀ e∈oj.after,Region.binds .any e=true→e.on<j)∧∀ i,i<j→waitsT ops 5 i j=true∨apartAt ops tr i j=true:=by
  simp only [chk,List.all_eq_true,List.mem_range,Bool.and_eq_true,Bool.or_eq_true] at h
  obtain ⟨h1,h2⟩:=h j hj
  refine ⟨?_,fun i hi=>?_⟩
  rotate_left
  · rcases h2 i hi with h | h | h
    · left;simp [waitsT,h]
    · exact .inr h
    · exact .inl h
  split at h1
  · rename_i oj hoj
    refine ⟨oj,hoj,fun e he hb=>?_⟩
    have:=Array.all_eq_true_iff_forall_mem.1 h1 e he
    simp only [Bool.or_eq_true,Bool.not_eq_true',Nat.blt_eq] at this
    rcases this with h | h
    · rw [h] at hb;cases hb
    · exact h
  · cases h1
def Upto (ops:Array Oper) (i:Nat) (listed:Array Bool):Prop:=listed.size=ops.size∧∀ j,j<ops.size→listed[j]? = some (decide (j<i))
theorem Upto.getD {i:Nat} {listed:Array Bool} (h:Upto ops i listed) {j:Nat} (hj:j<ops.size) (d:Bool):listed.getD j d=decide (j<i):=by
  rw [Array.getD_eq_getD_getElem?,h.2 j hj];rfl
theorem Upto.next {i:Nat} {listed:Array Bool} (h:Upto ops i listed) (hi:i<ops.size):Upto ops (i+1) (listed.setIfInBounds i true):=by
  refine ⟨by simp [h.1],fun j hj=>?_⟩
  by_cases hij:i=j
  · subst hij
    simp [h.1,hi]
  · rw [Array.getElem?_setIfInBounds_ne hij,h.2 j hj]
    congr 1
    apply decide_eq_decide.2
    omega
theorem AAny_lex (hc:chk ops tr=true):∀ (r:List OpS) (i:Nat) (listed:Array Bool) (env:List AV) (H:Hp) (envN:List AV) (HN:Hp) (tr':List (List Nat×Eff)),runTr P ops base r i env H=some (envN,HN,tr') →
    (∀ k,r[k]? = ss[i+k]?)→(∀ k,tr'[k]? = tr[i+k]?)→Upto ops i listed→AAny P ops base ss tr envN HN r.length listed env H
  | [],i,listed,env,H,envN,HN,tr',hr,hs,ht,hu=>by
    have hi:=runTr_len [] i env H hr
    simp only [runTr] at hr
    split at hr
    case isFalse=>cases hr
    simp only [Option.some.injEq,Prod.mk.injEq] at hr
    obtain ⟨rfl,rfl,rfl⟩:=hr
    refine ⟨?_,rfl,fun _=>rfl⟩
    rw [List.eq_nil_iff_forall_not_mem]
    intro j hj
    obtain ⟨h1,o,ho,_⟩:=mem_ready.1 hj
    have hjl:j<ops.size:=(Array.getElem?_eq_some_iff.1 ho).1
    rw [hu.getD hjl] at h1
    simp at h1 hi
    omega
  | s::r,i,listed,env,H,envN,HN,tr',hr,hs,ht,hu=>by
    have hlen:=runTr_len _ i env H hr
    simp only [List.length_cons] at hlen
    have hi:i<ops.size:=by omega
    simp only [runTr] at hr
    split at hr
    case h_1=>cases hr
    rename_i x hx
    split at hr
    case h_1=>cases hr
    rename_i y hy
    simp only [Option.some.injEq,Prod.mk.injEq] at hr
    obtain ⟨rfl,rfl,rfl⟩:=hr
    have hs0:ss.getD i ⟨true,none,none⟩=s:=by
      have:=hs 0
      simp only [Nat.add_zero,List.getElem?_cons_zero] at this
      rw [List.getD_eq_getElem?_getD,← this];rfl
    have ht0:trOf tr i=x:=by
      have:=ht 0
      simp only [Nat.add_zero,List.getElem?_cons_zero] at this
      rw [trOf,List.getD_eq_getElem?_getD,← this];rfl
    obtain ⟨⟨oi,hoi,hon⟩,_⟩:=chk_ok hc hi
    refine AAny_first r.length listed env H (fun k ok hok hk e he hb=>?_) (fun j hj hji hun hw=>?_) ?_ (by rw [hs0,ht0];exact hx) ?_
    · have hks:k<ops.size:=(Array.getElem?_eq_some_iff.1 hok).1
      rw [hu.getD hks] at hk
      obtain ⟨⟨ok',hok',hon'⟩,_⟩:=chk_ok hc hks
      rw [hok] at hok'
      obtain rfl:=Option.some.inj hok'
      have h1:=hon' e he hb
      have hk:=of_decide_eq_true hk
      rw [hu.getD (by omega)]
      exact decide_eq_true (by omega)
    · rw [hu.getD hj] at hun
      simp only [decide_eq_false_iff_not] at hun
      rcases (chk_ok hc hj).2 i (by omega) with h | h
      · rw [h] at hw;cases hw
      · exact h
    · refine mem_ready.2 ⟨by rw [hu.getD hi];simp,oi,hoi,fun e he hb=>?_⟩
      have:=hon e he hb
      rw [hu.getD (by omega)]
      simpa using this
    · rw [ht0]
      exact AAny_lex hc r (i+1) _ _ _ _ _ y.2.2 hy (fun k=>by have:=hs (k+1);simpa [Nat.add_assoc,Nat.add_comm 1 k] using this)
        (fun k=>by have:=ht (k+1);simpa [Nat.add_assoc,Nat.add_comm 1 k] using this) (hu.next hi)
theorem Heq.lk {H H2:Hp} (h:Heq H H2) (x:Id):lk H x=lk H2 x:=by
  unfold Mach.lk
  rw [h x.o]
theorem Heq.own {β:Id→Option Addr} {H H2:Hp} (h:Heq H H2):ownOf β H=ownOf β H2:=by
  funext b
  unfold ownOf
  simp only [h.lk]
theorem Rel.heq {c:Cx} {dom:Nat→Prop} {env:List AV} {H H2:Hp} {a:Act} {w:World} {β:Id→Option Addr} (h:Rel c dom env H a w β) (hq:Heq H H2):Rel c dom env H2 a w β:=by
  have ho:=hq.own (β:=β)
  have hw:ow c.X β H=ow c.X β H2:=by funext t b;unfold ow;rw [ho]
  refine ⟨fun o ob hl=>?_,fun o o' ob ob' a a' h1 h2=>h.sep o o' ob ob' a a' (by rw [hq.lk o];exact h1) (by rw [hq.lk o'];exact h2),by rw [← hw];exact h.ev,h.len,h.dfr,fun k hk=>h.dom k (by rw [hq k.o];exact hk),by rw [← hw];exact h.ext,by rw [← ho];exact h.xs,by rw [← ho];exact h.own,h.init⟩
  rw [← hw]
  exact h.hr o ob (by rw [hq.lk o];exact hl)
def domL (base:Nat) (listed:Array Bool) (k:Nat):Prop:=k<base∨∃ i,listed.getD i false=true∧base+32*i≤k∧k<base+32*i+32
theorem AAny_sound {c:Cx} (hn:c.n≤base) {Q:Exit→Act→World→Prop} (hob:∀ i,∀ p∈(trOf tr i).2.ob,p)
    (hQ:∀ a' w' β',Rel c (fun k=>k<base+32*ops.size) envN HN a' w' β'→Q .normal a' w') :
    ∀ (fuel:Nat) (listed:Array Bool) (env:List AV) (H:Hp) (a:Act) (w:World) (β:Id→Option Addr),listed.size=ops.size→Rel c (domL base listed) env H a w β →
      AAny P ops base ss tr envN HN fuel listed env H→wpAny P .any ops Q fuel listed a w:=by
  have fin:∀ (listed:Array Bool) (env:List AV) (H:Hp) (a:Act) (w:World) (β:Id→Option Addr),listed.size=ops.size→Rel c (domL base listed) env H a w β→env=envN→Heq H HN→Q .normal a w:=by
    intro listed env H a w β hl hr he hq
    subst he
    refine hQ a w β ((hr.heq hq).dom_mono (fun k hk=>?_))
    rcases hk with h | ⟨i,h1,h2,h3⟩
    · omega
    · have:i<listed.size:=by
        rcases Nat.lt_or_ge i listed.size with h' | h'
        · exact h'
        · simp [Array.getElem?_eq_none h'] at h1
      omega
  intro fuel
  induction fuel with
  | zero=>intro listed env H a w β hl hr h;exact ⟨h.1,fin listed env H a w β hl hr h.2.1 h.2.2⟩
  | succ fuel ih =>
    intro listed env H a w β hl hr h
    refine ⟨fun h0=>fin listed env H a w β hl hr (h.1 h0).1 (h.1 h0).2,fun i hi=>?_⟩
    obtain ⟨h1,h2⟩:=h.2 i hi
    obtain ⟨hun,oi,hoi,_⟩:=mem_ready.1 hi
    refine stepOp_ok (rd:=(trOf tr i).1) (e:=(trOf tr i).2) hr (fun k k1 k2 hd=>?_) hn h1 (hob i) (fun a' w' β' hr'=>?_)
    · rcases hd with hd | ⟨i',g1,g2,g3⟩
      · omega
      · have:i'=i:=by omega
        subst this
        rcases Nat.lt_or_ge i' listed.size with h' | h'
        · simp [h'] at hun g1;rw [hun] at g1;cases g1
        · simp [Array.getElem?_eq_none h'] at g1
    · refine ih _ _ _ a' w' β' (by simp [hl]) (hr'.dom_mono (fun k hk=>?_)) h2
      rcases hk with hk | hk
      · rcases hk with hk | ⟨i',g1,g2⟩
        · exact .inl hk
        · exact .inr ⟨i',getD_set_true g1,g2⟩
      · have hil:i<listed.size:=by rw [hl];exact (Array.getElem?_eq_some_iff.1 hoi).1
        exact .inr ⟨i,by simp [Array.getD_eq_getD_getElem?,hil],hk⟩
theorem region_ok {c:Cx} {id:Nat} {draw:Bool} {env env':List AV} {H H':Hp} {a:Act} {w:World} {β:Id→Option Addr} (hm:P.follows .mixedOrders=true) (hn:c.n≤base)
    (hr:runTr P ops base ss 0 env H=some (env',H',tr)) (hob:∀ p∈obsOf tr,p) (hc:draw=true→chk ops tr=true) (h:Rel c (fun k=>k<base) env H a w β)
    {Q:Exit→Act→World→Prop} (hQ:∀ a' w' β',Rel c (fun k=>k<base+32*ops.size) env' H' a' w' β'→Q .normal a' w'):(Code.region id ops draw).wp P Q a w:=by
  have hlen:=runTr_len ss 0 env H hr
  cases draw with
  | false =>
    refine wp_region ?_
    have:=seq_ok (Q:=Q) hn ss 0 env H a w β env' H' tr hr hob (h.dom_mono (fun k hk=>by omega)) hQ
    rw [List.range_eq_range',show ops.size=ss.length by omega]
    exact this
  | true =>
    refine wp_region_any hm ?_
    have hE:∀ own:Bool→Nat→Prop,Ext w own { w with drawn:=w.drawn+1 } own:=fun own=>⟨rfl,rfl,rfl,Nat.le_refl _,fun _ _ _ _=>rfl,fun _ _ _ h=>h,fun _ c e f h=>⟨c,e,f,h,Nat.le_refl _⟩,fun _ es ck h=>⟨es,ck,h⟩⟩
    have hd:Rel c (fun k=>k<base) env H a { w with drawn:=w.drawn+1 } β :=
      { hr:=fun o ob hl=>by
          rcases h.hr o ob hl with h' | ⟨b,bs,cells,elem,h1,h2,h3⟩ | h'
          · exact .inl h'
          · refine .inr (.inl ⟨b,bs,cells,elem,h1,h2,fun i hi j hj=>?_⟩)
            obtain ⟨v,g1,g2,g3⟩:=h3 i hi j hj
            exact ⟨v,g1,g2,g3.ext (hE _) (fun _ _ h=>h)⟩
          · exact .inr (.inr h')
        sep:=h.sep
        ev:=fun t=>(h.ev t).ext (hE _) (fun _ _ h=>h)
        len:=h.len,dfr:=h.dfr,dom:=h.dom
        ext:=h.ext.trans (hE _)
        xs:=h.xs,own:=h.own,init:=h.init }
    have hob':∀ i,∀ p∈(trOf tr i).2.ob,p:=by
      intro i p hp
      unfold trOf at hp
      rw [List.getD_eq_getElem?_getD] at hp
      cases hi:tr[i]? with
      | none=>rw [hi] at hp;simp at hp
      | some x =>
        rw [hi] at hp
        exact hob p (List.mem_flatten.2 ⟨x.2.ob,List.mem_map.2 ⟨x,List.mem_of_getElem? hi,rfl⟩,hp⟩)
    have hu:Upto ops 0 (Array.replicate ops.size false):=⟨by simp,fun j hj=>by simp [hj]⟩
    have hlex:=AAny_lex (ss:=ss) (hc rfl) ss 0 (Array.replicate ops.size false) env H env' H' tr hr (fun k=>by simp) (fun k=>by simp) hu
    have hl:ss.length=ops.size:=by omega
    rw [hl] at hlex
    exact AAny_sound hn hob' hQ ops.size _ env H a _ β (by simp) (hd.dom_mono (fun k hk=>.inl hk)) hlex
end
structure St where
  env:List AV
  H:Hp
  ctr:Nat
def Run (P:Program) (c:Cx) (f:FuncId) (k:List Item) (st:St) (R:Ending→World→Prop):Prop :=
  c.n≤st.ctr→∀ (b:Frame) (cs:List Frame) (a:Act) (w:World) (β:Id→Option Addr),b.fn=f→b.kind=.normal→Rel c (fun k=>k<st.ctr) st.env st.H a w β →
    ∃ e w' fr,R e w'∧Comes P (lone (b.at a k) cs w) (lone fr cs w') e∧fr.fn=f∧fr.leaving P w' e
inductive ScI where
  | reg (ss:List OpS)
  | dec (b:Bool)
  | loop
  | head
section
variable {P:Program} {c:Cx} {f:FuncId} {R:Ending→World→Prop}
theorem Run.step {k k':List Item} {st:St} (h:∀ (b:Frame) (cs:List Frame) (a:Act) (w:World),Steps P (lone (b.at a k) cs w) (lone (b.at a k') cs w)) (hr:Run P c f k' st R):Run P c f k st R:=by
  intro hn b cs a w β h1 h2 h3
  obtain ⟨e,w',fr,g1,g2,g3,g4⟩:=hr hn b cs a w β h1 h2 h3
  exact ⟨e,w',fr,g1,g2.of_steps (h b cs a w),g3,g4⟩
def runTo (P:Program):Nat→List ScI→List Item→St→Option (List Item×St×List Prop)
  | 0,_,_,_=>none
  | fuel+1,sc,k,st =>
    match k with
    | []=>match sc with
      | []=>some ([],st,[])
      | _=>none
    | .inBlock _::k=>runTo P fuel sc k st
    | .inScope _::k=>runTo P fuel sc k st
    | .inLoop body::k=>match sc with
      | .loop::sc=>runTo P fuel sc (.code body::.inLoop body::k) st
      | .head::_=>some (.code body::.inLoop body::k,st,[])
      | _=>none
    | .code code::k =>
      match code with
      | .seq a b=>runTo P fuel sc (.code a::.code b::k) st
      | .skip=>runTo P fuel sc k st
      | .label _=>runTo P fuel sc k st
      | .block id body=>runTo P fuel sc (.code body::.inBlock id::k) st
      | .scope body=>runTo P fuel sc (.code body::.inScope body::k) st
      | .exit id=>match exitTo id k with
        | some k'=>runTo P fuel sc k' st
        | none=>none
      | .loop body=>match sc with
        | .loop::sc=>runTo P fuel sc (.code body::.inLoop body::k) st
        | .head::_=>some (.code body::.inLoop body::k,st,[])
        | _=>none
      | .cond cnd x y=>match sc with
        | .dec b::sc=>match evA st.env cnd with
          | .p (.bool v)=>match runTo P fuel sc (.code (if b then x else y)::k) st with
            | some (k',st',ob)=>some (k',st',(v=b)::ob)
            | none=>none
          | _=>none
        | _=>none
      | .region rid ops draw=>match sc with
        | .head::_=>some (.code (.region rid ops draw)::k,st,[])
        | .reg ss::sc=>match runTr P ops st.ctr ss 0 st.env st.H with
          | some (env',H',tr) =>
            if !draw||chk ops tr then
              match runTo P fuel sc k ⟨env',H',st.ctr+32*ops.size⟩ with
              | some (k',st',ob)=>some (k',st',obsOf tr++ob)
              | none=>none
            else none
          | none=>none
        | _=>none
      | .ret=>match sc with
        | []=>some (.code .ret::k,st,[])
        | _=>none
      | _=>none
    | _=>none
theorem runTo_ok (hm:P.follows .mixedOrders=true):∀ (fuel:Nat) (sc:List ScI) (k:List Item) (st:St) (k':List Item) (st':St) (ob:List Prop),runTo P fuel sc k st=some (k',st',ob)→(∀ p∈ob,p) →
    Run P c f k' st' R→Run P c f k st R:=by
  intro fuel
  induction fuel with
  | zero=>intro sc k st k' st' ob h;cases h
  | succ fuel ih =>
    intro sc k st k' st' ob h hob hr
    unfold runTo at h
    split at h
    ·
      split at h
      · cases h;exact hr
      · cases h
    · exact Run.step (fun b cs a w=>.one step_inBlock) (ih _ _ _ _ _ _ h hob hr)
    · exact Run.step (fun b cs a w=>.one (step_lone_go (by simp [stepG,stepG.exec,Frame.at]))) (ih _ _ _ _ _ _ h hob hr)
    · split at h
      · exact Run.step (fun b cs a w=>.one step_inLoop) (ih _ _ _ _ _ _ h hob hr)
      · cases h;exact Run.step (fun b cs a w=>.one step_inLoop) hr
      · cases h
    · rename_i code k
      split at h
      · exact Run.step (fun b cs a w=>.one step_seq) (ih _ _ _ _ _ _ h hob hr)
      · exact Run.step (fun b cs a w=>.one step_skip) (ih _ _ _ _ _ _ h hob hr)
      · exact Run.step (fun b cs a w=>.one step_label) (ih _ _ _ _ _ _ h hob hr)
      · exact Run.step (fun b cs a w=>.one step_block) (ih _ _ _ _ _ _ h hob hr)
      · exact Run.step (fun b cs a w=>.one (step_lone_go (by simp [stepG,stepG.exec,Frame.at]))) (ih _ _ _ _ _ _ h hob hr)
      · split at h
        · rename_i k2 hk2
          exact Run.step (fun b cs a w=>.one (step_exit hk2)) (ih _ _ _ _ _ _ h hob hr)
        · cases h
      · split at h
        · exact Run.step (fun b cs a w=>.one step_loop) (ih _ _ _ _ _ _ h hob hr)
        · cases h;exact Run.step (fun b cs a w=>.one step_loop) hr
        · cases h
      ·
        rename_i cnd x y
        split at h
        case h_2=>cases h
        rename_i b sc
        split at h
        case h_2=>cases h
        rename_i v hv
        split at h
        case h_2=>cases h
        rename_i k2 st2 ob2 h2
        simp only [Option.some.injEq,Prod.mk.injEq] at h
        obtain ⟨rfl,rfl,rfl⟩:=h
        have hvb:v=b:=hob _ (by simp)
        have hrun:=ih _ _ _ _ _ _ h2 (fun p hp=>hob p (by simp [hp])) hr
        intro hn fr cs a w β h1 h3 hrel
        have hc:=evA_ok hrel.ev cnd
        rw [hv] at hc
        have hcv:a.eval cnd=.bool b:=by
          generalize a.eval cnd=z at hc
          cases hc with
          | p _ _ hp=>cases hp;rw [hvb]
        obtain ⟨e,w',fr',g1,g2,g3,g4⟩:=hrun hn fr cs a w β h1 h3 hrel
        exact ⟨e,w',fr',g1,g2.of_steps (.one (step_cond hcv)),g3,g4⟩
      ·
        rename_i id ops draw
        split at h
        case h_1=>cases h;exact hr
        case h_3=>cases h
        rename_i ss sc
        split at h
        case h_2=>cases h
        rename_i env' H' tr htr
        split at h
        case isFalse=>cases h
        rename_i hd
        split at h
        case h_2=>cases h
        rename_i k2 st2 ob2 h2
        simp only [Option.some.injEq,Prod.mk.injEq] at h
        obtain ⟨rfl,rfl,rfl⟩:=h
        have hrun:=ih _ _ _ _ _ _ h2 (fun p hp=>hob p (List.mem_append_right _ hp)) hr
        intro hn fr cs a w β h1 h3 hrel
        have hwp:=region_ok (id:=id) (draw:=draw) (Q:=fun ex a' w'=>ex=.normal∧∃ β',Rel c (fun k=>k<st.ctr+32*ops.size) env' H' a' w' β') hm hn htr (fun p hp=>hob p (List.mem_append_left _ hp))
          (fun h=>by rw [h] at hd;simpa using hd) hrel (fun a' w' β' h=>⟨rfl,β',h⟩)
        obtain ⟨ex,a',w',⟨rfl,β',hrel'⟩,harr⟩:=hwp fr k cs
        obtain ⟨e,w2,fr',g1,g2,g3,g4⟩:=hrun (by simp only;omega) fr cs a' w' β' h1 h3 hrel'
        exact ⟨e,w2,fr',g1,g2.of_steps harr,g3,g4⟩
      · split at h
        · cases h;exact hr
        · cases h
      · cases h
    · cases h
end
def wkP:PV→PV→List Prop
  | .int k n,.int k' n'=>if ikEq k k' then [n=n'] else [False]
  | .bool b,.bool b'=>[b=b']
  | .str s,.str s'=>[s=s']
  | .nil,.nil=>[]
  | .nil,.seq _ _ n' _=>[n'=0]
  | .seq t z n f,.seq t' z' n' f'=>if t==t'&&z==z' then [n=n',∀ i,i<n→f i=f' i] else [False]
  | .fn f,.fn f'=>[f=f']
  | _,.any=>[]
  | _,_=>[False]
def idE (x y:Id):Option (List Prop):=if x.o==y.o then (match x.m,y.m with
  | none,none=>some []
  | some i,some j=>some [i=j]
  | _,_=>none) else none
theorem idE_ok {x y:Id} {ps:List Prop} (h:idE x y=some ps) (hp:All ps):x=y:=by
  unfold idE at h
  split at h
  · rename_i e
    have e:x.o=y.o:=by simpa using e
    obtain ⟨xo,xm⟩:=x
    obtain ⟨yo,ym⟩:=y
    simp only at e h
    subst e
    cases xm with
    | none=>cases ym with
      | none=>rfl
      | some j=>simp at h
    | some i=>cases ym with
      | none=>simp at h
      | some j =>
        simp only [Option.some.injEq] at h
        subst h
        obtain ⟨rfl,_⟩:=hp
        rfl
  · cases h
mutual
def wk:AV→AV→List Prop
  | .p v,.p v'=>wkP v v'
  | .p v,.ar _ _ _ n'=>match v with
    | .nil=>[n'=0]
    | _=>[False]
  | .ar z o off n,.ar z' o' off' n'=>if z==z' then (match idE o o' with
    | some ps=>ps++[off=off',n=n']
    | none=>[False]) else [False]
  | .pt z o row off,.pt z' o' row' off'=>if z==z'&&off==off' then (match idE o o' with
    | some ps=>ps++[row=row']
    | none=>[False]) else [False]
  | .ip t cs,.ip t' cs'=>[t=t',cs=cs']
  | .mp o,.mp o'=>if o==o' then [] else [False]
  | .agg cs,.agg cs'=>wkL cs cs'
  | .tup cs,.tup cs'=>wkL cs cs'
  | .clo f cs,.clo f' cs'=>if f==f' then wkL cs cs' else [False]
  | .cnd g v,.cnd g' v'=>[g=g',AV.cnd g v=.cnd g v']
  | _,.p .any=>[]
  | _,_=>[False]
def wkL:List AV→List AV→List Prop
  | [],[]=>[]
  | v::l,v'::l'=>wk v v'++wkL l l'
  | _,_=>[False]
end
theorem wkL_length:∀ (l l':List AV),All (wkL l l')→l.length=l'.length
  | [],[],_=>rfl
  | v::l,v'::l',h=>by simp only [wkL] at h;simp [wkL_length l l' (All_app h).2]
  | [],_::_,h=>by simp [wkL,All] at h
  | _::_,[],h=>by simp [wkL,All] at h
theorem wkL_getD:∀ (l l':List AV) (j:Nat),All (wkL l l')→j<l.length→All (wk (l.getD j anyA) (l'.getD j anyA))
  | [],_,j,_,hj=>by simp at hj
  | v::l,v'::l',0,h,_=>by simp only [wkL] at h;simpa using (All_app h).1
  | v::l,v'::l',j+1,h,hj=>by simp only [wkL] at h;simpa using wkL_getD l l' j (All_app h).2 (by simpa using hj)
  | _::_,[],_,h,_=>by simp [wkL,All] at h
theorem seq_ext {w:World} {own:Bool→Nat→Prop} {t:Bool} {z n:Nat} {f f':Nat→List PV} {x:Value} (h:PR w own (.seq t z n f) x) (hf:∀ i,i<n→f i=f' i):PR w own (.seq t z n f') x:=by
  cases h with
  | seq0 _ _ _ a c=>exact .seq0 _ _ _ _ _
  | seq _ _ _ _ b off c g hb hlt hc hcell hone hp=>exact .seq _ _ _ _ b off c g hb hlt hc hcell hone (fun i hi j hj=>by rw [← hf i hi];exact hp i hi j hj)
theorem wkP_ok {w:World} {own:Bool→Nat→Prop} {v v':PV} {x:Value} (h:PR w own v x) (ho:All (wkP v v')):PR w own v' x:=by
  unfold wkP at ho
  split at ho
  · split at ho
    · rename_i hk
      obtain rfl:=ikEq_eq hk
      obtain ⟨rfl,_⟩:=ho;exact h
    · exact ho.1.elim
  · obtain ⟨rfl,_⟩:=ho;exact h
  · obtain ⟨rfl,_⟩:=ho;exact h
  · exact h
  · obtain ⟨rfl,_⟩:=ho;cases h;exact .seq0 _ _ _ _ _
  · split at ho
    · rename_i hz
      simp only [Bool.and_eq_true,beq_iff_eq] at hz
      obtain ⟨rfl,rfl⟩:=hz
      obtain ⟨rfl,hf,_⟩:=ho;exact seq_ext h hf
    · exact ho.1.elim
  · obtain ⟨rfl,_⟩:=ho;exact h
  · exact .any _
  · exact ho.1.elim
theorem wk_ok {w:World} {β:Id→Option Addr} {own:Bool→Nat→Prop} {v:AV} {x:Value} (h:VR w β own v x):∀ v':AV,All (wk v v')→VR w β own v' x:=by
  induction h with
  | p u x hp =>
    intro v' ho
    cases v'<;>simp only [wk] at ho<;>try (exact ho.1.elim)
    · exact .p _ _ (wkP_ok hp ho)
    · split at ho
      · obtain ⟨rfl,_⟩:=ho
        cases hp
        exact .ar0 _ _ _ _
      · exact ho.1.elim
  | ar0 z o off a =>
    intro v' ho
    cases v' with
    | ar z' o' off' n' =>
      simp only [wk] at ho
      split at ho
      · rename_i hz
        have hz:z=z':=by simpa using hz
        subst hz
        split at ho
        · rename_i ps hid
          obtain ⟨hp,rfl,rfl,_⟩:=All_app ho
          obtain rfl:=idE_ok hid hp
          exact .ar0 _ _ _ _
        · exact ho.1.elim
      · exact ho.1.elim
    | p u=>cases u<;>simp only [wk] at ho<;>first | exact .any _ | exact ho.1.elim
    | _=>simp only [wk] at ho;exact ho.1.elim
  | ar z o off n b base c cells elem fr hβ hh hsz hc =>
    intro v' ho
    cases v' with
    | ar z' o' off' n' =>
      simp only [wk] at ho
      split at ho
      · rename_i hz
        have hz:z=z':=by simpa using hz
        subst hz
        split at ho
        · rename_i ps hid
          obtain ⟨hp,rfl,rfl,_⟩:=All_app ho
          obtain rfl:=idE_ok hid hp
          exact .ar _ _ _ _ b base c cells elem fr hβ hh hsz hc
        · exact ho.1.elim
      · exact ho.1.elim
    | p u=>cases u<;>simp only [wk] at ho<;>first | exact .any _ | exact ho.1.elim
    | _=>simp only [wk] at ho;exact ho.1.elim
  | pt z o row off b base hβ =>
    intro v' ho
    cases v' with
    | pt z' o' row' off' =>
      simp only [wk] at ho
      split at ho
      · rename_i hz
        simp only [Bool.and_eq_true,beq_iff_eq] at hz
        obtain ⟨rfl,rfl⟩:=hz
        split at ho
        · rename_i ps hid
          obtain ⟨hp,rfl,_⟩:=All_app ho
          obtain rfl:=idE_ok hid hp
          exact .pt _ _ _ _ b base hβ
        · exact ho.1.elim
      · exact ho.1.elim
    | p u=>cases u<;>simp only [wk] at ho<;>first | exact .any _ | exact ho.1.elim
    | _=>simp only [wk] at ho;exact ho.1.elim
  | ip t cs b off g hb hlt hcell hone hp =>
    intro v' ho
    cases v' with
    | ip t' cs' =>
      simp only [wk] at ho
      obtain ⟨rfl,rfl,_⟩:=ho
      exact .ip t cs b off g hb hlt hcell hone hp
    | p u=>cases u<;>simp only [wk] at ho<;>first | exact .any _ | exact ho.1.elim
    | _=>simp only [wk] at ho;exact ho.1.elim
  | mp o b hβ hm =>
    intro v' ho
    cases v' with
    | mp o' =>
      simp only [wk] at ho
      split at ho
      · rename_i hz
        have hz:o=o':=by simpa using hz
        subst hz
        exact .mp _ b hβ hm
      · exact ho.1.elim
    | p u=>cases u<;>simp only [wk] at ho<;>first | exact .any _ | exact ho.1.elim
    | _=>simp only [wk] at ho;exact ho.1.elim
  | agg cs vs hl hone h ih =>
    intro v' ho
    cases v' with
    | agg cs' =>
      simp only [wk] at ho
      have hlen:=wkL_length _ _ ho
      exact .agg _ _ (by omega) (fun j hj=>hone j (by omega)) (fun j hj=>ih j (by omega) _ (wkL_getD _ _ j ho (by omega)))
    | p u=>cases u<;>simp only [wk] at ho<;>first | exact .any _ | exact ho.1.elim
    | _=>simp only [wk] at ho;exact ho.1.elim
  | tup cs vs hl h ih =>
    intro v' ho
    cases v' with
    | tup cs' =>
      simp only [wk] at ho
      have hlen:=wkL_length _ _ ho
      exact .tup _ _ (by omega) (fun j hj=>ih j (by omega) _ (wkL_getD _ _ j ho (by omega)))
    | p u=>cases u<;>simp only [wk] at ho<;>first | exact .any _ | exact ho.1.elim
    | _=>simp only [wk] at ho;exact ho.1.elim
  | clo f cs vs hl h ih =>
    intro v' ho
    cases v' with
    | clo f' cs' =>
      simp only [wk] at ho
      split at ho
      · rename_i hz
        have hz:f=f':=by simpa using hz
        subst hz
        have hlen:=wkL_length _ _ ho
        exact .clo _ _ _ (by omega) (fun j hj=>ih j (by omega) _ (wkL_getD _ _ j ho (by omega)))
      · exact ho.1.elim
    | p u=>cases u<;>simp only [wk] at ho<;>first | exact .any _ | exact ho.1.elim
    | _=>simp only [wk] at ho;exact ho.1.elim
  | cnd g v x h h' ih =>
    intro v' ho
    cases v' with
    | cnd g' v' =>
      simp only [wk] at ho
      obtain ⟨rfl,he,_⟩:=ho
      rw [← he]
      exact .cnd g v x h h'
    | p u=>cases u<;>simp only [wk] at ho<;>first | exact .any _ | exact ho.1.elim
    | _=>simp only [wk] at ho;exact ho.1.elim
def cvS (H:Hp) (keep:List K) (d:Nat):List AV→List AV→List Prop
  | _,[]=>[]
  | [],_::_=>[False]
  | s::l,t::l' =>
    (match t with
     | .p .any=>[]
     | _=>(cvt false H keep d s).2++wk (cvt false H keep d s).1 t)++cvS H keep d l l'
def famE:List AV→List AV→List Prop
  | [.p (.seq _ z n g)],[.p (.seq _ z' n' g')]=>[z=z',n'≤n,∀ r,r<n'→g r=g' r]
  | _,[]=>[]
  | _,_=>[False]
def cvO (H:Hp) (keep:List K) (d:Nat) (ob ob':Ob):List Prop :=
  (match ob'.z with
   | 0=>[ob'.n=ob.n,ob.bx=false,ob'.bx=false]
   | _+1=>[]) ++
  (match ob'.bx with
   | true=>[ob.z=ob'.z,ob'.n≤ob.n,ob'.n≤1]++((cvtL false H keep d (ob.f 0)).2++wkL (cvtL false H keep d (ob.f 0)).1 (ob'.f 0))
   | false=>[ob.z=ob'.z,ob'.n≤ob.n,∀ i,i<ob'.n→All ((cvtL false H keep d (ob.f i)).2)∧(cvtL false H keep d (ob.f i)).1=ob'.f i])
def memE (ob:Ob):List AV→List Prop
  | [.p (.seq _ z n g)]=>[ob.z=z,n≤ob.n,∀ r,r<n→tab z (fun j=>toP ((ob.f r).getD j anyA))=tab z (fun j=>(g r).getD j .any)]
  | []=>[]
  | _=>[False]
def cvF (fam ob':Ob):List Prop:=match ob'.isF,fam.isF with
  | true,true=>[ob'.n≤fam.n,∀ i,i<ob'.n→All (famE (fam.f i) (ob'.f i))]
  | _,_=>[False]
def cvI (fam oa ob':Ob) (k:Nat):List Prop:=match ob'.isF,fam.isF,oa.isF,oa.z with
  | true,true,false,_+1=>[∀ i,i<ob'.n→i≠k→i<fam.n∧All (famE (fam.f i) (ob'.f i)),k<ob'.n→All (memE oa (ob'.f k))]
  | _,_,_,_=>[False]
def cvR (fam ob':Ob) (σ τ:Nat→Nat):List Prop:=match ob'.isF,fam.isF with
  | true,true=>[∀ i,i<ob'.n→σ i<fam.n∧τ (σ i)=i∧All (famE (fam.f (σ i)) (ob'.f i))]
  | _,_=>[False]
def cvK (H:Hp) (keep:List K) (d:Nat) (ob':Ob):K→List Prop
  | .pl p=>(match raw H p with
     | some (ob,ps)=>ps++(match ob'.isF with
       | true=>cvF ob ob'
       | false=>(match ob.isF with
         | true=>[False]
         | false=>cvO H keep d ob ob'))
     | none=>[False])
  | .ins G k a=>(match H.lookup G,H.lookup a with
     | some fam,some oa=>cvI fam oa ob' k
     | _,_=>[False])
  | .perm G σ τ=>(match H.lookup G with
     | some fam=>cvR fam ob' σ τ
     | none=>[False])
def cvH (H:Hp) (keep:List K) (d:Nat):Hp→List Prop
  | []=>[]
  | (k,ob')::r =>
    (match keep[k]? with
     | some p=>cvK H keep d ob' p
     | none=>[ob'.n=0])++cvH H keep d r
def keepB (n m:Nat) (keep:List K) (H':Hp):Bool:=(List.range n).all fun k=>match keep[k]? with
  | some (.pl p)=>(p.o==k&&p.m.isNone)||((H'.lookup k).isNone&&Nat.ble m p.o)
  | _=>false
def convOb (n:Nat) (st:St) (keep:List K) (d:Nat) (st':St):List Prop :=
  (if keepB n st.ctr keep st'.H&&nodupB ((keep.map K.nums).flatten)&&Nat.ble keep.length st'.ctr&&Nat.ble n st'.ctr&&st'.H.all (fun e=>Nat.blt e.1 st'.ctr) then [] else [False])++cvS st.H keep d st.env st'.env++cvH st.H keep d st'.H
theorem cvS_ok {H:Hp} {keep:List K} {d:Nat}:∀ (l l':List AV),All (cvS H keep d l l')→l'.length≤l.length∧∀ j,l'.getD j anyA=anyA∨(All (cvt false H keep d (l.getD j anyA)).2∧All (wk (cvt false H keep d (l.getD j anyA)).1 (l'.getD j anyA)))
  | l,[],_=>⟨by simp,fun j=>.inl (by simp)⟩
  | [],t::l',h=>by simp [cvS,All] at h
  | s::l,t::l',h=>by
    simp only [cvS] at h
    obtain ⟨h1,h2⟩:=All_app h
    obtain ⟨g1,g2⟩:=cvS_ok l l' h2
    refine ⟨by simpa using g1,fun j=>?_⟩
    cases j with
    | zero =>
      simp only [List.getD_cons_zero]
      split at h1
      · exact .inl rfl
      · exact .inr (All_app h1)
    | succ j=>simpa using g2 j
theorem memOb_cell {r:List AV} {ob:Ob} (h:memOb r=some ob) (i:Nat) {j:Nat} (hj:j<ob.z):∃ v,(ob.f i).getD j anyA=.p v:=by
  unfold memOb at h
  split at h
  case h_2=>cases h
  rename_i t z n g
  cases h
  exact ⟨(g i).getD j .any,tab_getD _ _ _ _ hj⟩
theorem cvH_at {H:Hp} {keep:List K} {d:Nat}:∀ (H':Hp),All (cvH H keep d H')→∀ k ob',H'.lookup k=some ob'→All (cvH H keep d [(k,ob')])
  | [],_,k,ob',h=>by simp at h
  | (j,x)::r,ha,k,ob',h=>by
    simp only [cvH] at ha
    obtain ⟨h1,h2⟩:=All_app ha
    simp only [List.lookup_cons] at h
    by_cases hk:k=j
    · subst hk
      simp only [beq_self_eq_true,Option.some.injEq] at h
      subst h
      simp only [cvH]
      rw [All_iff] at h1 ⊢
      intro p hp
      exact h1 p (by simpa using hp)
    · have:(k==j)=false:=by simpa using hk
      rw [this] at h
      exact cvH_at r h2 k ob' h
theorem famE_ok {r r':List AV} {ob':Ob} (h:memOb r'=some ob') (ha:All (famE r r')) :
    ∃ ob,memOb r=some ob∧ob.z=ob'.z∧ob'.n≤ob.n∧ob.bx=false∧ob'.bx=false∧∀ i,i<ob'.n→∀ j,j<ob'.z→(ob.f i).getD j anyA=(ob'.f i).getD j anyA:=by
  unfold memOb at h
  split at h
  case h_2=>cases h
  rename_i t' z' n' g'
  cases h
  match r,ha with
  | [.p (.seq t z n g)],ha =>
    obtain ⟨e1,e2,e3,_⟩:=ha
    subst e1
    refine ⟨_,rfl,rfl,e2,rfl,rfl,fun i hi j hj=>?_⟩
    simp only
    rw [tab_getD _ _ _ _ hj,tab_getD _ _ _ _ hj,e3 i hi]
  | [],ha=>simp [famE,All] at ha
  | _::_::_,ha=>simp [famE,All] at ha
  | [.ar _ _ _ _],ha=>simp [famE,All] at ha
  | [.pt _ _ _ _],ha=>simp [famE,All] at ha
  | [.ip _ _],ha=>simp [famE,All] at ha
  | [.mp _],ha=>simp [famE,All] at ha
  | [.agg _],ha=>simp [famE,All] at ha
  | [.tup _],ha=>simp [famE,All] at ha
  | [.clo _ _],ha=>simp [famE,All] at ha
  | [.cnd _ _],ha=>simp [famE,All] at ha
  | [.p .any],ha=>simp [famE,All] at ha
  | [.p (.int _ _)],ha=>simp [famE,All] at ha
  | [.p (.bool _)],ha=>simp [famE,All] at ha
  | [.p (.str _)],ha=>simp [famE,All] at ha
  | [.p .nil],ha=>simp [famE,All] at ha
  | [.p (.fn _)],ha=>simp [famE,All] at ha
theorem raw_live {L H:Hp} (hL:∀ o ob,L.lookup o=some ob→H.lookup o=some ob) {p:Id} {ob:Ob} {ps:List Prop} (h:raw L p=some (ob,ps)) (hps:All ps) (hF:ob.isF=false):sel p none=some p∧lk H p=some ob:=by
  unfold raw at h
  cases hpm:p.m with
  | none =>
    rw [hpm] at h
    simp only at h
    split at h
    case h_2=>cases h
    rename_i ob1 hlo
    simp only [Option.some.injEq,Prod.mk.injEq] at h
    obtain ⟨rfl,_⟩:=h
    obtain ⟨po,pm⟩:=p
    simp only at hpm hlo
    subst hpm
    exact ⟨rfl,lk_plain (hL _ _ hlo) hF⟩
  | some i =>
    rw [hpm] at h
    simp only at h
    refine ⟨?_,lkk_ok hL h ((All_iff _).1 hps)⟩
    obtain ⟨po,pm⟩:=p
    simp only at hpm
    subst hpm
    rfl
theorem raw_fam {L H:Hp} (hL:∀ o ob,L.lookup o=some ob→H.lookup o=some ob) {p:Id} {ob:Ob} {ps:List Prop} (h:raw L p=some (ob,ps)) (hps:All ps) (hF:ob.isF=true):p.m=none∧H.lookup p.o=some ob:=by
  unfold raw at h
  cases hpm:p.m with
  | none =>
    rw [hpm] at h
    simp only at h
    split at h
    case h_2=>cases h
    rename_i ob1 hlo
    simp only [Option.some.injEq,Prod.mk.injEq] at h
    obtain ⟨rfl,_⟩:=h
    exact ⟨rfl,hL _ _ hlo⟩
  | some i =>
    rw [hpm] at h
    simp only at h
    have:=lk_nF (lkk_ok hL h ((All_iff _).1 hps))
    rw [hF] at this
    cases this
theorem memE_ok {oa:Ob} {r':List AV} {ob':Ob} (h:memOb r'=some ob') (ha:All (memE oa r')) :
    oa.z=ob'.z∧ob'.n≤oa.n∧ob'.bx=false∧∀ i,i<ob'.n→∀ j,j<ob'.z→(ob'.f i).getD j anyA=.p (toP ((oa.f i).getD j anyA)):=by
  unfold memOb at h
  split at h
  case h_2=>cases h
  rename_i t' z' n' g'
  cases h
  obtain ⟨e1,e2,e3,_⟩:=ha
  refine ⟨e1,e2,rfl,fun i hi j hj=>?_⟩
  simp only
  have e4:(tab z' (fun j=>toP ((oa.f i).getD j anyA))).getD j .any=(tab z' (fun j=>(g' i).getD j .any)).getD j .any:=by rw [e3 i hi]
  rw [tab_getD _ _ _ _ hj,tab_getD _ _ _ _ hj] at e4
  rw [tab_getD _ _ _ _ hj,e4]
theorem selK_nums {p:K} {m:Option Nat} {y:Id} (h:selK p m=some y):y.o∈p.nums:=by
  cases p with
  | pl p=>simp [K.nums,sel_o h]
  | ins G k a =>
    simp only [selK] at h
    split at h
    · split at h
      · cases h;simp [K.nums]
      · cases h;simp [K.nums]
    · cases h
  | perm G σ τ =>
    simp only [selK] at h
    split at h
    · cases h;simp [K.nums]
    · cases h
theorem keep_same:∀ {keep:List K} {q q':Nat} {p p':K} {n:Nat},((keep.map K.nums).flatten).Nodup→keep[q]? = some p→keep[q']? = some p'→n∈p.nums→n∈p'.nums→q=q'
  | [],q,q',p,p',n,_,h1,_,_,_=>by simp at h1
  | x::l,q,q',p,p',n,hnd,h1,h2,h3,h4=>by
    simp only [List.map_cons,List.flatten_cons] at hnd
    obtain ⟨_,hl,hd⟩:=List.nodup_append.1 hnd
    have mem:∀ {q:Nat} {p:K},l[q]? = some p→n∈p.nums→n∈(l.map K.nums).flatten:=fun h hn=>List.mem_flatten.2 ⟨_,List.mem_map_of_mem (List.mem_of_getElem? h),hn⟩
    cases q with
    | zero =>
      simp only [List.getElem?_cons_zero,Option.some.injEq] at h1
      subst h1
      cases q' with
      | zero=>rfl
      | succ q'=>exact absurd rfl (hd n h3 n (mem (by simpa using h2) h4))
    | succ q =>
      cases q' with
      | zero =>
        simp only [List.getElem?_cons_zero,Option.some.injEq] at h2
        subst h2
        exact absurd rfl (hd n h4 n (mem (by simpa using h1) h3))
      | succ q'=>exact congrArg (· + 1) (keep_same (p:=p) (p':=p') hl (by simpa using h1) (by simpa using h2) h3 h4)
theorem cvH_ok {H:Hp} {keep:List K} {d:Nat} (H':Hp) (ha:All (cvH H keep d H')) (x:Id) (ob':Ob) (hx:lk H' x=some ob'):(keep[x.o]? = none∧ob'.n=0)∨∃ p y ob,keep[x.o]? = some p∧selK p x.m=some y∧lk H y=some ob∧ob.z=ob'.z∧ob'.n≤ob.n ∧
    (∀ m' obm,lk H' ⟨x.o,m'⟩=some obm→selK p m'=some y→m'=x.m) ∧
    ((x.m=none∧(∀ i,i<ob'.n→All ((cvtL false H keep d (ob.f i)).2)∧∀ j,(cvtL false H keep d (ob.f i)).1.getD j anyA=(ob'.f i).getD j anyA∨All (wk ((cvtL false H keep d (ob.f i)).1.getD j anyA) ((ob'.f i).getD j anyA))) ∧
      (ob'.z=0→ob'.n=ob.n∧ob'.bx=false∧∀ i,i<ob'.n→(cvtL false H keep d (ob.f i)).1=ob'.f i)) ∨
     (x.m≠none∧(y.m≠none∨ob.z≠0)∧∀ i,i<ob'.n→∀ j,j<ob'.z→(ob'.f i).getD j anyA=.p (toP ((ob.f i).getD j anyA)))):=by
  unfold lk at hx
  split at hx
  case h_2=>cases hx
  rename_i obe hobe
  have h1:=cvH_at H' ha x.o obe hobe
  simp only [cvH] at h1
  obtain ⟨h1,_⟩:=All_app h1
  have live:∀ m' obm,lk H' ⟨x.o,m'⟩=some obm→obe.isF=true→∃ i,m'=some i∧i<obe.n:=by
    intro m' obm h hF
    unfold lk at h
    rw [hobe] at h
    cases m' with
    | none=>simp [vw,hF] at h
    | some i =>
      simp only [vw,hF,true_and] at h
      split at h
      · rename_i hi;exact ⟨i,rfl,hi⟩
      · cases h
  have memb:obe.isF=true→∃ i,x.m=some i∧i<obe.n∧memOb (obe.f i)=some ob':=by
    intro hF
    cases hxm:x.m with
    | none=>rw [hxm] at hx;simp [vw,hF] at hx
    | some i =>
      rw [hxm] at hx
      simp only [vw,hF,true_and] at hx
      split at hx
      · rename_i hi;exact ⟨i,rfl,hi,hx⟩
      · cases hx
  split at h1
  · rename_i p hkk
    cases p with
    | pl p =>
      simp only [cvK] at h1
      split at h1
      · rename_i ob ps hraw
        obtain ⟨hps,h1⟩:=All_app h1
        split at h1
        ·
          rename_i hF'
          unfold cvF at h1
          rw [hF'] at h1
          cases hF:ob.isF with
          | false=>rw [hF] at h1;exact h1.1.elim
          | true =>
            rw [hF] at h1
            obtain ⟨g1,g2,_⟩:=h1
            obtain ⟨r1,r2⟩:=raw_fam (fun _ _ h=>h) hraw hps hF
            obtain ⟨i,hxm,hi,hx⟩:=memb hF'
            obtain ⟨ob0,e1,e2,e3,e4,e5,e6⟩:=famE_ok hx (g2 i hi)
            have hi2:i<ob.n:=by omega
            rw [hxm]
            refine .inr ⟨.pl p,⟨p.o,some i⟩,ob0,hkk,by simp [selK,sel,r1],by simp [lk,r2,vw,hF,hi2,e1],e2,e3,fun m' obm _ hs=>?_,.inr ⟨by simp,.inl (by simp),fun q hq j hj=>?_⟩⟩
            · simpa [selK,sel,r1] using hs
            · obtain ⟨v,hv⟩:=memOb_cell hx q hj
              rw [e6 q hq j hj,hv]
              rfl
        · rename_i hF'
          split at h1
          · exact h1.1.elim
          rename_i hF
          obtain ⟨g1,g2⟩:=vw_plain hF' hx
          subst g2
          obtain ⟨r1,r2⟩:=raw_live (fun _ _ h=>h) hraw hps hF
          unfold cvO at h1
          obtain ⟨h0,h1⟩:=All_app h1
          have hz:ob'.z=0→ob'.n=ob.n∧ob'.bx=false:=by
            intro hz
            rw [hz] at h0
            exact ⟨h0.1,h0.2.2.1⟩
          have inj:∀ m' obm,lk H' ⟨x.o,m'⟩=some obm→selK (.pl p) m'=some p→m'=x.m:=by
            intro m' obm _ hs
            rw [g1]
            exact sel_inj hs r1
          split at h1
          · rename_i hbx
            obtain ⟨⟨g1',g2,g3,_⟩,g5⟩:=All_app h1
            obtain ⟨g6,g7⟩:=All_app g5
            refine .inr ⟨.pl p,p,ob,hkk,by rw [g1];exact r1,r2,g1',g2,inj,.inl ⟨g1,fun i hi=>?_,fun h=>by have:=(hz h).2;rw [hbx] at this;cases this⟩⟩
            obtain rfl:i=0:=by omega
            refine ⟨g6,fun j=>?_⟩
            by_cases hj:j<(cvtL false H keep d (ob.f 0)).1.length
            · exact .inr (wkL_getD _ _ j g7 hj)
            · have hl:=wkL_length _ _ g7
              left
              rw [List.getD_eq_getElem?_getD,List.getD_eq_getElem?_getD,List.getElem?_eq_none (by omega),List.getElem?_eq_none (by omega)]
          · obtain ⟨g1',g2,g3,_⟩:=h1
            exact .inr ⟨.pl p,p,ob,hkk,by rw [g1];exact r1,r2,g1',g2,inj,.inl ⟨g1,fun i hi=>⟨(g3 i hi).1,fun j=>.inl (by rw [(g3 i hi).2])⟩,fun h=>⟨(hz h).1,(hz h).2,fun i hi=>(g3 i hi).2⟩⟩⟩
      · exact h1.1.elim
    | ins G k a =>
      simp only [cvK] at h1
      split at h1
      case h_2=>exact h1.1.elim
      rename_i fam oa hG hA
      unfold cvI at h1
      split at h1
      case h_2=>exact h1.1.elim
      rename_i z0 hF' hFf hFa hz0
      obtain ⟨g1,g2,_⟩:=h1
      obtain ⟨i,hxm,hi,hx⟩:=memb hF'
      rw [hxm]
      have inj:∀ (y:Id) m' obm,lk H' ⟨x.o,m'⟩=some obm→selK (.ins G k a) m'=some y→selK (.ins G k a) (some i)=some y→m'=some i:=by
        intro y m' obm h hs hs'
        obtain ⟨i',rfl,_⟩:=live m' obm h hF'
        simp only [selK] at hs hs'
        rw [← hs] at hs'
        by_cases h1:i=k<;>by_cases h2:i'=k<;>simp [h1,h2] at hs'
        · rw [h1,h2]
        · rw [hs']
      by_cases hik:i=k
      · subst hik
        obtain ⟨e1,e2,e3,e4⟩:=memE_ok hx (g2 hi)
        exact .inr ⟨.ins G i a,⟨a,none⟩,oa,hkk,by simp [selK],lk_plain hA hFa,e1,e2,fun m' obm h hs=>inj _ m' obm h hs (by simp [selK]),.inr ⟨by simp,.inr (by omega),e4⟩⟩
      · obtain ⟨q1,q2⟩:=g1 i hi hik
        obtain ⟨ob0,e1,e2,e3,e4,e5,e6⟩:=famE_ok hx q2
        refine .inr ⟨.ins G k a,⟨G,some i⟩,ob0,hkk,by simp [selK,hik],by simp [lk,hG,vw,hFf,q1,e1],e2,e3,fun m' obm h hs=>inj _ m' obm h hs (by simp [selK,hik]),.inr ⟨by simp,.inl (by simp),fun q hq j hj=>?_⟩⟩
        obtain ⟨v,hv⟩:=memOb_cell hx q hj
        rw [e6 q hq j hj,hv]
        rfl
    | perm G σ τ =>
      simp only [cvK] at h1
      split at h1
      case h_2=>exact h1.1.elim
      rename_i fam hG
      unfold cvR at h1
      split at h1
      case h_2=>exact h1.1.elim
      rename_i hF' hFf
      obtain ⟨g1,_⟩:=h1
      obtain ⟨i,hxm,hi,hx⟩:=memb hF'
      obtain ⟨q1,q2,q3⟩:=g1 i hi
      rw [hxm]
      obtain ⟨ob0,e1,e2,e3,e4,e5,e6⟩:=famE_ok hx q3
      refine .inr ⟨.perm G σ τ,⟨G,some (σ i)⟩,ob0,hkk,by simp [selK],by simp [lk,hG,vw,hFf,q1,e1],e2,e3,fun m' obm h hs=>?_,.inr ⟨by simp,.inl (by simp),fun q hq j hj=>?_⟩⟩
      · obtain ⟨i',rfl,hi'⟩:=live m' obm h hF'
        simp only [selK,Option.some.injEq,Id.mk.injEq,true_and] at hs
        have:=(g1 i' hi').2.1
        rw [hs,q2] at this
        rw [this]
      · obtain ⟨v,hv⟩:=memOb_cell hx q hj
        rw [e6 q hq j hj,hv]
        rfl
  · rename_i hkk
    have hn:obe.n=0:=h1.1
    refine .inl ⟨hkk,?_⟩
    cases hxm:x.m with
    | none =>
      rw [hxm] at hx
      simp only [vw] at hx
      split at hx
      · cases hx
      · cases hx;exact hn
    | some i =>
      rw [hxm] at hx
      simp only [vw] at hx
      split at hx
      · rename_i h;omega
      · cases hx
section
variable {P:Program} {c:Cx} {f:FuncId} {R:Ending→World→Prop}
theorem Rel.conv0 {dom:Nat→Prop} {env env':List AV} {H H':Hp} {a:Act} {w:World} {β:Id→Option Addr} {keep:List K} {d:Nat} (h:Rel c dom env H a w β)
    (hnd:((keep.map K.nums).flatten).Nodup) (hS:All (cvS H keep d env env')) (hH:All (cvH H keep d H')) :
    Rel { c with n:=0 } (fun k=>k<keep.length∨H'.lookup k≠none) env' H' a w (subβ β keep) ∧
      ∀ (x:AV) (v:Value) (x':AV),VR w β (ow c.X β H) x v→All (cvt false H keep d x).2→All (wk (cvt false H keep d x).1 x')→VR w (subβ β keep) (ow c.X (subβ β keep) H') x' v:=by
  have hh:=cvH_ok H' hH
  have cls:∀ b,ownOf (subβ β keep) H' b→∃ (k:Id) (p:K) (y:Id) (ob:Ob) (a:Addr),keep[k.o]? = some p∧selK p k.m=some y∧lk H y=some ob∧β y=some a∧a.block=b:=by
    rintro b ⟨k,ob',a,h1,h2,h3⟩
    rcases hh k ob' h1 with ⟨q1,_⟩ | ⟨p,y,ob,g1,g2,g3,_⟩
    · simp [subβ,q1] at h2
    exact ⟨k,p,y,ob,a,g1,g2,g3,(subβ_at (β:=β) g1 g2).symm.trans h2,h3⟩
  have own_own:∀ b,ownOf (subβ β keep) H' b→ownOf β H b:=by
    intro b hb
    obtain ⟨k,p,y,ob,a,g1,g2,g3,g4,g5⟩:=cls b hb
    exact ⟨y,ob,a,g3,g4,g5⟩
  have hc:∀ t b,ow c.X (subβ β keep) H' t b→ow c.X β H t b:=fun t b h=>h.imp (own_own b) id
  have hc':∀ t b,ow c.X (subβ β keep) H' true b→ow c.X β H t b:=by
    rintro t b (h | ⟨h,_⟩)
    · exact .inl (own_own b h)
    · cases h
  have hfree:∀ o ob a,lk H o=some ob→idx o keep 0=none→β o=some a→¬ ow c.X (subβ β keep) H' false a.block:=by
    rintro o ob a h1 h2 h3 (h' | ⟨_,h'⟩)
    · obtain ⟨k,p,y,ob',a',g1,g2,g3,g4,g5⟩:=cls _ h'
      have:y=o:=h.sep y o ob' ob a' a g3 h1 g4 h3 g5
      subst this
      exact idx_none keep 0 h2 p (List.mem_of_getElem? g1) k.m g2
    · exact (h.xs _ h').2 ⟨o,ob,a,h1,h3,rfl⟩
  have cv:=fun (x:AV) (v:Value) (hv:VR w β (ow c.X β H) x v) (hb:All (cvt false H keep d x).2)=>cvt_ok (t:=false) (L:=H) (pass:=keep) h.hr (fun _ _ h=>h) hc hc' hfree d x v hv hb
  have ext:Ext w (ow c.X β H) w (ow c.X (subβ β keep) H'):=Ext.sub hc
  obtain ⟨hl,hs⟩:=cvS_ok env env' hS
  refine ⟨⟨?_,?_,fun t=>?_,Nat.le_trans hl h.len,h.dfr,fun k hk'=>?_,h.ext.trans ext,fun b hb=>⟨(h.xs b hb).1,fun ho=>(h.xs b hb).2 (own_own b ho)⟩,fun b hb=>h.own b (own_own b hb),fun k hk'=>?_⟩,?_⟩
  · intro k ob' hk'
    rcases hh k ob' hk' with ⟨q1,q2⟩ | ⟨p,y,ob,g1,gs,g2,g3,g4,_,g56⟩
    · exact .inl ⟨by simp [subβ,q1],q2⟩
    have hβ:subβ β keep k=β y:=subβ_at g1 gs
    rcases h.hr y ob g2 with h' | ⟨b,base,cells,elem,h1,h2,h3⟩ | ⟨m0,m1,m2,b,es,ck,m3,m4,m5,K,V,m6⟩
    · exact .inl ⟨by rw [hβ];exact h'.1,by omega⟩
    · refine .inr (.inl ⟨b,base,cells,elem,by rw [hβ];exact h1,h2,fun i hi j hj=>?_⟩)
      obtain ⟨v,k1,k2,k3⟩:=h3 i (by omega) j (by omega)
      rw [g3] at k1
      refine ⟨v,k1,k2,?_⟩
      rcases g56 with ⟨_,g5,_⟩ | ⟨_,_,g5⟩
      · obtain ⟨m1,m2⟩:=g5 i hi
        have hcv:=cv _ v k3 (cvtL_ob false H keep d _ j m1)
        rw [← cvtL_getD] at hcv
        rcases m2 j with m2 | m2
        · rw [← m2];exact hcv
        · exact wk_ok hcv _ m2
      · rw [g5 i hi j hj]
        have k4:=k3.toP
        cases k4;rename_i k4
        exact .p _ _ (k4.ext ext)
    · rcases g56 with ⟨hxm,_,g6⟩ | ⟨_,hym,_⟩
      · obtain ⟨n1,n2,n3⟩:=g6 (by omega)
        refine .inr (.inr ⟨hxm,by omega,n2,b,es,ck,by rw [hβ];exact m3,m4,by omega,K,V,fun i hi=>⟨?_,(m6 i (by omega)).2⟩⟩)
        rw [← n3 i hi,(m6 i (by omega)).1]
        simp [cvtL,cvt,tg]
      · rcases hym with hym | hym
        · exact absurd m0 hym
        · exact absurd m1 hym
  · intro k k' ob ob' a1 a2 h1 h2 h3 h4 h5
    rcases hh k ob h1 with ⟨q1,_⟩ | ⟨p,y,ob0,g1,g2,g3,_,_,ginj,_⟩
    · simp [subβ,q1] at h3
    rcases hh k' ob' h2 with ⟨q1,_⟩ | ⟨p',y',ob0',g1',g2',g3',_⟩
    · simp [subβ,q1] at h4
    have e1:β y=some a1:=(subβ_at (β:=β) g1 g2).symm.trans h3
    have e2:β y'=some a2:=(subβ_at (β:=β) g1' g2').symm.trans h4
    have e3:=h.sep y y' ob0 ob0' a1 a2 g3 g3' e1 e2 h5
    subst e3
    have e4:k.o=k'.o:=keep_same hnd g1 g1' (selK_nums g2) (selK_nums g2')
    obtain ⟨jo,jm⟩:=k
    obtain ⟨jo',jm'⟩:=k'
    simp only at e4
    subst e4
    simp only at g1 g1' g2' ginj
    rw [g1] at g1'
    cases g1'
    rw [ginj jm' ob' h2 g2']
  · rcases hs t with h' | ⟨h1,h2⟩
    · rw [h'];exact .any _
    · exact wk_ok (cv _ _ (h.ev t) h1) _ h2
  · rcases hk' with hk' | hk'
    · left
      by_cases hlt:k.o<keep.length
      · exact hlt
      · exfalso
        apply hk'
        simp [subβ,List.getElem?_eq_none (Nat.le_of_not_lt hlt)]
    · exact .inr hk'
  · exact absurd hk' (Nat.not_lt_zero _)
  · intro x v x' hv h1 h2
    exact wk_ok (cv x v hv h1) x' h2
def rebβ (c:Cx) (β:Id→Option Addr) (keep:List K) (k:Id):Option Addr:=if k.o<c.n then c.β0 k else subβ β keep k
theorem own_agree {β β':Id→Option Addr} {H:Hp} (h:∀ k:Id,H.lookup k.o≠none→β k=β' k) (b:Nat):ownOf β H b↔ownOf β' H b:=by
  constructor
  · rintro ⟨o,ob,a,h1,h2,h3⟩
    exact ⟨o,ob,a,h1,by rw [← h o (lk_ne h1)];exact h2,h3⟩
  · rintro ⟨o,ob,a,h1,h2,h3⟩
    exact ⟨o,ob,a,h1,by rw [h o (lk_ne h1)];exact h2,h3⟩
theorem Rel.conv {dom:Nat→Prop} {env env':List AV} {H H':Hp} {a:Act} {w:World} {β:Id→Option Addr} {keep:List K} {d m:Nat} (h:Rel c dom env H a w β) (hm:∀ k,m≤k→¬ dom k)
    (hk:keepB c.n m keep H'=true) (hnd:((keep.map K.nums).flatten).Nodup) (hS:All (cvS H keep d env env')) (hH:All (cvH H keep d H')) :
    Rel c (fun k=>k<keep.length∨H'.lookup k≠none) env' H' a w (rebβ c β keep) ∧
      ∀ (x:AV) (v:Value) (x':AV),VR w β (ow c.X β H) x v→All (cvt false H keep d x).2→All (wk (cvt false H keep d x).1 x')→VR w (rebβ c β keep) (ow c.X (rebβ c β keep) H') x' v:=by
  obtain ⟨r,rv⟩:=h.conv0 hnd hS hH
  have hkk:∀ k,k<c.n→keep[k]? = some (.pl ⟨k,none⟩)∨(H'.lookup k=none∧∃ q:Id,keep[k]? = some (.pl q)∧m≤q.o):=by
    intro k hk'
    simp only [keepB,List.all_eq_true,List.mem_range] at hk
    have h1:=hk k hk'
    split at h1
    · rename_i p hp
      simp only [Bool.or_eq_true,Bool.and_eq_true,beq_iff_eq,Option.isNone_iff_eq_none,Nat.ble_eq] at h1
      rcases h1 with ⟨h1,h2⟩ | ⟨h1,h2⟩
      · left
        obtain ⟨po,pm⟩:=p
        simp only at h1 h2
        rw [hp,h1,h2]
      · exact .inr ⟨h1,p,hp,h2⟩
    · cases h1
  have fresh:∀ (k q:Id) (a:Addr),keep[k.o]? = some (.pl q)→m≤q.o→subβ β keep k=some a→False:=by
    intro k q a h1 h2 hs
    obtain ⟨p,x,g1,g2,g3⟩:=subβ_inv hs
    rw [h1] at g1
    cases g1
    have hxo:=sel_o (p:=q) g2
    exact hm x.o (by omega) (h.dom x (.inl (by rw [g3];simp)))
  have same:∀ k:Id,keep[k.o]? = some (.pl ⟨k.o,none⟩)→subβ β keep k=β k:=by
    intro k hk'
    obtain ⟨ko,km⟩:=k
    exact subβ_at hk' rfl
  have sub:∀ k a,subβ β keep k=some a→rebβ c β keep k=some a:=by
    intro k a hs
    unfold rebβ
    by_cases hkn:k.o<c.n
    · rw [if_pos hkn]
      rcases hkk k.o hkn with h1 | ⟨_,q,h1,h2⟩
      · rw [← h.init k hkn,← same k h1]
        exact hs
      · exact (fresh k q a h1 h2 hs).elim
    · rw [if_neg hkn];exact hs
  have agree:∀ k:Id,H'.lookup k.o≠none→subβ β keep k=rebβ c β keep k:=by
    intro k hl
    unfold rebβ
    by_cases hkn:k.o<c.n
    · rw [if_pos hkn]
      rcases hkk k.o hkn with h1 | ⟨h1,_⟩
      · rw [← h.init k hkn]
        exact same k h1
      · exact absurd h1 hl
    · rw [if_neg hkn]
  have hown:∀ t b,ow c.X (rebβ c β keep) H' t b→ow c.X (subβ β keep) H' t b:=fun t b hb=>hb.imp (own_agree agree b).2 id
  have hown2:∀ t b,ow c.X (subβ β keep) H' t b→ow c.X (rebβ c β keep) H' t b:=fun t b hb=>hb.imp (own_agree agree b).1 id
  have tr:∀ (x:AV) (v:Value),VR w (subβ β keep) (ow c.X (subβ β keep) H') x v→VR w (rebβ c β keep) (ow c.X (rebβ c β keep) H') x v:=fun x v hv=>hv.ext (Ext.sub hown) (fun o a ho=>sub o a ho)
  refine ⟨⟨fun o ob hl=>?_,fun o o' ob ob' a a' h1 h2 h3 h4 h5=>?_,fun t=>tr _ _ (r.ev t),r.len,r.dfr,fun k hk'=>?_,?_,fun b hb=>⟨(r.xs b hb).1,fun ho=>(r.xs b hb).2 ((own_agree agree b).2 ho)⟩,fun b hb=>r.own b ((own_agree agree b).2 hb),fun k hk'=>?_⟩,fun x v x' hv h1 h2=>tr _ _ (rv x v x' hv h1 h2)⟩
  · have hb:=agree o (lk_ne hl)
    rcases r.hr o ob hl with h' | ⟨b,base,cells,elem,h1,h2,h3⟩ | ⟨m0,m1,m2,b,es,ck,m3,m4⟩
    · exact .inl ⟨by rw [← hb];exact h'.1,h'.2⟩
    · exact .inr (.inl ⟨b,base,cells,elem,by rw [← hb];exact h1,h2,fun i hi j hj=>by
        obtain ⟨v,k1,k2,k3⟩:=h3 i hi j hj
        exact ⟨v,k1,k2,tr _ _ k3⟩⟩)
    · exact .inr (.inr ⟨m0,m1,m2,b,es,ck,by rw [← hb];exact m3,m4⟩)
  · rw [← agree o (lk_ne h1)] at h3
    rw [← agree o' (lk_ne h2)] at h4
    exact r.sep o o' ob ob' a a' h1 h2 h3 h4 h5
  · rcases hk' with hk' | hk'
    · unfold rebβ at hk'
      by_cases hkn:k.o<c.n
      · left
        rcases hkk k.o hkn with h1 | ⟨_,q,h1,_⟩
        · exact (List.getElem?_eq_some_iff.1 h1).1
        · exact (List.getElem?_eq_some_iff.1 h1).1
      · rw [if_neg hkn] at hk'
        exact r.dom k (.inl hk')
    · exact .inr hk'
  · exact r.ext.trans (Ext.sub hown)
  · unfold rebβ
    rw [if_pos hk']
theorem conv_ok {k:List Item} {st st':St} (keep:List K) (d:Nat) (hob:All (convOb c.n st keep d st')) (hr:Run P c f k st' R):Run P c f k st R:=by
  unfold convOb at hob
  obtain ⟨h12,h3⟩:=All_app hob
  obtain ⟨h1,h2⟩:=All_app h12
  split at h1
  case isFalse=>exact h1.1.elim
  rename_i hz
  simp only [Bool.and_eq_true,Nat.ble_eq,List.all_eq_true,Nat.blt_eq] at hz
  obtain ⟨⟨⟨⟨z1,z2⟩,z3⟩,z4⟩,z5⟩:=hz
  intro hn b cs a w β hb1 hb2 hrel
  obtain ⟨hrel',_⟩:=hrel.conv (m:=st.ctr) (fun k h1 h2=>absurd h2 (by omega)) z1 (nodupB_ok z2) h2 h3
  refine hr z4 b cs a w _ hb1 hb2 (hrel'.dom_mono (fun k hk=>?_))
  rcases hk with hk | hk
  · omega
  · cases hl:st'.H.lookup k with
    | none=>exact absurd hl hk
    | some ob =>
      have:(k,ob)∈st'.H:=by
        have:=List.lookup_eq_some_iff.1 hl
        obtain ⟨l1,l2,h,_⟩:=this
        rw [h];simp
      exact z5 _ this
end
mutual
def ntP:PV→List Prop
  | .seq t _ n f=>[t=false,∀ i,i<n→All (ntL (f i))]
  | .any=>[]
  | .int _ _=>[]
  | .bool _=>[]
  | .str _=>[]
  | .nil=>[]
  | .fn _=>[]
def ntL:List PV→List Prop
  | []=>[]
  | v::l=>ntP v++ntL l
end
mutual
def ntA:AV→List Prop
  | .p v=>ntP v
  | .ar _ _ _ _=>[]
  | .pt _ _ _ _=>[]
  | .ip _ _=>[False]
  | .mp _=>[]
  | .agg cs=>ntAL cs
  | .tup cs=>ntAL cs
  | .clo _ cs=>ntAL cs
  | .cnd _ _=>[False]
def ntAL:List AV→List Prop
  | []=>[]
  | v::l=>ntA v++ntAL l
end
theorem ntL_getD:∀ (l:List PV) (j:Nat),All (ntL l)→All (ntP (l.getD j .any))
  | [],j,_=>by simp [ntP,All]
  | v::l,0,h=>by simp only [ntL] at h;simpa using (All_app h).1
  | v::l,j+1,h=>by simp only [ntL] at h;simpa using ntL_getD l j (All_app h).2
theorem ntAL_getD:∀ (l:List AV) (j:Nat),All (ntAL l)→All (ntA (l.getD j anyA))
  | [],j,_=>by simp [ntA,ntP,All]
  | v::l,0,h=>by simp only [ntAL] at h;simpa using (All_app h).1
  | v::l,j+1,h=>by simp only [ntAL] at h;simpa using ntAL_getD l j (All_app h).2
section
variable {X:Nat→Prop} {w:World} {β:Id→Option Addr} {H:Hp}
theorem ntP_ok {v:PV} {x:Value} (h:PR w (ow X β H) v x):All (ntP v)→PR w (fr X β H) v x:=by
  induction h with
  | any x=>exact fun _=>.any x
  | int k n=>exact fun _=>.int k n
  | bool b=>exact fun _=>.bool b
  | str s=>exact fun _=>.str s
  | nil=>exact fun _=>.nil
  | seq0 t z f a c=>exact fun _=>.seq0 _ _ _ _ _
  | seq t z n f b off c g hb hlt hc hcell hone h ih =>
    intro ho
    simp only [ntP] at ho
    obtain ⟨rfl,ho,_⟩:=ho
    exact .seq _ _ _ _ b off c g (fun h=>h.elim (fun h=>by cases h) hb) hlt hc hcell hone (fun i hi j hj=>ih i hi j hj (ntL_getD _ j (ho i hi)))
  | fn f=>exact fun _=>.fn f
theorem ntA_ok {v:AV} {x:Value} (h:VR w β (ow X β H) v x):All (ntA v)→VR w β (fr X β H) v x:=by
  induction h with
  | p v x h=>exact fun ho=>.p _ _ (ntP_ok h ho)
  | ar0 z o off a=>exact fun _=>.ar0 _ _ _ _
  | ar z o off n b base c cells elem fr hβ hh hsz hc=>exact fun _=>.ar _ _ _ _ b base c cells elem fr hβ hh hsz hc
  | pt z o row off b base hβ=>exact fun _=>.pt _ _ _ _ b base hβ
  | ip t cs b off g hb hlt hcell hone hp=>intro ho;simp only [ntA] at ho;exact ho.1.elim
  | mp o b hβ hm=>exact fun _=>.mp _ b hβ hm
  | agg cs vs hl hone h ih=>intro ho;simp only [ntA] at ho;exact .agg _ _ hl hone (fun j hj=>ih j hj (ntAL_getD _ j ho))
  | tup cs vs hl h ih=>intro ho;simp only [ntA] at ho;exact .tup _ _ hl (fun j hj=>ih j hj (ntAL_getD _ j ho))
  | clo f cs vs hl h ih=>intro ho;simp only [ntA] at ho;exact .clo _ _ _ hl (fun j hj=>ih j hj (ntAL_getD _ j ho))
  | cnd g v x h h' ih=>intro ho;simp only [ntA] at ho;exact ho.1.elim
end
def cAt:Code→List Nat→Code
  | c,[]=>c
  | .seq a _,0::p=>cAt a p
  | .seq _ b,_::p=>cAt b p
  | .cond _ a _,0::p=>cAt a p
  | .cond _ _ b,_::p=>cAt b p
  | .block _ a,_::p=>cAt a p
  | .loop a,_::p=>cAt a p
  | .scope a,_::p=>cAt a p
  | c,_=>c
def resVals (P:Program) (env:List AV) (H:Hp):List ResultVar→Option (List AV×List Prop)
  | []=>some ([],[])
  | .tmp t::r=>(resVals P env H r).map fun x=>(env.getD t anyA::x.1,x.2)
  | .cell a t::r =>
    match evLoad P H t (env.getD a anyA) with
    | some e=>(resVals P env H r).map fun x=>(e.v::x.1,e.ob++x.2)
    | none=>none
def resV (P:Program) (env:List AV) (H:Hp) (rs:List ResultVar):Option (AV×List Prop) :=
  (resVals P env H rs).map fun x=>(match x.1 with | [v]=>v | vs=>.tup vs,x.2)
def ntH:Hp→List Prop
  | []=>[]
  | (_,ob)::r=>(∀ i,i<ob.n→All (ntAL (ob.f i)))::ntH r
theorem ntH_at:∀ (l:Hp),All (ntH l)→∀ (k:Nat) (ob:Ob),l.lookup k=some ob→∀ i,i<ob.n→All (ntAL (ob.f i))
  | [],_,k,ob,h=>by simp at h
  | (j,y)::r,ha,k,ob,h=>by
    simp only [List.lookup_cons] at h
    by_cases hkj:k=j
    · subst hkj
      simp only [beq_self_eq_true,Option.some.injEq] at h
      subst h
      exact ha.1
    · have:(k==j)=false:=by simpa using hkj
      rw [this] at h
      exact ntH_at r ha.2 k ob h
theorem ntH_lk {l:Hp} (ha:All (ntH l)) {x:Id} {ob:Ob} (h:lk l x=some ob) (i:Nat) (hi:i<ob.n) (j:Nat) (hj:j<ob.z):All (ntA ((ob.f i).getD j anyA)):=by
  unfold lk at h
  split at h
  case h_2=>cases h
  rename_i obe hobe
  have h1:=ntH_at l ha x.o obe hobe
  cases hxm:x.m with
  | none =>
    rw [hxm] at h
    simp only [vw] at h
    split at h
    · cases h
    · cases h
      exact ntAL_getD _ j (h1 i hi)
  | some q =>
    rw [hxm] at h
    simp only [vw] at h
    split at h
    case isFalse=>cases h
    rename_i hq
    have h2:=h1 q hq.2
    unfold memOb at h
    split at h
    case h_2=>cases h
    rename_i t z n g hrow
    cases h
    rw [hrow] at h2
    simp only [ntAL,ntA,ntP,List.append_nil] at h2
    simp only at hi hj ⊢
    rw [tab_getD _ _ _ _ hj]
    simp only [ntA]
    exact ntL_getD _ j (h2.2.1 i hi)
def retOb (n:Nat) (P:Program) (rs:List ResultVar) (st:St) (keep:List K) (d:Nat) (H':Hp) (res:AV):List Prop :=
  match resV P st.env st.H rs with
  | some x =>
    (if keepB n st.ctr keep H'&&nodupB ((keep.map K.nums).flatten)&&Nat.ble keep.length (n+32) then [] else [False])++x.2++(cvt false st.H keep d x.1).2++wk (cvt false st.H keep d x.1).1 res++cvH st.H keep d H'++ntA res++ntH H'
  | none=>[False]
def Post (c:Cx) (H':Hp) (res:AV):Ending→World→Prop:=fun e w'=>∃ v β',e=.returned v∧HR w' β' (fr c.X β' H') H'∧Sep β' H'∧VR w' β' (fr c.X β' H') res v ∧
  Ext c.w0 (ow c.X c.β0 c.H0) w' (ow c.X β' H')∧(∀ o:Id,o.o<c.n→β' o=c.β0 o)∧(∀ b,ownOf β' H' b→ownOf c.β0 c.H0 b∨c.w0.heap.size≤b)∧∀ k,β' k≠none→k.o<c.n+32
section
variable {P:Program} {c:Cx} {f:FuncId}
def resOne (tmps:Array Value):ResultVar→Sem Value
  | .tmp t=>pure (tmps.getD t undef)
  | .cell at_ t=>do loadVar t (← asAddr (tmps.getD at_ undef))
theorem resVals_ok {dom:Nat→Prop} {env:List AV} {H:Hp} {a:Act} {w:World} {β:Id→Option Addr} (h:Rel c dom env H a w β):∀ (rs:List ResultVar) (vs:List AV) (ob:List Prop),resVals P env H rs=some (vs,ob)→(∀ p∈ob,p) →
    ∃ xs:List Value,(rs.mapM (resOne a.tmps):Sem (List Value)).run P w=.ok xs w∧vs.length=xs.length ∧
      ∀ j,j<vs.length→VR w β (ow c.X β H) (vs.getD j anyA) (xs.getD j undef)
  | [],vs,ob,hr,_=>by
    simp only [resVals,Option.some.injEq,Prod.mk.injEq] at hr
    obtain ⟨rfl,rfl⟩:=hr
    exact ⟨[],by simp,rfl,fun j hj=>by simp at hj⟩
  | .tmp t::r,vs,ob,hr,hob=>by
    simp only [resVals] at hr
    cases hr2:resVals P env H r with
    | none=>rw [hr2] at hr;cases hr
    | some x =>
      rw [hr2] at hr
      simp only [Option.map_some,Option.some.injEq,Prod.mk.injEq] at hr
      obtain ⟨rfl,rfl⟩:=hr
      obtain ⟨xs,g1,g2,g3⟩:=resVals_ok h r x.1 x.2 hr2 hob
      refine ⟨a.tmps.getD t undef::xs,by simp only [List.mapM_cons,resOne,Sem.run_bind,Sem.run_pure,Result.andThen_ok,g1],by simp [g2],fun j hj=>?_⟩
      cases j with
      | zero=>simpa using h.ev t
      | succ j=>simpa using g3 j (by simpa using hj)
  | .cell at_ t::r,vs,ob,hr,hob=>by
    simp only [resVals] at hr
    split at hr
    case h_2=>cases hr
    rename_i e he
    cases hr2:resVals P env H r with
    | none=>rw [hr2] at hr;cases hr
    | some x =>
      rw [hr2] at hr
      simp only [Option.map_some,Option.some.injEq,Prod.mk.injEq] at hr
      obtain ⟨rfl,rfl⟩:=hr
      obtain ⟨xs,g1,g2,g3⟩:=resVals_ok h r x.1 x.2 hr2 (fun p hp=>hob p (List.mem_append_right _ hp))
      obtain ⟨_,v,h1,h2⟩:=evLoad_ok (P:=P) h.hr h.sep (fun _ _ h=>h) he (fun p hp=>hob p (List.mem_append_left _ hp)) (h.ev at_)
      have h1':(do loadVar t (← asAddr (a.tmps.getD at_ undef)):Sem Value).run P w=.ok v w:=by
        generalize a.tmps.getD at_ undef=y at h1
        cases y with
        | pointer p =>
          cases p with
          | none=>simp [Instr.loadAt,Instr.sureAddr] at h1
          | some p=>simpa [Instr.loadAt,Instr.sureAddr,asAddr] using h1
        | _=>simp [Instr.loadAt,Instr.sureAddr] at h1
      refine ⟨v::xs,by
        rw [List.mapM_cons,Sem.run_bind]
        show ((do loadVar t (← asAddr (a.tmps.getD at_ undef)):Sem Value).run P w).andThen _=_
        rw [h1']
        simp only [Sem.run_bind,Sem.run_pure,Result.andThen_ok,g1],by simp [g2],fun j hj=>?_⟩
      cases j with
      | zero=>simpa using h2
      | succ j=>simpa using g3 j (by simpa using hj)
theorem ret_rel {st:St} {a:Act} {w:World} {β:Id→Option Addr} {fn:Func} {keep:List K} {d:Nat} {H':Hp} {res:AV} (h:Rel c (fun k=>k<st.ctr) st.env st.H a w β)
    (hob:All (retOb c.n P fn.results.toList st keep d H' res)):∃ v,(results fn a.tmps).run P w=.ok v w∧Post c H' res (.returned v) w:=by
  unfold retOb at hob
  split at hob
  case h_2=>exact hob.1.elim
  rename_i x hx
  obtain ⟨hob,o7⟩:=All_app hob
  obtain ⟨hob,o6⟩:=All_app hob
  obtain ⟨hob,o5⟩:=All_app hob
  obtain ⟨hob,o4⟩:=All_app hob
  obtain ⟨hob,o3⟩:=All_app hob
  obtain ⟨o1,o2⟩:=All_app hob
  split at o1
  case isFalse=>exact o1.1.elim
  rename_i hz
  simp only [Bool.and_eq_true,Nat.ble_eq] at hz
  obtain ⟨⟨z1,z2⟩,z3⟩:=hz
  unfold resV at hx
  cases hr:resVals P st.env st.H fn.results.toList with
  | none=>rw [hr] at hx;cases hx
  | some y =>
    rw [hr] at hx
    simp only [Option.map_some,Option.some.injEq] at hx
    subst hx
    obtain ⟨xs,g1,g2,g3⟩:=resVals_ok (P:=P) h _ y.1 y.2 hr ((All_iff _).1 o2)
    obtain ⟨hrel,hval⟩:=h.conv (H':=H') (env':=[]) (keep:=keep) (d:=d) (m:=st.ctr) (fun k h1 h2=>absurd h2 (by omega)) z1 (nodupB_ok z2) (by cases st.env<;>exact trivial) o5
    have hrun:(results fn a.tmps).run P w=.ok (if h:xs.toArray.size=1 then xs.toArray[0] else .tuple xs.toArray) w:=by
      have hfun:results fn a.tmps=(do let vs ← fn.results.mapM (resOne a.tmps);pure (if h:vs.size=1 then vs[0] else .tuple vs)):=rfl
      rw [hfun,Array.mapM_eq_mapM_toList]
      simp only [Sem.run_bind,Sem.run_map,Result.andThen_ok,Sem.run_pure,g1]
    refine ⟨_,hrun,?_⟩
    have hv:VR w β (ow c.X β st.H) (match y.1 with | [v]=>v | vs=>.tup vs) (if h:xs.toArray.size=1 then xs.toArray[0] else .tuple xs.toArray):=by
      split
      · rename_i v hv
        rw [hv] at g2 g3
        have h1:xs.toArray.size=1:=by simpa using g2.symm
        rw [dif_pos h1]
        have:=g3 0 (by simp)
        cases xs with
        | nil=>simp at g2
        | cons x xs=>simpa using this
      · rename_i hne
        have h1:¬ xs.toArray.size=1:=by
          intro h1
          have:y.1.length=1:=by rw [g2];simpa using h1
          obtain ⟨v,hv⟩:=List.length_eq_one_iff.1 this
          exact hne v hv
        rw [dif_neg h1]
        exact .tup _ _ (by simpa using g2) (fun j hj=>by
          have:=g3 j hj
          simpa [Array.getD_eq_getD_getElem?,List.getD_eq_getElem?_getD] using this)
    have hres:=hval _ _ res hv o3 o4
    refine ⟨_,rebβ c β keep,rfl,?_,hrel.sep,ntA_ok hres o6,hrel.ext,hrel.init,hrel.own,fun k hk=>?_⟩
    · intro k ob hk
      rcases hrel.hr k ob hk with h' | ⟨b,base,cells,elem,h1,h2,h3⟩ | h'
      · exact .inl h'
      · refine .inr (.inl ⟨b,base,cells,elem,h1,h2,fun i hi j hj=>?_⟩)
        obtain ⟨v,k1,k2,k3⟩:=h3 i hi j hj
        exact ⟨v,k1,k2,ntA_ok k3 (ntH_lk o7 hk i hi j hj)⟩
      · exact .inr (.inr h')
    · unfold rebβ at hk
      by_cases hkn:k.o<c.n
      · omega
      · rw [if_neg hkn] at hk
        have:k.o<keep.length:=by
          by_cases hlt:k.o<keep.length
          · exact hlt
          · exfalso
            apply hk
            simp [subβ,List.getElem?_eq_none (Nat.le_of_not_lt hlt)]
        omega
theorem ret_ok {fn:Func} (hf:P.funcs[f]? = some fn) {k:List Item} (hk:k=[]∨∃ k',k=.code .ret::k') {st:St} {keep:List K} {d:Nat} {H':Hp} {res:AV}
    (hob:All (retOb c.n P fn.results.toList st keep d H' res)):Run P c f k st (Post c H' res):=by
  intro hn b cs a w β h1 h2 hrel
  obtain ⟨v,hr,hp⟩:=ret_rel hrel hob
  rcases hk with rfl | ⟨k',rfl⟩
  · exact ⟨.returned v,w,_,hp,.one step_end,h1,rfl,hrel.dfr,h2,fn,by rw [← h1] at hf;exact hf,hr⟩
  · exact ⟨.returned v,w,_,hp,.one step_ret,h1,rfl,hrel.dfr,h2,fn,by rw [← h1] at hf;exact hf,hr⟩
theorem con_of_run {fn:Func} {code:Code} (hf:P.funcs[f]? = some fn) (hb:fn.body=some code) (hen:enterable P f=true) {n:Nat} {H H':Hp} {args:List AV} {res:AV}
    (hkeys:(H.all fun e=>Nat.blt e.1 n)=true)
    (hrun:∀ c:Cx,c.n=n→Run P c f [.code code] ⟨args++List.replicate (fn.ntmps - args.length) anyA,H,n⟩ (Post c H' res)):Con P f n H args H' res:=by
  refine ⟨hen,fun w β X vals hX hHR hSep hdom hlen hargs=>?_⟩
  have hrel:Rel ⟨n,X,w,β,H⟩ (fun k=>k<n) (args++List.replicate (fn.ntmps - args.length) anyA) H { tmps:=vals++Array.replicate (fn.ntmps - vals.size) undef,defers:=[] } w β:=by
    refine ⟨hHR,hSep,fun t=>?_,by simp [hlen],rfl,fun k hk=>?_,.refl _ _,hX,fun b hb=>.inl hb,fun _ _=>rfl⟩
    · by_cases ht:t<args.length
      · have e1:(args++List.replicate (fn.ntmps - args.length) anyA).getD t anyA=args.getD t anyA:=by
          simp [List.getD_eq_getElem?_getD,List.getElem?_append_left ht]
        have e2:(vals++Array.replicate (fn.ntmps - vals.size) undef).getD t undef=vals.getD t undef:=by
          simp [Array.getD_eq_getD_getElem?,Array.getElem?_append_left (show t<vals.size by omega)]
        simp only [e1,e2]
        exact hargs t ht
      · have e1:(args++List.replicate (fn.ntmps - args.length) anyA).getD t anyA=anyA:=by
          rw [List.getD_eq_getElem?_getD,List.getElem?_append_right (by omega),List.getElem?_replicate]
          split<;>rfl
        rw [e1]
        exact .any _
    · rcases hk with hk | hk
      · exact hdom k hk
      · cases hl:H.lookup k.o with
        | none=>exact absurd hl hk
        | some ob =>
          obtain ⟨l1,l2,h,_⟩:=List.lookup_eq_some_iff.1 hl
          simp only [List.all_eq_true,Nat.blt_eq] at hkeys
          exact hkeys (k.o,ob) (by rw [h];simp)
  intro cs
  let b:Frame:={ (default:Frame) with fn:=f,kind:=.normal }
  have henter:Frame.enter P f vals .normal=b.at { tmps:=vals++Array.replicate (fn.ntmps - vals.size) undef,defers:=[] } [.code code]:=by
    simp [Frame.enter,Frame.at,hf,hb,b]
  obtain ⟨e,w',fr,g1,g2,g3,g4⟩:=hrun ⟨n,X,w,β,H⟩ rfl (Nat.le_refl _) b cs _ w β rfl rfl hrel
  rw [henter]
  refine ⟨e,w',fr,?_,g2,g3,g4⟩
  obtain ⟨v,β',p1,p2,p3,p4,p5,p6,p7,p8⟩:=g1
  refine ⟨v,β',p1,p2,p3,p4,p5,fun o a ho=>?_,p7,fun k hk=>?_⟩
  · rw [p6 o (hdom o (by rw [ho];simp))];exact ho
  · by_cases hkn:k.o<n
    · left
      have:=p6 k hkn
      simp only at this
      rw [← this]
      exact hk
    · exact .inr ⟨by omega,p8 k hk⟩
end
def bodyOf (fn:Func):Code:=fn.body.getD .skip
def oT:OpS:=⟨true,none,none⟩
def oF:OpS:=⟨false,none,none⟩
def isRet:List Item→Bool
  | []=>true
  | .code .ret::_=>true
  | _=>false
def start (fn:Func) (H:Hp) (n:Nat) (args:List AV):St:=⟨args++List.replicate (fn.ntmps - args.length) anyA,H,n⟩
def pathOb (P:Program) (fn:Func) (n:Nat) (sc:List ScI) (k:List Item) (st:St) (keep:List K) (d:Nat) (H':Hp) (res:AV):Option (List Prop) :=
  match runTo P 10000 sc k st with
  | some (k',st',ob)=>if isRet k' then some (ob++retOb n P fn.results.toList st' keep d H' res) else none
  | none=>none
def pieceOb (P:Program) (n:Nat) (sc:List ScI) (k:List Item) (st:St) (keep:List K) (d:Nat) (st2:St):Option (List Item×List Prop) :=
  match runTo P 10000 sc k st with
  | some (k',st',ob)=>some (k',ob++convOb n st' keep d st2)
  | none=>none
section
variable {P:Program} {c:Cx} {f:FuncId} {R:Ending→World→Prop}
theorem path_ok {fn:Func} {n:Nat} {sc:List ScI} {k:List Item} {st:St} {keep:List K} {d:Nat} {H':Hp} {res:AV} {ob:List Prop} (hm:P.follows .mixedOrders=true) (hf:P.funcs[f]? = some fn) (hc:c.n=n)
    (h:pathOb P fn n sc k st keep d H' res=some ob) (hob:All ob):Run P c f k st (Post c H' res):=by
  unfold pathOb at h
  split at h
  case h_2=>cases h
  rename_i k' st' ob' hr
  split at h
  case isFalse=>cases h
  rename_i hret
  simp only [Option.some.injEq] at h
  subst h
  obtain ⟨h1,h2⟩:=All_app hob
  refine runTo_ok hm _ _ _ _ _ _ _ hr ((All_iff _).1 h1) (ret_ok hf ?_ (by rw [hc];exact h2))
  unfold isRet at hret
  split at hret
  · exact .inl rfl
  · exact .inr ⟨_,rfl⟩
  · cases hret
theorem piece_ok {n:Nat} {sc:List ScI} {k k2:List Item} {st st2:St} {keep:List K} {d:Nat} {ob:List Prop} (hm:P.follows .mixedOrders=true) (hc:c.n=n)
    (h:pieceOb P n sc k st keep d st2=some (k2,ob)) (hob:All ob) (hr:Run P c f k2 st2 R):Run P c f k st R:=by
  unfold pieceOb at h
  split at h
  case h_2=>cases h
  rename_i k' st' ob' hr'
  simp only [Option.some.injEq,Prod.mk.injEq] at h
  obtain ⟨rfl,rfl⟩:=h
  obtain ⟨h1,h2⟩:=All_app hob
  exact runTo_ok hm _ _ _ _ _ _ _ hr' ((All_iff _).1 h1) (conv_ok keep d (by rw [hc];exact h2) hr)
theorem con_start {fn:Func} (hf:P.funcs[f]? = some fn) (hb:fn.body=some (bodyOf fn)) (hen:enterable P f=true) {n:Nat} {H H':Hp} {args:List AV} {res:AV}
    (hkeys:(H.all fun e=>Nat.blt e.1 n)=true) (hrun:∀ c:Cx,c.n=n→Run P c f [.code (bodyOf fn)] (start fn H n args) (Post c H' res)):Con P f n H args H' res :=
  con_of_run hf hb hen hkeys hrun
end
inductive Sh where
  | int (k:IntKind)
  | bool
  | str
  | st (l:List Sh)
  | sl (s:Sh)
mutual
def Sh.z:Sh→Nat
  | .int _=>1
  | .bool=>1
  | .str=>1
  | .st l=>zL l
  | .sl _=>1
def zL:List Sh→Nat
  | []=>0
  | s::l=>s.z+zL l
end
mutual
def Sh.T:Sh→Type
  | .int _=>Int
  | .bool=>Bool
  | .str=>ByteArray
  | .st l=>TL l
  | .sl s=>Nat×(Nat→s.T)
def TL:List Sh→Type
  | []=>Unit
  | s::l=>s.T×TL l
end
mutual
def dfl:(s:Sh)→s.T
  | .int _=>(0:Int)
  | .bool=>false
  | .str=>ByteArray.empty
  | .st l=>dflL l
  | .sl s=>((0:Nat),fun _=>dfl s)
def dflL:(l:List Sh)→TL l
  | []=>()
  | s::l=>(dfl s,dflL l)
end
mutual
def enS:(s:Sh)→s.T→List PV
  | .int k,n=>[.int k n]
  | .bool,b=>[.bool b]
  | .str,x=>[.str x]
  | .st l,v=>enL l v
  | .sl s,v=>[.seq true s.z v.1 fun i=>enS s (v.2 i)]
def enL:(l:List Sh)→TL l→List PV
  | [],_=>[]
  | s::l,v=>enS s v.1++enL l v.2
end
mutual
def okS:(s:Sh)→s.T→Prop
  | .int k,n=>imin k≤(show Int from n)∧(show Int from n)≤imax k
  | .bool,_=>True
  | .str,x=>(show ByteArray from x).size≤9223372036854775807
  | .st l,v=>okL l v
  | .sl s,v=>v.1≤9223372036854775807∧∀ i,i<v.1→okS s (v.2 i)
def okL:(l:List Sh)→TL l→Prop
  | [],_=>True
  | s::l,v=>okS s v.1∧okL l v.2
end
mutual
def fits (P:Program):Sh→TypeId→Bool
  | .int k,t=>match P.underlying t with | some (.int k')=>ikEq k k' | _=>false
  | .bool,t=>match P.underlying t with | some .bool=>true | _=>false
  | .str,t=>match P.underlying t with | some .string=>true | _=>false
  | .st l,t=>match P.underlying t with | some (.struct fs)=>P.cellsOf t==zL l&&fitsL P l fs.toList 0 | _=>false
  | .sl s,t=>match P.underlying t with | some (.slice e)=>P.cellsOf e==s.z&&Nat.blt 0 s.z&&fits P s e | _=>false
def fitsL (P:Program):List Sh→List Field→Nat→Bool
  | [],[],_=>true
  | s::l,f::fs,off=>f.offset==off&&P.cellsOf f.type==s.z&&fits P s f.type&&fitsL P l fs (off+s.z)
  | _,_,_=>false
end
def no:Bool→Nat→Prop:=ow (fun _=>False) (fun _=>none) []
theorem no_no {t:Bool} {b:Nat}:¬ no t b:=by
  rintro (⟨o,ob,a,h,_⟩ | ⟨_,h⟩)
  · simp [lk] at h
  · exact h
inductive Rd (w:World):List PV→List Value→Prop
  | nil:Rd w [] []
  | cons {v:PV} {x:Value} {l:List PV} {r:List Value} (h:PR w no v x) (h1:One x) (hr:Rd w l r):Rd w (v::l) (x::r)
theorem Rd.append {w:World} {a b:List PV} {c d:List Value} (h:Rd w a c) (h':Rd w b d):Rd w (a++b) (c++d):=by
  induction h with
  | nil=>exact h'
  | cons h h1 hr ih=>exact .cons h h1 ih
theorem Rd.length {w:World} {a:List PV} {c:List Value} (h:Rd w a c):a.length=c.length:=by
  induction h with
  | nil=>rfl
  | cons h h1 hr ih=>simp [ih]
theorem Rd.get {w:World} {a:List PV} {c:List Value} (h:Rd w a c):∀ j,j<c.length→PR w no (a.getD j .any) (c.getD j undef)∧One (c.getD j undef):=by
  induction h with
  | nil=>intro j hj;simp at hj
  | cons h h1 hr ih =>
    intro j hj
    cases j with
    | zero=>exact ⟨h,h1⟩
    | succ j=>simpa using ih j (by simpa using hj)
section
variable {H:Type} {enc:TypeId×Value→H} {P:Program} {w:World} {base:Nat} {spare:Nat→Bool} {held:Bool}
theorem add_add {b o x y:Nat}:((⟨b,o,none⟩:Addr).add x).add y=⟨b,o+(x+y),none⟩:=by
  unfold Addr.add
  split<;>split<;>simp_all<;>omega
theorem cell_spot {a:Addr} {v:Value} (h:w.cell? a=some v):a.spot=none∧a.block<w.heap.size:=by
  unfold World.cell? at h
  split at h
  · rename_i c e f hb
    split at h
    · cases h
    · rename_i hs
      refine ⟨by simpa using hs,?_⟩
      exact (Array.getElem?_eq_some_iff.1 hb).1
  · cases h
mutual
theorem read:(s:Sh)→∀ (t:TypeId) (fuel:Nat) (cs:List Value) (x:DataW H×List MemPlace),fits P s t=true→DataW.trod enc P w base spare held fuel t cs=some x→∃ v:s.T,okS s v∧Rd w (enS s v) cs
  | .int k,t,fuel,cs,x,hf,h=>by
    simp only [fits] at hf
    split at hf
    case h_2=>cases hf
    rename_i k' hu
    obtain rfl:=ikEq_eq hf
    obtain ⟨n,rfl,_,hw⟩:=DataW.trod_int hu h
    refine ⟨n,?_,.cons (.int _ _) rfl .nil⟩
    simp only [Lit.wf,Bool.and_eq_true,decide_eq_true_eq] at hw
    cases k<;>exact hw
  | .bool,t,fuel,cs,x,hf,h=>by
    simp only [fits] at hf
    split at hf
    case h_2=>cases hf
    rename_i hu
    obtain ⟨b,rfl,_⟩:=DataW.trod_bool hu h
    exact ⟨b,by simp [okS],.cons (.bool _) rfl .nil⟩
  | .str,t,fuel,cs,x,hf,h=>by
    simp only [fits] at hf
    split at hf
    case h_2=>cases hf
    rename_i hu
    obtain ⟨b,rfl,_,hm⟩:=DataW.trod_string hu h
    exact ⟨b,by simpa [okS,maxLen] using hm,.cons (.str _) rfl .nil⟩
  | .st l,t,fuel,cs,x,hf,h=>by
    simp only [fits] at hf
    split at hf
    case h_2=>cases hf
    rename_i fs hu
    simp only [Bool.and_eq_true,beq_iff_eq] at hf
    obtain ⟨xs,n,rfl,rfl,hl,hxs,hall⟩:=DataW.trod_struct hu h
    obtain ⟨v,h1,h2⟩:=readL l fs.toList 0 n cs hf.2 (by omega) (fun i f hi=>by
      have hi':fs[i]? = some f:=by simpa using hi
      have:=hall i f hi'
      have hlt:i<xs.length:=by
        rw [hxs]
        exact (Array.getElem?_eq_some_iff.1 hi').1
      exact ⟨xs[i],by rw [this,List.getElem?_eq_getElem hlt]⟩)
    exact ⟨v,by simpa [okS] using h1,by simpa [enS] using h2⟩
  | .sl s,t,fuel,cs,x,hf,h=>by
    simp only [fits] at hf
    split at hf
    case h_2=>cases hf
    rename_i e hu
    simp only [Bool.and_eq_true,beq_iff_eq] at hf
    obtain ⟨⟨hz,hpos⟩,hf⟩:=hf
    have hpos:0<s.z:=Nat.le_of_ble_eq_true hpos
    rcases DataW.trod_slice hu h with ⟨rfl,_⟩ | ⟨a,len,cap,elems,rest,n,rfl,rfl,rfl,hb,hl,hm,hlen,hel,_⟩
    · exact ⟨((0:Nat),fun _=>dfl s),by simp [okS],.cons (.seq0 _ _ _ _ _) rfl .nil⟩
    · have key:∀ i,∃ y:s.T×List Value,i<len→w.cells? base (a.add (i*s.z)) s.z=some y.2∧okS s y.1∧Rd w (enS s y.1) y.2:=by
        intro i
        by_cases hi:i<len
        · have hx:=hel i hi
          rw [List.getElem?_eq_getElem (by omega)] at hx
          obtain ⟨cs',h1,h2⟩:=Option.bind_eq_some_iff.1 hx
          obtain ⟨v,h3,h4⟩:=read s e n cs' _ hf h2
          exact ⟨(v,cs'),fun _=>⟨by rw [← hz];exact h1,h3,h4⟩⟩
        · exact ⟨(dfl s,[]),fun h=>absurd h hi⟩
      obtain ⟨F,hF⟩:=Classical.axiomOfChoice key
      refine ⟨((len:Nat),fun i=>(F i).1),⟨?_,fun i hi=>(hF i hi).2.1⟩,.cons ?_ rfl .nil⟩
      · have:maxLen=9223372036854775807:=rfl
        show len≤9223372036854775807
        omega
      · cases hl0:len with
        | zero=>exact .seq0 _ _ _ _ _
        | succ l' =>
          rw [← hl0]
          have h0:=(hF 0 (by omega)).1
          obtain ⟨_,hcl,hcell⟩:=World.cells?_some h0
          have hc0:=hcell 0 hpos
          rw [List.getElem?_eq_getElem (by omega)] at hc0
          obtain ⟨hs,hlt⟩:=cell_spot hc0
          obtain ⟨b,o,sp⟩:=a
          have hb':∀ q,((⟨b,o,sp⟩:Addr).add q).block=b:=by intro q;unfold Addr.add;split<;>rfl
          have hsp:sp=none:=by simpa [Addr.add] using hs
          subst hsp
          have hlt':b<w.heap.size:=by
            have e1:(((⟨b,o,none⟩:Addr).add (0*s.z)).add 0).block=b:=by rw [add_add]
            rw [e1] at hlt;exact hlt
          refine .seq _ _ _ _ b o cap (fun i j=>(F i).2.getD j undef) no_no hlt' hl (fun i hi j hj=>?_) (fun i hi j hj=>?_) (fun i hi j hj=>?_)
          all_goals
            obtain ⟨g1,g2,g3⟩:=hF i hi
            obtain ⟨_,k1,k2⟩:=World.cells?_some g1
          · have:=k2 j hj
            rw [add_add] at this
            rw [this,List.getElem?_eq_getElem (by omega)]
            simp [List.getD_eq_getElem?_getD,List.getElem?_eq_getElem (show j<(F i).2.length by omega)]
          · exact (g3.get j (by omega)).2
          · exact (g3.get j (by omega)).1
theorem readL:(l:List Sh)→∀ (fs:List Field) (off n:Nat) (cs:List Value),fitsL P l fs off=true→off+zL l=cs.length →
    (∀ (i:Nat) (f:Field),fs[i]? = some f→∃ x,DataW.trod enc P w base spare held n f.type ((cs.drop f.offset).take (P.cellsOf f.type))=some x)→∃ v:TL l,okL l v∧Rd w (enL l v) (cs.drop off)
  | [],fs,off,n,cs,hf,hz,h=>by
    refine ⟨(),by simp [okL],?_⟩
    simp only [zL,Nat.add_zero] at hz
    subst hz
    simp only [List.drop_length,enL]
    exact .nil
  | s::l,[],off,n,cs,hf,hz,h=>by simp [fitsL] at hf
  | s::l,f::fs,off,n,cs,hf,hz,h=>by
    simp only [fitsL,Bool.and_eq_true,beq_iff_eq] at hf
    obtain ⟨⟨⟨h1,h2⟩,h3⟩,h4⟩:=hf
    obtain ⟨x,hx⟩:=h 0 f rfl
    rw [h1,h2] at hx
    obtain ⟨v,g1,g2⟩:=read s f.type n _ x h3 hx
    obtain ⟨r,g3,g4⟩:=readL l fs (off+s.z) n cs h4 (by simp only [zL] at hz;omega) (fun i f' hi=>h (i+1) f' (by simpa using hi))
    refine ⟨(v,r),by simp only [okL];exact ⟨g1,g3⟩,?_⟩
    have:=g2.append g4
    rw [← List.drop_drop,List.take_append_drop] at this
    simpa only [enL] using this
end
def argA:(s:Sh)→s.T→AV
  | .int k,n=>.p (.int k n)
  | .bool,b=>.p (.bool b)
  | .str,x=>.p (.str x)
  | .st l,v=>.agg ((enL l v).map .p)
  | .sl s,v=>.p (.seq true s.z v.1 fun i=>enS s (v.2 i))
theorem arg_st {l:List Sh} {t:TypeId} {r:Reach} {b0:Nat} {x:Value} {d:DataW H} {ps:List MemPlace} (hf:fits P (.st l) t=true) (hv:Value.okWide P w r b0 t x) (h:DataW.Trod enc P w base spare held t x d ps) :
    ∃ v:TL l,okL l v∧VR w (fun _=>none) no (.agg ((enL l v).map .p)) x:=by
  have hf':=hf
  simp only [fits] at hf
  split at hf
  case h_2=>cases hf
  rename_i fs hu
  obtain ⟨cs,rfl,hsz⟩:=WideShapes.okWide_struct hu hv
  obtain ⟨fuel,h⟩:=h
  obtain ⟨v,h1,h2⟩:=read (.st l) t fuel _ _ hf' h
  simp only [enS] at h2
  refine ⟨v,by simpa [okS] using h1,.agg _ _ (by simpa [Value.cells] using h2.length) (fun j hj=>?_) (fun j hj=>?_)⟩
  all_goals
    have hl:=h2.length
    simp only [Value.cells,List.length_map,Array.length_toList] at hl hj
    have:=h2.get j (by simp [Value.cells];omega)
    simp only [Value.cells] at this
    rw [show cs.toList.getD j undef=cs.getD j undef by simp [List.getD_eq_getElem?_getD,Array.getD_eq_getD_getElem?]] at this
  · exact this.2
  · have e:((enL l v).map AV.p).getD j anyA=.p ((enL l v).getD j .any):=by
      simp only [List.getD_eq_getElem?_getD,List.getElem?_map]
      cases (enL l v)[j]?<;>rfl
    rw [e]
    exact .p _ _ this.1
theorem arg_one {s:Sh} {t:TypeId} {x:Value} {d:DataW H} {ps:List MemPlace} (hf:fits P s t=true) (hc:x.cells = #[x]) (h:DataW.Trod enc P w base spare held t x d ps) :
    ∃ v:s.T,okS s v∧VR w (fun _=>none) no (.p ((enS s v).getD 0 .any)) x:=by
  obtain ⟨fuel,h⟩:=h
  obtain ⟨v,h1,h2⟩:=read s t fuel _ _ hf h
  rw [hc] at h2
  have:=h2.get 0 (by simp)
  exact ⟨v,h1,.p _ _ (by simpa using this.1)⟩
theorem arg_ok {r:Reach} {b0:Nat} {x:Value} {d:DataW H} {ps:List MemPlace}:(s:Sh)→∀ {t:TypeId},fits P s t=true→Value.okWide P w r b0 t x→DataW.Trod enc P w base spare held t x d ps →
    ∃ v:s.T,okS s v∧VR w (fun _=>none) no (argA s v) x
  | .st l,t,hf,hv,h=>by
    obtain ⟨v,h1,h2⟩:=arg_st hf hv h
    exact ⟨v,by simpa [okS] using h1,h2⟩
  | .int k,t,hf,hv,h=>by
    have hf':=hf
    simp only [fits] at hf
    split at hf
    case h_2=>cases hf
    rename_i hu
    obtain ⟨y,rfl⟩:=WideShapes.okWide_int hu hv
    obtain ⟨v,h1,h2⟩:=arg_one hf' rfl h
    exact ⟨v,h1,h2⟩
  | .bool,t,hf,hv,h=>by
    have hf':=hf
    simp only [fits] at hf
    split at hf
    case h_2=>cases hf
    rename_i hu
    obtain ⟨y,rfl⟩:=WideShapes.okWide_bool hu hv
    obtain ⟨v,h1,h2⟩:=arg_one hf' rfl h
    exact ⟨v,h1,h2⟩
  | .str,t,hf,hv,h=>by
    have hf':=hf
    simp only [fits] at hf
    split at hf
    case h_2=>cases hf
    rename_i hu
    obtain ⟨y,rfl⟩:=WideShapes.okWide_string hu hv
    obtain ⟨v,h1,h2⟩:=arg_one hf' rfl h
    exact ⟨v,h1,h2⟩
  | .sl s,t,hf,hv,h=>by
    have hf':=hf
    simp only [fits] at hf
    split at hf
    case h_2=>cases hf
    rename_i hu
    obtain ⟨y,z,u,rfl⟩:=WideShapes.okWide_slice hu hv
    obtain ⟨v,h1,h2⟩:=arg_one hf' rfl h
    exact ⟨v,h1,h2⟩
end
theorem law_ok {P:Program} {f:FuncId} {args:List AV} {vals:Array Value} {W:World} (h:Con P f 0 [] args [] (.p (.bool true))) (hl:args.length=vals.size)
    (ha:∀ j,j<args.length→VR W (fun _=>none) no (args.getD j anyA) (vals.getD j undef)) :
    Calls P f vals W fun e W'=>e=.returned (.bool true)∧RowKit.Below W.heap.size W W':=by
  refine (h.2 W (fun _=>none) (fun _=>False) vals (fun b h=>h.elim) (fun o ob h=>by simp [lk] at h) (fun o o' ob ob' a a' h=>by simp [lk] at h) (fun k h=>absurd rfl h) hl ha).mono ?_
  rintro e W' ⟨v,β',rfl,_,_,hv,hext,_,_,_⟩
  cases hv with
  | p _ _ hp =>
    cases hp with
    | bool b=>exact ⟨rfl,hext.os,hext.tape,hext.output,hext.size,fun k hk=>hext.block true k hk no_no⟩
mutual
def smS:(s:Sh)→s.T→Prop
  | .int _,_=>True
  | .bool,_=>True
  | .str,x=>(show ByteArray from x).size≤1048576
  | .st l,v=>smL l v
  | .sl s,v=>v.1≤1048576∧∀ i,i<v.1→smS s (v.2 i)
def smL:(l:List Sh)→TL l→Prop
  | [],_=>True
  | s::l,v=>smS s v.1∧smL l v.2
end
theorem notf {b:Bool} (h:b=false):(!b)=true:=by subst h;rfl
theorem nott {b:Bool} (h:b=true):(!b)=false:=by subst h;rfl
theorem anda {a b:Bool} (h:a=true) (h':b=true):(a&&b)=true:=by subst h;subst h';rfl
theorem mixed:Try.prog.follows .mixedOrders=true:=by kernel_rfl
theorem Con.arg_ext {P:Program} {f:FuncId} {n:Nat} {H H':Hp} {args args':List AV} {res:AV} (h:Con P f n H args H' res) (hw:All (wkL args' args)):Con P f n H args' H' res:=by
  refine ⟨h.en,fun w β X vals hX hH hS hd hl ha=>?_⟩
  have hlen:=wkL_length _ _ hw
  refine h.go w β X vals hX hH hS hd (by omega) (fun j hj=>?_)
  exact wk_ok (ha j (by omega)) _ (wkL_getD _ _ j hw (by omega))
def AA (n:Nat) (f:Nat→List AV):Prop:=∀ i,i<n→(All []∧f i=f i)
def AP (n:Nat) (f:Nat→List PV):Prop:=∀ i,i<n→f i=f i
abbrev AG (b:Bool):Prop:=b=true→b=true
def AE (n:Nat):Prop:=∀ i,i<n→All []
abbrev AN (n:Nat):Prop:=n=n
abbrev AI (n:Int):Prop:=n=n
theorem aA (n:Nat) (f:Nat→List AV):AA n f:=fun _ _=>⟨trivial,rfl⟩
theorem aP (n:Nat) (f:Nat→List PV):AP n f:=fun _ _=>rfl
theorem aG (b:Bool):AG b:=fun h=>h
theorem aE (n:Nat):AE n:=fun _ _=>trivial
@[simp] theorem aEt (n:Nat):AE n=True:=eq_true (aE n)
@[simp] theorem aPt (n:Nat) (f:Nat→List PV):AP n f=True:=eq_true (aP n f)
@[simp] theorem aAt (n:Nat) (f:Nat→List AV):AA n f=True:=eq_true (aA n f)
theorem aI {p:Prop} {r:List Prop} (h:p) (k:All r):All (p::r):=⟨h,k⟩
theorem aN:All []:=trivial
theorem fT {p:Prop} (h:false=true):p:=absurd h Bool.false_ne_true
def rg (n:Nat):ScI:=.reg (List.replicate n oT)
def rm (l:List (Nat×OpS)) (n:Nat):ScI:=.reg (l.foldr (fun p r=>List.replicate p.1 oT++p.2::r) (List.replicate n oT))
def oc (H:Hp) (R:AV):OpS:=⟨true,some ⟨[],[],[],1,H,R⟩,none⟩
def oq (p:List Id) (H:Hp) (R:AV):OpS:=⟨true,some ⟨p,[],[],1,H,R⟩,none⟩
def gF:OpS:=⟨true,none,some false⟩
def gT:OpS:=⟨true,none,some true⟩
abbrev NT (a b:Nat):Prop:=a<b
abbrev NL (a b:Nat):Prop:=a≤b
abbrev IT (a b:Int):Prop:=a<b
abbrev IL (a b:Int):Prop:=a≤b
abbrev ZLo (a:Int):Prop:=-9223372036854775808≤a
abbrev ZHi (a:Int):Prop:=a≤9223372036854775807
abbrev CV (H:Hp) (k:List K) (d n:Nat) (f g:Nat→List AV):Prop:=∀ i,i<n→(All (cvtL false H k d (f i)).2∧(cvtL false H k d (f i)).1=g i)
noncomputable abbrev zf1:List Item:=[.code (cAt (bodyOf Try.f18) [1,1,1,1,1,0,1,0,0,1,0,0,1,1,1,0,0,1,0,0,1,0,0]),.inLoop (cAt (bodyOf Try.f18) [1,1,1,1,1,0,1,0,0,1,0,0,1,1,1,0,0,1,0,0,1,0,0]),.inBlock 4,.inBlock 3,.code (cAt (bodyOf Try.f18) [1,1,1,1,1,0,1,0,0,1,0,0,1,1,1,0,0,1,1]),.inLoop (cAt (bodyOf Try.f18) [1,1,1,1,1,0,1,0,0,1,0,0,1,1,1,0,0]),.inBlock 2,.inBlock 1,.code (cAt (bodyOf Try.f18) [1,1,1,1,1,0,1,0,0,1,1]),.inLoop (cAt (bodyOf Try.f18) [1,1,1,1,1,0,1,0,0]),.inBlock 0,.code (cAt (bodyOf Try.f18) [1,1,1,1,1,1])]
noncomputable abbrev zf2:List Item:=[.code (cAt (bodyOf Try.f20) [1,1,1,0,1,0,0,1,1,0,0,1,1,0,0,1,1,0,0,1,1,0,0]),.inLoop (cAt (bodyOf Try.f20) [1,1,1,0,1,0,0,1,1,0,0,1,1,0,0,1,1,0,0,1,1,0,0]),.inBlock 4,.inBlock 3,.code (cAt (bodyOf Try.f20) [1,1,1,0,1,0,0,1,1,0,0,1,1,0,0,1,1,1]),.inLoop (cAt (bodyOf Try.f20) [1,1,1,0,1,0,0,1,1,0,0,1,1,0,0]),.inBlock 2,.inBlock 1,.code (cAt (bodyOf Try.f20) [1,1,1,0,1,0,0,1,1,1]),.inLoop (cAt (bodyOf Try.f20) [1,1,1,0,1,0,0]),.inBlock 0,.code (cAt (bodyOf Try.f20) [1,1,1,1])]
noncomputable abbrev zf3:List Item:=[.code (cAt (bodyOf Try.f67) [1,1,1,1,0,1,0,0,1,1,0,0,1,1,1,1,1,1,0,0,1,1,0,0,1,1,0,1,1]),.inBlock 5,.code (cAt (bodyOf Try.f67) [1,1,1,1,0,1,0,0,1,1,0,0,1,1,1,1,1,1,0,0,1,1,1]),.inLoop (cAt (bodyOf Try.f67) [1,1,1,1,0,1,0,0,1,1,0,0,1,1,1,1,1,1,0,0]),.inBlock 4,.inBlock 3,.code (cAt (bodyOf Try.f67) [1,1,1,1,0,1,0,0,1,1,1]),.inLoop (cAt (bodyOf Try.f67) [1,1,1,1,0,1,0,0]),.inBlock 2,.code (cAt (bodyOf Try.f67) [1,1,1,1,1])]
noncomputable abbrev zf4:List Item:=[.code (cAt (bodyOf Try.f63) [1,1,0,1,0,0,1,1,0,0,1,1,1,1,0,1,0,0]),.inLoop (cAt (bodyOf Try.f63) [1,1,0,1,0,0,1,1,0,0,1,1,1,1,0,1,0,0]),.inBlock 2,.code (cAt (bodyOf Try.f63) [1,1,0,1,0,0,1,1,0,0,1,1,1,1,1]),.inBlock 1,.code (cAt (bodyOf Try.f63) [1,1,0,1,0,0,1,1,1]),.inLoop (cAt (bodyOf Try.f63) [1,1,0,1,0,0]),.inBlock 0,.code (cAt (bodyOf Try.f63) [1,1,1])]
noncomputable abbrev zf5:List Item:=[.code (cAt (bodyOf Try.f13) [1,1,1,0,1,0,0,1,0,0,1,1,0,1,0,0]),.inLoop (cAt (bodyOf Try.f13) [1,1,1,0,1,0,0,1,0,0,1,1,0,1,0,0]),.inBlock 2,.code (cAt (bodyOf Try.f13) [1,1,1,0,1,0,0,1,0,0,1,1,1]),.inBlock 1,.code (cAt (bodyOf Try.f13) [1,1,1,0,1,0,0,1,1]),.inLoop (cAt (bodyOf Try.f13) [1,1,1,0,1,0,0]),.inBlock 0,.code (cAt (bodyOf Try.f13) [1,1,1,1])]
noncomputable abbrev zf6:List Item:=[.code (cAt (bodyOf Try.f65) [1,1,0,1,0,0,1,0,0,1,0,1,0,0]),.inLoop (cAt (bodyOf Try.f65) [1,1,0,1,0,0,1,0,0,1,0,1,0,0]),.inBlock 2,.code (cAt (bodyOf Try.f65) [1,1,0,1,0,0,1,0,0,1,1]),.inBlock 1,.code (cAt (bodyOf Try.f65) [1,1,0,1,0,0,1,1]),.inLoop (cAt (bodyOf Try.f65) [1,1,0,1,0,0]),.inBlock 0,.code (cAt (bodyOf Try.f65) [1,1,1])]
noncomputable abbrev zf7 (x0:(Int×(Nat×(Nat→(Int×Int×Int×Int×Unit)))×Unit)) (x1:(Int×(Nat×(Nat→(Int×Int×Int×Int×Unit)))×Unit)):Hp:=[(0,⟨false,4,x0.2.1.1,(fun i_1=>[.p (.int .i64 ((x0.2.1.2 i_1).1)),.p (.int .i64 ((x0.2.1.2 i_1).2.1)),.p (.int .i64 ((x0.2.1.2 i_1).2.2.1)),.p (.int .i64 ((x0.2.1.2 i_1).2.2.2.1))])⟩),(1,⟨false,4,x1.2.1.1,(fun i_1=>[.p (.int .i64 ((x1.2.1.2 i_1).1)),.p (.int .i64 ((x1.2.1.2 i_1).2.1)),.p (.int .i64 ((x1.2.1.2 i_1).2.2.1)),.p (.int .i64 ((x1.2.1.2 i_1).2.2.2.1))])⟩)]
noncomputable abbrev zf8:List Item:=[.code (cAt (bodyOf Try.f67) [1,1,1,1,0,1,0,0,1,1,0,0,1,1,1,1,1,1,0,0]),.inLoop (cAt (bodyOf Try.f67) [1,1,1,1,0,1,0,0,1,1,0,0,1,1,1,1,1,1,0,0]),.inBlock 4,.inBlock 3,.code (cAt (bodyOf Try.f67) [1,1,1,1,0,1,0,0,1,1,1]),.inLoop (cAt (bodyOf Try.f67) [1,1,1,1,0,1,0,0]),.inBlock 2,.code (cAt (bodyOf Try.f67) [1,1,1,1,1])]
noncomputable abbrev zf9:List Item:=[.code (cAt (bodyOf Try.f18) [1,1,1,1,1,0,1,0,0,1,0,0,1,1,1,0,0]),.inLoop (cAt (bodyOf Try.f18) [1,1,1,1,1,0,1,0,0,1,0,0,1,1,1,0,0]),.inBlock 2,.inBlock 1,.code (cAt (bodyOf Try.f18) [1,1,1,1,1,0,1,0,0,1,1]),.inLoop (cAt (bodyOf Try.f18) [1,1,1,1,1,0,1,0,0]),.inBlock 0,.code (cAt (bodyOf Try.f18) [1,1,1,1,1,1])]
noncomputable abbrev zf10:List Item:=[.code (cAt (bodyOf Try.f20) [1,1,1,0,1,0,0,1,1,0,0,1,1,0,0]),.inLoop (cAt (bodyOf Try.f20) [1,1,1,0,1,0,0,1,1,0,0,1,1,0,0]),.inBlock 2,.inBlock 1,.code (cAt (bodyOf Try.f20) [1,1,1,0,1,0,0,1,1,1]),.inLoop (cAt (bodyOf Try.f20) [1,1,1,0,1,0,0]),.inBlock 0,.code (cAt (bodyOf Try.f20) [1,1,1,1])]
noncomputable abbrev zf11:List Item:=[.code (cAt (bodyOf Try.f21) [1,1,1,0,1,0,0,1,0,0,1,0,0]),.inLoop (cAt (bodyOf Try.f21) [1,1,1,0,1,0,0,1,0,0,1,0,0]),.inBlock 2,.inBlock 1,.code (cAt (bodyOf Try.f21) [1,1,1,0,1,0,0,1,1]),.inLoop (cAt (bodyOf Try.f21) [1,1,1,0,1,0,0]),.inBlock 0,.code (cAt (bodyOf Try.f21) [1,1,1,1])]
noncomputable abbrev zf12 (x0:Nat) (x1:Nat→Int) (x2:Nat×Int) (x3:(Int×(Nat×(Nat→(Int×Int×Int×Int×Unit)))×Unit)):Hp:=[(0,⟨true,3,1,(fun i=>[.p (.seq false 1 x0 (fun i_1=>[.int .u8 (x1 i_1)])),.p (.int .i64 (↑x2.1:Int)),.p (.int .i64 x2.2)])⟩),(1,⟨false,4,x3.2.1.1,(fun i=>[.p (.int .i64 ((x3.2.1.2 i).1)),.p (.int .i64 ((x3.2.1.2 i).2.1)),.p (.int .i64 ((x3.2.1.2 i).2.2.1)),.p (.int .i64 ((x3.2.1.2 i).2.2.2.1))])⟩)]
noncomputable abbrev zf13:List Item:=[.code (cAt (bodyOf Try.f8) [1,1,1,0,1,0,0,1,0,0,1,0,1,0,1]),.code (cAt (bodyOf Try.f8) [1,1,1,0,1,0,0,1,0,0,1,1]),.inBlock 1,.code (cAt (bodyOf Try.f8) [1,1,1,0,1,0,0,1,1]),.inLoop (cAt (bodyOf Try.f8) [1,1,1,0,1,0,0]),.inBlock 0,.code (cAt (bodyOf Try.f8) [1,1,1,1])]
noncomputable abbrev zf14:List Item:=[.code (cAt (bodyOf Try.f8) [1,1,1,0,1,0,0,1,0,0,1,1,0]),.code (cAt (bodyOf Try.f8) [1,1,1,0,1,0,0,1,0,0,1,1,1]),.inBlock 1,.code (cAt (bodyOf Try.f8) [1,1,1,0,1,0,0,1,1]),.inLoop (cAt (bodyOf Try.f8) [1,1,1,0,1,0,0]),.inBlock 0,.code (cAt (bodyOf Try.f8) [1,1,1,1])]
noncomputable abbrev zf15 (x0:(Int×(Nat×(Nat→(Int×Int×Int×Int×Unit)))×Unit)) (x1:(Nat×(Nat→Int))):Hp:=[(0,⟨false,4,x0.2.1.1,(fun i_1=>[.p (.int .i64 ((x0.2.1.2 i_1).1)),.p (.int .i64 ((x0.2.1.2 i_1).2.1)),.p (.int .i64 ((x0.2.1.2 i_1).2.2.1)),.p (.int .i64 ((x0.2.1.2 i_1).2.2.2.1))])⟩),(1,⟨false,1,x1.1,(fun i_1=>[.p (.int .i64 (x1.2 i_1))])⟩)]
noncomputable abbrev zf16:List Item:=[.code (cAt (bodyOf Try.f8) [1,1,1,0,1,0,0,1,0,0,1,1,1,0,1]),.inBlock 1,.code (cAt (bodyOf Try.f8) [1,1,1,0,1,0,0,1,1]),.inLoop (cAt (bodyOf Try.f8) [1,1,1,0,1,0,0]),.inBlock 0,.code (cAt (bodyOf Try.f8) [1,1,1,1])]
noncomputable abbrev zf17 (x0:(Int×(Nat×(Nat→(Int×Int×Int×Int×Unit)))×Unit)):AV:=.agg [.p (.int .i64 x0.1),.p (.seq true 4 x0.2.1.1 (fun i_1=>[.int .i64 ((x0.2.1.2 i_1).1),.int .i64 ((x0.2.1.2 i_1).2.1),.int .i64 ((x0.2.1.2 i_1).2.2.1),.int .i64 ((x0.2.1.2 i_1).2.2.2.1)]))]
noncomputable abbrev zf18 (x0:(Int×(Nat×(Nat→(Int×Int×Int×Int×Unit)))×Unit)):Hp:=[(0,⟨false,4,x0.2.1.1,(fun i_1=>[.p (.int .i64 ((x0.2.1.2 i_1).1)),.p (.int .i64 ((x0.2.1.2 i_1).2.1)),.p (.int .i64 ((x0.2.1.2 i_1).2.2.1)),.p (.int .i64 ((x0.2.1.2 i_1).2.2.2.1))])⟩)]
noncomputable abbrev zf19 (x0:(Int×(Nat×(Nat→(Int×Int×Int×Int×Unit)))×Unit)):AV:=.agg [.p (.int .i64 x0.1),.p (.seq true 4 x0.2.1.1 (fun i=>[.int .i64 ((x0.2.1.2 i).1),.int .i64 ((x0.2.1.2 i).2.1),.int .i64 ((x0.2.1.2 i).2.2.1),.int .i64 ((x0.2.1.2 i).2.2.2.1)]))]
noncomputable abbrev zf20:List Item:=[.code (cAt (bodyOf Try.f18) [1,1,1,1,1,1,0,1,0,0]),.inLoop (cAt (bodyOf Try.f18) [1,1,1,1,1,1,0,1,0,0]),.inBlock 6,.code (cAt (bodyOf Try.f18) [1,1,1,1,1,1,1])]
noncomputable abbrev zf21 (x0:(Int×(Nat×(Nat→(Int×Int×Int×Int×Unit)))×Unit)):Hp:=[(0,⟨false,4,x0.2.1.1,(fun i=>[.p (.int .i64 ((x0.2.1.2 i).1)),.p (.int .i64 ((x0.2.1.2 i).2.1)),.p (.int .i64 ((x0.2.1.2 i).2.2.1)),.p (.int .i64 ((x0.2.1.2 i).2.2.2.1))])⟩)]
noncomputable abbrev zf22:List Item:=[.code (cAt (bodyOf Try.f18) [1,1,1,1,1,0,1,0,0]),.inLoop (cAt (bodyOf Try.f18) [1,1,1,1,1,0,1,0,0]),.inBlock 0,.code (cAt (bodyOf Try.f18) [1,1,1,1,1,1])]
noncomputable abbrev zf23:List Item:=[.code (cAt (bodyOf Try.f67) [1,1,1,1,0,1,0,0]),.inLoop (cAt (bodyOf Try.f67) [1,1,1,1,0,1,0,0]),.inBlock 2,.code (cAt (bodyOf Try.f67) [1,1,1,1,1])]
noncomputable abbrev zf24:List Item:=[.code (cAt (bodyOf Try.f7) [1,1,1,1,0,1,0,0]),.inLoop (cAt (bodyOf Try.f7) [1,1,1,1,0,1,0,0]),.inBlock 0,.code (cAt (bodyOf Try.f7) [1,1,1,1,1])]
noncomputable abbrev zf25 (x0:Nat) (x1:Nat) (x2:Nat→(Int×Int×Int×Int×Unit)):AV:=.agg [.p (.int .i64 (↑x0:Int)),.p (.seq true 4 x1 (fun i=>[.int .i64 ((x2 i).1),.int .i64 ((x2 i).2.1),.int .i64 ((x2 i).2.2.1),.int .i64 ((x2 i).2.2.2.1)]))]
noncomputable abbrev zf26:List Item:=[.code (cAt (bodyOf Try.f67) [1,1,1,0,1,0,0]),.inLoop (cAt (bodyOf Try.f67) [1,1,1,0,1,0,0]),.inBlock 0,.code (cAt (bodyOf Try.f67) [1,1,1,1])]
noncomputable abbrev zf27:List Item:=[.code (cAt (bodyOf Try.f12) [1,1,1,0,1,0,0]),.inLoop (cAt (bodyOf Try.f12) [1,1,1,0,1,0,0]),.inBlock 0,.code (cAt (bodyOf Try.f12) [1,1,1,1])]
noncomputable abbrev zf28:List Item:=[.code (cAt (bodyOf Try.f13) [1,1,1,0,1,0,0]),.inLoop (cAt (bodyOf Try.f13) [1,1,1,0,1,0,0]),.inBlock 0,.code (cAt (bodyOf Try.f13) [1,1,1,1])]
noncomputable abbrev zf29:List Item:=[.code (cAt (bodyOf Try.f71) [1,1,1,0,1,0,0]),.inLoop (cAt (bodyOf Try.f71) [1,1,1,0,1,0,0]),.inBlock 0,.code (cAt (bodyOf Try.f71) [1,1,1,1])]
noncomputable abbrev zf30:List Item:=[.code (cAt (bodyOf Try.f20) [1,1,1,0,1,0,0]),.inLoop (cAt (bodyOf Try.f20) [1,1,1,0,1,0,0]),.inBlock 0,.code (cAt (bodyOf Try.f20) [1,1,1,1])]
noncomputable abbrev zf31:List Item:=[.code (cAt (bodyOf Try.f21) [1,1,1,0,1,0,0]),.inLoop (cAt (bodyOf Try.f21) [1,1,1,0,1,0,0]),.inBlock 0,.code (cAt (bodyOf Try.f21) [1,1,1,1])]
noncomputable abbrev zf32:List Item:=[.code (cAt (bodyOf Try.f8) [1,1,1,0,1,0,0]),.inLoop (cAt (bodyOf Try.f8) [1,1,1,0,1,0,0]),.inBlock 0,.code (cAt (bodyOf Try.f8) [1,1,1,1])]
noncomputable abbrev zf33 (x0:Int) (x1:Nat) (x2:Nat→(Int×Int×Int×Int×Unit)):AV:=.agg [.p (.int .i64 x0),.p (.seq true 4 x1 (fun i=>[.int .i64 ((x2 i).1),.int .i64 ((x2 i).2.1),.int .i64 ((x2 i).2.2.1),.int .i64 ((x2 i).2.2.2.1)]))]
noncomputable abbrev zf34:List Item:=[.code (cAt (bodyOf Try.f26) [1,1,0,1,0,0]),.inLoop (cAt (bodyOf Try.f26) [1,1,0,1,0,0]),.inBlock 0,.code (cAt (bodyOf Try.f26) [1,1,1])]
noncomputable abbrev zf35:List Item:=[.code (cAt (bodyOf Try.f66) [1,1,0,1,0,0]),.inLoop (cAt (bodyOf Try.f66) [1,1,0,1,0,0]),.inBlock 0,.code (cAt (bodyOf Try.f66) [1,1,1])]
noncomputable abbrev zf36:List Item:=[.code (cAt (bodyOf Try.f64) [1,1,0,1,0,0]),.inLoop (cAt (bodyOf Try.f64) [1,1,0,1,0,0]),.inBlock 0,.code (cAt (bodyOf Try.f64) [1,1,1])]
noncomputable abbrev zf37:List Item:=[.code (cAt (bodyOf Try.f65) [1,1,0,1,0,0]),.inLoop (cAt (bodyOf Try.f65) [1,1,0,1,0,0]),.inBlock 0,.code (cAt (bodyOf Try.f65) [1,1,1])]
noncomputable abbrev zf38:List Item:=[.code (cAt (bodyOf Try.f63) [1,1,0,1,0,0]),.inLoop (cAt (bodyOf Try.f63) [1,1,0,1,0,0]),.inBlock 0,.code (cAt (bodyOf Try.f63) [1,1,1])]
noncomputable abbrev zf39:List Item:=[.code (cAt (bodyOf Try.f11) [1,1,0,1,0,0]),.inLoop (cAt (bodyOf Try.f11) [1,1,0,1,0,0]),.inBlock 0,.code (cAt (bodyOf Try.f11) [1,1,1])]
noncomputable abbrev zf40:List Item:=[.code (cAt (bodyOf Try.f56) [1,1,0,1,0,0]),.inLoop (cAt (bodyOf Try.f56) [1,1,0,1,0,0]),.inBlock 0,.code (cAt (bodyOf Try.f56) [1,1,1])]
noncomputable abbrev zf41:List Item:=[.code (cAt (bodyOf Try.f57) [1,1,0,1,0,0]),.inLoop (cAt (bodyOf Try.f57) [1,1,0,1,0,0]),.inBlock 0,.code (cAt (bodyOf Try.f57) [1,1,1])]
noncomputable abbrev zf42:List Item:=[.code (cAt (bodyOf Try.f74) [1,1,0,1,0,0]),.inLoop (cAt (bodyOf Try.f74) [1,1,0,1,0,0]),.inBlock 0,.code (cAt (bodyOf Try.f74) [1,1,1])]
noncomputable abbrev zf43:List Item:=[.code (cAt (bodyOf Try.f24) [1,1,0,1,0,0]),.inLoop (cAt (bodyOf Try.f24) [1,1,0,1,0,0]),.inBlock 0,.code (cAt (bodyOf Try.f24) [1,1,1])]
noncomputable abbrev zf44:List Item:=[.code (cAt (bodyOf Try.f23) [1,1,0,1,0,0]),.inLoop (cAt (bodyOf Try.f23) [1,1,0,1,0,0]),.inBlock 0,.code (cAt (bodyOf Try.f23) [1,1,1])]
noncomputable abbrev zf45:List Item:=[.code (cAt (bodyOf Try.f9) [1,1,0,1,0,0]),.inLoop (cAt (bodyOf Try.f9) [1,1,0,1,0,0]),.inBlock 0,.code (cAt (bodyOf Try.f9) [1,1,1])]
noncomputable abbrev zf46:List Item:=[.code (cAt (bodyOf Try.f15) [1,0,1,0,0]),.inLoop (cAt (bodyOf Try.f15) [1,0,1,0,0]),.inBlock 0,.code (cAt (bodyOf Try.f15) [1,1])]
noncomputable abbrev zf47:List Item:=[.code (cAt (bodyOf Try.f68) [1,0,1,0,0]),.inLoop (cAt (bodyOf Try.f68) [1,0,1,0,0]),.inBlock 0,.code (cAt (bodyOf Try.f68) [1,1])]
noncomputable abbrev zf48:List Item:=[.code (cAt (bodyOf Try.f17) [1,0,1,0,0]),.inLoop (cAt (bodyOf Try.f17) [1,0,1,0,0]),.inBlock 0,.code (cAt (bodyOf Try.f17) [1,1])]
noncomputable abbrev zf49 (x0:Nat) (x1:Nat→Int) (x2:Nat×Int):Hp:=[(0,⟨true,3,1,(fun i=>[.p (.seq false 1 x0 (fun i_1=>[.int .u8 (x1 i_1)])),.p (.int .i64 (↑x2.1:Int)),.p (.int .i64 x2.2)])⟩)]
noncomputable abbrev zf50 (x0:Nat) (x1:Nat→(Int×Int×Unit)):Hp:=[(0,⟨false,2,x0,(fun i=>[.p (.int .i64 ((x1 i).1)),.p (.int .i64 ((x1 i).2.1))])⟩)]
theorem pkZ {c:Cx} {f:FuncId} {fn:Func} {n:Nat} {sc:List ScI} {k:List Item} {st:St} {keep:List K} {d:Nat} {H':Hp} {res:AV} {ob:List Prop} (hf:Try.prog.funcs[f]? = some fn) (hc:c.n=n)
    (h:pathOb Try.prog fn n sc k st keep d H' res=some ob) (hob:All ob):Run Try.prog c f k st (Post c H' res):=path_ok mixed hf hc h hob
theorem pcZ {c:Cx} {f:FuncId} {R:Ending→World→Prop} {n:Nat} {sc:List ScI} {k k2:List Item} {st st2:St} {keep:List K} {d:Nat} {ob:List Prop} (hc:c.n=n)
    (h:pieceOb Try.prog n sc k st keep d st2=some (k2,ob)) (hob:All ob) (hr:Run Try.prog c f k2 st2 R):Run Try.prog c f k st R:=piece_ok mixed hc h hob hr
theorem csZ {f:FuncId} {fn:Func} {n:Nat} {H H':Hp} {args:List AV} {res:AV} (hf:Try.prog.funcs[f]? = some fn)
    (hrun:∀ c:Cx,c.n=n→Run Try.prog c f [.code (bodyOf fn)] (start fn H n args) (Post c H' res)) (hb:fn.body=some (bodyOf fn):=by exact rfl) (hen:enterable Try.prog f=true:=by kernel_rfl)
    (hkeys:(H.all fun e=>Nat.blt e.1 n)=true:=by exact rfl):Con Try.prog f n H args H' res:=con_start hf hb hen hkeys hrun
def bRw (g : Nat → Int × Int × Unit) : Nat → List PV := fun i => [.int .i64 (g i).1, .int .i64 (g i).2.1]
def iRw (w : Nat × (Nat → Int)) : Nat → List PV := fun i => [.int .i64 (w.2 i)]
def vKz (v : Int × (Nat × (Nat → Int × Int × Unit)) × Unit) (k : Nat) : Int × Int × Unit := v.2.1.2 (k : Int).toNat
def zD (l : List Prop) (n : List Nat) : List Prop := n.map fun i => l.getD i True
theorem zA {l : List Prop} (h : All l) : ∀ n, All (zD l n)
  | [] => trivial
  | i :: n => ⟨by
    show l.getD i True
    induction l generalizing i with
    | nil => exact trivial
    | cons a r ih =>
      cases i with
      | zero => exact h.1
      | succ i => exact ih h.2 i, zA h n⟩
noncomputable abbrev zE (f : FuncId) (a : List AV) (H : Hp) (r : AV) : Prop := Con Try.prog f 0 [] a H r
noncomputable abbrev zR (c : Cx) (f : FuncId) := Run Try.prog c f
noncomputable abbrev zP := pathOb Try.prog
noncomputable abbrev zM := pieceOb Try.prog
noncomputable abbrev zS (f : Func) (s : List ScI) (a : List AV) (k : List K) := pathOb Try.prog f 0 s [.code (bodyOf f)] (start f [] 0 a) k 1
noncomputable abbrev zT (f : Func) (s : List ScI) (a : List AV) (k : List K) (t : St) := pieceOb Try.prog 0 s [.code (bodyOf f)] (start f [] 0 a) k 1 t
theorem pkD {c : Cx} {f : FuncId} {fn : Func} {n : Nat} {sc : List ScI} {k : List Item} {st : St} {keep : List K} {d : Nat} {H' : Hp} {res : AV} {ob : List Prop} {is : List Nat} (hf : Try.prog.funcs[f]? = some fn) (hc : c.n = n)
    (h : pathOb Try.prog fn n sc k st keep d H' res = some (zD ob is)) (hob : All ob) : Run Try.prog c f k st (Post c H' res) := path_ok mixed hf hc h (zA hob is)
theorem pcD {c : Cx} {f : FuncId} {R : Ending → World → Prop} {n : Nat} {sc : List ScI} {k k2 : List Item} {st st2 : St} {keep : List K} {d : Nat} {ob : List Prop} {is : List Nat} (hc : c.n = n)
    (h : pieceOb Try.prog n sc k st keep d st2 = some (k2, zD ob is)) (hob : All ob) (hr : Run Try.prog c f k2 st2 R) : Run Try.prog c f k st R := piece_ok mixed hc h (zA hob is) hr
theorem zN {p : Prop} (h : p := by first | exact aG _ | exact aP _ _ | exact aA _ _ | exact aE _ | omega | rfl | (intros; first | assumption | exact trivial | rfl)) : p := h
theorem zI {p : Prop} (h : p := by first | exact aG _ | exact aP _ _ | exact aA _ _ | exact aE _ | omega | rfl | (intros; first | assumption | exact trivial | rfl | exact fT ‹_›)) : p := h
theorem zH {p : Prop} (h : p := by first | exact aG _ | exact aP _ _ | exact aA _ _ | exact aE _ | omega | rfl | (intros; first | assumption | exact trivial | rfl | exact fT ‹_› | ((repeat' (first | assumption | apply anda | apply notf)) <;> fail))) : p := h
abbrev T_IntS:=Nat×(Nat→Int)
abbrev T_Bar:=Int×Int×Unit
abbrev T_BarS:=Nat×(Nat→T_Bar)
def s_Graph:Sh:=(.st [(.int .i64),(.sl (.st [(.int .i64),(.int .i64)]))])
abbrev T_Graph:=Int×T_BarS×Unit
abbrev T_GainBar:=Int×Int×Int×Int×Unit
abbrev T_GainBarS:=Nat×(Nat→T_GainBar)
def s_GainGraph:Sh:=(.st [(.int .i64),(.sl (.st [(.int .i64),(.int .i64),(.int .i64),(.int .i64)]))])
abbrev T_GainGraph:=Int×T_GainBarS×Unit
def q1_BarS (a b:T_Bar):Bool:=a.1==b.1&&(a.2.1==b.2.1&&true)
def qT_BarS (g h:Nat→T_Bar):Nat→Bool
  | 0=>true
  | k+1=>qT_BarS g h k&&q1_BarS (g k) (h k)
def q_BarS (v u:T_BarS):Bool:=if v.1=u.1 then qT_BarS v.2 u.2 v.1 else false
theorem qT_BarS_bad (g h:Nat→T_Bar) (k:Nat) (e:q1_BarS (g k) (h k)=false):∀ n,k<n→qT_BarS g h n=false
  | 0,h'=>by omega
  | n+1,h'=>by
    by_cases e':k=n
    · subst e';simp [qT_BarS,e]
    · simp [qT_BarS,qT_BarS_bad g h k e n (by omega)]
def inB (x a b:Int):Bool:=decide (a≤x)&&decide (x≤b)
theorem p36 (x a b:Int) :
    zS Try.f62 [rg 1,rg 9] [.p (.int .i64 x),.p (.int .i64 a),.p (.int .i64 b)] [] [] (.p (.bool (inB x a b))) =
    some (zD [(AG (decide (x≥a))),((bif decide (x≥a) then decide (x≤b) else false)=(inB x a b))] [0,0,0,1]):=by kernel_rfl
theorem p37 (x a b:Int) :
    zS Try.f60 [rg 1,rg 9] [.p (.int .i64 x),.p (.int .i64 a),.p (.int .i64 b)] [] [] (.p (.bool (inB x a b))) =
    some (zD [(AG (decide (x≥a))),((bif decide (x≥a) then decide (x≤b) else false)=(inB x a b))] [0,0,0,1]):=by kernel_rfl
theorem con_l1In (x a b:Int):zE 62 [.p (.int .i64 x),.p (.int .i64 a),.p (.int .i64 b)] [] (.p (.bool (inB x a b))):=by
  refine csZ Try.func62 (fun c hc=>?_)
  refine pkD Try.func62 hc (p36 x a b) ?_
  and_intros
  all_goals (first | exact zN | (simp only [inB];cases decide (a≤x)<;>rfl))
theorem con_within (x a b:Int):zE 60 [.p (.int .i64 x),.p (.int .i64 a),.p (.int .i64 b)] [] (.p (.bool (inB x a b))):=by
  refine csZ Try.func60 (fun c hc=>?_)
  refine pkD Try.func60 hc (p37 x a b) ?_
  and_intros
  all_goals (first | exact zN | (simp only [inB];cases decide (a≤x)<;>rfl))
def badG (N:Int) (b:T_GainBar):Bool :=
  bif bif bif bif bif decide (b.1<0) then true else decide (b.1>b.2.1) then true else decide (b.2.1≥N) then true else !inB b.2.2.1 (-9) 9 then true else !inB b.2.2.2.1 (-9) 9 then true
    else bif bif b.1==b.2.1 then b.2.2.1==0 else false then b.2.2.2.1==0 else false
def goodG (v:T_GainGraph):Nat→Bool
  | 0=>true
  | k+1=>goodG v k&&!badG v.1 (v.2.1.2 k)
def isGainF (v:T_GainGraph):Bool:=goodG v v.2.1.1&&(inB v.1 1 4&&decide (v.2.1.1≤8))
def gainA (v:T_GainGraph):AV:=.agg [.p (.int .i64 v.1),.p (.seq true 4 v.2.1.1 (fun i=>[.int .i64 (v.2.1.2 i).1,.int .i64 (v.2.1.2 i).2.1,.int .i64 (v.2.1.2 i).2.2.1,.int .i64 (v.2.1.2 i).2.2.2.1]))]
def gainL (v:T_GainGraph):AV:=.p (.seq true 4 v.2.1.1 (fun i=>[.int .i64 (v.2.1.2 i).1,.int .i64 (v.2.1.2 i).2.1,.int .i64 (v.2.1.2 i).2.2.1,.int .i64 (v.2.1.2 i).2.2.2.1]))
def S17 (v:T_GainGraph) (k:Nat):St :=
  ⟨[gainA v,.pt 2 0 0 0,.p .any,.p (.int .i64 k)]++List.replicate 68 anyA,[(0,⟨true,2,1,fun i=>[.p (.int .i64 v.1),gainL v]⟩)],1⟩
def S19 (v:T_GainGraph) (k:Nat):St :=
  ⟨[gainA v,.pt 2 0 0 0,.p .any,.p .any,.p .any]++List.replicate 11 anyA++[gainL v,.p (.int .i64 v.2.1.1),.p (.int .i64 k)]++List.replicate 50 anyA,[(0,⟨true,2,1,fun i=>[.p (.int .i64 v.1),gainL v]⟩)],1⟩
theorem p17a (v:T_GainGraph) :
    zT Try.f15 [rg 2,rg 1,.head] [gainA v] [0] (S17 v 0) =
    some (zf46,zD [(AI v.1),(AN v.2.1.1),(AP v.2.1.1 (fun i=>[.int .i64 ((v.2.1.2 i).1),.int .i64 ((v.2.1.2 i).2.1),.int .i64 ((v.2.1.2 i).2.2.1),.int .i64 ((v.2.1.2 i).2.2.2.1)])),(AN 0),((0:Int)=(↑0:Int)),((([AV.p (PV.int IntKind.i64 v.1),AV.p (PV.seq true 4 v.2.1.1 fun i=>[PV.int IntKind.i64 (v.2.1.2 i).1,PV.int IntKind.i64 (v.2.1.2 i).2.1,PV.int IntKind.i64 (v.2.1.2 i).2.2.1,PV.int IntKind.i64 (v.2.1.2 i).2.2.2.1])].length):Nat)=2),(NL 1 1)] [0,1,2,3,4,5,6,6,0,1,2]):=by kernel_rfl
theorem p17b (v:T_GainGraph) (k:Nat) :
    zM 0 [rg 5,.dec true,rg 7,rm [(20,oc [] (.p (.bool (inB (v.2.1.2 k).2.2.1 (-9) 9)))),(5,oc [] (.p (.bool (inB (v.2.1.2 k).2.2.2.1 (-9) 9))))] 19,.dec false,rg 3,.head] zf46 (S17 v k) [0] 1 (S17 v (k+1)) =
    some (zf46,zD [(NT 0 1),((decide ((↑k:Int)<(↑v.2.1.1:Int)))=true),(IL 0 (↑k:Int)),(IT (↑k:Int) (↑v.2.1.1:Int)),((true=true)→ (AN 1)),(AG (!decide ((v.2.1.2 (↑k:Int).toNat).1<0))),(((!decide ((v.2.1.2 (↑k:Int).toNat).1<0))=true)→(NT 0 1)),(((decide ((v.2.1.2 (↑k:Int).toNat).1<0))=false)→ ((!decide ((v.2.1.2 (↑k:Int).toNat).1<0))=true)),(AG (!bif decide ((v.2.1.2 (↑k:Int).toNat).1<0) then true else decide ((v.2.1.2 (↑k:Int).toNat).1>(v.2.1.2 (↑k:Int).toNat).2.1))),(((!bif decide ((v.2.1.2 (↑k:Int).toNat).1<0) then true else decide ((v.2.1.2 (↑k:Int).toNat).1>(v.2.1.2 (↑k:Int).toNat).2.1))=true)→(NT 0 1)),(((bif decide ((v.2.1.2 (↑k:Int).toNat).1<0) then true else decide ((v.2.1.2 (↑k:Int).toNat).1>(v.2.1.2 (↑k:Int).toNat).2.1))=false)→ ((!bif decide ((v.2.1.2 (↑k:Int).toNat).1<0) then true else decide ((v.2.1.2 (↑k:Int).toNat).1>(v.2.1.2 (↑k:Int).toNat).2.1))=true)),(AG (!bif bif decide ((v.2.1.2 (↑k:Int).toNat).1<0) then true else decide ((v.2.1.2 (↑k:Int).toNat).1>(v.2.1.2 (↑k:Int).toNat).2.1) then true else decide ((v.2.1.2 (↑k:Int).toNat).2.1≥v.1))),(((!bif bif decide ((v.2.1.2 (↑k:Int).toNat).1<0) then true else decide ((v.2.1.2 (↑k:Int).toNat).1>(v.2.1.2 (↑k:Int).toNat).2.1) then true else decide ((v.2.1.2 (↑k:Int).toNat).2.1≥v.1))=true)→(NT 0 1)),(((!bif bif decide ((v.2.1.2 (↑k:Int).toNat).1<0) then true else decide ((v.2.1.2 (↑k:Int).toNat).1>(v.2.1.2 (↑k:Int).toNat).2.1) then true else decide ((v.2.1.2 (↑k:Int).toNat).2.1≥v.1))=true)→ zE 62 [.p (.int .i64 ((v.2.1.2 k).2.2.1)),.p (.int .i64 (-9)),.p (.int .i64 9)] [] (.p (.bool (inB (v.2.1.2 k).2.2.1 (-9) 9)))),(((bif bif decide ((v.2.1.2 (↑k:Int).toNat).1<0) then true else decide ((v.2.1.2 (↑k:Int).toNat).1>(v.2.1.2 (↑k:Int).toNat).2.1) then true else decide ((v.2.1.2 (↑k:Int).toNat).2.1≥v.1))=false)→ ((!bif bif decide ((v.2.1.2 (↑k:Int).toNat).1<0) then true else decide ((v.2.1.2 (↑k:Int).toNat).1>(v.2.1.2 (↑k:Int).toNat).2.1) then true else decide ((v.2.1.2 (↑k:Int).toNat).2.1≥v.1))=true)),(AG (!bif bif bif decide ((v.2.1.2 (↑k:Int).toNat).1<0) then true else decide ((v.2.1.2 (↑k:Int).toNat).1>(v.2.1.2 (↑k:Int).toNat).2.1) then true else decide ((v.2.1.2 (↑k:Int).toNat).2.1≥v.1) then true else !inB (v.2.1.2 k).2.2.1 (-9) 9)),(((!bif bif bif decide ((v.2.1.2 (↑k:Int).toNat).1<0) then true else decide ((v.2.1.2 (↑k:Int).toNat).1>(v.2.1.2 (↑k:Int).toNat).2.1) then true else decide ((v.2.1.2 (↑k:Int).toNat).2.1≥v.1) then true else !inB (v.2.1.2 k).2.2.1 (-9) 9)=true)→(NT 0 1)),(((!bif bif bif decide ((v.2.1.2 (↑k:Int).toNat).1<0) then true else decide ((v.2.1.2 (↑k:Int).toNat).1>(v.2.1.2 (↑k:Int).toNat).2.1) then true else decide ((v.2.1.2 (↑k:Int).toNat).2.1≥v.1) then true else !inB (v.2.1.2 k).2.2.1 (-9) 9)=true)→ zE 62 [.p (.int .i64 ((v.2.1.2 k).2.2.2.1)),.p (.int .i64 (-9)),.p (.int .i64 9)] [] (.p (.bool (inB (v.2.1.2 k).2.2.2.1 (-9) 9)))),(((bif bif bif decide ((v.2.1.2 (↑k:Int).toNat).1<0) then true else decide ((v.2.1.2 (↑k:Int).toNat).1>(v.2.1.2 (↑k:Int).toNat).2.1) then true else decide ((v.2.1.2 (↑k:Int).toNat).2.1≥v.1) then true else !inB (v.2.1.2 k).2.2.1 (-9) 9)=false)→ ((!bif bif bif decide ((v.2.1.2 (↑k:Int).toNat).1<0) then true else decide ((v.2.1.2 (↑k:Int).toNat).1>(v.2.1.2 (↑k:Int).toNat).2.1) then true else decide ((v.2.1.2 (↑k:Int).toNat).2.1≥v.1) then true else !inB (v.2.1.2 k).2.2.1 (-9) 9)=true)),(AG (!bif bif bif bif decide ((v.2.1.2 (↑k:Int).toNat).1<0) then true else decide ((v.2.1.2 (↑k:Int).toNat).1>(v.2.1.2 (↑k:Int).toNat).2.1) then true else decide ((v.2.1.2 (↑k:Int).toNat).2.1≥v.1) then true else !inB (v.2.1.2 k).2.2.1 (-9) 9 then true else !inB (v.2.1.2 k).2.2.2.1 (-9) 9)),(((!bif bif bif bif decide ((v.2.1.2 (↑k:Int).toNat).1<0) then true else decide ((v.2.1.2 (↑k:Int).toNat).1>(v.2.1.2 (↑k:Int).toNat).2.1) then true else decide ((v.2.1.2 (↑k:Int).toNat).2.1≥v.1) then true else !inB (v.2.1.2 k).2.2.1 (-9) 9 then true else !inB (v.2.1.2 k).2.2.2.1 (-9) 9)=true)→(NT 0 1)),(AG ((!bif bif bif bif decide ((v.2.1.2 (↑k:Int).toNat).1<0) then true else decide ((v.2.1.2 (↑k:Int).toNat).1>(v.2.1.2 (↑k:Int).toNat).2.1) then true else decide ((v.2.1.2 (↑k:Int).toNat).2.1≥v.1) then true else !inB (v.2.1.2 k).2.2.1 (-9) 9 then true else !inB (v.2.1.2 k).2.2.2.1 (-9) 9)&&(v.2.1.2 k).1==(v.2.1.2 k).2.1)),((((!bif bif bif bif decide ((v.2.1.2 (↑k:Int).toNat).1<0) then true else decide ((v.2.1.2 (↑k:Int).toNat).1>(v.2.1.2 (↑k:Int).toNat).2.1) then true else decide ((v.2.1.2 (↑k:Int).toNat).2.1≥v.1) then true else !inB (v.2.1.2 k).2.2.1 (-9) 9 then true else !inB (v.2.1.2 k).2.2.2.1 (-9) 9)&&(v.2.1.2 k).1==(v.2.1.2 k).2.1)=true)→(NT 0 1)),(((!bif bif bif bif decide ((v.2.1.2 (↑k:Int).toNat).1<0) then true else decide ((v.2.1.2 (↑k:Int).toNat).1>(v.2.1.2 (↑k:Int).toNat).2.1) then true else decide ((v.2.1.2 (↑k:Int).toNat).2.1≥v.1) then true else !inB (v.2.1.2 k).2.2.1 (-9) 9 then true else !inB (v.2.1.2 k).2.2.2.1 (-9) 9)=true)→((((v.2.1.2 k).1==(v.2.1.2 k).2.1)=true)→ (((!bif bif bif bif decide ((v.2.1.2 (↑k:Int).toNat).1<0) then true else decide ((v.2.1.2 (↑k:Int).toNat).1>(v.2.1.2 (↑k:Int).toNat).2.1) then true else decide ((v.2.1.2 (↑k:Int).toNat).2.1≥v.1) then true else !inB (v.2.1.2 k).2.2.1 (-9) 9 then true else !inB (v.2.1.2 k).2.2.2.1 (-9) 9)&&(v.2.1.2 k).1==(v.2.1.2 k).2.1)=true))),(AG ((!bif bif bif bif decide ((v.2.1.2 (↑k:Int).toNat).1<0) then true else decide ((v.2.1.2 (↑k:Int).toNat).1>(v.2.1.2 (↑k:Int).toNat).2.1) then true else decide ((v.2.1.2 (↑k:Int).toNat).2.1≥v.1) then true else !inB (v.2.1.2 k).2.2.1 (-9) 9 then true else !inB (v.2.1.2 k).2.2.2.1 (-9) 9)&&bif (v.2.1.2 k).1==(v.2.1.2 k).2.1 then (v.2.1.2 k).2.2.1==0 else false)),((((!bif bif bif bif decide ((v.2.1.2 (↑k:Int).toNat).1<0) then true else decide ((v.2.1.2 (↑k:Int).toNat).1>(v.2.1.2 (↑k:Int).toNat).2.1) then true else decide ((v.2.1.2 (↑k:Int).toNat).2.1≥v.1) then true else !inB (v.2.1.2 k).2.2.1 (-9) 9 then true else !inB (v.2.1.2 k).2.2.2.1 (-9) 9)&&bif (v.2.1.2 k).1==(v.2.1.2 k).2.1 then (v.2.1.2 k).2.2.1==0 else false)=true)→(NT 0 1)),(((!bif bif bif bif decide ((v.2.1.2 (↑k:Int).toNat).1<0) then true else decide ((v.2.1.2 (↑k:Int).toNat).1>(v.2.1.2 (↑k:Int).toNat).2.1) then true else decide ((v.2.1.2 (↑k:Int).toNat).2.1≥v.1) then true else !inB (v.2.1.2 k).2.2.1 (-9) 9 then true else !inB (v.2.1.2 k).2.2.2.1 (-9) 9)=true)→(((bif (v.2.1.2 k).1==(v.2.1.2 k).2.1 then (v.2.1.2 k).2.2.1==0 else false)=true)→ (((!bif bif bif bif decide ((v.2.1.2 (↑k:Int).toNat).1<0) then true else decide ((v.2.1.2 (↑k:Int).toNat).1>(v.2.1.2 (↑k:Int).toNat).2.1) then true else decide ((v.2.1.2 (↑k:Int).toNat).2.1≥v.1) then true else !inB (v.2.1.2 k).2.2.1 (-9) 9 then true else !inB (v.2.1.2 k).2.2.2.1 (-9) 9)&&bif (v.2.1.2 k).1==(v.2.1.2 k).2.1 then (v.2.1.2 k).2.2.1==0 else false)=true))),(((bif bif bif bif decide ((v.2.1.2 (↑k:Int).toNat).1<0) then true else decide ((v.2.1.2 (↑k:Int).toNat).1>(v.2.1.2 (↑k:Int).toNat).2.1) then true else decide ((v.2.1.2 (↑k:Int).toNat).2.1≥v.1) then true else !inB (v.2.1.2 k).2.2.1 (-9) 9 then true else !inB (v.2.1.2 k).2.2.2.1 (-9) 9)=false)→ ((!bif bif bif bif decide ((v.2.1.2 (↑k:Int).toNat).1<0) then true else decide ((v.2.1.2 (↑k:Int).toNat).1>(v.2.1.2 (↑k:Int).toNat).2.1) then true else decide ((v.2.1.2 (↑k:Int).toNat).2.1≥v.1) then true else !inB (v.2.1.2 k).2.2.1 (-9) 9 then true else !inB (v.2.1.2 k).2.2.2.1 (-9) 9)=true)),((bif bif bif bif bif decide ((v.2.1.2 (↑k:Int).toNat).1<0) then true else decide ((v.2.1.2 (↑k:Int).toNat).1>(v.2.1.2 (↑k:Int).toNat).2.1) then true else decide ((v.2.1.2 (↑k:Int).toNat).2.1≥v.1) then true else !inB (v.2.1.2 k).2.2.1 (-9) 9 then true else !inB (v.2.1.2 k).2.2.2.1 (-9) 9 then true else bif bif (v.2.1.2 k).1==(v.2.1.2 k).2.1 then (v.2.1.2 k).2.2.1==0 else false then (v.2.1.2 k).2.2.2.1==0 else false)=false),(ZLo ((↑k:Int)+1)),(ZHi ((↑k:Int)+1)),(AI v.1),(AN v.2.1.1),(AP v.2.1.1 (fun i=>[.int .i64 ((v.2.1.2 i).1),.int .i64 ((v.2.1.2 i).2.1),.int .i64 ((v.2.1.2 i).2.2.1),.int .i64 ((v.2.1.2 i).2.2.2.1)])),(AN 0),((((↑k:Int)+1):Int)=(↑(k+1):Int)),(AN 2),(NL 1 1)] [0,1,0,2,3,0,4,0,5,6,5,6,5,5,7,8,9,8,9,8,8,10,11,12,11,13,11,14,15,16,15,17,15,18,19,20,19,20,19,19,19,21,22,21,19,23,19,24,25,24,19,26,27,28,29,30,31,32,33,34,35,36,37,37,31,32,33]):=by kernel_rfl
theorem p17c (v:T_GainGraph) (k:Nat) :
    zP Try.f15 0 [rg 5,.dec true,rg 7,rm [(20,oc [] (.p (.bool (inB (v.2.1.2 k).2.2.1 (-9) 9)))),(5,oc [] (.p (.bool (inB (v.2.1.2 k).2.2.2.1 (-9) 9))))] 19,.dec true,rg 1] zf46 (S17 v k) [] 1 [] (.p (.bool false)) =
    some (zD [(NT 0 1),((decide ((↑k:Int)<(↑v.2.1.1:Int)))=true),(IL 0 (↑k:Int)),(IT (↑k:Int) (↑v.2.1.1:Int)),((true=true)→ (AN 1)),(AG (!decide ((v.2.1.2 (↑k:Int).toNat).1<0))),(((!decide ((v.2.1.2 (↑k:Int).toNat).1<0))=true)→(NT 0 1)),(((decide ((v.2.1.2 (↑k:Int).toNat).1<0))=false)→ ((!decide ((v.2.1.2 (↑k:Int).toNat).1<0))=true)),(AG (!bif decide ((v.2.1.2 (↑k:Int).toNat).1<0) then true else decide ((v.2.1.2 (↑k:Int).toNat).1>(v.2.1.2 (↑k:Int).toNat).2.1))),(((!bif decide ((v.2.1.2 (↑k:Int).toNat).1<0) then true else decide ((v.2.1.2 (↑k:Int).toNat).1>(v.2.1.2 (↑k:Int).toNat).2.1))=true)→(NT 0 1)),(((bif decide ((v.2.1.2 (↑k:Int).toNat).1<0) then true else decide ((v.2.1.2 (↑k:Int).toNat).1>(v.2.1.2 (↑k:Int).toNat).2.1))=false)→ ((!bif decide ((v.2.1.2 (↑k:Int).toNat).1<0) then true else decide ((v.2.1.2 (↑k:Int).toNat).1>(v.2.1.2 (↑k:Int).toNat).2.1))=true)),(AG (!bif bif decide ((v.2.1.2 (↑k:Int).toNat).1<0) then true else decide ((v.2.1.2 (↑k:Int).toNat).1>(v.2.1.2 (↑k:Int).toNat).2.1) then true else decide ((v.2.1.2 (↑k:Int).toNat).2.1≥v.1))),(((!bif bif decide ((v.2.1.2 (↑k:Int).toNat).1<0) then true else decide ((v.2.1.2 (↑k:Int).toNat).1>(v.2.1.2 (↑k:Int).toNat).2.1) then true else decide ((v.2.1.2 (↑k:Int).toNat).2.1≥v.1))=true)→(NT 0 1)),(((!bif bif decide ((v.2.1.2 (↑k:Int).toNat).1<0) then true else decide ((v.2.1.2 (↑k:Int).toNat).1>(v.2.1.2 (↑k:Int).toNat).2.1) then true else decide ((v.2.1.2 (↑k:Int).toNat).2.1≥v.1))=true)→ zE 62 [.p (.int .i64 ((v.2.1.2 k).2.2.1)),.p (.int .i64 (-9)),.p (.int .i64 9)] [] (.p (.bool (inB (v.2.1.2 k).2.2.1 (-9) 9)))),(((bif bif decide ((v.2.1.2 (↑k:Int).toNat).1<0) then true else decide ((v.2.1.2 (↑k:Int).toNat).1>(v.2.1.2 (↑k:Int).toNat).2.1) then true else decide ((v.2.1.2 (↑k:Int).toNat).2.1≥v.1))=false)→ ((!bif bif decide ((v.2.1.2 (↑k:Int).toNat).1<0) then true else decide ((v.2.1.2 (↑k:Int).toNat).1>(v.2.1.2 (↑k:Int).toNat).2.1) then true else decide ((v.2.1.2 (↑k:Int).toNat).2.1≥v.1))=true)),(AG (!bif bif bif decide ((v.2.1.2 (↑k:Int).toNat).1<0) then true else decide ((v.2.1.2 (↑k:Int).toNat).1>(v.2.1.2 (↑k:Int).toNat).2.1) then true else decide ((v.2.1.2 (↑k:Int).toNat).2.1≥v.1) then true else !inB (v.2.1.2 k).2.2.1 (-9) 9)),(((!bif bif bif decide ((v.2.1.2 (↑k:Int).toNat).1<0) then true else decide ((v.2.1.2 (↑k:Int).toNat).1>(v.2.1.2 (↑k:Int).toNat).2.1) then true else decide ((v.2.1.2 (↑k:Int).toNat).2.1≥v.1) then true else !inB (v.2.1.2 k).2.2.1 (-9) 9)=true)→(NT 0 1)),(((!bif bif bif decide ((v.2.1.2 (↑k:Int).toNat).1<0) then true else decide ((v.2.1.2 (↑k:Int).toNat).1>(v.2.1.2 (↑k:Int).toNat).2.1) then true else decide ((v.2.1.2 (↑k:Int).toNat).2.1≥v.1) then true else !inB (v.2.1.2 k).2.2.1 (-9) 9)=true)→ zE 62 [.p (.int .i64 ((v.2.1.2 k).2.2.2.1)),.p (.int .i64 (-9)),.p (.int .i64 9)] [] (.p (.bool (inB (v.2.1.2 k).2.2.2.1 (-9) 9)))),(((bif bif bif decide ((v.2.1.2 (↑k:Int).toNat).1<0) then true else decide ((v.2.1.2 (↑k:Int).toNat).1>(v.2.1.2 (↑k:Int).toNat).2.1) then true else decide ((v.2.1.2 (↑k:Int).toNat).2.1≥v.1) then true else !inB (v.2.1.2 k).2.2.1 (-9) 9)=false)→ ((!bif bif bif decide ((v.2.1.2 (↑k:Int).toNat).1<0) then true else decide ((v.2.1.2 (↑k:Int).toNat).1>(v.2.1.2 (↑k:Int).toNat).2.1) then true else decide ((v.2.1.2 (↑k:Int).toNat).2.1≥v.1) then true else !inB (v.2.1.2 k).2.2.1 (-9) 9)=true)),(AG (!bif bif bif bif decide ((v.2.1.2 (↑k:Int).toNat).1<0) then true else decide ((v.2.1.2 (↑k:Int).toNat).1>(v.2.1.2 (↑k:Int).toNat).2.1) then true else decide ((v.2.1.2 (↑k:Int).toNat).2.1≥v.1) then true else !inB (v.2.1.2 k).2.2.1 (-9) 9 then true else !inB (v.2.1.2 k).2.2.2.1 (-9) 9)),(((!bif bif bif bif decide ((v.2.1.2 (↑k:Int).toNat).1<0) then true else decide ((v.2.1.2 (↑k:Int).toNat).1>(v.2.1.2 (↑k:Int).toNat).2.1) then true else decide ((v.2.1.2 (↑k:Int).toNat).2.1≥v.1) then true else !inB (v.2.1.2 k).2.2.1 (-9) 9 then true else !inB (v.2.1.2 k).2.2.2.1 (-9) 9)=true)→(NT 0 1)),(AG ((!bif bif bif bif decide ((v.2.1.2 (↑k:Int).toNat).1<0) then true else decide ((v.2.1.2 (↑k:Int).toNat).1>(v.2.1.2 (↑k:Int).toNat).2.1) then true else decide ((v.2.1.2 (↑k:Int).toNat).2.1≥v.1) then true else !inB (v.2.1.2 k).2.2.1 (-9) 9 then true else !inB (v.2.1.2 k).2.2.2.1 (-9) 9)&&(v.2.1.2 k).1==(v.2.1.2 k).2.1)),((((!bif bif bif bif decide ((v.2.1.2 (↑k:Int).toNat).1<0) then true else decide ((v.2.1.2 (↑k:Int).toNat).1>(v.2.1.2 (↑k:Int).toNat).2.1) then true else decide ((v.2.1.2 (↑k:Int).toNat).2.1≥v.1) then true else !inB (v.2.1.2 k).2.2.1 (-9) 9 then true else !inB (v.2.1.2 k).2.2.2.1 (-9) 9)&&(v.2.1.2 k).1==(v.2.1.2 k).2.1)=true)→(NT 0 1)),(((!bif bif bif bif decide ((v.2.1.2 (↑k:Int).toNat).1<0) then true else decide ((v.2.1.2 (↑k:Int).toNat).1>(v.2.1.2 (↑k:Int).toNat).2.1) then true else decide ((v.2.1.2 (↑k:Int).toNat).2.1≥v.1) then true else !inB (v.2.1.2 k).2.2.1 (-9) 9 then true else !inB (v.2.1.2 k).2.2.2.1 (-9) 9)=true)→((((v.2.1.2 k).1==(v.2.1.2 k).2.1)=true)→ (((!bif bif bif bif decide ((v.2.1.2 (↑k:Int).toNat).1<0) then true else decide ((v.2.1.2 (↑k:Int).toNat).1>(v.2.1.2 (↑k:Int).toNat).2.1) then true else decide ((v.2.1.2 (↑k:Int).toNat).2.1≥v.1) then true else !inB (v.2.1.2 k).2.2.1 (-9) 9 then true else !inB (v.2.1.2 k).2.2.2.1 (-9) 9)&&(v.2.1.2 k).1==(v.2.1.2 k).2.1)=true))),(AG ((!bif bif bif bif decide ((v.2.1.2 (↑k:Int).toNat).1<0) then true else decide ((v.2.1.2 (↑k:Int).toNat).1>(v.2.1.2 (↑k:Int).toNat).2.1) then true else decide ((v.2.1.2 (↑k:Int).toNat).2.1≥v.1) then true else !inB (v.2.1.2 k).2.2.1 (-9) 9 then true else !inB (v.2.1.2 k).2.2.2.1 (-9) 9)&&bif (v.2.1.2 k).1==(v.2.1.2 k).2.1 then (v.2.1.2 k).2.2.1==0 else false)),((((!bif bif bif bif decide ((v.2.1.2 (↑k:Int).toNat).1<0) then true else decide ((v.2.1.2 (↑k:Int).toNat).1>(v.2.1.2 (↑k:Int).toNat).2.1) then true else decide ((v.2.1.2 (↑k:Int).toNat).2.1≥v.1) then true else !inB (v.2.1.2 k).2.2.1 (-9) 9 then true else !inB (v.2.1.2 k).2.2.2.1 (-9) 9)&&bif (v.2.1.2 k).1==(v.2.1.2 k).2.1 then (v.2.1.2 k).2.2.1==0 else false)=true)→(NT 0 1)),(((!bif bif bif bif decide ((v.2.1.2 (↑k:Int).toNat).1<0) then true else decide ((v.2.1.2 (↑k:Int).toNat).1>(v.2.1.2 (↑k:Int).toNat).2.1) then true else decide ((v.2.1.2 (↑k:Int).toNat).2.1≥v.1) then true else !inB (v.2.1.2 k).2.2.1 (-9) 9 then true else !inB (v.2.1.2 k).2.2.2.1 (-9) 9)=true)→(((bif (v.2.1.2 k).1==(v.2.1.2 k).2.1 then (v.2.1.2 k).2.2.1==0 else false)=true)→ (((!bif bif bif bif decide ((v.2.1.2 (↑k:Int).toNat).1<0) then true else decide ((v.2.1.2 (↑k:Int).toNat).1>(v.2.1.2 (↑k:Int).toNat).2.1) then true else decide ((v.2.1.2 (↑k:Int).toNat).2.1≥v.1) then true else !inB (v.2.1.2 k).2.2.1 (-9) 9 then true else !inB (v.2.1.2 k).2.2.2.1 (-9) 9)&&bif (v.2.1.2 k).1==(v.2.1.2 k).2.1 then (v.2.1.2 k).2.2.1==0 else false)=true))),(((bif bif bif bif decide ((v.2.1.2 (↑k:Int).toNat).1<0) then true else decide ((v.2.1.2 (↑k:Int).toNat).1>(v.2.1.2 (↑k:Int).toNat).2.1) then true else decide ((v.2.1.2 (↑k:Int).toNat).2.1≥v.1) then true else !inB (v.2.1.2 k).2.2.1 (-9) 9 then true else !inB (v.2.1.2 k).2.2.2.1 (-9) 9)=false)→ ((!bif bif bif bif decide ((v.2.1.2 (↑k:Int).toNat).1<0) then true else decide ((v.2.1.2 (↑k:Int).toNat).1>(v.2.1.2 (↑k:Int).toNat).2.1) then true else decide ((v.2.1.2 (↑k:Int).toNat).2.1≥v.1) then true else !inB (v.2.1.2 k).2.2.1 (-9) 9 then true else !inB (v.2.1.2 k).2.2.2.1 (-9) 9)=true)),((bif bif bif bif bif decide ((v.2.1.2 (↑k:Int).toNat).1<0) then true else decide ((v.2.1.2 (↑k:Int).toNat).1>(v.2.1.2 (↑k:Int).toNat).2.1) then true else decide ((v.2.1.2 (↑k:Int).toNat).2.1≥v.1) then true else !inB (v.2.1.2 k).2.2.1 (-9) 9 then true else !inB (v.2.1.2 k).2.2.2.1 (-9) 9 then true else bif bif (v.2.1.2 k).1==(v.2.1.2 k).2.1 then (v.2.1.2 k).2.2.1==0 else false then (v.2.1.2 k).2.2.2.1==0 else false)=true),(false=false)] [0,1,0,2,3,0,4,0,5,6,5,6,5,5,7,8,9,8,9,8,8,10,11,12,11,13,11,14,15,16,15,17,15,18,19,20,19,20,19,19,19,21,22,21,19,23,19,24,25,24,19,26,27,28,29]):=by kernel_rfl
theorem p17d (v:T_GainGraph) (k:Nat) :
    zP Try.f15 0 [rg 5,.dec false,rm [(2,oc [] (.p (.bool (inB v.1 1 4))))] 7] zf46 (S17 v k) [] 1 [] (.p (.bool (inB v.1 1 4&&decide (v.2.1.1≤8)))) =
    some (zD [(NT 0 1),((decide ((↑k:Int)<(↑v.2.1.1:Int)))=false),zE 62 [.p (.int .i64 v.1),.p (.int .i64 1),.p (.int .i64 4)] [] (.p (.bool (inB v.1 1 4))),(AG (inB v.1 1 4)),(((inB v.1 1 4)=true)→(NT 0 1)),((bif inB v.1 1 4 then decide ((↑v.2.1.1:Int)≤8) else false)=(inB v.1 1 4&&decide (v.2.1.1≤8)))] [0,1,0,2,3,4,3,3,3,5]):=by kernel_rfl
theorem p19z (v:T_GainGraph) :
    zS Try.f26 [rg 2,rm [(2,oc [] (.p (.bool (inB v.1 1 4))))] 7,.dec true,rg 1] [gainA v] [] [] (.p (.bool false)) =
    some (zD [(NT 0 1),zE 60 [.p (.int .i64 v.1),.p (.int .i64 1),.p (.int .i64 4)] [] (.p (.bool (inB v.1 1 4))),(AG (!!inB v.1 1 4)),(((!!inB v.1 1 4)=true)→(NT 0 1)),(((!inB v.1 1 4)=false)→ ((!!inB v.1 1 4)=true)),((bif !inB v.1 1 4 then true else decide ((↑v.2.1.1:Int)>8))=true),(false=false)] [0,1,2,3,2,2,4,5,6]):=by kernel_rfl
theorem p19a (v:T_GainGraph) :
    zT Try.f26 [rg 2,rm [(2,oc [] (.p (.bool (inB v.1 1 4))))] 7,.dec false,rg 4,.head] [gainA v] [0] (S19 v 0) =
    some (zf34,zD [(NT 0 1),zE 60 [.p (.int .i64 v.1),.p (.int .i64 1),.p (.int .i64 4)] [] (.p (.bool (inB v.1 1 4))),(AG (!!inB v.1 1 4)),(((!!inB v.1 1 4)=true)→(NT 0 1)),(((!inB v.1 1 4)=false)→ ((!!inB v.1 1 4)=true)),((bif !inB v.1 1 4 then true else decide ((↑v.2.1.1:Int)>8))=false),(AI v.1),(AN v.2.1.1),(AP v.2.1.1 (fun i=>[.int .i64 ((v.2.1.2 i).1),.int .i64 ((v.2.1.2 i).2.1),.int .i64 ((v.2.1.2 i).2.2.1),.int .i64 ((v.2.1.2 i).2.2.2.1)])),(AN 0),(AI ((↑v.2.1.1:Int))),((0:Int)=(↑0:Int)),((([AV.p (PV.int IntKind.i64 v.1),AV.p (PV.seq true 4 v.2.1.1 fun i=>[PV.int IntKind.i64 (v.2.1.2 i).1,PV.int IntKind.i64 (v.2.1.2 i).2.1,PV.int IntKind.i64 (v.2.1.2 i).2.2.1,PV.int IntKind.i64 (v.2.1.2 i).2.2.2.1])].length):Nat)=2),(NL 1 1)] [0,1,2,3,2,2,4,5,0,6,7,8,9,7,8,10,11,12,13,13,6,7,8]):=by kernel_rfl
theorem p19b (v:T_GainGraph) (k:Nat) :
    zM 0 [rg 1,.dec true,rg 4,rm [(20,oc [] (.p (.bool (inB (v.2.1.2 k).2.2.1 (-9) 9)))),(5,oc [] (.p (.bool (inB (v.2.1.2 k).2.2.2.1 (-9) 9))))] 19,.dec false,rg 2,.head] zf34 (S19 v k) [0] 1 (S19 v (k+1)) =
    some (zf34,zD [((decide ((↑k:Int)<(↑v.2.1.1:Int)))=true),(IL 0 (↑k:Int)),(IT (↑k:Int) (↑v.2.1.1:Int)),(NT 0 1),((true=true)→ (AN 1)),(AG (!decide ((v.2.1.2 (↑k:Int).toNat).1<0))),(((!decide ((v.2.1.2 (↑k:Int).toNat).1<0))=true)→(NT 0 1)),(((decide ((v.2.1.2 (↑k:Int).toNat).1<0))=false)→ ((!decide ((v.2.1.2 (↑k:Int).toNat).1<0))=true)),(AG (!bif decide ((v.2.1.2 (↑k:Int).toNat).1<0) then true else decide ((v.2.1.2 (↑k:Int).toNat).1>(v.2.1.2 (↑k:Int).toNat).2.1))),(((!bif decide ((v.2.1.2 (↑k:Int).toNat).1<0) then true else decide ((v.2.1.2 (↑k:Int).toNat).1>(v.2.1.2 (↑k:Int).toNat).2.1))=true)→(NT 0 1)),(((bif decide ((v.2.1.2 (↑k:Int).toNat).1<0) then true else decide ((v.2.1.2 (↑k:Int).toNat).1>(v.2.1.2 (↑k:Int).toNat).2.1))=false)→ ((!bif decide ((v.2.1.2 (↑k:Int).toNat).1<0) then true else decide ((v.2.1.2 (↑k:Int).toNat).1>(v.2.1.2 (↑k:Int).toNat).2.1))=true)),(AG (!bif bif decide ((v.2.1.2 (↑k:Int).toNat).1<0) then true else decide ((v.2.1.2 (↑k:Int).toNat).1>(v.2.1.2 (↑k:Int).toNat).2.1) then true else decide ((v.2.1.2 (↑k:Int).toNat).2.1≥v.1))),(((!bif bif decide ((v.2.1.2 (↑k:Int).toNat).1<0) then true else decide ((v.2.1.2 (↑k:Int).toNat).1>(v.2.1.2 (↑k:Int).toNat).2.1) then true else decide ((v.2.1.2 (↑k:Int).toNat).2.1≥v.1))=true)→(NT 0 1)),(((!bif bif decide ((v.2.1.2 (↑k:Int).toNat).1<0) then true else decide ((v.2.1.2 (↑k:Int).toNat).1>(v.2.1.2 (↑k:Int).toNat).2.1) then true else decide ((v.2.1.2 (↑k:Int).toNat).2.1≥v.1))=true)→ zE 60 [.p (.int .i64 ((v.2.1.2 k).2.2.1)),.p (.int .i64 (-9)),.p (.int .i64 9)] [] (.p (.bool (inB (v.2.1.2 k).2.2.1 (-9) 9)))),(((bif bif decide ((v.2.1.2 (↑k:Int).toNat).1<0) then true else decide ((v.2.1.2 (↑k:Int).toNat).1>(v.2.1.2 (↑k:Int).toNat).2.1) then true else decide ((v.2.1.2 (↑k:Int).toNat).2.1≥v.1))=false)→ ((!bif bif decide ((v.2.1.2 (↑k:Int).toNat).1<0) then true else decide ((v.2.1.2 (↑k:Int).toNat).1>(v.2.1.2 (↑k:Int).toNat).2.1) then true else decide ((v.2.1.2 (↑k:Int).toNat).2.1≥v.1))=true)),(AG (!bif bif bif decide ((v.2.1.2 (↑k:Int).toNat).1<0) then true else decide ((v.2.1.2 (↑k:Int).toNat).1>(v.2.1.2 (↑k:Int).toNat).2.1) then true else decide ((v.2.1.2 (↑k:Int).toNat).2.1≥v.1) then true else !inB (v.2.1.2 k).2.2.1 (-9) 9)),(((!bif bif bif decide ((v.2.1.2 (↑k:Int).toNat).1<0) then true else decide ((v.2.1.2 (↑k:Int).toNat).1>(v.2.1.2 (↑k:Int).toNat).2.1) then true else decide ((v.2.1.2 (↑k:Int).toNat).2.1≥v.1) then true else !inB (v.2.1.2 k).2.2.1 (-9) 9)=true)→(NT 0 1)),(((!bif bif bif decide ((v.2.1.2 (↑k:Int).toNat).1<0) then true else decide ((v.2.1.2 (↑k:Int).toNat).1>(v.2.1.2 (↑k:Int).toNat).2.1) then true else decide ((v.2.1.2 (↑k:Int).toNat).2.1≥v.1) then true else !inB (v.2.1.2 k).2.2.1 (-9) 9)=true)→ zE 60 [.p (.int .i64 ((v.2.1.2 k).2.2.2.1)),.p (.int .i64 (-9)),.p (.int .i64 9)] [] (.p (.bool (inB (v.2.1.2 k).2.2.2.1 (-9) 9)))),(((bif bif bif decide ((v.2.1.2 (↑k:Int).toNat).1<0) then true else decide ((v.2.1.2 (↑k:Int).toNat).1>(v.2.1.2 (↑k:Int).toNat).2.1) then true else decide ((v.2.1.2 (↑k:Int).toNat).2.1≥v.1) then true else !inB (v.2.1.2 k).2.2.1 (-9) 9)=false)→ ((!bif bif bif decide ((v.2.1.2 (↑k:Int).toNat).1<0) then true else decide ((v.2.1.2 (↑k:Int).toNat).1>(v.2.1.2 (↑k:Int).toNat).2.1) then true else decide ((v.2.1.2 (↑k:Int).toNat).2.1≥v.1) then true else !inB (v.2.1.2 k).2.2.1 (-9) 9)=true)),(AG (!bif bif bif bif decide ((v.2.1.2 (↑k:Int).toNat).1<0) then true else decide ((v.2.1.2 (↑k:Int).toNat).1>(v.2.1.2 (↑k:Int).toNat).2.1) then true else decide ((v.2.1.2 (↑k:Int).toNat).2.1≥v.1) then true else !inB (v.2.1.2 k).2.2.1 (-9) 9 then true else !inB (v.2.1.2 k).2.2.2.1 (-9) 9)),(((!bif bif bif bif decide ((v.2.1.2 (↑k:Int).toNat).1<0) then true else decide ((v.2.1.2 (↑k:Int).toNat).1>(v.2.1.2 (↑k:Int).toNat).2.1) then true else decide ((v.2.1.2 (↑k:Int).toNat).2.1≥v.1) then true else !inB (v.2.1.2 k).2.2.1 (-9) 9 then true else !inB (v.2.1.2 k).2.2.2.1 (-9) 9)=true)→(NT 0 1)),(AG ((!bif bif bif bif decide ((v.2.1.2 (↑k:Int).toNat).1<0) then true else decide ((v.2.1.2 (↑k:Int).toNat).1>(v.2.1.2 (↑k:Int).toNat).2.1) then true else decide ((v.2.1.2 (↑k:Int).toNat).2.1≥v.1) then true else !inB (v.2.1.2 k).2.2.1 (-9) 9 then true else !inB (v.2.1.2 k).2.2.2.1 (-9) 9)&&(v.2.1.2 k).1==(v.2.1.2 k).2.1)),((((!bif bif bif bif decide ((v.2.1.2 (↑k:Int).toNat).1<0) then true else decide ((v.2.1.2 (↑k:Int).toNat).1>(v.2.1.2 (↑k:Int).toNat).2.1) then true else decide ((v.2.1.2 (↑k:Int).toNat).2.1≥v.1) then true else !inB (v.2.1.2 k).2.2.1 (-9) 9 then true else !inB (v.2.1.2 k).2.2.2.1 (-9) 9)&&(v.2.1.2 k).1==(v.2.1.2 k).2.1)=true)→(NT 0 1)),(((!bif bif bif bif decide ((v.2.1.2 (↑k:Int).toNat).1<0) then true else decide ((v.2.1.2 (↑k:Int).toNat).1>(v.2.1.2 (↑k:Int).toNat).2.1) then true else decide ((v.2.1.2 (↑k:Int).toNat).2.1≥v.1) then true else !inB (v.2.1.2 k).2.2.1 (-9) 9 then true else !inB (v.2.1.2 k).2.2.2.1 (-9) 9)=true)→((((v.2.1.2 k).1==(v.2.1.2 k).2.1)=true)→ (((!bif bif bif bif decide ((v.2.1.2 (↑k:Int).toNat).1<0) then true else decide ((v.2.1.2 (↑k:Int).toNat).1>(v.2.1.2 (↑k:Int).toNat).2.1) then true else decide ((v.2.1.2 (↑k:Int).toNat).2.1≥v.1) then true else !inB (v.2.1.2 k).2.2.1 (-9) 9 then true else !inB (v.2.1.2 k).2.2.2.1 (-9) 9)&&(v.2.1.2 k).1==(v.2.1.2 k).2.1)=true))),(AG ((!bif bif bif bif decide ((v.2.1.2 (↑k:Int).toNat).1<0) then true else decide ((v.2.1.2 (↑k:Int).toNat).1>(v.2.1.2 (↑k:Int).toNat).2.1) then true else decide ((v.2.1.2 (↑k:Int).toNat).2.1≥v.1) then true else !inB (v.2.1.2 k).2.2.1 (-9) 9 then true else !inB (v.2.1.2 k).2.2.2.1 (-9) 9)&&bif (v.2.1.2 k).1==(v.2.1.2 k).2.1 then (v.2.1.2 k).2.2.1==0 else false)),((((!bif bif bif bif decide ((v.2.1.2 (↑k:Int).toNat).1<0) then true else decide ((v.2.1.2 (↑k:Int).toNat).1>(v.2.1.2 (↑k:Int).toNat).2.1) then true else decide ((v.2.1.2 (↑k:Int).toNat).2.1≥v.1) then true else !inB (v.2.1.2 k).2.2.1 (-9) 9 then true else !inB (v.2.1.2 k).2.2.2.1 (-9) 9)&&bif (v.2.1.2 k).1==(v.2.1.2 k).2.1 then (v.2.1.2 k).2.2.1==0 else false)=true)→(NT 0 1)),(((!bif bif bif bif decide ((v.2.1.2 (↑k:Int).toNat).1<0) then true else decide ((v.2.1.2 (↑k:Int).toNat).1>(v.2.1.2 (↑k:Int).toNat).2.1) then true else decide ((v.2.1.2 (↑k:Int).toNat).2.1≥v.1) then true else !inB (v.2.1.2 k).2.2.1 (-9) 9 then true else !inB (v.2.1.2 k).2.2.2.1 (-9) 9)=true)→(((bif (v.2.1.2 k).1==(v.2.1.2 k).2.1 then (v.2.1.2 k).2.2.1==0 else false)=true)→ (((!bif bif bif bif decide ((v.2.1.2 (↑k:Int).toNat).1<0) then true else decide ((v.2.1.2 (↑k:Int).toNat).1>(v.2.1.2 (↑k:Int).toNat).2.1) then true else decide ((v.2.1.2 (↑k:Int).toNat).2.1≥v.1) then true else !inB (v.2.1.2 k).2.2.1 (-9) 9 then true else !inB (v.2.1.2 k).2.2.2.1 (-9) 9)&&bif (v.2.1.2 k).1==(v.2.1.2 k).2.1 then (v.2.1.2 k).2.2.1==0 else false)=true))),(((bif bif bif bif decide ((v.2.1.2 (↑k:Int).toNat).1<0) then true else decide ((v.2.1.2 (↑k:Int).toNat).1>(v.2.1.2 (↑k:Int).toNat).2.1) then true else decide ((v.2.1.2 (↑k:Int).toNat).2.1≥v.1) then true else !inB (v.2.1.2 k).2.2.1 (-9) 9 then true else !inB (v.2.1.2 k).2.2.2.1 (-9) 9)=false)→ ((!bif bif bif bif decide ((v.2.1.2 (↑k:Int).toNat).1<0) then true else decide ((v.2.1.2 (↑k:Int).toNat).1>(v.2.1.2 (↑k:Int).toNat).2.1) then true else decide ((v.2.1.2 (↑k:Int).toNat).2.1≥v.1) then true else !inB (v.2.1.2 k).2.2.1 (-9) 9 then true else !inB (v.2.1.2 k).2.2.2.1 (-9) 9)=true)),((bif bif bif bif bif decide ((v.2.1.2 (↑k:Int).toNat).1<0) then true else decide ((v.2.1.2 (↑k:Int).toNat).1>(v.2.1.2 (↑k:Int).toNat).2.1) then true else decide ((v.2.1.2 (↑k:Int).toNat).2.1≥v.1) then true else !inB (v.2.1.2 k).2.2.1 (-9) 9 then true else !inB (v.2.1.2 k).2.2.2.1 (-9) 9 then true else bif bif (v.2.1.2 k).1==(v.2.1.2 k).2.1 then (v.2.1.2 k).2.2.1==0 else false then (v.2.1.2 k).2.2.2.1==0 else false)=false),(ZLo ((↑k:Int)+1)),(ZHi ((↑k:Int)+1)),(AI v.1),(AN v.2.1.1),(AP v.2.1.1 (fun i=>[.int .i64 ((v.2.1.2 i).1),.int .i64 ((v.2.1.2 i).2.1),.int .i64 ((v.2.1.2 i).2.2.1),.int .i64 ((v.2.1.2 i).2.2.2.1)])),(AN 0),(AI ((↑v.2.1.1:Int))),((((↑k:Int)+1):Int)=(↑(k+1):Int)),(AN 2),(NL 1 1)] [0,1,2,3,4,3,5,6,5,6,5,5,7,8,9,8,9,8,8,10,11,12,11,13,11,14,15,16,15,17,15,18,19,20,19,20,19,19,19,21,22,21,19,23,19,24,25,24,19,26,27,28,29,30,31,32,33,34,32,33,35,36,37,38,38,31,32,33]):=by kernel_rfl
theorem p19c (v:T_GainGraph) (k:Nat) :
    zP Try.f26 0 [rg 1,.dec true,rg 4,rm [(20,oc [] (.p (.bool (inB (v.2.1.2 k).2.2.1 (-9) 9)))),(5,oc [] (.p (.bool (inB (v.2.1.2 k).2.2.2.1 (-9) 9))))] 19,.dec true,rg 1] zf34 (S19 v k) [] 1 [] (.p (.bool false)) =
    some (zD [((decide ((↑k:Int)<(↑v.2.1.1:Int)))=true),(IL 0 (↑k:Int)),(IT (↑k:Int) (↑v.2.1.1:Int)),(NT 0 1),((true=true)→ (AN 1)),(AG (!decide ((v.2.1.2 (↑k:Int).toNat).1<0))),(((!decide ((v.2.1.2 (↑k:Int).toNat).1<0))=true)→(NT 0 1)),(((decide ((v.2.1.2 (↑k:Int).toNat).1<0))=false)→ ((!decide ((v.2.1.2 (↑k:Int).toNat).1<0))=true)),(AG (!bif decide ((v.2.1.2 (↑k:Int).toNat).1<0) then true else decide ((v.2.1.2 (↑k:Int).toNat).1>(v.2.1.2 (↑k:Int).toNat).2.1))),(((!bif decide ((v.2.1.2 (↑k:Int).toNat).1<0) then true else decide ((v.2.1.2 (↑k:Int).toNat).1>(v.2.1.2 (↑k:Int).toNat).2.1))=true)→(NT 0 1)),(((bif decide ((v.2.1.2 (↑k:Int).toNat).1<0) then true else decide ((v.2.1.2 (↑k:Int).toNat).1>(v.2.1.2 (↑k:Int).toNat).2.1))=false)→ ((!bif decide ((v.2.1.2 (↑k:Int).toNat).1<0) then true else decide ((v.2.1.2 (↑k:Int).toNat).1>(v.2.1.2 (↑k:Int).toNat).2.1))=true)),(AG (!bif bif decide ((v.2.1.2 (↑k:Int).toNat).1<0) then true else decide ((v.2.1.2 (↑k:Int).toNat).1>(v.2.1.2 (↑k:Int).toNat).2.1) then true else decide ((v.2.1.2 (↑k:Int).toNat).2.1≥v.1))),(((!bif bif decide ((v.2.1.2 (↑k:Int).toNat).1<0) then true else decide ((v.2.1.2 (↑k:Int).toNat).1>(v.2.1.2 (↑k:Int).toNat).2.1) then true else decide ((v.2.1.2 (↑k:Int).toNat).2.1≥v.1))=true)→(NT 0 1)),(((!bif bif decide ((v.2.1.2 (↑k:Int).toNat).1<0) then true else decide ((v.2.1.2 (↑k:Int).toNat).1>(v.2.1.2 (↑k:Int).toNat).2.1) then true else decide ((v.2.1.2 (↑k:Int).toNat).2.1≥v.1))=true)→ zE 60 [.p (.int .i64 ((v.2.1.2 k).2.2.1)),.p (.int .i64 (-9)),.p (.int .i64 9)] [] (.p (.bool (inB (v.2.1.2 k).2.2.1 (-9) 9)))),(((bif bif decide ((v.2.1.2 (↑k:Int).toNat).1<0) then true else decide ((v.2.1.2 (↑k:Int).toNat).1>(v.2.1.2 (↑k:Int).toNat).2.1) then true else decide ((v.2.1.2 (↑k:Int).toNat).2.1≥v.1))=false)→ ((!bif bif decide ((v.2.1.2 (↑k:Int).toNat).1<0) then true else decide ((v.2.1.2 (↑k:Int).toNat).1>(v.2.1.2 (↑k:Int).toNat).2.1) then true else decide ((v.2.1.2 (↑k:Int).toNat).2.1≥v.1))=true)),(AG (!bif bif bif decide ((v.2.1.2 (↑k:Int).toNat).1<0) then true else decide ((v.2.1.2 (↑k:Int).toNat).1>(v.2.1.2 (↑k:Int).toNat).2.1) then true else decide ((v.2.1.2 (↑k:Int).toNat).2.1≥v.1) then true else !inB (v.2.1.2 k).2.2.1 (-9) 9)),(((!bif bif bif decide ((v.2.1.2 (↑k:Int).toNat).1<0) then true else decide ((v.2.1.2 (↑k:Int).toNat).1>(v.2.1.2 (↑k:Int).toNat).2.1) then true else decide ((v.2.1.2 (↑k:Int).toNat).2.1≥v.1) then true else !inB (v.2.1.2 k).2.2.1 (-9) 9)=true)→(NT 0 1)),(((!bif bif bif decide ((v.2.1.2 (↑k:Int).toNat).1<0) then true else decide ((v.2.1.2 (↑k:Int).toNat).1>(v.2.1.2 (↑k:Int).toNat).2.1) then true else decide ((v.2.1.2 (↑k:Int).toNat).2.1≥v.1) then true else !inB (v.2.1.2 k).2.2.1 (-9) 9)=true)→ zE 60 [.p (.int .i64 ((v.2.1.2 k).2.2.2.1)),.p (.int .i64 (-9)),.p (.int .i64 9)] [] (.p (.bool (inB (v.2.1.2 k).2.2.2.1 (-9) 9)))),(((bif bif bif decide ((v.2.1.2 (↑k:Int).toNat).1<0) then true else decide ((v.2.1.2 (↑k:Int).toNat).1>(v.2.1.2 (↑k:Int).toNat).2.1) then true else decide ((v.2.1.2 (↑k:Int).toNat).2.1≥v.1) then true else !inB (v.2.1.2 k).2.2.1 (-9) 9)=false)→ ((!bif bif bif decide ((v.2.1.2 (↑k:Int).toNat).1<0) then true else decide ((v.2.1.2 (↑k:Int).toNat).1>(v.2.1.2 (↑k:Int).toNat).2.1) then true else decide ((v.2.1.2 (↑k:Int).toNat).2.1≥v.1) then true else !inB (v.2.1.2 k).2.2.1 (-9) 9)=true)),(AG (!bif bif bif bif decide ((v.2.1.2 (↑k:Int).toNat).1<0) then true else decide ((v.2.1.2 (↑k:Int).toNat).1>(v.2.1.2 (↑k:Int).toNat).2.1) then true else decide ((v.2.1.2 (↑k:Int).toNat).2.1≥v.1) then true else !inB (v.2.1.2 k).2.2.1 (-9) 9 then true else !inB (v.2.1.2 k).2.2.2.1 (-9) 9)),(((!bif bif bif bif decide ((v.2.1.2 (↑k:Int).toNat).1<0) then true else decide ((v.2.1.2 (↑k:Int).toNat).1>(v.2.1.2 (↑k:Int).toNat).2.1) then true else decide ((v.2.1.2 (↑k:Int).toNat).2.1≥v.1) then true else !inB (v.2.1.2 k).2.2.1 (-9) 9 then true else !inB (v.2.1.2 k).2.2.2.1 (-9) 9)=true)→(NT 0 1)),(AG ((!bif bif bif bif decide ((v.2.1.2 (↑k:Int).toNat).1<0) then true else decide ((v.2.1.2 (↑k:Int).toNat).1>(v.2.1.2 (↑k:Int).toNat).2.1) then true else decide ((v.2.1.2 (↑k:Int).toNat).2.1≥v.1) then true else !inB (v.2.1.2 k).2.2.1 (-9) 9 then true else !inB (v.2.1.2 k).2.2.2.1 (-9) 9)&&(v.2.1.2 k).1==(v.2.1.2 k).2.1)),((((!bif bif bif bif decide ((v.2.1.2 (↑k:Int).toNat).1<0) then true else decide ((v.2.1.2 (↑k:Int).toNat).1>(v.2.1.2 (↑k:Int).toNat).2.1) then true else decide ((v.2.1.2 (↑k:Int).toNat).2.1≥v.1) then true else !inB (v.2.1.2 k).2.2.1 (-9) 9 then true else !inB (v.2.1.2 k).2.2.2.1 (-9) 9)&&(v.2.1.2 k).1==(v.2.1.2 k).2.1)=true)→(NT 0 1)),(((!bif bif bif bif decide ((v.2.1.2 (↑k:Int).toNat).1<0) then true else decide ((v.2.1.2 (↑k:Int).toNat).1>(v.2.1.2 (↑k:Int).toNat).2.1) then true else decide ((v.2.1.2 (↑k:Int).toNat).2.1≥v.1) then true else !inB (v.2.1.2 k).2.2.1 (-9) 9 then true else !inB (v.2.1.2 k).2.2.2.1 (-9) 9)=true)→((((v.2.1.2 k).1==(v.2.1.2 k).2.1)=true)→ (((!bif bif bif bif decide ((v.2.1.2 (↑k:Int).toNat).1<0) then true else decide ((v.2.1.2 (↑k:Int).toNat).1>(v.2.1.2 (↑k:Int).toNat).2.1) then true else decide ((v.2.1.2 (↑k:Int).toNat).2.1≥v.1) then true else !inB (v.2.1.2 k).2.2.1 (-9) 9 then true else !inB (v.2.1.2 k).2.2.2.1 (-9) 9)&&(v.2.1.2 k).1==(v.2.1.2 k).2.1)=true))),(AG ((!bif bif bif bif decide ((v.2.1.2 (↑k:Int).toNat).1<0) then true else decide ((v.2.1.2 (↑k:Int).toNat).1>(v.2.1.2 (↑k:Int).toNat).2.1) then true else decide ((v.2.1.2 (↑k:Int).toNat).2.1≥v.1) then true else !inB (v.2.1.2 k).2.2.1 (-9) 9 then true else !inB (v.2.1.2 k).2.2.2.1 (-9) 9)&&bif (v.2.1.2 k).1==(v.2.1.2 k).2.1 then (v.2.1.2 k).2.2.1==0 else false)),((((!bif bif bif bif decide ((v.2.1.2 (↑k:Int).toNat).1<0) then true else decide ((v.2.1.2 (↑k:Int).toNat).1>(v.2.1.2 (↑k:Int).toNat).2.1) then true else decide ((v.2.1.2 (↑k:Int).toNat).2.1≥v.1) then true else !inB (v.2.1.2 k).2.2.1 (-9) 9 then true else !inB (v.2.1.2 k).2.2.2.1 (-9) 9)&&bif (v.2.1.2 k).1==(v.2.1.2 k).2.1 then (v.2.1.2 k).2.2.1==0 else false)=true)→(NT 0 1)),(((!bif bif bif bif decide ((v.2.1.2 (↑k:Int).toNat).1<0) then true else decide ((v.2.1.2 (↑k:Int).toNat).1>(v.2.1.2 (↑k:Int).toNat).2.1) then true else decide ((v.2.1.2 (↑k:Int).toNat).2.1≥v.1) then true else !inB (v.2.1.2 k).2.2.1 (-9) 9 then true else !inB (v.2.1.2 k).2.2.2.1 (-9) 9)=true)→(((bif (v.2.1.2 k).1==(v.2.1.2 k).2.1 then (v.2.1.2 k).2.2.1==0 else false)=true)→ (((!bif bif bif bif decide ((v.2.1.2 (↑k:Int).toNat).1<0) then true else decide ((v.2.1.2 (↑k:Int).toNat).1>(v.2.1.2 (↑k:Int).toNat).2.1) then true else decide ((v.2.1.2 (↑k:Int).toNat).2.1≥v.1) then true else !inB (v.2.1.2 k).2.2.1 (-9) 9 then true else !inB (v.2.1.2 k).2.2.2.1 (-9) 9)&&bif (v.2.1.2 k).1==(v.2.1.2 k).2.1 then (v.2.1.2 k).2.2.1==0 else false)=true))),(((bif bif bif bif decide ((v.2.1.2 (↑k:Int).toNat).1<0) then true else decide ((v.2.1.2 (↑k:Int).toNat).1>(v.2.1.2 (↑k:Int).toNat).2.1) then true else decide ((v.2.1.2 (↑k:Int).toNat).2.1≥v.1) then true else !inB (v.2.1.2 k).2.2.1 (-9) 9 then true else !inB (v.2.1.2 k).2.2.2.1 (-9) 9)=false)→ ((!bif bif bif bif decide ((v.2.1.2 (↑k:Int).toNat).1<0) then true else decide ((v.2.1.2 (↑k:Int).toNat).1>(v.2.1.2 (↑k:Int).toNat).2.1) then true else decide ((v.2.1.2 (↑k:Int).toNat).2.1≥v.1) then true else !inB (v.2.1.2 k).2.2.1 (-9) 9 then true else !inB (v.2.1.2 k).2.2.2.1 (-9) 9)=true)),((bif bif bif bif bif decide ((v.2.1.2 (↑k:Int).toNat).1<0) then true else decide ((v.2.1.2 (↑k:Int).toNat).1>(v.2.1.2 (↑k:Int).toNat).2.1) then true else decide ((v.2.1.2 (↑k:Int).toNat).2.1≥v.1) then true else !inB (v.2.1.2 k).2.2.1 (-9) 9 then true else !inB (v.2.1.2 k).2.2.2.1 (-9) 9 then true else bif bif (v.2.1.2 k).1==(v.2.1.2 k).2.1 then (v.2.1.2 k).2.2.1==0 else false then (v.2.1.2 k).2.2.2.1==0 else false)=true),(false=false)] [0,1,2,3,4,3,5,6,5,6,5,5,7,8,9,8,9,8,8,10,11,12,11,13,11,14,15,16,15,17,15,18,19,20,19,20,19,19,19,21,22,21,19,23,19,24,25,24,19,26,27,28,29]):=by kernel_rfl
theorem p19d (v:T_GainGraph) (k:Nat) :
    zP Try.f26 0 [rg 1,.dec false,rg 1] zf34 (S19 v k) [] 1 [] (.p (.bool true)) =
    some [((decide ((↑k:Int)<(↑v.2.1.1:Int)))=false),(true=true)]:=by kernel_rfl
theorem goodG_bad (v:T_GainGraph) (k:Nat) (h:badG v.1 (v.2.1.2 k)=true):∀ n,k<n→goodG v n=false
  | 0,h'=>by omega
  | n+1,h'=>by
    by_cases e:k=n
    · subst e;simp [goodG,h]
    · simp [goodG,goodG_bad v k h n (by omega)]
theorem con_IsGainGraph_s (v:T_GainGraph) (hs:smS s_GainGraph v):zE 15 [gainA v] [] (.p (.bool (isGainF v))):=by
  refine csZ Try.func15 (fun c hc=>?_)
  have hn:v.2.1.1≤1048576:=hs.2.1.1
  have lp:∀ m k,k+m=v.2.1.1→goodG v k=true→zR c 15 zf46 (S17 v k) (Post c [] (.p (.bool (isGainF v)))):=by
    intro m
    induction m with
    | zero =>
      intro k hk hg
      have e:k=v.2.1.1:=by omega
      have hr:isGainF v=(inB v.1 1 4&&decide (v.2.1.1≤8)):=by rw [isGainF,← e,hg];simp
      rw [hr]
      have hd:decide ((k:Int)<(v.2.1.1:Int))=false:=by simp;omega
      refine pkD Try.func15 hc (p17d v k) ?_
      and_intros
      all_goals (first | exact zI | (exact con_l1In _ _ _) | (cases inB v.1 1 4<;>simp<;>omega))
    | succ m ih =>
      intro k hk hg
      have hd:decide ((k:Int)<(v.2.1.1:Int))=true:=by simp;omega
      cases he:badG v.1 (v.2.1.2 k) with
      | true =>
        have hr:isGainF v=false:=by rw [isGainF,goodG_bad v k he _ (by omega)];rfl
        rw [hr]
        refine pkD Try.func15 hc (p17c v k) ?_
        and_intros
        all_goals (first | exact zH | (intros;exact con_l1In _ _ _) | (exact he))
      | false =>
        refine pcD hc (p17b v k) ?_ (ih (k+1) (by omega) (by simp [goodG,hg,he]))
        and_intros
        all_goals (first | exact zH | (intros;exact con_l1In _ _ _) | (exact he) | (simp [All]))
  refine pcD hc (p17a v) ?_ (lp v.2.1.1 0 (by omega) rfl)
  and_intros
  all_goals (first | exact zN | (simp [All]))
theorem con_IsGainGraph_i (v:T_GainGraph) (hs:smS s_GainGraph v):zE 26 [gainA v] [] (.p (.bool (isGainF v))):=by
  refine csZ Try.func26 (fun c hc=>?_)
  have hn:v.2.1.1≤1048576:=hs.2.1.1
  cases hz:(inB v.1 1 4&&decide (v.2.1.1≤8)) with
  | false =>
    have hr:isGainF v=false:=by rw [isGainF,hz];simp
    rw [hr]
    refine pkD Try.func26 hc (p19z v) ?_
    and_intros
    all_goals (first | exact zH | (exact con_within _ _ _) | (cases hi:inB v.1 1 4<;>simp [hi] at hz<;>simp<;>omega))
  | true =>
    have hr:isGainF v=goodG v v.2.1.1:=by rw [isGainF,hz];simp
    rw [hr]
    have lp:∀ m k,k+m=v.2.1.1→goodG v k=true→zR c 26 zf34 (S19 v k) (Post c [] (.p (.bool (goodG v v.2.1.1)))):=by
      intro m
      induction m with
      | zero =>
        intro k hk hg
        have e:k=v.2.1.1:=by omega
        rw [show goodG v v.2.1.1=true by rw [← e];exact hg]
        have hd:decide ((k:Int)<(v.2.1.1:Int))=false:=by simp;omega
        refine pkZ Try.func26 hc (p19d v k) ?_
        and_intros
        all_goals (first | exact zN)
      | succ m ih =>
        intro k hk hg
        have hd:decide ((k:Int)<(v.2.1.1:Int))=true:=by simp;omega
        cases he:badG v.1 (v.2.1.2 k) with
        | true =>
          rw [goodG_bad v k he v.2.1.1 (by omega)]
          refine pkD Try.func26 hc (p19c v k) ?_
          and_intros
          all_goals (first | exact zH | (intros;exact con_within _ _ _) | (exact he))
        | false =>
          refine pcD hc (p19b v k) ?_ (ih (k+1) (by omega) (by simp [goodG,hg,he]))
          and_intros
          all_goals (first | exact zH | (intros;exact con_within _ _ _) | (exact he) | (simp [All]))
    simp only [Bool.and_eq_true,decide_eq_true_eq] at hz
    refine pcD hc (p19a v) ?_ (lp v.2.1.1 0 (by omega) rfl)
    and_intros
    all_goals (first | exact zH | (exact con_within _ _ _) | (simp [hz.1];omega) | (simp [All]))
def inS (n:Nat) (s:Nat→Int):AV:=.p (.seq true 1 n (fun i=>[.int .i64 (s i)]))
def gnL (g:Nat→T_GainBar) (nb:Nat):AV:=.p (.seq true 4 nb (fun i=>[.int .i64 (g i).1,.int .i64 (g i).2.1,.int .i64 (g i).2.2.1,.int .i64 (g i).2.2.2.1]))
def gnA (g:Nat→T_GainBar) (nb:Nat) (N:Int):AV:=.agg [.p (.int .i64 N),gnL g nb]
def gnB (g:Nat→T_GainBar) (nb:Nat) (N:Int):Ob:=⟨true,2,1,fun i=>[.p (.int .i64 N),gnL g nb]⟩
def gb (g:Nat→T_GainBar) (s:Nat→Int) (i:Nat):T_GainBar:=g (s i).toNat
def bObW (n:Nat) (K:Nat→Bool):Ob:=⟨false,1,n,fun i=>[.p (.bool (K i))]⟩
def iObW (n:Nat) (F:Nat→Int):Ob:=⟨false,1,n,fun i=>[.p (.int .i64 (F i))]⟩
def cOb (n:Nat) (F G:Nat→Int):Ob:=⟨false,2,n,fun i=>[.p (.int .i64 (F i)),.p (.int .i64 (G i))]⟩
def up {α:Type} (F:Nat→α) (k:Nat) (x:α) (i:Nat):α:=if i=k then x else F i
def badS (nb:Nat) (s:Nat→Int) (k:Nat):Bool :=
  bif bif decide (s k<0) then true else decide (s k≥(nb:Int)) then true else bif decide ((k:Int)>0) then decide (s ((k:Int) - 1).toNat≥s k) else false
def badZ (nb:Nat) (s:Nat→Int) (k:Nat):Bool :=
  bif !inB (s k) 0 ((nb:Int) - 1) then true else bif decide ((k:Int)>0) then decide (s ((k:Int) - 1).toNat≥s k) else false
def SBl (g:Nat→T_GainBar) (nb:Nat) (N:Int) (n:Nat) (s:Nat→Int) (k:Nat):St :=
  ⟨[gnA g nb N,inS n s,.pt 2 0 0 0,.p .any,.p .any,.p (.int .i64 k)]++List.replicate 39 anyA,[(0,gnB g nb N)],1⟩
def SB0 (g:Nat→T_GainBar) (nb N n:Nat) (s:Nat→Int) (K:Nat→Bool) (X Y:Nat→Int) (a:Nat):St :=
  ⟨[gnA g nb N,inS n s,.pt 2 0 0 0,.p .any,.p .any,.ar 1 1 0 N,.ar 1 2 0 N,.ar 1 3 0 N,.p (.int .i64 a)]++List.replicate 177 anyA,[(0,gnB g nb N),(1,bObW N K),(2,iObW N X),(3,iObW N Y)],4⟩
def SB1 (g:Nat→T_GainBar) (nb N n:Nat) (s:Nat→Int) (K:Nat→Bool) (X Y:Nat→Int) (a m:Nat):St :=
  ⟨[gnA g nb N,inS n s,.pt 2 0 0 0,.p .any,.p .any,.ar 1 1 0 N,.ar 1 2 0 N,.ar 1 3 0 N,.p (.int .i64 a),.p (.int .i64 m)]++List.replicate 176 anyA,[(0,gnB g nb N),(1,bObW N K),(2,iObW N X),(3,iObW N Y)],4⟩
def SB2 (g:Nat→T_GainBar) (nb N n:Nat) (s:Nat→Int) (K:Nat→Bool) (X Y:Nat→Int) (a m i:Nat):St :=
  ⟨[gnA g nb N,inS n s,.pt 2 0 0 0,.p .any,.p .any,.ar 1 1 0 N,.ar 1 2 0 N,.ar 1 3 0 N,.p (.int .i64 a),.p (.int .i64 m),.p (.int .i64 i)]++List.replicate 175 anyA,[(0,gnB g nb N),(1,bObW N K),(2,iObW N X),(3,iObW N Y)],4⟩
def SB3 (g:Nat→T_GainBar) (nb N n:Nat) (s:Nat→Int) (K:Nat→Bool) (X Y:Nat→Int) (i:Nat):St :=
  ⟨[gnA g nb N,inS n s,.pt 2 0 0 0,.p .any,.p .any,.ar 1 1 0 N,.ar 1 2 0 N,.ar 1 3 0 N]++List.replicate 4 anyA++[.p (.int .i64 i)]++List.replicate 173 anyA,[(0,gnB g nb N),(1,bObW N K),(2,iObW N X),(3,iObW N Y)],4⟩
def SZ0 (g:Nat→T_GainBar) (nb:Nat) (N:Int) (n:Nat) (s:Nat→Int) (k:Nat):St :=
  ⟨[gnA g nb N,inS n s,.pt 2 0 0 0]++List.replicate 4 anyA++[inS n s,.p (.int .i64 n),.p (.int .i64 k)]++List.replicate 32 anyA,[(0,gnB g nb N)],1⟩
def SYw0 (g:Nat→T_GainBar) (nb N n:Nat) (s:Nat→Int) (R X Y:Nat→Int) (k:Nat):St :=
  ⟨[gnA g nb N,inS n s,.pt 2 0 0 0,.p .any,.p .any,.ar 1 1 0 N,.ar 2 2 0 N]++List.replicate 16 anyA++[.p (.int .i64 N),.p (.int .i64 k)]++List.replicate 108 anyA,[(0,gnB g nb N),(1,iObW N R),(2,cOb N X Y)],3⟩
def SYw1 (g:Nat→T_GainBar) (nb N n:Nat) (s:Nat→Int) (R X Y:Nat→Int) (k:Nat):St :=
  ⟨[gnA g nb N,inS n s,.pt 2 0 0 0,.p .any,.p .any,.ar 1 1 0 N,.ar 2 2 0 N]++List.replicate 25 anyA++[inS n s,.p (.int .i64 n),.p (.int .i64 k)]++List.replicate 98 anyA,[(0,gnB g nb N),(1,iObW N R),(2,cOb N X Y)],3⟩
def SY2 (g:Nat→T_GainBar) (nb N n:Nat) (s:Nat→Int) (R X Y:Nat→Int) (k:Nat) (dx dy fr to:Int) (v:Nat):St :=
  ⟨[gnA g nb N,inS n s,.pt 2 0 0 0,.p .any,.p .any,.ar 1 1 0 N,.ar 2 2 0 N]++List.replicate 4 anyA++[.p (.int .i64 dx),.p (.int .i64 dy),.p (.int .i64 fr),.p (.int .i64 to)]++List.replicate 17 anyA++[inS n s,.p (.int .i64 n),.p (.int .i64 k)]++List.replicate 60 anyA++[.p (.int .i64 N),.p (.int .i64 v)]++List.replicate 36 anyA,[(0,gnB g nb N),(1,iObW N R),(2,cOb N X Y)],3⟩
def SY3 (g:Nat→T_GainBar) (nb N n:Nat) (s:Nat→Int) (R X Y:Nat→Int) (k:Nat) (dx dy fr to:Int) (v:Nat):St :=
  ⟨[gnA g nb N,inS n s,.pt 2 0 0 0,.p .any,.p .any,.ar 1 1 0 N,.ar 2 2 0 N]++List.replicate 4 anyA++[.p (.int .i64 dx),.p (.int .i64 dy),.p (.int .i64 fr),.p (.int .i64 to),.p (.int .i64 v)]++List.replicate 16 anyA++[inS n s,.p (.int .i64 n),.p (.int .i64 k)]++List.replicate 60 anyA++[.p (.int .i64 N),.p (.int .i64 v)]++List.replicate 36 anyA,[(0,gnB g nb N),(1,iObW N R),(2,cOb N X Y)],3⟩
theorem bLa (g:Nat→T_GainBar) (nb:Nat) (N:Int) (n:Nat) (s:Nat→Int) :
    zT Try.f68 [rg 2,rg 1,.head] [gnA g nb N,inS n s] [0] (SBl g nb N n s 0) =
    some (zf47,zD [(AI N),(AN nb),(AP nb (fun i=>[.int .i64 ((g i).1),.int .i64 ((g i).2.1),.int .i64 ((g i).2.2.1),.int .i64 ((g i).2.2.2.1)])),(AN n),(AP n (fun i=>[.int .i64 (s i)])),(AN 0),((0:Int)=(↑0:Int)),((([AV.p (PV.int IntKind.i64 N),gnL g nb].length):Nat)=2),(NL 1 1)] [0,1,2,3,4,5,6,7,8,8,0,1,2]):=by kernel_rfl
theorem bLb (g:Nat→T_GainBar) (nb:Nat) (N:Int) (n:Nat) (s:Nat→Int) (k:Nat) :
    zM 0 [rg 4,.dec true,rg 31,.dec false,rg 3,.head] zf47 (SBl g nb N n s k) [0] 1 (SBl g nb N n s (k+1)) =
    some (zf47,zD [((decide ((↑k:Int)<(↑n:Int)))=true),(IL 0 (↑k:Int)),(IT (↑k:Int) (↑n:Int)),(AG (!decide (s (↑k:Int).toNat<0))),(((!decide (s (↑k:Int).toNat<0))=true)→(IL 0 (↑k:Int))),(((!decide (s (↑k:Int).toNat<0))=true)→(IT (↑k:Int) (↑n:Int))),(((!decide (s (↑k:Int).toNat<0))=true)→(NT 0 1)),(((decide (s (↑k:Int).toNat<0))=false)→ ((!decide (s (↑k:Int).toNat<0))=true)),(AG (!bif decide (s (↑k:Int).toNat<0) then true else decide (s (↑k:Int).toNat≥(↑nb:Int)))),(AG ((!bif decide (s (↑k:Int).toNat<0) then true else decide (s (↑k:Int).toNat≥(↑nb:Int)))&&decide ((↑k:Int)>0))),((((!bif decide (s (↑k:Int).toNat<0) then true else decide (s (↑k:Int).toNat≥(↑nb:Int)))&&decide ((↑k:Int)>0))=true)→(ZLo ((↑k:Int) - 1))),((((!bif decide (s (↑k:Int).toNat<0) then true else decide (s (↑k:Int).toNat≥(↑nb:Int)))&&decide ((↑k:Int)>0))=true)→(ZHi ((↑k:Int) - 1))),((((!bif decide (s (↑k:Int).toNat<0) then true else decide (s (↑k:Int).toNat≥(↑nb:Int)))&&decide ((↑k:Int)>0))=true)→(IL 0 ((↑k:Int) - 1))),((((!bif decide (s (↑k:Int).toNat<0) then true else decide (s (↑k:Int).toNat≥(↑nb:Int)))&&decide ((↑k:Int)>0))=true)→(IT ((↑k:Int) - 1) (↑n:Int))),((((!bif decide (s (↑k:Int).toNat<0) then true else decide (s (↑k:Int).toNat≥(↑nb:Int)))&&decide ((↑k:Int)>0))=true)→(IL 0 (↑k:Int))),((((!bif decide (s (↑k:Int).toNat<0) then true else decide (s (↑k:Int).toNat≥(↑nb:Int)))&&decide ((↑k:Int)>0))=true)→(IT (↑k:Int) (↑n:Int))),(((!bif decide (s (↑k:Int).toNat<0) then true else decide (s (↑k:Int).toNat≥(↑nb:Int)))=true)→(((decide ((↑k:Int)>0))=true)→ (((!bif decide (s (↑k:Int).toNat<0) then true else decide (s (↑k:Int).toNat≥(↑nb:Int)))&&decide ((↑k:Int)>0))=true))),(((bif decide (s (↑k:Int).toNat<0) then true else decide (s (↑k:Int).toNat≥(↑nb:Int)))=false)→ ((!bif decide (s (↑k:Int).toNat<0) then true else decide (s (↑k:Int).toNat≥(↑nb:Int)))=true)),((bif bif decide (s (↑k:Int).toNat<0) then true else decide (s (↑k:Int).toNat≥(↑nb:Int)) then true else bif decide ((↑k:Int)>0) then decide (s ((↑k:Int) - 1).toNat≥s (↑k:Int).toNat) else false)=false),(ZLo ((↑k:Int)+1)),(ZHi ((↑k:Int)+1)),(AI N),(AN nb),(AP nb (fun i=>[.int .i64 ((g i).1),.int .i64 ((g i).2.1),.int .i64 ((g i).2.2.1),.int .i64 ((g i).2.2.2.1)])),(AN n),(AP n (fun i=>[.int .i64 (s i)])),(AN 0),((((↑k:Int)+1):Int)=(↑(k+1):Int)),(AN 2),(NL 1 1)] [0,1,2,3,3,4,5,3,3,6,3,3,3,7,8,8,9,10,11,9,9,12,13,9,9,9,14,15,9,9,9,8,16,17,18,19,20,21,22,23,24,25,26,27,28,29,29,21,22,23]):=by kernel_rfl
theorem bLc (g:Nat→T_GainBar) (nb:Nat) (N:Int) (n:Nat) (s:Nat→Int) (k:Nat) :
    zP Try.f68 0 [rg 4,.dec true,rg 31,.dec true,rg 1] zf47 (SBl g nb N n s k) [] 1 [] (.p (.bool false)) =
    some (zD [((decide ((↑k:Int)<(↑n:Int)))=true),(IL 0 (↑k:Int)),(IT (↑k:Int) (↑n:Int)),(AG (!decide (s (↑k:Int).toNat<0))),(((!decide (s (↑k:Int).toNat<0))=true)→(IL 0 (↑k:Int))),(((!decide (s (↑k:Int).toNat<0))=true)→(IT (↑k:Int) (↑n:Int))),(((!decide (s (↑k:Int).toNat<0))=true)→(NT 0 1)),(((decide (s (↑k:Int).toNat<0))=false)→ ((!decide (s (↑k:Int).toNat<0))=true)),(AG (!bif decide (s (↑k:Int).toNat<0) then true else decide (s (↑k:Int).toNat≥(↑nb:Int)))),(AG ((!bif decide (s (↑k:Int).toNat<0) then true else decide (s (↑k:Int).toNat≥(↑nb:Int)))&&decide ((↑k:Int)>0))),((((!bif decide (s (↑k:Int).toNat<0) then true else decide (s (↑k:Int).toNat≥(↑nb:Int)))&&decide ((↑k:Int)>0))=true)→(ZLo ((↑k:Int) - 1))),((((!bif decide (s (↑k:Int).toNat<0) then true else decide (s (↑k:Int).toNat≥(↑nb:Int)))&&decide ((↑k:Int)>0))=true)→(ZHi ((↑k:Int) - 1))),((((!bif decide (s (↑k:Int).toNat<0) then true else decide (s (↑k:Int).toNat≥(↑nb:Int)))&&decide ((↑k:Int)>0))=true)→(IL 0 ((↑k:Int) - 1))),((((!bif decide (s (↑k:Int).toNat<0) then true else decide (s (↑k:Int).toNat≥(↑nb:Int)))&&decide ((↑k:Int)>0))=true)→(IT ((↑k:Int) - 1) (↑n:Int))),((((!bif decide (s (↑k:Int).toNat<0) then true else decide (s (↑k:Int).toNat≥(↑nb:Int)))&&decide ((↑k:Int)>0))=true)→(IL 0 (↑k:Int))),((((!bif decide (s (↑k:Int).toNat<0) then true else decide (s (↑k:Int).toNat≥(↑nb:Int)))&&decide ((↑k:Int)>0))=true)→(IT (↑k:Int) (↑n:Int))),(((!bif decide (s (↑k:Int).toNat<0) then true else decide (s (↑k:Int).toNat≥(↑nb:Int)))=true)→(((decide ((↑k:Int)>0))=true)→ (((!bif decide (s (↑k:Int).toNat<0) then true else decide (s (↑k:Int).toNat≥(↑nb:Int)))&&decide ((↑k:Int)>0))=true))),(((bif decide (s (↑k:Int).toNat<0) then true else decide (s (↑k:Int).toNat≥(↑nb:Int)))=false)→ ((!bif decide (s (↑k:Int).toNat<0) then true else decide (s (↑k:Int).toNat≥(↑nb:Int)))=true)),((bif bif decide (s (↑k:Int).toNat<0) then true else decide (s (↑k:Int).toNat≥(↑nb:Int)) then true else bif decide ((↑k:Int)>0) then decide (s ((↑k:Int) - 1).toNat≥s (↑k:Int).toNat) else false)=true),(false=false)] [0,1,2,3,3,4,5,3,3,6,3,3,3,7,8,8,9,10,11,9,9,12,13,9,9,9,14,15,9,9,9,8,16,17,18,19]):=by kernel_rfl
theorem bLd (g:Nat→T_GainBar) (nb:Nat) (N:Int) (n:Nat) (s:Nat→Int) (k:Nat) (b:Bool) :
    zP Try.f68 0 [rg 4,.dec false,rm [(1,oc [] (.p (.bool b)))] 1] zf47 (SBl g nb N n s k) [] 1 [] (.p (.bool b)) =
    some [((decide ((↑k:Int)<(↑n:Int)))=false),(NT 0 1),zE 15 [(zf33 N nb g)] [] (.p (.bool b)),(b=b)]:=by kernel_rfl
theorem bSz (g:Nat→T_GainBar) (nb:Nat) (N:Int) (n:Nat) (s:Nat→Int) :
    zS Try.f18 [rg 2,rm [(2,oc [] (.p (.bool false)))] 1,.dec true,rg 1] [gnA g nb N,inS n s] [] [] (.p (.bool false)) =
    some [(NT 0 1),zE 68 [(zf33 N nb g),.p (.seq true 1 n (fun i=>[.int .i64 (s i)]))] [] (.p (.bool false)),((!false)=true),(false=false)]:=by kernel_rfl
theorem bSa (g:Nat→T_GainBar) (nb N n:Nat) (s:Nat→Int) :
    zT Try.f18 [rg 2,rm [(2,oc [] (.p (.bool true)))] 1,.dec false,rg 4,rg 4,rg 4,rg 1,.head] [gnA g nb N,inS n s] [0,256,384,512] (SB0 g nb N n s (fun _=>false) (fun _=>0) (fun _=>0) 0) =
    some (zf22,zD [(NT 0 1),zE 68 [(zf25 N nb g),.p (.seq true 1 n (fun i=>[.int .i64 (s i)]))] [] (.p (.bool true)),((!true)=false),(IL 0 (↑N:Int)),(IL (↑N:Int) (↑N:Int)),(IL ((↑N:Int)*(↑1:Int)) 281474976710656),(ZHi (↑N:Int)),(IL ((↑N:Int)*(↑8:Int)) 281474976710656),(AI ((↑N:Int))),(AN nb),(AP nb (fun i=>[.int .i64 ((g i).1),.int .i64 ((g i).2.1),.int .i64 ((g i).2.2.1),.int .i64 ((g i).2.2.2.1)])),(AN n),(AP n (fun i=>[.int .i64 (s i)])),(AN 0),(AN N),((0:Int)=(↑0:Int)),((([AV.p (PV.int IntKind.i64 (↑N:Int)),gnL g nb].length):Nat)=2),(NL 1 1),(AN 1),(NL N N),(AA N (fun i=>[.p (.bool false)])),(AA N (fun i=>[.p (.int .i64 0)]))] [0,1,2,0,3,4,5,6,0,3,4,7,6,0,3,4,7,6,8,9,10,11,12,13,13,14,13,14,13,14,15,16,17,17,8,9,10,18,19,20,18,19,21,18,19,21]):=by kernel_rfl
theorem bSk (g:Nat→T_GainBar) (nb N n:Nat) (s:Nat→Int) (K:Nat→Bool) (X Y:Nat→Int) (a:Nat) :
    zM 0 [rg 4,.dec true,rg 4,.dec true,rg 3,.head] zf22 (SB0 g nb N n s K X Y a) [0,1,2,3] 1 (SB0 g nb N n s K X Y (a+1)) =
    some (zf22,zD [(NT 0 1),((decide ((↑a:Int)<(↑N:Int)))=true),(IL 0 (↑a:Int)),(IT (↑a:Int) (↑N:Int)),(NT a N),((K a)=true),(ZLo ((↑a:Int)+1)),(ZHi ((↑a:Int)+1)),(AI ((↑N:Int))),(AN nb),(AP nb (fun i=>[.int .i64 ((g i).1),.int .i64 ((g i).2.1),.int .i64 ((g i).2.2.1),.int .i64 ((g i).2.2.2.1)])),(AN n),(AP n (fun i=>[.int .i64 (s i)])),(AN 0),(AN N),((((↑a:Int)+1):Int)=(↑(a+1):Int)),(AN 2),(NL 1 1),(AN 1),(NL N N),(AA N (fun i=>[.p (.bool (K i))])),(AA N (fun i=>[.p (.int .i64 (X i))])),(AA N (fun i=>[.p (.int .i64 (Y i))]))] [0,1,2,3,4,5,6,7,8,9,10,11,12,13,13,14,13,14,13,14,15,16,17,17,8,9,10,18,19,20,18,19,21,18,19,22]):=by kernel_rfl
theorem bSn (g:Nat→T_GainBar) (nb N n:Nat) (s:Nat→Int) (K:Nat→Bool) (X Y:Nat→Int) (a:Nat) :
    zM 0 [rg 4,.dec true,rg 4,.dec false,rg 4,rg 1,.head] zf22 (SB0 g nb N n s K X Y a) [0,1,2,3] 1 (SB1 g nb N n s (up K a true) X Y a 0) =
    some (zf9,zD [(NT 0 1),((decide ((↑a:Int)<(↑N:Int)))=true),(IL 0 (↑a:Int)),(IT (↑a:Int) (↑N:Int)),(NT a N),((K a)=false),((false=true)→ ((N:Nat)=1)),(AI ((↑N:Int))),(AN nb),(AP nb (fun i=>[.int .i64 ((g i).1),.int .i64 ((g i).2.1),.int .i64 ((g i).2.2.1),.int .i64 ((g i).2.2.2.1)])),(AN n),(AP n (fun i=>[.int .i64 (s i)])),(AN 0),(AN N),(AI ((↑a:Int))),((0:Int)=(↑0:Int)),(AN 2),(NL 1 1),(AN 1),(NL N N),(CV [(1,⟨false,1,N,(fun i_1=>(if (i_1=a) then [.p (.bool true)] else [.p (.bool (K i_1))]))⟩),(0,⟨true,2,1,(fun i_1=>[.p (.int .i64 (↑N:Int)),.p (.seq true 4 nb (fun i_2=>[.int .i64 ((g i_2).1),.int .i64 ((g i_2).2.1),.int .i64 ((g i_2).2.2.1),.int .i64 ((g i_2).2.2.2.1)]))])⟩),(2,⟨false,1,N,(fun i_1=>[.p (.int .i64 (X i_1))])⟩),(3,⟨false,1,N,(fun i_1=>[.p (.int .i64 (Y i_1))])⟩)] [0,1,2,3] 1 N (fun i=>if (i=a) then [.p (.bool true)] else [.p (.bool (K i))]) (fun i=>[.p (.bool (up K a true i))])),(AA N (fun i=>[.p (.int .i64 (X i))])),(AA N (fun i=>[.p (.int .i64 (Y i))]))] [0,1,2,3,4,5,2,3,4,6,7,8,9,10,11,12,12,13,12,13,12,13,14,15,16,17,17,7,8,9,18,19,20,18,19,21,18,19,22]):=by kernel_rfl
theorem bS1 (g:Nat→T_GainBar) (nb N n:Nat) (s:Nat→Int) (K:Nat→Bool) (X Y:Nat→Int) (a m:Nat) :
    zM 0 [rg 4,.dec true,rg 1,.head] zf9 (SB1 g nb N n s K X Y a m) [0,1,2,3] 1 (SB2 g nb N n s K X Y a m 0) =
    some (zf1,zD [(NT 0 1),((decide ((↑m:Int)<(↑N:Int)))=true),(AI ((↑N:Int))),(AN nb),(AP nb (fun i=>[.int .i64 ((g i).1),.int .i64 ((g i).2.1),.int .i64 ((g i).2.2.1),.int .i64 ((g i).2.2.2.1)])),(AN n),(AP n (fun i=>[.int .i64 (s i)])),(AN 0),(AN N),(AI ((↑a:Int))),(AI ((↑m:Int))),((0:Int)=(↑0:Int)),(AN 2),(NL 1 1),(AN 1),(NL N N),(AA N (fun i=>[.p (.bool (K i))])),(AA N (fun i=>[.p (.int .i64 (X i))])),(AA N (fun i=>[.p (.int .i64 (Y i))]))] [0,1,2,3,4,5,6,7,7,8,7,8,7,8,9,10,11,12,13,13,2,3,4,14,15,16,14,15,17,14,15,18]):=by kernel_rfl
theorem bS1e (g:Nat→T_GainBar) (nb N n:Nat) (s:Nat→Int) (K:Nat→Bool) (X Y:Nat→Int) (a m:Nat) :
    zM 0 [rg 4,.dec false,rg 3,.head] zf9 (SB1 g nb N n s K X Y a m) [0,1,2,3] 1 (SB0 g nb N n s K X Y (a+1)) =
    some (zf22,zD [(NT 0 1),((decide ((↑m:Int)<(↑N:Int)))=false),(ZLo ((↑a:Int)+1)),(ZHi ((↑a:Int)+1)),(AI ((↑N:Int))),(AN nb),(AP nb (fun i=>[.int .i64 ((g i).1),.int .i64 ((g i).2.1),.int .i64 ((g i).2.2.1),.int .i64 ((g i).2.2.2.1)])),(AN n),(AP n (fun i=>[.int .i64 (s i)])),(AN 0),(AN N),((((↑a:Int)+1):Int)=(↑(a+1):Int)),(AN 2),(NL 1 1),(AN 1),(NL N N),(AA N (fun i=>[.p (.bool (K i))])),(AA N (fun i=>[.p (.int .i64 (X i))])),(AA N (fun i=>[.p (.int .i64 (Y i))]))] [0,1,2,3,4,5,6,7,8,9,9,10,9,10,9,10,11,12,13,13,4,5,6,14,15,16,14,15,17,14,15,18]):=by kernel_rfl
theorem bS2e (g:Nat→T_GainBar) (nb N n:Nat) (s:Nat→Int) (K:Nat→Bool) (X Y:Nat→Int) (a m i:Nat) :
    zM 0 [rg 4,.dec false,rg 3,.head] zf1 (SB2 g nb N n s K X Y a m i) [0,1,2,3] 1 (SB1 g nb N n s K X Y a (m+1)) =
    some (zf9,zD [((decide ((↑i:Int)<(↑n:Int)))=false),(ZLo ((↑m:Int)+1)),(ZHi ((↑m:Int)+1)),(AI ((↑N:Int))),(AN nb),(AP nb (fun i_1=>[.int .i64 ((g i_1).1),.int .i64 ((g i_1).2.1),.int .i64 ((g i_1).2.2.1),.int .i64 ((g i_1).2.2.2.1)])),(AN n),(AP n (fun i_1=>[.int .i64 (s i_1)])),(AN 0),(AN N),(AI ((↑a:Int))),((((↑m:Int)+1):Int)=(↑(m+1):Int)),(AN 2),(NL 1 1),(AN 1),(NL N N),(AA N (fun i_1=>[.p (.bool (K i_1))])),(AA N (fun i_1=>[.p (.int .i64 (X i_1))])),(AA N (fun i_1=>[.p (.int .i64 (Y i_1))]))] [0,1,2,3,4,5,6,7,8,8,9,8,9,8,9,10,11,12,13,13,3,4,5,14,15,16,14,15,17,14,15,18]):=by kernel_rfl
theorem bS2a (g:Nat→T_GainBar) (nb N n:Nat) (s:Nat→Int) (K:Nat→Bool) (X Y:Nat→Int) (a m i:Nat) :
    zM 0 [rg 4,.dec true,rg 10,rg 13,.dec true,rg 5,rg 13,rg 13,rg 3,.head] zf1 (SB2 g nb N n s K X Y a m i) [0,1,2,3] 1 (SB2 g nb N n s (up K (gb g s i).2.1.toNat true) (up X (gb g s i).2.1.toNat (X (gb g s i).1.toNat+(gb g s i).2.2.1)) (up Y (gb g s i).2.1.toNat (Y (gb g s i).1.toNat+(gb g s i).2.2.2.1)) a m (i+1)) =
    some (zf1,zD [((decide ((↑i:Int)<(↑n:Int)))=true),(NT 0 1),(IL 0 (↑i:Int)),(IT (↑i:Int) (↑n:Int)),(IL 0 (s i)),(IT (s i) (↑nb:Int)),((true=true)→ (AN 1)),(IL 0 ((g (s i).toNat).1)),(IT ((g (s i).toNat).1) (↑N:Int)),(NT ((g (s i).toNat).1.toNat) N),(AG (K (g (s i).toNat).1.toNat)),(((K (g (s i).toNat).1.toNat)=true)→(NT 0 1)),(((K (g (s i).toNat).1.toNat)=true)→(IL 0 ((g (s i).toNat).2.1))),(((K (g (s i).toNat).1.toNat)=true)→(IT ((g (s i).toNat).2.1) (↑N:Int))),(((K (g (s i).toNat).1.toNat)=true)→(NT ((g (s i).toNat).2.1.toNat) N)),((bif K (g (s i).toNat).1.toNat then !K (g (s i).toNat).2.1.toNat else false)=true),(IL 0 ((g (s i).toNat).2.1)),(IT ((g (s i).toNat).2.1) (↑N:Int)),(NT ((g (s i).toNat).2.1.toNat) N),((false=true)→ ((N:Nat)=1)),(ZLo (X (g (s i).toNat).1.toNat+(g (s i).toNat).2.2.1)),(ZHi (X (g (s i).toNat).1.toNat+(g (s i).toNat).2.2.1)),(ZLo (Y (g (s i).toNat).1.toNat+(g (s i).toNat).2.2.2.1)),(ZHi (Y (g (s i).toNat).1.toNat+(g (s i).toNat).2.2.2.1)),(ZLo ((↑i:Int)+1)),(ZHi ((↑i:Int)+1)),(AI ((↑N:Int))),(AN nb),(AP nb (fun i_1=>[.int .i64 ((g i_1).1),.int .i64 ((g i_1).2.1),.int .i64 ((g i_1).2.2.1),.int .i64 ((g i_1).2.2.2.1)])),(AN n),(AP n (fun i_1=>[.int .i64 (s i_1)])),(AN 0),(AN N),(AI ((↑a:Int))),(AI ((↑m:Int))),((((↑i:Int)+1):Int)=(↑(i+1):Int)),(AN 2),(NL 1 1),(AN 1),(NL N N),(CV [(3,⟨false,1,N,(fun i_2=>(if (i_2=(g (s i).toNat).2.1.toNat) then [.p (.int .i64 (Y (g (s i).toNat).1.toNat+(g (s i).toNat).2.2.2.1))] else [.p (.int .i64 (Y i_2))]))⟩),(2,⟨false,1,N,(fun i_2=>(if (i_2=(g (s i).toNat).2.1.toNat) then [.p (.int .i64 (X (g (s i).toNat).1.toNat+(g (s i).toNat).2.2.1))] else [.p (.int .i64 (X i_2))]))⟩),(1,⟨false,1,N,(fun i_2=>(if (i_2=(g (s i).toNat).2.1.toNat) then [.p (.bool true)] else [.p (.bool (K i_2))]))⟩),(388,⟨true,4,1,(fun i_2=>[.p (.int .i64 ((g (s i).toNat).1)),.p (.int .i64 ((g (s i).toNat).2.1)),.p (.int .i64 ((g (s i).toNat).2.2.1)),.p (.int .i64 ((g (s i).toNat).2.2.2.1))])⟩),(0,⟨true,2,1,(fun i_2=>[.p (.int .i64 (↑N:Int)),.p (.seq true 4 nb (fun i_3=>[.int .i64 ((g i_3).1),.int .i64 ((g i_3).2.1),.int .i64 ((g i_3).2.2.1),.int .i64 ((g i_3).2.2.2.1)]))])⟩)] [0,1,2,3] 1 N (fun i_1=>if (i_1=(g (s i).toNat).2.1.toNat) then [.p (.bool true)] else [.p (.bool (K i_1))]) (fun i_1=>[.p (.bool (up K (gb g s i).2.1.toNat true i_1))])),(CV [(3,⟨false,1,N,(fun i_2=>(if (i_2=(g (s i).toNat).2.1.toNat) then [.p (.int .i64 (Y (g (s i).toNat).1.toNat+(g (s i).toNat).2.2.2.1))] else [.p (.int .i64 (Y i_2))]))⟩),(2,⟨false,1,N,(fun i_2=>(if (i_2=(g (s i).toNat).2.1.toNat) then [.p (.int .i64 (X (g (s i).toNat).1.toNat+(g (s i).toNat).2.2.1))] else [.p (.int .i64 (X i_2))]))⟩),(1,⟨false,1,N,(fun i_2=>(if (i_2=(g (s i).toNat).2.1.toNat) then [.p (.bool true)] else [.p (.bool (K i_2))]))⟩),(388,⟨true,4,1,(fun i_2=>[.p (.int .i64 ((g (s i).toNat).1)),.p (.int .i64 ((g (s i).toNat).2.1)),.p (.int .i64 ((g (s i).toNat).2.2.1)),.p (.int .i64 ((g (s i).toNat).2.2.2.1))])⟩),(0,⟨true,2,1,(fun i_2=>[.p (.int .i64 (↑N:Int)),.p (.seq true 4 nb (fun i_3=>[.int .i64 ((g i_3).1),.int .i64 ((g i_3).2.1),.int .i64 ((g i_3).2.2.1),.int .i64 ((g i_3).2.2.2.1)]))])⟩)] [0,1,2,3] 1 N (fun i_1=>if (i_1=(g (s i).toNat).2.1.toNat) then [.p (.int .i64 (X (g (s i).toNat).1.toNat+(g (s i).toNat).2.2.1))] else [.p (.int .i64 (X i_1))]) (fun i_1=>[.p (.int .i64 (up X (gb g s i).2.1.toNat (X (gb g s i).1.toNat+(gb g s i).2.2.1) i_1))])),(CV [(3,⟨false,1,N,(fun i_2=>(if (i_2=(g (s i).toNat).2.1.toNat) then [.p (.int .i64 (Y (g (s i).toNat).1.toNat+(g (s i).toNat).2.2.2.1))] else [.p (.int .i64 (Y i_2))]))⟩),(2,⟨false,1,N,(fun i_2=>(if (i_2=(g (s i).toNat).2.1.toNat) then [.p (.int .i64 (X (g (s i).toNat).1.toNat+(g (s i).toNat).2.2.1))] else [.p (.int .i64 (X i_2))]))⟩),(1,⟨false,1,N,(fun i_2=>(if (i_2=(g (s i).toNat).2.1.toNat) then [.p (.bool true)] else [.p (.bool (K i_2))]))⟩),(388,⟨true,4,1,(fun i_2=>[.p (.int .i64 ((g (s i).toNat).1)),.p (.int .i64 ((g (s i).toNat).2.1)),.p (.int .i64 ((g (s i).toNat).2.2.1)),.p (.int .i64 ((g (s i).toNat).2.2.2.1))])⟩),(0,⟨true,2,1,(fun i_2=>[.p (.int .i64 (↑N:Int)),.p (.seq true 4 nb (fun i_3=>[.int .i64 ((g i_3).1),.int .i64 ((g i_3).2.1),.int .i64 ((g i_3).2.2.1),.int .i64 ((g i_3).2.2.2.1)]))])⟩)] [0,1,2,3] 1 N (fun i_1=>if (i_1=(g (s i).toNat).2.1.toNat) then [.p (.int .i64 (Y (g (s i).toNat).1.toNat+(g (s i).toNat).2.2.2.1))] else [.p (.int .i64 (Y i_1))]) (fun i_1=>[.p (.int .i64 (up Y (gb g s i).2.1.toNat (Y (gb g s i).1.toNat+(gb g s i).2.2.2.1) i_1))]))] [0,1,2,3,4,5,1,6,1,7,8,9,10,11,10,10,12,13,10,14,10,10,15,1,16,17,18,19,1,1,7,8,9,1,20,21,16,17,18,19,1,1,7,8,9,1,22,23,16,17,18,19,24,25,26,27,28,29,30,31,31,32,31,32,31,32,33,34,35,36,37,37,26,27,28,38,39,40,38,39,41,38,39,42]):=by kernel_rfl
theorem bS2b (g:Nat→T_GainBar) (nb N n:Nat) (s:Nat→Int) (K:Nat→Bool) (X Y:Nat→Int) (a m i:Nat) :
    zM 0 [rg 4,.dec true,rg 10,rg 13,.dec false,rg 13,.dec true,rg 5,rg 13,rg 13,rg 3,.head] zf1 (SB2 g nb N n s K X Y a m i) [0,1,2,3] 1 (SB2 g nb N n s (up K (gb g s i).1.toNat true) (up X (gb g s i).1.toNat (X (gb g s i).2.1.toNat - (gb g s i).2.2.1)) (up Y (gb g s i).1.toNat (Y (gb g s i).2.1.toNat - (gb g s i).2.2.2.1)) a m (i+1)) =
    some (zf1,zD [((decide ((↑i:Int)<(↑n:Int)))=true),(NT 0 1),(IL 0 (↑i:Int)),(IT (↑i:Int) (↑n:Int)),(IL 0 (s i)),(IT (s i) (↑nb:Int)),((true=true)→ (AN 1)),(IL 0 ((g (s i).toNat).1)),(IT ((g (s i).toNat).1) (↑N:Int)),(NT ((g (s i).toNat).1.toNat) N),(AG (K (g (s i).toNat).1.toNat)),(((K (g (s i).toNat).1.toNat)=true)→(NT 0 1)),(((K (g (s i).toNat).1.toNat)=true)→(IL 0 ((g (s i).toNat).2.1))),(((K (g (s i).toNat).1.toNat)=true)→(IT ((g (s i).toNat).2.1) (↑N:Int))),(((K (g (s i).toNat).1.toNat)=true)→(NT ((g (s i).toNat).2.1.toNat) N)),((bif K (g (s i).toNat).1.toNat then !K (g (s i).toNat).2.1.toNat else false)=false),(IL 0 ((g (s i).toNat).2.1)),(IT ((g (s i).toNat).2.1) (↑N:Int)),(NT ((g (s i).toNat).2.1.toNat) N),(AG (K (g (s i).toNat).2.1.toNat)),(((K (g (s i).toNat).2.1.toNat)=true)→(NT 0 1)),(((K (g (s i).toNat).2.1.toNat)=true)→(IL 0 ((g (s i).toNat).1))),(((K (g (s i).toNat).2.1.toNat)=true)→(IT ((g (s i).toNat).1) (↑N:Int))),(((K (g (s i).toNat).2.1.toNat)=true)→(NT ((g (s i).toNat).1.toNat) N)),((bif K (g (s i).toNat).2.1.toNat then !K (g (s i).toNat).1.toNat else false)=true),((false=true)→ ((N:Nat)=1)),(ZLo (X (g (s i).toNat).2.1.toNat - (g (s i).toNat).2.2.1)),(ZHi (X (g (s i).toNat).2.1.toNat - (g (s i).toNat).2.2.1)),(ZLo (Y (g (s i).toNat).2.1.toNat - (g (s i).toNat).2.2.2.1)),(ZHi (Y (g (s i).toNat).2.1.toNat - (g (s i).toNat).2.2.2.1)),(ZLo ((↑i:Int)+1)),(ZHi ((↑i:Int)+1)),(AI ((↑N:Int))),(AN nb),(AP nb (fun i_1=>[.int .i64 ((g i_1).1),.int .i64 ((g i_1).2.1),.int .i64 ((g i_1).2.2.1),.int .i64 ((g i_1).2.2.2.1)])),(AN n),(AP n (fun i_1=>[.int .i64 (s i_1)])),(AN 0),(AN N),(AI ((↑a:Int))),(AI ((↑m:Int))),((((↑i:Int)+1):Int)=(↑(i+1):Int)),(AN 2),(NL 1 1),(AN 1),(NL N N),(CV [(3,⟨false,1,N,(fun i_2=>(if (i_2=(g (s i).toNat).1.toNat) then [.p (.int .i64 (Y (g (s i).toNat).2.1.toNat - (g (s i).toNat).2.2.2.1))] else [.p (.int .i64 (Y i_2))]))⟩),(2,⟨false,1,N,(fun i_2=>(if (i_2=(g (s i).toNat).1.toNat) then [.p (.int .i64 (X (g (s i).toNat).2.1.toNat - (g (s i).toNat).2.2.1))] else [.p (.int .i64 (X i_2))]))⟩),(1,⟨false,1,N,(fun i_2=>(if (i_2=(g (s i).toNat).1.toNat) then [.p (.bool true)] else [.p (.bool (K i_2))]))⟩),(388,⟨true,4,1,(fun i_2=>[.p (.int .i64 ((g (s i).toNat).1)),.p (.int .i64 ((g (s i).toNat).2.1)),.p (.int .i64 ((g (s i).toNat).2.2.1)),.p (.int .i64 ((g (s i).toNat).2.2.2.1))])⟩),(0,⟨true,2,1,(fun i_2=>[.p (.int .i64 (↑N:Int)),.p (.seq true 4 nb (fun i_3=>[.int .i64 ((g i_3).1),.int .i64 ((g i_3).2.1),.int .i64 ((g i_3).2.2.1),.int .i64 ((g i_3).2.2.2.1)]))])⟩)] [0,1,2,3] 1 N (fun i_1=>if (i_1=(g (s i).toNat).1.toNat) then [.p (.bool true)] else [.p (.bool (K i_1))]) (fun i_1=>[.p (.bool (up K (gb g s i).1.toNat true i_1))])),(CV [(3,⟨false,1,N,(fun i_2=>(if (i_2=(g (s i).toNat).1.toNat) then [.p (.int .i64 (Y (g (s i).toNat).2.1.toNat - (g (s i).toNat).2.2.2.1))] else [.p (.int .i64 (Y i_2))]))⟩),(2,⟨false,1,N,(fun i_2=>(if (i_2=(g (s i).toNat).1.toNat) then [.p (.int .i64 (X (g (s i).toNat).2.1.toNat - (g (s i).toNat).2.2.1))] else [.p (.int .i64 (X i_2))]))⟩),(1,⟨false,1,N,(fun i_2=>(if (i_2=(g (s i).toNat).1.toNat) then [.p (.bool true)] else [.p (.bool (K i_2))]))⟩),(388,⟨true,4,1,(fun i_2=>[.p (.int .i64 ((g (s i).toNat).1)),.p (.int .i64 ((g (s i).toNat).2.1)),.p (.int .i64 ((g (s i).toNat).2.2.1)),.p (.int .i64 ((g (s i).toNat).2.2.2.1))])⟩),(0,⟨true,2,1,(fun i_2=>[.p (.int .i64 (↑N:Int)),.p (.seq true 4 nb (fun i_3=>[.int .i64 ((g i_3).1),.int .i64 ((g i_3).2.1),.int .i64 ((g i_3).2.2.1),.int .i64 ((g i_3).2.2.2.1)]))])⟩)] [0,1,2,3] 1 N (fun i_1=>if (i_1=(g (s i).toNat).1.toNat) then [.p (.int .i64 (X (g (s i).toNat).2.1.toNat - (g (s i).toNat).2.2.1))] else [.p (.int .i64 (X i_1))]) (fun i_1=>[.p (.int .i64 (up X (gb g s i).1.toNat (X (gb g s i).2.1.toNat - (gb g s i).2.2.1) i_1))])),(CV [(3,⟨false,1,N,(fun i_2=>(if (i_2=(g (s i).toNat).1.toNat) then [.p (.int .i64 (Y (g (s i).toNat).2.1.toNat - (g (s i).toNat).2.2.2.1))] else [.p (.int .i64 (Y i_2))]))⟩),(2,⟨false,1,N,(fun i_2=>(if (i_2=(g (s i).toNat).1.toNat) then [.p (.int .i64 (X (g (s i).toNat).2.1.toNat - (g (s i).toNat).2.2.1))] else [.p (.int .i64 (X i_2))]))⟩),(1,⟨false,1,N,(fun i_2=>(if (i_2=(g (s i).toNat).1.toNat) then [.p (.bool true)] else [.p (.bool (K i_2))]))⟩),(388,⟨true,4,1,(fun i_2=>[.p (.int .i64 ((g (s i).toNat).1)),.p (.int .i64 ((g (s i).toNat).2.1)),.p (.int .i64 ((g (s i).toNat).2.2.1)),.p (.int .i64 ((g (s i).toNat).2.2.2.1))])⟩),(0,⟨true,2,1,(fun i_2=>[.p (.int .i64 (↑N:Int)),.p (.seq true 4 nb (fun i_3=>[.int .i64 ((g i_3).1),.int .i64 ((g i_3).2.1),.int .i64 ((g i_3).2.2.1),.int .i64 ((g i_3).2.2.2.1)]))])⟩)] [0,1,2,3] 1 N (fun i_1=>if (i_1=(g (s i).toNat).1.toNat) then [.p (.int .i64 (Y (g (s i).toNat).2.1.toNat - (g (s i).toNat).2.2.2.1))] else [.p (.int .i64 (Y i_1))]) (fun i_1=>[.p (.int .i64 (up Y (gb g s i).1.toNat (Y (gb g s i).2.1.toNat - (gb g s i).2.2.2.1) i_1))]))] [0,1,2,3,4,5,1,6,1,7,8,9,10,11,10,10,12,13,10,14,10,10,15,1,16,17,18,19,20,19,19,21,22,19,23,19,19,24,1,7,8,9,25,1,1,16,17,18,1,26,27,7,8,9,25,1,1,16,17,18,1,28,29,7,8,9,25,30,31,32,33,34,35,36,37,37,38,37,38,37,38,39,40,41,42,43,43,32,33,34,44,45,46,44,45,47,44,45,48]):=by kernel_rfl
theorem bS2c (g:Nat→T_GainBar) (nb N n:Nat) (s:Nat→Int) (K:Nat→Bool) (X Y:Nat→Int) (a m i:Nat) :
    zM 0 [rg 4,.dec true,rg 10,rg 13,.dec false,rg 13,.dec false,rg 3,.head] zf1 (SB2 g nb N n s K X Y a m i) [0,1,2,3] 1 (SB2 g nb N n s K X Y a m (i+1)) =
    some (zf1,zD [((decide ((↑i:Int)<(↑n:Int)))=true),(NT 0 1),(IL 0 (↑i:Int)),(IT (↑i:Int) (↑n:Int)),(IL 0 (s i)),(IT (s i) (↑nb:Int)),((true=true)→ (AN 1)),(IL 0 ((g (s i).toNat).1)),(IT ((g (s i).toNat).1) (↑N:Int)),(NT ((g (s i).toNat).1.toNat) N),(AG (K (g (s i).toNat).1.toNat)),(((K (g (s i).toNat).1.toNat)=true)→(NT 0 1)),(((K (g (s i).toNat).1.toNat)=true)→(IL 0 ((g (s i).toNat).2.1))),(((K (g (s i).toNat).1.toNat)=true)→(IT ((g (s i).toNat).2.1) (↑N:Int))),(((K (g (s i).toNat).1.toNat)=true)→(NT ((g (s i).toNat).2.1.toNat) N)),((bif K (g (s i).toNat).1.toNat then !K (g (s i).toNat).2.1.toNat else false)=false),(IL 0 ((g (s i).toNat).2.1)),(IT ((g (s i).toNat).2.1) (↑N:Int)),(NT ((g (s i).toNat).2.1.toNat) N),(AG (K (g (s i).toNat).2.1.toNat)),(((K (g (s i).toNat).2.1.toNat)=true)→(NT 0 1)),(((K (g (s i).toNat).2.1.toNat)=true)→(IL 0 ((g (s i).toNat).1))),(((K (g (s i).toNat).2.1.toNat)=true)→(IT ((g (s i).toNat).1) (↑N:Int))),(((K (g (s i).toNat).2.1.toNat)=true)→(NT ((g (s i).toNat).1.toNat) N)),((bif K (g (s i).toNat).2.1.toNat then !K (g (s i).toNat).1.toNat else false)=false),(ZLo ((↑i:Int)+1)),(ZHi ((↑i:Int)+1)),(AI ((↑N:Int))),(AN nb),(AP nb (fun i_1=>[.int .i64 ((g i_1).1),.int .i64 ((g i_1).2.1),.int .i64 ((g i_1).2.2.1),.int .i64 ((g i_1).2.2.2.1)])),(AN n),(AP n (fun i_1=>[.int .i64 (s i_1)])),(AN 0),(AN N),(AI ((↑a:Int))),(AI ((↑m:Int))),((((↑i:Int)+1):Int)=(↑(i+1):Int)),(AN 2),(NL 1 1),(AN 1),(NL N N),(AA N (fun i_1=>[.p (.bool (K i_1))])),(AA N (fun i_1=>[.p (.int .i64 (X i_1))])),(AA N (fun i_1=>[.p (.int .i64 (Y i_1))]))] [0,1,2,3,4,5,1,6,1,7,8,9,10,11,10,10,12,13,10,14,10,10,15,1,16,17,18,19,20,19,19,21,22,19,23,19,19,24,25,26,27,28,29,30,31,32,32,33,32,33,32,33,34,35,36,37,38,38,27,28,29,39,40,41,39,40,42,39,40,43]):=by kernel_rfl
theorem bS0e (g:Nat→T_GainBar) (nb N n:Nat) (s:Nat→Int) (K:Nat→Bool) (X Y:Nat→Int) (a:Nat) :
    zM 0 [rg 4,.dec false,rg 1,.head] zf22 (SB0 g nb N n s K X Y a) [0,1,2,3] 1 (SB3 g nb N n s K X Y 0) =
    some (zf20,zD [(NT 0 1),((decide ((↑a:Int)<(↑N:Int)))=false),(AI ((↑N:Int))),(AN nb),(AP nb (fun i=>[.int .i64 ((g i).1),.int .i64 ((g i).2.1),.int .i64 ((g i).2.2.1),.int .i64 ((g i).2.2.2.1)])),(AN n),(AP n (fun i=>[.int .i64 (s i)])),(AN 0),(AN N),((0:Int)=(↑0:Int)),(AN 2),(NL 1 1),(AN 1),(NL N N),(AA N (fun i=>[.p (.bool (K i))])),(AA N (fun i=>[.p (.int .i64 (X i))])),(AA N (fun i=>[.p (.int .i64 (Y i))]))] [0,1,2,3,4,5,6,7,7,8,7,8,7,8,9,10,11,11,2,3,4,12,13,14,12,13,15,12,13,16]):=by kernel_rfl
theorem bS3 (g:Nat→T_GainBar) (nb N n:Nat) (s:Nat→Int) (K:Nat→Bool) (X Y:Nat→Int) (i:Nat) :
    zM 0 [rg 4,.dec true,rg 10,rg 30,.dec false,rg 3,.head] zf20 (SB3 g nb N n s K X Y i) [0,1,2,3] 1 (SB3 g nb N n s K X Y (i+1)) =
    some (zf20,zD [((decide ((↑i:Int)<(↑n:Int)))=true),(NT 0 1),(IL 0 (↑i:Int)),(IT (↑i:Int) (↑n:Int)),(IL 0 (s i)),(IT (s i) (↑nb:Int)),((true=true)→ (AN 1)),(IL 0 ((g (s i).toNat).1)),(IT ((g (s i).toNat).1) (↑N:Int)),(NT ((g (s i).toNat).1.toNat) N),(ZLo (X (g (s i).toNat).1.toNat+(g (s i).toNat).2.2.1)),(ZHi (X (g (s i).toNat).1.toNat+(g (s i).toNat).2.2.1)),(IL 0 ((g (s i).toNat).2.1)),(IT ((g (s i).toNat).2.1) (↑N:Int)),(NT ((g (s i).toNat).2.1.toNat) N),(AG (!X (g (s i).toNat).1.toNat+(g (s i).toNat).2.2.1 != X (g (s i).toNat).2.1.toNat)),(((!X (g (s i).toNat).1.toNat+(g (s i).toNat).2.2.1 != X (g (s i).toNat).2.1.toNat)=true)→(NT 0 1)),(((!X (g (s i).toNat).1.toNat+(g (s i).toNat).2.2.1 != X (g (s i).toNat).2.1.toNat)=true)→(IL 0 ((g (s i).toNat).1))),(((!X (g (s i).toNat).1.toNat+(g (s i).toNat).2.2.1 != X (g (s i).toNat).2.1.toNat)=true)→(IT ((g (s i).toNat).1) (↑N:Int))),(((!X (g (s i).toNat).1.toNat+(g (s i).toNat).2.2.1 != X (g (s i).toNat).2.1.toNat)=true)→(NT ((g (s i).toNat).1.toNat) N)),(((!X (g (s i).toNat).1.toNat+(g (s i).toNat).2.2.1 != X (g (s i).toNat).2.1.toNat)=true)→(ZLo (Y (g (s i).toNat).1.toNat+(g (s i).toNat).2.2.2.1))),(((!X (g (s i).toNat).1.toNat+(g (s i).toNat).2.2.1 != X (g (s i).toNat).2.1.toNat)=true)→(ZHi (Y (g (s i).toNat).1.toNat+(g (s i).toNat).2.2.2.1))),(((!X (g (s i).toNat).1.toNat+(g (s i).toNat).2.2.1 != X (g (s i).toNat).2.1.toNat)=true)→(IL 0 ((g (s i).toNat).2.1))),(((!X (g (s i).toNat).1.toNat+(g (s i).toNat).2.2.1 != X (g (s i).toNat).2.1.toNat)=true)→(IT ((g (s i).toNat).2.1) (↑N:Int))),(((!X (g (s i).toNat).1.toNat+(g (s i).toNat).2.2.1 != X (g (s i).toNat).2.1.toNat)=true)→(NT ((g (s i).toNat).2.1.toNat) N)),(((X (g (s i).toNat).1.toNat+(g (s i).toNat).2.2.1 != X (g (s i).toNat).2.1.toNat)=false)→ ((!X (g (s i).toNat).1.toNat+(g (s i).toNat).2.2.1 != X (g (s i).toNat).2.1.toNat)=true)),((bif X (g (s i).toNat).1.toNat+(g (s i).toNat).2.2.1 != X (g (s i).toNat).2.1.toNat then true else Y (g (s i).toNat).1.toNat+(g (s i).toNat).2.2.2.1 != Y (g (s i).toNat).2.1.toNat)=false),(ZLo ((↑i:Int)+1)),(ZHi ((↑i:Int)+1)),(AI ((↑N:Int))),(AN nb),(AP nb (fun i_1=>[.int .i64 ((g i_1).1),.int .i64 ((g i_1).2.1),.int .i64 ((g i_1).2.2.1),.int .i64 ((g i_1).2.2.2.1)])),(AN n),(AP n (fun i_1=>[.int .i64 (s i_1)])),(AN 0),(AN N),((((↑i:Int)+1):Int)=(↑(i+1):Int)),(AN 2),(NL 1 1),(AN 1),(NL N N),(AA N (fun i_1=>[.p (.bool (K i_1))])),(AA N (fun i_1=>[.p (.int .i64 (X i_1))])),(AA N (fun i_1=>[.p (.int .i64 (Y i_1))]))] [0,1,2,3,4,5,1,6,1,7,8,9,1,10,11,1,12,13,14,15,16,15,15,17,18,15,19,15,16,15,15,20,21,15,16,15,15,22,23,15,24,15,15,25,26,27,28,29,30,31,32,33,34,34,35,34,35,34,35,36,37,38,38,29,30,31,39,40,41,39,40,42,39,40,43]):=by kernel_rfl
theorem bS3t (g:Nat→T_GainBar) (nb N n:Nat) (s:Nat→Int) (K:Nat→Bool) (X Y:Nat→Int) (i:Nat) :
    zP Try.f18 0 [rg 4,.dec true,rg 10,rg 30,.dec true,rg 1] zf20 (SB3 g nb N n s K X Y i) [] 1 [] (.p (.bool false)) =
    some (zD [((decide ((↑i:Int)<(↑n:Int)))=true),(NT 0 1),(IL 0 (↑i:Int)),(IT (↑i:Int) (↑n:Int)),(IL 0 (s i)),(IT (s i) (↑nb:Int)),((true=true)→ (AN 1)),(IL 0 ((g (s i).toNat).1)),(IT ((g (s i).toNat).1) (↑N:Int)),(NT ((g (s i).toNat).1.toNat) N),(ZLo (X (g (s i).toNat).1.toNat+(g (s i).toNat).2.2.1)),(ZHi (X (g (s i).toNat).1.toNat+(g (s i).toNat).2.2.1)),(IL 0 ((g (s i).toNat).2.1)),(IT ((g (s i).toNat).2.1) (↑N:Int)),(NT ((g (s i).toNat).2.1.toNat) N),(AG (!X (g (s i).toNat).1.toNat+(g (s i).toNat).2.2.1 != X (g (s i).toNat).2.1.toNat)),(((!X (g (s i).toNat).1.toNat+(g (s i).toNat).2.2.1 != X (g (s i).toNat).2.1.toNat)=true)→(NT 0 1)),(((!X (g (s i).toNat).1.toNat+(g (s i).toNat).2.2.1 != X (g (s i).toNat).2.1.toNat)=true)→(IL 0 ((g (s i).toNat).1))),(((!X (g (s i).toNat).1.toNat+(g (s i).toNat).2.2.1 != X (g (s i).toNat).2.1.toNat)=true)→(IT ((g (s i).toNat).1) (↑N:Int))),(((!X (g (s i).toNat).1.toNat+(g (s i).toNat).2.2.1 != X (g (s i).toNat).2.1.toNat)=true)→(NT ((g (s i).toNat).1.toNat) N)),(((!X (g (s i).toNat).1.toNat+(g (s i).toNat).2.2.1 != X (g (s i).toNat).2.1.toNat)=true)→(ZLo (Y (g (s i).toNat).1.toNat+(g (s i).toNat).2.2.2.1))),(((!X (g (s i).toNat).1.toNat+(g (s i).toNat).2.2.1 != X (g (s i).toNat).2.1.toNat)=true)→(ZHi (Y (g (s i).toNat).1.toNat+(g (s i).toNat).2.2.2.1))),(((!X (g (s i).toNat).1.toNat+(g (s i).toNat).2.2.1 != X (g (s i).toNat).2.1.toNat)=true)→(IL 0 ((g (s i).toNat).2.1))),(((!X (g (s i).toNat).1.toNat+(g (s i).toNat).2.2.1 != X (g (s i).toNat).2.1.toNat)=true)→(IT ((g (s i).toNat).2.1) (↑N:Int))),(((!X (g (s i).toNat).1.toNat+(g (s i).toNat).2.2.1 != X (g (s i).toNat).2.1.toNat)=true)→(NT ((g (s i).toNat).2.1.toNat) N)),(((X (g (s i).toNat).1.toNat+(g (s i).toNat).2.2.1 != X (g (s i).toNat).2.1.toNat)=false)→ ((!X (g (s i).toNat).1.toNat+(g (s i).toNat).2.2.1 != X (g (s i).toNat).2.1.toNat)=true)),((bif X (g (s i).toNat).1.toNat+(g (s i).toNat).2.2.1 != X (g (s i).toNat).2.1.toNat then true else Y (g (s i).toNat).1.toNat+(g (s i).toNat).2.2.2.1 != Y (g (s i).toNat).2.1.toNat)=true),(false=false)] [0,1,2,3,4,5,1,6,1,7,8,9,1,10,11,1,12,13,14,15,16,15,15,17,18,15,19,15,16,15,15,20,21,15,16,15,15,22,23,15,24,15,15,25,26,27]):=by kernel_rfl
theorem bS3e (g:Nat→T_GainBar) (nb N n:Nat) (s:Nat→Int) (K:Nat→Bool) (X Y:Nat→Int) (i:Nat) :
    zP Try.f18 0 [rg 4,.dec false,rg 1] zf20 (SB3 g nb N n s K X Y i) [] 1 [] (.p (.bool true)) =
    some [((decide ((↑i:Int)<(↑n:Int)))=false),(true=true)]:=by kernel_rfl
theorem bZa (g:Nat→T_GainBar) (nb:Nat) (N:Int) (n:Nat) (s:Nat→Int) :
    zT Try.f17 [rg 2,rg 3,.head] [gnA g nb N,inS n s] [0] (SZ0 g nb N n s 0) =
    some (zf48,zD [(AI N),(AN nb),(AP nb (fun i=>[.int .i64 ((g i).1),.int .i64 ((g i).2.1),.int .i64 ((g i).2.2.1),.int .i64 ((g i).2.2.2.1)])),(AN n),(AP n (fun i=>[.int .i64 (s i)])),(AN 0),(AI ((↑n:Int))),((0:Int)=(↑0:Int)),((([AV.p (PV.int IntKind.i64 N),gnL g nb].length):Nat)=2),(NL 1 1)] [0,1,2,3,4,5,3,4,6,7,8,9,9,0,1,2]):=by kernel_rfl
theorem bZb (g:Nat→T_GainBar) (nb:Nat) (N:Int) (n:Nat) (s:Nat→Int) (k:Nat) :
    zM 0 [rg 1,.dec true,rg 5,rm [(5,oc [] (.p (.bool (inB (s k) 0 ((nb:Int) - 1)))))] 14,.dec false,rg 2,.head] zf48 (SZ0 g nb N n s k) [0] 1 (SZ0 g nb N n s (k+1)) =
    some (zf48,zD [((decide ((↑k:Int)<(↑n:Int)))=true),(IL 0 (↑k:Int)),(IT (↑k:Int) (↑n:Int)),(NT 0 1),(ZLo ((↑nb:Int) - 1)),(ZHi ((↑nb:Int) - 1)),zE 60 [.p (.int .i64 (s k)),.p (.int .i64 0),.p (.int .i64 ((↑nb:Int) - 1))] [] (.p (.bool (inB (s k) 0 ((↑nb:Int) - 1)))),(AG (!!inB (s k) 0 ((↑nb:Int) - 1))),(AG (!!inB (s k) 0 ((↑nb:Int) - 1)&&decide ((↑k:Int)>0))),(((!!inB (s k) 0 ((↑nb:Int) - 1)&&decide ((↑k:Int)>0))=true)→(ZLo ((↑k:Int) - 1))),(((!!inB (s k) 0 ((↑nb:Int) - 1)&&decide ((↑k:Int)>0))=true)→(ZHi ((↑k:Int) - 1))),(((!!inB (s k) 0 ((↑nb:Int) - 1)&&decide ((↑k:Int)>0))=true)→(IL 0 ((↑k:Int) - 1))),(((!!inB (s k) 0 ((↑nb:Int) - 1)&&decide ((↑k:Int)>0))=true)→(IT ((↑k:Int) - 1) (↑n:Int))),(((!!inB (s k) 0 ((↑nb:Int) - 1))=true)→(((decide ((↑k:Int)>0))=true)→ ((!!inB (s k) 0 ((↑nb:Int) - 1)&&decide ((↑k:Int)>0))=true))),(((!inB (s k) 0 ((↑nb:Int) - 1))=false)→ ((!!inB (s k) 0 ((↑nb:Int) - 1))=true)),((bif !inB (s k) 0 ((↑nb:Int) - 1) then true else bif decide ((↑k:Int)>0) then decide (s ((↑k:Int) - 1).toNat≥s (↑k:Int).toNat) else false)=false),(ZLo ((↑k:Int)+1)),(ZHi ((↑k:Int)+1)),(AI N),(AN nb),(AP nb (fun i=>[.int .i64 ((g i).1),.int .i64 ((g i).2.1),.int .i64 ((g i).2.2.1),.int .i64 ((g i).2.2.2.1)])),(AN n),(AP n (fun i=>[.int .i64 (s i)])),(AN 0),(AI ((↑n:Int))),((((↑k:Int)+1):Int)=(↑(k+1):Int)),(AN 2),(NL 1 1)] [0,1,2,3,4,5,6,7,7,8,9,10,8,8,11,12,8,8,8,7,13,14,15,16,17,18,19,20,21,22,23,21,22,24,25,26,27,27,18,19,20]):=by kernel_rfl
theorem bZc (g:Nat→T_GainBar) (nb:Nat) (N:Int) (n:Nat) (s:Nat→Int) (k:Nat) :
    zP Try.f17 0 [rg 1,.dec true,rg 5,rm [(5,oc [] (.p (.bool (inB (s k) 0 ((nb:Int) - 1)))))] 14,.dec true,rg 1] zf48 (SZ0 g nb N n s k) [] 1 [] (.p (.bool false)) =
    some (zD [((decide ((↑k:Int)<(↑n:Int)))=true),(IL 0 (↑k:Int)),(IT (↑k:Int) (↑n:Int)),(NT 0 1),(ZLo ((↑nb:Int) - 1)),(ZHi ((↑nb:Int) - 1)),zE 60 [.p (.int .i64 (s k)),.p (.int .i64 0),.p (.int .i64 ((↑nb:Int) - 1))] [] (.p (.bool (inB (s k) 0 ((↑nb:Int) - 1)))),(AG (!!inB (s k) 0 ((↑nb:Int) - 1))),(AG (!!inB (s k) 0 ((↑nb:Int) - 1)&&decide ((↑k:Int)>0))),(((!!inB (s k) 0 ((↑nb:Int) - 1)&&decide ((↑k:Int)>0))=true)→(ZLo ((↑k:Int) - 1))),(((!!inB (s k) 0 ((↑nb:Int) - 1)&&decide ((↑k:Int)>0))=true)→(ZHi ((↑k:Int) - 1))),(((!!inB (s k) 0 ((↑nb:Int) - 1)&&decide ((↑k:Int)>0))=true)→(IL 0 ((↑k:Int) - 1))),(((!!inB (s k) 0 ((↑nb:Int) - 1)&&decide ((↑k:Int)>0))=true)→(IT ((↑k:Int) - 1) (↑n:Int))),(((!!inB (s k) 0 ((↑nb:Int) - 1))=true)→(((decide ((↑k:Int)>0))=true)→ ((!!inB (s k) 0 ((↑nb:Int) - 1)&&decide ((↑k:Int)>0))=true))),(((!inB (s k) 0 ((↑nb:Int) - 1))=false)→ ((!!inB (s k) 0 ((↑nb:Int) - 1))=true)),((bif !inB (s k) 0 ((↑nb:Int) - 1) then true else bif decide ((↑k:Int)>0) then decide (s ((↑k:Int) - 1).toNat≥s (↑k:Int).toNat) else false)=true),(false=false)] [0,1,2,3,4,5,6,7,7,8,9,10,8,8,11,12,8,8,8,7,13,14,15,16]):=by kernel_rfl
theorem bZd (g:Nat→T_GainBar) (nb:Nat) (N:Int) (n:Nat) (s:Nat→Int) (k:Nat) (b b2:Bool) :
    zP Try.f17 0 [rg 1,.dec false,rm [(1,oc [] (.p (.bool b))),(3,oc [] (.p (.bool b2)))] 2] zf48 (SZ0 g nb N n s k) [] 1 [] (.p (.bool (bif b then b2 else false))) =
    some [((decide ((↑k:Int)<(↑n:Int)))=false),(NT 0 1),zE 26 [(zf33 N nb g)] [] (.p (.bool b)),((b=true)→(NT 0 1)),(AG b),(AG b),((b=true)→ zE 67 [(zf33 N nb g),.p (.seq true 1 n (fun i=>[.int .i64 (s i)]))] [] (.p (.bool b2))),(AG b),((bif b then b2 else false)=(bif b then b2 else false))]:=by kernel_rfl
theorem bYa (g:Nat→T_GainBar) (nb N n:Nat) (s:Nat→Int) :
    zT Try.f67 [rg 2,rg 4,rg 4,rg 3,.head] [gnA g nb N,inS n s] [0,128,256] (SYw0 g nb N n s (fun _=>0) (fun _=>0) (fun _=>0) 0) =
    some (zf26,zD [(NT 0 1),(IL 0 (↑N:Int)),(IL (↑N:Int) (↑N:Int)),(IL ((↑N:Int)*(↑8:Int)) 281474976710656),(ZHi (↑N:Int)),(IL ((↑N:Int)*(↑16:Int)) 281474976710656),(AI ((↑N:Int))),(AN nb),(AP nb (fun i=>[.int .i64 ((g i).1),.int .i64 ((g i).2.1),.int .i64 ((g i).2.2.1),.int .i64 ((g i).2.2.2.1)])),(AN n),(AP n (fun i=>[.int .i64 (s i)])),(AN 0),(AN N),((0:Int)=(↑0:Int)),((([AV.p (PV.int IntKind.i64 (↑N:Int)),gnL g nb].length):Nat)=2),(NL 1 1),(AN 1),(NL N N),(AA N (fun i=>[.p (.int .i64 0)])),(AN 2),(AA N (fun i=>[.p (.int .i64 0),.p (.int .i64 0)]))] [0,1,2,3,4,0,1,2,5,4,6,7,8,9,10,11,11,12,11,12,6,13,14,15,15,6,7,8,16,17,18,19,17,20]):=by kernel_rfl
theorem bY0 (g:Nat→T_GainBar) (nb N n:Nat) (s:Nat→Int) (R X Y:Nat→Int) (k:Nat) :
    zM 0 [rg 1,.dec true,rg 2,rg 5,rg 2,.head] zf26 (SYw0 g nb N n s R X Y k) [0,1,2] 1 (SYw0 g nb N n s (up R k (k:Int)) X Y (k+1)) =
    some (zf26,zD [((decide ((↑k:Int)<(↑N:Int)))=true),(IL 0 (↑k:Int)),(IT (↑k:Int) (↑N:Int)),(NT k N),((false=true)→ ((N:Nat)=1)),(ZLo ((↑k:Int)+1)),(ZHi ((↑k:Int)+1)),(AI ((↑N:Int))),(AN nb),(AP nb (fun i=>[.int .i64 ((g i).1),.int .i64 ((g i).2.1),.int .i64 ((g i).2.2.1),.int .i64 ((g i).2.2.2.1)])),(AN n),(AP n (fun i=>[.int .i64 (s i)])),(AN 0),(AN N),((((↑k:Int)+1):Int)=(↑(k+1):Int)),(AN 2),(NL 1 1),(AN 1),(NL N N),(CV [(1,⟨false,1,N,(fun i_1=>(if (i_1=k) then [.p (.int .i64 (↑k:Int))] else [.p (.int .i64 (R i_1))]))⟩),(0,⟨true,2,1,(fun i_1=>[.p (.int .i64 (↑N:Int)),.p (.seq true 4 nb (fun i_2=>[.int .i64 ((g i_2).1),.int .i64 ((g i_2).2.1),.int .i64 ((g i_2).2.2.1),.int .i64 ((g i_2).2.2.2.1)]))])⟩),(2,⟨false,2,N,(fun i_1=>[.p (.int .i64 (X i_1)),.p (.int .i64 (Y i_1))])⟩)] [0,1,2] 1 N (fun i=>if (i=k) then [.p (.int .i64 (↑k:Int))] else [.p (.int .i64 (R i))]) (fun i=>[.p (.int .i64 (up R k (↑k:Int) i))])),(AA N (fun i=>[.p (.int .i64 (X i)),.p (.int .i64 (Y i))]))] [0,1,2,3,4,5,6,7,8,9,10,11,12,12,13,12,13,7,14,15,16,16,7,8,9,17,18,19,15,18,20]):=by kernel_rfl
theorem bY0e (g:Nat→T_GainBar) (nb N n:Nat) (s:Nat→Int) (R X Y:Nat→Int) (k:Nat) :
    zM 0 [rg 1,.dec false,rg 3,.head] zf26 (SYw0 g nb N n s R X Y k) [0,1,2] 1 (SYw1 g nb N n s R X Y 0) =
    some (zf23,zD [((decide ((↑k:Int)<(↑N:Int)))=false),(AI ((↑N:Int))),(AN nb),(AP nb (fun i=>[.int .i64 ((g i).1),.int .i64 ((g i).2.1),.int .i64 ((g i).2.2.1),.int .i64 ((g i).2.2.2.1)])),(AN n),(AP n (fun i=>[.int .i64 (s i)])),(AN 0),(AN N),(AI ((↑n:Int))),((0:Int)=(↑0:Int)),(AN 2),(NL 1 1),(AN 1),(NL N N),(AA N (fun i=>[.p (.int .i64 (R i))])),(AA N (fun i=>[.p (.int .i64 (X i)),.p (.int .i64 (Y i))]))] [0,1,2,3,4,5,6,6,7,6,7,4,5,8,9,10,11,11,1,2,3,12,13,14,10,13,15]):=by kernel_rfl
theorem bY1e (g:Nat→T_GainBar) (nb N n:Nat) (s:Nat→Int) (R X Y:Nat→Int) (k:Nat) :
    zP Try.f67 0 [rg 1,.dec false,rg 1] zf23 (SYw1 g nb N n s R X Y k) [] 1 [] (.p (.bool true)) =
    some [((decide ((↑k:Int)<(↑n:Int)))=false),(true=true)]:=by kernel_rfl
theorem bY1t (g:Nat→T_GainBar) (nb N n:Nat) (s:Nat→Int) (R X Y:Nat→Int) (k:Nat) :
    zP Try.f67 0 [rg 1,.dec true,rg 3,rg 7,rg 34,rg 12,rg 3,.dec true,rg 6,.dec true,rg 1] zf23 (SYw1 g nb N n s R X Y k) [] 1 [] (.p (.bool false)) =
    some (zD [((decide ((↑k:Int)<(↑n:Int)))=true),(IL 0 (↑k:Int)),(IT (↑k:Int) (↑n:Int)),(NT 0 1),(IL 0 (s k)),(IT (s k) (↑nb:Int)),((true=true)→ (AN 1)),(IL 0 ((g (s k).toNat).1)),(IT ((g (s k).toNat).1) (↑N:Int)),(IL 0 0),(IT 0 (↑2:Int)),(NT ((g (s k).toNat).1.toNat) N),(ZLo (X (g (s k).toNat).1.toNat+(g (s k).toNat).2.2.1)),(ZHi (X (g (s k).toNat).1.toNat+(g (s k).toNat).2.2.1)),(IL 0 ((g (s k).toNat).2.1)),(IT ((g (s k).toNat).2.1) (↑N:Int)),(NT ((g (s k).toNat).2.1.toNat) N),(ZLo (X (g (s k).toNat).1.toNat+(g (s k).toNat).2.2.1 - X (g (s k).toNat).2.1.toNat)),(ZHi (X (g (s k).toNat).1.toNat+(g (s k).toNat).2.2.1 - X (g (s k).toNat).2.1.toNat)),(IL 0 1),(IT 1 (↑2:Int)),(ZLo (Y (g (s k).toNat).1.toNat+(g (s k).toNat).2.2.2.1)),(ZHi (Y (g (s k).toNat).1.toNat+(g (s k).toNat).2.2.2.1)),(ZLo (Y (g (s k).toNat).1.toNat+(g (s k).toNat).2.2.2.1 - Y (g (s k).toNat).2.1.toNat)),(ZHi (Y (g (s k).toNat).1.toNat+(g (s k).toNat).2.2.2.1 - Y (g (s k).toNat).2.1.toNat)),((R (g (s k).toNat).2.1.toNat==R (g (s k).toNat).1.toNat)=true),(AG (!X (g (s k).toNat).1.toNat+(g (s k).toNat).2.2.1 - X (g (s k).toNat).2.1.toNat != 0)),(((X (g (s k).toNat).1.toNat+(g (s k).toNat).2.2.1 - X (g (s k).toNat).2.1.toNat != 0)=false)→ ((!X (g (s k).toNat).1.toNat+(g (s k).toNat).2.2.1 - X (g (s k).toNat).2.1.toNat != 0)=true)),((bif X (g (s k).toNat).1.toNat+(g (s k).toNat).2.2.1 - X (g (s k).toNat).2.1.toNat != 0 then true else Y (g (s k).toNat).1.toNat+(g (s k).toNat).2.2.2.1 - Y (g (s k).toNat).2.1.toNat != 0)=true),(false=false)] [0,1,2,3,4,5,3,6,3,7,8,9,10,11,3,12,13,3,14,15,9,10,16,17,18,3,7,8,19,20,11,3,21,22,3,14,15,19,20,16,23,24,3,14,15,16,3,7,8,11,25,26,27,28,29]):=by kernel_rfl
theorem bY1c (g:Nat→T_GainBar) (nb N n:Nat) (s:Nat→Int) (R X Y:Nat→Int) (k:Nat) :
    zM 0 [rg 1,.dec true,rg 3,rg 7,rg 34,rg 12,rg 3,.dec true,rg 6,.dec false,rg 2,.head] zf23 (SYw1 g nb N n s R X Y k) [0,1,2] 1 (SYw1 g nb N n s R X Y (k+1)) =
    some (zf23,zD [((decide ((↑k:Int)<(↑n:Int)))=true),(IL 0 (↑k:Int)),(IT (↑k:Int) (↑n:Int)),(NT 0 1),(IL 0 (s k)),(IT (s k) (↑nb:Int)),((true=true)→ (AN 1)),(IL 0 ((g (s k).toNat).1)),(IT ((g (s k).toNat).1) (↑N:Int)),(IL 0 0),(IT 0 (↑2:Int)),(NT ((g (s k).toNat).1.toNat) N),(ZLo (X (g (s k).toNat).1.toNat+(g (s k).toNat).2.2.1)),(ZHi (X (g (s k).toNat).1.toNat+(g (s k).toNat).2.2.1)),(IL 0 ((g (s k).toNat).2.1)),(IT ((g (s k).toNat).2.1) (↑N:Int)),(NT ((g (s k).toNat).2.1.toNat) N),(ZLo (X (g (s k).toNat).1.toNat+(g (s k).toNat).2.2.1 - X (g (s k).toNat).2.1.toNat)),(ZHi (X (g (s k).toNat).1.toNat+(g (s k).toNat).2.2.1 - X (g (s k).toNat).2.1.toNat)),(IL 0 1),(IT 1 (↑2:Int)),(ZLo (Y (g (s k).toNat).1.toNat+(g (s k).toNat).2.2.2.1)),(ZHi (Y (g (s k).toNat).1.toNat+(g (s k).toNat).2.2.2.1)),(ZLo (Y (g (s k).toNat).1.toNat+(g (s k).toNat).2.2.2.1 - Y (g (s k).toNat).2.1.toNat)),(ZHi (Y (g (s k).toNat).1.toNat+(g (s k).toNat).2.2.2.1 - Y (g (s k).toNat).2.1.toNat)),((R (g (s k).toNat).2.1.toNat==R (g (s k).toNat).1.toNat)=true),(AG (!X (g (s k).toNat).1.toNat+(g (s k).toNat).2.2.1 - X (g (s k).toNat).2.1.toNat != 0)),(((X (g (s k).toNat).1.toNat+(g (s k).toNat).2.2.1 - X (g (s k).toNat).2.1.toNat != 0)=false)→ ((!X (g (s k).toNat).1.toNat+(g (s k).toNat).2.2.1 - X (g (s k).toNat).2.1.toNat != 0)=true)),((bif X (g (s k).toNat).1.toNat+(g (s k).toNat).2.2.1 - X (g (s k).toNat).2.1.toNat != 0 then true else Y (g (s k).toNat).1.toNat+(g (s k).toNat).2.2.2.1 - Y (g (s k).toNat).2.1.toNat != 0)=false),(ZLo ((↑k:Int)+1)),(ZHi ((↑k:Int)+1)),(AI ((↑N:Int))),(AN nb),(AP nb (fun i=>[.int .i64 ((g i).1),.int .i64 ((g i).2.1),.int .i64 ((g i).2.2.1),.int .i64 ((g i).2.2.2.1)])),(AN n),(AP n (fun i=>[.int .i64 (s i)])),(AN 0),(AN N),(AI ((↑n:Int))),((((↑k:Int)+1):Int)=(↑(k+1):Int)),(AN 2),(NL 1 1),(AN 1),(NL N N),(AA N (fun i=>[.p (.int .i64 (R i))])),(AA N (fun i=>[.p (.int .i64 (X i)),.p (.int .i64 (Y i))]))] [0,1,2,3,4,5,3,6,3,7,8,9,10,11,3,12,13,3,14,15,9,10,16,17,18,3,7,8,19,20,11,3,21,22,3,14,15,19,20,16,23,24,3,14,15,16,3,7,8,11,25,26,27,28,29,30,31,32,33,34,35,36,36,37,36,37,34,35,38,39,40,41,41,31,32,33,42,43,44,40,43,45]):=by kernel_rfl
theorem bY1m (g:Nat→T_GainBar) (nb N n:Nat) (s:Nat→Int) (R X Y:Nat→Int) (k:Nat) :
    zM 0 [rg 1,.dec true,rg 3,rg 7,rg 34,rg 12,rg 3,.dec false,rg 3,.head] zf23 (SYw1 g nb N n s R X Y k) [0,1,2] 1 (SY2 g nb N n s R X Y k (X (gb g s k).1.toNat+(gb g s k).2.2.1 - X (gb g s k).2.1.toNat) (Y (gb g s k).1.toNat+(gb g s k).2.2.2.1 - Y (gb g s k).2.1.toNat) (R (gb g s k).2.1.toNat) (R (gb g s k).1.toNat) 0) =
    some (zf8,zD [((decide ((↑k:Int)<(↑n:Int)))=true),(IL 0 (↑k:Int)),(IT (↑k:Int) (↑n:Int)),(NT 0 1),(IL 0 (s k)),(IT (s k) (↑nb:Int)),((true=true)→ (AN 1)),(IL 0 ((g (s k).toNat).1)),(IT ((g (s k).toNat).1) (↑N:Int)),(IL 0 0),(IT 0 (↑2:Int)),(NT ((g (s k).toNat).1.toNat) N),(ZLo (X (g (s k).toNat).1.toNat+(g (s k).toNat).2.2.1)),(ZHi (X (g (s k).toNat).1.toNat+(g (s k).toNat).2.2.1)),(IL 0 ((g (s k).toNat).2.1)),(IT ((g (s k).toNat).2.1) (↑N:Int)),(NT ((g (s k).toNat).2.1.toNat) N),(ZLo (X (g (s k).toNat).1.toNat+(g (s k).toNat).2.2.1 - X (g (s k).toNat).2.1.toNat)),(ZHi (X (g (s k).toNat).1.toNat+(g (s k).toNat).2.2.1 - X (g (s k).toNat).2.1.toNat)),(IL 0 1),(IT 1 (↑2:Int)),(ZLo (Y (g (s k).toNat).1.toNat+(g (s k).toNat).2.2.2.1)),(ZHi (Y (g (s k).toNat).1.toNat+(g (s k).toNat).2.2.2.1)),(ZLo (Y (g (s k).toNat).1.toNat+(g (s k).toNat).2.2.2.1 - Y (g (s k).toNat).2.1.toNat)),(ZHi (Y (g (s k).toNat).1.toNat+(g (s k).toNat).2.2.2.1 - Y (g (s k).toNat).2.1.toNat)),((R (g (s k).toNat).2.1.toNat==R (g (s k).toNat).1.toNat)=false),(AI ((↑N:Int))),(AN nb),(AP nb (fun i=>[.int .i64 ((g i).1),.int .i64 ((g i).2.1),.int .i64 ((g i).2.2.1),.int .i64 ((g i).2.2.2.1)])),(AN n),(AP n (fun i=>[.int .i64 (s i)])),(AN 0),(AN N),(((X (g (s k).toNat).1.toNat+(g (s k).toNat).2.2.1 - X (g (s k).toNat).2.1.toNat):Int)=(X (gb g s k).1.toNat+(gb g s k).2.2.1 - X (gb g s k).2.1.toNat)),(((Y (g (s k).toNat).1.toNat+(g (s k).toNat).2.2.2.1 - Y (g (s k).toNat).2.1.toNat):Int)=(Y (gb g s k).1.toNat+(gb g s k).2.2.2.1 - Y (gb g s k).2.1.toNat)),(((R (g (s k).toNat).2.1.toNat):Int)=(R (gb g s k).2.1.toNat)),(((R (g (s k).toNat).1.toNat):Int)=(R (gb g s k).1.toNat)),(AI ((↑n:Int))),(AI ((↑k:Int))),((0:Int)=(↑0:Int)),(AN 2),(NL 1 1),(AN 1),(NL N N),(AA N (fun i=>[.p (.int .i64 (R i))])),(AA N (fun i=>[.p (.int .i64 (X i)),.p (.int .i64 (Y i))]))] [0,1,2,3,4,5,3,6,3,7,8,9,10,11,3,12,13,3,14,15,9,10,16,17,18,3,7,8,19,20,11,3,21,22,3,14,15,19,20,16,23,24,3,14,15,16,3,7,8,11,25,26,27,28,29,30,31,31,32,31,32,33,34,35,36,29,30,37,38,26,39,40,41,41,26,27,28,42,43,44,40,43,45]):=by kernel_rfl
theorem bY2e (g:Nat→T_GainBar) (nb N n:Nat) (s:Nat→Int) (R X Y:Nat→Int) (k:Nat) (dx dy fr to:Int) (v:Nat) :
    zM 0 [rg 1,.dec false,rg 2,.head] zf8 (SY2 g nb N n s R X Y k dx dy fr to v) [0,1,2] 1 (SYw1 g nb N n s R X Y (k+1)) =
    some (zf23,zD [((decide ((↑v:Int)<(↑N:Int)))=false),(ZLo ((↑k:Int)+1)),(ZHi ((↑k:Int)+1)),(AI ((↑N:Int))),(AN nb),(AP nb (fun i=>[.int .i64 ((g i).1),.int .i64 ((g i).2.1),.int .i64 ((g i).2.2.1),.int .i64 ((g i).2.2.2.1)])),(AN n),(AP n (fun i=>[.int .i64 (s i)])),(AN 0),(AN N),(AI ((↑n:Int))),((((↑k:Int)+1):Int)=(↑(k+1):Int)),(AN 2),(NL 1 1),(AN 1),(NL N N),(AA N (fun i=>[.p (.int .i64 (R i))])),(AA N (fun i=>[.p (.int .i64 (X i)),.p (.int .i64 (Y i))]))] [0,1,2,3,4,5,6,7,8,8,9,8,9,6,7,10,11,12,13,13,3,4,5,14,15,16,12,15,17]):=by kernel_rfl
theorem bY2n (g:Nat→T_GainBar) (nb N n:Nat) (s:Nat→Int) (R X Y:Nat→Int) (k:Nat) (dx dy fr to:Int) (v:Nat) :
    zM 0 [rg 1,.dec true,rg 2,rg 6,.dec false,rg 2,.head] zf8 (SY2 g nb N n s R X Y k dx dy fr to v) [0,1,2] 1 (SY2 g nb N n s R X Y k dx dy fr to (v+1)) =
    some (zf8,zD [((decide ((↑v:Int)<(↑N:Int)))=true),(IL 0 (↑v:Int)),(IT (↑v:Int) (↑N:Int)),(NT v N),((R v==fr)=false),(ZLo ((↑v:Int)+1)),(ZHi ((↑v:Int)+1)),(AI ((↑N:Int))),(AN nb),(AP nb (fun i=>[.int .i64 ((g i).1),.int .i64 ((g i).2.1),.int .i64 ((g i).2.2.1),.int .i64 ((g i).2.2.2.1)])),(AN n),(AP n (fun i=>[.int .i64 (s i)])),(AN 0),(AN N),(AI dx),(AI dy),(AI fr),(AI to),(AI ((↑n:Int))),(AI ((↑k:Int))),((((↑v:Int)+1):Int)=(↑(v+1):Int)),(AN 2),(NL 1 1),(AN 1),(NL N N),(AA N (fun i=>[.p (.int .i64 (R i))])),(AA N (fun i=>[.p (.int .i64 (X i)),.p (.int .i64 (Y i))]))] [0,1,2,3,4,5,6,7,8,9,10,11,12,12,13,12,13,14,15,16,17,10,11,18,19,7,20,21,22,22,7,8,9,23,24,25,21,24,26]):=by kernel_rfl
theorem bY2t (g:Nat→T_GainBar) (nb N n:Nat) (s:Nat→Int) (R X Y:Nat→Int) (k:Nat) (dx dy fr to:Int) (v:Nat) :
    zM 0 [rg 1,.dec true,rg 2,rg 6,.dec true,rg 5,rg 12,.head] zf8 (SY2 g nb N n s R X Y k dx dy fr to v) [0,1,2] 1 (SY3 g nb N n s (up R v to) (up X v (X v+dx)) Y k dx dy fr to v) =
    some (zf3,zD [((decide ((↑v:Int)<(↑N:Int)))=true),(IL 0 (↑v:Int)),(IT (↑v:Int) (↑N:Int)),(NT v N),((R v==fr)=true),((false=true)→ ((N:Nat)=1)),(IL 0 0),(IT 0 (↑2:Int)),(ZLo (X v+dx)),(ZHi (X v+dx)),(AI ((↑N:Int))),(AN nb),(AP nb (fun i=>[.int .i64 ((g i).1),.int .i64 ((g i).2.1),.int .i64 ((g i).2.2.1),.int .i64 ((g i).2.2.2.1)])),(AN n),(AP n (fun i=>[.int .i64 (s i)])),(AN 0),(AN N),(AI dx),(AI dy),(AI fr),(AI to),(AI ((↑v:Int))),(AI ((↑n:Int))),(AI ((↑k:Int))),(AN 2),(NL 1 1),(AN 1),(NL N N),(CV [(2,⟨false,2,N,(fun i_1=>(if (i_1=v) then [.p (.int .i64 (X v+dx)),.p (.int .i64 (Y v))] else [.p (.int .i64 (X i_1)),.p (.int .i64 (Y i_1))]))⟩),(1,⟨false,1,N,(fun i_1=>(if (i_1=v) then [.p (.int .i64 to)] else [.p (.int .i64 (R i_1))]))⟩),(0,⟨true,2,1,(fun i_1=>[.p (.int .i64 (↑N:Int)),.p (.seq true 4 nb (fun i_2=>[.int .i64 ((g i_2).1),.int .i64 ((g i_2).2.1),.int .i64 ((g i_2).2.2.1),.int .i64 ((g i_2).2.2.2.1)]))])⟩)] [0,1,2] 1 N (fun i=>if (i=v) then [.p (.int .i64 to)] else [.p (.int .i64 (R i))]) (fun i=>[.p (.int .i64 (up R v to i))])),(CV [(2,⟨false,2,N,(fun i_1=>(if (i_1=v) then [.p (.int .i64 (X v+dx)),.p (.int .i64 (Y v))] else [.p (.int .i64 (X i_1)),.p (.int .i64 (Y i_1))]))⟩),(1,⟨false,1,N,(fun i_1=>(if (i_1=v) then [.p (.int .i64 to)] else [.p (.int .i64 (R i_1))]))⟩),(0,⟨true,2,1,(fun i_1=>[.p (.int .i64 (↑N:Int)),.p (.seq true 4 nb (fun i_2=>[.int .i64 ((g i_2).1),.int .i64 ((g i_2).2.1),.int .i64 ((g i_2).2.2.1),.int .i64 ((g i_2).2.2.2.1)]))])⟩)] [0,1,2] 1 N (fun i=>if (i=v) then [.p (.int .i64 (X v+dx)),.p (.int .i64 (Y v))] else [.p (.int .i64 (X i)),.p (.int .i64 (Y i))]) (fun i=>[.p (.int .i64 (up X v (X v+dx) i)),.p (.int .i64 (Y i))]))] [0,1,2,3,4,1,2,3,5,1,2,6,7,3,8,9,1,2,6,7,3,5,10,11,12,13,14,15,15,16,15,16,17,18,19,20,21,13,14,22,23,10,21,24,25,25,10,11,12,26,27,28,24,27,29]):=by kernel_rfl
theorem bY2u (g:Nat→T_GainBar) (nb N n:Nat) (s:Nat→Int) (R X Y:Nat→Int) (k:Nat) (dx dy fr to:Int) (v:Nat) :
    zM 0 [rg 12,rg 2,.head] zf3 (SY3 g nb N n s R X Y k dx dy fr to v) [0,1,2] 1 (SY2 g nb N n s R X (up Y v (Y v+dy)) k dx dy fr to (v+1)) =
    some (zf8,zD [(IL 0 (↑v:Int)),(IT (↑v:Int) (↑N:Int)),(IL 0 1),(IT 1 (↑2:Int)),(NT v N),(ZLo (Y v+dy)),(ZHi (Y v+dy)),((false=true)→ ((N:Nat)=1)),(ZLo ((↑v:Int)+1)),(ZHi ((↑v:Int)+1)),(AI ((↑N:Int))),(AN nb),(AP nb (fun i=>[.int .i64 ((g i).1),.int .i64 ((g i).2.1),.int .i64 ((g i).2.2.1),.int .i64 ((g i).2.2.2.1)])),(AN n),(AP n (fun i=>[.int .i64 (s i)])),(AN 0),(AN N),(AI dx),(AI dy),(AI fr),(AI to),(AI ((↑n:Int))),(AI ((↑k:Int))),((((↑v:Int)+1):Int)=(↑(v+1):Int)),(AN 2),(NL 1 1),(AN 1),(NL N N),(AA N (fun i=>[.p (.int .i64 (R i))])),(CV [(2,⟨false,2,N,(fun i_1=>(if (i_1=v) then [.p (.int .i64 (X v)),.p (.int .i64 (Y v+dy))] else [.p (.int .i64 (X i_1)),.p (.int .i64 (Y i_1))]))⟩),(0,⟨true,2,1,(fun i_1=>[.p (.int .i64 (↑N:Int)),.p (.seq true 4 nb (fun i_2=>[.int .i64 ((g i_2).1),.int .i64 ((g i_2).2.1),.int .i64 ((g i_2).2.2.1),.int .i64 ((g i_2).2.2.2.1)]))])⟩),(1,⟨false,1,N,(fun i_1=>[.p (.int .i64 (R i_1))])⟩)] [0,1,2] 1 N (fun i=>if (i=v) then [.p (.int .i64 (X v)),.p (.int .i64 (Y v+dy))] else [.p (.int .i64 (X i)),.p (.int .i64 (Y i))]) (fun i=>[.p (.int .i64 (X i)),.p (.int .i64 (up Y v (Y v+dy) i))]))] [0,1,2,3,4,5,6,0,1,2,3,4,7,8,9,10,11,12,13,14,15,15,16,15,16,17,18,19,20,13,14,21,22,10,23,24,25,25,10,11,12,26,27,28,24,27,29]):=by kernel_rfl
namespace BL
structure Es where
  n:Nat
  N:Nat
  a:Nat→Nat
  b:Nat→Nat
  x:Nat→Int
  y:Nat→Int
structure Es.Ok (e:Es):Prop where
  ha:∀ i,i<e.n→e.a i<e.N
  hb:∀ i,i<e.n→e.b i<e.N
def Es.Pot (e:Es) (p q:Nat→Int):Prop:=∀ i,i<e.n→p (e.a i)+e.x i=p (e.b i)∧q (e.a i)+e.y i=q (e.b i)
def Es.Bal (e:Es):Prop:=∃ p q,e.Pot p q
def Es.Closed (e:Es) (K:Nat→Bool):Prop:=∀ i,i<e.n→K (e.a i)=K (e.b i)
def Es.Good (e:Es) (K:Nat→Bool) (X Y:Nat→Int):Prop :=
  ∀ p q,e.Pot p q→∀ i,i<e.n→K (e.a i)=true→K (e.b i)=true→p (e.a i) - X (e.a i)=p (e.b i) - X (e.b i)∧q (e.a i) - Y (e.a i)=q (e.b i) - Y (e.b i)
structure Es.Ph (e:Es) (K0:Nat→Bool) (r:Nat) (K:Nat→Bool) (X Y:Nat→Int):Prop where
  c0:e.Closed K0
  g0:e.Good K0 X Y
  le:∀ v,K0 v=true→K v=true
  kr:K r=true
  ph:∀ p q,e.Pot p q→∀ v,K v=true→K0 v=false→p v - X v=p r - X r∧q v - Y v=q r - Y r
theorem up_same {α:Type} (F:Nat→α) (k:Nat) (x:α):up F k x k=x:=by simp [up]
theorem up_ne {α:Type} (F:Nat→α) (k v:Nat) (x:α) (h:v≠k):up F k x v=F v:=by simp [up,h]
theorem Es.Ph.add {e:Es} {K0:Nat→Bool} {r:Nat} {K:Nat→Bool} {X Y:Nat→Int} (h:e.Ph K0 r K X Y) {u w:Nat} {dx dy:Int}
    (hu:K u=true) (hw:K w=false) (hK0:K0 u=K0 w) (hp:∀ p q,e.Pot p q→p u+dx=p w∧q u+dy=q w) :
    e.Ph K0 r (up K w true) (up X w (X u+dx)) (up Y w (Y u+dy)):=by
  have hw0:K0 w=false:=by
    cases h':K0 w with
    | false=>rfl
    | true=>rw [h.le w h'] at hw;cases hw
  have hrw:r≠w:=fun h'=>by rw [← h',h.kr] at hw;cases hw
  have huw:u≠w:=fun h'=>by rw [h',hw] at hu;cases hu
  refine ⟨h.c0,?_,?_,?_,?_⟩
  · intro p q hpq i hi h1 h2
    have n1:e.a i≠w:=fun h'=>by rw [h',hw0] at h1;cases h1
    have n2:e.b i≠w:=fun h'=>by rw [h',hw0] at h2;cases h2
    rw [up_ne _ _ _ _ n1,up_ne _ _ _ _ n2,up_ne _ _ _ _ n1,up_ne _ _ _ _ n2]
    exact h.g0 p q hpq i hi h1 h2
  · intro v hv
    by_cases hvw:v=w
    · rw [hvw];exact up_same _ _ _
    · rw [up_ne _ _ _ _ hvw];exact h.le v hv
  · rw [up_ne _ _ _ _ hrw];exact h.kr
  · intro p q hpq v hv hv0
    rw [up_ne X _ _ _ hrw,up_ne Y _ _ _ hrw]
    by_cases hvw:v=w
    · subst hvw
      rw [up_same,up_same]
      have h1:=h.ph p q hpq u hu (by rw [hK0];exact hw0)
      have h2:=hp p q hpq
      omega
    · rw [up_ne _ _ _ _ hvw] at hv
      rw [up_ne _ _ _ _ hvw,up_ne _ _ _ _ hvw]
      exact h.ph p q hpq v hv hv0
theorem Es.Ph.done {e:Es} {K0:Nat→Bool} {r:Nat} {K:Nat→Bool} {X Y:Nat→Int} (h:e.Ph K0 r K X Y):e.Good K X Y:=by
  intro p q hpq i hi h1 h2
  have hc:=h.c0 i hi
  cases h0:K0 (e.a i) with
  | true=>exact h.g0 p q hpq i hi h0 (by rw [← hc];exact h0)
  | false =>
    have a1:=h.ph p q hpq (e.a i) h1 h0
    have a2:=h.ph p q hpq (e.b i) h2 (by rw [← hc];exact h0)
    omega
def cnt (K:Nat→Bool):Nat→Nat
  | 0=>0
  | v+1=>cnt K v+(if K v=true then 1 else 0)
theorem cnt_le (K:Nat→Bool):∀ n,cnt K n≤n
  | 0=>Nat.le_refl _
  | n+1=>by have:=cnt_le K n;simp only [cnt];split<;>omega
theorem cnt_congr (K L:Nat→Bool):∀ n,(∀ v,v<n→K v=L v)→cnt K n=cnt L n
  | 0,_=>rfl
  | n+1,h=>by simp only [cnt];rw [cnt_congr K L n (fun v hv=>h v (by omega)),h n (by omega)]
theorem cnt_up (K:Nat→Bool) (w:Nat) (hw:K w=false):∀ n,w<n→cnt (up K w true) n=cnt K n+1
  | 0,h=>by omega
  | n+1,h=>by
    simp only [cnt]
    by_cases hn:w=n
    · subst hn
      rw [cnt_congr (up K w true) K w (fun v hv=>up_ne _ _ _ _ (by omega)),up_same,hw];simp
    · rw [cnt_up K w hw n (by omega),up_ne _ _ _ _ (by omega)];omega
theorem cnt_pos (K:Nat→Bool) (w:Nat) (hw:K w=true):∀ n,w<n→1≤cnt K n
  | 0,h=>by omega
  | n+1,h=>by
    simp only [cnt]
    by_cases hn:w=n
    · subst hn;rw [hw];simp
    · have:=cnt_pos K w hw n (by omega);omega
def Es.Sw (e:Es) (K:Nat→Bool) (m i:Nat):Prop :=
  e.Closed K∨m+2≤cnt K e.N∨(m+1≤cnt K e.N∧∀ j,j<i→K (e.a j)=K (e.b j))
theorem Es.Sw.add {e:Es} {K:Nat→Bool} {m i:Nat} (h:e.Sw K m i) {w:Nat} (hw:w<e.N) (hK:K w=false) (hn:¬ K (e.a i)=K (e.b i)) (hi:i<e.n) :
    e.Sw (up K w true) m (i+1):=by
  right;left
  rw [cnt_up K w hK e.N hw]
  rcases h with h | h | h
  · exact absurd (h i hi) hn
  · omega
  · omega
theorem Es.Sw.skip {e:Es} {K:Nat→Bool} {m i:Nat} (h:e.Sw K m i) (hn:K (e.a i)=K (e.b i)):e.Sw K m (i+1):=by
  rcases h with h | h | h
  · exact .inl h
  · exact .inr (.inl h)
  · refine .inr (.inr ⟨h.1,fun j hj=>?_⟩)
    by_cases hji:j=i
    · rw [hji];exact hn
    · exact h.2 j (by omega)
theorem Es.Sw.next {e:Es} {K:Nat→Bool} {m:Nat} (h:e.Sw K m e.n):e.Sw K (m+1) 0:=by
  rcases h with h | h | h
  · exact .inl h
  · exact .inr (.inr ⟨h,fun j hj=>absurd hj (Nat.not_lt_zero _)⟩)
  · exact .inl h.2
theorem Es.Sw.fin {e:Es} {K:Nat→Bool} (h:e.Sw K e.N 0):e.Closed K:=by
  have:=cnt_le K e.N
  rcases h with h | h | h
  · exact h
  · omega
  · omega
structure Es.Uf (e:Es) (k:Nat) (R X Y:Nat→Int):Prop where
  i1:∀ j,j<k→R (e.a j)=R (e.b j)∧X (e.a j)+e.x j=X (e.b j)∧Y (e.a j)+e.y j=Y (e.b j)
  i2:∀ p q,e.Pot p q→∀ u v,u<e.N→v<e.N→R u=R v→p u - X u=p v - X v∧q u - Y u=q v - Y v
def mR (R F:Nat→Int) (fr:Int) (n:Nat) (G:Nat→Int) (u:Nat):Int:=if u<n∧R u=fr then G u else F u
theorem mR_up (R F:Nat→Int) (fr:Int) (G:Nat→Int) (v:Nat) (h:R v=fr):up (mR R F fr v G) v (G v)=mR R F fr (v+1) G:=by
  funext u
  simp only [up,mR]
  by_cases hu:u=v
  · subst hu;rw [if_pos rfl,if_pos ⟨by omega,h⟩]
  · rw [if_neg hu]
    by_cases h2:u<v∧R u=fr
    · rw [if_pos h2,if_pos ⟨by omega,h2.2⟩]
    · rw [if_neg h2,if_neg (fun h3=>h2 ⟨by omega,h3.2⟩)]
theorem mR_skip (R F:Nat→Int) (fr:Int) (G:Nat→Int) (v:Nat) (h:¬ R v=fr):mR R F fr v G=mR R F fr (v+1) G:=by
  funext u
  simp only [mR]
  by_cases h2:u<v∧R u=fr
  · rw [if_pos h2,if_pos ⟨by omega,h2.2⟩]
  · rw [if_neg h2,if_neg (fun h3=>?_)]
    have hn:u≠v:=fun h4=>h (by rw [← h4];exact h3.2)
    exact h2 ⟨by omega,h3.2⟩
theorem mR_at (R F:Nat→Int) (fr:Int) (G:Nat→Int) (v:Nat):mR R F fr v G v=F v:=by simp [mR]
theorem Es.Uf.merge {e:Es} (he:e.Ok) {k:Nat} {R X Y:Nat→Int} (h:e.Uf k R X Y) (hk:k<e.n) (hne:¬ R (e.b k)=R (e.a k)) (dx dy:Int)
    (hx:dx=X (e.a k)+e.x k - X (e.b k)) (hy:dy=Y (e.a k)+e.y k - Y (e.b k)) :
    e.Uf (k+1) (mR R R (R (e.b k)) e.N (fun _=>R (e.a k))) (mR R X (R (e.b k)) e.N (fun u=>X u+dx)) (mR R Y (R (e.b k)) e.N (fun u=>Y u+dy)):=by
  have hin:∀ u,u<e.N→∀ F G,mR R F (R (e.b k)) e.N G u=if R u=R (e.b k) then G u else F u:=by
    intro u hu F G
    simp only [mR]
    by_cases h1:R u=R (e.b k)
    · rw [if_pos ⟨hu,h1⟩,if_pos h1]
    · rw [if_neg (fun h2=>h1 h2.2),if_neg h1]
  constructor
  · intro j hj
    by_cases hjk:j=k
    · subst hjk
      rw [hin _ (he.ha j hk),hin _ (he.hb j hk),hin _ (he.ha j hk),hin _ (he.hb j hk),hin _ (he.ha j hk),hin _ (he.hb j hk)]
      simp only [if_true,if_neg (fun h'=>hne (Eq.symm h'))]
      refine ⟨trivial,?_,?_⟩<;>omega
    · have h1:=h.i1 j (by omega)
      rw [hin _ (he.ha j (by omega)),hin _ (he.hb j (by omega)),hin _ (he.ha j (by omega)),hin _ (he.hb j (by omega)),hin _ (he.ha j (by omega)),hin _ (he.hb j (by omega)),← h1.1]
      by_cases h2:R (e.a j)=R (e.b k)
      · simp only [if_pos h2];refine ⟨trivial,?_,?_⟩<;>omega
      · simp only [if_neg h2];exact ⟨trivial,h1.2⟩
  · intro p q hpq u v hu hv
    rw [hin u hu,hin v hv,hin u hu,hin v hv,hin u hu,hin v hv]
    have hb:=hpq k hk
    by_cases h1:R u=R (e.b k)
    · by_cases h2:R v=R (e.b k)
      · simp only [if_pos h1,if_pos h2];intro _
        have:=h.i2 p q hpq u v hu hv (by rw [h1,h2]);omega
      · simp only [if_pos h1,if_neg h2];intro h3
        have a1:=h.i2 p q hpq u (e.b k) hu (he.hb k hk) h1
        have a2:=h.i2 p q hpq (e.a k) v (he.ha k hk) hv h3
        omega
    · by_cases h2:R v=R (e.b k)
      · simp only [if_neg h1,if_pos h2];intro h3
        have a1:=h.i2 p q hpq v (e.b k) hv (he.hb k hk) h2
        have a2:=h.i2 p q hpq (e.a k) u (he.ha k hk) hu h3.symm
        omega
      · simp only [if_neg h1,if_neg h2];intro h3
        exact h.i2 p q hpq u v hu hv h3
theorem mR_le (R F:Nat→Int) (fr:Int) (n:Nat) (G:Nat→Int) (B:Int) (hF:∀ v,-B≤F v∧F v≤B) (hG:∀ v,-B≤G v∧G v≤B):∀ v,-B≤mR R F fr n G v∧mR R F fr n G v≤B:=by
  intro v;simp only [mR];split
  · exact hG v
  · exact hF v
theorem up_le (F:Nat→Int) (k:Nat) (x B:Int) (hF:∀ v,-B≤F v∧F v≤B) (hx:-B≤x∧x≤B):∀ v,-B≤up F k x v∧up F k x v≤B:=by
  intro v;simp only [up];split
  · exact hx
  · exact hF v
def mb:Nat→Int
  | 0=>0
  | k+1=>3*mb k+9
theorem mb_le (k:Nat) (h:k≤8):0≤mb k∧mb k≤100000:=by
  rcases k with _ | _ | _ | _ | _ | _ | _ | _ | _ | k
  all_goals first | decide | omega
end BL
open BL
def goodS (nb:Nat) (s:Nat→Int):Nat→Bool
  | 0=>true
  | k+1=>goodS nb s k&&!badS nb s k
theorem goodS_bad (nb:Nat) (s:Nat→Int) (k:Nat) (h:badS nb s k=true):∀ n,k<n→goodS nb s n=false
  | 0,h'=>by omega
  | n+1,h'=>by
    by_cases e':k=n
    · subst e';simp [goodS,h]
    · simp [goodS,goodS_bad nb s k h n (by omega)]
theorem idx_ltB {b:Bool} {k n:Nat} (h:(b&&decide ((k:Int)>0))=true) (hk:k<n):0≤(k:Int) - 1∧(k:Int) - 1<n∧-9223372036854775808≤(k:Int) - 1∧(k:Int) - 1≤n:=by
  simp at h
  omega
theorem badZ_S (nb:Nat) (s:Nat→Int) (k:Nat):badZ nb s k=badS nb s k:=by
  have:(!inB (s k) 0 ((nb:Int) - 1))=(bif decide (s k<0) then true else decide (s k≥(nb:Int))):=by
    rw [Bool.eq_iff_iff];simp [inB];omega
  rw [badZ,badS,this]
theorem goodS_in {nb:Nat} {s:Nat→Int}:∀ {n:Nat},goodS nb s n=true→(∀ i,i<n→0≤s i∧s i<nb∧(i:Int)≤s i)
  | 0,_=>fun i hi=>absurd hi (Nat.not_lt_zero _)
  | n+1,h=>by
    simp only [goodS,Bool.and_eq_true,Bool.not_eq_true'] at h
    have ih:=goodS_in h.1
    intro i hi
    by_cases e':i=n
    · subst e'
      have hb:=h.2
      simp only [badS] at hb
      cases h1:decide (s i<0) with
      | true=>rw [h1] at hb;cases hb
      | false =>
        cases h2:decide (s i≥(nb:Int)) with
        | true=>rw [h1,h2] at hb;cases hb
        | false =>
          have h1':=of_decide_eq_false h1
          have h2':=of_decide_eq_false h2
          refine ⟨by omega,by omega,?_⟩
          cases i with
          | zero=>omega
          | succ j =>
            rw [h1,h2,show decide (((j+1:Nat):Int)>0)=true from decide_eq_true (by omega),show (((j+1:Nat):Int) - 1).toNat=j by omega] at hb
            have h3:=of_decide_eq_false hb
            have:=(ih j (by omega)).2.2
            omega
    · exact ih i (by omega)
def esO (g:Nat→T_GainBar) (N n:Nat) (s:Nat→Int):Es :=
  ⟨n,N,fun i=>(gb g s i).1.toNat,fun i=>(gb g s i).2.1.toNat,fun i=>(gb g s i).2.2.1,fun i=>(gb g s i).2.2.2.1⟩
open Classical in
noncomputable def balP (g:Nat→T_GainBar) (N n:Nat) (s:Nat→Int):Bool:=decide (esO g N n s).Bal
noncomputable def isBalF (v:T_GainGraph) (u:T_IntS):Bool:=bif goodS v.2.1.1 u.2 u.1 then (bif isGainF v then balP v.2.1.2 v.1.toNat u.1 u.2 else false) else false
theorem con_l29Set (v:T_GainGraph) (hs:smS s_GainGraph v) (u:T_IntS) (hn:u.1≤1048576) :
    zE 68 [gnA v.2.1.2 v.2.1.1 v.1,inS u.1 u.2] [] (.p (.bool (bif goodS v.2.1.1 u.2 u.1 then isGainF v else false))):=by
  have hcg:=con_IsGainGraph_s v hs
  obtain ⟨n,s⟩:=u
  refine csZ Try.func68 (fun c hc=>?_)
  have lp:∀ d k,k+d=n→goodS v.2.1.1 s k=true→zR c 68 zf47 (SBl v.2.1.2 v.2.1.1 v.1 n s k) (Post c [] (.p (.bool (bif goodS v.2.1.1 s n then isGainF v else false)))):=by
    intro d
    induction d with
    | zero =>
      intro k hk hg
      have e:k=n:=by omega
      have hd:decide ((k:Int)<(n:Int))=false:=by simp;omega
      rw [show goodS v.2.1.1 s n=true by rw [← e];exact hg]
      refine pkZ Try.func68 hc (bLd v.2.1.2 v.2.1.1 v.1 n s k (isGainF v)) ?_
      and_intros
      all_goals (first | exact zN | (exact hd) | (exact hcg) | rfl)
    | succ d ih =>
      intro k hk hg
      have hd:decide ((k:Int)<(n:Int))=true:=by simp;omega
      have hk':k<n:=by omega
      cases hb:badS v.2.1.1 s k with
      | true =>
        rw [goodS_bad v.2.1.1 s k hb n hk']
        refine pkD Try.func68 hc (bLc v.2.1.2 v.2.1.1 v.1 n s k) ?_
        and_intros
        all_goals (first | exact zH | (exact hd) | (exact hb) | (intro h;exact h) | (intro h;rw [h];rfl) | (intro h1 h2;rw [h1,h2];rfl) | (intro h;have:=idx_ltB h hk';omega) | (intro h;omega))
      | false =>
        refine pcD hc (bLb v.2.1.2 v.2.1.1 v.1 n s k) ?_ (ih (k+1) (by omega) (by simp [goodS,hg,hb]))
        and_intros
        all_goals (first | exact zH | (exact hd) | (exact hb) | (intro h;exact h) | (intro h;rw [h];rfl) | (intro h1 h2;rw [h1,h2];rfl) | (intro h;have:=idx_ltB h hk';omega) | (intro h;omega))
  refine pcD hc (bLa v.2.1.2 v.2.1.1 v.1 n s) ?_ (lp n 0 (by omega) rfl)
  and_intros
  all_goals (first | exact zN | (simp;done))
open Go BL
def barOk (N:Nat) (b:T_GainBar):Prop:=0≤b.1∧b.1≤b.2.1∧b.2.1<N∧-9≤b.2.2.1∧b.2.2.1≤9∧-9≤b.2.2.2.1∧b.2.2.2.1≤9
theorem badG_ok {N:Int} {b:T_GainBar} (h:badG N b=false):0≤b.1∧b.1≤b.2.1∧b.2.1<N∧-9≤b.2.2.1∧b.2.2.1≤9∧-9≤b.2.2.2.1∧b.2.2.2.1≤9:=by
  unfold badG at h
  cases h1:decide (b.1<0)<;>cases h2:decide (b.1>b.2.1)<;>cases h3:decide (b.2.1≥N)<;>cases h4:inB b.2.2.1 (-9) 9<;>cases h5:inB b.2.2.2.1 (-9) 9<;>simp [h1,h2,h3,h4,h5] at h
  simp only [inB,Bool.and_eq_true,decide_eq_true_eq,decide_eq_false_iff_not] at h1 h2 h3 h4 h5
  omega
theorem goodG_all {v:T_GainGraph}:∀ {n:Nat},goodG v n=true→∀ k,k<n→badG v.1 (v.2.1.2 k)=false
  | 0,_=>fun k hk=>absurd hk (Nat.not_lt_zero _)
  | n+1,h=>by
    simp only [goodG,Bool.and_eq_true,Bool.not_eq_true'] at h
    intro k hk
    by_cases e':k=n
    · rw [e'];exact h.2
    · exact goodG_all h.1 k (by omega)
theorem gain_in {v:T_GainGraph} (h:isGainF v=true):∃ N nb:Nat,∃ g,v=((N:Int),(nb,g),())∧1≤N∧N≤4∧nb≤8∧∀ i,i<nb→barOk N (g i):=by
  obtain ⟨n,⟨nb,g⟩,u⟩:=v
  simp only [isGainF,inB,Bool.and_eq_true,decide_eq_true_eq] at h
  refine ⟨n.toNat,nb,g,?_,by omega,by omega,h.2.2,fun i hi=>?_⟩
  · rw [show ((n.toNat:Nat):Int)=n by omega]
  · have h2:=badG_ok (goodG_all h.1 i hi)
    simp only at h2
    unfold barOk
    omega
theorem goodS_n {nb:Nat} {s:Nat→Int} {n:Nat} (h:goodS nb s n=true):n≤nb:=by
  cases n with
  | zero=>omega
  | succ n=>have:=goodS_in h n (by omega);omega
theorem esO_ok {N nb n:Nat} {g:Nat→T_GainBar} {s:Nat→Int} (hg:∀ i,i<nb→barOk N (g i)) (hs:goodS nb s n=true):(esO g N n s).Ok:=by
  constructor
  · intro i hi
    have h1:=goodS_in hs i hi
    have h2:=hg (s i).toNat (by omega)
    unfold barOk at h2
    show (g (s i).toNat).1.toNat<N
    omega
  · intro i hi
    have h1:=goodS_in hs i hi
    have h2:=hg (s i).toNat (by omega)
    unfold barOk at h2
    show (g (s i).toNat).2.1.toNat<N
    omega
theorem balP_t {g:Nat→T_GainBar} {N n:Nat} {s:Nat→Int} (h:(esO g N n s).Bal):balP g N n s=true:=by
  classical
  unfold balP;exact decide_eq_true h
theorem balP_f {g:Nat→T_GainBar} {N n:Nat} {s:Nat→Int} (h:¬ (esO g N n s).Bal):balP g N n s=false:=by
  classical
  unfold balP;exact decide_eq_false h
theorem con_balanced {N nb n:Nat} {g:Nat→T_GainBar} {s:Nat→Int} (hN:1≤N∧N≤4) (hnb:nb≤8) (hg:∀ i,i<nb→barOk N (g i)) (hs:goodS nb s n=true) :
    zE 67 [gnA g nb N,inS n s] [] (.p (.bool (balP g N n s))):=by
  have hn:=goodS_n hs
  have hok:=esO_ok hg hs
  refine csZ Try.func67 (fun c hc=>?_)
  have l1:∀ d k R X Y,k+d=n→(esO g N n s).Uf k R X Y→(∀ v,-mb k≤X v∧X v≤mb k)→(∀ v,-mb k≤Y v∧Y v≤mb k) →
      zR c 67 zf23 (SYw1 g nb N n s R X Y k) (Post c [] (.p (.bool (balP g N n s)))):=by
    intro d
    induction d with
    | zero =>
      intro k R X Y hk hu hX hY
      have hd:decide ((k:Int)<(n:Int))=false:=by simp;omega
      have hall:∀ i,i<n→i<k:=fun i hi=>by omega
      rw [balP_t ⟨X,Y,fun i hi=>(hu.i1 i (hall i hi)).2⟩]
      refine pkZ Try.func67 hc (bY1e g nb N n s R X Y k) ?_
      and_intros
      all_goals (first | exact zN | (exact hd) | rfl)
    | succ d ih =>
      intro k R X Y hk hu hX hY
      have hkn:k<n:=by omega
      have hd:decide ((k:Int)<(n:Int))=true:=by simp;omega
      have hi:=goodS_in hs k hkn
      have hb:=hg (s k).toNat (by omega)
      unfold barOk at hb
      have hm:=mb_le (k+1) (by omega)
      simp only [mb] at hm
      have xa:=hX (g (s k).toNat).1.toNat
      have xb:=hX (g (s k).toNat).2.1.toNat
      have ya:=hY (g (s k).toNat).1.toNat
      have yb:=hY (g (s k).toNat).2.1.toNat
      by_cases hr:R (g (s k).toNat).2.1.toNat=R (g (s k).toNat).1.toNat
      · have hr':(R (g (s k).toNat).2.1.toNat==R (g (s k).toNat).1.toNat)=true:=by rw [hr];exact beq_self_eq_true _
        by_cases hz:X (g (s k).toNat).1.toNat+(g (s k).toNat).2.2.1 - X (g (s k).toNat).2.1.toNat=0∧Y (g (s k).toNat).1.toNat+(g (s k).toNat).2.2.2.1 - Y (g (s k).toNat).2.1.toNat=0
        · have hz':(bif X (g (s k).toNat).1.toNat+(g (s k).toNat).2.2.1 - X (g (s k).toNat).2.1.toNat != 0 then true else Y (g (s k).toNat).1.toNat+(g (s k).toNat).2.2.2.1 - Y (g (s k).toNat).2.1.toNat != 0)=false:=by
            rw [hz.1,hz.2];rfl
          refine pcD hc (bY1c g nb N n s R X Y k) ?_ (ih (k+1) R X Y (by omega) ⟨?_,hu.i2⟩ (fun v=>by have:=hX v;simp only [mb];omega) (fun v=>by have:=hY v;simp only [mb];omega))
          ·
            and_intros
            all_goals (first | exact zH | (exact hd) | (exact hr') | (exact hz') | (intro h;exact h) | (intro h;rw [h];rfl) | (intro h;omega) | (intro j hj;simp [All]))
          · intro j hj
            by_cases hjk:j=k
            · subst hjk
              refine ⟨hr.symm,?_,?_⟩
              · show X (g (s j).toNat).1.toNat+(g (s j).toNat).2.2.1=X (g (s j).toNat).2.1.toNat;omega
              · show Y (g (s j).toNat).1.toNat+(g (s j).toNat).2.2.2.1=Y (g (s j).toNat).2.1.toNat;omega
            · exact hu.i1 j (by omega)
        · have hz':(bif X (g (s k).toNat).1.toNat+(g (s k).toNat).2.2.1 - X (g (s k).toNat).2.1.toNat != 0 then true else Y (g (s k).toNat).1.toNat+(g (s k).toNat).2.2.2.1 - Y (g (s k).toNat).2.1.toNat != 0)=true:=by
            cases h1:(X (g (s k).toNat).1.toNat+(g (s k).toNat).2.2.1 - X (g (s k).toNat).2.1.toNat != 0) with
            | true=>rfl
            | false =>
              cases h2:(Y (g (s k).toNat).1.toNat+(g (s k).toNat).2.2.2.1 - Y (g (s k).toNat).2.1.toNat != 0) with
              | true=>rfl
              | false=>exact absurd ⟨by simpa using h1,by simpa using h2⟩ hz
          rw [balP_f (fun ⟨p,q,hpq⟩=>by
            have h1:=hpq k hkn
            have h2:=hu.i2 p q hpq _ _ (hok.ha k hkn) (hok.hb k hkn) hr.symm
            simp only [esO,gb] at h1 h2
            omega)]
          refine pkD Try.func67 hc (bY1t g nb N n s R X Y k) ?_
          and_intros
          all_goals (first | exact zH | (exact hd) | (exact hr') | (exact hz') | (intro h;exact h) | (intro h;rw [h];rfl) | (intro h;omega) | (intro j hj;simp [All]))
      · have hr':(R (g (s k).toNat).2.1.toNat==R (g (s k).toNat).1.toNat)=false:=by simp;exact hr
        have hmg:=hu.merge hok hkn hr _ _ rfl rfl
        simp only [esO,gb] at hmg
        generalize hdx:X (g (s k).toNat).1.toNat+(g (s k).toNat).2.2.1 - X (g (s k).toNat).2.1.toNat=dx at hmg
        generalize hdy:Y (g (s k).toNat).1.toNat+(g (s k).toNat).2.2.2.1 - Y (g (s k).toNat).2.1.toNat=dy at hmg
        generalize hfr:R (g (s k).toNat).2.1.toNat=fr at hmg
        generalize hto:R (g (s k).toNat).1.toNat=to' at hmg
        have hX3:∀ v,-mb (k+1)≤X v∧X v≤mb (k+1):=fun v=>by have:=hX v;simp only [mb];omega
        have hY3:∀ v,-mb (k+1)≤Y v∧Y v≤mb (k+1):=fun v=>by have:=hY v;simp only [mb];omega
        have hX4:∀ v,-mb (k+1)≤X v+dx∧X v+dx≤mb (k+1):=fun v=>by have:=hX v;simp only [mb];omega
        have hY4:∀ v,-mb (k+1)≤Y v+dy∧Y v+dy≤mb (k+1):=fun v=>by have:=hY v;simp only [mb];omega
        have hm2:=mb_le (k+1) (by omega)
        have l2:∀ e v,v+e=N→zR c 67 zf8 (SY2 g nb N n s (mR R R fr v (fun _=>to')) (mR R X fr v (fun u=>X u+dx)) (mR R Y fr v (fun u=>Y u+dy)) k dx dy fr to' v) (Post c [] (.p (.bool (balP g N n s)))):=by
          intro e
          induction e with
          | zero =>
            intro v hv
            obtain rfl:v=N:=by omega
            have hd2:decide ((v:Int)<(v:Int))=false:=by simp
            refine pcD hc (bY2e g nb v n s _ _ _ k dx dy fr to' v) ?_ (ih (k+1) _ _ _ (by omega) hmg (mR_le _ _ _ _ _ _ hX3 hX4) (mR_le _ _ _ _ _ _ hY3 hY4))
            and_intros
            all_goals (first | exact zN | (exact hd2) | (simp;done) | (intro j hj;simp [All]))
          | succ e ih2 =>
            intro v hv
            have hd2:decide ((v:Int)<(N:Int))=true:=by simp;omega
            have e1:=mR_at R R fr (fun _=>to') v
            by_cases h3:R v=fr
            · have h3':(mR R R fr v (fun _=>to') v==fr)=true:=by rw [e1,h3];exact beq_self_eq_true _
              have h5:=hX4 v
              have h6:=hY4 v
              have q1:=mR_up R R fr (fun _=>to') v h3
              have q2:=mR_up R X fr (fun u=>X u+dx) v h3
              have q3:=mR_up R Y fr (fun u=>Y u+dy) v h3
              have h7:=ih2 (v+1) (by omega)
              rw [← q1,← q2,← q3] at h7
              refine pcD hc (bY2t g nb N n s _ _ _ k dx dy fr to' v) ?_ (pcD hc (bY2u g nb N n s _ _ _ k dx dy fr to' v) ?_ (cast (by simp only [mR_at]) h7))
              ·
                and_intros
                all_goals (first | exact zI | (exact hd2) | (exact h3') | (simp only [mR_at];omega) | (intro j hj;by_cases h':j=v<;>simp [h',up,mR_at,cvtL,cvt,tg,tru,All]))
              ·
                and_intros
                all_goals (first | exact zH | (exact hd2) | (exact h3') | (simp only [mR_at];omega) | (intro j hj;by_cases h':j=v<;>simp [h',up,mR_at,cvtL,cvt,tg,tru,All]))
            · have h3':(mR R R fr v (fun _=>to') v==fr)=false:=by rw [e1];simp;exact h3
              have h7:=ih2 (v+1) (by omega)
              rw [← mR_skip R R fr _ v h3,← mR_skip R X fr _ v h3,← mR_skip R Y fr _ v h3] at h7
              refine pcD hc (bY2n g nb N n s _ _ _ k dx dy fr to' v) ?_ h7
              and_intros
              all_goals (first | exact zN | (exact hd2) | (exact h3') | (simp;done) | (intro j hj;simp [All]))
        have h8:=l2 N 0 (by omega)
        have z1:∀ F G,mR R F fr 0 G=F:=fun F G=>by funext u;simp [mR]
        rw [z1,z1,z1] at h8
        subst hdx hdy hfr hto
        refine pcD hc (bY1m g nb N n s R X Y k) ?_ h8
        and_intros
        all_goals (first | exact zI | (exact hd) | (exact hr') | (simp;done) | (intro j hj;simp [All]))
  have l0:∀ d k R,k+d=N→(∀ v,v<k→R v=(v:Int))→zR c 67 zf26 (SYw0 g nb N n s R (fun _=>0) (fun _=>0) k) (Post c [] (.p (.bool (balP g N n s)))):=by
    intro d
    induction d with
    | zero =>
      intro k R hk hR
      obtain rfl:k=N:=by omega
      have hd:decide ((k:Int)<(k:Int))=false:=by simp
      refine pcD hc (bY0e g nb k n s R _ _ k) ?_ (l1 n 0 R _ _ (by omega) ⟨fun j hj=>absurd hj (Nat.not_lt_zero _),fun p q hpq u v hu hv huv=>?_⟩ (fun v=>by simp [mb]) (fun v=>by simp [mb]))
      ·
        and_intros
        all_goals (first | exact zN | (exact hd) | (simp;done) | (intro j hj;simp [All]))
      · rw [hR u hu,hR v hv] at huv
        have:u=v:=by omega
        subst this;exact ⟨rfl,rfl⟩
    | succ d ih =>
      intro k R hk hR
      have hd:decide ((k:Int)<(N:Int))=true:=by simp;omega
      refine pcD hc (bY0 g nb N n s R _ _ k) ?_ (ih (k+1) _ (by omega) (fun v hv=>?_))
      ·
        and_intros
        all_goals (first | exact zI | (exact hd) | (intro j hj;by_cases h':j=k<;>simp [h',up,cvtL,cvt,tg,tru,All]))
      · by_cases h':v=k
        · rw [h'];exact up_same _ _ _
        · rw [up_ne _ _ _ _ h'];exact hR v (by omega)
  refine pcD hc (bYa g nb N n s) ?_ (l0 N 0 _ (by omega) (fun v hv=>absurd hv (Nat.not_lt_zero _)))
  and_intros
  all_goals (first | exact zN | (simp;done) | (intro j hj;simp [All]))
theorem con_IsBalanced_i (v:T_GainGraph) (hs:smS s_GainGraph v) (u:T_IntS) (hn:u.1≤1048576) :
    zE 17 [gnA v.2.1.2 v.2.1.1 v.1,inS u.1 u.2] [] (.p (.bool (isBalF v u))):=by
  have hcg:=con_IsGainGraph_i v hs
  have hnb:v.2.1.1≤1048576:=hs.2.1.1
  obtain ⟨n,s⟩:=u
  refine csZ Try.func17 (fun c hc=>?_)
  have lp:∀ d k,k+d=n→goodS v.2.1.1 s k=true→zR c 17 zf48 (SZ0 v.2.1.2 v.2.1.1 v.1 n s k) (Post c [] (.p (.bool (isBalF v (n,s))))):=by
    intro d
    induction d with
    | zero =>
      intro k hk hg
      have e:k=n:=by omega
      have hd:decide ((k:Int)<(n:Int))=false:=by simp;omega
      have hbl:isGainF v=true→zE 67 [gnA v.2.1.2 v.2.1.1 v.1,inS n s] [] (.p (.bool (balP v.2.1.2 v.1.toNat n s))):=by
        intro h
        obtain ⟨N,nb,g,rfl,h1,h2,h3,h4⟩:=gain_in h
        rw [e] at hg
        exact con_balanced ⟨h1,h2⟩ h3 h4 hg
      rw [show isBalF v (n,s)=(bif isGainF v then balP v.2.1.2 v.1.toNat n s else false) by rw [isBalF];simp only;rw [← e,hg];rfl]
      refine pkZ Try.func17 hc (bZd v.2.1.2 v.2.1.1 v.1 n s k (isGainF v) (balP v.2.1.2 v.1.toNat n s)) ?_
      and_intros
      all_goals (first | exact zI | (exact hd) | (exact hcg) | (intro h;exact hbl h) | (intro h;exact h) | rfl)
    | succ d ih =>
      intro k hk hg
      have hd:decide ((k:Int)<(n:Int))=true:=by simp;omega
      have hk':k<n:=by omega
      have hw:=con_within (s k) 0 ((v.2.1.1:Int) - 1)
      cases hb:badZ v.2.1.1 s k with
      | true =>
        rw [show isBalF v (n,s)=false by rw [isBalF];simp only;rw [goodS_bad v.2.1.1 s k (by rw [← badZ_S];exact hb) n hk'];rfl]
        refine pkD Try.func17 hc (bZc v.2.1.2 v.2.1.1 v.1 n s k) ?_
        and_intros
        all_goals (first | exact zH | (exact hd) | (exact hw) | (exact hb) | (intro h;exact h) | (intro h;rw [h];rfl) | (intro h1 h2;rw [h1,h2];rfl) | (intro h;have:=idx_ltB h hk';omega) | (intro h;omega))
      | false =>
        refine pcD hc (bZb v.2.1.2 v.2.1.1 v.1 n s k) ?_ (ih (k+1) (by omega) (by rw [badZ_S] at hb;simp [goodS,hg,hb]))
        and_intros
        all_goals (first | exact zH | (exact hd) | (exact hw) | (exact hb) | (intro h;exact h) | (intro h;rw [h];rfl) | (intro h1 h2;rw [h1,h2];rfl) | (intro h;have:=idx_ltB h hk';omega) | (intro h;omega))
  refine pcD hc (bZa v.2.1.2 v.2.1.1 v.1 n s) ?_ (lp n 0 (by omega) rfl)
  and_intros
  all_goals (first | exact zN | (simp;done))
open Go BL
theorem con_IsBalanced_s (v:T_GainGraph) (hs:smS s_GainGraph v) (u:T_IntS) (hn:u.1≤1048576) :
    zE 18 [gnA v.2.1.2 v.2.1.1 v.1,inS u.1 u.2] [] (.p (.bool (isBalF v u))):=by
  have hset:=con_l29Set v hs u hn
  cases hgs:goodS v.2.1.1 u.2 u.1 with
  | false =>
    rw [hgs] at hset
    rw [show isBalF v u=false by rw [isBalF,hgs];rfl]
    refine csZ Try.func18 (fun c hc=>?_)
    refine pkZ Try.func18 hc (bSz v.2.1.2 v.2.1.1 v.1 u.1 u.2) ?_
    and_intros
    all_goals (first | exact zN | (exact hset) | rfl)
  | true =>
    cases hgg:isGainF v with
    | false =>
      rw [hgs,hgg] at hset
      rw [show isBalF v u=false by rw [isBalF,hgs,hgg];rfl]
      refine csZ Try.func18 (fun c hc=>?_)
      refine pkZ Try.func18 hc (bSz v.2.1.2 v.2.1.1 v.1 u.1 u.2) ?_
      and_intros
      all_goals (first | exact zN | (exact hset) | rfl)
    | true =>
      rw [hgs,hgg] at hset
      obtain ⟨N,nb,g,rfl,hN1,hN4,hnb,hg⟩:=gain_in hgg
      obtain ⟨n,s⟩:=u
      rw [show isBalF ((N:Int),(nb,g),()) (n,s)=balP g N n s by rw [isBalF];simp only at hgs ⊢;rw [hgs,hgg];rfl]
      simp only at hset hgs ⊢
      have hnn:=goodS_n hgs
      have hok:=esO_ok hg hgs
      have hin:∀ i,i<n→(0≤s i∧s i<nb)∧barOk N (g (s i).toNat):=fun i hi=>by
        have h1:=goodS_in hgs i hi
        exact ⟨⟨h1.1,h1.2.1⟩,hg _ (by omega)⟩
      unfold barOk at hin
      generalize hB:balP g N n s=B
      refine csZ Try.func18 (fun c hc=>?_)
      have l3:∀ K X Y,(∀ v,-1152≤X v∧X v≤1152)→(∀ v,-1152≤Y v∧Y v≤1152)→(esO g N n s).Good K X Y→(∀ v,v<N→K v=true) →
          ∀ d i,i+d=n→(∀ j,j<i→X ((esO g N n s).a j)+(esO g N n s).x j=X ((esO g N n s).b j)∧Y ((esO g N n s).a j)+(esO g N n s).y j=Y ((esO g N n s).b j)) →
          zR c 18 zf20 (SB3 g nb N n s K X Y i) (Post c [] (.p (.bool B))):=by
        intro K X Y hX hY hgd hK d
        induction d with
        | zero =>
          intro i hi hp
          have hd:decide ((i:Int)<(n:Int))=false:=by simp;omega
          have hall:∀ j,j<n→j<i:=fun j hj=>by omega
          rw [← hB,balP_t ⟨X,Y,fun j hj=>hp j (hall j hj)⟩]
          refine pkZ Try.func18 hc (bS3e g nb N n s K X Y i) ?_
          and_intros
          all_goals (first | exact zN | (exact hd) | rfl)
        | succ d ih =>
          intro i hi hp
          have hin':i<n:=by omega
          have hd:decide ((i:Int)<(n:Int))=true:=by simp;omega
          have hb:=hin i hin'
          have xa:=hX (g (s i).toNat).1.toNat
          have xb:=hX (g (s i).toNat).2.1.toNat
          have ya:=hY (g (s i).toNat).1.toNat
          have yb:=hY (g (s i).toNat).2.1.toNat
          by_cases hz:X (g (s i).toNat).1.toNat+(g (s i).toNat).2.2.1=X (g (s i).toNat).2.1.toNat∧Y (g (s i).toNat).1.toNat+(g (s i).toNat).2.2.2.1=Y (g (s i).toNat).2.1.toNat
          · have hz':(bif X (g (s i).toNat).1.toNat+(g (s i).toNat).2.2.1 != X (g (s i).toNat).2.1.toNat then true else Y (g (s i).toNat).1.toNat+(g (s i).toNat).2.2.2.1 != Y (g (s i).toNat).2.1.toNat)=false:=by
              rw [hz.1,hz.2];simp
            refine pcD hc (bS3 g nb N n s K X Y i) ?_ (ih (i+1) (by omega) (fun j hj=>?_))
            ·
              and_intros
              all_goals (first | exact zH | (exact hd) | (exact hz') | (intro h;exact h) | (intro h;rw [h];rfl) | (intro h;omega) | (intro j hj;simp [All]))
            · by_cases hji:j=i
              · rw [hji];exact hz
              · exact hp j (by omega)
          · have hz':(bif X (g (s i).toNat).1.toNat+(g (s i).toNat).2.2.1 != X (g (s i).toNat).2.1.toNat then true else Y (g (s i).toNat).1.toNat+(g (s i).toNat).2.2.2.1 != Y (g (s i).toNat).2.1.toNat)=true:=by
              cases h1:(X (g (s i).toNat).1.toNat+(g (s i).toNat).2.2.1 != X (g (s i).toNat).2.1.toNat) with
              | true=>rfl
              | false =>
                cases h2:(Y (g (s i).toNat).1.toNat+(g (s i).toNat).2.2.2.1 != Y (g (s i).toNat).2.1.toNat) with
                | true=>rfl
                | false=>exact absurd ⟨by simpa using h1,by simpa using h2⟩ hz
            rw [← hB,balP_f (fun ⟨p,q,hpq⟩=>by
              have h1:=hpq i hin'
              have h2:=hgd p q hpq i hin' (hK _ (hok.ha i hin')) (hK _ (hok.hb i hin'))
              simp only [esO,gb] at h1 h2
              omega)]
            refine pkD Try.func18 hc (bS3t g nb N n s K X Y i) ?_
            and_intros
            all_goals (first | exact zH | (exact hd) | (exact hz') | (intro h;exact h) | (intro h;rw [h];rfl) | (intro h;omega) | (intro j hj;simp [All]))
      have l0:∀ d a K X Y,a+d=N→(esO g N n s).Closed K→(esO g N n s).Good K X Y→(∀ v,v<a→K v=true)→(∀ v,-(9*(32*(a:Int)))≤X v∧X v≤9*(32*(a:Int)))→(∀ v,-(9*(32*(a:Int)))≤Y v∧Y v≤9*(32*(a:Int))) →
          zR c 18 zf22 (SB0 g nb N n s K X Y a) (Post c [] (.p (.bool B))):=by
        intro d
        induction d with
        | zero =>
          intro a K X Y ha hcl hgd hK hX hY
          obtain rfl:a=N:=by omega
          have hd:decide ((a:Int)<(a:Int))=false:=by simp
          refine pcD hc (bS0e g nb a n s K X Y a) ?_ (l3 K X Y (fun v=>by have:=hX v;omega) (fun v=>by have:=hY v;omega) hgd hK n 0 (by omega) (fun j hj=>absurd hj (Nat.not_lt_zero _)))
          and_intros
          all_goals (first | exact zN | (exact hd) | (simp;done) | (intro j hj;simp [All]))
        | succ d ih =>
          intro a K0 X0 Y0 ha hcl hgd hK hX hY
          have haN:a<N:=by omega
          have hd:decide ((a:Int)<(N:Int))=true:=by simp;omega
          cases hka:K0 a with
          | true =>
            refine pcD hc (bSk g nb N n s K0 X0 Y0 a) ?_ (ih (a+1) K0 X0 Y0 (by omega) hcl hgd (fun v hv=>?_) (fun v=>by have:=hX v;omega) (fun v=>by have:=hY v;omega))
            ·
              and_intros
              all_goals (first | exact zN | (exact hd) | (exact hka) | (simp;done) | (intro j hj;simp [All]))
            · by_cases hva:v=a
              · rw [hva];exact hka
              · exact hK v (by omega)
          | false =>
            have l1:∀ d m K X Y,m+d=N→(esO g N n s).Ph K0 a K X Y→(esO g N n s).Sw K m 0→(∀ v,-(9*(32*(a:Int)+8*m))≤X v∧X v≤9*(32*(a:Int)+8*m))→(∀ v,-(9*(32*(a:Int)+8*m))≤Y v∧Y v≤9*(32*(a:Int)+8*m)) →
                zR c 18 zf9 (SB1 g nb N n s K X Y a m) (Post c [] (.p (.bool B))):=by
              intro d1
              induction d1 with
              | zero =>
                intro m K X Y hm hph hsw hX hY
                obtain rfl:m=N:=by omega
                have hd1:decide ((m:Int)<(m:Int))=false:=by simp
                refine pcD hc (bS1e g nb m n s K X Y a m) ?_ (ih (a+1) K X Y (by omega) hsw.fin hph.done (fun v hv=>?_) (fun v=>by have:=hX v;omega) (fun v=>by have:=hY v;omega))
                ·
                  and_intros
                  all_goals (first | exact zN | (exact hd1) | (simp;done) | (intro j hj;simp [All]))
                · by_cases hva:v=a
                  · rw [hva];exact hph.kr
                  · exact hph.le v (hK v (by omega))
              | succ d1 ih1 =>
                intro m K X Y hm hph hsw hX hY
                have hd1:decide ((m:Int)<(N:Int))=true:=by simp;omega
                have l2:∀ d i K X Y,i+d=n→(esO g N n s).Ph K0 a K X Y→(esO g N n s).Sw K m i→(∀ v,-(9*(32*(a:Int)+8*m+i))≤X v∧X v≤9*(32*(a:Int)+8*m+i))→(∀ v,-(9*(32*(a:Int)+8*m+i))≤Y v∧Y v≤9*(32*(a:Int)+8*m+i)) →
                    zR c 18 zf1 (SB2 g nb N n s K X Y a m i) (Post c [] (.p (.bool B))):=by
                  intro d2
                  induction d2 with
                  | zero =>
                    intro i K X Y hi hph hsw hX hY
                    have hd2:decide ((i:Int)<(n:Int))=false:=by simp;omega
                    have hsw':(esO g N n s).Sw K m (esO g N n s).n:=by
                      rw [show i=(esO g N n s).n from by show i=n;omega] at hsw;exact hsw
                    refine pcD hc (bS2e g nb N n s K X Y a m i) ?_ (ih1 (m+1) K X Y (by omega) hph hsw'.next (fun v=>by have:=hX v;omega) (fun v=>by have:=hY v;omega))
                    and_intros
                    all_goals (first | exact zN | (exact hd2) | (simp;done) | (intro j hj;simp [All]))
                  | succ d2 ih2 =>
                    intro i K X Y hi hph hsw hX hY
                    have hin':i<n:=by omega
                    have hd2:decide ((i:Int)<(n:Int))=true:=by simp;omega
                    have hb:=hin i hin'
                    have xa:=hX (g (s i).toNat).1.toNat
                    have xb:=hX (g (s i).toNat).2.1.toNat
                    have ya:=hY (g (s i).toNat).1.toNat
                    have yb:=hY (g (s i).toNat).2.1.toNat
                    have hcli:=hcl i hin'
                    cases hA:K (g (s i).toNat).1.toNat with
                    | true =>
                      cases hBb:K (g (s i).toNat).2.1.toNat with
                      | true =>
                        have t1:(bif K (g (s i).toNat).1.toNat then !K (g (s i).toNat).2.1.toNat else false)=false:=by rw [hA,hBb];rfl
                        have t2:(bif K (g (s i).toNat).2.1.toNat then !K (g (s i).toNat).1.toNat else false)=false:=by rw [hA,hBb];rfl
                        refine pcD hc (bS2c g nb N n s K X Y a m i) ?_ (ih2 (i+1) K X Y (by omega) hph (hsw.skip (by show K (g (s i).toNat).1.toNat=K (g (s i).toNat).2.1.toNat;rw [hA,hBb])) (fun v=>by have:=hX v;omega) (fun v=>by have:=hY v;omega))
                        and_intros
                        all_goals (first | exact zI | (exact hd2) | (exact t1) | (exact t2) | (intro h;exact h) | (intro h;omega) | (simp;done) | (intro j hj;simp [All]))
                      | false =>
                        have t1:(bif K (g (s i).toNat).1.toNat then !K (g (s i).toNat).2.1.toNat else false)=true:=by rw [hA,hBb];rfl
                        refine pcD hc (bS2a g nb N n s K X Y a m i) ?_ (ih2 (i+1) _ _ _ (by omega) (hph.add hA hBb hcli (fun p q hpq=>hpq i hin')) (hsw.add (hok.hb i hin') hBb (by show ¬ K (g (s i).toNat).1.toNat=K (g (s i).toNat).2.1.toNat;rw [hA,hBb];exact Bool.noConfusion) hin') (up_le _ _ _ _ (fun v=>by have:=hX v;omega) (by show _≤X (g (s i).toNat).1.toNat+(g (s i).toNat).2.2.1∧X (g (s i).toNat).1.toNat+(g (s i).toNat).2.2.1≤_;omega)) (up_le _ _ _ _ (fun v=>by have:=hY v;omega) (by show _≤Y (g (s i).toNat).1.toNat+(g (s i).toNat).2.2.2.1∧Y (g (s i).toNat).1.toNat+(g (s i).toNat).2.2.2.1≤_;omega)))
                        and_intros
                        all_goals (first | exact zI | (exact hd2) | (exact t1) | (intro h;exact h) | (intro h;omega) | (simp;done) | (intro j hj;simp [All];done) | (intro j hj;by_cases h':j=(g (s i).toNat).2.1.toNat<;>simp [h',up,gb,cvtL,cvt,tg,tru,All]))
                    | false =>
                      cases hBb:K (g (s i).toNat).2.1.toNat with
                      | false =>
                        have t1:(bif K (g (s i).toNat).1.toNat then !K (g (s i).toNat).2.1.toNat else false)=false:=by rw [hA,hBb];rfl
                        have t2:(bif K (g (s i).toNat).2.1.toNat then !K (g (s i).toNat).1.toNat else false)=false:=by rw [hA,hBb];rfl
                        refine pcD hc (bS2c g nb N n s K X Y a m i) ?_ (ih2 (i+1) K X Y (by omega) hph (hsw.skip (by show K (g (s i).toNat).1.toNat=K (g (s i).toNat).2.1.toNat;rw [hA,hBb])) (fun v=>by have:=hX v;omega) (fun v=>by have:=hY v;omega))
                        and_intros
                        all_goals (first | exact zI | (exact hd2) | (exact t1) | (exact t2) | (intro h;exact h) | (intro h;omega) | (simp;done) | (intro j hj;simp [All]))
                      | true =>
                        have t1:(bif K (g (s i).toNat).1.toNat then !K (g (s i).toNat).2.1.toNat else false)=false:=by rw [hA,hBb];rfl
                        have t2:(bif K (g (s i).toNat).2.1.toNat then !K (g (s i).toNat).1.toNat else false)=true:=by rw [hA,hBb];rfl
                        have hadd:=hph.add (dx:=-(g (s i).toNat).2.2.1) (dy:=-(g (s i).toNat).2.2.2.1) hBb hA hcli.symm (fun p q hpq=>by
                          have h1:=hpq i hin'
                          simp only [esO,gb] at h1
                          omega)
                        rw [show X (g (s i).toNat).2.1.toNat + -(g (s i).toNat).2.2.1=X (g (s i).toNat).2.1.toNat - (g (s i).toNat).2.2.1 by omega,show Y (g (s i).toNat).2.1.toNat + -(g (s i).toNat).2.2.2.1=Y (g (s i).toNat).2.1.toNat - (g (s i).toNat).2.2.2.1 by omega] at hadd
                        refine pcD hc (bS2b g nb N n s K X Y a m i) ?_ (ih2 (i+1) _ _ _ (by omega) hadd (hsw.add (hok.ha i hin') hA (by show ¬ K (g (s i).toNat).1.toNat=K (g (s i).toNat).2.1.toNat;rw [hA,hBb];exact Bool.noConfusion) hin') (up_le _ _ _ _ (fun v=>by have:=hX v;omega) (by show _≤X (g (s i).toNat).2.1.toNat - (g (s i).toNat).2.2.1∧X (g (s i).toNat).2.1.toNat - (g (s i).toNat).2.2.1≤_;omega)) (up_le _ _ _ _ (fun v=>by have:=hY v;omega) (by show _≤Y (g (s i).toNat).2.1.toNat - (g (s i).toNat).2.2.2.1∧Y (g (s i).toNat).2.1.toNat - (g (s i).toNat).2.2.2.1≤_;omega)))
                        and_intros
                        all_goals (first | exact zI | (exact hd2) | (exact t1) | (exact t2) | (intro h;exact h) | (intro h;omega) | (simp;done) | (intro j hj;simp [All];done) | (intro j hj;by_cases h':j=(g (s i).toNat).1.toNat<;>simp [h',up,gb,cvtL,cvt,tg,tru,All]))
                refine pcD hc (bS1 g nb N n s K X Y a m) ?_ (l2 n 0 K X Y (by omega) hph hsw (fun v=>by have:=hX v;omega) (fun v=>by have:=hY v;omega))
                and_intros
                all_goals (first | exact zN | (exact hd1) | (simp;done) | (intro j hj;simp [All]))
            refine pcD hc (bSn g nb N n s K0 X0 Y0 a) ?_ (l1 N 0 (up K0 a true) X0 Y0 (by omega) ⟨hcl,hgd,fun v hv=>?_,up_same _ _ _,fun p q hpq v hv hv0=>?_⟩ (.inr (.inr ⟨?_,fun j hj=>absurd hj (Nat.not_lt_zero _)⟩)) (fun v=>by have:=hX v;omega) (fun v=>by have:=hY v;omega))
            ·
              and_intros
              all_goals (first | exact zI | (exact hd) | (exact hka) | (simp;done) | (intro j hj;simp [All];done) | (intro j hj;by_cases h':j=a<;>simp [h',up,cvtL,cvt,tg,tru,All]))
            · by_cases hva:v=a
              · rw [hva];exact up_same _ _ _
              · rw [up_ne _ _ _ _ hva];exact hv
            · by_cases hva:v=a
              · rw [hva];exact ⟨rfl,rfl⟩
              · rw [up_ne _ _ _ _ hva,hv0] at hv;cases hv
            · exact cnt_pos _ a (up_same _ _ _) N haN
      refine pcD hc (bSa g nb N n s) ?_ (l0 N 0 _ _ _ (by omega) (fun i hi=>rfl) (fun p q hpq i hi h1=>by cases h1) (fun v hv=>absurd hv (Nat.not_lt_zero _)) (fun v=>by simp) (fun v=>by simp))
      and_intros
      all_goals (first | exact zN | (exact hset) | (simp;done) | (intro j hj;simp [All]))
open Go Go.Shelf Go.RowKit Go.Sort
def sW (w:World) (b base q:Nat) (F:Array Value) (os:Array Obj):World:=grow (putRow id (Sort.ahead w q) b base F) os
theorem sW_at {w:World} {b base q:Nat} {F:Array Value} {os:Array Obj} {cells:Array Value} {el:TypeId} {fr:Nat×Nat} (hb:w.heap[b]? = some (.cells cells el fr)) :
    (sW w b base q F os).heap[b]? = some (.cells (putCells id base F cells) el fr):=by
  have hlt:b<w.heap.size:=by
    rcases Nat.lt_or_ge b w.heap.size with h | h
    · exact h
    · rw [Array.getElem?_eq_none h] at hb;cases hb
  rw [sW,heap_grow_old _ _ (by rw [size_putRow];exact hlt)]
  simp only [putRow,mapBlock,heap_ahead,Array.getElem?_modify,if_true,hb,Option.map_some,onCells]
theorem sW_ne {w:World} {b base q c:Nat} {F:Array Value} {os:Array Obj} (hne:c≠b) (hlt:c<w.heap.size) :
    (sW w b base q F os).heap[c]? = w.heap[c]?:=by
  rw [sW,heap_grow_old _ _ (by rw [size_putRow];exact hlt)]
  simp only [putRow,mapBlock,heap_ahead,Array.getElem?_modify,if_neg (Ne.symm hne)]
theorem putCells_size (base:Nat) (F cells:Array Value):(putCells id base F cells).size=cells.size:=by simp [putCells]
theorem putCells_in (base:Nat) (F cells:Array Value) (t:Nat) (h:t<F.size) (hs:base+t<cells.size):(putCells id base F cells)[base+t]? = some F[t]!:=by
  simp only [putCells,Array.getElem?_mapIdx,Array.getElem?_eq_getElem hs,Option.map_some,id]
  rw [if_pos ⟨by omega,by omega⟩,show base+t - base=t by omega]
theorem look_one {ob ob':Ob} {o:Id} (h:lk [(0,ob)] o=some ob') (hb:ob.bx=false:=by rfl):o=0∧ob'=ob:=by
  unfold lk at h
  split at h
  · rename_i ob1 h1
    obtain ⟨oo,m⟩:=o
    simp only [List.lookup] at h1
    split at h1
    · rename_i h2
      cases h1
      have h2:oo=0:=by simpa using h2
      obtain ⟨h3,h4⟩:=vw_plain (isF_nb hb) h
      simp only at h3
      subst h2;subst h3
      exact ⟨rfl,h4⟩
    · cases h1
  · cases h
theorem lk_one (ob:Ob) (hb:ob.bx=false:=by rfl):lk [(0,ob)] 0=some ob:=lk_plain (H:=[(0,ob)]) (o:=0) rfl (isF_nb hb)
theorem own_one (β:Id→Option Addr) (ob:Ob) (b:Nat) (hb:ob.bx=false:=by rfl):ownOf β [(0,ob)] b↔∃ a,β 0=some a∧a.block=b:=by
  constructor
  · rintro ⟨o,ob',a,h1,h2,h3⟩
    obtain ⟨rfl,_⟩:=look_one h1 hb
    exact ⟨a,h2,h3⟩
  · rintro ⟨a,h1,h2⟩
    exact ⟨0,ob,a,lk_one ob hb,h1,h2⟩
theorem ow_one (X:Nat→Prop) (β:Id→Option Addr) (ob ob':Ob) (hb:ob.bx=false:=by rfl) (hb':ob'.bx=false:=by rfl):ow X β [(0,ob)]=ow X β [(0,ob')]:=by
  funext t b
  simp only [ow,own_one β ob b hb,own_one β ob' b hb']
theorem sW_post {w:World} {β:Id→Option Addr} {X:Nat→Prop} {z n:Nat} {fo f':Nat→List AV} {b base q:Nat} {F:Array Value} {os:Array Obj} {cells:Array Value} {el:TypeId} {res:AV} {v:Value}
    (hβ:β 0=some ⟨b,base,none⟩) (hh:w.heap[b]? = some (.cells cells el (0,0)))
    (hS:Sep β [(0,⟨false,z,n,fo⟩)])
    (hsz:base+n*z≤cells.size) (hF:F.size=n*z)
    (hrow:∀ i,i<n→∀ j,j<z→One (F[i*z+j]!)∧∀ (w:World) (own:Bool→Nat→Prop),VR w β own ((f' i).getD j anyA) (F[i*z+j]!))
    (hv:∀ own:Bool→Nat→Prop,VR (sW w b base q F os) β own res v) :
    ∃ v' β',Ending.returned v=.returned v'∧HR (sW w b base q F os) β' (fr X β' [(0,⟨false,z,n,f'⟩)]) [(0,⟨false,z,n,f'⟩)]∧Sep β' [(0,⟨false,z,n,f'⟩)] ∧
      VR (sW w b base q F os) β' (fr X β' [(0,⟨false,z,n,f'⟩)]) res v'∧Ext w (ow X β [(0,⟨false,z,n,fo⟩)]) (sW w b base q F os) (ow X β' [(0,⟨false,z,n,f'⟩)]) ∧
      (∀ o a,β o=some a→β' o=some a)∧(∀ b,ownOf β' [(0,⟨false,z,n,f'⟩)] b→ownOf β [(0,⟨false,z,n,fo⟩)] b∨w.heap.size≤b)∧∀ k,β' k≠none→β k≠none∨(1≤k.o∧k.o<1+32):=by
  have hown:ownOf β [(0,⟨false,z,n,fo⟩)] b:=(own_one _ _ _).2 ⟨_,hβ,rfl⟩
  refine ⟨v,β,rfl,?_,?_,hv _,?_,fun o a h=>h,fun b' h=>.inl ?_,fun k h=>.inl h⟩
  · intro o ob hl
    obtain ⟨rfl,rfl⟩:=look_one hl
    refine .inr (.inl ⟨b,base,_,el,hβ,sW_at hh,?_⟩)
    intro i hi j hj
    change i<n at hi
    change j<z at hj
    show ∃ v,(putCells id base F cells)[base+(i*z+j)]? = some v∧One v∧_
    have hlt:i*z+j<n*z:=by
      have h1:=Nat.mul_le_mul_right z (show i+1≤n from hi)
      rw [Nat.add_mul,Nat.one_mul] at h1
      have h2:j<z:=hj
      omega
    exact ⟨F[i*z+j]!,putCells_in base F cells _ (by omega) (by omega),(hrow i hi j hj).1,(hrow i hi j hj).2 _ _⟩
  · intro o o' ob ob' a a' h1 h2 h3 h4 h5
    obtain ⟨rfl,rfl⟩:=look_one h1
    obtain ⟨rfl,rfl⟩:=look_one h2
    rfl
  · rw [ow_one X β ⟨false,z,n,f'⟩ ⟨false,z,n,fo⟩]
    refine ⟨rfl,rfl,rfl,by rw [sW,size_grow,size_putRow];exact Nat.le_add_right _ _,fun t c hc hn=>?_,fun t c hc h=>h,fun c cs e f h=>?_,fun c es ck h=>?_⟩
    · refine sW_ne (fun h=>hn ?_) hc
      subst h
      exact .inl hown
    · by_cases hcb:c=b
      · subst hcb
        rw [hh] at h
        injection h with h
        injection h with h1 h2 h3
        subst h1
        exact ⟨_,_,_,sW_at hh,by rw [putCells_size];exact Nat.le_refl _⟩
      · have hlt:c<w.heap.size:=by
          rcases Nat.lt_or_ge c w.heap.size with h' | h'
          · exact h'
          · rw [Array.getElem?_eq_none h'] at h;cases h
        exact ⟨cs,e,f,by rw [sW_ne hcb hlt];exact h,Nat.le_refl _⟩
    · by_cases hcb:c=b
      · subst hcb
        rw [hh] at h
        cases h
      · have hlt:c<w.heap.size:=by
          rcases Nat.lt_or_ge c w.heap.size with h' | h'
          · exact h'
          · rw [Array.getElem?_eq_none h'] at h;cases h
        exact ⟨es,ck,by rw [sW_ne hcb hlt];exact h⟩
  · rw [own_one _ _ _ rfl] at h ⊢;exact h
theorem vr_int {w:World} {β:Id→Option Addr} {own:Bool→Nat→Prop} {k:IntKind} {x:Int} {v:Value} (h:VR w β own (.p (.int k x)) v):v=.int k x:=by
  cases h with
  | p _ _ hp=>cases hp;rfl
end Go.Proofs.Ytgabljneilgilaa.Mach
