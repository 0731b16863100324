/- What the law Cs needs, part 4 of 6: the abstract machine and the contracts of the functions. Conditions: as each theorem says. -/
import Derived.WalkKit
import Derived.Test.YtkkjoghiigiokaaGreatCsP3
namespace Go.Proofs.YtkkjoghiigiokaaGreat.Mach
open Go
set_option linter.unusedVariables false
set_option linter.unusedSimpArgs false
def gA (g:Nat→T_Bar) (k:Nat):Nat:=(g k).1.toNat
def gB (g:Nat→T_Bar) (k:Nat):Nat:=(g k).2.1.toNat
def pX (pl:Nat→T_Place) (v:Nat):Int:=(pl v).1
def pY (pl:Nat→T_Place) (v:Nat):Int:=(pl v).2.1
def rgM (g:Nat→T_Bar) (pl:Nat→T_Place):Nat→Nat→Int:=Had.rg (gA g) (gB g) (pX pl) (pY pl)
theorem inB_iff {x a b:Int}:inB x a b=true↔a≤x∧x≤b:=by simp [inB]
theorem fw_parts {g:Nat→T_Bar} {nb:Nat} {N:Int} {pl:Nat→T_Place} {np:Nat} (h:fwB g nb N pl np=true) :
    isGraphF (N,(nb,g),())=true∧N≤6∧nb≤15∧(np:Int)=N∧(∀ i,i<np→(0≤(pl i).1∧(pl i).1≤4)∧(0≤(pl i).2.1∧(pl i).2.1≤4))∧∀ i,i<nb→brP g pl i=true:=by
  unfold fwB at h
  simp only [Bool.and_eq_true,decide_eq_true_eq,all_iff] at h
  obtain ⟨⟨h1,h2,h3,h4⟩,h5,h6⟩:=h
  refine ⟨h1,h2,h3,h4,fun i hi=>?_,h6⟩
  have:=h5 i hi
  unfold plP at this
  cases hb:inB (pl i).1 0 4 with
  | false=>rw [hb] at this;cases this
  | true =>
    rw [hb] at this
    exact ⟨inB_iff.1 hb,inB_iff.1 this⟩
theorem fw_ok {g:Nat→T_Bar} {nb N:Nat} {pl:Nat→T_Place} {np:Nat} (h:fwB g nb N pl np=true) :
    isGraphF ((N:Int),(nb,g),())=true∧N≤6∧nb≤15∧np=N∧OkBars N nb g∧Had.Bars N nb (gA g) (gB g) (pX pl) (pY pl):=by
  obtain ⟨h1,h2,h3,h4,h5,h6⟩:=fw_parts h
  obtain ⟨hN,hnb,hok⟩:=graph_in h1
  have ha:=asc_of h1
  refine ⟨h1,by omega,h3,by omega,hok,⟨by omega,fun k hk=>?_,fun k hk=>?_,fun v hv=>(h5 v (by omega)).1,fun v hv=>(h5 v (by omega)).2,fun k hk=>?_⟩⟩
  · obtain ⟨a1,a2,a3⟩:=hok k hk
    unfold gA gB
    omega
  · obtain ⟨a1,a2,a3⟩:=hok k (by omega)
    obtain ⟨b1,b2,b3⟩:=hok (k+1) hk
    have h7:=(aft_or _ _).1 (ha k hk)
    have h8:=h6 (k+1) hk
    unfold brP eA at h8
    rw [decide_eq_true (show ((k+1:Nat):Int)>0 by omega),show (((k+1:Nat):Int) - 1).toNat=k by omega] at h8
    simp only [cond_true,Bool.and_true] at h8
    have h9:¬ ((g k).1=(g (k+1)).1∧(g k).2.1=(g (k+1)).2.1):=fun ⟨e1,e2⟩=>by
      rw [e1,e2] at h8;simp at h8
    unfold gA gB
    omega
  · have h8:=h6 k hk
    unfold brP at h8
    have h9:eB g pl k=false:=by
      cases he:eB g pl k with
      | false=>rfl
      | true =>
        rw [he] at h8
        cases hx:(bif decide ((k:Int)>0) then eA g k else false)<;>rw [hx] at h8<;>cases h8
    unfold eB at h9
    unfold pX pY gA gB
    by_cases e1:(pl (g k).1.toNat).1=(pl (g k).2.1.toNat).1
    · by_cases e2:(pl (g k).1.toNat).2.1=(pl (g k).2.1.toNat).2.1
      · rw [e1,e2] at h9;simp at h9
      · exact .inr e2
    · exact .inl e1
theorem tog {c1 c2 c3 c4:Prop} [Decidable c1] [Decidable c2] [Decidable c3] [Decidable c4] (a1 a2 a3 a4:Int) :
    toP (List.getD ((if c1 then [.p (.int .i64 a1)] else (if c2 then [.p (.int .i64 a2)] else (if c3 then [.p (.int .i64 a3)] else (if c4 then [.p (.int .i64 a4)] else [.p (.int .i64 0)])))):List AV) 0 (.p .any)) =
      .int .i64 (if c1 then a1 else if c2 then a2 else if c3 then a3 else if c4 then a4 else 0):=by
  repeat' split
  all_goals rfl
theorem chain_i {a b xA xB yA yB:Int} (h0:0≤a) (h1:a<b) (r:Nat) :
    (if r=(2*b+1).toNat then yB - yA else if r=(2*b).toNat then xB - xA else if r=(2*a+1).toNat then yA - yB else if r=(2*a).toNat then xA - xB else 0)=Had.rv (xA - xB) (yA - yB) a.toNat b.toNat r:=by
  unfold Had.rv
  repeat' split
  all_goals omega
theorem chain_s {a b dx dy:Int} (h0:0≤a) (h1:a<b) (r:Nat) :
    (if r=(2*b+1).toNat then 0 - dy else if r=(2*b).toNat then 0 - dx else if r=(2*a+1).toNat then dy else if r=(2*a).toNat then dx else 0)=Had.rv dx dy a.toNat b.toNat r:=by
  unfold Had.rv
  repeat' split
  all_goals omega
theorem con_RM_i {g:Nat→T_Bar} {nb N:Nat} {pl:Nat→T_Place} {np:Nat} (h:fwB g nb N pl np=true) :
    zE 235 [frA g nb N pl np] [(0,ooOb 1 nb (cM (2*N) (rgM g pl))),(1,ffOb nb (cM (2*N) (rgM g pl)))] (.ar 1 0 0 nb):=by
  obtain ⟨h1,h2,h3,h4,hok,hb⟩:=fw_ok h
  have cf:=con_IsFramework_i g nb N pl np (by omega)
  rw [h] at cf
  refine csZ Tryz.func235 (fun c hc=>?_)
  have lo:∀ d i,i+d=nb→zR c 235 zf73 (RmI g nb N pl np (rgM g pl) i) (Post c [(0,ooOb 1 nb (cM (2*N) (rgM g pl))),(1,ffOb nb (cM (2*N) (rgM g pl)))] (.ar 1 0 0 nb)):=by
    intro d
    induction d with
    | zero =>
      intro i hi
      obtain rfl:i=nb:=by omega
      have hd:decide ((i:Int)<(i:Int))=false:=decide_eq_false (by omega)
      refine pkZ Tryz.func235 hc (rme g i N pl np (rgM g pl) i) ?_
      and_intros
      iterate 2 all_goals (first | exact zN | (exact hd) | (intro t ht;simp [All];done) | simp only [All])
    | succ d ih =>
      intro i hi
      have hd:decide ((i:Int)<(nb:Int))=true:=decide_eq_true (by omega)
      obtain ⟨o1,o2,o3⟩:=hok i (by omega)
      have q1:=hb.gx (gA g i) (by unfold gA;omega)
      have q2:=hb.gx (gB g i) (by unfold gB;omega)
      have q3:=hb.gy (gA g i) (by unfold gA;omega)
      have q4:=hb.gy (gB g i) (by unfold gB;omega)
      unfold pX gA at q1
      unfold pX gB at q2
      unfold pY gA at q3
      unfold pY gB at q4
      have hrow:∀ r,(if r=(2*(g i).2.1+1).toNat then (pl (g i).2.1.toNat).2.1 - (pl (g i).1.toNat).2.1 else if r=(2*(g i).2.1).toNat then (pl (g i).2.1.toNat).1 - (pl (g i).1.toNat).1 else if r=(2*(g i).1+1).toNat then (pl (g i).1.toNat).2.1 - (pl (g i).2.1.toNat).2.1 else if r=(2*(g i).1).toNat then (pl (g i).1.toNat).1 - (pl (g i).2.1.toNat).1 else 0)=rgM g pl i r :=
        fun r=>chain_i o1 o2 r
      refine pcD hc (rmt g nb N pl np (rgM g pl) i) ?_ (ih (i+1) (by omega))
      repeat' (first | exact aN | apply aI)
      iterate 2 all_goals (first | exact zH | (exact hd) | (intro t ht;by_cases h':t<i;exact ⟨by simp [h',cvtL,cvt,tg,tru,idx,idx1,idO,idM,All,Nat.ne_of_lt h'],by simp [h',cvtL,cvt,tg,tru,idx,idx1,idO,idM]⟩;rw [show t=i by omega];exact ⟨by simp [cvtL,cvt,tg,tru,idx,idx1,idO,idM,All],by simp [cvtL,cvt,tg,tru,idx,idx1,idO,idM]⟩) | (intro t ht hne;exact ⟨by omega,by simp [All]⟩) | (intro _;simp only [All,cM];exact ⟨trivial,Nat.le_refl _,fun r hr=>by rw [tog,hrow],trivial⟩) | (intro t ht;simp [All];done) | simp only [All])
  refine pcD hc (rmz g nb N pl np (rgM g pl)) ?_ (lo nb 0 (by omega))
  and_intros
  iterate 2 all_goals (first | exact zN | (exact cf) | (intro t ht;exact absurd ht (Nat.not_lt_zero _)) | (intro t ht;simp [All];done) | simp only [All])
theorem con_RM_s {g:Nat→T_Bar} {nb N:Nat} {pl:Nat→T_Place} {np:Nat} (h:fwB g nb N pl np=true) :
    zE 227 [frA g nb N pl np] [(0,ooOb 1 nb (cM (2*N) (rgM g pl))),(1,ffOb nb (cM (2*N) (rgM g pl)))] (.ar 1 0 0 nb):=by
  obtain ⟨h1,h2,h3,h4,hok,hb⟩:=fw_ok h
  have cf:=con_IsFramework_s g nb N pl np (by omega)
  rw [h] at cf
  refine csZ Tryz.func227 (fun c hc=>?_)
  have lo:∀ d i,i+d=nb→zR c 227 zf88 (RmS g nb N pl np (rgM g pl) i) (Post c [(0,ooOb 1 nb (cM (2*N) (rgM g pl))),(1,ffOb nb (cM (2*N) (rgM g pl)))] (.ar 1 0 0 nb)):=by
    intro d
    induction d with
    | zero =>
      intro i hi
      obtain rfl:i=nb:=by omega
      have hd:decide ((i:Int)<(i:Int))=false:=decide_eq_false (by omega)
      refine pkD Tryz.func227 hc (rse g i N pl np (rgM g pl) i) ?_
      and_intros
      iterate 2 all_goals (first | exact zI | (rw [hd];rfl) | (intro h;exact h) | (intro h;rw [hd] at h;cases h) | (intro t ht;simp [All];done) | simp only [All])
    | succ d ih =>
      intro i hi
      have hd:decide ((i:Int)<(nb:Int))=true:=decide_eq_true (by omega)
      obtain ⟨o1,o2,o3⟩:=hok i (by omega)
      have q1:=hb.gx (gA g i) (by unfold gA;omega)
      have q2:=hb.gx (gB g i) (by unfold gB;omega)
      have q3:=hb.gy (gA g i) (by unfold gA;omega)
      have q4:=hb.gy (gB g i) (by unfold gB;omega)
      unfold pX gA at q1
      unfold pX gB at q2
      unfold pY gA at q3
      unfold pY gB at q4
      have hrow:∀ r,(if r=(2*(g i).2.1+1).toNat then 0 - ((pl (g i).1.toNat).2.1 - (pl (g i).2.1.toNat).2.1) else if r=(2*(g i).2.1).toNat then 0 - ((pl (g i).1.toNat).1 - (pl (g i).2.1.toNat).1) else if r=(2*(g i).1+1).toNat then (pl (g i).1.toNat).2.1 - (pl (g i).2.1.toNat).2.1 else if r=(2*(g i).1).toNat then (pl (g i).1.toNat).1 - (pl (g i).2.1.toNat).1 else 0)=rgM g pl i r :=
        fun r=>chain_s o1 o2 r
      refine pcD hc (rst g nb N pl np (rgM g pl) i) ?_ (ih (i+1) (by omega))
      repeat' (first | exact aN | apply aI)
      iterate 2 all_goals (first | exact zH | (rw [hd];rfl) | (intro _;exact cf) | (intro t ht;by_cases h':t<i;exact ⟨by simp [h',cvtL,cvt,tg,tru,idx,idx1,idO,idM,All,Nat.ne_of_lt h'],by simp [h',cvtL,cvt,tg,tru,idx,idx1,idO,idM]⟩;rw [show t=i by omega];exact ⟨by simp [cvtL,cvt,tg,tru,idx,idx1,idO,idM,All],by simp [cvtL,cvt,tg,tru,idx,idx1,idO,idM]⟩) | (intro t ht hne;exact ⟨by omega,by simp [All]⟩) | (intro _;simp only [All,cM];exact ⟨trivial,Nat.le_refl _,fun r hr=>by rw [tog,hrow],trivial⟩) | (intro h;exact h) | (intro t ht;simp [All];done) | simp only [All])
  refine pcZ hc (rsz g nb N pl np (rgM g pl)) ?_ (lo nb 0 (by omega))
  and_intros
  iterate 2 all_goals (first | exact zN | (intro t ht;exact absurd ht (Nat.not_lt_zero _)) | (intro t ht;simp [All];done) | simp only [All])
theorem con_rank {n m rmx:Nat} {B:Int} {M:Nat→Nat→Int} {K:Nat→Nat→(Nat→Nat→Int)→Prop} (hn:n≤1000) (hm:m≤1000) (hB:1≤B) (hM:B ^ (2*rmx)≤2 ^ 124)
    (hok:∀ c,c≤n→Had.ROK n m rmx B K c (Had.rrun m (Had.rini M) c)) :
    zE 234 [ssA2 m (cM n M),.p (.int .i64 n)] [] (.p (.int .i64 (Had.rrun m (Had.rini M) n).r)):=by
  have cr:=con_reduced hn hm hB hM hok rfl
  generalize Had.rrun m (Had.rini M) n=S at cr ⊢
  refine csZ Tryz.func234 (fun c hc=>?_)
  refine pkZ Tryz.func234 hc (rkI n m M S.A S.r (fun i=>(S.p i:Int)) S.d) ?_
  and_intros
  all_goals (first | exact zN | (exact cr) | rfl)
def rkF (g:Nat→T_Bar) (nb N:Nat) (pl:Nat→T_Place):Nat:=(Had.rrun nb (Had.rini (rgM g pl)) (2*N)).r
def frK (g:Nat→T_Bar) (nb:Nat) (N:Int) (pl:Nat→T_Place) (np:Nat):Int:=if fwB g nb N pl np=true then (rkF g nb N.toNat pl:Int) else -1
theorem fw_N {g:Nat→T_Bar} {nb:Nat} {N:Int} {pl:Nat→T_Place} {np:Nat} (h:fwB g nb N pl np=true):∃ n:Nat,N=n:=by
  obtain ⟨h1,_⟩:=fw_parts h
  have:=(graph_inR h1).1
  exact ⟨N.toNat,by have:(1:Int)≤N:=this;omega⟩
theorem con_FrRank_i (g:Nat→T_Bar) (nb:Nat) (N:Int) (pl:Nat→T_Place) (np:Nat) (hn:nb≤1048576∧np≤1048576) :
    zE 130 [frA g nb N pl np] [] (.p (.int .i64 (frK g nb N pl np))):=by
  have cf:=con_IsFramework_i g nb N pl np hn
  unfold frK
  cases hf:fwB g nb N pl np with
  | false =>
    rw [hf] at cf
    rw [if_neg Bool.false_ne_true]
    refine csZ Tryz.func130 (fun c hc=>?_)
    refine pkZ Tryz.func130 hc (frN g nb N pl np) ?_
    and_intros
    all_goals (first | exact zN | (exact cf) | rfl)
  | true =>
    rw [hf] at cf
    rw [if_pos rfl]
    obtain ⟨n,rfl⟩:=fw_N hf
    obtain ⟨h1,h2,h3,h4,hok,hb⟩:=fw_ok hf
    have cm:=con_RM_i hf
    have cr:=con_rank (n:=2*n) (m:=nb) (M:=rgM g pl) (by omega) (by omega) (by decide) Had.big64 (fun c hc=>hb.red c hc)
    rw [show ((2*n:Nat):Int)=2*(n:Int) by omega] at cr
    show Con _ _ _ _ _ _ (.p (.int .i64 ((Had.rrun nb (Had.rini (rgM g pl)) (2*n)).r:Nat)))
    generalize (Had.rrun nb (Had.rini (rgM g pl)) (2*n)).r=r at *
    refine csZ Tryz.func130 (fun c hc=>?_)
    refine pkZ Tryz.func130 hc (frR g nb n pl np (rgM g pl) r) ?_
    repeat' (first | exact aN | apply aI)
    iterate 2 all_goals (first | exact zN | (exact cf) | (exact cm) | (exact cr) | rfl | (intro t ht;simp only [All];exact ⟨ht,trivial,Nat.le_refl _,trivial⟩) | (intro t ht;simp [All];omega) | simp only [All])
theorem con_FrRank_s (g:Nat→T_Bar) (nb:Nat) (N:Int) (pl:Nat→T_Place) (np:Nat) (hn:nb≤1048576∧np≤1048576) :
    zE 119 [frA g nb N pl np] [] (.p (.int .i64 (frK g nb N pl np))):=by
  have cf:=con_IsFramework_s g nb N pl np hn
  unfold frK
  cases hf:fwB g nb N pl np with
  | false =>
    rw [hf] at cf
    rw [if_neg Bool.false_ne_true]
    refine csZ Tryz.func119 (fun c hc=>?_)
    refine pkZ Tryz.func119 hc (fsM g nb N pl np) ?_
    and_intros
    all_goals (first | exact zN | (exact cf) | rfl)
  | true =>
    rw [hf] at cf
    rw [if_pos rfl]
    obtain ⟨n,rfl⟩:=fw_N hf
    obtain ⟨h1,h2,h3,h4,hok,hb⟩:=fw_ok hf
    have cm:=con_RM_s hf
    have cr:=con_l9Reduced (n:=2*n) (m:=nb) (M:=rgM g pl) (by omega) (by omega) (by decide) Had.big64 (by decide) (fun c hc=>hb.red c hc) rfl
    show Con _ _ _ _ _ _ (.p (.int .i64 ((Had.rrun nb (Had.rini (rgM g pl)) (2*n)).r:Nat)))
    generalize Had.rrun nb (Had.rini (rgM g pl)) (2*n)=S at *
    refine csZ Tryz.func119 (fun c hc=>?_)
    refine pkZ Tryz.func119 hc (fsR g nb n pl np (rgM g pl) (fun i=>Had.prm (2*n) (S.A i)) S.r (fun i=>(S.p i:Int))) ?_
    repeat' (first | exact aN | apply aI)
    iterate 2 all_goals (first | exact zN | (exact cf) | (exact cm) | (exact cr) | rfl | (intro t ht;simp only [All];exact ⟨ht,trivial,Nat.le_refl _,trivial⟩) | (intro t ht;simp [All];omega) | simp only [All])
end Go.Proofs.YtkkjoghiigiokaaGreat.Mach
namespace Go.Proofs.YtkkjoghiigiokaaGreat.Had
def rwi (p:Nat→Nat):Nat→Nat→Int
  | 0,_=>-1
  | r+1,k=>if k=p r then (r:Int) else rwi p r k
theorem rwi_lt (p:Nat→Nat):∀ r k,-1≤rwi p r k∧rwi p r k<r
  | 0,k=>by unfold rwi;omega
  | r+1,k=>by
    unfold rwi
    split
    · omega
    · have:=rwi_lt p r k;omega
theorem rwi_p (p:Nat→Nat):∀ r k,0≤rwi p r k→p (rwi p r k).toNat=k
  | 0,k,h=>by unfold rwi at h;omega
  | r+1,k,h=>by
    unfold rwi at h ⊢
    split
    · rename_i hk;rw [hk];rfl
    · rename_i hk;rw [if_neg hk] at h;exact rwi_p p r k h
theorem rwi_no (p:Nat→Nat):∀ r k,rwi p r k<0→∀ i,i<r→p i≠k
  | r+1,k,h,i,hi=>by
    unfold rwi at h
    split at h
    · omega
    · rename_i hk
      by_cases h1:i=r
      · rw [h1];exact fun e=>hk e.symm
      · exact rwi_no p r k h i (by omega)
theorem rwi_at {p:Nat→Nat} {r:Nat} (h:∀ i j,i<j→j<r→p i<p j) {i:Nat} (hi:i<r):rwi p r (p i)=i:=by
  have h1:=rwi_lt p r (p i)
  by_cases h0:0≤rwi p r (p i)
  · have h2:=rwi_p p r (p i) h0
    rcases Nat.lt_trichotomy (rwi p r (p i)).toNat i with h3 | h3 | h3
    · have:=h _ _ h3 hi;omega
    · omega
    · have:=h _ _ h3 (by omega);omega
  · exact absurd rfl (rwi_no p r (p i) (by omega) i hi)
def nvk (A:Nat→Ve) (r:Nat) (p:Nat→Nat) (d:Int) (c k:Nat):Ve:=fun j=>if j<k∧0≤rwi p r j then -(A (rwi p r j).toNat c) else if j=c then d else 0
def svk (O:Nat→Ve) (p:Nat→Nat) (d:Int) (c i:Nat):Ve:=fun j=>if 0≤rwi p i j then -((O (rwi p i j).toNat c*d).tdiv (O (rwi p i j).toNat (p (rwi p i j).toNat))) else if j=c then d else 0
def qv (O:Nat→Ve) (p:Nat→Nat) (c i:Nat):Nat:=(O i (p i)).natAbs / Nat.gcd (O i (p i)).natAbs (O i c).natAbs
def lcf (O:Nat→Ve) (p:Nat→Nat) (c:Nat):Nat→Nat
  | 0=>1
  | i+1=>Nat.lcm (lcf O p c i) (qv O p c i)
theorem lcm_is (d q:Nat) (h:0<Nat.gcd d q):d / Nat.gcd d q*q=Nat.lcm d q:=by
  obtain ⟨t,ht⟩:=Nat.gcd_dvd_left d q
  generalize hg:Nat.gcd d q=g at *
  unfold Nat.lcm
  rw [hg,ht,Nat.mul_div_cancel_left _ h,Nat.mul_assoc,Nat.mul_div_cancel_left _ h]
theorem q_dvd {a b:Int}:a.natAbs / Nat.gcd a.natAbs b.natAbs ∣ a.natAbs:=Nat.div_dvd_of_dvd (Nat.gcd_dvd_left _ _)
theorem q_pos {a b:Int} (h:a≠0):0<a.natAbs / Nat.gcd a.natAbs b.natAbs:=Nat.div_pos (Nat.le_of_dvd (by omega) (Nat.gcd_dvd_left _ _)) (Nat.gcd_pos_of_pos_left _ (by omega))
theorem dvd_bd {a b:Int} {d:Nat} (h:a.natAbs / Nat.gcd a.natAbs b.natAbs ∣ d):a ∣ b*(d:Int):=by
  rw [← Int.natAbs_dvd_natAbs,Int.natAbs_mul,Int.natAbs_natCast]
  obtain ⟨s,hs⟩:=Nat.gcd_dvd_right a.natAbs b.natAbs
  obtain ⟨t,ht⟩:=h
  have e:a.natAbs=Nat.gcd a.natAbs b.natAbs*(a.natAbs / Nat.gcd a.natAbs b.natAbs):=(Nat.mul_div_cancel' (Nat.gcd_dvd_left _ _)).symm
  generalize Nat.gcd a.natAbs b.natAbs=g at *
  generalize a.natAbs / g=q at *
  rw [hs,ht,e]
  exact ⟨s*t,by ac_rfl⟩
section
variable {n m r:Nat} {B:Int} {A:Nat→Ve} {p:Nat→Nat} {d:Int}
theorem Bar.prm_p (h:Bar n m B A r p d) {i:Nat} (hi:i<r) (k:Nat) (hk:k<n):prm n (A i) (p i)≠0∧prm n (A i) k*d=A i k*prm n (A i) (p i)∧(prm n (A i) (p i)).natAbs ∣ d.natAbs:=by
  obtain ⟨s,s1,s2⟩:=prm_mul n (A i)
  have hp:=h.pn hi
  have hd:A i (p i)=d:=by rw [h.at_p hi hi,if_pos rfl]
  have e:=s2 (p i) hp
  rw [hd] at e
  refine ⟨fun h0=>?_,?_,?_⟩
  · rw [h0] at e;exact h.d0 (by omega)
  · rw [s2 k hk,e];grind
  · rw [e,Int.natAbs_mul];exact ⟨_,Nat.mul_comm _ _⟩
theorem Bar.lcf_dvd (h:Bar n m B A r p d) (c:Nat) (hc:c<n):∀ i,i≤r→lcf (fun i=>prm n (A i)) p c i ∣ d.natAbs∧0<lcf (fun i=>prm n (A i)) p c i
  | 0,_=>⟨⟨_,(Nat.one_mul _).symm⟩,Nat.one_pos⟩
  | i+1,hi=>by
    obtain ⟨h1,h2⟩:=h.lcf_dvd c hc i (by omega)
    obtain ⟨g1,_,g3⟩:=h.prm_p (i:=i) (by omega) c hc
    rw [lcf]
    exact ⟨Nat.lcm_dvd h1 (Nat.dvd_trans q_dvd g3),Nat.lcm_pos h2 (q_pos g1)⟩
theorem lcf_q (O:Nat→Ve) (p:Nat→Nat) (c:Nat):∀ i j,j<i→qv O p c j ∣ lcf O p c i
  | i+1,j,hj=>by
    rw [lcf]
    by_cases h:j=i
    · rw [h];exact Nat.dvd_lcm_right _ _
    · exact Nat.dvd_trans (lcf_q O p c i j (by omega)) (Nat.dvd_lcm_left _ _)
theorem Bar.null (h:Bar n m B A r p d) {c:Nat} (hc:c<n) {k:Nat} (hk:k<n) :
    prm n (svk (fun i=>prm n (A i)) p (lcf (fun i=>prm n (A i)) p c r) c r) k=prm n (nvk A r p d c n) k:=by
  obtain ⟨h1,h2⟩:=h.lcf_dvd c hc r (Nat.le_refl _)
  refine prm_eq (s:=d) (t:=(lcf (fun i=>prm n (A i)) p c r:Int)) h.d0 (by omega) (fun j hj=>?_) hk
  unfold svk nvk
  by_cases h0:0≤rwi p r j
  · rw [if_pos h0,if_pos ⟨hj,h0⟩]
    have hi:(rwi p r j).toNat<r:=by have:=rwi_lt p r j;omega
    generalize (rwi p r j).toNat=i at hi
    obtain ⟨g1,g2,_⟩:=h.prm_p hi c hc
    have hq:=lcf_q (fun i=>prm n (A i)) p c r i hi
    generalize lcf (fun i=>prm n (A i)) p c r=L at *
    show d * -((prm n (A i) c*(L:Int)).tdiv (prm n (A i) (p i)))=_
    obtain ⟨z,hz⟩:=dvd_bd (a:=prm n (A i) (p i)) (b:=prm n (A i) c) (d:=L) hq
    rw [hz,Int.mul_tdiv_cancel_left _ g1]
    have e:prm n (A i) (p i)*(d*z)=prm n (A i) (p i)*(L*A i c):=by
      have e1:prm n (A i) (p i)*(d*z)=d*(prm n (A i) (p i)*z):=by grind
      rw [e1,← hz]
      have e2:d*(prm n (A i) c*(L:Int))=(prm n (A i) c*d)*L:=by grind
      rw [e2,g2];grind
    have:=Int.eq_of_mul_eq_mul_left g1 e
    grind
  · rw [if_neg h0,if_neg (show ¬ (j<n∧0≤rwi p r j) from fun h'=>h0 h'.2)]
    by_cases e:j=c
    · rw [if_pos e,if_pos e];exact Int.mul_comm _ _
    · rw [if_neg e,if_neg e];omega
end
def nsl (P:Nat→Bool) (vec:Nat→Ve):Nat→Nat×(Nat→Ve)
  | 0=>(0,fun _ _=>0)
  | c+1=>if P c=true then nsl P vec c else ((nsl P vec c).1+1,fun j=>if j<(nsl P vec c).1 then (nsl P vec c).2 j else vec c)
theorem nsl_le (P:Nat→Bool) (vec:Nat→Ve):∀ c,(nsl P vec c).1≤c
  | 0=>Nat.le_refl _
  | c+1=>by
    have:=nsl_le P vec c
    unfold nsl
    split
    · omega
    · show (nsl P vec c).1+1≤_;omega
theorem nsl_t {P:Nat→Bool} {vec:Nat→Ve} {c:Nat} (h:P c=true):nsl P vec (c+1)=nsl P vec c:=by rw [nsl,if_pos h]
theorem nsl_f {P:Nat→Bool} {vec:Nat→Ve} {c:Nat} (h:P c=false):nsl P vec (c+1)=((nsl P vec c).1+1,fun j=>if j<(nsl P vec c).1 then (nsl P vec c).2 j else vec c):=by
  rw [nsl,if_neg (by rw [h];exact Bool.false_ne_true)]
theorem nsl_mem {P:Nat→Bool} {vec:Nat→Ve}:∀ c j,j<(nsl P vec c).1→∃ k,k<c∧P k=false∧(nsl P vec c).2 j=vec k
  | 0,j,h=>absurd h (Nat.not_lt_zero _)
  | c+1,j,h=>by
    cases hp:P c with
    | true =>
      rw [nsl_t hp] at h ⊢
      obtain ⟨k,k1,k2,k3⟩:=nsl_mem c j h
      exact ⟨k,by omega,k2,k3⟩
    | false =>
      rw [nsl_f hp] at h ⊢
      have h:j<(nsl P vec c).1+1:=h
      show ∃ k,k<c+1∧P k=false∧(if j<(nsl P vec c).1 then (nsl P vec c).2 j else vec c)=vec k
      by_cases hj:j<(nsl P vec c).1
      · rw [if_pos hj]
        obtain ⟨k,k1,k2,k3⟩:=nsl_mem c j hj
        exact ⟨k,by omega,k2,k3⟩
      · rw [if_neg hj];exact ⟨c,by omega,hp,rfl⟩
def nulV (n:Nat) (S:RS) (c:Nat):Ve:=prm n (nvk S.A S.r S.p S.d c n)
def nulP (S:RS) (c:Nat):Bool:=decide (0≤rwi S.p S.r c)
def nul (n m:Nat) (M:Nat→Ve):Nat×(Nat→Ve):=nsl (nulP (rrun m (rini M) n)) (nulV n (rrun m (rini M) n)) n
end Go.Proofs.YtkkjoghiigiokaaGreat.Had
namespace Go.Proofs.YtkkjoghiigiokaaGreat.Mach
open Go
set_option linter.unusedVariables false
set_option linter.unusedSimpArgs false
def nH (n m:Nat) (M:Nat→Nat→Int) (r:Nat) (p:Nat→Int) (R:Nat→Int):Hp:=[(0,ooOb 1 m (cM n M)),(1,ffOb m (cM n M)),(2,iOb r p),(3,iOb n R)]
def N0 (n m:Nat) (M:Nat→Nat→Int) (r:Nat) (p:Nat→Int) (d:Int) (i:Nat) (R:Nat→Int):St :=
  ⟨[.p .any,.p (.int .i64 n),.p .any,.p .any,.p .any,.ar 1 0 0 m,.ar 1 2 0 r,.p (.int .i64 d),.ar 1 3 0 n]++List.replicate 17 anyA++[.p (.int .i64 n),.p (.int .i64 i)]++List.replicate 65 anyA,nH n m M r p R,4⟩
def N1 (n m:Nat) (M:Nat→Nat→Int) (r:Nat) (p:Nat→Int) (d:Int) (i:Nat) (R:Nat→Int):St :=
  ⟨[.p .any,.p (.int .i64 n),.p .any,.p .any,.p .any,.ar 1 0 0 m,.p .any,.p (.int .i64 d),.ar 1 3 0 n]++List.replicate 25 anyA++[.ar 1 2 0 r,.p (.int .i64 r),.p (.int .i64 i)]++List.replicate 56 anyA,nH n m M r p R,4⟩
def nK (n m:Nat) (M:Nat→Nat→Int) (R:Nat→Int) (q:Nat) (W:Nat→Nat→Int):Hp:=[(0,ooOb 1 m (cM n M)),(1,ffOb m (cM n M)),(2,iOb n R),(3,ooOb 4 q (cM n W)),(4,ffOb q (cM n W))]
def N2 (n m:Nat) (M:Nat→Nat→Int) (d:Int) (R:Nat→Int) (c q:Nat) (W:Nat→Nat→Int):St :=
  ⟨[.p .any,.p (.int .i64 n),.p .any,.p .any,.p .any,.ar 1 0 0 m,.p .any,.p (.int .i64 d),.ar 1 2 0 n,.p .any,.p .any,.p .any,.ar 1 3 0 q]++List.replicate 34 anyA++[.p (.int .i64 n),.p (.int .i64 c)]++List.replicate 44 anyA,nK n m M R q W,5⟩
def N3 (n m:Nat) (M:Nat→Nat→Int) (d:Int) (R:Nat→Int) (c q:Nat) (W:Nat→Nat→Int) (k:Nat) (v:Nat→Int):St :=
  ⟨[.p .any,.p (.int .i64 n),.p .any,.p .any,.p .any,.ar 1 0 0 m,.p .any,.p (.int .i64 d),.ar 1 2 0 n,.p .any,.p .any,.p .any,.ar 1 3 0 q,.p (.int .i64 c),.ar 1 5 0 n]++List.replicate 32 anyA++[.p (.int .i64 n),.p (.int .i64 c)]++List.replicate 13 anyA++[.p (.int .i64 n),.p (.int .i64 k)]++List.replicate 29 anyA,nK n m M R q W++[(5,iOb n v)],6⟩
def sK (n m:Nat) (M:Nat→Nat→Int) (r:Nat) (p:Nat→Int) (q:Nat) (W:Nat→Nat→Int):Hp:=[(0,ooOb 1 m (cM n M)),(1,ffOb m (cM n M)),(2,iOb r p),(3,ooOb 4 q (cM n W)),(4,ffOb q (cM n W))]
def L0 (n m:Nat) (M:Nat→Nat→Int) (r:Nat) (p:Nat→Int) (c q:Nat) (W:Nat→Nat→Int):St :=
  ⟨[.p .any,.p (.int .i64 n),.p .any,.p .any,.p .any,.ar 1 3 0 q,.ar 1 0 0 m,.ar 1 2 0 r,.p (.int .i64 c)]++List.replicate 111 anyA,sK n m M r p q W,5⟩
def L1 (n m:Nat) (M:Nat→Nat→Int) (r:Nat) (p:Nat→Int) (c q:Nat) (W:Nat→Nat→Int) (d:Int) (i:Nat):St :=
  ⟨[.p .any,.p (.int .i64 n),.p .any,.p .any,.p .any,.ar 1 3 0 q,.ar 1 0 0 m,.ar 1 2 0 r,.p (.int .i64 c),.p (.int .i64 d),.p (.int .i64 i)]++List.replicate 109 anyA,sK n m M r p q W,5⟩
def L2 (n m:Nat) (M:Nat→Nat→Int) (r:Nat) (p:Nat→Int) (c q:Nat) (W:Nat→Nat→Int) (d:Int) (v:Nat→Int) (i:Nat):St :=
  ⟨[.p .any,.p (.int .i64 n),.p .any,.p .any,.p .any,.ar 1 3 0 q,.ar 1 0 0 m,.ar 1 2 0 r,.p (.int .i64 c),.p (.int .i64 d),.p .any,.p .any,.p .any,.ar 1 5 0 n,.p (.int .i64 i)]++List.replicate 105 anyA,sK n m M r p q W++[(5,iOb n v)],6⟩
theorem nz (n m:Nat) (M0 M:Nat→Nat→Int) (r:Nat) (p:Nat→Int) (d:Int) (R:Nat→Int) :
    zT Tryz.f318 [rg 1,rm [(2,oc (mH n m M r p) (.tup [.ar 1 0 0 m,.ar 1 2 0 r,.p (.int .i64 d)]))] 7,rg 3,rg 3,.head] [ssA2 m (cM n M0),.p (.int .i64 n)] [96,97,98,384] (N0 n m M r p d 0 R) =
    some (zf74,[zE 317 [.p (.seq true 1 m (fun i=>[.seq true 1 n (fun i_1=>[.int .i64 ((cM n M0 i).2 i_1)])])),.p (.int .i64 (↑n:Int))] [(0,⟨false,1,m,(fun i=>[.ar 1 ⟨1,some i⟩ 0 n])⟩),(1,⟨true,0,m,(fun i=>[.p (.seq false 1 n (fun i_1=>[.int .i64 ((cM n M i).2 i_1)]))])⟩),(2,⟨false,1,r,(fun i=>[.p (.int .i64 (p i))])⟩)] (.tup [.ar 1 0 0 m,.ar 1 2 0 r,.p (.int .i64 d)]),(IL 0 (↑n:Int)),(IL (↑n:Int) (↑n:Int)),(IL ((↑n:Int)*(↑8:Int)) 281474976710656),(ZHi (↑n:Int)),(AI ((↑n:Int))),(AN 0),(AN m),(AN 0),(AN r),(AI d),(AN 0),(AN n),(AI ((↑n:Int))),((0:Int)=(↑0:Int)),(AN 1),(NL m m),(AA m (fun i=>[.ar 1 ⟨1,some i⟩ 0 n])),(NL m m),(∀ i:Nat,(((i:Nat)<m)→All [(AN 1),((n:Nat)≤n),(AP n (fun r_1=>[.int .i64 ((cM n M i).2 r_1)]))])),(AN 1),(NL r r),(AA r (fun i=>[.p (.int .i64 (p i))])),(AN 1),(NL n n),(∀ i:Nat,(((i:Nat)<n)→(All []∧(([.p (.int .i64 0)]:List AV)=[.p (.int .i64 (R i))]))))]):=by kernel_rfl
theorem na (n m:Nat) (M:Nat→Nat→Int) (r:Nat) (p:Nat→Int) (d:Int) (i:Nat) (R R':Nat→Int) :
    zM 0 [rg 1,.dec true,rg 2,rg 4,rg 2,.head] zf74 (N0 n m M r p d i R) [0,1,2,3] 1 (N0 n m M r p d (i+1) R') =
    some (zf74,[((decide ((↑i:Int)<(↑n:Int)))=true),(IL 0 (↑i:Int)),(IT (↑i:Int) (↑n:Int)),(NT i n),((false=true)→ ((n:Nat)=1)),(ZLo ((↑i:Int)+1)),(ZHi ((↑i:Int)+1)),(AI ((↑n:Int))),(AN 0),(AN m),(AN 0),(AN r),(AI d),(AN 0),(AN n),(AI ((↑n:Int))),((((↑i:Int)+1):Int)=(↑(i+1):Int)),(AN 1),(NL m m),(AA m (fun i_1=>[.ar 1 ⟨1,some i_1⟩ 0 n])),(NL m m),(∀ i_1:Nat,(((i_1:Nat)<m)→All [(AN 1),((n:Nat)≤n),(AP n (fun r_1=>[.int .i64 ((cM n M i_1).2 r_1)]))])),(AN 1),(NL r r),(AA r (fun i_1=>[.p (.int .i64 (p i_1))])),(AN 1),(NL n n),(CV [(3,⟨false,1,n,(fun i_2=>(if (i_2=i) then [.p (.int .i64 (-1))] else [.p (.int .i64 (R i_2))]))⟩),(0,⟨false,1,m,(fun i_2=>[.ar 1 ⟨1,some i_2⟩ 0 n])⟩),(1,⟨true,0,m,(fun i_2=>[.p (.seq false 1 n (fun i_3=>[.int .i64 ((cM n M i_2).2 i_3)]))])⟩),(2,⟨false,1,r,(fun i_2=>[.p (.int .i64 (p i_2))])⟩)] [0,1,2,3] 1 n (fun i_1=>if (i_1=i) then [.p (.int .i64 (-1))] else [.p (.int .i64 (R i_1))]) (fun i_1=>[.p (.int .i64 (R' i_1))]))]):=by kernel_rfl
theorem nb (n m:Nat) (M:Nat→Nat→Int) (r:Nat) (p:Nat→Int) (d:Int) (i:Nat) (R R':Nat→Int) :
    zM 0 [rg 1,.dec false,rg 3,.head] zf74 (N0 n m M r p d i R) [0,1,2,3] 1 (N1 n m M r p d 0 R') =
    some (zf65,[((decide ((↑i:Int)<(↑n:Int)))=false),(AI ((↑n:Int))),(AN 0),(AN m),(AI d),(AN 0),(AN n),(AN 0),(AN r),(AI ((↑r:Int))),((0:Int)=(↑0:Int)),(AN 1),(NL m m),(AA m (fun i_1=>[.ar 1 ⟨1,some i_1⟩ 0 n])),(NL m m),(∀ i_1:Nat,(((i_1:Nat)<m)→All [(AN 1),((n:Nat)≤n),(AP n (fun r_1=>[.int .i64 ((cM n M i_1).2 r_1)]))])),(AN 1),(NL r r),(AA r (fun i_1=>[.p (.int .i64 (p i_1))])),(AN 1),(NL n n),(∀ i_1:Nat,(((i_1:Nat)<n)→(All []∧(([.p (.int .i64 (R i_1))]:List AV)=[.p (.int .i64 (R' i_1))]))))]):=by kernel_rfl
theorem nc (n m:Nat) (M:Nat→Nat→Int) (r:Nat) (p:Nat→Int) (d:Int) (i:Nat) (R R':Nat→Int) :
    zM 0 [rg 1,.dec true,rg 5,rg 5,rg 2,.head] zf65 (N1 n m M r p d i R) [0,1,2,3] 1 (N1 n m M r p d (i+1) R') =
    some (zf65,[((decide ((↑i:Int)<(↑r:Int)))=true),(IL 0 (↑i:Int)),(IT (↑i:Int) (↑r:Int)),(NT i r),(IL 0 (p i)),(IT (p i) (↑n:Int)),(NT ((p i).toNat) n),((false=true)→ ((n:Nat)=1)),(ZLo ((↑i:Int)+1)),(ZHi ((↑i:Int)+1)),(AI ((↑n:Int))),(AN 0),(AN m),(AI d),(AN 0),(AN n),(AN 0),(AN r),(AI ((↑r:Int))),((((↑i:Int)+1):Int)=(↑(i+1):Int)),(AN 1),(NL m m),(AA m (fun i_1=>[.ar 1 ⟨1,some i_1⟩ 0 n])),(NL m m),(∀ i_1:Nat,(((i_1:Nat)<m)→All [(AN 1),((n:Nat)≤n),(AP n (fun r_1=>[.int .i64 ((cM n M i_1).2 r_1)]))])),(AN 1),(NL r r),(AA r (fun i_1=>[.p (.int .i64 (p i_1))])),(AN 1),(NL n n),(∀ i_1:Nat,(((i_1:Nat)<n)→(All (cvtL false [(3,⟨false,1,n,(fun i_2=>(if (i_2=(p i).toNat) then [.p (.int .i64 (↑i:Int))] else [.p (.int .i64 (R i_2))]))⟩),(0,⟨false,1,m,(fun i_2=>[.ar 1 ⟨1,some i_2⟩ 0 n])⟩),(1,⟨true,0,m,(fun i_2=>[.p (.seq false 1 n (fun i_3=>[.int .i64 ((cM n M i_2).2 i_3)]))])⟩),(2,⟨false,1,r,(fun i_2=>[.p (.int .i64 (p i_2))])⟩)] [0,1,2,3] 1 (if (i_1=(p i).toNat) then [.p (.int .i64 (↑i:Int))] else [.p (.int .i64 (R i_1))])).2∧(((cvtL false [(3,⟨false,1,n,(fun i_2=>(if (i_2=(p i).toNat) then [.p (.int .i64 (↑i:Int))] else [.p (.int .i64 (R i_2))]))⟩),(0,⟨false,1,m,(fun i_2=>[.ar 1 ⟨1,some i_2⟩ 0 n])⟩),(1,⟨true,0,m,(fun i_2=>[.p (.seq false 1 n (fun i_3=>[.int .i64 ((cM n M i_2).2 i_3)]))])⟩),(2,⟨false,1,r,(fun i_2=>[.p (.int .i64 (p i_2))])⟩)] [0,1,2,3] 1 (if (i_1=(p i).toNat) then [.p (.int .i64 (↑i:Int))] else [.p (.int .i64 (R i_1))])).1:List AV)=[.p (.int .i64 (R' i_1))]))))]):=by kernel_rfl
theorem nd (n m:Nat) (M:Nat→Nat→Int) (r:Nat) (p:Nat→Int) (d:Int) (i:Nat) (R:Nat→Int) (W:Nat→Nat→Int) :
    zM 0 [rg 1,.dec false,rg 2,rg 2,.head] zf65 (N1 n m M r p d i R) [0,1,3,36] 1 (N2 n m M d R 0 0 W) =
    some (zf54,zD [((decide ((↑i:Int)<(↑r:Int)))=false),(AI ((↑n:Int))),(AN 0),(AN m),(AI d),(AN n),((0:Int)=(↑0:Int)),(AN 1),(NL m m),(AA m (fun i_1=>[.ar 1 ⟨1,some i_1⟩ 0 n])),(∀ i_1:Nat,(((i_1:Nat)<m)→All [(AN 1),((n:Nat)≤n),(AP n (fun r_1=>[.int .i64 ((cM n M i_1).2 r_1)]))])),(NL n n),(AA n (fun i_1=>[.p (.int .i64 (R i_1))])),(NL 0 0),(∀ i_1:Nat,(((i_1:Nat)<0)→(All []∧(([.p (.nil)]:List AV)=[.ar 1 ⟨4,some i_1⟩ 0 n]))))] [0,1,2,3,4,2,5,2,2,1,6,7,8,9,8,10,7,11,12,7,13,14,2]):=by kernel_rfl
theorem ne (n m:Nat) (M:Nat→Nat→Int) (d:Int) (R:Nat→Int) (c q:Nat) (W:Nat→Nat→Int) :
    zM 0 [rg 1,.dec true,rg 2,rg 5,.dec true,rg 2,.head] zf54 (N2 n m M d R c q W) [0,1,2,3,4] 1 (N2 n m M d R (c+1) q W) =
    some (zf54,[((decide ((↑c:Int)<(↑n:Int)))=true),(IL 0 (↑c:Int)),(IT (↑c:Int) (↑n:Int)),(NT c n),((decide (R ((↑c:Int).toNat+0)≥0))=true),(ZLo ((↑c:Int)+1)),(ZHi ((↑c:Int)+1)),(AI ((↑n:Int))),(AN 0),(AN m),(AI d),(AN 0),(AN n),(AN 0),(AN q),(AI ((↑n:Int))),((((↑c:Int)+1):Int)=(↑(c+1):Int)),(AN 1),(NL m m),(AA m (fun i=>[.ar 1 ⟨1,some i⟩ 0 n])),(NL m m),(∀ i:Nat,(((i:Nat)<m)→All [(AN 1),((n:Nat)≤n),(AP n (fun r=>[.int .i64 ((cM n M i).2 r)]))])),(AN 1),(NL n n),(AA n (fun i=>[.p (.int .i64 (R i))])),(AN 1),(NL q q),(AA q (fun i=>[.ar 1 ⟨4,some i⟩ 0 n])),(NL q q),(∀ i:Nat,(((i:Nat)<q)→All [(AN 1),((n:Nat)≤n),(AP n (fun r=>[.int .i64 ((cM n W i).2 r)]))]))]):=by kernel_rfl
theorem nf (n m:Nat) (M:Nat→Nat→Int) (d:Int) (R:Nat→Int) (c q:Nat) (W:Nat→Nat→Int) (v:Nat→Int) :
    zM 0 [rg 1,.dec true,rg 2,rg 5,.dec false,rg 3,rg 5,rg 2,.head] zf54 (N2 n m M d R c q W) [0,1,2,3,4,293] 1 (N3 n m M d R c q W 0 v) =
    some (zf8,zD [((decide ((↑c:Int)<(↑n:Int)))=true),(IL 0 (↑c:Int)),(IT (↑c:Int) (↑n:Int)),(NT c n),((decide (R ((↑c:Int).toNat+0)≥0))=false),(IL 0 (↑n:Int)),(IL (↑n:Int) (↑n:Int)),(IL ((↑n:Int)*(↑8:Int)) 281474976710656),(ZHi (↑n:Int)),((false=true)→ ((n:Nat)=1)),(AI ((↑n:Int))),(AN 0),(AN m),(AI d),(AN n),(AN q),(AI ((↑c:Int))),((0:Int)=(↑0:Int)),(AN 1),(NL m m),(AA m (fun i=>[.ar 1 ⟨1,some i⟩ 0 n])),(∀ i:Nat,(((i:Nat)<m)→All [(AN 1),((n:Nat)≤n),(AP n (fun r=>[.int .i64 ((cM n M i).2 r)]))])),(NL n n),(AA n (fun i=>[.p (.int .i64 (R i))])),(NL q q),(AA q (fun i=>[.ar 1 ⟨4,some i⟩ 0 n])),(∀ i:Nat,(((i:Nat)<q)→All [(AN 1),((n:Nat)≤n),(AP n (fun r=>[.int .i64 ((cM n W i).2 r)]))])),(∀ i:Nat,(((i:Nat)<n)→(All (cvtL false [(293,⟨false,1,n,(fun i_1=>(if (i_1=c) then [.p (.int .i64 d)] else [.p (.int .i64 0)]))⟩),(0,⟨false,1,m,(fun i_1=>[.ar 1 ⟨1,some i_1⟩ 0 n])⟩),(1,⟨true,0,m,(fun i_1=>[.p (.seq false 1 n (fun i_2=>[.int .i64 ((cM n M i_1).2 i_2)]))])⟩),(2,⟨false,1,n,(fun i_1=>[.p (.int .i64 (R i_1))])⟩),(3,⟨false,1,q,(fun i_1=>[.ar 1 ⟨4,some i_1⟩ 0 n])⟩),(4,⟨true,0,q,(fun i_1=>[.p (.seq false 1 n (fun i_2=>[.int .i64 ((cM n W i_1).2 i_2)]))])⟩)] [0,1,2,3,4,293] 1 (if (i=c) then [.p (.int .i64 d)] else [.p (.int .i64 0)])).2∧(((cvtL false [(293,⟨false,1,n,(fun i_1=>(if (i_1=c) then [.p (.int .i64 d)] else [.p (.int .i64 0)]))⟩),(0,⟨false,1,m,(fun i_1=>[.ar 1 ⟨1,some i_1⟩ 0 n])⟩),(1,⟨true,0,m,(fun i_1=>[.p (.seq false 1 n (fun i_2=>[.int .i64 ((cM n M i_1).2 i_2)]))])⟩),(2,⟨false,1,n,(fun i_1=>[.p (.int .i64 (R i_1))])⟩),(3,⟨false,1,q,(fun i_1=>[.ar 1 ⟨4,some i_1⟩ 0 n])⟩),(4,⟨true,0,q,(fun i_1=>[.p (.seq false 1 n (fun i_2=>[.int .i64 ((cM n W i_1).2 i_2)]))])⟩)] [0,1,2,3,4,293] 1 (if (i=c) then [.p (.int .i64 d)] else [.p (.int .i64 0)])).1:List AV)=[.p (.int .i64 (v i))]))))] [0,1,2,3,4,5,6,7,8,1,2,3,9,10,11,12,13,11,14,11,15,16,11,14,10,16,10,17,18,19,20,19,21,18,22,23,18,24,25,24,26,18,22,27]):=by kernel_rfl
theorem ng (n m:Nat) (M:Nat→Nat→Int) (d:Int) (R:Nat→Int) (c q:Nat) (W:Nat→Nat→Int) (k:Nat) (v v':Nat→Int) :
    zM 0 [rg 1,.dec true,rg 2,rg 5,.dec true,rg 15,rg 2,.head] zf8 (N3 n m M d R c q W k v) [0,1,2,3,4,5] 1 (N3 n m M d R c q W (k+1) v') =
    some (zf8,zD [((decide ((↑k:Int)<(↑n:Int)))=true),(IL 0 (↑k:Int)),(IT (↑k:Int) (↑n:Int)),(NT k n),((decide (R ((↑k:Int).toNat+0)≥0))=true),(IL 0 (R k)),(IT (R k) (↑m:Int)),(NT ((R k).toNat) m),(IL 0 (↑c:Int)),(IT (↑c:Int) (↑n:Int)),(NT c n),(ZLo (0 - (cM n M (R k).toNat).2 c)),(ZHi (0 - (cM n M (R k).toNat).2 c)),((false=true)→ ((n:Nat)=1)),(ZLo ((↑k:Int)+1)),(ZHi ((↑k:Int)+1)),(AI ((↑n:Int))),(AN 0),(AN m),(AI d),(AN n),(AN q),(AI ((↑c:Int))),((((↑k:Int)+1):Int)=(↑(k+1):Int)),(AN 1),(NL m m),(AA m (fun i=>[.ar 1 ⟨1,some i⟩ 0 n])),(∀ i:Nat,(((i:Nat)<m)→All [(AN 1),((n:Nat)≤n),(AP n (fun r=>[.int .i64 ((cM n M i).2 r)]))])),(NL n n),(AA n (fun i=>[.p (.int .i64 (R i))])),(NL q q),(AA q (fun i=>[.ar 1 ⟨4,some i⟩ 0 n])),(∀ i:Nat,(((i:Nat)<q)→All [(AN 1),((n:Nat)≤n),(AP n (fun r=>[.int .i64 ((cM n W i).2 r)]))])),(∀ i:Nat,(((i:Nat)<n)→(All (cvtL false [(5,⟨false,1,n,(fun i_1=>(if (i_1=k) then [.p (.int .i64 (0 - (cM n M (R k).toNat).2 c))] else [.p (.int .i64 (v i_1))]))⟩),(0,⟨false,1,m,(fun i_1=>[.ar 1 ⟨1,some i_1⟩ 0 n])⟩),(1,⟨true,0,m,(fun i_1=>[.p (.seq false 1 n (fun i_2=>[.int .i64 ((cM n M i_1).2 i_2)]))])⟩),(2,⟨false,1,n,(fun i_1=>[.p (.int .i64 (R i_1))])⟩),(3,⟨false,1,q,(fun i_1=>[.ar 1 ⟨4,some i_1⟩ 0 n])⟩),(4,⟨true,0,q,(fun i_1=>[.p (.seq false 1 n (fun i_2=>[.int .i64 ((cM n W i_1).2 i_2)]))])⟩)] [0,1,2,3,4,5] 1 (if (i=k) then [.p (.int .i64 (0 - (cM n M (R k).toNat).2 c))] else [.p (.int .i64 (v i))])).2∧(((cvtL false [(5,⟨false,1,n,(fun i_1=>(if (i_1=k) then [.p (.int .i64 (0 - (cM n M (R k).toNat).2 c))] else [.p (.int .i64 (v i_1))]))⟩),(0,⟨false,1,m,(fun i_1=>[.ar 1 ⟨1,some i_1⟩ 0 n])⟩),(1,⟨true,0,m,(fun i_1=>[.p (.seq false 1 n (fun i_2=>[.int .i64 ((cM n M i_1).2 i_2)]))])⟩),(2,⟨false,1,n,(fun i_1=>[.p (.int .i64 (R i_1))])⟩),(3,⟨false,1,q,(fun i_1=>[.ar 1 ⟨4,some i_1⟩ 0 n])⟩),(4,⟨true,0,q,(fun i_1=>[.p (.seq false 1 n (fun i_2=>[.int .i64 ((cM n W i_1).2 i_2)]))])⟩)] [0,1,2,3,4,5] 1 (if (i=k) then [.p (.int .i64 (0 - (cM n M (R k).toNat).2 c))] else [.p (.int .i64 (v i))])).1:List AV)=[.p (.int .i64 (v' i))]))))] [0,1,2,3,4,1,2,3,5,6,7,8,9,7,10,11,12,1,2,3,13,14,15,16,17,18,19,17,20,17,21,22,17,20,16,22,16,23,24,25,26,25,27,24,28,29,24,30,31,30,32,24,28,33]):=by kernel_rfl
theorem nh (n m:Nat) (M:Nat→Nat→Int) (d:Int) (R:Nat→Int) (c q:Nat) (W:Nat→Nat→Int) (k:Nat) (v v':Nat→Int) :
    zM 0 [rg 1,.dec true,rg 2,rg 5,.dec false,rg 2,.head] zf8 (N3 n m M d R c q W k v) [0,1,2,3,4,5] 1 (N3 n m M d R c q W (k+1) v') =
    some (zf8,zD [((decide ((↑k:Int)<(↑n:Int)))=true),(IL 0 (↑k:Int)),(IT (↑k:Int) (↑n:Int)),(NT k n),((decide (R ((↑k:Int).toNat+0)≥0))=false),(ZLo ((↑k:Int)+1)),(ZHi ((↑k:Int)+1)),(AI ((↑n:Int))),(AN 0),(AN m),(AI d),(AN n),(AN q),(AI ((↑c:Int))),((((↑k:Int)+1):Int)=(↑(k+1):Int)),(AN 1),(NL m m),(AA m (fun i=>[.ar 1 ⟨1,some i⟩ 0 n])),(∀ i:Nat,(((i:Nat)<m)→All [(AN 1),((n:Nat)≤n),(AP n (fun r=>[.int .i64 ((cM n M i).2 r)]))])),(NL n n),(AA n (fun i=>[.p (.int .i64 (R i))])),(NL q q),(AA q (fun i=>[.ar 1 ⟨4,some i⟩ 0 n])),(∀ i:Nat,(((i:Nat)<q)→All [(AN 1),((n:Nat)≤n),(AP n (fun r=>[.int .i64 ((cM n W i).2 r)]))])),(∀ i:Nat,(((i:Nat)<n)→(All []∧(([.p (.int .i64 (v i))]:List AV)=[.p (.int .i64 (v' i))]))))] [0,1,2,3,4,5,6,7,8,9,10,8,11,8,12,13,8,11,7,13,7,14,15,16,17,16,18,15,19,20,15,21,22,21,23,15,19,24]):=by kernel_rfl
theorem ni (n m:Nat) (M:Nat→Nat→Int) (d:Int) (R:Nat→Int) (c q:Nat) (W W':Nat→Nat→Int) (k:Nat) (v w:Nat→Int) :
    zM 0 [rg 1,.dec false,rm [(2,oc [(0,iOb n w)] (.ar 1 0 0 n))] 3,rg 2,.head] zf8 (N3 n m M d R c q W k v) [0,1,2,166,.ins 4 q 102] 1 (N2 n m M d R (c+1) (q+1) W') =
    some (zf54,[((decide ((↑k:Int)<(↑n:Int)))=false),(AN 1),(NL n n),zE 356 [.p (.seq true 1 n (fun i=>[.int .i64 (v i)]))] [(0,⟨false,1,n,(fun i=>[.p (.int .i64 (w i))])⟩)] (.ar 1 0 0 n),(NL 1 1),(NL q q),(NL ((q+1)*24) 140737488355328),(NL (q+1) 9223372036854775807),(ZLo ((↑c:Int)+1)),(ZHi ((↑c:Int)+1)),(AI ((↑n:Int))),(AN 0),(AN m),(AI d),(AN 0),(AN n),(AN 0),(AN ((q+1))),(AI ((↑n:Int))),((((↑c:Int)+1):Int)=(↑(c+1):Int)),(AN 1),(NL m m),(AA m (fun i=>[.ar 1 ⟨1,some i⟩ 0 n])),(NL m m),(∀ i:Nat,(((i:Nat)<m)→All [(AN 1),((n:Nat)≤n),(AP n (fun r=>[.int .i64 ((cM n M i).2 r)]))])),(AN 1),(NL n n),(AA n (fun i=>[.p (.int .i64 (R i))])),(AN 1),(NL (q+1) (q+1)),(CV [(166,⟨false,1,(q+1),(fun i_1=>(if (i_1<q) then [.ar 1 ⟨4,some i_1⟩ 0 n] else [.ar 1 102 0 n]))⟩),(134,⟨false,1,1,(fun i_1=>[.ar 1 102 0 n])⟩),(102,⟨false,1,n,(fun i_1=>[.p (.int .i64 (w i_1))])⟩),(0,⟨false,1,m,(fun i_1=>[.ar 1 ⟨1,some i_1⟩ 0 n])⟩),(1,⟨true,0,m,(fun i_1=>[.p (.seq false 1 n (fun i_2=>[.int .i64 ((cM n M i_1).2 i_2)]))])⟩),(2,⟨false,1,n,(fun i_1=>[.p (.int .i64 (R i_1))])⟩),(4,⟨true,0,q,(fun i_1=>[.p (.seq false 1 n (fun i_2=>[.int .i64 ((cM n W i_1).2 i_2)]))])⟩),(5,⟨false,1,n,(fun i_1=>[.p (.int .i64 (v i_1))])⟩)] [0,1,2,166,.ins 4 q 102] 1 (q+1) (fun i=>if (i<q) then [.ar 1 ⟨4,some i⟩ 0 n] else [.ar 1 102 0 n]) (fun i=>[.ar 1 ⟨4,some i⟩ 0 n])),(∀ i:Nat,(((i:Nat)<(q+1))→(((i:Nat)≠q)→(((i:Nat)<q)∧All [(AN 1),((n:Nat)≤n),(∀ r:Nat,(((r:Nat)<n)→(([.int .i64 ((cM n W i).2 r)]:List PV)=[.int .i64 ((cM n W' i).2 r)])))])))),(((q:Nat)<(q+1))→ All [(AN 1),((n:Nat)≤n),(∀ r:Nat,(((r:Nat)<n)→(([.int .i64 (w r)]:List PV)=[.int .i64 ((cM n W' q).2 r)])))])]):=by kernel_rfl
theorem nj (n m:Nat) (M:Nat→Nat→Int) (d:Int) (R:Nat→Int) (c q:Nat) (W:Nat→Nat→Int) :
    zP Tryz.f318 0 [rg 1,.dec false,rg 2] zf54 (N2 n m M d R c q W) [3,4] 1 [(0,ooOb 1 q (cM n W)),(1,ffOb q (cM n W))] (.ar 1 0 0 q) =
    some [((decide ((↑c:Int)<(↑n:Int)))=false),(AN 0),(AN q),(AN 1),(NL q q),(AA q (fun i=>[.ar 1 ⟨1,some i⟩ 0 n])),(NL q q),(∀ i:Nat,(((i:Nat)<q)→All [(AN 1),((n:Nat)≤n),(AP n (fun r=>[.int .i64 ((cM n W i).2 r)]))])),(AE q),(∀ i:Nat,(((i:Nat)<q)→All [(false=false),(AE n)]))]:=by kernel_rfl
theorem lz (n m:Nat) (M0 M:Nat→Nat→Int) (r:Nat) (p:Nat→Int) (W:Nat→Nat→Int) :
    zT Tryz.f315 [rg 1,rg 2,rm [(1,oc (mH n m M r p) (.tup [.ar 1 0 0 m,.ar 1 2 0 r]))] 5,rg 1,.head] [ssA2 m (cM n M0),.p (.int .i64 n)] [128,129,130,32] (L0 n m M r p 0 0 W) =
    some (zf75,[zE 226 [.p (.seq true 1 m (fun i=>[.seq true 1 n (fun i_1=>[.int .i64 ((cM n M0 i).2 i_1)])]))] [(0,⟨false,1,m,(fun i=>[.ar 1 ⟨1,some i⟩ 0 n])⟩),(1,⟨true,0,m,(fun i=>[.p (.seq false 1 n (fun i_1=>[.int .i64 ((cM n M i).2 i_1)]))])⟩),(2,⟨false,1,r,(fun i=>[.p (.int .i64 (p i))])⟩)] (.tup [.ar 1 0 0 m,.ar 1 2 0 r]),(AI ((↑n:Int))),(AN 0),(AN 0),(AN 0),(AN m),(AN 0),(AN r),((0:Int)=(↑0:Int)),(AN 1),(NL m m),(AA m (fun i=>[.ar 1 ⟨1,some i⟩ 0 n])),(NL m m),(∀ i:Nat,(((i:Nat)<m)→All [(AN 1),((n:Nat)≤n),(AP n (fun r_1=>[.int .i64 ((cM n M i).2 r_1)]))])),(AN 1),(NL r r),(AA r (fun i=>[.p (.int .i64 (p i))])),(AN 1),(NL 0 0),(∀ i:Nat,(((i:Nat)<0)→(All []∧(([.p (.nil)]:List AV)=[.ar 1 ⟨4,some i⟩ 0 n])))),(AN 0)]):=by kernel_rfl
theorem la (n m:Nat) (M:Nat→Nat→Int) (r:Nat) (p:Nat→Int) (c q:Nat) (W:Nat→Nat→Int) :
    zM 0 [rg 3,.dec true,rm [(2,oc [] (.p (.bool true)))] 0,.dec true,rg 3,.head] zf75 (L0 n m M r p c q W) [0,1,2,3,4] 1 (L0 n m M r p (c+1) q W) =
    some (zf75,[((decide ((↑c:Int)<(↑n:Int)))=true),(AN 1),(NL r r),zE 172 [.p (.seq true 1 r (fun i=>[.int .i64 (p i)])),.p (.int .i64 (↑c:Int))] [] (.p (.bool true)),(true=true),(ZLo ((↑c:Int)+1)),(ZHi ((↑c:Int)+1)),(AI ((↑n:Int))),(AN 0),(AN q),(AN 0),(AN m),(AN 0),(AN r),((((↑c:Int)+1):Int)=(↑(c+1):Int)),(AN 1),(NL m m),(AA m (fun i=>[.ar 1 ⟨1,some i⟩ 0 n])),(NL m m),(∀ i:Nat,(((i:Nat)<m)→All [(AN 1),((n:Nat)≤n),(AP n (fun r_1=>[.int .i64 ((cM n M i).2 r_1)]))])),(AN 1),(NL r r),(AA r (fun i=>[.p (.int .i64 (p i))])),(AN 1),(NL q q),(AA q (fun i=>[.ar 1 ⟨4,some i⟩ 0 n])),(NL q q),(∀ i:Nat,(((i:Nat)<q)→All [(AN 1),((n:Nat)≤n),(AP n (fun r_1=>[.int .i64 ((cM n W i).2 r_1)]))]))]):=by kernel_rfl
theorem lb (n m:Nat) (M:Nat→Nat→Int) (r:Nat) (p:Nat→Int) (c q:Nat) (W:Nat→Nat→Int) :
    zM 0 [rg 3,.dec true,rm [(2,oc [] (.p (.bool false)))] 0,.dec false,rg 1,rg 1,.head] zf75 (L0 n m M r p c q W) [0,1,2,3,4] 1 (L1 n m M r p c q W 1 0) =
    some (zf15,[((decide ((↑c:Int)<(↑n:Int)))=true),(AN 1),(NL r r),zE 172 [.p (.seq true 1 r (fun i=>[.int .i64 (p i)])),.p (.int .i64 (↑c:Int))] [] (.p (.bool false)),(false=false),(AI ((↑n:Int))),(AN 0),(AN q),(AN 0),(AN m),(AN 0),(AN r),(AI ((↑c:Int))),(AI 1),((0:Int)=(↑0:Int)),(AN 1),(NL m m),(AA m (fun i=>[.ar 1 ⟨1,some i⟩ 0 n])),(NL m m),(∀ i:Nat,(((i:Nat)<m)→All [(AN 1),((n:Nat)≤n),(AP n (fun r_1=>[.int .i64 ((cM n M i).2 r_1)]))])),(AN 1),(NL r r),(AA r (fun i=>[.p (.int .i64 (p i))])),(AN 1),(NL q q),(AA q (fun i=>[.ar 1 ⟨4,some i⟩ 0 n])),(NL q q),(∀ i:Nat,(((i:Nat)<q)→All [(AN 1),((n:Nat)≤n),(AP n (fun r_1=>[.int .i64 ((cM n W i).2 r_1)]))]))]):=by kernel_rfl
theorem lc (n m:Nat) (M:Nat→Nat→Int) (r:Nat) (p:Nat→Int) (c q:Nat) (W:Nat→Nat→Int) (d g1 g2 d':Int) (i:Nat) :
    zM 0 [rg 4,.dec true,rg 23,rm [(9,oc [] (.p (.int .i64 g1)))] 2,rm [(3,oc [] (.p (.int .i64 g2)))] 4,rg 3,.head] zf15 (L1 n m M r p c q W d i) [0,1,2,3,4] 1 (L1 n m M r p c q W d' (i+1)) =
    some (zf15,zD [((decide ((↑i:Int)<(↑r:Int)))=true),(IL 0 (↑i:Int)),(IT (↑i:Int) (↑m:Int)),(NT i m),(IT (↑i:Int) (↑r:Int)),(NT i r),(IL 0 (p i)),(IT (p i) (↑n:Int)),(NT ((p i).toNat) n),(ZLo (0 - (cM n M i).2 (p i).toNat)),(ZHi (0 - (cM n M i).2 (p i).toNat)),(IL 0 (↑c:Int)),(IT (↑c:Int) (↑n:Int)),(NT c n),zE 354 [.p (.int .i64 (if true=true then if 0 - (cM n M i).2 (p i).toNat>(cM n M i).2 (p i).toNat then 0 - (cM n M i).2 (p i).toNat else (cM n M i).2 (p i).toNat else if 0 - (cM n M i).2 (p i).toNat<(cM n M i).2 (p i).toNat then 0 - (cM n M i).2 (p i).toNat else (cM n M i).2 (p i).toNat)),.p (.int .i64 ((cM n M i).2 c))] [] (.p (.int .i64 g1)),(IL 0 (if true=true then if 0 - (cM n M i).2 (p i).toNat>(cM n M i).2 (p i).toNat then 0 - (cM n M i).2 (p i).toNat else (cM n M i).2 (p i).toNat else if 0 - (cM n M i).2 (p i).toNat<(cM n M i).2 (p i).toNat then 0 - (cM n M i).2 (p i).toNat else (cM n M i).2 (p i).toNat)),(IT 0 g1),(ZHi ((if true=true then if 0 - (cM n M i).2 (p i).toNat>(cM n M i).2 (p i).toNat then 0 - (cM n M i).2 (p i).toNat else (cM n M i).2 (p i).toNat else if 0 - (cM n M i).2 (p i).toNat<(cM n M i).2 (p i).toNat then 0 - (cM n M i).2 (p i).toNat else (cM n M i).2 (p i).toNat) / g1)),zE 354 [.p (.int .i64 d),.p (.int .i64 ((if true=true then if 0 - (cM n M i).2 (p i).toNat>(cM n M i).2 (p i).toNat then 0 - (cM n M i).2 (p i).toNat else (cM n M i).2 (p i).toNat else if 0 - (cM n M i).2 (p i).toNat<(cM n M i).2 (p i).toNat then 0 - (cM n M i).2 (p i).toNat else (cM n M i).2 (p i).toNat) / g1))] [] (.p (.int .i64 g2)),(IL 0 d),(IT 0 g2),(ZHi (d / g2)),(ZLo (d / g2*((if true=true then if 0 - (cM n M i).2 (p i).toNat>(cM n M i).2 (p i).toNat then 0 - (cM n M i).2 (p i).toNat else (cM n M i).2 (p i).toNat else if 0 - (cM n M i).2 (p i).toNat<(cM n M i).2 (p i).toNat then 0 - (cM n M i).2 (p i).toNat else (cM n M i).2 (p i).toNat) / g1))),(ZHi (d / g2*((if true=true then if 0 - (cM n M i).2 (p i).toNat>(cM n M i).2 (p i).toNat then 0 - (cM n M i).2 (p i).toNat else (cM n M i).2 (p i).toNat else if 0 - (cM n M i).2 (p i).toNat<(cM n M i).2 (p i).toNat then 0 - (cM n M i).2 (p i).toNat else (cM n M i).2 (p i).toNat) / g1))),(ZLo ((↑i:Int)+1)),(ZHi ((↑i:Int)+1)),(AI ((↑n:Int))),(AN 0),(AN q),(AN m),(AN r),(AI ((↑c:Int))),(((d / g2*((if true=true then if 0 - (cM n M i).2 (p i).toNat>(cM n M i).2 (p i).toNat then 0 - (cM n M i).2 (p i).toNat else (cM n M i).2 (p i).toNat else if 0 - (cM n M i).2 (p i).toNat<(cM n M i).2 (p i).toNat then 0 - (cM n M i).2 (p i).toNat else (cM n M i).2 (p i).toNat) / g1)):Int)=d'),((((↑i:Int)+1):Int)=(↑(i+1):Int)),(AN 1),(NL m m),(AA m (fun i_1=>[.ar 1 ⟨1,some i_1⟩ 0 n])),(∀ i_1:Nat,(((i_1:Nat)<m)→All [(AN 1),((n:Nat)≤n),(AP n (fun r_1=>[.int .i64 ((cM n M i_1).2 r_1)]))])),(NL r r),(AA r (fun i_1=>[.p (.int .i64 (p i_1))])),(NL q q),(AA q (fun i_1=>[.ar 1 ⟨4,some i_1⟩ 0 n])),(∀ i_1:Nat,(((i_1:Nat)<q)→All [(AN 1),((n:Nat)≤n),(AP n (fun r_1=>[.int .i64 ((cM n W i_1).2 r_1)]))]))] [0,1,2,3,1,4,5,6,7,3,8,1,2,3,1,4,5,6,7,3,8,9,10,1,2,3,11,12,3,13,14,15,16,17,18,19,20,21,22,23,24,25,26,27,28,27,29,27,30,31,32,33,34,35,36,35,37,34,38,39,34,40,41,40,42]):=by kernel_rfl
theorem ld (n m:Nat) (M:Nat→Nat→Int) (r:Nat) (p:Nat→Int) (c q:Nat) (W:Nat→Nat→Int) (d:Int) (i:Nat) (v:Nat→Int) :
    zM 0 [rg 4,.dec false,rg 3,rg 5,rg 1,.head] zf15 (L1 n m M r p c q W d i) [0,1,2,3,4,165] 1 (L2 n m M r p c q W d v 0) =
    some (zf12,[((decide ((↑i:Int)<(↑r:Int)))=false),(IL 0 (↑n:Int)),(IL (↑n:Int) (↑n:Int)),(IL ((↑n:Int)*(↑8:Int)) 281474976710656),(ZHi (↑n:Int)),(IL 0 (↑c:Int)),(IT (↑c:Int) (↑n:Int)),(NT c n),((false=true)→ ((n:Nat)=1)),(AI ((↑n:Int))),(AN 0),(AN q),(AN 0),(AN m),(AN 0),(AN r),(AI ((↑c:Int))),(AI d),(AN 0),(AN n),((0:Int)=(↑0:Int)),(AN 1),(NL m m),(AA m (fun i_1=>[.ar 1 ⟨1,some i_1⟩ 0 n])),(NL m m),(∀ i_1:Nat,(((i_1:Nat)<m)→All [(AN 1),((n:Nat)≤n),(AP n (fun r_1=>[.int .i64 ((cM n M i_1).2 r_1)]))])),(AN 1),(NL r r),(AA r (fun i_1=>[.p (.int .i64 (p i_1))])),(AN 1),(NL q q),(AA q (fun i_1=>[.ar 1 ⟨4,some i_1⟩ 0 n])),(NL q q),(∀ i_1:Nat,(((i_1:Nat)<q)→All [(AN 1),((n:Nat)≤n),(AP n (fun r_1=>[.int .i64 ((cM n W i_1).2 r_1)]))])),(AN 1),(NL n n),(∀ i_1:Nat,(((i_1:Nat)<n)→(All (cvtL false [(165,⟨false,1,n,(fun i_2=>(if (i_2=c) then [.p (.int .i64 d)] else [.p (.int .i64 0)]))⟩),(0,⟨false,1,m,(fun i_2=>[.ar 1 ⟨1,some i_2⟩ 0 n])⟩),(1,⟨true,0,m,(fun i_2=>[.p (.seq false 1 n (fun i_3=>[.int .i64 ((cM n M i_2).2 i_3)]))])⟩),(2,⟨false,1,r,(fun i_2=>[.p (.int .i64 (p i_2))])⟩),(3,⟨false,1,q,(fun i_2=>[.ar 1 ⟨4,some i_2⟩ 0 n])⟩),(4,⟨true,0,q,(fun i_2=>[.p (.seq false 1 n (fun i_3=>[.int .i64 ((cM n W i_2).2 i_3)]))])⟩)] [0,1,2,3,4,165] 1 (if (i_1=c) then [.p (.int .i64 d)] else [.p (.int .i64 0)])).2∧(((cvtL false [(165,⟨false,1,n,(fun i_2=>(if (i_2=c) then [.p (.int .i64 d)] else [.p (.int .i64 0)]))⟩),(0,⟨false,1,m,(fun i_2=>[.ar 1 ⟨1,some i_2⟩ 0 n])⟩),(1,⟨true,0,m,(fun i_2=>[.p (.seq false 1 n (fun i_3=>[.int .i64 ((cM n M i_2).2 i_3)]))])⟩),(2,⟨false,1,r,(fun i_2=>[.p (.int .i64 (p i_2))])⟩),(3,⟨false,1,q,(fun i_2=>[.ar 1 ⟨4,some i_2⟩ 0 n])⟩),(4,⟨true,0,q,(fun i_2=>[.p (.seq false 1 n (fun i_3=>[.int .i64 ((cM n W i_2).2 i_3)]))])⟩)] [0,1,2,3,4,165] 1 (if (i_1=c) then [.p (.int .i64 d)] else [.p (.int .i64 0)])).1:List AV)=[.p (.int .i64 (v i_1))]))))]):=by kernel_rfl
theorem le (n m:Nat) (M:Nat→Nat→Int) (r:Nat) (p:Nat→Int) (c q:Nat) (W:Nat→Nat→Int) (d:Int) (v v':Nat→Int) (i:Nat) :
    zM 0 [rg 4,.dec true,rm [(24,oF)] 3,rg 3,.head] zf12 (L2 n m M r p c q W d v i) [0,1,2,3,4,5] 1 (L2 n m M r p c q W d v' (i+1)) =
    some (zf12,zD [((decide ((↑i:Int)<(↑r:Int)))=true),(IL 0 (↑i:Int)),(IT (↑i:Int) (↑r:Int)),(NT i r),(IT (↑i:Int) (↑m:Int)),(NT i m),(IL 0 (↑c:Int)),(IT (↑c:Int) (↑n:Int)),(NT c n),(ZLo ((cM n M i).2 c*d)),(ZHi ((cM n M i).2 c*d)),(IL 0 (p i)),(IT (p i) (↑n:Int)),(NT ((p i).toNat) n),((((cM n M i).2 (p i).toNat):Int)≠0),(ZLo (0 - IntKind.i64.wrap (((cM n M i).2 c*d).tdiv ((cM n M i).2 (p i).toNat)))),(ZHi (0 - IntKind.i64.wrap (((cM n M i).2 c*d).tdiv ((cM n M i).2 (p i).toNat)))),((false=true)→ ((n:Nat)=1)),(ZLo ((↑i:Int)+1)),(ZHi ((↑i:Int)+1)),(AI ((↑n:Int))),(AN 0),(AN q),(AN m),(AN r),(AI ((↑c:Int))),(AI d),(AN n),((((↑i:Int)+1):Int)=(↑(i+1):Int)),(AN 1),(NL m m),(AA m (fun i_1=>[.ar 1 ⟨1,some i_1⟩ 0 n])),(∀ i_1:Nat,(((i_1:Nat)<m)→All [(AN 1),((n:Nat)≤n),(AP n (fun r_1=>[.int .i64 ((cM n M i_1).2 r_1)]))])),(NL r r),(AA r (fun i_1=>[.p (.int .i64 (p i_1))])),(NL q q),(AA q (fun i_1=>[.ar 1 ⟨4,some i_1⟩ 0 n])),(∀ i_1:Nat,(((i_1:Nat)<q)→All [(AN 1),((n:Nat)≤n),(AP n (fun r_1=>[.int .i64 ((cM n W i_1).2 r_1)]))])),(NL n n),(CV [(5,⟨false,1,n,(fun i_2=>(if (i_2=(p i).toNat) then [.p (.int .i64 (0 - IntKind.i64.wrap (((cM n M i).2 c*d).tdiv ((cM n M i).2 (p i).toNat))))] else [.p (.int .i64 (v i_2))]))⟩),(0,⟨false,1,m,(fun i_2=>[.ar 1 ⟨1,some i_2⟩ 0 n])⟩),(1,⟨true,0,m,(fun i_2=>[.p (.seq false 1 n (fun i_3=>[.int .i64 ((cM n M i_2).2 i_3)]))])⟩),(2,⟨false,1,r,(fun i_2=>[.p (.int .i64 (p i_2))])⟩),(3,⟨false,1,q,(fun i_2=>[.ar 1 ⟨4,some i_2⟩ 0 n])⟩),(4,⟨true,0,q,(fun i_2=>[.p (.seq false 1 n (fun i_3=>[.int .i64 ((cM n W i_2).2 i_3)]))])⟩)] [0,1,2,3,4,5] 1 n (fun i_1=>if (i_1=(p i).toNat) then [.p (.int .i64 (0 - IntKind.i64.wrap (((cM n M i).2 c*d).tdiv ((cM n M i).2 (p i).toNat))))] else [.p (.int .i64 (v i_1))]) (fun i_1=>[.p (.int .i64 (v' i_1))]))] [0,1,2,3,1,4,5,6,7,5,8,9,10,1,4,5,1,2,3,11,12,5,13,14,15,16,11,12,13,17,18,19,20,21,22,21,23,21,24,25,26,21,27,28,29,30,31,30,32,29,33,34,29,35,36,35,37,29,38,39]):=by kernel_rfl
theorem lf (n m:Nat) (M:Nat→Nat→Int) (r:Nat) (p:Nat→Int) (c q:Nat) (W W':Nat→Nat→Int) (d:Int) (v w:Nat→Int) (i:Nat) :
    zM 0 [rg 4,.dec false,rm [(2,oc [(0,iOb n w)] (.ar 1 0 0 n))] 3,rg 3,.head] zf12 (L2 n m M r p c q W d v i) [0,1,2,262,.ins 4 q 198] 1 (L0 n m M r p (c+1) (q+1) W') =
    some (zf75,[((decide ((↑i:Int)<(↑r:Int)))=false),(AN 1),(NL n n),zE 353 [.p (.seq true 1 n (fun i_1=>[.int .i64 (v i_1)]))] [(0,⟨false,1,n,(fun i_1=>[.p (.int .i64 (w i_1))])⟩)] (.ar 1 0 0 n),(NL 1 1),(NL q q),(NL ((q+1)*24) 140737488355328),(NL (q+1) 9223372036854775807),(ZLo ((↑c:Int)+1)),(ZHi ((↑c:Int)+1)),(AI ((↑n:Int))),(AN 0),(AN ((q+1))),(AN 0),(AN m),(AN 0),(AN r),((((↑c:Int)+1):Int)=(↑(c+1):Int)),(AN 1),(NL m m),(AA m (fun i_1=>[.ar 1 ⟨1,some i_1⟩ 0 n])),(NL m m),(∀ i_1:Nat,(((i_1:Nat)<m)→All [(AN 1),((n:Nat)≤n),(AP n (fun r_1=>[.int .i64 ((cM n M i_1).2 r_1)]))])),(AN 1),(NL r r),(AA r (fun i_1=>[.p (.int .i64 (p i_1))])),(AN 1),(NL (q+1) (q+1)),(CV [(262,⟨false,1,(q+1),(fun i_2=>(if (i_2<q) then [.ar 1 ⟨4,some i_2⟩ 0 n] else [.ar 1 198 0 n]))⟩),(230,⟨false,1,1,(fun i_2=>[.ar 1 198 0 n])⟩),(198,⟨false,1,n,(fun i_2=>[.p (.int .i64 (w i_2))])⟩),(0,⟨false,1,m,(fun i_2=>[.ar 1 ⟨1,some i_2⟩ 0 n])⟩),(1,⟨true,0,m,(fun i_2=>[.p (.seq false 1 n (fun i_3=>[.int .i64 ((cM n M i_2).2 i_3)]))])⟩),(2,⟨false,1,r,(fun i_2=>[.p (.int .i64 (p i_2))])⟩),(4,⟨true,0,q,(fun i_2=>[.p (.seq false 1 n (fun i_3=>[.int .i64 ((cM n W i_2).2 i_3)]))])⟩),(5,⟨false,1,n,(fun i_2=>[.p (.int .i64 (v i_2))])⟩)] [0,1,2,262,.ins 4 q 198] 1 (q+1) (fun i_1=>if (i_1<q) then [.ar 1 ⟨4,some i_1⟩ 0 n] else [.ar 1 198 0 n]) (fun i_1=>[.ar 1 ⟨4,some i_1⟩ 0 n])),(∀ i_1:Nat,(((i_1:Nat)<(q+1))→(((i_1:Nat)≠q)→(((i_1:Nat)<q)∧All [(AN 1),((n:Nat)≤n),(∀ r_1:Nat,(((r_1:Nat)<n)→(([.int .i64 ((cM n W i_1).2 r_1)]:List PV)=[.int .i64 ((cM n W' i_1).2 r_1)])))])))),(((q:Nat)<(q+1))→ All [(AN 1),((n:Nat)≤n),(∀ r_1:Nat,(((r_1:Nat)<n)→(([.int .i64 (w r_1)]:List PV)=[.int .i64 ((cM n W' q).2 r_1)])))])]):=by kernel_rfl
theorem lg (n m:Nat) (M:Nat→Nat→Int) (r:Nat) (p:Nat→Int) (c q:Nat) (W:Nat→Nat→Int) :
    zP Tryz.f315 0 [rg 3,.dec false,rg 2] zf75 (L0 n m M r p c q W) [3,4] 1 [(0,ooOb 1 q (cM n W)),(1,ffOb q (cM n W))] (.ar 1 0 0 q) =
    some [((decide ((↑c:Int)<(↑n:Int)))=false),(AN 0),(AN q),(AN 1),(NL q q),(AA q (fun i=>[.ar 1 ⟨1,some i⟩ 0 n])),(NL q q),(∀ i:Nat,(((i:Nat)<q)→All [(AN 1),((n:Nat)≤n),(AP n (fun r_1=>[.int .i64 ((cM n W i).2 r_1)]))])),(AE q),(∀ i:Nat,(((i:Nat)<q)→All [(false=false),(AE n)]))]:=by kernel_rfl
theorem nvk_sq {n m rmx:Nat} {B:Int} {K:Nat→Nat→(Nat→Nat→Int)→Prop} {S:Had.RS} (hB:1≤B) (hM:B ^ (2*rmx)≤2 ^ 124) (ok:Had.ROK n m rmx B K n S) {c:Nat} (hc:c<n) (k j:Nat) :
    Had.nvk S.A S.r S.p S.d c k j*Had.nvk S.A S.r S.p S.d c k j≤2 ^ 124:=by
  have hp:B ^ S.r≤2 ^ 124:=Int.le_trans (Had.pow_mono hB (by have:=ok.r;omega)) hM
  unfold Had.nvk
  split
  · rename_i h
    have:=Had.rwi_lt S.p S.r j
    rw [Int.neg_mul_neg]
    exact Int.le_trans (ok.bar.bpiv (by omega) hc) hp
  · split
    · exact Int.le_trans ok.bar.bd hp
    · decide
theorem con_null_i {n m rmx:Nat} {B:Int} {M:Nat→Nat→Int} {K:Nat→Nat→(Nat→Nat→Int)→Prop} (hn:n≤1000) (hm:m≤1000) (hB:1≤B) (hM:B ^ (2*rmx)≤2 ^ 124)
    (hok:∀ c,c≤n→Had.ROK n m rmx B K c (Had.rrun m (Had.rini M) c)) :
    zE 318 [ssA2 m (cM n M),.p (.int .i64 n)] [(0,ooOb 1 (Had.nul n m M).1 (cM n (Had.nul n m M).2)),(1,ffOb (Had.nul n m M).1 (cM n (Had.nul n m M).2))] (.ar 1 0 0 (Had.nul n m M).1):=by
  have cr:=con_reduced hn hm hB hM hok rfl
  have ok:=hok n (Nat.le_refl _)
  unfold Had.nul
  generalize Had.rrun m (Had.rini M) n=S at cr ok ⊢
  have hrm:=ok.bar.rm
  refine csZ Tryz.func318 (fun cx hc=>?_)
  generalize hZ:Had.nsl (Had.nulP S) (Had.nulV n S) n=Z
  generalize hQ:Post cx [(0,ooOb 1 Z.1 (cM n Z.2)),(1,ffOb Z.1 (cM n Z.2))] (.ar 1 0 0 Z.1)=Q
  have hwrap:∀ c,c<n→∀ i,i<S.r→-(2 ^ 62)≤S.A i c∧S.A i c≤2 ^ 62:=fun c h i hi =>
    Had.sq_le (by decide) (Int.le_trans (ok.bar.bpiv hi h) (Int.le_trans (Had.pow_mono hB (by have:=ok.r;omega)) hM))
  have l2:∀ e c,c+e=n→Run Tryz.prog cx 318 zf54 (N2 n m S.A S.d (Had.rwi S.p S.r) c (Had.nsl (Had.nulP S) (Had.nulV n S) c).1 (Had.nsl (Had.nulP S) (Had.nulV n S) c).2) Q:=by
    intro e
    induction e with
    | zero =>
      intro c hcn
      obtain rfl:c=n:=by omega
      rw [hZ,← hQ]
      have hd:decide ((c:Int)<(c:Int))=false:=decide_eq_false (by omega)
      refine pkZ Tryz.func318 hc (nj c m S.A S.d (Had.rwi S.p S.r) c Z.1 Z.2) ?_
      and_intros
      iterate 2 all_goals (first | exact zN | (exact hd) | (intro t ht;simp [All];done) | simp only [All])
    | succ e ih =>
      intro c hcn
      have hr:=ih (c+1) (by omega)
      have hd:decide ((c:Int)<(n:Int))=true:=decide_eq_true (by omega)
      have hle:=Had.nsl_le (Had.nulP S) (Had.nulV n S) c
      cases hp:Had.nulP S c with
      | true =>
        rw [Had.nsl_t hp] at hr
        have hb:decide (Had.rwi S.p S.r ((c:Int).toNat+0)≥0)=true:=hp
        refine pcZ hc (ne n m S.A S.d (Had.rwi S.p S.r) c (Had.nsl (Had.nulP S) (Had.nulV n S) c).1 (Had.nsl (Had.nulP S) (Had.nulV n S) c).2) ?_ hr
        and_intros
        iterate 2 all_goals (first | exact zN | (exact hd) | (exact hb) | (intro t ht;simp [All];done) | simp only [All])
      | false =>
        rw [Had.nsl_f hp] at hr
        have hb:decide (Had.rwi S.p S.r ((c:Int).toNat+0)≥0)=false:=hp
        have cp:=con_Prim_i n (Had.nvk S.A S.r S.p S.d c n) hn (fun k _=>nvk_sq hB hM ok (by omega) n k)
        change zE 356 [inD n (Had.nvk S.A S.r S.p S.d c n)] [(0,iOb n (Had.nulV n S c))] (.ar 1 0 0 n) at cp
        generalize Had.nulV n S c=w at cp hr
        generalize Had.nsl (Had.nulP S) (Had.nulV n S) c=Y at hr hle ⊢
        have l3:∀ e k,k+e=n→Run Tryz.prog cx 318 zf8 (N3 n m S.A S.d (Had.rwi S.p S.r) c Y.1 Y.2 k (Had.nvk S.A S.r S.p S.d c k)) Q:=by
          intro e
          induction e with
          | zero =>
            intro k hk
            obtain rfl:k=n:=by omega
            have hd:decide ((k:Int)<(k:Int))=false:=decide_eq_false (by omega)
            refine pcZ hc (ni k m S.A S.d (Had.rwi S.p S.r) c Y.1 Y.2 (fun j=>if j<Y.1 then Y.2 j else w) k (Had.nvk S.A S.r S.p S.d c k) w) ?_ hr
            repeat' (first | exact aN | apply aI)
            iterate 2 all_goals (first | exact zH | (exact hd) | (exact cp) | (intro t ht;by_cases h':t<Y.1;exact ⟨by simp [h',cvtL,cvt,tg,tru,idx,idx1,idO,idM,All,Nat.ne_of_lt h'],by simp [h',cvtL,cvt,tg,tru,idx,idx1,idO,idM]⟩;rw [show t=Y.1 by omega];exact ⟨by simp [cvtL,cvt,tg,tru,idx,idx1,idO,idM,All],by simp [cvtL,cvt,tg,tru,idx,idx1,idO,idM]⟩) | (intro t ht hne;exact ⟨by omega,by simp [All,cM,show t<Y.1 by omega]⟩) | (intro _;simp [All,cM];done) | (intro t ht;simp [All];done) | simp only [All])
          | succ e ih2 =>
            intro k hk
            have hr2:=ih2 (k+1) (by omega)
            have hd:decide ((k:Int)<(n:Int))=true:=decide_eq_true (by omega)
            by_cases h0:0≤Had.rwi S.p S.r k
            · have hb:decide (Had.rwi S.p S.r ((k:Int).toNat+0)≥0)=true:=decide_eq_true h0
              have hl:=Had.rwi_lt S.p S.r k
              have hw:=hwrap c (by omega) (Had.rwi S.p S.r k).toNat (by omega)
              have hT:∀ j,j<n→(if j=k then 0 - S.A (Had.rwi S.p S.r k).toNat c else Had.nvk S.A S.r S.p S.d c k j)=Had.nvk S.A S.r S.p S.d c (k+1) j:=by
                intro j hj
                by_cases h1:j=k
                · rw [if_pos h1,h1];unfold Had.nvk;rw [if_pos ⟨by omega,h0⟩];omega
                · rw [if_neg h1];unfold Had.nvk
                  by_cases h2:j<k∧0≤Had.rwi S.p S.r j
                  · rw [if_pos h2,if_pos ⟨by omega,h2.2⟩]
                  · rw [if_neg h2,if_neg (show ¬ (j<k+1∧0≤Had.rwi S.p S.r j) from fun h3=>h2 ⟨by omega,h3.2⟩)]
              refine pcD hc (ng n m S.A S.d (Had.rwi S.p S.r) c Y.1 Y.2 k (Had.nvk S.A S.r S.p S.d c k) (Had.nvk S.A S.r S.p S.d c (k+1))) ?_ hr2
              and_intros
              iterate 2 all_goals (first | exact zI | (exact hd) | (exact hb) | (simp only [cM];omega) | (intro t ht;rw [← hT t ht];by_cases h':t=k<;>simp [h',cM,cvtL,cvt,tg,tru,All];done) | (intro t ht;simp [All];done) | simp only [All])
            · have hb:decide (Had.rwi S.p S.r ((k:Int).toNat+0)≥0)=false:=decide_eq_false h0
              have hT:∀ j,j<n→Had.nvk S.A S.r S.p S.d c k j=Had.nvk S.A S.r S.p S.d c (k+1) j:=by
                intro j hj
                unfold Had.nvk
                by_cases h2:j<k∧0≤Had.rwi S.p S.r j
                · rw [if_pos h2,if_pos ⟨by omega,h2.2⟩]
                · rw [if_neg h2,if_neg (show ¬ (j<k+1∧0≤Had.rwi S.p S.r j) from fun h3=>h2 ⟨by have:j≠k:=fun e=>h0 (e ▸ h3.2);omega,h3.2⟩)]
              refine pcD hc (nh n m S.A S.d (Had.rwi S.p S.r) c Y.1 Y.2 k (Had.nvk S.A S.r S.p S.d c k) (Had.nvk S.A S.r S.p S.d c (k+1))) ?_ hr2
              and_intros
              iterate 2 all_goals (first | exact zN | (exact hd) | (exact hb) | (intro t ht;rw [hT t ht];simp [All];done) | (intro t ht;simp [All];done) | simp only [All])
        refine pcD hc (nf n m S.A S.d (Had.rwi S.p S.r) c Y.1 Y.2 (Had.nvk S.A S.r S.p S.d c 0)) ?_ (l3 n 0 (by omega))
        and_intros
        iterate 2 all_goals (first | exact zI | (exact hd) | (exact hb) | (intro t ht;unfold Had.nvk;by_cases h':t=c<;>simp [h',cvtL,cvt,tg,tru,All];done) | (intro t ht;simp [All];done) | simp only [All])
  have l1:∀ e i,i+e=S.r→Run Tryz.prog cx 318 zf65 (N1 n m S.A S.r (fun i=>(S.p i:Int)) S.d i (Had.rwi S.p i)) Q:=by
    intro e
    induction e with
    | zero =>
      intro i hi
      obtain rfl:i=S.r:=by omega
      have hd:decide ((S.r:Int)<(S.r:Int))=false:=decide_eq_false (by omega)
      refine pcD hc (nd n m S.A S.r (fun i=>(S.p i:Int)) S.d S.r (Had.rwi S.p S.r) (fun _ _=>0)) ?_ (l2 n 0 (by omega))
      and_intros
      iterate 2 all_goals (first | exact zN | (exact hd) | (intro t ht;exact absurd ht (Nat.not_lt_zero _)) | (intro t ht;simp [All];done) | simp only [All])
    | succ e ih =>
      intro i hi
      have hd:decide ((i:Int)<(S.r:Int))=true:=decide_eq_true (by omega)
      have hpn:=ok.bar.pn (show i<S.r by omega)
      refine pcZ hc (nc n m S.A S.r (fun i=>(S.p i:Int)) S.d i (Had.rwi S.p i) (Had.rwi S.p (i+1))) ?_ (ih (i+1) (by omega))
      and_intros
      iterate 2 all_goals (first | exact zI | (exact hd) | (intro t ht;rw [Had.rwi];by_cases h':t=S.p i<;>simp [h',cvtL,cvt,tg,tru,All];done) | (intro t ht;simp [All];done) | simp only [All])
  have l0:∀ e i,i+e=n→Run Tryz.prog cx 318 zf74 (N0 n m S.A S.r (fun i=>(S.p i:Int)) S.d i (fun k=>if k<i then -1 else 0)) Q:=by
    intro e
    induction e with
    | zero =>
      intro i hi
      obtain rfl:i=n:=by omega
      have hd:decide ((i:Int)<(i:Int))=false:=decide_eq_false (by omega)
      refine pcZ hc (nb i m S.A S.r (fun i=>(S.p i:Int)) S.d i (fun k=>if k<i then -1 else 0) (Had.rwi S.p 0)) ?_ (l1 S.r 0 (by omega))
      and_intros
      iterate 2 all_goals (first | exact zN | (exact hd) | (intro t ht;rw [Had.rwi];simp [ht,All];done) | (intro t ht;simp [All];done) | simp only [All])
    | succ e ih =>
      intro i hi
      have hd:decide ((i:Int)<(n:Int))=true:=decide_eq_true (by omega)
      refine pcZ hc (na n m S.A S.r (fun i=>(S.p i:Int)) S.d i (fun k=>if k<i then -1 else 0) (fun k=>if k<i+1 then -1 else 0)) ?_ (ih (i+1) (by omega))
      and_intros
      iterate 2 all_goals (first | exact zI | (exact hd) | (intro t ht;by_cases h':t=i<;>simp [h',Nat.lt_succ_iff_lt_or_eq,cvtL,cvt,tg,tru,All];done) | (intro t ht;simp [All];done) | simp only [All])
  refine pcZ hc (nz n m M S.A S.r (fun i=>(S.p i:Int)) S.d (fun k=>if k<0 then -1 else 0)) ?_ (l0 n 0 (by omega))
  and_intros
  iterate 2 all_goals (first | exact zN | (exact cr) | (intro t ht;simp [All];done) | simp only [All])
theorem hasI_rwi (p:Nat→Nat) (c:Nat):∀ r,hasI (fun i=>(p i:Int)) (c:Int) r=decide (0≤Had.rwi p r c)
  | 0=>rfl
  | r+1=>by
    rw [hasI,hasI_rwi p c r,Had.rwi]
    by_cases h:c=p r
    · rw [if_pos h]
      have:((p r:Int)==(c:Int))=true:=by simp [h]
      rw [this,Bool.or_true]
      exact (decide_eq_true (by omega)).symm
    · rw [if_neg h]
      have:((p r:Int)==(c:Int))=false:=by simp;omega
      rw [this,Bool.or_false]
theorem absT (a:Int):(if True then (if 0 - a>a then 0 - a else a) else (if 0 - a<a then 0 - a else a))=(a.natAbs:Int):=by rw [if_pos trivial];split<;>omega
theorem con_null_s {n m rmx:Nat} {B:Int} {M:Nat→Nat→Int} {K:Nat→Nat→(Nat→Nat→Int)→Prop} (hn:n≤1000) (hm:m≤1000) (hB:1≤B) (hM:B ^ (2*rmx)≤2 ^ 124) (hx1:1≤rmx)
    (hok:∀ c,c≤n→Had.ROK n m rmx B K c (Had.rrun m (Had.rini M) c)) :
    zE 315 [ssA2 m (cM n M),.p (.int .i64 n)] [(0,ooOb 1 (Had.nul n m M).1 (cM n (Had.nul n m M).2)),(1,ffOb (Had.nul n m M).1 (cM n (Had.nul n m M).2))] (.ar 1 0 0 (Had.nul n m M).1):=by
  have cr:=con_l9Reduced hn hm hB hM hx1 hok rfl
  have ok:=hok n (Nat.le_refl _)
  unfold Had.nul
  generalize Had.rrun m (Had.rini M) n=S at cr ok ⊢
  have hrm:=ok.bar.rm
  refine csZ Tryz.func315 (fun cx hc=>?_)
  generalize hZ:Had.nsl (Had.nulP S) (Had.nulV n S) n=Z
  generalize hQ:Post cx [(0,ooOb 1 Z.1 (cM n Z.2)),(1,ffOb Z.1 (cM n Z.2))] (.ar 1 0 0 Z.1)=Q
  have hpow:B ^ S.r≤2 ^ 124:=Int.le_trans (Had.pow_mono hB (by have:=ok.r;omega)) hM
  have hrc:=ok.rc
  let O:Nat→Nat→Int:=fun i=>Had.prm n (S.A i)
  have hO:∀ i k,i<S.r→k<n→O i k*O i k≤B ^ S.r:=fun i k hi hk=>Int.le_trans (Had.prm_sq hk) (ok.bar.bpiv hi hk)
  have hd62:=nat_sq (Int.le_trans ok.bar.bd hpow)
  have l0:∀ e c,c+e=n→Run Tryz.prog cx 315 zf75 (L0 n m O S.r (fun i=>(S.p i:Int)) c (Had.nsl (Had.nulP S) (Had.nulV n S) c).1 (Had.nsl (Had.nulP S) (Had.nulV n S) c).2) Q:=by
    intro e
    induction e with
    | zero =>
      intro c hcn
      obtain rfl:c=n:=by omega
      rw [hZ,← hQ]
      have hd:decide ((c:Int)<(c:Int))=false:=decide_eq_false (by omega)
      refine pkZ Tryz.func315 hc (lg c m O S.r (fun i=>(S.p i:Int)) c Z.1 Z.2) ?_
      and_intros
      iterate 2 all_goals (first | exact zN | (exact hd) | (intro t ht;simp [All];done) | simp only [All])
    | succ e ih =>
      intro c hcn
      have hr:=ih (c+1) (by omega)
      have hd:decide ((c:Int)<(n:Int))=true:=decide_eq_true (by omega)
      have hle:=Had.nsl_le (Had.nulP S) (Had.nulV n S) c
      have ch:=con_l2Has (S.r,fun i=>(S.p i:Int)) (c:Int) (by show S.r≤1048576;omega)
      rw [show hasI (S.r,fun i=>(S.p i:Int)).2 (c:Int) (S.r,fun i=>(S.p i:Int)).1=Had.nulP S c from hasI_rwi S.p c S.r] at ch
      cases hp:Had.nulP S c with
      | true =>
        rw [hp] at ch
        rw [Had.nsl_t hp] at hr
        refine pcZ hc (la n m O S.r (fun i=>(S.p i:Int)) c (Had.nsl (Had.nulP S) (Had.nulV n S) c).1 (Had.nsl (Had.nulP S) (Had.nulV n S) c).2) ?_ hr
        and_intros
        iterate 2 all_goals (first | exact zN | (exact hd) | (exact ch) | (intro t ht;simp [All];done) | simp only [All])
      | false =>
        rw [hp] at ch
        rw [Had.nsl_f hp] at hr
        have hw0:∀ k,k<n→Had.prm n (Had.svk O S.p (Had.lcf O S.p c S.r) c S.r) k=Had.nulV n S c k:=fun k hk=>ok.bar.null (by omega) hk
        generalize Had.nulV n S c=w at hr hw0
        generalize Had.nsl (Had.nulP S) (Had.nulV n S) c=Y at hr hle ⊢
        have hdv:=fun i (hi:i≤S.r)=>ok.bar.lcf_dvd c (by omega) i hi
        change ∀ i,i≤S.r→Had.lcf O S.p c i ∣ S.d.natAbs∧0<Had.lcf O S.p c i at hdv
        have hd1:=ok.bar.d0
        have hlc:∀ i,i≤S.r→Had.lcf O S.p c i≤2 ^ 62:=fun i hi=>Nat.le_trans (Nat.le_of_dvd (by omega) (hdv i hi).1) hd62
        have hlsq:((Had.lcf O S.p c S.r:Nat):Int)*((Had.lcf O S.p c S.r:Nat):Int)≤B ^ S.r:=by
          refine Int.le_trans ?_ ok.bar.bd
          have h1:=Nat.le_of_dvd (by omega) (hdv S.r (Nat.le_refl _)).1
          have h2:=Int.mul_le_mul (a:=(Had.lcf O S.p c S.r:Nat)) (c:=S.d.natAbs) (b:=(Had.lcf O S.p c S.r:Nat)) (d:=S.d.natAbs) (by omega) (by omega) (by omega) (by omega)
          rwa [Int.natAbs_mul_self'] at h2
        have hz:∀ i,i<S.r→O i (S.p i)≠0∧O i (S.p i) ∣ O i c*((Had.lcf O S.p c S.r:Nat):Int)∧(O i c*((Had.lcf O S.p c S.r:Nat):Int))*(O i c*((Had.lcf O S.p c S.r:Nat):Int))≤2 ^ 124:=fun i hi=>by
          obtain ⟨g1,_,_⟩:=ok.bar.prm_p hi c (by omega)
          exact ⟨g1,Had.dvd_bd (Had.lcf_q O S.p c S.r i hi),sq_of (Had.prod_le hB hM (hO i c hi (by omega)) hlsq (by have:=ok.r;omega))⟩
        have hzq:∀ i,i<S.r→(O i c*((Had.lcf O S.p c S.r:Nat):Int)).tdiv (O i (S.p i))*(O i c*((Had.lcf O S.p c S.r:Nat):Int)).tdiv (O i (S.p i))≤2 ^ 124:=fun i hi=>by
          obtain ⟨z1,⟨q,hq⟩,z3⟩:=hz i hi
          rw [hq] at z3 ⊢
          rw [Int.mul_tdiv_cancel_left _ z1]
          exact Int.le_trans (Had.mul_abs_le z1) z3
        have hvsq:∀ k,k<n→Had.svk O S.p (Had.lcf O S.p c S.r) c S.r k*Had.svk O S.p (Had.lcf O S.p c S.r) c S.r k≤2 ^ 124:=fun k hk=>by
          unfold Had.svk
          split
          · have:=Had.rwi_lt S.p S.r k
            rw [Int.neg_mul_neg]
            exact hzq _ (by omega)
          · split
            · exact Int.le_trans hlsq hpow
            · decide
        have cp:=con_Prim_s n (Had.svk O S.p (Had.lcf O S.p c S.r) c S.r) hn hvsq
        generalize hL:((Had.lcf O S.p c S.r:Nat):Int)=L at hz hzq hlsq cp hw0
        generalize hw1:Had.prm n (Had.svk O S.p L c S.r)=w1 at cp hw0
        have l2:∀ e i,i+e=S.r→Run Tryz.prog cx 315 zf12 (L2 n m O S.r (fun i=>(S.p i:Int)) c Y.1 Y.2 L (Had.svk O S.p L c i) i) Q:=by
          intro e
          induction e with
          | zero =>
            intro i hi
            obtain rfl:i=S.r:=by omega
            have hd:decide ((S.r:Int)<(S.r:Int))=false:=decide_eq_false (by omega)
            refine pcZ hc (lf n m O S.r (fun i=>(S.p i:Int)) c Y.1 Y.2 (fun j=>if j<Y.1 then Y.2 j else w) L (Had.svk O S.p L c S.r) w1 S.r) ?_ hr
            repeat' (first | exact aN | apply aI)
            iterate 2 all_goals (first | exact zH | (exact hd) | (exact cp) | (intro t ht;by_cases h':t<Y.1;exact ⟨by simp [h',cvtL,cvt,tg,tru,idx,idx1,idO,idM,All,Nat.ne_of_lt h'],by simp [h',cvtL,cvt,tg,tru,idx,idx1,idO,idM]⟩;rw [show t=Y.1 by omega];exact ⟨by simp [cvtL,cvt,tg,tru,idx,idx1,idO,idM,All],by simp [cvtL,cvt,tg,tru,idx,idx1,idO,idM]⟩) | (intro t ht hne;exact ⟨by omega,by simp [All,cM,show t<Y.1 by omega]⟩) | (intro _;simp only [All,cM];exact ⟨trivial,Nat.le_refl _,fun t ht=>by rw [if_neg (Nat.lt_irrefl _),hw0 t ht],trivial⟩) | (intro t ht;simp [All];done) | simp only [All])
          | succ e ih2 =>
            intro i hi
            have hd:decide ((i:Int)<(S.r:Int))=true:=decide_eq_true (by omega)
            obtain ⟨z1,z2,z3⟩:=hz i (by omega)
            have hwr:=tdiv_wrap z2 z1 z3
            have hb1:=Had.sq_le (y:=2 ^ 62) (by decide) z3
            have hb2:=Had.sq_le (y:=2 ^ 62) (by decide) (hzq i (by omega))
            have hpn:=ok.bar.pn (show i<S.r by omega)
            have hT:∀ j,j<n→(if j=S.p i then 0 - (O i c*L).tdiv (O i (S.p i)) else Had.svk O S.p L c i j)=Had.svk O S.p L c (i+1) j:=by
              intro j hj
              unfold Had.svk
              by_cases h1:j=S.p i
              · have e1:Had.rwi S.p (i+1) j=i:=by rw [Had.rwi,if_pos h1]
                rw [if_pos h1,e1,if_pos (Int.natCast_nonneg i),Int.toNat_natCast]
                omega
              · have e1:Had.rwi S.p (i+1) j=Had.rwi S.p i j:=by rw [Had.rwi,if_neg h1]
                rw [if_neg h1,e1]
            refine pcD hc (le n m O S.r (fun i=>(S.p i:Int)) c Y.1 Y.2 L (Had.svk O S.p L c i) (Had.svk O S.p L c (i+1)) i) ?_ (ih2 (i+1) (by omega))
            and_intros
            iterate 2 all_goals (first | exact zI | (exact hd) | (exact z1) | (simp only [cM,Int.toNat_natCast,hwr];omega) | (intro t ht;simp only [cM,Int.toNat_natCast,hwr];rw [← hT t ht];by_cases h':t=S.p i<;>simp [h',cvtL,cvt,tg,tru,All];done) | (intro t ht;simp [All];done) | simp only [All])
        have l1:∀ e i,i+e=S.r→Run Tryz.prog cx 315 zf15 (L1 n m O S.r (fun i=>(S.p i:Int)) c Y.1 Y.2 (Had.lcf O S.p c i:Nat) i) Q:=by
          intro e
          induction e with
          | zero =>
            intro i hi
            obtain rfl:i=S.r:=by omega
            have hd:decide ((S.r:Int)<(S.r:Int))=false:=decide_eq_false (by omega)
            rw [hL]
            refine pcZ hc (ld n m O S.r (fun i=>(S.p i:Int)) c Y.1 Y.2 L S.r (Had.svk O S.p L c 0)) ?_ (l2 S.r 0 (by omega))
            and_intros
            iterate 2 all_goals (first | exact zI | (exact hd) | (intro t ht;unfold Had.svk;rw [Had.rwi];by_cases h':t=c<;>simp [h',cvtL,cvt,tg,tru,All];done) | (intro t ht;simp [All];done) | simp only [All])
          | succ e ih2 =>
            intro i hi
            have hd:decide ((i:Int)<(S.r:Int))=true:=decide_eq_true (by omega)
            have hr2:=ih2 (i+1) (by omega)
            have hpn:=ok.bar.pn (show i<S.r by omega)
            obtain ⟨g1,g2,g3⟩:=ok.bar.prm_p (show i<S.r by omega) c (by omega)
            have a1:=Int.le_trans (hO i (S.p i) (by omega) hpn) hpow
            have a2:=Int.le_trans (hO i c (by omega) (by omega)) hpow
            have c1:=con_Gcd_s (a:=(O i (S.p i)).natAbs) (b:=O i c) (by rw [Int.natAbs_mul_self'];exact a1) a2
            have hq1:Had.qv O S.p c i≤2 ^ 62:=Nat.le_trans (Nat.div_le_self _ _) (nat_sq a1)
            have hq0:0<Had.qv O S.p c i:=Had.q_pos g1
            have c2:=con_Gcd_s (a:=(Had.lcf O S.p c i:Nat)) (b:=(Had.qv O S.p c i:Nat)) (sq_nat (hlc i (by omega))) (sq_nat hq1)
            have e1:Int.gcd ((O i (S.p i)).natAbs:Int) (O i c)=Nat.gcd (O i (S.p i)).natAbs (O i c).natAbs:=rfl
            have e2:Int.gcd ((Had.lcf O S.p c i:Nat):Int) ((Had.qv O S.p c i:Nat):Int)=Nat.gcd (Had.lcf O S.p c i) (Had.qv O S.p c i):=rfl
            rw [e1] at c1
            rw [e2] at c2
            have p1:0<Nat.gcd (O i (S.p i)).natAbs (O i c).natAbs:=Nat.gcd_pos_of_pos_left _ (by have:O i (S.p i)≠0:=g1;omega)
            have p2:0<Nat.gcd (Had.lcf O S.p c i) (Had.qv O S.p c i):=Nat.gcd_pos_of_pos_right _ hq0
            have f1:((O i (S.p i)).natAbs:Int) / ((Nat.gcd (O i (S.p i)).natAbs (O i c).natAbs:Nat):Int)=((Had.qv O S.p c i:Nat):Int):=rfl
            have f2:((Had.lcf O S.p c i:Nat):Int) / ((Nat.gcd (Had.lcf O S.p c i) (Had.qv O S.p c i):Nat):Int)*((Had.qv O S.p c i:Nat):Int)=((Had.lcf O S.p c (i+1):Nat):Int):=by
              rw [show Had.lcf O S.p c (i+1)=Nat.lcm (Had.lcf O S.p c i) (Had.qv O S.p c i) from rfl,← Had.lcm_is _ _ p2]
              rfl
            have f3:((Had.lcf O S.p c i:Nat):Int) / ((Nat.gcd (Had.lcf O S.p c i) (Had.qv O S.p c i):Nat):Int)≤2 ^ 62:=by
              have h1:=Nat.le_trans (Nat.div_le_self (Had.lcf O S.p c i) (Nat.gcd (Had.lcf O S.p c i) (Had.qv O S.p c i))) (hlc i (by omega))
              exact Int.ofNat_le.2 h1
            have h4:=hlc (i+1) (by omega)
            have hb1:=Had.sq_le (y:=2 ^ 62) (by decide) a1
            have u0:(0:Int)≤((O i (S.p i)).natAbs:Int):=Int.natCast_nonneg _
            have u1:((O i (S.p i)).natAbs:Int) / ((Nat.gcd (O i (S.p i)).natAbs (O i c).natAbs:Nat):Int)≤9223372036854775807:=by rw [f1];omega
            have u2:-9223372036854775808≤((Had.lcf O S.p c i:Nat):Int) / ((Nat.gcd (Had.lcf O S.p c i) (Had.qv O S.p c i):Nat):Int)*(((O i (S.p i)).natAbs:Int) / ((Nat.gcd (O i (S.p i)).natAbs (O i c).natAbs:Nat):Int)):=by rw [f1,f2];omega
            have u3:((Had.lcf O S.p c i:Nat):Int) / ((Nat.gcd (Had.lcf O S.p c i) (Had.qv O S.p c i):Nat):Int)*(((O i (S.p i)).natAbs:Int) / ((Nat.gcd (O i (S.p i)).natAbs (O i c).natAbs:Nat):Int))≤9223372036854775807:=by rw [f1,f2];omega
            have u4:((Had.lcf O S.p c i:Nat):Int) / ((Nat.gcd (Had.lcf O S.p c i) (Had.qv O S.p c i):Nat):Int)*(((O i (S.p i)).natAbs:Int) / ((Nat.gcd (O i (S.p i)).natAbs (O i c).natAbs:Nat):Int))=((Had.lcf O S.p c (i+1):Nat):Int):=by rw [f1,f2]
            have u5:-9223372036854775808≤0 - O i (S.p i)∧0 - O i (S.p i)≤9223372036854775807:=by omega
            have c2':zE 354 [.p (.int .i64 (Had.lcf O S.p c i:Nat)),.p (.int .i64 (((O i (S.p i)).natAbs:Int) / ((Nat.gcd (O i (S.p i)).natAbs (O i c).natAbs:Nat):Int)))] [] (.p (.int .i64 (Nat.gcd (Had.lcf O S.p c i) (Had.qv O S.p c i):Nat))):=by rw [f1];exact c2
            refine pcD hc (lc n m O S.r (fun i=>(S.p i:Int)) c Y.1 Y.2 (Had.lcf O S.p c i:Nat) (Nat.gcd (O i (S.p i)).natAbs (O i c).natAbs:Nat) (Nat.gcd (Had.lcf O S.p c i) (Had.qv O S.p c i):Nat) (Had.lcf O S.p c (i+1):Nat) i) ?_ hr2
            and_intros
            iterate 2 all_goals (first | exact zN | (exact hd) | (exact u5.1) | (exact u5.2) | (simp only [absT];exact c1) | (simp only [absT];exact c2') | (simp only [absT];exact u0) | (simp only [absT];exact u1) | (simp only [absT];exact u2) | (simp only [absT];exact u3) | (simp only [absT];exact u4) | (intro t ht;simp [All];done) | simp only [All])
        refine pcZ hc (lb n m O S.r (fun i=>(S.p i:Int)) c Y.1 Y.2) ?_ (l1 S.r 0 (by omega))
        and_intros
        iterate 2 all_goals (first | exact zN | (exact hd) | (exact ch) | (intro t ht;simp [All];done) | simp only [All])
  refine pcZ hc (lz n m M O S.r (fun i=>(S.p i:Int)) (fun _ _=>0)) ?_ (l0 n 0 (by omega))
  and_intros
  iterate 2 all_goals (first | exact zN | (exact cr) | (intro t ht;exact absurd ht (Nat.not_lt_zero _)) | (intro t ht;simp [All];done) | simp only [All])
def sp0 (pl:Nat→T_Place) (i:Nat):Bool:=(pl i).1==(pl 0).1&&((pl i).2.1==(pl 0).2.1&&true)
def FfI (g:Nat→T_Bar) (nb N:Nat) (pl:Nat→T_Place) (np:Nat) (i:Nat) (b:Bool):St :=
  ⟨[.p .any,.pt 3 0 0 0,.p .any,.p (.int .i64 3),.p (.bool b)]++List.replicate 6 anyA++[pcL pl np,.p (.int .i64 np),.p (.int .i64 i)]++List.replicate 23 anyA,[(0,fbx g nb N pl np)],1⟩
def TvS (g:Nat→T_Bar) (nb N:Nat) (pl:Nat→T_Place) (np:Nat) (i:Nat):St :=
  ⟨[.p .any,.pt 3 0 0 0,.p .any,.p (.int .i64 i)]++List.replicate 17 anyA,[(0,fbx g nb N pl np)],1⟩
theorem ffN (g:Nat→T_Bar) (nb:Nat) (N:Int) (pl:Nat→T_Place) (np:Nat) :
    zS Tryz.f131 [rg 2,rm [(1,oc [] (.p (.bool false)))] 1,.dec true,rg 1] [frA g nb N pl np] [] [] (.p (.int .i64 (-1))) =
    some [(NT 0 1),zE 128 [(zf60 N nb g np pl)] [] (.p (.bool false)),((!false)=true),(AI ((-1)))]:=by kernel_rfl
theorem ffZ (g:Nat→T_Bar) (nb N:Nat) (pl:Nat→T_Place) (np:Nat) :
    zT Tryz.f131 [rg 2,rm [(1,oc [] (.p (.bool true)))] 1,.dec false,rg 1,rg 1,rg 4,.head] [frA g nb N pl np] [0] (FfI g nb N pl np 0 true) =
    some (zf66,[(NT 0 1),zE 128 [(zf56 N nb g np pl)] [] (.p (.bool true)),((!true)=false),(NT 0 1),(AN 0),(AI 3),(true=true),(AN np),(AP np (bRw pl)),(AI ((↑np:Int))),((0:Int)=(↑0:Int)),((([AV.p (PV.int IntKind.i64 (↑N:Int)),brL g nb,pcL pl np].length):Nat)=3),(NL 1 1),(NL 1 1),(AI ((↑N:Int))),(AN nb),(AP nb (bRw g)),(AN np),(AP np (bRw pl))]):=by kernel_rfl
theorem ffL (g:Nat→T_Bar) (nb N:Nat) (pl:Nat→T_Place) (np:Nat) (i:Nat) (b b':Bool) :
    zM 0 [rg 1,.dec true,rg 4,rg 10,rg 2,.head] zf66 (FfI g nb N pl np i b) [0] 1 (FfI g nb N pl np (i+1) b') =
    some (zf66,zD [((decide ((↑i:Int)<(↑np:Int)))=true),(IL 0 (↑i:Int)),(IT (↑i:Int) (↑np:Int)),(NT 0 1),((true=true)→ (AN 1)),((b=true)→(NT 0 1)),(AG b),((b=true)→(IL 0 0)),((b=true)→(IT 0 (↑np:Int))),(ZLo ((↑i:Int)+1)),(ZHi ((↑i:Int)+1)),(AN 0),(AI 3),((bif b then (pl i).1==(pl 0).1&&((pl i).2.1==(pl 0).2.1&&true) else false)=b'),(AN np),(AP np (bRw pl)),(AI ((↑np:Int))),((((↑i:Int)+1):Int)=(↑(i+1):Int)),(AN 3),(NL 1 1),(AI ((↑N:Int))),(AN nb),(AP nb (bRw g))] [0,1,2,3,4,5,6,5,6,7,8,6,6,6,6,9,10,11,12,13,14,15,16,17,18,19,19,20,21,22,14,15]):=by kernel_rfl
theorem ff2 (g:Nat→T_Bar) (nb N:Nat) (pl:Nat→T_Place) (np:Nat) (i:Nat) (r:Int) :
    zP Tryz.f131 0 [rg 1,.dec false,rg 1,.dec true,rg 1,rm [(7,oc [] (.p (.int .i64 r)))] 2] zf66 (FfI g nb N pl np i true) [] 1 [] (.p (.int .i64 (2*(N:Int) - 2 - r))) =
    some [((decide ((↑i:Int)<(↑np:Int)))=false),(true=true),(NT 0 1),(ZLo (2*(↑N:Int))),(ZHi (2*(↑N:Int))),(ZLo (2*(↑N:Int) - 2)),(ZHi (2*(↑N:Int) - 2)),(NT 0 1),zE 130 [(zf50 N nb g np pl)] [] (.p (.int .i64 r)),(ZLo (2*(↑N:Int) - 2 - r)),(ZHi (2*(↑N:Int) - 2 - r)),(AI ((2*(↑N:Int) - 2 - r)))]:=by kernel_rfl
theorem ff3 (g:Nat→T_Bar) (nb N:Nat) (pl:Nat→T_Place) (np:Nat) (i:Nat) (r:Int) :
    zP Tryz.f131 0 [rg 1,.dec false,rg 1,.dec false,rm [(7,oc [] (.p (.int .i64 r)))] 2] zf66 (FfI g nb N pl np i false) [] 1 [] (.p (.int .i64 (2*(N:Int) - 3 - r))) =
    some [((decide ((↑i:Int)<(↑np:Int)))=false),(false=false),(NT 0 1),(ZLo (2*(↑N:Int))),(ZHi (2*(↑N:Int))),(ZLo (2*(↑N:Int) - 3)),(ZHi (2*(↑N:Int) - 3)),(NT 0 1),zE 130 [(zf50 N nb g np pl)] [] (.p (.int .i64 r)),(ZLo (2*(↑N:Int) - 3 - r)),(ZHi (2*(↑N:Int) - 3 - r)),(AI ((2*(↑N:Int) - 3 - r)))]:=by kernel_rfl
theorem fgN (g:Nat→T_Bar) (nb:Nat) (N:Int) (pl:Nat→T_Place) (np:Nat) :
    zS Tryz.f120 [rg 2,rm [(1,oc [] (.p (.bool false)))] 1,.dec true,rg 1] [frA g nb N pl np] [] [] (.p (.int .i64 (-1))) =
    some [(NT 0 1),zE 117 [(zf60 N nb g np pl)] [] (.p (.bool false)),((!false)=true),(AI ((-1)))]:=by kernel_rfl
theorem fgR (g:Nat→T_Bar) (nb N:Nat) (pl:Nat→T_Place) (np:Nat) (t r:Int) :
    zS Tryz.f120 [rg 2,rm [(1,oc [] (.p (.bool true)))] 1,.dec false,rm [(5,oc [] (.p (.int .i64 t))),(2,oc [] (.p (.int .i64 r)))] 2] [frA g nb N pl np] [] [] (.p (.int .i64 (2*(N:Int) - t - r))) =
    some [(NT 0 1),zE 117 [(zf56 N nb g np pl)] [] (.p (.bool true)),((!true)=false),(NT 0 1),(ZLo (2*(↑N:Int))),(ZHi (2*(↑N:Int))),(NT 0 1),zE 228 [(zf56 N nb g np pl)] [] (.p (.int .i64 t)),(ZLo (2*(↑N:Int) - t)),(ZHi (2*(↑N:Int) - t)),(NT 0 1),zE 119 [(zf56 N nb g np pl)] [] (.p (.int .i64 r)),(ZLo (2*(↑N:Int) - t - r)),(ZHi (2*(↑N:Int) - t - r)),(AI ((2*(↑N:Int) - t - r)))]:=by kernel_rfl
theorem tvZ (g:Nat→T_Bar) (nb N:Nat) (pl:Nat→T_Place) (np:Nat) :
    zT Tryz.f228 [rg 2,rg 1,.head] [frA g nb N pl np] [0] (TvS g nb N pl np 1) =
    some (zf117,[(AN 0),((1:Int)=(↑1:Int)),((([AV.p (PV.int IntKind.i64 (↑N:Int)),brL g nb,pcL pl np].length):Nat)=3),(NL 1 1),(NL 1 1),(AI ((↑N:Int))),(AN nb),(AP nb (bRw g)),(AN np),(AP np (bRw pl))]):=by kernel_rfl
theorem tvL (g:Nat→T_Bar) (nb N:Nat) (pl:Nat→T_Place) (np:Nat) (i:Nat) :
    zM 0 [rg 5,.dec true,rg 10,.dec false,rg 3,.head] zf117 (TvS g nb N pl np i) [0] 1 (TvS g nb N pl np (i+1)) =
    some (zf117,[(NT 0 1),((decide ((↑i:Int)<(↑np:Int)))=true),(NT 0 1),(IL 0 (↑i:Int)),(IT (↑i:Int) (↑np:Int)),(NT 0 1),(IL 0 0),(IT 0 (↑np:Int)),((!((pl i).1==(pl 0).1&&((pl i).2.1==(pl 0).2.1&&true)))=false),(ZLo ((↑i:Int)+1)),(ZHi ((↑i:Int)+1)),(AN 0),((((↑i:Int)+1):Int)=(↑(i+1):Int)),(AN 3),(NL 1 1),(NL 1 1),(AI ((↑N:Int))),(AN nb),(AP nb (bRw g)),(AN np),(AP np (bRw pl))]):=by kernel_rfl
theorem tv3 (g:Nat→T_Bar) (nb N:Nat) (pl:Nat→T_Place) (np:Nat) (i:Nat) :
    zP Tryz.f228 0 [rg 5,.dec true,rg 10,.dec true,rg 1] zf117 (TvS g nb N pl np i) [] 1 [] (.p (.int .i64 3)) =
    some [(NT 0 1),((decide ((↑i:Int)<(↑np:Int)))=true),(NT 0 1),(IL 0 (↑i:Int)),(IT (↑i:Int) (↑np:Int)),(NT 0 1),(IL 0 0),(IT 0 (↑np:Int)),((!((pl i).1==(pl 0).1&&((pl i).2.1==(pl 0).2.1&&true)))=true),(AI 3)]:=by kernel_rfl
theorem tv2 (g:Nat→T_Bar) (nb N:Nat) (pl:Nat→T_Place) (np:Nat) (i:Nat) :
    zP Tryz.f228 0 [rg 5,.dec false,rg 1] zf117 (TvS g nb N pl np i) [] 1 [] (.p (.int .i64 2)) =
    some [(NT 0 1),((decide ((↑i:Int)<(↑np:Int)))=false),(AI 2)]:=by kernel_rfl
theorem isI (g:Nat→T_Bar) (nb:Nat) (N:Int) (pl:Nat→T_Place) (np:Nat) (r:Int) :
    zS Tryz.f133 [rg 2,rm [(1,oc [] (.p (.int .i64 r)))] 2] [frA g nb N pl np] [] [] (.p (.bool (r==0))) =
    some [(NT 0 1),zE 131 [(zf60 N nb g np pl)] [] (.p (.int .i64 r)),((r==0)=(r==0))]:=by kernel_rfl
theorem isS (g:Nat→T_Bar) (nb:Nat) (N:Int) (pl:Nat→T_Place) (np:Nat) (r:Int) :
    zS Tryz.f123 [rg 2,rm [(1,oc [] (.p (.int .i64 r)))] 2] [frA g nb N pl np] [] [] (.p (.bool (r==0))) =
    some [(NT 0 1),zE 120 [(zf60 N nb g np pl)] [] (.p (.int .i64 r)),((r==0)=(r==0))]:=by kernel_rfl
theorem moI (g:Nat→T_Bar) (nb N:Nat) (pl:Nat→T_Place) (np:Nat) (M W:Nat→Nat→Int) (q:Nat) :
    zS Tryz.f237 [rg 2,rm [(1,oc [] (.p (.bool true)))] 1,.dec false,rm [(1,oc [(0,ooOb 1 nb (cM (2*N) M)),(1,ffOb nb (cM (2*N) M))] (.ar 1 0 0 nb)),(4,⟨true,(some ⟨[],[],[193],2,[(0,ooOb 1 q (cM (2*N) W)),(1,ffOb q (cM (2*N) W))],.ar 1 0 0 q⟩),none⟩)] 1] [frA g nb N pl np] [352,353] [(0,ooOb 1 q (cM (2*N) W)),(1,ffOb q (cM (2*N) W))] (.ar 1 0 0 q) =
    some [(NT 0 1),zE 128 [(zf56 N nb g np pl)] [] (.p (.bool true)),((!true)=false),(NT 0 1),zE 235 [(zf56 N nb g np pl)] [(0,⟨false,1,nb,(fun i=>[.ar 1 ⟨1,some i⟩ 0 (2*N)])⟩),(1,⟨true,0,nb,(fun i=>[.p (.seq false 1 (2*N) (fun i_1=>[.int .i64 ((cM (2*N) M i).2 i_1)]))])⟩)] (.ar 1 0 0 nb),(NT 0 1),(ZLo (2*(↑N:Int))),(ZHi (2*(↑N:Int))),(AN 1),(NL nb nb),(∀ i:Nat,(((i:Nat)<nb)→All [((i:Nat)<nb),(AN 1),(((2*N):Nat)≤(2*N))])),zE 318 [.p (.seq true 1 nb (fun i=>[.seq true 1 (2*N) (fun i_1=>[.int .i64 ((cM (2*N) M i).2 i_1)])])),.p (.int .i64 (2*(↑N:Int)))] [(0,⟨false,1,q,(fun i=>[.ar 1 ⟨1,some i⟩ 0 (2*N)])⟩),(1,⟨true,0,q,(fun i=>[.p (.seq false 1 (2*N) (fun i_1=>[.int .i64 ((cM (2*N) W i).2 i_1)]))])⟩)] (.ar 1 0 0 q),(AN 0),(AN q),(AN 1),(NL q q),(AA q (fun i=>[.ar 1 ⟨1,some i⟩ 0 (2*N)])),(NL q q),(∀ i:Nat,(((i:Nat)<q)→All [(AN 1),(((2*N):Nat)≤(2*N)),(AP ((2*N)) (fun r=>[.int .i64 ((cM (2*N) W i).2 r)]))])),(AE q),(∀ i:Nat,(((i:Nat)<q)→All [(false=false),(AE ((2*N)))]))]:=by kernel_rfl
theorem moS (g:Nat→T_Bar) (nb N:Nat) (pl:Nat→T_Place) (np:Nat) (M W:Nat→Nat→Int) (q:Nat) :
    zS Tryz.f230 [rg 2,rm [(1,oc [] (.p (.bool true)))] 1,.dec false,rm [(1,oc [(0,ooOb 1 nb (cM (2*N) M)),(1,ffOb nb (cM (2*N) M))] (.ar 1 0 0 nb)),(4,⟨true,(some ⟨[],[],[193],2,[(0,ooOb 1 q (cM (2*N) W)),(1,ffOb q (cM (2*N) W))],.ar 1 0 0 q⟩),none⟩)] 1] [frA g nb N pl np] [352,353] [(0,ooOb 1 q (cM (2*N) W)),(1,ffOb q (cM (2*N) W))] (.ar 1 0 0 q) =
    some [(NT 0 1),zE 117 [(zf56 N nb g np pl)] [] (.p (.bool true)),((!true)=false),(NT 0 1),zE 227 [(zf56 N nb g np pl)] [(0,⟨false,1,nb,(fun i=>[.ar 1 ⟨1,some i⟩ 0 (2*N)])⟩),(1,⟨true,0,nb,(fun i=>[.p (.seq false 1 (2*N) (fun i_1=>[.int .i64 ((cM (2*N) M i).2 i_1)]))])⟩)] (.ar 1 0 0 nb),(NT 0 1),(ZLo (2*(↑N:Int))),(ZHi (2*(↑N:Int))),(AN 1),(NL nb nb),(∀ i:Nat,(((i:Nat)<nb)→All [((i:Nat)<nb),(AN 1),(((2*N):Nat)≤(2*N))])),zE 315 [.p (.seq true 1 nb (fun i=>[.seq true 1 (2*N) (fun i_1=>[.int .i64 ((cM (2*N) M i).2 i_1)])])),.p (.int .i64 (2*(↑N:Int)))] [(0,⟨false,1,q,(fun i=>[.ar 1 ⟨1,some i⟩ 0 (2*N)])⟩),(1,⟨true,0,q,(fun i=>[.p (.seq false 1 (2*N) (fun i_1=>[.int .i64 ((cM (2*N) W i).2 i_1)]))])⟩)] (.ar 1 0 0 q),(AN 0),(AN q),(AN 1),(NL q q),(AA q (fun i=>[.ar 1 ⟨1,some i⟩ 0 (2*N)])),(NL q q),(∀ i:Nat,(((i:Nat)<q)→All [(AN 1),(((2*N):Nat)≤(2*N)),(AP ((2*N)) (fun r=>[.int .i64 ((cM (2*N) W i).2 r)]))])),(AE q),(∀ i:Nat,(((i:Nat)<q)→All [(false=false),(AE ((2*N)))]))]:=by kernel_rfl
def tvF (pl:Nat→T_Place) (np:Nat):Int:=if allB (sp0 pl) np=true then 2 else 3
def ffF (g:Nat→T_Bar) (nb:Nat) (N:Int) (pl:Nat→T_Place) (np:Nat):Int:=if fwB g nb N pl np=true then 2*N - tvF pl np - frK g nb N pl np else -1
theorem frK_b (g:Nat→T_Bar) (nb:Nat) (N:Int) (pl:Nat→T_Place) (np:Nat):-1≤frK g nb N pl np∧frK g nb N pl np≤10:=by
  unfold frK
  split
  · rename_i h
    obtain ⟨n,rfl⟩:=fw_N h
    obtain ⟨h1,h2,h3,h4,hok,hb⟩:=fw_ok h
    have:=(hb.red (2*n) (Nat.le_refl _)).r
    show -1≤((Had.rrun nb (Had.rini (rgM g pl)) (2*n)).r:Int)∧((Had.rrun nb (Had.rini (rgM g pl)) (2*n)).r:Int)≤10
    unfold rgM
    omega
  · omega
theorem con_Freedom_i (g:Nat→T_Bar) (nb:Nat) (N:Int) (pl:Nat→T_Place) (np:Nat) (hn:nb≤1048576∧np≤1048576) :
    zE 131 [frA g nb N pl np] [] (.p (.int .i64 (ffF g nb N pl np))):=by
  have cf:=con_IsFramework_i g nb N pl np hn
  have ck:=con_FrRank_i g nb N pl np hn
  have hk:=frK_b g nb N pl np
  unfold ffF
  cases hf:fwB g nb N pl np with
  | false =>
    rw [hf] at cf
    rw [if_neg Bool.false_ne_true]
    refine csZ Tryz.func131 (fun c hc=>?_)
    refine pkZ Tryz.func131 hc (ffN g nb N pl np) ?_
    and_intros
    all_goals (first | exact zN | (exact cf) | rfl)
  | true =>
    rw [hf] at cf
    rw [if_pos rfl]
    obtain ⟨n,rfl⟩:=fw_N hf
    obtain ⟨h1,h2,h3,h4,hok,hb⟩:=fw_ok hf
    generalize frK g nb n pl np=r at *
    refine csZ Tryz.func131 (fun c hc=>?_)
    have lo:∀ d i,i+d=np→zR c 131 zf66 (FfI g nb n pl np i (allB (sp0 pl) i)) (Post c [] (.p (.int .i64 (2*(n:Int) - tvF pl np - r)))):=by
      intro d
      induction d with
      | zero =>
        intro i hi
        obtain rfl:i=np:=by omega
        have hd:decide ((i:Int)<(i:Int))=false:=decide_eq_false (by omega)
        unfold tvF
        cases hs:allB (sp0 pl) i with
        | true =>
          rw [if_pos rfl]
          refine pkZ Tryz.func131 hc (ff2 g nb n pl i i r) ?_
          and_intros
          all_goals (first | exact zN | (exact hd) | (exact ck))
        | false =>
          rw [if_neg Bool.false_ne_true]
          refine pkZ Tryz.func131 hc (ff3 g nb n pl i i r) ?_
          and_intros
          all_goals (first | exact zN | (exact hd) | (exact ck))
      | succ d ih =>
        intro i hi
        have hd:decide ((i:Int)<(np:Int))=true:=decide_eq_true (by omega)
        have hb':(bif allB (sp0 pl) i then (pl i).1==(pl 0).1&&((pl i).2.1==(pl 0).2.1&&true) else false)=allB (sp0 pl) (i+1):=by
          rw [allB];cases allB (sp0 pl) i<;>rfl
        refine pcD hc (ffL g nb n pl np i (allB (sp0 pl) i) (allB (sp0 pl) (i+1))) ?_ (ih (i+1) (by omega))
        and_intros
        all_goals (first | exact zI | (exact hd) | (exact hb') | (intro h;exact h) | (intro h;omega) | (intro t ht;simp [All];done))
    refine pcZ hc (ffZ g nb n pl np) ?_ (lo np 0 (by omega))
    and_intros
    all_goals (first | exact zN | (exact cf) | (intro t ht;simp [All];done))
theorem con_Trivial_s {g:Nat→T_Bar} {nb N:Nat} {pl:Nat→T_Place} {np:Nat} (hf:fwB g nb N pl np=true) :
    zE 228 [frA g nb N pl np] [] (.p (.int .i64 (tvF pl np))):=by
  obtain ⟨h1,h2,h3,h4,hok,hb⟩:=fw_ok hf
  have hN:=(graph_in h1).1
  refine csZ Tryz.func228 (fun c hc=>?_)
  have lo:∀ d i,i+d=np→1≤i→allB (sp0 pl) i=true→zR c 228 zf117 (TvS g nb N pl np i) (Post c [] (.p (.int .i64 (tvF pl np)))):=by
    intro d
    induction d with
    | zero =>
      intro i hi h1 ha
      obtain rfl:i=np:=by omega
      have hd:decide ((i:Int)<(i:Int))=false:=decide_eq_false (by omega)
      unfold tvF
      rw [if_pos ha]
      refine pkZ Tryz.func228 hc (tv2 g nb N pl i i) ?_
      and_intros
      all_goals (first | exact zN | (exact hd))
    | succ d ih =>
      intro i hi h1 ha
      have hd:decide ((i:Int)<(np:Int))=true:=decide_eq_true (by omega)
      cases hs:sp0 pl i with
      | true =>
        have he:(!((pl i).1==(pl 0).1&&((pl i).2.1==(pl 0).2.1&&true)))=false:=by
          show (!sp0 pl i)=false;rw [hs];rfl
        refine pcZ hc (tvL g nb N pl np i) ?_ (ih (i+1) (by omega) (by omega) (by rw [allB,ha,hs];rfl))
        and_intros
        all_goals (first | exact zN | (exact hd) | (exact he) | (intro t ht;simp [All];done))
      | false =>
        have he:(!((pl i).1==(pl 0).1&&((pl i).2.1==(pl 0).2.1&&true)))=true:=by
          show (!sp0 pl i)=true;rw [hs];rfl
        unfold tvF
        rw [if_neg (by rw [all_no (i:=i) (by omega) hs];exact Bool.false_ne_true)]
        refine pkZ Tryz.func228 hc (tv3 g nb N pl np i) ?_
        and_intros
        all_goals (first | exact zN | (exact hd) | (exact he))
  refine pcZ hc (tvZ g nb N pl np) ?_ (lo (np - 1) 1 (by omega) (Nat.le_refl _) (by simp [allB,sp0]))
  and_intros
  all_goals (first | exact zN | (intro t ht;simp [All];done))
theorem con_Freedom_s (g:Nat→T_Bar) (nb:Nat) (N:Int) (pl:Nat→T_Place) (np:Nat) (hn:nb≤1048576∧np≤1048576) :
    zE 120 [frA g nb N pl np] [] (.p (.int .i64 (ffF g nb N pl np))):=by
  have cf:=con_IsFramework_s g nb N pl np hn
  have ck:=con_FrRank_s g nb N pl np hn
  have hk:=frK_b g nb N pl np
  unfold ffF
  cases hf:fwB g nb N pl np with
  | false =>
    rw [hf] at cf
    rw [if_neg Bool.false_ne_true]
    refine csZ Tryz.func120 (fun c hc=>?_)
    refine pkZ Tryz.func120 hc (fgN g nb N pl np) ?_
    and_intros
    all_goals (first | exact zN | (exact cf) | rfl)
  | true =>
    rw [hf] at cf
    rw [if_pos rfl]
    obtain ⟨n,rfl⟩:=fw_N hf
    obtain ⟨h1,h2,h3,h4,hok,hb⟩:=fw_ok hf
    have ct:=con_Trivial_s hf
    have ht:tvF pl np=2∨tvF pl np=3:=by unfold tvF;split<;>simp
    generalize frK g nb n pl np=r at *
    generalize tvF pl np=t at *
    refine csZ Tryz.func120 (fun c hc=>?_)
    refine pkZ Tryz.func120 hc (fgR g nb n pl np t r) ?_
    and_intros
    all_goals (first | exact zN | (exact cf) | (exact ct) | (exact ck))
theorem con_IsStiff (g:Nat→T_Bar) (nb:Nat) (N:Int) (pl:Nat→T_Place) (np:Nat) (hn:nb≤1048576∧np≤1048576) :
    zE 133 [frA g nb N pl np] [] (.p (.bool (ffF g nb N pl np==0)))∧zE 123 [frA g nb N pl np] [] (.p (.bool (ffF g nb N pl np==0))):=by
  have c1:=con_Freedom_i g nb N pl np hn
  have c2:=con_Freedom_s g nb N pl np hn
  constructor
  · refine csZ Tryz.func133 (fun c hc=>?_)
    refine pkZ Tryz.func133 hc (isI g nb N pl np (ffF g nb N pl np)) ?_
    and_intros
    all_goals (first | exact zN | (exact c1))
  · refine csZ Tryz.func123 (fun c hc=>?_)
    refine pkZ Tryz.func123 hc (isS g nb N pl np (ffF g nb N pl np)) ?_
    and_intros
    all_goals (first | exact zN | (exact c2))
def moF (g:Nat→T_Bar) (nb N:Nat) (pl:Nat→T_Place):Nat×(Nat→Nat→Int):=Had.nul (2*N) nb (rgM g pl)
theorem con_Motions {g:Nat→T_Bar} {nb N:Nat} {pl:Nat→T_Place} {np:Nat} (hf:fwB g nb N pl np=true) :
    zE 237 [frA g nb N pl np] [(0,ooOb 1 (moF g nb N pl).1 (cM (2*N) (moF g nb N pl).2)),(1,ffOb (moF g nb N pl).1 (cM (2*N) (moF g nb N pl).2))] (.ar 1 0 0 (moF g nb N pl).1) ∧
    zE 230 [frA g nb N pl np] [(0,ooOb 1 (moF g nb N pl).1 (cM (2*N) (moF g nb N pl).2)),(1,ffOb (moF g nb N pl).1 (cM (2*N) (moF g nb N pl).2))] (.ar 1 0 0 (moF g nb N pl).1):=by
  obtain ⟨h1,h2,h3,h4,hok,hb⟩:=fw_ok hf
  have f1:=con_IsFramework_i g nb N pl np (by omega)
  have f2:=con_IsFramework_s g nb N pl np (by omega)
  rw [hf] at f1 f2
  have m1:=con_RM_i hf
  have m2:=con_RM_s hf
  have n1:=con_null_i (n:=2*N) (m:=nb) (M:=rgM g pl) (by omega) (by omega) (by decide) Had.big64 (fun c hc=>hb.red c hc)
  have n2:=con_null_s (n:=2*N) (m:=nb) (M:=rgM g pl) (by omega) (by omega) (by decide) Had.big64 (by decide) (fun c hc=>hb.red c hc)
  rw [show ((2*N:Nat):Int)=2*(N:Int) by omega] at n1 n2
  unfold moF
  generalize Had.nul (2*N) nb (rgM g pl)=Y at *
  constructor
  · refine csZ Tryz.func237 (fun c hc=>?_)
    refine pkZ Tryz.func237 hc (moI g nb N pl np (rgM g pl) Y.2 Y.1) ?_
    repeat' (first | exact aN | apply aI)
    iterate 2 all_goals (first | exact zN | (exact f1) | (exact m1) | (exact n1) | (intro t ht;simp only [All];exact ⟨ht,trivial,Nat.le_refl _,trivial⟩) | (intro t ht;simp [All];omega) | (intro t ht;simp [All];done) | simp only [All])
  · refine csZ Tryz.func230 (fun c hc=>?_)
    refine pkZ Tryz.func230 hc (moS g nb N pl np (rgM g pl) Y.2 Y.1) ?_
    repeat' (first | exact aN | apply aI)
    iterate 2 all_goals (first | exact zN | (exact f2) | (exact m2) | (exact n2) | (intro t ht;simp only [All];exact ⟨ht,trivial,Nat.le_refl _,trivial⟩) | (intro t ht;simp [All];omega) | (intro t ht;simp [All];done) | simp only [All])
end Go.Proofs.YtkkjoghiigiokaaGreat.Mach
namespace Go.Proofs.YtkkjoghiigiokaaGreat.Had
def dt (a v:Ve):Nat→Int
  | 0=>0
  | n+1=>dt a v n+a n*v n
theorem dt_cong {a b v w:Ve}:∀ {n:Nat},(∀ k,k<n→a k*v k=b k*w k)→dt a v n=dt b w n
  | 0,_=>rfl
  | n+1,h=>by rw [dt,dt,dt_cong (fun k hk=>h k (by omega)),h n (by omega)]
theorem dt_comb {a b c v:Ve} {x y z:Int}:∀ (n:Nat),(∀ k,k<n→x*a k=y*b k+z*c k)→x*dt a v n=y*dt b v n+z*dt c v n
  | 0,_=>by simp [dt]
  | n+1,h=>by
    have h1:=dt_comb (v:=v) n (fun k hk=>h k (Nat.lt_succ_of_lt hk))
    have h2:=h n (Nat.lt_succ_self n)
    have h3:x*(a n*v n)=(y*b n+z*c n)*v n:=by rw [← h2];grind
    rw [dt,dt,dt,Int.mul_add,h1,h3];grind
theorem dt_smul {a v w:Ve} {s:Int}:∀ {n:Nat},(∀ k,k<n→v k=s*w k)→dt a v n=s*dt a w n
  | 0,_=>by simp [dt]
  | n+1,h=>by
    rw [dt,dt,dt_smul (fun k hk=>h k (by omega)),h n (by omega)];grind
theorem dt_two {a v:Ve} {i j:Nat} (hij:i≠j) {x y:Int}:∀ {n:Nat},(∀ k,k<n→a k*v k=(if k=i then x else 0)+if k=j then y else 0) →
    dt a v n=(if i<n then x else 0)+if j<n then y else 0
  | 0,_=>by simp [dt]
  | n+1,h=>by
    rw [dt,dt_two hij (fun k hk=>h k (by omega)),h n (by omega)]
    by_cases h1:n=i
    · rw [if_pos h1,if_neg (show ¬ n=j by omega),if_neg (show ¬ i<n by omega),if_pos (show i<n+1 by omega)]
      by_cases h2:j<n
      · rw [if_pos h2,if_pos (by omega)];omega
      · rw [if_neg h2,if_neg (by omega)];omega
    · rw [if_neg h1]
      by_cases h2:n=j
      · rw [if_pos h2,if_neg (show ¬ j<n by omega),if_pos (show j<n+1 by omega)]
        by_cases h3:i<n
        · rw [if_pos h3,if_pos (by omega)];omega
        · rw [if_neg h3,if_neg (by omega)];omega
      · rw [if_neg h2]
        by_cases h3:i<n
        · rw [if_pos h3,if_pos (show i<n+1 by omega)]
          by_cases h4:j<n
          · rw [if_pos h4,if_pos (by omega)];omega
          · rw [if_neg h4,if_neg (by omega)];omega
        · rw [if_neg h3,if_neg (show ¬ i<n+1 by omega)]
          by_cases h4:j<n
          · rw [if_pos h4,if_pos (by omega)];omega
          · rw [if_neg h4,if_neg (by omega)];omega
def Zro (m c:Nat) (S:RS):Prop:=∀ i k,S.r≤i→i<m→k<c→S.A i k=0
section
variable {n m rmx:Nat} {B:Int} {K:Nat→Nat→(Nat→Ve)→Prop}
theorem rstep_zro (ht:Tame n m rmx K) {c:Nat} {S:RS} (h:ROK n m rmx B K c S) (hc:c<n) (hz:Zro m c S):Zro m (c+1) (rstep m c S):=by
  have hrm:=h.bar.rm
  unfold rstep
  split
  · rename_i hf
    generalize hq:fnd S.A c m m S.r=q at hf ⊢
    have hge:S.r≤q:=by rw [← hq];exact fnd_ge S.A c m m S.r
    have hx:S.A q c≠0:=by rw [← hq];exact fnd_hit S.A c m m S.r (by omega) (by rw [hq];exact hf)
    have hb:=h.bar.swap hge hf
    have hx':sw S.A S.r q S.r c≠0:=by rw [sw_at];exact hx
    obtain ⟨b1,b2⟩:=hb.elim (by omega) hc hx'
    intro i k hi him hk
    have hi:S.r+1≤i:=hi
    show el (sw S.A S.r q) S.r c S.d i k=0
    have e:=b2 i k him (by omega) (by omega)
    have key:∀ i,S.r≤i→i<m→k<c→sw S.A S.r q i k=0:=by
      intro i h1 h2 h3
      unfold sw
      by_cases g1:i=S.r
      · rw [if_pos g1];exact hz q k hge hf h3
      · rw [if_neg g1]
        by_cases g2:i=q
        · rw [if_pos g2];exact hz S.r k (Nat.le_refl _) (by omega) h3
        · rw [if_neg g2];exact hz i k h1 h2 h3
    have e0:sw S.A S.r q S.r c*sw S.A S.r q i k - sw S.A S.r q i c*sw S.A S.r q S.r k=0:=by
      by_cases hkc:k<c
      · rw [key i (by omega) him hkc,key S.r (Nat.le_refl _) (by omega) hkc];simp
      · rw [show k=c by omega,Int.mul_comm];omega
    rw [e0] at e
    rcases Int.mul_eq_zero.1 e with h1 | h1
    · exact absurd h1 hb.d0
    · exact h1
  · rename_i hf
    have hfm:fnd S.A c m m S.r=m:=by have:=fnd_le S.A c m m S.r hrm;omega
    intro i k hi him hk
    by_cases hkc:k<c
    · exact hz i k hi him hkc
    · rw [show k=c by omega];exact fnd_zero S.A c m m S.r i hi (by rw [hfm];exact him)
theorem rstep_ker (ht:Tame n m rmx K) {c:Nat} {S:RS} (h:ROK n m rmx B K c S) (hc:c<n) {v:Ve} (hv:∀ i,i<m→dt ((rstep m c S).A i) v n=0):∀ i,i<m→dt (S.A i) v n=0:=by
  have hrm:=h.bar.rm
  unfold rstep at hv
  split at hv
  · rename_i hf
    generalize hq:fnd S.A c m m S.r=q at hf hv
    have hge:S.r≤q:=by rw [← hq];exact fnd_ge S.A c m m S.r
    have hx:S.A q c≠0:=by rw [← hq];exact fnd_hit S.A c m m S.r (by omega) (by rw [hq];exact hf)
    have hb:=h.bar.swap hge hf
    have hx':sw S.A S.r q S.r c≠0:=by rw [sw_at];exact hx
    obtain ⟨b1,b2⟩:=hb.elim (by omega) hc hx'
    have hv:∀ i,i<m→dt (el (sw S.A S.r q) S.r c S.d i) v n=0:=hv
    have hr:dt (sw S.A S.r q S.r) v n=0:=by
      rw [← hv S.r (by omega)]
      exact dt_cong (fun k _=>by unfold el;rw [if_pos rfl])
    have hs:∀ i,i<m→dt (sw S.A S.r q i) v n=0:=by
      intro i hi
      by_cases hir:i=S.r
      · rw [hir];exact hr
      · have e:=dt_comb (a:=el (sw S.A S.r q) S.r c S.d i) (b:=sw S.A S.r q i) (c:=sw S.A S.r q S.r) (v:=v) (x:=S.d) (y:=sw S.A S.r q S.r c) (z:=- sw S.A S.r q i c) n
          (fun k hk=>by rw [b2 i k hi hir hk];grind)
        rw [hv i hi,hr,Int.mul_zero,Int.mul_zero,Int.add_zero] at e
        rcases Int.mul_eq_zero.1 e.symm with e | e
        · exact absurd e hx'
        · exact e
    intro i hi
    by_cases g1:i=S.r
    · by_cases g2:S.r=q
      · have:=hs S.r (by omega)
        rw [sw_at,← g2] at this
        rw [g1];exact this
      · have:=hs q hf
        unfold sw at this
        rw [if_neg (fun e=>g2 e.symm),if_pos rfl] at this
        rw [g1];exact this
    · by_cases g2:i=q
      · have:=hs S.r (by omega)
        rw [sw_at] at this
        rw [g2];exact this
      · have:=hs i hi
        unfold sw at this
        rw [if_neg g1,if_neg g2] at this
        exact this
  · exact hv
theorem rrun_zro (ht:Tame n m rmx K) {A:Nat→Ve} (hb:0≤B) (hr:∀ i,i<m→dotv n (A i) (A i)≤B) (hk:K 0 0 A):∀ c,c≤n→Zro m c (rrun m (rini A) c)
  | 0,_=>fun i k _ _ h=>absurd h (Nat.not_lt_zero _)
  | c+1,h=>rstep_zro ht (rrun_ok ht hb hr hk c (by omega)) (by omega) (rrun_zro ht hb hr hk c (by omega))
theorem rrun_ker (ht:Tame n m rmx K) {A:Nat→Ve} (hb:0≤B) (hr:∀ i,i<m→dotv n (A i) (A i)≤B) (hk:K 0 0 A) {v:Ve}:∀ c,c≤n→(∀ i,i<m→dt ((rrun m (rini A) c).A i) v n=0)→∀ i,i<m→dt (A i) v n=0
  | 0,_,h=>h
  | c+1,h,hv=>rrun_ker ht hb hr hk c (by omega) (rstep_ker ht (rrun_ok ht hb hr hk c (by omega)) (by omega) hv)
theorem end_ker {S:RS} (h:ROK n m rmx B K n S) (hz:Zro m n S) {c:Nat} (hc:c<n) (hf:rwi S.p S.r c<0):∀ i,i<m→dt (S.A i) (nvk S.A S.r S.p S.d c n) n=0:=by
  intro i hi
  by_cases hir:i<S.r
  · have hpc:S.p i≠c:=rwi_no S.p S.r c hf i hir
    have hpn:=h.bar.pn hir
    rw [dt_two (i:=S.p i) (j:=c) hpc (x:=-(S.A i c)*S.d) (y:=S.A i c*S.d) (fun k hk=>?_),if_pos hpn,if_pos hc]
    · grind
    · unfold nvk
      by_cases h0:0≤rwi S.p S.r k
      · have e:=rwi_p S.p S.r k h0
        have hl:=(rwi_lt S.p S.r k).2
        have hkc:k≠c:=fun e=>by rw [e] at h0;omega
        rw [if_pos ⟨hk,h0⟩,if_neg hkc]
        by_cases hji:(rwi S.p S.r k).toNat=i
        · rw [hji] at e ⊢
          rw [if_pos e.symm,← e,h.bar.at_p hir hir,if_pos rfl];grind
        · have hjr:(rwi S.p S.r k).toNat<S.r:=by omega
          have hki:k≠S.p i:=fun e'=>by
            have:=rwi_at h.asc hir
            rw [← e'] at this
            omega
          have h2:=h.bar.at_p hir hjr
          rw [e,if_neg (fun e'=>hji e'.symm)] at h2
          rw [if_neg hki,h2];simp
      · rw [if_neg (fun h'=>h0 h'.2)]
        have hki:k≠S.p i:=fun e=>by rw [e,rwi_at h.asc hir] at h0;omega
        rw [if_neg hki]
        by_cases hkc:k=c
        · rw [if_pos hkc,if_pos hkc,hkc];omega
        · rw [if_neg hkc,if_neg hkc];omega
  · rw [dt_cong (b:=fun _=>0) (w:=fun _=>0) (fun k hk=>by rw [hz i k (by omega) hi hk];simp)]
    have:∀ n,dt (fun _=>0) (fun _=>0) n=0:=by
      intro n
      induction n with
      | zero=>rfl
      | succ n ih=>rw [dt,ih];rfl
    exact this n
theorem nul_ker (ht:Tame n m rmx K) {A:Nat→Ve} (hb:0≤B) (hr:∀ i,i<m→dotv n (A i) (A i)≤B) (hk:K 0 0 A) {j:Nat} (hj:j<(nul n m A).1):∀ i,i<m→dt (A i) ((nul n m A).2 j) n=0:=by
  obtain ⟨c,c1,c2,c3⟩:=nsl_mem n j hj
  have hf:rwi (rrun m (rini A) n).p (rrun m (rini A) n).r c<0:=by
    have:=c2
    unfold nulP at this
    have:=of_decide_eq_false this
    omega
  have hend:=end_ker (rrun_ok ht hb hr hk n (Nat.le_refl _)) (rrun_zro ht hb hr hk n (Nat.le_refl _)) c1 hf
  have hker:=rrun_ker ht hb hr hk (v:=nvk (rrun m (rini A) n).A (rrun m (rini A) n).r (rrun m (rini A) n).p (rrun m (rini A) n).d c n) n (Nat.le_refl _) hend
  intro i hi
  have e:(nul n m A).2 j=nulV n (rrun m (rini A) n) c:=c3
  rw [e]
  obtain ⟨s,s1,s2⟩:=prm_mul n (nvk (rrun m (rini A) n).A (rrun m (rini A) n).r (rrun m (rini A) n).p (rrun m (rini A) n).d c n)
  have h1:=hker i hi
  rw [dt_smul (s:=s) (w:=nulV n (rrun m (rini A) n) c) s2] at h1
  rcases Int.mul_eq_zero.1 h1 with h | h
  · exact absurd h s1
  · exact h
end
end Go.Proofs.YtkkjoghiigiokaaGreat.Had
namespace Go.Proofs.YtkkjoghiigiokaaGreat.Had
theorem nvk_sqB {n m rmx:Nat} {B:Int} {K:Nat→Nat→(Nat→Ve)→Prop} {S:RS} (hB:1≤B) (ok:ROK n m rmx B K n S) {c:Nat} (hc:c<n) (k j:Nat) :
    nvk S.A S.r S.p S.d c k j*nvk S.A S.r S.p S.d c k j≤B ^ rmx:=by
  have hp:B ^ S.r≤B ^ rmx:=pow_mono hB ok.r
  have h0:(0:Int)≤B ^ rmx:=pow_pos' hB rmx
  unfold nvk
  split
  · rename_i h
    have:=rwi_lt S.p S.r j
    rw [Int.neg_mul_neg]
    exact Int.le_trans (ok.bar.bpiv (by omega) hc) hp
  · split
    · exact Int.le_trans ok.bar.bd hp
    · omega
theorem nul_sq {n m rmx:Nat} {B:Int} {K:Nat→Nat→(Nat→Ve)→Prop} {A:Nat→Ve} (hB:1≤B) (ok:ROK n m rmx B K n (rrun m (rini A) n)) {j:Nat} (hj:j<(nul n m A).1) {k:Nat} (hk:k<n) :
    (nul n m A).2 j k*(nul n m A).2 j k≤B ^ rmx:=by
  obtain ⟨c,c1,_,c3⟩:=nsl_mem n j hj
  have e:(nul n m A).2 j=nulV n (rrun m (rini A) n) c:=c3
  rw [e]
  exact Int.le_trans (prm_sq hk) (nvk_sqB hB ok c1 n k)
theorem dt_rs (a v:Ve):∀ n,dt a v n=rs (fun k=>v k*a k) 0 n
  | 0=>rfl
  | n+1=>by rw [dt,dt_rs a v n,rs_snoc,Nat.zero_add,Int.mul_comm (a n)]
section
variable {P nb:Nat} {A B:Nat→Nat} {px py:Nat→Int}
theorem Bars.ker (h:Bars P nb A B px py) {j:Nat} (hj:j<(nul (2*P) nb (rg A B px py)).1) {k:Nat} (hk:k<nb) :
    (px (A k) - px (B k))*((nul (2*P) nb (rg A B px py)).2 j (2*A k) - (nul (2*P) nb (rg A B px py)).2 j (2*B k)) +
      (py (A k) - py (B k))*((nul (2*P) nb (rg A B px py)).2 j (2*A k+1) - (nul (2*P) nb (rg A B px py)).2 j (2*B k+1))=0:=by
  have hk1:=nul_ker (rmx:=10) (B:=64) (tame_rows (m:=nb) (by have:=h.P6;omega) (by omega)) (by decide) (A:=rg A B px py) (fun i hi=>h.norm hi)
    ⟨Nat.le_refl _,fun i _ _ k hk=>absurd hk (Nat.not_lt_zero _),fun i hi t ht=>h.sums hi ht⟩ hj k hk
  rw [dt_rs] at hk1
  have e:=h.rel ((nul (2*P) nb (rg A B px py)).2 j) hk
  have hk1:rs (fun w=>(nul (2*P) nb (rg A B px py)).2 j w*tr (rg A B px py) w k) 0 (2*P)=0:=hk1
  rw [hk1] at e
  generalize (nul (2*P) nb (rg A B px py)).2 j=v at *
  grind
theorem Bars.mo_small (h:Bars P nb A B px py) {j:Nat} (hj:j<(nul (2*P) nb (rg A B px py)).1) {k:Nat} (hk:k<2*P) :
    -1073741824≤(nul (2*P) nb (rg A B px py)).2 j k∧(nul (2*P) nb (rg A B px py)).2 j k≤1073741824:=by
  refine sq_le (by decide) ?_
  refine Int.le_trans (nul_sq (rmx:=10) (B:=64) (by decide) (h.red (2*P) (Nat.le_refl _)) hj hk) (by decide)
theorem Bars.tr_ok (h:Bars P nb A B px py):∃ K,∀ c,c≤nb→ROK nb (2*P) 9 96 K c (rrun (2*P) (rini (tr (rg A B px py))) c) :=
  ⟨_,fun c hc=>rrun_ok h.tame_tr (by decide) (fun i hi=>h.norm_tr i) ⟨fun i=>i,Nat.zero_le _,fun i hi=>hi,fun u hu k hk=>hu k hk,fun u hu hz w hw=>hz w (Nat.zero_le _) hw⟩ c hc⟩
theorem Bars.st_small (h:Bars P nb A B px py) {j:Nat} (hj:j<(nul nb (2*P) (tr (rg A B px py))).1) {k:Nat} (hk:k<nb) :
    -1073741824≤(nul nb (2*P) (tr (rg A B px py))).2 j k∧(nul nb (2*P) (tr (rg A B px py))).2 j k≤1073741824:=by
  obtain ⟨K,hK⟩:=h.tr_ok
  refine sq_le (by decide) ?_
  refine Int.le_trans (nul_sq (rmx:=9) (B:=96) (by decide) (hK nb (Nat.le_refl _)) hj hk) (by decide)
end
end Go.Proofs.YtkkjoghiigiokaaGreat.Had
namespace Go.Proofs.YtkkjoghiigiokaaGreat.Mach
open Go
set_option linter.unusedVariables false
set_option linter.unusedSimpArgs false
def trM (M:Nat→Nat→Int) (i:Nat):Nat→Int:=fun s=>M s i
def Tu0 (g:Nat→T_Bar) (nb N:Nat) (pl:Nat→T_Place) (np:Nat) (M:Nat→Nat→Int) (j:Nat):St :=
  ⟨[.p .any,.pt 3 0 0 0,.p .any,.ar 1 1 0 nb,.ar 1 3 0 j,.p (.int .i64 j)]++List.replicate 40 anyA,[(0,fbx g nb N pl np),(1,ooOb 2 nb (cM (2*N) M)),(2,ffOb nb (cM (2*N) M)),(3,ooOb 4 j (cM nb (trM M))),(4,ffOb j (cM nb (trM M)))],5⟩
def Tu1 (g:Nat→T_Bar) (nb N:Nat) (pl:Nat→T_Place) (np:Nat) (M:Nat→Nat→Int) (j i:Nat):St :=
  ⟨[.p .any,.pt 3 0 0 0,.p .any,.ar 1 1 0 nb,.ar 1 3 0 j,.p (.int .i64 j),.ar 1 5 0 i,.p (.int .i64 i)]++List.replicate 38 anyA,[(0,fbx g nb N pl np),(1,ooOb 2 nb (cM (2*N) M)),(2,ffOb nb (cM (2*N) M)),(3,ooOb 4 j (cM nb (trM M))),(4,ffOb j (cM nb (trM M))),(5,iOb i (trM M j))],6⟩
theorem tuz (g:Nat→T_Bar) (nb N:Nat) (pl:Nat→T_Place) (np:Nat) (M:Nat→Nat→Int) :
    zT Tryz.f331 [rg 2,rm [(1,oc [(0,ooOb 1 nb (cM (2*N) M)),(1,ffOb nb (cM (2*N) M))] (.ar 1 0 0 nb))] 1,rg 2,rg 1,.head] [frA g nb N pl np] [0,96,97,160] (Tu0 g nb N pl np M 0) =
    some (zf76,[(NT 0 1),zE 227 [(zf56 N nb g np pl)] [(0,⟨false,1,nb,(fun i=>[.ar 1 ⟨1,some i⟩ 0 (2*N)])⟩),(1,⟨true,0,nb,(fun i=>[.p (.seq false 1 (2*N) (fun i_1=>[.int .i64 ((cM (2*N) M i).2 i_1)]))])⟩)] (.ar 1 0 0 nb),(AN 0),(AN 0),(AN nb),(AN 0),(AN 0),((0:Int)=(↑0:Int)),((([AV.p (PV.int IntKind.i64 (↑N:Int)),brL g nb,pcL pl np].length):Nat)=3),(NL 1 1),(NL 1 1),(AI ((↑N:Int))),(AN nb),(AP nb (bRw g)),(AN np),(AP np (bRw pl)),(AN 1),(NL nb nb),(AA nb (fun i=>[.ar 1 ⟨2,some i⟩ 0 (2*N)])),(NL nb nb),(∀ i:Nat,(((i:Nat)<nb)→All [(AN 1),(((2*N):Nat)≤(2*N)),(AP ((2*N)) (fun r=>[.int .i64 ((cM (2*N) M i).2 r)]))])),(AN 1),(NL 0 0),(∀ i:Nat,(((i:Nat)<0)→(All []∧(([.p (.nil)]:List AV)=[.ar 1 ⟨4,some i⟩ 0 nb])))),(AN 0)]):=by kernel_rfl
theorem tua (g:Nat→T_Bar) (nb N:Nat) (pl:Nat→T_Place) (np:Nat) (M:Nat→Nat→Int) (j:Nat) :
    zM 0 [rg 11,.dec true,rg 2,rg 1,.head] zf76 (Tu0 g nb N pl np M j) [0,1,2,3,4,357] 1 (Tu1 g nb N pl np M j 0) =
    some (zf17,zD [(NT 0 1),(ZLo (2*(↑N:Int))),(ZHi (2*(↑N:Int))),(AG (decide ((↑j:Int)<2*(↑N:Int)))),((bif decide ((↑j:Int)<2*(↑N:Int)) then decide ((↑nb:Int)>0) else false)=true),(AN 0),(AN nb),(AN j),(AI ((↑j:Int))),((0:Int)=(↑0:Int)),(AN 3),(NL 1 1),(AI ((↑N:Int))),(AP nb (bRw g)),(AN np),(AP np (bRw pl)),(AN 1),(NL nb nb),(AA nb (fun i=>[.ar 1 ⟨2,some i⟩ 0 (2*N)])),(∀ i:Nat,(((i:Nat)<nb)→All [(AN 1),(((2*N):Nat)≤(2*N)),(AP ((2*N)) (fun r=>[.int .i64 ((cM (2*N) M i).2 r)]))])),(NL j j),(AA j (fun i=>[.ar 1 ⟨4,some i⟩ 0 nb])),(∀ i:Nat,(((i:Nat)<j)→All [(AN 1),((nb:Nat)≤nb),(AP nb (fun r=>[.int .i64 ((cM nb (trM M) i).2 r)]))])),(NL 0 0),(∀ i:Nat,(((i:Nat)<0)→(All []∧(([.p (.int .i64 0)]:List AV)=[.p (.int .i64 (trM M j i))]))))] [0,1,2,3,3,3,4,5,5,6,5,7,8,5,5,9,10,11,11,12,6,13,14,15,16,17,18,17,19,16,20,21,20,22,16,23,24]):=by kernel_rfl
theorem tub (g:Nat→T_Bar) (nb N:Nat) (pl:Nat→T_Place) (np:Nat) (M:Nat→Nat→Int) (j i:Nat) :
    zM 0 [rg 4,.dec true,rg 11,rg 3,.head] zf17 (Tu1 g nb N pl np M j i) [0,1,2,3,4,422] 1 (Tu1 g nb N pl np M j (i+1)) =
    some (zf17,[((decide ((↑i:Int)<(↑nb:Int)))=true),(IL 0 (↑i:Int)),(IT (↑i:Int) (↑nb:Int)),(NT i nb),(IL 0 (↑j:Int)),(IT (↑j:Int) (↑(2*N):Int)),(NT i nb),(NT j (2*N)),(NL 1 1),(NL i i),(NL ((i+1)*8) 140737488355328),(NL (i+1) 9223372036854775807),(ZLo ((↑i:Int)+1)),(ZHi ((↑i:Int)+1)),(AN 0),(AN 0),(AN nb),(AN 0),(AN j),(AI ((↑j:Int))),(AN 0),(AN ((i+1))),((((↑i:Int)+1):Int)=(↑(i+1):Int)),(AN 3),(NL 1 1),(NL 1 1),(AI ((↑N:Int))),(AN nb),(AP nb (bRw g)),(AN np),(AP np (bRw pl)),(AN 1),(NL nb nb),(AA nb (fun i_1=>[.ar 1 ⟨2,some i_1⟩ 0 (2*N)])),(NL nb nb),(∀ i_1:Nat,(((i_1:Nat)<nb)→All [(AN 1),(((2*N):Nat)≤(2*N)),(AP ((2*N)) (fun r=>[.int .i64 ((cM (2*N) M i_1).2 r)]))])),(AN 1),(NL j j),(AA j (fun i_1=>[.ar 1 ⟨4,some i_1⟩ 0 nb])),(NL j j),(∀ i_1:Nat,(((i_1:Nat)<j)→All [(AN 1),((nb:Nat)≤nb),(AP nb (fun r=>[.int .i64 ((cM nb (trM M) i_1).2 r)]))])),(AN 1),(NL (i+1) (i+1)),(CV [(422,⟨false,1,(i+1),(fun i_2=>(if (i_2<i) then [.p (.int .i64 (trM M j i_2))] else [.p (.int .i64 ((cM (2*N) M i).2 j))]))⟩),(390,⟨false,1,1,(fun i_2=>[.p (.int .i64 ((cM (2*N) M i).2 j))])⟩),(0,⟨true,3,1,(fun i_2=>[.p (.int .i64 (↑N:Int)),.p (.seq true 2 nb (bRw g)),.p (.seq true 2 np (bRw pl))])⟩),(1,⟨false,1,nb,(fun i_2=>[.ar 1 ⟨2,some i_2⟩ 0 (2*N)])⟩),(2,⟨true,0,nb,(fun i_2=>[.p (.seq false 1 (2*N) (fun i_3=>[.int .i64 ((cM (2*N) M i_2).2 i_3)]))])⟩),(3,⟨false,1,j,(fun i_2=>[.ar 1 ⟨4,some i_2⟩ 0 nb])⟩),(4,⟨true,0,j,(fun i_2=>[.p (.seq false 1 nb (fun i_3=>[.int .i64 ((cM nb (trM M) i_2).2 i_3)]))])⟩)] [0,1,2,3,4,422] 1 (i+1) (fun i_1=>if (i_1<i) then [.p (.int .i64 (trM M j i_1))] else [.p (.int .i64 ((cM (2*N) M i).2 j))]) (fun i_1=>[.p (.int .i64 (trM M j i_1))]))]):=by kernel_rfl
theorem tuc (g:Nat→T_Bar) (nb N:Nat) (pl:Nat→T_Place) (np:Nat) (M:Nat→Nat→Int) (j i:Nat) :
    zM 0 [rg 4,.dec false,rg 5,rg 3,.head] zf17 (Tu1 g nb N pl np M j nb) [0,1,2,230,.ins 4 j 5] 1 (Tu0 g nb N pl np M (j+1)) =
    some (zf76,[((decide ((↑nb:Int)<(↑nb:Int)))=false),(NL 1 1),(NL j j),(NL ((j+1)*24) 140737488355328),(NL (j+1) 9223372036854775807),(ZLo ((↑j:Int)+1)),(ZHi ((↑j:Int)+1)),(AN 0),(AN 0),(AN nb),(AN 0),(AN ((j+1))),((((↑j:Int)+1):Int)=(↑(j+1):Int)),(AN 3),(NL 1 1),(NL 1 1),(AI ((↑N:Int))),(AN nb),(AP nb (bRw g)),(AN np),(AP np (bRw pl)),(AN 1),(NL nb nb),(AA nb (fun i_1=>[.ar 1 ⟨2,some i_1⟩ 0 (2*N)])),(NL nb nb),(∀ i_1:Nat,(((i_1:Nat)<nb)→All [(AN 1),(((2*N):Nat)≤(2*N)),(AP ((2*N)) (fun r=>[.int .i64 ((cM (2*N) M i_1).2 r)]))])),(AN 1),(NL (j+1) (j+1)),(CV [(230,⟨false,1,(j+1),(fun i_2=>(if (i_2<j) then [.ar 1 ⟨4,some i_2⟩ 0 nb] else [.ar 1 5 0 nb]))⟩),(198,⟨false,1,1,(fun i_2=>[.ar 1 5 0 nb])⟩),(0,⟨true,3,1,(fun i_2=>[.p (.int .i64 (↑N:Int)),.p (.seq true 2 nb (bRw g)),.p (.seq true 2 np (bRw pl))])⟩),(1,⟨false,1,nb,(fun i_2=>[.ar 1 ⟨2,some i_2⟩ 0 (2*N)])⟩),(2,⟨true,0,nb,(fun i_2=>[.p (.seq false 1 (2*N) (fun i_3=>[.int .i64 ((cM (2*N) M i_2).2 i_3)]))])⟩),(4,⟨true,0,j,(fun i_2=>[.p (.seq false 1 nb (fun i_3=>[.int .i64 ((cM nb (trM M) i_2).2 i_3)]))])⟩),(5,⟨false,1,nb,(fun i_2=>[.p (.int .i64 (trM M j i_2))])⟩)] [0,1,2,230,.ins 4 j 5] 1 (j+1) (fun i_1=>if (i_1<j) then [.ar 1 ⟨4,some i_1⟩ 0 nb] else [.ar 1 5 0 nb]) (fun i_1=>[.ar 1 ⟨4,some i_1⟩ 0 nb])),(∀ i_1:Nat,(((i_1:Nat)<(j+1))→(((i_1:Nat)≠j)→(((i_1:Nat)<j)∧All [(AN 1),((nb:Nat)≤nb),(AP nb (fun r=>[.int .i64 ((cM nb (trM M) i_1).2 r)]))])))),(((j:Nat)<(j+1))→ All [(AN 1),((nb:Nat)≤nb),(∀ r:Nat,(((r:Nat)<nb)→(([.int .i64 (trM M j r)]:List PV)=[.int .i64 ((cM nb (trM M) j).2 r)])))])]):=by kernel_rfl
theorem tue (g:Nat→T_Bar) (nb N:Nat) (pl:Nat→T_Place) (np:Nat) (M:Nat→Nat→Int) :
    zP Tryz.f331 0 [rg 11,.dec false,rg 2] zf76 (Tu0 g nb N pl np M (2*N)) [3,4] 1 [(0,ooOb 1 (2*N) (cM nb (trM M))),(1,ffOb (2*N) (cM nb (trM M)))] (.ar 1 0 0 (2*N)) =
    some (zD [(NT 0 1),(ZLo (2*(↑N:Int))),(ZHi (2*(↑N:Int))),(AG (decide ((↑(2*N):Int)<2*(↑N:Int)))),((bif decide ((↑(2*N):Int)<2*(↑N:Int)) then decide ((↑nb:Int)>0) else false)=false),(AN 0),(AN ((2*N))),(AN 1),(NL (2*N) (2*N)),(AA ((2*N)) (fun i=>[.ar 1 ⟨1,some i⟩ 0 nb])),(∀ i:Nat,(((i:Nat)<(2*N))→All [(AN 1),((nb:Nat)≤nb),(AP nb (fun r=>[.int .i64 ((cM nb (trM M) i).2 r)]))])),(AE ((2*N))),(∀ i:Nat,(((i:Nat)<(2*N))→All [(false=false),(AE nb)]))] [0,1,2,3,3,3,4,5,6,7,8,9,8,10,11,12]):=by kernel_rfl
theorem stIe (g:Nat→T_Bar) (nb N:Nat) (pl:Nat→T_Place) (np:Nat) :
    zS Tryz.f261 [rg 2,rm [(1,oc [] (.p (.bool true)))] 8,.dec true,rg 2] [frA g nb N pl np] [384] [(0,ooOb 1 0 (cM nb (fun _ _=>0))),(1,ffOb 0 (cM nb (fun _ _=>0)))] (.ar 1 0 0 0) =
    some (zD [(NT 0 1),zE 128 [(zf56 N nb g np pl)] [] (.p (.bool true)),(AG (!!true)),(((!!true)=true)→(NT 0 1)),(((!true)=false)→ ((!!true)=true)),((bif !true then true else (↑nb:Int)==0)=true),(AN 0),(AN 1),(NL 0 0),(∀ i:Nat,(((i:Nat)<0)→(All []∧(([.p (.nil)]:List AV)=[.ar 1 ⟨1,some i⟩ 0 nb])))),(AE 0),(∀ i:Nat,(((i:Nat)<0)→All [(false=false),(AE nb)]))] [0,1,2,2,3,2,2,4,5,6,6,7,8,9,6,10,11]):=by kernel_rfl
theorem stI (g:Nat→T_Bar) (nb N:Nat) (pl:Nat→T_Place) (np:Nat) (M W:Nat→Nat→Int) (q:Nat) :
    zS Tryz.f261 [rg 2,rm [(1,oc [] (.p (.bool true)))] 8,.dec false,rm [(1,oc [(0,ooOb 1 nb (cM (2*N) M)),(1,ffOb nb (cM (2*N) M))] (.ar 1 0 0 nb)),(4,⟨true,(some ⟨[],[],[417],2,[(0,ooOb 1 (2*N) (cM nb (trM M))),(1,ffOb (2*N) (cM nb (trM M)))],.ar 1 0 0 (2*N)⟩),none⟩),(4,⟨true,(some ⟨[],[],[577],2,[(0,ooOb 1 q (cM nb W)),(1,ffOb q (cM nb W))],.ar 1 0 0 q⟩),none⟩)] 1] [frA g nb N pl np] [736,737] [(0,ooOb 1 q (cM nb W)),(1,ffOb q (cM nb W))] (.ar 1 0 0 q) =
    some (zD [(NT 0 1),zE 128 [(zf56 N nb g np pl)] [] (.p (.bool true)),(AG (!!true)),(((!!true)=true)→(NT 0 1)),(((!true)=false)→ ((!!true)=true)),((bif !true then true else (↑nb:Int)==0)=false),zE 235 [(zf56 N nb g np pl)] [(0,⟨false,1,nb,(fun i=>[.ar 1 ⟨1,some i⟩ 0 (2*N)])⟩),(1,⟨true,0,nb,(fun i=>[.p (.seq false 1 (2*N) (fun i_1=>[.int .i64 ((cM (2*N) M i).2 i_1)]))])⟩)] (.ar 1 0 0 nb),(ZLo (2*(↑N:Int))),(ZHi (2*(↑N:Int))),(AN 1),(NL nb nb),(∀ i:Nat,(((i:Nat)<nb)→All [((i:Nat)<nb),(AN 1),(((2*N):Nat)≤(2*N))])),zE 332 [.p (.seq true 1 nb (fun i=>[.seq true 1 (2*N) (fun i_1=>[.int .i64 ((cM (2*N) M i).2 i_1)])])),.p (.int .i64 (2*(↑N:Int)))] [(0,⟨false,1,(2*N),(fun i=>[.ar 1 ⟨1,some i⟩ 0 nb])⟩),(1,⟨true,0,(2*N),(fun i=>[.p (.seq false 1 nb (fun i_1=>[.int .i64 ((cM nb (trM M) i).2 i_1)]))])⟩)] (.ar 1 0 0 (2*N)),(NL (2*N) (2*N)),(∀ i:Nat,(((i:Nat)<(2*N))→All [((i:Nat)<(2*N)),(AN 1),((nb:Nat)≤nb)])),zE 318 [.p (.seq true 1 (2*N) (fun i=>[.seq true 1 nb (fun i_1=>[.int .i64 ((cM nb (trM M) i).2 i_1)])])),.p (.int .i64 (↑nb:Int))] [(0,⟨false,1,q,(fun i=>[.ar 1 ⟨1,some i⟩ 0 nb])⟩),(1,⟨true,0,q,(fun i=>[.p (.seq false 1 nb (fun i_1=>[.int .i64 ((cM nb W i).2 i_1)]))])⟩)] (.ar 1 0 0 q),(AN 0),(AN q),(NL q q),(AA q (fun i=>[.ar 1 ⟨1,some i⟩ 0 nb])),(∀ i:Nat,(((i:Nat)<q)→All [(AN 1),((nb:Nat)≤nb),(AP nb (fun r=>[.int .i64 ((cM nb W i).2 r)]))])),(AE q),(∀ i:Nat,(((i:Nat)<q)→All [(false=false),(AE nb)]))] [0,1,2,2,3,2,2,4,5,0,6,0,7,8,9,10,11,12,0,9,13,14,15,16,17,9,18,19,18,20,21,22]):=by kernel_rfl
theorem stSe (g:Nat→T_Bar) (nb N:Nat) (pl:Nat→T_Place) (np:Nat) :
    zS Tryz.f258 [rg 2,rm [(1,oc [] (.p (.bool true)))] 8,.dec true,rg 2] [frA g nb N pl np] [384] [(0,ooOb 1 0 (cM nb (fun _ _=>0))),(1,ffOb 0 (cM nb (fun _ _=>0)))] (.ar 1 0 0 0) =
    some (zD [(NT 0 1),zE 117 [(zf56 N nb g np pl)] [] (.p (.bool true)),(AG (!!true)),(((!!true)=true)→(NT 0 1)),(((!true)=false)→ ((!!true)=true)),((bif !true then true else (↑nb:Int)==0)=true),(AN 0),(AN 1),(NL 0 0),(∀ i:Nat,(((i:Nat)<0)→(All []∧(([.p (.nil)]:List AV)=[.ar 1 ⟨1,some i⟩ 0 nb])))),(AE 0),(∀ i:Nat,(((i:Nat)<0)→All [(false=false),(AE nb)]))] [0,1,2,2,3,2,2,4,5,6,6,7,8,9,6,10,11]):=by kernel_rfl
theorem stS (g:Nat→T_Bar) (nb N:Nat) (pl:Nat→T_Place) (np:Nat) (M W:Nat→Nat→Int) (q:Nat) :
    zS Tryz.f258 [rg 2,rm [(1,oc [] (.p (.bool true)))] 8,.dec false,rm [(1,oc [(0,ooOb 1 (2*N) (cM nb (trM M))),(1,ffOb (2*N) (cM nb (trM M)))] (.ar 1 0 0 (2*N))),(4,⟨true,(some ⟨[],[],[417],2,[(0,ooOb 1 q (cM nb W)),(1,ffOb q (cM nb W))],.ar 1 0 0 q⟩),none⟩)] 1] [frA g nb N pl np] [576,577] [(0,ooOb 1 q (cM nb W)),(1,ffOb q (cM nb W))] (.ar 1 0 0 q) =
    some (zD [(NT 0 1),zE 117 [(zf56 N nb g np pl)] [] (.p (.bool true)),(AG (!!true)),(((!!true)=true)→(NT 0 1)),(((!true)=false)→ ((!!true)=true)),((bif !true then true else (↑nb:Int)==0)=false),zE 331 [(zf56 N nb g np pl)] [(0,⟨false,1,(2*N),(fun i=>[.ar 1 ⟨1,some i⟩ 0 nb])⟩),(1,⟨true,0,(2*N),(fun i=>[.p (.seq false 1 nb (fun i_1=>[.int .i64 ((cM nb (trM M) i).2 i_1)]))])⟩)] (.ar 1 0 0 (2*N)),(AN 1),(NL (2*N) (2*N)),(∀ i:Nat,(((i:Nat)<(2*N))→All [((i:Nat)<(2*N)),(AN 1),((nb:Nat)≤nb)])),zE 315 [.p (.seq true 1 (2*N) (fun i=>[.seq true 1 nb (fun i_1=>[.int .i64 ((cM nb (trM M) i).2 i_1)])])),.p (.int .i64 (↑nb:Int))] [(0,⟨false,1,q,(fun i=>[.ar 1 ⟨1,some i⟩ 0 nb])⟩),(1,⟨true,0,q,(fun i=>[.p (.seq false 1 nb (fun i_1=>[.int .i64 ((cM nb W i).2 i_1)]))])⟩)] (.ar 1 0 0 q),(AN 0),(AN q),(NL q q),(AA q (fun i=>[.ar 1 ⟨1,some i⟩ 0 nb])),(∀ i:Nat,(((i:Nat)<q)→All [(AN 1),((nb:Nat)≤nb),(AP nb (fun r=>[.int .i64 ((cM nb W i).2 r)]))])),(AE q),(∀ i:Nat,(((i:Nat)<q)→All [(false=false),(AE nb)]))] [0,1,2,2,3,2,2,4,5,0,6,0,7,8,9,10,11,12,7,13,14,13,15,16,17]):=by kernel_rfl
end Go.Proofs.YtkkjoghiigiokaaGreat.Mach
namespace Go.Proofs.YtkkjoghiigiokaaGreat.Trv
def One (n:Nat) (x y u w:Nat→Int) (num den:Int):Prop:=∀ i,i<n→u i*den = -num*y i∧w i*den=num*x i
structure All2 (n:Nat) (x y u w:Nat→Int):Prop where
  ch:∀ a b,a<n→b<a→(x a - x b)*(u a - u b)+(y a - y b)*(w a - w b)=0
  same:∀ a b,a<n→b<a→x a=x b→y a=y b→u a=u b∧w a=w b
  flat:∀ a b,a<n→b<a→1≤b→x a*y b=y a*x b→x b*u a+y b*w a=x a*u b+y a*w b∧x b*w a - y b*u a=x a*w b - y a*u b
theorem cancel {c a b:Int} (hc:c≠0) (h:c*a=c*b):a=b:=Int.eq_of_mul_eq_mul_left hc h
section
variable {n:Nat} {x y u w:Nat→Int}
theorem one_all {num den:Int} (hd:den≠0) (h:One n x y u w num den):All2 n x y u w where
  ch a b ha hb:=by
    obtain ⟨a1,a2⟩:=h a ha
    obtain ⟨b1,b2⟩:=h b (by omega)
    have e1:(u a - u b)*den = -num*(y a - y b):=by grind
    have e2:(w a - w b)*den=num*(x a - x b):=by grind
    refine cancel hd ?_
    have:den*((x a - x b)*(u a - u b)+(y a - y b)*(w a - w b))=(x a - x b)*((u a - u b)*den)+(y a - y b)*((w a - w b)*den):=by grind
    rw [this,e1,e2]
    grind
  same a b ha hb hx hy:=by
    obtain ⟨a1,a2⟩:=h a ha
    obtain ⟨b1,b2⟩:=h b (by omega)
    exact ⟨cancel hd (by rw [Int.mul_comm,a1,Int.mul_comm den,b1,hy]),cancel hd (by rw [Int.mul_comm,a2,Int.mul_comm den,b2,hx])⟩
  flat a b ha hb h1 hc:=by
    obtain ⟨a1,a2⟩:=h a ha
    obtain ⟨b1,b2⟩:=h b (by omega)
    refine ⟨cancel hd ?_,cancel hd ?_⟩
    · have e1:den*(x b*u a+y b*w a)=x b*(u a*den)+y b*(w a*den):=by grind
      have e2:den*(x a*u b+y a*w b)=x a*(u b*den)+y a*(w b*den):=by grind
      rw [e1,e2,a1,a2,b1,b2]
      grind
    · have e1:den*(x b*w a - y b*u a)=x b*(w a*den) - y b*(u a*den):=by grind
      have e2:den*(x a*w b - y a*u b)=x a*(w b*den) - y a*(u b*den):=by grind
      rw [e1,e2,a1,a2,b1,b2]
      grind
theorem all_one0 (h:All2 n x y u w) (h0:x 0=0∧y 0=0∧u 0=0∧w 0=0) (hz:∀ i,i<n→x i=0∧y i=0):One n x y u w 0 1:=by
  intro i hi
  obtain ⟨z1,z2⟩:=hz i hi
  by_cases h1:i=0
  · subst h1;rw [h0.2.2.1,h0.2.2.2];simp
  · obtain ⟨e1,e2⟩:=h.same i 0 hi (by omega) (by rw [z1,h0.1]) (by rw [z2,h0.2.1])
    rw [e1,e2,h0.2.2.1,h0.2.2.2];simp
theorem all_onej (h:All2 n x y u w) (h0:x 0=0∧y 0=0∧u 0=0∧w 0=0) {j:Nat} (hj:j<n) (hne:x j≠0∨y j≠0) :
    One n x y u w (w j*x j - u j*y j) (x j*x j+y j*y j):=by
  obtain ⟨z1,z2,z3,z4⟩:=h0
  have h1:1≤j:=by
    refine Nat.not_lt.1 (fun hl=>?_)
    have:j=0:=by omega
    subst this;rcases hne with h | h<;>contradiction
  have sj:x j*u j+y j*w j=0:=by
    have:=h.ch j 0 hj (by omega)
    rw [z1,z2,z3,z4] at this
    simpa using this
  generalize hnum:w j*x j - u j*y j=num
  generalize hden:x j*x j+y j*y j=den
  have ej1:u j*den = -num*y j:=by
    have e:u j*(x j*x j+y j*y j)=x j*(x j*u j+y j*w j) - (w j*x j - u j*y j)*y j:=by grind
    rw [← hden,e,sj,← hnum];grind
  have ej2:w j*den=num*x j:=by
    have e:w j*(x j*x j+y j*y j)=y j*(x j*u j+y j*w j)+(w j*x j - u j*y j)*x j:=by grind
    rw [← hden,e,sj,← hnum];grind
  intro i hi
  by_cases hi0:i=0
  · subst hi0;rw [z1,z2,z3,z4];simp
  by_cases hij:i=j
  · subst hij;exact ⟨ej1,ej2⟩
  have si:x i*u i+y i*w i=0:=by
    have:=h.ch i 0 hi (by omega)
    rw [z1,z2,z3,z4] at this
    simpa using this
  have sij:(x i*u j+y i*w j)+(x j*u i+y j*w i)=0:=by
    rcases Nat.lt_or_gt_of_ne hij with hl | hl
    · have:=h.ch j i hj hl;grind
    · have:=h.ch i j hi hl;grind
  by_cases hc:x i*y j=y i*x j
  ·
    have hP:x j*u i+y j*w i=x i*u j+y i*w j∧x j*w i - y j*u i=x i*w j - y i*u j:=by
      rcases Nat.lt_or_gt_of_ne hij with hl | hl
      · obtain ⟨p1,p2⟩:=h.flat j i hj hl (by omega) (by grind)
        exact ⟨p1.symm,p2.symm⟩
      · exact h.flat i j hi hl h1 hc
    obtain ⟨p1,p2⟩:=hP
    have p3:x j*u i+y j*w i=0:=by omega
    constructor
    · have e:u i*(x j*x j+y j*y j)=x j*(x j*u i+y j*w i) - y j*(x j*w i - y j*u i):=by grind
      rw [← hden,e,p3,p2,← hnum]
      have e2:y j*(x i*w j - y i*u j)=(x i*y j)*w j - y i*y j*u j:=by grind
      rw [e2,hc];grind
    · have e:w i*(x j*x j+y j*y j)=y j*(x j*u i+y j*w i)+x j*(x j*w i - y j*u i):=by grind
      rw [← hden,e,p3,p2,← hnum]
      have e2:x j*(x i*w j - y i*u j)=x i*x j*w j - (y i*x j)*u j:=by grind
      rw [e2,← hc];grind
  · have hc':x i*y j - y i*x j≠0:=by omega
    have ht:(x j*u i+y j*w i)*den=num*(x i*y j - y i*x j):=by
      have e:(x j*u i+y j*w i)*den = -(x i*(u j*den)+y i*(w j*den)):=by
        have:x j*u i+y j*w i = -(x i*u j+y i*w j):=by omega
        rw [this];grind
      rw [e,ej1,ej2];grind
    constructor
    · refine cancel hc' ?_
      have e:(x i*y j - y i*x j)*(u i*den)=y j*(x i*u i+y i*w i)*den - y i*((x j*u i+y j*w i)*den):=by grind
      rw [e,si,ht];grind
    · refine cancel hc' ?_
      have e:(x i*y j - y i*x j)*(w i*den)=x i*((x j*u i+y j*w i)*den) - x j*(x i*u i+y i*w i)*den:=by grind
      rw [e,si,ht];grind
end
theorem bdm {a b A B:Int} (ha:-A≤a∧a≤A) (hb:-B≤b∧b≤B):-(A*B)≤a*b∧a*b≤A*B:=by
  have h1:=Int.mul_nonneg (show 0≤A - a by omega) (show 0≤B - b by omega)
  have h2:=Int.mul_nonneg (show 0≤A+a by omega) (show 0≤B+b by omega)
  have h3:=Int.mul_nonneg (show 0≤A - a by omega) (show 0≤B+b by omega)
  have h4:=Int.mul_nonneg (show 0≤A+a by omega) (show 0≤B - b by omega)
  have e1:(A - a)*(B - b)=A*B - A*b - a*B+a*b:=by grind
  have e2:(A+a)*(B+b)=A*B+A*b+a*B+a*b:=by grind
  have e3:(A - a)*(B+b)=A*B+A*b - a*B - a*b:=by grind
  have e4:(A+a)*(B - b)=A*B - A*b+a*B - a*b:=by grind
  constructor<;>omega
theorem sum_sq_pos {a b:Int} (h:a≠0∨b≠0):0<a*a+b*b:=by
  have n1:0≤a*a:=by
    rcases Int.le_total 0 a with h | h
    · exact Int.mul_nonneg h h
    · have:=Int.mul_nonneg (show 0≤-a by omega) (show 0≤-a by omega);rwa [Int.neg_mul_neg] at this
  have n2:0≤b*b:=by
    rcases Int.le_total 0 b with h | h
    · exact Int.mul_nonneg h h
    · have:=Int.mul_nonneg (show 0≤-b by omega) (show 0≤-b by omega);rwa [Int.neg_mul_neg] at this
  rcases h with h | h
  · have:a*a≠0:=fun h'=>by rcases Int.mul_eq_zero.1 h' with h2 | h2<;>contradiction
    omega
  · have:b*b≠0:=fun h'=>by rcases Int.mul_eq_zero.1 h' with h2 | h2<;>contradiction
    omega
end Go.Proofs.YtkkjoghiigiokaaGreat.Trv
namespace Go.Proofs.YtkkjoghiigiokaaGreat.Mach
open Go
set_option linter.unusedVariables false
set_option linter.unusedSimpArgs false
def ArI (v:T_IntS) (n:Int) (i:Nat):St:=⟨[inL v,.p (.int .i64 n)]++List.replicate 5 anyA++[inL v,.p (.int .i64 v.1),.p (.int .i64 i)]++List.replicate 11 anyA,[],0⟩
def VcS (g:Nat→T_Bar) (nb:Nat) (N:Int) (pl:Nat→T_Place) (np:Nat) (v:T_IntS) (i:Nat):St :=
  ⟨[.p .any,inL v,.pt 3 0 0 0,.p .any,.p .any,.p (.int .i64 i)]++List.replicate 23 anyA,[(0,⟨true,3,1,fun _=>[.p (.int .i64 N),brL g nb,pcL pl np]⟩)],1⟩
def TI0 (g:Nat→T_Bar) (nb N:Nat) (pl:Nat→T_Place) (np:Nat) (v:T_IntS) (i:Nat):St :=
  ⟨[.p .any,inL v,.pt 3 0 0 0,.p .any,.p .any,.p (.int .i64 0),.p (.int .i64 1)]++List.replicate 13 anyA++[pcL pl np,.p (.int .i64 np),.p (.int .i64 i)]++List.replicate 117 anyA,[(0,fbx g nb N pl np)],1⟩
def TI1 (g:Nat→T_Bar) (nb N:Nat) (pl:Nat→T_Place) (np:Nat) (v:T_IntS) (num den:Int) (i:Nat):St :=
  ⟨[.p .any,inL v,.pt 3 0 0 0,.p .any,.p .any,.p (.int .i64 num),.p (.int .i64 den)]++List.replicate 75 anyA++[pcL pl np,.p (.int .i64 np),.p (.int .i64 i)]++List.replicate 55 anyA,[(0,fbx g nb N pl np)],1⟩
def TS0 (g:Nat→T_Bar) (nb:Nat) (N:Int) (pl:Nat→T_Place) (np:Nat) (v:T_IntS) (a:Nat):St :=
  ⟨[.p .any,inL v,.pt 3 0 0 0,.p .any,.p .any,.p (.int .i64 a)]++List.replicate 73 anyA,[(0,⟨true,3,1,fun _=>[.p (.int .i64 N),brL g nb,pcL pl np]⟩)],1⟩
def TS1 (g:Nat→T_Bar) (nb N:Nat) (pl:Nat→T_Place) (np:Nat) (v:T_IntS) (a b:Nat):St :=
  ⟨[.p .any,inL v,.pt 3 0 0 0,.p .any,.p .any,.p (.int .i64 a),.p (.int .i64 b)]++List.replicate 72 anyA,[(0,fbx g nb N pl np)],1⟩
def TF0 (g:Nat→T_Bar) (nb N:Nat) (pl:Nat→T_Place) (np:Nat) (v:T_IntS) (a:Nat):St :=
  ⟨[.p .any,inL v,.pt 3 0 0 0,.p .any,.p .any,.p (.int .i64 a)]++List.replicate 148 anyA,[(0,fbx g nb N pl np)],1⟩
def TF1 (g:Nat→T_Bar) (nb N:Nat) (pl:Nat→T_Place) (np:Nat) (v:T_IntS) (a b:Nat):St :=
  ⟨[.p .any,inL v,.pt 3 0 0 0,.p .any,.p .any,.p (.int .i64 a),.p (.int .i64 b)]++List.replicate 147 anyA,[(0,fbx g nb N pl np)],1⟩
theorem arz (v:T_IntS) (n:Int) :
    zT Tryz.f348 [rg 1,rg 3,.head] [inL v,.p (.int .i64 n)] [] (ArI v n 0) =
    some (zf118,zD [(AN v.1),(AP v.1 (iRw v)),(AI n),(AI ((↑v.1:Int))),((0:Int)=(↑0:Int))] [0,1,2,0,1,3,4]):=by kernel_rfl
theorem art (v:T_IntS) (n:Int) (i:Nat) :
    zM 0 [rg 1,.dec true,rg 3,rm [(1,oc [] (.p (.bool true)))] 1,.dec false,rg 2,.head] zf118 (ArI v n i) [] 1 (ArI v n (i+1)) =
    some (zf118,[((decide ((↑i:Int)<(↑v.1:Int)))=true),(IL 0 (↑i:Int)),(IT (↑i:Int) (↑v.1:Int)),zE 179 [.p (.int .i64 (v.2 i)),.p (.int .i64 (-10000000000)),.p (.int .i64 10000000000)] [] (.p (.bool true)),((!true)=false),(ZLo ((↑i:Int)+1)),(ZHi ((↑i:Int)+1)),(AN v.1),(AP v.1 (iRw v)),(AI n),(AN v.1),(AP v.1 (iRw v)),(AI ((↑v.1:Int))),((((↑i:Int)+1):Int)=(↑(i+1):Int))]):=by kernel_rfl
theorem arf (v:T_IntS) (n:Int) (i:Nat) :
    zP Tryz.f348 0 [rg 1,.dec true,rg 3,rm [(1,oc [] (.p (.bool false)))] 1,.dec true,rg 1] zf118 (ArI v n i) [] 1 [] (.p (.bool false)) =
    some [((decide ((↑i:Int)<(↑v.1:Int)))=true),(IL 0 (↑i:Int)),(IT (↑i:Int) (↑v.1:Int)),zE 179 [.p (.int .i64 (v.2 i)),.p (.int .i64 (-10000000000)),.p (.int .i64 10000000000)] [] (.p (.bool false)),((!false)=true),(false=false)]:=by kernel_rfl
theorem are (v:T_IntS) (n:Int) (i:Nat) :
    zP Tryz.f348 0 [rg 1,.dec false,rg 5] zf118 (ArI v n i) [] 1 [] (.p (.bool ((v.1:Int)==n))) =
    some [((decide ((↑i:Int)<(↑v.1:Int)))=false),(((↑v.1:Int)==n)=((↑v.1:Int)==n))]:=by kernel_rfl
theorem ivR (g:Nat→T_Bar) (nb:Nat) (N:Int) (pl:Nat→T_Place) (np:Nat) (v:T_IntS) (b1 b2:Bool) :
    zS Tryz.f305 [rg 2,rm [(1,oc [] (.p (.bool b1))),(6,oc [] (.p (.bool b2)))] 2] [frA g nb N pl np,inL v] [] [] (.p (.bool (bif b1 then b2 else false))) =
    some (zD [(NT 0 1),zE 128 [(zf60 N nb g np pl)] [] (.p (.bool b1)),(AG b1),((b1=true)→(NT 0 1)),((b1=true)→(ZLo (2*N))),((b1=true)→(ZHi (2*N))),((b1=true)→ zE 348 [.p (.seq true 1 v.1 (iRw v)),.p (.int .i64 (2*N))] [] (.p (.bool b2))),((bif b1 then b2 else false)=(bif b1 then b2 else false))] [0,1,2,2,3,2,4,5,2,2,6,2,7]):=by kernel_rfl
theorem vcz (g:Nat→T_Bar) (nb:Nat) (N:Int) (pl:Nat→T_Place) (np:Nat) (v:T_IntS) :
    zT Tryz.f299 [rg 2,rg 1,.head] [frA g nb N pl np,inL v] [0] (VcS g nb N pl np v 0) =
    some (zf119,[(AN v.1),(AP v.1 (iRw v)),(AN 0),((0:Int)=(↑0:Int)),((([AV.p (PV.int IntKind.i64 N),brL g nb,pcL pl np].length):Nat)=3),(NL 1 1),(NL 1 1),(AI N),(AN nb),(AP nb (bRw g)),(AN np),(AP np (bRw pl))]):=by kernel_rfl
theorem vct (g:Nat→T_Bar) (nb:Nat) (N:Int) (pl:Nat→T_Place) (np:Nat) (v:T_IntS) (i:Nat) :
    zM 0 [rg 4,.dec true,rm [(4,oc [] (.p (.bool true)))] 1,.dec false,rg 3,.head] zf119 (VcS g nb N pl np v i) [0] 1 (VcS g nb N pl np v (i+1)) =
    some (zf119,[((decide ((↑i:Int)<(↑v.1:Int)))=true),(IL 0 (↑i:Int)),(IT (↑i:Int) (↑v.1:Int)),zE 167 [.p (.int .i64 (v.2 i)),.p (.int .i64 (-10000000000)),.p (.int .i64 10000000000)] [] (.p (.bool true)),((!true)=false),(ZLo ((↑i:Int)+1)),(ZHi ((↑i:Int)+1)),(AN v.1),(AP v.1 (iRw v)),(AN 0),((((↑i:Int)+1):Int)=(↑(i+1):Int)),(AN 3),(NL 1 1),(NL 1 1),(AI N),(AN nb),(AP nb (bRw g)),(AN np),(AP np (bRw pl))]):=by kernel_rfl
theorem vcf (g:Nat→T_Bar) (nb:Nat) (N:Int) (pl:Nat→T_Place) (np:Nat) (v:T_IntS) (i:Nat) :
    zP Tryz.f299 0 [rg 4,.dec true,rm [(4,oc [] (.p (.bool false)))] 1,.dec true,rg 1] zf119 (VcS g nb N pl np v i) [] 1 [] (.p (.bool false)) =
    some [((decide ((↑i:Int)<(↑v.1:Int)))=true),(IL 0 (↑i:Int)),(IT (↑i:Int) (↑v.1:Int)),zE 167 [.p (.int .i64 (v.2 i)),.p (.int .i64 (-10000000000)),.p (.int .i64 10000000000)] [] (.p (.bool false)),((!false)=true),(false=false)]:=by kernel_rfl
theorem vce (g:Nat→T_Bar) (nb:Nat) (N:Int) (pl:Nat→T_Place) (np:Nat) (v:T_IntS) (i:Nat) (b:Bool) :
    zP Tryz.f299 0 [rg 4,.dec false,rm [(1,oc [] (.p (.bool b)))] 10] zf119 (VcS g nb N pl np v i) [] 1 [] (.p (.bool (bif b then (v.1:Int)==2*N else false))) =
    some (zD [((decide ((↑i:Int)<(↑v.1:Int)))=false),(NT 0 1),zE 117 [(zf53 N nb g np pl)] [] (.p (.bool b)),(AG b),((b=true)→(NT 0 1)),((b=true)→(ZLo (2*N))),((b=true)→(ZHi (2*N))),((bif b then (↑v.1:Int)==2*N else false)=(bif b then (↑v.1:Int)==2*N else false))] [0,1,2,3,3,3,4,3,5,6,3,3,3,7]):=by kernel_rfl
theorem chI (g:Nat→T_Bar) (nb N:Nat) (pl:Nat→T_Place) (np:Nat) (v:T_IntS) (a b:Nat) :
    zS Tryz.f306 [rg 2,rm [(2,oc [] (.p (.bool true))),(5,oc [] (.p (.bool true))),(6,oc [] (.p (.bool true)))] 2,.dec false,rg 14,rg 38] [frA g nb N pl np,inL v,.p (.int .i64 a),.p (.int .i64 b)] [] [] (.p (.int .i64 (((pl a).1 - (pl b).1)*(v.2 (2*a) - v.2 (2*b))+((pl a).2.1 - (pl b).2.1)*(v.2 (2*a+1) - v.2 (2*b+1))))) =
    some (zD [(NT 0 1),zE 305 [(zf56 N nb g np pl),.p (.seq true 1 v.1 (iRw v))] [] (.p (.bool true)),(AG (!!true)),(((!!true)=true)→(NT 0 1)),(((!!true)=true)→ zE 205 [(zf137 N nb g),.p (.int .i64 (↑a:Int))] [] (.p (.bool true))),(((!true)=false)→ ((!!true)=true)),(AG (!bif !true then true else !true)),(((!bif !true then true else !true)=true)→(NT 0 1)),(((!bif !true then true else !true)=true)→ zE 205 [(zf137 N nb g),.p (.int .i64 (↑b:Int))] [] (.p (.bool true))),(((bif !true then true else !true)=false)→ ((!bif !true then true else !true)=true)),((bif bif !true then true else !true then true else !true)=false),(IL 0 (↑a:Int)),(IT (↑a:Int) (↑np:Int)),(IL 0 (↑b:Int)),(IT (↑b:Int) (↑np:Int)),((true=true)→ (AN 1)),(ZLo ((pl a).1 - (pl b).1)),(ZHi ((pl a).1 - (pl b).1)),(ZLo (2*(↑a:Int))),(ZHi (2*(↑a:Int))),(IL 0 (2*(↑a:Int))),(IT (2*(↑a:Int)) (↑v.1:Int)),(ZLo (2*(↑b:Int))),(ZHi (2*(↑b:Int))),(IL 0 (2*(↑b:Int))),(IT (2*(↑b:Int)) (↑v.1:Int)),(ZLo (v.2 (2*a) - v.2 (2*b))),(ZHi (v.2 (2*a) - v.2 (2*b))),(ZLo (((pl a).1 - (pl b).1)*(v.2 (2*a) - v.2 (2*b)))),(ZHi (((pl a).1 - (pl b).1)*(v.2 (2*a) - v.2 (2*b)))),(ZLo ((pl a).2.1 - (pl b).2.1)),(ZHi ((pl a).2.1 - (pl b).2.1)),(ZLo (2*(↑a:Int)+1)),(ZHi (2*(↑a:Int)+1)),(IL 0 (2*(↑a:Int)+1)),(IT (2*(↑a:Int)+1) (↑v.1:Int)),(ZLo (2*(↑b:Int)+1)),(ZHi (2*(↑b:Int)+1)),(IL 0 (2*(↑b:Int)+1)),(IT (2*(↑b:Int)+1) (↑v.1:Int)),(ZLo (v.2 (2*a+1) - v.2 (2*b+1))),(ZHi (v.2 (2*a+1) - v.2 (2*b+1))),(ZLo (((pl a).2.1 - (pl b).2.1)*(v.2 (2*a+1) - v.2 (2*b+1)))),(ZHi (((pl a).2.1 - (pl b).2.1)*(v.2 (2*a+1) - v.2 (2*b+1)))),(ZLo (((pl a).1 - (pl b).1)*(v.2 (2*a) - v.2 (2*b))+((pl a).2.1 - (pl b).2.1)*(v.2 (2*a+1) - v.2 (2*b+1)))),(ZHi (((pl a).1 - (pl b).1)*(v.2 (2*a) - v.2 (2*b))+((pl a).2.1 - (pl b).2.1)*(v.2 (2*a+1) - v.2 (2*b+1)))),(AI ((((pl a).1 - (pl b).1)*(v.2 (2*a) - v.2 (2*b))+((pl a).2.1 - (pl b).2.1)*(v.2 (2*a+1) - v.2 (2*b+1)))))] [0,1,2,3,2,2,4,2,5,6,7,6,6,8,6,9,10,0,11,12,0,13,14,0,15,0,15,0,0,16,17,18,19,20,21,22,23,24,25,26,27,28,29,0,0,30,31,18,19,32,33,34,35,22,23,36,37,38,39,40,41,42,43,44,45,46]):=by kernel_rfl
theorem chS (g:Nat→T_Bar) (nb N:Nat) (pl:Nat→T_Place) (np:Nat) (v:T_IntS) (a b:Nat) :
    zS Tryz.f300 [rg 2,rm [(2,oc [] (.p (.bool true)))] 23,.dec false,rg 54] [frA g nb N pl np,inL v,.p (.int .i64 a),.p (.int .i64 b)] [] [] (.p (.int .i64 (((pl a).1 - (pl b).1)*(v.2 (2*a) - v.2 (2*b))+((pl a).2.1 - (pl b).2.1)*(v.2 (2*a+1) - v.2 (2*b+1))))) =
    some (zD [(NT 0 1),zE 299 [(zf56 N nb g np pl),.p (.seq true 1 v.1 (iRw v))] [] (.p (.bool true)),(AG (!!true)),(((!true)=false)→ ((!!true)=true)),(AG (!bif !true then true else decide ((↑a:Int)<0))),(((bif !true then true else decide ((↑a:Int)<0))=false)→ ((!bif !true then true else decide ((↑a:Int)<0))=true)),(AG (!bif bif !true then true else decide ((↑a:Int)<0) then true else decide ((↑b:Int)<0))),(((!bif bif !true then true else decide ((↑a:Int)<0) then true else decide ((↑b:Int)<0))=true)→(NT 0 1)),(((bif bif !true then true else decide ((↑a:Int)<0) then true else decide ((↑b:Int)<0))=false)→ ((!bif bif !true then true else decide ((↑a:Int)<0) then true else decide ((↑b:Int)<0))=true)),(AG (!bif bif bif !true then true else decide ((↑a:Int)<0) then true else decide ((↑b:Int)<0) then true else decide ((↑a:Int)≥(↑N:Int)))),(((!bif bif bif !true then true else decide ((↑a:Int)<0) then true else decide ((↑b:Int)<0) then true else decide ((↑a:Int)≥(↑N:Int)))=true)→(NT 0 1)),(((bif bif bif !true then true else decide ((↑a:Int)<0) then true else decide ((↑b:Int)<0) then true else decide ((↑a:Int)≥(↑N:Int)))=false)→ ((!bif bif bif !true then true else decide ((↑a:Int)<0) then true else decide ((↑b:Int)<0) then true else decide ((↑a:Int)≥(↑N:Int)))=true)),((bif bif bif bif !true then true else decide ((↑a:Int)<0) then true else decide ((↑b:Int)<0) then true else decide ((↑a:Int)≥(↑N:Int)) then true else decide ((↑b:Int)≥(↑N:Int)))=false),(IL 0 (↑a:Int)),(IT (↑a:Int) (↑np:Int)),(IL 0 (↑b:Int)),(IT (↑b:Int) (↑np:Int)),(ZLo ((pl a).1 - (pl b).1)),(ZHi ((pl a).1 - (pl b).1)),(ZLo (2*(↑a:Int))),(ZHi (2*(↑a:Int))),(IL 0 (2*(↑a:Int))),(IT (2*(↑a:Int)) (↑v.1:Int)),(ZLo (2*(↑b:Int))),(ZHi (2*(↑b:Int))),(IL 0 (2*(↑b:Int))),(IT (2*(↑b:Int)) (↑v.1:Int)),(ZLo (v.2 (2*a) - v.2 (2*b))),(ZHi (v.2 (2*a) - v.2 (2*b))),(ZLo (((pl a).1 - (pl b).1)*(v.2 (2*a) - v.2 (2*b)))),(ZHi (((pl a).1 - (pl b).1)*(v.2 (2*a) - v.2 (2*b)))),(ZLo ((pl a).2.1 - (pl b).2.1)),(ZHi ((pl a).2.1 - (pl b).2.1)),(ZLo (2*(↑a:Int)+1)),(ZHi (2*(↑a:Int)+1)),(IL 0 (2*(↑a:Int)+1)),(IT (2*(↑a:Int)+1) (↑v.1:Int)),(ZLo (2*(↑b:Int)+1)),(ZHi (2*(↑b:Int)+1)),(IL 0 (2*(↑b:Int)+1)),(IT (2*(↑b:Int)+1) (↑v.1:Int)),(ZLo (v.2 (2*a+1) - v.2 (2*b+1))),(ZHi (v.2 (2*a+1) - v.2 (2*b+1))),(ZLo (((pl a).2.1 - (pl b).2.1)*(v.2 (2*a+1) - v.2 (2*b+1)))),(ZHi (((pl a).2.1 - (pl b).2.1)*(v.2 (2*a+1) - v.2 (2*b+1)))),(ZLo (((pl a).1 - (pl b).1)*(v.2 (2*a) - v.2 (2*b))+((pl a).2.1 - (pl b).2.1)*(v.2 (2*a+1) - v.2 (2*b+1)))),(ZHi (((pl a).1 - (pl b).1)*(v.2 (2*a) - v.2 (2*b))+((pl a).2.1 - (pl b).2.1)*(v.2 (2*a+1) - v.2 (2*b+1)))),(AI ((((pl a).1 - (pl b).1)*(v.2 (2*a) - v.2 (2*b))+((pl a).2.1 - (pl b).2.1)*(v.2 (2*a+1) - v.2 (2*b+1)))))] [0,1,2,3,4,5,6,6,7,6,6,8,9,9,10,9,9,11,12,0,13,14,0,15,16,17,18,19,20,21,22,23,24,25,26,27,28,29,30,0,13,14,0,15,16,31,32,19,20,33,34,35,36,23,24,37,38,39,40,41,42,43,44,45,46,47]):=by kernel_rfl
theorem tiN (g:Nat→T_Bar) (nb:Nat) (N:Int) (pl:Nat→T_Place) (np:Nat) (v:T_IntS) :
    zS Tryz.f208 [rg 2,rm [(2,oc [] (.p (.bool false)))] 1,.dec true,rg 1] [frA g nb N pl np,inL v] [] [] (.p (.bool false)) =
    some [(NT 0 1),zE 305 [(zf60 N nb g np pl),.p (.seq true 1 v.1 (iRw v))] [] (.p (.bool false)),((!false)=true),(false=false)]:=by kernel_rfl
theorem tiz (g:Nat→T_Bar) (nb N:Nat) (pl:Nat→T_Place) (np:Nat) (v:T_IntS) :
    zT Tryz.f208 [rg 2,rm [(2,oc [] (.p (.bool true)))] 1,.dec false,rg 2,rg 4,.head] [frA g nb N pl np,inL v] [0] (TI0 g nb N pl np v 0) =
    some (zf77,[(NT 0 1),zE 305 [(zf56 N nb g np pl),.p (.seq true 1 v.1 (iRw v))] [] (.p (.bool true)),((!true)=false),(NT 0 1),(AN v.1),(AP v.1 (iRw v)),(AN 0),(AI 0),(AI 1),(AN np),(AP np (bRw pl)),(AI ((↑np:Int))),((0:Int)=(↑0:Int)),((([AV.p (PV.int IntKind.i64 (↑N:Int)),brL g nb,pcL pl np].length):Nat)=3),(NL 1 1),(NL 1 1),(AI ((↑N:Int))),(AN nb),(AP nb (bRw g)),(AN np),(AP np (bRw pl))]):=by kernel_rfl
theorem tia (g:Nat→T_Bar) (nb N:Nat) (pl:Nat→T_Place) (np:Nat) (v:T_IntS) (i:Nat) :
    zM 0 [rg 1,.dec true,rg 6,rg 18,rg 6,.dec false,rg 2,.head] zf77 (TI0 g nb N pl np v i) [0] 1 (TI0 g nb N pl np v (i+1)) =
    some (zf77,[((decide ((↑i:Int)<(↑np:Int)))=true),(IL 0 (↑i:Int)),(IT (↑i:Int) (↑np:Int)),(NT 0 1),((true=true)→ (AN 1)),(NT 0 1),(NT 0 1),(IL 0 0),(IT 0 (↑np:Int)),(ZLo ((pl i).1 - (pl 0).1)),(ZHi ((pl i).1 - (pl 0).1)),(NT 0 1),(NT 0 1),(IL 0 0),(IT 0 (↑np:Int)),(ZLo ((pl i).2.1 - (pl 0).2.1)),(ZHi ((pl i).2.1 - (pl 0).2.1)),(AG (!(pl i).1 - (pl 0).1 != 0)),((((pl i).1 - (pl 0).1 != 0)=false)→ ((!(pl i).1 - (pl 0).1 != 0)=true)),((bif (pl i).1 - (pl 0).1 != 0 then true else (pl i).2.1 - (pl 0).2.1 != 0)=false),(ZLo ((↑i:Int)+1)),(ZHi ((↑i:Int)+1)),(AN v.1),(AP v.1 (iRw v)),(AN 0),(AI 0),(AI 1),(AN np),(AP np (bRw pl)),(AI ((↑np:Int))),((((↑i:Int)+1):Int)=(↑(i+1):Int)),(AN 3),(NL 1 1),(NL 1 1),(AI ((↑N:Int))),(AN nb),(AP nb (bRw g)),(AN np),(AP np (bRw pl))]):=by kernel_rfl
theorem tib (g:Nat→T_Bar) (nb N:Nat) (pl:Nat→T_Place) (np:Nat) (v:T_IntS) (i:Nat) (num den:Int) :
    zM 0 [rg 1,.dec true,rg 6,rg 18,rg 6,.dec true,rg 25,rg 8,rg 4,.head] zf77 (TI0 g nb N pl np v i) [0] 1 (TI1 g nb N pl np v num den 0) =
    some (zf67,[((decide ((↑i:Int)<(↑np:Int)))=true),(IL 0 (↑i:Int)),(IT (↑i:Int) (↑np:Int)),(NT 0 1),((true=true)→ (AN 1)),(NT 0 1),(NT 0 1),(IL 0 0),(IT 0 (↑np:Int)),(ZLo ((pl i).1 - (pl 0).1)),(ZHi ((pl i).1 - (pl 0).1)),(NT 0 1),(NT 0 1),(IL 0 0),(IT 0 (↑np:Int)),(ZLo ((pl i).2.1 - (pl 0).2.1)),(ZHi ((pl i).2.1 - (pl 0).2.1)),(AG (!(pl i).1 - (pl 0).1 != 0)),((((pl i).1 - (pl 0).1 != 0)=false)→ ((!(pl i).1 - (pl 0).1 != 0)=true)),((bif (pl i).1 - (pl 0).1 != 0 then true else (pl i).2.1 - (pl 0).2.1 != 0)=true),(ZLo (2*(↑i:Int))),(ZHi (2*(↑i:Int))),(ZLo (2*(↑i:Int)+1)),(ZHi (2*(↑i:Int)+1)),(IL 0 (2*(↑i:Int)+1)),(IT (2*(↑i:Int)+1) (↑v.1:Int)),(IL 0 1),(IT 1 (↑v.1:Int)),(ZLo (v.2 (2*i+1) - v.2 1)),(ZHi (v.2 (2*i+1) - v.2 1)),(ZLo ((v.2 (2*i+1) - v.2 1)*((pl i).1 - (pl 0).1))),(ZHi ((v.2 (2*i+1) - v.2 1)*((pl i).1 - (pl 0).1))),(ZLo (2*(↑i:Int))),(ZHi (2*(↑i:Int))),(IL 0 (2*(↑i:Int))),(IT (2*(↑i:Int)) (↑v.1:Int)),(IL 0 0),(IT 0 (↑v.1:Int)),(ZLo (v.2 (2*i) - v.2 0)),(ZHi (v.2 (2*i) - v.2 0)),(ZLo ((v.2 (2*i) - v.2 0)*((pl i).2.1 - (pl 0).2.1))),(ZHi ((v.2 (2*i) - v.2 0)*((pl i).2.1 - (pl 0).2.1))),(ZLo ((v.2 (2*i+1) - v.2 1)*((pl i).1 - (pl 0).1) - (v.2 (2*i) - v.2 0)*((pl i).2.1 - (pl 0).2.1))),(ZHi ((v.2 (2*i+1) - v.2 1)*((pl i).1 - (pl 0).1) - (v.2 (2*i) - v.2 0)*((pl i).2.1 - (pl 0).2.1))),(ZLo (((pl i).1 - (pl 0).1)*((pl i).1 - (pl 0).1))),(ZHi (((pl i).1 - (pl 0).1)*((pl i).1 - (pl 0).1))),(ZLo (((pl i).2.1 - (pl 0).2.1)*((pl i).2.1 - (pl 0).2.1))),(ZHi (((pl i).2.1 - (pl 0).2.1)*((pl i).2.1 - (pl 0).2.1))),(ZLo (((pl i).1 - (pl 0).1)*((pl i).1 - (pl 0).1)+((pl i).2.1 - (pl 0).2.1)*((pl i).2.1 - (pl 0).2.1))),(ZHi (((pl i).1 - (pl 0).1)*((pl i).1 - (pl 0).1)+((pl i).2.1 - (pl 0).2.1)*((pl i).2.1 - (pl 0).2.1))),(NT 0 1),(AN v.1),(AP v.1 (iRw v)),(AN 0),((((v.2 (2*i+1) - v.2 1)*((pl i).1 - (pl 0).1) - (v.2 (2*i) - v.2 0)*((pl i).2.1 - (pl 0).2.1)):Int)=num),(((((pl i).1 - (pl 0).1)*((pl i).1 - (pl 0).1)+((pl i).2.1 - (pl 0).2.1)*((pl i).2.1 - (pl 0).2.1)):Int)=den),(AN np),(AP np (bRw pl)),(AI ((↑np:Int))),((0:Int)=(↑0:Int)),(AN 3),(NL 1 1),(NL 1 1),(AI ((↑N:Int))),(AN nb),(AP nb (bRw g)),(AN np),(AP np (bRw pl))]):=by kernel_rfl
theorem tic (g:Nat→T_Bar) (nb N:Nat) (pl:Nat→T_Place) (np:Nat) (v:T_IntS) (i:Nat) :
    zM 0 [rg 1,.dec false,rg 4,.head] zf77 (TI0 g nb N pl np v i) [0] 1 (TI1 g nb N pl np v 0 1 0) =
    some (zf67,[((decide ((↑i:Int)<(↑np:Int)))=false),(NT 0 1),(AN v.1),(AP v.1 (iRw v)),(AN 0),(AI 0),(AI 1),(AN np),(AP np (bRw pl)),(AI ((↑np:Int))),((0:Int)=(↑0:Int)),(AN 3),(NL 1 1),(NL 1 1),(AI ((↑N:Int))),(AN nb),(AP nb (bRw g)),(AN np),(AP np (bRw pl))]):=by kernel_rfl
theorem tid (g:Nat→T_Bar) (nb N:Nat) (pl:Nat→T_Place) (np:Nat) (v:T_IntS) (num den:Int) (i:Nat) :
    zM 0 [rg 1,.dec true,rg 6,rg 18,rg 34,.dec false,rg 2,.head] zf67 (TI1 g nb N pl np v num den i) [0] 1 (TI1 g nb N pl np v num den (i+1)) =
    some (zf67,zD [((decide ((↑i:Int)<(↑np:Int)))=true),(IL 0 (↑i:Int)),(IT (↑i:Int) (↑np:Int)),(NT 0 1),((true=true)→ (AN 1)),(IL 0 0),(IT 0 (↑np:Int)),(ZLo ((pl i).1 - (pl 0).1)),(ZHi ((pl i).1 - (pl 0).1)),(ZLo ((pl i).2.1 - (pl 0).2.1)),(ZHi ((pl i).2.1 - (pl 0).2.1)),(ZLo (2*(↑i:Int))),(ZHi (2*(↑i:Int))),(IL 0 (2*(↑i:Int))),(IT (2*(↑i:Int)) (↑v.1:Int)),(IT 0 (↑v.1:Int)),(ZLo (v.2 (2*i) - v.2 0)),(ZHi (v.2 (2*i) - v.2 0)),(ZLo ((v.2 (2*i) - v.2 0)*den)),(ZHi ((v.2 (2*i) - v.2 0)*den)),(ZLo (0 - num)),(ZHi (0 - num)),(ZLo ((0 - num)*((pl i).2.1 - (pl 0).2.1))),(ZHi ((0 - num)*((pl i).2.1 - (pl 0).2.1))),(AG (!(v.2 (2*i) - v.2 0)*den != (0 - num)*((pl i).2.1 - (pl 0).2.1))),(((!(v.2 (2*i) - v.2 0)*den != (0 - num)*((pl i).2.1 - (pl 0).2.1))=true)→(ZLo (2*(↑i:Int)))),(((!(v.2 (2*i) - v.2 0)*den != (0 - num)*((pl i).2.1 - (pl 0).2.1))=true)→(ZHi (2*(↑i:Int)))),(((!(v.2 (2*i) - v.2 0)*den != (0 - num)*((pl i).2.1 - (pl 0).2.1))=true)→(ZLo (2*(↑i:Int)+1))),(((!(v.2 (2*i) - v.2 0)*den != (0 - num)*((pl i).2.1 - (pl 0).2.1))=true)→(ZHi (2*(↑i:Int)+1))),(((!(v.2 (2*i) - v.2 0)*den != (0 - num)*((pl i).2.1 - (pl 0).2.1))=true)→(IL 0 (2*(↑i:Int)+1))),(((!(v.2 (2*i) - v.2 0)*den != (0 - num)*((pl i).2.1 - (pl 0).2.1))=true)→(IT (2*(↑i:Int)+1) (↑v.1:Int))),(((!(v.2 (2*i) - v.2 0)*den != (0 - num)*((pl i).2.1 - (pl 0).2.1))=true)→(IL 0 1)),(((!(v.2 (2*i) - v.2 0)*den != (0 - num)*((pl i).2.1 - (pl 0).2.1))=true)→(IT 1 (↑v.1:Int))),(((!(v.2 (2*i) - v.2 0)*den != (0 - num)*((pl i).2.1 - (pl 0).2.1))=true)→(ZLo (v.2 (2*i+1) - v.2 1))),(((!(v.2 (2*i) - v.2 0)*den != (0 - num)*((pl i).2.1 - (pl 0).2.1))=true)→(ZHi (v.2 (2*i+1) - v.2 1))),(((!(v.2 (2*i) - v.2 0)*den != (0 - num)*((pl i).2.1 - (pl 0).2.1))=true)→(ZLo ((v.2 (2*i+1) - v.2 1)*den))),(((!(v.2 (2*i) - v.2 0)*den != (0 - num)*((pl i).2.1 - (pl 0).2.1))=true)→(ZHi ((v.2 (2*i+1) - v.2 1)*den))),(((!(v.2 (2*i) - v.2 0)*den != (0 - num)*((pl i).2.1 - (pl 0).2.1))=true)→(ZLo (num*((pl i).1 - (pl 0).1)))),(((!(v.2 (2*i) - v.2 0)*den != (0 - num)*((pl i).2.1 - (pl 0).2.1))=true)→(ZHi (num*((pl i).1 - (pl 0).1)))),((((v.2 (2*i) - v.2 0)*den != (0 - num)*((pl i).2.1 - (pl 0).2.1))=false)→ ((!(v.2 (2*i) - v.2 0)*den != (0 - num)*((pl i).2.1 - (pl 0).2.1))=true)),((bif (v.2 (2*i) - v.2 0)*den != (0 - num)*((pl i).2.1 - (pl 0).2.1) then true else (v.2 (2*i+1) - v.2 1)*den != num*((pl i).1 - (pl 0).1))=false),(ZLo ((↑i:Int)+1)),(ZHi ((↑i:Int)+1)),(AN v.1),(AP v.1 (iRw v)),(AN 0),(AI num),(AI den),(AN np),(AP np (bRw pl)),(AI ((↑np:Int))),((((↑i:Int)+1):Int)=(↑(i+1):Int)),(AN 3),(NL 1 1),(AI ((↑N:Int))),(AN nb),(AP nb (bRw g))] [0,1,2,3,4,3,3,5,6,7,8,3,3,5,6,9,10,11,12,13,14,5,15,16,17,18,19,20,21,22,23,24,25,26,24,27,28,24,24,29,30,24,24,31,32,24,24,24,33,34,24,24,35,36,24,24,37,38,24,24,39,40,41,42,43,44,45,46,47,48,49,50,51,52,53,53,54,55,56,48,49]):=by kernel_rfl
theorem tie (g:Nat→T_Bar) (nb N:Nat) (pl:Nat→T_Place) (np:Nat) (v:T_IntS) (num den:Int) (i:Nat) :
    zP Tryz.f208 0 [rg 1,.dec true,rg 6,rg 18,rg 34,.dec true,rg 1] zf67 (TI1 g nb N pl np v num den i) [] 1 [] (.p (.bool false)) =
    some (zD [((decide ((↑i:Int)<(↑np:Int)))=true),(IL 0 (↑i:Int)),(IT (↑i:Int) (↑np:Int)),(NT 0 1),((true=true)→ (AN 1)),(IL 0 0),(IT 0 (↑np:Int)),(ZLo ((pl i).1 - (pl 0).1)),(ZHi ((pl i).1 - (pl 0).1)),(ZLo ((pl i).2.1 - (pl 0).2.1)),(ZHi ((pl i).2.1 - (pl 0).2.1)),(ZLo (2*(↑i:Int))),(ZHi (2*(↑i:Int))),(IL 0 (2*(↑i:Int))),(IT (2*(↑i:Int)) (↑v.1:Int)),(IT 0 (↑v.1:Int)),(ZLo (v.2 (2*i) - v.2 0)),(ZHi (v.2 (2*i) - v.2 0)),(ZLo ((v.2 (2*i) - v.2 0)*den)),(ZHi ((v.2 (2*i) - v.2 0)*den)),(ZLo (0 - num)),(ZHi (0 - num)),(ZLo ((0 - num)*((pl i).2.1 - (pl 0).2.1))),(ZHi ((0 - num)*((pl i).2.1 - (pl 0).2.1))),(AG (!(v.2 (2*i) - v.2 0)*den != (0 - num)*((pl i).2.1 - (pl 0).2.1))),(((!(v.2 (2*i) - v.2 0)*den != (0 - num)*((pl i).2.1 - (pl 0).2.1))=true)→(ZLo (2*(↑i:Int)))),(((!(v.2 (2*i) - v.2 0)*den != (0 - num)*((pl i).2.1 - (pl 0).2.1))=true)→(ZHi (2*(↑i:Int)))),(((!(v.2 (2*i) - v.2 0)*den != (0 - num)*((pl i).2.1 - (pl 0).2.1))=true)→(ZLo (2*(↑i:Int)+1))),(((!(v.2 (2*i) - v.2 0)*den != (0 - num)*((pl i).2.1 - (pl 0).2.1))=true)→(ZHi (2*(↑i:Int)+1))),(((!(v.2 (2*i) - v.2 0)*den != (0 - num)*((pl i).2.1 - (pl 0).2.1))=true)→(IL 0 (2*(↑i:Int)+1))),(((!(v.2 (2*i) - v.2 0)*den != (0 - num)*((pl i).2.1 - (pl 0).2.1))=true)→(IT (2*(↑i:Int)+1) (↑v.1:Int))),(((!(v.2 (2*i) - v.2 0)*den != (0 - num)*((pl i).2.1 - (pl 0).2.1))=true)→(IL 0 1)),(((!(v.2 (2*i) - v.2 0)*den != (0 - num)*((pl i).2.1 - (pl 0).2.1))=true)→(IT 1 (↑v.1:Int))),(((!(v.2 (2*i) - v.2 0)*den != (0 - num)*((pl i).2.1 - (pl 0).2.1))=true)→(ZLo (v.2 (2*i+1) - v.2 1))),(((!(v.2 (2*i) - v.2 0)*den != (0 - num)*((pl i).2.1 - (pl 0).2.1))=true)→(ZHi (v.2 (2*i+1) - v.2 1))),(((!(v.2 (2*i) - v.2 0)*den != (0 - num)*((pl i).2.1 - (pl 0).2.1))=true)→(ZLo ((v.2 (2*i+1) - v.2 1)*den))),(((!(v.2 (2*i) - v.2 0)*den != (0 - num)*((pl i).2.1 - (pl 0).2.1))=true)→(ZHi ((v.2 (2*i+1) - v.2 1)*den))),(((!(v.2 (2*i) - v.2 0)*den != (0 - num)*((pl i).2.1 - (pl 0).2.1))=true)→(ZLo (num*((pl i).1 - (pl 0).1)))),(((!(v.2 (2*i) - v.2 0)*den != (0 - num)*((pl i).2.1 - (pl 0).2.1))=true)→(ZHi (num*((pl i).1 - (pl 0).1)))),((((v.2 (2*i) - v.2 0)*den != (0 - num)*((pl i).2.1 - (pl 0).2.1))=false)→ ((!(v.2 (2*i) - v.2 0)*den != (0 - num)*((pl i).2.1 - (pl 0).2.1))=true)),((bif (v.2 (2*i) - v.2 0)*den != (0 - num)*((pl i).2.1 - (pl 0).2.1) then true else (v.2 (2*i+1) - v.2 1)*den != num*((pl i).1 - (pl 0).1))=true),(false=false)] [0,1,2,3,4,3,3,5,6,7,8,3,3,5,6,9,10,11,12,13,14,5,15,16,17,18,19,20,21,22,23,24,25,26,24,27,28,24,24,29,30,24,24,31,32,24,24,24,33,34,24,24,35,36,24,24,37,38,24,24,39,40,41]):=by kernel_rfl
theorem tif (g:Nat→T_Bar) (nb N:Nat) (pl:Nat→T_Place) (np:Nat) (v:T_IntS) (num den:Int) (i:Nat) :
    zP Tryz.f208 0 [rg 1,.dec false,rg 1] zf67 (TI1 g nb N pl np v num den i) [] 1 [] (.p (.bool true)) =
    some [((decide ((↑i:Int)<(↑np:Int)))=false),(true=true)]:=by kernel_rfl
theorem tsz (g:Nat→T_Bar) (nb:Nat) (N:Int) (pl:Nat→T_Place) (np:Nat) (v:T_IntS) :
    zT Tryz.f199 [rg 2,rg 1,.head] [frA g nb N pl np,inL v] [0] (TS0 g nb N pl np v 0) =
    some (zf120,[(AN v.1),(AP v.1 (iRw v)),(AN 0),((0:Int)=(↑0:Int)),((([AV.p (PV.int IntKind.i64 N),brL g nb,pcL pl np].length):Nat)=3),(NL 1 1),(NL 1 1),(AI N),(AN nb),(AP nb (bRw g)),(AN np),(AP np (bRw pl))]):=by kernel_rfl
theorem tsa (g:Nat→T_Bar) (nb N:Nat) (pl:Nat→T_Place) (np:Nat) (v:T_IntS) (a:Nat) :
    zM 0 [rm [(8,oc [] (.p (.bool true)))] 1,.dec true,rg 1,.head] zf120 (TS0 g nb N pl np v a) [0] 1 (TS1 g nb N pl np v a 0) =
    some (zf30,zD [(NT 0 1),(((decide ((↑a:Int)<(↑N:Int)))=true)→(NT 0 1)),(AG (decide ((↑a:Int)<(↑N:Int)))),(((decide ((↑a:Int)<(↑N:Int)))=true)→ zE 299 [(zf56 N nb g np pl),.p (.seq true 1 v.1 (iRw v))] [] (.p (.bool true))),((bif decide ((↑a:Int)<(↑N:Int)) then true else false)=true),(AN v.1),(AP v.1 (iRw v)),(AN 0),(AI ((↑a:Int))),((0:Int)=(↑0:Int)),(AN 3),(NL 1 1),(AI ((↑N:Int))),(AN nb),(AP nb (bRw g)),(AN np),(AP np (bRw pl))] [0,1,2,2,3,2,4,5,6,7,8,9,10,11,11,12,13,14,15,16]):=by kernel_rfl
theorem tsb (g:Nat→T_Bar) (nb N:Nat) (pl:Nat→T_Place) (np:Nat) (v:T_IntS) (a b:Nat) (x:Int) :
    zM 0 [rg 3,.dec true,rm [(4,oc [] (.p (.int .i64 x)))] 42,.dec false,rg 3,.head] zf30 (TS1 g nb N pl np v a b) [0] 1 (TS1 g nb N pl np v a (b+1)) =
    some (zf30,zD [((decide ((↑b:Int)<(↑a:Int)))=true),(NT 0 1),zE 300 [(zf56 N nb g np pl),.p (.seq true 1 v.1 (iRw v)),.p (.int .i64 (↑a:Int)),.p (.int .i64 (↑b:Int))] [] (.p (.int .i64 x)),(AG (!x != 0)),(((!x != 0)=true)→(NT 0 1)),(((!x != 0)=true)→(IL 0 (↑a:Int))),(((!x != 0)=true)→(IT (↑a:Int) (↑np:Int))),(((!x != 0)=true)→(IL 0 (↑b:Int))),(((!x != 0)=true)→(IT (↑b:Int) (↑np:Int))),(AG (!x != 0&&((pl a).1==(pl b).1&&((pl a).2.1==(pl b).2.1&&true)))),(((!x != 0&&((pl a).1==(pl b).1&&((pl a).2.1==(pl b).2.1&&true)))=true)→(ZLo (2*(↑a:Int)))),(((!x != 0&&((pl a).1==(pl b).1&&((pl a).2.1==(pl b).2.1&&true)))=true)→(ZHi (2*(↑a:Int)))),(((!x != 0&&((pl a).1==(pl b).1&&((pl a).2.1==(pl b).2.1&&true)))=true)→(IL 0 (2*(↑a:Int)))),(((!x != 0&&((pl a).1==(pl b).1&&((pl a).2.1==(pl b).2.1&&true)))=true)→(IT (2*(↑a:Int)) (↑v.1:Int))),(((!x != 0&&((pl a).1==(pl b).1&&((pl a).2.1==(pl b).2.1&&true)))=true)→(ZLo (2*(↑b:Int)))),(((!x != 0&&((pl a).1==(pl b).1&&((pl a).2.1==(pl b).2.1&&true)))=true)→(ZHi (2*(↑b:Int)))),(((!x != 0&&((pl a).1==(pl b).1&&((pl a).2.1==(pl b).2.1&&true)))=true)→(IL 0 (2*(↑b:Int)))),(((!x != 0&&((pl a).1==(pl b).1&&((pl a).2.1==(pl b).2.1&&true)))=true)→(IT (2*(↑b:Int)) (↑v.1:Int))),(AG (!x != 0&&((pl a).1==(pl b).1&&((pl a).2.1==(pl b).2.1&&true))&&!v.2 (2*a) != v.2 (2*b))),(((!x != 0&&((pl a).1==(pl b).1&&((pl a).2.1==(pl b).2.1&&true))&&!v.2 (2*a) != v.2 (2*b))=true)→(ZLo (2*(↑a:Int)))),(((!x != 0&&((pl a).1==(pl b).1&&((pl a).2.1==(pl b).2.1&&true))&&!v.2 (2*a) != v.2 (2*b))=true)→(ZHi (2*(↑a:Int)))),(((!x != 0&&((pl a).1==(pl b).1&&((pl a).2.1==(pl b).2.1&&true))&&!v.2 (2*a) != v.2 (2*b))=true)→(ZLo (2*(↑a:Int)+1))),(((!x != 0&&((pl a).1==(pl b).1&&((pl a).2.1==(pl b).2.1&&true))&&!v.2 (2*a) != v.2 (2*b))=true)→(ZHi (2*(↑a:Int)+1))),(((!x != 0&&((pl a).1==(pl b).1&&((pl a).2.1==(pl b).2.1&&true))&&!v.2 (2*a) != v.2 (2*b))=true)→(IL 0 (2*(↑a:Int)+1))),(((!x != 0&&((pl a).1==(pl b).1&&((pl a).2.1==(pl b).2.1&&true))&&!v.2 (2*a) != v.2 (2*b))=true)→(IT (2*(↑a:Int)+1) (↑v.1:Int))),(((!x != 0&&((pl a).1==(pl b).1&&((pl a).2.1==(pl b).2.1&&true))&&!v.2 (2*a) != v.2 (2*b))=true)→(ZLo (2*(↑b:Int)))),(((!x != 0&&((pl a).1==(pl b).1&&((pl a).2.1==(pl b).2.1&&true))&&!v.2 (2*a) != v.2 (2*b))=true)→(ZHi (2*(↑b:Int)))),(((!x != 0&&((pl a).1==(pl b).1&&((pl a).2.1==(pl b).2.1&&true))&&!v.2 (2*a) != v.2 (2*b))=true)→(ZLo (2*(↑b:Int)+1))),(((!x != 0&&((pl a).1==(pl b).1&&((pl a).2.1==(pl b).2.1&&true))&&!v.2 (2*a) != v.2 (2*b))=true)→(ZHi (2*(↑b:Int)+1))),(((!x != 0&&((pl a).1==(pl b).1&&((pl a).2.1==(pl b).2.1&&true))&&!v.2 (2*a) != v.2 (2*b))=true)→(IL 0 (2*(↑b:Int)+1))),(((!x != 0&&((pl a).1==(pl b).1&&((pl a).2.1==(pl b).2.1&&true))&&!v.2 (2*a) != v.2 (2*b))=true)→(IT (2*(↑b:Int)+1) (↑v.1:Int))),(((!x != 0&&((pl a).1==(pl b).1&&((pl a).2.1==(pl b).2.1&&true)))=true)→(((v.2 (2*a) != v.2 (2*b))=false)→ ((!x != 0&&((pl a).1==(pl b).1&&((pl a).2.1==(pl b).2.1&&true))&&!v.2 (2*a) != v.2 (2*b))=true))),(((!x != 0)=true)→((((pl a).1==(pl b).1&&((pl a).2.1==(pl b).2.1&&true))=true)→ ((!x != 0&&((pl a).1==(pl b).1&&((pl a).2.1==(pl b).2.1&&true)))=true))),(((x != 0)=false)→ ((!x != 0)=true)),((bif x != 0 then true else bif (pl a).1==(pl b).1&&((pl a).2.1==(pl b).2.1&&true) then bif v.2 (2*a) != v.2 (2*b) then true else v.2 (2*a+1) != v.2 (2*b+1) else false)=false),(ZLo ((↑b:Int)+1)),(ZHi ((↑b:Int)+1)),(AN v.1),(AP v.1 (iRw v)),(AN 0),(AI ((↑a:Int))),((((↑b:Int)+1):Int)=(↑(b+1):Int)),(AN 3),(NL 1 1),(AI ((↑N:Int))),(AN nb),(AP nb (bRw g)),(AN np),(AP np (bRw pl))] [0,1,2,3,4,3,3,5,6,3,3,4,3,3,7,8,3,3,3,3,9,10,11,9,9,12,13,9,9,14,15,9,9,16,17,9,9,9,9,18,19,20,18,21,22,18,18,23,24,18,18,25,26,18,27,28,18,18,29,30,18,18,18,9,31,3,32,33,34,35,36,37,38,39,40,41,42,43,43,44,45,46,47,48]):=by kernel_rfl
theorem tsc (g:Nat→T_Bar) (nb N:Nat) (pl:Nat→T_Place) (np:Nat) (v:T_IntS) (a b:Nat) (x:Int) :
    zP Tryz.f199 0 [rg 3,.dec true,rm [(4,oc [] (.p (.int .i64 x)))] 42,.dec true,rg 1] zf30 (TS1 g nb N pl np v a b) [] 1 [] (.p (.bool false)) =
    some (zD [((decide ((↑b:Int)<(↑a:Int)))=true),(NT 0 1),zE 300 [(zf56 N nb g np pl),.p (.seq true 1 v.1 (iRw v)),.p (.int .i64 (↑a:Int)),.p (.int .i64 (↑b:Int))] [] (.p (.int .i64 x)),(AG (!x != 0)),(((!x != 0)=true)→(NT 0 1)),(((!x != 0)=true)→(IL 0 (↑a:Int))),(((!x != 0)=true)→(IT (↑a:Int) (↑np:Int))),(((!x != 0)=true)→(IL 0 (↑b:Int))),(((!x != 0)=true)→(IT (↑b:Int) (↑np:Int))),(AG (!x != 0&&((pl a).1==(pl b).1&&((pl a).2.1==(pl b).2.1&&true)))),(((!x != 0&&((pl a).1==(pl b).1&&((pl a).2.1==(pl b).2.1&&true)))=true)→(ZLo (2*(↑a:Int)))),(((!x != 0&&((pl a).1==(pl b).1&&((pl a).2.1==(pl b).2.1&&true)))=true)→(ZHi (2*(↑a:Int)))),(((!x != 0&&((pl a).1==(pl b).1&&((pl a).2.1==(pl b).2.1&&true)))=true)→(IL 0 (2*(↑a:Int)))),(((!x != 0&&((pl a).1==(pl b).1&&((pl a).2.1==(pl b).2.1&&true)))=true)→(IT (2*(↑a:Int)) (↑v.1:Int))),(((!x != 0&&((pl a).1==(pl b).1&&((pl a).2.1==(pl b).2.1&&true)))=true)→(ZLo (2*(↑b:Int)))),(((!x != 0&&((pl a).1==(pl b).1&&((pl a).2.1==(pl b).2.1&&true)))=true)→(ZHi (2*(↑b:Int)))),(((!x != 0&&((pl a).1==(pl b).1&&((pl a).2.1==(pl b).2.1&&true)))=true)→(IL 0 (2*(↑b:Int)))),(((!x != 0&&((pl a).1==(pl b).1&&((pl a).2.1==(pl b).2.1&&true)))=true)→(IT (2*(↑b:Int)) (↑v.1:Int))),(AG (!x != 0&&((pl a).1==(pl b).1&&((pl a).2.1==(pl b).2.1&&true))&&!v.2 (2*a) != v.2 (2*b))),(((!x != 0&&((pl a).1==(pl b).1&&((pl a).2.1==(pl b).2.1&&true))&&!v.2 (2*a) != v.2 (2*b))=true)→(ZLo (2*(↑a:Int)))),(((!x != 0&&((pl a).1==(pl b).1&&((pl a).2.1==(pl b).2.1&&true))&&!v.2 (2*a) != v.2 (2*b))=true)→(ZHi (2*(↑a:Int)))),(((!x != 0&&((pl a).1==(pl b).1&&((pl a).2.1==(pl b).2.1&&true))&&!v.2 (2*a) != v.2 (2*b))=true)→(ZLo (2*(↑a:Int)+1))),(((!x != 0&&((pl a).1==(pl b).1&&((pl a).2.1==(pl b).2.1&&true))&&!v.2 (2*a) != v.2 (2*b))=true)→(ZHi (2*(↑a:Int)+1))),(((!x != 0&&((pl a).1==(pl b).1&&((pl a).2.1==(pl b).2.1&&true))&&!v.2 (2*a) != v.2 (2*b))=true)→(IL 0 (2*(↑a:Int)+1))),(((!x != 0&&((pl a).1==(pl b).1&&((pl a).2.1==(pl b).2.1&&true))&&!v.2 (2*a) != v.2 (2*b))=true)→(IT (2*(↑a:Int)+1) (↑v.1:Int))),(((!x != 0&&((pl a).1==(pl b).1&&((pl a).2.1==(pl b).2.1&&true))&&!v.2 (2*a) != v.2 (2*b))=true)→(ZLo (2*(↑b:Int)))),(((!x != 0&&((pl a).1==(pl b).1&&((pl a).2.1==(pl b).2.1&&true))&&!v.2 (2*a) != v.2 (2*b))=true)→(ZHi (2*(↑b:Int)))),(((!x != 0&&((pl a).1==(pl b).1&&((pl a).2.1==(pl b).2.1&&true))&&!v.2 (2*a) != v.2 (2*b))=true)→(ZLo (2*(↑b:Int)+1))),(((!x != 0&&((pl a).1==(pl b).1&&((pl a).2.1==(pl b).2.1&&true))&&!v.2 (2*a) != v.2 (2*b))=true)→(ZHi (2*(↑b:Int)+1))),(((!x != 0&&((pl a).1==(pl b).1&&((pl a).2.1==(pl b).2.1&&true))&&!v.2 (2*a) != v.2 (2*b))=true)→(IL 0 (2*(↑b:Int)+1))),(((!x != 0&&((pl a).1==(pl b).1&&((pl a).2.1==(pl b).2.1&&true))&&!v.2 (2*a) != v.2 (2*b))=true)→(IT (2*(↑b:Int)+1) (↑v.1:Int))),(((!x != 0&&((pl a).1==(pl b).1&&((pl a).2.1==(pl b).2.1&&true)))=true)→(((v.2 (2*a) != v.2 (2*b))=false)→ ((!x != 0&&((pl a).1==(pl b).1&&((pl a).2.1==(pl b).2.1&&true))&&!v.2 (2*a) != v.2 (2*b))=true))),(((!x != 0)=true)→((((pl a).1==(pl b).1&&((pl a).2.1==(pl b).2.1&&true))=true)→ ((!x != 0&&((pl a).1==(pl b).1&&((pl a).2.1==(pl b).2.1&&true)))=true))),(((x != 0)=false)→ ((!x != 0)=true)),((bif x != 0 then true else bif (pl a).1==(pl b).1&&((pl a).2.1==(pl b).2.1&&true) then bif v.2 (2*a) != v.2 (2*b) then true else v.2 (2*a+1) != v.2 (2*b+1) else false)=true),(false=false)] [0,1,2,3,4,3,3,5,6,3,3,4,3,3,7,8,3,3,3,3,9,10,11,9,9,12,13,9,9,14,15,9,9,16,17,9,9,9,9,18,19,20,18,21,22,18,18,23,24,18,18,25,26,18,27,28,18,18,29,30,18,18,18,9,31,3,32,33,34,35]):=by kernel_rfl
theorem tsd (g:Nat→T_Bar) (nb N:Nat) (pl:Nat→T_Place) (np:Nat) (v:T_IntS) (a b:Nat) :
    zM 0 [rg 3,.dec false,rg 3,.head] zf30 (TS1 g nb N pl np v a b) [0] 1 (TS0 g nb N pl np v (a+1)) =
    some (zf120,[((decide ((↑b:Int)<(↑a:Int)))=false),(ZLo ((↑a:Int)+1)),(ZHi ((↑a:Int)+1)),(AN v.1),(AP v.1 (iRw v)),(AN 0),((((↑a:Int)+1):Int)=(↑(a+1):Int)),(AN 3),(NL 1 1),(NL 1 1),(AI ((↑N:Int))),(AN nb),(AP nb (bRw g)),(AN np),(AP np (bRw pl))]):=by kernel_rfl
theorem tse (g:Nat→T_Bar) (nb:Nat) (N:Int) (pl:Nat→T_Place) (np:Nat) (v:T_IntS) (a:Nat) (b1 b2:Bool) :
    zP Tryz.f199 0 [rm [(8,oc [] (.p (.bool b1)))] 1,.dec false,rm [(2,oc [] (.p (.bool b1))),(3,oc [] (.p (.bool b2)))] 2] zf120 (TS0 g nb N pl np v a) [] 1 [] (.p (.bool (bif b1 then b2 else false))) =
    some (zD [(NT 0 1),(((decide ((↑a:Int)<N))=true)→(NT 0 1)),(AG (decide ((↑a:Int)<N))),(((decide ((↑a:Int)<N))=true)→ zE 299 [(zf60 N nb g np pl),.p (.seq true 1 v.1 (iRw v))] [] (.p (.bool b1))),((bif decide ((↑a:Int)<N) then b1 else false)=false),zE 299 [(zf60 N nb g np pl),.p (.seq true 1 v.1 (iRw v))] [] (.p (.bool b1)),((b1=true)→(NT 0 1)),(AG b1),((b1=true)→ zE 301 [(zf60 N nb g np pl),.p (.seq true 1 v.1 (iRw v))] [] (.p (.bool b2))),((bif b1 then b2 else false)=(bif b1 then b2 else false))] [0,1,2,2,3,2,4,0,5,6,7,7,8,7,9]):=by kernel_rfl
theorem tfz (g:Nat→T_Bar) (nb N:Nat) (pl:Nat→T_Place) (np:Nat) (v:T_IntS) :
    zT Tryz.f301 [rg 2,rg 1,.head] [frA g nb N pl np,inL v] [0] (TF0 g nb N pl np v 1) =
    some (zf121,[(AN v.1),(AP v.1 (iRw v)),(AN 0),((1:Int)=(↑1:Int)),((([AV.p (PV.int IntKind.i64 (↑N:Int)),brL g nb,pcL pl np].length):Nat)=3),(NL 1 1),(NL 1 1),(AI ((↑N:Int))),(AN nb),(AP nb (bRw g)),(AN np),(AP np (bRw pl))]):=by kernel_rfl
theorem tfa (g:Nat→T_Bar) (nb N:Nat) (pl:Nat→T_Place) (np:Nat) (v:T_IntS) (a:Nat) :
    zM 0 [rg 5,.dec true,rg 1,.head] zf121 (TF0 g nb N pl np v a) [0] 1 (TF1 g nb N pl np v a 1) =
    some (zf31,[(NT 0 1),((decide ((↑a:Int)<(↑N:Int)))=true),(AN v.1),(AP v.1 (iRw v)),(AN 0),(AI ((↑a:Int))),((1:Int)=(↑1:Int)),(AN 3),(NL 1 1),(NL 1 1),(AI ((↑N:Int))),(AN nb),(AP nb (bRw g)),(AN np),(AP np (bRw pl))]):=by kernel_rfl
theorem tfb (g:Nat→T_Bar) (nb N:Nat) (pl:Nat→T_Place) (np:Nat) (v:T_IntS) (a b:Nat) :
    zM 0 [rg 3,.dec true,rg 13,rg 13,rg 13,rg 13,rg 10,rg 11,rg 10,rg 11,rg 41,.dec false,rg 3,.head] zf31 (TF1 g nb N pl np v a b) [0] 1 (TF1 g nb N pl np v a (b+1)) =
    some (zf31,zD [((decide ((↑b:Int)<(↑a:Int)))=true),(NT 0 1),(IL 0 (↑a:Int)),(IT (↑a:Int) (↑np:Int)),(IL 0 0),(IT 0 (↑np:Int)),(ZLo ((pl a).1 - (pl 0).1)),(ZHi ((pl a).1 - (pl 0).1)),(ZLo ((pl a).2.1 - (pl 0).2.1)),(ZHi ((pl a).2.1 - (pl 0).2.1)),(IL 0 (↑b:Int)),(IT (↑b:Int) (↑np:Int)),(ZLo ((pl b).1 - (pl 0).1)),(ZHi ((pl b).1 - (pl 0).1)),(ZLo ((pl b).2.1 - (pl 0).2.1)),(ZHi ((pl b).2.1 - (pl 0).2.1)),(ZLo (2*(↑a:Int))),(ZHi (2*(↑a:Int))),(IL 0 (2*(↑a:Int))),(IT (2*(↑a:Int)) (↑v.1:Int)),(IT 0 (↑v.1:Int)),(ZLo (v.2 (2*a) - v.2 0)),(ZHi (v.2 (2*a) - v.2 0)),(ZLo (2*(↑a:Int)+1)),(ZHi (2*(↑a:Int)+1)),(IL 0 (2*(↑a:Int)+1)),(IT (2*(↑a:Int)+1) (↑v.1:Int)),(IL 0 1),(IT 1 (↑v.1:Int)),(ZLo (v.2 (2*a+1) - v.2 1)),(ZHi (v.2 (2*a+1) - v.2 1)),(ZLo (2*(↑b:Int))),(ZHi (2*(↑b:Int))),(IL 0 (2*(↑b:Int))),(IT (2*(↑b:Int)) (↑v.1:Int)),(ZLo (v.2 (2*b) - v.2 0)),(ZHi (v.2 (2*b) - v.2 0)),(ZLo (2*(↑b:Int)+1)),(ZHi (2*(↑b:Int)+1)),(IL 0 (2*(↑b:Int)+1)),(IT (2*(↑b:Int)+1) (↑v.1:Int)),(ZLo (v.2 (2*b+1) - v.2 1)),(ZHi (v.2 (2*b+1) - v.2 1)),(ZLo (((pl a).1 - (pl 0).1)*((pl b).2.1 - (pl 0).2.1))),(ZHi (((pl a).1 - (pl 0).1)*((pl b).2.1 - (pl 0).2.1))),(ZLo (((pl a).2.1 - (pl 0).2.1)*((pl b).1 - (pl 0).1))),(ZHi (((pl a).2.1 - (pl 0).2.1)*((pl b).1 - (pl 0).1))),(AG (((pl a).1 - (pl 0).1)*((pl b).2.1 - (pl 0).2.1)==((pl a).2.1 - (pl 0).2.1)*((pl b).1 - (pl 0).1))),(((((pl a).1 - (pl 0).1)*((pl b).2.1 - (pl 0).2.1)==((pl a).2.1 - (pl 0).2.1)*((pl b).1 - (pl 0).1))=true)→(ZLo (((pl b).1 - (pl 0).1)*(v.2 (2*a) - v.2 0)))),(((((pl a).1 - (pl 0).1)*((pl b).2.1 - (pl 0).2.1)==((pl a).2.1 - (pl 0).2.1)*((pl b).1 - (pl 0).1))=true)→(ZHi (((pl b).1 - (pl 0).1)*(v.2 (2*a) - v.2 0)))),(((((pl a).1 - (pl 0).1)*((pl b).2.1 - (pl 0).2.1)==((pl a).2.1 - (pl 0).2.1)*((pl b).1 - (pl 0).1))=true)→(ZLo (((pl b).2.1 - (pl 0).2.1)*(v.2 (2*a+1) - v.2 1)))),(((((pl a).1 - (pl 0).1)*((pl b).2.1 - (pl 0).2.1)==((pl a).2.1 - (pl 0).2.1)*((pl b).1 - (pl 0).1))=true)→(ZHi (((pl b).2.1 - (pl 0).2.1)*(v.2 (2*a+1) - v.2 1)))),(((((pl a).1 - (pl 0).1)*((pl b).2.1 - (pl 0).2.1)==((pl a).2.1 - (pl 0).2.1)*((pl b).1 - (pl 0).1))=true)→(ZLo (((pl b).1 - (pl 0).1)*(v.2 (2*a) - v.2 0)+((pl b).2.1 - (pl 0).2.1)*(v.2 (2*a+1) - v.2 1)))),(((((pl a).1 - (pl 0).1)*((pl b).2.1 - (pl 0).2.1)==((pl a).2.1 - (pl 0).2.1)*((pl b).1 - (pl 0).1))=true)→(ZHi (((pl b).1 - (pl 0).1)*(v.2 (2*a) - v.2 0)+((pl b).2.1 - (pl 0).2.1)*(v.2 (2*a+1) - v.2 1)))),(((((pl a).1 - (pl 0).1)*((pl b).2.1 - (pl 0).2.1)==((pl a).2.1 - (pl 0).2.1)*((pl b).1 - (pl 0).1))=true)→(ZLo (((pl a).1 - (pl 0).1)*(v.2 (2*b) - v.2 0)))),(((((pl a).1 - (pl 0).1)*((pl b).2.1 - (pl 0).2.1)==((pl a).2.1 - (pl 0).2.1)*((pl b).1 - (pl 0).1))=true)→(ZHi (((pl a).1 - (pl 0).1)*(v.2 (2*b) - v.2 0)))),(((((pl a).1 - (pl 0).1)*((pl b).2.1 - (pl 0).2.1)==((pl a).2.1 - (pl 0).2.1)*((pl b).1 - (pl 0).1))=true)→(ZLo (((pl a).2.1 - (pl 0).2.1)*(v.2 (2*b+1) - v.2 1)))),(((((pl a).1 - (pl 0).1)*((pl b).2.1 - (pl 0).2.1)==((pl a).2.1 - (pl 0).2.1)*((pl b).1 - (pl 0).1))=true)→(ZHi (((pl a).2.1 - (pl 0).2.1)*(v.2 (2*b+1) - v.2 1)))),(((((pl a).1 - (pl 0).1)*((pl b).2.1 - (pl 0).2.1)==((pl a).2.1 - (pl 0).2.1)*((pl b).1 - (pl 0).1))=true)→(ZLo (((pl a).1 - (pl 0).1)*(v.2 (2*b) - v.2 0)+((pl a).2.1 - (pl 0).2.1)*(v.2 (2*b+1) - v.2 1)))),(((((pl a).1 - (pl 0).1)*((pl b).2.1 - (pl 0).2.1)==((pl a).2.1 - (pl 0).2.1)*((pl b).1 - (pl 0).1))=true)→(ZHi (((pl a).1 - (pl 0).1)*(v.2 (2*b) - v.2 0)+((pl a).2.1 - (pl 0).2.1)*(v.2 (2*b+1) - v.2 1)))),(AG (((pl a).1 - (pl 0).1)*((pl b).2.1 - (pl 0).2.1)==((pl a).2.1 - (pl 0).2.1)*((pl b).1 - (pl 0).1)&&!((pl b).1 - (pl 0).1)*(v.2 (2*a) - v.2 0)+((pl b).2.1 - (pl 0).2.1)*(v.2 (2*a+1) - v.2 1) != ((pl a).1 - (pl 0).1)*(v.2 (2*b) - v.2 0)+((pl a).2.1 - (pl 0).2.1)*(v.2 (2*b+1) - v.2 1))),(((((pl a).1 - (pl 0).1)*((pl b).2.1 - (pl 0).2.1)==((pl a).2.1 - (pl 0).2.1)*((pl b).1 - (pl 0).1)&&!((pl b).1 - (pl 0).1)*(v.2 (2*a) - v.2 0)+((pl b).2.1 - (pl 0).2.1)*(v.2 (2*a+1) - v.2 1) != ((pl a).1 - (pl 0).1)*(v.2 (2*b) - v.2 0)+((pl a).2.1 - (pl 0).2.1)*(v.2 (2*b+1) - v.2 1))=true)→(ZLo (((pl b).1 - (pl 0).1)*(v.2 (2*a+1) - v.2 1)))),(((((pl a).1 - (pl 0).1)*((pl b).2.1 - (pl 0).2.1)==((pl a).2.1 - (pl 0).2.1)*((pl b).1 - (pl 0).1)&&!((pl b).1 - (pl 0).1)*(v.2 (2*a) - v.2 0)+((pl b).2.1 - (pl 0).2.1)*(v.2 (2*a+1) - v.2 1) != ((pl a).1 - (pl 0).1)*(v.2 (2*b) - v.2 0)+((pl a).2.1 - (pl 0).2.1)*(v.2 (2*b+1) - v.2 1))=true)→(ZHi (((pl b).1 - (pl 0).1)*(v.2 (2*a+1) - v.2 1)))),(((((pl a).1 - (pl 0).1)*((pl b).2.1 - (pl 0).2.1)==((pl a).2.1 - (pl 0).2.1)*((pl b).1 - (pl 0).1)&&!((pl b).1 - (pl 0).1)*(v.2 (2*a) - v.2 0)+((pl b).2.1 - (pl 0).2.1)*(v.2 (2*a+1) - v.2 1) != ((pl a).1 - (pl 0).1)*(v.2 (2*b) - v.2 0)+((pl a).2.1 - (pl 0).2.1)*(v.2 (2*b+1) - v.2 1))=true)→(ZLo (((pl b).2.1 - (pl 0).2.1)*(v.2 (2*a) - v.2 0)))),(((((pl a).1 - (pl 0).1)*((pl b).2.1 - (pl 0).2.1)==((pl a).2.1 - (pl 0).2.1)*((pl b).1 - (pl 0).1)&&!((pl b).1 - (pl 0).1)*(v.2 (2*a) - v.2 0)+((pl b).2.1 - (pl 0).2.1)*(v.2 (2*a+1) - v.2 1) != ((pl a).1 - (pl 0).1)*(v.2 (2*b) - v.2 0)+((pl a).2.1 - (pl 0).2.1)*(v.2 (2*b+1) - v.2 1))=true)→(ZHi (((pl b).2.1 - (pl 0).2.1)*(v.2 (2*a) - v.2 0)))),(((((pl a).1 - (pl 0).1)*((pl b).2.1 - (pl 0).2.1)==((pl a).2.1 - (pl 0).2.1)*((pl b).1 - (pl 0).1)&&!((pl b).1 - (pl 0).1)*(v.2 (2*a) - v.2 0)+((pl b).2.1 - (pl 0).2.1)*(v.2 (2*a+1) - v.2 1) != ((pl a).1 - (pl 0).1)*(v.2 (2*b) - v.2 0)+((pl a).2.1 - (pl 0).2.1)*(v.2 (2*b+1) - v.2 1))=true)→(ZLo (((pl b).1 - (pl 0).1)*(v.2 (2*a+1) - v.2 1) - ((pl b).2.1 - (pl 0).2.1)*(v.2 (2*a) - v.2 0)))),(((((pl a).1 - (pl 0).1)*((pl b).2.1 - (pl 0).2.1)==((pl a).2.1 - (pl 0).2.1)*((pl b).1 - (pl 0).1)&&!((pl b).1 - (pl 0).1)*(v.2 (2*a) - v.2 0)+((pl b).2.1 - (pl 0).2.1)*(v.2 (2*a+1) - v.2 1) != ((pl a).1 - (pl 0).1)*(v.2 (2*b) - v.2 0)+((pl a).2.1 - (pl 0).2.1)*(v.2 (2*b+1) - v.2 1))=true)→(ZHi (((pl b).1 - (pl 0).1)*(v.2 (2*a+1) - v.2 1) - ((pl b).2.1 - (pl 0).2.1)*(v.2 (2*a) - v.2 0)))),(((((pl a).1 - (pl 0).1)*((pl b).2.1 - (pl 0).2.1)==((pl a).2.1 - (pl 0).2.1)*((pl b).1 - (pl 0).1)&&!((pl b).1 - (pl 0).1)*(v.2 (2*a) - v.2 0)+((pl b).2.1 - (pl 0).2.1)*(v.2 (2*a+1) - v.2 1) != ((pl a).1 - (pl 0).1)*(v.2 (2*b) - v.2 0)+((pl a).2.1 - (pl 0).2.1)*(v.2 (2*b+1) - v.2 1))=true)→(ZLo (((pl a).1 - (pl 0).1)*(v.2 (2*b+1) - v.2 1)))),(((((pl a).1 - (pl 0).1)*((pl b).2.1 - (pl 0).2.1)==((pl a).2.1 - (pl 0).2.1)*((pl b).1 - (pl 0).1)&&!((pl b).1 - (pl 0).1)*(v.2 (2*a) - v.2 0)+((pl b).2.1 - (pl 0).2.1)*(v.2 (2*a+1) - v.2 1) != ((pl a).1 - (pl 0).1)*(v.2 (2*b) - v.2 0)+((pl a).2.1 - (pl 0).2.1)*(v.2 (2*b+1) - v.2 1))=true)→(ZHi (((pl a).1 - (pl 0).1)*(v.2 (2*b+1) - v.2 1)))),(((((pl a).1 - (pl 0).1)*((pl b).2.1 - (pl 0).2.1)==((pl a).2.1 - (pl 0).2.1)*((pl b).1 - (pl 0).1)&&!((pl b).1 - (pl 0).1)*(v.2 (2*a) - v.2 0)+((pl b).2.1 - (pl 0).2.1)*(v.2 (2*a+1) - v.2 1) != ((pl a).1 - (pl 0).1)*(v.2 (2*b) - v.2 0)+((pl a).2.1 - (pl 0).2.1)*(v.2 (2*b+1) - v.2 1))=true)→(ZLo (((pl a).2.1 - (pl 0).2.1)*(v.2 (2*b) - v.2 0)))),(((((pl a).1 - (pl 0).1)*((pl b).2.1 - (pl 0).2.1)==((pl a).2.1 - (pl 0).2.1)*((pl b).1 - (pl 0).1)&&!((pl b).1 - (pl 0).1)*(v.2 (2*a) - v.2 0)+((pl b).2.1 - (pl 0).2.1)*(v.2 (2*a+1) - v.2 1) != ((pl a).1 - (pl 0).1)*(v.2 (2*b) - v.2 0)+((pl a).2.1 - (pl 0).2.1)*(v.2 (2*b+1) - v.2 1))=true)→(ZHi (((pl a).2.1 - (pl 0).2.1)*(v.2 (2*b) - v.2 0)))),(((((pl a).1 - (pl 0).1)*((pl b).2.1 - (pl 0).2.1)==((pl a).2.1 - (pl 0).2.1)*((pl b).1 - (pl 0).1)&&!((pl b).1 - (pl 0).1)*(v.2 (2*a) - v.2 0)+((pl b).2.1 - (pl 0).2.1)*(v.2 (2*a+1) - v.2 1) != ((pl a).1 - (pl 0).1)*(v.2 (2*b) - v.2 0)+((pl a).2.1 - (pl 0).2.1)*(v.2 (2*b+1) - v.2 1))=true)→(ZLo (((pl a).1 - (pl 0).1)*(v.2 (2*b+1) - v.2 1) - ((pl a).2.1 - (pl 0).2.1)*(v.2 (2*b) - v.2 0)))),(((((pl a).1 - (pl 0).1)*((pl b).2.1 - (pl 0).2.1)==((pl a).2.1 - (pl 0).2.1)*((pl b).1 - (pl 0).1)&&!((pl b).1 - (pl 0).1)*(v.2 (2*a) - v.2 0)+((pl b).2.1 - (pl 0).2.1)*(v.2 (2*a+1) - v.2 1) != ((pl a).1 - (pl 0).1)*(v.2 (2*b) - v.2 0)+((pl a).2.1 - (pl 0).2.1)*(v.2 (2*b+1) - v.2 1))=true)→(ZHi (((pl a).1 - (pl 0).1)*(v.2 (2*b+1) - v.2 1) - ((pl a).2.1 - (pl 0).2.1)*(v.2 (2*b) - v.2 0)))),(((((pl a).1 - (pl 0).1)*((pl b).2.1 - (pl 0).2.1)==((pl a).2.1 - (pl 0).2.1)*((pl b).1 - (pl 0).1))=true)→(((((pl b).1 - (pl 0).1)*(v.2 (2*a) - v.2 0)+((pl b).2.1 - (pl 0).2.1)*(v.2 (2*a+1) - v.2 1) != ((pl a).1 - (pl 0).1)*(v.2 (2*b) - v.2 0)+((pl a).2.1 - (pl 0).2.1)*(v.2 (2*b+1) - v.2 1))=false)→ ((((pl a).1 - (pl 0).1)*((pl b).2.1 - (pl 0).2.1)==((pl a).2.1 - (pl 0).2.1)*((pl b).1 - (pl 0).1)&&!((pl b).1 - (pl 0).1)*(v.2 (2*a) - v.2 0)+((pl b).2.1 - (pl 0).2.1)*(v.2 (2*a+1) - v.2 1) != ((pl a).1 - (pl 0).1)*(v.2 (2*b) - v.2 0)+((pl a).2.1 - (pl 0).2.1)*(v.2 (2*b+1) - v.2 1))=true))),((bif ((pl a).1 - (pl 0).1)*((pl b).2.1 - (pl 0).2.1)==((pl a).2.1 - (pl 0).2.1)*((pl b).1 - (pl 0).1) then bif ((pl b).1 - (pl 0).1)*(v.2 (2*a) - v.2 0)+((pl b).2.1 - (pl 0).2.1)*(v.2 (2*a+1) - v.2 1) != ((pl a).1 - (pl 0).1)*(v.2 (2*b) - v.2 0)+((pl a).2.1 - (pl 0).2.1)*(v.2 (2*b+1) - v.2 1) then true else ((pl b).1 - (pl 0).1)*(v.2 (2*a+1) - v.2 1) - ((pl b).2.1 - (pl 0).2.1)*(v.2 (2*a) - v.2 0) != ((pl a).1 - (pl 0).1)*(v.2 (2*b+1) - v.2 1) - ((pl a).2.1 - (pl 0).2.1)*(v.2 (2*b) - v.2 0) else false)=false),(ZLo ((↑b:Int)+1)),(ZHi ((↑b:Int)+1)),(AN v.1),(AP v.1 (iRw v)),(AN 0),(AI ((↑a:Int))),((((↑b:Int)+1):Int)=(↑(b+1):Int)),(AN 3),(NL 1 1),(AI ((↑N:Int))),(AN nb),(AP nb (bRw g)),(AN np),(AP np (bRw pl))] [0,1,2,3,1,4,5,6,7,1,2,3,1,4,5,8,9,1,10,11,1,4,5,12,13,1,10,11,1,4,5,14,15,16,17,18,19,4,20,21,22,16,17,23,24,25,26,27,28,29,30,31,32,33,34,4,20,35,36,31,32,37,38,39,40,27,28,41,42,43,44,45,46,47,47,48,49,47,47,50,51,47,47,52,53,47,47,54,55,47,47,56,57,47,47,58,59,47,47,47,60,60,61,62,60,60,63,64,60,60,65,66,60,60,67,68,60,60,69,70,60,60,71,72,60,60,47,73,47,74,75,76,77,78,79,80,81,82,83,83,84,85,86,87,88]):=by kernel_rfl
theorem tfc (g:Nat→T_Bar) (nb N:Nat) (pl:Nat→T_Place) (np:Nat) (v:T_IntS) (a b:Nat) :
    zP Tryz.f301 0 [rg 3,.dec true,rg 13,rg 13,rg 13,rg 13,rg 10,rg 11,rg 10,rg 11,rg 41,.dec true,rg 1] zf31 (TF1 g nb N pl np v a b) [] 1 [] (.p (.bool false)) =
    some (zD [((decide ((↑b:Int)<(↑a:Int)))=true),(NT 0 1),(IL 0 (↑a:Int)),(IT (↑a:Int) (↑np:Int)),(IL 0 0),(IT 0 (↑np:Int)),(ZLo ((pl a).1 - (pl 0).1)),(ZHi ((pl a).1 - (pl 0).1)),(ZLo ((pl a).2.1 - (pl 0).2.1)),(ZHi ((pl a).2.1 - (pl 0).2.1)),(IL 0 (↑b:Int)),(IT (↑b:Int) (↑np:Int)),(ZLo ((pl b).1 - (pl 0).1)),(ZHi ((pl b).1 - (pl 0).1)),(ZLo ((pl b).2.1 - (pl 0).2.1)),(ZHi ((pl b).2.1 - (pl 0).2.1)),(ZLo (2*(↑a:Int))),(ZHi (2*(↑a:Int))),(IL 0 (2*(↑a:Int))),(IT (2*(↑a:Int)) (↑v.1:Int)),(IT 0 (↑v.1:Int)),(ZLo (v.2 (2*a) - v.2 0)),(ZHi (v.2 (2*a) - v.2 0)),(ZLo (2*(↑a:Int)+1)),(ZHi (2*(↑a:Int)+1)),(IL 0 (2*(↑a:Int)+1)),(IT (2*(↑a:Int)+1) (↑v.1:Int)),(IL 0 1),(IT 1 (↑v.1:Int)),(ZLo (v.2 (2*a+1) - v.2 1)),(ZHi (v.2 (2*a+1) - v.2 1)),(ZLo (2*(↑b:Int))),(ZHi (2*(↑b:Int))),(IL 0 (2*(↑b:Int))),(IT (2*(↑b:Int)) (↑v.1:Int)),(ZLo (v.2 (2*b) - v.2 0)),(ZHi (v.2 (2*b) - v.2 0)),(ZLo (2*(↑b:Int)+1)),(ZHi (2*(↑b:Int)+1)),(IL 0 (2*(↑b:Int)+1)),(IT (2*(↑b:Int)+1) (↑v.1:Int)),(ZLo (v.2 (2*b+1) - v.2 1)),(ZHi (v.2 (2*b+1) - v.2 1)),(ZLo (((pl a).1 - (pl 0).1)*((pl b).2.1 - (pl 0).2.1))),(ZHi (((pl a).1 - (pl 0).1)*((pl b).2.1 - (pl 0).2.1))),(ZLo (((pl a).2.1 - (pl 0).2.1)*((pl b).1 - (pl 0).1))),(ZHi (((pl a).2.1 - (pl 0).2.1)*((pl b).1 - (pl 0).1))),(AG (((pl a).1 - (pl 0).1)*((pl b).2.1 - (pl 0).2.1)==((pl a).2.1 - (pl 0).2.1)*((pl b).1 - (pl 0).1))),(((((pl a).1 - (pl 0).1)*((pl b).2.1 - (pl 0).2.1)==((pl a).2.1 - (pl 0).2.1)*((pl b).1 - (pl 0).1))=true)→(ZLo (((pl b).1 - (pl 0).1)*(v.2 (2*a) - v.2 0)))),(((((pl a).1 - (pl 0).1)*((pl b).2.1 - (pl 0).2.1)==((pl a).2.1 - (pl 0).2.1)*((pl b).1 - (pl 0).1))=true)→(ZHi (((pl b).1 - (pl 0).1)*(v.2 (2*a) - v.2 0)))),(((((pl a).1 - (pl 0).1)*((pl b).2.1 - (pl 0).2.1)==((pl a).2.1 - (pl 0).2.1)*((pl b).1 - (pl 0).1))=true)→(ZLo (((pl b).2.1 - (pl 0).2.1)*(v.2 (2*a+1) - v.2 1)))),(((((pl a).1 - (pl 0).1)*((pl b).2.1 - (pl 0).2.1)==((pl a).2.1 - (pl 0).2.1)*((pl b).1 - (pl 0).1))=true)→(ZHi (((pl b).2.1 - (pl 0).2.1)*(v.2 (2*a+1) - v.2 1)))),(((((pl a).1 - (pl 0).1)*((pl b).2.1 - (pl 0).2.1)==((pl a).2.1 - (pl 0).2.1)*((pl b).1 - (pl 0).1))=true)→(ZLo (((pl b).1 - (pl 0).1)*(v.2 (2*a) - v.2 0)+((pl b).2.1 - (pl 0).2.1)*(v.2 (2*a+1) - v.2 1)))),(((((pl a).1 - (pl 0).1)*((pl b).2.1 - (pl 0).2.1)==((pl a).2.1 - (pl 0).2.1)*((pl b).1 - (pl 0).1))=true)→(ZHi (((pl b).1 - (pl 0).1)*(v.2 (2*a) - v.2 0)+((pl b).2.1 - (pl 0).2.1)*(v.2 (2*a+1) - v.2 1)))),(((((pl a).1 - (pl 0).1)*((pl b).2.1 - (pl 0).2.1)==((pl a).2.1 - (pl 0).2.1)*((pl b).1 - (pl 0).1))=true)→(ZLo (((pl a).1 - (pl 0).1)*(v.2 (2*b) - v.2 0)))),(((((pl a).1 - (pl 0).1)*((pl b).2.1 - (pl 0).2.1)==((pl a).2.1 - (pl 0).2.1)*((pl b).1 - (pl 0).1))=true)→(ZHi (((pl a).1 - (pl 0).1)*(v.2 (2*b) - v.2 0)))),(((((pl a).1 - (pl 0).1)*((pl b).2.1 - (pl 0).2.1)==((pl a).2.1 - (pl 0).2.1)*((pl b).1 - (pl 0).1))=true)→(ZLo (((pl a).2.1 - (pl 0).2.1)*(v.2 (2*b+1) - v.2 1)))),(((((pl a).1 - (pl 0).1)*((pl b).2.1 - (pl 0).2.1)==((pl a).2.1 - (pl 0).2.1)*((pl b).1 - (pl 0).1))=true)→(ZHi (((pl a).2.1 - (pl 0).2.1)*(v.2 (2*b+1) - v.2 1)))),(((((pl a).1 - (pl 0).1)*((pl b).2.1 - (pl 0).2.1)==((pl a).2.1 - (pl 0).2.1)*((pl b).1 - (pl 0).1))=true)→(ZLo (((pl a).1 - (pl 0).1)*(v.2 (2*b) - v.2 0)+((pl a).2.1 - (pl 0).2.1)*(v.2 (2*b+1) - v.2 1)))),(((((pl a).1 - (pl 0).1)*((pl b).2.1 - (pl 0).2.1)==((pl a).2.1 - (pl 0).2.1)*((pl b).1 - (pl 0).1))=true)→(ZHi (((pl a).1 - (pl 0).1)*(v.2 (2*b) - v.2 0)+((pl a).2.1 - (pl 0).2.1)*(v.2 (2*b+1) - v.2 1)))),(AG (((pl a).1 - (pl 0).1)*((pl b).2.1 - (pl 0).2.1)==((pl a).2.1 - (pl 0).2.1)*((pl b).1 - (pl 0).1)&&!((pl b).1 - (pl 0).1)*(v.2 (2*a) - v.2 0)+((pl b).2.1 - (pl 0).2.1)*(v.2 (2*a+1) - v.2 1) != ((pl a).1 - (pl 0).1)*(v.2 (2*b) - v.2 0)+((pl a).2.1 - (pl 0).2.1)*(v.2 (2*b+1) - v.2 1))),(((((pl a).1 - (pl 0).1)*((pl b).2.1 - (pl 0).2.1)==((pl a).2.1 - (pl 0).2.1)*((pl b).1 - (pl 0).1)&&!((pl b).1 - (pl 0).1)*(v.2 (2*a) - v.2 0)+((pl b).2.1 - (pl 0).2.1)*(v.2 (2*a+1) - v.2 1) != ((pl a).1 - (pl 0).1)*(v.2 (2*b) - v.2 0)+((pl a).2.1 - (pl 0).2.1)*(v.2 (2*b+1) - v.2 1))=true)→(ZLo (((pl b).1 - (pl 0).1)*(v.2 (2*a+1) - v.2 1)))),(((((pl a).1 - (pl 0).1)*((pl b).2.1 - (pl 0).2.1)==((pl a).2.1 - (pl 0).2.1)*((pl b).1 - (pl 0).1)&&!((pl b).1 - (pl 0).1)*(v.2 (2*a) - v.2 0)+((pl b).2.1 - (pl 0).2.1)*(v.2 (2*a+1) - v.2 1) != ((pl a).1 - (pl 0).1)*(v.2 (2*b) - v.2 0)+((pl a).2.1 - (pl 0).2.1)*(v.2 (2*b+1) - v.2 1))=true)→(ZHi (((pl b).1 - (pl 0).1)*(v.2 (2*a+1) - v.2 1)))),(((((pl a).1 - (pl 0).1)*((pl b).2.1 - (pl 0).2.1)==((pl a).2.1 - (pl 0).2.1)*((pl b).1 - (pl 0).1)&&!((pl b).1 - (pl 0).1)*(v.2 (2*a) - v.2 0)+((pl b).2.1 - (pl 0).2.1)*(v.2 (2*a+1) - v.2 1) != ((pl a).1 - (pl 0).1)*(v.2 (2*b) - v.2 0)+((pl a).2.1 - (pl 0).2.1)*(v.2 (2*b+1) - v.2 1))=true)→(ZLo (((pl b).2.1 - (pl 0).2.1)*(v.2 (2*a) - v.2 0)))),(((((pl a).1 - (pl 0).1)*((pl b).2.1 - (pl 0).2.1)==((pl a).2.1 - (pl 0).2.1)*((pl b).1 - (pl 0).1)&&!((pl b).1 - (pl 0).1)*(v.2 (2*a) - v.2 0)+((pl b).2.1 - (pl 0).2.1)*(v.2 (2*a+1) - v.2 1) != ((pl a).1 - (pl 0).1)*(v.2 (2*b) - v.2 0)+((pl a).2.1 - (pl 0).2.1)*(v.2 (2*b+1) - v.2 1))=true)→(ZHi (((pl b).2.1 - (pl 0).2.1)*(v.2 (2*a) - v.2 0)))),(((((pl a).1 - (pl 0).1)*((pl b).2.1 - (pl 0).2.1)==((pl a).2.1 - (pl 0).2.1)*((pl b).1 - (pl 0).1)&&!((pl b).1 - (pl 0).1)*(v.2 (2*a) - v.2 0)+((pl b).2.1 - (pl 0).2.1)*(v.2 (2*a+1) - v.2 1) != ((pl a).1 - (pl 0).1)*(v.2 (2*b) - v.2 0)+((pl a).2.1 - (pl 0).2.1)*(v.2 (2*b+1) - v.2 1))=true)→(ZLo (((pl b).1 - (pl 0).1)*(v.2 (2*a+1) - v.2 1) - ((pl b).2.1 - (pl 0).2.1)*(v.2 (2*a) - v.2 0)))),(((((pl a).1 - (pl 0).1)*((pl b).2.1 - (pl 0).2.1)==((pl a).2.1 - (pl 0).2.1)*((pl b).1 - (pl 0).1)&&!((pl b).1 - (pl 0).1)*(v.2 (2*a) - v.2 0)+((pl b).2.1 - (pl 0).2.1)*(v.2 (2*a+1) - v.2 1) != ((pl a).1 - (pl 0).1)*(v.2 (2*b) - v.2 0)+((pl a).2.1 - (pl 0).2.1)*(v.2 (2*b+1) - v.2 1))=true)→(ZHi (((pl b).1 - (pl 0).1)*(v.2 (2*a+1) - v.2 1) - ((pl b).2.1 - (pl 0).2.1)*(v.2 (2*a) - v.2 0)))),(((((pl a).1 - (pl 0).1)*((pl b).2.1 - (pl 0).2.1)==((pl a).2.1 - (pl 0).2.1)*((pl b).1 - (pl 0).1)&&!((pl b).1 - (pl 0).1)*(v.2 (2*a) - v.2 0)+((pl b).2.1 - (pl 0).2.1)*(v.2 (2*a+1) - v.2 1) != ((pl a).1 - (pl 0).1)*(v.2 (2*b) - v.2 0)+((pl a).2.1 - (pl 0).2.1)*(v.2 (2*b+1) - v.2 1))=true)→(ZLo (((pl a).1 - (pl 0).1)*(v.2 (2*b+1) - v.2 1)))),(((((pl a).1 - (pl 0).1)*((pl b).2.1 - (pl 0).2.1)==((pl a).2.1 - (pl 0).2.1)*((pl b).1 - (pl 0).1)&&!((pl b).1 - (pl 0).1)*(v.2 (2*a) - v.2 0)+((pl b).2.1 - (pl 0).2.1)*(v.2 (2*a+1) - v.2 1) != ((pl a).1 - (pl 0).1)*(v.2 (2*b) - v.2 0)+((pl a).2.1 - (pl 0).2.1)*(v.2 (2*b+1) - v.2 1))=true)→(ZHi (((pl a).1 - (pl 0).1)*(v.2 (2*b+1) - v.2 1)))),(((((pl a).1 - (pl 0).1)*((pl b).2.1 - (pl 0).2.1)==((pl a).2.1 - (pl 0).2.1)*((pl b).1 - (pl 0).1)&&!((pl b).1 - (pl 0).1)*(v.2 (2*a) - v.2 0)+((pl b).2.1 - (pl 0).2.1)*(v.2 (2*a+1) - v.2 1) != ((pl a).1 - (pl 0).1)*(v.2 (2*b) - v.2 0)+((pl a).2.1 - (pl 0).2.1)*(v.2 (2*b+1) - v.2 1))=true)→(ZLo (((pl a).2.1 - (pl 0).2.1)*(v.2 (2*b) - v.2 0)))),(((((pl a).1 - (pl 0).1)*((pl b).2.1 - (pl 0).2.1)==((pl a).2.1 - (pl 0).2.1)*((pl b).1 - (pl 0).1)&&!((pl b).1 - (pl 0).1)*(v.2 (2*a) - v.2 0)+((pl b).2.1 - (pl 0).2.1)*(v.2 (2*a+1) - v.2 1) != ((pl a).1 - (pl 0).1)*(v.2 (2*b) - v.2 0)+((pl a).2.1 - (pl 0).2.1)*(v.2 (2*b+1) - v.2 1))=true)→(ZHi (((pl a).2.1 - (pl 0).2.1)*(v.2 (2*b) - v.2 0)))),(((((pl a).1 - (pl 0).1)*((pl b).2.1 - (pl 0).2.1)==((pl a).2.1 - (pl 0).2.1)*((pl b).1 - (pl 0).1)&&!((pl b).1 - (pl 0).1)*(v.2 (2*a) - v.2 0)+((pl b).2.1 - (pl 0).2.1)*(v.2 (2*a+1) - v.2 1) != ((pl a).1 - (pl 0).1)*(v.2 (2*b) - v.2 0)+((pl a).2.1 - (pl 0).2.1)*(v.2 (2*b+1) - v.2 1))=true)→(ZLo (((pl a).1 - (pl 0).1)*(v.2 (2*b+1) - v.2 1) - ((pl a).2.1 - (pl 0).2.1)*(v.2 (2*b) - v.2 0)))),(((((pl a).1 - (pl 0).1)*((pl b).2.1 - (pl 0).2.1)==((pl a).2.1 - (pl 0).2.1)*((pl b).1 - (pl 0).1)&&!((pl b).1 - (pl 0).1)*(v.2 (2*a) - v.2 0)+((pl b).2.1 - (pl 0).2.1)*(v.2 (2*a+1) - v.2 1) != ((pl a).1 - (pl 0).1)*(v.2 (2*b) - v.2 0)+((pl a).2.1 - (pl 0).2.1)*(v.2 (2*b+1) - v.2 1))=true)→(ZHi (((pl a).1 - (pl 0).1)*(v.2 (2*b+1) - v.2 1) - ((pl a).2.1 - (pl 0).2.1)*(v.2 (2*b) - v.2 0)))),(((((pl a).1 - (pl 0).1)*((pl b).2.1 - (pl 0).2.1)==((pl a).2.1 - (pl 0).2.1)*((pl b).1 - (pl 0).1))=true)→(((((pl b).1 - (pl 0).1)*(v.2 (2*a) - v.2 0)+((pl b).2.1 - (pl 0).2.1)*(v.2 (2*a+1) - v.2 1) != ((pl a).1 - (pl 0).1)*(v.2 (2*b) - v.2 0)+((pl a).2.1 - (pl 0).2.1)*(v.2 (2*b+1) - v.2 1))=false)→ ((((pl a).1 - (pl 0).1)*((pl b).2.1 - (pl 0).2.1)==((pl a).2.1 - (pl 0).2.1)*((pl b).1 - (pl 0).1)&&!((pl b).1 - (pl 0).1)*(v.2 (2*a) - v.2 0)+((pl b).2.1 - (pl 0).2.1)*(v.2 (2*a+1) - v.2 1) != ((pl a).1 - (pl 0).1)*(v.2 (2*b) - v.2 0)+((pl a).2.1 - (pl 0).2.1)*(v.2 (2*b+1) - v.2 1))=true))),((bif ((pl a).1 - (pl 0).1)*((pl b).2.1 - (pl 0).2.1)==((pl a).2.1 - (pl 0).2.1)*((pl b).1 - (pl 0).1) then bif ((pl b).1 - (pl 0).1)*(v.2 (2*a) - v.2 0)+((pl b).2.1 - (pl 0).2.1)*(v.2 (2*a+1) - v.2 1) != ((pl a).1 - (pl 0).1)*(v.2 (2*b) - v.2 0)+((pl a).2.1 - (pl 0).2.1)*(v.2 (2*b+1) - v.2 1) then true else ((pl b).1 - (pl 0).1)*(v.2 (2*a+1) - v.2 1) - ((pl b).2.1 - (pl 0).2.1)*(v.2 (2*a) - v.2 0) != ((pl a).1 - (pl 0).1)*(v.2 (2*b+1) - v.2 1) - ((pl a).2.1 - (pl 0).2.1)*(v.2 (2*b) - v.2 0) else false)=true),(false=false)] [0,1,2,3,1,4,5,6,7,1,2,3,1,4,5,8,9,1,10,11,1,4,5,12,13,1,10,11,1,4,5,14,15,16,17,18,19,4,20,21,22,16,17,23,24,25,26,27,28,29,30,31,32,33,34,4,20,35,36,31,32,37,38,39,40,27,28,41,42,43,44,45,46,47,47,48,49,47,47,50,51,47,47,52,53,47,47,54,55,47,47,56,57,47,47,58,59,47,47,47,60,60,61,62,60,60,63,64,60,60,65,66,60,60,67,68,60,60,69,70,60,60,71,72,60,60,47,73,47,74,75]):=by kernel_rfl
theorem tfd (g:Nat→T_Bar) (nb N:Nat) (pl:Nat→T_Place) (np:Nat) (v:T_IntS) (a b:Nat) :
    zM 0 [rg 3,.dec false,rg 3,.head] zf31 (TF1 g nb N pl np v a b) [0] 1 (TF0 g nb N pl np v (a+1)) =
    some (zf121,[((decide ((↑b:Int)<(↑a:Int)))=false),(ZLo ((↑a:Int)+1)),(ZHi ((↑a:Int)+1)),(AN v.1),(AP v.1 (iRw v)),(AN 0),((((↑a:Int)+1):Int)=(↑(a+1):Int)),(AN 3),(NL 1 1),(NL 1 1),(AI ((↑N:Int))),(AN nb),(AP nb (bRw g)),(AN np),(AP np (bRw pl))]):=by kernel_rfl
theorem tfe (g:Nat→T_Bar) (nb N:Nat) (pl:Nat→T_Place) (np:Nat) (v:T_IntS) (a:Nat) :
    zP Tryz.f301 0 [rg 5,.dec false,rg 1] zf121 (TF0 g nb N pl np v a) [] 1 [] (.p (.bool true)) =
    some [(NT 0 1),((decide ((↑a:Int)<(↑N:Int)))=false),(true=true)]:=by kernel_rfl
def smq (v:T_IntS) (i:Nat):Bool:=inB (v.2 i) (-10000000000) 10000000000
def smB (v:T_IntS) (n:Int):Bool:=bif allB (smq v) v.1 then (v.1:Int)==n else false
def velB (g:Nat→T_Bar) (nb:Nat) (N:Int) (pl:Nat→T_Place) (np:Nat) (v:T_IntS):Bool:=bif fwB g nb N pl np then smB v (2*N) else false
theorem con_areSmall (v:T_IntS) (n:Int) (hv:v.1≤1048576):zE 348 [inL v,.p (.int .i64 n)] [] (.p (.bool (smB v n))):=by
  refine csZ Tryz.func348 (fun c hc=>?_)
  have lo:∀ d i,i+d=v.1→allB (smq v) i=true→zR c 348 zf118 (ArI v n i) (Post c [] (.p (.bool (smB v n)))):=by
    intro d
    induction d with
    | zero =>
      intro i hi ha
      obtain rfl:i=v.1:=by omega
      have hd:decide ((v.1:Int)<(v.1:Int))=false:=decide_eq_false (by omega)
      unfold smB
      rw [ha]
      refine pkZ Tryz.func348 hc (are v n v.1) ?_
      and_intros
      all_goals (first | exact zN | (exact hd))
    | succ d ih =>
      intro i hi ha
      have hd:decide ((i:Int)<(v.1:Int))=true:=decide_eq_true (by omega)
      have cw:=con_within (v.2 i) (-10000000000) 10000000000
      change zE 179 _ [] (.p (.bool (smq v i))) at cw
      cases hs:smq v i with
      | true =>
        rw [hs] at cw
        refine pcZ hc (art v n i) ?_ (ih (i+1) (by omega) (by rw [allB,ha,hs];rfl))
        and_intros
        all_goals (first | exact zN | (exact hd) | (exact cw) | (intro t ht;simp [All];done))
      | false =>
        rw [hs] at cw
        unfold smB
        rw [all_no (i:=i) (by omega) hs]
        refine pkZ Tryz.func348 hc (arf v n i) ?_
        and_intros
        all_goals (first | exact zN | (exact hd) | (exact cw))
  refine pcD hc (arz v n) ?_ (lo v.1 0 (by omega) rfl)
  and_intros
  all_goals (first | exact zN | (intro t ht;simp [All];done))
theorem con_isVelocity (g:Nat→T_Bar) (nb:Nat) (N:Int) (pl:Nat→T_Place) (np:Nat) (v:T_IntS) (hn:nb≤1048576∧np≤1048576) (hv:v.1≤1048576) :
    zE 305 [frA g nb N pl np,inL v] [] (.p (.bool (velB g nb N pl np v))):=by
  have cf:=con_IsFramework_i g nb N pl np hn
  have cs:=con_areSmall v (2*N) hv
  have hN:fwB g nb N pl np=true→-9223372036854775808≤2*N∧2*N≤9223372036854775807:=fun h=>by
    obtain ⟨n,rfl⟩:=fw_N h
    have:=(fw_ok h).2.1
    omega
  refine csZ Tryz.func305 (fun c hc=>?_)
  refine pkD Tryz.func305 hc (ivR g nb N pl np v (fwB g nb N pl np) (smB v (2*N))) ?_
  and_intros
  all_goals (first | exact zI | (exact cf) | (intro _;exact cs) | (intro h;exact h) | (intro h;exact (hN h).1) | (intro h;exact (hN h).2) | rfl)
theorem con_Vector (g:Nat→T_Bar) (nb:Nat) (N:Int) (pl:Nat→T_Place) (np:Nat) (v:T_IntS) (hn:nb≤1048576∧np≤1048576) (hv:v.1≤1048576) :
    zE 299 [frA g nb N pl np,inL v] [] (.p (.bool (velB g nb N pl np v))):=by
  have cf:=con_IsFramework_s g nb N pl np hn
  have hN:fwB g nb N pl np=true→-9223372036854775808≤2*N∧2*N≤9223372036854775807:=fun h=>by
    obtain ⟨n,rfl⟩:=fw_N h
    have:=(fw_ok h).2.1
    omega
  refine csZ Tryz.func299 (fun c hc=>?_)
  have lo:∀ d i,i+d=v.1→allB (smq v) i=true→zR c 299 zf119 (VcS g nb N pl np v i) (Post c [] (.p (.bool (velB g nb N pl np v)))):=by
    intro d
    induction d with
    | zero =>
      intro i hi ha
      obtain rfl:i=v.1:=by omega
      have hd:decide ((v.1:Int)<(v.1:Int))=false:=decide_eq_false (by omega)
      unfold velB smB
      rw [ha]
      refine pkD Tryz.func299 hc (vce g nb N pl np v v.1 (fwB g nb N pl np)) ?_
      and_intros
      all_goals (first | exact zI | (exact hd) | (exact cf) | (intro h;exact h) | (intro h;exact (hN h).1) | (intro h;exact (hN h).2) | rfl)
    | succ d ih =>
      intro i hi ha
      have hd:decide ((i:Int)<(v.1:Int))=true:=decide_eq_true (by omega)
      have cw:=con_l1In (v.2 i) (-10000000000) 10000000000
      change zE 167 _ [] (.p (.bool (smq v i))) at cw
      cases hs:smq v i with
      | true =>
        rw [hs] at cw
        refine pcZ hc (vct g nb N pl np v i) ?_ (ih (i+1) (by omega) (by rw [allB,ha,hs];rfl))
        and_intros
        all_goals (first | exact zN | (exact hd) | (exact cw) | (intro t ht;simp [All];done))
      | false =>
        rw [hs] at cw
        rw [show velB g nb N pl np v=false by
          unfold velB smB
          rw [all_no (i:=i) (by omega) hs]
          cases fwB g nb N pl np<;>rfl]
        refine pkZ Tryz.func299 hc (vcf g nb N pl np v i) ?_
        and_intros
        all_goals (first | exact zN | (exact hd) | (exact cw))
  refine pcZ hc (vcz g nb N pl np v) ?_ (lo v.1 0 (by omega) rfl)
  and_intros
  all_goals (first | exact zN | (intro t ht;simp [All];done))
structure VOk (g:Nat→T_Bar) (nb N:Nat) (pl:Nat→T_Place) (np:Nat) (v:T_IntS):Prop where
  hf:fwB g nb N pl np=true
  hl:v.1=2*N
  hN:1≤N∧N≤6
  hnp:np=N
  hnb:nb≤15
  sm:∀ j,j<2*N→-10000000000≤v.2 j∧v.2 j≤10000000000
  px:∀ i,i<N→(0≤(pl i).1∧(pl i).1≤4)∧(0≤(pl i).2.1∧(pl i).2.1≤4)
  vel:velB g nb N pl np v=true
  gr:isGraphF ((N:Int),(nb,g),())=true
theorem vOk {g:Nat→T_Bar} {nb N:Nat} {pl:Nat→T_Place} {np:Nat} {v:T_IntS} (h:velB g nb N pl np v=true):VOk g nb N pl np v:=by
  have hv:=h
  unfold velB at h
  cases hf:fwB g nb N pl np with
  | false=>rw [hf] at h;cases h
  | true =>
    rw [hf] at h
    obtain ⟨h1,h2,h3,h4,h5,_⟩:=fw_parts hf
    obtain ⟨hN,_,_⟩:=graph_in h1
    have h:smB v (2*(N:Int))=true:=h
    unfold smB at h
    cases ha:allB (smq v) v.1 with
    | false=>rw [ha] at h;cases h
    | true =>
      rw [ha] at h
      have hl:v.1=2*N:=by simp at h;omega
      exact ⟨hf,hl,by omega,by omega,h3,fun j hj=>inB_iff.1 ((all_iff _ _).1 ha j (by omega)),fun i hi=>h5 i (by omega),hv,h1⟩
def chV (pl:Nat→T_Place) (v:T_IntS) (a b:Nat):Int:=((pl a).1 - (pl b).1)*(v.2 (2*a) - v.2 (2*b))+((pl a).2.1 - (pl b).2.1)*(v.2 (2*a+1) - v.2 (2*b+1))
theorem con_Change {g:Nat→T_Bar} {nb N:Nat} {pl:Nat→T_Place} {np:Nat} {v:T_IntS} (ok:VOk g nb N pl np v) {a b:Nat} (ha:a<N) (hb:b<N) :
    zE 306 [frA g nb N pl np,inL v,.p (.int .i64 a),.p (.int .i64 b)] [] (.p (.int .i64 (chV pl v a b))) ∧
    zE 300 [frA g nb N pl np,inL v,.p (.int .i64 a),.p (.int .i64 b)] [] (.p (.int .i64 (chV pl v a b))):=by
  obtain ⟨hf,hl,hN,hnp,hnb,sm,px,hv,hg⟩:=ok
  have c1:=con_isVelocity g nb N pl np v (by omega) (by omega)
  have c2:=con_Vector g nb N pl np v (by omega) (by omega)
  rw [hv] at c1 c2
  have h1:=con_has (nb:=nb) (g:=g) (N:=N) (by omega) (p:=(a:Int)) (by omega)
  have h2:=con_has (nb:=nb) (g:=g) (N:=N) (by omega) (p:=(b:Int)) (by omega)
  have p1:=px a ha
  have p2:=px b hb
  have s1:=sm (2*a) (by omega)
  have s2:=sm (2*a+1) (by omega)
  have s3:=sm (2*b) (by omega)
  have s4:=sm (2*b+1) (by omega)
  have m1:=Trv.bdm (a:=(pl a).1 - (pl b).1) (b:=v.2 (2*a) - v.2 (2*b)) (A:=4) (B:=20000000000) (by omega) (by omega)
  have m2:=Trv.bdm (a:=(pl a).2.1 - (pl b).2.1) (b:=v.2 (2*a+1) - v.2 (2*b+1)) (A:=4) (B:=20000000000) (by omega) (by omega)
  have d1:decide ((a:Int)<0)=false:=decide_eq_false (by omega)
  have d2:decide ((b:Int)<0)=false:=decide_eq_false (by omega)
  have d3:decide ((a:Int)≥(N:Int))=false:=decide_eq_false (by omega)
  have d4:decide ((b:Int)≥(N:Int))=false:=decide_eq_false (by omega)
  constructor
  · refine csZ Tryz.func306 (fun c hc=>?_)
    refine pkD Tryz.func306 hc (chI g nb N pl np v a b) ?_
    and_intros
    all_goals (first | exact zH | (exact c1) | (intro _;exact h1) | (intro _;exact h2) | (intro h;exact h) | (intros;rfl))
  · refine csZ Tryz.func300 (fun c hc=>?_)
    refine pkD Tryz.func300 hc (chS g nb N pl np v a b) ?_
    and_intros
    all_goals (first | exact zH | (exact c2) | (intro h;exact h) | (rw [d1,d2,d3,d4];rfl) | (intro _;rw [d1,d2,d3];rfl) | (intro _;rw [d1,d2];rfl) | (intro _;rw [d1];rfl) | (intros;rfl))
def xP (pl:Nat→T_Place) (i:Nat):Int:=(pl i).1 - (pl 0).1
def yP (pl:Nat→T_Place) (i:Nat):Int:=(pl i).2.1 - (pl 0).2.1
def uPm (v:T_IntS) (i:Nat):Int:=v.2 (2*i) - v.2 0
def wP (v:T_IntS) (i:Nat):Int:=v.2 (2*i+1) - v.2 1
def tmP (N:Nat) (pl:Nat→T_Place) (v:T_IntS):Prop:=Trv.All2 N (xP pl) (yP pl) (uPm v) (wP v)
open Classical in
noncomputable def tmB (g:Nat→T_Bar) (nb:Nat) (N:Int) (pl:Nat→T_Place) (np:Nat) (v:T_IntS):Bool:=velB g nb N pl np v&&decide (tmP N.toNat pl v)
theorem tmB_t {g:Nat→T_Bar} {nb N:Nat} {pl:Nat→T_Place} {np:Nat} {v:T_IntS} (h1:velB g nb N pl np v=true) (h2:tmP N pl v):tmB g nb N pl np v=true:=by
  unfold tmB;rw [h1];simp;exact h2
theorem tmB_f {g:Nat→T_Bar} {nb N:Nat} {pl:Nat→T_Place} {np:Nat} {v:T_IntS} (h2:¬ tmP N pl v):tmB g nb N pl np v=false:=by
  unfold tmB;simp;intro _;exact h2
theorem tmB_n {g:Nat→T_Bar} {nb:Nat} {N:Int} {pl:Nat→T_Place} {np:Nat} {v:T_IntS} (h1:velB g nb N pl np v=false):tmB g nb N pl np v=false:=by
  unfold tmB;rw [h1];rfl
theorem con_Trivial_i (g:Nat→T_Bar) (nb:Nat) (N:Int) (pl:Nat→T_Place) (np:Nat) (v:T_IntS) (hn:nb≤1048576∧np≤1048576) (hv:v.1≤1048576) :
    zE 208 [frA g nb N pl np,inL v] [] (.p (.bool (tmB g nb N pl np v))):=by
  have cv:=con_isVelocity g nb N pl np v hn hv
  cases hb:velB g nb N pl np v with
  | false =>
    rw [hb] at cv
    rw [tmB_n hb]
    refine csZ Tryz.func208 (fun c hc=>?_)
    refine pkZ Tryz.func208 hc (tiN g nb N pl np v) ?_
    and_intros
    all_goals (first | exact zN | (exact cv) | rfl)
  | true =>
    rw [hb] at cv
    obtain ⟨n,rfl⟩:∃ n:Nat,N=n:=by
      unfold velB at hb
      cases hf:fwB g nb N pl np with
      | false=>rw [hf] at hb;cases hb
      | true=>exact fw_N hf
    have ok:=vOk hb
    obtain ⟨hf,hl,hN,hnp,hnb,sm,px,hv',hg⟩:=ok
    have p0:=px 0 (by omega)
    have s0:=sm 0 (by omega)
    have s1:=sm 1 (by omega)
    refine csZ Tryz.func208 (fun c hc=>?_)
    have l1:∀ (num den:Int),-200000000000≤num→num≤200000000000→1≤den→den≤32→(Trv.One n (xP pl) (yP pl) (uPm v) (wP v) num den↔tmP n pl v) →
        ∀ d i,i+d=np→(∀ j,j<i→uPm v j*den = -num*yP pl j∧wP v j*den=num*xP pl j) →
        zR c 208 zf67 (TI1 g nb n pl np v num den i) (Post c [] (.p (.bool (tmB g nb n pl np v)))):=by
      intro num den hn1 hn2 hd1 hd2 hiff d
      induction d with
      | zero =>
        intro i hi hall
        obtain rfl:i=np:=by omega
        have hd:decide ((i:Int)<(i:Int))=false:=decide_eq_false (by omega)
        rw [tmB_t hb (hiff.1 (fun j hj=>hall j (by omega)))]
        refine pkZ Tryz.func208 hc (tif g nb n pl i v num den i) ?_
        and_intros
        all_goals (first | exact zN | (exact hd))
      | succ d ih =>
        intro i hi hall
        have hd:decide ((i:Int)<(np:Int))=true:=decide_eq_true (by omega)
        have pi:=px i (by omega)
        have si:=sm (2*i) (by omega)
        have ti:=sm (2*i+1) (by omega)
        have m1:=Trv.bdm (a:=v.2 (2*i) - v.2 0) (b:=den) (A:=20000000000) (B:=32) (by omega) (by omega)
        have m2:=Trv.bdm (a:=0 - num) (b:=(pl i).2.1 - (pl 0).2.1) (A:=200000000000) (B:=4) (by omega) (by omega)
        have m3:=Trv.bdm (a:=v.2 (2*i+1) - v.2 1) (b:=den) (A:=20000000000) (B:=32) (by omega) (by omega)
        have m4:=Trv.bdm (a:=num) (b:=(pl i).1 - (pl 0).1) (A:=200000000000) (B:=4) (by omega) (by omega)
        have e0:(0 - num)*((pl i).2.1 - (pl 0).2.1) = -num*((pl i).2.1 - (pl 0).2.1):=by rw [Int.zero_sub]
        by_cases hq:(v.2 (2*i) - v.2 0)*den=(0 - num)*((pl i).2.1 - (pl 0).2.1)∧(v.2 (2*i+1) - v.2 1)*den=num*((pl i).1 - (pl 0).1)
        · have b1:((v.2 (2*i) - v.2 0)*den != (0 - num)*((pl i).2.1 - (pl 0).2.1))=false:=by rw [hq.1];simp
          have b2:((v.2 (2*i+1) - v.2 1)*den != num*((pl i).1 - (pl 0).1))=false:=by rw [hq.2];simp
          have hb':(bif (v.2 (2*i) - v.2 0)*den != (0 - num)*((pl i).2.1 - (pl 0).2.1) then true else (v.2 (2*i+1) - v.2 1)*den != num*((pl i).1 - (pl 0).1))=false:=by rw [b1,b2];rfl
          refine pcD hc (tid g nb n pl np v num den i) ?_ (ih (i+1) (by omega) (fun j hj=>by
            by_cases hji:j=i
            · subst hji;exact ⟨hq.1.trans e0,hq.2⟩
            · exact hall j (by omega)))
          and_intros
          all_goals (first | exact zH | (exact hd) | (exact hb') | (intro h;exact h) | (intro h;omega) | (intro h;rw [h];rfl) | (intro t ht;simp [All];done))
        · have hb':(bif (v.2 (2*i) - v.2 0)*den != (0 - num)*((pl i).2.1 - (pl 0).2.1) then true else (v.2 (2*i+1) - v.2 1)*den != num*((pl i).1 - (pl 0).1))=true:=by
            by_cases h1:(v.2 (2*i) - v.2 0)*den=(0 - num)*((pl i).2.1 - (pl 0).2.1)
            · have h2:(v.2 (2*i+1) - v.2 1)*den≠num*((pl i).1 - (pl 0).1):=fun h2=>hq ⟨h1,h2⟩
              rw [show ((v.2 (2*i) - v.2 0)*den != (0 - num)*((pl i).2.1 - (pl 0).2.1))=false by rw [h1];simp]
              simpa using h2
            · rw [show ((v.2 (2*i) - v.2 0)*den != (0 - num)*((pl i).2.1 - (pl 0).2.1))=true by simpa using h1];rfl
          rw [tmB_f (fun h=>hq (by
            have:=hiff.2 h i (by omega)
            exact ⟨by rw [e0];exact this.1,this.2⟩))]
          refine pkD Tryz.func208 hc (tie g nb n pl np v num den i) ?_
          and_intros
          all_goals (first | exact zH | (exact hd) | (exact hb') | (intro h;exact h) | (intro h;omega) | (intro h;rw [h];rfl))
    have z0:xP pl 0=0∧yP pl 0=0∧uPm v 0=0∧wP v 0=0:=⟨Int.sub_self _,Int.sub_self _,Int.sub_self _,Int.sub_self _⟩
    have l0:∀ d i,i+d=np→(∀ j,j<i→xP pl j=0∧yP pl j=0)→zR c 208 zf77 (TI0 g nb n pl np v i) (Post c [] (.p (.bool (tmB g nb n pl np v)))):=by
      intro d
      induction d with
      | zero =>
        intro i hi hall
        obtain rfl:i=np:=by omega
        have hd:decide ((i:Int)<(i:Int))=false:=decide_eq_false (by omega)
        have hr:=l1 0 1 (by omega) (by omega) (by omega) (by omega) ⟨fun h=>Trv.one_all (by omega) h,fun h=>Trv.all_one0 h z0 (fun j hj=>hall j (by omega))⟩ i 0 (by omega) (fun j hj=>absurd hj (Nat.not_lt_zero _))
        refine pcZ hc (tic g nb n pl i v i) ?_ hr
        and_intros
        all_goals (first | exact zN | (exact hd) | (intro t ht;simp [All];done))
      | succ d ih =>
        intro i hi hall
        have hd:decide ((i:Int)<(np:Int))=true:=decide_eq_true (by omega)
        have pi:=px i (by omega)
        have si:=sm (2*i) (by omega)
        have ti:=sm (2*i+1) (by omega)
        by_cases hz:(pl i).1 - (pl 0).1=0∧(pl i).2.1 - (pl 0).2.1=0
        · have hb':(bif (pl i).1 - (pl 0).1 != 0 then true else (pl i).2.1 - (pl 0).2.1 != 0)=false:=by rw [hz.1,hz.2];rfl
          refine pcZ hc (tia g nb n pl np v i) ?_ (ih (i+1) (by omega) (fun j hj=>by
            by_cases hji:j=i
            · subst hji;exact hz
            · exact hall j (by omega)))
          and_intros
          all_goals (first | exact zH | (exact hd) | (exact hb') | (intro h;exact h) | (intro h;rw [h];rfl) | (intro t ht;simp [All];done))
        · have hz':xP pl i≠0∨yP pl i≠0:=by
            show (pl i).1 - (pl 0).1≠0∨(pl i).2.1 - (pl 0).2.1≠0
            omega
          have hb':(bif (pl i).1 - (pl 0).1 != 0 then true else (pl i).2.1 - (pl 0).2.1 != 0)=true:=by
            by_cases h1:(pl i).1 - (pl 0).1=0
            · have h2:(pl i).2.1 - (pl 0).2.1≠0:=fun h2=>hz ⟨h1,h2⟩
              rw [h1];simpa using h2
            · rw [show ((pl i).1 - (pl 0).1 != 0)=true by simpa using h1];rfl
          have m1:=Trv.bdm (a:=v.2 (2*i+1) - v.2 1) (b:=(pl i).1 - (pl 0).1) (A:=20000000000) (B:=4) (by omega) (by omega)
          have m2:=Trv.bdm (a:=v.2 (2*i) - v.2 0) (b:=(pl i).2.1 - (pl 0).2.1) (A:=20000000000) (B:=4) (by omega) (by omega)
          have m3:=Trv.bdm (a:=(pl i).1 - (pl 0).1) (b:=(pl i).1 - (pl 0).1) (A:=4) (B:=4) (by omega) (by omega)
          have m4:=Trv.bdm (a:=(pl i).2.1 - (pl 0).2.1) (b:=(pl i).2.1 - (pl 0).2.1) (A:=4) (B:=4) (by omega) (by omega)
          have hpos:0<((pl i).1 - (pl 0).1)*((pl i).1 - (pl 0).1)+((pl i).2.1 - (pl 0).2.1)*((pl i).2.1 - (pl 0).2.1):=Trv.sum_sq_pos hz'
          have hr:=l1 ((v.2 (2*i+1) - v.2 1)*((pl i).1 - (pl 0).1) - (v.2 (2*i) - v.2 0)*((pl i).2.1 - (pl 0).2.1)) (((pl i).1 - (pl 0).1)*((pl i).1 - (pl 0).1)+((pl i).2.1 - (pl 0).2.1)*((pl i).2.1 - (pl 0).2.1)) (by omega) (by omega) (by omega) (by omega)
            ⟨fun h=>Trv.one_all (by omega) h,fun h=>Trv.all_onej h z0 (j:=i) (by omega) hz'⟩ np 0 (by omega) (fun j hj=>absurd hj (Nat.not_lt_zero _))
          refine pcZ hc (tib g nb n pl np v i _ _) ?_ hr
          and_intros
          all_goals (first | exact zH | (exact hd) | (exact hb') | (intro h;exact h) | (intro h;rw [h];rfl) | (intro t ht;simp [All];done))
    refine pcZ hc (tiz g nb n pl np v) ?_ (l0 np 0 (by omega) (fun j hj=>absurd hj (Nat.not_lt_zero _)))
    and_intros
    all_goals (first | exact zN | (exact cv) | (intro t ht;simp [All];done))
def hasB (b:T_Bar) (p:Int):Bool:=bif b.1==p then true else b.2.1==p
theorem pDh (b:T_Bar) (p:Int) :
    zS Tryz.f222 [rg 2,rg 11] [barA b,.p (.int .i64 p)] [] [] (.p (.bool (hasB b p))) =
    some (zD [(NT 0 1),(AG (!b.1==p)),(((!b.1==p)=true)→(NT 0 1)),(((b.1==p)=false)→ ((!b.1==p)=true)),((bif b.1==p then true else b.2.1==p)=(hasB b p))] [0,1,2,1,1,3,4]):=by kernel_rfl
theorem con_hasD (b:T_Bar) (p:Int):zE 222 [barA b,.p (.int .i64 p)] [] (.p (.bool (hasB b p))):=by
  refine csZ Tryz.func222 (fun c hc=>?_)
  refine pkD Tryz.func222 hc (pDh b p) ?_
  and_intros
  all_goals (first | exact zH)
def fcX (g:Nat→T_Bar) (pl:Nat→T_Place) (w:T_IntS) (v:Nat):Nat→Int
  | 0=>0
  | k+1=>if hasB (g k) v=true then fcX g pl w v k+w.2 k*((pl v).1 - (pl (if (g k).1=v then (g k).2.1.toNat else (g k).1.toNat)).1) else fcX g pl w v k
def fcY (g:Nat→T_Bar) (pl:Nat→T_Place) (w:T_IntS) (v:Nat):Nat→Int
  | 0=>0
  | k+1=>if hasB (g k) v=true then fcY g pl w v k+w.2 k*((pl v).2.1 - (pl (if (g k).1=v then (g k).2.1.toNat else (g k).1.toNat)).2.1) else fcY g pl w v k
def LvS (g:Nat→T_Bar) (nb:Nat) (N:Int) (pl:Nat→T_Place) (np:Nat) (v:T_IntS) (i:Nat):St :=
  ⟨[.p .any,inL v,.pt 3 0 0 0,.p .any,.p .any,.p (.int .i64 i)]++List.replicate 23 anyA,[(0,⟨true,3,1,fun _=>[.p (.int .i64 N),brL g nb,pcL pl np]⟩)],1⟩
def FaI (g:Nat→T_Bar) (nb N:Nat) (pl:Nat→T_Place) (np:Nat) (w:T_IntS) (v:Nat) (x y:Int) (i:Nat):St :=
  ⟨[.p .any,inL w,.p (.int .i64 v),.pt 3 0 0 0,.p .any,.p .any,.p .any,.p .any,.p (.int .i64 x),.p (.int .i64 y)]++List.replicate 12 anyA++[brL g nb,.p (.int .i64 nb),.p (.int .i64 i)]++List.replicate 46 anyA,[(0,fbx g nb N pl np)],1⟩
def FaS (g:Nat→T_Bar) (nb N:Nat) (pl:Nat→T_Place) (np:Nat) (w:T_IntS) (v:Nat) (x y:Int) (i:Nat):St :=
  ⟨[.p .any,inL w,.p (.int .i64 v),.pt 3 0 0 0,.p .any,.p .any,.p .any,.p .any,.p (.int .i64 x),.p (.int .i64 y),.p (.int .i64 i)]++List.replicate 74 anyA,[(0,fbx g nb N pl np)],1⟩
def IsI (g:Nat→T_Bar) (nb N:Nat) (pl:Nat→T_Place) (np:Nat) (w:T_IntS) (v:Nat):St :=
  ⟨[.p .any,inL w,.pt 3 0 0 0,.p .any,.p .any]++List.replicate 8 anyA++[.p .any,.p (.int .i64 np),.p (.int .i64 v)]++List.replicate 16 anyA,[(0,fbx g nb N pl np)],1⟩
def IsS (g:Nat→T_Bar) (nb:Nat) (N:Int) (pl:Nat→T_Place) (np:Nat) (w:T_IntS) (v:Nat):St :=
  ⟨[.p .any,inL w,.pt 3 0 0 0,.p .any,.p .any,.p (.int .i64 v)]++List.replicate 30 anyA,[(0,⟨true,3,1,fun _=>[.p (.int .i64 N),brL g nb,pcL pl np]⟩)],1⟩
theorem afR (g:Nat→T_Bar) (nb:Nat) (N:Int) (pl:Nat→T_Place) (np:Nat) (v:T_IntS) (b1 b2:Bool) :
    zS Tryz.f381 [rg 2,rm [(1,oc [] (.p (.bool b1))),(6,oc [] (.p (.bool b2)))] 2] [frA g nb N pl np,inL v] [] [] (.p (.bool (bif b1 then b2 else false))) =
    some (zD [(NT 0 1),zE 128 [(zf60 N nb g np pl)] [] (.p (.bool b1)),(AG b1),((b1=true)→(NT 0 1)),((b1=true)→ zE 348 [.p (.seq true 1 v.1 (iRw v)),.p (.int .i64 (↑nb:Int))] [] (.p (.bool b2))),((bif b1 then b2 else false)=(bif b1 then b2 else false))] [0,1,2,2,3,2,2,2,4,2,5]):=by kernel_rfl
theorem lvz (g:Nat→T_Bar) (nb:Nat) (N:Int) (pl:Nat→T_Place) (np:Nat) (v:T_IntS) :
    zT Tryz.f379 [rg 2,rg 1,.head] [frA g nb N pl np,inL v] [0] (LvS g nb N pl np v 0) =
    some (zf122,[(AN v.1),(AP v.1 (iRw v)),(AN 0),((0:Int)=(↑0:Int)),((([AV.p (PV.int IntKind.i64 N),brL g nb,pcL pl np].length):Nat)=3),(NL 1 1),(NL 1 1),(AI N),(AN nb),(AP nb (bRw g)),(AN np),(AP np (bRw pl))]):=by kernel_rfl
theorem lvt (g:Nat→T_Bar) (nb:Nat) (N:Int) (pl:Nat→T_Place) (np:Nat) (v:T_IntS) (i:Nat) :
    zM 0 [rg 4,.dec true,rm [(4,oc [] (.p (.bool true)))] 1,.dec false,rg 3,.head] zf122 (LvS g nb N pl np v i) [0] 1 (LvS g nb N pl np v (i+1)) =
    some (zf122,[((decide ((↑i:Int)<(↑v.1:Int)))=true),(IL 0 (↑i:Int)),(IT (↑i:Int) (↑v.1:Int)),zE 167 [.p (.int .i64 (v.2 i)),.p (.int .i64 (-10000000000)),.p (.int .i64 10000000000)] [] (.p (.bool true)),((!true)=false),(ZLo ((↑i:Int)+1)),(ZHi ((↑i:Int)+1)),(AN v.1),(AP v.1 (iRw v)),(AN 0),((((↑i:Int)+1):Int)=(↑(i+1):Int)),(AN 3),(NL 1 1),(NL 1 1),(AI N),(AN nb),(AP nb (bRw g)),(AN np),(AP np (bRw pl))]):=by kernel_rfl
theorem lvf (g:Nat→T_Bar) (nb:Nat) (N:Int) (pl:Nat→T_Place) (np:Nat) (v:T_IntS) (i:Nat) :
    zP Tryz.f379 0 [rg 4,.dec true,rm [(4,oc [] (.p (.bool false)))] 1,.dec true,rg 1] zf122 (LvS g nb N pl np v i) [] 1 [] (.p (.bool false)) =
    some [((decide ((↑i:Int)<(↑v.1:Int)))=true),(IL 0 (↑i:Int)),(IT (↑i:Int) (↑v.1:Int)),zE 167 [.p (.int .i64 (v.2 i)),.p (.int .i64 (-10000000000)),.p (.int .i64 10000000000)] [] (.p (.bool false)),((!false)=true),(false=false)]:=by kernel_rfl
theorem lve (g:Nat→T_Bar) (nb:Nat) (N:Int) (pl:Nat→T_Place) (np:Nat) (v:T_IntS) (i:Nat) (b:Bool) :
    zP Tryz.f379 0 [rg 4,.dec false,rm [(1,oc [] (.p (.bool b)))] 10] zf122 (LvS g nb N pl np v i) [] 1 [] (.p (.bool (bif b then (v.1:Int)==(nb:Int) else false))) =
    some (zD [((decide ((↑i:Int)<(↑v.1:Int)))=false),(NT 0 1),zE 117 [(zf53 N nb g np pl)] [] (.p (.bool b)),(AG b),((b=true)→(NT 0 1)),((bif b then (↑v.1:Int)==(↑nb:Int) else false)=(bif b then (↑v.1:Int)==(↑nb:Int) else false))] [0,1,2,3,3,3,4,3,3,3,3,5]):=by kernel_rfl
theorem faz (g:Nat→T_Bar) (nb N:Nat) (pl:Nat→T_Place) (np:Nat) (w:T_IntS) (v:Nat) :
    zT Tryz.f382 [rg 3,rg 2,rm [(2,oc [] (.p (.bool true)))] 1,.dec false,rg 5,.head] [frA g nb N pl np,inL w,.p (.int .i64 v)] [0] (FaI g nb N pl np w v 0 0 0) =
    some (zf78,[(NT 0 1),zE 381 [(zf56 N nb g np pl),.p (.seq true 1 w.1 (iRw w))] [] (.p (.bool true)),((!true)=false),(NT 0 1),(AN w.1),(AP w.1 (iRw w)),(AI ((↑v:Int))),(AN 0),(AI 0),(AI 0),(AN nb),(AP nb (bRw g)),(AI ((↑nb:Int))),((0:Int)=(↑0:Int)),((([AV.p (PV.int IntKind.i64 (↑N:Int)),brL g nb,pcL pl np].length):Nat)=3),(NL 1 1),(NL 1 1),(AI ((↑N:Int))),(AN nb),(AP nb (bRw g)),(AN np),(AP np (bRw pl))]):=by kernel_rfl
theorem fat (g:Nat→T_Bar) (nb N:Nat) (pl:Nat→T_Place) (np:Nat) (w:T_IntS) (v:Nat) (x y:Int) (i o:Nat) (x' y':Int) :
    zM 0 [rg 1,.dec true,rg 6,rm [(2,oc [] (.p (.bool true)))] 0,.dec true,rm [(9,oc [] (.p (.int .i64 o)))] 6,rg 13,rg 13,rg 2,.head] zf78 (FaI g nb N pl np w v x y i) [0] 1 (FaI g nb N pl np w v x' y' (i+1)) =
    some (zf78,zD [((decide ((↑i:Int)<(↑nb:Int)))=true),(IL 0 (↑i:Int)),(IT (↑i:Int) (↑nb:Int)),(NT 0 1),((true=true)→ (AN 1)),zE 222 [.agg [.p (.int .i64 ((g i).1)),.p (.int .i64 ((g i).2.1))],.p (.int .i64 (↑v:Int))] [] (.p (.bool true)),(true=true),(IL 0 (↑v:Int)),(IT (↑v:Int) (↑np:Int)),zE 223 [.agg [.p (.int .i64 ((g i).1)),.p (.int .i64 ((g i).2.1))],.p (.int .i64 (↑v:Int))] [] (.p (.int .i64 (↑o:Int))),(IL 0 (↑o:Int)),(IT (↑o:Int) (↑np:Int)),(IT (↑i:Int) (↑w.1:Int)),(ZLo ((pl v).1 - (pl o).1)),(ZHi ((pl v).1 - (pl o).1)),(ZLo (w.2 i*((pl v).1 - (pl o).1))),(ZHi (w.2 i*((pl v).1 - (pl o).1))),(ZLo (x+w.2 i*((pl v).1 - (pl o).1))),(ZHi (x+w.2 i*((pl v).1 - (pl o).1))),(ZLo ((pl v).2.1 - (pl o).2.1)),(ZHi ((pl v).2.1 - (pl o).2.1)),(ZLo (w.2 i*((pl v).2.1 - (pl o).2.1))),(ZHi (w.2 i*((pl v).2.1 - (pl o).2.1))),(ZLo (y+w.2 i*((pl v).2.1 - (pl o).2.1))),(ZHi (y+w.2 i*((pl v).2.1 - (pl o).2.1))),(ZLo ((↑i:Int)+1)),(ZHi ((↑i:Int)+1)),(AN w.1),(AP w.1 (iRw w)),(AI ((↑v:Int))),(AN 0),(((x+w.2 i*((pl v).1 - (pl o).1)):Int)=x'),(((y+w.2 i*((pl v).2.1 - (pl o).2.1)):Int)=y'),(AN nb),(AP nb (bRw g)),(AI ((↑nb:Int))),((((↑i:Int)+1):Int)=(↑(i+1):Int)),(AN 3),(NL 1 1),(AI ((↑N:Int))),(AN np),(AP np (bRw pl))] [0,1,2,3,4,3,5,6,3,7,8,3,3,9,10,11,3,4,3,4,1,12,3,3,13,14,15,16,17,18,1,12,3,3,19,20,21,22,23,24,25,26,27,28,29,30,31,32,33,34,35,36,37,38,38,39,33,34,40,41]):=by kernel_rfl
theorem faf (g:Nat→T_Bar) (nb N:Nat) (pl:Nat→T_Place) (np:Nat) (w:T_IntS) (v:Nat) (x y:Int) (i:Nat) :
    zM 0 [rg 1,.dec true,rg 6,rm [(2,oc [] (.p (.bool false)))] 0,.dec false,rg 2,.head] zf78 (FaI g nb N pl np w v x y i) [0] 1 (FaI g nb N pl np w v x y (i+1)) =
    some (zf78,[((decide ((↑i:Int)<(↑nb:Int)))=true),(IL 0 (↑i:Int)),(IT (↑i:Int) (↑nb:Int)),(NT 0 1),((true=true)→ (AN 1)),(NT 0 1),zE 222 [.agg [.p (.int .i64 ((g i).1)),.p (.int .i64 ((g i).2.1))],.p (.int .i64 (↑v:Int))] [] (.p (.bool false)),(false=false),(ZLo ((↑i:Int)+1)),(ZHi ((↑i:Int)+1)),(AN w.1),(AP w.1 (iRw w)),(AI ((↑v:Int))),(AN 0),(AI x),(AI y),(AN nb),(AP nb (bRw g)),(AI ((↑nb:Int))),((((↑i:Int)+1):Int)=(↑(i+1):Int)),(AN 3),(NL 1 1),(NL 1 1),(AI ((↑N:Int))),(AN nb),(AP nb (bRw g)),(AN np),(AP np (bRw pl))]):=by kernel_rfl
theorem fae (g:Nat→T_Bar) (nb N:Nat) (pl:Nat→T_Place) (np:Nat) (w:T_IntS) (v:Nat) (x y:Int) (i:Nat) :
    zP Tryz.f382 0 [rg 1,.dec false,rg 4] zf78 (FaI g nb N pl np w v x y i) [] 1 [] (.tup [.p (.int .i64 x),.p (.int .i64 y)]) =
    some [((decide ((↑i:Int)<(↑nb:Int)))=false),(AI x),(AI y)]:=by kernel_rfl
theorem fsz (g:Nat→T_Bar) (nb N:Nat) (pl:Nat→T_Place) (np:Nat) (w:T_IntS) (v:Nat) :
    zT Tryz.f380 [rg 3,rg 1,rg 1,rg 1,.head] [frA g nb N pl np,inL w,.p (.int .i64 v)] [0] (FaS g nb N pl np w v 0 0 0) =
    some (zf79,[(AN w.1),(AP w.1 (iRw w)),(AI ((↑v:Int))),(AN 0),(AI 0),(AI 0),((0:Int)=(↑0:Int)),((([AV.p (PV.int IntKind.i64 (↑N:Int)),brL g nb,pcL pl np].length):Nat)=3),(NL 1 1),(NL 1 1),(AI ((↑N:Int))),(AN nb),(AP nb (bRw g)),(AN np),(AP np (bRw pl))]):=by kernel_rfl
theorem fst1 (g:Nat→T_Bar) (nb N:Nat) (pl:Nat→T_Place) (np:Nat) (w:T_IntS) (v:Nat) (x y:Int) (i o:Nat) (x' y':Int) :
    zM 0 [rm [(7,oc [] (.p (.bool true)))] 1,.dec true,rg 8,rg 10,.dec true,rm [(2,oc [] (.p (.int .i64 o)))] 1,rg 21,rg 21,rg 3,.head] zf79 (FaS g nb N pl np w v x y i) [0] 1 (FaS g nb N pl np w v x' y' (i+1)) =
    some (zf79,zD [(((decide ((↑i:Int)<(↑w.1:Int)))=true)→(NT 0 1)),(AG (decide ((↑i:Int)<(↑w.1:Int)))),(((decide ((↑i:Int)<(↑w.1:Int)))=true)→ zE 379 [(zf50 N nb g np pl),.p (.seq true 1 w.1 (iRw w))] [] (.p (.bool true))),((bif decide ((↑i:Int)<(↑w.1:Int)) then true else false)=true),(NT 0 1),(IL 0 (↑i:Int)),(IT (↑i:Int) (↑nb:Int)),((true=true)→ (AN 1)),(AG (!(g i).1==(↑v:Int))),(((!(g i).1==(↑v:Int))=true)→(NT 0 1)),((((g i).1==(↑v:Int))=false)→ ((!(g i).1==(↑v:Int))=true)),((bif (g i).1==(↑v:Int) then true else (g i).2.1==(↑v:Int))=true),zE 324 [.agg [.p (.int .i64 ((g i).1)),.p (.int .i64 ((g i).2.1))],.p (.int .i64 (↑v:Int))] [] (.p (.int .i64 (↑o:Int))),(IT (↑i:Int) (↑w.1:Int)),(IL 0 (↑v:Int)),(IT (↑v:Int) (↑np:Int)),(IL 0 (↑o:Int)),(IT (↑o:Int) (↑np:Int)),(ZLo ((pl v).1 - (pl o).1)),(ZHi ((pl v).1 - (pl o).1)),(ZLo (w.2 i*((pl v).1 - (pl o).1))),(ZHi (w.2 i*((pl v).1 - (pl o).1))),(ZLo (x+w.2 i*((pl v).1 - (pl o).1))),(ZHi (x+w.2 i*((pl v).1 - (pl o).1))),(ZLo ((pl v).2.1 - (pl o).2.1)),(ZHi ((pl v).2.1 - (pl o).2.1)),(ZLo (w.2 i*((pl v).2.1 - (pl o).2.1))),(ZHi (w.2 i*((pl v).2.1 - (pl o).2.1))),(ZLo (y+w.2 i*((pl v).2.1 - (pl o).2.1))),(ZHi (y+w.2 i*((pl v).2.1 - (pl o).2.1))),(ZLo ((↑i:Int)+1)),(ZHi ((↑i:Int)+1)),(AN w.1),(AP w.1 (iRw w)),(AI ((↑v:Int))),(AN 0),(((x+w.2 i*((pl v).1 - (pl o).1)):Int)=x'),(((y+w.2 i*((pl v).2.1 - (pl o).2.1)):Int)=y'),((((↑i:Int)+1):Int)=(↑(i+1):Int)),(AN 3),(NL 1 1),(AI ((↑N:Int))),(AN nb),(AP nb (bRw g)),(AN np),(AP np (bRw pl))] [0,1,1,2,1,3,4,5,6,4,7,4,8,9,8,8,10,11,4,12,5,13,4,14,15,4,16,17,18,19,20,21,22,23,5,13,4,14,15,4,16,17,24,25,26,27,28,29,30,31,32,33,34,35,36,37,38,39,40,40,41,42,43,44,45]):=by kernel_rfl
theorem fsf (g:Nat→T_Bar) (nb N:Nat) (pl:Nat→T_Place) (np:Nat) (w:T_IntS) (v:Nat) (x y:Int) (i:Nat) :
    zM 0 [rm [(7,oc [] (.p (.bool true)))] 1,.dec true,rg 8,rg 10,.dec false,rg 3,.head] zf79 (FaS g nb N pl np w v x y i) [0] 1 (FaS g nb N pl np w v x y (i+1)) =
    some (zf79,zD [(((decide ((↑i:Int)<(↑w.1:Int)))=true)→(NT 0 1)),(AG (decide ((↑i:Int)<(↑w.1:Int)))),(((decide ((↑i:Int)<(↑w.1:Int)))=true)→ zE 379 [(zf50 N nb g np pl),.p (.seq true 1 w.1 (iRw w))] [] (.p (.bool true))),((bif decide ((↑i:Int)<(↑w.1:Int)) then true else false)=true),(NT 0 1),(IL 0 (↑i:Int)),(IT (↑i:Int) (↑nb:Int)),((true=true)→ (AN 1)),(AG (!(g i).1==(↑v:Int))),(((!(g i).1==(↑v:Int))=true)→(NT 0 1)),((((g i).1==(↑v:Int))=false)→ ((!(g i).1==(↑v:Int))=true)),((bif (g i).1==(↑v:Int) then true else (g i).2.1==(↑v:Int))=false),(ZLo ((↑i:Int)+1)),(ZHi ((↑i:Int)+1)),(AN w.1),(AP w.1 (iRw w)),(AI ((↑v:Int))),(AN 0),(AI x),(AI y),((((↑i:Int)+1):Int)=(↑(i+1):Int)),(AN 3),(NL 1 1),(AI ((↑N:Int))),(AN nb),(AP nb (bRw g)),(AN np),(AP np (bRw pl))] [0,1,1,2,1,3,4,5,6,4,7,4,8,9,8,8,10,11,12,13,14,15,16,17,18,19,20,21,22,22,23,24,25,26,27]):=by kernel_rfl
theorem fse (g:Nat→T_Bar) (nb N:Nat) (pl:Nat→T_Place) (np:Nat) (w:T_IntS) (v:Nat) (x y:Int) (i:Nat) :
    zP Tryz.f380 0 [rm [(7,oc [] (.p (.bool true)))] 1,.dec false,rg 4] zf79 (FaS g nb N pl np w v x y i) [] 1 [] (.tup [.p (.int .i64 x),.p (.int .i64 y)]) =
    some (zD [(((decide ((↑i:Int)<(↑w.1:Int)))=true)→(NT 0 1)),(AG (decide ((↑i:Int)<(↑w.1:Int)))),(((decide ((↑i:Int)<(↑w.1:Int)))=true)→ zE 379 [(zf50 N nb g np pl),.p (.seq true 1 w.1 (iRw w))] [] (.p (.bool true))),((bif decide ((↑i:Int)<(↑w.1:Int)) then true else false)=false),(AI x),(AI y)] [0,1,1,2,1,3,4,5]):=by kernel_rfl
theorem isN (g:Nat→T_Bar) (nb:Nat) (N:Int) (pl:Nat→T_Place) (np:Nat) (w:T_IntS) :
    zS Tryz.f347 [rg 2,rm [(2,oc [] (.p (.bool false)))] 1,.dec true,rg 1] [frA g nb N pl np,inL w] [] [] (.p (.bool false)) =
    some [(NT 0 1),zE 381 [(zf60 N nb g np pl),.p (.seq true 1 w.1 (iRw w))] [] (.p (.bool false)),((!false)=true),(false=false)]:=by kernel_rfl
theorem isz (g:Nat→T_Bar) (nb N:Nat) (pl:Nat→T_Place) (np:Nat) (w:T_IntS) :
    zT Tryz.f347 [rg 2,rm [(2,oc [] (.p (.bool true)))] 1,.dec false,rg 4,.head] [frA g nb N pl np,inL w] [0] (IsI g nb N pl np w 0) =
    some (zf89,[(NT 0 1),zE 381 [(zf56 N nb g np pl),.p (.seq true 1 w.1 (iRw w))] [] (.p (.bool true)),((!true)=false),(NT 0 1),(AN w.1),(AP w.1 (iRw w)),(AN 0),(AI ((↑np:Int))),((0:Int)=(↑0:Int)),((([AV.p (PV.int IntKind.i64 (↑N:Int)),brL g nb,pcL pl np].length):Nat)=3),(NL 1 1),(NL 1 1),(AI ((↑N:Int))),(AN nb),(AP nb (bRw g)),(AN np),(AP np (bRw pl))]):=by kernel_rfl
theorem ist (g:Nat→T_Bar) (nb N:Nat) (pl:Nat→T_Place) (np:Nat) (w:T_IntS) (v:Nat) (x y:Int) :
    zM 0 [rg 1,.dec true,rg 2,rm [(3,oc [] (.tup [.p (.int .i64 x),.p (.int .i64 y)]))] 5,rg 6,.dec false,rg 2,.head] zf89 (IsI g nb N pl np w v) [0] 1 (IsI g nb N pl np w (v+1)) =
    some (zf89,[((decide ((↑v:Int)<(↑np:Int)))=true),(NT 0 1),zE 382 [(zf56 N nb g np pl),.p (.seq true 1 w.1 (iRw w)),.p (.int .i64 (↑v:Int))] [] (.tup [.p (.int .i64 x),.p (.int .i64 y)]),(AG (!x != 0)),(((x != 0)=false)→ ((!x != 0)=true)),((bif x != 0 then true else y != 0)=false),(ZLo ((↑v:Int)+1)),(ZHi ((↑v:Int)+1)),(AN w.1),(AP w.1 (iRw w)),(AN 0),(AI ((↑np:Int))),((((↑v:Int)+1):Int)=(↑(v+1):Int)),(AN 3),(NL 1 1),(NL 1 1),(AI ((↑N:Int))),(AN nb),(AP nb (bRw g)),(AN np),(AP np (bRw pl))]):=by kernel_rfl
theorem isf (g:Nat→T_Bar) (nb N:Nat) (pl:Nat→T_Place) (np:Nat) (w:T_IntS) (v:Nat) (x y:Int) :
    zP Tryz.f347 0 [rg 1,.dec true,rg 2,rm [(3,oc [] (.tup [.p (.int .i64 x),.p (.int .i64 y)]))] 5,rg 6,.dec true,rg 1] zf89 (IsI g nb N pl np w v) [] 1 [] (.p (.bool false)) =
    some [((decide ((↑v:Int)<(↑np:Int)))=true),(NT 0 1),zE 382 [(zf56 N nb g np pl),.p (.seq true 1 w.1 (iRw w)),.p (.int .i64 (↑v:Int))] [] (.tup [.p (.int .i64 x),.p (.int .i64 y)]),(AG (!x != 0)),(((x != 0)=false)→ ((!x != 0)=true)),((bif x != 0 then true else y != 0)=true),(false=false)]:=by kernel_rfl
theorem ise (g:Nat→T_Bar) (nb N:Nat) (pl:Nat→T_Place) (np:Nat) (w:T_IntS) (v:Nat) :
    zP Tryz.f347 0 [rg 1,.dec false,rg 1] zf89 (IsI g nb N pl np w v) [] 1 [] (.p (.bool true)) =
    some [((decide ((↑v:Int)<(↑np:Int)))=false),(true=true)]:=by kernel_rfl
theorem iqz (g:Nat→T_Bar) (nb:Nat) (N:Int) (pl:Nat→T_Place) (np:Nat) (w:T_IntS) :
    zT Tryz.f346 [rg 2,rg 1,.head] [frA g nb N pl np,inL w] [0] (IsS g nb N pl np w 0) =
    some (zf123,[(AN w.1),(AP w.1 (iRw w)),(AN 0),((0:Int)=(↑0:Int)),((([AV.p (PV.int IntKind.i64 N),brL g nb,pcL pl np].length):Nat)=3),(NL 1 1),(NL 1 1),(AI N),(AN nb),(AP nb (bRw g)),(AN np),(AP np (bRw pl))]):=by kernel_rfl
theorem iqt (g:Nat→T_Bar) (nb:Nat) (N:Int) (pl:Nat→T_Place) (np:Nat) (w:T_IntS) (v:Nat) (x y:Int) :
    zM 0 [rm [(8,oc [] (.p (.bool true)))] 1,.dec true,rm [(3,oc [] (.tup [.p (.int .i64 x),.p (.int .i64 y)]))] 5,rg 6,.dec false,rg 3,.head] zf123 (IsS g nb N pl np w v) [0] 1 (IsS g nb N pl np w (v+1)) =
    some (zf123,zD [(NT 0 1),(((decide ((↑v:Int)<N))=true)→(NT 0 1)),(AG (decide ((↑v:Int)<N))),(((decide ((↑v:Int)<N))=true)→ zE 379 [(zf60 N nb g np pl),.p (.seq true 1 w.1 (iRw w))] [] (.p (.bool true))),((bif decide ((↑v:Int)<N) then true else false)=true),zE 380 [(zf60 N nb g np pl),.p (.seq true 1 w.1 (iRw w)),.p (.int .i64 (↑v:Int))] [] (.tup [.p (.int .i64 x),.p (.int .i64 y)]),(AG (!x != 0)),(((x != 0)=false)→ ((!x != 0)=true)),((bif x != 0 then true else y != 0)=false),(ZLo ((↑v:Int)+1)),(ZHi ((↑v:Int)+1)),(AN w.1),(AP w.1 (iRw w)),(AN 0),((((↑v:Int)+1):Int)=(↑(v+1):Int)),(AN 3),(NL 1 1),(AI N),(AN nb),(AP nb (bRw g)),(AN np),(AP np (bRw pl))] [0,1,2,2,3,2,4,0,5,6,7,8,9,10,11,12,13,14,15,16,16,17,18,19,20,21]):=by kernel_rfl
theorem iqf (g:Nat→T_Bar) (nb:Nat) (N:Int) (pl:Nat→T_Place) (np:Nat) (w:T_IntS) (v:Nat) (x y:Int) :
    zP Tryz.f346 0 [rm [(8,oc [] (.p (.bool true)))] 1,.dec true,rm [(3,oc [] (.tup [.p (.int .i64 x),.p (.int .i64 y)]))] 5,rg 6,.dec true,rg 1] zf123 (IsS g nb N pl np w v) [] 1 [] (.p (.bool false)) =
    some (zD [(NT 0 1),(((decide ((↑v:Int)<N))=true)→(NT 0 1)),(AG (decide ((↑v:Int)<N))),(((decide ((↑v:Int)<N))=true)→ zE 379 [(zf60 N nb g np pl),.p (.seq true 1 w.1 (iRw w))] [] (.p (.bool true))),((bif decide ((↑v:Int)<N) then true else false)=true),zE 380 [(zf60 N nb g np pl),.p (.seq true 1 w.1 (iRw w)),.p (.int .i64 (↑v:Int))] [] (.tup [.p (.int .i64 x),.p (.int .i64 y)]),(AG (!x != 0)),(((x != 0)=false)→ ((!x != 0)=true)),((bif x != 0 then true else y != 0)=true),(false=false)] [0,1,2,2,3,2,4,0,5,6,7,8,9]):=by kernel_rfl
theorem iqe (g:Nat→T_Bar) (nb:Nat) (N:Int) (pl:Nat→T_Place) (np:Nat) (w:T_IntS) (v:Nat) (b:Bool) :
    zP Tryz.f346 0 [rm [(8,oc [] (.p (.bool b)))] 1,.dec false,rm [(2,oc [] (.p (.bool b)))] 1] zf123 (IsS g nb N pl np w v) [] 1 [] (.p (.bool b)) =
    some (zD [(NT 0 1),(((decide ((↑v:Int)<N))=true)→(NT 0 1)),(AG (decide ((↑v:Int)<N))),(((decide ((↑v:Int)<N))=true)→ zE 379 [(zf60 N nb g np pl),.p (.seq true 1 w.1 (iRw w))] [] (.p (.bool b))),((bif decide ((↑v:Int)<N) then b else false)=false),zE 379 [(zf60 N nb g np pl),.p (.seq true 1 w.1 (iRw w))] [] (.p (.bool b)),(b=b)] [0,1,2,2,3,2,4,0,5,6]):=by kernel_rfl
def frcB (g:Nat→T_Bar) (nb:Nat) (N:Int) (pl:Nat→T_Place) (np:Nat) (w:T_IntS):Bool:=bif fwB g nb N pl np then smB w (nb:Int) else false
theorem con_areForces (g:Nat→T_Bar) (nb:Nat) (N:Int) (pl:Nat→T_Place) (np:Nat) (v:T_IntS) (hn:nb≤1048576∧np≤1048576) (hv:v.1≤1048576) :
    zE 381 [frA g nb N pl np,inL v] [] (.p (.bool (frcB g nb N pl np v))):=by
  have cf:=con_IsFramework_i g nb N pl np hn
  have cs:=con_areSmall v (nb:Int) hv
  have hN:fwB g nb N pl np=true→-9223372036854775808≤2*N∧2*N≤9223372036854775807:=fun h=>by
    obtain ⟨n,rfl⟩:=fw_N h
    have:=(fw_ok h).2.1
    omega
  refine csZ Tryz.func381 (fun c hc=>?_)
  refine pkD Tryz.func381 hc (afR g nb N pl np v (fwB g nb N pl np) (smB v (nb:Int))) ?_
  and_intros
  all_goals (first | exact zI | (exact cf) | (intro _;exact cs) | (intro h;exact h) | (intro h;exact (hN h).1) | (intro h;exact (hN h).2) | rfl)
theorem con_l13Vector (g:Nat→T_Bar) (nb:Nat) (N:Int) (pl:Nat→T_Place) (np:Nat) (v:T_IntS) (hn:nb≤1048576∧np≤1048576) (hv:v.1≤1048576) :
    zE 379 [frA g nb N pl np,inL v] [] (.p (.bool (frcB g nb N pl np v))):=by
  have cf:=con_IsFramework_s g nb N pl np hn
  have hN:fwB g nb N pl np=true→-9223372036854775808≤2*N∧2*N≤9223372036854775807:=fun h=>by
    obtain ⟨n,rfl⟩:=fw_N h
    have:=(fw_ok h).2.1
    omega
  refine csZ Tryz.func379 (fun c hc=>?_)
  have lo:∀ d i,i+d=v.1→allB (smq v) i=true→zR c 379 zf122 (LvS g nb N pl np v i) (Post c [] (.p (.bool (frcB g nb N pl np v)))):=by
    intro d
    induction d with
    | zero =>
      intro i hi ha
      obtain rfl:i=v.1:=by omega
      have hd:decide ((v.1:Int)<(v.1:Int))=false:=decide_eq_false (by omega)
      unfold frcB smB
      rw [ha]
      refine pkD Tryz.func379 hc (lve g nb N pl np v v.1 (fwB g nb N pl np)) ?_
      and_intros
      all_goals (first | exact zI | (exact hd) | (exact cf) | (intro h;exact h) | (intro h;exact (hN h).1) | (intro h;exact (hN h).2) | rfl)
    | succ d ih =>
      intro i hi ha
      have hd:decide ((i:Int)<(v.1:Int))=true:=decide_eq_true (by omega)
      have cw:=con_l1In (v.2 i) (-10000000000) 10000000000
      change zE 167 _ [] (.p (.bool (smq v i))) at cw
      cases hs:smq v i with
      | true =>
        rw [hs] at cw
        refine pcZ hc (lvt g nb N pl np v i) ?_ (ih (i+1) (by omega) (by rw [allB,ha,hs];rfl))
        and_intros
        all_goals (first | exact zN | (exact hd) | (exact cw) | (intro t ht;simp [All];done))
      | false =>
        rw [hs] at cw
        rw [show frcB g nb N pl np v=false by
          unfold frcB smB
          rw [all_no (i:=i) (by omega) hs]
          cases fwB g nb N pl np<;>rfl]
        refine pkZ Tryz.func379 hc (lvf g nb N pl np v i) ?_
        and_intros
        all_goals (first | exact zN | (exact hd) | (exact cw))
  refine pcZ hc (lvz g nb N pl np v) ?_ (lo v.1 0 (by omega) rfl)
  and_intros
  all_goals (first | exact zN | (intro t ht;simp [All];done))
structure FOk (g:Nat→T_Bar) (nb N:Nat) (pl:Nat→T_Place) (np:Nat) (w:T_IntS):Prop where
  hf:fwB g nb N pl np=true
  hl:w.1=nb
  hN:1≤N∧N≤6
  hnp:np=N
  hnb:nb≤15
  sm:∀ j,j<nb→-10000000000≤w.2 j∧w.2 j≤10000000000
  px:∀ i,i<N→(0≤(pl i).1∧(pl i).1≤4)∧(0≤(pl i).2.1∧(pl i).2.1≤4)
  frc:frcB g nb N pl np w=true
  gr:isGraphF ((N:Int),(nb,g),())=true
  ok:OkBars N nb g
theorem fOk {g:Nat→T_Bar} {nb N:Nat} {pl:Nat→T_Place} {np:Nat} {w:T_IntS} (h:frcB g nb N pl np w=true):FOk g nb N pl np w:=by
  have hv:=h
  unfold frcB at h
  cases hf:fwB g nb N pl np with
  | false=>rw [hf] at h;cases h
  | true =>
    rw [hf] at h
    obtain ⟨h1,h2,h3,h4,h5,_⟩:=fw_parts hf
    obtain ⟨hN,_,hok⟩:=graph_in h1
    have h:smB w (nb:Int)=true:=h
    unfold smB at h
    cases ha:allB (smq w) w.1 with
    | false=>rw [ha] at h;cases h
    | true =>
      rw [ha] at h
      have hl:w.1=nb:=by simp at h;omega
      exact ⟨hf,hl,by omega,by omega,h3,fun j hj=>inB_iff.1 ((all_iff _ _).1 ha j (by omega)),fun i hi=>h5 i (by omega),hv,h1,hok⟩
def ofN (g:Nat→T_Bar) (v k:Nat):Nat:=if (g k).1=v then (g k).2.1.toNat else (g k).1.toNat
theorem fc_b {g:Nat→T_Bar} {nb N:Nat} {pl:Nat→T_Place} {np:Nat} {w:T_IntS} (ok:FOk g nb N pl np w) {v:Nat} (hv:v<N) :
    ∀ k,k≤nb→(-(40000000000*(k:Int))≤fcX g pl w v k∧fcX g pl w v k≤40000000000*(k:Int))∧(-(40000000000*(k:Int))≤fcY g pl w v k∧fcY g pl w v k≤40000000000*(k:Int))
  | 0,_=>⟨⟨by show _≤(0:Int);omega,by show (0:Int)≤_;omega⟩,⟨by show _≤(0:Int);omega,by show (0:Int)≤_;omega⟩⟩
  | k+1,hk=>by
    obtain ⟨a,b⟩:=fc_b ok hv k (by omega)
    have hb:=ok.ok k (by omega)
    have ho:ofN g v k<N:=by unfold ofN;split<;>omega
    have pv:=ok.px v hv
    have po:=ok.px _ ho
    have hw:=ok.sm k (by omega)
    have m1:=Trv.bdm (A:=10000000000) (B:=4) (b:=(pl v).1 - (pl (ofN g v k)).1) ⟨hw.1,hw.2⟩ (by omega)
    have m2:=Trv.bdm (A:=10000000000) (B:=4) (b:=(pl v).2.1 - (pl (ofN g v k)).2.1) ⟨hw.1,hw.2⟩ (by omega)
    unfold ofN at m1 m2
    simp only [fcX,fcY]
    split<;>constructor<;>constructor<;>omega
theorem con_Force_i {g:Nat→T_Bar} {nb N:Nat} {pl:Nat→T_Place} {np:Nat} {w:T_IntS} (ok:FOk g nb N pl np w) {v:Nat} (hv:v<N) :
    zE 382 [frA g nb N pl np,inL w,.p (.int .i64 v)] [] (.tup [.p (.int .i64 (fcX g pl w v nb)),.p (.int .i64 (fcY g pl w v nb))]):=by
  have hnp:=ok.hnp
  have hnb:=ok.hnb
  have hl:=ok.hl
  have hN:=ok.hN
  have ca:=con_areForces g nb N pl np w (by omega) (by omega)
  rw [ok.frc] at ca
  refine csZ Tryz.func382 (fun c hc=>?_)
  have lo:∀ d i,i+d=nb→zR c 382 zf78 (FaI g nb N pl np w v (fcX g pl w v i) (fcY g pl w v i) i) (Post c [] (.tup [.p (.int .i64 (fcX g pl w v nb)),.p (.int .i64 (fcY g pl w v nb))])):=by
    intro d
    induction d with
    | zero =>
      intro i hi
      obtain rfl:i=nb:=by omega
      have hd:decide ((i:Int)<(i:Int))=false:=by simp
      refine pkZ Tryz.func382 hc (fae g i N pl np w v _ _ i) ?_
      and_intros
      all_goals (first | exact zN | (exact hd) | (simp;done))
    | succ d ih =>
      intro i hi
      have hd:decide ((i:Int)<(nb:Int))=true:=decide_eq_true (by omega)
      have hrec:=ih (i+1) (by omega)
      have hb:=ok.ok i (by omega)
      have ch:=con_hasD (g i) v
      have co:=con_other (g i) v
      cases hh:hasB (g i) v with
      | false =>
        rw [hh] at ch
        rw [show fcX g pl w v (i+1)=fcX g pl w v i by simp [fcX,hh],show fcY g pl w v (i+1)=fcY g pl w v i by simp [fcY,hh]] at hrec
        refine pcZ hc (faf g nb N pl np w v _ _ i) ?_ hrec
        and_intros
        all_goals (first | exact zI | (exact hd) | (exact ch) | (intro t ht;simp [All];done) | (simp;done))
      | true =>
        rw [hh] at ch
        have f1:=fc_b ok hv i (by omega)
        have f2:=fc_b ok hv (i+1) (by omega)
        have ho:ofN g v i<N:=by unfold ofN;split<;>omega
        have e:othF (g i) v=(ofN g v i:Int):=by unfold othF ofN;split<;>omega
        rw [e] at co
        have pv:=ok.px v hv
        have po:=ok.px _ ho
        have hw:=ok.sm i (by omega)
        have m1:=Trv.bdm (A:=10000000000) (B:=4) (b:=(pl v).1 - (pl (ofN g v i)).1) ⟨hw.1,hw.2⟩ (by omega)
        have m2:=Trv.bdm (A:=10000000000) (B:=4) (b:=(pl v).2.1 - (pl (ofN g v i)).2.1) ⟨hw.1,hw.2⟩ (by omega)
        have sx:fcX g pl w v i+w.2 i*((pl v).1 - (pl (ofN g v i)).1)=fcX g pl w v (i+1):=by simp [fcX,hh,ofN]
        have sy:fcY g pl w v i+w.2 i*((pl v).2.1 - (pl (ofN g v i)).2.1)=fcY g pl w v (i+1):=by simp [fcY,hh,ofN]
        refine pcD hc (fat g nb N pl np w v _ _ i (ofN g v i) _ _) ?_ hrec
        and_intros
        all_goals (first | exact zI | (exact hd) | (exact ch) | (exact co) | (exact sx) | (exact sy) | (intro t ht;simp [All];done) | (simp;done))
  refine pcZ hc (faz g nb N pl np w v) ?_ (lo nb 0 (by omega))
  and_intros
  all_goals (first | exact zN | (exact ca) | (intro t ht;simp [All];done) | (simp;done))
theorem con_Force_s {g:Nat→T_Bar} {nb N:Nat} {pl:Nat→T_Place} {np:Nat} {w:T_IntS} (ok:FOk g nb N pl np w) {v:Nat} (hv:v<N) :
    zE 380 [frA g nb N pl np,inL w,.p (.int .i64 v)] [] (.tup [.p (.int .i64 (fcX g pl w v nb)),.p (.int .i64 (fcY g pl w v nb))]):=by
  have hnp:=ok.hnp
  have hnb:=ok.hnb
  have hl:=ok.hl
  have hN:=ok.hN
  have ca:=con_l13Vector g nb N pl np w (by omega) (by omega)
  rw [ok.frc] at ca
  refine csZ Tryz.func380 (fun c hc=>?_)
  have lo:∀ d i,i+d=nb→zR c 380 zf79 (FaS g nb N pl np w v (fcX g pl w v i) (fcY g pl w v i) i) (Post c [] (.tup [.p (.int .i64 (fcX g pl w v nb)),.p (.int .i64 (fcY g pl w v nb))])):=by
    intro d
    induction d with
    | zero =>
      intro i hi
      obtain rfl:i=nb:=by omega
      have hd:(bif decide ((i:Int)<(w.1:Int)) then true else false)=false:=by rw [hl,decide_eq_false (Int.lt_irrefl _)];rfl
      refine pkD Tryz.func380 hc (fse g i N pl np w v _ _ i) ?_
      and_intros
      all_goals (first | exact zI | (exact hd) | (intros;exact ca) | (intro h;exact h) | (simp;done))
    | succ d ih =>
      intro i hi
      have hd:(bif decide ((i:Int)<(w.1:Int)) then true else false)=true:=by rw [decide_eq_true (by omega)];rfl
      have hrec:=ih (i+1) (by omega)
      have hb:=ok.ok i (by omega)
      have co:=con_l4Other (g i) v (by omega) (by omega) (by omega)
      cases hh:hasB (g i) v with
      | false =>
        have hh':(bif (g i).1==(v:Int) then true else (g i).2.1==(v:Int))=_:=hh
        rw [show fcX g pl w v (i+1)=fcX g pl w v i by simp [fcX,hh],show fcY g pl w v (i+1)=fcY g pl w v i by simp [fcY,hh]] at hrec
        refine pcD hc (fsf g nb N pl np w v _ _ i) ?_ hrec
        and_intros
        all_goals (first | exact zH | (exact hd) | (exact hh') | (intros;exact ca) | (intro h;exact h) | (intro h;rw [h];rfl) | (intro t ht;simp [All];done) | (simp;done))
      | true =>
        have hh':(bif (g i).1==(v:Int) then true else (g i).2.1==(v:Int))=_:=hh
        have f1:=fc_b ok hv i (by omega)
        have f2:=fc_b ok hv (i+1) (by omega)
        have ho:ofN g v i<N:=by unfold ofN;split<;>omega
        have e:(g i).1+(g i).2.1 - (v:Int)=(ofN g v i:Int):=by
          unfold ofN
          by_cases q:(g i).1=(v:Int)
          · rw [if_pos q];omega
          · rw [if_neg q]
            rw [beq_eq_false_iff_ne.2 q] at hh'
            have:=beq_iff_eq.1 hh'
            omega
        rw [e] at co
        have pv:=ok.px v hv
        have po:=ok.px _ ho
        have hw:=ok.sm i (by omega)
        have m1:=Trv.bdm (A:=10000000000) (B:=4) (b:=(pl v).1 - (pl (ofN g v i)).1) ⟨hw.1,hw.2⟩ (by omega)
        have m2:=Trv.bdm (A:=10000000000) (B:=4) (b:=(pl v).2.1 - (pl (ofN g v i)).2.1) ⟨hw.1,hw.2⟩ (by omega)
        have sx:fcX g pl w v i+w.2 i*((pl v).1 - (pl (ofN g v i)).1)=fcX g pl w v (i+1):=by simp [fcX,hh,ofN]
        have sy:fcY g pl w v i+w.2 i*((pl v).2.1 - (pl (ofN g v i)).2.1)=fcY g pl w v (i+1):=by simp [fcY,hh,ofN]
        refine pcD hc (fst1 g nb N pl np w v _ _ i (ofN g v i) _ _) ?_ hrec
        and_intros
        all_goals (first | exact zH | (exact hd) | (exact hh') | (intros;exact ca) | (intro h;exact h) | (intro h;rw [h];rfl) | (exact co) | (exact sx) | (exact sy) | (intro t ht;simp [All];done) | (simp;done))
  refine pcZ hc (fsz g nb N pl np w v) ?_ (lo nb 0 (by omega))
  and_intros
  all_goals (first | exact zN | (exact ca) | (intro t ht;simp [All];done) | (simp;done))
def zrB (g:Nat→T_Bar) (nb:Nat) (pl:Nat→T_Place) (w:T_IntS) (v:Nat):Bool:=(fcX g pl w v nb==0)&&(fcY g pl w v nb==0)
def strB (g:Nat→T_Bar) (nb:Nat) (N:Int) (pl:Nat→T_Place) (np:Nat) (w:T_IntS):Bool:=frcB g nb N pl np w&&allB (zrB g nb pl w) N.toNat
theorem zr_dec (x y:Int):(bif (x != 0) then true else (y != 0))=!((x==0)&&(y==0)):=by
  cases h:(x==0)<;>cases k:(y==0)<;>simp [bne,h,k]
theorem con_IsStress_i (g:Nat→T_Bar) (nb:Nat) (N:Int) (pl:Nat→T_Place) (np:Nat) (w:T_IntS) (hn:nb≤1048576∧np≤1048576) (hw:w.1≤1048576) :
    zE 347 [frA g nb N pl np,inL w] [] (.p (.bool (strB g nb N pl np w))):=by
  have ca:=con_areForces g nb N pl np w hn hw
  unfold strB
  cases hb:frcB g nb N pl np w with
  | false =>
    rw [hb] at ca
    refine csZ Tryz.func347 (fun c hc=>?_)
    refine pkZ Tryz.func347 hc (isN g nb N pl np w) ?_
    and_intros
    all_goals (first | exact zN | (exact ca) | (simp;done))
  | true =>
    have hf:fwB g nb N pl np=true:=by
      have h:=hb
      unfold frcB at h
      cases q:fwB g nb N pl np with
      | false=>rw [q] at h;cases h
      | true=>rfl
    obtain ⟨n,rfl⟩:=fw_N hf
    have ok:=fOk hb
    rw [hb] at ca
    have hnp:=ok.hnp
    have hN:=ok.hN
    rw [Int.toNat_natCast,Bool.true_and]
    refine csZ Tryz.func347 (fun c hc=>?_)
    have lo:∀ d i,i+d=n→allB (zrB g nb pl w) i=true→zR c 347 zf89 (IsI g nb n pl np w i) (Post c [] (.p (.bool (allB (zrB g nb pl w) n)))):=by
      intro d
      induction d with
      | zero =>
        intro i hi ha
        obtain rfl:i=n:=by omega
        have hd:decide ((i:Int)<(np:Int))=false:=decide_eq_false (by omega)
        rw [ha]
        refine pkZ Tryz.func347 hc (ise g nb i pl np w i) ?_
        and_intros
        all_goals (first | exact zN | (exact hd) | (simp;done))
      | succ d ih =>
        intro i hi ha
        have hd:decide ((i:Int)<(np:Int))=true:=decide_eq_true (by omega)
        have cf:=con_Force_i ok (v:=i) (by omega)
        have hz:=zr_dec (fcX g pl w i nb) (fcY g pl w i nb)
        cases hs:zrB g nb pl w i with
        | true =>
          rw [show ((fcX g pl w i nb==0)&&(fcY g pl w i nb==0))=true from hs] at hz
          refine pcZ hc (ist g nb n pl np w i (fcX g pl w i nb) (fcY g pl w i nb)) ?_ (ih (i+1) (by omega) (by rw [allB,ha,hs];rfl))
          and_intros
          all_goals (first | exact zH | (exact hd) | (exact cf) | (exact hz) | (intro t ht;simp [All];done) | (simp;done))
        | false =>
          rw [show ((fcX g pl w i nb==0)&&(fcY g pl w i nb==0))=false from hs] at hz
          rw [all_no (i:=i) (by omega) hs]
          refine pkZ Tryz.func347 hc (isf g nb n pl np w i (fcX g pl w i nb) (fcY g pl w i nb)) ?_
          and_intros
          all_goals (first | exact zH | (exact hd) | (exact cf) | (exact hz) | (simp;done))
    refine pcZ hc (isz g nb n pl np w) ?_ (lo n 0 (by omega) rfl)
    and_intros
    all_goals (first | exact zN | (exact ca) | (intro t ht;simp [All];done) | (simp;done))
theorem con_IsStress_s (g:Nat→T_Bar) (nb:Nat) (N:Int) (pl:Nat→T_Place) (np:Nat) (w:T_IntS) (hn:nb≤1048576∧np≤1048576) (hw:w.1≤1048576) :
    zE 346 [frA g nb N pl np,inL w] [] (.p (.bool (strB g nb N pl np w))):=by
  have ca:=con_l13Vector g nb N pl np w hn hw
  unfold strB
  cases hb:frcB g nb N pl np w with
  | false =>
    rw [hb] at ca
    refine csZ Tryz.func346 (fun c hc=>?_)
    have hd:(bif decide (((0:Nat):Int)<N) then false else false)=false:=by cases decide (((0:Nat):Int)<N)<;>rfl
    refine pcZ hc (iqz g nb N pl np w) ?_ (pkD Tryz.func346 hc (iqe g nb N pl np w 0 false) ?_)
    ·
      and_intros
      all_goals (first | exact zN | (intro t ht;simp [All];done) | (simp;done))
    ·
      and_intros
      all_goals (first | exact zH | (exact hd) | (exact ca) | (intros;exact ca) | (intro h;exact h) | (simp;done))
  | true =>
    have hf:fwB g nb N pl np=true:=by
      have h:=hb
      unfold frcB at h
      cases q:fwB g nb N pl np with
      | false=>rw [q] at h;cases h
      | true=>rfl
    obtain ⟨n,rfl⟩:=fw_N hf
    have ok:=fOk hb
    rw [hb] at ca
    have hnp:=ok.hnp
    have hN:=ok.hN
    rw [Int.toNat_natCast,Bool.true_and]
    refine csZ Tryz.func346 (fun c hc=>?_)
    have lo:∀ d i,i+d=n→allB (zrB g nb pl w) i=true→zR c 346 zf123 (IsS g nb n pl np w i) (Post c [] (.p (.bool (allB (zrB g nb pl w) n)))):=by
      intro d
      induction d with
      | zero =>
        intro i hi ha
        obtain rfl:i=n:=by omega
        have hd:(bif decide ((i:Int)<(i:Int)) then true else false)=false:=by rw [decide_eq_false (Int.lt_irrefl _)];rfl
        rw [ha]
        refine pkD Tryz.func346 hc (iqe g nb i pl np w i true) ?_
        and_intros
        all_goals (first | exact zI | (exact hd) | (exact ca) | (intros;exact ca) | (intro h;exact h) | (simp;done))
      | succ d ih =>
        intro i hi ha
        have hd:(bif decide ((i:Int)<(n:Int)) then true else false)=true:=by rw [decide_eq_true (by omega)];rfl
        have cf:=con_Force_s ok (v:=i) (by omega)
        have hz:=zr_dec (fcX g pl w i nb) (fcY g pl w i nb)
        cases hs:zrB g nb pl w i with
        | true =>
          rw [show ((fcX g pl w i nb==0)&&(fcY g pl w i nb==0))=true from hs] at hz
          refine pcD hc (iqt g nb n pl np w i (fcX g pl w i nb) (fcY g pl w i nb)) ?_ (ih (i+1) (by omega) (by rw [allB,ha,hs];rfl))
          and_intros
          all_goals (first | exact zH | (exact hd) | (exact ca) | (intros;exact ca) | (intro h;exact h) | (exact cf) | (exact hz) | (intro t ht;simp [All];done) | (simp;done))
        | false =>
          rw [show ((fcX g pl w i nb==0)&&(fcY g pl w i nb==0))=false from hs] at hz
          rw [all_no (i:=i) (by omega) hs]
          refine pkD Tryz.func346 hc (iqf g nb n pl np w i (fcX g pl w i nb) (fcY g pl w i nb)) ?_
          and_intros
          all_goals (first | exact zH | (exact hd) | (exact ca) | (intros;exact ca) | (intro h;exact h) | (exact cf) | (exact hz) | (simp;done))
    refine pcZ hc (iqz g nb n pl np w) ?_ (lo n 0 (by omega) rfl)
    and_intros
    all_goals (first | exact zN | (exact ca) | (intro t ht;simp [All];done) | (simp;done))
def FmI (g:Nat→T_Bar) (nb N:Nat) (pl:Nat→T_Place) (np:Nat) (q:Nat) (W:Nat→Nat→Int) (i:Nat):St :=
  ⟨[.p .any,.pt 3 0 0 0,.p .any,.p .any,.p .any,.p .any,.p .any,.ar 1 1 0 q,.p (.int .i64 q),.p (.int .i64 i)]++List.replicate 10 anyA,[(0,fbx g nb N pl np),(1,ooOb 2 q (cM (2*N) W)),(2,ffOb q (cM (2*N) W))],3⟩
def FmS (g:Nat→T_Bar) (nb N:Nat) (pl:Nat→T_Place) (np:Nat) (q:Nat) (W:Nat→Nat→Int) (i:Nat):St :=
  ⟨[.p .any,.pt 3 0 0 0,.p .any,.p .any,.ar 1 1 0 q,.p (.int .i64 i)]++List.replicate 20 anyA,[(0,fbx g nb N pl np),(1,ooOb 2 q (cM (2*N) W)),(2,ffOb q (cM (2*N) W))],3⟩
theorem fmz (g:Nat→T_Bar) (nb N:Nat) (pl:Nat→T_Place) (np:Nat) (q:Nat) (W:Nat→Nat→Int) :
    zT Tryz.f135 [rg 3,rm [(1,oc [(0,ooOb 1 q (cM (2*N) W)),(1,ffOb q (cM (2*N) W))] (.ar 1 0 0 q))] 2,.head] [frA g nb N pl np] [0,128,129] (FmI g nb N pl np q W 0) =
    some (zf124,[(NT 0 1),zE 237 [(zf56 N nb g np pl)] [(0,⟨false,1,q,(fun i=>[.ar 1 ⟨1,some i⟩ 0 (2*N)])⟩),(1,⟨true,0,q,(fun i=>[.p (.seq false 1 (2*N) (fun i_1=>[.int .i64 ((cM (2*N) W i).2 i_1)]))])⟩)] (.ar 1 0 0 q),(AN 0),(AN 0),(AN q),(AI ((↑q:Int))),((0:Int)=(↑0:Int)),((([AV.p (PV.int IntKind.i64 (↑N:Int)),brL g nb,pcL pl np].length):Nat)=3),(NL 1 1),(NL 1 1),(AI ((↑N:Int))),(AN nb),(AP nb (bRw g)),(AN np),(AP np (bRw pl)),(AN 1),(NL q q),(AA q (fun i=>[.ar 1 ⟨2,some i⟩ 0 (2*N)])),(NL q q),(∀ i:Nat,(((i:Nat)<q)→All [(AN 1),(((2*N):Nat)≤(2*N)),(AP ((2*N)) (fun r=>[.int .i64 ((cM (2*N) W i).2 r)]))]))]):=by kernel_rfl
theorem fmt (g:Nat→T_Bar) (nb N:Nat) (pl:Nat→T_Place) (np:Nat) (q:Nat) (W:Nat→Nat→Int) (i:Nat) :
    zM 0 [rg 1,.dec true,rg 3,rm [(2,oc [] (.p (.bool true)))] 1,.dec false,rg 2,.head] zf124 (FmI g nb N pl np q W i) [0,1,2] 1 (FmI g nb N pl np q W (i+1)) =
    some (zf124,[((decide ((↑i:Int)<(↑q:Int)))=true),(IL 0 (↑i:Int)),(IT (↑i:Int) (↑q:Int)),(NT i q),(NT 0 1),(NT i q),(AN 1),(NL (2*N) (2*N)),zE 208 [(zf50 N nb g np pl),.p (.seq true 1 (2*N) (fun i_1=>[.int .i64 ((cM (2*N) W i).2 i_1)]))] [] (.p (.bool true)),((!true)=false),(ZLo ((↑i:Int)+1)),(ZHi ((↑i:Int)+1)),(AN 0),(AN 0),(AN q),(AI ((↑q:Int))),((((↑i:Int)+1):Int)=(↑(i+1):Int)),(AN 3),(NL 1 1),(NL 1 1),(AI ((↑N:Int))),(AN nb),(AP nb (bRw g)),(AN np),(AP np (bRw pl)),(AN 1),(NL q q),(AA q (fun i_1=>[.ar 1 ⟨2,some i_1⟩ 0 (2*N)])),(NL q q),(∀ i_1:Nat,(((i_1:Nat)<q)→All [(AN 1),(((2*N):Nat)≤(2*N)),(AP ((2*N)) (fun r=>[.int .i64 ((cM (2*N) W i_1).2 r)]))]))]):=by kernel_rfl
theorem fmf (g:Nat→T_Bar) (nb N:Nat) (pl:Nat→T_Place) (np:Nat) (q:Nat) (W:Nat→Nat→Int) (i:Nat) (w:Nat→Int) :
    zP Tryz.f135 0 [rg 1,.dec true,rg 3,rm [(2,oc [] (.p (.bool false)))] 1,.dec true,rg 3] zf124 (FmI g nb N pl np q W i) [.pl ⟨2,some i⟩] 1 [(0,iOb (2*N) w)] (.tup [.ar 1 0 0 (2*N),.p (.bool true)]) =
    some [((decide ((↑i:Int)<(↑q:Int)))=true),(IL 0 (↑i:Int)),(IT (↑i:Int) (↑q:Int)),(NT i q),(NT 0 1),(NT i q),(AN 1),(NL (2*N) (2*N)),zE 208 [(zf50 N nb g np pl),.p (.seq true 1 (2*N) (fun i_1=>[.int .i64 ((cM (2*N) W i).2 i_1)]))] [] (.p (.bool false)),((!false)=true),(AN i),(AN 0),(AN ((2*N))),(true=true),(NT i q),(AN 1),(NL (2*N) (2*N)),(∀ i_1:Nat,(((i_1:Nat)<(2*N))→(All []∧(([.p (.int .i64 ((cM (2*N) W i).2 i_1))]:List AV)=[.p (.int .i64 (w i_1))])))),(AE ((2*N)))]:=by kernel_rfl
theorem fme (g:Nat→T_Bar) (nb N:Nat) (pl:Nat→T_Place) (np:Nat) (q:Nat) (W:Nat→Nat→Int) (i:Nat) (w:Nat→Int) :
    zP Tryz.f135 0 [rg 1,.dec false,rg 3] zf124 (FmI g nb N pl np q W i) [35] 1 [(0,iOb 0 w)] (.tup [.ar 1 0 0 0,.p (.bool false)]) =
    some [((decide ((↑i:Int)<(↑q:Int)))=false),(AN 0),(AN 0),(false=false),(AN 1),(NL 0 0),(∀ i_1:Nat,(((i_1:Nat)<0)→(All []∧(([.p (.int .i64 0)]:List AV)=[.p (.int .i64 (w i_1))])))),(AE 0)]:=by kernel_rfl
theorem fnz (g:Nat→T_Bar) (nb N:Nat) (pl:Nat→T_Place) (np:Nat) (q:Nat) (W:Nat→Nat→Int) :
    zT Tryz.f125 [rg 3,rm [(1,oc [(0,ooOb 1 q (cM (2*N) W)),(1,ffOb q (cM (2*N) W))] (.ar 1 0 0 q))] 1,rg 1,.head] [frA g nb N pl np] [0,128,129] (FmS g nb N pl np q W 0) =
    some (zf90,[(NT 0 1),zE 230 [(zf56 N nb g np pl)] [(0,⟨false,1,q,(fun i=>[.ar 1 ⟨1,some i⟩ 0 (2*N)])⟩),(1,⟨true,0,q,(fun i=>[.p (.seq false 1 (2*N) (fun i_1=>[.int .i64 ((cM (2*N) W i).2 i_1)]))])⟩)] (.ar 1 0 0 q),(AN 0),(AN 0),(AN q),((0:Int)=(↑0:Int)),((([AV.p (PV.int IntKind.i64 (↑N:Int)),brL g nb,pcL pl np].length):Nat)=3),(NL 1 1),(NL 1 1),(AI ((↑N:Int))),(AN nb),(AP nb (bRw g)),(AN np),(AP np (bRw pl)),(AN 1),(NL q q),(AA q (fun i=>[.ar 1 ⟨2,some i⟩ 0 (2*N)])),(NL q q),(∀ i:Nat,(((i:Nat)<q)→All [(AN 1),(((2*N):Nat)≤(2*N)),(AP ((2*N)) (fun r=>[.int .i64 ((cM (2*N) W i).2 r)]))]))]):=by kernel_rfl
theorem fnt (g:Nat→T_Bar) (nb N:Nat) (pl:Nat→T_Place) (np:Nat) (q:Nat) (W:Nat→Nat→Int) (i:Nat) :
    zM 0 [rg 4,.dec true,rm [(5,oc [] (.p (.bool true)))] 1,.dec false,rg 3,.head] zf90 (FmS g nb N pl np q W i) [0,1,2] 1 (FmS g nb N pl np q W (i+1)) =
    some (zf90,[((decide ((↑i:Int)<(↑q:Int)))=true),(NT 0 1),(IL 0 (↑i:Int)),(IT (↑i:Int) (↑q:Int)),(NT i q),(NT i q),(AN 1),(NL (2*N) (2*N)),zE 199 [(zf50 N nb g np pl),.p (.seq true 1 (2*N) (fun i_1=>[.int .i64 ((cM (2*N) W i).2 i_1)]))] [] (.p (.bool true)),((!true)=false),(ZLo ((↑i:Int)+1)),(ZHi ((↑i:Int)+1)),(AN 0),(AN 0),(AN q),((((↑i:Int)+1):Int)=(↑(i+1):Int)),(AN 3),(NL 1 1),(NL 1 1),(AI ((↑N:Int))),(AN nb),(AP nb (bRw g)),(AN np),(AP np (bRw pl)),(AN 1),(NL q q),(AA q (fun i_1=>[.ar 1 ⟨2,some i_1⟩ 0 (2*N)])),(NL q q),(∀ i_1:Nat,(((i_1:Nat)<q)→All [(AN 1),(((2*N):Nat)≤(2*N)),(AP ((2*N)) (fun r=>[.int .i64 ((cM (2*N) W i_1).2 r)]))]))]):=by kernel_rfl
theorem fnf (g:Nat→T_Bar) (nb N:Nat) (pl:Nat→T_Place) (np:Nat) (q:Nat) (W:Nat→Nat→Int) (i:Nat) (w:Nat→Int) :
    zP Tryz.f125 0 [rg 4,.dec true,rm [(5,oc [] (.p (.bool false)))] 1,.dec true,rg 6] zf90 (FmS g nb N pl np q W i) [.pl ⟨2,some i⟩] 1 [(0,iOb (2*N) w)] (.tup [.ar 1 0 0 (2*N),.p (.bool true)]) =
    some (zD [((decide ((↑i:Int)<(↑q:Int)))=true),(NT 0 1),(IL 0 (↑i:Int)),(IT (↑i:Int) (↑q:Int)),(NT i q),(AN 1),(NL (2*N) (2*N)),zE 199 [(zf50 N nb g np pl),.p (.seq true 1 (2*N) (fun i_1=>[.int .i64 ((cM (2*N) W i).2 i_1)]))] [] (.p (.bool false)),((!false)=true),(AN i),(AN 0),(AN ((2*N))),(true=true),(∀ i_1:Nat,(((i_1:Nat)<(2*N))→(All []∧(([.p (.int .i64 ((cM (2*N) W i).2 i_1))]:List AV)=[.p (.int .i64 (w i_1))])))),(AE ((2*N)))] [0,1,2,3,4,4,5,6,7,8,2,3,4,9,10,11,12,4,5,6,13,14]):=by kernel_rfl
theorem fne (g:Nat→T_Bar) (nb N:Nat) (pl:Nat→T_Place) (np:Nat) (q:Nat) (W:Nat→Nat→Int) (i:Nat) (w:Nat→Int) :
    zP Tryz.f125 0 [rg 4,.dec false,rg 3] zf90 (FmS g nb N pl np q W i) [131] 1 [(0,iOb 0 w)] (.tup [.ar 1 0 0 0,.p (.bool false)]) =
    some [((decide ((↑i:Int)<(↑q:Int)))=false),(AN 0),(AN 0),(false=false),(AN 1),(NL 0 0),(∀ i_1:Nat,(((i_1:Nat)<0)→(All []∧(([.p (.int .i64 0)]:List AV)=[.p (.int .i64 (w i_1))])))),(AE 0)]:=by kernel_rfl
def flB (pl:Nat→T_Place) (v:T_IntS) (a b:Nat):Bool :=
  bif ((pl a).1 - (pl 0).1)*((pl b).2.1 - (pl 0).2.1)==((pl a).2.1 - (pl 0).2.1)*((pl b).1 - (pl 0).1) then bif ((pl b).1 - (pl 0).1)*(v.2 (2*a) - v.2 0)+((pl b).2.1 - (pl 0).2.1)*(v.2 (2*a+1) - v.2 1) != ((pl a).1 - (pl 0).1)*(v.2 (2*b) - v.2 0)+((pl a).2.1 - (pl 0).2.1)*(v.2 (2*b+1) - v.2 1) then true else ((pl b).1 - (pl 0).1)*(v.2 (2*a+1) - v.2 1) - ((pl b).2.1 - (pl 0).2.1)*(v.2 (2*a) - v.2 0) != ((pl a).1 - (pl 0).1)*(v.2 (2*b+1) - v.2 1) - ((pl a).2.1 - (pl 0).2.1)*(v.2 (2*b) - v.2 0) else false
def paB (pl:Nat→T_Place) (v:T_IntS) (a b:Nat):Bool :=
  bif chV pl v a b != 0 then true else bif (pl a).1==(pl b).1&&((pl a).2.1==(pl b).2.1&&true) then bif v.2 (2*a) != v.2 (2*b) then true else v.2 (2*a+1) != v.2 (2*b+1) else false
def flP (N:Nat) (pl:Nat→T_Place) (v:T_IntS):Prop:=∀ a,a<N→∀ b,1≤b→b<a→flB pl v a b=false
def paP (N:Nat) (pl:Nat→T_Place) (v:T_IntS):Prop:=∀ a,a<N→∀ b,b<a→paB pl v a b=false
theorem flB_iff {pl:Nat→T_Place} {v:T_IntS} {a b:Nat}:flB pl v a b=false↔(xP pl a*yP pl b=yP pl a*xP pl b→xP pl b*uPm v a+yP pl b*wP v a=xP pl a*uPm v b+yP pl a*wP v b∧xP pl b*wP v a - yP pl b*uPm v a=xP pl a*wP v b - yP pl a*uPm v b):=by
  unfold flB xP yP uPm wP
  generalize ((pl a).1 - (pl 0).1)*((pl b).2.1 - (pl 0).2.1)=e1
  generalize ((pl a).2.1 - (pl 0).2.1)*((pl b).1 - (pl 0).1)=e2
  generalize ((pl b).1 - (pl 0).1)*(v.2 (2*a) - v.2 0)+((pl b).2.1 - (pl 0).2.1)*(v.2 (2*a+1) - v.2 1)=e3
  generalize ((pl a).1 - (pl 0).1)*(v.2 (2*b) - v.2 0)+((pl a).2.1 - (pl 0).2.1)*(v.2 (2*b+1) - v.2 1)=e4
  generalize ((pl b).1 - (pl 0).1)*(v.2 (2*a+1) - v.2 1) - ((pl b).2.1 - (pl 0).2.1)*(v.2 (2*a) - v.2 0)=e5
  generalize ((pl a).1 - (pl 0).1)*(v.2 (2*b+1) - v.2 1) - ((pl a).2.1 - (pl 0).2.1)*(v.2 (2*b) - v.2 0)=e6
  by_cases h1:e1=e2
  · by_cases h2:e3=e4
    · by_cases h3:e5=e6
      · simp [h1,h2,h3]
      · simp [h1,h2,h3]
    · simp [h1,h2]
  · have:(e1==e2)=false:=by simpa using h1
    rw [this]
    simp [h1]
theorem paB_iff {pl:Nat→T_Place} {v:T_IntS} {a b:Nat}:paB pl v a b=false↔(xP pl a - xP pl b)*(uPm v a - uPm v b)+(yP pl a - yP pl b)*(wP v a - wP v b)=0∧(xP pl a=xP pl b→yP pl a=yP pl b→uPm v a=uPm v b∧wP v a=wP v b):=by
  have e:chV pl v a b=(xP pl a - xP pl b)*(uPm v a - uPm v b)+(yP pl a - yP pl b)*(wP v a - wP v b):=by
    unfold chV xP yP uPm wP
    have a1:(pl a).1 - (pl 0).1 - ((pl b).1 - (pl 0).1)=(pl a).1 - (pl b).1:=by omega
    have a2:(pl a).2.1 - (pl 0).2.1 - ((pl b).2.1 - (pl 0).2.1)=(pl a).2.1 - (pl b).2.1:=by omega
    have a3:v.2 (2*a) - v.2 0 - (v.2 (2*b) - v.2 0)=v.2 (2*a) - v.2 (2*b):=by omega
    have a4:v.2 (2*a+1) - v.2 1 - (v.2 (2*b+1) - v.2 1)=v.2 (2*a+1) - v.2 (2*b+1):=by omega
    rw [a1,a2,a3,a4]
  rw [← e]
  unfold paB xP yP uPm wP
  generalize chV pl v a b=x
  have i1:(pl a).1 - (pl 0).1=(pl b).1 - (pl 0).1↔(pl a).1=(pl b).1:=by omega
  have i2:(pl a).2.1 - (pl 0).2.1=(pl b).2.1 - (pl 0).2.1↔(pl a).2.1=(pl b).2.1:=by omega
  have i3:v.2 (2*a) - v.2 0=v.2 (2*b) - v.2 0↔v.2 (2*a)=v.2 (2*b):=by omega
  have i4:v.2 (2*a+1) - v.2 1=v.2 (2*b+1) - v.2 1↔v.2 (2*a+1)=v.2 (2*b+1):=by omega
  rw [i1,i2,i3,i4]
  generalize (pl a).1=c1
  generalize (pl b).1=c2
  generalize (pl a).2.1=c3
  generalize (pl b).2.1=c4
  generalize v.2 (2*a)=c5
  generalize v.2 (2*b)=c6
  generalize v.2 (2*a+1)=c7
  generalize v.2 (2*b+1)=c8
  by_cases h0:x=0
  · by_cases h1:c1=c2
    · by_cases h2:c3=c4
      · by_cases h3:c5=c6
        · by_cases h4:c7=c8
          · simp [h0,h1,h2,h3,h4]
          · simp [h0,h1,h2,h3,h4]
        · simp [h0,h1,h2,h3]
      · simp [h0,h1,h2]
    · simp [h0,h1]
  · simp [h0]
theorem tm_iff {N:Nat} {pl:Nat→T_Place} {v:T_IntS}:tmP N pl v↔paP N pl v∧flP N pl v:=by
  constructor
  · intro h
    exact ⟨fun a ha b hb=>paB_iff.2 ⟨h.ch a b ha hb,h.same a b ha hb⟩,fun a ha b h1 hb=>flB_iff.2 (h.flat a b ha hb h1)⟩
  · rintro ⟨h1,h2⟩
    exact ⟨fun a b ha hb=>(paB_iff.1 (h1 a ha b hb)).1,fun a b ha hb=>(paB_iff.1 (h1 a ha b hb)).2,fun a b ha hb h=>flB_iff.1 (h2 a ha b h hb)⟩
open Classical in
theorem con_Flat12 {g:Nat→T_Bar} {nb N:Nat} {pl:Nat→T_Place} {np:Nat} {v:T_IntS} (ok:VOk g nb N pl np v) :
    zE 301 [frA g nb N pl np,inL v] [] (.p (.bool (decide (flP N pl v)))):=by
  obtain ⟨hf,hl,hN,hnp,hnb,sm,px,hv,hg⟩:=ok
  have p0:=px 0 (by omega)
  have s0:=sm 0 (by omega)
  have s1:=sm 1 (by omega)
  refine csZ Tryz.func301 (fun c hc=>?_)
  have l1:∀ a,a<N→1≤a→(∀ a',a'<a→∀ b,1≤b→b<a'→flB pl v a' b=false) →
      ((∀ b,1≤b→b<a→flB pl v a b=false)→zR c 301 zf121 (TF0 g nb N pl np v (a+1)) (Post c [] (.p (.bool (decide (flP N pl v)))))) →
      ∀ d b,b+d=a→1≤b→(∀ b',1≤b'→b'<b→flB pl v a b'=false)→zR c 301 zf31 (TF1 g nb N pl np v a b) (Post c [] (.p (.bool (decide (flP N pl v))))):=by
    intro a ha ha1 hall hnext d
    induction d with
    | zero =>
      intro b hb hb1 hrow
      obtain rfl:b=a:=by omega
      have hd:decide ((b:Int)<(b:Int))=false:=decide_eq_false (by omega)
      refine pcZ hc (tfd g nb N pl np v b b) ?_ (hnext hrow)
      and_intros
      all_goals (first | exact zN | (exact hd) | (intro t ht;simp [All];done))
    | succ d ih =>
      intro b hb hb1 hrow
      have hd:decide ((b:Int)<(a:Int))=true:=decide_eq_true (by omega)
      have pa:=px a (by omega)
      have pb:=px b (by omega)
      have sa:=sm (2*a) (by omega)
      have ta:=sm (2*a+1) (by omega)
      have sb:=sm (2*b) (by omega)
      have tb:=sm (2*b+1) (by omega)
      have m1:=Trv.bdm (a:=(pl a).1 - (pl 0).1) (b:=(pl b).2.1 - (pl 0).2.1) (A:=4) (B:=4) (by omega) (by omega)
      have m2:=Trv.bdm (a:=(pl a).2.1 - (pl 0).2.1) (b:=(pl b).1 - (pl 0).1) (A:=4) (B:=4) (by omega) (by omega)
      have m3:=Trv.bdm (a:=(pl b).1 - (pl 0).1) (b:=v.2 (2*a) - v.2 0) (A:=4) (B:=20000000000) (by omega) (by omega)
      have m4:=Trv.bdm (a:=(pl b).2.1 - (pl 0).2.1) (b:=v.2 (2*a+1) - v.2 1) (A:=4) (B:=20000000000) (by omega) (by omega)
      have m5:=Trv.bdm (a:=(pl a).1 - (pl 0).1) (b:=v.2 (2*b) - v.2 0) (A:=4) (B:=20000000000) (by omega) (by omega)
      have m6:=Trv.bdm (a:=(pl a).2.1 - (pl 0).2.1) (b:=v.2 (2*b+1) - v.2 1) (A:=4) (B:=20000000000) (by omega) (by omega)
      have m7:=Trv.bdm (a:=(pl b).1 - (pl 0).1) (b:=v.2 (2*a+1) - v.2 1) (A:=4) (B:=20000000000) (by omega) (by omega)
      have m8:=Trv.bdm (a:=(pl b).2.1 - (pl 0).2.1) (b:=v.2 (2*a) - v.2 0) (A:=4) (B:=20000000000) (by omega) (by omega)
      have m9:=Trv.bdm (a:=(pl a).1 - (pl 0).1) (b:=v.2 (2*b+1) - v.2 1) (A:=4) (B:=20000000000) (by omega) (by omega)
      have m0:=Trv.bdm (a:=(pl a).2.1 - (pl 0).2.1) (b:=v.2 (2*b) - v.2 0) (A:=4) (B:=20000000000) (by omega) (by omega)
      cases hq:flB pl v a b with
      | false =>
        have hr:=ih (b+1) (by omega) (by omega) (fun b' h1 h2=>by
          by_cases h:b'=b
          · rw [h];exact hq
          · exact hrow b' h1 (by omega))
        unfold flB at hq
        refine pcD hc (tfb g nb N pl np v a b) ?_ hr
        and_intros
        all_goals (first | exact zH | (exact hd) | (exact hq) | (intro h;exact h) | (intro h;omega) | (intro h;rw [h];rfl) | (intro h;simpa using h) | (intro t ht;simp [All];done))
      | true =>
        rw [show decide (flP N pl v)=false from decide_eq_false (fun h=>by have:=h a ha b hb1 (by omega);rw [hq] at this;cases this)]
        unfold flB at hq
        refine pkD Tryz.func301 hc (tfc g nb N pl np v a b) ?_
        and_intros
        all_goals (first | exact zH | (exact hd) | (exact hq) | (intro h;exact h) | (intro h;omega) | (intro h;rw [h];rfl) | (intro h;simpa using h))
  have l0:∀ d a,a+d=N→1≤a→(∀ a',a'<a→∀ b,1≤b→b<a'→flB pl v a' b=false)→zR c 301 zf121 (TF0 g nb N pl np v a) (Post c [] (.p (.bool (decide (flP N pl v))))):=by
    intro d
    induction d with
    | zero =>
      intro a ha h1 hall
      obtain rfl:a=N:=by omega
      have hd:decide ((a:Int)<(a:Int))=false:=decide_eq_false (by omega)
      rw [decide_eq_true (show flP a pl v from hall)]
      refine pkZ Tryz.func301 hc (tfe g nb a pl np v a) ?_
      and_intros
      all_goals (first | exact zN | (exact hd))
    | succ d ih =>
      intro a ha h1 hall
      have hd:decide ((a:Int)<(N:Int))=true:=decide_eq_true (by omega)
      have hr:=l1 a (by omega) h1 hall (fun hrow=>ih (a+1) (by omega) (by omega) (fun a' h2=>by
        by_cases h:a'=a
        · rw [h];exact hrow
        · exact hall a' (by omega))) (a - 1) 1 (by omega) (Nat.le_refl _) (fun b' h2 h3=>absurd h3 (by omega))
      refine pcZ hc (tfa g nb N pl np v a) ?_ hr
      and_intros
      all_goals (first | exact zN | (exact hd) | (intro t ht;simp [All];done))
  refine pcZ hc (tfz g nb N pl np v) ?_ (l0 (N - 1) 1 (by omega) (Nat.le_refl _) (fun a' h1 b h2 h3=>absurd h3 (by omega)))
  and_intros
  all_goals (first | exact zN | (intro t ht;simp [All];done))
open Classical in
theorem con_Trivial12 (g:Nat→T_Bar) (nb:Nat) (N:Int) (pl:Nat→T_Place) (np:Nat) (v:T_IntS) (hn:nb≤1048576∧np≤1048576) (hv:v.1≤1048576) :
    zE 199 [frA g nb N pl np,inL v] [] (.p (.bool (tmB g nb N pl np v))):=by
  have cv:=con_Vector g nb N pl np v hn hv
  cases hb:velB g nb N pl np v with
  | false =>
    rw [hb] at cv
    rw [tmB_n hb]
    refine csZ Tryz.func199 (fun c hc=>?_)
    have hd:(bif decide (((0:Nat):Int)<N) then false else false)=false:=by cases decide (((0:Nat):Int)<N)<;>rfl
    refine pcZ hc (tsz g nb N pl np v) ?_ (pkD Tryz.func199 hc (tse g nb N pl np v 0 false false) ?_)
    ·
      and_intros
      all_goals (first | exact zN | (intro t ht;simp [All];done))
    ·
      and_intros
      all_goals (first | exact zH | (exact hd) | (intro _;exact cv) | (exact cv) | (intro h;exact h) | (intro h;cases h) | rfl)
  | true =>
    rw [hb] at cv
    obtain ⟨n,rfl⟩:∃ n:Nat,N=n:=by
      have hb':=hb
      unfold velB at hb'
      cases hf:fwB g nb N pl np with
      | false=>rw [hf] at hb';cases hb'
      | true=>exact fw_N hf
    have ok:=vOk hb
    have cfl:=con_Flat12 ok
    have cch:=fun a b (ha:a<n) (hb:b<n)=>(con_Change ok ha hb).2
    obtain ⟨hf,hl,hN,hnp,hnb,sm,px,hv',hg⟩:=ok
    refine csZ Tryz.func199 (fun c hc=>?_)
    have l1:∀ a,a<n→(∀ a',a'<a→∀ b,b<a'→paB pl v a' b=false) →
        ((∀ b,b<a→paB pl v a b=false)→zR c 199 zf120 (TS0 g nb n pl np v (a+1:Nat)) (Post c [] (.p (.bool (tmB g nb n pl np v))))) →
        ∀ d b,b+d=a→(∀ b',b'<b→paB pl v a b'=false)→zR c 199 zf30 (TS1 g nb n pl np v a b) (Post c [] (.p (.bool (tmB g nb n pl np v)))):=by
      intro a ha hall hnext d
      induction d with
      | zero =>
        intro b hb hrow
        obtain rfl:b=a:=by omega
        have hd:decide ((b:Int)<(b:Int))=false:=decide_eq_false (by omega)
        refine pcZ hc (tsd g nb n pl np v b b) ?_ (hnext hrow)
        and_intros
        all_goals (first | exact zN | (exact hd) | (intro t ht;simp [All];done))
      | succ d ih =>
        intro b hb hrow
        have hd:decide ((b:Int)<(a:Int))=true:=decide_eq_true (by omega)
        have cx:=cch a b ha (by omega)
        cases hq:paB pl v a b with
        | false =>
          have hr:=ih (b+1) (by omega) (fun b' h2=>by
            by_cases h:b'=b
            · rw [h];exact hq
            · exact hrow b' (by omega))
          unfold paB at hq
          refine pcD hc (tsb g nb n pl np v a b (chV pl v a b)) ?_ hr
          and_intros
          all_goals (first | exact zH | (exact hd) | (exact cx) | (exact hq) | (intro h;exact h) | (intro h;omega) | (intro h;rw [h];rfl) | (intro h;simpa using h) | (intro t ht;simp [All];done))
        | true =>
          rw [tmB_f (fun h=>by have:=(tm_iff.1 h).1 a ha b (by omega);rw [hq] at this;cases this)]
          unfold paB at hq
          refine pkD Tryz.func199 hc (tsc g nb n pl np v a b (chV pl v a b)) ?_
          and_intros
          all_goals (first | exact zH | (exact hd) | (exact cx) | (exact hq) | (intro h;exact h) | (intro h;omega) | (intro h;rw [h];rfl) | (intro h;simpa using h))
    have l0:∀ d a,a+d=n→(∀ a',a'<a→∀ b,b<a'→paB pl v a' b=false)→zR c 199 zf120 (TS0 g nb n pl np v a) (Post c [] (.p (.bool (tmB g nb n pl np v)))):=by
      intro d
      induction d with
      | zero =>
        intro a ha hall
        obtain rfl:a=n:=by omega
        have hd:(bif decide ((a:Int)<(a:Int)) then true else false)=false:=by simp
        rw [show tmB g nb a pl np v=(bif true then (decide (flP a pl v)) else false) by
          show _=(decide (flP a pl v))
          by_cases h:flP a pl v
          · rw [tmB_t hb (tm_iff.2 ⟨hall,h⟩)];exact (decide_eq_true h).symm
          · rw [tmB_f (fun h'=>h (tm_iff.1 h').2)];exact (decide_eq_false h).symm]
        refine pkD Tryz.func199 hc (tse g nb a pl np v a true _) ?_
        and_intros
        all_goals (first | exact zI | (exact hd) | (intro _;exact cv) | (exact cv) | (intro _;exact cfl) | (intro h;exact h) | rfl)
      | succ d ih =>
        intro a ha hall
        have hd:(bif decide ((a:Int)<(n:Int)) then true else false)=true:=by rw [decide_eq_true (show (a:Int)<(n:Int) by omega)];rfl
        have hr:=l1 a (by omega) hall (fun hrow=>ih (a+1) (by omega) (fun a' h2=>by
          by_cases h:a'=a
          · rw [h];exact hrow
          · exact hall a' (by omega))) a 0 (by omega) (fun b' h3=>absurd h3 (Nat.not_lt_zero _))
        refine pcD hc (tsa g nb n pl np v a) ?_ hr
        and_intros
        all_goals (first | exact zI | (exact hd) | (intro _;exact cv) | (intro h;exact h) | (intro t ht;simp [All];done))
    refine pcZ hc (tsz g nb n pl np v) ?_ (l0 n 0 (by omega) (fun a' h1=>absurd h1 (Nat.not_lt_zero _)))
    and_intros
    all_goals (first | exact zN | (intro t ht;simp [All];done))
def kdP (w:T_IntS) (i:Nat):Bool:=inB (w.2 i) 0 2
def tsB (g:Nat→T_Bar) (nb:Nat) (N:Int) (pl:Nat→T_Place) (np:Nat) (w:T_IntS):Bool:=allB (kdP w) w.1&&(bif fwB g nb N pl np then (w.1:Int)==(nb:Int) else false)
theorem con_IsTensegrity_i (g:Nat→T_Bar) (nb:Nat) (N:Int) (pl:Nat→T_Place) (np:Nat) (w:T_IntS) (hn:nb≤1048576∧np≤1048576) (hw:w.1≤1048576):zE 151 [tsA g nb N pl np w] [] (.p (.bool (tsB g nb N pl np w))):=by
  have hf:=con_IsFramework_i g nb N pl np hn
  refine csZ Tryz.func151 (fun c hc=>?_)
  have lo:∀ d i,i+d=w.1→allB (kdP w) i=true→zR c 151 zf115 (FT0 g nb N pl np w i) (Post c [] (.p (.bool (tsB g nb N pl np w)))):=by
    intro d
    induction d with
    | zero =>
      intro i hi h1
      obtain rfl:i=w.1:=by omega
      have hd:decide ((w.1:Int)<(w.1:Int))=false:=by simp
      rw [show tsB g nb N pl np w=(bif fwB g nb N pl np then (w.1:Int)==(nb:Int) else false) by unfold tsB;rw [h1];rfl]
      refine pkD Tryz.func151 hc (yTe g nb N pl np w w.1 (fwB g nb N pl np)) ?_
      and_intros
      all_goals (first | exact zI | (exact hd) | (exact hf) | rfl)
    | succ d ih =>
      intro i hi h1
      have hd:decide ((i:Int)<(w.1:Int))=true:=decide_eq_true (by omega)
      have hp:=con_within (w.2 i) 0 2
      change Con _ _ _ _ _ _ (.p (.bool (kdP w i))) at hp
      cases hb:kdP w i with
      | true =>
        rw [hb] at hp
        refine pcD hc (yTt g nb N pl np w i) ?_ (ih (i+1) (by omega) (by rw [allB,h1,hb];rfl))
        and_intros
        all_goals (first | exact zN | (exact hd) | (exact hp) | rfl | (simp;done) | (simp;omega))
      | false =>
        rw [hb] at hp
        rw [show tsB g nb N pl np w=false by unfold tsB;rw [all_no (show i<w.1 by omega) hb];rfl]
        refine pkZ Tryz.func151 hc (yTx g nb N pl np w i) ?_
        and_intros
        all_goals (first | exact zN | (exact hd) | (exact hp) | rfl | (simp;done) | (simp;omega))
  refine pcD hc (yTz g nb N pl np w) ?_ (lo w.1 0 (by omega) rfl)
  and_intros
  all_goals (first | exact zN | (simp;done))
theorem con_IsTensegrity_s (g:Nat→T_Bar) (nb:Nat) (N:Int) (pl:Nat→T_Place) (np:Nat) (w:T_IntS) (hn:nb≤1048576∧np≤1048576) (hw:w.1≤1048576):zE 147 [tsA g nb N pl np w] [] (.p (.bool (tsB g nb N pl np w))):=by
  have hf:=con_IsFramework_s g nb N pl np hn
  refine csZ Tryz.func147 (fun c hc=>?_)
  have lo:∀ d i,i+d=w.1→allB (kdP w) i=true→zR c 147 zf116 (FU0 g nb N pl np w i) (Post c [] (.p (.bool (tsB g nb N pl np w)))):=by
    intro d
    induction d with
    | zero =>
      intro i hi h1
      obtain rfl:i=w.1:=by omega
      have hd:decide ((w.1:Int)<(w.1:Int))=false:=by simp
      rw [show tsB g nb N pl np w=(bif fwB g nb N pl np then (w.1:Int)==(nb:Int) else false) by unfold tsB;rw [h1];rfl]
      refine pkD Tryz.func147 hc (zTe g nb N pl np w w.1 (fwB g nb N pl np)) ?_
      and_intros
      all_goals (first | exact zI | (exact hd) | (exact hf) | rfl)
    | succ d ih =>
      intro i hi h1
      have hd:decide ((i:Int)<(w.1:Int))=true:=decide_eq_true (by omega)
      have hp:=con_l1In (w.2 i) 0 2
      change Con _ _ _ _ _ _ (.p (.bool (kdP w i))) at hp
      cases hb:kdP w i with
      | true =>
        rw [hb] at hp
        refine pcD hc (zTt g nb N pl np w i) ?_ (ih (i+1) (by omega) (by rw [allB,h1,hb];rfl))
        and_intros
        all_goals (first | exact zN | (exact hd) | (exact hp) | rfl | (simp;done) | (simp;omega))
      | false =>
        rw [hb] at hp
        rw [show tsB g nb N pl np w=false by unfold tsB;rw [all_no (show i<w.1 by omega) hb];rfl]
        refine pkZ Tryz.func147 hc (zTx g nb N pl np w i) ?_
        and_intros
        all_goals (first | exact zN | (exact hd) | (exact hp) | rfl | (simp;done) | (simp;omega))
  refine pcD hc (zTz g nb N pl np w) ?_ (lo w.1 0 (by omega) rfl)
  and_intros
  all_goals (first | exact zN | (simp;done))
end Go.Proofs.YtkkjoghiigiokaaGreat.Mach
