/- What the law Rr needs, part 5 of 5: the abstract machine and the contracts of the functions. Conditions: as each theorem says. -/
import Derived.Test.YtkepkjbofchckaaGreatRrP4
namespace Go.Proofs.YtkepkjbofchckaaGreat.Mach
open Go Go.Sort
set_option linter.unusedVariables false
set_option linter.unusedSimpArgs false
def LB (v:T_Graph):List T_Bar:=lstB v.2.1.1 v.2.1.2
theorem lst_at (l:List T_Bar):lstB l.length (fun i=>l.getD i (0,0,()))=l:=by
  refine List.ext_getElem? (fun i=>?_)
  rcases Nat.lt_or_ge i l.length with hi | hi
  · simp [lstB,hi,List.getD_eq_getElem?_getD]
  · simp [lstB,hi]
theorem lst_srt (n:Nat) (h:Nat→T_Bar):lstB n (srtB n h)=srtL (lstB n h):=by
  have e:=lst_at (srtL (lstB n h))
  rw [srtL_len,lstB_len] at e
  exact e
theorem lst_snoc (n:Nat) (h:Nat→T_Bar) (x:T_Bar):lstB (n+1) (snoc n h x)=lstB n h++[x]:=by
  unfold lstB
  rw [List.range_succ,List.map_append]
  congr 1
  · exact List.map_congr_left (fun i hi=>snoc_lt (List.mem_range.1 hi))
  · simp [snoc_ge (Nat.lt_irrefl n)]
theorem LB_add {v:T_Graph} {a b:Int} (h:abB v a b=true):(LB (abG v a b)).Perm (LB v++[brX a b]):=by
  have e:abG v a b=(v.1,(v.2.1.1+1,srtB (v.2.1.1+1) (snoc v.2.1.1 v.2.1.2 (brX a b))),()):=by simp [abG,h]
  rw [e]
  show (lstB (v.2.1.1+1) (srtB (v.2.1.1+1) (snoc v.2.1.1 v.2.1.2 (brX a b)))).Perm _
  rw [lst_srt,lst_snoc]
  exact srtL_perm _
theorem LB_mem (v:T_Graph) (y:T_Bar):y∈LB v↔∃ i,i<v.2.1.1∧v.2.1.2 i=y:=by
  unfold LB lstB
  simp [List.mem_map]
theorem LB_len (v:T_Graph):(LB v).length=v.2.1.1:=lstB_len _ _
theorem isG_lst {N:Nat} {v:T_Graph} (hN:1≤N∧N≤8) (h1:v.1=N) (hn:v.2.1.1≤24) (hs:(LB v).Pairwise leB) (hx:∀ x∈LB v,0≤x.1∧x.1<x.2.1∧x.2.1<N):isGraphF v=true:=by
  obtain ⟨v1,⟨n,R⟩,⟨⟩⟩:=v
  have h1:v1=(N:Int):=h1
  subst h1
  have hget:∀ e,(he:e<n)→R e=(LB ((N:Int),(n,R),()))[e]'(by rw [LB_len];exact he):=fun e he=>by simp [LB,lstB]
  refine isG_of hN hn (fun e he=>hx _ ((LB_mem _ _).2 ⟨e,he,rfl⟩)) (fun s hs'=>?_)
  have:=List.pairwise_iff_getElem.1 hs s (s+1) (by rw [LB_len];show s<n;omega) (by rw [LB_len];exact hs') (by omega)
  rw [aft_iff,hget s (by omega),hget (s+1) hs']
  exact this
theorem isG_srt {v:T_Graph} (h:isGraphF v=true):(LB v).Pairwise leB:=by
  have hg:=graph_inR h
  refine List.pairwise_iff_getElem.2 (fun i j hi hj hij=>?_)
  have key:∀ d i,i+d<v.2.1.1→leB (v.2.1.2 i) (v.2.1.2 (i+d)):=by
    intro d
    induction d with
    | zero=>intro i hi;rw [leB_iff];right;exact ⟨rfl,Int.le_refl _⟩
    | succ d ih =>
      intro i hi
      have h1:=ih i (by omega)
      have h2:=(goodB_at hg.2.2.2 (i+(d+1)) hi).2.2.2 (by omega)
      rw [show i+(d+1) - 1=i+d by omega] at h2
      rw [leB_iff] at h1 h2 ⊢
      omega
  have hj':j<v.2.1.1:=by rwa [LB_len] at hj
  have:=key (j - i) i (by omega)
  rw [show i+(j - i)=j by omega] at this
  simpa [LB,lstB] using this
theorem isG_bar {v:T_Graph} (h:isGraphF v=true):∀ x∈LB v,0≤x.1∧x.1<x.2.1∧x.2.1<v.1:=by
  intro x hx
  obtain ⟨i,hi,rfl⟩:=(LB_mem _ _).1 hx
  have:=goodB_at (graph_inR h).2.2.2 i hi
  exact ⟨this.1,this.2.1,this.2.2.1⟩
theorem ab_isG {v:T_Graph} {a b:Int} (h:abB v a b=true):isGraphF (abG v a b)=true:=by
  obtain ⟨hg,ha,hb,hab,hn⟩:=abB_in h
  have g:=graph_inR hg
  have e:abG v a b=(v.1,(v.2.1.1+1,srtB (v.2.1.1+1) (snoc v.2.1.1 v.2.1.2 (brX a b))),()):=by simp [abG,h]
  have hx:=brX_ok (N:=v.1.toNat) (a:=a) (b:=b) (by omega) (by omega) hab
  have hp:=LB_add h
  refine isG_lst (N:=v.1.toNat) (by omega) ?_ ?_ ?_ (fun x hx'=>?_)
  · rw [e];show v.1=_;omega
  · rw [e];show v.2.1.1+1≤24;omega
  · rw [e]
    show (lstB (v.2.1.1+1) (srtB (v.2.1.1+1) (snoc v.2.1.1 v.2.1.2 (brX a b)))).Pairwise leB
    rw [lst_srt]
    exact srtL_sorted _
  · rcases List.mem_append.1 (hp.mem_iff.1 hx') with h1 | h1
    · have:=isG_bar hg x h1;omega
    · rw [List.mem_singleton.1 h1];exact hx
theorem dbl_iff {g:Nat→T_Bar}:∀ n,dblB g n=false↔∀ k,1≤k→k<n→g (k - 1)≠g k
  | 0=>by simp [dblB]
  | n+1=>by
    have ih:=dbl_iff (g:=g) n
    have hq:∀ a b:T_Bar,q1_BarS a b=true↔a=b:=by
      rintro ⟨a1,a2,⟨⟩⟩ ⟨b1,b2,⟨⟩⟩
      simp [q1_BarS]
    simp only [dblB,Bool.or_eq_false_iff,ih]
    constructor
    · rintro ⟨h1,h2⟩ k k1 k2
      by_cases e:k=n
      · subst e
        intro he
        rw [decide_eq_true k1,Bool.true_and,show ((k:Int) - 1).toNat=k - 1 by omega,(hq _ _).2 he] at h2
        cases h2
      · exact h1 k k1 (by omega)
    · intro h
      refine ⟨fun k k1 k2=>h k k1 (by omega),?_⟩
      by_cases h1:1≤n
      · rw [decide_eq_true h1,Bool.true_and,show ((n:Int) - 1).toNat=n - 1 by omega]
        cases hc:q1_BarS (g (n - 1)) (g n) with
        | false=>rfl
        | true=>exact absurd ((hq _ _).1 hc) (h n h1 (by omega))
      · rw [decide_eq_false h1];rfl
theorem simple_iff {v:T_Graph} (h:isGraphF v=true):simpleF v=true↔(LB v).Nodup:=by
  have hs:=isG_srt h
  have e:simpleF v=true↔∀ k,1≤k→k<v.2.1.1→v.2.1.2 (k - 1)≠v.2.1.2 k:=by
    rw [← dbl_iff]
    simp [simpleF,h]
  rw [e]
  have hget:∀ i,(hi:i<v.2.1.1)→(LB v)[i]'(by rw [LB_len];exact hi)=v.2.1.2 i:=fun i hi=>by simp [LB,lstB]
  constructor
  · intro hk
    refine List.pairwise_iff_getElem.2 (fun i j hi hj hij=>?_)
    rw [LB_len] at hi hj
    rw [hget i hi,hget j hj]
    intro he
    have h1:=List.pairwise_iff_getElem.1 hs
    have l1:i+1=j∨leB (v.2.1.2 (i+1)) (v.2.1.2 j):=by
      by_cases e:i+1=j
      · exact .inl e
      · right
        have:=h1 (i+1) j (by rw [LB_len];omega) (by rw [LB_len];omega) (by omega)
        rw [hget _ (by omega),hget _ hj] at this
        exact this
    have l2:=h1 i (i+1) (by rw [LB_len];omega) (by rw [LB_len];omega) (by omega)
    rw [hget _ hi,hget _ (by omega)] at l2
    have l3:=hk (i+1) (by omega) (by omega)
    rw [show i+1 - 1=i by omega] at l3
    rcases l1 with e | l1
    · subst e;exact l3 he
    · rw [← he] at l1
      exact l3 (leB_antisymm _ _ l2 l1)
  · intro hn k k1 k2 he
    have:=List.pairwise_iff_getElem.1 hn (k - 1) k (by rw [LB_len];omega) (by rw [LB_len];omega) (by omega)
    rw [hget _ (by omega),hget _ k2] at this
    exact this he
theorem free_iff {p:T_IntS} {g:Nat→T_Bar}:∀ n,freeP p g n=true↔∀ i,i<n→bothP p (g i)=false
  | 0=>by simp [freeP]
  | n+1=>by
    have ih:=free_iff (p:=p) (g:=g) n
    simp only [freeP,Bool.and_eq_true,ih,Bool.not_eq_true']
    constructor
    · rintro ⟨h1,h2⟩ i hi
      by_cases e:i=n
      · subst e;exact h2
      · exact h1 i (by omega)
    · intro h
      exact ⟨fun i hi=>h i (by omega),h n (by omega)⟩
theorem pin_iff (v:T_Graph) (u:T_IntS×Unit):pinnedF (v,u)=true↔goodP v.1 u.1.2 u.1.1=true∧(∀ x∈LB v,bothP u.1 x=false)∧isGraphF v=true∧(LB v).Nodup∧2≤u.1.1∧v.2.1.1≤15∧v.2.1.1+2*u.1.1≤27:=by
  have e1:freeP u.1 v.2.1.2 v.2.1.1=true↔∀ x∈LB v,bothP u.1 x=false:=by
    rw [free_iff]
    constructor
    · intro h x hx
      obtain ⟨i,hi,rfl⟩:=(LB_mem _ _).1 hx
      exact h i hi
    · intro h i hi
      exact h _ ((LB_mem _ _).2 ⟨i,hi,rfl⟩)
  have e2:tailP (v,u)=true↔simpleF v=true∧2≤u.1.1∧v.2.1.1≤15∧v.2.1.1+2*u.1.1≤27:=by
    unfold tailP
    show (bif bif bif simpleF v then decide ((u.1.1:Int)≥2) else false then decide ((v.2.1.1:Int)≤15) else false then decide ((v.2.1.1:Int)+2*(u.1.1:Int) - 3≤24) else false)=true↔_
    have ea:decide ((u.1.1:Int)≥2)=decide (2≤u.1.1):=by congr 1;apply propext;omega
    have eb:decide ((v.2.1.1:Int)≤15)=decide (v.2.1.1≤15):=by congr 1;apply propext;omega
    have ec:decide ((v.2.1.1:Int)+2*(u.1.1:Int) - 3≤24)=decide (v.2.1.1+2*u.1.1≤27):=by congr 1;apply propext;omega
    rw [ea,eb,ec]
    cases simpleF v<;>simp only [cond_true,cond_false,Bool.false_eq_true,false_and,true_and,iff_self]
    by_cases h1:2≤u.1.1<;>by_cases h2:v.2.1.1≤15<;>by_cases h3:v.2.1.1+2*u.1.1≤27<;>simp [h1,h2,h3]
  show (goodP v.1 u.1.2 u.1.1&&(freeP u.1 v.2.1.2 v.2.1.1&&tailP (v,u)))=true↔_
  rw [Bool.and_eq_true,Bool.and_eq_true,e1,e2]
  constructor
  · rintro ⟨h1,h2,h3,h4⟩
    have hg:isGraphF v=true:=by simp only [simpleF,Bool.and_eq_true] at h3;exact h3.2
    exact ⟨h1,h2,hg,(simple_iff hg).1 h3,h4⟩
  · rintro ⟨h1,h2,h3,h4,h5⟩
    exact ⟨h1,h2,(simple_iff h3).2 h4,h5⟩
theorem rk_set {N:Nat} {L M:List (Nat×Nat)} (hL:∀ x∈L,Mat.GoodBar N x) (h:∀ x,x∈L↔x∈M):Mat.rk N L=Mat.rk N M:=Mat.rank_same L M hL h
theorem imp_app {N:Nat} {L M:List (Nat×Nat)} {a b:Nat} (h:Mat.Imp N (Mat.greedy N 2 3 [] L) a b):Mat.Imp N (Mat.greedy N 2 3 [] (L++M)) a b:=by
  obtain ⟨R,t,r1,r2⟩:=h
  rw [Mat.greedy_append]
  obtain ⟨x,hx,_⟩:=Mat.greedy_pre N 2 3 M (Mat.greedy N 2 3 [] L)
  have hs:=Mat.greedy_sparse N 2 3 M _ (Mat.greedy_sparse N 2 3 L [] (Mat.sparse_nil N 2 3))
  rw [hx] at hs ⊢
  exact ⟨R,Mat.tight_pre hs t,r1,r2⟩
theorem rk_skip {N:Nat} {L M:List (Nat×Nat)} (h:∀ x∈M,Mat.Imp N (Mat.greedy N 2 3 [] L) x.1 x.2):Mat.rk N (L++M)=Mat.rk N L:=by
  unfold Mat.rk
  rw [Mat.greedy_append,Mat.greedy_skip M (fun x hx=>by
    obtain ⟨R,t,r1,r2⟩:=h x hx
    exact ⟨R,t,by simp [Mat.inn,r1,r2]⟩)]
def gdL (p:T_Pinned) (l:List T_Bar):List (Nat×Nat):=bL (hlS p).2 (hlS p).1++l.map brN
theorem gd_good {p:T_Pinned} (h:PinOk p) {l:List T_Bar} (hl:∀ x∈l,0≤x.1∧x.1<x.2.1∧x.2.1<p.1.1):∀ x∈gdL p l,Mat.GoodBar p.1.1.toNat x:=by
  intro x hx
  rcases List.mem_append.1 hx with h1 | h1
  · exact bL_good h.okHS x h1
  · obtain ⟨y,hy,rfl⟩:=List.mem_map.1 h1
    have:=hl y hy
    simp only [Mat.GoodBar,brN]
    omega
theorem prG_list {p:T_Pinned} (hp:pinnedF p=true):prG p=(Mat.rk p.1.1.toNat (gdL p (LB p.1)):Int) - (Mat.rk p.1.1.toNat (bL (hlS p).2 (hlS p).1):Int):=by
  have h:=pin_ok hp
  unfold prG
  rw [if_pos hp,rkN_rk,rkN_rk]
  have e:Mat.rk p.1.1.toNat (bL (alS p).2 (alS p).1)=Mat.rk p.1.1.toNat (gdL p (LB p.1)):=by
    refine rk_set (bL_good h.okAS) (fun x=>?_)
    rw [bL_in]
    unfold gdL
    rw [List.mem_append,bL_in]
    constructor
    · rintro ⟨y,hy,rfl⟩
      rw [alS,aS_mem] at hy
      rcases hy with hy | ⟨i,h1,rfl⟩
      · exact .inl ⟨y,hy,rfl⟩
      · exact .inr (List.mem_map.2 ⟨_,(LB_mem _ _).2 ⟨i,h1,rfl⟩,rfl⟩)
    · rintro (⟨y,hy,rfl⟩ | h1)
      · exact ⟨y,by rw [alS,aS_mem];exact .inl hy,rfl⟩
      · obtain ⟨y,hy,rfl⟩:=List.mem_map.1 h1
        obtain ⟨i,h2,rfl⟩:=(LB_mem _ _).1 hy
        exact ⟨_,by rw [alS,aS_mem];exact .inr ⟨i,h2,rfl⟩,rfl⟩
  rw [e]
def sxL (l:Nat→T_Bar) (k:Nat):List T_Bar:=(List.range k).map (fun i=>brX (l i).1 (l i).2.1)
theorem sxL_succ (l:Nat→T_Bar) (k:Nat):sxL l (k+1)=sxL l k++[brX (l k).1 (l k).2.1]:=by simp [sxL,List.range_succ]
theorem sxL_pre (l:Nat→T_Bar):∀ {k n:Nat},k≤n→List.Sublist (sxL l k) (sxL l n)
  | k,0,h=>by
    obtain rfl:k=0:=by omega
    exact List.Sublist.refl _
  | k,n+1,h=>by
    by_cases e:k=n+1
    · subst e;exact List.Sublist.refl _
    · rw [sxL_succ]
      exact (sxL_pre l (show k≤n by omega)).trans (List.sublist_append_left _ _)
theorem arI_all {v:T_Graph} {l:T_BarS} (hv:isGraphF v=true):∀ n,(arI v l n).1=true→isGraphF (arI v l n).2=true∧(arI v l n).2.1=v.1∧(LB (arI v l n).2).Perm (LB v++sxL l.2 n) ∧
    ∀ i,i<n→(0≤(l.2 i).1∧(l.2 i).1<v.1)∧(0≤(l.2 i).2.1∧(l.2 i).2.1<v.1)∧(l.2 i).1≠(l.2 i).2.1
  | 0,_=>⟨hv,rfl,by simp [arI,sxL],fun i hi=>absurd hi (Nat.not_lt_zero _)⟩
  | n+1,h=>by
    simp only [arI,Bool.and_eq_true] at h
    obtain ⟨i1,i2,i3,i4⟩:=arI_all hv n h.1
    obtain ⟨_,ha,hb,hab,hn⟩:=abB_in h.2
    rw [i2] at ha hb
    refine ⟨ab_isG h.2,?_,?_,fun i hi=>?_⟩
    · show (abG _ _ _).1=_
      unfold abG
      split<;>exact i2
    · refine (LB_add h.2).trans ?_
      rw [sxL_succ,← List.append_assoc]
      exact i3.append_right _
    · by_cases e:i=n
      · subst e;exact ⟨ha,hb,hab⟩
      · exact i4 i (by omega)
noncomputable def tkL (p:T_Pinned) (s:Nat→T_Bar):Nat→List T_Bar
  | 0=>[]
  | k+1=>if adT (adD p s k).1 (s k)=true then tkL p s k++[brX (s k).1 (s k).2.1] else tkL p s k
theorem tk_sub (p:T_Pinned) (s:Nat→T_Bar):∀ k,List.Sublist (tkL p s k) (sxL s k)
  | 0=>List.Sublist.refl _
  | k+1=>by
    have ih:=tk_sub p s k
    simp only [tkL]
    rw [sxL_succ]
    split
    · exact ih.append_right _
    · exact ih.trans (List.sublist_append_left _ _)
theorem ad_two (p:T_Pinned) (s:Nat→T_Bar):∀ k,(adD p s k).1.1.1=p.1.1∧(adD p s k).1.2=p.2
  | 0=>⟨rfl,rfl⟩
  | k+1=>by
    have ih:=ad_two p s k
    simp only [adD]
    split
    · refine ⟨?_,ih.2⟩
      show (abG _ _ _).1=_
      unfold abG
      split<;>exact ih.1
    · exact ih
theorem ad_list (p:T_Pinned) (s:Nat→T_Bar):∀ k,(LB (adD p s k).1.1).Perm (LB p.1++tkL p s k)
  | 0=>by simp [adD,tkL]
  | k+1=>by
    have ih:=ad_list p s k
    simp only [adD,tkL]
    split
    · rename_i h
      refine (LB_add (adT_in h).1).trans ?_
      rw [← List.append_assoc]
      exact ih.append_right _
    · exact ih
theorem gdL_app (p:T_Pinned) (l m:List T_Bar):gdL p (l++m)=gdL p l++m.map brN:=by simp [gdL]
theorem rep_all {p:T_Pinned} {l:T_BarS} (h:arB p l=true):prG (arP p l)=prG (adD p l.2 l.1).1∧pinnedF p=true∧pinnedF (arP p l)=true∧(arP p l).1.1=p.1.1∧(arP p l).2=p.2∧l.1≤15:=by
  have hF:arP p l=((arI p.1 l l.1).2,p.2):=by unfold arP;rw [if_pos h]
  have h0:=h
  unfold arB at h0
  rw [Bool.and_eq_true,Bool.and_eq_true] at h0
  obtain ⟨hp,hok,hpF⟩:=h0
  have ok:=pin_ok hp
  have hpI:=(pin_iff p.1 p.2).1 hp
  obtain ⟨f1,f2,f3,f4⟩:=arI_all hpI.2.2.1 l.1 hok
  obtain ⟨q1,q2,q3,q4,q5,q6,q7⟩:=(pin_iff _ _).1 hpF
  have hperm:∀ y,y∈LB p.1++sxL l.2 l.1↔y∈LB (arI p.1 l l.1).2:=fun y=>(f3.mem_iff).symm
  have hnod:(LB p.1++sxL l.2 l.1).Nodup:=f3.nodup_iff.1 q4
  have hlen:(LB p.1++sxL l.2 l.1).length≤15:=by rw [← f3.length_eq,LB_len];exact q6
  have hsx:(sxL l.2 l.1).length=l.1:=by simp [sxL]
  have hgood:∀ y∈LB p.1++sxL l.2 l.1,0≤y.1∧y.1<y.2.1∧y.2.1<p.1.1:=fun y hy=>by
    have:=isG_bar f1 y ((hperm y).1 hy)
    rw [f2] at this
    exact this
  have step:∀ k,k<l.1→abB (adD p l.2 k).1.1 (l.2 k).1 (l.2 k).2.1=true∧pinnedF (nxP (adD p l.2 k).1 (l.2 k))=true:=by
    intro k hk
    have ih:=adD_ok p hp l.2 k
    obtain ⟨e1,e2⟩:=ad_two p l.2 k
    have el:=ad_list p l.2 k
    obtain ⟨ra,rb,rab⟩:=f4 k hk
    have hpk:=(pin_iff (adD p l.2 k).1.1 (adD p l.2 k).1.2).1 ih.pin
    have hsub:List.Sublist (LB p.1++(tkL p l.2 k++[brX (l.2 k).1 (l.2 k).2.1])) (LB p.1++sxL l.2 l.1):=by
      refine List.Sublist.append_left ?_ _
      have:=(tk_sub p l.2 k).append_right [brX (l.2 k).1 (l.2 k).2.1]
      rw [← sxL_succ] at this
      exact this.trans (sxL_pre l.2 (by omega))
    have hle:=hsub.length_le
    have hlk:(adD p l.2 k).1.1.2.1.1+1≤15:=by
      have:=el.length_eq
      rw [LB_len] at this
      simp only [List.length_append,List.length_cons,List.length_nil] at this hle hlen
      omega
    have hab:abB (adD p l.2 k).1.1 (l.2 k).1 (l.2 k).2.1=true:=by
      unfold abB
      rw [hpk.2.2.1,e1]
      have i1:inB (l.2 k).1 0 (p.1.1 - 1)=true:=by simp [inB];omega
      have i2:inB (l.2 k).2.1 0 (p.1.1 - 1)=true:=by simp [inB];omega
      have i3:((l.2 k).1==(l.2 k).2.1)=false:=beq_eq_false_iff_ne.2 rab
      have i4:(((adD p l.2 k).1.1.2.1.1:Int)==24)=false:=beq_eq_false_iff_ne.2 (by omega)
      rw [i1,i2,i3,i4];rfl
    refine ⟨hab,?_⟩
    have hpm:=(LB_add hab).trans (el.append_right _)
    rw [List.append_assoc] at hpm
    unfold nxP
    rw [e2]
    have ea:(abG (adD p l.2 k).1.1 (l.2 k).1 (l.2 k).2.1).1=p.1.1:=by unfold abG;split<;>exact e1
    have eb:(abG (adD p l.2 k).1.1 (l.2 k).1 (l.2 k).2.1).2.1.1=(adD p l.2 k).1.1.2.1.1+1:=by unfold abG;rw [if_pos hab]
    refine (pin_iff _ _).2 ⟨by rw [ea];exact hpI.1,fun x hx=>?_,ab_isG hab,?_,hpI.2.2.2.2.1,by omega,?_⟩
    · exact q2 x ((hperm x).1 (hsub.subset (hpm.mem_iff.1 hx)))
    · exact hpm.nodup_iff.2 (hnod.sublist hsub)
    · rw [eb]
      have h1:=hpm.length_eq
      rw [LB_len,eb] at h1
      have h2:=f3.length_eq
      rw [LB_len] at h2
      omega
  have hgs:∀ k,k≤l.1→∀ x∈LB p.1++tkL p l.2 k,0≤x.1∧x.1<x.2.1∧x.2.1<p.1.1:=fun k hk x hx=>by
    refine hgood x ?_
    rcases List.mem_append.1 hx with h1 | h1
    · exact List.mem_append.2 (.inl h1)
    · exact List.mem_append.2 (.inr (((tk_sub p l.2 k).trans (sxL_pre l.2 hk)).subset h1))
  have hrk:∀ q:T_Pinned,pinnedF q=true→q.1.1=p.1.1→q.2=p.2→∀ m:List T_Bar,(∀ y,y∈LB q.1↔y∈m)→prG q=(Mat.rk p.1.1.toNat (gdL p m):Int) - (Mat.rk p.1.1.toNat (bL (hlS p).2 (hlS p).1):Int):=by
    intro q hq e1 e2 m hm
    have hqo:=pin_ok hq
    rw [prG_list hq,e1]
    have eh:hlS q=hlS p:=by unfold hlS;rw [e2]
    have eg:∀ l,gdL q l=gdL p l:=fun l=>by unfold gdL;rw [eh]
    rw [eh,eg]
    have:Mat.rk p.1.1.toNat (gdL p (LB q.1))=Mat.rk p.1.1.toNat (gdL p m):=by
      refine rk_set (fun x hx=>?_) (fun x=>?_)
      · rw [← eg] at hx
        have:=gd_good hqo (l:=LB q.1) (fun y hy=>isG_bar ((pin_iff q.1 q.2).1 hq).2.2.1 y hy) x hx
        rw [e1] at this
        exact this
      · unfold gdL
        rw [List.mem_append,List.mem_append,List.mem_map,List.mem_map]
        constructor
        · rintro (h1 | ⟨y,hy,rfl⟩)
          · exact .inl h1
          · exact .inr ⟨y,(hm y).1 hy,rfl⟩
        · rintro (h1 | ⟨y,hy,rfl⟩)
          · exact .inl h1
          · exact .inr ⟨y,(hm y).2 hy,rfl⟩
    rw [this]
  have himp:∀ k,k≤l.1→∀ x∈sxL l.2 k,Mat.Imp p.1.1.toNat (Mat.greedy p.1.1.toNat 2 3 [] (gdL p (LB p.1++tkL p l.2 k))) (brN x).1 (brN x).2:=by
    intro k
    induction k with
    | zero=>intro _ x hx;cases hx
    | succ k ih =>
      intro hk x hx
      obtain ⟨s1,s2⟩:=step k (by omega)
      have ihk:=adD_ok p hp l.2 k
      obtain ⟨e1,e2⟩:=ad_two p l.2 k
      have el:=ad_list p l.2 k
      have hbx:0≤(brX (l.2 k).1 (l.2 k).2.1).1∧(brX (l.2 k).1 (l.2 k).2.1).1<(brX (l.2 k).1 (l.2 k).2.1).2.1∧(brX (l.2 k).1 (l.2 k).2.1).2.1<p.1.1 :=
        hgood _ (List.mem_append.2 (.inr ((sxL_pre l.2 (show k+1≤l.1 by omega)).subset (by rw [sxL_succ];simp))))
      have hG:=gd_good ok (hgs k (by omega))
      have hXg:Mat.GoodBar p.1.1.toNat ((brN (brX (l.2 k).1 (l.2 k).2.1)).1,(brN (brX (l.2 k).1 (l.2 k).2.1)).2):=by
        simp only [Mat.GoodBar,brN];omega
      by_cases ht:adT (adD p l.2 k).1 (l.2 k)=true
      · have et:tkL p l.2 (k+1)=tkL p l.2 k++[brX (l.2 k).1 (l.2 k).2.1]:=by simp only [tkL];rw [if_pos ht]
        rw [et,← List.append_assoc,gdL_app]
        rw [sxL_succ] at hx
        rcases List.mem_append.1 hx with h1 | h1
        · exact imp_app (ih (by omega) x h1)
        · rw [List.mem_singleton.1 h1]
          have:=Mat.greedy_tight (N:=p.1.1.toNat) (gdL p (LB p.1++tkL p l.2 k)++[brN (brX (l.2 k).1 (l.2 k).2.1)]) [] (fun y hy=>by
            rcases List.mem_append.1 hy with h2 | h2
            · exact hG y h2
            · rw [List.mem_singleton.1 h2];exact hXg) (Mat.sparse_nil _ 2 3) (brN (brX (l.2 k).1 (l.2 k).2.1)) (by simp)
          obtain ⟨R,t,r⟩:=this
          simp only [Mat.inn,Bool.and_eq_true] at r
          exact ⟨R,t,r.1,r.2⟩
      · have et:tkL p l.2 (k+1)=tkL p l.2 k:=by simp only [tkL];rw [if_neg ht]
        rw [et]
        rw [sxL_succ] at hx
        rcases List.mem_append.1 hx with h1 | h1
        · exact ih (by omega) x h1
        · rw [List.mem_singleton.1 h1]
          have r1:=hrk _ ihk.pin e1 e2 (LB p.1++tkL p l.2 k) (fun y=>el.mem_iff)
          have ea:(nxP (adD p l.2 k).1 (l.2 k)).1.1=p.1.1:=by show (abG _ _ _).1=_;unfold abG;split<;>exact e1
          have r2:=hrk _ s2 ea e2 (LB p.1++tkL p l.2 k++[brX (l.2 k).1 (l.2 k).2.1]) (fun y=>((LB_add s1).trans (el.append_right _)).mem_iff)
          rw [gdL_app] at r2
          have hne:¬ prG (nxP (adD p l.2 k).1 (l.2 k))=prG (adD p l.2 k).1+1:=by
            intro he
            refine ht ?_
            unfold adT
            rw [s1,s2,he];simp
          have hsu:=Mat.rk_le_succ (N:=p.1.1.toNat) (L:=gdL p (LB p.1++tkL p l.2 k)) (brN (brX (l.2 k).1 (l.2 k).2.1))
          have heq:Mat.rk p.1.1.toNat (gdL p (LB p.1++tkL p l.2 k)++[brN (brX (l.2 k).1 (l.2 k).2.1)])=Mat.rk p.1.1.toNat (gdL p (LB p.1++tkL p l.2 k)):=by
            have:[brX (l.2 k).1 (l.2 k).2.1].map brN=[brN (brX (l.2 k).1 (l.2 k).2.1)]:=rfl
            rw [this] at r2
            omega
          exact (Mat.rk_same_iff hG hXg).1 heq
  obtain ⟨e1,e2⟩:=ad_two p l.2 l.1
  have r1:=hrk _ (adD_ok p hp l.2 l.1).pin e1 e2 (LB p.1++tkL p l.2 l.1) (fun y=>(ad_list p l.2 l.1).mem_iff)
  have r2:=hrk (arP p l) (by rw [hF];exact hpF) (by rw [hF];exact f2) (by rw [hF]) (LB p.1++tkL p l.2 l.1++sxL l.2 l.1) (fun y=>by
    rw [hF]
    show y∈LB (arI p.1 l l.1).2↔_
    rw [← hperm,List.mem_append,List.mem_append,List.mem_append]
    constructor
    · rintro (h1 | h1)
      · exact .inl (.inl h1)
      · exact .inr h1
    · rintro ((h1 | h1) | h1)
      · exact .inl h1
      · exact .inr ((tk_sub p l.2 l.1).subset h1)
      · exact .inr h1)
  have r3:Mat.rk p.1.1.toNat (gdL p (LB p.1++tkL p l.2 l.1++sxL l.2 l.1))=Mat.rk p.1.1.toNat (gdL p (LB p.1++tkL p l.2 l.1)):=by
    rw [gdL_app]
    refine rk_skip (fun x hx=>?_)
    obtain ⟨y,hy,rfl⟩:=List.mem_map.1 hx
    exact himp l.1 (Nat.le_refl _) y hy
  refine ⟨by rw [r1,r2,r3],hp,by rw [hF];exact hpF,by rw [hF];exact f2,by rw [hF],?_⟩
  rw [List.length_append,hsx] at hlen
  omega
theorem inr_same {p q:T_Pinned} (hp:pinnedF p=true) (hq:pinnedF q=true) (h1:q.1.1=p.1.1) (h2:q.2=p.2):inrP q=inrP p:=by
  have key:∀ n,inrD q n=inrD p n:=fun n=>by
    induction n with
    | zero=>rfl
    | succ n ih=>simp only [inrD,ih,h2]
  unfold inrP
  rw [if_pos hp,if_pos hq,h1,key]
theorem rep_many {p:T_Pinned} {l:T_BarS} (h:irB p l=true):frG p≤l.1∧crB p l=true:=by
  unfold irB at h
  cases ha:arB p l with
  | false=>rw [ha] at h;cases h
  | true =>
    rw [ha,cond_true] at h
    obtain ⟨h1,hp,hF,e1,e2,hl⟩:=rep_all ha
    have hok:=adD_ok p hp l.2 l.1
    have hfr:frG (arP p l)=0:=by unfold rgB at h;simpa using h
    have hn:=adD_n p l.2 l.1
    unfold frG at hfr
    rw [if_pos hF,inr_same hp hF e1 e2,h1,hok.rk] at hfr
    have hfp:frG p=2*((inrP p).1:Int) - prG p:=by unfold frG;rw [if_pos hp]
    have hc:((adD p l.2 l.1).2.1:Int)=frG p:=by omega
    refine ⟨by omega,?_⟩
    unfold crB
    rw [hp,cond_true,decide_eq_true (show (l.1:Int)≤24 by omega),cond_true,hc]
    simp
theorem rb_all {p:T_Pinned} (h:rbB p=true):((rbL p).1:Int)=frG p∧irB p (rbL p)=true∧crB p (rbL p)=true:=by
  have hL:rbL p=(rpD p).2:=by unfold rbL;rw [if_pos h]
  have h0:=h
  unfold rbB at h0
  cases hp:pinnedF p with
  | false=>rw [hp] at h0;cases h0
  | true =>
    rw [hp,cond_true] at h0
    have hok:=adD_ok p hp (msP p.1).2 (msP p.1).1
    have hok:AdOk p (rpD p):=hok
    obtain ⟨a1,a2⟩:=ad_arD hp hok
    have hir:irB p (rbL p)=true:=by
      rw [hL]
      unfold irB
      rw [a1,a2,cond_true]
      exact h0
    have hfr:frG (rpD p).1=0:=by unfold rgB at h0;simpa using h0
    obtain ⟨e1,e2⟩:=ad_two p (msP p.1).2 (msP p.1).1
    have e1:(rpD p).1.1.1=p.1.1:=e1
    have e2:(rpD p).1.2=p.2:=e2
    unfold frG at hfr
    rw [if_pos hok.pin,inr_same hp hok.pin e1 e2,hok.rk] at hfr
    have hfp:frG p=2*((inrP p).1:Int) - prG p:=by unfold frG;rw [if_pos hp]
    refine ⟨by rw [hL];omega,hir,(rep_many hir).2⟩
theorem rb_few {p:T_Pinned} (h:rbB p=true) {l:T_BarS} (hl:l.1<(rbL p).1):irB p l=false:=by
  cases hi:irB p l with
  | false=>rfl
  | true =>
    have h1:=(rep_many hi).1
    have h2:=(rb_all h).1
    omega
theorem rwZ (n:Nat) (f:Nat→Int) :
    zS Tryz.f3 [rg 1,rm [(1,oc [] (.p (.bool true)))] 0,.dec true,rg 1] [cdA n f] [] [] (.p (.bool true)) =
    some [zE 6 [.p (.seq true 1 n (fun i=>[.int .u8 (f i)]))] [] (.p (.bool true)),(true=true),(true=true)]:=by kernel_rfl
theorem rwA (n:Nat) (f:Nat→Int) (p:T_Pinned) (m:NB) (is:Bool) (x:Int) (q:T_Pinned) (s:NB) (y:Bool) (z:Int) (a:T_Pinned) (b:NB) (c:T_Pinned) (t:Bool) (d:T_Pinned) (g:T_IntS) (e:T_Pinned) (w:Bool) (i:T_Pinned) (j:NB) (k:Bool) :
    zS Tryz.f3 [rg 1,rm [(1,oc [] (.p (.bool false)))] 0,.dec false,rm [(1,oc [(0,brOb p.1.2.1.1 p.1.2.1.2),(1,iOb p.2.1.1 p.2.1.2)] (pjV p))] 2,rm [(1,oc [(0,brOb m.1 m.2)] (.tup [.ar 2 0 0 m.1,.p (.bool is)]))] 5,rm [(1,oc [(0,brOb m.1 m.2)] (.tup [.ar 2 0 0 m.1,.p (.bool is)]))] 5,rm [(1,oc [] (.p (.int .i64 x)))] 1,rm [(6,oc [] (.p (.bool true))),(5,oc [] (.p (.int .i64 x))),(12,oc [] (.p (.bool true))),(5,oc [] (.p (.bool true)))] 4,.dec false,rm [(9,oc [] (.p (.bool false)))] 1,.dec false,rm [(1,oc [(0,brOb q.1.2.1.1 q.1.2.1.2),(1,iOb q.2.1.1 q.2.1.2),(2,brOb s.1 s.2)] (.tup [pjV q,.ar 2 2 0 s.1]))] 6,rm [(2,oc [] (.p (.bool y))),(2,oc [] (.p (.bool y))),(4,oc [] (.p (.bool y))),(4,oc [] (.p (.int .i64 z))),(4,oc [] (.p (.bool true)))] 4,.dec false,rm [(1,oc [(0,brOb a.1.2.1.1 a.1.2.1.2),(1,iOb a.2.1.1 a.2.1.2),(2,brOb b.1 b.2)] (.tup [pjV a,.ar 2 2 0 b.1]))] 6,rm [(2,oc [(0,brOb c.1.2.1.1 c.1.2.1.2),(1,iOb c.2.1.1 c.2.1.2)] (.tup [pjV c,.p (.bool t)]))] 6,rm [(2,oc [(0,brOb c.1.2.1.1 c.1.2.1.2),(1,iOb c.2.1.1 c.2.1.2)] (.tup [pjV c,.p (.bool t)]))] 6,rm [(1,oc [(0,brOb d.1.2.1.1 d.1.2.1.2),(1,iOb d.2.1.1 d.2.1.2),(2,iOb g.1 g.2)] (.tup [pjV d,.ar 1 2 0 g.1]))] 6,rm [(2,oc [(0,brOb e.1.2.1.1 e.1.2.1.2),(1,iOb e.2.1.1 e.2.1.2)] (.tup [pjV e,.p (.bool w)]))] 6,rm [(2,oc [(0,brOb e.1.2.1.1 e.1.2.1.2),(1,iOb e.2.1.1 e.2.1.2)] (.tup [pjV e,.p (.bool w)]))] 6,rm [(1,oc [(0,brOb i.1.2.1.1 i.1.2.1.2),(1,iOb i.2.1.1 i.2.1.2),(2,brOb j.1 j.2)] (.tup [pjV i,.ar 2 2 0 j.1]))] 6,rm [(6,oc [] (.p (.bool true))),(9,oc [] (.p (.bool true))),(4,oc [] (.p (.bool k))),(2,oc [] (.p (.bool k)))] 3] [cdA n f] [] [] (.p (.bool true)) =
    some (zD [zE 6 [.p (.seq true 1 n (fun i_1=>[.int .u8 (f i_1)]))] [] (.p (.bool false)),(false=false),zE 7 [.p (.seq true 1 n (fun i_1=>[.int .u8 (f i_1)]))] (zf21 p) ((zf95 p)),(NT 0 1),((true=true)→ (AN 1)),(AN 2),(NL p.1.2.1.1 p.1.2.1.1),(AN 1),(NL p.2.1.1 p.2.1.1),zE 8 [(zf17 p)] (zf86 m) (.tup [.ar 2 0 0 m.1,.p (.bool is)]),zE 9 [(zf17 p)] (zf86 m) (.tup [.ar 2 0 0 m.1,.p (.bool is)]),zE 10 [(zf17 p)] [] (.p (.int .i64 x)),(AG (!!is==is)),(((!!is==is)=true)→ (AN 2)),(((!!is==is)=true)→(NL m.1 m.1)),(((!!is==is)=true)→ zE 11 [.p (.seq true 2 m.1 (fun i_1=>[.int .i64 ((m.2 i_1).1),.int .i64 ((m.2 i_1).2.1)])),.p (.seq true 2 m.1 (fun i_1=>[.int .i64 ((m.2 i_1).1),.int .i64 ((m.2 i_1).2.1)]))] [] (.p (.bool true))),(((!is==is)=false)→ ((!!is==is)=true)),(((!bif !is==is then true else !true)=true)→(NT 0 1)),(AG (!bif !is==is then true else !true)),(((!bif !is==is then true else !true)=true)→ (AN 2)),(((!bif !is==is then true else !true)=true)→(NL p.1.2.1.1 p.1.2.1.1)),(((!bif !is==is then true else !true)=true)→ (AN 1)),(((!bif !is==is then true else !true)=true)→(NL p.2.1.1 p.2.1.1)),(((!bif !is==is then true else !true)=true)→ zE 12 [(zf17 p)] [] (.p (.int .i64 x))),(((bif !is==is then true else !true)=false)→ ((!bif !is==is then true else !true)=true)),(AG (!bif bif !is==is then true else !true then true else x != x)),(AG ((!bif bif !is==is then true else !true then true else x != x)&&is)),((((!bif bif !is==is then true else !true then true else x != x)&&is&&!(↑m.1:Int) != x)=true)→(NT 0 1)),(AG ((!bif bif !is==is then true else !true then true else x != x)&&is&&!(↑m.1:Int) != x)),((((!bif bif !is==is then true else !true then true else x != x)&&is&&!(↑m.1:Int) != x)=true)→ (AN 2)),((((!bif bif !is==is then true else !true then true else x != x)&&is&&!(↑m.1:Int) != x)=true)→(NL p.1.2.1.1 p.1.2.1.1)),((((!bif bif !is==is then true else !true then true else x != x)&&is&&!(↑m.1:Int) != x)=true)→ (AN 1)),((((!bif bif !is==is then true else !true then true else x != x)&&is&&!(↑m.1:Int) != x)=true)→(NL p.2.1.1 p.2.1.1)),((((!bif bif !is==is then true else !true then true else x != x)&&is&&!(↑m.1:Int) != x)=true)→(NL m.1 m.1)),((((!bif bif !is==is then true else !true then true else x != x)&&is&&!(↑m.1:Int) != x)=true)→ zE 13 [(zf17 p),.p (.seq true 2 m.1 (fun i_1=>[.int .i64 ((m.2 i_1).1),.int .i64 ((m.2 i_1).2.1)]))] [] (.p (.bool true))),((((!bif bif !is==is then true else !true then true else x != x)&&is)=true)→((((↑m.1:Int) != x)=false)→ (((!bif bif !is==is then true else !true then true else x != x)&&is&&!(↑m.1:Int) != x)=true))),((((!bif bif !is==is then true else !true then true else x != x)&&is&&!bif (↑m.1:Int) != x then true else !true)=true)→(NT 0 1)),(AG ((!bif bif !is==is then true else !true then true else x != x)&&is&&!bif (↑m.1:Int) != x then true else !true)),((((!bif bif !is==is then true else !true then true else x != x)&&is&&!bif (↑m.1:Int) != x then true else !true)=true)→ (AN 2)),((((!bif bif !is==is then true else !true then true else x != x)&&is&&!bif (↑m.1:Int) != x then true else !true)=true)→(NL p.1.2.1.1 p.1.2.1.1)),((((!bif bif !is==is then true else !true then true else x != x)&&is&&!bif (↑m.1:Int) != x then true else !true)=true)→ (AN 1)),((((!bif bif !is==is then true else !true then true else x != x)&&is&&!bif (↑m.1:Int) != x then true else !true)=true)→(NL p.2.1.1 p.2.1.1)),((((!bif bif !is==is then true else !true then true else x != x)&&is&&!bif (↑m.1:Int) != x then true else !true)=true)→(NL m.1 m.1)),((((!bif bif !is==is then true else !true then true else x != x)&&is&&!bif (↑m.1:Int) != x then true else !true)=true)→ zE 14 [(zf17 p),.p (.seq true 2 m.1 (fun i_1=>[.int .i64 ((m.2 i_1).1),.int .i64 ((m.2 i_1).2.1)]))] [] (.p (.bool true))),((((!bif bif !is==is then true else !true then true else x != x)&&is)=true)→(((bif (↑m.1:Int) != x then true else !true)=false)→ (((!bif bif !is==is then true else !true then true else x != x)&&is&&!bif (↑m.1:Int) != x then true else !true)=true))),(((!bif bif !is==is then true else !true then true else x != x)=true)→((is=true)→ (((!bif bif !is==is then true else !true then true else x != x)&&is)=true))),(((bif bif !is==is then true else !true then true else x != x)=false)→ ((!bif bif !is==is then true else !true then true else x != x)=true)),((bif bif bif !is==is then true else !true then true else x != x then true else bif is then bif bif (↑m.1:Int) != x then true else !true then true else !true else false)=false),(AG is),(((bif is then decide (x>0) else false)=true)→(NT 0 1)),(AG (bif is then decide (x>0) else false)),(((bif is then decide (x>0) else false)=true)→(IL 0 1)),(((bif is then decide (x>0) else false)=true)→(IL 1 (↑m.1:Int))),(((bif is then decide (x>0) else false)=true)→(IL (↑m.1:Int) (↑m.1:Int))),(((bif is then decide (x>0) else false)=true)→ (AN 2)),(((bif is then decide (x>0) else false)=true)→(NL p.1.2.1.1 p.1.2.1.1)),(((bif is then decide (x>0) else false)=true)→ (AN 1)),(((bif is then decide (x>0) else false)=true)→(NL p.2.1.1 p.2.1.1)),(((bif is then decide (x>0) else false)=true)→(NL (m.1 - 1+1) m.1)),(((bif is then decide (x>0) else false)=true)→ zE 13 [(zf17 p),.p (.seq true 2 (m.1 - 1) (fun i_1=>[.int .i64 ((m.2 (i_1+1)).1),.int .i64 ((m.2 (i_1+1)).2.1)]))] [] (.p (.bool false))),((bif bif is then decide (x>0) else false then false else false)=false),zE 15 [.p (.seq true 1 n (fun i_1=>[.int .u8 (f i_1)]))] (zf10 q s) ((zf87 q s)),(NL q.1.2.1.1 q.1.2.1.1),(NL q.2.1.1 q.2.1.1),(NL s.1 s.1),zE 13 [(zf17 q),.p (.seq true 2 s.1 (fun i_1=>[.int .i64 ((s.2 i_1).1),.int .i64 ((s.2 i_1).2.1)]))] [] (.p (.bool y)),zE 16 [(zf17 q),.p (.seq true 2 s.1 (fun i_1=>[.int .i64 ((s.2 i_1).1),.int .i64 ((s.2 i_1).2.1)]))] [] (.p (.bool y)),(((!!y==y)=true)→(NT 0 1)),(AG (!!y==y)),(((!!y==y)=true)→ (AN 2)),(((!!y==y)=true)→(NL q.1.2.1.1 q.1.2.1.1)),(((!!y==y)=true)→ (AN 1)),(((!!y==y)=true)→(NL q.2.1.1 q.2.1.1)),(((!!y==y)=true)→(NL s.1 s.1)),(((!!y==y)=true)→ zE 13 [(zf17 q),.p (.seq true 2 s.1 (fun i_1=>[.int .i64 ((s.2 i_1).1),.int .i64 ((s.2 i_1).2.1)]))] [] (.p (.bool y))),(AG (!!y==y&&y)),(((!!y==y&&y)=true)→(NT 0 1)),(((!!y==y&&y)=true)→ (AN 2)),(((!!y==y&&y)=true)→(NL q.1.2.1.1 q.1.2.1.1)),(((!!y==y&&y)=true)→ (AN 1)),(((!!y==y&&y)=true)→(NL q.2.1.1 q.2.1.1)),(((!!y==y&&y)=true)→ zE 12 [(zf17 q)] [] (.p (.int .i64 z))),(((!!y==y&&y&&!decide ((↑s.1:Int)<z))=true)→(NT 0 1)),(AG (!!y==y&&y&&!decide ((↑s.1:Int)<z))),(((!!y==y&&y&&!decide ((↑s.1:Int)<z))=true)→ (AN 2)),(((!!y==y&&y&&!decide ((↑s.1:Int)<z))=true)→(NL q.1.2.1.1 q.1.2.1.1)),(((!!y==y&&y&&!decide ((↑s.1:Int)<z))=true)→ (AN 1)),(((!!y==y&&y&&!decide ((↑s.1:Int)<z))=true)→(NL q.2.1.1 q.2.1.1)),(((!!y==y&&y&&!decide ((↑s.1:Int)<z))=true)→(NL s.1 s.1)),(((!!y==y&&y&&!decide ((↑s.1:Int)<z))=true)→ zE 14 [(zf17 q),.p (.seq true 2 s.1 (fun i_1=>[.int .i64 ((s.2 i_1).1),.int .i64 ((s.2 i_1).2.1)]))] [] (.p (.bool true))),(((!!y==y&&y)=true)→(((decide ((↑s.1:Int)<z))=false)→ ((!!y==y&&y&&!decide ((↑s.1:Int)<z))=true))),(((!!y==y)=true)→((y=true)→ ((!!y==y&&y)=true))),(((!y==y)=false)→ ((!!y==y)=true)),((bif !y==y then true else bif y then bif decide ((↑s.1:Int)<z) then true else !true else false)=false),zE 17 [.p (.seq true 1 n (fun i_1=>[.int .u8 (f i_1)]))] (zf10 a b) ((zf87 a b)),(NL a.1.2.1.1 a.1.2.1.1),(NL a.2.1.1 a.2.1.1),(NL b.1 b.1),zE 18 [(zf17 a),.p (.seq true 2 b.1 (fun i_1=>[.int .i64 ((b.2 i_1).1),.int .i64 ((b.2 i_1).2.1)]))] (zf21 c) ((zf88 c t)),zE 19 [(zf17 a),.p (.seq true 2 b.1 (fun i_1=>[.int .i64 ((b.2 i_1).1),.int .i64 ((b.2 i_1).2.1)]))] (zf21 c) ((zf88 c t)),zE 20 [.p (.seq true 1 n (fun i_1=>[.int .u8 (f i_1)]))] [(0,⟨false,2,d.1.2.1.1,(fun i_1=>[.p (.int .i64 ((d.1.2.1.2 i_1).1)),.p (.int .i64 ((d.1.2.1.2 i_1).2.1))])⟩),(1,⟨false,1,d.2.1.1,(fun i_1=>[.p (.int .i64 (d.2.1.2 i_1))])⟩),(2,⟨false,1,g.1,(fun i_1=>[.p (.int .i64 (g.2 i_1))])⟩)] (.tup [(zf95 d),.ar 1 2 0 g.1]),(NL d.1.2.1.1 d.1.2.1.1),(NL d.2.1.1 d.2.1.1),(NL g.1 g.1),zE 21 [(zf17 d),.p (.seq true 1 g.1 (iRw g))] (zf21 e) ((zf88 e w)),zE 22 [(zf17 d),.p (.seq true 1 g.1 (iRw g))] (zf21 e) ((zf88 e w)),zE 23 [.p (.seq true 1 n (fun i_1=>[.int .u8 (f i_1)]))] (zf10 i j) ((zf87 i j)),(((t==t)=true)→(NT 0 1)),(AG (t==t)),(((t==t)=true)→ (AN 2)),(((t==t)=true)→(NL c.1.2.1.1 c.1.2.1.1)),(((t==t)=true)→ (AN 1)),(((t==t)=true)→(NL c.2.1.1 c.2.1.1)),(((t==t)=true)→ zE 24 [(zf17 c),(zf17 c)] [] (.p (.bool true))),(AG (bif t==t then true else false)),(((bif bif t==t then true else false then w==w else false)=true)→(NT 0 1)),(AG (bif bif t==t then true else false then w==w else false)),(((bif bif t==t then true else false then w==w else false)=true)→ (AN 2)),(((bif bif t==t then true else false then w==w else false)=true)→(NL e.1.2.1.1 e.1.2.1.1)),(((bif bif t==t then true else false then w==w else false)=true)→ (AN 1)),(((bif bif t==t then true else false then w==w else false)=true)→(NL e.2.1.1 e.2.1.1)),(((bif bif t==t then true else false then w==w else false)=true)→ zE 24 [(zf17 e),(zf17 e)] [] (.p (.bool true))),(((bif bif bif t==t then true else false then w==w else false then true else false)=true)→(NT 0 1)),(AG (bif bif bif t==t then true else false then w==w else false then true else false)),(((bif bif bif t==t then true else false then w==w else false then true else false)=true)→ (AN 2)),(((bif bif bif t==t then true else false then w==w else false then true else false)=true)→(NL i.1.2.1.1 i.1.2.1.1)),(((bif bif bif t==t then true else false then w==w else false then true else false)=true)→ (AN 1)),(((bif bif bif t==t then true else false then w==w else false then true else false)=true)→(NL i.2.1.1 i.2.1.1)),(((bif bif bif t==t then true else false then w==w else false then true else false)=true)→(NL j.1 j.1)),(((bif bif bif t==t then true else false then w==w else false then true else false)=true)→ zE 14 [(zf17 i),.p (.seq true 2 j.1 (fun i_1=>[.int .i64 ((j.2 i_1).1),.int .i64 ((j.2 i_1).2.1)]))] [] (.p (.bool k))),(((bif bif bif t==t then true else false then w==w else false then true else false)=true)→ zE 25 [(zf17 i),.p (.seq true 2 j.1 (fun i_1=>[.int .i64 ((j.2 i_1).1),.int .i64 ((j.2 i_1).2.1)]))] [] (.p (.bool k))),((bif bif bif bif t==t then true else false then w==w else false then true else false then k==k else false)=true)] [0,1,2,3,4,3,5,6,7,8,9,3,5,6,7,8,10,3,5,6,7,8,11,12,12,13,14,13,14,15,12,16,17,18,19,20,21,22,23,18,18,24,25,26,26,26,26,27,28,28,29,30,31,32,29,33,34,28,26,35,26,36,37,37,38,39,40,41,38,42,43,37,26,44,25,45,46,47,48,48,49,50,51,52,53,50,50,54,55,56,57,54,58,59,50,60,61,3,4,3,5,62,7,63,5,64,65,3,5,62,7,63,5,64,66,67,68,68,69,70,71,72,69,73,74,68,75,76,75,77,78,79,80,81,75,75,75,82,83,83,84,85,86,87,84,88,89,83,75,90,68,91,92,93,94,3,4,3,5,95,7,96,5,97,98,3,4,3,5,95,7,96,5,97,99,3,4,100,3,4,3,5,101,7,102,7,103,104,3,4,3,5,101,7,102,7,103,105,3,4,106,3,4,107,107,108,108,109,110,111,112,109,110,111,112,113,108,114,114,114,115,115,116,116,117,118,119,120,117,118,119,120,121,116,122,123,123,124,125,126,127,124,128,129,122,123,123,124,125,126,127,124,128,130,123,123,123,131]):=by kernel_rfl
theorem and_mid {A B C:Bool} (h:(A&&B&&C)=true):B=true:=by
  simp only [Bool.and_eq_true] at h
  exact h.1.2
set_option maxRecDepth 20000 in
theorem con_law_FnRepairs (v0:Nat×(Nat→Int)) (k0:okS (.sl (.int .u8)) v0):zE 3 [cdA v0.1 v0.2] [] (.p (.bool true)):=by
  obtain ⟨n,f⟩:=v0
  have hbig:=con_big n f
  refine csZ Tryz.func3 (fun c hc=>?_)
  by_cases hn:n≤1048576
  · have hd:decide ((n:Int)>1048576)=false:=decide_eq_false (by omega)
    rw [hd] at hbig
    have hcd:CdOk n f:=⟨hn,fun i hi=>by have:=k0.2 i hi;simpa [okS,imin,imax] using this⟩
    obtain ⟨p,hp,cp⟩:=con_DrawRepairBars n f hcd
    obtain ⟨q,s,hq,hs,cq⟩:=con_DrawIsRepair n f hcd
    obtain ⟨a,b,ha,hb,ca⟩:=con_DrawApplyRepair n f hcd
    obtain ⟨d,g,hd2,hg,cd⟩:=con_DrawDamaged n f hcd
    obtain ⟨i,j,hi,hj,ci⟩:=con_DrawCanRepair n f hcd
    have m1:=con_RepairBars_i p hp.sm
    have m2:=con_RepairBars_s p hp.sm
    have hm:=rbL_n p
    have m3:=con_RepairCost_i p hp.sm
    have m4:=con_RepairCost_s p hp.sm
    have m5:=con_sameBq (rbL p) (by omega)
    have g1:rbB p=true→zE 13 [pinA p,graphL (rbL p)] [] (.p (.bool true)):=fun h=>by
      have:=con_IsRepair_i p hp.sm (rbL p) (by omega)
      rw [(rb_all h).2.1] at this
      exact this
    have g2:rbB p=true→zE 14 [pinA p,graphL (rbL p)] [] (.p (.bool true)):=fun h=>by
      have:=con_CanRepair_i p hp.sm (rbL p) (by omega)
      rw [(rb_all h).2.2] at this
      exact this
    have rg:(bif rbB p then decide (frG p>0) else false)=true→rbB p=true∧1≤(rbL p).1:=fun h=>by
      cases hr:rbB p with
      | false=>rw [hr] at h;cases h
      | true =>
        rw [hr,cond_true,decide_eq_true_eq] at h
        have:=(rb_all hr).1
        exact ⟨rfl,by omega⟩
    have g4:(bif rbB p then decide (frG p>0) else false)=true→zE 13 [pinA p,graphL ((rbL p).1 - 1,fun i=>(rbL p).2 (i+1))] [] (.p (.bool false)):=fun h=>by
      obtain ⟨r1,r2⟩:=rg h
      have:=con_IsRepair_i p hp.sm ((rbL p).1 - 1,fun i=>(rbL p).2 (i+1)) (by show (rbL p).1 - 1≤_;omega)
      rw [rb_few r1 (by show (rbL p).1 - 1<_;omega)] at this
      exact this
    have q1:=con_IsRepair_i q hq.sm s (by omega)
    have q2:=con_IsRepair_s q hq.sm s (by omega)
    have q3:=con_RepairCost_s q hq.sm
    have g3:irB q s=true→zE 14 [pinA q,graphL s] [] (.p (.bool true)):=fun h=>by
      have:=con_CanRepair_i q hq.sm s (by omega)
      rw [(rep_many h).2] at this
      exact this
    have a1:=con_ApplyRepair_i a ha.sm b (by omega)
    have a2:=con_ApplyRepair_s a ha.sm b (by omega)
    have hc1:=arP_le a b
    have d1:=con_Damaged_i d hd2.sm g (by omega)
    have d2:=con_Damaged_s d hd2.sm g (by omega)
    have hc2:=dmP_le d g
    have s1:=con_sameP (arP a b) ⟨by omega,hc1.2⟩
    have s2:=con_sameP (dmP d g) ⟨by omega,hc2.2⟩
    have i1:=con_CanRepair_i i hi.sm j (by omega)
    have i2:=con_CanRepair_s i hi.sm j (by omega)
    have e1:(bif bif bif !rbB p==rbB p then true else !true then true else frG p != frG p then true else bif rbB p then bif bif ((rbL p).1:Int) != frG p then true else !true then true else !true else false)=false:=by
      cases hr:rbB p with
      | false=>simp
      | true=>rw [(rb_all hr).1];simp
    have e2:(bif bif rbB p then decide (frG p>0) else false then false else false)=false:=by
      cases (bif rbB p then decide (frG p>0) else false)<;>rfl
    have e3:(bif !irB q s==irB q s then true else bif irB q s then bif decide ((s.1:Int)<frG q) then true else !true else false)=false:=by
      cases hr:irB q s with
      | false=>simp
      | true =>
        have:=(rep_many hr).1
        rw [decide_eq_false (show ¬ (s.1:Int)<frG q by omega)];simp
    refine pkD Tryz.func3 hc (rwA n f p (rbL p) (rbB p) (frG p) q s (irB q s) (frG q) a b (arP a b) (arB a b) d g (dmP d g) (dmB d g) i j (crB i j)) ?_
    and_intros
    all_goals (first | exact zH | (exact hbig) | (exact cp) | (exact m1) | (exact m2) | (exact m3) | (intros;exact m4) | (intros;exact m5) | (intro h;exact g1 (and_mid h)) | (intro h;exact g2 (and_mid h)) | (intro h;exact g4 h) | (intro h;have:=rg h;omega) | (exact e1) | (exact e2) | (exact e3) | (exact cq) | (exact q1) | (exact q2) | (intros;exact q1) | (intros;exact q3) | (intro h;exact g3 (and_mid h)) | (exact ca) | (exact a1) | (exact a2) | (exact cd) | (exact d1) | (exact d2) | (exact ci) | (intros;exact s1) | (intros;exact s2) | (intros;exact i1) | (intros;exact i2) | (intros;simp [All];done) | (intros;simp_all;done) | (simp;done))
  · have hd:decide ((n:Int)>1048576)=true:=decide_eq_true (by omega)
    rw [hd] at hbig
    refine pkZ Tryz.func3 hc (rwZ n f) ?_
    and_intros
    all_goals (first | exact zN | (exact hbig))
end Go.Proofs.YtkepkjbofchckaaGreat.Mach
