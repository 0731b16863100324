/- What the law Pr needs, part 4 of 4: the abstract machine and the contracts of the functions. Conditions: as each theorem says. -/
import Derived.Shelf.SlSortCmp.NoneTotal
import Derived.Test.YtgabljneilgilaaPrP3
namespace Go.Proofs.Ytgabljneilgilaa.Mach
open Go Go.Shelf Go.RowKit Go.Lib Go.Sort
set_option linter.unusedVariables false
set_option linter.unusedSimpArgs false
def ltB (x y:T_Bar):Bool:=ltOf cmpB x y
theorem ltB_iff (x y:T_Bar):ltB x y=true↔x.1<y.1∨(x.1=y.1∧x.2.1<y.2.1):=by
  rw [show ltB x y=decide (cmpB x y<0) from rfl,decide_eq_true_iff]
  unfold cmpB
  rcases Int.lt_trichotomy x.1 y.1 with h | h | h
  · rw [cmpI_1 h];simp;omega
  · rw [cmpI_3 (x:=x.1) (y:=y.1) (by omega) (by omega)]
    simp only [if_true]
    rcases Int.lt_trichotomy x.2.1 y.2.1 with h' | h' | h'
    · rw [cmpI_1 h'];simp;omega
    · rw [cmpI_3 (x:=x.2.1) (y:=y.2.1) (by omega) (by omega)];simp;omega
    · rw [cmpI_2 h'];simp;omega
  · rw [cmpI_2 h];simp;omega
theorem swoB:SWO (ltOf cmpB) where
  irrefl x:=by
    cases h:ltOf cmpB x x with
    | false=>rfl
    | true=>have:=(ltB_iff x x).1 h;omega
  trans x y z h1 h2:=by
    have h1:=(ltB_iff x y).1 h1
    have h2:=(ltB_iff y z).1 h2
    exact (ltB_iff x z).2 (by omega)
  ntrans x y z h1 h2:=by
    cases h:ltOf cmpB x z with
    | false=>rfl
    | true =>
      have h3:=(ltB_iff x z).1 h
      have e1:¬ (x.1<y.1∨(x.1=y.1∧x.2.1<y.2.1)):=fun h'=>by rw [show ltOf cmpB x y=true from (ltB_iff x y).2 h'] at h1;cases h1
      have e2:¬ (y.1<z.1∨(y.1=z.1∧y.2.1<z.2.1)):=fun h'=>by rw [show ltOf cmpB y z=true from (ltB_iff y z).2 h'] at h2;cases h2
      omega
theorem totB (x y:T_Bar) (h1:ltOf cmpB x y=false) (h2:ltOf cmpB y x=false):x=y:=by
  have e1:¬ (x.1<y.1∨(x.1=y.1∧x.2.1<y.2.1)):=fun h'=>by rw [show ltOf cmpB x y=true from (ltB_iff x y).2 h'] at h1;cases h1
  have e2:¬ (y.1<x.1∨(y.1=x.1∧y.2.1<x.2.1)):=fun h'=>by rw [show ltOf cmpB y x=true from (ltB_iff y x).2 h'] at h2;cases h2
  obtain ⟨a,b,⟨⟩⟩:=x
  obtain ⟨c,d,⟨⟩⟩:=y
  simp only [Prod.mk.injEq,and_true] at e1 e2 ⊢
  omega
def lstB (n:Nat) (h:Nat→T_Bar):List T_Bar:=(List.range n).map h
def srtL (l:List T_Bar):List T_Bar:=l.mergeSort fun x y=>!(ltOf cmpB) y x
def srtB (n:Nat) (h:Nat→T_Bar) (i:Nat):T_Bar:=(srtL (lstB n h)).getD i (0,0,())
theorem encB_len (x:T_Bar):(encB x).length=2:=rfl
theorem encB_one (x:T_Bar):∀ v∈encB x,v.oneCell'=true:=by
  intro v hv
  simp only [encB,List.mem_cons,List.not_mem_nil,or_false] at hv
  rcases hv with rfl | rfl<;>rfl
theorem srtL_len (l:List T_Bar):(srtL l).length=l.length:=by simp [srtL]
theorem lstB_len (n:Nat) (h:Nat→T_Bar):(lstB n h).length=n:=by simp [lstB]
theorem con_sortBars (n:Nat) (h:Nat→T_Bar) (hn:n≤1048576) :
    Con Try.prog 98 1 [(0,brOb n h)] [.ar 2 0 0 n,.p (.fn 73)] [(0,brOb n (srtB n h))] (.tup []):=by
  refine ⟨by kernel_rfl,fun w β X vals hX hH hS hd hl ha=>?_⟩
  obtain ⟨v0,v1,rfl⟩:∃ v0 v1,vals = #[v0,v1]:=by
    rcases vals with ⟨l⟩
    match l,hl with
    | [a,b],_=>exact ⟨a,b,rfl⟩
  have h0:VR w β (ow X β [(0,brOb n h)]) (.ar 2 0 0 n) v0:=ha 0 (by simp)
  have h1:VR w β (ow X β [(0,brOb n h)]) (.p (.fn 73)) v1:=ha 1 (by simp)
  have e1:v1=.func (.func 73) #[] #[]:=by
    cases h1 with
    | p _ _ hp=>cases hp;rfl
  subst e1
  have hnil:∀ (w':World) (own:Bool→Nat→Prop),VR w' β own (.tup []) (.tuple #[]):=fun w' own=>.tup [] #[] rfl (fun j hj=>absurd hj (Nat.not_lt_zero _))
  rcases Nat.eq_zero_or_pos n with rfl | hpos
  · obtain ⟨p,cap,rfl⟩:∃ p cap,v0=.slice p 0 cap:=by
      cases h0 with
      | ar0=>exact ⟨_,_,rfl⟩
      | ar=>exact ⟨_,_,rfl⟩
    refine (AnyF.slices_SortFunc_none (P:=Try.prog) (ρ:=Try.sortBar_ren) { Try.sortBar with } p cap _ w).mono ?_
    rintro e w' ⟨rfl,rfl⟩
    refine ⟨_,β,rfl,?_,?_,hnil _ _,?_,fun o a h=>h,fun b' h'=>.inl ?_,fun k h=>.inl h⟩
    · intro o ob hl
      obtain ⟨rfl,rfl⟩:=look_one hl
      rcases hH 0 _ (lk_one _) with ⟨hb,_⟩ | ⟨b,base,cells,el,hβ,hh,_⟩ | hm
      · exact .inl ⟨hb,rfl⟩
      · exact .inr (.inl ⟨b,base,cells,el,hβ,hh,fun i hi=>absurd hi (Nat.not_lt_zero _)⟩)
      · exact absurd hm.2.1 (by simp [brOb])
    · intro o o' ob ob' a a' h1 h2 h3 h4 h5
      obtain ⟨rfl,rfl⟩:=look_one h1
      obtain ⟨rfl,rfl⟩:=look_one h2
      rfl
    · rw [ow_one X β (brOb 0 (srtB 0 h)) (brOb 0 h)]
      exact Ext.refl _ _
    · rw [own_one _ _ _ rfl] at h' ⊢;exact h'
  · cases h0 with
    | ar0=>exact absurd hpos (Nat.lt_irrefl 0)
    | ar _ _ _ _ b base c cells elem fr' hβ hh hsz hc =>
      rcases hH 0 _ (lk_one _) with ⟨hb,_⟩ | ⟨b',base',cells',el',hβ',hh',hrw⟩ | hm
      · rw [hb] at hβ;cases hβ
      · rw [hβ] at hβ'
        injection hβ' with hβ'
        injection hβ' with i1 i2 _
        subst i1;subst i2
        rw [hh] at hh'
        injection hh' with hh'
        injection hh' with i1 i2 i3
        subst i1;subst i2;subst i3
        have hcell:∀ i,i<n→cells[base+(i*2+0)]? = some (.int .i64 (h i).1)∧cells[base+(i*2+1)]? = some (.int .i64 (h i).2.1):=by
          intro i hi
          obtain ⟨u,hu1,hu2,hu3⟩:=hrw i hi 0 (by simp [brOb])
          obtain ⟨u',hu1',hu2',hu3'⟩:=hrw i hi 1 (by simp [brOb])
          have:=vr_int (k:=.i64) (x:=(h i).1) hu3
          subst this
          have:=vr_int (k:=.i64) (x:=(h i).2.1) hu3'
          subst this
          exact ⟨hu1,hu1'⟩
        have hend:base+n*2≤cells.size:=by
          have:=(hcell (n - 1) (by omega)).2
          rcases Nat.lt_or_ge (base+((n - 1)*2+1)) cells.size with h' | h'
          · omega
          · rw [Array.getElem?_eq_none h'] at this;cases this
        have hdz:((lstB n h).toArray).size=n:=by simp [lstB]
        have hdi:∀ i,i<n→((lstB n h).toArray)[i]! = h i:=by
          intro i hi
          rw [getElem!_pos _ i (by rw [hdz];exact hi)]
          simp [lstB]
        have hHK:HoldsK encB 2 w b base (lstB n h).toArray:=by
          intro t ht
          rw [size_flatK,hdz] at ht
          rw [get_flatK _ _ _ _ (by rw [hdz];exact ht),hdi (t / 2) (by omega)]
          have hc:=hcell (t / 2) (by omega)
          rcases Nat.mod_two_eq_zero_or_one t with h2 | h2
          · refine ⟨?_,by simp [World.frozen?,hh]⟩
            rw [h2]
            have:base+t=base+(t / 2*2+0):=by omega
            simp only [World.cell?,hh]
            rw [this,hc.1];rfl
          · refine ⟨?_,by simp [World.frozen?,hh]⟩
            rw [h2]
            have:base+t=base+(t / 2*2+1):=by omega
            simp only [World.cell?,hh]
            rw [this,hc.2];rfl
        have hblk:b<w.heap.size:=by
          rcases Nat.lt_or_ge b w.heap.size with h' | h'
          · exact h'
          · rw [Array.getElem?_eq_none h'] at hh;cases hh
        have eg:∀ args w,(callFunc 73 args).run Try.prog w=.ok (.enter 73 args) w:=enters_of Try.func73 (by kernel_rfl) rfl
        have hcmp:CmpLays Try.prog 73 #[] encB 2 cmpB b base (lstB n h).toArray.size w:=fun _ _ _ _ x y=>cmp_bars x y _
        have hcon:=AnyQ.slices_SortFunc_total Try.sortBar 2 Try.isAgg83 Try.sizeOf83 encB encB_len encB_one cmpB swoB 73 #[] b base c (lstB n h).toArray w eg hcmp hHK hblk (by rw [hdz];omega) totB
        rw [hdz] at hcon
        change Calls Try.prog 98 _ _ _ at hcon
        rw [show base+0*2=base by omega]
        refine hcon.mono ?_
        rintro e w' ⟨rfl,q,os,rfl⟩
        refine sW_post (F:=flatK encB 2 (srtL (lstB n h)).toArray) hβ hh hS hend (by rw [size_flatK];simp [srtL_len,lstB_len]) (fun i hi j hj=>?_) (hnil _)
        have hs:((srtL (lstB n h)).toArray).size=n:=by simp [srtL_len,lstB_len]
        have hi2:i*2+j<n*2:=by omega
        rw [get_flatK _ _ _ _ (by rw [hs];exact hi2),show (i*2+j) / 2=i by omega,show (i*2+j) % 2=j by omega]
        have hgi:(srtL (lstB n h)).toArray[i]! = srtB n h i:=by
          rw [getElem!_pos _ i (by rw [hs];exact hi),srtB]
          simp [List.getD_eq_getElem?_getD,List.getElem?_eq_getElem (show i<(srtL (lstB n h)).length by rw [srtL_len,lstB_len];exact hi)]
        rw [hgi]
        rcases (show j=0∨j=1 by omega) with rfl | rfl
        · exact ⟨rfl,fun w' own=>.p _ _ (.int _ _)⟩
        · exact ⟨rfl,fun w' own=>.p _ _ (.int _ _)⟩
      · exact absurd hm.2.1 (by simp [brOb])
def leB (x y:T_Bar):Prop:=ltB y x=false
theorem leB_iff (x y:T_Bar):leB x y↔x.1<y.1∨(x.1=y.1∧x.2.1≤y.2.1):=by
  have h:=ltB_iff y x
  unfold leB
  cases hb:ltB y x with
  | false=>rw [hb] at h;simp only [Bool.false_eq_true,false_iff] at h;simp only [true_iff];omega
  | true=>rw [hb] at h;simp only [true_iff] at h;simp only [Bool.true_eq_false,false_iff];omega
theorem aft_iff (x y:T_Bar):aft x y=true↔leB x y:=by
  rw [leB_iff]
  unfold aft
  by_cases h1:x.1<y.1
  · simp [h1]
  · by_cases h2:x.1=y.1<;>simp [h1,h2]
theorem leB_antisymm (x y:T_Bar) (h1:leB x y) (h2:leB y x):x=y:=totB x y h2 h1
theorem srtL_sorted (l:List T_Bar):(srtL l).Pairwise leB:=by
  have h:=List.pairwise_mergeSort (le:=fun x y=>!(ltOf cmpB) y x) (fun a b c h1 h2=>by
    simp only [Bool.not_eq_true'] at *
    have h1:=(leB_iff a b).1 h1
    have h2:=(leB_iff b c).1 h2
    exact (leB_iff a c).2 (by omega)) (fun a b=>by
    simp only [Bool.or_eq_true,Bool.not_eq_true']
    rcases (show (a.1<b.1∨(a.1=b.1∧a.2.1≤b.2.1))∨(b.1<a.1∨(b.1=a.1∧b.2.1≤a.2.1)) by omega) with h | h
    · exact .inl ((leB_iff a b).2 h)
    · exact .inr ((leB_iff b a).2 h)) l
  exact h.imp (fun {a b} h=>show ltOf cmpB b a=false by simpa using h)
theorem srtL_perm (l:List T_Bar):(srtL l).Perm l:=List.mergeSort_perm l _
theorem srtL_eq {l m:List T_Bar} (hp:m.Perm l) (hs:m.Pairwise leB):m=srtL l :=
  List.Perm.eq_of_pairwise (le:=leB) (fun a b _ _ h1 h2=>leB_antisymm a b h1 h2) hs (srtL_sorted l) (hp.trans (srtL_perm l).symm)
theorem lstB_succ (n:Nat) (h:Nat→T_Bar):lstB (n+1) h=lstB n h++[h n]:=by simp [lstB,List.range_succ]
theorem lstB_congr {n:Nat} {h h':Nat→T_Bar} (he:∀ i,i<n→h i=h' i):lstB n h=lstB n h':=by
  simp only [lstB]
  exact List.map_congr_left (fun a ha=>he a (List.mem_range.1 ha))
theorem lstB_snoc (n:Nat) (h:Nat→T_Bar) (x:T_Bar):lstB (n+1) (snoc n h x)=lstB n h++[x]:=by
  rw [lstB_succ,lstB_congr (h':=h) (fun i hi=>snoc_lt hi),snoc_ge (Nat.lt_irrefl n)]
theorem lstB_srt (n:Nat) (h:Nat→T_Bar):lstB n (srtB n h)=srtL (lstB n h):=by
  refine List.ext_getElem? (fun i=>?_)
  rcases Nat.lt_or_ge i n with hi | hi
  · have:i<(srtL (lstB n h)).length:=by rw [srtL_len,lstB_len];exact hi
    simp only [lstB,List.getElem?_map,List.getElem?_range hi,Option.map_some]
    rw [show srtL (List.map h (List.range n))=srtL (lstB n h) from rfl,List.getElem?_eq_getElem this]
    simp [srtB,List.getD_eq_getElem?_getD,List.getElem?_eq_getElem this]
  · rw [List.getElem?_eq_none (by rw [lstB_len];exact hi),List.getElem?_eq_none (by rw [srtL_len,lstB_len];exact hi)]
theorem insD_list (g:Nat→T_Bar) (x:T_Bar) (nb:Nat) (hs:(lstB nb g).Pairwise leB):∀ i,i≤nb →
    (lstB (insD g x i).2.1 (insD g x i).2.2).Perm (lstB i g++(if (insD g x i).1=true then [x] else [])) ∧
    (lstB (insD g x i).2.1 (insD g x i).2.2).Pairwise leB∧((insD g x i).1=false→(lstB (insD g x i).2.1 (insD g x i).2.2)=lstB i g∧∀ s,s<i→leB (g s) x) ∧
    ((insD g x i).1=true→∀ s,s<nb→i≤s→∀ y∈lstB (insD g x i).2.1 (insD g x i).2.2,leB y (g s)):=by
  have hmono:∀ s s',s<s'→s'<nb→leB (g s) (g s'):=by
    intro s s' h1 h2
    have:=List.pairwise_iff_getElem.1 hs s s' (by rw [lstB_len];omega) (by rw [lstB_len];omega) h1
    simpa [lstB] using this
  have htr:∀ {a b c:T_Bar},leB a b→leB b c→leB a c:=by
    intro a b c h1 h2
    have h1:=(leB_iff a b).1 h1
    have h2:=(leB_iff b c).1 h2
    exact (leB_iff a c).2 (by omega)
  intro i
  induction i with
  | zero=>intro _;exact ⟨by simp [insD,lstB],by simp [insD,lstB],fun _=>⟨rfl,fun s h=>absurd h (Nat.not_lt_zero _)⟩,fun h=>by simp [insD] at h⟩
  | succ i ih =>
    intro hi
    obtain ⟨ih1,ih2,ih3,ih4⟩:=ih (by omega)
    simp only [insD]
    split
    · rename_i ht
      have hf:(insD g x i).1=false:=by
        cases e:(insD g x i).1 with
        | false=>rfl
        | true=>rw [e] at ht;simp at ht
      rw [hf] at ht
      simp only [Bool.not_false,cond_true,Bool.not_eq_true'] at ht
      have hxg:leB x (g i):=by
        have h1:¬ leB (g i) x:=fun h=>by rw [(aft_iff _ _).2 h] at ht;cases ht
        rw [leB_iff] at h1 ⊢
        omega
      obtain ⟨e1,e2⟩:=ih3 hf
      simp only [if_true]
      rw [lstB_snoc,lstB_snoc,e1]
      have hlt:∀ y∈lstB i g,leB y x∧leB y (g i):=by
        intro y hy
        simp only [lstB,List.mem_map,List.mem_range] at hy
        obtain ⟨s,h1,rfl⟩:=hy
        exact ⟨e2 s h1,hmono s i h1 (by omega)⟩
      refine ⟨?_,?_,fun h=>by simp at h,fun _ s hs1 hs2 y hy=>?_⟩
      · rw [lstB_succ,List.append_assoc,List.append_assoc]
        exact List.Perm.append_left _ (List.Perm.swap _ _ _)
      · rw [e1] at ih2
        rw [List.append_assoc,List.pairwise_append]
        refine ⟨ih2,by simp [hxg],fun y hy y' hy'=>?_⟩
        simp only [List.cons_append,List.nil_append,List.mem_cons,List.not_mem_nil,or_false] at hy'
        rcases hy' with rfl | rfl
        · exact (hlt y hy).1
        · exact (hlt y hy).2
      · have his:leB (g i) (g s):=hmono i s (by omega) hs1
        simp only [List.mem_append,List.mem_cons,List.not_mem_nil,or_false] at hy
        rcases hy with (hy | rfl) | rfl
        · exact htr (hlt y hy).2 his
        · exact htr hxg his
        · exact his
    · rename_i ht
      rw [lstB_snoc]
      refine ⟨?_,?_,fun h=>?_,fun h s hs1 hs2 y hy=>?_⟩
      · rw [lstB_succ,List.append_assoc]
        refine (List.Perm.append_right [g i] ih1).trans ?_
        rw [List.append_assoc]
        exact List.Perm.append_left _ List.perm_append_comm
      · rw [List.pairwise_append]
        refine ⟨ih2,by simp,fun y hy y' hy'=>?_⟩
        simp only [List.mem_cons,List.not_mem_nil,or_false] at hy'
        subst hy'
        cases hp:(insD g x i).1 with
        | true=>exact ih4 hp i (by omega) (Nat.le_refl _) y hy
        | false =>
          rw [(ih3 hp).1] at hy
          simp only [lstB,List.mem_map,List.mem_range] at hy
          obtain ⟨s,h1,rfl⟩:=hy
          exact hmono s i h1 (by omega)
      · simp only at h
        obtain ⟨e1,e2⟩:=ih3 h
        refine ⟨by rw [e1,lstB_succ],fun s hs1=>?_⟩
        rcases Nat.lt_or_ge s i with h' | h'
        · exact e2 s h'
        · obtain rfl:s=i:=by omega
          rw [h] at ht
          simp only [Bool.not_false,cond_true,Bool.not_eq_true',Bool.not_eq_false] at ht
          exact (aft_iff _ _).1 ht
      · simp only at h
        simp only [List.mem_append,List.mem_cons,List.not_mem_nil,or_false] at hy
        rcases hy with hy | rfl
        · exact ih4 h s hs1 (by omega) y hy
        · exact hmono i s (by omega) hs1
theorem insR_list (g:Nat→T_Bar) (nb:Nat) (x:T_Bar) (hs:(lstB nb g).Pairwise leB) :
    lstB (insR g nb x).1 (insR g nb x).2=srtL (lstB nb g++[x]):=by
  obtain ⟨h1,h2,h3,h4⟩:=insD_list g x nb hs nb (Nat.le_refl _)
  unfold insR
  split
  · rename_i hp
    rw [if_pos hp] at h1
    exact srtL_eq h1 h2
  · rename_i hp
    have hf:(insD g x nb).1=false:=by simpa using hp
    obtain ⟨e1,e2⟩:=h3 hf
    simp only
    rw [lstB_snoc,e1]
    refine srtL_eq (List.Perm.refl _) ?_
    rw [List.pairwise_append]
    refine ⟨hs,by simp,fun y hy y' hy'=>?_⟩
    simp only [List.mem_cons,List.not_mem_nil,or_false] at hy'
    subst hy'
    simp only [lstB,List.mem_map,List.mem_range] at hy
    obtain ⟨s,h',rfl⟩:=hy
    exact e2 s h'
open Go Go.Sort
def brX (a b:Int):T_Bar:=(if b<a then b else a,if b>a then b else a,())
def zG2:Ob:=⟨true,2,1,fun _=>[.p (.int .i64 0),.p .nil]⟩
theorem dBar (a b:Int) :
    zS Try.f70 [rg 1,rg 8] [.p (.int .i64 a),.p (.int .i64 b)] [] [] (.agg [.p (.int .i64 (if b<a then b else a)),.p (.int .i64 (if b>a then b else a))]) =
    some [(NT 0 1),((true=true)→ (AN 1)),(NT 0 1),(((if false=true then if b>a then b else a else if b<a then b else a):Int)=(if b<a then b else a)),(((if true=true then if b>a then b else a else if b<a then b else a):Int)=(if b>a then b else a))]:=by kernel_rfl
theorem con_barX (a b:Int):zE 70 [.p (.int .i64 a),.p (.int .i64 b)] [] (.agg [.p (.int .i64 (brX a b).1),.p (.int .i64 (brX a b).2.1)]):=by
  refine csZ Try.func70 (fun c hc=>?_)
  refine pkZ Try.func70 hc (dBar a b) ?_
  and_intros
  all_goals (first | exact zI | simp)
def graO (N:Int) (n:Nat) (h:Nat→T_Bar):AV:=.agg [.p (.int .i64 N),.p (.seq true 2 n (fun i=>[.int .i64 (h i).1,.int .i64 (h i).2.1]))]
def uL (g:Nat→T_GainBar) (nb:Nat):AV:=.p (.seq true 4 nb (fun i=>[.int .i64 (g i).1,.int .i64 (g i).2.1,.int .i64 (g i).2.2.1,.int .i64 (g i).2.2.2.1]))
def uA (g:Nat→T_GainBar) (nb:Nat) (N:Int):AV:=.agg [.p (.int .i64 N),uL g nb]
def uB (g:Nat→T_GainBar) (nb:Nat) (N:Int):Ob:=⟨true,2,1,fun i=>[.p (.int .i64 N),uL g nb]⟩
def uX (b:T_GainBar):Ob:=⟨true,4,1,fun i=>[.p (.int .i64 b.1),.p (.int .i64 b.2.1),.p (.int .i64 b.2.2.1),.p (.int .i64 b.2.2.2.1)]⟩
def uG (N:Int) (n:Nat):Ob:=⟨true,2,1,fun _=>[.p (.int .i64 (4*N)),.ar 2 3 0 n]⟩
def SUW (N:Int) (n:Nat) (h:Nat→T_Bar):St :=
  ⟨[.p .any,.p .any,.p .any,.p .any,.pt 2 0 0 0,.pt 2 1 0 0]++List.replicate 11 anyA,[(0,zG2),(1,⟨true,2,1,fun _=>[.p (.int .i64 N),.ar 2 2 0 n]⟩),(2,brOb n h)],3⟩
def SU0 (g:Nat→T_GainBar) (nb:Nat) (N:Int) (i n:Nat) (h:Nat→T_Bar):St :=
  ⟨[uA g nb N,.pt 2 0 0 0,.pt 2 1 0 0,.p (.bool false),.pt 2 2 0 0]++List.replicate 28 anyA++[uL g nb,.p (.int .i64 nb),.p (.int .i64 i)]++List.replicate 46 anyA,
   [(0,uB g nb N),(1,zG2),(2,uG N n),(3,brOb n h)],4⟩
def SU1 (g:Nat→T_GainBar) (nb:Nat) (N:Int) (i n:Nat) (h:Nat→T_Bar) (y:Nat):St :=
  ⟨[uA g nb N,.pt 2 0 0 0,.pt 2 1 0 0,.p (.bool false),.pt 2 2 0 0,.p .any,.pt 4 4 0 0]++List.replicate 26 anyA++[uL g nb,.p (.int .i64 nb),.p (.int .i64 i),.p .any,.p .any,.p .any,.p (.int .i64 y)]++List.replicate 42 anyA,
   [(0,uB g nb N),(1,zG2),(2,uG N n),(3,brOb n h),(4,uX (g i))],5⟩
def SU2 (g:Nat→T_GainBar) (nb:Nat) (N:Int) (i n:Nat) (h:Nat→T_Bar) (y x:Nat):St :=
  ⟨[uA g nb N,.pt 2 0 0 0,.pt 2 1 0 0,.p (.bool false),.pt 2 2 0 0,.p .any,.pt 4 4 0 0,.p (.int .i64 y)]++List.replicate 25 anyA++[uL g nb,.p (.int .i64 nb),.p (.int .i64 i),.p .any,.p .any,.p .any,.p (.int .i64 y),.p .any,.p .any,.p (.int .i64 x)]++List.replicate 39 anyA,
   [(0,uB g nb N),(1,zG2),(2,uG N n),(3,brOb n h),(4,uX (g i))],5⟩
def SV0 (g:Nat→T_GainBar) (nb:Nat) (N:Int) (k n:Nat) (h:Nat→T_Bar):St :=
  ⟨[uA g nb N,.pt 2 0 0 0,.pt 2 1 0 0,.p (.bool false),.pt 2 2 0 0,.p (.int .i64 k)]++List.replicate 84 anyA,
   [(0,uB g nb N),(1,zG2),(2,uG N n),(3,brOb n h)],4⟩
def SV1 (g:Nat→T_GainBar) (nb:Nat) (N:Int) (k i n:Nat) (h:Nat→T_Bar):St :=
  ⟨[uA g nb N,.pt 2 0 0 0,.pt 2 1 0 0,.p (.bool false),.pt 2 2 0 0,.p (.int .i64 k),.p (.int .i64 i)]++List.replicate 83 anyA,
   [(0,uB g nb N),(1,zG2),(2,uG N n),(3,brOb n h)],4⟩
theorem uWa (N:Int) (n:Nat) (h:Nat→T_Bar) (x:T_Bar) :
    zT Try.f69 [rg 2,rm [(1,oc [(0,brOb n h)] (.agg [.p (.int .i64 N),.ar 2 0 0 n]))] 2,rg 6,.head] [graO N n h,.p (.seq true 2 1 (fun _=>[.int .i64 x.1,.int .i64 x.2.1]))] [32,128,288] (SUW N (n+1) (snoc n h x)) =
    some ([.code (cAt (bodyOf Try.f69) [1,1,1,0]),.code (cAt (bodyOf Try.f69) [1,1,1,1])],zD [(NT 0 1),zE 97 [.agg [.p (.int .i64 N),.p (.seq true 2 n (bRw h))]] (zf50 n h) (.agg [.p (.int .i64 N),.ar 2 0 0 n]),((true=true)→ (AN 1)),(NL n n),(NL ((n+1)*16) 140737488355328),(NL (n+1) 9223372036854775807),(AN 0),((((List.map (fun v=>AV.p (absV v)) [Value.int IntKind.i64 0,Value.slice none 0 0]).length):Nat)=2),(NL 1 1),(AI 0),(AI N),(AN ((n+1))),(AN 2),(NL (n+1) (n+1)),(CV [(128,⟨true,2,1,(fun i_1=>[.p (.int .i64 N),.ar 2 288 0 (n+1)])⟩),(288,⟨false,2,(n+1),(fun i_1=>(if (i_1<n) then [.p (.int .i64 ((h i_1).1)),.p (.int .i64 ((h i_1).2.1))] else [.p (.int .i64 x.1),.p (.int .i64 x.2.1)]))⟩),(32,⟨true,2,1,(fun i_1=>[.p (.int .i64 0),.p (.nil)])⟩),(0,⟨true,2,1,(fun i_1=>[.p (.int .i64 N),.p (.seq true 2 n (bRw h))])⟩)] [32,128,288] 1 (n+1) (fun i=>if (i<n) then [.p (.int .i64 ((h i).1)),.p (.int .i64 ((h i).2.1))] else [.p (.int .i64 x.1),.p (.int .i64 x.2.1)]) (fun i=>[.p (.int .i64 (if i<n then (h i).1 else x.1)),.p (.int .i64 (if i<n then (h i).2.1 else x.2.1))]))] [0,1,0,2,0,3,4,5,0,2,6,6,7,8,8,9,7,8,8,10,6,11,12,13,14]):=by kernel_rfl
theorem uWb (N:Int) (n:Nat) (h r:Nat→T_Bar) :
    zP Try.f69 0 [rm [(2,oq [2] [(0,brOb n r)] (.tup []))] 0,rg 2] [.code (cAt (bodyOf Try.f69) [1,1,1,0]),.code (cAt (bodyOf Try.f69) [1,1,1,1])] (SUW N n h) [2] 1 [(0,brOb n r)] (.agg [.p (.int .i64 N),.ar 2 0 0 n]) =
    some [(NT 0 1),(AE n),Con Try.prog 98 1 (zf50 n h) [.ar 2 0 0 n,.p (.fn 73)] (zf50 n r) (.tup []),(NT 0 1),(NT 0 1),((true=true)→ (AN 1)),(NT 0 1),(AI N),(AN 0),(AN n),(AN 2),(NL n n),(AA n (fun i=>[.p (.int .i64 ((r i).1)),.p (.int .i64 ((r i).2.1))])),(AE n)]:=by kernel_rfl
theorem uCp (N:Int) (n:Nat) (h:Nat→T_Bar) :
    zS Try.f97 [rg 2,rg 8] [graO N n h] [224] [(0,brOb n h)] (.agg [.p (.int .i64 N),.ar 2 0 0 n]) =
    some [(NT 0 1),(NT 0 1),(NL 0 0),(NL ((0+n)*16) 140737488355328),(NL (0+n) 9223372036854775807),(NT 0 1),((true=true)→ (AN 1)),(NT 0 1),(AI N),(AN 0),(((0+n):Nat)=n),(AN 2),(NL n (0+n)),(AA n (fun i=>[.p (.int .i64 ((h i).1)),.p (.int .i64 ((h i).2.1))])),(AE n)]:=by kernel_rfl
theorem uIy (g:Nat→T_GainBar) (nb:Nat) (N:Int) (b1:Bool) :
    zS Try.f20 [rg 3,rm [(1,oc [] (.p (.bool b1)))] 14,.dec true,rg 3] [uA g nb N] [] [(0,brOb 0 (fun _=>(0,0,())))] (.tup [.agg [.p (.int .i64 0),.ar 2 0 0 0],.p (.bool false)]) =
    some (zD [(NT 0 1),zE 26 [(zf33 N nb g)] [] (.p (.bool b1)),(AG (!!b1)),(((!!b1)=true)→(NT 0 1)),(((!!b1)=true)→(ZLo (4*N))),(((!!b1)=true)→(ZHi (4*N))),(((!b1)=false)→ ((!!b1)=true)),(AG (!bif !b1 then true else decide (4*N>8))),(((!bif !b1 then true else decide (4*N>8))=true)→(NT 0 1)),(((!bif !b1 then true else decide (4*N>8))=true)→(ZLo (4*(↑nb:Int)))),(((!bif !b1 then true else decide (4*N>8))=true)→(ZHi (4*(↑nb:Int)))),(((bif !b1 then true else decide (4*N>8))=false)→ ((!bif !b1 then true else decide (4*N>8))=true)),((bif bif !b1 then true else decide (4*N>8) then true else decide (4*(↑nb:Int)>24))=true),((true=true)→ (AN 1)),(AI 0),(AN 0),(false=false),(AE 0)] [0,1,2,3,2,4,5,2,6,7,8,7,7,9,10,7,11,12,0,13,0,14,15,16,15,17]):=by kernel_rfl
theorem uIz (g:Nat→T_GainBar) (nb:Nat) (N:Int) (b1:Bool) :
    zT Try.f20 [rg 3,rm [(1,oc [] (.p (.bool b1)))] 14,.dec false,rg 6,rg 4,.head] [uA g nb N] [0,32,736] (SU0 g nb N 0 0 (fun _=>(0,0,()))) =
    some (zf30,zD [(NT 0 1),zE 26 [(zf33 N nb g)] [] (.p (.bool b1)),(AG (!!b1)),(((!!b1)=true)→(NT 0 1)),(((!!b1)=true)→(ZLo (4*N))),(((!!b1)=true)→(ZHi (4*N))),(((!b1)=false)→ ((!!b1)=true)),(AG (!bif !b1 then true else decide (4*N>8))),(((!bif !b1 then true else decide (4*N>8))=true)→(NT 0 1)),(((!bif !b1 then true else decide (4*N>8))=true)→(ZLo (4*(↑nb:Int)))),(((!bif !b1 then true else decide (4*N>8))=true)→(ZHi (4*(↑nb:Int)))),(((bif !b1 then true else decide (4*N>8))=false)→ ((!bif !b1 then true else decide (4*N>8))=true)),((bif bif !b1 then true else decide (4*N>8) then true else decide (4*(↑nb:Int)>24))=false),(ZLo (4*N)),(ZHi (4*N)),((true=true)→ (AN 1)),(AI N),(AN nb),(AP nb (fun i=>[.int .i64 ((g i).1),.int .i64 ((g i).2.1),.int .i64 ((g i).2.2.1),.int .i64 ((g i).2.2.2.1)])),(AN 0),(false=false),(AI ((↑nb:Int))),((0:Int)=(↑0:Int)),((([AV.p (PV.int IntKind.i64 N),uL g nb].length):Nat)=2),(NL 1 1),((((List.map (fun v=>AV.p (absV v)) [Value.int IntKind.i64 0,Value.slice none 0 0]).length):Nat)=2),(AI 0),(AI ((4*N)))] [0,1,2,3,2,4,5,2,6,7,8,7,7,9,10,7,11,12,0,13,14,0,15,0,16,17,18,19,19,20,19,17,18,21,22,23,24,24,16,17,18,25,24,24,26,25,24,24,27,19,19]):=by kernel_rfl
theorem uI0 (g:Nat→T_GainBar) (nb:Nat) (N:Int) (i n:Nat) (h:Nat→T_Bar) :
    zM 0 [rg 1,.dec true,rg 4,rg 1,.head] zf30 (SU0 g nb N i n h) [0,1,2,3,100] 1 (SU1 g nb N i n h 0) =
    some (zf10,zD [((decide ((↑i:Int)<(↑nb:Int)))=true),(IL 0 (↑i:Int)),(IT (↑i:Int) (↑nb:Int)),(NT 0 1),((true=true)→ (AN 1)),(AI N),(AN nb),(AP nb (fun i_1=>[.int .i64 ((g i_1).1),.int .i64 ((g i_1).2.1),.int .i64 ((g i_1).2.2.1),.int .i64 ((g i_1).2.2.2.1)])),(AN 0),(false=false),(AI ((↑nb:Int))),(AI ((↑i:Int))),((0:Int)=(↑0:Int)),(AN 2),(NL 1 1),(AI 0),(AI ((4*N))),(AN n),(NL n n),(AA n (fun i_1=>[.p (.int .i64 ((h i_1).1)),.p (.int .i64 ((h i_1).2.1))])),((((List.map (fun v=>AV.p (absV v)) [Value.int IntKind.i64 0,Value.int IntKind.i64 0,Value.int IntKind.i64 0,Value.int IntKind.i64 0]).length):Nat)=4),(AI (((g i).1))),(AI (((g i).2.1))),(AI (((g i).2.2.1))),(AI (((g i).2.2.2.1)))] [0,1,2,3,4,5,6,7,8,8,9,8,8,6,7,10,11,12,13,14,14,5,6,7,13,14,14,15,13,14,14,16,8,17,13,18,19,20,14,14,21,22,23,24]):=by kernel_rfl
theorem uIe (g:Nat→T_GainBar) (nb:Nat) (N:Int) (i n:Nat) (h r:Nat→T_Bar) :
    zP Try.f20 0 [rg 1,.dec false,rg 3] zf30 (SU0 g nb N i n h) [3] 1 [(0,brOb n r)] (.tup [.agg [.p (.int .i64 (4*N)),.ar 2 0 0 n],.p (.bool true)]) =
    some [((decide ((↑i:Int)<(↑nb:Int)))=false),(NT 0 1),(NT 0 1),((true=true)→ (AN 1)),(NT 0 1),(AI ((4*N))),(AN 0),(AN n),(true=true),(AN 2),(NL n n),(∀ i_1:Nat,(((i_1:Nat)<n)→(All []∧(([.p (.int .i64 ((h i_1).1)),.p (.int .i64 ((h i_1).2.1))]:List AV)=[.p (.int .i64 ((r i_1).1)),.p (.int .i64 ((r i_1).2.1))])))),(AE n)]:=by kernel_rfl
theorem uI1 (g:Nat→T_GainBar) (nb:Nat) (N:Int) (i n:Nat) (h:Nat→T_Bar) (y:Nat) :
    zM 0 [rg 1,.dec true,rg 2,rg 1,.head] zf10 (SU1 g nb N i n h y) [0,1,2,3,4] 1 (SU2 g nb N i n h y 0) =
    some (zf2,zD [((decide ((↑y:Int)<2))=true),(AI N),(AN nb),(AP nb (fun i_1=>[.int .i64 ((g i_1).1),.int .i64 ((g i_1).2.1),.int .i64 ((g i_1).2.2.1),.int .i64 ((g i_1).2.2.2.1)])),(AN 0),(false=false),(AI ((↑y:Int))),(AI ((↑nb:Int))),(AI ((↑i:Int))),((0:Int)=(↑0:Int)),(AN 2),(NL 1 1),(AI 0),(AI ((4*N))),(AN n),(NL n n),(AA n (fun i_1=>[.p (.int .i64 ((h i_1).1)),.p (.int .i64 ((h i_1).2.1))])),(AN 4),(AI (((g i).1))),(AI (((g i).2.1))),(AI (((g i).2.2.1))),(AI (((g i).2.2.2.1)))] [0,1,2,3,4,4,5,4,4,6,2,3,7,8,6,9,10,11,11,1,2,3,10,11,11,12,10,11,11,13,4,14,10,15,16,17,11,11,18,19,20,21]):=by kernel_rfl
theorem uI1e (g:Nat→T_GainBar) (nb:Nat) (N:Int) (i n:Nat) (h:Nat→T_Bar) (y:Nat) :
    zM 0 [rg 1,.dec false,rg 2,.head] zf10 (SU1 g nb N i n h y) [0,1,2,3] 1 (SU0 g nb N (i+1) n h) =
    some (zf30,zD [((decide ((↑y:Int)<2))=false),(ZLo ((↑i:Int)+1)),(ZHi ((↑i:Int)+1)),(AI N),(AN nb),(AP nb (fun i_1=>[.int .i64 ((g i_1).1),.int .i64 ((g i_1).2.1),.int .i64 ((g i_1).2.2.1),.int .i64 ((g i_1).2.2.2.1)])),(AN 0),(false=false),(AI ((↑nb:Int))),((((↑i:Int)+1):Int)=(↑(i+1):Int)),(AN 2),(NL 1 1),(AI 0),(AI ((4*N))),(AN n),(NL n n),(AA n (fun i_1=>[.p (.int .i64 ((h i_1).1)),.p (.int .i64 ((h i_1).2.1))]))] [0,1,2,3,4,5,6,6,7,6,4,5,8,9,10,11,11,3,4,5,10,11,11,12,10,11,11,13,6,14,10,15,16]):=by kernel_rfl
theorem uI2e (g:Nat→T_GainBar) (nb:Nat) (N:Int) (i n:Nat) (h:Nat→T_Bar) (y x:Nat) :
    zM 0 [rg 1,.dec false,rg 2,.head] zf2 (SU2 g nb N i n h y x) [0,1,2,3,4] 1 (SU1 g nb N i n h (y+1)) =
    some (zf10,zD [((decide ((↑x:Int)<2))=false),(ZLo ((↑y:Int)+1)),(ZHi ((↑y:Int)+1)),(AI N),(AN nb),(AP nb (fun i_1=>[.int .i64 ((g i_1).1),.int .i64 ((g i_1).2.1),.int .i64 ((g i_1).2.2.1),.int .i64 ((g i_1).2.2.2.1)])),(AN 0),(false=false),(AI ((↑nb:Int))),(AI ((↑i:Int))),((((↑y:Int)+1):Int)=(↑(y+1):Int)),(AN 2),(NL 1 1),(AI 0),(AI ((4*N))),(AN n),(NL n n),(AA n (fun i_1=>[.p (.int .i64 ((h i_1).1)),.p (.int .i64 ((h i_1).2.1))])),(AN 4),(AI (((g i).1))),(AI (((g i).2.1))),(AI (((g i).2.2.1))),(AI (((g i).2.2.2.1)))] [0,1,2,3,4,5,6,6,7,6,6,4,5,8,9,10,11,12,12,3,4,5,11,12,12,13,11,12,12,14,6,15,11,16,17,18,12,12,19,20,21,22]):=by kernel_rfl
theorem uI2f (g:Nat→T_GainBar) (nb:Nat) (N:Int) (i n:Nat) (h:Nat→T_Bar) (y x:Nat) :
    zM 0 [rg 1,.dec true,rg 2,rg 9,rg 17,rg 3,.dec false,rg 2,.head] zf2 (SU2 g nb N i n h y x) [0,1,2,3,4] 1 (SU2 g nb N i n h y (x+1)) =
    some (zf2,zD [((decide ((↑x:Int)<2))=true),(NT 0 1),(ZLo (4*(g i).1)),(ZHi (4*(g i).1)),(ZLo (2*(↑y:Int))),(ZHi (2*(↑y:Int))),(ZLo (4*(g i).1+2*(↑y:Int))),(ZHi (4*(g i).1+2*(↑y:Int))),(ZLo (4*(g i).1+2*(↑y:Int)+(↑x:Int))),(ZHi (4*(g i).1+2*(↑y:Int)+(↑x:Int))),(ZLo (4*(g i).2.1)),(ZHi (4*(g i).2.1)),(ZLo ((↑y:Int)+(g i).2.2.2.1)),(ZHi ((↑y:Int)+(g i).2.2.2.1)),(ZLo (2*bitI BinOp.and IntKind.i64 ((↑y:Int)+(g i).2.2.2.1) 1)),(ZHi (2*bitI BinOp.and IntKind.i64 ((↑y:Int)+(g i).2.2.2.1) 1)),(ZLo (4*(g i).2.1+2*bitI BinOp.and IntKind.i64 ((↑y:Int)+(g i).2.2.2.1) 1)),(ZHi (4*(g i).2.1+2*bitI BinOp.and IntKind.i64 ((↑y:Int)+(g i).2.2.2.1) 1)),(ZLo ((↑x:Int)+(g i).2.2.1)),(ZHi ((↑x:Int)+(g i).2.2.1)),(ZLo (4*(g i).2.1+2*bitI BinOp.and IntKind.i64 ((↑y:Int)+(g i).2.2.2.1) 1+bitI BinOp.and IntKind.i64 ((↑x:Int)+(g i).2.2.1) 1)),(ZHi (4*(g i).2.1+2*bitI BinOp.and IntKind.i64 ((↑y:Int)+(g i).2.2.2.1) 1+bitI BinOp.and IntKind.i64 ((↑x:Int)+(g i).2.2.1) 1)),((4*(g i).1+2*(↑y:Int)+(↑x:Int) != 4*(g i).2.1+2*bitI BinOp.and IntKind.i64 ((↑y:Int)+(g i).2.2.2.1) 1+bitI BinOp.and IntKind.i64 ((↑x:Int)+(g i).2.2.1) 1)=false),(ZLo ((↑x:Int)+1)),(ZHi ((↑x:Int)+1)),(AI N),(AN nb),(AP nb (fun i_1=>[.int .i64 ((g i_1).1),.int .i64 ((g i_1).2.1),.int .i64 ((g i_1).2.2.1),.int .i64 ((g i_1).2.2.2.1)])),(AN 0),(false=false),(AI ((↑y:Int))),(AI ((↑nb:Int))),(AI ((↑i:Int))),((((↑x:Int)+1):Int)=(↑(x+1):Int)),(AN 2),(NL 1 1),(AI 0),(AI ((4*N))),(AN n),(NL n n),(AA n (fun i_1=>[.p (.int .i64 ((h i_1).1)),.p (.int .i64 ((h i_1).2.1))])),(AN 4),(AI (((g i).1))),(AI (((g i).2.1))),(AI (((g i).2.2.1))),(AI (((g i).2.2.2.1)))] [0,1,2,3,4,5,6,7,8,9,1,10,11,1,12,13,14,15,16,17,1,18,19,20,21,22,23,24,25,26,27,28,28,29,28,28,30,26,27,31,32,30,33,34,35,35,25,26,27,34,35,35,36,34,35,35,37,28,38,34,39,40,41,35,35,42,43,44,45]):=by kernel_rfl
theorem uI2t (g:Nat→T_GainBar) (nb:Nat) (N:Int) (i n:Nat) (h:Nat→T_Bar) (y x:Nat) (e:T_Bar) (r:Nat→T_Bar) :
    zM 0 [rg 1,.dec true,rg 2,rg 9,rg 17,rg 3,.dec true,rm [(3,oc [] (.agg [.p (.int .i64 e.1),.p (.int .i64 e.2.1)])),(1,oc [(0,brOb (n+1) r)] (.agg [.p (.int .i64 (4*N)),.ar 2 0 0 (n+1)]))] 1,rg 2,.head] zf2 (SU2 g nb N i n h y x) [0,1,2,1189,4] 1 (SU2 g nb N i (n+1) r y (x+1)) =
    some (zf2,zD [((decide ((↑x:Int)<2))=true),(NT 0 1),(ZLo (4*(g i).1)),(ZHi (4*(g i).1)),(ZLo (2*(↑y:Int))),(ZHi (2*(↑y:Int))),(ZLo (4*(g i).1+2*(↑y:Int))),(ZHi (4*(g i).1+2*(↑y:Int))),(ZLo (4*(g i).1+2*(↑y:Int)+(↑x:Int))),(ZHi (4*(g i).1+2*(↑y:Int)+(↑x:Int))),(ZLo (4*(g i).2.1)),(ZHi (4*(g i).2.1)),(ZLo ((↑y:Int)+(g i).2.2.2.1)),(ZHi ((↑y:Int)+(g i).2.2.2.1)),(ZLo (2*bitI BinOp.and IntKind.i64 ((↑y:Int)+(g i).2.2.2.1) 1)),(ZHi (2*bitI BinOp.and IntKind.i64 ((↑y:Int)+(g i).2.2.2.1) 1)),(ZLo (4*(g i).2.1+2*bitI BinOp.and IntKind.i64 ((↑y:Int)+(g i).2.2.2.1) 1)),(ZHi (4*(g i).2.1+2*bitI BinOp.and IntKind.i64 ((↑y:Int)+(g i).2.2.2.1) 1)),(ZLo ((↑x:Int)+(g i).2.2.1)),(ZHi ((↑x:Int)+(g i).2.2.1)),(ZLo (4*(g i).2.1+2*bitI BinOp.and IntKind.i64 ((↑y:Int)+(g i).2.2.2.1) 1+bitI BinOp.and IntKind.i64 ((↑x:Int)+(g i).2.2.1) 1)),(ZHi (4*(g i).2.1+2*bitI BinOp.and IntKind.i64 ((↑y:Int)+(g i).2.2.2.1) 1+bitI BinOp.and IntKind.i64 ((↑x:Int)+(g i).2.2.1) 1)),((4*(g i).1+2*(↑y:Int)+(↑x:Int) != 4*(g i).2.1+2*bitI BinOp.and IntKind.i64 ((↑y:Int)+(g i).2.2.2.1) 1+bitI BinOp.and IntKind.i64 ((↑x:Int)+(g i).2.2.1) 1)=true),zE 70 [.p (.int .i64 (4*(g i).1+2*(↑y:Int)+(↑x:Int))),.p (.int .i64 (4*(g i).2.1+2*bitI BinOp.and IntKind.i64 ((↑y:Int)+(g i).2.2.2.1) 1+bitI BinOp.and IntKind.i64 ((↑x:Int)+(g i).2.2.1) 1))] [] (.agg [.p (.int .i64 e.1),.p (.int .i64 e.2.1)]),(AN 2),(NL n n),(NL 1 1),zE 69 [.agg [.p (.int .i64 (4*N)),.p (.seq true 2 n (bRw h))],.p (.seq true 2 1 (fun i_1=>[.int .i64 e.1,.int .i64 e.2.1]))] [(0,⟨false,2,(n+1),(fun i_1=>[.p (.int .i64 ((r i_1).1)),.p (.int .i64 ((r i_1).2.1))])⟩)] (.agg [.p (.int .i64 (4*N)),.ar 2 0 0 (n+1)]),((true=true)→ (AN 1)),(ZLo ((↑x:Int)+1)),(ZHi ((↑x:Int)+1)),(AI N),(AN nb),(AP nb (fun i_1=>[.int .i64 ((g i_1).1),.int .i64 ((g i_1).2.1),.int .i64 ((g i_1).2.2.1),.int .i64 ((g i_1).2.2.2.1)])),(AN 0),(false=false),(AI ((↑y:Int))),(AI ((↑nb:Int))),(AI ((↑i:Int))),((((↑x:Int)+1):Int)=(↑(x+1):Int)),(AI 0),(AI ((4*N))),(AN ((n+1))),(NL (n+1) (n+1)),(AA ((n+1)) (fun i_1=>[.p (.int .i64 ((r i_1).1)),.p (.int .i64 ((r i_1).2.1))])),(AN 4),(AI (((g i).1))),(AI (((g i).2.1))),(AI (((g i).2.2.1))),(AI (((g i).2.2.2.1)))] [0,1,2,3,4,5,6,7,8,9,1,10,11,1,12,13,14,15,16,17,1,18,19,20,21,22,1,23,24,25,24,26,27,1,28,29,30,31,32,33,34,34,35,34,34,36,32,33,37,38,36,39,24,26,26,31,32,33,24,26,26,40,24,26,26,41,34,42,24,43,44,45,26,26,46,47,48,49]):=by kernel_rfl
theorem uSy (g:Nat→T_GainBar) (nb:Nat) (N:Int) (b1:Bool) :
    zS Try.f21 [rg 3,rm [(2,oF)] 4,rm [(1,oc [] (.p (.bool b1)))] 14,.dec true,rg 3] [uA g nb N] [] [(0,brOb 0 (fun _=>(0,0,())))] (.tup [.agg [.p (.int .i64 0),.ar 2 0 0 0],.p (.bool false)]) =
    some (zD [(NT 0 1),((true=true)→ (AN 1)),zE 15 [(zf33 N nb g)] [] (.p (.bool b1)),(AG (!!b1)),(((!!b1)=true)→(NT 0 1)),(((!!b1)=true)→(ZLo (4*N))),(((!!b1)=true)→(ZHi (4*N))),(((!b1)=false)→ ((!!b1)=true)),(AG (!bif !b1 then true else decide (4*N>8))),(((!bif !b1 then true else decide (4*N>8))=true)→(NT 0 1)),(((!bif !b1 then true else decide (4*N>8))=true)→(ZLo (4*(↑nb:Int)))),(((!bif !b1 then true else decide (4*N>8))=true)→(ZHi (4*(↑nb:Int)))),(((bif !b1 then true else decide (4*N>8))=false)→ ((!bif !b1 then true else decide (4*N>8))=true)),((bif bif !b1 then true else decide (4*N>8) then true else decide (4*(↑nb:Int)>24))=true),(AI 0),(AN 0),(false=false),(AE 0)] [0,0,1,0,2,3,4,3,5,6,3,7,8,9,8,8,10,11,8,12,13,0,1,0,14,15,16,15,17]):=by kernel_rfl
theorem uSz (g:Nat→T_GainBar) (nb:Nat) (N:Int) (b1:Bool) :
    zT Try.f21 [rg 3,rg 7,rm [(1,oc [] (.p (.bool b1)))] 14,.dec false,rg 1,.head] [uA g nb N] [0,32,256,192] (SV0 g nb N 0 0 (fun _=>(0,0,()))) =
    some (zf31,zD [(NT 0 1),(ZLo (4*N)),(ZHi (4*N)),((true=true)→ (AN 1)),zE 15 [(zf33 N nb g)] [] (.p (.bool b1)),(AG (!!b1)),(((!!b1)=true)→(NT 0 1)),(((!!b1)=true)→(ZLo (4*N))),(((!!b1)=true)→(ZHi (4*N))),(((!b1)=false)→ ((!!b1)=true)),(AG (!bif !b1 then true else decide (4*N>8))),(((!bif !b1 then true else decide (4*N>8))=true)→(NT 0 1)),(((!bif !b1 then true else decide (4*N>8))=true)→(ZLo (4*(↑nb:Int)))),(((!bif !b1 then true else decide (4*N>8))=true)→(ZHi (4*(↑nb:Int)))),(((bif !b1 then true else decide (4*N>8))=false)→ ((!bif !b1 then true else decide (4*N>8))=true)),((bif bif !b1 then true else decide (4*N>8) then true else decide (4*(↑nb:Int)>24))=false),(AI N),(AN nb),(AP nb (fun i=>[.int .i64 ((g i).1),.int .i64 ((g i).2.1),.int .i64 ((g i).2.2.1),.int .i64 ((g i).2.2.2.1)])),(AN 0),(false=false),((0:Int)=(↑0:Int)),((([AV.p (PV.int IntKind.i64 N),uL g nb].length):Nat)=2),(NL 1 1),((((List.map (fun v=>AV.p (absV v)) [Value.int IntKind.i64 0,Value.slice none 0 0]).length):Nat)=2),(AI 0),(AI ((4*N))),(AN 2),(NL 0 0),(AA 0 (fun i=>[.p (.int .i64 0),.p (.int .i64 0)]))] [0,1,2,0,3,0,4,5,6,5,7,8,5,9,10,11,10,10,12,13,10,14,15,16,17,18,19,19,20,19,21,22,23,23,16,17,18,24,23,23,25,24,23,23,26,19,19,27,28,29]):=by kernel_rfl
theorem uS0 (g:Nat→T_GainBar) (nb:Nat) (N:Int) (k n:Nat) (h:Nat→T_Bar) :
    zM 0 [rg 2,.dec true,rg 1,.head] zf31 (SV0 g nb N k n h) [0,1,2,3] 1 (SV1 g nb N k 0 n h) =
    some (zf11,zD [((decide ((↑k:Int)<4))=true),(AI N),(AN nb),(AP nb (fun i=>[.int .i64 ((g i).1),.int .i64 ((g i).2.1),.int .i64 ((g i).2.2.1),.int .i64 ((g i).2.2.2.1)])),(AN 0),(false=false),(AI ((↑k:Int))),((0:Int)=(↑0:Int)),(AN 2),(NL 1 1),(AI 0),(AI ((4*N))),(AN n),(NL n n),(AA n (fun i=>[.p (.int .i64 ((h i).1)),.p (.int .i64 ((h i).2.1))]))] [0,1,2,3,4,4,5,4,6,7,8,9,9,1,2,3,8,9,9,10,8,9,9,11,4,12,8,13,14]):=by kernel_rfl
theorem uSe (g:Nat→T_GainBar) (nb:Nat) (N:Int) (k n:Nat) (h r:Nat→T_Bar) :
    zP Try.f21 0 [rg 2,.dec false,rg 3] zf31 (SV0 g nb N k n h) [3] 1 [(0,brOb n r)] (.tup [.agg [.p (.int .i64 (4*N)),.ar 2 0 0 n],.p (.bool true)]) =
    some [((decide ((↑k:Int)<4))=false),(NT 0 1),(NT 0 1),((true=true)→ (AN 1)),(NT 0 1),(AI ((4*N))),(AN 0),(AN n),(true=true),(AN 2),(NL n n),(∀ i:Nat,(((i:Nat)<n)→(All []∧(([.p (.int .i64 ((h i).1)),.p (.int .i64 ((h i).2.1))]:List AV)=[.p (.int .i64 ((r i).1)),.p (.int .i64 ((r i).2.1))])))),(AE n)]:=by kernel_rfl
theorem uS1e (g:Nat→T_GainBar) (nb:Nat) (N:Int) (k i n:Nat) (h:Nat→T_Bar) :
    zM 0 [rg 5,.dec false,rg 3,.head] zf11 (SV1 g nb N k i n h) [0,1,2,3] 1 (SV0 g nb N (k+1) n h) =
    some (zf31,zD [(NT 0 1),((decide ((↑i:Int)<(↑nb:Int)))=false),(ZLo ((↑k:Int)+1)),(ZHi ((↑k:Int)+1)),(AI N),(AN nb),(AP nb (fun i_1=>[.int .i64 ((g i_1).1),.int .i64 ((g i_1).2.1),.int .i64 ((g i_1).2.2.1),.int .i64 ((g i_1).2.2.2.1)])),(AN 0),(false=false),((((↑k:Int)+1):Int)=(↑(k+1):Int)),(AN 2),(NL 1 1),(AI 0),(AI ((4*N))),(AN n),(NL n n),(AA n (fun i_1=>[.p (.int .i64 ((h i_1).1)),.p (.int .i64 ((h i_1).2.1))]))] [0,1,2,3,4,5,6,7,7,8,7,9,10,11,11,4,5,6,10,11,11,12,10,11,11,13,7,14,10,15,16]):=by kernel_rfl
theorem uS1f (g:Nat→T_GainBar) (nb:Nat) (N:Int) (k i n:Nat) (h:Nat→T_Bar) :
    zM 0 [rg 5,.dec true,rg 7,rg 8,rg 8,rg 6,rg 9,rg 3,.dec false,rg 3,.head] zf11 (SV1 g nb N k i n h) [0,1,2,3] 1 (SV1 g nb N k (i+1) n h) =
    some (zf11,zD [(NT 0 1),((decide ((↑i:Int)<(↑nb:Int)))=true),(IL 0 (↑i:Int)),(IT (↑i:Int) (↑nb:Int)),((true=true)→ (AN 1)),(IL 0 (↑k:Int)),(IT 0 2),(ZLo ((↑k:Int) % 2+(g i).2.2.1)),(ZHi ((↑k:Int) % 2+(g i).2.2.1)),(ZLo ((↑k:Int) % 2+(g i).2.2.1+10)),(ZHi ((↑k:Int) % 2+(g i).2.2.1+10)),(IL 0 ((↑k:Int) % 2+(g i).2.2.1+10)),(ZHi ((↑k:Int) / 2)),(ZLo ((↑k:Int) / 2+(g i).2.2.2.1)),(ZHi ((↑k:Int) / 2+(g i).2.2.2.1)),(ZLo ((↑k:Int) / 2+(g i).2.2.2.1+10)),(ZHi ((↑k:Int) / 2+(g i).2.2.2.1+10)),(IL 0 ((↑k:Int) / 2+(g i).2.2.2.1+10)),(ZLo (4*(g i).1)),(ZHi (4*(g i).1)),(ZLo (4*(g i).1+(↑k:Int))),(ZHi (4*(g i).1+(↑k:Int))),(ZLo (4*(g i).2.1)),(ZHi (4*(g i).2.1)),(ZLo (2*(((↑k:Int) / 2+(g i).2.2.2.1+10) % 2))),(ZHi (2*(((↑k:Int) / 2+(g i).2.2.2.1+10) % 2))),(ZLo (4*(g i).2.1+2*(((↑k:Int) / 2+(g i).2.2.2.1+10) % 2))),(ZHi (4*(g i).2.1+2*(((↑k:Int) / 2+(g i).2.2.2.1+10) % 2))),(ZLo (4*(g i).2.1+2*(((↑k:Int) / 2+(g i).2.2.2.1+10) % 2)+((↑k:Int) % 2+(g i).2.2.1+10) % 2)),(ZHi (4*(g i).2.1+2*(((↑k:Int) / 2+(g i).2.2.2.1+10) % 2)+((↑k:Int) % 2+(g i).2.2.1+10) % 2)),((4*(g i).1+(↑k:Int) != 4*(g i).2.1+2*(((↑k:Int) / 2+(g i).2.2.2.1+10) % 2)+((↑k:Int) % 2+(g i).2.2.1+10) % 2)=false),(ZLo ((↑i:Int)+1)),(ZHi ((↑i:Int)+1)),(AI N),(AN nb),(AP nb (fun i_1=>[.int .i64 ((g i_1).1),.int .i64 ((g i_1).2.1),.int .i64 ((g i_1).2.2.1),.int .i64 ((g i_1).2.2.2.1)])),(AN 0),(false=false),(AI ((↑k:Int))),((((↑i:Int)+1):Int)=(↑(i+1):Int)),(AN 2),(NL 1 1),(AI 0),(AI ((4*N))),(AN n),(NL n n),(AA n (fun i_1=>[.p (.int .i64 ((h i_1).1)),.p (.int .i64 ((h i_1).2.1))]))] [0,1,0,2,3,0,4,5,6,0,7,8,9,10,11,6,5,6,12,0,13,14,15,16,17,6,0,18,19,20,21,0,22,23,24,25,26,27,28,29,30,31,32,33,34,35,36,36,37,36,38,39,40,41,41,33,34,35,40,41,41,42,40,41,41,43,36,44,40,45,46]):=by kernel_rfl
theorem uS1t (g:Nat→T_GainBar) (nb:Nat) (N:Int) (k i n:Nat) (h:Nat→T_Bar) (m:Nat) (r:Nat→T_Bar) :
    zM 0 [rg 5,.dec true,rg 7,rg 8,rg 8,rg 6,rg 9,rg 3,.dec true,rm [(8,oc [(0,brOb m r)] (.agg [.p (.int .i64 (4*N)),.ar 2 0 0 m]))] 1,rg 3,.head] zf11 (SV1 g nb N k i n h) [0,1,2,1732] 1 (SV1 g nb N k (i+1) m r) =
    some (zf11,zD [(NT 0 1),((decide ((↑i:Int)<(↑nb:Int)))=true),(IL 0 (↑i:Int)),(IT (↑i:Int) (↑nb:Int)),((true=true)→ (AN 1)),(IL 0 (↑k:Int)),(IT 0 2),(ZLo ((↑k:Int) % 2+(g i).2.2.1)),(ZHi ((↑k:Int) % 2+(g i).2.2.1)),(ZLo ((↑k:Int) % 2+(g i).2.2.1+10)),(ZHi ((↑k:Int) % 2+(g i).2.2.1+10)),(IL 0 ((↑k:Int) % 2+(g i).2.2.1+10)),(ZHi ((↑k:Int) / 2)),(ZLo ((↑k:Int) / 2+(g i).2.2.2.1)),(ZHi ((↑k:Int) / 2+(g i).2.2.2.1)),(ZLo ((↑k:Int) / 2+(g i).2.2.2.1+10)),(ZHi ((↑k:Int) / 2+(g i).2.2.2.1+10)),(IL 0 ((↑k:Int) / 2+(g i).2.2.2.1+10)),(ZLo (4*(g i).1)),(ZHi (4*(g i).1)),(ZLo (4*(g i).1+(↑k:Int))),(ZHi (4*(g i).1+(↑k:Int))),(ZLo (4*(g i).2.1)),(ZHi (4*(g i).2.1)),(ZLo (2*(((↑k:Int) / 2+(g i).2.2.2.1+10) % 2))),(ZHi (2*(((↑k:Int) / 2+(g i).2.2.2.1+10) % 2))),(ZLo (4*(g i).2.1+2*(((↑k:Int) / 2+(g i).2.2.2.1+10) % 2))),(ZHi (4*(g i).2.1+2*(((↑k:Int) / 2+(g i).2.2.2.1+10) % 2))),(ZLo (4*(g i).2.1+2*(((↑k:Int) / 2+(g i).2.2.2.1+10) % 2)+((↑k:Int) % 2+(g i).2.2.1+10) % 2)),(ZHi (4*(g i).2.1+2*(((↑k:Int) / 2+(g i).2.2.2.1+10) % 2)+((↑k:Int) % 2+(g i).2.2.1+10) % 2)),((4*(g i).1+(↑k:Int) != 4*(g i).2.1+2*(((↑k:Int) / 2+(g i).2.2.2.1+10) % 2)+((↑k:Int) % 2+(g i).2.2.1+10) % 2)=true),(AN 2),(NL n n),zE 71 [.agg [.p (.int .i64 (4*N)),.p (.seq true 2 n (bRw h))],.agg [.p (.int .i64 (if false=true then if 4*(g i).2.1+2*(((↑k:Int) / 2+(g i).2.2.2.1+10) % 2)+((↑k:Int) % 2+(g i).2.2.1+10) % 2>4*(g i).1+(↑k:Int) then 4*(g i).2.1+2*(((↑k:Int) / 2+(g i).2.2.2.1+10) % 2)+((↑k:Int) % 2+(g i).2.2.1+10) % 2 else 4*(g i).1+(↑k:Int) else if 4*(g i).2.1+2*(((↑k:Int) / 2+(g i).2.2.2.1+10) % 2)+((↑k:Int) % 2+(g i).2.2.1+10) % 2<4*(g i).1+(↑k:Int) then 4*(g i).2.1+2*(((↑k:Int) / 2+(g i).2.2.2.1+10) % 2)+((↑k:Int) % 2+(g i).2.2.1+10) % 2 else 4*(g i).1+(↑k:Int))),.p (.int .i64 (if true=true then if 4*(g i).2.1+2*(((↑k:Int) / 2+(g i).2.2.2.1+10) % 2)+((↑k:Int) % 2+(g i).2.2.1+10) % 2>4*(g i).1+(↑k:Int) then 4*(g i).2.1+2*(((↑k:Int) / 2+(g i).2.2.2.1+10) % 2)+((↑k:Int) % 2+(g i).2.2.1+10) % 2 else 4*(g i).1+(↑k:Int) else if 4*(g i).2.1+2*(((↑k:Int) / 2+(g i).2.2.2.1+10) % 2)+((↑k:Int) % 2+(g i).2.2.1+10) % 2<4*(g i).1+(↑k:Int) then 4*(g i).2.1+2*(((↑k:Int) / 2+(g i).2.2.2.1+10) % 2)+((↑k:Int) % 2+(g i).2.2.1+10) % 2 else 4*(g i).1+(↑k:Int)))]] [(0,⟨false,2,m,(fun i_1=>[.p (.int .i64 ((r i_1).1)),.p (.int .i64 ((r i_1).2.1))])⟩)] (.agg [.p (.int .i64 (4*N)),.ar 2 0 0 m]),(ZLo ((↑i:Int)+1)),(ZHi ((↑i:Int)+1)),(AI N),(AN nb),(AP nb (fun i_1=>[.int .i64 ((g i_1).1),.int .i64 ((g i_1).2.1),.int .i64 ((g i_1).2.2.1),.int .i64 ((g i_1).2.2.2.1)])),(AN 0),(false=false),(AI ((↑k:Int))),((((↑i:Int)+1):Int)=(↑(i+1):Int)),(NL 1 1),(AI 0),(AI ((4*N))),(AN m),(NL m m),(AA m (fun i_1=>[.p (.int .i64 ((r i_1).1)),.p (.int .i64 ((r i_1).2.1))]))] [0,1,0,2,3,0,4,5,6,0,7,8,9,10,11,6,5,6,12,0,13,14,15,16,17,6,0,18,19,20,21,0,22,23,24,25,26,27,28,29,30,0,31,32,33,0,4,34,35,36,37,38,39,39,40,39,41,42,31,43,43,36,37,38,31,43,43,44,31,43,43,45,39,46,31,47,48]):=by kernel_rfl
theorem con_copyGraphO (N:Int) (n:Nat) (h:Nat→T_Bar) (hn:n≤1048576):zE 97 [graO N n h] [(0,brOb n h)] (.agg [.p (.int .i64 N),.ar 2 0 0 n]):=by
  refine csZ Try.func97 (fun c hc=>?_)
  refine pkZ Try.func97 hc (uCp N n h) ?_
  and_intros
  all_goals (first | exact zI | (intro j hj;simp [All];done) | (simp;try omega))
theorem con_withBar (N:Int) (n:Nat) (h:Nat→T_Bar) (x:T_Bar) (hn:n≤1000000):zE 69 [graO N n h,.p (.seq true 2 1 (fun _=>[.int .i64 x.1,.int .i64 x.2.1]))]
    [(0,brOb (n+1) (srtB (n+1) (snoc n h x)))] (.agg [.p (.int .i64 N),.ar 2 0 0 (n+1)]):=by
  have h1:=con_copyGraphO N n h (by omega)
  have h2:=con_sortBars (n+1) (snoc n h x) (by omega)
  generalize srtB (n+1) (snoc n h x)=r at h2 ⊢
  refine csZ Try.func69 (fun c hc=>?_)
  refine pcD hc (uWa N n h x) ?_ (pkZ Try.func69 hc (uWb N (n+1) (snoc n h x) r) ?_)
  ·
    and_intros
    all_goals (first | exact zI | (exact h1) | (intro j hj;by_cases h':j<n<;>simp [h',snoc,cvtL,cvt,tg,tru,All];done) | (intro j hj;simp [All];done) | (simp;try omega))
  ·
    and_intros
    all_goals (first | exact zH | (exact h2) | (intro j hj;simp [All];done) | (simp;try omega))
def uu (b:T_GainBar) (k:Nat):Int:=4*b.1+(k:Int)
def vv (b:T_GainBar) (k:Nat):Int:=4*b.2.1+2*(((k:Int) / 2+b.2.2.2.1+10) % 2)+((k:Int) % 2+b.2.2.1+10) % 2
def el (b:T_GainBar) (k:Nat):List T_Bar:=bif uu b k != vv b k then [brX (uu b k) (vv b k)] else []
def EP (b:T_GainBar):Nat→List T_Bar
  | 0=>[]
  | k+1=>EP b k++el b k
def LI (g:Nat→T_GainBar):Nat→List T_Bar
  | 0=>[]
  | i+1=>LI g i++EP (g i) 4
def LK (g:Nat→T_GainBar) (k:Nat):Nat→List T_Bar
  | 0=>[]
  | i+1=>LK g k i++el (g i) k
def LS (g:Nat→T_GainBar) (nb:Nat):Nat→List T_Bar
  | 0=>[]
  | k+1=>LS g nb k++LK g k nb
theorem LI_LS (g:Nat→T_GainBar) (nb:Nat):(LI g nb).Perm (LS g nb 4):=by
  rw [List.perm_iff_count]
  intro a
  induction nb with
  | zero=>simp [LI,LS,LK]
  | succ n ih =>
    simp only [LI,LS,LK,EP,List.count_append,List.nil_append,List.count_nil] at ih ⊢
    omega
theorem srtL_congr {l m:List T_Bar} (h:l.Perm m):srtL l=srtL m:=srtL_eq ((srtL_perm l).trans h) (srtL_sorted l)
theorem el_t {b:T_GainBar} {k:Nat} (h:(uu b k != vv b k)=true):el b k=[brX (uu b k) (vv b k)]:=by simp only [el,h,cond_true]
theorem el_f {b:T_GainBar} {k:Nat} (h:(uu b k != vv b k)=false):el b k=[]:=by simp only [el,h,cond_false]
theorem and_one (a:Int) (h0:-20≤a) (h1:a≤20):bitI .and .i64 a 1=a % 2:=by
  have h:∀ k:Fin 41,bitI .and .i64 ((k.val:Int) - 20) 1=((k.val:Int) - 20) % 2:=by decide
  have:=h ⟨(a+20).toNat,by omega⟩
  rw [show ((⟨(a+20).toNat,by omega⟩:Fin 41).val:Int)=a+20 by simp;omega] at this
  rw [show a+20 - 20=a by omega] at this
  exact this
theorem lst_end {n:Nat} {h:Nat→T_Bar} {L:List T_Bar} (e:lstB n h=L):n=L.length∧∀ i,i<n→h i=L.getD i (0,0,()):=by
  subst e
  refine ⟨(lstB_len n h).symm,fun i hi=>?_⟩
  simp [lstB,List.getD_eq_getElem?_getD,hi]
theorem bad_gain {N:Int} {b:T_GainBar} (h:badG N b=false):0≤b.1∧b.1≤b.2.1∧b.2.1<N∧-9≤b.2.2.1∧b.2.2.1≤9∧-9≤b.2.2.2.1∧b.2.2.2.1≤9:=by
  unfold badG at h
  cases h1:decide (b.1<0)<;>cases h2:decide (b.1>b.2.1)<;>cases h3:decide (b.2.1≥N)<;>cases h4:inB b.2.2.1 (-9) 9<;>cases h5:inB b.2.2.2.1 (-9) 9<;>simp [h1,h2,h3,h4,h5] at h
  simp only [inB,Bool.and_eq_true,decide_eq_true_eq,decide_eq_false_iff_not] at h1 h2 h3 h4 h5
  omega
theorem good_gain {v:T_GainGraph}:∀ {n:Nat},goodG v n=true→∀ k,k<n→badG v.1 (v.2.1.2 k)=false
  | 0,_=>fun k hk=>absurd hk (Nat.not_lt_zero _)
  | n+1,h=>by
    simp only [goodG,Bool.and_eq_true,Bool.not_eq_true'] at h
    intro k hk
    by_cases e':k=n
    · rw [e'];exact h.2
    · exact good_gain h.1 k (by omega)
theorem gain_in2 {v:T_GainGraph} (h:isGainF v=true):1≤v.1∧v.1≤4∧v.2.1.1≤8∧∀ i,i<v.2.1.1→0≤(v.2.1.2 i).1∧(v.2.1.2 i).1≤(v.2.1.2 i).2.1∧(v.2.1.2 i).2.1<v.1∧-9≤(v.2.1.2 i).2.2.1∧(v.2.1.2 i).2.2.1≤9∧-9≤(v.2.1.2 i).2.2.2.1∧(v.2.1.2 i).2.2.2.1≤9:=by
  simp only [isGainF,inB,Bool.and_eq_true,decide_eq_true_eq] at h
  exact ⟨h.2.1.1,h.2.1.2,h.2.2,fun i hi=>bad_gain (good_gain h.1 i hi)⟩
def unB (v:T_GainGraph):Bool:=isGainF v&&(decide (4*v.1≤8)&&decide (4*(v.2.1.1:Int)≤24))
def unL (v:T_GainGraph):List T_Bar:=srtL (LI v.2.1.2 v.2.1.1)
def unG (v:T_GainGraph):T_Graph:=if unB v=true then (4*v.1,((unL v).length,fun i=>(unL v).getD i (0,0,())),()) else (0,(0,fun _=>(0,0,())),())
theorem con_Unr_i (v:T_GainGraph) (hs:smS s_GainGraph v) :
    zE 20 [gainA v] [(0,brOb (unG v).2.1.1 (unG v).2.1.2)] (.tup [.agg [.p (.int .i64 (unG v).1),.ar 2 0 0 (unG v).2.1.1],.p (.bool (unB v))]):=by
  have c1:=con_IsGainGraph_i v hs
  rw [show gainA v=uA v.2.1.2 v.2.1.1 v.1 from rfl] at c1 ⊢
  refine csZ Try.func20 (fun c hc=>?_)
  cases hb:unB v with
  | false =>
    rw [show unG v=(0,(0,fun _=>(0,0,())),()) by simp [unG,hb]]
    cases hg:isGainF v with
    | false =>
      rw [hg] at c1
      refine pkD Try.func20 hc (uIy v.2.1.2 v.2.1.1 v.1 false) ?_
      and_intros
      all_goals (first | exact zH | (exact c1) | (intro j hj;exact absurd hj (Nat.not_lt_zero _)) | (intro h;simp at h;done) | (simp;done))
    | true =>
      rw [hg] at c1
      obtain ⟨g1,g2,g3,g4⟩:=gain_in2 hg
      have hcd:(bif bif !true then true else decide (4*v.1>8) then true else decide (4*(v.2.1.1:Int)>24))=true:=by
        simp only [unB,hg,Bool.true_and,Bool.and_eq_false_iff,decide_eq_false_iff_not] at hb
        by_cases h8:4*v.1>8
        · simp [h8]
        · have:4*(v.2.1.1:Int)>24:=by omega
          simp [h8,this]
      refine pkD Try.func20 hc (uIy v.2.1.2 v.2.1.1 v.1 true) ?_
      and_intros
      all_goals (first | exact zH | (exact c1) | (exact hcd) | (intro j hj;exact absurd hj (Nat.not_lt_zero _)) | (intro h;omega) | (simp;done))
  | true =>
    have hb':=hb
    simp only [unB,Bool.and_eq_true,decide_eq_true_eq] at hb'
    obtain ⟨hg,h8,h24⟩:=hb'
    rw [hg] at c1
    obtain ⟨g1,g2,g3,g4⟩:=gain_in2 hg
    rw [show unG v=(4*v.1,((unL v).length,fun i=>(unL v).getD i (0,0,())),()) by simp [unG,hb]]
    have hcd:(bif bif !true then true else decide (4*v.1>8) then true else decide (4*(v.2.1.1:Int)>24))=false:=by
      have a1:¬ 4*v.1>8:=by omega
      have a2:¬ 4*(v.2.1.1:Int)>24:=by omega
      simp [a1,a2]
    generalize hL:unL v=L
    unfold unL at hL
    generalize v.2.1.2=g at *
    generalize v.2.1.1=nb at *
    generalize v.1=N at *
    have l2:∀ i y,i<nb→y<2→(∀ n h,n≤4*i+(2*y+2)→lstB n h=srtL (LI g i++EP (g i) (2*y+2))→zR c 20 zf10 (SU1 g nb N i n h (y+1)) (Post c [(0,brOb L.length (fun i=>L.getD i (0,0,())))] (.tup [.agg [.p (.int .i64 (4*N)),.ar 2 0 0 L.length],.p (.bool true)]))) →
        ∀ d x n h,x+d=2→n≤4*i+(2*y+x)→lstB n h=srtL (LI g i++EP (g i) (2*y+x)) →
        zR c 20 zf2 (SU2 g nb N i n h y x) (Post c [(0,brOb L.length (fun i=>L.getD i (0,0,())))] (.tup [.agg [.p (.int .i64 (4*N)),.ar 2 0 0 L.length],.p (.bool true)])):=by
      intro i y hi hy hk d
      induction d with
      | zero =>
        intro x n h hx hn hh
        obtain rfl:x=2:=by omega
        have hd:decide (((2:Nat):Int)<2)=false:=by decide
        refine pcD hc (uI2e g nb N i n h y 2) ?_ (hk n h hn hh)
        and_intros
        all_goals (first | exact zN | (exact hd) | (intro j hj;simp [All]))
      | succ d ih =>
        intro x n h hx hn hh
        have hd:decide ((x:Int)<2)=true:=by simp;omega
        have hgi:=g4 i hi
        have hbit1:=and_one ((y:Int)+(g i).2.2.2.1) (by omega) (by omega)
        have hbit2:=and_one ((x:Int)+(g i).2.2.1) (by omega) (by omega)
        have hu:4*(g i).1+2*(y:Int)+(x:Int)=uu (g i) (2*y+x):=by unfold uu;omega
        have hv:4*(g i).2.1+2*bitI .and .i64 ((y:Int)+(g i).2.2.2.1) 1+bitI .and .i64 ((x:Int)+(g i).2.2.1) 1=vv (g i) (2*y+x):=by
          rw [hbit1,hbit2];unfold vv;omega
        have hbd1:0≤bitI .and .i64 ((y:Int)+(g i).2.2.2.1) 1∧bitI .and .i64 ((y:Int)+(g i).2.2.2.1) 1≤1:=by rw [hbit1];omega
        have hbd2:0≤bitI .and .i64 ((x:Int)+(g i).2.2.1) 1∧bitI .and .i64 ((x:Int)+(g i).2.2.1) 1≤1:=by rw [hbit2];omega
        cases he:(uu (g i) (2*y+x) != vv (g i) (2*y+x)) with
        | false =>
          have hcn:(4*(g i).1+2*(y:Int)+(x:Int) != 4*(g i).2.1+2*bitI .and .i64 ((y:Int)+(g i).2.2.2.1) 1+bitI .and .i64 ((x:Int)+(g i).2.2.1) 1)=false:=by rw [hu,hv];exact he
          refine pcD hc (uI2f g nb N i n h y x) ?_ (ih (x+1) n h (by omega) (by omega) (by
            rw [hh,show 2*y+(x+1)=(2*y+x)+1 by omega,EP,el_f he,List.append_nil]))
          and_intros
          all_goals (first | exact zN | (exact hd) | (exact hcn) | (intro j hj;simp [All]))
        | true =>
          have hcn:(4*(g i).1+2*(y:Int)+(x:Int) != 4*(g i).2.1+2*bitI .and .i64 ((y:Int)+(g i).2.2.2.1) 1+bitI .and .i64 ((x:Int)+(g i).2.2.1) 1)=true:=by rw [hu,hv];exact he
          have cb:=con_barX (4*(g i).1+2*(y:Int)+(x:Int)) (4*(g i).2.1+2*bitI .and .i64 ((y:Int)+(g i).2.2.2.1) 1+bitI .and .i64 ((x:Int)+(g i).2.2.1) 1)
          have hel:=el_t he
          rw [← hu,← hv] at hel
          generalize brX (4*(g i).1+2*(y:Int)+(x:Int)) (4*(g i).2.1+2*bitI .and .i64 ((y:Int)+(g i).2.2.2.1) 1+bitI .and .i64 ((x:Int)+(g i).2.2.1) 1)=e at cb hel
          have cw:=con_withBar (4*N) n h e (by omega)
          have hl:lstB (n+1) (srtB (n+1) (snoc n h e))=srtL (LI g i++EP (g i) (2*y+(x+1))):=by
            rw [lstB_srt,lstB_snoc,hh,show 2*y+(x+1)=(2*y+x)+1 by omega,EP,hel,← List.append_assoc]
            exact srtL_congr (List.Perm.append_right _ (srtL_perm _))
          generalize srtB (n+1) (snoc n h e)=r at cw hl
          refine pcD hc (uI2t g nb N i n h y x e r) ?_ (ih (x+1) (n+1) r (by omega) (by omega) hl)
          and_intros
          all_goals (first | exact zI | (exact hd) | (exact hcn) | (exact cb) | (exact cw) | (intro j hj;simp [All]))
    have l1:∀ i,i<nb→(∀ n h,n≤4*(i+1)→lstB n h=srtL (LI g (i+1))→zR c 20 zf30 (SU0 g nb N (i+1) n h) (Post c [(0,brOb L.length (fun i=>L.getD i (0,0,())))] (.tup [.agg [.p (.int .i64 (4*N)),.ar 2 0 0 L.length],.p (.bool true)]))) →
        ∀ d y n h,y+d=2→n≤4*i+2*y→lstB n h=srtL (LI g i++EP (g i) (2*y)) →
        zR c 20 zf10 (SU1 g nb N i n h y) (Post c [(0,brOb L.length (fun i=>L.getD i (0,0,())))] (.tup [.agg [.p (.int .i64 (4*N)),.ar 2 0 0 L.length],.p (.bool true)])):=by
      intro i hi hk d
      induction d with
      | zero =>
        intro y n h hx hn hh
        obtain rfl:y=2:=by omega
        have hd:decide (((2:Nat):Int)<2)=false:=by decide
        refine pcD hc (uI1e g nb N i n h 2) ?_ (hk n h (by omega) hh)
        and_intros
        all_goals (first | exact zN | (exact hd) | (intro j hj;simp [All]))
      | succ d ih =>
        intro y n h hx hn hh
        have hd:decide ((y:Int)<2)=true:=by simp;omega
        refine pcD hc (uI1 g nb N i n h y) ?_ (l2 i y hi (by omega) (fun n' h' h1 h2=>ih (y+1) n' h' (by omega) (by omega) h2) 2 0 n h (by omega) (by omega) hh)
        and_intros
        all_goals (first | exact zN | (exact hd) | (intro j hj;simp [All]))
    have l0:∀ d i n h,i+d=nb→n≤4*i→lstB n h=srtL (LI g i) →
        zR c 20 zf30 (SU0 g nb N i n h) (Post c [(0,brOb L.length (fun i=>L.getD i (0,0,())))] (.tup [.agg [.p (.int .i64 (4*N)),.ar 2 0 0 L.length],.p (.bool true)])):=by
      intro d
      induction d with
      | zero =>
        intro i n h hi hn hh
        obtain rfl:i=nb:=by omega
        have hd:decide ((i:Int)<(i:Int))=false:=by simp
        rw [hL] at hh
        obtain ⟨e1,e2⟩:=lst_end hh
        rw [← e1]
        refine pkZ Try.func20 hc (uIe g i N i n h (fun i=>L.getD i (0,0,()))) ?_
        and_intros
        iterate 2 all_goals (first | exact zI | (exact hd) | (intro j hj;simp [All];done) | (intro j hj;rw [e2 j hj];simp [cvtL,cvt,tg,tru,All]) | simp only [All])
      | succ d ih =>
        intro i n h hi hn hh
        have hd:decide ((i:Int)<(nb:Int))=true:=by simp;omega
        refine pcD hc (uI0 g nb N i n h) ?_ (l1 i (by omega) (fun n' h' h1 h2=>ih (i+1) n' h' (by omega) h1 h2) 2 0 n h (by omega) (by omega) (by rw [hh];simp [EP]))
        and_intros
        all_goals (first | exact zI | (exact hd) | (intro j hj;simp [All]))
    refine pcD hc (uIz g nb N true) ?_ (l0 nb 0 0 _ (by omega) (by omega) (by simp [lstB,LI,srtL]))
    and_intros
    all_goals (first | exact zH | (exact c1) | (exact hcd) | (intro j hj;exact absurd hj (Nat.not_lt_zero _)) | (intro h;omega) | (intro j hj;simp [All]))
theorem con_Unr_s (v:T_GainGraph) (hs:smS s_GainGraph v) :
    zE 21 [gainA v] [(0,brOb (unG v).2.1.1 (unG v).2.1.2)] (.tup [.agg [.p (.int .i64 (unG v).1),.ar 2 0 0 (unG v).2.1.1],.p (.bool (unB v))]):=by
  have c1:=con_IsGainGraph_s v hs
  rw [show gainA v=uA v.2.1.2 v.2.1.1 v.1 from rfl] at c1 ⊢
  refine csZ Try.func21 (fun c hc=>?_)
  cases hb:unB v with
  | false =>
    rw [show unG v=(0,(0,fun _=>(0,0,())),()) by simp [unG,hb]]
    cases hg:isGainF v with
    | false =>
      rw [hg] at c1
      refine pkD Try.func21 hc (uSy v.2.1.2 v.2.1.1 v.1 false) ?_
      and_intros
      all_goals (first | exact zH | (exact c1) | (intro j hj;exact absurd hj (Nat.not_lt_zero _)) | (intro h;simp at h;done) | (simp;done))
    | true =>
      rw [hg] at c1
      obtain ⟨g1,g2,g3,g4⟩:=gain_in2 hg
      have hcd:(bif bif !true then true else decide (4*v.1>8) then true else decide (4*(v.2.1.1:Int)>24))=true:=by
        simp only [unB,hg,Bool.true_and,Bool.and_eq_false_iff,decide_eq_false_iff_not] at hb
        by_cases h8:4*v.1>8
        · simp [h8]
        · have:4*(v.2.1.1:Int)>24:=by omega
          simp [h8,this]
      refine pkD Try.func21 hc (uSy v.2.1.2 v.2.1.1 v.1 true) ?_
      and_intros
      all_goals (first | exact zH | (exact c1) | (exact hcd) | (intro j hj;exact absurd hj (Nat.not_lt_zero _)) | (intro h;omega) | (simp;done))
  | true =>
    have hb':=hb
    simp only [unB,Bool.and_eq_true,decide_eq_true_eq] at hb'
    obtain ⟨hg,h8,h24⟩:=hb'
    rw [hg] at c1
    obtain ⟨g1,g2,g3,g4⟩:=gain_in2 hg
    rw [show unG v=(4*v.1,((unL v).length,fun i=>(unL v).getD i (0,0,())),()) by simp [unG,hb]]
    have hcd:(bif bif !true then true else decide (4*v.1>8) then true else decide (4*(v.2.1.1:Int)>24))=false:=by
      have a1:¬ 4*v.1>8:=by omega
      have a2:¬ 4*(v.2.1.1:Int)>24:=by omega
      simp [a1,a2]
    generalize hL:unL v=L
    unfold unL at hL
    rw [srtL_congr (LI_LS v.2.1.2 v.2.1.1)] at hL
    generalize v.2.1.2=g at *
    generalize v.2.1.1=nb at *
    generalize v.1=N at *
    have l1:∀ k,k<4→(∀ n h,n≤8*(k+1)→lstB n h=srtL (LS g nb (k+1))→zR c 21 zf31 (SV0 g nb N (k+1) n h) (Post c [(0,brOb L.length (fun i=>L.getD i (0,0,())))] (.tup [.agg [.p (.int .i64 (4*N)),.ar 2 0 0 L.length],.p (.bool true)]))) →
        ∀ d i n h,i+d=nb→n≤8*k+i→lstB n h=srtL (LS g nb k++LK g k i) →
        zR c 21 zf11 (SV1 g nb N k i n h) (Post c [(0,brOb L.length (fun i=>L.getD i (0,0,())))] (.tup [.agg [.p (.int .i64 (4*N)),.ar 2 0 0 L.length],.p (.bool true)])):=by
      intro k hk4 hk d
      induction d with
      | zero =>
        intro i n h hi hn hh
        obtain rfl:i=nb:=by omega
        have hd:decide ((i:Int)<(i:Int))=false:=by simp
        refine pcD hc (uS1e g i N k i n h) ?_ (hk n h (by omega) hh)
        and_intros
        all_goals (first | exact zN | (exact hd) | (intro j hj;simp [All]))
      | succ d ih =>
        intro i n h hi hn hh
        have hd:decide ((i:Int)<(nb:Int))=true:=by simp;omega
        have hgi:=g4 i (by omega)
        cases he:(uu (g i) k != vv (g i) k) with
        | false =>
          refine pcD hc (uS1f g nb N k i n h) ?_ (ih (i+1) n h (by omega) (by omega) (by
            rw [hh,LK,el_f he,List.append_nil]))
          and_intros
          all_goals (first | exact zI | (exact hd) | (exact he) | (intro j hj;simp [All]))
        | true =>
          have hel:=el_t he
          have cp:=con_l2Put h n (4*N).toNat (brX (uu (g i) k) (vv (g i) k)) (by omega)
          have hN:(((4*N).toNat:Nat):Int)=4*N:=by omega
          rw [grG,hN] at cp
          have hsrt:(lstB n h).Pairwise leB:=by rw [hh];exact srtL_sorted _
          have hl:=insR_list h n (brX (uu (g i) k) (vv (g i) k)) hsrt
          have hn':=insR_n h n (brX (uu (g i) k) (vv (g i) k))
          rw [hn'] at cp hl
          have hl2:lstB (n+1) (insR h n (brX (uu (g i) k) (vv (g i) k))).2=srtL (LS g nb k++LK g k (i+1)):=by
            rw [hl,hh,LK,hel,← List.append_assoc]
            exact srtL_congr (List.Perm.append_right _ (srtL_perm _))
          generalize (insR h n (brX (uu (g i) k) (vv (g i) k))).2=r at cp hl2
          refine pcD hc (uS1t g nb N k i n h (n+1) r) ?_ (ih (i+1) (n+1) r (by omega) (by omega) hl2)
          and_intros
          all_goals (first | exact zI | (exact hd) | (exact he) | (exact cp) | (intro j hj;simp [All]))
    have l0:∀ d k n h,k+d=4→n≤8*k→lstB n h=srtL (LS g nb k) →
        zR c 21 zf31 (SV0 g nb N k n h) (Post c [(0,brOb L.length (fun i=>L.getD i (0,0,())))] (.tup [.agg [.p (.int .i64 (4*N)),.ar 2 0 0 L.length],.p (.bool true)])):=by
      intro d
      induction d with
      | zero =>
        intro k n h hk hn hh
        obtain rfl:k=4:=by omega
        have hd:decide (((4:Nat):Int)<4)=false:=by decide
        rw [hL] at hh
        obtain ⟨e1,e2⟩:=lst_end hh
        rw [← e1]
        refine pkZ Try.func21 hc (uSe g nb N 4 n h (fun i=>L.getD i (0,0,()))) ?_
        and_intros
        iterate 2 all_goals (first | exact zI | (exact hd) | (intro j hj;simp [All];done) | (intro j hj;rw [e2 j hj];simp [cvtL,cvt,tg,tru,All]) | simp only [All])
      | succ d ih =>
        intro k n h hk hn hh
        have hd:decide ((k:Int)<4)=true:=by simp;omega
        refine pcD hc (uS0 g nb N k n h) ?_ (l1 k (by omega) (fun n' h' h1 h2=>ih (k+1) n' h' (by omega) h1 h2) nb 0 n h (by omega) (by omega) (by rw [hh];simp [LK]))
        and_intros
        all_goals (first | exact zN | (exact hd) | (intro j hj;simp [All]))
    refine pcD hc (uSz g nb N true) ?_ (l0 4 0 0 _ (by omega) (by omega) (by simp [lstB,LS,srtL]))
    and_intros
    all_goals (first | exact zH | (exact c1) | (exact hcd) | (intro j hj;exact absurd hj (Nat.not_lt_zero _)) | (intro h;omega) | (intro j hj;simp [All]))
theorem EP_len (b:T_GainBar):∀ k,(EP b k).length≤k
  | 0=>Nat.le_refl _
  | k+1=>by
    have:=EP_len b k
    have:(el b k).length≤1:=by unfold el;cases (uu b k != vv b k)<;>simp
    simp only [EP,List.length_append];omega
theorem LI_len (g:Nat→T_GainBar):∀ i,(LI g i).length≤4*i
  | 0=>Nat.le_refl _
  | i+1=>by
    have:=LI_len g i
    have:=EP_len (g i) 4
    simp only [LI,List.length_append];omega
theorem unG_le (v:T_GainGraph):(unG v).2.1.1≤24:=by
  unfold unG
  split
  · rename_i h
    simp only [unB,Bool.and_eq_true,decide_eq_true_eq] at h
    have:=LI_len v.2.1.2 v.2.1.1
    show (unL v).length≤24
    unfold unL
    rw [srtL_len]
    omega
  · exact Nat.zero_le _
open Go
inductive FindR (N k nb m:Nat) (g:Nat→T_Bar) (F T Q:Nat→Int) (a b:Int):Hp→AV→Prop
  | yes (F' T':Nat→Int) (h:Moved N k nb m g F T Q a b F' T' true):FindR N k nb m g F T Q a b (pebR3 N m F T Q F' T' Q) (.tup [pebO N m 3,.p (.bool true)])
  | no (h:Moved N k nb m g F T Q a b F T false):FindR N k nb m g F T Q a b (pebR N m F T Q) (.tup [pebO N m 0,.p (.bool false)])
def OkBars (N nb:Nat) (g:Nat→T_Bar):Prop:=∀ e,e<nb→0≤(g e).1∧(g e).1<(g e).2.1∧(g e).2.1<N
def AscB (n:Nat) (h:Nat→T_Bar):Prop:=∀ s,s+1<n→aft (h s) (h (s+1))=true
theorem isG_of {N nb:Nat} {g:Nat→T_Bar} (hN:1≤N∧N≤8) (hnb:nb≤24) (hok:OkBars N nb g) (ha:AscB nb g):isGraphF ((N:Int),(nb,g),())=true:=by
  have hgood:∀ k,k≤nb→goodB (N:Int) g k=true:=by
    intro k
    induction k with
    | zero=>intro _;rfl
    | succ k ih =>
      intro hk
      rw [goodB,ih (by omega),Bool.true_and,Bool.not_eq_true']
      have hb:=hok k (by omega)
      have a1:decide ((g k).1<0)=false:=decide_eq_false (by omega)
      have a2:decide ((g k).1≥(g k).2.1)=false:=decide_eq_false (by omega)
      have a3:decide ((g k).2.1≥(N:Int))=false:=decide_eq_false (by omega)
      unfold badB
      rw [a1,a2,a3]
      simp only [cond_false]
      by_cases h0:k=0
      · subst h0;rfl
      · have:=ha (k - 1) (by omega)
        rw [show k - 1+1=k by omega] at this
        rw [show ((k:Int) - 1).toNat=k - 1 by omega,this]
        cases decide ((k:Int)>0)<;>rfl
  have hin:inB (N:Int) 1 8=true:=by simp [inB];omega
  rw [isGraphF,if_pos ⟨hin,hnb⟩]
  exact hgood nb (Nat.le_refl _)
theorem pdZ (n:Nat) (f:Nat→Int) :
    zS Try.f3 [rg 1,rm [(1,oc [] (.p (.bool true)))] 0,.dec true,rg 1] [cdA n f] [] [] (.p (.bool true)) =
    some [zE 5 [.p (.seq true 1 n (fun i=>[.int .u8 (f i)]))] [] (.p (.bool true)),(true=true),(true=true)]:=by kernel_rfl
theorem pdF (n:Nat) (f:Nat→Int) (g:T_GainGraph) (v x y:Int) (w a:T_GainGraph) (u:T_IntS) (c i j:T_GainGraph) :
    zS Try.f3 [rg 1,rm [(1,oc [] (.p (.bool false)))] 0,.dec false,rm [(1,oc [(0,gbOb g.2.1)] (.tup [gaO g 0,.p (.int .i64 v),.p (.int .i64 x),.p (.int .i64 y)]))] 10,rm [(4,oc [(0,gbOb (swR g v x y).2.1)] (.tup [gaO (swR g v x y) 0,.p (.bool (swF g v x y))]))] 6,rm [(4,oc [(0,gbOb (swR g v x y).2.1)] (.tup [gaO (swR g v x y) 0,.p (.bool (swF g v x y))]))] 6,rm [(6,oc [] (.p (.bool true)))] 2,.dec false,rm [(3,oc [] (.p (.bool (sgF g)))),(1,oc [] (.p (.bool (sgF g)))),(3,oc [] (.p (.int .i64 (gfF g)))),(1,oc [] (.p (.int .i64 (gfF g))))] 3,.dec false,rm [(1,oc [(0,gbOb w.2.1)] (gaO w 0))] 2,rm [(1,oc [] (.p (.int .i64 (gfF w))))] 1,rm [(2,oc [] (.p (.int .i64 (gfF w)))),(3,oc [] (.p (.bool (sgF w)))),(1,oc [] (.p (.bool (sgF w)))),(4,oc [] (.p (.bool (isGainF w)))),(5,oc [] (.p (.bool (sgF w))))] 14,.dec false,rm [(1,oc [(0,gbOb a.2.1),(1,iOb u.1 u.2)] (.tup [gaO a 0,.ar 1 1 0 u.1]))] 6,rm [(2,oc [] (.p (.bool (isBalF a u))))] 1,rm [(3,oc [] (.p (.bool (isBalF a u))))] 1,.dec false,rg 6,.dec false,rm [(1,oc [(0,gbOb c.2.1)] (gaO c 0))] 2,rm [(1,oc [(0,brOb (unG c).2.1.1 (unG c).2.1.2)] (.tup [.agg [.p (.int .i64 (unG c).1),.ar 2 0 0 (unG c).2.1.1],.p (.bool (unB c))]))] 6,rm [(1,oc [(0,brOb (unG c).2.1.1 (unG c).2.1.2)] (.tup [.agg [.p (.int .i64 (unG c).1),.ar 2 0 0 (unG c).2.1.1],.p (.bool (unB c))]))] 6,rm [(1,oc [(0,gbOb i.2.1),(1,gbOb j.2.1)] (.tup [gaO i 0,gaO j 1]))] 7,rm [(6,oc [] (.p (.bool true))),(6,oc [] (.p (.bool (isGraphF (unG c))))),(5,oc [] (.p (.bool (eqGains i j)))),(2,oc [] (.p (.bool (eqGains i j)))),(4,oc [] (.p (.bool (isGainF w)))),(1,oc [] (.p (.bool (isGainF w))))] 3] [cdA n f] [] [] (.p (.bool true)) =
    some (zD [zE 5 [.p (.seq true 1 n (fun i_1=>[.int .u8 (f i_1)]))] [] (.p (.bool false)),(false=false),zE 6 [.p (.seq true 1 n (fun i_1=>[.int .u8 (f i_1)]))] (zf18 g) (.tup [.agg [.p (.int .i64 g.1),.ar 4 0 0 g.2.1.1],.p (.int .i64 v),.p (.int .i64 x),.p (.int .i64 y)]),(NT 0 1),((true=true)→ (AN 1)),(AN 4),(NL g.2.1.1 g.2.1.1),zE 7 [(zf17 g),.p (.int .i64 v),.p (.int .i64 x),.p (.int .i64 y)] [(0,⟨false,4,((swR g v x y).2.1.1),(fun i_1=>[.p (.int .i64 (((swR g v x y).2.1.2 i_1).1)),.p (.int .i64 (((swR g v x y).2.1.2 i_1).2.1)),.p (.int .i64 (((swR g v x y).2.1.2 i_1).2.2.1)),.p (.int .i64 (((swR g v x y).2.1.2 i_1).2.2.2.1))])⟩)] (.tup [.agg [.p (.int .i64 ((swR g v x y).1)),.ar 4 0 0 ((swR g v x y).2.1.1)],.p (.bool (swF g v x y))]),zE 8 [(zf17 g),.p (.int .i64 v),.p (.int .i64 x),.p (.int .i64 y)] [(0,⟨false,4,((swR g v x y).2.1.1),(fun i_1=>[.p (.int .i64 (((swR g v x y).2.1.2 i_1).1)),.p (.int .i64 (((swR g v x y).2.1.2 i_1).2.1)),.p (.int .i64 (((swR g v x y).2.1.2 i_1).2.2.1)),.p (.int .i64 (((swR g v x y).2.1.2 i_1).2.2.2.1))])⟩)] (.tup [.agg [.p (.int .i64 ((swR g v x y).1)),.ar 4 0 0 ((swR g v x y).2.1.1)],.p (.bool (swF g v x y))]),(((!!swF g v x y==swF g v x y)=true)→(NT 0 1)),(AG (!!swF g v x y==swF g v x y)),(((!!swF g v x y==swF g v x y)=true)→ (AN 4)),(((!!swF g v x y==swF g v x y)=true)→(NL ((swR g v x y).2.1.1) ((swR g v x y).2.1.1))),(((!!swF g v x y==swF g v x y)=true)→ zE 9 [.agg [.p (.int .i64 ((swR g v x y).1)),.p (.seq true 4 ((swR g v x y).2.1.1) (fun i_1=>[.int .i64 (((swR g v x y).2.1.2 i_1).1),.int .i64 (((swR g v x y).2.1.2 i_1).2.1),.int .i64 (((swR g v x y).2.1.2 i_1).2.2.1),.int .i64 (((swR g v x y).2.1.2 i_1).2.2.2.1)]))],.agg [.p (.int .i64 ((swR g v x y).1)),.p (.seq true 4 ((swR g v x y).2.1.1) (fun i_1=>[.int .i64 (((swR g v x y).2.1.2 i_1).1),.int .i64 (((swR g v x y).2.1.2 i_1).2.1),.int .i64 (((swR g v x y).2.1.2 i_1).2.2.1),.int .i64 (((swR g v x y).2.1.2 i_1).2.2.2.1)]))]] [] (.p (.bool true))),(((!swF g v x y==swF g v x y)=false)→ ((!!swF g v x y==swF g v x y)=true)),((bif !swF g v x y==swF g v x y then true else !true)=false),(((swF g v x y)=true)→(NT 0 1)),(AG (swF g v x y)),(((swF g v x y)=true)→ (AN 4)),(((swF g v x y)=true)→(NL ((swR g v x y).2.1.1) ((swR g v x y).2.1.1))),(((swF g v x y)=true)→ zE 10 [.agg [.p (.int .i64 ((swR g v x y).1)),.p (.seq true 4 ((swR g v x y).2.1.1) (fun i_1=>[.int .i64 (((swR g v x y).2.1.2 i_1).1),.int .i64 (((swR g v x y).2.1.2 i_1).2.1),.int .i64 (((swR g v x y).2.1.2 i_1).2.2.1),.int .i64 (((swR g v x y).2.1.2 i_1).2.2.2.1)]))]] [] (.p (.bool (sgF g)))),(((swF g v x y)=true)→(NL g.2.1.1 g.2.1.1)),(((swF g v x y)=true)→ zE 11 [(zf17 g)] [] (.p (.bool (sgF g)))),(((swF g v x y&&!!sgF g==sgF g)=true)→(NT 0 1)),(AG (swF g v x y&&!!sgF g==sgF g)),(((swF g v x y&&!!sgF g==sgF g)=true)→ (AN 4)),(((swF g v x y&&!!sgF g==sgF g)=true)→(NL ((swR g v x y).2.1.1) ((swR g v x y).2.1.1))),(((swF g v x y&&!!sgF g==sgF g)=true)→ zE 12 [.agg [.p (.int .i64 ((swR g v x y).1)),.p (.seq true 4 ((swR g v x y).2.1.1) (fun i_1=>[.int .i64 (((swR g v x y).2.1.2 i_1).1),.int .i64 (((swR g v x y).2.1.2 i_1).2.1),.int .i64 (((swR g v x y).2.1.2 i_1).2.2.1),.int .i64 (((swR g v x y).2.1.2 i_1).2.2.2.1)]))]] [] (.p (.int .i64 (gfF g)))),(((swF g v x y&&!!sgF g==sgF g)=true)→(NL g.2.1.1 g.2.1.1)),(((swF g v x y&&!!sgF g==sgF g)=true)→ zE 13 [(zf17 g)] [] (.p (.int .i64 (gfF g)))),(((swF g v x y)=true)→(((!sgF g==sgF g)=false)→ ((swF g v x y&&!!sgF g==sgF g)=true))),((bif swF g v x y then bif !sgF g==sgF g then true else gfF g != gfF g else false)=false),zE 14 [.p (.seq true 1 n (fun i_1=>[.int .u8 (f i_1)]))] (zf18 w) (.agg [.p (.int .i64 w.1),.ar 4 0 0 w.2.1.1]),(NL w.2.1.1 w.2.1.1),zE 12 [(zf17 w)] [] (.p (.int .i64 (gfF w))),zE 13 [(zf17 w)] [] (.p (.int .i64 (gfF w))),(((!gfF w != gfF w)=true)→(NT 0 1)),(AG (!gfF w != gfF w)),(((!gfF w != gfF w)=true)→ (AN 4)),(((!gfF w != gfF w)=true)→(NL w.2.1.1 w.2.1.1)),(((!gfF w != gfF w)=true)→ zE 10 [(zf17 w)] [] (.p (.bool (sgF w)))),(((!gfF w != gfF w)=true)→ zE 11 [(zf17 w)] [] (.p (.bool (sgF w)))),(((gfF w != gfF w)=false)→ ((!gfF w != gfF w)=true)),(((!bif gfF w != gfF w then true else !sgF w==sgF w)=true)→(NT 0 1)),(AG (!bif gfF w != gfF w then true else !sgF w==sgF w)),(((!bif gfF w != gfF w then true else !sgF w==sgF w)=true)→ (AN 4)),(((!bif gfF w != gfF w then true else !sgF w==sgF w)=true)→(NL w.2.1.1 w.2.1.1)),(((!bif gfF w != gfF w then true else !sgF w==sgF w)=true)→ zE 15 [(zf17 w)] [] (.p (.bool (isGainF w)))),(AG ((!bif gfF w != gfF w then true else !sgF w==sgF w)&&isGainF w)),((((!bif gfF w != gfF w then true else !sgF w==sgF w)&&isGainF w&&!decide (gfF w<0))=true)→(NT 0 1)),(AG ((!bif gfF w != gfF w then true else !sgF w==sgF w)&&isGainF w&&!decide (gfF w<0))),((((!bif gfF w != gfF w then true else !sgF w==sgF w)&&isGainF w&&!decide (gfF w<0))=true)→ (AN 4)),((((!bif gfF w != gfF w then true else !sgF w==sgF w)&&isGainF w&&!decide (gfF w<0))=true)→(NL w.2.1.1 w.2.1.1)),((((!bif gfF w != gfF w then true else !sgF w==sgF w)&&isGainF w&&!decide (gfF w<0))=true)→ zE 10 [(zf17 w)] [] (.p (.bool (sgF w)))),((((!bif gfF w != gfF w then true else !sgF w==sgF w)&&isGainF w&&!decide (gfF w<0))=true)→(ZLo (2*w.1))),((((!bif gfF w != gfF w then true else !sgF w==sgF w)&&isGainF w&&!decide (gfF w<0))=true)→(ZHi (2*w.1))),((((!bif gfF w != gfF w then true else !sgF w==sgF w)&&isGainF w&&!decide (gfF w<0))=true)→(ZLo (2*w.1 - 2))),((((!bif gfF w != gfF w then true else !sgF w==sgF w)&&isGainF w&&!decide (gfF w<0))=true)→(ZHi (2*w.1 - 2))),((((!bif gfF w != gfF w then true else !sgF w==sgF w)&&isGainF w&&!decide (gfF w<0))=true)→(ZLo (2*w.1 - 2 - (↑w.2.1.1:Int)))),((((!bif gfF w != gfF w then true else !sgF w==sgF w)&&isGainF w&&!decide (gfF w<0))=true)→(ZHi (2*w.1 - 2 - (↑w.2.1.1:Int)))),((((!bif gfF w != gfF w then true else !sgF w==sgF w)&&isGainF w)=true)→(((decide (gfF w<0))=false)→ (((!bif gfF w != gfF w then true else !sgF w==sgF w)&&isGainF w&&!decide (gfF w<0))=true))),(((!bif gfF w != gfF w then true else !sgF w==sgF w)=true)→(((isGainF w)=true)→ (((!bif gfF w != gfF w then true else !sgF w==sgF w)&&isGainF w)=true))),(((bif gfF w != gfF w then true else !sgF w==sgF w)=false)→ ((!bif gfF w != gfF w then true else !sgF w==sgF w)=true)),((bif bif gfF w != gfF w then true else !sgF w==sgF w then true else bif isGainF w then bif decide (gfF w<0) then true else !sgF w==(gfF w==2*w.1 - 2 - (↑w.2.1.1:Int)) else false)=false),zE 16 [.p (.seq true 1 n (fun i_1=>[.int .u8 (f i_1)]))] (zf15 a u) (.tup [.agg [.p (.int .i64 a.1),.ar 4 0 0 a.2.1.1],.ar 1 1 0 u.1]),(NL a.2.1.1 a.2.1.1),(AN 1),(NL u.1 u.1),zE 17 [(zf17 a),.p (.seq true 1 u.1 (iRw u))] [] (.p (.bool (isBalF a u))),zE 18 [(zf17 a),.p (.seq true 1 u.1 (iRw u))] [] (.p (.bool (isBalF a u))),((!isBalF a u==isBalF a u)=false),(AG (isBalF a u)),(((isBalF a u)=true)→(NT 0 1)),((bif isBalF a u then decide (a.1>0) else false)=false),zE 19 [.p (.seq true 1 n (fun i_1=>[.int .u8 (f i_1)]))] (zf18 c) (.agg [.p (.int .i64 c.1),.ar 4 0 0 c.2.1.1]),(NL c.2.1.1 c.2.1.1),zE 20 [(zf17 c)] [(0,⟨false,2,((unG c).2.1.1),(fun i_1=>[.p (.int .i64 (((unG c).2.1.2 i_1).1)),.p (.int .i64 (((unG c).2.1.2 i_1).2.1))])⟩)] (.tup [.agg [.p (.int .i64 ((unG c).1)),.ar 2 0 0 ((unG c).2.1.1)],.p (.bool (unB c))]),zE 21 [(zf17 c)] [(0,⟨false,2,((unG c).2.1.1),(fun i_1=>[.p (.int .i64 (((unG c).2.1.2 i_1).1)),.p (.int .i64 (((unG c).2.1.2 i_1).2.1))])⟩)] (.tup [.agg [.p (.int .i64 ((unG c).1)),.ar 2 0 0 ((unG c).2.1.1)],.p (.bool (unB c))]),zE 22 [.p (.seq true 1 n (fun i_1=>[.int .u8 (f i_1)]))] (zf7 i j) (.tup [.agg [.p (.int .i64 i.1),.ar 4 0 0 i.2.1.1],.agg [.p (.int .i64 j.1),.ar 4 1 0 j.2.1.1]]),(((unB c==unB c)=true)→(NT 0 1)),(AG (unB c==unB c)),(((unB c==unB c)=true)→ (AN 2)),(((unB c==unB c)=true)→(NL ((unG c).2.1.1) ((unG c).2.1.1))),(((unB c==unB c)=true)→ zE 23 [.agg [.p (.int .i64 ((unG c).1)),.p (.seq true 2 ((unG c).2.1.1) (fun i_1=>[.int .i64 (((unG c).2.1.2 i_1).1),.int .i64 (((unG c).2.1.2 i_1).2.1)]))],.agg [.p (.int .i64 ((unG c).1)),.p (.seq true 2 ((unG c).2.1.1) (fun i_1=>[.int .i64 (((unG c).2.1.2 i_1).1),.int .i64 (((unG c).2.1.2 i_1).2.1)]))]] [] (.p (.bool true))),(AG (bif unB c==unB c then true else false)),((((bif unB c==unB c then true else false)&&!!unB c)=true)→(NT 0 1)),(AG ((bif unB c==unB c then true else false)&&!!unB c)),((((bif unB c==unB c then true else false)&&!!unB c)=true)→ (AN 2)),((((bif unB c==unB c then true else false)&&!!unB c)=true)→(NL ((unG c).2.1.1) ((unG c).2.1.1))),((((bif unB c==unB c then true else false)&&!!unB c)=true)→ zE 24 [.agg [.p (.int .i64 ((unG c).1)),.p (.seq true 2 ((unG c).2.1.1) (fun i_1=>[.int .i64 (((unG c).2.1.2 i_1).1),.int .i64 (((unG c).2.1.2 i_1).2.1)]))]] [] (.p (.bool (isGraphF (unG c))))),(((bif unB c==unB c then true else false)=true)→(((!unB c)=false)→ (((bif unB c==unB c then true else false)&&!!unB c)=true))),(((bif bif unB c==unB c then true else false then bif !unB c then true else isGraphF (unG c) else false)=true)→(NT 0 1)),(AG (bif bif unB c==unB c then true else false then bif !unB c then true else isGraphF (unG c) else false)),(((bif bif unB c==unB c then true else false then bif !unB c then true else isGraphF (unG c) else false)=true)→ (AN 4)),(((bif bif unB c==unB c then true else false then bif !unB c then true else isGraphF (unG c) else false)=true)→(NL i.2.1.1 i.2.1.1)),(((bif bif unB c==unB c then true else false then bif !unB c then true else isGraphF (unG c) else false)=true)→(NL j.2.1.1 j.2.1.1)),(((bif bif unB c==unB c then true else false then bif !unB c then true else isGraphF (unG c) else false)=true)→ zE 25 [(zf17 i),(zf17 j)] [] (.p (.bool (eqGains i j)))),(((bif bif unB c==unB c then true else false then bif !unB c then true else isGraphF (unG c) else false)=true)→ zE 9 [(zf17 i),(zf17 j)] [] (.p (.bool (eqGains i j)))),(((bif bif bif unB c==unB c then true else false then bif !unB c then true else isGraphF (unG c) else false then eqGains i j==eqGains i j else false)=true)→(NT 0 1)),(AG (bif bif bif unB c==unB c then true else false then bif !unB c then true else isGraphF (unG c) else false then eqGains i j==eqGains i j else false)),(((bif bif bif unB c==unB c then true else false then bif !unB c then true else isGraphF (unG c) else false then eqGains i j==eqGains i j else false)=true)→ (AN 4)),(((bif bif bif unB c==unB c then true else false then bif !unB c then true else isGraphF (unG c) else false then eqGains i j==eqGains i j else false)=true)→(NL w.2.1.1 w.2.1.1)),(((bif bif bif unB c==unB c then true else false then bif !unB c then true else isGraphF (unG c) else false then eqGains i j==eqGains i j else false)=true)→ zE 26 [(zf17 w)] [] (.p (.bool (isGainF w)))),(((bif bif bif unB c==unB c then true else false then bif !unB c then true else isGraphF (unG c) else false then eqGains i j==eqGains i j else false)=true)→ zE 15 [(zf17 w)] [] (.p (.bool (isGainF w)))),((bif bif bif bif unB c==unB c then true else false then bif !unB c then true else isGraphF (unG c) else false then eqGains i j==eqGains i j else false then isGainF w==isGainF w else false)=true)] [0,1,2,3,4,3,5,6,7,3,4,3,5,6,8,3,4,9,9,10,10,11,12,11,12,13,10,14,15,16,17,18,19,20,16,17,18,21,22,17,17,17,23,24,25,26,27,23,24,25,28,29,24,24,17,30,17,31,32,3,4,3,5,33,34,3,5,33,35,36,37,38,39,40,36,37,38,39,41,37,37,42,43,44,45,46,47,44,48,48,49,50,51,52,53,50,49,50,54,55,50,56,57,50,49,50,50,50,58,59,50,50,50,50,48,60,44,61,62,63,64,3,4,3,5,65,66,67,68,3,5,65,66,67,69,70,71,72,71,71,73,74,3,4,3,5,75,76,3,4,3,5,75,77,3,4,78,3,4,3,4,79,79,80,80,81,82,81,82,83,80,84,84,85,86,87,88,89,84,90,84,91,91,92,92,93,94,93,95,96,91,91,92,92,93,94,93,95,97,92,92,92,98,99,100,101,102,98,99,100,101,103,99,99,99,104]):=by kernel_rfl
theorem pdT (n:Nat) (f:Nat→Int) (g:T_GainGraph) (v x y:Int) (w a:T_GainGraph) (u:T_IntS) (c i j:T_GainGraph) :
    zS Try.f3 [rg 1,rm [(1,oc [] (.p (.bool false)))] 0,.dec false,rm [(1,oc [(0,gbOb g.2.1)] (.tup [gaO g 0,.p (.int .i64 v),.p (.int .i64 x),.p (.int .i64 y)]))] 10,rm [(4,oc [(0,gbOb (swR g v x y).2.1)] (.tup [gaO (swR g v x y) 0,.p (.bool (swF g v x y))]))] 6,rm [(4,oc [(0,gbOb (swR g v x y).2.1)] (.tup [gaO (swR g v x y) 0,.p (.bool (swF g v x y))]))] 6,rm [(6,oc [] (.p (.bool true)))] 2,.dec false,rm [(3,oc [] (.p (.bool (sgF g)))),(1,oc [] (.p (.bool (sgF g)))),(3,oc [] (.p (.int .i64 (gfF g)))),(1,oc [] (.p (.int .i64 (gfF g))))] 3,.dec false,rm [(1,oc [(0,gbOb w.2.1)] (gaO w 0))] 2,rm [(1,oc [] (.p (.int .i64 (gfF w))))] 1,rm [(2,oc [] (.p (.int .i64 (gfF w)))),(3,oc [] (.p (.bool (sgF w)))),(1,oc [] (.p (.bool (sgF w)))),(4,oc [] (.p (.bool (isGainF w)))),(5,oc [] (.p (.bool (sgF w))))] 14,.dec false,rm [(1,oc [(0,gbOb a.2.1),(1,iOb u.1 u.2)] (.tup [gaO a 0,.ar 1 1 0 u.1]))] 6,rm [(2,oc [] (.p (.bool (isBalF a u))))] 1,rm [(3,oc [] (.p (.bool (isBalF a u))))] 1,.dec false,rg 6,.dec true,rm [(1,oc [(0,gbOb (swR a 0 1 (-1)).2.1)] (.tup [gaO (swR a 0 1 (-1)) 0,.p (.bool (swF a 0 1 (-1)))]))] 6,rm [(4,oc [] (.p (.bool (isBalF (swR a 0 1 (-1)) u))))] 2,.dec false,rm [(1,oc [(0,gbOb c.2.1)] (gaO c 0))] 2,rm [(1,oc [(0,brOb (unG c).2.1.1 (unG c).2.1.2)] (.tup [.agg [.p (.int .i64 (unG c).1),.ar 2 0 0 (unG c).2.1.1],.p (.bool (unB c))]))] 6,rm [(1,oc [(0,brOb (unG c).2.1.1 (unG c).2.1.2)] (.tup [.agg [.p (.int .i64 (unG c).1),.ar 2 0 0 (unG c).2.1.1],.p (.bool (unB c))]))] 6,rm [(1,oc [(0,gbOb i.2.1),(1,gbOb j.2.1)] (.tup [gaO i 0,gaO j 1]))] 7,rm [(6,oc [] (.p (.bool true))),(6,oc [] (.p (.bool (isGraphF (unG c))))),(5,oc [] (.p (.bool (eqGains i j)))),(2,oc [] (.p (.bool (eqGains i j)))),(4,oc [] (.p (.bool (isGainF w)))),(1,oc [] (.p (.bool (isGainF w))))] 3] [cdA n f] [] [] (.p (.bool true)) =
    some (zD [zE 5 [.p (.seq true 1 n (fun i_1=>[.int .u8 (f i_1)]))] [] (.p (.bool false)),(false=false),zE 6 [.p (.seq true 1 n (fun i_1=>[.int .u8 (f i_1)]))] (zf18 g) (.tup [.agg [.p (.int .i64 g.1),.ar 4 0 0 g.2.1.1],.p (.int .i64 v),.p (.int .i64 x),.p (.int .i64 y)]),(NT 0 1),((true=true)→ (AN 1)),(AN 4),(NL g.2.1.1 g.2.1.1),zE 7 [(zf17 g),.p (.int .i64 v),.p (.int .i64 x),.p (.int .i64 y)] [(0,⟨false,4,((swR g v x y).2.1.1),(fun i_1=>[.p (.int .i64 (((swR g v x y).2.1.2 i_1).1)),.p (.int .i64 (((swR g v x y).2.1.2 i_1).2.1)),.p (.int .i64 (((swR g v x y).2.1.2 i_1).2.2.1)),.p (.int .i64 (((swR g v x y).2.1.2 i_1).2.2.2.1))])⟩)] (.tup [.agg [.p (.int .i64 ((swR g v x y).1)),.ar 4 0 0 ((swR g v x y).2.1.1)],.p (.bool (swF g v x y))]),zE 8 [(zf17 g),.p (.int .i64 v),.p (.int .i64 x),.p (.int .i64 y)] [(0,⟨false,4,((swR g v x y).2.1.1),(fun i_1=>[.p (.int .i64 (((swR g v x y).2.1.2 i_1).1)),.p (.int .i64 (((swR g v x y).2.1.2 i_1).2.1)),.p (.int .i64 (((swR g v x y).2.1.2 i_1).2.2.1)),.p (.int .i64 (((swR g v x y).2.1.2 i_1).2.2.2.1))])⟩)] (.tup [.agg [.p (.int .i64 ((swR g v x y).1)),.ar 4 0 0 ((swR g v x y).2.1.1)],.p (.bool (swF g v x y))]),(((!!swF g v x y==swF g v x y)=true)→(NT 0 1)),(AG (!!swF g v x y==swF g v x y)),(((!!swF g v x y==swF g v x y)=true)→ (AN 4)),(((!!swF g v x y==swF g v x y)=true)→(NL ((swR g v x y).2.1.1) ((swR g v x y).2.1.1))),(((!!swF g v x y==swF g v x y)=true)→ zE 9 [.agg [.p (.int .i64 ((swR g v x y).1)),.p (.seq true 4 ((swR g v x y).2.1.1) (fun i_1=>[.int .i64 (((swR g v x y).2.1.2 i_1).1),.int .i64 (((swR g v x y).2.1.2 i_1).2.1),.int .i64 (((swR g v x y).2.1.2 i_1).2.2.1),.int .i64 (((swR g v x y).2.1.2 i_1).2.2.2.1)]))],.agg [.p (.int .i64 ((swR g v x y).1)),.p (.seq true 4 ((swR g v x y).2.1.1) (fun i_1=>[.int .i64 (((swR g v x y).2.1.2 i_1).1),.int .i64 (((swR g v x y).2.1.2 i_1).2.1),.int .i64 (((swR g v x y).2.1.2 i_1).2.2.1),.int .i64 (((swR g v x y).2.1.2 i_1).2.2.2.1)]))]] [] (.p (.bool true))),(((!swF g v x y==swF g v x y)=false)→ ((!!swF g v x y==swF g v x y)=true)),((bif !swF g v x y==swF g v x y then true else !true)=false),(((swF g v x y)=true)→(NT 0 1)),(AG (swF g v x y)),(((swF g v x y)=true)→ (AN 4)),(((swF g v x y)=true)→(NL ((swR g v x y).2.1.1) ((swR g v x y).2.1.1))),(((swF g v x y)=true)→ zE 10 [.agg [.p (.int .i64 ((swR g v x y).1)),.p (.seq true 4 ((swR g v x y).2.1.1) (fun i_1=>[.int .i64 (((swR g v x y).2.1.2 i_1).1),.int .i64 (((swR g v x y).2.1.2 i_1).2.1),.int .i64 (((swR g v x y).2.1.2 i_1).2.2.1),.int .i64 (((swR g v x y).2.1.2 i_1).2.2.2.1)]))]] [] (.p (.bool (sgF g)))),(((swF g v x y)=true)→(NL g.2.1.1 g.2.1.1)),(((swF g v x y)=true)→ zE 11 [(zf17 g)] [] (.p (.bool (sgF g)))),(((swF g v x y&&!!sgF g==sgF g)=true)→(NT 0 1)),(AG (swF g v x y&&!!sgF g==sgF g)),(((swF g v x y&&!!sgF g==sgF g)=true)→ (AN 4)),(((swF g v x y&&!!sgF g==sgF g)=true)→(NL ((swR g v x y).2.1.1) ((swR g v x y).2.1.1))),(((swF g v x y&&!!sgF g==sgF g)=true)→ zE 12 [.agg [.p (.int .i64 ((swR g v x y).1)),.p (.seq true 4 ((swR g v x y).2.1.1) (fun i_1=>[.int .i64 (((swR g v x y).2.1.2 i_1).1),.int .i64 (((swR g v x y).2.1.2 i_1).2.1),.int .i64 (((swR g v x y).2.1.2 i_1).2.2.1),.int .i64 (((swR g v x y).2.1.2 i_1).2.2.2.1)]))]] [] (.p (.int .i64 (gfF g)))),(((swF g v x y&&!!sgF g==sgF g)=true)→(NL g.2.1.1 g.2.1.1)),(((swF g v x y&&!!sgF g==sgF g)=true)→ zE 13 [(zf17 g)] [] (.p (.int .i64 (gfF g)))),(((swF g v x y)=true)→(((!sgF g==sgF g)=false)→ ((swF g v x y&&!!sgF g==sgF g)=true))),((bif swF g v x y then bif !sgF g==sgF g then true else gfF g != gfF g else false)=false),zE 14 [.p (.seq true 1 n (fun i_1=>[.int .u8 (f i_1)]))] (zf18 w) (.agg [.p (.int .i64 w.1),.ar 4 0 0 w.2.1.1]),(NL w.2.1.1 w.2.1.1),zE 12 [(zf17 w)] [] (.p (.int .i64 (gfF w))),zE 13 [(zf17 w)] [] (.p (.int .i64 (gfF w))),(((!gfF w != gfF w)=true)→(NT 0 1)),(AG (!gfF w != gfF w)),(((!gfF w != gfF w)=true)→ (AN 4)),(((!gfF w != gfF w)=true)→(NL w.2.1.1 w.2.1.1)),(((!gfF w != gfF w)=true)→ zE 10 [(zf17 w)] [] (.p (.bool (sgF w)))),(((!gfF w != gfF w)=true)→ zE 11 [(zf17 w)] [] (.p (.bool (sgF w)))),(((gfF w != gfF w)=false)→ ((!gfF w != gfF w)=true)),(((!bif gfF w != gfF w then true else !sgF w==sgF w)=true)→(NT 0 1)),(AG (!bif gfF w != gfF w then true else !sgF w==sgF w)),(((!bif gfF w != gfF w then true else !sgF w==sgF w)=true)→ (AN 4)),(((!bif gfF w != gfF w then true else !sgF w==sgF w)=true)→(NL w.2.1.1 w.2.1.1)),(((!bif gfF w != gfF w then true else !sgF w==sgF w)=true)→ zE 15 [(zf17 w)] [] (.p (.bool (isGainF w)))),(AG ((!bif gfF w != gfF w then true else !sgF w==sgF w)&&isGainF w)),((((!bif gfF w != gfF w then true else !sgF w==sgF w)&&isGainF w&&!decide (gfF w<0))=true)→(NT 0 1)),(AG ((!bif gfF w != gfF w then true else !sgF w==sgF w)&&isGainF w&&!decide (gfF w<0))),((((!bif gfF w != gfF w then true else !sgF w==sgF w)&&isGainF w&&!decide (gfF w<0))=true)→ (AN 4)),((((!bif gfF w != gfF w then true else !sgF w==sgF w)&&isGainF w&&!decide (gfF w<0))=true)→(NL w.2.1.1 w.2.1.1)),((((!bif gfF w != gfF w then true else !sgF w==sgF w)&&isGainF w&&!decide (gfF w<0))=true)→ zE 10 [(zf17 w)] [] (.p (.bool (sgF w)))),((((!bif gfF w != gfF w then true else !sgF w==sgF w)&&isGainF w&&!decide (gfF w<0))=true)→(ZLo (2*w.1))),((((!bif gfF w != gfF w then true else !sgF w==sgF w)&&isGainF w&&!decide (gfF w<0))=true)→(ZHi (2*w.1))),((((!bif gfF w != gfF w then true else !sgF w==sgF w)&&isGainF w&&!decide (gfF w<0))=true)→(ZLo (2*w.1 - 2))),((((!bif gfF w != gfF w then true else !sgF w==sgF w)&&isGainF w&&!decide (gfF w<0))=true)→(ZHi (2*w.1 - 2))),((((!bif gfF w != gfF w then true else !sgF w==sgF w)&&isGainF w&&!decide (gfF w<0))=true)→(ZLo (2*w.1 - 2 - (↑w.2.1.1:Int)))),((((!bif gfF w != gfF w then true else !sgF w==sgF w)&&isGainF w&&!decide (gfF w<0))=true)→(ZHi (2*w.1 - 2 - (↑w.2.1.1:Int)))),((((!bif gfF w != gfF w then true else !sgF w==sgF w)&&isGainF w)=true)→(((decide (gfF w<0))=false)→ (((!bif gfF w != gfF w then true else !sgF w==sgF w)&&isGainF w&&!decide (gfF w<0))=true))),(((!bif gfF w != gfF w then true else !sgF w==sgF w)=true)→(((isGainF w)=true)→ (((!bif gfF w != gfF w then true else !sgF w==sgF w)&&isGainF w)=true))),(((bif gfF w != gfF w then true else !sgF w==sgF w)=false)→ ((!bif gfF w != gfF w then true else !sgF w==sgF w)=true)),((bif bif gfF w != gfF w then true else !sgF w==sgF w then true else bif isGainF w then bif decide (gfF w<0) then true else !sgF w==(gfF w==2*w.1 - 2 - (↑w.2.1.1:Int)) else false)=false),zE 16 [.p (.seq true 1 n (fun i_1=>[.int .u8 (f i_1)]))] (zf15 a u) (.tup [.agg [.p (.int .i64 a.1),.ar 4 0 0 a.2.1.1],.ar 1 1 0 u.1]),(NL a.2.1.1 a.2.1.1),(AN 1),(NL u.1 u.1),zE 17 [(zf17 a),.p (.seq true 1 u.1 (iRw u))] [] (.p (.bool (isBalF a u))),zE 18 [(zf17 a),.p (.seq true 1 u.1 (iRw u))] [] (.p (.bool (isBalF a u))),((!isBalF a u==isBalF a u)=false),(AG (isBalF a u)),(((isBalF a u)=true)→(NT 0 1)),((bif isBalF a u then decide (a.1>0) else false)=true),zE 8 [(zf17 a),.p (.int .i64 0),.p (.int .i64 1),.p (.int .i64 (-1))] [(0,⟨false,4,((swR a 0 1 (-1)).2.1.1),(fun i_1=>[.p (.int .i64 (((swR a 0 1 (-1)).2.1.2 i_1).1)),.p (.int .i64 (((swR a 0 1 (-1)).2.1.2 i_1).2.1)),.p (.int .i64 (((swR a 0 1 (-1)).2.1.2 i_1).2.2.1)),.p (.int .i64 (((swR a 0 1 (-1)).2.1.2 i_1).2.2.2.1))])⟩)] (.tup [.agg [.p (.int .i64 ((swR a 0 1 (-1)).1)),.ar 4 0 0 ((swR a 0 1 (-1)).2.1.1)],.p (.bool (swF a 0 1 (-1)))]),(((swF a 0 1 (-1))=true)→(NT 0 1)),(AG (swF a 0 1 (-1))),(((swF a 0 1 (-1))=true)→ (AN 4)),(((swF a 0 1 (-1))=true)→(NL ((swR a 0 1 (-1)).2.1.1) ((swR a 0 1 (-1)).2.1.1))),(((swF a 0 1 (-1))=true)→ (AN 1)),(((swF a 0 1 (-1))=true)→(NL u.1 u.1)),(((swF a 0 1 (-1))=true)→ zE 17 [.agg [.p (.int .i64 ((swR a 0 1 (-1)).1)),.p (.seq true 4 ((swR a 0 1 (-1)).2.1.1) (fun i_1=>[.int .i64 (((swR a 0 1 (-1)).2.1.2 i_1).1),.int .i64 (((swR a 0 1 (-1)).2.1.2 i_1).2.1),.int .i64 (((swR a 0 1 (-1)).2.1.2 i_1).2.2.1),.int .i64 (((swR a 0 1 (-1)).2.1.2 i_1).2.2.2.1)]))],.p (.seq true 1 u.1 (iRw u))] [] (.p (.bool (isBalF (swR a 0 1 (-1)) u)))),((bif swF a 0 1 (-1) then !isBalF (swR a 0 1 (-1)) u else false)=false),zE 19 [.p (.seq true 1 n (fun i_1=>[.int .u8 (f i_1)]))] (zf18 c) (.agg [.p (.int .i64 c.1),.ar 4 0 0 c.2.1.1]),(NL c.2.1.1 c.2.1.1),zE 20 [(zf17 c)] [(0,⟨false,2,((unG c).2.1.1),(fun i_1=>[.p (.int .i64 (((unG c).2.1.2 i_1).1)),.p (.int .i64 (((unG c).2.1.2 i_1).2.1))])⟩)] (.tup [.agg [.p (.int .i64 ((unG c).1)),.ar 2 0 0 ((unG c).2.1.1)],.p (.bool (unB c))]),zE 21 [(zf17 c)] [(0,⟨false,2,((unG c).2.1.1),(fun i_1=>[.p (.int .i64 (((unG c).2.1.2 i_1).1)),.p (.int .i64 (((unG c).2.1.2 i_1).2.1))])⟩)] (.tup [.agg [.p (.int .i64 ((unG c).1)),.ar 2 0 0 ((unG c).2.1.1)],.p (.bool (unB c))]),zE 22 [.p (.seq true 1 n (fun i_1=>[.int .u8 (f i_1)]))] (zf7 i j) (.tup [.agg [.p (.int .i64 i.1),.ar 4 0 0 i.2.1.1],.agg [.p (.int .i64 j.1),.ar 4 1 0 j.2.1.1]]),(((unB c==unB c)=true)→(NT 0 1)),(AG (unB c==unB c)),(((unB c==unB c)=true)→ (AN 2)),(((unB c==unB c)=true)→(NL ((unG c).2.1.1) ((unG c).2.1.1))),(((unB c==unB c)=true)→ zE 23 [.agg [.p (.int .i64 ((unG c).1)),.p (.seq true 2 ((unG c).2.1.1) (fun i_1=>[.int .i64 (((unG c).2.1.2 i_1).1),.int .i64 (((unG c).2.1.2 i_1).2.1)]))],.agg [.p (.int .i64 ((unG c).1)),.p (.seq true 2 ((unG c).2.1.1) (fun i_1=>[.int .i64 (((unG c).2.1.2 i_1).1),.int .i64 (((unG c).2.1.2 i_1).2.1)]))]] [] (.p (.bool true))),(AG (bif unB c==unB c then true else false)),((((bif unB c==unB c then true else false)&&!!unB c)=true)→(NT 0 1)),(AG ((bif unB c==unB c then true else false)&&!!unB c)),((((bif unB c==unB c then true else false)&&!!unB c)=true)→ (AN 2)),((((bif unB c==unB c then true else false)&&!!unB c)=true)→(NL ((unG c).2.1.1) ((unG c).2.1.1))),((((bif unB c==unB c then true else false)&&!!unB c)=true)→ zE 24 [.agg [.p (.int .i64 ((unG c).1)),.p (.seq true 2 ((unG c).2.1.1) (fun i_1=>[.int .i64 (((unG c).2.1.2 i_1).1),.int .i64 (((unG c).2.1.2 i_1).2.1)]))]] [] (.p (.bool (isGraphF (unG c))))),(((bif unB c==unB c then true else false)=true)→(((!unB c)=false)→ (((bif unB c==unB c then true else false)&&!!unB c)=true))),(((bif bif unB c==unB c then true else false then bif !unB c then true else isGraphF (unG c) else false)=true)→(NT 0 1)),(AG (bif bif unB c==unB c then true else false then bif !unB c then true else isGraphF (unG c) else false)),(((bif bif unB c==unB c then true else false then bif !unB c then true else isGraphF (unG c) else false)=true)→ (AN 4)),(((bif bif unB c==unB c then true else false then bif !unB c then true else isGraphF (unG c) else false)=true)→(NL i.2.1.1 i.2.1.1)),(((bif bif unB c==unB c then true else false then bif !unB c then true else isGraphF (unG c) else false)=true)→(NL j.2.1.1 j.2.1.1)),(((bif bif unB c==unB c then true else false then bif !unB c then true else isGraphF (unG c) else false)=true)→ zE 25 [(zf17 i),(zf17 j)] [] (.p (.bool (eqGains i j)))),(((bif bif unB c==unB c then true else false then bif !unB c then true else isGraphF (unG c) else false)=true)→ zE 9 [(zf17 i),(zf17 j)] [] (.p (.bool (eqGains i j)))),(((bif bif bif unB c==unB c then true else false then bif !unB c then true else isGraphF (unG c) else false then eqGains i j==eqGains i j else false)=true)→(NT 0 1)),(AG (bif bif bif unB c==unB c then true else false then bif !unB c then true else isGraphF (unG c) else false then eqGains i j==eqGains i j else false)),(((bif bif bif unB c==unB c then true else false then bif !unB c then true else isGraphF (unG c) else false then eqGains i j==eqGains i j else false)=true)→ (AN 4)),(((bif bif bif unB c==unB c then true else false then bif !unB c then true else isGraphF (unG c) else false then eqGains i j==eqGains i j else false)=true)→(NL w.2.1.1 w.2.1.1)),(((bif bif bif unB c==unB c then true else false then bif !unB c then true else isGraphF (unG c) else false then eqGains i j==eqGains i j else false)=true)→ zE 26 [(zf17 w)] [] (.p (.bool (isGainF w)))),(((bif bif bif unB c==unB c then true else false then bif !unB c then true else isGraphF (unG c) else false then eqGains i j==eqGains i j else false)=true)→ zE 15 [(zf17 w)] [] (.p (.bool (isGainF w)))),((bif bif bif bif unB c==unB c then true else false then bif !unB c then true else isGraphF (unG c) else false then eqGains i j==eqGains i j else false then isGainF w==isGainF w else false)=true)] [0,1,2,3,4,3,5,6,7,3,4,3,5,6,8,3,4,9,9,10,10,11,12,11,12,13,10,14,15,16,17,18,19,20,16,17,18,21,22,17,17,17,23,24,25,26,27,23,24,25,28,29,24,24,17,30,17,31,32,3,4,3,5,33,34,3,5,33,35,36,37,38,39,40,36,37,38,39,41,37,37,42,43,44,45,46,47,44,48,48,49,50,51,52,53,50,49,50,54,55,50,56,57,50,49,50,50,50,58,59,50,50,50,50,48,60,44,61,62,63,64,3,4,3,5,65,66,67,68,3,5,65,66,67,69,70,71,72,71,71,73,3,5,65,74,3,4,75,76,76,77,78,79,80,81,76,76,82,83,3,4,3,5,84,85,3,4,3,5,84,86,3,4,87,3,4,3,4,88,88,89,89,90,91,90,91,92,89,93,93,94,95,96,97,98,93,99,93,100,100,101,101,102,103,102,104,105,100,100,101,101,102,103,102,104,106,101,101,101,107,108,109,110,111,107,108,109,110,112,108,108,108,113]):=by kernel_rfl
def eqGr (v u:T_Graph):Bool:=bif v.1==u.1 then q_BarS v.2.1 u.2.1 else false
def SEg9 (v u:T_Graph) (k:Nat):St :=
  ⟨[graphA v,graphA u,.pt 2 0 0 0,.pt 2 1 0 0,.p .any,.p (.int .i64 k)]++List.replicate 32 anyA,[(0,boxG v),(1,boxG u)],2⟩
theorem eg9z (v u:T_Graph) :
    zS Try.f23 [rg 3,rg 14,.dec true,rg 1] [graphA v,graphA u] [] [] (.p (.bool false)) =
    some (zD [(NT 0 1),(AG (!v.1 != u.1)),(((!v.1 != u.1)=true)→(NT 0 1)),(((v.1 != u.1)=false)→ ((!v.1 != u.1)=true)),((bif v.1 != u.1 then true else (↑v.2.1.1:Int) != (↑u.2.1.1:Int))=true),(false=false)] [0,0,1,2,1,1,2,1,1,1,3,4,5]):=by kernel_rfl
theorem eg9a (v u:T_Graph) :
    zT Try.f23 [rg 3,rg 14,.dec false,rg 1,.head] [graphA v,graphA u] [0,32] (SEg9 v u 0) =
    some (zf44,zD [(NT 0 1),(AG (!v.1 != u.1)),(((!v.1 != u.1)=true)→(NT 0 1)),(((v.1 != u.1)=false)→ ((!v.1 != u.1)=true)),((bif v.1 != u.1 then true else (↑v.2.1.1:Int) != (↑u.2.1.1:Int))=false),(AI v.1),(AN v.2.1.1),(AP v.2.1.1 (bRw v.2.1.2)),(AI u.1),(AN u.2.1.1),(AP u.2.1.1 (fun i=>[.int .i64 ((u.2.1.2 i).1),.int .i64 ((u.2.1.2 i).2.1)])),(AN 0),((0:Int)=(↑0:Int)),((([AV.p (PV.int IntKind.i64 v.1),graphL v.2.1].length):Nat)=2),(NL 1 1),((([AV.p (PV.int IntKind.i64 u.1),graphL u.2.1].length):Nat)=2)] [0,0,1,2,1,1,2,1,1,1,3,4,5,6,7,8,9,10,11,11,12,13,14,14,5,6,7,15,14,14,8,9,10]):=by kernel_rfl
theorem eg9b (v u:T_Graph) (k:Nat) :
    zM 0 [rg 5,.dec true,rg 11,.dec false,rg 3,.head] zf44 (SEg9 v u k) [0,1] 1 (SEg9 v u (k+1)) =
    some (zf44,zD [(NT 0 1),((decide ((↑k:Int)<(↑v.2.1.1:Int)))=true),(IL 0 (↑k:Int)),(IT (↑k:Int) (↑v.2.1.1:Int)),(IT (↑k:Int) (↑u.2.1.1:Int)),((!((v.2.1.2 k).1==(u.2.1.2 k).1&&((v.2.1.2 k).2.1==(u.2.1.2 k).2.1&&true)))=false),(ZLo ((↑k:Int)+1)),(ZHi ((↑k:Int)+1)),(AI v.1),(AN v.2.1.1),(AP v.2.1.1 (bRw v.2.1.2)),(AI u.1),(AN u.2.1.1),(AP u.2.1.1 (fun i=>[.int .i64 ((u.2.1.2 i).1),.int .i64 ((u.2.1.2 i).2.1)])),(AN 0),((((↑k:Int)+1):Int)=(↑(k+1):Int)),(AN 2),(NL 1 1)] [0,1,0,2,3,0,2,4,5,6,7,8,9,10,11,12,13,14,14,15,16,17,17,8,9,10,16,17,17,11,12,13]):=by kernel_rfl
theorem eg9c (v u:T_Graph) (k:Nat) :
    zP Try.f23 0 [rg 5,.dec true,rg 11,.dec true,rg 1] zf44 (SEg9 v u k) [] 1 [] (.p (.bool false)) =
    some (zD [(NT 0 1),((decide ((↑k:Int)<(↑v.2.1.1:Int)))=true),(IL 0 (↑k:Int)),(IT (↑k:Int) (↑v.2.1.1:Int)),(IT (↑k:Int) (↑u.2.1.1:Int)),((!((v.2.1.2 k).1==(u.2.1.2 k).1&&((v.2.1.2 k).2.1==(u.2.1.2 k).2.1&&true)))=true),(false=false)] [0,1,0,2,3,0,2,4,5,6]):=by kernel_rfl
theorem eg9d (v u:T_Graph) (k:Nat) :
    zP Try.f23 0 [rg 5,.dec false,rg 1] zf44 (SEg9 v u k) [] 1 [] (.p (.bool true)) =
    some [(NT 0 1),((decide ((↑k:Int)<(↑v.2.1.1:Int)))=false),(true=true)]:=by kernel_rfl
theorem con_EqualGraphs_s (v u:T_Graph) (hn:v.2.1.1≤1048576):zE 23 [graphA v,graphA u] [] (.p (.bool (eqGr v u))):=by
  refine csZ Try.func23 (fun c hc=>?_)
  by_cases hz:v.1=u.1∧v.2.1.1=u.2.1.1
  · rw [show eqGr v u=qT_BarS v.2.1.2 u.2.1.2 v.2.1.1 by simp [eqGr,q_BarS,hz.1,hz.2]]
    have lp:∀ m k,k+m=v.2.1.1→qT_BarS v.2.1.2 u.2.1.2 k=true→zR c 23 zf44 (SEg9 v u k) (Post c [] (.p (.bool (qT_BarS v.2.1.2 u.2.1.2 v.2.1.1)))):=by
      intro m
      induction m with
      | zero =>
        intro k hk hg
        rw [show qT_BarS v.2.1.2 u.2.1.2 v.2.1.1=true by rw [show v.2.1.1=k by omega];exact hg]
        have hd:decide ((k:Int)<(v.2.1.1:Int))=false:=by simp;omega
        refine pkZ Try.func23 hc (eg9d v u k) ?_
        and_intros
        all_goals (first | exact zN)
      | succ m ih =>
        intro k hk hg
        have hd:decide ((k:Int)<(v.2.1.1:Int))=true:=by simp;omega
        cases he:q1_BarS (v.2.1.2 k) (u.2.1.2 k) with
        | false =>
          rw [qT_BarS_bad _ _ k he v.2.1.1 (by omega)]
          have he':(!q1_BarS (v.2.1.2 k) (u.2.1.2 k))=true:=notf he
          refine pkD Try.func23 hc (eg9c v u k) ?_
          and_intros
          all_goals (first | exact zN | exact he')
        | true =>
          have he':(!q1_BarS (v.2.1.2 k) (u.2.1.2 k))=false:=nott he
          refine pcD hc (eg9b v u k) ?_ (ih (k+1) (by omega) (by simp [qT_BarS,hg,he]))
          and_intros
          all_goals (first | exact zN | exact he' | (simp [All]))
    refine pcD hc (eg9a v u) ?_ (lp v.2.1.1 0 (by omega) rfl)
    and_intros
    all_goals (first | exact zH | (intro h;simp [h]) | (simp [hz.1,hz.2]) | (simp [All]))
  · have hr:eqGr v u=false:=by
      simp only [eqGr,q_BarS]
      by_cases h1:v.1=u.1
      · have h2:¬ v.2.1.1=u.2.1.1:=fun h=>hz ⟨h1,h⟩
        simp [h1,h2]
      · have:(v.1==u.1)=false:=by simpa using h1
        rw [this];rfl
    rw [hr]
    have hb:(bif v.1 != u.1 then true else (v.2.1.1:Int) != (u.2.1.1:Int))=true:=by
      by_cases h1:v.1=u.1
      · have h2:¬ v.2.1.1=u.2.1.1:=fun h=>hz ⟨h1,h⟩
        simp [h1];omega
      · simp [h1]
    refine pkD Try.func23 hc (eg9z v u) ?_
    and_intros
    all_goals (first | exact zH)
theorem unG_graph {v:T_GainGraph} (h:unB v=true):isGraphF (unG v)=true:=by
  have hle:=unG_le v
  have hb:=h
  simp only [unB,Bool.and_eq_true,decide_eq_true_eq] at hb
  obtain ⟨hg,h8,_⟩:=hb
  obtain ⟨N1,N2,hnb,hin⟩:=gain_in2 hg
  obtain ⟨N,hN⟩:∃ N:Nat,v.1=(N:Int):=⟨v.1.toNat,by omega⟩
  have e:unG v=(((4*N:Nat):Int),((unL v).length,fun i=>(unL v).getD i (0,0,())),()):=by
    simp only [unG,if_pos h,hN]
    simp
  rw [e] at hle ⊢
  have hle:(unL v).length≤24:=hle
  have hmemE:∀ (b:T_GainBar) k x,0≤b.1→b.1<N→0≤b.2.1→b.2.1<N→k≤4→x∈EP b k→0≤x.1∧x.1<x.2.1∧x.2.1<((4*N:Nat):Int):=by
    intro b k x h1 h2 h3 h4
    induction k with
    | zero=>intro _ hx;cases hx
    | succ k ih =>
      intro hk hx
      rcases List.mem_append.1 hx with hx | hx
      · exact ih (by omega) hx
      · unfold el at hx
        cases hu:(uu b k != vv b k) with
        | false=>rw [hu,cond_false] at hx;cases hx
        | true =>
          rw [hu,cond_true] at hx
          rw [List.mem_singleton.1 hx]
          have hne:uu b k≠vv b k:=by simpa using hu
          have b1:0≤uu b k∧uu b k<((4*N:Nat):Int):=by unfold uu;omega
          have b2:0≤vv b k∧vv b k<((4*N:Nat):Int):=by unfold vv;omega
          generalize uu b k=p at hne b1
          generalize vv b k=q at hne b2
          unfold brX
          by_cases h5:q<p
          · rw [if_pos h5,if_neg (show ¬ q>p by omega)]
            exact ⟨b2.1,h5,b1.2⟩
          · rw [if_neg h5,if_pos (show q>p by omega)]
            exact ⟨b1.1,by show p<q;omega,b2.2⟩
  have hmem:∀ i x,i≤v.2.1.1→x∈LI v.2.1.2 i→0≤x.1∧x.1<x.2.1∧x.2.1<((4*N:Nat):Int):=by
    intro i x
    induction i with
    | zero=>intro _ hx;cases hx
    | succ i ih =>
      intro hi hx
      rcases List.mem_append.1 hx with hx | hx
      · exact ih (by omega) hx
      · have hb:=hin i (by omega)
        exact hmemE _ 4 x hb.1 (by omega) (by omega) (by omega) (by omega) hx
  have hall:∀ x∈unL v,0≤x.1∧x.1<x.2.1∧x.2.1<((4*N:Nat):Int):=fun x hx=>hmem _ x (Nat.le_refl _) ((srtL_perm _).mem_iff.1 hx)
  have hget:∀ i,(hi:i<(unL v).length)→(unL v).getD i (0,0,())=(unL v)[i]:=fun i hi=>by simp [List.getD_eq_getElem?_getD,hi]
  refine isG_of (by omega) hle (fun e he=>?_) (fun s hs=>?_)
  · show 0≤((unL v).getD e (0,0,())).1∧_
    simp only [hget e he]
    exact hall _ (List.getElem_mem he)
  · have hp:(unL v).Pairwise leB:=srtL_sorted _
    have:=List.pairwise_iff_getElem.1 hp s (s+1) (by omega) (by omega) (by omega)
    rw [aft_iff,hget s (by omega),hget (s+1) hs]
    exact this
theorem eqTo_refl (g:Nat→T_GainBar):∀ n,eqTo g g n=true
  | 0=>rfl
  | n+1=>by simp [eqTo,eqTo_refl g n,eqBar]
theorem eqGains_refl (g:T_GainGraph):eqGains g g=true:=by simp [eqGains,eqBars,eqTo_refl]
theorem qT_refl (g:Nat→T_Bar):∀ n,qT_BarS g g n=true
  | 0=>rfl
  | n+1=>by simp [qT_BarS,qT_refl g n,q1_BarS]
theorem eqGr_refl (v:T_Graph):eqGr v v=true:=by simp [eqGr,q_BarS,qT_refl]
set_option maxRecDepth 20000 in
theorem con_law_FnPeriodic (v0:Nat×(Nat→Int)) (k0:okS (.sl (.int .u8)) v0):zE 3 [cdA v0.1 v0.2] [] (.p (.bool true)):=by
  obtain ⟨n,f⟩:=v0
  have hbig:=con_big n f
  refine csZ Try.func3 (fun c hc=>?_)
  by_cases hn:n≤1048576
  · have hd:decide ((n:Int)>1048576)=false:=decide_eq_false (by omega)
    rw [hd] at hbig
    have hcd:CdOk n f:=⟨hn,fun i hi=>by have:=k0.2 i hi;simpa [okS,imin,imax] using this⟩
    obtain ⟨g,v,x,y,hg,cg⟩:=con_DrawSwitchGains n f hcd
    obtain ⟨w,hw,cw⟩:=con_DrawGainFreedom n f hcd
    obtain ⟨a,u,ha,hu,ca⟩:=con_DrawIsBalanced n f hcd
    obtain ⟨q,hq,cq⟩:=con_DrawUnrolledGraph n f hcd
    obtain ⟨i,j,hi,hj,cij⟩:=con_DrawEqualGains n f hcd
    have sg:smS s_GainGraph g:=sm_gain g.1 g.2.1 (by omega)
    have sw:smS s_GainGraph w:=sm_gain w.1 w.2.1 (by omega)
    have sa:smS s_GainGraph a:=sm_gain a.1 a.2.1 (by omega)
    have sq:smS s_GainGraph q:=sm_gain q.1 q.2.1 (by omega)
    have si:smS s_GainGraph i:=sm_gain i.1 i.2.1 (by omega)
    have sj:smS s_GainGraph j:=sm_gain j.1 j.2.1 (by omega)
    have hsn:∀ (g:T_GainGraph) v x y,g.2.1.1≤8→(swR g v x y).2.1.1≤8:=fun g v x y h=>by
      unfold swR;split<;>exact h
    have sk:smS s_GainGraph (swR g v x y):=sm_gain (swR g v x y).1 (swR g v x y).2.1 (by have:=hsn g v x y hg;omega)
    have sb:smS s_GainGraph (swR a 0 1 (-1)):=sm_gain (swR a 0 1 (-1)).1 (swR a 0 1 (-1)).2.1 (by have:=hsn a 0 1 (-1) ha;omega)
    have e1:=con_SwitchGains_i g v x y sg
    have e2:=con_SwitchGains_s g v x y sg
    have e3:=con_EqualGains_s (swR g v x y) (swR g v x y) sk sk
    rw [eqGains_refl] at e3
    have e4:swF g v x y=true→zE 10 [gnA (swR g v x y).2.1.2 (swR g v x y).2.1.1 (swR g v x y).1] [] (.p (.bool (sgF g))):=fun h=>by
      have:=con_IsGainSparse_i (swR g v x y) sk
      rw [sw_sparse h] at this
      exact this
    have e5:swF g v x y=true→zE 12 [gnA (swR g v x y).2.1.2 (swR g v x y).2.1.1 (swR g v x y).1] [] (.p (.int .i64 (gfF g))):=fun h=>by
      have:=con_GainFreedom_i (swR g v x y) sk
      rw [sw_free h] at this
      exact this
    have eb:swF a 0 1 (-1)=true→isBalF (swR a 0 1 (-1)) u=isBalF a u:=fun h=>sw_bal h
    have f1:isGainF w=true→0≤gfF w∧sgF w=(gfF w==2*w.1 - 2 - (w.2.1.1:Int)):=fun h=>free_ok h
    have f2:isGainF w=true→1≤w.1∧w.1≤4:=fun h=>⟨(gain_inW w h).1,(gain_inW w h).2.1⟩
    have u1:=con_EqualGraphs_s (unG q) (unG q) (by have:=unG_le q;omega)
    rw [eqGr_refl] at u1
    have u2:zE 24 [graphA (unG q)] [] (.p (.bool (isGraphF (unG q)))):=con_IsGraph_i (unG q) ⟨by simp [smS],⟨by have:=unG_le q;show (unG q).2.1.1≤_;omega,fun _ _=>by simp [smS,smL]⟩,True.intro⟩
    have u3:unB q=true→isGraphF (unG q)=true:=unG_graph
    have u4:=con_Unr_i q sq
    have u5:=con_Unr_s q sq
    have q1:=con_EqualGains_i i j si sj
    have q2:=con_EqualGains_s i j si sj
    have w1:=con_GainFreedom_i w sw
    have w2:=con_GainFreedom_s w sw
    have w3:=con_IsGainSparse_i w sw
    have w4:=con_IsGainSparse_s w sw
    have w5:=con_IsGainGraph_s w sw
    have w6:=con_IsGainGraph_i w sw
    have g1:=con_IsGainSparse_s g sg
    have g2:=con_GainFreedom_s g sg
    have a1:=con_IsBalanced_i a sa u (by omega)
    have a2:=con_IsBalanced_s a sa u (by omega)
    have a3:=con_SwitchGains_s a 0 1 (-1) sa
    have a4:=con_IsBalanced_i (swR a 0 1 (-1)) sb u (by omega)
    have d1:(bif !swF g v x y==swF g v x y then true else !true)=false:=by simp
    have d2:(bif swF g v x y then bif !sgF g==sgF g then true else gfF g != gfF g else false)=false:=by cases swF g v x y<;>simp
    have d3:(bif bif gfF w != gfF w then true else !sgF w==sgF w then true else bif isGainF w then bif decide (gfF w<0) then true else !sgF w==(gfF w==2*w.1 - 2 - (w.2.1.1:Int)) else false)=false:=by
      cases hg:isGainF w with
      | false=>simp
      | true =>
        obtain ⟨h1,h2⟩:=f1 hg
        rw [← h2]
        have h3:¬ gfF w<0:=by omega
        simp [h3]
    have d4:(!isBalF a u==isBalF a u)=false:=by simp
    have d5:(bif bif bif bif unB q==unB q then true else false then bif !unB q then true else isGraphF (unG q) else false then eqGains i j==eqGains i j else false then isGainF w==isGainF w else false)=true:=by
      cases hq:unB q with
      | false=>simp
      | true=>simp [u3 hq]
    have r1:∀ {A B:Bool},(A&&isGainF w&&B)=true→-100≤2*w.1∧2*w.1≤100:=fun h=>by
      simp only [Bool.and_eq_true] at h
      have:=f2 h.1.2
      omega
    by_cases hbal:isBalF a u=true∧a.1>0
    · have d6:(bif isBalF a u then decide (a.1>0) else false)=true:=by rw [hbal.1,cond_true];exact decide_eq_true hbal.2
      have d7:(bif swF a 0 1 (-1) then !isBalF (swR a 0 1 (-1)) u else false)=false:=by
        cases hs:swF a 0 1 (-1) with
        | false=>rfl
        | true=>rw [eb hs,hbal.1];rfl
      refine pkD Try.func3 hc (pdT n f g v x y w a u q i j) ?_
      and_intros
      all_goals (first | exact zH | (exact hbig) | (exact cg) | (exact e1) | (exact e2) | (intros;exact e3) | (intro h;exact e4 h) | (intro h;exact e5 (by simpa using h)) | (intros;exact g1) | (intros;exact g2) | (exact d1) | (exact d2) | (exact cw) | (intros;exact w1) | (intros;exact w2) | (intros;exact w3) | (intros;exact w4) | (intros;exact w5) | (intros;exact w6) | (intro h;have:=r1 h;omega) | (exact d3) | (exact ca) | (intros;exact a1) | (intros;exact a2) | (exact d4) | (exact d6) | (exact a3) | (intros;exact a4) | (exact d7) | (exact cq) | (exact u4) | (exact u5) | (exact cij) | (intros;exact u1) | (intros;exact u2) | (intros;exact q1) | (intros;exact q2) | (exact d5) | (intros;simp [All];done) | (intros;simp_all;done))
    · have d6:(bif isBalF a u then decide (a.1>0) else false)=false:=by
        cases hx:isBalF a u with
        | false=>rfl
        | true=>rw [cond_true];exact decide_eq_false (fun h=>hbal ⟨hx,h⟩)
      refine pkD Try.func3 hc (pdF n f g v x y w a u q i j) ?_
      and_intros
      all_goals (first | exact zH | (exact hbig) | (exact cg) | (exact e1) | (exact e2) | (intros;exact e3) | (intro h;exact e4 h) | (intro h;exact e5 (by simpa using h)) | (intros;exact g1) | (intros;exact g2) | (exact d1) | (exact d2) | (exact cw) | (intros;exact w1) | (intros;exact w2) | (intros;exact w3) | (intros;exact w4) | (intros;exact w5) | (intros;exact w6) | (intro h;have:=r1 h;omega) | (exact d3) | (exact ca) | (intros;exact a1) | (intros;exact a2) | (exact d4) | (exact d6) | (exact cq) | (exact u4) | (exact u5) | (exact cij) | (intros;exact u1) | (intros;exact u2) | (intros;exact q1) | (intros;exact q2) | (exact d5) | (intros;simp [All];done) | (intros;simp_all;done))
  · have hd:decide ((n:Int)>1048576)=true:=decide_eq_true (by omega)
    rw [hd] at hbig
    refine pkZ Try.func3 hc (pdZ n f) ?_
    and_intros
    all_goals (first | exact zN | (exact hbig))
end Go.Proofs.Ytgabljneilgilaa.Mach
