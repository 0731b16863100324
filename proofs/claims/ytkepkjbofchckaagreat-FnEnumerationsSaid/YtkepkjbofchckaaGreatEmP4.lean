/- What the law Em needs, part 4 of 6: the abstract machine and the contracts of the functions. Conditions: as each theorem says. -/
import Derived.Test.YtkepkjbofchckaaGreatEmP3
namespace Go.Proofs.YtkepkjbofchckaaGreat.Mach
open Go
set_option linter.unusedVariables false
set_option linter.unusedSimpArgs false
namespace Rnm
open Mat
structure Nam (N:Nat) (s:Nat→Nat):Prop where
  lt:∀ a,a<N→s a<N
  inj:∀ a b,a<N→b<N→s a=s b→a=b
theorem card_rm {R:Nat→Bool} {a:Nat} (h:R a=true):∀ n,cardR R n=cardR (fun v=>R v&&v != a) n+(if a<n then 1 else 0)
  | 0=>rfl
  | n+1=>by
    have ih:=card_rm h n
    simp only [cardR]
    rw [ih]
    by_cases e:n=a
    · subst e
      rw [h,if_neg (Nat.lt_irrefl _),if_pos (Nat.lt_succ_self _)]
      simp
    · have e1:(n != a)=true:=by simpa using e
      rw [e1,Bool.and_true]
      by_cases h1:a<n
      · rw [if_pos h1,if_pos (by omega)];omega
      · rw [if_neg h1,if_neg (by omega)];omega
theorem card_inj {N:Nat} {s:Nat→Nat}:∀ (n:Nat) (R:Nat→Bool),(∀ a,a<n→s a<N)→(∀ a b,a<n→b<n→s a=s b→a=b)→cardR (fun v=>R (s v)) n≤cardR R N
  | 0,R,_,_=>Nat.zero_le _
  | n+1,R,h1,h2=>by
    simp only [cardR]
    cases hr:R (s n) with
    | false =>
      have:=card_inj n R (fun a ha=>h1 a (by omega)) (fun a b ha hb=>h2 a b (by omega) (by omega))
      simpa using this
    | true =>
      have ih:=card_inj n (fun v=>R v&&v != s n) (fun a ha=>h1 a (by omega)) (fun a b ha hb=>h2 a b (by omega) (by omega))
      have e:cardR (fun v=>R (s v)&&s v != s n) n=cardR (fun v=>R (s v)) n:=by
        have key:∀ m,m≤n→cardR (fun v=>R (s v)&&s v != s n) m=cardR (fun v=>R (s v)) m:=by
          intro m
          induction m with
          | zero=>intro _;rfl
          | succ m im =>
            intro hm
            have hne:(s m != s n)=true:=by
              have:s m≠s n:=fun he=>by have:=h2 m n (by omega) (by omega) he;omega
              simpa using this
            simp only [cardR]
            rw [im (by omega),hne,Bool.and_true]
        exact key n (Nat.le_refl _)
      have hrm:=card_rm (R:=R) (a:=s n) hr N
      rw [if_pos (h1 n (by omega))] at hrm
      rw [e] at ih
      simp only [Bool.toNat_true]
      omega
theorem card_not (R:Nat→Bool):∀ n,cardR R n+cardR (fun v=>!R v) n=n
  | 0=>rfl
  | n+1=>by
    have:=card_not R n
    simp only [cardR]
    cases R n<;>simp<;>omega
theorem Nam.card {N:Nat} {s:Nat→Nat} (h:Nam N s) (R:Nat→Bool):cardR (fun v=>R (s v)) N=cardR R N:=by
  have h1:=card_inj N R h.lt h.inj
  have h2:=card_inj N (fun v=>!R v) h.lt h.inj
  have h3:=card_not (fun v=>R (s v)) N
  have h4:=card_not R N
  omega
theorem Nam.onto {N:Nat} {s:Nat→Nat} (h:Nam N s) {b:Nat} (hb:b<N):∃ a,a<N∧s a=b:=by
  have h1:=h.card (fun v=>v==b)
  have h2:=card_one (fun v=>v==b) b (by simp) N hb
  rw [← h1] at h2
  have key:∀ n,n≤N→1≤cardR (fun v=>s v==b) n→∃ a,a<n∧s a=b:=by
    intro n
    induction n with
    | zero=>intro _ h;simp [cardR] at h
    | succ n ih =>
      intro hn hc
      simp only [cardR] at hc
      cases he:(s n==b) with
      | true=>exact ⟨n,by omega,by simpa using he⟩
      | false =>
        rw [he] at hc
        obtain ⟨a,a1,a2⟩:=ih (by omega) (by simpa using hc)
        exact ⟨a,by omega,a2⟩
  exact key N (Nat.le_refl _) h2
theorem Nam.back {N:Nat} {s:Nat→Nat} (h:Nam N s):∃ t:Nat→Nat,Nam N t∧(∀ a,a<N→t (s a)=a)∧∀ b,b<N→s (t b)=b:=by
  have hex:∀ b,∃ a,b<N→a<N∧s a=b:=fun b=>by
    by_cases hb:b<N
    · obtain ⟨a,h1,h2⟩:=h.onto hb
      exact ⟨a,fun _=>⟨h1,h2⟩⟩
    · exact ⟨0,fun hb'=>absurd hb' hb⟩
  let t:Nat→Nat:=fun b=>Classical.choose (hex b)
  have ht:∀ b,b<N→t b<N∧s (t b)=b:=fun b hb=>Classical.choose_spec (hex b) hb
  refine ⟨t,⟨fun b hb=>(ht b hb).1,fun a b ha hb he=>?_⟩,fun a ha=>?_,fun b hb=>(ht b hb).2⟩
  · have h1:=(ht a ha).2
    have h2:=(ht b hb).2
    rw [← h1,← h2,he]
  · have h1:=ht (s a) (h.lt a ha)
    exact h.inj _ _ h1.1 ha h1.2
def mvX (s:Nat→Nat) (x:Nat×Nat):Nat×Nat:=(if s x.2<s x.1 then s x.2 else s x.1,if s x.2>s x.1 then s x.2 else s x.1)
theorem mv_inn (s:Nat→Nat) (R:Nat→Bool) (x:Nat×Nat):inn R (mvX s x)=inn (fun v=>R (s v)) x:=by
  simp only [inn,mvX]
  by_cases h:s x.2<s x.1
  · rw [if_pos h,if_neg (show ¬ s x.2>s x.1 by omega)];exact Bool.and_comm _ _
  · rw [if_neg h]
    by_cases h2:s x.2>s x.1
    · rw [if_pos h2]
    · rw [if_neg h2]
      have:s x.1=s x.2:=by omega
      rw [this]
theorem mv_cnt (s:Nat→Nat) (R:Nat→Bool):∀ L:List (Nat×Nat),cnt R (L.map (mvX s))=cnt (fun v=>R (s v)) L
  | []=>rfl
  | x::L=>by simp only [List.map_cons,cnt,mv_inn,mv_cnt s R L]
theorem cnt_agree {N:Nat} {R S:Nat→Bool} (h:∀ v,v<N→R v=S v):∀ l:List (Nat×Nat),(∀ x∈l,GoodBar N x)→cnt R l=cnt S l
  | [],_=>rfl
  | x::l,hl=>by
    have hx:=hl x (by simp)
    simp only [cnt,inn]
    rw [cnt_agree h l (fun y hy=>hl y (by simp [hy])),h _ hx.2.1,h _ hx.2.2]
theorem card_agree {R S:Nat→Bool}:∀ n,(∀ v,v<n→R v=S v)→cardR R n=cardR S n
  | 0,_=>rfl
  | n+1,h=>by simp only [cardR];rw [card_agree n (fun v hv=>h v (by omega)),h n (by omega)]
theorem Nam.sparse {N k l:Nat} {s:Nat→Nat} (h:Nam N s) {L:List (Nat×Nat)} (hL:∀ x∈L,GoodBar N x):Sparse N k l (L.map (mvX s))↔Sparse N k l L:=by
  obtain ⟨t,ht,t1,t2⟩:=h.back
  constructor
  · intro hs R hr
    have e1:cnt (fun v=>R (t v)) (L.map (mvX s))=cnt R L:=by
      rw [mv_cnt]
      exact cnt_agree (fun v hv=>by rw [t1 v hv]) L hL
    have e2:cardR (fun v=>R (t v)) N=cardR R N:=ht.card R
    have:=hs (fun v=>R (t v)) (by rw [e1];exact hr)
    rw [e1,e2] at this
    exact this
  · intro hs R hr
    rw [mv_cnt] at hr ⊢
    have:=hs (fun v=>R (s v)) hr
    rw [h.card R] at this
    exact this
theorem Nam.greedy {N k l:Nat} {s:Nat→Nat} (h:Nam N s):∀ (xs acc:List (Nat×Nat)),(∀ x∈xs,GoodBar N x)→(∀ x∈acc,GoodBar N x)→Mat.greedy N k l (acc.map (mvX s)) (xs.map (mvX s))=(Mat.greedy N k l acc xs).map (mvX s)
  | [],acc,_,_=>rfl
  | x::xs,acc,hx,ha=>by
    have hax:∀ y∈acc++[x],GoodBar N y:=fun y hy=>by
      rcases List.mem_append.1 hy with h1 | h1
      · exact ha y h1
      · rw [List.mem_singleton.1 h1];exact hx x (by simp)
    have e:=h.sparse (k:=k) (l:=l) hax
    rw [List.map_append,List.map_cons,List.map_nil] at e
    simp only [List.map_cons,Mat.greedy]
    by_cases hs:Sparse N k l (acc++[x])
    · rw [if_pos hs,if_pos (e.2 hs)]
      have:=Nam.greedy (k:=k) (l:=l) h xs (acc++[x]) (fun y hy=>hx y (by simp [hy])) hax
      rw [List.map_append,List.map_cons,List.map_nil] at this
      exact this
    · rw [if_neg hs,if_neg (fun h'=>hs (e.1 h'))]
      exact Nam.greedy h xs acc (fun y hy=>hx y (by simp [hy])) ha
theorem Nam.rk {N:Nat} {s:Nat→Nat} (h:Nam N s) {L:List (Nat×Nat)} (hL:∀ x∈L,GoodBar N x):rk N (L.map (mvX s))=rk N L:=by
  unfold Mat.rk
  have:=h.greedy (k:=2) (l:=3) L [] hL (fun x hx=>by cases hx)
  rw [List.map_nil] at this
  rw [this,List.length_map]
theorem mv_good {N:Nat} {s:Nat→Nat} (h:Nam N s) {x:Nat×Nat} (hx:GoodBar N x):GoodBar N (mvX s x):=by
  have h1:=h.lt x.1 hx.2.1
  have h2:=h.lt x.2 hx.2.2
  have h3:s x.1≠s x.2:=fun he=>hx.1 (h.inj _ _ hx.2.1 hx.2.2 he)
  unfold GoodBar mvX
  by_cases h4:s x.2<s x.1
  · rw [if_pos h4,if_neg (show ¬ s x.2>s x.1 by omega)];simp only;omega
  · rw [if_neg h4,if_pos (show s x.2>s x.1 by omega)];simp only;omega
end Rnm
def nmS (u:T_IntS) (a:Nat):Nat:=(u.2 a).toNat
theorem rn_nam {v:T_Graph} {u:T_IntS} (h:rnB v u=true):Rnm.Nam v.1.toNat (nmS u)∧isGraphF v=true∧∀ a,a<v.1.toNat→0≤u.2 a∧u.2 a<v.1:=by
  unfold rnB at h
  rw [Bool.and_eq_true,Bool.and_eq_true] at h
  obtain ⟨hg,hn,hd⟩:=h
  have hn:(u.1:Int)=v.1:=by simpa using hn
  have hin:=okD_in hd
  have hr:∀ a,a<v.1.toNat→0≤u.2 a∧u.2 a<v.1:=fun a ha=>⟨(hin a (by omega)).1,(hin a (by omega)).2.1⟩
  refine ⟨⟨fun a ha=>?_,fun a b ha hb he=>?_⟩,hg,hr⟩
  · have:=hr a ha
    unfold nmS;omega
  · have h1:=hr a ha
    have h2:=hr b hb
    unfold nmS at he
    have he:u.2 a=u.2 b:=by omega
    rcases Nat.lt_trichotomy a b with h3 | h3 | h3
    · exact absurd he ((hin b (by omega)).2.2 a h3)
    · exact h3
    · exact absurd he.symm ((hin a (by omega)).2.2 b h3)
theorem rn_bar {v:T_Graph} {u:T_IntS} (h:rnB v u=true) {i:Nat} (hi:i<v.2.1.1):brN (rnD v.2.1.2 u.2 i)=Rnm.mvX (nmS u) (brN (v.2.1.2 i)):=by
  obtain ⟨hn,hg,hr⟩:=rn_nam h
  have hb:=goodB_at (graph_inR hg).2.2.2 i hi
  have h1:=hr (v.2.1.2 i).1.toNat (by omega)
  have h2:=hr (v.2.1.2 i).2.1.toNat (by omega)
  unfold rnD brX brN Rnm.mvX nmS
  generalize u.2 (v.2.1.2 i).1.toNat=a at h1
  generalize u.2 (v.2.1.2 i).2.1.toNat=b at h2
  simp only
  by_cases h3:b<a
  · rw [if_pos h3,if_neg (show ¬ b>a by omega),if_pos (by omega),if_neg (by omega)]
  · rw [if_neg h3]
    by_cases h4:b>a
    · rw [if_pos h4,if_neg (by omega),if_pos (by omega)]
    · rw [if_neg h4,if_neg (by omega),if_neg (by omega)]
theorem bL_map (g:Nat→T_Bar):∀ n,bL g n=(List.range n).map (fun i=>brN (g i))
  | 0=>rfl
  | n+1=>by rw [bL,bL_map g n,List.range_succ,List.map_append];rfl
theorem srt_at (n:Nat) (h:Nat→T_Bar) (x:Nat×Nat):x∈bL (srtB n h) n↔x∈bL h n:=by
  have hl:lstB n (srtB n h)=srtL (lstB n h):=by
    refine List.ext_getElem? (fun i=>?_)
    rcases Nat.lt_or_ge i n with hi | hi
    · have:i<(srtL (lstB n h)).length:=by rw [srtL_len,lstB_len];exact hi
      rw [show (lstB n (srtB n h))[i]? = some (srtB n h i) by simp [lstB,hi]]
      unfold srtB
      rw [List.getD_eq_getElem?_getD,List.getElem?_eq_getElem this]
      rfl
    · have:(srtL (lstB n h)).length≤i:=by rw [srtL_len,lstB_len];exact hi
      rw [List.getElem?_eq_none this,List.getElem?_eq_none (by rw [lstB_len];exact hi)]
  have e:∀ g:Nat→T_Bar,bL g n=(lstB n g).map brN:=fun g=>by rw [bL_map,lstB,List.map_map];rfl
  rw [e,e,hl,List.mem_map,List.mem_map]
  constructor
  · rintro ⟨y,h1,h2⟩;exact ⟨y,(srtL_perm _).mem_iff.1 h1,h2⟩
  · rintro ⟨y,h1,h2⟩;exact ⟨y,(srtL_perm _).mem_iff.2 h1,h2⟩
theorem okB_graph {v:T_Graph} (hg:isGraphF v=true):OkBars v.1.toNat v.2.1.1 v.2.1.2:=fun e he=>by
  have:=goodB_at (graph_inR hg).2.2.2 e he
  have:=(graph_inR hg).1
  omega
theorem rn_bars {v:T_Graph} {u:T_IntS} (h:rnB v u=true) (x:Nat×Nat):x∈bL (rnG v u).2.1.2 (rnG v u).2.1.1↔x∈(bL v.2.1.2 v.2.1.1).map (Rnm.mvX (nmS u)):=by
  have e:rnG v u=(v.1,(v.2.1.1,srtB v.2.1.1 (rnD v.2.1.2 u.2)),()):=by unfold rnG;rw [if_pos h]
  rw [e]
  show x∈bL (srtB v.2.1.1 (rnD v.2.1.2 u.2)) v.2.1.1↔_
  rw [srt_at,bL_mem,List.mem_map]
  constructor
  · rintro ⟨i,hi,rfl⟩
    exact ⟨_,(bL_mem _ _ _).2 ⟨i,hi,rfl⟩,(rn_bar h hi).symm⟩
  · rintro ⟨y,hy,rfl⟩
    obtain ⟨i,hi,rfl⟩:=(bL_mem _ _ _).1 hy
    exact ⟨i,hi,rn_bar h hi⟩
theorem rn_rank {v:T_Graph} {u:T_IntS} (h:rnB v u=true):(accI (rnG v u).1.toNat 2 3 (rnG v u).2.1.2 (rnG v u).2.1.1).length=(accI v.1.toNat 2 3 v.2.1.2 v.2.1.1).length:=by
  obtain ⟨hn,hg,hr⟩:=rn_nam h
  have e1:(rnG v u).1=v.1:=by unfold rnG;rw [if_pos h]
  have hL:=bL_good (okB_graph hg)
  rw [acc_len,acc_len,e1]
  have:=Mat.rank_same (N:=v.1.toNat) ((bL v.2.1.2 v.2.1.1).map (Rnm.mvX (nmS u))) (bL (rnG v u).2.1.2 (rnG v u).2.1.1) (fun x hx=>by
    obtain ⟨y,hy,rfl⟩:=List.mem_map.1 hx
    exact Rnm.mv_good hn (hL y hy)) (fun x=>(rn_bars h x).symm)
  rw [← this]
  exact hn.rk hL
def dblB (g:Nat→T_Bar):Nat→Bool
  | 0=>false
  | k+1=>dblB g k||(decide (1≤k)&&q1_BarS (g ((k:Int) - 1).toNat) (g k))
def simpleF (v:T_Graph):Bool:=!dblB v.2.1.2 v.2.1.1&&isGraphF v
def badP (N:Int) (g:Nat→Int) (k:Nat):Bool :=
  bif bif decide (g k<0) then true else decide (g k≥N) then true else bif decide ((k:Int)>0) then decide (g ((k:Int) - 1).toNat≥g k) else false
def goodP (N:Int) (g:Nat→Int):Nat→Bool
  | 0=>true
  | k+1=>goodP N g k&&!badP N g k
def bothP (p:T_IntS) (b:T_Bar):Bool:=bif hasI p.2 b.1 p.1 then hasI p.2 b.2.1 p.1 else false
def freeP (p:T_IntS) (g:Nat→T_Bar):Nat→Bool
  | 0=>true
  | k+1=>freeP p g k&&!bothP p (g k)
def tailP (v:T_Pinned):Bool :=
  bif bif bif simpleF v.1 then decide ((v.2.1.1:Int)≥2) else false then decide ((v.1.2.1.1:Int)≤15) else false then decide ((v.1.2.1.1:Int)+2*(v.2.1.1:Int) - 3≤24) else false
def pinnedF (v:T_Pinned):Bool:=goodP v.1.1 v.2.1.2 v.2.1.1&&(freeP v.2.1 v.1.2.1.2 v.1.2.1.1&&tailP v)
open Go Go.Sort
def arI (v:T_Graph) (l:T_BarS):Nat→Bool×T_Graph
  | 0=>(true,v)
  | k+1=>((arI v l k).1&&abB (arI v l k).2 (l.2 k).1 (l.2 k).2.1,abG (arI v l k).2 (l.2 k).1 (l.2 k).2.1)
def hIn (s:Nat→Int) (i:Nat) (r:NB):Nat→NB
  | 0=>r
  | j+1=>sn (hIn s i r j) (brX (s i) (s (j+(i+1))))
def hC (s:Nat→Int) (m:Nat):Nat→NB
  | 0=>zNB
  | i+1=>hIn s i (hC s m i) (m - (i+1))
def hS (s:Nat→Int):Nat→NB
  | 0=>zNB
  | k+1=>if 1≤k then insR (insR (hS s k).2 (hS s k).1 (s 0,s (k+1),())).2 (insR (hS s k).2 (hS s k).1 (s 0,s (k+1),())).1 (s 1,s (k+1),()) else insR (hS s k).2 (hS s k).1 (s 0,s (k+1),())
def aS (g:Nat→T_Bar) (r:NB):Nat→NB
  | 0=>r
  | k+1=>insR (aS g r k).2 (aS g r k).1 (g k)
def mem (r:NB) (y:T_Bar):Prop:=∃ s,s<r.1∧r.2 s=y
theorem hIn_mem (s:Nat→Int) (i:Nat) (r:NB) (y:T_Bar):∀ j,mem (hIn s i r j) y↔mem r y∨∃ q,q<j∧brX (s i) (s (q+(i+1)))=y
  | 0=>by
    constructor
    · intro h;exact .inl h
    · rintro (h | ⟨q,h,_⟩)
      · exact h
      · exact absurd h (Nat.not_lt_zero _)
  | j+1=>by
    have ih:=hIn_mem s i r y j
    show (∃ t,t<(hIn s i r j).1+1∧snoc (hIn s i r j).1 (hIn s i r j).2 _ t=y)↔_
    rw [snoc_mem]
    rw [show (∃ t,t<(hIn s i r j).1∧(hIn s i r j).2 t=y)↔_ from ih]
    constructor
    · rintro ((h | ⟨q,h1,h2⟩) | h)
      · exact .inl h
      · exact .inr ⟨q,by omega,h2⟩
      · exact .inr ⟨j,by omega,h⟩
    · rintro (h | ⟨q,h1,h2⟩)
      · exact .inl (.inl h)
      · by_cases e:q=j
        · subst e;exact .inr h2
        · exact .inl (.inr ⟨q,by omega,h2⟩)
theorem hC_mem (s:Nat→Int) (m:Nat) (y:T_Bar):∀ i,i≤m→(mem (hC s m i) y↔∃ a b,a<i∧a<b∧b<m∧brX (s a) (s b)=y)
  | 0,_=>by
    constructor
    · rintro ⟨t,h,_⟩;exact absurd h (Nat.not_lt_zero _)
    · rintro ⟨a,b,h,_⟩;exact absurd h (Nat.not_lt_zero _)
  | i+1,hi=>by
    have ih:=hC_mem s m y i (by omega)
    simp only [hC]
    rw [hIn_mem,ih]
    constructor
    · rintro (⟨a,b,h1,h2,h3,h4⟩ | ⟨q,h1,h2⟩)
      · exact ⟨a,b,by omega,h2,h3,h4⟩
      · exact ⟨i,q+(i+1),by omega,by omega,by omega,h2⟩
    · rintro ⟨a,b,h1,h2,h3,h4⟩
      by_cases e:a=i
      · subst e;exact .inr ⟨b - (a+1),by omega,by rw [show b - (a+1)+(a+1)=b by omega];exact h4⟩
      · exact .inl ⟨a,b,by omega,h2,h3,h4⟩
theorem mem_ins (r:NB) (x y:T_Bar):mem (insR r.2 r.1 x) y↔mem r y∨x=y:=insR_mem r.2 r.1 x y
theorem hS_mem (s:Nat→Int) (y:T_Bar):∀ k,mem (hS s k) y↔∃ b,1≤b∧b≤k∧((s 0,s b,())=y∨(2≤b∧(s 1,s b,())=y))
  | 0=>by
    constructor
    · rintro ⟨t,h,_⟩;exact absurd h (Nat.not_lt_zero _)
    · rintro ⟨b,h1,h2,_⟩;omega
  | k+1=>by
    have ih:=hS_mem s y k
    simp only [hS]
    split
    · rename_i h1
      rw [mem_ins,mem_ins,ih]
      constructor
      · rintro ((⟨b,h2,h3,h4⟩ | h) | h)
        · exact ⟨b,h2,by omega,h4⟩
        · exact ⟨k+1,by omega,Nat.le_refl _,.inl h⟩
        · exact ⟨k+1,by omega,Nat.le_refl _,.inr ⟨by omega,h⟩⟩
      · rintro ⟨b,h2,h3,h4⟩
        by_cases e:b=k+1
        · subst e
          rcases h4 with h4 | h4
          · exact .inl (.inr h4)
          · exact .inr h4.2
        · exact .inl (.inl ⟨b,h2,by omega,h4⟩)
    · rename_i h1
      rw [mem_ins,ih]
      constructor
      · rintro (⟨b,h2,h3,h4⟩ | h)
        · exact ⟨b,h2,by omega,h4⟩
        · exact ⟨k+1,by omega,Nat.le_refl _,.inl h⟩
      · rintro ⟨b,h2,h3,h4⟩
        by_cases e:b=k+1
        · subst e
          rcases h4 with h4 | h4
          · exact .inr h4
          · omega
        · exact .inl ⟨b,h2,by omega,h4⟩
def alS (p:T_Pinned):NB:=aS p.1.2.1.2 (hS p.2.1.2 (p.2.1.1 - 1)) p.1.2.1.1
def hlC (p:T_Pinned):NB:=hC p.2.1.2 p.2.1.1 p.2.1.1
def hlS (p:T_Pinned):NB:=hS p.2.1.2 (p.2.1.1 - 1)
noncomputable def rkN (N:Nat) (r:NB):Nat:=(accI N 2 3 r.2 r.1).length
def OkN (N:Nat) (r:NB):Prop:=OkBars N r.1 r.2
structure PinOk (p:T_Pinned):Prop where
  N:1≤p.1.1∧p.1.1≤8
  m:2≤p.2.1.1∧p.2.1.1≤8
  nb:p.1.2.1.1≤15∧p.1.2.1.1+2*p.2.1.1≤27
  gr:∀ i,i<p.2.1.1→0≤p.2.1.2 i∧p.2.1.2 i<p.1.1
  asc:∀ i j,i<j→j<p.2.1.1→p.2.1.2 i<p.2.1.2 j
  bars:∀ i,i<p.1.2.1.1→0≤(p.1.2.1.2 i).1∧(p.1.2.1.2 i).1<(p.1.2.1.2 i).2.1∧(p.1.2.1.2 i).2.1<p.1.1
theorem PinOk.brx {p:T_Pinned} (h:PinOk p) {a b:Nat} (h1:a<b) (h2:b<p.2.1.1):brX (p.2.1.2 a) (p.2.1.2 b)=(p.2.1.2 a,p.2.1.2 b,()):=by
  have:=h.asc a b h1 h2
  simp only [brX]
  rw [if_neg (by omega),if_pos (by omega)]
theorem rkN_rk (N:Nat) (r:NB):rkN N r=Mat.rk N (bL r.2 r.1):=acc_len N 2 3 r.2 r.1
theorem bL_in (r:NB) (x:Nat×Nat):x∈bL r.2 r.1↔∃ y,mem r y∧brN y=x:=by
  rw [bL_mem]
  constructor
  · rintro ⟨s,h1,h2⟩;exact ⟨_,⟨s,h1,rfl⟩,h2⟩
  · rintro ⟨y,⟨s,h1,rfl⟩,h2⟩;exact ⟨s,h1,h2⟩
theorem PinOk.grd {p:T_Pinned} (h:PinOk p):Mat.Grd p.1.1.toNat p.2.1.1 (fun i=>(p.2.1.2 i).toNat) (bL (hlS p).2 (hlS p).1) where
  two:=h.m.1
  lt i hi:=by have:=h.gr i hi;show (p.2.1.2 i).toNat<_;omega
  ne i j hij hj:=by have:=h.asc i j hij hj;have:=h.gr i (by omega);show (p.2.1.2 i).toNat≠(p.2.1.2 j).toNat;omega
  b0 i h1 h2:=by
    rw [bL_in]
    refine ⟨(p.2.1.2 0,p.2.1.2 i,()),?_,rfl⟩
    rw [hlS,hS_mem]
    exact ⟨i,h1,by omega,.inl rfl⟩
  b1 i h1 h2:=by
    rw [bL_in]
    refine ⟨(p.2.1.2 1,p.2.1.2 i,()),?_,rfl⟩
    rw [hlS,hS_mem]
    exact ⟨i,by omega,by omega,.inr ⟨h1,rfl⟩⟩
theorem PinOk.same {p:T_Pinned} (h:PinOk p) {r q:NB} (hr:OkN p.1.1.toNat r) (hq:OkN p.1.1.toNat q) (hs:∀ y,mem (hlS p) y→mem r y) (h1:∀ y,mem r y→mem q y)
    (h2:∀ y,mem q y→mem r y∨mem (hlC p) y):rkN p.1.1.toNat q=rkN p.1.1.toNat r:=by
  rw [rkN_rk,rkN_rk]
  refine h.grd.same (bL_good hr) (bL_good hq) (fun x hx=>?_) (fun x hx=>?_) (fun x hx=>?_)
  · rw [bL_in] at hx ⊢
    obtain ⟨y,h3,h4⟩:=hx
    exact ⟨y,hs y h3,h4⟩
  · rw [bL_in] at hx ⊢
    obtain ⟨y,h3,h4⟩:=hx
    exact ⟨y,h1 y h3,h4⟩
  · rw [bL_in] at hx
    obtain ⟨y,h3,h4⟩:=hx
    rcases h2 y h3 with h5 | h5
    · exact .inl ((bL_in _ _).2 ⟨y,h5,h4⟩)
    · rw [hlC,hC_mem _ _ _ _ (Nat.le_refl _)] at h5
      obtain ⟨a,b,h6,h7,h8,rfl⟩:=h5
      rw [h.brx h7 h8] at h4
      exact .inr ⟨a,b,h6,h8,h4.symm⟩
noncomputable def prG (p:T_Pinned):Int:=if pinnedF p=true then (rkN p.1.1.toNat (alS p):Int) - (rkN p.1.1.toNat (hlS p):Int) else -1
def hitB (x:T_Bar) (a b:Int):Bool:=bif bif x.1==a then x.2.1==b else false then true else bif x.1==b then x.2.1==a else false
def SOi (v:T_Graph) (a b:Int) (k n:Nat):St :=
  ⟨[graphA v,.p (.int .i64 a),.p (.int .i64 b),.pt 2 0 0 0,.p .any,.p .any,.p .any,.p (.int .i64 n),.p .any,.p .any,.p .any,graphL v.2.1,.p (.int .i64 v.2.1.1),.p (.int .i64 k)]++List.replicate 29 anyA,[(0,boxG v)],1⟩
def SMio (v:T_Graph) (a n:Nat) (h:Nat→T_Bar):St :=
  ⟨[graphA v,.pt 2 0 0 0,.p .any,.ar 2 1 0 n]++List.replicate 8 anyA++[.p (.int .i64 v.1),.p (.int .i64 a)]++List.replicate 23 anyA,[(0,boxG v),(1,brOb n h)],2⟩
def SMii (v:T_Graph) (a b n:Nat) (h:Nat→T_Bar):St :=
  ⟨[graphA v,.pt 2 0 0 0,.p .any,.ar 2 1 0 n,.p (.int .i64 a),.p (.int .i64 b)]++List.replicate 6 anyA++[.p (.int .i64 v.1),.p (.int .i64 a)]++List.replicate 23 anyA,[(0,boxG v),(1,brOb n h)],2⟩
theorem oIz (v:T_Graph) (a b:Int) :
    zT Tryz.f150 [rg 2,rg 1,rg 4,.head] [graphA v,.p (.int .i64 a),.p (.int .i64 b)] [0] (SOi v a b 0 0) =
    some (zf67,zD [(NT 0 1),(AI v.1),(AN v.2.1.1),(AP v.2.1.1 (bRw v.2.1.2)),(AI a),(AI b),(AN 0),((0:Int)=(↑0:Int)),(AI ((↑v.2.1.1:Int))),((([AV.p (PV.int IntKind.i64 v.1),graphL v.2.1].length):Nat)=2),(NL 1 1)] [0,1,2,3,4,5,6,7,2,3,8,7,9,10,10,1,2,3]):=by kernel_rfl
theorem oIt (v:T_Graph) (a b:Int) (k n:Nat) :
    zM 0 [rg 1,.dec true,rg 4,rg 22,.dec true,rg 3,rg 2,.head] zf67 (SOi v a b k n) [0] 1 (SOi v a b (k+1) (n+1)) =
    some (zf67,zD [((decide ((↑k:Int)<(↑v.2.1.1:Int)))=true),(IL 0 (↑k:Int)),(IT (↑k:Int) (↑v.2.1.1:Int)),(NT 0 1),((true=true)→ (AN 1)),(AG ((v.2.1.2 k).1==a)),((((v.2.1.2 k).1==a)=true)→(NT 0 1)),(AG (!bif (v.2.1.2 k).1==a then (v.2.1.2 k).2.1==b else false)),(((!bif (v.2.1.2 k).1==a then (v.2.1.2 k).2.1==b else false)=true)→(NT 0 1)),(AG ((!bif (v.2.1.2 k).1==a then (v.2.1.2 k).2.1==b else false)&&(v.2.1.2 k).1==b)),((((!bif (v.2.1.2 k).1==a then (v.2.1.2 k).2.1==b else false)&&(v.2.1.2 k).1==b)=true)→(NT 0 1)),(((!bif (v.2.1.2 k).1==a then (v.2.1.2 k).2.1==b else false)=true)→((((v.2.1.2 k).1==b)=true)→ (((!bif (v.2.1.2 k).1==a then (v.2.1.2 k).2.1==b else false)&&(v.2.1.2 k).1==b)=true))),(((bif (v.2.1.2 k).1==a then (v.2.1.2 k).2.1==b else false)=false)→ ((!bif (v.2.1.2 k).1==a then (v.2.1.2 k).2.1==b else false)=true)),((bif bif (v.2.1.2 k).1==a then (v.2.1.2 k).2.1==b else false then true else bif (v.2.1.2 k).1==b then (v.2.1.2 k).2.1==a else false)=true),(ZLo ((↑n:Int)+1)),(ZHi ((↑n:Int)+1)),(ZLo ((↑k:Int)+1)),(ZHi ((↑k:Int)+1)),(AI v.1),(AN v.2.1.1),(AP v.2.1.1 (bRw v.2.1.2)),(AI a),(AI b),(AN 0),((((↑n:Int)+1):Int)=(↑(n+1):Int)),(AI ((↑v.2.1.1:Int))),((((↑k:Int)+1):Int)=(↑(k+1):Int)),(AN 2),(NL 1 1)] [0,1,2,3,4,3,5,6,5,5,5,7,8,7,7,7,9,10,9,9,7,11,12,13,14,15,16,17,18,19,20,21,22,23,24,19,20,25,26,27,28,28,18,19,20]):=by kernel_rfl
theorem oIf (v:T_Graph) (a b:Int) (k n:Nat) :
    zM 0 [rg 1,.dec true,rg 4,rg 22,.dec false,rg 2,.head] zf67 (SOi v a b k n) [0] 1 (SOi v a b (k+1) n) =
    some (zf67,zD [((decide ((↑k:Int)<(↑v.2.1.1:Int)))=true),(IL 0 (↑k:Int)),(IT (↑k:Int) (↑v.2.1.1:Int)),(NT 0 1),((true=true)→ (AN 1)),(AG ((v.2.1.2 k).1==a)),((((v.2.1.2 k).1==a)=true)→(NT 0 1)),(AG (!bif (v.2.1.2 k).1==a then (v.2.1.2 k).2.1==b else false)),(((!bif (v.2.1.2 k).1==a then (v.2.1.2 k).2.1==b else false)=true)→(NT 0 1)),(AG ((!bif (v.2.1.2 k).1==a then (v.2.1.2 k).2.1==b else false)&&(v.2.1.2 k).1==b)),((((!bif (v.2.1.2 k).1==a then (v.2.1.2 k).2.1==b else false)&&(v.2.1.2 k).1==b)=true)→(NT 0 1)),(((!bif (v.2.1.2 k).1==a then (v.2.1.2 k).2.1==b else false)=true)→((((v.2.1.2 k).1==b)=true)→ (((!bif (v.2.1.2 k).1==a then (v.2.1.2 k).2.1==b else false)&&(v.2.1.2 k).1==b)=true))),(((bif (v.2.1.2 k).1==a then (v.2.1.2 k).2.1==b else false)=false)→ ((!bif (v.2.1.2 k).1==a then (v.2.1.2 k).2.1==b else false)=true)),((bif bif (v.2.1.2 k).1==a then (v.2.1.2 k).2.1==b else false then true else bif (v.2.1.2 k).1==b then (v.2.1.2 k).2.1==a else false)=false),(ZLo ((↑k:Int)+1)),(ZHi ((↑k:Int)+1)),(AI v.1),(AN v.2.1.1),(AP v.2.1.1 (bRw v.2.1.2)),(AI a),(AI b),(AN 0),(AI ((↑n:Int))),(AI ((↑v.2.1.1:Int))),((((↑k:Int)+1):Int)=(↑(k+1):Int)),(AN 2),(NL 1 1)] [0,1,2,3,4,3,5,6,5,5,5,7,8,7,7,7,9,10,9,9,7,11,12,13,14,15,16,17,18,19,20,21,22,17,18,23,24,25,26,26,16,17,18]):=by kernel_rfl
theorem oIe (v:T_Graph) (a b:Int) (k n:Nat) :
    zP Tryz.f150 0 [rg 1,.dec false,rg 2] zf67 (SOi v a b k n) [] 1 [] (.p (.int .i64 n)) =
    some [((decide ((↑k:Int)<(↑v.2.1.1:Int)))=false),(AI ((↑n:Int)))]:=by kernel_rfl
theorem mIn (v:T_Graph) :
    zS Tryz.f75 [rg 2,rg 2,rm [(1,oc [] (.p (.bool false)))] 1,.dec true,rg 2] [graphA v] [64] [(0,brOb 0 (fun _=>(0,0,())))] (.ar 2 0 0 0) =
    some [(NT 0 1),zE 130 [(zf96 v)] [] (.p (.bool false)),((!false)=true),(AN 0),(AN 0),(AN 2),(NL 0 0),(AA 0 (fun i=>[.p (.int .i64 0),.p (.int .i64 0)])),(AE 0)]:=by kernel_rfl
theorem mIz (v:T_Graph) :
    zT Tryz.f75 [rg 2,rg 2,rm [(1,oc [] (.p (.bool true)))] 1,.dec false,rg 3,.head] [graphA v] [0,64] (SMio v 0 0 (fun _=>(0,0,()))) =
    some (zf56,zD [(NT 0 1),zE 130 [(zf96 v)] [] (.p (.bool true)),((!true)=false),(AI v.1),(AN v.2.1.1),(AP v.2.1.1 (bRw v.2.1.2)),(AN 0),((0:Int)=(↑0:Int)),((([AV.p (PV.int IntKind.i64 v.1),graphL v.2.1].length):Nat)=2),(NL 1 1),(AN 2),(NL 0 0),(AA 0 (fun i=>[.p (.int .i64 0),.p (.int .i64 0)]))] [0,1,2,0,3,4,5,6,6,6,3,7,8,9,9,3,4,5,10,11,12]):=by kernel_rfl
theorem mIo (v:T_Graph) (a n:Nat) (h:Nat→T_Bar) :
    zM 0 [rg 1,.dec true,rg 2,rg 3,.head] zf56 (SMio v a n h) [0,1] 1 (SMii v a (a+1) n h) =
    some (zf13,zD [((decide ((↑a:Int)<v.1))=true),(ZLo ((↑a:Int)+1)),(ZHi ((↑a:Int)+1)),(AI v.1),(AN v.2.1.1),(AP v.2.1.1 (bRw v.2.1.2)),(AN 0),(AN n),(AI ((↑a:Int))),((((↑a:Int)+1):Int)=(↑(a+1):Int)),(AN 2),(NL 1 1),(NL n n),(AA n (fun i=>[.p (.int .i64 ((h i).1)),.p (.int .i64 ((h i).2.1))]))] [0,1,2,3,4,5,6,6,7,8,9,3,8,10,11,11,3,4,5,10,12,13]):=by kernel_rfl
theorem mIt (v:T_Graph) (a b n c:Nat) (h:Nat→T_Bar) :
    zM 0 [rg 4,.dec true,rm [(3,oc [] (.p (.int .i64 c)))] 1,.dec true,rg 7,rg 3,.head] zf13 (SMii v a b n h) [0,450] 1 (SMii v a (b+1) (n+1) (snoc n h (a,b,()))) =
    some (zf13,zD [(NT 0 1),((decide ((↑b:Int)<v.1))=true),zE 150 [(zf96 v),.p (.int .i64 (↑a:Int)),.p (.int .i64 (↑b:Int))] [] (.p (.int .i64 (↑c:Int))),(((↑c:Int)==0)=true),(NL 1 1),(NL n n),(NL ((n+1)*16) 140737488355328),(NL (n+1) 9223372036854775807),(ZLo ((↑b:Int)+1)),(ZHi ((↑b:Int)+1)),(AI v.1),(AN v.2.1.1),(AP v.2.1.1 (bRw v.2.1.2)),(AN 0),(AN ((n+1))),(AI ((↑a:Int))),((((↑b:Int)+1):Int)=(↑(b+1):Int)),(AN 2),(NL (n+1) (n+1)),(CV [(450,⟨false,2,(n+1),(fun i_1=>(if (i_1<n) then [.p (.int .i64 ((h i_1).1)),.p (.int .i64 ((h i_1).2.1))] else [.p (.int .i64 (↑a:Int)),.p (.int .i64 (↑b:Int))]))⟩),(418,⟨false,2,1,(fun i_1=>[.p (.int .i64 (↑a:Int)),.p (.int .i64 (↑b:Int))])⟩),(0,⟨true,2,1,(fun i_1=>[.p (.int .i64 v.1),.p (.seq true 2 v.2.1.1 (bRw v.2.1.2))])⟩)] [0,450] 1 (n+1) (fun i=>if (i<n) then [.p (.int .i64 ((h i).1)),.p (.int .i64 ((h i).2.1))] else [.p (.int .i64 (↑a:Int)),.p (.int .i64 (↑b:Int))]) (fun i=>[.p (.int .i64 (if i<n then (h i).1 else (↑a:Int))),.p (.int .i64 (if i<n then (h i).2.1 else (↑b:Int)))]))] [0,1,0,2,3,4,5,6,7,8,9,10,11,12,13,13,14,15,16,10,15,17,4,4,10,11,12,17,18,19]):=by kernel_rfl
theorem mIf (v:T_Graph) (a b n c:Nat) (h:Nat→T_Bar) :
    zM 0 [rg 4,.dec true,rm [(3,oc [] (.p (.int .i64 c)))] 1,.dec false,rg 3,.head] zf13 (SMii v a b n h) [0,1] 1 (SMii v a (b+1) n h) =
    some (zf13,zD [(NT 0 1),((decide ((↑b:Int)<v.1))=true),zE 150 [(zf96 v),.p (.int .i64 (↑a:Int)),.p (.int .i64 (↑b:Int))] [] (.p (.int .i64 (↑c:Int))),(((↑c:Int)==0)=false),(ZLo ((↑b:Int)+1)),(ZHi ((↑b:Int)+1)),(AI v.1),(AN v.2.1.1),(AP v.2.1.1 (bRw v.2.1.2)),(AN 0),(AN n),(AI ((↑a:Int))),((((↑b:Int)+1):Int)=(↑(b+1):Int)),(AN 2),(NL 1 1),(NL n n),(AA n (fun i=>[.p (.int .i64 ((h i).1)),.p (.int .i64 ((h i).2.1))]))] [0,1,0,2,3,4,5,6,7,8,9,9,10,11,12,6,11,13,14,14,6,7,8,13,15,16]):=by kernel_rfl
theorem mIx (v:T_Graph) (a b n:Nat) (h:Nat→T_Bar) :
    zM 0 [rg 4,.dec false,rg 2,.head] zf13 (SMii v a b n h) [0,1] 1 (SMio v (a+1) n h) =
    some (zf56,zD [(NT 0 1),((decide ((↑b:Int)<v.1))=false),(ZLo ((↑a:Int)+1)),(ZHi ((↑a:Int)+1)),(AI v.1),(AN v.2.1.1),(AP v.2.1.1 (bRw v.2.1.2)),(AN 0),(AN n),((((↑a:Int)+1):Int)=(↑(a+1):Int)),(AN 2),(NL 1 1),(NL n n),(AA n (fun i=>[.p (.int .i64 ((h i).1)),.p (.int .i64 ((h i).2.1))]))] [0,1,2,3,4,5,6,7,7,8,4,9,10,11,11,4,5,6,10,12,13]):=by kernel_rfl
theorem mIe (v:T_Graph) (a n:Nat) (h:Nat→T_Bar) :
    zP Tryz.f75 0 [rg 1,.dec false,rg 2] zf56 (SMio v a n h) [1] 1 [(0,brOb n h)] (.ar 2 0 0 n) =
    some [((decide ((↑a:Int)<v.1))=false),(AN 0),(AN n),(AN 2),(NL n n),(AA n (fun i=>[.p (.int .i64 ((h i).1)),.p (.int .i64 ((h i).2.1))])),(AE n)]:=by kernel_rfl
def cbN (g:Nat→T_Bar) (a b:Int):Nat→Nat
  | 0=>0
  | k+1=>if hitB (g k) a b=true then cbN g a b k+1 else cbN g a b k
theorem cbN_le (g:Nat→T_Bar) (a b:Int):∀ k,cbN g a b k≤k
  | 0=>Nat.le_refl _
  | k+1=>by
    have:=cbN_le g a b k
    simp only [cbN]
    split<;>omega
theorem con_CountBar_i (v:T_Graph) (hs:smS s_Graph v) (a b:Int):zE 150 [graphA v,.p (.int .i64 a),.p (.int .i64 b)] [] (.p (.int .i64 (cbN v.2.1.2 a b v.2.1.1))):=by
  have hn:v.2.1.1≤1048576:=hs.2.1.1
  refine csZ Tryz.func150 (fun c hc=>?_)
  have lo:∀ d k,k+d=v.2.1.1→zR c 150 zf67 (SOi v a b k (cbN v.2.1.2 a b k)) (Post c [] (.p (.int .i64 (cbN v.2.1.2 a b v.2.1.1)))):=by
    intro d
    induction d with
    | zero =>
      intro k hk
      obtain rfl:k=v.2.1.1:=by omega
      have hd:decide ((v.2.1.1:Int)<(v.2.1.1:Int))=false:=by simp
      refine pkZ Tryz.func150 hc (oIe v a b v.2.1.1 _) ?_
      and_intros
      all_goals (first | exact zN | (exact hd))
    | succ d ih =>
      intro k hk
      have hd:decide ((k:Int)<(v.2.1.1:Int))=true:=decide_eq_true (by omega)
      have hrec:=ih (k+1) (by omega)
      have hl:=cbN_le v.2.1.2 a b k
      cases hh:hitB (v.2.1.2 k) a b with
      | true =>
        rw [show cbN v.2.1.2 a b (k+1)=cbN v.2.1.2 a b k+1 by simp [cbN,hh]] at hrec
        refine pcD hc (oIt v a b k _) ?_ hrec
        and_intros
        all_goals (first | exact zH | (exact hd) | (exact hh) | (simp;omega))
      | false =>
        rw [show cbN v.2.1.2 a b (k+1)=cbN v.2.1.2 a b k by simp [cbN,hh]] at hrec
        refine pcD hc (oIf v a b k _) ?_ hrec
        and_intros
        all_goals (first | exact zH | (exact hd) | (exact hh) | (simp;omega))
  refine pcD hc (oIz v a b) ?_ (lo v.2.1.1 0 (by omega))
  and_intros
  all_goals (first | exact zN | (simp;omega))
def msI (v:T_Graph) (a:Nat) (r:NB):Nat→NB
  | 0=>r
  | j+1=>if cbN v.2.1.2 a ((a+1+j:Nat):Int) v.2.1.1=0 then sn (msI v a r j) (a,((a+1+j:Nat):Int),()) else msI v a r j
def msO (v:T_Graph):Nat→NB
  | 0=>zNB
  | a+1=>msI v a (msO v a) (v.1.toNat - (a+1))
def msP (v:T_Graph):NB:=if isGraphF v=true then msO v v.1.toNat else zNB
theorem msI_n (v:T_Graph) (a:Nat) (r:NB):∀ j,(msI v a r j).1≤r.1+j
  | 0=>Nat.le_refl _
  | j+1=>by
    have:=msI_n v a r j
    simp only [msI]
    split
    · simp only [sn];omega
    · omega
theorem msO_n (v:T_Graph) (h:v.1.toNat≤8):∀ a,(msO v a).1≤8*a
  | 0=>Nat.le_refl _
  | a+1=>by
    have:=msO_n v h a
    have:=msI_n v a (msO v a) (v.1.toNat - (a+1))
    simp only [msO]
    omega
theorem con_Missing_i (v:T_Graph) (hs:smS s_Graph v):zE 75 [graphA v] [(0,brOb (msP v).1 (msP v).2)] (.ar 2 0 0 (msP v).1):=by
  have c1:=con_IsGraph_i v hs
  refine csZ Tryz.func75 (fun c hc=>?_)
  cases hp:isGraphF v with
  | false =>
    rw [hp] at c1
    rw [show msP v=zNB by simp [msP,hp]]
    refine pkZ Tryz.func75 hc (mIn v) ?_
    and_intros
    all_goals (first | exact zN | (intros;exact c1) | (intro t ht;exact absurd ht (Nat.not_lt_zero _)) | (intro t ht;simp [All]))
  | true =>
    have hg:=graph_inR hp
    rw [hp] at c1
    rw [show msP v=msO v v.1.toNat by simp [msP,hp]]
    generalize hR:msO v v.1.toNat=R
    have li:∀ a,a<v.1.toNat→(zR c 75 zf56 (SMio v (a+1) (msO v (a+1)).1 (msO v (a+1)).2) (Post c [(0,brOb R.1 R.2)] (.ar 2 0 0 R.1))) →
        ∀ d j,j+d=v.1.toNat - (a+1)→zR c 75 zf13 (SMii v a (a+1+j) (msI v a (msO v a) j).1 (msI v a (msO v a) j).2) (Post c [(0,brOb R.1 R.2)] (.ar 2 0 0 R.1)):=by
      intro a ha hk d
      induction d with
      | zero =>
        intro j hj
        obtain rfl:j=v.1.toNat - (a+1):=by omega
        have hd:decide (((a+1+(v.1.toNat - (a+1)):Nat):Int)<v.1)=false:=decide_eq_false (by omega)
        refine pcD hc (mIx v a (a+1+(v.1.toNat - (a+1))) _ _) ?_ hk
        and_intros
        all_goals (first | exact zN | (exact hd) | (intro t ht;simp [All]) | (simp;omega))
      | succ d ih =>
        intro j hj
        have hd:decide (((a+1+j:Nat):Int)<v.1)=true:=decide_eq_true (by omega)
        have hrec:=ih (j+1) (by omega)
        have hn:=msI_n v a (msO v a) j
        have hn2:=msO_n v (by omega) a
        have cc:=con_CountBar_i v hs a ((a+1+j:Nat):Int)
        by_cases hh:cbN v.2.1.2 a ((a+1+j:Nat):Int) v.2.1.1=0
        · have hq:((cbN v.2.1.2 a ((a+1+j:Nat):Int) v.2.1.1:Int)==0)=true:=by rw [hh];rfl
          rw [show msI v a (msO v a) (j+1)=sn (msI v a (msO v a) j) (a,((a+1+j:Nat):Int),()) by simp only [msI,hh,if_true]] at hrec
          generalize msI v a (msO v a) j=q at hn hrec ⊢
          refine pcD hc (mIt v a (a+1+j) q.1 (cbN v.2.1.2 a ((a+1+j:Nat):Int) v.2.1.1) q.2) ?_ hrec
          and_intros
          all_goals (first | exact zN | (exact hd) | (exact cc) | (exact hq) | (intro t ht;by_cases h':t<q.1<;>simp [h',snoc,cvtL,cvt,tg,tru,All]) | (simp;omega))
        · have hq:((cbN v.2.1.2 a ((a+1+j:Nat):Int) v.2.1.1:Int)==0)=false:=beq_eq_false_iff_ne.2 (fun h=>hh (Int.ofNat_eq_zero.1 h))
          rw [show msI v a (msO v a) (j+1)=msI v a (msO v a) j by simp only [msI,hh,if_false]] at hrec
          generalize msI v a (msO v a) j=q at hn hrec ⊢
          refine pcD hc (mIf v a (a+1+j) q.1 (cbN v.2.1.2 a ((a+1+j:Nat):Int) v.2.1.1) q.2) ?_ hrec
          and_intros
          all_goals (first | exact zN | (exact hd) | (exact cc) | (exact hq) | (intro t ht;simp [All]) | (simp;omega))
    have lo:∀ d a,a+d=v.1.toNat→zR c 75 zf56 (SMio v a (msO v a).1 (msO v a).2) (Post c [(0,brOb R.1 R.2)] (.ar 2 0 0 R.1)):=by
      intro d
      induction d with
      | zero =>
        intro a ha
        obtain rfl:a=v.1.toNat:=by omega
        have hd:decide (((v.1.toNat:Nat):Int)<v.1)=false:=decide_eq_false (by omega)
        rw [hR]
        refine pkZ Tryz.func75 hc (mIe v v.1.toNat R.1 R.2) ?_
        and_intros
        all_goals (first | exact zN | (exact hd) | (intros;exact c1) | (intro t ht;simp [All]))
      | succ d ih =>
        intro a ha
        have hd:decide ((a:Int)<v.1)=true:=decide_eq_true (by omega)
        refine pcD hc (mIo v a _ _) ?_ (li a (by omega) (ih (a+1) (by omega)) (v.1.toNat - (a+1)) 0 (by omega))
        and_intros
        all_goals (first | exact zN | (exact hd) | (intros;exact c1) | (intro t ht;simp [All]))
    refine pcD hc (mIz v) ?_ (lo v.1.toNat 0 (by omega))
    and_intros
    all_goals (first | exact zN | (intros;exact c1) | (intro t ht;exact absurd ht (Nat.not_lt_zero _)) | (intro t ht;simp [All]))
structure AdOk (p:T_Pinned) (d:T_Pinned×NB):Prop where
  pin:pinnedF d.1=true
  eq:d.1=((arI p.1 d.2 d.2.1).2,p.2)
  ok:(arI p.1 d.2 d.2.1).1=true
  rk:prG d.1=prG p+d.2.1
theorem aft_or (a b:T_Bar):aft a b=true↔a.1<b.1∨(a.1=b.1∧a.2.1≤b.2.1):=by
  unfold aft
  by_cases h1:a.1<b.1
  · simp [h1]
  · by_cases h2:a.1=b.1
    · simp [h2]
    · have:(a.1==b.1)=false:=beq_eq_false_iff_ne.2 h2
      simp [h1,h2]
def AscB (n:Nat) (h:Nat→T_Bar):Prop:=∀ s,s+1<n→aft (h s) (h (s+1))=true
theorem isG_of {N nb:Nat} {g:Nat→T_Bar} (hN:1≤N∧N≤8) (hnb:nb≤24) (hok:OkBars N nb g) (ha:AscB nb g):isGraphF ((N:Int),(nb,g),())=true:=by
  have hgood:∀ k,k≤nb→goodB (N:Int) g k=true:=by
    intro k
    induction k with
    | zero=>intro _;rfl
    | succ k ih =>
      intro hk
      rw [goodB,ih (by omega),Bool.true_and,Bool.not_eq_true']
      have hb:=hok k (by omega)
      have a1:decide ((g k).1<0)=false:=decide_eq_false (by omega)
      have a2:decide ((g k).1≥(g k).2.1)=false:=decide_eq_false (by omega)
      have a3:decide ((g k).2.1≥(N:Int))=false:=decide_eq_false (by omega)
      unfold badB
      rw [a1,a2,a3]
      simp only [cond_false]
      by_cases h0:k=0
      · subst h0;rfl
      · have:=ha (k - 1) (by omega)
        rw [show k - 1+1=k by omega] at this
        rw [show ((k:Int) - 1).toNat=k - 1 by omega,this]
        cases decide ((k:Int)>0)<;>rfl
  have hin:inB (N:Int) 1 8=true:=by simp [inB];omega
  rw [isGraphF,if_pos ⟨hin,hnb⟩]
  exact hgood nb (Nat.le_refl _)
theorem bad_parts {N:Int} {g:Nat→T_Bar} {k:Nat} (h:badB N g k=false):0≤(g k).1∧(g k).1<(g k).2.1∧(g k).2.1<N∧(0<k→aft (g (k - 1)) (g k)=true):=by
  unfold badB at h
  by_cases h1:(g k).1<0
  · rw [decide_eq_true h1] at h;cases h
  by_cases h2:(g k).1≥(g k).2.1
  · rw [decide_eq_false h1,decide_eq_true h2] at h;cases h
  by_cases h3:(g k).2.1≥N
  · rw [decide_eq_false h1,decide_eq_false h2,decide_eq_true h3] at h;cases h
  rw [decide_eq_false h1,decide_eq_false h2,decide_eq_false h3] at h
  refine ⟨by omega,by omega,by omega,fun hk=>?_⟩
  rw [decide_eq_true (show (k:Int)>0 by omega)] at h
  rw [show ((k:Int) - 1).toNat=k - 1 by omega] at h
  simpa using h
theorem asc_of {N nb:Nat} {g:Nat→T_Bar} (hg:isGraphF ((N:Int),(nb,g),())=true):AscB nb g:=by
  have h:=(graph_inR hg).2.2.2
  intro s hs
  have:=(bad_parts (goodB_in (N:Int) g nb h (s+1) hs)).2.2.2 (by omega)
  rwa [show s+1 - 1=s by omega] at this
theorem aft_trans {a b c:T_Bar} (h1:aft a b=true) (h2:aft b c=true):aft a c=true:=by
  rw [aft_or] at *
  omega
theorem asc_steps {n:Nat} {g:Nat→T_Bar} (h:AscB n g):∀ d i,i+(d+1)<n→aft (g i) (g (i+(d+1)))=true
  | 0,i,hi=>h i hi
  | d+1,i,hi=>aft_trans (asc_steps h d i (by omega)) (h (i+(d+1)) (by omega))
theorem asc_lt {n:Nat} {g:Nat→T_Bar} (h:AscB n g) {i j:Nat} (hij:i<j) (hj:j<n):aft (g i) (g j)=true:=by
  have:=asc_steps h (j - i - 1) i (by omega)
  rwa [show i+(j - i - 1+1)=j by omega] at this
def LB (v:T_Graph):List T_Bar:=lstB v.2.1.1 v.2.1.2
theorem lst_at (l:List T_Bar):lstB l.length (fun i=>l.getD i (0,0,()))=l:=by
  refine List.ext_getElem? (fun i=>?_)
  rcases Nat.lt_or_ge i l.length with hi | hi
  · simp [lstB,hi,List.getD_eq_getElem?_getD]
  · simp [lstB,hi]
theorem lst_srt (n:Nat) (h:Nat→T_Bar):lstB n (srtB n h)=srtL (lstB n h):=by
  have e:=lst_at (srtL (lstB n h))
  rw [srtL_len,lstB_len] at e
  exact e
theorem LB_mem (v:T_Graph) (y:T_Bar):y∈LB v↔∃ i,i<v.2.1.1∧v.2.1.2 i=y:=by
  unfold LB lstB
  simp [List.mem_map]
theorem LB_len (v:T_Graph):(LB v).length=v.2.1.1:=lstB_len _ _
theorem isG_lst {N:Nat} {v:T_Graph} (hN:1≤N∧N≤8) (h1:v.1=N) (hn:v.2.1.1≤24) (hs:(LB v).Pairwise leB) (hx:∀ x∈LB v,0≤x.1∧x.1<x.2.1∧x.2.1<N):isGraphF v=true:=by
  obtain ⟨v1,⟨n,R⟩,⟨⟩⟩:=v
  have h1:v1=(N:Int):=h1
  subst h1
  have hget:∀ e,(he:e<n)→R e=(LB ((N:Int),(n,R),()))[e]'(by rw [LB_len];exact he):=fun e he=>by simp [LB,lstB]
  refine isG_of hN hn (fun e he=>hx _ ((LB_mem _ _).2 ⟨e,he,rfl⟩)) (fun s hs'=>?_)
  have:=List.pairwise_iff_getElem.1 hs s (s+1) (by rw [LB_len];show s<n;omega) (by rw [LB_len];exact hs') (by omega)
  rw [aft_iff,hget s (by omega),hget (s+1) hs']
  exact this
theorem isG_srt {v:T_Graph} (h:isGraphF v=true):(LB v).Pairwise leB:=by
  have hg:=graph_inR h
  refine List.pairwise_iff_getElem.2 (fun i j hi hj hij=>?_)
  have key:∀ d i,i+d<v.2.1.1→leB (v.2.1.2 i) (v.2.1.2 (i+d)):=by
    intro d
    induction d with
    | zero=>intro i hi;rw [leB_iff];right;exact ⟨rfl,Int.le_refl _⟩
    | succ d ih =>
      intro i hi
      have h1:=ih i (by omega)
      have h2:=(goodB_at hg.2.2.2 (i+(d+1)) hi).2.2.2 (by omega)
      rw [show i+(d+1) - 1=i+d by omega] at h2
      rw [leB_iff] at h1 h2 ⊢
      omega
  have hj':j<v.2.1.1:=by rwa [LB_len] at hj
  have:=key (j - i) i (by omega)
  rw [show i+(j - i)=j by omega] at this
  simpa [LB,lstB] using this
def EqN (n:Nat) (h b:Nat→T_Bar):Prop:=∀ i,i<n→h i=b i
def LtS (n:Nat) (h b:Nat→T_Bar):Prop:=∃ i,i<n∧(∀ j,j<i→h j=b j)∧ltB (h i) (b i)=true
def leS (n:Nat) (h b:Nat→T_Bar):Prop:=¬ LtS n b h
theorem ltB_irr (x:T_Bar):ltB x x=false:=by
  cases h:ltB x x with
  | false=>rfl
  | true=>have:=(ltB_iff x x).1 h;omega
theorem ltB_tr {x y z:T_Bar} (h1:ltB x y=true) (h2:ltB y z=true):ltB x z=true:=by
  rw [ltB_iff] at *;omega
theorem ltB_tot (x y:T_Bar):ltB x y=true∨x=y∨ltB y x=true:=by
  obtain ⟨a,b,⟨⟩⟩:=x
  obtain ⟨c,d,⟨⟩⟩:=y
  rw [ltB_iff,ltB_iff]
  rcases Int.lt_trichotomy a c with h | h | h
  · exact .inl (.inl h)
  · subst h
    rcases Int.lt_trichotomy b d with h | h | h
    · exact .inl (.inr ⟨rfl,h⟩)
    · subst h;exact .inr (.inl rfl)
    · exact .inr (.inr (.inr ⟨rfl,h⟩))
  · exact .inr (.inr (.inl h))
theorem nq_lt (x y:T_Bar):(nqB x y=true↔x≠y)∧(nqB x y=true→aft x y=ltB x y):=by
  obtain ⟨h1,h2⟩:=cmp_nq x y
  have h3:nqB x y=true↔x≠y:=by
    obtain ⟨a,b,⟨⟩⟩:=x
    obtain ⟨c,d,⟨⟩⟩:=y
    simp only [nqB]
    by_cases e1:a=c<;>by_cases e2:b=d<;>simp [e1,e2]
  exact ⟨h3,fun h=>by rw [← h2 h];rfl⟩
theorem bf_iff (h b:Nat→T_Bar):∀ d i,bfD h b d i=true↔∃ k,i≤k∧k<i+d∧(∀ j,i≤j→j<k→h j=b j)∧ltB (h k) (b k)=true
  | 0,i=>by
    constructor
    · intro h;cases h
    · rintro ⟨k,h1,h2,_⟩;omega
  | d+1,i=>by
    have ih:=bf_iff h b d (i+1)
    obtain ⟨n1,n2⟩:=nq_lt (h i) (b i)
    simp only [bfD]
    by_cases hq:nqB (h i) (b i)=true
    · rw [if_pos hq,n2 hq]
      constructor
      · intro hl;exact ⟨i,Nat.le_refl _,by omega,fun j h1 h2=>by omega,hl⟩
      · rintro ⟨k,h1,h2,h3,h4⟩
        by_cases e:k=i
        · subst e;exact h4
        · exact absurd (h3 i (Nat.le_refl _) (by omega)) (n1.1 hq)
    · rw [if_neg hq,ih]
      have he:h i=b i:=by
        by_cases e:h i=b i
        · exact e
        · exact absurd (n1.2 e) hq
      constructor
      · rintro ⟨k,h1,h2,h3,h4⟩
        refine ⟨k,by omega,by omega,fun j j1 j2=>?_,h4⟩
        by_cases e:j=i
        · subst e;exact he
        · exact h3 j (by omega) j2
      · rintro ⟨k,h1,h2,h3,h4⟩
        by_cases e:k=i
        · subst e;rw [he,ltB_irr] at h4;cases h4
        · exact ⟨k,by omega,by omega,fun j j1 j2=>h3 j (by omega) j2,h4⟩
theorem bf_lt (n:Nat) (h b:Nat→T_Bar):bfD h b n 0=true↔LtS n h b:=by
  rw [bf_iff]
  constructor
  · rintro ⟨k,_,h2,h3,h4⟩;exact ⟨k,by omega,fun j hj=>h3 j (Nat.zero_le _) hj,h4⟩
  · rintro ⟨k,h2,h3,h4⟩;exact ⟨k,Nat.zero_le _,by omega,fun j _ hj=>h3 j hj,h4⟩
theorem EqN.symm {n:Nat} {h b:Nat→T_Bar} (e:EqN n h b):EqN n b h:=fun i hi=>(e i hi).symm
theorem EqN.trans {n:Nat} {h b c:Nat→T_Bar} (e:EqN n h b) (e':EqN n b c):EqN n h c:=fun i hi=>(e i hi).trans (e' i hi)
theorem LtS.irr {n:Nat} {h b:Nat→T_Bar} (e:EqN n h b):¬ LtS n h b:=by
  rintro ⟨i,h1,_,h3⟩
  rw [e i h1,ltB_irr] at h3
  cases h3
theorem LtS.tr {n:Nat} {a b c:Nat→T_Bar} (h1:LtS n a b) (h2:LtS n b c):LtS n a c:=by
  obtain ⟨i,i1,i2,i3⟩:=h1
  obtain ⟨j,j1,j2,j3⟩:=h2
  rcases Nat.lt_trichotomy i j with h | h | h
  · exact ⟨i,i1,fun k hk=>(i2 k hk).trans (j2 k (by omega)),by rw [← j2 i h];exact i3⟩
  · subst h;exact ⟨i,i1,fun k hk=>(i2 k hk).trans (j2 k hk),ltB_tr i3 j3⟩
  · exact ⟨j,j1,fun k hk=>(i2 k (by omega)).trans (j2 k hk),by rw [i2 j h];exact j3⟩
theorem LtS.cg {n:Nat} {a b c d:Nat→T_Bar} (e1:EqN n a c) (e2:EqN n b d) (h:LtS n a b):LtS n c d:=by
  obtain ⟨i,i1,i2,i3⟩:=h
  exact ⟨i,i1,fun k hk=>by rw [← e1 k (by omega),← e2 k (by omega)];exact i2 k hk,by rw [← e1 i i1,← e2 i i1];exact i3⟩
theorem LtS.tot (n:Nat) (a b:Nat→T_Bar):LtS n a b∨EqN n a b∨LtS n b a:=by
  induction n with
  | zero=>exact .inr (.inl (fun i hi=>absurd hi (Nat.not_lt_zero _)))
  | succ n ih =>
    rcases ih with ⟨i,i1,i2,i3⟩ | h | ⟨i,i1,i2,i3⟩
    · exact .inl ⟨i,by omega,i2,i3⟩
    · rcases ltB_tot (a n) (b n) with h1 | h1 | h1
      · exact .inl ⟨n,by omega,h,h1⟩
      · refine .inr (.inl (fun i hi=>?_))
        by_cases e:i=n
        · subst e;exact h1
        · exact h i (by omega)
      · exact .inr (.inr ⟨n,by omega,h.symm,h1⟩)
    · exact .inr (.inr ⟨i,by omega,i2,i3⟩)
theorem leS.anti {n:Nat} {a b:Nat→T_Bar} (h1:leS n a b) (h2:leS n b a):EqN n a b:=by
  rcases LtS.tot n a b with h | h | h
  · exact absurd h h2
  · exact h
  · exact absurd h h1
theorem leS.tr {n:Nat} {a b c:Nat→T_Bar} (h1:leS n a b) (h2:leS n b c):leS n a c:=by
  intro h
  rcases LtS.tot n a b with k | k | k
  · exact h2 (h.tr k)
  · exact h2 (h.cg (fun i _=>rfl) k)
  · exact h1 k
theorem leS.refl (n:Nat) (a:Nat→T_Bar):leS n a a:=LtS.irr (fun i _=>rfl)
theorem exI_old {r:NLs} {a:LL}:∀ (x i:Nat),i<a.1→∃ j,j<(exI r a x).1∧(exI r a x).2 j=a.2 i
  | 0,i,hi=>⟨i,hi,rfl⟩
  | x+1,i,hi=>by
    obtain ⟨j,h1,h2⟩:=exI_old (r:=r) x i hi
    simp only [exI]
    split
    · exact ⟨j,h1,h2⟩
    · refine ⟨j,by show j<(exI r a x).1+1;omega,?_⟩
      show snR _ _ _ j=_
      unfold snR
      rw [if_pos h1];exact h2
theorem exI_new {r:NLs} {a:LL} {k:Nat} (hk:hasI r.2 k r.1=false):∀ x,k<x→∃ j,j<(exI r a x).1∧(exI r a x).2 j=snL r k
  | 0,h=>absurd h (Nat.not_lt_zero _)
  | x+1,h=>by
    by_cases e:k=x
    · subst e
      simp only [exI]
      rw [if_neg (by rw [hk];simp)]
      exact ⟨(exI r a k).1,Nat.lt_succ_self _,by show snR _ _ _ _=_;unfold snR;rw [if_neg (Nat.lt_irrefl _)]⟩
    · obtain ⟨j,h1,h2⟩:=exI_new (a:=a) hk x (by omega)
      simp only [exI]
      split
      · exact ⟨j,h1,h2⟩
      · refine ⟨j,by show j<(exI r a x).1+1;omega,?_⟩
        show snR _ _ _ j=_
        unfold snR
        rw [if_pos h1];exact h2
theorem exK_new {N:Nat} {O:LL} {q k:Nat} (hk:hasI (O.2 q).2 k (O.2 q).1=false) (hN:k<N):∀ x,q<x→∃ j,j<(exK N O x).1∧(exK N O x).2 j=snL (O.2 q) k
  | 0,h=>absurd h (Nat.not_lt_zero _)
  | x+1,h=>by
    simp only [exK]
    by_cases e:q=x
    · subst e;exact exI_new hk N hN
    · obtain ⟨j,h1,h2⟩:=exK_new hk hN x (by omega)
      obtain ⟨j',h3,h4⟩:=exI_old (r:=O.2 x) (a:=exK N O x) N j h1
      exact ⟨j',h3,h4.trans h2⟩
theorem orD_all {N:Nat} {s:Nat→Int}:∀ i,okD (N:Int) s i=true→∃ j,j<(orD N i).1∧((orD N i).2 j).1=i∧∀ a,a<i→((orD N i).2 j).2 a=s a
  | 0,_=>⟨0,Nat.one_pos,rfl,fun a ha=>absurd ha (Nat.not_lt_zero _)⟩
  | i+1,h=>by
    have hin:=okD_in h
    have h':okD (N:Int) s i=true:=by
      simp only [okD,Bool.and_eq_true] at h
      exact h.1
    obtain ⟨q,q1,q2,q3⟩:=orD_all i h'
    have hi:=hin i (by omega)
    obtain ⟨k,hk⟩:∃ k:Nat,s i=(k:Int):=⟨(s i).toNat,by omega⟩
    have hn:hasI ((orD N i).2 q).2 k ((orD N i).2 q).1=false:=by
      rw [q2,hasI_congrJ _ s _ i q3]
      have key:∀ m,m≤i→hasI s (k:Int) m=false:=by
        intro m
        induction m with
        | zero=>intro _;rfl
        | succ m ih =>
          intro hm
          simp only [hasI]
          rw [ih (by omega),Bool.false_or]
          have:=hi.2.2 m (by omega)
          rw [hk] at this
          exact beq_eq_false_iff_ne.2 this
      exact key i (Nat.le_refl _)
    obtain ⟨j,j1,j2⟩:=exK_new (N:=N) (O:=orD N i) hn (by omega) (orD N i).1 q1
    refine ⟨j,j1,?_,fun a ha=>?_⟩
    · show ((exK N (orD N i) (orD N i).1).2 j).1=_
      rw [j2];show ((orD N i).2 q).1+1=_;rw [q2]
    · show ((exK N (orD N i) (orD N i).1).2 j).2 a=_
      rw [j2]
      show (if a<((orD N i).2 q).1 then ((orD N i).2 q).2 a else (k:Int))=_
      rw [q2]
      by_cases e:a<i
      · rw [if_pos e];exact q3 a e
      · rw [if_neg e,show a=i by omega,hk]
def rnS (v:T_Graph) (s:Nat→Int):Nat→T_Bar:=srtB v.2.1.1 (rnD v.2.1.2 s)
theorem foldK_inv {α:Type} {f:Nat→α→α} (P:Nat→α→Prop) (a:α) (h0:P 0 a) (n:Nat) (hs:∀ i b,i<n→P i b→P (i+1) (f i b)):∀ k,k≤n→P k (foldK f k a)
  | 0,_=>h0
  | k+1,hk=>hs k _ (by omega) (foldK_inv P a h0 n hs k (by omega))
theorem up_min (v:T_Graph) (s:Nat→Int) (b:Nat→T_Bar):leS v.2.1.1 (upB v s b) b∧leS v.2.1.1 (upB v s b) (rnS v s)∧(upB v s b=b∨upB v s b=rnS v s):=by
  unfold upB
  by_cases h:bfD (srtB v.2.1.1 (rnD v.2.1.2 s)) b v.2.1.1 0=true
  · rw [if_pos h]
    have hl:=(bf_lt _ _ _).1 h
    exact ⟨fun h'=>LtS.irr (fun i _=>rfl) (hl.tr h'),leS.refl _ _,.inr rfl⟩
  · rw [if_neg h]
    exact ⟨leS.refl _ _,fun h'=>h ((bf_lt _ _ _).2 h'),.inl rfl⟩
theorem cn_min (v:T_Graph) (g:Nat→T_Bar):(dfs v v.1.toNat zNL g=g∨∃ j,j<(orD v.1.toNat v.1.toNat).1∧dfs v v.1.toNat zNL g=rnS v ((orD v.1.toNat v.1.toNat).2 j).2) ∧
    leS v.2.1.1 (dfs v v.1.toNat zNL g) g∧∀ j,j<(orD v.1.toNat v.1.toNat).1→leS v.2.1.1 (dfs v v.1.toNat zNL g) (rnS v ((orD v.1.toNat v.1.toNat).2 j).2):=by
  have e:=orders_dfs v g v.1.toNat 0
  rw [Nat.add_zero] at e
  rw [← e]
  unfold foldL
  have:=foldK_inv (f:=fun i a=>dfs v 0 ((orD v.1.toNat v.1.toNat).2 i) a) (fun k a=>(a=g∨∃ j,j<(orD v.1.toNat v.1.toNat).1∧a=rnS v ((orD v.1.toNat v.1.toNat).2 j).2) ∧
      leS v.2.1.1 a g∧∀ j,j<k→leS v.2.1.1 a (rnS v ((orD v.1.toNat v.1.toNat).2 j).2)) g ⟨.inl rfl,leS.refl _ _,fun j hj=>absurd hj (Nat.not_lt_zero _)⟩ (orD v.1.toNat v.1.toNat).1 (fun i b hi hP=>by
    obtain ⟨p1,p2,p3⟩:=hP
    obtain ⟨u1,u2,u3⟩:=up_min v ((orD v.1.toNat v.1.toNat).2 i).2 b
    show (_∨_)∧_
    refine ⟨?_,u1.tr p2,fun j hj=>?_⟩
    · rcases u3 with h | h
      · rcases p1 with q | ⟨j,q1,q2⟩
        · exact .inl (h.trans q)
        · exact .inr ⟨j,q1,h.trans q2⟩
      · exact .inr ⟨i,hi,h⟩
    · by_cases e:j=i
      · subst e;exact u2
      · exact u1.tr (p3 j (by omega))) (orD v.1.toNat v.1.toNat).1 (Nat.le_refl _)
  exact this
def rho (s:Nat→Int) (x:T_Bar):T_Bar:=brX (s x.1.toNat) (s x.2.1.toNat)
theorem lst_map (n:Nat) (g:Nat→T_Bar) (s:Nat→Int):lstB n (rnD g s)=(lstB n g).map (rho s):=by
  unfold lstB
  rw [List.map_map]
  rfl
theorem rho_brX (s:Nat→Int) (a b:Int):rho s (brX a b)=brX (s a.toNat) (s b.toNat):=by
  have hs:∀ x y:Int,brX x y=brX y x:=fun x y=>by
    unfold brX
    by_cases h:y<x
    · rw [if_pos h,if_neg (show ¬ y>x by omega),if_neg (show ¬ x<y by omega),if_pos (show x>y by omega)]
    · rw [if_neg h]
      by_cases h2:y>x
      · rw [if_pos h2,if_pos (show x<y by omega),if_neg (show ¬ x>y by omega)]
      · have:x=y:=by omega
        subst this;simp
  by_cases h:b<a
  · rw [show brX a b=(b,a,()) by unfold brX;rw [if_pos h,if_neg (show ¬ b>a by omega)]]
    exact hs _ _
  · by_cases h2:b>a
    · rw [show brX a b=(a,b,()) by unfold brX;rw [if_neg h,if_pos h2]];rfl
    · have:a=b:=by omega
      subst this
      rw [show brX a a=(a,a,()) by unfold brX;simp];rfl
theorem srtL_cg {l m:List T_Bar} (h:l.Perm m):srtL l=srtL m:=srtL_eq ((srtL_perm l).trans h) (srtL_sorted l)
theorem srtB_cg {n:Nat} {h b:Nat→T_Bar} (hp:(lstB n h).Perm (lstB n b)):srtB n h=srtB n b:=by
  funext i
  unfold srtB
  rw [srtL_cg hp]
theorem rn_twice {v b:T_Graph} {u:Nat→Int} (hn:b.2.1.1=v.2.1.1) (hb:(LB b).Perm ((LB v).map (rho u))) (hu:∀ x∈LB v,rho u x=brX (u x.1.toNat) (u x.2.1.toNat)) (s:Nat→Int):rnS b s=rnS v (fun a=>s (u a).toNat):=by
  unfold rnS
  rw [hn]
  refine srtB_cg ?_
  have e1:lstB v.2.1.1 (rnD b.2.1.2 s)=(LB b).map (rho s):=by rw [← hn];exact lst_map _ _ _
  rw [e1,lst_map]
  refine (hb.map (rho s)).trans ?_
  rw [List.map_map]
  have:(LB v).map (rho s ∘ rho u)=(lstB v.2.1.1 v.2.1.2).map (rho (fun a=>s (u a).toNat)):=by
    refine List.map_congr_left (fun x hx=>?_)
    show rho s (rho u x)=_
    unfold rho
    exact rho_brX s _ _
  rw [this]
theorem ok_names {N:Nat} {s:Nat→Int} (h:∀ a,a<N→0≤s a∧s a<N) (hi:∀ a b,a<b→b<N→s a≠s b):okD (N:Int) s N=true:=by
  have key:∀ n,n≤N→okD (N:Int) s n=true:=by
    intro n
    induction n with
    | zero=>intro _;rfl
    | succ n ih =>
      intro hn
      have hd:difN (N:Int) s n=false:=by
        unfold difN
        have:=h n (by omega)
        have e1:inB (s n) 0 ((N:Int) - 1)=true:=by simp [inB];omega
        rw [e1]
        show hasI s (s n) n=false
        have k2:∀ m,m≤n→hasI s (s n) m=false:=by
          intro m
          induction m with
          | zero=>intro _;rfl
          | succ m im =>
            intro hm
            simp only [hasI]
            rw [im (by omega),Bool.false_or]
            exact beq_eq_false_iff_ne.2 (hi m n (by omega) (by omega))
        exact k2 n (Nat.le_refl _)
      simp only [okD,ih (by omega),hd]
      rfl
  exact key N (Nat.le_refl _)
theorem cn_le {v:T_Graph} (hg:isGraphF v=true) {s:Nat→Int} (hs:okD v.1 s v.1.toNat=true):leS v.2.1.1 (dfs v v.1.toNat zNL v.2.1.2) (rnS v s):=by
  have gi:=graph_inR hg
  have e:((v.1.toNat:Nat):Int)=v.1:=by omega
  rw [← e] at hs
  obtain ⟨j,j1,j2,j3⟩:=orD_all v.1.toNat hs
  have:=(cn_min v v.2.1.2).2.2 j j1
  have er:rnS v ((orD v.1.toNat v.1.toNat).2 j).2=rnS v s:=by
    unfold rnS
    refine srtB_cg ?_
    have:lstB v.2.1.1 (rnD v.2.1.2 ((orD v.1.toNat v.1.toNat).2 j).2)=lstB v.2.1.1 (rnD v.2.1.2 s):=by
      unfold lstB
      refine List.map_congr_left (fun i hi=>?_)
      have hb:=goodB_at gi.2.2.2 i (List.mem_range.1 hi)
      unfold rnD
      rw [j3 _ (by omega),j3 _ (by omega)]
    rw [this]
  rw [er] at this
  exact this
theorem cn_is {v:T_Graph} (hg:isGraphF v=true):∃ s:Nat→Int,okD v.1 s v.1.toNat=true∧EqN v.2.1.1 (dfs v v.1.toNat zNL v.2.1.2) (rnS v s):=by
  have gi:=graph_inR hg
  rcases (cn_min v v.2.1.2).1 with h | ⟨j,j1,j2⟩
  · refine ⟨fun a=>(a:Int),?_,fun i hi=>?_⟩
    · have:=ok_names (N:=v.1.toNat) (s:=fun a=>(a:Int)) (fun a ha=>by first | omega | (simp only;omega)) (fun a b hab hb=>by first | omega | (simp only;omega))
      rw [show ((v.1.toNat:Nat):Int)=v.1 by omega] at this
      exact this
    · rw [h]
      have hl:lstB v.2.1.1 (rnD v.2.1.2 (fun a=>(a:Int)))=LB v:=by
        unfold LB lstB
        refine List.map_congr_left (fun k hk=>?_)
        have hb:=goodB_at gi.2.2.2 k (List.mem_range.1 hk)
        have e1:(((v.2.1.2 k).1.toNat:Nat):Int)=(v.2.1.2 k).1:=by omega
        have e2:(((v.2.1.2 k).2.1.toNat:Nat):Int)=(v.2.1.2 k).2.1:=by omega
        show brX (((v.2.1.2 k).1.toNat:Nat):Int) (((v.2.1.2 k).2.1.toNat:Nat):Int)=v.2.1.2 k
        rw [e1,e2]
        generalize v.2.1.2 k=b at hb
        obtain ⟨b1,b2,b3⟩:=b
        have hb1:b1<b2:=by first | omega | (simp only at hb;omega)
        show brX b1 b2=(b1,b2,b3)
        unfold brX
        simp only [if_neg (show ¬ b2<b1 by omega),if_pos (show b2>b1 by omega)]
      unfold rnS srtB
      rw [hl,← srtL_eq (List.Perm.refl _) (isG_srt hg)]
      simp [LB,lstB,List.getD_eq_getElem?_getD,hi]
  · have:=(orD_ok v v.1.toNat j j1)
    exact ⟨_,this.2,fun i _=>by rw [j2]⟩
theorem cn_same {v b:T_Graph} {u:Nat→Int} (hv:isGraphF v=true) (hb:isGraphF b=true) (hN:b.1=v.1) (hn:b.2.1.1=v.2.1.1) (hp:(LB b).Perm ((LB v).map (rho u))) (hu:okD v.1 u v.1.toNat=true) :
    EqN v.2.1.1 (dfs v v.1.toNat zNL v.2.1.2) (dfs b b.1.toNat zNL b.2.1.2):=by
  have gi:=graph_inR hv
  have hin:=okD_in hu
  have hnam:Rnm.Nam v.1.toNat (fun a=>(u a).toNat):=by
    refine ⟨fun a ha=>?_,fun a c ha hc he=>?_⟩
    · have:=hin a ha;first | omega | (simp only;omega)
    · have h1:=hin a ha
      have h2:=hin c hc
      have he:u a=u c:=by first | omega | (simp only at he;omega)
      rcases Nat.lt_trichotomy a c with h3 | h3 | h3
      · exact absurd he (h2.2.2 a h3)
      · exact h3
      · exact absurd he.symm (h1.2.2 c h3)
  obtain ⟨t,ht,t1,t2⟩:=hnam.back
  have comp:∀ s:Nat→Int,okD v.1 s v.1.toNat=true→okD v.1 (fun a=>s (u a).toNat) v.1.toNat=true:=by
    intro s hs
    have hsi:=okD_in hs
    have:=ok_names (N:=v.1.toNat) (s:=fun a=>s (u a).toNat) (fun a ha=>by
      have h1:=hnam.lt a ha
      have:=hsi _ h1
      first | omega | (simp only;omega)) (fun a c hac hc he=>by
      have h1:=hnam.lt a (by omega)
      have h2:=hnam.lt c hc
      have h3:(u a).toNat=(u c).toNat:=by
        rcases Nat.lt_trichotomy (u a).toNat (u c).toNat with h4 | h4 | h4
        · exact absurd he ((hsi _ h2).2.2 _ h4)
        · exact h4
        · exact absurd he.symm ((hsi _ h1).2.2 _ h4)
      have:=hnam.inj a c (by omega) hc h3
      omega)
    rw [show ((v.1.toNat:Nat):Int)=v.1 by omega] at this
    exact this
  have tw:=rn_twice hn hp (fun x _=>rfl)
  have l1:leS v.2.1.1 (dfs v v.1.toNat zNL v.2.1.2) (dfs b b.1.toNat zNL b.2.1.2):=by
    obtain ⟨s,s1,s2⟩:=cn_is hb
    rw [hN] at s1
    rw [hn] at s2
    have h1:=cn_le hv (comp s s1)
    intro h2
    exact h1 (h2.cg (by rw [← tw s];exact s2) (fun i _=>rfl))
  have l2:leS v.2.1.1 (dfs b b.1.toNat zNL b.2.1.2) (dfs v v.1.toNat zNL v.2.1.2):=by
    obtain ⟨s,s1,s2⟩:=cn_is hv
    have hsi:=okD_in s1
    have hs':okD v.1 (fun a=>s (t a)) v.1.toNat=true:=by
      have:=ok_names (N:=v.1.toNat) (s:=fun a=>s (t a)) (fun a ha=>by
        have:=hsi _ (ht.lt a ha)
        first | omega | (simp only;omega)) (fun a c hac hc he=>by
        have h1:=ht.lt a (by omega)
        have h2:=ht.lt c hc
        have h3:t a=t c:=by
          rcases Nat.lt_trichotomy (t a) (t c) with h4 | h4 | h4
          · exact absurd he ((hsi _ h2).2.2 _ h4)
          · exact h4
          · exact absurd he.symm ((hsi _ h1).2.2 _ h4)
        have:=ht.inj a c (by omega) hc h3
        omega)
      rw [show ((v.1.toNat:Nat):Int)=v.1 by omega] at this
      exact this
    have h1:=cn_le hb (s:=fun a=>s (t a)) (by rw [hN];exact hs')
    rw [tw (fun a=>s (t a)),hn] at h1
    have er:rnS v (fun a=>s (t (u a).toNat))=rnS v s:=by
      unfold rnS
      refine srtB_cg ?_
      have:lstB v.2.1.1 (rnD v.2.1.2 (fun a=>s (t (u a).toNat)))=lstB v.2.1.1 (rnD v.2.1.2 s):=by
        unfold lstB
        refine List.map_congr_left (fun i hi=>?_)
        have hb:=goodB_at gi.2.2.2 i (List.mem_range.1 hi)
        show brX (s (t (u (v.2.1.2 i).1.toNat).toNat)) (s (t (u (v.2.1.2 i).2.1.toNat).toNat))=brX (s (v.2.1.2 i).1.toNat) (s (v.2.1.2 i).2.1.toNat)
        have t1:∀ a,a<v.1.toNat→t (u a).toNat=a:=t1
        rw [t1 _ (show (v.2.1.2 i).1.toNat<v.1.toNat by omega),t1 _ (show (v.2.1.2 i).2.1.toNat<v.1.toNat by omega)]
      rw [this]
    rw [er] at h1
    intro h2
    exact h1 (h2.cg s2 (fun i _=>rfl))
  exact l1.anti l2
def lsL (u:T_IntS):AV:=.p (.seq false 1 u.1 (fun s=>[.int .i64 (u.2 s)]))
def stN (u:T_IntS) (x:Int):Nat→Int:=fun i=>if i=0 then x else u.2 i
theorem ewt (n:Nat) (f:Nat→Int) (s s1 s2 s3 s4:Nat×Int) (M N:Int) (k k2:Nat) (h h2:Nat→T_Bar) (y:Int) (b:Bool) :
    zP Tryz.f128 1 [rg 1,rm [(2,⟨true,(some ⟨[0],[1000],[],1,[(0,cuO n f s1)],.p (.int .i64 y)⟩),none⟩),(1,⟨true,(some ⟨[0],[1000],[],1,[(0,cuO n f s2),(1,brOb k h)],grR M k 1⟩),none⟩)] 2,rm [(1,⟨true,(some ⟨[0],[1000],[],1,[(0,cuO n f s3)],.p (.bool true)⟩),none⟩)] 0,.dec true,rm [(1,⟨true,(some ⟨[0],[1000],[],1,[(0,cuO n f s4),(1,brOb k2 h2)],grR N k2 1⟩),none⟩)] 1] [.code (bodyOf Tryz.f128)] (start Tryz.f128 [(0,cuO n f s)] 1 [.pt 3 0 0 0]) [0,353] 1 [(0,cuO n f s4),(1,brOb k2 h2)] (grR N k2 1) =
    some [(AE 1),Con Tryz.prog 89 1 (zf91 n f s) [.pt 3 0 0 0,.p (.int .i64 5)] (zf91 n f s1) (.p (.int .i64 y)),(ZLo (1+y)),(ZHi (1+y)),(AE 1),Con Tryz.prog 171 1 (zf91 n f s1) [.pt 3 0 0 0,.p (.int .i64 (1+y)),.p (.int .i64 6)] (zf20 n f s2 k h) (.agg [.p (.int .i64 M),.ar 2 1 0 k]),(NT 0 1),((true=true)→ (AN 1)),(AE 1),Con Tryz.prog 103 1 (zf91 n f s2) [.pt 3 0 0 0,.p (.int .i64 10)] (zf91 n f s3) (.p (.bool true)),(true=true),(AE 1),Con Tryz.prog 172 1 (zf91 n f s3) [.pt 3 0 0 0] (zf20 n f s4 k2 h2) (.agg [.p (.int .i64 N),.ar 2 1 0 k2]),(NT 0 1),((true=true)→ (AN 1)),(NT 0 1),(AI N),(AN 0),(AN k2),(AN 3),(NL 1 1),(NL 1 1),(AN n),(AP n (fun i=>[.int .u8 (f i)])),(AI ((↑s4.1:Int))),(AI s4.2),(AN 2),(NL k2 k2),(AA k2 (fun i=>[.p (.int .i64 ((h2 i).1)),.p (.int .i64 ((h2 i).2.1))])),(∀ i:Nat,(((i:Nat)<1)→All [(false=false),(AE n)])),(AE k2)]:=by kernel_rfl
theorem ewf (n:Nat) (f:Nat→Int) (s s1 s2 s3:Nat×Int) (M:Int) (k:Nat) (h:Nat→T_Bar) (y:Int) :
    zP Tryz.f128 1 [rg 1,rm [(2,⟨true,(some ⟨[0],[1000],[],1,[(0,cuO n f s1)],.p (.int .i64 y)⟩),none⟩),(1,⟨true,(some ⟨[0],[1000],[],1,[(0,cuO n f s2),(1,brOb k h)],grR M k 1⟩),none⟩)] 2,rm [(1,⟨true,(some ⟨[0],[1000],[],1,[(0,cuO n f s3)],.p (.bool false)⟩),none⟩)] 0,.dec false,rg 2] [.code (bodyOf Tryz.f128)] (start Tryz.f128 [(0,cuO n f s)] 1 [.pt 3 0 0 0]) [0,161] 1 [(0,cuO n f s3),(1,brOb k h)] (grR M k 1) =
    some [(AE 1),Con Tryz.prog 89 1 (zf91 n f s) [.pt 3 0 0 0,.p (.int .i64 5)] (zf91 n f s1) (.p (.int .i64 y)),(ZLo (1+y)),(ZHi (1+y)),(AE 1),Con Tryz.prog 171 1 (zf91 n f s1) [.pt 3 0 0 0,.p (.int .i64 (1+y)),.p (.int .i64 6)] (zf20 n f s2 k h) (.agg [.p (.int .i64 M),.ar 2 1 0 k]),(NT 0 1),((true=true)→ (AN 1)),(AE 1),Con Tryz.prog 103 1 (zf91 n f s2) [.pt 3 0 0 0,.p (.int .i64 10)] (zf91 n f s3) (.p (.bool false)),(false=false),(NT 0 1),(NT 0 1),((true=true)→ (AN 1)),(NT 0 1),(AI M),(AN 0),(AN k),(AN 3),(NL 1 1),(NL 1 1),(AN n),(AP n (fun i=>[.int .u8 (f i)])),(AI ((↑s3.1:Int))),(AI s3.2),(AN 2),(NL k k),(AA k (fun i=>[.p (.int .i64 ((h i).1)),.p (.int .i64 ((h i).2.1))])),(∀ i:Nat,(((i:Nat)<1)→All [(false=false),(AE n)])),(AE k)]:=by kernel_rfl
theorem ewn (n:Nat) (f:Nat→Int) (s s1:Nat×Int) (N:Int) (m:Nat) (C:Nat→NLs) (j:Nat) :
    zP Tryz.f129 1 [rg 1,rm [(3,oc [(0,rlOb m C)] (.ar 1 0 0 m))] 1,rm [(4,⟨true,(some ⟨[0],[1000],[],1,[(0,cuO n f s1)],.p (.int .i64 j)⟩),none⟩)] 3] [.code (bodyOf Tryz.f129)] (start Tryz.f129 [(0,cuO n f s)] 1 [.pt 3 0 0 0,.p (.int .i64 N)]) [0] 1 [(0,cuO n f s1)] (lsL (C j)) =
    some [zE 145 [.p (.int .i64 (if true=true then if (if false=true then if N>5 then N else 5 else if N<5 then N else 5)>0 then if false=true then if N>5 then N else 5 else if N<5 then N else 5 else 0 else if (if false=true then if N>5 then N else 5 else if N<5 then N else 5)<0 then if false=true then if N>5 then N else 5 else if N<5 then N else 5 else 0))] (zf104 m C) (.ar 1 0 0 m),(AE 1),Con Tryz.prog 89 1 (zf91 n f s) [.pt 3 0 0 0,.p (.int .i64 (↑m:Int))] (zf91 n f s1) (.p (.int .i64 (↑j:Int))),(IL 0 (↑j:Int)),(IT (↑j:Int) (↑m:Int)),(NT j m),(AN (((C j).1))),(AP (((C j).1)) (fun i=>[.int .i64 ((C j).2 i)])),(AN 3),(NL 1 1),(NL 1 1),(AN n),(AP n (fun i=>[.int .u8 (f i)])),(AI ((↑s1.1:Int))),(AI s1.2),(false=false),(AE (((C j).1))),(∀ i:Nat,(((i:Nat)<1)→All [(false=false),(AE n)]))]:=by kernel_rfl
theorem ewR (n:Nat) (f:Nat→Int) (s s1:Nat×Int) (x:Int) :
    zS Tryz.f49 [rg 1,rm [(1,⟨true,(some ⟨[],[0],[],1,[(0,cuO n f s)],.pt 3 0 0 0⟩),none⟩),(0,⟨true,(some ⟨[64],[0],[],1,[(0,cuO n f s1)],.p (.int .i64 x)⟩),none⟩)] 2] [cdA n f] [] [] (.p (.int .i64 (x - 1))) =
    some [zE 87 [.p (.seq false 1 n (fun i=>[.int .u8 (f i)]))] (zf91 n f s) (.pt 3 0 0 0),(AE 1),Con Tryz.prog 89 1 (zf91 n f s) [.pt 3 0 0 0,.p (.int .i64 7)] (zf91 n f s1) (.p (.int .i64 x)),(ZLo (x - 1)),(ZHi (x - 1)),(AI ((x - 1)))]:=by kernel_rfl
theorem ewC (n:Nat) (f:Nat→Int) (s s1:Nat×Int) (N:Int) (k:Nat) (h:Nat→T_Bar) :
    zS Tryz.f67 [rg 1,rm [(1,⟨true,(some ⟨[],[0],[],1,[(0,cuO n f s)],.pt 3 0 0 0⟩),none⟩),(0,⟨true,(some ⟨[64],[0],[],1,[(0,cuO n f s1),(1,brOb k h)],grR N k 1⟩),none⟩)] 1] [cdA n f] [96] [(0,brOb k h)] (grR N k 0) =
    some [zE 87 [.p (.seq false 1 n (fun i=>[.int .u8 (f i)]))] (zf91 n f s) (.pt 3 0 0 0),(AE 1),Con Tryz.prog 128 1 (zf91 n f s) [.pt 3 0 0 0] (zf20 n f s1 k h) (.agg [.p (.int .i64 N),.ar 2 1 0 k]),(NT 0 1),((true=true)→ (AN 1)),(NT 0 1),(AI N),(AN 0),(AN k),(AN 2),(NL k k),(AA k (fun i=>[.p (.int .i64 ((h i).1)),.p (.int .i64 ((h i).2.1))])),(AE k)]:=by kernel_rfl
theorem ewa (n:Nat) (f:Nat→Int) (s s1 s2 s3 s4:Nat×Int) (N:Int) (k:Nat) (h:Nat→T_Bar) (u:T_IntS) (x:Int) :
    zS Tryz.f59 [rg 2,rm [(1,⟨true,(some ⟨[],[0],[],1,[(0,cuO n f s)],.pt 3 0 0 0⟩),none⟩)] 1,rm [(1,⟨true,(some ⟨[96],[0],[],1,[(0,cuO n f s1),(1,brOb k h)],grR N k 1⟩),none⟩)] 2,rm [(4,⟨true,(some ⟨[96],[0],[],1,[(0,cuO n f s2)],lsL u⟩),none⟩)] 2,rm [(4,gT),(0,⟨true,(some ⟨[96],[0],[],1,[(0,cuO n f s3)],.p (.bool true)⟩),some true⟩),(0,gT)] 0,.dec true,rm [(2,⟨true,(some ⟨[96],[0],[],1,[(0,cuO n f s4)],.p (.int .i64 x)⟩),none⟩)] 3,rg 4] [cdA n f] [192,448] [(0,brOb k h),(1,iOb u.1 (stN u (x - 1)))] (.tup [grR N k 0,.ar 1 1 0 u.1]) =
    some (zD [zE 87 [.p (.seq false 1 n (fun i=>[.int .u8 (f i)]))] (zf91 n f s) (.pt 3 0 0 0),(AE 1),Con Tryz.prog 128 1 (zf91 n f s) [.pt 3 0 0 0] (zf20 n f s1 k h) (.agg [.p (.int .i64 N),.ar 2 1 0 k]),(NT 0 1),((true=true)→ (AN 1)),Con Tryz.prog 129 1 (zf91 n f s1) [.pt 3 0 0 0,.p (.int .i64 N)] (zf91 n f s2) (.p (.seq false 1 u.1 (iRw u))),(NL 0 0),(NL ((0+u.1)*8) 140737488355328),(NL (0+u.1) 9223372036854775807),((decide ((↑(0+u.1):Int)>0))=true),Con Tryz.prog 103 1 (zf91 n f s2) [.pt 3 0 0 0,.p (.int .i64 12)] (zf91 n f s3) (.p (.bool true)),(true=true),Con Tryz.prog 89 1 (zf91 n f s3) [.pt 3 0 0 0,.p (.int .i64 7)] (zf91 n f s4) (.p (.int .i64 x)),(ZLo (x - 1)),(ZHi (x - 1)),(IL 0 0),(IT 0 (↑(0+u.1):Int)),(NT 0 (0+u.1)),((false=true)→ (((0+u.1):Nat)=1)),(AI N),(AN 0),(AN k),(((0+u.1):Nat)=u.1),(AN 2),(NL k k),(AA k (fun i=>[.p (.int .i64 ((h i).1)),.p (.int .i64 ((h i).2.1))])),(AN 1),(NL u.1 (0+u.1)),(CV [(0,⟨true,2,1,(fun i_1=>[.p (.int .i64 N),.ar 2 192 0 k])⟩),(448,⟨false,1,(0+u.1),(fun i_1=>(if (i_1=0) then [.p (.int .i64 (x - 1))] else [.p (.int .i64 (u.2 i_1))]))⟩),(96,⟨true,3,1,(fun i_1=>[.p (.seq true 1 n (fun i_2=>[.int .u8 (f i_2)])),.p (.int .i64 (↑s4.1:Int)),.p (.int .i64 s4.2)])⟩),(224,⟨true,2,1,(fun i_1=>[.p (.int .i64 N),.ar 2 192 0 k])⟩),(192,⟨false,2,k,(fun i_1=>[.p (.int .i64 ((h i_1).1)),.p (.int .i64 ((h i_1).2.1))])⟩)] [192,448] 1 u.1 (fun i=>if (i=0) then [.p (.int .i64 (x - 1))] else [.p (.int .i64 (u.2 i))]) (fun i=>[.p (.int .i64 (stN u (x - 1) i))])),(AE k),(AE u.1)] [0,1,2,3,4,3,1,5,6,7,8,9,9,1,10,9,11,1,12,13,14,15,16,17,18,3,3,4,3,19,20,21,20,22,23,24,25,26,27,28,29,30]):=by kernel_rfl
theorem ewb (n:Nat) (f:Nat→Int) (s s1 s2 s3:Nat×Int) (N:Int) (k:Nat) (h:Nat→T_Bar) (u:T_IntS) :
    zS Tryz.f59 [rg 2,rm [(1,⟨true,(some ⟨[],[0],[],1,[(0,cuO n f s)],.pt 3 0 0 0⟩),none⟩)] 1,rm [(1,⟨true,(some ⟨[96],[0],[],1,[(0,cuO n f s1),(1,brOb k h)],grR N k 1⟩),none⟩)] 2,rm [(4,⟨true,(some ⟨[96],[0],[],1,[(0,cuO n f s2)],lsL u⟩),none⟩)] 2,rm [(4,gT),(0,⟨true,(some ⟨[96],[0],[],1,[(0,cuO n f s3)],.p (.bool false)⟩),some true⟩),(0,gT)] 0,.dec false,rg 4] [cdA n f] [192,448] [(0,brOb k h),(1,iOb u.1 u.2)] (.tup [grR N k 0,.ar 1 1 0 u.1]) =
    some (zD [zE 87 [.p (.seq false 1 n (fun i=>[.int .u8 (f i)]))] (zf91 n f s) (.pt 3 0 0 0),(AE 1),Con Tryz.prog 128 1 (zf91 n f s) [.pt 3 0 0 0] (zf20 n f s1 k h) (.agg [.p (.int .i64 N),.ar 2 1 0 k]),(NT 0 1),((true=true)→ (AN 1)),Con Tryz.prog 129 1 (zf91 n f s1) [.pt 3 0 0 0,.p (.int .i64 N)] (zf91 n f s2) (.p (.seq false 1 u.1 (iRw u))),(NL 0 0),(NL ((0+u.1)*8) 140737488355328),(NL (0+u.1) 9223372036854775807),((decide ((↑(0+u.1):Int)>0))=true),Con Tryz.prog 103 1 (zf91 n f s2) [.pt 3 0 0 0,.p (.int .i64 12)] (zf91 n f s3) (.p (.bool false)),(false=false),(AI N),(AN 0),(AN k),(((0+u.1):Nat)=u.1),(AN 2),(NL k k),(AA k (fun i=>[.p (.int .i64 ((h i).1)),.p (.int .i64 ((h i).2.1))])),(AN 1),(NL u.1 (0+u.1)),(AA u.1 (fun i=>[.p (.int .i64 (u.2 i))])),(AE k),(AE u.1)] [0,1,2,3,4,3,1,5,6,7,8,9,9,1,10,9,11,3,3,4,3,12,13,14,13,15,16,17,18,19,20,21,22,23]):=by kernel_rfl
theorem ewc (n:Nat) (f:Nat→Int) (s s1 s2:Nat×Int) (N:Int) (k:Nat) (h:Nat→T_Bar) (u:T_IntS) :
    zS Tryz.f59 [rg 2,rm [(1,⟨true,(some ⟨[],[0],[],1,[(0,cuO n f s)],.pt 3 0 0 0⟩),none⟩)] 1,rm [(1,⟨true,(some ⟨[96],[0],[],1,[(0,cuO n f s1),(1,brOb k h)],grR N k 1⟩),none⟩)] 2,rm [(4,⟨true,(some ⟨[96],[0],[],1,[(0,cuO n f s2)],lsL u⟩),none⟩)] 2,rm [(4,gF),(0,gF),(0,gF)] 0,.dec false,rg 4] [cdA n f] [192,448] [(0,brOb k h),(1,iOb u.1 u.2)] (.tup [grR N k 0,.ar 1 1 0 u.1]) =
    some (zD [zE 87 [.p (.seq false 1 n (fun i=>[.int .u8 (f i)]))] (zf91 n f s) (.pt 3 0 0 0),(AE 1),Con Tryz.prog 128 1 (zf91 n f s) [.pt 3 0 0 0] (zf20 n f s1 k h) (.agg [.p (.int .i64 N),.ar 2 1 0 k]),(NT 0 1),((true=true)→ (AN 1)),Con Tryz.prog 129 1 (zf91 n f s1) [.pt 3 0 0 0,.p (.int .i64 N)] (zf91 n f s2) (.p (.seq false 1 u.1 (iRw u))),(NL 0 0),(NL ((0+u.1)*8) 140737488355328),(NL (0+u.1) 9223372036854775807),((decide ((↑(0+u.1):Int)>0))=false),(false=false),(AI N),(AN 0),(AN k),(((0+u.1):Nat)=u.1),(AN 2),(NL k k),(AA k (fun i=>[.p (.int .i64 ((h i).1)),.p (.int .i64 ((h i).2.1))])),(AN 1),(NL u.1 (0+u.1)),(AA u.1 (fun i=>[.p (.int .i64 (u.2 i))])),(AE k),(AE u.1)] [0,1,2,3,4,3,1,5,6,7,8,9,9,9,10,3,3,4,3,11,12,13,12,14,15,16,17,18,19,20,21,22]):=by kernel_rfl
theorem eia (n:Nat) (f:Nat→Int) (s s1 s2 s3:Nat×Int) (N M:Int) (k m:Nat) (h r:Nat→T_Bar) (u:T_IntS) :
    zS Tryz.f70 [rg 2,rm [(1,⟨true,(some ⟨[],[0],[],1,[(0,cuO n f s)],.pt 3 0 0 0⟩),none⟩)] 1,rm [(1,⟨true,(some ⟨[96],[0],[],1,[(0,cuO n f s1),(1,brOb k h)],grR N k 1⟩),none⟩)] 2,rm [(4,⟨true,(some ⟨[96],[0],[],1,[(0,cuO n f s2)],lsL u⟩),none⟩),(0,oc [(0,brOb m r)] (.tup [grR M m 0,.p (.bool true)]))] 6,rm [(2,gT),(0,⟨true,(some ⟨[96],[0],[],1,[(0,cuO n f s3)],.p (.bool true)⟩),some true⟩),(0,gT)] 0,.dec true,rg 4] [cdA n f] [192,448] [(0,brOb k h),(1,brOb m r)] (.tup [grR N k 0,grR M m 1]) =
    some (zD [zE 87 [.p (.seq false 1 n (fun i=>[.int .u8 (f i)]))] (zf91 n f s) (.pt 3 0 0 0),(AE 1),Con Tryz.prog 128 1 (zf91 n f s) [.pt 3 0 0 0] (zf20 n f s1 k h) (.agg [.p (.int .i64 N),.ar 2 1 0 k]),(NT 0 1),((true=true)→ (AN 1)),Con Tryz.prog 129 1 (zf91 n f s1) [.pt 3 0 0 0,.p (.int .i64 N)] (zf91 n f s2) (.p (.seq false 1 u.1 (iRw u))),(AN 2),(NL k k),zE 61 [(zf105 N k h),.p (.seq true 1 u.1 (iRw u))] (zf107 m r) (.tup [.agg [.p (.int .i64 M),.ar 2 0 0 m],.p (.bool true)]),(true=true),Con Tryz.prog 103 1 (zf91 n f s2) [.pt 3 0 0 0,.p (.int .i64 2)] (zf91 n f s3) (.p (.bool true)),(AI N),(AN 0),(AN k),(AI M),(AN m),(AA k (fun i=>[.p (.int .i64 ((h i).1)),.p (.int .i64 ((h i).2.1))])),(NL m m),(AA m (fun i=>[.p (.int .i64 ((r i).1)),.p (.int .i64 ((r i).2.1))])),(AE k),(AE m)] [0,1,2,3,4,3,3,1,5,6,7,8,3,4,9,9,1,10,9,9,3,3,3,4,3,4,3,3,11,12,13,14,12,15,6,7,16,6,17,18,19,20]):=by kernel_rfl
theorem eib (n:Nat) (f:Nat→Int) (s s1 s2 s3 s4:Nat×Int) (N M N2:Int) (k m k2:Nat) (h r h2:Nat→T_Bar) (u:T_IntS) :
    zS Tryz.f70 [rg 2,rm [(1,⟨true,(some ⟨[],[0],[],1,[(0,cuO n f s)],.pt 3 0 0 0⟩),none⟩)] 1,rm [(1,⟨true,(some ⟨[96],[0],[],1,[(0,cuO n f s1),(1,brOb k h)],grR N k 1⟩),none⟩)] 2,rm [(4,⟨true,(some ⟨[96],[0],[],1,[(0,cuO n f s2)],lsL u⟩),none⟩),(0,oc [(0,brOb m r)] (.tup [grR M m 0,.p (.bool true)]))] 6,rm [(2,gT),(0,⟨true,(some ⟨[96],[0],[],1,[(0,cuO n f s3)],.p (.bool false)⟩),some true⟩),(0,gT)] 0,.dec false,rm [(2,⟨true,(some ⟨[96],[0],[],1,[(0,cuO n f s4),(1,brOb k2 h2)],grR N2 k2 1⟩),none⟩)] 2] [cdA n f] [192,896] [(0,brOb k h),(1,brOb k2 h2)] (.tup [grR N k 0,grR N2 k2 1]) =
    some (zD [zE 87 [.p (.seq false 1 n (fun i=>[.int .u8 (f i)]))] (zf91 n f s) (.pt 3 0 0 0),(AE 1),Con Tryz.prog 128 1 (zf91 n f s) [.pt 3 0 0 0] (zf20 n f s1 k h) (.agg [.p (.int .i64 N),.ar 2 1 0 k]),(NT 0 1),((true=true)→ (AN 1)),Con Tryz.prog 129 1 (zf91 n f s1) [.pt 3 0 0 0,.p (.int .i64 N)] (zf91 n f s2) (.p (.seq false 1 u.1 (iRw u))),(AN 2),(NL k k),zE 61 [(zf105 N k h),.p (.seq true 1 u.1 (iRw u))] (zf107 m r) (.tup [.agg [.p (.int .i64 M),.ar 2 0 0 m],.p (.bool true)]),(true=true),Con Tryz.prog 103 1 (zf91 n f s2) [.pt 3 0 0 0,.p (.int .i64 2)] (zf91 n f s3) (.p (.bool false)),(false=false),Con Tryz.prog 128 1 (zf91 n f s3) [.pt 3 0 0 0] (zf20 n f s4 k2 h2) (.agg [.p (.int .i64 N2),.ar 2 1 0 k2]),(AI N),(AN 0),(AN k),(AI N2),(AN k2),(AA k (fun i=>[.p (.int .i64 ((h i).1)),.p (.int .i64 ((h i).2.1))])),(NL k2 k2),(AA k2 (fun i=>[.p (.int .i64 ((h2 i).1)),.p (.int .i64 ((h2 i).2.1))])),(AE k),(AE k2)] [0,1,2,3,4,3,3,1,5,6,7,8,3,4,9,9,1,10,9,11,3,1,12,3,4,3,4,3,3,13,14,15,16,14,17,6,7,18,6,19,20,21,22]):=by kernel_rfl
theorem eic (n:Nat) (f:Nat→Int) (s s1 s2 s4:Nat×Int) (N M N2:Int) (k m k2:Nat) (h r h2:Nat→T_Bar) (u:T_IntS) :
    zS Tryz.f70 [rg 2,rm [(1,⟨true,(some ⟨[],[0],[],1,[(0,cuO n f s)],.pt 3 0 0 0⟩),none⟩)] 1,rm [(1,⟨true,(some ⟨[96],[0],[],1,[(0,cuO n f s1),(1,brOb k h)],grR N k 1⟩),none⟩)] 2,rm [(4,⟨true,(some ⟨[96],[0],[],1,[(0,cuO n f s2)],lsL u⟩),none⟩),(0,oc [(0,brOb m r)] (.tup [grR M m 0,.p (.bool false)]))] 6,rm [(2,gF),(0,gF),(0,gF)] 0,.dec false,rm [(2,⟨true,(some ⟨[96],[0],[],1,[(0,cuO n f s4),(1,brOb k2 h2)],grR N2 k2 1⟩),none⟩)] 2] [cdA n f] [192,896] [(0,brOb k h),(1,brOb k2 h2)] (.tup [grR N k 0,grR N2 k2 1]) =
    some (zD [zE 87 [.p (.seq false 1 n (fun i=>[.int .u8 (f i)]))] (zf91 n f s) (.pt 3 0 0 0),(AE 1),Con Tryz.prog 128 1 (zf91 n f s) [.pt 3 0 0 0] (zf20 n f s1 k h) (.agg [.p (.int .i64 N),.ar 2 1 0 k]),(NT 0 1),((true=true)→ (AN 1)),Con Tryz.prog 129 1 (zf91 n f s1) [.pt 3 0 0 0,.p (.int .i64 N)] (zf91 n f s2) (.p (.seq false 1 u.1 (iRw u))),(AN 2),(NL k k),zE 61 [(zf105 N k h),.p (.seq true 1 u.1 (iRw u))] (zf107 m r) (.tup [.agg [.p (.int .i64 M),.ar 2 0 0 m],.p (.bool false)]),(false=false),Con Tryz.prog 128 1 (zf91 n f s2) [.pt 3 0 0 0] (zf20 n f s4 k2 h2) (.agg [.p (.int .i64 N2),.ar 2 1 0 k2]),(AI N),(AN 0),(AN k),(AI N2),(AN k2),(AA k (fun i=>[.p (.int .i64 ((h i).1)),.p (.int .i64 ((h i).2.1))])),(NL k2 k2),(AA k2 (fun i=>[.p (.int .i64 ((h2 i).1)),.p (.int .i64 ((h2 i).2.1))])),(AE k),(AE k2)] [0,1,2,3,4,3,3,1,5,6,7,8,3,4,9,9,9,9,3,1,10,3,4,3,4,3,3,11,12,13,14,12,15,6,7,16,6,17,18,19,20]):=by kernel_rfl
theorem hasI_at (f:Nat→Int) (x:Int):∀ n,hasI f x n=true→∃ i,i<n∧f i=x
  | 0,h=>by cases h
  | n+1,h=>by
    simp only [hasI,Bool.or_eq_true,beq_iff_eq] at h
    rcases h with h | h
    · obtain ⟨i,hi,he⟩:=hasI_at f x n h
      exact ⟨i,by omega,he⟩
    · exact ⟨n,by omega,h⟩
theorem exI_cnt (r:NLs) (a:LL):∀ x,(exI r a x).1=a.1+Mat.cardR (fun k=>!hasI r.2 k r.1) x
  | 0=>rfl
  | x+1=>by
    have ih:=exI_cnt r a x
    simp only [exI,Mat.cardR]
    cases hh:hasI r.2 (x:Int) r.1 with
    | true =>
      rw [if_pos rfl,ih];rfl
    | false =>
      rw [if_neg (by decide)]
      show (exI r a x).1+1=_
      rw [ih];rfl
theorem has_card {N:Nat} {f:Nat→Int}:∀ m,okD (N:Int) f m=true→Mat.cardR (fun k=>hasI f (k:Int) m) N=m
  | 0,_=>by
    show Mat.cardR (fun _=>false) N=0
    have:∀ n,Mat.cardR (fun _=>false) n=0:=by
      intro n
      induction n with
      | zero=>rfl
      | succ n ih=>simp only [Mat.cardR,ih];rfl
    exact this N
  | m+1,h=>by
    have hin:=okD_in h
    have hm:=hin m (by omega)
    have h':okD (N:Int) f m=true:=by
      simp only [okD] at h
      first | exact (Bool.and_eq_true _ _ ▸ h).1 | (simp only [Bool.and_eq_true] at h;exact h.1) | (simp only [Bool.and_eq_true] at h;exact h.1.1)
    have ih:=has_card m h'
    have hR:hasI f (((f m).toNat:Nat):Int) (m+1)=true:=by
      simp only [hasI]
      rw [show (((f m).toNat:Nat):Int)=f m by omega,show (f m==f m)=true from beq_iff_eq.2 rfl,Bool.or_true]
    have hc:=Rnm.card_rm (R:=fun k=>hasI f (k:Int) (m+1)) (a:=(f m).toNat) hR N
    rw [hc,if_pos (by omega)]
    have e:Mat.cardR (fun v=>hasI f (v:Int) (m+1)&&v != (f m).toNat) N=Mat.cardR (fun k=>hasI f (k:Int) m) N:=by
      refine Rnm.card_agree N (fun v hv=>?_)
      simp only [hasI]
      by_cases hv2:v=(f m).toNat
      · have:hasI f (v:Int) m=false:=by
          cases hq:hasI f (v:Int) m with
          | false=>rfl
          | true =>
            obtain ⟨i,hi,he⟩:=hasI_at _ _ _ hq
            exact absurd (by rw [he];omega) (hm.2.2 i hi)
        rw [this]
        simp [hv2]
      · have:(f m==(v:Int))=false:=beq_eq_false_iff_ne.2 (by omega)
        rw [this,Bool.or_false]
        simp [hv2]
    rw [e,ih]
theorem exI_le {N:Nat} {r:NLs} {i:Nat} (h:okD (N:Int) r.2 i=true) (hr:r.1=i) (a:LL):(exI r a N).1=a.1+(N - i):=by
  rw [exI_cnt]
  have h1:=has_card i h
  have h2:=Rnm.card_not (fun k=>hasI r.2 (k:Int) i) N
  rw [hr]
  have:Mat.cardR (fun v=>!(fun k=>hasI r.2 (k:Int) i) v) N=Mat.cardR (fun k=>!hasI r.2 (k:Int) i) N:=rfl
  omega
theorem exK_cnt {N i:Nat} {O:LL} (h:∀ q,q<O.1→okD (N:Int) (O.2 q).2 i=true∧(O.2 q).1=i):∀ k,k≤O.1→(exK N O k).1=k*(N - i)
  | 0,_=>by rw [Nat.zero_mul];rfl
  | k+1,hk=>by
    have ih:=exK_cnt h k (by omega)
    have hq:=h k (by omega)
    simp only [exK]
    rw [exI_le hq.1 hq.2,ih,Nat.add_mul,Nat.one_mul]
theorem orD_cnt (N i:Nat):(orD N (i+1)).1=(orD N i).1*(N - i):=by
  have h:=orD_ok ((N:Int),(0,fun _=>(0,0,())),()) i
  simp only [orD]
  refine exK_cnt (i:=i) (fun q hq=>?_) _ (Nat.le_refl _)
  have:=h q hq
  exact ⟨this.2,this.1⟩
theorem orD_b {N:Nat} (hN:N≤5):1≤(orD N N).1∧(orD N N).1≤120:=by
  have c:=orD_cnt N
  have hc:N=0∨N=1∨N=2∨N=3∨N=4∨N=5:=by omega
  rcases hc with rfl | rfl | rfl | rfl | rfl | rfl
  · have h0:(orD 0 0).1=1:=rfl
    omega
  · have h0:(orD 1 0).1=1:=rfl
    have h1:=c 0
    rw [show 0+1=1 from rfl,show 1 - 0=1 from rfl] at h1
    omega
  · have h0:(orD 2 0).1=1:=rfl
    have h1:=c 0
    rw [show 0+1=1 from rfl,show 2 - 0=2 from rfl] at h1
    have h2:=c 1
    rw [show 1+1=2 from rfl,show 2 - 1=1 from rfl] at h2
    omega
  · have h0:(orD 3 0).1=1:=rfl
    have h1:=c 0
    rw [show 0+1=1 from rfl,show 3 - 0=3 from rfl] at h1
    have h2:=c 1
    rw [show 1+1=2 from rfl,show 3 - 1=2 from rfl] at h2
    have h3:=c 2
    rw [show 2+1=3 from rfl,show 3 - 2=1 from rfl] at h3
    omega
  · have h0:(orD 4 0).1=1:=rfl
    have h1:=c 0
    rw [show 0+1=1 from rfl,show 4 - 0=4 from rfl] at h1
    have h2:=c 1
    rw [show 1+1=2 from rfl,show 4 - 1=3 from rfl] at h2
    have h3:=c 2
    rw [show 2+1=3 from rfl,show 4 - 2=2 from rfl] at h3
    have h4:=c 3
    rw [show 3+1=4 from rfl,show 4 - 3=1 from rfl] at h4
    omega
  · have h0:(orD 5 0).1=1:=rfl
    have h1:=c 0
    rw [show 0+1=1 from rfl,show 5 - 0=5 from rfl] at h1
    have h2:=c 1
    rw [show 1+1=2 from rfl,show 5 - 1=4 from rfl] at h2
    have h3:=c 2
    rw [show 2+1=3 from rfl,show 5 - 2=3 from rfl] at h3
    have h4:=c 3
    rw [show 3+1=4 from rfl,show 5 - 3=2 from rfl] at h4
    have h5:=c 4
    rw [show 4+1=5 from rfl,show 5 - 4=1 from rfl] at h5
    omega
theorem con_l32Small (n:Nat) (f:Nat→Int) (hn:CdOk n f) (s:Nat×Int) (hs:s.1≤n):∃ (s2:Nat×Int) (N:Int) (k:Nat) (h:Nat→T_Bar),s2.1≤n∧k≤25 ∧
    Con Tryz.prog 128 1 [(0,cuO n f s)] [.pt 3 0 0 0] [(0,cuO n f s2),(1,brOb k h)] (grR N k 1):=by
  obtain ⟨s1,y,h1,hy,c1⟩:=con_l1Below n f hn s hs 5 (by omega)
  have hy2:=hy.2.1 (by omega)
  obtain ⟨y,rfl⟩:∃ t:Nat,y=(t:Int):=⟨y.toNat,by omega⟩
  obtain ⟨s2,k,h,h2,hk,c2⟩:=con_l2Simple n f hn s1 h1 (1+y) 6 (by omega)
  rw [show ((1+y:Nat):Int)=1+(y:Int) by omega] at c2
  obtain ⟨s3,b,h3,c3⟩:=con_l1Once n f hn s2 h2 10 (by omega)
  cases b with
  | true =>
    obtain ⟨s4,N,k2,h2',h4,hk2,c4⟩:=con_l2Any n f hn s3 h3
    refine ⟨s4,N,k2,h2',h4,hk2,?_⟩
    refine csZ Tryz.func128 (fun c hc=>?_)
    refine pkZ Tryz.func128 hc (ewt n f s s1 s2 s3 s4 (1+(y:Int)) N k k2 h h2' y true) ?_
    and_intros
    iterate 2 all_goals (first | exact zI | (exact c1) | (exact c2) | (exact c3) | (exact c4) | (intros;simp [All];done) | (simp;done) | (simp;omega) | simp only [All])
  | false =>
    refine ⟨s3,1+(y:Int),k,h,h3,by omega,?_⟩
    refine csZ Tryz.func128 (fun c hc=>?_)
    refine pkZ Tryz.func128 hc (ewf n f s s1 s2 s3 (1+(y:Int)) k h y) ?_
    and_intros
    iterate 2 all_goals (first | exact zI | (exact c1) | (exact c2) | (exact c3) | (intros;simp [All];done) | (simp;done) | (simp;omega) | simp only [All])
theorem con_l32Names (n:Nat) (f:Nat→Int) (hn:CdOk n f) (s:Nat×Int) (hs:s.1≤n) (N:Int):∃ (s2:Nat×Int) (u:T_IntS),s2.1≤n∧u.1≤5 ∧
    Con Tryz.prog 129 1 [(0,cuO n f s)] [.pt 3 0 0 0,.p (.int .i64 N)] [(0,cuO n f s2)] (lsL u):=by
  obtain ⟨M,hM,hM5⟩:∃ M:Nat,(M:Int)=max 0 (min 5 N)∧M≤5:=⟨(max 0 (min 5 N)).toNat,by omega,by omega⟩
  have c0:=con_Orders M hM5
  have hb:=orD_b hM5
  obtain ⟨s2,x,h2,hx,c1⟩:=con_l1Below n f hn s hs (((orD M M).1:Nat):Int) (by omega)
  have hx2:=hx.2.1 (by omega)
  obtain ⟨j,rfl⟩:∃ t:Nat,x=(t:Int):=⟨x.toNat,by omega⟩
  have hj:j<(orD M M).1:=by omega
  have hl:((orD M M).2 j).1=M:=(orD_ok ((M:Int),(0,fun _=>(0,0,())),()) M j hj).1
  refine ⟨s2,(orD M M).2 j,h2,by omega,?_⟩
  have hif:(if (if N<5 then N else 5)>0 then (if N<5 then N else 5) else 0)=(M:Int):=by
    rcases Int.lt_or_le N 5 with h1 | h1
    · rw [if_pos h1]
      rcases Int.lt_or_le 0 N with h3 | h3
      · rw [if_pos h3];omega
      · rw [if_neg (by omega)];omega
    · rw [if_neg (show ¬ N<5 by omega)]
      rw [if_pos (by omega)];omega
  refine csZ Tryz.func129 (fun c hc=>?_)
  refine pkZ Tryz.func129 hc (ewn n f s s2 N (orD M M).1 (orD M M).2 j) ?_
  and_intros
  iterate 2 all_goals (first | exact zN | (simp only [if_true,if_false,eq_self,Bool.false_eq_true,hif];exact c0) | (exact c1) | (intros;simp [All];done) | (simp;done) | (simp;omega) | simp only [All])
theorem con_DrawRigid (n:Nat) (f:Nat→Int) (hn:CdOk n f):∃ x:Int,zE 49 [cdA n f] [] (.p (.int .i64 x)):=by
  obtain ⟨s,h0,c0⟩:=con_l1New n f hn
  obtain ⟨s1,x,h1,hx,c1⟩:=con_l1Below n f hn s h0 7 (by omega)
  refine ⟨x - 1,?_⟩
  refine csZ Tryz.func49 (fun c hc=>?_)
  refine pkZ Tryz.func49 hc (ewR n f s s1 x) ?_
  and_intros
  all_goals (first | exact zN | (exact c0) | (exact c1) | (intros;simp [All];done) | (simp;done) | (simp;omega))
theorem con_DrawCanon (n:Nat) (f:Nat→Int) (hn:CdOk n f):∃ v:T_Graph,v.2.1.1≤25 ∧
    zE 67 [cdA n f] [(0,brOb v.2.1.1 v.2.1.2)] (grR v.1 v.2.1.1 0):=by
  obtain ⟨s,h0,c0⟩:=con_l1New n f hn
  obtain ⟨s1,N,k,h,h1,hk,c1⟩:=con_l32Small n f hn s h0
  refine ⟨(N,(k,h),()),hk,?_⟩
  refine csZ Tryz.func67 (fun c hc=>?_)
  refine pkZ Tryz.func67 hc (ewC n f s s1 N k h) ?_
  and_intros
  all_goals (first | exact zI | (exact c0) | (exact c1) | (intros;simp [All];done) | (simp;done))
theorem con_DrawRename (n:Nat) (f:Nat→Int) (hn:CdOk n f):∃ (v:T_Graph) (u:T_IntS),v.2.1.1≤25∧u.1≤5 ∧
    zE 59 [cdA n f] [(0,brOb v.2.1.1 v.2.1.2),(1,iOb u.1 u.2)] (.tup [grR v.1 v.2.1.1 0,.ar 1 1 0 u.1]):=by
  obtain ⟨s,h0,c0⟩:=con_l1New n f hn
  obtain ⟨s1,N,k,h,h1,hk,c1⟩:=con_l32Small n f hn s h0
  obtain ⟨s2,u,h2,hu,c2⟩:=con_l32Names n f hn s1 h1 N
  by_cases h0:0<u.1
  · have hd:decide (((u.1:Nat):Int)>0)=true:=decide_eq_true (by omega)
    obtain ⟨s3,b,h3,c3⟩:=con_l1Once n f hn s2 h2 12 (by omega)
    cases b with
    | true =>
      obtain ⟨s4,x,h4,hx,c4⟩:=con_l1Below n f hn s3 h3 7 (by omega)
      refine ⟨(N,(k,h),()),(u.1,stN u (x - 1)),hk,hu,?_⟩
      refine csZ Tryz.func59 (fun c hc=>?_)
      refine pkD Tryz.func59 hc (ewa n f s s1 s2 s3 s4 N k h u x) ?_
      and_intros
      all_goals (first | exact zI | (exact c0) | (exact c1) | (exact c2) | (exact c3) | (exact c4) | (exact hd) | (intros;simp [All];done) | (simp;done) | (simp;omega) | (intro i hi;by_cases h':i=0<;>simp [h',stN,cvtL,cvt,tg,tru,All]))
    | false =>
      refine ⟨(N,(k,h),()),u,hk,hu,?_⟩
      refine csZ Tryz.func59 (fun c hc=>?_)
      refine pkD Tryz.func59 hc (ewb n f s s1 s2 s3 N k h u) ?_
      and_intros
      all_goals (first | exact zI | (exact c0) | (exact c1) | (exact c2) | (exact c3) | (exact hd) | (intros;simp [All];done) | (simp;done) | (simp;omega))
  · have hd:decide (((u.1:Nat):Int)>0)=false:=decide_eq_false (by omega)
    refine ⟨(N,(k,h),()),u,hk,hu,?_⟩
    refine csZ Tryz.func59 (fun c hc=>?_)
    refine pkD Tryz.func59 hc (ewc n f s s1 s2 N k h u) ?_
    and_intros
    all_goals (first | exact zI | (exact c0) | (exact c1) | (exact c2) | (exact hd) | (intros;simp [All];done) | (simp;done) | (simp;omega))
theorem con_DrawIso (n:Nat) (f:Nat→Int) (hn:CdOk n f):∃ (v w:T_Graph),v.2.1.1≤25∧w.2.1.1≤25 ∧
    zE 70 [cdA n f] [(0,brOb v.2.1.1 v.2.1.2),(1,brOb w.2.1.1 w.2.1.2)] (.tup [grR v.1 v.2.1.1 0,grR w.1 w.2.1.1 1]):=by
  obtain ⟨s,h0,c0⟩:=con_l1New n f hn
  obtain ⟨s1,N,k,h,h1,hk,c1⟩:=con_l32Small n f hn s h0
  obtain ⟨s2,u,h2,hu,c2⟩:=con_l32Names n f hn s1 h1 N
  have c3:=con_Rename_s (N,(k,h),()) (sm_graph (by show k≤_;omega)) u (by omega)
  have hw:(rnG (N,(k,h),()) u).2.1.1≤25:=by
    unfold rnG
    split
    · exact hk
    · exact Nat.zero_le _
  generalize hR:rnG (N,(k,h),()) u=w at *
  obtain ⟨M,⟨m,r⟩,⟨⟩⟩:=w
  cases hq:rnB (N,(k,h),()) u with
  | true =>
    rw [hq] at c3
    obtain ⟨s3,b,h3,c4⟩:=con_l1Once n f hn s2 h2 2 (by omega)
    cases b with
    | true =>
      refine ⟨(N,(k,h),()),(M,(m,r),()),hk,hw,?_⟩
      refine csZ Tryz.func70 (fun c hc=>?_)
      refine pkD Tryz.func70 hc (eia n f s s1 s2 s3 N M k m h r u) ?_
      and_intros
      all_goals (first | exact zI | (exact c0) | (exact c1) | (exact c2) | (exact c3) | (exact c4) | (intros;simp [All];done) | (simp;done) | (simp;omega))
    | false =>
      obtain ⟨s4,N2,k2,h2',h4,hk2,c5⟩:=con_l32Small n f hn s3 h3
      refine ⟨(N,(k,h),()),(N2,(k2,h2'),()),hk,hk2,?_⟩
      refine csZ Tryz.func70 (fun c hc=>?_)
      refine pkD Tryz.func70 hc (eib n f s s1 s2 s3 s4 N M N2 k m k2 h r h2' u) ?_
      and_intros
      all_goals (first | exact zI | (exact c0) | (exact c1) | (exact c2) | (exact c3) | (exact c4) | (exact c5) | (intros;simp [All];done) | (simp;done) | (simp;omega))
  | false =>
    rw [hq] at c3
    obtain ⟨s4,N2,k2,h2',h4,hk2,c5⟩:=con_l32Small n f hn s2 h2
    refine ⟨(N,(k,h),()),(N2,(k2,h2'),()),hk,hk2,?_⟩
    refine csZ Tryz.func70 (fun c hc=>?_)
    refine pkD Tryz.func70 hc (eic n f s s1 s2 s4 N M N2 k m k2 h r h2' u) ?_
    and_intros
    all_goals (first | exact zI | (exact c0) | (exact c1) | (exact c2) | (exact c3) | (exact c5) | (intros;simp [All];done) | (simp;done) | (simp;omega))
def rSt (s:Nat→Bool) (a b:Nat):Nat→Bool:=fun v=>if v=a∨v=b then s a||s b else s v
def rRd (g:Nat→T_Bar) (s:Nat→Bool):Nat→Nat→Bool
  | 0=>s
  | k+1=>rSt (rRd g s k) (g k).1.toNat (g k).2.1.toNat
def rAg (g:Nat→T_Bar) (s:Nat→Bool):Nat→Bool
  | 0=>false
  | k+1=>rAg g s k||(rRd g s k (g k).1.toNat != rRd g s k (g k).2.1.toNat)
def rIt (g:Nat→T_Bar) (nb:Nat) (s:Nat→Bool):Nat→Nat→Bool
  | 0=>s
  | n+1=>rRd g (rIt g nb s n) nb
theorem rSt_same {s:Nat→Bool} {a b:Nat} (h:(s a != s b)=false):rSt s a b=s:=by
  have h:s a=s b:=by simpa using h
  funext v
  unfold rSt
  split
  · rename_i hv
    rcases hv with rfl | rfl
    · rw [← h,Bool.or_self]
    · rw [h,Bool.or_self]
  · rfl
theorem rSt_mono {s:Nat→Bool} {a b v:Nat} (h:s v=true):rSt s a b v=true:=by
  unfold rSt
  split
  · rename_i hv
    rcases hv with rfl | rfl
    · rw [h,Bool.true_or]
    · rw [h,Bool.or_true]
  · exact h
theorem rSt_on {s:Nat→Bool} {a b:Nat} (h:(s a||s b)=true):rSt s a b=fun v=>if v=b then true else if v=a then true else s v:=by
  funext v
  unfold rSt
  by_cases h1:v=b
  · rw [if_pos (.inr h1),if_pos h1,h]
  · by_cases h2:v=a
    · rw [if_pos (.inl h2),if_neg h1,if_pos h2,h]
    · rw [if_neg (by rintro (h | h)<;>contradiction),if_neg h1,if_neg h2]
theorem rSt_off {s:Nat→Bool} {a b:Nat} (h:(s a||s b)=false):rSt s a b=s:=by
  simp only [Bool.or_eq_false_iff] at h
  exact rSt_same (by rw [h.1,h.2];rfl)
theorem rRd_mono (g:Nat→T_Bar) (s:Nat→Bool) (v:Nat) (h:s v=true):∀ k,rRd g s k v=true
  | 0=>h
  | k+1=>rSt_mono (rRd_mono g s v h k)
theorem rRd_same (g:Nat→T_Bar) (s:Nat→Bool):∀ k,rAg g s k=false→rRd g s k=s
  | 0,_=>rfl
  | k+1,h=>by
    simp only [rAg,Bool.or_eq_false_iff] at h
    show rSt (rRd g s k) _ _=s
    rw [rSt_same h.2,rRd_same g s k h.1]
def cnT (s:Nat→Bool):Nat→Nat
  | 0=>0
  | n+1=>cnT s n+(if s n then 1 else 0)
theorem cnT_le (s:Nat→Bool):∀ n,cnT s n≤n
  | 0=>Nat.le_refl _
  | n+1=>by have:=cnT_le s n;simp only [cnT];split<;>omega
theorem cnT_mono {s t:Nat→Bool} (h:∀ v,s v=true→t v=true):∀ n,cnT s n≤cnT t n
  | 0=>Nat.le_refl _
  | n+1=>by
    have:=cnT_mono h n
    simp only [cnT]
    by_cases hs:s n=true
    · rw [if_pos hs,if_pos (h n hs)];omega
    · rw [if_neg hs];omega
theorem cnT_lt {s t:Nat→Bool} (h:∀ v,s v=true→t v=true) {v:Nat} (h1:s v=false) (h2:t v=true):∀ n,v<n→cnT s n<cnT t n
  | 0,hv=>absurd hv (Nat.not_lt_zero _)
  | n+1,hv=>by
    have hm:=cnT_mono h n
    simp only [cnT]
    by_cases hn:v=n
    · subst hn
      simp only [h1,h2]
      simp;omega
    · have:=cnT_lt h h1 h2 n (by omega)
      by_cases hs:s n=true
      · rw [if_pos hs,if_pos (h n hs)];omega
      · rw [if_neg hs];omega
theorem rAg_grow {g:Nat→T_Bar} {N:Nat} (s:Nat→Bool):∀ k,(∀ i,i<k→(g i).1.toNat<N∧(g i).2.1.toNat<N)→rAg g s k=true→cnT s N<cnT (rRd g s k) N
  | 0,_,h=>by cases h
  | k+1,hg,h=>by
    simp only [rAg] at h
    have hk:=hg k (Nat.lt_succ_self k)
    have hm:∀ v,rRd g s k v=true→rRd g s (k+1) v=true:=fun v hv=>rSt_mono hv
    by_cases h1:rAg g s k=true
    · exact Nat.lt_of_lt_of_le (rAg_grow s k (fun i hi=>hg i (by omega)) h1) (cnT_mono hm N)
    · have h1:rAg g s k=false:=by simpa using h1
      rw [h1,Bool.false_or] at h
      have e:=rRd_same g s k h1
      rw [e] at h
      have hs:∀ v,s v=true→rRd g s (k+1) v=true:=fun v hv=>rRd_mono g s v hv (k+1)
      have e2:rRd g s (k+1)=rSt s (g k).1.toNat (g k).2.1.toNat:=by show rSt (rRd g s k) _ _=_;rw [e]
      cases ha:s (g k).1.toNat
      · have hb:s (g k).2.1.toNat=true:=by rw [ha] at h;simpa using h
        exact cnT_lt hs ha (by rw [e2];unfold rSt;rw [if_pos (.inl rfl),ha,hb];rfl) N hk.1
      · have hb:s (g k).2.1.toNat=false:=by rw [ha] at h;simpa using h
        exact cnT_lt hs hb (by rw [e2];unfold rSt;rw [if_pos (.inr rfl),ha,hb];rfl) N hk.2
theorem rIt_fix {g:Nat→T_Bar} {nb:Nat} {s:Nat→Bool} {j:Nat} (h:rAg g (rIt g nb s j) nb=false):∀ d,rIt g nb s (j+d)=rIt g nb s j
  | 0=>rfl
  | d+1=>by
    show rRd g (rIt g nb s (j+d)) nb=_
    rw [rIt_fix h d,rRd_same g _ nb h]
theorem rIt_cnt {g:Nat→T_Bar} {nb N:Nat} {s:Nat→Bool} (hg:∀ i,i<nb→(g i).1.toNat<N∧(g i).2.1.toNat<N) (h0:1≤cnT s N) :
    ∀ j,(∀ i,i<j→rAg g (rIt g nb s i) nb=true)→j+1≤cnT (rIt g nb s j) N
  | 0,_=>by simp only [rIt];omega
  | j+1,h=>by
    have:=rIt_cnt hg h0 j (fun i hi=>h i (by omega))
    have h2:=rAg_grow (N:=N) (rIt g nb s j) nb hg (h j (by omega))
    show j+1+1≤cnT (rRd g (rIt g nb s j) nb) N
    omega
theorem rIt_end {g:Nat→T_Bar} {nb N:Nat} {s:Nat→Bool} (hg:∀ i,i<nb→(g i).1.toNat<N∧(g i).2.1.toNat<N) (h0:1≤cnT s N) {j:Nat}
    (hj:∀ i,i<j→rAg g (rIt g nb s i) nb=true) (h:rAg g (rIt g nb s j) nb=false):rIt g nb s (j+1)=rIt g nb s N:=by
  have h1:=rIt_cnt hg h0 j hj
  have h2:=cnT_le (rIt g nb s j) N
  have e:=rIt_fix h (N - j)
  rw [show j+(N - j)=N from by omega] at e
  rw [e,rIt_fix h 1]
theorem cnT_one {N v:Nat} (h:v<N):1≤cnT (fun u=>decide (u=v)) N:=by
  have:∀ n,v<n→1≤cnT (fun u=>decide (u=v)) n:=by
    intro n
    induction n with
    | zero=>intro h;omega
    | succ n ih =>
      intro h
      simp only [cnT]
      by_cases hv:v=n
      · subst hv;simp
      · have:=ih (by omega);omega
  exact this N h
def sameB (a b:T_Bar):Bool:=bif a.1==b.1 then a.2.1==b.2.1 else false
def dbF (g:Nat→T_Bar):Nat→Bool
  | 0=>false
  | k+1=>bif dbF g k then true else bif decide (0<k) then sameB (g (k - 1)) (g k) else false
theorem dbF_ne {g:Nat→T_Bar}:∀ n,dbF g n=false→∀ i,i+1<n→sameB (g i) (g (i+1))=false
  | 0,_,i,hi=>absurd hi (Nat.not_lt_zero _)
  | n+1,h,i,hi=>by
    simp only [dbF] at h
    cases h1:dbF g n with
    | true=>rw [h1] at h;cases h
    | false =>
      by_cases hn:i+1<n
      · exact dbF_ne n h1 i hn
      · obtain rfl:n=i+1:=by omega
        rw [h1,decide_eq_true (show 0<i+1 by omega)] at h
        exact h
def LtB (a b:T_Bar):Prop:=a.1<b.1∨a.1=b.1∧a.2.1<b.2.1
theorem aft_ne {a b:T_Bar} (h:aft a b=true) (hn:sameB a b=false):LtB a b:=by
  unfold aft at h
  unfold sameB at hn
  unfold LtB
  by_cases h1:a.1<b.1
  · exact .inl h1
  · rw [decide_eq_false h1] at h
    by_cases h2:a.1=b.1
    · have e:(a.1==b.1)=true:=beq_iff_eq.2 h2
      rw [e] at h hn
      have h3:a.2.1≤b.2.1:=of_decide_eq_true h
      have h4:¬ a.2.1=b.2.1:=beq_eq_false_iff_ne.1 hn
      right;omega
    · have e:(a.1==b.1)=false:=beq_eq_false_iff_ne.2 h2
      rw [e] at h;cases h
theorem lt_steps {g:Nat→T_Bar} {n:Nat} (h:∀ i,i+1<n→LtB (g i) (g (i+1))):∀ d i,i+(d+1)<n→LtB (g i) (g (i+(d+1)))
  | 0,i,hi=>h i hi
  | d+1,i,hi=>by
    have h1:=lt_steps h d i (by omega)
    have h2:=h (i+(d+1)) (by omega)
    unfold LtB at h1 h2 ⊢
    rw [show i+(d+1+1)=i+(d+1)+1 by omega]
    omega
theorem hit_eq {x:T_Bar} {a b:Int} (hx:x.1<x.2.1) (hab:a<b):hitB x a b=true↔x.1=a∧x.2.1=b:=by
  unfold hitB
  by_cases h1:x.1=a
  · have e1:(x.1==a)=true:=beq_iff_eq.2 h1
    by_cases h2:x.2.1=b
    · have e2:(x.2.1==b)=true:=beq_iff_eq.2 h2
      simp [e1,e2,h1,h2]
    · have e2:(x.2.1==b)=false:=beq_eq_false_iff_ne.2 h2
      have e3:(x.1==b)=false:=beq_eq_false_iff_ne.2 (by omega)
      simp [e1,e2,e3,h2]
  · have e1:(x.1==a)=false:=beq_eq_false_iff_ne.2 h1
    by_cases h3:x.1=b
    · have e3:(x.1==b)=true:=beq_iff_eq.2 h3
      have e4:(x.2.1==a)=false:=beq_eq_false_iff_ne.2 (by omega)
      simp [e1,e3,e4,h1]
    · have e3:(x.1==b)=false:=beq_eq_false_iff_ne.2 h3
      simp [e1,e3,h1]
theorem cbN_none {g:Nat→T_Bar} {a b:Int}:∀ k,(∀ i,i<k→¬ (hitB (g i) a b=true))→cbN g a b k=0
  | 0,_=>rfl
  | k+1,h=>by
    simp only [cbN]
    rw [if_neg (h k (by omega)),cbN_none k (fun i hi=>h i (by omega))]
theorem cbN_one {g:Nat→T_Bar} {a b:Int} (hab:a<b) {n:Nat} (hlt:∀ i,i<n→(g i).1<(g i).2.1) (hs:∀ i,i+1<n→LtB (g i) (g (i+1))):∀ k,k≤n→cbN g a b k≤1
  | 0,_=>Nat.zero_le _
  | k+1,hk=>by
    simp only [cbN]
    split
    · rename_i hh
      have h1:=(hit_eq (hlt k (by omega)) hab).1 hh
      rw [cbN_none k (fun i hi h2=>?_)]
      · exact Nat.le_refl _
      · have h3:=(hit_eq (hlt i (by omega)) hab).1 h2
        have h4:=lt_steps hs (k - i - 1) i (by omega)
        rw [show i+(k - i - 1+1)=k by omega] at h4
        unfold LtB at h4
        omega
    · exact cbN_one hab hlt hs k (by omega)
theorem cbN_sum {g:Nat→T_Bar} {n:Nat} (hb:∀ i,i<n→0≤(g i).1∧(g i).1<(g i).2.1∧(g i).2.1<3):∀ k,k≤n→cbN g 0 1 k+cbN g 0 2 k+cbN g 1 2 k=k
  | 0,_=>rfl
  | k+1,hk=>by
    have ih:=cbN_sum hb k (by omega)
    have h:=hb k (by omega)
    have h01:=hit_eq (x:=g k) (a:=0) (b:=1) h.2.1 (by omega)
    have h02:=hit_eq (x:=g k) (a:=0) (b:=2) h.2.1 (by omega)
    have h12:=hit_eq (x:=g k) (a:=1) (b:=2) h.2.1 (by omega)
    simp only [cbN]
    have hc:(g k).1=0∧(g k).2.1=1∨(g k).1=0∧(g k).2.1=2∨(g k).1=1∧(g k).2.1=2:=by omega
    rcases hc with hc | hc | hc
    · rw [if_pos (h01.2 hc),if_neg (fun h=>by have:=h02.1 h;omega),if_neg (fun h=>by have:=h12.1 h;omega)];omega
    · rw [if_neg (fun h=>by have:=h01.1 h;omega),if_pos (h02.2 hc),if_neg (fun h=>by have:=h12.1 h;omega)];omega
    · rw [if_neg (fun h=>by have:=h01.1 h;omega),if_neg (fun h=>by have:=h02.1 h;omega),if_pos (h12.2 hc)];omega
theorem missing_few {N nb:Nat} {g:Nat→T_Bar} (hg:isGraphF ((N:Int),(nb,g),())=true) (hd:dbF g nb=false) (h3:N≤3) :
    decide ((((msP ((N:Int),(nb,g),())).1:Nat):Int)>0)=decide ((nb:Int)<((N*(N - 1) / 2:Nat):Int)):=by
  have hgi:=graph_inR hg
  have h1:1≤N:=by have:=hgi.1;simp only at this;omega
  have hbad:∀ i,i<nb→badB (N:Int) g i=false:=goodB_in (N:Int) g nb hgi.2.2.2
  have hb:∀ i,i<nb→0≤(g i).1∧(g i).1<(g i).2.1∧(g i).2.1<(N:Int):=fun i hi=>by have:=bad_parts (hbad i hi);exact ⟨this.1,this.2.1,this.2.2.1⟩
  have hs:∀ i,i+1<nb→LtB (g i) (g (i+1)):=fun i hi=>aft_ne ((bad_parts (hbad (i+1) hi)).2.2.2 (by omega)) (dbF_ne nb hd i hi)
  have hlt:∀ i,i<nb→(g i).1<(g i).2.1:=fun i hi=>(hb i hi).2.1
  have hsum:=cbN_sum (g:=g) (n:=nb) (fun i hi=>by have:=hb i hi;omega) nb (Nat.le_refl _)
  have c01:=cbN_one (a:=0) (b:=1) (by omega) hlt hs nb (Nat.le_refl _)
  have c02:=cbN_one (a:=0) (b:=2) (by omega) hlt hs nb (Nat.le_refl _)
  have c12:=cbN_one (a:=1) (b:=2) (by omega) hlt hs nb (Nat.le_refl _)
  have z02:N≤2→cbN g 0 2 nb=0:=fun h=>cbN_none nb (fun i hi hh=>by have:=(hit_eq (hlt i hi) (by omega)).1 hh;have:=hb i hi;omega)
  have z12:N≤2→cbN g 1 2 nb=0:=fun h=>cbN_none nb (fun i hi hh=>by have:=(hit_eq (hlt i hi) (by omega)).1 hh;have:=hb i hi;omega)
  have z01:N≤1→cbN g 0 1 nb=0:=fun h=>cbN_none nb (fun i hi hh=>by have:=(hit_eq (hlt i hi) (by omega)).1 hh;have:=hb i hi;omega)
  rw [show msP ((N:Int),(nb,g),())=msO ((N:Int),(nb,g),()) N by simp [msP,hg]]
  have hN:N=1∨N=2∨N=3:=by omega
  rw [decide_eq_decide]
  rcases hN with rfl | rfl | rfl
  · have:=z01 (by omega);have:=z02 (by omega);have:=z12 (by omega)
    simp [msO,msI,zNB]
    all_goals (try omega)
  · have:=z02 (by omega);have:=z12 (by omega)
    simp [msO,msI,zNB,sn]
    split<;>simp_all<;>(try omega)
  · simp [msO,msI,zNB,sn]
    split<;>split<;>split<;>simp_all<;>(try omega)
def ST0 (N m:Nat) (F T Q:Nat→Int) (x:Int) (i:Nat):St :=
  ⟨[pebD N m F T Q,.p (.int .i64 x),.pt 3 0 0 0,.p .any,.p .any,.p (.int .i64 (tcI T i x)),.p (.int .i64 i)]++List.replicate 17 anyA,[(0,bxD N m F T Q)],1⟩
def SI0 (g:Nat→T_Bar) (nb N k m:Nat) (F T Q:Nat→Int) (i:Nat):St :=
  ⟨[grG g nb N,.p (.int .i64 k),pebD N m F T Q,.pt 2 0 0 0,.p .any,.pt 3 1 0 0,.p .any,.p (.int .i64 i)]++List.replicate 115 anyA,[(0,bxG g nb N),(1,bxD N m F T Q)],2⟩
def SI1 (g:Nat→T_Bar) (nb N k m:Nat) (F T Q:Nat→Int) (i:Nat):St :=
  ⟨[grG g nb N,.p (.int .i64 k),pebD N m F T Q,.pt 2 0 0 0,.p .any,.pt 3 1 0 0,.p .any,.p .any,.p .any,.p (.int .i64 i)]++List.replicate 113 anyA,[(0,bxG g nb N),(1,bxD N m F T Q)],2⟩
def SRu (g:Nat→T_Bar) (nb N k l m:Nat) (F T Q:Nat→Int) (i:Nat):St :=
  ⟨[grG g nb N,.p (.int .i64 k),.p (.int .i64 l),.pt 2 0 0 0,.p .any,.p .any,.pt 3 1 0 0,.p .any,.pt 3 2 0 0,.p .any,.p (.int .i64 i)]++List.replicate 32 anyA,
   [(0,bxG g nb N),(1,bx0),(2,bxP N m 3),(3,iOb N F),(4,iOb m T),(5,iOb m Q)],6⟩
def badI (g:Nat→T_Bar) (nb:Nat) (T Q:Nat→Int) (i:Nat):Bool :=
  bif bif bif decide (Q i<0) then true else decide (Q i≥(nb:Int)) then true else bif decide ((i:Int)>0) then decide (Q ((i:Int) - 1).toNat≥Q i) else false then true
    else bif T i != (g (Q i).toNat).1 then T i != (g (Q i).toNat).2.1 else false
theorem nRi (k l:Nat) :
    zS Tryz.f177 [rg 1,rm [(1,oc [] (.p (.bool true))),(5,oc [] (.p (.bool true)))] 2] [.p (.int .i64 k),.p (.int .i64 l)] [] [] (.p (.bool true)) =
    some (zD [zE 90 [.p (.int .i64 (↑k:Int)),.p (.int .i64 1),.p (.int .i64 3)] [] (.p (.bool true)),(AG true),((true=true)→(ZLo (2*(↑k:Int)))),((true=true)→(ZHi (2*(↑k:Int)))),((true=true)→(ZLo (2*(↑k:Int) - 1))),((true=true)→(ZHi (2*(↑k:Int) - 1))),((true=true)→ zE 90 [.p (.int .i64 (↑l:Int)),.p (.int .i64 0),.p (.int .i64 (2*(↑k:Int) - 1))] [] (.p (.bool true))),((bif true then true else false)=true)] [0,1,2,3,1,4,5,1,1,6,1,7]):=by kernel_rfl
theorem nRs (k l:Nat) :
    zS Tryz.f180 [rg 1,rm [(1,oc [] (.p (.bool true)))] 11] [.p (.int .i64 k),.p (.int .i64 l)] [] [] (.p (.bool true)) =
    some (zD [zE 121 [.p (.int .i64 (↑k:Int)),.p (.int .i64 1),.p (.int .i64 3)] [] (.p (.bool true)),(AG true),(AG (bif true then decide ((↑l:Int)≥0) else false)),(((bif true then decide ((↑l:Int)≥0) else false)=true)→(ZLo (2*(↑k:Int)))),(((bif true then decide ((↑l:Int)≥0) else false)=true)→(ZHi (2*(↑k:Int)))),((bif bif true then decide ((↑l:Int)≥0) else false then decide ((↑l:Int)<2*(↑k:Int)) else false)=true)] [0,1,1,2,3,4,2,2,2,5]):=by kernel_rfl
theorem nUi (g:Nat→T_Bar) (nb N k l m:Nat) (F T Q:Nat→Int) :
    zS Tryz.f137 [rg 3,rm [(1,oc [] (.p (.bool true))),(4,oc [] (.p (.bool true)))] 2,.dec false,rm [(6,oc (pebR N m F T Q) (pebO N m 0))] 2] [grG g nb N,.p (.int .i64 k),.p (.int .i64 l)] [576,577,578] (pebR N m F T Q) (.tup [pebO N m 0,.p (.bool true)]) =
    some (zD [(NT 0 1),zE 130 [(zf101 N nb g)] [] (.p (.bool true)),(AG (!!true)),(((!!true)=true)→ zE 177 [.p (.int .i64 (↑k:Int)),.p (.int .i64 (↑l:Int))] [] (.p (.bool true))),(((!true)=false)→ ((!!true)=true)),((bif !true then true else !true)=false),zE 178 [.p (.int .i64 (↑N:Int)),.p (.seq true 2 nb (bRw g)),.p (.int .i64 (↑k:Int)),.p (.int .i64 (↑l:Int))] (zf34 N F m T Q) (.agg [.ar 1 0 0 N,.ar 1 1 0 m,.ar 1 2 0 m]),((true=true)→ (AN 1)),(AN 0),(AN N),(AN m),(true=true),(AN 1),(NL N N),(AA N (fun i=>[.p (.int .i64 (F i))])),(NL m m),(AA m (fun i=>[.p (.int .i64 (T i))])),(AA m (fun i=>[.p (.int .i64 (Q i))])),(AE N),(AE m)] [0,1,2,2,3,2,4,5,0,0,6,0,7,0,8,9,8,10,8,10,11,12,13,14,12,15,16,12,15,17,18,19,19]):=by kernel_rfl
theorem nKi (g:Nat→T_Bar) (nb N k l m:Nat) (F T Q:Nat→Int) :
    zS Tryz.f62 [rg 2,rm [(3,oc (pebR N m F T Q) (.tup [pebO N m 0,.p (.bool true)]))] 6,rg 2,.dec false,rg 4] [grG g nb N,.p (.int .i64 k),.p (.int .i64 l)] [] [] (.p (.int .i64 m)) =
    some [(NT 0 1),zE 137 [(zf101 N nb g),.p (.int .i64 (↑k:Int)),.p (.int .i64 (↑l:Int))] (zf34 N F m T Q) ((zf113 N m)),(NT 0 1),((true=true)→ (AN 1)),((!true)=false),(NT 0 1),(AI ((↑m:Int)))]:=by kernel_rfl
theorem nKs (g:Nat→T_Bar) (nb N k l m:Nat) (F T Q:Nat→Int) :
    zS Tryz.f63 [rg 2,rm [(3,oc (pebR N m F T Q) (.tup [pebO N m 0,.p (.bool true)]))] 6,rg 2,.dec false,rg 4] [grG g nb N,.p (.int .i64 k),.p (.int .i64 l)] [] [] (.p (.int .i64 m)) =
    some [(NT 0 1),zE 138 [(zf101 N nb g),.p (.int .i64 (↑k:Int)),.p (.int .i64 (↑l:Int))] (zf34 N F m T Q) ((zf113 N m)),(NT 0 1),((true=true)→ (AN 1)),((!true)=false),(NT 0 1),(AI ((↑m:Int)))]:=by kernel_rfl
theorem nTz (N m:Nat) (F T Q:Nat→Int) (x:Int) :
    zT Tryz.f221 [rg 2,rg 1,rg 1,.head] [pebD N m F T Q,.p (.int .i64 x)] [0] (ST0 N m F T Q x 0) =
    some (zf68,zD [(AN N),(AP N (fun i=>[.int .i64 (F i)])),(AN m),(AP m (fun i=>[.int .i64 (T i)])),(AP m (fun i=>[.int .i64 (Q i)])),(AI x),(AN 0),((0:Int)=(tcI T 0 x)),((0:Int)=(↑0:Int)),((([inD N F,inD m T,inD m Q].length):Nat)=3),(NL 1 1)] [0,1,2,3,2,4,5,6,7,8,9,10,10,0,1,2,3,2,4]):=by kernel_rfl
theorem nTt (N m:Nat) (F T Q:Nat→Int) (x:Int) (i:Nat) :
    zM 0 [rg 5,.dec true,rg 7,.dec true,rg 3,rg 3,.head] zf68 (ST0 N m F T Q x i) [0] 1 (ST0 N m F T Q x (i+1)) =
    some (zf68,zD [(NT 0 1),((decide ((↑i:Int)<(↑m:Int)))=true),(IL 0 (↑i:Int)),(IT (↑i:Int) (↑m:Int)),((T i==x)=true),(ZLo (tcI T i x+1)),(ZHi (tcI T i x+1)),(ZLo ((↑i:Int)+1)),(ZHi ((↑i:Int)+1)),(AN N),(AP N (fun i_1=>[.int .i64 (F i_1)])),(AN m),(AP m (fun i_1=>[.int .i64 (T i_1)])),(AP m (fun i_1=>[.int .i64 (Q i_1)])),(AI x),(AN 0),(((tcI T i x+1):Int)=(tcI T (i+1) x)),((((↑i:Int)+1):Int)=(↑(i+1):Int)),(AN 3),(NL 1 1)] [0,1,0,2,3,4,5,6,7,8,9,10,11,12,11,13,14,15,16,17,18,19,19,9,10,11,12,11,13]):=by kernel_rfl
theorem nTf (N m:Nat) (F T Q:Nat→Int) (x:Int) (i:Nat) :
    zM 0 [rg 5,.dec true,rg 7,.dec false,rg 3,.head] zf68 (ST0 N m F T Q x i) [0] 1 (ST0 N m F T Q x (i+1)) =
    some (zf68,zD [(NT 0 1),((decide ((↑i:Int)<(↑m:Int)))=true),(IL 0 (↑i:Int)),(IT (↑i:Int) (↑m:Int)),((T i==x)=false),(ZLo ((↑i:Int)+1)),(ZHi ((↑i:Int)+1)),(AN N),(AP N (fun i_1=>[.int .i64 (F i_1)])),(AN m),(AP m (fun i_1=>[.int .i64 (T i_1)])),(AP m (fun i_1=>[.int .i64 (Q i_1)])),(AI x),(AN 0),(((tcI T i x):Int)=(tcI T (i+1) x)),((((↑i:Int)+1):Int)=(↑(i+1):Int)),(AN 3),(NL 1 1)] [0,1,0,2,3,4,5,6,7,8,9,10,9,11,12,13,14,15,16,17,17,7,8,9,10,9,11]):=by kernel_rfl
theorem nTe (N m:Nat) (F T Q:Nat→Int) (x:Int) (i:Nat) :
    zP Tryz.f221 0 [rg 5,.dec false,rg 2] zf68 (ST0 N m F T Q x i) [] 1 [] (.p (.int .i64 (tcI T i x))) =
    some [(NT 0 1),((decide ((↑i:Int)<(↑m:Int)))=false),(AI ((tcI T i x)))]:=by kernel_rfl
theorem nJz (g:Nat→T_Bar) (nb N k m:Nat) (F T Q:Nat→Int) :
    zT Tryz.f206 [rg 3,rm [(1,oc [] (.p (.bool true))),(3,oc [] (.p (.bool true)))] 19,.dec false,rg 1,.head] [grG g nb N,.p (.int .i64 k),pebD N m F T Q] [0,32] (SI0 g nb N k m F T Q 0) =
    some (zf69,zD [(NT 0 1),zE 134 [(zf101 N nb g)] [] (.p (.bool true)),(AG (!!true)),(((!!true)=true)→ zE 121 [.p (.int .i64 (↑k:Int)),.p (.int .i64 1),.p (.int .i64 3)] [] (.p (.bool true))),(((!true)=false)→ ((!!true)=true)),(AG (!bif !true then true else !true)),(((!bif !true then true else !true)=true)→(NT 0 1)),(((bif !true then true else !true)=false)→ ((!bif !true then true else !true)=true)),(AG (!bif bif !true then true else !true then true else (↑N:Int) != (↑N:Int))),(((!bif bif !true then true else !true then true else (↑N:Int) != (↑N:Int))=true)→(NT 0 1)),(((bif bif !true then true else !true then true else (↑N:Int) != (↑N:Int))=false)→ ((!bif bif !true then true else !true then true else (↑N:Int) != (↑N:Int))=true)),((bif bif bif !true then true else !true then true else (↑N:Int) != (↑N:Int) then true else (↑m:Int) != (↑m:Int))=false),(AI ((↑N:Int))),(AN nb),(AP nb (bRw g)),(AI ((↑k:Int))),(AN N),(AP N (fun i=>[.int .i64 (F i)])),(AN m),(AP m (fun i=>[.int .i64 (T i)])),(AP m (fun i=>[.int .i64 (Q i)])),(AN 0),((0:Int)=(↑0:Int)),((([AV.p (PV.int IntKind.i64 (↑N:Int)),brL g nb].length):Nat)=2),(NL 1 1),((([inD N F,inD m T,inD m Q].length):Nat)=3)] [0,1,2,3,2,4,5,6,5,5,6,5,5,7,8,9,8,8,9,8,8,8,10,11,12,13,14,15,16,17,18,19,18,20,21,21,22,23,24,24,12,13,14,25,24,24,16,17,18,19,18,20]):=by kernel_rfl
theorem nI0 (g:Nat→T_Bar) (nb N k m:Nat) (F T Q:Nat→Int) (i:Nat) :
    zM 0 [rg 5,.dec true,rg 6,rg 51,.dec false,rg 3,.head] zf69 (SI0 g nb N k m F T Q i) [0,1] 1 (SI0 g nb N k m F T Q (i+1)) =
    some (zf69,zD [(NT 0 1),((decide ((↑i:Int)<(↑m:Int)))=true),(IL 0 (↑i:Int)),(IT (↑i:Int) (↑m:Int)),(AG (!decide (Q (↑i:Int).toNat<0))),(((!decide (Q (↑i:Int).toNat<0))=true)→(NT 0 1)),(((decide (Q (↑i:Int).toNat<0))=false)→ ((!decide (Q (↑i:Int).toNat<0))=true)),(AG (!bif decide (Q (↑i:Int).toNat<0) then true else decide (Q (↑i:Int).toNat≥(↑nb:Int)))),(AG ((!bif decide (Q (↑i:Int).toNat<0) then true else decide (Q (↑i:Int).toNat≥(↑nb:Int)))&&decide ((↑i:Int)>0))),((((!bif decide (Q (↑i:Int).toNat<0) then true else decide (Q (↑i:Int).toNat≥(↑nb:Int)))&&decide ((↑i:Int)>0))=true)→(NT 0 1)),((((!bif decide (Q (↑i:Int).toNat<0) then true else decide (Q (↑i:Int).toNat≥(↑nb:Int)))&&decide ((↑i:Int)>0))=true)→(ZLo ((↑i:Int) - 1))),((((!bif decide (Q (↑i:Int).toNat<0) then true else decide (Q (↑i:Int).toNat≥(↑nb:Int)))&&decide ((↑i:Int)>0))=true)→(ZHi ((↑i:Int) - 1))),((((!bif decide (Q (↑i:Int).toNat<0) then true else decide (Q (↑i:Int).toNat≥(↑nb:Int)))&&decide ((↑i:Int)>0))=true)→(IL 0 ((↑i:Int) - 1))),((((!bif decide (Q (↑i:Int).toNat<0) then true else decide (Q (↑i:Int).toNat≥(↑nb:Int)))&&decide ((↑i:Int)>0))=true)→(IT ((↑i:Int) - 1) (↑m:Int))),(((!bif decide (Q (↑i:Int).toNat<0) then true else decide (Q (↑i:Int).toNat≥(↑nb:Int)))=true)→(((decide ((↑i:Int)>0))=true)→ (((!bif decide (Q (↑i:Int).toNat<0) then true else decide (Q (↑i:Int).toNat≥(↑nb:Int)))&&decide ((↑i:Int)>0))=true))),(((bif decide (Q (↑i:Int).toNat<0) then true else decide (Q (↑i:Int).toNat≥(↑nb:Int)))=false)→ ((!bif decide (Q (↑i:Int).toNat<0) then true else decide (Q (↑i:Int).toNat≥(↑nb:Int)))=true)),(AG (!bif bif decide (Q (↑i:Int).toNat<0) then true else decide (Q (↑i:Int).toNat≥(↑nb:Int)) then true else bif decide ((↑i:Int)>0) then decide (Q ((↑i:Int) - 1).toNat≥Q (↑i:Int).toNat) else false)),(((!bif bif decide (Q (↑i:Int).toNat<0) then true else decide (Q (↑i:Int).toNat≥(↑nb:Int)) then true else bif decide ((↑i:Int)>0) then decide (Q ((↑i:Int) - 1).toNat≥Q (↑i:Int).toNat) else false)=true)→(NT 0 1)),(((!bif bif decide (Q (↑i:Int).toNat<0) then true else decide (Q (↑i:Int).toNat≥(↑nb:Int)) then true else bif decide ((↑i:Int)>0) then decide (Q ((↑i:Int) - 1).toNat≥Q (↑i:Int).toNat) else false)=true)→(IL 0 (↑i:Int))),(((!bif bif decide (Q (↑i:Int).toNat<0) then true else decide (Q (↑i:Int).toNat≥(↑nb:Int)) then true else bif decide ((↑i:Int)>0) then decide (Q ((↑i:Int) - 1).toNat≥Q (↑i:Int).toNat) else false)=true)→(IT (↑i:Int) (↑m:Int))),(((!bif bif decide (Q (↑i:Int).toNat<0) then true else decide (Q (↑i:Int).toNat≥(↑nb:Int)) then true else bif decide ((↑i:Int)>0) then decide (Q ((↑i:Int) - 1).toNat≥Q (↑i:Int).toNat) else false)=true)→(IL 0 (Q i))),(((!bif bif decide (Q (↑i:Int).toNat<0) then true else decide (Q (↑i:Int).toNat≥(↑nb:Int)) then true else bif decide ((↑i:Int)>0) then decide (Q ((↑i:Int) - 1).toNat≥Q (↑i:Int).toNat) else false)=true)→(IT (Q i) (↑nb:Int))),(AG ((!bif bif decide (Q (↑i:Int).toNat<0) then true else decide (Q (↑i:Int).toNat≥(↑nb:Int)) then true else bif decide ((↑i:Int)>0) then decide (Q ((↑i:Int) - 1).toNat≥Q (↑i:Int).toNat) else false)&&T i != (g (Q i).toNat).1)),((((!bif bif decide (Q (↑i:Int).toNat<0) then true else decide (Q (↑i:Int).toNat≥(↑nb:Int)) then true else bif decide ((↑i:Int)>0) then decide (Q ((↑i:Int) - 1).toNat≥Q (↑i:Int).toNat) else false)&&T i != (g (Q i).toNat).1)=true)→(NT 0 1)),((((!bif bif decide (Q (↑i:Int).toNat<0) then true else decide (Q (↑i:Int).toNat≥(↑nb:Int)) then true else bif decide ((↑i:Int)>0) then decide (Q ((↑i:Int) - 1).toNat≥Q (↑i:Int).toNat) else false)&&T i != (g (Q i).toNat).1)=true)→(IL 0 (↑i:Int))),((((!bif bif decide (Q (↑i:Int).toNat<0) then true else decide (Q (↑i:Int).toNat≥(↑nb:Int)) then true else bif decide ((↑i:Int)>0) then decide (Q ((↑i:Int) - 1).toNat≥Q (↑i:Int).toNat) else false)&&T i != (g (Q i).toNat).1)=true)→(IT (↑i:Int) (↑m:Int))),((((!bif bif decide (Q (↑i:Int).toNat<0) then true else decide (Q (↑i:Int).toNat≥(↑nb:Int)) then true else bif decide ((↑i:Int)>0) then decide (Q ((↑i:Int) - 1).toNat≥Q (↑i:Int).toNat) else false)&&T i != (g (Q i).toNat).1)=true)→(IL 0 (Q i))),((((!bif bif decide (Q (↑i:Int).toNat<0) then true else decide (Q (↑i:Int).toNat≥(↑nb:Int)) then true else bif decide ((↑i:Int)>0) then decide (Q ((↑i:Int) - 1).toNat≥Q (↑i:Int).toNat) else false)&&T i != (g (Q i).toNat).1)=true)→(IT (Q i) (↑nb:Int))),(((!bif bif decide (Q (↑i:Int).toNat<0) then true else decide (Q (↑i:Int).toNat≥(↑nb:Int)) then true else bif decide ((↑i:Int)>0) then decide (Q ((↑i:Int) - 1).toNat≥Q (↑i:Int).toNat) else false)=true)→(((T i != (g (Q i).toNat).1)=true)→ (((!bif bif decide (Q (↑i:Int).toNat<0) then true else decide (Q (↑i:Int).toNat≥(↑nb:Int)) then true else bif decide ((↑i:Int)>0) then decide (Q ((↑i:Int) - 1).toNat≥Q (↑i:Int).toNat) else false)&&T i != (g (Q i).toNat).1)=true))),(((bif bif decide (Q (↑i:Int).toNat<0) then true else decide (Q (↑i:Int).toNat≥(↑nb:Int)) then true else bif decide ((↑i:Int)>0) then decide (Q ((↑i:Int) - 1).toNat≥Q (↑i:Int).toNat) else false)=false)→ ((!bif bif decide (Q (↑i:Int).toNat<0) then true else decide (Q (↑i:Int).toNat≥(↑nb:Int)) then true else bif decide ((↑i:Int)>0) then decide (Q ((↑i:Int) - 1).toNat≥Q (↑i:Int).toNat) else false)=true)),((bif bif bif decide (Q (↑i:Int).toNat<0) then true else decide (Q (↑i:Int).toNat≥(↑nb:Int)) then true else bif decide ((↑i:Int)>0) then decide (Q ((↑i:Int) - 1).toNat≥Q (↑i:Int).toNat) else false then true else bif T i != (g (Q i).toNat).1 then T i != (g (Q i).toNat).2.1 else false)=false),(ZLo ((↑i:Int)+1)),(ZHi ((↑i:Int)+1)),(AI ((↑N:Int))),(AN nb),(AP nb (bRw g)),(AI ((↑k:Int))),(AN N),(AP N (fun i_1=>[.int .i64 (F i_1)])),(AN m),(AP m (fun i_1=>[.int .i64 (T i_1)])),(AP m (fun i_1=>[.int .i64 (Q i_1)])),(AN 0),((((↑i:Int)+1):Int)=(↑(i+1):Int)),(AN 2),(NL 1 1),(AN 3)] [0,1,0,2,3,4,5,4,4,4,6,7,7,8,9,8,10,11,8,8,12,13,8,8,8,7,14,15,16,17,16,16,18,19,16,16,17,16,16,20,21,16,16,16,16,16,22,23,22,22,24,25,22,22,23,22,22,26,27,22,22,22,22,16,28,29,30,31,32,33,34,35,36,37,38,39,40,39,41,42,42,43,44,45,45,33,34,35,46,45,45,37,38,39,40,39,41]):=by kernel_rfl
theorem nI01 (g:Nat→T_Bar) (nb N k m:Nat) (F T Q:Nat→Int) (i:Nat) :
    zM 0 [rg 5,.dec false,rg 1,.head] zf69 (SI0 g nb N k m F T Q i) [0,1] 1 (SI1 g nb N k m F T Q 0) =
    some (zf40,zD [(NT 0 1),((decide ((↑i:Int)<(↑m:Int)))=false),(AI ((↑N:Int))),(AN nb),(AP nb (bRw g)),(AI ((↑k:Int))),(AN N),(AP N (fun i_1=>[.int .i64 (F i_1)])),(AN m),(AP m (fun i_1=>[.int .i64 (T i_1)])),(AP m (fun i_1=>[.int .i64 (Q i_1)])),(AN 0),((0:Int)=(↑0:Int)),(AN 2),(NL 1 1),(AN 3)] [0,1,2,3,4,5,6,7,8,9,8,10,11,11,12,13,14,14,2,3,4,15,14,14,6,7,8,9,8,10]):=by kernel_rfl
theorem nI1 (g:Nat→T_Bar) (nb N k m:Nat) (F T Q:Nat→Int) (i:Nat) :
    zM 0 [rg 4,.dec true,rm [(14,oc [] (.p (.int .i64 (tcI T m i))))] 4,.dec false,rg 3,.head] zf40 (SI1 g nb N k m F T Q i) [0,1] 1 (SI1 g nb N k m F T Q (i+1)) =
    some (zf40,zD [(NT 0 1),((decide ((↑i:Int)<(↑N:Int)))=true),(IL 0 (↑i:Int)),(IT (↑i:Int) (↑N:Int)),(AG (!decide (F (↑i:Int).toNat<0))),(((!decide (F (↑i:Int).toNat<0))=true)→(NT 0 1)),(((!decide (F (↑i:Int).toNat<0))=true)→(IL 0 (↑i:Int))),(((!decide (F (↑i:Int).toNat<0))=true)→(IT (↑i:Int) (↑N:Int))),(((!decide (F (↑i:Int).toNat<0))=true)→ zE 221 [.agg [.p (.seq true 1 N (fun i_1=>[.int .i64 (F i_1)])),.p (.seq true 1 m (fun i_1=>[.int .i64 (T i_1)])),.p (.seq true 1 m (fun i_1=>[.int .i64 (Q i_1)]))],.p (.int .i64 (↑i:Int))] [] (.p (.int .i64 (tcI T m (↑i:Int))))),(((!decide (F (↑i:Int).toNat<0))=true)→(ZLo (F i+tcI T m (↑i:Int)))),(((!decide (F (↑i:Int).toNat<0))=true)→(ZHi (F i+tcI T m (↑i:Int)))),(((decide (F (↑i:Int).toNat<0))=false)→ ((!decide (F (↑i:Int).toNat<0))=true)),((bif decide (F (↑i:Int).toNat<0) then true else F i+tcI T m (↑i:Int) != (↑k:Int))=false),(ZLo ((↑i:Int)+1)),(ZHi ((↑i:Int)+1)),(AI ((↑N:Int))),(AN nb),(AP nb (bRw g)),(AI ((↑k:Int))),(AN N),(AP N (fun i_1=>[.int .i64 (F i_1)])),(AN m),(AP m (fun i_1=>[.int .i64 (T i_1)])),(AP m (fun i_1=>[.int .i64 (Q i_1)])),(AN 0),((((↑i:Int)+1):Int)=(↑(i+1):Int)),(AN 2),(NL 1 1),(AN 3)] [0,1,0,2,3,4,5,4,4,6,7,4,5,4,4,8,4,4,9,10,4,4,11,12,13,14,15,16,17,18,19,20,21,22,21,23,24,24,25,26,27,27,15,16,17,28,27,27,19,20,21,22,21,23]):=by kernel_rfl
theorem nJe (g:Nat→T_Bar) (nb N k m:Nat) (F T Q:Nat→Int) (i:Nat) :
    zP Tryz.f206 0 [rg 4,.dec false,rg 1] zf40 (SI1 g nb N k m F T Q i) [] 1 [] (.p (.bool true)) =
    some [(NT 0 1),((decide ((↑i:Int)<(↑N:Int)))=false),(true=true)]:=by kernel_rfl
theorem nPf (g:Nat→T_Bar) (nb N k l m e:Nat) (F T Q F1 T1:Nat→Int) :
    zS Tryz.f181 [rg 4,rm [(3,oc [] (.p (.bool true))),(4,oc [] (.p (.bool true)))] 31,.dec false,rg 7,rm [(8,oc (pebR N m F1 T1 Q) (.tup [pebO N m 0,.p (.bool false)]))] 6,rg 2,.dec true,rm [(1,oc (pebR N m F T Q) (pebO N m 0))] 2] [grG g nb N,.p (.int .i64 k),.p (.int .i64 l),pebD N m F T Q,.p (.int .i64 e)] [2208,2209,2210] (pebR N m F T Q) (.tup [pebO N m 0,.p (.bool false)]) =
    some (zD [(NT 0 1),zE 206 [(zf101 N nb g),.p (.int .i64 (↑k:Int)),(zf60 N F m T Q)] [] (.p (.bool true)),(AG (!!true)),(((!!true)=true)→ zE 180 [.p (.int .i64 (↑k:Int)),.p (.int .i64 (↑l:Int))] [] (.p (.bool true))),(((!true)=false)→ ((!!true)=true)),(AG (!bif !true then true else !true)),(((bif !true then true else !true)=false)→ ((!bif !true then true else !true)=true)),(AG (!bif bif !true then true else !true then true else decide ((↑e:Int)<0))),(((!bif bif !true then true else !true then true else decide ((↑e:Int)<0))=true)→(NT 0 1)),(((bif bif !true then true else !true then true else decide ((↑e:Int)<0))=false)→ ((!bif bif !true then true else !true then true else decide ((↑e:Int)<0))=true)),(AG (!bif bif bif !true then true else !true then true else decide ((↑e:Int)<0) then true else decide ((↑e:Int)≥(↑nb:Int)))),(((!bif bif bif !true then true else !true then true else decide ((↑e:Int)<0) then true else decide ((↑e:Int)≥(↑nb:Int)))=true)→(NT 0 1)),(AG ((!bif bif bif !true then true else !true then true else decide ((↑e:Int)<0) then true else decide ((↑e:Int)≥(↑nb:Int)))&&decide ((↑m:Int)>0))),((((!bif bif bif !true then true else !true then true else decide ((↑e:Int)<0) then true else decide ((↑e:Int)≥(↑nb:Int)))&&decide ((↑m:Int)>0))=true)→(NT 0 1)),((((!bif bif bif !true then true else !true then true else decide ((↑e:Int)<0) then true else decide ((↑e:Int)≥(↑nb:Int)))&&decide ((↑m:Int)>0))=true)→(ZLo ((↑m:Int) - 1))),((((!bif bif bif !true then true else !true then true else decide ((↑e:Int)<0) then true else decide ((↑e:Int)≥(↑nb:Int)))&&decide ((↑m:Int)>0))=true)→(ZHi ((↑m:Int) - 1))),((((!bif bif bif !true then true else !true then true else decide ((↑e:Int)<0) then true else decide ((↑e:Int)≥(↑nb:Int)))&&decide ((↑m:Int)>0))=true)→(IL 0 ((↑m:Int) - 1))),((((!bif bif bif !true then true else !true then true else decide ((↑e:Int)<0) then true else decide ((↑e:Int)≥(↑nb:Int)))&&decide ((↑m:Int)>0))=true)→(IT ((↑m:Int) - 1) (↑m:Int))),(((!bif bif bif !true then true else !true then true else decide ((↑e:Int)<0) then true else decide ((↑e:Int)≥(↑nb:Int)))=true)→(((decide ((↑m:Int)>0))=true)→ (((!bif bif bif !true then true else !true then true else decide ((↑e:Int)<0) then true else decide ((↑e:Int)≥(↑nb:Int)))&&decide ((↑m:Int)>0))=true))),(((bif bif bif !true then true else !true then true else decide ((↑e:Int)<0) then true else decide ((↑e:Int)≥(↑nb:Int)))=false)→ ((!bif bif bif !true then true else !true then true else decide ((↑e:Int)<0) then true else decide ((↑e:Int)≥(↑nb:Int)))=true)),((bif bif bif bif !true then true else !true then true else decide ((↑e:Int)<0) then true else decide ((↑e:Int)≥(↑nb:Int)) then true else bif decide ((↑m:Int)>0) then decide (Q ((↑m:Int) - 1).toNat≥(↑e:Int)) else false)=false),(IL 0 (↑e:Int)),(IT (↑e:Int) (↑nb:Int)),((true=true)→ (AN 1)),(ZLo ((↑l:Int)+1)),(ZHi ((↑l:Int)+1)),zE 208 [(zf101 N nb g),(zf60 N F m T Q),.p (.int .i64 ((g e).1)),.p (.int .i64 ((g e).2.1)),.p (.int .i64 ((↑l:Int)+1))] (zf34 N F1 m T1 Q) ((zf111 N m)),((!false)=true),zE 207 [(zf60 N F m T Q)] (zf34 N F m T Q) (.agg [.ar 1 0 0 N,.ar 1 1 0 m,.ar 1 2 0 m]),(AN 0),(AN N),(AN m),(false=false),(AN 1),(NL N N),(AA N (fun i=>[.p (.int .i64 (F i))])),(NL m m),(AA m (fun i=>[.p (.int .i64 (T i))])),(AA m (fun i=>[.p (.int .i64 (Q i))])),(AE N),(AE m)] [0,0,1,2,2,3,2,4,5,6,7,8,7,7,7,9,10,11,10,10,10,12,13,12,13,12,12,14,15,12,12,16,17,12,12,12,10,18,19,20,0,21,22,0,23,0,0,0,0,24,25,26,0,23,27,0,28,0,23,0,29,30,29,31,29,31,32,33,34,35,33,36,37,33,36,38,39,40,40]):=by kernel_rfl
theorem nPa (g:Nat→T_Bar) (nb N k l m e:Nat) (F T Q F1 T1:Nat→Int) :
    zS Tryz.f181 [rg 4,rm [(3,oc [] (.p (.bool true))),(4,oc [] (.p (.bool true)))] 31,.dec false,rg 7,rm [(8,oc (pebR N m F1 T1 Q) (.tup [pebO N m 0,.p (.bool true)]))] 6,rg 2,.dec false,rg 3,rg 7,.dec false,rg 11,rg 7,rg 7,rg 3] [grG g nb N,.p (.int .i64 k),.p (.int .i64 l),pebD N m F T Q,.p (.int .i64 e)] [1888,2976,3200] (pebR N (m+1) (fun s=>if s=(g e).1.toNat then F1 s - 1 else F1 s) (fun s=>if s<m then T1 s else (g e).1) (fun s=>if s<m then Q s else e)) (.tup [pebO N (m+1) 0,.p (.bool true)]) =
    some (zD [(NT 0 1),zE 206 [(zf101 N nb g),.p (.int .i64 (↑k:Int)),(zf60 N F m T Q)] [] (.p (.bool true)),(AG (!!true)),(((!!true)=true)→ zE 180 [.p (.int .i64 (↑k:Int)),.p (.int .i64 (↑l:Int))] [] (.p (.bool true))),(((!true)=false)→ ((!!true)=true)),(AG (!bif !true then true else !true)),(((bif !true then true else !true)=false)→ ((!bif !true then true else !true)=true)),(AG (!bif bif !true then true else !true then true else decide ((↑e:Int)<0))),(((!bif bif !true then true else !true then true else decide ((↑e:Int)<0))=true)→(NT 0 1)),(((bif bif !true then true else !true then true else decide ((↑e:Int)<0))=false)→ ((!bif bif !true then true else !true then true else decide ((↑e:Int)<0))=true)),(AG (!bif bif bif !true then true else !true then true else decide ((↑e:Int)<0) then true else decide ((↑e:Int)≥(↑nb:Int)))),(((!bif bif bif !true then true else !true then true else decide ((↑e:Int)<0) then true else decide ((↑e:Int)≥(↑nb:Int)))=true)→(NT 0 1)),(AG ((!bif bif bif !true then true else !true then true else decide ((↑e:Int)<0) then true else decide ((↑e:Int)≥(↑nb:Int)))&&decide ((↑m:Int)>0))),((((!bif bif bif !true then true else !true then true else decide ((↑e:Int)<0) then true else decide ((↑e:Int)≥(↑nb:Int)))&&decide ((↑m:Int)>0))=true)→(NT 0 1)),((((!bif bif bif !true then true else !true then true else decide ((↑e:Int)<0) then true else decide ((↑e:Int)≥(↑nb:Int)))&&decide ((↑m:Int)>0))=true)→(ZLo ((↑m:Int) - 1))),((((!bif bif bif !true then true else !true then true else decide ((↑e:Int)<0) then true else decide ((↑e:Int)≥(↑nb:Int)))&&decide ((↑m:Int)>0))=true)→(ZHi ((↑m:Int) - 1))),((((!bif bif bif !true then true else !true then true else decide ((↑e:Int)<0) then true else decide ((↑e:Int)≥(↑nb:Int)))&&decide ((↑m:Int)>0))=true)→(IL 0 ((↑m:Int) - 1))),((((!bif bif bif !true then true else !true then true else decide ((↑e:Int)<0) then true else decide ((↑e:Int)≥(↑nb:Int)))&&decide ((↑m:Int)>0))=true)→(IT ((↑m:Int) - 1) (↑m:Int))),(((!bif bif bif !true then true else !true then true else decide ((↑e:Int)<0) then true else decide ((↑e:Int)≥(↑nb:Int)))=true)→(((decide ((↑m:Int)>0))=true)→ (((!bif bif bif !true then true else !true then true else decide ((↑e:Int)<0) then true else decide ((↑e:Int)≥(↑nb:Int)))&&decide ((↑m:Int)>0))=true))),(((bif bif bif !true then true else !true then true else decide ((↑e:Int)<0) then true else decide ((↑e:Int)≥(↑nb:Int)))=false)→ ((!bif bif bif !true then true else !true then true else decide ((↑e:Int)<0) then true else decide ((↑e:Int)≥(↑nb:Int)))=true)),((bif bif bif bif !true then true else !true then true else decide ((↑e:Int)<0) then true else decide ((↑e:Int)≥(↑nb:Int)) then true else bif decide ((↑m:Int)>0) then decide (Q ((↑m:Int) - 1).toNat≥(↑e:Int)) else false)=false),(IL 0 (↑e:Int)),(IT (↑e:Int) (↑nb:Int)),((true=true)→ (AN 1)),(ZLo ((↑l:Int)+1)),(ZHi ((↑l:Int)+1)),zE 208 [(zf101 N nb g),(zf60 N F m T Q),.p (.int .i64 ((g e).1)),.p (.int .i64 ((g e).2.1)),.p (.int .i64 ((↑l:Int)+1))] (zf34 N F1 m T1 Q) ((zf113 N m)),((!true)=false),(IL 0 ((g e).1)),(IT ((g e).1) (↑N:Int)),(NT ((g e).1.toNat) N),((F1 (g e).1.toNat==0)=false),(ZLo (F1 (g e).1.toNat - 1)),(ZHi (F1 (g e).1.toNat - 1)),((false=true)→ ((N:Nat)=1)),(NL 1 1),(NL m m),(NL ((m+1)*8) 140737488355328),(NL (m+1) 9223372036854775807),(AN 0),(AN N),(AN ((m+1))),(true=true),(AN 1),(NL N N),(CV [(64,⟨true,3,1,(fun i_1=>[.ar 1 1888 0 N,.ar 1 2976 0 (m+1),.ar 1 3200 0 (m+1)])⟩),(2016,⟨true,3,1,(fun i_1=>[.ar 1 1888 0 N,.ar 1 2976 0 (m+1),.ar 1 3200 0 (m+1)])⟩),(3200,⟨false,1,(m+1),(fun i_1=>(if (i_1<m) then [.p (.int .i64 (Q i_1))] else [.p (.int .i64 (↑e:Int))]))⟩),(3168,⟨false,1,1,(fun i_1=>[.p (.int .i64 (↑e:Int))])⟩),(2976,⟨false,1,(m+1),(fun i_1=>(if (i_1<m) then [.p (.int .i64 (T1 i_1))] else [.p (.int .i64 ((g e).1))]))⟩),(2944,⟨false,1,1,(fun i_1=>[.p (.int .i64 ((g e).1))])⟩),(1888,⟨false,1,N,(fun i_1=>(if (i_1=(g e).1.toNat) then [.p (.int .i64 (F1 (g e).1.toNat - 1))] else [.p (.int .i64 (F1 i_1))]))⟩),(1568,⟨true,2,1,(fun i_1=>[.p (.int .i64 ((g e).1)),.p (.int .i64 ((g e).2.1))])⟩),(32,⟨true,3,1,(fun i_1=>[.p (.seq true 1 N (fun i_2=>[.int .i64 (F i_2)])),.p (.seq true 1 m (fun i_2=>[.int .i64 (T i_2)])),.p (.seq true 1 m (fun i_2=>[.int .i64 (Q i_2)]))])⟩),(0,⟨true,2,1,(fun i_1=>[.p (.int .i64 (↑N:Int)),.p (.seq true 2 nb (bRw g))])⟩)] [1888,2976,3200] 1 N (fun i=>if (i=(g e).1.toNat) then [.p (.int .i64 (F1 (g e).1.toNat - 1))] else [.p (.int .i64 (F1 i))]) (fun i=>[.p (.int .i64 (if i=(g e).1.toNat then F1 i - 1 else F1 i))])),(NL (m+1) (m+1)),(CV [(64,⟨true,3,1,(fun i_1=>[.ar 1 1888 0 N,.ar 1 2976 0 (m+1),.ar 1 3200 0 (m+1)])⟩),(2016,⟨true,3,1,(fun i_1=>[.ar 1 1888 0 N,.ar 1 2976 0 (m+1),.ar 1 3200 0 (m+1)])⟩),(3200,⟨false,1,(m+1),(fun i_1=>(if (i_1<m) then [.p (.int .i64 (Q i_1))] else [.p (.int .i64 (↑e:Int))]))⟩),(3168,⟨false,1,1,(fun i_1=>[.p (.int .i64 (↑e:Int))])⟩),(2976,⟨false,1,(m+1),(fun i_1=>(if (i_1<m) then [.p (.int .i64 (T1 i_1))] else [.p (.int .i64 ((g e).1))]))⟩),(2944,⟨false,1,1,(fun i_1=>[.p (.int .i64 ((g e).1))])⟩),(1888,⟨false,1,N,(fun i_1=>(if (i_1=(g e).1.toNat) then [.p (.int .i64 (F1 (g e).1.toNat - 1))] else [.p (.int .i64 (F1 i_1))]))⟩),(1568,⟨true,2,1,(fun i_1=>[.p (.int .i64 ((g e).1)),.p (.int .i64 ((g e).2.1))])⟩),(32,⟨true,3,1,(fun i_1=>[.p (.seq true 1 N (fun i_2=>[.int .i64 (F i_2)])),.p (.seq true 1 m (fun i_2=>[.int .i64 (T i_2)])),.p (.seq true 1 m (fun i_2=>[.int .i64 (Q i_2)]))])⟩),(0,⟨true,2,1,(fun i_1=>[.p (.int .i64 (↑N:Int)),.p (.seq true 2 nb (bRw g))])⟩)] [1888,2976,3200] 1 (m+1) (fun i=>if (i<m) then [.p (.int .i64 (T1 i))] else [.p (.int .i64 ((g e).1))]) (fun i=>[.p (.int .i64 (if i<m then T1 i else (g e).1))])),(CV [(64,⟨true,3,1,(fun i_1=>[.ar 1 1888 0 N,.ar 1 2976 0 (m+1),.ar 1 3200 0 (m+1)])⟩),(2016,⟨true,3,1,(fun i_1=>[.ar 1 1888 0 N,.ar 1 2976 0 (m+1),.ar 1 3200 0 (m+1)])⟩),(3200,⟨false,1,(m+1),(fun i_1=>(if (i_1<m) then [.p (.int .i64 (Q i_1))] else [.p (.int .i64 (↑e:Int))]))⟩),(3168,⟨false,1,1,(fun i_1=>[.p (.int .i64 (↑e:Int))])⟩),(2976,⟨false,1,(m+1),(fun i_1=>(if (i_1<m) then [.p (.int .i64 (T1 i_1))] else [.p (.int .i64 ((g e).1))]))⟩),(2944,⟨false,1,1,(fun i_1=>[.p (.int .i64 ((g e).1))])⟩),(1888,⟨false,1,N,(fun i_1=>(if (i_1=(g e).1.toNat) then [.p (.int .i64 (F1 (g e).1.toNat - 1))] else [.p (.int .i64 (F1 i_1))]))⟩),(1568,⟨true,2,1,(fun i_1=>[.p (.int .i64 ((g e).1)),.p (.int .i64 ((g e).2.1))])⟩),(32,⟨true,3,1,(fun i_1=>[.p (.seq true 1 N (fun i_2=>[.int .i64 (F i_2)])),.p (.seq true 1 m (fun i_2=>[.int .i64 (T i_2)])),.p (.seq true 1 m (fun i_2=>[.int .i64 (Q i_2)]))])⟩),(0,⟨true,2,1,(fun i_1=>[.p (.int .i64 (↑N:Int)),.p (.seq true 2 nb (bRw g))])⟩)] [1888,2976,3200] 1 (m+1) (fun i=>if (i<m) then [.p (.int .i64 (Q i))] else [.p (.int .i64 (↑e:Int))]) (fun i=>[.p (.int .i64 (if i<m then Q i else (↑e:Int)))])),(AE N),(AE ((m+1)))] [0,0,1,2,2,3,2,4,5,6,7,8,7,7,7,9,10,11,10,10,10,12,13,12,13,12,12,14,15,12,12,16,17,12,12,12,10,18,19,20,0,21,22,0,23,0,0,0,0,24,25,26,0,23,27,0,0,0,28,29,30,31,0,0,28,29,30,32,33,28,29,30,34,0,35,36,37,38,0,23,0,35,36,37,38,0,23,0,0,23,0,39,40,39,41,39,41,42,43,44,45,43,46,47,43,46,48,49,50,50]):=by kernel_rfl
theorem nPb (g:Nat→T_Bar) (nb N k l m e:Nat) (F T Q F1 T1:Nat→Int) :
    zS Tryz.f181 [rg 4,rm [(3,oc [] (.p (.bool true))),(4,oc [] (.p (.bool true)))] 31,.dec false,rg 7,rm [(8,oc (pebR N m F1 T1 Q) (.tup [pebO N m 0,.p (.bool true)]))] 6,rg 2,.dec false,rg 3,rg 7,.dec true,rg 3,rg 11,rg 7,rg 7,rg 3] [grG g nb N,.p (.int .i64 k),.p (.int .i64 l),pebD N m F T Q,.p (.int .i64 e)] [1888,3072,3296] (pebR N (m+1) (fun s=>if s=(g e).2.1.toNat then F1 s - 1 else F1 s) (fun s=>if s<m then T1 s else (g e).2.1) (fun s=>if s<m then Q s else e)) (.tup [pebO N (m+1) 0,.p (.bool true)]) =
    some (zD [(NT 0 1),zE 206 [(zf101 N nb g),.p (.int .i64 (↑k:Int)),(zf60 N F m T Q)] [] (.p (.bool true)),(AG (!!true)),(((!!true)=true)→ zE 180 [.p (.int .i64 (↑k:Int)),.p (.int .i64 (↑l:Int))] [] (.p (.bool true))),(((!true)=false)→ ((!!true)=true)),(AG (!bif !true then true else !true)),(((bif !true then true else !true)=false)→ ((!bif !true then true else !true)=true)),(AG (!bif bif !true then true else !true then true else decide ((↑e:Int)<0))),(((!bif bif !true then true else !true then true else decide ((↑e:Int)<0))=true)→(NT 0 1)),(((bif bif !true then true else !true then true else decide ((↑e:Int)<0))=false)→ ((!bif bif !true then true else !true then true else decide ((↑e:Int)<0))=true)),(AG (!bif bif bif !true then true else !true then true else decide ((↑e:Int)<0) then true else decide ((↑e:Int)≥(↑nb:Int)))),(((!bif bif bif !true then true else !true then true else decide ((↑e:Int)<0) then true else decide ((↑e:Int)≥(↑nb:Int)))=true)→(NT 0 1)),(AG ((!bif bif bif !true then true else !true then true else decide ((↑e:Int)<0) then true else decide ((↑e:Int)≥(↑nb:Int)))&&decide ((↑m:Int)>0))),((((!bif bif bif !true then true else !true then true else decide ((↑e:Int)<0) then true else decide ((↑e:Int)≥(↑nb:Int)))&&decide ((↑m:Int)>0))=true)→(NT 0 1)),((((!bif bif bif !true then true else !true then true else decide ((↑e:Int)<0) then true else decide ((↑e:Int)≥(↑nb:Int)))&&decide ((↑m:Int)>0))=true)→(ZLo ((↑m:Int) - 1))),((((!bif bif bif !true then true else !true then true else decide ((↑e:Int)<0) then true else decide ((↑e:Int)≥(↑nb:Int)))&&decide ((↑m:Int)>0))=true)→(ZHi ((↑m:Int) - 1))),((((!bif bif bif !true then true else !true then true else decide ((↑e:Int)<0) then true else decide ((↑e:Int)≥(↑nb:Int)))&&decide ((↑m:Int)>0))=true)→(IL 0 ((↑m:Int) - 1))),((((!bif bif bif !true then true else !true then true else decide ((↑e:Int)<0) then true else decide ((↑e:Int)≥(↑nb:Int)))&&decide ((↑m:Int)>0))=true)→(IT ((↑m:Int) - 1) (↑m:Int))),(((!bif bif bif !true then true else !true then true else decide ((↑e:Int)<0) then true else decide ((↑e:Int)≥(↑nb:Int)))=true)→(((decide ((↑m:Int)>0))=true)→ (((!bif bif bif !true then true else !true then true else decide ((↑e:Int)<0) then true else decide ((↑e:Int)≥(↑nb:Int)))&&decide ((↑m:Int)>0))=true))),(((bif bif bif !true then true else !true then true else decide ((↑e:Int)<0) then true else decide ((↑e:Int)≥(↑nb:Int)))=false)→ ((!bif bif bif !true then true else !true then true else decide ((↑e:Int)<0) then true else decide ((↑e:Int)≥(↑nb:Int)))=true)),((bif bif bif bif !true then true else !true then true else decide ((↑e:Int)<0) then true else decide ((↑e:Int)≥(↑nb:Int)) then true else bif decide ((↑m:Int)>0) then decide (Q ((↑m:Int) - 1).toNat≥(↑e:Int)) else false)=false),(IL 0 (↑e:Int)),(IT (↑e:Int) (↑nb:Int)),((true=true)→ (AN 1)),(ZLo ((↑l:Int)+1)),(ZHi ((↑l:Int)+1)),zE 208 [(zf101 N nb g),(zf60 N F m T Q),.p (.int .i64 ((g e).1)),.p (.int .i64 ((g e).2.1)),.p (.int .i64 ((↑l:Int)+1))] (zf34 N F1 m T1 Q) ((zf113 N m)),((!true)=false),(IL 0 ((g e).1)),(IT ((g e).1) (↑N:Int)),(NT ((g e).1.toNat) N),((F1 (g e).1.toNat==0)=true),(IL 0 ((g e).2.1)),(IT ((g e).2.1) (↑N:Int)),(NT ((g e).2.1.toNat) N),(ZLo (F1 (g e).2.1.toNat - 1)),(ZHi (F1 (g e).2.1.toNat - 1)),((false=true)→ ((N:Nat)=1)),(NL 1 1),(NL m m),(NL ((m+1)*8) 140737488355328),(NL (m+1) 9223372036854775807),(AN 0),(AN N),(AN ((m+1))),(true=true),(AN 1),(NL N N),(CV [(64,⟨true,3,1,(fun i_1=>[.ar 1 1888 0 N,.ar 1 3072 0 (m+1),.ar 1 3296 0 (m+1)])⟩),(2016,⟨true,3,1,(fun i_1=>[.ar 1 1888 0 N,.ar 1 3072 0 (m+1),.ar 1 3296 0 (m+1)])⟩),(3296,⟨false,1,(m+1),(fun i_1=>(if (i_1<m) then [.p (.int .i64 (Q i_1))] else [.p (.int .i64 (↑e:Int))]))⟩),(3264,⟨false,1,1,(fun i_1=>[.p (.int .i64 (↑e:Int))])⟩),(3072,⟨false,1,(m+1),(fun i_1=>(if (i_1<m) then [.p (.int .i64 (T1 i_1))] else [.p (.int .i64 ((g e).2.1))]))⟩),(3040,⟨false,1,1,(fun i_1=>[.p (.int .i64 ((g e).2.1))])⟩),(1888,⟨false,1,N,(fun i_1=>(if (i_1=(g e).2.1.toNat) then [.p (.int .i64 (F1 (g e).2.1.toNat - 1))] else [.p (.int .i64 (F1 i_1))]))⟩),(1568,⟨true,2,1,(fun i_1=>[.p (.int .i64 ((g e).1)),.p (.int .i64 ((g e).2.1))])⟩),(32,⟨true,3,1,(fun i_1=>[.p (.seq true 1 N (fun i_2=>[.int .i64 (F i_2)])),.p (.seq true 1 m (fun i_2=>[.int .i64 (T i_2)])),.p (.seq true 1 m (fun i_2=>[.int .i64 (Q i_2)]))])⟩),(0,⟨true,2,1,(fun i_1=>[.p (.int .i64 (↑N:Int)),.p (.seq true 2 nb (bRw g))])⟩)] [1888,3072,3296] 1 N (fun i=>if (i=(g e).2.1.toNat) then [.p (.int .i64 (F1 (g e).2.1.toNat - 1))] else [.p (.int .i64 (F1 i))]) (fun i=>[.p (.int .i64 (if i=(g e).2.1.toNat then F1 i - 1 else F1 i))])),(NL (m+1) (m+1)),(CV [(64,⟨true,3,1,(fun i_1=>[.ar 1 1888 0 N,.ar 1 3072 0 (m+1),.ar 1 3296 0 (m+1)])⟩),(2016,⟨true,3,1,(fun i_1=>[.ar 1 1888 0 N,.ar 1 3072 0 (m+1),.ar 1 3296 0 (m+1)])⟩),(3296,⟨false,1,(m+1),(fun i_1=>(if (i_1<m) then [.p (.int .i64 (Q i_1))] else [.p (.int .i64 (↑e:Int))]))⟩),(3264,⟨false,1,1,(fun i_1=>[.p (.int .i64 (↑e:Int))])⟩),(3072,⟨false,1,(m+1),(fun i_1=>(if (i_1<m) then [.p (.int .i64 (T1 i_1))] else [.p (.int .i64 ((g e).2.1))]))⟩),(3040,⟨false,1,1,(fun i_1=>[.p (.int .i64 ((g e).2.1))])⟩),(1888,⟨false,1,N,(fun i_1=>(if (i_1=(g e).2.1.toNat) then [.p (.int .i64 (F1 (g e).2.1.toNat - 1))] else [.p (.int .i64 (F1 i_1))]))⟩),(1568,⟨true,2,1,(fun i_1=>[.p (.int .i64 ((g e).1)),.p (.int .i64 ((g e).2.1))])⟩),(32,⟨true,3,1,(fun i_1=>[.p (.seq true 1 N (fun i_2=>[.int .i64 (F i_2)])),.p (.seq true 1 m (fun i_2=>[.int .i64 (T i_2)])),.p (.seq true 1 m (fun i_2=>[.int .i64 (Q i_2)]))])⟩),(0,⟨true,2,1,(fun i_1=>[.p (.int .i64 (↑N:Int)),.p (.seq true 2 nb (bRw g))])⟩)] [1888,3072,3296] 1 (m+1) (fun i=>if (i<m) then [.p (.int .i64 (T1 i))] else [.p (.int .i64 ((g e).2.1))]) (fun i=>[.p (.int .i64 (if i<m then T1 i else (g e).2.1))])),(CV [(64,⟨true,3,1,(fun i_1=>[.ar 1 1888 0 N,.ar 1 3072 0 (m+1),.ar 1 3296 0 (m+1)])⟩),(2016,⟨true,3,1,(fun i_1=>[.ar 1 1888 0 N,.ar 1 3072 0 (m+1),.ar 1 3296 0 (m+1)])⟩),(3296,⟨false,1,(m+1),(fun i_1=>(if (i_1<m) then [.p (.int .i64 (Q i_1))] else [.p (.int .i64 (↑e:Int))]))⟩),(3264,⟨false,1,1,(fun i_1=>[.p (.int .i64 (↑e:Int))])⟩),(3072,⟨false,1,(m+1),(fun i_1=>(if (i_1<m) then [.p (.int .i64 (T1 i_1))] else [.p (.int .i64 ((g e).2.1))]))⟩),(3040,⟨false,1,1,(fun i_1=>[.p (.int .i64 ((g e).2.1))])⟩),(1888,⟨false,1,N,(fun i_1=>(if (i_1=(g e).2.1.toNat) then [.p (.int .i64 (F1 (g e).2.1.toNat - 1))] else [.p (.int .i64 (F1 i_1))]))⟩),(1568,⟨true,2,1,(fun i_1=>[.p (.int .i64 ((g e).1)),.p (.int .i64 ((g e).2.1))])⟩),(32,⟨true,3,1,(fun i_1=>[.p (.seq true 1 N (fun i_2=>[.int .i64 (F i_2)])),.p (.seq true 1 m (fun i_2=>[.int .i64 (T i_2)])),.p (.seq true 1 m (fun i_2=>[.int .i64 (Q i_2)]))])⟩),(0,⟨true,2,1,(fun i_1=>[.p (.int .i64 (↑N:Int)),.p (.seq true 2 nb (bRw g))])⟩)] [1888,3072,3296] 1 (m+1) (fun i=>if (i<m) then [.p (.int .i64 (Q i))] else [.p (.int .i64 (↑e:Int))]) (fun i=>[.p (.int .i64 (if i<m then Q i else (↑e:Int)))])),(AE N),(AE ((m+1)))] [0,0,1,2,2,3,2,4,5,6,7,8,7,7,7,9,10,11,10,10,10,12,13,12,13,12,12,14,15,12,12,16,17,12,12,12,10,18,19,20,0,21,22,0,23,0,0,0,0,24,25,26,0,23,27,0,0,0,28,29,30,31,0,0,0,32,33,34,35,36,32,33,34,37,0,38,39,40,41,0,23,0,38,39,40,41,0,23,0,0,23,0,42,43,42,44,42,44,45,46,47,48,46,49,50,46,49,51,52,53,53]):=by kernel_rfl
theorem nUz (g:Nat→T_Bar) (nb N k l:Nat) :
    zT Tryz.f138 [rg 3,rm [(2,oc (pebR N 0 (fun _=>k) (fun _=>0) (fun _=>0)) (.tup [pebO N 0 0,.p (.bool true)]))] 6,rm [(5,oc [] (.p (.bool true)))] 2,.dec false,rg 1,.head] [grG g nb N,.p (.int .i64 k),.p (.int .i64 l)] [0,32,288,160,161,162] (SRu g nb N k l 0 (fun _=>k) (fun _=>0) (fun _=>0) 0) =
    some (zf41,zD [(NT 0 1),zE 179 [(zf101 N nb g),.p (.int .i64 (↑k:Int))] [(0,⟨false,1,N,(fun i=>[.p (.int .i64 (↑k:Int))])⟩),(1,⟨false,1,0,(fun i=>[.p (.int .i64 0)])⟩),(2,⟨false,1,0,(fun i=>[.p (.int .i64 0)])⟩)] (.tup [.agg [.ar 1 0 0 N,.ar 1 1 0 0,.ar 1 2 0 0],.p (.bool true)]),((true=true)→ (AN 1)),(AG (!!true)),(((!!true)=true)→ zE 180 [.p (.int .i64 (↑k:Int)),.p (.int .i64 (↑l:Int))] [] (.p (.bool true))),(((!true)=false)→ ((!!true)=true)),((bif !true then true else !true)=false),(AI ((↑N:Int))),(AN nb),(AP nb (bRw g)),(AI ((↑k:Int))),(AI ((↑l:Int))),(AN 0),((0:Int)=(↑0:Int)),((([AV.p (PV.int IntKind.i64 (↑N:Int)),brL g nb].length):Nat)=2),(NL 1 1),((((List.map (fun v=>AV.p (absV v)) [Value.slice none 0 0,Value.slice none 0 0,Value.slice none 0 0]).length):Nat)=3),(AN N),(AN 1),(NL N N),(AA N (fun i=>[.p (.int .i64 (↑k:Int))])),(NL 0 0),(AA 0 (fun i=>[.p (.int .i64 0)]))] [0,1,0,2,3,3,4,3,5,6,7,8,9,10,11,12,12,12,13,14,15,15,7,8,9,16,15,15,16,15,15,12,17,12,12,12,12,18,19,20,18,21,22,18,21,22]):=by kernel_rfl
theorem nUl (g:Nat→T_Bar) (nb N k l m m':Nat) (F T Q F' T' Q':Nat→Int) (i:Nat) (r:Bool) :
    zM 0 [rg 5,.dec true,rm [(5,oc (pebR N m' F' T' Q') (.tup [pebO N m' 0,.p (.bool r)]))] 4,rg 3,.head] zf41 (SRu g nb N k l m F T Q i) [0,1,2,326,327,328] 1 (SRu g nb N k l m' F' T' Q' (i+1)) =
    some (zf41,zD [(NT 0 1),((decide ((↑i:Int)<(↑nb:Int)))=true),(AN 1),(NL N N),(NL m m),zE 181 [(zf97 N nb g),.p (.int .i64 (↑k:Int)),.p (.int .i64 (↑l:Int)),.agg [.p (.seq true 1 N (fun i_1=>[.int .i64 (F i_1)])),.p (.seq true 1 m (fun i_1=>[.int .i64 (T i_1)])),.p (.seq true 1 m (fun i_1=>[.int .i64 (Q i_1)]))],.p (.int .i64 (↑i:Int))] [(0,⟨false,1,N,(fun i_1=>[.p (.int .i64 (F' i_1))])⟩),(1,⟨false,1,m',(fun i_1=>[.p (.int .i64 (T' i_1))])⟩),(2,⟨false,1,m',(fun i_1=>[.p (.int .i64 (Q' i_1))])⟩)] (.tup [.agg [.ar 1 0 0 N,.ar 1 1 0 m',.ar 1 2 0 m'],.p (.bool r)]),((true=true)→ (AN 1)),(ZLo ((↑i:Int)+1)),(ZHi ((↑i:Int)+1)),(AI ((↑N:Int))),(AN nb),(AP nb (bRw g)),(AI ((↑k:Int))),(AI ((↑l:Int))),(AN 0),((((↑i:Int)+1):Int)=(↑(i+1):Int)),(AN 2),(NL 1 1),(AN 3),(AN N),(AN (m')),(AA N (fun i_1=>[.p (.int .i64 (F' i_1))])),(NL (m') (m')),(AA (m') (fun i_1=>[.p (.int .i64 (T' i_1))])),(AA (m') (fun i_1=>[.p (.int .i64 (Q' i_1))]))] [0,1,0,0,2,3,2,4,2,4,5,0,6,7,8,9,10,11,12,13,14,14,14,15,16,17,17,9,10,11,18,17,17,18,17,17,14,19,14,20,14,20,2,3,21,2,22,23,2,22,24]):=by kernel_rfl
theorem nUe (g:Nat→T_Bar) (nb N k l m:Nat) (F T Q:Nat→Int) (i:Nat) :
    zP Tryz.f138 0 [rg 5,.dec false,rg 3] zf41 (SRu g nb N k l m F T Q i) [3,4,5] 1 (pebR N m F T Q) (.tup [pebO N m 0,.p (.bool true)]) =
    some (zD [(NT 0 1),((decide ((↑i:Int)<(↑nb:Int)))=false),((true=true)→ (AN 1)),(AN 0),(AN N),(AN m),(true=true),(AN 1),(NL N N),(AA N (fun i_1=>[.p (.int .i64 (F i_1))])),(NL m m),(AA m (fun i_1=>[.p (.int .i64 (T i_1))])),(AA m (fun i_1=>[.p (.int .i64 (Q i_1))])),(AE N),(AE m)] [0,1,0,0,2,0,3,4,3,5,3,5,6,7,8,9,7,10,11,7,10,12,13,14,14]):=by kernel_rfl
theorem con_IsRange_i (k l:Nat) (hk:1≤k∧k≤3) (hl:l+1≤2*k):zE 177 [.p (.int .i64 k),.p (.int .i64 l)] [] (.p (.bool true)):=by
  have h1:=con_within k 1 3
  rw [show inB k 1 3=true by simp [inB];omega] at h1
  have h2:=con_within l 0 (2*(k:Int) - 1)
  rw [show inB l 0 (2*(k:Int) - 1)=true by simp [inB];omega] at h2
  refine csZ Tryz.func177 (fun c hc=>?_)
  refine pkD Tryz.func177 hc (nRi k l) ?_
  and_intros
  all_goals (first | exact zI | (exact h1) | (intros;exact h2) | (intros;omega) | (simp;done))
theorem con_IsRange_s (k l:Nat) (hk:1≤k∧k≤3) (hl:l+1≤2*k):zE 180 [.p (.int .i64 k),.p (.int .i64 l)] [] (.p (.bool true)):=by
  have h1:=con_l1In k 1 3
  rw [show inB k 1 3=true by simp [inB];omega] at h1
  refine csZ Tryz.func180 (fun c hc=>?_)
  refine pkD Tryz.func180 hc (nRs k l) ?_
  and_intros
  all_goals (first | exact zI | (exact h1) | (intros;omega) | (simp;omega))
def NonN (Q:Nat→Int) (m:Nat):Prop:=∀ j,j<m→0≤Q j
theorem con_RunPebbles_i {N nb:Nat} {g:Nat→T_Bar} (hg:isGraphF ((N:Int),(nb,g),())=true) (k l:Nat) (hk:1≤k∧k≤3) (hl:l+1≤2*k) :
    ∃ m F T Q,zE 137 [grG g nb N,.p (.int .i64 k),.p (.int .i64 l)] (pebR N m F T Q) (.tup [pebO N m 0,.p (.bool true)])∧m≤24∧NonN Q m∧qL Q m=accI N k l g nb:=by
  obtain ⟨hN,hnb,hok⟩:=graph_in hg
  have hsm:smS s_Graph ((N:Int),(nb,g),()):=⟨by simp [smS,smL],⟨by show nb≤1048576;omega,fun i hi=>by simp [smS,smL]⟩,True.intro⟩
  have hcg:=con_IsGraph_i ((N:Int),(nb,g),()) hsm
  rw [hg] at hcg
  have hr:=con_IsRange_i k l hk hl
  obtain ⟨m,F,T,Q,hc1,hp,hq⟩:=con_play (N:=N) (k:=k) (l:=l) hok (by omega) (by omega) (by omega) (by omega)
  have hm:m≤24:=by
    have:=accI_len N k l g nb
    rw [← hq,qL_length] at this;omega
  refine ⟨m,F,T,Q,?_,hm,fun j hj=>(hp.q j hj).1,hq⟩
  refine csZ Tryz.func137 (fun c hc=>?_)
  refine pkD Tryz.func137 hc (nUi g nb N k l m F T Q) ?_
  and_intros
  all_goals (first | exact zH | (exact hcg) | (intros;exact hr) | (exact hc1) | (simp;done) | (intro i hi;simp [All]))
theorem con_RankOf_i {N nb:Nat} {g:Nat→T_Bar} (hg:isGraphF ((N:Int),(nb,g),())=true) (k l:Nat) (hk:1≤k∧k≤3) (hl:l+1≤2*k) :
    zE 62 [grG g nb N,.p (.int .i64 k),.p (.int .i64 l)] [] (.p (.int .i64 ((accI N k l g nb).length:Nat))):=by
  obtain ⟨m,F,T,Q,hrun,hm,hn,hq⟩:=con_RunPebbles_i hg k l hk hl
  rw [← hq,qL_length]
  refine csZ Tryz.func62 (fun c hc=>?_)
  refine pkZ Tryz.func62 hc (nKi g nb N k l m F T Q) ?_
  and_intros
  all_goals (first | exact zI | (exact hrun) | (simp;done) | (intro i hi;simp [All]))
theorem con_l4Tail (N m:Nat) (F T Q:Nat→Int) (x:Int) (hm:m≤1048576):zE 221 [pebD N m F T Q,.p (.int .i64 x)] [] (.p (.int .i64 (tcI T m x))):=by
  have hle:∀ i,0≤tcI T i x∧tcI T i x≤i:=by
    intro i
    induction i with
    | zero=>simp [tcI]
    | succ i ih=>simp only [tcI];split<;>omega
  refine csZ Tryz.func221 (fun c hc=>?_)
  have lp:∀ d i,i+d=m→zR c 221 zf68 (ST0 N m F T Q x i) (Post c [] (.p (.int .i64 (tcI T m x)))):=by
    intro d
    induction d with
    | zero =>
      intro i hi
      have hi':i=m:=by omega
      have hd:decide ((i:Int)<(m:Int))=false:=by simp;omega
      rw [show tcI T m x=tcI T i x by rw [hi']]
      refine pkZ Tryz.func221 hc (nTe N m F T Q x i) ?_
      and_intros
      all_goals (first | exact zN | (exact hd) | (simp;done))
    | succ d ih =>
      intro i hi
      have hd:decide ((i:Int)<(m:Int))=true:=by simp;omega
      have hl:=hle i
      by_cases h:T i=x
      · have hb:(T i==x)=true:=by simp [h]
        refine pcD hc (nTt N m F T Q x i) ?_ (ih (i+1) (by omega))
        and_intros
        all_goals (first | exact zN | (exact hb) | (simp only [tcI,h,if_true];done) | (simp only [tcI,h,if_true];omega) | (intro j hj;simp [All]))
      · have hb:(T i==x)=false:=by simp [h]
        refine pcD hc (nTf N m F T Q x i) ?_ (ih (i+1) (by omega))
        and_intros
        all_goals (first | exact zN | (exact hb) | (simp only [tcI,h,if_false];omega) | (intro j hj;simp [All]))
  refine pcD hc (nTz N m F T Q x) ?_ (lp m 0 (by omega))
  and_intros
  all_goals (first | exact zN | (intro j hj;simp [All]))
def Asc (Q:Nat→Int) (m:Nat):Prop:=∀ j,j+1<m→Q j<Q (j+1)
theorem badI_f {N k nb m:Nat} {g:Nat→T_Bar} {F T Q:Nat→Int} (hp:PInv N k nb m g F T Q) (ha:Asc Q m) (i:Nat) (hi:i<m):badI g nb T Q i=false:=by
  have h1:=hp.q i hi
  have h2:=hp.t i hi
  have a1:decide (Q i<0)=false:=by simp;omega
  have a2:decide (Q i≥(nb:Int))=false:=by simp;omega
  have a3:(bif decide ((i:Int)>0) then decide (Q ((i:Int) - 1).toNat≥Q i) else false)=false:=by
    by_cases h:i=0
    · subst h;rfl
    · have:=ha (i - 1) (by omega)
      have e:((i:Int) - 1).toNat=i - 1:=by omega
      rw [show i - 1+1=i by omega] at this
      rw [e]
      have h4:decide (Q (i - 1)≥Q i)=false:=by simp;omega
      rw [h4]
      cases decide ((i:Int)>0)<;>rfl
  have a4:(bif T i != (g (Q i).toNat).1 then T i != (g (Q i).toNat).2.1 else false)=false:=by
    rcases h2 with e | e
    · rw [show (T i != (g (Q i).toNat).1)=false by simp [e]];rfl
    · rw [show (T i != (g (Q i).toNat).2.1)=false by simp [e]]
      cases (T i != (g (Q i).toNat).1)<;>rfl
  unfold badI
  rw [a1,a2,a3,a4]
  rfl
theorem con_IsPebbles {N k nb m:Nat} {g:Nat→T_Bar} {F T Q:Nat→Int} (hp:PInv N k nb m g F T Q) (ha:Asc Q m) (hg:isGraphF ((N:Int),(nb,g),())=true) (hk:1≤k∧k≤3) (hm:m≤1048576) :
    zE 206 [grG g nb N,.p (.int .i64 k),pebD N m F T Q] [] (.p (.bool true)):=by
  obtain ⟨hN,hnb,hok⟩:=graph_in hg
  have hsm:smS s_Graph ((N:Int),(nb,g),()):=⟨by simp [smS,smL],⟨by show nb≤1048576;omega,fun i hi=>by simp [smS,smL]⟩,True.intro⟩
  have hcg:=con_IsGraph_s ((N:Int),(nb,g),()) hsm
  rw [hg] at hcg
  have h1:=con_l1In k 1 3
  rw [show inB k 1 3=true by simp [inB];omega] at h1
  refine csZ Tryz.func206 (fun c hc=>?_)
  have lp1:∀ d i,i+d=N→zR c 206 zf40 (SI1 g nb N k m F T Q i) (Post c [] (.p (.bool true))):=by
    intro d
    induction d with
    | zero =>
      intro i hi
      have hd:decide ((i:Int)<(N:Int))=false:=by simp;omega
      refine pkZ Tryz.func206 hc (nJe g nb N k m F T Q i) ?_
      and_intros
      all_goals (first | exact zN | (exact hd) | (simp;done))
    | succ d ih =>
      intro i hi
      have hd:decide ((i:Int)<(N:Int))=true:=by simp;omega
      have ht:=con_l4Tail N m F T Q i hm
      have hf0:=hp.f0 i (by omega)
      have hsum:=hp.sum i (by omega)
      have htn:=tcI_nonneg T i m
      have hb:(bif decide (F i<0) then true else F i+tcI T m i != (k:Int))=false:=by
        have h4:decide (F i<0)=false:=by simp;omega
        rw [h4]
        simp [hsum]
      refine pcD hc (nI1 g nb N k m F T Q i) ?_ (ih (i+1) (by omega))
      and_intros
      all_goals (first | exact zH | (intros;exact ht) | (exact hb) | (intros;omega) | (intro j hj;simp [All]))
  have lp0:∀ d i,i+d=m→zR c 206 zf69 (SI0 g nb N k m F T Q i) (Post c [] (.p (.bool true))):=by
    intro d
    induction d with
    | zero =>
      intro i hi
      have hd:decide ((i:Int)<(m:Int))=false:=by simp;omega
      refine pcD hc (nI01 g nb N k m F T Q i) ?_ (lp1 N 0 (by omega))
      and_intros
      all_goals (first | exact zN | (exact hd) | (intro j hj;simp [All]))
    | succ d ih =>
      intro i hi
      have him:i<m:=by omega
      have hd:decide ((i:Int)<(m:Int))=true:=by simp;omega
      have hbad:=badI_f hp ha i him
      have hq:=hp.q i him
      refine pcD hc (nI0 g nb N k m F T Q i) ?_ (ih (i+1) (by omega))
      and_intros
      all_goals (first | exact zH | (exact hbad) | (intros;omega) | (intro h;have:=idx_lt h him;omega) | (intro h;show (0:Int)≤Q i∧Q i<nb;omega) | (intro j hj;simp [All]))
  refine pcD hc (nJz g nb N k m F T Q) ?_ (lp0 m 0 (by omega))
  and_intros
  all_goals (first | exact zH | (exact hcg) | (intros;exact h1) | (simp;done) | (intro j hj;simp [All]))
theorem con_PlaceBar {N k nb m l e:Nat} {g:Nat→T_Bar} {F T Q:Nat→Int} (hp:PInv N k nb m g F T Q) (ha:Asc Q m) (hlt:∀ j,j<m→Q j<e) (hg:isGraphF ((N:Int),(nb,g),())=true) (hk:1≤k∧k≤3) (hl:l+1≤2*k) (hm:m≤1000) (he:e<nb)
    (hsp:Mat.Sparse N k l (plL g Q m)) :
    (∃ F' T',zE 181 [grG g nb N,.p (.int .i64 k),.p (.int .i64 l),pebD N m F T Q,.p (.int .i64 (e:Nat))] (pebR N (m+1) F' T' (fun s=>if s<m then Q s else e)) (.tup [pebO N (m+1) 0,.p (.bool true)]) ∧
      PInv N k nb (m+1) g F' T' (fun s=>if s<m then Q s else e)∧Mat.Sparse N k l (plL g Q m++[brN (g e)])) ∨
    (zE 181 [grG g nb N,.p (.int .i64 k),.p (.int .i64 l),pebD N m F T Q,.p (.int .i64 (e:Nat))] (pebR N m F T Q) (.tup [pebO N m 0,.p (.bool false)])∧¬ Mat.Sparse N k l (plL g Q m++[brN (g e)])):=by
  obtain ⟨hN,hnb,hok⟩:=graph_in hg
  have hbar:=hok e he
  have hip:=con_IsPebbles hp ha hg hk (by omega)
  have hir:=con_IsRange_s k l hk hl
  have hcc:=con_l4Copy N m F T Q (by omega) (by omega)
  have hb:(bif bif bif bif !true then true else !true then true else decide ((e:Int)<0) then true else decide ((e:Int)≥(nb:Int)) then true else bif decide ((m:Int)>0) then decide (Q ((m:Int) - 1).toNat≥(e:Int)) else false)=false:=by
    have b1:decide ((e:Int)<0)=false:=decide_eq_false (by omega)
    have b2:decide ((e:Int)≥(nb:Int))=false:=by simp;omega
    have b3:(bif decide ((m:Int)>0) then decide (Q ((m:Int) - 1).toNat≥(e:Int)) else false)=false:=by
      by_cases h:m=0
      · subst h;rfl
      · have:=hlt ((m:Int) - 1).toNat (by omega)
        have h4:decide (Q ((m:Int) - 1).toNat≥(e:Int))=false:=decide_eq_false (by omega)
        rw [h4]
        cases decide ((m:Int)>0)<;>rfl
    rw [b1,b2,b3];rfl
  obtain ⟨F1,T1,r,hc1,h1,h2,h3⟩:=con_l4Gather (l:=l) (a:=(g e).1) (b:=(g e).2.1) hp (by omega) (by omega) (by omega) (by omega) (by omega) (by omega) (by omega)
  have hlA:=h1.le (v:=(g e).1.toNat) (by omega)
  have hlB:=h1.le (v:=(g e).2.1.toNat) (by omega)
  cases r with
  | false =>
    right
    refine ⟨?_,h3 rfl⟩
    refine csZ Tryz.func181 (fun c hc=>?_)
    refine pkD Tryz.func181 hc (nPf g nb N k l m e F T Q F1 T1) ?_
    and_intros
    all_goals (first | exact zH | (exact hip) | (intros;exact hir) | (exact hb) | (exact hc1) | (exact hcc) | (simp;done) | (intro h;have:=idx_lt h (Nat.lt_succ_self m);omega) | (intro i hi;simp [All]))
  | true =>
    left
    have hw:=h2 rfl
    have hacc:Mat.Sparse N k l (plL g Q m++[brN (g e)]):=by
      have:=(h1.game l).accept (by rw [barsOf_gm];exact hsp) (g e).1.toNat (g e).2.1.toNat ⟨by show (g e).1.toNat≠(g e).2.1.toNat;omega,by show (g e).1.toNat<N;omega,by show (g e).2.1.toNat<N;omega⟩
        (by show l+1≤(F1 (g e).1.toNat).toNat+(F1 (g e).2.1.toNat).toNat;omega)
      rw [barsOf_gm] at this
      exact this
    by_cases hz:F1 (g e).1.toNat=0
    · have hzb:(F1 (g e).1.toNat==0)=true:=by simp [hz]
      refine ⟨_,_,?_,h1.placed e he (g e).2.1 (.inr rfl) (by omega),hacc⟩
      refine csZ Tryz.func181 (fun c hc=>?_)
      refine pkD Tryz.func181 hc (nPb g nb N k l m e F T Q F1 T1) ?_
      and_intros
      all_goals (first | exact zH | (exact hip) | (intros;exact hir) | (exact hb) | (exact hc1) | (exact hzb) | (simp;done) | (intro h;have:=idx_lt h (Nat.lt_succ_self m);omega) | (intro i hi;simp [All];done) | (intro i hi;by_cases h:i<m<;>simp [h,cvtL,cvt,tg,tru,All];done) | (intro i hi;by_cases h:i=(g e).2.1.toNat<;>simp [h,cvtL,cvt,tg,tru,All]))
    · have hzb:(F1 (g e).1.toNat==0)=false:=by simp [hz]
      refine ⟨_,_,?_,h1.placed e he (g e).1 (.inl rfl) (by omega),hacc⟩
      refine csZ Tryz.func181 (fun c hc=>?_)
      refine pkD Tryz.func181 hc (nPa g nb N k l m e F T Q F1 T1) ?_
      and_intros
      all_goals (first | exact zH | (exact hip) | (intros;exact hir) | (exact hb) | (exact hc1) | (exact hzb) | (simp;done) | (intro h;have:=idx_lt h (Nat.lt_succ_self m);omega) | (intro i hi;simp [All];done) | (intro i hi;by_cases h:i<m<;>simp [h,cvtL,cvt,tg,tru,All];done) | (intro i hi;by_cases h:i=(g e).1.toNat<;>simp [h,cvtL,cvt,tg,tru,All]))
theorem con_RunPebbles_s {N nb:Nat} {g:Nat→T_Bar} (hg:isGraphF ((N:Int),(nb,g),())=true) (k l:Nat) (hk:1≤k∧k≤3) (hl:l+1≤2*k) :
    ∃ m F T Q,zE 138 [grG g nb N,.p (.int .i64 k),.p (.int .i64 l)] (pebR N m F T Q) (.tup [pebO N m 0,.p (.bool true)])∧m≤24∧NonN Q m∧qL Q m=accI N k l g nb:=by
  obtain ⟨hN,hnb,hok⟩:=graph_in hg
  have hr:=con_IsRange_s k l hk hl
  have hn:=con_NewPebbles (nb:=nb) (g:=g) (N:=N) (k:=k) (by omega) hk hg (by omega)
  have lp:∀ d i m F T Q,i+d=nb→PInv N k nb m g F T Q→Asc Q m→(∀ j,j<m→Q j<(i:Nat))→qL Q m=accI N k l g i →
      ∃ m' F' T' Q',(∀ c,c.n=0→zR c 138 zf41 (SRu g nb N k l m F T Q i) (Post c (pebR N m' F' T' Q') (.tup [pebO N m' 0,.p (.bool true)])))∧NonN Q' m'∧qL Q' m'=accI N k l g nb:=by
    intro d
    induction d with
    | zero =>
      intro i m F T Q hi hp ha hlt hq
      have hi':i=nb:=by omega
      refine ⟨m,F,T,Q,fun c hc=>?_,fun j hj=>(hp.q j hj).1,by rw [hq,hi']⟩
      have hd:decide ((i:Int)<(nb:Int))=false:=by simp;omega
      refine pkD Tryz.func138 hc (nUe g nb N k l m F T Q i) ?_
      and_intros
      all_goals (first | exact zI | (exact hd) | (intro j hj;simp [All]))
    | succ d ih =>
      intro i m F T Q hi hp ha hlt hq
      have hd:decide ((i:Int)<(nb:Int))=true:=by simp;omega
      have hm:m≤24:=by
        have:=accI_len N k l g i
        rw [← hq,qL_length] at this;omega
      have hsp:Mat.Sparse N k l (plL g Q m):=by rw [plL_qL,hq];exact accI_sparse N k l g i
      rcases con_PlaceBar (e:=i) hp ha hlt hg hk hl (by omega) (by omega) hsp with ⟨F1,T1,hc1,hp1,hs1⟩ | ⟨hc1,hs1⟩
      · obtain ⟨m',F',T',Q',hrun,h2⟩:=ih (i+1) (m+1) F1 T1 _ (by omega) hp1 (fun j hj=>by
          show (if j<m then Q j else (i:Int))<(if j+1<m then Q (j+1) else (i:Int))
          rw [if_pos (show j<m by omega)]
          by_cases h:j+1<m
          · rw [if_pos h];exact ha j h
          · rw [if_neg h];exact hlt j (by omega)) (fun j hj=>by
          show (if j<m then Q j else (i:Int))<((i+1:Nat):Int)
          by_cases h:j<m
          · rw [if_pos h];have:=hlt j h;omega
          · rw [if_neg h];omega) (by
          simp only [accI]
          rw [← hq,← plL_qL,if_pos hs1]
          simp only [qL,Nat.lt_irrefl,if_false,Int.toNat_natCast]
          rw [qL_congr (Q':=Q) m (fun j hj=>by simp only [hj,if_true])])
        refine ⟨m',F',T',Q',fun c hc=>?_,h2⟩
        refine pcD hc (nUl g nb N k l m (m+1) F T Q F1 T1 (fun s=>if s<m then Q s else i) i true) ?_ (hrun c hc)
        and_intros
        all_goals (first | exact zI | (exact hd) | (exact hc1) | (intro j hj;simp [All]))
      · obtain ⟨m',F',T',Q',hrun,h2⟩:=ih (i+1) m F T Q (by omega) hp ha (fun j hj=>by have:=hlt j hj;omega) (by
          simp only [accI]
          rw [← hq,← plL_qL,if_neg hs1])
        refine ⟨m',F',T',Q',fun c hc=>?_,h2⟩
        refine pcD hc (nUl g nb N k l m m F T Q F T Q i false) ?_ (hrun c hc)
        and_intros
        all_goals (first | exact zI | (exact hd) | (exact hc1) | (intro j hj;simp [All]))
  obtain ⟨m,F,T,Q,hrun,hnn,hq⟩:=lp nb 0 0 _ _ _ (by omega) (PInv.start hok) (fun j hj=>by omega) (fun j hj=>absurd hj (Nat.not_lt_zero _)) rfl
  have hm:m≤24:=by
    have:=accI_len N k l g nb
    rw [← hq,qL_length] at this;omega
  refine ⟨m,F,T,Q,?_,hm,hnn,hq⟩
  refine csZ Tryz.func138 (fun c hc=>?_)
  refine pcD hc (nUz g nb N k l) ?_ (hrun c hc)
  and_intros
  all_goals (first | exact zH | (exact hn) | (intros;exact hr) | (simp;done) | (intro j hj;simp [All]))
theorem con_RankOf_s {N nb:Nat} {g:Nat→T_Bar} (hg:isGraphF ((N:Int),(nb,g),())=true) (k l:Nat) (hk:1≤k∧k≤3) (hl:l+1≤2*k) :
    zE 63 [grG g nb N,.p (.int .i64 k),.p (.int .i64 l)] [] (.p (.int .i64 ((accI N k l g nb).length:Nat))):=by
  obtain ⟨m,F,T,Q,hrun,hm,hn,hq⟩:=con_RunPebbles_s hg k l hk hl
  rw [← hq,qL_length]
  refine csZ Tryz.func63 (fun c hc=>?_)
  refine pkZ Tryz.func63 hc (nKs g nb N k l m F T Q) ?_
  and_intros
  all_goals (first | exact zI | (exact hrun) | (simp;done) | (intro i hi;simp [All]))
def z2:Ob:=⟨true,2,1,fun _=>[.p (.int .i64 0),.p .nil]⟩
def gbx (n:Int) (j c:Nat):Ob:=⟨true,2,1,fun _=>[.p (.int .i64 n),.ar 2 j 0 c]⟩
def gsOb (n:Int) (c:Nat) (G:Nat→T_BarS):Ob:=⟨false,2,c,fun i=>[.p (.int .i64 n),.p (.seq false 2 (G i).1 (fun s=>[.int .i64 ((G i).2 s).1,.int .i64 ((G i).2 s).2.1]))]⟩
def snocB (c:Nat) (G:Nat→T_BarS) (x:T_BarS) (i:Nat):T_BarS:=(if i<c then (G i).1 else x.1,fun s=>(if i<c then ((G i).2 s).1 else (x.2 s).1,if i<c then ((G i).2 s).2.1 else (x.2 s).2.1,()))
def maxI (n:Int):Int:=if 2*n - 3>0 then 2*n - 3 else 0
def btE (w i:Int):Bool:=bitI .and .i64 (shrI .i64 w i) 1==1
def gaI (n:Int) (c:Nat) (h:Nat→T_Bar):AV:=.agg [.p (.int .i64 n),brL h c]
def SGs (n a c:Nat) (h:Nat→T_Bar):St:=⟨[.p (.int .i64 n),.p .any,.pt 2 0 0 0,.pt 2 1 0 0,.p (.int .i64 a)]++List.replicate 28 anyA,[(0,z2),(1,gbx n 2 c),(2,brOb c h)],3⟩
def SGs1 (n a b c:Nat) (h:Nat→T_Bar):St:=⟨[.p (.int .i64 n),.p .any,.pt 2 0 0 0,.pt 2 1 0 0,.p (.int .i64 a),.p (.int .i64 b)]++List.replicate 27 anyA,[(0,z2),(1,gbx n 2 c),(2,brOb c h)],3⟩
def SGi (n a c:Nat) (h:Nat→T_Bar):St:=⟨[.p (.int .i64 n),.p .any,.pt 2 0 0 0,.pt 2 1 0 0]++List.replicate 8 anyA++[.p (.int .i64 n),.p (.int .i64 a)]++List.replicate 19 anyA,[(0,z2),(1,gbx n 2 c),(2,brOb c h)],3⟩
def SGi1 (n a b c:Nat) (h:Nat→T_Bar):St:=⟨[.p (.int .i64 n),.p .any,.pt 2 0 0 0,.pt 2 1 0 0,.p (.int .i64 a),.p (.int .i64 b)]++List.replicate 6 anyA++[.p (.int .i64 n),.p (.int .i64 a)]++List.replicate 19 anyA,[(0,z2),(1,gbx n 2 c),(2,brOb c h)],3⟩
def SSo (w M i c:Nat) (f:Nat→Int):St:=⟨[.p (.int .i64 w),.p (.int .i64 M),.p .any,.p .any,.p .any,.ar 1 0 0 c,.p .any,.p .any,.p (.int .i64 M),.p (.int .i64 i)]++List.replicate 13 anyA,[(0,iOb c f)],1⟩
def SOb (n:Int) (M:Nat) (A:Nat→T_Bar) (S:T_IntS) (i c:Nat) (h:Nat→T_Bar):St :=
  ⟨[gaI n M A,inL S,.pt 2 0 0 0,.p .any,.pt 2 1 0 0,.pt 2 2 0 0]++List.replicate 6 anyA++[brL A M,.p (.int .i64 M),.p (.int .i64 i)]++List.replicate 15 anyA,[(0,⟨true,2,1,fun _=>[.p (.int .i64 n),brL A M]⟩),(1,z2),(2,gbx n 3 c),(3,brOb c h)],4⟩
def SRgi (n:Nat) (M:Nat) (A:Nat→T_Bar) (w c:Nat) (G:Nat→T_BarS):St :=
  ⟨[.p (.int .i64 n),.p .any,.p .any,.p .any,.ar 2 0 0 c,.pt 2 1 0 0]++List.replicate 13 anyA++[.p (.int .i64 (shlI .i64 1 M)),.p (.int .i64 w)]++List.replicate 25 anyA,[(0,gsOb n c G),(1,gbx n 2 M),(2,brOb M A)],3⟩
def SRgs (n:Nat) (tg':Int) (M:Nat) (A:Nat→T_Bar) (w c:Nat) (G:Nat→T_BarS):St :=
  ⟨[brL A M,.p (.int .i64 n),.p (.int .i64 tg'),.p .any,.p .any,.p .any,.p .any,.ar 2 0 0 c,.p (.int .i64 w)]++List.replicate 47 anyA,[(0,gsOb n c G)],1⟩
def SRn1 (n:Nat) (tg':Int) (M:Nat) (A:Nat→T_Bar) (w c:Nat) (G:Nat→T_BarS) (i k:Nat) (h:Nat→T_Bar):St :=
  ⟨[brL A M,.p (.int .i64 n),.p (.int .i64 tg'),.p .any,.p .any,.p .any,.p .any,.ar 2 0 0 c,.p (.int .i64 w),.pt 2 1 0 0,.p (.int .i64 i)]++List.replicate 45 anyA,[(0,gsOb n c G),(1,gbx n 2 k),(2,brOb k h)],3⟩
theorem eFy_s (v:T_Graph) :
    zS Tryz.f211 [rg 2,rm [(1,oc [] (.p (.bool false)))] 1,.dec true,rg 1] [graphA v] [] [] (.p (.int .i64 (-1))) =
    some [(NT 0 1),zE 134 [(zf96 v)] [] (.p (.bool false)),((!false)=true),(AI ((-1)))]:=by kernel_rfl
theorem eFz_s (g:Nat→T_Bar) (nb N r:Nat) :
    zS Tryz.f211 [rg 2,rm [(1,oc [] (.p (.bool true)))] 1,.dec false,rm [(6,oc [] (.p (.int .i64 r)))] 2] [grG g nb N] [] [] (.p (.int .i64 (maxI N - r))) =
    some [(NT 0 1),zE 134 [(zf101 N nb g)] [] (.p (.bool true)),((!true)=false),(NT 0 1),(ZLo (2*(↑N:Int))),(ZHi (2*(↑N:Int))),(ZLo (2*(↑N:Int) - 3)),(ZHi (2*(↑N:Int) - 3)),(NT 0 1),zE 63 [(zf101 N nb g),.p (.int .i64 2),.p (.int .i64 3)] [] (.p (.int .i64 (↑r:Int))),(ZLo ((if true=true then if 2*(↑N:Int) - 3>0 then 2*(↑N:Int) - 3 else 0 else if 2*(↑N:Int) - 3<0 then 2*(↑N:Int) - 3 else 0) - (↑r:Int))),(ZHi ((if true=true then if 2*(↑N:Int) - 3>0 then 2*(↑N:Int) - 3 else 0 else if 2*(↑N:Int) - 3<0 then 2*(↑N:Int) - 3 else 0) - (↑r:Int))),((((if true=true then if 2*(↑N:Int) - 3>0 then 2*(↑N:Int) - 3 else 0 else if 2*(↑N:Int) - 3<0 then 2*(↑N:Int) - 3 else 0) - (↑r:Int)):Int)=(maxI (↑N:Int) - (↑r:Int)))]:=by kernel_rfl
theorem eFy_i (v:T_Graph) :
    zS Tryz.f170 [rg 2,rm [(1,oc [] (.p (.bool false)))] 1,.dec true,rg 1] [graphA v] [] [] (.p (.int .i64 (-1))) =
    some [(NT 0 1),zE 130 [(zf96 v)] [] (.p (.bool false)),((!false)=true),(AI ((-1)))]:=by kernel_rfl
theorem eFz_i (g:Nat→T_Bar) (nb N r:Nat) :
    zS Tryz.f170 [rg 2,rm [(1,oc [] (.p (.bool true)))] 1,.dec false,rm [(6,oc [] (.p (.int .i64 r)))] 2] [grG g nb N] [] [] (.p (.int .i64 (maxI N - r))) =
    some [(NT 0 1),zE 130 [(zf101 N nb g)] [] (.p (.bool true)),((!true)=false),(NT 0 1),(ZLo (2*(↑N:Int))),(ZHi (2*(↑N:Int))),(ZLo (2*(↑N:Int) - 3)),(ZHi (2*(↑N:Int) - 3)),(NT 0 1),zE 62 [(zf101 N nb g),.p (.int .i64 2),.p (.int .i64 3)] [] (.p (.int .i64 (↑r:Int))),(ZLo ((if true=true then if 2*(↑N:Int) - 3>0 then 2*(↑N:Int) - 3 else 0 else if 2*(↑N:Int) - 3<0 then 2*(↑N:Int) - 3 else 0) - (↑r:Int))),(ZHi ((if true=true then if 2*(↑N:Int) - 3>0 then 2*(↑N:Int) - 3 else 0 else if 2*(↑N:Int) - 3<0 then 2*(↑N:Int) - 3 else 0) - (↑r:Int))),((((if true=true then if 2*(↑N:Int) - 3>0 then 2*(↑N:Int) - 3 else 0 else if 2*(↑N:Int) - 3<0 then 2*(↑N:Int) - 3 else 0) - (↑r:Int)):Int)=(maxI (↑N:Int) - (↑r:Int)))]:=by kernel_rfl
theorem eR_s (v:T_Graph) (x:Int) :
    zS Tryz.f184 [rg 2,rm [(1,oc [] (.p (.int .i64 x)))] 2] [graphA v] [] [] (.p (.bool (x==0))) =
    some [(NT 0 1),zE 211 [(zf96 v)] [] (.p (.int .i64 x)),((x==0)=(x==0))]:=by kernel_rfl
theorem eR_i (v:T_Graph) (x:Int) :
    zS Tryz.f127 [rg 2,rm [(1,oc [] (.p (.int .i64 x)))] 2] [graphA v] [] [] (.p (.bool (x==0))) =
    some [(NT 0 1),zE 170 [(zf96 v)] [] (.p (.int .i64 x)),((x==0)=(x==0))]:=by kernel_rfl
theorem eM_s (v:T_Graph) (b:Bool) (r:Nat) :
    zS Tryz.f168 [rg 2,rm [(1,oc [] (.p (.bool b))),(5,oc [] (.p (.int .i64 r)))] 3] [graphA v] [] [] (.p (.bool (bif b then (v.2.1.1:Int)==(r:Int) else false))) =
    some (zD [(NT 0 1),zE 184 [(zf96 v)] [] (.p (.bool b)),(AG b),((b=true)→(NT 0 1)),((b=true)→ zE 63 [(zf96 v),.p (.int .i64 2),.p (.int .i64 3)] [] (.p (.int .i64 (↑r:Int)))),((bif b then (↑v.2.1.1:Int)==(↑r:Int) else false)=(bif b then (↑v.2.1.1:Int)==(↑r:Int) else false))] [0,1,2,3,2,3,2,4,2,2,2,5]):=by kernel_rfl
theorem eM_i (v:T_Graph) (b:Bool) (r:Nat) :
    zS Tryz.f58 [rg 2,rm [(1,oc [] (.p (.bool b))),(2,oc [] (.p (.int .i64 r)))] 6] [graphA v] [] [] (.p (.bool (bif b then (r:Int)==(v.2.1.1:Int) else false))) =
    some (zD [(NT 0 1),zE 127 [(zf96 v)] [] (.p (.bool b)),((b=true)→(NT 0 1)),(AG b),((b=true)→ zE 62 [(zf96 v),.p (.int .i64 2),.p (.int .i64 3)] [] (.p (.int .i64 (↑r:Int)))),((bif b then (↑r:Int)==(↑v.2.1.1:Int) else false)=(bif b then (↑r:Int)==(↑v.2.1.1:Int) else false))] [0,1,2,3,4,3,2,3,3,3,3,5]):=by kernel_rfl
theorem eGs0 (n:Nat) :
    zT Tryz.f123 [rg 1,rg 4,rm [(1,oc [] (.p (.bool true)))] 1,.dec false,rg 1,.head] [.p (.int .i64 n)] [0,96] (SGs n 0 0 (fun _=>(0,0,()))) =
    some (zf42,zD [(NT 0 1),((true=true)→ (AN 1)),zE 121 [.p (.int .i64 (↑n:Int)),.p (.int .i64 1),.p (.int .i64 7)] [] (.p (.bool true)),((!true)=false),(AI ((↑n:Int))),(AN 0),((0:Int)=(↑0:Int)),((((List.map (fun v=>AV.p (absV v)) [Value.int IntKind.i64 0,Value.slice none 0 0]).length):Nat)=2),(NL 1 1),(AI 0)] [0,1,2,3,4,5,5,6,7,8,8,9,7,8,8,4,5,5]):=by kernel_rfl
theorem eGs1 (n a c:Nat) (h:Nat→T_Bar) :
    zM 0 [rg 3,.dec true,rg 3,.head] zf42 (SGs n a c h) [0,1,2] 1 (SGs1 n a (a+1) c h) =
    some (zf15,zD [((decide ((↑a:Int)<(↑n:Int)))=true),(ZLo ((↑a:Int)+1)),(ZHi ((↑a:Int)+1)),(AI ((↑n:Int))),(AN 0),(AI ((↑a:Int))),((((↑a:Int)+1):Int)=(↑(a+1):Int)),(AN 2),(NL 1 1),(AI 0),(AN c),(NL c c),(AA c (fun i=>[.p (.int .i64 ((h i).1)),.p (.int .i64 ((h i).2.1))]))] [0,1,2,3,4,4,5,6,7,8,8,9,7,8,8,3,4,10,7,11,12]):=by kernel_rfl
theorem eGse (n a c:Nat) (h:Nat→T_Bar) :
    zP Tryz.f123 0 [rg 3,.dec false,rg 2] zf42 (SGs n a c h) [2] 1 [(0,brOb c h)] (.agg [.p (.int .i64 n),.ar 2 0 0 c]) =
    some [((decide ((↑a:Int)<(↑n:Int)))=false),(NT 0 1),(NT 0 1),((true=true)→ (AN 1)),(NT 0 1),(AI ((↑n:Int))),(AN 0),(AN c),(AN 2),(NL c c),(AA c (fun i=>[.p (.int .i64 ((h i).1)),.p (.int .i64 ((h i).2.1))])),(AE c)]:=by kernel_rfl
theorem eGs2 (n a b c:Nat) (h:Nat→T_Bar) :
    zM 0 [rg 3,.dec true,rg 9,rg 3,.head] zf15 (SGs1 n a b c h) [0,1,291] 1 (SGs1 n a (b+1) (c+1) (snoc c h ((a:Int),(b:Int),()))) =
    some (zf15,zD [((decide ((↑b:Int)<(↑n:Int)))=true),(NT 0 1),(NL 1 1),(NL c c),(NL ((c+1)*16) 140737488355328),(NL (c+1) 9223372036854775807),((true=true)→ (AN 1)),(ZLo ((↑b:Int)+1)),(ZHi ((↑b:Int)+1)),(AI ((↑n:Int))),(AN 0),(AI ((↑a:Int))),((((↑b:Int)+1):Int)=(↑(b+1):Int)),(AN 2),(AI 0),(AN ((c+1))),(NL (c+1) (c+1)),(CV [(1,⟨true,2,1,(fun i_1=>[.p (.int .i64 (↑n:Int)),.ar 2 291 0 (c+1)])⟩),(291,⟨false,2,(c+1),(fun i_1=>(if (i_1<c) then [.p (.int .i64 ((h i_1).1)),.p (.int .i64 ((h i_1).2.1))] else [.p (.int .i64 (↑a:Int)),.p (.int .i64 (↑b:Int))]))⟩),(259,⟨false,2,1,(fun i_1=>[.p (.int .i64 (↑a:Int)),.p (.int .i64 (↑b:Int))])⟩),(0,⟨true,2,1,(fun i_1=>[.p (.int .i64 0),.p (.nil)])⟩)] [0,1,291] 1 (c+1) (fun i=>if (i<c) then [.p (.int .i64 ((h i).1)),.p (.int .i64 ((h i).2.1))] else [.p (.int .i64 (↑a:Int)),.p (.int .i64 (↑b:Int))]) (fun i=>[.p (.int .i64 (if i<c then (h i).1 else (↑a:Int))),.p (.int .i64 (if i<c then (h i).2.1 else (↑b:Int)))]))] [0,1,2,3,4,5,1,6,7,8,9,10,10,11,12,13,2,2,14,13,2,2,9,10,15,13,16,17]):=by kernel_rfl
theorem eGs3 (n a b c:Nat) (h:Nat→T_Bar) :
    zM 0 [rg 3,.dec false,rg 3,.head] zf15 (SGs1 n a b c h) [0,1,2] 1 (SGs n (a+1) c h) =
    some (zf42,zD [((decide ((↑b:Int)<(↑n:Int)))=false),(ZLo ((↑a:Int)+1)),(ZHi ((↑a:Int)+1)),(AI ((↑n:Int))),(AN 0),((((↑a:Int)+1):Int)=(↑(a+1):Int)),(AN 2),(NL 1 1),(AI 0),(AN c),(NL c c),(AA c (fun i=>[.p (.int .i64 ((h i).1)),.p (.int .i64 ((h i).2.1))]))] [0,1,2,3,4,4,5,6,7,7,8,6,7,7,3,4,9,6,10,11]):=by kernel_rfl
theorem eGi0 (n:Nat) :
    zT Tryz.f118 [rg 1,rm [(1,oc [] (.p (.bool true)))] 1,.dec false,rg 4,rg 2,.head] [.p (.int .i64 n)] [0,192] (SGi n 0 0 (fun _=>(0,0,()))) =
    some (zf43,zD [zE 90 [.p (.int .i64 (↑n:Int)),.p (.int .i64 1),.p (.int .i64 7)] [] (.p (.bool true)),((!true)=false),(NT 0 1),((true=true)→ (AN 1)),(AI ((↑n:Int))),(AN 0),((0:Int)=(↑0:Int)),((((List.map (fun v=>AV.p (absV v)) [Value.int IntKind.i64 0,Value.slice none 0 0]).length):Nat)=2),(NL 1 1),(AI 0)] [0,1,2,3,4,5,5,4,6,7,8,8,9,7,8,8,4,5,5]):=by kernel_rfl
theorem eGi1 (n a c:Nat) (h:Nat→T_Bar) :
    zM 0 [rg 1,.dec true,rg 2,rg 3,.head] zf43 (SGi n a c h) [0,1,2] 1 (SGi1 n a (a+1) c h) =
    some (zf12,zD [((decide ((↑a:Int)<(↑n:Int)))=true),(ZLo ((↑a:Int)+1)),(ZHi ((↑a:Int)+1)),(AI ((↑n:Int))),(AN 0),(AI ((↑a:Int))),((((↑a:Int)+1):Int)=(↑(a+1):Int)),(AN 2),(NL 1 1),(AI 0),(AN c),(NL c c),(AA c (fun i=>[.p (.int .i64 ((h i).1)),.p (.int .i64 ((h i).2.1))]))] [0,1,2,3,4,4,5,6,3,5,7,8,8,9,7,8,8,3,4,10,7,11,12]):=by kernel_rfl
theorem eGie (n a c:Nat) (h:Nat→T_Bar) :
    zP Tryz.f118 0 [rg 1,.dec false,rg 2] zf43 (SGi n a c h) [2] 1 [(0,brOb c h)] (.agg [.p (.int .i64 n),.ar 2 0 0 c]) =
    some [((decide ((↑a:Int)<(↑n:Int)))=false),(NT 0 1),(NT 0 1),((true=true)→ (AN 1)),(NT 0 1),(AI ((↑n:Int))),(AN 0),(AN c),(AN 2),(NL c c),(AA c (fun i=>[.p (.int .i64 ((h i).1)),.p (.int .i64 ((h i).2.1))])),(AE c)]:=by kernel_rfl
theorem eGi2 (n a b c:Nat) (h:Nat→T_Bar) :
    zM 0 [rg 3,.dec true,rg 9,rg 3,.head] zf12 (SGi1 n a b c h) [0,1,291] 1 (SGi1 n a (b+1) (c+1) (snoc c h ((a:Int),(b:Int),()))) =
    some (zf12,zD [((decide ((↑b:Int)<(↑n:Int)))=true),(NT 0 1),(NL 1 1),(NL c c),(NL ((c+1)*16) 140737488355328),(NL (c+1) 9223372036854775807),((true=true)→ (AN 1)),(ZLo ((↑b:Int)+1)),(ZHi ((↑b:Int)+1)),(AI ((↑n:Int))),(AN 0),(AI ((↑a:Int))),((((↑b:Int)+1):Int)=(↑(b+1):Int)),(AN 2),(AI 0),(AN ((c+1))),(NL (c+1) (c+1)),(CV [(1,⟨true,2,1,(fun i_1=>[.p (.int .i64 (↑n:Int)),.ar 2 291 0 (c+1)])⟩),(291,⟨false,2,(c+1),(fun i_1=>(if (i_1<c) then [.p (.int .i64 ((h i_1).1)),.p (.int .i64 ((h i_1).2.1))] else [.p (.int .i64 (↑a:Int)),.p (.int .i64 (↑b:Int))]))⟩),(259,⟨false,2,1,(fun i_1=>[.p (.int .i64 (↑a:Int)),.p (.int .i64 (↑b:Int))])⟩),(0,⟨true,2,1,(fun i_1=>[.p (.int .i64 0),.p (.nil)])⟩)] [0,1,291] 1 (c+1) (fun i=>if (i<c) then [.p (.int .i64 ((h i).1)),.p (.int .i64 ((h i).2.1))] else [.p (.int .i64 (↑a:Int)),.p (.int .i64 (↑b:Int))]) (fun i=>[.p (.int .i64 (if i<c then (h i).1 else (↑a:Int))),.p (.int .i64 (if i<c then (h i).2.1 else (↑b:Int)))]))] [0,1,2,3,4,5,1,6,7,8,9,10,10,11,12,9,11,13,2,2,14,13,2,2,9,10,15,13,16,17]):=by kernel_rfl
theorem eGi3 (n a b c:Nat) (h:Nat→T_Bar) :
    zM 0 [rg 3,.dec false,rg 2,.head] zf12 (SGi1 n a b c h) [0,1,2] 1 (SGi n (a+1) c h) =
    some (zf43,zD [((decide ((↑b:Int)<(↑n:Int)))=false),(ZLo ((↑a:Int)+1)),(ZHi ((↑a:Int)+1)),(AI ((↑n:Int))),(AN 0),((((↑a:Int)+1):Int)=(↑(a+1):Int)),(AN 2),(NL 1 1),(AI 0),(AN c),(NL c c),(AA c (fun i=>[.p (.int .i64 ((h i).1)),.p (.int .i64 ((h i).2.1))]))] [0,1,2,3,4,4,3,5,6,7,7,8,6,7,7,3,4,9,6,10,11]):=by kernel_rfl
theorem eSz (w M:Nat) :
    zT Tryz.f119 [rg 1,rg 2,rg 2,.head] [.p (.int .i64 w),.p (.int .i64 M)] [32] (SSo w M 0 0 (fun _=>0)) =
    some (zf70,[(AI ((↑w:Int))),(AI ((↑M:Int))),(AN 0),(AN 0),(AI ((↑M:Int))),((0:Int)=(↑0:Int)),(AN 1),(NL 0 0),(AA 0 (fun i=>[.p (.int .i64 0)]))]):=by kernel_rfl
theorem eSt (w M i c:Nat) (f:Nat→Int) :
    zM 0 [rg 1,.dec true,rg 2,rg 5,.dec true,rg 5,rg 2,.head] zf70 (SSo w M i c f) [353] 1 (SSo w M (i+1) (c+1) (snocI c f i)) =
    some (zf70,[((decide ((↑i:Int)<(↑M:Int)))=true),(IL 0 (↑i:Int)),((bitI BinOp.and IntKind.i64 (shrI IntKind.i64 (↑w:Int) (↑i:Int)) 1==1)=true),(NL 1 1),(NL c c),(NL ((c+1)*8) 140737488355328),(NL (c+1) 9223372036854775807),(ZLo ((↑i:Int)+1)),(ZHi ((↑i:Int)+1)),(AI ((↑w:Int))),(AI ((↑M:Int))),(AN 0),(AN ((c+1))),(AI ((↑M:Int))),((((↑i:Int)+1):Int)=(↑(i+1):Int)),(AN 1),(NL (c+1) (c+1)),(CV [(353,⟨false,1,(c+1),(fun i_2=>(if (i_2<c) then [.p (.int .i64 (f i_2))] else [.p (.int .i64 (↑i:Int))]))⟩),(321,⟨false,1,1,(fun i_2=>[.p (.int .i64 (↑i:Int))])⟩)] [353] 1 (c+1) (fun i_1=>if (i_1<c) then [.p (.int .i64 (f i_1))] else [.p (.int .i64 (↑i:Int))]) (fun i_1=>[.p (.int .i64 (snocI c f (↑i:Int) i_1))]))]):=by kernel_rfl
theorem eSf (w M i c:Nat) (f:Nat→Int) :
    zM 0 [rg 1,.dec true,rg 2,rg 5,.dec false,rg 2,.head] zf70 (SSo w M i c f) [0] 1 (SSo w M (i+1) c f) =
    some (zf70,[((decide ((↑i:Int)<(↑M:Int)))=true),(IL 0 (↑i:Int)),((bitI BinOp.and IntKind.i64 (shrI IntKind.i64 (↑w:Int) (↑i:Int)) 1==1)=false),(ZLo ((↑i:Int)+1)),(ZHi ((↑i:Int)+1)),(AI ((↑w:Int))),(AI ((↑M:Int))),(AN 0),(AN c),(AI ((↑M:Int))),((((↑i:Int)+1):Int)=(↑(i+1):Int)),(AN 1),(NL c c),(AA c (fun i_1=>[.p (.int .i64 (f i_1))]))]):=by kernel_rfl
theorem eSe (w M i c:Nat) (f:Nat→Int) :
    zP Tryz.f119 0 [rg 1,.dec false,rg 2] zf70 (SSo w M i c f) [0] 1 [(0,iOb c f)] (.ar 1 0 0 c) =
    some [((decide ((↑i:Int)<(↑M:Int)))=false),(AN 0),(AN c),(AN 1),(NL c c),(AA c (fun i_1=>[.p (.int .i64 (f i_1))])),(AE c)]:=by kernel_rfl
theorem eOz (n:Int) (M:Nat) (A:Nat→T_Bar) (S:T_IntS) :
    zT Tryz.f120 [rg 2,rg 5,rg 4,.head] [gaI n M A,inL S] [0,32,160] (SOb n M A S 0 0 (fun _=>(0,0,()))) =
    some (zf71,zD [(NT 0 1),((true=true)→ (AN 1)),(AI n),(AN M),(AP M (bRw A)),(AN S.1),(AP S.1 (iRw S)),(AN 0),(AI ((↑M:Int))),((0:Int)=(↑0:Int)),((([AV.p (PV.int IntKind.i64 n),brL A M].length):Nat)=2),(NL 1 1),((((List.map (fun v=>AV.p (absV v)) [Value.int IntKind.i64 0,Value.slice none 0 0]).length):Nat)=2),(AI 0)] [0,0,1,0,2,3,4,5,6,7,7,7,3,4,8,9,10,11,11,2,3,4,12,11,11,13,12,11,11,2,7,7]):=by kernel_rfl
theorem eOt (n:Int) (M:Nat) (A:Nat→T_Bar) (S:T_IntS) (i c:Nat) (h:Nat→T_Bar) :
    zM 0 [rg 1,.dec true,rg 6,rm [(2,oc [] (.p (.bool true)))] 0,.dec true,rg 7,rg 2,.head] zf71 (SOb n M A S i c h) [0,1,2,452] 1 (SOb n M A S (i+1) (c+1) (snoc c h (A i))) =
    some (zf71,zD [((decide ((↑i:Int)<(↑M:Int)))=true),(IL 0 (↑i:Int)),(IT (↑i:Int) (↑M:Int)),(NT 0 1),((true=true)→ (AN 1)),zE 144 [.p (.seq true 1 S.1 (iRw S)),.p (.int .i64 (↑i:Int))] [] (.p (.bool true)),(true=true),(NL 1 1),(NL c c),(NL ((c+1)*16) 140737488355328),(NL (c+1) 9223372036854775807),(ZLo ((↑i:Int)+1)),(ZHi ((↑i:Int)+1)),(AI n),(AN M),(AP M (bRw A)),(AN S.1),(AP S.1 (iRw S)),(AN 0),(AI ((↑M:Int))),((((↑i:Int)+1):Int)=(↑(i+1):Int)),(AN 2),(AI 0),(AN ((c+1))),(NL (c+1) (c+1)),(CV [(2,⟨true,2,1,(fun i_2=>[.p (.int .i64 n),.ar 2 452 0 (c+1)])⟩),(452,⟨false,2,(c+1),(fun i_2=>(if (i_2<c) then [.p (.int .i64 ((h i_2).1)),.p (.int .i64 ((h i_2).2.1))] else [.p (.int .i64 ((A i).1)),.p (.int .i64 ((A i).2.1))]))⟩),(420,⟨false,2,1,(fun i_2=>[.p (.int .i64 ((A i).1)),.p (.int .i64 ((A i).2.1))])⟩),(132,⟨true,2,1,(fun i_2=>[.p (.int .i64 ((A i).1)),.p (.int .i64 ((A i).2.1))])⟩),(0,⟨true,2,1,(fun i_2=>[.p (.int .i64 n),.p (.seq true 2 M (bRw A))])⟩),(1,⟨true,2,1,(fun i_2=>[.p (.int .i64 0),.p (.nil)])⟩)] [0,1,2,452] 1 (c+1) (fun i_1=>if (i_1<c) then [.p (.int .i64 ((h i_1).1)),.p (.int .i64 ((h i_1).2.1))] else [.p (.int .i64 ((A i).1)),.p (.int .i64 ((A i).2.1))]) (fun i_1=>[.p (.int .i64 (if i_1<c then (h i_1).1 else (A i).1)),.p (.int .i64 (if i_1<c then (h i_1).2.1 else (A i).2.1))]))] [0,1,2,3,4,5,6,3,3,7,8,9,10,3,4,11,12,13,14,15,16,17,18,18,18,14,15,19,20,21,7,7,13,14,15,21,7,7,22,21,7,7,13,18,23,21,24,25]):=by kernel_rfl
theorem eOf (n:Int) (M:Nat) (A:Nat→T_Bar) (S:T_IntS) (i c:Nat) (h:Nat→T_Bar) :
    zM 0 [rg 1,.dec true,rg 6,rm [(2,oc [] (.p (.bool false)))] 0,.dec false,rg 2,.head] zf71 (SOb n M A S i c h) [0,1,2,3] 1 (SOb n M A S (i+1) c h) =
    some (zf71,zD [((decide ((↑i:Int)<(↑M:Int)))=true),(IL 0 (↑i:Int)),(IT (↑i:Int) (↑M:Int)),(NT 0 1),((true=true)→ (AN 1)),zE 144 [.p (.seq true 1 S.1 (iRw S)),.p (.int .i64 (↑i:Int))] [] (.p (.bool false)),(false=false),(ZLo ((↑i:Int)+1)),(ZHi ((↑i:Int)+1)),(AI n),(AN M),(AP M (bRw A)),(AN S.1),(AP S.1 (iRw S)),(AN 0),(AI ((↑M:Int))),((((↑i:Int)+1):Int)=(↑(i+1):Int)),(AN 2),(NL 1 1),(AI 0),(AN c),(NL c c),(AA c (fun i_1=>[.p (.int .i64 ((h i_1).1)),.p (.int .i64 ((h i_1).2.1))]))] [0,1,2,3,4,5,6,7,8,9,10,11,12,13,14,14,14,10,11,15,16,17,18,18,9,10,11,17,18,18,19,17,18,18,9,14,20,17,21,22]):=by kernel_rfl
theorem eOe (n:Int) (M:Nat) (A:Nat→T_Bar) (S:T_IntS) (i c:Nat) (h:Nat→T_Bar) :
    zP Tryz.f120 0 [rg 1,.dec false,rg 2] zf71 (SOb n M A S i c h) [3] 1 [(0,brOb c h)] (.agg [.p (.int .i64 n),.ar 2 0 0 c]) =
    some [((decide ((↑i:Int)<(↑M:Int)))=false),(NT 0 1),(NT 0 1),((true=true)→ (AN 1)),(NT 0 1),(AI n),(AN 0),(AN c),(AN 2),(NL c c),(AA c (fun i_1=>[.p (.int .i64 ((h i_1).1)),.p (.int .i64 ((h i_1).2.1))])),(AE c)]:=by kernel_rfl
theorem eIy (n:Int) :
    zS Tryz.f50 [rg 2,rg 2,rm [(1,oc [] (.p (.bool false)))] 1,.dec true,rg 3] [.p (.int .i64 n)] [64] [(0,gsOb n 0 (fun _=>(0,fun _=>(0,0,()))))] (.tup [.ar 2 0 0 0,.p (.bool false)]) =
    some [zE 90 [.p (.int .i64 n),.p (.int .i64 1),.p (.int .i64 5)] [] (.p (.bool false)),((!false)=true),(AN 0),(AN 0),(false=false),(AN 2),(NL 0 0),(∀ i:Nat,(((i:Nat)<0)→(All []∧(([.p (.int .i64 0),.p (.nil)]:List AV)=[.p (.int .i64 n),.p (.seq false 2 0 (fun i_1=>[.int .i64 0,.int .i64 0]))])))),(∀ i:Nat,(((i:Nat)<0)→All [(false=false),(AE 0)]))]:=by kernel_rfl
theorem eIz (n:Nat) (M:Nat) (A:Nat→T_Bar) :
    zT Tryz.f50 [rg 2,rg 2,rm [(1,oc [] (.p (.bool true)))] 1,.dec false,rm [(1,oc [(0,brOb M A)] (.agg [.p (.int .i64 n),.ar 2 0 0 M]))] 2,rg 5,.head] [.p (.int .i64 n)] [64,288,256] (SRgi n M A 0 0 (fun _=>(0,fun _=>(0,0,())))) =
    some (zf32,[zE 90 [.p (.int .i64 (↑n:Int)),.p (.int .i64 1),.p (.int .i64 5)] [] (.p (.bool true)),((!true)=false),zE 118 [.p (.int .i64 (↑n:Int))] (zf107 M A) (.agg [.p (.int .i64 (↑n:Int)),.ar 2 0 0 M]),(NT 0 1),((true=true)→ (AN 1)),(NT 0 1),(IL 0 (↑M:Int)),(AI ((↑n:Int))),(AN 0),(AN 0),(AN 0),(AI ((shlI IntKind.i64 1 (↑M:Int)))),((0:Int)=(↑0:Int)),(AN 2),(NL 0 0),(∀ i:Nat,(((i:Nat)<0)→(All []∧(([.p (.int .i64 0),.p (.nil)]:List AV)=[.p (.int .i64 (↑n:Int)),.p (.seq false 2 0 (fun i_1=>[.int .i64 0,.int .i64 0]))])))),((((List.map (fun v=>AV.p (absV v)) [Value.int IntKind.i64 0,Value.slice none 0 0]).length):Nat)=2),(NL 1 1),(NL 1 1),(AI ((↑n:Int))),(AN 0),(AN M),(AN 2),(NL M M),(AA M (fun i=>[.p (.int .i64 ((A i).1)),.p (.int .i64 ((A i).2.1))]))]):=by kernel_rfl
theorem eI1 (n:Nat) (M:Nat) (A:Nat→T_Bar) (w c:Nat) (G:Nat→T_BarS) (S:T_IntS) :
    zM 0 [rg 1,.dec true,rg 2,rm [(4,oc [(0,iOb S.1 S.2)] (.ar 1 0 0 S.1))] 1,rg 7,.dec true,rg 2,.head] zf32 (SRgi n M A w c G) [0,1,2] 1 (SRgi n M A (w+1) c G) =
    some (zf32,[((decide ((↑w:Int)<shlI IntKind.i64 1 (↑M:Int)))=true),(NT 0 1),zE 119 [.p (.int .i64 (↑w:Int)),.p (.int .i64 (↑M:Int))] [(0,⟨false,1,S.1,(fun i=>[.p (.int .i64 (S.2 i))])⟩)] (.ar 1 0 0 S.1),(ZLo (2*(↑n:Int))),(ZHi (2*(↑n:Int))),(ZLo (2*(↑n:Int) - 3)),(ZHi (2*(↑n:Int) - 3)),(((↑S.1:Int) != if true=true then if 2*(↑n:Int) - 3>0 then 2*(↑n:Int) - 3 else 0 else if 2*(↑n:Int) - 3<0 then 2*(↑n:Int) - 3 else 0)=true),(ZLo ((↑w:Int)+1)),(ZHi ((↑w:Int)+1)),(AI ((↑n:Int))),(AN 0),(AN c),(AN 0),(AI ((shlI IntKind.i64 1 (↑M:Int)))),((((↑w:Int)+1):Int)=(↑(w+1):Int)),(AN 2),(NL c c),(AA c (fun i=>[.p (.int .i64 (↑n:Int)),.p (.seq false 2 ((G i).1) (fun i_1=>[.int .i64 (((G i).2 i_1).1),.int .i64 (((G i).2 i_1).2.1)]))])),(AN 2),(NL 1 1),(NL 1 1),(AI ((↑n:Int))),(AN 0),(AN M),(AN 2),(NL M M),(AA M (fun i=>[.p (.int .i64 ((A i).1)),.p (.int .i64 ((A i).2.1))]))]):=by kernel_rfl
theorem eI2 (n:Nat) (M:Nat) (A:Nat→T_Bar) (w c:Nat) (G:Nat→T_BarS) (S:T_IntS) (x:T_BarS) :
    zM 0 [rg 1,.dec true,rg 2,rm [(4,oc [(0,iOb S.1 S.2)] (.ar 1 0 0 S.1))] 1,rg 7,.dec false,rm [(2,oc [(0,brOb x.1 x.2)] (.agg [.p (.int .i64 n),.ar 2 0 0 x.1]))] 2,rm [(1,oc [] (.p (.bool true)))] 0,.dec true,rg 5,rg 2,.head] zf32 (SRgi n M A w c G) [835,1,2] 1 (SRgi n M A (w+1) (c+1) (snocB c G x)) =
    some (zf32,[((decide ((↑w:Int)<shlI IntKind.i64 1 (↑M:Int)))=true),(NT 0 1),zE 119 [.p (.int .i64 (↑w:Int)),.p (.int .i64 (↑M:Int))] [(0,⟨false,1,S.1,(fun i=>[.p (.int .i64 (S.2 i))])⟩)] (.ar 1 0 0 S.1),(ZLo (2*(↑n:Int))),(ZHi (2*(↑n:Int))),(ZLo (2*(↑n:Int) - 3)),(ZHi (2*(↑n:Int) - 3)),(((↑S.1:Int) != if true=true then if 2*(↑n:Int) - 3>0 then 2*(↑n:Int) - 3 else 0 else if 2*(↑n:Int) - 3<0 then 2*(↑n:Int) - 3 else 0)=false),(NT 0 1),(AN 2),(NL M M),(AN 1),(NL S.1 S.1),zE 120 [(zf101 n M A),.p (.seq true 1 S.1 (iRw S))] [(0,⟨false,2,x.1,(fun i=>[.p (.int .i64 ((x.2 i).1)),.p (.int .i64 ((x.2 i).2.1))])⟩)] (.agg [.p (.int .i64 (↑n:Int)),.ar 2 0 0 x.1]),(NT 0 1),((true=true)→ (AN 1)),(NT 0 1),(AN 2),(NL x.1 x.1),zE 58 [.agg [.p (.int .i64 (↑n:Int)),.p (.seq true 2 x.1 (fun i=>[.int .i64 ((x.2 i).1),.int .i64 ((x.2 i).2.1)]))]] [] (.p (.bool true)),(true=true),(NT 0 1),(NL 1 1),(NL c c),(NL ((c+1)*32) 140737488355328),(NL (c+1) 9223372036854775807),(ZLo ((↑w:Int)+1)),(ZHi ((↑w:Int)+1)),(AI ((↑n:Int))),(AN 0),(AN ((c+1))),(AN 0),(AI ((shlI IntKind.i64 1 (↑M:Int)))),((((↑w:Int)+1):Int)=(↑(w+1):Int)),(AN 2),(NL (c+1) (c+1)),(CV [(835,⟨false,2,(c+1),(fun i_1=>(if (i_1<c) then [.p (.int .i64 (↑n:Int)),.p (.seq false 2 ((G i_1).1) (fun i_2=>[.int .i64 (((G i_1).2 i_2).1),.int .i64 (((G i_1).2 i_2).2.1)]))] else [.p (.int .i64 (↑n:Int)),.ar 2 579 0 x.1]))⟩),(803,⟨false,2,1,(fun i_1=>[.p (.int .i64 (↑n:Int)),.ar 2 579 0 x.1])⟩),(611,⟨true,2,1,(fun i_1=>[.p (.int .i64 (↑n:Int)),.ar 2 579 0 x.1])⟩),(579,⟨false,2,x.1,(fun i_1=>[.p (.int .i64 ((x.2 i_1).1)),.p (.int .i64 ((x.2 i_1).2.1))])⟩),(227,⟨false,1,S.1,(fun i_1=>[.p (.int .i64 (S.2 i_1))])⟩),(1,⟨true,2,1,(fun i_1=>[.p (.int .i64 (↑n:Int)),.ar 2 2 0 M])⟩),(2,⟨false,2,M,(fun i_1=>[.p (.int .i64 ((A i_1).1)),.p (.int .i64 ((A i_1).2.1))])⟩)] [835,1,2] 1 (c+1) (fun i=>if (i<c) then [.p (.int .i64 (↑n:Int)),.p (.seq false 2 ((G i).1) (fun i_1=>[.int .i64 (((G i).2 i_1).1),.int .i64 (((G i).2 i_1).2.1)]))] else [.p (.int .i64 (↑n:Int)),.ar 2 579 0 x.1]) (fun i=>[.p (.int .i64 (↑n:Int)),.p (.seq false 2 (if i<c then (G i).1 else x.1) (fun i_1=>[.int .i64 (if i<c then ((G i).2 i_1).1 else (x.2 i_1).1),.int .i64 (if i<c then ((G i).2 i_1).2.1 else (x.2 i_1).2.1)]))])),(AN 2),(NL 1 1),(NL 1 1),(AI ((↑n:Int))),(AN 0),(AN M),(AN 2),(NL M M),(AA M (fun i=>[.p (.int .i64 ((A i).1)),.p (.int .i64 ((A i).2.1))]))]):=by kernel_rfl
theorem eI3 (n:Nat) (M:Nat) (A:Nat→T_Bar) (w c:Nat) (G:Nat→T_BarS) (S:T_IntS) (x:T_BarS) :
    zM 0 [rg 1,.dec true,rg 2,rm [(4,oc [(0,iOb S.1 S.2)] (.ar 1 0 0 S.1))] 1,rg 7,.dec false,rm [(2,oc [(0,brOb x.1 x.2)] (.agg [.p (.int .i64 n),.ar 2 0 0 x.1]))] 2,rm [(1,oc [] (.p (.bool false)))] 0,.dec false,rg 2,.head] zf32 (SRgi n M A w c G) [0,1,2] 1 (SRgi n M A (w+1) c G) =
    some (zf32,[((decide ((↑w:Int)<shlI IntKind.i64 1 (↑M:Int)))=true),(NT 0 1),zE 119 [.p (.int .i64 (↑w:Int)),.p (.int .i64 (↑M:Int))] [(0,⟨false,1,S.1,(fun i=>[.p (.int .i64 (S.2 i))])⟩)] (.ar 1 0 0 S.1),(ZLo (2*(↑n:Int))),(ZHi (2*(↑n:Int))),(ZLo (2*(↑n:Int) - 3)),(ZHi (2*(↑n:Int) - 3)),(((↑S.1:Int) != if true=true then if 2*(↑n:Int) - 3>0 then 2*(↑n:Int) - 3 else 0 else if 2*(↑n:Int) - 3<0 then 2*(↑n:Int) - 3 else 0)=false),(NT 0 1),(AN 2),(NL M M),(AN 1),(NL S.1 S.1),zE 120 [(zf101 n M A),.p (.seq true 1 S.1 (iRw S))] [(0,⟨false,2,x.1,(fun i=>[.p (.int .i64 ((x.2 i).1)),.p (.int .i64 ((x.2 i).2.1))])⟩)] (.agg [.p (.int .i64 (↑n:Int)),.ar 2 0 0 x.1]),(NT 0 1),((true=true)→ (AN 1)),(NT 0 1),(AN 2),(NL x.1 x.1),zE 58 [.agg [.p (.int .i64 (↑n:Int)),.p (.seq true 2 x.1 (fun i=>[.int .i64 ((x.2 i).1),.int .i64 ((x.2 i).2.1)]))]] [] (.p (.bool false)),(false=false),(ZLo ((↑w:Int)+1)),(ZHi ((↑w:Int)+1)),(AI ((↑n:Int))),(AN 0),(AN c),(AN 0),(AI ((shlI IntKind.i64 1 (↑M:Int)))),((((↑w:Int)+1):Int)=(↑(w+1):Int)),(AN 2),(NL c c),(AA c (fun i=>[.p (.int .i64 (↑n:Int)),.p (.seq false 2 ((G i).1) (fun i_1=>[.int .i64 (((G i).2 i_1).1),.int .i64 (((G i).2 i_1).2.1)]))])),(AN 2),(NL 1 1),(NL 1 1),(AI ((↑n:Int))),(AN 0),(AN M),(AN 2),(NL M M),(AA M (fun i=>[.p (.int .i64 ((A i).1)),.p (.int .i64 ((A i).2.1))]))]):=by kernel_rfl
theorem eIe (n:Nat) (M:Nat) (A:Nat→T_Bar) (w c:Nat) (G:Nat→T_BarS) :
    zP Tryz.f50 0 [rg 1,.dec false,rg 3] zf32 (SRgi n M A w c G) [0] 1 [(0,gsOb n c G)] (.tup [.ar 2 0 0 c,.p (.bool true)]) =
    some [((decide ((↑w:Int)<shlI IntKind.i64 1 (↑M:Int)))=false),(AN 0),(AN c),(true=true),(AN 2),(NL c c),(AA c (fun i=>[.p (.int .i64 (↑n:Int)),.p (.seq false 2 ((G i).1) (fun i_1=>[.int .i64 (((G i).2 i_1).1),.int .i64 (((G i).2 i_1).2.1)]))])),(∀ i:Nat,(((i:Nat)<c)→All [(false=false),(AE (((G i).1)))]))]:=by kernel_rfl
theorem eCz (n:Nat) (tg':Int) (M:Nat) (A:Nat→T_Bar) :
    zT Tryz.f122 [rg 1,rg 2,rg 1,.head] [brL A M,.p (.int .i64 n),.p (.int .i64 tg')] [32] (SRgs n tg' M A 0 0 (fun _=>(0,fun _=>(0,0,())))) =
    some (zf72,[(AN M),(AP M (bRw A)),(AI ((↑n:Int))),(AI (tg')),(AN 0),(AN 0),((0:Int)=(↑0:Int)),(AN 2),(NL 0 0),(∀ i:Nat,(((i:Nat)<0)→(All []∧(([.p (.int .i64 0),.p (.nil)]:List AV)=[.p (.int .i64 (↑n:Int)),.p (.seq false 2 0 (fun i_1=>[.int .i64 0,.int .i64 0]))]))))]):=by kernel_rfl
theorem eC1 (n:Nat) (tg':Int) (M:Nat) (A:Nat→T_Bar) (w c:Nat) (G:Nat→T_BarS) :
    zM 0 [rg 5,.dec true,rg 5,rg 1,.head] zf72 (SRgs n tg' M A w c G) [0,257,193] 1 (SRn1 n tg' M A w c G 0 0 (fun _=>(0,0,()))) =
    some (zf9,[(IL 0 (↑M:Int)),((decide ((↑w:Int)<shlI IntKind.i64 1 (↑M:Int)))=true),(NT 0 1),((true=true)→ (AN 1)),(AN M),(AP M (bRw A)),(AI ((↑n:Int))),(AI (tg')),(AN 0),(AN c),(AI ((↑w:Int))),(AN 0),((0:Int)=(↑0:Int)),(AN 2),(NL c c),(AA c (fun i=>[.p (.int .i64 (↑n:Int)),.p (.seq false 2 ((G i).1) (fun i_1=>[.int .i64 (((G i).2 i_1).1),.int .i64 (((G i).2 i_1).2.1)]))])),((((List.map (fun v=>AV.p (absV v)) [Value.int IntKind.i64 0,Value.slice none 0 0]).length):Nat)=2),(NL 1 1),(NL 1 1),(AI ((↑n:Int))),(AN 0),(AN 0),(AN 2),(NL 0 0),(AA 0 (fun i=>[.p (.int .i64 0),.p (.int .i64 0)]))]):=by kernel_rfl
theorem eCe (n:Nat) (tg':Int) (M:Nat) (A:Nat→T_Bar) (w c:Nat) (G:Nat→T_BarS) :
    zP Tryz.f122 0 [rg 5,.dec false,rg 2] zf72 (SRgs n tg' M A w c G) [0] 1 [(0,gsOb n c G)] (.ar 2 0 0 c) =
    some [(IL 0 (↑M:Int)),((decide ((↑w:Int)<shlI IntKind.i64 1 (↑M:Int)))=false),(AN 0),(AN c),(AN 2),(NL c c),(AA c (fun i=>[.p (.int .i64 (↑n:Int)),.p (.seq false 2 ((G i).1) (fun i_1=>[.int .i64 (((G i).2 i_1).1),.int .i64 (((G i).2 i_1).2.1)]))])),(∀ i:Nat,(((i:Nat)<c)→All [(false=false),(AE (((G i).1)))]))]:=by kernel_rfl
theorem eC2t (n:Nat) (tg':Int) (M:Nat) (A:Nat→T_Bar) (w c:Nat) (G:Nat→T_BarS) (i k:Nat) (h:Nat→T_Bar) :
    zM 0 [rg 4,.dec true,rg 5,.dec true,rg 10,rg 3,.head] zf9 (SRn1 n tg' M A w c G i k h) [0,1,515] 1 (SRn1 n tg' M A w c G (i+1) (k+1) (snoc k h (A i))) =
    some (zf9,[((decide ((↑i:Int)<(↑M:Int)))=true),(IL 0 (↑i:Int)),((bitI BinOp.and IntKind.i64 (shrI IntKind.i64 (↑w:Int) (↑i:Int)) 1==1)=true),(NT 0 1),(IL 0 (↑i:Int)),(IT (↑i:Int) (↑M:Int)),(NL 1 1),(NL k k),(NL ((k+1)*16) 140737488355328),(NL (k+1) 9223372036854775807),(NT 0 1),((true=true)→ (AN 1)),(ZLo ((↑i:Int)+1)),(ZHi ((↑i:Int)+1)),(AN M),(AP M (bRw A)),(AI ((↑n:Int))),(AI (tg')),(AN 0),(AN c),(AI ((↑w:Int))),(AN 0),((((↑i:Int)+1):Int)=(↑(i+1):Int)),(AN 2),(NL c c),(AA c (fun i_1=>[.p (.int .i64 (↑n:Int)),.p (.seq false 2 ((G i_1).1) (fun i_2=>[.int .i64 (((G i_1).2 i_2).1),.int .i64 (((G i_1).2 i_2).2.1)]))])),(AN 2),(NL 1 1),(NL 1 1),(AI ((↑n:Int))),(AN 0),(AN ((k+1))),(AN 2),(NL (k+1) (k+1)),(CV [(1,⟨true,2,1,(fun i_2=>[.p (.int .i64 (↑n:Int)),.ar 2 515 0 (k+1)])⟩),(515,⟨false,2,(k+1),(fun i_2=>(if (i_2<k) then [.p (.int .i64 ((h i_2).1)),.p (.int .i64 ((h i_2).2.1))] else [.p (.int .i64 ((A i).1)),.p (.int .i64 ((A i).2.1))]))⟩),(483,⟨false,2,1,(fun i_2=>[.p (.int .i64 ((A i).1)),.p (.int .i64 ((A i).2.1))])⟩),(0,⟨false,2,c,(fun i_2=>[.p (.int .i64 (↑n:Int)),.p (.seq false 2 ((G i_2).1) (fun i_3=>[.int .i64 (((G i_2).2 i_3).1),.int .i64 (((G i_2).2 i_3).2.1)]))])⟩)] [0,1,515] 1 (k+1) (fun i_1=>if (i_1<k) then [.p (.int .i64 ((h i_1).1)),.p (.int .i64 ((h i_1).2.1))] else [.p (.int .i64 ((A i).1)),.p (.int .i64 ((A i).2.1))]) (fun i_1=>[.p (.int .i64 (if i_1<k then (h i_1).1 else (A i).1)),.p (.int .i64 (if i_1<k then (h i_1).2.1 else (A i).2.1))]))]):=by kernel_rfl
theorem eC2f (n:Nat) (tg':Int) (M:Nat) (A:Nat→T_Bar) (w c:Nat) (G:Nat→T_BarS) (i k:Nat) (h:Nat→T_Bar) :
    zM 0 [rg 4,.dec true,rg 5,.dec false,rg 3,.head] zf9 (SRn1 n tg' M A w c G i k h) [0,1,2] 1 (SRn1 n tg' M A w c G (i+1) k h) =
    some (zf9,[((decide ((↑i:Int)<(↑M:Int)))=true),(IL 0 (↑i:Int)),((bitI BinOp.and IntKind.i64 (shrI IntKind.i64 (↑w:Int) (↑i:Int)) 1==1)=false),(ZLo ((↑i:Int)+1)),(ZHi ((↑i:Int)+1)),(AN M),(AP M (bRw A)),(AI ((↑n:Int))),(AI (tg')),(AN 0),(AN c),(AI ((↑w:Int))),(AN 0),((((↑i:Int)+1):Int)=(↑(i+1):Int)),(AN 2),(NL c c),(AA c (fun i_1=>[.p (.int .i64 (↑n:Int)),.p (.seq false 2 ((G i_1).1) (fun i_2=>[.int .i64 (((G i_1).2 i_2).1),.int .i64 (((G i_1).2 i_2).2.1)]))])),(AN 2),(NL 1 1),(NL 1 1),(AI ((↑n:Int))),(AN 0),(AN k),(AN 2),(NL k k),(AA k (fun i_1=>[.p (.int .i64 ((h i_1).1)),.p (.int .i64 ((h i_1).2.1))]))]):=by kernel_rfl
theorem eC3t (n:Nat) (tg':Int) (M:Nat) (A:Nat→T_Bar) (w c:Nat) (G:Nat→T_BarS) (i k:Nat) (h:Nat→T_Bar) (b:Bool) :
    zM 0 [rg 4,.dec false,rm [(7,oc [] (.p (.bool b)))] 1,.dec true,rg 5,rg 3,.head] zf9 (SRn1 n tg' M A w c G i k h) [515] 1 (SRgs n tg' M A (w+1) (c+1) (snocB c G (k,h))) =
    some (zf72,[((decide ((↑i:Int)<(↑M:Int)))=false),(NT 0 1),((((↑k:Int)==tg')=true)→(NT 0 1)),(AG ((↑k:Int)==tg')),((((↑k:Int)==tg')=true)→ (AN 2)),((((↑k:Int)==tg')=true)→(NL k k)),((((↑k:Int)==tg')=true)→ zE 168 [(zf97 n k h)] [] (.p (.bool b))),(AG ((↑k:Int)==tg')),((bif (↑k:Int)==tg' then b else false)=true),(NT 0 1),(NL 1 1),(NL c c),(NL ((c+1)*32) 140737488355328),(NL (c+1) 9223372036854775807),(ZLo ((↑w:Int)+1)),(ZHi ((↑w:Int)+1)),(AN M),(AP M (bRw A)),(AI ((↑n:Int))),(AI (tg')),(AN 0),(AN ((c+1))),((((↑w:Int)+1):Int)=(↑(w+1):Int)),(AN 2),(NL (c+1) (c+1)),(CV [(515,⟨false,2,(c+1),(fun i_2=>(if (i_2<c) then [.p (.int .i64 (↑n:Int)),.p (.seq false 2 ((G i_2).1) (fun i_3=>[.int .i64 (((G i_2).2 i_3).1),.int .i64 (((G i_2).2 i_3).2.1)]))] else [.p (.int .i64 (↑n:Int)),.ar 2 2 0 k]))⟩),(483,⟨false,2,1,(fun i_2=>[.p (.int .i64 (↑n:Int)),.ar 2 2 0 k])⟩),(1,⟨true,2,1,(fun i_2=>[.p (.int .i64 (↑n:Int)),.ar 2 2 0 k])⟩),(2,⟨false,2,k,(fun i_2=>[.p (.int .i64 ((h i_2).1)),.p (.int .i64 ((h i_2).2.1))])⟩)] [515] 1 (c+1) (fun i_1=>if (i_1<c) then [.p (.int .i64 (↑n:Int)),.p (.seq false 2 ((G i_1).1) (fun i_2=>[.int .i64 (((G i_1).2 i_2).1),.int .i64 (((G i_1).2 i_2).2.1)]))] else [.p (.int .i64 (↑n:Int)),.ar 2 2 0 k]) (fun i_1=>[.p (.int .i64 (↑n:Int)),.p (.seq false 2 (if i_1<c then (G i_1).1 else k) (fun i_2=>[.int .i64 (if i_1<c then ((G i_1).2 i_2).1 else ((k,h).2 i_2).1),.int .i64 (if i_1<c then ((G i_1).2 i_2).2.1 else ((k,h).2 i_2).2.1)]))]))]):=by kernel_rfl
theorem eC3f (n:Nat) (tg':Int) (M:Nat) (A:Nat→T_Bar) (w c:Nat) (G:Nat→T_BarS) (i k:Nat) (h:Nat→T_Bar) (b:Bool) :
    zM 0 [rg 4,.dec false,rm [(7,oc [] (.p (.bool b)))] 1,.dec false,rg 3,.head] zf9 (SRn1 n tg' M A w c G i k h) [0] 1 (SRgs n tg' M A (w+1) c G) =
    some (zf72,[((decide ((↑i:Int)<(↑M:Int)))=false),(NT 0 1),((((↑k:Int)==tg')=true)→(NT 0 1)),(AG ((↑k:Int)==tg')),((((↑k:Int)==tg')=true)→ (AN 2)),((((↑k:Int)==tg')=true)→(NL k k)),((((↑k:Int)==tg')=true)→ zE 168 [(zf97 n k h)] [] (.p (.bool b))),(AG ((↑k:Int)==tg')),((bif (↑k:Int)==tg' then b else false)=false),(ZLo ((↑w:Int)+1)),(ZHi ((↑w:Int)+1)),(AN M),(AP M (bRw A)),(AI ((↑n:Int))),(AI (tg')),(AN 0),(AN c),((((↑w:Int)+1):Int)=(↑(w+1):Int)),(AN 2),(NL c c),(AA c (fun i_1=>[.p (.int .i64 (↑n:Int)),.p (.seq false 2 ((G i_1).1) (fun i_2=>[.int .i64 (((G i_1).2 i_2).1),.int .i64 (((G i_1).2 i_2).2.1)]))]))]):=by kernel_rfl
theorem eDy (n:Int) :
    zS Tryz.f51 [rg 2,rm [(1,oc [] (.p (.bool false)))] 1,.dec true,rg 3] [.p (.int .i64 n)] [160] [(0,gsOb n 0 (fun _=>(0,fun _=>(0,0,()))))] (.tup [.ar 2 0 0 0,.p (.bool false)]) =
    some [zE 121 [.p (.int .i64 n),.p (.int .i64 1),.p (.int .i64 5)] [] (.p (.bool false)),((!false)=true),(AN 0),(AN 0),(false=false),(AN 2),(NL 0 0),(∀ i:Nat,(((i:Nat)<0)→(All []∧(([.p (.int .i64 0),.p (.nil)]:List AV)=[.p (.int .i64 n),.p (.seq false 2 0 (fun i_1=>[.int .i64 0,.int .i64 0]))])))),(∀ i:Nat,(((i:Nat)<0)→All [(false=false),(AE 0)]))]:=by kernel_rfl
theorem eDz (n:Nat) (M:Nat) (A:Nat→T_Bar) (c:Nat) (G:Nat→T_BarS) :
    zS Tryz.f51 [rg 2,rm [(1,oc [] (.p (.bool true)))] 1,.dec false,rm [(1,oc [(0,brOb M A)] (.agg [.p (.int .i64 n),.ar 2 0 0 M])),(6,oc [(0,gsOb n c G)] (.ar 2 0 0 c))] 2] [.p (.int .i64 n)] [416] [(0,gsOb n c G)] (.tup [.ar 2 0 0 c,.p (.bool true)]) =
    some [zE 121 [.p (.int .i64 (↑n:Int)),.p (.int .i64 1),.p (.int .i64 5)] [] (.p (.bool true)),((!true)=false),zE 123 [.p (.int .i64 (↑n:Int))] (zf107 M A) (.agg [.p (.int .i64 (↑n:Int)),.ar 2 0 0 M]),(ZLo (2*(↑n:Int))),(ZHi (2*(↑n:Int))),(ZLo (2*(↑n:Int) - 3)),(ZHi (2*(↑n:Int) - 3)),(AN 2),(NL M M),zE 122 [.p (.seq true 2 M (bRw A)),.p (.int .i64 (↑n:Int)),.p (.int .i64 (if true=true then if 2*(↑n:Int) - 3>0 then 2*(↑n:Int) - 3 else 0 else if 2*(↑n:Int) - 3<0 then 2*(↑n:Int) - 3 else 0))] [(0,⟨false,2,c,(fun i=>[.p (.int .i64 (↑n:Int)),.p (.seq false 2 ((G i).1) (fun i_1=>[.int .i64 (((G i).2 i_1).1),.int .i64 (((G i).2 i_1).2.1)]))])⟩)] (.ar 2 0 0 c),(AN 0),(AN c),(true=true),(AN 2),(NL c c),(AA c (fun i=>[.p (.int .i64 (↑n:Int)),.p (.seq false 2 ((G i).1) (fun i_1=>[.int .i64 (((G i).2 i_1).1),.int .i64 (((G i).2 i_1).2.1)]))])),(∀ i:Nat,(((i:Nat)<c)→All [(false=false),(AE (((G i).1)))]))]:=by kernel_rfl
theorem eNt_s (n:Int) (c:Nat) (G:Nat→T_BarS) :
    zS Tryz.f53 [rg 1,rm [(1,oc [(0,gsOb n c G)] (.tup [.ar 2 0 0 c,.p (.bool true)]))] 5,rg 2,.dec false,rg 3] [.p (.int .i64 n)] [] [] (.p (.int .i64 c)) =
    some [zE 51 [.p (.int .i64 n)] (zf58 c n G) (.tup [.ar 2 0 0 c,.p (.bool true)]),((!true)=false),(AI ((↑c:Int)))]:=by kernel_rfl
theorem eNf_s (n:Int) (c:Nat) (G:Nat→T_BarS) :
    zS Tryz.f53 [rg 1,rm [(1,oc [(0,gsOb n c G)] (.tup [.ar 2 0 0 c,.p (.bool false)]))] 5,rg 2,.dec true,rg 1] [.p (.int .i64 n)] [] [] (.p (.int .i64 (-1))) =
    some [zE 51 [.p (.int .i64 n)] (zf58 c n G) (.tup [.ar 2 0 0 c,.p (.bool false)]),((!false)=true),(AI ((-1)))]:=by kernel_rfl
theorem eNt_i (n:Int) (c:Nat) (G:Nat→T_BarS) :
    zS Tryz.f52 [rg 1,rm [(1,oc [(0,gsOb n c G)] (.tup [.ar 2 0 0 c,.p (.bool true)]))] 5,rg 2,.dec false,rg 3] [.p (.int .i64 n)] [] [] (.p (.int .i64 c)) =
    some [zE 50 [.p (.int .i64 n)] (zf58 c n G) (.tup [.ar 2 0 0 c,.p (.bool true)]),((!true)=false),(AI ((↑c:Int)))]:=by kernel_rfl
theorem eNf_i (n:Int) (c:Nat) (G:Nat→T_BarS) :
    zS Tryz.f52 [rg 1,rm [(1,oc [(0,gsOb n c G)] (.tup [.ar 2 0 0 c,.p (.bool false)]))] 5,rg 2,.dec true,rg 1] [.p (.int .i64 n)] [] [] (.p (.int .i64 (-1))) =
    some [zE 50 [.p (.int .i64 n)] (zf58 c n G) (.tup [.ar 2 0 0 c,.p (.bool false)]),((!false)=true),(AI ((-1)))]:=by kernel_rfl
noncomputable def rkG (v:T_Graph):Nat:=(accI v.1.toNat 2 3 v.2.1.2 v.2.1.1).length
noncomputable def frGr (v:T_Graph):Int:=if isGraphF v=true then maxI v.1 - (rkG v:Int) else -1
noncomputable def mrG (v:T_Graph):Bool:=bif frGr v==0 then (v.2.1.1:Int)==(rkG v:Int) else false
theorem maxI_b {n:Int} (h:n≤8):0≤maxI n∧maxI n≤13:=by
  unfold maxI;split<;>omega
theorem con_FreedomOf_s (v:T_Graph) (hs:smS s_Graph v):zE 211 [graphA v] [] (.p (.int .i64 (frGr v))):=by
  have hcg:=con_IsGraph_s v hs
  cases hg:isGraphF v with
  | false =>
    rw [hg] at hcg
    rw [show frGr v = -1 by simp [frGr,hg]]
    refine csZ Tryz.func211 (fun c hc=>?_)
    refine pkZ Tryz.func211 hc (eFy_s v) ?_
    and_intros
    all_goals (first | exact zN | (intros;exact hcg) | (simp;done))
  | true =>
    rw [hg] at hcg
    obtain ⟨N,nb,g,rfl⟩:=graph_cases v hg
    obtain ⟨hN,hnb,_⟩:=graph_in hg
    have hr:=con_RankOf_s hg 2 3 (by omega) (by omega)
    have hl:=accI_len N 2 3 g nb
    have hm:=maxI_b (n:=(N:Int)) (by omega)
    rw [show frGr ((N:Int),(nb,g),())=maxI N - ((accI N 2 3 g nb).length:Nat) by simp [frGr,hg,rkG]]
    refine csZ Tryz.func211 (fun c hc=>?_)
    refine pkZ Tryz.func211 hc (eFz_s g nb N (accI N 2 3 g nb).length) ?_
    and_intros
    all_goals (first | exact zN | (intros;exact hcg) | (exact hr) | (simp only [if_true];show _≤maxI N - _;omega) | (simp only [if_true];show maxI N - _≤_;omega) | (simp;done) | (simp only [if_true];rfl))
theorem con_FreedomOf_i (v:T_Graph) (hs:smS s_Graph v):zE 170 [graphA v] [] (.p (.int .i64 (frGr v))):=by
  have hcg:=con_IsGraph_i v hs
  cases hg:isGraphF v with
  | false =>
    rw [hg] at hcg
    rw [show frGr v = -1 by simp [frGr,hg]]
    refine csZ Tryz.func170 (fun c hc=>?_)
    refine pkZ Tryz.func170 hc (eFy_i v) ?_
    and_intros
    all_goals (first | exact zN | (intros;exact hcg) | (simp;done))
  | true =>
    rw [hg] at hcg
    obtain ⟨N,nb,g,rfl⟩:=graph_cases v hg
    obtain ⟨hN,hnb,_⟩:=graph_in hg
    have hr:=con_RankOf_i hg 2 3 (by omega) (by omega)
    have hl:=accI_len N 2 3 g nb
    have hm:=maxI_b (n:=(N:Int)) (by omega)
    rw [show frGr ((N:Int),(nb,g),())=maxI N - ((accI N 2 3 g nb).length:Nat) by simp [frGr,hg,rkG]]
    refine csZ Tryz.func170 (fun c hc=>?_)
    refine pkZ Tryz.func170 hc (eFz_i g nb N (accI N 2 3 g nb).length) ?_
    and_intros
    all_goals (first | exact zN | (intros;exact hcg) | (exact hr) | (simp only [if_true];show _≤maxI N - _;omega) | (simp only [if_true];show maxI N - _≤_;omega) | (simp;done) | (simp only [if_true];rfl))
theorem con_IsRigid_s (v:T_Graph) (hs:smS s_Graph v):zE 184 [graphA v] [] (.p (.bool (frGr v==0))):=by
  have hf:=con_FreedomOf_s v hs
  refine csZ Tryz.func184 (fun c hc=>?_)
  refine pkZ Tryz.func184 hc (eR_s v _) ?_
  and_intros
  all_goals (first | exact zN | (exact hf) | (simp;done))
theorem con_IsRigid_i (v:T_Graph) (hs:smS s_Graph v):zE 127 [graphA v] [] (.p (.bool (frGr v==0))):=by
  have hf:=con_FreedomOf_i v hs
  refine csZ Tryz.func127 (fun c hc=>?_)
  refine pkZ Tryz.func127 hc (eR_i v _) ?_
  and_intros
  all_goals (first | exact zN | (exact hf) | (simp;done))
theorem frG_graph {v:T_Graph} (h:(frGr v==0)=true):isGraphF v=true:=by
  cases hg:isGraphF v with
  | true=>rfl
  | false=>simp [frGr,hg] at h
theorem con_IsMin_s (v:T_Graph) (hs:smS s_Graph v):zE 168 [graphA v] [] (.p (.bool (mrG v))):=by
  have hf:=con_IsRigid_s v hs
  have hr:(frGr v==0)=true→zE 63 [graphA v,.p (.int .i64 2),.p (.int .i64 3)] [] (.p (.int .i64 (rkG v:Nat))):=by
    intro h
    have hg:=frG_graph h
    obtain ⟨N,nb,g,rfl⟩:=graph_cases v hg
    exact con_RankOf_s hg 2 3 (by omega) (by omega)
  refine csZ Tryz.func168 (fun c hc=>?_)
  refine pkD Tryz.func168 hc (eM_s v (frGr v==0) (rkG v)) ?_
  and_intros
  all_goals (first | exact zI | (exact hf) | (intro h;exact hr h) | (intro h;exact h) | (simp;done) | rfl)
theorem con_IsMin_i (v:T_Graph) (hs:smS s_Graph v):zE 58 [graphA v] [] (.p (.bool (mrG v))):=by
  have hf:=con_IsRigid_i v hs
  have hr:(frGr v==0)=true→zE 62 [graphA v,.p (.int .i64 2),.p (.int .i64 3)] [] (.p (.int .i64 (rkG v:Nat))):=by
    intro h
    have hg:=frG_graph h
    obtain ⟨N,nb,g,rfl⟩:=graph_cases v hg
    exact con_RankOf_i hg 2 3 (by omega) (by omega)
  refine csZ Tryz.func58 (fun c hc=>?_)
  rw [show mrG v=(bif frGr v==0 then (rkG v:Int)==(v.2.1.1:Int) else false) by unfold mrG;rw [show ((v.2.1.1:Int)==(rkG v:Int))=((rkG v:Int)==(v.2.1.1:Int)) from by rw [Bool.eq_iff_iff];simp only [beq_iff_eq];exact eq_comm]]
  refine pkD Tryz.func58 hc (eM_i v (frGr v==0) (rkG v)) ?_
  and_intros
  all_goals (first | exact zI | (exact hf) | (intro h;exact hr h) | (intro h;exact h) | (simp;done) | rfl)
def zB:T_BarS:=(0,fun _=>(0,0,()))
def cinF (a:Nat):Nat→Nat→T_BarS→T_BarS
  | _,0,x=>x
  | b,d+1,x=>cinF a (b+1) d (x.1+1,snoc x.1 x.2 ((a:Int),(b:Int),()))
def cgF (n:Nat):Nat→Nat→T_BarS→T_BarS
  | _,0,x=>x
  | a,d+1,x=>cgF n (a+1) d (cinF a (a+1) (n - (a+1)) x)
def cgD (n:Nat):T_BarS:=cgF n 0 n zB
theorem cinF_n (a:Nat):∀ d b x,(cinF a b d x).1=x.1+d:=by
  intro d
  induction d with
  | zero=>intro b x;rfl
  | succ d ih=>intro b x;rw [cinF,ih];simp only;omega
theorem con_Complete_s (n:Nat) (h1:1≤n) (h7:n≤7):zE 123 [.p (.int .i64 n)] [(0,brOb (cgD n).1 (cgD n).2)] (.agg [.p (.int .i64 n),.ar 2 0 0 (cgD n).1]):=by
  have hin:=con_l1In n 1 7
  rw [show inB (n:Int) 1 7=true by simp [inB];omega] at hin
  refine csZ Tryz.func123 (fun c hc=>?_)
  have li:∀ a,a<n→∀ d b cc h,b+d=n→cc+d≤8*a+8→zR c 123 zf42 (SGs n (a+1) (cinF a b d (cc,h)).1 (cinF a b d (cc,h)).2) (Post c [(0,brOb (cgD n).1 (cgD n).2)] (.agg [.p (.int .i64 n),.ar 2 0 0 (cgD n).1])) →
      zR c 123 zf15 (SGs1 n a b cc h) (Post c [(0,brOb (cgD n).1 (cgD n).2)] (.agg [.p (.int .i64 n),.ar 2 0 0 (cgD n).1])):=by
    intro a ha d
    induction d with
    | zero =>
      intro b cc h hb hcc hk
      have hd:decide ((b:Int)<(n:Int))=false:=by simp;omega
      refine pcD hc (eGs3 n a b cc h) ?_ hk
      and_intros
      all_goals (first | exact zN | (exact hd) | (intro j hj;simp [All]))
    | succ d ih =>
      intro b cc h hb hcc hk
      have hd:decide ((b:Int)<(n:Int))=true:=by simp;omega
      refine pcD hc (eGs2 n a b cc h) ?_ (ih (b+1) (cc+1) _ (by omega) (by omega) hk)
      and_intros
      all_goals (first | exact zI | (exact hd) | (intro j hj;by_cases h':j<cc<;>simp [h',snoc,cvtL,cvt,tg,tru,All]))
  have lo:∀ d a cc h,a+d=n→cc≤8*a→cgF n a d (cc,h)=cgD n→zR c 123 zf42 (SGs n a cc h) (Post c [(0,brOb (cgD n).1 (cgD n).2)] (.agg [.p (.int .i64 n),.ar 2 0 0 (cgD n).1])):=by
    intro d
    induction d with
    | zero =>
      intro a cc h ha hcc he
      have hd:decide ((a:Int)<(n:Int))=false:=by simp;omega
      rw [← he]
      refine pkZ Tryz.func123 hc (eGse n a cc h) ?_
      and_intros
      all_goals (first | exact zI | (exact hd) | (intro j hj;simp [All]))
    | succ d ih =>
      intro a cc h ha hcc he
      have hd:decide ((a:Int)<(n:Int))=true:=by simp;omega
      have hn:=cinF_n a (n - (a+1)) (a+1) (cc,h)
      refine pcD hc (eGs1 n a cc h) ?_ (li a (by omega) (n - (a+1)) (a+1) cc h (by omega) (by omega) (ih (a+1) _ _ (by omega) (by rw [hn];simp only;omega) he))
      and_intros
      all_goals (first | exact zN | (exact hd) | (intro j hj;simp [All]))
  refine pcD hc (eGs0 n) ?_ (lo n 0 0 _ (by omega) (by omega) rfl)
  and_intros
  all_goals (first | exact zI | (exact hin) | rfl | (simp;done) | (intro j hj;simp [All]))
theorem con_Complete_i (n:Nat) (h1:1≤n) (h7:n≤7):zE 118 [.p (.int .i64 n)] [(0,brOb (cgD n).1 (cgD n).2)] (.agg [.p (.int .i64 n),.ar 2 0 0 (cgD n).1]):=by
  have hin:=con_within n 1 7
  rw [show inB (n:Int) 1 7=true by simp [inB];omega] at hin
  refine csZ Tryz.func118 (fun c hc=>?_)
  have li:∀ a,a<n→∀ d b cc h,b+d=n→cc+d≤8*a+8→zR c 118 zf43 (SGi n (a+1) (cinF a b d (cc,h)).1 (cinF a b d (cc,h)).2) (Post c [(0,brOb (cgD n).1 (cgD n).2)] (.agg [.p (.int .i64 n),.ar 2 0 0 (cgD n).1])) →
      zR c 118 zf12 (SGi1 n a b cc h) (Post c [(0,brOb (cgD n).1 (cgD n).2)] (.agg [.p (.int .i64 n),.ar 2 0 0 (cgD n).1])):=by
    intro a ha d
    induction d with
    | zero =>
      intro b cc h hb hcc hk
      have hd:decide ((b:Int)<(n:Int))=false:=by simp;omega
      refine pcD hc (eGi3 n a b cc h) ?_ hk
      and_intros
      all_goals (first | exact zN | (exact hd) | (intro j hj;simp [All]))
    | succ d ih =>
      intro b cc h hb hcc hk
      have hd:decide ((b:Int)<(n:Int))=true:=by simp;omega
      refine pcD hc (eGi2 n a b cc h) ?_ (ih (b+1) (cc+1) _ (by omega) (by omega) hk)
      and_intros
      all_goals (first | exact zI | (exact hd) | (intro j hj;by_cases h':j<cc<;>simp [h',snoc,cvtL,cvt,tg,tru,All]))
  have lo:∀ d a cc h,a+d=n→cc≤8*a→cgF n a d (cc,h)=cgD n→zR c 118 zf43 (SGi n a cc h) (Post c [(0,brOb (cgD n).1 (cgD n).2)] (.agg [.p (.int .i64 n),.ar 2 0 0 (cgD n).1])):=by
    intro d
    induction d with
    | zero =>
      intro a cc h ha hcc he
      have hd:decide ((a:Int)<(n:Int))=false:=by simp;omega
      rw [← he]
      refine pkZ Tryz.func118 hc (eGie n a cc h) ?_
      and_intros
      all_goals (first | exact zI | (exact hd) | (intro j hj;simp [All]))
    | succ d ih =>
      intro a cc h ha hcc he
      have hd:decide ((a:Int)<(n:Int))=true:=by simp;omega
      have hn:=cinF_n a (n - (a+1)) (a+1) (cc,h)
      refine pcD hc (eGi1 n a cc h) ?_ (li a (by omega) (n - (a+1)) (a+1) cc h (by omega) (by omega) (ih (a+1) _ _ (by omega) (by rw [hn];simp only;omega) he))
      and_intros
      all_goals (first | exact zN | (exact hd) | (intro j hj;simp [All]))
  refine pcD hc (eGi0 n) ?_ (lo n 0 0 _ (by omega) (by omega) rfl)
  and_intros
  all_goals (first | exact zI | (exact hin) | rfl | (simp;done) | (intro j hj;simp [All]))
theorem cgD_le (n:Nat) (h:n≤5):(cgD n).1≤10:=by
  rcases n with _ | _ | _ | _ | _ | _ | n
  · decide
  · decide
  · decide
  · decide
  · decide
  · decide
  · omega
def sF (w:Int):Nat→Nat→T_IntS→T_IntS
  | _,0,x=>x
  | i,d+1,x=>sF w (i+1) d (bif btE w i then (x.1+1,snocI x.1 x.2 i) else x)
def obF (S:T_IntS) (A:Nat→T_Bar):Nat→Nat→T_BarS→T_BarS
  | _,0,x=>x
  | i,d+1,x=>obF S A (i+1) d (bif hasI S.2 i S.1 then (x.1+1,snoc x.1 x.2 (A i)) else x)
def bF (w:Int) (A:Nat→T_Bar):Nat→Nat→T_BarS→T_BarS
  | _,0,x=>x
  | i,d+1,x=>bF w A (i+1) d (bif btE w i then (x.1+1,snoc x.1 x.2 (A i)) else x)
theorem has_snocI (f:Nat→Int) (p y:Int) (c:Nat):hasI (snocI c f p) y (c+1)=(hasI f y c||p==y):=by
  have h1:∀ k,k≤c→hasI (snocI c f p) y k=hasI f y k:=by
    intro k
    induction k with
    | zero=>intro _;rfl
    | succ k ih=>intro hk;rw [hasI,hasI,ih (by omega)];simp [snocI,show k<c by omega]
  rw [hasI,h1 c (Nat.le_refl c)];simp [snocI]
theorem has_sF (w:Int):∀ d i x (y:Nat),hasI (sF w i d x).2 y (sF w i d x).1=(hasI x.2 y x.1||(decide (i≤y∧y<i+d)&&btE w y)):=by
  intro d
  induction d with
  | zero=>intro i x y;simp only [sF];rw [show decide (i≤y∧y<i+0)=false from decide_eq_false (by omega)];simp
  | succ d ih =>
    intro i x y
    rw [sF,ih]
    by_cases hy:y=i
    · subst hy
      rw [show decide (y+1≤y∧y<y+1+d)=false from decide_eq_false (by omega),show decide (y≤y∧y<y+(d+1))=true from decide_eq_true (by omega)]
      cases hb:btE w y with
      | true=>simp only [cond_true];rw [has_snocI];simp
      | false=>simp
    · rw [show decide (i+1≤y∧y<i+1+d)=decide (i≤y∧y<i+(d+1)) by rw [decide_eq_decide];omega]
      cases hb:btE w i with
      | true =>
        simp only [cond_true];rw [has_snocI,show (((i:Nat):Int)==(y:Int))=false by simp;omega];simp
      | false=>simp
theorem sF_n (w:Int) (A:Nat→T_Bar):∀ d i x y,x.1=y.1→(bF w A i d x).1=(sF w i d y).1:=by
  intro d
  induction d with
  | zero=>intro i x y h;exact h
  | succ d ih =>
    intro i x y h
    rw [bF,sF]
    exact ih _ _ _ (by cases btE w i<;>simp [h])
theorem sF_le (w:Int):∀ d i x,(sF w i d x).1≤x.1+d:=by
  intro d
  induction d with
  | zero=>intro i x;exact Nat.le_refl _
  | succ d ih =>
    intro i x
    rw [sF]
    have:=ih (i+1) (bif btE w i then (x.1+1,snocI x.1 x.2 i) else x)
    cases h:btE w i<;>simp only [h,cond_true,cond_false] at this ⊢<;>omega
theorem obF_bF (w:Int) (S:T_IntS) (A:Nat→T_Bar):∀ (d i:Nat) (x:T_BarS),(∀ j:Nat,i≤j→j<i+d→hasI S.2 (j:Int) S.1=btE w j)→obF S A i d x=bF w A i d x:=by
  intro d
  induction d with
  | zero=>intro i x h;rfl
  | succ d ih =>
    intro i x h
    rw [obF,bF,h i (by omega) (by omega)]
    exact ih _ _ (fun j h1 h2=>h j (by omega) (by omega))
theorem con_setOfE (w M:Nat) (hM:M≤100):zE 119 [.p (.int .i64 w),.p (.int .i64 M)] [(0,iOb (sF w 0 M (0,fun _=>0)).1 (sF w 0 M (0,fun _=>0)).2)] (.ar 1 0 0 (sF w 0 M (0,fun _=>0)).1):=by
  refine csZ Tryz.func119 (fun c hc=>?_)
  generalize hR:sF w 0 M (0,fun _=>0)=R
  have lp:∀ d i cc f,i+d=M→cc≤i→sF w i d (cc,f)=R→zR c 119 zf70 (SSo w M i cc f) (Post c [(0,iOb R.1 R.2)] (.ar 1 0 0 R.1)):=by
    intro d
    induction d with
    | zero =>
      intro i cc f hi hcc he
      have hd:decide ((i:Int)<(M:Int))=false:=by simp;omega
      rw [← he]
      refine pkZ Tryz.func119 hc (eSe w M i cc f) ?_
      and_intros
      all_goals (first | exact zN | (exact hd) | (intro j hj;simp [All]))
    | succ d ih =>
      intro i cc f hi hcc he
      have hd:decide ((i:Int)<(M:Int))=true:=by simp;omega
      rw [sF] at he
      cases hb:btE w i with
      | true =>
        rw [hb] at he
        have hb':(bitI BinOp.and IntKind.i64 (shrI IntKind.i64 (w:Int) (i:Int)) 1==1)=true:=hb
        refine pcZ hc (eSt w M i cc f) ?_ (ih (i+1) (cc+1) _ (by omega) (by omega) he)
        and_intros
        all_goals (first | exact zN | (exact hd) | (exact hb') | (intro j hj;by_cases h':j<cc<;>simp [h',snocI,cvtL,cvt,tg,tru,All]))
      | false =>
        rw [hb] at he
        have hb':(bitI BinOp.and IntKind.i64 (shrI IntKind.i64 (w:Int) (i:Int)) 1==1)=false:=hb
        refine pcZ hc (eSf w M i cc f) ?_ (ih (i+1) cc _ (by omega) (by omega) he)
        and_intros
        all_goals (first | exact zN | (exact hd) | (exact hb') | (intro j hj;simp [All]))
  refine pcZ hc (eSz w M) ?_ (lp M 0 0 _ (by omega) (by omega) hR)
  and_intros
  all_goals (first | exact zN | (intro j hj;simp [All]))
theorem con_OnlyBars (n:Int) (M:Nat) (A:Nat→T_Bar) (S:T_IntS) (hM:M≤100) (hS:S.1≤1000) :
    zE 120 [gaI n M A,inL S] [(0,brOb (obF S A 0 M zB).1 (obF S A 0 M zB).2)] (.agg [.p (.int .i64 n),.ar 2 0 0 (obF S A 0 M zB).1]):=by
  refine csZ Tryz.func120 (fun c hc=>?_)
  generalize hR:obF S A 0 M zB=R
  have lp:∀ d i cc f,i+d=M→cc≤i→obF S A i d (cc,f)=R→zR c 120 zf71 (SOb n M A S i cc f) (Post c [(0,brOb R.1 R.2)] (.agg [.p (.int .i64 n),.ar 2 0 0 R.1])):=by
    intro d
    induction d with
    | zero =>
      intro i cc f hi hcc he
      have hd:decide ((i:Int)<(M:Int))=false:=by simp;omega
      rw [← he]
      refine pkZ Tryz.func120 hc (eOe n M A S i cc f) ?_
      and_intros
      all_goals (first | exact zI | (exact hd) | (intro j hj;simp [All]))
    | succ d ih =>
      intro i cc f hi hcc he
      have hd:decide ((i:Int)<(M:Int))=true:=by simp;omega
      have hh:=con_Contains S (i:Int) (by omega)
      rw [obF] at he
      cases hb:hasI S.2 i S.1 with
      | true =>
        rw [hb] at he hh
        refine pcD hc (eOt n M A S i cc f) ?_ (ih (i+1) (cc+1) _ (by omega) (by omega) he)
        and_intros
        all_goals (first | exact zI | (exact hd) | (exact hh) | (intro j hj;by_cases h':j<cc<;>simp [h',snoc,cvtL,cvt,tg,tru,All]))
      | false =>
        rw [hb] at he hh
        refine pcD hc (eOf n M A S i cc f) ?_ (ih (i+1) cc _ (by omega) (by omega) he)
        and_intros
        all_goals (first | exact zI | (exact hd) | (exact hh) | (intro j hj;simp [All]))
  refine pcD hc (eOz n M A S) ?_ (lp M 0 0 _ (by omega) (by omega) hR)
  and_intros
  all_goals (first | exact zI | (simp;done) | (intro j hj;simp [All]))
def dlB (h:Nat→T_Bar) (e i:Nat):T_Bar:=if i<e then h i else h (i+1)
def GBi (g:Nat→T_Bar) (nb N:Nat) (r:Int) (i c:Nat) (f:Nat→Int):St :=
  ⟨[grG g nb N,.p (.int .i64 2),.p (.int .i64 3),.pt 2 0 0 0,.p .any,.p .any,.p .any,.ar 1 1 0 c,.p (.int .i64 r)]++List.replicate 13 anyA++[.p (.int .i64 nb),.p (.int .i64 i)]++List.replicate 20 anyA,[(0,bxG g nb N),(1,iOb c f)],2⟩
def GBs (g:Nat→T_Bar) (nb N:Nat) (r:Int) (i c:Nat) (f:Nat→Int):St :=
  ⟨[grG g nb N,.p (.int .i64 2),.p (.int .i64 3),.pt 2 0 0 0,.p .any,.p .any,.p .any,.ar 1 1 0 c,.p (.int .i64 r),.p (.int .i64 i)]++List.replicate 35 anyA,[(0,bxG g nb N),(1,iOb c f)],2⟩
theorem gRi (g:Nat→T_Bar) (nb N e:Nat) :
    zS Tryz.f234 [rg 3,rm [(1,oc [(0,brOb nb g)] (.agg [.p (.int .i64 N),.ar 2 0 0 nb]))] 2,rm [(1,oc [] (.p (.bool true))),(7,oc [] (.p (.bool true)))] 2,.dec false,rg 12,rg 3] [grG g nb N,.p (.int .i64 e)] [896] [(0,brOb (nb - 1) (dlB g e))] ((zf115 N nb)) =
    some (zD [(NT 0 1),zE 141 [(zf101 N nb g)] (zf107 nb g) (.agg [.p (.int .i64 (↑N:Int)),.ar 2 0 0 nb]),((true=true)→ (AN 1)),zE 130 [(zf101 N nb g)] [] (.p (.bool true)),(AG (!!true)),(((!!true)=true)→(NT 0 1)),(((!!true)=true)→(ZLo ((↑nb:Int) - 1))),(((!!true)=true)→(ZHi ((↑nb:Int) - 1))),(((!!true)=true)→ zE 90 [.p (.int .i64 (↑e:Int)),.p (.int .i64 0),.p (.int .i64 ((↑nb:Int) - 1))] [] (.p (.bool true))),(((!true)=false)→ ((!!true)=true)),((bif !true then true else !true)=false),(IL 0 0),(IL 0 (↑e:Int)),(IL (↑e:Int) (↑nb:Int)),(ZLo ((↑e:Int)+1)),(ZHi ((↑e:Int)+1)),(IL 0 ((↑e:Int)+1)),(IL ((↑e:Int)+1) (↑nb:Int)),(IL (↑nb:Int) (↑nb:Int)),(NL (nb - (e+1)+(e+1)) nb),(NL e nb),(NL ((e+(nb - (e+1)))*16) 140737488355328),(NL (e+(nb - (e+1))) 9223372036854775807),(AI ((↑N:Int))),(AN 0),(((e+(nb - (e+1))):Nat)=(nb - 1)),(true=true),(AN 2),(NL (nb - 1) (e+(nb - (e+1)))),(∀ i:Nat,(((i:Nat)<(nb - 1))→(All (cvtL false [(32,⟨true,2,1,(fun i_1=>[.p (.int .i64 (↑N:Int)),.ar 2 896 0 (e+(nb - (e+1)))])⟩),(160,⟨true,2,1,(fun i_1=>[.p (.int .i64 (↑N:Int)),.ar 2 896 0 (e+(nb - (e+1)))])⟩),(896,⟨false,2,(e+(nb - (e+1))),(fun i_1=>(if (i_1<e) then [.p (.int .i64 ((g i_1).1)),.p (.int .i64 ((g i_1).2.1))] else [.p (.int .i64 ((g (i_1 - e+(e+1))).1)),.p (.int .i64 ((g (i_1 - e+(e+1))).2.1))]))⟩),(0,⟨true,2,1,(fun i_1=>[.p (.int .i64 (↑N:Int)),.p (.seq true 2 nb (bRw g))])⟩)] [896] 1 (if (i<e) then [.p (.int .i64 ((g i).1)),.p (.int .i64 ((g i).2.1))] else [.p (.int .i64 ((g (i - e+(e+1))).1)),.p (.int .i64 ((g (i - e+(e+1))).2.1))])).2∧(((cvtL false [(32,⟨true,2,1,(fun i_1=>[.p (.int .i64 (↑N:Int)),.ar 2 896 0 (e+(nb - (e+1)))])⟩),(160,⟨true,2,1,(fun i_1=>[.p (.int .i64 (↑N:Int)),.ar 2 896 0 (e+(nb - (e+1)))])⟩),(896,⟨false,2,(e+(nb - (e+1))),(fun i_1=>(if (i_1<e) then [.p (.int .i64 ((g i_1).1)),.p (.int .i64 ((g i_1).2.1))] else [.p (.int .i64 ((g (i_1 - e+(e+1))).1)),.p (.int .i64 ((g (i_1 - e+(e+1))).2.1))]))⟩),(0,⟨true,2,1,(fun i_1=>[.p (.int .i64 (↑N:Int)),.p (.seq true 2 nb (bRw g))])⟩)] [896] 1 (if (i<e) then [.p (.int .i64 ((g i).1)),.p (.int .i64 ((g i).2.1))] else [.p (.int .i64 ((g (i - e+(e+1))).1)),.p (.int .i64 ((g (i - e+(e+1))).2.1))])).1:List AV)=[.p (.int .i64 ((dlB g e i).1)),.p (.int .i64 ((dlB g e i).2.1))])))),(AE ((nb - 1)))] [0,1,0,2,0,3,4,5,4,4,6,7,4,4,8,4,9,10,0,11,12,13,0,14,15,16,17,18,19,20,21,22,0,2,0,0,2,0,23,24,25,26,27,28,29,30]):=by kernel_rfl
theorem gRs (g:Nat→T_Bar) (nb N e:Nat) :
    zS Tryz.f161 [rg 3,rm [(1,oc [] (.p (.bool true)))] 12,.dec false,rg 17] [grG g nb N,.p (.int .i64 e)] [960] [(0,brOb (nb - 1) (dlB g e))] ((zf115 N nb)) =
    some (zD [(NT 0 1),zE 134 [(zf101 N nb g)] [] (.p (.bool true)),(AG (!!true)),(((!true)=false)→ ((!!true)=true)),(AG (!bif !true then true else decide ((↑e:Int)<0))),(((!bif !true then true else decide ((↑e:Int)<0))=true)→(NT 0 1)),(((bif !true then true else decide ((↑e:Int)<0))=false)→ ((!bif !true then true else decide ((↑e:Int)<0))=true)),((bif bif !true then true else decide ((↑e:Int)<0) then true else decide ((↑e:Int)≥(↑nb:Int)))=false),(IL 0 0),(IL 0 (↑e:Int)),(IL (↑e:Int) (↑nb:Int)),(NL 0 0),(NL ((0+e)*16) 140737488355328),(NL (0+e) 9223372036854775807),(ZLo ((↑e:Int)+1)),(ZHi ((↑e:Int)+1)),(IL 0 ((↑e:Int)+1)),(IL ((↑e:Int)+1) (↑nb:Int)),(IL (↑nb:Int) (↑nb:Int)),(NL (0+e) (0+e)),(NL ((0+e+(nb - (e+1)))*16) 140737488355328),(NL (0+e+(nb - (e+1))) 9223372036854775807),((true=true)→ (AN 1)),(AI ((↑N:Int))),(AN 0),(((0+e+(nb - (e+1))):Nat)=(nb - 1)),(true=true),(AN 2),(NL (nb - 1) (0+e+(nb - (e+1)))),(∀ i:Nat,(((i:Nat)<(nb - 1))→(All (cvtL false [(32,⟨true,2,1,(fun i_1=>[.p (.int .i64 (↑N:Int)),.ar 2 960 0 (0+e+(nb - (e+1)))])⟩),(960,⟨false,2,(0+e+(nb - (e+1))),(fun i_1=>(if (i_1<0+e) then [.p (.int .i64 ((g i_1).1)),.p (.int .i64 ((g i_1).2.1))] else [.p (.int .i64 ((g (i_1 - (0+e)+(e+1))).1)),.p (.int .i64 ((g (i_1 - (0+e)+(e+1))).2.1))]))⟩),(0,⟨true,2,1,(fun i_1=>[.p (.int .i64 (↑N:Int)),.p (.seq true 2 nb (bRw g))])⟩)] [960] 1 (if (i<0+e) then [.p (.int .i64 ((g i).1)),.p (.int .i64 ((g i).2.1))] else [.p (.int .i64 ((g (i - (0+e)+(e+1))).1)),.p (.int .i64 ((g (i - (0+e)+(e+1))).2.1))])).2∧(((cvtL false [(32,⟨true,2,1,(fun i_1=>[.p (.int .i64 (↑N:Int)),.ar 2 960 0 (0+e+(nb - (e+1)))])⟩),(960,⟨false,2,(0+e+(nb - (e+1))),(fun i_1=>(if (i_1<0+e) then [.p (.int .i64 ((g i_1).1)),.p (.int .i64 ((g i_1).2.1))] else [.p (.int .i64 ((g (i_1 - (0+e)+(e+1))).1)),.p (.int .i64 ((g (i_1 - (0+e)+(e+1))).2.1))]))⟩),(0,⟨true,2,1,(fun i_1=>[.p (.int .i64 (↑N:Int)),.p (.seq true 2 nb (bRw g))])⟩)] [960] 1 (if (i<0+e) then [.p (.int .i64 ((g i).1)),.p (.int .i64 ((g i).2.1))] else [.p (.int .i64 ((g (i - (0+e)+(e+1))).1)),.p (.int .i64 ((g (i - (0+e)+(e+1))).2.1))])).1:List AV)=[.p (.int .i64 ((dlB g e i).1)),.p (.int .i64 ((dlB g e i).2.1))])))),(AE ((nb - 1)))] [0,1,2,3,4,5,4,4,4,6,7,0,0,8,9,10,11,12,13,0,14,15,16,17,18,19,20,21,0,22,0,23,24,25,26,27,28,29,30]):=by kernel_rfl
theorem gBiz (g:Nat→T_Bar) (nb N:Nat) (r:Int) :
    zT Tryz.f225 [rg 2,rg 2,rm [(3,oc [] (.p (.int .i64 r)))] 1,rg 2,.dec false,rg 4,.head] [grG g nb N,.p (.int .i64 2),.p (.int .i64 3)] [0,64] (GBi g nb N r 0 0 (fun _=>0)) =
    some (zf30,zD [(NT 0 1),zE 62 [(zf101 N nb g),.p (.int .i64 2),.p (.int .i64 3)] [] (.p (.int .i64 r)),((decide (r<0))=false),(AI ((↑N:Int))),(AN nb),(AP nb (bRw g)),(AI 2),(AI 3),(AN 0),(AI r),(AI ((↑nb:Int))),((0:Int)=(↑0:Int)),((([AV.p (PV.int IntKind.i64 (↑N:Int)),brL g nb].length):Nat)=2),(NL 1 1),(AN 1),(NL 0 0),(AA 0 (fun i=>[.p (.int .i64 0)]))] [0,1,2,0,3,4,5,6,7,8,8,8,9,10,11,12,13,13,3,4,5,14,15,16]):=by kernel_rfl
theorem gBit (g:Nat→T_Bar) (nb N:Nat) (r r2:Int) (i c:Nat) (f:Nat→Int) :
    zM 0 [rg 1,.dec true,rg 2,rm [(2,oc [(0,brOb (nb - 1) (dlB g i))] (zf115 N nb))] 6,rm [(3,oc [] (.p (.int .i64 r2)))] 2,.dec true,rg 5,rg 2,.head] zf30 (GBi g nb N r i c f) [0,674] 1 (GBi g nb N r (i+1) (c+1) (fun s=>if s<c then f s else i)) =
    some (zf30,[((decide ((↑i:Int)<(↑nb:Int)))=true),(NT 0 1),zE 234 [(zf97 N nb g),.p (.int .i64 (↑i:Int))] [(0,⟨false,2,(nb - 1),(fun i_1=>[.p (.int .i64 ((dlB g i i_1).1)),.p (.int .i64 ((dlB g i i_1).2.1))])⟩)] ((zf109 N nb)),(NT 0 1),((true=true)→ (AN 1)),(NT 0 1),(AN 2),(NL (nb - 1) (nb - 1)),zE 62 [.agg [.p (.int .i64 (↑N:Int)),.p (.seq true 2 (nb - 1) (fun i_1=>[.int .i64 ((dlB g i i_1).1),.int .i64 ((dlB g i i_1).2.1)]))],.p (.int .i64 2),.p (.int .i64 3)] [] (.p (.int .i64 r2)),((decide (r2<r))=true),(NL 1 1),(NL c c),(NL ((c+1)*8) 140737488355328),(NL (c+1) 9223372036854775807),(ZLo ((↑i:Int)+1)),(ZHi ((↑i:Int)+1)),(AI ((↑N:Int))),(AN nb),(AP nb (bRw g)),(AI 2),(AI 3),(AN 0),(AN 0),(AN ((c+1))),(AI r),(AI ((↑nb:Int))),((((↑i:Int)+1):Int)=(↑(i+1):Int)),(AN 2),(NL 1 1),(NL 1 1),(AI ((↑N:Int))),(AN nb),(AP nb (bRw g)),(AN 1),(NL (c+1) (c+1)),(CV [(674,⟨false,1,(c+1),(fun i_2=>(if (i_2<c) then [.p (.int .i64 (f i_2))] else [.p (.int .i64 (↑i:Int))]))⟩),(642,⟨false,1,1,(fun i_2=>[.p (.int .i64 (↑i:Int))])⟩),(290,⟨true,2,1,(fun i_2=>[.p (.int .i64 (↑N:Int)),.ar 2 162 0 (nb - 1)])⟩),(162,⟨false,2,(nb - 1),(fun i_2=>[.p (.int .i64 ((dlB g i i_2).1)),.p (.int .i64 ((dlB g i i_2).2.1))])⟩),(0,⟨true,2,1,(fun i_2=>[.p (.int .i64 (↑N:Int)),.p (.seq true 2 nb (bRw g))])⟩)] [0,674] 1 (c+1) (fun i_1=>if (i_1<c) then [.p (.int .i64 (f i_1))] else [.p (.int .i64 (↑i:Int))]) (fun i_1=>[.p (.int .i64 (if i_1<c then f i_1 else (↑i:Int)))]))]):=by kernel_rfl
theorem gBif (g:Nat→T_Bar) (nb N:Nat) (r r2:Int) (i c:Nat) (f:Nat→Int) :
    zM 0 [rg 1,.dec true,rg 2,rm [(2,oc [(0,brOb (nb - 1) (dlB g i))] (zf115 N nb))] 6,rm [(3,oc [] (.p (.int .i64 r2)))] 2,.dec false,rg 2,.head] zf30 (GBi g nb N r i c f) [0,1] 1 (GBi g nb N r (i+1) c f) =
    some (zf30,[((decide ((↑i:Int)<(↑nb:Int)))=true),(NT 0 1),zE 234 [(zf97 N nb g),.p (.int .i64 (↑i:Int))] [(0,⟨false,2,(nb - 1),(fun i_1=>[.p (.int .i64 ((dlB g i i_1).1)),.p (.int .i64 ((dlB g i i_1).2.1))])⟩)] ((zf109 N nb)),(NT 0 1),((true=true)→ (AN 1)),(NT 0 1),(AN 2),(NL (nb - 1) (nb - 1)),zE 62 [.agg [.p (.int .i64 (↑N:Int)),.p (.seq true 2 (nb - 1) (fun i_1=>[.int .i64 ((dlB g i i_1).1),.int .i64 ((dlB g i i_1).2.1)]))],.p (.int .i64 2),.p (.int .i64 3)] [] (.p (.int .i64 r2)),((decide (r2<r))=false),(ZLo ((↑i:Int)+1)),(ZHi ((↑i:Int)+1)),(AI ((↑N:Int))),(AN nb),(AP nb (bRw g)),(AI 2),(AI 3),(AN 0),(AN 0),(AN c),(AI r),(AI ((↑nb:Int))),((((↑i:Int)+1):Int)=(↑(i+1):Int)),(AN 2),(NL 1 1),(NL 1 1),(AI ((↑N:Int))),(AN nb),(AP nb (bRw g)),(AN 1),(NL c c),(AA c (fun i_1=>[.p (.int .i64 (f i_1))]))]):=by kernel_rfl
theorem gBie (g:Nat→T_Bar) (nb N:Nat) (r:Int) (i c:Nat) (f:Nat→Int) :
    zP Tryz.f225 0 [rg 1,.dec false,rg 2] zf30 (GBi g nb N r i c f) [1] 1 [(0,iOb c f)] (.ar 1 0 0 c) =
    some [((decide ((↑i:Int)<(↑nb:Int)))=false),(AN 0),(AN c),(AN 1),(NL c c),(AA c (fun i_1=>[.p (.int .i64 (f i_1))])),(AE c)]:=by kernel_rfl
theorem gBsz (g:Nat→T_Bar) (nb N:Nat) (r:Int) :
    zT Tryz.f228 [rg 2,rg 2,rm [(3,oc [] (.p (.int .i64 r)))] 1,rg 1,.head] [grG g nb N,.p (.int .i64 2),.p (.int .i64 3)] [0,64] (GBs g nb N r 0 0 (fun _=>0)) =
    some (zf44,zD [(NT 0 1),zE 63 [(zf101 N nb g),.p (.int .i64 2),.p (.int .i64 3)] [] (.p (.int .i64 r)),(AI ((↑N:Int))),(AN nb),(AP nb (bRw g)),(AI 2),(AI 3),(AN 0),(AI r),((0:Int)=(↑0:Int)),((([AV.p (PV.int IntKind.i64 (↑N:Int)),brL g nb].length):Nat)=2),(NL 1 1),(AN 1),(NL 0 0),(AA 0 (fun i=>[.p (.int .i64 0)]))] [0,1,2,3,4,5,6,7,7,7,8,9,10,11,11,2,3,4,12,13,14]):=by kernel_rfl
theorem gBst (g:Nat→T_Bar) (nb N:Nat) (r r2:Int) (i c:Nat) (f:Nat→Int) :
    zM 0 [rg 9,.dec true,rm [(2,oc [(0,brOb (nb - 1) (dlB g i))] (zf115 N nb))] 6,rm [(3,oc [] (.p (.int .i64 r2)))] 2,.dec true,rg 5,rg 3,.head] zf44 (GBs g nb N r i c f) [0,866] 1 (GBs g nb N r (i+1) (c+1) (fun s=>if s<c then f s else i)) =
    some (zf44,zD [(NT 0 1),(AG (decide ((↑i:Int)<(↑nb:Int)))),((bif decide ((↑i:Int)<(↑nb:Int)) then decide (r≥0) else false)=true),zE 161 [(zf97 N nb g),.p (.int .i64 (↑i:Int))] [(0,⟨false,2,(nb - 1),(fun i_1=>[.p (.int .i64 ((dlB g i i_1).1)),.p (.int .i64 ((dlB g i i_1).2.1))])⟩)] ((zf109 N nb)),((true=true)→ (AN 1)),(AN 2),(NL (nb - 1) (nb - 1)),zE 63 [.agg [.p (.int .i64 (↑N:Int)),.p (.seq true 2 (nb - 1) (fun i_1=>[.int .i64 ((dlB g i i_1).1),.int .i64 ((dlB g i i_1).2.1)]))],.p (.int .i64 2),.p (.int .i64 3)] [] (.p (.int .i64 r2)),((decide (r2<r))=true),(NL 1 1),(NL c c),(NL ((c+1)*8) 140737488355328),(NL (c+1) 9223372036854775807),(ZLo ((↑i:Int)+1)),(ZHi ((↑i:Int)+1)),(AI ((↑N:Int))),(AN nb),(AP nb (bRw g)),(AI 2),(AI 3),(AN 0),(AN ((c+1))),(AI r),((((↑i:Int)+1):Int)=(↑(i+1):Int)),(AN 1),(NL (c+1) (c+1)),(CV [(866,⟨false,1,(c+1),(fun i_2=>(if (i_2<c) then [.p (.int .i64 (f i_2))] else [.p (.int .i64 (↑i:Int))]))⟩),(834,⟨false,1,1,(fun i_2=>[.p (.int .i64 (↑i:Int))])⟩),(482,⟨true,2,1,(fun i_2=>[.p (.int .i64 (↑N:Int)),.ar 2 354 0 (nb - 1)])⟩),(354,⟨false,2,(nb - 1),(fun i_2=>[.p (.int .i64 ((dlB g i i_2).1)),.p (.int .i64 ((dlB g i i_2).2.1))])⟩),(0,⟨true,2,1,(fun i_2=>[.p (.int .i64 (↑N:Int)),.p (.seq true 2 nb (bRw g))])⟩)] [0,866] 1 (c+1) (fun i_1=>if (i_1<c) then [.p (.int .i64 (f i_1))] else [.p (.int .i64 (↑i:Int))]) (fun i_1=>[.p (.int .i64 (if i_1<c then f i_1 else (↑i:Int)))]))] [0,1,1,2,0,3,0,4,0,5,6,7,8,9,10,11,12,13,14,15,16,17,18,19,20,20,21,22,23,5,9,9,15,16,17,24,25,26]):=by kernel_rfl
theorem gBsf (g:Nat→T_Bar) (nb N:Nat) (r r2:Int) (i c:Nat) (f:Nat→Int) :
    zM 0 [rg 9,.dec true,rm [(2,oc [(0,brOb (nb - 1) (dlB g i))] (zf115 N nb))] 6,rm [(3,oc [] (.p (.int .i64 r2)))] 2,.dec false,rg 3,.head] zf44 (GBs g nb N r i c f) [0,1] 1 (GBs g nb N r (i+1) c f) =
    some (zf44,zD [(NT 0 1),(AG (decide ((↑i:Int)<(↑nb:Int)))),((bif decide ((↑i:Int)<(↑nb:Int)) then decide (r≥0) else false)=true),zE 161 [(zf97 N nb g),.p (.int .i64 (↑i:Int))] [(0,⟨false,2,(nb - 1),(fun i_1=>[.p (.int .i64 ((dlB g i i_1).1)),.p (.int .i64 ((dlB g i i_1).2.1))])⟩)] ((zf109 N nb)),((true=true)→ (AN 1)),(AN 2),(NL (nb - 1) (nb - 1)),zE 63 [.agg [.p (.int .i64 (↑N:Int)),.p (.seq true 2 (nb - 1) (fun i_1=>[.int .i64 ((dlB g i i_1).1),.int .i64 ((dlB g i i_1).2.1)]))],.p (.int .i64 2),.p (.int .i64 3)] [] (.p (.int .i64 r2)),((decide (r2<r))=false),(ZLo ((↑i:Int)+1)),(ZHi ((↑i:Int)+1)),(AI ((↑N:Int))),(AN nb),(AP nb (bRw g)),(AI 2),(AI 3),(AN 0),(AN c),(AI r),((((↑i:Int)+1):Int)=(↑(i+1):Int)),(NL 1 1),(AN 1),(NL c c),(AA c (fun i_1=>[.p (.int .i64 (f i_1))]))] [0,1,1,2,0,3,0,4,0,5,6,7,8,9,10,11,12,13,14,15,16,16,17,18,19,5,20,20,11,12,13,21,22,23]):=by kernel_rfl
theorem gBse (g:Nat→T_Bar) (nb N:Nat) (r:Int) (i c:Nat) (f:Nat→Int) :
    zP Tryz.f228 0 [rg 9,.dec false,rg 2] zf44 (GBs g nb N r i c f) [1] 1 [(0,iOb c f)] (.ar 1 0 0 c) =
    some (zD [(NT 0 1),(AG (decide ((↑i:Int)<(↑nb:Int)))),((bif decide ((↑i:Int)<(↑nb:Int)) then decide (r≥0) else false)=false),(AN 0),(AN c),(AN 1),(NL c c),(AA c (fun i_1=>[.p (.int .i64 (f i_1))])),(AE c)] [0,1,1,2,3,4,5,6,7,8]):=by kernel_rfl
theorem gFi (g:Nat→T_Bar) (nb N c:Nat) (f:Nat→Int) :
    zS Tryz.f210 [rg 2,rm [(1,oc [(0,iOb c f)] (.ar 1 0 0 c))] 1] [grG g nb N] [96] [(0,iOb c f)] (.ar 1 0 0 c) =
    some [(NT 0 1),zE 225 [(zf101 N nb g),.p (.int .i64 2),.p (.int .i64 3)] [(0,⟨false,1,c,(fun i=>[.p (.int .i64 (f i))])⟩)] (.ar 1 0 0 c),(AN 0),(AN c),(AN 1),(NL c c),(AA c (fun i=>[.p (.int .i64 (f i))])),(AE c)]:=by kernel_rfl
theorem gFs (g:Nat→T_Bar) (nb N c:Nat) (f:Nat→Int) :
    zS Tryz.f213 [rg 2,rm [(1,oc [(0,iOb c f)] (.ar 1 0 0 c))] 1] [grG g nb N] [96] [(0,iOb c f)] (.ar 1 0 0 c) =
    some [(NT 0 1),zE 228 [(zf101 N nb g),.p (.int .i64 2),.p (.int .i64 3)] [(0,⟨false,1,c,(fun i=>[.p (.int .i64 (f i))])⟩)] (.ar 1 0 0 c),(AN 0),(AN c),(AN 1),(NL c c),(AA c (fun i=>[.p (.int .i64 (f i))])),(AE c)]:=by kernel_rfl
theorem gRdit (g:Nat→T_Bar) (nb N c:Nat) (f:Nat→Int) :
    zS Tryz.f183 [rg 2,rm [(1,oc [] (.p (.bool true))),(1,gT),(0,⟨true,(some ⟨[],[],[],1,[(0,iOb c f)],.ar 1 0 0 c⟩),some true⟩),(0,gT),(0,gT),(0,gT)] 1] [grG g nb N] [] [] (.p (.bool ((c:Int)==0))) =
    some (zD [(NT 0 1),zE 127 [(zf101 N nb g)] [] (.p (.bool true)),(true=true),zE 210 [(zf101 N nb g)] [(0,⟨false,1,c,(fun i=>[.p (.int .i64 (f i))])⟩)] (.ar 1 0 0 c),(((↑c:Int)==0)=((↑c:Int)==0))] [0,1,2,0,2,3,2,2,2,4]):=by kernel_rfl
theorem gRdif (g:Nat→T_Bar) (nb N:Nat) :
    zS Tryz.f183 [rg 2,rm [(1,oc [] (.p (.bool false))),(1,gF),(0,gF),(0,gF),(0,gF),(0,gF)] 1] [grG g nb N] [] [] (.p (.bool false)) =
    some (zD [(NT 0 1),zE 127 [(zf101 N nb g)] [] (.p (.bool false)),(false=false)] [0,1,2,2,2,2,2,2]):=by kernel_rfl
theorem gRdst (g:Nat→T_Bar) (nb N c:Nat) (f:Nat→Int) :
    zS Tryz.f186 [rg 2,rm [(1,oc [] (.p (.bool true))),(1,gT),(0,⟨true,(some ⟨[],[],[],1,[(0,iOb c f)],.ar 1 0 0 c⟩),some true⟩),(0,gT),(0,gT),(0,gT)] 1] [grG g nb N] [] [] (.p (.bool ((c:Int)==0))) =
    some (zD [(NT 0 1),zE 184 [(zf101 N nb g)] [] (.p (.bool true)),(true=true),zE 213 [(zf101 N nb g)] [(0,⟨false,1,c,(fun i=>[.p (.int .i64 (f i))])⟩)] (.ar 1 0 0 c),(((↑c:Int)==0)=((↑c:Int)==0))] [0,1,2,0,2,3,2,2,2,4]):=by kernel_rfl
theorem gRdsf (g:Nat→T_Bar) (nb N:Nat) :
    zS Tryz.f186 [rg 2,rm [(1,oc [] (.p (.bool false))),(1,gF),(0,gF),(0,gF),(0,gF),(0,gF)] 1] [grG g nb N] [] [] (.p (.bool false)) =
    some (zD [(NT 0 1),zE 184 [(zf101 N nb g)] [] (.p (.bool false)),(false=false)] [0,1,2,2,2,2,2,2]):=by kernel_rfl
theorem dl_graph {N nb:Nat} {g:Nat→T_Bar} (hg:isGraphF ((N:Int),(nb,g),())=true) {e:Nat} (he:e<nb):isGraphF ((N:Int),(nb - 1,dlB g e),())=true:=by
  obtain ⟨h1,h2,h3⟩:=graph_in hg
  have ha:=asc_of hg
  refine isG_of h1 (by omega) (fun i hi=>?_) (fun s hs=>?_)
  · unfold dlB
    split
    · exact h3 i (by omega)
    · exact h3 (i+1) (by omega)
  · unfold dlB
    split<;>split
    · exact ha s (by omega)
    · exact asc_lt ha (by omega) (by omega)
    · omega
    · exact ha (s+1) (by omega)
theorem con_gRemove_i {N nb:Nat} {g:Nat→T_Bar} (hg:isGraphF ((N:Int),(nb,g),())=true) (e:Nat) (he:e<nb) :
    zE 234 [grG g nb N,.p (.int .i64 e)] [(0,brOb (nb - 1) (dlB g e))] (.tup [.agg [.p (.int .i64 N),.ar 2 0 0 (nb - 1)],.p (.bool true)]):=by
  obtain ⟨h1,h2,h3⟩:=graph_in hg
  have c1:=con_IsGraph_i ((N:Int),(nb,g),()) (sm_graph (by show nb≤_;omega))
  rw [hg] at c1
  have c2:=con_copyGraph ((N:Int),(nb,g),()) (by show nb≤_;omega)
  have c3:=con_within (e:Int) 0 ((nb:Int) - 1)
  rw [show inB (e:Int) 0 ((nb:Int) - 1)=true by simp [inB];omega] at c3
  refine csZ Tryz.func234 (fun c hc=>?_)
  refine pkD Tryz.func234 hc (gRi g nb N e) ?_
  and_intros
  all_goals (first | exact zH | (exact c2) | (exact c1) | (intros;exact c3) | (exact c3) | (intro t ht;rcases Nat.lt_or_ge t e with h1 | h1;(simp [h1,dlB,cvtL,cvt,tg,tru,All]);((try dsimp only);rw [if_neg (show ¬ t<e by omega)];rw [show t - e+(e+1)=t+1 by omega];simp [show ¬ t<e by omega,dlB,cvtL,cvt,tg,tru,All])))
theorem con_gRemove_s {N nb:Nat} {g:Nat→T_Bar} (hg:isGraphF ((N:Int),(nb,g),())=true) (e:Nat) (he:e<nb) :
    zE 161 [grG g nb N,.p (.int .i64 e)] [(0,brOb (nb - 1) (dlB g e))] (.tup [.agg [.p (.int .i64 N),.ar 2 0 0 (nb - 1)],.p (.bool true)]):=by
  obtain ⟨h1,h2,h3⟩:=graph_in hg
  have c1:=con_IsGraph_s ((N:Int),(nb,g),()) (sm_graph (by show nb≤_;omega))
  rw [hg] at c1
  have hd:(bif bif !true then true else decide ((e:Int)<0) then true else decide ((e:Int)≥(nb:Int)))=false:=by
    rw [decide_eq_false (show ¬ ((e:Int)<0) by omega),decide_eq_false (show ¬ ((e:Int)≥(nb:Int)) by omega)];rfl
  refine csZ Tryz.func161 (fun c hc=>?_)
  refine pkD Tryz.func161 hc (gRs g nb N e) ?_
  and_intros
  all_goals (first | exact zH | (exact c1) | (exact hd) | (intro t ht;rcases Nat.lt_or_ge t e with h1 | h1;(simp [h1,dlB,cvtL,cvt,tg,tru,All]);((try dsimp only);rw [if_neg (show ¬ t<0+e by omega),show t - (0+e)+(e+1)=t+1 by omega];simp [show ¬ t<e by omega,dlB,cvtL,cvt,tg,tru,All])))
noncomputable def rk2 (N nb:Nat) (g:Nat→T_Bar):Nat:=(accI N 2 3 g nb).length
noncomputable def brQ (N nb:Nat) (g:Nat→T_Bar) (e:Nat):Bool:=decide (((rk2 N (nb - 1) (dlB g e):Nat):Int)<((rk2 N nb g:Nat):Int))
noncomputable def brD (N nb:Nat) (g:Nat→T_Bar):Nat→T_IntS
  | 0=>(0,fun _=>0)
  | e+1=>if brQ N nb g e=true then ((brD N nb g e).1+1,fun s=>if s<(brD N nb g e).1 then (brD N nb g e).2 s else e) else brD N nb g e
theorem brD_n (N nb:Nat) (g:Nat→T_Bar):∀ e,(brD N nb g e).1≤e
  | 0=>Nat.le_refl _
  | e+1=>by
    have:=brD_n N nb g e
    simp only [brD]
    split
    · show (brD N nb g e).1+1≤e+1;omega
    · omega
theorem con_gBridges_i {N nb:Nat} {g:Nat→T_Bar} (hg:isGraphF ((N:Int),(nb,g),())=true) :
    zE 225 [grG g nb N,.p (.int .i64 2),.p (.int .i64 3)] [(0,iOb (brD N nb g nb).1 (brD N nb g nb).2)] (.ar 1 0 0 (brD N nb g nb).1):=by
  obtain ⟨h1,h2,h3⟩:=graph_in hg
  have hr:=con_RankOf_i hg 2 3 (by omega) (by omega)
  have hl:=accI_len N 2 3 g nb
  generalize hR:brD N nb g nb=R
  refine csZ Tryz.func225 (fun c hc=>?_)
  have lo:∀ d i,i+d=nb→zR c 225 zf30 (GBi g nb N ((rk2 N nb g:Nat):Int) i (brD N nb g i).1 (brD N nb g i).2) (Post c [(0,iOb R.1 R.2)] (.ar 1 0 0 R.1)):=by
    intro d
    induction d with
    | zero =>
      intro i hi
      obtain rfl:i=nb:=by omega
      rw [hR]
      have hd:decide ((i:Int)<(i:Int))=false:=decide_eq_false (by omega)
      refine pkZ Tryz.func225 hc (gBie g i N _ i R.1 R.2) ?_
      and_intros
      all_goals (first | exact zN | (exact hd) | (intro t ht;simp [All]))
    | succ d ih =>
      intro i hi
      have hd:decide ((i:Int)<(nb:Int))=true:=decide_eq_true (by omega)
      have hrec:=ih (i+1) (by omega)
      have hn:=brD_n N nb g i
      have cr:=con_gRemove_i hg i (by omega)
      have ck:=con_RankOf_i (dl_graph hg (show i<nb by omega)) 2 3 (by omega) (by omega)
      cases hq:brQ N nb g i with
      | true =>
        rw [show brD N nb g (i+1)=((brD N nb g i).1+1,fun s=>if s<(brD N nb g i).1 then (brD N nb g i).2 s else (i:Int)) by simp [brD,hq]] at hrec
        unfold brQ at hq
        generalize brD N nb g i=q at hn hrec ⊢
        refine pcZ hc (gBit g nb N _ ((rk2 N (nb - 1) (dlB g i):Nat):Int) i q.1 q.2) ?_ hrec
        and_intros
        all_goals (first | exact zI | (exact hd) | (exact cr) | (exact ck) | (exact hq) | (intro t ht;by_cases h':t<q.1<;>simp [h',cvtL,cvt,tg,tru,All]) | (simp;omega))
      | false =>
        rw [show brD N nb g (i+1)=brD N nb g i by simp [brD,hq]] at hrec
        unfold brQ at hq
        generalize brD N nb g i=q at hn hrec ⊢
        refine pcZ hc (gBif g nb N _ ((rk2 N (nb - 1) (dlB g i):Nat):Int) i q.1 q.2) ?_ hrec
        and_intros
        all_goals (first | exact zI | (exact hd) | (exact cr) | (exact ck) | (exact hq) | (intro t ht;simp [All]) | (simp;omega))
  refine pcD hc (gBiz g nb N ((rk2 N nb g:Nat):Int)) ?_ (lo nb 0 (by omega))
  and_intros
  all_goals (first | exact zN | (exact hr) | (exact decide_eq_false (by omega)) | (intro t ht;exact absurd ht (Nat.not_lt_zero _)) | (intro t ht;simp [All]))
theorem con_gBridges_s {N nb:Nat} {g:Nat→T_Bar} (hg:isGraphF ((N:Int),(nb,g),())=true) :
    zE 228 [grG g nb N,.p (.int .i64 2),.p (.int .i64 3)] [(0,iOb (brD N nb g nb).1 (brD N nb g nb).2)] (.ar 1 0 0 (brD N nb g nb).1):=by
  obtain ⟨h1,h2,h3⟩:=graph_in hg
  have hr:=con_RankOf_s hg 2 3 (by omega) (by omega)
  have hl:=accI_len N 2 3 g nb
  generalize hR:brD N nb g nb=R
  refine csZ Tryz.func228 (fun c hc=>?_)
  have lo:∀ d i,i+d=nb→zR c 228 zf44 (GBs g nb N ((rk2 N nb g:Nat):Int) i (brD N nb g i).1 (brD N nb g i).2) (Post c [(0,iOb R.1 R.2)] (.ar 1 0 0 R.1)):=by
    intro d
    induction d with
    | zero =>
      intro i hi
      obtain rfl:i=nb:=by omega
      rw [hR]
      have hd:(bif decide ((i:Int)<(i:Int)) then decide (((rk2 N i g:Nat):Int)≥0) else false)=false:=by rw [decide_eq_false (show ¬ ((i:Int)<(i:Int)) by omega)];rfl
      refine pkD Tryz.func228 hc (gBse g i N _ i R.1 R.2) ?_
      and_intros
      all_goals (first | exact zN | (exact hd) | (intro t ht;simp [All]))
    | succ d ih =>
      intro i hi
      have hd:(bif decide ((i:Int)<(nb:Int)) then decide (((rk2 N nb g:Nat):Int)≥0) else false)=true:=by
        rw [decide_eq_true (show ((i:Int)<(nb:Int)) by omega),decide_eq_true (show (((rk2 N nb g:Nat):Int)≥0) by omega)];rfl
      have hrec:=ih (i+1) (by omega)
      have hn:=brD_n N nb g i
      have cr:=con_gRemove_s hg i (by omega)
      have ck:=con_RankOf_s (dl_graph hg (show i<nb by omega)) 2 3 (by omega) (by omega)
      cases hq:brQ N nb g i with
      | true =>
        rw [show brD N nb g (i+1)=((brD N nb g i).1+1,fun s=>if s<(brD N nb g i).1 then (brD N nb g i).2 s else (i:Int)) by simp [brD,hq]] at hrec
        unfold brQ at hq
        generalize brD N nb g i=q at hn hrec ⊢
        refine pcD hc (gBst g nb N _ ((rk2 N (nb - 1) (dlB g i):Nat):Int) i q.1 q.2) ?_ hrec
        and_intros
        all_goals (first | exact zI | (exact hd) | (exact cr) | (exact ck) | (exact hq) | (intro t ht;by_cases h':t<q.1<;>simp [h',cvtL,cvt,tg,tru,All]) | (simp;omega))
      | false =>
        rw [show brD N nb g (i+1)=brD N nb g i by simp [brD,hq]] at hrec
        unfold brQ at hq
        generalize brD N nb g i=q at hn hrec ⊢
        refine pcD hc (gBsf g nb N _ ((rk2 N (nb - 1) (dlB g i):Nat):Int) i q.1 q.2) ?_ hrec
        and_intros
        all_goals (first | exact zI | (exact hd) | (exact cr) | (exact ck) | (exact hq) | (intro t ht;simp [All]) | (simp;omega))
  refine pcD hc (gBsz g nb N ((rk2 N nb g:Nat):Int)) ?_ (lo nb 0 (by omega))
  and_intros
  all_goals (first | exact zN | (exact hr) | (intro t ht;exact absurd ht (Nat.not_lt_zero _)) | (intro t ht;simp [All]))
theorem con_gFragile_i {N nb:Nat} {g:Nat→T_Bar} (hg:isGraphF ((N:Int),(nb,g),())=true) :
    zE 210 [grG g nb N] [(0,iOb (brD N nb g nb).1 (brD N nb g nb).2)] (.ar 1 0 0 (brD N nb g nb).1):=by
  have h:=con_gBridges_i hg
  generalize brD N nb g nb=R at *
  refine csZ Tryz.func210 (fun c hc=>?_)
  refine pkZ Tryz.func210 hc (gFi g nb N R.1 R.2) ?_
  and_intros
  all_goals (first | exact zN | (exact h) | (intro t ht;simp [All]))
theorem con_gFragile_s {N nb:Nat} {g:Nat→T_Bar} (hg:isGraphF ((N:Int),(nb,g),())=true) :
    zE 213 [grG g nb N] [(0,iOb (brD N nb g nb).1 (brD N nb g nb).2)] (.ar 1 0 0 (brD N nb g nb).1):=by
  have h:=con_gBridges_s hg
  generalize brD N nb g nb=R at *
  refine csZ Tryz.func213 (fun c hc=>?_)
  refine pkZ Tryz.func213 hc (gFs g nb N R.1 R.2) ?_
  and_intros
  all_goals (first | exact zN | (exact h) | (intro t ht;simp [All]))
noncomputable def rdB (N nb:Nat) (g:Nat→T_Bar):Bool:=bif frGr ((N:Int),(nb,g),())==0 then (((brD N nb g nb).1:Nat):Int)==0 else false
theorem con_gRedun_i {N nb:Nat} {g:Nat→T_Bar} (hg:isGraphF ((N:Int),(nb,g),())=true):zE 183 [grG g nb N] [] (.p (.bool (rdB N nb g))):=by
  have h2:=(graph_in hg).2.1
  have hr:=con_IsRigid_i ((N:Int),(nb,g),()) (sm_graph (by show nb≤_;omega))
  have h:=con_gFragile_i hg
  unfold rdB
  generalize brD N nb g nb=R at *
  generalize (frGr ((N:Int),(nb,g),())==0)=b at *
  refine csZ Tryz.func183 (fun c hc=>?_)
  cases b with
  | true =>
    refine pkD Tryz.func183 hc (gRdit g nb N R.1 R.2) ?_
    and_intros
    all_goals (first | exact zN | (exact hr) | (exact h) | (simp;done))
  | false =>
    refine pkD Tryz.func183 hc (gRdif g nb N) ?_
    and_intros
    all_goals (first | exact zN | (exact hr) | (simp;done))
theorem con_gRedun_s {N nb:Nat} {g:Nat→T_Bar} (hg:isGraphF ((N:Int),(nb,g),())=true):zE 186 [grG g nb N] [] (.p (.bool (rdB N nb g))):=by
  have h2:=(graph_in hg).2.1
  have hr:=con_IsRigid_s ((N:Int),(nb,g),()) (sm_graph (by show nb≤_;omega))
  have h:=con_gFragile_s hg
  unfold rdB
  generalize brD N nb g nb=R at *
  generalize (frGr ((N:Int),(nb,g),())==0)=b at *
  refine csZ Tryz.func186 (fun c hc=>?_)
  cases b with
  | true =>
    refine pkD Tryz.func186 hc (gRdst g nb N R.1 R.2) ?_
    and_intros
    all_goals (first | exact zN | (exact hr) | (exact h) | (simp;done))
  | false =>
    refine pkD Tryz.func186 hc (gRdsf g nb N) ?_
    and_intros
    all_goals (first | exact zN | (exact hr) | (simp;done))
def btI (w i:Int):Bool:=bitI .and .i64 (shrI .i64 w i) 1==1
theorem shr_nat (m i:Nat) (hi:i<62):shrI .i64 (m:Int) (i:Int)=((m >>> i:Nat):Int):=by
  unfold shrI
  have:min (i:Int).toNat IntKind.i64.bits=i:=by simp [IntKind.bits];omega
  rw [this,Int.fdiv_eq_ediv_of_nonneg _ (Int.le_of_lt (Int.pow_pos (by omega))),Nat.shiftRight_eq_div_pow]
  simp
theorem bv_nat (x:Nat):BitVec.ofInt 64 (x:Int)=BitVec.ofNat 64 x:=by
  simp
theorem bt_test (m:Nat) (i:Nat) (hm:m<2 ^ 62) (hi:i<62):btI (m:Int) (i:Int)=m.testBit i:=by
  unfold btI
  rw [shr_nat m i hi]
  have hle:m >>> i≤m:=Nat.shiftRight_le m i
  rw [Nat.testBit_eq_decide_div_mod_eq,← Nat.shiftRight_eq_div_pow]
  generalize m >>> i=x at hle ⊢
  have e:bitI .and .i64 ((x:Nat):Int) 1=((x % 2:Nat):Int):=by
    unfold bitI
    have e1:(BitVec.ofInt IntKind.i64.bits ((x:Nat):Int) &&& BitVec.ofInt IntKind.i64.bits 1).toNat=x % 2:=by
      rw [BitVec.toNat_and]
      show ((BitVec.ofInt 64 ((x:Nat):Int)).toNat &&& 1)=_
      rw [bv_nat,BitVec.toNat_ofNat,Nat.mod_eq_of_lt (by omega),Nat.and_one_is_mod]
    simp only [e1]
    exact wrap_in (by simp only [imin];omega) (by simp only [imax];omega)
  rw [e]
  rcases Nat.mod_two_eq_zero_or_one x with h | h<;>simp [h]
theorem shl_nat (e:Nat) (he:e<62):shlI .i64 1 (e:Int)=((2 ^ e:Nat):Int):=by
  unfold shlI
  have:min (e:Int).toNat IntKind.i64.bits=e:=by simp [IntKind.bits];omega
  rw [this]
  have h2:2 ^ e<2 ^ 62:=Nat.pow_lt_pow_right (by omega) he
  have h3:(1:Int)*2 ^ e=((2 ^ e:Nat):Int):=by simp
  rw [h3]
  generalize 2 ^ e=q at h2
  exact wrap_in (by simp only [imin];omega) (by simp only [imax];omega)
def GSo (w M i c:Nat) (f:Nat→Int):St:=⟨[.p (.int .i64 w),.p (.int .i64 M),.p .any,.p .any,.p .any,.ar 1 0 0 c,.p .any,.p .any,.p (.int .i64 M),.p (.int .i64 i)]++List.replicate 13 anyA,[(0,iOb c f)],1⟩
def GSl (w M i c:Nat) (f:Nat→Int):St:=⟨[.p (.int .i64 M),.p (.int .i64 w),.p .any,.p .any,.p .any,.ar 1 0 0 c,.p (.int .i64 i)]++List.replicate 16 anyA,[(0,iOb c f)],1⟩
theorem gOz (w M:Nat) :
    zT Tryz.f119 [rg 1,rg 2,rg 2,.head] [.p (.int .i64 w),.p (.int .i64 M)] [32] (GSo w M 0 0 (fun _=>0)) =
    some (zf70,[(AI ((↑w:Int))),(AI ((↑M:Int))),(AN 0),(AN 0),(AI ((↑M:Int))),((0:Int)=(↑0:Int)),(AN 1),(NL 0 0),(AA 0 (fun i=>[.p (.int .i64 0)]))]):=by kernel_rfl
theorem gOt (w M i c:Nat) (f:Nat→Int) :
    zM 0 [rg 1,.dec true,rg 2,rg 5,.dec true,rg 5,rg 2,.head] zf70 (GSo w M i c f) [353] 1 (GSo w M (i+1) (c+1) (fun s=>if s<c then f s else i)) =
    some (zf70,[((decide ((↑i:Int)<(↑M:Int)))=true),(IL 0 (↑i:Int)),((bitI BinOp.and IntKind.i64 (shrI IntKind.i64 (↑w:Int) (↑i:Int)) 1==1)=true),(NL 1 1),(NL c c),(NL ((c+1)*8) 140737488355328),(NL (c+1) 9223372036854775807),(ZLo ((↑i:Int)+1)),(ZHi ((↑i:Int)+1)),(AI ((↑w:Int))),(AI ((↑M:Int))),(AN 0),(AN ((c+1))),(AI ((↑M:Int))),((((↑i:Int)+1):Int)=(↑(i+1):Int)),(AN 1),(NL (c+1) (c+1)),(CV [(353,⟨false,1,(c+1),(fun i_2=>(if (i_2<c) then [.p (.int .i64 (f i_2))] else [.p (.int .i64 (↑i:Int))]))⟩),(321,⟨false,1,1,(fun i_2=>[.p (.int .i64 (↑i:Int))])⟩)] [353] 1 (c+1) (fun i_1=>if (i_1<c) then [.p (.int .i64 (f i_1))] else [.p (.int .i64 (↑i:Int))]) (fun i_1=>[.p (.int .i64 (if i_1<c then f i_1 else (↑i:Int)))]))]):=by kernel_rfl
theorem gOf (w M i c:Nat) (f:Nat→Int) :
    zM 0 [rg 1,.dec true,rg 2,rg 5,.dec false,rg 2,.head] zf70 (GSo w M i c f) [0] 1 (GSo w M (i+1) c f) =
    some (zf70,[((decide ((↑i:Int)<(↑M:Int)))=true),(IL 0 (↑i:Int)),((bitI BinOp.and IntKind.i64 (shrI IntKind.i64 (↑w:Int) (↑i:Int)) 1==1)=false),(ZLo ((↑i:Int)+1)),(ZHi ((↑i:Int)+1)),(AI ((↑w:Int))),(AI ((↑M:Int))),(AN 0),(AN c),(AI ((↑M:Int))),((((↑i:Int)+1):Int)=(↑(i+1):Int)),(AN 1),(NL c c),(AA c (fun i_1=>[.p (.int .i64 (f i_1))]))]):=by kernel_rfl
theorem gOe (w M i c:Nat) (f:Nat→Int) :
    zP Tryz.f119 0 [rg 1,.dec false,rg 2] zf70 (GSo w M i c f) [0] 1 [(0,iOb c f)] (.ar 1 0 0 c) =
    some [((decide ((↑i:Int)<(↑M:Int)))=false),(AN 0),(AN c),(AN 1),(NL c c),(AA c (fun i_1=>[.p (.int .i64 (f i_1))])),(AE c)]:=by kernel_rfl
theorem gLz (w M:Nat) :
    zT Tryz.f214 [rg 1,rg 2,rg 1,.head] [.p (.int .i64 M),.p (.int .i64 w)] [32] (GSl w M 0 0 (fun _=>0)) =
    some (zf73,[(AI ((↑M:Int))),(AI ((↑w:Int))),(AN 0),(AN 0),((0:Int)=(↑0:Int)),(AN 1),(NL 0 0),(AA 0 (fun i=>[.p (.int .i64 0)]))]):=by kernel_rfl
theorem gLt (w M i c:Nat) (f:Nat→Int) :
    zM 0 [rg 3,.dec true,rg 5,.dec true,rg 5,rg 3,.head] zf73 (GSl w M i c f) [353] 1 (GSl w M (i+1) (c+1) (fun s=>if s<c then f s else i)) =
    some (zf73,[((decide ((↑i:Int)<(↑M:Int)))=true),(IL 0 (↑i:Int)),((bitI BinOp.and IntKind.i64 (shrI IntKind.i64 (↑w:Int) (↑i:Int)) 1==1)=true),(NL 1 1),(NL c c),(NL ((c+1)*8) 140737488355328),(NL (c+1) 9223372036854775807),(ZLo ((↑i:Int)+1)),(ZHi ((↑i:Int)+1)),(AI ((↑M:Int))),(AI ((↑w:Int))),(AN 0),(AN ((c+1))),((((↑i:Int)+1):Int)=(↑(i+1):Int)),(AN 1),(NL (c+1) (c+1)),(CV [(353,⟨false,1,(c+1),(fun i_2=>(if (i_2<c) then [.p (.int .i64 (f i_2))] else [.p (.int .i64 (↑i:Int))]))⟩),(321,⟨false,1,1,(fun i_2=>[.p (.int .i64 (↑i:Int))])⟩)] [353] 1 (c+1) (fun i_1=>if (i_1<c) then [.p (.int .i64 (f i_1))] else [.p (.int .i64 (↑i:Int))]) (fun i_1=>[.p (.int .i64 (if i_1<c then f i_1 else (↑i:Int)))]))]):=by kernel_rfl
theorem gLf (w M i c:Nat) (f:Nat→Int) :
    zM 0 [rg 3,.dec true,rg 5,.dec false,rg 3,.head] zf73 (GSl w M i c f) [0] 1 (GSl w M (i+1) c f) =
    some (zf73,[((decide ((↑i:Int)<(↑M:Int)))=true),(IL 0 (↑i:Int)),((bitI BinOp.and IntKind.i64 (shrI IntKind.i64 (↑w:Int) (↑i:Int)) 1==1)=false),(ZLo ((↑i:Int)+1)),(ZHi ((↑i:Int)+1)),(AI ((↑M:Int))),(AI ((↑w:Int))),(AN 0),(AN c),((((↑i:Int)+1):Int)=(↑(i+1):Int)),(AN 1),(NL c c),(AA c (fun i_1=>[.p (.int .i64 (f i_1))]))]):=by kernel_rfl
theorem gLe (w M i c:Nat) (f:Nat→Int) :
    zP Tryz.f214 0 [rg 3,.dec false,rg 2] zf73 (GSl w M i c f) [0] 1 [(0,iOb c f)] (.ar 1 0 0 c) =
    some [((decide ((↑i:Int)<(↑M:Int)))=false),(AN 0),(AN c),(AN 1),(NL c c),(AA c (fun i_1=>[.p (.int .i64 (f i_1))])),(AE c)]:=by kernel_rfl
def stD (w:Nat):Nat→T_IntS
  | 0=>(0,fun _=>0)
  | i+1=>if btI w i=true then ((stD w i).1+1,fun s=>if s<(stD w i).1 then (stD w i).2 s else i) else stD w i
theorem stD_n (w:Nat):∀ i,(stD w i).1≤i
  | 0=>Nat.le_refl _
  | i+1=>by
    have:=stD_n w i
    simp only [stD]
    split
    · show (stD w i).1+1≤i+1;omega
    · omega
theorem con_setOf (w M:Nat) (hM:M≤62):zE 119 [.p (.int .i64 w),.p (.int .i64 M)] [(0,iOb (stD w M).1 (stD w M).2)] (.ar 1 0 0 (stD w M).1):=by
  refine csZ Tryz.func119 (fun c hc=>?_)
  generalize hR:stD w M=R
  have lo:∀ d i,i+d=M→zR c 119 zf70 (GSo w M i (stD w i).1 (stD w i).2) (Post c [(0,iOb R.1 R.2)] (.ar 1 0 0 R.1)):=by
    intro d
    induction d with
    | zero =>
      intro i hi
      obtain rfl:i=M:=by omega
      have hd:decide ((i:Int)<(i:Int))=false:=by simp
      rw [hR]
      refine pkZ Tryz.func119 hc (gOe w i i R.1 R.2) ?_
      and_intros
      all_goals (first | exact zN | (exact hd) | (intro t ht;simp [All]))
    | succ d ih =>
      intro i hi
      have hd:decide ((i:Int)<(M:Int))=true:=decide_eq_true (by omega)
      have hrec:=ih (i+1) (by omega)
      have hn:=stD_n w i
      cases hb:btI w i with
      | true =>
        rw [show stD w (i+1)=((stD w i).1+1,fun s=>if s<(stD w i).1 then (stD w i).2 s else i) by simp [stD,hb]] at hrec
        generalize stD w i=q at hn hrec ⊢
        refine pcZ hc (gOt w M i q.1 q.2) ?_ hrec
        and_intros
        all_goals (first | exact zN | (exact hd) | (exact hb) | (intro t ht;by_cases h':t<q.1<;>simp [h',cvtL,cvt,tg,tru,All]))
      | false =>
        rw [show stD w (i+1)=stD w i by simp [stD,hb]] at hrec
        generalize stD w i=q at hn hrec ⊢
        refine pcZ hc (gOf w M i q.1 q.2) ?_ hrec
        and_intros
        all_goals (first | exact zN | (exact hd) | (exact hb) | (intro t ht;simp [All]))
  refine pcZ hc (gOz w M) ?_ (lo M 0 (by omega))
  and_intros
  all_goals (first | exact zN | (intro t ht;exact absurd ht (Nat.not_lt_zero _)) | (intro t ht;simp [All]))
theorem con_l3Set (w M:Nat) (hM:M≤62):zE 214 [.p (.int .i64 M),.p (.int .i64 w)] [(0,iOb (stD w M).1 (stD w M).2)] (.ar 1 0 0 (stD w M).1):=by
  refine csZ Tryz.func214 (fun c hc=>?_)
  generalize hR:stD w M=R
  have lo:∀ d i,i+d=M→zR c 214 zf73 (GSl w M i (stD w i).1 (stD w i).2) (Post c [(0,iOb R.1 R.2)] (.ar 1 0 0 R.1)):=by
    intro d
    induction d with
    | zero =>
      intro i hi
      obtain rfl:i=M:=by omega
      have hd:decide ((i:Int)<(i:Int))=false:=by simp
      rw [hR]
      refine pkZ Tryz.func214 hc (gLe w i i R.1 R.2) ?_
      and_intros
      all_goals (first | exact zN | (exact hd) | (intro t ht;simp [All]))
    | succ d ih =>
      intro i hi
      have hd:decide ((i:Int)<(M:Int))=true:=decide_eq_true (by omega)
      have hrec:=ih (i+1) (by omega)
      have hn:=stD_n w i
      cases hb:btI w i with
      | true =>
        rw [show stD w (i+1)=((stD w i).1+1,fun s=>if s<(stD w i).1 then (stD w i).2 s else i) by simp [stD,hb]] at hrec
        generalize stD w i=q at hn hrec ⊢
        refine pcZ hc (gLt w M i q.1 q.2) ?_ hrec
        and_intros
        all_goals (first | exact zN | (exact hd) | (exact hb) | (intro t ht;by_cases h':t<q.1<;>simp [h',cvtL,cvt,tg,tru,All]))
      | false =>
        rw [show stD w (i+1)=stD w i by simp [stD,hb]] at hrec
        generalize stD w i=q at hn hrec ⊢
        refine pcZ hc (gLf w M i q.1 q.2) ?_ hrec
        and_intros
        all_goals (first | exact zN | (exact hd) | (exact hb) | (intro t ht;simp [All]))
  refine pcZ hc (gLz w M) ?_ (lo M 0 (by omega))
  and_intros
  all_goals (first | exact zN | (intro t ht;exact absurd ht (Nat.not_lt_zero _)) | (intro t ht;simp [All]))
def flt (p:Nat→Bool):Nat→T_IntS
  | 0=>(0,fun _=>0)
  | i+1=>if p i=true then ((flt p i).1+1,fun s=>if s<(flt p i).1 then (flt p i).2 s else i) else flt p i
theorem flt_n (p:Nat→Bool):∀ i,(flt p i).1≤i
  | 0=>Nat.le_refl _
  | i+1=>by
    have:=flt_n p i
    simp only [flt]
    split
    · show (flt p i).1+1≤i+1;omega
    · omega
theorem flt_t {p:Nat→Bool} {i:Nat} (h:p i=true):flt p (i+1)=((flt p i).1+1,fun s=>if s<(flt p i).1 then (flt p i).2 s else i):=by simp [flt,h]
theorem flt_f {p:Nat→Bool} {i:Nat} (h:p i=false):flt p (i+1)=flt p i:=by simp [flt,h]
theorem hasI_congr (f g:Nat→Int) (x:Int):∀ n,(∀ i,i<n→f i=g i)→hasI f x n=hasI g x n
  | 0,_=>rfl
  | n+1,h=>by simp only [hasI,hasI_congr f g x n (fun i hi=>h i (by omega)),h n (by omega)]
theorem hasI_stD (w:Nat) (x:Int):∀ i,hasI (stD w i).2 x (stD w i).1=(decide (0≤x∧x<i)&&btI w x)
  | 0=>by
    have:decide (0≤x∧x<((0:Nat):Int))=false:=decide_eq_false (by omega)
    rw [this];rfl
  | i+1=>by
    have ih:=hasI_stD w x i
    by_cases hx:x=i
    · subst hx
      have h1:decide (0≤(i:Int)∧(i:Int)<(i:Int))=false:=decide_eq_false (by omega)
      have h2:decide (0≤(i:Int)∧(i:Int)<((i+1:Nat):Int))=true:=decide_eq_true (by omega)
      rw [h1] at ih
      rw [h2]
      cases hb:btI w i with
      | true =>
        rw [show stD w (i+1)=((stD w i).1+1,fun s=>if s<(stD w i).1 then (stD w i).2 s else i) by simp [stD,hb]]
        simp [hasI]
      | false =>
        rw [show stD w (i+1)=stD w i by simp [stD,hb]]
        rw [ih];rfl
    · have h1:decide (0≤x∧x<((i+1:Nat):Int))=decide (0≤x∧x<(i:Int)):=by
        rw [decide_eq_decide];omega
      rw [h1,← ih]
      cases hb:btI w i with
      | true =>
        rw [show stD w (i+1)=((stD w i).1+1,fun s=>if s<(stD w i).1 then (stD w i).2 s else i) by simp [stD,hb]]
        simp only [hasI,Nat.lt_irrefl,if_false]
        rw [show (((i:Nat):Int)==x)=false from beq_eq_false_iff_ne.2 (fun h=>hx h.symm),Bool.or_false]
        exact hasI_congr _ _ x _ (fun j hj=>by simp only [hj,if_true])
      | false=>rw [show stD w (i+1)=stD w i by simp [stD,hb]]
def ssOb (n:Nat) (C:Nat→T_IntS):Ob:=⟨false,1,n,fun i=>[.p (.seq false 1 (C i).1 (fun s=>[.int .i64 ((C i).2 s)]))]⟩
def snocC (n:Nat) (C:Nat→T_IntS) (c:T_IntS) (i:Nat):T_IntS:=(if i<n then (C i).1 else c.1,fun s=>if i<n then (C i).2 s else c.2 s)
def wpD (S:T_IntS):Nat→T_IntS
  | 0=>(0,fun _=>0)
  | v+1=>if hasI S.2 v S.1=true then ((wpD S v).1,fun u=>if u<v then (wpD S v).2 u else -1) else ((wpD S v).1+1,fun u=>if u<v then (wpD S v).2 u else ((wpD S v).1:Int))
def wpB (g:Nat→T_Bar) (p:Nat→Int):Nat→NB
  | 0=>zNB
  | k+1=>if (decide (p (g k).1.toNat≥0)&&decide (p (g k).2.1.toNat≥0))=true then sn (wpB g p k) (p (g k).1.toNat,p (g k).2.1.toNat,()) else wpB g p k
def wpG (N nb:Nat) (g:Nat→T_Bar) (S:T_IntS):T_Graph:=(((wpD S N).1:Int),((wpB g (wpD S N).2 nb).1,(wpB g (wpD S N).2 nb).2),())
theorem wpD_le (S:T_IntS):∀ v,(wpD S v).1≤v
  | 0=>Nat.le_refl _
  | v+1=>by
    have:=wpD_le S v
    simp only [wpD]
    split
    · show (wpD S v).1≤v+1;omega
    · show (wpD S v).1+1≤v+1;omega
theorem wpB_le (g:Nat→T_Bar) (p:Nat→Int):∀ k,(wpB g p k).1≤k
  | 0=>Nat.le_refl _
  | k+1=>by
    have:=wpB_le g p k
    simp only [wpB]
    split
    · simp only [sn];omega
    · omega
theorem wp_cnt (w N:Nat):∀ i,i≤N→(wpD (stD w N) i).1+(stD w i).1=i
  | 0,_=>rfl
  | i+1,h=>by
    have ih:=wp_cnt w N i (by omega)
    have e:hasI (stD w N).2 (i:Int) (stD w N).1=btI w i:=by
      rw [hasI_stD,decide_eq_true (show (0:Int)≤(i:Int)∧(i:Int)<(N:Int) by omega),Bool.true_and]
    simp only [wpD,stD,e]
    cases btI w i with
    | true=>simp;omega
    | false=>simp;omega
def rcF (v:T_Graph) (u0:Nat):Nat→Bool:=rIt v.2.1.2 v.2.1.1 (fun u=>decide (u=u0)) v.1.toNat
def cnB (v:T_Graph):Bool:=bif isGraphF v then ((flt (rcF v 0) v.1.toNat).1:Int)==v.1 else false
def ctQ (N nb:Nat) (g:Nat→T_Bar) (k w:Nat):Bool:=bif (((stD w N).1:Nat):Int)==(k:Int) then (bif decide ((((wpD (stD w N) N).1:Nat):Int)≥2) then !cnB (wpG N nb g (stD w N)) else false) else false
def csD (N nb:Nat) (g:Nat→T_Bar) (k:Nat):Nat→Nat×(Nat→T_IntS)
  | 0=>(0,fun _=>(0,fun _=>0))
  | w+1=>if ctQ N nb g k w=true then ((csD N nb g k w).1+1,snocC (csD N nb g k w).1 (csD N nb g k w).2 (stD w N)) else csD N nb g k w
theorem csD_le (N nb:Nat) (g:Nat→T_Bar) (k:Nat):∀ w,(csD N nb g k w).1≤w
  | 0=>Nat.le_refl _
  | w+1=>by
    have:=csD_le N nb g k w
    simp only [csD]
    split
    · show (csD N nb g k w).1+1≤w+1;omega
    · omega
def kcA (N nb:Nat) (g:Nat→T_Bar):Nat→Bool
  | 0=>true
  | j+1=>kcA N nb g j&&!decide ((((csD N nb g j (2 ^ N)).1:Nat):Int)>0)
def kcB (N nb:Nat) (g:Nat→T_Bar) (k:Nat):Bool:=bif decide ((N:Int)≤(k:Int)) then false else kcA N nb g k
end Go.Proofs.YtkepkjbofchckaaGreat.Mach
