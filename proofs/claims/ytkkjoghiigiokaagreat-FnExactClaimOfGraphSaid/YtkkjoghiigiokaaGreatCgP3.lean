/- What the law Cg needs, part 3 of 5: the abstract machine and the contracts of the functions. Conditions: as each theorem says. -/
import Derived.Shelf.SlLaysF0
import Derived.Shelf.SlGeneric
import Derived.Shelf.SlSortCmp.InsertionK
import Derived.Ground.SlsfProg
import Derived.Sort.Grow
import Derived.Sort.Row
import Derived.Test.YtkkjoghiigiokaaGreatCgP2
namespace Go.Proofs.YtkkjoghiigiokaaGreat.Mat
set_option linter.unusedVariables false
def cardR (R:Nat→Bool):Nat→Nat
  | 0=>0
  | n+1=>cardR R n+(R n).toNat
def inn (R:Nat→Bool) (x:Nat×Nat):Bool:=R x.1&&R x.2
def cnt (R:Nat→Bool):List (Nat×Nat)→Nat
  | []=>0
  | x::l=>(inn R x).toNat+cnt R l
def Sparse (N k l:Nat) (I:List (Nat×Nat)):Prop:=∀ R,0<cnt R I→cnt R I+l≤k*cardR R N
def uni (R S:Nat→Bool) (v:Nat):Bool:=R v||S v
def cap2 (R S:Nat→Bool) (v:Nat):Bool:=R v&&S v
theorem card_uni (R S:Nat→Bool):∀ n,cardR (uni R S) n+cardR (cap2 R S) n=cardR R n+cardR S n
  | 0=>rfl
  | n+1=>by
    have:=card_uni R S n
    simp only [cardR,uni,cap2] at *
    cases R n<;>cases S n<;>simp<;>omega
theorem cnt_uni (R S:Nat→Bool):∀ l,cnt R l+cnt S l≤cnt (uni R S) l+cnt (cap2 R S) l
  | []=>by simp [cnt]
  | x::l=>by
    have:=cnt_uni R S l
    simp only [cnt,inn,uni,cap2] at *
    cases R x.1<;>cases S x.1<;>cases R x.2<;>cases S x.2<;>simp<;>omega
theorem cnt_mono (R S:Nat→Bool) (h:∀ v,R v=true→S v=true):∀ l,cnt R l≤cnt S l
  | []=>Nat.le_refl _
  | x::l=>by
    have:=cnt_mono R S h l
    have h1:=h x.1;have h2:=h x.2
    simp only [cnt,inn]
    cases e:R x.1<;>cases f:R x.2<;>simp_all<;>omega
theorem card_mono (R S:Nat→Bool) (h:∀ v,R v=true→S v=true):∀ n,cardR R n≤cardR S n
  | 0=>Nat.le_refl _
  | n+1=>by
    have:=card_mono R S h n
    have h1:=h n
    simp only [cardR]
    cases e:R n<;>simp_all<;>omega
theorem card_le (R:Nat→Bool):∀ n,cardR R n≤n
  | 0=>Nat.le_refl _
  | n+1=>by have:=card_le R n;simp only [cardR];cases R n<;>simp<;>omega
theorem card_one (R:Nat→Bool) (a:Nat) (h:R a=true):∀ n,a<n→1≤cardR R n
  | 0,h'=>by omega
  | n+1,h'=>by
    simp only [cardR]
    by_cases e:a=n
    · subst e;simp [h]
    · have:=card_one R a h n (by omega);omega
theorem card_two (R:Nat→Bool) (a b:Nat) (h:R a=true) (hb:R b=true) (hn:a≠b):∀ n,a<n→b<n→2≤cardR R n
  | 0,h',_=>by omega
  | n+1,h',h''=>by
    simp only [cardR]
    by_cases e:a=n
    · subst e
      have:=card_one R b hb a (by omega);simp [h];omega
    · by_cases e':b=n
      · subst e'
        have:=card_one R a h b (by omega);simp [hb];omega
      · have:=card_two R a b h hb hn n (by omega) (by omega);omega
theorem card_single (a:Nat):∀ n,cardR (fun v=>v==a) n≤1∧(n≤a→cardR (fun v=>v==a) n=0)
  | 0=>by simp [cardR]
  | n+1=>by
    obtain ⟨h1,h2⟩:=card_single a n
    simp only [cardR]
    by_cases e:n=a
    · subst e;rw [h2 (Nat.le_refl _)];simp
    · rw [show (n==a)=false by simp [e]];exact ⟨h1,fun h=>h2 (by omega)⟩
theorem card_pair (a b n:Nat):cardR (fun v=>v==a||v==b) n≤2:=by
  have h:=card_uni (fun v=>v==a) (fun v=>v==b) n
  have h1:=(card_single a n).1
  have h2:=(card_single b n).1
  have e:cardR (uni (fun v=>v==a) (fun v=>v==b)) n=cardR (fun v=>v==a||v==b) n:=rfl
  omega
theorem card_eq (R S:Nat→Bool) (h:∀ v,R v=true→S v=true):∀ n,cardR S n≤cardR R n→∀ v,v<n→S v=true→R v=true
  | 0,_,v,hv,_=>by omega
  | n+1,hc,v,hv,hs=>by
    have hm:=card_mono R S h n
    have h1:=h n
    simp only [cardR] at hc
    by_cases e:v=n
    · subst e
      cases er:R v
      · rw [er,hs] at hc;simp at hc;omega
      · rfl
    · refine card_eq R S h n ?_ v (by omega) hs
      cases er:R n<;>cases es:S n<;>simp_all<;>omega
def Tight (N:Nat) (I:List (Nat×Nat)) (R:Nat→Bool):Prop:=cnt R I+3=2*cardR R N
theorem tight_union {N:Nat} {I:List (Nat×Nat)} (hI:Sparse N 2 3 I) {R S:Nat→Bool} (h1:Tight N I R) (h2:Tight N I S)
    (a b:Nat) (hab:a≠b) (ha:a<N) (hb:b<N) (ra:R a=true) (rb:R b=true) (sa:S a=true) (sb:S b=true):Tight N I (uni R S):=by
  have c1:=card_uni R S N
  have c2:=cnt_uni R S I
  have c3:=cnt_mono R (uni R S) (fun v h=>by simp [uni,h]) I
  have c4:=hI (uni R S)
  have c5:=hI (cap2 R S)
  have c6:=card_two (cap2 R S) a b (by simp [cap2,ra,sa]) (by simp [cap2,rb,sb]) hab N ha hb
  unfold Tight at *
  by_cases e:0<cnt (cap2 R S) I
  · have:=c5 e;have:=c4 (by omega);omega
  · have:=c4 (by omega);omega
theorem biggest {N:Nat} {I:List (Nat×Nat)} (x:Nat×Nat) (h:∃ R,Tight N I R∧inn R x=true) :
    ∃ R,Tight N I R∧inn R x=true∧∀ S,Tight N I S→inn S x=true→cardR S N≤cardR R N:=by
  have key:∀ d,∀ R,Tight N I R→inn R x=true→N - cardR R N≤d →
      ∃ R,Tight N I R∧inn R x=true∧∀ S,Tight N I S→inn S x=true→cardR S N≤cardR R N:=by
    intro d
    induction d with
    | zero =>
      intro R h1 h2 h3
      exact ⟨R,h1,h2,fun S _ _=>by have:=card_le S N;omega⟩
    | succ d ih =>
      intro R h1 h2 h3
      by_cases hS:∃ S,Tight N I S∧inn S x=true∧cardR R N<cardR S N
      · obtain ⟨S,s1,s2,s3⟩:=hS
        exact ih S s1 s2 (by omega)
      · refine ⟨R,h1,h2,fun S s1 s2=>?_⟩
        by_cases e:cardR S N≤cardR R N
        · exact e
        · exact absurd ⟨S,s1,s2,by omega⟩ hS
  obtain ⟨R,h1,h2⟩:=h
  exact key _ R h1 h2 (Nat.le_refl _)
def GoodBar (N:Nat) (x:Nat×Nat):Prop:=x.1≠x.2∧x.1<N∧x.2<N
def total (N:Nat):List (Nat→Bool)→Nat
  | []=>0
  | R::F=>(2*cardR R N - 3)+total N F
def cntAll (F:List (Nat→Bool)) (I:List (Nat×Nat)):Nat:=match F with
  | []=>0
  | R::F=>cnt R I+cntAll F I
def homes (x:Nat×Nat):List (Nat→Bool)→Nat
  | []=>0
  | R::F=>(inn R x).toNat+homes x F
theorem cntAll_nil (F:List (Nat→Bool)):cntAll F []=0:=by
  induction F with
  | nil=>rfl
  | cons R F ih=>simp [cntAll,cnt,ih]
theorem cntAll_cons (F:List (Nat→Bool)) (x:Nat×Nat) (l:List (Nat×Nat)):cntAll F (x::l)=homes x F+cntAll F l:=by
  induction F with
  | nil=>rfl
  | cons R F ih=>simp only [cntAll,cnt,homes,ih];omega
theorem cntAll_length (F:List (Nat→Bool)):∀ l:List (Nat×Nat),(∀ x∈l,homes x F=1)→cntAll F l=l.length
  | [],_=>cntAll_nil F
  | x::l,h=>by
    rw [cntAll_cons,h x (by simp),cntAll_length F l (fun y hy=>h y (by simp [hy]))];simp;omega
theorem cntAll_tight {N:Nat} {I:List (Nat×Nat)}:∀ F:List (Nat→Bool),(∀ R∈F,Tight N I R)→cntAll F I=total N F
  | [],_=>rfl
  | R::F,h=>by
    have h1:=h R (by simp)
    unfold Tight at h1
    simp only [cntAll,total,cntAll_tight F (fun S hS=>h S (by simp [hS]))];omega
theorem cntAll_sparse {N:Nat} {J:List (Nat×Nat)} (hJ:Sparse N 2 3 J):∀ F:List (Nat→Bool),cntAll F J≤total N F
  | []=>Nat.le_refl _
  | R::F=>by
    have h1:=hJ R
    have:=cntAll_sparse hJ F
    simp only [cntAll,total]
    by_cases e:0<cnt R J
    · have:=h1 e;omega
    · omega
theorem blocks {N:Nat} {I:List (Nat×Nat)} (hI:Sparse N 2 3 I) (L:List (Nat×Nat)) (hL:∀ x∈L,GoodBar N x)
    (hT:∀ x∈L,∃ R,Tight N I R∧inn R x=true):∀ M:List (Nat×Nat),(∀ x∈M,x∈L) →
      ∃ F:List (Nat→Bool),(∀ R∈F,Tight N I R)∧(∀ R∈F,∃ x∈L,inn R x=true∧∀ S,Tight N I S→inn S x=true→cardR S N≤cardR R N) ∧
        (∀ x∈L,homes x F≤1)∧(∀ x∈M,homes x F=1)
  | [],_=>⟨[],by simp,by simp,by simp [homes],by simp⟩
  | y::M,hM=>by
    obtain ⟨F,f1,f2,f3,f4⟩:=blocks hI L hL hT M (fun x hx=>hM x (by simp [hx]))
    by_cases hy:homes y F=1
    · refine ⟨F,f1,f2,f3,fun x hx=>?_⟩
      rcases List.mem_cons.mp hx with e | e
      · rw [e];exact hy
      · exact f4 x e
    · have hyL:y∈L:=hM y (by simp)
      have hy0:homes y F=0:=by have:=f3 y hyL;omega
      obtain ⟨B,b1,b2,b3⟩:=biggest y (hT y hyL)
      have key:∀ x∈L,inn B x=true→homes x F=0:=by
        intro x hx hBx
        have none:∀ F':List (Nat→Bool),(∀ R∈F',R∈F)→homes x F'=0:=by
          intro F'
          induction F' with
          | nil=>intro _;rfl
          | cons R F' ih =>
            intro hs
            have h0:=ih (fun S hS=>hs S (by simp [hS]))
            simp only [homes,h0]
            cases e:inn R x with
            | false=>simp
            | true =>
              exfalso
              have hR:=hs R (by simp)
              obtain ⟨w,hw,w1,w2⟩:=f2 R hR
              have hg:=hL x hx
              simp only [inn,Bool.and_eq_true] at e hBx b2 w1
              have hu:=tight_union hI (f1 R hR) b1 x.1 x.2 hg.1 hg.2.1 hg.2.2 e.1 e.2 hBx.1 hBx.2
              have hc:=w2 _ hu (by simp [inn,uni,w1.1,w1.2])
              have heq:=card_eq R (uni R B) (fun v h=>by simp [uni,h]) N hc
              have gy:=hL y hyL
              have r1:=heq y.1 gy.2.1 (by simp [uni,b2.1])
              have r2:=heq y.2 gy.2.2 (by simp [uni,b2.2])
              have:∀ F'':List (Nat→Bool),R∈F''→1≤homes y F'':=by
                intro F''
                induction F'' with
                | nil=>intro h;cases h
                | cons S F'' ih2 =>
                  intro h
                  simp only [homes]
                  rcases List.mem_cons.mp h with e2 | e2
                  · subst e2;simp [inn,r1,r2]
                  · have:=ih2 e2;omega
              have:=this F hR
              omega
        exact none F (fun R h=>h)
      refine ⟨B::F,?_,?_,?_,?_⟩
      · intro R hR
        rcases List.mem_cons.mp hR with e | e
        · rw [e];exact b1
        · exact f1 R e
      · intro R hR
        rcases List.mem_cons.mp hR with e | e
        · rw [e];exact ⟨y,hyL,b2,b3⟩
        · exact f2 R e
      · intro x hx
        simp only [homes]
        cases e:inn B x with
        | true=>rw [key x hx e];simp
        | false=>simpa using f3 x hx
      · intro x hx
        simp only [homes]
        rcases List.mem_cons.mp hx with e | e
        · subst e;rw [b2,hy0];simp
        · have h1:=f4 x e
          cases e2:inn B x with
          | true=>have:=key x (hM x hx) e2;omega
          | false=>simpa using h1
theorem rank_le {N:Nat} {I J:List (Nat×Nat)} (L:List (Nat×Nat)) (hL:∀ x∈L,GoodBar N x) (hI:Sparse N 2 3 I) (hIL:∀ x∈I,x∈L)
    (hT:∀ x∈L,∃ R,Tight N I R∧inn R x=true) (hJ:Sparse N 2 3 J) (hJL:∀ x∈J,x∈L):J.length≤I.length:=by
  obtain ⟨F,f1,_,_,f4⟩:=blocks hI L hL hT L (fun x h=>h)
  have e1:=cntAll_length F I (fun x hx=>f4 x (hIL x hx))
  have e2:=cntAll_length F J (fun x hx=>f4 x (hJL x hx))
  have e3:=cntAll_tight F f1
  have e4:=cntAll_sparse hJ F
  omega
open Classical in
noncomputable def greedy (N k l:Nat):List (Nat×Nat)→List (Nat×Nat)→List (Nat×Nat)
  | acc,[]=>acc
  | acc,x::xs=>if Sparse N k l (acc++[x]) then greedy N k l (acc++[x]) xs else greedy N k l acc xs
theorem cnt_append (R:Nat→Bool):∀ a b:List (Nat×Nat),cnt R (a++b)=cnt R a+cnt R b
  | [],b=>by simp [cnt]
  | x::a,b=>by simp only [List.cons_append,cnt,cnt_append R a b];omega
theorem greedy_append (N k l:Nat):∀ (xs ys acc:List (Nat×Nat)),greedy N k l acc (xs++ys)=greedy N k l (greedy N k l acc xs) ys
  | [],ys,acc=>rfl
  | x::xs,ys,acc=>by
    simp only [List.cons_append,greedy]
    split
    · exact greedy_append N k l xs ys _
    · exact greedy_append N k l xs ys _
theorem greedy_sparse (N k l:Nat):∀ (xs acc:List (Nat×Nat)),Sparse N k l acc→Sparse N k l (greedy N k l acc xs)
  | [],acc,h=>h
  | x::xs,acc,h=>by
    simp only [greedy]
    split
    · next h'=>exact greedy_sparse N k l xs _ h'
    · exact greedy_sparse N k l xs acc h
theorem greedy_pre (N k l:Nat):∀ (xs acc:List (Nat×Nat)),∃ t,greedy N k l acc xs=acc++t∧∀ x∈t,x∈xs
  | [],acc=>⟨[],by simp [greedy],by simp⟩
  | x::xs,acc=>by
    simp only [greedy]
    split
    · obtain ⟨t,h1,h2⟩:=greedy_pre N k l xs (acc++[x])
      refine ⟨x::t,by simp [h1],fun y hy=>?_⟩
      rcases List.mem_cons.mp hy with e | e
      · simp [e]
      · simp [h2 y e]
    · obtain ⟨t,h1,h2⟩:=greedy_pre N k l xs acc
      exact ⟨t,h1,fun y hy=>by simp [h2 y hy]⟩
theorem sparse_nil (N k l:Nat):Sparse N k l []:=fun R h=>by simp [cnt] at h
theorem tight_pre {N:Nat} {I t:List (Nat×Nat)} {R:Nat→Bool} (hs:Sparse N 2 3 (I++t)) (h:Tight N I R):Tight N (I++t) R:=by
  have h1:=hs R
  have h2:=cnt_append R I t
  unfold Tight at *
  have:=h1 (by omega)
  omega
theorem greedy_tight {N:Nat}:∀ (xs acc:List (Nat×Nat)),(∀ x∈xs,GoodBar N x)→Sparse N 2 3 acc→∀ x∈xs,∃ R,Tight N (greedy N 2 3 acc xs) R∧inn R x=true
  | [],acc,_,_,x,hx=>by cases hx
  | y::xs,acc,hg,hs,x,hx=>by
    simp only [greedy]
    have hgy:=hg y (by simp)
    split
    · next h' =>
      rcases List.mem_cons.mp hx with e | e
      · subst e
        obtain ⟨t,ht,_⟩:=greedy_pre N 2 3 xs (acc++[x])
        have hs':=greedy_sparse N 2 3 xs _ h'
        refine ⟨fun v=>v==x.1||v==x.2,?_,by simp [inn]⟩
        rw [ht] at hs' ⊢
        refine tight_pre hs' ?_
        have c1:=h' (fun v=>v==x.1||v==x.2) (by rw [cnt_append];simp [cnt,inn])
        have c2:1≤cnt (fun v=>v==x.1||v==x.2) (acc++[x]):=by rw [cnt_append];simp [cnt,inn]
        have c3:=card_pair x.1 x.2 N
        unfold Tight;omega
      · exact greedy_tight xs _ (fun z hz=>hg z (by simp [hz])) h' x e
    · next h' =>
      rcases List.mem_cons.mp hx with e | e
      · subst e
        obtain ⟨t,ht,_⟩:=greedy_pre N 2 3 xs acc
        have hs':=greedy_sparse N 2 3 xs acc hs
        obtain ⟨R,hR⟩:=Classical.not_forall.mp h'
        obtain ⟨hp,hq⟩:=Classical.not_imp.mp hR
        rw [cnt_append] at hp hq
        have hc:cnt R [x]=(inn R x).toNat:=by simp [cnt]
        have h1:=hs R
        cases e2:inn R x with
        | false=>rw [hc,e2] at hp hq;simp at hp hq;have:=h1 hp;omega
        | true =>
          rw [hc,e2] at hp hq
          simp only [Bool.toNat_true] at hp hq
          refine ⟨R,?_,e2⟩
          rw [ht] at hs' ⊢
          refine tight_pre hs' ?_
          simp only [inn,Bool.and_eq_true] at e2
          have c6:=card_two R x.1 x.2 e2.1 e2.2 hgy.1 N hgy.2.1 hgy.2.2
          unfold Tight
          by_cases e3:0<cnt R acc
          · have:=h1 e3;omega
          · omega
      · exact greedy_tight xs acc (fun z hz=>hg z (by simp [hz])) hs x e
theorem rank_same {N:Nat} (L M:List (Nat×Nat)) (hL:∀ x∈L,GoodBar N x) (h:∀ x,x∈L↔x∈M):(greedy N 2 3 [] L).length=(greedy N 2 3 [] M).length:=by
  have hM:∀ x∈M,GoodBar N x:=fun x hx=>hL x ((h x).mpr hx)
  obtain ⟨t,ht,hti⟩:=greedy_pre N 2 3 L []
  obtain ⟨s,hs,hsi⟩:=greedy_pre N 2 3 M []
  simp only [List.nil_append] at ht hs
  have sl:=greedy_sparse N 2 3 L [] (sparse_nil N 2 3)
  have sm:=greedy_sparse N 2 3 M [] (sparse_nil N 2 3)
  have tl:=greedy_tight L [] hL (sparse_nil N 2 3)
  have tm:=greedy_tight M [] hM (sparse_nil N 2 3)
  have a:=rank_le L hL sl (by rw [ht];exact hti) tl sm (by rw [hs];exact fun x hx=>(h x).mpr (hsi x hx))
  have b:=rank_le M hM sm (by rw [hs];exact hsi) tm sl (by rw [ht];exact fun x hx=>(h x).mp (hti x hx))
  omega
abbrev PB:=Nat×(Nat×Nat)
def tc (v:Nat):List PB→Nat
  | []=>0
  | p::l=>(p.1==v).toNat+tc v l
def outR (R:Nat→Bool):List PB→Nat
  | []=>0
  | p::l=>(R p.1).toNat+outR R l
def barsOf:List PB→List (Nat×Nat)
  | []=>[]
  | p::l=>p.2::barsOf l
def sumR (R:Nat→Bool) (f:Nat→Nat):Nat→Nat
  | 0=>0
  | n+1=>sumR R f n+(if R n then f n else 0)
theorem sumR_zero (R:Nat→Bool):∀ N,sumR R (fun v=>tc v []) N=0
  | 0=>rfl
  | n+1=>by
    have:=sumR_zero R n
    have e:tc n []=0:=rfl
    simp only [sumR];rw [this,e];simp
theorem sumR_tc (R:Nat→Bool) (N:Nat):∀ l:List PB,(∀ p∈l,p.1<N)→sumR R (fun v=>tc v l) N=outR R l
  | [],_=>by
    simp only [outR]
    exact sumR_zero R N
  | p::l,h=>by
    have ih:=sumR_tc R N l (fun q hq=>h q (by simp [hq]))
    have hp:=h p (by simp)
    simp only [outR,← ih]
    have key:∀ n,sumR R (fun v=>tc v (p::l)) n=(if p.1<n then (R p.1).toNat else 0)+sumR R (fun v=>tc v l) n:=by
      intro n
      induction n with
      | zero=>simp [sumR]
      | succ n ih2 =>
        simp only [sumR]
        rw [ih2]
        have et:tc n (p::l)=(p.1==n).toNat+tc n l:=rfl
        rw [et]
        by_cases e:p.1=n
        · subst e
          rw [if_neg (Nat.lt_irrefl _),if_pos (Nat.lt_succ_self _)]
          cases R p.1<;>simp;omega
        · have e1:(p.1==n)=false:=by simp [e]
          have e1:(p.1==n).toNat=0:=by rw [e1];rfl
          rw [e1]
          by_cases e2:p.1<n
          · rw [if_pos e2,if_pos (show p.1<n+1 by omega)];cases R n<;>simp<;>omega
          · rw [if_neg e2,if_neg (show ¬ p.1<n+1 by omega)];cases R n<;>simp
    rw [key N,if_pos hp]
theorem sumR_add (R:Nat→Bool) (f g:Nat→Nat) (k:Nat):∀ N,(∀ v,v<N→f v+g v=k)→sumR R f N+sumR R g N=k*cardR R N
  | 0,_=>by simp [sumR,cardR]
  | n+1,h=>by
    have ih:=sumR_add R f g k n (fun v hv=>h v (by omega))
    have h1:=h n (by omega)
    simp only [sumR,cardR,Nat.mul_add]
    cases R n<;>simp<;>omega
theorem cnt_out_le (R:Nat→Bool):∀ l:List PB,(∀ p∈l,p.1=p.2.1∨p.1=p.2.2)→cnt R (barsOf l)≤outR R l
  | [],_=>Nat.le_refl _
  | p::l,h=>by
    have ih:=cnt_out_le R l (fun q hq=>h q (by simp [hq]))
    have hp:=h p (by simp)
    simp only [barsOf,cnt,outR,inn]
    rcases hp with e | e<;>rw [e]<;>cases R p.2.1<;>cases R p.2.2<;>simp<;>omega
theorem cnt_out_eq (R:Nat→Bool):∀ l:List PB,(∀ p∈l,p.1=p.2.1∨p.1=p.2.2)→(∀ p∈l,R p.1=true→inn R p.2=true)→cnt R (barsOf l)=outR R l
  | [],_,_=>rfl
  | p::l,h,hc=>by
    have ih:=cnt_out_eq R l (fun q hq=>h q (by simp [hq])) (fun q hq=>hc q (by simp [hq]))
    have hp:=h p (by simp)
    have hq:=hc p (by simp)
    simp only [barsOf,cnt,outR,inn,ih] at *
    rcases hp with e | e<;>rw [e] at hq ⊢<;>cases e1:R p.2.1<;>cases e2:R p.2.2<;>simp_all
theorem sumR_two (R:Nat→Bool) (f:Nat→Nat) (a b:Nat) (hab:a≠b) (ra:R a=true) (rb:R b=true):∀ N,a<N→b<N→f a+f b≤sumR R f N:=by
  have one:∀ c,R c=true→∀ N,c<N→f c≤sumR R f N:=by
    intro c hc N
    induction N with
    | zero=>omega
    | succ n ih =>
      intro h
      simp only [sumR]
      by_cases e:c=n
      · subst e;simp [hc]
      · have:=ih (by omega);omega
  intro N
  induction N with
  | zero=>omega
  | succ n ih =>
    intro h1 h2
    simp only [sumR]
    by_cases e:a=n
    · subst e;have:=one b rb a (by omega);simp [ra];omega
    · by_cases e':b=n
      · subst e';have:=one a ra b (by omega);simp [rb];omega
      · have:=ih (by omega) (by omega);omega
theorem sumR_only (R:Nat→Bool) (f:Nat→Nat) (a b:Nat) (hab:a≠b) (h0:∀ v,R v=true→v≠a→v≠b→f v=0):∀ N,sumR R f N≤f a+f b:=by
  have key:∀ N,sumR R f N≤(if a<N then f a else 0)+(if b<N then f b else 0):=by
    intro N
    induction N with
    | zero=>simp [sumR]
    | succ n ih =>
      simp only [sumR]
      by_cases e:a=n
      · subst e
        rw [if_neg (Nat.lt_irrefl a)] at ih
        rw [if_pos (Nat.lt_succ_self a)]
        have:(if R a=true then f a else 0)≤f a:=by split<;>omega
        by_cases q:b<a
        · rw [if_pos q] at ih;rw [if_pos (show b<a+1 by omega)];omega
        · rw [if_neg q] at ih;omega
      · by_cases e':b=n
        · subst e'
          rw [if_neg (Nat.lt_irrefl b)] at ih
          rw [if_pos (Nat.lt_succ_self b)]
          have:(if R b=true then f b else 0)≤f b:=by split<;>omega
          by_cases q:a<b
          · rw [if_pos q] at ih;rw [if_pos (show a<b+1 by omega)];omega
          · rw [if_neg q] at ih;omega
        · have e1:(if R n=true then f n else 0)=0:=by
            split
            · next h=>exact h0 n h (Ne.symm e) (Ne.symm e')
            · rfl
          rw [e1]
          by_cases q:a<n<;>by_cases q':b<n<;>simp only [q,q',if_true,if_false] at ih<;>(first | rw [if_pos (show a<n+1 by omega)] | rw [if_neg (show ¬ a<n+1 by omega)])<;>(first | rw [if_pos (show b<n+1 by omega)] | rw [if_neg (show ¬ b<n+1 by omega)])<;>omega
  intro N
  have:=key N
  have h1:(if a<N then f a else 0)≤f a:=by split<;>omega
  have h2:(if b<N then f b else 0)≤f b:=by split<;>omega
  omega
structure Game (N k l:Nat) (free:Nat→Nat) (P:List PB):Prop where
  ends:∀ p∈P,p.1=p.2.1∨p.1=p.2.2
  good:∀ p∈P,GoodBar N p.2
  sum:∀ v,v<N→free v+tc v P=k
theorem Game.lt {N k l:Nat} {free:Nat→Nat} {P:List PB} (h:Game N k l free P):∀ p∈P,p.1<N:=by
  intro p hp
  have:=h.good p hp
  rcases h.ends p hp with e | e
  · rw [e];exact this.2.1
  · rw [e];exact this.2.2
theorem Game.accept {N k l:Nat} {free:Nat→Nat} {P:List PB} (h:Game N k l free P) (hs:Sparse N k l (barsOf P)) (a b:Nat) (hab:GoodBar N (a,b)) (hf:l+1≤free a+free b) :
    Sparse N k l (barsOf P++[(a,b)]):=by
  intro R hp
  rw [cnt_append] at hp ⊢
  have hc:cnt R [(a,b)]=(inn R (a,b)).toNat:=by simp [cnt]
  have h1:=hs R
  rw [hc] at hp ⊢
  cases e:inn R (a,b) with
  | false=>rw [e] at hp;simp at hp ⊢;exact h1 hp
  | true =>
    have e':=e
    simp only [inn,Bool.and_eq_true] at e'
    have c1:=cnt_out_le R P h.ends
    have c2:=sumR_tc R N P h.lt
    have c3:=sumR_add R free (fun v=>tc v P) k N h.sum
    have c4:=sumR_two R free a b hab.1 e'.1 e'.2 N hab.2.1 hab.2.2
    simp only [Bool.toNat_true];omega
theorem Game.reject {N k l:Nat} {free:Nat→Nat} {P:List PB} (h:Game N k l free P) (a b:Nat) (hab:GoodBar N (a,b)) (hf:free a+free b≤l) (R:Nat→Bool)
    (ra:R a=true) (rb:R b=true) (hcl:∀ p∈P,R p.1=true→inn R p.2=true) (h0:∀ v,R v=true→v≠a→v≠b→free v=0) :
    ¬ Sparse N k l (barsOf P++[(a,b)]):=by
  intro hs
  have h1:=hs R
  rw [cnt_append] at h1
  have hc:cnt R [(a,b)]=1:=by simp [cnt,inn,ra,rb]
  rw [hc] at h1
  have c1:=cnt_out_eq R P h.ends hcl
  have c2:=sumR_tc R N P h.lt
  have c3:=sumR_add R free (fun v=>tc v P) k N h.sum
  have c4:=sumR_only R free a b hab.1 h0 N
  have:=h1 (by omega)
  omega
end Go.Proofs.YtkkjoghiigiokaaGreat.Mat
namespace Go.Proofs.YtkkjoghiigiokaaGreat.Mach
open Go
set_option linter.unusedVariables false
set_option linter.unusedSimpArgs false
def brL (g:Nat→T_Bar) (nb:Nat):AV:=.p (.seq true 2 nb (fun i=>[.int .i64 (g i).1,.int .i64 (g i).2.1]))
def brA (x:T_Bar):AV:=.agg [.p (.int .i64 x.1),.p (.int .i64 x.2.1)]
def iOb (n:Nat) (F:Nat→Int):Ob:=⟨false,1,n,fun i=>[.p (.int .i64 (F i))]⟩
def pBox (N m:Nat):Ob:=⟨true,3,1,fun _=>[.ar 1 1 0 N,.ar 1 2 0 m,.ar 1 3 0 m]⟩
def othF (x:T_Bar) (v:Int):Int:=if x.1=v then x.2.1 else x.1
def pebH (N m:Nat) (F T Q:Nat→Int):Hp:=[(0,pBox N m),(1,iOb N F),(2,iOb m T),(3,iOb m Q)]
def mapOb (n:Nat) (K V:Nat→Int):Ob:=⟨false,0,n,fun i=>[.p (.int .i64 (K i)),.p (.int .i64 (V i))]⟩
def SO (g:Nat→T_Bar) (nb N m:Nat) (F T Q td V:Nat→Int) (a b:Int) (i tn:Nat):St :=
  ⟨[brL g nb,.pt 3 0 0 0,.p (.int .i64 a),.p (.int .i64 b),.p .any,.p .any,.p .any,.p .any,.p .any,.mp 4,.ar 1 5 0 tn,.p (.int .i64 i)]++List.replicate 118 anyA,
   [(0,pBox N m),(1,iOb N F),(2,iOb m T),(3,iOb m Q),(4,mapOb tn td V),(5,iOb tn td)],6⟩
def SM (g:Nat→T_Bar) (nb N m:Nat) (F T Q td V:Nat→Int) (a b:Int) (i j tn:Nat):St :=
  ⟨[brL g nb,.pt 3 0 0 0,.p (.int .i64 a),.p (.int .i64 b),.p .any,.p .any,.p .any,.p .any,.p .any,.mp 4,.ar 1 5 0 tn,.p (.int .i64 i)]++List.replicate 22 anyA++[.ar 1 3 0 m,.p (.int .i64 m),.p (.int .i64 j)]++List.replicate 93 anyA,
   [(0,pBox N m),(1,iOb N F),(2,iOb m T),(3,iOb m Q),(4,mapOb tn td V),(5,iOb tn td)],6⟩
def SC (g:Nat→T_Bar) (nb N m:Nat) (F T Q td V:Nat→Int) (a b v:Int) (tn:Nat):St :=
  ⟨[brL g nb,.pt 3 0 0 0,.p (.int .i64 a),.p (.int .i64 b),.p .any,.p .any,.p .any,.p .any,.p .any,.mp 4,.p .any,.p .any,.p .any,.p .any,.p (.int .i64 v)]++List.replicate 115 anyA,
   [(0,pBox N m),(1,iOb N F),(2,iOb m T),(3,iOb m Q),(4,mapOb tn td V)],5⟩
def SP (g:Nat→T_Bar) (nb N m:Nat) (F T Q td V:Nat→Int) (a b at':Int) (tn:Nat):St :=
  ⟨[brL g nb,.pt 3 0 0 0,.p (.int .i64 a),.p (.int .i64 b),.p .any,.p .any,.p .any,.p .any,.p .any,.mp 4,.p .any,.p .any,.p .any,.p .any,.p .any,.p .any,.p .any,.p (.int .i64 at')]++List.replicate 112 anyA,
   [(0,pBox N m),(1,iOb N F),(2,iOb m T),(3,iOb m Q),(4,mapOb tn td V)],5⟩
theorem pOtherT (x:T_Bar) (v:Int) :
    pathOb Tryz.prog Tryz.f223 0 [rg 2,rg 4,.dec true,rg 3] [.code (bodyOf Tryz.f223)] (start Tryz.f223 [] 0 [brA x,.p (.int .i64 v)]) [] 1 [] (.p (.int .i64 x.2.1)) =
    some [(NT 0 1),((x.1==v)=true),(NT 0 1),(AI x.2.1)]:=by kernel_rfl
theorem pOtherF (x:T_Bar) (v:Int) :
    pathOb Tryz.prog Tryz.f223 0 [rg 2,rg 4,.dec false,rg 3] [.code (bodyOf Tryz.f223)] (start Tryz.f223 [] 0 [brA x,.p (.int .i64 v)]) [] 1 [] (.p (.int .i64 x.1)) =
    some [(NT 0 1),((x.1==v)=false),(NT 0 1),(AI x.1)]:=by kernel_rfl
theorem pMz (g:Nat→T_Bar) (nb N m:Nat) (F T Q:Nat→Int) (a b:Int) :
    pieceOb Tryz.prog 4 [rg 1,rg 5,rg 3,rg 1,.head] [.code (bodyOf Tryz.f408)] (start Tryz.f408 (pebH N m F T Q) 4 [brL g nb,.pt 3 0 0 0,.p (.int .i64 a),.p (.int .i64 b)]) [0,1,2,3,36,228] 1 (SO g nb N m F T Q (fun _=>a) (fun _=>-1) a b 0 1) =
    some (zf48,[((mhas (fun i=>keyA ((Ob.mk false 0 0 fun x=>[]).f i)) 0 a)=false),(AN nb),(AP nb (fun i=>[.int .i64 ((g i).1),.int .i64 ((g i).2.1)])),(AN 0),(AI a),(AI b),(AN 0),(AN 1),((0:Int)=(↑0:Int)),(AN 3),(NL 1 1),(NL 1 1),(AN 0),(AN N),(AN 0),(AN m),(AN 0),(AN m),(AN 1),(NL N N),(AA N (fun i=>[.p (.int .i64 (F i))])),(AN 1),(NL m m),(AA m (fun i=>[.p (.int .i64 (T i))])),(AN 1),(NL m m),(AA m (fun i=>[.p (.int .i64 (Q i))])),(AN 1),(false=false),(false=false),(AN 0),(NL 1 1),(AA 1 (fun i=>[.p (.int .i64 a),.p (.int .i64 (-1))])),(AN 1),(NL 1 1),(AA 1 (fun i=>[.p (.int .i64 a)]))]):=by kernel_rfl
theorem pMo1 (g:Nat→T_Bar) (nb N m:Nat) (F T Q td V:Nat→Int) (a b:Int) (i tn:Nat) :
    pieceOb Tryz.prog 4 [rg 4,.dec true,rg 6,.head] zf48 (SO g nb N m F T Q td V a b i tn) [0,1,2,3,4,5] 1 (SM g nb N m F T Q td V a b i 0 tn) =
    some (zf15,[((decide ((↑i:Int)<(↑tn:Int)))=true),(NT 0 1),(AN nb),(AP nb (fun i_1=>[.int .i64 ((g i_1).1),.int .i64 ((g i_1).2.1)])),(AN 0),(AI a),(AI b),(AN 0),(AN tn),(AI ((↑i:Int))),(AN 0),(AN m),(AI ((↑m:Int))),((0:Int)=(↑0:Int)),(AN 3),(NL 1 1),(NL 1 1),(AN 0),(AN N),(AN 0),(AN m),(AN 0),(AN m),(AN 1),(NL N N),(AA N (fun i_1=>[.p (.int .i64 (F i_1))])),(AN 1),(NL m m),(AA m (fun i_1=>[.p (.int .i64 (T i_1))])),(AN 1),(NL m m),(AA m (fun i_1=>[.p (.int .i64 (Q i_1))])),(AN tn),(false=false),(false=false),(AN 0),(NL tn tn),(AA tn (fun i_1=>[.p (.int .i64 (td i_1)),.p (.int .i64 (V i_1))])),(AN 1),(NL tn tn),(AA tn (fun i_1=>[.p (.int .i64 (td i_1))]))]):=by kernel_rfl
theorem pMo2 (g:Nat→T_Bar) (nb N m:Nat) (F T Q td V:Nat→Int) (a b:Int) (i tn:Nat) :
    pathOb Tryz.prog Tryz.f408 4 [rg 4,.dec false,rg 1] zf48 (SO g nb N m F T Q td V a b i tn) [0,1,2,3] 1 (pebH N m F T Q) (.p (.bool false)) =
    some [((decide ((↑i:Int)<(↑tn:Int)))=false),(false=false),(AN 3),(NL 1 1),(NL 1 1),(AN 0),(AN N),(AN 0),(AN m),(AN 0),(AN m),(AN 1),(NL N N),(AA N (fun i_1=>[.p (.int .i64 (F i_1))])),(AN 1),(NL m m),(AA m (fun i_1=>[.p (.int .i64 (T i_1))])),(AN 1),(NL m m),(AA m (fun i_1=>[.p (.int .i64 (Q i_1))])),(AE 1),(AE N),(AE m),(AE m)]:=by kernel_rfl
theorem pMm0 (g:Nat→T_Bar) (nb N m:Nat) (F T Q td V:Nat→Int) (a b:Int) (i j tn:Nat) :
    pieceOb Tryz.prog 4 [rg 1,.dec false,rg 3,.head] zf15 (SM g nb N m F T Q td V a b i j tn) [0,1,2,3,4,5] 1 (SO g nb N m F T Q td V a b (i+1) tn) =
    some (zf48,[((decide ((↑j:Int)<(↑m:Int)))=false),(R0 ((↑i:Int)+1)),(R1 ((↑i:Int)+1)),(AN nb),(AP nb (fun i_1=>[.int .i64 ((g i_1).1),.int .i64 ((g i_1).2.1)])),(AN 0),(AI a),(AI b),(AN 0),(AN tn),((((↑i:Int)+1):Int)=(↑(i+1):Int)),(AN 3),(NL 1 1),(NL 1 1),(AN 0),(AN N),(AN 0),(AN m),(AN 0),(AN m),(AN 1),(NL N N),(AA N (fun i_1=>[.p (.int .i64 (F i_1))])),(AN 1),(NL m m),(AA m (fun i_1=>[.p (.int .i64 (T i_1))])),(AN 1),(NL m m),(AA m (fun i_1=>[.p (.int .i64 (Q i_1))])),(AN tn),(false=false),(false=false),(AN 0),(NL tn tn),(AA tn (fun i_1=>[.p (.int .i64 (td i_1)),.p (.int .i64 (V i_1))])),(AN 1),(NL tn tn),(AA tn (fun i_1=>[.p (.int .i64 (td i_1))]))]):=by kernel_rfl
theorem pMm1 (g:Nat→T_Bar) (nb N m:Nat) (F T Q td V:Nat→Int) (a b:Int) (i j tn:Nat) :
    pieceOb Tryz.prog 4 [rg 1,.dec true,rg 5,rg 12,.dec true,rg 2,.head] zf15 (SM g nb N m F T Q td V a b i j tn) [0,1,2,3,4,5] 1 (SM g nb N m F T Q td V a b i (j+1) tn) =
    some (zf15,[((decide ((↑j:Int)<(↑m:Int)))=true),(IL 0 (↑j:Int)),(IT (↑j:Int) (↑m:Int)),(NT j m),(NT 0 1),(IL 0 (↑j:Int)),(IT (↑j:Int) (↑m:Int)),(NT j m),(IL 0 (↑i:Int)),(IT (↑i:Int) (↑tn:Int)),(NT i tn),((T j != td i)=true),(R0 ((↑j:Int)+1)),(R1 ((↑j:Int)+1)),(AN nb),(AP nb (fun i_1=>[.int .i64 ((g i_1).1),.int .i64 ((g i_1).2.1)])),(AN 0),(AI a),(AI b),(AN 0),(AN tn),(AI ((↑i:Int))),(AN 0),(AN m),(AI ((↑m:Int))),((((↑j:Int)+1):Int)=(↑(j+1):Int)),(AN 3),(NL 1 1),(NL 1 1),(AN 0),(AN N),(AN 0),(AN m),(AN 0),(AN m),(AN 1),(NL N N),(AA N (fun i_1=>[.p (.int .i64 (F i_1))])),(AN 1),(NL m m),(AA m (fun i_1=>[.p (.int .i64 (T i_1))])),(AN 1),(NL m m),(AA m (fun i_1=>[.p (.int .i64 (Q i_1))])),(AN tn),(false=false),(false=false),(AN 0),(NL tn tn),(AA tn (fun i_1=>[.p (.int .i64 (td i_1)),.p (.int .i64 (V i_1))])),(AN 1),(NL tn tn),(AA tn (fun i_1=>[.p (.int .i64 (td i_1))]))]):=by kernel_rfl
theorem pMm2 (g:Nat→T_Bar) (nb N m:Nat) (F T Q td V:Nat→Int) (a b v:Int) (i j tn:Nat) :
    pieceOb Tryz.prog 4 [rg 1,.dec true,rg 5,rg 12,.dec false,rm [(8,oc [] (.p (.int .i64 v)))] 1,rg 8,rg 1,.dec true,rg 2,.head] zf15 (SM g nb N m F T Q td V a b i j tn) [0,1,2,3,4,5] 1 (SM g nb N m F T Q td V a b i (j+1) tn) =
    some (zf15,[((decide ((↑j:Int)<(↑m:Int)))=true),(IL 0 (↑j:Int)),(IT (↑j:Int) (↑m:Int)),(NT j m),(NT 0 1),(IL 0 (↑j:Int)),(IT (↑j:Int) (↑m:Int)),(NT j m),(IL 0 (↑i:Int)),(IT (↑i:Int) (↑tn:Int)),(NT i tn),((T j != td i)=false),(IL 0 (Q j)),(IT (Q j) (↑nb:Int)),(IL 0 (↑i:Int)),(IT (↑i:Int) (↑tn:Int)),(NT i tn),Con Tryz.prog 223 0 [] [(zf120 g Q j),.p (.int .i64 (td i))] [] (.p (.int .i64 v)),((mhas (fun i=>keyA ((mapOb tn td V).f i)) tn v)=true),(R0 ((↑j:Int)+1)),(R1 ((↑j:Int)+1)),(AN nb),(AP nb (fun i_1=>[.int .i64 ((g i_1).1),.int .i64 ((g i_1).2.1)])),(AN 0),(AI a),(AI b),(AN 0),(AN tn),(AI ((↑i:Int))),(AN 0),(AN m),(AI ((↑m:Int))),((((↑j:Int)+1):Int)=(↑(j+1):Int)),(AN 3),(NL 1 1),(NL 1 1),(AN 0),(AN N),(AN 0),(AN m),(AN 0),(AN m),(AN 1),(NL N N),(AA N (fun i_1=>[.p (.int .i64 (F i_1))])),(AN 1),(NL m m),(AA m (fun i_1=>[.p (.int .i64 (T i_1))])),(AN 1),(NL m m),(AA m (fun i_1=>[.p (.int .i64 (Q i_1))])),(AN tn),(false=false),(false=false),(AN 0),(NL tn tn),(AA tn (fun i_1=>[.p (.int .i64 (td i_1)),.p (.int .i64 (V i_1))])),(AN 1),(NL tn tn),(AA tn (fun i_1=>[.p (.int .i64 (td i_1))]))]):=by kernel_rfl
theorem pMm3 (g:Nat→T_Bar) (nb N m:Nat) (F T Q td V:Nat→Int) (a b v:Int) (i j tn:Nat) :
    pieceOb Tryz.prog 4 [rg 1,.dec true,rg 5,rg 12,.dec false,rm [(8,oc [] (.p (.int .i64 v)))] 1,rg 8,rg 1,.dec false,rg 4,rg 13,.dec true,rg 5,rg 2,.head] zf15 (SM g nb N m F T Q td V a b i j tn) [0,1,2,3,4,1830] 1 (SM g nb N m F T Q (fun s=>if s<tn then td s else v) (fun s=>if s<tn then V s else j) a b i (j+1) (tn+1)) =
    some (zf15,[((decide ((↑j:Int)<(↑m:Int)))=true),(IL 0 (↑j:Int)),(IT (↑j:Int) (↑m:Int)),(NT j m),(NT 0 1),(IL 0 (↑j:Int)),(IT (↑j:Int) (↑m:Int)),(NT j m),(IL 0 (↑i:Int)),(IT (↑i:Int) (↑tn:Int)),(NT i tn),((T j != td i)=false),(IL 0 (Q j)),(IT (Q j) (↑nb:Int)),(IL 0 (↑i:Int)),(IT (↑i:Int) (↑tn:Int)),(NT i tn),Con Tryz.prog 223 0 [] [(zf120 g Q j),.p (.int .i64 (td i))] [] (.p (.int .i64 v)),((mhas (fun i=>keyA ((mapOb tn td V).f i)) tn v)=false),((mhas (fun i=>keyA ((mapOb tn td V).f i)) tn v)=false),(AG (!v==b)),(AG (!v==b)),(AG (!v==b)),(((!v==b)=true)→(NT 0 1)),(AG (!v==b)),(AG (!v==b)),(((!v==b)=true)→(IL 0 v)),(((!v==b)=true)→(IT v (↑N:Int))),(AG (!v==b)),(((!v==b)=true)→(NT v.toNat N)),(AG (!v==b)),(((v==b)=false)→ ((!v==b)=true)),((bif v==b then true else F v.toNat==0)=true),(NL 1 1),(NL tn tn),(NL ((tn+1)*8) 140737488355328),(NL (tn+1) 9223372036854775807),(R0 ((↑j:Int)+1)),(R1 ((↑j:Int)+1)),(AN nb),(AP nb (fun i_1=>[.int .i64 ((g i_1).1),.int .i64 ((g i_1).2.1)])),(AN 0),(AI a),(AI b),(AN 0),(AN ((tn+1))),(AI ((↑i:Int))),(AN 0),(AN m),(AI ((↑m:Int))),((((↑j:Int)+1):Int)=(↑(j+1):Int)),(AN 3),(NL 1 1),(NL 1 1),(AN 0),(AN N),(AN 0),(AN m),(AN 0),(AN m),(AN 1),(NL N N),(AA N (fun i_1=>[.p (.int .i64 (F i_1))])),(AN 1),(NL m m),(AA m (fun i_1=>[.p (.int .i64 (T i_1))])),(AN 1),(NL m m),(AA m (fun i_1=>[.p (.int .i64 (Q i_1))])),(AN ((tn+1))),(false=false),(false=false),(AN 0),(NL (tn+1) (tn+1)),(CV [(1830,⟨false,1,(tn+1),(fun i_2=>(if (i_2<tn) then [.p (.int .i64 (td i_2))] else [.p (.int .i64 v)]))⟩),(1798,⟨false,1,1,(fun i_2=>[.p (.int .i64 v)])⟩),(4,⟨false,0,(tn+1),(fun i_2=>(if (i_2<tn) then [.p (.int .i64 (td i_2)),.p (.int .i64 (V i_2))] else [.p (.int .i64 v),.p (.int .i64 (↑j:Int))]))⟩),(0,⟨true,3,1,(fun i_2=>[.ar 1 1 0 N,.ar 1 2 0 m,.ar 1 3 0 m])⟩),(1,⟨false,1,N,(fun i_2=>[.p (.int .i64 (F i_2))])⟩),(2,⟨false,1,m,(fun i_2=>[.p (.int .i64 (T i_2))])⟩),(3,⟨false,1,m,(fun i_2=>[.p (.int .i64 (Q i_2))])⟩)] [0,1,2,3,4,1830] 1 (tn+1) (fun i_1=>if (i_1<tn) then [.p (.int .i64 (td i_1)),.p (.int .i64 (V i_1))] else [.p (.int .i64 v),.p (.int .i64 (↑j:Int))]) (fun i_1=>[.p (.int .i64 (if i_1<tn then td i_1 else v)),.p (.int .i64 (if i_1<tn then V i_1 else (↑j:Int)))])),(AN 1),(NL (tn+1) (tn+1)),(CV [(1830,⟨false,1,(tn+1),(fun i_2=>(if (i_2<tn) then [.p (.int .i64 (td i_2))] else [.p (.int .i64 v)]))⟩),(1798,⟨false,1,1,(fun i_2=>[.p (.int .i64 v)])⟩),(4,⟨false,0,(tn+1),(fun i_2=>(if (i_2<tn) then [.p (.int .i64 (td i_2)),.p (.int .i64 (V i_2))] else [.p (.int .i64 v),.p (.int .i64 (↑j:Int))]))⟩),(0,⟨true,3,1,(fun i_2=>[.ar 1 1 0 N,.ar 1 2 0 m,.ar 1 3 0 m])⟩),(1,⟨false,1,N,(fun i_2=>[.p (.int .i64 (F i_2))])⟩),(2,⟨false,1,m,(fun i_2=>[.p (.int .i64 (T i_2))])⟩),(3,⟨false,1,m,(fun i_2=>[.p (.int .i64 (Q i_2))])⟩)] [0,1,2,3,4,1830] 1 (tn+1) (fun i_1=>if (i_1<tn) then [.p (.int .i64 (td i_1))] else [.p (.int .i64 v)]) (fun i_1=>[.p (.int .i64 (if i_1<tn then td i_1 else v))]))]):=by kernel_rfl
theorem pMm4 (g:Nat→T_Bar) (nb N m:Nat) (F T Q td V:Nat→Int) (a b v:Int) (i j tn:Nat) :
    pieceOb Tryz.prog 4 [rg 1,.dec true,rg 5,rg 12,.dec false,rm [(8,oc [] (.p (.int .i64 v)))] 1,rg 8,rg 1,.dec false,rg 4,rg 13,.dec false,rg 10,.head] zf15 (SM g nb N m F T Q td V a b i j tn) [0,1,2,3,4] 1 (SC g nb N m (fun s=>if s=v.toNat then F s - 1 else F s) T Q (fun s=>if s<tn then td s else v) (fun s=>if s<tn then V s else j) a b v (tn+1)) =
    some (zf7,[((decide ((↑j:Int)<(↑m:Int)))=true),(IL 0 (↑j:Int)),(IT (↑j:Int) (↑m:Int)),(NT j m),(NT 0 1),(IL 0 (↑j:Int)),(IT (↑j:Int) (↑m:Int)),(NT j m),(IL 0 (↑i:Int)),(IT (↑i:Int) (↑tn:Int)),(NT i tn),((T j != td i)=false),(IL 0 (Q j)),(IT (Q j) (↑nb:Int)),(IL 0 (↑i:Int)),(IT (↑i:Int) (↑tn:Int)),(NT i tn),Con Tryz.prog 223 0 [] [(zf120 g Q j),.p (.int .i64 (td i))] [] (.p (.int .i64 v)),((mhas (fun i=>keyA ((mapOb tn td V).f i)) tn v)=false),((mhas (fun i=>keyA ((mapOb tn td V).f i)) tn v)=false),(AG (!v==b)),(AG (!v==b)),(AG (!v==b)),(((!v==b)=true)→(NT 0 1)),(AG (!v==b)),(AG (!v==b)),(((!v==b)=true)→(IL 0 v)),(((!v==b)=true)→(IT v (↑N:Int))),(AG (!v==b)),(((!v==b)=true)→(NT v.toNat N)),(AG (!v==b)),(((v==b)=false)→ ((!v==b)=true)),((bif v==b then true else F v.toNat==0)=false),(NT 0 1),(IL 0 v),(IT v (↑N:Int)),(NT v.toNat N),(R0 (F v.toNat - 1)),(R1 (F v.toNat - 1)),(IL 0 v),(IT v (↑N:Int)),(NT v.toNat N),((false=true)→ ((N:Nat)=1)),(AN nb),(AP nb (fun i_1=>[.int .i64 ((g i_1).1),.int .i64 ((g i_1).2.1)])),(AN 0),(AI a),(AI b),(AI v),(AN 3),(NL 1 1),(NL 1 1),(AN 0),(AN N),(AN 0),(AN m),(AN 0),(AN m),(AN 1),(NL N N),(CV [(1,⟨false,1,N,(fun i_2=>(if (i_2=v.toNat) then [.p (.int .i64 (F v.toNat - 1))] else [.p (.int .i64 (F i_2))]))⟩),(4,⟨false,0,(tn+1),(fun i_2=>(if (i_2<tn) then [.p (.int .i64 (td i_2)),.p (.int .i64 (V i_2))] else [.p (.int .i64 v),.p (.int .i64 (↑j:Int))]))⟩),(0,⟨true,3,1,(fun i_2=>[.ar 1 1 0 N,.ar 1 2 0 m,.ar 1 3 0 m])⟩),(2,⟨false,1,m,(fun i_2=>[.p (.int .i64 (T i_2))])⟩),(3,⟨false,1,m,(fun i_2=>[.p (.int .i64 (Q i_2))])⟩),(5,⟨false,1,tn,(fun i_2=>[.p (.int .i64 (td i_2))])⟩)] [0,1,2,3,4] 1 N (fun i_1=>if (i_1=v.toNat) then [.p (.int .i64 (F v.toNat - 1))] else [.p (.int .i64 (F i_1))]) (fun i_1=>[.p (.int .i64 (if i_1=v.toNat then F i_1 - 1 else F i_1))])),(AN 1),(NL m m),(AA m (fun i_1=>[.p (.int .i64 (T i_1))])),(AN 1),(NL m m),(AA m (fun i_1=>[.p (.int .i64 (Q i_1))])),(AN ((tn+1))),(false=false),(false=false),(AN 0),(NL (tn+1) (tn+1)),(CV [(1,⟨false,1,N,(fun i_2=>(if (i_2=v.toNat) then [.p (.int .i64 (F v.toNat - 1))] else [.p (.int .i64 (F i_2))]))⟩),(4,⟨false,0,(tn+1),(fun i_2=>(if (i_2<tn) then [.p (.int .i64 (td i_2)),.p (.int .i64 (V i_2))] else [.p (.int .i64 v),.p (.int .i64 (↑j:Int))]))⟩),(0,⟨true,3,1,(fun i_2=>[.ar 1 1 0 N,.ar 1 2 0 m,.ar 1 3 0 m])⟩),(2,⟨false,1,m,(fun i_2=>[.p (.int .i64 (T i_2))])⟩),(3,⟨false,1,m,(fun i_2=>[.p (.int .i64 (Q i_2))])⟩),(5,⟨false,1,tn,(fun i_2=>[.p (.int .i64 (td i_2))])⟩)] [0,1,2,3,4] 1 (tn+1) (fun i_1=>if (i_1<tn) then [.p (.int .i64 (td i_1)),.p (.int .i64 (V i_1))] else [.p (.int .i64 v),.p (.int .i64 (↑j:Int))]) (fun i_1=>[.p (.int .i64 (if i_1<tn then td i_1 else v)),.p (.int .i64 (if i_1<tn then V i_1 else (↑j:Int)))]))]):=by kernel_rfl
theorem pMm5 (g:Nat→T_Bar) (nb N m:Nat) (F T Q td V:Nat→Int) (a b v:Int) (tn:Nat) :
    pieceOb Tryz.prog 4 [rg 10,rg 2,.head] zf7 (SC g nb N m F T Q td V a b v tn) [0,1,2,3,4] 1 (SP g nb N m (fun s=>if s=a.toNat then F s+1 else F s) T Q td V a b v tn) =
    some (zf5,[(NT 0 1),(IL 0 a),(IT a (↑N:Int)),(NT a.toNat N),(R0 (F a.toNat+1)),(R1 (F a.toNat+1)),(IL 0 a),(IT a (↑N:Int)),(NT a.toNat N),((false=true)→ ((N:Nat)=1)),(AN nb),(AP nb (fun i=>[.int .i64 ((g i).1),.int .i64 ((g i).2.1)])),(AN 0),(AI a),(AI b),(AI v),(AN 3),(NL 1 1),(NL 1 1),(AN 0),(AN N),(AN 0),(AN m),(AN 0),(AN m),(AN 1),(NL N N),(CV [(1,⟨false,1,N,(fun i_1=>(if (i_1=a.toNat) then [.p (.int .i64 (F a.toNat+1))] else [.p (.int .i64 (F i_1))]))⟩),(0,⟨true,3,1,(fun i_1=>[.ar 1 1 0 N,.ar 1 2 0 m,.ar 1 3 0 m])⟩),(2,⟨false,1,m,(fun i_1=>[.p (.int .i64 (T i_1))])⟩),(3,⟨false,1,m,(fun i_1=>[.p (.int .i64 (Q i_1))])⟩),(4,⟨false,0,tn,(fun i_1=>[.p (.int .i64 (td i_1)),.p (.int .i64 (V i_1))])⟩)] [0,1,2,3,4] 1 N (fun i=>if (i=a.toNat) then [.p (.int .i64 (F a.toNat+1))] else [.p (.int .i64 (F i))]) (fun i=>[.p (.int .i64 (if i=a.toNat then F i+1 else F i))])),(AN 1),(NL m m),(AA m (fun i=>[.p (.int .i64 (T i))])),(AN 1),(NL m m),(AA m (fun i=>[.p (.int .i64 (Q i))])),(AN tn),(false=false),(false=false),(AN 0),(NL tn tn),(AA tn (fun i=>[.p (.int .i64 (td i)),.p (.int .i64 (V i))]))]):=by kernel_rfl
theorem pMp1 (g:Nat→T_Bar) (nb N m:Nat) (F T Q td V:Nat→Int) (a b at' kk:Int) (tn:Nat) :
    pieceOb Tryz.prog 4 [rg 3,.dec true,rg 4,rg 8,rg 8,rg 2,.head] zf5 (SP g nb N m F T Q td V a b at' tn) [0,1,2,3,4] 1 (SP g nb N m F (fun s=>if s=(mget td V tn at' 0).toNat then at' else T s) Q td V a b (T (mget td V tn at' 0).toNat) tn) =
    some (zf5,[((at' != a)=true),(NT 0 1),(IL 0 (mget (fun i=>keyA ((mapOb tn td V).f i)) (fun i=>valA ((mapOb tn td V).f i)) tn at' 0)),(IT (mget (fun i=>keyA ((mapOb tn td V).f i)) (fun i=>valA ((mapOb tn td V).f i)) tn at' 0) (↑m:Int)),(NT ((mget (fun i=>keyA ((mapOb tn td V).f i)) (fun i=>valA ((mapOb tn td V).f i)) tn at' 0).toNat) m),(NT 0 1),(IL 0 (mget (fun i=>keyA ((mapOb tn td V).f i)) (fun i=>valA ((mapOb tn td V).f i)) tn at' 0)),(IT (mget (fun i=>keyA ((mapOb tn td V).f i)) (fun i=>valA ((mapOb tn td V).f i)) tn at' 0) (↑m:Int)),(NT ((mget (fun i=>keyA ((mapOb tn td V).f i)) (fun i=>valA ((mapOb tn td V).f i)) tn at' 0).toNat) m),((false=true)→ ((m:Nat)=1)),(AN nb),(AP nb (fun i=>[.int .i64 ((g i).1),.int .i64 ((g i).2.1)])),(AN 0),(AI a),(AI b),(((T (mget (fun i=>keyA ((mapOb tn td V).f i)) (fun i=>valA ((mapOb tn td V).f i)) tn at' 0).toNat):Int)=(T (mget td V tn at' 0).toNat)),(AN 3),(NL 1 1),(NL 1 1),(AN 0),(AN N),(AN 0),(AN m),(AN 0),(AN m),(AN 1),(NL N N),(AA N (fun i=>[.p (.int .i64 (F i))])),(AN 1),(NL m m),(CV [(2,⟨false,1,m,(fun i_1=>(if (i_1=(mget (fun i=>keyA ((mapOb tn td V).f i)) (fun i=>valA ((mapOb tn td V).f i)) tn at' 0).toNat) then [.p (.int .i64 at')] else [.p (.int .i64 (T i_1))]))⟩),(0,⟨true,3,1,(fun i_1=>[.ar 1 1 0 N,.ar 1 2 0 m,.ar 1 3 0 m])⟩),(1,⟨false,1,N,(fun i_1=>[.p (.int .i64 (F i_1))])⟩),(3,⟨false,1,m,(fun i_1=>[.p (.int .i64 (Q i_1))])⟩),(4,⟨false,0,tn,(fun i_1=>[.p (.int .i64 (td i_1)),.p (.int .i64 (V i_1))])⟩)] [0,1,2,3,4] 1 m (fun i=>if (i=(mget (fun i=>keyA ((mapOb tn td V).f i)) (fun i=>valA ((mapOb tn td V).f i)) tn at' 0).toNat) then [.p (.int .i64 at')] else [.p (.int .i64 (T i))]) (fun i=>[.p (.int .i64 (if i=(mget td V tn at' 0).toNat then at' else T i))])),(AN 1),(NL m m),(AA m (fun i=>[.p (.int .i64 (Q i))])),(AN tn),(false=false),(false=false),(AN 0),(NL tn tn),(AA tn (fun i=>[.p (.int .i64 (td i)),.p (.int .i64 (V i))]))]):=by kernel_rfl
theorem pMp2 (g:Nat→T_Bar) (nb N m:Nat) (F T Q td V:Nat→Int) (a b at':Int) (tn:Nat) :
    pathOb Tryz.prog Tryz.f408 4 [rg 3,.dec false,rg 1] zf5 (SP g nb N m F T Q td V a b at' tn) [0,1,2,3] 1 (pebH N m F T Q) (.p (.bool true)) =
    some [((at' != a)=false),(true=true),(AN 3),(NL 1 1),(NL 1 1),(AN 0),(AN N),(AN 0),(AN m),(AN 0),(AN m),(AN 1),(NL N N),(AA N (fun i=>[.p (.int .i64 (F i))])),(AN 1),(NL m m),(AA m (fun i=>[.p (.int .i64 (T i))])),(AN 1),(NL m m),(AA m (fun i=>[.p (.int .i64 (Q i))])),(AE 1),(AE N),(AE m),(AE m)]:=by kernel_rfl
end Go.Proofs.YtkkjoghiigiokaaGreat.Mach
namespace Go.Proofs.YtkkjoghiigiokaaGreat.Mach
open Go
set_option linter.unusedVariables false
set_option linter.unusedSimpArgs false
def tcI (T:Nat→Int):Nat→Int→Int
  | 0,_=>0
  | m+1,v=>tcI T m v+if T m=v then 1 else 0
structure PInv (N k nb m:Nat) (g:Nat→T_Bar) (F T Q:Nat→Int):Prop where
  bars:∀ e,e<nb→0≤(g e).1∧(g e).1<(g e).2.1∧(g e).2.1<N
  q:∀ j,j<m→0≤Q j∧Q j<nb
  t:∀ j,j<m→T j=(g (Q j).toNat).1∨T j=(g (Q j).toNat).2.1
  f0:∀ v,v<N→0≤F v
  sum:∀ v:Nat,v<N→F v+tcI T m v=k
theorem tcI_upd (T:Nat→Int) (j:Nat) (u x:Int):∀ m,j<m→tcI (fun s=>if s=j then u else T s) m x=tcI T m x+(if u=x then 1 else 0) - (if T j=x then 1 else 0):=by
  have out:∀ m,m≤j→tcI (fun s=>if s=j then u else T s) m x=tcI T m x:=by
    intro m
    induction m with
    | zero=>intro _;rfl
    | succ m ih =>
      intro h
      simp only [tcI,show ¬ m=j by omega,if_false]
      rw [ih (by omega)]
  intro m
  induction m with
  | zero=>omega
  | succ m ih =>
    intro h
    by_cases e:j=m
    · subst e
      simp only [tcI,if_true]
      rw [out j (Nat.le_refl _)]
      omega
    · simp only [tcI,show ¬ m=j by omega,if_false]
      rw [ih (by omega)]
      omega
theorem tcI_nonneg (T:Nat→Int) (x:Int):∀ m,0≤tcI T m x
  | 0=>Int.le_refl 0
  | m+1=>by have:=tcI_nonneg T x m;simp only [tcI];split<;>omega
theorem mgo_some (K V:Nat→Int) (v:Int):∀ n s,(mgo K V v n s).isSome=true↔∃ i,s≤i∧i<s+n∧K i=v
  | 0,s=>by simp [mgo];intro i h1 h2;omega
  | n+1,s=>by
    simp only [mgo]
    by_cases h:K s=v
    · simp only [h,if_true,Option.isSome_some,true_iff]
      exact ⟨s,Nat.le_refl _,by omega,h⟩
    · rw [if_neg h,mgo_some K V v n (s+1)]
      constructor
      · rintro ⟨i,h1,h2,h3⟩;exact ⟨i,by omega,by omega,h3⟩
      · rintro ⟨i,h1,h2,h3⟩
        have:i≠s:=fun e=>h (by rw [← e];exact h3)
        exact ⟨i,by omega,by omega,h3⟩
theorem mhas_iff (K:Nat→Int) (n:Nat) (v:Int):mhas K n v=true↔∃ i,i<n∧K i=v:=by
  unfold mhas
  rw [mgo_some]
  simp
theorem mget_at (K V:Nat→Int) (v d:Int) (p:Nat) (hv:K p=v):∀ n s,s≤p→p<s+n→(∀ i,s≤i→i<p→K i≠v)→mgo K V v n s=some (p,V p)
  | 0,s,h1,h2,_=>by omega
  | n+1,s,h1,h2,h3=>by
    simp only [mgo]
    by_cases e:s=p
    · subst e;rw [if_pos hv]
    · rw [if_neg (h3 s (Nat.le_refl _) (by omega)),mget_at K V v d p hv n (s+1) (by omega) (by omega) (fun i h4 h5=>h3 i (by omega) h5)]
theorem pigeon:∀ (N n:Nat) (td:Nat→Int),(∀ s,s<n→0≤td s∧td s<N)→(∀ s s',s<s'→s'<n→td s≠td s')→n≤N
  | 0,n,td,h,_=>by
    cases n with
    | zero=>exact Nat.le_refl _
    | succ n=>have:=h 0 (by omega);omega
  | N+1,n,td,h,hi=>by
    by_cases hs:∃ s,s<n∧td s=N
    · obtain ⟨s,h1,h2⟩:=hs
      have:=pigeon N (n - 1) (fun x=>if x<s then td x else td (x+1)) (fun x hx=>by
        have hne:∀ y,y<n→y≠s→td y≠N:=by
          intro y hy hys e
          rcases Nat.lt_or_gt_of_ne hys with h' | h'
          · exact hi y s h' h1 (by rw [e,h2])
          · exact hi s y h' hy (by rw [e,h2])
        show 0≤(if x<s then td x else td (x+1))∧(if x<s then td x else td (x+1))<N
        split
        · have:=h x (by omega);have:=hne x (by omega) (by omega);omega
        · have:=h (x+1) (by omega);have:=hne (x+1) (by omega) (by omega);omega) (fun x y hxy hy=>by
        show (if x<s then td x else td (x+1))≠(if y<s then td y else td (y+1))
        split<;>split
        · exact hi x y hxy (by omega)
        · exact hi x (y+1) (by omega) (by omega)
        · omega
        · exact hi (x+1) (y+1) (by omega) (by omega))
      omega
    · have:=pigeon N n td (fun s hs'=>by
        have:=h s hs'
        have:td s≠N:=fun e=>hs ⟨s,hs',e⟩
        omega) hi
      omega
structure BInv (N m:Nat) (g:Nat→T_Bar) (F T Q td V:Nat→Int) (a b:Int) (tn:Nat):Prop where
  n1:1≤tn
  td0:td 0=a
  rng:∀ s,s<tn→0≤td s∧td s<N
  inj:∀ s s',s<s'→s'<tn→td s≠td s'
  par:∀ s,1≤s→s<tn→∃ j:Nat,j<m∧V s=j∧∃ s',s'<s∧T j=td s'∧othF (g (Q j).toNat) (td s')=td s
def BZero (F td:Nat→Int) (b:Int) (tn:Nat):Prop:=∀ s,1≤s→s<tn→td s=b∨F (td s).toNat=0
def BClo (m:Nat) (g:Nat→T_Bar) (T Q td:Nat→Int) (i j tn:Nat):Prop :=
  ∀ i' j',(i'<i∧j'<m)∨(i'=i∧j'<j)→i'<tn→T j'=td i'→∃ s,s<tn∧td s=othF (g (Q j').toNat) (td i')
theorem BInv.add {N m:Nat} {g:Nat→T_Bar} {F T Q td V:Nat→Int} {a b:Int} {tn:Nat} (h:BInv N m g F T Q td V a b tn) {i j:Nat} (hi:i<tn) (hj:j<m) (ht:T j=td i) {v:Int}
    (hv:othF (g (Q j).toNat) (td i)=v) (hr:0≤v∧v<N) (hno:∀ s,s<tn→td s≠v) :
    BInv N m g F T Q (fun s=>if s<tn then td s else v) (fun s=>if s<tn then V s else j) a b (tn+1):=by
  have hn1:=h.n1
  refine ⟨by omega,?_,fun s hs=>?_,fun s s' h1 h2=>?_,fun s h1 h2=>?_⟩
  · show (if 0<tn then td 0 else v)=a
    rw [if_pos (by omega)];exact h.td0
  · show 0≤(if s<tn then td s else v)∧(if s<tn then td s else v)<N
    split
    · exact h.rng s (by assumption)
    · exact hr
  · show (if s<tn then td s else v)≠(if s'<tn then td s' else v)
    rw [if_pos (show s<tn by omega)]
    split
    · exact h.inj s s' h1 (by assumption)
    · exact hno s (by omega)
  · by_cases hs:s<tn
    · obtain ⟨j',g1,g2,s',g3,g4,g5⟩:=h.par s h1 hs
      refine ⟨j',g1,by simp only [hs,if_true];exact g2,s',g3,?_,?_⟩
      · show T j'=(if s'<tn then td s' else v)
        rw [if_pos (by omega)];exact g4
      · show othF (g (Q j').toNat) (if s'<tn then td s' else v)=(if s<tn then td s else v)
        rw [if_pos (by omega),if_pos hs];exact g5
    · refine ⟨j,hj,by simp only [hs,if_false],i,by omega,?_,?_⟩
      · show T j=(if i<tn then td i else v)
        rw [if_pos hi];exact ht
      · show othF (g (Q j).toNat) (if i<tn then td i else v)=(if s<tn then td s else v)
        rw [if_pos hi,if_neg hs];exact hv
theorem othF_in {x:T_Bar} {v:Int} {N:Nat} (h:0≤x.1∧x.1<x.2.1∧x.2.1<N):0≤othF x v∧othF x v<N:=by
  unfold othF;split<;>omega
theorem othF_end {x:T_Bar} (v:Int):othF x v=x.1∨othF x v=x.2.1:=by
  unfold othF;split
  · exact .inr rfl
  · exact .inl rfl
structure TInv (m:Nat) (g:Nat→T_Bar) (T Q td V T':Nat→Int) (v:Int) (s:Nat):Prop where
  keep:∀ p,1≤p→p≤s→T' (V p).toNat=T (V p).toNat
  t:∀ j,j<m→T' j=(g (Q j).toNat).1∨T' j=(g (Q j).toNat).2.1
  cnt:∀ x,tcI T' m x=tcI T m x+(if v=x then 1 else 0) - (if td s=x then 1 else 0)
theorem TInv.step {N m:Nat} {g:Nat→T_Bar} {F T Q td V:Nat→Int} {a b:Int} {tn:Nat} (h:BInv N m g F T Q td V a b tn) {T':Nat→Int} {v:Int} {s:Nat} (hs:s<tn) (hs1:1≤s)
    (ht:TInv m g T Q td V T' v s):∃ j:Nat,j<m∧V s=j∧∃ s',s'<s∧T' j=td s'∧TInv m g T Q td V (fun x=>if x=j then td s else T' x) v s'∧T j=td s'∧othF (g (Q j).toNat) (td s')=td s:=by
  obtain ⟨j,g1,g2,s',g3,g4,g5⟩:=h.par s hs1 hs
  have hk:T' j=td s':=by
    have:=ht.keep s hs1 (Nat.le_refl _)
    rw [g2] at this
    simp only [Int.toNat_natCast] at this
    rw [this,g4]
  refine ⟨j,g1,g2,s',g3,hk,⟨fun p h1 h2=>?_,fun j' hj'=>?_,fun x=>?_⟩,g4,g5⟩
  · obtain ⟨jp,e1,e2,sp,e3,e4,e5⟩:=h.par p h1 (by omega)
    have hne:jp≠j:=by
      intro e
      subst e
      rw [g4] at e4
      rw [← e4,g5] at e5
      exact h.inj p s (by omega) hs e5.symm
    have:=ht.keep p h1 (by omega)
    rw [e2] at this ⊢
    simp only [Int.toNat_natCast] at this ⊢
    rw [if_neg hne];exact this
  · show (if j'=j then td s else T' j')=_∨(if j'=j then td s else T' j')=_
    by_cases e:j'=j
    · subst e
      rw [if_pos rfl,← g5]
      exact othF_end _
    · rw [if_neg e];exact ht.t j' hj'
  · rw [tcI_upd T' j (td s) x m g1,ht.cnt x,hk]
    omega
structure Moved (N k nb m:Nat) (g:Nat→T_Bar) (F T Q:Nat→Int) (a b:Int) (F' T':Nat→Int) (r:Bool):Prop where
  inv:PInv N k nb m g F' T' Q
  yes:r=true→F' a.toNat=F a.toNat+1∧F' b.toNat=F b.toNat
  no:r=false→F'=F∧T'=T∧∃ R:Nat→Bool,R a.toNat=true∧(∀ j,j<m→R (T j).toNat=true→R (othF (g (Q j).toNat) (T j)).toNat=true)∧∀ v:Nat,R v=true→(v:Int)≠a→(v:Int)≠b→F v=0
open Classical in
theorem moved_no {N k nb m:Nat} {g:Nat→T_Bar} {F T Q td V:Nat→Int} {a b:Int} {tn:Nat} (hp:PInv N k nb m g F T Q) (h:BInv N m g F T Q td V a b tn) (hz:BZero F td b tn) (hc:BClo m g T Q td tn 0 tn) :
    Moved N k nb m g F T Q a b F T false:=by
  refine ⟨hp,(fun e=>by cases e),fun _=>⟨rfl,rfl,fun v=>decide (∃ s,s<tn∧td s=v),?_,fun j hj hR=>?_,fun v hR h1 h2=>?_⟩⟩
  · have hn:=h.n1
    have:=h.rng 0 (by omega)
    rw [h.td0] at this
    exact decide_eq_true ⟨0,by omega,by rw [h.td0];omega⟩
  · obtain ⟨s,h1,h2⟩:=of_decide_eq_true hR
    have hT:0≤T j:=by
      have hb:=hp.bars (Q j).toNat (by have:=hp.q j hj;omega)
      rcases hp.t j hj with e | e<;>rw [e]<;>omega
    have hTs:T j=td s:=by omega
    obtain ⟨s',h3,h4⟩:=hc s j (.inl ⟨h1,hj⟩) h1 hTs
    refine decide_eq_true ⟨s',h3,?_⟩
    have:=h.rng s' h3
    rw [hTs,← h4];omega
  · obtain ⟨s,h3,h4⟩:=of_decide_eq_true hR
    have hs1:1≤s:=by
      cases s with
      | zero=>exact absurd (by rw [← h4,h.td0]) h1
      | succ s=>omega
    rcases hz s hs1 h3 with e | e
    · exact absurd (by rw [← h4,e]) h2
    · rw [h4] at e;simpa using e
theorem moved_yes {N k nb m:Nat} {g:Nat→T_Bar} {F T Q td V T':Nat→Int} {a b v:Int} {s:Nat} (hp:PInv N k nb m g F T Q) (ha:0≤a∧a<N) (hb:0≤b∧b<N) (hab:a≠b) (hv:0≤v∧v<N) (hva:v≠a) (hvb:v≠b) (hF:F v.toNat≠0)
    (ht:TInv m g T Q td V T' v s) (hs:td s=a) :
    Moved N k nb m g F T Q a b (fun x=>if x=a.toNat then (if x=v.toNat then F x - 1 else F x)+1 else (if x=v.toNat then F x - 1 else F x)) T' true:=by
  refine ⟨⟨hp.bars,hp.q,ht.t,fun x hx=>?_,fun x hx=>?_⟩,fun _=>⟨?_,?_⟩,(fun e=>by cases e)⟩
  · have h1:=hp.f0 x hx
    show 0≤(if x=a.toNat then (if x=v.toNat then F x - 1 else F x)+1 else (if x=v.toNat then F x - 1 else F x))
    by_cases e:x=v.toNat
    · rw [← e] at hF
      rw [if_neg (show ¬ x=a.toNat by omega),if_pos e];omega
    · by_cases e':x=a.toNat
      · rw [if_pos e',if_neg e];omega
      · rw [if_neg e',if_neg e];omega
  · have h1:=hp.sum x hx
    have h2:=ht.cnt x
    rw [hs] at h2
    show (if x=a.toNat then (if x=v.toNat then F x - 1 else F x)+1 else (if x=v.toNat then F x - 1 else F x))+tcI T' m x=k
    by_cases e1:x=a.toNat
    · have e2:¬ x=v.toNat:=by omega
      have e3:¬ v=(x:Int):=by omega
      have e4:a=(x:Int):=by omega
      rw [if_pos e1,if_neg e2]
      rw [if_neg e3,if_pos e4] at h2
      omega
    · have e4:¬ a=(x:Int):=by omega
      rw [if_neg e1]
      rw [if_neg e4] at h2
      by_cases e2:x=v.toNat
      · have e3:v=(x:Int):=by omega
        rw [if_pos e2]
        rw [if_pos e3] at h2
        omega
      · have e3:¬ v=(x:Int):=by omega
        rw [if_neg e2]
        rw [if_neg e3] at h2
        omega
  · show (if a.toNat=a.toNat then (if a.toNat=v.toNat then F a.toNat - 1 else F a.toNat)+1 else _)=_
    rw [if_pos rfl,if_neg (by omega)]
  · show (if b.toNat=a.toNat then _ else (if b.toNat=v.toNat then F b.toNat - 1 else F b.toNat))=_
    rw [if_neg (by omega),if_neg (by omega)]
end Go.Proofs.YtkkjoghiigiokaaGreat.Mach
namespace Go.Proofs.YtkkjoghiigiokaaGreat.Mach
open Go
set_option linter.unusedVariables false
set_option linter.unusedSimpArgs false
theorem con_other (x:T_Bar) (v:Int):Con Tryz.prog 223 0 [] [brA x,.p (.int .i64 v)] [] (.p (.int .i64 (othF x v))):=by
  refine con_start Tryz.func223 rfl (by kernel_rfl) rfl (fun c hc=>?_)
  by_cases h:x.1=v
  · have hb:(x.1==v)=true:=by simp [h]
    rw [show othF x v=x.2.1 by simp [othF,h]]
    refine path_ok mixed Tryz.func223 hc (pOtherT x v) ?_
    repeat' (first | exact aN | apply aI)
    all_goals (first | omega | rfl | (intros;first | assumption | exact trivial | rfl | exact fT ‹_› | ((repeat' (first | assumption | apply anda | apply notf));done)) | simp)
  · have hb:(x.1==v)=false:=by simp [h]
    rw [show othF x v=x.1 by simp [othF,h]]
    refine path_ok mixed Tryz.func223 hc (pOtherF x v) ?_
    repeat' (first | exact aN | apply aI)
    all_goals (first | omega | rfl | (intros;first | assumption | exact trivial | rfl | exact fT ‹_› | ((repeat' (first | assumption | apply anda | apply notf));done)) | simp)
theorem run_path {N nb m:Nat} {g:Nat→T_Bar} {F F1 T Q td V:Nat→Int} {a b v:Int} {tn:Nat} (h:BInv N m g F T Q td V a b tn) (hN:N≤1048576) (hm:m≤1048576) :
    ∀ s,s<tn→∀ T':Nat→Int,TInv m g T Q td V T' v s→∃ T'' s',(∀ c,c.n=4→Run Tryz.prog c 408 zf5 (SP g nb N m F1 T' Q td V a b (td s) tn) (Post c (pebH N m F1 T'' Q) (.p (.bool true)))) ∧
      TInv m g T Q td V T'' v s'∧td s'=a:=by
  intro s
  induction s using Nat.strongRecOn with
  | ind s ih =>
    intro hs T' ht
    by_cases he:td s=a
    · refine ⟨T',s,fun c hc=>?_,ht,he⟩
      have hb:(td s != a)=false:=by simp [he]
      refine path_ok mixed Tryz.func408 hc (pMp2 g nb N m F1 T' Q td V a b (td s) tn) ?_
      repeat' (first | exact aN | apply aI)
      all_goals (first | exact aA _ _ | exact aE _ | omega | rfl | (intros;first | assumption | exact trivial | rfl | exact fT ‹_› | ((repeat' (first | assumption | apply anda | apply notf));done)) | (exact hb) | (intro i hi;simp [All]))
    · have hs1:1≤s:=by
        cases s with
        | zero=>exact absurd h.td0 he
        | succ s=>omega
      obtain ⟨j,hj,hVs,s',hs',hk,ht',_,_⟩:=ht.step h hs hs1
      obtain ⟨T'',s'',hrun,h1,h2⟩:=ih s' hs' (by omega) _ ht'
      refine ⟨T'',s'',fun c hc=>?_,h1,h2⟩
      have hb:(td s != a)=true:=by simp [he]
      have hmg:mget td V tn (td s) 0=(j:Int):=by
        unfold mget
        rw [mget_at td V (td s) 0 s rfl tn 0 (by omega) (by omega) (fun i _ hi=>h.inj i s hi hs)]
        exact hVs
      have hmM:mget (fun i=>keyA ((mapOb tn td V).f i)) (fun i=>valA ((mapOb tn td V).f i)) tn (td s) 0=(j:Int):=hmg
      refine piece_ok mixed hc (pMp1 g nb N m F1 T' Q td V a b (td s) 0 tn) ?_ (by rw [hmg];simp only [Int.toNat_natCast];rw [hk];exact hrun c hc)
      repeat' (first | exact aN | apply aI)
      all_goals (first | exact aP _ _ | exact aA _ _ | omega | rfl | (intros;first | assumption | exact trivial | rfl | exact fT ‹_› | ((repeat' (first | assumption | apply anda | apply notf));done)) | (exact hb) | (rw [hmM];omega) | (rw [hmM,hmg];done) | (intro i hi;simp [All];done) | (simp only [hmM,hmg,Int.toNat_natCast];intro i hi;by_cases h:i=j<;>simp [h,cvtL,cvt,tg,tru,All]))
def OutG (N k nb m:Nat) (g:Nat→T_Bar) (F T Q:Nat→Int) (a b:Int) (i tn:Nat) (td V:Nat→Int):Prop :=
  ∃ F' T' r,(∀ c,c.n=4→Run Tryz.prog c 408 [.code (cAt (bodyOf Tryz.f408) [1,1,1,0,1,0,0]),.inLoop (cAt (bodyOf Tryz.f408) [1,1,1,0,1,0,0]),.inBlock 0,.code (cAt (bodyOf Tryz.f408) [1,1,1,1])] (SO g nb N m F T Q td V a b i tn) (Post c (pebH N m F' T' Q) (.p (.bool r))))∧Moved N k nb m g F T Q a b F' T' r
def MidG (N k nb m:Nat) (g:Nat→T_Bar) (F T Q:Nat→Int) (a b:Int) (i j tn:Nat) (td V:Nat→Int):Prop :=
  ∃ F' T' r,(∀ c,c.n=4→Run Tryz.prog c 408 [.code (cAt (bodyOf Tryz.f408) [1,1,1,0,1,0,0,1,0,0,1,0,0]),.inLoop (cAt (bodyOf Tryz.f408) [1,1,1,0,1,0,0,1,0,0,1,0,0]),.inBlock 2,.inBlock 1,.code (cAt (bodyOf Tryz.f408) [1,1,1,0,1,0,0,1,1]),.inLoop (cAt (bodyOf Tryz.f408) [1,1,1,0,1,0,0]),.inBlock 0,.code (cAt (bodyOf Tryz.f408) [1,1,1,1])] (SM g nb N m F T Q td V a b i j tn) (Post c (pebH N m F' T' Q) (.p (.bool r))))∧Moved N k nb m g F T Q a b F' T' r
theorem PInv.le {N k nb m:Nat} {g:Nat→T_Bar} {F T Q:Nat→Int} (hp:PInv N k nb m g F T Q) {v:Nat} (hv:v<N):0≤F v∧F v≤k:=by
  have h1:=hp.f0 v hv
  have h2:=hp.sum v hv
  have h3:=tcI_nonneg T v m
  omega
theorem run_mid {N k nb m:Nat} {g:Nat→T_Bar} {F T Q:Nat→Int} {a b:Int} (hp:PInv N k nb m g F T Q) (hk:k≤1048576) (hN:N≤1048576) (hm:m≤1048576) (hnb:nb≤1048576)
    (ha:0≤a∧a<N) (hb:0≤b∧b<N) (hab:a≠b) (i:Nat)
    (ih:∀ tn td V,i+1≤tn→BInv N m g F T Q td V a b tn→BZero F td b tn→BClo m g T Q td (i+1) 0 tn→OutG N k nb m g F T Q a b (i+1) tn td V) :
    ∀ e j tn td V,j+e=m→i<tn→BInv N m g F T Q td V a b tn→BZero F td b tn→BClo m g T Q td i j tn→MidG N k nb m g F T Q a b i j tn td V:=by
  intro e
  induction e with
  | zero =>
    intro j tn td V hj hi hbi hz hcl
    have htn:=pigeon N tn td hbi.rng hbi.inj
    obtain ⟨F',T',r,hrun,hmv⟩:=ih tn td V (by omega) hbi hz (fun i' j' hij hi' hT=>by
      rcases hij with ⟨h1,h2⟩ | ⟨h1,h2⟩
      · by_cases e:i'=i
        · exact hcl i' j' (.inr ⟨e,by omega⟩) hi' hT
        · exact hcl i' j' (.inl ⟨by omega,h2⟩) hi' hT
      · omega)
    refine ⟨F',T',r,fun c hc=>?_,hmv⟩
    have hd:decide ((j:Int)<(m:Int))=false:=by simp;omega
    refine piece_ok mixed hc (pMm0 g nb N m F T Q td V a b i j tn) ?_ (hrun c hc)
    repeat' (first | exact aN | apply aI)
    all_goals (first | exact aP _ _ | exact aA _ _ | omega | rfl | (intros;first | assumption | exact trivial | rfl | exact fT ‹_› | ((repeat' (first | assumption | apply anda | apply notf));done)) | (intro i hi;simp [All]))
  | succ e ihe =>
    intro j tn td V hj hi hbi hz hcl
    have htn:=pigeon N tn td hbi.rng hbi.inj
    have hjm:j<m:=by omega
    have hd:decide ((j:Int)<(m:Int))=true:=by simp;omega
    have hq:=hp.q j hjm
    have hbar:=hp.bars (Q j).toNat (by omega)
    have hrg:=hbi.rng i hi
    by_cases hT:T j=td i
    · have ht1:(T j != td i)=false:=by simp [hT]
      obtain ⟨v,hv⟩:∃ v,othF (g (Q j).toNat) (td i)=v:=⟨_,rfl⟩
      have hvr:0≤v∧v<N:=by rw [← hv];exact othF_in hbar
      have hcon:=con_other (g (Q j).toNat) (td i)
      rw [hv] at hcon
      cases hh:mhas td tn v with
      | true =>
        have hhM:mhas (fun i=>keyA ((mapOb tn td V).f i)) tn v=true:=hh
        obtain ⟨s,hs1,hs2⟩:=(mhas_iff td tn v).1 hh
        obtain ⟨F',T',r,hrun,hmv⟩:=ihe (j+1) tn td V (by omega) hi hbi hz (fun i' j' hij hi' hTT=>by
          by_cases e:i'=i∧j'=j
          · obtain ⟨rfl,rfl⟩:=e
            exact ⟨s,hs1,by rw [hs2,hv]⟩
          · exact hcl i' j' (by omega) hi' hTT)
        refine ⟨F',T',r,fun c hc=>?_,hmv⟩
        refine piece_ok mixed hc (pMm2 g nb N m F T Q td V a b v i j tn) ?_ (hrun c hc)
        repeat' (first | exact aN | apply aI)
        all_goals (first | exact aP _ _ | exact aA _ _ | omega | rfl | (intros;first | assumption | exact trivial | rfl | exact fT ‹_› | ((repeat' (first | assumption | apply anda | apply notf));done)) | (exact ht1) | (exact hcon) | (exact hhM) | (intro i hi;simp [All]))
      | false =>
        have hhM:mhas (fun i=>keyA ((mapOb tn td V).f i)) tn v=false:=hh
        have hno:∀ s,s<tn→td s≠v:=by
          intro s hs e
          have:=(mhas_iff td tn v).2 ⟨s,hs,e⟩
          rw [hh] at this;cases this
        have hadd:=hbi.add hi hjm hT hv hvr hno
        have hF:=hp.le (v:=v.toNat) (by omega)
        cases hcd:(bif v==b then true else F v.toNat==0) with
        | true =>
          have hzv:v=b∨F v.toNat=0:=by
            by_cases e:v=b
            · exact .inl e
            · right
              have:(v==b)=false:=by simp [e]
              rw [this] at hcd
              simpa using hcd
          obtain ⟨F',T',r,hrun,hmv⟩:=ihe (j+1) (tn+1) _ _ (by omega) (by omega) hadd (fun s h1 h2=>by
            show (if s<tn then td s else v)=b∨F (if s<tn then td s else v).toNat=0
            by_cases e:s<tn
            · rw [if_pos e];exact hz s h1 e
            · rw [if_neg e];exact hzv) (fun i' j' hij hi' hTT=>by
            have hi2:i'<tn:=by omega
            have hTT':T j'=td i':=by rw [hTT];show (if i'<tn then td i' else v)=_;rw [if_pos hi2]
            show ∃ s,s<tn+1∧(if s<tn then td s else v)=othF (g (Q j').toNat) (if i'<tn then td i' else v)
            rw [if_pos hi2]
            by_cases e:i'=i∧j'=j
            · obtain ⟨rfl,rfl⟩:=e
              exact ⟨tn,by omega,by rw [if_neg (Nat.lt_irrefl tn),hv]⟩
            · obtain ⟨s,h1,h2⟩:=hcl i' j' (by omega) hi2 hTT'
              exact ⟨s,by omega,by rw [if_pos h1];exact h2⟩)
          refine ⟨F',T',r,fun c hc=>?_,hmv⟩
          refine piece_ok mixed hc (pMm3 g nb N m F T Q td V a b v i j tn) ?_ (hrun c hc)
          repeat' (first | exact aN | apply aI)
          all_goals (first | exact aG _ | exact aP _ _ | exact aA _ _ | omega | rfl | (intros;first | assumption | exact trivial | rfl | exact fT ‹_› | ((repeat' (first | assumption | apply anda | apply notf));done)) | (exact ht1) | (exact hcon) | (exact hhM) | (exact hcd) | (intro i hi;simp [All];done) | (intro i hi;by_cases h:i<tn<;>simp [h,cvtL,cvt,tg,tru,All]))
        | false =>
          have hvb:v≠b:=by
            intro e
            rw [show (v==b)=true by simp [e]] at hcd
            cases hcd
          have hFv:F v.toNat≠0:=by
            intro e
            rw [show (v==b)=false by simp [hvb]] at hcd
            simp [e] at hcd
          have hva:v≠a:=by
            have:=hno 0 (by have:=hbi.n1;omega)
            rw [hbi.td0] at this
            exact Ne.symm this
          have ht0:TInv m g T Q (fun s=>if s<tn then td s else v) (fun s=>if s<tn then V s else j) T v tn:=by
            refine ⟨fun _ _ _=>rfl,hp.t,fun x=>?_⟩
            show _=tcI T m x+_ - (if (if tn<tn then td tn else v)=x then 1 else 0)
            simp only [Nat.lt_irrefl,if_false]
            omega
          obtain ⟨T'',s',hrun,h1,h2⟩:=run_path (nb:=nb) (F1:=fun x=>if x=a.toNat then (if x=v.toNat then F x - 1 else F x)+1 else (if x=v.toNat then F x - 1 else F x)) hadd hN hm tn (by omega) T ht0
          refine ⟨_,T'',true,fun c hc=>?_,moved_yes hp ha hb hab hvr hva hvb hFv h1 h2⟩
          have hFa:=hp.le (v:=a.toNat) (by omega)
          have hrun':=hrun c hc
          simp only [Nat.lt_irrefl,if_false] at hrun'
          refine piece_ok mixed hc (pMm4 g nb N m F T Q td V a b v i j tn) ?_ ?_
          ·
            repeat' (first | exact aN | apply aI)
            all_goals (first | exact aG _ | exact aP _ _ | exact aA _ _ | omega | rfl | (intros;first | assumption | exact trivial | rfl | exact fT ‹_› | ((repeat' (first | assumption | apply anda | apply notf));done)) | (exact ht1) | (exact hcon) | (exact hhM) | (exact hcd) | (intros;omega) | (intro i hi;simp [All];done) | (intro i hi;by_cases h:i<tn<;>simp [h,cvtL,cvt,tg,tru,All];done) | (intro i hi;by_cases h:i=v.toNat<;>simp [h,cvtL,cvt,tg,tru,All]))
          · have hF1:(fun s=>if s=v.toNat then F s - 1 else F s) a.toNat=F a.toNat:=by
              show (if a.toNat=v.toNat then F a.toNat - 1 else F a.toNat)=_
              rw [if_neg (by omega)]
            obtain ⟨F1,hF1d⟩:∃ F1:Nat→Int,F1=(fun s=>if s=v.toNat then F s - 1 else F s):=⟨_,rfl⟩
            have hFF:(fun x=>if x=a.toNat then (if x=v.toNat then F x - 1 else F x)+1 else (if x=v.toNat then F x - 1 else F x))=(fun s=>if s=a.toNat then F1 s+1 else F1 s):=by
              subst hF1d;rfl
            rw [hFF] at hrun' ⊢
            rw [← hF1d] at hF1 ⊢
            refine piece_ok mixed hc (pMm5 g nb N m F1 T Q _ _ a b v (tn+1)) ?_ hrun'
            repeat' (first | exact aN | apply aI)
            all_goals (first | exact aP _ _ | exact aA _ _ | omega | rfl | (intros;first | assumption | exact trivial | rfl | exact fT ‹_› | ((repeat' (first | assumption | apply anda | apply notf));done)) | (rw [hF1];omega) | (intro i hi;simp [All];done) | (intro i hi;by_cases h:i=a.toNat<;>simp [h,cvtL,cvt,tg,tru,All]))
    · have ht1:(T j != td i)=true:=by simp [hT]
      obtain ⟨F',T',r,hrun,hmv⟩:=ihe (j+1) tn td V (by omega) hi hbi hz (fun i' j' hij hi' hTT=>by
        by_cases e:i'=i∧j'=j
        · obtain ⟨rfl,rfl⟩:=e
          exact absurd hTT hT
        · exact hcl i' j' (by omega) hi' hTT)
      refine ⟨F',T',r,fun c hc=>?_,hmv⟩
      refine piece_ok mixed hc (pMm1 g nb N m F T Q td V a b i j tn) ?_ (hrun c hc)
      repeat' (first | exact aN | apply aI)
      all_goals (first | exact aP _ _ | exact aA _ _ | omega | rfl | (intros;first | assumption | exact trivial | rfl | exact fT ‹_› | ((repeat' (first | assumption | apply anda | apply notf));done)) | (exact ht1) | (intro i hi;simp [All]))
theorem run_out {N k nb m:Nat} {g:Nat→T_Bar} {F T Q:Nat→Int} {a b:Int} (hp:PInv N k nb m g F T Q) (hk:k≤1048576) (hN:N≤1048576) (hm:m≤1048576) (hnb:nb≤1048576)
    (ha:0≤a∧a<N) (hb:0≤b∧b<N) (hab:a≠b):∀ d i tn td V,N+1≤i+d→i≤tn→BInv N m g F T Q td V a b tn→BZero F td b tn→BClo m g T Q td i 0 tn→OutG N k nb m g F T Q a b i tn td V:=by
  intro d
  induction d with
  | zero =>
    intro i tn td V hd hi hbi _ _
    have:=pigeon N tn td hbi.rng hbi.inj
    omega
  | succ d ih =>
    intro i tn td V hd hi hbi hz hcl
    have htn:=pigeon N tn td hbi.rng hbi.inj
    by_cases hit:i<tn
    · have hd':decide ((i:Int)<(tn:Int))=true:=by simp;omega
      obtain ⟨F',T',r,hrun,hmv⟩:=run_mid hp hk hN hm hnb ha hb hab i (fun tn td V h1 h2 h3 h4=>ih (i+1) tn td V (by omega) h1 h2 h3 h4) m 0 tn td V (by omega) hit hbi hz hcl
      refine ⟨F',T',r,fun c hc=>?_,hmv⟩
      refine piece_ok mixed hc (pMo1 g nb N m F T Q td V a b i tn) ?_ (hrun c hc)
      repeat' (first | exact aN | apply aI)
      all_goals (first | exact aP _ _ | exact aA _ _ | omega | rfl | (intros;first | assumption | exact trivial | rfl | exact fT ‹_› | ((repeat' (first | assumption | apply anda | apply notf));done)) | (intro i hi;simp [All]))
    · have hd':decide ((i:Int)<(tn:Int))=false:=by simp;omega
      obtain rfl:i=tn:=by omega
      refine ⟨F,T,false,fun c hc=>?_,moved_no hp hbi hz hcl⟩
      refine path_ok mixed Tryz.func408 hc (pMo2 g nb N m F T Q td V a b i i) ?_
      repeat' (first | exact aN | apply aI)
      all_goals (first | exact aA _ _ | exact aE _ | omega | rfl | (intros;first | assumption | exact trivial | rfl | exact fT ‹_› | ((repeat' (first | assumption | apply anda | apply notf));done)) | (intro i hi;simp [All]))
theorem con_moveTo {N k nb m:Nat} {g:Nat→T_Bar} {F T Q:Nat→Int} {a b:Int} (hp:PInv N k nb m g F T Q) (hk:k≤1048576) (hN:N≤1048576) (hm:m≤1048576) (hnb:nb≤1048576)
    (ha:0≤a∧a<N) (hb:0≤b∧b<N) (hab:a≠b):∃ F' T' r,Con Tryz.prog 408 4 (pebH N m F T Q) [brL g nb,.pt 3 0 0 0,.p (.int .i64 a),.p (.int .i64 b)] (pebH N m F' T' Q) (.p (.bool r)) ∧
      Moved N k nb m g F T Q a b F' T' r:=by
  obtain ⟨F',T',r,hrun,hmv⟩:=run_out hp hk hN hm hnb ha hb hab (N+1) 0 1 (fun _=>a) (fun _=>-1) (by omega) (by omega)
    ⟨by omega,rfl,fun s hs=>ha,fun s s' h1 h2=>by omega,fun s h1 h2=>by omega⟩ (fun s h1 h2=>by omega) (fun i' j' h=>by omega)
  refine ⟨F',T',r,?_,hmv⟩
  refine con_start Tryz.func408 rfl (by kernel_rfl) rfl (fun c hc=>?_)
  refine piece_ok mixed hc (pMz g nb N m F T Q a b) ?_ (hrun c hc)
  repeat' (first | exact aN | apply aI)
  all_goals (first | exact aP _ _ | exact aA _ _ | omega | rfl | (intros;first | assumption | exact trivial | rfl | exact fT ‹_› | ((repeat' (first | assumption | apply anda | apply notf));done)) | (intro i hi;simp [All]))
end Go.Proofs.YtkkjoghiigiokaaGreat.Mach
namespace Go.Proofs.YtkkjoghiigiokaaGreat.Mach
open Go
set_option linter.unusedVariables false
set_option linter.unusedSimpArgs false
def SG (g:Nat→T_Bar) (nb N m:Nat) (F T Q:Nat→Int) (a b want:Int):St :=
  ⟨[brL g nb,.pt 3 0 0 0,.p (.int .i64 a),.p (.int .i64 b),.p (.int .i64 want)]++List.replicate 37 anyA,pebH N m F T Q,4⟩
def pebH2 (N m:Nat) (F T Q:Nat→Int):Hp:=[(0,⟨true,3,1,fun _=>[.ar 1 1 0 N,.ar 1 4 0 m,.ar 1 5 0 m]⟩),(1,iOb N F),(4,iOb m T),(5,iOb m Q)]
theorem pGz (g:Nat→T_Bar) (nb N m:Nat) (F T Q:Nat→Int) (a b want:Int) :
    pieceOb Tryz.prog 4 [rg 1,.head] [.code (bodyOf Tryz.f378)] (start Tryz.f378 (pebH N m F T Q) 4 [brL g nb,.pt 3 0 0 0,.p (.int .i64 a),.p (.int .i64 b),.p (.int .i64 want)]) [0,1,2,3] 1 (SG g nb N m F T Q a b want) =
    some (zf101,[(AN nb),(AP nb (fun i=>[.int .i64 ((g i).1),.int .i64 ((g i).2.1)])),(AN 0),(AI a),(AI b),(AI want),(AN 3),(NL 1 1),(NL 1 1),(AN 0),(AN N),(AN 0),(AN m),(AN 0),(AN m),(AN 1),(NL N N),(AA N (fun i=>[.p (.int .i64 (F i))])),(AN 1),(NL m m),(AA m (fun i=>[.p (.int .i64 (T i))])),(AN 1),(NL m m),(AA m (fun i=>[.p (.int .i64 (Q i))]))]):=by kernel_rfl
theorem pGa (g:Nat→T_Bar) (nb N m:Nat) (F T Q F1 T1:Nat→Int) (a b want:Int) :
    pieceOb Tryz.prog 4 [rg 17,.dec true,rm [(4,oq [0,1,2,3] (pebH N m F1 T1 Q) (.p (.bool true))),(2,⟨true,none,some false⟩),(0,⟨true,none,some false⟩),(0,⟨true,none,some false⟩),(0,⟨true,none,some false⟩),(0,⟨true,none,some false⟩),(0,⟨true,none,some false⟩),(0,⟨true,none,some false⟩)] 0,.dec false,.head] zf101 (SG g nb N m F T Q a b want) [0,1,2,3] 1 (SG g nb N m F1 T1 Q a b want) =
    some (zf101,[(NT 0 1),(IL 0 a),(IT a (↑N:Int)),(NT a.toNat N),(NT 0 1),(IL 0 b),(IT b (↑N:Int)),(NT b.toNat N),(R0 (F a.toNat+F b.toNat)),(R1 (F a.toNat+F b.toNat)),((decide (F (a.toNat+0)+F (b.toNat+0)<want))=true),(AE 1),(AE N),(AE m),(AE m),Con Tryz.prog 408 4 (zf27 N m F T Q) [.p (.seq true 2 nb (fun i=>[.int .i64 ((g i).1),.int .i64 ((g i).2.1)])),.pt 3 0 0 0,.p (.int .i64 a),.p (.int .i64 b)] (zf27 N m F1 T1 Q) (.p (.bool true)),((!true)=false),((!true)=false),((!true)=false),((!true)=false),((!true)=false),((!true)=false),((!true)=false),(false=false),(AN nb),(AP nb (fun i=>[.int .i64 ((g i).1),.int .i64 ((g i).2.1)])),(AN 0),(AI a),(AI b),(AI want),(AN 3),(NL 1 1),(NL 1 1),(AN 0),(AN N),(AN 0),(AN m),(AN 0),(AN m),(AN 1),(NL N N),(AA N (fun i=>[.p (.int .i64 (F1 i))])),(AN 1),(NL m m),(AA m (fun i=>[.p (.int .i64 (T1 i))])),(AN 1),(NL m m),(AA m (fun i=>[.p (.int .i64 (Q i))]))]):=by kernel_rfl
theorem pGb (g:Nat→T_Bar) (nb N m:Nat) (F T Q F1 T1 F2 T2:Nat→Int) (a b want:Int) :
    pieceOb Tryz.prog 4 [rg 17,.dec true,rm [(4,oq [0,1,2,3] (pebH N m F1 T1 Q) (.p (.bool false))),(2,⟨true,none,some true⟩),(0,⟨true,none,some true⟩),(0,⟨true,none,some true⟩),(0,⟨true,none,some true⟩),(0,⟨true,(some ⟨[0,1,2,3],[],[],1,pebH N m F2 T2 Q,.p (.bool true)⟩),some true⟩),(0,⟨true,none,some true⟩),(0,⟨true,none,some true⟩)] 0,.dec false,.head] zf101 (SG g nb N m F T Q a b want) [0,1,2,3] 1 (SG g nb N m F2 T2 Q a b want) =
    some (zf101,[(NT 0 1),(IL 0 a),(IT a (↑N:Int)),(NT a.toNat N),(NT 0 1),(IL 0 b),(IT b (↑N:Int)),(NT b.toNat N),(R0 (F a.toNat+F b.toNat)),(R1 (F a.toNat+F b.toNat)),((decide (F (a.toNat+0)+F (b.toNat+0)<want))=true),(AE 1),(AE N),(AE m),(AE m),Con Tryz.prog 408 4 (zf27 N m F T Q) [.p (.seq true 2 nb (fun i=>[.int .i64 ((g i).1),.int .i64 ((g i).2.1)])),.pt 3 0 0 0,.p (.int .i64 a),.p (.int .i64 b)] (zf27 N m F1 T1 Q) (.p (.bool false)),((!false)=true),((!false)=true),((!false)=true),((!false)=true),((!false)=true),(AE 1),(AE N),(AE m),(AE m),Con Tryz.prog 408 4 (zf27 N m F1 T1 Q) [.p (.seq true 2 nb (fun i=>[.int .i64 ((g i).1),.int .i64 ((g i).2.1)])),.pt 3 0 0 0,.p (.int .i64 b),.p (.int .i64 a)] (zf27 N m F2 T2 Q) (.p (.bool true)),((!false)=true),((!false)=true),((!true)=false),(AN nb),(AP nb (fun i=>[.int .i64 ((g i).1),.int .i64 ((g i).2.1)])),(AN 0),(AI a),(AI b),(AI want),(AN 3),(NL 1 1),(NL 1 1),(AN 0),(AN N),(AN 0),(AN m),(AN 0),(AN m),(AN 1),(NL N N),(AA N (fun i=>[.p (.int .i64 (F2 i))])),(AN 1),(NL m m),(AA m (fun i=>[.p (.int .i64 (T2 i))])),(AN 1),(NL m m),(AA m (fun i=>[.p (.int .i64 (Q i))]))]):=by kernel_rfl
theorem pGc (g:Nat→T_Bar) (nb N m:Nat) (F T Q F1 T1 F2 T2:Nat→Int) (a b want:Int) :
    pathOb Tryz.prog Tryz.f378 4 [rg 17,.dec true,rm [(4,oq [0,1,2,3] (pebH N m F1 T1 Q) (.p (.bool false))),(2,⟨true,none,some true⟩),(0,⟨true,none,some true⟩),(0,⟨true,none,some true⟩),(0,⟨true,none,some true⟩),(0,⟨true,(some ⟨[0,1,2,3],[],[],1,pebH N m F2 T2 Q,.p (.bool false)⟩),some true⟩),(0,⟨true,none,some true⟩),(0,⟨true,none,some true⟩)] 0,.dec true,rg 1] zf101 (SG g nb N m F T Q a b want) [0,1,2,3] 1 (pebH N m F2 T2 Q) (.p (.bool false)) =
    some [(NT 0 1),(IL 0 a),(IT a (↑N:Int)),(NT a.toNat N),(NT 0 1),(IL 0 b),(IT b (↑N:Int)),(NT b.toNat N),(R0 (F a.toNat+F b.toNat)),(R1 (F a.toNat+F b.toNat)),((decide (F (a.toNat+0)+F (b.toNat+0)<want))=true),(AE 1),(AE N),(AE m),(AE m),Con Tryz.prog 408 4 (zf27 N m F T Q) [.p (.seq true 2 nb (fun i=>[.int .i64 ((g i).1),.int .i64 ((g i).2.1)])),.pt 3 0 0 0,.p (.int .i64 a),.p (.int .i64 b)] (zf27 N m F1 T1 Q) (.p (.bool false)),((!false)=true),((!false)=true),((!false)=true),((!false)=true),((!false)=true),(AE 1),(AE N),(AE m),(AE m),Con Tryz.prog 408 4 (zf27 N m F1 T1 Q) [.p (.seq true 2 nb (fun i=>[.int .i64 ((g i).1),.int .i64 ((g i).2.1)])),.pt 3 0 0 0,.p (.int .i64 b),.p (.int .i64 a)] (zf27 N m F2 T2 Q) (.p (.bool false)),((!false)=true),((!false)=true),((!false)=true),(false=false),(AN 3),(NL 1 1),(NL 1 1),(AN 0),(AN N),(AN 0),(AN m),(AN 0),(AN m),(AN 1),(NL N N),(AA N (fun i=>[.p (.int .i64 (F2 i))])),(AN 1),(NL m m),(AA m (fun i=>[.p (.int .i64 (T2 i))])),(AN 1),(NL m m),(AA m (fun i=>[.p (.int .i64 (Q i))])),(AE 1),(AE N),(AE m),(AE m)]:=by kernel_rfl
theorem pGd (g:Nat→T_Bar) (nb N m:Nat) (F T Q:Nat→Int) (a b want:Int) :
    pathOb Tryz.prog Tryz.f378 4 [rg 17,.dec false,rg 1] zf101 (SG g nb N m F T Q a b want) [0,1,2,3] 1 (pebH N m F T Q) (.p (.bool true)) =
    some [(NT 0 1),(IL 0 a),(IT a (↑N:Int)),(NT a.toNat N),(NT 0 1),(IL 0 b),(IT b (↑N:Int)),(NT b.toNat N),(R0 (F a.toNat+F b.toNat)),(R1 (F a.toNat+F b.toNat)),((decide (F (a.toNat+0)+F (b.toNat+0)<want))=false),(true=true),(AN 3),(NL 1 1),(NL 1 1),(AN 0),(AN N),(AN 0),(AN m),(AN 0),(AN m),(AN 1),(NL N N),(AA N (fun i=>[.p (.int .i64 (F i))])),(AN 1),(NL m m),(AA m (fun i=>[.p (.int .i64 (T i))])),(AN 1),(NL m m),(AA m (fun i=>[.p (.int .i64 (Q i))])),(AE 1),(AE N),(AE m),(AE m)]:=by kernel_rfl
theorem pPf (g:Nat→T_Bar) (nb N m:Nat) (F T Q F1 T1:Nat→Int) (l:Int) (e:Nat) :
    pathOb Tryz.prog Tryz.f344 4 [rg 1,rg 6,rm [(8,oq [0,1,2,3] (pebH N m F1 T1 Q) (.p (.bool false)))] 1,.dec true,rg 1] [.code (bodyOf Tryz.f344)] (start Tryz.f344 (pebH N m F T Q) 4 [brL g nb,.p (.int .i64 l),.pt 3 0 0 0,.p (.int .i64 e)]) [0,1,2,3] 1 (pebH N m F1 T1 Q) (.p (.bool false)) =
    some [(IL 0 (↑e:Int)),(IT (↑e:Int) (↑nb:Int)),(NT 0 1),((true=true)→ (AN 1)),(NT 0 1),(NT 0 1),(R0 (l+1)),(R1 (l+1)),(AE 1),(AE N),(AE m),(AE m),Con Tryz.prog 378 4 (zf27 N m F T Q) [.p (.seq true 2 nb (fun i=>[.int .i64 ((g i).1),.int .i64 ((g i).2.1)])),.pt 3 0 0 0,.p (.int .i64 ((g e).1)),.p (.int .i64 ((g e).2.1)),.p (.int .i64 (l+1))] (zf27 N m F1 T1 Q) (.p (.bool false)),((!false)=true),(false=false),(AN 3),(NL 1 1),(NL 1 1),(AN 0),(AN N),(AN 0),(AN m),(AN 0),(AN m),(AN 1),(NL N N),(AA N (fun i=>[.p (.int .i64 (F1 i))])),(AN 1),(NL m m),(AA m (fun i=>[.p (.int .i64 (T1 i))])),(AN 1),(NL m m),(AA m (fun i=>[.p (.int .i64 (Q i))])),(AE 1),(AE N),(AE m),(AE m)]:=by kernel_rfl
theorem pPa (g:Nat→T_Bar) (nb N m:Nat) (F T Q F1 T1:Nat→Int) (l:Int) (e:Nat) :
    pathOb Tryz.prog Tryz.f344 4 [rg 1,rg 6,rm [(8,oq [0,1,2,3] (pebH N m F1 T1 Q) (.p (.bool true)))] 1,.dec false,rg 3,rg 9,.dec false,rg 10,rg 11,rg 11,rg 1] [.code (bodyOf Tryz.f344)] (start Tryz.f344 (pebH N m F T Q) 4 [brL g nb,.p (.int .i64 l),.pt 3 0 0 0,.p (.int .i64 e)]) [0,1,2,3,1476,1828] 1 (pebH2 N (m+1) (fun s=>if s=(g e).1.toNat then F1 s - 1 else F1 s) (fun s=>if s<m then T1 s else (g e).1) (fun s=>if s<m then Q s else e)) (.p (.bool true)) =
    some [(IL 0 (↑e:Int)),(IT (↑e:Int) (↑nb:Int)),(NT 0 1),((true=true)→ (AN 1)),(NT 0 1),(NT 0 1),(R0 (l+1)),(R1 (l+1)),(AE 1),(AE N),(AE m),(AE m),Con Tryz.prog 378 4 (zf27 N m F T Q) [.p (.seq true 2 nb (fun i=>[.int .i64 ((g i).1),.int .i64 ((g i).2.1)])),.pt 3 0 0 0,.p (.int .i64 ((g e).1)),.p (.int .i64 ((g e).2.1)),.p (.int .i64 (l+1))] (zf27 N m F1 T1 Q) (.p (.bool true)),((!true)=false),(NT 0 1),(NT 0 1),(NT 0 1),(IL 0 ((g e).1)),(IT ((g e).1) (↑N:Int)),(NT ((g e).1.toNat) N),((F1 (g e).1.toNat==0)=false),(NT 0 1),(IL 0 ((g e).1)),(IT ((g e).1) (↑N:Int)),(NT ((g e).1.toNat) N),(R0 (F1 (g e).1.toNat - 1)),(R1 (F1 (g e).1.toNat - 1)),(IL 0 ((g e).1)),(IT ((g e).1) (↑N:Int)),(NT ((g e).1.toNat) N),((false=true)→ ((N:Nat)=1)),(NT 0 1),(NL 1 1),(NL m m),(NL ((m+1)*8) 140737488355328),(NL (m+1) 9223372036854775807),(NT 0 1),((true=true)→ (AN 1)),(NT 0 1),(NL 1 1),(NL m m),(NL ((m+1)*8) 140737488355328),(NL (m+1) 9223372036854775807),(NT 0 1),((true=true)→ (AN 1)),(true=true),(AN 3),(NL 1 1),(NL 1 1),(AN 0),(AN N),(AN 0),(AN ((m+1))),(AN 0),(AN ((m+1))),(AN 1),(NL N N),(CV [(0,⟨true,3,1,(fun i_1=>[.ar 1 1 0 N,.ar 1 1476 0 (m+1),.ar 1 1828 0 (m+1)])⟩),(1828,⟨false,1,(m+1),(fun i_1=>(if (i_1<m) then [.p (.int .i64 (Q i_1))] else [.p (.int .i64 (↑e:Int))]))⟩),(1796,⟨false,1,1,(fun i_1=>[.p (.int .i64 (↑e:Int))])⟩),(1476,⟨false,1,(m+1),(fun i_1=>(if (i_1<m) then [.p (.int .i64 (T1 i_1))] else [.p (.int .i64 ((g e).1))]))⟩),(1444,⟨false,1,1,(fun i_1=>[.p (.int .i64 ((g e).1))])⟩),(1,⟨false,1,N,(fun i_1=>(if (i_1=(g e).1.toNat) then [.p (.int .i64 (F1 (g e).1.toNat - 1))] else [.p (.int .i64 (F1 i_1))]))⟩),(164,⟨true,2,1,(fun i_1=>[.p (.int .i64 ((g e).1)),.p (.int .i64 ((g e).2.1))])⟩)] [0,1,2,3,1476,1828] 1 N (fun i=>if (i=(g e).1.toNat) then [.p (.int .i64 (F1 (g e).1.toNat - 1))] else [.p (.int .i64 (F1 i))]) (fun i=>[.p (.int .i64 (if i=(g e).1.toNat then F1 i - 1 else F1 i))])),(AN 1),(NL (m+1) (m+1)),(CV [(0,⟨true,3,1,(fun i_1=>[.ar 1 1 0 N,.ar 1 1476 0 (m+1),.ar 1 1828 0 (m+1)])⟩),(1828,⟨false,1,(m+1),(fun i_1=>(if (i_1<m) then [.p (.int .i64 (Q i_1))] else [.p (.int .i64 (↑e:Int))]))⟩),(1796,⟨false,1,1,(fun i_1=>[.p (.int .i64 (↑e:Int))])⟩),(1476,⟨false,1,(m+1),(fun i_1=>(if (i_1<m) then [.p (.int .i64 (T1 i_1))] else [.p (.int .i64 ((g e).1))]))⟩),(1444,⟨false,1,1,(fun i_1=>[.p (.int .i64 ((g e).1))])⟩),(1,⟨false,1,N,(fun i_1=>(if (i_1=(g e).1.toNat) then [.p (.int .i64 (F1 (g e).1.toNat - 1))] else [.p (.int .i64 (F1 i_1))]))⟩),(164,⟨true,2,1,(fun i_1=>[.p (.int .i64 ((g e).1)),.p (.int .i64 ((g e).2.1))])⟩)] [0,1,2,3,1476,1828] 1 (m+1) (fun i=>if (i<m) then [.p (.int .i64 (T1 i))] else [.p (.int .i64 ((g e).1))]) (fun i=>[.p (.int .i64 (if i<m then T1 i else (g e).1))])),(AN 1),(NL (m+1) (m+1)),(CV [(0,⟨true,3,1,(fun i_1=>[.ar 1 1 0 N,.ar 1 1476 0 (m+1),.ar 1 1828 0 (m+1)])⟩),(1828,⟨false,1,(m+1),(fun i_1=>(if (i_1<m) then [.p (.int .i64 (Q i_1))] else [.p (.int .i64 (↑e:Int))]))⟩),(1796,⟨false,1,1,(fun i_1=>[.p (.int .i64 (↑e:Int))])⟩),(1476,⟨false,1,(m+1),(fun i_1=>(if (i_1<m) then [.p (.int .i64 (T1 i_1))] else [.p (.int .i64 ((g e).1))]))⟩),(1444,⟨false,1,1,(fun i_1=>[.p (.int .i64 ((g e).1))])⟩),(1,⟨false,1,N,(fun i_1=>(if (i_1=(g e).1.toNat) then [.p (.int .i64 (F1 (g e).1.toNat - 1))] else [.p (.int .i64 (F1 i_1))]))⟩),(164,⟨true,2,1,(fun i_1=>[.p (.int .i64 ((g e).1)),.p (.int .i64 ((g e).2.1))])⟩)] [0,1,2,3,1476,1828] 1 (m+1) (fun i=>if (i<m) then [.p (.int .i64 (Q i))] else [.p (.int .i64 (↑e:Int))]) (fun i=>[.p (.int .i64 (if i<m then Q i else (↑e:Int)))])),(AE 1),(AE N),(AE ((m+1))),(AE ((m+1)))]:=by kernel_rfl
theorem pPb (g:Nat→T_Bar) (nb N m:Nat) (F T Q F1 T1:Nat→Int) (l:Int) (e:Nat) :
    pathOb Tryz.prog Tryz.f344 4 [rg 1,rg 6,rm [(8,oq [0,1,2,3] (pebH N m F1 T1 Q) (.p (.bool true)))] 1,.dec false,rg 3,rg 9,.dec true,rg 3,rg 10,rg 11,rg 11,rg 1] [.code (bodyOf Tryz.f344)] (start Tryz.f344 (pebH N m F T Q) 4 [brL g nb,.p (.int .i64 l),.pt 3 0 0 0,.p (.int .i64 e)]) [0,1,2,3,1572,1924] 1 (pebH2 N (m+1) (fun s=>if s=(g e).2.1.toNat then F1 s - 1 else F1 s) (fun s=>if s<m then T1 s else (g e).2.1) (fun s=>if s<m then Q s else e)) (.p (.bool true)) =
    some [(IL 0 (↑e:Int)),(IT (↑e:Int) (↑nb:Int)),(NT 0 1),((true=true)→ (AN 1)),(NT 0 1),(NT 0 1),(R0 (l+1)),(R1 (l+1)),(AE 1),(AE N),(AE m),(AE m),Con Tryz.prog 378 4 (zf27 N m F T Q) [.p (.seq true 2 nb (fun i=>[.int .i64 ((g i).1),.int .i64 ((g i).2.1)])),.pt 3 0 0 0,.p (.int .i64 ((g e).1)),.p (.int .i64 ((g e).2.1)),.p (.int .i64 (l+1))] (zf27 N m F1 T1 Q) (.p (.bool true)),((!true)=false),(NT 0 1),(NT 0 1),(NT 0 1),(IL 0 ((g e).1)),(IT ((g e).1) (↑N:Int)),(NT ((g e).1.toNat) N),((F1 (g e).1.toNat==0)=true),(NT 0 1),(NT 0 1),(IL 0 ((g e).2.1)),(IT ((g e).2.1) (↑N:Int)),(NT ((g e).2.1.toNat) N),(R0 (F1 (g e).2.1.toNat - 1)),(R1 (F1 (g e).2.1.toNat - 1)),(IL 0 ((g e).2.1)),(IT ((g e).2.1) (↑N:Int)),(NT ((g e).2.1.toNat) N),((false=true)→ ((N:Nat)=1)),(NT 0 1),(NL 1 1),(NL m m),(NL ((m+1)*8) 140737488355328),(NL (m+1) 9223372036854775807),(NT 0 1),((true=true)→ (AN 1)),(NT 0 1),(NL 1 1),(NL m m),(NL ((m+1)*8) 140737488355328),(NL (m+1) 9223372036854775807),(NT 0 1),((true=true)→ (AN 1)),(true=true),(AN 3),(NL 1 1),(NL 1 1),(AN 0),(AN N),(AN 0),(AN ((m+1))),(AN 0),(AN ((m+1))),(AN 1),(NL N N),(CV [(0,⟨true,3,1,(fun i_1=>[.ar 1 1 0 N,.ar 1 1572 0 (m+1),.ar 1 1924 0 (m+1)])⟩),(1924,⟨false,1,(m+1),(fun i_1=>(if (i_1<m) then [.p (.int .i64 (Q i_1))] else [.p (.int .i64 (↑e:Int))]))⟩),(1892,⟨false,1,1,(fun i_1=>[.p (.int .i64 (↑e:Int))])⟩),(1572,⟨false,1,(m+1),(fun i_1=>(if (i_1<m) then [.p (.int .i64 (T1 i_1))] else [.p (.int .i64 ((g e).2.1))]))⟩),(1540,⟨false,1,1,(fun i_1=>[.p (.int .i64 ((g e).2.1))])⟩),(1,⟨false,1,N,(fun i_1=>(if (i_1=(g e).2.1.toNat) then [.p (.int .i64 (F1 (g e).2.1.toNat - 1))] else [.p (.int .i64 (F1 i_1))]))⟩),(164,⟨true,2,1,(fun i_1=>[.p (.int .i64 ((g e).1)),.p (.int .i64 ((g e).2.1))])⟩)] [0,1,2,3,1572,1924] 1 N (fun i=>if (i=(g e).2.1.toNat) then [.p (.int .i64 (F1 (g e).2.1.toNat - 1))] else [.p (.int .i64 (F1 i))]) (fun i=>[.p (.int .i64 (if i=(g e).2.1.toNat then F1 i - 1 else F1 i))])),(AN 1),(NL (m+1) (m+1)),(CV [(0,⟨true,3,1,(fun i_1=>[.ar 1 1 0 N,.ar 1 1572 0 (m+1),.ar 1 1924 0 (m+1)])⟩),(1924,⟨false,1,(m+1),(fun i_1=>(if (i_1<m) then [.p (.int .i64 (Q i_1))] else [.p (.int .i64 (↑e:Int))]))⟩),(1892,⟨false,1,1,(fun i_1=>[.p (.int .i64 (↑e:Int))])⟩),(1572,⟨false,1,(m+1),(fun i_1=>(if (i_1<m) then [.p (.int .i64 (T1 i_1))] else [.p (.int .i64 ((g e).2.1))]))⟩),(1540,⟨false,1,1,(fun i_1=>[.p (.int .i64 ((g e).2.1))])⟩),(1,⟨false,1,N,(fun i_1=>(if (i_1=(g e).2.1.toNat) then [.p (.int .i64 (F1 (g e).2.1.toNat - 1))] else [.p (.int .i64 (F1 i_1))]))⟩),(164,⟨true,2,1,(fun i_1=>[.p (.int .i64 ((g e).1)),.p (.int .i64 ((g e).2.1))])⟩)] [0,1,2,3,1572,1924] 1 (m+1) (fun i=>if (i<m) then [.p (.int .i64 (T1 i))] else [.p (.int .i64 ((g e).2.1))]) (fun i=>[.p (.int .i64 (if i<m then T1 i else (g e).2.1))])),(AN 1),(NL (m+1) (m+1)),(CV [(0,⟨true,3,1,(fun i_1=>[.ar 1 1 0 N,.ar 1 1572 0 (m+1),.ar 1 1924 0 (m+1)])⟩),(1924,⟨false,1,(m+1),(fun i_1=>(if (i_1<m) then [.p (.int .i64 (Q i_1))] else [.p (.int .i64 (↑e:Int))]))⟩),(1892,⟨false,1,1,(fun i_1=>[.p (.int .i64 (↑e:Int))])⟩),(1572,⟨false,1,(m+1),(fun i_1=>(if (i_1<m) then [.p (.int .i64 (T1 i_1))] else [.p (.int .i64 ((g e).2.1))]))⟩),(1540,⟨false,1,1,(fun i_1=>[.p (.int .i64 ((g e).2.1))])⟩),(1,⟨false,1,N,(fun i_1=>(if (i_1=(g e).2.1.toNat) then [.p (.int .i64 (F1 (g e).2.1.toNat - 1))] else [.p (.int .i64 (F1 i_1))]))⟩),(164,⟨true,2,1,(fun i_1=>[.p (.int .i64 ((g e).1)),.p (.int .i64 ((g e).2.1))])⟩)] [0,1,2,3,1572,1924] 1 (m+1) (fun i=>if (i<m) then [.p (.int .i64 (Q i))] else [.p (.int .i64 (↑e:Int))]) (fun i=>[.p (.int .i64 (if i<m then Q i else (↑e:Int)))])),(AE 1),(AE N),(AE ((m+1))),(AE ((m+1)))]:=by kernel_rfl
def brN (x:T_Bar):Nat×Nat:=(x.1.toNat,x.2.1.toNat)
def plL (g:Nat→T_Bar) (Q:Nat→Int):Nat→List (Nat×Nat)
  | 0=>[]
  | m+1=>plL g Q m++[brN (g (Q m).toNat)]
def gmL (g:Nat→T_Bar) (T Q:Nat→Int):Nat→List Mat.PB
  | 0=>[]
  | m+1=>gmL g T Q m++[((T m).toNat,brN (g (Q m).toNat))]
theorem barsOf_app:∀ a b:List Mat.PB,Mat.barsOf (a++b)=Mat.barsOf a++Mat.barsOf b
  | [],_=>rfl
  | p::a,b=>by simp only [List.cons_append,Mat.barsOf,barsOf_app a b]
theorem tc_app (v:Nat):∀ a b:List Mat.PB,Mat.tc v (a++b)=Mat.tc v a+Mat.tc v b
  | [],b=>by simp [Mat.tc]
  | p::a,b=>by simp only [List.cons_append,Mat.tc,tc_app v a b];omega
theorem barsOf_gm (g:Nat→T_Bar) (T Q:Nat→Int):∀ m,Mat.barsOf (gmL g T Q m)=plL g Q m
  | 0=>rfl
  | m+1=>by simp only [gmL,plL,barsOf_app,barsOf_gm g T Q m,Mat.barsOf]
theorem tc_gm (g:Nat→T_Bar) (T Q:Nat→Int) (v:Nat):∀ m,(∀ j,j<m→0≤T j)→(Mat.tc v (gmL g T Q m):Int)=tcI T m v
  | 0,_=>rfl
  | m+1,h=>by
    have ih:=tc_gm g T Q v m (fun j hj=>h j (by omega))
    have h1:=h m (by omega)
    simp only [gmL,tc_app,Mat.tc,tcI]
    by_cases e:T m=v
    · have e':((T m).toNat==v)=true:=by simp;omega
      rw [e',if_pos e];simp;omega
    · have e':((T m).toNat==v)=false:=by simp;omega
      rw [e',if_neg e];simp;omega
theorem mem_gm (g:Nat→T_Bar) (T Q:Nat→Int) (p:Mat.PB):∀ m,p∈gmL g T Q m→∃ j,j<m∧p=((T j).toNat,brN (g (Q j).toNat))
  | 0,h=>by cases h
  | m+1,h=>by
    simp only [gmL,List.mem_append,List.mem_singleton] at h
    rcases h with h | h
    · obtain ⟨j,h1,h2⟩:=mem_gm g T Q p m h
      exact ⟨j,by omega,h2⟩
    · exact ⟨m,by omega,h⟩
theorem PInv.t0 {N k nb m:Nat} {g:Nat→T_Bar} {F T Q:Nat→Int} (h:PInv N k nb m g F T Q):∀ j,j<m→0≤T j∧T j<N:=by
  intro j hj
  have h1:=h.q j hj
  have h2:=h.bars (Q j).toNat (by omega)
  rcases h.t j hj with e | e<;>rw [e]<;>omega
theorem PInv.game {N k nb m:Nat} {g:Nat→T_Bar} {F T Q:Nat→Int} (h:PInv N k nb m g F T Q) (l:Nat):Mat.Game N k l (fun v=>(F v).toNat) (gmL g T Q m):=by
  refine ⟨fun p hp=>?_,fun p hp=>?_,fun v hv=>?_⟩
  · obtain ⟨j,h1,rfl⟩:=mem_gm g T Q p m hp
    simp only [brN]
    rcases h.t j h1 with e | e
    · left;rw [e]
    · right;rw [e]
  · obtain ⟨j,h1,rfl⟩:=mem_gm g T Q p m hp
    have h2:=h.q j h1
    have h3:=h.bars (Q j).toNat (by omega)
    simp only [brN,Mat.GoodBar]
    omega
  · have h1:=h.sum v hv
    have h2:=h.f0 v hv
    have h3:=tc_gm g T Q v m (fun j hj=>(h.t0 j hj).1)
    show (F v).toNat+Mat.tc v (gmL g T Q m)=k
    omega
theorem gather_no {N k nb m l:Nat} {g:Nat→T_Bar} {F T Q:Nat→Int} {a b:Int} (hp:PInv N k nb m g F T Q) (ha:0≤a∧a<N) (hb:0≤b∧b<N) (hab:a≠b) (hs:F a.toNat+F b.toNat≤l)
    {F1 T1 F2 T2:Nat→Int} (h1:Moved N k nb m g F T Q a b F1 T1 false) (h2:Moved N k nb m g F T Q b a F2 T2 false):¬ Mat.Sparse N k l (plL g Q m++[(a.toNat,b.toNat)]):=by
  obtain ⟨_,_,R1,r1,c1,z1⟩:=h1.no rfl
  obtain ⟨_,_,R2,r2,c2,z2⟩:=h2.no rfl
  have f1:=hp.f0 a.toNat (by omega)
  have f2:=hp.f0 b.toNat (by omega)
  rw [← barsOf_gm g T Q m]
  refine (hp.game l).reject a.toNat b.toNat ⟨by show a.toNat≠b.toNat;omega,by show a.toNat<N;omega,by show b.toNat<N;omega⟩ (by show (F a.toNat).toNat+(F b.toNat).toNat≤l;omega) (fun v=>R1 v||R2 v) (by simp [r1]) (by simp [r2]) (fun p hpm hR=>?_) (fun v hR v1 v2=>?_)
  · obtain ⟨j,h3,rfl⟩:=mem_gm g T Q p m hpm
    have key:∀ R:Nat→Bool,R (T j).toNat=true→R (othF (g (Q j).toNat) (T j)).toNat=true→R (g (Q j).toNat).1.toNat=true∧R (g (Q j).toNat).2.1.toNat=true:=by
      intro R k1 k2
      unfold othF at k2
      by_cases e:(g (Q j).toNat).1=T j
      · rw [if_pos e] at k2
        exact ⟨by rw [e];exact k1,k2⟩
      · rw [if_neg e] at k2
        rcases hp.t j h3 with e' | e'
        · exact absurd e'.symm e
        · exact ⟨k2,by rw [← e'];exact k1⟩
    simp only [Mat.inn,brN]
    simp only [Bool.or_eq_true] at hR
    rcases hR with hR | hR
    · obtain ⟨k1,k2⟩:=key R1 hR (c1 j h3 hR)
      simp [k1,k2]
    · obtain ⟨k1,k2⟩:=key R2 hR (c2 j h3 hR)
      simp [k1,k2]
  · simp only [Bool.or_eq_true] at hR
    have:F v=0:=by
      rcases hR with hR | hR
      · exact z1 v hR (by omega) (by omega)
      · exact z2 v hR (by omega) (by omega)
    show (F v).toNat=0
    rw [this];rfl
theorem con_gather {N k nb m l:Nat} {g:Nat→T_Bar} {F T Q:Nat→Int} {a b:Int} (hp:PInv N k nb m g F T Q) (hk:k≤1048576) (hN:N≤1048576) (hm:m≤1048576) (hnb:nb≤1048576)
    (ha:0≤a∧a<N) (hb:0≤b∧b<N) (hab:a≠b):∃ F' T' r,Con Tryz.prog 378 4 (pebH N m F T Q) [brL g nb,.pt 3 0 0 0,.p (.int .i64 a),.p (.int .i64 b),.p (.int .i64 ((l:Int)+1))] (pebH N m F' T' Q) (.p (.bool r)) ∧
      PInv N k nb m g F' T' Q∧(r=true→(l:Int)+1≤F' a.toNat+F' b.toNat)∧(r=false→¬ Mat.Sparse N k l (plL g Q m++[(a.toNat,b.toNat)])):=by
  have lp:∀ d F T,PInv N k nb m g F T Q→(l:Int)+1≤F a.toNat+F b.toNat+(d:Nat)→∃ F' T' r,(∀ c,c.n=4→Run Tryz.prog c 378 zf101 (SG g nb N m F T Q a b ((l:Int)+1)) (Post c (pebH N m F' T' Q) (.p (.bool r)))) ∧
      PInv N k nb m g F' T' Q∧(r=true→(l:Int)+1≤F' a.toNat+F' b.toNat)∧(r=false→¬ Mat.Sparse N k l (plL g Q m++[(a.toNat,b.toNat)])):=by
    intro d
    induction d with
    | zero =>
      intro F T hp hw
      have hd:decide (F a.toNat+F b.toNat<(l:Int)+1)=false:=by simp;omega
      have l1:=hp.le (v:=a.toNat) (by omega)
      have l2:=hp.le (v:=b.toNat) (by omega)
      refine ⟨F,T,true,fun c hc=>?_,hp,(fun _=>by omega),(fun h=>by cases h)⟩
      refine path_ok mixed Tryz.func378 hc (pGd g nb N m F T Q a b ((l:Int)+1)) ?_
      repeat' (first | exact aN | apply aI)
      all_goals (first | exact aA _ _ | exact aE _ | omega | rfl | (intros;first | assumption | exact trivial | rfl | exact fT ‹_› | ((repeat' (first | assumption | apply anda | apply notf));done)) | (exact hd) | (intro i hi;simp [All]))
    | succ d ih =>
      intro F T hp hw
      have l1:=hp.le (v:=a.toNat) (by omega)
      have l2:=hp.le (v:=b.toNat) (by omega)
      by_cases hs:F a.toNat+F b.toNat<(l:Int)+1
      · have hd:decide (F a.toNat+F b.toNat<(l:Int)+1)=true:=by simp;omega
        obtain ⟨F1,T1,r1,hc1,hm1⟩:=con_moveTo hp hk hN hm hnb ha hb hab
        cases r1 with
        | true =>
          obtain ⟨y1,y2⟩:=hm1.yes rfl
          obtain ⟨F',T',r,hrun,h1,h2,h3⟩:=ih F1 T1 hm1.inv (by omega)
          refine ⟨F',T',r,fun c hc=>?_,h1,h2,h3⟩
          refine piece_ok mixed hc (pGa g nb N m F T Q F1 T1 a b ((l:Int)+1)) ?_ (hrun c hc)
          repeat' (first | exact aN | apply aI)
          all_goals (first | exact aP _ _ | exact aA _ _ | exact aE _ | omega | rfl | (intros;first | assumption | exact trivial | rfl | exact fT ‹_› | ((repeat' (first | assumption | apply anda | apply notf));done)) | (exact hd) | (exact hc1) | (intro i hi;simp [All]))
        | false =>
          obtain ⟨n1,n2,_⟩:=hm1.no rfl
          subst n1;subst n2
          obtain ⟨F2,T2,r2,hc2,hm2⟩:=con_moveTo hp hk hN hm hnb hb ha (Ne.symm hab)
          cases r2 with
          | true =>
            obtain ⟨y1,y2⟩:=hm2.yes rfl
            obtain ⟨F',T',r,hrun,h1,h2,h3⟩:=ih F2 T2 hm2.inv (by omega)
            refine ⟨F',T',r,fun c hc=>?_,h1,h2,h3⟩
            refine piece_ok mixed hc (pGb g nb N m F1 T1 Q F1 T1 F2 T2 a b ((l:Int)+1)) ?_ (hrun c hc)
            repeat' (first | exact aN | apply aI)
            all_goals (first | exact aP _ _ | exact aA _ _ | exact aE _ | omega | rfl | (intros;first | assumption | exact trivial | rfl | exact fT ‹_› | ((repeat' (first | assumption | apply anda | apply notf));done)) | (exact hd) | (exact hc1) | (exact hc2) | (intro i hi;simp [All]))
          | false =>
            refine ⟨F2,T2,false,fun c hc=>?_,hm2.inv,(fun h=>by cases h),fun _=>gather_no hp ha hb hab (by omega) hm1 hm2⟩
            refine path_ok mixed Tryz.func378 hc (pGc g nb N m F1 T1 Q F1 T1 F2 T2 a b ((l:Int)+1)) ?_
            repeat' (first | exact aN | apply aI)
            all_goals (first | exact aA _ _ | exact aE _ | omega | rfl | (intros;first | assumption | exact trivial | rfl | exact fT ‹_› | ((repeat' (first | assumption | apply anda | apply notf));done)) | (exact hd) | (exact hc1) | (exact hc2) | (intro i hi;simp [All]))
      · have hd:decide (F a.toNat+F b.toNat<(l:Int)+1)=false:=by simp;omega
        refine ⟨F,T,true,fun c hc=>?_,hp,(fun _=>by omega),(fun h=>by cases h)⟩
        refine path_ok mixed Tryz.func378 hc (pGd g nb N m F T Q a b ((l:Int)+1)) ?_
        repeat' (first | exact aN | apply aI)
        all_goals (first | exact aA _ _ | exact aE _ | omega | rfl | (intros;first | assumption | exact trivial | rfl | exact fT ‹_› | ((repeat' (first | assumption | apply anda | apply notf));done)) | (exact hd) | (intro i hi;simp [All]))
  have l1:=hp.le (v:=a.toNat) (by omega)
  have l2:=hp.le (v:=b.toNat) (by omega)
  obtain ⟨F',T',r,hrun,h⟩:=lp (l+1) F T hp (by omega)
  refine ⟨F',T',r,?_,h⟩
  refine con_start Tryz.func378 rfl (by kernel_rfl) rfl (fun c hc=>?_)
  refine piece_ok mixed hc (pGz g nb N m F T Q a b ((l:Int)+1)) ?_ (hrun c hc)
  repeat' (first | exact aN | apply aI)
  all_goals (first | exact aP _ _ | exact aA _ _ | omega | rfl | (intros;first | assumption | exact trivial | rfl | exact fT ‹_› | ((repeat' (first | assumption | apply anda | apply notf));done)) | (intro i hi;simp [All]))
theorem tcI_congr {T T':Nat→Int} (x:Int):∀ m,(∀ j,j<m→T j=T' j)→tcI T m x=tcI T' m x
  | 0,_=>rfl
  | m+1,h=>by simp only [tcI];rw [tcI_congr x m (fun j hj=>h j (by omega)),h m (by omega)]
theorem PInv.placed {N k nb m:Nat} {g:Nat→T_Bar} {F T Q:Nat→Int} (hp:PInv N k nb m g F T Q) (e:Nat) (he:e<nb) (tl:Int) (ht:tl=(g e).1∨tl=(g e).2.1) (hf:1≤F tl.toNat) :
    PInv N k nb (m+1) g (fun s=>if s=tl.toNat then F s - 1 else F s) (fun s=>if s<m then T s else tl) (fun s=>if s<m then Q s else e):=by
  have hb:=hp.bars e he
  have h0:0≤tl∧tl<N:=by rcases ht with h | h<;>rw [h]<;>omega
  refine ⟨hp.bars,fun j hj=>?_,fun j hj=>?_,fun v hv=>?_,fun v hv=>?_⟩
  · show 0≤(if j<m then Q j else (e:Int))∧(if j<m then Q j else (e:Int))<nb
    by_cases h:j<m
    · rw [if_pos h];exact hp.q j h
    · rw [if_neg h];omega
  · show (if j<m then T j else tl)=(g (if j<m then Q j else (e:Int)).toNat).1∨(if j<m then T j else tl)=(g (if j<m then Q j else (e:Int)).toNat).2.1
    by_cases h:j<m
    · rw [if_pos h,if_pos h];exact hp.t j h
    · rw [if_neg h,if_neg h];exact ht
  · have:=hp.f0 v hv
    show 0≤(if v=tl.toNat then F v - 1 else F v)
    by_cases h:v=tl.toNat
    · rw [if_pos h,h];omega
    · rw [if_neg h];exact this
  · have h1:=hp.sum v hv
    show (if v=tl.toNat then F v - 1 else F v)+(tcI (fun s=>if s<m then T s else tl) m v+(if (if m<m then T m else tl)=(v:Int) then 1 else 0))=k
    rw [tcI_congr (T':=T) v m (fun j hj=>by show (if j<m then T j else tl)=T j;rw [if_pos hj])]
    simp only [Nat.lt_irrefl,if_false]
    by_cases h:v=tl.toNat
    · rw [if_pos h,if_pos (by omega)];omega
    · rw [if_neg h,if_neg (by omega)];omega
theorem con_place {N k nb m l:Nat} {g:Nat→T_Bar} {F T Q:Nat→Int} (hp:PInv N k nb m g F T Q) (hk:k≤1048576) (hl:l≤1048576) (hN:N≤1048576) (hm:m≤1048576) (hnb:nb≤1048576) (e:Nat) (he:e<nb)
    (hsp:Mat.Sparse N k l (plL g Q m)) :
    (∃ F' T',Con Tryz.prog 344 4 (pebH N m F T Q) [brL g nb,.p (.int .i64 l),.pt 3 0 0 0,.p (.int .i64 e)] (pebH2 N (m+1) F' T' (fun s=>if s<m then Q s else e)) (.p (.bool true)) ∧
      PInv N k nb (m+1) g F' T' (fun s=>if s<m then Q s else e)∧Mat.Sparse N k l (plL g Q m++[brN (g e)])) ∨
    (∃ F' T',Con Tryz.prog 344 4 (pebH N m F T Q) [brL g nb,.p (.int .i64 l),.pt 3 0 0 0,.p (.int .i64 e)] (pebH N m F' T' Q) (.p (.bool false))∧¬ Mat.Sparse N k l (plL g Q m++[brN (g e)])):=by
  have hbar:=hp.bars e he
  obtain ⟨F1,T1,r,hc1,h1,h2,h3⟩:=con_gather (l:=l) (a:=(g e).1) (b:=(g e).2.1) hp hk hN hm hnb (by omega) (by omega) (by omega)
  have hlA:=h1.le (v:=(g e).1.toNat) (by omega)
  have hlB:=h1.le (v:=(g e).2.1.toNat) (by omega)
  cases r with
  | false =>
    right
    refine ⟨F1,T1,?_,h3 rfl⟩
    refine con_start Tryz.func344 rfl (by kernel_rfl) rfl (fun c hc=>?_)
    refine path_ok mixed Tryz.func344 hc (pPf g nb N m F T Q F1 T1 l e) ?_
    repeat' (first | exact aN | apply aI)
    all_goals (first | exact aA _ _ | exact aE _ | omega | rfl | (intros;first | assumption | exact trivial | rfl | exact fT ‹_› | ((repeat' (first | assumption | apply anda | apply notf));done)) | (exact hc1) | (intro i hi;simp [All]))
  | true =>
    left
    have hw:=h2 rfl
    have hacc:Mat.Sparse N k l (plL g Q m++[brN (g e)]):=by
      have:=(h1.game l).accept (by rw [barsOf_gm];exact hsp) (g e).1.toNat (g e).2.1.toNat ⟨by show (g e).1.toNat≠(g e).2.1.toNat;omega,by show (g e).1.toNat<N;omega,by show (g e).2.1.toNat<N;omega⟩
        (by show l+1≤(F1 (g e).1.toNat).toNat+(F1 (g e).2.1.toNat).toNat;omega)
      rw [barsOf_gm] at this
      exact this
    by_cases hz:F1 (g e).1.toNat=0
    · have hzb:(F1 (g e).1.toNat==0)=true:=by simp [hz]
      refine ⟨_,_,?_,h1.placed e he (g e).2.1 (.inr rfl) (by omega),hacc⟩
      refine con_start Tryz.func344 rfl (by kernel_rfl) rfl (fun c hc=>?_)
      refine path_ok mixed Tryz.func344 hc (pPb g nb N m F T Q F1 T1 l e) ?_
      repeat' (first | exact aN | apply aI)
      all_goals (first | exact aE _ | omega | rfl | (intros;first | assumption | exact trivial | rfl | exact fT ‹_› | ((repeat' (first | assumption | apply anda | apply notf));done)) | (exact hc1) | (exact hzb) | (intro i hi;simp [All];done) | (intro i hi;by_cases h:i<m<;>simp [h,cvtL,cvt,tg,tru,All];done) | (intro i hi;by_cases h:i=(g e).2.1.toNat<;>simp [h,cvtL,cvt,tg,tru,All]))
    · have hzb:(F1 (g e).1.toNat==0)=false:=by simp [hz]
      refine ⟨_,_,?_,h1.placed e he (g e).1 (.inl rfl) (by omega),hacc⟩
      refine con_start Tryz.func344 rfl (by kernel_rfl) rfl (fun c hc=>?_)
      refine path_ok mixed Tryz.func344 hc (pPa g nb N m F T Q F1 T1 l e) ?_
      repeat' (first | exact aN | apply aI)
      all_goals (first | exact aE _ | omega | rfl | (intros;first | assumption | exact trivial | rfl | exact fT ‹_› | ((repeat' (first | assumption | apply anda | apply notf));done)) | (exact hc1) | (exact hzb) | (intro i hi;simp [All];done) | (intro i hi;by_cases h:i<m<;>simp [h,cvtL,cvt,tg,tru,All];done) | (intro i hi;by_cases h:i=(g e).1.toNat<;>simp [h,cvtL,cvt,tg,tru,All]))
end Go.Proofs.YtkkjoghiigiokaaGreat.Mach
namespace Go.Proofs.YtkkjoghiigiokaaGreat.Mach
open Go
set_option linter.unusedVariables false
set_option linter.unusedSimpArgs false
def inD (n:Nat) (F:Nat→Int):AV:=.p (.seq true 1 n (fun i=>[.int .i64 (F i)]))
def pebO (N m:Nat) (j:Nat):AV:=.agg [.ar 1 j 0 N,.ar 1 ⟨j+1,none⟩ 0 m,.ar 1 ⟨j+2,none⟩ 0 m]
def pebR (N m:Nat) (F T Q:Nat→Int):Hp:=[(0,iOb N F),(1,iOb m T),(2,iOb m Q)]
def SY0 (g:Nat→T_Bar) (nb N k l i:Nat):St :=
  ⟨[.p (.int .i64 N),brL g nb,.p (.int .i64 k),.p (.int .i64 l),.p .any,.p .any,.p .any,.p .any,.pt 3 0 0 0,.pt 3 1 0 0,.p .any,.p .any,.p .any,.p (.int .i64 N),.p (.int .i64 i)]++List.replicate 22 anyA,
   [(0,⟨true,3,1,fun _=>[.p .nil,.p .nil,.p .nil]⟩),(1,⟨true,3,1,fun _=>[.ar 1 2 0 i,.ar 1 3 0 0,.ar 1 4 0 0]⟩),(2,iOb i (fun _=>k)),(3,iOb 0 (fun _=>0)),(4,iOb 0 (fun _=>0))],5⟩
def SY1 (g:Nat→T_Bar) (nb N m k l e:Nat) (F T Q:Nat→Int):St :=
  ⟨[.p (.int .i64 N),brL g nb,.p (.int .i64 k),.p (.int .i64 l),.p .any,.p .any,.p .any,.p .any,.pt 3 0 0 0,.pt 3 1 0 0]++List.replicate 14 anyA++[.p (.int .i64 nb),.p (.int .i64 e)]++List.replicate 11 anyA,
   [(0,⟨true,3,1,fun _=>[.p .nil,.p .nil,.p .nil]⟩),(1,⟨true,3,1,fun _=>[.ar 1 2 0 N,.ar 1 3 0 m,.ar 1 4 0 m]⟩),(2,iOb N F),(3,iOb m T),(4,iOb m Q)],5⟩
theorem pCi (n:Nat) (F:Nat→Int) :
    pathOb Tryz.prog Tryz.f165 0 [rg 1,rg 4] [.code (bodyOf Tryz.f165)] (start Tryz.f165 [] 0 [inD n F]) [96] 1 [(0,iOb n F)] (.ar 1 0 0 n) =
    some [(NL 0 0),(NL ((0+n)*8) 140737488355328),(NL (0+n) 9223372036854775807),(AN 0),(((0+n):Nat)=n),(AN 1),(NL n (0+n)),(AA n (fun i=>[.p (.int .i64 (F i))])),(AE n)]:=by kernel_rfl
theorem pCp (N m m':Nat) (F T Q:Nat→Int) :
    pathOb Tryz.prog Tryz.f343 0 [rg 2,rm [(2,oc [(0,iOb N F)] (.ar 1 0 0 N)),(2,oc [(0,iOb m T)] (.ar 1 0 0 m)),(2,oc [(0,iOb m Q)] (.ar 1 0 0 m))] 2] [.code (bodyOf Tryz.f343)] (start Tryz.f343 [] 0 [.agg [inD N F,inD m T,inD m Q]]) [128,224,320] 1 (pebR N m F T Q) (pebO N m 0) =
    some [(NT 0 1),Con Tryz.prog 165 0 [] [.p (.seq true 1 N (fun i=>[.int .i64 (F i)]))] [(0,⟨false,1,N,(fun i=>[.p (.int .i64 (F i))])⟩)] (.ar 1 0 0 N),(NT 0 1),Con Tryz.prog 165 0 [] [.p (.seq true 1 m (fun i=>[.int .i64 (T i)]))] [(0,⟨false,1,m,(fun i=>[.p (.int .i64 (T i))])⟩)] (.ar 1 0 0 m),(NT 0 1),Con Tryz.prog 165 0 [] [.p (.seq true 1 m (fun i=>[.int .i64 (Q i)]))] [(0,⟨false,1,m,(fun i=>[.p (.int .i64 (Q i))])⟩)] (.ar 1 0 0 m),(NT 0 1),((true=true)→ (AN 1)),(NT 0 1),(AN 0),(AN N),(AN 0),(AN m),(AN 0),(AN m),(AN 1),(NL N N),(AA N (fun i=>[.p (.int .i64 (F i))])),(AN 1),(NL m m),(AA m (fun i=>[.p (.int .i64 (T i))])),(AN 1),(NL m m),(AA m (fun i=>[.p (.int .i64 (Q i))])),(AE N),(AE m),(AE m)]:=by kernel_rfl
theorem pYz (g:Nat→T_Bar) (nb N k l:Nat) :
    pieceOb Tryz.prog 0 [rg 1,rg 3,rg 2,.head] [.code (bodyOf Tryz.f293)] (start Tryz.f293 [] 0 [.p (.int .i64 N),brL g nb,.p (.int .i64 k),.p (.int .i64 l)]) [0,64] 1 (SY0 g nb N k l 0) =
    some (zf61,[(NT 0 1),((true=true)→ (AN 1)),(AI ((↑N:Int))),(AN nb),(AP nb (fun i=>[.int .i64 ((g i).1),.int .i64 ((g i).2.1)])),(AI ((↑k:Int))),(AI ((↑l:Int))),(AN 0),(AN 0),(AI ((↑N:Int))),((0:Int)=(↑0:Int)),((((List.map (fun v=>AV.p (absV v)) [Value.slice none 0 0,Value.slice none 0 0,Value.slice none 0 0]).length):Nat)=3),(NL 1 1),(NL 1 1),((((List.map (fun v=>AV.p (absV v)) [Value.slice none 0 0,Value.slice none 0 0,Value.slice none 0 0]).length):Nat)=3),(NL 1 1),(NL 1 1),(AN 0),(AN 0),(AN 0),(AN 0),(AN 0),(AN 0)]):=by kernel_rfl
theorem pY0 (g:Nat→T_Bar) (nb N k l i:Nat) :
    pieceOb Tryz.prog 0 [rg 1,.dec true,rg 7,rg 2,.head] zf61 (SY0 g nb N k l i) [0,1,165,3,4] 1 (SY0 g nb N k l (i+1)) =
    some (zf61,[((decide ((↑i:Int)<(↑N:Int)))=true),(NT 0 1),(NL 1 1),(NL i i),(NL ((i+1)*8) 140737488355328),(NL (i+1) 9223372036854775807),(NT 0 1),((true=true)→ (AN 1)),(R0 ((↑i:Int)+1)),(R1 ((↑i:Int)+1)),(AI ((↑N:Int))),(AN nb),(AP nb (fun i_1=>[.int .i64 ((g i_1).1),.int .i64 ((g i_1).2.1)])),(AI ((↑k:Int))),(AI ((↑l:Int))),(AN 0),(AN 0),(AI ((↑N:Int))),((((↑i:Int)+1):Int)=(↑(i+1):Int)),(AN 3),(NL 1 1),(NL 1 1),(AN 3),(NL 1 1),(NL 1 1),(AN 0),(AN ((i+1))),(AN 0),(AN 0),(AN 0),(AN 0),(AN 1),(NL (i+1) (i+1)),(CV [(1,⟨true,3,1,(fun i_2=>[.ar 1 165 0 (i+1),.ar 1 3 0 0,.ar 1 4 0 0])⟩),(165,⟨false,1,(i+1),(fun i_2=>(if (i_2<i) then [.p (.int .i64 (↑k:Int))] else [.p (.int .i64 (↑k:Int))]))⟩),(133,⟨false,1,1,(fun i_2=>[.p (.int .i64 (↑k:Int))])⟩),(0,⟨true,3,1,(fun i_2=>[.p (.nil),.p (.nil),.p (.nil)])⟩),(3,⟨false,1,0,(fun i_2=>[.p (.int .i64 0)])⟩),(4,⟨false,1,0,(fun i_2=>[.p (.int .i64 0)])⟩)] [0,1,165,3,4] 1 (i+1) (fun i_1=>if (i_1<i) then [.p (.int .i64 (↑k:Int))] else [.p (.int .i64 (↑k:Int))]) (fun i_1=>[.p (.int .i64 (↑k:Int))])),(AN 1),(NL 0 0),(AA 0 (fun i_1=>[.p (.int .i64 0)])),(AN 1),(NL 0 0),(AA 0 (fun i_1=>[.p (.int .i64 0)]))]):=by kernel_rfl
theorem pY01 (g:Nat→T_Bar) (nb N k l i:Nat) :
    pieceOb Tryz.prog 0 [rg 1,.dec false,rg 3,.head] zf61 (SY0 g nb N k l i) [0,1,2,3,4] 1 (SY1 g nb N 0 k l 0 (fun _=>k) (fun _=>0) (fun _=>0)) =
    some (zf49,[((decide ((↑i:Int)<(↑N:Int)))=false),(AI ((↑N:Int))),(AN nb),(AP nb (fun i_1=>[.int .i64 ((g i_1).1),.int .i64 ((g i_1).2.1)])),(AI ((↑k:Int))),(AI ((↑l:Int))),(AN 0),(AN 0),(AI ((↑nb:Int))),((0:Int)=(↑0:Int)),(AN 3),(NL 1 1),(NL 1 1),(AN 3),(NL 1 1),(NL 1 1),(AN 0),((i:Nat)=N),(AN 0),(AN 0),(AN 0),(AN 0),(AN 1),(NL N i),(AA N (fun i_1=>[.p (.int .i64 (↑k:Int))])),(AN 1),(NL 0 0),(AA 0 (fun i_1=>[.p (.int .i64 0)])),(AN 1),(NL 0 0),(AA 0 (fun i_1=>[.p (.int .i64 0)]))]):=by kernel_rfl
theorem pY1t (g:Nat→T_Bar) (nb N m k l e:Nat) (F T Q F1 T1:Nat→Int) :
    pieceOb Tryz.prog 0 [rg 1,.dec true,rg 2,rm [(1,oc (pebR N m F T Q) (pebO N m 0))] 2,rm [(3,oq [165,133,134,135] (pebH2 N (m+1) F1 T1 (fun s=>if s<m then Q s else e)) (.p (.bool true)))] 0,.dec true,rg 2,rg 2,.head] zf49 (SY1 g nb N m k l e F T Q) [0,1,133,325,326] 1 (SY1 g nb N (m+1) k l (e+1) F1 T1 (fun s=>if s<m then Q s else e)) =
    some (zf49,[((decide ((↑e:Int)<(↑nb:Int)))=true),(NT 0 1),(AN 1),(NL N N),(AN 1),(NL m m),(AN 1),(NL m m),Con Tryz.prog 343 0 [] [(zf62 N F m T Q)] (zf45 N F m T Q) (.agg [.ar 1 0 0 N,.ar 1 1 0 m,.ar 1 2 0 m]),(NT 0 1),((true=true)→ (AN 1)),(AE 1),(AE N),(AE m),(AE m),Con Tryz.prog 344 4 (zf27 N m F T Q) [.p (.seq true 2 nb (fun i=>[.int .i64 ((g i).1),.int .i64 ((g i).2.1)])),.p (.int .i64 (↑l:Int)),.pt 3 0 0 0,.p (.int .i64 (↑e:Int))] [(0,⟨true,3,1,(fun i=>[.ar 1 1 0 N,.ar 1 4 0 (m+1),.ar 1 5 0 (m+1)])⟩),(1,⟨false,1,N,(fun i=>[.p (.int .i64 (F1 i))])⟩),(4,⟨false,1,(m+1),(fun i=>[.p (.int .i64 (T1 i))])⟩),(5,⟨false,1,(m+1),(fun i=>[.p (.int .i64 (if i<m then Q i else (↑e:Int)))])⟩)] (.p (.bool true)),(true=true),(NT 0 1),(NT 0 1),((true=true)→ (AN 1)),(R0 ((↑e:Int)+1)),(R1 ((↑e:Int)+1)),(AI ((↑N:Int))),(AN nb),(AP nb (fun i=>[.int .i64 ((g i).1),.int .i64 ((g i).2.1)])),(AI ((↑k:Int))),(AI ((↑l:Int))),(AN 0),(AN 0),(AI ((↑nb:Int))),((((↑e:Int)+1):Int)=(↑(e+1):Int)),(AN 3),(NL 1 1),(NL 1 1),(AN 3),(NL 1 1),(NL 1 1),(AN 0),(AN N),(AN 0),(AN ((m+1))),(AN 0),(AN ((m+1))),(AN 1),(NL N N),(AA N (fun i=>[.p (.int .i64 (F1 i))])),(AN 1),(NL (m+1) (m+1)),(AA ((m+1)) (fun i=>[.p (.int .i64 (T1 i))])),(AN 1),(NL (m+1) (m+1)),(AA ((m+1)) (fun i=>[.p (.int .i64 (if i<m then Q i else (↑e:Int)))]))]):=by kernel_rfl
theorem pY1f (g:Nat→T_Bar) (nb N m k l e:Nat) (F T Q F1 T1:Nat→Int) :
    pieceOb Tryz.prog 0 [rg 1,.dec true,rg 2,rm [(1,oc (pebR N m F T Q) (pebO N m 0))] 2,rm [(3,oq [165,133,134,135] (pebH N m F1 T1 Q) (.p (.bool false)))] 0,.dec false,rg 2,.head] zf49 (SY1 g nb N m k l e F T Q) [0,1,2,3,4] 1 (SY1 g nb N m k l (e+1) F T Q) =
    some (zf49,[((decide ((↑e:Int)<(↑nb:Int)))=true),(NT 0 1),(AN 1),(NL N N),(AN 1),(NL m m),(AN 1),(NL m m),Con Tryz.prog 343 0 [] [(zf62 N F m T Q)] (zf45 N F m T Q) (.agg [.ar 1 0 0 N,.ar 1 1 0 m,.ar 1 2 0 m]),(NT 0 1),((true=true)→ (AN 1)),(AE 1),(AE N),(AE m),(AE m),Con Tryz.prog 344 4 (zf27 N m F T Q) [.p (.seq true 2 nb (fun i=>[.int .i64 ((g i).1),.int .i64 ((g i).2.1)])),.p (.int .i64 (↑l:Int)),.pt 3 0 0 0,.p (.int .i64 (↑e:Int))] (zf27 N m F1 T1 Q) (.p (.bool false)),(false=false),(R0 ((↑e:Int)+1)),(R1 ((↑e:Int)+1)),(AI ((↑N:Int))),(AN nb),(AP nb (fun i=>[.int .i64 ((g i).1),.int .i64 ((g i).2.1)])),(AI ((↑k:Int))),(AI ((↑l:Int))),(AN 0),(AN 0),(AI ((↑nb:Int))),((((↑e:Int)+1):Int)=(↑(e+1):Int)),(AN 3),(NL 1 1),(NL 1 1),(AN 3),(NL 1 1),(NL 1 1),(AN 0),(AN N),(AN 0),(AN m),(AN 0),(AN m),(AN 1),(NL N N),(AA N (fun i=>[.p (.int .i64 (F i))])),(AN 1),(NL m m),(AA m (fun i=>[.p (.int .i64 (T i))])),(AN 1),(NL m m),(AA m (fun i=>[.p (.int .i64 (Q i))]))]):=by kernel_rfl
theorem pY2 (g:Nat→T_Bar) (nb N m k l e:Nat) (F T Q:Nat→Int) :
    pathOb Tryz.prog Tryz.f293 0 [rg 1,.dec false,rg 2] zf49 (SY1 g nb N m k l e F T Q) [2,3,4] 1 (pebR N m F T Q) (pebO N m 0) =
    some [((decide ((↑e:Int)<(↑nb:Int)))=false),(NT 0 1),(NT 0 1),((true=true)→ (AN 1)),(NT 0 1),(AN 0),(AN N),(AN 0),(AN m),(AN 0),(AN m),(AN 1),(NL N N),(AA N (fun i=>[.p (.int .i64 (F i))])),(AN 1),(NL m m),(AA m (fun i=>[.p (.int .i64 (T i))])),(AN 1),(NL m m),(AA m (fun i=>[.p (.int .i64 (Q i))])),(AE N),(AE m),(AE m)]:=by kernel_rfl
theorem con_copyInts (n:Nat) (F:Nat→Int) (hn:n≤1048576):Con Tryz.prog 165 0 [] [inD n F] [(0,iOb n F)] (.ar 1 0 0 n):=by
  refine con_start Tryz.func165 rfl (by kernel_rfl) rfl (fun c hc=>?_)
  refine path_ok mixed Tryz.func165 hc (pCi n F) ?_
  repeat' (first | exact aN | apply aI)
  all_goals (first | exact aA _ _ | exact aE _ | omega | rfl | (intros;first | assumption | exact trivial | rfl | exact fT ‹_› | ((repeat' (first | assumption | apply anda | apply notf));done)) | (intro i hi;simp [All]))
theorem con_copyPebbles (N m:Nat) (F T Q:Nat→Int) (hN:N≤1048576) (hm:m≤1048576):Con Tryz.prog 343 0 [] [.agg [inD N F,inD m T,inD m Q]] (pebR N m F T Q) (pebO N m 0):=by
  refine con_start Tryz.func343 rfl (by kernel_rfl) rfl (fun c hc=>?_)
  refine path_ok mixed Tryz.func343 hc (pCp N m m F T Q) ?_
  repeat' (first | exact aN | apply aI)
  all_goals (first | exact aA _ _ | exact aE _ | omega | rfl | (intros;first | assumption | exact trivial | rfl | exact fT ‹_› | ((repeat' (first | assumption | apply anda | apply notf));done)) | (exact con_copyInts N F hN) | (exact con_copyInts m T hm) | (exact con_copyInts m Q hm) | (intro i hi;simp [All]))
open Classical in
noncomputable def accI (N k l:Nat) (g:Nat→T_Bar):Nat→List Nat
  | 0=>[]
  | e+1=>if Mat.Sparse N k l ((accI N k l g e).map (fun i=>brN (g i))++[brN (g e)]) then accI N k l g e++[e] else accI N k l g e
theorem accI_sparse (N k l:Nat) (g:Nat→T_Bar):∀ e,Mat.Sparse N k l ((accI N k l g e).map (fun i=>brN (g i)))
  | 0=>Mat.sparse_nil N k l
  | e+1=>by
    simp only [accI]
    split
    · rename_i h;rw [List.map_append];exact h
    · exact accI_sparse N k l g e
def qL (Q:Nat→Int):Nat→List Nat
  | 0=>[]
  | m+1=>qL Q m++[(Q m).toNat]
theorem qL_length (Q:Nat→Int):∀ m,(qL Q m).length=m
  | 0=>rfl
  | m+1=>by simp [qL,qL_length Q m]
theorem qL_congr {Q Q':Nat→Int}:∀ m,(∀ j,j<m→Q j=Q' j)→qL Q m=qL Q' m
  | 0,_=>rfl
  | m+1,h=>by simp only [qL];rw [qL_congr m (fun j hj=>h j (by omega)),h m (by omega)]
theorem plL_qL (g:Nat→T_Bar) (Q:Nat→Int):∀ m,plL g Q m=(qL Q m).map (fun i=>brN (g i))
  | 0=>rfl
  | m+1=>by simp only [plL,qL,plL_qL g Q m,List.map_append,List.map_cons,List.map_nil]
theorem accI_len (N k l:Nat) (g:Nat→T_Bar):∀ e,(accI N k l g e).length≤e
  | 0=>Nat.le_refl _
  | e+1=>by
    have:=accI_len N k l g e
    simp only [accI]
    split
    · simp;omega
    · omega
theorem PInv.start {N k nb:Nat} {g:Nat→T_Bar} (hb:∀ e,e<nb→0≤(g e).1∧(g e).1<(g e).2.1∧(g e).2.1<N):PInv N k nb 0 g (fun _=>(k:Int)) (fun _=>0) (fun _=>0) :=
  ⟨hb,fun j hj=>absurd hj (Nat.not_lt_zero _),fun j hj=>absurd hj (Nat.not_lt_zero _),fun v _=>by show (0:Int)≤k;omega,fun v _=>by show (k:Int)+0=k;omega⟩
theorem con_play {N k l nb:Nat} {g:Nat→T_Bar} (hb:∀ e,e<nb→0≤(g e).1∧(g e).1<(g e).2.1∧(g e).2.1<N) (hk:k≤1048576) (hl:l≤1048576) (hN:N≤1048576) (hnb:nb≤1048576) :
    ∃ m F T Q,Con Tryz.prog 293 0 [] [.p (.int .i64 N),brL g nb,.p (.int .i64 k),.p (.int .i64 l)] (pebR N m F T Q) (pebO N m 0)∧PInv N k nb m g F T Q∧qL Q m=accI N k l g nb:=by
  have lp1:∀ d e m F T Q,e+d=nb→PInv N k nb m g F T Q→qL Q m=accI N k l g e →
      ∃ m' F' T' Q',(∀ c,c.n=0→Run Tryz.prog c 293 zf49 (SY1 g nb N m k l e F T Q) (Post c (pebR N m' F' T' Q') (pebO N m' 0)))∧PInv N k nb m' g F' T' Q'∧qL Q' m'=accI N k l g nb:=by
    intro d
    induction d with
    | zero =>
      intro e m F T Q he hp hq
      obtain rfl:e=nb:=by omega
      refine ⟨m,F,T,Q,fun c hc=>?_,hp,hq⟩
      have hd:decide ((e:Int)<(e:Int))=false:=by simp
      refine path_ok mixed Tryz.func293 hc (pY2 g e N m k l e F T Q) ?_
      repeat' (first | exact aN | apply aI)
      all_goals (first | exact aA _ _ | exact aE _ | omega | rfl | (intros;first | assumption | exact trivial | rfl | exact fT ‹_› | ((repeat' (first | assumption | apply anda | apply notf));done)) | (intro i hi;simp [All]))
    | succ d ih =>
      intro e m F T Q he hp hq
      have hd:decide ((e:Int)<(nb:Int))=true:=by simp;omega
      have hm:m≤1048576:=by
        have:=accI_len N k l g e
        rw [← hq,qL_length] at this
        omega
      have hsp:Mat.Sparse N k l (plL g Q m):=by rw [plL_qL,hq];exact accI_sparse N k l g e
      have hcc:=con_copyPebbles N m F T Q hN hm
      rcases con_place hp hk hl hN hm hnb e (by omega) hsp with ⟨F1,T1,hc1,hp1,hs1⟩ | ⟨F1,T1,hc1,hs1⟩
      · obtain ⟨m',F',T',Q',hrun,h1,h2⟩:=ih (e+1) (m+1) F1 T1 _ (by omega) hp1 (by
          simp only [accI]
          rw [← hq,← plL_qL,if_pos hs1]
          simp only [qL,Nat.lt_irrefl,if_false,Int.toNat_natCast]
          rw [qL_congr (Q':=Q) m (fun j hj=>by simp only [hj,if_true])])
        refine ⟨m',F',T',Q',fun c hc=>?_,h1,h2⟩
        refine piece_ok mixed hc (pY1t g nb N m k l e F T Q F1 T1) ?_ (hrun c hc)
        repeat' (first | exact aN | apply aI)
        all_goals (first | exact aP _ _ | exact aA _ _ | exact aE _ | omega | rfl | (intros;first | assumption | exact trivial | rfl | exact fT ‹_› | ((repeat' (first | assumption | apply anda | apply notf));done)) | (exact hcc) | (exact hc1) | (intro i hi;simp [All]))
      · obtain ⟨m',F',T',Q',hrun,h1,h2⟩:=ih (e+1) m F T Q (by omega) hp (by
          simp only [accI]
          rw [← hq,← plL_qL,if_neg hs1])
        refine ⟨m',F',T',Q',fun c hc=>?_,h1,h2⟩
        refine piece_ok mixed hc (pY1f g nb N m k l e F T Q F1 T1) ?_ (hrun c hc)
        repeat' (first | exact aN | apply aI)
        all_goals (first | exact aP _ _ | exact aA _ _ | exact aE _ | omega | rfl | (intros;first | assumption | exact trivial | rfl | exact fT ‹_› | ((repeat' (first | assumption | apply anda | apply notf));done)) | (exact hcc) | (exact hc1) | (intro i hi;simp [All]))
  obtain ⟨m',F',T',Q',hrun,h1,h2⟩:=lp1 nb 0 0 _ _ _ (by omega) (PInv.start hb) rfl
  refine ⟨m',F',T',Q',?_,h1,h2⟩
  refine con_start Tryz.func293 rfl (by kernel_rfl) rfl (fun c hc=>?_)
  have lp0:∀ d i,i+d=N→Run Tryz.prog c 293 zf61 (SY0 g nb N k l i) (Post c (pebR N m' F' T' Q') (pebO N m' 0)):=by
    intro d
    induction d with
    | zero =>
      intro i hi
      obtain rfl:i=N:=by omega
      have hd:decide ((i:Int)<(i:Int))=false:=by simp
      refine piece_ok mixed hc (pY01 g nb i k l i) ?_ (hrun c hc)
      repeat' (first | exact aN | apply aI)
      all_goals (first | exact aP _ _ | exact aA _ _ | omega | rfl | (intros;first | assumption | exact trivial | rfl | exact fT ‹_› | ((repeat' (first | assumption | apply anda | apply notf));done)) | (intro i hi;simp [All]))
    | succ d ih =>
      intro i hi
      have hd:decide ((i:Int)<(N:Int))=true:=by simp;omega
      refine piece_ok mixed hc (pY0 g nb N k l i) ?_ (ih (i+1) (by omega))
      repeat' (first | exact aN | apply aI)
      all_goals (first | exact aP _ _ | exact aA _ _ | omega | rfl | (intros;first | assumption | exact trivial | rfl | exact fT ‹_› | ((repeat' (first | assumption | apply anda | apply notf));done)) | (intro j hj;simp [All];done) | (intro j hj;by_cases h:j<i<;>simp [h,cvtL,cvt,tg,tru,All]))
  refine piece_ok mixed hc (pYz g nb N k l) ?_ (lp0 N 0 (by omega))
  repeat' (first | exact aN | apply aI)
  all_goals (first | exact aP _ _ | omega | rfl | (intros;first | assumption | exact trivial | rfl | exact fT ‹_› | ((repeat' (first | assumption | apply anda | apply notf));done)) | (intro i hi;simp [All]))
end Go.Proofs.YtkkjoghiigiokaaGreat.Mach
namespace Go.Proofs.YtkkjoghiigiokaaGreat.Mach
open Go
set_option linter.unusedVariables false
set_option linter.unusedSimpArgs false
def grG (g:Nat→T_Bar) (nb N:Nat):AV:=.agg [.p (.int .i64 N),brL g nb]
def bxG (g:Nat→T_Bar) (nb N:Nat):Ob:=⟨true,2,1,fun _=>[.p (.int .i64 N),brL g nb]⟩
def bx0:Ob:=⟨true,3,1,fun _=>[.p .nil,.p .nil,.p .nil]⟩
def bxP (N m j:Nat):Ob:=⟨true,3,1,fun _=>[.ar 1 j 0 N,.ar 1 ⟨j+1,none⟩ 0 m,.ar 1 ⟨j+2,none⟩ 0 m]⟩
def bxD (N m:Nat) (F T Q:Nat→Int):Ob:=⟨true,3,1,fun _=>[inD N F,inD m T,inD m Q]⟩
def pebD (N m:Nat) (F T Q:Nat→Int):AV:=.agg [inD N F,inD m T,inD m Q]
def bOb (n:Nat) (S:Nat→Bool):Ob:=⟨false,1,n,fun i=>[.p (.bool (S i))]⟩
def SSc (g:Nat→T_Bar) (nb N m:Nat) (F T Q FR F1 T1:Nat→Int) (a u:Int):St :=
  ⟨[grG g nb N,pebD N m F T Q,inD N FR,.p (.int .i64 a),.p (.int .i64 u),.pt 2 0 0 0,.pt 3 1 0 0,.p .any,.p .any,.p .any,.pt 3 2 0 0,.pt 3 3 0 0]++List.replicate 51 anyA,
   [(0,bxG g nb N),(1,bxD N m F T Q),(2,bx0),(3,bxP N m 4),(4,iOb N F1),(5,iOb m T1),(6,iOb m Q)],7⟩
def SSl (g:Nat→T_Bar) (nb N m:Nat) (F T Q FR F1 T1:Nat→Int) (a u at':Int):St :=
  ⟨[grG g nb N,pebD N m F T Q,inD N FR,.p (.int .i64 a),.p (.int .i64 u),.pt 2 0 0 0,.pt 3 1 0 0,.p .any,.p .any,.p .any,.pt 3 2 0 0,.pt 3 3 0 0,.p (.int .i64 at')]++List.replicate 50 anyA,
   [(0,bxG g nb N),(1,bxD N m F T Q),(2,bx0),(3,bxP N m 4),(4,iOb N F1),(5,iOb m T1),(6,iOb m Q)],7⟩
def SF0 (g:Nat→T_Bar) (nb N m:Nat) (F T Q:Nat→Int) (a b:Int) (i:Nat):St :=
  ⟨[grG g nb N,pebO N m 0,.p (.int .i64 a),.p (.int .i64 b),.pt 2 3 0 0,.pt 3 4 0 0,.p .any,.p .any,.pt 3 5 0 0,.p .any,.ar 1 6 0 N,.p (.int .i64 i)]++List.replicate 94 anyA,
   [(0,iOb N F),(1,iOb m T),(2,iOb m Q),(3,bxG g nb N),(4,bxP N m 0),(5,bx0),(6,iOb N (fun s=>if s<i then -1 else 0))],7⟩
def SF1 (g:Nat→T_Bar) (nb N m:Nat) (F T Q td FR:Nat→Int) (SN:Nat→Bool) (a b:Int) (i tn:Nat):St :=
  ⟨[grG g nb N,pebO N m 0,.p (.int .i64 a),.p (.int .i64 b),.pt 2 3 0 0,.pt 3 4 0 0,.p .any,.p .any,.pt 3 5 0 0,.p .any,.ar 1 6 0 N,.p .any,.ar 1 8 0 tn,.ar 1 7 0 N,.p (.int .i64 i)]++List.replicate 91 anyA,
   [(0,iOb N F),(1,iOb m T),(2,iOb m Q),(3,bxG g nb N),(4,bxP N m 0),(5,bx0),(6,iOb N FR),(7,bOb N SN),(8,iOb tn td)],9⟩
def SF2 (g:Nat→T_Bar) (nb N m:Nat) (F T Q td FR:Nat→Int) (SN:Nat→Bool) (a b v:Int) (i j tn:Nat):St :=
  ⟨[grG g nb N,pebO N m 0,.p (.int .i64 a),.p (.int .i64 b),.pt 2 3 0 0,.pt 3 4 0 0,.p .any,.p .any,.pt 3 5 0 0,.p .any,.ar 1 6 0 N,.p .any,.ar 1 8 0 tn,.ar 1 7 0 N,.p (.int .i64 i),.p (.int .i64 v),.p (.int .i64 j)]++List.replicate 89 anyA,
   [(0,iOb N F),(1,iOb m T),(2,iOb m Q),(3,bxG g nb N),(4,bxP N m 0),(5,bx0),(6,iOb N FR),(7,bOb N SN),(8,iOb tn td)],9⟩
def SF3 (g:Nat→T_Bar) (nb N m:Nat) (F T Q FR:Nat→Int) (a b u:Int):St :=
  ⟨[grG g nb N,pebO N m 0,.p (.int .i64 a),.p (.int .i64 b),.pt 2 3 0 0,.pt 3 4 0 0,.p .any,.p .any,.pt 3 5 0 0,.p .any,.ar 1 6 0 N,.p .any,.p .any,.p .any,.p .any,.p .any,.p .any,.p (.int .i64 u)]++List.replicate 88 anyA,
   [(0,iOb N F),(1,iOb m T),(2,iOb m Q),(3,bxG g nb N),(4,bxP N m 0),(5,bx0),(6,iOb N FR)],7⟩
def pebR3 (N m:Nat) (F T Q F' T' Q':Nat→Int):Hp:=[(0,iOb N F),(1,iOb m T),(2,iOb m Q),(3,iOb N F'),(4,iOb m T'),(5,iOb m Q')]
theorem qOt (x:T_Bar) (v:Int) :
    pathOb Tryz.prog Tryz.f324 0 [rg 2,rg 8] [.code (bodyOf Tryz.f324)] (start Tryz.f324 [] 0 [brA x,.p (.int .i64 v)]) [] 1 [] (.p (.int .i64 (x.1+x.2.1 - v))) =
    some [(NT 0 1),(NT 0 1),(R0 (x.1+x.2.1)),(R1 (x.1+x.2.1)),(R0 (x.1+x.2.1 - v)),(R1 (x.1+x.2.1 - v)),(AI ((x.1+x.2.1 - v)))]:=by kernel_rfl
theorem qCp (N m:Nat) (F T Q:Nat→Int) :
    pathOb Tryz.prog Tryz.f340 0 [rg 2,rg 14] [.code (bodyOf Tryz.f340)] (start Tryz.f340 [] 0 [pebD N m F T Q]) [160,288,416] 1 (pebR N m F T Q) (pebO N m 0) =
    some [(NT 0 1),(NL 0 0),(NL ((0+N)*8) 140737488355328),(NL (0+N) 9223372036854775807),(NT 0 1),(NL 0 0),(NL ((0+m)*8) 140737488355328),(NL (0+m) 9223372036854775807),(NT 0 1),(NL 0 0),(NL ((0+m)*8) 140737488355328),(NL (0+m) 9223372036854775807),(NT 0 1),((true=true)→ (AN 1)),(NT 0 1),(AN 0),(((0+N):Nat)=N),(AN 0),(((0+m):Nat)=m),(AN 0),(((0+m):Nat)=m),(AN 1),(NL N (0+N)),(AA N (fun i=>[.p (.int .i64 (F i))])),(AN 1),(NL m (0+m)),(AA m (fun i=>[.p (.int .i64 (T i))])),(AN 1),(NL m (0+m)),(AA m (fun i=>[.p (.int .i64 (Q i))])),(AE N),(AE m),(AE m)]:=by kernel_rfl
theorem qSz (g:Nat→T_Bar) (nb N m:Nat) (F T Q FR:Nat→Int) (a u:Int) :
    pieceOb Tryz.prog 0 [rg 3,rm [(1,oc (pebR N m F T Q) (pebO N m 0))] 2,rg 11,.head] [.code (bodyOf Tryz.f407)] (start Tryz.f407 [] 0 [grG g nb N,pebD N m F T Q,inD N FR,.p (.int .i64 a),.p (.int .i64 u)]) [0,32,64,160,128,129,130] 1 (SSc g nb N m F T Q FR (fun s=>if s=u.toNat then F s - 1 else F s) T a u) =
    some ([.code (cAt (bodyOf Tryz.f407) [1,1,1,0]),.code (cAt (bodyOf Tryz.f407) [1,1,1,1])],[(NT 0 1),Con Tryz.prog 340 0 [] [(zf62 N F m T Q)] (zf45 N F m T Q) (.agg [.ar 1 0 0 N,.ar 1 1 0 m,.ar 1 2 0 m]),(NT 0 1),((true=true)→ (AN 1)),(NT 0 1),(NT 0 1),(IL 0 u),(IT u (↑N:Int)),(NT u.toNat N),(R0 (F u.toNat - 1)),(R1 (F u.toNat - 1)),(IL 0 u),(IT u (↑N:Int)),(NT u.toNat N),((false=true)→ ((N:Nat)=1)),(AI ((↑N:Int))),(AN nb),(AP nb (fun i=>[.int .i64 ((g i).1),.int .i64 ((g i).2.1)])),(AN N),(AP N (fun i=>[.int .i64 (F i)])),(AN m),(AP m (fun i=>[.int .i64 (T i)])),(AN m),(AP m (fun i=>[.int .i64 (Q i)])),(AN N),(AP N (fun i=>[.int .i64 (FR i)])),(AI a),(AI u),(AN 0),(AN 0),(AN 0),(AN 0),((([AV.p (PV.int IntKind.i64 (↑N:Int)),brL g nb].length):Nat)=2),(NL 1 1),(NL 1 1),(AI ((↑N:Int))),(AN nb),(AP nb (fun i=>[.int .i64 ((g i).1),.int .i64 ((g i).2.1)])),((([inD N F,inD m T,inD m Q].length):Nat)=3),(NL 1 1),(NL 1 1),(AN N),(AP N (fun i=>[.int .i64 (F i)])),(AN m),(AP m (fun i=>[.int .i64 (T i)])),(AN m),(AP m (fun i=>[.int .i64 (Q i)])),((((List.map (fun v=>AV.p (absV v)) [Value.slice none 0 0,Value.slice none 0 0,Value.slice none 0 0]).length):Nat)=3),(NL 1 1),(NL 1 1),((((List.map (fun v=>AV.p (absV v)) [Value.slice none 0 0,Value.slice none 0 0,Value.slice none 0 0]).length):Nat)=3),(NL 1 1),(NL 1 1),(AN 0),(AN N),(AN 0),(AN m),(AN 0),(AN m),(AN 1),(NL N N),(CV [(128,⟨false,1,N,(fun i_1=>(if (i_1=u.toNat) then [.p (.int .i64 (F u.toNat - 1))] else [.p (.int .i64 (F i_1))]))⟩),(160,⟨true,3,1,(fun i_1=>[.ar 1 128 0 N,.ar 1 129 0 m,.ar 1 130 0 m])⟩),(130,⟨false,1,m,(fun i_1=>[.p (.int .i64 (Q i_1))])⟩),(129,⟨false,1,m,(fun i_1=>[.p (.int .i64 (T i_1))])⟩),(64,⟨true,3,1,(fun i_1=>[.p (.nil),.p (.nil),.p (.nil)])⟩),(32,⟨true,3,1,(fun i_1=>[.p (.seq true 1 N (fun i_2=>[.int .i64 (F i_2)])),.p (.seq true 1 m (fun i_2=>[.int .i64 (T i_2)])),.p (.seq true 1 m (fun i_2=>[.int .i64 (Q i_2)]))])⟩),(0,⟨true,2,1,(fun i_1=>[.p (.int .i64 (↑N:Int)),.p (.seq true 2 nb (fun i_2=>[.int .i64 ((g i_2).1),.int .i64 ((g i_2).2.1)]))])⟩)] [0,32,64,160,128,129,130] 1 N (fun i=>if (i=u.toNat) then [.p (.int .i64 (F u.toNat - 1))] else [.p (.int .i64 (F i))]) (fun i=>[.p (.int .i64 (if i=u.toNat then F i - 1 else F i))])),(AN 1),(NL m m),(AA m (fun i=>[.p (.int .i64 (T i))])),(AN 1),(NL m m),(AA m (fun i=>[.p (.int .i64 (Q i))]))]):=by kernel_rfl
theorem qSa (g:Nat→T_Bar) (nb N m:Nat) (F T Q FR F1 T1:Nat→Int) (a u:Int) :
    pieceOb Tryz.prog 0 [rg 11,rg 2,.head] [.code (cAt (bodyOf Tryz.f407) [1,1,1,0]),.code (cAt (bodyOf Tryz.f407) [1,1,1,1])] (SSc g nb N m F T Q FR F1 T1 a u) [0,1,2,3,4,5,6] 1 (SSl g nb N m F T Q FR (fun s=>if s=a.toNat then F1 s+1 else F1 s) T1 a u u) =
    some (zf42,[(NT 0 1),(NT 0 1),(IL 0 a),(IT a (↑N:Int)),(NT a.toNat N),(R0 (F1 a.toNat+1)),(R1 (F1 a.toNat+1)),(IL 0 a),(IT a (↑N:Int)),(NT a.toNat N),((false=true)→ ((N:Nat)=1)),(AI ((↑N:Int))),(AN nb),(AP nb (fun i=>[.int .i64 ((g i).1),.int .i64 ((g i).2.1)])),(AN N),(AP N (fun i=>[.int .i64 (F i)])),(AN m),(AP m (fun i=>[.int .i64 (T i)])),(AN m),(AP m (fun i=>[.int .i64 (Q i)])),(AN N),(AP N (fun i=>[.int .i64 (FR i)])),(AI a),(AI u),(AN 0),(AN 0),(AN 0),(AN 0),(AI u),(AN 2),(NL 1 1),(NL 1 1),(AI ((↑N:Int))),(AN nb),(AP nb (fun i=>[.int .i64 ((g i).1),.int .i64 ((g i).2.1)])),(AN 3),(NL 1 1),(NL 1 1),(AN N),(AP N (fun i=>[.int .i64 (F i)])),(AN m),(AP m (fun i=>[.int .i64 (T i)])),(AN m),(AP m (fun i=>[.int .i64 (Q i)])),(AN 3),(NL 1 1),(NL 1 1),(AN 3),(NL 1 1),(NL 1 1),(AN 0),(AN N),(AN 0),(AN m),(AN 0),(AN m),(AN 1),(NL N N),(CV [(4,⟨false,1,N,(fun i_1=>(if (i_1=a.toNat) then [.p (.int .i64 (F1 a.toNat+1))] else [.p (.int .i64 (F1 i_1))]))⟩),(0,⟨true,2,1,(fun i_1=>[.p (.int .i64 (↑N:Int)),.p (.seq true 2 nb (fun i_2=>[.int .i64 ((g i_2).1),.int .i64 ((g i_2).2.1)]))])⟩),(1,⟨true,3,1,(fun i_1=>[.p (.seq true 1 N (fun i_2=>[.int .i64 (F i_2)])),.p (.seq true 1 m (fun i_2=>[.int .i64 (T i_2)])),.p (.seq true 1 m (fun i_2=>[.int .i64 (Q i_2)]))])⟩),(2,⟨true,3,1,(fun i_1=>[.p (.nil),.p (.nil),.p (.nil)])⟩),(3,⟨true,3,1,(fun i_1=>[.ar 1 4 0 N,.ar 1 5 0 m,.ar 1 6 0 m])⟩),(5,⟨false,1,m,(fun i_1=>[.p (.int .i64 (T1 i_1))])⟩),(6,⟨false,1,m,(fun i_1=>[.p (.int .i64 (Q i_1))])⟩)] [0,1,2,3,4,5,6] 1 N (fun i=>if (i=a.toNat) then [.p (.int .i64 (F1 a.toNat+1))] else [.p (.int .i64 (F1 i))]) (fun i=>[.p (.int .i64 (if i=a.toNat then F1 i+1 else F1 i))])),(AN 1),(NL m m),(AA m (fun i=>[.p (.int .i64 (T1 i))])),(AN 1),(NL m m),(AA m (fun i=>[.p (.int .i64 (Q i))]))]):=by kernel_rfl
theorem qSl (g:Nat→T_Bar) (nb N m:Nat) (F T Q FR F1 T1:Nat→Int) (a u at' w:Int) :
    pieceOb Tryz.prog 0 [rg 3,.dec true,rg 5,rm [(10,oc [] (.p (.int .i64 w)))] 1,rg 6,rg 2,.head] zf42 (SSl g nb N m F T Q FR F1 T1 a u at') [0,1,2,3,4,5,6] 1 (SSl g nb N m F T Q FR F1 (fun s=>if s=(FR at'.toNat).toNat then at' else T1 s) a u w) =
    some (zf42,[((at' != a)=true),(IL 0 (at')),(IT (at') (↑N:Int)),(NT 0 1),(NT 0 1),(IL 0 (FR at'.toNat)),(IT (FR at'.toNat) (↑m:Int)),(IL 0 (Q (FR at'.toNat).toNat)),(IT (Q (FR at'.toNat).toNat) (↑nb:Int)),Con Tryz.prog 324 0 [] [.agg [.p (.int .i64 ((g (Q (FR at'.toNat).toNat).toNat).1)),.p (.int .i64 ((g (Q (FR at'.toNat).toNat).toNat).2.1))],.p (.int .i64 at')] [] (.p (.int .i64 w)),(NT 0 1),(IL 0 (FR at'.toNat)),(IT (FR at'.toNat) (↑m:Int)),(NT ((FR at'.toNat).toNat) m),((false=true)→ ((m:Nat)=1)),(AI ((↑N:Int))),(AN nb),(AP nb (fun i=>[.int .i64 ((g i).1),.int .i64 ((g i).2.1)])),(AN N),(AP N (fun i=>[.int .i64 (F i)])),(AN m),(AP m (fun i=>[.int .i64 (T i)])),(AN m),(AP m (fun i=>[.int .i64 (Q i)])),(AN N),(AP N (fun i=>[.int .i64 (FR i)])),(AI a),(AI u),(AN 0),(AN 0),(AN 0),(AN 0),(AI w),(AN 2),(NL 1 1),(NL 1 1),(AI ((↑N:Int))),(AN nb),(AP nb (fun i=>[.int .i64 ((g i).1),.int .i64 ((g i).2.1)])),(AN 3),(NL 1 1),(NL 1 1),(AN N),(AP N (fun i=>[.int .i64 (F i)])),(AN m),(AP m (fun i=>[.int .i64 (T i)])),(AN m),(AP m (fun i=>[.int .i64 (Q i)])),(AN 3),(NL 1 1),(NL 1 1),(AN 3),(NL 1 1),(NL 1 1),(AN 0),(AN N),(AN 0),(AN m),(AN 0),(AN m),(AN 1),(NL N N),(AA N (fun i=>[.p (.int .i64 (F1 i))])),(AN 1),(NL m m),(CV [(5,⟨false,1,m,(fun i_1=>(if (i_1=(FR at'.toNat).toNat) then [.p (.int .i64 at')] else [.p (.int .i64 (T1 i_1))]))⟩),(0,⟨true,2,1,(fun i_1=>[.p (.int .i64 (↑N:Int)),.p (.seq true 2 nb (fun i_2=>[.int .i64 ((g i_2).1),.int .i64 ((g i_2).2.1)]))])⟩),(1,⟨true,3,1,(fun i_1=>[.p (.seq true 1 N (fun i_2=>[.int .i64 (F i_2)])),.p (.seq true 1 m (fun i_2=>[.int .i64 (T i_2)])),.p (.seq true 1 m (fun i_2=>[.int .i64 (Q i_2)]))])⟩),(2,⟨true,3,1,(fun i_1=>[.p (.nil),.p (.nil),.p (.nil)])⟩),(3,⟨true,3,1,(fun i_1=>[.ar 1 4 0 N,.ar 1 5 0 m,.ar 1 6 0 m])⟩),(4,⟨false,1,N,(fun i_1=>[.p (.int .i64 (F1 i_1))])⟩),(6,⟨false,1,m,(fun i_1=>[.p (.int .i64 (Q i_1))])⟩)] [0,1,2,3,4,5,6] 1 m (fun i=>if (i=(FR at'.toNat).toNat) then [.p (.int .i64 at')] else [.p (.int .i64 (T1 i))]) (fun i=>[.p (.int .i64 (if i=(FR at'.toNat).toNat then at' else T1 i))])),(AN 1),(NL m m),(AA m (fun i=>[.p (.int .i64 (Q i))]))]):=by kernel_rfl
theorem qSe (g:Nat→T_Bar) (nb N m:Nat) (F T Q FR F1 T1:Nat→Int) (a u at':Int) :
    pathOb Tryz.prog Tryz.f407 0 [rg 3,.dec false,rg 2] zf42 (SSl g nb N m F T Q FR F1 T1 a u at') [4,5,6] 1 (pebR N m F1 T1 Q) (pebO N m 0) =
    some [((at' != a)=false),(NT 0 1),(NT 0 1),((true=true)→ (AN 1)),(NT 0 1),(AN 0),(AN N),(AN 0),(AN m),(AN 0),(AN m),(AN 1),(NL N N),(AA N (fun i=>[.p (.int .i64 (F1 i))])),(AN 1),(NL m m),(AA m (fun i=>[.p (.int .i64 (T1 i))])),(AN 1),(NL m m),(AA m (fun i=>[.p (.int .i64 (Q i))])),(AE N),(AE m),(AE m)]:=by kernel_rfl
theorem qFz (g:Nat→T_Bar) (nb N m:Nat) (F T Q:Nat→Int) (a b:Int) :
    pieceOb Tryz.prog 3 [rg 4,rg 4,rg 1,.head] [.code (bodyOf Tryz.f377)] (start Tryz.f377 (pebR N m F T Q) 3 [grG g nb N,pebO N m 0,.p (.int .i64 a),.p (.int .i64 b)]) [0,1,2,3,35,67,195] 1 (SF0 g nb N m F T Q a b 0) =
    some (zf63,[(NT 0 1),(IL 0 (↑N:Int)),(IL (↑N:Int) (↑N:Int)),(IL ((↑N:Int)*(↑8:Int)) 281474976710656),(R1 (↑N:Int)),(AI ((↑N:Int))),(AN nb),(AP nb (fun i=>[.int .i64 ((g i).1),.int .i64 ((g i).2.1)])),(AN 0),(AN N),(AN 0),(AN m),(AN 0),(AN m),(AI a),(AI b),(AN 0),(AN 0),(AN 0),(AN 0),(AN N),((0:Int)=(↑0:Int)),(AN 1),(NL N N),(AA N (fun i=>[.p (.int .i64 (F i))])),(AN 1),(NL m m),(AA m (fun i=>[.p (.int .i64 (T i))])),(AN 1),(NL m m),(AA m (fun i=>[.p (.int .i64 (Q i))])),((([AV.p (PV.int IntKind.i64 (↑N:Int)),brL g nb].length):Nat)=2),(NL 1 1),(NL 1 1),(AI ((↑N:Int))),(AN nb),(AP nb (fun i=>[.int .i64 ((g i).1),.int .i64 ((g i).2.1)])),((([AV.ar 1 (Id.mk 0 none) 0 N,AV.ar 1 (Id.mk 1 none) 0 m,AV.ar 1 (Id.mk 2 none) 0 m].length):Nat)=3),(NL 1 1),(NL 1 1),(AN 0),(AN N),(AN 0),(AN m),(AN 0),(AN m),((((List.map (fun v=>AV.p (absV v)) [Value.slice none 0 0,Value.slice none 0 0,Value.slice none 0 0]).length):Nat)=3),(NL 1 1),(NL 1 1),(AN 1),(NL N N),(∀ i:Nat,(((i:Nat)<N)→(All []∧(([.p (.int .i64 0)]:List AV)=[.p (.int .i64 (if i<0 then -1 else 0))]))))]):=by kernel_rfl
theorem qF0 (g:Nat→T_Bar) (nb N m:Nat) (F T Q:Nat→Int) (a b:Int) (i:Nat) :
    pieceOb Tryz.prog 3 [rg 4,.dec true,rg 4,rg 3,.head] zf63 (SF0 g nb N m F T Q a b i) [0,1,2,3,4,5,6] 1 (SF0 g nb N m F T Q a b (i+1)) =
    some (zf63,[(NT 0 1),((decide ((↑i:Int)<(↑N:Int)))=true),(IL 0 (↑i:Int)),(IT (↑i:Int) (↑N:Int)),(NT i N),((false=true)→ ((N:Nat)=1)),(R0 ((↑i:Int)+1)),(R1 ((↑i:Int)+1)),(AI ((↑N:Int))),(AN nb),(AP nb (fun i_1=>[.int .i64 ((g i_1).1),.int .i64 ((g i_1).2.1)])),(AN 0),(AN N),(AN 0),(AN m),(AN 0),(AN m),(AI a),(AI b),(AN 0),(AN 0),(AN 0),(AN 0),(AN N),((((↑i:Int)+1):Int)=(↑(i+1):Int)),(AN 1),(NL N N),(AA N (fun i_1=>[.p (.int .i64 (F i_1))])),(AN 1),(NL m m),(AA m (fun i_1=>[.p (.int .i64 (T i_1))])),(AN 1),(NL m m),(AA m (fun i_1=>[.p (.int .i64 (Q i_1))])),(AN 2),(NL 1 1),(NL 1 1),(AI ((↑N:Int))),(AN nb),(AP nb (fun i_1=>[.int .i64 ((g i_1).1),.int .i64 ((g i_1).2.1)])),(AN 3),(NL 1 1),(NL 1 1),(AN 0),(AN N),(AN 0),(AN m),(AN 0),(AN m),(AN 3),(NL 1 1),(NL 1 1),(AN 1),(NL N N),(CV [(6,⟨false,1,N,(fun i_2=>(if (i_2=i) then [.p (.int .i64 (-1))] else [.p (.int .i64 (if i_2<i then -1 else 0))]))⟩),(0,⟨false,1,N,(fun i_2=>[.p (.int .i64 (F i_2))])⟩),(1,⟨false,1,m,(fun i_2=>[.p (.int .i64 (T i_2))])⟩),(2,⟨false,1,m,(fun i_2=>[.p (.int .i64 (Q i_2))])⟩),(3,⟨true,2,1,(fun i_2=>[.p (.int .i64 (↑N:Int)),.p (.seq true 2 nb (fun i_3=>[.int .i64 ((g i_3).1),.int .i64 ((g i_3).2.1)]))])⟩),(4,⟨true,3,1,(fun i_2=>[.ar 1 0 0 N,.ar 1 1 0 m,.ar 1 2 0 m])⟩),(5,⟨true,3,1,(fun i_2=>[.p (.nil),.p (.nil),.p (.nil)])⟩)] [0,1,2,3,4,5,6] 1 N (fun i_1=>if (i_1=i) then [.p (.int .i64 (-1))] else [.p (.int .i64 (if i_1<i then -1 else 0))]) (fun i_1=>[.p (.int .i64 (if i_1<i+1 then -1 else 0))]))]):=by kernel_rfl
theorem qF01 (g:Nat→T_Bar) (nb N m:Nat) (F T Q:Nat→Int) (a b:Int) (i:Nat) :
    pieceOb Tryz.prog 3 [rg 4,.dec false,rg 3,rg 4,rg 4,rg 1,.head] zf63 (SF0 g nb N m F T Q a b i) [0,1,2,3,4,5,6,295,167] 1 (SF1 g nb N m F T Q (fun _=>a) (fun _=>-1) (fun s=>if s=a.toNat then true else false) a b 0 1) =
    some (zf38,[(NT 0 1),((decide ((↑i:Int)<(↑N:Int)))=false),(NT 0 1),(IL 0 (↑N:Int)),(IL (↑N:Int) (↑N:Int)),(IL ((↑N:Int)*(↑1:Int)) 281474976710656),(R1 (↑N:Int)),(IL 0 a),(IT a (↑N:Int)),(NT a.toNat N),((false=true)→ ((N:Nat)=1)),(AI ((↑N:Int))),(AN nb),(AP nb (fun i_1=>[.int .i64 ((g i_1).1),.int .i64 ((g i_1).2.1)])),(AN 0),(AN N),(AN 0),(AN m),(AN 0),(AN m),(AI a),(AI b),(AN 0),(AN 0),(AN 0),(AN 0),(AN N),(AN 0),(AN 1),(AN 0),(AN N),((0:Int)=(↑0:Int)),(AN 1),(NL N N),(AA N (fun i_1=>[.p (.int .i64 (F i_1))])),(AN 1),(NL m m),(AA m (fun i_1=>[.p (.int .i64 (T i_1))])),(AN 1),(NL m m),(AA m (fun i_1=>[.p (.int .i64 (Q i_1))])),(AN 2),(NL 1 1),(NL 1 1),(AI ((↑N:Int))),(AN nb),(AP nb (fun i_1=>[.int .i64 ((g i_1).1),.int .i64 ((g i_1).2.1)])),(AN 3),(NL 1 1),(NL 1 1),(AN 0),(AN N),(AN 0),(AN m),(AN 0),(AN m),(AN 3),(NL 1 1),(NL 1 1),(AN 1),(NL N N),(∀ i_1:Nat,(((i_1:Nat)<N)→(All []∧(([.p (.int .i64 (if i_1<i then -1 else 0))]:List AV)=[.p (.int .i64 (-1))])))),(AN 1),(NL N N),(CV [(295,⟨false,1,N,(fun i_2=>(if (i_2=a.toNat) then [.p (.bool true)] else [.p (.bool false)]))⟩),(167,⟨false,1,1,(fun i_2=>[.p (.int .i64 a)])⟩),(0,⟨false,1,N,(fun i_2=>[.p (.int .i64 (F i_2))])⟩),(1,⟨false,1,m,(fun i_2=>[.p (.int .i64 (T i_2))])⟩),(2,⟨false,1,m,(fun i_2=>[.p (.int .i64 (Q i_2))])⟩),(3,⟨true,2,1,(fun i_2=>[.p (.int .i64 (↑N:Int)),.p (.seq true 2 nb (fun i_3=>[.int .i64 ((g i_3).1),.int .i64 ((g i_3).2.1)]))])⟩),(4,⟨true,3,1,(fun i_2=>[.ar 1 0 0 N,.ar 1 1 0 m,.ar 1 2 0 m])⟩),(5,⟨true,3,1,(fun i_2=>[.p (.nil),.p (.nil),.p (.nil)])⟩),(6,⟨false,1,N,(fun i_2=>[.p (.int .i64 (if i_2<i then -1 else 0))])⟩)] [0,1,2,3,4,5,6,295,167] 1 N (fun i_1=>if (i_1=a.toNat) then [.p (.bool true)] else [.p (.bool false)]) (fun i_1=>[.p (.bool (if i_1=a.toNat then true else false))])),(AN 1),(NL 1 1),(AA 1 (fun i_1=>[.p (.int .i64 a)]))]):=by kernel_rfl
theorem qF1 (g:Nat→T_Bar) (nb N m:Nat) (F T Q td FR:Nat→Int) (SN:Nat→Bool) (a b:Int) (i tn:Nat) :
    pieceOb Tryz.prog 3 [rg 4,.dec true,rg 5,rg 1,.head] zf38 (SF1 g nb N m F T Q td FR SN a b i tn) [0,1,2,3,4,5,6,7,8] 1 (SF2 g nb N m F T Q td FR SN a b (td i) i 0 tn) =
    some (zf14,[((decide ((↑i:Int)<(↑tn:Int)))=true),(IL 0 (↑i:Int)),(IT (↑i:Int) (↑tn:Int)),(NT i tn),(AI ((↑N:Int))),(AN nb),(AP nb (fun i_1=>[.int .i64 ((g i_1).1),.int .i64 ((g i_1).2.1)])),(AN 0),(AN N),(AN 0),(AN m),(AN 0),(AN m),(AI a),(AI b),(AN 0),(AN 0),(AN 0),(AN 0),(AN N),(AN 0),(AN tn),(AN 0),(AN N),(AI ((↑i:Int))),(AI ((td i))),((0:Int)=(↑0:Int)),(AN 1),(NL N N),(AA N (fun i_1=>[.p (.int .i64 (F i_1))])),(AN 1),(NL m m),(AA m (fun i_1=>[.p (.int .i64 (T i_1))])),(AN 1),(NL m m),(AA m (fun i_1=>[.p (.int .i64 (Q i_1))])),(AN 2),(NL 1 1),(NL 1 1),(AI ((↑N:Int))),(AN nb),(AP nb (fun i_1=>[.int .i64 ((g i_1).1),.int .i64 ((g i_1).2.1)])),(AN 3),(NL 1 1),(NL 1 1),(AN 0),(AN N),(AN 0),(AN m),(AN 0),(AN m),(AN 3),(NL 1 1),(NL 1 1),(AN 1),(NL N N),(AA N (fun i_1=>[.p (.int .i64 (FR i_1))])),(AN 1),(NL N N),(AA N (fun i_1=>[.p (.bool (SN i_1))])),(AN 1),(NL tn tn),(AA tn (fun i_1=>[.p (.int .i64 (td i_1))]))]):=by kernel_rfl
theorem qF1e (g:Nat→T_Bar) (nb N m:Nat) (F T Q td FR:Nat→Int) (SN:Nat→Bool) (a b:Int) (i tn:Nat) :
    pathOb Tryz.prog Tryz.f377 3 [rg 4,.dec false,rg 3] zf38 (SF1 g nb N m F T Q td FR SN a b i tn) [0,1,2] 1 (pebR N m F T Q) (.tup [pebO N m 0,.p (.bool false)]) =
    some [((decide ((↑i:Int)<(↑tn:Int)))=false),(NT 0 1),(NT 0 1),((true=true)→ (AN 1)),(NT 0 1),(AN 0),(AN N),(AN 0),(AN m),(AN 0),(AN m),(false=false),(AN 1),(NL N N),(AA N (fun i_1=>[.p (.int .i64 (F i_1))])),(AN 1),(NL m m),(AA m (fun i_1=>[.p (.int .i64 (T i_1))])),(AN 1),(NL m m),(AA m (fun i_1=>[.p (.int .i64 (Q i_1))])),(AE N),(AE m),(AE m)]:=by kernel_rfl
theorem qF2e (g:Nat→T_Bar) (nb N m:Nat) (F T Q td FR:Nat→Int) (SN:Nat→Bool) (a b v:Int) (i j tn:Nat) :
    pieceOb Tryz.prog 3 [rg 5,.dec false,rg 3,.head] zf14 (SF2 g nb N m F T Q td FR SN a b v i j tn) [0,1,2,3,4,5,6,7,8] 1 (SF1 g nb N m F T Q td FR SN a b (i+1) tn) =
    some (zf38,[(NT 0 1),((decide ((↑j:Int)<(↑m:Int)))=false),(R0 ((↑i:Int)+1)),(R1 ((↑i:Int)+1)),(AI ((↑N:Int))),(AN nb),(AP nb (fun i_1=>[.int .i64 ((g i_1).1),.int .i64 ((g i_1).2.1)])),(AN 0),(AN N),(AN 0),(AN m),(AN 0),(AN m),(AI a),(AI b),(AN 0),(AN 0),(AN 0),(AN 0),(AN N),(AN 0),(AN tn),(AN 0),(AN N),((((↑i:Int)+1):Int)=(↑(i+1):Int)),(AN 1),(NL N N),(AA N (fun i_1=>[.p (.int .i64 (F i_1))])),(AN 1),(NL m m),(AA m (fun i_1=>[.p (.int .i64 (T i_1))])),(AN 1),(NL m m),(AA m (fun i_1=>[.p (.int .i64 (Q i_1))])),(AN 2),(NL 1 1),(NL 1 1),(AI ((↑N:Int))),(AN nb),(AP nb (fun i_1=>[.int .i64 ((g i_1).1),.int .i64 ((g i_1).2.1)])),(AN 3),(NL 1 1),(NL 1 1),(AN 0),(AN N),(AN 0),(AN m),(AN 0),(AN m),(AN 3),(NL 1 1),(NL 1 1),(AN 1),(NL N N),(AA N (fun i_1=>[.p (.int .i64 (FR i_1))])),(AN 1),(NL N N),(AA N (fun i_1=>[.p (.bool (SN i_1))])),(AN 1),(NL tn tn),(AA tn (fun i_1=>[.p (.int .i64 (td i_1))]))]):=by kernel_rfl
theorem qF2a (g:Nat→T_Bar) (nb N m:Nat) (F T Q td FR:Nat→Int) (SN:Nat→Bool) (a b v:Int) (i j tn:Nat) :
    pieceOb Tryz.prog 3 [rg 5,.dec true,rg 7,.dec true,rg 3,.head] zf14 (SF2 g nb N m F T Q td FR SN a b v i j tn) [0,1,2,3,4,5,6,7,8] 1 (SF2 g nb N m F T Q td FR SN a b v i (j+1) tn) =
    some (zf14,[(NT 0 1),((decide ((↑j:Int)<(↑m:Int)))=true),(NT 0 1),(IL 0 (↑j:Int)),(IT (↑j:Int) (↑m:Int)),(NT j m),((T j != v)=true),(R0 ((↑j:Int)+1)),(R1 ((↑j:Int)+1)),(AI ((↑N:Int))),(AN nb),(AP nb (fun i_1=>[.int .i64 ((g i_1).1),.int .i64 ((g i_1).2.1)])),(AN 0),(AN N),(AN 0),(AN m),(AN 0),(AN m),(AI a),(AI b),(AN 0),(AN 0),(AN 0),(AN 0),(AN N),(AN 0),(AN tn),(AN 0),(AN N),(AI ((↑i:Int))),(AI v),((((↑j:Int)+1):Int)=(↑(j+1):Int)),(AN 1),(NL N N),(AA N (fun i_1=>[.p (.int .i64 (F i_1))])),(AN 1),(NL m m),(AA m (fun i_1=>[.p (.int .i64 (T i_1))])),(AN 1),(NL m m),(AA m (fun i_1=>[.p (.int .i64 (Q i_1))])),(AN 2),(NL 1 1),(NL 1 1),(AI ((↑N:Int))),(AN nb),(AP nb (fun i_1=>[.int .i64 ((g i_1).1),.int .i64 ((g i_1).2.1)])),(AN 3),(NL 1 1),(NL 1 1),(AN 0),(AN N),(AN 0),(AN m),(AN 0),(AN m),(AN 3),(NL 1 1),(NL 1 1),(AN 1),(NL N N),(AA N (fun i_1=>[.p (.int .i64 (FR i_1))])),(AN 1),(NL N N),(AA N (fun i_1=>[.p (.bool (SN i_1))])),(AN 1),(NL tn tn),(AA tn (fun i_1=>[.p (.int .i64 (td i_1))]))]):=by kernel_rfl
theorem qF2b (g:Nat→T_Bar) (nb N m:Nat) (F T Q td FR:Nat→Int) (SN:Nat→Bool) (a b v u:Int) (i j tn:Nat) :
    pieceOb Tryz.prog 3 [rg 5,.dec true,rg 7,.dec false,rm [(10,oc [] (.p (.int .i64 u)))] 1,rg 4,.dec true,rg 3,.head] zf14 (SF2 g nb N m F T Q td FR SN a b v i j tn) [0,1,2,3,4,5,6,7,8] 1 (SF2 g nb N m F T Q td FR SN a b v i (j+1) tn) =
    some (zf14,[(NT 0 1),((decide ((↑j:Int)<(↑m:Int)))=true),(NT 0 1),(IL 0 (↑j:Int)),(IT (↑j:Int) (↑m:Int)),(NT j m),((T j != v)=false),(NT 0 1),(NT 0 1),(IL 0 (↑j:Int)),(IT (↑j:Int) (↑m:Int)),(NT j m),(IL 0 (Q j)),(IT (Q j) (↑nb:Int)),Con Tryz.prog 324 0 [] [(zf120 g Q j),.p (.int .i64 v)] [] (.p (.int .i64 u)),(IL 0 u),(IT u (↑N:Int)),(NT u.toNat N),((SN u.toNat)=true),(R0 ((↑j:Int)+1)),(R1 ((↑j:Int)+1)),(AI ((↑N:Int))),(AN nb),(AP nb (fun i_1=>[.int .i64 ((g i_1).1),.int .i64 ((g i_1).2.1)])),(AN 0),(AN N),(AN 0),(AN m),(AN 0),(AN m),(AI a),(AI b),(AN 0),(AN 0),(AN 0),(AN 0),(AN N),(AN 0),(AN tn),(AN 0),(AN N),(AI ((↑i:Int))),(AI v),((((↑j:Int)+1):Int)=(↑(j+1):Int)),(AN 1),(NL N N),(AA N (fun i_1=>[.p (.int .i64 (F i_1))])),(AN 1),(NL m m),(AA m (fun i_1=>[.p (.int .i64 (T i_1))])),(AN 1),(NL m m),(AA m (fun i_1=>[.p (.int .i64 (Q i_1))])),(AN 2),(NL 1 1),(NL 1 1),(AI ((↑N:Int))),(AN nb),(AP nb (fun i_1=>[.int .i64 ((g i_1).1),.int .i64 ((g i_1).2.1)])),(AN 3),(NL 1 1),(NL 1 1),(AN 0),(AN N),(AN 0),(AN m),(AN 0),(AN m),(AN 3),(NL 1 1),(NL 1 1),(AN 1),(NL N N),(AA N (fun i_1=>[.p (.int .i64 (FR i_1))])),(AN 1),(NL N N),(AA N (fun i_1=>[.p (.bool (SN i_1))])),(AN 1),(NL tn tn),(AA tn (fun i_1=>[.p (.int .i64 (td i_1))]))]):=by kernel_rfl
theorem qF2c (g:Nat→T_Bar) (nb N m:Nat) (F T Q td FR:Nat→Int) (SN:Nat→Bool) (a b v u:Int) (i j tn:Nat) :
    pieceOb Tryz.prog 3 [rg 5,.dec true,rg 7,.dec false,rm [(10,oc [] (.p (.int .i64 u)))] 1,rg 4,.dec false,rg 4,rg 5,rg 11,.dec false,rg 5,rg 3,.head] zf14 (SF2 g nb N m F T Q td FR SN a b v i j tn) [0,1,2,3,4,5,6,7,1641] 1 (SF2 g nb N m F T Q (fun s=>if s<tn then td s else u) (fun s=>if s=u.toNat then j else FR s) (fun s=>if s=u.toNat then true else SN s) a b v i (j+1) (tn+1)) =
    some (zf14,[(NT 0 1),((decide ((↑j:Int)<(↑m:Int)))=true),(NT 0 1),(IL 0 (↑j:Int)),(IT (↑j:Int) (↑m:Int)),(NT j m),((T j != v)=false),(NT 0 1),(NT 0 1),(IL 0 (↑j:Int)),(IT (↑j:Int) (↑m:Int)),(NT j m),(IL 0 (Q j)),(IT (Q j) (↑nb:Int)),Con Tryz.prog 324 0 [] [(zf120 g Q j),.p (.int .i64 v)] [] (.p (.int .i64 u)),(IL 0 u),(IT u (↑N:Int)),(NT u.toNat N),((SN u.toNat)=false),(IL 0 u),(IT u (↑N:Int)),(NT u.toNat N),((false=true)→ ((N:Nat)=1)),(IL 0 u),(IT u (↑N:Int)),(NT u.toNat N),((false=true)→ ((N:Nat)=1)),(AG (u != b)),(((u != b)=true)→(NT 0 1)),(AG (u != b)),(AG (u != b)),(((u != b)=true)→(IL 0 u)),(((u != b)=true)→(IT u (↑N:Int))),(AG (u != b)),(((u != b)=true)→(NT u.toNat N)),(AG (u != b)),(AG (u != b)),((bif u != b then decide (F (u.toNat+0)>0) else false)=false),(NL 1 1),(NL tn tn),(NL ((tn+1)*8) 140737488355328),(NL (tn+1) 9223372036854775807),(R0 ((↑j:Int)+1)),(R1 ((↑j:Int)+1)),(AI ((↑N:Int))),(AN nb),(AP nb (fun i_1=>[.int .i64 ((g i_1).1),.int .i64 ((g i_1).2.1)])),(AN 0),(AN N),(AN 0),(AN m),(AN 0),(AN m),(AI a),(AI b),(AN 0),(AN 0),(AN 0),(AN 0),(AN N),(AN 0),(AN ((tn+1))),(AN 0),(AN N),(AI ((↑i:Int))),(AI v),((((↑j:Int)+1):Int)=(↑(j+1):Int)),(AN 1),(NL N N),(AA N (fun i_1=>[.p (.int .i64 (F i_1))])),(AN 1),(NL m m),(AA m (fun i_1=>[.p (.int .i64 (T i_1))])),(AN 1),(NL m m),(AA m (fun i_1=>[.p (.int .i64 (Q i_1))])),(AN 2),(NL 1 1),(NL 1 1),(AI ((↑N:Int))),(AN nb),(AP nb (fun i_1=>[.int .i64 ((g i_1).1),.int .i64 ((g i_1).2.1)])),(AN 3),(NL 1 1),(NL 1 1),(AN 0),(AN N),(AN 0),(AN m),(AN 0),(AN m),(AN 3),(NL 1 1),(NL 1 1),(AN 1),(NL N N),(CV [(1641,⟨false,1,(tn+1),(fun i_2=>(if (i_2<tn) then [.p (.int .i64 (td i_2))] else [.p (.int .i64 u)]))⟩),(1609,⟨false,1,1,(fun i_2=>[.p (.int .i64 u)])⟩),(6,⟨false,1,N,(fun i_2=>(if (i_2=u.toNat) then [.p (.int .i64 (↑j:Int))] else [.p (.int .i64 (FR i_2))]))⟩),(7,⟨false,1,N,(fun i_2=>(if (i_2=u.toNat) then [.p (.bool true)] else [.p (.bool (SN i_2))]))⟩),(0,⟨false,1,N,(fun i_2=>[.p (.int .i64 (F i_2))])⟩),(1,⟨false,1,m,(fun i_2=>[.p (.int .i64 (T i_2))])⟩),(2,⟨false,1,m,(fun i_2=>[.p (.int .i64 (Q i_2))])⟩),(3,⟨true,2,1,(fun i_2=>[.p (.int .i64 (↑N:Int)),.p (.seq true 2 nb (fun i_3=>[.int .i64 ((g i_3).1),.int .i64 ((g i_3).2.1)]))])⟩),(4,⟨true,3,1,(fun i_2=>[.ar 1 0 0 N,.ar 1 1 0 m,.ar 1 2 0 m])⟩),(5,⟨true,3,1,(fun i_2=>[.p (.nil),.p (.nil),.p (.nil)])⟩)] [0,1,2,3,4,5,6,7,1641] 1 N (fun i_1=>if (i_1=u.toNat) then [.p (.int .i64 (↑j:Int))] else [.p (.int .i64 (FR i_1))]) (fun i_1=>[.p (.int .i64 (if i_1=u.toNat then (↑j:Int) else FR i_1))])),(AN 1),(NL N N),(CV [(1641,⟨false,1,(tn+1),(fun i_2=>(if (i_2<tn) then [.p (.int .i64 (td i_2))] else [.p (.int .i64 u)]))⟩),(1609,⟨false,1,1,(fun i_2=>[.p (.int .i64 u)])⟩),(6,⟨false,1,N,(fun i_2=>(if (i_2=u.toNat) then [.p (.int .i64 (↑j:Int))] else [.p (.int .i64 (FR i_2))]))⟩),(7,⟨false,1,N,(fun i_2=>(if (i_2=u.toNat) then [.p (.bool true)] else [.p (.bool (SN i_2))]))⟩),(0,⟨false,1,N,(fun i_2=>[.p (.int .i64 (F i_2))])⟩),(1,⟨false,1,m,(fun i_2=>[.p (.int .i64 (T i_2))])⟩),(2,⟨false,1,m,(fun i_2=>[.p (.int .i64 (Q i_2))])⟩),(3,⟨true,2,1,(fun i_2=>[.p (.int .i64 (↑N:Int)),.p (.seq true 2 nb (fun i_3=>[.int .i64 ((g i_3).1),.int .i64 ((g i_3).2.1)]))])⟩),(4,⟨true,3,1,(fun i_2=>[.ar 1 0 0 N,.ar 1 1 0 m,.ar 1 2 0 m])⟩),(5,⟨true,3,1,(fun i_2=>[.p (.nil),.p (.nil),.p (.nil)])⟩)] [0,1,2,3,4,5,6,7,1641] 1 N (fun i_1=>if (i_1=u.toNat) then [.p (.bool true)] else [.p (.bool (SN i_1))]) (fun i_1=>[.p (.bool (if i_1=u.toNat then true else SN i_1))])),(AN 1),(NL (tn+1) (tn+1)),(CV [(1641,⟨false,1,(tn+1),(fun i_2=>(if (i_2<tn) then [.p (.int .i64 (td i_2))] else [.p (.int .i64 u)]))⟩),(1609,⟨false,1,1,(fun i_2=>[.p (.int .i64 u)])⟩),(6,⟨false,1,N,(fun i_2=>(if (i_2=u.toNat) then [.p (.int .i64 (↑j:Int))] else [.p (.int .i64 (FR i_2))]))⟩),(7,⟨false,1,N,(fun i_2=>(if (i_2=u.toNat) then [.p (.bool true)] else [.p (.bool (SN i_2))]))⟩),(0,⟨false,1,N,(fun i_2=>[.p (.int .i64 (F i_2))])⟩),(1,⟨false,1,m,(fun i_2=>[.p (.int .i64 (T i_2))])⟩),(2,⟨false,1,m,(fun i_2=>[.p (.int .i64 (Q i_2))])⟩),(3,⟨true,2,1,(fun i_2=>[.p (.int .i64 (↑N:Int)),.p (.seq true 2 nb (fun i_3=>[.int .i64 ((g i_3).1),.int .i64 ((g i_3).2.1)]))])⟩),(4,⟨true,3,1,(fun i_2=>[.ar 1 0 0 N,.ar 1 1 0 m,.ar 1 2 0 m])⟩),(5,⟨true,3,1,(fun i_2=>[.p (.nil),.p (.nil),.p (.nil)])⟩)] [0,1,2,3,4,5,6,7,1641] 1 (tn+1) (fun i_1=>if (i_1<tn) then [.p (.int .i64 (td i_1))] else [.p (.int .i64 u)]) (fun i_1=>[.p (.int .i64 (if i_1<tn then td i_1 else u))]))]):=by kernel_rfl
theorem qF2d (g:Nat→T_Bar) (nb N m:Nat) (F T Q td FR:Nat→Int) (SN:Nat→Bool) (a b v u:Int) (i j tn:Nat) :
    pieceOb Tryz.prog 3 [rg 5,.dec true,rg 7,.dec false,rm [(10,oc [] (.p (.int .i64 u)))] 1,rg 4,.dec false,rg 4,rg 5,rg 11,.dec true,.head] zf14 (SF2 g nb N m F T Q td FR SN a b v i j tn) [0,1,2,3,4,5,6] 1 (SF3 g nb N m F T Q (fun s=>if s=u.toNat then j else FR s) a b u) =
    some (zf6,[(NT 0 1),((decide ((↑j:Int)<(↑m:Int)))=true),(NT 0 1),(IL 0 (↑j:Int)),(IT (↑j:Int) (↑m:Int)),(NT j m),((T j != v)=false),(NT 0 1),(NT 0 1),(IL 0 (↑j:Int)),(IT (↑j:Int) (↑m:Int)),(NT j m),(IL 0 (Q j)),(IT (Q j) (↑nb:Int)),Con Tryz.prog 324 0 [] [(zf120 g Q j),.p (.int .i64 v)] [] (.p (.int .i64 u)),(IL 0 u),(IT u (↑N:Int)),(NT u.toNat N),((SN u.toNat)=false),(IL 0 u),(IT u (↑N:Int)),(NT u.toNat N),((false=true)→ ((N:Nat)=1)),(IL 0 u),(IT u (↑N:Int)),(NT u.toNat N),((false=true)→ ((N:Nat)=1)),(AG (u != b)),(((u != b)=true)→(NT 0 1)),(AG (u != b)),(AG (u != b)),(((u != b)=true)→(IL 0 u)),(((u != b)=true)→(IT u (↑N:Int))),(AG (u != b)),(((u != b)=true)→(NT u.toNat N)),(AG (u != b)),(AG (u != b)),((bif u != b then decide (F (u.toNat+0)>0) else false)=true),(AI ((↑N:Int))),(AN nb),(AP nb (fun i_1=>[.int .i64 ((g i_1).1),.int .i64 ((g i_1).2.1)])),(AN 0),(AN N),(AN 0),(AN m),(AN 0),(AN m),(AI a),(AI b),(AN 0),(AN 0),(AN 0),(AN 0),(AN N),(AI u),(AN 1),(NL N N),(AA N (fun i_1=>[.p (.int .i64 (F i_1))])),(AN 1),(NL m m),(AA m (fun i_1=>[.p (.int .i64 (T i_1))])),(AN 1),(NL m m),(AA m (fun i_1=>[.p (.int .i64 (Q i_1))])),(AN 2),(NL 1 1),(NL 1 1),(AI ((↑N:Int))),(AN nb),(AP nb (fun i_1=>[.int .i64 ((g i_1).1),.int .i64 ((g i_1).2.1)])),(AN 3),(NL 1 1),(NL 1 1),(AN 0),(AN N),(AN 0),(AN m),(AN 0),(AN m),(AN 3),(NL 1 1),(NL 1 1),(AN 1),(NL N N),(CV [(6,⟨false,1,N,(fun i_2=>(if (i_2=u.toNat) then [.p (.int .i64 (↑j:Int))] else [.p (.int .i64 (FR i_2))]))⟩),(7,⟨false,1,N,(fun i_2=>(if (i_2=u.toNat) then [.p (.bool true)] else [.p (.bool (SN i_2))]))⟩),(0,⟨false,1,N,(fun i_2=>[.p (.int .i64 (F i_2))])⟩),(1,⟨false,1,m,(fun i_2=>[.p (.int .i64 (T i_2))])⟩),(2,⟨false,1,m,(fun i_2=>[.p (.int .i64 (Q i_2))])⟩),(3,⟨true,2,1,(fun i_2=>[.p (.int .i64 (↑N:Int)),.p (.seq true 2 nb (fun i_3=>[.int .i64 ((g i_3).1),.int .i64 ((g i_3).2.1)]))])⟩),(4,⟨true,3,1,(fun i_2=>[.ar 1 0 0 N,.ar 1 1 0 m,.ar 1 2 0 m])⟩),(5,⟨true,3,1,(fun i_2=>[.p (.nil),.p (.nil),.p (.nil)])⟩),(8,⟨false,1,tn,(fun i_2=>[.p (.int .i64 (td i_2))])⟩)] [0,1,2,3,4,5,6] 1 N (fun i_1=>if (i_1=u.toNat) then [.p (.int .i64 (↑j:Int))] else [.p (.int .i64 (FR i_1))]) (fun i_1=>[.p (.int .i64 (if i_1=u.toNat then (↑j:Int) else FR i_1))]))]):=by kernel_rfl
theorem qF3 (g:Nat→T_Bar) (nb N m:Nat) (F T Q FR F1 T1:Nat→Int) (a b u:Int) :
    pathOb Tryz.prog Tryz.f377 3 [rm [(5,oc (pebR N m F1 T1 Q) (pebO N m 0))] 2] zf6 (SF3 g nb N m F T Q FR a b u) [0,1,2,167,168,169] 1 (pebR3 N m F T Q F1 T1 Q) (.tup [pebO N m 3,.p (.bool true)]) =
    some [(NT 0 1),(NT 0 1),(AN 1),(NL N N),(AN 1),(NL m m),(AN 1),(NL m m),(AN 1),(NL N N),Con Tryz.prog 407 0 [] [(zf110 N nb g),(zf62 N F m T Q),.p (.seq true 1 N (fun i=>[.int .i64 (FR i)])),.p (.int .i64 a),.p (.int .i64 u)] (zf45 N F1 m T1 Q) (.agg [.ar 1 0 0 N,.ar 1 1 0 m,.ar 1 2 0 m]),(NT 0 1),((true=true)→ (AN 1)),(NT 0 1),(AN 0),(AN N),(AN 0),(AN m),(AN 0),(AN m),(true=true),(AN 1),(NL N N),(AA N (fun i=>[.p (.int .i64 (F i))])),(AN 1),(NL m m),(AA m (fun i=>[.p (.int .i64 (T i))])),(AN 1),(NL m m),(AA m (fun i=>[.p (.int .i64 (Q i))])),(AN 1),(NL N N),(AA N (fun i=>[.p (.int .i64 (F1 i))])),(AN 1),(NL m m),(AA m (fun i=>[.p (.int .i64 (T1 i))])),(AN 1),(NL m m),(AA m (fun i=>[.p (.int .i64 (Q i))])),(AE N),(AE m),(AE m),(AE N),(AE m),(AE m)]:=by kernel_rfl
end Go.Proofs.YtkkjoghiigiokaaGreat.Mach
namespace Go.Proofs.YtkkjoghiigiokaaGreat.Mach
open Go
set_option linter.unusedVariables false
set_option linter.unusedSimpArgs false
theorem con_l4Other (x:T_Bar) (v:Int) (h1:0≤x.1∧x.1≤1048576) (h2:0≤x.2.1∧x.2.1≤1048576) (h3:0≤v∧v≤1048576):Con Tryz.prog 324 0 [] [brA x,.p (.int .i64 v)] [] (.p (.int .i64 (x.1+x.2.1 - v))):=by
  refine con_start Tryz.func324 rfl (by kernel_rfl) rfl (fun c hc=>?_)
  refine path_ok mixed Tryz.func324 hc (qOt x v) ?_
  repeat' (first | exact aN | apply aI)
  all_goals (first | omega | rfl | (intros;first | assumption | exact trivial | rfl | exact fT ‹_› | ((repeat' (first | assumption | apply anda | apply notf));done)) | simp)
theorem con_l4Copy (N m:Nat) (F T Q:Nat→Int) (hN:N≤1048576) (hm:m≤1048576):Con Tryz.prog 340 0 [] [pebD N m F T Q] (pebR N m F T Q) (pebO N m 0):=by
  refine con_start Tryz.func340 rfl (by kernel_rfl) rfl (fun c hc=>?_)
  refine path_ok mixed Tryz.func340 hc (qCp N m F T Q) ?_
  repeat' (first | exact aN | apply aI)
  all_goals (first | exact aA _ _ | exact aE _ | omega | rfl | (intros;first | assumption | exact trivial | rfl | exact fT ‹_› | ((repeat' (first | assumption | apply anda | apply notf));done)) | (intro i hi;simp [All]))
theorem oth_sum {x:T_Bar} {y z:Int} (h:y=x.1∨y=x.2.1) (hz:othF x y=z):x.1+x.2.1 - z=y∧x.1+x.2.1 - y=z:=by
  unfold othF at hz
  by_cases e:x.1=y
  · rw [if_pos e] at hz;omega
  · rw [if_neg e] at hz
    rcases h with h | h
    · exact absurd h.symm e
    · omega
theorem run_shift {N nb m:Nat} {g:Nat→T_Bar} {F F0 F1 T Q td FR:Nat→Int} {a b u:Int} {tn:Nat} (h:BInv N m g F T Q td (fun s=>FR (td s).toNat) a b tn) (hN:N≤1048576) (hm:m≤1048576) (hnb:nb≤1048576)
    (hq:∀ j,j<m→0≤Q j∧Q j<nb) (hbar:∀ e,e<nb→0≤(g e).1∧(g e).1<(g e).2.1∧(g e).2.1<N) (hT:∀ j,j<m→T j=(g (Q j).toNat).1∨T j=(g (Q j).toNat).2.1) :
    ∀ s,s<tn→∀ T':Nat→Int,TInv m g T Q td (fun s=>FR (td s).toNat) T' u s→∃ T'' s',(∀ c,c.n=0→Run Tryz.prog c 407 zf42 (SSl g nb N m F0 T Q FR F1 T' a u (td s)) (Post c (pebR N m F1 T'' Q) (pebO N m 0))) ∧
      TInv m g T Q td (fun s=>FR (td s).toNat) T'' u s'∧td s'=a:=by
  intro s
  induction s using Nat.strongRecOn with
  | ind s ih =>
    intro hs T' ht
    by_cases he:td s=a
    · refine ⟨T',s,fun c hc=>?_,ht,he⟩
      have hb:(td s != a)=false:=by simp [he]
      refine path_ok mixed Tryz.func407 hc (qSe g nb N m F0 T Q FR F1 T' a u (td s)) ?_
      repeat' (first | exact aN | apply aI)
      all_goals (first | exact aA _ _ | exact aE _ | omega | rfl | (intros;first | assumption | exact trivial | rfl | exact fT ‹_› | ((repeat' (first | assumption | apply anda | apply notf));done)) | (exact hb) | (intro i hi;simp [All]))
    · have hs1:1≤s:=by
        cases s with
        | zero=>exact absurd h.td0 he
        | succ s=>omega
      obtain ⟨j,hj,hVs,s',hs',hk,ht',hTj,hoth⟩:=ht.step h hs hs1
      have hVs:FR (td s).toNat=(j:Int):=hVs
      obtain ⟨T'',s'',hrun,h1,h2⟩:=ih s' hs' (by omega) _ ht'
      refine ⟨T'',s'',fun c hc=>?_,h1,h2⟩
      have hb:(td s != a)=true:=by simp [he]
      have hqj:=hq j hj
      have hbj:=hbar (Q j).toNat (by omega)
      have hrs:=h.rng s hs
      have hsum:=(oth_sum (by rw [← hTj];exact hT j hj) hoth).1
      have hcon:=con_l4Other (g (Q j).toNat) (td s) (by omega) (by omega) (by omega)
      rw [hsum] at hcon
      refine piece_ok mixed hc (qSl g nb N m F0 T Q FR F1 T' a u (td s) (td s')) ?_ (by rw [hVs];simp only [Int.toNat_natCast];exact hrun c hc)
      repeat' (first | exact aN | apply aI)
      all_goals (first | exact aP _ _ | exact aA _ _ | omega | rfl | (intros;first | assumption | exact trivial | rfl | exact fT ‹_› | ((repeat' (first | assumption | apply anda | apply notf));done)) | (exact hb) | (rw [hVs];simp only [Int.toNat_natCast];omega) | (rw [hVs];simp only [Int.toNat_natCast];exact hcon) | (intro i hi;simp [All];done) | (simp only [hVs,Int.toNat_natCast];intro i hi;by_cases h:i=j<;>simp [h,cvtL,cvt,tg,tru,All]))
theorem BInv.congrV {N m:Nat} {g:Nat→T_Bar} {F T Q td V V':Nat→Int} {a b:Int} {tn:Nat} (h:BInv N m g F T Q td V a b tn) (hv:∀ s,s<tn→V s=V' s):BInv N m g F T Q td V' a b tn :=
  ⟨h.n1,h.td0,h.rng,h.inj,fun s h1 h2=>by rw [← hv s h2];exact h.par s h1 h2⟩
theorem con_l4Shift {N k nb m:Nat} {g:Nat→T_Bar} {F T Q td FR:Nat→Int} {a b u:Int} {tn:Nat} (hp:PInv N k nb m g F T Q) (hk:k≤1048576) (hN:N≤1048576) (hm:m≤1048576) (hnb:nb≤1048576)
    (h:BInv N m g F T Q td (fun s=>FR (td s).toNat) a b (tn+1)) (htn:td tn=u) (ha:0≤a∧a<N) (hu:0≤u∧u<N) (hua:u≠a) :
    ∃ T'' s',Con Tryz.prog 407 0 [] [grG g nb N,pebD N m F T Q,inD N FR,.p (.int .i64 a),.p (.int .i64 u)] (pebR N m (fun x=>if x=a.toNat then (if x=u.toNat then F x - 1 else F x)+1 else (if x=u.toNat then F x - 1 else F x)) T'' Q) (pebO N m 0) ∧
      TInv m g T Q td (fun s=>FR (td s).toNat) T'' u s'∧td s'=a:=by
  have ht0:TInv m g T Q td (fun s=>FR (td s).toNat) T u tn:=⟨fun _ _ _=>rfl,hp.t,fun x=>by rw [htn];omega⟩
  obtain ⟨T'',s',hrun,h1,h2⟩:=run_shift (nb:=nb) (F0:=F) (F1:=fun x=>if x=a.toNat then (if x=u.toNat then F x - 1 else F x)+1 else (if x=u.toNat then F x - 1 else F x)) h hN hm hnb hp.q hp.bars hp.t tn (by omega) T ht0
  refine ⟨T'',s',?_,h1,h2⟩
  rw [htn] at hrun
  have hFa:=hp.le (v:=a.toNat) (by omega)
  have hFu:=hp.le (v:=u.toNat) (by omega)
  have hcc:=con_l4Copy N m F T Q hN hm
  refine con_start Tryz.func407 rfl (by kernel_rfl) rfl (fun c hc=>?_)
  have hrun':=hrun c hc
  refine piece_ok mixed hc (qSz g nb N m F T Q FR a u) ?_ ?_
  ·
    repeat' (first | exact aN | apply aI)
    all_goals (first | exact aP _ _ | exact aA _ _ | omega | rfl | (intros;first | assumption | exact trivial | rfl | exact fT ‹_› | ((repeat' (first | assumption | apply anda | apply notf));done)) | (exact hcc) | (intro i hi;simp [All];done) | (intro i hi;by_cases h:i=u.toNat<;>simp [h,cvtL,cvt,tg,tru,All]))
  · have hF1:(fun s=>if s=u.toNat then F s - 1 else F s) a.toNat=F a.toNat:=by
      show (if a.toNat=u.toNat then F a.toNat - 1 else F a.toNat)=_
      rw [if_neg (by omega)]
    obtain ⟨F1,hF1d⟩:∃ F1:Nat→Int,F1=(fun s=>if s=u.toNat then F s - 1 else F s):=⟨_,rfl⟩
    have hFF:(fun x=>if x=a.toNat then (if x=u.toNat then F x - 1 else F x)+1 else (if x=u.toNat then F x - 1 else F x))=(fun s=>if s=a.toNat then F1 s+1 else F1 s):=by
      subst hF1d;rfl
    rw [hFF] at hrun' ⊢
    rw [← hF1d] at hF1 ⊢
    refine piece_ok mixed hc (qSa g nb N m F T Q FR F1 T a u) ?_ hrun'
    repeat' (first | exact aN | apply aI)
    all_goals (first | exact aP _ _ | exact aA _ _ | omega | rfl | (intros;first | assumption | exact trivial | rfl | exact fT ‹_› | ((repeat' (first | assumption | apply anda | apply notf));done)) | (rw [hF1];omega) | (intro i hi;simp [All];done) | (intro i hi;by_cases h:i=a.toNat<;>simp [h,cvtL,cvt,tg,tru,All]))
inductive FindR (N k nb m:Nat) (g:Nat→T_Bar) (F T Q:Nat→Int) (a b:Int):Hp→AV→Prop
  | yes (F' T':Nat→Int) (h:Moved N k nb m g F T Q a b F' T' true):FindR N k nb m g F T Q a b (pebR3 N m F T Q F' T' Q) (.tup [pebO N m 3,.p (.bool true)])
  | no (h:Moved N k nb m g F T Q a b F T false):FindR N k nb m g F T Q a b (pebR N m F T Q) (.tup [pebO N m 0,.p (.bool false)])
def OutS (N k nb m:Nat) (g:Nat→T_Bar) (F T Q:Nat→Int) (a b:Int) (i tn:Nat) (td FR:Nat→Int) (SN:Nat→Bool):Prop :=
  ∃ H' res,(∀ c,c.n=3→Run Tryz.prog c 377 [.code (cAt (bodyOf Tryz.f377) [1,1,1,1,1,1,0,1,0,0]),.inLoop (cAt (bodyOf Tryz.f377) [1,1,1,1,1,1,0,1,0,0]),.inBlock 2,.code (cAt (bodyOf Tryz.f377) [1,1,1,1,1,1,1])] (SF1 g nb N m F T Q td FR SN a b i tn) (Post c H' res))∧FindR N k nb m g F T Q a b H' res
def MidS (N k nb m:Nat) (g:Nat→T_Bar) (F T Q:Nat→Int) (a b:Int) (i j tn:Nat) (td FR:Nat→Int) (SN:Nat→Bool):Prop :=
  ∃ H' res,(∀ c,c.n=3→Run Tryz.prog c 377 [.code (cAt (bodyOf Tryz.f377) [1,1,1,1,1,1,0,1,0,0,1,0,0,1,1,0,0]),.inLoop (cAt (bodyOf Tryz.f377) [1,1,1,1,1,1,0,1,0,0,1,0,0,1,1,0,0]),.inBlock 4,.inBlock 3,.code (cAt (bodyOf Tryz.f377) [1,1,1,1,1,1,0,1,0,0,1,1]),.inLoop (cAt (bodyOf Tryz.f377) [1,1,1,1,1,1,0,1,0,0]),.inBlock 2,.code (cAt (bodyOf Tryz.f377) [1,1,1,1,1,1,1])] (SF2 g nb N m F T Q td FR SN a b (td i) i j tn) (Post c H' res))∧FindR N k nb m g F T Q a b H' res
def SeenI (N:Nat) (td:Nat→Int) (SN:Nat→Bool) (tn:Nat):Prop:=∀ x:Nat,x<N→(SN x=true↔∃ s,s<tn∧td s=x)
theorem mid_s {N k nb m:Nat} {g:Nat→T_Bar} {F T Q:Nat→Int} {a b:Int} (hp:PInv N k nb m g F T Q) (hk:k≤1048576) (hN:N≤1048576) (hm:m≤1048576) (hnb:nb≤1048576)
    (ha:0≤a∧a<N) (hb:0≤b∧b<N) (hab:a≠b) (i:Nat)
    (ih:∀ tn td FR SN,i+1≤tn→BInv N m g F T Q td (fun s=>FR (td s).toNat) a b tn→SeenI N td SN tn→BZero F td b tn→BClo m g T Q td (i+1) 0 tn→OutS N k nb m g F T Q a b (i+1) tn td FR SN) :
    ∀ e j tn td FR SN,j+e=m→i<tn→BInv N m g F T Q td (fun s=>FR (td s).toNat) a b tn→SeenI N td SN tn→BZero F td b tn→BClo m g T Q td i j tn→MidS N k nb m g F T Q a b i j tn td FR SN:=by
  intro e
  induction e with
  | zero =>
    intro j tn td FR SN hj hi hbi hsn hz hcl
    have htn:=pigeon N tn td hbi.rng hbi.inj
    obtain ⟨H',res,hrun,hmv⟩:=ih tn td FR SN (by omega) hbi hsn hz (fun i' j' hij hi' hT=>by
      rcases hij with ⟨h1,h2⟩ | ⟨h1,h2⟩
      · by_cases e:i'=i
        · exact hcl i' j' (.inr ⟨e,by omega⟩) hi' hT
        · exact hcl i' j' (.inl ⟨by omega,h2⟩) hi' hT
      · omega)
    refine ⟨H',res,fun c hc=>?_,hmv⟩
    have hd:decide ((j:Int)<(m:Int))=false:=by simp;omega
    refine piece_ok mixed hc (qF2e g nb N m F T Q td FR SN a b (td i) i j tn) ?_ (hrun c hc)
    repeat' (first | exact aN | apply aI)
    all_goals (first | exact aP _ _ | exact aA _ _ | omega | rfl | (intros;first | assumption | exact trivial | rfl | exact fT ‹_› | ((repeat' (first | assumption | apply anda | apply notf));done)) | (intro i hi;simp [All]))
  | succ e ihe =>
    intro j tn td FR SN hj hi hbi hsn hz hcl
    have htn:=pigeon N tn td hbi.rng hbi.inj
    have hjm:j<m:=by omega
    have hd:decide ((j:Int)<(m:Int))=true:=by simp;omega
    have hq:=hp.q j hjm
    have hbar:=hp.bars (Q j).toNat (by omega)
    have hrg:=hbi.rng i hi
    by_cases hT:T j=td i
    · have ht1:(T j != td i)=false:=by simp [hT]
      obtain ⟨v,hv⟩:∃ v,othF (g (Q j).toNat) (td i)=v:=⟨_,rfl⟩
      have hvr:0≤v∧v<N:=by rw [← hv];exact othF_in hbar
      have hsum:=(oth_sum (by rw [← hT];exact hp.t j hjm) hv).2
      have hcon:=con_l4Other (g (Q j).toNat) (td i) (by omega) (by omega) (by omega)
      rw [hsum] at hcon
      cases hh:SN v.toNat with
      | true =>
        obtain ⟨s,hs1,hs2⟩:=(hsn v.toNat (by omega)).1 hh
        obtain ⟨H',res,hrun,hmv⟩:=ihe (j+1) tn td FR SN (by omega) hi hbi hsn hz (fun i' j' hij hi' hTT=>by
          by_cases e:i'=i∧j'=j
          · obtain ⟨rfl,rfl⟩:=e
            exact ⟨s,hs1,by rw [hs2,hv];omega⟩
          · exact hcl i' j' (by omega) hi' hTT)
        refine ⟨H',res,fun c hc=>?_,hmv⟩
        refine piece_ok mixed hc (qF2b g nb N m F T Q td FR SN a b (td i) v i j tn) ?_ (hrun c hc)
        repeat' (first | exact aN | apply aI)
        all_goals (first | exact aP _ _ | exact aA _ _ | omega | rfl | (intros;first | assumption | exact trivial | rfl | exact fT ‹_› | ((repeat' (first | assumption | apply anda | apply notf));done)) | (exact ht1) | (exact hcon) | (exact hh) | (intro i hi;simp [All]))
      | false =>
        have hno:∀ s,s<tn→td s≠v:=by
          intro s hs e
          have:=(hsn v.toNat (by omega)).2 ⟨s,hs,by omega⟩
          rw [hh] at this;cases this
        have hadd0:=hbi.add hi hjm hT hv hvr hno
        have hadd:BInv N m g F T Q (fun s=>if s<tn then td s else v) (fun s=>(fun x=>if x=v.toNat then (j:Int) else FR x) ((fun s=>if s<tn then td s else v) s).toNat) a b (tn+1):=by
          refine hadd0.congrV (fun s hs=>?_)
          show (if s<tn then FR (td s).toNat else (j:Int))=(if (if s<tn then td s else v).toNat=v.toNat then (j:Int) else FR (if s<tn then td s else v).toNat)
          by_cases e:s<tn
          · have h1:=hno s e
            have h2:=hbi.rng s e
            rw [if_pos e,if_pos e,if_neg (show ¬ (td s).toNat=v.toNat by omega)]
          · rw [if_neg e,if_neg e,if_pos rfl]
        have hF:=hp.le (v:=v.toNat) (by omega)
        cases hcd:(bif v != b then decide (F v.toNat>0) else false) with
        | false =>
          have hzv:v=b∨F v.toNat=0:=by
            by_cases e:v=b
            · exact .inl e
            · right
              have:(v != b)=true:=by simp [e]
              rw [this] at hcd
              simp at hcd
              omega
          obtain ⟨H',res,hrun,hmv⟩:=ihe (j+1) (tn+1) (fun s=>if s<tn then td s else v) (fun x=>if x=v.toNat then (j:Int) else FR x) (fun s=>if s=v.toNat then true else SN s) (by omega) (by omega) hadd (fun x hx=>by
            show (if x=v.toNat then true else SN x)=true↔∃ s,s<tn+1∧(if s<tn then td s else v)=x
            by_cases e:x=v.toNat
            · rw [if_pos e]
              exact ⟨fun _=>⟨tn,by omega,by rw [if_neg (Nat.lt_irrefl tn)];omega⟩,fun _=>rfl⟩
            · rw [if_neg e,hsn x hx]
              constructor
              · rintro ⟨s,h1,h2⟩;exact ⟨s,by omega,by rw [if_pos h1];exact h2⟩
              · rintro ⟨s,h1,h2⟩
                by_cases e2:s<tn
                · rw [if_pos e2] at h2;exact ⟨s,e2,h2⟩
                · rw [if_neg e2] at h2;omega) (fun s h1 h2=>by
            show (if s<tn then td s else v)=b∨F (if s<tn then td s else v).toNat=0
            by_cases e:s<tn
            · rw [if_pos e];exact hz s h1 e
            · rw [if_neg e];exact hzv) (fun i' j' hij hi' hTT=>by
            have hi2:i'<tn:=by omega
            have hTT':T j'=td i':=by rw [hTT];show (if i'<tn then td i' else v)=_;rw [if_pos hi2]
            show ∃ s,s<tn+1∧(if s<tn then td s else v)=othF (g (Q j').toNat) (if i'<tn then td i' else v)
            rw [if_pos hi2]
            by_cases e:i'=i∧j'=j
            · obtain ⟨rfl,rfl⟩:=e
              exact ⟨tn,by omega,by rw [if_neg (Nat.lt_irrefl tn),hv]⟩
            · obtain ⟨s,h1,h2⟩:=hcl i' j' (by omega) hi2 hTT'
              exact ⟨s,by omega,by rw [if_pos h1];exact h2⟩)
          refine ⟨H',res,fun c hc=>?_,hmv⟩
          have hrun':=hrun c hc
          simp only [hi,if_true] at hrun'
          refine piece_ok mixed hc (qF2c g nb N m F T Q td FR SN a b (td i) v i j tn) ?_ hrun'
          repeat' (first | exact aN | apply aI)
          all_goals (first | exact aG _ | exact aP _ _ | exact aA _ _ | omega | rfl | (intros;first | assumption | exact trivial | rfl | exact fT ‹_› | ((repeat' (first | assumption | apply anda | apply notf));done)) | (exact ht1) | (exact hcon) | (exact hh) | (exact hcd) | (intros;omega) | (intro i hi;simp [All];done) | (intro i hi;by_cases h:i<tn<;>simp [h,cvtL,cvt,tg,tru,All];done) | (intro i hi;by_cases h:i=v.toNat<;>simp [h,cvtL,cvt,tg,tru,All]))
        | true =>
          have hvb:v≠b:=by
            intro e
            rw [show (v != b)=false by simp [e]] at hcd
            cases hcd
          have hFv:F v.toNat≠0:=by
            intro e
            rw [show (v != b)=true by simp [hvb]] at hcd
            simp [e] at hcd
          have hva:v≠a:=by
            have:=hno 0 (by have:=hbi.n1;omega)
            rw [hbi.td0] at this
            exact Ne.symm this
          obtain ⟨T'',s',hcs,h1,h2⟩:=con_l4Shift (td:=fun s=>if s<tn then td s else v) (FR:=fun x=>if x=v.toNat then (j:Int) else FR x) (tn:=tn) hp hk hN hm hnb hadd (by show (if tn<tn then td tn else v)=v;rw [if_neg (Nat.lt_irrefl tn)]) ha hvr hva
          refine ⟨_,_,fun c hc=>?_,.yes _ T'' (moved_yes hp ha hb hab hvr hva hvb hFv h1 h2)⟩
          refine piece_ok mixed hc (qF2d g nb N m F T Q td FR SN a b (td i) v i j tn) ?_ ?_
          ·
            repeat' (first | exact aN | apply aI)
            all_goals (first | exact aG _ | exact aP _ _ | exact aA _ _ | omega | rfl | (intros;first | assumption | exact trivial | rfl | exact fT ‹_› | ((repeat' (first | assumption | apply anda | apply notf));done)) | (exact ht1) | (exact hcon) | (exact hh) | (exact hcd) | (intros;omega) | (intro i hi;simp [All];done) | (intro i hi;by_cases h:i=v.toNat<;>simp [h,cvtL,cvt,tg,tru,All]))
          · refine path_ok mixed Tryz.func377 hc (qF3 g nb N m F T Q (fun s=>if s=v.toNat then (j:Int) else FR s) _ T'' a b v) ?_
            repeat' (first | exact aN | apply aI)
            all_goals (first | exact aA _ _ | exact aE _ | omega | rfl | (intros;first | assumption | exact trivial | rfl | exact fT ‹_› | ((repeat' (first | assumption | apply anda | apply notf));done)) | (exact hcs) | (intro i hi;simp [All]))
    · have ht1:(T j != td i)=true:=by simp [hT]
      obtain ⟨H',res,hrun,hmv⟩:=ihe (j+1) tn td FR SN (by omega) hi hbi hsn hz (fun i' j' hij hi' hTT=>by
        by_cases e:i'=i∧j'=j
        · obtain ⟨rfl,rfl⟩:=e
          exact absurd hTT hT
        · exact hcl i' j' (by omega) hi' hTT)
      refine ⟨H',res,fun c hc=>?_,hmv⟩
      refine piece_ok mixed hc (qF2a g nb N m F T Q td FR SN a b (td i) i j tn) ?_ (hrun c hc)
      repeat' (first | exact aN | apply aI)
      all_goals (first | exact aP _ _ | exact aA _ _ | omega | rfl | (intros;first | assumption | exact trivial | rfl | exact fT ‹_› | ((repeat' (first | assumption | apply anda | apply notf));done)) | (exact ht1) | (intro i hi;simp [All]))
theorem out_s {N k nb m:Nat} {g:Nat→T_Bar} {F T Q:Nat→Int} {a b:Int} (hp:PInv N k nb m g F T Q) (hk:k≤1048576) (hN:N≤1048576) (hm:m≤1048576) (hnb:nb≤1048576)
    (ha:0≤a∧a<N) (hb:0≤b∧b<N) (hab:a≠b):∀ d i tn td FR SN,N+1≤i+d→i≤tn→BInv N m g F T Q td (fun s=>FR (td s).toNat) a b tn→SeenI N td SN tn→BZero F td b tn→BClo m g T Q td i 0 tn→OutS N k nb m g F T Q a b i tn td FR SN:=by
  intro d
  induction d with
  | zero =>
    intro i tn td FR SN hd hi hbi _ _ _
    have:=pigeon N tn td hbi.rng hbi.inj
    omega
  | succ d ih =>
    intro i tn td FR SN hd hi hbi hsn hz hcl
    have htn:=pigeon N tn td hbi.rng hbi.inj
    by_cases hit:i<tn
    · have hd':decide ((i:Int)<(tn:Int))=true:=by simp;omega
      obtain ⟨H',res,hrun,hmv⟩:=mid_s hp hk hN hm hnb ha hb hab i (fun tn td FR SN h1 h2 h3 h4 h5=>ih (i+1) tn td FR SN (by omega) h1 h2 h3 h4 h5) m 0 tn td FR SN (by omega) hit hbi hsn hz hcl
      refine ⟨H',res,fun c hc=>?_,hmv⟩
      refine piece_ok mixed hc (qF1 g nb N m F T Q td FR SN a b i tn) ?_ (hrun c hc)
      repeat' (first | exact aN | apply aI)
      all_goals (first | exact aP _ _ | exact aA _ _ | omega | rfl | (intros;first | assumption | exact trivial | rfl | exact fT ‹_› | ((repeat' (first | assumption | apply anda | apply notf));done)) | (intro i hi;simp [All]))
    · have hd':decide ((i:Int)<(tn:Int))=false:=by simp;omega
      obtain rfl:i=tn:=by omega
      refine ⟨_,_,fun c hc=>?_,.no (moved_no hp hbi hz hcl)⟩
      refine path_ok mixed Tryz.func377 hc (qF1e g nb N m F T Q td FR SN a b i i) ?_
      repeat' (first | exact aN | apply aI)
      all_goals (first | exact aA _ _ | exact aE _ | omega | rfl | (intros;first | assumption | exact trivial | rfl | exact fT ‹_› | ((repeat' (first | assumption | apply anda | apply notf));done)) | (intro i hi;simp [All]))
theorem con_l4Find {N k nb m:Nat} {g:Nat→T_Bar} {F T Q:Nat→Int} {a b:Int} (hp:PInv N k nb m g F T Q) (hk:k≤1048576) (hN:N≤1048576) (hm:m≤1048576) (hnb:nb≤1048576)
    (ha:0≤a∧a<N) (hb:0≤b∧b<N) (hab:a≠b):∃ H' res,Con Tryz.prog 377 3 (pebR N m F T Q) [grG g nb N,pebO N m 0,.p (.int .i64 a),.p (.int .i64 b)] H' res∧FindR N k nb m g F T Q a b H' res:=by
  obtain ⟨H',res,hrun,hmv⟩:=out_s hp hk hN hm hnb ha hb hab (N+1) 0 1 (fun _=>a) (fun _=>-1) (fun s=>if s=a.toNat then true else false) (by omega) (by omega)
    ⟨by omega,rfl,fun s hs=>ha,fun s s' h1 h2=>by omega,fun s h1 h2=>by omega⟩ (fun x hx=>by
      show (if x=a.toNat then true else false)=true↔∃ s,s<1∧a=x
      by_cases e:x=a.toNat
      · rw [if_pos e];exact ⟨fun _=>⟨0,by omega,by omega⟩,fun _=>rfl⟩
      · rw [if_neg e];exact ⟨(fun h=>by cases h),(fun ⟨s,h1,h2⟩=>by omega)⟩) (fun s h1 h2=>by omega) (fun i' j' h=>by omega)
  refine ⟨H',res,?_,hmv⟩
  refine con_start Tryz.func377 rfl (by kernel_rfl) rfl (fun c hc=>?_)
  have lp0:∀ d i,i+d=N→Run Tryz.prog c 377 zf63 (SF0 g nb N m F T Q a b i) (Post c H' res):=by
    intro d
    induction d with
    | zero =>
      intro i hi
      obtain rfl:i=N:=by omega
      have hd:decide ((i:Int)<(i:Int))=false:=by simp
      refine piece_ok mixed hc (qF01 g nb i m F T Q a b i) ?_ (hrun c hc)
      repeat' (first | exact aN | apply aI)
      all_goals (first | exact aP _ _ | exact aA _ _ | omega | rfl | (intros;first | assumption | exact trivial | rfl | exact fT ‹_› | ((repeat' (first | assumption | apply anda | apply notf));done)) | (intro j hj;simp [All];done) | (intro j hj;simp [hj,All];done) | (intro j hj;by_cases h:j=a.toNat<;>simp [h,cvtL,cvt,tg,tru,All]))
    | succ d ih =>
      intro i hi
      have hd:decide ((i:Int)<(N:Int))=true:=by simp;omega
      refine piece_ok mixed hc (qF0 g nb N m F T Q a b i) ?_ (ih (i+1) (by omega))
      repeat' (first | exact aN | apply aI)
      all_goals (first | exact aP _ _ | exact aA _ _ | omega | rfl | (intros;first | assumption | exact trivial | rfl | exact fT ‹_› | ((repeat' (first | assumption | apply anda | apply notf));done)) | (intro j hj;simp [All];done) | (intro j hj;by_cases h:j=i<;>simp [h,Nat.lt_succ_iff_lt_or_eq,cvtL,cvt,tg,tru,All]))
  refine piece_ok mixed hc (qFz g nb N m F T Q a b) ?_ (lp0 N 0 (by omega))
  repeat' (first | exact aN | apply aI)
  all_goals (first | exact aP _ _ | exact aA _ _ | omega | rfl | (intros;first | assumption | exact trivial | rfl | exact fT ‹_› | ((repeat' (first | assumption | apply anda | apply notf));done)) | (intro i hi;simp [All]))
end Go.Proofs.YtkkjoghiigiokaaGreat.Mach
namespace Go.Proofs.YtkkjoghiigiokaaGreat.Mach
open Go
set_option linter.unusedVariables false
set_option linter.unusedSimpArgs false
def inB (x a b:Int):Bool:=decide (a≤x)&&decide (x≤b)
theorem p36 (x a b:Int) :
    pathOb Tryz.prog Tryz.f167 0 [rg 1,rg 9] [.code (bodyOf Tryz.f167)] (start Tryz.f167 [] 0 [.p (.int .i64 x),.p (.int .i64 a),.p (.int .i64 b)]) [] 1 [] (.p (.bool (inB x a b))) =
    some [(AG (decide (x≥a))),(AG (decide (x≥a))),(AG (decide (x≥a))),((bif decide (x≥a) then decide (x≤b) else false)=(inB x a b))]:=by kernel_rfl
theorem p37 (x a b:Int) :
    pathOb Tryz.prog Tryz.f179 0 [rg 1,rg 9] [.code (bodyOf Tryz.f179)] (start Tryz.f179 [] 0 [.p (.int .i64 x),.p (.int .i64 a),.p (.int .i64 b)]) [] 1 [] (.p (.bool (inB x a b))) =
    some [(AG (decide (x≥a))),(AG (decide (x≥a))),(AG (decide (x≥a))),((bif decide (x≥a) then decide (x≤b) else false)=(inB x a b))]:=by kernel_rfl
theorem con_l1In (x a b:Int):Con Tryz.prog 167 0 [] [.p (.int .i64 x),.p (.int .i64 a),.p (.int .i64 b)] [] (.p (.bool (inB x a b))):=by
  refine con_start Tryz.func167 rfl (by kernel_rfl) rfl (fun c hc=>?_)
  refine path_ok mixed Tryz.func167 hc (p36 x a b) ?_
  repeat' (first | exact aN | apply aI)
  all_goals (first | exact aG _ | omega | rfl | (intros;first | assumption | exact trivial | rfl | exact fT ‹_› | ((repeat' (first | assumption | apply anda | apply notf));done)) | (simp only [inB];cases decide (a≤x)<;>rfl))
theorem con_within (x a b:Int):Con Tryz.prog 179 0 [] [.p (.int .i64 x),.p (.int .i64 a),.p (.int .i64 b)] [] (.p (.bool (inB x a b))):=by
  refine con_start Tryz.func179 rfl (by kernel_rfl) rfl (fun c hc=>?_)
  refine path_ok mixed Tryz.func179 hc (p37 x a b) ?_
  repeat' (first | exact aN | apply aI)
  all_goals (first | exact aG _ | omega | rfl | (intros;first | assumption | exact trivial | rfl | exact fT ‹_› | ((repeat' (first | assumption | apply anda | apply notf));done)) | (simp only [inB];cases decide (a≤x)<;>rfl))
end Go.Proofs.YtkkjoghiigiokaaGreat.Mach
namespace Go.Proofs.YtkkjoghiigiokaaGreat.Mach
open Go
set_option linter.unusedVariables false
set_option linter.unusedSimpArgs false
def aft (a b:T_Bar):Bool:=bif decide (a.1<b.1) then true else bif a.1==b.1 then decide (a.2.1≤b.2.1) else false
def cmpI (x y:Int):Int:=if x<y then -1 else if x>y then 1 else 0
def cmpB (a b:T_Bar):Int:=if cmpI a.1 b.1=0 then cmpI a.2.1 b.2.1 else cmpI a.1 b.1
def badB (N:Int) (g:Nat→T_Bar) (k:Nat):Bool :=
  bif bif bif decide ((g k).1<0) then true else decide ((g k).1≥(g k).2.1) then true else decide ((g k).2.1≥N) then true
    else bif decide ((k:Int)>0) then !aft (g ((k:Int) - 1).toNat) (g k) else false
def goodB (N:Int) (g:Nat→T_Bar):Nat→Bool
  | 0=>true
  | k+1=>goodB N g k&&!badB N g k
def isGraphF (v:T_Graph):Bool:=if inB v.1 1 8=true∧v.2.1.1≤24 then goodB v.1 v.2.1.2 v.2.1.1 else false
def barA (a:T_Bar):AV:=.agg [.p (.int .i64 a.1),.p (.int .i64 a.2.1)]
def graphL (v:T_BarS):AV:=.p (.seq true 2 v.1 (fun i=>[.int .i64 (v.2 i).1,.int .i64 (v.2 i).2.1]))
def graphA (v:T_Graph):AV:=.agg [.p (.int .i64 v.1),graphL v.2.1]
def boxG (v:T_Graph):Ob:=⟨true,2,1,fun i=>[.p (.int .i64 v.1),graphL v.2.1]⟩
def S48 (v:T_Graph) (k:Nat):St :=
  ⟨[graphA v,.pt 2 0 0 0,.p .any,.p (.int .i64 k)]++List.replicate 55 anyA,[(0,boxG v)],1⟩
def S51 (v:T_Graph) (k:Nat):St :=
  ⟨[graphA v,.pt 2 0 0 0]++List.replicate 14 anyA++[graphL v.2.1,.p (.int .i64 v.2.1.1),.p (.int .i64 k)]++List.replicate 37 anyA,[(0,boxG v)],1⟩
theorem p57 (a b:T_Bar) :
    pathOb Tryz.prog Tryz.f168 0 [rg 3,rg 20] [.code (bodyOf Tryz.f168)] (start Tryz.f168 [] 0 [barA a,barA b]) [] 1 [] (.p (.bool (aft a b))) =
    some [(NT 0 1),(NT 0 1),(AG (!decide (a.1<b.1))),(((!decide (a.1<b.1))=true)→(NT 0 1)),(AG (!decide (a.1<b.1))),(((!decide (a.1<b.1))=true)→(NT 0 1)),(AG (!decide (a.1<b.1))),(AG (!decide (a.1<b.1))),(AG (!decide (a.1<b.1))),(AG (!decide (a.1<b.1)&&a.1==b.1)),(((!decide (a.1<b.1)&&a.1==b.1)=true)→(NT 0 1)),(AG (!decide (a.1<b.1)&&a.1==b.1)),(((!decide (a.1<b.1)&&a.1==b.1)=true)→(NT 0 1)),(AG (!decide (a.1<b.1)&&a.1==b.1)),(AG (!decide (a.1<b.1)&&a.1==b.1)),(AG (!decide (a.1<b.1))),(((!decide (a.1<b.1))=true)→(((a.1==b.1)=true)→ ((!decide (a.1<b.1)&&a.1==b.1)=true))),(((decide (a.1<b.1))=false)→ ((!decide (a.1<b.1))=true)),((bif decide (a.1<b.1) then true else bif a.1==b.1 then decide (a.2.1≤b.2.1) else false)=(aft a b))]:=by kernel_rfl
theorem p62a (x y:Int) :
    pathOb Tryz.prog Tryz.f287 0 [rg 1,rg 4,.dec true,rg 1] [.code (bodyOf Tryz.f287)] (start Tryz.f287 [] 0 [.p (.int .i64 x),.p (.int .i64 y)]) [] 1 [] (.p (.int .i64 (-1))) =
    some [((decide (x<y))=true),(AI ((-1)))]:=by kernel_rfl
theorem p62b (x y:Int) :
    pathOb Tryz.prog Tryz.f287 0 [rg 1,rg 4,.dec false,rg 4,.dec true,rg 1] [.code (bodyOf Tryz.f287)] (start Tryz.f287 [] 0 [.p (.int .i64 x),.p (.int .i64 y)]) [] 1 [] (.p (.int .i64 1)) =
    some [((decide (x<y))=false),((decide (x>y))=true),(AI 1)]:=by kernel_rfl
theorem p62c (x y:Int) :
    pathOb Tryz.prog Tryz.f287 0 [rg 1,rg 4,.dec false,rg 4,.dec false,rg 1] [.code (bodyOf Tryz.f287)] (start Tryz.f287 [] 0 [.p (.int .i64 x),.p (.int .i64 y)]) [] 1 [] (.p (.int .i64 0)) =
    some [((decide (x<y))=false),((decide (x>y))=false),(AI 0)]:=by kernel_rfl
theorem p59a (a b:T_Bar) :
    pathOb Tryz.prog Tryz.f180 0 [rg 3,rm [(4,oc [] (.p (.int .i64 (cmpI a.1 b.1))))] 1,rg 2,.dec true,rg 2] [.code (bodyOf Tryz.f180)] (start Tryz.f180 [] 0 [barA a,barA b]) [] 1 [] (.p (.int .i64 (cmpI a.1 b.1))) =
    some [(NT 0 1),(NT 0 1),Con Tryz.prog 287 0 [] [.p (.int .i64 a.1),.p (.int .i64 b.1)] [] (.p (.int .i64 (cmpI a.1 b.1))),((cmpI a.1 b.1 != 0)=true),(AI ((cmpI a.1 b.1)))]:=by kernel_rfl
theorem p59b (a b:T_Bar) :
    pathOb Tryz.prog Tryz.f180 0 [rg 3,rm [(4,oc [] (.p (.int .i64 (cmpI a.1 b.1))))] 1,rg 2,.dec false,rm [(4,oc [] (.p (.int .i64 (cmpI a.2.1 b.2.1))))] 1] [.code (bodyOf Tryz.f180)] (start Tryz.f180 [] 0 [barA a,barA b]) [] 1 [] (.p (.int .i64 (cmpI a.2.1 b.2.1))) =
    some [(NT 0 1),(NT 0 1),Con Tryz.prog 287 0 [] [.p (.int .i64 a.1),.p (.int .i64 b.1)] [] (.p (.int .i64 (cmpI a.1 b.1))),((cmpI a.1 b.1 != 0)=false),(NT 0 1),(NT 0 1),Con Tryz.prog 287 0 [] [.p (.int .i64 a.2.1),.p (.int .i64 b.2.1)] [] (.p (.int .i64 (cmpI a.2.1 b.2.1))),(AI ((cmpI a.2.1 b.2.1)))]:=by kernel_rfl
theorem p48z (v:T_Graph) :
    pathOb Tryz.prog Tryz.f53 0 [rg 2,rm [(2,oc [] (.p (.bool (inB v.1 1 8))))] 7,.dec true,rg 1] [.code (bodyOf Tryz.f53)] (start Tryz.f53 [] 0 [graphA v]) [] 1 [] (.p (.bool false)) =
    some [(NT 0 1),Con Tryz.prog 167 0 [] [.p (.int .i64 v.1),.p (.int .i64 1),.p (.int .i64 8)] [] (.p (.bool (inB v.1 1 8))),(AG (!!inB v.1 1 8)),(((!!inB v.1 1 8)=true)→(NT 0 1)),(AG (!!inB v.1 1 8)),(AG (!!inB v.1 1 8)),(((!inB v.1 1 8)=false)→ ((!!inB v.1 1 8)=true)),((bif !inB v.1 1 8 then true else decide ((↑v.2.1.1:Int)>24))=true),(false=false)]:=by kernel_rfl
theorem p48a (v:T_Graph) :
    pieceOb Tryz.prog 0 [rg 2,rm [(2,oc [] (.p (.bool (inB v.1 1 8))))] 7,.dec false,rg 1,.head] [.code (bodyOf Tryz.f53)] (start Tryz.f53 [] 0 [graphA v]) [0] 1 (S48 v 0) =
    some (zf77,[(NT 0 1),Con Tryz.prog 167 0 [] [.p (.int .i64 v.1),.p (.int .i64 1),.p (.int .i64 8)] [] (.p (.bool (inB v.1 1 8))),(AG (!!inB v.1 1 8)),(((!!inB v.1 1 8)=true)→(NT 0 1)),(AG (!!inB v.1 1 8)),(AG (!!inB v.1 1 8)),(((!inB v.1 1 8)=false)→ ((!!inB v.1 1 8)=true)),((bif !inB v.1 1 8 then true else decide ((↑v.2.1.1:Int)>24))=false),(AI v.1),(AN v.2.1.1),(AP v.2.1.1 (fun i=>[.int .i64 ((v.2.1.2 i).1),.int .i64 ((v.2.1.2 i).2.1)])),(AN 0),((0:Int)=(↑0:Int)),((([AV.p (PV.int IntKind.i64 v.1),graphL v.2.1].length):Nat)=2),(NL 1 1),(NL 1 1),(AI v.1),(AN v.2.1.1),(AP v.2.1.1 (fun i=>[.int .i64 ((v.2.1.2 i).1),.int .i64 ((v.2.1.2 i).2.1)]))]):=by kernel_rfl
theorem p48b (v:T_Graph) (k:Nat) :
    pieceOb Tryz.prog 0 [rg 5,.dec true,rg 7,rm [(28,oc [] (.p (.bool (aft (v.2.1.2 ((k:Int) - 1).toNat) (v.2.1.2 k)))))] 3,.dec false,rg 3,.head] zf77 (S48 v k) [0] 1 (S48 v (k+1)) =
    some (zf77,[(NT 0 1),((decide ((↑k:Int)<(↑v.2.1.1:Int)))=true),(NT 0 1),(IL 0 (↑k:Int)),(IT (↑k:Int) (↑v.2.1.1:Int)),(NT 0 1),((true=true)→ (AN 1)),(NT 0 1),(AG (!decide ((v.2.1.2 (↑k:Int).toNat).1<0))),(((!decide ((v.2.1.2 (↑k:Int).toNat).1<0))=true)→(NT 0 1)),(AG (!decide ((v.2.1.2 (↑k:Int).toNat).1<0))),(((!decide ((v.2.1.2 (↑k:Int).toNat).1<0))=true)→(NT 0 1)),(AG (!decide ((v.2.1.2 (↑k:Int).toNat).1<0))),(AG (!decide ((v.2.1.2 (↑k:Int).toNat).1<0))),(((decide ((v.2.1.2 (↑k:Int).toNat).1<0))=false)→ ((!decide ((v.2.1.2 (↑k:Int).toNat).1<0))=true)),(AG (!bif decide ((v.2.1.2 (↑k:Int).toNat).1<0) then true else decide ((v.2.1.2 (↑k:Int).toNat).1≥(v.2.1.2 (↑k:Int).toNat).2.1))),(((!bif decide ((v.2.1.2 (↑k:Int).toNat).1<0) then true else decide ((v.2.1.2 (↑k:Int).toNat).1≥(v.2.1.2 (↑k:Int).toNat).2.1))=true)→(NT 0 1)),(AG (!bif decide ((v.2.1.2 (↑k:Int).toNat).1<0) then true else decide ((v.2.1.2 (↑k:Int).toNat).1≥(v.2.1.2 (↑k:Int).toNat).2.1))),(((!bif decide ((v.2.1.2 (↑k:Int).toNat).1<0) then true else decide ((v.2.1.2 (↑k:Int).toNat).1≥(v.2.1.2 (↑k:Int).toNat).2.1))=true)→(NT 0 1)),(AG (!bif decide ((v.2.1.2 (↑k:Int).toNat).1<0) then true else decide ((v.2.1.2 (↑k:Int).toNat).1≥(v.2.1.2 (↑k:Int).toNat).2.1))),(AG (!bif decide ((v.2.1.2 (↑k:Int).toNat).1<0) then true else decide ((v.2.1.2 (↑k:Int).toNat).1≥(v.2.1.2 (↑k:Int).toNat).2.1))),(((bif decide ((v.2.1.2 (↑k:Int).toNat).1<0) then true else decide ((v.2.1.2 (↑k:Int).toNat).1≥(v.2.1.2 (↑k:Int).toNat).2.1))=false)→ ((!bif decide ((v.2.1.2 (↑k:Int).toNat).1<0) then true else decide ((v.2.1.2 (↑k:Int).toNat).1≥(v.2.1.2 (↑k:Int).toNat).2.1))=true)),(AG (!bif bif decide ((v.2.1.2 (↑k:Int).toNat).1<0) then true else decide ((v.2.1.2 (↑k:Int).toNat).1≥(v.2.1.2 (↑k:Int).toNat).2.1) then true else decide ((v.2.1.2 (↑k:Int).toNat).2.1≥v.1))),(AG (!bif bif decide ((v.2.1.2 (↑k:Int).toNat).1<0) then true else decide ((v.2.1.2 (↑k:Int).toNat).1≥(v.2.1.2 (↑k:Int).toNat).2.1) then true else decide ((v.2.1.2 (↑k:Int).toNat).2.1≥v.1))),(AG ((!bif bif decide ((v.2.1.2 (↑k:Int).toNat).1<0) then true else decide ((v.2.1.2 (↑k:Int).toNat).1≥(v.2.1.2 (↑k:Int).toNat).2.1) then true else decide ((v.2.1.2 (↑k:Int).toNat).2.1≥v.1))&&decide ((↑k:Int)>0))),((((!bif bif decide ((v.2.1.2 (↑k:Int).toNat).1<0) then true else decide ((v.2.1.2 (↑k:Int).toNat).1≥(v.2.1.2 (↑k:Int).toNat).2.1) then true else decide ((v.2.1.2 (↑k:Int).toNat).2.1≥v.1))&&decide ((↑k:Int)>0))=true)→(NT 0 1)),(AG ((!bif bif decide ((v.2.1.2 (↑k:Int).toNat).1<0) then true else decide ((v.2.1.2 (↑k:Int).toNat).1≥(v.2.1.2 (↑k:Int).toNat).2.1) then true else decide ((v.2.1.2 (↑k:Int).toNat).2.1≥v.1))&&decide ((↑k:Int)>0))),((((!bif bif decide ((v.2.1.2 (↑k:Int).toNat).1<0) then true else decide ((v.2.1.2 (↑k:Int).toNat).1≥(v.2.1.2 (↑k:Int).toNat).2.1) then true else decide ((v.2.1.2 (↑k:Int).toNat).2.1≥v.1))&&decide ((↑k:Int)>0))=true)→(R0 ((↑k:Int) - 1))),((((!bif bif decide ((v.2.1.2 (↑k:Int).toNat).1<0) then true else decide ((v.2.1.2 (↑k:Int).toNat).1≥(v.2.1.2 (↑k:Int).toNat).2.1) then true else decide ((v.2.1.2 (↑k:Int).toNat).2.1≥v.1))&&decide ((↑k:Int)>0))=true)→(R1 ((↑k:Int) - 1))),(AG ((!bif bif decide ((v.2.1.2 (↑k:Int).toNat).1<0) then true else decide ((v.2.1.2 (↑k:Int).toNat).1≥(v.2.1.2 (↑k:Int).toNat).2.1) then true else decide ((v.2.1.2 (↑k:Int).toNat).2.1≥v.1))&&decide ((↑k:Int)>0))),(AG ((!bif bif decide ((v.2.1.2 (↑k:Int).toNat).1<0) then true else decide ((v.2.1.2 (↑k:Int).toNat).1≥(v.2.1.2 (↑k:Int).toNat).2.1) then true else decide ((v.2.1.2 (↑k:Int).toNat).2.1≥v.1))&&decide ((↑k:Int)>0))),((((!bif bif decide ((v.2.1.2 (↑k:Int).toNat).1<0) then true else decide ((v.2.1.2 (↑k:Int).toNat).1≥(v.2.1.2 (↑k:Int).toNat).2.1) then true else decide ((v.2.1.2 (↑k:Int).toNat).2.1≥v.1))&&decide ((↑k:Int)>0))=true)→(IL 0 ((↑k:Int) - 1))),((((!bif bif decide ((v.2.1.2 (↑k:Int).toNat).1<0) then true else decide ((v.2.1.2 (↑k:Int).toNat).1≥(v.2.1.2 (↑k:Int).toNat).2.1) then true else decide ((v.2.1.2 (↑k:Int).toNat).2.1≥v.1))&&decide ((↑k:Int)>0))=true)→(IT ((↑k:Int) - 1) (↑v.2.1.1:Int))),(AG ((!bif bif decide ((v.2.1.2 (↑k:Int).toNat).1<0) then true else decide ((v.2.1.2 (↑k:Int).toNat).1≥(v.2.1.2 (↑k:Int).toNat).2.1) then true else decide ((v.2.1.2 (↑k:Int).toNat).2.1≥v.1))&&decide ((↑k:Int)>0))),((((!bif bif decide ((v.2.1.2 (↑k:Int).toNat).1<0) then true else decide ((v.2.1.2 (↑k:Int).toNat).1≥(v.2.1.2 (↑k:Int).toNat).2.1) then true else decide ((v.2.1.2 (↑k:Int).toNat).2.1≥v.1))&&decide ((↑k:Int)>0))=true)→(NT 0 1)),(AG ((!bif bif decide ((v.2.1.2 (↑k:Int).toNat).1<0) then true else decide ((v.2.1.2 (↑k:Int).toNat).1≥(v.2.1.2 (↑k:Int).toNat).2.1) then true else decide ((v.2.1.2 (↑k:Int).toNat).2.1≥v.1))&&decide ((↑k:Int)>0))),(AG ((!bif bif decide ((v.2.1.2 (↑k:Int).toNat).1<0) then true else decide ((v.2.1.2 (↑k:Int).toNat).1≥(v.2.1.2 (↑k:Int).toNat).2.1) then true else decide ((v.2.1.2 (↑k:Int).toNat).2.1≥v.1))&&decide ((↑k:Int)>0))),((((!bif bif decide ((v.2.1.2 (↑k:Int).toNat).1<0) then true else decide ((v.2.1.2 (↑k:Int).toNat).1≥(v.2.1.2 (↑k:Int).toNat).2.1) then true else decide ((v.2.1.2 (↑k:Int).toNat).2.1≥v.1))&&decide ((↑k:Int)>0))=true)→ Con Tryz.prog 168 0 [] [(zf107 v k),(zf121 v k)] [] (.p (.bool (aft (v.2.1.2 ((↑k:Int) - 1).toNat) (v.2.1.2 k))))),(AG ((!bif bif decide ((v.2.1.2 (↑k:Int).toNat).1<0) then true else decide ((v.2.1.2 (↑k:Int).toNat).1≥(v.2.1.2 (↑k:Int).toNat).2.1) then true else decide ((v.2.1.2 (↑k:Int).toNat).2.1≥v.1))&&decide ((↑k:Int)>0))),(AG (!bif bif decide ((v.2.1.2 (↑k:Int).toNat).1<0) then true else decide ((v.2.1.2 (↑k:Int).toNat).1≥(v.2.1.2 (↑k:Int).toNat).2.1) then true else decide ((v.2.1.2 (↑k:Int).toNat).2.1≥v.1))),(((!bif bif decide ((v.2.1.2 (↑k:Int).toNat).1<0) then true else decide ((v.2.1.2 (↑k:Int).toNat).1≥(v.2.1.2 (↑k:Int).toNat).2.1) then true else decide ((v.2.1.2 (↑k:Int).toNat).2.1≥v.1))=true)→(((decide ((↑k:Int)>0))=true)→ (((!bif bif decide ((v.2.1.2 (↑k:Int).toNat).1<0) then true else decide ((v.2.1.2 (↑k:Int).toNat).1≥(v.2.1.2 (↑k:Int).toNat).2.1) then true else decide ((v.2.1.2 (↑k:Int).toNat).2.1≥v.1))&&decide ((↑k:Int)>0))=true))),(((bif bif decide ((v.2.1.2 (↑k:Int).toNat).1<0) then true else decide ((v.2.1.2 (↑k:Int).toNat).1≥(v.2.1.2 (↑k:Int).toNat).2.1) then true else decide ((v.2.1.2 (↑k:Int).toNat).2.1≥v.1))=false)→ ((!bif bif decide ((v.2.1.2 (↑k:Int).toNat).1<0) then true else decide ((v.2.1.2 (↑k:Int).toNat).1≥(v.2.1.2 (↑k:Int).toNat).2.1) then true else decide ((v.2.1.2 (↑k:Int).toNat).2.1≥v.1))=true)),((bif bif bif decide ((v.2.1.2 (↑k:Int).toNat).1<0) then true else decide ((v.2.1.2 (↑k:Int).toNat).1≥(v.2.1.2 (↑k:Int).toNat).2.1) then true else decide ((v.2.1.2 (↑k:Int).toNat).2.1≥v.1) then true else bif decide ((↑k:Int)>0) then !aft (v.2.1.2 ((↑k:Int) - 1).toNat) (v.2.1.2 k) else false)=false),(R0 ((↑k:Int)+1)),(R1 ((↑k:Int)+1)),(AI v.1),(AN v.2.1.1),(AP v.2.1.1 (fun i=>[.int .i64 ((v.2.1.2 i).1),.int .i64 ((v.2.1.2 i).2.1)])),(AN 0),((((↑k:Int)+1):Int)=(↑(k+1):Int)),(AN 2),(NL 1 1),(NL 1 1),(AI v.1),(AN v.2.1.1),(AP v.2.1.1 (fun i=>[.int .i64 ((v.2.1.2 i).1),.int .i64 ((v.2.1.2 i).2.1)]))]):=by kernel_rfl
theorem p48c (v:T_Graph) (k:Nat) :
    pathOb Tryz.prog Tryz.f53 0 [rg 5,.dec true,rg 7,rm [(28,oc [] (.p (.bool (aft (v.2.1.2 ((k:Int) - 1).toNat) (v.2.1.2 k)))))] 3,.dec true,rg 1] zf77 (S48 v k) [] 1 [] (.p (.bool false)) =
    some [(NT 0 1),((decide ((↑k:Int)<(↑v.2.1.1:Int)))=true),(NT 0 1),(IL 0 (↑k:Int)),(IT (↑k:Int) (↑v.2.1.1:Int)),(NT 0 1),((true=true)→ (AN 1)),(NT 0 1),(AG (!decide ((v.2.1.2 (↑k:Int).toNat).1<0))),(((!decide ((v.2.1.2 (↑k:Int).toNat).1<0))=true)→(NT 0 1)),(AG (!decide ((v.2.1.2 (↑k:Int).toNat).1<0))),(((!decide ((v.2.1.2 (↑k:Int).toNat).1<0))=true)→(NT 0 1)),(AG (!decide ((v.2.1.2 (↑k:Int).toNat).1<0))),(AG (!decide ((v.2.1.2 (↑k:Int).toNat).1<0))),(((decide ((v.2.1.2 (↑k:Int).toNat).1<0))=false)→ ((!decide ((v.2.1.2 (↑k:Int).toNat).1<0))=true)),(AG (!bif decide ((v.2.1.2 (↑k:Int).toNat).1<0) then true else decide ((v.2.1.2 (↑k:Int).toNat).1≥(v.2.1.2 (↑k:Int).toNat).2.1))),(((!bif decide ((v.2.1.2 (↑k:Int).toNat).1<0) then true else decide ((v.2.1.2 (↑k:Int).toNat).1≥(v.2.1.2 (↑k:Int).toNat).2.1))=true)→(NT 0 1)),(AG (!bif decide ((v.2.1.2 (↑k:Int).toNat).1<0) then true else decide ((v.2.1.2 (↑k:Int).toNat).1≥(v.2.1.2 (↑k:Int).toNat).2.1))),(((!bif decide ((v.2.1.2 (↑k:Int).toNat).1<0) then true else decide ((v.2.1.2 (↑k:Int).toNat).1≥(v.2.1.2 (↑k:Int).toNat).2.1))=true)→(NT 0 1)),(AG (!bif decide ((v.2.1.2 (↑k:Int).toNat).1<0) then true else decide ((v.2.1.2 (↑k:Int).toNat).1≥(v.2.1.2 (↑k:Int).toNat).2.1))),(AG (!bif decide ((v.2.1.2 (↑k:Int).toNat).1<0) then true else decide ((v.2.1.2 (↑k:Int).toNat).1≥(v.2.1.2 (↑k:Int).toNat).2.1))),(((bif decide ((v.2.1.2 (↑k:Int).toNat).1<0) then true else decide ((v.2.1.2 (↑k:Int).toNat).1≥(v.2.1.2 (↑k:Int).toNat).2.1))=false)→ ((!bif decide ((v.2.1.2 (↑k:Int).toNat).1<0) then true else decide ((v.2.1.2 (↑k:Int).toNat).1≥(v.2.1.2 (↑k:Int).toNat).2.1))=true)),(AG (!bif bif decide ((v.2.1.2 (↑k:Int).toNat).1<0) then true else decide ((v.2.1.2 (↑k:Int).toNat).1≥(v.2.1.2 (↑k:Int).toNat).2.1) then true else decide ((v.2.1.2 (↑k:Int).toNat).2.1≥v.1))),(AG (!bif bif decide ((v.2.1.2 (↑k:Int).toNat).1<0) then true else decide ((v.2.1.2 (↑k:Int).toNat).1≥(v.2.1.2 (↑k:Int).toNat).2.1) then true else decide ((v.2.1.2 (↑k:Int).toNat).2.1≥v.1))),(AG ((!bif bif decide ((v.2.1.2 (↑k:Int).toNat).1<0) then true else decide ((v.2.1.2 (↑k:Int).toNat).1≥(v.2.1.2 (↑k:Int).toNat).2.1) then true else decide ((v.2.1.2 (↑k:Int).toNat).2.1≥v.1))&&decide ((↑k:Int)>0))),((((!bif bif decide ((v.2.1.2 (↑k:Int).toNat).1<0) then true else decide ((v.2.1.2 (↑k:Int).toNat).1≥(v.2.1.2 (↑k:Int).toNat).2.1) then true else decide ((v.2.1.2 (↑k:Int).toNat).2.1≥v.1))&&decide ((↑k:Int)>0))=true)→(NT 0 1)),(AG ((!bif bif decide ((v.2.1.2 (↑k:Int).toNat).1<0) then true else decide ((v.2.1.2 (↑k:Int).toNat).1≥(v.2.1.2 (↑k:Int).toNat).2.1) then true else decide ((v.2.1.2 (↑k:Int).toNat).2.1≥v.1))&&decide ((↑k:Int)>0))),((((!bif bif decide ((v.2.1.2 (↑k:Int).toNat).1<0) then true else decide ((v.2.1.2 (↑k:Int).toNat).1≥(v.2.1.2 (↑k:Int).toNat).2.1) then true else decide ((v.2.1.2 (↑k:Int).toNat).2.1≥v.1))&&decide ((↑k:Int)>0))=true)→(R0 ((↑k:Int) - 1))),((((!bif bif decide ((v.2.1.2 (↑k:Int).toNat).1<0) then true else decide ((v.2.1.2 (↑k:Int).toNat).1≥(v.2.1.2 (↑k:Int).toNat).2.1) then true else decide ((v.2.1.2 (↑k:Int).toNat).2.1≥v.1))&&decide ((↑k:Int)>0))=true)→(R1 ((↑k:Int) - 1))),(AG ((!bif bif decide ((v.2.1.2 (↑k:Int).toNat).1<0) then true else decide ((v.2.1.2 (↑k:Int).toNat).1≥(v.2.1.2 (↑k:Int).toNat).2.1) then true else decide ((v.2.1.2 (↑k:Int).toNat).2.1≥v.1))&&decide ((↑k:Int)>0))),(AG ((!bif bif decide ((v.2.1.2 (↑k:Int).toNat).1<0) then true else decide ((v.2.1.2 (↑k:Int).toNat).1≥(v.2.1.2 (↑k:Int).toNat).2.1) then true else decide ((v.2.1.2 (↑k:Int).toNat).2.1≥v.1))&&decide ((↑k:Int)>0))),((((!bif bif decide ((v.2.1.2 (↑k:Int).toNat).1<0) then true else decide ((v.2.1.2 (↑k:Int).toNat).1≥(v.2.1.2 (↑k:Int).toNat).2.1) then true else decide ((v.2.1.2 (↑k:Int).toNat).2.1≥v.1))&&decide ((↑k:Int)>0))=true)→(IL 0 ((↑k:Int) - 1))),((((!bif bif decide ((v.2.1.2 (↑k:Int).toNat).1<0) then true else decide ((v.2.1.2 (↑k:Int).toNat).1≥(v.2.1.2 (↑k:Int).toNat).2.1) then true else decide ((v.2.1.2 (↑k:Int).toNat).2.1≥v.1))&&decide ((↑k:Int)>0))=true)→(IT ((↑k:Int) - 1) (↑v.2.1.1:Int))),(AG ((!bif bif decide ((v.2.1.2 (↑k:Int).toNat).1<0) then true else decide ((v.2.1.2 (↑k:Int).toNat).1≥(v.2.1.2 (↑k:Int).toNat).2.1) then true else decide ((v.2.1.2 (↑k:Int).toNat).2.1≥v.1))&&decide ((↑k:Int)>0))),((((!bif bif decide ((v.2.1.2 (↑k:Int).toNat).1<0) then true else decide ((v.2.1.2 (↑k:Int).toNat).1≥(v.2.1.2 (↑k:Int).toNat).2.1) then true else decide ((v.2.1.2 (↑k:Int).toNat).2.1≥v.1))&&decide ((↑k:Int)>0))=true)→(NT 0 1)),(AG ((!bif bif decide ((v.2.1.2 (↑k:Int).toNat).1<0) then true else decide ((v.2.1.2 (↑k:Int).toNat).1≥(v.2.1.2 (↑k:Int).toNat).2.1) then true else decide ((v.2.1.2 (↑k:Int).toNat).2.1≥v.1))&&decide ((↑k:Int)>0))),(AG ((!bif bif decide ((v.2.1.2 (↑k:Int).toNat).1<0) then true else decide ((v.2.1.2 (↑k:Int).toNat).1≥(v.2.1.2 (↑k:Int).toNat).2.1) then true else decide ((v.2.1.2 (↑k:Int).toNat).2.1≥v.1))&&decide ((↑k:Int)>0))),((((!bif bif decide ((v.2.1.2 (↑k:Int).toNat).1<0) then true else decide ((v.2.1.2 (↑k:Int).toNat).1≥(v.2.1.2 (↑k:Int).toNat).2.1) then true else decide ((v.2.1.2 (↑k:Int).toNat).2.1≥v.1))&&decide ((↑k:Int)>0))=true)→ Con Tryz.prog 168 0 [] [(zf107 v k),(zf121 v k)] [] (.p (.bool (aft (v.2.1.2 ((↑k:Int) - 1).toNat) (v.2.1.2 k))))),(AG ((!bif bif decide ((v.2.1.2 (↑k:Int).toNat).1<0) then true else decide ((v.2.1.2 (↑k:Int).toNat).1≥(v.2.1.2 (↑k:Int).toNat).2.1) then true else decide ((v.2.1.2 (↑k:Int).toNat).2.1≥v.1))&&decide ((↑k:Int)>0))),(AG (!bif bif decide ((v.2.1.2 (↑k:Int).toNat).1<0) then true else decide ((v.2.1.2 (↑k:Int).toNat).1≥(v.2.1.2 (↑k:Int).toNat).2.1) then true else decide ((v.2.1.2 (↑k:Int).toNat).2.1≥v.1))),(((!bif bif decide ((v.2.1.2 (↑k:Int).toNat).1<0) then true else decide ((v.2.1.2 (↑k:Int).toNat).1≥(v.2.1.2 (↑k:Int).toNat).2.1) then true else decide ((v.2.1.2 (↑k:Int).toNat).2.1≥v.1))=true)→(((decide ((↑k:Int)>0))=true)→ (((!bif bif decide ((v.2.1.2 (↑k:Int).toNat).1<0) then true else decide ((v.2.1.2 (↑k:Int).toNat).1≥(v.2.1.2 (↑k:Int).toNat).2.1) then true else decide ((v.2.1.2 (↑k:Int).toNat).2.1≥v.1))&&decide ((↑k:Int)>0))=true))),(((bif bif decide ((v.2.1.2 (↑k:Int).toNat).1<0) then true else decide ((v.2.1.2 (↑k:Int).toNat).1≥(v.2.1.2 (↑k:Int).toNat).2.1) then true else decide ((v.2.1.2 (↑k:Int).toNat).2.1≥v.1))=false)→ ((!bif bif decide ((v.2.1.2 (↑k:Int).toNat).1<0) then true else decide ((v.2.1.2 (↑k:Int).toNat).1≥(v.2.1.2 (↑k:Int).toNat).2.1) then true else decide ((v.2.1.2 (↑k:Int).toNat).2.1≥v.1))=true)),((bif bif bif decide ((v.2.1.2 (↑k:Int).toNat).1<0) then true else decide ((v.2.1.2 (↑k:Int).toNat).1≥(v.2.1.2 (↑k:Int).toNat).2.1) then true else decide ((v.2.1.2 (↑k:Int).toNat).2.1≥v.1) then true else bif decide ((↑k:Int)>0) then !aft (v.2.1.2 ((↑k:Int) - 1).toNat) (v.2.1.2 k) else false)=true),(false=false)]:=by kernel_rfl
theorem p48d (v:T_Graph) (k:Nat) :
    pathOb Tryz.prog Tryz.f53 0 [rg 5,.dec false,rg 1] zf77 (S48 v k) [] 1 [] (.p (.bool true)) =
    some [(NT 0 1),((decide ((↑k:Int)<(↑v.2.1.1:Int)))=false),(true=true)]:=by kernel_rfl
theorem p51z (v:T_Graph) :
    pathOb Tryz.prog Tryz.f62 0 [rg 2,rm [(2,oc [] (.p (.bool (inB v.1 1 8))))] 7,.dec true,rg 1] [.code (bodyOf Tryz.f62)] (start Tryz.f62 [] 0 [graphA v]) [] 1 [] (.p (.bool false)) =
    some [(NT 0 1),Con Tryz.prog 179 0 [] [.p (.int .i64 v.1),.p (.int .i64 1),.p (.int .i64 8)] [] (.p (.bool (inB v.1 1 8))),(AG (!!inB v.1 1 8)),(((!!inB v.1 1 8)=true)→(NT 0 1)),(AG (!!inB v.1 1 8)),(AG (!!inB v.1 1 8)),(((!inB v.1 1 8)=false)→ ((!!inB v.1 1 8)=true)),((bif !inB v.1 1 8 then true else decide ((↑v.2.1.1:Int)>24))=true),(false=false)]:=by kernel_rfl
theorem p51a (v:T_Graph) :
    pieceOb Tryz.prog 0 [rg 2,rm [(2,oc [] (.p (.bool (inB v.1 1 8))))] 7,.dec false,rg 4,.head] [.code (bodyOf Tryz.f62)] (start Tryz.f62 [] 0 [graphA v]) [0] 1 (S51 v 0) =
    some (zf78,[(NT 0 1),Con Tryz.prog 179 0 [] [.p (.int .i64 v.1),.p (.int .i64 1),.p (.int .i64 8)] [] (.p (.bool (inB v.1 1 8))),(AG (!!inB v.1 1 8)),(((!!inB v.1 1 8)=true)→(NT 0 1)),(AG (!!inB v.1 1 8)),(AG (!!inB v.1 1 8)),(((!inB v.1 1 8)=false)→ ((!!inB v.1 1 8)=true)),((bif !inB v.1 1 8 then true else decide ((↑v.2.1.1:Int)>24))=false),(NT 0 1),(AI v.1),(AN v.2.1.1),(AP v.2.1.1 (fun i=>[.int .i64 ((v.2.1.2 i).1),.int .i64 ((v.2.1.2 i).2.1)])),(AN 0),(AN v.2.1.1),(AP v.2.1.1 (fun i=>[.int .i64 ((v.2.1.2 i).1),.int .i64 ((v.2.1.2 i).2.1)])),(AI ((↑v.2.1.1:Int))),((0:Int)=(↑0:Int)),((([AV.p (PV.int IntKind.i64 v.1),graphL v.2.1].length):Nat)=2),(NL 1 1),(NL 1 1),(AI v.1),(AN v.2.1.1),(AP v.2.1.1 (fun i=>[.int .i64 ((v.2.1.2 i).1),.int .i64 ((v.2.1.2 i).2.1)]))]):=by kernel_rfl
theorem p51b (v:T_Graph) (k:Nat) :
    pieceOb Tryz.prog 0 [rg 1,.dec true,rg 6,rm [(28,oc [] (.p (.int .i64 (cmpB (v.2.1.2 ((k:Int) - 1).toNat) (v.2.1.2 k)))))] 3,.dec false,rg 2,.head] zf78 (S51 v k) [0] 1 (S51 v (k+1)) =
    some (zf78,[((decide ((↑k:Int)<(↑v.2.1.1:Int)))=true),(IL 0 (↑k:Int)),(IT (↑k:Int) (↑v.2.1.1:Int)),(NT 0 1),((true=true)→ (AN 1)),(NT 0 1),(AG (!decide ((v.2.1.2 (↑k:Int).toNat).1<0))),(((!decide ((v.2.1.2 (↑k:Int).toNat).1<0))=true)→(NT 0 1)),(AG (!decide ((v.2.1.2 (↑k:Int).toNat).1<0))),(((!decide ((v.2.1.2 (↑k:Int).toNat).1<0))=true)→(NT 0 1)),(AG (!decide ((v.2.1.2 (↑k:Int).toNat).1<0))),(AG (!decide ((v.2.1.2 (↑k:Int).toNat).1<0))),(((decide ((v.2.1.2 (↑k:Int).toNat).1<0))=false)→ ((!decide ((v.2.1.2 (↑k:Int).toNat).1<0))=true)),(AG (!bif decide ((v.2.1.2 (↑k:Int).toNat).1<0) then true else decide ((v.2.1.2 (↑k:Int).toNat).1≥(v.2.1.2 (↑k:Int).toNat).2.1))),(((!bif decide ((v.2.1.2 (↑k:Int).toNat).1<0) then true else decide ((v.2.1.2 (↑k:Int).toNat).1≥(v.2.1.2 (↑k:Int).toNat).2.1))=true)→(NT 0 1)),(AG (!bif decide ((v.2.1.2 (↑k:Int).toNat).1<0) then true else decide ((v.2.1.2 (↑k:Int).toNat).1≥(v.2.1.2 (↑k:Int).toNat).2.1))),(((!bif decide ((v.2.1.2 (↑k:Int).toNat).1<0) then true else decide ((v.2.1.2 (↑k:Int).toNat).1≥(v.2.1.2 (↑k:Int).toNat).2.1))=true)→(NT 0 1)),(AG (!bif decide ((v.2.1.2 (↑k:Int).toNat).1<0) then true else decide ((v.2.1.2 (↑k:Int).toNat).1≥(v.2.1.2 (↑k:Int).toNat).2.1))),(AG (!bif decide ((v.2.1.2 (↑k:Int).toNat).1<0) then true else decide ((v.2.1.2 (↑k:Int).toNat).1≥(v.2.1.2 (↑k:Int).toNat).2.1))),(((bif decide ((v.2.1.2 (↑k:Int).toNat).1<0) then true else decide ((v.2.1.2 (↑k:Int).toNat).1≥(v.2.1.2 (↑k:Int).toNat).2.1))=false)→ ((!bif decide ((v.2.1.2 (↑k:Int).toNat).1<0) then true else decide ((v.2.1.2 (↑k:Int).toNat).1≥(v.2.1.2 (↑k:Int).toNat).2.1))=true)),(AG (!bif bif decide ((v.2.1.2 (↑k:Int).toNat).1<0) then true else decide ((v.2.1.2 (↑k:Int).toNat).1≥(v.2.1.2 (↑k:Int).toNat).2.1) then true else decide ((v.2.1.2 (↑k:Int).toNat).2.1≥v.1))),(AG (!bif bif decide ((v.2.1.2 (↑k:Int).toNat).1<0) then true else decide ((v.2.1.2 (↑k:Int).toNat).1≥(v.2.1.2 (↑k:Int).toNat).2.1) then true else decide ((v.2.1.2 (↑k:Int).toNat).2.1≥v.1))),(AG ((!bif bif decide ((v.2.1.2 (↑k:Int).toNat).1<0) then true else decide ((v.2.1.2 (↑k:Int).toNat).1≥(v.2.1.2 (↑k:Int).toNat).2.1) then true else decide ((v.2.1.2 (↑k:Int).toNat).2.1≥v.1))&&decide ((↑k:Int)>0))),((((!bif bif decide ((v.2.1.2 (↑k:Int).toNat).1<0) then true else decide ((v.2.1.2 (↑k:Int).toNat).1≥(v.2.1.2 (↑k:Int).toNat).2.1) then true else decide ((v.2.1.2 (↑k:Int).toNat).2.1≥v.1))&&decide ((↑k:Int)>0))=true)→(NT 0 1)),(AG ((!bif bif decide ((v.2.1.2 (↑k:Int).toNat).1<0) then true else decide ((v.2.1.2 (↑k:Int).toNat).1≥(v.2.1.2 (↑k:Int).toNat).2.1) then true else decide ((v.2.1.2 (↑k:Int).toNat).2.1≥v.1))&&decide ((↑k:Int)>0))),((((!bif bif decide ((v.2.1.2 (↑k:Int).toNat).1<0) then true else decide ((v.2.1.2 (↑k:Int).toNat).1≥(v.2.1.2 (↑k:Int).toNat).2.1) then true else decide ((v.2.1.2 (↑k:Int).toNat).2.1≥v.1))&&decide ((↑k:Int)>0))=true)→(R0 ((↑k:Int) - 1))),((((!bif bif decide ((v.2.1.2 (↑k:Int).toNat).1<0) then true else decide ((v.2.1.2 (↑k:Int).toNat).1≥(v.2.1.2 (↑k:Int).toNat).2.1) then true else decide ((v.2.1.2 (↑k:Int).toNat).2.1≥v.1))&&decide ((↑k:Int)>0))=true)→(R1 ((↑k:Int) - 1))),(AG ((!bif bif decide ((v.2.1.2 (↑k:Int).toNat).1<0) then true else decide ((v.2.1.2 (↑k:Int).toNat).1≥(v.2.1.2 (↑k:Int).toNat).2.1) then true else decide ((v.2.1.2 (↑k:Int).toNat).2.1≥v.1))&&decide ((↑k:Int)>0))),(AG ((!bif bif decide ((v.2.1.2 (↑k:Int).toNat).1<0) then true else decide ((v.2.1.2 (↑k:Int).toNat).1≥(v.2.1.2 (↑k:Int).toNat).2.1) then true else decide ((v.2.1.2 (↑k:Int).toNat).2.1≥v.1))&&decide ((↑k:Int)>0))),((((!bif bif decide ((v.2.1.2 (↑k:Int).toNat).1<0) then true else decide ((v.2.1.2 (↑k:Int).toNat).1≥(v.2.1.2 (↑k:Int).toNat).2.1) then true else decide ((v.2.1.2 (↑k:Int).toNat).2.1≥v.1))&&decide ((↑k:Int)>0))=true)→(IL 0 ((↑k:Int) - 1))),((((!bif bif decide ((v.2.1.2 (↑k:Int).toNat).1<0) then true else decide ((v.2.1.2 (↑k:Int).toNat).1≥(v.2.1.2 (↑k:Int).toNat).2.1) then true else decide ((v.2.1.2 (↑k:Int).toNat).2.1≥v.1))&&decide ((↑k:Int)>0))=true)→(IT ((↑k:Int) - 1) (↑v.2.1.1:Int))),(AG ((!bif bif decide ((v.2.1.2 (↑k:Int).toNat).1<0) then true else decide ((v.2.1.2 (↑k:Int).toNat).1≥(v.2.1.2 (↑k:Int).toNat).2.1) then true else decide ((v.2.1.2 (↑k:Int).toNat).2.1≥v.1))&&decide ((↑k:Int)>0))),((((!bif bif decide ((v.2.1.2 (↑k:Int).toNat).1<0) then true else decide ((v.2.1.2 (↑k:Int).toNat).1≥(v.2.1.2 (↑k:Int).toNat).2.1) then true else decide ((v.2.1.2 (↑k:Int).toNat).2.1≥v.1))&&decide ((↑k:Int)>0))=true)→(NT 0 1)),(AG ((!bif bif decide ((v.2.1.2 (↑k:Int).toNat).1<0) then true else decide ((v.2.1.2 (↑k:Int).toNat).1≥(v.2.1.2 (↑k:Int).toNat).2.1) then true else decide ((v.2.1.2 (↑k:Int).toNat).2.1≥v.1))&&decide ((↑k:Int)>0))),(AG ((!bif bif decide ((v.2.1.2 (↑k:Int).toNat).1<0) then true else decide ((v.2.1.2 (↑k:Int).toNat).1≥(v.2.1.2 (↑k:Int).toNat).2.1) then true else decide ((v.2.1.2 (↑k:Int).toNat).2.1≥v.1))&&decide ((↑k:Int)>0))),((((!bif bif decide ((v.2.1.2 (↑k:Int).toNat).1<0) then true else decide ((v.2.1.2 (↑k:Int).toNat).1≥(v.2.1.2 (↑k:Int).toNat).2.1) then true else decide ((v.2.1.2 (↑k:Int).toNat).2.1≥v.1))&&decide ((↑k:Int)>0))=true)→ Con Tryz.prog 180 0 [] [(zf107 v k),(zf121 v k)] [] (.p (.int .i64 (cmpB (v.2.1.2 ((↑k:Int) - 1).toNat) (v.2.1.2 k))))),(AG ((!bif bif decide ((v.2.1.2 (↑k:Int).toNat).1<0) then true else decide ((v.2.1.2 (↑k:Int).toNat).1≥(v.2.1.2 (↑k:Int).toNat).2.1) then true else decide ((v.2.1.2 (↑k:Int).toNat).2.1≥v.1))&&decide ((↑k:Int)>0))),(AG (!bif bif decide ((v.2.1.2 (↑k:Int).toNat).1<0) then true else decide ((v.2.1.2 (↑k:Int).toNat).1≥(v.2.1.2 (↑k:Int).toNat).2.1) then true else decide ((v.2.1.2 (↑k:Int).toNat).2.1≥v.1))),(((!bif bif decide ((v.2.1.2 (↑k:Int).toNat).1<0) then true else decide ((v.2.1.2 (↑k:Int).toNat).1≥(v.2.1.2 (↑k:Int).toNat).2.1) then true else decide ((v.2.1.2 (↑k:Int).toNat).2.1≥v.1))=true)→(((decide ((↑k:Int)>0))=true)→ (((!bif bif decide ((v.2.1.2 (↑k:Int).toNat).1<0) then true else decide ((v.2.1.2 (↑k:Int).toNat).1≥(v.2.1.2 (↑k:Int).toNat).2.1) then true else decide ((v.2.1.2 (↑k:Int).toNat).2.1≥v.1))&&decide ((↑k:Int)>0))=true))),(((bif bif decide ((v.2.1.2 (↑k:Int).toNat).1<0) then true else decide ((v.2.1.2 (↑k:Int).toNat).1≥(v.2.1.2 (↑k:Int).toNat).2.1) then true else decide ((v.2.1.2 (↑k:Int).toNat).2.1≥v.1))=false)→ ((!bif bif decide ((v.2.1.2 (↑k:Int).toNat).1<0) then true else decide ((v.2.1.2 (↑k:Int).toNat).1≥(v.2.1.2 (↑k:Int).toNat).2.1) then true else decide ((v.2.1.2 (↑k:Int).toNat).2.1≥v.1))=true)),((bif bif bif decide ((v.2.1.2 (↑k:Int).toNat).1<0) then true else decide ((v.2.1.2 (↑k:Int).toNat).1≥(v.2.1.2 (↑k:Int).toNat).2.1) then true else decide ((v.2.1.2 (↑k:Int).toNat).2.1≥v.1) then true else bif decide ((↑k:Int)>0) then decide (cmpB (v.2.1.2 ((↑k:Int) - 1).toNat) (v.2.1.2 k)>0) else false)=false),(R0 ((↑k:Int)+1)),(R1 ((↑k:Int)+1)),(AI v.1),(AN v.2.1.1),(AP v.2.1.1 (fun i=>[.int .i64 ((v.2.1.2 i).1),.int .i64 ((v.2.1.2 i).2.1)])),(AN 0),(AN v.2.1.1),(AP v.2.1.1 (fun i=>[.int .i64 ((v.2.1.2 i).1),.int .i64 ((v.2.1.2 i).2.1)])),(AI ((↑v.2.1.1:Int))),((((↑k:Int)+1):Int)=(↑(k+1):Int)),(AN 2),(NL 1 1),(NL 1 1),(AI v.1),(AN v.2.1.1),(AP v.2.1.1 (fun i=>[.int .i64 ((v.2.1.2 i).1),.int .i64 ((v.2.1.2 i).2.1)]))]):=by kernel_rfl
theorem p51c (v:T_Graph) (k:Nat) :
    pathOb Tryz.prog Tryz.f62 0 [rg 1,.dec true,rg 6,rm [(28,oc [] (.p (.int .i64 (cmpB (v.2.1.2 ((k:Int) - 1).toNat) (v.2.1.2 k)))))] 3,.dec true,rg 1] zf78 (S51 v k) [] 1 [] (.p (.bool false)) =
    some [((decide ((↑k:Int)<(↑v.2.1.1:Int)))=true),(IL 0 (↑k:Int)),(IT (↑k:Int) (↑v.2.1.1:Int)),(NT 0 1),((true=true)→ (AN 1)),(NT 0 1),(AG (!decide ((v.2.1.2 (↑k:Int).toNat).1<0))),(((!decide ((v.2.1.2 (↑k:Int).toNat).1<0))=true)→(NT 0 1)),(AG (!decide ((v.2.1.2 (↑k:Int).toNat).1<0))),(((!decide ((v.2.1.2 (↑k:Int).toNat).1<0))=true)→(NT 0 1)),(AG (!decide ((v.2.1.2 (↑k:Int).toNat).1<0))),(AG (!decide ((v.2.1.2 (↑k:Int).toNat).1<0))),(((decide ((v.2.1.2 (↑k:Int).toNat).1<0))=false)→ ((!decide ((v.2.1.2 (↑k:Int).toNat).1<0))=true)),(AG (!bif decide ((v.2.1.2 (↑k:Int).toNat).1<0) then true else decide ((v.2.1.2 (↑k:Int).toNat).1≥(v.2.1.2 (↑k:Int).toNat).2.1))),(((!bif decide ((v.2.1.2 (↑k:Int).toNat).1<0) then true else decide ((v.2.1.2 (↑k:Int).toNat).1≥(v.2.1.2 (↑k:Int).toNat).2.1))=true)→(NT 0 1)),(AG (!bif decide ((v.2.1.2 (↑k:Int).toNat).1<0) then true else decide ((v.2.1.2 (↑k:Int).toNat).1≥(v.2.1.2 (↑k:Int).toNat).2.1))),(((!bif decide ((v.2.1.2 (↑k:Int).toNat).1<0) then true else decide ((v.2.1.2 (↑k:Int).toNat).1≥(v.2.1.2 (↑k:Int).toNat).2.1))=true)→(NT 0 1)),(AG (!bif decide ((v.2.1.2 (↑k:Int).toNat).1<0) then true else decide ((v.2.1.2 (↑k:Int).toNat).1≥(v.2.1.2 (↑k:Int).toNat).2.1))),(AG (!bif decide ((v.2.1.2 (↑k:Int).toNat).1<0) then true else decide ((v.2.1.2 (↑k:Int).toNat).1≥(v.2.1.2 (↑k:Int).toNat).2.1))),(((bif decide ((v.2.1.2 (↑k:Int).toNat).1<0) then true else decide ((v.2.1.2 (↑k:Int).toNat).1≥(v.2.1.2 (↑k:Int).toNat).2.1))=false)→ ((!bif decide ((v.2.1.2 (↑k:Int).toNat).1<0) then true else decide ((v.2.1.2 (↑k:Int).toNat).1≥(v.2.1.2 (↑k:Int).toNat).2.1))=true)),(AG (!bif bif decide ((v.2.1.2 (↑k:Int).toNat).1<0) then true else decide ((v.2.1.2 (↑k:Int).toNat).1≥(v.2.1.2 (↑k:Int).toNat).2.1) then true else decide ((v.2.1.2 (↑k:Int).toNat).2.1≥v.1))),(AG (!bif bif decide ((v.2.1.2 (↑k:Int).toNat).1<0) then true else decide ((v.2.1.2 (↑k:Int).toNat).1≥(v.2.1.2 (↑k:Int).toNat).2.1) then true else decide ((v.2.1.2 (↑k:Int).toNat).2.1≥v.1))),(AG ((!bif bif decide ((v.2.1.2 (↑k:Int).toNat).1<0) then true else decide ((v.2.1.2 (↑k:Int).toNat).1≥(v.2.1.2 (↑k:Int).toNat).2.1) then true else decide ((v.2.1.2 (↑k:Int).toNat).2.1≥v.1))&&decide ((↑k:Int)>0))),((((!bif bif decide ((v.2.1.2 (↑k:Int).toNat).1<0) then true else decide ((v.2.1.2 (↑k:Int).toNat).1≥(v.2.1.2 (↑k:Int).toNat).2.1) then true else decide ((v.2.1.2 (↑k:Int).toNat).2.1≥v.1))&&decide ((↑k:Int)>0))=true)→(NT 0 1)),(AG ((!bif bif decide ((v.2.1.2 (↑k:Int).toNat).1<0) then true else decide ((v.2.1.2 (↑k:Int).toNat).1≥(v.2.1.2 (↑k:Int).toNat).2.1) then true else decide ((v.2.1.2 (↑k:Int).toNat).2.1≥v.1))&&decide ((↑k:Int)>0))),((((!bif bif decide ((v.2.1.2 (↑k:Int).toNat).1<0) then true else decide ((v.2.1.2 (↑k:Int).toNat).1≥(v.2.1.2 (↑k:Int).toNat).2.1) then true else decide ((v.2.1.2 (↑k:Int).toNat).2.1≥v.1))&&decide ((↑k:Int)>0))=true)→(R0 ((↑k:Int) - 1))),((((!bif bif decide ((v.2.1.2 (↑k:Int).toNat).1<0) then true else decide ((v.2.1.2 (↑k:Int).toNat).1≥(v.2.1.2 (↑k:Int).toNat).2.1) then true else decide ((v.2.1.2 (↑k:Int).toNat).2.1≥v.1))&&decide ((↑k:Int)>0))=true)→(R1 ((↑k:Int) - 1))),(AG ((!bif bif decide ((v.2.1.2 (↑k:Int).toNat).1<0) then true else decide ((v.2.1.2 (↑k:Int).toNat).1≥(v.2.1.2 (↑k:Int).toNat).2.1) then true else decide ((v.2.1.2 (↑k:Int).toNat).2.1≥v.1))&&decide ((↑k:Int)>0))),(AG ((!bif bif decide ((v.2.1.2 (↑k:Int).toNat).1<0) then true else decide ((v.2.1.2 (↑k:Int).toNat).1≥(v.2.1.2 (↑k:Int).toNat).2.1) then true else decide ((v.2.1.2 (↑k:Int).toNat).2.1≥v.1))&&decide ((↑k:Int)>0))),((((!bif bif decide ((v.2.1.2 (↑k:Int).toNat).1<0) then true else decide ((v.2.1.2 (↑k:Int).toNat).1≥(v.2.1.2 (↑k:Int).toNat).2.1) then true else decide ((v.2.1.2 (↑k:Int).toNat).2.1≥v.1))&&decide ((↑k:Int)>0))=true)→(IL 0 ((↑k:Int) - 1))),((((!bif bif decide ((v.2.1.2 (↑k:Int).toNat).1<0) then true else decide ((v.2.1.2 (↑k:Int).toNat).1≥(v.2.1.2 (↑k:Int).toNat).2.1) then true else decide ((v.2.1.2 (↑k:Int).toNat).2.1≥v.1))&&decide ((↑k:Int)>0))=true)→(IT ((↑k:Int) - 1) (↑v.2.1.1:Int))),(AG ((!bif bif decide ((v.2.1.2 (↑k:Int).toNat).1<0) then true else decide ((v.2.1.2 (↑k:Int).toNat).1≥(v.2.1.2 (↑k:Int).toNat).2.1) then true else decide ((v.2.1.2 (↑k:Int).toNat).2.1≥v.1))&&decide ((↑k:Int)>0))),((((!bif bif decide ((v.2.1.2 (↑k:Int).toNat).1<0) then true else decide ((v.2.1.2 (↑k:Int).toNat).1≥(v.2.1.2 (↑k:Int).toNat).2.1) then true else decide ((v.2.1.2 (↑k:Int).toNat).2.1≥v.1))&&decide ((↑k:Int)>0))=true)→(NT 0 1)),(AG ((!bif bif decide ((v.2.1.2 (↑k:Int).toNat).1<0) then true else decide ((v.2.1.2 (↑k:Int).toNat).1≥(v.2.1.2 (↑k:Int).toNat).2.1) then true else decide ((v.2.1.2 (↑k:Int).toNat).2.1≥v.1))&&decide ((↑k:Int)>0))),(AG ((!bif bif decide ((v.2.1.2 (↑k:Int).toNat).1<0) then true else decide ((v.2.1.2 (↑k:Int).toNat).1≥(v.2.1.2 (↑k:Int).toNat).2.1) then true else decide ((v.2.1.2 (↑k:Int).toNat).2.1≥v.1))&&decide ((↑k:Int)>0))),((((!bif bif decide ((v.2.1.2 (↑k:Int).toNat).1<0) then true else decide ((v.2.1.2 (↑k:Int).toNat).1≥(v.2.1.2 (↑k:Int).toNat).2.1) then true else decide ((v.2.1.2 (↑k:Int).toNat).2.1≥v.1))&&decide ((↑k:Int)>0))=true)→ Con Tryz.prog 180 0 [] [(zf107 v k),(zf121 v k)] [] (.p (.int .i64 (cmpB (v.2.1.2 ((↑k:Int) - 1).toNat) (v.2.1.2 k))))),(AG ((!bif bif decide ((v.2.1.2 (↑k:Int).toNat).1<0) then true else decide ((v.2.1.2 (↑k:Int).toNat).1≥(v.2.1.2 (↑k:Int).toNat).2.1) then true else decide ((v.2.1.2 (↑k:Int).toNat).2.1≥v.1))&&decide ((↑k:Int)>0))),(AG (!bif bif decide ((v.2.1.2 (↑k:Int).toNat).1<0) then true else decide ((v.2.1.2 (↑k:Int).toNat).1≥(v.2.1.2 (↑k:Int).toNat).2.1) then true else decide ((v.2.1.2 (↑k:Int).toNat).2.1≥v.1))),(((!bif bif decide ((v.2.1.2 (↑k:Int).toNat).1<0) then true else decide ((v.2.1.2 (↑k:Int).toNat).1≥(v.2.1.2 (↑k:Int).toNat).2.1) then true else decide ((v.2.1.2 (↑k:Int).toNat).2.1≥v.1))=true)→(((decide ((↑k:Int)>0))=true)→ (((!bif bif decide ((v.2.1.2 (↑k:Int).toNat).1<0) then true else decide ((v.2.1.2 (↑k:Int).toNat).1≥(v.2.1.2 (↑k:Int).toNat).2.1) then true else decide ((v.2.1.2 (↑k:Int).toNat).2.1≥v.1))&&decide ((↑k:Int)>0))=true))),(((bif bif decide ((v.2.1.2 (↑k:Int).toNat).1<0) then true else decide ((v.2.1.2 (↑k:Int).toNat).1≥(v.2.1.2 (↑k:Int).toNat).2.1) then true else decide ((v.2.1.2 (↑k:Int).toNat).2.1≥v.1))=false)→ ((!bif bif decide ((v.2.1.2 (↑k:Int).toNat).1<0) then true else decide ((v.2.1.2 (↑k:Int).toNat).1≥(v.2.1.2 (↑k:Int).toNat).2.1) then true else decide ((v.2.1.2 (↑k:Int).toNat).2.1≥v.1))=true)),((bif bif bif decide ((v.2.1.2 (↑k:Int).toNat).1<0) then true else decide ((v.2.1.2 (↑k:Int).toNat).1≥(v.2.1.2 (↑k:Int).toNat).2.1) then true else decide ((v.2.1.2 (↑k:Int).toNat).2.1≥v.1) then true else bif decide ((↑k:Int)>0) then decide (cmpB (v.2.1.2 ((↑k:Int) - 1).toNat) (v.2.1.2 k)>0) else false)=true),(false=false)]:=by kernel_rfl
theorem p51d (v:T_Graph) (k:Nat) :
    pathOb Tryz.prog Tryz.f62 0 [rg 1,.dec false,rg 1] zf78 (S51 v k) [] 1 [] (.p (.bool true)) =
    some [((decide ((↑k:Int)<(↑v.2.1.1:Int)))=false),(true=true)]:=by kernel_rfl
theorem con_l2After (a b:T_Bar):Con Tryz.prog 168 0 [] [barA a,barA b] [] (.p (.bool (aft a b))):=by
  refine con_start Tryz.func168 rfl (by kernel_rfl) rfl (fun c hc=>?_)
  refine path_ok mixed Tryz.func168 hc (p57 a b) ?_
  repeat' (first | exact aN | apply aI)
  all_goals (first | exact aG _ | omega | rfl | (intros;first | assumption | exact trivial | rfl | exact fT ‹_› | ((repeat' (first | assumption | apply anda | apply notf));done)))
theorem con_compareInts (x y:Int):Con Tryz.prog 287 0 [] [.p (.int .i64 x),.p (.int .i64 y)] [] (.p (.int .i64 (cmpI x y))):=by
  refine con_start Tryz.func287 rfl (by kernel_rfl) rfl (fun c hc=>?_)
  by_cases h1:x<y
  · rw [show cmpI x y = -1 by simp [cmpI,h1]]
    refine path_ok mixed Tryz.func287 hc (p62a x y) ?_
    repeat' (first | exact aN | apply aI)
    all_goals (first | omega | rfl | (intros;first | assumption | exact trivial | rfl | exact fT ‹_› | ((repeat' (first | assumption | apply anda | apply notf));done)) | (simp;omega))
  · by_cases h2:x>y
    · rw [show cmpI x y=1 by simp only [cmpI,h1,h2,if_true,if_false]]
      refine path_ok mixed Tryz.func287 hc (p62b x y) ?_
      repeat' (first | exact aN | apply aI)
      all_goals (first | omega | rfl | (intros;first | assumption | exact trivial | rfl | exact fT ‹_› | ((repeat' (first | assumption | apply anda | apply notf));done)) | (simp;omega))
    · rw [show cmpI x y=0 by simp only [cmpI,h1,h2,if_false]]
      refine path_ok mixed Tryz.func287 hc (p62c x y) ?_
      repeat' (first | exact aN | apply aI)
      all_goals (first | omega | rfl | (intros;first | assumption | exact trivial | rfl | exact fT ‹_› | ((repeat' (first | assumption | apply anda | apply notf));done)) | (simp;omega))
theorem con_compareBars (a b:T_Bar):Con Tryz.prog 180 0 [] [barA a,barA b] [] (.p (.int .i64 (cmpB a b))):=by
  refine con_start Tryz.func180 rfl (by kernel_rfl) rfl (fun c hc=>?_)
  by_cases h1:cmpI a.1 b.1=0
  · rw [show cmpB a b=cmpI a.2.1 b.2.1 by simp [cmpB,h1]]
    refine path_ok mixed Tryz.func180 hc (p59b a b) ?_
    repeat' (first | exact aN | apply aI)
    all_goals (first | omega | rfl | (intros;first | assumption | exact trivial | rfl | exact fT ‹_› | ((repeat' (first | assumption | apply anda | apply notf));done)) | (exact con_compareInts _ _) | (simp [h1]))
  · rw [show cmpB a b=cmpI a.1 b.1 by simp [cmpB,h1]]
    refine path_ok mixed Tryz.func180 hc (p59a a b) ?_
    repeat' (first | exact aN | apply aI)
    all_goals (first | omega | rfl | (intros;first | assumption | exact trivial | rfl | exact fT ‹_› | ((repeat' (first | assumption | apply anda | apply notf));done)) | (exact con_compareInts _ _) | (simp [h1]))
theorem cmpB_gt (a b:T_Bar):decide (cmpB a b>0)=!aft a b:=by
  simp only [cmpB,cmpI,aft]
  by_cases h1:a.1<b.1
  · simp [h1]
  · by_cases h2:a.1>b.1
    · have h3:¬ a.1=b.1:=by omega
      simp [h1,h2,h3]
    · have h3:a.1=b.1:=by omega
      simp only [h1,h2,h3,if_true,if_false]
      by_cases h4:a.2.1<b.2.1
      · have:a.2.1≤b.2.1:=by omega
        simp [h4,this]
      · by_cases h5:a.2.1>b.2.1
        · have:¬ a.2.1≤b.2.1:=by omega
          simp [h4,h5,this]
        · have:a.2.1≤b.2.1:=by omega
          simp [h4,h5,this]
theorem goodB_bad (N:Int) (g:Nat→T_Bar) (k:Nat) (h:badB N g k=true):∀ n,k<n→goodB N g n=false
  | 0,h'=>by omega
  | n+1,h'=>by
    by_cases e:k=n
    · subst e;simp [goodB,h]
    · simp [goodB,goodB_bad N g k h n (by omega)]
theorem idx_lt {b:Bool} {k n:Nat} (h:(b&&decide ((k:Int)>0))=true) (hk:k<n):0≤(k:Int) - 1∧(k:Int) - 1<n∧-9223372036854775808≤(k:Int) - 1∧(k:Int) - 1≤n:=by
  simp at h
  omega
theorem con_IsGraph_s (v:T_Graph) (hs:smS s_Graph v):Con Tryz.prog 53 0 [] [graphA v] [] (.p (.bool (isGraphF v))):=by
  refine con_start Tryz.func53 rfl (by kernel_rfl) rfl (fun c hc=>?_)
  have hn:v.2.1.1≤1048576:=hs.2.1.1
  by_cases hz:inB v.1 1 8=true∧v.2.1.1≤24
  · rw [show isGraphF v=goodB v.1 v.2.1.2 v.2.1.1 by rw [isGraphF,if_pos hz]]
    have lp:∀ m k,k+m=v.2.1.1→goodB v.1 v.2.1.2 k=true→Run Tryz.prog c 53 zf77 (S48 v k) (Post c [] (.p (.bool (goodB v.1 v.2.1.2 v.2.1.1)))):=by
      intro m
      induction m with
      | zero =>
        intro k hk hg
        rw [show goodB v.1 v.2.1.2 v.2.1.1=true by rw [show v.2.1.1=k by omega];exact hg]
        have hd:decide ((k:Int)<(v.2.1.1:Int))=false:=by simp;omega
        refine path_ok mixed Tryz.func53 hc (p48d v k) ?_
        repeat' (first | exact aN | apply aI)
        all_goals (first | omega | rfl | (intros;first | assumption | exact trivial | rfl | exact fT ‹_› | ((repeat' (first | assumption | apply anda | apply notf));done)))
      | succ m ih =>
        intro k hk hg
        have hd:decide ((k:Int)<(v.2.1.1:Int))=true:=by simp;omega
        have hkn:k<v.2.1.1:=by omega
        cases he:badB v.1 v.2.1.2 k with
        | true =>
          rw [goodB_bad _ _ k he v.2.1.1 (by omega)]
          refine path_ok mixed Tryz.func53 hc (p48c v k) ?_
          repeat' (first | exact aN | apply aI)
          all_goals (first | exact aG _ | omega | rfl | (intros;first | assumption | exact trivial | rfl | exact fT ‹_› | ((repeat' (first | assumption | apply anda | apply notf));done)) | (intros;exact con_l2After _ _) | (exact he) | (intro h;have:=idx_lt h hkn;omega))
        | false =>
          refine piece_ok mixed hc (p48b v k) ?_ (ih (k+1) (by omega) (by simp [goodB,hg,he]))
          repeat' (first | exact aN | apply aI)
          all_goals (first | exact aG _ | exact aP _ _ | omega | rfl | (intros;first | assumption | exact trivial | rfl | exact fT ‹_› | ((repeat' (first | assumption | apply anda | apply notf));done)) | (intros;exact con_l2After _ _) | (exact he) | (intro h;have:=idx_lt h hkn;omega) | (simp [All]))
    refine piece_ok mixed hc (p48a v) ?_ (lp v.2.1.1 0 (by omega) rfl)
    repeat' (first | exact aN | apply aI)
    all_goals (first | exact aG _ | exact aP _ _ | omega | rfl | (intros;first | assumption | exact trivial | rfl | exact fT ‹_› | ((repeat' (first | assumption | apply anda | apply notf));done)) | (exact con_l1In _ _ _) | (simp [hz.1];omega) | (simp [All]))
  · rw [show isGraphF v=false by rw [isGraphF,if_neg hz]]
    have hb:(bif !inB v.1 1 8 then true else decide ((v.2.1.1:Int)>24))=true:=by
      cases hi:inB v.1 1 8 with
      | false=>rfl
      | true =>
        have:¬ v.2.1.1≤24:=fun h=>hz ⟨hi,h⟩
        simp;omega
    refine path_ok mixed Tryz.func53 hc (p48z v) ?_
    repeat' (first | exact aN | apply aI)
    all_goals (first | exact aG _ | omega | rfl | (intros;first | assumption | exact trivial | rfl | exact fT ‹_› | ((repeat' (first | assumption | apply anda | apply notf));done)) | (exact con_l1In _ _ _))
theorem con_IsGraph_i (v:T_Graph) (hs:smS s_Graph v):Con Tryz.prog 62 0 [] [graphA v] [] (.p (.bool (isGraphF v))):=by
  refine con_start Tryz.func62 rfl (by kernel_rfl) rfl (fun c hc=>?_)
  have hn:v.2.1.1≤1048576:=hs.2.1.1
  by_cases hz:inB v.1 1 8=true∧v.2.1.1≤24
  · rw [show isGraphF v=goodB v.1 v.2.1.2 v.2.1.1 by rw [isGraphF,if_pos hz]]
    have lp:∀ m k,k+m=v.2.1.1→goodB v.1 v.2.1.2 k=true→Run Tryz.prog c 62 zf78 (S51 v k) (Post c [] (.p (.bool (goodB v.1 v.2.1.2 v.2.1.1)))):=by
      intro m
      induction m with
      | zero =>
        intro k hk hg
        rw [show goodB v.1 v.2.1.2 v.2.1.1=true by rw [show v.2.1.1=k by omega];exact hg]
        have hd:decide ((k:Int)<(v.2.1.1:Int))=false:=by simp;omega
        refine path_ok mixed Tryz.func62 hc (p51d v k) ?_
        repeat' (first | exact aN | apply aI)
        all_goals (first | omega | rfl | (intros;first | assumption | exact trivial | rfl | exact fT ‹_› | ((repeat' (first | assumption | apply anda | apply notf));done)))
      | succ m ih =>
        intro k hk hg
        have hd:decide ((k:Int)<(v.2.1.1:Int))=true:=by simp;omega
        have hkn:k<v.2.1.1:=by omega
        cases he:badB v.1 v.2.1.2 k with
        | true =>
          rw [goodB_bad _ _ k he v.2.1.1 (by omega)]
          have he2:=he
          rw [badB,← cmpB_gt] at he2
          refine path_ok mixed Tryz.func62 hc (p51c v k) ?_
          repeat' (first | exact aN | apply aI)
          all_goals (first | exact aG _ | omega | rfl | (intros;first | assumption | exact trivial | rfl | exact fT ‹_› | ((repeat' (first | assumption | apply anda | apply notf));done)) | (intros;exact con_compareBars _ _) | (exact he2) | (intro h;have:=idx_lt h hkn;omega))
        | false =>
          have he2:=he
          rw [badB,← cmpB_gt] at he2
          refine piece_ok mixed hc (p51b v k) ?_ (ih (k+1) (by omega) (by simp [goodB,hg,he]))
          repeat' (first | exact aN | apply aI)
          all_goals (first | exact aG _ | exact aP _ _ | omega | rfl | (intros;first | assumption | exact trivial | rfl | exact fT ‹_› | ((repeat' (first | assumption | apply anda | apply notf));done)) | (intros;exact con_compareBars _ _) | (exact he2) | (intro h;have:=idx_lt h hkn;omega) | (simp [All]))
    refine piece_ok mixed hc (p51a v) ?_ (lp v.2.1.1 0 (by omega) rfl)
    repeat' (first | exact aN | apply aI)
    all_goals (first | exact aG _ | exact aP _ _ | omega | rfl | (intros;first | assumption | exact trivial | rfl | exact fT ‹_› | ((repeat' (first | assumption | apply anda | apply notf));done)) | (exact con_within _ _ _) | (simp [hz.1];omega) | (simp [All]))
  · rw [show isGraphF v=false by rw [isGraphF,if_neg hz]]
    have hb:(bif !inB v.1 1 8 then true else decide ((v.2.1.1:Int)>24))=true:=by
      cases hi:inB v.1 1 8 with
      | false=>rfl
      | true =>
        have:¬ v.2.1.1≤24:=fun h=>hz ⟨hi,h⟩
        simp;omega
    refine path_ok mixed Tryz.func62 hc (p51z v) ?_
    repeat' (first | exact aN | apply aI)
    all_goals (first | exact aG _ | omega | rfl | (intros;first | assumption | exact trivial | rfl | exact fT ‹_› | ((repeat' (first | assumption | apply anda | apply notf));done)) | (exact con_within _ _ _))
end Go.Proofs.YtkkjoghiigiokaaGreat.Mach
namespace Go.Proofs.YtkkjoghiigiokaaGreat.Mach
open Go
set_option linter.unusedVariables false
set_option linter.unusedSimpArgs false
def SH (g:Nat→T_Bar) (nb N m:Nat) (F0 T0 F T Q:Nat→Int) (a b want:Int):St :=
  ⟨[grG g nb N,pebD N m F0 T0 Q,.p (.int .i64 a),.p (.int .i64 b),.p (.int .i64 want),.pt 2 0 0 0,.pt 3 1 0 0,.p .any,.p .any,.p .any,.pt 3 2 0 0,.p .any,.pt 3 3 0 0]++List.replicate 40 anyA,
   [(0,bxG g nb N),(1,bxD N m F0 T0 Q),(2,bx0),(3,bxP N m 4),(4,iOb N F),(5,iOb m T),(6,iOb m Q)],7⟩
def SNc (g:Nat→T_Bar) (nb N k:Nat):St :=
  ⟨[.p .any,.p (.int .i64 k),.pt 2 0 0 0,.p .any,.pt 3 1 0 0,.p .any,.pt 3 2 0 0]++List.replicate 27 anyA,
   [(0,bxG g nb N),(1,bx0),(2,⟨true,3,1,fun _=>[.ar 1 3 0 0,.ar 1 4 0 0,.ar 1 5 0 0]⟩),(3,iOb 0 (fun _=>k)),(4,iOb 0 (fun _=>0)),(5,iOb 0 (fun _=>0))],6⟩
def SN0 (g:Nat→T_Bar) (nb N k i:Nat):St :=
  ⟨[.p .any,.p (.int .i64 k),.pt 2 0 0 0,.p .any,.pt 3 1 0 0,.p .any,.pt 3 2 0 0,.p (.int .i64 i)]++List.replicate 26 anyA,
   [(0,bxG g nb N),(1,bx0),(2,⟨true,3,1,fun _=>[.ar 1 3 0 i,.ar 1 4 0 0,.ar 1 5 0 0]⟩),(3,iOb i (fun _=>k)),(4,iOb 0 (fun _=>0)),(5,iOb 0 (fun _=>0))],6⟩
def SR (g:Nat→T_Bar) (nb N m i:Nat) (F T Q:Nat→Int):St :=
  ⟨[grG g nb N,.pt 2 0 0 0,.p .any,.pt 3 1 0 0,.p .any,.p (.int .i64 m),.p (.int .i64 i)]++List.replicate 77 anyA,
   [(0,bxG g nb N),(1,bxP N m 2),(2,iOb N F),(3,iOb m T),(4,iOb m Q)],5⟩
theorem qHz (g:Nat→T_Bar) (nb N m:Nat) (F T Q:Nat→Int) (a b want:Int) :
    pieceOb Tryz.prog 0 [rg 4,rm [(1,oc (pebR N m F T Q) (pebO N m 0))] 2,.head] [.code (bodyOf Tryz.f341)] (start Tryz.f341 [] 0 [grG g nb N,pebD N m F T Q,.p (.int .i64 a),.p (.int .i64 b),.p (.int .i64 want)]) [0,32,64,192,160,161,162] 1 (SH g nb N m F T F T Q a b want) =
    some (zf86,[(NT 0 1),Con Tryz.prog 340 0 [] [(zf62 N F m T Q)] (zf45 N F m T Q) (.agg [.ar 1 0 0 N,.ar 1 1 0 m,.ar 1 2 0 m]),(NT 0 1),((true=true)→ (AN 1)),(AI ((↑N:Int))),(AN nb),(AP nb (fun i=>[.int .i64 ((g i).1),.int .i64 ((g i).2.1)])),(AN N),(AP N (fun i=>[.int .i64 (F i)])),(AN m),(AP m (fun i=>[.int .i64 (T i)])),(AN m),(AP m (fun i=>[.int .i64 (Q i)])),(AI a),(AI b),(AI want),(AN 0),(AN 0),(AN 0),(AN 0),((([AV.p (PV.int IntKind.i64 (↑N:Int)),brL g nb].length):Nat)=2),(NL 1 1),(NL 1 1),(AI ((↑N:Int))),(AN nb),(AP nb (fun i=>[.int .i64 ((g i).1),.int .i64 ((g i).2.1)])),((([inD N F,inD m T,inD m Q].length):Nat)=3),(NL 1 1),(NL 1 1),(AN N),(AP N (fun i=>[.int .i64 (F i)])),(AN m),(AP m (fun i=>[.int .i64 (T i)])),(AN m),(AP m (fun i=>[.int .i64 (Q i)])),((((List.map (fun v=>AV.p (absV v)) [Value.slice none 0 0,Value.slice none 0 0,Value.slice none 0 0]).length):Nat)=3),(NL 1 1),(NL 1 1),((((List.map (fun v=>AV.p (absV v)) [Value.slice none 0 0,Value.slice none 0 0,Value.slice none 0 0]).length):Nat)=3),(NL 1 1),(NL 1 1),(AN 0),(AN N),(AN 0),(AN m),(AN 0),(AN m),(AN 1),(NL N N),(AA N (fun i=>[.p (.int .i64 (F i))])),(AN 1),(NL m m),(AA m (fun i=>[.p (.int .i64 (T i))])),(AN 1),(NL m m),(AA m (fun i=>[.p (.int .i64 (Q i))]))]):=by kernel_rfl
theorem qHa (g:Nat→T_Bar) (nb N m:Nat) (F0 T0 F T Q F1 T1:Nat→Int) (a b want:Int) :
    pieceOb Tryz.prog 0 [rg 13,.dec true,rm [(4,oq [4,5,6] (pebR3 N m F T Q F1 T1 Q) (.tup [pebO N m 3,.p (.bool true)]))] 6,rg 2,.dec false,rg 2,.dec false,rg 2,.head] zf86 (SH g nb N m F0 T0 F T Q a b want) [0,1,2,3,551,552,553] 1 (SH g nb N m F0 T0 F1 T1 Q a b want) =
    some (zf86,[(NT 0 1),(IL 0 a),(IT a (↑N:Int)),(NT a.toNat N),(NT 0 1),(IL 0 b),(IT b (↑N:Int)),(NT b.toNat N),(R0 (F a.toNat+F b.toNat)),(R1 (F a.toNat+F b.toNat)),((decide (F (a.toNat+0)+F (b.toNat+0)<want))=true),(NT 0 1),(NT 0 1),(AE N),(AE m),(AE m),Con Tryz.prog 377 3 (zf45 N F m T Q) [(zf110 N nb g),.agg [.ar 1 0 0 N,.ar 1 1 0 m,.ar 1 2 0 m],.p (.int .i64 a),.p (.int .i64 b)] (zf16 N F m T Q F1 T1) (.tup [.agg [.ar 1 3 0 N,.ar 1 4 0 m,.ar 1 5 0 m],.p (.bool true)]),(NT 0 1),((true=true)→ (AN 1)),((!true)=false),((!true)=false),(NT 0 1),(NT 0 1),((true=true)→ (AN 1)),(AI ((↑N:Int))),(AN nb),(AP nb (fun i=>[.int .i64 ((g i).1),.int .i64 ((g i).2.1)])),(AN N),(AP N (fun i=>[.int .i64 (F0 i)])),(AN m),(AP m (fun i=>[.int .i64 (T0 i)])),(AN m),(AP m (fun i=>[.int .i64 (Q i)])),(AI a),(AI b),(AI want),(AN 0),(AN 0),(AN 0),(AN 0),(AN 2),(NL 1 1),(NL 1 1),(AI ((↑N:Int))),(AN nb),(AP nb (fun i=>[.int .i64 ((g i).1),.int .i64 ((g i).2.1)])),(AN 3),(NL 1 1),(NL 1 1),(AN N),(AP N (fun i=>[.int .i64 (F0 i)])),(AN m),(AP m (fun i=>[.int .i64 (T0 i)])),(AN m),(AP m (fun i=>[.int .i64 (Q i)])),(AN 3),(NL 1 1),(NL 1 1),(AN 3),(NL 1 1),(NL 1 1),(AN 0),(AN N),(AN 0),(AN m),(AN 0),(AN m),(AN 1),(NL N N),(AA N (fun i=>[.p (.int .i64 (F1 i))])),(AN 1),(NL m m),(AA m (fun i=>[.p (.int .i64 (T1 i))])),(AN 1),(NL m m),(AA m (fun i=>[.p (.int .i64 (Q i))]))]):=by kernel_rfl
theorem qHb (g:Nat→T_Bar) (nb N m:Nat) (F0 T0 F T Q F1 T1:Nat→Int) (a b want:Int) :
    pieceOb Tryz.prog 0 [rg 13,.dec true,rm [(4,oq [4,5,6] (pebR N m F T Q) (.tup [pebO N m 0,.p (.bool false)]))] 6,rg 2,.dec true,rm [(4,oq [4,5,6] (pebR3 N m F T Q F1 T1 Q) (.tup [pebO N m 3,.p (.bool true)]))] 5,rg 2,.dec false,rg 2,.head] zf86 (SH g nb N m F0 T0 F T Q a b want) [0,1,2,3,967,968,969] 1 (SH g nb N m F0 T0 F1 T1 Q a b want) =
    some (zf86,[(NT 0 1),(IL 0 a),(IT a (↑N:Int)),(NT a.toNat N),(NT 0 1),(IL 0 b),(IT b (↑N:Int)),(NT b.toNat N),(R0 (F a.toNat+F b.toNat)),(R1 (F a.toNat+F b.toNat)),((decide (F (a.toNat+0)+F (b.toNat+0)<want))=true),(NT 0 1),(NT 0 1),(AE N),(AE m),(AE m),Con Tryz.prog 377 3 (zf45 N F m T Q) [(zf110 N nb g),.agg [.ar 1 0 0 N,.ar 1 1 0 m,.ar 1 2 0 m],.p (.int .i64 a),.p (.int .i64 b)] (zf45 N F m T Q) ((zf122 N m)),(NT 0 1),((true=true)→ (AN 1)),((!false)=true),(NT 0 1),(NT 0 1),(AE N),(AE m),(AE m),Con Tryz.prog 377 3 (zf45 N F m T Q) [(zf110 N nb g),.agg [.ar 1 0 0 N,.ar 1 1 0 m,.ar 1 2 0 m],.p (.int .i64 b),.p (.int .i64 a)] (zf16 N F m T Q F1 T1) (.tup [.agg [.ar 1 3 0 N,.ar 1 4 0 m,.ar 1 5 0 m],.p (.bool true)]),(NT 0 1),((true=true)→ (AN 1)),((!true)=false),(NT 0 1),(NT 0 1),((true=true)→ (AN 1)),(AI ((↑N:Int))),(AN nb),(AP nb (fun i=>[.int .i64 ((g i).1),.int .i64 ((g i).2.1)])),(AN N),(AP N (fun i=>[.int .i64 (F0 i)])),(AN m),(AP m (fun i=>[.int .i64 (T0 i)])),(AN m),(AP m (fun i=>[.int .i64 (Q i)])),(AI a),(AI b),(AI want),(AN 0),(AN 0),(AN 0),(AN 0),(AN 2),(NL 1 1),(NL 1 1),(AI ((↑N:Int))),(AN nb),(AP nb (fun i=>[.int .i64 ((g i).1),.int .i64 ((g i).2.1)])),(AN 3),(NL 1 1),(NL 1 1),(AN N),(AP N (fun i=>[.int .i64 (F0 i)])),(AN m),(AP m (fun i=>[.int .i64 (T0 i)])),(AN m),(AP m (fun i=>[.int .i64 (Q i)])),(AN 3),(NL 1 1),(NL 1 1),(AN 3),(NL 1 1),(NL 1 1),(AN 0),(AN N),(AN 0),(AN m),(AN 0),(AN m),(AN 1),(NL N N),(AA N (fun i=>[.p (.int .i64 (F1 i))])),(AN 1),(NL m m),(AA m (fun i=>[.p (.int .i64 (T1 i))])),(AN 1),(NL m m),(AA m (fun i=>[.p (.int .i64 (Q i))]))]):=by kernel_rfl
theorem qHc (g:Nat→T_Bar) (nb N m:Nat) (F0 T0 F T Q:Nat→Int) (a b want:Int) :
    pathOb Tryz.prog Tryz.f341 0 [rg 13,.dec true,rm [(4,oq [4,5,6] (pebR N m F T Q) (.tup [pebO N m 0,.p (.bool false)]))] 6,rg 2,.dec true,rm [(4,oq [4,5,6] (pebR N m F T Q) (.tup [pebO N m 0,.p (.bool false)]))] 5,rg 2,.dec true,rg 3] zf86 (SH g nb N m F0 T0 F T Q a b want) [4,5,6] 1 (pebR N m F T Q) (.tup [pebO N m 0,.p (.bool false)]) =
    some [(NT 0 1),(IL 0 a),(IT a (↑N:Int)),(NT a.toNat N),(NT 0 1),(IL 0 b),(IT b (↑N:Int)),(NT b.toNat N),(R0 (F a.toNat+F b.toNat)),(R1 (F a.toNat+F b.toNat)),((decide (F (a.toNat+0)+F (b.toNat+0)<want))=true),(NT 0 1),(NT 0 1),(AE N),(AE m),(AE m),Con Tryz.prog 377 3 (zf45 N F m T Q) [(zf110 N nb g),.agg [.ar 1 0 0 N,.ar 1 1 0 m,.ar 1 2 0 m],.p (.int .i64 a),.p (.int .i64 b)] (zf45 N F m T Q) ((zf122 N m)),(NT 0 1),((true=true)→ (AN 1)),((!false)=true),(NT 0 1),(NT 0 1),(AE N),(AE m),(AE m),Con Tryz.prog 377 3 (zf45 N F m T Q) [(zf110 N nb g),.agg [.ar 1 0 0 N,.ar 1 1 0 m,.ar 1 2 0 m],.p (.int .i64 b),.p (.int .i64 a)] (zf45 N F m T Q) ((zf122 N m)),(NT 0 1),((true=true)→ (AN 1)),((!false)=true),(NT 0 1),(NT 0 1),((true=true)→ (AN 1)),(NT 0 1),(AN 0),(AN N),(AN 0),(AN m),(AN 0),(AN m),(false=false),(AN 1),(NL N N),(AA N (fun i=>[.p (.int .i64 (F i))])),(AN 1),(NL m m),(AA m (fun i=>[.p (.int .i64 (T i))])),(AN 1),(NL m m),(AA m (fun i=>[.p (.int .i64 (Q i))])),(AE N),(AE m),(AE m)]:=by kernel_rfl
theorem qHd (g:Nat→T_Bar) (nb N m:Nat) (F0 T0 F T Q:Nat→Int) (a b want:Int) :
    pathOb Tryz.prog Tryz.f341 0 [rg 13,.dec false,rg 3] zf86 (SH g nb N m F0 T0 F T Q a b want) [4,5,6] 1 (pebR N m F T Q) (.tup [pebO N m 0,.p (.bool true)]) =
    some [(NT 0 1),(IL 0 a),(IT a (↑N:Int)),(NT a.toNat N),(NT 0 1),(IL 0 b),(IT b (↑N:Int)),(NT b.toNat N),(R0 (F a.toNat+F b.toNat)),(R1 (F a.toNat+F b.toNat)),((decide (F (a.toNat+0)+F (b.toNat+0)<want))=false),(NT 0 1),(NT 0 1),((true=true)→ (AN 1)),(NT 0 1),(AN 0),(AN N),(AN 0),(AN m),(AN 0),(AN m),(true=true),(AN 1),(NL N N),(AA N (fun i=>[.p (.int .i64 (F i))])),(AN 1),(NL m m),(AA m (fun i=>[.p (.int .i64 (T i))])),(AN 1),(NL m m),(AA m (fun i=>[.p (.int .i64 (Q i))])),(AE N),(AE m),(AE m)]:=by kernel_rfl
theorem qNz (g:Nat→T_Bar) (N k:Nat) :
    pieceOb Tryz.prog 0 [rg 3,rg 6,.head] [.code (bodyOf Tryz.f280)] (start Tryz.f280 [] 0 [.agg [.p (.int .i64 N),.p .nil],.p (.int .i64 k)]) [0,32,224,96,128,160] 1 (SNc g 0 N k) =
    some (zf102,[(NT 0 1),((true=true)→ (AN 1)),(AI ((↑k:Int))),(AN 0),(AN 0),(AN 0),((([AV.p (PV.int IntKind.i64 (↑N:Int)),AV.p PV.nil].length):Nat)=2),(NL 1 1),(NL 1 1),(AI ((↑N:Int))),(AN 0),((((List.map (fun v=>AV.p (absV v)) [Value.slice none 0 0,Value.slice none 0 0,Value.slice none 0 0]).length):Nat)=3),(NL 1 1),(NL 1 1),((((List.map (fun v=>AV.p (absV v)) [Value.slice none 0 0,Value.slice none 0 0,Value.slice none 0 0]).length):Nat)=3),(NL 1 1),(NL 1 1),(AN 0),(AN 0),(AN 0),(AN 0),(AN 0),(AN 0),(AN 1),(NL 0 0),(∀ i:Nat,(((i:Nat)<0)→(All []∧(([.p (.int .i64 0)]:List AV)=[.p (.int .i64 (↑k:Int))])))),(AN 1),(NL 0 0),(AA 0 (fun i=>[.p (.int .i64 0)])),(AN 1),(NL 0 0),(AA 0 (fun i=>[.p (.int .i64 0)]))]):=by kernel_rfl
theorem qNy (g:Nat→T_Bar) (nb N k:Nat) :
    pieceOb Tryz.prog 0 [rg 3,rg 6,.head] [.code (bodyOf Tryz.f280)] (start Tryz.f280 [] 0 [grG g nb N,.p (.int .i64 k)]) [0,32,224,96,128,160] 1 (SNc g nb N k) =
    some (zf102,[(NT 0 1),((true=true)→ (AN 1)),(AI ((↑k:Int))),(AN 0),(AN 0),(AN 0),((([AV.p (PV.int IntKind.i64 (↑N:Int)),brL g nb].length):Nat)=2),(NL 1 1),(NL 1 1),(AI ((↑N:Int))),(AN nb),(AP nb (fun i=>[.int .i64 ((g i).1),.int .i64 ((g i).2.1)])),((((List.map (fun v=>AV.p (absV v)) [Value.slice none 0 0,Value.slice none 0 0,Value.slice none 0 0]).length):Nat)=3),(NL 1 1),(NL 1 1),((((List.map (fun v=>AV.p (absV v)) [Value.slice none 0 0,Value.slice none 0 0,Value.slice none 0 0]).length):Nat)=3),(NL 1 1),(NL 1 1),(AN 0),(AN 0),(AN 0),(AN 0),(AN 0),(AN 0),(AN 1),(NL 0 0),(∀ i:Nat,(((i:Nat)<0)→(All []∧(([.p (.int .i64 0)]:List AV)=[.p (.int .i64 (↑k:Int))])))),(AN 1),(NL 0 0),(AA 0 (fun i=>[.p (.int .i64 0)])),(AN 1),(NL 0 0),(AA 0 (fun i=>[.p (.int .i64 0)]))]):=by kernel_rfl
theorem qNa (g:Nat→T_Bar) (nb N k:Nat) :
    pieceOb Tryz.prog 0 [rm [(1,oc [] (.p (.bool true))),(3,oc [] (.p (.bool true)))] 2,.dec false,rg 1,.head] zf102 (SNc g nb N k) [0,1,2,3,4,5] 1 (SN0 g nb N k 0) =
    some (zf50,[(NT 0 1),Con Tryz.prog 53 0 [] [(zf110 N nb g)] [] (.p (.bool true)),(AG (!!true)),(((!!true)=true)→ Con Tryz.prog 167 0 [] [.p (.int .i64 (↑k:Int)),.p (.int .i64 1),.p (.int .i64 3)] [] (.p (.bool true))),(AG (!!true)),(((!true)=false)→ ((!!true)=true)),((bif !true then true else !true)=false),(AI ((↑k:Int))),(AN 0),(AN 0),(AN 0),((0:Int)=(↑0:Int)),(AN 2),(NL 1 1),(NL 1 1),(AI ((↑N:Int))),(AN nb),(AP nb (fun i=>[.int .i64 ((g i).1),.int .i64 ((g i).2.1)])),(AN 3),(NL 1 1),(NL 1 1),(AN 3),(NL 1 1),(NL 1 1),(AN 0),(AN 0),(AN 0),(AN 0),(AN 0),(AN 0),(AN 1),(NL 0 0),(AA 0 (fun i=>[.p (.int .i64 (↑k:Int))])),(AN 1),(NL 0 0),(AA 0 (fun i=>[.p (.int .i64 0)])),(AN 1),(NL 0 0),(AA 0 (fun i=>[.p (.int .i64 0)]))]):=by kernel_rfl
theorem qNl (g:Nat→T_Bar) (nb N k i:Nat) :
    pieceOb Tryz.prog 0 [rg 4,.dec true,rg 7,rg 3,.head] zf50 (SN0 g nb N k i) [0,1,2,262,4,5] 1 (SN0 g nb N k (i+1)) =
    some (zf50,[(NT 0 1),((decide ((↑i:Int)<(↑N:Int)))=true),(NT 0 1),(NL 1 1),(NL i i),(NL ((i+1)*8) 140737488355328),(NL (i+1) 9223372036854775807),(NT 0 1),((true=true)→ (AN 1)),(R0 ((↑i:Int)+1)),(R1 ((↑i:Int)+1)),(AI ((↑k:Int))),(AN 0),(AN 0),(AN 0),((((↑i:Int)+1):Int)=(↑(i+1):Int)),(AN 2),(NL 1 1),(NL 1 1),(AI ((↑N:Int))),(AN nb),(AP nb (fun i_1=>[.int .i64 ((g i_1).1),.int .i64 ((g i_1).2.1)])),(AN 3),(NL 1 1),(NL 1 1),(AN 3),(NL 1 1),(NL 1 1),(AN 0),(AN ((i+1))),(AN 0),(AN 0),(AN 0),(AN 0),(AN 1),(NL (i+1) (i+1)),(CV [(2,⟨true,3,1,(fun i_2=>[.ar 1 262 0 (i+1),.ar 1 4 0 0,.ar 1 5 0 0])⟩),(262,⟨false,1,(i+1),(fun i_2=>(if (i_2<i) then [.p (.int .i64 (↑k:Int))] else [.p (.int .i64 (↑k:Int))]))⟩),(230,⟨false,1,1,(fun i_2=>[.p (.int .i64 (↑k:Int))])⟩),(0,⟨true,2,1,(fun i_2=>[.p (.int .i64 (↑N:Int)),.p (.seq true 2 nb (fun i_3=>[.int .i64 ((g i_3).1),.int .i64 ((g i_3).2.1)]))])⟩),(1,⟨true,3,1,(fun i_2=>[.p (.nil),.p (.nil),.p (.nil)])⟩),(4,⟨false,1,0,(fun i_2=>[.p (.int .i64 0)])⟩),(5,⟨false,1,0,(fun i_2=>[.p (.int .i64 0)])⟩)] [0,1,2,262,4,5] 1 (i+1) (fun i_1=>if (i_1<i) then [.p (.int .i64 (↑k:Int))] else [.p (.int .i64 (↑k:Int))]) (fun i_1=>[.p (.int .i64 (↑k:Int))])),(AN 1),(NL 0 0),(AA 0 (fun i_1=>[.p (.int .i64 0)])),(AN 1),(NL 0 0),(AA 0 (fun i_1=>[.p (.int .i64 0)]))]):=by kernel_rfl
theorem qNe (g:Nat→T_Bar) (nb N k i:Nat) :
    pathOb Tryz.prog Tryz.f280 0 [rg 4,.dec false,rg 3] zf50 (SN0 g nb N k i) [3,4,5] 1 (pebR i 0 (fun _=>k) (fun _=>0) (fun _=>0)) (.tup [pebO i 0 0,.p (.bool true)]) =
    some [(NT 0 1),((decide ((↑i:Int)<(↑N:Int)))=false),(NT 0 1),(NT 0 1),((true=true)→ (AN 1)),(NT 0 1),(AN 0),(AN i),(AN 0),(AN 0),(AN 0),(AN 0),(true=true),(AN 1),(NL i i),(AA i (fun i_1=>[.p (.int .i64 (↑k:Int))])),(AN 1),(NL 0 0),(AA 0 (fun i_1=>[.p (.int .i64 0)])),(AN 1),(NL 0 0),(AA 0 (fun i_1=>[.p (.int .i64 0)])),(AE i),(AE 0),(AE 0)]:=by kernel_rfl
theorem qRz (g:Nat→T_Bar) (nb N:Nat) :
    pieceOb Tryz.prog 0 [rg 2,rm [(3,oc (pebR N 0 (fun _=>((2:Nat):Int)) (fun _=>0) (fun _=>0)) (.tup [pebO N 0 0,.p (.bool true)]))] 6,rg 1,rg 1,.head] [.code (bodyOf Tryz.f342)] (start Tryz.f342 [] 0 [grG g nb N]) [0,288,160,161,162] 1 (SR g nb N 0 0 (fun _=>((2:Nat):Int)) (fun _=>0) (fun _=>0)) =
    some (zf51,[(NT 0 1),Con Tryz.prog 280 0 [] [.agg [.p (.int .i64 (↑N:Int)),.p (.nil)],.p (.int .i64 2)] [(0,⟨false,1,N,(fun i=>[.p (.int .i64 2)])⟩),(1,⟨false,1,0,(fun i=>[.p (.int .i64 0)])⟩),(2,⟨false,1,0,(fun i=>[.p (.int .i64 0)])⟩)] (.tup [.agg [.ar 1 0 0 N,.ar 1 1 0 0,.ar 1 2 0 0],.p (.bool true)]),(NT 0 1),((true=true)→ (AN 1)),(AI ((↑N:Int))),(AN nb),(AP nb (fun i=>[.int .i64 ((g i).1),.int .i64 ((g i).2.1)])),(AN 0),(AN 0),((0:Int)=(↑0:Int)),((0:Int)=(↑0:Int)),((([AV.p (PV.int IntKind.i64 (↑N:Int)),brL g nb].length):Nat)=2),(NL 1 1),(NL 1 1),(AI ((↑N:Int))),(AN nb),(AP nb (fun i=>[.int .i64 ((g i).1),.int .i64 ((g i).2.1)])),((((List.map (fun v=>AV.p (absV v)) [Value.slice none 0 0,Value.slice none 0 0,Value.slice none 0 0]).length):Nat)=3),(NL 1 1),(NL 1 1),(AN 0),(AN N),(AN 0),(AN 0),(AN 0),(AN 0),(AN 1),(NL N N),(AA N (fun i=>[.p (.int .i64 2)])),(AN 1),(NL 0 0),(AA 0 (fun i=>[.p (.int .i64 0)])),(AN 1),(NL 0 0),(AA 0 (fun i=>[.p (.int .i64 0)]))]):=by kernel_rfl
theorem qRa (g:Nat→T_Bar) (nb N m i:Nat) (F T Q F1 T1:Nat→Int) :
    pieceOb Tryz.prog 0 [rg 5,.dec true,rm [(14,oc (pebR N m F1 T1 Q) (.tup [pebO N m 0,.p (.bool true)]))] 6,rg 2,.dec false,rg 21,rg 12,rg 7,rg 2,rg 3,rg 3,.head] zf51 (SR g nb N m i F T Q) [0,1,613,1861,2085] 1 (SR g nb N (m+1) (i+1) (fun s=>if s=(g i).1.toNat then F1 s - 1 else F1 s) (fun s=>if s<m then T1 s else (g i).1) (fun s=>if s<m then Q s else i)) =
    some (zf51,[(NT 0 1),((decide ((↑i:Int)<(↑nb:Int)))=true),(NT 0 1),(NT 0 1),(NT 0 1),(IL 0 (↑i:Int)),(IT (↑i:Int) (↑nb:Int)),(NT 0 1),(IL 0 (↑i:Int)),(IT (↑i:Int) (↑nb:Int)),(AN 1),(NL N N),(AN 1),(NL m m),(AN 1),(NL m m),Con Tryz.prog 341 0 [] [(zf105 N nb g),(zf46 N F m T Q),.p (.int .i64 ((g i).1)),.p (.int .i64 ((g i).2.1)),.p (.int .i64 4)] (zf41 N F1 m T1 Q) ((zf123 N m)),(NT 0 1),((true=true)→ (AN 1)),((!true)=false),(NT 0 1),(NT 0 1),(IL 0 (↑i:Int)),(IT (↑i:Int) (↑nb:Int)),(NT 0 1),(NT 0 1),(IL 0 (↑i:Int)),(IT (↑i:Int) (↑nb:Int)),(IL 0 ((g i).1)),(IT ((g i).1) (↑N:Int)),(NT ((g i).1.toNat) N),(R0 (F1 (g i).1.toNat - 1)),(R1 (F1 (g i).1.toNat - 1)),(IL 0 ((g i).1)),(IT ((g i).1) (↑N:Int)),(NT ((g i).1.toNat) N),((false=true)→ ((N:Nat)=1)),(NT 0 1),(NT 0 1),(IL 0 (↑i:Int)),(IT (↑i:Int) (↑nb:Int)),(NL 1 1),(NL m m),(NL ((m+1)*8) 140737488355328),(NL (m+1) 9223372036854775807),(NT 0 1),((true=true)→ (AN 1)),(NT 0 1),(NL 1 1),(NL m m),(NL ((m+1)*8) 140737488355328),(NL (m+1) 9223372036854775807),(NT 0 1),((true=true)→ (AN 1)),(NT 0 1),(NT 0 1),((true=true)→ (AN 1)),(R0 ((↑m:Int)+1)),(R1 ((↑m:Int)+1)),(R0 ((↑i:Int)+1)),(R1 ((↑i:Int)+1)),(AI ((↑N:Int))),(AN nb),(AP nb (fun i_1=>[.int .i64 ((g i_1).1),.int .i64 ((g i_1).2.1)])),(AN 0),(AN 0),((((↑m:Int)+1):Int)=(↑(m+1):Int)),((((↑i:Int)+1):Int)=(↑(i+1):Int)),(AN 2),(NL 1 1),(NL 1 1),(AI ((↑N:Int))),(AN nb),(AP nb (fun i_1=>[.int .i64 ((g i_1).1),.int .i64 ((g i_1).2.1)])),(AN 3),(NL 1 1),(NL 1 1),(AN 0),(AN N),(AN 0),(AN ((m+1))),(AN 0),(AN ((m+1))),(AN 1),(NL N N),(CV [(1,⟨true,3,1,(fun i_2=>[.ar 1 613 0 N,.ar 1 1861 0 (m+1),.ar 1 2085 0 (m+1)])⟩),(741,⟨true,3,1,(fun i_2=>[.ar 1 613 0 N,.ar 1 1861 0 (m+1),.ar 1 2085 0 (m+1)])⟩),(2085,⟨false,1,(m+1),(fun i_2=>(if (i_2<m) then [.p (.int .i64 (Q i_2))] else [.p (.int .i64 (↑i:Int))]))⟩),(2053,⟨false,1,1,(fun i_2=>[.p (.int .i64 (↑i:Int))])⟩),(1861,⟨false,1,(m+1),(fun i_2=>(if (i_2<m) then [.p (.int .i64 (T1 i_2))] else [.p (.int .i64 ((g i).1))]))⟩),(1829,⟨false,1,1,(fun i_2=>[.p (.int .i64 ((g i).1))])⟩),(613,⟨false,1,N,(fun i_2=>(if (i_2=(g i).1.toNat) then [.p (.int .i64 (F1 (g i).1.toNat - 1))] else [.p (.int .i64 (F1 i_2))]))⟩),(0,⟨true,2,1,(fun i_2=>[.p (.int .i64 (↑N:Int)),.p (.seq true 2 nb (fun i_3=>[.int .i64 ((g i_3).1),.int .i64 ((g i_3).2.1)]))])⟩),(2,⟨false,1,N,(fun i_2=>[.p (.int .i64 (F i_2))])⟩),(3,⟨false,1,m,(fun i_2=>[.p (.int .i64 (T i_2))])⟩),(4,⟨false,1,m,(fun i_2=>[.p (.int .i64 (Q i_2))])⟩)] [0,1,613,1861,2085] 1 N (fun i_1=>if (i_1=(g i).1.toNat) then [.p (.int .i64 (F1 (g i).1.toNat - 1))] else [.p (.int .i64 (F1 i_1))]) (fun i_1=>[.p (.int .i64 (if i_1=(g i).1.toNat then F1 i_1 - 1 else F1 i_1))])),(AN 1),(NL (m+1) (m+1)),(CV [(1,⟨true,3,1,(fun i_2=>[.ar 1 613 0 N,.ar 1 1861 0 (m+1),.ar 1 2085 0 (m+1)])⟩),(741,⟨true,3,1,(fun i_2=>[.ar 1 613 0 N,.ar 1 1861 0 (m+1),.ar 1 2085 0 (m+1)])⟩),(2085,⟨false,1,(m+1),(fun i_2=>(if (i_2<m) then [.p (.int .i64 (Q i_2))] else [.p (.int .i64 (↑i:Int))]))⟩),(2053,⟨false,1,1,(fun i_2=>[.p (.int .i64 (↑i:Int))])⟩),(1861,⟨false,1,(m+1),(fun i_2=>(if (i_2<m) then [.p (.int .i64 (T1 i_2))] else [.p (.int .i64 ((g i).1))]))⟩),(1829,⟨false,1,1,(fun i_2=>[.p (.int .i64 ((g i).1))])⟩),(613,⟨false,1,N,(fun i_2=>(if (i_2=(g i).1.toNat) then [.p (.int .i64 (F1 (g i).1.toNat - 1))] else [.p (.int .i64 (F1 i_2))]))⟩),(0,⟨true,2,1,(fun i_2=>[.p (.int .i64 (↑N:Int)),.p (.seq true 2 nb (fun i_3=>[.int .i64 ((g i_3).1),.int .i64 ((g i_3).2.1)]))])⟩),(2,⟨false,1,N,(fun i_2=>[.p (.int .i64 (F i_2))])⟩),(3,⟨false,1,m,(fun i_2=>[.p (.int .i64 (T i_2))])⟩),(4,⟨false,1,m,(fun i_2=>[.p (.int .i64 (Q i_2))])⟩)] [0,1,613,1861,2085] 1 (m+1) (fun i_1=>if (i_1<m) then [.p (.int .i64 (T1 i_1))] else [.p (.int .i64 ((g i).1))]) (fun i_1=>[.p (.int .i64 (if i_1<m then T1 i_1 else (g i).1))])),(AN 1),(NL (m+1) (m+1)),(CV [(1,⟨true,3,1,(fun i_2=>[.ar 1 613 0 N,.ar 1 1861 0 (m+1),.ar 1 2085 0 (m+1)])⟩),(741,⟨true,3,1,(fun i_2=>[.ar 1 613 0 N,.ar 1 1861 0 (m+1),.ar 1 2085 0 (m+1)])⟩),(2085,⟨false,1,(m+1),(fun i_2=>(if (i_2<m) then [.p (.int .i64 (Q i_2))] else [.p (.int .i64 (↑i:Int))]))⟩),(2053,⟨false,1,1,(fun i_2=>[.p (.int .i64 (↑i:Int))])⟩),(1861,⟨false,1,(m+1),(fun i_2=>(if (i_2<m) then [.p (.int .i64 (T1 i_2))] else [.p (.int .i64 ((g i).1))]))⟩),(1829,⟨false,1,1,(fun i_2=>[.p (.int .i64 ((g i).1))])⟩),(613,⟨false,1,N,(fun i_2=>(if (i_2=(g i).1.toNat) then [.p (.int .i64 (F1 (g i).1.toNat - 1))] else [.p (.int .i64 (F1 i_2))]))⟩),(0,⟨true,2,1,(fun i_2=>[.p (.int .i64 (↑N:Int)),.p (.seq true 2 nb (fun i_3=>[.int .i64 ((g i_3).1),.int .i64 ((g i_3).2.1)]))])⟩),(2,⟨false,1,N,(fun i_2=>[.p (.int .i64 (F i_2))])⟩),(3,⟨false,1,m,(fun i_2=>[.p (.int .i64 (T i_2))])⟩),(4,⟨false,1,m,(fun i_2=>[.p (.int .i64 (Q i_2))])⟩)] [0,1,613,1861,2085] 1 (m+1) (fun i_1=>if (i_1<m) then [.p (.int .i64 (Q i_1))] else [.p (.int .i64 (↑i:Int))]) (fun i_1=>[.p (.int .i64 (if i_1<m then Q i_1 else (↑i:Int)))]))]):=by kernel_rfl
theorem qRb (g:Nat→T_Bar) (nb N m i:Nat) (F T Q F1 T1:Nat→Int) :
    pieceOb Tryz.prog 0 [rg 5,.dec true,rm [(14,oc (pebR N m F1 T1 Q) (.tup [pebO N m 0,.p (.bool false)]))] 6,rg 2,.dec true,rg 3,.head] zf51 (SR g nb N m i F T Q) [0,1,2,3,4] 1 (SR g nb N m (i+1) F T Q) =
    some (zf51,[(NT 0 1),((decide ((↑i:Int)<(↑nb:Int)))=true),(NT 0 1),(NT 0 1),(NT 0 1),(IL 0 (↑i:Int)),(IT (↑i:Int) (↑nb:Int)),(NT 0 1),(IL 0 (↑i:Int)),(IT (↑i:Int) (↑nb:Int)),(AN 1),(NL N N),(AN 1),(NL m m),(AN 1),(NL m m),Con Tryz.prog 341 0 [] [(zf105 N nb g),(zf46 N F m T Q),.p (.int .i64 ((g i).1)),.p (.int .i64 ((g i).2.1)),.p (.int .i64 4)] (zf41 N F1 m T1 Q) ((zf122 N m)),(NT 0 1),((true=true)→ (AN 1)),((!false)=true),(R0 ((↑i:Int)+1)),(R1 ((↑i:Int)+1)),(AI ((↑N:Int))),(AN nb),(AP nb (fun i_1=>[.int .i64 ((g i_1).1),.int .i64 ((g i_1).2.1)])),(AN 0),(AN 0),(AI ((↑m:Int))),((((↑i:Int)+1):Int)=(↑(i+1):Int)),(AN 2),(NL 1 1),(NL 1 1),(AI ((↑N:Int))),(AN nb),(AP nb (fun i_1=>[.int .i64 ((g i_1).1),.int .i64 ((g i_1).2.1)])),(AN 3),(NL 1 1),(NL 1 1),(AN 0),(AN N),(AN 0),(AN m),(AN 0),(AN m),(AN 1),(NL N N),(AA N (fun i_1=>[.p (.int .i64 (F i_1))])),(AN 1),(NL m m),(AA m (fun i_1=>[.p (.int .i64 (T i_1))])),(AN 1),(NL m m),(AA m (fun i_1=>[.p (.int .i64 (Q i_1))]))]):=by kernel_rfl
theorem qRe (g:Nat→T_Bar) (nb N m i:Nat) (F T Q:Nat→Int) :
    pathOb Tryz.prog Tryz.f342 0 [rg 5,.dec false,rg 2] zf51 (SR g nb N m i F T Q) [] 1 [] (.p (.int .i64 m)) =
    some [(NT 0 1),((decide ((↑i:Int)<(↑nb:Int)))=false),(AI ((↑m:Int)))]:=by kernel_rfl
theorem con_l4Gather {N k nb m l:Nat} {g:Nat→T_Bar} {F0 T0 Q:Nat→Int} {a b:Int} (hp0:PInv N k nb m g F0 T0 Q) (hk:k≤1048576) (hN:N≤1048576) (hm:m≤1048576) (hnb:nb≤1048576)
    (ha:0≤a∧a<N) (hb:0≤b∧b<N) (hab:a≠b):∃ F' T' r,Con Tryz.prog 341 0 [] [grG g nb N,pebD N m F0 T0 Q,.p (.int .i64 a),.p (.int .i64 b),.p (.int .i64 ((l:Int)+1))] (pebR N m F' T' Q) (.tup [pebO N m 0,.p (.bool r)]) ∧
      PInv N k nb m g F' T' Q∧(r=true→(l:Int)+1≤F' a.toNat+F' b.toNat)∧(r=false→¬ Mat.Sparse N k l (plL g Q m++[(a.toNat,b.toNat)])):=by
  have lp:∀ d F T,PInv N k nb m g F T Q→(l:Int)+1≤F a.toNat+F b.toNat+(d:Nat)→∃ F' T' r,(∀ c,c.n=0→Run Tryz.prog c 341 zf86 (SH g nb N m F0 T0 F T Q a b ((l:Int)+1)) (Post c (pebR N m F' T' Q) (.tup [pebO N m 0,.p (.bool r)]))) ∧
      PInv N k nb m g F' T' Q∧(r=true→(l:Int)+1≤F' a.toNat+F' b.toNat)∧(r=false→¬ Mat.Sparse N k l (plL g Q m++[(a.toNat,b.toNat)])):=by
    intro d
    induction d with
    | zero =>
      intro F T hp hw
      have hd:decide (F a.toNat+F b.toNat<(l:Int)+1)=false:=by simp;omega
      have l1:=hp.le (v:=a.toNat) (by omega)
      have l2:=hp.le (v:=b.toNat) (by omega)
      refine ⟨F,T,true,fun c hc=>?_,hp,(fun _=>by omega),(fun h=>by cases h)⟩
      refine path_ok mixed Tryz.func341 hc (qHd g nb N m F0 T0 F T Q a b ((l:Int)+1)) ?_
      repeat' (first | exact aN | apply aI)
      all_goals (first | exact aA _ _ | exact aE _ | omega | rfl | (intros;first | assumption | exact trivial | rfl | exact fT ‹_› | ((repeat' (first | assumption | apply anda | apply notf));done)) | (exact hd) | (intro i hi;simp [All]))
    | succ d ih =>
      intro F T hp hw
      have l1:=hp.le (v:=a.toNat) (by omega)
      have l2:=hp.le (v:=b.toNat) (by omega)
      by_cases hs:F a.toNat+F b.toNat<(l:Int)+1
      · have hd:decide (F a.toNat+F b.toNat<(l:Int)+1)=true:=by simp;omega
        obtain ⟨H1,r1,hc1,hf1⟩:=con_l4Find hp hk hN hm hnb ha hb hab
        cases hf1 with
        | yes F1 T1 hm1 =>
          obtain ⟨y1,y2⟩:=hm1.yes rfl
          obtain ⟨F',T',r,hrun,h1,h2,h3⟩:=ih F1 T1 hm1.inv (by omega)
          refine ⟨F',T',r,fun c hc=>?_,h1,h2,h3⟩
          refine piece_ok mixed hc (qHa g nb N m F0 T0 F T Q F1 T1 a b ((l:Int)+1)) ?_ (hrun c hc)
          repeat' (first | exact aN | apply aI)
          all_goals (first | exact aP _ _ | exact aA _ _ | exact aE _ | omega | rfl | (intros;first | assumption | exact trivial | rfl | exact fT ‹_› | ((repeat' (first | assumption | apply anda | apply notf));done)) | (exact hd) | (exact hc1) | (intro i hi;simp [All]))
        | no hm1 =>
          obtain ⟨H2,r2,hc2,hf2⟩:=con_l4Find hp hk hN hm hnb hb ha (Ne.symm hab)
          cases hf2 with
          | yes F2 T2 hm2 =>
            obtain ⟨y1,y2⟩:=hm2.yes rfl
            obtain ⟨F',T',r,hrun,h1,h2,h3⟩:=ih F2 T2 hm2.inv (by omega)
            refine ⟨F',T',r,fun c hc=>?_,h1,h2,h3⟩
            refine piece_ok mixed hc (qHb g nb N m F0 T0 F T Q F2 T2 a b ((l:Int)+1)) ?_ (hrun c hc)
            repeat' (first | exact aN | apply aI)
            all_goals (first | exact aP _ _ | exact aA _ _ | exact aE _ | omega | rfl | (intros;first | assumption | exact trivial | rfl | exact fT ‹_› | ((repeat' (first | assumption | apply anda | apply notf));done)) | (exact hd) | (exact hc1) | (exact hc2) | (intro i hi;simp [All]))
          | no hm2 =>
            refine ⟨F,T,false,fun c hc=>?_,hp,(fun h=>by cases h),fun _=>gather_no hp ha hb hab (by omega) hm1 hm2⟩
            refine path_ok mixed Tryz.func341 hc (qHc g nb N m F0 T0 F T Q a b ((l:Int)+1)) ?_
            repeat' (first | exact aN | apply aI)
            all_goals (first | exact aA _ _ | exact aE _ | omega | rfl | (intros;first | assumption | exact trivial | rfl | exact fT ‹_› | ((repeat' (first | assumption | apply anda | apply notf));done)) | (exact hd) | (exact hc1) | (exact hc2) | (intro i hi;simp [All]))
      · have hd:decide (F a.toNat+F b.toNat<(l:Int)+1)=false:=by simp;omega
        refine ⟨F,T,true,fun c hc=>?_,hp,(fun _=>by omega),(fun h=>by cases h)⟩
        refine path_ok mixed Tryz.func341 hc (qHd g nb N m F0 T0 F T Q a b ((l:Int)+1)) ?_
        repeat' (first | exact aN | apply aI)
        all_goals (first | exact aA _ _ | exact aE _ | omega | rfl | (intros;first | assumption | exact trivial | rfl | exact fT ‹_› | ((repeat' (first | assumption | apply anda | apply notf));done)) | (exact hd) | (intro i hi;simp [All]))
  have l1:=hp0.le (v:=a.toNat) (by omega)
  have l2:=hp0.le (v:=b.toNat) (by omega)
  obtain ⟨F',T',r,hrun,h⟩:=lp (l+1) F0 T0 hp0 (by omega)
  refine ⟨F',T',r,?_,h⟩
  have hcc:=con_l4Copy N m F0 T0 Q hN hm
  refine con_start Tryz.func341 rfl (by kernel_rfl) rfl (fun c hc=>?_)
  refine piece_ok mixed hc (qHz g nb N m F0 T0 Q a b ((l:Int)+1)) ?_ (hrun c hc)
  repeat' (first | exact aN | apply aI)
  all_goals (first | exact aP _ _ | exact aA _ _ | omega | rfl | (intros;first | assumption | exact trivial | rfl | exact fT ‹_› | ((repeat' (first | assumption | apply anda | apply notf));done)) | (exact hcc) | (intro i hi;simp [All]))
theorem run_new {g:Nat→T_Bar} {nb N k:Nat} (hN:N≤1048576) (hk:1≤k∧k≤3) (hg:isGraphF ((N:Int),(nb,g),())=true) (hnb:nb≤1048576) (c:Cx) (hc:c.n=0) {items:List Item} (hit:items=zf102) :
    Run Tryz.prog c 280 items (SNc g nb N k) (Post c (pebR N 0 (fun _=>k) (fun _=>0) (fun _=>0)) (.tup [pebO N 0 0,.p (.bool true)])):=by
  subst hit
  have hsm:smS s_Graph ((N:Int),(nb,g),()):=⟨by simp [smS,smL],⟨hnb,fun i hi=>by simp [smS,smL]⟩,True.intro⟩
  have hcg:=con_IsGraph_s ((N:Int),(nb,g),()) hsm
  rw [hg] at hcg
  have hci:=con_l1In k 1 3
  rw [show inB k 1 3=true by simp [inB];omega] at hci
  have lp0:∀ d i,i+d=N→Run Tryz.prog c 280 zf50 (SN0 g nb N k i) (Post c (pebR N 0 (fun _=>k) (fun _=>0) (fun _=>0)) (.tup [pebO N 0 0,.p (.bool true)])):=by
    intro d
    induction d with
    | zero =>
      intro i hi
      obtain rfl:i=N:=by omega
      have hd:decide ((i:Int)<(i:Int))=false:=by simp
      refine path_ok mixed Tryz.func280 hc (qNe g nb i k i) ?_
      repeat' (first | exact aN | apply aI)
      all_goals (first | exact aA _ _ | exact aE _ | omega | rfl | (intros;first | assumption | exact trivial | rfl | exact fT ‹_› | ((repeat' (first | assumption | apply anda | apply notf));done)) | (intro i hi;simp [All]))
    | succ d ih =>
      intro i hi
      have hd:decide ((i:Int)<(N:Int))=true:=by simp;omega
      refine piece_ok mixed hc (qNl g nb N k i) ?_ (ih (i+1) (by omega))
      repeat' (first | exact aN | apply aI)
      all_goals (first | exact aP _ _ | exact aA _ _ | omega | rfl | (intros;first | assumption | exact trivial | rfl | exact fT ‹_› | ((repeat' (first | assumption | apply anda | apply notf));done)) | (intro j hj;simp [All];done) | (intro j hj;by_cases h:j<i<;>simp [h,cvtL,cvt,tg,tru,All]))
  refine piece_ok mixed hc (qNa g nb N k) ?_ (lp0 N 0 (by omega))
  repeat' (first | exact aN | apply aI)
  all_goals (first | exact aG _ | exact aP _ _ | exact aA _ _ | omega | rfl | (intros;first | assumption | exact trivial | rfl | exact fT ‹_› | ((repeat' (first | assumption | apply anda | apply notf));done)) | (exact hcg) | (intros;exact hci) | (intro i hi;simp [All]))
theorem con_NewPebbles0 {N k:Nat} (hN:1≤N∧N≤8) (hk:1≤k∧k≤3):Con Tryz.prog 280 0 [] [.agg [.p (.int .i64 N),.p .nil],.p (.int .i64 k)] (pebR N 0 (fun _=>k) (fun _=>0) (fun _=>0)) (.tup [pebO N 0 0,.p (.bool true)]):=by
  refine con_start Tryz.func280 rfl (by kernel_rfl) rfl (fun c hc=>?_)
  have hg:isGraphF ((N:Int),(0,fun _=>((0:Int),(0:Int),())),())=true:=by
    have:inB N 1 8=true:=by simp [inB];omega
    simp [isGraphF,this,goodB]
  refine piece_ok mixed hc (qNz (fun _=>(0,0,())) N k) ?_ (run_new (g:=fun _=>(0,0,())) (by omega) hk hg (by omega) c hc rfl)
  repeat' (first | exact aN | apply aI)
  all_goals (first | exact aA _ _ | omega | rfl | (intros;first | assumption | exact trivial | rfl | exact fT ‹_› | ((repeat' (first | assumption | apply anda | apply notf));done)) | (intro i hi;simp [All]))
theorem con_NewPebbles {N k nb:Nat} {g:Nat→T_Bar} (hN:N≤1048576) (hk:1≤k∧k≤3) (hg:isGraphF ((N:Int),(nb,g),())=true) (hnb:nb≤1048576) :
    Con Tryz.prog 280 0 [] [grG g nb N,.p (.int .i64 k)] (pebR N 0 (fun _=>k) (fun _=>0) (fun _=>0)) (.tup [pebO N 0 0,.p (.bool true)]):=by
  refine con_start Tryz.func280 rfl (by kernel_rfl) rfl (fun c hc=>?_)
  refine piece_ok mixed hc (qNy g nb N k) ?_ (run_new hN hk hg hnb c hc rfl)
  repeat' (first | exact aN | apply aI)
  all_goals (first | exact aP _ _ | exact aA _ _ | omega | rfl | (intros;first | assumption | exact trivial | rfl | exact fT ‹_› | ((repeat' (first | assumption | apply anda | apply notf));done)) | (intro i hi;simp [All]))
theorem con_l6Rank {N nb:Nat} {g:Nat→T_Bar} (hb:∀ e,e<nb→0≤(g e).1∧(g e).1<(g e).2.1∧(g e).2.1<N) (hN:1≤N∧N≤8) (hnb:nb≤1048576) :
    Con Tryz.prog 342 0 [] [grG g nb N] [] (.p (.int .i64 ((accI N 2 3 g nb).length:Nat))):=by
  refine con_start Tryz.func342 rfl (by kernel_rfl) rfl (fun c hc=>?_)
  have lp:∀ d i m F T Q,i+d=nb→PInv N 2 nb m g F T Q→qL Q m=accI N 2 3 g i →
      Run Tryz.prog c 342 zf51 (SR g nb N m i F T Q) (Post c [] (.p (.int .i64 ((accI N 2 3 g nb).length:Nat)))):=by
    intro d
    induction d with
    | zero =>
      intro i m F T Q hi hp hq
      obtain rfl:i=nb:=by omega
      have hd:decide ((i:Int)<(i:Int))=false:=by simp
      rw [← hq,qL_length]
      refine path_ok mixed Tryz.func342 hc (qRe g i N m i F T Q) ?_
      repeat' (first | exact aN | apply aI)
      all_goals (first | omega | rfl | (intros;first | assumption | exact trivial | rfl | exact fT ‹_› | ((repeat' (first | assumption | apply anda | apply notf));done)) | (intro i hi;simp [All]))
    | succ d ih =>
      intro i m F T Q hi hp hq
      have hd:decide ((i:Int)<(nb:Int))=true:=by simp;omega
      have hm:m≤1048576:=by
        have:=accI_len N 2 3 g i
        rw [← hq,qL_length] at this
        omega
      have hsp:Mat.Sparse N 2 3 (plL g Q m):=by rw [plL_qL,hq];exact accI_sparse N 2 3 g i
      have hbar:=hb i (by omega)
      obtain ⟨F1,T1,r,hc1,h1,h2,h3⟩:=con_l4Gather (l:=3) (a:=(g i).1) (b:=(g i).2.1) hp (by omega) (by omega) hm hnb (by omega) (by omega) (by omega)
      have hlA:=h1.le (v:=(g i).1.toNat) (by omega)
      have hlB:=h1.le (v:=(g i).2.1.toNat) (by omega)
      cases r with
      | false =>
        have hrej:¬ Mat.Sparse N 2 3 (plL g Q m++[brN (g i)]):=h3 rfl
        refine piece_ok mixed hc (qRb g nb N m i F T Q F1 T1) ?_ (ih (i+1) m F T Q (by omega) hp (by
          simp only [accI]
          rw [← hq,← plL_qL,if_neg hrej]))
        repeat' (first | exact aN | apply aI)
        all_goals (first | exact aP _ _ | exact aA _ _ | omega | rfl | (intros;first | assumption | exact trivial | rfl | exact fT ‹_› | ((repeat' (first | assumption | apply anda | apply notf));done)) | (exact hc1) | (intro i hi;simp [All]))
      | true =>
        have hw:=h2 rfl
        have hacc:Mat.Sparse N 2 3 (plL g Q m++[brN (g i)]):=by
          have:=(h1.game 3).accept (by rw [barsOf_gm];exact hsp) (g i).1.toNat (g i).2.1.toNat ⟨by show (g i).1.toNat≠(g i).2.1.toNat;omega,by show (g i).1.toNat<N;omega,by show (g i).2.1.toNat<N;omega⟩
            (by show 3+1≤(F1 (g i).1.toNat).toNat+(F1 (g i).2.1.toNat).toNat;omega)
          rw [barsOf_gm] at this
          exact this
        refine piece_ok mixed hc (qRa g nb N m i F T Q F1 T1) ?_ (ih (i+1) (m+1) _ _ _ (by omega) (h1.placed i (by omega) (g i).1 (.inl rfl) (by omega)) (by
          simp only [accI]
          rw [← hq,← plL_qL,if_pos hacc]
          simp only [qL,Nat.lt_irrefl,if_false,Int.toNat_natCast]
          rw [qL_congr (Q':=Q) m (fun j hj=>by simp only [hj,if_true])]))
        repeat' (first | exact aN | apply aI)
        all_goals (first | exact aP _ _ | omega | rfl | (intros;first | assumption | exact trivial | rfl | exact fT ‹_› | ((repeat' (first | assumption | apply anda | apply notf));done)) | (exact hc1) | (intro i hi;simp [All];done) | (intro j hj;by_cases h:j<m<;>simp [h,cvtL,cvt,tg,tru,All];done) | (intro j hj;by_cases h:j=(g i).1.toNat<;>simp [h,cvtL,cvt,tg,tru,All]))
  have hn:=con_NewPebbles0 (k:=2) hN (by omega)
  refine piece_ok mixed hc (qRz g nb N) ?_ (lp nb 0 0 _ _ _ (by omega) (PInv.start hb) rfl)
  repeat' (first | exact aN | apply aI)
  all_goals (first | exact aP _ _ | exact aA _ _ | omega | rfl | (intros;first | assumption | exact trivial | rfl | exact fT ‹_› | ((repeat' (first | assumption | apply anda | apply notf));done)) | (exact hn) | (intro i hi;simp [All]))
end Go.Proofs.YtkkjoghiigiokaaGreat.Mach
namespace Go.Proofs
open Go Go.Shelf Go.RowKit Go.Lib Go.Sort
set_option linter.unusedVariables false
set_option linter.unusedSimpArgs false
shelf_lay_g SlLaysF0.n6 Slsf 6 at Tryz 312 as Tryz.sortBar
end Go.Proofs
namespace Go.Proofs.YtkkjoghiigiokaaGreat.Mach
open Go Go.Shelf Go.RowKit Go.Lib Go.Sort
set_option linter.unusedVariables false
set_option linter.unusedSimpArgs false
def encB (x:T_Bar):List Value:=[.int .i64 x.1,.int .i64 x.2.1]
theorem cmpI_1 {x y:Int} (h:x<y):cmpI x y = -1:=by simp [cmpI,h]
theorem cmpI_2 {x y:Int} (h:y<x):cmpI x y=1:=by
  have h3:¬ x<y:=by omega
  simp [cmpI,h3,h]
theorem cmpI_3 {x y:Int} (h:¬ x<y) (h':¬ y<x):cmpI x y=0:=by simp [cmpI,h,h']
theorem cmp_int (x y:Int) (W:World):Calls Tryz.prog 287 #[.int .i64 x,.int .i64 y] W fun e w'=>e=.returned (.int .i64 (cmpI x y))∧w'=W:=by
  go_enter Tryz.func287,Tryz.ntmps287
  by_cases h1:x<y
  · have hc:=cmpI_1 h1
    go_wp2
    go_ret
    exact ⟨by first | rfl | (rw [hc];rfl),rfl⟩
  · by_cases h2:y<x
    · have hc:=cmpI_2 h2
      go_wp2
      go_ret
      exact ⟨by first | rfl | (rw [hc];rfl),rfl⟩
    · have hc:=cmpI_3 h1 h2
      go_wp2
      go_ret
      exact ⟨by first | rfl | (rw [hc];rfl),rfl⟩
set_option maxRecDepth 10000 in
set_option maxHeartbeats 1000000 in
theorem cmp_bars4 (a b c d:Int) (W:World):Calls Tryz.prog 180 #[.agg #[.int .i64 a,.int .i64 b],.agg #[.int .i64 c,.int .i64 d]] W fun e w'=>e=.returned (.int .i64 (if cmpI a c=0 then cmpI b d else cmpI a c))∧∃ q os',w'=grow (W.drewN q) os':=by
  have c1:=fun W'=>cmp_int a c W'
  have c2:=fun W'=>cmp_int b d W'
  generalize cmpI a c=r1 at c1 ⊢
  generalize cmpI b d=r2 at c2 ⊢
  by_cases h:r1=0
  · have h9:(if r1=0 then r2 else r1)=r2:=if_pos h
    have c1':∀ W':World,Calls Tryz.prog 287 #[.int .i64 a,.int .i64 c] W' fun e w'=>e=.returned (.int .i64 0)∧w'=W':=by rw [← h];exact c1
    rw [h9]
    clear c1 h9 h
    go_enter Tryz.func180,Tryz.ntmps180
    go_wp2_with fail
    go_at_call 287
    refine (c1' _).mono ?_
    rintro e w' ⟨rfl,rfl⟩
    go_wp2_with fail
    go_at_call 287
    refine (c2 _).mono ?_
    rintro e w' ⟨rfl,rfl⟩
    go_wp2
    go_ret
    exact ⟨rfl,0,_,by rw [alloc_eq_grow,alloc_eq_grow,grow_grow];rfl⟩
  · have h9:(if r1=0 then r2 else r1)=r1:=if_neg h
    rw [h9]
    clear h9
    go_enter Tryz.func180,Tryz.ntmps180
    clear c2
    go_wp2_with fail
    go_at_call 287
    refine (c1 _).mono ?_
    rintro e w' ⟨rfl,rfl⟩
    go_wp2
    go_ret
    exact ⟨rfl,0,_,by rw [alloc_eq_grow,alloc_eq_grow,grow_grow];rfl⟩
theorem cmp_bars (x y:T_Bar) (W:World):Calls Tryz.prog 180 #[.agg #[.int .i64 x.1,.int .i64 x.2.1],.agg #[.int .i64 y.1,.int .i64 y.2.1]] W fun e w'=>e=.returned (.int .i64 (cmpB x y))∧∃ q os',w'=grow (W.drewN q) os' :=
  cmp_bars4 x.1 x.2.1 y.1 y.2.1 W
end Go.Proofs.YtkkjoghiigiokaaGreat.Mach
namespace Go.Proofs.YtkkjoghiigiokaaGreat.Mach
open Go Go.Shelf Go.RowKit Go.Sort
set_option linter.unusedVariables false
set_option linter.unusedSimpArgs false
def sW (w:World) (b base q:Nat) (F:Array Value) (os:Array Obj):World:=grow (putRow id (Sort.ahead w q) b base F) os
theorem sW_at {w:World} {b base q:Nat} {F:Array Value} {os:Array Obj} {cells:Array Value} {el:TypeId} {fr:Nat×Nat} (hb:w.heap[b]? = some (.cells cells el fr)) :
    (sW w b base q F os).heap[b]? = some (.cells (putCells id base F cells) el fr):=by
  have hlt:b<w.heap.size:=by
    rcases Nat.lt_or_ge b w.heap.size with h | h
    · exact h
    · rw [Array.getElem?_eq_none h] at hb;cases hb
  rw [sW,heap_grow_old _ _ (by rw [size_putRow];exact hlt)]
  simp only [putRow,mapBlock,heap_ahead,Array.getElem?_modify,if_true,hb,Option.map_some,onCells]
theorem sW_ne {w:World} {b base q c:Nat} {F:Array Value} {os:Array Obj} (hne:c≠b) (hlt:c<w.heap.size) :
    (sW w b base q F os).heap[c]? = w.heap[c]?:=by
  rw [sW,heap_grow_old _ _ (by rw [size_putRow];exact hlt)]
  simp only [putRow,mapBlock,heap_ahead,Array.getElem?_modify,if_neg (Ne.symm hne)]
theorem putCells_size (base:Nat) (F cells:Array Value):(putCells id base F cells).size=cells.size:=by simp [putCells]
theorem putCells_in (base:Nat) (F cells:Array Value) (t:Nat) (h:t<F.size) (hs:base+t<cells.size):(putCells id base F cells)[base+t]? = some F[t]!:=by
  simp only [putCells,Array.getElem?_mapIdx,Array.getElem?_eq_getElem hs,Option.map_some,id]
  rw [if_pos ⟨by omega,by omega⟩,show base+t - base=t by omega]
theorem look_one {ob ob':Ob} {o:Id} (h:lk [(0,ob)] o=some ob') (hb:ob.bx=false:=by rfl):o=0∧ob'=ob:=by
  unfold lk at h
  split at h
  · rename_i ob1 h1
    obtain ⟨oo,m⟩:=o
    simp only [List.lookup] at h1
    split at h1
    · rename_i h2
      cases h1
      have h2:oo=0:=by simpa using h2
      obtain ⟨h3,h4⟩:=vw_plain (isF_nb hb) h
      simp only at h3
      subst h2;subst h3
      exact ⟨rfl,h4⟩
    · cases h1
  · cases h
theorem lk_one (ob:Ob) (hb:ob.bx=false:=by rfl):lk [(0,ob)] 0=some ob:=lk_plain (H:=[(0,ob)]) (o:=0) rfl (isF_nb hb)
theorem own_one (β:Id→Option Addr) (ob:Ob) (b:Nat) (hb:ob.bx=false:=by rfl):ownOf β [(0,ob)] b↔∃ a,β 0=some a∧a.block=b:=by
  constructor
  · rintro ⟨o,ob',a,h1,h2,h3⟩
    obtain ⟨rfl,_⟩:=look_one h1 hb
    exact ⟨a,h2,h3⟩
  · rintro ⟨a,h1,h2⟩
    exact ⟨0,ob,a,lk_one ob hb,h1,h2⟩
theorem ow_one (X:Nat→Prop) (β:Id→Option Addr) (ob ob':Ob) (hb:ob.bx=false:=by rfl) (hb':ob'.bx=false:=by rfl):ow X β [(0,ob)]=ow X β [(0,ob')]:=by
  funext t b
  simp only [ow,own_one β ob b hb,own_one β ob' b hb']
theorem sW_post {w:World} {β:Id→Option Addr} {X:Nat→Prop} {z n:Nat} {fo f':Nat→List AV} {b base q:Nat} {F:Array Value} {os:Array Obj} {cells:Array Value} {el:TypeId} {res:AV} {v:Value}
    (hβ:β 0=some ⟨b,base,none⟩) (hh:w.heap[b]? = some (.cells cells el (0,0)))
    (hS:Sep β [(0,⟨false,z,n,fo⟩)])
    (hsz:base+n*z≤cells.size) (hF:F.size=n*z)
    (hrow:∀ i,i<n→∀ j,j<z→One (F[i*z+j]!)∧∀ (w:World) (own:Bool→Nat→Prop),VR w β own ((f' i).getD j anyA) (F[i*z+j]!))
    (hv:∀ own:Bool→Nat→Prop,VR (sW w b base q F os) β own res v) :
    ∃ v' β',Ending.returned v=.returned v'∧HR (sW w b base q F os) β' (fr X β' [(0,⟨false,z,n,f'⟩)]) [(0,⟨false,z,n,f'⟩)]∧Sep β' [(0,⟨false,z,n,f'⟩)] ∧
      VR (sW w b base q F os) β' (fr X β' [(0,⟨false,z,n,f'⟩)]) res v'∧Ext w (ow X β [(0,⟨false,z,n,fo⟩)]) (sW w b base q F os) (ow X β' [(0,⟨false,z,n,f'⟩)]) ∧
      (∀ o a,β o=some a→β' o=some a)∧(∀ b,ownOf β' [(0,⟨false,z,n,f'⟩)] b→ownOf β [(0,⟨false,z,n,fo⟩)] b∨w.heap.size≤b)∧∀ k,β' k≠none→β k≠none∨(1≤k.o∧k.o<1+32):=by
  have hown:ownOf β [(0,⟨false,z,n,fo⟩)] b:=(own_one _ _ _).2 ⟨_,hβ,rfl⟩
  refine ⟨v,β,rfl,?_,?_,hv _,?_,fun o a h=>h,fun b' h=>.inl ?_,fun k h=>.inl h⟩
  · intro o ob hl
    obtain ⟨rfl,rfl⟩:=look_one hl
    refine .inr (.inl ⟨b,base,_,el,hβ,sW_at hh,?_⟩)
    intro i hi j hj
    change i<n at hi
    change j<z at hj
    show ∃ v,(putCells id base F cells)[base+(i*z+j)]? = some v∧One v∧_
    have hlt:i*z+j<n*z:=by
      have h1:=Nat.mul_le_mul_right z (show i+1≤n from hi)
      rw [Nat.add_mul,Nat.one_mul] at h1
      have h2:j<z:=hj
      omega
    exact ⟨F[i*z+j]!,putCells_in base F cells _ (by omega) (by omega),(hrow i hi j hj).1,(hrow i hi j hj).2 _ _⟩
  · intro o o' ob ob' a a' h1 h2 h3 h4 h5
    obtain ⟨rfl,rfl⟩:=look_one h1
    obtain ⟨rfl,rfl⟩:=look_one h2
    rfl
  · rw [ow_one X β ⟨false,z,n,f'⟩ ⟨false,z,n,fo⟩]
    refine ⟨rfl,rfl,rfl,by rw [sW,size_grow,size_putRow];exact Nat.le_add_right _ _,fun t c hc hn=>?_,fun t c hc h=>h,fun c cs e f h=>?_,fun c es ck h=>?_⟩
    · refine sW_ne (fun h=>hn ?_) hc
      subst h
      exact .inl hown
    · by_cases hcb:c=b
      · subst hcb
        rw [hh] at h
        injection h with h
        injection h with h1 h2 h3
        subst h1
        exact ⟨_,_,_,sW_at hh,by rw [putCells_size];exact Nat.le_refl _⟩
      · have hlt:c<w.heap.size:=by
          rcases Nat.lt_or_ge c w.heap.size with h' | h'
          · exact h'
          · rw [Array.getElem?_eq_none h'] at h;cases h
        exact ⟨cs,e,f,by rw [sW_ne hcb hlt];exact h,Nat.le_refl _⟩
    · by_cases hcb:c=b
      · subst hcb
        rw [hh] at h
        cases h
      · have hlt:c<w.heap.size:=by
          rcases Nat.lt_or_ge c w.heap.size with h' | h'
          · exact h'
          · rw [Array.getElem?_eq_none h'] at h;cases h
        exact ⟨es,ck,by rw [sW_ne hcb hlt];exact h⟩
  · rw [own_one _ _ _ rfl] at h ⊢;exact h
theorem vr_int {w:World} {β:Id→Option Addr} {own:Bool→Nat→Prop} {k:IntKind} {x:Int} {v:Value} (h:VR w β own (.p (.int k x)) v):v=.int k x:=by
  cases h with
  | p _ _ hp=>cases hp;rfl
end Go.Proofs.YtkkjoghiigiokaaGreat.Mach
