/- What the law Pn needs, part 3 of 6: the abstract machine and the contracts of the functions. Conditions: as each theorem says. -/
import Derived.Shelf.SlLaysF0
import Derived.Shelf.SlGeneric
import Derived.Shelf.SlSortCmp.InsertionK
import Derived.Ground.SlsfProg
import Derived.Sort.Grow
import Derived.Sort.Row
import Derived.Shelf.SlSortCmp.NoneTotal
import Derived.Laws.Strings
import Derived.WalkKit
import Derived.Test.YtkkjoghiigiokaaGreatPnP2
namespace Go.Proofs.YtkkjoghiigiokaaGreat.Mach
open Go
set_option linter.unusedVariables false
set_option linter.unusedSimpArgs false
theorem con_other (x:T_Bar) (v:Int):zE 223 [brA x,.p (.int .i64 v)] [] (.p (.int .i64 (othF x v))):=by
  refine csZ Tryz.func223 (fun c hc=>?_)
  by_cases h:x.1=v
  · have hb:(x.1==v)=true:=by simp [h]
    rw [show othF x v=x.2.1 by simp [othF,h]]
    refine pkZ Tryz.func223 hc (pOtherT x v) ?_
    and_intros
    all_goals (first | exact zN | simp)
  · have hb:(x.1==v)=false:=by simp [h]
    rw [show othF x v=x.1 by simp [othF,h]]
    refine pkZ Tryz.func223 hc (pOtherF x v) ?_
    and_intros
    all_goals (first | exact zN | simp)
theorem run_path {N nb m:Nat} {g:Nat→T_Bar} {F F1 T Q td V:Nat→Int} {a b v:Int} {tn:Nat} (h:BInv N m g F T Q td V a b tn) (hN:N≤1048576) (hm:m≤1048576) :
    ∀ s,s<tn→∀ T':Nat→Int,TInv m g T Q td V T' v s→∃ T'' s',(∀ c,c.n=4→zR c 408 zf1 (SP g nb N m F1 T' Q td V a b (td s) tn) (Post c (pebH N m F1 T'' Q) (.p (.bool true)))) ∧
      TInv m g T Q td V T'' v s'∧td s'=a:=by
  intro s
  induction s using Nat.strongRecOn with
  | ind s ih =>
    intro hs T' ht
    by_cases he:td s=a
    · refine ⟨T',s,fun c hc=>?_,ht,he⟩
      have hb:(td s != a)=false:=by simp [he]
      refine pkZ Tryz.func408 hc (pMp2 g nb N m F1 T' Q td V a b (td s) tn) ?_
      and_intros
      all_goals (first | exact zN | (exact hb) | (intro i hi;simp [All]))
    · have hs1:1≤s:=by
        cases s with
        | zero=>exact absurd h.td0 he
        | succ s=>omega
      obtain ⟨j,hj,hVs,s',hs',hk,ht',_,_⟩:=ht.step h hs hs1
      obtain ⟨T'',s'',hrun,h1,h2⟩:=ih s' hs' (by omega) _ ht'
      refine ⟨T'',s'',fun c hc=>?_,h1,h2⟩
      have hb:(td s != a)=true:=by simp [he]
      have hmg:mget td V tn (td s) 0=(j:Int):=by
        unfold mget
        rw [mget_at td V (td s) 0 s rfl tn 0 (by omega) (by omega) (fun i _ hi=>h.inj i s hi hs)]
        exact hVs
      have hmM:mget (fun i=>keyA ((mapOb tn td V).f i)) (fun i=>valA ((mapOb tn td V).f i)) tn (td s) 0=(j:Int):=hmg
      refine pcD hc (pMp1 g nb N m F1 T' Q td V a b (td s) 0 tn) ?_ (by rw [hmg];simp only [Int.toNat_natCast];rw [hk];exact hrun c hc)
      and_intros
      all_goals (first | exact zI | (exact hb) | (rw [hmM];omega) | (rw [hmM,hmg];done) | (intro i hi;simp [All];done) | (simp only [hmM,hmg,Int.toNat_natCast];intro i hi;by_cases h:i=j<;>simp [h,cvtL,cvt,tg,tru,All]))
def OutG (N k nb m:Nat) (g:Nat→T_Bar) (F T Q:Nat→Int) (a b:Int) (i tn:Nat) (td V:Nat→Int):Prop :=
  ∃ F' T' r,(∀ c,c.n=4→zR c 408 [.code (cAt (bodyOf Tryz.f408) [1,1,1,0,1,0,0]),.inLoop (cAt (bodyOf Tryz.f408) [1,1,1,0,1,0,0]),.inBlock 0,.code (cAt (bodyOf Tryz.f408) [1,1,1,1])] (SO g nb N m F T Q td V a b i tn) (Post c (pebH N m F' T' Q) (.p (.bool r))))∧Moved N k nb m g F T Q a b F' T' r
def MidG (N k nb m:Nat) (g:Nat→T_Bar) (F T Q:Nat→Int) (a b:Int) (i j tn:Nat) (td V:Nat→Int):Prop :=
  ∃ F' T' r,(∀ c,c.n=4→zR c 408 [.code (cAt (bodyOf Tryz.f408) [1,1,1,0,1,0,0,1,0,0,1,0,0]),.inLoop (cAt (bodyOf Tryz.f408) [1,1,1,0,1,0,0,1,0,0,1,0,0]),.inBlock 2,.inBlock 1,.code (cAt (bodyOf Tryz.f408) [1,1,1,0,1,0,0,1,1]),.inLoop (cAt (bodyOf Tryz.f408) [1,1,1,0,1,0,0]),.inBlock 0,.code (cAt (bodyOf Tryz.f408) [1,1,1,1])] (SM g nb N m F T Q td V a b i j tn) (Post c (pebH N m F' T' Q) (.p (.bool r))))∧Moved N k nb m g F T Q a b F' T' r
theorem PInv.le {N k nb m:Nat} {g:Nat→T_Bar} {F T Q:Nat→Int} (hp:PInv N k nb m g F T Q) {v:Nat} (hv:v<N):0≤F v∧F v≤k:=by
  have h1:=hp.f0 v hv
  have h2:=hp.sum v hv
  have h3:=tcI_nonneg T v m
  omega
theorem run_mid {N k nb m:Nat} {g:Nat→T_Bar} {F T Q:Nat→Int} {a b:Int} (hp:PInv N k nb m g F T Q) (hk:k≤1048576) (hN:N≤1048576) (hm:m≤1048576) (hnb:nb≤1048576)
    (ha:0≤a∧a<N) (hb:0≤b∧b<N) (hab:a≠b) (i:Nat)
    (ih:∀ tn td V,i+1≤tn→BInv N m g F T Q td V a b tn→BZero F td b tn→BClo m g T Q td (i+1) 0 tn→OutG N k nb m g F T Q a b (i+1) tn td V) :
    ∀ e j tn td V,j+e=m→i<tn→BInv N m g F T Q td V a b tn→BZero F td b tn→BClo m g T Q td i j tn→MidG N k nb m g F T Q a b i j tn td V:=by
  intro e
  induction e with
  | zero =>
    intro j tn td V hj hi hbi hz hcl
    have htn:=pigeon N tn td hbi.rng hbi.inj
    obtain ⟨F',T',r,hrun,hmv⟩:=ih tn td V (by omega) hbi hz (fun i' j' hij hi' hT=>by
      rcases hij with ⟨h1,h2⟩ | ⟨h1,h2⟩
      · by_cases e:i'=i
        · exact hcl i' j' (.inr ⟨e,by omega⟩) hi' hT
        · exact hcl i' j' (.inl ⟨by omega,h2⟩) hi' hT
      · omega)
    refine ⟨F',T',r,fun c hc=>?_,hmv⟩
    have hd:decide ((j:Int)<(m:Int))=false:=by simp;omega
    refine pcD hc (pMm0 g nb N m F T Q td V a b i j tn) ?_ (hrun c hc)
    and_intros
    all_goals (first | exact zN | (intro i hi;simp [All]))
  | succ e ihe =>
    intro j tn td V hj hi hbi hz hcl
    have htn:=pigeon N tn td hbi.rng hbi.inj
    have hjm:j<m:=by omega
    have hd:decide ((j:Int)<(m:Int))=true:=by simp;omega
    have hq:=hp.q j hjm
    have hbar:=hp.bars (Q j).toNat (by omega)
    have hrg:=hbi.rng i hi
    by_cases hT:T j=td i
    · have ht1:(T j != td i)=false:=by simp [hT]
      obtain ⟨v,hv⟩:∃ v,othF (g (Q j).toNat) (td i)=v:=⟨_,rfl⟩
      have hvr:0≤v∧v<N:=by rw [← hv];exact othF_in hbar
      have hcon:=con_other (g (Q j).toNat) (td i)
      rw [hv] at hcon
      cases hh:mhas td tn v with
      | true =>
        have hhM:mhas (fun i=>keyA ((mapOb tn td V).f i)) tn v=true:=hh
        obtain ⟨s,hs1,hs2⟩:=(mhas_iff td tn v).1 hh
        obtain ⟨F',T',r,hrun,hmv⟩:=ihe (j+1) tn td V (by omega) hi hbi hz (fun i' j' hij hi' hTT=>by
          by_cases e:i'=i∧j'=j
          · obtain ⟨rfl,rfl⟩:=e
            exact ⟨s,hs1,by rw [hs2,hv]⟩
          · exact hcl i' j' (by omega) hi' hTT)
        refine ⟨F',T',r,fun c hc=>?_,hmv⟩
        refine pcD hc (pMm2 g nb N m F T Q td V a b v i j tn) ?_ (hrun c hc)
        and_intros
        all_goals (first | exact zN | (exact ht1) | (exact hcon) | (exact hhM) | (intro i hi;simp [All]))
      | false =>
        have hhM:mhas (fun i=>keyA ((mapOb tn td V).f i)) tn v=false:=hh
        have hno:∀ s,s<tn→td s≠v:=by
          intro s hs e
          have:=(mhas_iff td tn v).2 ⟨s,hs,e⟩
          rw [hh] at this;cases this
        have hadd:=hbi.add hi hjm hT hv hvr hno
        have hF:=hp.le (v:=v.toNat) (by omega)
        cases hcd:(bif v==b then true else F v.toNat==0) with
        | true =>
          have hzv:v=b∨F v.toNat=0:=by
            by_cases e:v=b
            · exact .inl e
            · right
              have:(v==b)=false:=by simp [e]
              rw [this] at hcd
              simpa using hcd
          obtain ⟨F',T',r,hrun,hmv⟩:=ihe (j+1) (tn+1) _ _ (by omega) (by omega) hadd (fun s h1 h2=>by
            show (if s<tn then td s else v)=b∨F (if s<tn then td s else v).toNat=0
            by_cases e:s<tn
            · rw [if_pos e];exact hz s h1 e
            · rw [if_neg e];exact hzv) (fun i' j' hij hi' hTT=>by
            have hi2:i'<tn:=by omega
            have hTT':T j'=td i':=by rw [hTT];show (if i'<tn then td i' else v)=_;rw [if_pos hi2]
            show ∃ s,s<tn+1∧(if s<tn then td s else v)=othF (g (Q j').toNat) (if i'<tn then td i' else v)
            rw [if_pos hi2]
            by_cases e:i'=i∧j'=j
            · obtain ⟨rfl,rfl⟩:=e
              exact ⟨tn,by omega,by rw [if_neg (Nat.lt_irrefl tn),hv]⟩
            · obtain ⟨s,h1,h2⟩:=hcl i' j' (by omega) hi2 hTT'
              exact ⟨s,by omega,by rw [if_pos h1];exact h2⟩)
          refine ⟨F',T',r,fun c hc=>?_,hmv⟩
          refine pcD hc (pMm3 g nb N m F T Q td V a b v i j tn) ?_ (hrun c hc)
          and_intros
          all_goals (first | exact zH | (exact ht1) | (exact hcon) | (exact hhM) | (exact hcd) | (intro i hi;simp [All];done) | (intro i hi;by_cases h:i<tn<;>simp [h,cvtL,cvt,tg,tru,All]))
        | false =>
          have hvb:v≠b:=by
            intro e
            rw [show (v==b)=true by simp [e]] at hcd
            cases hcd
          have hFv:F v.toNat≠0:=by
            intro e
            rw [show (v==b)=false by simp [hvb]] at hcd
            simp [e] at hcd
          have hva:v≠a:=by
            have:=hno 0 (by have:=hbi.n1;omega)
            rw [hbi.td0] at this
            exact Ne.symm this
          have ht0:TInv m g T Q (fun s=>if s<tn then td s else v) (fun s=>if s<tn then V s else j) T v tn:=by
            refine ⟨fun _ _ _=>rfl,hp.t,fun x=>?_⟩
            show _=tcI T m x+_ - (if (if tn<tn then td tn else v)=x then 1 else 0)
            simp only [Nat.lt_irrefl,if_false]
            omega
          obtain ⟨T'',s',hrun,h1,h2⟩:=run_path (nb:=nb) (F1:=fun x=>if x=a.toNat then (if x=v.toNat then F x - 1 else F x)+1 else (if x=v.toNat then F x - 1 else F x)) hadd hN hm tn (by omega) T ht0
          refine ⟨_,T'',true,fun c hc=>?_,moved_yes hp ha hb hab hvr hva hvb hFv h1 h2⟩
          have hFa:=hp.le (v:=a.toNat) (by omega)
          have hrun':=hrun c hc
          simp only [Nat.lt_irrefl,if_false] at hrun'
          refine pcD hc (pMm4 g nb N m F T Q td V a b v i j tn) ?_ ?_
          ·
            and_intros
            all_goals (first | exact zH | (exact ht1) | (exact hcon) | (exact hhM) | (exact hcd) | (intros;omega) | (intro i hi;simp [All];done) | (intro i hi;by_cases h:i<tn<;>simp [h,cvtL,cvt,tg,tru,All];done) | (intro i hi;by_cases h:i=v.toNat<;>simp [h,cvtL,cvt,tg,tru,All]))
          · have hF1:(fun s=>if s=v.toNat then F s - 1 else F s) a.toNat=F a.toNat:=by
              show (if a.toNat=v.toNat then F a.toNat - 1 else F a.toNat)=_
              rw [if_neg (by omega)]
            obtain ⟨F1,hF1d⟩:∃ F1:Nat→Int,F1=(fun s=>if s=v.toNat then F s - 1 else F s):=⟨_,rfl⟩
            have hFF:(fun x=>if x=a.toNat then (if x=v.toNat then F x - 1 else F x)+1 else (if x=v.toNat then F x - 1 else F x))=(fun s=>if s=a.toNat then F1 s+1 else F1 s):=by
              subst hF1d;rfl
            rw [hFF] at hrun' ⊢
            rw [← hF1d] at hF1 ⊢
            refine pcD hc (pMm5 g nb N m F1 T Q _ _ a b v (tn+1)) ?_ hrun'
            and_intros
            all_goals (first | exact zI | (rw [hF1];omega) | (intro i hi;simp [All];done) | (intro i hi;by_cases h:i=a.toNat<;>simp [h,cvtL,cvt,tg,tru,All]))
    · have ht1:(T j != td i)=true:=by simp [hT]
      obtain ⟨F',T',r,hrun,hmv⟩:=ihe (j+1) tn td V (by omega) hi hbi hz (fun i' j' hij hi' hTT=>by
        by_cases e:i'=i∧j'=j
        · obtain ⟨rfl,rfl⟩:=e
          exact absurd hTT hT
        · exact hcl i' j' (by omega) hi' hTT)
      refine ⟨F',T',r,fun c hc=>?_,hmv⟩
      refine pcD hc (pMm1 g nb N m F T Q td V a b i j tn) ?_ (hrun c hc)
      and_intros
      all_goals (first | exact zN | (exact ht1) | (intro i hi;simp [All]))
theorem run_out {N k nb m:Nat} {g:Nat→T_Bar} {F T Q:Nat→Int} {a b:Int} (hp:PInv N k nb m g F T Q) (hk:k≤1048576) (hN:N≤1048576) (hm:m≤1048576) (hnb:nb≤1048576)
    (ha:0≤a∧a<N) (hb:0≤b∧b<N) (hab:a≠b):∀ d i tn td V,N+1≤i+d→i≤tn→BInv N m g F T Q td V a b tn→BZero F td b tn→BClo m g T Q td i 0 tn→OutG N k nb m g F T Q a b i tn td V:=by
  intro d
  induction d with
  | zero =>
    intro i tn td V hd hi hbi _ _
    have:=pigeon N tn td hbi.rng hbi.inj
    omega
  | succ d ih =>
    intro i tn td V hd hi hbi hz hcl
    have htn:=pigeon N tn td hbi.rng hbi.inj
    by_cases hit:i<tn
    · have hd':decide ((i:Int)<(tn:Int))=true:=by simp;omega
      obtain ⟨F',T',r,hrun,hmv⟩:=run_mid hp hk hN hm hnb ha hb hab i (fun tn td V h1 h2 h3 h4=>ih (i+1) tn td V (by omega) h1 h2 h3 h4) m 0 tn td V (by omega) hit hbi hz hcl
      refine ⟨F',T',r,fun c hc=>?_,hmv⟩
      refine pcD hc (pMo1 g nb N m F T Q td V a b i tn) ?_ (hrun c hc)
      and_intros
      all_goals (first | exact zN | (intro i hi;simp [All]))
    · have hd':decide ((i:Int)<(tn:Int))=false:=by simp;omega
      obtain rfl:i=tn:=by omega
      refine ⟨F,T,false,fun c hc=>?_,moved_no hp hbi hz hcl⟩
      refine pkZ Tryz.func408 hc (pMo2 g nb N m F T Q td V a b i i) ?_
      and_intros
      all_goals (first | exact zN | (intro i hi;simp [All]))
theorem con_moveTo {N k nb m:Nat} {g:Nat→T_Bar} {F T Q:Nat→Int} {a b:Int} (hp:PInv N k nb m g F T Q) (hk:k≤1048576) (hN:N≤1048576) (hm:m≤1048576) (hnb:nb≤1048576)
    (ha:0≤a∧a<N) (hb:0≤b∧b<N) (hab:a≠b):∃ F' T' r,Con Tryz.prog 408 4 (pebH N m F T Q) [brL g nb,.pt 3 0 0 0,.p (.int .i64 a),.p (.int .i64 b)] (pebH N m F' T' Q) (.p (.bool r)) ∧
      Moved N k nb m g F T Q a b F' T' r:=by
  obtain ⟨F',T',r,hrun,hmv⟩:=run_out hp hk hN hm hnb ha hb hab (N+1) 0 1 (fun _=>a) (fun _=>-1) (by omega) (by omega)
    ⟨by omega,rfl,fun s hs=>ha,fun s s' h1 h2=>by omega,fun s h1 h2=>by omega⟩ (fun s h1 h2=>by omega) (fun i' j' h=>by omega)
  refine ⟨F',T',r,?_,hmv⟩
  refine csZ Tryz.func408 (fun c hc=>?_)
  refine pcD hc (pMz g nb N m F T Q a b) ?_ (hrun c hc)
  and_intros
  all_goals (first | exact zN | (intro i hi;simp [All]))
def SG (g:Nat→T_Bar) (nb N m:Nat) (F T Q:Nat→Int) (a b want:Int):St :=
  ⟨[brL g nb,.pt 3 0 0 0,.p (.int .i64 a),.p (.int .i64 b),.p (.int .i64 want)]++List.replicate 37 anyA,pebH N m F T Q,4⟩
def pebH2 (N m:Nat) (F T Q:Nat→Int):Hp:=[(0,⟨true,3,1,fun _=>[.ar 1 1 0 N,.ar 1 4 0 m,.ar 1 5 0 m]⟩),(1,iOb N F),(4,iOb m T),(5,iOb m Q)]
theorem pGz (g:Nat→T_Bar) (nb N m:Nat) (F T Q:Nat→Int) (a b want:Int) :
    zM 4 [rg 1,.head] [.code (bodyOf Tryz.f378)] (start Tryz.f378 (pebH N m F T Q) 4 [brL g nb,.pt 3 0 0 0,.p (.int .i64 a),.p (.int .i64 b),.p (.int .i64 want)]) [0,1,2,3] 1 (SG g nb N m F T Q a b want) =
    some (zf101,[(AN nb),(AP nb (bRw g)),(AN 0),(AI a),(AI b),(AI want),(AN 3),(NL 1 1),(NL 1 1),(AN 0),(AN N),(AN 0),(AN m),(AN 0),(AN m),(AN 1),(NL N N),(AA N (fun i=>[.p (.int .i64 (F i))])),(AN 1),(NL m m),(AA m (fun i=>[.p (.int .i64 (T i))])),(AN 1),(NL m m),(AA m (fun i=>[.p (.int .i64 (Q i))]))]):=by kernel_rfl
theorem pGa (g:Nat→T_Bar) (nb N m:Nat) (F T Q F1 T1:Nat→Int) (a b want:Int) :
    zM 4 [rg 17,.dec true,rm [(4,oq [0,1,2,3] (pebH N m F1 T1 Q) (.p (.bool true))),(2,gF),(0,gF),(0,gF),(0,gF),(0,gF),(0,gF),(0,gF)] 0,.dec false,.head] zf101 (SG g nb N m F T Q a b want) [0,1,2,3] 1 (SG g nb N m F1 T1 Q a b want) =
    some (zf101,zD [(NT 0 1),(IL 0 a),(IT a (↑N:Int)),(NT a.toNat N),(IL 0 b),(IT b (↑N:Int)),(NT b.toNat N),(ZLo (F a.toNat+F b.toNat)),(ZHi (F a.toNat+F b.toNat)),((decide (F (a.toNat+0)+F (b.toNat+0)<want))=true),(AE 1),(AE N),(AE m),Con Tryz.prog 408 4 (zf29 N m F T Q) [.p (.seq true 2 nb (bRw g)),.pt 3 0 0 0,.p (.int .i64 a),.p (.int .i64 b)] (zf29 N m F1 T1 Q) (.p (.bool true)),((!true)=false),(false=false),(AN nb),(AP nb (bRw g)),(AN 0),(AI a),(AI b),(AI want),(AN 3),(NL 1 1),(AN N),(AN m),(AN 1),(NL N N),(AA N (fun i=>[.p (.int .i64 (F1 i))])),(NL m m),(AA m (fun i=>[.p (.int .i64 (T1 i))])),(AA m (fun i=>[.p (.int .i64 (Q i))]))] [0,1,2,3,0,4,5,6,7,8,9,10,11,12,12,13,14,14,14,14,14,14,14,15,16,17,18,19,20,21,22,23,23,18,24,18,25,18,25,26,27,28,26,29,30,26,29,31]):=by kernel_rfl
theorem pGb (g:Nat→T_Bar) (nb N m:Nat) (F T Q F1 T1 F2 T2:Nat→Int) (a b want:Int) :
    zM 4 [rg 17,.dec true,rm [(4,oq [0,1,2,3] (pebH N m F1 T1 Q) (.p (.bool false))),(2,gT),(0,gT),(0,gT),(0,gT),(0,⟨true,(some ⟨[0,1,2,3],[],[],1,pebH N m F2 T2 Q,.p (.bool true)⟩),some true⟩),(0,gT),(0,gT)] 0,.dec false,.head] zf101 (SG g nb N m F T Q a b want) [0,1,2,3] 1 (SG g nb N m F2 T2 Q a b want) =
    some (zf101,zD [(NT 0 1),(IL 0 a),(IT a (↑N:Int)),(NT a.toNat N),(IL 0 b),(IT b (↑N:Int)),(NT b.toNat N),(ZLo (F a.toNat+F b.toNat)),(ZHi (F a.toNat+F b.toNat)),((decide (F (a.toNat+0)+F (b.toNat+0)<want))=true),(AE 1),(AE N),(AE m),Con Tryz.prog 408 4 (zf29 N m F T Q) [.p (.seq true 2 nb (bRw g)),.pt 3 0 0 0,.p (.int .i64 a),.p (.int .i64 b)] (zf29 N m F1 T1 Q) (.p (.bool false)),((!false)=true),Con Tryz.prog 408 4 (zf29 N m F1 T1 Q) [.p (.seq true 2 nb (bRw g)),.pt 3 0 0 0,.p (.int .i64 b),.p (.int .i64 a)] (zf29 N m F2 T2 Q) (.p (.bool true)),((!true)=false),(AN nb),(AP nb (bRw g)),(AN 0),(AI a),(AI b),(AI want),(AN 3),(NL 1 1),(AN N),(AN m),(AN 1),(NL N N),(AA N (fun i=>[.p (.int .i64 (F2 i))])),(NL m m),(AA m (fun i=>[.p (.int .i64 (T2 i))])),(AA m (fun i=>[.p (.int .i64 (Q i))]))] [0,1,2,3,0,4,5,6,7,8,9,10,11,12,12,13,14,14,14,14,14,10,11,12,12,15,14,14,16,17,18,19,20,21,22,23,24,24,19,25,19,26,19,26,27,28,29,27,30,31,27,30,32]):=by kernel_rfl
theorem pGc (g:Nat→T_Bar) (nb N m:Nat) (F T Q F1 T1 F2 T2:Nat→Int) (a b want:Int) :
    zP Tryz.f378 4 [rg 17,.dec true,rm [(4,oq [0,1,2,3] (pebH N m F1 T1 Q) (.p (.bool false))),(2,gT),(0,gT),(0,gT),(0,gT),(0,⟨true,(some ⟨[0,1,2,3],[],[],1,pebH N m F2 T2 Q,.p (.bool false)⟩),some true⟩),(0,gT),(0,gT)] 0,.dec true,rg 1] zf101 (SG g nb N m F T Q a b want) [0,1,2,3] 1 (pebH N m F2 T2 Q) (.p (.bool false)) =
    some (zD [(NT 0 1),(IL 0 a),(IT a (↑N:Int)),(NT a.toNat N),(IL 0 b),(IT b (↑N:Int)),(NT b.toNat N),(ZLo (F a.toNat+F b.toNat)),(ZHi (F a.toNat+F b.toNat)),((decide (F (a.toNat+0)+F (b.toNat+0)<want))=true),(AE 1),(AE N),(AE m),Con Tryz.prog 408 4 (zf29 N m F T Q) [.p (.seq true 2 nb (bRw g)),.pt 3 0 0 0,.p (.int .i64 a),.p (.int .i64 b)] (zf29 N m F1 T1 Q) (.p (.bool false)),((!false)=true),Con Tryz.prog 408 4 (zf29 N m F1 T1 Q) [.p (.seq true 2 nb (bRw g)),.pt 3 0 0 0,.p (.int .i64 b),.p (.int .i64 a)] (zf29 N m F2 T2 Q) (.p (.bool false)),(false=false),(AN 3),(NL 1 1),(AN 0),(AN N),(AN m),(AN 1),(NL N N),(AA N (fun i=>[.p (.int .i64 (F2 i))])),(NL m m),(AA m (fun i=>[.p (.int .i64 (T2 i))])),(AA m (fun i=>[.p (.int .i64 (Q i))]))] [0,1,2,3,0,4,5,6,7,8,9,10,11,12,12,13,14,14,14,14,14,10,11,12,12,15,14,14,14,16,17,18,18,19,20,19,21,19,21,22,23,24,22,25,26,22,25,27,10,11,12,12]):=by kernel_rfl
theorem pGd (g:Nat→T_Bar) (nb N m:Nat) (F T Q:Nat→Int) (a b want:Int) :
    zP Tryz.f378 4 [rg 17,.dec false,rg 1] zf101 (SG g nb N m F T Q a b want) [0,1,2,3] 1 (pebH N m F T Q) (.p (.bool true)) =
    some [(NT 0 1),(IL 0 a),(IT a (↑N:Int)),(NT a.toNat N),(NT 0 1),(IL 0 b),(IT b (↑N:Int)),(NT b.toNat N),(ZLo (F a.toNat+F b.toNat)),(ZHi (F a.toNat+F b.toNat)),((decide (F (a.toNat+0)+F (b.toNat+0)<want))=false),(true=true),(AN 3),(NL 1 1),(NL 1 1),(AN 0),(AN N),(AN 0),(AN m),(AN 0),(AN m),(AN 1),(NL N N),(AA N (fun i=>[.p (.int .i64 (F i))])),(AN 1),(NL m m),(AA m (fun i=>[.p (.int .i64 (T i))])),(AN 1),(NL m m),(AA m (fun i=>[.p (.int .i64 (Q i))])),(AE 1),(AE N),(AE m),(AE m)]:=by kernel_rfl
theorem pPf (g:Nat→T_Bar) (nb N m:Nat) (F T Q F1 T1:Nat→Int) (l:Int) (e:Nat) :
    zP Tryz.f344 4 [rg 1,rg 6,rm [(8,oq [0,1,2,3] (pebH N m F1 T1 Q) (.p (.bool false)))] 1,.dec true,rg 1] [.code (bodyOf Tryz.f344)] (start Tryz.f344 (pebH N m F T Q) 4 [brL g nb,.p (.int .i64 l),.pt 3 0 0 0,.p (.int .i64 e)]) [0,1,2,3] 1 (pebH N m F1 T1 Q) (.p (.bool false)) =
    some (zD [(IL 0 (↑e:Int)),(IT (↑e:Int) (↑nb:Int)),(NT 0 1),((true=true)→ (AN 1)),(ZLo (l+1)),(ZHi (l+1)),(AE 1),(AE N),(AE m),Con Tryz.prog 378 4 (zf29 N m F T Q) [.p (.seq true 2 nb (bRw g)),.pt 3 0 0 0,.p (.int .i64 ((g e).1)),.p (.int .i64 ((g e).2.1)),.p (.int .i64 (l+1))] (zf29 N m F1 T1 Q) (.p (.bool false)),((!false)=true),(false=false),(AN 3),(NL 1 1),(AN 0),(AN N),(AN m),(AN 1),(NL N N),(AA N (fun i=>[.p (.int .i64 (F1 i))])),(NL m m),(AA m (fun i=>[.p (.int .i64 (T1 i))])),(AA m (fun i=>[.p (.int .i64 (Q i))]))] [0,1,2,3,2,2,4,5,6,7,8,8,9,10,11,12,13,13,14,15,14,16,14,16,17,18,19,17,20,21,17,20,22,6,7,8,8]):=by kernel_rfl
theorem pPa (g:Nat→T_Bar) (nb N m:Nat) (F T Q F1 T1:Nat→Int) (l:Int) (e:Nat) :
    zP Tryz.f344 4 [rg 1,rg 6,rm [(8,oq [0,1,2,3] (pebH N m F1 T1 Q) (.p (.bool true)))] 1,.dec false,rg 3,rg 9,.dec false,rg 10,rg 11,rg 11,rg 1] [.code (bodyOf Tryz.f344)] (start Tryz.f344 (pebH N m F T Q) 4 [brL g nb,.p (.int .i64 l),.pt 3 0 0 0,.p (.int .i64 e)]) [0,1,2,3,1476,1828] 1 (pebH2 N (m+1) (fun s=>if s=(g e).1.toNat then F1 s - 1 else F1 s) (fun s=>if s<m then T1 s else (g e).1) (fun s=>if s<m then Q s else e)) (.p (.bool true)) =
    some (zD [(IL 0 (↑e:Int)),(IT (↑e:Int) (↑nb:Int)),(NT 0 1),((true=true)→ (AN 1)),(ZLo (l+1)),(ZHi (l+1)),(AE 1),(AE N),(AE m),Con Tryz.prog 378 4 (zf29 N m F T Q) [.p (.seq true 2 nb (bRw g)),.pt 3 0 0 0,.p (.int .i64 ((g e).1)),.p (.int .i64 ((g e).2.1)),.p (.int .i64 (l+1))] (zf29 N m F1 T1 Q) (.p (.bool true)),((!true)=false),(IL 0 ((g e).1)),(IT ((g e).1) (↑N:Int)),(NT ((g e).1.toNat) N),((F1 (g e).1.toNat==0)=false),(ZLo (F1 (g e).1.toNat - 1)),(ZHi (F1 (g e).1.toNat - 1)),((false=true)→ ((N:Nat)=1)),(NL 1 1),(NL m m),(NL ((m+1)*8) 140737488355328),(NL (m+1) 9223372036854775807),(true=true),(AN 3),(AN 0),(AN N),(AN ((m+1))),(AN 1),(NL N N),(CV [(0,⟨true,3,1,(fun i_1=>[.ar 1 1 0 N,.ar 1 1476 0 (m+1),.ar 1 1828 0 (m+1)])⟩),(1828,⟨false,1,(m+1),(fun i_1=>(if (i_1<m) then [.p (.int .i64 (Q i_1))] else [.p (.int .i64 (↑e:Int))]))⟩),(1796,⟨false,1,1,(fun i_1=>[.p (.int .i64 (↑e:Int))])⟩),(1476,⟨false,1,(m+1),(fun i_1=>(if (i_1<m) then [.p (.int .i64 (T1 i_1))] else [.p (.int .i64 ((g e).1))]))⟩),(1444,⟨false,1,1,(fun i_1=>[.p (.int .i64 ((g e).1))])⟩),(1,⟨false,1,N,(fun i_1=>(if (i_1=(g e).1.toNat) then [.p (.int .i64 (F1 (g e).1.toNat - 1))] else [.p (.int .i64 (F1 i_1))]))⟩),(164,⟨true,2,1,(fun i_1=>[.p (.int .i64 ((g e).1)),.p (.int .i64 ((g e).2.1))])⟩)] [0,1,2,3,1476,1828] 1 N (fun i=>if (i=(g e).1.toNat) then [.p (.int .i64 (F1 (g e).1.toNat - 1))] else [.p (.int .i64 (F1 i))]) (fun i=>[.p (.int .i64 (if i=(g e).1.toNat then F1 i - 1 else F1 i))])),(NL (m+1) (m+1)),(CV [(0,⟨true,3,1,(fun i_1=>[.ar 1 1 0 N,.ar 1 1476 0 (m+1),.ar 1 1828 0 (m+1)])⟩),(1828,⟨false,1,(m+1),(fun i_1=>(if (i_1<m) then [.p (.int .i64 (Q i_1))] else [.p (.int .i64 (↑e:Int))]))⟩),(1796,⟨false,1,1,(fun i_1=>[.p (.int .i64 (↑e:Int))])⟩),(1476,⟨false,1,(m+1),(fun i_1=>(if (i_1<m) then [.p (.int .i64 (T1 i_1))] else [.p (.int .i64 ((g e).1))]))⟩),(1444,⟨false,1,1,(fun i_1=>[.p (.int .i64 ((g e).1))])⟩),(1,⟨false,1,N,(fun i_1=>(if (i_1=(g e).1.toNat) then [.p (.int .i64 (F1 (g e).1.toNat - 1))] else [.p (.int .i64 (F1 i_1))]))⟩),(164,⟨true,2,1,(fun i_1=>[.p (.int .i64 ((g e).1)),.p (.int .i64 ((g e).2.1))])⟩)] [0,1,2,3,1476,1828] 1 (m+1) (fun i=>if (i<m) then [.p (.int .i64 (T1 i))] else [.p (.int .i64 ((g e).1))]) (fun i=>[.p (.int .i64 (if i<m then T1 i else (g e).1))])),(CV [(0,⟨true,3,1,(fun i_1=>[.ar 1 1 0 N,.ar 1 1476 0 (m+1),.ar 1 1828 0 (m+1)])⟩),(1828,⟨false,1,(m+1),(fun i_1=>(if (i_1<m) then [.p (.int .i64 (Q i_1))] else [.p (.int .i64 (↑e:Int))]))⟩),(1796,⟨false,1,1,(fun i_1=>[.p (.int .i64 (↑e:Int))])⟩),(1476,⟨false,1,(m+1),(fun i_1=>(if (i_1<m) then [.p (.int .i64 (T1 i_1))] else [.p (.int .i64 ((g e).1))]))⟩),(1444,⟨false,1,1,(fun i_1=>[.p (.int .i64 ((g e).1))])⟩),(1,⟨false,1,N,(fun i_1=>(if (i_1=(g e).1.toNat) then [.p (.int .i64 (F1 (g e).1.toNat - 1))] else [.p (.int .i64 (F1 i_1))]))⟩),(164,⟨true,2,1,(fun i_1=>[.p (.int .i64 ((g e).1)),.p (.int .i64 ((g e).2.1))])⟩)] [0,1,2,3,1476,1828] 1 (m+1) (fun i=>if (i<m) then [.p (.int .i64 (Q i))] else [.p (.int .i64 (↑e:Int))]) (fun i=>[.p (.int .i64 (if i<m then Q i else (↑e:Int)))])),(AE ((m+1)))] [0,1,2,3,2,2,4,5,6,7,8,8,9,10,2,2,2,11,12,13,14,2,11,12,13,15,16,11,12,13,17,2,18,19,20,21,2,3,2,18,19,20,21,2,3,22,23,18,18,24,25,24,26,24,26,27,28,29,27,30,31,27,30,32,6,7,33,33]):=by kernel_rfl
theorem pPb (g:Nat→T_Bar) (nb N m:Nat) (F T Q F1 T1:Nat→Int) (l:Int) (e:Nat) :
    zP Tryz.f344 4 [rg 1,rg 6,rm [(8,oq [0,1,2,3] (pebH N m F1 T1 Q) (.p (.bool true)))] 1,.dec false,rg 3,rg 9,.dec true,rg 3,rg 10,rg 11,rg 11,rg 1] [.code (bodyOf Tryz.f344)] (start Tryz.f344 (pebH N m F T Q) 4 [brL g nb,.p (.int .i64 l),.pt 3 0 0 0,.p (.int .i64 e)]) [0,1,2,3,1572,1924] 1 (pebH2 N (m+1) (fun s=>if s=(g e).2.1.toNat then F1 s - 1 else F1 s) (fun s=>if s<m then T1 s else (g e).2.1) (fun s=>if s<m then Q s else e)) (.p (.bool true)) =
    some (zD [(IL 0 (↑e:Int)),(IT (↑e:Int) (↑nb:Int)),(NT 0 1),((true=true)→ (AN 1)),(ZLo (l+1)),(ZHi (l+1)),(AE 1),(AE N),(AE m),Con Tryz.prog 378 4 (zf29 N m F T Q) [.p (.seq true 2 nb (bRw g)),.pt 3 0 0 0,.p (.int .i64 ((g e).1)),.p (.int .i64 ((g e).2.1)),.p (.int .i64 (l+1))] (zf29 N m F1 T1 Q) (.p (.bool true)),((!true)=false),(IL 0 ((g e).1)),(IT ((g e).1) (↑N:Int)),(NT ((g e).1.toNat) N),((F1 (g e).1.toNat==0)=true),(IL 0 ((g e).2.1)),(IT ((g e).2.1) (↑N:Int)),(NT ((g e).2.1.toNat) N),(ZLo (F1 (g e).2.1.toNat - 1)),(ZHi (F1 (g e).2.1.toNat - 1)),((false=true)→ ((N:Nat)=1)),(NL 1 1),(NL m m),(NL ((m+1)*8) 140737488355328),(NL (m+1) 9223372036854775807),(true=true),(AN 3),(AN 0),(AN N),(AN ((m+1))),(AN 1),(NL N N),(CV [(0,⟨true,3,1,(fun i_1=>[.ar 1 1 0 N,.ar 1 1572 0 (m+1),.ar 1 1924 0 (m+1)])⟩),(1924,⟨false,1,(m+1),(fun i_1=>(if (i_1<m) then [.p (.int .i64 (Q i_1))] else [.p (.int .i64 (↑e:Int))]))⟩),(1892,⟨false,1,1,(fun i_1=>[.p (.int .i64 (↑e:Int))])⟩),(1572,⟨false,1,(m+1),(fun i_1=>(if (i_1<m) then [.p (.int .i64 (T1 i_1))] else [.p (.int .i64 ((g e).2.1))]))⟩),(1540,⟨false,1,1,(fun i_1=>[.p (.int .i64 ((g e).2.1))])⟩),(1,⟨false,1,N,(fun i_1=>(if (i_1=(g e).2.1.toNat) then [.p (.int .i64 (F1 (g e).2.1.toNat - 1))] else [.p (.int .i64 (F1 i_1))]))⟩),(164,⟨true,2,1,(fun i_1=>[.p (.int .i64 ((g e).1)),.p (.int .i64 ((g e).2.1))])⟩)] [0,1,2,3,1572,1924] 1 N (fun i=>if (i=(g e).2.1.toNat) then [.p (.int .i64 (F1 (g e).2.1.toNat - 1))] else [.p (.int .i64 (F1 i))]) (fun i=>[.p (.int .i64 (if i=(g e).2.1.toNat then F1 i - 1 else F1 i))])),(NL (m+1) (m+1)),(CV [(0,⟨true,3,1,(fun i_1=>[.ar 1 1 0 N,.ar 1 1572 0 (m+1),.ar 1 1924 0 (m+1)])⟩),(1924,⟨false,1,(m+1),(fun i_1=>(if (i_1<m) then [.p (.int .i64 (Q i_1))] else [.p (.int .i64 (↑e:Int))]))⟩),(1892,⟨false,1,1,(fun i_1=>[.p (.int .i64 (↑e:Int))])⟩),(1572,⟨false,1,(m+1),(fun i_1=>(if (i_1<m) then [.p (.int .i64 (T1 i_1))] else [.p (.int .i64 ((g e).2.1))]))⟩),(1540,⟨false,1,1,(fun i_1=>[.p (.int .i64 ((g e).2.1))])⟩),(1,⟨false,1,N,(fun i_1=>(if (i_1=(g e).2.1.toNat) then [.p (.int .i64 (F1 (g e).2.1.toNat - 1))] else [.p (.int .i64 (F1 i_1))]))⟩),(164,⟨true,2,1,(fun i_1=>[.p (.int .i64 ((g e).1)),.p (.int .i64 ((g e).2.1))])⟩)] [0,1,2,3,1572,1924] 1 (m+1) (fun i=>if (i<m) then [.p (.int .i64 (T1 i))] else [.p (.int .i64 ((g e).2.1))]) (fun i=>[.p (.int .i64 (if i<m then T1 i else (g e).2.1))])),(CV [(0,⟨true,3,1,(fun i_1=>[.ar 1 1 0 N,.ar 1 1572 0 (m+1),.ar 1 1924 0 (m+1)])⟩),(1924,⟨false,1,(m+1),(fun i_1=>(if (i_1<m) then [.p (.int .i64 (Q i_1))] else [.p (.int .i64 (↑e:Int))]))⟩),(1892,⟨false,1,1,(fun i_1=>[.p (.int .i64 (↑e:Int))])⟩),(1572,⟨false,1,(m+1),(fun i_1=>(if (i_1<m) then [.p (.int .i64 (T1 i_1))] else [.p (.int .i64 ((g e).2.1))]))⟩),(1540,⟨false,1,1,(fun i_1=>[.p (.int .i64 ((g e).2.1))])⟩),(1,⟨false,1,N,(fun i_1=>(if (i_1=(g e).2.1.toNat) then [.p (.int .i64 (F1 (g e).2.1.toNat - 1))] else [.p (.int .i64 (F1 i_1))]))⟩),(164,⟨true,2,1,(fun i_1=>[.p (.int .i64 ((g e).1)),.p (.int .i64 ((g e).2.1))])⟩)] [0,1,2,3,1572,1924] 1 (m+1) (fun i=>if (i<m) then [.p (.int .i64 (Q i))] else [.p (.int .i64 (↑e:Int))]) (fun i=>[.p (.int .i64 (if i<m then Q i else (↑e:Int)))])),(AE ((m+1)))] [0,1,2,3,2,2,4,5,6,7,8,8,9,10,2,2,2,11,12,13,14,2,2,15,16,17,18,19,15,16,17,20,2,21,22,23,24,2,3,2,21,22,23,24,2,3,25,26,21,21,27,28,27,29,27,29,30,31,32,30,33,34,30,33,35,6,7,36,36]):=by kernel_rfl
def brN (x:T_Bar):Nat×Nat:=(x.1.toNat,x.2.1.toNat)
def plL (g:Nat→T_Bar) (Q:Nat→Int):Nat→List (Nat×Nat)
  | 0=>[]
  | m+1=>plL g Q m++[brN (g (Q m).toNat)]
def gmL (g:Nat→T_Bar) (T Q:Nat→Int):Nat→List Mat.PB
  | 0=>[]
  | m+1=>gmL g T Q m++[((T m).toNat,brN (g (Q m).toNat))]
theorem barsOf_app:∀ a b:List Mat.PB,Mat.barsOf (a++b)=Mat.barsOf a++Mat.barsOf b
  | [],_=>rfl
  | p::a,b=>by simp only [List.cons_append,Mat.barsOf,barsOf_app a b]
theorem tc_app (v:Nat):∀ a b:List Mat.PB,Mat.tc v (a++b)=Mat.tc v a+Mat.tc v b
  | [],b=>by simp [Mat.tc]
  | p::a,b=>by simp only [List.cons_append,Mat.tc,tc_app v a b];omega
theorem barsOf_gm (g:Nat→T_Bar) (T Q:Nat→Int):∀ m,Mat.barsOf (gmL g T Q m)=plL g Q m
  | 0=>rfl
  | m+1=>by simp only [gmL,plL,barsOf_app,barsOf_gm g T Q m,Mat.barsOf]
theorem tc_gm (g:Nat→T_Bar) (T Q:Nat→Int) (v:Nat):∀ m,(∀ j,j<m→0≤T j)→(Mat.tc v (gmL g T Q m):Int)=tcI T m v
  | 0,_=>rfl
  | m+1,h=>by
    have ih:=tc_gm g T Q v m (fun j hj=>h j (by omega))
    have h1:=h m (by omega)
    simp only [gmL,tc_app,Mat.tc,tcI]
    by_cases e:T m=v
    · have e':((T m).toNat==v)=true:=by simp;omega
      rw [e',if_pos e];simp;omega
    · have e':((T m).toNat==v)=false:=by simp;omega
      rw [e',if_neg e];simp;omega
theorem mem_gm (g:Nat→T_Bar) (T Q:Nat→Int) (p:Mat.PB):∀ m,p∈gmL g T Q m→∃ j,j<m∧p=((T j).toNat,brN (g (Q j).toNat))
  | 0,h=>by cases h
  | m+1,h=>by
    simp only [gmL,List.mem_append,List.mem_singleton] at h
    rcases h with h | h
    · obtain ⟨j,h1,h2⟩:=mem_gm g T Q p m h
      exact ⟨j,by omega,h2⟩
    · exact ⟨m,by omega,h⟩
theorem PInv.t0 {N k nb m:Nat} {g:Nat→T_Bar} {F T Q:Nat→Int} (h:PInv N k nb m g F T Q):∀ j,j<m→0≤T j∧T j<N:=by
  intro j hj
  have h1:=h.q j hj
  have h2:=h.bars (Q j).toNat (by omega)
  rcases h.t j hj with e | e<;>rw [e]<;>omega
theorem PInv.game {N k nb m:Nat} {g:Nat→T_Bar} {F T Q:Nat→Int} (h:PInv N k nb m g F T Q) (l:Nat):Mat.Game N k l (fun v=>(F v).toNat) (gmL g T Q m):=by
  refine ⟨fun p hp=>?_,fun p hp=>?_,fun v hv=>?_⟩
  · obtain ⟨j,h1,rfl⟩:=mem_gm g T Q p m hp
    simp only [brN]
    rcases h.t j h1 with e | e
    · left;rw [e]
    · right;rw [e]
  · obtain ⟨j,h1,rfl⟩:=mem_gm g T Q p m hp
    have h2:=h.q j h1
    have h3:=h.bars (Q j).toNat (by omega)
    simp only [brN,Mat.GoodBar]
    omega
  · have h1:=h.sum v hv
    have h2:=h.f0 v hv
    have h3:=tc_gm g T Q v m (fun j hj=>(h.t0 j hj).1)
    show (F v).toNat+Mat.tc v (gmL g T Q m)=k
    omega
theorem gather_no {N k nb m l:Nat} {g:Nat→T_Bar} {F T Q:Nat→Int} {a b:Int} (hp:PInv N k nb m g F T Q) (ha:0≤a∧a<N) (hb:0≤b∧b<N) (hab:a≠b) (hs:F a.toNat+F b.toNat≤l)
    {F1 T1 F2 T2:Nat→Int} (h1:Moved N k nb m g F T Q a b F1 T1 false) (h2:Moved N k nb m g F T Q b a F2 T2 false):¬ Mat.Sparse N k l (plL g Q m++[(a.toNat,b.toNat)]):=by
  obtain ⟨_,_,R1,r1,c1,z1⟩:=h1.no rfl
  obtain ⟨_,_,R2,r2,c2,z2⟩:=h2.no rfl
  have f1:=hp.f0 a.toNat (by omega)
  have f2:=hp.f0 b.toNat (by omega)
  rw [← barsOf_gm g T Q m]
  refine (hp.game l).reject a.toNat b.toNat ⟨by show a.toNat≠b.toNat;omega,by show a.toNat<N;omega,by show b.toNat<N;omega⟩ (by show (F a.toNat).toNat+(F b.toNat).toNat≤l;omega) (fun v=>R1 v||R2 v) (by simp [r1]) (by simp [r2]) (fun p hpm hR=>?_) (fun v hR v1 v2=>?_)
  · obtain ⟨j,h3,rfl⟩:=mem_gm g T Q p m hpm
    have key:∀ R:Nat→Bool,R (T j).toNat=true→R (othF (g (Q j).toNat) (T j)).toNat=true→R (g (Q j).toNat).1.toNat=true∧R (g (Q j).toNat).2.1.toNat=true:=by
      intro R k1 k2
      unfold othF at k2
      by_cases e:(g (Q j).toNat).1=T j
      · rw [if_pos e] at k2
        exact ⟨by rw [e];exact k1,k2⟩
      · rw [if_neg e] at k2
        rcases hp.t j h3 with e' | e'
        · exact absurd e'.symm e
        · exact ⟨k2,by rw [← e'];exact k1⟩
    simp only [Mat.inn,brN]
    simp only [Bool.or_eq_true] at hR
    rcases hR with hR | hR
    · obtain ⟨k1,k2⟩:=key R1 hR (c1 j h3 hR)
      simp [k1,k2]
    · obtain ⟨k1,k2⟩:=key R2 hR (c2 j h3 hR)
      simp [k1,k2]
  · simp only [Bool.or_eq_true] at hR
    have:F v=0:=by
      rcases hR with hR | hR
      · exact z1 v hR (by omega) (by omega)
      · exact z2 v hR (by omega) (by omega)
    show (F v).toNat=0
    rw [this];rfl
theorem con_gather {N k nb m l:Nat} {g:Nat→T_Bar} {F T Q:Nat→Int} {a b:Int} (hp:PInv N k nb m g F T Q) (hk:k≤1048576) (hN:N≤1048576) (hm:m≤1048576) (hnb:nb≤1048576)
    (ha:0≤a∧a<N) (hb:0≤b∧b<N) (hab:a≠b):∃ F' T' r,Con Tryz.prog 378 4 (pebH N m F T Q) [brL g nb,.pt 3 0 0 0,.p (.int .i64 a),.p (.int .i64 b),.p (.int .i64 ((l:Int)+1))] (pebH N m F' T' Q) (.p (.bool r)) ∧
      PInv N k nb m g F' T' Q∧(r=true→(l:Int)+1≤F' a.toNat+F' b.toNat)∧(r=false→¬ Mat.Sparse N k l (plL g Q m++[(a.toNat,b.toNat)])):=by
  have lp:∀ d F T,PInv N k nb m g F T Q→(l:Int)+1≤F a.toNat+F b.toNat+(d:Nat)→∃ F' T' r,(∀ c,c.n=4→zR c 378 zf101 (SG g nb N m F T Q a b ((l:Int)+1)) (Post c (pebH N m F' T' Q) (.p (.bool r)))) ∧
      PInv N k nb m g F' T' Q∧(r=true→(l:Int)+1≤F' a.toNat+F' b.toNat)∧(r=false→¬ Mat.Sparse N k l (plL g Q m++[(a.toNat,b.toNat)])):=by
    intro d
    induction d with
    | zero =>
      intro F T hp hw
      have hd:decide (F a.toNat+F b.toNat<(l:Int)+1)=false:=by simp;omega
      have l1:=hp.le (v:=a.toNat) (by omega)
      have l2:=hp.le (v:=b.toNat) (by omega)
      refine ⟨F,T,true,fun c hc=>?_,hp,(fun _=>by omega),(fun h=>by cases h)⟩
      refine pkZ Tryz.func378 hc (pGd g nb N m F T Q a b ((l:Int)+1)) ?_
      and_intros
      all_goals (first | exact zN | (exact hd) | (intro i hi;simp [All]))
    | succ d ih =>
      intro F T hp hw
      have l1:=hp.le (v:=a.toNat) (by omega)
      have l2:=hp.le (v:=b.toNat) (by omega)
      by_cases hs:F a.toNat+F b.toNat<(l:Int)+1
      · have hd:decide (F a.toNat+F b.toNat<(l:Int)+1)=true:=by simp;omega
        obtain ⟨F1,T1,r1,hc1,hm1⟩:=con_moveTo hp hk hN hm hnb ha hb hab
        cases r1 with
        | true =>
          obtain ⟨y1,y2⟩:=hm1.yes rfl
          obtain ⟨F',T',r,hrun,h1,h2,h3⟩:=ih F1 T1 hm1.inv (by omega)
          refine ⟨F',T',r,fun c hc=>?_,h1,h2,h3⟩
          refine pcD hc (pGa g nb N m F T Q F1 T1 a b ((l:Int)+1)) ?_ (hrun c hc)
          and_intros
          all_goals (first | exact zN | (exact hd) | (exact hc1) | (intro i hi;simp [All]))
        | false =>
          obtain ⟨n1,n2,_⟩:=hm1.no rfl
          subst n1;subst n2
          obtain ⟨F2,T2,r2,hc2,hm2⟩:=con_moveTo hp hk hN hm hnb hb ha (Ne.symm hab)
          cases r2 with
          | true =>
            obtain ⟨y1,y2⟩:=hm2.yes rfl
            obtain ⟨F',T',r,hrun,h1,h2,h3⟩:=ih F2 T2 hm2.inv (by omega)
            refine ⟨F',T',r,fun c hc=>?_,h1,h2,h3⟩
            refine pcD hc (pGb g nb N m F1 T1 Q F1 T1 F2 T2 a b ((l:Int)+1)) ?_ (hrun c hc)
            and_intros
            all_goals (first | exact zN | (exact hd) | (exact hc1) | (exact hc2) | (intro i hi;simp [All]))
          | false =>
            refine ⟨F2,T2,false,fun c hc=>?_,hm2.inv,(fun h=>by cases h),fun _=>gather_no hp ha hb hab (by omega) hm1 hm2⟩
            refine pkD Tryz.func378 hc (pGc g nb N m F1 T1 Q F1 T1 F2 T2 a b ((l:Int)+1)) ?_
            and_intros
            all_goals (first | exact zN | (exact hd) | (exact hc1) | (exact hc2) | (intro i hi;simp [All]))
      · have hd:decide (F a.toNat+F b.toNat<(l:Int)+1)=false:=by simp;omega
        refine ⟨F,T,true,fun c hc=>?_,hp,(fun _=>by omega),(fun h=>by cases h)⟩
        refine pkZ Tryz.func378 hc (pGd g nb N m F T Q a b ((l:Int)+1)) ?_
        and_intros
        all_goals (first | exact zN | (exact hd) | (intro i hi;simp [All]))
  have l1:=hp.le (v:=a.toNat) (by omega)
  have l2:=hp.le (v:=b.toNat) (by omega)
  obtain ⟨F',T',r,hrun,h⟩:=lp (l+1) F T hp (by omega)
  refine ⟨F',T',r,?_,h⟩
  refine csZ Tryz.func378 (fun c hc=>?_)
  refine pcZ hc (pGz g nb N m F T Q a b ((l:Int)+1)) ?_ (hrun c hc)
  and_intros
  all_goals (first | exact zN | (intro i hi;simp [All]))
theorem tcI_congr {T T':Nat→Int} (x:Int):∀ m,(∀ j,j<m→T j=T' j)→tcI T m x=tcI T' m x
  | 0,_=>rfl
  | m+1,h=>by simp only [tcI];rw [tcI_congr x m (fun j hj=>h j (by omega)),h m (by omega)]
theorem PInv.placed {N k nb m:Nat} {g:Nat→T_Bar} {F T Q:Nat→Int} (hp:PInv N k nb m g F T Q) (e:Nat) (he:e<nb) (tl:Int) (ht:tl=(g e).1∨tl=(g e).2.1) (hf:1≤F tl.toNat) :
    PInv N k nb (m+1) g (fun s=>if s=tl.toNat then F s - 1 else F s) (fun s=>if s<m then T s else tl) (fun s=>if s<m then Q s else e):=by
  have hb:=hp.bars e he
  have h0:0≤tl∧tl<N:=by rcases ht with h | h<;>rw [h]<;>omega
  refine ⟨hp.bars,fun j hj=>?_,fun j hj=>?_,fun v hv=>?_,fun v hv=>?_⟩
  · show 0≤(if j<m then Q j else (e:Int))∧(if j<m then Q j else (e:Int))<nb
    by_cases h:j<m
    · rw [if_pos h];exact hp.q j h
    · rw [if_neg h];omega
  · show (if j<m then T j else tl)=(g (if j<m then Q j else (e:Int)).toNat).1∨(if j<m then T j else tl)=(g (if j<m then Q j else (e:Int)).toNat).2.1
    by_cases h:j<m
    · rw [if_pos h,if_pos h];exact hp.t j h
    · rw [if_neg h,if_neg h];exact ht
  · have:=hp.f0 v hv
    show 0≤(if v=tl.toNat then F v - 1 else F v)
    by_cases h:v=tl.toNat
    · rw [if_pos h,h];omega
    · rw [if_neg h];exact this
  · have h1:=hp.sum v hv
    show (if v=tl.toNat then F v - 1 else F v)+(tcI (fun s=>if s<m then T s else tl) m v+(if (if m<m then T m else tl)=(v:Int) then 1 else 0))=k
    rw [tcI_congr (T':=T) v m (fun j hj=>by show (if j<m then T j else tl)=T j;rw [if_pos hj])]
    simp only [Nat.lt_irrefl,if_false]
    by_cases h:v=tl.toNat
    · rw [if_pos h,if_pos (by omega)];omega
    · rw [if_neg h,if_neg (by omega)];omega
theorem con_place {N k nb m l:Nat} {g:Nat→T_Bar} {F T Q:Nat→Int} (hp:PInv N k nb m g F T Q) (hk:k≤1048576) (hl:l≤1048576) (hN:N≤1048576) (hm:m≤1048576) (hnb:nb≤1048576) (e:Nat) (he:e<nb)
    (hsp:Mat.Sparse N k l (plL g Q m)) :
    (∃ F' T',Con Tryz.prog 344 4 (pebH N m F T Q) [brL g nb,.p (.int .i64 l),.pt 3 0 0 0,.p (.int .i64 e)] (pebH2 N (m+1) F' T' (fun s=>if s<m then Q s else e)) (.p (.bool true)) ∧
      PInv N k nb (m+1) g F' T' (fun s=>if s<m then Q s else e)∧Mat.Sparse N k l (plL g Q m++[brN (g e)])) ∨
    (∃ F' T',Con Tryz.prog 344 4 (pebH N m F T Q) [brL g nb,.p (.int .i64 l),.pt 3 0 0 0,.p (.int .i64 e)] (pebH N m F' T' Q) (.p (.bool false))∧¬ Mat.Sparse N k l (plL g Q m++[brN (g e)])):=by
  have hbar:=hp.bars e he
  obtain ⟨F1,T1,r,hc1,h1,h2,h3⟩:=con_gather (l:=l) (a:=(g e).1) (b:=(g e).2.1) hp hk hN hm hnb (by omega) (by omega) (by omega)
  have hlA:=h1.le (v:=(g e).1.toNat) (by omega)
  have hlB:=h1.le (v:=(g e).2.1.toNat) (by omega)
  cases r with
  | false =>
    right
    refine ⟨F1,T1,?_,h3 rfl⟩
    refine csZ Tryz.func344 (fun c hc=>?_)
    refine pkD Tryz.func344 hc (pPf g nb N m F T Q F1 T1 l e) ?_
    and_intros
    all_goals (first | exact zI | (exact hc1) | (intro i hi;simp [All]))
  | true =>
    left
    have hw:=h2 rfl
    have hacc:Mat.Sparse N k l (plL g Q m++[brN (g e)]):=by
      have:=(h1.game l).accept (by rw [barsOf_gm];exact hsp) (g e).1.toNat (g e).2.1.toNat ⟨by show (g e).1.toNat≠(g e).2.1.toNat;omega,by show (g e).1.toNat<N;omega,by show (g e).2.1.toNat<N;omega⟩
        (by show l+1≤(F1 (g e).1.toNat).toNat+(F1 (g e).2.1.toNat).toNat;omega)
      rw [barsOf_gm] at this
      exact this
    by_cases hz:F1 (g e).1.toNat=0
    · have hzb:(F1 (g e).1.toNat==0)=true:=by simp [hz]
      refine ⟨_,_,?_,h1.placed e he (g e).2.1 (.inr rfl) (by omega),hacc⟩
      refine csZ Tryz.func344 (fun c hc=>?_)
      refine pkD Tryz.func344 hc (pPb g nb N m F T Q F1 T1 l e) ?_
      and_intros
      all_goals (first | exact zI | (exact hc1) | (exact hzb) | (intro i hi;simp [All];done) | (intro i hi;by_cases h:i<m<;>simp [h,cvtL,cvt,tg,tru,All];done) | (intro i hi;by_cases h:i=(g e).2.1.toNat<;>simp [h,cvtL,cvt,tg,tru,All]))
    · have hzb:(F1 (g e).1.toNat==0)=false:=by simp [hz]
      refine ⟨_,_,?_,h1.placed e he (g e).1 (.inl rfl) (by omega),hacc⟩
      refine csZ Tryz.func344 (fun c hc=>?_)
      refine pkD Tryz.func344 hc (pPa g nb N m F T Q F1 T1 l e) ?_
      and_intros
      all_goals (first | exact zI | (exact hc1) | (exact hzb) | (intro i hi;simp [All];done) | (intro i hi;by_cases h:i<m<;>simp [h,cvtL,cvt,tg,tru,All];done) | (intro i hi;by_cases h:i=(g e).1.toNat<;>simp [h,cvtL,cvt,tg,tru,All]))
def inD (n:Nat) (F:Nat→Int):AV:=.p (.seq true 1 n (fun i=>[.int .i64 (F i)]))
def pebO (N m:Nat) (j:Nat):AV:=.agg [.ar 1 j 0 N,.ar 1 ⟨j+1,none⟩ 0 m,.ar 1 ⟨j+2,none⟩ 0 m]
def pebR (N m:Nat) (F T Q:Nat→Int):Hp:=[(0,iOb N F),(1,iOb m T),(2,iOb m Q)]
def SY0 (g:Nat→T_Bar) (nb N k l i:Nat):St :=
  ⟨[.p (.int .i64 N),brL g nb,.p (.int .i64 k),.p (.int .i64 l),.p .any,.p .any,.p .any,.p .any,.pt 3 0 0 0,.pt 3 1 0 0,.p .any,.p .any,.p .any,.p (.int .i64 N),.p (.int .i64 i)]++List.replicate 22 anyA,
   [(0,⟨true,3,1,fun _=>[.p .nil,.p .nil,.p .nil]⟩),(1,⟨true,3,1,fun _=>[.ar 1 2 0 i,.ar 1 3 0 0,.ar 1 4 0 0]⟩),(2,iOb i (fun _=>k)),(3,iOb 0 (fun _=>0)),(4,iOb 0 (fun _=>0))],5⟩
def SY1 (g:Nat→T_Bar) (nb N m k l e:Nat) (F T Q:Nat→Int):St :=
  ⟨[.p (.int .i64 N),brL g nb,.p (.int .i64 k),.p (.int .i64 l),.p .any,.p .any,.p .any,.p .any,.pt 3 0 0 0,.pt 3 1 0 0]++List.replicate 14 anyA++[.p (.int .i64 nb),.p (.int .i64 e)]++List.replicate 11 anyA,
   [(0,⟨true,3,1,fun _=>[.p .nil,.p .nil,.p .nil]⟩),(1,⟨true,3,1,fun _=>[.ar 1 2 0 N,.ar 1 3 0 m,.ar 1 4 0 m]⟩),(2,iOb N F),(3,iOb m T),(4,iOb m Q)],5⟩
theorem pCi (n:Nat) (F:Nat→Int) :
    zS Tryz.f165 [rg 1,rg 4] [inD n F] [96] [(0,iOb n F)] (.ar 1 0 0 n) =
    some [(NL 0 0),(NL ((0+n)*8) 140737488355328),(NL (0+n) 9223372036854775807),(AN 0),(((0+n):Nat)=n),(AN 1),(NL n (0+n)),(AA n (fun i=>[.p (.int .i64 (F i))])),(AE n)]:=by kernel_rfl
theorem pCp (N m m':Nat) (F T Q:Nat→Int) :
    zS Tryz.f343 [rg 2,rm [(2,oc [(0,iOb N F)] (.ar 1 0 0 N)),(2,oc [(0,iOb m T)] (.ar 1 0 0 m)),(2,oc [(0,iOb m Q)] (.ar 1 0 0 m))] 2] [.agg [inD N F,inD m T,inD m Q]] [128,224,320] (pebR N m F T Q) (pebO N m 0) =
    some (zD [(NT 0 1),zE 165 [.p (.seq true 1 N (fun i=>[.int .i64 (F i)]))] [(0,⟨false,1,N,(fun i=>[.p (.int .i64 (F i))])⟩)] (.ar 1 0 0 N),zE 165 [.p (.seq true 1 m (fun i=>[.int .i64 (T i)]))] [(0,⟨false,1,m,(fun i=>[.p (.int .i64 (T i))])⟩)] (.ar 1 0 0 m),zE 165 [.p (.seq true 1 m (fun i=>[.int .i64 (Q i)]))] [(0,⟨false,1,m,(fun i=>[.p (.int .i64 (Q i))])⟩)] (.ar 1 0 0 m),((true=true)→ (AN 1)),(AN 0),(AN N),(AN m),(AN 1),(NL N N),(AA N (fun i=>[.p (.int .i64 (F i))])),(NL m m),(AA m (fun i=>[.p (.int .i64 (T i))])),(AA m (fun i=>[.p (.int .i64 (Q i))])),(AE N),(AE m)] [0,1,0,2,0,3,0,4,0,5,6,5,7,5,7,8,9,10,8,11,12,8,11,13,14,15,15]):=by kernel_rfl
theorem pYz (g:Nat→T_Bar) (nb N k l:Nat) :
    zT Tryz.f293 [rg 1,rg 3,rg 2,.head] [.p (.int .i64 N),brL g nb,.p (.int .i64 k),.p (.int .i64 l)] [0,64] (SY0 g nb N k l 0) =
    some (zf74,zD [(NT 0 1),((true=true)→ (AN 1)),(AI ((↑N:Int))),(AN nb),(AP nb (bRw g)),(AI ((↑k:Int))),(AI ((↑l:Int))),(AN 0),((0:Int)=(↑0:Int)),((((List.map (fun v=>AV.p (absV v)) [Value.slice none 0 0,Value.slice none 0 0,Value.slice none 0 0]).length):Nat)=3),(NL 1 1)] [0,1,2,3,4,5,6,7,7,2,8,9,10,10,9,10,10,7,7,7,7,7,7]):=by kernel_rfl
theorem pY0 (g:Nat→T_Bar) (nb N k l i:Nat) :
    zM 0 [rg 1,.dec true,rg 7,rg 2,.head] zf74 (SY0 g nb N k l i) [0,1,165,3,4] 1 (SY0 g nb N k l (i+1)) =
    some (zf74,zD [((decide ((↑i:Int)<(↑N:Int)))=true),(NT 0 1),(NL 1 1),(NL i i),(NL ((i+1)*8) 140737488355328),(NL (i+1) 9223372036854775807),((true=true)→ (AN 1)),(ZLo ((↑i:Int)+1)),(ZHi ((↑i:Int)+1)),(AI ((↑N:Int))),(AN nb),(AP nb (bRw g)),(AI ((↑k:Int))),(AI ((↑l:Int))),(AN 0),((((↑i:Int)+1):Int)=(↑(i+1):Int)),(AN 3),(AN ((i+1))),(AN 1),(NL (i+1) (i+1)),(CV [(1,⟨true,3,1,(fun i_2=>[.ar 1 165 0 (i+1),.ar 1 3 0 0,.ar 1 4 0 0])⟩),(165,⟨false,1,(i+1),(fun i_2=>(if (i_2<i) then [.p (.int .i64 (↑k:Int))] else [.p (.int .i64 (↑k:Int))]))⟩),(133,⟨false,1,1,(fun i_2=>[.p (.int .i64 (↑k:Int))])⟩),(0,⟨true,3,1,(fun i_2=>[.p (.nil),.p (.nil),.p (.nil)])⟩),(3,⟨false,1,0,(fun i_2=>[.p (.int .i64 0)])⟩),(4,⟨false,1,0,(fun i_2=>[.p (.int .i64 0)])⟩)] [0,1,165,3,4] 1 (i+1) (fun i_1=>if (i_1<i) then [.p (.int .i64 (↑k:Int))] else [.p (.int .i64 (↑k:Int))]) (fun i_1=>[.p (.int .i64 (↑k:Int))])),(NL 0 0),(AA 0 (fun i_1=>[.p (.int .i64 0)]))] [0,1,2,3,4,5,1,6,7,8,9,10,11,12,13,14,14,9,15,16,2,2,16,2,2,14,17,14,14,14,14,18,19,20,18,21,22,18,21,22]):=by kernel_rfl
theorem pY01 (g:Nat→T_Bar) (nb N k l i:Nat) :
    zM 0 [rg 1,.dec false,rg 3,.head] zf74 (SY0 g nb N k l i) [0,1,2,3,4] 1 (SY1 g nb N 0 k l 0 (fun _=>k) (fun _=>0) (fun _=>0)) =
    some (zf60,zD [((decide ((↑i:Int)<(↑N:Int)))=false),(AI ((↑N:Int))),(AN nb),(AP nb (bRw g)),(AI ((↑k:Int))),(AI ((↑l:Int))),(AN 0),(AI ((↑nb:Int))),((0:Int)=(↑0:Int)),(AN 3),(NL 1 1),((i:Nat)=N),(AN 1),(NL N i),(AA N (fun i_1=>[.p (.int .i64 (↑k:Int))])),(NL 0 0),(AA 0 (fun i_1=>[.p (.int .i64 0)]))] [0,1,2,3,4,5,6,6,7,8,9,10,10,9,10,10,6,11,6,6,6,6,12,13,14,12,15,16,12,15,16]):=by kernel_rfl
theorem pY1t (g:Nat→T_Bar) (nb N m k l e:Nat) (F T Q F1 T1:Nat→Int) :
    zM 0 [rg 1,.dec true,rg 2,rm [(1,oc (pebR N m F T Q) (pebO N m 0))] 2,rm [(3,oq [165,133,134,135] (pebH2 N (m+1) F1 T1 (fun s=>if s<m then Q s else e)) (.p (.bool true)))] 0,.dec true,rg 2,rg 2,.head] zf60 (SY1 g nb N m k l e F T Q) [0,1,133,325,326] 1 (SY1 g nb N (m+1) k l (e+1) F1 T1 (fun s=>if s<m then Q s else e)) =
    some (zf60,zD [((decide ((↑e:Int)<(↑nb:Int)))=true),(NT 0 1),(AN 1),(NL N N),(NL m m),zE 343 [(zf75 N F m T Q)] (zf54 N F m T Q) (.agg [.ar 1 0 0 N,.ar 1 1 0 m,.ar 1 2 0 m]),((true=true)→ (AN 1)),(AE 1),(AE N),(AE m),Con Tryz.prog 344 4 (zf29 N m F T Q) [.p (.seq true 2 nb (bRw g)),.p (.int .i64 (↑l:Int)),.pt 3 0 0 0,.p (.int .i64 (↑e:Int))] [(0,⟨true,3,1,(fun i=>[.ar 1 1 0 N,.ar 1 4 0 (m+1),.ar 1 5 0 (m+1)])⟩),(1,⟨false,1,N,(fun i=>[.p (.int .i64 (F1 i))])⟩),(4,⟨false,1,(m+1),(fun i=>[.p (.int .i64 (T1 i))])⟩),(5,⟨false,1,(m+1),(fun i=>[.p (.int .i64 (if i<m then Q i else (↑e:Int)))])⟩)] (.p (.bool true)),(true=true),(ZLo ((↑e:Int)+1)),(ZHi ((↑e:Int)+1)),(AI ((↑N:Int))),(AN nb),(AP nb (bRw g)),(AI ((↑k:Int))),(AI ((↑l:Int))),(AN 0),(AI ((↑nb:Int))),((((↑e:Int)+1):Int)=(↑(e+1):Int)),(AN 3),(NL 1 1),(AN N),(AN ((m+1))),(AA N (fun i=>[.p (.int .i64 (F1 i))])),(NL (m+1) (m+1)),(AA ((m+1)) (fun i=>[.p (.int .i64 (T1 i))])),(AA ((m+1)) (fun i=>[.p (.int .i64 (if i<m then Q i else (↑e:Int)))]))] [0,1,2,3,2,4,2,4,5,1,6,7,8,9,9,10,11,1,1,6,12,13,14,15,16,17,18,19,19,20,21,22,23,23,22,23,23,19,24,19,25,19,25,2,3,26,2,27,28,2,27,29]):=by kernel_rfl
theorem pY1f (g:Nat→T_Bar) (nb N m k l e:Nat) (F T Q F1 T1:Nat→Int) :
    zM 0 [rg 1,.dec true,rg 2,rm [(1,oc (pebR N m F T Q) (pebO N m 0))] 2,rm [(3,oq [165,133,134,135] (pebH N m F1 T1 Q) (.p (.bool false)))] 0,.dec false,rg 2,.head] zf60 (SY1 g nb N m k l e F T Q) [0,1,2,3,4] 1 (SY1 g nb N m k l (e+1) F T Q) =
    some (zf60,zD [((decide ((↑e:Int)<(↑nb:Int)))=true),(NT 0 1),(AN 1),(NL N N),(NL m m),zE 343 [(zf75 N F m T Q)] (zf54 N F m T Q) (.agg [.ar 1 0 0 N,.ar 1 1 0 m,.ar 1 2 0 m]),((true=true)→ (AN 1)),(AE 1),(AE N),(AE m),Con Tryz.prog 344 4 (zf29 N m F T Q) [.p (.seq true 2 nb (bRw g)),.p (.int .i64 (↑l:Int)),.pt 3 0 0 0,.p (.int .i64 (↑e:Int))] (zf29 N m F1 T1 Q) (.p (.bool false)),(false=false),(ZLo ((↑e:Int)+1)),(ZHi ((↑e:Int)+1)),(AI ((↑N:Int))),(AN nb),(AP nb (bRw g)),(AI ((↑k:Int))),(AI ((↑l:Int))),(AN 0),(AI ((↑nb:Int))),((((↑e:Int)+1):Int)=(↑(e+1):Int)),(AN 3),(NL 1 1),(AN N),(AN m),(AA N (fun i=>[.p (.int .i64 (F i))])),(AA m (fun i=>[.p (.int .i64 (T i))])),(AA m (fun i=>[.p (.int .i64 (Q i))]))] [0,1,2,3,2,4,2,4,5,1,6,7,8,9,9,10,11,12,13,14,15,16,17,18,19,19,20,21,22,23,23,22,23,23,19,24,19,25,19,25,2,3,26,2,4,27,2,4,28]):=by kernel_rfl
theorem pY2 (g:Nat→T_Bar) (nb N m k l e:Nat) (F T Q:Nat→Int) :
    zP Tryz.f293 0 [rg 1,.dec false,rg 2] zf60 (SY1 g nb N m k l e F T Q) [2,3,4] 1 (pebR N m F T Q) (pebO N m 0) =
    some (zD [((decide ((↑e:Int)<(↑nb:Int)))=false),(NT 0 1),((true=true)→ (AN 1)),(AN 0),(AN N),(AN m),(AN 1),(NL N N),(AA N (fun i=>[.p (.int .i64 (F i))])),(NL m m),(AA m (fun i=>[.p (.int .i64 (T i))])),(AA m (fun i=>[.p (.int .i64 (Q i))])),(AE N),(AE m)] [0,1,1,2,1,3,4,3,5,3,5,6,7,8,6,9,10,6,9,11,12,13,13]):=by kernel_rfl
theorem con_copyInts (n:Nat) (F:Nat→Int) (hn:n≤1048576):zE 165 [inD n F] [(0,iOb n F)] (.ar 1 0 0 n):=by
  refine csZ Tryz.func165 (fun c hc=>?_)
  refine pkZ Tryz.func165 hc (pCi n F) ?_
  and_intros
  all_goals (first | exact zN | (intro i hi;simp [All]))
theorem con_copyPebbles (N m:Nat) (F T Q:Nat→Int) (hN:N≤1048576) (hm:m≤1048576):zE 343 [.agg [inD N F,inD m T,inD m Q]] (pebR N m F T Q) (pebO N m 0):=by
  refine csZ Tryz.func343 (fun c hc=>?_)
  refine pkD Tryz.func343 hc (pCp N m m F T Q) ?_
  and_intros
  all_goals (first | exact zI | (exact con_copyInts N F hN) | (exact con_copyInts m T hm) | (exact con_copyInts m Q hm) | (intro i hi;simp [All]))
open Classical in
noncomputable def accI (N k l:Nat) (g:Nat→T_Bar):Nat→List Nat
  | 0=>[]
  | e+1=>if Mat.Sparse N k l ((accI N k l g e).map (fun i=>brN (g i))++[brN (g e)]) then accI N k l g e++[e] else accI N k l g e
theorem accI_sparse (N k l:Nat) (g:Nat→T_Bar):∀ e,Mat.Sparse N k l ((accI N k l g e).map (fun i=>brN (g i)))
  | 0=>Mat.sparse_nil N k l
  | e+1=>by
    simp only [accI]
    split
    · rename_i h;rw [List.map_append];exact h
    · exact accI_sparse N k l g e
def qL (Q:Nat→Int):Nat→List Nat
  | 0=>[]
  | m+1=>qL Q m++[(Q m).toNat]
theorem qL_length (Q:Nat→Int):∀ m,(qL Q m).length=m
  | 0=>rfl
  | m+1=>by simp [qL,qL_length Q m]
theorem qL_congr {Q Q':Nat→Int}:∀ m,(∀ j,j<m→Q j=Q' j)→qL Q m=qL Q' m
  | 0,_=>rfl
  | m+1,h=>by simp only [qL];rw [qL_congr m (fun j hj=>h j (by omega)),h m (by omega)]
theorem plL_qL (g:Nat→T_Bar) (Q:Nat→Int):∀ m,plL g Q m=(qL Q m).map (fun i=>brN (g i))
  | 0=>rfl
  | m+1=>by simp only [plL,qL,plL_qL g Q m,List.map_append,List.map_cons,List.map_nil]
theorem accI_len (N k l:Nat) (g:Nat→T_Bar):∀ e,(accI N k l g e).length≤e
  | 0=>Nat.le_refl _
  | e+1=>by
    have:=accI_len N k l g e
    simp only [accI]
    split
    · simp;omega
    · omega
theorem PInv.start {N k nb:Nat} {g:Nat→T_Bar} (hb:∀ e,e<nb→0≤(g e).1∧(g e).1<(g e).2.1∧(g e).2.1<N):PInv N k nb 0 g (fun _=>(k:Int)) (fun _=>0) (fun _=>0) :=
  ⟨hb,fun j hj=>absurd hj (Nat.not_lt_zero _),fun j hj=>absurd hj (Nat.not_lt_zero _),fun v _=>by show (0:Int)≤k;omega,fun v _=>by show (k:Int)+0=k;omega⟩
theorem con_play {N k l nb:Nat} {g:Nat→T_Bar} (hb:∀ e,e<nb→0≤(g e).1∧(g e).1<(g e).2.1∧(g e).2.1<N) (hk:k≤1048576) (hl:l≤1048576) (hN:N≤1048576) (hnb:nb≤1048576) :
    ∃ m F T Q,zE 293 [.p (.int .i64 N),brL g nb,.p (.int .i64 k),.p (.int .i64 l)] (pebR N m F T Q) (pebO N m 0)∧PInv N k nb m g F T Q∧qL Q m=accI N k l g nb:=by
  have lp1:∀ d e m F T Q,e+d=nb→PInv N k nb m g F T Q→qL Q m=accI N k l g e →
      ∃ m' F' T' Q',(∀ c,c.n=0→zR c 293 zf60 (SY1 g nb N m k l e F T Q) (Post c (pebR N m' F' T' Q') (pebO N m' 0)))∧PInv N k nb m' g F' T' Q'∧qL Q' m'=accI N k l g nb:=by
    intro d
    induction d with
    | zero =>
      intro e m F T Q he hp hq
      obtain rfl:e=nb:=by omega
      refine ⟨m,F,T,Q,fun c hc=>?_,hp,hq⟩
      have hd:decide ((e:Int)<(e:Int))=false:=by simp
      refine pkD Tryz.func293 hc (pY2 g e N m k l e F T Q) ?_
      and_intros
      all_goals (first | exact zI | (intro i hi;simp [All]))
    | succ d ih =>
      intro e m F T Q he hp hq
      have hd:decide ((e:Int)<(nb:Int))=true:=by simp;omega
      have hm:m≤1048576:=by
        have:=accI_len N k l g e
        rw [← hq,qL_length] at this
        omega
      have hsp:Mat.Sparse N k l (plL g Q m):=by rw [plL_qL,hq];exact accI_sparse N k l g e
      have hcc:=con_copyPebbles N m F T Q hN hm
      rcases con_place hp hk hl hN hm hnb e (by omega) hsp with ⟨F1,T1,hc1,hp1,hs1⟩ | ⟨F1,T1,hc1,hs1⟩
      · obtain ⟨m',F',T',Q',hrun,h1,h2⟩:=ih (e+1) (m+1) F1 T1 _ (by omega) hp1 (by
          simp only [accI]
          rw [← hq,← plL_qL,if_pos hs1]
          simp only [qL,Nat.lt_irrefl,if_false,Int.toNat_natCast]
          rw [qL_congr (Q':=Q) m (fun j hj=>by simp only [hj,if_true])])
        refine ⟨m',F',T',Q',fun c hc=>?_,h1,h2⟩
        refine pcD hc (pY1t g nb N m k l e F T Q F1 T1) ?_ (hrun c hc)
        and_intros
        all_goals (first | exact zI | (exact hcc) | (exact hc1) | (intro i hi;simp [All]))
      · obtain ⟨m',F',T',Q',hrun,h1,h2⟩:=ih (e+1) m F T Q (by omega) hp (by
          simp only [accI]
          rw [← hq,← plL_qL,if_neg hs1])
        refine ⟨m',F',T',Q',fun c hc=>?_,h1,h2⟩
        refine pcD hc (pY1f g nb N m k l e F T Q F1 T1) ?_ (hrun c hc)
        and_intros
        all_goals (first | exact zI | (exact hcc) | (exact hc1) | (intro i hi;simp [All]))
  obtain ⟨m',F',T',Q',hrun,h1,h2⟩:=lp1 nb 0 0 _ _ _ (by omega) (PInv.start hb) rfl
  refine ⟨m',F',T',Q',?_,h1,h2⟩
  refine csZ Tryz.func293 (fun c hc=>?_)
  have lp0:∀ d i,i+d=N→zR c 293 zf74 (SY0 g nb N k l i) (Post c (pebR N m' F' T' Q') (pebO N m' 0)):=by
    intro d
    induction d with
    | zero =>
      intro i hi
      obtain rfl:i=N:=by omega
      have hd:decide ((i:Int)<(i:Int))=false:=by simp
      refine pcD hc (pY01 g nb i k l i) ?_ (hrun c hc)
      and_intros
      all_goals (first | exact zN | (intro i hi;simp [All]))
    | succ d ih =>
      intro i hi
      have hd:decide ((i:Int)<(N:Int))=true:=by simp;omega
      refine pcD hc (pY0 g nb N k l i) ?_ (ih (i+1) (by omega))
      and_intros
      all_goals (first | exact zI | (intro j hj;simp [All];done) | (intro j hj;by_cases h:j<i<;>simp [h,cvtL,cvt,tg,tru,All]))
  refine pcD hc (pYz g nb N k l) ?_ (lp0 N 0 (by omega))
  and_intros
  all_goals (first | exact zI | (intro i hi;simp [All]))
def grG (g:Nat→T_Bar) (nb N:Nat):AV:=.agg [.p (.int .i64 N),brL g nb]
def bxG (g:Nat→T_Bar) (nb N:Nat):Ob:=⟨true,2,1,fun _=>[.p (.int .i64 N),brL g nb]⟩
def bx0:Ob:=⟨true,3,1,fun _=>[.p .nil,.p .nil,.p .nil]⟩
def bxP (N m j:Nat):Ob:=⟨true,3,1,fun _=>[.ar 1 j 0 N,.ar 1 ⟨j+1,none⟩ 0 m,.ar 1 ⟨j+2,none⟩ 0 m]⟩
def bxD (N m:Nat) (F T Q:Nat→Int):Ob:=⟨true,3,1,fun _=>[inD N F,inD m T,inD m Q]⟩
def pebD (N m:Nat) (F T Q:Nat→Int):AV:=.agg [inD N F,inD m T,inD m Q]
def bOb (n:Nat) (S:Nat→Bool):Ob:=⟨false,1,n,fun i=>[.p (.bool (S i))]⟩
def SSc (g:Nat→T_Bar) (nb N m:Nat) (F T Q FR F1 T1:Nat→Int) (a u:Int):St :=
  ⟨[grG g nb N,pebD N m F T Q,inD N FR,.p (.int .i64 a),.p (.int .i64 u),.pt 2 0 0 0,.pt 3 1 0 0,.p .any,.p .any,.p .any,.pt 3 2 0 0,.pt 3 3 0 0]++List.replicate 51 anyA,
   [(0,bxG g nb N),(1,bxD N m F T Q),(2,bx0),(3,bxP N m 4),(4,iOb N F1),(5,iOb m T1),(6,iOb m Q)],7⟩
def SSl (g:Nat→T_Bar) (nb N m:Nat) (F T Q FR F1 T1:Nat→Int) (a u at':Int):St :=
  ⟨[grG g nb N,pebD N m F T Q,inD N FR,.p (.int .i64 a),.p (.int .i64 u),.pt 2 0 0 0,.pt 3 1 0 0,.p .any,.p .any,.p .any,.pt 3 2 0 0,.pt 3 3 0 0,.p (.int .i64 at')]++List.replicate 50 anyA,
   [(0,bxG g nb N),(1,bxD N m F T Q),(2,bx0),(3,bxP N m 4),(4,iOb N F1),(5,iOb m T1),(6,iOb m Q)],7⟩
def SF0 (g:Nat→T_Bar) (nb N m:Nat) (F T Q:Nat→Int) (a b:Int) (i:Nat):St :=
  ⟨[grG g nb N,pebO N m 0,.p (.int .i64 a),.p (.int .i64 b),.pt 2 3 0 0,.pt 3 4 0 0,.p .any,.p .any,.pt 3 5 0 0,.p .any,.ar 1 6 0 N,.p (.int .i64 i)]++List.replicate 94 anyA,
   [(0,iOb N F),(1,iOb m T),(2,iOb m Q),(3,bxG g nb N),(4,bxP N m 0),(5,bx0),(6,iOb N (fun s=>if s<i then -1 else 0))],7⟩
def SF1 (g:Nat→T_Bar) (nb N m:Nat) (F T Q td FR:Nat→Int) (SN:Nat→Bool) (a b:Int) (i tn:Nat):St :=
  ⟨[grG g nb N,pebO N m 0,.p (.int .i64 a),.p (.int .i64 b),.pt 2 3 0 0,.pt 3 4 0 0,.p .any,.p .any,.pt 3 5 0 0,.p .any,.ar 1 6 0 N,.p .any,.ar 1 8 0 tn,.ar 1 7 0 N,.p (.int .i64 i)]++List.replicate 91 anyA,
   [(0,iOb N F),(1,iOb m T),(2,iOb m Q),(3,bxG g nb N),(4,bxP N m 0),(5,bx0),(6,iOb N FR),(7,bOb N SN),(8,iOb tn td)],9⟩
def SF2 (g:Nat→T_Bar) (nb N m:Nat) (F T Q td FR:Nat→Int) (SN:Nat→Bool) (a b v:Int) (i j tn:Nat):St :=
  ⟨[grG g nb N,pebO N m 0,.p (.int .i64 a),.p (.int .i64 b),.pt 2 3 0 0,.pt 3 4 0 0,.p .any,.p .any,.pt 3 5 0 0,.p .any,.ar 1 6 0 N,.p .any,.ar 1 8 0 tn,.ar 1 7 0 N,.p (.int .i64 i),.p (.int .i64 v),.p (.int .i64 j)]++List.replicate 89 anyA,
   [(0,iOb N F),(1,iOb m T),(2,iOb m Q),(3,bxG g nb N),(4,bxP N m 0),(5,bx0),(6,iOb N FR),(7,bOb N SN),(8,iOb tn td)],9⟩
def SF3 (g:Nat→T_Bar) (nb N m:Nat) (F T Q FR:Nat→Int) (a b u:Int):St :=
  ⟨[grG g nb N,pebO N m 0,.p (.int .i64 a),.p (.int .i64 b),.pt 2 3 0 0,.pt 3 4 0 0,.p .any,.p .any,.pt 3 5 0 0,.p .any,.ar 1 6 0 N,.p .any,.p .any,.p .any,.p .any,.p .any,.p .any,.p (.int .i64 u)]++List.replicate 88 anyA,
   [(0,iOb N F),(1,iOb m T),(2,iOb m Q),(3,bxG g nb N),(4,bxP N m 0),(5,bx0),(6,iOb N FR)],7⟩
def pebR3 (N m:Nat) (F T Q F' T' Q':Nat→Int):Hp:=[(0,iOb N F),(1,iOb m T),(2,iOb m Q),(3,iOb N F'),(4,iOb m T'),(5,iOb m Q')]
theorem qOt (x:T_Bar) (v:Int) :
    zS Tryz.f324 [rg 2,rg 8] [brA x,.p (.int .i64 v)] [] [] (.p (.int .i64 (x.1+x.2.1 - v))) =
    some [(NT 0 1),(NT 0 1),(ZLo (x.1+x.2.1)),(ZHi (x.1+x.2.1)),(ZLo (x.1+x.2.1 - v)),(ZHi (x.1+x.2.1 - v)),(AI ((x.1+x.2.1 - v)))]:=by kernel_rfl
theorem qCp (N m:Nat) (F T Q:Nat→Int) :
    zS Tryz.f340 [rg 2,rg 14] [pebD N m F T Q] [160,288,416] (pebR N m F T Q) (pebO N m 0) =
    some (zD [(NT 0 1),(NL 0 0),(NL ((0+N)*8) 140737488355328),(NL (0+N) 9223372036854775807),(NL ((0+m)*8) 140737488355328),(NL (0+m) 9223372036854775807),((true=true)→ (AN 1)),(AN 0),(((0+N):Nat)=N),(((0+m):Nat)=m),(AN 1),(NL N (0+N)),(AA N (fun i=>[.p (.int .i64 (F i))])),(NL m (0+m)),(AA m (fun i=>[.p (.int .i64 (T i))])),(AA m (fun i=>[.p (.int .i64 (Q i))])),(AE N),(AE m)] [0,1,2,3,0,1,4,5,0,1,4,5,0,6,0,7,8,7,9,7,9,10,11,12,10,13,14,10,13,15,16,17,17]):=by kernel_rfl
theorem qSz (g:Nat→T_Bar) (nb N m:Nat) (F T Q FR:Nat→Int) (a u:Int) :
    zT Tryz.f407 [rg 3,rm [(1,oc (pebR N m F T Q) (pebO N m 0))] 2,rg 11,.head] [grG g nb N,pebD N m F T Q,inD N FR,.p (.int .i64 a),.p (.int .i64 u)] [0,32,64,160,128,129,130] (SSc g nb N m F T Q FR (fun s=>if s=u.toNat then F s - 1 else F s) T a u) =
    some ([.code (cAt (bodyOf Tryz.f407) [1,1,1,0]),.code (cAt (bodyOf Tryz.f407) [1,1,1,1])],zD [(NT 0 1),zE 340 [(zf75 N F m T Q)] (zf54 N F m T Q) (.agg [.ar 1 0 0 N,.ar 1 1 0 m,.ar 1 2 0 m]),((true=true)→ (AN 1)),(IL 0 u),(IT u (↑N:Int)),(NT u.toNat N),(ZLo (F u.toNat - 1)),(ZHi (F u.toNat - 1)),((false=true)→ ((N:Nat)=1)),(AI ((↑N:Int))),(AN nb),(AP nb (bRw g)),(AN N),(AP N (fun i=>[.int .i64 (F i)])),(AN m),(AP m (fun i=>[.int .i64 (T i)])),(AP m (fun i=>[.int .i64 (Q i)])),(AP N (fun i=>[.int .i64 (FR i)])),(AI a),(AI u),(AN 0),((([AV.p (PV.int IntKind.i64 (↑N:Int)),brL g nb].length):Nat)=2),(NL 1 1),((([inD N F,inD m T,inD m Q].length):Nat)=3),((((List.map (fun v=>AV.p (absV v)) [Value.slice none 0 0,Value.slice none 0 0,Value.slice none 0 0]).length):Nat)=3),(AN 1),(NL N N),(CV [(128,⟨false,1,N,(fun i_1=>(if (i_1=u.toNat) then [.p (.int .i64 (F u.toNat - 1))] else [.p (.int .i64 (F i_1))]))⟩),(160,⟨true,3,1,(fun i_1=>[.ar 1 128 0 N,.ar 1 129 0 m,.ar 1 130 0 m])⟩),(130,⟨false,1,m,(fun i_1=>[.p (.int .i64 (Q i_1))])⟩),(129,⟨false,1,m,(fun i_1=>[.p (.int .i64 (T i_1))])⟩),(64,⟨true,3,1,(fun i_1=>[.p (.nil),.p (.nil),.p (.nil)])⟩),(32,⟨true,3,1,(fun i_1=>[.p (.seq true 1 N (fun i_2=>[.int .i64 (F i_2)])),.p (.seq true 1 m (fun i_2=>[.int .i64 (T i_2)])),.p (.seq true 1 m (fun i_2=>[.int .i64 (Q i_2)]))])⟩),(0,⟨true,2,1,(fun i_1=>[.p (.int .i64 (↑N:Int)),.p (.seq true 2 nb (bRw g))])⟩)] [0,32,64,160,128,129,130] 1 N (fun i=>if (i=u.toNat) then [.p (.int .i64 (F u.toNat - 1))] else [.p (.int .i64 (F i))]) (fun i=>[.p (.int .i64 (if i=u.toNat then F i - 1 else F i))])),(NL m m),(AA m (fun i=>[.p (.int .i64 (T i))])),(AA m (fun i=>[.p (.int .i64 (Q i))]))] [0,1,0,2,0,0,3,4,5,6,7,3,4,5,8,9,10,11,12,13,14,15,14,16,12,17,18,19,20,20,20,20,21,22,22,9,10,11,23,22,22,12,13,14,15,14,16,24,22,22,24,22,22,20,12,20,14,20,14,25,26,27,25,28,29,25,28,30]):=by kernel_rfl
theorem qSa (g:Nat→T_Bar) (nb N m:Nat) (F T Q FR F1 T1:Nat→Int) (a u:Int) :
    zM 0 [rg 11,rg 2,.head] [.code (cAt (bodyOf Tryz.f407) [1,1,1,0]),.code (cAt (bodyOf Tryz.f407) [1,1,1,1])] (SSc g nb N m F T Q FR F1 T1 a u) [0,1,2,3,4,5,6] 1 (SSl g nb N m F T Q FR (fun s=>if s=a.toNat then F1 s+1 else F1 s) T1 a u u) =
    some (zf43,zD [(NT 0 1),(IL 0 a),(IT a (↑N:Int)),(NT a.toNat N),(ZLo (F1 a.toNat+1)),(ZHi (F1 a.toNat+1)),((false=true)→ ((N:Nat)=1)),(AI ((↑N:Int))),(AN nb),(AP nb (bRw g)),(AN N),(AP N (fun i=>[.int .i64 (F i)])),(AN m),(AP m (fun i=>[.int .i64 (T i)])),(AP m (fun i=>[.int .i64 (Q i)])),(AP N (fun i=>[.int .i64 (FR i)])),(AI a),(AI u),(AN 0),(AN 2),(NL 1 1),(AN 3),(AN 1),(NL N N),(CV [(4,⟨false,1,N,(fun i_1=>(if (i_1=a.toNat) then [.p (.int .i64 (F1 a.toNat+1))] else [.p (.int .i64 (F1 i_1))]))⟩),(0,⟨true,2,1,(fun i_1=>[.p (.int .i64 (↑N:Int)),.p (.seq true 2 nb (bRw g))])⟩),(1,⟨true,3,1,(fun i_1=>[.p (.seq true 1 N (fun i_2=>[.int .i64 (F i_2)])),.p (.seq true 1 m (fun i_2=>[.int .i64 (T i_2)])),.p (.seq true 1 m (fun i_2=>[.int .i64 (Q i_2)]))])⟩),(2,⟨true,3,1,(fun i_1=>[.p (.nil),.p (.nil),.p (.nil)])⟩),(3,⟨true,3,1,(fun i_1=>[.ar 1 4 0 N,.ar 1 5 0 m,.ar 1 6 0 m])⟩),(5,⟨false,1,m,(fun i_1=>[.p (.int .i64 (T1 i_1))])⟩),(6,⟨false,1,m,(fun i_1=>[.p (.int .i64 (Q i_1))])⟩)] [0,1,2,3,4,5,6] 1 N (fun i=>if (i=a.toNat) then [.p (.int .i64 (F1 a.toNat+1))] else [.p (.int .i64 (F1 i))]) (fun i=>[.p (.int .i64 (if i=a.toNat then F1 i+1 else F1 i))])),(NL m m),(AA m (fun i=>[.p (.int .i64 (T1 i))])),(AA m (fun i=>[.p (.int .i64 (Q i))]))] [0,0,1,2,3,4,5,1,2,3,6,7,8,9,10,11,12,13,12,14,10,15,16,17,18,18,18,18,17,19,20,20,7,8,9,21,20,20,10,11,12,13,12,14,21,20,20,21,20,20,18,10,18,12,18,12,22,23,24,22,25,26,22,25,27]):=by kernel_rfl
theorem qSl (g:Nat→T_Bar) (nb N m:Nat) (F T Q FR F1 T1:Nat→Int) (a u at' w:Int) :
    zM 0 [rg 3,.dec true,rg 5,rm [(10,oc [] (.p (.int .i64 w)))] 1,rg 6,rg 2,.head] zf43 (SSl g nb N m F T Q FR F1 T1 a u at') [0,1,2,3,4,5,6] 1 (SSl g nb N m F T Q FR F1 (fun s=>if s=(FR at'.toNat).toNat then at' else T1 s) a u w) =
    some (zf43,zD [((at' != a)=true),(IL 0 (at')),(IT (at') (↑N:Int)),(NT 0 1),(IL 0 (FR at'.toNat)),(IT (FR at'.toNat) (↑m:Int)),(IL 0 (Q (FR at'.toNat).toNat)),(IT (Q (FR at'.toNat).toNat) (↑nb:Int)),zE 324 [.agg [.p (.int .i64 ((g (Q (FR at'.toNat).toNat).toNat).1)),.p (.int .i64 ((g (Q (FR at'.toNat).toNat).toNat).2.1))],.p (.int .i64 at')] [] (.p (.int .i64 w)),(NT ((FR at'.toNat).toNat) m),((false=true)→ ((m:Nat)=1)),(AI ((↑N:Int))),(AN nb),(AP nb (bRw g)),(AN N),(AP N (fun i=>[.int .i64 (F i)])),(AN m),(AP m (fun i=>[.int .i64 (T i)])),(AP m (fun i=>[.int .i64 (Q i)])),(AP N (fun i=>[.int .i64 (FR i)])),(AI a),(AI u),(AN 0),(AI w),(AN 2),(NL 1 1),(AN 3),(AN 1),(NL N N),(AA N (fun i=>[.p (.int .i64 (F1 i))])),(NL m m),(CV [(5,⟨false,1,m,(fun i_1=>(if (i_1=(FR at'.toNat).toNat) then [.p (.int .i64 at')] else [.p (.int .i64 (T1 i_1))]))⟩),(0,⟨true,2,1,(fun i_1=>[.p (.int .i64 (↑N:Int)),.p (.seq true 2 nb (bRw g))])⟩),(1,⟨true,3,1,(fun i_1=>[.p (.seq true 1 N (fun i_2=>[.int .i64 (F i_2)])),.p (.seq true 1 m (fun i_2=>[.int .i64 (T i_2)])),.p (.seq true 1 m (fun i_2=>[.int .i64 (Q i_2)]))])⟩),(2,⟨true,3,1,(fun i_1=>[.p (.nil),.p (.nil),.p (.nil)])⟩),(3,⟨true,3,1,(fun i_1=>[.ar 1 4 0 N,.ar 1 5 0 m,.ar 1 6 0 m])⟩),(4,⟨false,1,N,(fun i_1=>[.p (.int .i64 (F1 i_1))])⟩),(6,⟨false,1,m,(fun i_1=>[.p (.int .i64 (Q i_1))])⟩)] [0,1,2,3,4,5,6] 1 m (fun i=>if (i=(FR at'.toNat).toNat) then [.p (.int .i64 at')] else [.p (.int .i64 (T1 i))]) (fun i=>[.p (.int .i64 (if i=(FR at'.toNat).toNat then at' else T1 i))])),(AA m (fun i=>[.p (.int .i64 (Q i))]))] [0,1,2,3,3,4,5,6,7,8,3,4,5,9,10,11,12,13,14,15,16,17,16,18,14,19,20,21,22,22,22,22,23,24,25,25,11,12,13,26,25,25,14,15,16,17,16,18,26,25,25,26,25,25,22,14,22,16,22,16,27,28,29,27,30,31,27,30,32]):=by kernel_rfl
theorem qSe (g:Nat→T_Bar) (nb N m:Nat) (F T Q FR F1 T1:Nat→Int) (a u at':Int) :
    zP Tryz.f407 0 [rg 3,.dec false,rg 2] zf43 (SSl g nb N m F T Q FR F1 T1 a u at') [4,5,6] 1 (pebR N m F1 T1 Q) (pebO N m 0) =
    some (zD [((at' != a)=false),(NT 0 1),((true=true)→ (AN 1)),(AN 0),(AN N),(AN m),(AN 1),(NL N N),(AA N (fun i=>[.p (.int .i64 (F1 i))])),(NL m m),(AA m (fun i=>[.p (.int .i64 (T1 i))])),(AA m (fun i=>[.p (.int .i64 (Q i))])),(AE N),(AE m)] [0,1,1,2,1,3,4,3,5,3,5,6,7,8,6,9,10,6,9,11,12,13,13]):=by kernel_rfl
theorem qFz (g:Nat→T_Bar) (nb N m:Nat) (F T Q:Nat→Int) (a b:Int) :
    zM 3 [rg 4,rg 4,rg 1,.head] [.code (bodyOf Tryz.f377)] (start Tryz.f377 (pebR N m F T Q) 3 [grG g nb N,pebO N m 0,.p (.int .i64 a),.p (.int .i64 b)]) [0,1,2,3,35,67,195] 1 (SF0 g nb N m F T Q a b 0) =
    some (zf76,zD [(NT 0 1),(IL 0 (↑N:Int)),(IL (↑N:Int) (↑N:Int)),(IL ((↑N:Int)*(↑8:Int)) 281474976710656),(ZHi (↑N:Int)),(AI ((↑N:Int))),(AN nb),(AP nb (bRw g)),(AN 0),(AN N),(AN m),(AI a),(AI b),((0:Int)=(↑0:Int)),(AN 1),(NL N N),(AA N (fun i=>[.p (.int .i64 (F i))])),(NL m m),(AA m (fun i=>[.p (.int .i64 (T i))])),(AA m (fun i=>[.p (.int .i64 (Q i))])),((([AV.p (PV.int IntKind.i64 (↑N:Int)),brL g nb].length):Nat)=2),(NL 1 1),((([AV.ar 1 (Id.mk 0 none) 0 N,AV.ar 1 (Id.mk 1 none) 0 m,AV.ar 1 (Id.mk 2 none) 0 m].length):Nat)=3),((((List.map (fun v=>AV.p (absV v)) [Value.slice none 0 0,Value.slice none 0 0,Value.slice none 0 0]).length):Nat)=3),(∀ i:Nat,(((i:Nat)<N)→(All []∧(([.p (.int .i64 0)]:List AV)=[.p (.int .i64 (if i<0 then -1 else 0))]))))] [0,1,2,3,4,5,6,7,8,9,8,10,8,10,11,12,8,8,8,8,9,13,14,15,16,14,17,18,14,17,19,20,21,21,5,6,7,22,21,21,8,9,8,10,8,10,23,21,21,14,15,24]):=by kernel_rfl
theorem qF0 (g:Nat→T_Bar) (nb N m:Nat) (F T Q:Nat→Int) (a b:Int) (i:Nat) :
    zM 3 [rg 4,.dec true,rg 4,rg 3,.head] zf76 (SF0 g nb N m F T Q a b i) [0,1,2,3,4,5,6] 1 (SF0 g nb N m F T Q a b (i+1)) =
    some (zf76,zD [(NT 0 1),((decide ((↑i:Int)<(↑N:Int)))=true),(IL 0 (↑i:Int)),(IT (↑i:Int) (↑N:Int)),(NT i N),((false=true)→ ((N:Nat)=1)),(ZLo ((↑i:Int)+1)),(ZHi ((↑i:Int)+1)),(AI ((↑N:Int))),(AN nb),(AP nb (bRw g)),(AN 0),(AN N),(AN m),(AI a),(AI b),((((↑i:Int)+1):Int)=(↑(i+1):Int)),(AN 1),(NL N N),(AA N (fun i_1=>[.p (.int .i64 (F i_1))])),(NL m m),(AA m (fun i_1=>[.p (.int .i64 (T i_1))])),(AA m (fun i_1=>[.p (.int .i64 (Q i_1))])),(AN 2),(NL 1 1),(AN 3),(CV [(6,⟨false,1,N,(fun i_2=>(if (i_2=i) then [.p (.int .i64 (-1))] else [.p (.int .i64 (if i_2<i then -1 else 0))]))⟩),(0,⟨false,1,N,(fun i_2=>[.p (.int .i64 (F i_2))])⟩),(1,⟨false,1,m,(fun i_2=>[.p (.int .i64 (T i_2))])⟩),(2,⟨false,1,m,(fun i_2=>[.p (.int .i64 (Q i_2))])⟩),(3,⟨true,2,1,(fun i_2=>[.p (.int .i64 (↑N:Int)),.p (.seq true 2 nb (bRw g))])⟩),(4,⟨true,3,1,(fun i_2=>[.ar 1 0 0 N,.ar 1 1 0 m,.ar 1 2 0 m])⟩),(5,⟨true,3,1,(fun i_2=>[.p (.nil),.p (.nil),.p (.nil)])⟩)] [0,1,2,3,4,5,6] 1 N (fun i_1=>if (i_1=i) then [.p (.int .i64 (-1))] else [.p (.int .i64 (if i_1<i then -1 else 0))]) (fun i_1=>[.p (.int .i64 (if i_1<i+1 then -1 else 0))]))] [0,1,2,3,4,5,6,7,8,9,10,11,12,11,13,11,13,14,15,11,11,11,11,12,16,17,18,19,17,20,21,17,20,22,23,24,24,8,9,10,25,24,24,11,12,11,13,11,13,25,24,24,17,18,26]):=by kernel_rfl
theorem qF01 (g:Nat→T_Bar) (nb N m:Nat) (F T Q:Nat→Int) (a b:Int) (i:Nat) :
    zM 3 [rg 4,.dec false,rg 3,rg 4,rg 4,rg 1,.head] zf76 (SF0 g nb N m F T Q a b i) [0,1,2,3,4,5,6,295,167] 1 (SF1 g nb N m F T Q (fun _=>a) (fun _=>-1) (fun s=>if s=a.toNat then true else false) a b 0 1) =
    some (zf32,zD [(NT 0 1),((decide ((↑i:Int)<(↑N:Int)))=false),(IL 0 (↑N:Int)),(IL (↑N:Int) (↑N:Int)),(IL ((↑N:Int)*(↑1:Int)) 281474976710656),(ZHi (↑N:Int)),(IL 0 a),(IT a (↑N:Int)),(NT a.toNat N),((false=true)→ ((N:Nat)=1)),(AI ((↑N:Int))),(AN nb),(AP nb (bRw g)),(AN 0),(AN N),(AN m),(AI a),(AI b),(AN 1),((0:Int)=(↑0:Int)),(NL N N),(AA N (fun i_1=>[.p (.int .i64 (F i_1))])),(NL m m),(AA m (fun i_1=>[.p (.int .i64 (T i_1))])),(AA m (fun i_1=>[.p (.int .i64 (Q i_1))])),(AN 2),(NL 1 1),(AN 3),(∀ i_1:Nat,(((i_1:Nat)<N)→(All []∧(([.p (.int .i64 (if i_1<i then -1 else 0))]:List AV)=[.p (.int .i64 (-1))])))),(CV [(295,⟨false,1,N,(fun i_2=>(if (i_2=a.toNat) then [.p (.bool true)] else [.p (.bool false)]))⟩),(167,⟨false,1,1,(fun i_2=>[.p (.int .i64 a)])⟩),(0,⟨false,1,N,(fun i_2=>[.p (.int .i64 (F i_2))])⟩),(1,⟨false,1,m,(fun i_2=>[.p (.int .i64 (T i_2))])⟩),(2,⟨false,1,m,(fun i_2=>[.p (.int .i64 (Q i_2))])⟩),(3,⟨true,2,1,(fun i_2=>[.p (.int .i64 (↑N:Int)),.p (.seq true 2 nb (bRw g))])⟩),(4,⟨true,3,1,(fun i_2=>[.ar 1 0 0 N,.ar 1 1 0 m,.ar 1 2 0 m])⟩),(5,⟨true,3,1,(fun i_2=>[.p (.nil),.p (.nil),.p (.nil)])⟩),(6,⟨false,1,N,(fun i_2=>[.p (.int .i64 (if i_2<i then -1 else 0))])⟩)] [0,1,2,3,4,5,6,295,167] 1 N (fun i_1=>if (i_1=a.toNat) then [.p (.bool true)] else [.p (.bool false)]) (fun i_1=>[.p (.bool (if i_1=a.toNat then true else false))])),(AA 1 (fun i_1=>[.p (.int .i64 a)]))] [0,1,0,2,3,4,5,6,7,8,9,10,11,12,13,14,13,15,13,15,16,17,13,13,13,13,14,13,18,13,14,19,18,20,21,18,22,23,18,22,24,25,26,26,10,11,12,27,26,26,13,14,13,15,13,15,27,26,26,18,20,28,18,20,29,18,26,30]):=by kernel_rfl
theorem qF1 (g:Nat→T_Bar) (nb N m:Nat) (F T Q td FR:Nat→Int) (SN:Nat→Bool) (a b:Int) (i tn:Nat) :
    zM 3 [rg 4,.dec true,rg 5,rg 1,.head] zf32 (SF1 g nb N m F T Q td FR SN a b i tn) [0,1,2,3,4,5,6,7,8] 1 (SF2 g nb N m F T Q td FR SN a b (td i) i 0 tn) =
    some (zf19,zD [((decide ((↑i:Int)<(↑tn:Int)))=true),(IL 0 (↑i:Int)),(IT (↑i:Int) (↑tn:Int)),(NT i tn),(AI ((↑N:Int))),(AN nb),(AP nb (bRw g)),(AN 0),(AN N),(AN m),(AI a),(AI b),(AN tn),(AI ((↑i:Int))),(AI ((td i))),((0:Int)=(↑0:Int)),(AN 1),(NL N N),(AA N (fun i_1=>[.p (.int .i64 (F i_1))])),(NL m m),(AA m (fun i_1=>[.p (.int .i64 (T i_1))])),(AA m (fun i_1=>[.p (.int .i64 (Q i_1))])),(AN 2),(NL 1 1),(AN 3),(AA N (fun i_1=>[.p (.int .i64 (FR i_1))])),(AA N (fun i_1=>[.p (.bool (SN i_1))])),(NL tn tn),(AA tn (fun i_1=>[.p (.int .i64 (td i_1))]))] [0,1,2,3,4,5,6,7,8,7,9,7,9,10,11,7,7,7,7,8,7,12,7,8,13,14,15,16,17,18,16,19,20,16,19,21,22,23,23,4,5,6,24,23,23,7,8,7,9,7,9,24,23,23,16,17,25,16,17,26,16,27,28]):=by kernel_rfl
theorem qF1e (g:Nat→T_Bar) (nb N m:Nat) (F T Q td FR:Nat→Int) (SN:Nat→Bool) (a b:Int) (i tn:Nat) :
    zP Tryz.f377 3 [rg 4,.dec false,rg 3] zf32 (SF1 g nb N m F T Q td FR SN a b i tn) [0,1,2] 1 (pebR N m F T Q) (.tup [pebO N m 0,.p (.bool false)]) =
    some (zD [((decide ((↑i:Int)<(↑tn:Int)))=false),(NT 0 1),((true=true)→ (AN 1)),(AN 0),(AN N),(AN m),(false=false),(AN 1),(NL N N),(AA N (fun i_1=>[.p (.int .i64 (F i_1))])),(NL m m),(AA m (fun i_1=>[.p (.int .i64 (T i_1))])),(AA m (fun i_1=>[.p (.int .i64 (Q i_1))])),(AE N),(AE m)] [0,1,1,2,1,3,4,3,5,3,5,6,7,8,9,7,10,11,7,10,12,13,14,14]):=by kernel_rfl
theorem qF2e (g:Nat→T_Bar) (nb N m:Nat) (F T Q td FR:Nat→Int) (SN:Nat→Bool) (a b v:Int) (i j tn:Nat) :
    zM 3 [rg 5,.dec false,rg 3,.head] zf19 (SF2 g nb N m F T Q td FR SN a b v i j tn) [0,1,2,3,4,5,6,7,8] 1 (SF1 g nb N m F T Q td FR SN a b (i+1) tn) =
    some (zf32,zD [(NT 0 1),((decide ((↑j:Int)<(↑m:Int)))=false),(ZLo ((↑i:Int)+1)),(ZHi ((↑i:Int)+1)),(AI ((↑N:Int))),(AN nb),(AP nb (bRw g)),(AN 0),(AN N),(AN m),(AI a),(AI b),(AN tn),((((↑i:Int)+1):Int)=(↑(i+1):Int)),(AN 1),(NL N N),(AA N (fun i_1=>[.p (.int .i64 (F i_1))])),(NL m m),(AA m (fun i_1=>[.p (.int .i64 (T i_1))])),(AA m (fun i_1=>[.p (.int .i64 (Q i_1))])),(AN 2),(NL 1 1),(AN 3),(AA N (fun i_1=>[.p (.int .i64 (FR i_1))])),(AA N (fun i_1=>[.p (.bool (SN i_1))])),(NL tn tn),(AA tn (fun i_1=>[.p (.int .i64 (td i_1))]))] [0,1,2,3,4,5,6,7,8,7,9,7,9,10,11,7,7,7,7,8,7,12,7,8,13,14,15,16,14,17,18,14,17,19,20,21,21,4,5,6,22,21,21,7,8,7,9,7,9,22,21,21,14,15,23,14,15,24,14,25,26]):=by kernel_rfl
theorem qF2a (g:Nat→T_Bar) (nb N m:Nat) (F T Q td FR:Nat→Int) (SN:Nat→Bool) (a b v:Int) (i j tn:Nat) :
    zM 3 [rg 5,.dec true,rg 7,.dec true,rg 3,.head] zf19 (SF2 g nb N m F T Q td FR SN a b v i j tn) [0,1,2,3,4,5,6,7,8] 1 (SF2 g nb N m F T Q td FR SN a b v i (j+1) tn) =
    some (zf19,zD [(NT 0 1),((decide ((↑j:Int)<(↑m:Int)))=true),(IL 0 (↑j:Int)),(IT (↑j:Int) (↑m:Int)),(NT j m),((T j != v)=true),(ZLo ((↑j:Int)+1)),(ZHi ((↑j:Int)+1)),(AI ((↑N:Int))),(AN nb),(AP nb (bRw g)),(AN 0),(AN N),(AN m),(AI a),(AI b),(AN tn),(AI ((↑i:Int))),(AI v),((((↑j:Int)+1):Int)=(↑(j+1):Int)),(AN 1),(NL N N),(AA N (fun i_1=>[.p (.int .i64 (F i_1))])),(NL m m),(AA m (fun i_1=>[.p (.int .i64 (T i_1))])),(AA m (fun i_1=>[.p (.int .i64 (Q i_1))])),(AN 2),(NL 1 1),(AN 3),(AA N (fun i_1=>[.p (.int .i64 (FR i_1))])),(AA N (fun i_1=>[.p (.bool (SN i_1))])),(NL tn tn),(AA tn (fun i_1=>[.p (.int .i64 (td i_1))]))] [0,1,0,2,3,4,5,6,7,8,9,10,11,12,11,13,11,13,14,15,11,11,11,11,12,11,16,11,12,17,18,19,20,21,22,20,23,24,20,23,25,26,27,27,8,9,10,28,27,27,11,12,11,13,11,13,28,27,27,20,21,29,20,21,30,20,31,32]):=by kernel_rfl
theorem qF2b (g:Nat→T_Bar) (nb N m:Nat) (F T Q td FR:Nat→Int) (SN:Nat→Bool) (a b v u:Int) (i j tn:Nat) :
    zM 3 [rg 5,.dec true,rg 7,.dec false,rm [(10,oc [] (.p (.int .i64 u)))] 1,rg 4,.dec true,rg 3,.head] zf19 (SF2 g nb N m F T Q td FR SN a b v i j tn) [0,1,2,3,4,5,6,7,8] 1 (SF2 g nb N m F T Q td FR SN a b v i (j+1) tn) =
    some (zf19,zD [(NT 0 1),((decide ((↑j:Int)<(↑m:Int)))=true),(IL 0 (↑j:Int)),(IT (↑j:Int) (↑m:Int)),(NT j m),((T j != v)=false),(IL 0 (Q j)),(IT (Q j) (↑nb:Int)),zE 324 [(zf113 g Q j),.p (.int .i64 v)] [] (.p (.int .i64 u)),(IL 0 u),(IT u (↑N:Int)),(NT u.toNat N),((SN u.toNat)=true),(ZLo ((↑j:Int)+1)),(ZHi ((↑j:Int)+1)),(AI ((↑N:Int))),(AN nb),(AP nb (bRw g)),(AN 0),(AN N),(AN m),(AI a),(AI b),(AN tn),(AI ((↑i:Int))),(AI v),((((↑j:Int)+1):Int)=(↑(j+1):Int)),(AN 1),(NL N N),(AA N (fun i_1=>[.p (.int .i64 (F i_1))])),(NL m m),(AA m (fun i_1=>[.p (.int .i64 (T i_1))])),(AA m (fun i_1=>[.p (.int .i64 (Q i_1))])),(AN 2),(NL 1 1),(AN 3),(AA N (fun i_1=>[.p (.int .i64 (FR i_1))])),(AA N (fun i_1=>[.p (.bool (SN i_1))])),(NL tn tn),(AA tn (fun i_1=>[.p (.int .i64 (td i_1))]))] [0,1,0,2,3,4,5,0,0,2,3,4,6,7,8,9,10,11,12,13,14,15,16,17,18,19,18,20,18,20,21,22,18,18,18,18,19,18,23,18,19,24,25,26,27,28,29,27,30,31,27,30,32,33,34,34,15,16,17,35,34,34,18,19,18,20,18,20,35,34,34,27,28,36,27,28,37,27,38,39]):=by kernel_rfl
theorem qF2c (g:Nat→T_Bar) (nb N m:Nat) (F T Q td FR:Nat→Int) (SN:Nat→Bool) (a b v u:Int) (i j tn:Nat) :
    zM 3 [rg 5,.dec true,rg 7,.dec false,rm [(10,oc [] (.p (.int .i64 u)))] 1,rg 4,.dec false,rg 4,rg 5,rg 11,.dec false,rg 5,rg 3,.head] zf19 (SF2 g nb N m F T Q td FR SN a b v i j tn) [0,1,2,3,4,5,6,7,1641] 1 (SF2 g nb N m F T Q (fun s=>if s<tn then td s else u) (fun s=>if s=u.toNat then j else FR s) (fun s=>if s=u.toNat then true else SN s) a b v i (j+1) (tn+1)) =
    some (zf19,zD [(NT 0 1),((decide ((↑j:Int)<(↑m:Int)))=true),(IL 0 (↑j:Int)),(IT (↑j:Int) (↑m:Int)),(NT j m),((T j != v)=false),(IL 0 (Q j)),(IT (Q j) (↑nb:Int)),zE 324 [(zf113 g Q j),.p (.int .i64 v)] [] (.p (.int .i64 u)),(IL 0 u),(IT u (↑N:Int)),(NT u.toNat N),((SN u.toNat)=false),((false=true)→ ((N:Nat)=1)),(AG (u != b)),(((u != b)=true)→(NT 0 1)),(((u != b)=true)→(IL 0 u)),(((u != b)=true)→(IT u (↑N:Int))),(((u != b)=true)→(NT u.toNat N)),((bif u != b then decide (F (u.toNat+0)>0) else false)=false),(NL 1 1),(NL tn tn),(NL ((tn+1)*8) 140737488355328),(NL (tn+1) 9223372036854775807),(ZLo ((↑j:Int)+1)),(ZHi ((↑j:Int)+1)),(AI ((↑N:Int))),(AN nb),(AP nb (bRw g)),(AN 0),(AN N),(AN m),(AI a),(AI b),(AN ((tn+1))),(AI ((↑i:Int))),(AI v),((((↑j:Int)+1):Int)=(↑(j+1):Int)),(AN 1),(NL N N),(AA N (fun i_1=>[.p (.int .i64 (F i_1))])),(NL m m),(AA m (fun i_1=>[.p (.int .i64 (T i_1))])),(AA m (fun i_1=>[.p (.int .i64 (Q i_1))])),(AN 2),(AN 3),(CV [(1641,⟨false,1,(tn+1),(fun i_2=>(if (i_2<tn) then [.p (.int .i64 (td i_2))] else [.p (.int .i64 u)]))⟩),(1609,⟨false,1,1,(fun i_2=>[.p (.int .i64 u)])⟩),(6,⟨false,1,N,(fun i_2=>(if (i_2=u.toNat) then [.p (.int .i64 (↑j:Int))] else [.p (.int .i64 (FR i_2))]))⟩),(7,⟨false,1,N,(fun i_2=>(if (i_2=u.toNat) then [.p (.bool true)] else [.p (.bool (SN i_2))]))⟩),(0,⟨false,1,N,(fun i_2=>[.p (.int .i64 (F i_2))])⟩),(1,⟨false,1,m,(fun i_2=>[.p (.int .i64 (T i_2))])⟩),(2,⟨false,1,m,(fun i_2=>[.p (.int .i64 (Q i_2))])⟩),(3,⟨true,2,1,(fun i_2=>[.p (.int .i64 (↑N:Int)),.p (.seq true 2 nb (bRw g))])⟩),(4,⟨true,3,1,(fun i_2=>[.ar 1 0 0 N,.ar 1 1 0 m,.ar 1 2 0 m])⟩),(5,⟨true,3,1,(fun i_2=>[.p (.nil),.p (.nil),.p (.nil)])⟩)] [0,1,2,3,4,5,6,7,1641] 1 N (fun i_1=>if (i_1=u.toNat) then [.p (.int .i64 (↑j:Int))] else [.p (.int .i64 (FR i_1))]) (fun i_1=>[.p (.int .i64 (if i_1=u.toNat then (↑j:Int) else FR i_1))])),(CV [(1641,⟨false,1,(tn+1),(fun i_2=>(if (i_2<tn) then [.p (.int .i64 (td i_2))] else [.p (.int .i64 u)]))⟩),(1609,⟨false,1,1,(fun i_2=>[.p (.int .i64 u)])⟩),(6,⟨false,1,N,(fun i_2=>(if (i_2=u.toNat) then [.p (.int .i64 (↑j:Int))] else [.p (.int .i64 (FR i_2))]))⟩),(7,⟨false,1,N,(fun i_2=>(if (i_2=u.toNat) then [.p (.bool true)] else [.p (.bool (SN i_2))]))⟩),(0,⟨false,1,N,(fun i_2=>[.p (.int .i64 (F i_2))])⟩),(1,⟨false,1,m,(fun i_2=>[.p (.int .i64 (T i_2))])⟩),(2,⟨false,1,m,(fun i_2=>[.p (.int .i64 (Q i_2))])⟩),(3,⟨true,2,1,(fun i_2=>[.p (.int .i64 (↑N:Int)),.p (.seq true 2 nb (bRw g))])⟩),(4,⟨true,3,1,(fun i_2=>[.ar 1 0 0 N,.ar 1 1 0 m,.ar 1 2 0 m])⟩),(5,⟨true,3,1,(fun i_2=>[.p (.nil),.p (.nil),.p (.nil)])⟩)] [0,1,2,3,4,5,6,7,1641] 1 N (fun i_1=>if (i_1=u.toNat) then [.p (.bool true)] else [.p (.bool (SN i_1))]) (fun i_1=>[.p (.bool (if i_1=u.toNat then true else SN i_1))])),(NL (tn+1) (tn+1)),(CV [(1641,⟨false,1,(tn+1),(fun i_2=>(if (i_2<tn) then [.p (.int .i64 (td i_2))] else [.p (.int .i64 u)]))⟩),(1609,⟨false,1,1,(fun i_2=>[.p (.int .i64 u)])⟩),(6,⟨false,1,N,(fun i_2=>(if (i_2=u.toNat) then [.p (.int .i64 (↑j:Int))] else [.p (.int .i64 (FR i_2))]))⟩),(7,⟨false,1,N,(fun i_2=>(if (i_2=u.toNat) then [.p (.bool true)] else [.p (.bool (SN i_2))]))⟩),(0,⟨false,1,N,(fun i_2=>[.p (.int .i64 (F i_2))])⟩),(1,⟨false,1,m,(fun i_2=>[.p (.int .i64 (T i_2))])⟩),(2,⟨false,1,m,(fun i_2=>[.p (.int .i64 (Q i_2))])⟩),(3,⟨true,2,1,(fun i_2=>[.p (.int .i64 (↑N:Int)),.p (.seq true 2 nb (bRw g))])⟩),(4,⟨true,3,1,(fun i_2=>[.ar 1 0 0 N,.ar 1 1 0 m,.ar 1 2 0 m])⟩),(5,⟨true,3,1,(fun i_2=>[.p (.nil),.p (.nil),.p (.nil)])⟩)] [0,1,2,3,4,5,6,7,1641] 1 (tn+1) (fun i_1=>if (i_1<tn) then [.p (.int .i64 (td i_1))] else [.p (.int .i64 u)]) (fun i_1=>[.p (.int .i64 (if i_1<tn then td i_1 else u))]))] [0,1,0,2,3,4,5,0,0,2,3,4,6,7,8,9,10,11,12,9,10,11,13,9,10,11,13,14,15,14,14,16,17,14,18,14,14,19,20,21,22,23,24,25,26,27,28,29,30,29,31,29,31,32,33,29,29,29,29,30,29,34,29,30,35,36,37,38,39,40,38,41,42,38,41,43,44,20,20,26,27,28,45,20,20,29,30,29,31,29,31,45,20,20,38,39,46,38,39,47,38,48,49]):=by kernel_rfl
theorem qF2d (g:Nat→T_Bar) (nb N m:Nat) (F T Q td FR:Nat→Int) (SN:Nat→Bool) (a b v u:Int) (i j tn:Nat) :
    zM 3 [rg 5,.dec true,rg 7,.dec false,rm [(10,oc [] (.p (.int .i64 u)))] 1,rg 4,.dec false,rg 4,rg 5,rg 11,.dec true,.head] zf19 (SF2 g nb N m F T Q td FR SN a b v i j tn) [0,1,2,3,4,5,6] 1 (SF3 g nb N m F T Q (fun s=>if s=u.toNat then j else FR s) a b u) =
    some (zf4,zD [(NT 0 1),((decide ((↑j:Int)<(↑m:Int)))=true),(IL 0 (↑j:Int)),(IT (↑j:Int) (↑m:Int)),(NT j m),((T j != v)=false),(IL 0 (Q j)),(IT (Q j) (↑nb:Int)),zE 324 [(zf113 g Q j),.p (.int .i64 v)] [] (.p (.int .i64 u)),(IL 0 u),(IT u (↑N:Int)),(NT u.toNat N),((SN u.toNat)=false),((false=true)→ ((N:Nat)=1)),(AG (u != b)),(((u != b)=true)→(NT 0 1)),(((u != b)=true)→(IL 0 u)),(((u != b)=true)→(IT u (↑N:Int))),(((u != b)=true)→(NT u.toNat N)),((bif u != b then decide (F (u.toNat+0)>0) else false)=true),(AI ((↑N:Int))),(AN nb),(AP nb (bRw g)),(AN 0),(AN N),(AN m),(AI a),(AI b),(AI u),(AN 1),(NL N N),(AA N (fun i_1=>[.p (.int .i64 (F i_1))])),(NL m m),(AA m (fun i_1=>[.p (.int .i64 (T i_1))])),(AA m (fun i_1=>[.p (.int .i64 (Q i_1))])),(AN 2),(NL 1 1),(AN 3),(CV [(6,⟨false,1,N,(fun i_2=>(if (i_2=u.toNat) then [.p (.int .i64 (↑j:Int))] else [.p (.int .i64 (FR i_2))]))⟩),(7,⟨false,1,N,(fun i_2=>(if (i_2=u.toNat) then [.p (.bool true)] else [.p (.bool (SN i_2))]))⟩),(0,⟨false,1,N,(fun i_2=>[.p (.int .i64 (F i_2))])⟩),(1,⟨false,1,m,(fun i_2=>[.p (.int .i64 (T i_2))])⟩),(2,⟨false,1,m,(fun i_2=>[.p (.int .i64 (Q i_2))])⟩),(3,⟨true,2,1,(fun i_2=>[.p (.int .i64 (↑N:Int)),.p (.seq true 2 nb (bRw g))])⟩),(4,⟨true,3,1,(fun i_2=>[.ar 1 0 0 N,.ar 1 1 0 m,.ar 1 2 0 m])⟩),(5,⟨true,3,1,(fun i_2=>[.p (.nil),.p (.nil),.p (.nil)])⟩),(8,⟨false,1,tn,(fun i_2=>[.p (.int .i64 (td i_2))])⟩)] [0,1,2,3,4,5,6] 1 N (fun i_1=>if (i_1=u.toNat) then [.p (.int .i64 (↑j:Int))] else [.p (.int .i64 (FR i_1))]) (fun i_1=>[.p (.int .i64 (if i_1=u.toNat then (↑j:Int) else FR i_1))]))] [0,1,0,2,3,4,5,0,0,2,3,4,6,7,8,9,10,11,12,9,10,11,13,9,10,11,13,14,15,14,14,16,17,14,18,14,14,19,20,21,22,23,24,23,25,23,25,26,27,23,23,23,23,24,28,29,30,31,29,32,33,29,32,34,35,36,36,20,21,22,37,36,36,23,24,23,25,23,25,37,36,36,29,30,38]):=by kernel_rfl
theorem qF3 (g:Nat→T_Bar) (nb N m:Nat) (F T Q FR F1 T1:Nat→Int) (a b u:Int) :
    zP Tryz.f377 3 [rm [(5,oc (pebR N m F1 T1 Q) (pebO N m 0))] 2] zf4 (SF3 g nb N m F T Q FR a b u) [0,1,2,167,168,169] 1 (pebR3 N m F T Q F1 T1 Q) (.tup [pebO N m 3,.p (.bool true)]) =
    some (zD [(NT 0 1),(AN 1),(NL N N),(NL m m),zE 407 [(zf109 N nb g),(zf75 N F m T Q),.p (.seq true 1 N (fun i=>[.int .i64 (FR i)])),.p (.int .i64 a),.p (.int .i64 u)] (zf54 N F1 m T1 Q) (.agg [.ar 1 0 0 N,.ar 1 1 0 m,.ar 1 2 0 m]),((true=true)→ (AN 1)),(AN 0),(AN N),(AN m),(true=true),(AA N (fun i=>[.p (.int .i64 (F i))])),(AA m (fun i=>[.p (.int .i64 (T i))])),(AA m (fun i=>[.p (.int .i64 (Q i))])),(AA N (fun i=>[.p (.int .i64 (F1 i))])),(AA m (fun i=>[.p (.int .i64 (T1 i))])),(AE N),(AE m)] [0,0,1,2,1,3,1,3,1,2,4,0,5,0,6,7,6,8,6,8,9,1,2,10,1,3,11,1,3,12,1,2,13,1,3,14,1,3,12,15,16,16,15,16,16]):=by kernel_rfl
theorem con_l4Other (x:T_Bar) (v:Int) (h1:0≤x.1∧x.1≤1048576) (h2:0≤x.2.1∧x.2.1≤1048576) (h3:0≤v∧v≤1048576):zE 324 [brA x,.p (.int .i64 v)] [] (.p (.int .i64 (x.1+x.2.1 - v))):=by
  refine csZ Tryz.func324 (fun c hc=>?_)
  refine pkZ Tryz.func324 hc (qOt x v) ?_
  and_intros
  all_goals (first | exact zN | simp)
theorem con_l4Copy (N m:Nat) (F T Q:Nat→Int) (hN:N≤1048576) (hm:m≤1048576):zE 340 [pebD N m F T Q] (pebR N m F T Q) (pebO N m 0):=by
  refine csZ Tryz.func340 (fun c hc=>?_)
  refine pkD Tryz.func340 hc (qCp N m F T Q) ?_
  and_intros
  all_goals (first | exact zI | (intro i hi;simp [All]))
theorem oth_sum {x:T_Bar} {y z:Int} (h:y=x.1∨y=x.2.1) (hz:othF x y=z):x.1+x.2.1 - z=y∧x.1+x.2.1 - y=z:=by
  unfold othF at hz
  by_cases e:x.1=y
  · rw [if_pos e] at hz;omega
  · rw [if_neg e] at hz
    rcases h with h | h
    · exact absurd h.symm e
    · omega
theorem run_shift {N nb m:Nat} {g:Nat→T_Bar} {F F0 F1 T Q td FR:Nat→Int} {a b u:Int} {tn:Nat} (h:BInv N m g F T Q td (fun s=>FR (td s).toNat) a b tn) (hN:N≤1048576) (hm:m≤1048576) (hnb:nb≤1048576)
    (hq:∀ j,j<m→0≤Q j∧Q j<nb) (hbar:∀ e,e<nb→0≤(g e).1∧(g e).1<(g e).2.1∧(g e).2.1<N) (hT:∀ j,j<m→T j=(g (Q j).toNat).1∨T j=(g (Q j).toNat).2.1) :
    ∀ s,s<tn→∀ T':Nat→Int,TInv m g T Q td (fun s=>FR (td s).toNat) T' u s→∃ T'' s',(∀ c,c.n=0→zR c 407 zf43 (SSl g nb N m F0 T Q FR F1 T' a u (td s)) (Post c (pebR N m F1 T'' Q) (pebO N m 0))) ∧
      TInv m g T Q td (fun s=>FR (td s).toNat) T'' u s'∧td s'=a:=by
  intro s
  induction s using Nat.strongRecOn with
  | ind s ih =>
    intro hs T' ht
    by_cases he:td s=a
    · refine ⟨T',s,fun c hc=>?_,ht,he⟩
      have hb:(td s != a)=false:=by simp [he]
      refine pkD Tryz.func407 hc (qSe g nb N m F0 T Q FR F1 T' a u (td s)) ?_
      and_intros
      all_goals (first | exact zI | (exact hb) | (intro i hi;simp [All]))
    · have hs1:1≤s:=by
        cases s with
        | zero=>exact absurd h.td0 he
        | succ s=>omega
      obtain ⟨j,hj,hVs,s',hs',hk,ht',hTj,hoth⟩:=ht.step h hs hs1
      have hVs:FR (td s).toNat=(j:Int):=hVs
      obtain ⟨T'',s'',hrun,h1,h2⟩:=ih s' hs' (by omega) _ ht'
      refine ⟨T'',s'',fun c hc=>?_,h1,h2⟩
      have hb:(td s != a)=true:=by simp [he]
      have hqj:=hq j hj
      have hbj:=hbar (Q j).toNat (by omega)
      have hrs:=h.rng s hs
      have hsum:=(oth_sum (by rw [← hTj];exact hT j hj) hoth).1
      have hcon:=con_l4Other (g (Q j).toNat) (td s) (by omega) (by omega) (by omega)
      rw [hsum] at hcon
      refine pcD hc (qSl g nb N m F0 T Q FR F1 T' a u (td s) (td s')) ?_ (by rw [hVs];simp only [Int.toNat_natCast];exact hrun c hc)
      and_intros
      all_goals (first | exact zI | (exact hb) | (rw [hVs];simp only [Int.toNat_natCast];omega) | (rw [hVs];simp only [Int.toNat_natCast];exact hcon) | (intro i hi;simp [All];done) | (simp only [hVs,Int.toNat_natCast];intro i hi;by_cases h:i=j<;>simp [h,cvtL,cvt,tg,tru,All]))
theorem BInv.congrV {N m:Nat} {g:Nat→T_Bar} {F T Q td V V':Nat→Int} {a b:Int} {tn:Nat} (h:BInv N m g F T Q td V a b tn) (hv:∀ s,s<tn→V s=V' s):BInv N m g F T Q td V' a b tn :=
  ⟨h.n1,h.td0,h.rng,h.inj,fun s h1 h2=>by rw [← hv s h2];exact h.par s h1 h2⟩
theorem con_l4Shift {N k nb m:Nat} {g:Nat→T_Bar} {F T Q td FR:Nat→Int} {a b u:Int} {tn:Nat} (hp:PInv N k nb m g F T Q) (hk:k≤1048576) (hN:N≤1048576) (hm:m≤1048576) (hnb:nb≤1048576)
    (h:BInv N m g F T Q td (fun s=>FR (td s).toNat) a b (tn+1)) (htn:td tn=u) (ha:0≤a∧a<N) (hu:0≤u∧u<N) (hua:u≠a) :
    ∃ T'' s',zE 407 [grG g nb N,pebD N m F T Q,inD N FR,.p (.int .i64 a),.p (.int .i64 u)] (pebR N m (fun x=>if x=a.toNat then (if x=u.toNat then F x - 1 else F x)+1 else (if x=u.toNat then F x - 1 else F x)) T'' Q) (pebO N m 0) ∧
      TInv m g T Q td (fun s=>FR (td s).toNat) T'' u s'∧td s'=a:=by
  have ht0:TInv m g T Q td (fun s=>FR (td s).toNat) T u tn:=⟨fun _ _ _=>rfl,hp.t,fun x=>by rw [htn];omega⟩
  obtain ⟨T'',s',hrun,h1,h2⟩:=run_shift (nb:=nb) (F0:=F) (F1:=fun x=>if x=a.toNat then (if x=u.toNat then F x - 1 else F x)+1 else (if x=u.toNat then F x - 1 else F x)) h hN hm hnb hp.q hp.bars hp.t tn (by omega) T ht0
  refine ⟨T'',s',?_,h1,h2⟩
  rw [htn] at hrun
  have hFa:=hp.le (v:=a.toNat) (by omega)
  have hFu:=hp.le (v:=u.toNat) (by omega)
  have hcc:=con_l4Copy N m F T Q hN hm
  refine csZ Tryz.func407 (fun c hc=>?_)
  have hrun':=hrun c hc
  refine pcD hc (qSz g nb N m F T Q FR a u) ?_ ?_
  ·
    and_intros
    all_goals (first | exact zI | (exact hcc) | (intro i hi;simp [All];done) | (intro i hi;by_cases h:i=u.toNat<;>simp [h,cvtL,cvt,tg,tru,All]))
  · have hF1:(fun s=>if s=u.toNat then F s - 1 else F s) a.toNat=F a.toNat:=by
      show (if a.toNat=u.toNat then F a.toNat - 1 else F a.toNat)=_
      rw [if_neg (by omega)]
    obtain ⟨F1,hF1d⟩:∃ F1:Nat→Int,F1=(fun s=>if s=u.toNat then F s - 1 else F s):=⟨_,rfl⟩
    have hFF:(fun x=>if x=a.toNat then (if x=u.toNat then F x - 1 else F x)+1 else (if x=u.toNat then F x - 1 else F x))=(fun s=>if s=a.toNat then F1 s+1 else F1 s):=by
      subst hF1d;rfl
    rw [hFF] at hrun' ⊢
    rw [← hF1d] at hF1 ⊢
    refine pcD hc (qSa g nb N m F T Q FR F1 T a u) ?_ hrun'
    and_intros
    all_goals (first | exact zI | (rw [hF1];omega) | (intro i hi;simp [All];done) | (intro i hi;by_cases h:i=a.toNat<;>simp [h,cvtL,cvt,tg,tru,All]))
inductive FindR (N k nb m:Nat) (g:Nat→T_Bar) (F T Q:Nat→Int) (a b:Int):Hp→AV→Prop
  | yes (F' T':Nat→Int) (h:Moved N k nb m g F T Q a b F' T' true):FindR N k nb m g F T Q a b (pebR3 N m F T Q F' T' Q) (.tup [pebO N m 3,.p (.bool true)])
  | no (h:Moved N k nb m g F T Q a b F T false):FindR N k nb m g F T Q a b (pebR N m F T Q) (.tup [pebO N m 0,.p (.bool false)])
def OutS (N k nb m:Nat) (g:Nat→T_Bar) (F T Q:Nat→Int) (a b:Int) (i tn:Nat) (td FR:Nat→Int) (SN:Nat→Bool):Prop :=
  ∃ H' res,(∀ c,c.n=3→zR c 377 [.code (cAt (bodyOf Tryz.f377) [1,1,1,1,1,1,0,1,0,0]),.inLoop (cAt (bodyOf Tryz.f377) [1,1,1,1,1,1,0,1,0,0]),.inBlock 2,.code (cAt (bodyOf Tryz.f377) [1,1,1,1,1,1,1])] (SF1 g nb N m F T Q td FR SN a b i tn) (Post c H' res))∧FindR N k nb m g F T Q a b H' res
def MidS (N k nb m:Nat) (g:Nat→T_Bar) (F T Q:Nat→Int) (a b:Int) (i j tn:Nat) (td FR:Nat→Int) (SN:Nat→Bool):Prop :=
  ∃ H' res,(∀ c,c.n=3→zR c 377 [.code (cAt (bodyOf Tryz.f377) [1,1,1,1,1,1,0,1,0,0,1,0,0,1,1,0,0]),.inLoop (cAt (bodyOf Tryz.f377) [1,1,1,1,1,1,0,1,0,0,1,0,0,1,1,0,0]),.inBlock 4,.inBlock 3,.code (cAt (bodyOf Tryz.f377) [1,1,1,1,1,1,0,1,0,0,1,1]),.inLoop (cAt (bodyOf Tryz.f377) [1,1,1,1,1,1,0,1,0,0]),.inBlock 2,.code (cAt (bodyOf Tryz.f377) [1,1,1,1,1,1,1])] (SF2 g nb N m F T Q td FR SN a b (td i) i j tn) (Post c H' res))∧FindR N k nb m g F T Q a b H' res
def SeenI (N:Nat) (td:Nat→Int) (SN:Nat→Bool) (tn:Nat):Prop:=∀ x:Nat,x<N→(SN x=true↔∃ s,s<tn∧td s=x)
theorem mid_s {N k nb m:Nat} {g:Nat→T_Bar} {F T Q:Nat→Int} {a b:Int} (hp:PInv N k nb m g F T Q) (hk:k≤1048576) (hN:N≤1048576) (hm:m≤1048576) (hnb:nb≤1048576)
    (ha:0≤a∧a<N) (hb:0≤b∧b<N) (hab:a≠b) (i:Nat)
    (ih:∀ tn td FR SN,i+1≤tn→BInv N m g F T Q td (fun s=>FR (td s).toNat) a b tn→SeenI N td SN tn→BZero F td b tn→BClo m g T Q td (i+1) 0 tn→OutS N k nb m g F T Q a b (i+1) tn td FR SN) :
    ∀ e j tn td FR SN,j+e=m→i<tn→BInv N m g F T Q td (fun s=>FR (td s).toNat) a b tn→SeenI N td SN tn→BZero F td b tn→BClo m g T Q td i j tn→MidS N k nb m g F T Q a b i j tn td FR SN:=by
  intro e
  induction e with
  | zero =>
    intro j tn td FR SN hj hi hbi hsn hz hcl
    have htn:=pigeon N tn td hbi.rng hbi.inj
    obtain ⟨H',res,hrun,hmv⟩:=ih tn td FR SN (by omega) hbi hsn hz (fun i' j' hij hi' hT=>by
      rcases hij with ⟨h1,h2⟩ | ⟨h1,h2⟩
      · by_cases e:i'=i
        · exact hcl i' j' (.inr ⟨e,by omega⟩) hi' hT
        · exact hcl i' j' (.inl ⟨by omega,h2⟩) hi' hT
      · omega)
    refine ⟨H',res,fun c hc=>?_,hmv⟩
    have hd:decide ((j:Int)<(m:Int))=false:=by simp;omega
    refine pcD hc (qF2e g nb N m F T Q td FR SN a b (td i) i j tn) ?_ (hrun c hc)
    and_intros
    all_goals (first | exact zN | (intro i hi;simp [All]))
  | succ e ihe =>
    intro j tn td FR SN hj hi hbi hsn hz hcl
    have htn:=pigeon N tn td hbi.rng hbi.inj
    have hjm:j<m:=by omega
    have hd:decide ((j:Int)<(m:Int))=true:=by simp;omega
    have hq:=hp.q j hjm
    have hbar:=hp.bars (Q j).toNat (by omega)
    have hrg:=hbi.rng i hi
    by_cases hT:T j=td i
    · have ht1:(T j != td i)=false:=by simp [hT]
      obtain ⟨v,hv⟩:∃ v,othF (g (Q j).toNat) (td i)=v:=⟨_,rfl⟩
      have hvr:0≤v∧v<N:=by rw [← hv];exact othF_in hbar
      have hsum:=(oth_sum (by rw [← hT];exact hp.t j hjm) hv).2
      have hcon:=con_l4Other (g (Q j).toNat) (td i) (by omega) (by omega) (by omega)
      rw [hsum] at hcon
      cases hh:SN v.toNat with
      | true =>
        obtain ⟨s,hs1,hs2⟩:=(hsn v.toNat (by omega)).1 hh
        obtain ⟨H',res,hrun,hmv⟩:=ihe (j+1) tn td FR SN (by omega) hi hbi hsn hz (fun i' j' hij hi' hTT=>by
          by_cases e:i'=i∧j'=j
          · obtain ⟨rfl,rfl⟩:=e
            exact ⟨s,hs1,by rw [hs2,hv];omega⟩
          · exact hcl i' j' (by omega) hi' hTT)
        refine ⟨H',res,fun c hc=>?_,hmv⟩
        refine pcD hc (qF2b g nb N m F T Q td FR SN a b (td i) v i j tn) ?_ (hrun c hc)
        and_intros
        all_goals (first | exact zN | (exact ht1) | (exact hcon) | (exact hh) | (intro i hi;simp [All]))
      | false =>
        have hno:∀ s,s<tn→td s≠v:=by
          intro s hs e
          have:=(hsn v.toNat (by omega)).2 ⟨s,hs,by omega⟩
          rw [hh] at this;cases this
        have hadd0:=hbi.add hi hjm hT hv hvr hno
        have hadd:BInv N m g F T Q (fun s=>if s<tn then td s else v) (fun s=>(fun x=>if x=v.toNat then (j:Int) else FR x) ((fun s=>if s<tn then td s else v) s).toNat) a b (tn+1):=by
          refine hadd0.congrV (fun s hs=>?_)
          show (if s<tn then FR (td s).toNat else (j:Int))=(if (if s<tn then td s else v).toNat=v.toNat then (j:Int) else FR (if s<tn then td s else v).toNat)
          by_cases e:s<tn
          · have h1:=hno s e
            have h2:=hbi.rng s e
            rw [if_pos e,if_pos e,if_neg (show ¬ (td s).toNat=v.toNat by omega)]
          · rw [if_neg e,if_neg e,if_pos rfl]
        have hF:=hp.le (v:=v.toNat) (by omega)
        cases hcd:(bif v != b then decide (F v.toNat>0) else false) with
        | false =>
          have hzv:v=b∨F v.toNat=0:=by
            by_cases e:v=b
            · exact .inl e
            · right
              have:(v != b)=true:=by simp [e]
              rw [this] at hcd
              simp at hcd
              omega
          obtain ⟨H',res,hrun,hmv⟩:=ihe (j+1) (tn+1) (fun s=>if s<tn then td s else v) (fun x=>if x=v.toNat then (j:Int) else FR x) (fun s=>if s=v.toNat then true else SN s) (by omega) (by omega) hadd (fun x hx=>by
            show (if x=v.toNat then true else SN x)=true↔∃ s,s<tn+1∧(if s<tn then td s else v)=x
            by_cases e:x=v.toNat
            · rw [if_pos e]
              exact ⟨fun _=>⟨tn,by omega,by rw [if_neg (Nat.lt_irrefl tn)];omega⟩,fun _=>rfl⟩
            · rw [if_neg e,hsn x hx]
              constructor
              · rintro ⟨s,h1,h2⟩;exact ⟨s,by omega,by rw [if_pos h1];exact h2⟩
              · rintro ⟨s,h1,h2⟩
                by_cases e2:s<tn
                · rw [if_pos e2] at h2;exact ⟨s,e2,h2⟩
                · rw [if_neg e2] at h2;omega) (fun s h1 h2=>by
            show (if s<tn then td s else v)=b∨F (if s<tn then td s else v).toNat=0
            by_cases e:s<tn
            · rw [if_pos e];exact hz s h1 e
            · rw [if_neg e];exact hzv) (fun i' j' hij hi' hTT=>by
            have hi2:i'<tn:=by omega
            have hTT':T j'=td i':=by rw [hTT];show (if i'<tn then td i' else v)=_;rw [if_pos hi2]
            show ∃ s,s<tn+1∧(if s<tn then td s else v)=othF (g (Q j').toNat) (if i'<tn then td i' else v)
            rw [if_pos hi2]
            by_cases e:i'=i∧j'=j
            · obtain ⟨rfl,rfl⟩:=e
              exact ⟨tn,by omega,by rw [if_neg (Nat.lt_irrefl tn),hv]⟩
            · obtain ⟨s,h1,h2⟩:=hcl i' j' (by omega) hi2 hTT'
              exact ⟨s,by omega,by rw [if_pos h1];exact h2⟩)
          refine ⟨H',res,fun c hc=>?_,hmv⟩
          have hrun':=hrun c hc
          simp only [hi,if_true] at hrun'
          refine pcD hc (qF2c g nb N m F T Q td FR SN a b (td i) v i j tn) ?_ hrun'
          and_intros
          all_goals (first | exact zI | (exact ht1) | (exact hcon) | (exact hh) | (exact hcd) | (intros;omega) | (intro i hi;simp [All];done) | (intro i hi;by_cases h:i<tn<;>simp [h,cvtL,cvt,tg,tru,All];done) | (intro i hi;by_cases h:i=v.toNat<;>simp [h,cvtL,cvt,tg,tru,All]))
        | true =>
          have hvb:v≠b:=by
            intro e
            rw [show (v != b)=false by simp [e]] at hcd
            cases hcd
          have hFv:F v.toNat≠0:=by
            intro e
            rw [show (v != b)=true by simp [hvb]] at hcd
            simp [e] at hcd
          have hva:v≠a:=by
            have:=hno 0 (by have:=hbi.n1;omega)
            rw [hbi.td0] at this
            exact Ne.symm this
          obtain ⟨T'',s',hcs,h1,h2⟩:=con_l4Shift (td:=fun s=>if s<tn then td s else v) (FR:=fun x=>if x=v.toNat then (j:Int) else FR x) (tn:=tn) hp hk hN hm hnb hadd (by show (if tn<tn then td tn else v)=v;rw [if_neg (Nat.lt_irrefl tn)]) ha hvr hva
          refine ⟨_,_,fun c hc=>?_,.yes _ T'' (moved_yes hp ha hb hab hvr hva hvb hFv h1 h2)⟩
          refine pcD hc (qF2d g nb N m F T Q td FR SN a b (td i) v i j tn) ?_ ?_
          ·
            and_intros
            all_goals (first | exact zI | (exact ht1) | (exact hcon) | (exact hh) | (exact hcd) | (intros;omega) | (intro i hi;simp [All];done) | (intro i hi;by_cases h:i=v.toNat<;>simp [h,cvtL,cvt,tg,tru,All]))
          · refine pkD Tryz.func377 hc (qF3 g nb N m F T Q (fun s=>if s=v.toNat then (j:Int) else FR s) _ T'' a b v) ?_
            and_intros
            all_goals (first | exact zI | (exact hcs) | (intro i hi;simp [All]))
    · have ht1:(T j != td i)=true:=by simp [hT]
      obtain ⟨H',res,hrun,hmv⟩:=ihe (j+1) tn td FR SN (by omega) hi hbi hsn hz (fun i' j' hij hi' hTT=>by
        by_cases e:i'=i∧j'=j
        · obtain ⟨rfl,rfl⟩:=e
          exact absurd hTT hT
        · exact hcl i' j' (by omega) hi' hTT)
      refine ⟨H',res,fun c hc=>?_,hmv⟩
      refine pcD hc (qF2a g nb N m F T Q td FR SN a b (td i) i j tn) ?_ (hrun c hc)
      and_intros
      all_goals (first | exact zN | (exact ht1) | (intro i hi;simp [All]))
theorem out_s {N k nb m:Nat} {g:Nat→T_Bar} {F T Q:Nat→Int} {a b:Int} (hp:PInv N k nb m g F T Q) (hk:k≤1048576) (hN:N≤1048576) (hm:m≤1048576) (hnb:nb≤1048576)
    (ha:0≤a∧a<N) (hb:0≤b∧b<N) (hab:a≠b):∀ d i tn td FR SN,N+1≤i+d→i≤tn→BInv N m g F T Q td (fun s=>FR (td s).toNat) a b tn→SeenI N td SN tn→BZero F td b tn→BClo m g T Q td i 0 tn→OutS N k nb m g F T Q a b i tn td FR SN:=by
  intro d
  induction d with
  | zero =>
    intro i tn td FR SN hd hi hbi _ _ _
    have:=pigeon N tn td hbi.rng hbi.inj
    omega
  | succ d ih =>
    intro i tn td FR SN hd hi hbi hsn hz hcl
    have htn:=pigeon N tn td hbi.rng hbi.inj
    by_cases hit:i<tn
    · have hd':decide ((i:Int)<(tn:Int))=true:=by simp;omega
      obtain ⟨H',res,hrun,hmv⟩:=mid_s hp hk hN hm hnb ha hb hab i (fun tn td FR SN h1 h2 h3 h4 h5=>ih (i+1) tn td FR SN (by omega) h1 h2 h3 h4 h5) m 0 tn td FR SN (by omega) hit hbi hsn hz hcl
      refine ⟨H',res,fun c hc=>?_,hmv⟩
      refine pcD hc (qF1 g nb N m F T Q td FR SN a b i tn) ?_ (hrun c hc)
      and_intros
      all_goals (first | exact zN | (intro i hi;simp [All]))
    · have hd':decide ((i:Int)<(tn:Int))=false:=by simp;omega
      obtain rfl:i=tn:=by omega
      refine ⟨_,_,fun c hc=>?_,.no (moved_no hp hbi hz hcl)⟩
      refine pkD Tryz.func377 hc (qF1e g nb N m F T Q td FR SN a b i i) ?_
      and_intros
      all_goals (first | exact zI | (intro i hi;simp [All]))
theorem con_l4Find {N k nb m:Nat} {g:Nat→T_Bar} {F T Q:Nat→Int} {a b:Int} (hp:PInv N k nb m g F T Q) (hk:k≤1048576) (hN:N≤1048576) (hm:m≤1048576) (hnb:nb≤1048576)
    (ha:0≤a∧a<N) (hb:0≤b∧b<N) (hab:a≠b):∃ H' res,Con Tryz.prog 377 3 (pebR N m F T Q) [grG g nb N,pebO N m 0,.p (.int .i64 a),.p (.int .i64 b)] H' res∧FindR N k nb m g F T Q a b H' res:=by
  obtain ⟨H',res,hrun,hmv⟩:=out_s hp hk hN hm hnb ha hb hab (N+1) 0 1 (fun _=>a) (fun _=>-1) (fun s=>if s=a.toNat then true else false) (by omega) (by omega)
    ⟨by omega,rfl,fun s hs=>ha,fun s s' h1 h2=>by omega,fun s h1 h2=>by omega⟩ (fun x hx=>by
      show (if x=a.toNat then true else false)=true↔∃ s,s<1∧a=x
      by_cases e:x=a.toNat
      · rw [if_pos e];exact ⟨fun _=>⟨0,by omega,by omega⟩,fun _=>rfl⟩
      · rw [if_neg e];exact ⟨(fun h=>by cases h),(fun ⟨s,h1,h2⟩=>by omega)⟩) (fun s h1 h2=>by omega) (fun i' j' h=>by omega)
  refine ⟨H',res,?_,hmv⟩
  refine csZ Tryz.func377 (fun c hc=>?_)
  have lp0:∀ d i,i+d=N→zR c 377 zf76 (SF0 g nb N m F T Q a b i) (Post c H' res):=by
    intro d
    induction d with
    | zero =>
      intro i hi
      obtain rfl:i=N:=by omega
      have hd:decide ((i:Int)<(i:Int))=false:=by simp
      refine pcD hc (qF01 g nb i m F T Q a b i) ?_ (hrun c hc)
      and_intros
      iterate 2 all_goals (first | exact zI | (intro j hj;simp [All];done) | (intro j hj;simp [hj,All];done) | (intro j hj;by_cases h:j=a.toNat<;>simp [h,cvtL,cvt,tg,tru,All]) | simp only [All])
    | succ d ih =>
      intro i hi
      have hd:decide ((i:Int)<(N:Int))=true:=by simp;omega
      refine pcD hc (qF0 g nb N m F T Q a b i) ?_ (ih (i+1) (by omega))
      and_intros
      all_goals (first | exact zI | (intro j hj;simp [All];done) | (intro j hj;by_cases h:j=i<;>simp [h,Nat.lt_succ_iff_lt_or_eq,cvtL,cvt,tg,tru,All]))
  refine pcD hc (qFz g nb N m F T Q a b) ?_ (lp0 N 0 (by omega))
  and_intros
  iterate 2 all_goals (first | exact zN | (intro i hi;simp [All]) | simp only [All])
def aft (a b:T_Bar):Bool:=bif decide (a.1<b.1) then true else bif a.1==b.1 then decide (a.2.1≤b.2.1) else false
def cmpI (x y:Int):Int:=if x<y then -1 else if x>y then 1 else 0
def cmpB (a b:T_Bar):Int:=if cmpI a.1 b.1=0 then cmpI a.2.1 b.2.1 else cmpI a.1 b.1
def badB (N:Int) (g:Nat→T_Bar) (k:Nat):Bool :=
  bif bif bif decide ((g k).1<0) then true else decide ((g k).1≥(g k).2.1) then true else decide ((g k).2.1≥N) then true
    else bif decide ((k:Int)>0) then !aft (g ((k:Int) - 1).toNat) (g k) else false
def goodB (N:Int) (g:Nat→T_Bar):Nat→Bool
  | 0=>true
  | k+1=>goodB N g k&&!badB N g k
def isGraphF (v:T_Graph):Bool:=if inB v.1 1 8=true∧v.2.1.1≤24 then goodB v.1 v.2.1.2 v.2.1.1 else false
def barA (a:T_Bar):AV:=.agg [.p (.int .i64 a.1),.p (.int .i64 a.2.1)]
def graphL (v:T_BarS):AV:=.p (.seq true 2 v.1 (fun i=>[.int .i64 (v.2 i).1,.int .i64 (v.2 i).2.1]))
def graphA (v:T_Graph):AV:=.agg [.p (.int .i64 v.1),graphL v.2.1]
def boxG (v:T_Graph):Ob:=⟨true,2,1,fun i=>[.p (.int .i64 v.1),graphL v.2.1]⟩
def S48 (v:T_Graph) (k:Nat):St :=
  ⟨[graphA v,.pt 2 0 0 0,.p .any,.p (.int .i64 k)]++List.replicate 55 anyA,[(0,boxG v)],1⟩
def S51 (v:T_Graph) (k:Nat):St :=
  ⟨[graphA v,.pt 2 0 0 0]++List.replicate 14 anyA++[graphL v.2.1,.p (.int .i64 v.2.1.1),.p (.int .i64 k)]++List.replicate 37 anyA,[(0,boxG v)],1⟩
theorem p57 (a b:T_Bar) :
    zS Tryz.f168 [rg 3,rg 20] [barA a,barA b] [] [] (.p (.bool (aft a b))) =
    some (zD [(NT 0 1),(AG (!decide (a.1<b.1))),(((!decide (a.1<b.1))=true)→(NT 0 1)),(AG (!decide (a.1<b.1)&&a.1==b.1)),(((!decide (a.1<b.1)&&a.1==b.1)=true)→(NT 0 1)),(((!decide (a.1<b.1))=true)→(((a.1==b.1)=true)→ ((!decide (a.1<b.1)&&a.1==b.1)=true))),(((decide (a.1<b.1))=false)→ ((!decide (a.1<b.1))=true)),((bif decide (a.1<b.1) then true else bif a.1==b.1 then decide (a.2.1≤b.2.1) else false)=(aft a b))] [0,0,1,2,1,2,1,1,1,3,4,3,4,3,3,1,5,6,7]):=by kernel_rfl
theorem p62a (x y:Int) :
    zS Tryz.f287 [rg 1,rg 4,.dec true,rg 1] [.p (.int .i64 x),.p (.int .i64 y)] [] [] (.p (.int .i64 (-1))) =
    some [((decide (x<y))=true),(AI ((-1)))]:=by kernel_rfl
theorem p62b (x y:Int) :
    zS Tryz.f287 [rg 1,rg 4,.dec false,rg 4,.dec true,rg 1] [.p (.int .i64 x),.p (.int .i64 y)] [] [] (.p (.int .i64 1)) =
    some [((decide (x<y))=false),((decide (x>y))=true),(AI 1)]:=by kernel_rfl
theorem p62c (x y:Int) :
    zS Tryz.f287 [rg 1,rg 4,.dec false,rg 4,.dec false,rg 1] [.p (.int .i64 x),.p (.int .i64 y)] [] [] (.p (.int .i64 0)) =
    some [((decide (x<y))=false),((decide (x>y))=false),(AI 0)]:=by kernel_rfl
theorem p59a (a b:T_Bar) :
    zS Tryz.f180 [rg 3,rm [(4,oc [] (.p (.int .i64 (cmpI a.1 b.1))))] 1,rg 2,.dec true,rg 2] [barA a,barA b] [] [] (.p (.int .i64 (cmpI a.1 b.1))) =
    some [(NT 0 1),(NT 0 1),zE 287 [.p (.int .i64 a.1),.p (.int .i64 b.1)] [] (.p (.int .i64 (cmpI a.1 b.1))),((cmpI a.1 b.1 != 0)=true),(AI ((cmpI a.1 b.1)))]:=by kernel_rfl
theorem p59b (a b:T_Bar) :
    zS Tryz.f180 [rg 3,rm [(4,oc [] (.p (.int .i64 (cmpI a.1 b.1))))] 1,rg 2,.dec false,rm [(4,oc [] (.p (.int .i64 (cmpI a.2.1 b.2.1))))] 1] [barA a,barA b] [] [] (.p (.int .i64 (cmpI a.2.1 b.2.1))) =
    some [(NT 0 1),(NT 0 1),zE 287 [.p (.int .i64 a.1),.p (.int .i64 b.1)] [] (.p (.int .i64 (cmpI a.1 b.1))),((cmpI a.1 b.1 != 0)=false),(NT 0 1),(NT 0 1),zE 287 [.p (.int .i64 a.2.1),.p (.int .i64 b.2.1)] [] (.p (.int .i64 (cmpI a.2.1 b.2.1))),(AI ((cmpI a.2.1 b.2.1)))]:=by kernel_rfl
theorem p48z (v:T_Graph) :
    zS Tryz.f53 [rg 2,rm [(2,oc [] (.p (.bool (inB v.1 1 8))))] 7,.dec true,rg 1] [graphA v] [] [] (.p (.bool false)) =
    some (zD [(NT 0 1),zE 167 [.p (.int .i64 v.1),.p (.int .i64 1),.p (.int .i64 8)] [] (.p (.bool (inB v.1 1 8))),(AG (!!inB v.1 1 8)),(((!!inB v.1 1 8)=true)→(NT 0 1)),(((!inB v.1 1 8)=false)→ ((!!inB v.1 1 8)=true)),((bif !inB v.1 1 8 then true else decide ((↑v.2.1.1:Int)>24))=true),(false=false)] [0,1,2,3,2,2,4,5,6]):=by kernel_rfl
theorem p48a (v:T_Graph) :
    zT Tryz.f53 [rg 2,rm [(2,oc [] (.p (.bool (inB v.1 1 8))))] 7,.dec false,rg 1,.head] [graphA v] [0] (S48 v 0) =
    some (zf93,zD [(NT 0 1),zE 167 [.p (.int .i64 v.1),.p (.int .i64 1),.p (.int .i64 8)] [] (.p (.bool (inB v.1 1 8))),(AG (!!inB v.1 1 8)),(((!!inB v.1 1 8)=true)→(NT 0 1)),(((!inB v.1 1 8)=false)→ ((!!inB v.1 1 8)=true)),((bif !inB v.1 1 8 then true else decide ((↑v.2.1.1:Int)>24))=false),(AI v.1),(AN v.2.1.1),(AP v.2.1.1 (bRw v.2.1.2)),(AN 0),((0:Int)=(↑0:Int)),((([AV.p (PV.int IntKind.i64 v.1),graphL v.2.1].length):Nat)=2),(NL 1 1)] [0,1,2,3,2,2,4,5,6,7,8,9,10,11,12,12,6,7,8]):=by kernel_rfl
theorem p48b (v:T_Graph) (k:Nat) :
    zM 0 [rg 5,.dec true,rg 7,rm [(28,oc [] (.p (.bool (aft (v.2.1.2 ((k:Int) - 1).toNat) (v.2.1.2 k)))))] 3,.dec false,rg 3,.head] zf93 (S48 v k) [0] 1 (S48 v (k+1)) =
    some (zf93,zD [(NT 0 1),((decide ((↑k:Int)<(↑v.2.1.1:Int)))=true),(IL 0 (↑k:Int)),(IT (↑k:Int) (↑v.2.1.1:Int)),((true=true)→ (AN 1)),(AG (!decide ((vKz v k).1<0))),(((!decide ((vKz v k).1<0))=true)→(NT 0 1)),(((decide ((vKz v k).1<0))=false)→ ((!decide ((vKz v k).1<0))=true)),(AG (!bif decide ((vKz v k).1<0) then true else decide ((vKz v k).1≥(vKz v k).2.1))),(((!bif decide ((vKz v k).1<0) then true else decide ((vKz v k).1≥(vKz v k).2.1))=true)→(NT 0 1)),(((bif decide ((vKz v k).1<0) then true else decide ((vKz v k).1≥(vKz v k).2.1))=false)→ ((!bif decide ((vKz v k).1<0) then true else decide ((vKz v k).1≥(vKz v k).2.1))=true)),(AG (!bif bif decide ((vKz v k).1<0) then true else decide ((vKz v k).1≥(vKz v k).2.1) then true else decide ((vKz v k).2.1≥v.1))),(AG ((!bif bif decide ((vKz v k).1<0) then true else decide ((vKz v k).1≥(vKz v k).2.1) then true else decide ((vKz v k).2.1≥v.1))&&decide ((↑k:Int)>0))),((((!bif bif decide ((vKz v k).1<0) then true else decide ((vKz v k).1≥(vKz v k).2.1) then true else decide ((vKz v k).2.1≥v.1))&&decide ((↑k:Int)>0))=true)→(NT 0 1)),((((!bif bif decide ((vKz v k).1<0) then true else decide ((vKz v k).1≥(vKz v k).2.1) then true else decide ((vKz v k).2.1≥v.1))&&decide ((↑k:Int)>0))=true)→(ZLo ((↑k:Int) - 1))),((((!bif bif decide ((vKz v k).1<0) then true else decide ((vKz v k).1≥(vKz v k).2.1) then true else decide ((vKz v k).2.1≥v.1))&&decide ((↑k:Int)>0))=true)→(ZHi ((↑k:Int) - 1))),((((!bif bif decide ((vKz v k).1<0) then true else decide ((vKz v k).1≥(vKz v k).2.1) then true else decide ((vKz v k).2.1≥v.1))&&decide ((↑k:Int)>0))=true)→(IL 0 ((↑k:Int) - 1))),((((!bif bif decide ((vKz v k).1<0) then true else decide ((vKz v k).1≥(vKz v k).2.1) then true else decide ((vKz v k).2.1≥v.1))&&decide ((↑k:Int)>0))=true)→(IT ((↑k:Int) - 1) (↑v.2.1.1:Int))),((((!bif bif decide ((vKz v k).1<0) then true else decide ((vKz v k).1≥(vKz v k).2.1) then true else decide ((vKz v k).2.1≥v.1))&&decide ((↑k:Int)>0))=true)→ zE 168 [(zf107 v k),(zf115 v k)] [] (.p (.bool (aft (v.2.1.2 ((↑k:Int) - 1).toNat) (v.2.1.2 k))))),(((!bif bif decide ((vKz v k).1<0) then true else decide ((vKz v k).1≥(vKz v k).2.1) then true else decide ((vKz v k).2.1≥v.1))=true)→(((decide ((↑k:Int)>0))=true)→ (((!bif bif decide ((vKz v k).1<0) then true else decide ((vKz v k).1≥(vKz v k).2.1) then true else decide ((vKz v k).2.1≥v.1))&&decide ((↑k:Int)>0))=true))),(((bif bif decide ((vKz v k).1<0) then true else decide ((vKz v k).1≥(vKz v k).2.1) then true else decide ((vKz v k).2.1≥v.1))=false)→ ((!bif bif decide ((vKz v k).1<0) then true else decide ((vKz v k).1≥(vKz v k).2.1) then true else decide ((vKz v k).2.1≥v.1))=true)),((bif bif bif decide ((vKz v k).1<0) then true else decide ((vKz v k).1≥(vKz v k).2.1) then true else decide ((vKz v k).2.1≥v.1) then true else bif decide ((↑k:Int)>0) then !aft (v.2.1.2 ((↑k:Int) - 1).toNat) (v.2.1.2 k) else false)=false),(ZLo ((↑k:Int)+1)),(ZHi ((↑k:Int)+1)),(AI v.1),(AN v.2.1.1),(AP v.2.1.1 (bRw v.2.1.2)),(AN 0),((((↑k:Int)+1):Int)=(↑(k+1):Int)),(AN 2),(NL 1 1)] [0,1,0,2,3,0,4,0,5,6,5,6,5,5,7,8,9,8,9,8,8,10,11,11,12,13,12,14,15,12,12,16,17,12,13,12,12,18,12,11,19,20,21,22,23,24,25,26,27,28,29,30,30,24,25,26]):=by kernel_rfl
theorem p48c (v:T_Graph) (k:Nat) :
    zP Tryz.f53 0 [rg 5,.dec true,rg 7,rm [(28,oc [] (.p (.bool (aft (v.2.1.2 ((k:Int) - 1).toNat) (v.2.1.2 k)))))] 3,.dec true,rg 1] zf93 (S48 v k) [] 1 [] (.p (.bool false)) =
    some (zD [(NT 0 1),((decide ((↑k:Int)<(↑v.2.1.1:Int)))=true),(IL 0 (↑k:Int)),(IT (↑k:Int) (↑v.2.1.1:Int)),((true=true)→ (AN 1)),(AG (!decide ((vKz v k).1<0))),(((!decide ((vKz v k).1<0))=true)→(NT 0 1)),(((decide ((vKz v k).1<0))=false)→ ((!decide ((vKz v k).1<0))=true)),(AG (!bif decide ((vKz v k).1<0) then true else decide ((vKz v k).1≥(vKz v k).2.1))),(((!bif decide ((vKz v k).1<0) then true else decide ((vKz v k).1≥(vKz v k).2.1))=true)→(NT 0 1)),(((bif decide ((vKz v k).1<0) then true else decide ((vKz v k).1≥(vKz v k).2.1))=false)→ ((!bif decide ((vKz v k).1<0) then true else decide ((vKz v k).1≥(vKz v k).2.1))=true)),(AG (!bif bif decide ((vKz v k).1<0) then true else decide ((vKz v k).1≥(vKz v k).2.1) then true else decide ((vKz v k).2.1≥v.1))),(AG ((!bif bif decide ((vKz v k).1<0) then true else decide ((vKz v k).1≥(vKz v k).2.1) then true else decide ((vKz v k).2.1≥v.1))&&decide ((↑k:Int)>0))),((((!bif bif decide ((vKz v k).1<0) then true else decide ((vKz v k).1≥(vKz v k).2.1) then true else decide ((vKz v k).2.1≥v.1))&&decide ((↑k:Int)>0))=true)→(NT 0 1)),((((!bif bif decide ((vKz v k).1<0) then true else decide ((vKz v k).1≥(vKz v k).2.1) then true else decide ((vKz v k).2.1≥v.1))&&decide ((↑k:Int)>0))=true)→(ZLo ((↑k:Int) - 1))),((((!bif bif decide ((vKz v k).1<0) then true else decide ((vKz v k).1≥(vKz v k).2.1) then true else decide ((vKz v k).2.1≥v.1))&&decide ((↑k:Int)>0))=true)→(ZHi ((↑k:Int) - 1))),((((!bif bif decide ((vKz v k).1<0) then true else decide ((vKz v k).1≥(vKz v k).2.1) then true else decide ((vKz v k).2.1≥v.1))&&decide ((↑k:Int)>0))=true)→(IL 0 ((↑k:Int) - 1))),((((!bif bif decide ((vKz v k).1<0) then true else decide ((vKz v k).1≥(vKz v k).2.1) then true else decide ((vKz v k).2.1≥v.1))&&decide ((↑k:Int)>0))=true)→(IT ((↑k:Int) - 1) (↑v.2.1.1:Int))),((((!bif bif decide ((vKz v k).1<0) then true else decide ((vKz v k).1≥(vKz v k).2.1) then true else decide ((vKz v k).2.1≥v.1))&&decide ((↑k:Int)>0))=true)→ zE 168 [(zf107 v k),(zf115 v k)] [] (.p (.bool (aft (v.2.1.2 ((↑k:Int) - 1).toNat) (v.2.1.2 k))))),(((!bif bif decide ((vKz v k).1<0) then true else decide ((vKz v k).1≥(vKz v k).2.1) then true else decide ((vKz v k).2.1≥v.1))=true)→(((decide ((↑k:Int)>0))=true)→ (((!bif bif decide ((vKz v k).1<0) then true else decide ((vKz v k).1≥(vKz v k).2.1) then true else decide ((vKz v k).2.1≥v.1))&&decide ((↑k:Int)>0))=true))),(((bif bif decide ((vKz v k).1<0) then true else decide ((vKz v k).1≥(vKz v k).2.1) then true else decide ((vKz v k).2.1≥v.1))=false)→ ((!bif bif decide ((vKz v k).1<0) then true else decide ((vKz v k).1≥(vKz v k).2.1) then true else decide ((vKz v k).2.1≥v.1))=true)),((bif bif bif decide ((vKz v k).1<0) then true else decide ((vKz v k).1≥(vKz v k).2.1) then true else decide ((vKz v k).2.1≥v.1) then true else bif decide ((↑k:Int)>0) then !aft (v.2.1.2 ((↑k:Int) - 1).toNat) (v.2.1.2 k) else false)=true),(false=false)] [0,1,0,2,3,0,4,0,5,6,5,6,5,5,7,8,9,8,9,8,8,10,11,11,12,13,12,14,15,12,12,16,17,12,13,12,12,18,12,11,19,20,21,22]):=by kernel_rfl
theorem p48d (v:T_Graph) (k:Nat) :
    zP Tryz.f53 0 [rg 5,.dec false,rg 1] zf93 (S48 v k) [] 1 [] (.p (.bool true)) =
    some [(NT 0 1),((decide ((↑k:Int)<(↑v.2.1.1:Int)))=false),(true=true)]:=by kernel_rfl
theorem p51z (v:T_Graph) :
    zS Tryz.f62 [rg 2,rm [(2,oc [] (.p (.bool (inB v.1 1 8))))] 7,.dec true,rg 1] [graphA v] [] [] (.p (.bool false)) =
    some (zD [(NT 0 1),zE 179 [.p (.int .i64 v.1),.p (.int .i64 1),.p (.int .i64 8)] [] (.p (.bool (inB v.1 1 8))),(AG (!!inB v.1 1 8)),(((!!inB v.1 1 8)=true)→(NT 0 1)),(((!inB v.1 1 8)=false)→ ((!!inB v.1 1 8)=true)),((bif !inB v.1 1 8 then true else decide ((↑v.2.1.1:Int)>24))=true),(false=false)] [0,1,2,3,2,2,4,5,6]):=by kernel_rfl
theorem p51a (v:T_Graph) :
    zT Tryz.f62 [rg 2,rm [(2,oc [] (.p (.bool (inB v.1 1 8))))] 7,.dec false,rg 4,.head] [graphA v] [0] (S51 v 0) =
    some (zf94,zD [(NT 0 1),zE 179 [.p (.int .i64 v.1),.p (.int .i64 1),.p (.int .i64 8)] [] (.p (.bool (inB v.1 1 8))),(AG (!!inB v.1 1 8)),(((!!inB v.1 1 8)=true)→(NT 0 1)),(((!inB v.1 1 8)=false)→ ((!!inB v.1 1 8)=true)),((bif !inB v.1 1 8 then true else decide ((↑v.2.1.1:Int)>24))=false),(AI v.1),(AN v.2.1.1),(AP v.2.1.1 (bRw v.2.1.2)),(AN 0),(AI ((↑v.2.1.1:Int))),((0:Int)=(↑0:Int)),((([AV.p (PV.int IntKind.i64 v.1),graphL v.2.1].length):Nat)=2),(NL 1 1)] [0,1,2,3,2,2,4,5,0,6,7,8,9,7,8,10,11,12,13,13,6,7,8]):=by kernel_rfl
theorem p51b (v:T_Graph) (k:Nat) :
    zM 0 [rg 1,.dec true,rg 6,rm [(28,oc [] (.p (.int .i64 (cmpB (v.2.1.2 ((k:Int) - 1).toNat) (v.2.1.2 k)))))] 3,.dec false,rg 2,.head] zf94 (S51 v k) [0] 1 (S51 v (k+1)) =
    some (zf94,zD [((decide ((↑k:Int)<(↑v.2.1.1:Int)))=true),(IL 0 (↑k:Int)),(IT (↑k:Int) (↑v.2.1.1:Int)),(NT 0 1),((true=true)→ (AN 1)),(AG (!decide ((vKz v k).1<0))),(((!decide ((vKz v k).1<0))=true)→(NT 0 1)),(((decide ((vKz v k).1<0))=false)→ ((!decide ((vKz v k).1<0))=true)),(AG (!bif decide ((vKz v k).1<0) then true else decide ((vKz v k).1≥(vKz v k).2.1))),(((!bif decide ((vKz v k).1<0) then true else decide ((vKz v k).1≥(vKz v k).2.1))=true)→(NT 0 1)),(((bif decide ((vKz v k).1<0) then true else decide ((vKz v k).1≥(vKz v k).2.1))=false)→ ((!bif decide ((vKz v k).1<0) then true else decide ((vKz v k).1≥(vKz v k).2.1))=true)),(AG (!bif bif decide ((vKz v k).1<0) then true else decide ((vKz v k).1≥(vKz v k).2.1) then true else decide ((vKz v k).2.1≥v.1))),(AG ((!bif bif decide ((vKz v k).1<0) then true else decide ((vKz v k).1≥(vKz v k).2.1) then true else decide ((vKz v k).2.1≥v.1))&&decide ((↑k:Int)>0))),((((!bif bif decide ((vKz v k).1<0) then true else decide ((vKz v k).1≥(vKz v k).2.1) then true else decide ((vKz v k).2.1≥v.1))&&decide ((↑k:Int)>0))=true)→(NT 0 1)),((((!bif bif decide ((vKz v k).1<0) then true else decide ((vKz v k).1≥(vKz v k).2.1) then true else decide ((vKz v k).2.1≥v.1))&&decide ((↑k:Int)>0))=true)→(ZLo ((↑k:Int) - 1))),((((!bif bif decide ((vKz v k).1<0) then true else decide ((vKz v k).1≥(vKz v k).2.1) then true else decide ((vKz v k).2.1≥v.1))&&decide ((↑k:Int)>0))=true)→(ZHi ((↑k:Int) - 1))),((((!bif bif decide ((vKz v k).1<0) then true else decide ((vKz v k).1≥(vKz v k).2.1) then true else decide ((vKz v k).2.1≥v.1))&&decide ((↑k:Int)>0))=true)→(IL 0 ((↑k:Int) - 1))),((((!bif bif decide ((vKz v k).1<0) then true else decide ((vKz v k).1≥(vKz v k).2.1) then true else decide ((vKz v k).2.1≥v.1))&&decide ((↑k:Int)>0))=true)→(IT ((↑k:Int) - 1) (↑v.2.1.1:Int))),((((!bif bif decide ((vKz v k).1<0) then true else decide ((vKz v k).1≥(vKz v k).2.1) then true else decide ((vKz v k).2.1≥v.1))&&decide ((↑k:Int)>0))=true)→ zE 180 [(zf107 v k),(zf115 v k)] [] (.p (.int .i64 (cmpB (v.2.1.2 ((↑k:Int) - 1).toNat) (v.2.1.2 k))))),(((!bif bif decide ((vKz v k).1<0) then true else decide ((vKz v k).1≥(vKz v k).2.1) then true else decide ((vKz v k).2.1≥v.1))=true)→(((decide ((↑k:Int)>0))=true)→ (((!bif bif decide ((vKz v k).1<0) then true else decide ((vKz v k).1≥(vKz v k).2.1) then true else decide ((vKz v k).2.1≥v.1))&&decide ((↑k:Int)>0))=true))),(((bif bif decide ((vKz v k).1<0) then true else decide ((vKz v k).1≥(vKz v k).2.1) then true else decide ((vKz v k).2.1≥v.1))=false)→ ((!bif bif decide ((vKz v k).1<0) then true else decide ((vKz v k).1≥(vKz v k).2.1) then true else decide ((vKz v k).2.1≥v.1))=true)),((bif bif bif decide ((vKz v k).1<0) then true else decide ((vKz v k).1≥(vKz v k).2.1) then true else decide ((vKz v k).2.1≥v.1) then true else bif decide ((↑k:Int)>0) then decide (cmpB (v.2.1.2 ((↑k:Int) - 1).toNat) (v.2.1.2 k)>0) else false)=false),(ZLo ((↑k:Int)+1)),(ZHi ((↑k:Int)+1)),(AI v.1),(AN v.2.1.1),(AP v.2.1.1 (bRw v.2.1.2)),(AN 0),(AI ((↑v.2.1.1:Int))),((((↑k:Int)+1):Int)=(↑(k+1):Int)),(AN 2),(NL 1 1)] [0,1,2,3,4,3,5,6,5,6,5,5,7,8,9,8,9,8,8,10,11,11,12,13,12,14,15,12,12,16,17,12,13,12,12,18,12,11,19,20,21,22,23,24,25,26,27,25,26,28,29,30,31,31,24,25,26]):=by kernel_rfl
theorem p51c (v:T_Graph) (k:Nat) :
    zP Tryz.f62 0 [rg 1,.dec true,rg 6,rm [(28,oc [] (.p (.int .i64 (cmpB (v.2.1.2 ((k:Int) - 1).toNat) (v.2.1.2 k)))))] 3,.dec true,rg 1] zf94 (S51 v k) [] 1 [] (.p (.bool false)) =
    some (zD [((decide ((↑k:Int)<(↑v.2.1.1:Int)))=true),(IL 0 (↑k:Int)),(IT (↑k:Int) (↑v.2.1.1:Int)),(NT 0 1),((true=true)→ (AN 1)),(AG (!decide ((vKz v k).1<0))),(((!decide ((vKz v k).1<0))=true)→(NT 0 1)),(((decide ((vKz v k).1<0))=false)→ ((!decide ((vKz v k).1<0))=true)),(AG (!bif decide ((vKz v k).1<0) then true else decide ((vKz v k).1≥(vKz v k).2.1))),(((!bif decide ((vKz v k).1<0) then true else decide ((vKz v k).1≥(vKz v k).2.1))=true)→(NT 0 1)),(((bif decide ((vKz v k).1<0) then true else decide ((vKz v k).1≥(vKz v k).2.1))=false)→ ((!bif decide ((vKz v k).1<0) then true else decide ((vKz v k).1≥(vKz v k).2.1))=true)),(AG (!bif bif decide ((vKz v k).1<0) then true else decide ((vKz v k).1≥(vKz v k).2.1) then true else decide ((vKz v k).2.1≥v.1))),(AG ((!bif bif decide ((vKz v k).1<0) then true else decide ((vKz v k).1≥(vKz v k).2.1) then true else decide ((vKz v k).2.1≥v.1))&&decide ((↑k:Int)>0))),((((!bif bif decide ((vKz v k).1<0) then true else decide ((vKz v k).1≥(vKz v k).2.1) then true else decide ((vKz v k).2.1≥v.1))&&decide ((↑k:Int)>0))=true)→(NT 0 1)),((((!bif bif decide ((vKz v k).1<0) then true else decide ((vKz v k).1≥(vKz v k).2.1) then true else decide ((vKz v k).2.1≥v.1))&&decide ((↑k:Int)>0))=true)→(ZLo ((↑k:Int) - 1))),((((!bif bif decide ((vKz v k).1<0) then true else decide ((vKz v k).1≥(vKz v k).2.1) then true else decide ((vKz v k).2.1≥v.1))&&decide ((↑k:Int)>0))=true)→(ZHi ((↑k:Int) - 1))),((((!bif bif decide ((vKz v k).1<0) then true else decide ((vKz v k).1≥(vKz v k).2.1) then true else decide ((vKz v k).2.1≥v.1))&&decide ((↑k:Int)>0))=true)→(IL 0 ((↑k:Int) - 1))),((((!bif bif decide ((vKz v k).1<0) then true else decide ((vKz v k).1≥(vKz v k).2.1) then true else decide ((vKz v k).2.1≥v.1))&&decide ((↑k:Int)>0))=true)→(IT ((↑k:Int) - 1) (↑v.2.1.1:Int))),((((!bif bif decide ((vKz v k).1<0) then true else decide ((vKz v k).1≥(vKz v k).2.1) then true else decide ((vKz v k).2.1≥v.1))&&decide ((↑k:Int)>0))=true)→ zE 180 [(zf107 v k),(zf115 v k)] [] (.p (.int .i64 (cmpB (v.2.1.2 ((↑k:Int) - 1).toNat) (v.2.1.2 k))))),(((!bif bif decide ((vKz v k).1<0) then true else decide ((vKz v k).1≥(vKz v k).2.1) then true else decide ((vKz v k).2.1≥v.1))=true)→(((decide ((↑k:Int)>0))=true)→ (((!bif bif decide ((vKz v k).1<0) then true else decide ((vKz v k).1≥(vKz v k).2.1) then true else decide ((vKz v k).2.1≥v.1))&&decide ((↑k:Int)>0))=true))),(((bif bif decide ((vKz v k).1<0) then true else decide ((vKz v k).1≥(vKz v k).2.1) then true else decide ((vKz v k).2.1≥v.1))=false)→ ((!bif bif decide ((vKz v k).1<0) then true else decide ((vKz v k).1≥(vKz v k).2.1) then true else decide ((vKz v k).2.1≥v.1))=true)),((bif bif bif decide ((vKz v k).1<0) then true else decide ((vKz v k).1≥(vKz v k).2.1) then true else decide ((vKz v k).2.1≥v.1) then true else bif decide ((↑k:Int)>0) then decide (cmpB (v.2.1.2 ((↑k:Int) - 1).toNat) (v.2.1.2 k)>0) else false)=true),(false=false)] [0,1,2,3,4,3,5,6,5,6,5,5,7,8,9,8,9,8,8,10,11,11,12,13,12,14,15,12,12,16,17,12,13,12,12,18,12,11,19,20,21,22]):=by kernel_rfl
theorem p51d (v:T_Graph) (k:Nat) :
    zP Tryz.f62 0 [rg 1,.dec false,rg 1] zf94 (S51 v k) [] 1 [] (.p (.bool true)) =
    some [((decide ((↑k:Int)<(↑v.2.1.1:Int)))=false),(true=true)]:=by kernel_rfl
theorem con_l2After (a b:T_Bar):zE 168 [barA a,barA b] [] (.p (.bool (aft a b))):=by
  refine csZ Tryz.func168 (fun c hc=>?_)
  refine pkD Tryz.func168 hc (p57 a b) ?_
  and_intros
  all_goals (first | exact zH)
theorem con_compareInts (x y:Int):zE 287 [.p (.int .i64 x),.p (.int .i64 y)] [] (.p (.int .i64 (cmpI x y))):=by
  refine csZ Tryz.func287 (fun c hc=>?_)
  by_cases h1:x<y
  · rw [show cmpI x y = -1 by simp [cmpI,h1]]
    refine pkZ Tryz.func287 hc (p62a x y) ?_
    and_intros
    all_goals (first | exact zN | (simp;omega))
  · by_cases h2:x>y
    · rw [show cmpI x y=1 by simp only [cmpI,h1,h2,if_true,if_false]]
      refine pkZ Tryz.func287 hc (p62b x y) ?_
      and_intros
      all_goals (first | exact zN | (simp;omega))
    · rw [show cmpI x y=0 by simp only [cmpI,h1,h2,if_false]]
      refine pkZ Tryz.func287 hc (p62c x y) ?_
      and_intros
      all_goals (first | exact zN | (simp;omega))
theorem con_compareBars (a b:T_Bar):zE 180 [barA a,barA b] [] (.p (.int .i64 (cmpB a b))):=by
  refine csZ Tryz.func180 (fun c hc=>?_)
  by_cases h1:cmpI a.1 b.1=0
  · rw [show cmpB a b=cmpI a.2.1 b.2.1 by simp [cmpB,h1]]
    refine pkZ Tryz.func180 hc (p59b a b) ?_
    and_intros
    all_goals (first | exact zN | (exact con_compareInts _ _) | (simp [h1]))
  · rw [show cmpB a b=cmpI a.1 b.1 by simp [cmpB,h1]]
    refine pkZ Tryz.func180 hc (p59a a b) ?_
    and_intros
    all_goals (first | exact zN | (exact con_compareInts _ _) | (simp [h1]))
theorem cmpB_gt (a b:T_Bar):decide (cmpB a b>0)=!aft a b:=by
  simp only [cmpB,cmpI,aft]
  by_cases h1:a.1<b.1
  · simp [h1]
  · by_cases h2:a.1>b.1
    · have h3:¬ a.1=b.1:=by omega
      simp [h1,h2,h3]
    · have h3:a.1=b.1:=by omega
      simp only [h1,h2,h3,if_true,if_false]
      by_cases h4:a.2.1<b.2.1
      · have:a.2.1≤b.2.1:=by omega
        simp [h4,this]
      · by_cases h5:a.2.1>b.2.1
        · have:¬ a.2.1≤b.2.1:=by omega
          simp [h4,h5,this]
        · have:a.2.1≤b.2.1:=by omega
          simp [h4,h5,this]
theorem goodB_bad (N:Int) (g:Nat→T_Bar) (k:Nat) (h:badB N g k=true):∀ n,k<n→goodB N g n=false
  | 0,h'=>by omega
  | n+1,h'=>by
    by_cases e:k=n
    · subst e;simp [goodB,h]
    · simp [goodB,goodB_bad N g k h n (by omega)]
theorem idx_lt {b:Bool} {k n:Nat} (h:(b&&decide ((k:Int)>0))=true) (hk:k<n):0≤(k:Int) - 1∧(k:Int) - 1<n∧-9223372036854775808≤(k:Int) - 1∧(k:Int) - 1≤n:=by
  simp at h
  omega
theorem con_IsGraph_s (v:T_Graph) (hs:smS s_Graph v):zE 53 [graphA v] [] (.p (.bool (isGraphF v))):=by
  refine csZ Tryz.func53 (fun c hc=>?_)
  have hn:v.2.1.1≤1048576:=hs.2.1.1
  by_cases hz:inB v.1 1 8=true∧v.2.1.1≤24
  · rw [show isGraphF v=goodB v.1 v.2.1.2 v.2.1.1 by rw [isGraphF,if_pos hz]]
    have lp:∀ m k,k+m=v.2.1.1→goodB v.1 v.2.1.2 k=true→zR c 53 zf93 (S48 v k) (Post c [] (.p (.bool (goodB v.1 v.2.1.2 v.2.1.1)))):=by
      intro m
      induction m with
      | zero =>
        intro k hk hg
        rw [show goodB v.1 v.2.1.2 v.2.1.1=true by rw [show v.2.1.1=k by omega];exact hg]
        have hd:decide ((k:Int)<(v.2.1.1:Int))=false:=by simp;omega
        refine pkZ Tryz.func53 hc (p48d v k) ?_
        and_intros
        all_goals (first | exact zN)
      | succ m ih =>
        intro k hk hg
        have hd:decide ((k:Int)<(v.2.1.1:Int))=true:=by simp;omega
        have hkn:k<v.2.1.1:=by omega
        cases he:badB v.1 v.2.1.2 k with
        | true =>
          rw [goodB_bad _ _ k he v.2.1.1 (by omega)]
          refine pkD Tryz.func53 hc (p48c v k) ?_
          and_intros
          all_goals (first | exact zH | (intros;exact con_l2After _ _) | (exact he) | (intro h;have:=idx_lt h hkn;omega))
        | false =>
          refine pcD hc (p48b v k) ?_ (ih (k+1) (by omega) (by simp [goodB,hg,he]))
          and_intros
          all_goals (first | exact zH | (intros;exact con_l2After _ _) | (exact he) | (intro h;have:=idx_lt h hkn;omega) | (simp [All]))
    refine pcD hc (p48a v) ?_ (lp v.2.1.1 0 (by omega) rfl)
    and_intros
    all_goals (first | exact zH | (exact con_l1In _ _ _) | (simp [hz.1];omega) | (simp [All]))
  · rw [show isGraphF v=false by rw [isGraphF,if_neg hz]]
    have hb:(bif !inB v.1 1 8 then true else decide ((v.2.1.1:Int)>24))=true:=by
      cases hi:inB v.1 1 8 with
      | false=>rfl
      | true =>
        have:¬ v.2.1.1≤24:=fun h=>hz ⟨hi,h⟩
        simp;omega
    refine pkD Tryz.func53 hc (p48z v) ?_
    and_intros
    all_goals (first | exact zH | (exact con_l1In _ _ _))
theorem con_IsGraph_i (v:T_Graph) (hs:smS s_Graph v):zE 62 [graphA v] [] (.p (.bool (isGraphF v))):=by
  refine csZ Tryz.func62 (fun c hc=>?_)
  have hn:v.2.1.1≤1048576:=hs.2.1.1
  by_cases hz:inB v.1 1 8=true∧v.2.1.1≤24
  · rw [show isGraphF v=goodB v.1 v.2.1.2 v.2.1.1 by rw [isGraphF,if_pos hz]]
    have lp:∀ m k,k+m=v.2.1.1→goodB v.1 v.2.1.2 k=true→zR c 62 zf94 (S51 v k) (Post c [] (.p (.bool (goodB v.1 v.2.1.2 v.2.1.1)))):=by
      intro m
      induction m with
      | zero =>
        intro k hk hg
        rw [show goodB v.1 v.2.1.2 v.2.1.1=true by rw [show v.2.1.1=k by omega];exact hg]
        have hd:decide ((k:Int)<(v.2.1.1:Int))=false:=by simp;omega
        refine pkZ Tryz.func62 hc (p51d v k) ?_
        and_intros
        all_goals (first | exact zN)
      | succ m ih =>
        intro k hk hg
        have hd:decide ((k:Int)<(v.2.1.1:Int))=true:=by simp;omega
        have hkn:k<v.2.1.1:=by omega
        cases he:badB v.1 v.2.1.2 k with
        | true =>
          rw [goodB_bad _ _ k he v.2.1.1 (by omega)]
          have he2:=he
          rw [badB,← cmpB_gt] at he2
          refine pkD Tryz.func62 hc (p51c v k) ?_
          and_intros
          all_goals (first | exact zH | (intros;exact con_compareBars _ _) | (exact he2) | (intro h;have:=idx_lt h hkn;omega))
        | false =>
          have he2:=he
          rw [badB,← cmpB_gt] at he2
          refine pcD hc (p51b v k) ?_ (ih (k+1) (by omega) (by simp [goodB,hg,he]))
          and_intros
          all_goals (first | exact zH | (intros;exact con_compareBars _ _) | (exact he2) | (intro h;have:=idx_lt h hkn;omega) | (simp [All]))
    refine pcD hc (p51a v) ?_ (lp v.2.1.1 0 (by omega) rfl)
    and_intros
    all_goals (first | exact zH | (exact con_within _ _ _) | (simp [hz.1];omega) | (simp [All]))
  · rw [show isGraphF v=false by rw [isGraphF,if_neg hz]]
    have hb:(bif !inB v.1 1 8 then true else decide ((v.2.1.1:Int)>24))=true:=by
      cases hi:inB v.1 1 8 with
      | false=>rfl
      | true =>
        have:¬ v.2.1.1≤24:=fun h=>hz ⟨hi,h⟩
        simp;omega
    refine pkD Tryz.func62 hc (p51z v) ?_
    and_intros
    all_goals (first | exact zH | (exact con_within _ _ _))
def SH (g:Nat→T_Bar) (nb N m:Nat) (F0 T0 F T Q:Nat→Int) (a b want:Int):St :=
  ⟨[grG g nb N,pebD N m F0 T0 Q,.p (.int .i64 a),.p (.int .i64 b),.p (.int .i64 want),.pt 2 0 0 0,.pt 3 1 0 0,.p .any,.p .any,.p .any,.pt 3 2 0 0,.p .any,.pt 3 3 0 0]++List.replicate 40 anyA,
   [(0,bxG g nb N),(1,bxD N m F0 T0 Q),(2,bx0),(3,bxP N m 4),(4,iOb N F),(5,iOb m T),(6,iOb m Q)],7⟩
def SNc (g:Nat→T_Bar) (nb N k:Nat):St :=
  ⟨[.p .any,.p (.int .i64 k),.pt 2 0 0 0,.p .any,.pt 3 1 0 0,.p .any,.pt 3 2 0 0]++List.replicate 27 anyA,
   [(0,bxG g nb N),(1,bx0),(2,⟨true,3,1,fun _=>[.ar 1 3 0 0,.ar 1 4 0 0,.ar 1 5 0 0]⟩),(3,iOb 0 (fun _=>k)),(4,iOb 0 (fun _=>0)),(5,iOb 0 (fun _=>0))],6⟩
def SN0 (g:Nat→T_Bar) (nb N k i:Nat):St :=
  ⟨[.p .any,.p (.int .i64 k),.pt 2 0 0 0,.p .any,.pt 3 1 0 0,.p .any,.pt 3 2 0 0,.p (.int .i64 i)]++List.replicate 26 anyA,
   [(0,bxG g nb N),(1,bx0),(2,⟨true,3,1,fun _=>[.ar 1 3 0 i,.ar 1 4 0 0,.ar 1 5 0 0]⟩),(3,iOb i (fun _=>k)),(4,iOb 0 (fun _=>0)),(5,iOb 0 (fun _=>0))],6⟩
def SR (g:Nat→T_Bar) (nb N m i:Nat) (F T Q:Nat→Int):St :=
  ⟨[grG g nb N,.pt 2 0 0 0,.p .any,.pt 3 1 0 0,.p .any,.p (.int .i64 m),.p (.int .i64 i)]++List.replicate 77 anyA,
   [(0,bxG g nb N),(1,bxP N m 2),(2,iOb N F),(3,iOb m T),(4,iOb m Q)],5⟩
theorem qHz (g:Nat→T_Bar) (nb N m:Nat) (F T Q:Nat→Int) (a b want:Int) :
    zT Tryz.f341 [rg 4,rm [(1,oc (pebR N m F T Q) (pebO N m 0))] 2,.head] [grG g nb N,pebD N m F T Q,.p (.int .i64 a),.p (.int .i64 b),.p (.int .i64 want)] [0,32,64,192,160,161,162] (SH g nb N m F T F T Q a b want) =
    some (zf95,zD [(NT 0 1),zE 340 [(zf75 N F m T Q)] (zf54 N F m T Q) (.agg [.ar 1 0 0 N,.ar 1 1 0 m,.ar 1 2 0 m]),((true=true)→ (AN 1)),(AI ((↑N:Int))),(AN nb),(AP nb (bRw g)),(AN N),(AP N (fun i=>[.int .i64 (F i)])),(AN m),(AP m (fun i=>[.int .i64 (T i)])),(AP m (fun i=>[.int .i64 (Q i)])),(AI a),(AI b),(AI want),(AN 0),((([AV.p (PV.int IntKind.i64 (↑N:Int)),brL g nb].length):Nat)=2),(NL 1 1),((([inD N F,inD m T,inD m Q].length):Nat)=3),((((List.map (fun v=>AV.p (absV v)) [Value.slice none 0 0,Value.slice none 0 0,Value.slice none 0 0]).length):Nat)=3),(AN 1),(NL N N),(AA N (fun i=>[.p (.int .i64 (F i))])),(NL m m),(AA m (fun i=>[.p (.int .i64 (T i))])),(AA m (fun i=>[.p (.int .i64 (Q i))]))] [0,1,0,2,3,4,5,6,7,8,9,8,10,11,12,13,14,14,14,14,15,16,16,3,4,5,17,16,16,6,7,8,9,8,10,18,16,16,18,16,16,14,6,14,8,14,8,19,20,21,19,22,23,19,22,24]):=by kernel_rfl
theorem qHa (g:Nat→T_Bar) (nb N m:Nat) (F0 T0 F T Q F1 T1:Nat→Int) (a b want:Int) :
    zM 0 [rg 13,.dec true,rm [(4,oq [4,5,6] (pebR3 N m F T Q F1 T1 Q) (.tup [pebO N m 3,.p (.bool true)]))] 6,rg 2,.dec false,rg 2,.dec false,rg 2,.head] zf95 (SH g nb N m F0 T0 F T Q a b want) [0,1,2,3,551,552,553] 1 (SH g nb N m F0 T0 F1 T1 Q a b want) =
    some (zf95,zD [(NT 0 1),(IL 0 a),(IT a (↑N:Int)),(NT a.toNat N),(IL 0 b),(IT b (↑N:Int)),(NT b.toNat N),(ZLo (F a.toNat+F b.toNat)),(ZHi (F a.toNat+F b.toNat)),((decide (F (a.toNat+0)+F (b.toNat+0)<want))=true),(AE N),(AE m),Con Tryz.prog 377 3 (zf54 N F m T Q) [(zf109 N nb g),.agg [.ar 1 0 0 N,.ar 1 1 0 m,.ar 1 2 0 m],.p (.int .i64 a),.p (.int .i64 b)] (zf25 N F m T Q F1 T1) (.tup [.agg [.ar 1 3 0 N,.ar 1 4 0 m,.ar 1 5 0 m],.p (.bool true)]),((true=true)→ (AN 1)),((!true)=false),(AI ((↑N:Int))),(AN nb),(AP nb (bRw g)),(AN N),(AP N (fun i=>[.int .i64 (F0 i)])),(AN m),(AP m (fun i=>[.int .i64 (T0 i)])),(AP m (fun i=>[.int .i64 (Q i)])),(AI a),(AI b),(AI want),(AN 0),(AN 2),(NL 1 1),(AN 3),(AN 1),(NL N N),(AA N (fun i=>[.p (.int .i64 (F1 i))])),(NL m m),(AA m (fun i=>[.p (.int .i64 (T1 i))])),(AA m (fun i=>[.p (.int .i64 (Q i))]))] [0,1,2,3,0,4,5,6,7,8,9,0,0,10,11,11,12,0,13,14,14,0,0,13,15,16,17,18,19,20,21,20,22,23,24,25,26,26,26,26,27,28,28,15,16,17,29,28,28,18,19,20,21,20,22,29,28,28,29,28,28,26,18,26,20,26,20,30,31,32,30,33,34,30,33,35]):=by kernel_rfl
theorem qHb (g:Nat→T_Bar) (nb N m:Nat) (F0 T0 F T Q F1 T1:Nat→Int) (a b want:Int) :
    zM 0 [rg 13,.dec true,rm [(4,oq [4,5,6] (pebR N m F T Q) (.tup [pebO N m 0,.p (.bool false)]))] 6,rg 2,.dec true,rm [(4,oq [4,5,6] (pebR3 N m F T Q F1 T1 Q) (.tup [pebO N m 3,.p (.bool true)]))] 5,rg 2,.dec false,rg 2,.head] zf95 (SH g nb N m F0 T0 F T Q a b want) [0,1,2,3,967,968,969] 1 (SH g nb N m F0 T0 F1 T1 Q a b want) =
    some (zf95,zD [(NT 0 1),(IL 0 a),(IT a (↑N:Int)),(NT a.toNat N),(IL 0 b),(IT b (↑N:Int)),(NT b.toNat N),(ZLo (F a.toNat+F b.toNat)),(ZHi (F a.toNat+F b.toNat)),((decide (F (a.toNat+0)+F (b.toNat+0)<want))=true),(AE N),(AE m),Con Tryz.prog 377 3 (zf54 N F m T Q) [(zf109 N nb g),.agg [.ar 1 0 0 N,.ar 1 1 0 m,.ar 1 2 0 m],.p (.int .i64 a),.p (.int .i64 b)] (zf54 N F m T Q) ((zf116 N m)),((true=true)→ (AN 1)),((!false)=true),Con Tryz.prog 377 3 (zf54 N F m T Q) [(zf109 N nb g),.agg [.ar 1 0 0 N,.ar 1 1 0 m,.ar 1 2 0 m],.p (.int .i64 b),.p (.int .i64 a)] (zf25 N F m T Q F1 T1) (.tup [.agg [.ar 1 3 0 N,.ar 1 4 0 m,.ar 1 5 0 m],.p (.bool true)]),((!true)=false),(AI ((↑N:Int))),(AN nb),(AP nb (bRw g)),(AN N),(AP N (fun i=>[.int .i64 (F0 i)])),(AN m),(AP m (fun i=>[.int .i64 (T0 i)])),(AP m (fun i=>[.int .i64 (Q i)])),(AI a),(AI b),(AI want),(AN 0),(AN 2),(NL 1 1),(AN 3),(AN 1),(NL N N),(AA N (fun i=>[.p (.int .i64 (F1 i))])),(NL m m),(AA m (fun i=>[.p (.int .i64 (T1 i))])),(AA m (fun i=>[.p (.int .i64 (Q i))]))] [0,1,2,3,0,4,5,6,7,8,9,0,0,10,11,11,12,0,13,14,0,0,10,11,11,15,0,13,16,0,0,13,17,18,19,20,21,22,23,22,24,25,26,27,28,28,28,28,29,30,30,17,18,19,31,30,30,20,21,22,23,22,24,31,30,30,31,30,30,28,20,28,22,28,22,32,33,34,32,35,36,32,35,37]):=by kernel_rfl
theorem qHc (g:Nat→T_Bar) (nb N m:Nat) (F0 T0 F T Q:Nat→Int) (a b want:Int) :
    zP Tryz.f341 0 [rg 13,.dec true,rm [(4,oq [4,5,6] (pebR N m F T Q) (.tup [pebO N m 0,.p (.bool false)]))] 6,rg 2,.dec true,rm [(4,oq [4,5,6] (pebR N m F T Q) (.tup [pebO N m 0,.p (.bool false)]))] 5,rg 2,.dec true,rg 3] zf95 (SH g nb N m F0 T0 F T Q a b want) [4,5,6] 1 (pebR N m F T Q) (.tup [pebO N m 0,.p (.bool false)]) =
    some (zD [(NT 0 1),(IL 0 a),(IT a (↑N:Int)),(NT a.toNat N),(IL 0 b),(IT b (↑N:Int)),(NT b.toNat N),(ZLo (F a.toNat+F b.toNat)),(ZHi (F a.toNat+F b.toNat)),((decide (F (a.toNat+0)+F (b.toNat+0)<want))=true),(AE N),(AE m),Con Tryz.prog 377 3 (zf54 N F m T Q) [(zf109 N nb g),.agg [.ar 1 0 0 N,.ar 1 1 0 m,.ar 1 2 0 m],.p (.int .i64 a),.p (.int .i64 b)] (zf54 N F m T Q) ((zf116 N m)),((true=true)→ (AN 1)),((!false)=true),Con Tryz.prog 377 3 (zf54 N F m T Q) [(zf109 N nb g),.agg [.ar 1 0 0 N,.ar 1 1 0 m,.ar 1 2 0 m],.p (.int .i64 b),.p (.int .i64 a)] (zf54 N F m T Q) ((zf116 N m)),(AN 0),(AN N),(AN m),(false=false),(AN 1),(NL N N),(AA N (fun i=>[.p (.int .i64 (F i))])),(NL m m),(AA m (fun i=>[.p (.int .i64 (T i))])),(AA m (fun i=>[.p (.int .i64 (Q i))]))] [0,1,2,3,0,4,5,6,7,8,9,0,0,10,11,11,12,0,13,14,0,0,10,11,11,15,0,13,14,0,0,13,0,16,17,16,18,16,18,19,20,21,22,20,23,24,20,23,25,10,11,11]):=by kernel_rfl
theorem qHd (g:Nat→T_Bar) (nb N m:Nat) (F0 T0 F T Q:Nat→Int) (a b want:Int) :
    zP Tryz.f341 0 [rg 13,.dec false,rg 3] zf95 (SH g nb N m F0 T0 F T Q a b want) [4,5,6] 1 (pebR N m F T Q) (.tup [pebO N m 0,.p (.bool true)]) =
    some [(NT 0 1),(IL 0 a),(IT a (↑N:Int)),(NT a.toNat N),(NT 0 1),(IL 0 b),(IT b (↑N:Int)),(NT b.toNat N),(ZLo (F a.toNat+F b.toNat)),(ZHi (F a.toNat+F b.toNat)),((decide (F (a.toNat+0)+F (b.toNat+0)<want))=false),(NT 0 1),(NT 0 1),((true=true)→ (AN 1)),(NT 0 1),(AN 0),(AN N),(AN 0),(AN m),(AN 0),(AN m),(true=true),(AN 1),(NL N N),(AA N (fun i=>[.p (.int .i64 (F i))])),(AN 1),(NL m m),(AA m (fun i=>[.p (.int .i64 (T i))])),(AN 1),(NL m m),(AA m (fun i=>[.p (.int .i64 (Q i))])),(AE N),(AE m),(AE m)]:=by kernel_rfl
theorem qNz (g:Nat→T_Bar) (N k:Nat) :
    zT Tryz.f280 [rg 3,rg 6,.head] [.agg [.p (.int .i64 N),.p .nil],.p (.int .i64 k)] [0,32,224,96,128,160] (SNc g 0 N k) =
    some (zf102,zD [(NT 0 1),((true=true)→ (AN 1)),(AI ((↑k:Int))),(AN 0),((([AV.p (PV.int IntKind.i64 (↑N:Int)),AV.p PV.nil].length):Nat)=2),(NL 1 1),(AI ((↑N:Int))),((((List.map (fun v=>AV.p (absV v)) [Value.slice none 0 0,Value.slice none 0 0,Value.slice none 0 0]).length):Nat)=3),(AN 1),(NL 0 0),(∀ i:Nat,(((i:Nat)<0)→(All []∧(([.p (.int .i64 0)]:List AV)=[.p (.int .i64 (↑k:Int))])))),(AA 0 (fun i=>[.p (.int .i64 0)]))] [0,1,2,3,3,3,4,5,5,6,3,7,5,5,7,5,5,3,3,3,3,3,3,8,9,10,8,9,11,8,9,11]):=by kernel_rfl
theorem qNa (g:Nat→T_Bar) (nb N k:Nat) :
    zM 0 [rm [(1,oc [] (.p (.bool true))),(3,oc [] (.p (.bool true)))] 2,.dec false,rg 1,.head] zf102 (SNc g nb N k) [0,1,2,3,4,5] 1 (SN0 g nb N k 0) =
    some (zf61,zD [(NT 0 1),zE 53 [(zf109 N nb g)] [] (.p (.bool true)),(AG (!!true)),(((!!true)=true)→ zE 167 [.p (.int .i64 (↑k:Int)),.p (.int .i64 1),.p (.int .i64 3)] [] (.p (.bool true))),(((!true)=false)→ ((!!true)=true)),((bif !true then true else !true)=false),(AI ((↑k:Int))),(AN 0),((0:Int)=(↑0:Int)),(AN 2),(NL 1 1),(AI ((↑N:Int))),(AN nb),(AP nb (bRw g)),(AN 3),(AN 1),(NL 0 0),(AA 0 (fun i=>[.p (.int .i64 (↑k:Int))])),(AA 0 (fun i=>[.p (.int .i64 0)]))] [0,1,2,3,2,4,5,6,7,7,7,8,9,10,10,11,12,13,14,10,10,14,10,10,7,7,7,7,7,7,15,16,17,15,16,18,15,16,18]):=by kernel_rfl
theorem qNl (g:Nat→T_Bar) (nb N k i:Nat) :
    zM 0 [rg 4,.dec true,rg 7,rg 3,.head] zf61 (SN0 g nb N k i) [0,1,2,262,4,5] 1 (SN0 g nb N k (i+1)) =
    some (zf61,zD [(NT 0 1),((decide ((↑i:Int)<(↑N:Int)))=true),(NL 1 1),(NL i i),(NL ((i+1)*8) 140737488355328),(NL (i+1) 9223372036854775807),((true=true)→ (AN 1)),(ZLo ((↑i:Int)+1)),(ZHi ((↑i:Int)+1)),(AI ((↑k:Int))),(AN 0),((((↑i:Int)+1):Int)=(↑(i+1):Int)),(AN 2),(AI ((↑N:Int))),(AN nb),(AP nb (bRw g)),(AN 3),(AN ((i+1))),(AN 1),(NL (i+1) (i+1)),(CV [(2,⟨true,3,1,(fun i_2=>[.ar 1 262 0 (i+1),.ar 1 4 0 0,.ar 1 5 0 0])⟩),(262,⟨false,1,(i+1),(fun i_2=>(if (i_2<i) then [.p (.int .i64 (↑k:Int))] else [.p (.int .i64 (↑k:Int))]))⟩),(230,⟨false,1,1,(fun i_2=>[.p (.int .i64 (↑k:Int))])⟩),(0,⟨true,2,1,(fun i_2=>[.p (.int .i64 (↑N:Int)),.p (.seq true 2 nb (bRw g))])⟩),(1,⟨true,3,1,(fun i_2=>[.p (.nil),.p (.nil),.p (.nil)])⟩),(4,⟨false,1,0,(fun i_2=>[.p (.int .i64 0)])⟩),(5,⟨false,1,0,(fun i_2=>[.p (.int .i64 0)])⟩)] [0,1,2,262,4,5] 1 (i+1) (fun i_1=>if (i_1<i) then [.p (.int .i64 (↑k:Int))] else [.p (.int .i64 (↑k:Int))]) (fun i_1=>[.p (.int .i64 (↑k:Int))])),(NL 0 0),(AA 0 (fun i_1=>[.p (.int .i64 0)]))] [0,1,0,2,3,4,5,0,6,7,8,9,10,10,10,11,12,2,2,13,14,15,16,2,2,16,2,2,10,17,10,10,10,10,18,19,20,18,21,22,18,21,22]):=by kernel_rfl
theorem qNe (g:Nat→T_Bar) (nb N k i:Nat) :
    zP Tryz.f280 0 [rg 4,.dec false,rg 3] zf61 (SN0 g nb N k i) [3,4,5] 1 (pebR i 0 (fun _=>k) (fun _=>0) (fun _=>0)) (.tup [pebO i 0 0,.p (.bool true)]) =
    some (zD [(NT 0 1),((decide ((↑i:Int)<(↑N:Int)))=false),((true=true)→ (AN 1)),(AN 0),(AN i),(true=true),(AN 1),(NL i i),(AA i (fun i_1=>[.p (.int .i64 (↑k:Int))])),(NL 0 0),(AA 0 (fun i_1=>[.p (.int .i64 0)])),(AE i),(AE 0)] [0,1,0,0,2,0,3,4,3,3,3,3,5,6,7,8,6,9,10,6,9,10,11,12,12]):=by kernel_rfl
theorem qRz (g:Nat→T_Bar) (nb N:Nat) :
    zT Tryz.f342 [rg 2,rm [(3,oc (pebR N 0 (fun _=>((2:Nat):Int)) (fun _=>0) (fun _=>0)) (.tup [pebO N 0 0,.p (.bool true)]))] 6,rg 1,rg 1,.head] [grG g nb N] [0,288,160,161,162] (SR g nb N 0 0 (fun _=>((2:Nat):Int)) (fun _=>0) (fun _=>0)) =
    some (zf62,zD [(NT 0 1),zE 280 [.agg [.p (.int .i64 (↑N:Int)),.p (.nil)],.p (.int .i64 2)] [(0,⟨false,1,N,(fun i=>[.p (.int .i64 2)])⟩),(1,⟨false,1,0,(fun i=>[.p (.int .i64 0)])⟩),(2,⟨false,1,0,(fun i=>[.p (.int .i64 0)])⟩)] (.tup [.agg [.ar 1 0 0 N,.ar 1 1 0 0,.ar 1 2 0 0],.p (.bool true)]),((true=true)→ (AN 1)),(AI ((↑N:Int))),(AN nb),(AP nb (bRw g)),(AN 0),((0:Int)=(↑0:Int)),((([AV.p (PV.int IntKind.i64 (↑N:Int)),brL g nb].length):Nat)=2),(NL 1 1),((((List.map (fun v=>AV.p (absV v)) [Value.slice none 0 0,Value.slice none 0 0,Value.slice none 0 0]).length):Nat)=3),(AN N),(AN 1),(NL N N),(AA N (fun i=>[.p (.int .i64 2)])),(NL 0 0),(AA 0 (fun i=>[.p (.int .i64 0)]))] [0,1,0,2,3,4,5,6,6,7,7,8,9,9,3,4,5,10,9,9,6,11,6,6,6,6,12,13,14,12,15,16,12,15,16]):=by kernel_rfl
theorem qRa (g:Nat→T_Bar) (nb N m i:Nat) (F T Q F1 T1:Nat→Int) :
    zM 0 [rg 5,.dec true,rm [(14,oc (pebR N m F1 T1 Q) (.tup [pebO N m 0,.p (.bool true)]))] 6,rg 2,.dec false,rg 21,rg 12,rg 7,rg 2,rg 3,rg 3,.head] zf62 (SR g nb N m i F T Q) [0,1,613,1861,2085] 1 (SR g nb N (m+1) (i+1) (fun s=>if s=(g i).1.toNat then F1 s - 1 else F1 s) (fun s=>if s<m then T1 s else (g i).1) (fun s=>if s<m then Q s else i)) =
    some (zf62,zD [(NT 0 1),((decide ((↑i:Int)<(↑nb:Int)))=true),(IL 0 (↑i:Int)),(IT (↑i:Int) (↑nb:Int)),(AN 1),(NL N N),(NL m m),zE 341 [.agg [.p (.int .i64 (↑N:Int)),.p (.seq true 2 nb (bRw g))],.agg [.p (.seq true 1 N (fun i_1=>[.int .i64 (F i_1)])),.p (.seq true 1 m (fun i_1=>[.int .i64 (T i_1)])),.p (.seq true 1 m (fun i_1=>[.int .i64 (Q i_1)]))],.p (.int .i64 ((g i).1)),.p (.int .i64 ((g i).2.1)),.p (.int .i64 4)] (zf40 N F1 m T1 Q) (.tup [.agg [.ar 1 0 0 N,.ar 1 1 0 m,.ar 1 2 0 m],.p (.bool true)]),((true=true)→ (AN 1)),((!true)=false),(IL 0 ((g i).1)),(IT ((g i).1) (↑N:Int)),(NT ((g i).1.toNat) N),(ZLo (F1 (g i).1.toNat - 1)),(ZHi (F1 (g i).1.toNat - 1)),((false=true)→ ((N:Nat)=1)),(NL 1 1),(NL ((m+1)*8) 140737488355328),(NL (m+1) 9223372036854775807),(ZLo ((↑m:Int)+1)),(ZHi ((↑m:Int)+1)),(ZLo ((↑i:Int)+1)),(ZHi ((↑i:Int)+1)),(AI ((↑N:Int))),(AN nb),(AP nb (bRw g)),(AN 0),((((↑m:Int)+1):Int)=(↑(m+1):Int)),((((↑i:Int)+1):Int)=(↑(i+1):Int)),(AN 2),(AN 3),(AN N),(AN ((m+1))),(CV [(1,⟨true,3,1,(fun i_2=>[.ar 1 613 0 N,.ar 1 1861 0 (m+1),.ar 1 2085 0 (m+1)])⟩),(741,⟨true,3,1,(fun i_2=>[.ar 1 613 0 N,.ar 1 1861 0 (m+1),.ar 1 2085 0 (m+1)])⟩),(2085,⟨false,1,(m+1),(fun i_2=>(if (i_2<m) then [.p (.int .i64 (Q i_2))] else [.p (.int .i64 (↑i:Int))]))⟩),(2053,⟨false,1,1,(fun i_2=>[.p (.int .i64 (↑i:Int))])⟩),(1861,⟨false,1,(m+1),(fun i_2=>(if (i_2<m) then [.p (.int .i64 (T1 i_2))] else [.p (.int .i64 ((g i).1))]))⟩),(1829,⟨false,1,1,(fun i_2=>[.p (.int .i64 ((g i).1))])⟩),(613,⟨false,1,N,(fun i_2=>(if (i_2=(g i).1.toNat) then [.p (.int .i64 (F1 (g i).1.toNat - 1))] else [.p (.int .i64 (F1 i_2))]))⟩),(0,⟨true,2,1,(fun i_2=>[.p (.int .i64 (↑N:Int)),.p (.seq true 2 nb (bRw g))])⟩),(2,⟨false,1,N,(fun i_2=>[.p (.int .i64 (F i_2))])⟩),(3,⟨false,1,m,(fun i_2=>[.p (.int .i64 (T i_2))])⟩),(4,⟨false,1,m,(fun i_2=>[.p (.int .i64 (Q i_2))])⟩)] [0,1,613,1861,2085] 1 N (fun i_1=>if (i_1=(g i).1.toNat) then [.p (.int .i64 (F1 (g i).1.toNat - 1))] else [.p (.int .i64 (F1 i_1))]) (fun i_1=>[.p (.int .i64 (if i_1=(g i).1.toNat then F1 i_1 - 1 else F1 i_1))])),(NL (m+1) (m+1)),(CV [(1,⟨true,3,1,(fun i_2=>[.ar 1 613 0 N,.ar 1 1861 0 (m+1),.ar 1 2085 0 (m+1)])⟩),(741,⟨true,3,1,(fun i_2=>[.ar 1 613 0 N,.ar 1 1861 0 (m+1),.ar 1 2085 0 (m+1)])⟩),(2085,⟨false,1,(m+1),(fun i_2=>(if (i_2<m) then [.p (.int .i64 (Q i_2))] else [.p (.int .i64 (↑i:Int))]))⟩),(2053,⟨false,1,1,(fun i_2=>[.p (.int .i64 (↑i:Int))])⟩),(1861,⟨false,1,(m+1),(fun i_2=>(if (i_2<m) then [.p (.int .i64 (T1 i_2))] else [.p (.int .i64 ((g i).1))]))⟩),(1829,⟨false,1,1,(fun i_2=>[.p (.int .i64 ((g i).1))])⟩),(613,⟨false,1,N,(fun i_2=>(if (i_2=(g i).1.toNat) then [.p (.int .i64 (F1 (g i).1.toNat - 1))] else [.p (.int .i64 (F1 i_2))]))⟩),(0,⟨true,2,1,(fun i_2=>[.p (.int .i64 (↑N:Int)),.p (.seq true 2 nb (bRw g))])⟩),(2,⟨false,1,N,(fun i_2=>[.p (.int .i64 (F i_2))])⟩),(3,⟨false,1,m,(fun i_2=>[.p (.int .i64 (T i_2))])⟩),(4,⟨false,1,m,(fun i_2=>[.p (.int .i64 (Q i_2))])⟩)] [0,1,613,1861,2085] 1 (m+1) (fun i_1=>if (i_1<m) then [.p (.int .i64 (T1 i_1))] else [.p (.int .i64 ((g i).1))]) (fun i_1=>[.p (.int .i64 (if i_1<m then T1 i_1 else (g i).1))])),(CV [(1,⟨true,3,1,(fun i_2=>[.ar 1 613 0 N,.ar 1 1861 0 (m+1),.ar 1 2085 0 (m+1)])⟩),(741,⟨true,3,1,(fun i_2=>[.ar 1 613 0 N,.ar 1 1861 0 (m+1),.ar 1 2085 0 (m+1)])⟩),(2085,⟨false,1,(m+1),(fun i_2=>(if (i_2<m) then [.p (.int .i64 (Q i_2))] else [.p (.int .i64 (↑i:Int))]))⟩),(2053,⟨false,1,1,(fun i_2=>[.p (.int .i64 (↑i:Int))])⟩),(1861,⟨false,1,(m+1),(fun i_2=>(if (i_2<m) then [.p (.int .i64 (T1 i_2))] else [.p (.int .i64 ((g i).1))]))⟩),(1829,⟨false,1,1,(fun i_2=>[.p (.int .i64 ((g i).1))])⟩),(613,⟨false,1,N,(fun i_2=>(if (i_2=(g i).1.toNat) then [.p (.int .i64 (F1 (g i).1.toNat - 1))] else [.p (.int .i64 (F1 i_2))]))⟩),(0,⟨true,2,1,(fun i_2=>[.p (.int .i64 (↑N:Int)),.p (.seq true 2 nb (bRw g))])⟩),(2,⟨false,1,N,(fun i_2=>[.p (.int .i64 (F i_2))])⟩),(3,⟨false,1,m,(fun i_2=>[.p (.int .i64 (T i_2))])⟩),(4,⟨false,1,m,(fun i_2=>[.p (.int .i64 (Q i_2))])⟩)] [0,1,613,1861,2085] 1 (m+1) (fun i_1=>if (i_1<m) then [.p (.int .i64 (Q i_1))] else [.p (.int .i64 (↑i:Int))]) (fun i_1=>[.p (.int .i64 (if i_1<m then Q i_1 else (↑i:Int)))]))] [0,1,0,0,0,2,3,0,2,3,4,5,4,6,4,6,7,0,8,9,0,0,2,3,0,0,2,3,10,11,12,13,14,10,11,12,15,0,0,2,3,16,6,17,18,0,8,0,16,6,17,18,0,8,0,0,8,19,20,21,22,23,24,25,26,26,27,28,29,16,16,23,24,25,30,16,16,26,31,26,32,26,32,4,5,33,4,34,35,4,34,36]):=by kernel_rfl
theorem qRb (g:Nat→T_Bar) (nb N m i:Nat) (F T Q F1 T1:Nat→Int) :
    zM 0 [rg 5,.dec true,rm [(14,oc (pebR N m F1 T1 Q) (.tup [pebO N m 0,.p (.bool false)]))] 6,rg 2,.dec true,rg 3,.head] zf62 (SR g nb N m i F T Q) [0,1,2,3,4] 1 (SR g nb N m (i+1) F T Q) =
    some (zf62,zD [(NT 0 1),((decide ((↑i:Int)<(↑nb:Int)))=true),(IL 0 (↑i:Int)),(IT (↑i:Int) (↑nb:Int)),(AN 1),(NL N N),(NL m m),zE 341 [.agg [.p (.int .i64 (↑N:Int)),.p (.seq true 2 nb (bRw g))],.agg [.p (.seq true 1 N (fun i_1=>[.int .i64 (F i_1)])),.p (.seq true 1 m (fun i_1=>[.int .i64 (T i_1)])),.p (.seq true 1 m (fun i_1=>[.int .i64 (Q i_1)]))],.p (.int .i64 ((g i).1)),.p (.int .i64 ((g i).2.1)),.p (.int .i64 4)] (zf40 N F1 m T1 Q) ((zf116 N m)),((true=true)→ (AN 1)),((!false)=true),(ZLo ((↑i:Int)+1)),(ZHi ((↑i:Int)+1)),(AI ((↑N:Int))),(AN nb),(AP nb (bRw g)),(AN 0),(AI ((↑m:Int))),((((↑i:Int)+1):Int)=(↑(i+1):Int)),(AN 2),(NL 1 1),(AN 3),(AN N),(AN m),(AA N (fun i_1=>[.p (.int .i64 (F i_1))])),(AA m (fun i_1=>[.p (.int .i64 (T i_1))])),(AA m (fun i_1=>[.p (.int .i64 (Q i_1))]))] [0,1,0,0,0,2,3,0,2,3,4,5,4,6,4,6,7,0,8,9,10,11,12,13,14,15,15,16,17,18,19,19,12,13,14,20,19,19,15,21,15,22,15,22,4,5,23,4,6,24,4,6,25]):=by kernel_rfl
theorem qRe (g:Nat→T_Bar) (nb N m i:Nat) (F T Q:Nat→Int) :
    zP Tryz.f342 0 [rg 5,.dec false,rg 2] zf62 (SR g nb N m i F T Q) [] 1 [] (.p (.int .i64 m)) =
    some [(NT 0 1),((decide ((↑i:Int)<(↑nb:Int)))=false),(AI ((↑m:Int)))]:=by kernel_rfl
theorem con_l4Gather {N k nb m l:Nat} {g:Nat→T_Bar} {F0 T0 Q:Nat→Int} {a b:Int} (hp0:PInv N k nb m g F0 T0 Q) (hk:k≤1048576) (hN:N≤1048576) (hm:m≤1048576) (hnb:nb≤1048576)
    (ha:0≤a∧a<N) (hb:0≤b∧b<N) (hab:a≠b):∃ F' T' r,zE 341 [grG g nb N,pebD N m F0 T0 Q,.p (.int .i64 a),.p (.int .i64 b),.p (.int .i64 ((l:Int)+1))] (pebR N m F' T' Q) (.tup [pebO N m 0,.p (.bool r)]) ∧
      PInv N k nb m g F' T' Q∧(r=true→(l:Int)+1≤F' a.toNat+F' b.toNat)∧(r=false→¬ Mat.Sparse N k l (plL g Q m++[(a.toNat,b.toNat)])):=by
  have lp:∀ d F T,PInv N k nb m g F T Q→(l:Int)+1≤F a.toNat+F b.toNat+(d:Nat)→∃ F' T' r,(∀ c,c.n=0→zR c 341 zf95 (SH g nb N m F0 T0 F T Q a b ((l:Int)+1)) (Post c (pebR N m F' T' Q) (.tup [pebO N m 0,.p (.bool r)]))) ∧
      PInv N k nb m g F' T' Q∧(r=true→(l:Int)+1≤F' a.toNat+F' b.toNat)∧(r=false→¬ Mat.Sparse N k l (plL g Q m++[(a.toNat,b.toNat)])):=by
    intro d
    induction d with
    | zero =>
      intro F T hp hw
      have hd:decide (F a.toNat+F b.toNat<(l:Int)+1)=false:=by simp;omega
      have l1:=hp.le (v:=a.toNat) (by omega)
      have l2:=hp.le (v:=b.toNat) (by omega)
      refine ⟨F,T,true,fun c hc=>?_,hp,(fun _=>by omega),(fun h=>by cases h)⟩
      refine pkZ Tryz.func341 hc (qHd g nb N m F0 T0 F T Q a b ((l:Int)+1)) ?_
      and_intros
      all_goals (first | exact zI | (exact hd) | (intro i hi;simp [All]))
    | succ d ih =>
      intro F T hp hw
      have l1:=hp.le (v:=a.toNat) (by omega)
      have l2:=hp.le (v:=b.toNat) (by omega)
      by_cases hs:F a.toNat+F b.toNat<(l:Int)+1
      · have hd:decide (F a.toNat+F b.toNat<(l:Int)+1)=true:=by simp;omega
        obtain ⟨H1,r1,hc1,hf1⟩:=con_l4Find hp hk hN hm hnb ha hb hab
        cases hf1 with
        | yes F1 T1 hm1 =>
          obtain ⟨y1,y2⟩:=hm1.yes rfl
          obtain ⟨F',T',r,hrun,h1,h2,h3⟩:=ih F1 T1 hm1.inv (by omega)
          refine ⟨F',T',r,fun c hc=>?_,h1,h2,h3⟩
          refine pcD hc (qHa g nb N m F0 T0 F T Q F1 T1 a b ((l:Int)+1)) ?_ (hrun c hc)
          and_intros
          all_goals (first | exact zI | (exact hd) | (exact hc1) | (intro i hi;simp [All]))
        | no hm1 =>
          obtain ⟨H2,r2,hc2,hf2⟩:=con_l4Find hp hk hN hm hnb hb ha (Ne.symm hab)
          cases hf2 with
          | yes F2 T2 hm2 =>
            obtain ⟨y1,y2⟩:=hm2.yes rfl
            obtain ⟨F',T',r,hrun,h1,h2,h3⟩:=ih F2 T2 hm2.inv (by omega)
            refine ⟨F',T',r,fun c hc=>?_,h1,h2,h3⟩
            refine pcD hc (qHb g nb N m F0 T0 F T Q F2 T2 a b ((l:Int)+1)) ?_ (hrun c hc)
            and_intros
            all_goals (first | exact zI | (exact hd) | (exact hc1) | (exact hc2) | (intro i hi;simp [All]))
          | no hm2 =>
            refine ⟨F,T,false,fun c hc=>?_,hp,(fun h=>by cases h),fun _=>gather_no hp ha hb hab (by omega) hm1 hm2⟩
            refine pkD Tryz.func341 hc (qHc g nb N m F0 T0 F T Q a b ((l:Int)+1)) ?_
            and_intros
            all_goals (first | exact zI | (exact hd) | (exact hc1) | (exact hc2) | (intro i hi;simp [All]))
      · have hd:decide (F a.toNat+F b.toNat<(l:Int)+1)=false:=by simp;omega
        refine ⟨F,T,true,fun c hc=>?_,hp,(fun _=>by omega),(fun h=>by cases h)⟩
        refine pkZ Tryz.func341 hc (qHd g nb N m F0 T0 F T Q a b ((l:Int)+1)) ?_
        and_intros
        all_goals (first | exact zI | (exact hd) | (intro i hi;simp [All]))
  have l1:=hp0.le (v:=a.toNat) (by omega)
  have l2:=hp0.le (v:=b.toNat) (by omega)
  obtain ⟨F',T',r,hrun,h⟩:=lp (l+1) F0 T0 hp0 (by omega)
  refine ⟨F',T',r,?_,h⟩
  have hcc:=con_l4Copy N m F0 T0 Q hN hm
  refine csZ Tryz.func341 (fun c hc=>?_)
  refine pcD hc (qHz g nb N m F0 T0 Q a b ((l:Int)+1)) ?_ (hrun c hc)
  and_intros
  all_goals (first | exact zI | (exact hcc) | (intro i hi;simp [All]))
theorem run_new {g:Nat→T_Bar} {nb N k:Nat} (hN:N≤1048576) (hk:1≤k∧k≤3) (hg:isGraphF ((N:Int),(nb,g),())=true) (hnb:nb≤1048576) (c:Cx) (hc:c.n=0) {items:List Item} (hit:items=zf102) :
    zR c 280 items (SNc g nb N k) (Post c (pebR N 0 (fun _=>k) (fun _=>0) (fun _=>0)) (.tup [pebO N 0 0,.p (.bool true)])):=by
  subst hit
  have hsm:smS s_Graph ((N:Int),(nb,g),()):=⟨by simp [smS,smL],⟨hnb,fun i hi=>by simp [smS,smL]⟩,True.intro⟩
  have hcg:=con_IsGraph_s ((N:Int),(nb,g),()) hsm
  rw [hg] at hcg
  have hci:=con_l1In k 1 3
  rw [show inB k 1 3=true by simp [inB];omega] at hci
  have lp0:∀ d i,i+d=N→zR c 280 zf61 (SN0 g nb N k i) (Post c (pebR N 0 (fun _=>k) (fun _=>0) (fun _=>0)) (.tup [pebO N 0 0,.p (.bool true)])):=by
    intro d
    induction d with
    | zero =>
      intro i hi
      obtain rfl:i=N:=by omega
      have hd:decide ((i:Int)<(i:Int))=false:=by simp
      refine pkD Tryz.func280 hc (qNe g nb i k i) ?_
      and_intros
      all_goals (first | exact zI | (intro i hi;simp [All]))
    | succ d ih =>
      intro i hi
      have hd:decide ((i:Int)<(N:Int))=true:=by simp;omega
      refine pcD hc (qNl g nb N k i) ?_ (ih (i+1) (by omega))
      and_intros
      all_goals (first | exact zI | (intro j hj;simp [All];done) | (intro j hj;by_cases h:j<i<;>simp [h,cvtL,cvt,tg,tru,All]))
  refine pcD hc (qNa g nb N k) ?_ (lp0 N 0 (by omega))
  and_intros
  all_goals (first | exact zH | (exact hcg) | (intros;exact hci) | (intro i hi;simp [All]))
theorem con_NewPebbles0 {N k:Nat} (hN:1≤N∧N≤8) (hk:1≤k∧k≤3):zE 280 [.agg [.p (.int .i64 N),.p .nil],.p (.int .i64 k)] (pebR N 0 (fun _=>k) (fun _=>0) (fun _=>0)) (.tup [pebO N 0 0,.p (.bool true)]):=by
  refine csZ Tryz.func280 (fun c hc=>?_)
  have hg:isGraphF ((N:Int),(0,fun _=>((0:Int),(0:Int),())),())=true:=by
    have:inB N 1 8=true:=by simp [inB];omega
    simp [isGraphF,this,goodB]
  refine pcD hc (qNz (fun _=>(0,0,())) N k) ?_ (run_new (g:=fun _=>(0,0,())) (by omega) hk hg (by omega) c hc rfl)
  and_intros
  iterate 2 all_goals (first | exact zI | (intro i hi;simp [All]) | simp only [All])
theorem con_l6Rank {N nb:Nat} {g:Nat→T_Bar} (hb:∀ e,e<nb→0≤(g e).1∧(g e).1<(g e).2.1∧(g e).2.1<N) (hN:1≤N∧N≤8) (hnb:nb≤1048576) :
    zE 342 [grG g nb N] [] (.p (.int .i64 ((accI N 2 3 g nb).length:Nat))):=by
  refine csZ Tryz.func342 (fun c hc=>?_)
  have lp:∀ d i m F T Q,i+d=nb→PInv N 2 nb m g F T Q→qL Q m=accI N 2 3 g i →
      zR c 342 zf62 (SR g nb N m i F T Q) (Post c [] (.p (.int .i64 ((accI N 2 3 g nb).length:Nat)))):=by
    intro d
    induction d with
    | zero =>
      intro i m F T Q hi hp hq
      obtain rfl:i=nb:=by omega
      have hd:decide ((i:Int)<(i:Int))=false:=by simp
      rw [← hq,qL_length]
      refine pkZ Tryz.func342 hc (qRe g i N m i F T Q) ?_
      and_intros
      all_goals (first | exact zN | (intro i hi;simp [All]))
    | succ d ih =>
      intro i m F T Q hi hp hq
      have hd:decide ((i:Int)<(nb:Int))=true:=by simp;omega
      have hm:m≤1048576:=by
        have:=accI_len N 2 3 g i
        rw [← hq,qL_length] at this
        omega
      have hsp:Mat.Sparse N 2 3 (plL g Q m):=by rw [plL_qL,hq];exact accI_sparse N 2 3 g i
      have hbar:=hb i (by omega)
      obtain ⟨F1,T1,r,hc1,h1,h2,h3⟩:=con_l4Gather (l:=3) (a:=(g i).1) (b:=(g i).2.1) hp (by omega) (by omega) hm hnb (by omega) (by omega) (by omega)
      have hlA:=h1.le (v:=(g i).1.toNat) (by omega)
      have hlB:=h1.le (v:=(g i).2.1.toNat) (by omega)
      cases r with
      | false =>
        have hrej:¬ Mat.Sparse N 2 3 (plL g Q m++[brN (g i)]):=h3 rfl
        refine pcD hc (qRb g nb N m i F T Q F1 T1) ?_ (ih (i+1) m F T Q (by omega) hp (by
          simp only [accI]
          rw [← hq,← plL_qL,if_neg hrej]))
        and_intros
        all_goals (first | exact zI | (exact hc1) | (intro i hi;simp [All]))
      | true =>
        have hw:=h2 rfl
        have hacc:Mat.Sparse N 2 3 (plL g Q m++[brN (g i)]):=by
          have:=(h1.game 3).accept (by rw [barsOf_gm];exact hsp) (g i).1.toNat (g i).2.1.toNat ⟨by show (g i).1.toNat≠(g i).2.1.toNat;omega,by show (g i).1.toNat<N;omega,by show (g i).2.1.toNat<N;omega⟩
            (by show 3+1≤(F1 (g i).1.toNat).toNat+(F1 (g i).2.1.toNat).toNat;omega)
          rw [barsOf_gm] at this
          exact this
        refine pcD hc (qRa g nb N m i F T Q F1 T1) ?_ (ih (i+1) (m+1) _ _ _ (by omega) (h1.placed i (by omega) (g i).1 (.inl rfl) (by omega)) (by
          simp only [accI]
          rw [← hq,← plL_qL,if_pos hacc]
          simp only [qL,Nat.lt_irrefl,if_false,Int.toNat_natCast]
          rw [qL_congr (Q':=Q) m (fun j hj=>by simp only [hj,if_true])]))
        and_intros
        all_goals (first | exact zI | (exact hc1) | (intro i hi;simp [All];done) | (intro j hj;by_cases h:j<m<;>simp [h,cvtL,cvt,tg,tru,All];done) | (intro j hj;by_cases h:j=(g i).1.toNat<;>simp [h,cvtL,cvt,tg,tru,All]))
  have hn:=con_NewPebbles0 (k:=2) hN (by omega)
  refine pcD hc (qRz g nb N) ?_ (lp nb 0 0 _ _ _ (by omega) (PInv.start hb) rfl)
  and_intros
  all_goals (first | exact zI | (exact hn) | (intro i hi;simp [All]))
end Go.Proofs.YtkkjoghiigiokaaGreat.Mach
namespace Go.Proofs
open Go Go.Shelf Go.RowKit Go.Lib Go.Sort
set_option linter.unusedVariables false
set_option linter.unusedSimpArgs false
shelf_lay_g SlLaysF0.n6 Slsf 6 at Tryz 312 as Tryz.sortBar
end Go.Proofs
namespace Go.Proofs.YtkkjoghiigiokaaGreat.Mach
open Go Go.Shelf Go.RowKit Go.Lib Go.Sort
set_option linter.unusedVariables false
set_option linter.unusedSimpArgs false
theorem cmpI_1 {x y:Int} (h:x<y):cmpI x y = -1:=by simp [cmpI,h]
theorem cmpI_2 {x y:Int} (h:y<x):cmpI x y=1:=by
  have h3:¬ x<y:=by omega
  simp [cmpI,h3,h]
theorem cmpI_3 {x y:Int} (h:¬ x<y) (h':¬ y<x):cmpI x y=0:=by simp [cmpI,h,h']
open Go Go.Shelf Go.RowKit Go.Sort
def sW (w:World) (b base q:Nat) (F:Array Value) (os:Array Obj):World:=grow (putRow id (Sort.ahead w q) b base F) os
theorem sW_at {w:World} {b base q:Nat} {F:Array Value} {os:Array Obj} {cells:Array Value} {el:TypeId} {fr:Nat×Nat} (hb:w.heap[b]? = some (.cells cells el fr)) :
    (sW w b base q F os).heap[b]? = some (.cells (putCells id base F cells) el fr):=by
  have hlt:b<w.heap.size:=by
    rcases Nat.lt_or_ge b w.heap.size with h | h
    · exact h
    · rw [Array.getElem?_eq_none h] at hb;cases hb
  rw [sW,heap_grow_old _ _ (by rw [size_putRow];exact hlt)]
  simp only [putRow,mapBlock,heap_ahead,Array.getElem?_modify,if_true,hb,Option.map_some,onCells]
theorem sW_ne {w:World} {b base q c:Nat} {F:Array Value} {os:Array Obj} (hne:c≠b) (hlt:c<w.heap.size) :
    (sW w b base q F os).heap[c]? = w.heap[c]?:=by
  rw [sW,heap_grow_old _ _ (by rw [size_putRow];exact hlt)]
  simp only [putRow,mapBlock,heap_ahead,Array.getElem?_modify,if_neg (Ne.symm hne)]
theorem putCells_size (base:Nat) (F cells:Array Value):(putCells id base F cells).size=cells.size:=by simp [putCells]
theorem putCells_in (base:Nat) (F cells:Array Value) (t:Nat) (h:t<F.size) (hs:base+t<cells.size):(putCells id base F cells)[base+t]? = some F[t]!:=by
  simp only [putCells,Array.getElem?_mapIdx,Array.getElem?_eq_getElem hs,Option.map_some,id]
  rw [if_pos ⟨by omega,by omega⟩,show base+t - base=t by omega]
theorem look_one {ob ob':Ob} {o:Id} (h:lk [(0,ob)] o=some ob') (hb:ob.bx=false:=by rfl):o=0∧ob'=ob:=by
  unfold lk at h
  split at h
  · rename_i ob1 h1
    obtain ⟨oo,m⟩:=o
    simp only [List.lookup] at h1
    split at h1
    · rename_i h2
      cases h1
      have h2:oo=0:=by simpa using h2
      obtain ⟨h3,h4⟩:=vw_plain (isF_nb hb) h
      simp only at h3
      subst h2;subst h3
      exact ⟨rfl,h4⟩
    · cases h1
  · cases h
theorem lk_one (ob:Ob) (hb:ob.bx=false:=by rfl):lk [(0,ob)] 0=some ob:=lk_plain (H:=[(0,ob)]) (o:=0) rfl (isF_nb hb)
theorem own_one (β:Id→Option Addr) (ob:Ob) (b:Nat) (hb:ob.bx=false:=by rfl):ownOf β [(0,ob)] b↔∃ a,β 0=some a∧a.block=b:=by
  constructor
  · rintro ⟨o,ob',a,h1,h2,h3⟩
    obtain ⟨rfl,_⟩:=look_one h1 hb
    exact ⟨a,h2,h3⟩
  · rintro ⟨a,h1,h2⟩
    exact ⟨0,ob,a,lk_one ob hb,h1,h2⟩
theorem ow_one (X:Nat→Prop) (β:Id→Option Addr) (ob ob':Ob) (hb:ob.bx=false:=by rfl) (hb':ob'.bx=false:=by rfl):ow X β [(0,ob)]=ow X β [(0,ob')]:=by
  funext t b
  simp only [ow,own_one β ob b hb,own_one β ob' b hb']
theorem sW_post {w:World} {β:Id→Option Addr} {X:Nat→Prop} {z n:Nat} {fo f':Nat→List AV} {b base q:Nat} {F:Array Value} {os:Array Obj} {cells:Array Value} {el:TypeId} {res:AV} {v:Value}
    (hβ:β 0=some ⟨b,base,none⟩) (hh:w.heap[b]? = some (.cells cells el (0,0)))
    (hS:Sep β [(0,⟨false,z,n,fo⟩)])
    (hsz:base+n*z≤cells.size) (hF:F.size=n*z)
    (hrow:∀ i,i<n→∀ j,j<z→One (F[i*z+j]!)∧∀ (w:World) (own:Bool→Nat→Prop),VR w β own ((f' i).getD j anyA) (F[i*z+j]!))
    (hv:∀ own:Bool→Nat→Prop,VR (sW w b base q F os) β own res v) :
    ∃ v' β',Ending.returned v=.returned v'∧HR (sW w b base q F os) β' (fr X β' [(0,⟨false,z,n,f'⟩)]) [(0,⟨false,z,n,f'⟩)]∧Sep β' [(0,⟨false,z,n,f'⟩)] ∧
      VR (sW w b base q F os) β' (fr X β' [(0,⟨false,z,n,f'⟩)]) res v'∧Ext w (ow X β [(0,⟨false,z,n,fo⟩)]) (sW w b base q F os) (ow X β' [(0,⟨false,z,n,f'⟩)]) ∧
      (∀ o a,β o=some a→β' o=some a)∧(∀ b,ownOf β' [(0,⟨false,z,n,f'⟩)] b→ownOf β [(0,⟨false,z,n,fo⟩)] b∨w.heap.size≤b)∧∀ k,β' k≠none→β k≠none∨(1≤k.o∧k.o<1+32):=by
  have hown:ownOf β [(0,⟨false,z,n,fo⟩)] b:=(own_one _ _ _).2 ⟨_,hβ,rfl⟩
  refine ⟨v,β,rfl,?_,?_,hv _,?_,fun o a h=>h,fun b' h=>.inl ?_,fun k h=>.inl h⟩
  · intro o ob hl
    obtain ⟨rfl,rfl⟩:=look_one hl
    refine .inr (.inl ⟨b,base,_,el,hβ,sW_at hh,?_⟩)
    intro i hi j hj
    change i<n at hi
    change j<z at hj
    show ∃ v,(putCells id base F cells)[base+(i*z+j)]? = some v∧One v∧_
    have hlt:i*z+j<n*z:=by
      have h1:=Nat.mul_le_mul_right z (show i+1≤n from hi)
      rw [Nat.add_mul,Nat.one_mul] at h1
      have h2:j<z:=hj
      omega
    exact ⟨F[i*z+j]!,putCells_in base F cells _ (by omega) (by omega),(hrow i hi j hj).1,(hrow i hi j hj).2 _ _⟩
  · intro o o' ob ob' a a' h1 h2 h3 h4 h5
    obtain ⟨rfl,rfl⟩:=look_one h1
    obtain ⟨rfl,rfl⟩:=look_one h2
    rfl
  · rw [ow_one X β ⟨false,z,n,f'⟩ ⟨false,z,n,fo⟩]
    refine ⟨rfl,rfl,rfl,by rw [sW,size_grow,size_putRow];exact Nat.le_add_right _ _,fun t c hc hn=>?_,fun t c hc h=>h,fun c cs e f h=>?_,fun c es ck h=>?_⟩
    · refine sW_ne (fun h=>hn ?_) hc
      subst h
      exact .inl hown
    · by_cases hcb:c=b
      · subst hcb
        rw [hh] at h
        injection h with h
        injection h with h1 h2 h3
        subst h1
        exact ⟨_,_,_,sW_at hh,by rw [putCells_size];exact Nat.le_refl _⟩
      · have hlt:c<w.heap.size:=by
          rcases Nat.lt_or_ge c w.heap.size with h' | h'
          · exact h'
          · rw [Array.getElem?_eq_none h'] at h;cases h
        exact ⟨cs,e,f,by rw [sW_ne hcb hlt];exact h,Nat.le_refl _⟩
    · by_cases hcb:c=b
      · subst hcb
        rw [hh] at h
        cases h
      · have hlt:c<w.heap.size:=by
          rcases Nat.lt_or_ge c w.heap.size with h' | h'
          · exact h'
          · rw [Array.getElem?_eq_none h'] at h;cases h
        exact ⟨es,ck,by rw [sW_ne hcb hlt];exact h⟩
  · rw [own_one _ _ _ rfl] at h ⊢;exact h
theorem vr_int {w:World} {β:Id→Option Addr} {own:Bool→Nat→Prop} {k:IntKind} {x:Int} {v:Value} (h:VR w β own (.p (.int k x)) v):v=.int k x:=by
  cases h with
  | p _ _ hp=>cases hp;rfl
open Go
def brOb (n:Nat) (h:Nat→T_Bar):Ob:=⟨false,2,n,fun i=>[.p (.int .i64 (h i).1),.p (.int .i64 (h i).2.1)]⟩
def bxB (x:T_Bar):Ob:=⟨true,2,1,fun _=>[.p (.int .i64 x.1),.p (.int .i64 x.2.1)]⟩
def SL (g:Nat→T_Bar) (nb N:Nat) (x:T_Bar) (i n:Nat) (pl:Bool) (h:Nat→T_Bar):St :=
  ⟨[grG g nb N,brA x,.pt 2 0 0 0,.pt 2 1 0 0,.pt 2 2 0 0,.pt 2 3 0 0,.p (.bool pl),.p (.int .i64 i)]++List.replicate 48 anyA,
   [(0,bxG g nb N),(1,bxB x),(2,⟨true,2,1,fun _=>[.p (.int .i64 0),.p .nil]⟩),(3,⟨true,2,1,fun _=>[.p (.int .i64 N),.ar 2 4 0 n]⟩),(4,brOb n h)],5⟩
def snoc (n:Nat) (h:Nat→T_Bar) (x:T_Bar) (s:Nat):T_Bar:=(if s<n then (h s).1 else x.1,if s<n then (h s).2.1 else x.2.1,())
abbrev NB:=Nat×(Nat→T_Bar)
def zNB:NB:=(0,fun _=>(0,0,()))
def sn (r:NB) (x:T_Bar):NB:=(r.1+1,snoc r.1 r.2 x)
theorem rLz (g:Nat→T_Bar) (nb N:Nat) (x:T_Bar) :
    zT Tryz.f216 [rg 3,rg 6,rg 1,rg 1,.head] [grG g nb N,brA x] [0,32,64,224,160] (SL g nb N x 0 0 false (fun _=>(0,0,()))) =
    some (zf63,zD [(NT 0 1),((true=true)→ (AN 1)),(AI ((↑N:Int))),(AN nb),(AP nb (bRw g)),(AI x.1),(AI x.2.1),(AN 0),(false=false),((0:Int)=(↑0:Int)),((([AV.p (PV.int IntKind.i64 (↑N:Int)),brL g nb].length):Nat)=2),(NL 1 1),((([AV.p (PV.int IntKind.i64 x.1),AV.p (PV.int IntKind.i64 x.2.1)].length):Nat)=2),((((List.map (fun v=>AV.p (absV v)) [Value.int IntKind.i64 0,Value.slice none 0 0]).length):Nat)=2),(AI 0),(AN 2),(NL 0 0),(AA 0 (fun i=>[.p (.int .i64 0),.p (.int .i64 0)]))] [0,0,1,2,3,4,5,6,7,7,7,7,8,9,10,11,11,2,3,4,12,11,11,5,6,13,11,11,14,13,11,11,2,7,7,15,16,17]):=by kernel_rfl
theorem rLa (g:Nat→T_Bar) (nb N:Nat) (x:T_Bar) (i n:Nat) (pl:Bool) (h:Nat→T_Bar) :
    zM 0 [rg 5,.dec true,rm [(9,oc [] (.p (.bool (aft (g i) x))))] 2,.dec true,rg 7,rg 1,rg 11,rg 3,.head] zf63 (SL g nb N x i n pl h) [0,1,2,3,1061] 1 (SL g nb N x (i+1) (n+1+1) true (snoc (n+1) (snoc n h x) (g i))) =
    some (zf63,zD [(NT 0 1),((decide ((↑i:Int)<(↑nb:Int)))=true),(AG (!pl)),(((!pl)=true)→(NT 0 1)),(((!pl)=true)→(IL 0 (↑i:Int))),(((!pl)=true)→(IT (↑i:Int) (↑nb:Int))),(((!pl)=true)→ zE 168 [.agg [.p (.int .i64 ((g i).1)),.p (.int .i64 ((g i).2.1))],.agg [.p (.int .i64 x.1),.p (.int .i64 x.2.1)]] [] (.p (.bool (aft (g i) x)))),((bif !pl then !aft (g i) x else false)=true),(NL 1 1),(NL n n),(NL ((n+1)*16) 140737488355328),(NL (n+1) 9223372036854775807),((true=true)→ (AN 1)),(IL 0 (↑i:Int)),(IT (↑i:Int) (↑nb:Int)),(NL (n+1) (n+1)),(NL ((n+1+1)*16) 140737488355328),(NL (n+1+1) 9223372036854775807),(ZLo ((↑i:Int)+1)),(ZHi ((↑i:Int)+1)),(AI ((↑N:Int))),(AN nb),(AP nb (bRw g)),(AI x.1),(AI x.2.1),(AN 0),(true=true),((((↑i:Int)+1):Int)=(↑(i+1):Int)),(AN 2),(AI 0),(AN ((n+1+1))),(NL (n+1+1) (n+1+1)),(CV [(3,⟨true,2,1,(fun i_2=>[.p (.int .i64 (↑N:Int)),.ar 2 1061 0 (n+1+1)])⟩),(1061,⟨false,2,(n+1+1),(fun i_2=>(if (i_2<n+1) then (if (i_2<n) then [.p (.int .i64 ((h i_2).1)),.p (.int .i64 ((h i_2).2.1))] else [.p (.int .i64 x.1),.p (.int .i64 x.2.1)]) else [.p (.int .i64 ((g i).1)),.p (.int .i64 ((g i).2.1))]))⟩),(1029,⟨false,2,1,(fun i_2=>[.p (.int .i64 ((g i).1)),.p (.int .i64 ((g i).2.1))])⟩),(645,⟨false,2,1,(fun i_2=>[.p (.int .i64 x.1),.p (.int .i64 x.2.1)])⟩),(0,⟨true,2,1,(fun i_2=>[.p (.int .i64 (↑N:Int)),.p (.seq true 2 nb (bRw g))])⟩),(1,⟨true,2,1,(fun i_2=>[.p (.int .i64 x.1),.p (.int .i64 x.2.1)])⟩),(2,⟨true,2,1,(fun i_2=>[.p (.int .i64 0),.p (.nil)])⟩)] [0,1,2,3,1061] 1 (n+1+1) (fun i_1=>if (i_1<n+1) then (if (i_1<n) then [.p (.int .i64 ((h i_1).1)),.p (.int .i64 ((h i_1).2.1))] else [.p (.int .i64 x.1),.p (.int .i64 x.2.1)]) else [.p (.int .i64 ((g i).1)),.p (.int .i64 ((g i).2.1))]) (fun i_1=>[.p (.int .i64 (if i_1<n+1 then if i_1<n then (h i_1).1 else x.1 else (g i).1)),.p (.int .i64 (if i_1<n+1 then if i_1<n then (h i_1).2.1 else x.2.1 else (g i).2.1))]))] [0,1,2,3,2,2,4,5,2,3,2,2,6,2,2,7,0,0,8,9,10,11,0,12,0,0,13,14,8,15,16,17,0,12,18,19,20,21,22,23,24,25,25,25,25,26,27,28,8,8,20,21,22,28,8,8,23,24,28,8,8,29,28,8,8,20,25,30,28,31,32]):=by kernel_rfl
theorem rLb (g:Nat→T_Bar) (nb N:Nat) (x:T_Bar) (i n:Nat) (pl:Bool) (h:Nat→T_Bar) :
    zM 0 [rg 5,.dec true,rm [(9,oc [] (.p (.bool (aft (g i) x))))] 2,.dec false,rg 11,rg 3,.head] zf63 (SL g nb N x i n pl h) [0,1,2,3,805] 1 (SL g nb N x (i+1) (n+1) pl (snoc n h (g i))) =
    some (zf63,zD [(NT 0 1),((decide ((↑i:Int)<(↑nb:Int)))=true),(AG (!pl)),(((!pl)=true)→(NT 0 1)),(((!pl)=true)→(IL 0 (↑i:Int))),(((!pl)=true)→(IT (↑i:Int) (↑nb:Int))),(((!pl)=true)→ zE 168 [.agg [.p (.int .i64 ((g i).1)),.p (.int .i64 ((g i).2.1))],.agg [.p (.int .i64 x.1),.p (.int .i64 x.2.1)]] [] (.p (.bool (aft (g i) x)))),((bif !pl then !aft (g i) x else false)=false),(IL 0 (↑i:Int)),(IT (↑i:Int) (↑nb:Int)),(NL 1 1),(NL n n),(NL ((n+1)*16) 140737488355328),(NL (n+1) 9223372036854775807),((true=true)→ (AN 1)),(ZLo ((↑i:Int)+1)),(ZHi ((↑i:Int)+1)),(AI ((↑N:Int))),(AN nb),(AP nb (bRw g)),(AI x.1),(AI x.2.1),(AN 0),(pl=pl),((((↑i:Int)+1):Int)=(↑(i+1):Int)),(AN 2),(AI 0),(AN ((n+1))),(NL (n+1) (n+1)),(CV [(3,⟨true,2,1,(fun i_2=>[.p (.int .i64 (↑N:Int)),.ar 2 805 0 (n+1)])⟩),(805,⟨false,2,(n+1),(fun i_2=>(if (i_2<n) then [.p (.int .i64 ((h i_2).1)),.p (.int .i64 ((h i_2).2.1))] else [.p (.int .i64 ((g i).1)),.p (.int .i64 ((g i).2.1))]))⟩),(773,⟨false,2,1,(fun i_2=>[.p (.int .i64 ((g i).1)),.p (.int .i64 ((g i).2.1))])⟩),(0,⟨true,2,1,(fun i_2=>[.p (.int .i64 (↑N:Int)),.p (.seq true 2 nb (bRw g))])⟩),(1,⟨true,2,1,(fun i_2=>[.p (.int .i64 x.1),.p (.int .i64 x.2.1)])⟩),(2,⟨true,2,1,(fun i_2=>[.p (.int .i64 0),.p (.nil)])⟩)] [0,1,2,3,805] 1 (n+1) (fun i_1=>if (i_1<n) then [.p (.int .i64 ((h i_1).1)),.p (.int .i64 ((h i_1).2.1))] else [.p (.int .i64 ((g i).1)),.p (.int .i64 ((g i).2.1))]) (fun i_1=>[.p (.int .i64 (if i_1<n then (h i_1).1 else (g i).1)),.p (.int .i64 (if i_1<n then (h i_1).2.1 else (g i).2.1))]))] [0,1,2,3,2,2,4,5,2,3,2,2,6,2,2,7,0,0,8,9,10,11,12,13,0,14,15,16,17,18,19,20,21,22,22,22,22,23,24,25,10,10,17,18,19,25,10,10,20,21,25,10,10,26,25,10,10,17,22,27,25,28,29]):=by kernel_rfl
theorem rLc (g:Nat→T_Bar) (nb N:Nat) (x:T_Bar) (i n:Nat) (pl:Bool) (h:Nat→T_Bar) :
    zP Tryz.f216 0 [rg 5,.dec false,rg 2,.dec true,rg 7,rg 2] zf63 (SL g nb N x i n pl h) [357] 1 [(0,brOb (n+1) (snoc n h x))] (.agg [.p (.int .i64 N),.ar 2 0 0 (n+1)]) =
    some (zD [(NT 0 1),((decide ((↑i:Int)<(↑nb:Int)))=false),((!pl)=true),(NL 1 1),(NL n n),(NL ((n+1)*16) 140737488355328),(NL (n+1) 9223372036854775807),((true=true)→ (AN 1)),(AI ((↑N:Int))),(AN 0),(AN ((n+1))),(AN 2),(NL (n+1) (n+1)),(CV [(2,⟨true,2,1,(fun i_2=>[.p (.int .i64 (↑N:Int)),.ar 2 357 0 (n+1)])⟩),(3,⟨true,2,1,(fun i_2=>[.p (.int .i64 (↑N:Int)),.ar 2 357 0 (n+1)])⟩),(357,⟨false,2,(n+1),(fun i_2=>(if (i_2<n) then [.p (.int .i64 ((h i_2).1)),.p (.int .i64 ((h i_2).2.1))] else [.p (.int .i64 x.1),.p (.int .i64 x.2.1)]))⟩),(325,⟨false,2,1,(fun i_2=>[.p (.int .i64 x.1),.p (.int .i64 x.2.1)])⟩),(0,⟨true,2,1,(fun i_2=>[.p (.int .i64 (↑N:Int)),.p (.seq true 2 nb (bRw g))])⟩),(1,⟨true,2,1,(fun i_2=>[.p (.int .i64 x.1),.p (.int .i64 x.2.1)])⟩)] [357] 1 (n+1) (fun i_1=>if (i_1<n) then [.p (.int .i64 ((h i_1).1)),.p (.int .i64 ((h i_1).2.1))] else [.p (.int .i64 x.1),.p (.int .i64 x.2.1)]) (fun i_1=>[.p (.int .i64 (if i_1<n then (h i_1).1 else x.1)),.p (.int .i64 (if i_1<n then (h i_1).2.1 else x.2.1))])),(AE ((n+1)))] [0,1,2,0,0,3,4,5,6,0,7,0,0,7,0,8,9,10,11,12,13,14]):=by kernel_rfl
theorem rLd (g:Nat→T_Bar) (nb N:Nat) (x:T_Bar) (i n:Nat) (pl:Bool) (h:Nat→T_Bar) :
    zP Tryz.f216 0 [rg 5,.dec false,rg 2,.dec false,rg 2] zf63 (SL g nb N x i n pl h) [4] 1 [(0,brOb n h)] (.agg [.p (.int .i64 N),.ar 2 0 0 n]) =
    some [(NT 0 1),((decide ((↑i:Int)<(↑nb:Int)))=false),((!pl)=false),(NT 0 1),(NT 0 1),((true=true)→ (AN 1)),(NT 0 1),(AI ((↑N:Int))),(AN 0),(AN n),(AN 2),(NL n n),(AA n (fun i_1=>[.p (.int .i64 ((h i_1).1)),.p (.int .i64 ((h i_1).2.1))])),(AE n)]:=by kernel_rfl
theorem snoc_lt {n:Nat} {h:Nat→T_Bar} {x:T_Bar} {s:Nat} (hs:s<n):snoc n h x s=h s:=by
  simp only [snoc,hs,if_true]
theorem snoc_ge {n:Nat} {h:Nat→T_Bar} {x:T_Bar} {s:Nat} (hs:¬ s<n):snoc n h x s=x:=by
  simp only [snoc,hs,if_false]
theorem snoc_mem (n:Nat) (h:Nat→T_Bar) (x y:T_Bar):(∃ s,s<n+1∧snoc n h x s=y)↔(∃ s,s<n∧h s=y)∨x=y:=by
  constructor
  · rintro ⟨s,h1,h2⟩
    by_cases e:s<n
    · rw [snoc_lt e] at h2;exact .inl ⟨s,e,h2⟩
    · rw [snoc_ge e] at h2;exact .inr h2
  · rintro (⟨s,h1,h2⟩ | h2)
    · exact ⟨s,by omega,by rw [snoc_lt h1];exact h2⟩
    · exact ⟨n,by omega,by rw [snoc_ge (Nat.lt_irrefl n)];exact h2⟩
def insD (g:Nat→T_Bar) (x:T_Bar):Nat→Bool×Nat×(Nat→T_Bar)
  | 0=>(false,0,fun _=>(0,0,()))
  | i+1 =>
    if (bif !(insD g x i).1 then !aft (g i) x else false)=true then (true,(insD g x i).2.1+1+1,snoc ((insD g x i).2.1+1) (snoc (insD g x i).2.1 (insD g x i).2.2 x) (g i))
    else ((insD g x i).1,(insD g x i).2.1+1,snoc (insD g x i).2.1 (insD g x i).2.2 (g i))
def insR (g:Nat→T_Bar) (nb:Nat) (x:T_Bar):Nat×(Nat→T_Bar) :=
  if (insD g x nb).1=true then ((insD g x nb).2.1,(insD g x nb).2.2) else ((insD g x nb).2.1+1,snoc (insD g x nb).2.1 (insD g x nb).2.2 x)
theorem insD_n (g:Nat→T_Bar) (x:T_Bar):∀ i,(insD g x i).2.1=i+(if (insD g x i).1=true then 1 else 0)
  | 0=>rfl
  | i+1=>by
    have ih:=insD_n g x i
    simp only [insD]
    split
    · rename_i h
      have hf:(insD g x i).1=false:=by
        cases e:(insD g x i).1 with
        | false=>rfl
        | true=>rw [e] at h;simp at h
      rw [hf] at ih
      simp only [if_true]
      simp at ih
      omega
    · simp only
      omega
theorem insD_mem (g:Nat→T_Bar) (x y:T_Bar):∀ i,(∃ s,s<(insD g x i).2.1∧(insD g x i).2.2 s=y)↔(∃ s,s<i∧g s=y)∨((insD g x i).1=true∧x=y)
  | 0=>by
    constructor
    · rintro ⟨s,h1,_⟩;exact absurd h1 (Nat.not_lt_zero _)
    · rintro (⟨s,h1,_⟩ | ⟨h1,_⟩)
      · exact absurd h1 (Nat.not_lt_zero _)
      · cases h1
  | i+1=>by
    have ih:=insD_mem g x y i
    have step:(∃ s,s<i+1∧g s=y)↔(∃ s,s<i∧g s=y)∨g i=y:=by
      constructor
      · rintro ⟨s,h1,h2⟩
        by_cases e:s=i
        · right;rw [← e];exact h2
        · exact .inl ⟨s,by omega,h2⟩
      · rintro (⟨s,h1,h2⟩ | h2)
        · exact ⟨s,by omega,h2⟩
        · exact ⟨i,by omega,h2⟩
    simp only [insD]
    split
    · rename_i h
      have hf:(insD g x i).1=false:=by
        cases e:(insD g x i).1 with
        | false=>rfl
        | true=>rw [e] at h;simp at h
      simp only [snoc_mem,ih,step,hf]
      constructor
      · rintro ((( h | ⟨h,_⟩) | h) | h)
        · exact .inl (.inl h)
        · cases h
        · exact .inr ⟨trivial,h⟩
        · exact .inl (.inr h)
      · rintro ((h | h) | ⟨_,h⟩)
        · exact .inl (.inl (.inl h))
        · exact .inr h
        · exact .inl (.inr h)
    · simp only [snoc_mem,ih,step]
      constructor
      · rintro ((h | h) | h)
        · exact .inl (.inl h)
        · exact .inr h
        · exact .inl (.inr h)
      · rintro ((h | h) | h)
        · exact .inl (.inl h)
        · exact .inr h
        · exact .inl (.inr h)
theorem insR_mem (g:Nat→T_Bar) (nb:Nat) (x y:T_Bar):(∃ s,s<(insR g nb x).1∧(insR g nb x).2 s=y)↔(∃ s,s<nb∧g s=y)∨x=y:=by
  have h:=insD_mem g x y nb
  unfold insR
  split
  · rename_i hp
    simp only [h,hp,true_and]
  · rename_i hp
    simp only [snoc_mem,h]
    constructor
    · rintro ((h | ⟨h,_⟩) | h)
      · exact .inl h
      · exact absurd h hp
      · exact .inr h
    · rintro (h | h)
      · exact .inl (.inl h)
      · exact .inr h
theorem insR_n (g:Nat→T_Bar) (nb:Nat) (x:T_Bar):(insR g nb x).1=nb+1:=by
  have h:=insD_n g x nb
  unfold insR
  split
  · rename_i hp;rw [if_pos hp] at h;exact h
  · rename_i hp;rw [if_neg hp] at h;show (insD g x nb).2.1+1=nb+1;omega
theorem con_l2Put (g:Nat→T_Bar) (nb N:Nat) (x:T_Bar) (hnb:nb≤1048576):zE 216 [grG g nb N,brA x] [(0,brOb (insR g nb x).1 (insR g nb x).2)] (.agg [.p (.int .i64 N),.ar 2 0 0 (insR g nb x).1]):=by
  refine csZ Tryz.func216 (fun c hc=>?_)
  have lp:∀ d i,i+d=nb→zR c 216 zf63 (SL g nb N x i (insD g x i).2.1 (insD g x i).1 (insD g x i).2.2) (Post c [(0,brOb (insR g nb x).1 (insR g nb x).2)] (.agg [.p (.int .i64 N),.ar 2 0 0 (insR g nb x).1])):=by
    intro d
    induction d with
    | zero =>
      intro i hi
      obtain rfl:i=nb:=by omega
      have hd:decide ((i:Int)<(i:Int))=false:=by simp
      have hn:=insD_n g x i
      have hle:(insD g x i).2.1≤i+1:=by split at hn<;>omega
      cases hp:(insD g x i).1 with
      | true =>
        rw [show insR g i x=((insD g x i).2.1,(insD g x i).2.2) by simp [insR,hp]]
        refine pkZ Tryz.func216 hc (rLd g i N x i (insD g x i).2.1 true (insD g x i).2.2) ?_
        and_intros
        all_goals (first | exact zI | (intro i hi;simp [All]))
      | false =>
        rw [show insR g i x=((insD g x i).2.1+1,snoc (insD g x i).2.1 (insD g x i).2.2 x) by simp [insR,hp]]
        refine pkD Tryz.func216 hc (rLc g i N x i (insD g x i).2.1 false (insD g x i).2.2) ?_
        and_intros
        all_goals (first | exact zI | (intro j hj;simp [All];done) | (intro j hj;by_cases h:j<(insD g x i).2.1<;>simp [h,snoc,cvtL,cvt,tg,tru,All]))
    | succ d ih =>
      intro i hi
      have hd:decide ((i:Int)<(nb:Int))=true:=by simp;omega
      have hn:=insD_n g x i
      have hle:(insD g x i).2.1≤i+1:=by split at hn<;>omega
      have hca:=con_l2After (g i) x
      have hs:insD g x (i+1)=if (bif !(insD g x i).1 then !aft (g i) x else false)=true then (true,(insD g x i).2.1+1+1,snoc ((insD g x i).2.1+1) (snoc (insD g x i).2.1 (insD g x i).2.2 x) (g i)) else ((insD g x i).1,(insD g x i).2.1+1,snoc (insD g x i).2.1 (insD g x i).2.2 (g i)):=rfl
      have hih:=ih (i+1) (by omega)
      cases ht:(bif !(insD g x i).1 then !aft (g i) x else false) with
      | true =>
        rw [hs,if_pos ht] at hih
        refine pcD hc (rLa g nb N x i (insD g x i).2.1 (insD g x i).1 (insD g x i).2.2) ?_ hih
        and_intros
        all_goals (first | exact zI | (intros;exact hca) | (exact ht) | (intro j hj;simp [All];done) | (intro j hj;by_cases h:j<(insD g x i).2.1+1<;>by_cases h':j<(insD g x i).2.1<;>simp [h,h',snoc,cvtL,cvt,tg,tru,All]) | (simp;omega))
      | false =>
        rw [hs,if_neg (by rw [ht];simp)] at hih
        refine pcD hc (rLb g nb N x i (insD g x i).2.1 (insD g x i).1 (insD g x i).2.2) ?_ hih
        and_intros
        all_goals (first | exact zI | (intros;exact hca) | (exact ht) | (intro j hj;simp [All];done) | (intro j hj;by_cases h:j<(insD g x i).2.1<;>simp [h,snoc,cvtL,cvt,tg,tru,All]))
  refine pcD hc (rLz g nb N x) ?_ (lp nb 0 (by omega))
  and_intros
  all_goals (first | exact zI | (intro i hi;simp [All]))
open Go Go.Shelf Go.RowKit Go.Lib Go.Sort
def ltB (x y:T_Bar):Bool:=ltOf cmpB x y
theorem ltB_iff (x y:T_Bar):ltB x y=true↔x.1<y.1∨(x.1=y.1∧x.2.1<y.2.1):=by
  rw [show ltB x y=decide (cmpB x y<0) from rfl,decide_eq_true_iff]
  unfold cmpB
  rcases Int.lt_trichotomy x.1 y.1 with h | h | h
  · rw [cmpI_1 h];simp;omega
  · rw [cmpI_3 (x:=x.1) (y:=y.1) (by omega) (by omega)]
    simp only [if_true]
    rcases Int.lt_trichotomy x.2.1 y.2.1 with h' | h' | h'
    · rw [cmpI_1 h'];simp;omega
    · rw [cmpI_3 (x:=x.2.1) (y:=y.2.1) (by omega) (by omega)];simp;omega
    · rw [cmpI_2 h'];simp;omega
  · rw [cmpI_2 h];simp;omega
def leB (x y:T_Bar):Prop:=ltB y x=false
theorem leB_iff (x y:T_Bar):leB x y↔x.1<y.1∨(x.1=y.1∧x.2.1≤y.2.1):=by
  have h:=ltB_iff y x
  unfold leB
  cases hb:ltB y x with
  | false=>rw [hb] at h;simp only [Bool.false_eq_true,false_iff] at h;simp only [true_iff];omega
  | true=>rw [hb] at h;simp only [true_iff] at h;simp only [Bool.true_eq_false,false_iff];omega
theorem aft_iff (x y:T_Bar):aft x y=true↔leB x y:=by
  rw [leB_iff]
  unfold aft
  by_cases h1:x.1<y.1
  · simp [h1]
  · by_cases h2:x.1=y.1<;>simp [h1,h2]
open Go Go.Sort
def brX (a b:Int):T_Bar:=(if b<a then b else a,if b>a then b else a,())
def zG2:Ob:=⟨true,2,1,fun _=>[.p (.int .i64 0),.p .nil]⟩
theorem dBar (a b:Int) :
    zS Tryz.f290 [rg 1,rg 8] [.p (.int .i64 a),.p (.int .i64 b)] [] [] (.agg [.p (.int .i64 (if b<a then b else a)),.p (.int .i64 (if b>a then b else a))]) =
    some [(NT 0 1),((true=true)→ (AN 1)),(NT 0 1),(((if false=true then if b>a then b else a else if b<a then b else a):Int)=(if b<a then b else a)),(((if true=true then if b>a then b else a else if b<a then b else a):Int)=(if b>a then b else a))]:=by kernel_rfl
theorem con_barX (a b:Int):zE 290 [.p (.int .i64 a),.p (.int .i64 b)] [] (.agg [.p (.int .i64 (brX a b).1),.p (.int .i64 (brX a b).2.1)]):=by
  refine csZ Tryz.func290 (fun c hc=>?_)
  refine pkZ Tryz.func290 hc (dBar a b) ?_
  and_intros
  all_goals (first | exact zI | simp)
theorem graph_inR {v:T_Graph} (h:isGraphF v=true):1≤v.1∧v.1≤8∧v.2.1.1≤24∧goodB v.1 v.2.1.2 v.2.1.1=true:=by
  unfold isGraphF at h
  split at h
  · rename_i h1
    simp only [inB,Bool.and_eq_true,decide_eq_true_eq] at h1
    exact ⟨h1.1.1,h1.1.2,h1.2,h⟩
  · cases h
theorem goodB_at {N:Int} {g:Nat→T_Bar}:∀ {n:Nat},goodB N g n=true→∀ k,k<n→0≤(g k).1∧(g k).1<(g k).2.1∧(g k).2.1<N∧(0<k→leB (g (k - 1)) (g k))
  | 0,_,k,hk=>absurd hk (Nat.not_lt_zero _)
  | n+1,h,k,hk=>by
    simp only [goodB,Bool.and_eq_true,Bool.not_eq_true'] at h
    by_cases e:k=n
    · subst e
      have h2:=h.2
      unfold badB at h2
      by_cases c1:(g k).1<0
      · simp [c1] at h2
      by_cases c2:(g k).1≥(g k).2.1
      · simp [c1,c2] at h2
      by_cases c3:(g k).2.1≥N
      · simp [c1,c2,c3] at h2
      refine ⟨by omega,by omega,by omega,fun h0=>?_⟩
      simp only [c1,c2,c3,decide_false,cond_false] at h2
      rw [decide_eq_true (show (k:Int)>0 by omega)] at h2
      simp only [cond_true,Bool.not_eq_false'] at h2
      rw [← aft_iff]
      rw [show ((k:Int) - 1).toNat=k - 1 by omega] at h2
      exact h2
    · exact goodB_at h.1 k (by omega)
theorem sm_graph {v:T_Graph} (h:v.2.1.1≤1048576):smS s_Graph v:=⟨by simp [smS,smL],⟨h,fun i hi=>by simp [smS,smL]⟩,True.intro⟩
theorem rIs (g g':Nat→T_Bar) (nb nb' N:Nat) (a b:Int) (r1 r0:Nat) :
    zS Tryz.f286 [rg 2,rm [(1,oc [] (.p (.bool true)))] 21,.dec false,rm [(8,oc [(0,brOb nb' g')] (.agg [.p (.int .i64 N),.ar 2 0 0 nb']))] 2,rm [(5,oc [] (.p (.int .i64 r1))),(1,oc [] (.p (.int .i64 r0)))] 3] [grG g nb N,.p (.int .i64 a),.p (.int .i64 b)] [] [] (.p (.bool (bif a==b then true else (r1:Int)==(r0:Int)))) =
    some (zD [(NT 0 1),zE 53 [(zf109 N nb g)] [] (.p (.bool true)),(AG (!!true)),(((!true)=false)→ ((!!true)=true)),(AG (!bif !true then true else decide (a<0))),(((bif !true then true else decide (a<0))=false)→ ((!bif !true then true else decide (a<0))=true)),(AG (!bif bif !true then true else decide (a<0) then true else decide (b<0))),(((!bif bif !true then true else decide (a<0) then true else decide (b<0))=true)→(NT 0 1)),(((bif bif !true then true else decide (a<0) then true else decide (b<0))=false)→ ((!bif bif !true then true else decide (a<0) then true else decide (b<0))=true)),(AG (!bif bif bif !true then true else decide (a<0) then true else decide (b<0) then true else decide (a≥(↑N:Int)))),(((!bif bif bif !true then true else decide (a<0) then true else decide (b<0) then true else decide (a≥(↑N:Int)))=true)→(NT 0 1)),(((bif bif bif !true then true else decide (a<0) then true else decide (b<0) then true else decide (a≥(↑N:Int)))=false)→ ((!bif bif bif !true then true else decide (a<0) then true else decide (b<0) then true else decide (a≥(↑N:Int)))=true)),((bif bif bif bif !true then true else decide (a<0) then true else decide (b<0) then true else decide (a≥(↑N:Int)) then true else decide (b≥(↑N:Int)))=false),zE 216 [(zf109 N nb g),.agg [.p (.int .i64 (if false=true then if b>a then b else a else if b<a then b else a)),.p (.int .i64 (if true=true then if b>a then b else a else if b<a then b else a))]] (zf112 nb' g') (.agg [.p (.int .i64 (↑N:Int)),.ar 2 0 0 nb']),((true=true)→ (AN 1)),(((!a==b)=true)→(NT 0 1)),(AG (!a==b)),(((!a==b)=true)→ (AN 2)),(((!a==b)=true)→(NL (nb') (nb'))),(((!a==b)=true)→ zE 342 [(zf109 N nb' g')] [] (.p (.int .i64 (↑r1:Int)))),(((!a==b)=true)→ zE 342 [(zf109 N nb g)] [] (.p (.int .i64 (↑r0:Int)))),(((a==b)=false)→ ((!a==b)=true)),((bif a==b then true else (↑r1:Int)==(↑r0:Int))=(bif a==b then true else (↑r1:Int)==(↑r0:Int)))] [0,1,2,3,4,5,6,7,6,6,8,9,10,9,9,11,12,0,13,0,14,15,16,17,18,19,15,16,20,16,16,21,22]):=by kernel_rfl
theorem rRank (g:Nat→T_Bar) (nb N m:Nat) (F T Q:Nat→Int) :
    zS Tryz.f360 [rg 1,rm [(2,oc (pebR N m F T Q) (pebO N m 0))] 3] [.p (.int .i64 N),brL g nb] [] [] (.p (.int .i64 m)) =
    some [zE 293 [.p (.int .i64 (↑N:Int)),.p (.seq true 2 nb (bRw g)),.p (.int .i64 2),.p (.int .i64 3)] (zf54 N F m T Q) (.agg [.ar 1 0 0 N,.ar 1 1 0 m,.ar 1 2 0 m]),(AI ((↑m:Int)))]:=by kernel_rfl
theorem rRaise (g:Nat→T_Bar) (nb N:Nat) (x:T_Bar) (r1 r0:Nat) :
    zS Tryz.f327 [rg 2,rm [(7,oc [] (.p (.int .i64 r1))),(2,oc [] (.p (.int .i64 r0)))] 2] [.p (.int .i64 N),brL g nb,brA x] [] [] (.p (.bool (decide ((r1:Int)>(r0:Int))))) =
    some [(NL 0 0),(NL ((0+nb)*16) 140737488355328),(NL (0+nb) 9223372036854775807),(NT 0 1),(NL 1 1),(NL (0+nb) (0+nb)),(NL ((0+nb+1)*16) 140737488355328),(NL (0+nb+1) 9223372036854775807),(AN 2),(NL (0+nb+1) (0+nb+1)),zE 360 [.p (.int .i64 (↑N:Int)),.p (.seq true 2 (0+nb+1) (fun i=>[(cellP true (if (i<0+nb) then [.p (.int .i64 ((g i).1)),.p (.int .i64 ((g i).2.1))] else [.p (.int .i64 x.1),.p (.int .i64 x.2.1)]) 0),(cellP true (if (i<0+nb) then [.p (.int .i64 ((g i).1)),.p (.int .i64 ((g i).2.1))] else [.p (.int .i64 x.1),.p (.int .i64 x.2.1)]) 1)]))] [] (.p (.int .i64 (↑r1:Int))),zE 360 [.p (.int .i64 (↑N:Int)),.p (.seq true 2 nb (bRw g))] [] (.p (.int .i64 (↑r0:Int))),((decide ((↑r1:Int)>(↑r0:Int)))=(decide ((↑r1:Int)>(↑r0:Int))))]:=by kernel_rfl
def bL (g:Nat→T_Bar):Nat→List (Nat×Nat)
  | 0=>[]
  | n+1=>bL g n++[brN (g n)]
theorem bL_mem (g:Nat→T_Bar) (y:Nat×Nat):∀ n,y∈bL g n↔∃ s,s<n∧brN (g s)=y
  | 0=>by
    constructor
    · intro h;cases h
    · rintro ⟨s,h,_⟩;exact absurd h (Nat.not_lt_zero _)
  | n+1=>by
    simp only [bL,List.mem_append,List.mem_singleton,bL_mem g y n]
    constructor
    · rintro (⟨s,h1,h2⟩ | h)
      · exact ⟨s,by omega,h2⟩
      · exact ⟨n,by omega,h.symm⟩
    · rintro ⟨s,h1,h2⟩
      by_cases e:s=n
      · right;rw [← e];exact h2.symm
      · exact .inl ⟨s,by omega,h2⟩
theorem acc_greedy (N k l:Nat) (g:Nat→T_Bar):∀ n,(accI N k l g n).map (fun i=>brN (g i))=Mat.greedy N k l [] (bL g n)
  | 0=>rfl
  | n+1=>by
    have ih:=acc_greedy N k l g n
    simp only [accI,bL,Mat.greedy_append,Mat.greedy]
    rw [← ih]
    split
    · rw [List.map_append];rfl
    · rfl
theorem acc_len (N k l:Nat) (g:Nat→T_Bar) (n:Nat):(accI N k l g n).length=(Mat.greedy N k l [] (bL g n)).length:=by
  rw [← acc_greedy,List.length_map]
def OkBars (N nb:Nat) (g:Nat→T_Bar):Prop:=∀ e,e<nb→0≤(g e).1∧(g e).1<(g e).2.1∧(g e).2.1<N
theorem bL_good {N nb:Nat} {g:Nat→T_Bar} (h:OkBars N nb g):∀ x∈bL g nb,Mat.GoodBar N x:=by
  intro x hx
  obtain ⟨s,h1,h2⟩:=(bL_mem g x nb).1 hx
  have:=h s h1
  rw [← h2]
  simp only [Mat.GoodBar,brN]
  omega
theorem acc_same {N n n':Nat} {g g':Nat→T_Bar} (h:OkBars N n g) (hm:∀ y,(∃ s,s<n∧g s=y)↔∃ s,s<n'∧g' s=y):(accI N 2 3 g n).length=(accI N 2 3 g' n').length:=by
  rw [acc_len,acc_len]
  refine Mat.rank_same _ _ (bL_good h) (fun x=>?_)
  rw [bL_mem,bL_mem]
  constructor
  · rintro ⟨s,h1,h2⟩
    obtain ⟨t,h3,h4⟩:=(hm (g s)).1 ⟨s,h1,rfl⟩
    exact ⟨t,h3,by rw [h4,h2]⟩
  · rintro ⟨s,h1,h2⟩
    obtain ⟨t,h3,h4⟩:=(hm (g' s)).2 ⟨s,h1,rfl⟩
    exact ⟨t,h3,by rw [h4,h2]⟩
theorem con_planeRank {N nb:Nat} {g:Nat→T_Bar} (hb:OkBars N nb g) (hN:N≤1048576) (hnb:nb≤1048576):zE 360 [.p (.int .i64 N),brL g nb] [] (.p (.int .i64 ((accI N 2 3 g nb).length:Nat))):=by
  obtain ⟨m,F,T,Q,hc1,hp,hq⟩:=con_play (N:=N) (k:=2) (l:=3) hb (by omega) (by omega) hN hnb
  rw [← hq,qL_length]
  refine csZ Tryz.func360 (fun c hc=>?_)
  refine pkZ Tryz.func360 hc (rRank g nb N m F T Q) ?_
  and_intros
  all_goals (first | exact zN | (exact hc1) | (intro i hi;simp [All]))
theorem ok_snoc {N nb:Nat} {g:Nat→T_Bar} {x:T_Bar} (hb:OkBars N nb g) (hx:0≤x.1∧x.1<x.2.1∧x.2.1<N):OkBars N (nb+1) (snoc nb g x):=by
  intro e he
  by_cases h:e<nb
  · rw [snoc_lt h];exact hb e h
  · rw [snoc_ge h];exact hx
theorem con_raises {N nb:Nat} {g:Nat→T_Bar} {x:T_Bar} (hb:OkBars N nb g) (hx:0≤x.1∧x.1<x.2.1∧x.2.1<N) (hN:N≤1048576) (hnb:nb≤1000000) :
    zE 327 [.p (.int .i64 N),brL g nb,brA x] [] (.p (.bool (decide (((accI N 2 3 (snoc nb g x) (nb+1)).length:Int)>((accI N 2 3 g nb).length:Int))))):=by
  have h0:=con_planeRank hb hN (by omega)
  have h1:=con_planeRank (ok_snoc hb hx) hN (by omega)
  refine csZ Tryz.func327 (fun c hc=>?_)
  refine pkZ Tryz.func327 hc (rRaise g nb N x _ _) ?_
  repeat' (first | exact aN | apply aI)
  all_goals (first | exact zN | (exact h0) | (refine Con.arg_ext h1 ?_;simp only [brL,wkL,wk,wkP,beq_self_eq_true,Bool.and_self,if_true,ikEq,List.append_nil,List.cons_append,List.nil_append,All];refine ⟨trivial,by omega,fun i hi=>?_,trivial⟩;simp only [Nat.zero_add];by_cases h:i<nb<;>simp [h,cellP,tg,tru,snoc]))
noncomputable def impB (N nb:Nat) (g:Nat→T_Bar) (a b:Int):Bool :=
  bif a==b then true else (((accI N 2 3 (snoc nb g (brX a b)) (nb+1)).length:Nat):Int)==(((accI N 2 3 g nb).length:Nat):Int)
theorem brX_ok {N:Nat} {a b:Int} (ha:0≤a∧a<N) (hb:0≤b∧b<N) (hab:a≠b):0≤(brX a b).1∧(brX a b).1<(brX a b).2.1∧(brX a b).2.1<N:=by
  simp only [brX]
  by_cases h:b<a
  · rw [if_pos h,if_neg (by omega)];omega
  · rw [if_neg h,if_pos (by omega)];omega
theorem con_IsImplied_s {N nb:Nat} {g:Nat→T_Bar} (hg:isGraphF ((N:Int),(nb,g),())=true) (hok:OkBars N nb g) (hN:1≤N∧N≤8) (hnb:nb≤24) {a b:Int} (ha:0≤a∧a<N) (hb:0≤b∧b<N) :
    zE 286 [grG g nb N,.p (.int .i64 a),.p (.int .i64 b)] [] (.p (.bool (impB N nb g a b))):=by
  have hsm:smS s_Graph ((N:Int),(nb,g),()):=⟨by simp [smS,smL],⟨by show nb≤1048576;omega,fun i hi=>by simp [smS,smL]⟩,True.intro⟩
  have hcg:=con_IsGraph_s ((N:Int),(nb,g),()) hsm
  rw [hg] at hcg
  have hp:=con_l2Put g nb N (brX a b) (by omega)
  have hr0:=con_l6Rank hok hN (by omega)
  have hr1:a≠b→zE 342 [grG (insR g nb (brX a b)).2 (insR g nb (brX a b)).1 N] [] (.p (.int .i64 ((accI N 2 3 (snoc nb g (brX a b)) (nb+1)).length:Nat))):=by
    intro hab
    have hx:=brX_ok ha hb hab
    have hm:∀ y,(∃ s,s<(insR g nb (brX a b)).1∧(insR g nb (brX a b)).2 s=y)↔∃ s,s<nb+1∧snoc nb g (brX a b) s=y:=fun y=>by rw [insR_mem,snoc_mem]
    have hok':OkBars N (insR g nb (brX a b)).1 (insR g nb (brX a b)).2:=by
      intro e he
      obtain ⟨s,h1,h2⟩:=(hm _).1 ⟨e,he,rfl⟩
      rw [← h2]
      exact ok_snoc hok hx s h1
    rw [← acc_same hok' hm]
    exact con_l6Rank hok' hN (by rw [insR_n];omega)
  refine csZ Tryz.func286 (fun c hc=>?_)
  have hcond:(bif bif bif bif !true then true else decide (a<0) then true else decide (b<0) then true else decide (a≥(N:Int)) then true else decide (b≥(N:Int)))=false:=by
    have h1:¬ a<0:=by omega
    have h2:¬ b<0:=by omega
    have h3:¬ (N:Int)≤a:=by omega
    have h4:¬ (N:Int)≤b:=by omega
    simp [h1,h2,h3,h4]
  refine pkD Tryz.func286 hc (rIs g (insR g nb (brX a b)).2 nb (insR g nb (brX a b)).1 N a b (accI N 2 3 (snoc nb g (brX a b)) (nb+1)).length (accI N 2 3 g nb).length) ?_
  and_intros
  all_goals (first | exact zH | (exact hcg) | (exact hcond) | (exact hp) | (intro h;exact hr1 (by simpa using h)) | (intros;exact hr0) | (simp;done))
def isG (g:Nat→T_Bar) (nb:Nat) (N:Int):Bool:=isGraphF (N,(nb,g),())
def joinB (by_:ByteArray) (f:Nat→ByteArray):Nat→ByteArray
  | 0=>sE
  | n+1=>(if 0<n then joinB by_ f n++by_ else joinB by_ f n)++f n
theorem joinB_0 (by_:ByteArray) (f:Nat→ByteArray):joinB by_ f 0=sE:=rfl
theorem joinB_pos (by_:ByteArray) (f:Nat→ByteArray) {n:Nat} (h:0<n):joinB by_ f (n+1)=(joinB by_ f n++by_)++f n:=by simp [joinB,h]
theorem joinB_one (by_:ByteArray) (f:Nat→ByteArray):joinB by_ f (0+1)=sE++f 0:=rfl
theorem joinB_size (by_:ByteArray) (f:Nat→ByteArray) (B:Nat):∀ n,(∀ i,i<n→(f i).size≤B)→(joinB by_ f n).size≤n*(B+by_.size)
  | 0,_=>(Nat.zero_le _:0≤_)
  | n+1,h=>by
    have ih:=joinB_size by_ f B n (fun i hi=>h i (by omega))
    have:=h n (by omega)
    simp only [joinB]
    rw [Nat.add_mul,ByteArray.size_append]
    split
    · rw [ByteArray.size_append];omega
    · omega
theorem sE_app (s:ByteArray):sE++s=s:=ByteArray.empty_append
theorem app_sE (s:ByteArray):s++sE=s:=ByteArray.append_empty
theorem str_nil (s:ByteArray):(s.toList==(ByteArray.mk #[]).toList)=decide (s.size=0):=by
  rw [ByteArray.toList_eq,ByteArray.toList_eq]
  rw [Bool.eq_iff_iff]
  simp only [beq_iff_eq,decide_eq_true_eq]
  constructor
  · intro h
    show s.data.size=0
    rw [← Array.length_toList,h];rfl
  · intro h
    have:s.data.toList.length=0:=by rw [Array.length_toList];exact h
    rw [List.length_eq_zero_iff.1 this]
theorem con_glued (n:Nat) (f:Nat→ByteArray) (by_:ByteArray) (B:Nat) (hn:n≤1048577) (hB:B≤1099511627776) (hby:by_.size≤1000) (hf:∀ i,i<n→(f i).size≤B) :
    zE 218 [strL n f,.p (.str by_)] [] (.p (.str (joinB by_ f n))):=by
  have hsz:∀ k,k≤n→(joinB by_ f k).size≤1048577*1099511628776:=by
    intro k hk
    have h1:=joinB_size by_ f B k (fun i hi=>hf i (by omega))
    have h2:k*(B+by_.size)≤1048577*1099511628776:=Nat.mul_le_mul (by omega) (by omega)
    omega
  refine csZ Tryz.func218 (fun c hc=>?_)
  have lo:∀ d k,k+d=n→zR c 218 zf71 (SJ n f by_ k (joinB by_ f k)) (Post c [] (.p (.str (joinB by_ f n)))):=by
    intro d
    induction d with
    | zero =>
      intro k hk
      obtain rfl:k=n:=by omega
      have hd:decide ((k:Int)<(k:Int))=false:=by simp
      refine pkZ Tryz.func218 hc (jJe k f by_ k _) ?_
      and_intros
      all_goals (first | exact zN | (exact hd))
    | succ d ih =>
      intro k hk
      have hd:decide ((k:Int)<(n:Int))=true:=decide_eq_true (by omega)
      have hrec:=ih (k+1) (by omega)
      have h1:=hsz k (by omega)
      have h2:=hf k (by omega)
      by_cases h0:0<k
      · have hg:decide ((k:Int)>0)=true:=decide_eq_true (by omega)
        rw [joinB_pos by_ f h0] at hrec
        generalize joinB by_ f k=s at hrec h1 ⊢
        refine pcZ hc (jJt n f by_ k s) ?_ hrec
        and_intros
        all_goals (first | exact zN | (exact hd) | (exact hg) | (rw [ByteArray.size_append];omega) | (simp;omega))
      · obtain rfl:k=0:=by omega
        have hg:decide (((0:Nat):Int)>0)=false:=by simp
        rw [joinB_one] at hrec
        rw [joinB_0] at h1 ⊢
        refine pcZ hc (jJf n f by_ 0 sE) ?_ hrec
        and_intros
        all_goals (first | exact zN | (exact hd) | (exact hg) | (simp;omega))
  refine pcD hc (jJz n f by_) ?_ (lo n 0 (by omega))
  and_intros
  all_goals (first | exact zN | (simp;omega))
def In64 (v:T_IntS):Prop:=∀ i,i<v.1→-9223372036854775808≤v.2 i∧v.2 i≤9223372036854775807
def nmB (v:T_IntS):ByteArray:=joinB sC (fun i=>fmtI (v.2 i)) v.1
theorem sC_size:sC.size=1:=rfl
theorem nmB_size (v:T_IntS):(nmB v).size≤v.1*22:=joinB_size sC _ 21 v.1 (fun i hi=>fmt_size _)
theorem con_numbers (v:T_IntS) (hn:v.1≤1048576) (hv:In64 v):zE 219 [inL v] [] (.p (.str (nmB v))):=by
  have cg:=con_glued v.1 (fun i=>fmtI (v.2 i)) sC 21 (by omega) (by omega) (by rw [sC_size];omega) (fun i hi=>fmt_size _)
  refine csZ Tryz.func219 (fun c hc=>?_)
  have lo:∀ d k,k+d=v.1→zR c 219 zf72 (SNm v k (fun i=>fmtI (v.2 i))) (Post c [] (.p (.str (nmB v)))):=by
    intro d
    induction d with
    | zero =>
      intro k hk
      obtain rfl:k=v.1:=by omega
      have hd:decide ((v.1:Int)<(v.1:Int))=false:=by simp
      refine pkZ Tryz.func219 hc (jNe v v.1 (fun i=>fmtI (v.2 i)) (nmB v)) ?_
      and_intros
      all_goals (first | exact zN | (exact hd) | (exact cg) | (intro t ht;simp [All]))
    | succ d ih =>
      intro k hk
      have hd:decide ((k:Int)<(v.1:Int))=true:=decide_eq_true (by omega)
      have hvk:=hv k (by omega)
      have cf:=con_FormatInt_i (v.2 k) hvk.1 hvk.2
      refine pcZ hc (jNt v k (fun i=>fmtI (v.2 i)) (fmtI (v.2 k))) ?_ (ih (k+1) (by omega))
      and_intros
      all_goals (first | exact zN | (exact hd) | (exact cf) | (intro t ht;rcases Nat.lt_or_eq_of_le (Nat.le_of_lt_succ ht) with h' | h'<;>(simp [h',cvtL,cvt,tg,tru,All];done)) | (simp;omega))
  refine pcD hc (jNz v (fun i=>fmtI (v.2 i))) ?_ (lo v.1 0 (by omega))
  and_intros
  iterate 2 all_goals (first | exact zN | (intro t ht;exact absurd ht (Nat.not_lt_zero _)) | (intro t ht;simp [All]) | (simp;omega) | simp only [All])
def stB (v:T_IntS):ByteArray:=(sL++nmB v)++sR
def fsB (n:Nat) (C:Nat→T_IntS):ByteArray:=if n=0 then sNone else joinB sSp (fun i=>stB (C i)) n
theorem stB_size (v:T_IntS):(stB v).size≤v.1*22+2∧2≤(stB v).size:=by
  have:=nmB_size v
  unfold stB
  rw [ByteArray.size_append,ByteArray.size_append]
  show 1+_+1≤_∧2≤1+_+1
  omega
theorem con_FormatSets_i (n:Nat) (C:Nat→T_IntS) (hn:n≤1048576) (hC:∀ i,i<n→(C i).1≤1048576∧In64 (C i)):zE 109 [setsL n C] [] (.p (.str (fsB n C))):=by
  have cg:=con_glued n (fun i=>stB (C i)) sSp 30000000 (by omega) (by omega) (by show 1≤1000;omega) (fun i hi=>by have:=stB_size (C i);have:=hC i hi;omega)
  refine csZ Tryz.func109 (fun c hc=>?_)
  by_cases h0:n=0
  · have hd:((n:Int)==0)=true:=by rw [h0];rfl
    rw [show fsB n C=sNone by simp [fsB,h0]]
    refine pkZ Tryz.func109 hc (jFn n C) ?_
    and_intros
    all_goals (first | exact zN | (exact hd))
  · have hd0:((n:Int)==0)=false:=beq_eq_false_iff_ne.2 (by omega)
    rw [show fsB n C=joinB sSp (fun i=>stB (C i)) n by simp [fsB,h0]]
    have lo:∀ d k,k+d=n→zR c 109 zf58 (SFm n C k (fun i=>stB (C i))) (Post c [] (.p (.str (joinB sSp (fun i=>stB (C i)) n)))):=by
      intro d
      induction d with
      | zero =>
        intro k hk
        obtain rfl:k=n:=by omega
        have hd:decide ((k:Int)<(k:Int))=false:=by simp
        refine pkZ Tryz.func109 hc (jFe k C k (fun i=>stB (C i)) _) ?_
        and_intros
        all_goals (first | exact zN | (exact hd) | (exact cg) | (intro t ht;simp [All]))
      | succ d ih =>
        intro k hk
        have hd:decide ((k:Int)<(n:Int))=true:=decide_eq_true (by omega)
        have hCk:=hC k (by omega)
        have cn:=con_numbers (C k) hCk.1 hCk.2
        have h1:=nmB_size (C k)
        have e:stB (C k)=ByteArray.mk #[123]++nmB (C k)++ByteArray.mk #[125]:=rfl
        refine pcD hc (jFt n C k (fun i=>stB (C i)) (nmB (C k))) ?_ (ih (k+1) (by omega))
        and_intros
        all_goals (first | exact zN | (exact hd) | (exact cn) | (show 1+_≤_;omega) | (rw [ByteArray.size_append];show 1+_+1≤_;omega) | (intro t ht;rcases Nat.lt_or_eq_of_le (Nat.le_of_lt_succ ht) with h' | h'<;>(simp [h',e,cvtL,cvt,tg,tru,All];done)) | (simp;omega))
    refine pcD hc (jFz n C (fun i=>stB (C i))) ?_ (lo n 0 (by omega))
    and_intros
    iterate 2 all_goals (first | exact zN | (exact hd0) | (intro t ht;exact absurd ht (Nat.not_lt_zero _)) | (intro t ht;simp [All]) | (simp;omega) | simp only [All])
set_option maxRecDepth 4000 in
theorem con_FormatSets_s (n:Nat) (C:Nat→T_IntS) (hn:n≤1048576) (hC:∀ i,i<n→(C i).1≤1048576∧In64 (C i)):zE 101 [setsL n C] [] (.p (.str (fsB n C))):=by
  refine csZ Tryz.func101 (fun c hc=>?_)
  let F:Nat→ByteArray:=fun i=>stB (C i)
  have hsz:∀ k,k≤n→(joinB sSp F k).size≤k*30000001:=fun k hk=>joinB_size sSp F 30000000 k (fun i hi=>by have:=stB_size (C i);have:=hC i (by omega);show (stB (C i)).size≤_;omega)
  have li:∀ i,i<n→∀ s:ByteArray,s.size≤40000000000000→(zR c 101 zf73 (SFo n C (i+1) ((s++nmB (C i))++sR)) (Post c [] (.p (.str (fsB n C))))) →
      ∀ d k,k+d=(C i).1→zR c 101 zf17 (SFn n C i k (s++joinB sC (fun j=>fmtI ((C i).2 j)) k)) (Post c [] (.p (.str (fsB n C)))):=by
    intro i hi s hs hk d
    have hCi:=hC i hi
    have hz:∀ k,(joinB sC (fun j=>fmtI ((C i).2 j)) k).size≤k*22:=fun k=>joinB_size sC _ 21 k (fun j hj=>fmt_size _)
    induction d with
    | zero =>
      intro k hkn
      obtain rfl:k=(C i).1:=by omega
      have hd:decide (((C i).1:Int)<((C i).1:Int))=false:=by simp
      have h1:=hz (C i).1
      refine pcZ hc (jGe n C i (C i).1 _) ?_ hk
      and_intros
      all_goals (first | exact zN | (exact hd) | (rw [ByteArray.size_append];show _+_+1≤_;omega) | (simp;omega))
    | succ d ih =>
      intro k hkn
      have hd:decide ((k:Int)<((C i).1:Int))=true:=decide_eq_true (by omega)
      have hrec:=ih (k+1) (by omega)
      have hvk:=hCi.2 k (by omega)
      have cf:=con_FormatInt_s ((C i).2 k) hvk.1 hvk.2
      have h1:=hz k
      have h2:=fmt_size ((C i).2 k)
      by_cases h0:0<k
      · have hg:decide ((k:Int)>0)=true:=decide_eq_true (by omega)
        rw [joinB_pos sC _ h0,← ByteArray.append_assoc,← ByteArray.append_assoc] at hrec
        generalize joinB sC (fun j=>fmtI ((C i).2 j)) k=q at hrec h1 ⊢
        refine pcZ hc (jGc n C i k (s++q) (fmtI ((C i).2 k))) ?_ hrec
        and_intros
        all_goals (first | exact zN | (exact hd) | (exact hg) | (exact cf) | (rw [ByteArray.size_append];show _+1≤_;omega) | (rw [ByteArray.size_append,ByteArray.size_append];show _+1+_≤_;omega) | (simp;omega))
      · obtain rfl:k=0:=by omega
        have hg:decide (((0:Nat):Int)>0)=false:=by simp
        rw [joinB_one,sE_app] at hrec
        rw [joinB_0,app_sE]
        refine pcZ hc (jGd n C i 0 s (fmtI ((C i).2 0))) ?_ hrec
        and_intros
        all_goals (first | exact zN | (exact hd) | (exact hg) | (exact cf) | (simp;omega))
  have lo:∀ d i,i+d=n→zR c 101 zf73 (SFo n C i (joinB sSp F i)) (Post c [] (.p (.str (fsB n C)))):=by
    intro d
    induction d with
    | zero =>
      intro i hi
      obtain rfl:i=n:=by omega
      have hd:decide ((i:Int)<(i:Int))=false:=by simp
      have hs:=str_nil (joinB sSp F i)
      by_cases h0:i=0
      · rw [show fsB i C=sNone by simp [fsB,h0]]
        rw [decide_eq_true (by rw [h0];rfl)] at hs
        refine pkZ Tryz.func101 hc (jGn i C i _) ?_
        and_intros
        all_goals (first | exact zN | (exact hd) | (exact hs))
      · rw [show fsB i C=joinB sSp F i by simp only [fsB,h0,if_false];rfl]
        have hp:0<(joinB sSp F i).size:=by
          obtain ⟨m,rfl⟩:∃ m,i=m+1:=⟨i - 1,by omega⟩
          simp only [joinB]
          rw [ByteArray.size_append]
          have h3:=stB_size (C m)
          show 0<_+(stB (C m)).size
          omega
        rw [decide_eq_false (by omega)] at hs
        refine pkZ Tryz.func101 hc (jGy i C i _) ?_
        and_intros
        all_goals (first | exact zN | (exact hd) | (exact hs))
    | succ d ih =>
      intro i hi
      have hd:decide ((i:Int)<(n:Int))=true:=decide_eq_true (by omega)
      have hrec:=ih (i+1) (by omega)
      have h1:=hsz i (by omega)
      by_cases h0:0<i
      · have hg:decide ((i:Int)>0)=true:=decide_eq_true (by omega)
        rw [joinB_pos sSp F h0] at hrec
        have e:(joinB sSp F i++sSp)++F i=(((joinB sSp F i++sSp)++sL)++nmB (C i))++sR:=by
          show (joinB sSp F i++sSp)++((sL++nmB (C i))++sR)=_
          simp only [ByteArray.append_assoc]
        rw [e] at hrec
        have hnx:=li i (by omega) ((joinB sSp F i++sSp)++sL) (by rw [ByteArray.size_append,ByteArray.size_append];show _+1+1≤_;omega) hrec (C i).1 0 (by omega)
        rw [joinB_0,app_sE] at hnx
        generalize joinB sSp F i=q at hnx h1 ⊢
        refine pcZ hc (jGa n C i q) ?_ hnx
        and_intros
        all_goals (first | exact zN | (exact hd) | (exact hg) | (show _+1≤_;omega) | (rw [ByteArray.size_append];show _+1+1≤_;omega) | (simp;omega))
      · obtain rfl:i=0:=by omega
        have hg:decide (((0:Nat):Int)>0)=false:=by simp
        rw [joinB_one] at hrec
        have e:sE++F 0=((sE++sL)++nmB (C 0))++sR:=by
          show sE++((sL++nmB (C 0))++sR)=_
          simp only [ByteArray.append_assoc]
        rw [e] at hrec
        have hnx:=li 0 (by omega) (sE++sL) (by show 1≤_;omega) hrec (C 0).1 0 (by omega)
        rw [joinB_0,app_sE] at hnx
        rw [joinB_0]
        refine pcZ hc (jGb n C 0 sE) ?_ hnx
        and_intros
        all_goals (first | exact zN | (exact hd) | (exact hg) | (show 0+1≤_;omega) | (simp;omega))
  refine pcZ hc (jGz n C) ?_ (lo n 0 (by omega))
  and_intros
  all_goals (first | exact zN | (simp;omega))
def prB (s:ByteArray) (f:Nat→ByteArray) (i:Nat):ByteArray:=if i<1 then s else f (i - 1)
theorem con_line (n:Nat) (f:Nat→ByteArray) (B:Nat) (hn:n≤1048577) (hB:B≤1099511627776) (hf:∀ i,i<n→(f i).size≤B):zE 108 [strL n f] [] (.p (.str (joinB sSp f n))):=by
  have cg:=con_glued n f sSp B hn hB (by show 1≤1000;omega) hf
  refine csZ Tryz.func108 (fun c hc=>?_)
  refine pkZ Tryz.func108 hc (jKl n f _) ?_
  and_intros
  all_goals (first | exact zN | (exact cg))
def soB (s:ByteArray) (is:Bool) (n:Nat) (f:Nat→ByteArray):ByteArray:=if is=true then joinB sSp (prB s f) (1+n) else s
theorem con_ifSo (s:ByteArray) (is:Bool) (n:Nat) (f:Nat→ByteArray) (B:Nat) (hn:n≤1048576) (hB:B≤1099511627776) (hs:s.size≤B) (hf:∀ i,i<n→(f i).size≤B) :
    zE 114 [.p (.str s),.p (.bool is),strL n f] [] (.p (.str (soB s is n f))):=by
  refine csZ Tryz.func114 (fun c hc=>?_)
  cases is with
  | false =>
    rw [show soB s false n f=s by simp [soB]]
    refine pkZ Tryz.func114 hc (jSn s n f) ?_
    and_intros
    all_goals (first | exact zN | rfl)
  | true =>
    rw [show soB s true n f=joinB sSp (prB s f) (1+n) by simp [soB]]
    have cl:=con_line (1+n) (prB s f) B (by omega) hB (fun i hi=>by
      unfold prB
      split
      · exact hs
      · exact hf _ (by omega))
    have e:(.p (.seq true 1 (1+n) (fun i=>[cellP true (if i<1 then [.p (.str s)] else [.p (.str (f (i - 1)))]) 0])):AV)=strL (1+n) (prB s f):=by
      unfold strL prB
      congr 2
      funext i
      by_cases h:i<1<;>simp [h,cellP,tg,tru]
    rw [← e] at cl
    refine pkZ Tryz.func114 hc (jSy s _ n f) ?_
    and_intros
    all_goals (first | exact zN | rfl | (exact cl) | (simp;omega))
def allB (p:Nat→Bool):Nat→Bool
  | 0=>true
  | n+1=>allB p n&&p n
theorem all_iff (p:Nat→Bool):∀ n,allB p n=true↔∀ i,i<n→p i=true
  | 0=>by simp [allB]
  | n+1=>by
    rw [allB,Bool.and_eq_true,all_iff p n]
    constructor
    · rintro ⟨h1,h2⟩ i hi
      by_cases h:i=n
      · rw [h];exact h2
      · exact h1 i (by omega)
    · intro h;exact ⟨fun i hi=>h i (by omega),h n (by omega)⟩
def plP (pl:Nat→T_Place) (i:Nat):Bool:=bif inB (pl i).1 0 4 then inB (pl i).2.1 0 4 else false
def eA (g:Nat→T_Bar) (i:Nat):Bool:=(g ((i:Int) - 1).toNat).1==(g i).1&&((g ((i:Int) - 1).toNat).2.1==(g i).2.1&&true)
def eB (g:Nat→T_Bar) (pl:Nat→T_Place) (i:Nat):Bool:=(pl (g i).1.toNat).1==(pl (g i).2.1.toNat).1&&((pl (g i).1.toNat).2.1==(pl (g i).2.1.toNat).2.1&&true)
def brP (g:Nat→T_Bar) (pl:Nat→T_Place) (i:Nat):Bool:=!(bif bif decide ((i:Int)>0) then eA g i else false then true else eB g pl i)
def fwB (g:Nat→T_Bar) (nb:Nat) (N:Int) (pl:Nat→T_Place) (np:Nat):Bool :=
  (isG g nb N&&(decide (N≤6)&&(decide (nb≤15)&&decide ((np:Int)=N))))&&(allB (plP pl) np&&allB (brP g pl) nb)
def dblB (g:Nat→T_Bar):Nat→Bool
  | 0=>false
  | k+1=>dblB g k||(decide (1≤k)&&q1_BarS (g ((k:Int) - 1).toNat) (g k))
def simpleF (v:T_Graph):Bool:=!dblB v.2.1.2 v.2.1.1&&isGraphF v
def S86 (v:T_Graph) (k:Nat):St :=
  ⟨[graphA v,.pt 2 0 0 0,.p .any,.p (.int .i64 k)]++List.replicate 21 anyA,[(0,boxG v)],1⟩
def S88 (v:T_Graph) (k:Nat):St :=
  ⟨[graphA v,.pt 2 0 0 0,.p .any,.p (.int .i64 k)]++List.replicate 19 anyA,[(0,boxG v)],1⟩
theorem p86a (v:T_Graph) :
    zT Tryz.f209 [rg 2,rg 1,.head] [graphA v] [0] (S86 v 1) =
    some (zf98,zD [(AI v.1),(AN v.2.1.1),(AP v.2.1.1 (bRw v.2.1.2)),(AN 0),((1:Int)=(↑1:Int)),((([AV.p (PV.int IntKind.i64 v.1),graphL v.2.1].length):Nat)=2),(NL 1 1)] [0,1,2,3,4,5,6,6,0,1,2]):=by kernel_rfl
theorem p86b (v:T_Graph) (k:Nat) :
    zM 0 [rg 5,.dec true,rg 12,.dec false,rg 3,.head] zf98 (S86 v k) [0] 1 (S86 v (k+1)) =
    some (zf98,zD [(NT 0 1),((decide ((↑k:Int)<(↑v.2.1.1:Int)))=true),(ZLo ((↑k:Int) - 1)),(ZHi ((↑k:Int) - 1)),(IL 0 ((↑k:Int) - 1)),(IT ((↑k:Int) - 1) (↑v.2.1.1:Int)),(IL 0 (↑k:Int)),(IT (↑k:Int) (↑v.2.1.1:Int)),(((v.2.1.2 ((↑k:Int) - 1).toNat).1==(v.2.1.2 k).1&&((v.2.1.2 ((↑k:Int) - 1).toNat).2.1==(v.2.1.2 k).2.1&&true))=false),(ZLo ((↑k:Int)+1)),(ZHi ((↑k:Int)+1)),(AI v.1),(AN v.2.1.1),(AP v.2.1.1 (bRw v.2.1.2)),(AN 0),((((↑k:Int)+1):Int)=(↑(k+1):Int)),(AN 2),(NL 1 1)] [0,1,0,2,3,4,5,0,6,7,8,9,10,11,12,13,14,15,16,17,17,11,12,13]):=by kernel_rfl
theorem p86c (v:T_Graph) (k:Nat) :
    zP Tryz.f209 0 [rg 5,.dec true,rg 12,.dec true,rg 1] zf98 (S86 v k) [] 1 [] (.p (.bool false)) =
    some [(NT 0 1),((decide ((↑k:Int)<(↑v.2.1.1:Int)))=true),(NT 0 1),(ZLo ((↑k:Int) - 1)),(ZHi ((↑k:Int) - 1)),(IL 0 ((↑k:Int) - 1)),(IT ((↑k:Int) - 1) (↑v.2.1.1:Int)),(NT 0 1),(IL 0 (↑k:Int)),(IT (↑k:Int) (↑v.2.1.1:Int)),(((v.2.1.2 ((↑k:Int) - 1).toNat).1==(v.2.1.2 k).1&&((v.2.1.2 ((↑k:Int) - 1).toNat).2.1==(v.2.1.2 k).2.1&&true))=true),(false=false)]:=by kernel_rfl
theorem p86d (v:T_Graph) (k:Nat) :
    zP Tryz.f209 0 [rg 5,.dec false,rm [(1,oc [] (.p (.bool (isGraphF v))))] 1] zf98 (S86 v k) [] 1 [] (.p (.bool (isGraphF v))) =
    some [(NT 0 1),((decide ((↑k:Int)<(↑v.2.1.1:Int)))=false),(NT 0 1),zE 53 [(zf104 v)] [] (.p (.bool (isGraphF v))),((isGraphF v)=(isGraphF v))]:=by kernel_rfl
theorem p88a (v:T_Graph) :
    zT Tryz.f217 [rg 2,rg 1,.head] [graphA v] [0] (S88 v 1) =
    some (zf99,zD [(AI v.1),(AN v.2.1.1),(AP v.2.1.1 (bRw v.2.1.2)),(AN 0),((1:Int)=(↑1:Int)),((([AV.p (PV.int IntKind.i64 v.1),graphL v.2.1].length):Nat)=2),(NL 1 1)] [0,1,2,3,4,5,6,6,0,1,2]):=by kernel_rfl
theorem p88b (v:T_Graph) (k:Nat) :
    zM 0 [rg 5,.dec true,rg 12,.dec false,rg 3,.head] zf99 (S88 v k) [0] 1 (S88 v (k+1)) =
    some (zf99,zD [(NT 0 1),((decide ((↑k:Int)<(↑v.2.1.1:Int)))=true),(ZLo ((↑k:Int) - 1)),(ZHi ((↑k:Int) - 1)),(IL 0 ((↑k:Int) - 1)),(IT ((↑k:Int) - 1) (↑v.2.1.1:Int)),(IL 0 (↑k:Int)),(IT (↑k:Int) (↑v.2.1.1:Int)),(((v.2.1.2 ((↑k:Int) - 1).toNat).1==(v.2.1.2 k).1&&((v.2.1.2 ((↑k:Int) - 1).toNat).2.1==(v.2.1.2 k).2.1&&true))=false),(ZLo ((↑k:Int)+1)),(ZHi ((↑k:Int)+1)),(AI v.1),(AN v.2.1.1),(AP v.2.1.1 (bRw v.2.1.2)),(AN 0),((((↑k:Int)+1):Int)=(↑(k+1):Int)),(AN 2),(NL 1 1)] [0,1,0,2,3,4,5,0,6,7,8,9,10,11,12,13,14,15,16,17,17,11,12,13]):=by kernel_rfl
theorem p88c (v:T_Graph) (k:Nat) :
    zP Tryz.f217 0 [rg 5,.dec true,rg 12,.dec true,rg 1] zf99 (S88 v k) [] 1 [] (.p (.bool true)) =
    some [(NT 0 1),((decide ((↑k:Int)<(↑v.2.1.1:Int)))=true),(NT 0 1),(ZLo ((↑k:Int) - 1)),(ZHi ((↑k:Int) - 1)),(IL 0 ((↑k:Int) - 1)),(IT ((↑k:Int) - 1) (↑v.2.1.1:Int)),(NT 0 1),(IL 0 (↑k:Int)),(IT (↑k:Int) (↑v.2.1.1:Int)),(((v.2.1.2 ((↑k:Int) - 1).toNat).1==(v.2.1.2 k).1&&((v.2.1.2 ((↑k:Int) - 1).toNat).2.1==(v.2.1.2 k).2.1&&true))=true),(true=true)]:=by kernel_rfl
theorem p88d (v:T_Graph) (k:Nat) :
    zP Tryz.f217 0 [rg 5,.dec false,rg 1] zf99 (S88 v k) [] 1 [] (.p (.bool false)) =
    some [(NT 0 1),((decide ((↑k:Int)<(↑v.2.1.1:Int)))=false),(false=false)]:=by kernel_rfl
theorem p89 (v:T_Graph) (p:Int) :
    zS Tryz.f205 [rg 2,rm [(4,oc [] (.p (.bool (inB p 0 (v.1 - 1)))))] 1] [graphA v,.p (.int .i64 p)] [] [] (.p (.bool (inB p 0 (v.1 - 1)))) =
    some [(NT 0 1),(ZLo (v.1 - 1)),(ZHi (v.1 - 1)),zE 179 [.p (.int .i64 p),.p (.int .i64 0),.p (.int .i64 (v.1 - 1))] [] (.p (.bool (inB p 0 (v.1 - 1)))),((inB p 0 (v.1 - 1))=(inB p 0 (v.1 - 1)))]:=by kernel_rfl
theorem dblB_hit (g:Nat→T_Bar) (k:Nat) (h1:1≤k) (h:q1_BarS (g ((k:Int) - 1).toNat) (g k)=true):∀ n,k<n→dblB g n=true
  | 0,h'=>by omega
  | n+1,h'=>by
    by_cases e:k=n
    · subst e;rw [dblB,h,decide_eq_true h1];simp
    · simp [dblB,dblB_hit g k h1 h n (by omega)]
theorem con_l17Simple (v:T_Graph) (hs:smS s_Graph v):zE 209 [graphA v] [] (.p (.bool (simpleF v))):=by
  refine csZ Tryz.func209 (fun c hc=>?_)
  have hn:v.2.1.1≤1048576:=hs.2.1.1
  have lp:∀ m k,1≤k→v.2.1.1≤k+m→k≤1048577→dblB v.2.1.2 (min k v.2.1.1)=false→zR c 209 zf98 (S86 v k) (Post c [] (.p (.bool (simpleF v)))):=by
    intro m
    induction m with
    | zero =>
      intro k h1 hk hk2 hg
      have hd:decide ((k:Int)<(v.2.1.1:Int))=false:=by simp;omega
      rw [show min k v.2.1.1=v.2.1.1 by omega] at hg
      rw [show simpleF v=isGraphF v by simp [simpleF,hg]]
      refine pkZ Tryz.func209 hc (p86d v k) ?_
      and_intros
      all_goals (first | exact zN | (exact con_IsGraph_s v hs))
    | succ m ih =>
      intro k h1 hk hk2 hg
      by_cases hkn:k<v.2.1.1
      · have hd:decide ((k:Int)<(v.2.1.1:Int))=true:=by simp;omega
        rw [show min k v.2.1.1=k by omega] at hg
        cases he:q1_BarS (v.2.1.2 ((k:Int) - 1).toNat) (v.2.1.2 k) with
        | true =>
          rw [show simpleF v=false by simp [simpleF,dblB_hit v.2.1.2 k h1 he v.2.1.1 hkn]]
          refine pkZ Tryz.func209 hc (p86c v k) ?_
          and_intros
          all_goals (first | exact zN | (exact he))
        | false =>
          refine pcD hc (p86b v k) ?_ (ih (k+1) (by omega) (by omega) (by omega) (by rw [show min (k+1) v.2.1.1=k+1 by omega];rw [dblB,hg,he];simp))
          and_intros
          all_goals (first | exact zN | (exact he) | (simp [All]))
      · have hd:decide ((k:Int)<(v.2.1.1:Int))=false:=by simp;omega
        rw [show min k v.2.1.1=v.2.1.1 by omega] at hg
        rw [show simpleF v=isGraphF v by simp [simpleF,hg]]
        refine pkZ Tryz.func209 hc (p86d v k) ?_
        and_intros
        all_goals (first | exact zN | (exact con_IsGraph_s v hs))
  have h0:dblB v.2.1.2 (min 1 v.2.1.1)=false:=by
    by_cases h:v.2.1.1=0
    · rw [h];rfl
    · rw [show min 1 v.2.1.1=1 by omega];simp [dblB]
  refine pcD hc (p86a v) ?_ (lp v.2.1.1 1 (by omega) (by omega) (by omega) h0)
  and_intros
  all_goals (first | exact zN | (simp [All]))
theorem con_hasDoubles (v:T_Graph) (hs:smS s_Graph v):zE 217 [graphA v] [] (.p (.bool (dblB v.2.1.2 v.2.1.1))):=by
  refine csZ Tryz.func217 (fun c hc=>?_)
  have hn:v.2.1.1≤1048576:=hs.2.1.1
  have lp:∀ m k,1≤k→v.2.1.1≤k+m→k≤1048577→dblB v.2.1.2 (min k v.2.1.1)=false→zR c 217 zf99 (S88 v k) (Post c [] (.p (.bool (dblB v.2.1.2 v.2.1.1)))):=by
    intro m
    induction m with
    | zero =>
      intro k h1 hk hk2 hg
      have hd:decide ((k:Int)<(v.2.1.1:Int))=false:=by simp;omega
      rw [show min k v.2.1.1=v.2.1.1 by omega] at hg
      rw [hg]
      refine pkZ Tryz.func217 hc (p88d v k) ?_
      and_intros
      all_goals (first | exact zN)
    | succ m ih =>
      intro k h1 hk hk2 hg
      by_cases hkn:k<v.2.1.1
      · have hd:decide ((k:Int)<(v.2.1.1:Int))=true:=by simp;omega
        rw [show min k v.2.1.1=k by omega] at hg
        cases he:q1_BarS (v.2.1.2 ((k:Int) - 1).toNat) (v.2.1.2 k) with
        | true =>
          rw [dblB_hit v.2.1.2 k h1 he v.2.1.1 hkn]
          refine pkZ Tryz.func217 hc (p88c v k) ?_
          and_intros
          all_goals (first | exact zN | (exact he))
        | false =>
          refine pcD hc (p88b v k) ?_ (ih (k+1) (by omega) (by omega) (by omega) (by rw [show min (k+1) v.2.1.1=k+1 by omega];rw [dblB,hg,he];simp))
          and_intros
          all_goals (first | exact zN | (exact he) | (simp [All]))
      · have hd:decide ((k:Int)<(v.2.1.1:Int))=false:=by simp;omega
        rw [show min k v.2.1.1=v.2.1.1 by omega] at hg
        rw [hg]
        refine pkZ Tryz.func217 hc (p88d v k) ?_
        and_intros
        all_goals (first | exact zN)
  have h0:dblB v.2.1.2 (min 1 v.2.1.1)=false:=by
    by_cases h:v.2.1.1=0
    · rw [h];rfl
    · rw [show min 1 v.2.1.1=1 by omega];simp [dblB]
  refine pcD hc (p88a v) ?_ (lp v.2.1.1 1 (by omega) (by omega) (by omega) h0)
  and_intros
  all_goals (first | exact zN | (simp [All]))
theorem con_Graphhas (v:T_Graph) (p:Int) (h1:1≤v.1) (h2:v.1≤8):zE 205 [graphA v,.p (.int .i64 p)] [] (.p (.bool (inB p 0 (v.1 - 1)))):=by
  refine csZ Tryz.func205 (fun c hc=>?_)
  refine pkZ Tryz.func205 hc (p89 v p) ?_
  and_intros
  all_goals (first | exact zN | (exact con_within _ _ _))
def badP (N:Int) (g:Nat→Int) (k:Nat):Bool :=
  bif bif decide (g k<0) then true else decide (g k≥N) then true else bif decide ((k:Int)>0) then decide (g ((k:Int) - 1).toNat≥g k) else false
def goodP (N:Int) (g:Nat→Int):Nat→Bool
  | 0=>true
  | k+1=>goodP N g k&&!badP N g k
def bothP (p:T_IntS) (b:T_Bar):Bool:=bif hasI p.2 b.1 p.1 then hasI p.2 b.2.1 p.1 else false
def freeP (p:T_IntS) (g:Nat→T_Bar):Nat→Bool
  | 0=>true
  | k+1=>freeP p g k&&!bothP p (g k)
def tailP (v:T_Pinned):Bool :=
  bif bif bif simpleF v.1 then decide ((v.2.1.1:Int)≥2) else false then decide ((v.1.2.1.1:Int)≤15) else false then decide ((v.1.2.1.1:Int)+2*(v.2.1.1:Int) - 3≤24) else false
def pinnedF (v:T_Pinned):Bool:=goodP v.1.1 v.2.1.2 v.2.1.1&&(freeP v.2.1 v.1.2.1.2 v.1.2.1.1&&tailP v)
def pinA (v:T_Pinned):AV:=.agg [.p (.int .i64 v.1.1),graphL v.1.2.1,inL v.2.1]
def boxP (v:T_Pinned):Ob:=⟨true,3,1,fun i=>[.p (.int .i64 v.1.1),graphL v.1.2.1,inL v.2.1]⟩
def S56a (v:T_Pinned) (k:Nat):St :=
  ⟨[pinA v,.pt 3 0 0 0,.p .any,.p (.int .i64 k)]++List.replicate 102 anyA,[(0,boxP v)],1⟩
def S56b (v:T_Pinned) (k:Nat):St :=
  ⟨[pinA v,.pt 3 0 0 0,.p .any,.p .any,.p (.int .i64 k)]++List.replicate 101 anyA,[(0,boxP v)],1⟩
theorem p56a (v:T_Pinned) :
    zT Tryz.f240 [rg 2,rg 1,.head] [pinA v] [0] (S56a v 0) =
    some (zf100,zD [(AI v.1.1),(AN v.1.2.1.1),(AP v.1.2.1.1 (fun i=>[.int .i64 ((v.1.2.1.2 i).1),.int .i64 ((v.1.2.1.2 i).2.1)])),(AN v.2.1.1),(AP v.2.1.1 (fun i=>[.int .i64 (v.2.1.2 i)])),(AN 0),((0:Int)=(↑0:Int)),((([AV.p (PV.int IntKind.i64 v.1.1),graphL v.1.2.1,inL v.2.1].length):Nat)=3),(NL 1 1)] [0,1,2,3,4,5,6,7,8,8,0,1,2,3,4]):=by kernel_rfl
theorem p56b (v:T_Pinned) (k:Nat) :
    zM 0 [rg 5,.dec true,rg 35,.dec false,rg 3,.head] zf100 (S56a v k) [0] 1 (S56a v (k+1)) =
    some (zf100,zD [(NT 0 1),((decide ((↑k:Int)<(↑v.2.1.1:Int)))=true),(IL 0 (↑k:Int)),(IT (↑k:Int) (↑v.2.1.1:Int)),(AG (!decide (v.2.1.2 (↑k:Int).toNat<0))),(((!decide (v.2.1.2 (↑k:Int).toNat<0))=true)→(NT 0 1)),(((!decide (v.2.1.2 (↑k:Int).toNat<0))=true)→(IL 0 (↑k:Int))),(((!decide (v.2.1.2 (↑k:Int).toNat<0))=true)→(IT (↑k:Int) (↑v.2.1.1:Int))),(((decide (v.2.1.2 (↑k:Int).toNat<0))=false)→ ((!decide (v.2.1.2 (↑k:Int).toNat<0))=true)),(AG (!bif decide (v.2.1.2 (↑k:Int).toNat<0) then true else decide (v.2.1.2 (↑k:Int).toNat≥v.1.1))),(AG ((!bif decide (v.2.1.2 (↑k:Int).toNat<0) then true else decide (v.2.1.2 (↑k:Int).toNat≥v.1.1))&&decide ((↑k:Int)>0))),((((!bif decide (v.2.1.2 (↑k:Int).toNat<0) then true else decide (v.2.1.2 (↑k:Int).toNat≥v.1.1))&&decide ((↑k:Int)>0))=true)→(NT 0 1)),((((!bif decide (v.2.1.2 (↑k:Int).toNat<0) then true else decide (v.2.1.2 (↑k:Int).toNat≥v.1.1))&&decide ((↑k:Int)>0))=true)→(ZLo ((↑k:Int) - 1))),((((!bif decide (v.2.1.2 (↑k:Int).toNat<0) then true else decide (v.2.1.2 (↑k:Int).toNat≥v.1.1))&&decide ((↑k:Int)>0))=true)→(ZHi ((↑k:Int) - 1))),((((!bif decide (v.2.1.2 (↑k:Int).toNat<0) then true else decide (v.2.1.2 (↑k:Int).toNat≥v.1.1))&&decide ((↑k:Int)>0))=true)→(IL 0 ((↑k:Int) - 1))),((((!bif decide (v.2.1.2 (↑k:Int).toNat<0) then true else decide (v.2.1.2 (↑k:Int).toNat≥v.1.1))&&decide ((↑k:Int)>0))=true)→(IT ((↑k:Int) - 1) (↑v.2.1.1:Int))),((((!bif decide (v.2.1.2 (↑k:Int).toNat<0) then true else decide (v.2.1.2 (↑k:Int).toNat≥v.1.1))&&decide ((↑k:Int)>0))=true)→(IL 0 (↑k:Int))),((((!bif decide (v.2.1.2 (↑k:Int).toNat<0) then true else decide (v.2.1.2 (↑k:Int).toNat≥v.1.1))&&decide ((↑k:Int)>0))=true)→(IT (↑k:Int) (↑v.2.1.1:Int))),(((!bif decide (v.2.1.2 (↑k:Int).toNat<0) then true else decide (v.2.1.2 (↑k:Int).toNat≥v.1.1))=true)→(((decide ((↑k:Int)>0))=true)→ (((!bif decide (v.2.1.2 (↑k:Int).toNat<0) then true else decide (v.2.1.2 (↑k:Int).toNat≥v.1.1))&&decide ((↑k:Int)>0))=true))),(((bif decide (v.2.1.2 (↑k:Int).toNat<0) then true else decide (v.2.1.2 (↑k:Int).toNat≥v.1.1))=false)→ ((!bif decide (v.2.1.2 (↑k:Int).toNat<0) then true else decide (v.2.1.2 (↑k:Int).toNat≥v.1.1))=true)),((bif bif decide (v.2.1.2 (↑k:Int).toNat<0) then true else decide (v.2.1.2 (↑k:Int).toNat≥v.1.1) then true else bif decide ((↑k:Int)>0) then decide (v.2.1.2 ((↑k:Int) - 1).toNat≥v.2.1.2 (↑k:Int).toNat) else false)=false),(ZLo ((↑k:Int)+1)),(ZHi ((↑k:Int)+1)),(AI v.1.1),(AN v.1.2.1.1),(AP v.1.2.1.1 (fun i=>[.int .i64 ((v.1.2.1.2 i).1),.int .i64 ((v.1.2.1.2 i).2.1)])),(AN v.2.1.1),(AP v.2.1.1 (fun i=>[.int .i64 (v.2.1.2 i)])),(AN 0),((((↑k:Int)+1):Int)=(↑(k+1):Int)),(AN 3),(NL 1 1)] [0,1,0,2,3,4,5,4,4,6,7,4,4,4,5,4,4,8,9,9,10,11,10,12,13,10,10,14,15,10,10,11,10,10,16,17,10,10,10,9,18,19,20,21,22,23,24,25,26,27,28,29,30,31,31,23,24,25,26,27]):=by kernel_rfl
theorem p56c (v:T_Pinned) (k:Nat) :
    zP Tryz.f240 0 [rg 5,.dec true,rg 35,.dec true,rg 1] zf100 (S56a v k) [] 1 [] (.p (.bool false)) =
    some (zD [(NT 0 1),((decide ((↑k:Int)<(↑v.2.1.1:Int)))=true),(IL 0 (↑k:Int)),(IT (↑k:Int) (↑v.2.1.1:Int)),(AG (!decide (v.2.1.2 (↑k:Int).toNat<0))),(((!decide (v.2.1.2 (↑k:Int).toNat<0))=true)→(NT 0 1)),(((!decide (v.2.1.2 (↑k:Int).toNat<0))=true)→(IL 0 (↑k:Int))),(((!decide (v.2.1.2 (↑k:Int).toNat<0))=true)→(IT (↑k:Int) (↑v.2.1.1:Int))),(((decide (v.2.1.2 (↑k:Int).toNat<0))=false)→ ((!decide (v.2.1.2 (↑k:Int).toNat<0))=true)),(AG (!bif decide (v.2.1.2 (↑k:Int).toNat<0) then true else decide (v.2.1.2 (↑k:Int).toNat≥v.1.1))),(AG ((!bif decide (v.2.1.2 (↑k:Int).toNat<0) then true else decide (v.2.1.2 (↑k:Int).toNat≥v.1.1))&&decide ((↑k:Int)>0))),((((!bif decide (v.2.1.2 (↑k:Int).toNat<0) then true else decide (v.2.1.2 (↑k:Int).toNat≥v.1.1))&&decide ((↑k:Int)>0))=true)→(NT 0 1)),((((!bif decide (v.2.1.2 (↑k:Int).toNat<0) then true else decide (v.2.1.2 (↑k:Int).toNat≥v.1.1))&&decide ((↑k:Int)>0))=true)→(ZLo ((↑k:Int) - 1))),((((!bif decide (v.2.1.2 (↑k:Int).toNat<0) then true else decide (v.2.1.2 (↑k:Int).toNat≥v.1.1))&&decide ((↑k:Int)>0))=true)→(ZHi ((↑k:Int) - 1))),((((!bif decide (v.2.1.2 (↑k:Int).toNat<0) then true else decide (v.2.1.2 (↑k:Int).toNat≥v.1.1))&&decide ((↑k:Int)>0))=true)→(IL 0 ((↑k:Int) - 1))),((((!bif decide (v.2.1.2 (↑k:Int).toNat<0) then true else decide (v.2.1.2 (↑k:Int).toNat≥v.1.1))&&decide ((↑k:Int)>0))=true)→(IT ((↑k:Int) - 1) (↑v.2.1.1:Int))),((((!bif decide (v.2.1.2 (↑k:Int).toNat<0) then true else decide (v.2.1.2 (↑k:Int).toNat≥v.1.1))&&decide ((↑k:Int)>0))=true)→(IL 0 (↑k:Int))),((((!bif decide (v.2.1.2 (↑k:Int).toNat<0) then true else decide (v.2.1.2 (↑k:Int).toNat≥v.1.1))&&decide ((↑k:Int)>0))=true)→(IT (↑k:Int) (↑v.2.1.1:Int))),(((!bif decide (v.2.1.2 (↑k:Int).toNat<0) then true else decide (v.2.1.2 (↑k:Int).toNat≥v.1.1))=true)→(((decide ((↑k:Int)>0))=true)→ (((!bif decide (v.2.1.2 (↑k:Int).toNat<0) then true else decide (v.2.1.2 (↑k:Int).toNat≥v.1.1))&&decide ((↑k:Int)>0))=true))),(((bif decide (v.2.1.2 (↑k:Int).toNat<0) then true else decide (v.2.1.2 (↑k:Int).toNat≥v.1.1))=false)→ ((!bif decide (v.2.1.2 (↑k:Int).toNat<0) then true else decide (v.2.1.2 (↑k:Int).toNat≥v.1.1))=true)),((bif bif decide (v.2.1.2 (↑k:Int).toNat<0) then true else decide (v.2.1.2 (↑k:Int).toNat≥v.1.1) then true else bif decide ((↑k:Int)>0) then decide (v.2.1.2 ((↑k:Int) - 1).toNat≥v.2.1.2 (↑k:Int).toNat) else false)=true),(false=false)] [0,1,0,2,3,4,5,4,4,6,7,4,4,4,5,4,4,8,9,9,10,11,10,12,13,10,10,14,15,10,10,11,10,10,16,17,10,10,10,9,18,19,20,21]):=by kernel_rfl
theorem p56d (v:T_Pinned) (k:Nat) :
    zM 0 [rg 5,.dec false,rg 1,.head] zf100 (S56a v k) [0] 1 (S56b v 0) =
    some (zf77,zD [(NT 0 1),((decide ((↑k:Int)<(↑v.2.1.1:Int)))=false),(AI v.1.1),(AN v.1.2.1.1),(AP v.1.2.1.1 (fun i=>[.int .i64 ((v.1.2.1.2 i).1),.int .i64 ((v.1.2.1.2 i).2.1)])),(AN v.2.1.1),(AP v.2.1.1 (fun i=>[.int .i64 (v.2.1.2 i)])),(AN 0),((0:Int)=(↑0:Int)),(AN 3),(NL 1 1)] [0,1,2,3,4,5,6,7,8,9,10,10,2,3,4,5,6]):=by kernel_rfl
theorem p56e (v:T_Pinned) (k:Nat) :
    zM 0 [rg 6,.dec true,rm [(9,oc [] (.p (.bool (hasI v.2.1.2 (v.1.2.1.2 k).1 v.2.1.1)))),(10,oc [] (.p (.bool (hasI v.2.1.2 (v.1.2.1.2 k).2.1 v.2.1.1))))] 1,.dec false,rg 3,.head] zf77 (S56b v k) [0] 1 (S56b v (k+1)) =
    some (zf77,zD [(NT 0 1),((decide ((↑k:Int)<(↑v.1.2.1.1:Int)))=true),(IL 0 (↑k:Int)),(IT (↑k:Int) (↑v.1.2.1.1:Int)),zE 172 [.p (.seq true 1 v.2.1.1 (fun i=>[.int .i64 (v.2.1.2 i)])),.p (.int .i64 ((v.1.2.1.2 k).1))] [] (.p (.bool (hasI v.2.1.2 (v.1.2.1.2 k).1 v.2.1.1))),(AG (hasI v.2.1.2 (v.1.2.1.2 k).1 v.2.1.1)),(((hasI v.2.1.2 (v.1.2.1.2 k).1 v.2.1.1)=true)→(NT 0 1)),(((hasI v.2.1.2 (v.1.2.1.2 k).1 v.2.1.1)=true)→(IL 0 (↑k:Int))),(((hasI v.2.1.2 (v.1.2.1.2 k).1 v.2.1.1)=true)→(IT (↑k:Int) (↑v.1.2.1.1:Int))),(((hasI v.2.1.2 (v.1.2.1.2 k).1 v.2.1.1)=true)→ zE 172 [.p (.seq true 1 v.2.1.1 (fun i=>[.int .i64 (v.2.1.2 i)])),.p (.int .i64 ((v.1.2.1.2 k).2.1))] [] (.p (.bool (hasI v.2.1.2 (v.1.2.1.2 k).2.1 v.2.1.1)))),((bif hasI v.2.1.2 (v.1.2.1.2 k).1 v.2.1.1 then hasI v.2.1.2 (v.1.2.1.2 k).2.1 v.2.1.1 else false)=false),(ZLo ((↑k:Int)+1)),(ZHi ((↑k:Int)+1)),(AI v.1.1),(AN v.1.2.1.1),(AP v.1.2.1.1 (fun i=>[.int .i64 ((v.1.2.1.2 i).1),.int .i64 ((v.1.2.1.2 i).2.1)])),(AN v.2.1.1),(AP v.2.1.1 (fun i=>[.int .i64 (v.2.1.2 i)])),(AN 0),((((↑k:Int)+1):Int)=(↑(k+1):Int)),(AN 3),(NL 1 1)] [0,1,0,0,2,3,4,5,6,5,5,6,5,5,7,8,5,5,5,5,9,5,10,11,12,13,14,15,16,17,18,19,20,21,21,13,14,15,16,17]):=by kernel_rfl
theorem p56f (v:T_Pinned) (k:Nat) :
    zP Tryz.f240 0 [rg 6,.dec true,rm [(9,oc [] (.p (.bool (hasI v.2.1.2 (v.1.2.1.2 k).1 v.2.1.1)))),(10,oc [] (.p (.bool (hasI v.2.1.2 (v.1.2.1.2 k).2.1 v.2.1.1))))] 1,.dec true,rg 1] zf77 (S56b v k) [] 1 [] (.p (.bool false)) =
    some (zD [(NT 0 1),((decide ((↑k:Int)<(↑v.1.2.1.1:Int)))=true),(IL 0 (↑k:Int)),(IT (↑k:Int) (↑v.1.2.1.1:Int)),zE 172 [.p (.seq true 1 v.2.1.1 (fun i=>[.int .i64 (v.2.1.2 i)])),.p (.int .i64 ((v.1.2.1.2 k).1))] [] (.p (.bool (hasI v.2.1.2 (v.1.2.1.2 k).1 v.2.1.1))),(AG (hasI v.2.1.2 (v.1.2.1.2 k).1 v.2.1.1)),(((hasI v.2.1.2 (v.1.2.1.2 k).1 v.2.1.1)=true)→(NT 0 1)),(((hasI v.2.1.2 (v.1.2.1.2 k).1 v.2.1.1)=true)→(IL 0 (↑k:Int))),(((hasI v.2.1.2 (v.1.2.1.2 k).1 v.2.1.1)=true)→(IT (↑k:Int) (↑v.1.2.1.1:Int))),(((hasI v.2.1.2 (v.1.2.1.2 k).1 v.2.1.1)=true)→ zE 172 [.p (.seq true 1 v.2.1.1 (fun i=>[.int .i64 (v.2.1.2 i)])),.p (.int .i64 ((v.1.2.1.2 k).2.1))] [] (.p (.bool (hasI v.2.1.2 (v.1.2.1.2 k).2.1 v.2.1.1)))),((bif hasI v.2.1.2 (v.1.2.1.2 k).1 v.2.1.1 then hasI v.2.1.2 (v.1.2.1.2 k).2.1 v.2.1.1 else false)=true),(false=false)] [0,1,0,0,2,3,4,5,6,5,5,6,5,5,7,8,5,5,5,5,9,5,10,11]):=by kernel_rfl
theorem p56g (v:T_Pinned) (k:Nat) :
    zP Tryz.f240 0 [rg 6,.dec false,rm [(2,oc [] (.p (.bool (simpleF v.1))))] 27] zf77 (S56b v k) [] 1 [] (.p (.bool (tailP v))) =
    some (zD [(NT 0 1),((decide ((↑k:Int)<(↑v.1.2.1.1:Int)))=false),zE 209 [(zf103 v)] [] (.p (.bool (simpleF v.1))),(AG (simpleF v.1)),(((simpleF v.1)=true)→(NT 0 1)),(AG (bif simpleF v.1 then decide ((↑v.2.1.1:Int)≥2) else false)),(((bif simpleF v.1 then decide ((↑v.2.1.1:Int)≥2) else false)=true)→(NT 0 1)),(AG (bif bif simpleF v.1 then decide ((↑v.2.1.1:Int)≥2) else false then decide ((↑v.1.2.1.1:Int)≤15) else false)),(((bif bif simpleF v.1 then decide ((↑v.2.1.1:Int)≥2) else false then decide ((↑v.1.2.1.1:Int)≤15) else false)=true)→(NT 0 1)),(((bif bif simpleF v.1 then decide ((↑v.2.1.1:Int)≥2) else false then decide ((↑v.1.2.1.1:Int)≤15) else false)=true)→(ZLo (2*(↑v.2.1.1:Int)))),(((bif bif simpleF v.1 then decide ((↑v.2.1.1:Int)≥2) else false then decide ((↑v.1.2.1.1:Int)≤15) else false)=true)→(ZHi (2*(↑v.2.1.1:Int)))),(((bif bif simpleF v.1 then decide ((↑v.2.1.1:Int)≥2) else false then decide ((↑v.1.2.1.1:Int)≤15) else false)=true)→(ZLo ((↑v.1.2.1.1:Int)+2*(↑v.2.1.1:Int)))),(((bif bif simpleF v.1 then decide ((↑v.2.1.1:Int)≥2) else false then decide ((↑v.1.2.1.1:Int)≤15) else false)=true)→(ZHi ((↑v.1.2.1.1:Int)+2*(↑v.2.1.1:Int)))),(((bif bif simpleF v.1 then decide ((↑v.2.1.1:Int)≥2) else false then decide ((↑v.1.2.1.1:Int)≤15) else false)=true)→(ZLo ((↑v.1.2.1.1:Int)+2*(↑v.2.1.1:Int) - 3))),(((bif bif simpleF v.1 then decide ((↑v.2.1.1:Int)≥2) else false then decide ((↑v.1.2.1.1:Int)≤15) else false)=true)→(ZHi ((↑v.1.2.1.1:Int)+2*(↑v.2.1.1:Int) - 3))),((bif bif bif simpleF v.1 then decide ((↑v.2.1.1:Int)≥2) else false then decide ((↑v.1.2.1.1:Int)≤15) else false then decide ((↑v.1.2.1.1:Int)+2*(↑v.2.1.1:Int) - 3≤24) else false)=(tailP v))] [0,1,0,2,3,4,3,3,3,5,5,6,5,5,5,7,7,8,7,7,8,7,7,9,10,7,7,11,12,7,13,14,7,7,15]):=by kernel_rfl
theorem goodP_bad (N:Int) (g:Nat→Int) (k:Nat) (h:badP N g k=true):∀ n,k<n→goodP N g n=false
  | 0,h'=>by omega
  | n+1,h'=>by
    by_cases e:k=n
    · subst e;rw [goodP,h];simp
    · rw [goodP,goodP_bad N g k h n (by omega)];simp
theorem freeP_bad (p:T_IntS) (g:Nat→T_Bar) (k:Nat) (h:bothP p (g k)=true):∀ n,k<n→freeP p g n=false
  | 0,h'=>by omega
  | n+1,h'=>by
    by_cases e:k=n
    · subst e;rw [freeP,h];simp
    · rw [freeP,freeP_bad p g k h n (by omega)];simp
theorem con_IsPinned_s (v:T_Pinned) (hs:smS s_Pinned v):zE 240 [pinA v] [] (.p (.bool (pinnedF v))):=by
  refine csZ Tryz.func240 (fun c hc=>?_)
  have hg:smS s_Graph v.1:=hs.1
  have hnb:v.1.2.1.1≤1048576:=hs.1.2.1.1
  have hni:v.2.1.1≤1048576:=hs.2.1.1
  have lp2:goodP v.1.1 v.2.1.2 v.2.1.1=true→∀ m k,k+m=v.1.2.1.1→freeP v.2.1 v.1.2.1.2 k=true→zR c 240 zf77 (S56b v k) (Post c [] (.p (.bool (pinnedF v)))):=by
    intro hgood m
    induction m with
    | zero =>
      intro k hk hf
      rw [show pinnedF v=tailP v by rw [pinnedF,hgood,show v.1.2.1.1=k by omega,hf];rfl]
      have hd:decide ((k:Int)<(v.1.2.1.1:Int))=false:=by simp;omega
      refine pkD Tryz.func240 hc (p56g v k) ?_
      and_intros
      all_goals (first | exact zI | (exact con_l17Simple v.1 hg))
    | succ m ih =>
      intro k hk hf
      have hd:decide ((k:Int)<(v.1.2.1.1:Int))=true:=by simp;omega
      cases he:bothP v.2.1 (v.1.2.1.2 k) with
      | true =>
        rw [show pinnedF v=false by rw [pinnedF,freeP_bad v.2.1 v.1.2.1.2 k he v.1.2.1.1 (by omega)];simp]
        refine pkD Tryz.func240 hc (p56f v k) ?_
        and_intros
        all_goals (first | exact zI | (intros;exact con_l2Has v.2.1 _ hni) | (exact he))
      | false =>
        refine pcD hc (p56e v k) ?_ (ih (k+1) (by omega) (by rw [freeP,hf,he];rfl))
        and_intros
        all_goals (first | exact zI | (intros;exact con_l2Has v.2.1 _ hni) | (exact he) | (simp [All]))
  have lp1:∀ m k,k+m=v.2.1.1→goodP v.1.1 v.2.1.2 k=true→zR c 240 zf100 (S56a v k) (Post c [] (.p (.bool (pinnedF v)))):=by
    intro m
    induction m with
    | zero =>
      intro k hk hgd
      have hd:decide ((k:Int)<(v.2.1.1:Int))=false:=by simp;omega
      refine pcD hc (p56d v k) ?_ (lp2 (by rw [show v.2.1.1=k by omega];exact hgd) v.1.2.1.1 0 (by omega) rfl)
      and_intros
      all_goals (first | exact zN | (simp [All]))
    | succ m ih =>
      intro k hk hgd
      have hkn:k<v.2.1.1:=by omega
      have hd:decide ((k:Int)<(v.2.1.1:Int))=true:=by simp;omega
      cases he:badP v.1.1 v.2.1.2 k with
      | true =>
        rw [show pinnedF v=false by rw [pinnedF,goodP_bad _ _ k he v.2.1.1 (by omega)];rfl]
        refine pkD Tryz.func240 hc (p56c v k) ?_
        and_intros
        all_goals (first | exact zH | (exact he) | (intro h;have:=idx_lt h hkn;omega))
      | false =>
        refine pcD hc (p56b v k) ?_ (ih (k+1) (by omega) (by rw [goodP,hgd,he];rfl))
        and_intros
        all_goals (first | exact zH | (exact he) | (intro h;have:=idx_lt h hkn;omega) | (simp [All]))
  refine pcD hc (p56a v) ?_ (lp1 v.2.1.1 0 (by omega) rfl)
  and_intros
  all_goals (first | exact zN | (simp [All]))
def headP (v:T_Pinned):Bool :=
  bif bif bif bif !isGraphF v.1 then true else dblB v.1.2.1.2 v.1.2.1.1 then true else decide ((v.2.1.1:Int)<2) then true else decide ((v.1.2.1.1:Int)>15) then true else decide ((v.1.2.1.1:Int)+2*(v.2.1.1:Int) - 3>24)
def S57a (v:T_Pinned) (k:Nat):St :=
  ⟨[pinA v,.pt 3 0 0 0,.p .any,.pt 2 1 0 0]++List.replicate 38 anyA++[inL v.2.1,.p (.int .i64 v.2.1.1),.p (.int .i64 k)]++List.replicate 43 anyA,[(0,boxP v),(1,boxG v.1)],2⟩
def S57b (v:T_Pinned) (k:Nat):St :=
  ⟨[pinA v,.pt 3 0 0 0,.p .any,.p .any]++List.replicate 65 anyA++[graphL v.1.2.1,.p (.int .i64 v.1.2.1.1),.p (.int .i64 k)]++List.replicate 16 anyA,[(0,boxP v)],1⟩
theorem p57z (v:T_Pinned) :
    zS Tryz.f142 [rg 2,rg 4,rm [(1,oc [] (.p (.bool (isGraphF v.1)))),(3,oc [] (.p (.bool (dblB v.1.2.1.2 v.1.2.1.1))))] 25,.dec true,rg 1] [pinA v] [] [] (.p (.bool false)) =
    some (zD [(NT 0 1),((true=true)→ (AN 1)),zE 62 [(zf103 v)] [] (.p (.bool (isGraphF v.1))),(((!!isGraphF v.1)=true)→(NT 0 1)),(AG (!!isGraphF v.1)),(((!!isGraphF v.1)=true)→ zE 217 [(zf103 v)] [] (.p (.bool (dblB v.1.2.1.2 v.1.2.1.1)))),(((!isGraphF v.1)=false)→ ((!!isGraphF v.1)=true)),(AG (!bif !isGraphF v.1 then true else dblB v.1.2.1.2 v.1.2.1.1)),(((!bif !isGraphF v.1 then true else dblB v.1.2.1.2 v.1.2.1.1)=true)→(NT 0 1)),(((bif !isGraphF v.1 then true else dblB v.1.2.1.2 v.1.2.1.1)=false)→ ((!bif !isGraphF v.1 then true else dblB v.1.2.1.2 v.1.2.1.1)=true)),(AG (!bif bif !isGraphF v.1 then true else dblB v.1.2.1.2 v.1.2.1.1 then true else decide ((↑v.2.1.1:Int)<2))),(((!bif bif !isGraphF v.1 then true else dblB v.1.2.1.2 v.1.2.1.1 then true else decide ((↑v.2.1.1:Int)<2))=true)→(NT 0 1)),(((bif bif !isGraphF v.1 then true else dblB v.1.2.1.2 v.1.2.1.1 then true else decide ((↑v.2.1.1:Int)<2))=false)→ ((!bif bif !isGraphF v.1 then true else dblB v.1.2.1.2 v.1.2.1.1 then true else decide ((↑v.2.1.1:Int)<2))=true)),(AG (!bif bif bif !isGraphF v.1 then true else dblB v.1.2.1.2 v.1.2.1.1 then true else decide ((↑v.2.1.1:Int)<2) then true else decide ((↑v.1.2.1.1:Int)>15))),(((!bif bif bif !isGraphF v.1 then true else dblB v.1.2.1.2 v.1.2.1.1 then true else decide ((↑v.2.1.1:Int)<2) then true else decide ((↑v.1.2.1.1:Int)>15))=true)→(NT 0 1)),(((!bif bif bif !isGraphF v.1 then true else dblB v.1.2.1.2 v.1.2.1.1 then true else decide ((↑v.2.1.1:Int)<2) then true else decide ((↑v.1.2.1.1:Int)>15))=true)→(ZLo (2*(↑v.2.1.1:Int)))),(((!bif bif bif !isGraphF v.1 then true else dblB v.1.2.1.2 v.1.2.1.1 then true else decide ((↑v.2.1.1:Int)<2) then true else decide ((↑v.1.2.1.1:Int)>15))=true)→(ZHi (2*(↑v.2.1.1:Int)))),(((!bif bif bif !isGraphF v.1 then true else dblB v.1.2.1.2 v.1.2.1.1 then true else decide ((↑v.2.1.1:Int)<2) then true else decide ((↑v.1.2.1.1:Int)>15))=true)→(ZLo ((↑v.1.2.1.1:Int)+2*(↑v.2.1.1:Int)))),(((!bif bif bif !isGraphF v.1 then true else dblB v.1.2.1.2 v.1.2.1.1 then true else decide ((↑v.2.1.1:Int)<2) then true else decide ((↑v.1.2.1.1:Int)>15))=true)→(ZHi ((↑v.1.2.1.1:Int)+2*(↑v.2.1.1:Int)))),(((!bif bif bif !isGraphF v.1 then true else dblB v.1.2.1.2 v.1.2.1.1 then true else decide ((↑v.2.1.1:Int)<2) then true else decide ((↑v.1.2.1.1:Int)>15))=true)→(ZLo ((↑v.1.2.1.1:Int)+2*(↑v.2.1.1:Int) - 3))),(((!bif bif bif !isGraphF v.1 then true else dblB v.1.2.1.2 v.1.2.1.1 then true else decide ((↑v.2.1.1:Int)<2) then true else decide ((↑v.1.2.1.1:Int)>15))=true)→(ZHi ((↑v.1.2.1.1:Int)+2*(↑v.2.1.1:Int) - 3))),(((bif bif bif !isGraphF v.1 then true else dblB v.1.2.1.2 v.1.2.1.1 then true else decide ((↑v.2.1.1:Int)<2) then true else decide ((↑v.1.2.1.1:Int)>15))=false)→ ((!bif bif bif !isGraphF v.1 then true else dblB v.1.2.1.2 v.1.2.1.1 then true else decide ((↑v.2.1.1:Int)<2) then true else decide ((↑v.1.2.1.1:Int)>15))=true)),((bif bif bif bif !isGraphF v.1 then true else dblB v.1.2.1.2 v.1.2.1.1 then true else decide ((↑v.2.1.1:Int)<2) then true else decide ((↑v.1.2.1.1:Int)>15) then true else decide ((↑v.1.2.1.1:Int)+2*(↑v.2.1.1:Int) - 3>24))=true),(false=false)] [0,0,1,0,2,3,4,5,6,7,8,7,7,9,10,11,10,10,12,13,14,13,13,14,13,13,15,16,13,13,17,18,13,19,20,13,21,22,23]):=by kernel_rfl
theorem p57a (v:T_Pinned) :
    zT Tryz.f142 [rg 2,rg 4,rm [(1,oc [] (.p (.bool (isGraphF v.1)))),(3,oc [] (.p (.bool (dblB v.1.2.1.2 v.1.2.1.1))))] 25,.dec false,rg 4,.head] [pinA v] [0,128] (S57a v 0) =
    some (zf64,zD [(NT 0 1),((true=true)→ (AN 1)),zE 62 [(zf103 v)] [] (.p (.bool (isGraphF v.1))),(((!!isGraphF v.1)=true)→(NT 0 1)),(AG (!!isGraphF v.1)),(((!!isGraphF v.1)=true)→ zE 217 [(zf103 v)] [] (.p (.bool (dblB v.1.2.1.2 v.1.2.1.1)))),(((!isGraphF v.1)=false)→ ((!!isGraphF v.1)=true)),(AG (!bif !isGraphF v.1 then true else dblB v.1.2.1.2 v.1.2.1.1)),(((!bif !isGraphF v.1 then true else dblB v.1.2.1.2 v.1.2.1.1)=true)→(NT 0 1)),(((bif !isGraphF v.1 then true else dblB v.1.2.1.2 v.1.2.1.1)=false)→ ((!bif !isGraphF v.1 then true else dblB v.1.2.1.2 v.1.2.1.1)=true)),(AG (!bif bif !isGraphF v.1 then true else dblB v.1.2.1.2 v.1.2.1.1 then true else decide ((↑v.2.1.1:Int)<2))),(((!bif bif !isGraphF v.1 then true else dblB v.1.2.1.2 v.1.2.1.1 then true else decide ((↑v.2.1.1:Int)<2))=true)→(NT 0 1)),(((bif bif !isGraphF v.1 then true else dblB v.1.2.1.2 v.1.2.1.1 then true else decide ((↑v.2.1.1:Int)<2))=false)→ ((!bif bif !isGraphF v.1 then true else dblB v.1.2.1.2 v.1.2.1.1 then true else decide ((↑v.2.1.1:Int)<2))=true)),(AG (!bif bif bif !isGraphF v.1 then true else dblB v.1.2.1.2 v.1.2.1.1 then true else decide ((↑v.2.1.1:Int)<2) then true else decide ((↑v.1.2.1.1:Int)>15))),(((!bif bif bif !isGraphF v.1 then true else dblB v.1.2.1.2 v.1.2.1.1 then true else decide ((↑v.2.1.1:Int)<2) then true else decide ((↑v.1.2.1.1:Int)>15))=true)→(NT 0 1)),(((!bif bif bif !isGraphF v.1 then true else dblB v.1.2.1.2 v.1.2.1.1 then true else decide ((↑v.2.1.1:Int)<2) then true else decide ((↑v.1.2.1.1:Int)>15))=true)→(ZLo (2*(↑v.2.1.1:Int)))),(((!bif bif bif !isGraphF v.1 then true else dblB v.1.2.1.2 v.1.2.1.1 then true else decide ((↑v.2.1.1:Int)<2) then true else decide ((↑v.1.2.1.1:Int)>15))=true)→(ZHi (2*(↑v.2.1.1:Int)))),(((!bif bif bif !isGraphF v.1 then true else dblB v.1.2.1.2 v.1.2.1.1 then true else decide ((↑v.2.1.1:Int)<2) then true else decide ((↑v.1.2.1.1:Int)>15))=true)→(ZLo ((↑v.1.2.1.1:Int)+2*(↑v.2.1.1:Int)))),(((!bif bif bif !isGraphF v.1 then true else dblB v.1.2.1.2 v.1.2.1.1 then true else decide ((↑v.2.1.1:Int)<2) then true else decide ((↑v.1.2.1.1:Int)>15))=true)→(ZHi ((↑v.1.2.1.1:Int)+2*(↑v.2.1.1:Int)))),(((!bif bif bif !isGraphF v.1 then true else dblB v.1.2.1.2 v.1.2.1.1 then true else decide ((↑v.2.1.1:Int)<2) then true else decide ((↑v.1.2.1.1:Int)>15))=true)→(ZLo ((↑v.1.2.1.1:Int)+2*(↑v.2.1.1:Int) - 3))),(((!bif bif bif !isGraphF v.1 then true else dblB v.1.2.1.2 v.1.2.1.1 then true else decide ((↑v.2.1.1:Int)<2) then true else decide ((↑v.1.2.1.1:Int)>15))=true)→(ZHi ((↑v.1.2.1.1:Int)+2*(↑v.2.1.1:Int) - 3))),(((bif bif bif !isGraphF v.1 then true else dblB v.1.2.1.2 v.1.2.1.1 then true else decide ((↑v.2.1.1:Int)<2) then true else decide ((↑v.1.2.1.1:Int)>15))=false)→ ((!bif bif bif !isGraphF v.1 then true else dblB v.1.2.1.2 v.1.2.1.1 then true else decide ((↑v.2.1.1:Int)<2) then true else decide ((↑v.1.2.1.1:Int)>15))=true)),((bif bif bif bif !isGraphF v.1 then true else dblB v.1.2.1.2 v.1.2.1.1 then true else decide ((↑v.2.1.1:Int)<2) then true else decide ((↑v.1.2.1.1:Int)>15) then true else decide ((↑v.1.2.1.1:Int)+2*(↑v.2.1.1:Int) - 3>24))=false),(AI v.1.1),(AN v.1.2.1.1),(AP v.1.2.1.1 (fun i=>[.int .i64 ((v.1.2.1.2 i).1),.int .i64 ((v.1.2.1.2 i).2.1)])),(AN v.2.1.1),(AP v.2.1.1 (fun i=>[.int .i64 (v.2.1.2 i)])),(AN 0),(AI ((↑v.2.1.1:Int))),((0:Int)=(↑0:Int)),((([AV.p (PV.int IntKind.i64 v.1.1),graphL v.1.2.1,inL v.2.1].length):Nat)=3),(NL 1 1),((((List.map (fun v=>AV.p (absV v)) [Value.int IntKind.i64 0,Value.slice none 0 0]).length):Nat)=2)] [0,0,1,0,2,3,4,5,6,7,8,7,7,9,10,11,10,10,12,13,14,13,13,14,13,13,15,16,13,13,17,18,13,19,20,13,21,22,0,23,24,25,26,27,28,28,26,27,29,30,31,32,32,23,24,25,26,27,33,32,32,23,24,25]):=by kernel_rfl
theorem p57b (v:T_Pinned) (k:Nat) :
    zM 0 [rg 1,.dec true,rg 5,rm [(2,oc [] (.p (.bool (inB (v.2.1.2 k) 0 (v.1.1 - 1)))))] 15,.dec false,rg 2,.head] zf64 (S57a v k) [0,1] 1 (S57a v (k+1)) =
    some (zf64,zD [((decide ((↑k:Int)<(↑v.2.1.1:Int)))=true),(IL 0 (↑k:Int)),(IT (↑k:Int) (↑v.2.1.1:Int)),(NT 0 1),zE 205 [(zf103 v),.p (.int .i64 (v.2.1.2 k))] [] (.p (.bool (inB (v.2.1.2 k) 0 (v.1.1 - 1)))),(AG (!!inB (v.2.1.2 k) 0 (v.1.1 - 1))),(AG (!!inB (v.2.1.2 k) 0 (v.1.1 - 1)&&decide ((↑k:Int)>0))),(((!!inB (v.2.1.2 k) 0 (v.1.1 - 1)&&decide ((↑k:Int)>0))=true)→(NT 0 1)),(((!!inB (v.2.1.2 k) 0 (v.1.1 - 1)&&decide ((↑k:Int)>0))=true)→(ZLo ((↑k:Int) - 1))),(((!!inB (v.2.1.2 k) 0 (v.1.1 - 1)&&decide ((↑k:Int)>0))=true)→(ZHi ((↑k:Int) - 1))),(((!!inB (v.2.1.2 k) 0 (v.1.1 - 1)&&decide ((↑k:Int)>0))=true)→(IL 0 ((↑k:Int) - 1))),(((!!inB (v.2.1.2 k) 0 (v.1.1 - 1)&&decide ((↑k:Int)>0))=true)→(IT ((↑k:Int) - 1) (↑v.2.1.1:Int))),(((!!inB (v.2.1.2 k) 0 (v.1.1 - 1))=true)→(((decide ((↑k:Int)>0))=true)→ ((!!inB (v.2.1.2 k) 0 (v.1.1 - 1)&&decide ((↑k:Int)>0))=true))),(((!inB (v.2.1.2 k) 0 (v.1.1 - 1))=false)→ ((!!inB (v.2.1.2 k) 0 (v.1.1 - 1))=true)),((bif !inB (v.2.1.2 k) 0 (v.1.1 - 1) then true else bif decide ((↑k:Int)>0) then decide (v.2.1.2 ((↑k:Int) - 1).toNat≥v.2.1.2 (↑k:Int).toNat) else false)=false),(ZLo ((↑k:Int)+1)),(ZHi ((↑k:Int)+1)),(AI v.1.1),(AN v.1.2.1.1),(AP v.1.2.1.1 (fun i=>[.int .i64 ((v.1.2.1.2 i).1),.int .i64 ((v.1.2.1.2 i).2.1)])),(AN v.2.1.1),(AP v.2.1.1 (fun i=>[.int .i64 (v.2.1.2 i)])),(AN 0),(AI ((↑v.2.1.1:Int))),((((↑k:Int)+1):Int)=(↑(k+1):Int)),(AN 3),(NL 1 1),(AN 2)] [0,1,2,3,4,5,5,6,7,6,8,9,6,6,10,11,6,6,6,5,12,13,14,15,16,17,18,19,20,21,22,22,20,21,23,24,25,26,26,17,18,19,20,21,27,26,26,17,18,19]):=by kernel_rfl
theorem p57c (v:T_Pinned) (k:Nat) :
    zP Tryz.f142 0 [rg 1,.dec true,rg 5,rm [(2,oc [] (.p (.bool (inB (v.2.1.2 k) 0 (v.1.1 - 1)))))] 15,.dec true,rg 1] zf64 (S57a v k) [] 1 [] (.p (.bool false)) =
    some (zD [((decide ((↑k:Int)<(↑v.2.1.1:Int)))=true),(IL 0 (↑k:Int)),(IT (↑k:Int) (↑v.2.1.1:Int)),(NT 0 1),zE 205 [(zf103 v),.p (.int .i64 (v.2.1.2 k))] [] (.p (.bool (inB (v.2.1.2 k) 0 (v.1.1 - 1)))),(AG (!!inB (v.2.1.2 k) 0 (v.1.1 - 1))),(AG (!!inB (v.2.1.2 k) 0 (v.1.1 - 1)&&decide ((↑k:Int)>0))),(((!!inB (v.2.1.2 k) 0 (v.1.1 - 1)&&decide ((↑k:Int)>0))=true)→(NT 0 1)),(((!!inB (v.2.1.2 k) 0 (v.1.1 - 1)&&decide ((↑k:Int)>0))=true)→(ZLo ((↑k:Int) - 1))),(((!!inB (v.2.1.2 k) 0 (v.1.1 - 1)&&decide ((↑k:Int)>0))=true)→(ZHi ((↑k:Int) - 1))),(((!!inB (v.2.1.2 k) 0 (v.1.1 - 1)&&decide ((↑k:Int)>0))=true)→(IL 0 ((↑k:Int) - 1))),(((!!inB (v.2.1.2 k) 0 (v.1.1 - 1)&&decide ((↑k:Int)>0))=true)→(IT ((↑k:Int) - 1) (↑v.2.1.1:Int))),(((!!inB (v.2.1.2 k) 0 (v.1.1 - 1))=true)→(((decide ((↑k:Int)>0))=true)→ ((!!inB (v.2.1.2 k) 0 (v.1.1 - 1)&&decide ((↑k:Int)>0))=true))),(((!inB (v.2.1.2 k) 0 (v.1.1 - 1))=false)→ ((!!inB (v.2.1.2 k) 0 (v.1.1 - 1))=true)),((bif !inB (v.2.1.2 k) 0 (v.1.1 - 1) then true else bif decide ((↑k:Int)>0) then decide (v.2.1.2 ((↑k:Int) - 1).toNat≥v.2.1.2 (↑k:Int).toNat) else false)=true),(false=false)] [0,1,2,3,4,5,5,6,7,6,8,9,6,6,10,11,6,6,6,5,12,13,14,15]):=by kernel_rfl
theorem p57d (v:T_Pinned) (k:Nat) :
    zM 0 [rg 1,.dec false,rg 4,.head] zf64 (S57a v k) [0] 1 (S57b v 0) =
    some (zf45,zD [((decide ((↑k:Int)<(↑v.2.1.1:Int)))=false),(NT 0 1),(AI v.1.1),(AN v.1.2.1.1),(AP v.1.2.1.1 (fun i=>[.int .i64 ((v.1.2.1.2 i).1),.int .i64 ((v.1.2.1.2 i).2.1)])),(AN v.2.1.1),(AP v.2.1.1 (fun i=>[.int .i64 (v.2.1.2 i)])),(AN 0),(AI ((↑v.1.2.1.1:Int))),((0:Int)=(↑0:Int)),(AN 3),(NL 1 1)] [0,1,2,3,4,5,6,7,3,4,8,9,10,11,11,2,3,4,5,6]):=by kernel_rfl
theorem p57e (v:T_Pinned) (k:Nat) :
    zM 0 [rg 1,.dec true,rg 4,rm [(4,oc [] (.p (.bool (hasI v.2.1.2 (v.1.2.1.2 k).1 v.2.1.1)))),(5,oc [] (.p (.bool (hasI v.2.1.2 (v.1.2.1.2 k).2.1 v.2.1.1))))] 1,.dec false,rg 2,.head] zf45 (S57b v k) [0] 1 (S57b v (k+1)) =
    some (zf45,zD [((decide ((↑k:Int)<(↑v.1.2.1.1:Int)))=true),(IL 0 (↑k:Int)),(IT (↑k:Int) (↑v.1.2.1.1:Int)),(NT 0 1),((true=true)→ (AN 1)),zE 184 [.p (.seq true 1 v.2.1.1 (fun i=>[.int .i64 (v.2.1.2 i)])),.p (.int .i64 ((v.1.2.1.2 k).1))] [] (.p (.bool (hasI v.2.1.2 (v.1.2.1.2 k).1 v.2.1.1))),(AG (hasI v.2.1.2 (v.1.2.1.2 k).1 v.2.1.1)),(((hasI v.2.1.2 (v.1.2.1.2 k).1 v.2.1.1)=true)→(NT 0 1)),(((hasI v.2.1.2 (v.1.2.1.2 k).1 v.2.1.1)=true)→ zE 184 [.p (.seq true 1 v.2.1.1 (fun i=>[.int .i64 (v.2.1.2 i)])),.p (.int .i64 ((v.1.2.1.2 k).2.1))] [] (.p (.bool (hasI v.2.1.2 (v.1.2.1.2 k).2.1 v.2.1.1)))),((bif hasI v.2.1.2 (v.1.2.1.2 k).1 v.2.1.1 then hasI v.2.1.2 (v.1.2.1.2 k).2.1 v.2.1.1 else false)=false),(ZLo ((↑k:Int)+1)),(ZHi ((↑k:Int)+1)),(AI v.1.1),(AN v.1.2.1.1),(AP v.1.2.1.1 (fun i=>[.int .i64 ((v.1.2.1.2 i).1),.int .i64 ((v.1.2.1.2 i).2.1)])),(AN v.2.1.1),(AP v.2.1.1 (fun i=>[.int .i64 (v.2.1.2 i)])),(AN 0),(AI ((↑v.1.2.1.1:Int))),((((↑k:Int)+1):Int)=(↑(k+1):Int)),(AN 3),(NL 1 1)] [0,1,2,3,4,3,3,5,6,7,6,7,6,6,8,6,9,10,11,12,13,14,15,16,17,13,14,18,19,20,21,21,12,13,14,15,16]):=by kernel_rfl
theorem p57f (v:T_Pinned) (k:Nat) :
    zP Tryz.f142 0 [rg 1,.dec true,rg 4,rm [(4,oc [] (.p (.bool (hasI v.2.1.2 (v.1.2.1.2 k).1 v.2.1.1)))),(5,oc [] (.p (.bool (hasI v.2.1.2 (v.1.2.1.2 k).2.1 v.2.1.1))))] 1,.dec true,rg 1] zf45 (S57b v k) [] 1 [] (.p (.bool false)) =
    some (zD [((decide ((↑k:Int)<(↑v.1.2.1.1:Int)))=true),(IL 0 (↑k:Int)),(IT (↑k:Int) (↑v.1.2.1.1:Int)),(NT 0 1),((true=true)→ (AN 1)),zE 184 [.p (.seq true 1 v.2.1.1 (fun i=>[.int .i64 (v.2.1.2 i)])),.p (.int .i64 ((v.1.2.1.2 k).1))] [] (.p (.bool (hasI v.2.1.2 (v.1.2.1.2 k).1 v.2.1.1))),(AG (hasI v.2.1.2 (v.1.2.1.2 k).1 v.2.1.1)),(((hasI v.2.1.2 (v.1.2.1.2 k).1 v.2.1.1)=true)→(NT 0 1)),(((hasI v.2.1.2 (v.1.2.1.2 k).1 v.2.1.1)=true)→ zE 184 [.p (.seq true 1 v.2.1.1 (fun i=>[.int .i64 (v.2.1.2 i)])),.p (.int .i64 ((v.1.2.1.2 k).2.1))] [] (.p (.bool (hasI v.2.1.2 (v.1.2.1.2 k).2.1 v.2.1.1)))),((bif hasI v.2.1.2 (v.1.2.1.2 k).1 v.2.1.1 then hasI v.2.1.2 (v.1.2.1.2 k).2.1 v.2.1.1 else false)=true),(false=false)] [0,1,2,3,4,3,3,5,6,7,6,7,6,6,8,6,9,10]):=by kernel_rfl
theorem p57g (v:T_Pinned) (k:Nat) :
    zP Tryz.f142 0 [rg 1,.dec false,rg 1] zf45 (S57b v k) [] 1 [] (.p (.bool true)) =
    some [((decide ((↑k:Int)<(↑v.1.2.1.1:Int)))=false),(true=true)]:=by kernel_rfl
theorem dge (a b:Int):decide (a≥b)=!decide (a<b):=by
  by_cases h:a<b
  · have:¬ (a≥b):=by omega
    rw [decide_eq_true h,decide_eq_false this];rfl
  · have:a≥b:=by omega
    rw [decide_eq_false h,decide_eq_true this];rfl
theorem dle (a b:Int):decide (a≤b)=!decide (a>b):=dge b a
theorem headP_tail (v:T_Pinned):headP v=!tailP v:=by
  unfold headP tailP simpleF
  rw [dge,dle,dle]
  generalize decide ((v.2.1.1:Int)<2)=x
  generalize decide ((v.1.2.1.1:Int)>15)=y
  generalize decide ((v.1.2.1.1:Int)+2*(v.2.1.1:Int) - 3>24)=z
  cases isGraphF v.1<;>cases dblB v.1.2.1.2 v.1.2.1.1<;>cases x<;>cases y<;>cases z<;>rfl
theorem bad_in (N:Int) (g:Nat→Int) (k:Nat) {b:Bool} (h:badP N g k=b) :
    (bif !inB (g k) 0 (N - 1) then true else bif decide ((k:Int)>0) then decide (g ((k:Int) - 1).toNat≥g k) else false)=b:=by
  rw [← h]
  unfold badP inB
  by_cases h1:g k<0
  · have h2:¬ (0≤g k):=by omega
    simp [h1,h2]
  · have h2:0≤g k:=by omega
    by_cases h3:g k≥N
    · have h4:¬ (g k≤N - 1):=by omega
      simp [h1,h2,h3,h4]
    · have h4:g k≤N - 1:=by omega
      simp [h1,h2,h3,h4]
theorem con_IsPinned_i (v:T_Pinned) (hs:smS s_Pinned v):zE 142 [pinA v] [] (.p (.bool (pinnedF v))):=by
  refine csZ Tryz.func142 (fun c hc=>?_)
  have hg:smS s_Graph v.1:=hs.1
  have hnb:v.1.2.1.1≤1048576:=hs.1.2.1.1
  have hni:v.2.1.1≤1048576:=hs.2.1.1
  cases ht:headP v with
  | true =>
    rw [show pinnedF v=false by rw [pinnedF,show tailP v=false by have:=headP_tail v;rw [ht] at this;simpa using this];simp]
    have ht':=ht
    unfold headP at ht'
    refine pkD Tryz.func142 hc (p57z v) ?_
    and_intros
    all_goals (first | exact zH | (exact con_IsGraph_i v.1 hg) | (exact con_hasDoubles v.1 hg) | (intros;exact con_hasDoubles v.1 hg) | (intro h;simpa using h) | (exact ht'))
  | false =>
  have htl:tailP v=true:=by have:=headP_tail v;rw [ht] at this;simpa using this
  have ht':=ht
  unfold headP at ht'
  have hgr:isGraphF v.1=true:=by
    cases e:isGraphF v.1 with
    | true=>rfl
    | false=>rw [tailP,simpleF,e] at htl;simp at htl
  have hN:inB v.1.1 1 8=true:=by
    unfold isGraphF at hgr
    split at hgr
    · next h=>exact h.1
    · cases hgr
  have hN1:1≤v.1.1∧v.1.1≤8:=by simpa [inB] using hN
  have lp2:goodP v.1.1 v.2.1.2 v.2.1.1=true→∀ m k,k+m=v.1.2.1.1→freeP v.2.1 v.1.2.1.2 k=true→zR c 142 zf45 (S57b v k) (Post c [] (.p (.bool (pinnedF v)))):=by
    intro hgood m
    induction m with
    | zero =>
      intro k hk hf
      rw [show pinnedF v=true by rw [pinnedF,hgood,show v.1.2.1.1=k by omega,hf,htl];rfl]
      have hd:decide ((k:Int)<(v.1.2.1.1:Int))=false:=by simp;omega
      refine pkZ Tryz.func142 hc (p57g v k) ?_
      and_intros
      all_goals (first | exact zN | simp)
    | succ m ih =>
      intro k hk hf
      have hd:decide ((k:Int)<(v.1.2.1.1:Int))=true:=by simp;omega
      cases he:bothP v.2.1 (v.1.2.1.2 k) with
      | true =>
        rw [show pinnedF v=false by rw [pinnedF,freeP_bad v.2.1 v.1.2.1.2 k he v.1.2.1.1 (by omega)];simp]
        refine pkD Tryz.func142 hc (p57f v k) ?_
        and_intros
        all_goals (first | exact zI | (intros;exact con_Contains v.2.1 _ hni) | (exact he))
      | false =>
        refine pcD hc (p57e v k) ?_ (ih (k+1) (by omega) (by rw [freeP,hf,he];rfl))
        and_intros
        all_goals (first | exact zI | (intros;exact con_Contains v.2.1 _ hni) | (exact he) | (simp [All]))
  have lp1:∀ m k,k+m=v.2.1.1→goodP v.1.1 v.2.1.2 k=true→zR c 142 zf64 (S57a v k) (Post c [] (.p (.bool (pinnedF v)))):=by
    intro m
    induction m with
    | zero =>
      intro k hk hgd
      have hd:decide ((k:Int)<(v.2.1.1:Int))=false:=by simp;omega
      refine pcD hc (p57d v k) ?_ (lp2 (by rw [show v.2.1.1=k by omega];exact hgd) v.1.2.1.1 0 (by omega) rfl)
      and_intros
      all_goals (first | exact zN | (simp [All]))
    | succ m ih =>
      intro k hk hgd
      have hkn:k<v.2.1.1:=by omega
      have hd:decide ((k:Int)<(v.2.1.1:Int))=true:=by simp;omega
      cases he:badP v.1.1 v.2.1.2 k with
      | true =>
        rw [show pinnedF v=false by rw [pinnedF,goodP_bad _ _ k he v.2.1.1 (by omega)];rfl]
        have he':=bad_in v.1.1 v.2.1.2 k he
        refine pkD Tryz.func142 hc (p57c v k) ?_
        and_intros
        all_goals (first | exact zH | (exact con_Graphhas v.1 _ hN1.1 hN1.2) | (exact he') | (intro h;have:=idx_lt h hkn;omega))
      | false =>
        have he':=bad_in v.1.1 v.2.1.2 k he
        refine pcD hc (p57b v k) ?_ (ih (k+1) (by omega) (by rw [goodP,hgd,he];rfl))
        and_intros
        all_goals (first | exact zH | (exact con_Graphhas v.1 _ hN1.1 hN1.2) | (exact he') | (intro h;have:=idx_lt h hkn;omega) | (simp [All]))
  refine pcD hc (p57a v) ?_ (lp1 v.2.1.1 0 (by omega) rfl)
  and_intros
  all_goals (first | exact zH | (exact con_IsGraph_i v.1 hg) | (intros;exact con_hasDoubles v.1 hg) | (exact ht') | (simp [All]) | (intro h;simpa using h))
def flt (p:Nat→Bool):Nat→T_IntS
  | 0=>(0,fun _=>0)
  | i+1=>if p i=true then ((flt p i).1+1,fun s=>if s<(flt p i).1 then (flt p i).2 s else i) else flt p i
theorem flt_n (p:Nat→Bool):∀ i,(flt p i).1≤i
  | 0=>Nat.le_refl _
  | i+1=>by
    have:=flt_n p i
    simp only [flt]
    split
    · show (flt p i).1+1≤i+1;omega
    · omega
theorem flt_t {p:Nat→Bool} {i:Nat} (h:p i=true):flt p (i+1)=((flt p i).1+1,fun s=>if s<(flt p i).1 then (flt p i).2 s else i):=by simp [flt,h]
theorem flt_f {p:Nat→Bool} {i:Nat} (h:p i=false):flt p (i+1)=flt p i:=by simp [flt,h]
theorem hasI_congr (f g:Nat→Int) (x:Int):∀ n,(∀ i,i<n→f i=g i)→hasI f x n=hasI g x n
  | 0,_=>rfl
  | n+1,h=>by simp only [hasI,hasI_congr f g x n (fun i hi=>h i (by omega)),h n (by omega)]
end Go.Proofs.YtkkjoghiigiokaaGreat.Mach
namespace Go.Proofs.YtkkjoghiigiokaaGreat.Had
abbrev Fo:=Nat→Int
abbrev Ve:=Nat→Int
def ev (w:Fo):Fo:=fun q=>w (2*q)
def od (w:Fo):Fo:=fun q=>w (2*q+1)
def tl (a:Ve):Ve:=fun k=>a (k+1)
def wg:Nat→Ve→Fo→Fo
  | 0,_,_=>fun _=>0
  | n+1,a,w=>fun m=>if m % 2=0 then wg n (tl a) (ev w) (m / 2) else a 0*ev w (m / 2) - wg n (tl a) (od w) (m / 2)
def it:Nat→Ve→Fo→Fo
  | 0,_,_=>fun _=>0
  | n+1,a,w=>fun m=>if m % 2=0 then it n (tl a) (ev w) (m / 2)+a 0*od w (m / 2) else - it n (tl a) (od w) (m / 2)
def dotv:Nat→Ve→Ve→Int
  | 0,_,_=>0
  | n+1,a,b=>a 0*b 0+dotv n (tl a) (tl b)
def dot:Nat→Fo→Fo→Int
  | 0,u,w=>u 0*w 0
  | n+1,u,w=>dot n (ev u) (ev w)+dot n (od u) (od w)
def dl (k:Nat):Ve:=fun j=>if j=k then 1 else 0
def vac:Fo:=fun m=>if m=0 then 1 else 0
theorem par (m:Nat):(∃ q,m=2*q)∨∃ q,m=2*q+1:=by
  by_cases h:m % 2=0
  · exact .inl ⟨m / 2,by omega⟩
  · exact .inr ⟨m / 2,by omega⟩
theorem wg_e (n:Nat) (a:Ve) (w:Fo) (q:Nat):wg (n+1) a w (2*q)=wg n (tl a) (ev w) q:=by
  simp only [wg];rw [if_pos (by omega),show 2*q / 2=q by omega]
theorem wg_o (n:Nat) (a:Ve) (w:Fo) (q:Nat):wg (n+1) a w (2*q+1)=a 0*ev w q - wg n (tl a) (od w) q:=by
  simp only [wg];rw [if_neg (by omega),show (2*q+1) / 2=q by omega]
theorem it_e (n:Nat) (a:Ve) (w:Fo) (q:Nat):it (n+1) a w (2*q)=it n (tl a) (ev w) q+a 0*od w q:=by
  simp only [it];rw [if_pos (by omega),show 2*q / 2=q by omega]
theorem it_o (n:Nat) (a:Ve) (w:Fo) (q:Nat):it (n+1) a w (2*q+1) = - it n (tl a) (od w) q:=by
  simp only [it];rw [if_neg (by omega),show (2*q+1) / 2=q by omega]
theorem ev_wg (n:Nat) (a:Ve) (w:Fo):ev (wg (n+1) a w)=wg n (tl a) (ev w):=funext fun q=>wg_e n a w q
theorem od_wg (n:Nat) (a:Ve) (w:Fo):od (wg (n+1) a w)=fun q=>a 0*ev w q+(-1)*wg n (tl a) (od w) q:=funext fun q=>by
  rw [show od (wg (n+1) a w) q=wg (n+1) a w (2*q+1) from rfl,wg_o];omega
theorem ev_it (n:Nat) (a:Ve) (w:Fo):ev (it (n+1) a w)=fun q=>1*it n (tl a) (ev w) q+a 0*od w q:=funext fun q=>by
  rw [show ev (it (n+1) a w) q=it (n+1) a w (2*q) from rfl,it_e];omega
theorem od_it (n:Nat) (a:Ve) (w:Fo):od (it (n+1) a w)=fun q=>(-1)*it n (tl a) (od w) q+0*od w q:=funext fun q=>by
  rw [show od (it (n+1) a w) q=it (n+1) a w (2*q+1) from rfl,it_o];omega
theorem wg_lin (n:Nat):∀ (a:Ve) (x y:Int) (u v:Fo),wg n a (fun m=>x*u m+y*v m)=fun m=>x*wg n a u m+y*wg n a v m:=by
  induction n with
  | zero=>intro a x y u v;funext m;simp [wg]
  | succ n ih =>
    intro a x y u v
    funext m
    rcases par m with ⟨q,rfl⟩ | ⟨q,rfl⟩
    · rw [wg_e,wg_e,wg_e,show ev (fun m=>x*u m+y*v m)=fun m=>x*ev u m+y*ev v m from rfl,ih]
    · rw [wg_o,wg_o,wg_o,show od (fun m=>x*u m+y*v m)=fun m=>x*od u m+y*od v m from rfl,ih,show ev (fun m=>x*u m+y*v m) q=x*ev u q+y*ev v q from rfl]
      grind
theorem it_lin (n:Nat):∀ (a:Ve) (x y:Int) (u v:Fo),it n a (fun m=>x*u m+y*v m)=fun m=>x*it n a u m+y*it n a v m:=by
  induction n with
  | zero=>intro a x y u v;funext m;simp [it]
  | succ n ih =>
    intro a x y u v
    funext m
    rcases par m with ⟨q,rfl⟩ | ⟨q,rfl⟩
    · rw [it_e,it_e,it_e,show ev (fun m=>x*u m+y*v m)=fun m=>x*ev u m+y*ev v m from rfl,ih,show od (fun m=>x*u m+y*v m) q=x*od u q+y*od v q from rfl]
      grind
    · rw [it_o,it_o,it_o,show od (fun m=>x*u m+y*v m)=fun m=>x*od u m+y*od v m from rfl,ih]
      grind
theorem wg_linv (n:Nat):∀ (a b:Ve) (x y:Int) (u:Fo),wg n (fun k=>x*a k+y*b k) u=fun m=>x*wg n a u m+y*wg n b u m:=by
  induction n with
  | zero=>intro a b x y u;funext m;simp [wg]
  | succ n ih =>
    intro a b x y u
    funext m
    rcases par m with ⟨q,rfl⟩ | ⟨q,rfl⟩
    · rw [wg_e,wg_e,wg_e,show tl (fun k=>x*a k+y*b k)=fun k=>x*tl a k+y*tl b k from rfl,ih]
    · rw [wg_o,wg_o,wg_o,show tl (fun k=>x*a k+y*b k)=fun k=>x*tl a k+y*tl b k from rfl,ih]
      grind
theorem wg_congr (n:Nat):∀ (a b:Ve) (u:Fo),(∀ k,k<n→a k=b k)→wg n a u=wg n b u:=by
  induction n with
  | zero=>intro a b u _;rfl
  | succ n ih =>
    intro a b u h
    have h':=ih (tl a) (tl b)
    funext m
    rcases par m with ⟨q,rfl⟩ | ⟨q,rfl⟩
    · rw [wg_e,wg_e,h' (ev u) (fun k hk=>h (k+1) (by omega))]
    · rw [wg_o,wg_o,h' (od u) (fun k hk=>h (k+1) (by omega)),h 0 (by omega)]
theorem wg_0 (n:Nat) (a:Ve):wg n a (fun _=>0)=fun _=>0:=by
  have:=wg_lin n a 0 0 (fun _=>0) (fun _=>0)
  simpa using this
theorem it_0 (n:Nat) (a:Ve):it n a (fun _=>0)=fun _=>0:=by
  have:=it_lin n a 0 0 (fun _=>0) (fun _=>0)
  simpa using this
theorem wg_v0 (n:Nat) (u:Fo):wg n (fun _=>0) u=fun _=>0:=by
  have:=wg_linv n (fun _=>0) (fun _=>0) 0 0 u
  simpa using this
theorem wg_wg (n:Nat):∀ (a b:Ve) (w:Fo),wg n a (wg n b w)=fun m=>- wg n b (wg n a w) m:=by
  induction n with
  | zero=>intro a b w;funext m;simp [wg]
  | succ n ih =>
    intro a b w
    funext m
    rcases par m with ⟨q,rfl⟩ | ⟨q,rfl⟩
    · rw [wg_e,wg_e,ev_wg,ev_wg,ih]
    · rw [wg_o,wg_o,ev_wg,ev_wg,od_wg,od_wg,wg_lin,wg_lin,ih]
      grind
theorem it_it (n:Nat):∀ (a b:Ve) (w:Fo),it n a (it n b w)=fun m=>- it n b (it n a w) m:=by
  induction n with
  | zero=>intro a b w;funext m;simp [it]
  | succ n ih =>
    intro a b w
    funext m
    rcases par m with ⟨q,rfl⟩ | ⟨q,rfl⟩
    · rw [it_e,it_e,ev_it,ev_it,od_it,od_it,it_lin,it_lin,ih]
      grind
    · rw [it_o,it_o,od_it,od_it,it_lin,it_lin,ih]
      grind
theorem car (n:Nat):∀ (v a:Ve) (w:Fo),it n v (wg n a w)=fun m=>dotv n v a*w m+(-1)*wg n a (it n v w) m:=by
  induction n with
  | zero=>intro v a w;funext m;simp [wg,it,dotv]
  | succ n ih =>
    intro v a w
    funext m
    rcases par m with ⟨q,rfl⟩ | ⟨q,rfl⟩
    · rw [it_e,wg_e,ev_wg,od_wg,ev_it,wg_lin,ih]
      show _=dotv (n+1) v a*ev w q+_
      simp only [dotv]
      grind
    · rw [it_o,wg_o,ev_it,od_wg,od_it,wg_lin,it_lin,ih]
      show _=dotv (n+1) v a*od w q+_
      simp only [dotv]
      grind
theorem dot_lin (n:Nat):∀ (x y:Int) (u v w:Fo),dot n (fun m=>x*u m+y*v m) w=x*dot n u w+y*dot n v w:=by
  induction n with
  | zero=>intro x y u v w;simp only [dot];grind
  | succ n ih =>
    intro x y u v w
    simp only [dot]
    rw [show ev (fun m=>x*u m+y*v m)=fun m=>x*ev u m+y*ev v m from rfl,show od (fun m=>x*u m+y*v m)=fun m=>x*od u m+y*od v m from rfl,ih,ih]
    grind
theorem dot_symm (n:Nat):∀ (u w:Fo),dot n u w=dot n w u:=by
  induction n with
  | zero=>intro u w;simp only [dot];exact Int.mul_comm _ _
  | succ n ih=>intro u w;simp only [dot];rw [ih,ih (od u)]
theorem dot_adj (n:Nat):∀ (a:Ve) (u w:Fo),dot n (wg n a u) w=dot n u (it n a w):=by
  induction n with
  | zero=>intro a u w;simp [dot,wg,it]
  | succ n ih =>
    intro a u w
    simp only [dot]
    rw [ev_wg,od_wg,ev_it,od_it,dot_lin,ih,ih,dot_symm n (ev u) (fun q=>1*it n (tl a) (ev w) q+a 0*od w q),dot_lin,dot_symm n (od u) (fun q=>(-1)*it n (tl a) (od w) q+0*od w q),dot_lin,
      dot_symm n (it n (tl a) (ev w)),dot_symm n (it n (tl a) (od w)),dot_symm n (od w) (ev u),dot_symm n (od w) (od u)]
    grind
theorem mul_self_nn (x:Int):0≤x*x:=by
  rcases Int.le_total 0 x with h | h
  · exact Int.mul_nonneg h h
  · have:=Int.mul_nonneg (show 0≤-x by omega) (show 0≤-x by omega)
    rwa [Int.neg_mul_neg] at this
theorem dot_nn (n:Nat):∀ (u:Fo),0≤dot n u u:=by
  induction n with
  | zero=>intro u;simp only [dot];exact mul_self_nn _
  | succ n ih=>intro u;simp only [dot];have:=ih (ev u);have:=ih (od u);omega
theorem dot_at (n:Nat):∀ (u:Fo),u 0*u 0≤dot n u u:=by
  induction n with
  | zero=>intro u;simp only [dot];exact Int.le_refl _
  | succ n ih=>intro u;simp only [dot];have h1:=ih (ev u);have:=dot_nn n (od u);rw [show ev u 0=u 0 from rfl] at h1;omega
theorem pyth (n:Nat) (a:Ve) (w:Fo):dot n (wg n a w) (wg n a w)+dot n (it n a w) (it n a w)=dotv n a a*dot n w w:=by
  rw [dot_adj,car,dot_symm n w,dot_lin,dot_adj]
  grind
theorem wg_le (n:Nat) (a:Ve) (w:Fo):dot n (wg n a w) (wg n a w)≤dotv n a a*dot n w w:=by
  have:=pyth n a w;have:=dot_nn n (it n a w);omega
theorem it_le (n:Nat) (a:Ve) (w:Fo):dot n (it n a w) (it n a w)≤dotv n a a*dot n w w:=by
  have:=pyth n a w;have:=dot_nn n (wg n a w);omega
theorem dotv_0 (n:Nat):∀ b:Ve,dotv n (fun _=>0) b=0:=by
  induction n with
  | zero=>intro b;rfl
  | succ n ih=>intro b;simp only [dotv];rw [show tl (fun _=>(0:Int))=fun _=>0 from rfl,ih];omega
theorem dotv_dl (n:Nat):∀ (k:Nat) (b:Ve),dotv n (dl k) b=if k<n then b k else 0:=by
  induction n with
  | zero=>intro k b;simp [dotv]
  | succ n ih =>
    intro k b
    simp only [dotv]
    cases k with
    | zero =>
      rw [show tl (dl 0)=fun _=>0 from funext fun j=>by simp [tl,dl],dotv_0]
      simp [dl]
    | succ k =>
      rw [show tl (dl (k+1))=dl k from funext fun j=>by simp [tl,dl],ih]
      by_cases h:k<n
      · rw [if_pos h,if_pos (by omega)];simp [dl,tl]
      · rw [if_neg h,if_neg (by omega)];simp [dl]
theorem it_dl_le (n k:Nat) (w:Fo):dot n (it n (dl k) w) (it n (dl k) w)≤dot n w w:=by
  have h:=it_le n (dl k) w
  rw [dotv_dl] at h
  have:=dot_nn n w
  by_cases hk:k<n
  · rw [if_pos hk,show dl k k=1 by simp [dl]] at h;omega
  · rw [if_neg hk] at h;omega
def Lin (l:Fo→Int):Prop:=∀ x y u v,l (fun m=>x*u m+y*v m)=x*l u+y*l v
def Dec (n:Nat) (W:Fo):Prop:=∀ l,Lin l→wg n (fun k=>l (it n (dl k) W)) W=fun _=>0
theorem Lin.zero {l:Fo→Int} (h:Lin l):l (fun _=>0)=0:=by
  have:=h 0 0 (fun _=>0) (fun _=>0)
  simpa using this
theorem it_vac (n:Nat):∀ v:Ve,it n v vac=fun _=>0:=by
  induction n with
  | zero=>intro v;rfl
  | succ n ih =>
    intro v
    have he:ev vac=vac:=funext fun q=>by
      show (if 2*q=0 then (1:Int) else 0)=if q=0 then 1 else 0
      by_cases h:q=0
      · rw [if_pos h,if_pos (by omega)]
      · rw [if_neg h,if_neg (by omega)]
    have ho:od vac=fun _=>0:=funext fun q=>by simp [od,vac]
    funext m
    rcases par m with ⟨q,rfl⟩ | ⟨q,rfl⟩
    · rw [it_e,he,ho,ih];simp
    · rw [it_o,ho,it_0];simp
theorem dec_vac (n:Nat):Dec n vac:=by
  intro l hl
  rw [show (fun k=>l (it n (dl k) vac))=fun _=>0 from funext fun k=>by rw [it_vac,hl.zero],wg_v0]
theorem wg_sq (n:Nat) (a:Ve) (w:Fo):wg n a (wg n a w)=fun _=>0:=by
  funext m
  have:=congrFun (wg_wg n a a w) m
  omega
theorem car_dl (n k:Nat) (a:Ve) (w:Fo):it n (dl k) (wg n a w)=fun m=>(if k<n then a k else 0)*w m+(-1)*wg n a (it n (dl k) w) m:=by
  rw [car,dotv_dl]
theorem Lin.wg {l:Fo→Int} (h:Lin l) (n:Nat) (a:Ve):Lin (fun u=>l (wg n a u)):=fun x y u v=>by
  show l (Had.wg n a _)=_
  rw [wg_lin,h]
theorem Lin.it {l:Fo→Int} (h:Lin l) (n:Nat) (a:Ve):Lin (fun u=>l (it n a u)):=fun x y u v=>by
  show l (Had.it n a _)=_
  rw [it_lin,h]
theorem Lin.neg {l:Fo→Int} (h:Lin l):Lin (fun u=>- l u):=fun x y u v=>by
  show - l _=_
  rw [h];grind
theorem dec_wg {n:Nat} {W:Fo} (a:Ve) (h:Dec n W):Dec n (wg n a W):=by
  intro l hl
  have e:(fun k=>l (it n (dl k) (wg n a W)))=fun k=>l W*(if k<n then a k else 0)+(-1)*l (wg n a (it n (dl k) W)):=funext fun k=>by
    rw [car_dl,hl];grind
  rw [e,wg_linv,wg_congr n (fun k=>if k<n then a k else 0) a _ (fun k hk=>by simp [hk]),wg_sq,wg_wg,h _ (hl.wg n a),wg_0]
  simp
theorem uniq {n r:Nat} {W:Fo} {F:Fo→Int} {p:Nat→Nat} (hl:Lin F) (kv:∀ v:Ve,(∀ j,j<r→v (p j)=0)→∀ Y,F (wg n v Y)=0) (hd:F W≠0)
    {v:Ve} (hz:wg n v W=fun _=>0) (hp:∀ j,j<r→v (p j)=0) {k:Nat} (hk:k<n):v k=0:=by
  have h:=congrArg (it n (dl k)) hz
  rw [it_0,car_dl,if_pos hk] at h
  have h2:=congrArg F h
  rw [hl.zero,hl,kv v hp] at h2
  have h3:v k*F W=0:=by omega
  rcases Int.mul_eq_zero.1 h3 with h4 | h4
  · exact h4
  · exact absurd h4 hd
end Go.Proofs.YtkkjoghiigiokaaGreat.Had
