/- What the law Fw needs, part 4 of 6: the abstract machine and the contracts of the functions. Conditions: as each theorem says. -/
import Derived.Shelf.SlLaysF0
import Derived.Shelf.SlGeneric
import Derived.Shelf.SlSortCmp.InsertionK
import Derived.Ground.SlsfProg
import Derived.Laws.Strings
import Derived.Test.YtkkjoghiigiokaaGreatFwP3
namespace Go.Proofs.YtkkjoghiigiokaaGreat.Mach
open Go
set_option linter.unusedVariables false
set_option linter.unusedSimpArgs false
theorem con_l4Other (x:T_Bar) (v:Int) (h1:0≤x.1∧x.1≤1048576) (h2:0≤x.2.1∧x.2.1≤1048576) (h3:0≤v∧v≤1048576):Con Tryz.prog 324 0 [] [brA x,.p (.int .i64 v)] [] (.p (.int .i64 (x.1+x.2.1 - v))):=by
  refine con_start Tryz.func324 rfl (by kernel_rfl) rfl (fun c hc=>?_)
  refine path_ok mixed Tryz.func324 hc (qOt x v) ?_
  repeat' (first | exact aN | apply aI)
  all_goals (first | omega | rfl | (intros;first | assumption | exact trivial | rfl | exact fT ‹_› | ((repeat' (first | assumption | apply anda | apply notf));done)) | simp)
theorem con_l4Copy (N m:Nat) (F T Q:Nat→Int) (hN:N≤1048576) (hm:m≤1048576):Con Tryz.prog 340 0 [] [pebD N m F T Q] (pebR N m F T Q) (pebO N m 0):=by
  refine con_start Tryz.func340 rfl (by kernel_rfl) rfl (fun c hc=>?_)
  refine path_ok mixed Tryz.func340 hc (qCp N m F T Q) ?_
  repeat' (first | exact aN | apply aI)
  all_goals (first | exact aA _ _ | exact aE _ | omega | rfl | (intros;first | assumption | exact trivial | rfl | exact fT ‹_› | ((repeat' (first | assumption | apply anda | apply notf));done)) | (intro i hi;simp [All]))
theorem oth_sum {x:T_Bar} {y z:Int} (h:y=x.1∨y=x.2.1) (hz:othF x y=z):x.1+x.2.1 - z=y∧x.1+x.2.1 - y=z:=by
  unfold othF at hz
  by_cases e:x.1=y
  · rw [if_pos e] at hz;omega
  · rw [if_neg e] at hz
    rcases h with h | h
    · exact absurd h.symm e
    · omega
theorem run_shift {N nb m:Nat} {g:Nat→T_Bar} {F F0 F1 T Q td FR:Nat→Int} {a b u:Int} {tn:Nat} (h:BInv N m g F T Q td (fun s=>FR (td s).toNat) a b tn) (hN:N≤1048576) (hm:m≤1048576) (hnb:nb≤1048576)
    (hq:∀ j,j<m→0≤Q j∧Q j<nb) (hbar:∀ e,e<nb→0≤(g e).1∧(g e).1<(g e).2.1∧(g e).2.1<N) (hT:∀ j,j<m→T j=(g (Q j).toNat).1∨T j=(g (Q j).toNat).2.1) :
    ∀ s,s<tn→∀ T':Nat→Int,TInv m g T Q td (fun s=>FR (td s).toNat) T' u s→∃ T'' s',(∀ c,c.n=0→Run Tryz.prog c 407 zf36 (SSl g nb N m F0 T Q FR F1 T' a u (td s)) (Post c (pebR N m F1 T'' Q) (pebO N m 0))) ∧
      TInv m g T Q td (fun s=>FR (td s).toNat) T'' u s'∧td s'=a:=by
  intro s
  induction s using Nat.strongRecOn with
  | ind s ih =>
    intro hs T' ht
    by_cases he:td s=a
    · refine ⟨T',s,fun c hc=>?_,ht,he⟩
      have hb:(td s != a)=false:=by simp [he]
      refine path_ok mixed Tryz.func407 hc (qSe g nb N m F0 T Q FR F1 T' a u (td s)) ?_
      repeat' (first | exact aN | apply aI)
      all_goals (first | exact aA _ _ | exact aE _ | omega | rfl | (intros;first | assumption | exact trivial | rfl | exact fT ‹_› | ((repeat' (first | assumption | apply anda | apply notf));done)) | (exact hb) | (intro i hi;simp [All]))
    · have hs1:1≤s:=by
        cases s with
        | zero=>exact absurd h.td0 he
        | succ s=>omega
      obtain ⟨j,hj,hVs,s',hs',hk,ht',hTj,hoth⟩:=ht.step h hs hs1
      have hVs:FR (td s).toNat=(j:Int):=hVs
      obtain ⟨T'',s'',hrun,h1,h2⟩:=ih s' hs' (by omega) _ ht'
      refine ⟨T'',s'',fun c hc=>?_,h1,h2⟩
      have hb:(td s != a)=true:=by simp [he]
      have hqj:=hq j hj
      have hbj:=hbar (Q j).toNat (by omega)
      have hrs:=h.rng s hs
      have hsum:=(oth_sum (by rw [← hTj];exact hT j hj) hoth).1
      have hcon:=con_l4Other (g (Q j).toNat) (td s) (by omega) (by omega) (by omega)
      rw [hsum] at hcon
      refine piece_ok mixed hc (qSl g nb N m F0 T Q FR F1 T' a u (td s) (td s')) ?_ (by rw [hVs];simp only [Int.toNat_natCast];exact hrun c hc)
      repeat' (first | exact aN | apply aI)
      all_goals (first | exact aP _ _ | exact aA _ _ | omega | rfl | (intros;first | assumption | exact trivial | rfl | exact fT ‹_› | ((repeat' (first | assumption | apply anda | apply notf));done)) | (exact hb) | (rw [hVs];simp only [Int.toNat_natCast];omega) | (rw [hVs];simp only [Int.toNat_natCast];exact hcon) | (intro i hi;simp [All];done) | (simp only [hVs,Int.toNat_natCast];intro i hi;by_cases h:i=j<;>simp [h,cvtL,cvt,tg,tru,All]))
theorem BInv.congrV {N m:Nat} {g:Nat→T_Bar} {F T Q td V V':Nat→Int} {a b:Int} {tn:Nat} (h:BInv N m g F T Q td V a b tn) (hv:∀ s,s<tn→V s=V' s):BInv N m g F T Q td V' a b tn :=
  ⟨h.n1,h.td0,h.rng,h.inj,fun s h1 h2=>by rw [← hv s h2];exact h.par s h1 h2⟩
theorem con_l4Shift {N k nb m:Nat} {g:Nat→T_Bar} {F T Q td FR:Nat→Int} {a b u:Int} {tn:Nat} (hp:PInv N k nb m g F T Q) (hk:k≤1048576) (hN:N≤1048576) (hm:m≤1048576) (hnb:nb≤1048576)
    (h:BInv N m g F T Q td (fun s=>FR (td s).toNat) a b (tn+1)) (htn:td tn=u) (ha:0≤a∧a<N) (hu:0≤u∧u<N) (hua:u≠a) :
    ∃ T'' s',Con Tryz.prog 407 0 [] [grG g nb N,pebD N m F T Q,inD N FR,.p (.int .i64 a),.p (.int .i64 u)] (pebR N m (fun x=>if x=a.toNat then (if x=u.toNat then F x - 1 else F x)+1 else (if x=u.toNat then F x - 1 else F x)) T'' Q) (pebO N m 0) ∧
      TInv m g T Q td (fun s=>FR (td s).toNat) T'' u s'∧td s'=a:=by
  have ht0:TInv m g T Q td (fun s=>FR (td s).toNat) T u tn:=⟨fun _ _ _=>rfl,hp.t,fun x=>by rw [htn];omega⟩
  obtain ⟨T'',s',hrun,h1,h2⟩:=run_shift (nb:=nb) (F0:=F) (F1:=fun x=>if x=a.toNat then (if x=u.toNat then F x - 1 else F x)+1 else (if x=u.toNat then F x - 1 else F x)) h hN hm hnb hp.q hp.bars hp.t tn (by omega) T ht0
  refine ⟨T'',s',?_,h1,h2⟩
  rw [htn] at hrun
  have hFa:=hp.le (v:=a.toNat) (by omega)
  have hFu:=hp.le (v:=u.toNat) (by omega)
  have hcc:=con_l4Copy N m F T Q hN hm
  refine con_start Tryz.func407 rfl (by kernel_rfl) rfl (fun c hc=>?_)
  have hrun':=hrun c hc
  refine piece_ok mixed hc (qSz g nb N m F T Q FR a u) ?_ ?_
  ·
    repeat' (first | exact aN | apply aI)
    all_goals (first | exact aP _ _ | exact aA _ _ | omega | rfl | (intros;first | assumption | exact trivial | rfl | exact fT ‹_› | ((repeat' (first | assumption | apply anda | apply notf));done)) | (exact hcc) | (intro i hi;simp [All];done) | (intro i hi;by_cases h:i=u.toNat<;>simp [h,cvtL,cvt,tg,tru,All]))
  · have hF1:(fun s=>if s=u.toNat then F s - 1 else F s) a.toNat=F a.toNat:=by
      show (if a.toNat=u.toNat then F a.toNat - 1 else F a.toNat)=_
      rw [if_neg (by omega)]
    obtain ⟨F1,hF1d⟩:∃ F1:Nat→Int,F1=(fun s=>if s=u.toNat then F s - 1 else F s):=⟨_,rfl⟩
    have hFF:(fun x=>if x=a.toNat then (if x=u.toNat then F x - 1 else F x)+1 else (if x=u.toNat then F x - 1 else F x))=(fun s=>if s=a.toNat then F1 s+1 else F1 s):=by
      subst hF1d;rfl
    rw [hFF] at hrun' ⊢
    rw [← hF1d] at hF1 ⊢
    refine piece_ok mixed hc (qSa g nb N m F T Q FR F1 T a u) ?_ hrun'
    repeat' (first | exact aN | apply aI)
    all_goals (first | exact aP _ _ | exact aA _ _ | omega | rfl | (intros;first | assumption | exact trivial | rfl | exact fT ‹_› | ((repeat' (first | assumption | apply anda | apply notf));done)) | (rw [hF1];omega) | (intro i hi;simp [All];done) | (intro i hi;by_cases h:i=a.toNat<;>simp [h,cvtL,cvt,tg,tru,All]))
inductive FindR (N k nb m:Nat) (g:Nat→T_Bar) (F T Q:Nat→Int) (a b:Int):Hp→AV→Prop
  | yes (F' T':Nat→Int) (h:Moved N k nb m g F T Q a b F' T' true):FindR N k nb m g F T Q a b (pebR3 N m F T Q F' T' Q) (.tup [pebO N m 3,.p (.bool true)])
  | no (h:Moved N k nb m g F T Q a b F T false):FindR N k nb m g F T Q a b (pebR N m F T Q) (.tup [pebO N m 0,.p (.bool false)])
def OutS (N k nb m:Nat) (g:Nat→T_Bar) (F T Q:Nat→Int) (a b:Int) (i tn:Nat) (td FR:Nat→Int) (SN:Nat→Bool):Prop :=
  ∃ H' res,(∀ c,c.n=3→Run Tryz.prog c 377 [.code (cAt (bodyOf Tryz.f377) [1,1,1,1,1,1,0,1,0,0]),.inLoop (cAt (bodyOf Tryz.f377) [1,1,1,1,1,1,0,1,0,0]),.inBlock 2,.code (cAt (bodyOf Tryz.f377) [1,1,1,1,1,1,1])] (SF1 g nb N m F T Q td FR SN a b i tn) (Post c H' res))∧FindR N k nb m g F T Q a b H' res
def MidS (N k nb m:Nat) (g:Nat→T_Bar) (F T Q:Nat→Int) (a b:Int) (i j tn:Nat) (td FR:Nat→Int) (SN:Nat→Bool):Prop :=
  ∃ H' res,(∀ c,c.n=3→Run Tryz.prog c 377 [.code (cAt (bodyOf Tryz.f377) [1,1,1,1,1,1,0,1,0,0,1,0,0,1,1,0,0]),.inLoop (cAt (bodyOf Tryz.f377) [1,1,1,1,1,1,0,1,0,0,1,0,0,1,1,0,0]),.inBlock 4,.inBlock 3,.code (cAt (bodyOf Tryz.f377) [1,1,1,1,1,1,0,1,0,0,1,1]),.inLoop (cAt (bodyOf Tryz.f377) [1,1,1,1,1,1,0,1,0,0]),.inBlock 2,.code (cAt (bodyOf Tryz.f377) [1,1,1,1,1,1,1])] (SF2 g nb N m F T Q td FR SN a b (td i) i j tn) (Post c H' res))∧FindR N k nb m g F T Q a b H' res
def SeenI (N:Nat) (td:Nat→Int) (SN:Nat→Bool) (tn:Nat):Prop:=∀ x:Nat,x<N→(SN x=true↔∃ s,s<tn∧td s=x)
theorem mid_s {N k nb m:Nat} {g:Nat→T_Bar} {F T Q:Nat→Int} {a b:Int} (hp:PInv N k nb m g F T Q) (hk:k≤1048576) (hN:N≤1048576) (hm:m≤1048576) (hnb:nb≤1048576)
    (ha:0≤a∧a<N) (hb:0≤b∧b<N) (hab:a≠b) (i:Nat)
    (ih:∀ tn td FR SN,i+1≤tn→BInv N m g F T Q td (fun s=>FR (td s).toNat) a b tn→SeenI N td SN tn→BZero F td b tn→BClo m g T Q td (i+1) 0 tn→OutS N k nb m g F T Q a b (i+1) tn td FR SN) :
    ∀ e j tn td FR SN,j+e=m→i<tn→BInv N m g F T Q td (fun s=>FR (td s).toNat) a b tn→SeenI N td SN tn→BZero F td b tn→BClo m g T Q td i j tn→MidS N k nb m g F T Q a b i j tn td FR SN:=by
  intro e
  induction e with
  | zero =>
    intro j tn td FR SN hj hi hbi hsn hz hcl
    have htn:=pigeon N tn td hbi.rng hbi.inj
    obtain ⟨H',res,hrun,hmv⟩:=ih tn td FR SN (by omega) hbi hsn hz (fun i' j' hij hi' hT=>by
      rcases hij with ⟨h1,h2⟩ | ⟨h1,h2⟩
      · by_cases e:i'=i
        · exact hcl i' j' (.inr ⟨e,by omega⟩) hi' hT
        · exact hcl i' j' (.inl ⟨by omega,h2⟩) hi' hT
      · omega)
    refine ⟨H',res,fun c hc=>?_,hmv⟩
    have hd:decide ((j:Int)<(m:Int))=false:=by simp;omega
    refine piece_ok mixed hc (qF2e g nb N m F T Q td FR SN a b (td i) i j tn) ?_ (hrun c hc)
    repeat' (first | exact aN | apply aI)
    all_goals (first | exact aP _ _ | exact aA _ _ | omega | rfl | (intros;first | assumption | exact trivial | rfl | exact fT ‹_› | ((repeat' (first | assumption | apply anda | apply notf));done)) | (intro i hi;simp [All]))
  | succ e ihe =>
    intro j tn td FR SN hj hi hbi hsn hz hcl
    have htn:=pigeon N tn td hbi.rng hbi.inj
    have hjm:j<m:=by omega
    have hd:decide ((j:Int)<(m:Int))=true:=by simp;omega
    have hq:=hp.q j hjm
    have hbar:=hp.bars (Q j).toNat (by omega)
    have hrg:=hbi.rng i hi
    by_cases hT:T j=td i
    · have ht1:(T j != td i)=false:=by simp [hT]
      obtain ⟨v,hv⟩:∃ v,othF (g (Q j).toNat) (td i)=v:=⟨_,rfl⟩
      have hvr:0≤v∧v<N:=by rw [← hv];exact othF_in hbar
      have hsum:=(oth_sum (by rw [← hT];exact hp.t j hjm) hv).2
      have hcon:=con_l4Other (g (Q j).toNat) (td i) (by omega) (by omega) (by omega)
      rw [hsum] at hcon
      cases hh:SN v.toNat with
      | true =>
        obtain ⟨s,hs1,hs2⟩:=(hsn v.toNat (by omega)).1 hh
        obtain ⟨H',res,hrun,hmv⟩:=ihe (j+1) tn td FR SN (by omega) hi hbi hsn hz (fun i' j' hij hi' hTT=>by
          by_cases e:i'=i∧j'=j
          · obtain ⟨rfl,rfl⟩:=e
            exact ⟨s,hs1,by rw [hs2,hv];omega⟩
          · exact hcl i' j' (by omega) hi' hTT)
        refine ⟨H',res,fun c hc=>?_,hmv⟩
        refine piece_ok mixed hc (qF2b g nb N m F T Q td FR SN a b (td i) v i j tn) ?_ (hrun c hc)
        repeat' (first | exact aN | apply aI)
        all_goals (first | exact aP _ _ | exact aA _ _ | omega | rfl | (intros;first | assumption | exact trivial | rfl | exact fT ‹_› | ((repeat' (first | assumption | apply anda | apply notf));done)) | (exact ht1) | (exact hcon) | (exact hh) | (intro i hi;simp [All]))
      | false =>
        have hno:∀ s,s<tn→td s≠v:=by
          intro s hs e
          have:=(hsn v.toNat (by omega)).2 ⟨s,hs,by omega⟩
          rw [hh] at this;cases this
        have hadd0:=hbi.add hi hjm hT hv hvr hno
        have hadd:BInv N m g F T Q (fun s=>if s<tn then td s else v) (fun s=>(fun x=>if x=v.toNat then (j:Int) else FR x) ((fun s=>if s<tn then td s else v) s).toNat) a b (tn+1):=by
          refine hadd0.congrV (fun s hs=>?_)
          show (if s<tn then FR (td s).toNat else (j:Int))=(if (if s<tn then td s else v).toNat=v.toNat then (j:Int) else FR (if s<tn then td s else v).toNat)
          by_cases e:s<tn
          · have h1:=hno s e
            have h2:=hbi.rng s e
            rw [if_pos e,if_pos e,if_neg (show ¬ (td s).toNat=v.toNat by omega)]
          · rw [if_neg e,if_neg e,if_pos rfl]
        have hF:=hp.le (v:=v.toNat) (by omega)
        cases hcd:(bif v != b then decide (F v.toNat>0) else false) with
        | false =>
          have hzv:v=b∨F v.toNat=0:=by
            by_cases e:v=b
            · exact .inl e
            · right
              have:(v != b)=true:=by simp [e]
              rw [this] at hcd
              simp at hcd
              omega
          obtain ⟨H',res,hrun,hmv⟩:=ihe (j+1) (tn+1) (fun s=>if s<tn then td s else v) (fun x=>if x=v.toNat then (j:Int) else FR x) (fun s=>if s=v.toNat then true else SN s) (by omega) (by omega) hadd (fun x hx=>by
            show (if x=v.toNat then true else SN x)=true↔∃ s,s<tn+1∧(if s<tn then td s else v)=x
            by_cases e:x=v.toNat
            · rw [if_pos e]
              exact ⟨fun _=>⟨tn,by omega,by rw [if_neg (Nat.lt_irrefl tn)];omega⟩,fun _=>rfl⟩
            · rw [if_neg e,hsn x hx]
              constructor
              · rintro ⟨s,h1,h2⟩;exact ⟨s,by omega,by rw [if_pos h1];exact h2⟩
              · rintro ⟨s,h1,h2⟩
                by_cases e2:s<tn
                · rw [if_pos e2] at h2;exact ⟨s,e2,h2⟩
                · rw [if_neg e2] at h2;omega) (fun s h1 h2=>by
            show (if s<tn then td s else v)=b∨F (if s<tn then td s else v).toNat=0
            by_cases e:s<tn
            · rw [if_pos e];exact hz s h1 e
            · rw [if_neg e];exact hzv) (fun i' j' hij hi' hTT=>by
            have hi2:i'<tn:=by omega
            have hTT':T j'=td i':=by rw [hTT];show (if i'<tn then td i' else v)=_;rw [if_pos hi2]
            show ∃ s,s<tn+1∧(if s<tn then td s else v)=othF (g (Q j').toNat) (if i'<tn then td i' else v)
            rw [if_pos hi2]
            by_cases e:i'=i∧j'=j
            · obtain ⟨rfl,rfl⟩:=e
              exact ⟨tn,by omega,by rw [if_neg (Nat.lt_irrefl tn),hv]⟩
            · obtain ⟨s,h1,h2⟩:=hcl i' j' (by omega) hi2 hTT'
              exact ⟨s,by omega,by rw [if_pos h1];exact h2⟩)
          refine ⟨H',res,fun c hc=>?_,hmv⟩
          have hrun':=hrun c hc
          simp only [hi,if_true] at hrun'
          refine piece_ok mixed hc (qF2c g nb N m F T Q td FR SN a b (td i) v i j tn) ?_ hrun'
          repeat' (first | exact aN | apply aI)
          all_goals (first | exact aG _ | exact aP _ _ | exact aA _ _ | omega | rfl | (intros;first | assumption | exact trivial | rfl | exact fT ‹_› | ((repeat' (first | assumption | apply anda | apply notf));done)) | (exact ht1) | (exact hcon) | (exact hh) | (exact hcd) | (intros;omega) | (intro i hi;simp [All];done) | (intro i hi;by_cases h:i<tn<;>simp [h,cvtL,cvt,tg,tru,All];done) | (intro i hi;by_cases h:i=v.toNat<;>simp [h,cvtL,cvt,tg,tru,All]))
        | true =>
          have hvb:v≠b:=by
            intro e
            rw [show (v != b)=false by simp [e]] at hcd
            cases hcd
          have hFv:F v.toNat≠0:=by
            intro e
            rw [show (v != b)=true by simp [hvb]] at hcd
            simp [e] at hcd
          have hva:v≠a:=by
            have:=hno 0 (by have:=hbi.n1;omega)
            rw [hbi.td0] at this
            exact Ne.symm this
          obtain ⟨T'',s',hcs,h1,h2⟩:=con_l4Shift (td:=fun s=>if s<tn then td s else v) (FR:=fun x=>if x=v.toNat then (j:Int) else FR x) (tn:=tn) hp hk hN hm hnb hadd (by show (if tn<tn then td tn else v)=v;rw [if_neg (Nat.lt_irrefl tn)]) ha hvr hva
          refine ⟨_,_,fun c hc=>?_,.yes _ T'' (moved_yes hp ha hb hab hvr hva hvb hFv h1 h2)⟩
          refine piece_ok mixed hc (qF2d g nb N m F T Q td FR SN a b (td i) v i j tn) ?_ ?_
          ·
            repeat' (first | exact aN | apply aI)
            all_goals (first | exact aG _ | exact aP _ _ | exact aA _ _ | omega | rfl | (intros;first | assumption | exact trivial | rfl | exact fT ‹_› | ((repeat' (first | assumption | apply anda | apply notf));done)) | (exact ht1) | (exact hcon) | (exact hh) | (exact hcd) | (intros;omega) | (intro i hi;simp [All];done) | (intro i hi;by_cases h:i=v.toNat<;>simp [h,cvtL,cvt,tg,tru,All]))
          · refine path_ok mixed Tryz.func377 hc (qF3 g nb N m F T Q (fun s=>if s=v.toNat then (j:Int) else FR s) _ T'' a b v) ?_
            repeat' (first | exact aN | apply aI)
            all_goals (first | exact aA _ _ | exact aE _ | omega | rfl | (intros;first | assumption | exact trivial | rfl | exact fT ‹_› | ((repeat' (first | assumption | apply anda | apply notf));done)) | (exact hcs) | (intro i hi;simp [All]))
    · have ht1:(T j != td i)=true:=by simp [hT]
      obtain ⟨H',res,hrun,hmv⟩:=ihe (j+1) tn td FR SN (by omega) hi hbi hsn hz (fun i' j' hij hi' hTT=>by
        by_cases e:i'=i∧j'=j
        · obtain ⟨rfl,rfl⟩:=e
          exact absurd hTT hT
        · exact hcl i' j' (by omega) hi' hTT)
      refine ⟨H',res,fun c hc=>?_,hmv⟩
      refine piece_ok mixed hc (qF2a g nb N m F T Q td FR SN a b (td i) i j tn) ?_ (hrun c hc)
      repeat' (first | exact aN | apply aI)
      all_goals (first | exact aP _ _ | exact aA _ _ | omega | rfl | (intros;first | assumption | exact trivial | rfl | exact fT ‹_› | ((repeat' (first | assumption | apply anda | apply notf));done)) | (exact ht1) | (intro i hi;simp [All]))
theorem out_s {N k nb m:Nat} {g:Nat→T_Bar} {F T Q:Nat→Int} {a b:Int} (hp:PInv N k nb m g F T Q) (hk:k≤1048576) (hN:N≤1048576) (hm:m≤1048576) (hnb:nb≤1048576)
    (ha:0≤a∧a<N) (hb:0≤b∧b<N) (hab:a≠b):∀ d i tn td FR SN,N+1≤i+d→i≤tn→BInv N m g F T Q td (fun s=>FR (td s).toNat) a b tn→SeenI N td SN tn→BZero F td b tn→BClo m g T Q td i 0 tn→OutS N k nb m g F T Q a b i tn td FR SN:=by
  intro d
  induction d with
  | zero =>
    intro i tn td FR SN hd hi hbi _ _ _
    have:=pigeon N tn td hbi.rng hbi.inj
    omega
  | succ d ih =>
    intro i tn td FR SN hd hi hbi hsn hz hcl
    have htn:=pigeon N tn td hbi.rng hbi.inj
    by_cases hit:i<tn
    · have hd':decide ((i:Int)<(tn:Int))=true:=by simp;omega
      obtain ⟨H',res,hrun,hmv⟩:=mid_s hp hk hN hm hnb ha hb hab i (fun tn td FR SN h1 h2 h3 h4 h5=>ih (i+1) tn td FR SN (by omega) h1 h2 h3 h4 h5) m 0 tn td FR SN (by omega) hit hbi hsn hz hcl
      refine ⟨H',res,fun c hc=>?_,hmv⟩
      refine piece_ok mixed hc (qF1 g nb N m F T Q td FR SN a b i tn) ?_ (hrun c hc)
      repeat' (first | exact aN | apply aI)
      all_goals (first | exact aP _ _ | exact aA _ _ | omega | rfl | (intros;first | assumption | exact trivial | rfl | exact fT ‹_› | ((repeat' (first | assumption | apply anda | apply notf));done)) | (intro i hi;simp [All]))
    · have hd':decide ((i:Int)<(tn:Int))=false:=by simp;omega
      obtain rfl:i=tn:=by omega
      refine ⟨_,_,fun c hc=>?_,.no (moved_no hp hbi hz hcl)⟩
      refine path_ok mixed Tryz.func377 hc (qF1e g nb N m F T Q td FR SN a b i i) ?_
      repeat' (first | exact aN | apply aI)
      all_goals (first | exact aA _ _ | exact aE _ | omega | rfl | (intros;first | assumption | exact trivial | rfl | exact fT ‹_› | ((repeat' (first | assumption | apply anda | apply notf));done)) | (intro i hi;simp [All]))
theorem con_l4Find {N k nb m:Nat} {g:Nat→T_Bar} {F T Q:Nat→Int} {a b:Int} (hp:PInv N k nb m g F T Q) (hk:k≤1048576) (hN:N≤1048576) (hm:m≤1048576) (hnb:nb≤1048576)
    (ha:0≤a∧a<N) (hb:0≤b∧b<N) (hab:a≠b):∃ H' res,Con Tryz.prog 377 3 (pebR N m F T Q) [grG g nb N,pebO N m 0,.p (.int .i64 a),.p (.int .i64 b)] H' res∧FindR N k nb m g F T Q a b H' res:=by
  obtain ⟨H',res,hrun,hmv⟩:=out_s hp hk hN hm hnb ha hb hab (N+1) 0 1 (fun _=>a) (fun _=>-1) (fun s=>if s=a.toNat then true else false) (by omega) (by omega)
    ⟨by omega,rfl,fun s hs=>ha,fun s s' h1 h2=>by omega,fun s h1 h2=>by omega⟩ (fun x hx=>by
      show (if x=a.toNat then true else false)=true↔∃ s,s<1∧a=x
      by_cases e:x=a.toNat
      · rw [if_pos e];exact ⟨fun _=>⟨0,by omega,by omega⟩,fun _=>rfl⟩
      · rw [if_neg e];exact ⟨(fun h=>by cases h),(fun ⟨s,h1,h2⟩=>by omega)⟩) (fun s h1 h2=>by omega) (fun i' j' h=>by omega)
  refine ⟨H',res,?_,hmv⟩
  refine con_start Tryz.func377 rfl (by kernel_rfl) rfl (fun c hc=>?_)
  have lp0:∀ d i,i+d=N→Run Tryz.prog c 377 zf71 (SF0 g nb N m F T Q a b i) (Post c H' res):=by
    intro d
    induction d with
    | zero =>
      intro i hi
      obtain rfl:i=N:=by omega
      have hd:decide ((i:Int)<(i:Int))=false:=by simp
      refine piece_ok mixed hc (qF01 g nb i m F T Q a b i) ?_ (hrun c hc)
      repeat' (first | exact aN | apply aI)
      all_goals (first | exact aP _ _ | exact aA _ _ | omega | rfl | (intros;first | assumption | exact trivial | rfl | exact fT ‹_› | ((repeat' (first | assumption | apply anda | apply notf));done)) | (intro j hj;simp [All];done) | (intro j hj;simp [hj,All];done) | (intro j hj;by_cases h:j=a.toNat<;>simp [h,cvtL,cvt,tg,tru,All]) | (simp only [All];first | exact aP _ _ | exact aA _ _ | omega | rfl | (intros;first | assumption | exact trivial | rfl | exact fT ‹_› | ((repeat' (first | assumption | apply anda | apply notf));done)) | (intro j hj;simp [All];done) | (intro j hj;simp [hj,All];done) | (intro j hj;by_cases h:j=a.toNat<;>simp [h,cvtL,cvt,tg,tru,All])))
    | succ d ih =>
      intro i hi
      have hd:decide ((i:Int)<(N:Int))=true:=by simp;omega
      refine piece_ok mixed hc (qF0 g nb N m F T Q a b i) ?_ (ih (i+1) (by omega))
      repeat' (first | exact aN | apply aI)
      all_goals (first | exact aP _ _ | exact aA _ _ | omega | rfl | (intros;first | assumption | exact trivial | rfl | exact fT ‹_› | ((repeat' (first | assumption | apply anda | apply notf));done)) | (intro j hj;simp [All];done) | (intro j hj;by_cases h:j=i<;>simp [h,Nat.lt_succ_iff_lt_or_eq,cvtL,cvt,tg,tru,All]))
  refine piece_ok mixed hc (qFz g nb N m F T Q a b) ?_ (lp0 N 0 (by omega))
  repeat' (first | exact aN | apply aI)
  all_goals (first | exact aP _ _ | exact aA _ _ | omega | rfl | (intros;first | assumption | exact trivial | rfl | exact fT ‹_› | ((repeat' (first | assumption | apply anda | apply notf));done)) | (intro i hi;simp [All]) | (simp only [All];first | exact aP _ _ | exact aA _ _ | omega | rfl | (intros;first | assumption | exact trivial | rfl | exact fT ‹_› | ((repeat' (first | assumption | apply anda | apply notf));done)) | (intro i hi;simp [All])))
end Go.Proofs.YtkkjoghiigiokaaGreat.Mach
namespace Go.Proofs.YtkkjoghiigiokaaGreat.Mach
open Go
set_option linter.unusedVariables false
set_option linter.unusedSimpArgs false
def aft (a b:T_Bar):Bool:=bif decide (a.1<b.1) then true else bif a.1==b.1 then decide (a.2.1≤b.2.1) else false
def cmpI (x y:Int):Int:=if x<y then -1 else if x>y then 1 else 0
def cmpB (a b:T_Bar):Int:=if cmpI a.1 b.1=0 then cmpI a.2.1 b.2.1 else cmpI a.1 b.1
def badB (N:Int) (g:Nat→T_Bar) (k:Nat):Bool :=
  bif bif bif decide ((g k).1<0) then true else decide ((g k).1≥(g k).2.1) then true else decide ((g k).2.1≥N) then true
    else bif decide ((k:Int)>0) then !aft (g ((k:Int) - 1).toNat) (g k) else false
def goodB (N:Int) (g:Nat→T_Bar):Nat→Bool
  | 0=>true
  | k+1=>goodB N g k&&!badB N g k
def isGraphF (v:T_Graph):Bool:=if inB v.1 1 8=true∧v.2.1.1≤24 then goodB v.1 v.2.1.2 v.2.1.1 else false
def barA (a:T_Bar):AV:=.agg [.p (.int .i64 a.1),.p (.int .i64 a.2.1)]
def graphL (v:T_BarS):AV:=.p (.seq true 2 v.1 (fun i=>[.int .i64 (v.2 i).1,.int .i64 (v.2 i).2.1]))
def graphA (v:T_Graph):AV:=.agg [.p (.int .i64 v.1),graphL v.2.1]
def boxG (v:T_Graph):Ob:=⟨true,2,1,fun i=>[.p (.int .i64 v.1),graphL v.2.1]⟩
def S48 (v:T_Graph) (k:Nat):St :=
  ⟨[graphA v,.pt 2 0 0 0,.p .any,.p (.int .i64 k)]++List.replicate 55 anyA,[(0,boxG v)],1⟩
def S51 (v:T_Graph) (k:Nat):St :=
  ⟨[graphA v,.pt 2 0 0 0]++List.replicate 14 anyA++[graphL v.2.1,.p (.int .i64 v.2.1.1),.p (.int .i64 k)]++List.replicate 37 anyA,[(0,boxG v)],1⟩
theorem p57 (a b:T_Bar) :
    pathOb Tryz.prog Tryz.f168 0 [rg 3,rg 20] [.code (bodyOf Tryz.f168)] (start Tryz.f168 [] 0 [barA a,barA b]) [] 1 [] (.p (.bool (aft a b))) =
    some [(NT 0 1),(NT 0 1),(AG (!decide (a.1<b.1))),(((!decide (a.1<b.1))=true)→(NT 0 1)),(AG (!decide (a.1<b.1))),(((!decide (a.1<b.1))=true)→(NT 0 1)),(AG (!decide (a.1<b.1))),(AG (!decide (a.1<b.1))),(AG (!decide (a.1<b.1))),(AG (!decide (a.1<b.1)&&a.1==b.1)),(((!decide (a.1<b.1)&&a.1==b.1)=true)→(NT 0 1)),(AG (!decide (a.1<b.1)&&a.1==b.1)),(((!decide (a.1<b.1)&&a.1==b.1)=true)→(NT 0 1)),(AG (!decide (a.1<b.1)&&a.1==b.1)),(AG (!decide (a.1<b.1)&&a.1==b.1)),(AG (!decide (a.1<b.1))),(((!decide (a.1<b.1))=true)→(((a.1==b.1)=true)→ ((!decide (a.1<b.1)&&a.1==b.1)=true))),(((decide (a.1<b.1))=false)→ ((!decide (a.1<b.1))=true)),((bif decide (a.1<b.1) then true else bif a.1==b.1 then decide (a.2.1≤b.2.1) else false)=(aft a b))]:=by kernel_rfl
theorem p62a (x y:Int) :
    pathOb Tryz.prog Tryz.f287 0 [rg 1,rg 4,.dec true,rg 1] [.code (bodyOf Tryz.f287)] (start Tryz.f287 [] 0 [.p (.int .i64 x),.p (.int .i64 y)]) [] 1 [] (.p (.int .i64 (-1))) =
    some [((decide (x<y))=true),(AI ((-1)))]:=by kernel_rfl
theorem p62b (x y:Int) :
    pathOb Tryz.prog Tryz.f287 0 [rg 1,rg 4,.dec false,rg 4,.dec true,rg 1] [.code (bodyOf Tryz.f287)] (start Tryz.f287 [] 0 [.p (.int .i64 x),.p (.int .i64 y)]) [] 1 [] (.p (.int .i64 1)) =
    some [((decide (x<y))=false),((decide (x>y))=true),(AI 1)]:=by kernel_rfl
theorem p62c (x y:Int) :
    pathOb Tryz.prog Tryz.f287 0 [rg 1,rg 4,.dec false,rg 4,.dec false,rg 1] [.code (bodyOf Tryz.f287)] (start Tryz.f287 [] 0 [.p (.int .i64 x),.p (.int .i64 y)]) [] 1 [] (.p (.int .i64 0)) =
    some [((decide (x<y))=false),((decide (x>y))=false),(AI 0)]:=by kernel_rfl
theorem p59a (a b:T_Bar) :
    pathOb Tryz.prog Tryz.f180 0 [rg 3,rm [(4,oc [] (.p (.int .i64 (cmpI a.1 b.1))))] 1,rg 2,.dec true,rg 2] [.code (bodyOf Tryz.f180)] (start Tryz.f180 [] 0 [barA a,barA b]) [] 1 [] (.p (.int .i64 (cmpI a.1 b.1))) =
    some [(NT 0 1),(NT 0 1),Con Tryz.prog 287 0 [] [.p (.int .i64 a.1),.p (.int .i64 b.1)] [] (.p (.int .i64 (cmpI a.1 b.1))),((cmpI a.1 b.1 != 0)=true),(AI ((cmpI a.1 b.1)))]:=by kernel_rfl
theorem p59b (a b:T_Bar) :
    pathOb Tryz.prog Tryz.f180 0 [rg 3,rm [(4,oc [] (.p (.int .i64 (cmpI a.1 b.1))))] 1,rg 2,.dec false,rm [(4,oc [] (.p (.int .i64 (cmpI a.2.1 b.2.1))))] 1] [.code (bodyOf Tryz.f180)] (start Tryz.f180 [] 0 [barA a,barA b]) [] 1 [] (.p (.int .i64 (cmpI a.2.1 b.2.1))) =
    some [(NT 0 1),(NT 0 1),Con Tryz.prog 287 0 [] [.p (.int .i64 a.1),.p (.int .i64 b.1)] [] (.p (.int .i64 (cmpI a.1 b.1))),((cmpI a.1 b.1 != 0)=false),(NT 0 1),(NT 0 1),Con Tryz.prog 287 0 [] [.p (.int .i64 a.2.1),.p (.int .i64 b.2.1)] [] (.p (.int .i64 (cmpI a.2.1 b.2.1))),(AI ((cmpI a.2.1 b.2.1)))]:=by kernel_rfl
theorem p48z (v:T_Graph) :
    pathOb Tryz.prog Tryz.f53 0 [rg 2,rm [(2,oc [] (.p (.bool (inB v.1 1 8))))] 7,.dec true,rg 1] [.code (bodyOf Tryz.f53)] (start Tryz.f53 [] 0 [graphA v]) [] 1 [] (.p (.bool false)) =
    some [(NT 0 1),Con Tryz.prog 167 0 [] [.p (.int .i64 v.1),.p (.int .i64 1),.p (.int .i64 8)] [] (.p (.bool (inB v.1 1 8))),(AG (!!inB v.1 1 8)),(((!!inB v.1 1 8)=true)→(NT 0 1)),(AG (!!inB v.1 1 8)),(AG (!!inB v.1 1 8)),(((!inB v.1 1 8)=false)→ ((!!inB v.1 1 8)=true)),((bif !inB v.1 1 8 then true else decide ((↑v.2.1.1:Int)>24))=true),(false=false)]:=by kernel_rfl
theorem p48a (v:T_Graph) :
    pieceOb Tryz.prog 0 [rg 2,rm [(2,oc [] (.p (.bool (inB v.1 1 8))))] 7,.dec false,rg 1,.head] [.code (bodyOf Tryz.f53)] (start Tryz.f53 [] 0 [graphA v]) [0] 1 (S48 v 0) =
    some (zf80,[(NT 0 1),Con Tryz.prog 167 0 [] [.p (.int .i64 v.1),.p (.int .i64 1),.p (.int .i64 8)] [] (.p (.bool (inB v.1 1 8))),(AG (!!inB v.1 1 8)),(((!!inB v.1 1 8)=true)→(NT 0 1)),(AG (!!inB v.1 1 8)),(AG (!!inB v.1 1 8)),(((!inB v.1 1 8)=false)→ ((!!inB v.1 1 8)=true)),((bif !inB v.1 1 8 then true else decide ((↑v.2.1.1:Int)>24))=false),(AI v.1),(AN v.2.1.1),(AP v.2.1.1 (fun i=>[.int .i64 ((v.2.1.2 i).1),.int .i64 ((v.2.1.2 i).2.1)])),(AN 0),((0:Int)=(↑0:Int)),((([AV.p (PV.int IntKind.i64 v.1),graphL v.2.1].length):Nat)=2),(NL 1 1),(NL 1 1),(AI v.1),(AN v.2.1.1),(AP v.2.1.1 (fun i=>[.int .i64 ((v.2.1.2 i).1),.int .i64 ((v.2.1.2 i).2.1)]))]):=by kernel_rfl
theorem p48b (v:T_Graph) (k:Nat) :
    pieceOb Tryz.prog 0 [rg 5,.dec true,rg 7,rm [(28,oc [] (.p (.bool (aft (v.2.1.2 ((k:Int) - 1).toNat) (v.2.1.2 k)))))] 3,.dec false,rg 3,.head] zf80 (S48 v k) [0] 1 (S48 v (k+1)) =
    some (zf80,[(NT 0 1),((decide ((↑k:Int)<(↑v.2.1.1:Int)))=true),(NT 0 1),(IL 0 (↑k:Int)),(IT (↑k:Int) (↑v.2.1.1:Int)),(NT 0 1),((true=true)→ (AN 1)),(NT 0 1),(AG (!decide ((v.2.1.2 (↑k:Int).toNat).1<0))),(((!decide ((v.2.1.2 (↑k:Int).toNat).1<0))=true)→(NT 0 1)),(AG (!decide ((v.2.1.2 (↑k:Int).toNat).1<0))),(((!decide ((v.2.1.2 (↑k:Int).toNat).1<0))=true)→(NT 0 1)),(AG (!decide ((v.2.1.2 (↑k:Int).toNat).1<0))),(AG (!decide ((v.2.1.2 (↑k:Int).toNat).1<0))),(((decide ((v.2.1.2 (↑k:Int).toNat).1<0))=false)→ ((!decide ((v.2.1.2 (↑k:Int).toNat).1<0))=true)),(AG (!bif decide ((v.2.1.2 (↑k:Int).toNat).1<0) then true else decide ((v.2.1.2 (↑k:Int).toNat).1≥(v.2.1.2 (↑k:Int).toNat).2.1))),(((!bif decide ((v.2.1.2 (↑k:Int).toNat).1<0) then true else decide ((v.2.1.2 (↑k:Int).toNat).1≥(v.2.1.2 (↑k:Int).toNat).2.1))=true)→(NT 0 1)),(AG (!bif decide ((v.2.1.2 (↑k:Int).toNat).1<0) then true else decide ((v.2.1.2 (↑k:Int).toNat).1≥(v.2.1.2 (↑k:Int).toNat).2.1))),(((!bif decide ((v.2.1.2 (↑k:Int).toNat).1<0) then true else decide ((v.2.1.2 (↑k:Int).toNat).1≥(v.2.1.2 (↑k:Int).toNat).2.1))=true)→(NT 0 1)),(AG (!bif decide ((v.2.1.2 (↑k:Int).toNat).1<0) then true else decide ((v.2.1.2 (↑k:Int).toNat).1≥(v.2.1.2 (↑k:Int).toNat).2.1))),(AG (!bif decide ((v.2.1.2 (↑k:Int).toNat).1<0) then true else decide ((v.2.1.2 (↑k:Int).toNat).1≥(v.2.1.2 (↑k:Int).toNat).2.1))),(((bif decide ((v.2.1.2 (↑k:Int).toNat).1<0) then true else decide ((v.2.1.2 (↑k:Int).toNat).1≥(v.2.1.2 (↑k:Int).toNat).2.1))=false)→ ((!bif decide ((v.2.1.2 (↑k:Int).toNat).1<0) then true else decide ((v.2.1.2 (↑k:Int).toNat).1≥(v.2.1.2 (↑k:Int).toNat).2.1))=true)),(AG (!bif bif decide ((v.2.1.2 (↑k:Int).toNat).1<0) then true else decide ((v.2.1.2 (↑k:Int).toNat).1≥(v.2.1.2 (↑k:Int).toNat).2.1) then true else decide ((v.2.1.2 (↑k:Int).toNat).2.1≥v.1))),(AG (!bif bif decide ((v.2.1.2 (↑k:Int).toNat).1<0) then true else decide ((v.2.1.2 (↑k:Int).toNat).1≥(v.2.1.2 (↑k:Int).toNat).2.1) then true else decide ((v.2.1.2 (↑k:Int).toNat).2.1≥v.1))),(AG ((!bif bif decide ((v.2.1.2 (↑k:Int).toNat).1<0) then true else decide ((v.2.1.2 (↑k:Int).toNat).1≥(v.2.1.2 (↑k:Int).toNat).2.1) then true else decide ((v.2.1.2 (↑k:Int).toNat).2.1≥v.1))&&decide ((↑k:Int)>0))),((((!bif bif decide ((v.2.1.2 (↑k:Int).toNat).1<0) then true else decide ((v.2.1.2 (↑k:Int).toNat).1≥(v.2.1.2 (↑k:Int).toNat).2.1) then true else decide ((v.2.1.2 (↑k:Int).toNat).2.1≥v.1))&&decide ((↑k:Int)>0))=true)→(NT 0 1)),(AG ((!bif bif decide ((v.2.1.2 (↑k:Int).toNat).1<0) then true else decide ((v.2.1.2 (↑k:Int).toNat).1≥(v.2.1.2 (↑k:Int).toNat).2.1) then true else decide ((v.2.1.2 (↑k:Int).toNat).2.1≥v.1))&&decide ((↑k:Int)>0))),((((!bif bif decide ((v.2.1.2 (↑k:Int).toNat).1<0) then true else decide ((v.2.1.2 (↑k:Int).toNat).1≥(v.2.1.2 (↑k:Int).toNat).2.1) then true else decide ((v.2.1.2 (↑k:Int).toNat).2.1≥v.1))&&decide ((↑k:Int)>0))=true)→(ZLo ((↑k:Int) - 1))),((((!bif bif decide ((v.2.1.2 (↑k:Int).toNat).1<0) then true else decide ((v.2.1.2 (↑k:Int).toNat).1≥(v.2.1.2 (↑k:Int).toNat).2.1) then true else decide ((v.2.1.2 (↑k:Int).toNat).2.1≥v.1))&&decide ((↑k:Int)>0))=true)→(ZHi ((↑k:Int) - 1))),(AG ((!bif bif decide ((v.2.1.2 (↑k:Int).toNat).1<0) then true else decide ((v.2.1.2 (↑k:Int).toNat).1≥(v.2.1.2 (↑k:Int).toNat).2.1) then true else decide ((v.2.1.2 (↑k:Int).toNat).2.1≥v.1))&&decide ((↑k:Int)>0))),(AG ((!bif bif decide ((v.2.1.2 (↑k:Int).toNat).1<0) then true else decide ((v.2.1.2 (↑k:Int).toNat).1≥(v.2.1.2 (↑k:Int).toNat).2.1) then true else decide ((v.2.1.2 (↑k:Int).toNat).2.1≥v.1))&&decide ((↑k:Int)>0))),((((!bif bif decide ((v.2.1.2 (↑k:Int).toNat).1<0) then true else decide ((v.2.1.2 (↑k:Int).toNat).1≥(v.2.1.2 (↑k:Int).toNat).2.1) then true else decide ((v.2.1.2 (↑k:Int).toNat).2.1≥v.1))&&decide ((↑k:Int)>0))=true)→(IL 0 ((↑k:Int) - 1))),((((!bif bif decide ((v.2.1.2 (↑k:Int).toNat).1<0) then true else decide ((v.2.1.2 (↑k:Int).toNat).1≥(v.2.1.2 (↑k:Int).toNat).2.1) then true else decide ((v.2.1.2 (↑k:Int).toNat).2.1≥v.1))&&decide ((↑k:Int)>0))=true)→(IT ((↑k:Int) - 1) (↑v.2.1.1:Int))),(AG ((!bif bif decide ((v.2.1.2 (↑k:Int).toNat).1<0) then true else decide ((v.2.1.2 (↑k:Int).toNat).1≥(v.2.1.2 (↑k:Int).toNat).2.1) then true else decide ((v.2.1.2 (↑k:Int).toNat).2.1≥v.1))&&decide ((↑k:Int)>0))),((((!bif bif decide ((v.2.1.2 (↑k:Int).toNat).1<0) then true else decide ((v.2.1.2 (↑k:Int).toNat).1≥(v.2.1.2 (↑k:Int).toNat).2.1) then true else decide ((v.2.1.2 (↑k:Int).toNat).2.1≥v.1))&&decide ((↑k:Int)>0))=true)→(NT 0 1)),(AG ((!bif bif decide ((v.2.1.2 (↑k:Int).toNat).1<0) then true else decide ((v.2.1.2 (↑k:Int).toNat).1≥(v.2.1.2 (↑k:Int).toNat).2.1) then true else decide ((v.2.1.2 (↑k:Int).toNat).2.1≥v.1))&&decide ((↑k:Int)>0))),(AG ((!bif bif decide ((v.2.1.2 (↑k:Int).toNat).1<0) then true else decide ((v.2.1.2 (↑k:Int).toNat).1≥(v.2.1.2 (↑k:Int).toNat).2.1) then true else decide ((v.2.1.2 (↑k:Int).toNat).2.1≥v.1))&&decide ((↑k:Int)>0))),((((!bif bif decide ((v.2.1.2 (↑k:Int).toNat).1<0) then true else decide ((v.2.1.2 (↑k:Int).toNat).1≥(v.2.1.2 (↑k:Int).toNat).2.1) then true else decide ((v.2.1.2 (↑k:Int).toNat).2.1≥v.1))&&decide ((↑k:Int)>0))=true)→ Con Tryz.prog 168 0 [] [(zf94 v k),(zf100 v k)] [] (.p (.bool (aft (v.2.1.2 ((↑k:Int) - 1).toNat) (v.2.1.2 k))))),(AG ((!bif bif decide ((v.2.1.2 (↑k:Int).toNat).1<0) then true else decide ((v.2.1.2 (↑k:Int).toNat).1≥(v.2.1.2 (↑k:Int).toNat).2.1) then true else decide ((v.2.1.2 (↑k:Int).toNat).2.1≥v.1))&&decide ((↑k:Int)>0))),(AG (!bif bif decide ((v.2.1.2 (↑k:Int).toNat).1<0) then true else decide ((v.2.1.2 (↑k:Int).toNat).1≥(v.2.1.2 (↑k:Int).toNat).2.1) then true else decide ((v.2.1.2 (↑k:Int).toNat).2.1≥v.1))),(((!bif bif decide ((v.2.1.2 (↑k:Int).toNat).1<0) then true else decide ((v.2.1.2 (↑k:Int).toNat).1≥(v.2.1.2 (↑k:Int).toNat).2.1) then true else decide ((v.2.1.2 (↑k:Int).toNat).2.1≥v.1))=true)→(((decide ((↑k:Int)>0))=true)→ (((!bif bif decide ((v.2.1.2 (↑k:Int).toNat).1<0) then true else decide ((v.2.1.2 (↑k:Int).toNat).1≥(v.2.1.2 (↑k:Int).toNat).2.1) then true else decide ((v.2.1.2 (↑k:Int).toNat).2.1≥v.1))&&decide ((↑k:Int)>0))=true))),(((bif bif decide ((v.2.1.2 (↑k:Int).toNat).1<0) then true else decide ((v.2.1.2 (↑k:Int).toNat).1≥(v.2.1.2 (↑k:Int).toNat).2.1) then true else decide ((v.2.1.2 (↑k:Int).toNat).2.1≥v.1))=false)→ ((!bif bif decide ((v.2.1.2 (↑k:Int).toNat).1<0) then true else decide ((v.2.1.2 (↑k:Int).toNat).1≥(v.2.1.2 (↑k:Int).toNat).2.1) then true else decide ((v.2.1.2 (↑k:Int).toNat).2.1≥v.1))=true)),((bif bif bif decide ((v.2.1.2 (↑k:Int).toNat).1<0) then true else decide ((v.2.1.2 (↑k:Int).toNat).1≥(v.2.1.2 (↑k:Int).toNat).2.1) then true else decide ((v.2.1.2 (↑k:Int).toNat).2.1≥v.1) then true else bif decide ((↑k:Int)>0) then !aft (v.2.1.2 ((↑k:Int) - 1).toNat) (v.2.1.2 k) else false)=false),(ZLo ((↑k:Int)+1)),(ZHi ((↑k:Int)+1)),(AI v.1),(AN v.2.1.1),(AP v.2.1.1 (fun i=>[.int .i64 ((v.2.1.2 i).1),.int .i64 ((v.2.1.2 i).2.1)])),(AN 0),((((↑k:Int)+1):Int)=(↑(k+1):Int)),(AN 2),(NL 1 1),(NL 1 1),(AI v.1),(AN v.2.1.1),(AP v.2.1.1 (fun i=>[.int .i64 ((v.2.1.2 i).1),.int .i64 ((v.2.1.2 i).2.1)]))]):=by kernel_rfl
theorem p48c (v:T_Graph) (k:Nat) :
    pathOb Tryz.prog Tryz.f53 0 [rg 5,.dec true,rg 7,rm [(28,oc [] (.p (.bool (aft (v.2.1.2 ((k:Int) - 1).toNat) (v.2.1.2 k)))))] 3,.dec true,rg 1] zf80 (S48 v k) [] 1 [] (.p (.bool false)) =
    some [(NT 0 1),((decide ((↑k:Int)<(↑v.2.1.1:Int)))=true),(NT 0 1),(IL 0 (↑k:Int)),(IT (↑k:Int) (↑v.2.1.1:Int)),(NT 0 1),((true=true)→ (AN 1)),(NT 0 1),(AG (!decide ((v.2.1.2 (↑k:Int).toNat).1<0))),(((!decide ((v.2.1.2 (↑k:Int).toNat).1<0))=true)→(NT 0 1)),(AG (!decide ((v.2.1.2 (↑k:Int).toNat).1<0))),(((!decide ((v.2.1.2 (↑k:Int).toNat).1<0))=true)→(NT 0 1)),(AG (!decide ((v.2.1.2 (↑k:Int).toNat).1<0))),(AG (!decide ((v.2.1.2 (↑k:Int).toNat).1<0))),(((decide ((v.2.1.2 (↑k:Int).toNat).1<0))=false)→ ((!decide ((v.2.1.2 (↑k:Int).toNat).1<0))=true)),(AG (!bif decide ((v.2.1.2 (↑k:Int).toNat).1<0) then true else decide ((v.2.1.2 (↑k:Int).toNat).1≥(v.2.1.2 (↑k:Int).toNat).2.1))),(((!bif decide ((v.2.1.2 (↑k:Int).toNat).1<0) then true else decide ((v.2.1.2 (↑k:Int).toNat).1≥(v.2.1.2 (↑k:Int).toNat).2.1))=true)→(NT 0 1)),(AG (!bif decide ((v.2.1.2 (↑k:Int).toNat).1<0) then true else decide ((v.2.1.2 (↑k:Int).toNat).1≥(v.2.1.2 (↑k:Int).toNat).2.1))),(((!bif decide ((v.2.1.2 (↑k:Int).toNat).1<0) then true else decide ((v.2.1.2 (↑k:Int).toNat).1≥(v.2.1.2 (↑k:Int).toNat).2.1))=true)→(NT 0 1)),(AG (!bif decide ((v.2.1.2 (↑k:Int).toNat).1<0) then true else decide ((v.2.1.2 (↑k:Int).toNat).1≥(v.2.1.2 (↑k:Int).toNat).2.1))),(AG (!bif decide ((v.2.1.2 (↑k:Int).toNat).1<0) then true else decide ((v.2.1.2 (↑k:Int).toNat).1≥(v.2.1.2 (↑k:Int).toNat).2.1))),(((bif decide ((v.2.1.2 (↑k:Int).toNat).1<0) then true else decide ((v.2.1.2 (↑k:Int).toNat).1≥(v.2.1.2 (↑k:Int).toNat).2.1))=false)→ ((!bif decide ((v.2.1.2 (↑k:Int).toNat).1<0) then true else decide ((v.2.1.2 (↑k:Int).toNat).1≥(v.2.1.2 (↑k:Int).toNat).2.1))=true)),(AG (!bif bif decide ((v.2.1.2 (↑k:Int).toNat).1<0) then true else decide ((v.2.1.2 (↑k:Int).toNat).1≥(v.2.1.2 (↑k:Int).toNat).2.1) then true else decide ((v.2.1.2 (↑k:Int).toNat).2.1≥v.1))),(AG (!bif bif decide ((v.2.1.2 (↑k:Int).toNat).1<0) then true else decide ((v.2.1.2 (↑k:Int).toNat).1≥(v.2.1.2 (↑k:Int).toNat).2.1) then true else decide ((v.2.1.2 (↑k:Int).toNat).2.1≥v.1))),(AG ((!bif bif decide ((v.2.1.2 (↑k:Int).toNat).1<0) then true else decide ((v.2.1.2 (↑k:Int).toNat).1≥(v.2.1.2 (↑k:Int).toNat).2.1) then true else decide ((v.2.1.2 (↑k:Int).toNat).2.1≥v.1))&&decide ((↑k:Int)>0))),((((!bif bif decide ((v.2.1.2 (↑k:Int).toNat).1<0) then true else decide ((v.2.1.2 (↑k:Int).toNat).1≥(v.2.1.2 (↑k:Int).toNat).2.1) then true else decide ((v.2.1.2 (↑k:Int).toNat).2.1≥v.1))&&decide ((↑k:Int)>0))=true)→(NT 0 1)),(AG ((!bif bif decide ((v.2.1.2 (↑k:Int).toNat).1<0) then true else decide ((v.2.1.2 (↑k:Int).toNat).1≥(v.2.1.2 (↑k:Int).toNat).2.1) then true else decide ((v.2.1.2 (↑k:Int).toNat).2.1≥v.1))&&decide ((↑k:Int)>0))),((((!bif bif decide ((v.2.1.2 (↑k:Int).toNat).1<0) then true else decide ((v.2.1.2 (↑k:Int).toNat).1≥(v.2.1.2 (↑k:Int).toNat).2.1) then true else decide ((v.2.1.2 (↑k:Int).toNat).2.1≥v.1))&&decide ((↑k:Int)>0))=true)→(ZLo ((↑k:Int) - 1))),((((!bif bif decide ((v.2.1.2 (↑k:Int).toNat).1<0) then true else decide ((v.2.1.2 (↑k:Int).toNat).1≥(v.2.1.2 (↑k:Int).toNat).2.1) then true else decide ((v.2.1.2 (↑k:Int).toNat).2.1≥v.1))&&decide ((↑k:Int)>0))=true)→(ZHi ((↑k:Int) - 1))),(AG ((!bif bif decide ((v.2.1.2 (↑k:Int).toNat).1<0) then true else decide ((v.2.1.2 (↑k:Int).toNat).1≥(v.2.1.2 (↑k:Int).toNat).2.1) then true else decide ((v.2.1.2 (↑k:Int).toNat).2.1≥v.1))&&decide ((↑k:Int)>0))),(AG ((!bif bif decide ((v.2.1.2 (↑k:Int).toNat).1<0) then true else decide ((v.2.1.2 (↑k:Int).toNat).1≥(v.2.1.2 (↑k:Int).toNat).2.1) then true else decide ((v.2.1.2 (↑k:Int).toNat).2.1≥v.1))&&decide ((↑k:Int)>0))),((((!bif bif decide ((v.2.1.2 (↑k:Int).toNat).1<0) then true else decide ((v.2.1.2 (↑k:Int).toNat).1≥(v.2.1.2 (↑k:Int).toNat).2.1) then true else decide ((v.2.1.2 (↑k:Int).toNat).2.1≥v.1))&&decide ((↑k:Int)>0))=true)→(IL 0 ((↑k:Int) - 1))),((((!bif bif decide ((v.2.1.2 (↑k:Int).toNat).1<0) then true else decide ((v.2.1.2 (↑k:Int).toNat).1≥(v.2.1.2 (↑k:Int).toNat).2.1) then true else decide ((v.2.1.2 (↑k:Int).toNat).2.1≥v.1))&&decide ((↑k:Int)>0))=true)→(IT ((↑k:Int) - 1) (↑v.2.1.1:Int))),(AG ((!bif bif decide ((v.2.1.2 (↑k:Int).toNat).1<0) then true else decide ((v.2.1.2 (↑k:Int).toNat).1≥(v.2.1.2 (↑k:Int).toNat).2.1) then true else decide ((v.2.1.2 (↑k:Int).toNat).2.1≥v.1))&&decide ((↑k:Int)>0))),((((!bif bif decide ((v.2.1.2 (↑k:Int).toNat).1<0) then true else decide ((v.2.1.2 (↑k:Int).toNat).1≥(v.2.1.2 (↑k:Int).toNat).2.1) then true else decide ((v.2.1.2 (↑k:Int).toNat).2.1≥v.1))&&decide ((↑k:Int)>0))=true)→(NT 0 1)),(AG ((!bif bif decide ((v.2.1.2 (↑k:Int).toNat).1<0) then true else decide ((v.2.1.2 (↑k:Int).toNat).1≥(v.2.1.2 (↑k:Int).toNat).2.1) then true else decide ((v.2.1.2 (↑k:Int).toNat).2.1≥v.1))&&decide ((↑k:Int)>0))),(AG ((!bif bif decide ((v.2.1.2 (↑k:Int).toNat).1<0) then true else decide ((v.2.1.2 (↑k:Int).toNat).1≥(v.2.1.2 (↑k:Int).toNat).2.1) then true else decide ((v.2.1.2 (↑k:Int).toNat).2.1≥v.1))&&decide ((↑k:Int)>0))),((((!bif bif decide ((v.2.1.2 (↑k:Int).toNat).1<0) then true else decide ((v.2.1.2 (↑k:Int).toNat).1≥(v.2.1.2 (↑k:Int).toNat).2.1) then true else decide ((v.2.1.2 (↑k:Int).toNat).2.1≥v.1))&&decide ((↑k:Int)>0))=true)→ Con Tryz.prog 168 0 [] [(zf94 v k),(zf100 v k)] [] (.p (.bool (aft (v.2.1.2 ((↑k:Int) - 1).toNat) (v.2.1.2 k))))),(AG ((!bif bif decide ((v.2.1.2 (↑k:Int).toNat).1<0) then true else decide ((v.2.1.2 (↑k:Int).toNat).1≥(v.2.1.2 (↑k:Int).toNat).2.1) then true else decide ((v.2.1.2 (↑k:Int).toNat).2.1≥v.1))&&decide ((↑k:Int)>0))),(AG (!bif bif decide ((v.2.1.2 (↑k:Int).toNat).1<0) then true else decide ((v.2.1.2 (↑k:Int).toNat).1≥(v.2.1.2 (↑k:Int).toNat).2.1) then true else decide ((v.2.1.2 (↑k:Int).toNat).2.1≥v.1))),(((!bif bif decide ((v.2.1.2 (↑k:Int).toNat).1<0) then true else decide ((v.2.1.2 (↑k:Int).toNat).1≥(v.2.1.2 (↑k:Int).toNat).2.1) then true else decide ((v.2.1.2 (↑k:Int).toNat).2.1≥v.1))=true)→(((decide ((↑k:Int)>0))=true)→ (((!bif bif decide ((v.2.1.2 (↑k:Int).toNat).1<0) then true else decide ((v.2.1.2 (↑k:Int).toNat).1≥(v.2.1.2 (↑k:Int).toNat).2.1) then true else decide ((v.2.1.2 (↑k:Int).toNat).2.1≥v.1))&&decide ((↑k:Int)>0))=true))),(((bif bif decide ((v.2.1.2 (↑k:Int).toNat).1<0) then true else decide ((v.2.1.2 (↑k:Int).toNat).1≥(v.2.1.2 (↑k:Int).toNat).2.1) then true else decide ((v.2.1.2 (↑k:Int).toNat).2.1≥v.1))=false)→ ((!bif bif decide ((v.2.1.2 (↑k:Int).toNat).1<0) then true else decide ((v.2.1.2 (↑k:Int).toNat).1≥(v.2.1.2 (↑k:Int).toNat).2.1) then true else decide ((v.2.1.2 (↑k:Int).toNat).2.1≥v.1))=true)),((bif bif bif decide ((v.2.1.2 (↑k:Int).toNat).1<0) then true else decide ((v.2.1.2 (↑k:Int).toNat).1≥(v.2.1.2 (↑k:Int).toNat).2.1) then true else decide ((v.2.1.2 (↑k:Int).toNat).2.1≥v.1) then true else bif decide ((↑k:Int)>0) then !aft (v.2.1.2 ((↑k:Int) - 1).toNat) (v.2.1.2 k) else false)=true),(false=false)]:=by kernel_rfl
theorem p48d (v:T_Graph) (k:Nat) :
    pathOb Tryz.prog Tryz.f53 0 [rg 5,.dec false,rg 1] zf80 (S48 v k) [] 1 [] (.p (.bool true)) =
    some [(NT 0 1),((decide ((↑k:Int)<(↑v.2.1.1:Int)))=false),(true=true)]:=by kernel_rfl
theorem p51z (v:T_Graph) :
    pathOb Tryz.prog Tryz.f62 0 [rg 2,rm [(2,oc [] (.p (.bool (inB v.1 1 8))))] 7,.dec true,rg 1] [.code (bodyOf Tryz.f62)] (start Tryz.f62 [] 0 [graphA v]) [] 1 [] (.p (.bool false)) =
    some [(NT 0 1),Con Tryz.prog 179 0 [] [.p (.int .i64 v.1),.p (.int .i64 1),.p (.int .i64 8)] [] (.p (.bool (inB v.1 1 8))),(AG (!!inB v.1 1 8)),(((!!inB v.1 1 8)=true)→(NT 0 1)),(AG (!!inB v.1 1 8)),(AG (!!inB v.1 1 8)),(((!inB v.1 1 8)=false)→ ((!!inB v.1 1 8)=true)),((bif !inB v.1 1 8 then true else decide ((↑v.2.1.1:Int)>24))=true),(false=false)]:=by kernel_rfl
theorem p51a (v:T_Graph) :
    pieceOb Tryz.prog 0 [rg 2,rm [(2,oc [] (.p (.bool (inB v.1 1 8))))] 7,.dec false,rg 4,.head] [.code (bodyOf Tryz.f62)] (start Tryz.f62 [] 0 [graphA v]) [0] 1 (S51 v 0) =
    some (zf81,[(NT 0 1),Con Tryz.prog 179 0 [] [.p (.int .i64 v.1),.p (.int .i64 1),.p (.int .i64 8)] [] (.p (.bool (inB v.1 1 8))),(AG (!!inB v.1 1 8)),(((!!inB v.1 1 8)=true)→(NT 0 1)),(AG (!!inB v.1 1 8)),(AG (!!inB v.1 1 8)),(((!inB v.1 1 8)=false)→ ((!!inB v.1 1 8)=true)),((bif !inB v.1 1 8 then true else decide ((↑v.2.1.1:Int)>24))=false),(NT 0 1),(AI v.1),(AN v.2.1.1),(AP v.2.1.1 (fun i=>[.int .i64 ((v.2.1.2 i).1),.int .i64 ((v.2.1.2 i).2.1)])),(AN 0),(AN v.2.1.1),(AP v.2.1.1 (fun i=>[.int .i64 ((v.2.1.2 i).1),.int .i64 ((v.2.1.2 i).2.1)])),(AI ((↑v.2.1.1:Int))),((0:Int)=(↑0:Int)),((([AV.p (PV.int IntKind.i64 v.1),graphL v.2.1].length):Nat)=2),(NL 1 1),(NL 1 1),(AI v.1),(AN v.2.1.1),(AP v.2.1.1 (fun i=>[.int .i64 ((v.2.1.2 i).1),.int .i64 ((v.2.1.2 i).2.1)]))]):=by kernel_rfl
theorem p51b (v:T_Graph) (k:Nat) :
    pieceOb Tryz.prog 0 [rg 1,.dec true,rg 6,rm [(28,oc [] (.p (.int .i64 (cmpB (v.2.1.2 ((k:Int) - 1).toNat) (v.2.1.2 k)))))] 3,.dec false,rg 2,.head] zf81 (S51 v k) [0] 1 (S51 v (k+1)) =
    some (zf81,[((decide ((↑k:Int)<(↑v.2.1.1:Int)))=true),(IL 0 (↑k:Int)),(IT (↑k:Int) (↑v.2.1.1:Int)),(NT 0 1),((true=true)→ (AN 1)),(NT 0 1),(AG (!decide ((v.2.1.2 (↑k:Int).toNat).1<0))),(((!decide ((v.2.1.2 (↑k:Int).toNat).1<0))=true)→(NT 0 1)),(AG (!decide ((v.2.1.2 (↑k:Int).toNat).1<0))),(((!decide ((v.2.1.2 (↑k:Int).toNat).1<0))=true)→(NT 0 1)),(AG (!decide ((v.2.1.2 (↑k:Int).toNat).1<0))),(AG (!decide ((v.2.1.2 (↑k:Int).toNat).1<0))),(((decide ((v.2.1.2 (↑k:Int).toNat).1<0))=false)→ ((!decide ((v.2.1.2 (↑k:Int).toNat).1<0))=true)),(AG (!bif decide ((v.2.1.2 (↑k:Int).toNat).1<0) then true else decide ((v.2.1.2 (↑k:Int).toNat).1≥(v.2.1.2 (↑k:Int).toNat).2.1))),(((!bif decide ((v.2.1.2 (↑k:Int).toNat).1<0) then true else decide ((v.2.1.2 (↑k:Int).toNat).1≥(v.2.1.2 (↑k:Int).toNat).2.1))=true)→(NT 0 1)),(AG (!bif decide ((v.2.1.2 (↑k:Int).toNat).1<0) then true else decide ((v.2.1.2 (↑k:Int).toNat).1≥(v.2.1.2 (↑k:Int).toNat).2.1))),(((!bif decide ((v.2.1.2 (↑k:Int).toNat).1<0) then true else decide ((v.2.1.2 (↑k:Int).toNat).1≥(v.2.1.2 (↑k:Int).toNat).2.1))=true)→(NT 0 1)),(AG (!bif decide ((v.2.1.2 (↑k:Int).toNat).1<0) then true else decide ((v.2.1.2 (↑k:Int).toNat).1≥(v.2.1.2 (↑k:Int).toNat).2.1))),(AG (!bif decide ((v.2.1.2 (↑k:Int).toNat).1<0) then true else decide ((v.2.1.2 (↑k:Int).toNat).1≥(v.2.1.2 (↑k:Int).toNat).2.1))),(((bif decide ((v.2.1.2 (↑k:Int).toNat).1<0) then true else decide ((v.2.1.2 (↑k:Int).toNat).1≥(v.2.1.2 (↑k:Int).toNat).2.1))=false)→ ((!bif decide ((v.2.1.2 (↑k:Int).toNat).1<0) then true else decide ((v.2.1.2 (↑k:Int).toNat).1≥(v.2.1.2 (↑k:Int).toNat).2.1))=true)),(AG (!bif bif decide ((v.2.1.2 (↑k:Int).toNat).1<0) then true else decide ((v.2.1.2 (↑k:Int).toNat).1≥(v.2.1.2 (↑k:Int).toNat).2.1) then true else decide ((v.2.1.2 (↑k:Int).toNat).2.1≥v.1))),(AG (!bif bif decide ((v.2.1.2 (↑k:Int).toNat).1<0) then true else decide ((v.2.1.2 (↑k:Int).toNat).1≥(v.2.1.2 (↑k:Int).toNat).2.1) then true else decide ((v.2.1.2 (↑k:Int).toNat).2.1≥v.1))),(AG ((!bif bif decide ((v.2.1.2 (↑k:Int).toNat).1<0) then true else decide ((v.2.1.2 (↑k:Int).toNat).1≥(v.2.1.2 (↑k:Int).toNat).2.1) then true else decide ((v.2.1.2 (↑k:Int).toNat).2.1≥v.1))&&decide ((↑k:Int)>0))),((((!bif bif decide ((v.2.1.2 (↑k:Int).toNat).1<0) then true else decide ((v.2.1.2 (↑k:Int).toNat).1≥(v.2.1.2 (↑k:Int).toNat).2.1) then true else decide ((v.2.1.2 (↑k:Int).toNat).2.1≥v.1))&&decide ((↑k:Int)>0))=true)→(NT 0 1)),(AG ((!bif bif decide ((v.2.1.2 (↑k:Int).toNat).1<0) then true else decide ((v.2.1.2 (↑k:Int).toNat).1≥(v.2.1.2 (↑k:Int).toNat).2.1) then true else decide ((v.2.1.2 (↑k:Int).toNat).2.1≥v.1))&&decide ((↑k:Int)>0))),((((!bif bif decide ((v.2.1.2 (↑k:Int).toNat).1<0) then true else decide ((v.2.1.2 (↑k:Int).toNat).1≥(v.2.1.2 (↑k:Int).toNat).2.1) then true else decide ((v.2.1.2 (↑k:Int).toNat).2.1≥v.1))&&decide ((↑k:Int)>0))=true)→(ZLo ((↑k:Int) - 1))),((((!bif bif decide ((v.2.1.2 (↑k:Int).toNat).1<0) then true else decide ((v.2.1.2 (↑k:Int).toNat).1≥(v.2.1.2 (↑k:Int).toNat).2.1) then true else decide ((v.2.1.2 (↑k:Int).toNat).2.1≥v.1))&&decide ((↑k:Int)>0))=true)→(ZHi ((↑k:Int) - 1))),(AG ((!bif bif decide ((v.2.1.2 (↑k:Int).toNat).1<0) then true else decide ((v.2.1.2 (↑k:Int).toNat).1≥(v.2.1.2 (↑k:Int).toNat).2.1) then true else decide ((v.2.1.2 (↑k:Int).toNat).2.1≥v.1))&&decide ((↑k:Int)>0))),(AG ((!bif bif decide ((v.2.1.2 (↑k:Int).toNat).1<0) then true else decide ((v.2.1.2 (↑k:Int).toNat).1≥(v.2.1.2 (↑k:Int).toNat).2.1) then true else decide ((v.2.1.2 (↑k:Int).toNat).2.1≥v.1))&&decide ((↑k:Int)>0))),((((!bif bif decide ((v.2.1.2 (↑k:Int).toNat).1<0) then true else decide ((v.2.1.2 (↑k:Int).toNat).1≥(v.2.1.2 (↑k:Int).toNat).2.1) then true else decide ((v.2.1.2 (↑k:Int).toNat).2.1≥v.1))&&decide ((↑k:Int)>0))=true)→(IL 0 ((↑k:Int) - 1))),((((!bif bif decide ((v.2.1.2 (↑k:Int).toNat).1<0) then true else decide ((v.2.1.2 (↑k:Int).toNat).1≥(v.2.1.2 (↑k:Int).toNat).2.1) then true else decide ((v.2.1.2 (↑k:Int).toNat).2.1≥v.1))&&decide ((↑k:Int)>0))=true)→(IT ((↑k:Int) - 1) (↑v.2.1.1:Int))),(AG ((!bif bif decide ((v.2.1.2 (↑k:Int).toNat).1<0) then true else decide ((v.2.1.2 (↑k:Int).toNat).1≥(v.2.1.2 (↑k:Int).toNat).2.1) then true else decide ((v.2.1.2 (↑k:Int).toNat).2.1≥v.1))&&decide ((↑k:Int)>0))),((((!bif bif decide ((v.2.1.2 (↑k:Int).toNat).1<0) then true else decide ((v.2.1.2 (↑k:Int).toNat).1≥(v.2.1.2 (↑k:Int).toNat).2.1) then true else decide ((v.2.1.2 (↑k:Int).toNat).2.1≥v.1))&&decide ((↑k:Int)>0))=true)→(NT 0 1)),(AG ((!bif bif decide ((v.2.1.2 (↑k:Int).toNat).1<0) then true else decide ((v.2.1.2 (↑k:Int).toNat).1≥(v.2.1.2 (↑k:Int).toNat).2.1) then true else decide ((v.2.1.2 (↑k:Int).toNat).2.1≥v.1))&&decide ((↑k:Int)>0))),(AG ((!bif bif decide ((v.2.1.2 (↑k:Int).toNat).1<0) then true else decide ((v.2.1.2 (↑k:Int).toNat).1≥(v.2.1.2 (↑k:Int).toNat).2.1) then true else decide ((v.2.1.2 (↑k:Int).toNat).2.1≥v.1))&&decide ((↑k:Int)>0))),((((!bif bif decide ((v.2.1.2 (↑k:Int).toNat).1<0) then true else decide ((v.2.1.2 (↑k:Int).toNat).1≥(v.2.1.2 (↑k:Int).toNat).2.1) then true else decide ((v.2.1.2 (↑k:Int).toNat).2.1≥v.1))&&decide ((↑k:Int)>0))=true)→ Con Tryz.prog 180 0 [] [(zf94 v k),(zf100 v k)] [] (.p (.int .i64 (cmpB (v.2.1.2 ((↑k:Int) - 1).toNat) (v.2.1.2 k))))),(AG ((!bif bif decide ((v.2.1.2 (↑k:Int).toNat).1<0) then true else decide ((v.2.1.2 (↑k:Int).toNat).1≥(v.2.1.2 (↑k:Int).toNat).2.1) then true else decide ((v.2.1.2 (↑k:Int).toNat).2.1≥v.1))&&decide ((↑k:Int)>0))),(AG (!bif bif decide ((v.2.1.2 (↑k:Int).toNat).1<0) then true else decide ((v.2.1.2 (↑k:Int).toNat).1≥(v.2.1.2 (↑k:Int).toNat).2.1) then true else decide ((v.2.1.2 (↑k:Int).toNat).2.1≥v.1))),(((!bif bif decide ((v.2.1.2 (↑k:Int).toNat).1<0) then true else decide ((v.2.1.2 (↑k:Int).toNat).1≥(v.2.1.2 (↑k:Int).toNat).2.1) then true else decide ((v.2.1.2 (↑k:Int).toNat).2.1≥v.1))=true)→(((decide ((↑k:Int)>0))=true)→ (((!bif bif decide ((v.2.1.2 (↑k:Int).toNat).1<0) then true else decide ((v.2.1.2 (↑k:Int).toNat).1≥(v.2.1.2 (↑k:Int).toNat).2.1) then true else decide ((v.2.1.2 (↑k:Int).toNat).2.1≥v.1))&&decide ((↑k:Int)>0))=true))),(((bif bif decide ((v.2.1.2 (↑k:Int).toNat).1<0) then true else decide ((v.2.1.2 (↑k:Int).toNat).1≥(v.2.1.2 (↑k:Int).toNat).2.1) then true else decide ((v.2.1.2 (↑k:Int).toNat).2.1≥v.1))=false)→ ((!bif bif decide ((v.2.1.2 (↑k:Int).toNat).1<0) then true else decide ((v.2.1.2 (↑k:Int).toNat).1≥(v.2.1.2 (↑k:Int).toNat).2.1) then true else decide ((v.2.1.2 (↑k:Int).toNat).2.1≥v.1))=true)),((bif bif bif decide ((v.2.1.2 (↑k:Int).toNat).1<0) then true else decide ((v.2.1.2 (↑k:Int).toNat).1≥(v.2.1.2 (↑k:Int).toNat).2.1) then true else decide ((v.2.1.2 (↑k:Int).toNat).2.1≥v.1) then true else bif decide ((↑k:Int)>0) then decide (cmpB (v.2.1.2 ((↑k:Int) - 1).toNat) (v.2.1.2 k)>0) else false)=false),(ZLo ((↑k:Int)+1)),(ZHi ((↑k:Int)+1)),(AI v.1),(AN v.2.1.1),(AP v.2.1.1 (fun i=>[.int .i64 ((v.2.1.2 i).1),.int .i64 ((v.2.1.2 i).2.1)])),(AN 0),(AN v.2.1.1),(AP v.2.1.1 (fun i=>[.int .i64 ((v.2.1.2 i).1),.int .i64 ((v.2.1.2 i).2.1)])),(AI ((↑v.2.1.1:Int))),((((↑k:Int)+1):Int)=(↑(k+1):Int)),(AN 2),(NL 1 1),(NL 1 1),(AI v.1),(AN v.2.1.1),(AP v.2.1.1 (fun i=>[.int .i64 ((v.2.1.2 i).1),.int .i64 ((v.2.1.2 i).2.1)]))]):=by kernel_rfl
theorem p51c (v:T_Graph) (k:Nat) :
    pathOb Tryz.prog Tryz.f62 0 [rg 1,.dec true,rg 6,rm [(28,oc [] (.p (.int .i64 (cmpB (v.2.1.2 ((k:Int) - 1).toNat) (v.2.1.2 k)))))] 3,.dec true,rg 1] zf81 (S51 v k) [] 1 [] (.p (.bool false)) =
    some [((decide ((↑k:Int)<(↑v.2.1.1:Int)))=true),(IL 0 (↑k:Int)),(IT (↑k:Int) (↑v.2.1.1:Int)),(NT 0 1),((true=true)→ (AN 1)),(NT 0 1),(AG (!decide ((v.2.1.2 (↑k:Int).toNat).1<0))),(((!decide ((v.2.1.2 (↑k:Int).toNat).1<0))=true)→(NT 0 1)),(AG (!decide ((v.2.1.2 (↑k:Int).toNat).1<0))),(((!decide ((v.2.1.2 (↑k:Int).toNat).1<0))=true)→(NT 0 1)),(AG (!decide ((v.2.1.2 (↑k:Int).toNat).1<0))),(AG (!decide ((v.2.1.2 (↑k:Int).toNat).1<0))),(((decide ((v.2.1.2 (↑k:Int).toNat).1<0))=false)→ ((!decide ((v.2.1.2 (↑k:Int).toNat).1<0))=true)),(AG (!bif decide ((v.2.1.2 (↑k:Int).toNat).1<0) then true else decide ((v.2.1.2 (↑k:Int).toNat).1≥(v.2.1.2 (↑k:Int).toNat).2.1))),(((!bif decide ((v.2.1.2 (↑k:Int).toNat).1<0) then true else decide ((v.2.1.2 (↑k:Int).toNat).1≥(v.2.1.2 (↑k:Int).toNat).2.1))=true)→(NT 0 1)),(AG (!bif decide ((v.2.1.2 (↑k:Int).toNat).1<0) then true else decide ((v.2.1.2 (↑k:Int).toNat).1≥(v.2.1.2 (↑k:Int).toNat).2.1))),(((!bif decide ((v.2.1.2 (↑k:Int).toNat).1<0) then true else decide ((v.2.1.2 (↑k:Int).toNat).1≥(v.2.1.2 (↑k:Int).toNat).2.1))=true)→(NT 0 1)),(AG (!bif decide ((v.2.1.2 (↑k:Int).toNat).1<0) then true else decide ((v.2.1.2 (↑k:Int).toNat).1≥(v.2.1.2 (↑k:Int).toNat).2.1))),(AG (!bif decide ((v.2.1.2 (↑k:Int).toNat).1<0) then true else decide ((v.2.1.2 (↑k:Int).toNat).1≥(v.2.1.2 (↑k:Int).toNat).2.1))),(((bif decide ((v.2.1.2 (↑k:Int).toNat).1<0) then true else decide ((v.2.1.2 (↑k:Int).toNat).1≥(v.2.1.2 (↑k:Int).toNat).2.1))=false)→ ((!bif decide ((v.2.1.2 (↑k:Int).toNat).1<0) then true else decide ((v.2.1.2 (↑k:Int).toNat).1≥(v.2.1.2 (↑k:Int).toNat).2.1))=true)),(AG (!bif bif decide ((v.2.1.2 (↑k:Int).toNat).1<0) then true else decide ((v.2.1.2 (↑k:Int).toNat).1≥(v.2.1.2 (↑k:Int).toNat).2.1) then true else decide ((v.2.1.2 (↑k:Int).toNat).2.1≥v.1))),(AG (!bif bif decide ((v.2.1.2 (↑k:Int).toNat).1<0) then true else decide ((v.2.1.2 (↑k:Int).toNat).1≥(v.2.1.2 (↑k:Int).toNat).2.1) then true else decide ((v.2.1.2 (↑k:Int).toNat).2.1≥v.1))),(AG ((!bif bif decide ((v.2.1.2 (↑k:Int).toNat).1<0) then true else decide ((v.2.1.2 (↑k:Int).toNat).1≥(v.2.1.2 (↑k:Int).toNat).2.1) then true else decide ((v.2.1.2 (↑k:Int).toNat).2.1≥v.1))&&decide ((↑k:Int)>0))),((((!bif bif decide ((v.2.1.2 (↑k:Int).toNat).1<0) then true else decide ((v.2.1.2 (↑k:Int).toNat).1≥(v.2.1.2 (↑k:Int).toNat).2.1) then true else decide ((v.2.1.2 (↑k:Int).toNat).2.1≥v.1))&&decide ((↑k:Int)>0))=true)→(NT 0 1)),(AG ((!bif bif decide ((v.2.1.2 (↑k:Int).toNat).1<0) then true else decide ((v.2.1.2 (↑k:Int).toNat).1≥(v.2.1.2 (↑k:Int).toNat).2.1) then true else decide ((v.2.1.2 (↑k:Int).toNat).2.1≥v.1))&&decide ((↑k:Int)>0))),((((!bif bif decide ((v.2.1.2 (↑k:Int).toNat).1<0) then true else decide ((v.2.1.2 (↑k:Int).toNat).1≥(v.2.1.2 (↑k:Int).toNat).2.1) then true else decide ((v.2.1.2 (↑k:Int).toNat).2.1≥v.1))&&decide ((↑k:Int)>0))=true)→(ZLo ((↑k:Int) - 1))),((((!bif bif decide ((v.2.1.2 (↑k:Int).toNat).1<0) then true else decide ((v.2.1.2 (↑k:Int).toNat).1≥(v.2.1.2 (↑k:Int).toNat).2.1) then true else decide ((v.2.1.2 (↑k:Int).toNat).2.1≥v.1))&&decide ((↑k:Int)>0))=true)→(ZHi ((↑k:Int) - 1))),(AG ((!bif bif decide ((v.2.1.2 (↑k:Int).toNat).1<0) then true else decide ((v.2.1.2 (↑k:Int).toNat).1≥(v.2.1.2 (↑k:Int).toNat).2.1) then true else decide ((v.2.1.2 (↑k:Int).toNat).2.1≥v.1))&&decide ((↑k:Int)>0))),(AG ((!bif bif decide ((v.2.1.2 (↑k:Int).toNat).1<0) then true else decide ((v.2.1.2 (↑k:Int).toNat).1≥(v.2.1.2 (↑k:Int).toNat).2.1) then true else decide ((v.2.1.2 (↑k:Int).toNat).2.1≥v.1))&&decide ((↑k:Int)>0))),((((!bif bif decide ((v.2.1.2 (↑k:Int).toNat).1<0) then true else decide ((v.2.1.2 (↑k:Int).toNat).1≥(v.2.1.2 (↑k:Int).toNat).2.1) then true else decide ((v.2.1.2 (↑k:Int).toNat).2.1≥v.1))&&decide ((↑k:Int)>0))=true)→(IL 0 ((↑k:Int) - 1))),((((!bif bif decide ((v.2.1.2 (↑k:Int).toNat).1<0) then true else decide ((v.2.1.2 (↑k:Int).toNat).1≥(v.2.1.2 (↑k:Int).toNat).2.1) then true else decide ((v.2.1.2 (↑k:Int).toNat).2.1≥v.1))&&decide ((↑k:Int)>0))=true)→(IT ((↑k:Int) - 1) (↑v.2.1.1:Int))),(AG ((!bif bif decide ((v.2.1.2 (↑k:Int).toNat).1<0) then true else decide ((v.2.1.2 (↑k:Int).toNat).1≥(v.2.1.2 (↑k:Int).toNat).2.1) then true else decide ((v.2.1.2 (↑k:Int).toNat).2.1≥v.1))&&decide ((↑k:Int)>0))),((((!bif bif decide ((v.2.1.2 (↑k:Int).toNat).1<0) then true else decide ((v.2.1.2 (↑k:Int).toNat).1≥(v.2.1.2 (↑k:Int).toNat).2.1) then true else decide ((v.2.1.2 (↑k:Int).toNat).2.1≥v.1))&&decide ((↑k:Int)>0))=true)→(NT 0 1)),(AG ((!bif bif decide ((v.2.1.2 (↑k:Int).toNat).1<0) then true else decide ((v.2.1.2 (↑k:Int).toNat).1≥(v.2.1.2 (↑k:Int).toNat).2.1) then true else decide ((v.2.1.2 (↑k:Int).toNat).2.1≥v.1))&&decide ((↑k:Int)>0))),(AG ((!bif bif decide ((v.2.1.2 (↑k:Int).toNat).1<0) then true else decide ((v.2.1.2 (↑k:Int).toNat).1≥(v.2.1.2 (↑k:Int).toNat).2.1) then true else decide ((v.2.1.2 (↑k:Int).toNat).2.1≥v.1))&&decide ((↑k:Int)>0))),((((!bif bif decide ((v.2.1.2 (↑k:Int).toNat).1<0) then true else decide ((v.2.1.2 (↑k:Int).toNat).1≥(v.2.1.2 (↑k:Int).toNat).2.1) then true else decide ((v.2.1.2 (↑k:Int).toNat).2.1≥v.1))&&decide ((↑k:Int)>0))=true)→ Con Tryz.prog 180 0 [] [(zf94 v k),(zf100 v k)] [] (.p (.int .i64 (cmpB (v.2.1.2 ((↑k:Int) - 1).toNat) (v.2.1.2 k))))),(AG ((!bif bif decide ((v.2.1.2 (↑k:Int).toNat).1<0) then true else decide ((v.2.1.2 (↑k:Int).toNat).1≥(v.2.1.2 (↑k:Int).toNat).2.1) then true else decide ((v.2.1.2 (↑k:Int).toNat).2.1≥v.1))&&decide ((↑k:Int)>0))),(AG (!bif bif decide ((v.2.1.2 (↑k:Int).toNat).1<0) then true else decide ((v.2.1.2 (↑k:Int).toNat).1≥(v.2.1.2 (↑k:Int).toNat).2.1) then true else decide ((v.2.1.2 (↑k:Int).toNat).2.1≥v.1))),(((!bif bif decide ((v.2.1.2 (↑k:Int).toNat).1<0) then true else decide ((v.2.1.2 (↑k:Int).toNat).1≥(v.2.1.2 (↑k:Int).toNat).2.1) then true else decide ((v.2.1.2 (↑k:Int).toNat).2.1≥v.1))=true)→(((decide ((↑k:Int)>0))=true)→ (((!bif bif decide ((v.2.1.2 (↑k:Int).toNat).1<0) then true else decide ((v.2.1.2 (↑k:Int).toNat).1≥(v.2.1.2 (↑k:Int).toNat).2.1) then true else decide ((v.2.1.2 (↑k:Int).toNat).2.1≥v.1))&&decide ((↑k:Int)>0))=true))),(((bif bif decide ((v.2.1.2 (↑k:Int).toNat).1<0) then true else decide ((v.2.1.2 (↑k:Int).toNat).1≥(v.2.1.2 (↑k:Int).toNat).2.1) then true else decide ((v.2.1.2 (↑k:Int).toNat).2.1≥v.1))=false)→ ((!bif bif decide ((v.2.1.2 (↑k:Int).toNat).1<0) then true else decide ((v.2.1.2 (↑k:Int).toNat).1≥(v.2.1.2 (↑k:Int).toNat).2.1) then true else decide ((v.2.1.2 (↑k:Int).toNat).2.1≥v.1))=true)),((bif bif bif decide ((v.2.1.2 (↑k:Int).toNat).1<0) then true else decide ((v.2.1.2 (↑k:Int).toNat).1≥(v.2.1.2 (↑k:Int).toNat).2.1) then true else decide ((v.2.1.2 (↑k:Int).toNat).2.1≥v.1) then true else bif decide ((↑k:Int)>0) then decide (cmpB (v.2.1.2 ((↑k:Int) - 1).toNat) (v.2.1.2 k)>0) else false)=true),(false=false)]:=by kernel_rfl
theorem p51d (v:T_Graph) (k:Nat) :
    pathOb Tryz.prog Tryz.f62 0 [rg 1,.dec false,rg 1] zf81 (S51 v k) [] 1 [] (.p (.bool true)) =
    some [((decide ((↑k:Int)<(↑v.2.1.1:Int)))=false),(true=true)]:=by kernel_rfl
theorem con_l2After (a b:T_Bar):Con Tryz.prog 168 0 [] [barA a,barA b] [] (.p (.bool (aft a b))):=by
  refine con_start Tryz.func168 rfl (by kernel_rfl) rfl (fun c hc=>?_)
  refine path_ok mixed Tryz.func168 hc (p57 a b) ?_
  repeat' (first | exact aN | apply aI)
  all_goals (first | exact aG _ | omega | rfl | (intros;first | assumption | exact trivial | rfl | exact fT ‹_› | ((repeat' (first | assumption | apply anda | apply notf));done)))
theorem con_compareInts (x y:Int):Con Tryz.prog 287 0 [] [.p (.int .i64 x),.p (.int .i64 y)] [] (.p (.int .i64 (cmpI x y))):=by
  refine con_start Tryz.func287 rfl (by kernel_rfl) rfl (fun c hc=>?_)
  by_cases h1:x<y
  · rw [show cmpI x y = -1 by simp [cmpI,h1]]
    refine path_ok mixed Tryz.func287 hc (p62a x y) ?_
    repeat' (first | exact aN | apply aI)
    all_goals (first | omega | rfl | (intros;first | assumption | exact trivial | rfl | exact fT ‹_› | ((repeat' (first | assumption | apply anda | apply notf));done)) | (simp;omega))
  · by_cases h2:x>y
    · rw [show cmpI x y=1 by simp only [cmpI,h1,h2,if_true,if_false]]
      refine path_ok mixed Tryz.func287 hc (p62b x y) ?_
      repeat' (first | exact aN | apply aI)
      all_goals (first | omega | rfl | (intros;first | assumption | exact trivial | rfl | exact fT ‹_› | ((repeat' (first | assumption | apply anda | apply notf));done)) | (simp;omega))
    · rw [show cmpI x y=0 by simp only [cmpI,h1,h2,if_false]]
      refine path_ok mixed Tryz.func287 hc (p62c x y) ?_
      repeat' (first | exact aN | apply aI)
      all_goals (first | omega | rfl | (intros;first | assumption | exact trivial | rfl | exact fT ‹_› | ((repeat' (first | assumption | apply anda | apply notf));done)) | (simp;omega))
theorem con_compareBars (a b:T_Bar):Con Tryz.prog 180 0 [] [barA a,barA b] [] (.p (.int .i64 (cmpB a b))):=by
  refine con_start Tryz.func180 rfl (by kernel_rfl) rfl (fun c hc=>?_)
  by_cases h1:cmpI a.1 b.1=0
  · rw [show cmpB a b=cmpI a.2.1 b.2.1 by simp [cmpB,h1]]
    refine path_ok mixed Tryz.func180 hc (p59b a b) ?_
    repeat' (first | exact aN | apply aI)
    all_goals (first | omega | rfl | (intros;first | assumption | exact trivial | rfl | exact fT ‹_› | ((repeat' (first | assumption | apply anda | apply notf));done)) | (exact con_compareInts _ _) | (simp [h1]))
  · rw [show cmpB a b=cmpI a.1 b.1 by simp [cmpB,h1]]
    refine path_ok mixed Tryz.func180 hc (p59a a b) ?_
    repeat' (first | exact aN | apply aI)
    all_goals (first | omega | rfl | (intros;first | assumption | exact trivial | rfl | exact fT ‹_› | ((repeat' (first | assumption | apply anda | apply notf));done)) | (exact con_compareInts _ _) | (simp [h1]))
theorem cmpB_gt (a b:T_Bar):decide (cmpB a b>0)=!aft a b:=by
  simp only [cmpB,cmpI,aft]
  by_cases h1:a.1<b.1
  · simp [h1]
  · by_cases h2:a.1>b.1
    · have h3:¬ a.1=b.1:=by omega
      simp [h1,h2,h3]
    · have h3:a.1=b.1:=by omega
      simp only [h1,h2,h3,if_true,if_false]
      by_cases h4:a.2.1<b.2.1
      · have:a.2.1≤b.2.1:=by omega
        simp [h4,this]
      · by_cases h5:a.2.1>b.2.1
        · have:¬ a.2.1≤b.2.1:=by omega
          simp [h4,h5,this]
        · have:a.2.1≤b.2.1:=by omega
          simp [h4,h5,this]
theorem goodB_bad (N:Int) (g:Nat→T_Bar) (k:Nat) (h:badB N g k=true):∀ n,k<n→goodB N g n=false
  | 0,h'=>by omega
  | n+1,h'=>by
    by_cases e:k=n
    · subst e;simp [goodB,h]
    · simp [goodB,goodB_bad N g k h n (by omega)]
theorem idx_lt {b:Bool} {k n:Nat} (h:(b&&decide ((k:Int)>0))=true) (hk:k<n):0≤(k:Int) - 1∧(k:Int) - 1<n∧-9223372036854775808≤(k:Int) - 1∧(k:Int) - 1≤n:=by
  simp at h
  omega
theorem con_IsGraph_s (v:T_Graph) (hs:smS s_Graph v):Con Tryz.prog 53 0 [] [graphA v] [] (.p (.bool (isGraphF v))):=by
  refine con_start Tryz.func53 rfl (by kernel_rfl) rfl (fun c hc=>?_)
  have hn:v.2.1.1≤1048576:=hs.2.1.1
  by_cases hz:inB v.1 1 8=true∧v.2.1.1≤24
  · rw [show isGraphF v=goodB v.1 v.2.1.2 v.2.1.1 by rw [isGraphF,if_pos hz]]
    have lp:∀ m k,k+m=v.2.1.1→goodB v.1 v.2.1.2 k=true→Run Tryz.prog c 53 zf80 (S48 v k) (Post c [] (.p (.bool (goodB v.1 v.2.1.2 v.2.1.1)))):=by
      intro m
      induction m with
      | zero =>
        intro k hk hg
        rw [show goodB v.1 v.2.1.2 v.2.1.1=true by rw [show v.2.1.1=k by omega];exact hg]
        have hd:decide ((k:Int)<(v.2.1.1:Int))=false:=by simp;omega
        refine path_ok mixed Tryz.func53 hc (p48d v k) ?_
        repeat' (first | exact aN | apply aI)
        all_goals (first | omega | rfl | (intros;first | assumption | exact trivial | rfl | exact fT ‹_› | ((repeat' (first | assumption | apply anda | apply notf));done)))
      | succ m ih =>
        intro k hk hg
        have hd:decide ((k:Int)<(v.2.1.1:Int))=true:=by simp;omega
        have hkn:k<v.2.1.1:=by omega
        cases he:badB v.1 v.2.1.2 k with
        | true =>
          rw [goodB_bad _ _ k he v.2.1.1 (by omega)]
          refine path_ok mixed Tryz.func53 hc (p48c v k) ?_
          repeat' (first | exact aN | apply aI)
          all_goals (first | exact aG _ | omega | rfl | (intros;first | assumption | exact trivial | rfl | exact fT ‹_› | ((repeat' (first | assumption | apply anda | apply notf));done)) | (intros;exact con_l2After _ _) | (exact he) | (intro h;have:=idx_lt h hkn;omega))
        | false =>
          refine piece_ok mixed hc (p48b v k) ?_ (ih (k+1) (by omega) (by simp [goodB,hg,he]))
          repeat' (first | exact aN | apply aI)
          all_goals (first | exact aG _ | exact aP _ _ | omega | rfl | (intros;first | assumption | exact trivial | rfl | exact fT ‹_› | ((repeat' (first | assumption | apply anda | apply notf));done)) | (intros;exact con_l2After _ _) | (exact he) | (intro h;have:=idx_lt h hkn;omega) | (simp [All]))
    refine piece_ok mixed hc (p48a v) ?_ (lp v.2.1.1 0 (by omega) rfl)
    repeat' (first | exact aN | apply aI)
    all_goals (first | exact aG _ | exact aP _ _ | omega | rfl | (intros;first | assumption | exact trivial | rfl | exact fT ‹_› | ((repeat' (first | assumption | apply anda | apply notf));done)) | (exact con_l1In _ _ _) | (simp [hz.1];omega) | (simp [All]))
  · rw [show isGraphF v=false by rw [isGraphF,if_neg hz]]
    have hb:(bif !inB v.1 1 8 then true else decide ((v.2.1.1:Int)>24))=true:=by
      cases hi:inB v.1 1 8 with
      | false=>rfl
      | true =>
        have:¬ v.2.1.1≤24:=fun h=>hz ⟨hi,h⟩
        simp;omega
    refine path_ok mixed Tryz.func53 hc (p48z v) ?_
    repeat' (first | exact aN | apply aI)
    all_goals (first | exact aG _ | omega | rfl | (intros;first | assumption | exact trivial | rfl | exact fT ‹_› | ((repeat' (first | assumption | apply anda | apply notf));done)) | (exact con_l1In _ _ _))
theorem con_IsGraph_i (v:T_Graph) (hs:smS s_Graph v):Con Tryz.prog 62 0 [] [graphA v] [] (.p (.bool (isGraphF v))):=by
  refine con_start Tryz.func62 rfl (by kernel_rfl) rfl (fun c hc=>?_)
  have hn:v.2.1.1≤1048576:=hs.2.1.1
  by_cases hz:inB v.1 1 8=true∧v.2.1.1≤24
  · rw [show isGraphF v=goodB v.1 v.2.1.2 v.2.1.1 by rw [isGraphF,if_pos hz]]
    have lp:∀ m k,k+m=v.2.1.1→goodB v.1 v.2.1.2 k=true→Run Tryz.prog c 62 zf81 (S51 v k) (Post c [] (.p (.bool (goodB v.1 v.2.1.2 v.2.1.1)))):=by
      intro m
      induction m with
      | zero =>
        intro k hk hg
        rw [show goodB v.1 v.2.1.2 v.2.1.1=true by rw [show v.2.1.1=k by omega];exact hg]
        have hd:decide ((k:Int)<(v.2.1.1:Int))=false:=by simp;omega
        refine path_ok mixed Tryz.func62 hc (p51d v k) ?_
        repeat' (first | exact aN | apply aI)
        all_goals (first | omega | rfl | (intros;first | assumption | exact trivial | rfl | exact fT ‹_› | ((repeat' (first | assumption | apply anda | apply notf));done)))
      | succ m ih =>
        intro k hk hg
        have hd:decide ((k:Int)<(v.2.1.1:Int))=true:=by simp;omega
        have hkn:k<v.2.1.1:=by omega
        cases he:badB v.1 v.2.1.2 k with
        | true =>
          rw [goodB_bad _ _ k he v.2.1.1 (by omega)]
          have he2:=he
          rw [badB,← cmpB_gt] at he2
          refine path_ok mixed Tryz.func62 hc (p51c v k) ?_
          repeat' (first | exact aN | apply aI)
          all_goals (first | exact aG _ | omega | rfl | (intros;first | assumption | exact trivial | rfl | exact fT ‹_› | ((repeat' (first | assumption | apply anda | apply notf));done)) | (intros;exact con_compareBars _ _) | (exact he2) | (intro h;have:=idx_lt h hkn;omega))
        | false =>
          have he2:=he
          rw [badB,← cmpB_gt] at he2
          refine piece_ok mixed hc (p51b v k) ?_ (ih (k+1) (by omega) (by simp [goodB,hg,he]))
          repeat' (first | exact aN | apply aI)
          all_goals (first | exact aG _ | exact aP _ _ | omega | rfl | (intros;first | assumption | exact trivial | rfl | exact fT ‹_› | ((repeat' (first | assumption | apply anda | apply notf));done)) | (intros;exact con_compareBars _ _) | (exact he2) | (intro h;have:=idx_lt h hkn;omega) | (simp [All]))
    refine piece_ok mixed hc (p51a v) ?_ (lp v.2.1.1 0 (by omega) rfl)
    repeat' (first | exact aN | apply aI)
    all_goals (first | exact aG _ | exact aP _ _ | omega | rfl | (intros;first | assumption | exact trivial | rfl | exact fT ‹_› | ((repeat' (first | assumption | apply anda | apply notf));done)) | (exact con_within _ _ _) | (simp [hz.1];omega) | (simp [All]))
  · rw [show isGraphF v=false by rw [isGraphF,if_neg hz]]
    have hb:(bif !inB v.1 1 8 then true else decide ((v.2.1.1:Int)>24))=true:=by
      cases hi:inB v.1 1 8 with
      | false=>rfl
      | true =>
        have:¬ v.2.1.1≤24:=fun h=>hz ⟨hi,h⟩
        simp;omega
    refine path_ok mixed Tryz.func62 hc (p51z v) ?_
    repeat' (first | exact aN | apply aI)
    all_goals (first | exact aG _ | omega | rfl | (intros;first | assumption | exact trivial | rfl | exact fT ‹_› | ((repeat' (first | assumption | apply anda | apply notf));done)) | (exact con_within _ _ _))
end Go.Proofs.YtkkjoghiigiokaaGreat.Mach
namespace Go.Proofs.YtkkjoghiigiokaaGreat.Mach
open Go
set_option linter.unusedVariables false
set_option linter.unusedSimpArgs false
def SH (g:Nat→T_Bar) (nb N m:Nat) (F0 T0 F T Q:Nat→Int) (a b want:Int):St :=
  ⟨[grG g nb N,pebD N m F0 T0 Q,.p (.int .i64 a),.p (.int .i64 b),.p (.int .i64 want),.pt 2 0 0 0,.pt 3 1 0 0,.p .any,.p .any,.p .any,.pt 3 2 0 0,.p .any,.pt 3 3 0 0]++List.replicate 40 anyA,
   [(0,bxG g nb N),(1,bxD N m F0 T0 Q),(2,bx0),(3,bxP N m 4),(4,iOb N F),(5,iOb m T),(6,iOb m Q)],7⟩
def SNc (g:Nat→T_Bar) (nb N k:Nat):St :=
  ⟨[.p .any,.p (.int .i64 k),.pt 2 0 0 0,.p .any,.pt 3 1 0 0,.p .any,.pt 3 2 0 0]++List.replicate 27 anyA,
   [(0,bxG g nb N),(1,bx0),(2,⟨true,3,1,fun _=>[.ar 1 3 0 0,.ar 1 4 0 0,.ar 1 5 0 0]⟩),(3,iOb 0 (fun _=>k)),(4,iOb 0 (fun _=>0)),(5,iOb 0 (fun _=>0))],6⟩
def SN0 (g:Nat→T_Bar) (nb N k i:Nat):St :=
  ⟨[.p .any,.p (.int .i64 k),.pt 2 0 0 0,.p .any,.pt 3 1 0 0,.p .any,.pt 3 2 0 0,.p (.int .i64 i)]++List.replicate 26 anyA,
   [(0,bxG g nb N),(1,bx0),(2,⟨true,3,1,fun _=>[.ar 1 3 0 i,.ar 1 4 0 0,.ar 1 5 0 0]⟩),(3,iOb i (fun _=>k)),(4,iOb 0 (fun _=>0)),(5,iOb 0 (fun _=>0))],6⟩
theorem qHz (g:Nat→T_Bar) (nb N m:Nat) (F T Q:Nat→Int) (a b want:Int) :
    pieceOb Tryz.prog 0 [rg 4,rm [(1,oc (pebR N m F T Q) (pebO N m 0))] 2,.head] [.code (bodyOf Tryz.f341)] (start Tryz.f341 [] 0 [grG g nb N,pebD N m F T Q,.p (.int .i64 a),.p (.int .i64 b),.p (.int .i64 want)]) [0,32,64,192,160,161,162] 1 (SH g nb N m F T F T Q a b want) =
    some (zf82,[(NT 0 1),Con Tryz.prog 340 0 [] [(zf64 N F m T Q)] (zf43 N F m T Q) (.agg [.ar 1 0 0 N,.ar 1 1 0 m,.ar 1 2 0 m]),(NT 0 1),((true=true)→ (AN 1)),(AI ((↑N:Int))),(AN nb),(AP nb (fun i=>[.int .i64 ((g i).1),.int .i64 ((g i).2.1)])),(AN N),(AP N (fun i=>[.int .i64 (F i)])),(AN m),(AP m (fun i=>[.int .i64 (T i)])),(AN m),(AP m (fun i=>[.int .i64 (Q i)])),(AI a),(AI b),(AI want),(AN 0),(AN 0),(AN 0),(AN 0),((([AV.p (PV.int IntKind.i64 (↑N:Int)),brL g nb].length):Nat)=2),(NL 1 1),(NL 1 1),(AI ((↑N:Int))),(AN nb),(AP nb (fun i=>[.int .i64 ((g i).1),.int .i64 ((g i).2.1)])),((([inD N F,inD m T,inD m Q].length):Nat)=3),(NL 1 1),(NL 1 1),(AN N),(AP N (fun i=>[.int .i64 (F i)])),(AN m),(AP m (fun i=>[.int .i64 (T i)])),(AN m),(AP m (fun i=>[.int .i64 (Q i)])),((((List.map (fun v=>AV.p (absV v)) [Value.slice none 0 0,Value.slice none 0 0,Value.slice none 0 0]).length):Nat)=3),(NL 1 1),(NL 1 1),((((List.map (fun v=>AV.p (absV v)) [Value.slice none 0 0,Value.slice none 0 0,Value.slice none 0 0]).length):Nat)=3),(NL 1 1),(NL 1 1),(AN 0),(AN N),(AN 0),(AN m),(AN 0),(AN m),(AN 1),(NL N N),(AA N (fun i=>[.p (.int .i64 (F i))])),(AN 1),(NL m m),(AA m (fun i=>[.p (.int .i64 (T i))])),(AN 1),(NL m m),(AA m (fun i=>[.p (.int .i64 (Q i))]))]):=by kernel_rfl
theorem qHa (g:Nat→T_Bar) (nb N m:Nat) (F0 T0 F T Q F1 T1:Nat→Int) (a b want:Int) :
    pieceOb Tryz.prog 0 [rg 13,.dec true,rm [(4,oq [4,5,6] (pebR3 N m F T Q F1 T1 Q) (.tup [pebO N m 3,.p (.bool true)]))] 6,rg 2,.dec false,rg 2,.dec false,rg 2,.head] zf82 (SH g nb N m F0 T0 F T Q a b want) [0,1,2,3,551,552,553] 1 (SH g nb N m F0 T0 F1 T1 Q a b want) =
    some (zf82,[(NT 0 1),(IL 0 a),(IT a (↑N:Int)),(NT a.toNat N),(NT 0 1),(IL 0 b),(IT b (↑N:Int)),(NT b.toNat N),(ZLo (F a.toNat+F b.toNat)),(ZHi (F a.toNat+F b.toNat)),((decide (F (a.toNat+0)+F (b.toNat+0)<want))=true),(NT 0 1),(NT 0 1),(AE N),(AE m),(AE m),Con Tryz.prog 377 3 (zf43 N F m T Q) [(zf95 N nb g),.agg [.ar 1 0 0 N,.ar 1 1 0 m,.ar 1 2 0 m],.p (.int .i64 a),.p (.int .i64 b)] (zf18 N F m T Q F1 T1) (.tup [.agg [.ar 1 3 0 N,.ar 1 4 0 m,.ar 1 5 0 m],.p (.bool true)]),(NT 0 1),((true=true)→ (AN 1)),((!true)=false),((!true)=false),(NT 0 1),(NT 0 1),((true=true)→ (AN 1)),(AI ((↑N:Int))),(AN nb),(AP nb (fun i=>[.int .i64 ((g i).1),.int .i64 ((g i).2.1)])),(AN N),(AP N (fun i=>[.int .i64 (F0 i)])),(AN m),(AP m (fun i=>[.int .i64 (T0 i)])),(AN m),(AP m (fun i=>[.int .i64 (Q i)])),(AI a),(AI b),(AI want),(AN 0),(AN 0),(AN 0),(AN 0),(AN 2),(NL 1 1),(NL 1 1),(AI ((↑N:Int))),(AN nb),(AP nb (fun i=>[.int .i64 ((g i).1),.int .i64 ((g i).2.1)])),(AN 3),(NL 1 1),(NL 1 1),(AN N),(AP N (fun i=>[.int .i64 (F0 i)])),(AN m),(AP m (fun i=>[.int .i64 (T0 i)])),(AN m),(AP m (fun i=>[.int .i64 (Q i)])),(AN 3),(NL 1 1),(NL 1 1),(AN 3),(NL 1 1),(NL 1 1),(AN 0),(AN N),(AN 0),(AN m),(AN 0),(AN m),(AN 1),(NL N N),(AA N (fun i=>[.p (.int .i64 (F1 i))])),(AN 1),(NL m m),(AA m (fun i=>[.p (.int .i64 (T1 i))])),(AN 1),(NL m m),(AA m (fun i=>[.p (.int .i64 (Q i))]))]):=by kernel_rfl
theorem qHb (g:Nat→T_Bar) (nb N m:Nat) (F0 T0 F T Q F1 T1:Nat→Int) (a b want:Int) :
    pieceOb Tryz.prog 0 [rg 13,.dec true,rm [(4,oq [4,5,6] (pebR N m F T Q) (.tup [pebO N m 0,.p (.bool false)]))] 6,rg 2,.dec true,rm [(4,oq [4,5,6] (pebR3 N m F T Q F1 T1 Q) (.tup [pebO N m 3,.p (.bool true)]))] 5,rg 2,.dec false,rg 2,.head] zf82 (SH g nb N m F0 T0 F T Q a b want) [0,1,2,3,967,968,969] 1 (SH g nb N m F0 T0 F1 T1 Q a b want) =
    some (zf82,[(NT 0 1),(IL 0 a),(IT a (↑N:Int)),(NT a.toNat N),(NT 0 1),(IL 0 b),(IT b (↑N:Int)),(NT b.toNat N),(ZLo (F a.toNat+F b.toNat)),(ZHi (F a.toNat+F b.toNat)),((decide (F (a.toNat+0)+F (b.toNat+0)<want))=true),(NT 0 1),(NT 0 1),(AE N),(AE m),(AE m),Con Tryz.prog 377 3 (zf43 N F m T Q) [(zf95 N nb g),.agg [.ar 1 0 0 N,.ar 1 1 0 m,.ar 1 2 0 m],.p (.int .i64 a),.p (.int .i64 b)] (zf43 N F m T Q) ((zf101 N m)),(NT 0 1),((true=true)→ (AN 1)),((!false)=true),(NT 0 1),(NT 0 1),(AE N),(AE m),(AE m),Con Tryz.prog 377 3 (zf43 N F m T Q) [(zf95 N nb g),.agg [.ar 1 0 0 N,.ar 1 1 0 m,.ar 1 2 0 m],.p (.int .i64 b),.p (.int .i64 a)] (zf18 N F m T Q F1 T1) (.tup [.agg [.ar 1 3 0 N,.ar 1 4 0 m,.ar 1 5 0 m],.p (.bool true)]),(NT 0 1),((true=true)→ (AN 1)),((!true)=false),(NT 0 1),(NT 0 1),((true=true)→ (AN 1)),(AI ((↑N:Int))),(AN nb),(AP nb (fun i=>[.int .i64 ((g i).1),.int .i64 ((g i).2.1)])),(AN N),(AP N (fun i=>[.int .i64 (F0 i)])),(AN m),(AP m (fun i=>[.int .i64 (T0 i)])),(AN m),(AP m (fun i=>[.int .i64 (Q i)])),(AI a),(AI b),(AI want),(AN 0),(AN 0),(AN 0),(AN 0),(AN 2),(NL 1 1),(NL 1 1),(AI ((↑N:Int))),(AN nb),(AP nb (fun i=>[.int .i64 ((g i).1),.int .i64 ((g i).2.1)])),(AN 3),(NL 1 1),(NL 1 1),(AN N),(AP N (fun i=>[.int .i64 (F0 i)])),(AN m),(AP m (fun i=>[.int .i64 (T0 i)])),(AN m),(AP m (fun i=>[.int .i64 (Q i)])),(AN 3),(NL 1 1),(NL 1 1),(AN 3),(NL 1 1),(NL 1 1),(AN 0),(AN N),(AN 0),(AN m),(AN 0),(AN m),(AN 1),(NL N N),(AA N (fun i=>[.p (.int .i64 (F1 i))])),(AN 1),(NL m m),(AA m (fun i=>[.p (.int .i64 (T1 i))])),(AN 1),(NL m m),(AA m (fun i=>[.p (.int .i64 (Q i))]))]):=by kernel_rfl
theorem qHc (g:Nat→T_Bar) (nb N m:Nat) (F0 T0 F T Q:Nat→Int) (a b want:Int) :
    pathOb Tryz.prog Tryz.f341 0 [rg 13,.dec true,rm [(4,oq [4,5,6] (pebR N m F T Q) (.tup [pebO N m 0,.p (.bool false)]))] 6,rg 2,.dec true,rm [(4,oq [4,5,6] (pebR N m F T Q) (.tup [pebO N m 0,.p (.bool false)]))] 5,rg 2,.dec true,rg 3] zf82 (SH g nb N m F0 T0 F T Q a b want) [4,5,6] 1 (pebR N m F T Q) (.tup [pebO N m 0,.p (.bool false)]) =
    some [(NT 0 1),(IL 0 a),(IT a (↑N:Int)),(NT a.toNat N),(NT 0 1),(IL 0 b),(IT b (↑N:Int)),(NT b.toNat N),(ZLo (F a.toNat+F b.toNat)),(ZHi (F a.toNat+F b.toNat)),((decide (F (a.toNat+0)+F (b.toNat+0)<want))=true),(NT 0 1),(NT 0 1),(AE N),(AE m),(AE m),Con Tryz.prog 377 3 (zf43 N F m T Q) [(zf95 N nb g),.agg [.ar 1 0 0 N,.ar 1 1 0 m,.ar 1 2 0 m],.p (.int .i64 a),.p (.int .i64 b)] (zf43 N F m T Q) ((zf101 N m)),(NT 0 1),((true=true)→ (AN 1)),((!false)=true),(NT 0 1),(NT 0 1),(AE N),(AE m),(AE m),Con Tryz.prog 377 3 (zf43 N F m T Q) [(zf95 N nb g),.agg [.ar 1 0 0 N,.ar 1 1 0 m,.ar 1 2 0 m],.p (.int .i64 b),.p (.int .i64 a)] (zf43 N F m T Q) ((zf101 N m)),(NT 0 1),((true=true)→ (AN 1)),((!false)=true),(NT 0 1),(NT 0 1),((true=true)→ (AN 1)),(NT 0 1),(AN 0),(AN N),(AN 0),(AN m),(AN 0),(AN m),(false=false),(AN 1),(NL N N),(AA N (fun i=>[.p (.int .i64 (F i))])),(AN 1),(NL m m),(AA m (fun i=>[.p (.int .i64 (T i))])),(AN 1),(NL m m),(AA m (fun i=>[.p (.int .i64 (Q i))])),(AE N),(AE m),(AE m)]:=by kernel_rfl
theorem qHd (g:Nat→T_Bar) (nb N m:Nat) (F0 T0 F T Q:Nat→Int) (a b want:Int) :
    pathOb Tryz.prog Tryz.f341 0 [rg 13,.dec false,rg 3] zf82 (SH g nb N m F0 T0 F T Q a b want) [4,5,6] 1 (pebR N m F T Q) (.tup [pebO N m 0,.p (.bool true)]) =
    some [(NT 0 1),(IL 0 a),(IT a (↑N:Int)),(NT a.toNat N),(NT 0 1),(IL 0 b),(IT b (↑N:Int)),(NT b.toNat N),(ZLo (F a.toNat+F b.toNat)),(ZHi (F a.toNat+F b.toNat)),((decide (F (a.toNat+0)+F (b.toNat+0)<want))=false),(NT 0 1),(NT 0 1),((true=true)→ (AN 1)),(NT 0 1),(AN 0),(AN N),(AN 0),(AN m),(AN 0),(AN m),(true=true),(AN 1),(NL N N),(AA N (fun i=>[.p (.int .i64 (F i))])),(AN 1),(NL m m),(AA m (fun i=>[.p (.int .i64 (T i))])),(AN 1),(NL m m),(AA m (fun i=>[.p (.int .i64 (Q i))])),(AE N),(AE m),(AE m)]:=by kernel_rfl
theorem qNy (g:Nat→T_Bar) (nb N k:Nat) :
    pieceOb Tryz.prog 0 [rg 3,rg 6,.head] [.code (bodyOf Tryz.f280)] (start Tryz.f280 [] 0 [grG g nb N,.p (.int .i64 k)]) [0,32,224,96,128,160] 1 (SNc g nb N k) =
    some (zf91,[(NT 0 1),((true=true)→ (AN 1)),(AI ((↑k:Int))),(AN 0),(AN 0),(AN 0),((([AV.p (PV.int IntKind.i64 (↑N:Int)),brL g nb].length):Nat)=2),(NL 1 1),(NL 1 1),(AI ((↑N:Int))),(AN nb),(AP nb (fun i=>[.int .i64 ((g i).1),.int .i64 ((g i).2.1)])),((((List.map (fun v=>AV.p (absV v)) [Value.slice none 0 0,Value.slice none 0 0,Value.slice none 0 0]).length):Nat)=3),(NL 1 1),(NL 1 1),((((List.map (fun v=>AV.p (absV v)) [Value.slice none 0 0,Value.slice none 0 0,Value.slice none 0 0]).length):Nat)=3),(NL 1 1),(NL 1 1),(AN 0),(AN 0),(AN 0),(AN 0),(AN 0),(AN 0),(AN 1),(NL 0 0),(∀ i:Nat,(((i:Nat)<0)→(All []∧(([.p (.int .i64 0)]:List AV)=[.p (.int .i64 (↑k:Int))])))),(AN 1),(NL 0 0),(AA 0 (fun i=>[.p (.int .i64 0)])),(AN 1),(NL 0 0),(AA 0 (fun i=>[.p (.int .i64 0)]))]):=by kernel_rfl
theorem qNa (g:Nat→T_Bar) (nb N k:Nat) :
    pieceOb Tryz.prog 0 [rm [(1,oc [] (.p (.bool true))),(3,oc [] (.p (.bool true)))] 2,.dec false,rg 1,.head] zf91 (SNc g nb N k) [0,1,2,3,4,5] 1 (SN0 g nb N k 0) =
    some (zf50,[(NT 0 1),Con Tryz.prog 53 0 [] [(zf95 N nb g)] [] (.p (.bool true)),(AG (!!true)),(((!!true)=true)→ Con Tryz.prog 167 0 [] [.p (.int .i64 (↑k:Int)),.p (.int .i64 1),.p (.int .i64 3)] [] (.p (.bool true))),(AG (!!true)),(((!true)=false)→ ((!!true)=true)),((bif !true then true else !true)=false),(AI ((↑k:Int))),(AN 0),(AN 0),(AN 0),((0:Int)=(↑0:Int)),(AN 2),(NL 1 1),(NL 1 1),(AI ((↑N:Int))),(AN nb),(AP nb (fun i=>[.int .i64 ((g i).1),.int .i64 ((g i).2.1)])),(AN 3),(NL 1 1),(NL 1 1),(AN 3),(NL 1 1),(NL 1 1),(AN 0),(AN 0),(AN 0),(AN 0),(AN 0),(AN 0),(AN 1),(NL 0 0),(AA 0 (fun i=>[.p (.int .i64 (↑k:Int))])),(AN 1),(NL 0 0),(AA 0 (fun i=>[.p (.int .i64 0)])),(AN 1),(NL 0 0),(AA 0 (fun i=>[.p (.int .i64 0)]))]):=by kernel_rfl
theorem qNl (g:Nat→T_Bar) (nb N k i:Nat) :
    pieceOb Tryz.prog 0 [rg 4,.dec true,rg 7,rg 3,.head] zf50 (SN0 g nb N k i) [0,1,2,262,4,5] 1 (SN0 g nb N k (i+1)) =
    some (zf50,[(NT 0 1),((decide ((↑i:Int)<(↑N:Int)))=true),(NT 0 1),(NL 1 1),(NL i i),(NL ((i+1)*8) 140737488355328),(NL (i+1) 9223372036854775807),(NT 0 1),((true=true)→ (AN 1)),(ZLo ((↑i:Int)+1)),(ZHi ((↑i:Int)+1)),(AI ((↑k:Int))),(AN 0),(AN 0),(AN 0),((((↑i:Int)+1):Int)=(↑(i+1):Int)),(AN 2),(NL 1 1),(NL 1 1),(AI ((↑N:Int))),(AN nb),(AP nb (fun i_1=>[.int .i64 ((g i_1).1),.int .i64 ((g i_1).2.1)])),(AN 3),(NL 1 1),(NL 1 1),(AN 3),(NL 1 1),(NL 1 1),(AN 0),(AN ((i+1))),(AN 0),(AN 0),(AN 0),(AN 0),(AN 1),(NL (i+1) (i+1)),(CV [(2,⟨true,3,1,(fun i_2=>[.ar 1 262 0 (i+1),.ar 1 4 0 0,.ar 1 5 0 0])⟩),(262,⟨false,1,(i+1),(fun i_2=>(if (i_2<i) then [.p (.int .i64 (↑k:Int))] else [.p (.int .i64 (↑k:Int))]))⟩),(230,⟨false,1,1,(fun i_2=>[.p (.int .i64 (↑k:Int))])⟩),(0,⟨true,2,1,(fun i_2=>[.p (.int .i64 (↑N:Int)),.p (.seq true 2 nb (fun i_3=>[.int .i64 ((g i_3).1),.int .i64 ((g i_3).2.1)]))])⟩),(1,⟨true,3,1,(fun i_2=>[.p (.nil),.p (.nil),.p (.nil)])⟩),(4,⟨false,1,0,(fun i_2=>[.p (.int .i64 0)])⟩),(5,⟨false,1,0,(fun i_2=>[.p (.int .i64 0)])⟩)] [0,1,2,262,4,5] 1 (i+1) (fun i_1=>if (i_1<i) then [.p (.int .i64 (↑k:Int))] else [.p (.int .i64 (↑k:Int))]) (fun i_1=>[.p (.int .i64 (↑k:Int))])),(AN 1),(NL 0 0),(AA 0 (fun i_1=>[.p (.int .i64 0)])),(AN 1),(NL 0 0),(AA 0 (fun i_1=>[.p (.int .i64 0)]))]):=by kernel_rfl
theorem qNe (g:Nat→T_Bar) (nb N k i:Nat) :
    pathOb Tryz.prog Tryz.f280 0 [rg 4,.dec false,rg 3] zf50 (SN0 g nb N k i) [3,4,5] 1 (pebR i 0 (fun _=>k) (fun _=>0) (fun _=>0)) (.tup [pebO i 0 0,.p (.bool true)]) =
    some [(NT 0 1),((decide ((↑i:Int)<(↑N:Int)))=false),(NT 0 1),(NT 0 1),((true=true)→ (AN 1)),(NT 0 1),(AN 0),(AN i),(AN 0),(AN 0),(AN 0),(AN 0),(true=true),(AN 1),(NL i i),(AA i (fun i_1=>[.p (.int .i64 (↑k:Int))])),(AN 1),(NL 0 0),(AA 0 (fun i_1=>[.p (.int .i64 0)])),(AN 1),(NL 0 0),(AA 0 (fun i_1=>[.p (.int .i64 0)])),(AE i),(AE 0),(AE 0)]:=by kernel_rfl
theorem con_l4Gather {N k nb m l:Nat} {g:Nat→T_Bar} {F0 T0 Q:Nat→Int} {a b:Int} (hp0:PInv N k nb m g F0 T0 Q) (hk:k≤1048576) (hN:N≤1048576) (hm:m≤1048576) (hnb:nb≤1048576)
    (ha:0≤a∧a<N) (hb:0≤b∧b<N) (hab:a≠b):∃ F' T' r,Con Tryz.prog 341 0 [] [grG g nb N,pebD N m F0 T0 Q,.p (.int .i64 a),.p (.int .i64 b),.p (.int .i64 ((l:Int)+1))] (pebR N m F' T' Q) (.tup [pebO N m 0,.p (.bool r)]) ∧
      PInv N k nb m g F' T' Q∧(r=true→(l:Int)+1≤F' a.toNat+F' b.toNat)∧(r=false→¬ Mat.Sparse N k l (plL g Q m++[(a.toNat,b.toNat)])):=by
  have lp:∀ d F T,PInv N k nb m g F T Q→(l:Int)+1≤F a.toNat+F b.toNat+(d:Nat)→∃ F' T' r,(∀ c,c.n=0→Run Tryz.prog c 341 zf82 (SH g nb N m F0 T0 F T Q a b ((l:Int)+1)) (Post c (pebR N m F' T' Q) (.tup [pebO N m 0,.p (.bool r)]))) ∧
      PInv N k nb m g F' T' Q∧(r=true→(l:Int)+1≤F' a.toNat+F' b.toNat)∧(r=false→¬ Mat.Sparse N k l (plL g Q m++[(a.toNat,b.toNat)])):=by
    intro d
    induction d with
    | zero =>
      intro F T hp hw
      have hd:decide (F a.toNat+F b.toNat<(l:Int)+1)=false:=by simp;omega
      have l1:=hp.le (v:=a.toNat) (by omega)
      have l2:=hp.le (v:=b.toNat) (by omega)
      refine ⟨F,T,true,fun c hc=>?_,hp,(fun _=>by omega),(fun h=>by cases h)⟩
      refine path_ok mixed Tryz.func341 hc (qHd g nb N m F0 T0 F T Q a b ((l:Int)+1)) ?_
      repeat' (first | exact aN | apply aI)
      all_goals (first | exact aA _ _ | exact aE _ | omega | rfl | (intros;first | assumption | exact trivial | rfl | exact fT ‹_› | ((repeat' (first | assumption | apply anda | apply notf));done)) | (exact hd) | (intro i hi;simp [All]))
    | succ d ih =>
      intro F T hp hw
      have l1:=hp.le (v:=a.toNat) (by omega)
      have l2:=hp.le (v:=b.toNat) (by omega)
      by_cases hs:F a.toNat+F b.toNat<(l:Int)+1
      · have hd:decide (F a.toNat+F b.toNat<(l:Int)+1)=true:=by simp;omega
        obtain ⟨H1,r1,hc1,hf1⟩:=con_l4Find hp hk hN hm hnb ha hb hab
        cases hf1 with
        | yes F1 T1 hm1 =>
          obtain ⟨y1,y2⟩:=hm1.yes rfl
          obtain ⟨F',T',r,hrun,h1,h2,h3⟩:=ih F1 T1 hm1.inv (by omega)
          refine ⟨F',T',r,fun c hc=>?_,h1,h2,h3⟩
          refine piece_ok mixed hc (qHa g nb N m F0 T0 F T Q F1 T1 a b ((l:Int)+1)) ?_ (hrun c hc)
          repeat' (first | exact aN | apply aI)
          all_goals (first | exact aP _ _ | exact aA _ _ | exact aE _ | omega | rfl | (intros;first | assumption | exact trivial | rfl | exact fT ‹_› | ((repeat' (first | assumption | apply anda | apply notf));done)) | (exact hd) | (exact hc1) | (intro i hi;simp [All]))
        | no hm1 =>
          obtain ⟨H2,r2,hc2,hf2⟩:=con_l4Find hp hk hN hm hnb hb ha (Ne.symm hab)
          cases hf2 with
          | yes F2 T2 hm2 =>
            obtain ⟨y1,y2⟩:=hm2.yes rfl
            obtain ⟨F',T',r,hrun,h1,h2,h3⟩:=ih F2 T2 hm2.inv (by omega)
            refine ⟨F',T',r,fun c hc=>?_,h1,h2,h3⟩
            refine piece_ok mixed hc (qHb g nb N m F0 T0 F T Q F2 T2 a b ((l:Int)+1)) ?_ (hrun c hc)
            repeat' (first | exact aN | apply aI)
            all_goals (first | exact aP _ _ | exact aA _ _ | exact aE _ | omega | rfl | (intros;first | assumption | exact trivial | rfl | exact fT ‹_› | ((repeat' (first | assumption | apply anda | apply notf));done)) | (exact hd) | (exact hc1) | (exact hc2) | (intro i hi;simp [All]))
          | no hm2 =>
            refine ⟨F,T,false,fun c hc=>?_,hp,(fun h=>by cases h),fun _=>gather_no hp ha hb hab (by omega) hm1 hm2⟩
            refine path_ok mixed Tryz.func341 hc (qHc g nb N m F0 T0 F T Q a b ((l:Int)+1)) ?_
            repeat' (first | exact aN | apply aI)
            all_goals (first | exact aA _ _ | exact aE _ | omega | rfl | (intros;first | assumption | exact trivial | rfl | exact fT ‹_› | ((repeat' (first | assumption | apply anda | apply notf));done)) | (exact hd) | (exact hc1) | (exact hc2) | (intro i hi;simp [All]))
      · have hd:decide (F a.toNat+F b.toNat<(l:Int)+1)=false:=by simp;omega
        refine ⟨F,T,true,fun c hc=>?_,hp,(fun _=>by omega),(fun h=>by cases h)⟩
        refine path_ok mixed Tryz.func341 hc (qHd g nb N m F0 T0 F T Q a b ((l:Int)+1)) ?_
        repeat' (first | exact aN | apply aI)
        all_goals (first | exact aA _ _ | exact aE _ | omega | rfl | (intros;first | assumption | exact trivial | rfl | exact fT ‹_› | ((repeat' (first | assumption | apply anda | apply notf));done)) | (exact hd) | (intro i hi;simp [All]))
  have l1:=hp0.le (v:=a.toNat) (by omega)
  have l2:=hp0.le (v:=b.toNat) (by omega)
  obtain ⟨F',T',r,hrun,h⟩:=lp (l+1) F0 T0 hp0 (by omega)
  refine ⟨F',T',r,?_,h⟩
  have hcc:=con_l4Copy N m F0 T0 Q hN hm
  refine con_start Tryz.func341 rfl (by kernel_rfl) rfl (fun c hc=>?_)
  refine piece_ok mixed hc (qHz g nb N m F0 T0 Q a b ((l:Int)+1)) ?_ (hrun c hc)
  repeat' (first | exact aN | apply aI)
  all_goals (first | exact aP _ _ | exact aA _ _ | omega | rfl | (intros;first | assumption | exact trivial | rfl | exact fT ‹_› | ((repeat' (first | assumption | apply anda | apply notf));done)) | (exact hcc) | (intro i hi;simp [All]))
theorem run_new {g:Nat→T_Bar} {nb N k:Nat} (hN:N≤1048576) (hk:1≤k∧k≤3) (hg:isGraphF ((N:Int),(nb,g),())=true) (hnb:nb≤1048576) (c:Cx) (hc:c.n=0) {items:List Item} (hit:items=zf91) :
    Run Tryz.prog c 280 items (SNc g nb N k) (Post c (pebR N 0 (fun _=>k) (fun _=>0) (fun _=>0)) (.tup [pebO N 0 0,.p (.bool true)])):=by
  subst hit
  have hsm:smS s_Graph ((N:Int),(nb,g),()):=⟨by simp [smS,smL],⟨hnb,fun i hi=>by simp [smS,smL]⟩,True.intro⟩
  have hcg:=con_IsGraph_s ((N:Int),(nb,g),()) hsm
  rw [hg] at hcg
  have hci:=con_l1In k 1 3
  rw [show inB k 1 3=true by simp [inB];omega] at hci
  have lp0:∀ d i,i+d=N→Run Tryz.prog c 280 zf50 (SN0 g nb N k i) (Post c (pebR N 0 (fun _=>k) (fun _=>0) (fun _=>0)) (.tup [pebO N 0 0,.p (.bool true)])):=by
    intro d
    induction d with
    | zero =>
      intro i hi
      obtain rfl:i=N:=by omega
      have hd:decide ((i:Int)<(i:Int))=false:=by simp
      refine path_ok mixed Tryz.func280 hc (qNe g nb i k i) ?_
      repeat' (first | exact aN | apply aI)
      all_goals (first | exact aA _ _ | exact aE _ | omega | rfl | (intros;first | assumption | exact trivial | rfl | exact fT ‹_› | ((repeat' (first | assumption | apply anda | apply notf));done)) | (intro i hi;simp [All]))
    | succ d ih =>
      intro i hi
      have hd:decide ((i:Int)<(N:Int))=true:=by simp;omega
      refine piece_ok mixed hc (qNl g nb N k i) ?_ (ih (i+1) (by omega))
      repeat' (first | exact aN | apply aI)
      all_goals (first | exact aP _ _ | exact aA _ _ | omega | rfl | (intros;first | assumption | exact trivial | rfl | exact fT ‹_› | ((repeat' (first | assumption | apply anda | apply notf));done)) | (intro j hj;simp [All];done) | (intro j hj;by_cases h:j<i<;>simp [h,cvtL,cvt,tg,tru,All]))
  refine piece_ok mixed hc (qNa g nb N k) ?_ (lp0 N 0 (by omega))
  repeat' (first | exact aN | apply aI)
  all_goals (first | exact aG _ | exact aP _ _ | exact aA _ _ | omega | rfl | (intros;first | assumption | exact trivial | rfl | exact fT ‹_› | ((repeat' (first | assumption | apply anda | apply notf));done)) | (exact hcg) | (intros;exact hci) | (intro i hi;simp [All]))
theorem con_NewPebbles {N k nb:Nat} {g:Nat→T_Bar} (hN:N≤1048576) (hk:1≤k∧k≤3) (hg:isGraphF ((N:Int),(nb,g),())=true) (hnb:nb≤1048576) :
    Con Tryz.prog 280 0 [] [grG g nb N,.p (.int .i64 k)] (pebR N 0 (fun _=>k) (fun _=>0) (fun _=>0)) (.tup [pebO N 0 0,.p (.bool true)]):=by
  refine con_start Tryz.func280 rfl (by kernel_rfl) rfl (fun c hc=>?_)
  refine piece_ok mixed hc (qNy g nb N k) ?_ (run_new hN hk hg hnb c hc rfl)
  repeat' (first | exact aN | apply aI)
  all_goals (first | exact aP _ _ | exact aA _ _ | omega | rfl | (intros;first | assumption | exact trivial | rfl | exact fT ‹_› | ((repeat' (first | assumption | apply anda | apply notf));done)) | (intro i hi;simp [All]) | (simp only [All];first | exact aP _ _ | exact aA _ _ | omega | rfl | (intros;first | assumption | exact trivial | rfl | exact fT ‹_› | ((repeat' (first | assumption | apply anda | apply notf));done)) | (intro i hi;simp [All])))
end Go.Proofs.YtkkjoghiigiokaaGreat.Mach
namespace Go.Proofs
open Go Go.Shelf Go.RowKit Go.Lib Go.Sort
set_option linter.unusedVariables false
set_option linter.unusedSimpArgs false
shelf_lay_g SlLaysF0.n6 Slsf 6 at Tryz 312 as Tryz.sortBar
end Go.Proofs
namespace Go.Proofs.YtkkjoghiigiokaaGreat.Mach
open Go Go.Shelf Go.RowKit Go.Lib Go.Sort
set_option linter.unusedVariables false
set_option linter.unusedSimpArgs false
end Go.Proofs.YtkkjoghiigiokaaGreat.Mach
namespace Go.Proofs.YtkkjoghiigiokaaGreat.Mach
open Go Go.Sort
set_option linter.unusedVariables false
set_option linter.unusedSimpArgs false
theorem graph_inR {v:T_Graph} (h:isGraphF v=true):1≤v.1∧v.1≤8∧v.2.1.1≤24∧goodB v.1 v.2.1.2 v.2.1.1=true:=by
  unfold isGraphF at h
  split at h
  · rename_i h1
    simp only [inB,Bool.and_eq_true,decide_eq_true_eq] at h1
    exact ⟨h1.1.1,h1.1.2,h1.2,h⟩
  · cases h
end Go.Proofs.YtkkjoghiigiokaaGreat.Mach
namespace Go.Proofs.YtkkjoghiigiokaaGreat.Mach
open Go
set_option linter.unusedVariables false
set_option linter.unusedSimpArgs false
def OkBars (N nb:Nat) (g:Nat→T_Bar):Prop:=∀ e,e<nb→0≤(g e).1∧(g e).1<(g e).2.1∧(g e).2.1<N
theorem goodB_in (N:Int) (g:Nat→T_Bar):∀ n,goodB N g n=true→∀ e,e<n→badB N g e=false
  | 0,_,e,he=>by omega
  | n+1,h,e,he=>by
    simp only [goodB,Bool.and_eq_true,Bool.not_eq_true'] at h
    by_cases h':e=n
    · subst h';exact h.2
    · exact goodB_in N g n h.1 e (by omega)
theorem graph_in {N nb:Nat} {g:Nat→T_Bar} (h:isGraphF ((N:Int),(nb,g),())=true):(1≤N∧N≤8)∧nb≤24∧OkBars N nb g:=by
  unfold isGraphF at h
  split at h
  case isFalse=>cases h
  rename_i hc
  obtain ⟨h1,h2⟩:=hc
  simp only [inB,Bool.and_eq_true,decide_eq_true_eq] at h1
  refine ⟨by omega,h2,fun e he=>?_⟩
  have hb:=goodB_in (N:Int) g nb h e he
  unfold badB at hb
  by_cases a1:(g e).1<0
  · simp [a1] at hb
  by_cases a2:(g e).1≥(g e).2.1
  · simp [a2] at hb
  by_cases a3:(g e).2.1≥(N:Int)
  · simp [a3] at hb
  omega
end Go.Proofs.YtkkjoghiigiokaaGreat.Mach
namespace Go.Proofs.YtkkjoghiigiokaaGreat.Mach
open Go
set_option linter.unusedVariables false
set_option linter.unusedSimpArgs false
def gzA (g:Nat→T_Bar) (nb:Nat) (N:Int):AV:=.agg [.p (.int .i64 N),brL g nb]
def gzO (g:Nat→T_Bar) (nb:Nat) (N:Int):Ob:=⟨true,2,1,fun _=>[.p (.int .i64 N),brL g nb]⟩
def isG (g:Nat→T_Bar) (nb:Nat) (N:Int):Bool:=isGraphF (N,(nb,g),())
theorem isG_in {g:Nat→T_Bar} {nb:Nat} {N:Int} (h:isG g nb N=true):(1≤N∧N≤8)∧nb≤24∧∀ e,e<nb→0≤(g e).1∧(g e).1<(g e).2.1∧(g e).2.1<N:=by
  unfold isG at h
  have hN:1≤N:=by
    unfold isGraphF at h
    split at h
    case isFalse=>cases h
    rename_i hc
    have h4:=hc.1
    simp only [inB,Bool.and_eq_true,decide_eq_true_eq] at h4
    exact h4.1
  obtain ⟨M,rfl⟩:∃ M:Nat,N=M:=⟨N.toNat,by omega⟩
  obtain ⟨h1,h2,h3⟩:=graph_in h
  exact ⟨by omega,h2,h3⟩
theorem smG (g:Nat→T_Bar) (nb:Nat) (N:Int) (h:nb≤1048576):smS s_Graph (N,(nb,g),()):=⟨by simp [smS,smL],⟨h,fun i hi=>by simp [smS,smL]⟩,True.intro⟩
end Go.Proofs.YtkkjoghiigiokaaGreat.Mach
namespace Go.Proofs.YtkkjoghiigiokaaGreat.Mach
open Go
set_option linter.unusedVariables false
set_option linter.unusedSimpArgs false
def joinB (by_:ByteArray) (f:Nat→ByteArray):Nat→ByteArray
  | 0=>sE
  | n+1=>(if 0<n then joinB by_ f n++by_ else joinB by_ f n)++f n
theorem joinB_0 (by_:ByteArray) (f:Nat→ByteArray):joinB by_ f 0=sE:=rfl
theorem joinB_pos (by_:ByteArray) (f:Nat→ByteArray) {n:Nat} (h:0<n):joinB by_ f (n+1)=(joinB by_ f n++by_)++f n:=by simp [joinB,h]
theorem joinB_one (by_:ByteArray) (f:Nat→ByteArray):joinB by_ f (0+1)=sE++f 0:=rfl
theorem joinB_size (by_:ByteArray) (f:Nat→ByteArray) (B:Nat):∀ n,(∀ i,i<n→(f i).size≤B)→(joinB by_ f n).size≤n*(B+by_.size)
  | 0,_=>(Nat.zero_le _:0≤_)
  | n+1,h=>by
    have ih:=joinB_size by_ f B n (fun i hi=>h i (by omega))
    have:=h n (by omega)
    simp only [joinB]
    rw [Nat.add_mul,ByteArray.size_append]
    split
    · rw [ByteArray.size_append];omega
    · omega
theorem sE_app (s:ByteArray):sE++s=s:=ByteArray.empty_append
theorem app_sE (s:ByteArray):s++sE=s:=ByteArray.append_empty
theorem str_nil (s:ByteArray):(s.toList==(ByteArray.mk #[]).toList)=decide (s.size=0):=by
  rw [ByteArray.toList_eq,ByteArray.toList_eq]
  rw [Bool.eq_iff_iff]
  simp only [beq_iff_eq,decide_eq_true_eq]
  constructor
  · intro h
    show s.data.size=0
    rw [← Array.length_toList,h];rfl
  · intro h
    have:s.data.toList.length=0:=by rw [Array.length_toList];exact h
    rw [List.length_eq_zero_iff.1 this]
theorem fmt_pos (n:Int):0<(fmtI n).size:=by
  unfold fmtI
  split
  · simp [bs_size]
  · rename_i h
    rw [bs_size,fmtL,List.length_reverse,List.length_append]
    have:0<(dg 20 n.natAbs).length:=by
      rw [dg,if_neg (by omega)];simp
    omega
theorem con_glued (n:Nat) (f:Nat→ByteArray) (by_:ByteArray) (B:Nat) (hn:n≤1048577) (hB:B≤1099511627776) (hby:by_.size≤1000) (hf:∀ i,i<n→(f i).size≤B) :
    Con Tryz.prog 218 0 [] [strL n f,.p (.str by_)] [] (.p (.str (joinB by_ f n))):=by
  have hsz:∀ k,k≤n→(joinB by_ f k).size≤1048577*1099511628776:=by
    intro k hk
    have h1:=joinB_size by_ f B k (fun i hi=>hf i (by omega))
    have h2:k*(B+by_.size)≤1048577*1099511628776:=Nat.mul_le_mul (by omega) (by omega)
    omega
  refine con_start Tryz.func218 rfl (by kernel_rfl) rfl (fun c hc=>?_)
  have lo:∀ d k,k+d=n→Run Tryz.prog c 218 zf68 (SJ n f by_ k (joinB by_ f k)) (Post c [] (.p (.str (joinB by_ f n)))):=by
    intro d
    induction d with
    | zero =>
      intro k hk
      obtain rfl:k=n:=by omega
      have hd:decide ((k:Int)<(k:Int))=false:=by simp
      refine path_ok mixed Tryz.func218 hc (jJe k f by_ k _) ?_
      repeat' (first | exact aN | apply aI)
      all_goals (first | omega | rfl | (intros;first | assumption | exact trivial | rfl | exact fT ‹_› | ((repeat' (first | assumption | apply anda | apply notf));done)) | (exact hd))
    | succ d ih =>
      intro k hk
      have hd:decide ((k:Int)<(n:Int))=true:=decide_eq_true (by omega)
      have hrec:=ih (k+1) (by omega)
      have h1:=hsz k (by omega)
      have h2:=hf k (by omega)
      by_cases h0:0<k
      · have hg:decide ((k:Int)>0)=true:=decide_eq_true (by omega)
        rw [joinB_pos by_ f h0] at hrec
        generalize joinB by_ f k=s at hrec h1 ⊢
        refine piece_ok mixed hc (jJt n f by_ k s) ?_ hrec
        repeat' (first | exact aN | apply aI)
        all_goals (first | exact aP _ _ | omega | rfl | (intros;first | assumption | exact trivial | rfl | exact fT ‹_› | ((repeat' (first | assumption | apply anda | apply notf));done)) | (exact hd) | (exact hg) | (rw [ByteArray.size_append];omega) | (simp;omega))
      · obtain rfl:k=0:=by omega
        have hg:decide (((0:Nat):Int)>0)=false:=by simp
        rw [joinB_one] at hrec
        rw [joinB_0] at h1 ⊢
        refine piece_ok mixed hc (jJf n f by_ 0 sE) ?_ hrec
        repeat' (first | exact aN | apply aI)
        all_goals (first | exact aP _ _ | omega | rfl | (intros;first | assumption | exact trivial | rfl | exact fT ‹_› | ((repeat' (first | assumption | apply anda | apply notf));done)) | (exact hd) | (exact hg) | (simp;omega))
  refine piece_ok mixed hc (jJz n f by_) ?_ (lo n 0 (by omega))
  repeat' (first | exact aN | apply aI)
  all_goals (first | exact aP _ _ | omega | rfl | (intros;first | assumption | exact trivial | rfl | exact fT ‹_› | ((repeat' (first | assumption | apply anda | apply notf));done)) | (simp;omega))
def In64 (v:T_IntS):Prop:=∀ i,i<v.1→-9223372036854775808≤v.2 i∧v.2 i≤9223372036854775807
def nmB (v:T_IntS):ByteArray:=joinB sC (fun i=>fmtI (v.2 i)) v.1
def nlB (v:T_IntS):ByteArray:=if v.1=0 then sNone else nmB v
theorem sC_size:sC.size=1:=rfl
theorem nmB_size (v:T_IntS):(nmB v).size≤v.1*22:=joinB_size sC _ 21 v.1 (fun i hi=>fmt_size _)
theorem nmB_pos (v:T_IntS) (h:v.1≠0):0<(nmB v).size:=by
  obtain ⟨n,f⟩:=v
  cases n with
  | zero=>exact absurd rfl h
  | succ n =>
    show 0<(joinB sC (fun i=>fmtI (f i)) (n+1)).size
    simp only [joinB]
    rw [ByteArray.size_append]
    have:=fmt_pos (f n)
    omega
theorem con_numbers (v:T_IntS) (hn:v.1≤1048576) (hv:In64 v):Con Tryz.prog 219 0 [] [inL v] [] (.p (.str (nmB v))):=by
  have cg:=con_glued v.1 (fun i=>fmtI (v.2 i)) sC 21 (by omega) (by omega) (by rw [sC_size];omega) (fun i hi=>fmt_size _)
  refine con_start Tryz.func219 rfl (by kernel_rfl) rfl (fun c hc=>?_)
  have lo:∀ d k,k+d=v.1→Run Tryz.prog c 219 zf69 (SNm v k (fun i=>fmtI (v.2 i))) (Post c [] (.p (.str (nmB v)))):=by
    intro d
    induction d with
    | zero =>
      intro k hk
      obtain rfl:k=v.1:=by omega
      have hd:decide ((v.1:Int)<(v.1:Int))=false:=by simp
      refine path_ok mixed Tryz.func219 hc (jNe v v.1 (fun i=>fmtI (v.2 i)) (nmB v)) ?_
      repeat' (first | exact aN | apply aI)
      all_goals (first | omega | rfl | (intros;first | assumption | exact trivial | rfl | exact fT ‹_› | ((repeat' (first | assumption | apply anda | apply notf));done)) | (exact hd) | (exact cg) | (intro t ht;simp [All]))
    | succ d ih =>
      intro k hk
      have hd:decide ((k:Int)<(v.1:Int))=true:=decide_eq_true (by omega)
      have hvk:=hv k (by omega)
      have cf:=con_FormatInt_i (v.2 k) hvk.1 hvk.2
      refine piece_ok mixed hc (jNt v k (fun i=>fmtI (v.2 i)) (fmtI (v.2 k))) ?_ (ih (k+1) (by omega))
      repeat' (first | exact aN | apply aI)
      all_goals (first | exact aP _ _ | omega | rfl | (intros;first | assumption | exact trivial | rfl | exact fT ‹_› | ((repeat' (first | assumption | apply anda | apply notf));done)) | (exact hd) | (exact cf) | (intro t ht;rcases Nat.lt_or_eq_of_le (Nat.le_of_lt_succ ht) with h' | h'<;>(simp [h',cvtL,cvt,tg,tru,All];done)) | (simp;omega))
  refine piece_ok mixed hc (jNz v (fun i=>fmtI (v.2 i))) ?_ (lo v.1 0 (by omega))
  repeat' (first | exact aN | apply aI)
  all_goals (first | exact aP _ _ | omega | rfl | (intros;first | assumption | exact trivial | rfl | exact fT ‹_› | ((repeat' (first | assumption | apply anda | apply notf));done)) | (intro t ht;exact absurd ht (Nat.not_lt_zero _)) | (intro t ht;simp [All]) | (simp;omega) | (simp only [All];first | exact aP _ _ | omega | rfl | (intros;first | assumption | exact trivial | rfl | exact fT ‹_› | ((repeat' (first | assumption | apply anda | apply notf));done)) | (intro t ht;exact absurd ht (Nat.not_lt_zero _)) | (intro t ht;simp [All]) | (simp;omega)))
theorem con_listed (v:T_IntS) (hn:v.1≤1048576) (hv:In64 v):Con Tryz.prog 111 0 [] [inL v] [] (.p (.str (nlB v))):=by
  have cn:=con_numbers v hn hv
  refine con_start Tryz.func111 rfl (by kernel_rfl) rfl (fun c hc=>?_)
  by_cases h0:v.1=0
  · have hd:((v.1:Int)==0)=true:=by rw [h0];rfl
    rw [show nlB v=sNone by simp [nlB,h0]]
    refine path_ok mixed Tryz.func111 hc (jLn v) ?_
    repeat' (first | exact aN | apply aI)
    all_goals (first | omega | rfl | (intros;first | assumption | exact trivial | rfl | exact fT ‹_› | ((repeat' (first | assumption | apply anda | apply notf));done)) | (exact hd))
  · have hd:((v.1:Int)==0)=false:=beq_eq_false_iff_ne.2 (by omega)
    rw [show nlB v=nmB v by simp [nlB,h0]]
    refine path_ok mixed Tryz.func111 hc (jLy v (nmB v)) ?_
    repeat' (first | exact aN | apply aI)
    all_goals (first | omega | rfl | (intros;first | assumption | exact trivial | rfl | exact fT ‹_› | ((repeat' (first | assumption | apply anda | apply notf));done)) | (exact hd) | (exact cn))
theorem con_l33Numbers (v:T_IntS) (hn:v.1≤1048576) (hv:In64 v):Con Tryz.prog 103 0 [] [inL v] [] (.p (.str (nlB v))):=by
  refine con_start Tryz.func103 rfl (by kernel_rfl) rfl (fun c hc=>?_)
  let f:Nat→ByteArray:=fun i=>fmtI (v.2 i)
  have hsz:∀ k,(joinB sC f k).size≤k*22:=fun k=>joinB_size sC f 21 k (fun i hi=>fmt_size _)
  have lo:∀ d k,k+d=v.1→Run Tryz.prog c 103 zf70 (SNl v k (joinB sC f k)) (Post c [] (.p (.str (nlB v)))):=by
    intro d
    induction d with
    | zero =>
      intro k hk
      obtain rfl:k=v.1:=by omega
      have hd:decide ((v.1:Int)<(v.1:Int))=false:=by simp
      have hs:=str_nil (joinB sC f v.1)
      by_cases h0:v.1=0
      · rw [show nlB v=sNone by simp [nlB,h0]]
        rw [decide_eq_true (by rw [h0];rfl)] at hs
        refine path_ok mixed Tryz.func103 hc (jMn v v.1 _) ?_
        repeat' (first | exact aN | apply aI)
        all_goals (first | omega | rfl | (intros;first | assumption | exact trivial | rfl | exact fT ‹_› | ((repeat' (first | assumption | apply anda | apply notf));done)) | (exact hd) | (exact hs))
      · rw [show nlB v=joinB sC f v.1 by simp only [nlB,h0,if_false];rfl]
        have hp:0<(joinB sC f v.1).size:=nmB_pos v h0
        rw [decide_eq_false (by omega)] at hs
        refine path_ok mixed Tryz.func103 hc (jMe v v.1 _) ?_
        repeat' (first | exact aN | apply aI)
        all_goals (first | omega | rfl | (intros;first | assumption | exact trivial | rfl | exact fT ‹_› | ((repeat' (first | assumption | apply anda | apply notf));done)) | (exact hd) | (exact hs))
    | succ d ih =>
      intro k hk
      have hd:decide ((k:Int)<(v.1:Int))=true:=decide_eq_true (by omega)
      have hrec:=ih (k+1) (by omega)
      have hvk:=hv k (by omega)
      have cf:=con_FormatInt_s (v.2 k) hvk.1 hvk.2
      have h1:=hsz k
      have h2:=fmt_size (v.2 k)
      by_cases h0:0<k
      · have hg:decide ((k:Int)>0)=true:=decide_eq_true (by omega)
        rw [joinB_pos sC f h0] at hrec
        generalize joinB sC f k=s at hrec h1 ⊢
        refine piece_ok mixed hc (jMt v k s (fmtI (v.2 k))) ?_ hrec
        repeat' (first | exact aN | apply aI)
        all_goals (first | exact aP _ _ | omega | rfl | (intros;first | assumption | exact trivial | rfl | exact fT ‹_› | ((repeat' (first | assumption | apply anda | apply notf));done)) | (exact hd) | (exact hg) | (exact cf) | (show s.size+1≤_;omega) | (rw [ByteArray.size_append];show s.size+1+_≤_;omega) | (simp;omega))
      · obtain rfl:k=0:=by omega
        have hg:decide (((0:Nat):Int)>0)=false:=by simp
        rw [joinB_one] at hrec
        rw [joinB_0] at h1 ⊢
        refine piece_ok mixed hc (jMf v 0 sE (fmtI (v.2 0))) ?_ hrec
        repeat' (first | exact aN | apply aI)
        all_goals (first | exact aP _ _ | omega | rfl | (intros;first | assumption | exact trivial | rfl | exact fT ‹_› | ((repeat' (first | assumption | apply anda | apply notf));done)) | (exact hd) | (exact hg) | (exact cf) | (show 0+_≤_;omega) | (simp;omega))
  refine piece_ok mixed hc (jMz v) ?_ (lo v.1 0 (by omega))
  repeat' (first | exact aN | apply aI)
  all_goals (first | exact aP _ _ | omega | rfl | (intros;first | assumption | exact trivial | rfl | exact fT ‹_› | ((repeat' (first | assumption | apply anda | apply notf));done)) | (simp;omega))
def prB (s:ByteArray) (f:Nat→ByteArray) (i:Nat):ByteArray:=if i<1 then s else f (i - 1)
theorem con_line (n:Nat) (f:Nat→ByteArray) (B:Nat) (hn:n≤1048577) (hB:B≤1099511627776) (hf:∀ i,i<n→(f i).size≤B):Con Tryz.prog 108 0 [] [strL n f] [] (.p (.str (joinB sSp f n))):=by
  have cg:=con_glued n f sSp B hn hB (by show 1≤1000;omega) hf
  refine con_start Tryz.func108 rfl (by kernel_rfl) rfl (fun c hc=>?_)
  refine path_ok mixed Tryz.func108 hc (jKl n f _) ?_
  repeat' (first | exact aN | apply aI)
  all_goals (first | omega | rfl | (intros;first | assumption | exact trivial | rfl | exact fT ‹_› | ((repeat' (first | assumption | apply anda | apply notf));done)) | (exact cg))
def soB (s:ByteArray) (is:Bool) (n:Nat) (f:Nat→ByteArray):ByteArray:=if is=true then joinB sSp (prB s f) (1+n) else s
theorem con_ifSo (s:ByteArray) (is:Bool) (n:Nat) (f:Nat→ByteArray) (B:Nat) (hn:n≤1048576) (hB:B≤1099511627776) (hs:s.size≤B) (hf:∀ i,i<n→(f i).size≤B) :
    Con Tryz.prog 114 0 [] [.p (.str s),.p (.bool is),strL n f] [] (.p (.str (soB s is n f))):=by
  refine con_start Tryz.func114 rfl (by kernel_rfl) rfl (fun c hc=>?_)
  cases is with
  | false =>
    rw [show soB s false n f=s by simp [soB]]
    refine path_ok mixed Tryz.func114 hc (jSn s n f) ?_
    repeat' (first | exact aN | apply aI)
    all_goals (first | omega | rfl | (intros;first | assumption | exact trivial | rfl | exact fT ‹_› | ((repeat' (first | assumption | apply anda | apply notf));done)) | rfl)
  | true =>
    rw [show soB s true n f=joinB sSp (prB s f) (1+n) by simp [soB]]
    have cl:=con_line (1+n) (prB s f) B (by omega) hB (fun i hi=>by
      unfold prB
      split
      · exact hs
      · exact hf _ (by omega))
    have e:(.p (.seq true 1 (1+n) (fun i=>[cellP true (if i<1 then [.p (.str s)] else [.p (.str (f (i - 1)))]) 0])):AV)=strL (1+n) (prB s f):=by
      unfold strL prB
      congr 2
      funext i
      by_cases h:i<1<;>simp [h,cellP,tg,tru]
    rw [← e] at cl
    refine path_ok mixed Tryz.func114 hc (jSy s _ n f) ?_
    repeat' (first | exact aN | apply aI)
    all_goals (first | omega | rfl | (intros;first | assumption | exact trivial | rfl | exact fT ‹_› | ((repeat' (first | assumption | apply anda | apply notf));done)) | rfl | (exact cl) | (simp;omega))
def yesB (b:Bool) (s:ByteArray):ByteArray:=if b=true then s else sE
theorem con_l34Yes (b:Bool) (s:ByteArray):Con Tryz.prog 122 0 [] [.p (.bool b),.p (.str s)] [] (.p (.str (yesB b s))):=by
  refine con_start Tryz.func122 rfl (by kernel_rfl) rfl (fun c hc=>?_)
  cases b with
  | false =>
    refine path_ok mixed Tryz.func122 hc (jYn s) ?_
    repeat' (first | exact aN | apply aI)
    all_goals (first | omega | rfl | (intros;first | assumption | exact trivial | rfl | exact fT ‹_› | ((repeat' (first | assumption | apply anda | apply notf));done)) | rfl)
  | true =>
    refine path_ok mixed Tryz.func122 hc (jYy s) ?_
    repeat' (first | exact aN | apply aI)
    all_goals (first | omega | rfl | (intros;first | assumption | exact trivial | rfl | exact fT ‹_› | ((repeat' (first | assumption | apply anda | apply notf));done)) | rfl)
end Go.Proofs.YtkkjoghiigiokaaGreat.Mach
namespace Go.Proofs.YtkkjoghiigiokaaGreat.Mach
open Go
set_option linter.unusedVariables false
set_option linter.unusedSimpArgs false
theorem rHas (g:Nat→T_Bar) (nb N:Nat) (p:Int) :
    pathOb Tryz.prog Tryz.f205 0 [rg 2,rm [(4,oc [] (.p (.bool (inB p 0 ((N:Int) - 1)))))] 1] [.code (bodyOf Tryz.f205)] (start Tryz.f205 [] 0 [grG g nb N,.p (.int .i64 p)]) [] 1 [] (.p (.bool (inB p 0 ((N:Int) - 1)))) =
    some [(NT 0 1),(ZLo ((↑N:Int) - 1)),(ZHi ((↑N:Int) - 1)),Con Tryz.prog 179 0 [] [.p (.int .i64 p),.p (.int .i64 0),.p (.int .i64 ((↑N:Int) - 1))] [] (.p (.bool (inB p 0 ((↑N:Int) - 1)))),((inB p 0 ((↑N:Int) - 1))=(inB p 0 ((↑N:Int) - 1)))]:=by kernel_rfl
end Go.Proofs.YtkkjoghiigiokaaGreat.Mach
namespace Go.Proofs.YtkkjoghiigiokaaGreat.Mach
open Go
set_option linter.unusedVariables false
set_option linter.unusedSimpArgs false
theorem con_has {N nb:Nat} {g:Nat→T_Bar} (hN:1≤N∧N≤8) {p:Int} (hp:0≤p∧p<N):Con Tryz.prog 205 0 [] [grG g nb N,.p (.int .i64 p)] [] (.p (.bool true)):=by
  have hw:=con_within p 0 ((N:Int) - 1)
  have ht:inB p 0 ((N:Int) - 1)=true:=by simp [inB];omega
  rw [show (true:Bool)=inB p 0 ((N:Int) - 1) from ht.symm]
  refine con_start Tryz.func205 rfl (by kernel_rfl) rfl (fun c hc=>?_)
  refine path_ok mixed Tryz.func205 hc (rHas g nb N p) ?_
  repeat' (first | exact aN | apply aI)
  all_goals (first | omega | rfl | (intros;first | assumption | exact trivial | rfl | exact fT ‹_› | ((repeat' (first | assumption | apply anda | apply notf));done)) | (exact hw))
end Go.Proofs.YtkkjoghiigiokaaGreat.Mach
namespace Go.Proofs.YtkkjoghiigiokaaGreat.Mach
open Go
set_option linter.unusedVariables false
set_option linter.unusedSimpArgs false
def ST0 (N m:Nat) (F T Q:Nat→Int) (x:Int) (i:Nat):St :=
  ⟨[pebD N m F T Q,.p (.int .i64 x),.pt 3 0 0 0,.p .any,.p .any,.p (.int .i64 (tcI T i x)),.p (.int .i64 i)]++List.replicate 17 anyA,[(0,bxD N m F T Q)],1⟩
def SI0 (g:Nat→T_Bar) (nb N k m:Nat) (F T Q:Nat→Int) (i:Nat):St :=
  ⟨[grG g nb N,.p (.int .i64 k),pebD N m F T Q,.pt 2 0 0 0,.p .any,.pt 3 1 0 0,.p .any,.p (.int .i64 i)]++List.replicate 115 anyA,[(0,bxG g nb N),(1,bxD N m F T Q)],2⟩
def SI1 (g:Nat→T_Bar) (nb N k m:Nat) (F T Q:Nat→Int) (i:Nat):St :=
  ⟨[grG g nb N,.p (.int .i64 k),pebD N m F T Q,.pt 2 0 0 0,.p .any,.pt 3 1 0 0,.p .any,.p .any,.p .any,.p (.int .i64 i)]++List.replicate 113 anyA,[(0,bxG g nb N),(1,bxD N m F T Q)],2⟩
def SRu (g:Nat→T_Bar) (nb N k l m:Nat) (F T Q:Nat→Int) (i:Nat):St :=
  ⟨[grG g nb N,.p (.int .i64 k),.p (.int .i64 l),.pt 2 0 0 0,.p .any,.p .any,.pt 3 1 0 0,.p .any,.pt 3 2 0 0,.p .any,.p (.int .i64 i)]++List.replicate 32 anyA,
   [(0,bxG g nb N),(1,bx0),(2,bxP N m 3),(3,iOb N F),(4,iOb m T),(5,iOb m Q)],6⟩
def badI (g:Nat→T_Bar) (nb:Nat) (T Q:Nat→Int) (i:Nat):Bool :=
  bif bif bif decide (Q i<0) then true else decide (Q i≥(nb:Int)) then true else bif decide ((i:Int)>0) then decide (Q ((i:Int) - 1).toNat≥Q i) else false then true
    else bif T i != (g (Q i).toNat).1 then T i != (g (Q i).toNat).2.1 else false
theorem nRi (k l:Nat) :
    pathOb Tryz.prog Tryz.f189 0 [rg 1,rm [(1,oc [] (.p (.bool true))),(5,oc [] (.p (.bool true)))] 2] [.code (bodyOf Tryz.f189)] (start Tryz.f189 [] 0 [.p (.int .i64 k),.p (.int .i64 l)]) [] 1 [] (.p (.bool true)) =
    some [Con Tryz.prog 179 0 [] [.p (.int .i64 (↑k:Int)),.p (.int .i64 1),.p (.int .i64 3)] [] (.p (.bool true)),(AG true),((true=true)→(ZLo (2*(↑k:Int)))),((true=true)→(ZHi (2*(↑k:Int)))),(AG true),((true=true)→(ZLo (2*(↑k:Int) - 1))),((true=true)→(ZHi (2*(↑k:Int) - 1))),(AG true),(AG true),((true=true)→ Con Tryz.prog 179 0 [] [.p (.int .i64 (↑l:Int)),.p (.int .i64 0),.p (.int .i64 (2*(↑k:Int) - 1))] [] (.p (.bool true))),(AG true),((bif true then true else false)=true)]:=by kernel_rfl
theorem nRs (k l:Nat) :
    pathOb Tryz.prog Tryz.f176 0 [rg 1,rm [(1,oc [] (.p (.bool true)))] 11] [.code (bodyOf Tryz.f176)] (start Tryz.f176 [] 0 [.p (.int .i64 k),.p (.int .i64 l)]) [] 1 [] (.p (.bool true)) =
    some [Con Tryz.prog 167 0 [] [.p (.int .i64 (↑k:Int)),.p (.int .i64 1),.p (.int .i64 3)] [] (.p (.bool true)),(AG true),(AG true),(AG (bif true then decide ((↑l:Int)≥0) else false)),(((bif true then decide ((↑l:Int)≥0) else false)=true)→(ZLo (2*(↑k:Int)))),(((bif true then decide ((↑l:Int)≥0) else false)=true)→(ZHi (2*(↑k:Int)))),(AG (bif true then decide ((↑l:Int)≥0) else false)),(AG (bif true then decide ((↑l:Int)≥0) else false)),(AG (bif true then decide ((↑l:Int)≥0) else false)),((bif bif true then decide ((↑l:Int)≥0) else false then decide ((↑l:Int)<2*(↑k:Int)) else false)=true)]:=by kernel_rfl
theorem nUi (g:Nat→T_Bar) (nb N k l m:Nat) (F T Q:Nat→Int) :
    pathOb Tryz.prog Tryz.f185 0 [rg 3,rm [(1,oc [] (.p (.bool true))),(4,oc [] (.p (.bool true)))] 2,.dec false,rm [(6,oc (pebR N m F T Q) (pebO N m 0))] 2] [.code (bodyOf Tryz.f185)] (start Tryz.f185 [] 0 [grG g nb N,.p (.int .i64 k),.p (.int .i64 l)]) [576,577,578] 1 (pebR N m F T Q) (.tup [pebO N m 0,.p (.bool true)]) =
    some [(NT 0 1),Con Tryz.prog 62 0 [] [(zf95 N nb g)] [] (.p (.bool true)),(AG (!!true)),(AG (!!true)),(((!!true)=true)→ Con Tryz.prog 189 0 [] [.p (.int .i64 (↑k:Int)),.p (.int .i64 (↑l:Int))] [] (.p (.bool true))),(AG (!!true)),(((!true)=false)→ ((!!true)=true)),((bif !true then true else !true)=false),(NT 0 1),(NT 0 1),Con Tryz.prog 293 0 [] [.p (.int .i64 (↑N:Int)),.p (.seq true 2 nb (fun i=>[.int .i64 ((g i).1),.int .i64 ((g i).2.1)])),.p (.int .i64 (↑k:Int)),.p (.int .i64 (↑l:Int))] (zf43 N F m T Q) (.agg [.ar 1 0 0 N,.ar 1 1 0 m,.ar 1 2 0 m]),(NT 0 1),((true=true)→ (AN 1)),(NT 0 1),(AN 0),(AN N),(AN 0),(AN m),(AN 0),(AN m),(true=true),(AN 1),(NL N N),(AA N (fun i=>[.p (.int .i64 (F i))])),(AN 1),(NL m m),(AA m (fun i=>[.p (.int .i64 (T i))])),(AN 1),(NL m m),(AA m (fun i=>[.p (.int .i64 (Q i))])),(AE N),(AE m),(AE m)]:=by kernel_rfl
theorem nKi (g:Nat→T_Bar) (nb N k l m:Nat) (F T Q:Nat→Int) :
    pathOb Tryz.prog Tryz.f288 0 [rg 2,rm [(3,oc (pebR N m F T Q) (.tup [pebO N m 0,.p (.bool true)]))] 6,rg 2,.dec false,rg 4] [.code (bodyOf Tryz.f288)] (start Tryz.f288 [] 0 [grG g nb N,.p (.int .i64 k),.p (.int .i64 l)]) [] 1 [] (.p (.int .i64 m)) =
    some [(NT 0 1),Con Tryz.prog 185 0 [] [(zf95 N nb g),.p (.int .i64 (↑k:Int)),.p (.int .i64 (↑l:Int))] (zf43 N F m T Q) ((zf102 N m)),(NT 0 1),((true=true)→ (AN 1)),((!true)=false),(NT 0 1),(AI ((↑m:Int)))]:=by kernel_rfl
theorem nKs (g:Nat→T_Bar) (nb N k l m:Nat) (F T Q:Nat→Int) :
    pathOb Tryz.prog Tryz.f282 0 [rg 2,rm [(3,oc (pebR N m F T Q) (.tup [pebO N m 0,.p (.bool true)]))] 6,rg 2,.dec false,rg 4] [.code (bodyOf Tryz.f282)] (start Tryz.f282 [] 0 [grG g nb N,.p (.int .i64 k),.p (.int .i64 l)]) [] 1 [] (.p (.int .i64 m)) =
    some [(NT 0 1),Con Tryz.prog 169 0 [] [(zf95 N nb g),.p (.int .i64 (↑k:Int)),.p (.int .i64 (↑l:Int))] (zf43 N F m T Q) ((zf102 N m)),(NT 0 1),((true=true)→ (AN 1)),((!true)=false),(NT 0 1),(AI ((↑m:Int)))]:=by kernel_rfl
theorem nTz (N m:Nat) (F T Q:Nat→Int) (x:Int) :
    pieceOb Tryz.prog 0 [rg 2,rg 1,rg 1,.head] [.code (bodyOf Tryz.f376)] (start Tryz.f376 [] 0 [pebD N m F T Q,.p (.int .i64 x)]) [0] 1 (ST0 N m F T Q x 0) =
    some (zf72,[(AN N),(AP N (fun i=>[.int .i64 (F i)])),(AN m),(AP m (fun i=>[.int .i64 (T i)])),(AN m),(AP m (fun i=>[.int .i64 (Q i)])),(AI x),(AN 0),((0:Int)=(tcI T 0 x)),((0:Int)=(↑0:Int)),((([inD N F,inD m T,inD m Q].length):Nat)=3),(NL 1 1),(NL 1 1),(AN N),(AP N (fun i=>[.int .i64 (F i)])),(AN m),(AP m (fun i=>[.int .i64 (T i)])),(AN m),(AP m (fun i=>[.int .i64 (Q i)]))]):=by kernel_rfl
theorem nTt (N m:Nat) (F T Q:Nat→Int) (x:Int) (i:Nat) :
    pieceOb Tryz.prog 0 [rg 5,.dec true,rg 7,.dec true,rg 3,rg 3,.head] zf72 (ST0 N m F T Q x i) [0] 1 (ST0 N m F T Q x (i+1)) =
    some (zf72,[(NT 0 1),((decide ((↑i:Int)<(↑m:Int)))=true),(NT 0 1),(IL 0 (↑i:Int)),(IT (↑i:Int) (↑m:Int)),((T i==x)=true),(ZLo (tcI T i x+1)),(ZHi (tcI T i x+1)),(ZLo ((↑i:Int)+1)),(ZHi ((↑i:Int)+1)),(AN N),(AP N (fun i_1=>[.int .i64 (F i_1)])),(AN m),(AP m (fun i_1=>[.int .i64 (T i_1)])),(AN m),(AP m (fun i_1=>[.int .i64 (Q i_1)])),(AI x),(AN 0),(((tcI T i x+1):Int)=(tcI T (i+1) x)),((((↑i:Int)+1):Int)=(↑(i+1):Int)),(AN 3),(NL 1 1),(NL 1 1),(AN N),(AP N (fun i_1=>[.int .i64 (F i_1)])),(AN m),(AP m (fun i_1=>[.int .i64 (T i_1)])),(AN m),(AP m (fun i_1=>[.int .i64 (Q i_1)]))]):=by kernel_rfl
theorem nTf (N m:Nat) (F T Q:Nat→Int) (x:Int) (i:Nat) :
    pieceOb Tryz.prog 0 [rg 5,.dec true,rg 7,.dec false,rg 3,.head] zf72 (ST0 N m F T Q x i) [0] 1 (ST0 N m F T Q x (i+1)) =
    some (zf72,[(NT 0 1),((decide ((↑i:Int)<(↑m:Int)))=true),(NT 0 1),(IL 0 (↑i:Int)),(IT (↑i:Int) (↑m:Int)),((T i==x)=false),(ZLo ((↑i:Int)+1)),(ZHi ((↑i:Int)+1)),(AN N),(AP N (fun i_1=>[.int .i64 (F i_1)])),(AN m),(AP m (fun i_1=>[.int .i64 (T i_1)])),(AN m),(AP m (fun i_1=>[.int .i64 (Q i_1)])),(AI x),(AN 0),(((tcI T i x):Int)=(tcI T (i+1) x)),((((↑i:Int)+1):Int)=(↑(i+1):Int)),(AN 3),(NL 1 1),(NL 1 1),(AN N),(AP N (fun i_1=>[.int .i64 (F i_1)])),(AN m),(AP m (fun i_1=>[.int .i64 (T i_1)])),(AN m),(AP m (fun i_1=>[.int .i64 (Q i_1)]))]):=by kernel_rfl
theorem nTe (N m:Nat) (F T Q:Nat→Int) (x:Int) (i:Nat) :
    pathOb Tryz.prog Tryz.f376 0 [rg 5,.dec false,rg 2] zf72 (ST0 N m F T Q x i) [] 1 [] (.p (.int .i64 (tcI T i x))) =
    some [(NT 0 1),((decide ((↑i:Int)<(↑m:Int)))=false),(AI ((tcI T i x)))]:=by kernel_rfl
theorem nJz (g:Nat→T_Bar) (nb N k m:Nat) (F T Q:Nat→Int) :
    pieceOb Tryz.prog 0 [rg 3,rm [(1,oc [] (.p (.bool true))),(3,oc [] (.p (.bool true)))] 19,.dec false,rg 1,.head] [.code (bodyOf Tryz.f339)] (start Tryz.f339 [] 0 [grG g nb N,.p (.int .i64 k),pebD N m F T Q]) [0,32] 1 (SI0 g nb N k m F T Q 0) =
    some (zf73,[(NT 0 1),Con Tryz.prog 53 0 [] [(zf95 N nb g)] [] (.p (.bool true)),(AG (!!true)),(((!!true)=true)→ Con Tryz.prog 167 0 [] [.p (.int .i64 (↑k:Int)),.p (.int .i64 1),.p (.int .i64 3)] [] (.p (.bool true))),(AG (!!true)),(((!true)=false)→ ((!!true)=true)),(AG (!bif !true then true else !true)),(((!bif !true then true else !true)=true)→(NT 0 1)),(AG (!bif !true then true else !true)),(AG (!bif !true then true else !true)),(((!bif !true then true else !true)=true)→(NT 0 1)),(AG (!bif !true then true else !true)),(AG (!bif !true then true else !true)),(((bif !true then true else !true)=false)→ ((!bif !true then true else !true)=true)),(AG (!bif bif !true then true else !true then true else (↑N:Int) != (↑N:Int))),(((!bif bif !true then true else !true then true else (↑N:Int) != (↑N:Int))=true)→(NT 0 1)),(AG (!bif bif !true then true else !true then true else (↑N:Int) != (↑N:Int))),(AG (!bif bif !true then true else !true then true else (↑N:Int) != (↑N:Int))),(((!bif bif !true then true else !true then true else (↑N:Int) != (↑N:Int))=true)→(NT 0 1)),(AG (!bif bif !true then true else !true then true else (↑N:Int) != (↑N:Int))),(AG (!bif bif !true then true else !true then true else (↑N:Int) != (↑N:Int))),(AG (!bif bif !true then true else !true then true else (↑N:Int) != (↑N:Int))),(((bif bif !true then true else !true then true else (↑N:Int) != (↑N:Int))=false)→ ((!bif bif !true then true else !true then true else (↑N:Int) != (↑N:Int))=true)),((bif bif bif !true then true else !true then true else (↑N:Int) != (↑N:Int) then true else (↑m:Int) != (↑m:Int))=false),(AI ((↑N:Int))),(AN nb),(AP nb (fun i=>[.int .i64 ((g i).1),.int .i64 ((g i).2.1)])),(AI ((↑k:Int))),(AN N),(AP N (fun i=>[.int .i64 (F i)])),(AN m),(AP m (fun i=>[.int .i64 (T i)])),(AN m),(AP m (fun i=>[.int .i64 (Q i)])),(AN 0),(AN 0),((0:Int)=(↑0:Int)),((([AV.p (PV.int IntKind.i64 (↑N:Int)),brL g nb].length):Nat)=2),(NL 1 1),(NL 1 1),(AI ((↑N:Int))),(AN nb),(AP nb (fun i=>[.int .i64 ((g i).1),.int .i64 ((g i).2.1)])),((([inD N F,inD m T,inD m Q].length):Nat)=3),(NL 1 1),(NL 1 1),(AN N),(AP N (fun i=>[.int .i64 (F i)])),(AN m),(AP m (fun i=>[.int .i64 (T i)])),(AN m),(AP m (fun i=>[.int .i64 (Q i)]))]):=by kernel_rfl
theorem nI0 (g:Nat→T_Bar) (nb N k m:Nat) (F T Q:Nat→Int) (i:Nat) :
    pieceOb Tryz.prog 0 [rg 5,.dec true,rg 6,rg 51,.dec false,rg 3,.head] zf73 (SI0 g nb N k m F T Q i) [0,1] 1 (SI0 g nb N k m F T Q (i+1)) =
    some (zf73,[(NT 0 1),((decide ((↑i:Int)<(↑m:Int)))=true),(NT 0 1),(IL 0 (↑i:Int)),(IT (↑i:Int) (↑m:Int)),(AG (!decide (Q (↑i:Int).toNat<0))),(((!decide (Q (↑i:Int).toNat<0))=true)→(NT 0 1)),(AG (!decide (Q (↑i:Int).toNat<0))),(AG (!decide (Q (↑i:Int).toNat<0))),(AG (!decide (Q (↑i:Int).toNat<0))),(((decide (Q (↑i:Int).toNat<0))=false)→ ((!decide (Q (↑i:Int).toNat<0))=true)),(AG (!bif decide (Q (↑i:Int).toNat<0) then true else decide (Q (↑i:Int).toNat≥(↑nb:Int)))),(AG (!bif decide (Q (↑i:Int).toNat<0) then true else decide (Q (↑i:Int).toNat≥(↑nb:Int)))),(AG ((!bif decide (Q (↑i:Int).toNat<0) then true else decide (Q (↑i:Int).toNat≥(↑nb:Int)))&&decide ((↑i:Int)>0))),((((!bif decide (Q (↑i:Int).toNat<0) then true else decide (Q (↑i:Int).toNat≥(↑nb:Int)))&&decide ((↑i:Int)>0))=true)→(NT 0 1)),(AG ((!bif decide (Q (↑i:Int).toNat<0) then true else decide (Q (↑i:Int).toNat≥(↑nb:Int)))&&decide ((↑i:Int)>0))),((((!bif decide (Q (↑i:Int).toNat<0) then true else decide (Q (↑i:Int).toNat≥(↑nb:Int)))&&decide ((↑i:Int)>0))=true)→(ZLo ((↑i:Int) - 1))),((((!bif decide (Q (↑i:Int).toNat<0) then true else decide (Q (↑i:Int).toNat≥(↑nb:Int)))&&decide ((↑i:Int)>0))=true)→(ZHi ((↑i:Int) - 1))),(AG ((!bif decide (Q (↑i:Int).toNat<0) then true else decide (Q (↑i:Int).toNat≥(↑nb:Int)))&&decide ((↑i:Int)>0))),(AG ((!bif decide (Q (↑i:Int).toNat<0) then true else decide (Q (↑i:Int).toNat≥(↑nb:Int)))&&decide ((↑i:Int)>0))),((((!bif decide (Q (↑i:Int).toNat<0) then true else decide (Q (↑i:Int).toNat≥(↑nb:Int)))&&decide ((↑i:Int)>0))=true)→(IL 0 ((↑i:Int) - 1))),((((!bif decide (Q (↑i:Int).toNat<0) then true else decide (Q (↑i:Int).toNat≥(↑nb:Int)))&&decide ((↑i:Int)>0))=true)→(IT ((↑i:Int) - 1) (↑m:Int))),(AG ((!bif decide (Q (↑i:Int).toNat<0) then true else decide (Q (↑i:Int).toNat≥(↑nb:Int)))&&decide ((↑i:Int)>0))),(AG ((!bif decide (Q (↑i:Int).toNat<0) then true else decide (Q (↑i:Int).toNat≥(↑nb:Int)))&&decide ((↑i:Int)>0))),(AG ((!bif decide (Q (↑i:Int).toNat<0) then true else decide (Q (↑i:Int).toNat≥(↑nb:Int)))&&decide ((↑i:Int)>0))),(AG (!bif decide (Q (↑i:Int).toNat<0) then true else decide (Q (↑i:Int).toNat≥(↑nb:Int)))),(((!bif decide (Q (↑i:Int).toNat<0) then true else decide (Q (↑i:Int).toNat≥(↑nb:Int)))=true)→(((decide ((↑i:Int)>0))=true)→ (((!bif decide (Q (↑i:Int).toNat<0) then true else decide (Q (↑i:Int).toNat≥(↑nb:Int)))&&decide ((↑i:Int)>0))=true))),(((bif decide (Q (↑i:Int).toNat<0) then true else decide (Q (↑i:Int).toNat≥(↑nb:Int)))=false)→ ((!bif decide (Q (↑i:Int).toNat<0) then true else decide (Q (↑i:Int).toNat≥(↑nb:Int)))=true)),(AG (!bif bif decide (Q (↑i:Int).toNat<0) then true else decide (Q (↑i:Int).toNat≥(↑nb:Int)) then true else bif decide ((↑i:Int)>0) then decide (Q ((↑i:Int) - 1).toNat≥Q (↑i:Int).toNat) else false)),(((!bif bif decide (Q (↑i:Int).toNat<0) then true else decide (Q (↑i:Int).toNat≥(↑nb:Int)) then true else bif decide ((↑i:Int)>0) then decide (Q ((↑i:Int) - 1).toNat≥Q (↑i:Int).toNat) else false)=true)→(NT 0 1)),(AG (!bif bif decide (Q (↑i:Int).toNat<0) then true else decide (Q (↑i:Int).toNat≥(↑nb:Int)) then true else bif decide ((↑i:Int)>0) then decide (Q ((↑i:Int) - 1).toNat≥Q (↑i:Int).toNat) else false)),(AG (!bif bif decide (Q (↑i:Int).toNat<0) then true else decide (Q (↑i:Int).toNat≥(↑nb:Int)) then true else bif decide ((↑i:Int)>0) then decide (Q ((↑i:Int) - 1).toNat≥Q (↑i:Int).toNat) else false)),(((!bif bif decide (Q (↑i:Int).toNat<0) then true else decide (Q (↑i:Int).toNat≥(↑nb:Int)) then true else bif decide ((↑i:Int)>0) then decide (Q ((↑i:Int) - 1).toNat≥Q (↑i:Int).toNat) else false)=true)→(IL 0 (↑i:Int))),(((!bif bif decide (Q (↑i:Int).toNat<0) then true else decide (Q (↑i:Int).toNat≥(↑nb:Int)) then true else bif decide ((↑i:Int)>0) then decide (Q ((↑i:Int) - 1).toNat≥Q (↑i:Int).toNat) else false)=true)→(IT (↑i:Int) (↑m:Int))),(AG (!bif bif decide (Q (↑i:Int).toNat<0) then true else decide (Q (↑i:Int).toNat≥(↑nb:Int)) then true else bif decide ((↑i:Int)>0) then decide (Q ((↑i:Int) - 1).toNat≥Q (↑i:Int).toNat) else false)),(AG (!bif bif decide (Q (↑i:Int).toNat<0) then true else decide (Q (↑i:Int).toNat≥(↑nb:Int)) then true else bif decide ((↑i:Int)>0) then decide (Q ((↑i:Int) - 1).toNat≥Q (↑i:Int).toNat) else false)),(((!bif bif decide (Q (↑i:Int).toNat<0) then true else decide (Q (↑i:Int).toNat≥(↑nb:Int)) then true else bif decide ((↑i:Int)>0) then decide (Q ((↑i:Int) - 1).toNat≥Q (↑i:Int).toNat) else false)=true)→(NT 0 1)),(AG (!bif bif decide (Q (↑i:Int).toNat<0) then true else decide (Q (↑i:Int).toNat≥(↑nb:Int)) then true else bif decide ((↑i:Int)>0) then decide (Q ((↑i:Int) - 1).toNat≥Q (↑i:Int).toNat) else false)),(AG (!bif bif decide (Q (↑i:Int).toNat<0) then true else decide (Q (↑i:Int).toNat≥(↑nb:Int)) then true else bif decide ((↑i:Int)>0) then decide (Q ((↑i:Int) - 1).toNat≥Q (↑i:Int).toNat) else false)),(((!bif bif decide (Q (↑i:Int).toNat<0) then true else decide (Q (↑i:Int).toNat≥(↑nb:Int)) then true else bif decide ((↑i:Int)>0) then decide (Q ((↑i:Int) - 1).toNat≥Q (↑i:Int).toNat) else false)=true)→(IL 0 (Q i))),(((!bif bif decide (Q (↑i:Int).toNat<0) then true else decide (Q (↑i:Int).toNat≥(↑nb:Int)) then true else bif decide ((↑i:Int)>0) then decide (Q ((↑i:Int) - 1).toNat≥Q (↑i:Int).toNat) else false)=true)→(IT (Q i) (↑nb:Int))),(AG (!bif bif decide (Q (↑i:Int).toNat<0) then true else decide (Q (↑i:Int).toNat≥(↑nb:Int)) then true else bif decide ((↑i:Int)>0) then decide (Q ((↑i:Int) - 1).toNat≥Q (↑i:Int).toNat) else false)),(AG (!bif bif decide (Q (↑i:Int).toNat<0) then true else decide (Q (↑i:Int).toNat≥(↑nb:Int)) then true else bif decide ((↑i:Int)>0) then decide (Q ((↑i:Int) - 1).toNat≥Q (↑i:Int).toNat) else false)),(AG (!bif bif decide (Q (↑i:Int).toNat<0) then true else decide (Q (↑i:Int).toNat≥(↑nb:Int)) then true else bif decide ((↑i:Int)>0) then decide (Q ((↑i:Int) - 1).toNat≥Q (↑i:Int).toNat) else false)),(AG (!bif bif decide (Q (↑i:Int).toNat<0) then true else decide (Q (↑i:Int).toNat≥(↑nb:Int)) then true else bif decide ((↑i:Int)>0) then decide (Q ((↑i:Int) - 1).toNat≥Q (↑i:Int).toNat) else false)),(AG (!bif bif decide (Q (↑i:Int).toNat<0) then true else decide (Q (↑i:Int).toNat≥(↑nb:Int)) then true else bif decide ((↑i:Int)>0) then decide (Q ((↑i:Int) - 1).toNat≥Q (↑i:Int).toNat) else false)),(AG ((!bif bif decide (Q (↑i:Int).toNat<0) then true else decide (Q (↑i:Int).toNat≥(↑nb:Int)) then true else bif decide ((↑i:Int)>0) then decide (Q ((↑i:Int) - 1).toNat≥Q (↑i:Int).toNat) else false)&&T i != (g (Q i).toNat).1)),((((!bif bif decide (Q (↑i:Int).toNat<0) then true else decide (Q (↑i:Int).toNat≥(↑nb:Int)) then true else bif decide ((↑i:Int)>0) then decide (Q ((↑i:Int) - 1).toNat≥Q (↑i:Int).toNat) else false)&&T i != (g (Q i).toNat).1)=true)→(NT 0 1)),(AG ((!bif bif decide (Q (↑i:Int).toNat<0) then true else decide (Q (↑i:Int).toNat≥(↑nb:Int)) then true else bif decide ((↑i:Int)>0) then decide (Q ((↑i:Int) - 1).toNat≥Q (↑i:Int).toNat) else false)&&T i != (g (Q i).toNat).1)),(AG ((!bif bif decide (Q (↑i:Int).toNat<0) then true else decide (Q (↑i:Int).toNat≥(↑nb:Int)) then true else bif decide ((↑i:Int)>0) then decide (Q ((↑i:Int) - 1).toNat≥Q (↑i:Int).toNat) else false)&&T i != (g (Q i).toNat).1)),((((!bif bif decide (Q (↑i:Int).toNat<0) then true else decide (Q (↑i:Int).toNat≥(↑nb:Int)) then true else bif decide ((↑i:Int)>0) then decide (Q ((↑i:Int) - 1).toNat≥Q (↑i:Int).toNat) else false)&&T i != (g (Q i).toNat).1)=true)→(IL 0 (↑i:Int))),((((!bif bif decide (Q (↑i:Int).toNat<0) then true else decide (Q (↑i:Int).toNat≥(↑nb:Int)) then true else bif decide ((↑i:Int)>0) then decide (Q ((↑i:Int) - 1).toNat≥Q (↑i:Int).toNat) else false)&&T i != (g (Q i).toNat).1)=true)→(IT (↑i:Int) (↑m:Int))),(AG ((!bif bif decide (Q (↑i:Int).toNat<0) then true else decide (Q (↑i:Int).toNat≥(↑nb:Int)) then true else bif decide ((↑i:Int)>0) then decide (Q ((↑i:Int) - 1).toNat≥Q (↑i:Int).toNat) else false)&&T i != (g (Q i).toNat).1)),(AG ((!bif bif decide (Q (↑i:Int).toNat<0) then true else decide (Q (↑i:Int).toNat≥(↑nb:Int)) then true else bif decide ((↑i:Int)>0) then decide (Q ((↑i:Int) - 1).toNat≥Q (↑i:Int).toNat) else false)&&T i != (g (Q i).toNat).1)),((((!bif bif decide (Q (↑i:Int).toNat<0) then true else decide (Q (↑i:Int).toNat≥(↑nb:Int)) then true else bif decide ((↑i:Int)>0) then decide (Q ((↑i:Int) - 1).toNat≥Q (↑i:Int).toNat) else false)&&T i != (g (Q i).toNat).1)=true)→(NT 0 1)),(AG ((!bif bif decide (Q (↑i:Int).toNat<0) then true else decide (Q (↑i:Int).toNat≥(↑nb:Int)) then true else bif decide ((↑i:Int)>0) then decide (Q ((↑i:Int) - 1).toNat≥Q (↑i:Int).toNat) else false)&&T i != (g (Q i).toNat).1)),(AG ((!bif bif decide (Q (↑i:Int).toNat<0) then true else decide (Q (↑i:Int).toNat≥(↑nb:Int)) then true else bif decide ((↑i:Int)>0) then decide (Q ((↑i:Int) - 1).toNat≥Q (↑i:Int).toNat) else false)&&T i != (g (Q i).toNat).1)),((((!bif bif decide (Q (↑i:Int).toNat<0) then true else decide (Q (↑i:Int).toNat≥(↑nb:Int)) then true else bif decide ((↑i:Int)>0) then decide (Q ((↑i:Int) - 1).toNat≥Q (↑i:Int).toNat) else false)&&T i != (g (Q i).toNat).1)=true)→(IL 0 (Q i))),((((!bif bif decide (Q (↑i:Int).toNat<0) then true else decide (Q (↑i:Int).toNat≥(↑nb:Int)) then true else bif decide ((↑i:Int)>0) then decide (Q ((↑i:Int) - 1).toNat≥Q (↑i:Int).toNat) else false)&&T i != (g (Q i).toNat).1)=true)→(IT (Q i) (↑nb:Int))),(AG ((!bif bif decide (Q (↑i:Int).toNat<0) then true else decide (Q (↑i:Int).toNat≥(↑nb:Int)) then true else bif decide ((↑i:Int)>0) then decide (Q ((↑i:Int) - 1).toNat≥Q (↑i:Int).toNat) else false)&&T i != (g (Q i).toNat).1)),(AG ((!bif bif decide (Q (↑i:Int).toNat<0) then true else decide (Q (↑i:Int).toNat≥(↑nb:Int)) then true else bif decide ((↑i:Int)>0) then decide (Q ((↑i:Int) - 1).toNat≥Q (↑i:Int).toNat) else false)&&T i != (g (Q i).toNat).1)),(AG ((!bif bif decide (Q (↑i:Int).toNat<0) then true else decide (Q (↑i:Int).toNat≥(↑nb:Int)) then true else bif decide ((↑i:Int)>0) then decide (Q ((↑i:Int) - 1).toNat≥Q (↑i:Int).toNat) else false)&&T i != (g (Q i).toNat).1)),(AG ((!bif bif decide (Q (↑i:Int).toNat<0) then true else decide (Q (↑i:Int).toNat≥(↑nb:Int)) then true else bif decide ((↑i:Int)>0) then decide (Q ((↑i:Int) - 1).toNat≥Q (↑i:Int).toNat) else false)&&T i != (g (Q i).toNat).1)),(AG (!bif bif decide (Q (↑i:Int).toNat<0) then true else decide (Q (↑i:Int).toNat≥(↑nb:Int)) then true else bif decide ((↑i:Int)>0) then decide (Q ((↑i:Int) - 1).toNat≥Q (↑i:Int).toNat) else false)),(((!bif bif decide (Q (↑i:Int).toNat<0) then true else decide (Q (↑i:Int).toNat≥(↑nb:Int)) then true else bif decide ((↑i:Int)>0) then decide (Q ((↑i:Int) - 1).toNat≥Q (↑i:Int).toNat) else false)=true)→(((T i != (g (Q i).toNat).1)=true)→ (((!bif bif decide (Q (↑i:Int).toNat<0) then true else decide (Q (↑i:Int).toNat≥(↑nb:Int)) then true else bif decide ((↑i:Int)>0) then decide (Q ((↑i:Int) - 1).toNat≥Q (↑i:Int).toNat) else false)&&T i != (g (Q i).toNat).1)=true))),(((bif bif decide (Q (↑i:Int).toNat<0) then true else decide (Q (↑i:Int).toNat≥(↑nb:Int)) then true else bif decide ((↑i:Int)>0) then decide (Q ((↑i:Int) - 1).toNat≥Q (↑i:Int).toNat) else false)=false)→ ((!bif bif decide (Q (↑i:Int).toNat<0) then true else decide (Q (↑i:Int).toNat≥(↑nb:Int)) then true else bif decide ((↑i:Int)>0) then decide (Q ((↑i:Int) - 1).toNat≥Q (↑i:Int).toNat) else false)=true)),((bif bif bif decide (Q (↑i:Int).toNat<0) then true else decide (Q (↑i:Int).toNat≥(↑nb:Int)) then true else bif decide ((↑i:Int)>0) then decide (Q ((↑i:Int) - 1).toNat≥Q (↑i:Int).toNat) else false then true else bif T i != (g (Q i).toNat).1 then T i != (g (Q i).toNat).2.1 else false)=false),(ZLo ((↑i:Int)+1)),(ZHi ((↑i:Int)+1)),(AI ((↑N:Int))),(AN nb),(AP nb (fun i_1=>[.int .i64 ((g i_1).1),.int .i64 ((g i_1).2.1)])),(AI ((↑k:Int))),(AN N),(AP N (fun i_1=>[.int .i64 (F i_1)])),(AN m),(AP m (fun i_1=>[.int .i64 (T i_1)])),(AN m),(AP m (fun i_1=>[.int .i64 (Q i_1)])),(AN 0),(AN 0),((((↑i:Int)+1):Int)=(↑(i+1):Int)),(AN 2),(NL 1 1),(NL 1 1),(AI ((↑N:Int))),(AN nb),(AP nb (fun i_1=>[.int .i64 ((g i_1).1),.int .i64 ((g i_1).2.1)])),(AN 3),(NL 1 1),(NL 1 1),(AN N),(AP N (fun i_1=>[.int .i64 (F i_1)])),(AN m),(AP m (fun i_1=>[.int .i64 (T i_1)])),(AN m),(AP m (fun i_1=>[.int .i64 (Q i_1)]))]):=by kernel_rfl
theorem nI01 (g:Nat→T_Bar) (nb N k m:Nat) (F T Q:Nat→Int) (i:Nat) :
    pieceOb Tryz.prog 0 [rg 5,.dec false,rg 1,.head] zf73 (SI0 g nb N k m F T Q i) [0,1] 1 (SI1 g nb N k m F T Q 0) =
    some (zf51,[(NT 0 1),((decide ((↑i:Int)<(↑m:Int)))=false),(AI ((↑N:Int))),(AN nb),(AP nb (fun i_1=>[.int .i64 ((g i_1).1),.int .i64 ((g i_1).2.1)])),(AI ((↑k:Int))),(AN N),(AP N (fun i_1=>[.int .i64 (F i_1)])),(AN m),(AP m (fun i_1=>[.int .i64 (T i_1)])),(AN m),(AP m (fun i_1=>[.int .i64 (Q i_1)])),(AN 0),(AN 0),((0:Int)=(↑0:Int)),(AN 2),(NL 1 1),(NL 1 1),(AI ((↑N:Int))),(AN nb),(AP nb (fun i_1=>[.int .i64 ((g i_1).1),.int .i64 ((g i_1).2.1)])),(AN 3),(NL 1 1),(NL 1 1),(AN N),(AP N (fun i_1=>[.int .i64 (F i_1)])),(AN m),(AP m (fun i_1=>[.int .i64 (T i_1)])),(AN m),(AP m (fun i_1=>[.int .i64 (Q i_1)]))]):=by kernel_rfl
theorem nI1 (g:Nat→T_Bar) (nb N k m:Nat) (F T Q:Nat→Int) (i:Nat) :
    pieceOb Tryz.prog 0 [rg 4,.dec true,rm [(14,oc [] (.p (.int .i64 (tcI T m i))))] 4,.dec false,rg 3,.head] zf51 (SI1 g nb N k m F T Q i) [0,1] 1 (SI1 g nb N k m F T Q (i+1)) =
    some (zf51,[(NT 0 1),((decide ((↑i:Int)<(↑N:Int)))=true),(NT 0 1),(IL 0 (↑i:Int)),(IT (↑i:Int) (↑N:Int)),(AG (!decide (F (↑i:Int).toNat<0))),(((!decide (F (↑i:Int).toNat<0))=true)→(NT 0 1)),(AG (!decide (F (↑i:Int).toNat<0))),(AG (!decide (F (↑i:Int).toNat<0))),(((!decide (F (↑i:Int).toNat<0))=true)→(IL 0 (↑i:Int))),(((!decide (F (↑i:Int).toNat<0))=true)→(IT (↑i:Int) (↑N:Int))),(AG (!decide (F (↑i:Int).toNat<0))),(((!decide (F (↑i:Int).toNat<0))=true)→(NT 0 1)),(AG (!decide (F (↑i:Int).toNat<0))),(AG (!decide (F (↑i:Int).toNat<0))),(((!decide (F (↑i:Int).toNat<0))=true)→ Con Tryz.prog 376 0 [] [.agg [.p (.seq true 1 N (fun i_1=>[.int .i64 (F i_1)])),.p (.seq true 1 m (fun i_1=>[.int .i64 (T i_1)])),.p (.seq true 1 m (fun i_1=>[.int .i64 (Q i_1)]))],.p (.int .i64 (↑i:Int))] [] (.p (.int .i64 (tcI T m (↑i:Int))))),(AG (!decide (F (↑i:Int).toNat<0))),(AG (!decide (F (↑i:Int).toNat<0))),(((!decide (F (↑i:Int).toNat<0))=true)→(ZLo (F i+tcI T m (↑i:Int)))),(((!decide (F (↑i:Int).toNat<0))=true)→(ZHi (F i+tcI T m (↑i:Int)))),(AG (!decide (F (↑i:Int).toNat<0))),(AG (!decide (F (↑i:Int).toNat<0))),(((decide (F (↑i:Int).toNat<0))=false)→ ((!decide (F (↑i:Int).toNat<0))=true)),((bif decide (F (↑i:Int).toNat<0) then true else F i+tcI T m (↑i:Int) != (↑k:Int))=false),(ZLo ((↑i:Int)+1)),(ZHi ((↑i:Int)+1)),(AI ((↑N:Int))),(AN nb),(AP nb (fun i_1=>[.int .i64 ((g i_1).1),.int .i64 ((g i_1).2.1)])),(AI ((↑k:Int))),(AN N),(AP N (fun i_1=>[.int .i64 (F i_1)])),(AN m),(AP m (fun i_1=>[.int .i64 (T i_1)])),(AN m),(AP m (fun i_1=>[.int .i64 (Q i_1)])),(AN 0),(AN 0),((((↑i:Int)+1):Int)=(↑(i+1):Int)),(AN 2),(NL 1 1),(NL 1 1),(AI ((↑N:Int))),(AN nb),(AP nb (fun i_1=>[.int .i64 ((g i_1).1),.int .i64 ((g i_1).2.1)])),(AN 3),(NL 1 1),(NL 1 1),(AN N),(AP N (fun i_1=>[.int .i64 (F i_1)])),(AN m),(AP m (fun i_1=>[.int .i64 (T i_1)])),(AN m),(AP m (fun i_1=>[.int .i64 (Q i_1)]))]):=by kernel_rfl
theorem nJe (g:Nat→T_Bar) (nb N k m:Nat) (F T Q:Nat→Int) (i:Nat) :
    pathOb Tryz.prog Tryz.f339 0 [rg 4,.dec false,rg 1] zf51 (SI1 g nb N k m F T Q i) [] 1 [] (.p (.bool true)) =
    some [(NT 0 1),((decide ((↑i:Int)<(↑N:Int)))=false),(true=true)]:=by kernel_rfl
theorem nPf (g:Nat→T_Bar) (nb N k l m e:Nat) (F T Q F1 T1:Nat→Int) :
    pathOb Tryz.prog Tryz.f281 0 [rg 4,rm [(3,oc [] (.p (.bool true))),(4,oc [] (.p (.bool true)))] 31,.dec false,rg 7,rm [(8,oc (pebR N m F1 T1 Q) (.tup [pebO N m 0,.p (.bool false)]))] 6,rg 2,.dec true,rm [(1,oc (pebR N m F T Q) (pebO N m 0))] 2] [.code (bodyOf Tryz.f281)] (start Tryz.f281 [] 0 [grG g nb N,.p (.int .i64 k),.p (.int .i64 l),pebD N m F T Q,.p (.int .i64 e)]) [2208,2209,2210] 1 (pebR N m F T Q) (.tup [pebO N m 0,.p (.bool false)]) =
    some [(NT 0 1),(NT 0 1),Con Tryz.prog 339 0 [] [(zf95 N nb g),.p (.int .i64 (↑k:Int)),(zf64 N F m T Q)] [] (.p (.bool true)),(AG (!!true)),(AG (!!true)),(((!!true)=true)→ Con Tryz.prog 176 0 [] [.p (.int .i64 (↑k:Int)),.p (.int .i64 (↑l:Int))] [] (.p (.bool true))),(AG (!!true)),(((!true)=false)→ ((!!true)=true)),(AG (!bif !true then true else !true)),(((bif !true then true else !true)=false)→ ((!bif !true then true else !true)=true)),(AG (!bif bif !true then true else !true then true else decide ((↑e:Int)<0))),(((!bif bif !true then true else !true then true else decide ((↑e:Int)<0))=true)→(NT 0 1)),(AG (!bif bif !true then true else !true then true else decide ((↑e:Int)<0))),(AG (!bif bif !true then true else !true then true else decide ((↑e:Int)<0))),(AG (!bif bif !true then true else !true then true else decide ((↑e:Int)<0))),(((bif bif !true then true else !true then true else decide ((↑e:Int)<0))=false)→ ((!bif bif !true then true else !true then true else decide ((↑e:Int)<0))=true)),(AG (!bif bif bif !true then true else !true then true else decide ((↑e:Int)<0) then true else decide ((↑e:Int)≥(↑nb:Int)))),(((!bif bif bif !true then true else !true then true else decide ((↑e:Int)<0) then true else decide ((↑e:Int)≥(↑nb:Int)))=true)→(NT 0 1)),(AG (!bif bif bif !true then true else !true then true else decide ((↑e:Int)<0) then true else decide ((↑e:Int)≥(↑nb:Int)))),(AG (!bif bif bif !true then true else !true then true else decide ((↑e:Int)<0) then true else decide ((↑e:Int)≥(↑nb:Int)))),(AG (!bif bif bif !true then true else !true then true else decide ((↑e:Int)<0) then true else decide ((↑e:Int)≥(↑nb:Int)))),(AG ((!bif bif bif !true then true else !true then true else decide ((↑e:Int)<0) then true else decide ((↑e:Int)≥(↑nb:Int)))&&decide ((↑m:Int)>0))),((((!bif bif bif !true then true else !true then true else decide ((↑e:Int)<0) then true else decide ((↑e:Int)≥(↑nb:Int)))&&decide ((↑m:Int)>0))=true)→(NT 0 1)),(AG ((!bif bif bif !true then true else !true then true else decide ((↑e:Int)<0) then true else decide ((↑e:Int)≥(↑nb:Int)))&&decide ((↑m:Int)>0))),((((!bif bif bif !true then true else !true then true else decide ((↑e:Int)<0) then true else decide ((↑e:Int)≥(↑nb:Int)))&&decide ((↑m:Int)>0))=true)→(NT 0 1)),(AG ((!bif bif bif !true then true else !true then true else decide ((↑e:Int)<0) then true else decide ((↑e:Int)≥(↑nb:Int)))&&decide ((↑m:Int)>0))),(AG ((!bif bif bif !true then true else !true then true else decide ((↑e:Int)<0) then true else decide ((↑e:Int)≥(↑nb:Int)))&&decide ((↑m:Int)>0))),((((!bif bif bif !true then true else !true then true else decide ((↑e:Int)<0) then true else decide ((↑e:Int)≥(↑nb:Int)))&&decide ((↑m:Int)>0))=true)→(ZLo ((↑m:Int) - 1))),((((!bif bif bif !true then true else !true then true else decide ((↑e:Int)<0) then true else decide ((↑e:Int)≥(↑nb:Int)))&&decide ((↑m:Int)>0))=true)→(ZHi ((↑m:Int) - 1))),(AG ((!bif bif bif !true then true else !true then true else decide ((↑e:Int)<0) then true else decide ((↑e:Int)≥(↑nb:Int)))&&decide ((↑m:Int)>0))),(AG ((!bif bif bif !true then true else !true then true else decide ((↑e:Int)<0) then true else decide ((↑e:Int)≥(↑nb:Int)))&&decide ((↑m:Int)>0))),((((!bif bif bif !true then true else !true then true else decide ((↑e:Int)<0) then true else decide ((↑e:Int)≥(↑nb:Int)))&&decide ((↑m:Int)>0))=true)→(IL 0 ((↑m:Int) - 1))),((((!bif bif bif !true then true else !true then true else decide ((↑e:Int)<0) then true else decide ((↑e:Int)≥(↑nb:Int)))&&decide ((↑m:Int)>0))=true)→(IT ((↑m:Int) - 1) (↑m:Int))),(AG ((!bif bif bif !true then true else !true then true else decide ((↑e:Int)<0) then true else decide ((↑e:Int)≥(↑nb:Int)))&&decide ((↑m:Int)>0))),(AG ((!bif bif bif !true then true else !true then true else decide ((↑e:Int)<0) then true else decide ((↑e:Int)≥(↑nb:Int)))&&decide ((↑m:Int)>0))),(AG ((!bif bif bif !true then true else !true then true else decide ((↑e:Int)<0) then true else decide ((↑e:Int)≥(↑nb:Int)))&&decide ((↑m:Int)>0))),(AG (!bif bif bif !true then true else !true then true else decide ((↑e:Int)<0) then true else decide ((↑e:Int)≥(↑nb:Int)))),(((!bif bif bif !true then true else !true then true else decide ((↑e:Int)<0) then true else decide ((↑e:Int)≥(↑nb:Int)))=true)→(((decide ((↑m:Int)>0))=true)→ (((!bif bif bif !true then true else !true then true else decide ((↑e:Int)<0) then true else decide ((↑e:Int)≥(↑nb:Int)))&&decide ((↑m:Int)>0))=true))),(((bif bif bif !true then true else !true then true else decide ((↑e:Int)<0) then true else decide ((↑e:Int)≥(↑nb:Int)))=false)→ ((!bif bif bif !true then true else !true then true else decide ((↑e:Int)<0) then true else decide ((↑e:Int)≥(↑nb:Int)))=true)),((bif bif bif bif !true then true else !true then true else decide ((↑e:Int)<0) then true else decide ((↑e:Int)≥(↑nb:Int)) then true else bif decide ((↑m:Int)>0) then decide (Q ((↑m:Int) - 1).toNat≥(↑e:Int)) else false)=false),(NT 0 1),(IL 0 (↑e:Int)),(IT (↑e:Int) (↑nb:Int)),(NT 0 1),((true=true)→ (AN 1)),(NT 0 1),(NT 0 1),(NT 0 1),(NT 0 1),(ZLo ((↑l:Int)+1)),(ZHi ((↑l:Int)+1)),Con Tryz.prog 341 0 [] [(zf95 N nb g),(zf64 N F m T Q),.p (.int .i64 ((g e).1)),.p (.int .i64 ((g e).2.1)),.p (.int .i64 ((↑l:Int)+1))] (zf43 N F1 m T1 Q) ((zf101 N m)),(NT 0 1),((true=true)→ (AN 1)),((!false)=true),(NT 0 1),Con Tryz.prog 340 0 [] [(zf64 N F m T Q)] (zf43 N F m T Q) (.agg [.ar 1 0 0 N,.ar 1 1 0 m,.ar 1 2 0 m]),(NT 0 1),((true=true)→ (AN 1)),(NT 0 1),(AN 0),(AN N),(AN 0),(AN m),(AN 0),(AN m),(false=false),(AN 1),(NL N N),(AA N (fun i=>[.p (.int .i64 (F i))])),(AN 1),(NL m m),(AA m (fun i=>[.p (.int .i64 (T i))])),(AN 1),(NL m m),(AA m (fun i=>[.p (.int .i64 (Q i))])),(AE N),(AE m),(AE m)]:=by kernel_rfl
theorem nPa (g:Nat→T_Bar) (nb N k l m e:Nat) (F T Q F1 T1:Nat→Int) :
    pathOb Tryz.prog Tryz.f281 0 [rg 4,rm [(3,oc [] (.p (.bool true))),(4,oc [] (.p (.bool true)))] 31,.dec false,rg 7,rm [(8,oc (pebR N m F1 T1 Q) (.tup [pebO N m 0,.p (.bool true)]))] 6,rg 2,.dec false,rg 3,rg 7,.dec false,rg 11,rg 7,rg 7,rg 3] [.code (bodyOf Tryz.f281)] (start Tryz.f281 [] 0 [grG g nb N,.p (.int .i64 k),.p (.int .i64 l),pebD N m F T Q,.p (.int .i64 e)]) [1888,2976,3200] 1 (pebR N (m+1) (fun s=>if s=(g e).1.toNat then F1 s - 1 else F1 s) (fun s=>if s<m then T1 s else (g e).1) (fun s=>if s<m then Q s else e)) (.tup [pebO N (m+1) 0,.p (.bool true)]) =
    some [(NT 0 1),(NT 0 1),Con Tryz.prog 339 0 [] [(zf95 N nb g),.p (.int .i64 (↑k:Int)),(zf64 N F m T Q)] [] (.p (.bool true)),(AG (!!true)),(AG (!!true)),(((!!true)=true)→ Con Tryz.prog 176 0 [] [.p (.int .i64 (↑k:Int)),.p (.int .i64 (↑l:Int))] [] (.p (.bool true))),(AG (!!true)),(((!true)=false)→ ((!!true)=true)),(AG (!bif !true then true else !true)),(((bif !true then true else !true)=false)→ ((!bif !true then true else !true)=true)),(AG (!bif bif !true then true else !true then true else decide ((↑e:Int)<0))),(((!bif bif !true then true else !true then true else decide ((↑e:Int)<0))=true)→(NT 0 1)),(AG (!bif bif !true then true else !true then true else decide ((↑e:Int)<0))),(AG (!bif bif !true then true else !true then true else decide ((↑e:Int)<0))),(AG (!bif bif !true then true else !true then true else decide ((↑e:Int)<0))),(((bif bif !true then true else !true then true else decide ((↑e:Int)<0))=false)→ ((!bif bif !true then true else !true then true else decide ((↑e:Int)<0))=true)),(AG (!bif bif bif !true then true else !true then true else decide ((↑e:Int)<0) then true else decide ((↑e:Int)≥(↑nb:Int)))),(((!bif bif bif !true then true else !true then true else decide ((↑e:Int)<0) then true else decide ((↑e:Int)≥(↑nb:Int)))=true)→(NT 0 1)),(AG (!bif bif bif !true then true else !true then true else decide ((↑e:Int)<0) then true else decide ((↑e:Int)≥(↑nb:Int)))),(AG (!bif bif bif !true then true else !true then true else decide ((↑e:Int)<0) then true else decide ((↑e:Int)≥(↑nb:Int)))),(AG (!bif bif bif !true then true else !true then true else decide ((↑e:Int)<0) then true else decide ((↑e:Int)≥(↑nb:Int)))),(AG ((!bif bif bif !true then true else !true then true else decide ((↑e:Int)<0) then true else decide ((↑e:Int)≥(↑nb:Int)))&&decide ((↑m:Int)>0))),((((!bif bif bif !true then true else !true then true else decide ((↑e:Int)<0) then true else decide ((↑e:Int)≥(↑nb:Int)))&&decide ((↑m:Int)>0))=true)→(NT 0 1)),(AG ((!bif bif bif !true then true else !true then true else decide ((↑e:Int)<0) then true else decide ((↑e:Int)≥(↑nb:Int)))&&decide ((↑m:Int)>0))),((((!bif bif bif !true then true else !true then true else decide ((↑e:Int)<0) then true else decide ((↑e:Int)≥(↑nb:Int)))&&decide ((↑m:Int)>0))=true)→(NT 0 1)),(AG ((!bif bif bif !true then true else !true then true else decide ((↑e:Int)<0) then true else decide ((↑e:Int)≥(↑nb:Int)))&&decide ((↑m:Int)>0))),(AG ((!bif bif bif !true then true else !true then true else decide ((↑e:Int)<0) then true else decide ((↑e:Int)≥(↑nb:Int)))&&decide ((↑m:Int)>0))),((((!bif bif bif !true then true else !true then true else decide ((↑e:Int)<0) then true else decide ((↑e:Int)≥(↑nb:Int)))&&decide ((↑m:Int)>0))=true)→(ZLo ((↑m:Int) - 1))),((((!bif bif bif !true then true else !true then true else decide ((↑e:Int)<0) then true else decide ((↑e:Int)≥(↑nb:Int)))&&decide ((↑m:Int)>0))=true)→(ZHi ((↑m:Int) - 1))),(AG ((!bif bif bif !true then true else !true then true else decide ((↑e:Int)<0) then true else decide ((↑e:Int)≥(↑nb:Int)))&&decide ((↑m:Int)>0))),(AG ((!bif bif bif !true then true else !true then true else decide ((↑e:Int)<0) then true else decide ((↑e:Int)≥(↑nb:Int)))&&decide ((↑m:Int)>0))),((((!bif bif bif !true then true else !true then true else decide ((↑e:Int)<0) then true else decide ((↑e:Int)≥(↑nb:Int)))&&decide ((↑m:Int)>0))=true)→(IL 0 ((↑m:Int) - 1))),((((!bif bif bif !true then true else !true then true else decide ((↑e:Int)<0) then true else decide ((↑e:Int)≥(↑nb:Int)))&&decide ((↑m:Int)>0))=true)→(IT ((↑m:Int) - 1) (↑m:Int))),(AG ((!bif bif bif !true then true else !true then true else decide ((↑e:Int)<0) then true else decide ((↑e:Int)≥(↑nb:Int)))&&decide ((↑m:Int)>0))),(AG ((!bif bif bif !true then true else !true then true else decide ((↑e:Int)<0) then true else decide ((↑e:Int)≥(↑nb:Int)))&&decide ((↑m:Int)>0))),(AG ((!bif bif bif !true then true else !true then true else decide ((↑e:Int)<0) then true else decide ((↑e:Int)≥(↑nb:Int)))&&decide ((↑m:Int)>0))),(AG (!bif bif bif !true then true else !true then true else decide ((↑e:Int)<0) then true else decide ((↑e:Int)≥(↑nb:Int)))),(((!bif bif bif !true then true else !true then true else decide ((↑e:Int)<0) then true else decide ((↑e:Int)≥(↑nb:Int)))=true)→(((decide ((↑m:Int)>0))=true)→ (((!bif bif bif !true then true else !true then true else decide ((↑e:Int)<0) then true else decide ((↑e:Int)≥(↑nb:Int)))&&decide ((↑m:Int)>0))=true))),(((bif bif bif !true then true else !true then true else decide ((↑e:Int)<0) then true else decide ((↑e:Int)≥(↑nb:Int)))=false)→ ((!bif bif bif !true then true else !true then true else decide ((↑e:Int)<0) then true else decide ((↑e:Int)≥(↑nb:Int)))=true)),((bif bif bif bif !true then true else !true then true else decide ((↑e:Int)<0) then true else decide ((↑e:Int)≥(↑nb:Int)) then true else bif decide ((↑m:Int)>0) then decide (Q ((↑m:Int) - 1).toNat≥(↑e:Int)) else false)=false),(NT 0 1),(IL 0 (↑e:Int)),(IT (↑e:Int) (↑nb:Int)),(NT 0 1),((true=true)→ (AN 1)),(NT 0 1),(NT 0 1),(NT 0 1),(NT 0 1),(ZLo ((↑l:Int)+1)),(ZHi ((↑l:Int)+1)),Con Tryz.prog 341 0 [] [(zf95 N nb g),(zf64 N F m T Q),.p (.int .i64 ((g e).1)),.p (.int .i64 ((g e).2.1)),.p (.int .i64 ((↑l:Int)+1))] (zf43 N F1 m T1 Q) ((zf102 N m)),(NT 0 1),((true=true)→ (AN 1)),((!true)=false),(NT 0 1),(NT 0 1),(NT 0 1),(IL 0 ((g e).1)),(IT ((g e).1) (↑N:Int)),(NT ((g e).1.toNat) N),((F1 (g e).1.toNat==0)=false),(NT 0 1),(NT 0 1),(IL 0 ((g e).1)),(IT ((g e).1) (↑N:Int)),(NT ((g e).1.toNat) N),(ZLo (F1 (g e).1.toNat - 1)),(ZHi (F1 (g e).1.toNat - 1)),(IL 0 ((g e).1)),(IT ((g e).1) (↑N:Int)),(NT ((g e).1.toNat) N),((false=true)→ ((N:Nat)=1)),(NT 0 1),(NL 1 1),(NL m m),(NL ((m+1)*8) 140737488355328),(NL (m+1) 9223372036854775807),(NT 0 1),((true=true)→ (AN 1)),(NT 0 1),(NL 1 1),(NL m m),(NL ((m+1)*8) 140737488355328),(NL (m+1) 9223372036854775807),(NT 0 1),((true=true)→ (AN 1)),(NT 0 1),(NT 0 1),((true=true)→ (AN 1)),(NT 0 1),(AN 0),(AN N),(AN 0),(AN ((m+1))),(AN 0),(AN ((m+1))),(true=true),(AN 1),(NL N N),(CV [(64,⟨true,3,1,(fun i_1=>[.ar 1 1888 0 N,.ar 1 2976 0 (m+1),.ar 1 3200 0 (m+1)])⟩),(2016,⟨true,3,1,(fun i_1=>[.ar 1 1888 0 N,.ar 1 2976 0 (m+1),.ar 1 3200 0 (m+1)])⟩),(3200,⟨false,1,(m+1),(fun i_1=>(if (i_1<m) then [.p (.int .i64 (Q i_1))] else [.p (.int .i64 (↑e:Int))]))⟩),(3168,⟨false,1,1,(fun i_1=>[.p (.int .i64 (↑e:Int))])⟩),(2976,⟨false,1,(m+1),(fun i_1=>(if (i_1<m) then [.p (.int .i64 (T1 i_1))] else [.p (.int .i64 ((g e).1))]))⟩),(2944,⟨false,1,1,(fun i_1=>[.p (.int .i64 ((g e).1))])⟩),(1888,⟨false,1,N,(fun i_1=>(if (i_1=(g e).1.toNat) then [.p (.int .i64 (F1 (g e).1.toNat - 1))] else [.p (.int .i64 (F1 i_1))]))⟩),(1568,⟨true,2,1,(fun i_1=>[.p (.int .i64 ((g e).1)),.p (.int .i64 ((g e).2.1))])⟩),(32,⟨true,3,1,(fun i_1=>[.p (.seq true 1 N (fun i_2=>[.int .i64 (F i_2)])),.p (.seq true 1 m (fun i_2=>[.int .i64 (T i_2)])),.p (.seq true 1 m (fun i_2=>[.int .i64 (Q i_2)]))])⟩),(0,⟨true,2,1,(fun i_1=>[.p (.int .i64 (↑N:Int)),.p (.seq true 2 nb (fun i_2=>[.int .i64 ((g i_2).1),.int .i64 ((g i_2).2.1)]))])⟩)] [1888,2976,3200] 1 N (fun i=>if (i=(g e).1.toNat) then [.p (.int .i64 (F1 (g e).1.toNat - 1))] else [.p (.int .i64 (F1 i))]) (fun i=>[.p (.int .i64 (if i=(g e).1.toNat then F1 i - 1 else F1 i))])),(AN 1),(NL (m+1) (m+1)),(CV [(64,⟨true,3,1,(fun i_1=>[.ar 1 1888 0 N,.ar 1 2976 0 (m+1),.ar 1 3200 0 (m+1)])⟩),(2016,⟨true,3,1,(fun i_1=>[.ar 1 1888 0 N,.ar 1 2976 0 (m+1),.ar 1 3200 0 (m+1)])⟩),(3200,⟨false,1,(m+1),(fun i_1=>(if (i_1<m) then [.p (.int .i64 (Q i_1))] else [.p (.int .i64 (↑e:Int))]))⟩),(3168,⟨false,1,1,(fun i_1=>[.p (.int .i64 (↑e:Int))])⟩),(2976,⟨false,1,(m+1),(fun i_1=>(if (i_1<m) then [.p (.int .i64 (T1 i_1))] else [.p (.int .i64 ((g e).1))]))⟩),(2944,⟨false,1,1,(fun i_1=>[.p (.int .i64 ((g e).1))])⟩),(1888,⟨false,1,N,(fun i_1=>(if (i_1=(g e).1.toNat) then [.p (.int .i64 (F1 (g e).1.toNat - 1))] else [.p (.int .i64 (F1 i_1))]))⟩),(1568,⟨true,2,1,(fun i_1=>[.p (.int .i64 ((g e).1)),.p (.int .i64 ((g e).2.1))])⟩),(32,⟨true,3,1,(fun i_1=>[.p (.seq true 1 N (fun i_2=>[.int .i64 (F i_2)])),.p (.seq true 1 m (fun i_2=>[.int .i64 (T i_2)])),.p (.seq true 1 m (fun i_2=>[.int .i64 (Q i_2)]))])⟩),(0,⟨true,2,1,(fun i_1=>[.p (.int .i64 (↑N:Int)),.p (.seq true 2 nb (fun i_2=>[.int .i64 ((g i_2).1),.int .i64 ((g i_2).2.1)]))])⟩)] [1888,2976,3200] 1 (m+1) (fun i=>if (i<m) then [.p (.int .i64 (T1 i))] else [.p (.int .i64 ((g e).1))]) (fun i=>[.p (.int .i64 (if i<m then T1 i else (g e).1))])),(AN 1),(NL (m+1) (m+1)),(CV [(64,⟨true,3,1,(fun i_1=>[.ar 1 1888 0 N,.ar 1 2976 0 (m+1),.ar 1 3200 0 (m+1)])⟩),(2016,⟨true,3,1,(fun i_1=>[.ar 1 1888 0 N,.ar 1 2976 0 (m+1),.ar 1 3200 0 (m+1)])⟩),(3200,⟨false,1,(m+1),(fun i_1=>(if (i_1<m) then [.p (.int .i64 (Q i_1))] else [.p (.int .i64 (↑e:Int))]))⟩),(3168,⟨false,1,1,(fun i_1=>[.p (.int .i64 (↑e:Int))])⟩),(2976,⟨false,1,(m+1),(fun i_1=>(if (i_1<m) then [.p (.int .i64 (T1 i_1))] else [.p (.int .i64 ((g e).1))]))⟩),(2944,⟨false,1,1,(fun i_1=>[.p (.int .i64 ((g e).1))])⟩),(1888,⟨false,1,N,(fun i_1=>(if (i_1=(g e).1.toNat) then [.p (.int .i64 (F1 (g e).1.toNat - 1))] else [.p (.int .i64 (F1 i_1))]))⟩),(1568,⟨true,2,1,(fun i_1=>[.p (.int .i64 ((g e).1)),.p (.int .i64 ((g e).2.1))])⟩),(32,⟨true,3,1,(fun i_1=>[.p (.seq true 1 N (fun i_2=>[.int .i64 (F i_2)])),.p (.seq true 1 m (fun i_2=>[.int .i64 (T i_2)])),.p (.seq true 1 m (fun i_2=>[.int .i64 (Q i_2)]))])⟩),(0,⟨true,2,1,(fun i_1=>[.p (.int .i64 (↑N:Int)),.p (.seq true 2 nb (fun i_2=>[.int .i64 ((g i_2).1),.int .i64 ((g i_2).2.1)]))])⟩)] [1888,2976,3200] 1 (m+1) (fun i=>if (i<m) then [.p (.int .i64 (Q i))] else [.p (.int .i64 (↑e:Int))]) (fun i=>[.p (.int .i64 (if i<m then Q i else (↑e:Int)))])),(AE N),(AE ((m+1))),(AE ((m+1)))]:=by kernel_rfl
theorem nPb (g:Nat→T_Bar) (nb N k l m e:Nat) (F T Q F1 T1:Nat→Int) :
    pathOb Tryz.prog Tryz.f281 0 [rg 4,rm [(3,oc [] (.p (.bool true))),(4,oc [] (.p (.bool true)))] 31,.dec false,rg 7,rm [(8,oc (pebR N m F1 T1 Q) (.tup [pebO N m 0,.p (.bool true)]))] 6,rg 2,.dec false,rg 3,rg 7,.dec true,rg 3,rg 11,rg 7,rg 7,rg 3] [.code (bodyOf Tryz.f281)] (start Tryz.f281 [] 0 [grG g nb N,.p (.int .i64 k),.p (.int .i64 l),pebD N m F T Q,.p (.int .i64 e)]) [1888,3072,3296] 1 (pebR N (m+1) (fun s=>if s=(g e).2.1.toNat then F1 s - 1 else F1 s) (fun s=>if s<m then T1 s else (g e).2.1) (fun s=>if s<m then Q s else e)) (.tup [pebO N (m+1) 0,.p (.bool true)]) =
    some [(NT 0 1),(NT 0 1),Con Tryz.prog 339 0 [] [(zf95 N nb g),.p (.int .i64 (↑k:Int)),(zf64 N F m T Q)] [] (.p (.bool true)),(AG (!!true)),(AG (!!true)),(((!!true)=true)→ Con Tryz.prog 176 0 [] [.p (.int .i64 (↑k:Int)),.p (.int .i64 (↑l:Int))] [] (.p (.bool true))),(AG (!!true)),(((!true)=false)→ ((!!true)=true)),(AG (!bif !true then true else !true)),(((bif !true then true else !true)=false)→ ((!bif !true then true else !true)=true)),(AG (!bif bif !true then true else !true then true else decide ((↑e:Int)<0))),(((!bif bif !true then true else !true then true else decide ((↑e:Int)<0))=true)→(NT 0 1)),(AG (!bif bif !true then true else !true then true else decide ((↑e:Int)<0))),(AG (!bif bif !true then true else !true then true else decide ((↑e:Int)<0))),(AG (!bif bif !true then true else !true then true else decide ((↑e:Int)<0))),(((bif bif !true then true else !true then true else decide ((↑e:Int)<0))=false)→ ((!bif bif !true then true else !true then true else decide ((↑e:Int)<0))=true)),(AG (!bif bif bif !true then true else !true then true else decide ((↑e:Int)<0) then true else decide ((↑e:Int)≥(↑nb:Int)))),(((!bif bif bif !true then true else !true then true else decide ((↑e:Int)<0) then true else decide ((↑e:Int)≥(↑nb:Int)))=true)→(NT 0 1)),(AG (!bif bif bif !true then true else !true then true else decide ((↑e:Int)<0) then true else decide ((↑e:Int)≥(↑nb:Int)))),(AG (!bif bif bif !true then true else !true then true else decide ((↑e:Int)<0) then true else decide ((↑e:Int)≥(↑nb:Int)))),(AG (!bif bif bif !true then true else !true then true else decide ((↑e:Int)<0) then true else decide ((↑e:Int)≥(↑nb:Int)))),(AG ((!bif bif bif !true then true else !true then true else decide ((↑e:Int)<0) then true else decide ((↑e:Int)≥(↑nb:Int)))&&decide ((↑m:Int)>0))),((((!bif bif bif !true then true else !true then true else decide ((↑e:Int)<0) then true else decide ((↑e:Int)≥(↑nb:Int)))&&decide ((↑m:Int)>0))=true)→(NT 0 1)),(AG ((!bif bif bif !true then true else !true then true else decide ((↑e:Int)<0) then true else decide ((↑e:Int)≥(↑nb:Int)))&&decide ((↑m:Int)>0))),((((!bif bif bif !true then true else !true then true else decide ((↑e:Int)<0) then true else decide ((↑e:Int)≥(↑nb:Int)))&&decide ((↑m:Int)>0))=true)→(NT 0 1)),(AG ((!bif bif bif !true then true else !true then true else decide ((↑e:Int)<0) then true else decide ((↑e:Int)≥(↑nb:Int)))&&decide ((↑m:Int)>0))),(AG ((!bif bif bif !true then true else !true then true else decide ((↑e:Int)<0) then true else decide ((↑e:Int)≥(↑nb:Int)))&&decide ((↑m:Int)>0))),((((!bif bif bif !true then true else !true then true else decide ((↑e:Int)<0) then true else decide ((↑e:Int)≥(↑nb:Int)))&&decide ((↑m:Int)>0))=true)→(ZLo ((↑m:Int) - 1))),((((!bif bif bif !true then true else !true then true else decide ((↑e:Int)<0) then true else decide ((↑e:Int)≥(↑nb:Int)))&&decide ((↑m:Int)>0))=true)→(ZHi ((↑m:Int) - 1))),(AG ((!bif bif bif !true then true else !true then true else decide ((↑e:Int)<0) then true else decide ((↑e:Int)≥(↑nb:Int)))&&decide ((↑m:Int)>0))),(AG ((!bif bif bif !true then true else !true then true else decide ((↑e:Int)<0) then true else decide ((↑e:Int)≥(↑nb:Int)))&&decide ((↑m:Int)>0))),((((!bif bif bif !true then true else !true then true else decide ((↑e:Int)<0) then true else decide ((↑e:Int)≥(↑nb:Int)))&&decide ((↑m:Int)>0))=true)→(IL 0 ((↑m:Int) - 1))),((((!bif bif bif !true then true else !true then true else decide ((↑e:Int)<0) then true else decide ((↑e:Int)≥(↑nb:Int)))&&decide ((↑m:Int)>0))=true)→(IT ((↑m:Int) - 1) (↑m:Int))),(AG ((!bif bif bif !true then true else !true then true else decide ((↑e:Int)<0) then true else decide ((↑e:Int)≥(↑nb:Int)))&&decide ((↑m:Int)>0))),(AG ((!bif bif bif !true then true else !true then true else decide ((↑e:Int)<0) then true else decide ((↑e:Int)≥(↑nb:Int)))&&decide ((↑m:Int)>0))),(AG ((!bif bif bif !true then true else !true then true else decide ((↑e:Int)<0) then true else decide ((↑e:Int)≥(↑nb:Int)))&&decide ((↑m:Int)>0))),(AG (!bif bif bif !true then true else !true then true else decide ((↑e:Int)<0) then true else decide ((↑e:Int)≥(↑nb:Int)))),(((!bif bif bif !true then true else !true then true else decide ((↑e:Int)<0) then true else decide ((↑e:Int)≥(↑nb:Int)))=true)→(((decide ((↑m:Int)>0))=true)→ (((!bif bif bif !true then true else !true then true else decide ((↑e:Int)<0) then true else decide ((↑e:Int)≥(↑nb:Int)))&&decide ((↑m:Int)>0))=true))),(((bif bif bif !true then true else !true then true else decide ((↑e:Int)<0) then true else decide ((↑e:Int)≥(↑nb:Int)))=false)→ ((!bif bif bif !true then true else !true then true else decide ((↑e:Int)<0) then true else decide ((↑e:Int)≥(↑nb:Int)))=true)),((bif bif bif bif !true then true else !true then true else decide ((↑e:Int)<0) then true else decide ((↑e:Int)≥(↑nb:Int)) then true else bif decide ((↑m:Int)>0) then decide (Q ((↑m:Int) - 1).toNat≥(↑e:Int)) else false)=false),(NT 0 1),(IL 0 (↑e:Int)),(IT (↑e:Int) (↑nb:Int)),(NT 0 1),((true=true)→ (AN 1)),(NT 0 1),(NT 0 1),(NT 0 1),(NT 0 1),(ZLo ((↑l:Int)+1)),(ZHi ((↑l:Int)+1)),Con Tryz.prog 341 0 [] [(zf95 N nb g),(zf64 N F m T Q),.p (.int .i64 ((g e).1)),.p (.int .i64 ((g e).2.1)),.p (.int .i64 ((↑l:Int)+1))] (zf43 N F1 m T1 Q) ((zf102 N m)),(NT 0 1),((true=true)→ (AN 1)),((!true)=false),(NT 0 1),(NT 0 1),(NT 0 1),(IL 0 ((g e).1)),(IT ((g e).1) (↑N:Int)),(NT ((g e).1.toNat) N),((F1 (g e).1.toNat==0)=true),(NT 0 1),(NT 0 1),(NT 0 1),(IL 0 ((g e).2.1)),(IT ((g e).2.1) (↑N:Int)),(NT ((g e).2.1.toNat) N),(ZLo (F1 (g e).2.1.toNat - 1)),(ZHi (F1 (g e).2.1.toNat - 1)),(IL 0 ((g e).2.1)),(IT ((g e).2.1) (↑N:Int)),(NT ((g e).2.1.toNat) N),((false=true)→ ((N:Nat)=1)),(NT 0 1),(NL 1 1),(NL m m),(NL ((m+1)*8) 140737488355328),(NL (m+1) 9223372036854775807),(NT 0 1),((true=true)→ (AN 1)),(NT 0 1),(NL 1 1),(NL m m),(NL ((m+1)*8) 140737488355328),(NL (m+1) 9223372036854775807),(NT 0 1),((true=true)→ (AN 1)),(NT 0 1),(NT 0 1),((true=true)→ (AN 1)),(NT 0 1),(AN 0),(AN N),(AN 0),(AN ((m+1))),(AN 0),(AN ((m+1))),(true=true),(AN 1),(NL N N),(CV [(64,⟨true,3,1,(fun i_1=>[.ar 1 1888 0 N,.ar 1 3072 0 (m+1),.ar 1 3296 0 (m+1)])⟩),(2016,⟨true,3,1,(fun i_1=>[.ar 1 1888 0 N,.ar 1 3072 0 (m+1),.ar 1 3296 0 (m+1)])⟩),(3296,⟨false,1,(m+1),(fun i_1=>(if (i_1<m) then [.p (.int .i64 (Q i_1))] else [.p (.int .i64 (↑e:Int))]))⟩),(3264,⟨false,1,1,(fun i_1=>[.p (.int .i64 (↑e:Int))])⟩),(3072,⟨false,1,(m+1),(fun i_1=>(if (i_1<m) then [.p (.int .i64 (T1 i_1))] else [.p (.int .i64 ((g e).2.1))]))⟩),(3040,⟨false,1,1,(fun i_1=>[.p (.int .i64 ((g e).2.1))])⟩),(1888,⟨false,1,N,(fun i_1=>(if (i_1=(g e).2.1.toNat) then [.p (.int .i64 (F1 (g e).2.1.toNat - 1))] else [.p (.int .i64 (F1 i_1))]))⟩),(1568,⟨true,2,1,(fun i_1=>[.p (.int .i64 ((g e).1)),.p (.int .i64 ((g e).2.1))])⟩),(32,⟨true,3,1,(fun i_1=>[.p (.seq true 1 N (fun i_2=>[.int .i64 (F i_2)])),.p (.seq true 1 m (fun i_2=>[.int .i64 (T i_2)])),.p (.seq true 1 m (fun i_2=>[.int .i64 (Q i_2)]))])⟩),(0,⟨true,2,1,(fun i_1=>[.p (.int .i64 (↑N:Int)),.p (.seq true 2 nb (fun i_2=>[.int .i64 ((g i_2).1),.int .i64 ((g i_2).2.1)]))])⟩)] [1888,3072,3296] 1 N (fun i=>if (i=(g e).2.1.toNat) then [.p (.int .i64 (F1 (g e).2.1.toNat - 1))] else [.p (.int .i64 (F1 i))]) (fun i=>[.p (.int .i64 (if i=(g e).2.1.toNat then F1 i - 1 else F1 i))])),(AN 1),(NL (m+1) (m+1)),(CV [(64,⟨true,3,1,(fun i_1=>[.ar 1 1888 0 N,.ar 1 3072 0 (m+1),.ar 1 3296 0 (m+1)])⟩),(2016,⟨true,3,1,(fun i_1=>[.ar 1 1888 0 N,.ar 1 3072 0 (m+1),.ar 1 3296 0 (m+1)])⟩),(3296,⟨false,1,(m+1),(fun i_1=>(if (i_1<m) then [.p (.int .i64 (Q i_1))] else [.p (.int .i64 (↑e:Int))]))⟩),(3264,⟨false,1,1,(fun i_1=>[.p (.int .i64 (↑e:Int))])⟩),(3072,⟨false,1,(m+1),(fun i_1=>(if (i_1<m) then [.p (.int .i64 (T1 i_1))] else [.p (.int .i64 ((g e).2.1))]))⟩),(3040,⟨false,1,1,(fun i_1=>[.p (.int .i64 ((g e).2.1))])⟩),(1888,⟨false,1,N,(fun i_1=>(if (i_1=(g e).2.1.toNat) then [.p (.int .i64 (F1 (g e).2.1.toNat - 1))] else [.p (.int .i64 (F1 i_1))]))⟩),(1568,⟨true,2,1,(fun i_1=>[.p (.int .i64 ((g e).1)),.p (.int .i64 ((g e).2.1))])⟩),(32,⟨true,3,1,(fun i_1=>[.p (.seq true 1 N (fun i_2=>[.int .i64 (F i_2)])),.p (.seq true 1 m (fun i_2=>[.int .i64 (T i_2)])),.p (.seq true 1 m (fun i_2=>[.int .i64 (Q i_2)]))])⟩),(0,⟨true,2,1,(fun i_1=>[.p (.int .i64 (↑N:Int)),.p (.seq true 2 nb (fun i_2=>[.int .i64 ((g i_2).1),.int .i64 ((g i_2).2.1)]))])⟩)] [1888,3072,3296] 1 (m+1) (fun i=>if (i<m) then [.p (.int .i64 (T1 i))] else [.p (.int .i64 ((g e).2.1))]) (fun i=>[.p (.int .i64 (if i<m then T1 i else (g e).2.1))])),(AN 1),(NL (m+1) (m+1)),(CV [(64,⟨true,3,1,(fun i_1=>[.ar 1 1888 0 N,.ar 1 3072 0 (m+1),.ar 1 3296 0 (m+1)])⟩),(2016,⟨true,3,1,(fun i_1=>[.ar 1 1888 0 N,.ar 1 3072 0 (m+1),.ar 1 3296 0 (m+1)])⟩),(3296,⟨false,1,(m+1),(fun i_1=>(if (i_1<m) then [.p (.int .i64 (Q i_1))] else [.p (.int .i64 (↑e:Int))]))⟩),(3264,⟨false,1,1,(fun i_1=>[.p (.int .i64 (↑e:Int))])⟩),(3072,⟨false,1,(m+1),(fun i_1=>(if (i_1<m) then [.p (.int .i64 (T1 i_1))] else [.p (.int .i64 ((g e).2.1))]))⟩),(3040,⟨false,1,1,(fun i_1=>[.p (.int .i64 ((g e).2.1))])⟩),(1888,⟨false,1,N,(fun i_1=>(if (i_1=(g e).2.1.toNat) then [.p (.int .i64 (F1 (g e).2.1.toNat - 1))] else [.p (.int .i64 (F1 i_1))]))⟩),(1568,⟨true,2,1,(fun i_1=>[.p (.int .i64 ((g e).1)),.p (.int .i64 ((g e).2.1))])⟩),(32,⟨true,3,1,(fun i_1=>[.p (.seq true 1 N (fun i_2=>[.int .i64 (F i_2)])),.p (.seq true 1 m (fun i_2=>[.int .i64 (T i_2)])),.p (.seq true 1 m (fun i_2=>[.int .i64 (Q i_2)]))])⟩),(0,⟨true,2,1,(fun i_1=>[.p (.int .i64 (↑N:Int)),.p (.seq true 2 nb (fun i_2=>[.int .i64 ((g i_2).1),.int .i64 ((g i_2).2.1)]))])⟩)] [1888,3072,3296] 1 (m+1) (fun i=>if (i<m) then [.p (.int .i64 (Q i))] else [.p (.int .i64 (↑e:Int))]) (fun i=>[.p (.int .i64 (if i<m then Q i else (↑e:Int)))])),(AE N),(AE ((m+1))),(AE ((m+1)))]:=by kernel_rfl
theorem nUz (g:Nat→T_Bar) (nb N k l:Nat) :
    pieceOb Tryz.prog 0 [rg 3,rm [(2,oc (pebR N 0 (fun _=>k) (fun _=>0) (fun _=>0)) (.tup [pebO N 0 0,.p (.bool true)]))] 6,rm [(5,oc [] (.p (.bool true)))] 2,.dec false,rg 1,.head] [.code (bodyOf Tryz.f169)] (start Tryz.f169 [] 0 [grG g nb N,.p (.int .i64 k),.p (.int .i64 l)]) [0,32,288,160,161,162] 1 (SRu g nb N k l 0 (fun _=>k) (fun _=>0) (fun _=>0) 0) =
    some (zf52,[(NT 0 1),Con Tryz.prog 280 0 [] [(zf95 N nb g),.p (.int .i64 (↑k:Int))] [(0,⟨false,1,N,(fun i=>[.p (.int .i64 (↑k:Int))])⟩),(1,⟨false,1,0,(fun i=>[.p (.int .i64 0)])⟩),(2,⟨false,1,0,(fun i=>[.p (.int .i64 0)])⟩)] (.tup [.agg [.ar 1 0 0 N,.ar 1 1 0 0,.ar 1 2 0 0],.p (.bool true)]),(NT 0 1),((true=true)→ (AN 1)),(AG (!!true)),(AG (!!true)),(((!!true)=true)→ Con Tryz.prog 176 0 [] [.p (.int .i64 (↑k:Int)),.p (.int .i64 (↑l:Int))] [] (.p (.bool true))),(AG (!!true)),(((!true)=false)→ ((!!true)=true)),((bif !true then true else !true)=false),(AI ((↑N:Int))),(AN nb),(AP nb (fun i=>[.int .i64 ((g i).1),.int .i64 ((g i).2.1)])),(AI ((↑k:Int))),(AI ((↑l:Int))),(AN 0),(AN 0),(AN 0),((0:Int)=(↑0:Int)),((([AV.p (PV.int IntKind.i64 (↑N:Int)),brL g nb].length):Nat)=2),(NL 1 1),(NL 1 1),(AI ((↑N:Int))),(AN nb),(AP nb (fun i=>[.int .i64 ((g i).1),.int .i64 ((g i).2.1)])),((((List.map (fun v=>AV.p (absV v)) [Value.slice none 0 0,Value.slice none 0 0,Value.slice none 0 0]).length):Nat)=3),(NL 1 1),(NL 1 1),((((List.map (fun v=>AV.p (absV v)) [Value.slice none 0 0,Value.slice none 0 0,Value.slice none 0 0]).length):Nat)=3),(NL 1 1),(NL 1 1),(AN 0),(AN N),(AN 0),(AN 0),(AN 0),(AN 0),(AN 1),(NL N N),(AA N (fun i=>[.p (.int .i64 (↑k:Int))])),(AN 1),(NL 0 0),(AA 0 (fun i=>[.p (.int .i64 0)])),(AN 1),(NL 0 0),(AA 0 (fun i=>[.p (.int .i64 0)]))]):=by kernel_rfl
theorem nUl (g:Nat→T_Bar) (nb N k l m m':Nat) (F T Q F' T' Q':Nat→Int) (i:Nat) (r:Bool) :
    pieceOb Tryz.prog 0 [rg 5,.dec true,rm [(5,oc (pebR N m' F' T' Q') (.tup [pebO N m' 0,.p (.bool r)]))] 4,rg 3,.head] zf52 (SRu g nb N k l m F T Q i) [0,1,2,326,327,328] 1 (SRu g nb N k l m' F' T' Q' (i+1)) =
    some (zf52,[(NT 0 1),((decide ((↑i:Int)<(↑nb:Int)))=true),(NT 0 1),(NT 0 1),(AN 1),(NL N N),(AN 1),(NL m m),(AN 1),(NL m m),Con Tryz.prog 281 0 [] [.agg [.p (.int .i64 (↑N:Int)),.p (.seq true 2 nb (fun i_1=>[.int .i64 ((g i_1).1),.int .i64 ((g i_1).2.1)]))],.p (.int .i64 (↑k:Int)),.p (.int .i64 (↑l:Int)),.agg [.p (.seq true 1 N (fun i_1=>[.int .i64 (F i_1)])),.p (.seq true 1 m (fun i_1=>[.int .i64 (T i_1)])),.p (.seq true 1 m (fun i_1=>[.int .i64 (Q i_1)]))],.p (.int .i64 (↑i:Int))] [(0,⟨false,1,N,(fun i_1=>[.p (.int .i64 (F' i_1))])⟩),(1,⟨false,1,m',(fun i_1=>[.p (.int .i64 (T' i_1))])⟩),(2,⟨false,1,m',(fun i_1=>[.p (.int .i64 (Q' i_1))])⟩)] (.tup [.agg [.ar 1 0 0 N,.ar 1 1 0 m',.ar 1 2 0 m'],.p (.bool r)]),(NT 0 1),((true=true)→ (AN 1)),(ZLo ((↑i:Int)+1)),(ZHi ((↑i:Int)+1)),(AI ((↑N:Int))),(AN nb),(AP nb (fun i_1=>[.int .i64 ((g i_1).1),.int .i64 ((g i_1).2.1)])),(AI ((↑k:Int))),(AI ((↑l:Int))),(AN 0),(AN 0),(AN 0),((((↑i:Int)+1):Int)=(↑(i+1):Int)),(AN 2),(NL 1 1),(NL 1 1),(AI ((↑N:Int))),(AN nb),(AP nb (fun i_1=>[.int .i64 ((g i_1).1),.int .i64 ((g i_1).2.1)])),(AN 3),(NL 1 1),(NL 1 1),(AN 3),(NL 1 1),(NL 1 1),(AN 0),(AN N),(AN 0),(AN (m')),(AN 0),(AN (m')),(AN 1),(NL N N),(AA N (fun i_1=>[.p (.int .i64 (F' i_1))])),(AN 1),(NL (m') (m')),(AA (m') (fun i_1=>[.p (.int .i64 (T' i_1))])),(AN 1),(NL (m') (m')),(AA (m') (fun i_1=>[.p (.int .i64 (Q' i_1))]))]):=by kernel_rfl
theorem nUe (g:Nat→T_Bar) (nb N k l m:Nat) (F T Q:Nat→Int) (i:Nat) :
    pathOb Tryz.prog Tryz.f169 0 [rg 5,.dec false,rg 3] zf52 (SRu g nb N k l m F T Q i) [3,4,5] 1 (pebR N m F T Q) (.tup [pebO N m 0,.p (.bool true)]) =
    some [(NT 0 1),((decide ((↑i:Int)<(↑nb:Int)))=false),(NT 0 1),(NT 0 1),((true=true)→ (AN 1)),(NT 0 1),(AN 0),(AN N),(AN 0),(AN m),(AN 0),(AN m),(true=true),(AN 1),(NL N N),(AA N (fun i_1=>[.p (.int .i64 (F i_1))])),(AN 1),(NL m m),(AA m (fun i_1=>[.p (.int .i64 (T i_1))])),(AN 1),(NL m m),(AA m (fun i_1=>[.p (.int .i64 (Q i_1))])),(AE N),(AE m),(AE m)]:=by kernel_rfl
end Go.Proofs.YtkkjoghiigiokaaGreat.Mach
namespace Go.Proofs.YtkkjoghiigiokaaGreat.Mach
open Go
set_option linter.unusedVariables false
set_option linter.unusedSimpArgs false
theorem con_IsRange_i (k l:Nat) (hk:1≤k∧k≤3) (hl:l+1≤2*k):Con Tryz.prog 189 0 [] [.p (.int .i64 k),.p (.int .i64 l)] [] (.p (.bool true)):=by
  have h1:=con_within k 1 3
  rw [show inB k 1 3=true by simp [inB];omega] at h1
  have h2:=con_within l 0 (2*(k:Int) - 1)
  rw [show inB l 0 (2*(k:Int) - 1)=true by simp [inB];omega] at h2
  refine con_start Tryz.func189 rfl (by kernel_rfl) rfl (fun c hc=>?_)
  refine path_ok mixed Tryz.func189 hc (nRi k l) ?_
  repeat' (first | exact aN | apply aI)
  all_goals (first | exact aG _ | omega | rfl | (intros;first | assumption | exact trivial | rfl | exact fT ‹_› | ((repeat' (first | assumption | apply anda | apply notf));done)) | (exact h1) | (intros;exact h2) | (intros;omega) | (simp;done))
theorem con_IsRange_s (k l:Nat) (hk:1≤k∧k≤3) (hl:l+1≤2*k):Con Tryz.prog 176 0 [] [.p (.int .i64 k),.p (.int .i64 l)] [] (.p (.bool true)):=by
  have h1:=con_l1In k 1 3
  rw [show inB k 1 3=true by simp [inB];omega] at h1
  refine con_start Tryz.func176 rfl (by kernel_rfl) rfl (fun c hc=>?_)
  refine path_ok mixed Tryz.func176 hc (nRs k l) ?_
  repeat' (first | exact aN | apply aI)
  all_goals (first | exact aG _ | omega | rfl | (intros;first | assumption | exact trivial | rfl | exact fT ‹_› | ((repeat' (first | assumption | apply anda | apply notf));done)) | (exact h1) | (intros;omega) | (simp;omega))
def NonN (Q:Nat→Int) (m:Nat):Prop:=∀ j,j<m→0≤Q j
theorem con_RunPebbles_i {N nb:Nat} {g:Nat→T_Bar} (hg:isGraphF ((N:Int),(nb,g),())=true) (k l:Nat) (hk:1≤k∧k≤3) (hl:l+1≤2*k) :
    ∃ m F T Q,Con Tryz.prog 185 0 [] [grG g nb N,.p (.int .i64 k),.p (.int .i64 l)] (pebR N m F T Q) (.tup [pebO N m 0,.p (.bool true)])∧m≤24∧NonN Q m∧qL Q m=accI N k l g nb:=by
  obtain ⟨hN,hnb,hok⟩:=graph_in hg
  have hsm:smS s_Graph ((N:Int),(nb,g),()):=⟨by simp [smS,smL],⟨by show nb≤1048576;omega,fun i hi=>by simp [smS,smL]⟩,True.intro⟩
  have hcg:=con_IsGraph_i ((N:Int),(nb,g),()) hsm
  rw [hg] at hcg
  have hr:=con_IsRange_i k l hk hl
  obtain ⟨m,F,T,Q,hc1,hp,hq⟩:=con_play (N:=N) (k:=k) (l:=l) hok (by omega) (by omega) (by omega) (by omega)
  have hm:m≤24:=by
    have:=accI_len N k l g nb
    rw [← hq,qL_length] at this;omega
  refine ⟨m,F,T,Q,?_,hm,fun j hj=>(hp.q j hj).1,hq⟩
  refine con_start Tryz.func185 rfl (by kernel_rfl) rfl (fun c hc=>?_)
  refine path_ok mixed Tryz.func185 hc (nUi g nb N k l m F T Q) ?_
  repeat' (first | exact aN | apply aI)
  all_goals (first | exact aG _ | exact aA _ _ | exact aE _ | omega | rfl | (intros;first | assumption | exact trivial | rfl | exact fT ‹_› | ((repeat' (first | assumption | apply anda | apply notf));done)) | (exact hcg) | (intros;exact hr) | (exact hc1) | (simp;done) | (intro i hi;simp [All]))
theorem con_RankOf_i {N nb:Nat} {g:Nat→T_Bar} (hg:isGraphF ((N:Int),(nb,g),())=true) (k l:Nat) (hk:1≤k∧k≤3) (hl:l+1≤2*k) :
    Con Tryz.prog 288 0 [] [grG g nb N,.p (.int .i64 k),.p (.int .i64 l)] [] (.p (.int .i64 ((accI N k l g nb).length:Nat))):=by
  obtain ⟨m,F,T,Q,hrun,hm,hn,hq⟩:=con_RunPebbles_i hg k l hk hl
  rw [← hq,qL_length]
  refine con_start Tryz.func288 rfl (by kernel_rfl) rfl (fun c hc=>?_)
  refine path_ok mixed Tryz.func288 hc (nKi g nb N k l m F T Q) ?_
  repeat' (first | exact aN | apply aI)
  all_goals (first | omega | rfl | (intros;first | assumption | exact trivial | rfl | exact fT ‹_› | ((repeat' (first | assumption | apply anda | apply notf));done)) | (exact hrun) | (simp;done) | (intro i hi;simp [All]))
theorem con_l4Tail (N m:Nat) (F T Q:Nat→Int) (x:Int) (hm:m≤1048576):Con Tryz.prog 376 0 [] [pebD N m F T Q,.p (.int .i64 x)] [] (.p (.int .i64 (tcI T m x))):=by
  have hle:∀ i,0≤tcI T i x∧tcI T i x≤i:=by
    intro i
    induction i with
    | zero=>simp [tcI]
    | succ i ih=>simp only [tcI];split<;>omega
  refine con_start Tryz.func376 rfl (by kernel_rfl) rfl (fun c hc=>?_)
  have lp:∀ d i,i+d=m→Run Tryz.prog c 376 zf72 (ST0 N m F T Q x i) (Post c [] (.p (.int .i64 (tcI T m x)))):=by
    intro d
    induction d with
    | zero =>
      intro i hi
      have hi':i=m:=by omega
      have hd:decide ((i:Int)<(m:Int))=false:=by simp;omega
      rw [show tcI T m x=tcI T i x by rw [hi']]
      refine path_ok mixed Tryz.func376 hc (nTe N m F T Q x i) ?_
      repeat' (first | exact aN | apply aI)
      all_goals (first | omega | rfl | (intros;first | assumption | exact trivial | rfl | exact fT ‹_› | ((repeat' (first | assumption | apply anda | apply notf));done)) | (exact hd) | (simp;done))
    | succ d ih =>
      intro i hi
      have hd:decide ((i:Int)<(m:Int))=true:=by simp;omega
      have hl:=hle i
      by_cases h:T i=x
      · have hb:(T i==x)=true:=by simp [h]
        refine piece_ok mixed hc (nTt N m F T Q x i) ?_ (ih (i+1) (by omega))
        repeat' (first | exact aN | apply aI)
        all_goals (first | exact aP _ _ | omega | rfl | (intros;first | assumption | exact trivial | rfl | exact fT ‹_› | ((repeat' (first | assumption | apply anda | apply notf));done)) | (exact hb) | (simp only [tcI,h,if_true];done) | (simp only [tcI,h,if_true];omega) | (intro j hj;simp [All]))
      · have hb:(T i==x)=false:=by simp [h]
        refine piece_ok mixed hc (nTf N m F T Q x i) ?_ (ih (i+1) (by omega))
        repeat' (first | exact aN | apply aI)
        all_goals (first | exact aP _ _ | omega | rfl | (intros;first | assumption | exact trivial | rfl | exact fT ‹_› | ((repeat' (first | assumption | apply anda | apply notf));done)) | (exact hb) | (simp only [tcI,h,if_false];omega) | (intro j hj;simp [All]))
  refine piece_ok mixed hc (nTz N m F T Q x) ?_ (lp m 0 (by omega))
  repeat' (first | exact aN | apply aI)
  all_goals (first | exact aP _ _ | omega | rfl | (intros;first | assumption | exact trivial | rfl | exact fT ‹_› | ((repeat' (first | assumption | apply anda | apply notf));done)) | (intro j hj;simp [All]))
def Asc (Q:Nat→Int) (m:Nat):Prop:=∀ j,j+1<m→Q j<Q (j+1)
theorem badI_f {N k nb m:Nat} {g:Nat→T_Bar} {F T Q:Nat→Int} (hp:PInv N k nb m g F T Q) (ha:Asc Q m) (i:Nat) (hi:i<m):badI g nb T Q i=false:=by
  have h1:=hp.q i hi
  have h2:=hp.t i hi
  have a1:decide (Q i<0)=false:=by simp;omega
  have a2:decide (Q i≥(nb:Int))=false:=by simp;omega
  have a3:(bif decide ((i:Int)>0) then decide (Q ((i:Int) - 1).toNat≥Q i) else false)=false:=by
    by_cases h:i=0
    · subst h;rfl
    · have:=ha (i - 1) (by omega)
      have e:((i:Int) - 1).toNat=i - 1:=by omega
      rw [show i - 1+1=i by omega] at this
      rw [e]
      have h4:decide (Q (i - 1)≥Q i)=false:=by simp;omega
      rw [h4]
      cases decide ((i:Int)>0)<;>rfl
  have a4:(bif T i != (g (Q i).toNat).1 then T i != (g (Q i).toNat).2.1 else false)=false:=by
    rcases h2 with e | e
    · rw [show (T i != (g (Q i).toNat).1)=false by simp [e]];rfl
    · rw [show (T i != (g (Q i).toNat).2.1)=false by simp [e]]
      cases (T i != (g (Q i).toNat).1)<;>rfl
  unfold badI
  rw [a1,a2,a3,a4]
  rfl
theorem con_IsPebbles {N k nb m:Nat} {g:Nat→T_Bar} {F T Q:Nat→Int} (hp:PInv N k nb m g F T Q) (ha:Asc Q m) (hg:isGraphF ((N:Int),(nb,g),())=true) (hk:1≤k∧k≤3) (hm:m≤1048576) :
    Con Tryz.prog 339 0 [] [grG g nb N,.p (.int .i64 k),pebD N m F T Q] [] (.p (.bool true)):=by
  obtain ⟨hN,hnb,hok⟩:=graph_in hg
  have hsm:smS s_Graph ((N:Int),(nb,g),()):=⟨by simp [smS,smL],⟨by show nb≤1048576;omega,fun i hi=>by simp [smS,smL]⟩,True.intro⟩
  have hcg:=con_IsGraph_s ((N:Int),(nb,g),()) hsm
  rw [hg] at hcg
  have h1:=con_l1In k 1 3
  rw [show inB k 1 3=true by simp [inB];omega] at h1
  refine con_start Tryz.func339 rfl (by kernel_rfl) rfl (fun c hc=>?_)
  have lp1:∀ d i,i+d=N→Run Tryz.prog c 339 zf51 (SI1 g nb N k m F T Q i) (Post c [] (.p (.bool true))):=by
    intro d
    induction d with
    | zero =>
      intro i hi
      have hd:decide ((i:Int)<(N:Int))=false:=by simp;omega
      refine path_ok mixed Tryz.func339 hc (nJe g nb N k m F T Q i) ?_
      repeat' (first | exact aN | apply aI)
      all_goals (first | omega | rfl | (intros;first | assumption | exact trivial | rfl | exact fT ‹_› | ((repeat' (first | assumption | apply anda | apply notf));done)) | (exact hd) | (simp;done))
    | succ d ih =>
      intro i hi
      have hd:decide ((i:Int)<(N:Int))=true:=by simp;omega
      have ht:=con_l4Tail N m F T Q i hm
      have hf0:=hp.f0 i (by omega)
      have hsum:=hp.sum i (by omega)
      have htn:=tcI_nonneg T i m
      have hb:(bif decide (F i<0) then true else F i+tcI T m i != (k:Int))=false:=by
        have h4:decide (F i<0)=false:=by simp;omega
        rw [h4]
        simp [hsum]
      refine piece_ok mixed hc (nI1 g nb N k m F T Q i) ?_ (ih (i+1) (by omega))
      repeat' (first | exact aN | apply aI)
      all_goals (first | exact aG _ | exact aP _ _ | omega | rfl | (intros;first | assumption | exact trivial | rfl | exact fT ‹_› | ((repeat' (first | assumption | apply anda | apply notf));done)) | (intros;exact ht) | (exact hb) | (intros;omega) | (intro j hj;simp [All]))
  have lp0:∀ d i,i+d=m→Run Tryz.prog c 339 zf73 (SI0 g nb N k m F T Q i) (Post c [] (.p (.bool true))):=by
    intro d
    induction d with
    | zero =>
      intro i hi
      have hd:decide ((i:Int)<(m:Int))=false:=by simp;omega
      refine piece_ok mixed hc (nI01 g nb N k m F T Q i) ?_ (lp1 N 0 (by omega))
      repeat' (first | exact aN | apply aI)
      all_goals (first | exact aP _ _ | omega | rfl | (intros;first | assumption | exact trivial | rfl | exact fT ‹_› | ((repeat' (first | assumption | apply anda | apply notf));done)) | (exact hd) | (intro j hj;simp [All]))
    | succ d ih =>
      intro i hi
      have him:i<m:=by omega
      have hd:decide ((i:Int)<(m:Int))=true:=by simp;omega
      have hbad:=badI_f hp ha i him
      have hq:=hp.q i him
      refine piece_ok mixed hc (nI0 g nb N k m F T Q i) ?_ (ih (i+1) (by omega))
      repeat' (first | exact aN | apply aI)
      all_goals (first | exact aG _ | exact aP _ _ | omega | rfl | (intros;first | assumption | exact trivial | rfl | exact fT ‹_› | ((repeat' (first | assumption | apply anda | apply notf));done)) | (exact hbad) | (intros;omega) | (intro h;have:=idx_lt h him;omega) | (intro h;show (0:Int)≤Q i∧Q i<nb;omega) | (intro j hj;simp [All]))
  refine piece_ok mixed hc (nJz g nb N k m F T Q) ?_ (lp0 m 0 (by omega))
  repeat' (first | exact aN | apply aI)
  all_goals (first | exact aG _ | exact aP _ _ | omega | rfl | (intros;first | assumption | exact trivial | rfl | exact fT ‹_› | ((repeat' (first | assumption | apply anda | apply notf));done)) | (exact hcg) | (intros;exact h1) | (simp;done) | (intro j hj;simp [All]))
theorem con_PlaceBar {N k nb m l e:Nat} {g:Nat→T_Bar} {F T Q:Nat→Int} (hp:PInv N k nb m g F T Q) (ha:Asc Q m) (hlt:∀ j,j<m→Q j<e) (hg:isGraphF ((N:Int),(nb,g),())=true) (hk:1≤k∧k≤3) (hl:l+1≤2*k) (hm:m≤1000) (he:e<nb)
    (hsp:Mat.Sparse N k l (plL g Q m)) :
    (∃ F' T',Con Tryz.prog 281 0 [] [grG g nb N,.p (.int .i64 k),.p (.int .i64 l),pebD N m F T Q,.p (.int .i64 (e:Nat))] (pebR N (m+1) F' T' (fun s=>if s<m then Q s else e)) (.tup [pebO N (m+1) 0,.p (.bool true)]) ∧
      PInv N k nb (m+1) g F' T' (fun s=>if s<m then Q s else e)∧Mat.Sparse N k l (plL g Q m++[brN (g e)])) ∨
    (Con Tryz.prog 281 0 [] [grG g nb N,.p (.int .i64 k),.p (.int .i64 l),pebD N m F T Q,.p (.int .i64 (e:Nat))] (pebR N m F T Q) (.tup [pebO N m 0,.p (.bool false)])∧¬ Mat.Sparse N k l (plL g Q m++[brN (g e)])):=by
  obtain ⟨hN,hnb,hok⟩:=graph_in hg
  have hbar:=hok e he
  have hip:=con_IsPebbles hp ha hg hk (by omega)
  have hir:=con_IsRange_s k l hk hl
  have hcc:=con_l4Copy N m F T Q (by omega) (by omega)
  have hb:(bif bif bif bif !true then true else !true then true else decide ((e:Int)<0) then true else decide ((e:Int)≥(nb:Int)) then true else bif decide ((m:Int)>0) then decide (Q ((m:Int) - 1).toNat≥(e:Int)) else false)=false:=by
    have b1:decide ((e:Int)<0)=false:=decide_eq_false (by omega)
    have b2:decide ((e:Int)≥(nb:Int))=false:=by simp;omega
    have b3:(bif decide ((m:Int)>0) then decide (Q ((m:Int) - 1).toNat≥(e:Int)) else false)=false:=by
      by_cases h:m=0
      · subst h;rfl
      · have:=hlt ((m:Int) - 1).toNat (by omega)
        have h4:decide (Q ((m:Int) - 1).toNat≥(e:Int))=false:=decide_eq_false (by omega)
        rw [h4]
        cases decide ((m:Int)>0)<;>rfl
    rw [b1,b2,b3];rfl
  obtain ⟨F1,T1,r,hc1,h1,h2,h3⟩:=con_l4Gather (l:=l) (a:=(g e).1) (b:=(g e).2.1) hp (by omega) (by omega) (by omega) (by omega) (by omega) (by omega) (by omega)
  have hlA:=h1.le (v:=(g e).1.toNat) (by omega)
  have hlB:=h1.le (v:=(g e).2.1.toNat) (by omega)
  cases r with
  | false =>
    right
    refine ⟨?_,h3 rfl⟩
    refine con_start Tryz.func281 rfl (by kernel_rfl) rfl (fun c hc=>?_)
    refine path_ok mixed Tryz.func281 hc (nPf g nb N k l m e F T Q F1 T1) ?_
    repeat' (first | exact aN | apply aI)
    all_goals (first | exact aG _ | exact aA _ _ | exact aE _ | omega | rfl | (intros;first | assumption | exact trivial | rfl | exact fT ‹_› | ((repeat' (first | assumption | apply anda | apply notf));done)) | (exact hip) | (intros;exact hir) | (exact hb) | (exact hc1) | (exact hcc) | (simp;done) | (intro h;have:=idx_lt h (Nat.lt_succ_self m);omega) | (intro i hi;simp [All]))
  | true =>
    left
    have hw:=h2 rfl
    have hacc:Mat.Sparse N k l (plL g Q m++[brN (g e)]):=by
      have:=(h1.game l).accept (by rw [barsOf_gm];exact hsp) (g e).1.toNat (g e).2.1.toNat ⟨by show (g e).1.toNat≠(g e).2.1.toNat;omega,by show (g e).1.toNat<N;omega,by show (g e).2.1.toNat<N;omega⟩
        (by show l+1≤(F1 (g e).1.toNat).toNat+(F1 (g e).2.1.toNat).toNat;omega)
      rw [barsOf_gm] at this
      exact this
    by_cases hz:F1 (g e).1.toNat=0
    · have hzb:(F1 (g e).1.toNat==0)=true:=by simp [hz]
      refine ⟨_,_,?_,h1.placed e he (g e).2.1 (.inr rfl) (by omega),hacc⟩
      refine con_start Tryz.func281 rfl (by kernel_rfl) rfl (fun c hc=>?_)
      refine path_ok mixed Tryz.func281 hc (nPb g nb N k l m e F T Q F1 T1) ?_
      repeat' (first | exact aN | apply aI)
      all_goals (first | exact aG _ | exact aE _ | omega | rfl | (intros;first | assumption | exact trivial | rfl | exact fT ‹_› | ((repeat' (first | assumption | apply anda | apply notf));done)) | (exact hip) | (intros;exact hir) | (exact hb) | (exact hc1) | (exact hzb) | (simp;done) | (intro h;have:=idx_lt h (Nat.lt_succ_self m);omega) | (intro i hi;simp [All];done) | (intro i hi;by_cases h:i<m<;>simp [h,cvtL,cvt,tg,tru,All];done) | (intro i hi;by_cases h:i=(g e).2.1.toNat<;>simp [h,cvtL,cvt,tg,tru,All]))
    · have hzb:(F1 (g e).1.toNat==0)=false:=by simp [hz]
      refine ⟨_,_,?_,h1.placed e he (g e).1 (.inl rfl) (by omega),hacc⟩
      refine con_start Tryz.func281 rfl (by kernel_rfl) rfl (fun c hc=>?_)
      refine path_ok mixed Tryz.func281 hc (nPa g nb N k l m e F T Q F1 T1) ?_
      repeat' (first | exact aN | apply aI)
      all_goals (first | exact aG _ | exact aE _ | omega | rfl | (intros;first | assumption | exact trivial | rfl | exact fT ‹_› | ((repeat' (first | assumption | apply anda | apply notf));done)) | (exact hip) | (intros;exact hir) | (exact hb) | (exact hc1) | (exact hzb) | (simp;done) | (intro h;have:=idx_lt h (Nat.lt_succ_self m);omega) | (intro i hi;simp [All];done) | (intro i hi;by_cases h:i<m<;>simp [h,cvtL,cvt,tg,tru,All];done) | (intro i hi;by_cases h:i=(g e).1.toNat<;>simp [h,cvtL,cvt,tg,tru,All]))
theorem con_RunPebbles_s {N nb:Nat} {g:Nat→T_Bar} (hg:isGraphF ((N:Int),(nb,g),())=true) (k l:Nat) (hk:1≤k∧k≤3) (hl:l+1≤2*k) :
    ∃ m F T Q,Con Tryz.prog 169 0 [] [grG g nb N,.p (.int .i64 k),.p (.int .i64 l)] (pebR N m F T Q) (.tup [pebO N m 0,.p (.bool true)])∧m≤24∧NonN Q m∧qL Q m=accI N k l g nb:=by
  obtain ⟨hN,hnb,hok⟩:=graph_in hg
  have hr:=con_IsRange_s k l hk hl
  have hn:=con_NewPebbles (nb:=nb) (g:=g) (N:=N) (k:=k) (by omega) hk hg (by omega)
  have lp:∀ d i m F T Q,i+d=nb→PInv N k nb m g F T Q→Asc Q m→(∀ j,j<m→Q j<(i:Nat))→qL Q m=accI N k l g i →
      ∃ m' F' T' Q',(∀ c,c.n=0→Run Tryz.prog c 169 zf52 (SRu g nb N k l m F T Q i) (Post c (pebR N m' F' T' Q') (.tup [pebO N m' 0,.p (.bool true)])))∧NonN Q' m'∧qL Q' m'=accI N k l g nb:=by
    intro d
    induction d with
    | zero =>
      intro i m F T Q hi hp ha hlt hq
      have hi':i=nb:=by omega
      refine ⟨m,F,T,Q,fun c hc=>?_,fun j hj=>(hp.q j hj).1,by rw [hq,hi']⟩
      have hd:decide ((i:Int)<(nb:Int))=false:=by simp;omega
      refine path_ok mixed Tryz.func169 hc (nUe g nb N k l m F T Q i) ?_
      repeat' (first | exact aN | apply aI)
      all_goals (first | exact aA _ _ | exact aE _ | omega | rfl | (intros;first | assumption | exact trivial | rfl | exact fT ‹_› | ((repeat' (first | assumption | apply anda | apply notf));done)) | (exact hd) | (intro j hj;simp [All]))
    | succ d ih =>
      intro i m F T Q hi hp ha hlt hq
      have hd:decide ((i:Int)<(nb:Int))=true:=by simp;omega
      have hm:m≤24:=by
        have:=accI_len N k l g i
        rw [← hq,qL_length] at this;omega
      have hsp:Mat.Sparse N k l (plL g Q m):=by rw [plL_qL,hq];exact accI_sparse N k l g i
      rcases con_PlaceBar (e:=i) hp ha hlt hg hk hl (by omega) (by omega) hsp with ⟨F1,T1,hc1,hp1,hs1⟩ | ⟨hc1,hs1⟩
      · obtain ⟨m',F',T',Q',hrun,h2⟩:=ih (i+1) (m+1) F1 T1 _ (by omega) hp1 (fun j hj=>by
          show (if j<m then Q j else (i:Int))<(if j+1<m then Q (j+1) else (i:Int))
          rw [if_pos (show j<m by omega)]
          by_cases h:j+1<m
          · rw [if_pos h];exact ha j h
          · rw [if_neg h];exact hlt j (by omega)) (fun j hj=>by
          show (if j<m then Q j else (i:Int))<((i+1:Nat):Int)
          by_cases h:j<m
          · rw [if_pos h];have:=hlt j h;omega
          · rw [if_neg h];omega) (by
          simp only [accI]
          rw [← hq,← plL_qL,if_pos hs1]
          simp only [qL,Nat.lt_irrefl,if_false,Int.toNat_natCast]
          rw [qL_congr (Q':=Q) m (fun j hj=>by simp only [hj,if_true])])
        refine ⟨m',F',T',Q',fun c hc=>?_,h2⟩
        refine piece_ok mixed hc (nUl g nb N k l m (m+1) F T Q F1 T1 (fun s=>if s<m then Q s else i) i true) ?_ (hrun c hc)
        repeat' (first | exact aN | apply aI)
        all_goals (first | exact aP _ _ | exact aA _ _ | omega | rfl | (intros;first | assumption | exact trivial | rfl | exact fT ‹_› | ((repeat' (first | assumption | apply anda | apply notf));done)) | (exact hd) | (exact hc1) | (intro j hj;simp [All]))
      · obtain ⟨m',F',T',Q',hrun,h2⟩:=ih (i+1) m F T Q (by omega) hp ha (fun j hj=>by have:=hlt j hj;omega) (by
          simp only [accI]
          rw [← hq,← plL_qL,if_neg hs1])
        refine ⟨m',F',T',Q',fun c hc=>?_,h2⟩
        refine piece_ok mixed hc (nUl g nb N k l m m F T Q F T Q i false) ?_ (hrun c hc)
        repeat' (first | exact aN | apply aI)
        all_goals (first | exact aP _ _ | exact aA _ _ | omega | rfl | (intros;first | assumption | exact trivial | rfl | exact fT ‹_› | ((repeat' (first | assumption | apply anda | apply notf));done)) | (exact hd) | (exact hc1) | (intro j hj;simp [All]))
  obtain ⟨m,F,T,Q,hrun,hnn,hq⟩:=lp nb 0 0 _ _ _ (by omega) (PInv.start hok) (fun j hj=>by omega) (fun j hj=>absurd hj (Nat.not_lt_zero _)) rfl
  have hm:m≤24:=by
    have:=accI_len N k l g nb
    rw [← hq,qL_length] at this;omega
  refine ⟨m,F,T,Q,?_,hm,hnn,hq⟩
  refine con_start Tryz.func169 rfl (by kernel_rfl) rfl (fun c hc=>?_)
  refine piece_ok mixed hc (nUz g nb N k l) ?_ (hrun c hc)
  repeat' (first | exact aN | apply aI)
  all_goals (first | exact aG _ | exact aP _ _ | exact aA _ _ | omega | rfl | (intros;first | assumption | exact trivial | rfl | exact fT ‹_› | ((repeat' (first | assumption | apply anda | apply notf));done)) | (exact hn) | (intros;exact hr) | (simp;done) | (intro j hj;simp [All]))
theorem con_RankOf_s {N nb:Nat} {g:Nat→T_Bar} (hg:isGraphF ((N:Int),(nb,g),())=true) (k l:Nat) (hk:1≤k∧k≤3) (hl:l+1≤2*k) :
    Con Tryz.prog 282 0 [] [grG g nb N,.p (.int .i64 k),.p (.int .i64 l)] [] (.p (.int .i64 ((accI N k l g nb).length:Nat))):=by
  obtain ⟨m,F,T,Q,hrun,hm,hn,hq⟩:=con_RunPebbles_s hg k l hk hl
  rw [← hq,qL_length]
  refine con_start Tryz.func282 rfl (by kernel_rfl) rfl (fun c hc=>?_)
  refine path_ok mixed Tryz.func282 hc (nKs g nb N k l m F T Q) ?_
  repeat' (first | exact aN | apply aI)
  all_goals (first | omega | rfl | (intros;first | assumption | exact trivial | rfl | exact fT ‹_› | ((repeat' (first | assumption | apply anda | apply notf));done)) | (exact hrun) | (simp;done) | (intro i hi;simp [All]))
end Go.Proofs.YtkkjoghiigiokaaGreat.Mach
namespace Go.Proofs.YtkkjoghiigiokaaGreat.Mach
open Go
set_option linter.unusedVariables false
set_option linter.unusedSimpArgs false
def pcL (pl:Nat→T_Place) (np:Nat):AV:=.p (.seq true 2 np (fun i=>[.int .i64 (pl i).1,.int .i64 (pl i).2.1]))
def frA (g:Nat→T_Bar) (nb:Nat) (N:Int) (pl:Nat→T_Place) (np:Nat):AV:=.agg [.p (.int .i64 N),brL g nb,pcL pl np]
def frO (g:Nat→T_Bar) (nb:Nat) (N:Int) (pl:Nat→T_Place) (np:Nat):Ob:=⟨true,3,1,fun _=>[.p (.int .i64 N),brL g nb,pcL pl np]⟩
def FI0 (g:Nat→T_Bar) (nb:Nat) (N:Int) (pl:Nat→T_Place) (np:Nat) (i:Nat):St :=
  ⟨[frA g nb N pl np,.pt 3 0 0 0,.p .any,.pt 2 1 0 0]++List.replicate 29 anyA++[pcL pl np,.p (.int .i64 np),.p (.int .i64 i)]++List.replicate 43 anyA,[(0,frO g nb N pl np),(1,gzO g nb N)],2⟩
def FI1 (g:Nat→T_Bar) (nb:Nat) (N:Int) (pl:Nat→T_Place) (np:Nat) (i:Nat):St :=
  ⟨[frA g nb N pl np,.pt 3 0 0 0,.p .any,.pt 2 1 0 0]++List.replicate 40 anyA++[brL g nb,.p (.int .i64 nb),.p (.int .i64 i)]++List.replicate 32 anyA,[(0,frO g nb N pl np),(1,gzO g nb N)],2⟩
def FJ0 (g:Nat→T_Bar) (nb:Nat) (N:Int) (pl:Nat→T_Place) (np:Nat) (i:Nat):St :=
  ⟨[frA g nb N pl np,.pt 3 0 0 0,.p .any,.p (.int .i64 i)]++List.replicate 95 anyA,[(0,frO g nb N pl np)],1⟩
def FJ1 (g:Nat→T_Bar) (nb:Nat) (N:Int) (pl:Nat→T_Place) (np:Nat) (i:Nat):St :=
  ⟨[frA g nb N pl np,.pt 3 0 0 0,.p .any,.p .any,.p (.int .i64 i)]++List.replicate 94 anyA,[(0,frO g nb N pl np)],1⟩
theorem yPl (a b:Int) (p q:Bool) :
    pathOb Tryz.prog Tryz.f233 0 [rg 2,rm [(2,oc [] (.p (.bool p))),(3,oc [] (.p (.bool q)))] 2] [.code (bodyOf Tryz.f233)] (start Tryz.f233 [] 0 [.agg [.p (.int .i64 a),.p (.int .i64 b)]]) [] 1 [] (.p (.bool (bif p then q else false))) =
    some [(NT 0 1),Con Tryz.prog 179 0 [] [.p (.int .i64 a),.p (.int .i64 0),.p (.int .i64 4)] [] (.p (.bool p)),(AG p),((p=true)→(NT 0 1)),(AG p),((p=true)→ Con Tryz.prog 179 0 [] [.p (.int .i64 b),.p (.int .i64 0),.p (.int .i64 4)] [] (.p (.bool q))),(AG p),((bif p then q else false)=(bif p then q else false))]:=by kernel_rfl
theorem yI0 (g:Nat→T_Bar) (nb:Nat) (N:Int) (pl:Nat→T_Place) (np:Nat) (a:Bool) :
    pathOb Tryz.prog Tryz.f128 0 [rg 2,rg 4,rm [(1,oc [] (.p (.bool a)))] 20,.dec true,rg 1] [.code (bodyOf Tryz.f128)] (start Tryz.f128 [] 0 [frA g nb N pl np]) [] 1 [] (.p (.bool false)) =
    some [(NT 0 1),(NT 0 1),((true=true)→ (AN 1)),(NT 0 1),Con Tryz.prog 62 0 [] [(zf97 N nb g)] [] (.p (.bool a)),(AG (!!a)),(((!!a)=true)→(NT 0 1)),(AG (!!a)),(((!a)=false)→ ((!!a)=true)),(AG (!bif !a then true else decide (N>6))),(((!bif !a then true else decide (N>6))=true)→(NT 0 1)),(AG (!bif !a then true else decide (N>6))),(AG (!bif !a then true else decide (N>6))),(((bif !a then true else decide (N>6))=false)→ ((!bif !a then true else decide (N>6))=true)),(AG (!bif bif !a then true else decide (N>6) then true else decide ((↑nb:Int)>15))),(((!bif bif !a then true else decide (N>6) then true else decide ((↑nb:Int)>15))=true)→(NT 0 1)),(AG (!bif bif !a then true else decide (N>6) then true else decide ((↑nb:Int)>15))),(AG (!bif bif !a then true else decide (N>6) then true else decide ((↑nb:Int)>15))),(((!bif bif !a then true else decide (N>6) then true else decide ((↑nb:Int)>15))=true)→(NT 0 1)),(AG (!bif bif !a then true else decide (N>6) then true else decide ((↑nb:Int)>15))),(AG (!bif bif !a then true else decide (N>6) then true else decide ((↑nb:Int)>15))),(((bif bif !a then true else decide (N>6) then true else decide ((↑nb:Int)>15))=false)→ ((!bif bif !a then true else decide (N>6) then true else decide ((↑nb:Int)>15))=true)),((bif bif bif !a then true else decide (N>6) then true else decide ((↑nb:Int)>15) then true else (↑np:Int) != N)=true),(false=false)]:=by kernel_rfl
theorem yIz (g:Nat→T_Bar) (nb:Nat) (N:Int) (pl:Nat→T_Place) (np:Nat) (a:Bool) :
    pieceOb Tryz.prog 0 [rg 2,rg 4,rm [(1,oc [] (.p (.bool a)))] 20,.dec false,rg 4,.head] [.code (bodyOf Tryz.f128)] (start Tryz.f128 [] 0 [frA g nb N pl np]) [0,128] 1 (FI0 g nb N pl np 0) =
    some (zf53,[(NT 0 1),(NT 0 1),((true=true)→ (AN 1)),(NT 0 1),Con Tryz.prog 62 0 [] [(zf97 N nb g)] [] (.p (.bool a)),(AG (!!a)),(((!!a)=true)→(NT 0 1)),(AG (!!a)),(((!a)=false)→ ((!!a)=true)),(AG (!bif !a then true else decide (N>6))),(((!bif !a then true else decide (N>6))=true)→(NT 0 1)),(AG (!bif !a then true else decide (N>6))),(AG (!bif !a then true else decide (N>6))),(((bif !a then true else decide (N>6))=false)→ ((!bif !a then true else decide (N>6))=true)),(AG (!bif bif !a then true else decide (N>6) then true else decide ((↑nb:Int)>15))),(((!bif bif !a then true else decide (N>6) then true else decide ((↑nb:Int)>15))=true)→(NT 0 1)),(AG (!bif bif !a then true else decide (N>6) then true else decide ((↑nb:Int)>15))),(AG (!bif bif !a then true else decide (N>6) then true else decide ((↑nb:Int)>15))),(((!bif bif !a then true else decide (N>6) then true else decide ((↑nb:Int)>15))=true)→(NT 0 1)),(AG (!bif bif !a then true else decide (N>6) then true else decide ((↑nb:Int)>15))),(AG (!bif bif !a then true else decide (N>6) then true else decide ((↑nb:Int)>15))),(((bif bif !a then true else decide (N>6) then true else decide ((↑nb:Int)>15))=false)→ ((!bif bif !a then true else decide (N>6) then true else decide ((↑nb:Int)>15))=true)),((bif bif bif !a then true else decide (N>6) then true else decide ((↑nb:Int)>15) then true else (↑np:Int) != N)=false),(NT 0 1),(AI N),(AN nb),(AP nb (fun i=>[.int .i64 ((g i).1),.int .i64 ((g i).2.1)])),(AN np),(AP np (fun i=>[.int .i64 ((pl i).1),.int .i64 ((pl i).2.1)])),(AN 0),(AN 0),(AN np),(AP np (fun i=>[.int .i64 ((pl i).1),.int .i64 ((pl i).2.1)])),(AI ((↑np:Int))),((0:Int)=(↑0:Int)),((([AV.p (PV.int IntKind.i64 N),brL g nb,pcL pl np].length):Nat)=3),(NL 1 1),(NL 1 1),(AI N),(AN nb),(AP nb (fun i=>[.int .i64 ((g i).1),.int .i64 ((g i).2.1)])),(AN np),(AP np (fun i=>[.int .i64 ((pl i).1),.int .i64 ((pl i).2.1)])),((((List.map (fun v=>AV.p (absV v)) [Value.int IntKind.i64 0,Value.slice none 0 0]).length):Nat)=2),(NL 1 1),(NL 1 1),(AI N),(AN nb),(AP nb (fun i=>[.int .i64 ((g i).1),.int .i64 ((g i).2.1)]))]):=by kernel_rfl
theorem yIt (g:Nat→T_Bar) (nb:Nat) (N:Int) (pl:Nat→T_Place) (np:Nat) (i:Nat) :
    pieceOb Tryz.prog 0 [rg 1,.dec true,rg 4,rm [(1,oc [] (.p (.bool true)))] 1,.dec false,rg 2,.head] zf53 (FI0 g nb N pl np i) [0,1] 1 (FI0 g nb N pl np (i+1)) =
    some (zf53,[((decide ((↑i:Int)<(↑np:Int)))=true),(IL 0 (↑i:Int)),(IT (↑i:Int) (↑np:Int)),(NT 0 1),((true=true)→ (AN 1)),(NT 0 1),Con Tryz.prog 233 0 [] [(zf105 pl i)] [] (.p (.bool true)),((!true)=false),(ZLo ((↑i:Int)+1)),(ZHi ((↑i:Int)+1)),(AI N),(AN nb),(AP nb (fun i_1=>[.int .i64 ((g i_1).1),.int .i64 ((g i_1).2.1)])),(AN np),(AP np (fun i_1=>[.int .i64 ((pl i_1).1),.int .i64 ((pl i_1).2.1)])),(AN 0),(AN 0),(AN np),(AP np (fun i_1=>[.int .i64 ((pl i_1).1),.int .i64 ((pl i_1).2.1)])),(AI ((↑np:Int))),((((↑i:Int)+1):Int)=(↑(i+1):Int)),(AN 3),(NL 1 1),(NL 1 1),(AI N),(AN nb),(AP nb (fun i_1=>[.int .i64 ((g i_1).1),.int .i64 ((g i_1).2.1)])),(AN np),(AP np (fun i_1=>[.int .i64 ((pl i_1).1),.int .i64 ((pl i_1).2.1)])),(AN 2),(NL 1 1),(NL 1 1),(AI N),(AN nb),(AP nb (fun i_1=>[.int .i64 ((g i_1).1),.int .i64 ((g i_1).2.1)]))]):=by kernel_rfl
theorem yIx (g:Nat→T_Bar) (nb:Nat) (N:Int) (pl:Nat→T_Place) (np:Nat) (i:Nat) :
    pathOb Tryz.prog Tryz.f128 0 [rg 1,.dec true,rg 4,rm [(1,oc [] (.p (.bool false)))] 1,.dec true,rg 1] zf53 (FI0 g nb N pl np i) [] 1 [] (.p (.bool false)) =
    some [((decide ((↑i:Int)<(↑np:Int)))=true),(IL 0 (↑i:Int)),(IT (↑i:Int) (↑np:Int)),(NT 0 1),((true=true)→ (AN 1)),(NT 0 1),Con Tryz.prog 233 0 [] [(zf105 pl i)] [] (.p (.bool false)),((!false)=true),(false=false)]:=by kernel_rfl
theorem yIn (g:Nat→T_Bar) (nb:Nat) (N:Int) (pl:Nat→T_Place) (np:Nat) (i:Nat) :
    pieceOb Tryz.prog 0 [rg 1,.dec false,rg 4,.head] zf53 (FI0 g nb N pl np i) [0,1] 1 (FI1 g nb N pl np 0) =
    some (zf39,[((decide ((↑i:Int)<(↑np:Int)))=false),(NT 0 1),(AI N),(AN nb),(AP nb (fun i_1=>[.int .i64 ((g i_1).1),.int .i64 ((g i_1).2.1)])),(AN np),(AP np (fun i_1=>[.int .i64 ((pl i_1).1),.int .i64 ((pl i_1).2.1)])),(AN 0),(AN 0),(AN nb),(AP nb (fun i_1=>[.int .i64 ((g i_1).1),.int .i64 ((g i_1).2.1)])),(AI ((↑nb:Int))),((0:Int)=(↑0:Int)),(AN 3),(NL 1 1),(NL 1 1),(AI N),(AN nb),(AP nb (fun i_1=>[.int .i64 ((g i_1).1),.int .i64 ((g i_1).2.1)])),(AN np),(AP np (fun i_1=>[.int .i64 ((pl i_1).1),.int .i64 ((pl i_1).2.1)])),(AN 2),(NL 1 1),(NL 1 1),(AI N),(AN nb),(AP nb (fun i_1=>[.int .i64 ((g i_1).1),.int .i64 ((g i_1).2.1)]))]):=by kernel_rfl
theorem yIb (g:Nat→T_Bar) (nb:Nat) (N:Int) (pl:Nat→T_Place) (np:Nat) (i:Nat) :
    pieceOb Tryz.prog 0 [rg 1,.dec true,rg 6,rg 27,.dec false,rg 2,.head] zf39 (FI1 g nb N pl np i) [0,1] 1 (FI1 g nb N pl np (i+1)) =
    some (zf39,[((decide ((↑i:Int)<(↑nb:Int)))=true),(IL 0 (↑i:Int)),(IT (↑i:Int) (↑nb:Int)),(NT 0 1),((true=true)→ (AN 1)),(AG (decide ((↑i:Int)>0))),(((decide ((↑i:Int)>0))=true)→(NT 0 1)),(AG (decide ((↑i:Int)>0))),(((decide ((↑i:Int)>0))=true)→(ZLo ((↑i:Int) - 1))),(((decide ((↑i:Int)>0))=true)→(ZHi ((↑i:Int) - 1))),(AG (decide ((↑i:Int)>0))),(AG (decide ((↑i:Int)>0))),(((decide ((↑i:Int)>0))=true)→(IL 0 ((↑i:Int) - 1))),(((decide ((↑i:Int)>0))=true)→(IT ((↑i:Int) - 1) (↑nb:Int))),(AG (decide ((↑i:Int)>0))),(((decide ((↑i:Int)>0))=true)→(NT 0 1)),(AG (decide ((↑i:Int)>0))),(AG (decide ((↑i:Int)>0))),(AG (decide ((↑i:Int)>0))),(AG (!bif decide ((↑i:Int)>0) then (g ((↑i:Int) - 1).toNat).1==(g i).1&&((g ((↑i:Int) - 1).toNat).2.1==(g i).2.1&&true) else false)),(((!bif decide ((↑i:Int)>0) then (g ((↑i:Int) - 1).toNat).1==(g i).1&&((g ((↑i:Int) - 1).toNat).2.1==(g i).2.1&&true) else false)=true)→(NT 0 1)),(AG (!bif decide ((↑i:Int)>0) then (g ((↑i:Int) - 1).toNat).1==(g i).1&&((g ((↑i:Int) - 1).toNat).2.1==(g i).2.1&&true) else false)),(((!bif decide ((↑i:Int)>0) then (g ((↑i:Int) - 1).toNat).1==(g i).1&&((g ((↑i:Int) - 1).toNat).2.1==(g i).2.1&&true) else false)=true)→(NT 0 1)),(AG (!bif decide ((↑i:Int)>0) then (g ((↑i:Int) - 1).toNat).1==(g i).1&&((g ((↑i:Int) - 1).toNat).2.1==(g i).2.1&&true) else false)),(AG (!bif decide ((↑i:Int)>0) then (g ((↑i:Int) - 1).toNat).1==(g i).1&&((g ((↑i:Int) - 1).toNat).2.1==(g i).2.1&&true) else false)),(((!bif decide ((↑i:Int)>0) then (g ((↑i:Int) - 1).toNat).1==(g i).1&&((g ((↑i:Int) - 1).toNat).2.1==(g i).2.1&&true) else false)=true)→(IL 0 ((g i).1))),(((!bif decide ((↑i:Int)>0) then (g ((↑i:Int) - 1).toNat).1==(g i).1&&((g ((↑i:Int) - 1).toNat).2.1==(g i).2.1&&true) else false)=true)→(IT ((g i).1) (↑np:Int))),(AG (!bif decide ((↑i:Int)>0) then (g ((↑i:Int) - 1).toNat).1==(g i).1&&((g ((↑i:Int) - 1).toNat).2.1==(g i).2.1&&true) else false)),(AG (!bif decide ((↑i:Int)>0) then (g ((↑i:Int) - 1).toNat).1==(g i).1&&((g ((↑i:Int) - 1).toNat).2.1==(g i).2.1&&true) else false)),(((!bif decide ((↑i:Int)>0) then (g ((↑i:Int) - 1).toNat).1==(g i).1&&((g ((↑i:Int) - 1).toNat).2.1==(g i).2.1&&true) else false)=true)→(NT 0 1)),(AG (!bif decide ((↑i:Int)>0) then (g ((↑i:Int) - 1).toNat).1==(g i).1&&((g ((↑i:Int) - 1).toNat).2.1==(g i).2.1&&true) else false)),(((!bif decide ((↑i:Int)>0) then (g ((↑i:Int) - 1).toNat).1==(g i).1&&((g ((↑i:Int) - 1).toNat).2.1==(g i).2.1&&true) else false)=true)→(NT 0 1)),(AG (!bif decide ((↑i:Int)>0) then (g ((↑i:Int) - 1).toNat).1==(g i).1&&((g ((↑i:Int) - 1).toNat).2.1==(g i).2.1&&true) else false)),(AG (!bif decide ((↑i:Int)>0) then (g ((↑i:Int) - 1).toNat).1==(g i).1&&((g ((↑i:Int) - 1).toNat).2.1==(g i).2.1&&true) else false)),(((!bif decide ((↑i:Int)>0) then (g ((↑i:Int) - 1).toNat).1==(g i).1&&((g ((↑i:Int) - 1).toNat).2.1==(g i).2.1&&true) else false)=true)→(IL 0 ((g i).2.1))),(((!bif decide ((↑i:Int)>0) then (g ((↑i:Int) - 1).toNat).1==(g i).1&&((g ((↑i:Int) - 1).toNat).2.1==(g i).2.1&&true) else false)=true)→(IT ((g i).2.1) (↑np:Int))),(AG (!bif decide ((↑i:Int)>0) then (g ((↑i:Int) - 1).toNat).1==(g i).1&&((g ((↑i:Int) - 1).toNat).2.1==(g i).2.1&&true) else false)),(AG (!bif decide ((↑i:Int)>0) then (g ((↑i:Int) - 1).toNat).1==(g i).1&&((g ((↑i:Int) - 1).toNat).2.1==(g i).2.1&&true) else false)),(AG (!bif decide ((↑i:Int)>0) then (g ((↑i:Int) - 1).toNat).1==(g i).1&&((g ((↑i:Int) - 1).toNat).2.1==(g i).2.1&&true) else false)),(((bif decide ((↑i:Int)>0) then (g ((↑i:Int) - 1).toNat).1==(g i).1&&((g ((↑i:Int) - 1).toNat).2.1==(g i).2.1&&true) else false)=false)→ ((!bif decide ((↑i:Int)>0) then (g ((↑i:Int) - 1).toNat).1==(g i).1&&((g ((↑i:Int) - 1).toNat).2.1==(g i).2.1&&true) else false)=true)),((bif bif decide ((↑i:Int)>0) then (g ((↑i:Int) - 1).toNat).1==(g i).1&&((g ((↑i:Int) - 1).toNat).2.1==(g i).2.1&&true) else false then true else (pl (g i).1.toNat).1==(pl (g i).2.1.toNat).1&&((pl (g i).1.toNat).2.1==(pl (g i).2.1.toNat).2.1&&true))=false),(ZLo ((↑i:Int)+1)),(ZHi ((↑i:Int)+1)),(AI N),(AN nb),(AP nb (fun i_1=>[.int .i64 ((g i_1).1),.int .i64 ((g i_1).2.1)])),(AN np),(AP np (fun i_1=>[.int .i64 ((pl i_1).1),.int .i64 ((pl i_1).2.1)])),(AN 0),(AN 0),(AN nb),(AP nb (fun i_1=>[.int .i64 ((g i_1).1),.int .i64 ((g i_1).2.1)])),(AI ((↑nb:Int))),((((↑i:Int)+1):Int)=(↑(i+1):Int)),(AN 3),(NL 1 1),(NL 1 1),(AI N),(AN nb),(AP nb (fun i_1=>[.int .i64 ((g i_1).1),.int .i64 ((g i_1).2.1)])),(AN np),(AP np (fun i_1=>[.int .i64 ((pl i_1).1),.int .i64 ((pl i_1).2.1)])),(AN 2),(NL 1 1),(NL 1 1),(AI N),(AN nb),(AP nb (fun i_1=>[.int .i64 ((g i_1).1),.int .i64 ((g i_1).2.1)]))]):=by kernel_rfl
theorem yIy (g:Nat→T_Bar) (nb:Nat) (N:Int) (pl:Nat→T_Place) (np:Nat) (i:Nat) :
    pathOb Tryz.prog Tryz.f128 0 [rg 1,.dec true,rg 6,rg 27,.dec true,rg 1] zf39 (FI1 g nb N pl np i) [] 1 [] (.p (.bool false)) =
    some [((decide ((↑i:Int)<(↑nb:Int)))=true),(IL 0 (↑i:Int)),(IT (↑i:Int) (↑nb:Int)),(NT 0 1),((true=true)→ (AN 1)),(AG (decide ((↑i:Int)>0))),(((decide ((↑i:Int)>0))=true)→(NT 0 1)),(AG (decide ((↑i:Int)>0))),(((decide ((↑i:Int)>0))=true)→(ZLo ((↑i:Int) - 1))),(((decide ((↑i:Int)>0))=true)→(ZHi ((↑i:Int) - 1))),(AG (decide ((↑i:Int)>0))),(AG (decide ((↑i:Int)>0))),(((decide ((↑i:Int)>0))=true)→(IL 0 ((↑i:Int) - 1))),(((decide ((↑i:Int)>0))=true)→(IT ((↑i:Int) - 1) (↑nb:Int))),(AG (decide ((↑i:Int)>0))),(((decide ((↑i:Int)>0))=true)→(NT 0 1)),(AG (decide ((↑i:Int)>0))),(AG (decide ((↑i:Int)>0))),(AG (decide ((↑i:Int)>0))),(AG (!bif decide ((↑i:Int)>0) then (g ((↑i:Int) - 1).toNat).1==(g i).1&&((g ((↑i:Int) - 1).toNat).2.1==(g i).2.1&&true) else false)),(((!bif decide ((↑i:Int)>0) then (g ((↑i:Int) - 1).toNat).1==(g i).1&&((g ((↑i:Int) - 1).toNat).2.1==(g i).2.1&&true) else false)=true)→(NT 0 1)),(AG (!bif decide ((↑i:Int)>0) then (g ((↑i:Int) - 1).toNat).1==(g i).1&&((g ((↑i:Int) - 1).toNat).2.1==(g i).2.1&&true) else false)),(((!bif decide ((↑i:Int)>0) then (g ((↑i:Int) - 1).toNat).1==(g i).1&&((g ((↑i:Int) - 1).toNat).2.1==(g i).2.1&&true) else false)=true)→(NT 0 1)),(AG (!bif decide ((↑i:Int)>0) then (g ((↑i:Int) - 1).toNat).1==(g i).1&&((g ((↑i:Int) - 1).toNat).2.1==(g i).2.1&&true) else false)),(AG (!bif decide ((↑i:Int)>0) then (g ((↑i:Int) - 1).toNat).1==(g i).1&&((g ((↑i:Int) - 1).toNat).2.1==(g i).2.1&&true) else false)),(((!bif decide ((↑i:Int)>0) then (g ((↑i:Int) - 1).toNat).1==(g i).1&&((g ((↑i:Int) - 1).toNat).2.1==(g i).2.1&&true) else false)=true)→(IL 0 ((g i).1))),(((!bif decide ((↑i:Int)>0) then (g ((↑i:Int) - 1).toNat).1==(g i).1&&((g ((↑i:Int) - 1).toNat).2.1==(g i).2.1&&true) else false)=true)→(IT ((g i).1) (↑np:Int))),(AG (!bif decide ((↑i:Int)>0) then (g ((↑i:Int) - 1).toNat).1==(g i).1&&((g ((↑i:Int) - 1).toNat).2.1==(g i).2.1&&true) else false)),(AG (!bif decide ((↑i:Int)>0) then (g ((↑i:Int) - 1).toNat).1==(g i).1&&((g ((↑i:Int) - 1).toNat).2.1==(g i).2.1&&true) else false)),(((!bif decide ((↑i:Int)>0) then (g ((↑i:Int) - 1).toNat).1==(g i).1&&((g ((↑i:Int) - 1).toNat).2.1==(g i).2.1&&true) else false)=true)→(NT 0 1)),(AG (!bif decide ((↑i:Int)>0) then (g ((↑i:Int) - 1).toNat).1==(g i).1&&((g ((↑i:Int) - 1).toNat).2.1==(g i).2.1&&true) else false)),(((!bif decide ((↑i:Int)>0) then (g ((↑i:Int) - 1).toNat).1==(g i).1&&((g ((↑i:Int) - 1).toNat).2.1==(g i).2.1&&true) else false)=true)→(NT 0 1)),(AG (!bif decide ((↑i:Int)>0) then (g ((↑i:Int) - 1).toNat).1==(g i).1&&((g ((↑i:Int) - 1).toNat).2.1==(g i).2.1&&true) else false)),(AG (!bif decide ((↑i:Int)>0) then (g ((↑i:Int) - 1).toNat).1==(g i).1&&((g ((↑i:Int) - 1).toNat).2.1==(g i).2.1&&true) else false)),(((!bif decide ((↑i:Int)>0) then (g ((↑i:Int) - 1).toNat).1==(g i).1&&((g ((↑i:Int) - 1).toNat).2.1==(g i).2.1&&true) else false)=true)→(IL 0 ((g i).2.1))),(((!bif decide ((↑i:Int)>0) then (g ((↑i:Int) - 1).toNat).1==(g i).1&&((g ((↑i:Int) - 1).toNat).2.1==(g i).2.1&&true) else false)=true)→(IT ((g i).2.1) (↑np:Int))),(AG (!bif decide ((↑i:Int)>0) then (g ((↑i:Int) - 1).toNat).1==(g i).1&&((g ((↑i:Int) - 1).toNat).2.1==(g i).2.1&&true) else false)),(AG (!bif decide ((↑i:Int)>0) then (g ((↑i:Int) - 1).toNat).1==(g i).1&&((g ((↑i:Int) - 1).toNat).2.1==(g i).2.1&&true) else false)),(AG (!bif decide ((↑i:Int)>0) then (g ((↑i:Int) - 1).toNat).1==(g i).1&&((g ((↑i:Int) - 1).toNat).2.1==(g i).2.1&&true) else false)),(((bif decide ((↑i:Int)>0) then (g ((↑i:Int) - 1).toNat).1==(g i).1&&((g ((↑i:Int) - 1).toNat).2.1==(g i).2.1&&true) else false)=false)→ ((!bif decide ((↑i:Int)>0) then (g ((↑i:Int) - 1).toNat).1==(g i).1&&((g ((↑i:Int) - 1).toNat).2.1==(g i).2.1&&true) else false)=true)),((bif bif decide ((↑i:Int)>0) then (g ((↑i:Int) - 1).toNat).1==(g i).1&&((g ((↑i:Int) - 1).toNat).2.1==(g i).2.1&&true) else false then true else (pl (g i).1.toNat).1==(pl (g i).2.1.toNat).1&&((pl (g i).1.toNat).2.1==(pl (g i).2.1.toNat).2.1&&true))=true),(false=false)]:=by kernel_rfl
theorem yIe (g:Nat→T_Bar) (nb:Nat) (N:Int) (pl:Nat→T_Place) (np:Nat) (i:Nat) :
    pathOb Tryz.prog Tryz.f128 0 [rg 1,.dec false,rg 1] zf39 (FI1 g nb N pl np i) [] 1 [] (.p (.bool true)) =
    some [((decide ((↑i:Int)<(↑nb:Int)))=false),(true=true)]:=by kernel_rfl
theorem zI0 (g:Nat→T_Bar) (nb:Nat) (N:Int) (pl:Nat→T_Place) (np:Nat) (a:Bool) :
    pathOb Tryz.prog Tryz.f117 0 [rg 2,rm [(2,oc [] (.p (.bool a)))] 23,.dec true,rg 1] [.code (bodyOf Tryz.f117)] (start Tryz.f117 [] 0 [frA g nb N pl np]) [] 1 [] (.p (.bool false)) =
    some [(NT 0 1),Con Tryz.prog 53 0 [] [(zf97 N nb g)] [] (.p (.bool a)),(AG (!!a)),(AG (!!a)),(((!!a)=true)→(NT 0 1)),(AG (!!a)),(((!a)=false)→ ((!!a)=true)),(AG (!bif !a then true else decide (N>6))),(((!bif !a then true else decide (N>6))=true)→(NT 0 1)),(AG (!bif !a then true else decide (N>6))),(AG (!bif !a then true else decide (N>6))),(AG (!bif !a then true else decide (N>6))),(((!bif !a then true else decide (N>6))=true)→(NT 0 1)),(AG (!bif !a then true else decide (N>6))),(AG (!bif !a then true else decide (N>6))),(((bif !a then true else decide (N>6))=false)→ ((!bif !a then true else decide (N>6))=true)),(AG (!bif bif !a then true else decide (N>6) then true else (↑np:Int) != N)),(AG (!bif bif !a then true else decide (N>6) then true else (↑np:Int) != N)),(((!bif bif !a then true else decide (N>6) then true else (↑np:Int) != N)=true)→(NT 0 1)),(AG (!bif bif !a then true else decide (N>6) then true else (↑np:Int) != N)),(AG (!bif bif !a then true else decide (N>6) then true else (↑np:Int) != N)),(((bif bif !a then true else decide (N>6) then true else (↑np:Int) != N)=false)→ ((!bif bif !a then true else decide (N>6) then true else (↑np:Int) != N)=true)),((bif bif bif !a then true else decide (N>6) then true else (↑np:Int) != N then true else decide ((↑nb:Int)>15))=true),(false=false)]:=by kernel_rfl
theorem zIz (g:Nat→T_Bar) (nb:Nat) (N:Int) (pl:Nat→T_Place) (np:Nat) (a:Bool) :
    pieceOb Tryz.prog 0 [rg 2,rm [(2,oc [] (.p (.bool a)))] 23,.dec false,rg 1,.head] [.code (bodyOf Tryz.f117)] (start Tryz.f117 [] 0 [frA g nb N pl np]) [0] 1 (FJ0 g nb N pl np 0) =
    some (zf74,[(NT 0 1),Con Tryz.prog 53 0 [] [(zf97 N nb g)] [] (.p (.bool a)),(AG (!!a)),(AG (!!a)),(((!!a)=true)→(NT 0 1)),(AG (!!a)),(((!a)=false)→ ((!!a)=true)),(AG (!bif !a then true else decide (N>6))),(((!bif !a then true else decide (N>6))=true)→(NT 0 1)),(AG (!bif !a then true else decide (N>6))),(AG (!bif !a then true else decide (N>6))),(AG (!bif !a then true else decide (N>6))),(((!bif !a then true else decide (N>6))=true)→(NT 0 1)),(AG (!bif !a then true else decide (N>6))),(AG (!bif !a then true else decide (N>6))),(((bif !a then true else decide (N>6))=false)→ ((!bif !a then true else decide (N>6))=true)),(AG (!bif bif !a then true else decide (N>6) then true else (↑np:Int) != N)),(AG (!bif bif !a then true else decide (N>6) then true else (↑np:Int) != N)),(((!bif bif !a then true else decide (N>6) then true else (↑np:Int) != N)=true)→(NT 0 1)),(AG (!bif bif !a then true else decide (N>6) then true else (↑np:Int) != N)),(AG (!bif bif !a then true else decide (N>6) then true else (↑np:Int) != N)),(((bif bif !a then true else decide (N>6) then true else (↑np:Int) != N)=false)→ ((!bif bif !a then true else decide (N>6) then true else (↑np:Int) != N)=true)),((bif bif bif !a then true else decide (N>6) then true else (↑np:Int) != N then true else decide ((↑nb:Int)>15))=false),(AI N),(AN nb),(AP nb (fun i=>[.int .i64 ((g i).1),.int .i64 ((g i).2.1)])),(AN np),(AP np (fun i=>[.int .i64 ((pl i).1),.int .i64 ((pl i).2.1)])),(AN 0),((0:Int)=(↑0:Int)),((([AV.p (PV.int IntKind.i64 N),brL g nb,pcL pl np].length):Nat)=3),(NL 1 1),(NL 1 1),(AI N),(AN nb),(AP nb (fun i=>[.int .i64 ((g i).1),.int .i64 ((g i).2.1)])),(AN np),(AP np (fun i=>[.int .i64 ((pl i).1),.int .i64 ((pl i).2.1)]))]):=by kernel_rfl
theorem zIt (g:Nat→T_Bar) (nb:Nat) (N:Int) (pl:Nat→T_Place) (np:Nat) (i:Nat) (p q:Bool) :
    pieceOb Tryz.prog 0 [rg 5,.dec true,rm [(6,oc [] (.p (.bool p))),(8,oc [] (.p (.bool q)))] 2,.dec false,rg 3,.head] zf74 (FJ0 g nb N pl np i) [0] 1 (FJ0 g nb N pl np (i+1)) =
    some (zf74,[(NT 0 1),((decide ((↑i:Int)<(↑np:Int)))=true),(NT 0 1),(IL 0 (↑i:Int)),(IT (↑i:Int) (↑np:Int)),Con Tryz.prog 167 0 [] [.p (.int .i64 ((pl i).1)),.p (.int .i64 0),.p (.int .i64 4)] [] (.p (.bool p)),(AG (!!p)),(((!!p)=true)→(NT 0 1)),(AG (!!p)),(AG (!!p)),(((!!p)=true)→(IL 0 (↑i:Int))),(((!!p)=true)→(IT (↑i:Int) (↑np:Int))),(AG (!!p)),(AG (!!p)),(AG (!!p)),(((!!p)=true)→ Con Tryz.prog 167 0 [] [.p (.int .i64 ((pl i).2.1)),.p (.int .i64 0),.p (.int .i64 4)] [] (.p (.bool q))),(AG (!!p)),(((!p)=false)→ ((!!p)=true)),((bif !p then true else !q)=false),(ZLo ((↑i:Int)+1)),(ZHi ((↑i:Int)+1)),(AI N),(AN nb),(AP nb (fun i_1=>[.int .i64 ((g i_1).1),.int .i64 ((g i_1).2.1)])),(AN np),(AP np (fun i_1=>[.int .i64 ((pl i_1).1),.int .i64 ((pl i_1).2.1)])),(AN 0),((((↑i:Int)+1):Int)=(↑(i+1):Int)),(AN 3),(NL 1 1),(NL 1 1),(AI N),(AN nb),(AP nb (fun i_1=>[.int .i64 ((g i_1).1),.int .i64 ((g i_1).2.1)])),(AN np),(AP np (fun i_1=>[.int .i64 ((pl i_1).1),.int .i64 ((pl i_1).2.1)]))]):=by kernel_rfl
theorem zIx (g:Nat→T_Bar) (nb:Nat) (N:Int) (pl:Nat→T_Place) (np:Nat) (i:Nat) (p q:Bool) :
    pathOb Tryz.prog Tryz.f117 0 [rg 5,.dec true,rm [(6,oc [] (.p (.bool p))),(8,oc [] (.p (.bool q)))] 2,.dec true,rg 1] zf74 (FJ0 g nb N pl np i) [] 1 [] (.p (.bool false)) =
    some [(NT 0 1),((decide ((↑i:Int)<(↑np:Int)))=true),(NT 0 1),(IL 0 (↑i:Int)),(IT (↑i:Int) (↑np:Int)),Con Tryz.prog 167 0 [] [.p (.int .i64 ((pl i).1)),.p (.int .i64 0),.p (.int .i64 4)] [] (.p (.bool p)),(AG (!!p)),(((!!p)=true)→(NT 0 1)),(AG (!!p)),(AG (!!p)),(((!!p)=true)→(IL 0 (↑i:Int))),(((!!p)=true)→(IT (↑i:Int) (↑np:Int))),(AG (!!p)),(AG (!!p)),(AG (!!p)),(((!!p)=true)→ Con Tryz.prog 167 0 [] [.p (.int .i64 ((pl i).2.1)),.p (.int .i64 0),.p (.int .i64 4)] [] (.p (.bool q))),(AG (!!p)),(((!p)=false)→ ((!!p)=true)),((bif !p then true else !q)=true),(false=false)]:=by kernel_rfl
theorem zIn (g:Nat→T_Bar) (nb:Nat) (N:Int) (pl:Nat→T_Place) (np:Nat) (i:Nat) :
    pieceOb Tryz.prog 0 [rg 5,.dec false,rg 1,.head] zf74 (FJ0 g nb N pl np i) [0] 1 (FJ1 g nb N pl np 0) =
    some (zf54,[(NT 0 1),((decide ((↑i:Int)<(↑np:Int)))=false),(AI N),(AN nb),(AP nb (fun i_1=>[.int .i64 ((g i_1).1),.int .i64 ((g i_1).2.1)])),(AN np),(AP np (fun i_1=>[.int .i64 ((pl i_1).1),.int .i64 ((pl i_1).2.1)])),(AN 0),((0:Int)=(↑0:Int)),(AN 3),(NL 1 1),(NL 1 1),(AI N),(AN nb),(AP nb (fun i_1=>[.int .i64 ((g i_1).1),.int .i64 ((g i_1).2.1)])),(AN np),(AP np (fun i_1=>[.int .i64 ((pl i_1).1),.int .i64 ((pl i_1).2.1)]))]):=by kernel_rfl
theorem zIb (g:Nat→T_Bar) (nb:Nat) (N:Int) (pl:Nat→T_Place) (np:Nat) (i:Nat) :
    pieceOb Tryz.prog 0 [rg 6,.dec true,rg 8,rg 28,.dec false,rg 3,.head] zf54 (FJ1 g nb N pl np i) [0] 1 (FJ1 g nb N pl np (i+1)) =
    some (zf54,[(NT 0 1),((decide ((↑i:Int)<(↑nb:Int)))=true),(NT 0 1),(IL 0 (↑i:Int)),(IT (↑i:Int) (↑nb:Int)),(NT 0 1),((true=true)→ (AN 1)),(NT 0 1),(NT 0 1),(IL 0 ((g i).1)),(IT ((g i).1) (↑np:Int)),(NT 0 1),(NT 0 1),(IL 0 ((g i).2.1)),(IT ((g i).2.1) (↑np:Int)),(AG (!((pl (g i).1.toNat).1==(pl (g i).2.1.toNat).1&&((pl (g i).1.toNat).2.1==(pl (g i).2.1.toNat).2.1&&true)))),(AG (!((pl (g i).1.toNat).1==(pl (g i).2.1.toNat).1&&((pl (g i).1.toNat).2.1==(pl (g i).2.1.toNat).2.1&&true)))),(AG (!((pl (g i).1.toNat).1==(pl (g i).2.1.toNat).1&&((pl (g i).1.toNat).2.1==(pl (g i).2.1.toNat).2.1&&true))&&decide ((↑i:Int)>0))),(AG (!((pl (g i).1.toNat).1==(pl (g i).2.1.toNat).1&&((pl (g i).1.toNat).2.1==(pl (g i).2.1.toNat).2.1&&true))&&decide ((↑i:Int)>0))),(((!((pl (g i).1.toNat).1==(pl (g i).2.1.toNat).1&&((pl (g i).1.toNat).2.1==(pl (g i).2.1.toNat).2.1&&true))&&decide ((↑i:Int)>0))=true)→(NT 0 1)),(AG (!((pl (g i).1.toNat).1==(pl (g i).2.1.toNat).1&&((pl (g i).1.toNat).2.1==(pl (g i).2.1.toNat).2.1&&true))&&decide ((↑i:Int)>0))),(((!((pl (g i).1.toNat).1==(pl (g i).2.1.toNat).1&&((pl (g i).1.toNat).2.1==(pl (g i).2.1.toNat).2.1&&true))&&decide ((↑i:Int)>0))=true)→(ZLo ((↑i:Int) - 1))),(((!((pl (g i).1.toNat).1==(pl (g i).2.1.toNat).1&&((pl (g i).1.toNat).2.1==(pl (g i).2.1.toNat).2.1&&true))&&decide ((↑i:Int)>0))=true)→(ZHi ((↑i:Int) - 1))),(AG (!((pl (g i).1.toNat).1==(pl (g i).2.1.toNat).1&&((pl (g i).1.toNat).2.1==(pl (g i).2.1.toNat).2.1&&true))&&decide ((↑i:Int)>0))),(AG (!((pl (g i).1.toNat).1==(pl (g i).2.1.toNat).1&&((pl (g i).1.toNat).2.1==(pl (g i).2.1.toNat).2.1&&true))&&decide ((↑i:Int)>0))),(((!((pl (g i).1.toNat).1==(pl (g i).2.1.toNat).1&&((pl (g i).1.toNat).2.1==(pl (g i).2.1.toNat).2.1&&true))&&decide ((↑i:Int)>0))=true)→(IL 0 ((↑i:Int) - 1))),(((!((pl (g i).1.toNat).1==(pl (g i).2.1.toNat).1&&((pl (g i).1.toNat).2.1==(pl (g i).2.1.toNat).2.1&&true))&&decide ((↑i:Int)>0))=true)→(IT ((↑i:Int) - 1) (↑nb:Int))),(AG (!((pl (g i).1.toNat).1==(pl (g i).2.1.toNat).1&&((pl (g i).1.toNat).2.1==(pl (g i).2.1.toNat).2.1&&true))&&decide ((↑i:Int)>0))),(((!((pl (g i).1.toNat).1==(pl (g i).2.1.toNat).1&&((pl (g i).1.toNat).2.1==(pl (g i).2.1.toNat).2.1&&true))&&decide ((↑i:Int)>0))=true)→(NT 0 1)),(AG (!((pl (g i).1.toNat).1==(pl (g i).2.1.toNat).1&&((pl (g i).1.toNat).2.1==(pl (g i).2.1.toNat).2.1&&true))&&decide ((↑i:Int)>0))),(AG (!((pl (g i).1.toNat).1==(pl (g i).2.1.toNat).1&&((pl (g i).1.toNat).2.1==(pl (g i).2.1.toNat).2.1&&true))&&decide ((↑i:Int)>0))),(AG (!((pl (g i).1.toNat).1==(pl (g i).2.1.toNat).1&&((pl (g i).1.toNat).2.1==(pl (g i).2.1.toNat).2.1&&true)))),(((!((pl (g i).1.toNat).1==(pl (g i).2.1.toNat).1&&((pl (g i).1.toNat).2.1==(pl (g i).2.1.toNat).2.1&&true)))=true)→(((decide ((↑i:Int)>0))=true)→ ((!((pl (g i).1.toNat).1==(pl (g i).2.1.toNat).1&&((pl (g i).1.toNat).2.1==(pl (g i).2.1.toNat).2.1&&true))&&decide ((↑i:Int)>0))=true))),((((pl (g i).1.toNat).1==(pl (g i).2.1.toNat).1&&((pl (g i).1.toNat).2.1==(pl (g i).2.1.toNat).2.1&&true))=false)→ ((!((pl (g i).1.toNat).1==(pl (g i).2.1.toNat).1&&((pl (g i).1.toNat).2.1==(pl (g i).2.1.toNat).2.1&&true)))=true)),((bif (pl (g i).1.toNat).1==(pl (g i).2.1.toNat).1&&((pl (g i).1.toNat).2.1==(pl (g i).2.1.toNat).2.1&&true) then true else bif decide ((↑i:Int)>0) then (g ((↑i:Int) - 1).toNat).1==(g i).1&&((g ((↑i:Int) - 1).toNat).2.1==(g i).2.1&&true) else false)=false),(ZLo ((↑i:Int)+1)),(ZHi ((↑i:Int)+1)),(AI N),(AN nb),(AP nb (fun i_1=>[.int .i64 ((g i_1).1),.int .i64 ((g i_1).2.1)])),(AN np),(AP np (fun i_1=>[.int .i64 ((pl i_1).1),.int .i64 ((pl i_1).2.1)])),(AN 0),((((↑i:Int)+1):Int)=(↑(i+1):Int)),(AN 3),(NL 1 1),(NL 1 1),(AI N),(AN nb),(AP nb (fun i_1=>[.int .i64 ((g i_1).1),.int .i64 ((g i_1).2.1)])),(AN np),(AP np (fun i_1=>[.int .i64 ((pl i_1).1),.int .i64 ((pl i_1).2.1)]))]):=by kernel_rfl
theorem zIy (g:Nat→T_Bar) (nb:Nat) (N:Int) (pl:Nat→T_Place) (np:Nat) (i:Nat) :
    pathOb Tryz.prog Tryz.f117 0 [rg 6,.dec true,rg 8,rg 28,.dec true,rg 1] zf54 (FJ1 g nb N pl np i) [] 1 [] (.p (.bool false)) =
    some [(NT 0 1),((decide ((↑i:Int)<(↑nb:Int)))=true),(NT 0 1),(IL 0 (↑i:Int)),(IT (↑i:Int) (↑nb:Int)),(NT 0 1),((true=true)→ (AN 1)),(NT 0 1),(NT 0 1),(IL 0 ((g i).1)),(IT ((g i).1) (↑np:Int)),(NT 0 1),(NT 0 1),(IL 0 ((g i).2.1)),(IT ((g i).2.1) (↑np:Int)),(AG (!((pl (g i).1.toNat).1==(pl (g i).2.1.toNat).1&&((pl (g i).1.toNat).2.1==(pl (g i).2.1.toNat).2.1&&true)))),(AG (!((pl (g i).1.toNat).1==(pl (g i).2.1.toNat).1&&((pl (g i).1.toNat).2.1==(pl (g i).2.1.toNat).2.1&&true)))),(AG (!((pl (g i).1.toNat).1==(pl (g i).2.1.toNat).1&&((pl (g i).1.toNat).2.1==(pl (g i).2.1.toNat).2.1&&true))&&decide ((↑i:Int)>0))),(AG (!((pl (g i).1.toNat).1==(pl (g i).2.1.toNat).1&&((pl (g i).1.toNat).2.1==(pl (g i).2.1.toNat).2.1&&true))&&decide ((↑i:Int)>0))),(((!((pl (g i).1.toNat).1==(pl (g i).2.1.toNat).1&&((pl (g i).1.toNat).2.1==(pl (g i).2.1.toNat).2.1&&true))&&decide ((↑i:Int)>0))=true)→(NT 0 1)),(AG (!((pl (g i).1.toNat).1==(pl (g i).2.1.toNat).1&&((pl (g i).1.toNat).2.1==(pl (g i).2.1.toNat).2.1&&true))&&decide ((↑i:Int)>0))),(((!((pl (g i).1.toNat).1==(pl (g i).2.1.toNat).1&&((pl (g i).1.toNat).2.1==(pl (g i).2.1.toNat).2.1&&true))&&decide ((↑i:Int)>0))=true)→(ZLo ((↑i:Int) - 1))),(((!((pl (g i).1.toNat).1==(pl (g i).2.1.toNat).1&&((pl (g i).1.toNat).2.1==(pl (g i).2.1.toNat).2.1&&true))&&decide ((↑i:Int)>0))=true)→(ZHi ((↑i:Int) - 1))),(AG (!((pl (g i).1.toNat).1==(pl (g i).2.1.toNat).1&&((pl (g i).1.toNat).2.1==(pl (g i).2.1.toNat).2.1&&true))&&decide ((↑i:Int)>0))),(AG (!((pl (g i).1.toNat).1==(pl (g i).2.1.toNat).1&&((pl (g i).1.toNat).2.1==(pl (g i).2.1.toNat).2.1&&true))&&decide ((↑i:Int)>0))),(((!((pl (g i).1.toNat).1==(pl (g i).2.1.toNat).1&&((pl (g i).1.toNat).2.1==(pl (g i).2.1.toNat).2.1&&true))&&decide ((↑i:Int)>0))=true)→(IL 0 ((↑i:Int) - 1))),(((!((pl (g i).1.toNat).1==(pl (g i).2.1.toNat).1&&((pl (g i).1.toNat).2.1==(pl (g i).2.1.toNat).2.1&&true))&&decide ((↑i:Int)>0))=true)→(IT ((↑i:Int) - 1) (↑nb:Int))),(AG (!((pl (g i).1.toNat).1==(pl (g i).2.1.toNat).1&&((pl (g i).1.toNat).2.1==(pl (g i).2.1.toNat).2.1&&true))&&decide ((↑i:Int)>0))),(((!((pl (g i).1.toNat).1==(pl (g i).2.1.toNat).1&&((pl (g i).1.toNat).2.1==(pl (g i).2.1.toNat).2.1&&true))&&decide ((↑i:Int)>0))=true)→(NT 0 1)),(AG (!((pl (g i).1.toNat).1==(pl (g i).2.1.toNat).1&&((pl (g i).1.toNat).2.1==(pl (g i).2.1.toNat).2.1&&true))&&decide ((↑i:Int)>0))),(AG (!((pl (g i).1.toNat).1==(pl (g i).2.1.toNat).1&&((pl (g i).1.toNat).2.1==(pl (g i).2.1.toNat).2.1&&true))&&decide ((↑i:Int)>0))),(AG (!((pl (g i).1.toNat).1==(pl (g i).2.1.toNat).1&&((pl (g i).1.toNat).2.1==(pl (g i).2.1.toNat).2.1&&true)))),(((!((pl (g i).1.toNat).1==(pl (g i).2.1.toNat).1&&((pl (g i).1.toNat).2.1==(pl (g i).2.1.toNat).2.1&&true)))=true)→(((decide ((↑i:Int)>0))=true)→ ((!((pl (g i).1.toNat).1==(pl (g i).2.1.toNat).1&&((pl (g i).1.toNat).2.1==(pl (g i).2.1.toNat).2.1&&true))&&decide ((↑i:Int)>0))=true))),((((pl (g i).1.toNat).1==(pl (g i).2.1.toNat).1&&((pl (g i).1.toNat).2.1==(pl (g i).2.1.toNat).2.1&&true))=false)→ ((!((pl (g i).1.toNat).1==(pl (g i).2.1.toNat).1&&((pl (g i).1.toNat).2.1==(pl (g i).2.1.toNat).2.1&&true)))=true)),((bif (pl (g i).1.toNat).1==(pl (g i).2.1.toNat).1&&((pl (g i).1.toNat).2.1==(pl (g i).2.1.toNat).2.1&&true) then true else bif decide ((↑i:Int)>0) then (g ((↑i:Int) - 1).toNat).1==(g i).1&&((g ((↑i:Int) - 1).toNat).2.1==(g i).2.1&&true) else false)=true),(false=false)]:=by kernel_rfl
theorem zIe (g:Nat→T_Bar) (nb:Nat) (N:Int) (pl:Nat→T_Place) (np:Nat) (i:Nat) :
    pathOb Tryz.prog Tryz.f117 0 [rg 6,.dec false,rg 1] zf54 (FJ1 g nb N pl np i) [] 1 [] (.p (.bool true)) =
    some [(NT 0 1),((decide ((↑i:Int)<(↑nb:Int)))=false),(true=true)]:=by kernel_rfl
end Go.Proofs.YtkkjoghiigiokaaGreat.Mach
namespace Go.Proofs.YtkkjoghiigiokaaGreat.Mach
open Go
set_option linter.unusedVariables false
set_option linter.unusedSimpArgs false
def allB (p:Nat→Bool):Nat→Bool
  | 0=>true
  | n+1=>allB p n&&p n
theorem all_iff (p:Nat→Bool):∀ n,allB p n=true↔∀ i,i<n→p i=true
  | 0=>by simp [allB]
  | n+1=>by
    rw [allB,Bool.and_eq_true,all_iff p n]
    constructor
    · rintro ⟨h1,h2⟩ i hi
      by_cases h:i=n
      · rw [h];exact h2
      · exact h1 i (by omega)
    · intro h;exact ⟨fun i hi=>h i (by omega),h n (by omega)⟩
theorem all_no {p:Nat→Bool} {n i:Nat} (hi:i<n) (h:p i=false):allB p n=false:=by
  cases hb:allB p n with
  | false=>rfl
  | true=>rw [(all_iff p n).1 hb i hi] at h;cases h
def plP (pl:Nat→T_Place) (i:Nat):Bool:=bif inB (pl i).1 0 4 then inB (pl i).2.1 0 4 else false
def eA (g:Nat→T_Bar) (i:Nat):Bool:=(g ((i:Int) - 1).toNat).1==(g i).1&&((g ((i:Int) - 1).toNat).2.1==(g i).2.1&&true)
def eB (g:Nat→T_Bar) (pl:Nat→T_Place) (i:Nat):Bool:=(pl (g i).1.toNat).1==(pl (g i).2.1.toNat).1&&((pl (g i).1.toNat).2.1==(pl (g i).2.1.toNat).2.1&&true)
def brP (g:Nat→T_Bar) (pl:Nat→T_Place) (i:Nat):Bool:=!(bif bif decide ((i:Int)>0) then eA g i else false then true else eB g pl i)
def fwB (g:Nat→T_Bar) (nb:Nat) (N:Int) (pl:Nat→T_Place) (np:Nat):Bool :=
  (isG g nb N&&(decide (N≤6)&&(decide (nb≤15)&&decide ((np:Int)=N))))&&(allB (plP pl) np&&allB (brP g pl) nb)
theorem con_isPlace (pl:Nat→T_Place) (i:Nat):Con Tryz.prog 233 0 [] [.agg [.p (.int .i64 (pl i).1),.p (.int .i64 (pl i).2.1)]] [] (.p (.bool (plP pl i))):=by
  have h1:=con_within (pl i).1 0 4
  have h2:=con_within (pl i).2.1 0 4
  refine con_start Tryz.func233 rfl (by kernel_rfl) rfl (fun c hc=>?_)
  refine path_ok mixed Tryz.func233 hc (yPl (pl i).1 (pl i).2.1 (inB (pl i).1 0 4) (inB (pl i).2.1 0 4)) ?_
  repeat' (first | exact aN | apply aI)
  all_goals (first | exact aG _ | omega | rfl | (intros;first | assumption | exact trivial | rfl | exact fT ‹_› | ((repeat' (first | assumption | apply anda | apply notf));done)) | (exact h1) | (intro _;exact h2) | rfl)
theorem con_IsFramework_i (g:Nat→T_Bar) (nb:Nat) (N:Int) (pl:Nat→T_Place) (np:Nat) (hn:nb≤1048576∧np≤1048576):Con Tryz.prog 128 0 [] [frA g nb N pl np] [] (.p (.bool (fwB g nb N pl np))):=by
  have hg:=con_IsGraph_i (N,(nb,g),()) (smG g nb N hn.1)
  change Con Tryz.prog 62 0 [] [gzA g nb N] [] (.p (.bool (isG g nb N))) at hg
  refine con_start Tryz.func128 rfl (by kernel_rfl) rfl (fun c hc=>?_)
  have hcond:(bif bif bif !(isG g nb N) then true else decide (N>6) then true else decide ((nb:Int)>15) then true else (np:Int) != N)=!(isG g nb N&&(decide (N≤6)&&(decide (nb≤15)&&decide ((np:Int)=N)))):=by
    rw [Bool.eq_iff_iff]
    cases isG g nb N with
    | false=>simp
    | true =>
      simp
      omega
  cases h0:(isG g nb N&&(decide (N≤6)&&(decide (nb≤15)&&decide ((np:Int)=N)))) with
  | false =>
    rw [h0] at hcond
    rw [show fwB g nb N pl np=false by unfold fwB;rw [h0];rfl]
    refine path_ok mixed Tryz.func128 hc (yI0 g nb N pl np (isG g nb N)) ?_
    repeat' (first | exact aN | apply aI)
    all_goals (first | exact aG _ | omega | rfl | (intros;first | assumption | exact trivial | rfl | exact fT ‹_› | ((repeat' (first | assumption | apply anda | apply notf));done)) | (exact hg) | (exact hcond) | (simp;done))
  | true =>
    rw [h0] at hcond
    rw [show fwB g nb N pl np=(allB (plP pl) np&&allB (brP g pl) nb) by unfold fwB;rw [h0];rfl]
    simp only [Bool.and_eq_true,decide_eq_true_eq] at h0
    obtain ⟨hN,hnb,hok⟩:=isG_in h0.1
    have l1:∀ d i,i+d=nb→allB (plP pl) np=true→allB (brP g pl) i=true→Run Tryz.prog c 128 zf39 (FI1 g nb N pl np i) (Post c [] (.p (.bool (allB (plP pl) np&&allB (brP g pl) nb)))):=by
      intro d
      induction d with
      | zero =>
        intro i hi h1 h2
        obtain rfl:i=nb:=by omega
        have hd:decide ((i:Int)<(i:Int))=false:=by simp
        rw [h1,h2]
        refine path_ok mixed Tryz.func128 hc (yIe g i N pl np i) ?_
        repeat' (first | exact aN | apply aI)
        all_goals (first | omega | rfl | (intros;first | assumption | exact trivial | rfl | exact fT ‹_› | ((repeat' (first | assumption | apply anda | apply notf));done)) | (exact hd) | rfl)
      | succ d ih =>
        intro i hi h1 h2
        have hd:decide ((i:Int)<(nb:Int))=true:=decide_eq_true (by omega)
        have hbar:=hok i (by omega)
        cases hb:brP g pl i with
        | true =>
          have hrec:=ih (i+1) (by omega) h1 (by rw [allB,h2,hb];rfl)
          have hx:(bif bif decide ((i:Int)>0) then eA g i else false then true else eB g pl i)=!(brP g pl i):=(Bool.not_not _).symm
          rw [hb] at hx
          refine piece_ok mixed hc (yIb g nb N pl np i) ?_ hrec
          repeat' (first | exact aN | apply aI)
          all_goals (first | exact aG _ | exact aP _ _ | omega | rfl | (intros;first | assumption | exact trivial | rfl | exact fT ‹_› | ((repeat' (first | assumption | apply anda | apply notf));done)) | (exact hd) | (exact hx) | (intro h;have:=of_decide_eq_true h;omega) | (intro _;omega) | (simp;done) | (simp;omega))
        | false =>
          rw [all_no (show i<nb by omega) hb,Bool.and_false]
          have hx:(bif bif decide ((i:Int)>0) then eA g i else false then true else eB g pl i)=!(brP g pl i):=(Bool.not_not _).symm
          rw [hb] at hx
          refine path_ok mixed Tryz.func128 hc (yIy g nb N pl np i) ?_
          repeat' (first | exact aN | apply aI)
          all_goals (first | exact aG _ | omega | rfl | (intros;first | assumption | exact trivial | rfl | exact fT ‹_› | ((repeat' (first | assumption | apply anda | apply notf));done)) | (exact hd) | (exact hx) | (intro h;have:=of_decide_eq_true h;omega) | (intro _;omega) | (simp;done) | (simp;omega))
    have l0:∀ d i,i+d=np→allB (plP pl) i=true→Run Tryz.prog c 128 zf53 (FI0 g nb N pl np i) (Post c [] (.p (.bool (allB (plP pl) np&&allB (brP g pl) nb)))):=by
      intro d
      induction d with
      | zero =>
        intro i hi h1
        obtain rfl:i=np:=by omega
        have hd:decide ((i:Int)<(i:Int))=false:=by simp
        refine piece_ok mixed hc (yIn g nb N pl i i) ?_ (l1 nb 0 (by omega) h1 rfl)
        repeat' (first | exact aN | apply aI)
        all_goals (first | exact aP _ _ | omega | rfl | (intros;first | assumption | exact trivial | rfl | exact fT ‹_› | ((repeat' (first | assumption | apply anda | apply notf));done)) | (exact hd) | (simp;done) | (simp;omega))
      | succ d ih =>
        intro i hi h1
        have hd:decide ((i:Int)<(np:Int))=true:=decide_eq_true (by omega)
        have hp:=con_isPlace pl i
        cases hb:plP pl i with
        | true =>
          rw [hb] at hp
          have hrec:=ih (i+1) (by omega) (by rw [allB,h1,hb];rfl)
          refine piece_ok mixed hc (yIt g nb N pl np i) ?_ hrec
          repeat' (first | exact aN | apply aI)
          all_goals (first | exact aP _ _ | omega | rfl | (intros;first | assumption | exact trivial | rfl | exact fT ‹_› | ((repeat' (first | assumption | apply anda | apply notf));done)) | (exact hd) | (exact hp) | rfl | (simp;done) | (simp;omega))
        | false =>
          rw [hb] at hp
          rw [all_no (show i<np by omega) hb,Bool.false_and]
          refine path_ok mixed Tryz.func128 hc (yIx g nb N pl np i) ?_
          repeat' (first | exact aN | apply aI)
          all_goals (first | omega | rfl | (intros;first | assumption | exact trivial | rfl | exact fT ‹_› | ((repeat' (first | assumption | apply anda | apply notf));done)) | (exact hd) | (exact hp) | rfl | (simp;done) | (simp;omega))
    refine piece_ok mixed hc (yIz g nb N pl np (isG g nb N)) ?_ (l0 np 0 (by omega) rfl)
    repeat' (first | exact aN | apply aI)
    all_goals (first | exact aG _ | exact aP _ _ | omega | rfl | (intros;first | assumption | exact trivial | rfl | exact fT ‹_› | ((repeat' (first | assumption | apply anda | apply notf));done)) | (exact hg) | (exact hcond) | (simp;done))
theorem con_IsFramework_s (g:Nat→T_Bar) (nb:Nat) (N:Int) (pl:Nat→T_Place) (np:Nat) (hn:nb≤1048576∧np≤1048576):Con Tryz.prog 117 0 [] [frA g nb N pl np] [] (.p (.bool (fwB g nb N pl np))):=by
  have hg:=con_IsGraph_s (N,(nb,g),()) (smG g nb N hn.1)
  change Con Tryz.prog 53 0 [] [gzA g nb N] [] (.p (.bool (isG g nb N))) at hg
  refine con_start Tryz.func117 rfl (by kernel_rfl) rfl (fun c hc=>?_)
  have hcond:(bif bif bif !(isG g nb N) then true else decide (N>6) then true else (np:Int) != N then true else decide ((nb:Int)>15))=!(isG g nb N&&(decide (N≤6)&&(decide (nb≤15)&&decide ((np:Int)=N)))):=by
    rw [Bool.eq_iff_iff]
    cases isG g nb N with
    | false=>simp
    | true =>
      simp
      omega
  cases h0:(isG g nb N&&(decide (N≤6)&&(decide (nb≤15)&&decide ((np:Int)=N)))) with
  | false =>
    rw [h0] at hcond
    rw [show fwB g nb N pl np=false by unfold fwB;rw [h0];rfl]
    refine path_ok mixed Tryz.func117 hc (zI0 g nb N pl np (isG g nb N)) ?_
    repeat' (first | exact aN | apply aI)
    all_goals (first | exact aG _ | omega | rfl | (intros;first | assumption | exact trivial | rfl | exact fT ‹_› | ((repeat' (first | assumption | apply anda | apply notf));done)) | (exact hg) | (exact hcond) | (simp;done))
  | true =>
    rw [h0] at hcond
    rw [show fwB g nb N pl np=(allB (plP pl) np&&allB (brP g pl) nb) by unfold fwB;rw [h0];rfl]
    simp only [Bool.and_eq_true,decide_eq_true_eq] at h0
    obtain ⟨hN,hnb,hok⟩:=isG_in h0.1
    have hsw:∀ i,(bif eB g pl i then true else bif decide ((i:Int)>0) then eA g i else false)=!(brP g pl i):=by
      intro i
      unfold brP
      cases eB g pl i<;>cases eA g i<;>cases decide ((i:Int)>0)<;>rfl
    have l1:∀ d i,i+d=nb→allB (plP pl) np=true→allB (brP g pl) i=true→Run Tryz.prog c 117 zf54 (FJ1 g nb N pl np i) (Post c [] (.p (.bool (allB (plP pl) np&&allB (brP g pl) nb)))):=by
      intro d
      induction d with
      | zero =>
        intro i hi h1 h2
        obtain rfl:i=nb:=by omega
        have hd:decide ((i:Int)<(i:Int))=false:=by simp
        rw [h1,h2]
        refine path_ok mixed Tryz.func117 hc (zIe g i N pl np i) ?_
        repeat' (first | exact aN | apply aI)
        all_goals (first | omega | rfl | (intros;first | assumption | exact trivial | rfl | exact fT ‹_› | ((repeat' (first | assumption | apply anda | apply notf));done)) | (exact hd) | rfl)
      | succ d ih =>
        intro i hi h1 h2
        have hd:decide ((i:Int)<(nb:Int))=true:=decide_eq_true (by omega)
        have hbar:=hok i (by omega)
        have hx:=hsw i
        cases hb:brP g pl i with
        | true =>
          have hrec:=ih (i+1) (by omega) h1 (by rw [allB,h2,hb];rfl)
          rw [hb] at hx
          refine piece_ok mixed hc (zIb g nb N pl np i) ?_ hrec
          repeat' (first | exact aN | apply aI)
          all_goals (first | exact aG _ | exact aP _ _ | omega | rfl | (intros;first | assumption | exact trivial | rfl | exact fT ‹_› | ((repeat' (first | assumption | apply anda | apply notf));done)) | (exact hd) | (exact hx) | (intro h;simp only [Bool.and_eq_true,decide_eq_true_eq] at h;omega) | (intro h1 h2;rw [h1,h2];rfl) | (intro h;rw [h];rfl) | (simp;done) | (simp;omega))
        | false =>
          rw [all_no (show i<nb by omega) hb,Bool.and_false]
          rw [hb] at hx
          refine path_ok mixed Tryz.func117 hc (zIy g nb N pl np i) ?_
          repeat' (first | exact aN | apply aI)
          all_goals (first | exact aG _ | omega | rfl | (intros;first | assumption | exact trivial | rfl | exact fT ‹_› | ((repeat' (first | assumption | apply anda | apply notf));done)) | (exact hd) | (exact hx) | (intro h;simp only [Bool.and_eq_true,decide_eq_true_eq] at h;omega) | (intro h1 h2;rw [h1,h2];rfl) | (intro h;rw [h];rfl) | (simp;done) | (simp;omega))
    have l0:∀ d i,i+d=np→allB (plP pl) i=true→Run Tryz.prog c 117 zf74 (FJ0 g nb N pl np i) (Post c [] (.p (.bool (allB (plP pl) np&&allB (brP g pl) nb)))):=by
      intro d
      induction d with
      | zero =>
        intro i hi h1
        obtain rfl:i=np:=by omega
        have hd:decide ((i:Int)<(i:Int))=false:=by simp
        refine piece_ok mixed hc (zIn g nb N pl i i) ?_ (l1 nb 0 (by omega) h1 rfl)
        repeat' (first | exact aN | apply aI)
        all_goals (first | exact aP _ _ | omega | rfl | (intros;first | assumption | exact trivial | rfl | exact fT ‹_› | ((repeat' (first | assumption | apply anda | apply notf));done)) | (exact hd) | (simp;done) | (simp;omega))
      | succ d ih =>
        intro i hi h1
        have hd:decide ((i:Int)<(np:Int))=true:=decide_eq_true (by omega)
        have p1:=con_l1In (pl i).1 0 4
        have p2:=con_l1In (pl i).2.1 0 4
        have hx:(bif !(inB (pl i).1 0 4) then true else !(inB (pl i).2.1 0 4))=!(plP pl i):=by
          unfold plP
          cases inB (pl i).1 0 4<;>rfl
        cases hb:plP pl i with
        | true =>
          rw [hb] at hx
          have hrec:=ih (i+1) (by omega) (by rw [allB,h1,hb];rfl)
          refine piece_ok mixed hc (zIt g nb N pl np i (inB (pl i).1 0 4) (inB (pl i).2.1 0 4)) ?_ hrec
          repeat' (first | exact aN | apply aI)
          all_goals (first | exact aG _ | exact aP _ _ | omega | rfl | (intros;first | assumption | exact trivial | rfl | exact fT ‹_› | ((repeat' (first | assumption | apply anda | apply notf));done)) | (exact hd) | (exact p1) | (intro _;exact p2) | (exact hx) | (intro h;rw [h];rfl) | (simp;done) | (intro _;omega) | (simp;omega))
        | false =>
          rw [hb] at hx
          rw [all_no (show i<np by omega) hb,Bool.false_and]
          refine path_ok mixed Tryz.func117 hc (zIx g nb N pl np i (inB (pl i).1 0 4) (inB (pl i).2.1 0 4)) ?_
          repeat' (first | exact aN | apply aI)
          all_goals (first | exact aG _ | omega | rfl | (intros;first | assumption | exact trivial | rfl | exact fT ‹_› | ((repeat' (first | assumption | apply anda | apply notf));done)) | (exact hd) | (exact p1) | (intro _;exact p2) | (exact hx) | (intro h;rw [h];rfl) | (simp;done) | (intro _;omega) | (simp;omega))
    refine piece_ok mixed hc (zIz g nb N pl np (isG g nb N)) ?_ (l0 np 0 (by omega) rfl)
    repeat' (first | exact aN | apply aI)
    all_goals (first | exact aG _ | exact aP _ _ | omega | rfl | (intros;first | assumption | exact trivial | rfl | exact fT ‹_› | ((repeat' (first | assumption | apply anda | apply notf));done)) | (exact hg) | (exact hcond) | (simp;done))
end Go.Proofs.YtkkjoghiigiokaaGreat.Mach
namespace Go.Proofs.YtkkjoghiigiokaaGreat.Mach
open Go
set_option linter.unusedVariables false
set_option linter.unusedSimpArgs false
theorem aft_or (a b:T_Bar):aft a b=true↔a.1<b.1∨(a.1=b.1∧a.2.1≤b.2.1):=by
  unfold aft
  by_cases h1:a.1<b.1
  · simp [h1]
  · by_cases h2:a.1=b.1
    · simp [h2]
    · have:(a.1==b.1)=false:=beq_eq_false_iff_ne.2 h2
      simp [h1,h2]
def AscB (n:Nat) (h:Nat→T_Bar):Prop:=∀ s,s+1<n→aft (h s) (h (s+1))=true
theorem bad_parts {N:Int} {g:Nat→T_Bar} {k:Nat} (h:badB N g k=false):0≤(g k).1∧(g k).1<(g k).2.1∧(g k).2.1<N∧(0<k→aft (g (k - 1)) (g k)=true):=by
  unfold badB at h
  by_cases h1:(g k).1<0
  · rw [decide_eq_true h1] at h;cases h
  by_cases h2:(g k).1≥(g k).2.1
  · rw [decide_eq_false h1,decide_eq_true h2] at h;cases h
  by_cases h3:(g k).2.1≥N
  · rw [decide_eq_false h1,decide_eq_false h2,decide_eq_true h3] at h;cases h
  rw [decide_eq_false h1,decide_eq_false h2,decide_eq_false h3] at h
  refine ⟨by omega,by omega,by omega,fun hk=>?_⟩
  rw [decide_eq_true (show (k:Int)>0 by omega)] at h
  rw [show ((k:Int) - 1).toNat=k - 1 by omega] at h
  simpa using h
theorem asc_of {N nb:Nat} {g:Nat→T_Bar} (hg:isGraphF ((N:Int),(nb,g),())=true):AscB nb g:=by
  have h:=(graph_inR hg).2.2.2
  intro s hs
  have:=(bad_parts (goodB_in (N:Int) g nb h (s+1) hs)).2.2.2 (by omega)
  rwa [show s+1 - 1=s by omega] at this
end Go.Proofs.YtkkjoghiigiokaaGreat.Mach
namespace Go.Proofs.YtkkjoghiigiokaaGreat.Mach
open Go
set_option linter.unusedVariables false
set_option linter.unusedSimpArgs false
def fbx (g:Nat→T_Bar) (nb N:Nat) (pl:Nat→T_Place) (np:Nat):Ob:=⟨true,3,1,fun _=>[.p (.int .i64 N),brL g nb,pcL pl np]⟩
def RmI (g:Nat→T_Bar) (nb N:Nat) (pl:Nat→T_Place) (np:Nat) (M:Nat→Nat→Int) (i:Nat):St :=
  ⟨[.p .any,.pt 3 0 0 0,.p .any,.ar 1 1 0 i]++List.replicate 12 anyA++[brL g nb,.p (.int .i64 nb),.p (.int .i64 i)]++List.replicate 68 anyA,[(0,fbx g nb N pl np),(1,ooOb 2 i (cM (2*N) M)),(2,ffOb i (cM (2*N) M))],3⟩
def RmS (g:Nat→T_Bar) (nb N:Nat) (pl:Nat→T_Place) (np:Nat) (M:Nat→Nat→Int) (i:Nat):St :=
  ⟨[.p .any,.pt 3 0 0 0,.p .any,.ar 1 1 0 i,.p (.int .i64 i)]++List.replicate 91 anyA,[(0,fbx g nb N pl np),(1,ooOb 2 i (cM (2*N) M)),(2,ffOb i (cM (2*N) M))],3⟩
theorem rmz (g:Nat→T_Bar) (nb N:Nat) (pl:Nat→T_Place) (np:Nat) (M:Nat→Nat→Int) :
    pieceOb Tryz.prog 0 [rg 2,rg 2,rm [(1,oc [] (.p (.bool true)))] 1,.dec false,rg 5,.head] [.code (bodyOf Tryz.f235)] (start Tryz.f235 [] 0 [frA g nb N pl np]) [0,64] 1 (RmI g nb N pl np M 0) =
    some (zf55,[(NT 0 1),Con Tryz.prog 128 0 [] [(zf31 N nb g np pl)] [] (.p (.bool true)),((!true)=false),(NT 0 1),(AN 0),(AN 0),(AN 0),(AN nb),(AP nb (fun i=>[.int .i64 ((g i).1),.int .i64 ((g i).2.1)])),(AI ((↑nb:Int))),((0:Int)=(↑0:Int)),((([AV.p (PV.int IntKind.i64 (↑N:Int)),brL g nb,pcL pl np].length):Nat)=3),(NL 1 1),(NL 1 1),(AI ((↑N:Int))),(AN nb),(AP nb (fun i=>[.int .i64 ((g i).1),.int .i64 ((g i).2.1)])),(AN np),(AP np (fun i=>[.int .i64 ((pl i).1),.int .i64 ((pl i).2.1)])),(AN 1),(NL 0 0),(∀ i:Nat,(((i:Nat)<0)→(All []∧(([.p (.nil)]:List AV)=[.ar 1 ⟨2,some i⟩ 0 (2*N)])))),(AN 0)]):=by kernel_rfl
theorem rmt (g:Nat→T_Bar) (nb N:Nat) (pl:Nat→T_Place) (np:Nat) (M:Nat→Nat→Int) (i:Nat) :
    pieceOb Tryz.prog 0 [rg 1,.dec true,rg 4,rg 6,rg 16,rg 23,rg 23,rg 5,rg 2,.head] zf55 (RmI g nb N pl np M i) [0,2435,.ins 2 i 291] 1 (RmI g nb N pl np M (i+1)) =
    some (zf55,[((decide ((↑i:Int)<(↑nb:Int)))=true),(IL 0 (↑i:Int)),(IT (↑i:Int) (↑nb:Int)),(NT 0 1),((true=true)→ (AN 1)),(NT 0 1),(ZLo (2*(↑N:Int))),(ZHi (2*(↑N:Int))),(IL 0 (2*(↑N:Int))),(IL (2*(↑N:Int)) (2*(↑N:Int))),(IL (2*(↑N:Int)*(↑8:Int)) 281474976710656),(ZHi (2*(↑N:Int))),(NT 0 1),(NT 0 1),(IL 0 ((g i).1)),(IT ((g i).1) (↑np:Int)),(NT 0 1),(NT 0 1),(IL 0 ((g i).2.1)),(IT ((g i).2.1) (↑np:Int)),(NT 0 1),((true=true)→ (AN 1)),(NT 0 1),((true=true)→ (AN 1)),(NT 0 1),(ZLo (2*(g i).1)),(ZHi (2*(g i).1)),(NT 0 1),(ZLo (2*(g i).1)),(ZHi (2*(g i).1)),(ZLo (2*(g i).1+1)),(ZHi (2*(g i).1+1)),(NT 0 1),(NT 0 1),(ZLo ((pl (g i).1.toNat).1 - (pl (g i).2.1.toNat).1)),(ZHi ((pl (g i).1.toNat).1 - (pl (g i).2.1.toNat).1)),(NT 0 1),(NT 0 1),(ZLo ((pl (g i).1.toNat).2.1 - (pl (g i).2.1.toNat).2.1)),(ZHi ((pl (g i).1.toNat).2.1 - (pl (g i).2.1.toNat).2.1)),(IL 0 (2*(g i).1)),(IT (2*(g i).1) (↑(2*N):Int)),(NT ((2*(g i).1).toNat) (2*N)),((false=true)→ (((2*N):Nat)=1)),(IL 0 (2*(g i).1+1)),(IT (2*(g i).1+1) (↑(2*N):Int)),(NT ((2*(g i).1+1).toNat) (2*N)),((false=true)→ (((2*N):Nat)=1)),(NT 0 1),(ZLo (2*(g i).2.1)),(ZHi (2*(g i).2.1)),(NT 0 1),(ZLo (2*(g i).2.1)),(ZHi (2*(g i).2.1)),(ZLo (2*(g i).2.1+1)),(ZHi (2*(g i).2.1+1)),(NT 0 1),(NT 0 1),(ZLo ((pl (g i).2.1.toNat).1 - (pl (g i).1.toNat).1)),(ZHi ((pl (g i).2.1.toNat).1 - (pl (g i).1.toNat).1)),(NT 0 1),(NT 0 1),(ZLo ((pl (g i).2.1.toNat).2.1 - (pl (g i).1.toNat).2.1)),(ZHi ((pl (g i).2.1.toNat).2.1 - (pl (g i).1.toNat).2.1)),(IL 0 (2*(g i).2.1)),(IT (2*(g i).2.1) (↑(2*N):Int)),(NT ((2*(g i).2.1).toNat) (2*N)),((false=true)→ (((2*N):Nat)=1)),(IL 0 (2*(g i).2.1+1)),(IT (2*(g i).2.1+1) (↑(2*N):Int)),(NT ((2*(g i).2.1+1).toNat) (2*N)),((false=true)→ (((2*N):Nat)=1)),(NL 1 1),(NL i i),(NL ((i+1)*24) 140737488355328),(NL (i+1) 9223372036854775807),(ZLo ((↑i:Int)+1)),(ZHi ((↑i:Int)+1)),(AN 0),(AN 0),(AN ((i+1))),(AN nb),(AP nb (fun i_1=>[.int .i64 ((g i_1).1),.int .i64 ((g i_1).2.1)])),(AI ((↑nb:Int))),((((↑i:Int)+1):Int)=(↑(i+1):Int)),(AN 3),(NL 1 1),(NL 1 1),(AI ((↑N:Int))),(AN nb),(AP nb (fun i_1=>[.int .i64 ((g i_1).1),.int .i64 ((g i_1).2.1)])),(AN np),(AP np (fun i_1=>[.int .i64 ((pl i_1).1),.int .i64 ((pl i_1).2.1)])),(AN 1),(NL (i+1) (i+1)),(CV [(2435,⟨false,1,(i+1),(fun i_2=>(if (i_2<i) then [.ar 1 ⟨2,some i_2⟩ 0 (2*N)] else [.ar 1 291 0 (2*N)]))⟩),(2403,⟨false,1,1,(fun i_2=>[.ar 1 291 0 (2*N)])⟩),(291,⟨false,1,(2*N),(fun i_2=>(if (i_2=(2*(g i).2.1+1).toNat) then [.p (.int .i64 ((pl (g i).2.1.toNat).2.1 - (pl (g i).1.toNat).2.1))] else (if (i_2=(2*(g i).2.1).toNat) then [.p (.int .i64 ((pl (g i).2.1.toNat).1 - (pl (g i).1.toNat).1))] else (if (i_2=(2*(g i).1+1).toNat) then [.p (.int .i64 ((pl (g i).1.toNat).2.1 - (pl (g i).2.1.toNat).2.1))] else (if (i_2=(2*(g i).1).toNat) then [.p (.int .i64 ((pl (g i).1.toNat).1 - (pl (g i).2.1.toNat).1))] else [.p (.int .i64 0)])))))⟩),(771,⟨true,2,1,(fun i_2=>[.p (.int .i64 ((pl (g i).2.1.toNat).1)),.p (.int .i64 ((pl (g i).2.1.toNat).2.1))])⟩),(739,⟨true,2,1,(fun i_2=>[.p (.int .i64 ((pl (g i).1.toNat).1)),.p (.int .i64 ((pl (g i).1.toNat).2.1))])⟩),(99,⟨true,2,1,(fun i_2=>[.p (.int .i64 ((g i).1)),.p (.int .i64 ((g i).2.1))])⟩),(0,⟨true,3,1,(fun i_2=>[.p (.int .i64 (↑N:Int)),.p (.seq true 2 nb (fun i_3=>[.int .i64 ((g i_3).1),.int .i64 ((g i_3).2.1)])),.p (.seq true 2 np (fun i_3=>[.int .i64 ((pl i_3).1),.int .i64 ((pl i_3).2.1)]))])⟩),(2,⟨true,0,i,(fun i_2=>[.p (.seq false 1 (2*N) (fun i_3=>[.int .i64 ((cM (2*N) M i_2).2 i_3)]))])⟩)] [0,2435,.ins 2 i 291] 1 (i+1) (fun i_1=>if (i_1<i) then [.ar 1 ⟨2,some i_1⟩ 0 (2*N)] else [.ar 1 291 0 (2*N)]) (fun i_1=>[.ar 1 ⟨2,some i_1⟩ 0 (2*N)])),(∀ i_1:Nat,(((i_1:Nat)<(i+1))→(((i_1:Nat)≠i)→(((i_1:Nat)<i)∧All [(AN 1),(((2*N):Nat)≤(2*N)),(AP ((2*N)) (fun r=>[.int .i64 ((cM (2*N) M i_1).2 r)]))])))),(((i:Nat)<(i+1))→ All [(AN 1),(((2*N):Nat)≤(2*N)),(∀ r:Nat,(((r:Nat)<(2*N))→(([(toP (List.getD ((if (r=(2*(g i).2.1+1).toNat) then [.p (.int .i64 ((pl (g i).2.1.toNat).2.1 - (pl (g i).1.toNat).2.1))] else (if (r=(2*(g i).2.1).toNat) then [.p (.int .i64 ((pl (g i).2.1.toNat).1 - (pl (g i).1.toNat).1))] else (if (r=(2*(g i).1+1).toNat) then [.p (.int .i64 ((pl (g i).1.toNat).2.1 - (pl (g i).2.1.toNat).2.1))] else (if (r=(2*(g i).1).toNat) then [.p (.int .i64 ((pl (g i).1.toNat).1 - (pl (g i).2.1.toNat).1))] else [.p (.int .i64 0)])))):List AV) 0 (.p .any)))]:List PV)=[.int .i64 ((cM (2*N) M i).2 r)])))])]):=by kernel_rfl
theorem rme (g:Nat→T_Bar) (nb N:Nat) (pl:Nat→T_Place) (np:Nat) (M:Nat→Nat→Int) (i:Nat) :
    pathOb Tryz.prog Tryz.f235 0 [rg 1,.dec false,rg 2] zf55 (RmI g nb N pl np M i) [1,2] 1 [(0,ooOb 1 i (cM (2*N) M)),(1,ffOb i (cM (2*N) M))] (.ar 1 0 0 i) =
    some [((decide ((↑i:Int)<(↑nb:Int)))=false),(AN 0),(AN i),(AN 1),(NL i i),(AA i (fun i_1=>[.ar 1 ⟨1,some i_1⟩ 0 (2*N)])),(NL i i),(∀ i_1:Nat,(((i_1:Nat)<i)→All [(AN 1),(((2*N):Nat)≤(2*N)),(AP ((2*N)) (fun r=>[.int .i64 ((cM (2*N) M i_1).2 r)]))])),(AE i),(∀ i_1:Nat,(((i_1:Nat)<i)→All [(false=false),(AE ((2*N)))]))]:=by kernel_rfl
theorem rsz (g:Nat→T_Bar) (nb N:Nat) (pl:Nat→T_Place) (np:Nat) (M:Nat→Nat→Int) :
    pieceOb Tryz.prog 0 [rg 2,rg 2,rg 1,.head] [.code (bodyOf Tryz.f227)] (start Tryz.f227 [] 0 [frA g nb N pl np]) [0,64] 1 (RmS g nb N pl np M 0) =
    some (zf75,[(AN 0),(AN 0),(AN 0),((0:Int)=(↑0:Int)),((([AV.p (PV.int IntKind.i64 (↑N:Int)),brL g nb,pcL pl np].length):Nat)=3),(NL 1 1),(NL 1 1),(AI ((↑N:Int))),(AN nb),(AP nb (fun i=>[.int .i64 ((g i).1),.int .i64 ((g i).2.1)])),(AN np),(AP np (fun i=>[.int .i64 ((pl i).1),.int .i64 ((pl i).2.1)])),(AN 1),(NL 0 0),(∀ i:Nat,(((i:Nat)<0)→(All []∧(([.p (.nil)]:List AV)=[.ar 1 ⟨2,some i⟩ 0 (2*N)])))),(AN 0)]):=by kernel_rfl
theorem rst (g:Nat→T_Bar) (nb N:Nat) (pl:Nat→T_Place) (np:Nat) (M:Nat→Nat→Int) (i:Nat) :
    pieceOb Tryz.prog 0 [rm [(8,oc [] (.p (.bool true)))] 1,.dec true,rg 8,rg 6,rg 16,rg 16,rg 7,rg 8,rg 8,rg 9,rg 5,rg 3,.head] zf75 (RmS g nb N pl np M i) [0,2915,.ins 2 i 707] 1 (RmS g nb N pl np M (i+1)) =
    some (zf75,[(NT 0 1),(((decide ((↑i:Int)<(↑nb:Int)))=true)→(NT 0 1)),(AG (decide ((↑i:Int)<(↑nb:Int)))),(((decide ((↑i:Int)<(↑nb:Int)))=true)→ Con Tryz.prog 117 0 [] [(zf27 N nb g np pl)] [] (.p (.bool true))),(AG (decide ((↑i:Int)<(↑nb:Int)))),((bif decide ((↑i:Int)<(↑nb:Int)) then true else false)=true),(NT 0 1),(IL 0 (↑i:Int)),(IT (↑i:Int) (↑nb:Int)),(NT 0 1),((true=true)→ (AN 1)),(NT 0 1),(ZLo (2*(↑N:Int))),(ZHi (2*(↑N:Int))),(IL 0 (2*(↑N:Int))),(IL (2*(↑N:Int)) (2*(↑N:Int))),(IL (2*(↑N:Int)*(↑8:Int)) 281474976710656),(ZHi (2*(↑N:Int))),(NT 0 1),(NT 0 1),(IL 0 ((g i).1)),(IT ((g i).1) (↑np:Int)),(NT 0 1),(NT 0 1),(IL 0 ((g i).2.1)),(IT ((g i).2.1) (↑np:Int)),(ZLo ((pl (g i).1.toNat).1 - (pl (g i).2.1.toNat).1)),(ZHi ((pl (g i).1.toNat).1 - (pl (g i).2.1.toNat).1)),(NT 0 1),(NT 0 1),(IL 0 ((g i).1)),(IT ((g i).1) (↑np:Int)),(NT 0 1),(NT 0 1),(IL 0 ((g i).2.1)),(IT ((g i).2.1) (↑np:Int)),(ZLo ((pl (g i).1.toNat).2.1 - (pl (g i).2.1.toNat).2.1)),(ZHi ((pl (g i).1.toNat).2.1 - (pl (g i).2.1.toNat).2.1)),(NT 0 1),(ZLo (2*(g i).1)),(ZHi (2*(g i).1)),(IL 0 (2*(g i).1)),(IT (2*(g i).1) (↑(2*N):Int)),(NT ((2*(g i).1).toNat) (2*N)),((false=true)→ (((2*N):Nat)=1)),(NT 0 1),(ZLo (2*(g i).1)),(ZHi (2*(g i).1)),(ZLo (2*(g i).1+1)),(ZHi (2*(g i).1+1)),(IL 0 (2*(g i).1+1)),(IT (2*(g i).1+1) (↑(2*N):Int)),(NT ((2*(g i).1+1).toNat) (2*N)),((false=true)→ (((2*N):Nat)=1)),(NT 0 1),(ZLo (2*(g i).2.1)),(ZHi (2*(g i).2.1)),(ZLo (0 - ((pl (g i).1.toNat).1 - (pl (g i).2.1.toNat).1))),(ZHi (0 - ((pl (g i).1.toNat).1 - (pl (g i).2.1.toNat).1))),(IL 0 (2*(g i).2.1)),(IT (2*(g i).2.1) (↑(2*N):Int)),(NT ((2*(g i).2.1).toNat) (2*N)),((false=true)→ (((2*N):Nat)=1)),(NT 0 1),(ZLo (2*(g i).2.1)),(ZHi (2*(g i).2.1)),(ZLo (2*(g i).2.1+1)),(ZHi (2*(g i).2.1+1)),(ZLo (0 - ((pl (g i).1.toNat).2.1 - (pl (g i).2.1.toNat).2.1))),(ZHi (0 - ((pl (g i).1.toNat).2.1 - (pl (g i).2.1.toNat).2.1))),(IL 0 (2*(g i).2.1+1)),(IT (2*(g i).2.1+1) (↑(2*N):Int)),(NT ((2*(g i).2.1+1).toNat) (2*N)),((false=true)→ (((2*N):Nat)=1)),(NL 1 1),(NL i i),(NL ((i+1)*24) 140737488355328),(NL (i+1) 9223372036854775807),(ZLo ((↑i:Int)+1)),(ZHi ((↑i:Int)+1)),(AN 0),(AN 0),(AN ((i+1))),((((↑i:Int)+1):Int)=(↑(i+1):Int)),(AN 3),(NL 1 1),(NL 1 1),(AI ((↑N:Int))),(AN nb),(AP nb (fun i_1=>[.int .i64 ((g i_1).1),.int .i64 ((g i_1).2.1)])),(AN np),(AP np (fun i_1=>[.int .i64 ((pl i_1).1),.int .i64 ((pl i_1).2.1)])),(AN 1),(NL (i+1) (i+1)),(CV [(2915,⟨false,1,(i+1),(fun i_2=>(if (i_2<i) then [.ar 1 ⟨2,some i_2⟩ 0 (2*N)] else [.ar 1 707 0 (2*N)]))⟩),(2883,⟨false,1,1,(fun i_2=>[.ar 1 707 0 (2*N)])⟩),(707,⟨false,1,(2*N),(fun i_2=>(if (i_2=(2*(g i).2.1+1).toNat) then [.p (.int .i64 (0 - ((pl (g i).1.toNat).2.1 - (pl (g i).2.1.toNat).2.1)))] else (if (i_2=(2*(g i).2.1).toNat) then [.p (.int .i64 (0 - ((pl (g i).1.toNat).1 - (pl (g i).2.1.toNat).1)))] else (if (i_2=(2*(g i).1+1).toNat) then [.p (.int .i64 ((pl (g i).1.toNat).2.1 - (pl (g i).2.1.toNat).2.1))] else (if (i_2=(2*(g i).1).toNat) then [.p (.int .i64 ((pl (g i).1.toNat).1 - (pl (g i).2.1.toNat).1))] else [.p (.int .i64 0)])))))⟩),(515,⟨true,2,1,(fun i_2=>[.p (.int .i64 ((g i).1)),.p (.int .i64 ((g i).2.1))])⟩),(0,⟨true,3,1,(fun i_2=>[.p (.int .i64 (↑N:Int)),.p (.seq true 2 nb (fun i_3=>[.int .i64 ((g i_3).1),.int .i64 ((g i_3).2.1)])),.p (.seq true 2 np (fun i_3=>[.int .i64 ((pl i_3).1),.int .i64 ((pl i_3).2.1)]))])⟩),(2,⟨true,0,i,(fun i_2=>[.p (.seq false 1 (2*N) (fun i_3=>[.int .i64 ((cM (2*N) M i_2).2 i_3)]))])⟩)] [0,2915,.ins 2 i 707] 1 (i+1) (fun i_1=>if (i_1<i) then [.ar 1 ⟨2,some i_1⟩ 0 (2*N)] else [.ar 1 707 0 (2*N)]) (fun i_1=>[.ar 1 ⟨2,some i_1⟩ 0 (2*N)])),(∀ i_1:Nat,(((i_1:Nat)<(i+1))→(((i_1:Nat)≠i)→(((i_1:Nat)<i)∧All [(AN 1),(((2*N):Nat)≤(2*N)),(AP ((2*N)) (fun r=>[.int .i64 ((cM (2*N) M i_1).2 r)]))])))),(((i:Nat)<(i+1))→ All [(AN 1),(((2*N):Nat)≤(2*N)),(∀ r:Nat,(((r:Nat)<(2*N))→(([(toP (List.getD ((if (r=(2*(g i).2.1+1).toNat) then [.p (.int .i64 (0 - ((pl (g i).1.toNat).2.1 - (pl (g i).2.1.toNat).2.1)))] else (if (r=(2*(g i).2.1).toNat) then [.p (.int .i64 (0 - ((pl (g i).1.toNat).1 - (pl (g i).2.1.toNat).1)))] else (if (r=(2*(g i).1+1).toNat) then [.p (.int .i64 ((pl (g i).1.toNat).2.1 - (pl (g i).2.1.toNat).2.1))] else (if (r=(2*(g i).1).toNat) then [.p (.int .i64 ((pl (g i).1.toNat).1 - (pl (g i).2.1.toNat).1))] else [.p (.int .i64 0)])))):List AV) 0 (.p .any)))]:List PV)=[.int .i64 ((cM (2*N) M i).2 r)])))])]):=by kernel_rfl
theorem rse (g:Nat→T_Bar) (nb N:Nat) (pl:Nat→T_Place) (np:Nat) (M:Nat→Nat→Int) (i:Nat) :
    pathOb Tryz.prog Tryz.f227 0 [rm [(8,oc [] (.p (.bool true)))] 1,.dec false,rg 2] zf75 (RmS g nb N pl np M i) [1,2] 1 [(0,ooOb 1 i (cM (2*N) M)),(1,ffOb i (cM (2*N) M))] (.ar 1 0 0 i) =
    some [(NT 0 1),(((decide ((↑i:Int)<(↑nb:Int)))=true)→(NT 0 1)),(AG (decide ((↑i:Int)<(↑nb:Int)))),(((decide ((↑i:Int)<(↑nb:Int)))=true)→ Con Tryz.prog 117 0 [] [(zf27 N nb g np pl)] [] (.p (.bool true))),(AG (decide ((↑i:Int)<(↑nb:Int)))),((bif decide ((↑i:Int)<(↑nb:Int)) then true else false)=false),(AN 0),(AN i),(AN 1),(NL i i),(AA i (fun i_1=>[.ar 1 ⟨1,some i_1⟩ 0 (2*N)])),(NL i i),(∀ i_1:Nat,(((i_1:Nat)<i)→All [(AN 1),(((2*N):Nat)≤(2*N)),(AP ((2*N)) (fun r=>[.int .i64 ((cM (2*N) M i_1).2 r)]))])),(AE i),(∀ i_1:Nat,(((i_1:Nat)<i)→All [(false=false),(AE ((2*N)))]))]:=by kernel_rfl
theorem rkI (n m:Nat) (M M':Nat→Nat→Int) (r:Nat) (p:Nat→Int) (d:Int) :
    pathOb Tryz.prog Tryz.f234 0 [rg 1,rm [(2,oc (mH n m M' r p) (.tup [.ar 1 0 0 m,.ar 1 2 0 r,.p (.int .i64 d)]))] 7,rg 3] [.code (bodyOf Tryz.f234)] (start Tryz.f234 [] 0 [ssA2 m (cM n M),.p (.int .i64 n)]) [] 1 [] (.p (.int .i64 r)) =
    some [Con Tryz.prog 317 0 [] [.p (.seq true 1 m (fun i=>[.seq true 1 n (fun i_1=>[.int .i64 ((cM n M i).2 i_1)])])),.p (.int .i64 (↑n:Int))] [(0,⟨false,1,m,(fun i=>[.ar 1 ⟨1,some i⟩ 0 n])⟩),(1,⟨true,0,m,(fun i=>[.p (.seq false 1 n (fun i_1=>[.int .i64 ((cM n M' i).2 i_1)]))])⟩),(2,⟨false,1,r,(fun i=>[.p (.int .i64 (p i))])⟩)] (.tup [.ar 1 0 0 m,.ar 1 2 0 r,.p (.int .i64 d)]),(AI ((↑r:Int)))]:=by kernel_rfl
theorem frN (g:Nat→T_Bar) (nb:Nat) (N:Int) (pl:Nat→T_Place) (np:Nat) :
    pathOb Tryz.prog Tryz.f130 0 [rg 2,rm [(1,oc [] (.p (.bool false)))] 1,.dec true,rg 1] [.code (bodyOf Tryz.f130)] (start Tryz.f130 [] 0 [frA g nb N pl np]) [] 1 [] (.p (.int .i64 (-1))) =
    some [(NT 0 1),Con Tryz.prog 128 0 [] [(zf35 N nb g np pl)] [] (.p (.bool false)),((!false)=true),(AI ((-1)))]:=by kernel_rfl
theorem frR (g:Nat→T_Bar) (nb N:Nat) (pl:Nat→T_Place) (np:Nat) (M:Nat→Nat→Int) (r:Nat) :
    pathOb Tryz.prog Tryz.f130 0 [rg 2,rm [(1,oc [] (.p (.bool true)))] 1,.dec false,rm [(1,oc [(0,ooOb 1 nb (cM (2*N) M)),(1,ffOb nb (cM (2*N) M))] (.ar 1 0 0 nb)),(4,⟨true,(some ⟨[],[],[193],2,[],.p (.int .i64 r)⟩),none⟩)] 1] [.code (bodyOf Tryz.f130)] (start Tryz.f130 [] 0 [frA g nb N pl np]) [] 1 [] (.p (.int .i64 r)) =
    some [(NT 0 1),Con Tryz.prog 128 0 [] [(zf31 N nb g np pl)] [] (.p (.bool true)),((!true)=false),(NT 0 1),Con Tryz.prog 235 0 [] [(zf31 N nb g np pl)] [(0,⟨false,1,nb,(fun i=>[.ar 1 ⟨1,some i⟩ 0 (2*N)])⟩),(1,⟨true,0,nb,(fun i=>[.p (.seq false 1 (2*N) (fun i_1=>[.int .i64 ((cM (2*N) M i).2 i_1)]))])⟩)] (.ar 1 0 0 nb),(NT 0 1),(ZLo (2*(↑N:Int))),(ZHi (2*(↑N:Int))),(AN 1),(NL nb nb),(∀ i:Nat,(((i:Nat)<nb)→All [((i:Nat)<nb),(AN 1),(((2*N):Nat)≤(2*N))])),Con Tryz.prog 234 0 [] [.p (.seq true 1 nb (fun i=>[.seq true 1 (2*N) (fun i_1=>[.int .i64 ((cM (2*N) M i).2 i_1)])])),.p (.int .i64 (2*(↑N:Int)))] [] (.p (.int .i64 (↑r:Int))),(AI ((↑r:Int)))]:=by kernel_rfl
theorem fsN (g:Nat→T_Bar) (nb:Nat) (N:Int) (pl:Nat→T_Place) (np:Nat) :
    pathOb Tryz.prog Tryz.f119 0 [rg 2,rm [(1,oc [] (.p (.bool false)))] 1,.dec true,rg 1] [.code (bodyOf Tryz.f119)] (start Tryz.f119 [] 0 [frA g nb N pl np]) [] 1 [] (.p (.int .i64 (-1))) =
    some [(NT 0 1),Con Tryz.prog 117 0 [] [(zf35 N nb g np pl)] [] (.p (.bool false)),((!false)=true),(AI ((-1)))]:=by kernel_rfl
theorem fsR (g:Nat→T_Bar) (nb N:Nat) (pl:Nat→T_Place) (np:Nat) (M M':Nat→Nat→Int) (r:Nat) (p:Nat→Int) :
    pathOb Tryz.prog Tryz.f119 0 [rg 2,rm [(1,oc [] (.p (.bool true)))] 1,.dec false,rm [(1,oc [(0,ooOb 1 nb (cM (2*N) M)),(1,ffOb nb (cM (2*N) M))] (.ar 1 0 0 nb)),(0,⟨true,(some ⟨[],[],[193],2,(mH (2*N) nb M' r p),.tup [.ar 1 0 0 nb,.ar 1 2 0 r]⟩),none⟩)] 5,rg 3] [.code (bodyOf Tryz.f119)] (start Tryz.f119 [] 0 [frA g nb N pl np]) [] 1 [] (.p (.int .i64 r)) =
    some [(NT 0 1),Con Tryz.prog 117 0 [] [(zf31 N nb g np pl)] [] (.p (.bool true)),((!true)=false),(NT 0 1),Con Tryz.prog 227 0 [] [(zf31 N nb g np pl)] [(0,⟨false,1,nb,(fun i=>[.ar 1 ⟨1,some i⟩ 0 (2*N)])⟩),(1,⟨true,0,nb,(fun i=>[.p (.seq false 1 (2*N) (fun i_1=>[.int .i64 ((cM (2*N) M i).2 i_1)]))])⟩)] (.ar 1 0 0 nb),(AN 1),(NL nb nb),(∀ i:Nat,(((i:Nat)<nb)→All [((i:Nat)<nb),(AN 1),(((2*N):Nat)≤(2*N))])),Con Tryz.prog 226 0 [] [.p (.seq true 1 nb (fun i=>[.seq true 1 (2*N) (fun i_1=>[.int .i64 ((cM (2*N) M i).2 i_1)])]))] [(0,⟨false,1,nb,(fun i=>[.ar 1 ⟨1,some i⟩ 0 (2*N)])⟩),(1,⟨true,0,nb,(fun i=>[.p (.seq false 1 (2*N) (fun i_1=>[.int .i64 ((cM (2*N) M' i).2 i_1)]))])⟩),(2,⟨false,1,r,(fun i=>[.p (.int .i64 (p i))])⟩)] (.tup [.ar 1 0 0 nb,.ar 1 2 0 r]),(AI ((↑r:Int)))]:=by kernel_rfl
end Go.Proofs.YtkkjoghiigiokaaGreat.Mach
