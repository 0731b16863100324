/- What the law Bd needs, part 3 of 3: the abstract machine and the contracts of the functions. Conditions: as each theorem says. -/
import Derived.Test.YtffnfeefjdmifaaBdP2
namespace Go.Proofs.Ytffnfeefjdmifaa.Mach
open Go
set_option linter.unusedVariables false
set_option linter.unusedSimpArgs false
theorem con_l4Other (x:T_Bar) (v:Int) (h1:0≤x.1∧x.1≤1048576) (h2:0≤x.2.1∧x.2.1≤1048576) (h3:0≤v∧v≤1048576):Con Try.prog 189 0 [] [brA x,.p (.int .i64 v)] [] (.p (.int .i64 (x.1+x.2.1 - v))):=by
  refine con_start Try.func189 rfl (by kernel_rfl) rfl (fun c hc=>?_)
  refine path_ok mixed Try.func189 hc (qOt x v) ?_
  repeat' (first | exact aN | apply aI)
  all_goals (first | omega | rfl | (intros;first | assumption | exact trivial | rfl | exact fT ‹_› | ((repeat' (first | assumption | apply anda | apply notf));done)) | simp)
theorem con_l4Copy (N m:Nat) (F T Q:Nat→Int) (hN:N≤1048576) (hm:m≤1048576):Con Try.prog 161 0 [] [pebD N m F T Q] (pebR N m F T Q) (pebO N m 0):=by
  refine con_start Try.func161 rfl (by kernel_rfl) rfl (fun c hc=>?_)
  refine path_ok mixed Try.func161 hc (qCp N m F T Q) ?_
  repeat' (first | exact aN | apply aI)
  all_goals (first | exact aA _ _ | exact aE _ | omega | rfl | (intros;first | assumption | exact trivial | rfl | exact fT ‹_› | ((repeat' (first | assumption | apply anda | apply notf));done)) | (intro i hi;simp [All]))
theorem oth_sum {x:T_Bar} {y z:Int} (h:y=x.1∨y=x.2.1) (hz:othF x y=z):x.1+x.2.1 - z=y∧x.1+x.2.1 - y=z:=by
  unfold othF at hz
  by_cases e:x.1=y
  · rw [if_pos e] at hz;omega
  · rw [if_neg e] at hz
    rcases h with h | h
    · exact absurd h.symm e
    · omega
theorem run_shift {N nb m:Nat} {g:Nat→T_Bar} {F F0 F1 T Q td FR:Nat→Int} {a b u:Int} {tn:Nat} (h:BInv N m g F T Q td (fun s=>FR (td s).toNat) a b tn) (hN:N≤1048576) (hm:m≤1048576) (hnb:nb≤1048576)
    (hq:∀ j,j<m→0≤Q j∧Q j<nb) (hbar:∀ e,e<nb→0≤(g e).1∧(g e).1<(g e).2.1∧(g e).2.1<N) (hT:∀ j,j<m→T j=(g (Q j).toNat).1∨T j=(g (Q j).toNat).2.1) :
    ∀ s,s<tn→∀ T':Nat→Int,TInv m g T Q td (fun s=>FR (td s).toNat) T' u s→∃ T'' s',(∀ c,c.n=0→Run Try.prog c 190 zf14 (SSl g nb N m F0 T Q FR F1 T' a u (td s)) (Post c (pebR N m F1 T'' Q) (pebO N m 0))) ∧
      TInv m g T Q td (fun s=>FR (td s).toNat) T'' u s'∧td s'=a:=by
  intro s
  induction s using Nat.strongRecOn with
  | ind s ih =>
    intro hs T' ht
    by_cases he:td s=a
    · refine ⟨T',s,fun c hc=>?_,ht,he⟩
      have hb:(td s != a)=false:=by simp [he]
      refine path_ok mixed Try.func190 hc (qSe g nb N m F0 T Q FR F1 T' a u (td s)) ?_
      repeat' (first | exact aN | apply aI)
      all_goals (first | exact aA _ _ | exact aE _ | omega | rfl | (intros;first | assumption | exact trivial | rfl | exact fT ‹_› | ((repeat' (first | assumption | apply anda | apply notf));done)) | (exact hb) | (intro i hi;simp [All]))
    · have hs1:1≤s:=by
        cases s with
        | zero=>exact absurd h.td0 he
        | succ s=>omega
      obtain ⟨j,hj,hVs,s',hs',hk,ht',hTj,hoth⟩:=ht.step h hs hs1
      have hVs:FR (td s).toNat=(j:Int):=hVs
      obtain ⟨T'',s'',hrun,h1,h2⟩:=ih s' hs' (by omega) _ ht'
      refine ⟨T'',s'',fun c hc=>?_,h1,h2⟩
      have hb:(td s != a)=true:=by simp [he]
      have hqj:=hq j hj
      have hbj:=hbar (Q j).toNat (by omega)
      have hrs:=h.rng s hs
      have hsum:=(oth_sum (by rw [← hTj];exact hT j hj) hoth).1
      have hcon:=con_l4Other (g (Q j).toNat) (td s) (by omega) (by omega) (by omega)
      rw [hsum] at hcon
      refine piece_ok mixed hc (qSl g nb N m F0 T Q FR F1 T' a u (td s) (td s')) ?_ (by rw [hVs];simp only [Int.toNat_natCast];exact hrun c hc)
      repeat' (first | exact aN | apply aI)
      all_goals (first | exact aP _ _ | exact aA _ _ | omega | rfl | (intros;first | assumption | exact trivial | rfl | exact fT ‹_› | ((repeat' (first | assumption | apply anda | apply notf));done)) | (exact hb) | (rw [hVs];simp only [Int.toNat_natCast];omega) | (rw [hVs];simp only [Int.toNat_natCast];exact hcon) | (intro i hi;simp [All];done) | (simp only [hVs,Int.toNat_natCast];intro i hi;by_cases h:i=j<;>simp [h,cvtL,cvt,tg,tru,All]))
theorem BInv.congrV {N m:Nat} {g:Nat→T_Bar} {F T Q td V V':Nat→Int} {a b:Int} {tn:Nat} (h:BInv N m g F T Q td V a b tn) (hv:∀ s,s<tn→V s=V' s):BInv N m g F T Q td V' a b tn :=
  ⟨h.n1,h.td0,h.rng,h.inj,fun s h1 h2=>by rw [← hv s h2];exact h.par s h1 h2⟩
theorem con_l4Shift {N k nb m:Nat} {g:Nat→T_Bar} {F T Q td FR:Nat→Int} {a b u:Int} {tn:Nat} (hp:PInv N k nb m g F T Q) (hk:k≤1048576) (hN:N≤1048576) (hm:m≤1048576) (hnb:nb≤1048576)
    (h:BInv N m g F T Q td (fun s=>FR (td s).toNat) a b (tn+1)) (htn:td tn=u) (ha:0≤a∧a<N) (hu:0≤u∧u<N) (hua:u≠a) :
    ∃ T'' s',Con Try.prog 190 0 [] [grG g nb N,pebD N m F T Q,inD N FR,.p (.int .i64 a),.p (.int .i64 u)] (pebR N m (fun x=>if x=a.toNat then (if x=u.toNat then F x - 1 else F x)+1 else (if x=u.toNat then F x - 1 else F x)) T'' Q) (pebO N m 0) ∧
      TInv m g T Q td (fun s=>FR (td s).toNat) T'' u s'∧td s'=a:=by
  have ht0:TInv m g T Q td (fun s=>FR (td s).toNat) T u tn:=⟨fun _ _ _=>rfl,hp.t,fun x=>by rw [htn];omega⟩
  obtain ⟨T'',s',hrun,h1,h2⟩:=run_shift (nb:=nb) (F0:=F) (F1:=fun x=>if x=a.toNat then (if x=u.toNat then F x - 1 else F x)+1 else (if x=u.toNat then F x - 1 else F x)) h hN hm hnb hp.q hp.bars hp.t tn (by omega) T ht0
  refine ⟨T'',s',?_,h1,h2⟩
  rw [htn] at hrun
  have hFa:=hp.le (v:=a.toNat) (by omega)
  have hFu:=hp.le (v:=u.toNat) (by omega)
  have hcc:=con_l4Copy N m F T Q hN hm
  refine con_start Try.func190 rfl (by kernel_rfl) rfl (fun c hc=>?_)
  have hrun':=hrun c hc
  refine piece_ok mixed hc (qSz g nb N m F T Q FR a u) ?_ ?_
  ·
    repeat' (first | exact aN | apply aI)
    all_goals (first | exact aP _ _ | exact aA _ _ | omega | rfl | (intros;first | assumption | exact trivial | rfl | exact fT ‹_› | ((repeat' (first | assumption | apply anda | apply notf));done)) | (exact hcc) | (intro i hi;simp [All];done) | (intro i hi;by_cases h:i=u.toNat<;>simp [h,cvtL,cvt,tg,tru,All]))
  · have hF1:(fun s=>if s=u.toNat then F s - 1 else F s) a.toNat=F a.toNat:=by
      show (if a.toNat=u.toNat then F a.toNat - 1 else F a.toNat)=_
      rw [if_neg (by omega)]
    obtain ⟨F1,hF1d⟩:∃ F1:Nat→Int,F1=(fun s=>if s=u.toNat then F s - 1 else F s):=⟨_,rfl⟩
    have hFF:(fun x=>if x=a.toNat then (if x=u.toNat then F x - 1 else F x)+1 else (if x=u.toNat then F x - 1 else F x))=(fun s=>if s=a.toNat then F1 s+1 else F1 s):=by
      subst hF1d;rfl
    rw [hFF] at hrun' ⊢
    rw [← hF1d] at hF1 ⊢
    refine piece_ok mixed hc (qSa g nb N m F T Q FR F1 T a u) ?_ hrun'
    repeat' (first | exact aN | apply aI)
    all_goals (first | exact aP _ _ | exact aA _ _ | omega | rfl | (intros;first | assumption | exact trivial | rfl | exact fT ‹_› | ((repeat' (first | assumption | apply anda | apply notf));done)) | (rw [hF1];omega) | (intro i hi;simp [All];done) | (intro i hi;by_cases h:i=a.toNat<;>simp [h,cvtL,cvt,tg,tru,All]))
inductive FindR (N k nb m:Nat) (g:Nat→T_Bar) (F T Q:Nat→Int) (a b:Int):Hp→AV→Prop
  | yes (F' T':Nat→Int) (h:Moved N k nb m g F T Q a b F' T' true):FindR N k nb m g F T Q a b (pebR3 N m F T Q F' T' Q) (.tup [pebO N m 3,.p (.bool true)])
  | no (h:Moved N k nb m g F T Q a b F T false):FindR N k nb m g F T Q a b (pebR N m F T Q) (.tup [pebO N m 0,.p (.bool false)])
def OutS (N k nb m:Nat) (g:Nat→T_Bar) (F T Q:Nat→Int) (a b:Int) (i tn:Nat) (td FR:Nat→Int) (SN:Nat→Bool):Prop :=
  ∃ H' res,(∀ c,c.n=3→Run Try.prog c 180 [.code (cAt (bodyOf Try.f180) [1,1,1,1,1,1,0,1,0,0]),.inLoop (cAt (bodyOf Try.f180) [1,1,1,1,1,1,0,1,0,0]),.inBlock 2,.code (cAt (bodyOf Try.f180) [1,1,1,1,1,1,1])] (SF1 g nb N m F T Q td FR SN a b i tn) (Post c H' res))∧FindR N k nb m g F T Q a b H' res
def MidS (N k nb m:Nat) (g:Nat→T_Bar) (F T Q:Nat→Int) (a b:Int) (i j tn:Nat) (td FR:Nat→Int) (SN:Nat→Bool):Prop :=
  ∃ H' res,(∀ c,c.n=3→Run Try.prog c 180 [.code (cAt (bodyOf Try.f180) [1,1,1,1,1,1,0,1,0,0,1,0,0,1,1,0,0]),.inLoop (cAt (bodyOf Try.f180) [1,1,1,1,1,1,0,1,0,0,1,0,0,1,1,0,0]),.inBlock 4,.inBlock 3,.code (cAt (bodyOf Try.f180) [1,1,1,1,1,1,0,1,0,0,1,1]),.inLoop (cAt (bodyOf Try.f180) [1,1,1,1,1,1,0,1,0,0]),.inBlock 2,.code (cAt (bodyOf Try.f180) [1,1,1,1,1,1,1])] (SF2 g nb N m F T Q td FR SN a b (td i) i j tn) (Post c H' res))∧FindR N k nb m g F T Q a b H' res
def SeenI (N:Nat) (td:Nat→Int) (SN:Nat→Bool) (tn:Nat):Prop:=∀ x:Nat,x<N→(SN x=true↔∃ s,s<tn∧td s=x)
theorem mid_s {N k nb m:Nat} {g:Nat→T_Bar} {F T Q:Nat→Int} {a b:Int} (hp:PInv N k nb m g F T Q) (hk:k≤1048576) (hN:N≤1048576) (hm:m≤1048576) (hnb:nb≤1048576)
    (ha:0≤a∧a<N) (hb:0≤b∧b<N) (hab:a≠b) (i:Nat)
    (ih:∀ tn td FR SN,i+1≤tn→BInv N m g F T Q td (fun s=>FR (td s).toNat) a b tn→SeenI N td SN tn→BZero F td b tn→BClo m g T Q td (i+1) 0 tn→OutS N k nb m g F T Q a b (i+1) tn td FR SN) :
    ∀ e j tn td FR SN,j+e=m→i<tn→BInv N m g F T Q td (fun s=>FR (td s).toNat) a b tn→SeenI N td SN tn→BZero F td b tn→BClo m g T Q td i j tn→MidS N k nb m g F T Q a b i j tn td FR SN:=by
  intro e
  induction e with
  | zero =>
    intro j tn td FR SN hj hi hbi hsn hz hcl
    have htn:=pigeon N tn td hbi.rng hbi.inj
    obtain ⟨H',res,hrun,hmv⟩:=ih tn td FR SN (by omega) hbi hsn hz (fun i' j' hij hi' hT=>by
      rcases hij with ⟨h1,h2⟩ | ⟨h1,h2⟩
      · by_cases e:i'=i
        · exact hcl i' j' (.inr ⟨e,by omega⟩) hi' hT
        · exact hcl i' j' (.inl ⟨by omega,h2⟩) hi' hT
      · omega)
    refine ⟨H',res,fun c hc=>?_,hmv⟩
    have hd:decide ((j:Int)<(m:Int))=false:=by simp;omega
    refine piece_ok mixed hc (qF2e g nb N m F T Q td FR SN a b (td i) i j tn) ?_ (hrun c hc)
    repeat' (first | exact aN | apply aI)
    all_goals (first | exact aP _ _ | exact aA _ _ | omega | rfl | (intros;first | assumption | exact trivial | rfl | exact fT ‹_› | ((repeat' (first | assumption | apply anda | apply notf));done)) | (intro i hi;simp [All]))
  | succ e ihe =>
    intro j tn td FR SN hj hi hbi hsn hz hcl
    have htn:=pigeon N tn td hbi.rng hbi.inj
    have hjm:j<m:=by omega
    have hd:decide ((j:Int)<(m:Int))=true:=by simp;omega
    have hq:=hp.q j hjm
    have hbar:=hp.bars (Q j).toNat (by omega)
    have hrg:=hbi.rng i hi
    by_cases hT:T j=td i
    · have ht1:(T j != td i)=false:=by simp [hT]
      obtain ⟨v,hv⟩:∃ v,othF (g (Q j).toNat) (td i)=v:=⟨_,rfl⟩
      have hvr:0≤v∧v<N:=by rw [← hv];exact othF_in hbar
      have hsum:=(oth_sum (by rw [← hT];exact hp.t j hjm) hv).2
      have hcon:=con_l4Other (g (Q j).toNat) (td i) (by omega) (by omega) (by omega)
      rw [hsum] at hcon
      cases hh:SN v.toNat with
      | true =>
        obtain ⟨s,hs1,hs2⟩:=(hsn v.toNat (by omega)).1 hh
        obtain ⟨H',res,hrun,hmv⟩:=ihe (j+1) tn td FR SN (by omega) hi hbi hsn hz (fun i' j' hij hi' hTT=>by
          by_cases e:i'=i∧j'=j
          · obtain ⟨rfl,rfl⟩:=e
            exact ⟨s,hs1,by rw [hs2,hv];omega⟩
          · exact hcl i' j' (by omega) hi' hTT)
        refine ⟨H',res,fun c hc=>?_,hmv⟩
        refine piece_ok mixed hc (qF2b g nb N m F T Q td FR SN a b (td i) v i j tn) ?_ (hrun c hc)
        repeat' (first | exact aN | apply aI)
        all_goals (first | exact aP _ _ | exact aA _ _ | omega | rfl | (intros;first | assumption | exact trivial | rfl | exact fT ‹_› | ((repeat' (first | assumption | apply anda | apply notf));done)) | (exact ht1) | (exact hcon) | (exact hh) | (intro i hi;simp [All]))
      | false =>
        have hno:∀ s,s<tn→td s≠v:=by
          intro s hs e
          have:=(hsn v.toNat (by omega)).2 ⟨s,hs,by omega⟩
          rw [hh] at this;cases this
        have hadd0:=hbi.add hi hjm hT hv hvr hno
        have hadd:BInv N m g F T Q (fun s=>if s<tn then td s else v) (fun s=>(fun x=>if x=v.toNat then (j:Int) else FR x) ((fun s=>if s<tn then td s else v) s).toNat) a b (tn+1):=by
          refine hadd0.congrV (fun s hs=>?_)
          show (if s<tn then FR (td s).toNat else (j:Int))=(if (if s<tn then td s else v).toNat=v.toNat then (j:Int) else FR (if s<tn then td s else v).toNat)
          by_cases e:s<tn
          · have h1:=hno s e
            have h2:=hbi.rng s e
            rw [if_pos e,if_pos e,if_neg (show ¬ (td s).toNat=v.toNat by omega)]
          · rw [if_neg e,if_neg e,if_pos rfl]
        have hF:=hp.le (v:=v.toNat) (by omega)
        cases hcd:(bif v != b then decide (F v.toNat>0) else false) with
        | false =>
          have hzv:v=b∨F v.toNat=0:=by
            by_cases e:v=b
            · exact .inl e
            · right
              have:(v != b)=true:=by simp [e]
              rw [this] at hcd
              simp at hcd
              omega
          obtain ⟨H',res,hrun,hmv⟩:=ihe (j+1) (tn+1) (fun s=>if s<tn then td s else v) (fun x=>if x=v.toNat then (j:Int) else FR x) (fun s=>if s=v.toNat then true else SN s) (by omega) (by omega) hadd (fun x hx=>by
            show (if x=v.toNat then true else SN x)=true↔∃ s,s<tn+1∧(if s<tn then td s else v)=x
            by_cases e:x=v.toNat
            · rw [if_pos e]
              exact ⟨fun _=>⟨tn,by omega,by rw [if_neg (Nat.lt_irrefl tn)];omega⟩,fun _=>rfl⟩
            · rw [if_neg e,hsn x hx]
              constructor
              · rintro ⟨s,h1,h2⟩;exact ⟨s,by omega,by rw [if_pos h1];exact h2⟩
              · rintro ⟨s,h1,h2⟩
                by_cases e2:s<tn
                · rw [if_pos e2] at h2;exact ⟨s,e2,h2⟩
                · rw [if_neg e2] at h2;omega) (fun s h1 h2=>by
            show (if s<tn then td s else v)=b∨F (if s<tn then td s else v).toNat=0
            by_cases e:s<tn
            · rw [if_pos e];exact hz s h1 e
            · rw [if_neg e];exact hzv) (fun i' j' hij hi' hTT=>by
            have hi2:i'<tn:=by omega
            have hTT':T j'=td i':=by rw [hTT];show (if i'<tn then td i' else v)=_;rw [if_pos hi2]
            show ∃ s,s<tn+1∧(if s<tn then td s else v)=othF (g (Q j').toNat) (if i'<tn then td i' else v)
            rw [if_pos hi2]
            by_cases e:i'=i∧j'=j
            · obtain ⟨rfl,rfl⟩:=e
              exact ⟨tn,by omega,by rw [if_neg (Nat.lt_irrefl tn),hv]⟩
            · obtain ⟨s,h1,h2⟩:=hcl i' j' (by omega) hi2 hTT'
              exact ⟨s,by omega,by rw [if_pos h1];exact h2⟩)
          refine ⟨H',res,fun c hc=>?_,hmv⟩
          have hrun':=hrun c hc
          simp only [hi,if_true] at hrun'
          refine piece_ok mixed hc (qF2c g nb N m F T Q td FR SN a b (td i) v i j tn) ?_ hrun'
          repeat' (first | exact aN | apply aI)
          all_goals (first | exact aG _ | exact aP _ _ | exact aA _ _ | omega | rfl | (intros;first | assumption | exact trivial | rfl | exact fT ‹_› | ((repeat' (first | assumption | apply anda | apply notf));done)) | (exact ht1) | (exact hcon) | (exact hh) | (exact hcd) | (intros;omega) | (intro i hi;simp [All];done) | (intro i hi;by_cases h:i<tn<;>simp [h,cvtL,cvt,tg,tru,All];done) | (intro i hi;by_cases h:i=v.toNat<;>simp [h,cvtL,cvt,tg,tru,All]))
        | true =>
          have hvb:v≠b:=by
            intro e
            rw [show (v != b)=false by simp [e]] at hcd
            cases hcd
          have hFv:F v.toNat≠0:=by
            intro e
            rw [show (v != b)=true by simp [hvb]] at hcd
            simp [e] at hcd
          have hva:v≠a:=by
            have:=hno 0 (by have:=hbi.n1;omega)
            rw [hbi.td0] at this
            exact Ne.symm this
          obtain ⟨T'',s',hcs,h1,h2⟩:=con_l4Shift (td:=fun s=>if s<tn then td s else v) (FR:=fun x=>if x=v.toNat then (j:Int) else FR x) (tn:=tn) hp hk hN hm hnb hadd (by show (if tn<tn then td tn else v)=v;rw [if_neg (Nat.lt_irrefl tn)]) ha hvr hva
          refine ⟨_,_,fun c hc=>?_,.yes _ T'' (moved_yes hp ha hb hab hvr hva hvb hFv h1 h2)⟩
          refine piece_ok mixed hc (qF2d g nb N m F T Q td FR SN a b (td i) v i j tn) ?_ ?_
          ·
            repeat' (first | exact aN | apply aI)
            all_goals (first | exact aG _ | exact aP _ _ | exact aA _ _ | omega | rfl | (intros;first | assumption | exact trivial | rfl | exact fT ‹_› | ((repeat' (first | assumption | apply anda | apply notf));done)) | (exact ht1) | (exact hcon) | (exact hh) | (exact hcd) | (intros;omega) | (intro i hi;simp [All];done) | (intro i hi;by_cases h:i=v.toNat<;>simp [h,cvtL,cvt,tg,tru,All]))
          · refine path_ok mixed Try.func180 hc (qF3 g nb N m F T Q (fun s=>if s=v.toNat then (j:Int) else FR s) _ T'' a b v) ?_
            repeat' (first | exact aN | apply aI)
            all_goals (first | exact aA _ _ | exact aE _ | omega | rfl | (intros;first | assumption | exact trivial | rfl | exact fT ‹_› | ((repeat' (first | assumption | apply anda | apply notf));done)) | (exact hcs) | (intro i hi;simp [All]))
    · have ht1:(T j != td i)=true:=by simp [hT]
      obtain ⟨H',res,hrun,hmv⟩:=ihe (j+1) tn td FR SN (by omega) hi hbi hsn hz (fun i' j' hij hi' hTT=>by
        by_cases e:i'=i∧j'=j
        · obtain ⟨rfl,rfl⟩:=e
          exact absurd hTT hT
        · exact hcl i' j' (by omega) hi' hTT)
      refine ⟨H',res,fun c hc=>?_,hmv⟩
      refine piece_ok mixed hc (qF2a g nb N m F T Q td FR SN a b (td i) i j tn) ?_ (hrun c hc)
      repeat' (first | exact aN | apply aI)
      all_goals (first | exact aP _ _ | exact aA _ _ | omega | rfl | (intros;first | assumption | exact trivial | rfl | exact fT ‹_› | ((repeat' (first | assumption | apply anda | apply notf));done)) | (exact ht1) | (intro i hi;simp [All]))
theorem out_s {N k nb m:Nat} {g:Nat→T_Bar} {F T Q:Nat→Int} {a b:Int} (hp:PInv N k nb m g F T Q) (hk:k≤1048576) (hN:N≤1048576) (hm:m≤1048576) (hnb:nb≤1048576)
    (ha:0≤a∧a<N) (hb:0≤b∧b<N) (hab:a≠b):∀ d i tn td FR SN,N+1≤i+d→i≤tn→BInv N m g F T Q td (fun s=>FR (td s).toNat) a b tn→SeenI N td SN tn→BZero F td b tn→BClo m g T Q td i 0 tn→OutS N k nb m g F T Q a b i tn td FR SN:=by
  intro d
  induction d with
  | zero =>
    intro i tn td FR SN hd hi hbi _ _ _
    have:=pigeon N tn td hbi.rng hbi.inj
    omega
  | succ d ih =>
    intro i tn td FR SN hd hi hbi hsn hz hcl
    have htn:=pigeon N tn td hbi.rng hbi.inj
    by_cases hit:i<tn
    · have hd':decide ((i:Int)<(tn:Int))=true:=by simp;omega
      obtain ⟨H',res,hrun,hmv⟩:=mid_s hp hk hN hm hnb ha hb hab i (fun tn td FR SN h1 h2 h3 h4 h5=>ih (i+1) tn td FR SN (by omega) h1 h2 h3 h4 h5) m 0 tn td FR SN (by omega) hit hbi hsn hz hcl
      refine ⟨H',res,fun c hc=>?_,hmv⟩
      refine piece_ok mixed hc (qF1 g nb N m F T Q td FR SN a b i tn) ?_ (hrun c hc)
      repeat' (first | exact aN | apply aI)
      all_goals (first | exact aP _ _ | exact aA _ _ | omega | rfl | (intros;first | assumption | exact trivial | rfl | exact fT ‹_› | ((repeat' (first | assumption | apply anda | apply notf));done)) | (intro i hi;simp [All]))
    · have hd':decide ((i:Int)<(tn:Int))=false:=by simp;omega
      obtain rfl:i=tn:=by omega
      refine ⟨_,_,fun c hc=>?_,.no (moved_no hp hbi hz hcl)⟩
      refine path_ok mixed Try.func180 hc (qF1e g nb N m F T Q td FR SN a b i i) ?_
      repeat' (first | exact aN | apply aI)
      all_goals (first | exact aA _ _ | exact aE _ | omega | rfl | (intros;first | assumption | exact trivial | rfl | exact fT ‹_› | ((repeat' (first | assumption | apply anda | apply notf));done)) | (intro i hi;simp [All]))
theorem con_l4Find {N k nb m:Nat} {g:Nat→T_Bar} {F T Q:Nat→Int} {a b:Int} (hp:PInv N k nb m g F T Q) (hk:k≤1048576) (hN:N≤1048576) (hm:m≤1048576) (hnb:nb≤1048576)
    (ha:0≤a∧a<N) (hb:0≤b∧b<N) (hab:a≠b):∃ H' res,Con Try.prog 180 3 (pebR N m F T Q) [grG g nb N,pebO N m 0,.p (.int .i64 a),.p (.int .i64 b)] H' res∧FindR N k nb m g F T Q a b H' res:=by
  obtain ⟨H',res,hrun,hmv⟩:=out_s hp hk hN hm hnb ha hb hab (N+1) 0 1 (fun _=>a) (fun _=>-1) (fun s=>if s=a.toNat then true else false) (by omega) (by omega)
    ⟨by omega,rfl,fun s hs=>ha,fun s s' h1 h2=>by omega,fun s h1 h2=>by omega⟩ (fun x hx=>by
      show (if x=a.toNat then true else false)=true↔∃ s,s<1∧a=x
      by_cases e:x=a.toNat
      · rw [if_pos e];exact ⟨fun _=>⟨0,by omega,by omega⟩,fun _=>rfl⟩
      · rw [if_neg e];exact ⟨(fun h=>by cases h),(fun ⟨s,h1,h2⟩=>by omega)⟩) (fun s h1 h2=>by omega) (fun i' j' h=>by omega)
  refine ⟨H',res,?_,hmv⟩
  refine con_start Try.func180 rfl (by kernel_rfl) rfl (fun c hc=>?_)
  have lp0:∀ d i,i+d=N→Run Try.prog c 180 zf29 (SF0 g nb N m F T Q a b i) (Post c H' res):=by
    intro d
    induction d with
    | zero =>
      intro i hi
      obtain rfl:i=N:=by omega
      have hd:decide ((i:Int)<(i:Int))=false:=by simp
      refine piece_ok mixed hc (qF01 g nb i m F T Q a b i) ?_ (hrun c hc)
      repeat' (first | exact aN | apply aI)
      all_goals (first | exact aP _ _ | exact aA _ _ | omega | rfl | (intros;first | assumption | exact trivial | rfl | exact fT ‹_› | ((repeat' (first | assumption | apply anda | apply notf));done)) | (intro j hj;simp [All];done) | (intro j hj;simp [hj,All];done) | (intro j hj;by_cases h:j=a.toNat<;>simp [h,cvtL,cvt,tg,tru,All]))
    | succ d ih =>
      intro i hi
      have hd:decide ((i:Int)<(N:Int))=true:=by simp;omega
      refine piece_ok mixed hc (qF0 g nb N m F T Q a b i) ?_ (ih (i+1) (by omega))
      repeat' (first | exact aN | apply aI)
      all_goals (first | exact aP _ _ | exact aA _ _ | omega | rfl | (intros;first | assumption | exact trivial | rfl | exact fT ‹_› | ((repeat' (first | assumption | apply anda | apply notf));done)) | (intro j hj;simp [All];done) | (intro j hj;by_cases h:j=i<;>simp [h,Nat.lt_succ_iff_lt_or_eq,cvtL,cvt,tg,tru,All]))
  refine piece_ok mixed hc (qFz g nb N m F T Q a b) ?_ (lp0 N 0 (by omega))
  repeat' (first | exact aN | apply aI)
  all_goals (first | exact aP _ _ | exact aA _ _ | omega | rfl | (intros;first | assumption | exact trivial | rfl | exact fT ‹_› | ((repeat' (first | assumption | apply anda | apply notf));done)) | (intro i hi;simp [All]))
end Go.Proofs.Ytffnfeefjdmifaa.Mach
namespace Go.Proofs.Ytffnfeefjdmifaa.Mach
open Go
set_option linter.unusedVariables false
set_option linter.unusedSimpArgs false
def inB (x a b:Int):Bool:=decide (a≤x)&&decide (x≤b)
theorem p36 (x a b:Int) :
    pathOb Try.prog Try.f37 0 [rg 1,rg 9] [.code (bodyOf Try.f37)] (start Try.f37 [] 0 [.p (.int .i64 x),.p (.int .i64 a),.p (.int .i64 b)]) [] 1 [] (.p (.bool (inB x a b))) =
    some [(AG (decide (x≥a))),(AG (decide (x≥a))),(AG (decide (x≥a))),((bif decide (x≥a) then decide (x≤b) else false)=(inB x a b))]:=by kernel_rfl
theorem p37 (x a b:Int) :
    pathOb Try.prog Try.f40 0 [rg 1,rg 9] [.code (bodyOf Try.f40)] (start Try.f40 [] 0 [.p (.int .i64 x),.p (.int .i64 a),.p (.int .i64 b)]) [] 1 [] (.p (.bool (inB x a b))) =
    some [(AG (decide (x≥a))),(AG (decide (x≥a))),(AG (decide (x≥a))),((bif decide (x≥a) then decide (x≤b) else false)=(inB x a b))]:=by kernel_rfl
theorem con_l1In (x a b:Int):Con Try.prog 37 0 [] [.p (.int .i64 x),.p (.int .i64 a),.p (.int .i64 b)] [] (.p (.bool (inB x a b))):=by
  refine con_start Try.func37 rfl (by kernel_rfl) rfl (fun c hc=>?_)
  refine path_ok mixed Try.func37 hc (p36 x a b) ?_
  repeat' (first | exact aN | apply aI)
  all_goals (first | exact aG _ | omega | rfl | (intros;first | assumption | exact trivial | rfl | exact fT ‹_› | ((repeat' (first | assumption | apply anda | apply notf));done)) | (simp only [inB];cases decide (a≤x)<;>rfl))
theorem con_within (x a b:Int):Con Try.prog 40 0 [] [.p (.int .i64 x),.p (.int .i64 a),.p (.int .i64 b)] [] (.p (.bool (inB x a b))):=by
  refine con_start Try.func40 rfl (by kernel_rfl) rfl (fun c hc=>?_)
  refine path_ok mixed Try.func40 hc (p37 x a b) ?_
  repeat' (first | exact aN | apply aI)
  all_goals (first | exact aG _ | omega | rfl | (intros;first | assumption | exact trivial | rfl | exact fT ‹_› | ((repeat' (first | assumption | apply anda | apply notf));done)) | (simp only [inB];cases decide (a≤x)<;>rfl))
end Go.Proofs.Ytffnfeefjdmifaa.Mach
namespace Go.Proofs.Ytffnfeefjdmifaa.Mach
open Go
set_option linter.unusedVariables false
set_option linter.unusedSimpArgs false
def aft (a b:T_Bar):Bool:=bif decide (a.1<b.1) then true else bif a.1==b.1 then decide (a.2.1≤b.2.1) else false
def cmpI (x y:Int):Int:=if x<y then -1 else if x>y then 1 else 0
def cmpB (a b:T_Bar):Int:=if cmpI a.1 b.1=0 then cmpI a.2.1 b.2.1 else cmpI a.1 b.1
def badB (N:Int) (g:Nat→T_Bar) (k:Nat):Bool :=
  bif bif bif decide ((g k).1<0) then true else decide ((g k).1≥(g k).2.1) then true else decide ((g k).2.1≥N) then true
    else bif decide ((k:Int)>0) then !aft (g ((k:Int) - 1).toNat) (g k) else false
def goodB (N:Int) (g:Nat→T_Bar):Nat→Bool
  | 0=>true
  | k+1=>goodB N g k&&!badB N g k
def isGraphF (v:T_Graph):Bool:=if inB v.1 1 8=true∧v.2.1.1≤24 then goodB v.1 v.2.1.2 v.2.1.1 else false
def barA (a:T_Bar):AV:=.agg [.p (.int .i64 a.1),.p (.int .i64 a.2.1)]
def graphL (v:T_BarS):AV:=.p (.seq true 2 v.1 (fun i=>[.int .i64 (v.2 i).1,.int .i64 (v.2 i).2.1]))
def graphA (v:T_Graph):AV:=.agg [.p (.int .i64 v.1),graphL v.2.1]
def boxG (v:T_Graph):Ob:=⟨true,2,1,fun i=>[.p (.int .i64 v.1),graphL v.2.1]⟩
def S48 (v:T_Graph) (k:Nat):St :=
  ⟨[graphA v,.pt 2 0 0 0,.p .any,.p (.int .i64 k)]++List.replicate 55 anyA,[(0,boxG v)],1⟩
def S51 (v:T_Graph) (k:Nat):St :=
  ⟨[graphA v,.pt 2 0 0 0]++List.replicate 14 anyA++[graphL v.2.1,.p (.int .i64 v.2.1.1),.p (.int .i64 k)]++List.replicate 37 anyA,[(0,boxG v)],1⟩
theorem p57 (a b:T_Bar) :
    pathOb Try.prog Try.f141 0 [rg 3,rg 20] [.code (bodyOf Try.f141)] (start Try.f141 [] 0 [barA a,barA b]) [] 1 [] (.p (.bool (aft a b))) =
    some [(NT 0 1),(NT 0 1),(AG (!decide (a.1<b.1))),(((!decide (a.1<b.1))=true)→(NT 0 1)),(AG (!decide (a.1<b.1))),(((!decide (a.1<b.1))=true)→(NT 0 1)),(AG (!decide (a.1<b.1))),(AG (!decide (a.1<b.1))),(AG (!decide (a.1<b.1))),(AG (!decide (a.1<b.1)&&a.1==b.1)),(((!decide (a.1<b.1)&&a.1==b.1)=true)→(NT 0 1)),(AG (!decide (a.1<b.1)&&a.1==b.1)),(((!decide (a.1<b.1)&&a.1==b.1)=true)→(NT 0 1)),(AG (!decide (a.1<b.1)&&a.1==b.1)),(AG (!decide (a.1<b.1)&&a.1==b.1)),(AG (!decide (a.1<b.1))),(((!decide (a.1<b.1))=true)→(((a.1==b.1)=true)→ ((!decide (a.1<b.1)&&a.1==b.1)=true))),(((decide (a.1<b.1))=false)→ ((!decide (a.1<b.1))=true)),((bif decide (a.1<b.1) then true else bif a.1==b.1 then decide (a.2.1≤b.2.1) else false)=(aft a b))]:=by kernel_rfl
theorem p62a (x y:Int) :
    pathOb Try.prog Try.f152 0 [rg 1,rg 4,.dec true,rg 1] [.code (bodyOf Try.f152)] (start Try.f152 [] 0 [.p (.int .i64 x),.p (.int .i64 y)]) [] 1 [] (.p (.int .i64 (-1))) =
    some [((decide (x<y))=true),(AI ((-1)))]:=by kernel_rfl
theorem p62b (x y:Int) :
    pathOb Try.prog Try.f152 0 [rg 1,rg 4,.dec false,rg 4,.dec true,rg 1] [.code (bodyOf Try.f152)] (start Try.f152 [] 0 [.p (.int .i64 x),.p (.int .i64 y)]) [] 1 [] (.p (.int .i64 1)) =
    some [((decide (x<y))=false),((decide (x>y))=true),(AI 1)]:=by kernel_rfl
theorem p62c (x y:Int) :
    pathOb Try.prog Try.f152 0 [rg 1,rg 4,.dec false,rg 4,.dec false,rg 1] [.code (bodyOf Try.f152)] (start Try.f152 [] 0 [.p (.int .i64 x),.p (.int .i64 y)]) [] 1 [] (.p (.int .i64 0)) =
    some [((decide (x<y))=false),((decide (x>y))=false),(AI 0)]:=by kernel_rfl
theorem p59a (a b:T_Bar) :
    pathOb Try.prog Try.f135 0 [rg 3,rm [(4,oc [] (.p (.int .i64 (cmpI a.1 b.1))))] 1,rg 2,.dec true,rg 2] [.code (bodyOf Try.f135)] (start Try.f135 [] 0 [barA a,barA b]) [] 1 [] (.p (.int .i64 (cmpI a.1 b.1))) =
    some [(NT 0 1),(NT 0 1),Con Try.prog 152 0 [] [.p (.int .i64 a.1),.p (.int .i64 b.1)] [] (.p (.int .i64 (cmpI a.1 b.1))),((cmpI a.1 b.1 != 0)=true),(AI ((cmpI a.1 b.1)))]:=by kernel_rfl
theorem p59b (a b:T_Bar) :
    pathOb Try.prog Try.f135 0 [rg 3,rm [(4,oc [] (.p (.int .i64 (cmpI a.1 b.1))))] 1,rg 2,.dec false,rm [(4,oc [] (.p (.int .i64 (cmpI a.2.1 b.2.1))))] 1] [.code (bodyOf Try.f135)] (start Try.f135 [] 0 [barA a,barA b]) [] 1 [] (.p (.int .i64 (cmpI a.2.1 b.2.1))) =
    some [(NT 0 1),(NT 0 1),Con Try.prog 152 0 [] [.p (.int .i64 a.1),.p (.int .i64 b.1)] [] (.p (.int .i64 (cmpI a.1 b.1))),((cmpI a.1 b.1 != 0)=false),(NT 0 1),(NT 0 1),Con Try.prog 152 0 [] [.p (.int .i64 a.2.1),.p (.int .i64 b.2.1)] [] (.p (.int .i64 (cmpI a.2.1 b.2.1))),(AI ((cmpI a.2.1 b.2.1)))]:=by kernel_rfl
theorem p48z (v:T_Graph) :
    pathOb Try.prog Try.f110 0 [rg 2,rm [(2,oc [] (.p (.bool (inB v.1 1 8))))] 7,.dec true,rg 1] [.code (bodyOf Try.f110)] (start Try.f110 [] 0 [graphA v]) [] 1 [] (.p (.bool false)) =
    some [(NT 0 1),Con Try.prog 37 0 [] [.p (.int .i64 v.1),.p (.int .i64 1),.p (.int .i64 8)] [] (.p (.bool (inB v.1 1 8))),(AG (!!inB v.1 1 8)),(((!!inB v.1 1 8)=true)→(NT 0 1)),(AG (!!inB v.1 1 8)),(AG (!!inB v.1 1 8)),(((!inB v.1 1 8)=false)→ ((!!inB v.1 1 8)=true)),((bif !inB v.1 1 8 then true else decide ((↑v.2.1.1:Int)>24))=true),(false=false)]:=by kernel_rfl
theorem p48a (v:T_Graph) :
    pieceOb Try.prog 0 [rg 2,rm [(2,oc [] (.p (.bool (inB v.1 1 8))))] 7,.dec false,rg 1,.head] [.code (bodyOf Try.f110)] (start Try.f110 [] 0 [graphA v]) [0] 1 (S48 v 0) =
    some (zf30,[(NT 0 1),Con Try.prog 37 0 [] [.p (.int .i64 v.1),.p (.int .i64 1),.p (.int .i64 8)] [] (.p (.bool (inB v.1 1 8))),(AG (!!inB v.1 1 8)),(((!!inB v.1 1 8)=true)→(NT 0 1)),(AG (!!inB v.1 1 8)),(AG (!!inB v.1 1 8)),(((!inB v.1 1 8)=false)→ ((!!inB v.1 1 8)=true)),((bif !inB v.1 1 8 then true else decide ((↑v.2.1.1:Int)>24))=false),(AI v.1),(AN v.2.1.1),(AP v.2.1.1 (fun i=>[.int .i64 ((v.2.1.2 i).1),.int .i64 ((v.2.1.2 i).2.1)])),(AN 0),((0:Int)=(↑0:Int)),((([AV.p (PV.int IntKind.i64 v.1),graphL v.2.1].length):Nat)=2),(NL 1 1),(NL 1 1),(AI v.1),(AN v.2.1.1),(AP v.2.1.1 (fun i=>[.int .i64 ((v.2.1.2 i).1),.int .i64 ((v.2.1.2 i).2.1)]))]):=by kernel_rfl
theorem p48b (v:T_Graph) (k:Nat) :
    pieceOb Try.prog 0 [rg 5,.dec true,rg 7,rm [(28,oc [] (.p (.bool (aft (v.2.1.2 ((k:Int) - 1).toNat) (v.2.1.2 k)))))] 3,.dec false,rg 3,.head] zf30 (S48 v k) [0] 1 (S48 v (k+1)) =
    some (zf30,[(NT 0 1),((decide ((↑k:Int)<(↑v.2.1.1:Int)))=true),(NT 0 1),(IL 0 (↑k:Int)),(IT (↑k:Int) (↑v.2.1.1:Int)),(NT 0 1),((true=true)→ (AN 1)),(NT 0 1),(AG (!decide ((v.2.1.2 (↑k:Int).toNat).1<0))),(((!decide ((v.2.1.2 (↑k:Int).toNat).1<0))=true)→(NT 0 1)),(AG (!decide ((v.2.1.2 (↑k:Int).toNat).1<0))),(((!decide ((v.2.1.2 (↑k:Int).toNat).1<0))=true)→(NT 0 1)),(AG (!decide ((v.2.1.2 (↑k:Int).toNat).1<0))),(AG (!decide ((v.2.1.2 (↑k:Int).toNat).1<0))),(((decide ((v.2.1.2 (↑k:Int).toNat).1<0))=false)→ ((!decide ((v.2.1.2 (↑k:Int).toNat).1<0))=true)),(AG (!bif decide ((v.2.1.2 (↑k:Int).toNat).1<0) then true else decide ((v.2.1.2 (↑k:Int).toNat).1≥(v.2.1.2 (↑k:Int).toNat).2.1))),(((!bif decide ((v.2.1.2 (↑k:Int).toNat).1<0) then true else decide ((v.2.1.2 (↑k:Int).toNat).1≥(v.2.1.2 (↑k:Int).toNat).2.1))=true)→(NT 0 1)),(AG (!bif decide ((v.2.1.2 (↑k:Int).toNat).1<0) then true else decide ((v.2.1.2 (↑k:Int).toNat).1≥(v.2.1.2 (↑k:Int).toNat).2.1))),(((!bif decide ((v.2.1.2 (↑k:Int).toNat).1<0) then true else decide ((v.2.1.2 (↑k:Int).toNat).1≥(v.2.1.2 (↑k:Int).toNat).2.1))=true)→(NT 0 1)),(AG (!bif decide ((v.2.1.2 (↑k:Int).toNat).1<0) then true else decide ((v.2.1.2 (↑k:Int).toNat).1≥(v.2.1.2 (↑k:Int).toNat).2.1))),(AG (!bif decide ((v.2.1.2 (↑k:Int).toNat).1<0) then true else decide ((v.2.1.2 (↑k:Int).toNat).1≥(v.2.1.2 (↑k:Int).toNat).2.1))),(((bif decide ((v.2.1.2 (↑k:Int).toNat).1<0) then true else decide ((v.2.1.2 (↑k:Int).toNat).1≥(v.2.1.2 (↑k:Int).toNat).2.1))=false)→ ((!bif decide ((v.2.1.2 (↑k:Int).toNat).1<0) then true else decide ((v.2.1.2 (↑k:Int).toNat).1≥(v.2.1.2 (↑k:Int).toNat).2.1))=true)),(AG (!bif bif decide ((v.2.1.2 (↑k:Int).toNat).1<0) then true else decide ((v.2.1.2 (↑k:Int).toNat).1≥(v.2.1.2 (↑k:Int).toNat).2.1) then true else decide ((v.2.1.2 (↑k:Int).toNat).2.1≥v.1))),(AG (!bif bif decide ((v.2.1.2 (↑k:Int).toNat).1<0) then true else decide ((v.2.1.2 (↑k:Int).toNat).1≥(v.2.1.2 (↑k:Int).toNat).2.1) then true else decide ((v.2.1.2 (↑k:Int).toNat).2.1≥v.1))),(AG ((!bif bif decide ((v.2.1.2 (↑k:Int).toNat).1<0) then true else decide ((v.2.1.2 (↑k:Int).toNat).1≥(v.2.1.2 (↑k:Int).toNat).2.1) then true else decide ((v.2.1.2 (↑k:Int).toNat).2.1≥v.1))&&decide ((↑k:Int)>0))),((((!bif bif decide ((v.2.1.2 (↑k:Int).toNat).1<0) then true else decide ((v.2.1.2 (↑k:Int).toNat).1≥(v.2.1.2 (↑k:Int).toNat).2.1) then true else decide ((v.2.1.2 (↑k:Int).toNat).2.1≥v.1))&&decide ((↑k:Int)>0))=true)→(NT 0 1)),(AG ((!bif bif decide ((v.2.1.2 (↑k:Int).toNat).1<0) then true else decide ((v.2.1.2 (↑k:Int).toNat).1≥(v.2.1.2 (↑k:Int).toNat).2.1) then true else decide ((v.2.1.2 (↑k:Int).toNat).2.1≥v.1))&&decide ((↑k:Int)>0))),((((!bif bif decide ((v.2.1.2 (↑k:Int).toNat).1<0) then true else decide ((v.2.1.2 (↑k:Int).toNat).1≥(v.2.1.2 (↑k:Int).toNat).2.1) then true else decide ((v.2.1.2 (↑k:Int).toNat).2.1≥v.1))&&decide ((↑k:Int)>0))=true)→(R0 ((↑k:Int) - 1))),((((!bif bif decide ((v.2.1.2 (↑k:Int).toNat).1<0) then true else decide ((v.2.1.2 (↑k:Int).toNat).1≥(v.2.1.2 (↑k:Int).toNat).2.1) then true else decide ((v.2.1.2 (↑k:Int).toNat).2.1≥v.1))&&decide ((↑k:Int)>0))=true)→(R1 ((↑k:Int) - 1))),(AG ((!bif bif decide ((v.2.1.2 (↑k:Int).toNat).1<0) then true else decide ((v.2.1.2 (↑k:Int).toNat).1≥(v.2.1.2 (↑k:Int).toNat).2.1) then true else decide ((v.2.1.2 (↑k:Int).toNat).2.1≥v.1))&&decide ((↑k:Int)>0))),(AG ((!bif bif decide ((v.2.1.2 (↑k:Int).toNat).1<0) then true else decide ((v.2.1.2 (↑k:Int).toNat).1≥(v.2.1.2 (↑k:Int).toNat).2.1) then true else decide ((v.2.1.2 (↑k:Int).toNat).2.1≥v.1))&&decide ((↑k:Int)>0))),((((!bif bif decide ((v.2.1.2 (↑k:Int).toNat).1<0) then true else decide ((v.2.1.2 (↑k:Int).toNat).1≥(v.2.1.2 (↑k:Int).toNat).2.1) then true else decide ((v.2.1.2 (↑k:Int).toNat).2.1≥v.1))&&decide ((↑k:Int)>0))=true)→(IL 0 ((↑k:Int) - 1))),((((!bif bif decide ((v.2.1.2 (↑k:Int).toNat).1<0) then true else decide ((v.2.1.2 (↑k:Int).toNat).1≥(v.2.1.2 (↑k:Int).toNat).2.1) then true else decide ((v.2.1.2 (↑k:Int).toNat).2.1≥v.1))&&decide ((↑k:Int)>0))=true)→(IT ((↑k:Int) - 1) (↑v.2.1.1:Int))),(AG ((!bif bif decide ((v.2.1.2 (↑k:Int).toNat).1<0) then true else decide ((v.2.1.2 (↑k:Int).toNat).1≥(v.2.1.2 (↑k:Int).toNat).2.1) then true else decide ((v.2.1.2 (↑k:Int).toNat).2.1≥v.1))&&decide ((↑k:Int)>0))),((((!bif bif decide ((v.2.1.2 (↑k:Int).toNat).1<0) then true else decide ((v.2.1.2 (↑k:Int).toNat).1≥(v.2.1.2 (↑k:Int).toNat).2.1) then true else decide ((v.2.1.2 (↑k:Int).toNat).2.1≥v.1))&&decide ((↑k:Int)>0))=true)→(NT 0 1)),(AG ((!bif bif decide ((v.2.1.2 (↑k:Int).toNat).1<0) then true else decide ((v.2.1.2 (↑k:Int).toNat).1≥(v.2.1.2 (↑k:Int).toNat).2.1) then true else decide ((v.2.1.2 (↑k:Int).toNat).2.1≥v.1))&&decide ((↑k:Int)>0))),(AG ((!bif bif decide ((v.2.1.2 (↑k:Int).toNat).1<0) then true else decide ((v.2.1.2 (↑k:Int).toNat).1≥(v.2.1.2 (↑k:Int).toNat).2.1) then true else decide ((v.2.1.2 (↑k:Int).toNat).2.1≥v.1))&&decide ((↑k:Int)>0))),((((!bif bif decide ((v.2.1.2 (↑k:Int).toNat).1<0) then true else decide ((v.2.1.2 (↑k:Int).toNat).1≥(v.2.1.2 (↑k:Int).toNat).2.1) then true else decide ((v.2.1.2 (↑k:Int).toNat).2.1≥v.1))&&decide ((↑k:Int)>0))=true)→ Con Try.prog 141 0 [] [(zf50 v k),(zf59 v k)] [] (.p (.bool (aft (v.2.1.2 ((↑k:Int) - 1).toNat) (v.2.1.2 k))))),(AG ((!bif bif decide ((v.2.1.2 (↑k:Int).toNat).1<0) then true else decide ((v.2.1.2 (↑k:Int).toNat).1≥(v.2.1.2 (↑k:Int).toNat).2.1) then true else decide ((v.2.1.2 (↑k:Int).toNat).2.1≥v.1))&&decide ((↑k:Int)>0))),(AG (!bif bif decide ((v.2.1.2 (↑k:Int).toNat).1<0) then true else decide ((v.2.1.2 (↑k:Int).toNat).1≥(v.2.1.2 (↑k:Int).toNat).2.1) then true else decide ((v.2.1.2 (↑k:Int).toNat).2.1≥v.1))),(((!bif bif decide ((v.2.1.2 (↑k:Int).toNat).1<0) then true else decide ((v.2.1.2 (↑k:Int).toNat).1≥(v.2.1.2 (↑k:Int).toNat).2.1) then true else decide ((v.2.1.2 (↑k:Int).toNat).2.1≥v.1))=true)→(((decide ((↑k:Int)>0))=true)→ (((!bif bif decide ((v.2.1.2 (↑k:Int).toNat).1<0) then true else decide ((v.2.1.2 (↑k:Int).toNat).1≥(v.2.1.2 (↑k:Int).toNat).2.1) then true else decide ((v.2.1.2 (↑k:Int).toNat).2.1≥v.1))&&decide ((↑k:Int)>0))=true))),(((bif bif decide ((v.2.1.2 (↑k:Int).toNat).1<0) then true else decide ((v.2.1.2 (↑k:Int).toNat).1≥(v.2.1.2 (↑k:Int).toNat).2.1) then true else decide ((v.2.1.2 (↑k:Int).toNat).2.1≥v.1))=false)→ ((!bif bif decide ((v.2.1.2 (↑k:Int).toNat).1<0) then true else decide ((v.2.1.2 (↑k:Int).toNat).1≥(v.2.1.2 (↑k:Int).toNat).2.1) then true else decide ((v.2.1.2 (↑k:Int).toNat).2.1≥v.1))=true)),((bif bif bif decide ((v.2.1.2 (↑k:Int).toNat).1<0) then true else decide ((v.2.1.2 (↑k:Int).toNat).1≥(v.2.1.2 (↑k:Int).toNat).2.1) then true else decide ((v.2.1.2 (↑k:Int).toNat).2.1≥v.1) then true else bif decide ((↑k:Int)>0) then !aft (v.2.1.2 ((↑k:Int) - 1).toNat) (v.2.1.2 k) else false)=false),(R0 ((↑k:Int)+1)),(R1 ((↑k:Int)+1)),(AI v.1),(AN v.2.1.1),(AP v.2.1.1 (fun i=>[.int .i64 ((v.2.1.2 i).1),.int .i64 ((v.2.1.2 i).2.1)])),(AN 0),((((↑k:Int)+1):Int)=(↑(k+1):Int)),(AN 2),(NL 1 1),(NL 1 1),(AI v.1),(AN v.2.1.1),(AP v.2.1.1 (fun i=>[.int .i64 ((v.2.1.2 i).1),.int .i64 ((v.2.1.2 i).2.1)]))]):=by kernel_rfl
theorem p48c (v:T_Graph) (k:Nat) :
    pathOb Try.prog Try.f110 0 [rg 5,.dec true,rg 7,rm [(28,oc [] (.p (.bool (aft (v.2.1.2 ((k:Int) - 1).toNat) (v.2.1.2 k)))))] 3,.dec true,rg 1] zf30 (S48 v k) [] 1 [] (.p (.bool false)) =
    some [(NT 0 1),((decide ((↑k:Int)<(↑v.2.1.1:Int)))=true),(NT 0 1),(IL 0 (↑k:Int)),(IT (↑k:Int) (↑v.2.1.1:Int)),(NT 0 1),((true=true)→ (AN 1)),(NT 0 1),(AG (!decide ((v.2.1.2 (↑k:Int).toNat).1<0))),(((!decide ((v.2.1.2 (↑k:Int).toNat).1<0))=true)→(NT 0 1)),(AG (!decide ((v.2.1.2 (↑k:Int).toNat).1<0))),(((!decide ((v.2.1.2 (↑k:Int).toNat).1<0))=true)→(NT 0 1)),(AG (!decide ((v.2.1.2 (↑k:Int).toNat).1<0))),(AG (!decide ((v.2.1.2 (↑k:Int).toNat).1<0))),(((decide ((v.2.1.2 (↑k:Int).toNat).1<0))=false)→ ((!decide ((v.2.1.2 (↑k:Int).toNat).1<0))=true)),(AG (!bif decide ((v.2.1.2 (↑k:Int).toNat).1<0) then true else decide ((v.2.1.2 (↑k:Int).toNat).1≥(v.2.1.2 (↑k:Int).toNat).2.1))),(((!bif decide ((v.2.1.2 (↑k:Int).toNat).1<0) then true else decide ((v.2.1.2 (↑k:Int).toNat).1≥(v.2.1.2 (↑k:Int).toNat).2.1))=true)→(NT 0 1)),(AG (!bif decide ((v.2.1.2 (↑k:Int).toNat).1<0) then true else decide ((v.2.1.2 (↑k:Int).toNat).1≥(v.2.1.2 (↑k:Int).toNat).2.1))),(((!bif decide ((v.2.1.2 (↑k:Int).toNat).1<0) then true else decide ((v.2.1.2 (↑k:Int).toNat).1≥(v.2.1.2 (↑k:Int).toNat).2.1))=true)→(NT 0 1)),(AG (!bif decide ((v.2.1.2 (↑k:Int).toNat).1<0) then true else decide ((v.2.1.2 (↑k:Int).toNat).1≥(v.2.1.2 (↑k:Int).toNat).2.1))),(AG (!bif decide ((v.2.1.2 (↑k:Int).toNat).1<0) then true else decide ((v.2.1.2 (↑k:Int).toNat).1≥(v.2.1.2 (↑k:Int).toNat).2.1))),(((bif decide ((v.2.1.2 (↑k:Int).toNat).1<0) then true else decide ((v.2.1.2 (↑k:Int).toNat).1≥(v.2.1.2 (↑k:Int).toNat).2.1))=false)→ ((!bif decide ((v.2.1.2 (↑k:Int).toNat).1<0) then true else decide ((v.2.1.2 (↑k:Int).toNat).1≥(v.2.1.2 (↑k:Int).toNat).2.1))=true)),(AG (!bif bif decide ((v.2.1.2 (↑k:Int).toNat).1<0) then true else decide ((v.2.1.2 (↑k:Int).toNat).1≥(v.2.1.2 (↑k:Int).toNat).2.1) then true else decide ((v.2.1.2 (↑k:Int).toNat).2.1≥v.1))),(AG (!bif bif decide ((v.2.1.2 (↑k:Int).toNat).1<0) then true else decide ((v.2.1.2 (↑k:Int).toNat).1≥(v.2.1.2 (↑k:Int).toNat).2.1) then true else decide ((v.2.1.2 (↑k:Int).toNat).2.1≥v.1))),(AG ((!bif bif decide ((v.2.1.2 (↑k:Int).toNat).1<0) then true else decide ((v.2.1.2 (↑k:Int).toNat).1≥(v.2.1.2 (↑k:Int).toNat).2.1) then true else decide ((v.2.1.2 (↑k:Int).toNat).2.1≥v.1))&&decide ((↑k:Int)>0))),((((!bif bif decide ((v.2.1.2 (↑k:Int).toNat).1<0) then true else decide ((v.2.1.2 (↑k:Int).toNat).1≥(v.2.1.2 (↑k:Int).toNat).2.1) then true else decide ((v.2.1.2 (↑k:Int).toNat).2.1≥v.1))&&decide ((↑k:Int)>0))=true)→(NT 0 1)),(AG ((!bif bif decide ((v.2.1.2 (↑k:Int).toNat).1<0) then true else decide ((v.2.1.2 (↑k:Int).toNat).1≥(v.2.1.2 (↑k:Int).toNat).2.1) then true else decide ((v.2.1.2 (↑k:Int).toNat).2.1≥v.1))&&decide ((↑k:Int)>0))),((((!bif bif decide ((v.2.1.2 (↑k:Int).toNat).1<0) then true else decide ((v.2.1.2 (↑k:Int).toNat).1≥(v.2.1.2 (↑k:Int).toNat).2.1) then true else decide ((v.2.1.2 (↑k:Int).toNat).2.1≥v.1))&&decide ((↑k:Int)>0))=true)→(R0 ((↑k:Int) - 1))),((((!bif bif decide ((v.2.1.2 (↑k:Int).toNat).1<0) then true else decide ((v.2.1.2 (↑k:Int).toNat).1≥(v.2.1.2 (↑k:Int).toNat).2.1) then true else decide ((v.2.1.2 (↑k:Int).toNat).2.1≥v.1))&&decide ((↑k:Int)>0))=true)→(R1 ((↑k:Int) - 1))),(AG ((!bif bif decide ((v.2.1.2 (↑k:Int).toNat).1<0) then true else decide ((v.2.1.2 (↑k:Int).toNat).1≥(v.2.1.2 (↑k:Int).toNat).2.1) then true else decide ((v.2.1.2 (↑k:Int).toNat).2.1≥v.1))&&decide ((↑k:Int)>0))),(AG ((!bif bif decide ((v.2.1.2 (↑k:Int).toNat).1<0) then true else decide ((v.2.1.2 (↑k:Int).toNat).1≥(v.2.1.2 (↑k:Int).toNat).2.1) then true else decide ((v.2.1.2 (↑k:Int).toNat).2.1≥v.1))&&decide ((↑k:Int)>0))),((((!bif bif decide ((v.2.1.2 (↑k:Int).toNat).1<0) then true else decide ((v.2.1.2 (↑k:Int).toNat).1≥(v.2.1.2 (↑k:Int).toNat).2.1) then true else decide ((v.2.1.2 (↑k:Int).toNat).2.1≥v.1))&&decide ((↑k:Int)>0))=true)→(IL 0 ((↑k:Int) - 1))),((((!bif bif decide ((v.2.1.2 (↑k:Int).toNat).1<0) then true else decide ((v.2.1.2 (↑k:Int).toNat).1≥(v.2.1.2 (↑k:Int).toNat).2.1) then true else decide ((v.2.1.2 (↑k:Int).toNat).2.1≥v.1))&&decide ((↑k:Int)>0))=true)→(IT ((↑k:Int) - 1) (↑v.2.1.1:Int))),(AG ((!bif bif decide ((v.2.1.2 (↑k:Int).toNat).1<0) then true else decide ((v.2.1.2 (↑k:Int).toNat).1≥(v.2.1.2 (↑k:Int).toNat).2.1) then true else decide ((v.2.1.2 (↑k:Int).toNat).2.1≥v.1))&&decide ((↑k:Int)>0))),((((!bif bif decide ((v.2.1.2 (↑k:Int).toNat).1<0) then true else decide ((v.2.1.2 (↑k:Int).toNat).1≥(v.2.1.2 (↑k:Int).toNat).2.1) then true else decide ((v.2.1.2 (↑k:Int).toNat).2.1≥v.1))&&decide ((↑k:Int)>0))=true)→(NT 0 1)),(AG ((!bif bif decide ((v.2.1.2 (↑k:Int).toNat).1<0) then true else decide ((v.2.1.2 (↑k:Int).toNat).1≥(v.2.1.2 (↑k:Int).toNat).2.1) then true else decide ((v.2.1.2 (↑k:Int).toNat).2.1≥v.1))&&decide ((↑k:Int)>0))),(AG ((!bif bif decide ((v.2.1.2 (↑k:Int).toNat).1<0) then true else decide ((v.2.1.2 (↑k:Int).toNat).1≥(v.2.1.2 (↑k:Int).toNat).2.1) then true else decide ((v.2.1.2 (↑k:Int).toNat).2.1≥v.1))&&decide ((↑k:Int)>0))),((((!bif bif decide ((v.2.1.2 (↑k:Int).toNat).1<0) then true else decide ((v.2.1.2 (↑k:Int).toNat).1≥(v.2.1.2 (↑k:Int).toNat).2.1) then true else decide ((v.2.1.2 (↑k:Int).toNat).2.1≥v.1))&&decide ((↑k:Int)>0))=true)→ Con Try.prog 141 0 [] [(zf50 v k),(zf59 v k)] [] (.p (.bool (aft (v.2.1.2 ((↑k:Int) - 1).toNat) (v.2.1.2 k))))),(AG ((!bif bif decide ((v.2.1.2 (↑k:Int).toNat).1<0) then true else decide ((v.2.1.2 (↑k:Int).toNat).1≥(v.2.1.2 (↑k:Int).toNat).2.1) then true else decide ((v.2.1.2 (↑k:Int).toNat).2.1≥v.1))&&decide ((↑k:Int)>0))),(AG (!bif bif decide ((v.2.1.2 (↑k:Int).toNat).1<0) then true else decide ((v.2.1.2 (↑k:Int).toNat).1≥(v.2.1.2 (↑k:Int).toNat).2.1) then true else decide ((v.2.1.2 (↑k:Int).toNat).2.1≥v.1))),(((!bif bif decide ((v.2.1.2 (↑k:Int).toNat).1<0) then true else decide ((v.2.1.2 (↑k:Int).toNat).1≥(v.2.1.2 (↑k:Int).toNat).2.1) then true else decide ((v.2.1.2 (↑k:Int).toNat).2.1≥v.1))=true)→(((decide ((↑k:Int)>0))=true)→ (((!bif bif decide ((v.2.1.2 (↑k:Int).toNat).1<0) then true else decide ((v.2.1.2 (↑k:Int).toNat).1≥(v.2.1.2 (↑k:Int).toNat).2.1) then true else decide ((v.2.1.2 (↑k:Int).toNat).2.1≥v.1))&&decide ((↑k:Int)>0))=true))),(((bif bif decide ((v.2.1.2 (↑k:Int).toNat).1<0) then true else decide ((v.2.1.2 (↑k:Int).toNat).1≥(v.2.1.2 (↑k:Int).toNat).2.1) then true else decide ((v.2.1.2 (↑k:Int).toNat).2.1≥v.1))=false)→ ((!bif bif decide ((v.2.1.2 (↑k:Int).toNat).1<0) then true else decide ((v.2.1.2 (↑k:Int).toNat).1≥(v.2.1.2 (↑k:Int).toNat).2.1) then true else decide ((v.2.1.2 (↑k:Int).toNat).2.1≥v.1))=true)),((bif bif bif decide ((v.2.1.2 (↑k:Int).toNat).1<0) then true else decide ((v.2.1.2 (↑k:Int).toNat).1≥(v.2.1.2 (↑k:Int).toNat).2.1) then true else decide ((v.2.1.2 (↑k:Int).toNat).2.1≥v.1) then true else bif decide ((↑k:Int)>0) then !aft (v.2.1.2 ((↑k:Int) - 1).toNat) (v.2.1.2 k) else false)=true),(false=false)]:=by kernel_rfl
theorem p48d (v:T_Graph) (k:Nat) :
    pathOb Try.prog Try.f110 0 [rg 5,.dec false,rg 1] zf30 (S48 v k) [] 1 [] (.p (.bool true)) =
    some [(NT 0 1),((decide ((↑k:Int)<(↑v.2.1.1:Int)))=false),(true=true)]:=by kernel_rfl
theorem p51z (v:T_Graph) :
    pathOb Try.prog Try.f101 0 [rg 2,rm [(2,oc [] (.p (.bool (inB v.1 1 8))))] 7,.dec true,rg 1] [.code (bodyOf Try.f101)] (start Try.f101 [] 0 [graphA v]) [] 1 [] (.p (.bool false)) =
    some [(NT 0 1),Con Try.prog 40 0 [] [.p (.int .i64 v.1),.p (.int .i64 1),.p (.int .i64 8)] [] (.p (.bool (inB v.1 1 8))),(AG (!!inB v.1 1 8)),(((!!inB v.1 1 8)=true)→(NT 0 1)),(AG (!!inB v.1 1 8)),(AG (!!inB v.1 1 8)),(((!inB v.1 1 8)=false)→ ((!!inB v.1 1 8)=true)),((bif !inB v.1 1 8 then true else decide ((↑v.2.1.1:Int)>24))=true),(false=false)]:=by kernel_rfl
theorem p51a (v:T_Graph) :
    pieceOb Try.prog 0 [rg 2,rm [(2,oc [] (.p (.bool (inB v.1 1 8))))] 7,.dec false,rg 4,.head] [.code (bodyOf Try.f101)] (start Try.f101 [] 0 [graphA v]) [0] 1 (S51 v 0) =
    some (zf31,[(NT 0 1),Con Try.prog 40 0 [] [.p (.int .i64 v.1),.p (.int .i64 1),.p (.int .i64 8)] [] (.p (.bool (inB v.1 1 8))),(AG (!!inB v.1 1 8)),(((!!inB v.1 1 8)=true)→(NT 0 1)),(AG (!!inB v.1 1 8)),(AG (!!inB v.1 1 8)),(((!inB v.1 1 8)=false)→ ((!!inB v.1 1 8)=true)),((bif !inB v.1 1 8 then true else decide ((↑v.2.1.1:Int)>24))=false),(NT 0 1),(AI v.1),(AN v.2.1.1),(AP v.2.1.1 (fun i=>[.int .i64 ((v.2.1.2 i).1),.int .i64 ((v.2.1.2 i).2.1)])),(AN 0),(AN v.2.1.1),(AP v.2.1.1 (fun i=>[.int .i64 ((v.2.1.2 i).1),.int .i64 ((v.2.1.2 i).2.1)])),(AI ((↑v.2.1.1:Int))),((0:Int)=(↑0:Int)),((([AV.p (PV.int IntKind.i64 v.1),graphL v.2.1].length):Nat)=2),(NL 1 1),(NL 1 1),(AI v.1),(AN v.2.1.1),(AP v.2.1.1 (fun i=>[.int .i64 ((v.2.1.2 i).1),.int .i64 ((v.2.1.2 i).2.1)]))]):=by kernel_rfl
theorem p51b (v:T_Graph) (k:Nat) :
    pieceOb Try.prog 0 [rg 1,.dec true,rg 6,rm [(28,oc [] (.p (.int .i64 (cmpB (v.2.1.2 ((k:Int) - 1).toNat) (v.2.1.2 k)))))] 3,.dec false,rg 2,.head] zf31 (S51 v k) [0] 1 (S51 v (k+1)) =
    some (zf31,[((decide ((↑k:Int)<(↑v.2.1.1:Int)))=true),(IL 0 (↑k:Int)),(IT (↑k:Int) (↑v.2.1.1:Int)),(NT 0 1),((true=true)→ (AN 1)),(NT 0 1),(AG (!decide ((v.2.1.2 (↑k:Int).toNat).1<0))),(((!decide ((v.2.1.2 (↑k:Int).toNat).1<0))=true)→(NT 0 1)),(AG (!decide ((v.2.1.2 (↑k:Int).toNat).1<0))),(((!decide ((v.2.1.2 (↑k:Int).toNat).1<0))=true)→(NT 0 1)),(AG (!decide ((v.2.1.2 (↑k:Int).toNat).1<0))),(AG (!decide ((v.2.1.2 (↑k:Int).toNat).1<0))),(((decide ((v.2.1.2 (↑k:Int).toNat).1<0))=false)→ ((!decide ((v.2.1.2 (↑k:Int).toNat).1<0))=true)),(AG (!bif decide ((v.2.1.2 (↑k:Int).toNat).1<0) then true else decide ((v.2.1.2 (↑k:Int).toNat).1≥(v.2.1.2 (↑k:Int).toNat).2.1))),(((!bif decide ((v.2.1.2 (↑k:Int).toNat).1<0) then true else decide ((v.2.1.2 (↑k:Int).toNat).1≥(v.2.1.2 (↑k:Int).toNat).2.1))=true)→(NT 0 1)),(AG (!bif decide ((v.2.1.2 (↑k:Int).toNat).1<0) then true else decide ((v.2.1.2 (↑k:Int).toNat).1≥(v.2.1.2 (↑k:Int).toNat).2.1))),(((!bif decide ((v.2.1.2 (↑k:Int).toNat).1<0) then true else decide ((v.2.1.2 (↑k:Int).toNat).1≥(v.2.1.2 (↑k:Int).toNat).2.1))=true)→(NT 0 1)),(AG (!bif decide ((v.2.1.2 (↑k:Int).toNat).1<0) then true else decide ((v.2.1.2 (↑k:Int).toNat).1≥(v.2.1.2 (↑k:Int).toNat).2.1))),(AG (!bif decide ((v.2.1.2 (↑k:Int).toNat).1<0) then true else decide ((v.2.1.2 (↑k:Int).toNat).1≥(v.2.1.2 (↑k:Int).toNat).2.1))),(((bif decide ((v.2.1.2 (↑k:Int).toNat).1<0) then true else decide ((v.2.1.2 (↑k:Int).toNat).1≥(v.2.1.2 (↑k:Int).toNat).2.1))=false)→ ((!bif decide ((v.2.1.2 (↑k:Int).toNat).1<0) then true else decide ((v.2.1.2 (↑k:Int).toNat).1≥(v.2.1.2 (↑k:Int).toNat).2.1))=true)),(AG (!bif bif decide ((v.2.1.2 (↑k:Int).toNat).1<0) then true else decide ((v.2.1.2 (↑k:Int).toNat).1≥(v.2.1.2 (↑k:Int).toNat).2.1) then true else decide ((v.2.1.2 (↑k:Int).toNat).2.1≥v.1))),(AG (!bif bif decide ((v.2.1.2 (↑k:Int).toNat).1<0) then true else decide ((v.2.1.2 (↑k:Int).toNat).1≥(v.2.1.2 (↑k:Int).toNat).2.1) then true else decide ((v.2.1.2 (↑k:Int).toNat).2.1≥v.1))),(AG ((!bif bif decide ((v.2.1.2 (↑k:Int).toNat).1<0) then true else decide ((v.2.1.2 (↑k:Int).toNat).1≥(v.2.1.2 (↑k:Int).toNat).2.1) then true else decide ((v.2.1.2 (↑k:Int).toNat).2.1≥v.1))&&decide ((↑k:Int)>0))),((((!bif bif decide ((v.2.1.2 (↑k:Int).toNat).1<0) then true else decide ((v.2.1.2 (↑k:Int).toNat).1≥(v.2.1.2 (↑k:Int).toNat).2.1) then true else decide ((v.2.1.2 (↑k:Int).toNat).2.1≥v.1))&&decide ((↑k:Int)>0))=true)→(NT 0 1)),(AG ((!bif bif decide ((v.2.1.2 (↑k:Int).toNat).1<0) then true else decide ((v.2.1.2 (↑k:Int).toNat).1≥(v.2.1.2 (↑k:Int).toNat).2.1) then true else decide ((v.2.1.2 (↑k:Int).toNat).2.1≥v.1))&&decide ((↑k:Int)>0))),((((!bif bif decide ((v.2.1.2 (↑k:Int).toNat).1<0) then true else decide ((v.2.1.2 (↑k:Int).toNat).1≥(v.2.1.2 (↑k:Int).toNat).2.1) then true else decide ((v.2.1.2 (↑k:Int).toNat).2.1≥v.1))&&decide ((↑k:Int)>0))=true)→(R0 ((↑k:Int) - 1))),((((!bif bif decide ((v.2.1.2 (↑k:Int).toNat).1<0) then true else decide ((v.2.1.2 (↑k:Int).toNat).1≥(v.2.1.2 (↑k:Int).toNat).2.1) then true else decide ((v.2.1.2 (↑k:Int).toNat).2.1≥v.1))&&decide ((↑k:Int)>0))=true)→(R1 ((↑k:Int) - 1))),(AG ((!bif bif decide ((v.2.1.2 (↑k:Int).toNat).1<0) then true else decide ((v.2.1.2 (↑k:Int).toNat).1≥(v.2.1.2 (↑k:Int).toNat).2.1) then true else decide ((v.2.1.2 (↑k:Int).toNat).2.1≥v.1))&&decide ((↑k:Int)>0))),(AG ((!bif bif decide ((v.2.1.2 (↑k:Int).toNat).1<0) then true else decide ((v.2.1.2 (↑k:Int).toNat).1≥(v.2.1.2 (↑k:Int).toNat).2.1) then true else decide ((v.2.1.2 (↑k:Int).toNat).2.1≥v.1))&&decide ((↑k:Int)>0))),((((!bif bif decide ((v.2.1.2 (↑k:Int).toNat).1<0) then true else decide ((v.2.1.2 (↑k:Int).toNat).1≥(v.2.1.2 (↑k:Int).toNat).2.1) then true else decide ((v.2.1.2 (↑k:Int).toNat).2.1≥v.1))&&decide ((↑k:Int)>0))=true)→(IL 0 ((↑k:Int) - 1))),((((!bif bif decide ((v.2.1.2 (↑k:Int).toNat).1<0) then true else decide ((v.2.1.2 (↑k:Int).toNat).1≥(v.2.1.2 (↑k:Int).toNat).2.1) then true else decide ((v.2.1.2 (↑k:Int).toNat).2.1≥v.1))&&decide ((↑k:Int)>0))=true)→(IT ((↑k:Int) - 1) (↑v.2.1.1:Int))),(AG ((!bif bif decide ((v.2.1.2 (↑k:Int).toNat).1<0) then true else decide ((v.2.1.2 (↑k:Int).toNat).1≥(v.2.1.2 (↑k:Int).toNat).2.1) then true else decide ((v.2.1.2 (↑k:Int).toNat).2.1≥v.1))&&decide ((↑k:Int)>0))),((((!bif bif decide ((v.2.1.2 (↑k:Int).toNat).1<0) then true else decide ((v.2.1.2 (↑k:Int).toNat).1≥(v.2.1.2 (↑k:Int).toNat).2.1) then true else decide ((v.2.1.2 (↑k:Int).toNat).2.1≥v.1))&&decide ((↑k:Int)>0))=true)→(NT 0 1)),(AG ((!bif bif decide ((v.2.1.2 (↑k:Int).toNat).1<0) then true else decide ((v.2.1.2 (↑k:Int).toNat).1≥(v.2.1.2 (↑k:Int).toNat).2.1) then true else decide ((v.2.1.2 (↑k:Int).toNat).2.1≥v.1))&&decide ((↑k:Int)>0))),(AG ((!bif bif decide ((v.2.1.2 (↑k:Int).toNat).1<0) then true else decide ((v.2.1.2 (↑k:Int).toNat).1≥(v.2.1.2 (↑k:Int).toNat).2.1) then true else decide ((v.2.1.2 (↑k:Int).toNat).2.1≥v.1))&&decide ((↑k:Int)>0))),((((!bif bif decide ((v.2.1.2 (↑k:Int).toNat).1<0) then true else decide ((v.2.1.2 (↑k:Int).toNat).1≥(v.2.1.2 (↑k:Int).toNat).2.1) then true else decide ((v.2.1.2 (↑k:Int).toNat).2.1≥v.1))&&decide ((↑k:Int)>0))=true)→ Con Try.prog 135 0 [] [(zf50 v k),(zf59 v k)] [] (.p (.int .i64 (cmpB (v.2.1.2 ((↑k:Int) - 1).toNat) (v.2.1.2 k))))),(AG ((!bif bif decide ((v.2.1.2 (↑k:Int).toNat).1<0) then true else decide ((v.2.1.2 (↑k:Int).toNat).1≥(v.2.1.2 (↑k:Int).toNat).2.1) then true else decide ((v.2.1.2 (↑k:Int).toNat).2.1≥v.1))&&decide ((↑k:Int)>0))),(AG (!bif bif decide ((v.2.1.2 (↑k:Int).toNat).1<0) then true else decide ((v.2.1.2 (↑k:Int).toNat).1≥(v.2.1.2 (↑k:Int).toNat).2.1) then true else decide ((v.2.1.2 (↑k:Int).toNat).2.1≥v.1))),(((!bif bif decide ((v.2.1.2 (↑k:Int).toNat).1<0) then true else decide ((v.2.1.2 (↑k:Int).toNat).1≥(v.2.1.2 (↑k:Int).toNat).2.1) then true else decide ((v.2.1.2 (↑k:Int).toNat).2.1≥v.1))=true)→(((decide ((↑k:Int)>0))=true)→ (((!bif bif decide ((v.2.1.2 (↑k:Int).toNat).1<0) then true else decide ((v.2.1.2 (↑k:Int).toNat).1≥(v.2.1.2 (↑k:Int).toNat).2.1) then true else decide ((v.2.1.2 (↑k:Int).toNat).2.1≥v.1))&&decide ((↑k:Int)>0))=true))),(((bif bif decide ((v.2.1.2 (↑k:Int).toNat).1<0) then true else decide ((v.2.1.2 (↑k:Int).toNat).1≥(v.2.1.2 (↑k:Int).toNat).2.1) then true else decide ((v.2.1.2 (↑k:Int).toNat).2.1≥v.1))=false)→ ((!bif bif decide ((v.2.1.2 (↑k:Int).toNat).1<0) then true else decide ((v.2.1.2 (↑k:Int).toNat).1≥(v.2.1.2 (↑k:Int).toNat).2.1) then true else decide ((v.2.1.2 (↑k:Int).toNat).2.1≥v.1))=true)),((bif bif bif decide ((v.2.1.2 (↑k:Int).toNat).1<0) then true else decide ((v.2.1.2 (↑k:Int).toNat).1≥(v.2.1.2 (↑k:Int).toNat).2.1) then true else decide ((v.2.1.2 (↑k:Int).toNat).2.1≥v.1) then true else bif decide ((↑k:Int)>0) then decide (cmpB (v.2.1.2 ((↑k:Int) - 1).toNat) (v.2.1.2 k)>0) else false)=false),(R0 ((↑k:Int)+1)),(R1 ((↑k:Int)+1)),(AI v.1),(AN v.2.1.1),(AP v.2.1.1 (fun i=>[.int .i64 ((v.2.1.2 i).1),.int .i64 ((v.2.1.2 i).2.1)])),(AN 0),(AN v.2.1.1),(AP v.2.1.1 (fun i=>[.int .i64 ((v.2.1.2 i).1),.int .i64 ((v.2.1.2 i).2.1)])),(AI ((↑v.2.1.1:Int))),((((↑k:Int)+1):Int)=(↑(k+1):Int)),(AN 2),(NL 1 1),(NL 1 1),(AI v.1),(AN v.2.1.1),(AP v.2.1.1 (fun i=>[.int .i64 ((v.2.1.2 i).1),.int .i64 ((v.2.1.2 i).2.1)]))]):=by kernel_rfl
theorem p51c (v:T_Graph) (k:Nat) :
    pathOb Try.prog Try.f101 0 [rg 1,.dec true,rg 6,rm [(28,oc [] (.p (.int .i64 (cmpB (v.2.1.2 ((k:Int) - 1).toNat) (v.2.1.2 k)))))] 3,.dec true,rg 1] zf31 (S51 v k) [] 1 [] (.p (.bool false)) =
    some [((decide ((↑k:Int)<(↑v.2.1.1:Int)))=true),(IL 0 (↑k:Int)),(IT (↑k:Int) (↑v.2.1.1:Int)),(NT 0 1),((true=true)→ (AN 1)),(NT 0 1),(AG (!decide ((v.2.1.2 (↑k:Int).toNat).1<0))),(((!decide ((v.2.1.2 (↑k:Int).toNat).1<0))=true)→(NT 0 1)),(AG (!decide ((v.2.1.2 (↑k:Int).toNat).1<0))),(((!decide ((v.2.1.2 (↑k:Int).toNat).1<0))=true)→(NT 0 1)),(AG (!decide ((v.2.1.2 (↑k:Int).toNat).1<0))),(AG (!decide ((v.2.1.2 (↑k:Int).toNat).1<0))),(((decide ((v.2.1.2 (↑k:Int).toNat).1<0))=false)→ ((!decide ((v.2.1.2 (↑k:Int).toNat).1<0))=true)),(AG (!bif decide ((v.2.1.2 (↑k:Int).toNat).1<0) then true else decide ((v.2.1.2 (↑k:Int).toNat).1≥(v.2.1.2 (↑k:Int).toNat).2.1))),(((!bif decide ((v.2.1.2 (↑k:Int).toNat).1<0) then true else decide ((v.2.1.2 (↑k:Int).toNat).1≥(v.2.1.2 (↑k:Int).toNat).2.1))=true)→(NT 0 1)),(AG (!bif decide ((v.2.1.2 (↑k:Int).toNat).1<0) then true else decide ((v.2.1.2 (↑k:Int).toNat).1≥(v.2.1.2 (↑k:Int).toNat).2.1))),(((!bif decide ((v.2.1.2 (↑k:Int).toNat).1<0) then true else decide ((v.2.1.2 (↑k:Int).toNat).1≥(v.2.1.2 (↑k:Int).toNat).2.1))=true)→(NT 0 1)),(AG (!bif decide ((v.2.1.2 (↑k:Int).toNat).1<0) then true else decide ((v.2.1.2 (↑k:Int).toNat).1≥(v.2.1.2 (↑k:Int).toNat).2.1))),(AG (!bif decide ((v.2.1.2 (↑k:Int).toNat).1<0) then true else decide ((v.2.1.2 (↑k:Int).toNat).1≥(v.2.1.2 (↑k:Int).toNat).2.1))),(((bif decide ((v.2.1.2 (↑k:Int).toNat).1<0) then true else decide ((v.2.1.2 (↑k:Int).toNat).1≥(v.2.1.2 (↑k:Int).toNat).2.1))=false)→ ((!bif decide ((v.2.1.2 (↑k:Int).toNat).1<0) then true else decide ((v.2.1.2 (↑k:Int).toNat).1≥(v.2.1.2 (↑k:Int).toNat).2.1))=true)),(AG (!bif bif decide ((v.2.1.2 (↑k:Int).toNat).1<0) then true else decide ((v.2.1.2 (↑k:Int).toNat).1≥(v.2.1.2 (↑k:Int).toNat).2.1) then true else decide ((v.2.1.2 (↑k:Int).toNat).2.1≥v.1))),(AG (!bif bif decide ((v.2.1.2 (↑k:Int).toNat).1<0) then true else decide ((v.2.1.2 (↑k:Int).toNat).1≥(v.2.1.2 (↑k:Int).toNat).2.1) then true else decide ((v.2.1.2 (↑k:Int).toNat).2.1≥v.1))),(AG ((!bif bif decide ((v.2.1.2 (↑k:Int).toNat).1<0) then true else decide ((v.2.1.2 (↑k:Int).toNat).1≥(v.2.1.2 (↑k:Int).toNat).2.1) then true else decide ((v.2.1.2 (↑k:Int).toNat).2.1≥v.1))&&decide ((↑k:Int)>0))),((((!bif bif decide ((v.2.1.2 (↑k:Int).toNat).1<0) then true else decide ((v.2.1.2 (↑k:Int).toNat).1≥(v.2.1.2 (↑k:Int).toNat).2.1) then true else decide ((v.2.1.2 (↑k:Int).toNat).2.1≥v.1))&&decide ((↑k:Int)>0))=true)→(NT 0 1)),(AG ((!bif bif decide ((v.2.1.2 (↑k:Int).toNat).1<0) then true else decide ((v.2.1.2 (↑k:Int).toNat).1≥(v.2.1.2 (↑k:Int).toNat).2.1) then true else decide ((v.2.1.2 (↑k:Int).toNat).2.1≥v.1))&&decide ((↑k:Int)>0))),((((!bif bif decide ((v.2.1.2 (↑k:Int).toNat).1<0) then true else decide ((v.2.1.2 (↑k:Int).toNat).1≥(v.2.1.2 (↑k:Int).toNat).2.1) then true else decide ((v.2.1.2 (↑k:Int).toNat).2.1≥v.1))&&decide ((↑k:Int)>0))=true)→(R0 ((↑k:Int) - 1))),((((!bif bif decide ((v.2.1.2 (↑k:Int).toNat).1<0) then true else decide ((v.2.1.2 (↑k:Int).toNat).1≥(v.2.1.2 (↑k:Int).toNat).2.1) then true else decide ((v.2.1.2 (↑k:Int).toNat).2.1≥v.1))&&decide ((↑k:Int)>0))=true)→(R1 ((↑k:Int) - 1))),(AG ((!bif bif decide ((v.2.1.2 (↑k:Int).toNat).1<0) then true else decide ((v.2.1.2 (↑k:Int).toNat).1≥(v.2.1.2 (↑k:Int).toNat).2.1) then true else decide ((v.2.1.2 (↑k:Int).toNat).2.1≥v.1))&&decide ((↑k:Int)>0))),(AG ((!bif bif decide ((v.2.1.2 (↑k:Int).toNat).1<0) then true else decide ((v.2.1.2 (↑k:Int).toNat).1≥(v.2.1.2 (↑k:Int).toNat).2.1) then true else decide ((v.2.1.2 (↑k:Int).toNat).2.1≥v.1))&&decide ((↑k:Int)>0))),((((!bif bif decide ((v.2.1.2 (↑k:Int).toNat).1<0) then true else decide ((v.2.1.2 (↑k:Int).toNat).1≥(v.2.1.2 (↑k:Int).toNat).2.1) then true else decide ((v.2.1.2 (↑k:Int).toNat).2.1≥v.1))&&decide ((↑k:Int)>0))=true)→(IL 0 ((↑k:Int) - 1))),((((!bif bif decide ((v.2.1.2 (↑k:Int).toNat).1<0) then true else decide ((v.2.1.2 (↑k:Int).toNat).1≥(v.2.1.2 (↑k:Int).toNat).2.1) then true else decide ((v.2.1.2 (↑k:Int).toNat).2.1≥v.1))&&decide ((↑k:Int)>0))=true)→(IT ((↑k:Int) - 1) (↑v.2.1.1:Int))),(AG ((!bif bif decide ((v.2.1.2 (↑k:Int).toNat).1<0) then true else decide ((v.2.1.2 (↑k:Int).toNat).1≥(v.2.1.2 (↑k:Int).toNat).2.1) then true else decide ((v.2.1.2 (↑k:Int).toNat).2.1≥v.1))&&decide ((↑k:Int)>0))),((((!bif bif decide ((v.2.1.2 (↑k:Int).toNat).1<0) then true else decide ((v.2.1.2 (↑k:Int).toNat).1≥(v.2.1.2 (↑k:Int).toNat).2.1) then true else decide ((v.2.1.2 (↑k:Int).toNat).2.1≥v.1))&&decide ((↑k:Int)>0))=true)→(NT 0 1)),(AG ((!bif bif decide ((v.2.1.2 (↑k:Int).toNat).1<0) then true else decide ((v.2.1.2 (↑k:Int).toNat).1≥(v.2.1.2 (↑k:Int).toNat).2.1) then true else decide ((v.2.1.2 (↑k:Int).toNat).2.1≥v.1))&&decide ((↑k:Int)>0))),(AG ((!bif bif decide ((v.2.1.2 (↑k:Int).toNat).1<0) then true else decide ((v.2.1.2 (↑k:Int).toNat).1≥(v.2.1.2 (↑k:Int).toNat).2.1) then true else decide ((v.2.1.2 (↑k:Int).toNat).2.1≥v.1))&&decide ((↑k:Int)>0))),((((!bif bif decide ((v.2.1.2 (↑k:Int).toNat).1<0) then true else decide ((v.2.1.2 (↑k:Int).toNat).1≥(v.2.1.2 (↑k:Int).toNat).2.1) then true else decide ((v.2.1.2 (↑k:Int).toNat).2.1≥v.1))&&decide ((↑k:Int)>0))=true)→ Con Try.prog 135 0 [] [(zf50 v k),(zf59 v k)] [] (.p (.int .i64 (cmpB (v.2.1.2 ((↑k:Int) - 1).toNat) (v.2.1.2 k))))),(AG ((!bif bif decide ((v.2.1.2 (↑k:Int).toNat).1<0) then true else decide ((v.2.1.2 (↑k:Int).toNat).1≥(v.2.1.2 (↑k:Int).toNat).2.1) then true else decide ((v.2.1.2 (↑k:Int).toNat).2.1≥v.1))&&decide ((↑k:Int)>0))),(AG (!bif bif decide ((v.2.1.2 (↑k:Int).toNat).1<0) then true else decide ((v.2.1.2 (↑k:Int).toNat).1≥(v.2.1.2 (↑k:Int).toNat).2.1) then true else decide ((v.2.1.2 (↑k:Int).toNat).2.1≥v.1))),(((!bif bif decide ((v.2.1.2 (↑k:Int).toNat).1<0) then true else decide ((v.2.1.2 (↑k:Int).toNat).1≥(v.2.1.2 (↑k:Int).toNat).2.1) then true else decide ((v.2.1.2 (↑k:Int).toNat).2.1≥v.1))=true)→(((decide ((↑k:Int)>0))=true)→ (((!bif bif decide ((v.2.1.2 (↑k:Int).toNat).1<0) then true else decide ((v.2.1.2 (↑k:Int).toNat).1≥(v.2.1.2 (↑k:Int).toNat).2.1) then true else decide ((v.2.1.2 (↑k:Int).toNat).2.1≥v.1))&&decide ((↑k:Int)>0))=true))),(((bif bif decide ((v.2.1.2 (↑k:Int).toNat).1<0) then true else decide ((v.2.1.2 (↑k:Int).toNat).1≥(v.2.1.2 (↑k:Int).toNat).2.1) then true else decide ((v.2.1.2 (↑k:Int).toNat).2.1≥v.1))=false)→ ((!bif bif decide ((v.2.1.2 (↑k:Int).toNat).1<0) then true else decide ((v.2.1.2 (↑k:Int).toNat).1≥(v.2.1.2 (↑k:Int).toNat).2.1) then true else decide ((v.2.1.2 (↑k:Int).toNat).2.1≥v.1))=true)),((bif bif bif decide ((v.2.1.2 (↑k:Int).toNat).1<0) then true else decide ((v.2.1.2 (↑k:Int).toNat).1≥(v.2.1.2 (↑k:Int).toNat).2.1) then true else decide ((v.2.1.2 (↑k:Int).toNat).2.1≥v.1) then true else bif decide ((↑k:Int)>0) then decide (cmpB (v.2.1.2 ((↑k:Int) - 1).toNat) (v.2.1.2 k)>0) else false)=true),(false=false)]:=by kernel_rfl
theorem p51d (v:T_Graph) (k:Nat) :
    pathOb Try.prog Try.f101 0 [rg 1,.dec false,rg 1] zf31 (S51 v k) [] 1 [] (.p (.bool true)) =
    some [((decide ((↑k:Int)<(↑v.2.1.1:Int)))=false),(true=true)]:=by kernel_rfl
theorem con_l2After (a b:T_Bar):Con Try.prog 141 0 [] [barA a,barA b] [] (.p (.bool (aft a b))):=by
  refine con_start Try.func141 rfl (by kernel_rfl) rfl (fun c hc=>?_)
  refine path_ok mixed Try.func141 hc (p57 a b) ?_
  repeat' (first | exact aN | apply aI)
  all_goals (first | exact aG _ | omega | rfl | (intros;first | assumption | exact trivial | rfl | exact fT ‹_› | ((repeat' (first | assumption | apply anda | apply notf));done)))
theorem con_compareInts (x y:Int):Con Try.prog 152 0 [] [.p (.int .i64 x),.p (.int .i64 y)] [] (.p (.int .i64 (cmpI x y))):=by
  refine con_start Try.func152 rfl (by kernel_rfl) rfl (fun c hc=>?_)
  by_cases h1:x<y
  · rw [show cmpI x y = -1 by simp [cmpI,h1]]
    refine path_ok mixed Try.func152 hc (p62a x y) ?_
    repeat' (first | exact aN | apply aI)
    all_goals (first | omega | rfl | (intros;first | assumption | exact trivial | rfl | exact fT ‹_› | ((repeat' (first | assumption | apply anda | apply notf));done)) | (simp;omega))
  · by_cases h2:x>y
    · rw [show cmpI x y=1 by simp only [cmpI,h1,h2,if_true,if_false]]
      refine path_ok mixed Try.func152 hc (p62b x y) ?_
      repeat' (first | exact aN | apply aI)
      all_goals (first | omega | rfl | (intros;first | assumption | exact trivial | rfl | exact fT ‹_› | ((repeat' (first | assumption | apply anda | apply notf));done)) | (simp;omega))
    · rw [show cmpI x y=0 by simp only [cmpI,h1,h2,if_false]]
      refine path_ok mixed Try.func152 hc (p62c x y) ?_
      repeat' (first | exact aN | apply aI)
      all_goals (first | omega | rfl | (intros;first | assumption | exact trivial | rfl | exact fT ‹_› | ((repeat' (first | assumption | apply anda | apply notf));done)) | (simp;omega))
theorem con_compareBars (a b:T_Bar):Con Try.prog 135 0 [] [barA a,barA b] [] (.p (.int .i64 (cmpB a b))):=by
  refine con_start Try.func135 rfl (by kernel_rfl) rfl (fun c hc=>?_)
  by_cases h1:cmpI a.1 b.1=0
  · rw [show cmpB a b=cmpI a.2.1 b.2.1 by simp [cmpB,h1]]
    refine path_ok mixed Try.func135 hc (p59b a b) ?_
    repeat' (first | exact aN | apply aI)
    all_goals (first | omega | rfl | (intros;first | assumption | exact trivial | rfl | exact fT ‹_› | ((repeat' (first | assumption | apply anda | apply notf));done)) | (exact con_compareInts _ _) | (simp [h1]))
  · rw [show cmpB a b=cmpI a.1 b.1 by simp [cmpB,h1]]
    refine path_ok mixed Try.func135 hc (p59a a b) ?_
    repeat' (first | exact aN | apply aI)
    all_goals (first | omega | rfl | (intros;first | assumption | exact trivial | rfl | exact fT ‹_› | ((repeat' (first | assumption | apply anda | apply notf));done)) | (exact con_compareInts _ _) | (simp [h1]))
theorem cmpB_gt (a b:T_Bar):decide (cmpB a b>0)=!aft a b:=by
  simp only [cmpB,cmpI,aft]
  by_cases h1:a.1<b.1
  · simp [h1]
  · by_cases h2:a.1>b.1
    · have h3:¬ a.1=b.1:=by omega
      simp [h1,h2,h3]
    · have h3:a.1=b.1:=by omega
      simp only [h1,h2,h3,if_true,if_false]
      by_cases h4:a.2.1<b.2.1
      · have:a.2.1≤b.2.1:=by omega
        simp [h4,this]
      · by_cases h5:a.2.1>b.2.1
        · have:¬ a.2.1≤b.2.1:=by omega
          simp [h4,h5,this]
        · have:a.2.1≤b.2.1:=by omega
          simp [h4,h5,this]
theorem goodB_bad (N:Int) (g:Nat→T_Bar) (k:Nat) (h:badB N g k=true):∀ n,k<n→goodB N g n=false
  | 0,h'=>by omega
  | n+1,h'=>by
    by_cases e:k=n
    · subst e;simp [goodB,h]
    · simp [goodB,goodB_bad N g k h n (by omega)]
theorem idx_lt {b:Bool} {k n:Nat} (h:(b&&decide ((k:Int)>0))=true) (hk:k<n):0≤(k:Int) - 1∧(k:Int) - 1<n∧-9223372036854775808≤(k:Int) - 1∧(k:Int) - 1≤n:=by
  simp at h
  omega
theorem con_IsGraph_s (v:T_Graph) (hs:smS s_Graph v):Con Try.prog 110 0 [] [graphA v] [] (.p (.bool (isGraphF v))):=by
  refine con_start Try.func110 rfl (by kernel_rfl) rfl (fun c hc=>?_)
  have hn:v.2.1.1≤1048576:=hs.2.1.1
  by_cases hz:inB v.1 1 8=true∧v.2.1.1≤24
  · rw [show isGraphF v=goodB v.1 v.2.1.2 v.2.1.1 by rw [isGraphF,if_pos hz]]
    have lp:∀ m k,k+m=v.2.1.1→goodB v.1 v.2.1.2 k=true→Run Try.prog c 110 zf30 (S48 v k) (Post c [] (.p (.bool (goodB v.1 v.2.1.2 v.2.1.1)))):=by
      intro m
      induction m with
      | zero =>
        intro k hk hg
        rw [show goodB v.1 v.2.1.2 v.2.1.1=true by rw [show v.2.1.1=k by omega];exact hg]
        have hd:decide ((k:Int)<(v.2.1.1:Int))=false:=by simp;omega
        refine path_ok mixed Try.func110 hc (p48d v k) ?_
        repeat' (first | exact aN | apply aI)
        all_goals (first | omega | rfl | (intros;first | assumption | exact trivial | rfl | exact fT ‹_› | ((repeat' (first | assumption | apply anda | apply notf));done)))
      | succ m ih =>
        intro k hk hg
        have hd:decide ((k:Int)<(v.2.1.1:Int))=true:=by simp;omega
        have hkn:k<v.2.1.1:=by omega
        cases he:badB v.1 v.2.1.2 k with
        | true =>
          rw [goodB_bad _ _ k he v.2.1.1 (by omega)]
          refine path_ok mixed Try.func110 hc (p48c v k) ?_
          repeat' (first | exact aN | apply aI)
          all_goals (first | exact aG _ | omega | rfl | (intros;first | assumption | exact trivial | rfl | exact fT ‹_› | ((repeat' (first | assumption | apply anda | apply notf));done)) | (intros;exact con_l2After _ _) | (exact he) | (intro h;have:=idx_lt h hkn;omega))
        | false =>
          refine piece_ok mixed hc (p48b v k) ?_ (ih (k+1) (by omega) (by simp [goodB,hg,he]))
          repeat' (first | exact aN | apply aI)
          all_goals (first | exact aG _ | exact aP _ _ | omega | rfl | (intros;first | assumption | exact trivial | rfl | exact fT ‹_› | ((repeat' (first | assumption | apply anda | apply notf));done)) | (intros;exact con_l2After _ _) | (exact he) | (intro h;have:=idx_lt h hkn;omega) | (simp [All]))
    refine piece_ok mixed hc (p48a v) ?_ (lp v.2.1.1 0 (by omega) rfl)
    repeat' (first | exact aN | apply aI)
    all_goals (first | exact aG _ | exact aP _ _ | omega | rfl | (intros;first | assumption | exact trivial | rfl | exact fT ‹_› | ((repeat' (first | assumption | apply anda | apply notf));done)) | (exact con_l1In _ _ _) | (simp [hz.1];omega) | (simp [All]))
  · rw [show isGraphF v=false by rw [isGraphF,if_neg hz]]
    have hb:(bif !inB v.1 1 8 then true else decide ((v.2.1.1:Int)>24))=true:=by
      cases hi:inB v.1 1 8 with
      | false=>rfl
      | true =>
        have:¬ v.2.1.1≤24:=fun h=>hz ⟨hi,h⟩
        simp;omega
    refine path_ok mixed Try.func110 hc (p48z v) ?_
    repeat' (first | exact aN | apply aI)
    all_goals (first | exact aG _ | omega | rfl | (intros;first | assumption | exact trivial | rfl | exact fT ‹_› | ((repeat' (first | assumption | apply anda | apply notf));done)) | (exact con_l1In _ _ _))
theorem con_IsGraph_i (v:T_Graph) (hs:smS s_Graph v):Con Try.prog 101 0 [] [graphA v] [] (.p (.bool (isGraphF v))):=by
  refine con_start Try.func101 rfl (by kernel_rfl) rfl (fun c hc=>?_)
  have hn:v.2.1.1≤1048576:=hs.2.1.1
  by_cases hz:inB v.1 1 8=true∧v.2.1.1≤24
  · rw [show isGraphF v=goodB v.1 v.2.1.2 v.2.1.1 by rw [isGraphF,if_pos hz]]
    have lp:∀ m k,k+m=v.2.1.1→goodB v.1 v.2.1.2 k=true→Run Try.prog c 101 zf31 (S51 v k) (Post c [] (.p (.bool (goodB v.1 v.2.1.2 v.2.1.1)))):=by
      intro m
      induction m with
      | zero =>
        intro k hk hg
        rw [show goodB v.1 v.2.1.2 v.2.1.1=true by rw [show v.2.1.1=k by omega];exact hg]
        have hd:decide ((k:Int)<(v.2.1.1:Int))=false:=by simp;omega
        refine path_ok mixed Try.func101 hc (p51d v k) ?_
        repeat' (first | exact aN | apply aI)
        all_goals (first | omega | rfl | (intros;first | assumption | exact trivial | rfl | exact fT ‹_› | ((repeat' (first | assumption | apply anda | apply notf));done)))
      | succ m ih =>
        intro k hk hg
        have hd:decide ((k:Int)<(v.2.1.1:Int))=true:=by simp;omega
        have hkn:k<v.2.1.1:=by omega
        cases he:badB v.1 v.2.1.2 k with
        | true =>
          rw [goodB_bad _ _ k he v.2.1.1 (by omega)]
          have he2:=he
          rw [badB,← cmpB_gt] at he2
          refine path_ok mixed Try.func101 hc (p51c v k) ?_
          repeat' (first | exact aN | apply aI)
          all_goals (first | exact aG _ | omega | rfl | (intros;first | assumption | exact trivial | rfl | exact fT ‹_› | ((repeat' (first | assumption | apply anda | apply notf));done)) | (intros;exact con_compareBars _ _) | (exact he2) | (intro h;have:=idx_lt h hkn;omega))
        | false =>
          have he2:=he
          rw [badB,← cmpB_gt] at he2
          refine piece_ok mixed hc (p51b v k) ?_ (ih (k+1) (by omega) (by simp [goodB,hg,he]))
          repeat' (first | exact aN | apply aI)
          all_goals (first | exact aG _ | exact aP _ _ | omega | rfl | (intros;first | assumption | exact trivial | rfl | exact fT ‹_› | ((repeat' (first | assumption | apply anda | apply notf));done)) | (intros;exact con_compareBars _ _) | (exact he2) | (intro h;have:=idx_lt h hkn;omega) | (simp [All]))
    refine piece_ok mixed hc (p51a v) ?_ (lp v.2.1.1 0 (by omega) rfl)
    repeat' (first | exact aN | apply aI)
    all_goals (first | exact aG _ | exact aP _ _ | omega | rfl | (intros;first | assumption | exact trivial | rfl | exact fT ‹_› | ((repeat' (first | assumption | apply anda | apply notf));done)) | (exact con_within _ _ _) | (simp [hz.1];omega) | (simp [All]))
  · rw [show isGraphF v=false by rw [isGraphF,if_neg hz]]
    have hb:(bif !inB v.1 1 8 then true else decide ((v.2.1.1:Int)>24))=true:=by
      cases hi:inB v.1 1 8 with
      | false=>rfl
      | true =>
        have:¬ v.2.1.1≤24:=fun h=>hz ⟨hi,h⟩
        simp;omega
    refine path_ok mixed Try.func101 hc (p51z v) ?_
    repeat' (first | exact aN | apply aI)
    all_goals (first | exact aG _ | omega | rfl | (intros;first | assumption | exact trivial | rfl | exact fT ‹_› | ((repeat' (first | assumption | apply anda | apply notf));done)) | (exact con_within _ _ _))
end Go.Proofs.Ytffnfeefjdmifaa.Mach
namespace Go.Proofs.Ytffnfeefjdmifaa.Mach
open Go
set_option linter.unusedVariables false
set_option linter.unusedSimpArgs false
def SH (g:Nat→T_Bar) (nb N m:Nat) (F0 T0 F T Q:Nat→Int) (a b want:Int):St :=
  ⟨[grG g nb N,pebD N m F0 T0 Q,.p (.int .i64 a),.p (.int .i64 b),.p (.int .i64 want),.pt 2 0 0 0,.pt 3 1 0 0,.p .any,.p .any,.p .any,.pt 3 2 0 0,.p .any,.pt 3 3 0 0]++List.replicate 40 anyA,
   [(0,bxG g nb N),(1,bxD N m F0 T0 Q),(2,bx0),(3,bxP N m 4),(4,iOb N F),(5,iOb m T),(6,iOb m Q)],7⟩
def SNc (g:Nat→T_Bar) (nb N k:Nat):St :=
  ⟨[.p .any,.p (.int .i64 k),.pt 2 0 0 0,.p .any,.pt 3 1 0 0,.p .any,.pt 3 2 0 0]++List.replicate 27 anyA,
   [(0,bxG g nb N),(1,bx0),(2,⟨true,3,1,fun _=>[.ar 1 3 0 0,.ar 1 4 0 0,.ar 1 5 0 0]⟩),(3,iOb 0 (fun _=>k)),(4,iOb 0 (fun _=>0)),(5,iOb 0 (fun _=>0))],6⟩
def SN0 (g:Nat→T_Bar) (nb N k i:Nat):St :=
  ⟨[.p .any,.p (.int .i64 k),.pt 2 0 0 0,.p .any,.pt 3 1 0 0,.p .any,.pt 3 2 0 0,.p (.int .i64 i)]++List.replicate 26 anyA,
   [(0,bxG g nb N),(1,bx0),(2,⟨true,3,1,fun _=>[.ar 1 3 0 i,.ar 1 4 0 0,.ar 1 5 0 0]⟩),(3,iOb i (fun _=>k)),(4,iOb 0 (fun _=>0)),(5,iOb 0 (fun _=>0))],6⟩
def SR (g:Nat→T_Bar) (nb N m i:Nat) (F T Q:Nat→Int):St :=
  ⟨[grG g nb N,.pt 2 0 0 0,.p .any,.pt 3 1 0 0,.p .any,.p (.int .i64 m),.p (.int .i64 i)]++List.replicate 77 anyA,
   [(0,bxG g nb N),(1,bxP N m 2),(2,iOb N F),(3,iOb m T),(4,iOb m Q)],5⟩
theorem qHz (g:Nat→T_Bar) (nb N m:Nat) (F T Q:Nat→Int) (a b want:Int) :
    pieceOb Try.prog 0 [rg 4,rm [(1,oc (pebR N m F T Q) (pebO N m 0))] 2,.head] [.code (bodyOf Try.f162)] (start Try.f162 [] 0 [grG g nb N,pebD N m F T Q,.p (.int .i64 a),.p (.int .i64 b),.p (.int .i64 want)]) [0,32,64,192,160,161,162] 1 (SH g nb N m F T F T Q a b want) =
    some (zf39,[(NT 0 1),Con Try.prog 161 0 [] [(zf24 N F m T Q)] (zf16 N F m T Q) (.agg [.ar 1 0 0 N,.ar 1 1 0 m,.ar 1 2 0 m]),(NT 0 1),((true=true)→ (AN 1)),(AI ((↑N:Int))),(AN nb),(AP nb (fun i=>[.int .i64 ((g i).1),.int .i64 ((g i).2.1)])),(AN N),(AP N (fun i=>[.int .i64 (F i)])),(AN m),(AP m (fun i=>[.int .i64 (T i)])),(AN m),(AP m (fun i=>[.int .i64 (Q i)])),(AI a),(AI b),(AI want),(AN 0),(AN 0),(AN 0),(AN 0),((([AV.p (PV.int IntKind.i64 (↑N:Int)),brL g nb].length):Nat)=2),(NL 1 1),(NL 1 1),(AI ((↑N:Int))),(AN nb),(AP nb (fun i=>[.int .i64 ((g i).1),.int .i64 ((g i).2.1)])),((([inD N F,inD m T,inD m Q].length):Nat)=3),(NL 1 1),(NL 1 1),(AN N),(AP N (fun i=>[.int .i64 (F i)])),(AN m),(AP m (fun i=>[.int .i64 (T i)])),(AN m),(AP m (fun i=>[.int .i64 (Q i)])),((((List.map (fun v=>AV.p (absV v)) [Value.slice none 0 0,Value.slice none 0 0,Value.slice none 0 0]).length):Nat)=3),(NL 1 1),(NL 1 1),((((List.map (fun v=>AV.p (absV v)) [Value.slice none 0 0,Value.slice none 0 0,Value.slice none 0 0]).length):Nat)=3),(NL 1 1),(NL 1 1),(AN 0),(AN N),(AN 0),(AN m),(AN 0),(AN m),(AN 1),(NL N N),(AA N (fun i=>[.p (.int .i64 (F i))])),(AN 1),(NL m m),(AA m (fun i=>[.p (.int .i64 (T i))])),(AN 1),(NL m m),(AA m (fun i=>[.p (.int .i64 (Q i))]))]):=by kernel_rfl
theorem qHa (g:Nat→T_Bar) (nb N m:Nat) (F0 T0 F T Q F1 T1:Nat→Int) (a b want:Int) :
    pieceOb Try.prog 0 [rg 13,.dec true,rm [(4,oq [4,5,6] (pebR3 N m F T Q F1 T1 Q) (.tup [pebO N m 3,.p (.bool true)]))] 6,rg 2,.dec false,rg 2,.dec false,rg 2,.head] zf39 (SH g nb N m F0 T0 F T Q a b want) [0,1,2,3,551,552,553] 1 (SH g nb N m F0 T0 F1 T1 Q a b want) =
    some (zf39,[(NT 0 1),(IL 0 a),(IT a (↑N:Int)),(NT a.toNat N),(NT 0 1),(IL 0 b),(IT b (↑N:Int)),(NT b.toNat N),(R0 (F a.toNat+F b.toNat)),(R1 (F a.toNat+F b.toNat)),((decide (F (a.toNat+0)+F (b.toNat+0)<want))=true),(NT 0 1),(NT 0 1),(AE N),(AE m),(AE m),Con Try.prog 180 3 (zf16 N F m T Q) [(zf52 N nb g),.agg [.ar 1 0 0 N,.ar 1 1 0 m,.ar 1 2 0 m],.p (.int .i64 a),.p (.int .i64 b)] (zf7 N F m T Q F1 T1) (.tup [.agg [.ar 1 3 0 N,.ar 1 4 0 m,.ar 1 5 0 m],.p (.bool true)]),(NT 0 1),((true=true)→ (AN 1)),((!true)=false),((!true)=false),(NT 0 1),(NT 0 1),((true=true)→ (AN 1)),(AI ((↑N:Int))),(AN nb),(AP nb (fun i=>[.int .i64 ((g i).1),.int .i64 ((g i).2.1)])),(AN N),(AP N (fun i=>[.int .i64 (F0 i)])),(AN m),(AP m (fun i=>[.int .i64 (T0 i)])),(AN m),(AP m (fun i=>[.int .i64 (Q i)])),(AI a),(AI b),(AI want),(AN 0),(AN 0),(AN 0),(AN 0),(AN 2),(NL 1 1),(NL 1 1),(AI ((↑N:Int))),(AN nb),(AP nb (fun i=>[.int .i64 ((g i).1),.int .i64 ((g i).2.1)])),(AN 3),(NL 1 1),(NL 1 1),(AN N),(AP N (fun i=>[.int .i64 (F0 i)])),(AN m),(AP m (fun i=>[.int .i64 (T0 i)])),(AN m),(AP m (fun i=>[.int .i64 (Q i)])),(AN 3),(NL 1 1),(NL 1 1),(AN 3),(NL 1 1),(NL 1 1),(AN 0),(AN N),(AN 0),(AN m),(AN 0),(AN m),(AN 1),(NL N N),(AA N (fun i=>[.p (.int .i64 (F1 i))])),(AN 1),(NL m m),(AA m (fun i=>[.p (.int .i64 (T1 i))])),(AN 1),(NL m m),(AA m (fun i=>[.p (.int .i64 (Q i))]))]):=by kernel_rfl
theorem qHb (g:Nat→T_Bar) (nb N m:Nat) (F0 T0 F T Q F1 T1:Nat→Int) (a b want:Int) :
    pieceOb Try.prog 0 [rg 13,.dec true,rm [(4,oq [4,5,6] (pebR N m F T Q) (.tup [pebO N m 0,.p (.bool false)]))] 6,rg 2,.dec true,rm [(4,oq [4,5,6] (pebR3 N m F T Q F1 T1 Q) (.tup [pebO N m 3,.p (.bool true)]))] 5,rg 2,.dec false,rg 2,.head] zf39 (SH g nb N m F0 T0 F T Q a b want) [0,1,2,3,967,968,969] 1 (SH g nb N m F0 T0 F1 T1 Q a b want) =
    some (zf39,[(NT 0 1),(IL 0 a),(IT a (↑N:Int)),(NT a.toNat N),(NT 0 1),(IL 0 b),(IT b (↑N:Int)),(NT b.toNat N),(R0 (F a.toNat+F b.toNat)),(R1 (F a.toNat+F b.toNat)),((decide (F (a.toNat+0)+F (b.toNat+0)<want))=true),(NT 0 1),(NT 0 1),(AE N),(AE m),(AE m),Con Try.prog 180 3 (zf16 N F m T Q) [(zf52 N nb g),.agg [.ar 1 0 0 N,.ar 1 1 0 m,.ar 1 2 0 m],.p (.int .i64 a),.p (.int .i64 b)] (zf16 N F m T Q) ((zf60 N m)),(NT 0 1),((true=true)→ (AN 1)),((!false)=true),(NT 0 1),(NT 0 1),(AE N),(AE m),(AE m),Con Try.prog 180 3 (zf16 N F m T Q) [(zf52 N nb g),.agg [.ar 1 0 0 N,.ar 1 1 0 m,.ar 1 2 0 m],.p (.int .i64 b),.p (.int .i64 a)] (zf7 N F m T Q F1 T1) (.tup [.agg [.ar 1 3 0 N,.ar 1 4 0 m,.ar 1 5 0 m],.p (.bool true)]),(NT 0 1),((true=true)→ (AN 1)),((!true)=false),(NT 0 1),(NT 0 1),((true=true)→ (AN 1)),(AI ((↑N:Int))),(AN nb),(AP nb (fun i=>[.int .i64 ((g i).1),.int .i64 ((g i).2.1)])),(AN N),(AP N (fun i=>[.int .i64 (F0 i)])),(AN m),(AP m (fun i=>[.int .i64 (T0 i)])),(AN m),(AP m (fun i=>[.int .i64 (Q i)])),(AI a),(AI b),(AI want),(AN 0),(AN 0),(AN 0),(AN 0),(AN 2),(NL 1 1),(NL 1 1),(AI ((↑N:Int))),(AN nb),(AP nb (fun i=>[.int .i64 ((g i).1),.int .i64 ((g i).2.1)])),(AN 3),(NL 1 1),(NL 1 1),(AN N),(AP N (fun i=>[.int .i64 (F0 i)])),(AN m),(AP m (fun i=>[.int .i64 (T0 i)])),(AN m),(AP m (fun i=>[.int .i64 (Q i)])),(AN 3),(NL 1 1),(NL 1 1),(AN 3),(NL 1 1),(NL 1 1),(AN 0),(AN N),(AN 0),(AN m),(AN 0),(AN m),(AN 1),(NL N N),(AA N (fun i=>[.p (.int .i64 (F1 i))])),(AN 1),(NL m m),(AA m (fun i=>[.p (.int .i64 (T1 i))])),(AN 1),(NL m m),(AA m (fun i=>[.p (.int .i64 (Q i))]))]):=by kernel_rfl
theorem qHc (g:Nat→T_Bar) (nb N m:Nat) (F0 T0 F T Q:Nat→Int) (a b want:Int) :
    pathOb Try.prog Try.f162 0 [rg 13,.dec true,rm [(4,oq [4,5,6] (pebR N m F T Q) (.tup [pebO N m 0,.p (.bool false)]))] 6,rg 2,.dec true,rm [(4,oq [4,5,6] (pebR N m F T Q) (.tup [pebO N m 0,.p (.bool false)]))] 5,rg 2,.dec true,rg 3] zf39 (SH g nb N m F0 T0 F T Q a b want) [4,5,6] 1 (pebR N m F T Q) (.tup [pebO N m 0,.p (.bool false)]) =
    some [(NT 0 1),(IL 0 a),(IT a (↑N:Int)),(NT a.toNat N),(NT 0 1),(IL 0 b),(IT b (↑N:Int)),(NT b.toNat N),(R0 (F a.toNat+F b.toNat)),(R1 (F a.toNat+F b.toNat)),((decide (F (a.toNat+0)+F (b.toNat+0)<want))=true),(NT 0 1),(NT 0 1),(AE N),(AE m),(AE m),Con Try.prog 180 3 (zf16 N F m T Q) [(zf52 N nb g),.agg [.ar 1 0 0 N,.ar 1 1 0 m,.ar 1 2 0 m],.p (.int .i64 a),.p (.int .i64 b)] (zf16 N F m T Q) ((zf60 N m)),(NT 0 1),((true=true)→ (AN 1)),((!false)=true),(NT 0 1),(NT 0 1),(AE N),(AE m),(AE m),Con Try.prog 180 3 (zf16 N F m T Q) [(zf52 N nb g),.agg [.ar 1 0 0 N,.ar 1 1 0 m,.ar 1 2 0 m],.p (.int .i64 b),.p (.int .i64 a)] (zf16 N F m T Q) ((zf60 N m)),(NT 0 1),((true=true)→ (AN 1)),((!false)=true),(NT 0 1),(NT 0 1),((true=true)→ (AN 1)),(NT 0 1),(AN 0),(AN N),(AN 0),(AN m),(AN 0),(AN m),(false=false),(AN 1),(NL N N),(AA N (fun i=>[.p (.int .i64 (F i))])),(AN 1),(NL m m),(AA m (fun i=>[.p (.int .i64 (T i))])),(AN 1),(NL m m),(AA m (fun i=>[.p (.int .i64 (Q i))])),(AE N),(AE m),(AE m)]:=by kernel_rfl
theorem qHd (g:Nat→T_Bar) (nb N m:Nat) (F0 T0 F T Q:Nat→Int) (a b want:Int) :
    pathOb Try.prog Try.f162 0 [rg 13,.dec false,rg 3] zf39 (SH g nb N m F0 T0 F T Q a b want) [4,5,6] 1 (pebR N m F T Q) (.tup [pebO N m 0,.p (.bool true)]) =
    some [(NT 0 1),(IL 0 a),(IT a (↑N:Int)),(NT a.toNat N),(NT 0 1),(IL 0 b),(IT b (↑N:Int)),(NT b.toNat N),(R0 (F a.toNat+F b.toNat)),(R1 (F a.toNat+F b.toNat)),((decide (F (a.toNat+0)+F (b.toNat+0)<want))=false),(NT 0 1),(NT 0 1),((true=true)→ (AN 1)),(NT 0 1),(AN 0),(AN N),(AN 0),(AN m),(AN 0),(AN m),(true=true),(AN 1),(NL N N),(AA N (fun i=>[.p (.int .i64 (F i))])),(AN 1),(NL m m),(AA m (fun i=>[.p (.int .i64 (T i))])),(AN 1),(NL m m),(AA m (fun i=>[.p (.int .i64 (Q i))])),(AE N),(AE m),(AE m)]:=by kernel_rfl
theorem qNz (g:Nat→T_Bar) (N k:Nat) :
    pieceOb Try.prog 0 [rg 3,rg 6,.head] [.code (bodyOf Try.f144)] (start Try.f144 [] 0 [.agg [.p (.int .i64 N),.p .nil],.p (.int .i64 k)]) [0,32,224,96,128,160] 1 (SNc g 0 N k) =
    some (zf48,[(NT 0 1),((true=true)→ (AN 1)),(AI ((↑k:Int))),(AN 0),(AN 0),(AN 0),((([AV.p (PV.int IntKind.i64 (↑N:Int)),AV.p PV.nil].length):Nat)=2),(NL 1 1),(NL 1 1),(AI ((↑N:Int))),(AN 0),((((List.map (fun v=>AV.p (absV v)) [Value.slice none 0 0,Value.slice none 0 0,Value.slice none 0 0]).length):Nat)=3),(NL 1 1),(NL 1 1),((((List.map (fun v=>AV.p (absV v)) [Value.slice none 0 0,Value.slice none 0 0,Value.slice none 0 0]).length):Nat)=3),(NL 1 1),(NL 1 1),(AN 0),(AN 0),(AN 0),(AN 0),(AN 0),(AN 0),(AN 1),(NL 0 0),(∀ i:Nat,(((i:Nat)<0)→(All []∧(([.p (.int .i64 0)]:List AV)=[.p (.int .i64 (↑k:Int))])))),(AN 1),(NL 0 0),(AA 0 (fun i=>[.p (.int .i64 0)])),(AN 1),(NL 0 0),(AA 0 (fun i=>[.p (.int .i64 0)]))]):=by kernel_rfl
theorem qNa (g:Nat→T_Bar) (nb N k:Nat) :
    pieceOb Try.prog 0 [rm [(1,oc [] (.p (.bool true))),(3,oc [] (.p (.bool true)))] 2,.dec false,rg 1,.head] zf48 (SNc g nb N k) [0,1,2,3,4,5] 1 (SN0 g nb N k 0) =
    some (zf19,[(NT 0 1),Con Try.prog 110 0 [] [(zf52 N nb g)] [] (.p (.bool true)),(AG (!!true)),(((!!true)=true)→ Con Try.prog 37 0 [] [.p (.int .i64 (↑k:Int)),.p (.int .i64 1),.p (.int .i64 3)] [] (.p (.bool true))),(AG (!!true)),(((!true)=false)→ ((!!true)=true)),((bif !true then true else !true)=false),(AI ((↑k:Int))),(AN 0),(AN 0),(AN 0),((0:Int)=(↑0:Int)),(AN 2),(NL 1 1),(NL 1 1),(AI ((↑N:Int))),(AN nb),(AP nb (fun i=>[.int .i64 ((g i).1),.int .i64 ((g i).2.1)])),(AN 3),(NL 1 1),(NL 1 1),(AN 3),(NL 1 1),(NL 1 1),(AN 0),(AN 0),(AN 0),(AN 0),(AN 0),(AN 0),(AN 1),(NL 0 0),(AA 0 (fun i=>[.p (.int .i64 (↑k:Int))])),(AN 1),(NL 0 0),(AA 0 (fun i=>[.p (.int .i64 0)])),(AN 1),(NL 0 0),(AA 0 (fun i=>[.p (.int .i64 0)]))]):=by kernel_rfl
theorem qNl (g:Nat→T_Bar) (nb N k i:Nat) :
    pieceOb Try.prog 0 [rg 4,.dec true,rg 7,rg 3,.head] zf19 (SN0 g nb N k i) [0,1,2,262,4,5] 1 (SN0 g nb N k (i+1)) =
    some (zf19,[(NT 0 1),((decide ((↑i:Int)<(↑N:Int)))=true),(NT 0 1),(NL 1 1),(NL i i),(NL ((i+1)*8) 140737488355328),(NL (i+1) 9223372036854775807),(NT 0 1),((true=true)→ (AN 1)),(R0 ((↑i:Int)+1)),(R1 ((↑i:Int)+1)),(AI ((↑k:Int))),(AN 0),(AN 0),(AN 0),((((↑i:Int)+1):Int)=(↑(i+1):Int)),(AN 2),(NL 1 1),(NL 1 1),(AI ((↑N:Int))),(AN nb),(AP nb (fun i_1=>[.int .i64 ((g i_1).1),.int .i64 ((g i_1).2.1)])),(AN 3),(NL 1 1),(NL 1 1),(AN 3),(NL 1 1),(NL 1 1),(AN 0),(AN ((i+1))),(AN 0),(AN 0),(AN 0),(AN 0),(AN 1),(NL (i+1) (i+1)),(CV [(2,⟨true,3,1,(fun i_2=>[.ar 1 262 0 (i+1),.ar 1 4 0 0,.ar 1 5 0 0])⟩),(262,⟨false,1,(i+1),(fun i_2=>(if (i_2<i) then [.p (.int .i64 (↑k:Int))] else [.p (.int .i64 (↑k:Int))]))⟩),(230,⟨false,1,1,(fun i_2=>[.p (.int .i64 (↑k:Int))])⟩),(0,⟨true,2,1,(fun i_2=>[.p (.int .i64 (↑N:Int)),.p (.seq true 2 nb (fun i_3=>[.int .i64 ((g i_3).1),.int .i64 ((g i_3).2.1)]))])⟩),(1,⟨true,3,1,(fun i_2=>[.p (.nil),.p (.nil),.p (.nil)])⟩),(4,⟨false,1,0,(fun i_2=>[.p (.int .i64 0)])⟩),(5,⟨false,1,0,(fun i_2=>[.p (.int .i64 0)])⟩)] [0,1,2,262,4,5] 1 (i+1) (fun i_1=>if (i_1<i) then [.p (.int .i64 (↑k:Int))] else [.p (.int .i64 (↑k:Int))]) (fun i_1=>[.p (.int .i64 (↑k:Int))])),(AN 1),(NL 0 0),(AA 0 (fun i_1=>[.p (.int .i64 0)])),(AN 1),(NL 0 0),(AA 0 (fun i_1=>[.p (.int .i64 0)]))]):=by kernel_rfl
theorem qNe (g:Nat→T_Bar) (nb N k i:Nat) :
    pathOb Try.prog Try.f144 0 [rg 4,.dec false,rg 3] zf19 (SN0 g nb N k i) [3,4,5] 1 (pebR i 0 (fun _=>k) (fun _=>0) (fun _=>0)) (.tup [pebO i 0 0,.p (.bool true)]) =
    some [(NT 0 1),((decide ((↑i:Int)<(↑N:Int)))=false),(NT 0 1),(NT 0 1),((true=true)→ (AN 1)),(NT 0 1),(AN 0),(AN i),(AN 0),(AN 0),(AN 0),(AN 0),(true=true),(AN 1),(NL i i),(AA i (fun i_1=>[.p (.int .i64 (↑k:Int))])),(AN 1),(NL 0 0),(AA 0 (fun i_1=>[.p (.int .i64 0)])),(AN 1),(NL 0 0),(AA 0 (fun i_1=>[.p (.int .i64 0)])),(AE i),(AE 0),(AE 0)]:=by kernel_rfl
theorem qRz (g:Nat→T_Bar) (nb N:Nat) :
    pieceOb Try.prog 0 [rg 2,rm [(3,oc (pebR N 0 (fun _=>((2:Nat):Int)) (fun _=>0) (fun _=>0)) (.tup [pebO N 0 0,.p (.bool true)]))] 6,rg 1,rg 1,.head] [.code (bodyOf Try.f156)] (start Try.f156 [] 0 [grG g nb N]) [0,288,160,161,162] 1 (SR g nb N 0 0 (fun _=>((2:Nat):Int)) (fun _=>0) (fun _=>0)) =
    some (zf20,[(NT 0 1),Con Try.prog 144 0 [] [.agg [.p (.int .i64 (↑N:Int)),.p (.nil)],.p (.int .i64 2)] [(0,⟨false,1,N,(fun i=>[.p (.int .i64 2)])⟩),(1,⟨false,1,0,(fun i=>[.p (.int .i64 0)])⟩),(2,⟨false,1,0,(fun i=>[.p (.int .i64 0)])⟩)] (.tup [.agg [.ar 1 0 0 N,.ar 1 1 0 0,.ar 1 2 0 0],.p (.bool true)]),(NT 0 1),((true=true)→ (AN 1)),(AI ((↑N:Int))),(AN nb),(AP nb (fun i=>[.int .i64 ((g i).1),.int .i64 ((g i).2.1)])),(AN 0),(AN 0),((0:Int)=(↑0:Int)),((0:Int)=(↑0:Int)),((([AV.p (PV.int IntKind.i64 (↑N:Int)),brL g nb].length):Nat)=2),(NL 1 1),(NL 1 1),(AI ((↑N:Int))),(AN nb),(AP nb (fun i=>[.int .i64 ((g i).1),.int .i64 ((g i).2.1)])),((((List.map (fun v=>AV.p (absV v)) [Value.slice none 0 0,Value.slice none 0 0,Value.slice none 0 0]).length):Nat)=3),(NL 1 1),(NL 1 1),(AN 0),(AN N),(AN 0),(AN 0),(AN 0),(AN 0),(AN 1),(NL N N),(AA N (fun i=>[.p (.int .i64 2)])),(AN 1),(NL 0 0),(AA 0 (fun i=>[.p (.int .i64 0)])),(AN 1),(NL 0 0),(AA 0 (fun i=>[.p (.int .i64 0)]))]):=by kernel_rfl
theorem qRa (g:Nat→T_Bar) (nb N m i:Nat) (F T Q F1 T1:Nat→Int) :
    pieceOb Try.prog 0 [rg 5,.dec true,rm [(14,oc (pebR N m F1 T1 Q) (.tup [pebO N m 0,.p (.bool true)]))] 6,rg 2,.dec false,rg 21,rg 12,rg 7,rg 2,rg 3,rg 3,.head] zf20 (SR g nb N m i F T Q) [0,1,613,1861,2085] 1 (SR g nb N (m+1) (i+1) (fun s=>if s=(g i).1.toNat then F1 s - 1 else F1 s) (fun s=>if s<m then T1 s else (g i).1) (fun s=>if s<m then Q s else i)) =
    some (zf20,[(NT 0 1),((decide ((↑i:Int)<(↑nb:Int)))=true),(NT 0 1),(NT 0 1),(NT 0 1),(IL 0 (↑i:Int)),(IT (↑i:Int) (↑nb:Int)),(NT 0 1),(IL 0 (↑i:Int)),(IT (↑i:Int) (↑nb:Int)),(AN 1),(NL N N),(AN 1),(NL m m),(AN 1),(NL m m),Con Try.prog 162 0 [] [.agg [.p (.int .i64 (↑N:Int)),.p (.seq true 2 nb (fun i_1=>[.int .i64 ((g i_1).1),.int .i64 ((g i_1).2.1)]))],.agg [.p (.seq true 1 N (fun i_1=>[.int .i64 (F i_1)])),.p (.seq true 1 m (fun i_1=>[.int .i64 (T i_1)])),.p (.seq true 1 m (fun i_1=>[.int .i64 (Q i_1)]))],.p (.int .i64 ((g i).1)),.p (.int .i64 ((g i).2.1)),.p (.int .i64 4)] (zf12 N F1 m T1 Q) (.tup [.agg [.ar 1 0 0 N,.ar 1 1 0 m,.ar 1 2 0 m],.p (.bool true)]),(NT 0 1),((true=true)→ (AN 1)),((!true)=false),(NT 0 1),(NT 0 1),(IL 0 (↑i:Int)),(IT (↑i:Int) (↑nb:Int)),(NT 0 1),(NT 0 1),(IL 0 (↑i:Int)),(IT (↑i:Int) (↑nb:Int)),(IL 0 ((g i).1)),(IT ((g i).1) (↑N:Int)),(NT ((g i).1.toNat) N),(R0 (F1 (g i).1.toNat - 1)),(R1 (F1 (g i).1.toNat - 1)),(IL 0 ((g i).1)),(IT ((g i).1) (↑N:Int)),(NT ((g i).1.toNat) N),((false=true)→ ((N:Nat)=1)),(NT 0 1),(NT 0 1),(IL 0 (↑i:Int)),(IT (↑i:Int) (↑nb:Int)),(NL 1 1),(NL m m),(NL ((m+1)*8) 140737488355328),(NL (m+1) 9223372036854775807),(NT 0 1),((true=true)→ (AN 1)),(NT 0 1),(NL 1 1),(NL m m),(NL ((m+1)*8) 140737488355328),(NL (m+1) 9223372036854775807),(NT 0 1),((true=true)→ (AN 1)),(NT 0 1),(NT 0 1),((true=true)→ (AN 1)),(R0 ((↑m:Int)+1)),(R1 ((↑m:Int)+1)),(R0 ((↑i:Int)+1)),(R1 ((↑i:Int)+1)),(AI ((↑N:Int))),(AN nb),(AP nb (fun i_1=>[.int .i64 ((g i_1).1),.int .i64 ((g i_1).2.1)])),(AN 0),(AN 0),((((↑m:Int)+1):Int)=(↑(m+1):Int)),((((↑i:Int)+1):Int)=(↑(i+1):Int)),(AN 2),(NL 1 1),(NL 1 1),(AI ((↑N:Int))),(AN nb),(AP nb (fun i_1=>[.int .i64 ((g i_1).1),.int .i64 ((g i_1).2.1)])),(AN 3),(NL 1 1),(NL 1 1),(AN 0),(AN N),(AN 0),(AN ((m+1))),(AN 0),(AN ((m+1))),(AN 1),(NL N N),(CV [(1,⟨true,3,1,(fun i_2=>[.ar 1 613 0 N,.ar 1 1861 0 (m+1),.ar 1 2085 0 (m+1)])⟩),(741,⟨true,3,1,(fun i_2=>[.ar 1 613 0 N,.ar 1 1861 0 (m+1),.ar 1 2085 0 (m+1)])⟩),(2085,⟨false,1,(m+1),(fun i_2=>(if (i_2<m) then [.p (.int .i64 (Q i_2))] else [.p (.int .i64 (↑i:Int))]))⟩),(2053,⟨false,1,1,(fun i_2=>[.p (.int .i64 (↑i:Int))])⟩),(1861,⟨false,1,(m+1),(fun i_2=>(if (i_2<m) then [.p (.int .i64 (T1 i_2))] else [.p (.int .i64 ((g i).1))]))⟩),(1829,⟨false,1,1,(fun i_2=>[.p (.int .i64 ((g i).1))])⟩),(613,⟨false,1,N,(fun i_2=>(if (i_2=(g i).1.toNat) then [.p (.int .i64 (F1 (g i).1.toNat - 1))] else [.p (.int .i64 (F1 i_2))]))⟩),(0,⟨true,2,1,(fun i_2=>[.p (.int .i64 (↑N:Int)),.p (.seq true 2 nb (fun i_3=>[.int .i64 ((g i_3).1),.int .i64 ((g i_3).2.1)]))])⟩),(2,⟨false,1,N,(fun i_2=>[.p (.int .i64 (F i_2))])⟩),(3,⟨false,1,m,(fun i_2=>[.p (.int .i64 (T i_2))])⟩),(4,⟨false,1,m,(fun i_2=>[.p (.int .i64 (Q i_2))])⟩)] [0,1,613,1861,2085] 1 N (fun i_1=>if (i_1=(g i).1.toNat) then [.p (.int .i64 (F1 (g i).1.toNat - 1))] else [.p (.int .i64 (F1 i_1))]) (fun i_1=>[.p (.int .i64 (if i_1=(g i).1.toNat then F1 i_1 - 1 else F1 i_1))])),(AN 1),(NL (m+1) (m+1)),(CV [(1,⟨true,3,1,(fun i_2=>[.ar 1 613 0 N,.ar 1 1861 0 (m+1),.ar 1 2085 0 (m+1)])⟩),(741,⟨true,3,1,(fun i_2=>[.ar 1 613 0 N,.ar 1 1861 0 (m+1),.ar 1 2085 0 (m+1)])⟩),(2085,⟨false,1,(m+1),(fun i_2=>(if (i_2<m) then [.p (.int .i64 (Q i_2))] else [.p (.int .i64 (↑i:Int))]))⟩),(2053,⟨false,1,1,(fun i_2=>[.p (.int .i64 (↑i:Int))])⟩),(1861,⟨false,1,(m+1),(fun i_2=>(if (i_2<m) then [.p (.int .i64 (T1 i_2))] else [.p (.int .i64 ((g i).1))]))⟩),(1829,⟨false,1,1,(fun i_2=>[.p (.int .i64 ((g i).1))])⟩),(613,⟨false,1,N,(fun i_2=>(if (i_2=(g i).1.toNat) then [.p (.int .i64 (F1 (g i).1.toNat - 1))] else [.p (.int .i64 (F1 i_2))]))⟩),(0,⟨true,2,1,(fun i_2=>[.p (.int .i64 (↑N:Int)),.p (.seq true 2 nb (fun i_3=>[.int .i64 ((g i_3).1),.int .i64 ((g i_3).2.1)]))])⟩),(2,⟨false,1,N,(fun i_2=>[.p (.int .i64 (F i_2))])⟩),(3,⟨false,1,m,(fun i_2=>[.p (.int .i64 (T i_2))])⟩),(4,⟨false,1,m,(fun i_2=>[.p (.int .i64 (Q i_2))])⟩)] [0,1,613,1861,2085] 1 (m+1) (fun i_1=>if (i_1<m) then [.p (.int .i64 (T1 i_1))] else [.p (.int .i64 ((g i).1))]) (fun i_1=>[.p (.int .i64 (if i_1<m then T1 i_1 else (g i).1))])),(AN 1),(NL (m+1) (m+1)),(CV [(1,⟨true,3,1,(fun i_2=>[.ar 1 613 0 N,.ar 1 1861 0 (m+1),.ar 1 2085 0 (m+1)])⟩),(741,⟨true,3,1,(fun i_2=>[.ar 1 613 0 N,.ar 1 1861 0 (m+1),.ar 1 2085 0 (m+1)])⟩),(2085,⟨false,1,(m+1),(fun i_2=>(if (i_2<m) then [.p (.int .i64 (Q i_2))] else [.p (.int .i64 (↑i:Int))]))⟩),(2053,⟨false,1,1,(fun i_2=>[.p (.int .i64 (↑i:Int))])⟩),(1861,⟨false,1,(m+1),(fun i_2=>(if (i_2<m) then [.p (.int .i64 (T1 i_2))] else [.p (.int .i64 ((g i).1))]))⟩),(1829,⟨false,1,1,(fun i_2=>[.p (.int .i64 ((g i).1))])⟩),(613,⟨false,1,N,(fun i_2=>(if (i_2=(g i).1.toNat) then [.p (.int .i64 (F1 (g i).1.toNat - 1))] else [.p (.int .i64 (F1 i_2))]))⟩),(0,⟨true,2,1,(fun i_2=>[.p (.int .i64 (↑N:Int)),.p (.seq true 2 nb (fun i_3=>[.int .i64 ((g i_3).1),.int .i64 ((g i_3).2.1)]))])⟩),(2,⟨false,1,N,(fun i_2=>[.p (.int .i64 (F i_2))])⟩),(3,⟨false,1,m,(fun i_2=>[.p (.int .i64 (T i_2))])⟩),(4,⟨false,1,m,(fun i_2=>[.p (.int .i64 (Q i_2))])⟩)] [0,1,613,1861,2085] 1 (m+1) (fun i_1=>if (i_1<m) then [.p (.int .i64 (Q i_1))] else [.p (.int .i64 (↑i:Int))]) (fun i_1=>[.p (.int .i64 (if i_1<m then Q i_1 else (↑i:Int)))]))]):=by kernel_rfl
theorem qRb (g:Nat→T_Bar) (nb N m i:Nat) (F T Q F1 T1:Nat→Int) :
    pieceOb Try.prog 0 [rg 5,.dec true,rm [(14,oc (pebR N m F1 T1 Q) (.tup [pebO N m 0,.p (.bool false)]))] 6,rg 2,.dec true,rg 3,.head] zf20 (SR g nb N m i F T Q) [0,1,2,3,4] 1 (SR g nb N m (i+1) F T Q) =
    some (zf20,[(NT 0 1),((decide ((↑i:Int)<(↑nb:Int)))=true),(NT 0 1),(NT 0 1),(NT 0 1),(IL 0 (↑i:Int)),(IT (↑i:Int) (↑nb:Int)),(NT 0 1),(IL 0 (↑i:Int)),(IT (↑i:Int) (↑nb:Int)),(AN 1),(NL N N),(AN 1),(NL m m),(AN 1),(NL m m),Con Try.prog 162 0 [] [.agg [.p (.int .i64 (↑N:Int)),.p (.seq true 2 nb (fun i_1=>[.int .i64 ((g i_1).1),.int .i64 ((g i_1).2.1)]))],.agg [.p (.seq true 1 N (fun i_1=>[.int .i64 (F i_1)])),.p (.seq true 1 m (fun i_1=>[.int .i64 (T i_1)])),.p (.seq true 1 m (fun i_1=>[.int .i64 (Q i_1)]))],.p (.int .i64 ((g i).1)),.p (.int .i64 ((g i).2.1)),.p (.int .i64 4)] (zf12 N F1 m T1 Q) ((zf60 N m)),(NT 0 1),((true=true)→ (AN 1)),((!false)=true),(R0 ((↑i:Int)+1)),(R1 ((↑i:Int)+1)),(AI ((↑N:Int))),(AN nb),(AP nb (fun i_1=>[.int .i64 ((g i_1).1),.int .i64 ((g i_1).2.1)])),(AN 0),(AN 0),(AI ((↑m:Int))),((((↑i:Int)+1):Int)=(↑(i+1):Int)),(AN 2),(NL 1 1),(NL 1 1),(AI ((↑N:Int))),(AN nb),(AP nb (fun i_1=>[.int .i64 ((g i_1).1),.int .i64 ((g i_1).2.1)])),(AN 3),(NL 1 1),(NL 1 1),(AN 0),(AN N),(AN 0),(AN m),(AN 0),(AN m),(AN 1),(NL N N),(AA N (fun i_1=>[.p (.int .i64 (F i_1))])),(AN 1),(NL m m),(AA m (fun i_1=>[.p (.int .i64 (T i_1))])),(AN 1),(NL m m),(AA m (fun i_1=>[.p (.int .i64 (Q i_1))]))]):=by kernel_rfl
theorem qRe (g:Nat→T_Bar) (nb N m i:Nat) (F T Q:Nat→Int) :
    pathOb Try.prog Try.f156 0 [rg 5,.dec false,rg 2] zf20 (SR g nb N m i F T Q) [] 1 [] (.p (.int .i64 m)) =
    some [(NT 0 1),((decide ((↑i:Int)<(↑nb:Int)))=false),(AI ((↑m:Int)))]:=by kernel_rfl
theorem con_l4Gather {N k nb m l:Nat} {g:Nat→T_Bar} {F0 T0 Q:Nat→Int} {a b:Int} (hp0:PInv N k nb m g F0 T0 Q) (hk:k≤1048576) (hN:N≤1048576) (hm:m≤1048576) (hnb:nb≤1048576)
    (ha:0≤a∧a<N) (hb:0≤b∧b<N) (hab:a≠b):∃ F' T' r,Con Try.prog 162 0 [] [grG g nb N,pebD N m F0 T0 Q,.p (.int .i64 a),.p (.int .i64 b),.p (.int .i64 ((l:Int)+1))] (pebR N m F' T' Q) (.tup [pebO N m 0,.p (.bool r)]) ∧
      PInv N k nb m g F' T' Q∧(r=true→(l:Int)+1≤F' a.toNat+F' b.toNat)∧(r=false→¬ Mat.Sparse N k l (plL g Q m++[(a.toNat,b.toNat)])):=by
  have lp:∀ d F T,PInv N k nb m g F T Q→(l:Int)+1≤F a.toNat+F b.toNat+(d:Nat)→∃ F' T' r,(∀ c,c.n=0→Run Try.prog c 162 zf39 (SH g nb N m F0 T0 F T Q a b ((l:Int)+1)) (Post c (pebR N m F' T' Q) (.tup [pebO N m 0,.p (.bool r)]))) ∧
      PInv N k nb m g F' T' Q∧(r=true→(l:Int)+1≤F' a.toNat+F' b.toNat)∧(r=false→¬ Mat.Sparse N k l (plL g Q m++[(a.toNat,b.toNat)])):=by
    intro d
    induction d with
    | zero =>
      intro F T hp hw
      have hd:decide (F a.toNat+F b.toNat<(l:Int)+1)=false:=by simp;omega
      have l1:=hp.le (v:=a.toNat) (by omega)
      have l2:=hp.le (v:=b.toNat) (by omega)
      refine ⟨F,T,true,fun c hc=>?_,hp,(fun _=>by omega),(fun h=>by cases h)⟩
      refine path_ok mixed Try.func162 hc (qHd g nb N m F0 T0 F T Q a b ((l:Int)+1)) ?_
      repeat' (first | exact aN | apply aI)
      all_goals (first | exact aA _ _ | exact aE _ | omega | rfl | (intros;first | assumption | exact trivial | rfl | exact fT ‹_› | ((repeat' (first | assumption | apply anda | apply notf));done)) | (exact hd) | (intro i hi;simp [All]))
    | succ d ih =>
      intro F T hp hw
      have l1:=hp.le (v:=a.toNat) (by omega)
      have l2:=hp.le (v:=b.toNat) (by omega)
      by_cases hs:F a.toNat+F b.toNat<(l:Int)+1
      · have hd:decide (F a.toNat+F b.toNat<(l:Int)+1)=true:=by simp;omega
        obtain ⟨H1,r1,hc1,hf1⟩:=con_l4Find hp hk hN hm hnb ha hb hab
        cases hf1 with
        | yes F1 T1 hm1 =>
          obtain ⟨y1,y2⟩:=hm1.yes rfl
          obtain ⟨F',T',r,hrun,h1,h2,h3⟩:=ih F1 T1 hm1.inv (by omega)
          refine ⟨F',T',r,fun c hc=>?_,h1,h2,h3⟩
          refine piece_ok mixed hc (qHa g nb N m F0 T0 F T Q F1 T1 a b ((l:Int)+1)) ?_ (hrun c hc)
          repeat' (first | exact aN | apply aI)
          all_goals (first | exact aP _ _ | exact aA _ _ | exact aE _ | omega | rfl | (intros;first | assumption | exact trivial | rfl | exact fT ‹_› | ((repeat' (first | assumption | apply anda | apply notf));done)) | (exact hd) | (exact hc1) | (intro i hi;simp [All]))
        | no hm1 =>
          obtain ⟨H2,r2,hc2,hf2⟩:=con_l4Find hp hk hN hm hnb hb ha (Ne.symm hab)
          cases hf2 with
          | yes F2 T2 hm2 =>
            obtain ⟨y1,y2⟩:=hm2.yes rfl
            obtain ⟨F',T',r,hrun,h1,h2,h3⟩:=ih F2 T2 hm2.inv (by omega)
            refine ⟨F',T',r,fun c hc=>?_,h1,h2,h3⟩
            refine piece_ok mixed hc (qHb g nb N m F0 T0 F T Q F2 T2 a b ((l:Int)+1)) ?_ (hrun c hc)
            repeat' (first | exact aN | apply aI)
            all_goals (first | exact aP _ _ | exact aA _ _ | exact aE _ | omega | rfl | (intros;first | assumption | exact trivial | rfl | exact fT ‹_› | ((repeat' (first | assumption | apply anda | apply notf));done)) | (exact hd) | (exact hc1) | (exact hc2) | (intro i hi;simp [All]))
          | no hm2 =>
            refine ⟨F,T,false,fun c hc=>?_,hp,(fun h=>by cases h),fun _=>gather_no hp ha hb hab (by omega) hm1 hm2⟩
            refine path_ok mixed Try.func162 hc (qHc g nb N m F0 T0 F T Q a b ((l:Int)+1)) ?_
            repeat' (first | exact aN | apply aI)
            all_goals (first | exact aA _ _ | exact aE _ | omega | rfl | (intros;first | assumption | exact trivial | rfl | exact fT ‹_› | ((repeat' (first | assumption | apply anda | apply notf));done)) | (exact hd) | (exact hc1) | (exact hc2) | (intro i hi;simp [All]))
      · have hd:decide (F a.toNat+F b.toNat<(l:Int)+1)=false:=by simp;omega
        refine ⟨F,T,true,fun c hc=>?_,hp,(fun _=>by omega),(fun h=>by cases h)⟩
        refine path_ok mixed Try.func162 hc (qHd g nb N m F0 T0 F T Q a b ((l:Int)+1)) ?_
        repeat' (first | exact aN | apply aI)
        all_goals (first | exact aA _ _ | exact aE _ | omega | rfl | (intros;first | assumption | exact trivial | rfl | exact fT ‹_› | ((repeat' (first | assumption | apply anda | apply notf));done)) | (exact hd) | (intro i hi;simp [All]))
  have l1:=hp0.le (v:=a.toNat) (by omega)
  have l2:=hp0.le (v:=b.toNat) (by omega)
  obtain ⟨F',T',r,hrun,h⟩:=lp (l+1) F0 T0 hp0 (by omega)
  refine ⟨F',T',r,?_,h⟩
  have hcc:=con_l4Copy N m F0 T0 Q hN hm
  refine con_start Try.func162 rfl (by kernel_rfl) rfl (fun c hc=>?_)
  refine piece_ok mixed hc (qHz g nb N m F0 T0 Q a b ((l:Int)+1)) ?_ (hrun c hc)
  repeat' (first | exact aN | apply aI)
  all_goals (first | exact aP _ _ | exact aA _ _ | omega | rfl | (intros;first | assumption | exact trivial | rfl | exact fT ‹_› | ((repeat' (first | assumption | apply anda | apply notf));done)) | (exact hcc) | (intro i hi;simp [All]))
theorem run_new {g:Nat→T_Bar} {nb N k:Nat} (hN:N≤1048576) (hk:1≤k∧k≤3) (hg:isGraphF ((N:Int),(nb,g),())=true) (hnb:nb≤1048576) (c:Cx) (hc:c.n=0) {items:List Item} (hit:items=zf48) :
    Run Try.prog c 144 items (SNc g nb N k) (Post c (pebR N 0 (fun _=>k) (fun _=>0) (fun _=>0)) (.tup [pebO N 0 0,.p (.bool true)])):=by
  subst hit
  have hsm:smS s_Graph ((N:Int),(nb,g),()):=⟨by simp [smS,smL],⟨hnb,fun i hi=>by simp [smS,smL]⟩,True.intro⟩
  have hcg:=con_IsGraph_s ((N:Int),(nb,g),()) hsm
  rw [hg] at hcg
  have hci:=con_l1In k 1 3
  rw [show inB k 1 3=true by simp [inB];omega] at hci
  have lp0:∀ d i,i+d=N→Run Try.prog c 144 zf19 (SN0 g nb N k i) (Post c (pebR N 0 (fun _=>k) (fun _=>0) (fun _=>0)) (.tup [pebO N 0 0,.p (.bool true)])):=by
    intro d
    induction d with
    | zero =>
      intro i hi
      obtain rfl:i=N:=by omega
      have hd:decide ((i:Int)<(i:Int))=false:=by simp
      refine path_ok mixed Try.func144 hc (qNe g nb i k i) ?_
      repeat' (first | exact aN | apply aI)
      all_goals (first | exact aA _ _ | exact aE _ | omega | rfl | (intros;first | assumption | exact trivial | rfl | exact fT ‹_› | ((repeat' (first | assumption | apply anda | apply notf));done)) | (intro i hi;simp [All]))
    | succ d ih =>
      intro i hi
      have hd:decide ((i:Int)<(N:Int))=true:=by simp;omega
      refine piece_ok mixed hc (qNl g nb N k i) ?_ (ih (i+1) (by omega))
      repeat' (first | exact aN | apply aI)
      all_goals (first | exact aP _ _ | exact aA _ _ | omega | rfl | (intros;first | assumption | exact trivial | rfl | exact fT ‹_› | ((repeat' (first | assumption | apply anda | apply notf));done)) | (intro j hj;simp [All];done) | (intro j hj;by_cases h:j<i<;>simp [h,cvtL,cvt,tg,tru,All]))
  refine piece_ok mixed hc (qNa g nb N k) ?_ (lp0 N 0 (by omega))
  repeat' (first | exact aN | apply aI)
  all_goals (first | exact aG _ | exact aP _ _ | exact aA _ _ | omega | rfl | (intros;first | assumption | exact trivial | rfl | exact fT ‹_› | ((repeat' (first | assumption | apply anda | apply notf));done)) | (exact hcg) | (intros;exact hci) | (intro i hi;simp [All]))
theorem con_NewPebbles0 {N k:Nat} (hN:1≤N∧N≤8) (hk:1≤k∧k≤3):Con Try.prog 144 0 [] [.agg [.p (.int .i64 N),.p .nil],.p (.int .i64 k)] (pebR N 0 (fun _=>k) (fun _=>0) (fun _=>0)) (.tup [pebO N 0 0,.p (.bool true)]):=by
  refine con_start Try.func144 rfl (by kernel_rfl) rfl (fun c hc=>?_)
  have hg:isGraphF ((N:Int),(0,fun _=>((0:Int),(0:Int),())),())=true:=by
    have:inB N 1 8=true:=by simp [inB];omega
    simp [isGraphF,this,goodB]
  refine piece_ok mixed hc (qNz (fun _=>(0,0,())) N k) ?_ (run_new (g:=fun _=>(0,0,())) (by omega) hk hg (by omega) c hc rfl)
  repeat' (first | exact aN | apply aI)
  all_goals (first | exact aA _ _ | omega | rfl | (intros;first | assumption | exact trivial | rfl | exact fT ‹_› | ((repeat' (first | assumption | apply anda | apply notf));done)) | (intro i hi;simp [All]))
theorem con_l6Rank {N nb:Nat} {g:Nat→T_Bar} (hb:∀ e,e<nb→0≤(g e).1∧(g e).1<(g e).2.1∧(g e).2.1<N) (hN:1≤N∧N≤8) (hnb:nb≤1048576) :
    Con Try.prog 156 0 [] [grG g nb N] [] (.p (.int .i64 ((accI N 2 3 g nb).length:Nat))):=by
  refine con_start Try.func156 rfl (by kernel_rfl) rfl (fun c hc=>?_)
  have lp:∀ d i m F T Q,i+d=nb→PInv N 2 nb m g F T Q→qL Q m=accI N 2 3 g i →
      Run Try.prog c 156 zf20 (SR g nb N m i F T Q) (Post c [] (.p (.int .i64 ((accI N 2 3 g nb).length:Nat)))):=by
    intro d
    induction d with
    | zero =>
      intro i m F T Q hi hp hq
      obtain rfl:i=nb:=by omega
      have hd:decide ((i:Int)<(i:Int))=false:=by simp
      rw [← hq,qL_length]
      refine path_ok mixed Try.func156 hc (qRe g i N m i F T Q) ?_
      repeat' (first | exact aN | apply aI)
      all_goals (first | omega | rfl | (intros;first | assumption | exact trivial | rfl | exact fT ‹_› | ((repeat' (first | assumption | apply anda | apply notf));done)) | (intro i hi;simp [All]))
    | succ d ih =>
      intro i m F T Q hi hp hq
      have hd:decide ((i:Int)<(nb:Int))=true:=by simp;omega
      have hm:m≤1048576:=by
        have:=accI_len N 2 3 g i
        rw [← hq,qL_length] at this
        omega
      have hsp:Mat.Sparse N 2 3 (plL g Q m):=by rw [plL_qL,hq];exact accI_sparse N 2 3 g i
      have hbar:=hb i (by omega)
      obtain ⟨F1,T1,r,hc1,h1,h2,h3⟩:=con_l4Gather (l:=3) (a:=(g i).1) (b:=(g i).2.1) hp (by omega) (by omega) hm hnb (by omega) (by omega) (by omega)
      have hlA:=h1.le (v:=(g i).1.toNat) (by omega)
      have hlB:=h1.le (v:=(g i).2.1.toNat) (by omega)
      cases r with
      | false =>
        have hrej:¬ Mat.Sparse N 2 3 (plL g Q m++[brN (g i)]):=h3 rfl
        refine piece_ok mixed hc (qRb g nb N m i F T Q F1 T1) ?_ (ih (i+1) m F T Q (by omega) hp (by
          simp only [accI]
          rw [← hq,← plL_qL,if_neg hrej]))
        repeat' (first | exact aN | apply aI)
        all_goals (first | exact aP _ _ | exact aA _ _ | omega | rfl | (intros;first | assumption | exact trivial | rfl | exact fT ‹_› | ((repeat' (first | assumption | apply anda | apply notf));done)) | (exact hc1) | (intro i hi;simp [All]))
      | true =>
        have hw:=h2 rfl
        have hacc:Mat.Sparse N 2 3 (plL g Q m++[brN (g i)]):=by
          have:=(h1.game 3).accept (by rw [barsOf_gm];exact hsp) (g i).1.toNat (g i).2.1.toNat ⟨by show (g i).1.toNat≠(g i).2.1.toNat;omega,by show (g i).1.toNat<N;omega,by show (g i).2.1.toNat<N;omega⟩
            (by show 3+1≤(F1 (g i).1.toNat).toNat+(F1 (g i).2.1.toNat).toNat;omega)
          rw [barsOf_gm] at this
          exact this
        refine piece_ok mixed hc (qRa g nb N m i F T Q F1 T1) ?_ (ih (i+1) (m+1) _ _ _ (by omega) (h1.placed i (by omega) (g i).1 (.inl rfl) (by omega)) (by
          simp only [accI]
          rw [← hq,← plL_qL,if_pos hacc]
          simp only [qL,Nat.lt_irrefl,if_false,Int.toNat_natCast]
          rw [qL_congr (Q':=Q) m (fun j hj=>by simp only [hj,if_true])]))
        repeat' (first | exact aN | apply aI)
        all_goals (first | exact aP _ _ | omega | rfl | (intros;first | assumption | exact trivial | rfl | exact fT ‹_› | ((repeat' (first | assumption | apply anda | apply notf));done)) | (exact hc1) | (intro i hi;simp [All];done) | (intro j hj;by_cases h:j<m<;>simp [h,cvtL,cvt,tg,tru,All];done) | (intro j hj;by_cases h:j=(g i).1.toNat<;>simp [h,cvtL,cvt,tg,tru,All]))
  have hn:=con_NewPebbles0 (k:=2) hN (by omega)
  refine piece_ok mixed hc (qRz g nb N) ?_ (lp nb 0 0 _ _ _ (by omega) (PInv.start hb) rfl)
  repeat' (first | exact aN | apply aI)
  all_goals (first | exact aP _ _ | exact aA _ _ | omega | rfl | (intros;first | assumption | exact trivial | rfl | exact fT ‹_› | ((repeat' (first | assumption | apply anda | apply notf));done)) | (exact hn) | (intro i hi;simp [All]))
end Go.Proofs.Ytffnfeefjdmifaa.Mach
namespace Go.Proofs.Ytffnfeefjdmifaa.Mach
open Go
set_option linter.unusedVariables false
set_option linter.unusedSimpArgs false
def brOb (n:Nat) (h:Nat→T_Bar):Ob:=⟨false,2,n,fun i=>[.p (.int .i64 (h i).1),.p (.int .i64 (h i).2.1)]⟩
def bxB (x:T_Bar):Ob:=⟨true,2,1,fun _=>[.p (.int .i64 x.1),.p (.int .i64 x.2.1)]⟩
def SL (g:Nat→T_Bar) (nb N:Nat) (x:T_Bar) (i n:Nat) (pl:Bool) (h:Nat→T_Bar):St :=
  ⟨[grG g nb N,brA x,.pt 2 0 0 0,.pt 2 1 0 0,.pt 2 2 0 0,.pt 2 3 0 0,.p (.bool pl),.p (.int .i64 i)]++List.replicate 48 anyA,
   [(0,bxG g nb N),(1,bxB x),(2,⟨true,2,1,fun _=>[.p (.int .i64 0),.p .nil]⟩),(3,⟨true,2,1,fun _=>[.p (.int .i64 N),.ar 2 4 0 n]⟩),(4,brOb n h)],5⟩
def snoc (n:Nat) (h:Nat→T_Bar) (x:T_Bar) (s:Nat):T_Bar:=(if s<n then (h s).1 else x.1,if s<n then (h s).2.1 else x.2.1,())
theorem rLz (g:Nat→T_Bar) (nb N:Nat) (x:T_Bar) :
    pieceOb Try.prog 0 [rg 3,rg 6,rg 1,rg 1,.head] [.code (bodyOf Try.f155)] (start Try.f155 [] 0 [grG g nb N,brA x]) [0,32,64,224,160] 1 (SL g nb N x 0 0 false (fun _=>(0,0,()))) =
    some (zf21,[(NT 0 1),(NT 0 1),((true=true)→ (AN 1)),(AI ((↑N:Int))),(AN nb),(AP nb (fun i=>[.int .i64 ((g i).1),.int .i64 ((g i).2.1)])),(AI x.1),(AI x.2.1),(AN 0),(AN 0),(AN 0),(AN 0),(false=false),((0:Int)=(↑0:Int)),((([AV.p (PV.int IntKind.i64 (↑N:Int)),brL g nb].length):Nat)=2),(NL 1 1),(NL 1 1),(AI ((↑N:Int))),(AN nb),(AP nb (fun i=>[.int .i64 ((g i).1),.int .i64 ((g i).2.1)])),((([AV.p (PV.int IntKind.i64 x.1),AV.p (PV.int IntKind.i64 x.2.1)].length):Nat)=2),(NL 1 1),(NL 1 1),(AI x.1),(AI x.2.1),((((List.map (fun v=>AV.p (absV v)) [Value.int IntKind.i64 0,Value.slice none 0 0]).length):Nat)=2),(NL 1 1),(NL 1 1),(AI 0),((((List.map (fun v=>AV.p (absV v)) [Value.int IntKind.i64 0,Value.slice none 0 0]).length):Nat)=2),(NL 1 1),(NL 1 1),(AI ((↑N:Int))),(AN 0),(AN 0),(AN 2),(NL 0 0),(AA 0 (fun i=>[.p (.int .i64 0),.p (.int .i64 0)]))]):=by kernel_rfl
theorem rLa (g:Nat→T_Bar) (nb N:Nat) (x:T_Bar) (i n:Nat) (pl:Bool) (h:Nat→T_Bar) :
    pieceOb Try.prog 0 [rg 5,.dec true,rm [(9,oc [] (.p (.bool (aft (g i) x))))] 2,.dec true,rg 7,rg 1,rg 11,rg 3,.head] zf21 (SL g nb N x i n pl h) [0,1,2,3,1061] 1 (SL g nb N x (i+1) (n+1+1) true (snoc (n+1) (snoc n h x) (g i))) =
    some (zf21,[(NT 0 1),((decide ((↑i:Int)<(↑nb:Int)))=true),(AG (!pl)),(((!pl)=true)→(NT 0 1)),(AG (!pl)),(AG (!pl)),(((!pl)=true)→(IL 0 (↑i:Int))),(((!pl)=true)→(IT (↑i:Int) (↑nb:Int))),(AG (!pl)),(((!pl)=true)→(NT 0 1)),(AG (!pl)),(AG (!pl)),(((!pl)=true)→ Con Try.prog 141 0 [] [.agg [.p (.int .i64 ((g i).1)),.p (.int .i64 ((g i).2.1))],.agg [.p (.int .i64 x.1),.p (.int .i64 x.2.1)]] [] (.p (.bool (aft (g i) x)))),(AG (!pl)),(AG (!pl)),((bif !pl then !aft (g i) x else false)=true),(NT 0 1),(NT 0 1),(NL 1 1),(NL n n),(NL ((n+1)*16) 140737488355328),(NL (n+1) 9223372036854775807),(NT 0 1),((true=true)→ (AN 1)),(NT 0 1),(NT 0 1),(IL 0 (↑i:Int)),(IT (↑i:Int) (↑nb:Int)),(NL 1 1),(NL (n+1) (n+1)),(NL ((n+1+1)*16) 140737488355328),(NL (n+1+1) 9223372036854775807),(NT 0 1),((true=true)→ (AN 1)),(R0 ((↑i:Int)+1)),(R1 ((↑i:Int)+1)),(AI ((↑N:Int))),(AN nb),(AP nb (fun i_1=>[.int .i64 ((g i_1).1),.int .i64 ((g i_1).2.1)])),(AI x.1),(AI x.2.1),(AN 0),(AN 0),(AN 0),(AN 0),(true=true),((((↑i:Int)+1):Int)=(↑(i+1):Int)),(AN 2),(NL 1 1),(NL 1 1),(AI ((↑N:Int))),(AN nb),(AP nb (fun i_1=>[.int .i64 ((g i_1).1),.int .i64 ((g i_1).2.1)])),(AN 2),(NL 1 1),(NL 1 1),(AI x.1),(AI x.2.1),(AN 2),(NL 1 1),(NL 1 1),(AI 0),(AN 2),(NL 1 1),(NL 1 1),(AI ((↑N:Int))),(AN 0),(AN ((n+1+1))),(AN 2),(NL (n+1+1) (n+1+1)),(CV [(3,⟨true,2,1,(fun i_2=>[.p (.int .i64 (↑N:Int)),.ar 2 1061 0 (n+1+1)])⟩),(1061,⟨false,2,(n+1+1),(fun i_2=>(if (i_2<n+1) then (if (i_2<n) then [.p (.int .i64 ((h i_2).1)),.p (.int .i64 ((h i_2).2.1))] else [.p (.int .i64 x.1),.p (.int .i64 x.2.1)]) else [.p (.int .i64 ((g i).1)),.p (.int .i64 ((g i).2.1))]))⟩),(1029,⟨false,2,1,(fun i_2=>[.p (.int .i64 ((g i).1)),.p (.int .i64 ((g i).2.1))])⟩),(645,⟨false,2,1,(fun i_2=>[.p (.int .i64 x.1),.p (.int .i64 x.2.1)])⟩),(0,⟨true,2,1,(fun i_2=>[.p (.int .i64 (↑N:Int)),.p (.seq true 2 nb (fun i_3=>[.int .i64 ((g i_3).1),.int .i64 ((g i_3).2.1)]))])⟩),(1,⟨true,2,1,(fun i_2=>[.p (.int .i64 x.1),.p (.int .i64 x.2.1)])⟩),(2,⟨true,2,1,(fun i_2=>[.p (.int .i64 0),.p (.nil)])⟩)] [0,1,2,3,1061] 1 (n+1+1) (fun i_1=>if (i_1<n+1) then (if (i_1<n) then [.p (.int .i64 ((h i_1).1)),.p (.int .i64 ((h i_1).2.1))] else [.p (.int .i64 x.1),.p (.int .i64 x.2.1)]) else [.p (.int .i64 ((g i).1)),.p (.int .i64 ((g i).2.1))]) (fun i_1=>[.p (.int .i64 (if i_1<n+1 then if i_1<n then (h i_1).1 else x.1 else (g i).1)),.p (.int .i64 (if i_1<n+1 then if i_1<n then (h i_1).2.1 else x.2.1 else (g i).2.1))]))]):=by kernel_rfl
theorem rLb (g:Nat→T_Bar) (nb N:Nat) (x:T_Bar) (i n:Nat) (pl:Bool) (h:Nat→T_Bar) :
    pieceOb Try.prog 0 [rg 5,.dec true,rm [(9,oc [] (.p (.bool (aft (g i) x))))] 2,.dec false,rg 11,rg 3,.head] zf21 (SL g nb N x i n pl h) [0,1,2,3,805] 1 (SL g nb N x (i+1) (n+1) pl (snoc n h (g i))) =
    some (zf21,[(NT 0 1),((decide ((↑i:Int)<(↑nb:Int)))=true),(AG (!pl)),(((!pl)=true)→(NT 0 1)),(AG (!pl)),(AG (!pl)),(((!pl)=true)→(IL 0 (↑i:Int))),(((!pl)=true)→(IT (↑i:Int) (↑nb:Int))),(AG (!pl)),(((!pl)=true)→(NT 0 1)),(AG (!pl)),(AG (!pl)),(((!pl)=true)→ Con Try.prog 141 0 [] [.agg [.p (.int .i64 ((g i).1)),.p (.int .i64 ((g i).2.1))],.agg [.p (.int .i64 x.1),.p (.int .i64 x.2.1)]] [] (.p (.bool (aft (g i) x)))),(AG (!pl)),(AG (!pl)),((bif !pl then !aft (g i) x else false)=false),(NT 0 1),(NT 0 1),(IL 0 (↑i:Int)),(IT (↑i:Int) (↑nb:Int)),(NL 1 1),(NL n n),(NL ((n+1)*16) 140737488355328),(NL (n+1) 9223372036854775807),(NT 0 1),((true=true)→ (AN 1)),(R0 ((↑i:Int)+1)),(R1 ((↑i:Int)+1)),(AI ((↑N:Int))),(AN nb),(AP nb (fun i_1=>[.int .i64 ((g i_1).1),.int .i64 ((g i_1).2.1)])),(AI x.1),(AI x.2.1),(AN 0),(AN 0),(AN 0),(AN 0),(pl=pl),((((↑i:Int)+1):Int)=(↑(i+1):Int)),(AN 2),(NL 1 1),(NL 1 1),(AI ((↑N:Int))),(AN nb),(AP nb (fun i_1=>[.int .i64 ((g i_1).1),.int .i64 ((g i_1).2.1)])),(AN 2),(NL 1 1),(NL 1 1),(AI x.1),(AI x.2.1),(AN 2),(NL 1 1),(NL 1 1),(AI 0),(AN 2),(NL 1 1),(NL 1 1),(AI ((↑N:Int))),(AN 0),(AN ((n+1))),(AN 2),(NL (n+1) (n+1)),(CV [(3,⟨true,2,1,(fun i_2=>[.p (.int .i64 (↑N:Int)),.ar 2 805 0 (n+1)])⟩),(805,⟨false,2,(n+1),(fun i_2=>(if (i_2<n) then [.p (.int .i64 ((h i_2).1)),.p (.int .i64 ((h i_2).2.1))] else [.p (.int .i64 ((g i).1)),.p (.int .i64 ((g i).2.1))]))⟩),(773,⟨false,2,1,(fun i_2=>[.p (.int .i64 ((g i).1)),.p (.int .i64 ((g i).2.1))])⟩),(0,⟨true,2,1,(fun i_2=>[.p (.int .i64 (↑N:Int)),.p (.seq true 2 nb (fun i_3=>[.int .i64 ((g i_3).1),.int .i64 ((g i_3).2.1)]))])⟩),(1,⟨true,2,1,(fun i_2=>[.p (.int .i64 x.1),.p (.int .i64 x.2.1)])⟩),(2,⟨true,2,1,(fun i_2=>[.p (.int .i64 0),.p (.nil)])⟩)] [0,1,2,3,805] 1 (n+1) (fun i_1=>if (i_1<n) then [.p (.int .i64 ((h i_1).1)),.p (.int .i64 ((h i_1).2.1))] else [.p (.int .i64 ((g i).1)),.p (.int .i64 ((g i).2.1))]) (fun i_1=>[.p (.int .i64 (if i_1<n then (h i_1).1 else (g i).1)),.p (.int .i64 (if i_1<n then (h i_1).2.1 else (g i).2.1))]))]):=by kernel_rfl
theorem rLc (g:Nat→T_Bar) (nb N:Nat) (x:T_Bar) (i n:Nat) (pl:Bool) (h:Nat→T_Bar) :
    pathOb Try.prog Try.f155 0 [rg 5,.dec false,rg 2,.dec true,rg 7,rg 2] zf21 (SL g nb N x i n pl h) [357] 1 [(0,brOb (n+1) (snoc n h x))] (.agg [.p (.int .i64 N),.ar 2 0 0 (n+1)]) =
    some [(NT 0 1),((decide ((↑i:Int)<(↑nb:Int)))=false),((!pl)=true),(NT 0 1),(NT 0 1),(NL 1 1),(NL n n),(NL ((n+1)*16) 140737488355328),(NL (n+1) 9223372036854775807),(NT 0 1),((true=true)→ (AN 1)),(NT 0 1),(NT 0 1),((true=true)→ (AN 1)),(NT 0 1),(AI ((↑N:Int))),(AN 0),(AN ((n+1))),(AN 2),(NL (n+1) (n+1)),(CV [(2,⟨true,2,1,(fun i_2=>[.p (.int .i64 (↑N:Int)),.ar 2 357 0 (n+1)])⟩),(3,⟨true,2,1,(fun i_2=>[.p (.int .i64 (↑N:Int)),.ar 2 357 0 (n+1)])⟩),(357,⟨false,2,(n+1),(fun i_2=>(if (i_2<n) then [.p (.int .i64 ((h i_2).1)),.p (.int .i64 ((h i_2).2.1))] else [.p (.int .i64 x.1),.p (.int .i64 x.2.1)]))⟩),(325,⟨false,2,1,(fun i_2=>[.p (.int .i64 x.1),.p (.int .i64 x.2.1)])⟩),(0,⟨true,2,1,(fun i_2=>[.p (.int .i64 (↑N:Int)),.p (.seq true 2 nb (fun i_3=>[.int .i64 ((g i_3).1),.int .i64 ((g i_3).2.1)]))])⟩),(1,⟨true,2,1,(fun i_2=>[.p (.int .i64 x.1),.p (.int .i64 x.2.1)])⟩)] [357] 1 (n+1) (fun i_1=>if (i_1<n) then [.p (.int .i64 ((h i_1).1)),.p (.int .i64 ((h i_1).2.1))] else [.p (.int .i64 x.1),.p (.int .i64 x.2.1)]) (fun i_1=>[.p (.int .i64 (if i_1<n then (h i_1).1 else x.1)),.p (.int .i64 (if i_1<n then (h i_1).2.1 else x.2.1))])),(AE ((n+1)))]:=by kernel_rfl
theorem rLd (g:Nat→T_Bar) (nb N:Nat) (x:T_Bar) (i n:Nat) (pl:Bool) (h:Nat→T_Bar) :
    pathOb Try.prog Try.f155 0 [rg 5,.dec false,rg 2,.dec false,rg 2] zf21 (SL g nb N x i n pl h) [4] 1 [(0,brOb n h)] (.agg [.p (.int .i64 N),.ar 2 0 0 n]) =
    some [(NT 0 1),((decide ((↑i:Int)<(↑nb:Int)))=false),((!pl)=false),(NT 0 1),(NT 0 1),((true=true)→ (AN 1)),(NT 0 1),(AI ((↑N:Int))),(AN 0),(AN n),(AN 2),(NL n n),(AA n (fun i_1=>[.p (.int .i64 ((h i_1).1)),.p (.int .i64 ((h i_1).2.1))])),(AE n)]:=by kernel_rfl
theorem snoc_lt {n:Nat} {h:Nat→T_Bar} {x:T_Bar} {s:Nat} (hs:s<n):snoc n h x s=h s:=by
  simp only [snoc,hs,if_true]
theorem snoc_ge {n:Nat} {h:Nat→T_Bar} {x:T_Bar} {s:Nat} (hs:¬ s<n):snoc n h x s=x:=by
  simp only [snoc,hs,if_false]
theorem snoc_mem (n:Nat) (h:Nat→T_Bar) (x y:T_Bar):(∃ s,s<n+1∧snoc n h x s=y)↔(∃ s,s<n∧h s=y)∨x=y:=by
  constructor
  · rintro ⟨s,h1,h2⟩
    by_cases e:s<n
    · rw [snoc_lt e] at h2;exact .inl ⟨s,e,h2⟩
    · rw [snoc_ge e] at h2;exact .inr h2
  · rintro (⟨s,h1,h2⟩ | h2)
    · exact ⟨s,by omega,by rw [snoc_lt h1];exact h2⟩
    · exact ⟨n,by omega,by rw [snoc_ge (Nat.lt_irrefl n)];exact h2⟩
def insD (g:Nat→T_Bar) (x:T_Bar):Nat→Bool×Nat×(Nat→T_Bar)
  | 0=>(false,0,fun _=>(0,0,()))
  | i+1 =>
    if (bif !(insD g x i).1 then !aft (g i) x else false)=true then (true,(insD g x i).2.1+1+1,snoc ((insD g x i).2.1+1) (snoc (insD g x i).2.1 (insD g x i).2.2 x) (g i))
    else ((insD g x i).1,(insD g x i).2.1+1,snoc (insD g x i).2.1 (insD g x i).2.2 (g i))
def insR (g:Nat→T_Bar) (nb:Nat) (x:T_Bar):Nat×(Nat→T_Bar) :=
  if (insD g x nb).1=true then ((insD g x nb).2.1,(insD g x nb).2.2) else ((insD g x nb).2.1+1,snoc (insD g x nb).2.1 (insD g x nb).2.2 x)
theorem insD_n (g:Nat→T_Bar) (x:T_Bar):∀ i,(insD g x i).2.1=i+(if (insD g x i).1=true then 1 else 0)
  | 0=>rfl
  | i+1=>by
    have ih:=insD_n g x i
    simp only [insD]
    split
    · rename_i h
      have hf:(insD g x i).1=false:=by
        cases e:(insD g x i).1 with
        | false=>rfl
        | true=>rw [e] at h;simp at h
      rw [hf] at ih
      simp only [if_true]
      simp at ih
      omega
    · simp only
      omega
theorem insD_mem (g:Nat→T_Bar) (x y:T_Bar):∀ i,(∃ s,s<(insD g x i).2.1∧(insD g x i).2.2 s=y)↔(∃ s,s<i∧g s=y)∨((insD g x i).1=true∧x=y)
  | 0=>by
    constructor
    · rintro ⟨s,h1,_⟩;exact absurd h1 (Nat.not_lt_zero _)
    · rintro (⟨s,h1,_⟩ | ⟨h1,_⟩)
      · exact absurd h1 (Nat.not_lt_zero _)
      · cases h1
  | i+1=>by
    have ih:=insD_mem g x y i
    have step:(∃ s,s<i+1∧g s=y)↔(∃ s,s<i∧g s=y)∨g i=y:=by
      constructor
      · rintro ⟨s,h1,h2⟩
        by_cases e:s=i
        · right;rw [← e];exact h2
        · exact .inl ⟨s,by omega,h2⟩
      · rintro (⟨s,h1,h2⟩ | h2)
        · exact ⟨s,by omega,h2⟩
        · exact ⟨i,by omega,h2⟩
    simp only [insD]
    split
    · rename_i h
      have hf:(insD g x i).1=false:=by
        cases e:(insD g x i).1 with
        | false=>rfl
        | true=>rw [e] at h;simp at h
      simp only [snoc_mem,ih,step,hf]
      constructor
      · rintro ((( h | ⟨h,_⟩) | h) | h)
        · exact .inl (.inl h)
        · cases h
        · exact .inr ⟨trivial,h⟩
        · exact .inl (.inr h)
      · rintro ((h | h) | ⟨_,h⟩)
        · exact .inl (.inl (.inl h))
        · exact .inr h
        · exact .inl (.inr h)
    · simp only [snoc_mem,ih,step]
      constructor
      · rintro ((h | h) | h)
        · exact .inl (.inl h)
        · exact .inr h
        · exact .inl (.inr h)
      · rintro ((h | h) | h)
        · exact .inl (.inl h)
        · exact .inr h
        · exact .inl (.inr h)
theorem insR_mem (g:Nat→T_Bar) (nb:Nat) (x y:T_Bar):(∃ s,s<(insR g nb x).1∧(insR g nb x).2 s=y)↔(∃ s,s<nb∧g s=y)∨x=y:=by
  have h:=insD_mem g x y nb
  unfold insR
  split
  · rename_i hp
    simp only [h,hp,true_and]
  · rename_i hp
    simp only [snoc_mem,h]
    constructor
    · rintro ((h | ⟨h,_⟩) | h)
      · exact .inl h
      · exact absurd h hp
      · exact .inr h
    · rintro (h | h)
      · exact .inl (.inl h)
      · exact .inr h
theorem insR_n (g:Nat→T_Bar) (nb:Nat) (x:T_Bar):(insR g nb x).1=nb+1:=by
  have h:=insD_n g x nb
  unfold insR
  split
  · rename_i hp;rw [if_pos hp] at h;exact h
  · rename_i hp;rw [if_neg hp] at h;show (insD g x nb).2.1+1=nb+1;omega
theorem con_l2Put (g:Nat→T_Bar) (nb N:Nat) (x:T_Bar) (hnb:nb≤1048576):Con Try.prog 155 0 [] [grG g nb N,brA x] [(0,brOb (insR g nb x).1 (insR g nb x).2)] (.agg [.p (.int .i64 N),.ar 2 0 0 (insR g nb x).1]):=by
  refine con_start Try.func155 rfl (by kernel_rfl) rfl (fun c hc=>?_)
  have lp:∀ d i,i+d=nb→Run Try.prog c 155 zf21 (SL g nb N x i (insD g x i).2.1 (insD g x i).1 (insD g x i).2.2) (Post c [(0,brOb (insR g nb x).1 (insR g nb x).2)] (.agg [.p (.int .i64 N),.ar 2 0 0 (insR g nb x).1])):=by
    intro d
    induction d with
    | zero =>
      intro i hi
      obtain rfl:i=nb:=by omega
      have hd:decide ((i:Int)<(i:Int))=false:=by simp
      have hn:=insD_n g x i
      have hle:(insD g x i).2.1≤i+1:=by split at hn<;>omega
      cases hp:(insD g x i).1 with
      | true =>
        rw [show insR g i x=((insD g x i).2.1,(insD g x i).2.2) by simp [insR,hp]]
        refine path_ok mixed Try.func155 hc (rLd g i N x i (insD g x i).2.1 true (insD g x i).2.2) ?_
        repeat' (first | exact aN | apply aI)
        all_goals (first | exact aA _ _ | exact aE _ | omega | rfl | (intros;first | assumption | exact trivial | rfl | exact fT ‹_› | ((repeat' (first | assumption | apply anda | apply notf));done)) | (intro i hi;simp [All]))
      | false =>
        rw [show insR g i x=((insD g x i).2.1+1,snoc (insD g x i).2.1 (insD g x i).2.2 x) by simp [insR,hp]]
        refine path_ok mixed Try.func155 hc (rLc g i N x i (insD g x i).2.1 false (insD g x i).2.2) ?_
        repeat' (first | exact aN | apply aI)
        all_goals (first | exact aE _ | omega | rfl | (intros;first | assumption | exact trivial | rfl | exact fT ‹_› | ((repeat' (first | assumption | apply anda | apply notf));done)) | (intro j hj;simp [All];done) | (intro j hj;by_cases h:j<(insD g x i).2.1<;>simp [h,snoc,cvtL,cvt,tg,tru,All]))
    | succ d ih =>
      intro i hi
      have hd:decide ((i:Int)<(nb:Int))=true:=by simp;omega
      have hn:=insD_n g x i
      have hle:(insD g x i).2.1≤i+1:=by split at hn<;>omega
      have hca:=con_l2After (g i) x
      have hs:insD g x (i+1)=if (bif !(insD g x i).1 then !aft (g i) x else false)=true then (true,(insD g x i).2.1+1+1,snoc ((insD g x i).2.1+1) (snoc (insD g x i).2.1 (insD g x i).2.2 x) (g i)) else ((insD g x i).1,(insD g x i).2.1+1,snoc (insD g x i).2.1 (insD g x i).2.2 (g i)):=rfl
      have hih:=ih (i+1) (by omega)
      cases ht:(bif !(insD g x i).1 then !aft (g i) x else false) with
      | true =>
        rw [hs,if_pos ht] at hih
        refine piece_ok mixed hc (rLa g nb N x i (insD g x i).2.1 (insD g x i).1 (insD g x i).2.2) ?_ hih
        repeat' (first | exact aN | apply aI)
        all_goals (first | exact aG _ | exact aP _ _ | omega | rfl | (intros;first | assumption | exact trivial | rfl | exact fT ‹_› | ((repeat' (first | assumption | apply anda | apply notf));done)) | (intros;exact hca) | (exact ht) | (intro j hj;simp [All];done) | (intro j hj;by_cases h:j<(insD g x i).2.1+1<;>by_cases h':j<(insD g x i).2.1<;>simp [h,h',snoc,cvtL,cvt,tg,tru,All]) | (simp;omega))
      | false =>
        rw [hs,if_neg (by rw [ht];simp)] at hih
        refine piece_ok mixed hc (rLb g nb N x i (insD g x i).2.1 (insD g x i).1 (insD g x i).2.2) ?_ hih
        repeat' (first | exact aN | apply aI)
        all_goals (first | exact aG _ | exact aP _ _ | omega | rfl | (intros;first | assumption | exact trivial | rfl | exact fT ‹_› | ((repeat' (first | assumption | apply anda | apply notf));done)) | (intros;exact hca) | (exact ht) | (intro j hj;simp [All];done) | (intro j hj;by_cases h:j<(insD g x i).2.1<;>simp [h,snoc,cvtL,cvt,tg,tru,All]))
  refine piece_ok mixed hc (rLz g nb N x) ?_ (lp nb 0 (by omega))
  repeat' (first | exact aN | apply aI)
  all_goals (first | exact aP _ _ | exact aA _ _ | omega | rfl | (intros;first | assumption | exact trivial | rfl | exact fT ‹_› | ((repeat' (first | assumption | apply anda | apply notf));done)) | (intro i hi;simp [All]))
end Go.Proofs.Ytffnfeefjdmifaa.Mach
namespace Go.Proofs.Ytffnfeefjdmifaa.Mach
open Go
set_option linter.unusedVariables false
set_option linter.unusedSimpArgs false
def hasI (g:Nat→Int) (x:Int):Nat→Bool
  | 0=>false
  | k+1=>hasI g x k||g k==x
def inL (v:T_IntS):AV:=.p (.seq true 1 v.1 (fun i=>[.int .i64 (v.2 i)]))
def S85 (v:T_IntS) (x:Int) (k:Nat):St :=
  ⟨[inL v,.p (.int .i64 x),.p .any,.p .any,.p .any,.p (.int .i64 k)]++List.replicate 12 anyA,[],0⟩
def S112 (v:T_IntS) (x:Int) (k:Nat):St :=
  ⟨[inL v,.p (.int .i64 x)]++List.replicate 5 anyA++[.p (.int .i64 v.1),.p (.int .i64 k)]++List.replicate 10 anyA,[],0⟩
theorem p85a (v:T_IntS) (x:Int) :
    pieceOb Try.prog 0 [rg 1,rg 1,.head] [.code (bodyOf Try.f113)] (start Try.f113 [] 0 [inL v,.p (.int .i64 x)]) [] 1 (S85 v x 0) =
    some (zf40,[(AN v.1),(AP v.1 (fun i=>[.int .i64 (v.2 i)])),(AI x),((0:Int)=(↑0:Int))]):=by kernel_rfl
theorem p85b (v:T_IntS) (x:Int) (k:Nat) :
    pieceOb Try.prog 0 [rg 4,.dec true,rg 6,.dec false,rg 3,.head] zf40 (S85 v x k) [] 1 (S85 v x (k+1)) =
    some (zf40,[((decide ((↑k:Int)<(↑v.1:Int)))=true),(IL 0 (↑k:Int)),(IT (↑k:Int) (↑v.1:Int)),((v.2 k==x)=false),(R0 ((↑k:Int)+1)),(R1 ((↑k:Int)+1)),(AN v.1),(AP v.1 (fun i=>[.int .i64 (v.2 i)])),(AI x),((((↑k:Int)+1):Int)=(↑(k+1):Int))]):=by kernel_rfl
theorem p85c (v:T_IntS) (x:Int) (k:Nat) :
    pathOb Try.prog Try.f113 0 [rg 4,.dec true,rg 6,.dec true,rg 1] zf40 (S85 v x k) [] 1 [] (.p (.bool true)) =
    some [((decide ((↑k:Int)<(↑v.1:Int)))=true),(IL 0 (↑k:Int)),(IT (↑k:Int) (↑v.1:Int)),((v.2 k==x)=true),(true=true)]:=by kernel_rfl
theorem p85d (v:T_IntS) (x:Int) (k:Nat) :
    pathOb Try.prog Try.f113 0 [rg 4,.dec false,rg 1] zf40 (S85 v x k) [] 1 [] (.p (.bool false)) =
    some [((decide ((↑k:Int)<(↑v.1:Int)))=false),(false=false)]:=by kernel_rfl
theorem p112a (v:T_IntS) (x:Int) :
    pieceOb Try.prog 0 [rg 1,rg 3,.head] [.code (bodyOf Try.f139)] (start Try.f139 [] 0 [inL v,.p (.int .i64 x)]) [] 1 (S112 v x 0) =
    some (zf41,[(AN v.1),(AP v.1 (fun i=>[.int .i64 (v.2 i)])),(AI x),(AI ((↑v.1:Int))),((0:Int)=(↑0:Int))]):=by kernel_rfl
theorem p112b (v:T_IntS) (x:Int) (k:Nat) :
    pieceOb Try.prog 0 [rg 1,.dec true,rg 2,rg 6,.dec false,rg 2,.head] zf41 (S112 v x k) [] 1 (S112 v x (k+1)) =
    some (zf41,[((decide ((↑k:Int)<(↑v.1:Int)))=true),(IL 0 (↑k:Int)),(IT (↑k:Int) (↑v.1:Int)),((x==v.2 k)=false),(R0 ((↑k:Int)+1)),(R1 ((↑k:Int)+1)),(AN v.1),(AP v.1 (fun i=>[.int .i64 (v.2 i)])),(AI x),(AI ((↑v.1:Int))),((((↑k:Int)+1):Int)=(↑(k+1):Int))]):=by kernel_rfl
theorem p112c (v:T_IntS) (x:Int) (k:Nat) :
    pathOb Try.prog Try.f139 0 [rg 1,.dec true,rg 2,rg 6,.dec true,rg 2] zf41 (S112 v x k) [] 1 [] (.p (.int .i64 k)) =
    some [((decide ((↑k:Int)<(↑v.1:Int)))=true),(IL 0 (↑k:Int)),(IT (↑k:Int) (↑v.1:Int)),((x==v.2 k)=true),(AI ((↑k:Int)))]:=by kernel_rfl
theorem p112d (v:T_IntS) (x:Int) (k:Nat) :
    pathOb Try.prog Try.f139 0 [rg 1,.dec false,rg 1] zf41 (S112 v x k) [] 1 [] (.p (.int .i64 (-1))) =
    some [((decide ((↑k:Int)<(↑v.1:Int)))=false),(AI ((-1)))]:=by kernel_rfl
theorem p90 (v:T_IntS) (x r:Int) :
    pathOb Try.prog Try.f108 0 [rg 1,rm [(2,oc [] (.p (.int .i64 r)))] 2] [.code (bodyOf Try.f108)] (start Try.f108 [] 0 [inL v,.p (.int .i64 x)]) [] 1 [] (.p (.bool (decide (r≥0)))) =
    some [Con Try.prog 139 0 [] [.p (.seq true 1 v.1 (fun i=>[.int .i64 (v.2 i)])),.p (.int .i64 x)] [] (.p (.int .i64 r)),((decide (r≥0))=(decide (r≥0)))]:=by kernel_rfl
theorem hasI_hit (g:Nat→Int) (x:Int) (k:Nat) (h:(g k==x)=true):∀ n,k<n→hasI g x n=true
  | 0,h'=>by omega
  | n+1,h'=>by
    by_cases e:k=n
    · subst e;simp [hasI,h]
    · simp [hasI,hasI_hit g x k h n (by omega)]
theorem con_l2Has (v:T_IntS) (x:Int) (hn:v.1≤1048576):Con Try.prog 113 0 [] [inL v,.p (.int .i64 x)] [] (.p (.bool (hasI v.2 x v.1))):=by
  refine con_start Try.func113 rfl (by kernel_rfl) rfl (fun c hc=>?_)
  have lp:∀ m k,k+m=v.1→hasI v.2 x k=false→Run Try.prog c 113 zf40 (S85 v x k) (Post c [] (.p (.bool (hasI v.2 x v.1)))):=by
    intro m
    induction m with
    | zero =>
      intro k hk hg
      rw [show hasI v.2 x v.1=false by rw [show v.1=k by omega];exact hg]
      have hd:decide ((k:Int)<(v.1:Int))=false:=by simp;omega
      refine path_ok mixed Try.func113 hc (p85d v x k) ?_
      repeat' (first | exact aN | apply aI)
      all_goals (first | omega | rfl | (intros;first | assumption | exact trivial | rfl | exact fT ‹_› | ((repeat' (first | assumption | apply anda | apply notf));done)))
    | succ m ih =>
      intro k hk hg
      have hd:decide ((k:Int)<(v.1:Int))=true:=by simp;omega
      cases he:(v.2 k==x) with
      | true =>
        rw [hasI_hit v.2 x k he v.1 (by omega)]
        refine path_ok mixed Try.func113 hc (p85c v x k) ?_
        repeat' (first | exact aN | apply aI)
        all_goals (first | omega | rfl | (intros;first | assumption | exact trivial | rfl | exact fT ‹_› | ((repeat' (first | assumption | apply anda | apply notf));done)) | (exact he))
      | false =>
        refine piece_ok mixed hc (p85b v x k) ?_ (ih (k+1) (by omega) (by simp only [hasI,hg,he];rfl))
        repeat' (first | exact aN | apply aI)
        all_goals (first | exact aP _ _ | omega | rfl | (intros;first | assumption | exact trivial | rfl | exact fT ‹_› | ((repeat' (first | assumption | apply anda | apply notf));done)) | (exact he))
  refine piece_ok mixed hc (p85a v x) ?_ (lp v.1 0 (by omega) rfl)
  repeat' (first | exact aN | apply aI)
  all_goals (first | exact aP _ _ | omega | rfl | (intros;first | assumption | exact trivial | rfl | exact fT ‹_› | ((repeat' (first | assumption | apply anda | apply notf));done)))
theorem con_Index (v:T_IntS) (x:Int) (hn:v.1≤1048576):∃ r:Int,decide (r≥0)=hasI v.2 x v.1∧Con Try.prog 139 0 [] [inL v,.p (.int .i64 x)] [] (.p (.int .i64 r)):=by
  have key:(∃ k,k<v.1∧hasI v.2 x k=false∧(v.2 k==x)=true)∨hasI v.2 x v.1=false:=by
    have gen:∀ n,(∃ k,k<n∧hasI v.2 x k=false∧(v.2 k==x)=true)∨hasI v.2 x n=false:=by
      intro n
      induction n with
      | zero=>exact .inr rfl
      | succ n ih =>
        rcases ih with ⟨k,h1,h2⟩ | h
        · exact .inl ⟨k,by omega,h2⟩
        · cases he:(v.2 n==x) with
          | true=>exact .inl ⟨n,by omega,h,he⟩
          | false=>exact .inr (by simp only [hasI,h,he];rfl)
    exact gen v.1
  rcases key with ⟨q,hq,hq1,hq2⟩ | hno
  · refine ⟨(q:Int),by rw [hasI_hit v.2 x q hq2 v.1 hq];simp,?_⟩
    refine con_start Try.func139 rfl (by kernel_rfl) rfl (fun c hc=>?_)
    have lp:∀ m k,k+m=q→Run Try.prog c 139 zf41 (S112 v x k) (Post c [] (.p (.int .i64 (q:Int)))):=by
      intro m
      induction m with
      | zero =>
        intro k hk
        obtain rfl:k=q:=by omega
        have hd:decide ((k:Int)<(v.1:Int))=true:=by simp;omega
        have he:(x==v.2 k)=true:=by rw [beq_iff_eq] at hq2 ⊢;exact hq2.symm
        refine path_ok mixed Try.func139 hc (p112c v x k) ?_
        repeat' (first | exact aN | apply aI)
        all_goals (first | omega | rfl | (intros;first | assumption | exact trivial | rfl | exact fT ‹_› | ((repeat' (first | assumption | apply anda | apply notf));done)) | (exact he))
      | succ m ih =>
        intro k hk
        have hd:decide ((k:Int)<(v.1:Int))=true:=by simp;omega
        have he:(x==v.2 k)=false:=by
          cases h:(v.2 k==x) with
          | true=>rw [hasI_hit v.2 x k h q (by omega)] at hq1;cases hq1
          | false =>
            simp only [beq_eq_false_iff_ne,ne_eq] at h ⊢
            exact fun e=>h e.symm
        refine piece_ok mixed hc (p112b v x k) ?_ (ih (k+1) (by omega))
        repeat' (first | exact aN | apply aI)
        all_goals (first | exact aP _ _ | omega | rfl | (intros;first | assumption | exact trivial | rfl | exact fT ‹_› | ((repeat' (first | assumption | apply anda | apply notf));done)) | (exact he))
    refine piece_ok mixed hc (p112a v x) ?_ (lp q 0 (by omega))
    repeat' (first | exact aN | apply aI)
    all_goals (first | exact aP _ _ | omega | rfl | (intros;first | assumption | exact trivial | rfl | exact fT ‹_› | ((repeat' (first | assumption | apply anda | apply notf));done)))
  · refine ⟨-1,by rw [hno];rfl,?_⟩
    refine con_start Try.func139 rfl (by kernel_rfl) rfl (fun c hc=>?_)
    have lp:∀ m k,k+m=v.1→Run Try.prog c 139 zf41 (S112 v x k) (Post c [] (.p (.int .i64 (-1)))):=by
      intro m
      induction m with
      | zero =>
        intro k hk
        have hd:decide ((k:Int)<(v.1:Int))=false:=by simp;omega
        refine path_ok mixed Try.func139 hc (p112d v x k) ?_
        repeat' (first | exact aN | apply aI)
        all_goals (first | omega | rfl | (intros;first | assumption | exact trivial | rfl | exact fT ‹_› | ((repeat' (first | assumption | apply anda | apply notf));done)))
      | succ m ih =>
        intro k hk
        have hd:decide ((k:Int)<(v.1:Int))=true:=by simp;omega
        have he:(x==v.2 k)=false:=by
          cases h:(v.2 k==x) with
          | true=>rw [hasI_hit v.2 x k h v.1 (by omega)] at hno;cases hno
          | false =>
            simp only [beq_eq_false_iff_ne,ne_eq] at h ⊢
            exact fun e=>h e.symm
        refine piece_ok mixed hc (p112b v x k) ?_ (ih (k+1) (by omega))
        repeat' (first | exact aN | apply aI)
        all_goals (first | exact aP _ _ | omega | rfl | (intros;first | assumption | exact trivial | rfl | exact fT ‹_› | ((repeat' (first | assumption | apply anda | apply notf));done)) | (exact he))
    refine piece_ok mixed hc (p112a v x) ?_ (lp v.1 0 (by omega))
    repeat' (first | exact aN | apply aI)
    all_goals (first | exact aP _ _ | omega | rfl | (intros;first | assumption | exact trivial | rfl | exact fT ‹_› | ((repeat' (first | assumption | apply anda | apply notf));done)))
theorem con_Contains (v:T_IntS) (x:Int) (hn:v.1≤1048576):Con Try.prog 108 0 [] [inL v,.p (.int .i64 x)] [] (.p (.bool (hasI v.2 x v.1))):=by
  obtain ⟨r,hr,hcon⟩:=con_Index v x hn
  rw [← hr]
  refine con_start Try.func108 rfl (by kernel_rfl) rfl (fun c hc=>?_)
  refine path_ok mixed Try.func108 hc (p90 v x r) ?_
  repeat' (first | exact aN | apply aI)
  all_goals (first | omega | rfl | (intros;first | assumption | exact trivial | rfl | exact fT ‹_› | ((repeat' (first | assumption | apply anda | apply notf));done)) | (exact hcon))
end Go.Proofs.Ytffnfeefjdmifaa.Mach
namespace Go.Proofs.Ytffnfeefjdmifaa.Mach
open Go
set_option linter.unusedVariables false
set_option linter.unusedSimpArgs false
def brX (a b:Int):T_Bar:=(if b<a then b else a,if b>a then b else a,())
end Go.Proofs.Ytffnfeefjdmifaa.Mach
namespace Go.Proofs.Ytffnfeefjdmifaa.Mach
open Go
set_option linter.unusedVariables false
set_option linter.unusedSimpArgs false
def snocI (n:Nat) (f:Nat→Int) (p:Int) (s:Nat):Int:=if s<n then f s else p
theorem rIs (g g':Nat→T_Bar) (nb nb' N:Nat) (a b:Int) (r1 r0:Nat) :
    pathOb Try.prog Try.f142 0 [rg 2,rm [(1,oc [] (.p (.bool true)))] 21,.dec false,rm [(8,oc [(0,brOb nb' g')] (.agg [.p (.int .i64 N),.ar 2 0 0 nb']))] 2,rm [(5,oc [] (.p (.int .i64 r1))),(1,oc [] (.p (.int .i64 r0)))] 3] [.code (bodyOf Try.f142)] (start Try.f142 [] 0 [grG g nb N,.p (.int .i64 a),.p (.int .i64 b)]) [] 1 [] (.p (.bool (bif a==b then true else (r1:Int)==(r0:Int)))) =
    some [(NT 0 1),Con Try.prog 110 0 [] [(zf52 N nb g)] [] (.p (.bool true)),(AG (!!true)),(((!true)=false)→ ((!!true)=true)),(AG (!bif !true then true else decide (a<0))),(((bif !true then true else decide (a<0))=false)→ ((!bif !true then true else decide (a<0))=true)),(AG (!bif bif !true then true else decide (a<0) then true else decide (b<0))),(((!bif bif !true then true else decide (a<0) then true else decide (b<0))=true)→(NT 0 1)),(AG (!bif bif !true then true else decide (a<0) then true else decide (b<0))),(AG (!bif bif !true then true else decide (a<0) then true else decide (b<0))),(((bif bif !true then true else decide (a<0) then true else decide (b<0))=false)→ ((!bif bif !true then true else decide (a<0) then true else decide (b<0))=true)),(AG (!bif bif bif !true then true else decide (a<0) then true else decide (b<0) then true else decide (a≥(↑N:Int)))),(((!bif bif bif !true then true else decide (a<0) then true else decide (b<0) then true else decide (a≥(↑N:Int)))=true)→(NT 0 1)),(AG (!bif bif bif !true then true else decide (a<0) then true else decide (b<0) then true else decide (a≥(↑N:Int)))),(AG (!bif bif bif !true then true else decide (a<0) then true else decide (b<0) then true else decide (a≥(↑N:Int)))),(((bif bif bif !true then true else decide (a<0) then true else decide (b<0) then true else decide (a≥(↑N:Int)))=false)→ ((!bif bif bif !true then true else decide (a<0) then true else decide (b<0) then true else decide (a≥(↑N:Int)))=true)),((bif bif bif bif !true then true else decide (a<0) then true else decide (b<0) then true else decide (a≥(↑N:Int)) then true else decide (b≥(↑N:Int)))=false),(NT 0 1),Con Try.prog 155 0 [] [(zf52 N nb g),.agg [.p (.int .i64 (if false=true then if b>a then b else a else if b<a then b else a)),.p (.int .i64 (if true=true then if b>a then b else a else if b<a then b else a))]] [(0,⟨false,2,nb',(fun i=>[.p (.int .i64 ((g' i).1)),.p (.int .i64 ((g' i).2.1))])⟩)] (.agg [.p (.int .i64 (↑N:Int)),.ar 2 0 0 nb']),(NT 0 1),((true=true)→ (AN 1)),(((!a==b)=true)→(NT 0 1)),(AG (!a==b)),(((!a==b)=true)→ (AN 2)),(((!a==b)=true)→(NL (nb') (nb'))),(((!a==b)=true)→ Con Try.prog 156 0 [] [(zf52 N nb' g')] [] (.p (.int .i64 (↑r1:Int)))),(((!a==b)=true)→(NT 0 1)),(AG (!a==b)),(((!a==b)=true)→ Con Try.prog 156 0 [] [(zf52 N nb g)] [] (.p (.int .i64 (↑r0:Int)))),(AG (!a==b)),(AG (!a==b)),(((a==b)=false)→ ((!a==b)=true)),((bif a==b then true else (↑r1:Int)==(↑r0:Int))=(bif a==b then true else (↑r1:Int)==(↑r0:Int)))]:=by kernel_rfl
theorem rRank (g:Nat→T_Bar) (nb N m:Nat) (F T Q:Nat→Int) :
    pathOb Try.prog Try.f178 0 [rg 1,rm [(2,oc (pebR N m F T Q) (pebO N m 0))] 3] [.code (bodyOf Try.f178)] (start Try.f178 [] 0 [.p (.int .i64 N),brL g nb]) [] 1 [] (.p (.int .i64 m)) =
    some [Con Try.prog 146 0 [] [.p (.int .i64 (↑N:Int)),.p (.seq true 2 nb (fun i=>[.int .i64 ((g i).1),.int .i64 ((g i).2.1)])),.p (.int .i64 2),.p (.int .i64 3)] (zf16 N F m T Q) (.agg [.ar 1 0 0 N,.ar 1 1 0 m,.ar 1 2 0 m]),(AI ((↑m:Int)))]:=by kernel_rfl
theorem rRaise (g:Nat→T_Bar) (nb N:Nat) (x:T_Bar) (r1 r0:Nat) :
    pathOb Try.prog Try.f158 0 [rg 2,rm [(7,oc [] (.p (.int .i64 r1))),(2,oc [] (.p (.int .i64 r0)))] 2] [.code (bodyOf Try.f158)] (start Try.f158 [] 0 [.p (.int .i64 N),brL g nb,brA x]) [] 1 [] (.p (.bool (decide ((r1:Int)>(r0:Int))))) =
    some [(NL 0 0),(NL ((0+nb)*16) 140737488355328),(NL (0+nb) 9223372036854775807),(NT 0 1),(NL 1 1),(NL (0+nb) (0+nb)),(NL ((0+nb+1)*16) 140737488355328),(NL (0+nb+1) 9223372036854775807),(AN 2),(NL (0+nb+1) (0+nb+1)),Con Try.prog 178 0 [] [.p (.int .i64 (↑N:Int)),.p (.seq true 2 (0+nb+1) (fun i=>[(cellP true (if (i<0+nb) then [.p (.int .i64 ((g i).1)),.p (.int .i64 ((g i).2.1))] else [.p (.int .i64 x.1),.p (.int .i64 x.2.1)]) 0),(cellP true (if (i<0+nb) then [.p (.int .i64 ((g i).1)),.p (.int .i64 ((g i).2.1))] else [.p (.int .i64 x.1),.p (.int .i64 x.2.1)]) 1)]))] [] (.p (.int .i64 (↑r1:Int))),Con Try.prog 178 0 [] [.p (.int .i64 (↑N:Int)),.p (.seq true 2 nb (fun i=>[.int .i64 ((g i).1),.int .i64 ((g i).2.1)]))] [] (.p (.int .i64 (↑r0:Int))),((decide ((↑r1:Int)>(↑r0:Int)))=(decide ((↑r1:Int)>(↑r0:Int))))]:=by kernel_rfl
def bL (g:Nat→T_Bar):Nat→List (Nat×Nat)
  | 0=>[]
  | n+1=>bL g n++[brN (g n)]
theorem bL_mem (g:Nat→T_Bar) (y:Nat×Nat):∀ n,y∈bL g n↔∃ s,s<n∧brN (g s)=y
  | 0=>by
    constructor
    · intro h;cases h
    · rintro ⟨s,h,_⟩;exact absurd h (Nat.not_lt_zero _)
  | n+1=>by
    simp only [bL,List.mem_append,List.mem_singleton,bL_mem g y n]
    constructor
    · rintro (⟨s,h1,h2⟩ | h)
      · exact ⟨s,by omega,h2⟩
      · exact ⟨n,by omega,h.symm⟩
    · rintro ⟨s,h1,h2⟩
      by_cases e:s=n
      · right;rw [← e];exact h2.symm
      · exact .inl ⟨s,by omega,h2⟩
theorem acc_greedy (N k l:Nat) (g:Nat→T_Bar):∀ n,(accI N k l g n).map (fun i=>brN (g i))=Mat.greedy N k l [] (bL g n)
  | 0=>rfl
  | n+1=>by
    have ih:=acc_greedy N k l g n
    simp only [accI,bL,Mat.greedy_append,Mat.greedy]
    rw [← ih]
    split
    · rw [List.map_append];rfl
    · rfl
theorem acc_len (N k l:Nat) (g:Nat→T_Bar) (n:Nat):(accI N k l g n).length=(Mat.greedy N k l [] (bL g n)).length:=by
  rw [← acc_greedy,List.length_map]
def OkBars (N nb:Nat) (g:Nat→T_Bar):Prop:=∀ e,e<nb→0≤(g e).1∧(g e).1<(g e).2.1∧(g e).2.1<N
theorem bL_good {N nb:Nat} {g:Nat→T_Bar} (h:OkBars N nb g):∀ x∈bL g nb,Mat.GoodBar N x:=by
  intro x hx
  obtain ⟨s,h1,h2⟩:=(bL_mem g x nb).1 hx
  have:=h s h1
  rw [← h2]
  simp only [Mat.GoodBar,brN]
  omega
theorem acc_same {N n n':Nat} {g g':Nat→T_Bar} (h:OkBars N n g) (hm:∀ y,(∃ s,s<n∧g s=y)↔∃ s,s<n'∧g' s=y):(accI N 2 3 g n).length=(accI N 2 3 g' n').length:=by
  rw [acc_len,acc_len]
  refine Mat.rank_same _ _ (bL_good h) (fun x=>?_)
  rw [bL_mem,bL_mem]
  constructor
  · rintro ⟨s,h1,h2⟩
    obtain ⟨t,h3,h4⟩:=(hm (g s)).1 ⟨s,h1,rfl⟩
    exact ⟨t,h3,by rw [h4,h2]⟩
  · rintro ⟨s,h1,h2⟩
    obtain ⟨t,h3,h4⟩:=(hm (g' s)).2 ⟨s,h1,rfl⟩
    exact ⟨t,h3,by rw [h4,h2]⟩
theorem acc_congr (N k l:Nat) {g g':Nat→T_Bar}:∀ n,(∀ i,i<n→g i=g' i)→accI N k l g n=accI N k l g' n
  | 0,_=>rfl
  | n+1,h=>by
    have ih:=acc_congr N k l n (fun i hi=>h i (by omega))
    have hb:(accI N k l g n).map (fun i=>brN (g i))=(accI N k l g' n).map (fun i=>brN (g' i)):=by
      rw [ih]
      refine List.map_congr_left (fun i hi=>?_)
      rw [h i (by
        have:∀ n,∀ i∈accI N k l g' n,i<n:=by
          intro n
          induction n with
          | zero=>intro i hi;cases hi
          | succ n ih2 =>
            intro i hi
            simp only [accI] at hi
            split at hi
            · rcases List.mem_append.1 hi with h | h
              · have:=ih2 i h;omega
              · rw [List.mem_singleton] at h;omega
            · have:=ih2 i hi;omega
        have:=this n i hi
        omega)]
    simp only [accI]
    rw [hb,h n (by omega),ih]
theorem acc_mono (N k l:Nat) (g:Nat→T_Bar) (n:Nat):(accI N k l g n).length≤(accI N k l g (n+1)).length:=by
  simp only [accI]
  split
  · simp
  · exact Nat.le_refl _
theorem con_planeRank {N nb:Nat} {g:Nat→T_Bar} (hb:OkBars N nb g) (hN:N≤1048576) (hnb:nb≤1048576):Con Try.prog 178 0 [] [.p (.int .i64 N),brL g nb] [] (.p (.int .i64 ((accI N 2 3 g nb).length:Nat))):=by
  obtain ⟨m,F,T,Q,hc1,hp,hq⟩:=con_play (N:=N) (k:=2) (l:=3) hb (by omega) (by omega) hN hnb
  rw [← hq,qL_length]
  refine con_start Try.func178 rfl (by kernel_rfl) rfl (fun c hc=>?_)
  refine path_ok mixed Try.func178 hc (rRank g nb N m F T Q) ?_
  repeat' (first | exact aN | apply aI)
  all_goals (first | omega | rfl | (intros;first | assumption | exact trivial | rfl | exact fT ‹_› | ((repeat' (first | assumption | apply anda | apply notf));done)) | (exact hc1) | (intro i hi;simp [All]))
theorem ok_snoc {N nb:Nat} {g:Nat→T_Bar} {x:T_Bar} (hb:OkBars N nb g) (hx:0≤x.1∧x.1<x.2.1∧x.2.1<N):OkBars N (nb+1) (snoc nb g x):=by
  intro e he
  by_cases h:e<nb
  · rw [snoc_lt h];exact hb e h
  · rw [snoc_ge h];exact hx
theorem con_raises {N nb:Nat} {g:Nat→T_Bar} {x:T_Bar} (hb:OkBars N nb g) (hx:0≤x.1∧x.1<x.2.1∧x.2.1<N) (hN:N≤1048576) (hnb:nb≤1000000) :
    Con Try.prog 158 0 [] [.p (.int .i64 N),brL g nb,brA x] [] (.p (.bool (decide (((accI N 2 3 (snoc nb g x) (nb+1)).length:Int)>((accI N 2 3 g nb).length:Int))))):=by
  have h0:=con_planeRank hb hN (by omega)
  have h1:=con_planeRank (ok_snoc hb hx) hN (by omega)
  refine con_start Try.func158 rfl (by kernel_rfl) rfl (fun c hc=>?_)
  refine path_ok mixed Try.func158 hc (rRaise g nb N x _ _) ?_
  repeat' (first | exact aN | apply aI)
  all_goals (first | omega | rfl | (intros;first | assumption | exact trivial | rfl | exact fT ‹_› | ((repeat' (first | assumption | apply anda | apply notf));done)) | (exact h0) | (refine Con.arg_ext h1 ?_;simp only [brL,wkL,wk,wkP,beq_self_eq_true,Bool.and_self,if_true,ikEq,List.append_nil,List.cons_append,List.nil_append,All];refine ⟨trivial,by omega,fun i hi=>?_,trivial⟩;simp only [Nat.zero_add];by_cases h:i<nb<;>simp [h,cellP,tg,tru,snoc]))
noncomputable def impB (N nb:Nat) (g:Nat→T_Bar) (a b:Int):Bool :=
  bif a==b then true else (((accI N 2 3 (snoc nb g (brX a b)) (nb+1)).length:Nat):Int)==(((accI N 2 3 g nb).length:Nat):Int)
theorem brX_ok {N:Nat} {a b:Int} (ha:0≤a∧a<N) (hb:0≤b∧b<N) (hab:a≠b):0≤(brX a b).1∧(brX a b).1<(brX a b).2.1∧(brX a b).2.1<N:=by
  simp only [brX]
  by_cases h:b<a
  · rw [if_pos h,if_neg (by omega)];omega
  · rw [if_neg h,if_pos (by omega)];omega
theorem con_IsImplied_s {N nb:Nat} {g:Nat→T_Bar} (hg:isGraphF ((N:Int),(nb,g),())=true) (hok:OkBars N nb g) (hN:1≤N∧N≤8) (hnb:nb≤24) {a b:Int} (ha:0≤a∧a<N) (hb:0≤b∧b<N) :
    Con Try.prog 142 0 [] [grG g nb N,.p (.int .i64 a),.p (.int .i64 b)] [] (.p (.bool (impB N nb g a b))):=by
  have hsm:smS s_Graph ((N:Int),(nb,g),()):=⟨by simp [smS,smL],⟨by show nb≤1048576;omega,fun i hi=>by simp [smS,smL]⟩,True.intro⟩
  have hcg:=con_IsGraph_s ((N:Int),(nb,g),()) hsm
  rw [hg] at hcg
  have hp:=con_l2Put g nb N (brX a b) (by omega)
  have hr0:=con_l6Rank hok hN (by omega)
  have hr1:a≠b→Con Try.prog 156 0 [] [grG (insR g nb (brX a b)).2 (insR g nb (brX a b)).1 N] [] (.p (.int .i64 ((accI N 2 3 (snoc nb g (brX a b)) (nb+1)).length:Nat))):=by
    intro hab
    have hx:=brX_ok ha hb hab
    have hm:∀ y,(∃ s,s<(insR g nb (brX a b)).1∧(insR g nb (brX a b)).2 s=y)↔∃ s,s<nb+1∧snoc nb g (brX a b) s=y:=fun y=>by rw [insR_mem,snoc_mem]
    have hok':OkBars N (insR g nb (brX a b)).1 (insR g nb (brX a b)).2:=by
      intro e he
      obtain ⟨s,h1,h2⟩:=(hm _).1 ⟨e,he,rfl⟩
      rw [← h2]
      exact ok_snoc hok hx s h1
    rw [← acc_same hok' hm]
    exact con_l6Rank hok' hN (by rw [insR_n];omega)
  refine con_start Try.func142 rfl (by kernel_rfl) rfl (fun c hc=>?_)
  have hcond:(bif bif bif bif !true then true else decide (a<0) then true else decide (b<0) then true else decide (a≥(N:Int)) then true else decide (b≥(N:Int)))=false:=by
    have h1:¬ a<0:=by omega
    have h2:¬ b<0:=by omega
    have h3:¬ (N:Int)≤a:=by omega
    have h4:¬ (N:Int)≤b:=by omega
    simp [h1,h2,h3,h4]
  refine path_ok mixed Try.func142 hc (rIs g (insR g nb (brX a b)).2 nb (insR g nb (brX a b)).1 N a b (accI N 2 3 (snoc nb g (brX a b)) (nb+1)).length (accI N 2 3 g nb).length) ?_
  repeat' (first | exact aN | apply aI)
  all_goals (first | exact aG _ | omega | rfl | (intros;first | assumption | exact trivial | rfl | exact fT ‹_› | ((repeat' (first | assumption | apply anda | apply notf));done)) | (exact hcg) | (exact hcond) | (exact hp) | (intro h;exact hr1 (by simpa using h)) | (intros;exact hr0) | (simp;done))
theorem goodB_in (N:Int) (g:Nat→T_Bar):∀ n,goodB N g n=true→∀ e,e<n→badB N g e=false
  | 0,_,e,he=>by omega
  | n+1,h,e,he=>by
    simp only [goodB,Bool.and_eq_true,Bool.not_eq_true'] at h
    by_cases h':e=n
    · subst h';exact h.2
    · exact goodB_in N g n h.1 e (by omega)
theorem graph_in {N nb:Nat} {g:Nat→T_Bar} (h:isGraphF ((N:Int),(nb,g),())=true):(1≤N∧N≤8)∧nb≤24∧OkBars N nb g:=by
  unfold isGraphF at h
  split at h
  case isFalse=>cases h
  rename_i hc
  obtain ⟨h1,h2⟩:=hc
  simp only [inB,Bool.and_eq_true,decide_eq_true_eq] at h1
  refine ⟨by omega,h2,fun e he=>?_⟩
  have hb:=goodB_in (N:Int) g nb h e he
  unfold badB at hb
  by_cases a1:(g e).1<0
  · simp [a1] at hb
  by_cases a2:(g e).1≥(g e).2.1
  · simp [a2] at hb
  by_cases a3:(g e).2.1≥(N:Int)
  · simp [a3] at hb
  omega
theorem graph_cases (v:T_Graph) (h:isGraphF v=true):∃ (N nb:Nat) (g:Nat→T_Bar),v=((N:Int),(nb,g),()):=by
  obtain ⟨v1,⟨nb,g⟩,⟨⟩⟩:=v
  have h1:0≤v1:=by
    unfold isGraphF at h
    split at h
    · rename_i hc
      have:=hc.1
      simp [inB] at this
      omega
    · cases h
  exact ⟨v1.toNat,nb,g,by rw [Int.toNat_of_nonneg h1]⟩
end Go.Proofs.Ytffnfeefjdmifaa.Mach
namespace Go.Proofs.Ytffnfeefjdmifaa.Mach
open Go
set_option linter.unusedVariables false
set_option linter.unusedSimpArgs false
theorem rBar (a b:Int) :
    pathOb Try.prog Try.f159 0 [rg 1,rg 8] [.code (bodyOf Try.f159)] (start Try.f159 [] 0 [.p (.int .i64 a),.p (.int .i64 b)]) [] 1 [] ((zf55 b a)) =
    some [(NT 0 1),((true=true)→ (AN 1)),(NT 0 1),(((if false=true then if b>a then b else a else if b<a then b else a):Int)=(if b<a then b else a)),(((if true=true then if b>a then b else a else if b<a then b else a):Int)=(if b>a then b else a))]:=by kernel_rfl
theorem rHas (g:Nat→T_Bar) (nb N:Nat) (p:Int) :
    pathOb Try.prog Try.f157 0 [rg 2,rm [(4,oc [] (.p (.bool (inB p 0 ((N:Int) - 1)))))] 1] [.code (bodyOf Try.f157)] (start Try.f157 [] 0 [grG g nb N,.p (.int .i64 p)]) [] 1 [] (.p (.bool (inB p 0 ((N:Int) - 1)))) =
    some [(NT 0 1),(R0 ((↑N:Int) - 1)),(R1 ((↑N:Int) - 1)),Con Try.prog 40 0 [] [.p (.int .i64 p),.p (.int .i64 0),.p (.int .i64 ((↑N:Int) - 1))] [] (.p (.bool (inB p 0 ((↑N:Int) - 1)))),((inB p 0 ((↑N:Int) - 1))=(inB p 0 ((↑N:Int) - 1)))]:=by kernel_rfl
theorem rIi (g:Nat→T_Bar) (nb N:Nat) (a b:Int) (r:Bool) :
    pathOb Try.prog Try.f143 0 [rg 2,rm [(1,oc [] (.p (.bool true))),(3,oc [] (.p (.bool true))),(4,oc [] (.p (.bool true))),(12,oc [] (zf55 b a)),(0,oc [] (.p (.bool r)))] 4] [.code (bodyOf Try.f143)] (start Try.f143 [] 0 [grG g nb N,.p (.int .i64 a),.p (.int .i64 b)]) [] 1 [] (.p (.bool (bif a==b then true else !r))) =
    some [(NT 0 1),Con Try.prog 101 0 [] [(zf52 N nb g)] [] (.p (.bool true)),((true=true)→(NT 0 1)),(AG true),(AG true),((true=true)→ Con Try.prog 157 0 [] [(zf52 N nb g),.p (.int .i64 a)] [] (.p (.bool true))),(AG true),(((bif true then true else false)=true)→(NT 0 1)),(AG (bif true then true else false)),(AG (bif true then true else false)),(((bif true then true else false)=true)→ Con Try.prog 157 0 [] [(zf52 N nb g),.p (.int .i64 b)] [] (.p (.bool true))),(AG (bif true then true else false)),(AG (bif bif true then true else false then true else false)),(AG (bif bif true then true else false then true else false)),(AG (bif bif true then true else false then true else false)),(AG ((bif bif true then true else false then true else false)&&!a==b)),((((bif bif true then true else false then true else false)&&!a==b)=true)→(NT 0 1)),(AG ((bif bif true then true else false then true else false)&&!a==b)),((((bif bif true then true else false then true else false)&&!a==b)=true)→(NT 0 1)),(AG ((bif bif true then true else false then true else false)&&!a==b)),(AG ((bif bif true then true else false then true else false)&&!a==b)),((((bif bif true then true else false then true else false)&&!a==b)=true)→ Con Try.prog 159 0 [] [.p (.int .i64 a),.p (.int .i64 b)] [] ((zf55 b a))),(AG ((bif bif true then true else false then true else false)&&!a==b)),(AG ((bif bif true then true else false then true else false)&&!a==b)),(AG ((bif bif true then true else false then true else false)&&!a==b)),((((bif bif true then true else false then true else false)&&!a==b)=true)→ Con Try.prog 158 0 [] [.p (.int .i64 (↑N:Int)),.p (.seq true 2 nb (fun i=>[.int .i64 ((g i).1),.int .i64 ((g i).2.1)])),(zf55 b a)] [] (.p (.bool r))),(AG ((bif bif true then true else false then true else false)&&!a==b)),(AG (bif bif true then true else false then true else false)),(((bif bif true then true else false then true else false)=true)→(((a==b)=false)→ (((bif bif true then true else false then true else false)&&!a==b)=true))),(AG (bif bif true then true else false then true else false)),((bif bif bif true then true else false then true else false then bif a==b then true else !r else false)=(bif a==b then true else !r))]:=by kernel_rfl
end Go.Proofs.Ytffnfeefjdmifaa.Mach
namespace Go.Proofs.Ytffnfeefjdmifaa.Mach
open Go
set_option linter.unusedVariables false
set_option linter.unusedSimpArgs false
theorem con_bar (a b:Int):Con Try.prog 159 0 [] [.p (.int .i64 a),.p (.int .i64 b)] [] (brA (brX a b)):=by
  refine con_start Try.func159 rfl (by kernel_rfl) rfl (fun c hc=>?_)
  refine path_ok mixed Try.func159 hc (rBar a b) ?_
  repeat' (first | exact aN | apply aI)
  all_goals (first | omega | rfl | (intros;first | assumption | exact trivial | rfl | exact fT ‹_› | ((repeat' (first | assumption | apply anda | apply notf));done)) | simp)
theorem con_has {N nb:Nat} {g:Nat→T_Bar} (hN:1≤N∧N≤8) {p:Int} (hp:0≤p∧p<N):Con Try.prog 157 0 [] [grG g nb N,.p (.int .i64 p)] [] (.p (.bool true)):=by
  have hw:=con_within p 0 ((N:Int) - 1)
  have ht:inB p 0 ((N:Int) - 1)=true:=by simp [inB];omega
  rw [show (true:Bool)=inB p 0 ((N:Int) - 1) from ht.symm]
  refine con_start Try.func157 rfl (by kernel_rfl) rfl (fun c hc=>?_)
  refine path_ok mixed Try.func157 hc (rHas g nb N p) ?_
  repeat' (first | exact aN | apply aI)
  all_goals (first | omega | rfl | (intros;first | assumption | exact trivial | rfl | exact fT ‹_› | ((repeat' (first | assumption | apply anda | apply notf));done)) | (exact hw))
theorem con_IsImplied_i {N nb:Nat} {g:Nat→T_Bar} (hg:isGraphF ((N:Int),(nb,g),())=true) (hok:OkBars N nb g) (hN:1≤N∧N≤8) (hnb:nb≤24) {a b:Int} (ha:0≤a∧a<N) (hb:0≤b∧b<N) :
    Con Try.prog 143 0 [] [grG g nb N,.p (.int .i64 a),.p (.int .i64 b)] [] (.p (.bool (impB N nb g a b))):=by
  have hsm:smS s_Graph ((N:Int),(nb,g),()):=⟨by simp [smS,smL],⟨by show nb≤1048576;omega,fun i hi=>by simp [smS,smL]⟩,True.intro⟩
  have hcg:=con_IsGraph_i ((N:Int),(nb,g),()) hsm
  rw [hg] at hcg
  have h1:=con_has (g:=g) (nb:=nb) hN ha
  have h2:=con_has (g:=g) (nb:=nb) hN hb
  have h3:=con_bar a b
  have h4:a≠b→Con Try.prog 158 0 [] [.p (.int .i64 N),brL g nb,brA (brX a b)] [] (.p (.bool (decide (((accI N 2 3 (snoc nb g (brX a b)) (nb+1)).length:Int)>((accI N 2 3 g nb).length:Int))))) :=
    fun hab=>con_raises hok (brX_ok ha hb hab) (by omega) (by omega)
  have hmono:(accI N 2 3 g nb).length≤(accI N 2 3 (snoc nb g (brX a b)) (nb+1)).length:=by
    have e:=acc_congr N 2 3 (g:=g) (g':=snoc nb g (brX a b)) nb (fun i hi=>(snoc_lt hi).symm)
    rw [e]
    exact acc_mono N 2 3 _ nb
  have he:impB N nb g a b=(bif a==b then true else !decide (((accI N 2 3 (snoc nb g (brX a b)) (nb+1)).length:Int)>((accI N 2 3 g nb).length:Int))):=by
    unfold impB
    cases a==b with
    | true=>rfl
    | false =>
      simp only [cond_false]
      by_cases h:(accI N 2 3 (snoc nb g (brX a b)) (nb+1)).length=(accI N 2 3 g nb).length
      · rw [h];simp
      · have h':¬ (((accI N 2 3 (snoc nb g (brX a b)) (nb+1)).length:Nat):Int)=(((accI N 2 3 g nb).length:Nat):Int):=by omega
        have h'':(((accI N 2 3 (snoc nb g (brX a b)) (nb+1)).length:Nat):Int)>(((accI N 2 3 g nb).length:Nat):Int):=by omega
        rw [decide_eq_true h'']
        simpa using h'
  rw [he]
  refine con_start Try.func143 rfl (by kernel_rfl) rfl (fun c hc=>?_)
  refine path_ok mixed Try.func143 hc (rIi g nb N a b _) ?_
  repeat' (first | exact aN | apply aI)
  all_goals (first | exact aG _ | omega | rfl | (intros;first | assumption | exact trivial | rfl | exact fT ‹_› | ((repeat' (first | assumption | apply anda | apply notf));done)) | (exact hcg) | (intros;exact h1) | (intros;exact h2) | (intros;exact h3) | (intro h;exact h4 (by simpa using h)) | (intro _ h;simpa using h) | (simp;done))
end Go.Proofs.Ytffnfeefjdmifaa.Mach
namespace Go.Proofs.Ytffnfeefjdmifaa.Mach
open Go
set_option linter.unusedVariables false
set_option linter.unusedSimpArgs false
def ssOb (n:Nat) (C:Nat→T_IntS):Ob:=⟨false,1,n,fun i=>[.p (.seq false 1 (C i).1 (fun s=>[.int .i64 ((C i).2 s)]))]⟩
def snocC (n:Nat) (C:Nat→T_IntS) (c:T_IntS) (i:Nat):T_IntS:=(if i<n then (C i).1 else c.1,fun s=>if i<n then (C i).2 s else c.2 s)
def SBs (g:Nat→T_Bar) (nb N e:Nat) (n p:Nat) (f:Nat→Int):St :=
  ⟨[grG g nb N,.p (.int .i64 e),.pt 2 0 0 0,.p .any,.p .any,.ar 1 1 0 n,.p (.int .i64 (g e).1),.p (.int .i64 (g e).2.1),.p (.int .i64 p)]++List.replicate 49 anyA,[(0,bxG g nb N),(1,iOb n f)],2⟩
def SBi (g:Nat→T_Bar) (nb N e:Nat) (n p:Nat) (f:Nat→Int):St :=
  ⟨[grG g nb N,.p (.int .i64 e),.pt 2 0 0 0,.p .any,.p .any,.ar 1 1 0 n,.pt 2 2 0 0]++List.replicate 21 anyA++[.p (.int .i64 N),.p (.int .i64 p)]++List.replicate 20 anyA,[(0,bxG g nb N),(1,iOb n f),(2,bxB (g e))],3⟩
def SCs (g:Nat→T_Bar) (nb N e cn:Nat) (C:Nat→T_IntS):St :=
  ⟨[grG g nb N,.pt 2 0 0 0,.p .any,.ar 1 1 0 cn,.p (.int .i64 e)]++List.replicate 40 anyA,[(0,bxG g nb N),(1,ssOb cn C)],2⟩
def SCs1 (g:Nat→T_Bar) (nb N e cn:Nat) (C:Nat→T_IntS) (c:T_IntS) (kn:Bool) (k:Nat):St :=
  ⟨[grG g nb N,.pt 2 0 0 0,.p .any,.ar 1 1 0 cn,.p (.int .i64 e),.ar 1 2 0 c.1,.p (.bool kn),.p (.int .i64 k)]++List.replicate 37 anyA,[(0,bxG g nb N),(1,ssOb cn C),(2,iOb c.1 c.2)],3⟩
theorem cBsz (g:Nat→T_Bar) (nb N e:Nat) :
    pieceOb Try.prog 0 [rg 2,rg 2,rm [(1,oc [] (.p (.bool true)))] 12,.dec false,rg 7,rg 7,rg 1,.head] [.code (bodyOf Try.f111)] (start Try.f111 [] 0 [grG g nb N,.p (.int .i64 e)]) [0,64] 1 (SBs g nb N e 0 0 (fun _=>0)) =
    some (zf13,[(NT 0 1),Con Try.prog 110 0 [] [(zf52 N nb g)] [] (.p (.bool true)),(AG (!!true)),(((!true)=false)→ ((!!true)=true)),(AG (!bif !true then true else decide ((↑e:Int)<0))),(((!bif !true then true else decide ((↑e:Int)<0))=true)→(NT 0 1)),(AG (!bif !true then true else decide ((↑e:Int)<0))),(AG (!bif !true then true else decide ((↑e:Int)<0))),(AG (!bif !true then true else decide ((↑e:Int)<0))),(((bif !true then true else decide ((↑e:Int)<0))=false)→ ((!bif !true then true else decide ((↑e:Int)<0))=true)),((bif bif !true then true else decide ((↑e:Int)<0) then true else decide ((↑e:Int)≥(↑nb:Int)))=false),(NT 0 1),(IL 0 (↑e:Int)),(IT (↑e:Int) (↑nb:Int)),(NT 0 1),(IL 0 (↑e:Int)),(IT (↑e:Int) (↑nb:Int)),(AI ((↑N:Int))),(AN nb),(AP nb (fun i=>[.int .i64 ((g i).1),.int .i64 ((g i).2.1)])),(AI ((↑e:Int))),(AN 0),(AN 0),(AN 0),(AI (((g e).1))),(AI (((g e).2.1))),((0:Int)=(↑0:Int)),((([AV.p (PV.int IntKind.i64 (↑N:Int)),brL g nb].length):Nat)=2),(NL 1 1),(NL 1 1),(AI ((↑N:Int))),(AN nb),(AP nb (fun i=>[.int .i64 ((g i).1),.int .i64 ((g i).2.1)])),(AN 1),(NL 0 0),(AA 0 (fun i=>[.p (.int .i64 0)]))]):=by kernel_rfl
theorem cBst (g:Nat→T_Bar) (nb N e n p:Nat) (f:Nat→Int) (r1 r2:Bool) :
    pieceOb Try.prog 0 [rg 4,.dec true,rm [(3,oc [] (.p (.bool r1))),(4,oc [] (.p (.bool r2)))] 1,.dec true,rg 5,rg 3,.head] zf13 (SBs g nb N e n p f) [0,546] 1 (SBs g nb N e (n+1) (p+1) (snocI n f p)) =
    some (zf13,[(NT 0 1),((decide ((↑p:Int)<(↑N:Int)))=true),(NT 0 1),Con Try.prog 142 0 [] [(zf52 N nb g),.p (.int .i64 ((g e).1)),.p (.int .i64 (↑p:Int))] [] (.p (.bool r1)),((r1=true)→(NT 0 1)),(AG r1),(AG r1),(AG r1),((r1=true)→ Con Try.prog 142 0 [] [(zf52 N nb g),.p (.int .i64 ((g e).2.1)),.p (.int .i64 (↑p:Int))] [] (.p (.bool r2))),(AG r1),((bif r1 then r2 else false)=true),(NL 1 1),(NL n n),(NL ((n+1)*8) 140737488355328),(NL (n+1) 9223372036854775807),(R0 ((↑p:Int)+1)),(R1 ((↑p:Int)+1)),(AI ((↑N:Int))),(AN nb),(AP nb (fun i=>[.int .i64 ((g i).1),.int .i64 ((g i).2.1)])),(AI ((↑e:Int))),(AN 0),(AN 0),(AN ((n+1))),(AI (((g e).1))),(AI (((g e).2.1))),((((↑p:Int)+1):Int)=(↑(p+1):Int)),(AN 2),(NL 1 1),(NL 1 1),(AI ((↑N:Int))),(AN nb),(AP nb (fun i=>[.int .i64 ((g i).1),.int .i64 ((g i).2.1)])),(AN 1),(NL (n+1) (n+1)),(CV [(546,⟨false,1,(n+1),(fun i_1=>(if (i_1<n) then [.p (.int .i64 (f i_1))] else [.p (.int .i64 (↑p:Int))]))⟩),(514,⟨false,1,1,(fun i_1=>[.p (.int .i64 (↑p:Int))])⟩),(0,⟨true,2,1,(fun i_1=>[.p (.int .i64 (↑N:Int)),.p (.seq true 2 nb (fun i_2=>[.int .i64 ((g i_2).1),.int .i64 ((g i_2).2.1)]))])⟩)] [0,546] 1 (n+1) (fun i=>if (i<n) then [.p (.int .i64 (f i))] else [.p (.int .i64 (↑p:Int))]) (fun i=>[.p (.int .i64 (snocI n f (↑p:Int) i))]))]):=by kernel_rfl
theorem cBsf (g:Nat→T_Bar) (nb N e n p:Nat) (f:Nat→Int) (r1 r2:Bool) :
    pieceOb Try.prog 0 [rg 4,.dec true,rm [(3,oc [] (.p (.bool r1))),(4,oc [] (.p (.bool r2)))] 1,.dec false,rg 3,.head] zf13 (SBs g nb N e n p f) [0,1] 1 (SBs g nb N e n (p+1) f) =
    some (zf13,[(NT 0 1),((decide ((↑p:Int)<(↑N:Int)))=true),(NT 0 1),Con Try.prog 142 0 [] [(zf52 N nb g),.p (.int .i64 ((g e).1)),.p (.int .i64 (↑p:Int))] [] (.p (.bool r1)),((r1=true)→(NT 0 1)),(AG r1),(AG r1),(AG r1),((r1=true)→ Con Try.prog 142 0 [] [(zf52 N nb g),.p (.int .i64 ((g e).2.1)),.p (.int .i64 (↑p:Int))] [] (.p (.bool r2))),(AG r1),((bif r1 then r2 else false)=false),(R0 ((↑p:Int)+1)),(R1 ((↑p:Int)+1)),(AI ((↑N:Int))),(AN nb),(AP nb (fun i=>[.int .i64 ((g i).1),.int .i64 ((g i).2.1)])),(AI ((↑e:Int))),(AN 0),(AN 0),(AN n),(AI (((g e).1))),(AI (((g e).2.1))),((((↑p:Int)+1):Int)=(↑(p+1):Int)),(AN 2),(NL 1 1),(NL 1 1),(AI ((↑N:Int))),(AN nb),(AP nb (fun i=>[.int .i64 ((g i).1),.int .i64 ((g i).2.1)])),(AN 1),(NL n n),(AA n (fun i=>[.p (.int .i64 (f i))]))]):=by kernel_rfl
theorem cBse (g:Nat→T_Bar) (nb N e n p:Nat) (f:Nat→Int) :
    pathOb Try.prog Try.f111 0 [rg 4,.dec false,rg 2] zf13 (SBs g nb N e n p f) [1] 1 [(0,iOb n f)] (.ar 1 0 0 n) =
    some [(NT 0 1),((decide ((↑p:Int)<(↑N:Int)))=false),(AN 0),(AN n),(AN 1),(NL n n),(AA n (fun i=>[.p (.int .i64 (f i))])),(AE n)]:=by kernel_rfl
theorem cBiz (g:Nat→T_Bar) (nb N e:Nat) :
    pieceOb Try.prog 0 [rg 2,rg 2,rm [(1,oc [] (.p (.bool true))),(7,oc [] (.p (.bool true)))] 2,.dec false,rg 7,rg 3,.head] [.code (bodyOf Try.f115)] (start Try.f115 [] 0 [grG g nb N,.p (.int .i64 e)]) [0,64,672] 1 (SBi g nb N e 0 0 (fun _=>0)) =
    some (zf15,[(NT 0 1),Con Try.prog 101 0 [] [(zf52 N nb g)] [] (.p (.bool true)),(AG (!!true)),(((!!true)=true)→(NT 0 1)),(AG (!!true)),(AG (!!true)),(((!!true)=true)→(R0 ((↑nb:Int) - 1))),(((!!true)=true)→(R1 ((↑nb:Int) - 1))),(AG (!!true)),(AG (!!true)),(((!!true)=true)→ Con Try.prog 40 0 [] [.p (.int .i64 (↑e:Int)),.p (.int .i64 0),.p (.int .i64 ((↑nb:Int) - 1))] [] (.p (.bool true))),(AG (!!true)),(((!true)=false)→ ((!!true)=true)),((bif !true then true else !true)=false),(NT 0 1),(IL 0 (↑e:Int)),(IT (↑e:Int) (↑nb:Int)),(NT 0 1),((true=true)→ (AN 1)),(NT 0 1),(AI ((↑N:Int))),(AN nb),(AP nb (fun i=>[.int .i64 ((g i).1),.int .i64 ((g i).2.1)])),(AI ((↑e:Int))),(AN 0),(AN 0),(AN 0),(AN 0),(AI ((↑N:Int))),((0:Int)=(↑0:Int)),((([AV.p (PV.int IntKind.i64 (↑N:Int)),brL g nb].length):Nat)=2),(NL 1 1),(NL 1 1),(AI ((↑N:Int))),(AN nb),(AP nb (fun i=>[.int .i64 ((g i).1),.int .i64 ((g i).2.1)])),(AN 1),(NL 0 0),(AA 0 (fun i=>[.p (.int .i64 0)])),((((List.map (fun v=>AV.p (absV v)) [Value.int IntKind.i64 0,Value.int IntKind.i64 0]).length):Nat)=2),(NL 1 1),(NL 1 1),(AI (((g e).1))),(AI (((g e).2.1)))]):=by kernel_rfl
theorem cBit (g:Nat→T_Bar) (nb N e n p:Nat) (f:Nat→Int) (r1 r2:Bool) :
    pieceOb Try.prog 0 [rg 1,.dec true,rg 2,rm [(4,oc [] (.p (.bool r1))),(5,oc [] (.p (.bool r2)))] 1,.dec true,rg 5,rg 2,.head] zf15 (SBi g nb N e n p f) [0,579,2] 1 (SBi g nb N e (n+1) (p+1) (snocI n f p)) =
    some (zf15,[((decide ((↑p:Int)<(↑N:Int)))=true),(NT 0 1),(NT 0 1),Con Try.prog 143 0 [] [(zf52 N nb g),.p (.int .i64 ((g e).1)),.p (.int .i64 (↑p:Int))] [] (.p (.bool r1)),((r1=true)→(NT 0 1)),(AG r1),((r1=true)→(NT 0 1)),(AG r1),(AG r1),(AG r1),((r1=true)→ Con Try.prog 143 0 [] [(zf52 N nb g),.p (.int .i64 ((g e).2.1)),.p (.int .i64 (↑p:Int))] [] (.p (.bool r2))),(AG r1),((bif r1 then r2 else false)=true),(NL 1 1),(NL n n),(NL ((n+1)*8) 140737488355328),(NL (n+1) 9223372036854775807),(R0 ((↑p:Int)+1)),(R1 ((↑p:Int)+1)),(AI ((↑N:Int))),(AN nb),(AP nb (fun i=>[.int .i64 ((g i).1),.int .i64 ((g i).2.1)])),(AI ((↑e:Int))),(AN 0),(AN 0),(AN ((n+1))),(AN 0),(AI ((↑N:Int))),((((↑p:Int)+1):Int)=(↑(p+1):Int)),(AN 2),(NL 1 1),(NL 1 1),(AI ((↑N:Int))),(AN nb),(AP nb (fun i=>[.int .i64 ((g i).1),.int .i64 ((g i).2.1)])),(AN 1),(NL (n+1) (n+1)),(CV [(579,⟨false,1,(n+1),(fun i_1=>(if (i_1<n) then [.p (.int .i64 (f i_1))] else [.p (.int .i64 (↑p:Int))]))⟩),(547,⟨false,1,1,(fun i_1=>[.p (.int .i64 (↑p:Int))])⟩),(0,⟨true,2,1,(fun i_1=>[.p (.int .i64 (↑N:Int)),.p (.seq true 2 nb (fun i_2=>[.int .i64 ((g i_2).1),.int .i64 ((g i_2).2.1)]))])⟩),(2,⟨true,2,1,(fun i_1=>[.p (.int .i64 ((g e).1)),.p (.int .i64 ((g e).2.1))])⟩)] [0,579,2] 1 (n+1) (fun i=>if (i<n) then [.p (.int .i64 (f i))] else [.p (.int .i64 (↑p:Int))]) (fun i=>[.p (.int .i64 (snocI n f (↑p:Int) i))])),(AN 2),(NL 1 1),(NL 1 1),(AI (((g e).1))),(AI (((g e).2.1)))]):=by kernel_rfl
theorem cBif (g:Nat→T_Bar) (nb N e n p:Nat) (f:Nat→Int) (r1 r2:Bool) :
    pieceOb Try.prog 0 [rg 1,.dec true,rg 2,rm [(4,oc [] (.p (.bool r1))),(5,oc [] (.p (.bool r2)))] 1,.dec false,rg 2,.head] zf15 (SBi g nb N e n p f) [0,1,2] 1 (SBi g nb N e n (p+1) f) =
    some (zf15,[((decide ((↑p:Int)<(↑N:Int)))=true),(NT 0 1),(NT 0 1),Con Try.prog 143 0 [] [(zf52 N nb g),.p (.int .i64 ((g e).1)),.p (.int .i64 (↑p:Int))] [] (.p (.bool r1)),((r1=true)→(NT 0 1)),(AG r1),((r1=true)→(NT 0 1)),(AG r1),(AG r1),(AG r1),((r1=true)→ Con Try.prog 143 0 [] [(zf52 N nb g),.p (.int .i64 ((g e).2.1)),.p (.int .i64 (↑p:Int))] [] (.p (.bool r2))),(AG r1),((bif r1 then r2 else false)=false),(R0 ((↑p:Int)+1)),(R1 ((↑p:Int)+1)),(AI ((↑N:Int))),(AN nb),(AP nb (fun i=>[.int .i64 ((g i).1),.int .i64 ((g i).2.1)])),(AI ((↑e:Int))),(AN 0),(AN 0),(AN n),(AN 0),(AI ((↑N:Int))),((((↑p:Int)+1):Int)=(↑(p+1):Int)),(AN 2),(NL 1 1),(NL 1 1),(AI ((↑N:Int))),(AN nb),(AP nb (fun i=>[.int .i64 ((g i).1),.int .i64 ((g i).2.1)])),(AN 1),(NL n n),(AA n (fun i=>[.p (.int .i64 (f i))])),(AN 2),(NL 1 1),(NL 1 1),(AI (((g e).1))),(AI (((g e).2.1)))]):=by kernel_rfl
theorem cBie (g:Nat→T_Bar) (nb N e n p:Nat) (f:Nat→Int) :
    pathOb Try.prog Try.f115 0 [rg 1,.dec false,rg 2] zf15 (SBi g nb N e n p f) [1] 1 [(0,iOb n f)] (.ar 1 0 0 n) =
    some [((decide ((↑p:Int)<(↑N:Int)))=false),(AN 0),(AN n),(AN 1),(NL n n),(AA n (fun i=>[.p (.int .i64 (f i))])),(AE n)]:=by kernel_rfl
theorem cCsz (g:Nat→T_Bar) (nb N:Nat) :
    pieceOb Try.prog 0 [rg 2,rg 2,rg 1,.head] [.code (bodyOf Try.f48)] (start Try.f48 [] 0 [grG g nb N]) [0,64] 1 (SCs g nb N 0 0 (fun _=>(0,fun _=>0))) =
    some (zf34,[(AI ((↑N:Int))),(AN nb),(AP nb (fun i=>[.int .i64 ((g i).1),.int .i64 ((g i).2.1)])),(AN 0),(AN 0),(AN 0),((0:Int)=(↑0:Int)),((([AV.p (PV.int IntKind.i64 (↑N:Int)),brL g nb].length):Nat)=2),(NL 1 1),(NL 1 1),(AI ((↑N:Int))),(AN nb),(AP nb (fun i=>[.int .i64 ((g i).1),.int .i64 ((g i).2.1)])),(AN 1),(NL 0 0),(∀ i:Nat,(((i:Nat)<0)→(All []∧(([.p (.nil)]:List AV)=[.p (.seq false 1 0 (fun i_1=>[.int .i64 ((0,fun x=>0).2 i_1)]))]))))]):=by kernel_rfl
theorem cCs1 (g:Nat→T_Bar) (nb N e cn:Nat) (C:Nat→T_IntS) (c:T_IntS) :
    pieceOb Try.prog 0 [rm [(7,oc [] (.p (.bool true)))] 1,.dec true,rm [(2,oc [(0,iOb c.1 c.2)] (.ar 1 0 0 c.1))] 1,rg 1,rg 1,.head] zf34 (SCs g nb N e cn C) [0,1,354] 1 (SCs1 g nb N e cn C c false 0) =
    some (zf5,[(NT 0 1),(((decide ((↑e:Int)<(↑nb:Int)))=true)→(NT 0 1)),(AG (decide ((↑e:Int)<(↑nb:Int)))),(((decide ((↑e:Int)<(↑nb:Int)))=true)→ Con Try.prog 110 0 [] [(zf52 N nb g)] [] (.p (.bool true))),(AG (decide ((↑e:Int)<(↑nb:Int)))),((bif decide ((↑e:Int)<(↑nb:Int)) then true else false)=true),(NT 0 1),Con Try.prog 111 0 [] [(zf52 N nb g),.p (.int .i64 (↑e:Int))] [(0,⟨false,1,c.1,(fun i=>[.p (.int .i64 (c.2 i))])⟩)] (.ar 1 0 0 c.1),(AI ((↑N:Int))),(AN nb),(AP nb (fun i=>[.int .i64 ((g i).1),.int .i64 ((g i).2.1)])),(AN 0),(AN 0),(AN cn),(AI ((↑e:Int))),(AN 0),(AN c.1),(false=false),((0:Int)=(↑0:Int)),(AN 2),(NL 1 1),(NL 1 1),(AI ((↑N:Int))),(AN nb),(AP nb (fun i=>[.int .i64 ((g i).1),.int .i64 ((g i).2.1)])),(AN 1),(NL cn cn),(AA cn (fun i=>[.p (.seq false 1 ((C i).1) (fun i_1=>[.int .i64 ((C i).2 i_1)]))])),(AN 1),(NL c.1 c.1),(AA c.1 (fun i=>[.p (.int .i64 (c.2 i))]))]):=by kernel_rfl
theorem cCse (g:Nat→T_Bar) (nb N e cn:Nat) (C:Nat→T_IntS) (b:Bool) :
    pathOb Try.prog Try.f48 0 [rm [(7,oc [] (.p (.bool b)))] 1,.dec false,rg 2] zf34 (SCs g nb N e cn C) [1] 1 [(0,ssOb cn C)] (.ar 1 0 0 cn) =
    some [(NT 0 1),(((decide ((↑e:Int)<(↑nb:Int)))=true)→(NT 0 1)),(AG (decide ((↑e:Int)<(↑nb:Int)))),(((decide ((↑e:Int)<(↑nb:Int)))=true)→ Con Try.prog 110 0 [] [(zf52 N nb g)] [] (.p (.bool b))),(AG (decide ((↑e:Int)<(↑nb:Int)))),((bif decide ((↑e:Int)<(↑nb:Int)) then b else false)=false),(AN 0),(AN cn),(AN 1),(NL cn cn),(AA cn (fun i=>[.p (.seq false 1 ((C i).1) (fun i_1=>[.int .i64 ((C i).2 i_1)]))])),(∀ i:Nat,(((i:Nat)<cn)→All [(false=false),(AE (((C i).1)))]))]:=by kernel_rfl
theorem cCs2 (g:Nat→T_Bar) (nb N e cn:Nat) (C:Nat→T_IntS) (c:T_IntS) (kn:Bool) (k:Nat) (q:Bool) :
    pieceOb Try.prog 0 [rg 4,.dec true,rm [(7,oc [] (.p (.bool q)))] 2,rg 3,.head] zf5 (SCs1 g nb N e cn C c kn k) [0,1,2] 1 (SCs1 g nb N e cn C c (bif kn then true else q) (k+1)) =
    some (zf5,[((decide ((↑k:Int)<(↑cn:Int)))=true),(AG (!kn)),(AG (!kn)),(((!kn)=true)→(IL 0 (↑k:Int))),(((!kn)=true)→(IT (↑k:Int) (↑cn:Int))),(AG (!kn)),(((!kn)=true)→(NT k cn)),(AG (!kn)),(AG (!kn)),(((!kn)=true)→ (AN 1)),(((!kn)=true)→(NL c.1 c.1)),(((!kn)=true)→ Con Try.prog 112 0 [] [.p (.seq true 1 ((C k).1) (fun i=>[.int .i64 ((C k).2 i)])),.p (.seq true 1 c.1 (fun i=>[.int .i64 (c.2 i)]))] [] (.p (.bool q))),((kn=false)→ ((!kn)=true)),(R0 ((↑k:Int)+1)),(R1 ((↑k:Int)+1)),(AI ((↑N:Int))),(AN nb),(AP nb (fun i=>[.int .i64 ((g i).1),.int .i64 ((g i).2.1)])),(AN 0),(AN 0),(AN cn),(AI ((↑e:Int))),(AN 0),(AN c.1),((bif kn then true else q)=(bif kn then true else q)),((((↑k:Int)+1):Int)=(↑(k+1):Int)),(AN 2),(NL 1 1),(NL 1 1),(AI ((↑N:Int))),(AN nb),(AP nb (fun i=>[.int .i64 ((g i).1),.int .i64 ((g i).2.1)])),(AN 1),(NL cn cn),(AA cn (fun i=>[.p (.seq false 1 ((C i).1) (fun i_1=>[.int .i64 ((C i).2 i_1)]))])),(AN 1),(NL c.1 c.1),(AA c.1 (fun i=>[.p (.int .i64 (c.2 i))]))]):=by kernel_rfl
theorem cCs3 (g:Nat→T_Bar) (nb N e cn:Nat) (C:Nat→T_IntS) (c:T_IntS) (kn:Bool) (k:Nat) :
    pieceOb Try.prog 0 [rg 4,.dec false,rg 2,.dec true,rg 5,rg 3,.head] zf5 (SCs1 g nb N e cn C c kn k) [0,291] 1 (SCs g nb N (e+1) (cn+1) (snocC cn C c)) =
    some (zf34,[((decide ((↑k:Int)<(↑cn:Int)))=false),((!kn)=true),(NL 1 1),(NL cn cn),(NL ((cn+1)*24) 140737488355328),(NL (cn+1) 9223372036854775807),(R0 ((↑e:Int)+1)),(R1 ((↑e:Int)+1)),(AI ((↑N:Int))),(AN nb),(AP nb (fun i=>[.int .i64 ((g i).1),.int .i64 ((g i).2.1)])),(AN 0),(AN 0),(AN ((cn+1))),((((↑e:Int)+1):Int)=(↑(e+1):Int)),(AN 2),(NL 1 1),(NL 1 1),(AI ((↑N:Int))),(AN nb),(AP nb (fun i=>[.int .i64 ((g i).1),.int .i64 ((g i).2.1)])),(AN 1),(NL (cn+1) (cn+1)),(CV [(291,⟨false,1,(cn+1),(fun i_1=>(if (i_1<cn) then [.p (.seq false 1 ((C i_1).1) (fun i_2=>[.int .i64 ((C i_1).2 i_2)]))] else [.ar 1 2 0 c.1]))⟩),(259,⟨false,1,1,(fun i_1=>[.ar 1 2 0 c.1])⟩),(0,⟨true,2,1,(fun i_1=>[.p (.int .i64 (↑N:Int)),.p (.seq true 2 nb (fun i_2=>[.int .i64 ((g i_2).1),.int .i64 ((g i_2).2.1)]))])⟩),(2,⟨false,1,c.1,(fun i_1=>[.p (.int .i64 (c.2 i_1))])⟩)] [0,291] 1 (cn+1) (fun i=>if (i<cn) then [.p (.seq false 1 ((C i).1) (fun i_1=>[.int .i64 ((C i).2 i_1)]))] else [.ar 1 2 0 c.1]) (fun i=>[.p (.seq false 1 (if i<cn then (C i).1 else c.1) (fun i_1=>[.int .i64 ((snocC cn C c i).2 i_1)]))]))]):=by kernel_rfl
theorem cCs4 (g:Nat→T_Bar) (nb N e cn:Nat) (C:Nat→T_IntS) (c:T_IntS) (kn:Bool) (k:Nat) :
    pieceOb Try.prog 0 [rg 4,.dec false,rg 2,.dec false,rg 3,.head] zf5 (SCs1 g nb N e cn C c kn k) [0,1] 1 (SCs g nb N (e+1) cn C) =
    some (zf34,[((decide ((↑k:Int)<(↑cn:Int)))=false),((!kn)=false),(R0 ((↑e:Int)+1)),(R1 ((↑e:Int)+1)),(AI ((↑N:Int))),(AN nb),(AP nb (fun i=>[.int .i64 ((g i).1),.int .i64 ((g i).2.1)])),(AN 0),(AN 0),(AN cn),((((↑e:Int)+1):Int)=(↑(e+1):Int)),(AN 2),(NL 1 1),(NL 1 1),(AI ((↑N:Int))),(AN nb),(AP nb (fun i=>[.int .i64 ((g i).1),.int .i64 ((g i).2.1)])),(AN 1),(NL cn cn),(AA cn (fun i=>[.p (.seq false 1 ((C i).1) (fun i_1=>[.int .i64 ((C i).2 i_1)]))]))]):=by kernel_rfl
noncomputable def compD (N nb:Nat) (g:Nat→T_Bar) (e:Nat):Nat→T_IntS
  | 0=>(0,fun _=>0)
  | p+1 =>
    if (bif impB N nb g (g e).1 p then impB N nb g (g e).2.1 p else false)=true then ((compD N nb g e p).1+1,snocI (compD N nb g e p).1 (compD N nb g e p).2 p)
    else compD N nb g e p
theorem compD_le (N nb:Nat) (g:Nat→T_Bar) (e:Nat):∀ p,(compD N nb g e p).1≤p
  | 0=>Nat.le_refl _
  | p+1=>by
    have:=compD_le N nb g e p
    simp only [compD]
    split
    · show (compD N nb g e p).1+1≤p+1;omega
    · omega
def knF (C:Nat→T_IntS) (c:T_IntS):Nat→Bool
  | 0=>false
  | k+1=>bif knF C c k then true else q_IntS (C k) c
noncomputable def compsD (N nb:Nat) (g:Nat→T_Bar):Nat→Nat×(Nat→T_IntS)
  | 0=>(0,fun _=>(0,fun _=>0))
  | e+1 =>
    if knF (compsD N nb g e).2 (compD N nb g e N) (compsD N nb g e).1=true then compsD N nb g e
    else ((compsD N nb g e).1+1,snocC (compsD N nb g e).1 (compsD N nb g e).2 (compD N nb g e N))
theorem compsD_le (N nb:Nat) (g:Nat→T_Bar):∀ e,(compsD N nb g e).1≤e∧∀ j,j<(compsD N nb g e).1→((compsD N nb g e).2 j).1≤N
  | 0=>⟨Nat.le_refl _,fun j hj=>absurd hj (Nat.not_lt_zero _)⟩
  | e+1=>by
    obtain ⟨h1,h2⟩:=compsD_le N nb g e
    simp only [compsD]
    split
    · exact ⟨by omega,h2⟩
    · refine ⟨by show (compsD N nb g e).1+1≤e+1;omega,fun j hj=>?_⟩
      show (if j<(compsD N nb g e).1 then ((compsD N nb g e).2 j).1 else (compD N nb g e N).1)≤N
      split
      · exact h2 j (by assumption)
      · exact compD_le N nb g e N
theorem con_ComponentOfBar_s {N nb:Nat} {g:Nat→T_Bar} (hg:isGraphF ((N:Int),(nb,g),())=true) (e:Nat) (he:e<nb) :
    Con Try.prog 111 0 [] [grG g nb N,.p (.int .i64 e)] [(0,iOb (compD N nb g e N).1 (compD N nb g e N).2)] (.ar 1 0 0 (compD N nb g e N).1):=by
  obtain ⟨hN,hnb,hok⟩:=graph_in hg
  have hsm:smS s_Graph ((N:Int),(nb,g),()):=⟨by simp [smS,smL],⟨by show nb≤1048576;omega,fun i hi=>by simp [smS,smL]⟩,True.intro⟩
  have hcg:=con_IsGraph_s ((N:Int),(nb,g),()) hsm
  rw [hg] at hcg
  have hbar:=hok e he
  have hcond:(bif bif !true then true else decide ((e:Int)<0) then true else decide ((e:Int)≥(nb:Int)))=false:=by
    have h1:¬ (e:Int)<0:=by omega
    have h2:¬ (nb:Int)≤(e:Int):=by omega
    simp [h1];omega
  have hcw:=True.intro
  refine con_start Try.func111 rfl (by kernel_rfl) rfl (fun c hc=>?_)
  have lp:∀ d p,p+d=N→Run Try.prog c 111 zf13 (SBs g nb N e (compD N nb g e p).1 p (compD N nb g e p).2) (Post c [(0,iOb (compD N nb g e N).1 (compD N nb g e N).2)] (.ar 1 0 0 (compD N nb g e N).1)):=by
    intro d
    induction d with
    | zero =>
      intro p hp
      obtain rfl:p=N:=by omega
      have hd:decide ((p:Int)<(p:Int))=false:=by simp
      refine path_ok mixed Try.func111 hc (cBse g nb p e (compD p nb g e p).1 p (compD p nb g e p).2) ?_
      repeat' (first | exact aN | apply aI)
      all_goals (first | exact aA _ _ | exact aE _ | omega | rfl | (intros;first | assumption | exact trivial | rfl | exact fT ‹_› | ((repeat' (first | assumption | apply anda | apply notf));done)) | (intro i hi;simp [All]))
    | succ d ih =>
      intro p hp
      have hd:decide ((p:Int)<(N:Int))=true:=by simp;omega
      have hle:=compD_le N nb g e p
      have c1:=con_IsImplied_s hg hok hN hnb (a:=(g e).1) (b:=p) (by omega) (by omega)
      have c2:=con_IsImplied_s hg hok hN hnb (a:=(g e).2.1) (b:=p) (by omega) (by omega)
      have hih:=ih (p+1) (by omega)
      cases ht:(bif impB N nb g (g e).1 p then impB N nb g (g e).2.1 p else false) with
      | true =>
        rw [show compD N nb g e (p+1)=((compD N nb g e p).1+1,snocI (compD N nb g e p).1 (compD N nb g e p).2 p) by simp only [compD];rw [if_pos ht]] at hih
        refine piece_ok mixed hc (cBst g nb N e (compD N nb g e p).1 p (compD N nb g e p).2 (impB N nb g (g e).1 p) (impB N nb g (g e).2.1 p)) ?_ hih
        repeat' (first | exact aN | apply aI)
        all_goals (first | exact aG _ | exact aP _ _ | omega | rfl | (intros;first | assumption | exact trivial | rfl | exact fT ‹_› | ((repeat' (first | assumption | apply anda | apply notf));done)) | (exact c1) | (intros;exact c2) | (exact ht) | (intro j hj;simp [All];done) | (intro j hj;by_cases h:j<(compD N nb g e p).1<;>simp [h,snocI,cvtL,cvt,tg,tru,All]))
      | false =>
        rw [show compD N nb g e (p+1)=compD N nb g e p by simp only [compD];rw [if_neg (by rw [ht];simp)]] at hih
        refine piece_ok mixed hc (cBsf g nb N e (compD N nb g e p).1 p (compD N nb g e p).2 (impB N nb g (g e).1 p) (impB N nb g (g e).2.1 p)) ?_ hih
        repeat' (first | exact aN | apply aI)
        all_goals (first | exact aG _ | exact aP _ _ | exact aA _ _ | omega | rfl | (intros;first | assumption | exact trivial | rfl | exact fT ‹_› | ((repeat' (first | assumption | apply anda | apply notf));done)) | (exact c1) | (intros;exact c2) | (exact ht) | (intro j hj;simp [All]))
  refine piece_ok mixed hc (cBsz g nb N e) ?_ (lp N 0 (by omega))
  repeat' (first | exact aN | apply aI)
  all_goals (first | exact aG _ | exact aP _ _ | exact aA _ _ | omega | rfl | (intros;first | assumption | exact trivial | rfl | exact fT ‹_› | ((repeat' (first | assumption | apply anda | apply notf));done)) | (exact hcg) | (intros;exact hcw) | (exact hcond) | (intro h;simp at h ⊢;done) | (intro j hj;simp [All]))
theorem con_ComponentOfBar_i {N nb:Nat} {g:Nat→T_Bar} (hg:isGraphF ((N:Int),(nb,g),())=true) (e:Nat) (he:e<nb) :
    Con Try.prog 115 0 [] [grG g nb N,.p (.int .i64 e)] [(0,iOb (compD N nb g e N).1 (compD N nb g e N).2)] (.ar 1 0 0 (compD N nb g e N).1):=by
  obtain ⟨hN,hnb,hok⟩:=graph_in hg
  have hsm:smS s_Graph ((N:Int),(nb,g),()):=⟨by simp [smS,smL],⟨by show nb≤1048576;omega,fun i hi=>by simp [smS,smL]⟩,True.intro⟩
  have hcg:=con_IsGraph_i ((N:Int),(nb,g),()) hsm
  rw [hg] at hcg
  have hbar:=hok e he
  have hcw:=con_within (e:Int) 0 ((nb:Int) - 1)
  rw [show inB (e:Int) 0 ((nb:Int) - 1)=true by simp [inB];omega] at hcw
  have hcond:=True.intro
  refine con_start Try.func115 rfl (by kernel_rfl) rfl (fun c hc=>?_)
  have lp:∀ d p,p+d=N→Run Try.prog c 115 zf15 (SBi g nb N e (compD N nb g e p).1 p (compD N nb g e p).2) (Post c [(0,iOb (compD N nb g e N).1 (compD N nb g e N).2)] (.ar 1 0 0 (compD N nb g e N).1)):=by
    intro d
    induction d with
    | zero =>
      intro p hp
      obtain rfl:p=N:=by omega
      have hd:decide ((p:Int)<(p:Int))=false:=by simp
      refine path_ok mixed Try.func115 hc (cBie g nb p e (compD p nb g e p).1 p (compD p nb g e p).2) ?_
      repeat' (first | exact aN | apply aI)
      all_goals (first | exact aA _ _ | exact aE _ | omega | rfl | (intros;first | assumption | exact trivial | rfl | exact fT ‹_› | ((repeat' (first | assumption | apply anda | apply notf));done)) | (intro i hi;simp [All]))
    | succ d ih =>
      intro p hp
      have hd:decide ((p:Int)<(N:Int))=true:=by simp;omega
      have hle:=compD_le N nb g e p
      have c1:=con_IsImplied_i hg hok hN hnb (a:=(g e).1) (b:=p) (by omega) (by omega)
      have c2:=con_IsImplied_i hg hok hN hnb (a:=(g e).2.1) (b:=p) (by omega) (by omega)
      have hih:=ih (p+1) (by omega)
      cases ht:(bif impB N nb g (g e).1 p then impB N nb g (g e).2.1 p else false) with
      | true =>
        rw [show compD N nb g e (p+1)=((compD N nb g e p).1+1,snocI (compD N nb g e p).1 (compD N nb g e p).2 p) by simp only [compD];rw [if_pos ht]] at hih
        refine piece_ok mixed hc (cBit g nb N e (compD N nb g e p).1 p (compD N nb g e p).2 (impB N nb g (g e).1 p) (impB N nb g (g e).2.1 p)) ?_ hih
        repeat' (first | exact aN | apply aI)
        all_goals (first | exact aG _ | exact aP _ _ | omega | rfl | (intros;first | assumption | exact trivial | rfl | exact fT ‹_› | ((repeat' (first | assumption | apply anda | apply notf));done)) | (exact c1) | (intros;exact c2) | (exact ht) | (intro j hj;simp [All];done) | (intro j hj;by_cases h:j<(compD N nb g e p).1<;>simp [h,snocI,cvtL,cvt,tg,tru,All]))
      | false =>
        rw [show compD N nb g e (p+1)=compD N nb g e p by simp only [compD];rw [if_neg (by rw [ht];simp)]] at hih
        refine piece_ok mixed hc (cBif g nb N e (compD N nb g e p).1 p (compD N nb g e p).2 (impB N nb g (g e).1 p) (impB N nb g (g e).2.1 p)) ?_ hih
        repeat' (first | exact aN | apply aI)
        all_goals (first | exact aG _ | exact aP _ _ | exact aA _ _ | omega | rfl | (intros;first | assumption | exact trivial | rfl | exact fT ‹_› | ((repeat' (first | assumption | apply anda | apply notf));done)) | (exact c1) | (intros;exact c2) | (exact ht) | (intro j hj;simp [All]))
  refine piece_ok mixed hc (cBiz g nb N e) ?_ (lp N 0 (by omega))
  repeat' (first | exact aN | apply aI)
  all_goals (first | exact aG _ | exact aP _ _ | exact aA _ _ | omega | rfl | (intros;first | assumption | exact trivial | rfl | exact fT ‹_› | ((repeat' (first | assumption | apply anda | apply notf));done)) | (exact hcg) | (intros;exact hcw) | (exact hcond) | (intro h;simp at h ⊢;done) | (intro j hj;simp [All]))
theorem inner_s {N nb:Nat} {g:Nat→T_Bar} {e cn:Nat} {C:Nat→T_IntS} {cc:T_IntS} (hcn:cn≤1048576) (hC:∀ j,j<cn→(C j).1≤1048576) (c:Cx) (hc:c.n=0) {R:Ending→World→Prop}
    (h:Run Try.prog c 48 zf5 (SCs1 g nb N e cn C cc (knF C cc cn) cn) R) :
    ∀ d k,k+d=cn→Run Try.prog c 48 zf5 (SCs1 g nb N e cn C cc (knF C cc k) k) R:=by
  intro d
  induction d with
  | zero =>
    intro k hk
    have hkc:k=cn:=by omega
    rw [hkc]
    exact h
  | succ d ih =>
    intro k hk
    have hd:decide ((k:Int)<(cn:Int))=true:=by simp;omega
    have hq:=con_ls_l6Same_IntS (C k) cc (hC k (by omega))
    refine piece_ok mixed hc (cCs2 g nb N e cn C cc (knF C cc k) k (q_IntS (C k) cc)) ?_ (ih (k+1) (by omega))
    repeat' (first | exact aN | apply aI)
    all_goals (first | exact aG _ | exact aP _ _ | exact aA _ _ | omega | rfl | (intros;first | assumption | exact trivial | rfl | exact fT ‹_› | ((repeat' (first | assumption | apply anda | apply notf));done)) | (intros;exact hq) | (intro j hj;simp [All]))
theorem con_ComponentsOf_s {N nb:Nat} {g:Nat→T_Bar} (hg:isGraphF ((N:Int),(nb,g),())=true) :
    Con Try.prog 48 0 [] [grG g nb N] [(0,ssOb (compsD N nb g nb).1 (compsD N nb g nb).2)] (.ar 1 0 0 (compsD N nb g nb).1):=by
  obtain ⟨hN,hnb,hok⟩:=graph_in hg
  have hsm:smS s_Graph ((N:Int),(nb,g),()):=⟨by simp [smS,smL],⟨by show nb≤1048576;omega,fun i hi=>by simp [smS,smL]⟩,True.intro⟩
  have hcg:=con_IsGraph_s ((N:Int),(nb,g),()) hsm
  rw [hg] at hcg
  refine con_start Try.func48 rfl (by kernel_rfl) rfl (fun c hc=>?_)
  have lp:∀ d e,e+d=nb→Run Try.prog c 48 zf34 (SCs g nb N e (compsD N nb g e).1 (compsD N nb g e).2) (Post c [(0,ssOb (compsD N nb g nb).1 (compsD N nb g nb).2)] (.ar 1 0 0 (compsD N nb g nb).1)):=by
    intro d
    induction d with
    | zero =>
      intro e he
      obtain rfl:e=nb:=by omega
      have hd:decide ((e:Int)<(e:Int))=false:=by simp
      refine path_ok mixed Try.func48 hc (cCse g e N e (compsD N e g e).1 (compsD N e g e).2 true) ?_
      repeat' (first | exact aN | apply aI)
      all_goals (first | exact aG _ | exact aA _ _ | exact aE _ | omega | rfl | (intros;first | assumption | exact trivial | rfl | exact fT ‹_› | ((repeat' (first | assumption | apply anda | apply notf));done)) | (exact hcg) | (intros;exact hcg) | (intro h;rw [hd] at h;cases h) | (simp;done) | (intro i hi;simp [All]))
    | succ d ih =>
      intro e he
      have hd:decide ((e:Int)<(nb:Int))=true:=by simp;omega
      obtain ⟨hle,hC⟩:=compsD_le N nb g e
      have hcomp:=con_ComponentOfBar_s hg e (by omega)
      have hcl:=compD_le N nb g e N
      have hih:=ih (e+1) (by omega)
      have hin:Run Try.prog c 48 zf5 (SCs1 g nb N e (compsD N nb g e).1 (compsD N nb g e).2 (compD N nb g e N) (knF (compsD N nb g e).2 (compD N nb g e N) (compsD N nb g e).1) (compsD N nb g e).1) (Post c [(0,ssOb (compsD N nb g nb).1 (compsD N nb g nb).2)] (.ar 1 0 0 (compsD N nb g nb).1)):=by
        have hd':decide (((compsD N nb g e).1:Int)<((compsD N nb g e).1:Int))=false:=by simp
        cases hk:knF (compsD N nb g e).2 (compD N nb g e N) (compsD N nb g e).1 with
        | false =>
          rw [show compsD N nb g (e+1)=((compsD N nb g e).1+1,snocC (compsD N nb g e).1 (compsD N nb g e).2 (compD N nb g e N)) by simp only [compsD];rw [if_neg (by rw [hk];simp)]] at hih
          refine piece_ok mixed hc (cCs3 g nb N e (compsD N nb g e).1 (compsD N nb g e).2 (compD N nb g e N) false (compsD N nb g e).1) ?_ hih
          repeat' (first | exact aN | apply aI)
          all_goals (first | exact aP _ _ | omega | rfl | (intros;first | assumption | exact trivial | rfl | exact fT ‹_› | ((repeat' (first | assumption | apply anda | apply notf));done)) | (intro j hj;simp [All];done) | (intro j hj;by_cases h:j<(compsD N nb g e).1<;>simp [h,snocC,cvtL,cvt,lendP,cellP,tab,idx,idx1,lkk,idO,idM,Ob.isF,List.lookup,iOb,tg,tru,All]))
        | true =>
          rw [show compsD N nb g (e+1)=compsD N nb g e by simp only [compsD];rw [if_pos hk]] at hih
          refine piece_ok mixed hc (cCs4 g nb N e (compsD N nb g e).1 (compsD N nb g e).2 (compD N nb g e N) true (compsD N nb g e).1) ?_ hih
          repeat' (first | exact aN | apply aI)
          all_goals (first | exact aP _ _ | exact aA _ _ | omega | rfl | (intros;first | assumption | exact trivial | rfl | exact fT ‹_› | ((repeat' (first | assumption | apply anda | apply notf));done)) | (intro j hj;simp [All]))
      refine piece_ok mixed hc (cCs1 g nb N e (compsD N nb g e).1 (compsD N nb g e).2 (compD N nb g e N)) ?_ (inner_s (by omega) (fun j hj=>by have:=hC j hj;omega) c hc hin (compsD N nb g e).1 0 (by omega))
      repeat' (first | exact aN | apply aI)
      all_goals (first | exact aG _ | exact aP _ _ | exact aA _ _ | omega | rfl | (intros;first | assumption | exact trivial | rfl | exact fT ‹_› | ((repeat' (first | assumption | apply anda | apply notf));done)) | (exact hcg) | (intros;exact hcg) | (exact hcomp) | (rw [hd];rfl) | (intro j hj;simp [All]))
  refine piece_ok mixed hc (cCsz g nb N) ?_ (lp nb 0 (by omega))
  repeat' (first | exact aN | apply aI)
  all_goals (first | exact aP _ _ | omega | rfl | (intros;first | assumption | exact trivial | rfl | exact fT ‹_› | ((repeat' (first | assumption | apply anda | apply notf));done)) | (exact hcg) | (intro j hj;simp [All]))
noncomputable def compsG (v:T_Graph):Nat×(Nat→T_IntS):=if isGraphF v=true then compsD v.1.toNat v.2.1.1 v.2.1.2 v.2.1.1 else (0,fun _=>(0,fun _=>0))
end Go.Proofs.Ytffnfeefjdmifaa.Mach
namespace Go.Proofs.Ytffnfeefjdmifaa.Mach
open Go
set_option linter.unusedVariables false
set_option linter.unusedSimpArgs false
theorem mSy (v:T_Graph) :
    pathOb Try.prog Try.f48 0 [rg 2,rg 2,rg 1,.loop,rm [(7,oc [] (.p (.bool false)))] 1,.dec false,rg 2] [.code (bodyOf Try.f48)] (start Try.f48 [] 0 [graphA v]) [64] 1 [(0,ssOb 0 (fun _=>(0,fun _=>0)))] (.ar 1 0 0 0) =
    some [(NT 0 1),(((decide (0<(↑v.2.1.1:Int)))=true)→(NT 0 1)),(AG (decide (0<(↑v.2.1.1:Int)))),(((decide (0<(↑v.2.1.1:Int)))=true)→ Con Try.prog 110 0 [] [(zf49 v)] [] (.p (.bool false))),(AG (decide (0<(↑v.2.1.1:Int)))),((bif decide (0<(↑v.2.1.1:Int)) then false else false)=false),(AN 0),(AN 0),(AN 1),(NL 0 0),(∀ i:Nat,(((i:Nat)<0)→(All []∧(([.p (.nil)]:List AV)=[.p (.seq false 1 0 (fun i_1=>[.int .i64 ((0,fun x=>0).2 i_1)]))])))),(∀ i:Nat,(((i:Nat)<0)→All [(false=false),(AE 0)]))]:=by kernel_rfl
theorem con_Comps_s (v:T_Graph) (hs:smS s_Graph v):Con Try.prog 48 0 [] [graphA v] [(0,ssOb (compsG v).1 (compsG v).2)] (.ar 1 0 0 (compsG v).1):=by
  cases hg:isGraphF v with
  | false =>
    have hcg:=con_IsGraph_s v hs
    rw [hg] at hcg
    rw [show compsG v=(0,fun _=>(0,fun _=>0)) by simp [compsG,hg]]
    refine con_start Try.func48 rfl (by kernel_rfl) rfl (fun c hc=>?_)
    refine path_ok mixed Try.func48 hc (mSy v) ?_
    repeat' (first | exact aN | apply aI)
    all_goals (first | exact aG _ | exact aE _ | omega | rfl | (intros;first | assumption | exact trivial | rfl | exact fT ‹_› | ((repeat' (first | assumption | apply anda | apply notf));done)) | (intros;exact hcg) | (simp;done) | (intro i hi;simp [All]))
  | true =>
    obtain ⟨N,nb,g,rfl⟩:=graph_cases v hg
    rw [show compsG ((N:Int),(nb,g),())=compsD N nb g nb by simp [compsG,hg]]
    exact con_ComponentsOf_s hg
theorem compsG_le (v:T_Graph):(compsG v).1≤24∧∀ j,j<(compsG v).1→((compsG v).2 j).1≤8:=by
  unfold compsG
  split
  · rename_i hg
    obtain ⟨N,nb,g,rfl⟩:=graph_cases v hg
    obtain ⟨hN,hnb,_⟩:=graph_in hg
    obtain ⟨h1,h2⟩:=compsD_le N nb g nb
    simp only [Int.toNat_natCast]
    exact ⟨by omega,fun j hj=>by have:=h2 j hj;omega⟩
  · exact ⟨by show 0≤24;omega,fun j hj=>absurd hj (Nat.not_lt_zero _)⟩
end Go.Proofs.Ytffnfeefjdmifaa.Mach
namespace Go.Proofs.Ytffnfeefjdmifaa.Mach
open Go
set_option linter.unusedVariables false
set_option linter.unusedSimpArgs false
def flt (p:Nat→Bool):Nat→T_IntS
  | 0=>(0,fun _=>0)
  | i+1=>if p i=true then ((flt p i).1+1,fun s=>if s<(flt p i).1 then (flt p i).2 s else i) else flt p i
theorem flt_n (p:Nat→Bool):∀ i,(flt p i).1≤i
  | 0=>Nat.le_refl _
  | i+1=>by
    have:=flt_n p i
    simp only [flt]
    split
    · show (flt p i).1+1≤i+1;omega
    · omega
theorem flt_t {p:Nat→Bool} {i:Nat} (h:p i=true):flt p (i+1)=((flt p i).1+1,fun s=>if s<(flt p i).1 then (flt p i).2 s else i):=by simp [flt,h]
theorem flt_f {p:Nat→Bool} {i:Nat} (h:p i=false):flt p (i+1)=flt p i:=by simp [flt,h]
end Go.Proofs.Ytffnfeefjdmifaa.Mach
namespace Go.Proofs.Ytffnfeefjdmifaa.Mach
open Go
set_option linter.unusedVariables false
set_option linter.unusedSimpArgs false
def bxV (v:T_Graph):Ob:=⟨true,2,1,fun _=>[.p (.int .i64 v.1),brL v.2.1.2 v.2.1.1]⟩
def coOb (F n:Nat) (C:Nat→T_IntS):Ob:=⟨false,1,n,fun i=>[.ar 1 ⟨F,some i⟩ 0 (C i).1]⟩
def cfOb (n:Nat) (C:Nat→T_IntS):Ob:=⟨true,0,n,fun i=>[.p (.seq false 1 (C i).1 (fun s=>[.int .i64 ((C i).2 s)]))]⟩
def SCo (g:Nat→T_Bar) (nb N e cn:Nat) (C:Nat→T_IntS):St :=
  ⟨[grG g nb N,.pt 2 0 0 0,.p .any,.ar 1 1 0 cn]++List.replicate 12 anyA++[.p (.int .i64 nb),.p (.int .i64 e)]++List.replicate 26 anyA,[(0,bxG g nb N),(1,coOb 2 cn C),(2,cfOb cn C)],3⟩
def SCo1 (g:Nat→T_Bar) (nb N e cn:Nat) (C:Nat→T_IntS) (c:T_IntS) (kn:Bool) (k:Nat):St :=
  ⟨[grG g nb N,.pt 2 0 0 0,.p .any,.ar 1 1 0 cn,.p .any,.ar 1 3 0 c.1,.p (.bool kn)]++List.replicate 9 anyA++[.p (.int .i64 nb),.p (.int .i64 e)]++List.replicate 5 anyA++[.ar 1 1 0 cn,.p (.int .i64 cn),.p (.int .i64 k)]++List.replicate 18 anyA,[(0,bxG g nb N),(1,coOb 2 cn C),(2,cfOb cn C),(3,iOb c.1 c.2)],4⟩
def CSv (v:T_Graph) (w:T_IntS) (i c:Nat) (f:Nat→Int):St :=
  ⟨[graphA v,inL w,.pt 2 0 0 0,.p .any,.p .any,.ar 1 1 0 c,.p (.int .i64 i)]++List.replicate 31 anyA,[(0,bxV v),(1,iOb c f)],2⟩
def CSw (v:T_Graph) (w:T_IntS) (i c:Nat) (f:Nat→Int):St :=
  ⟨[graphA v,inL w,.pt 2 0 0 0,.p .any,.p .any,.ar 1 1 0 c,.p .any,.p .any,.p .any,.p .any,brL v.2.1.2 v.2.1.1,.p (.int .i64 v.2.1.1),.p (.int .i64 i)]++List.replicate 20 anyA,[(0,bxV v),(1,iOb c f)],2⟩
def bsOb (n:Nat) (C:Nat→T_IntS) (K:Nat→Nat):Ob:=⟨false,2,n,fun i=>[.p (.seq false 1 (C i).1 (fun s=>[.int .i64 ((C i).2 s)])),.p (.int .i64 (K i:Int))]⟩
def boOb (F n:Nat) (C:Nat→T_IntS) (K:Nat→Nat):Ob:=⟨false,2,n,fun i=>[.ar 1 ⟨F,some i⟩ 0 (C i).1,.p (.int .i64 (K i:Int))]⟩
def SBs2 (v:T_Graph) (cn:Nat) (C:Nat→T_IntS) (K:Nat→Nat) (k:Nat):St :=
  ⟨[graphA v,.pt 2 0 0 0,.p .any,.ar 2 1 0 k,.ar 1 2 0 cn,.p (.int .i64 k)]++List.replicate 25 anyA,[(0,bxV v),(1,bsOb k C K),(2,ssOb cn C)],3⟩
def SBi2 (v:T_Graph) (cn:Nat) (C:Nat→T_IntS) (K:Nat→Nat) (k:Nat):St :=
  ⟨[graphA v,.pt 2 0 0 0,.p .any,.ar 2 1 0 k,.p .any,.p .any,.p .any,.p .any,.ar 1 2 0 cn,.p (.int .i64 cn),.p (.int .i64 k)]++List.replicate 14 anyA,[(0,bxV v),(1,boOb 3 k C K),(2,coOb 3 cn C),(3,cfOb cn C)],4⟩
theorem oCz (g:Nat→T_Bar) (nb N:Nat) :
    pieceOb Try.prog 0 [rg 2,rg 2,rm [(1,oc [] (.p (.bool true)))] 1,.dec false,rg 4,.head] [.code (bodyOf Try.f51)] (start Try.f51 [] 0 [grG g nb N]) [0,64] 1 (SCo g nb N 0 0 (fun _=>(0,fun _=>0))) =
    some (zf22,[(NT 0 1),Con Try.prog 101 0 [] [(zf52 N nb g)] [] (.p (.bool true)),((!true)=false),(NT 0 1),(AI ((↑N:Int))),(AN nb),(AP nb (fun i=>[.int .i64 ((g i).1),.int .i64 ((g i).2.1)])),(AN 0),(AN 0),(AN 0),(AI ((↑nb:Int))),((0:Int)=(↑0:Int)),((([AV.p (PV.int IntKind.i64 (↑N:Int)),brL g nb].length):Nat)=2),(NL 1 1),(NL 1 1),(AI ((↑N:Int))),(AN nb),(AP nb (fun i=>[.int .i64 ((g i).1),.int .i64 ((g i).2.1)])),(AN 1),(NL 0 0),(∀ i:Nat,(((i:Nat)<0)→(All []∧(([.p (.nil)]:List AV)=[.ar 1 ⟨2,some i⟩ 0 0])))),(AN 0)]):=by kernel_rfl
theorem oCy (v:T_Graph) :
    pathOb Try.prog Try.f51 0 [rg 2,rg 2,rm [(1,oc [] (.p (.bool false)))] 1,.dec true,rg 2] [.code (bodyOf Try.f51)] (start Try.f51 [] 0 [graphA v]) [64] 1 [(0,coOb 1 0 (fun _=>(0,fun _=>0))),(1,cfOb 0 (fun _=>(0,fun _=>0)))] (.ar 1 0 0 0) =
    some [(NT 0 1),Con Try.prog 101 0 [] [(zf49 v)] [] (.p (.bool false)),((!false)=true),(AN 0),(AN 0),(AN 1),(NL 0 0),(∀ i:Nat,(((i:Nat)<0)→(All []∧(([.p (.nil)]:List AV)=[.ar 1 ⟨1,some i⟩ 0 0])))),(AN 0),(AE 0),(∀ i:Nat,(((i:Nat)<0)→All [(false=false),(AE 0)]))]:=by kernel_rfl
theorem oC1 (g:Nat→T_Bar) (nb N e cn:Nat) (C:Nat→T_IntS) (c:T_IntS) :
    pieceOb Try.prog 0 [rg 1,.dec true,rg 2,rm [(2,oc [(0,iOb c.1 c.2)] (.ar 1 0 0 c.1))] 1,rg 1,rg 3,.head] zf22 (SCo g nb N e cn C) [0,1,2,163] 1 (SCo1 g nb N e cn C c false 0) =
    some (zf4,[((decide ((↑e:Int)<(↑nb:Int)))=true),(NT 0 1),Con Try.prog 115 0 [] [(zf52 N nb g),.p (.int .i64 (↑e:Int))] [(0,⟨false,1,c.1,(fun i=>[.p (.int .i64 (c.2 i))])⟩)] (.ar 1 0 0 c.1),(AI ((↑N:Int))),(AN nb),(AP nb (fun i=>[.int .i64 ((g i).1),.int .i64 ((g i).2.1)])),(AN 0),(AN 0),(AN cn),(AN 0),(AN c.1),(false=false),(AI ((↑nb:Int))),(AI ((↑e:Int))),(AN 0),(AN cn),(AI ((↑cn:Int))),((0:Int)=(↑0:Int)),(AN 2),(NL 1 1),(NL 1 1),(AI ((↑N:Int))),(AN nb),(AP nb (fun i=>[.int .i64 ((g i).1),.int .i64 ((g i).2.1)])),(AN 1),(NL cn cn),(AA cn (fun i=>[.ar 1 ⟨2,some i⟩ 0 ((C i).1)])),(NL cn cn),(∀ i:Nat,(((i:Nat)<cn)→All [(AN 1),((((C i).1):Nat)≤((C i).1)),(AP (((C i).1)) (fun r=>[.int .i64 ((C i).2 r)]))])),(AN 1),(NL c.1 c.1),(AA c.1 (fun i=>[.p (.int .i64 (c.2 i))]))]):=by kernel_rfl
theorem oCe (g:Nat→T_Bar) (nb N e cn:Nat) (C:Nat→T_IntS) :
    pathOb Try.prog Try.f51 0 [rg 1,.dec false,rg 2] zf22 (SCo g nb N e cn C) [1,2] 1 [(0,coOb 1 cn C),(1,cfOb cn C)] (.ar 1 0 0 cn) =
    some [((decide ((↑e:Int)<(↑nb:Int)))=false),(AN 0),(AN cn),(AN 1),(NL cn cn),(AA cn (fun i=>[.ar 1 ⟨1,some i⟩ 0 ((C i).1)])),(NL cn cn),(∀ i:Nat,(((i:Nat)<cn)→All [(AN 1),((((C i).1):Nat)≤((C i).1)),(AP (((C i).1)) (fun r=>[.int .i64 ((C i).2 r)]))])),(AE cn),(∀ i:Nat,(((i:Nat)<cn)→All [(false=false),(AE (((C i).1)))]))]:=by kernel_rfl
theorem oC2 (g:Nat→T_Bar) (nb N e cn:Nat) (C:Nat→T_IntS) (c:T_IntS) (kn:Bool) (k:Nat) (q:Bool) :
    pieceOb Try.prog 0 [rg 1,.dec true,rg 3,rm [(4,oc [] (.p (.bool q)))] 2,rg 2,.head] zf4 (SCo1 g nb N e cn C c kn k) [0,1,2,3] 1 (SCo1 g nb N e cn C c (bif kn then true else q) (k+1)) =
    some (zf4,[((decide ((↑k:Int)<(↑cn:Int)))=true),(IL 0 (↑k:Int)),(IT (↑k:Int) (↑cn:Int)),(NT k cn),(AG (!kn)),(AG (!kn)),(((!kn)=true)→(NT k cn)),(((!kn)=true)→ (AN 1)),(((!kn)=true)→(NL ((C k).1) ((C k).1))),(((!kn)=true)→ (AN 1)),(((!kn)=true)→(NL c.1 c.1)),(((!kn)=true)→ Con Try.prog 116 0 [] [.p (.seq true 1 ((C k).1) (fun i=>[.int .i64 ((C k).2 i)])),.p (.seq true 1 c.1 (fun i=>[.int .i64 (c.2 i)]))] [] (.p (.bool q))),((kn=false)→ ((!kn)=true)),(R0 ((↑k:Int)+1)),(R1 ((↑k:Int)+1)),(AI ((↑N:Int))),(AN nb),(AP nb (fun i=>[.int .i64 ((g i).1),.int .i64 ((g i).2.1)])),(AN 0),(AN 0),(AN cn),(AN 0),(AN c.1),((bif kn then true else q)=(bif kn then true else q)),(AI ((↑nb:Int))),(AI ((↑e:Int))),(AN 0),(AN cn),(AI ((↑cn:Int))),((((↑k:Int)+1):Int)=(↑(k+1):Int)),(AN 2),(NL 1 1),(NL 1 1),(AI ((↑N:Int))),(AN nb),(AP nb (fun i=>[.int .i64 ((g i).1),.int .i64 ((g i).2.1)])),(AN 1),(NL cn cn),(AA cn (fun i=>[.ar 1 ⟨2,some i⟩ 0 ((C i).1)])),(NL cn cn),(∀ i:Nat,(((i:Nat)<cn)→All [(AN 1),((((C i).1):Nat)≤((C i).1)),(AP (((C i).1)) (fun r=>[.int .i64 ((C i).2 r)]))])),(AN 1),(NL c.1 c.1),(AA c.1 (fun i=>[.p (.int .i64 (c.2 i))]))]):=by kernel_rfl
theorem oC3 (g:Nat→T_Bar) (nb N e cn:Nat) (C:Nat→T_IntS) (c:T_IntS) (kn:Bool) (k:Nat) :
    pieceOb Try.prog 0 [rg 1,.dec false,rg 2,.dec true,rg 5,rg 2,.head] zf4 (SCo1 g nb N e cn C c kn k) [0,196,.ins 2 cn 3] 1 (SCo g nb N (e+1) (cn+1) (snocC cn C c)) =
    some (zf22,[((decide ((↑k:Int)<(↑cn:Int)))=false),((!kn)=true),(NL 1 1),(NL cn cn),(NL ((cn+1)*24) 140737488355328),(NL (cn+1) 9223372036854775807),(R0 ((↑e:Int)+1)),(R1 ((↑e:Int)+1)),(AI ((↑N:Int))),(AN nb),(AP nb (fun i=>[.int .i64 ((g i).1),.int .i64 ((g i).2.1)])),(AN 0),(AN 0),(AN ((cn+1))),(AI ((↑nb:Int))),((((↑e:Int)+1):Int)=(↑(e+1):Int)),(AN 2),(NL 1 1),(NL 1 1),(AI ((↑N:Int))),(AN nb),(AP nb (fun i=>[.int .i64 ((g i).1),.int .i64 ((g i).2.1)])),(AN 1),(NL (cn+1) (cn+1)),(CV [(196,⟨false,1,(cn+1),(fun i_1=>(if (i_1<cn) then [.ar 1 ⟨2,some i_1⟩ 0 ((C i_1).1)] else [.ar 1 3 0 c.1]))⟩),(164,⟨false,1,1,(fun i_1=>[.ar 1 3 0 c.1])⟩),(0,⟨true,2,1,(fun i_1=>[.p (.int .i64 (↑N:Int)),.p (.seq true 2 nb (fun i_2=>[.int .i64 ((g i_2).1),.int .i64 ((g i_2).2.1)]))])⟩),(2,⟨true,0,cn,(fun i_1=>[.p (.seq false 1 ((C i_1).1) (fun i_2=>[.int .i64 ((C i_1).2 i_2)]))])⟩),(3,⟨false,1,c.1,(fun i_1=>[.p (.int .i64 (c.2 i_1))])⟩)] [0,196,.ins 2 cn 3] 1 (cn+1) (fun i=>if (i<cn) then [.ar 1 ⟨2,some i⟩ 0 ((C i).1)] else [.ar 1 3 0 c.1]) (fun i=>[.ar 1 ⟨2,some i⟩ 0 (if i<cn then (C i).1 else c.1)])),(∀ i:Nat,(((i:Nat)<(cn+1))→(((i:Nat)≠cn)→(((i:Nat)<cn)∧All [(AN 1),(((if i<cn then (C i).1 else c.1):Nat)≤((C i).1)),(∀ r:Nat,(((r:Nat)<(if i<cn then (C i).1 else c.1))→(([.int .i64 ((C i).2 r)]:List PV)=[.int .i64 ((snocC cn C c i).2 r)])))])))),(((cn:Nat)<(cn+1))→ All [(AN 1),(((if cn<cn then (C cn).1 else c.1):Nat)≤c.1),(∀ r:Nat,(((r:Nat)<(if cn<cn then (C cn).1 else c.1))→(([.int .i64 (c.2 r)]:List PV)=[.int .i64 ((snocC cn C c cn).2 r)])))])]):=by kernel_rfl
theorem oC4 (g:Nat→T_Bar) (nb N e cn:Nat) (C:Nat→T_IntS) (c:T_IntS) (kn:Bool) (k:Nat) :
    pieceOb Try.prog 0 [rg 1,.dec false,rg 2,.dec false,rg 2,.head] zf4 (SCo1 g nb N e cn C c kn k) [0,1,2] 1 (SCo g nb N (e+1) cn C) =
    some (zf22,[((decide ((↑k:Int)<(↑cn:Int)))=false),((!kn)=false),(R0 ((↑e:Int)+1)),(R1 ((↑e:Int)+1)),(AI ((↑N:Int))),(AN nb),(AP nb (fun i=>[.int .i64 ((g i).1),.int .i64 ((g i).2.1)])),(AN 0),(AN 0),(AN cn),(AI ((↑nb:Int))),((((↑e:Int)+1):Int)=(↑(e+1):Int)),(AN 2),(NL 1 1),(NL 1 1),(AI ((↑N:Int))),(AN nb),(AP nb (fun i=>[.int .i64 ((g i).1),.int .i64 ((g i).2.1)])),(AN 1),(NL cn cn),(AA cn (fun i=>[.ar 1 ⟨2,some i⟩ 0 ((C i).1)])),(NL cn cn),(∀ i:Nat,(((i:Nat)<cn)→All [(AN 1),((((C i).1):Nat)≤((C i).1)),(AP (((C i).1)) (fun r=>[.int .i64 ((C i).2 r)]))]))]):=by kernel_rfl
theorem oSz (v:T_Graph) (w:T_IntS) :
    pieceOb Try.prog 0 [rg 2,rg 2,rg 1,.head] [.code (bodyOf Try.f49)] (start Try.f49 [] 0 [graphA v,inL w]) [0,64] 1 (CSv v w 0 0 (fun _=>0)) =
    some (zf35,[(AI v.1),(AN v.2.1.1),(AP v.2.1.1 (fun i=>[.int .i64 ((v.2.1.2 i).1),.int .i64 ((v.2.1.2 i).2.1)])),(AN w.1),(AP w.1 (fun i=>[.int .i64 (w.2 i)])),(AN 0),(AN 0),(AN 0),((0:Int)=(↑0:Int)),((([AV.p (PV.int IntKind.i64 v.1),graphL v.2.1].length):Nat)=2),(NL 1 1),(NL 1 1),(AI v.1),(AN v.2.1.1),(AP v.2.1.1 (fun i=>[.int .i64 ((v.2.1.2 i).1),.int .i64 ((v.2.1.2 i).2.1)])),(AN 1),(NL 0 0),(AA 0 (fun i=>[.p (.int .i64 0)]))]):=by kernel_rfl
theorem oSt (v:T_Graph) (w:T_IntS) (i c:Nat) (f:Nat→Int) (a b:Bool) :
    pieceOb Try.prog 0 [rg 5,.dec true,rm [(7,oc [] (.p (.bool a))),(8,oc [] (.p (.bool b)))] 1,.dec true,rg 5,rg 3,.head] zf35 (CSv v w i c f) [0,834] 1 (CSv v w (i+1) (c+1) (fun s=>if s<c then f s else i)) =
    some (zf35,[(NT 0 1),((decide ((↑i:Int)<(↑v.2.1.1:Int)))=true),(NT 0 1),(IL 0 (↑i:Int)),(IT (↑i:Int) (↑v.2.1.1:Int)),Con Try.prog 113 0 [] [.p (.seq true 1 w.1 (fun i_1=>[.int .i64 (w.2 i_1)])),.p (.int .i64 ((v.2.1.2 i).1))] [] (.p (.bool a)),(AG a),((a=true)→(NT 0 1)),(AG a),(AG a),((a=true)→(IL 0 (↑i:Int))),((a=true)→(IT (↑i:Int) (↑v.2.1.1:Int))),(AG a),(AG a),(AG a),(AG a),((a=true)→ Con Try.prog 113 0 [] [.p (.seq true 1 w.1 (fun i_1=>[.int .i64 (w.2 i_1)])),.p (.int .i64 ((v.2.1.2 i).2.1))] [] (.p (.bool b))),(AG a),((bif a then b else false)=true),(NL 1 1),(NL c c),(NL ((c+1)*8) 140737488355328),(NL (c+1) 9223372036854775807),(R0 ((↑i:Int)+1)),(R1 ((↑i:Int)+1)),(AI v.1),(AN v.2.1.1),(AP v.2.1.1 (fun i_1=>[.int .i64 ((v.2.1.2 i_1).1),.int .i64 ((v.2.1.2 i_1).2.1)])),(AN w.1),(AP w.1 (fun i_1=>[.int .i64 (w.2 i_1)])),(AN 0),(AN 0),(AN ((c+1))),((((↑i:Int)+1):Int)=(↑(i+1):Int)),(AN 2),(NL 1 1),(NL 1 1),(AI v.1),(AN v.2.1.1),(AP v.2.1.1 (fun i_1=>[.int .i64 ((v.2.1.2 i_1).1),.int .i64 ((v.2.1.2 i_1).2.1)])),(AN 1),(NL (c+1) (c+1)),(CV [(834,⟨false,1,(c+1),(fun i_2=>(if (i_2<c) then [.p (.int .i64 (f i_2))] else [.p (.int .i64 (↑i:Int))]))⟩),(802,⟨false,1,1,(fun i_2=>[.p (.int .i64 (↑i:Int))])⟩),(0,⟨true,2,1,(fun i_2=>[.p (.int .i64 v.1),.p (.seq true 2 v.2.1.1 (fun i_3=>[.int .i64 ((v.2.1.2 i_3).1),.int .i64 ((v.2.1.2 i_3).2.1)]))])⟩)] [0,834] 1 (c+1) (fun i_1=>if (i_1<c) then [.p (.int .i64 (f i_1))] else [.p (.int .i64 (↑i:Int))]) (fun i_1=>[.p (.int .i64 (if i_1<c then f i_1 else (↑i:Int)))]))]):=by kernel_rfl
theorem oSf (v:T_Graph) (w:T_IntS) (i c:Nat) (f:Nat→Int) (a b:Bool) :
    pieceOb Try.prog 0 [rg 5,.dec true,rm [(7,oc [] (.p (.bool a))),(8,oc [] (.p (.bool b)))] 1,.dec false,rg 3,.head] zf35 (CSv v w i c f) [0,1] 1 (CSv v w (i+1) c f) =
    some (zf35,[(NT 0 1),((decide ((↑i:Int)<(↑v.2.1.1:Int)))=true),(NT 0 1),(IL 0 (↑i:Int)),(IT (↑i:Int) (↑v.2.1.1:Int)),Con Try.prog 113 0 [] [.p (.seq true 1 w.1 (fun i_1=>[.int .i64 (w.2 i_1)])),.p (.int .i64 ((v.2.1.2 i).1))] [] (.p (.bool a)),(AG a),((a=true)→(NT 0 1)),(AG a),(AG a),((a=true)→(IL 0 (↑i:Int))),((a=true)→(IT (↑i:Int) (↑v.2.1.1:Int))),(AG a),(AG a),(AG a),(AG a),((a=true)→ Con Try.prog 113 0 [] [.p (.seq true 1 w.1 (fun i_1=>[.int .i64 (w.2 i_1)])),.p (.int .i64 ((v.2.1.2 i).2.1))] [] (.p (.bool b))),(AG a),((bif a then b else false)=false),(R0 ((↑i:Int)+1)),(R1 ((↑i:Int)+1)),(AI v.1),(AN v.2.1.1),(AP v.2.1.1 (fun i_1=>[.int .i64 ((v.2.1.2 i_1).1),.int .i64 ((v.2.1.2 i_1).2.1)])),(AN w.1),(AP w.1 (fun i_1=>[.int .i64 (w.2 i_1)])),(AN 0),(AN 0),(AN c),((((↑i:Int)+1):Int)=(↑(i+1):Int)),(AN 2),(NL 1 1),(NL 1 1),(AI v.1),(AN v.2.1.1),(AP v.2.1.1 (fun i_1=>[.int .i64 ((v.2.1.2 i_1).1),.int .i64 ((v.2.1.2 i_1).2.1)])),(AN 1),(NL c c),(AA c (fun i_1=>[.p (.int .i64 (f i_1))]))]):=by kernel_rfl
theorem oSe (v:T_Graph) (w:T_IntS) (i c:Nat) (f:Nat→Int) :
    pathOb Try.prog Try.f49 0 [rg 5,.dec false,rg 2] zf35 (CSv v w i c f) [1] 1 [(0,iOb c f)] (.ar 1 0 0 c) =
    some [(NT 0 1),((decide ((↑i:Int)<(↑v.2.1.1:Int)))=false),(AN 0),(AN c),(AN 1),(NL c c),(AA c (fun i_1=>[.p (.int .i64 (f i_1))])),(AE c)]:=by kernel_rfl
theorem oTz (v:T_Graph) (w:T_IntS) :
    pieceOb Try.prog 0 [rg 2,rg 2,rg 4,.head] [.code (bodyOf Try.f52)] (start Try.f52 [] 0 [graphA v,inL w]) [0,64] 1 (CSw v w 0 0 (fun _=>0)) =
    some (zf36,[(NT 0 1),(AI v.1),(AN v.2.1.1),(AP v.2.1.1 (fun i=>[.int .i64 ((v.2.1.2 i).1),.int .i64 ((v.2.1.2 i).2.1)])),(AN w.1),(AP w.1 (fun i=>[.int .i64 (w.2 i)])),(AN 0),(AN 0),(AN 0),(AN v.2.1.1),(AP v.2.1.1 (fun i=>[.int .i64 ((v.2.1.2 i).1),.int .i64 ((v.2.1.2 i).2.1)])),(AI ((↑v.2.1.1:Int))),((0:Int)=(↑0:Int)),((([AV.p (PV.int IntKind.i64 v.1),graphL v.2.1].length):Nat)=2),(NL 1 1),(NL 1 1),(AI v.1),(AN v.2.1.1),(AP v.2.1.1 (fun i=>[.int .i64 ((v.2.1.2 i).1),.int .i64 ((v.2.1.2 i).2.1)])),(AN 1),(NL 0 0),(AA 0 (fun i=>[.p (.int .i64 0)]))]):=by kernel_rfl
theorem oTt (v:T_Graph) (w:T_IntS) (i c:Nat) (f:Nat→Int) (a b:Bool) :
    pieceOb Try.prog 0 [rg 1,.dec true,rg 6,rm [(3,oc [] (.p (.bool a))),(4,oc [] (.p (.bool b)))] 1,.dec true,rg 5,rg 2,.head] zf36 (CSw v w i c f) [0,642] 1 (CSw v w (i+1) (c+1) (fun s=>if s<c then f s else i)) =
    some (zf36,[((decide ((↑i:Int)<(↑v.2.1.1:Int)))=true),(IL 0 (↑i:Int)),(IT (↑i:Int) (↑v.2.1.1:Int)),(NT 0 1),((true=true)→ (AN 1)),(NT 0 1),Con Try.prog 108 0 [] [.p (.seq true 1 w.1 (fun i_1=>[.int .i64 (w.2 i_1)])),.p (.int .i64 ((v.2.1.2 i).1))] [] (.p (.bool a)),(AG a),((a=true)→(NT 0 1)),(AG a),(AG a),((a=true)→ Con Try.prog 108 0 [] [.p (.seq true 1 w.1 (fun i_1=>[.int .i64 (w.2 i_1)])),.p (.int .i64 ((v.2.1.2 i).2.1))] [] (.p (.bool b))),(AG a),((bif a then b else false)=true),(NL 1 1),(NL c c),(NL ((c+1)*8) 140737488355328),(NL (c+1) 9223372036854775807),(R0 ((↑i:Int)+1)),(R1 ((↑i:Int)+1)),(AI v.1),(AN v.2.1.1),(AP v.2.1.1 (fun i_1=>[.int .i64 ((v.2.1.2 i_1).1),.int .i64 ((v.2.1.2 i_1).2.1)])),(AN w.1),(AP w.1 (fun i_1=>[.int .i64 (w.2 i_1)])),(AN 0),(AN 0),(AN ((c+1))),(AN v.2.1.1),(AP v.2.1.1 (fun i_1=>[.int .i64 ((v.2.1.2 i_1).1),.int .i64 ((v.2.1.2 i_1).2.1)])),(AI ((↑v.2.1.1:Int))),((((↑i:Int)+1):Int)=(↑(i+1):Int)),(AN 2),(NL 1 1),(NL 1 1),(AI v.1),(AN v.2.1.1),(AP v.2.1.1 (fun i_1=>[.int .i64 ((v.2.1.2 i_1).1),.int .i64 ((v.2.1.2 i_1).2.1)])),(AN 1),(NL (c+1) (c+1)),(CV [(642,⟨false,1,(c+1),(fun i_2=>(if (i_2<c) then [.p (.int .i64 (f i_2))] else [.p (.int .i64 (↑i:Int))]))⟩),(610,⟨false,1,1,(fun i_2=>[.p (.int .i64 (↑i:Int))])⟩),(130,⟨true,2,1,(fun i_2=>[.p (.int .i64 ((v.2.1.2 i).1)),.p (.int .i64 ((v.2.1.2 i).2.1))])⟩),(0,⟨true,2,1,(fun i_2=>[.p (.int .i64 v.1),.p (.seq true 2 v.2.1.1 (fun i_3=>[.int .i64 ((v.2.1.2 i_3).1),.int .i64 ((v.2.1.2 i_3).2.1)]))])⟩)] [0,642] 1 (c+1) (fun i_1=>if (i_1<c) then [.p (.int .i64 (f i_1))] else [.p (.int .i64 (↑i:Int))]) (fun i_1=>[.p (.int .i64 (if i_1<c then f i_1 else (↑i:Int)))]))]):=by kernel_rfl
theorem oTf (v:T_Graph) (w:T_IntS) (i c:Nat) (f:Nat→Int) (a b:Bool) :
    pieceOb Try.prog 0 [rg 1,.dec true,rg 6,rm [(3,oc [] (.p (.bool a))),(4,oc [] (.p (.bool b)))] 1,.dec false,rg 2,.head] zf36 (CSw v w i c f) [0,1] 1 (CSw v w (i+1) c f) =
    some (zf36,[((decide ((↑i:Int)<(↑v.2.1.1:Int)))=true),(IL 0 (↑i:Int)),(IT (↑i:Int) (↑v.2.1.1:Int)),(NT 0 1),((true=true)→ (AN 1)),(NT 0 1),Con Try.prog 108 0 [] [.p (.seq true 1 w.1 (fun i_1=>[.int .i64 (w.2 i_1)])),.p (.int .i64 ((v.2.1.2 i).1))] [] (.p (.bool a)),(AG a),((a=true)→(NT 0 1)),(AG a),(AG a),((a=true)→ Con Try.prog 108 0 [] [.p (.seq true 1 w.1 (fun i_1=>[.int .i64 (w.2 i_1)])),.p (.int .i64 ((v.2.1.2 i).2.1))] [] (.p (.bool b))),(AG a),((bif a then b else false)=false),(R0 ((↑i:Int)+1)),(R1 ((↑i:Int)+1)),(AI v.1),(AN v.2.1.1),(AP v.2.1.1 (fun i_1=>[.int .i64 ((v.2.1.2 i_1).1),.int .i64 ((v.2.1.2 i_1).2.1)])),(AN w.1),(AP w.1 (fun i_1=>[.int .i64 (w.2 i_1)])),(AN 0),(AN 0),(AN c),(AN v.2.1.1),(AP v.2.1.1 (fun i_1=>[.int .i64 ((v.2.1.2 i_1).1),.int .i64 ((v.2.1.2 i_1).2.1)])),(AI ((↑v.2.1.1:Int))),((((↑i:Int)+1):Int)=(↑(i+1):Int)),(AN 2),(NL 1 1),(NL 1 1),(AI v.1),(AN v.2.1.1),(AP v.2.1.1 (fun i_1=>[.int .i64 ((v.2.1.2 i_1).1),.int .i64 ((v.2.1.2 i_1).2.1)])),(AN 1),(NL c c),(AA c (fun i_1=>[.p (.int .i64 (f i_1))]))]):=by kernel_rfl
theorem oTe (v:T_Graph) (w:T_IntS) (i c:Nat) (f:Nat→Int) :
    pathOb Try.prog Try.f52 0 [rg 1,.dec false,rg 2] zf36 (CSw v w i c f) [1] 1 [(0,iOb c f)] (.ar 1 0 0 c) =
    some [((decide ((↑i:Int)<(↑v.2.1.1:Int)))=false),(AN 0),(AN c),(AN 1),(NL c c),(AA c (fun i_1=>[.p (.int .i64 (f i_1))])),(AE c)]:=by kernel_rfl
theorem oBz (v:T_Graph) (cn:Nat) (C:Nat→T_IntS) (K:Nat→Nat) :
    pieceOb Try.prog 0 [rg 2,rg 2,rm [(1,oc [(0,ssOb cn C)] (.ar 1 0 0 cn))] 1,rg 1,.head] [.code (bodyOf Try.f15)] (start Try.f15 [] 0 [graphA v]) [0,64,160] 1 (SBs2 v cn C K 0) =
    some (zf23,[(NT 0 1),Con Try.prog 48 0 [] [(zf49 v)] [(0,⟨false,1,cn,(fun i=>[.p (.seq false 1 ((C i).1) (fun i_1=>[.int .i64 ((C i).2 i_1)]))])⟩)] (.ar 1 0 0 cn),(AI v.1),(AN v.2.1.1),(AP v.2.1.1 (fun i=>[.int .i64 ((v.2.1.2 i).1),.int .i64 ((v.2.1.2 i).2.1)])),(AN 0),(AN 0),(AN 0),(AN 0),(AN cn),((0:Int)=(↑0:Int)),((([AV.p (PV.int IntKind.i64 v.1),graphL v.2.1].length):Nat)=2),(NL 1 1),(NL 1 1),(AI v.1),(AN v.2.1.1),(AP v.2.1.1 (fun i=>[.int .i64 ((v.2.1.2 i).1),.int .i64 ((v.2.1.2 i).2.1)])),(AN 2),(NL 0 0),(∀ i:Nat,(((i:Nat)<0)→(All []∧(([.p (.nil),.p (.int .i64 0)]:List AV)=[.p (.seq false 1 ((C i).1) (fun i_1=>[.int .i64 ((C i).2 i_1)])),.p (.int .i64 (↑(K i):Int))])))),(AN 1),(NL cn cn),(AA cn (fun i=>[.p (.seq false 1 ((C i).1) (fun i_1=>[.int .i64 ((C i).2 i_1)]))]))]):=by kernel_rfl
theorem oB1 (v:T_Graph) (cn:Nat) (C:Nat→T_IntS) (K:Nat→Nat) (k:Nat) (S:T_IntS) :
    pieceOb Try.prog 0 [rg 4,.dec true,rm [(10,oc [(0,iOb S.1 S.2)] (.ar 1 0 0 S.1))] 5,rg 3,.head] zf23 (SBs2 v cn C K k) [0,579,2] 1 (SBs2 v cn C K (k+1)) =
    some (zf23,[((decide ((↑k:Int)<(↑cn:Int)))=true),(IL 0 (↑k:Int)),(IT (↑k:Int) (↑cn:Int)),(NT k cn),(NT 0 1),(IL 0 (↑k:Int)),(IT (↑k:Int) (↑cn:Int)),(NT k cn),Con Try.prog 49 0 [] [(zf49 v),.p (.seq true 1 ((C k).1) (fun i=>[.int .i64 ((C k).2 i)]))] [(0,⟨false,1,S.1,(fun i=>[.p (.int .i64 (S.2 i))])⟩)] (.ar 1 0 0 S.1),(NL 1 1),(NL k k),(NL ((k+1)*32) 140737488355328),(NL (k+1) 9223372036854775807),(R0 ((↑k:Int)+1)),(R1 ((↑k:Int)+1)),(AI v.1),(AN v.2.1.1),(AP v.2.1.1 (fun i=>[.int .i64 ((v.2.1.2 i).1),.int .i64 ((v.2.1.2 i).2.1)])),(AN 0),(AN 0),(AN ((k+1))),(AN 0),(AN cn),((((↑k:Int)+1):Int)=(↑(k+1):Int)),(AN 2),(NL 1 1),(NL 1 1),(AI v.1),(AN v.2.1.1),(AP v.2.1.1 (fun i=>[.int .i64 ((v.2.1.2 i).1),.int .i64 ((v.2.1.2 i).2.1)])),(AN 2),(NL (k+1) (k+1)),(CV [(579,⟨false,2,(k+1),(fun i_1=>(if (i_1<k) then [.p (.seq false 1 ((C i_1).1) (fun i_2=>[.int .i64 ((C i_1).2 i_2)])),.p (.int .i64 (↑(K i_1):Int))] else [.p (.seq false 1 ((C k).1) (fun i_2=>[.int .i64 ((C k).2 i_2)])),.p (.int .i64 (↑S.1:Int))]))⟩),(547,⟨false,2,1,(fun i_1=>[.p (.seq false 1 ((C k).1) (fun i_2=>[.int .i64 ((C k).2 i_2)])),.p (.int .i64 (↑S.1:Int))])⟩),(451,⟨false,1,S.1,(fun i_1=>[.p (.int .i64 (S.2 i_1))])⟩),(0,⟨true,2,1,(fun i_1=>[.p (.int .i64 v.1),.p (.seq true 2 v.2.1.1 (fun i_2=>[.int .i64 ((v.2.1.2 i_2).1),.int .i64 ((v.2.1.2 i_2).2.1)]))])⟩),(2,⟨false,1,cn,(fun i_1=>[.p (.seq false 1 ((C i_1).1) (fun i_2=>[.int .i64 ((C i_1).2 i_2)]))])⟩)] [0,579,2] 1 (k+1) (fun i=>if (i<k) then [.p (.seq false 1 ((C i).1) (fun i_1=>[.int .i64 ((C i).2 i_1)])),.p (.int .i64 (↑(K i):Int))] else [.p (.seq false 1 ((C k).1) (fun i_1=>[.int .i64 ((C k).2 i_1)])),.p (.int .i64 (↑S.1:Int))]) (fun i=>[.p (.seq false 1 ((C i).1) (fun i_1=>[.int .i64 ((C i).2 i_1)])),.p (.int .i64 (↑(K i):Int))])),(AN 1),(NL cn cn),(AA cn (fun i=>[.p (.seq false 1 ((C i).1) (fun i_1=>[.int .i64 ((C i).2 i_1)]))]))]):=by kernel_rfl
theorem oBe (v:T_Graph) (cn:Nat) (C:Nat→T_IntS) (K:Nat→Nat) (k:Nat) :
    pathOb Try.prog Try.f15 0 [rg 4,.dec false,rg 2] zf23 (SBs2 v cn C K k) [1] 1 [(0,bsOb k C K)] (.ar 2 0 0 k) =
    some [((decide ((↑k:Int)<(↑cn:Int)))=false),(AN 0),(AN k),(AN 2),(NL k k),(AA k (fun i=>[.p (.seq false 1 ((C i).1) (fun i_1=>[.int .i64 ((C i).2 i_1)])),.p (.int .i64 (↑(K i):Int))])),(∀ i:Nat,(((i:Nat)<k)→All [(false=false),(AE (((C i).1)))]))]:=by kernel_rfl
theorem oDz (v:T_Graph) (cn:Nat) (C:Nat→T_IntS) (K:Nat→Nat) :
    pieceOb Try.prog 0 [rg 2,rg 2,rm [(1,oc [(0,coOb 1 cn C),(1,cfOb cn C)] (.ar 1 0 0 cn))] 2,.head] [.code (bodyOf Try.f17)] (start Try.f17 [] 0 [graphA v]) [0,64,160,161] 1 (SBi2 v cn C K 0) =
    some (zf37,[(NT 0 1),Con Try.prog 51 0 [] [(zf49 v)] [(0,⟨false,1,cn,(fun i=>[.ar 1 ⟨1,some i⟩ 0 ((C i).1)])⟩),(1,⟨true,0,cn,(fun i=>[.p (.seq false 1 ((C i).1) (fun i_1=>[.int .i64 ((C i).2 i_1)]))])⟩)] (.ar 1 0 0 cn),(AI v.1),(AN v.2.1.1),(AP v.2.1.1 (fun i=>[.int .i64 ((v.2.1.2 i).1),.int .i64 ((v.2.1.2 i).2.1)])),(AN 0),(AN 0),(AN 0),(AN 0),(AN cn),(AI ((↑cn:Int))),((0:Int)=(↑0:Int)),((([AV.p (PV.int IntKind.i64 v.1),graphL v.2.1].length):Nat)=2),(NL 1 1),(NL 1 1),(AI v.1),(AN v.2.1.1),(AP v.2.1.1 (fun i=>[.int .i64 ((v.2.1.2 i).1),.int .i64 ((v.2.1.2 i).2.1)])),(AN 2),(NL 0 0),(∀ i:Nat,(((i:Nat)<0)→(All []∧(([.p (.nil),.p (.int .i64 0)]:List AV)=[.ar 1 ⟨3,some i⟩ 0 ((C i).1),.p (.int .i64 (↑(K i):Int))])))),(AN 1),(NL cn cn),(AA cn (fun i=>[.ar 1 ⟨3,some i⟩ 0 ((C i).1)])),(NL cn cn),(∀ i:Nat,(((i:Nat)<cn)→All [(AN 1),((((C i).1):Nat)≤((C i).1)),(AP (((C i).1)) (fun r=>[.int .i64 ((C i).2 r)]))]))]):=by kernel_rfl
theorem oD1 (v:T_Graph) (cn:Nat) (C:Nat→T_IntS) (K:Nat→Nat) (k:Nat) (S:T_IntS) :
    pieceOb Try.prog 0 [rg 1,.dec true,rg 3,rm [(4,oc [(0,iOb S.1 S.2)] (.ar 1 0 0 S.1))] 5,rg 2,.head] zf37 (SBi2 v cn C K k) [0,388,2,3] 1 (SBi2 v cn C K (k+1)) =
    some (zf37,[((decide ((↑k:Int)<(↑cn:Int)))=true),(IL 0 (↑k:Int)),(IT (↑k:Int) (↑cn:Int)),(NT k cn),(NT 0 1),(NT k cn),(AN 1),(NL ((C k).1) ((C k).1)),Con Try.prog 52 0 [] [(zf49 v),.p (.seq true 1 ((C k).1) (fun i=>[.int .i64 ((C k).2 i)]))] [(0,⟨false,1,S.1,(fun i=>[.p (.int .i64 (S.2 i))])⟩)] (.ar 1 0 0 S.1),(NL 1 1),(NL k k),(NL ((k+1)*32) 140737488355328),(NL (k+1) 9223372036854775807),(R0 ((↑k:Int)+1)),(R1 ((↑k:Int)+1)),(AI v.1),(AN v.2.1.1),(AP v.2.1.1 (fun i=>[.int .i64 ((v.2.1.2 i).1),.int .i64 ((v.2.1.2 i).2.1)])),(AN 0),(AN 0),(AN ((k+1))),(AN 0),(AN cn),(AI ((↑cn:Int))),((((↑k:Int)+1):Int)=(↑(k+1):Int)),(AN 2),(NL 1 1),(NL 1 1),(AI v.1),(AN v.2.1.1),(AP v.2.1.1 (fun i=>[.int .i64 ((v.2.1.2 i).1),.int .i64 ((v.2.1.2 i).2.1)])),(AN 2),(NL (k+1) (k+1)),(CV [(388,⟨false,2,(k+1),(fun i_1=>(if (i_1<k) then [.ar 1 ⟨3,some i_1⟩ 0 ((C i_1).1),.p (.int .i64 (↑(K i_1):Int))] else [.ar 1 ⟨3,some k⟩ 0 ((C k).1),.p (.int .i64 (↑S.1:Int))]))⟩),(356,⟨false,2,1,(fun i_1=>[.ar 1 ⟨3,some k⟩ 0 ((C k).1),.p (.int .i64 (↑S.1:Int))])⟩),(260,⟨false,1,S.1,(fun i_1=>[.p (.int .i64 (S.2 i_1))])⟩),(0,⟨true,2,1,(fun i_1=>[.p (.int .i64 v.1),.p (.seq true 2 v.2.1.1 (fun i_2=>[.int .i64 ((v.2.1.2 i_2).1),.int .i64 ((v.2.1.2 i_2).2.1)]))])⟩),(2,⟨false,1,cn,(fun i_1=>[.ar 1 ⟨3,some i_1⟩ 0 ((C i_1).1)])⟩),(3,⟨true,0,cn,(fun i_1=>[.p (.seq false 1 ((C i_1).1) (fun i_2=>[.int .i64 ((C i_1).2 i_2)]))])⟩)] [0,388,2,3] 1 (k+1) (fun i=>if (i<k) then [.ar 1 ⟨3,some i⟩ 0 ((C i).1),.p (.int .i64 (↑(K i):Int))] else [.ar 1 ⟨3,some k⟩ 0 ((C k).1),.p (.int .i64 (↑S.1:Int))]) (fun i=>[.ar 1 ⟨3,some i⟩ 0 ((C i).1),.p (.int .i64 (↑(K i):Int))])),(AN 1),(NL cn cn),(AA cn (fun i=>[.ar 1 ⟨3,some i⟩ 0 ((C i).1)])),(NL cn cn),(∀ i:Nat,(((i:Nat)<cn)→All [(AN 1),((((C i).1):Nat)≤((C i).1)),(AP (((C i).1)) (fun r=>[.int .i64 ((C i).2 r)]))]))]):=by kernel_rfl
theorem oDe (v:T_Graph) (cn:Nat) (C:Nat→T_IntS) (K:Nat→Nat) (k:Nat) :
    pathOb Try.prog Try.f17 0 [rg 1,.dec false,rg 2] zf37 (SBi2 v cn C K k) [1,3] 1 [(0,boOb 1 k C K),(1,cfOb cn C)] (.ar 2 0 0 k) =
    some [((decide ((↑k:Int)<(↑cn:Int)))=false),(AN 0),(AN k),(AN 2),(NL k k),(AA k (fun i=>[.ar 1 ⟨1,some i⟩ 0 ((C i).1),.p (.int .i64 (↑(K i):Int))])),(NL cn cn),(∀ i:Nat,(((i:Nat)<cn)→All [(AN 1),((((C i).1):Nat)≤((C i).1)),(AP (((C i).1)) (fun r=>[.int .i64 ((C i).2 r)]))])),(AE k),(∀ i:Nat,(((i:Nat)<cn)→All [(false=false),(AE (((C i).1)))]))]:=by kernel_rfl
theorem inner_o {N nb:Nat} {g:Nat→T_Bar} {e cn:Nat} {C:Nat→T_IntS} {cc:T_IntS} (hcn:cn≤1048576) (hC:∀ j,j<cn→(C j).1≤1048576) (c:Cx) (hc:c.n=0) {R:Ending→World→Prop}
    (h:Run Try.prog c 51 zf4 (SCo1 g nb N e cn C cc (knF C cc cn) cn) R) :
    ∀ d k,k+d=cn→Run Try.prog c 51 zf4 (SCo1 g nb N e cn C cc (knF C cc k) k) R:=by
  intro d
  induction d with
  | zero =>
    intro k hk
    have hkc:k=cn:=by omega
    rw [hkc]
    exact h
  | succ d ih =>
    intro k hk
    have hd:decide ((k:Int)<(cn:Int))=true:=by simp;omega
    have hq:=con_seIntS (C k) cc (hC k (by omega))
    refine piece_ok mixed hc (oC2 g nb N e cn C cc (knF C cc k) k (q_IntS (C k) cc)) ?_ (ih (k+1) (by omega))
    repeat' (first | exact aN | apply aI)
    all_goals (first | exact aG _ | exact aP _ _ | exact aA _ _ | omega | rfl | (intros;first | assumption | exact trivial | rfl | exact fT ‹_› | ((repeat' (first | assumption | apply anda | apply notf));done)) | (intros;exact hq) | (intro j hj;simp [famE,All]))
theorem con_Comps_o (v:T_Graph) (hs:smS s_Graph v):Con Try.prog 51 0 [] [graphA v] [(0,coOb 1 (compsG v).1 (compsG v).2),(1,cfOb (compsG v).1 (compsG v).2)] (.ar 1 0 0 (compsG v).1):=by
  cases hg:isGraphF v with
  | false =>
    have hcg:=con_IsGraph_i v hs
    rw [hg] at hcg
    rw [show compsG v=(0,fun _=>(0,fun _=>0)) by simp [compsG,hg]]
    refine con_start Try.func51 rfl (by kernel_rfl) rfl (fun c hc=>?_)
    refine path_ok mixed Try.func51 hc (oCy v) ?_
    repeat' (first | exact aN | apply aI)
    all_goals (first | exact aE _ | omega | rfl | (intros;first | assumption | exact trivial | rfl | exact fT ‹_› | ((repeat' (first | assumption | apply anda | apply notf));done)) | (intros;exact hcg) | (simp;done) | (intro i hi;simp [All]))
  | true =>
    obtain ⟨N,nb,g,rfl⟩:=graph_cases v hg
    rw [show compsG ((N:Int),(nb,g),())=compsD N nb g nb by simp [compsG,hg]]
    obtain ⟨hN,hnb,hok⟩:=graph_in hg
    have hcg:=con_IsGraph_i ((N:Int),(nb,g),()) hs
    rw [hg] at hcg
    refine con_start Try.func51 rfl (by kernel_rfl) rfl (fun c hc=>?_)
    have lp:∀ d e,e+d=nb→Run Try.prog c 51 zf22 (SCo g nb N e (compsD N nb g e).1 (compsD N nb g e).2) (Post c [(0,coOb 1 (compsD N nb g nb).1 (compsD N nb g nb).2),(1,cfOb (compsD N nb g nb).1 (compsD N nb g nb).2)] (.ar 1 0 0 (compsD N nb g nb).1)):=by
      intro d
      induction d with
      | zero =>
        intro e he
        obtain rfl:e=nb:=by omega
        have hd:decide ((e:Int)<(e:Int))=false:=by simp
        refine path_ok mixed Try.func51 hc (oCe g e N e (compsD N e g e).1 (compsD N e g e).2) ?_
        repeat' (first | exact aN | apply aI)
        all_goals (first | exact aP _ _ | exact aA _ _ | exact aE _ | omega | rfl | (intros;first | assumption | exact trivial | rfl | exact fT ‹_› | ((repeat' (first | assumption | apply anda | apply notf));done)) | (exact hcg) | (intros;exact hcg) | (intro h;rw [hd] at h;cases h) | (simp;done) | (intro i hi;simp [famE,All]))
      | succ d ih =>
        intro e he
        have hd:decide ((e:Int)<(nb:Int))=true:=by simp;omega
        obtain ⟨hle,hC⟩:=compsD_le N nb g e
        have hcomp:=con_ComponentOfBar_i hg e (by omega)
        have hcl:=compD_le N nb g e N
        have hih:=ih (e+1) (by omega)
        have hin:Run Try.prog c 51 zf4 (SCo1 g nb N e (compsD N nb g e).1 (compsD N nb g e).2 (compD N nb g e N) (knF (compsD N nb g e).2 (compD N nb g e N) (compsD N nb g e).1) (compsD N nb g e).1) (Post c [(0,coOb 1 (compsD N nb g nb).1 (compsD N nb g nb).2),(1,cfOb (compsD N nb g nb).1 (compsD N nb g nb).2)] (.ar 1 0 0 (compsD N nb g nb).1)):=by
          have hd':decide (((compsD N nb g e).1:Int)<((compsD N nb g e).1:Int))=false:=by simp
          cases hk:knF (compsD N nb g e).2 (compD N nb g e N) (compsD N nb g e).1 with
          | false =>
            rw [show compsD N nb g (e+1)=((compsD N nb g e).1+1,snocC (compsD N nb g e).1 (compsD N nb g e).2 (compD N nb g e N)) by simp only [compsD];rw [if_neg (by rw [hk];simp)]] at hih
            generalize compsD N nb g e=q at hle hC hih ⊢
            have hd2:decide ((q.1:Int)<(q.1:Int))=false:=by simp
            refine piece_ok mixed hc (oC3 g nb N e q.1 q.2 (compD N nb g e N) false q.1) ?_ hih
            repeat' (first | exact aN | apply aI)
            all_goals (first | exact aP _ _ | omega | rfl | (intros;first | assumption | exact trivial | rfl | exact fT ‹_› | ((repeat' (first | assumption | apply anda | apply notf));done)) | (exact hd2) | (intro j hj;by_cases h':j<q.1<;>simp [h',snocC,cvtL,cvt,idx,idx1,idO,idM,tg,All]<;>omega) | (intro j hj hne;(have h':j<q.1:=by omega);simp [h',snocC,famE,All];done) | (intro hj;simp [snocC,memE,tab,toP,All];done))
          | true =>
            rw [show compsD N nb g (e+1)=compsD N nb g e by simp only [compsD];rw [if_pos hk]] at hih
            refine piece_ok mixed hc (oC4 g nb N e (compsD N nb g e).1 (compsD N nb g e).2 (compD N nb g e N) true (compsD N nb g e).1) ?_ hih
            repeat' (first | exact aN | apply aI)
            all_goals (first | exact aP _ _ | exact aA _ _ | omega | rfl | (intros;first | assumption | exact trivial | rfl | exact fT ‹_› | ((repeat' (first | assumption | apply anda | apply notf));done)) | (intro j hj;simp [famE,All]))
        refine piece_ok mixed hc (oC1 g nb N e (compsD N nb g e).1 (compsD N nb g e).2 (compD N nb g e N)) ?_ (inner_o (by omega) (fun j hj=>by have:=hC j hj;omega) c hc hin (compsD N nb g e).1 0 (by omega))
        repeat' (first | exact aN | apply aI)
        all_goals (first | exact aP _ _ | exact aA _ _ | omega | rfl | (intros;first | assumption | exact trivial | rfl | exact fT ‹_› | ((repeat' (first | assumption | apply anda | apply notf));done)) | (exact hcg) | (intros;exact hcg) | (exact hcomp) | (rw [hd];rfl) | (intro j hj;simp [famE,All]))
    refine piece_ok mixed hc (oCz g nb N) ?_ (lp nb 0 (by omega))
    repeat' (first | exact aN | apply aI)
    all_goals (first | exact aP _ _ | omega | rfl | (intros;first | assumption | exact trivial | rfl | exact fT ‹_› | ((repeat' (first | assumption | apply anda | apply notf));done)) | (exact hcg) | (intro j hj;simp [All]))
def spS (g:Nat→T_Bar) (S:T_IntS) (e:Nat):Bool:=hasI S.2 (g e).1 S.1&&hasI S.2 (g e).2.1 S.1
theorem con_SpannedV_s (v:T_Graph) (S:T_IntS) (hs:smS s_Graph v) (hS:S.1≤1048576) :
    Con Try.prog 49 0 [] [graphA v,inL S] [(0,iOb (flt (spS v.2.1.2 S) v.2.1.1).1 (flt (spS v.2.1.2 S) v.2.1.1).2)] (.ar 1 0 0 (flt (spS v.2.1.2 S) v.2.1.1).1):=by
  refine con_start Try.func49 rfl (by kernel_rfl) rfl (fun c hc=>?_)
  have hnb:v.2.1.1≤1048576:=hs.2.1.1
  generalize hp:spS v.2.1.2 S=p
  generalize hR:flt p v.2.1.1=R
  have lo:∀ d i,i+d=v.2.1.1→Run Try.prog c 49 zf35 (CSv v S i (flt p i).1 (flt p i).2) (Post c [(0,iOb R.1 R.2)] (.ar 1 0 0 R.1)):=by
    intro d
    induction d with
    | zero =>
      intro i hi
      obtain rfl:i=v.2.1.1:=by omega
      have hd:decide ((v.2.1.1:Int)<(v.2.1.1:Int))=false:=by simp
      rw [hR]
      refine path_ok mixed Try.func49 hc (oSe v S v.2.1.1 R.1 R.2) ?_
      repeat' (first | exact aN | apply aI)
      all_goals (first | exact aA _ _ | exact aE _ | omega | rfl | (intros;first | assumption | exact trivial | rfl | exact fT ‹_› | ((repeat' (first | assumption | apply anda | apply notf));done)) | (exact hd) | (intro t ht;simp [All]))
    | succ d ih =>
      intro i hi
      have hd:decide ((i:Int)<(v.2.1.1:Int))=true:=decide_eq_true (by omega)
      have hrec:=ih (i+1) (by omega)
      have hfn:=flt_n p i
      have hc1:=con_l2Has S (v.2.1.2 i).1 hS
      have hc2:=con_l2Has S (v.2.1.2 i).2.1 hS
      have hpe:p i=(hasI S.2 (v.2.1.2 i).1 S.1&&hasI S.2 (v.2.1.2 i).2.1 S.1):=by rw [← hp];rfl
      generalize hasI S.2 (v.2.1.2 i).1 S.1=a at hc1 hpe
      generalize hasI S.2 (v.2.1.2 i).2.1 S.1=b at hc2 hpe
      cases hb:p i with
      | true =>
        rw [hb] at hpe
        rw [flt_t hb] at hrec
        generalize flt p i=q at hfn hrec ⊢
        refine piece_ok mixed hc (oSt v S i q.1 q.2 a b) ?_ hrec
        repeat' (first | exact aN | apply aI)
        all_goals (first | exact aG _ | exact aP _ _ | omega | rfl | (intros;first | assumption | exact trivial | rfl | exact fT ‹_› | ((repeat' (first | assumption | apply anda | apply notf));done)) | (exact hd) | (exact hc1) | (intro _;exact hc2) | (simp [hpe.symm];done) | (cases a<;>cases b<;>simp at hpe ⊢;done) | (simp;omega) | (intro t ht;by_cases h':t<q.1<;>(simp [h',cvtL,cvt,tg,tru,All];done)) | (intro t ht;simp [All]))
      | false =>
        rw [hb] at hpe
        rw [flt_f hb] at hrec
        generalize flt p i=q at hfn hrec ⊢
        refine piece_ok mixed hc (oSf v S i q.1 q.2 a b) ?_ hrec
        repeat' (first | exact aN | apply aI)
        all_goals (first | exact aG _ | exact aP _ _ | exact aA _ _ | omega | rfl | (intros;first | assumption | exact trivial | rfl | exact fT ‹_› | ((repeat' (first | assumption | apply anda | apply notf));done)) | (exact hd) | (exact hc1) | (intro _;exact hc2) | (cases a<;>cases b<;>simp at hpe ⊢;done) | (simp;done) | (simp;omega) | (intro t ht;simp [All]))
  refine piece_ok mixed hc (oSz v S) ?_ (lo v.2.1.1 0 (by omega))
  repeat' (first | exact aN | apply aI)
  all_goals (first | exact aP _ _ | exact aA _ _ | omega | rfl | (intros;first | assumption | exact trivial | rfl | exact fT ‹_› | ((repeat' (first | assumption | apply anda | apply notf));done)) | (simp;done) | (intro t ht;exact absurd ht (Nat.not_lt_zero _)) | (intro t ht;simp [All]))
theorem con_SpannedV_i (v:T_Graph) (S:T_IntS) (hs:smS s_Graph v) (hS:S.1≤1048576) :
    Con Try.prog 52 0 [] [graphA v,inL S] [(0,iOb (flt (spS v.2.1.2 S) v.2.1.1).1 (flt (spS v.2.1.2 S) v.2.1.1).2)] (.ar 1 0 0 (flt (spS v.2.1.2 S) v.2.1.1).1):=by
  refine con_start Try.func52 rfl (by kernel_rfl) rfl (fun c hc=>?_)
  have hnb:v.2.1.1≤1048576:=hs.2.1.1
  generalize hp:spS v.2.1.2 S=p
  generalize hR:flt p v.2.1.1=R
  have lo:∀ d i,i+d=v.2.1.1→Run Try.prog c 52 zf36 (CSw v S i (flt p i).1 (flt p i).2) (Post c [(0,iOb R.1 R.2)] (.ar 1 0 0 R.1)):=by
    intro d
    induction d with
    | zero =>
      intro i hi
      obtain rfl:i=v.2.1.1:=by omega
      have hd:decide ((v.2.1.1:Int)<(v.2.1.1:Int))=false:=by simp
      rw [hR]
      refine path_ok mixed Try.func52 hc (oTe v S v.2.1.1 R.1 R.2) ?_
      repeat' (first | exact aN | apply aI)
      all_goals (first | exact aA _ _ | exact aE _ | omega | rfl | (intros;first | assumption | exact trivial | rfl | exact fT ‹_› | ((repeat' (first | assumption | apply anda | apply notf));done)) | (exact hd) | (intro t ht;simp [All]))
    | succ d ih =>
      intro i hi
      have hd:decide ((i:Int)<(v.2.1.1:Int))=true:=decide_eq_true (by omega)
      have hrec:=ih (i+1) (by omega)
      have hfn:=flt_n p i
      have hc1:=con_Contains S (v.2.1.2 i).1 hS
      have hc2:=con_Contains S (v.2.1.2 i).2.1 hS
      have hpe:p i=(hasI S.2 (v.2.1.2 i).1 S.1&&hasI S.2 (v.2.1.2 i).2.1 S.1):=by rw [← hp];rfl
      generalize hasI S.2 (v.2.1.2 i).1 S.1=a at hc1 hpe
      generalize hasI S.2 (v.2.1.2 i).2.1 S.1=b at hc2 hpe
      cases hb:p i with
      | true =>
        rw [hb] at hpe
        rw [flt_t hb] at hrec
        generalize flt p i=q at hfn hrec ⊢
        refine piece_ok mixed hc (oTt v S i q.1 q.2 a b) ?_ hrec
        repeat' (first | exact aN | apply aI)
        all_goals (first | exact aG _ | exact aP _ _ | omega | rfl | (intros;first | assumption | exact trivial | rfl | exact fT ‹_› | ((repeat' (first | assumption | apply anda | apply notf));done)) | (exact hd) | (exact hc1) | (intro _;exact hc2) | (cases a<;>cases b<;>simp at hpe ⊢;done) | (simp;done) | (simp;omega) | (intro t ht;by_cases h':t<q.1<;>(simp [h',cvtL,cvt,tg,tru,All];done)) | (intro t ht;simp [All]))
      | false =>
        rw [hb] at hpe
        rw [flt_f hb] at hrec
        generalize flt p i=q at hfn hrec ⊢
        refine piece_ok mixed hc (oTf v S i q.1 q.2 a b) ?_ hrec
        repeat' (first | exact aN | apply aI)
        all_goals (first | exact aG _ | exact aP _ _ | exact aA _ _ | omega | rfl | (intros;first | assumption | exact trivial | rfl | exact fT ‹_› | ((repeat' (first | assumption | apply anda | apply notf));done)) | (exact hd) | (exact hc1) | (intro _;exact hc2) | (cases a<;>cases b<;>simp at hpe ⊢;done) | (simp;done) | (simp;omega) | (intro t ht;simp [All]))
  refine piece_ok mixed hc (oTz v S) ?_ (lo v.2.1.1 0 (by omega))
  repeat' (first | exact aN | apply aI)
  all_goals (first | exact aP _ _ | exact aA _ _ | omega | rfl | (intros;first | assumption | exact trivial | rfl | exact fT ‹_› | ((repeat' (first | assumption | apply anda | apply notf));done)) | (simp;done) | (intro t ht;exact absurd ht (Nat.not_lt_zero _)) | (intro t ht;simp [All]))
noncomputable def barK (v:T_Graph) (i:Nat):Nat:=(flt (spS v.2.1.2 ((compsG v).2 i)) v.2.1.1).1
theorem con_BodiesOf_s (v:T_Graph) (hs:smS s_Graph v):Con Try.prog 15 0 [] [graphA v] [(0,bsOb (compsG v).1 (compsG v).2 (barK v))] (.ar 2 0 0 (compsG v).1):=by
  obtain ⟨h1,h2⟩:=compsG_le v
  have hcs:=con_Comps_s v hs
  have hK:∀ i,barK v i=(flt (spS v.2.1.2 ((compsG v).2 i)) v.2.1.1).1:=fun _=>rfl
  generalize barK v=K at hK ⊢
  generalize (compsG v).1=cn at h1 h2 hcs ⊢
  generalize (compsG v).2=C at h2 hcs hK ⊢
  refine con_start Try.func15 rfl (by kernel_rfl) rfl (fun c hc=>?_)
  have lo:∀ d k,k+d=cn→Run Try.prog c 15 zf23 (SBs2 v cn C K k) (Post c [(0,bsOb cn C K)] (.ar 2 0 0 cn)):=by
    intro d
    induction d with
    | zero =>
      intro k hk
      obtain rfl:k=cn:=by omega
      have hd:decide ((k:Int)<(k:Int))=false:=by simp
      refine path_ok mixed Try.func15 hc (oBe v k C K k) ?_
      repeat' (first | exact aN | apply aI)
      all_goals (first | exact aA _ _ | exact aE _ | omega | rfl | (intros;first | assumption | exact trivial | rfl | exact fT ‹_› | ((repeat' (first | assumption | apply anda | apply notf));done)) | (exact hd) | (intro t ht;simp [All]))
    | succ d ih =>
      intro k hk
      have hd:decide ((k:Int)<(cn:Int))=true:=decide_eq_true (by omega)
      have hsp:=con_SpannedV_s v (C k) hs (by have:=h2 k (by omega);omega)
      have hKk:=hK k
      generalize flt (spS v.2.1.2 (C k)) v.2.1.1=S at hsp hKk
      refine piece_ok mixed hc (oB1 v cn C K k S) ?_ (ih (k+1) (by omega))
      repeat' (first | exact aN | apply aI)
      all_goals (first | exact aP _ _ | exact aA _ _ | omega | rfl | (intros;first | assumption | exact trivial | rfl | exact fT ‹_› | ((repeat' (first | assumption | apply anda | apply notf));done)) | (exact hd) | (exact hsp) | (intro t ht;by_cases h':t<k<;>(first | (simp [h',cvtL,cvt,tg,tru,All];done) | ((have h9:t=k:=by omega);subst h9;simp [hKk,cvtL,cvt,tg,tru,All];done))) | (intro t ht;simp [All]))
  refine piece_ok mixed hc (oBz v cn C K) ?_ (lo cn 0 (by omega))
  repeat' (first | exact aN | apply aI)
  all_goals (first | exact aP _ _ | exact aA _ _ | omega | rfl | (intros;first | assumption | exact trivial | rfl | exact fT ‹_› | ((repeat' (first | assumption | apply anda | apply notf));done)) | (exact hcs) | (intro t ht;exact absurd ht (Nat.not_lt_zero _)) | (intro t ht;simp [All]))
theorem con_BodiesOf_i (v:T_Graph) (hs:smS s_Graph v):Con Try.prog 17 0 [] [graphA v] [(0,boOb 1 (compsG v).1 (compsG v).2 (barK v)),(1,cfOb (compsG v).1 (compsG v).2)] (.ar 2 0 0 (compsG v).1):=by
  obtain ⟨h1,h2⟩:=compsG_le v
  have hcs:=con_Comps_o v hs
  have hK:∀ i,barK v i=(flt (spS v.2.1.2 ((compsG v).2 i)) v.2.1.1).1:=fun _=>rfl
  generalize barK v=K at hK ⊢
  generalize (compsG v).1=cn at h1 h2 hcs ⊢
  generalize (compsG v).2=C at h2 hcs hK ⊢
  refine con_start Try.func17 rfl (by kernel_rfl) rfl (fun c hc=>?_)
  have lo:∀ d k,k+d=cn→Run Try.prog c 17 zf37 (SBi2 v cn C K k) (Post c [(0,boOb 1 cn C K),(1,cfOb cn C)] (.ar 2 0 0 cn)):=by
    intro d
    induction d with
    | zero =>
      intro k hk
      obtain rfl:k=cn:=by omega
      have hd:decide ((k:Int)<(k:Int))=false:=by simp
      refine path_ok mixed Try.func17 hc (oDe v k C K k) ?_
      repeat' (first | exact aN | apply aI)
      all_goals (first | exact aP _ _ | exact aA _ _ | exact aE _ | omega | rfl | (intros;first | assumption | exact trivial | rfl | exact fT ‹_› | ((repeat' (first | assumption | apply anda | apply notf));done)) | (exact hd) | (intro t ht;simp [famE,All]))
    | succ d ih =>
      intro k hk
      have hd:decide ((k:Int)<(cn:Int))=true:=decide_eq_true (by omega)
      have hsp:=con_SpannedV_i v (C k) hs (by have:=h2 k (by omega);omega)
      have hKk:=hK k
      generalize flt (spS v.2.1.2 (C k)) v.2.1.1=S at hsp hKk
      refine piece_ok mixed hc (oD1 v cn C K k S) ?_ (ih (k+1) (by omega))
      repeat' (first | exact aN | apply aI)
      all_goals (first | exact aP _ _ | exact aA _ _ | omega | rfl | (intros;first | assumption | exact trivial | rfl | exact fT ‹_› | ((repeat' (first | assumption | apply anda | apply notf));done)) | (exact hd) | (exact hsp) | (intro t ht;by_cases h':t<k<;>(first | (simp [h',cvtL,cvt,idx,idx1,idO,idM,tg,tru,All];done) | ((have h9:t=k:=by omega);subst h9;simp [hKk,cvtL,cvt,idx,idx1,idO,idM,tg,tru,All];done))) | (intro t ht;simp [famE,All]))
  refine piece_ok mixed hc (oDz v cn C K) ?_ (lo cn 0 (by omega))
  repeat' (first | exact aN | apply aI)
  all_goals (first | exact aP _ _ | exact aA _ _ | omega | rfl | (intros;first | assumption | exact trivial | rfl | exact fT ‹_› | ((repeat' (first | assumption | apply anda | apply notf));done)) | (exact hcs) | (intro t ht;exact absurd ht (Nat.not_lt_zero _)) | (intro t ht;simp [famE,All]))
end Go.Proofs.Ytffnfeefjdmifaa.Mach
namespace Go.Proofs.Ytffnfeefjdmifaa.Mach
open Go
set_option linter.unusedVariables false
set_option linter.unusedSimpArgs false
def S_markIntS (v:T_IntS) (m:Int) (k:Nat):St :=
  ⟨[.ar 1 0 0 v.1,.p (.int .i64 (m+(k:Int))),.p .any,.p .any,.p .any,.p (.int .i64 k)]++List.replicate 13 anyA,[(0,⟨false,1,v.1,fun i=>[.p (.int .i64 (if i<k then m+(i:Int) else (v.2 i)))]⟩)],1⟩
def S_heldIntS (n:Nat) (m:Int) (k:Nat):St :=
  ⟨[.p (.seq true 1 n (fun i=>[.int .i64 (m+(i:Int))])),.p (.int .i64 (m+(k:Int))),.p .any,.p .any,.p .any,.p (.int .i64 k)]++List.replicate 15 anyA,[],0⟩
def S_markBarS (v:T_BarS) (m:Int) (k:Nat):St :=
  ⟨[.ar 2 0 0 v.1,.p (.int .i64 (m+2*(k:Int))),.p .any,.p .any,.p .any,.p (.int .i64 k)]++List.replicate 21 anyA,[(0,⟨false,2,v.1,fun i=>[.p (.int .i64 (if i<k then m+2*(i:Int) else (v.2 i).1)),.p (.int .i64 (if i<k then m+2*(i:Int)+1 else (v.2 i).2.1))]⟩)],1⟩
def S_markBarS_1 (v:T_BarS) (m:Int) (k:Nat):St :=
  ⟨[.ar 2 0 0 v.1,.p (.int .i64 (m+2*(k:Int)+1)),.p .any,.p .any,.p .any,.p (.int .i64 k)]++List.replicate 21 anyA,[(0,⟨false,2,v.1,fun i=>[.p (.int .i64 (if i<k+1 then m+2*(i:Int) else (v.2 i).1)),.p (.int .i64 (if i<k then m+2*(i:Int)+1 else (v.2 i).2.1))]⟩)],1⟩
def s_Body:Sh:=(.st [(.sl (.int .i64)),(.int .i64)])
abbrev T_Body:=T_IntS×Int×Unit
def s_BodyS:Sh:=(.sl (.st [(.sl (.int .i64)),(.int .i64)]))
abbrev T_BodyS:=Nat×(Nat→T_Body)
def S_eqBodyS (v:T_BodyS) (k:Nat):St :=
  ⟨[.p (.seq true 2 v.1 (fun i=>[.seq true 1 ((v.2 i).1.1) (fun i1=>[.int .i64 ((v.2 i).1.2 i1)]),.int .i64 ((v.2 i).2.1)])),.p (.seq true 2 v.1 (fun i=>[.seq true 1 ((v.2 i).1.1) (fun i1=>[.int .i64 ((v.2 i).1.2 i1)]),.int .i64 ((v.2 i).2.1)])),.p .any,.p .any,.p .any,.p (.int .i64 k)]++List.replicate 21 anyA,[],0⟩
theorem p_markIntS_a (v:T_IntS) (m:Int) :
    pieceOb Try.prog 1 [rg 1,rg 1,.head] [.code (bodyOf Try.f55)] (start Try.f55 [(0,⟨false,1,v.1,fun i=>[.p (.int .i64 (v.2 i))]⟩)] 1 [.ar 1 0 0 v.1,.p (.int .i64 m)]) [0] 1 (S_markIntS v m 0) =
    some (zf42,[(AN 0),(AN v.1),((m:Int)=(m+(↑0:Int))),((0:Int)=(↑0:Int)),(AN 1),(NL v.1 v.1),(∀ i:Nat,(((i:Nat)<v.1)→(All []∧(([.p (.int .i64 (v.2 i))]:List AV)=[.p (.int .i64 (if i<0 then m+(↑i:Int) else v.2 i))]))))]):=by kernel_rfl
theorem p_markIntS_b0 (v:T_IntS) (m:Int) (k:Nat) :
    pieceOb Try.prog 1 [rg 4,.dec true,rg 5,rg 3,rg 3,.head] zf42 (S_markIntS v m k) [0] 1 (S_markIntS v m (k+1)) =
    some (zf42,[((decide ((↑k:Int)<(↑v.1:Int)))=true),(IL 0 (↑k:Int)),(IT (↑k:Int) (↑v.1:Int)),(NT k v.1),((false=true)→ ((v.1:Nat)=1)),(R0 (m+(↑k:Int)+1)),(R1 (m+(↑k:Int)+1)),(R0 ((↑k:Int)+1)),(R1 ((↑k:Int)+1)),(AN 0),(AN v.1),(((m+(↑k:Int)+1):Int)=(m+(↑(k+1):Int))),((((↑k:Int)+1):Int)=(↑(k+1):Int)),(AN 1),(NL v.1 v.1),(CV [(0,⟨false,1,v.1,(fun i_1=>(if (i_1=k) then [.p (.int .i64 (m+(↑k:Int)))] else [.p (.int .i64 (if i_1<k then m+(↑i_1:Int) else v.2 i_1))]))⟩)] [0] 1 v.1 (fun i=>if (i=k) then [.p (.int .i64 (m+(↑k:Int)))] else [.p (.int .i64 (if i<k then m+(↑i:Int) else v.2 i))]) (fun i=>[.p (.int .i64 (if i<k+1 then m+(↑i:Int) else v.2 i))]))]):=by kernel_rfl
theorem p_markIntS_c (v:T_IntS) (m:Int) (k:Nat) :
    pathOb Try.prog Try.f55 1 [rg 4,.dec false,rg 2] zf42 (S_markIntS v m k) [0] 1 [(0,⟨false,1,v.1,fun i=>[.p (.int .i64 (m+(i:Int)))]⟩)] (.p (.int .i64 (m+(v.1:Int)))) =
    some [((decide ((↑k:Int)<(↑v.1:Int)))=false),(((m+(↑k:Int)):Int)=(m+(↑v.1:Int))),(AN 1),(NL v.1 v.1),(∀ i:Nat,(((i:Nat)<v.1)→(All []∧(([.p (.int .i64 (if i<k then m+(↑i:Int) else v.2 i))]:List AV)=[.p (.int .i64 (m+(↑i:Int)))])))),(AE v.1)]:=by kernel_rfl
theorem p_heldIntS_a (n:Nat) (m:Int) :
    pieceOb Try.prog 0 [rg 1,rg 1,.head] [.code (bodyOf Try.f56)] (start Try.f56 [] 0 [.p (.seq true 1 n (fun i=>[.int .i64 (m+(i:Int))])),.p (.int .i64 m)]) [] 1 (S_heldIntS n m 0) =
    some (zf43,[(AN n),(AP n (fun i=>[.int .i64 (m+(↑i:Int))])),((m:Int)=(m+(↑0:Int))),((0:Int)=(↑0:Int))]):=by kernel_rfl
theorem p_heldIntS_b (n:Nat) (m:Int) (k:Nat) :
    pieceOb Try.prog 0 [rg 4,.dec true,rg 6,.dec false,rg 3,rg 3,.head] zf43 (S_heldIntS n m k) [] 1 (S_heldIntS n m (k+1)) =
    some (zf43,[((decide ((↑k:Int)<(↑n:Int)))=true),(IL 0 (↑k:Int)),(IT (↑k:Int) (↑n:Int)),((m+(↑k:Int) != m+(↑k:Int))=false),(R0 (m+(↑k:Int)+1)),(R1 (m+(↑k:Int)+1)),(R0 ((↑k:Int)+1)),(R1 ((↑k:Int)+1)),(AN n),(AP n (fun i=>[.int .i64 (m+(↑i:Int))])),(((m+(↑k:Int)+1):Int)=(m+(↑(k+1):Int))),((((↑k:Int)+1):Int)=(↑(k+1):Int))]):=by kernel_rfl
theorem p_heldIntS_c (n:Nat) (m:Int) (k:Nat) :
    pathOb Try.prog Try.f56 0 [rg 4,.dec false,rg 2] zf43 (S_heldIntS n m k) [] 1 [] (.p (.int .i64 (m+(n:Int)))) =
    some [((decide ((↑k:Int)<(↑n:Int)))=false),(((m+(↑k:Int)):Int)=(m+(↑n:Int)))]:=by kernel_rfl
theorem p_markBarS_a (v:T_BarS) (m:Int) :
    pieceOb Try.prog 1 [rg 1,rg 1,.head] [.code (bodyOf Try.f45)] (start Try.f45 (zf56 v) 1 [.ar 2 0 0 v.1,.p (.int .i64 m)]) [0] 1 (S_markBarS v m 0) =
    some (zf44,[(AN 0),(AN v.1),((m:Int)=(m+2*(↑0:Int))),((0:Int)=(↑0:Int)),(AN 2),(NL v.1 v.1),(∀ i:Nat,(((i:Nat)<v.1)→(All []∧(([.p (.int .i64 ((v.2 i).1)),.p (.int .i64 ((v.2 i).2.1))]:List AV)=[.p (.int .i64 (if i<0 then m+2*(↑i:Int) else (v.2 i).1)),.p (.int .i64 (if i<0 then m+2*(↑i:Int)+1 else (v.2 i).2.1))]))))]):=by kernel_rfl
theorem p_markBarS_b0 (v:T_BarS) (m:Int) (k:Nat) :
    pieceOb Try.prog 1 [rg 4,.dec true,rg 6,rg 3,.head] zf44 (S_markBarS v m k) [0] 1 (S_markBarS_1 v m k) =
    some (zf9,[((decide ((↑k:Int)<(↑v.1:Int)))=true),(IL 0 (↑k:Int)),(IT (↑k:Int) (↑v.1:Int)),(NT k v.1),((false=true)→ ((v.1:Nat)=1)),(R0 (m+2*(↑k:Int)+1)),(R1 (m+2*(↑k:Int)+1)),(AN 0),(AN v.1),(AI ((m+2*(↑k:Int)+1))),(AI ((↑k:Int))),(AN 2),(NL v.1 v.1),(CV [(0,⟨false,2,v.1,(fun i_1=>(if (i_1=k) then [.p (.int .i64 (m+2*(↑k:Int))),.p (.int .i64 (if (↑k:Int).toNat+0<k then m+2*(↑k:Int)+1 else (v.2 k).2.1))] else [.p (.int .i64 (if i_1<k then m+2*(↑i_1:Int) else (v.2 i_1).1)),.p (.int .i64 (if i_1<k then m+2*(↑i_1:Int)+1 else (v.2 i_1).2.1))]))⟩)] [0] 1 v.1 (fun i=>if (i=k) then [.p (.int .i64 (m+2*(↑k:Int))),.p (.int .i64 (if (↑k:Int).toNat+0<k then m+2*(↑k:Int)+1 else (v.2 k).2.1))] else [.p (.int .i64 (if i<k then m+2*(↑i:Int) else (v.2 i).1)),.p (.int .i64 (if i<k then m+2*(↑i:Int)+1 else (v.2 i).2.1))]) (fun i=>[.p (.int .i64 (if i<k+1 then m+2*(↑i:Int) else (v.2 i).1)),.p (.int .i64 (if i<k then m+2*(↑i:Int)+1 else (v.2 i).2.1))]))]):=by kernel_rfl
theorem p_markBarS_b1 (v:T_BarS) (m:Int) (k:Nat) :
    pieceOb Try.prog 1 [rg 6,rg 3,rg 3,.head] zf9 (S_markBarS_1 v m k) [0] 1 (S_markBarS v m (k+1)) =
    some (zf44,[(IL 0 (↑k:Int)),(IT (↑k:Int) (↑v.1:Int)),(NT k v.1),((false=true)→ ((v.1:Nat)=1)),(R0 (m+2*(↑k:Int)+1+1)),(R1 (m+2*(↑k:Int)+1+1)),(R0 ((↑k:Int)+1)),(R1 ((↑k:Int)+1)),(AN 0),(AN v.1),(((m+2*(↑k:Int)+1+1):Int)=(m+2*(↑(k+1):Int))),((((↑k:Int)+1):Int)=(↑(k+1):Int)),(AN 2),(NL v.1 v.1),(CV [(0,⟨false,2,v.1,(fun i_1=>(if (i_1=k) then [.p (.int .i64 (if (↑k:Int).toNat+0<k+1 then m+2*(↑k:Int) else (v.2 k).1)),.p (.int .i64 (m+2*(↑k:Int)+1))] else [.p (.int .i64 (if i_1<k+1 then m+2*(↑i_1:Int) else (v.2 i_1).1)),.p (.int .i64 (if i_1<k then m+2*(↑i_1:Int)+1 else (v.2 i_1).2.1))]))⟩)] [0] 1 v.1 (fun i=>if (i=k) then [.p (.int .i64 (if (↑k:Int).toNat+0<k+1 then m+2*(↑k:Int) else (v.2 k).1)),.p (.int .i64 (m+2*(↑k:Int)+1))] else [.p (.int .i64 (if i<k+1 then m+2*(↑i:Int) else (v.2 i).1)),.p (.int .i64 (if i<k then m+2*(↑i:Int)+1 else (v.2 i).2.1))]) (fun i=>[.p (.int .i64 (if i<k+1 then m+2*(↑i:Int) else (v.2 i).1)),.p (.int .i64 (if i<k+1 then m+2*(↑i:Int)+1 else (v.2 i).2.1))]))]):=by kernel_rfl
theorem p_markBarS_c (v:T_BarS) (m:Int) (k:Nat) :
    pathOb Try.prog Try.f45 1 [rg 4,.dec false,rg 2] zf44 (S_markBarS v m k) [0] 1 [(0,⟨false,2,v.1,fun i=>[.p (.int .i64 (m+2*(i:Int))),.p (.int .i64 (m+2*(i:Int)+1))]⟩)] (.p (.int .i64 (m+2*(v.1:Int)))) =
    some [((decide ((↑k:Int)<(↑v.1:Int)))=false),(((m+2*(↑k:Int)):Int)=(m+2*(↑v.1:Int))),(AN 2),(NL v.1 v.1),(∀ i:Nat,(((i:Nat)<v.1)→(All []∧(([.p (.int .i64 (if i<k then m+2*(↑i:Int) else (v.2 i).1)),.p (.int .i64 (if i<k then m+2*(↑i:Int)+1 else (v.2 i).2.1))]:List AV)=[.p (.int .i64 (m+2*(↑i:Int))),.p (.int .i64 (m+2*(↑i:Int)+1))])))),(AE v.1)]:=by kernel_rfl
theorem p_markGraph (v:T_Graph) (m:Int) :
    pathOb Try.prog Try.f20 1 [rg 2,rm [(3,oq [0] (zf51 v m) (.p (.int .i64 (m+2*(v.2.1.1:Int)))))] 1,rg 2] [.code (bodyOf Try.f20)] (start Try.f20 (zf54 v) 1 [.agg [.p (.int .i64 v.1),.ar 2 0 0 v.2.1.1],.p (.int .i64 m)]) [0] 1 (zf51 v m) (.p (.int .i64 (m+2*(v.2.1.1:Int)))) =
    some [(NT 0 1),(AE v.2.1.1),Con Try.prog 45 1 (zf53 v) [.ar 2 0 0 v.2.1.1,.p (.int .i64 m)] [(0,⟨false,2,v.2.1.1,(fun i=>[.p (.int .i64 (m+2*(↑i:Int))),.p (.int .i64 (m+2*(↑i:Int)+1))])⟩)] (.p (.int .i64 (m+2*(↑v.2.1.1:Int)))),(AI ((m+2*(↑v.2.1.1:Int)))),(AN 2),(NL v.2.1.1 v.2.1.1),(AA v.2.1.1 (fun i=>[.p (.int .i64 (m+2*(↑i:Int))),.p (.int .i64 (m+2*(↑i:Int)+1))])),(AE v.2.1.1)]:=by kernel_rfl
theorem p_eqBody (v:T_Body) :
    pathOb Try.prog Try.f53 0 [rg 3,rm [(4,oc [] (.p (.bool true)))] 1,.dec false,rg 5,.dec false,rg 1] [.code (bodyOf Try.f53)] (start Try.f53 [] 0 [(zf57 v),(zf57 v)]) [] 1 [] (.p (.bool true)) =
    some [(NT 0 1),(NT 0 1),Con Try.prog 106 0 [] [.p (.seq true 1 v.1.1 (fun i=>[.int .i64 (v.1.2 i)])),.p (.seq true 1 v.1.1 (fun i=>[.int .i64 (v.1.2 i)]))] [] (.p (.bool true)),((!true)=false),(NT 0 1),(NT 0 1),((v.2.1 != v.2.1)=false),(true=true)]:=by kernel_rfl
theorem p_eqBodyS_a (v:T_BodyS) :
    pieceOb Try.prog 0 [rg 1,rg 5,.dec false,rg 1,.head] [.code (bodyOf Try.f18)] (start Try.f18 [] 0 [.p (.seq true 2 v.1 (fun i=>[.seq true 1 ((v.2 i).1.1) (fun i1=>[.int .i64 ((v.2 i).1.2 i1)]),.int .i64 ((v.2 i).2.1)])),.p (.seq true 2 v.1 (fun i=>[.seq true 1 ((v.2 i).1.1) (fun i1=>[.int .i64 ((v.2 i).1.2 i1)]),.int .i64 ((v.2 i).2.1)]))]) [] 1 (S_eqBodyS v 0) =
    some (zf38,[(((↑v.1:Int) != (↑v.1:Int))=false),(AN v.1),(AP v.1 (fun i=>[.seq true 1 ((v.2 i).1.1) (fun i_1=>[.int .i64 ((v.2 i).1.2 i_1)]),.int .i64 ((v.2 i).2.1)])),(AN v.1),(AP v.1 (fun i=>[.seq true 1 ((v.2 i).1.1) (fun i_1=>[.int .i64 ((v.2 i).1.2 i_1)]),.int .i64 ((v.2 i).2.1)])),((0:Int)=(↑0:Int))]):=by kernel_rfl
theorem p_eqBodyS_b (v:T_BodyS) (k:Nat) :
    pieceOb Try.prog 0 [rg 4,.dec true,rm [(8,oc [] (.p (.bool true)))] 1,.dec false,rg 3,.head] zf38 (S_eqBodyS v k) [] 1 (S_eqBodyS v (k+1)) =
    some (zf38,[((decide ((↑k:Int)<(↑v.1:Int)))=true),(IL 0 (↑k:Int)),(IT (↑k:Int) (↑v.1:Int)),(IL 0 (↑k:Int)),(IT (↑k:Int) (↑v.1:Int)),Con Try.prog 53 0 [] [.agg [.p (.seq true 1 ((v.2 k).1.1) (fun i=>[.int .i64 ((v.2 k).1.2 i)])),.p (.int .i64 ((v.2 k).2.1))],.agg [.p (.seq true 1 ((v.2 k).1.1) (fun i=>[.int .i64 ((v.2 k).1.2 i)])),.p (.int .i64 ((v.2 k).2.1))]] [] (.p (.bool true)),((!true)=false),(R0 ((↑k:Int)+1)),(R1 ((↑k:Int)+1)),(AN v.1),(AP v.1 (fun i=>[.seq true 1 ((v.2 i).1.1) (fun i_1=>[.int .i64 ((v.2 i).1.2 i_1)]),.int .i64 ((v.2 i).2.1)])),(AN v.1),(AP v.1 (fun i=>[.seq true 1 ((v.2 i).1.1) (fun i_1=>[.int .i64 ((v.2 i).1.2 i_1)]),.int .i64 ((v.2 i).2.1)])),((((↑k:Int)+1):Int)=(↑(k+1):Int))]):=by kernel_rfl
theorem p_eqBodyS_c (v:T_BodyS) (k:Nat) :
    pathOb Try.prog Try.f18 0 [rg 4,.dec false,rg 1] zf38 (S_eqBodyS v k) [] 1 [] (.p (.bool true)) =
    some [((decide ((↑k:Int)<(↑v.1:Int)))=false),(true=true)]:=by kernel_rfl
theorem con_markIntS (v:T_IntS) (m:Int) (hn:v.1≤1048576) (h0:0≤m) (h1:m≤1099511627776):Con Try.prog 55 1 [(0,⟨false,1,v.1,fun i=>[.p (.int .i64 (v.2 i))]⟩)] [.ar 1 0 0 v.1,.p (.int .i64 m)] [(0,⟨false,1,v.1,fun i=>[.p (.int .i64 (m+(i:Int)))]⟩)] (.p (.int .i64 (m+(v.1:Int)))):=by
  refine con_start Try.func55 rfl (by kernel_rfl) rfl (fun c hc=>?_)
  have lp:∀ q j,j+q=v.1→Run Try.prog c 55 zf42 (S_markIntS v m j) (Post c [(0,⟨false,1,v.1,fun i=>[.p (.int .i64 (m+(i:Int)))]⟩)] (.p (.int .i64 (m+(v.1:Int))))):=by
    intro q
    induction q with
    | zero =>
      intro j hj
      have e:j=v.1:=by omega
      have hd:decide ((j:Int)<(v.1:Int))=false:=by simp;omega
      refine path_ok mixed Try.func55 hc (p_markIntS_c v m j) ?_
      repeat' (first | exact aN | apply aI)
      all_goals (first | exact aE _ | omega | rfl | (intros;first | assumption | exact trivial | rfl | exact fT ‹_› | ((repeat' (first | assumption | apply anda | apply notf));done)) | (intro i hi;(have hik:i<j:=by omega);simp [hik,All]) | (simp;try omega))
    | succ q ih =>
      intro j hj
      have hlt:decide ((j:Int)<(v.1:Int))=true:=by simp;omega
      refine piece_ok mixed hc (p_markIntS_b0 v m j) ?_ (ih (j+1) (by omega))
      ·
        repeat' (first | exact aN | apply aI)
        all_goals (first | omega | rfl | (intros;first | assumption | exact trivial | rfl | exact fT ‹_› | ((repeat' (first | assumption | apply anda | apply notf));done)) | (intro i hi;by_cases h:i=j<;>simp [h,Nat.lt_succ_iff_lt_or_eq,cvtL,cvt,tg,tru,All]))
  refine piece_ok mixed hc (p_markIntS_a v m) ?_ (lp v.1 0 (by omega))
  repeat' (first | exact aN | apply aI)
  all_goals (first | omega | rfl | (intros;first | assumption | exact trivial | rfl | exact fT ‹_› | ((repeat' (first | assumption | apply anda | apply notf));done)) | (intro i hi;simp [All]))
theorem con_heldIntS (n:Nat) (m:Int) (hn:n≤1048576) (h0:0≤m) (h1:m≤1099511627776):Con Try.prog 56 0 [] [.p (.seq true 1 n (fun i=>[.int .i64 (m+(i:Int))])),.p (.int .i64 m)] [] (.p (.int .i64 (m+(n:Int)))):=by
  refine con_start Try.func56 rfl (by kernel_rfl) rfl (fun c hc=>?_)
  have lp:∀ q j,j+q=n→Run Try.prog c 56 zf43 (S_heldIntS n m j) (Post c [] (.p (.int .i64 (m+(n:Int))))):=by
    intro q
    induction q with
    | zero =>
      intro j hj
      have hd:decide ((j:Int)<(n:Int))=false:=by simp;omega
      refine path_ok mixed Try.func56 hc (p_heldIntS_c n m j) ?_
      repeat' (first | exact aN | apply aI)
      all_goals (first | omega | rfl | (intros;first | assumption | exact trivial | rfl | exact fT ‹_› | ((repeat' (first | assumption | apply anda | apply notf));done)) | (simp;try omega))
    | succ q ih =>
      intro j hj
      have hlt:decide ((j:Int)<(n:Int))=true:=by simp;omega
      refine piece_ok mixed hc (p_heldIntS_b n m j) ?_ (ih (j+1) (by omega))
      repeat' (first | exact aN | apply aI)
      all_goals (first | exact aP _ _ | omega | rfl | (intros;first | assumption | exact trivial | rfl | exact fT ‹_› | ((repeat' (first | assumption | apply anda | apply notf));done)) | (simp;done) | (simp;omega))
  refine piece_ok mixed hc (p_heldIntS_a n m) ?_ (lp n 0 (by omega))
  repeat' (first | exact aN | apply aI)
  all_goals (first | exact aP _ _ | omega | rfl | (intros;first | assumption | exact trivial | rfl | exact fT ‹_› | ((repeat' (first | assumption | apply anda | apply notf));done)) | simp)
theorem con_markBarS (v:T_BarS) (m:Int) (hn:v.1≤1048576) (h0:0≤m) (h1:m≤1099511627776):Con Try.prog 45 1 (zf56 v) [.ar 2 0 0 v.1,.p (.int .i64 m)] [(0,⟨false,2,v.1,fun i=>[.p (.int .i64 (m+2*(i:Int))),.p (.int .i64 (m+2*(i:Int)+1))]⟩)] (.p (.int .i64 (m+2*(v.1:Int)))):=by
  refine con_start Try.func45 rfl (by kernel_rfl) rfl (fun c hc=>?_)
  have lp:∀ q j,j+q=v.1→Run Try.prog c 45 zf44 (S_markBarS v m j) (Post c [(0,⟨false,2,v.1,fun i=>[.p (.int .i64 (m+2*(i:Int))),.p (.int .i64 (m+2*(i:Int)+1))]⟩)] (.p (.int .i64 (m+2*(v.1:Int))))):=by
    intro q
    induction q with
    | zero =>
      intro j hj
      have e:j=v.1:=by omega
      have hd:decide ((j:Int)<(v.1:Int))=false:=by simp;omega
      refine path_ok mixed Try.func45 hc (p_markBarS_c v m j) ?_
      repeat' (first | exact aN | apply aI)
      all_goals (first | exact aE _ | omega | rfl | (intros;first | assumption | exact trivial | rfl | exact fT ‹_› | ((repeat' (first | assumption | apply anda | apply notf));done)) | (intro i hi;(have hik:i<j:=by omega);simp [hik,All]) | (simp;try omega))
    | succ q ih =>
      intro j hj
      have hlt:decide ((j:Int)<(v.1:Int))=true:=by simp;omega
      refine piece_ok mixed hc (p_markBarS_b0 v m j) ?_ ?_
      ·
        repeat' (first | exact aN | apply aI)
        all_goals (first | omega | rfl | (intros;first | assumption | exact trivial | rfl | exact fT ‹_› | ((repeat' (first | assumption | apply anda | apply notf));done)) | (intro i hi;by_cases h:i=j<;>simp [h,Nat.lt_succ_iff_lt_or_eq,cvtL,cvt,tg,tru,All]))
      refine piece_ok mixed hc (p_markBarS_b1 v m j) ?_ (ih (j+1) (by omega))
      ·
        repeat' (first | exact aN | apply aI)
        all_goals (first | omega | rfl | (intros;first | assumption | exact trivial | rfl | exact fT ‹_› | ((repeat' (first | assumption | apply anda | apply notf));done)) | (intro i hi;by_cases h:i=j<;>simp [h,Nat.lt_succ_iff_lt_or_eq,cvtL,cvt,tg,tru,All]))
  refine piece_ok mixed hc (p_markBarS_a v m) ?_ (lp v.1 0 (by omega))
  repeat' (first | exact aN | apply aI)
  all_goals (first | omega | rfl | (intros;first | assumption | exact trivial | rfl | exact fT ‹_› | ((repeat' (first | assumption | apply anda | apply notf));done)) | (intro i hi;simp [All]))
theorem con_markGraph (v:T_Graph) (m:Int) (h_0:v.2.1.1≤1048576) (h0:0≤m) (h1:m≤1099494850560):Con Try.prog 20 1 (zf54 v) [.agg [.p (.int .i64 v.1),.ar 2 0 0 v.2.1.1],.p (.int .i64 m)] (zf51 v m) (.p (.int .i64 (m+2*(v.2.1.1:Int)))):=by
  refine con_start Try.func20 rfl (by kernel_rfl) rfl (fun c hc=>?_)
  refine path_ok mixed Try.func20 hc (p_markGraph v m) ?_
  repeat' (first | exact aN | apply aI)
  all_goals (first | exact aA _ _ | exact aE _ | omega | rfl | (intros;first | assumption | exact trivial | rfl | exact fT ‹_› | ((repeat' (first | assumption | apply anda | apply notf));done)) | (exact con_markBarS v.2.1 _ h_0 (by omega) (by omega)) | (intro i hi;simp [All]))
theorem con_eqBody (v:T_Body) (hs:smS s_Body v):Con Try.prog 53 0 [] [(zf57 v),(zf57 v)] [] (.p (.bool true)):=by
  refine con_start Try.func53 rfl (by kernel_rfl) rfl (fun c hc=>?_)
  refine path_ok mixed Try.func53 hc (p_eqBody v) ?_
  repeat' (first | exact aN | apply aI)
  all_goals (first | omega | rfl | (intros;first | assumption | exact trivial | rfl | exact fT ‹_› | ((repeat' (first | assumption | apply anda | apply notf));done)) | (exact con_eqIntS v.1 hs.1) | simp)
theorem con_eqBodyS (v:T_BodyS) (hs:smS s_BodyS v):Con Try.prog 18 0 [] [.p (.seq true 2 v.1 (fun i=>[.seq true 1 ((v.2 i).1.1) (fun i1=>[.int .i64 ((v.2 i).1.2 i1)]),.int .i64 ((v.2 i).2.1)])),.p (.seq true 2 v.1 (fun i=>[.seq true 1 ((v.2 i).1.1) (fun i1=>[.int .i64 ((v.2 i).1.2 i1)]),.int .i64 ((v.2 i).2.1)]))] [] (.p (.bool true)):=by
  refine con_start Try.func18 rfl (by kernel_rfl) rfl (fun c hc=>?_)
  have hn:=hs.1
  have lp:∀ m k,k+m=v.1→Run Try.prog c 18 zf38 (S_eqBodyS v k) (Post c [] (.p (.bool true))):=by
    intro m
    induction m with
    | zero =>
      intro k hk
      refine path_ok mixed Try.func18 hc (p_eqBodyS_c v k) ?_
      repeat' (first | exact aN | apply aI)
      all_goals (first | omega | rfl | (intros;first | assumption | exact trivial | rfl | exact fT ‹_› | ((repeat' (first | assumption | apply anda | apply notf));done)) | (simp;try omega))
    | succ m ih =>
      intro k hk
      have hlt:decide ((k:Int)<(v.1:Int))=true:=by simp;omega
      refine piece_ok mixed hc (p_eqBodyS_b v k) ?_ (ih (k+1) (by omega))
      repeat' (first | exact aN | apply aI)
      all_goals (first | exact aP _ _ | omega | rfl | (intros;first | assumption | exact trivial | rfl | exact fT ‹_› | ((repeat' (first | assumption | apply anda | apply notf));done)) | (exact con_eqBody (v.2 k) (hs.2 k (by omega))) | simp)
  refine piece_ok mixed hc (p_eqBodyS_a v) ?_ (lp v.1 0 (by omega))
  repeat' (first | exact aN | apply aI)
  all_goals (first | exact aP _ _ | omega | rfl | (intros;first | assumption | exact trivial | rfl | exact fT ‹_› | ((repeat' (first | assumption | apply anda | apply notf));done)) | simp)
end Go.Proofs.Ytffnfeefjdmifaa.Mach
namespace Go.Proofs.Ytffnfeefjdmifaa.Mach
open Go
set_option linter.unusedVariables false
set_option linter.unusedSimpArgs false
def kB (L:Nat→Nat) (m:Int):Nat→Int
  | 0=>m
  | i+1=>kB L m i+(L i:Int)+1
def bTb (c:Nat) (C:Nat→T_IntS):Ob:=⟨true,0,c,fun i=>[.p (.seq true 1 (C i).1 (fun s=>[.int .i64 ((C i).2 s)]))]⟩
def bkO (m:Int) (c:Nat) (C:Nat→T_IntS) (K:Nat→Nat) (j:Nat):Ob:=⟨false,2,c,fun i=>[.ar 1 ⟨1,some i⟩ 0 (C i).1,.p (.int .i64 (if i<j then kB (fun i=>(C i).1) m i+((C i).1:Int) else (K i:Int)))]⟩
def bkF (m:Int) (c:Nat) (C:Nat→T_IntS) (j:Nat):Ob:=⟨true,0,c,fun i=>[.p (.seq false 1 (C i).1 (fun s=>[.int .i64 (if i<j then kB (fun i=>(C i).1) m i+(s:Int) else (C i).2 s)]))]⟩
def bnO (m:Int) (c:Nat) (C:Nat→T_IntS):Ob:=⟨false,2,c,fun i=>[.ar 1 ⟨1,some i⟩ 0 (C i).1,.p (.int .i64 (kB (fun i=>(C i).1) m i+((C i).1:Int)))]⟩
def bnF (m:Int) (c:Nat) (C:Nat→T_IntS):Ob:=⟨true,0,c,fun i=>[.p (.seq false 1 (C i).1 (fun s=>[.int .i64 (kB (fun i=>(C i).1) m i+(s:Int))]))]⟩
def SMb (m:Int) (c:Nat) (C:Nat→T_IntS) (K:Nat→Nat) (j:Nat):St :=
  ⟨[.ar 2 0 0 c,.p (.int .i64 (kB (fun i=>(C i).1) m j)),.p .any,.p .any,.p .any,.p (.int .i64 j)]++List.replicate 21 anyA,[(0,bkO m c C K j),(1,bkF m c C j)],2⟩
def SHb (L:Nat→Nat) (m:Int) (c j:Nat):St :=
  ⟨[.p (.seq true 2 c (fun i=>[.seq true 1 (L i) (fun s=>[.int .i64 (kB L m i+(s:Int))]),.int .i64 (kB L m i+(L i:Int))])),.p (.int .i64 (kB L m j)),.p .any,.p .any,.p .any,.p (.int .i64 j)]++List.replicate 25 anyA,[],0⟩
theorem bMa (m:Int) (c:Nat) (C:Nat→T_IntS) (K:Nat→Nat) :
    pieceOb Try.prog 2 [rg 1,rg 1,.head] [.code (bodyOf Try.f21)] (start Try.f21 [(0,boOb 1 c C K),(1,bTb c C)] 2 [.ar 2 0 0 c,.p (.int .i64 m)]) [0,1] 1 (SMb m c C K 0) =
    some (zf45,[(AN 0),(AN c),((m:Int)=(kB (fun i=>(C i).1) m 0)),((0:Int)=(↑0:Int)),(AN 2),(NL c c),(∀ i:Nat,(((i:Nat)<c)→(All []∧(([.ar 1 ⟨1,some i⟩ 0 ((C i).1),.p (.int .i64 (↑(K i):Int))]:List AV)=[.ar 1 ⟨1,some i⟩ 0 ((C i).1),.p (.int .i64 (if i<0 then kB (fun i=>(C i).1) m i+(↑(C i).1:Int) else (↑(K i):Int)))])))),(NL c c),(∀ i:Nat,(((i:Nat)<c)→All [(AN 1),((((C i).1):Nat)≤((C i).1)),(∀ r:Nat,(((r:Nat)<((C i).1))→(([.int .i64 ((C i).2 r)]:List PV)=[.int .i64 (if i<0 then kB (fun i=>(C i).1) m i+(↑r:Int) else (C i).2 r)])))]))]):=by kernel_rfl
theorem bMb (m:Int) (c:Nat) (C:Nat→T_IntS) (K:Nat→Nat) (j:Nat) :
    pieceOb Try.prog 2 [rg 4,.dec true,rm [(6,oq [⟨1,some j⟩] [(0,⟨false,1,(C j).1,fun i=>[.p (.int .i64 (kB (fun i=>(C i).1) m j+(i:Int)))]⟩)] (.p (.int .i64 (kB (fun i=>(C i).1) m j+((C j).1:Int)))))] 1,rg 6,rg 3,rg 3,.head] zf45 (SMb m c C K j) [0,1] 1 (SMb m c C K (j+1)) =
    some (zf45,[((decide ((↑j:Int)<(↑c:Int)))=true),(IL 0 (↑j:Int)),(IT (↑j:Int) (↑c:Int)),(NT j c),(NT j c),(AE (((C j).1))),(AN j),Con Try.prog 55 1 [(0,⟨false,1,((C j).1),(fun i=>[.p (.int .i64 (if j<j then kB (fun i=>(C i).1) m j+(↑i:Int) else (C j).2 i))])⟩)] [.ar 1 0 0 ((C j).1),.p (.int .i64 (kB (fun i=>(C i).1) m j))] [(0,⟨false,1,((C j).1),(fun i=>[.p (.int .i64 (kB (fun i=>(C i).1) m j+(↑i:Int)))])⟩)] (.p (.int .i64 (kB (fun i=>(C i).1) m j+(↑(C j).1:Int)))),(IL 0 (↑j:Int)),(IT (↑j:Int) (↑c:Int)),(NT j c),((false=true)→ ((c:Nat)=1)),(R0 (kB (fun i=>(C i).1) m j+(↑(C j).1:Int)+1)),(R1 (kB (fun i=>(C i).1) m j+(↑(C j).1:Int)+1)),(R0 ((↑j:Int)+1)),(R1 ((↑j:Int)+1)),(AN 0),(AN c),(((kB (fun i=>(C i).1) m j+(↑(C j).1:Int)+1):Int)=(kB (fun i=>(C i).1) m (j+1))),((((↑j:Int)+1):Int)=(↑(j+1):Int)),(AN 2),(NL c c),(CV [(0,⟨false,2,c,(fun i_1=>(if (i_1=j) then [.ar 1 ⟨1,some j⟩ 0 ((C j).1),.p (.int .i64 (kB (fun i=>(C i).1) m j+(↑(C j).1:Int)))] else [.ar 1 ⟨1,some i_1⟩ 0 ((C i_1).1),.p (.int .i64 (if i_1<j then kB (fun i=>(C i).1) m i_1+(↑(C i_1).1:Int) else (↑(K i_1):Int)))]))⟩),(1,⟨true,0,c,(fun i_1=>(if (i_1=j) then [.p (.seq false 1 ((C j).1) (fun i_2=>[.int .i64 (kB (fun i=>(C i).1) m j+(↑i_2:Int))]))] else [.p (.seq false 1 ((C i_1).1) (fun i_2=>[.int .i64 (if i_1<j then kB (fun i=>(C i).1) m i_1+(↑i_2:Int) else (C i_1).2 i_2)]))]))⟩)] [0,1] 1 c (fun i=>if (i=j) then [.ar 1 ⟨1,some j⟩ 0 ((C j).1),.p (.int .i64 (kB (fun i=>(C i).1) m j+(↑(C j).1:Int)))] else [.ar 1 ⟨1,some i⟩ 0 ((C i).1),.p (.int .i64 (if i<j then kB (fun i=>(C i).1) m i+(↑(C i).1:Int) else (↑(K i):Int)))]) (fun i=>[.ar 1 ⟨1,some i⟩ 0 ((C i).1),.p (.int .i64 (if i<j+1 then kB (fun i=>(C i).1) m i+(↑(C i).1:Int) else (↑(K i):Int)))])),(NL c c),(∀ i:Nat,(((i:Nat)<c)→All (famE (if (i=j) then [.p (.seq false 1 ((C j).1) (fun i_1=>[.int .i64 (kB (fun i=>(C i).1) m j+(↑i_1:Int))]))] else [.p (.seq false 1 ((C i).1) (fun i_1=>[.int .i64 (if i<j then kB (fun i=>(C i).1) m i+(↑i_1:Int) else (C i).2 i_1)]))]) [.p (.seq false 1 ((C i).1) (fun i_1=>[.int .i64 (if i<j+1 then kB (fun i=>(C i).1) m i+(↑i_1:Int) else (C i).2 i_1)]))])))]):=by kernel_rfl
theorem bMd (m:Int) (c:Nat) (C:Nat→T_IntS) (K:Nat→Nat) (j:Nat) :
    pathOb Try.prog Try.f21 2 [rg 4,.dec false,rg 2] zf45 (SMb m c C K j) [0,1] 1 [(0,bnO m c C),(1,bnF m c C)] (.p (.int .i64 (kB (fun i=>(C i).1) m c))) =
    some [((decide ((↑j:Int)<(↑c:Int)))=false),(((kB (fun i=>(C i).1) m j):Int)=(kB (fun i=>(C i).1) m c)),(AN 2),(NL c c),(∀ i:Nat,(((i:Nat)<c)→(All []∧(([.ar 1 ⟨1,some i⟩ 0 ((C i).1),.p (.int .i64 (if i<j then kB (fun i=>(C i).1) m i+(↑(C i).1:Int) else (↑(K i):Int)))]:List AV)=[.ar 1 ⟨1,some i⟩ 0 ((C i).1),.p (.int .i64 (kB (fun i=>(C i).1) m i+(↑(C i).1:Int)))])))),(NL c c),(∀ i:Nat,(((i:Nat)<c)→All [(AN 1),((((C i).1):Nat)≤((C i).1)),(∀ r:Nat,(((r:Nat)<((C i).1))→(([.int .i64 (if i<j then kB (fun i=>(C i).1) m i+(↑r:Int) else (C i).2 r)]:List PV)=[.int .i64 (kB (fun i=>(C i).1) m i+(↑r:Int))])))])),(AE c),(∀ i:Nat,(((i:Nat)<c)→All [(false=false),(AE (((C i).1)))]))]:=by kernel_rfl
theorem bHa (L:Nat→Nat) (m:Int) (c:Nat) :
    pieceOb Try.prog 0 [rg 1,rg 1,.head] [.code (bodyOf Try.f22)] (start Try.f22 [] 0 [.p (.seq true 2 c (fun i=>[.seq true 1 (L i) (fun s=>[.int .i64 (kB L m i+(s:Int))]),.int .i64 (kB L m i+(L i:Int))])),.p (.int .i64 m)]) [] 1 (SHb L m c 0) =
    some (zf46,[(AN c),(AP c (fun i=>[.seq true 1 (L i) (fun i_1=>[.int .i64 (kB L m i+(↑i_1:Int))]),.int .i64 (kB L m i+(↑(L i):Int))])),((m:Int)=(kB L m 0)),((0:Int)=(↑0:Int))]):=by kernel_rfl
theorem bHb (L:Nat→Nat) (m:Int) (c j:Nat) :
    pieceOb Try.prog 0 [rg 4,.dec true,rm [(6,oc [] (.p (.int .i64 (kB L m j+(L j:Int)))))] 1,rg 2,.dec false,rg 7,.dec false,rg 3,rg 3,.head] zf46 (SHb L m c j) [] 1 (SHb L m c (j+1)) =
    some (zf46,[((decide ((↑j:Int)<(↑c:Int)))=true),(IL 0 (↑j:Int)),(IT (↑j:Int) (↑c:Int)),Con Try.prog 56 0 [] [.p (.seq true 1 (L j) (fun i=>[.int .i64 (kB L m j+(↑i:Int))])),.p (.int .i64 (kB L m j))] [] (.p (.int .i64 (kB L m j+(↑(L j):Int)))),((decide (kB L m j+(↑(L j):Int)<0))=false),(IL 0 (↑j:Int)),(IT (↑j:Int) (↑c:Int)),((kB L m j+(↑(L j):Int) != kB L m j+(↑(L j):Int))=false),(R0 (kB L m j+(↑(L j):Int)+1)),(R1 (kB L m j+(↑(L j):Int)+1)),(R0 ((↑j:Int)+1)),(R1 ((↑j:Int)+1)),(AN c),(AP c (fun i=>[.seq true 1 (L i) (fun i_1=>[.int .i64 (kB L m i+(↑i_1:Int))]),.int .i64 (kB L m i+(↑(L i):Int))])),(((kB L m j+(↑(L j):Int)+1):Int)=(kB L m (j+1))),((((↑j:Int)+1):Int)=(↑(j+1):Int))]):=by kernel_rfl
theorem bHc (L:Nat→Nat) (m:Int) (c j:Nat) :
    pathOb Try.prog Try.f22 0 [rg 4,.dec false,rg 2] zf46 (SHb L m c j) [] 1 [] (.p (.int .i64 (kB L m j))) =
    some [((decide ((↑j:Int)<(↑c:Int)))=false),(AI ((kB L m j)))]:=by kernel_rfl
theorem lBd0 (v:T_Graph) :
    pathOb Try.prog Try.f4 0 [rg 2,rg 1,rm [(2,oc [] (.p (.int .i64 (f_szGraph v 1048576))))] 1,rg 2,.dec true,rg 1] [.code (bodyOf Try.f4)] (start Try.f4 [] 0 [graphA v]) [] 1 [] (.p (.bool true)) =
    some [(NT 0 1),Con Try.prog 14 0 [] [(zf49 v),.p (.int .i64 1048576)] [] (.p (.int .i64 (f_szGraph v 1048576))),((decide (f_szGraph v 1048576<0))=true),(true=true)]:=by kernel_rfl
theorem lBd (v:T_Graph) (c:Nat) (C:Nat→T_IntS) (K:Nat→Nat) :
    pathOb Try.prog Try.f4 0 [rg 2,rg 1,rm [(2,oc [] (.p (.int .i64 (f_szGraph v 1048576))))] 1,rg 2,.dec false,rm [(1,oc (zf54 v) (.agg [.p (.int .i64 v.1),.ar 2 0 0 v.2.1.1])),(0,oc [(0,bsOb c C K)] (.ar 2 0 0 c))] 1,rm [(1,oc (zf54 v) (.agg [.p (.int .i64 v.1),.ar 2 0 0 v.2.1.1]))] 2,rm [(1,oc [(0,boOb 1 c C K),(1,cfOb c C)] (.ar 2 0 0 c))] 1,rm [(2,⟨true,(some ⟨[],[],[577],2,[],.p (.bool true)⟩),none⟩)] 1,.dec false,rm [(2,oc (zf54 v) (.agg [.p (.int .i64 v.1),.ar 2 0 0 v.2.1.1])),(0,oc [] (.p (.bool true)))] 1,.dec false,rg 1,rm [(2,oq [448] [(0,⟨false,2,v.2.1.1,fun i=>[.p (.int .i64 (1+2*(i:Int))),.p (.int .i64 (1+2*(i:Int)+1))]⟩)] (.p (.int .i64 (1+2*(v.2.1.1:Int)))))] 1,rm [(5,⟨true,(some ⟨[],[],[577],2,[],.p (.bool true)⟩),none⟩)] 2,.dec false,rg 1,rm [(2,oq [576,577] [(0,bnO 1 c C),(1,bnF 1 c C)] (.p (.int .i64 (kB (fun i=>(C i).1) 1 c))))] 1,rg 1,rm [(2,⟨true,(some ⟨[],[],[577],2,[],.p (.int .i64 (kB (fun i=>(C i).1) 1 c))⟩),none⟩)] 1,rg 2,.dec false,rg 3,.dec false,rm [(1,oc (zf54 v) (.agg [.p (.int .i64 v.1),.ar 2 0 0 v.2.1.1])),(0,oc [(0,boOb 1 c C K),(1,cfOb c C)] (.ar 2 0 0 c))] 1,rm [(2,⟨true,(some ⟨[],[],[1889],2,[],.p (.bool true)⟩),none⟩)] 1,.dec false,rg 1,rm [(2,⟨true,(some ⟨[],[],[577],2,[],.p (.int .i64 (kB (fun i=>(C i).1) 1 c))⟩),none⟩)] 1,rg 2,.dec false,rg 3,.dec false,rg 1] [.code (bodyOf Try.f4)] (start Try.f4 [] 0 [graphA v]) [] 1 [] (.p (.bool true)) =
    some [(NT 0 1),Con Try.prog 14 0 [] [(zf49 v),.p (.int .i64 1048576)] [] (.p (.int .i64 (f_szGraph v 1048576))),((decide (f_szGraph v 1048576<0))=false),(NT 0 1),Con Try.prog 16 0 [] [(zf49 v)] (zf53 v) (.agg [.p (.int .i64 v.1),.ar 2 0 0 v.2.1.1]),(AN 2),(NL v.2.1.1 v.2.1.1),Con Try.prog 15 0 [] [(zf49 v)] [(0,⟨false,2,c,(fun i=>[.p (.seq false 1 ((C i).1) (fun i_1=>[.int .i64 ((C i).2 i_1)])),.p (.int .i64 (↑(K i):Int))])⟩)] (.ar 2 0 0 c),(NT 0 1),Con Try.prog 16 0 [] [(zf49 v)] (zf53 v) (.agg [.p (.int .i64 v.1),.ar 2 0 0 v.2.1.1]),(NT 0 1),((true=true)→ (AN 1)),(NT 0 1),(AN 2),(NL v.2.1.1 v.2.1.1),Con Try.prog 17 0 [] [(zf49 v)] [(0,⟨false,2,c,(fun i=>[.ar 1 ⟨1,some i⟩ 0 ((C i).1),.p (.int .i64 (↑(K i):Int))])⟩),(1,⟨true,0,c,(fun i=>[.p (.seq false 1 ((C i).1) (fun i_1=>[.int .i64 ((C i).2 i_1)]))])⟩)] (.ar 2 0 0 c),(AN 2),(NL c c),(∀ i:Nat,(((i:Nat)<c)→All [((i:Nat)<c),(AN 1),((((C i).1):Nat)≤((C i).1))])),(AN 2),(NL c c),(AE c),Con Try.prog 18 0 [] [.p (.seq true 2 c (fun i=>[.seq true 1 ((C i).1) (fun i_1=>[.int .i64 ((C i).2 i_1)]),.int .i64 (↑(K i):Int)])),.p (.seq true 2 c (fun i=>[.seq true 1 ((C i).1) (fun i_1=>[.int .i64 ((C i).2 i_1)]),.int .i64 (↑(K i):Int)]))] [] (.p (.bool true)),((!true)=false),(NT 0 1),(NT 0 1),Con Try.prog 16 0 [] [(zf49 v)] (zf53 v) (.agg [.p (.int .i64 v.1),.ar 2 0 0 v.2.1.1]),(AN 2),(NL v.2.1.1 v.2.1.1),(AN 2),(NL v.2.1.1 v.2.1.1),Con Try.prog 19 0 [] [(zf49 v),(zf49 v)] [] (.p (.bool true)),((!true)=false),(NT 0 1),(AE v.2.1.1),Con Try.prog 20 1 (zf53 v) [.agg [.p (.int .i64 v.1),.ar 2 0 0 v.2.1.1],.p (.int .i64 1)] [(0,⟨false,2,v.2.1.1,(fun i=>[.p (.int .i64 (1+2*(↑i:Int))),.p (.int .i64 (1+2*(↑i:Int)+1))])⟩)] (.p (.int .i64 (1+2*(↑v.2.1.1:Int)))),(AG (!decide (1+2*(↑v.2.1.1:Int)<0))),(AG (!decide (1+2*(↑v.2.1.1:Int)<0))),(((!decide (1+2*(↑v.2.1.1:Int)<0))=true)→ (AN 2)),(((!decide (1+2*(↑v.2.1.1:Int)<0))=true)→(NL c c)),(((!decide (1+2*(↑v.2.1.1:Int)<0))=true)→ (∀ i:Nat,(((i:Nat)<c)→All [((i:Nat)<c),(AN 1),((((C i).1):Nat)≤((C i).1))]))),(((!decide (1+2*(↑v.2.1.1:Int)<0))=true)→ (AN 2)),(((!decide (1+2*(↑v.2.1.1:Int)<0))=true)→(NL c c)),(((!decide (1+2*(↑v.2.1.1:Int)<0))=true)→ (AE c)),(((!decide (1+2*(↑v.2.1.1:Int)<0))=true)→ Con Try.prog 18 0 [] [.p (.seq true 2 c (fun i=>[.seq true 1 ((C i).1) (fun i_1=>[.int .i64 ((C i).2 i_1)]),.int .i64 (↑(K i):Int)])),.p (.seq true 2 c (fun i=>[.seq true 1 ((C i).1) (fun i_1=>[.int .i64 ((C i).2 i_1)]),.int .i64 (↑(K i):Int)]))] [] (.p (.bool true))),(AG (!decide (1+2*(↑v.2.1.1:Int)<0))),(((decide (1+2*(↑v.2.1.1:Int)<0))=false)→ ((!decide (1+2*(↑v.2.1.1:Int)<0))=true)),((bif decide (1+2*(↑v.2.1.1:Int)<0) then true else !true)=false),(AE c),Con Try.prog 21 2 [(0,⟨false,2,c,(fun i=>[.ar 1 ⟨1,some i⟩ 0 ((C i).1),.p (.int .i64 (↑(K i):Int))])⟩),(1,⟨true,0,c,(fun i=>[.p (.seq true 1 ((C i).1) (fun i_1=>[.int .i64 ((C i).2 i_1)]))])⟩)] [.ar 2 0 0 c,.p (.int .i64 1)] [(0,⟨false,2,c,(fun i=>[.ar 1 ⟨1,some i⟩ 0 ((C i).1),.p (.int .i64 (kB (fun i=>(C i).1) 1 i+(↑(C i).1:Int)))])⟩),(1,⟨true,0,c,(fun i=>[.p (.seq false 1 ((C i).1) (fun i_1=>[.int .i64 (kB (fun i=>(C i).1) 1 i+(↑i_1:Int))]))])⟩)] (.p (.int .i64 (kB (fun i=>(C i).1) 1 c))),(AN 2),(NL c c),(∀ i:Nat,(((i:Nat)<c)→All [((i:Nat)<c),(AN 1),((((C i).1):Nat)≤((C i).1))])),Con Try.prog 22 0 [] [.p (.seq true 2 c (fun i=>[.seq true 1 ((C i).1) (fun i_1=>[.int .i64 (kB (fun i=>(C i).1) 1 i+(↑i_1:Int))]),.int .i64 (kB (fun i=>(C i).1) 1 i+(↑(C i).1:Int))])),.p (.int .i64 1)] [] (.p (.int .i64 (kB (fun i=>(C i).1) 1 c))),((decide (kB (fun i=>(C i).1) 1 c<0))=false),((kB (fun i=>(C i).1) 1 c != kB (fun i=>(C i).1) 1 c)=false),(NT 0 1),Con Try.prog 16 0 [] [(zf49 v)] (zf53 v) (.agg [.p (.int .i64 v.1),.ar 2 0 0 v.2.1.1]),(AN 2),(NL v.2.1.1 v.2.1.1),Con Try.prog 17 0 [] [(zf49 v)] [(0,⟨false,2,c,(fun i=>[.ar 1 ⟨1,some i⟩ 0 ((C i).1),.p (.int .i64 (↑(K i):Int))])⟩),(1,⟨true,0,c,(fun i=>[.p (.seq false 1 ((C i).1) (fun i_1=>[.int .i64 ((C i).2 i_1)]))])⟩)] (.ar 2 0 0 c),(AN 2),(NL c c),(∀ i:Nat,(((i:Nat)<c)→All [((i:Nat)<c),(AN 1),((((C i).1):Nat)≤((C i).1))])),(AN 2),(NL c c),(AE c),Con Try.prog 18 0 [] [.p (.seq true 2 c (fun i=>[.seq true 1 ((C i).1) (fun i_1=>[.int .i64 ((C i).2 i_1)]),.int .i64 (↑(K i):Int)])),.p (.seq true 2 c (fun i=>[.seq true 1 ((C i).1) (fun i_1=>[.int .i64 ((C i).2 i_1)]),.int .i64 (↑(K i):Int)]))] [] (.p (.bool true)),((!true)=false),(AN 2),(NL c c),(∀ i:Nat,(((i:Nat)<c)→All [((i:Nat)<c),(AN 1),((((C i).1):Nat)≤((C i).1))])),Con Try.prog 22 0 [] [.p (.seq true 2 c (fun i=>[.seq true 1 ((C i).1) (fun i_1=>[.int .i64 (kB (fun i=>(C i).1) 1 i+(↑i_1:Int))]),.int .i64 (kB (fun i=>(C i).1) 1 i+(↑(C i).1:Int))])),.p (.int .i64 1)] [] (.p (.int .i64 (kB (fun i=>(C i).1) 1 c))),((decide (kB (fun i=>(C i).1) 1 c<0))=false),((kB (fun i=>(C i).1) 1 c != kB (fun i=>(C i).1) 1 c)=false),(true=true)]:=by kernel_rfl
theorem kB_b (L:Nat→Nat) (m:Int) (c:Nat) (hL:∀ i,i<c→L i≤8) (h0:0≤m):∀ j,j≤c→m≤kB L m j∧kB L m j≤m+9*(j:Int)
  | 0,_=>by simp [kB]
  | j+1,h=>by
    obtain ⟨h1,h2⟩:=kB_b L m c hL h0 j (by omega)
    have:=hL j (by omega)
    simp only [kB]
    omega
theorem con_markBs (m:Int) (c:Nat) (C:Nat→T_IntS) (K:Nat→Nat) (hL:∀ i,i<c→(C i).1≤8) (h0:0≤m) (h1:m≤1048576) (hc1:c≤24) :
    Con Try.prog 21 2 [(0,boOb 1 c C K),(1,bTb c C)] [.ar 2 0 0 c,.p (.int .i64 m)] [(0,bnO m c C),(1,bnF m c C)] (.p (.int .i64 (kB (fun i=>(C i).1) m c))):=by
  refine con_start Try.func21 rfl (by kernel_rfl) rfl (fun c' hc=>?_)
  have hk:=kB_b (fun i=>(C i).1) m c hL h0
  have lo:∀ d j,j+d=c→Run Try.prog c' 21 zf45 (SMb m c C K j) (Post c' [(0,bnO m c C),(1,bnF m c C)] (.p (.int .i64 (kB (fun i=>(C i).1) m c)))):=by
    intro d
    induction d with
    | zero =>
      intro j hj
      obtain rfl:j=c:=by omega
      have hd:decide ((j:Int)<(j:Int))=false:=by simp
      refine path_ok mixed Try.func21 hc (bMd m j C K j) ?_
      repeat' (first | exact aN | apply aI)
      all_goals (first | exact aE _ | omega | rfl | (intros;first | assumption | exact trivial | rfl | exact fT ‹_› | ((repeat' (first | assumption | apply anda | apply notf));done)) | (exact hd) | (intro i hi;simp [hi,famE,All]))
    | succ d ih =>
      intro j hj
      have hd:decide ((j:Int)<(c:Int))=true:=by simp;omega
      obtain ⟨b1,b2⟩:=hk j (by omega)
      have hj1:=hL j (by omega)
      have hm:=con_markIntS ((C j).1,fun s=>if j<j then kB (fun i=>(C i).1) m j+(s:Int) else (C j).2 s) (kB (fun i=>(C i).1) m j) (by show (C j).1≤1048576;omega) (by omega) (by omega)
      refine piece_ok mixed hc (bMb m c C K j) ?_ (ih (j+1) (by omega))
      repeat' (first | exact aN | apply aI)
      all_goals (first | exact aE _ | omega | rfl | (intros;first | assumption | exact trivial | rfl | exact fT ‹_› | ((repeat' (first | assumption | apply anda | apply notf));done)) | (exact hd) | (exact hm) | (intro i hi;by_cases h:i=j<;>(simp [h,Nat.lt_succ_iff_lt_or_eq,cvtL,cvt,idx,idx1,tg,tru,All];done)) | (intro i hi;by_cases h:i=j<;>(simp [h,Nat.lt_succ_iff_lt_or_eq,famE,tab,toP,All];done)))
  refine piece_ok mixed hc (bMa m c C K) ?_ (lo c 0 (by omega))
  repeat' (first | exact aN | apply aI)
  all_goals (first | omega | rfl | (intros;first | assumption | exact trivial | rfl | exact fT ‹_› | ((repeat' (first | assumption | apply anda | apply notf));done)) | (intro i hi;simp [famE,All]))
theorem con_heldBs (L:Nat→Nat) (m:Int) (c:Nat) (hL:∀ i,i<c→L i≤8) (h0:0≤m) (h1:m≤1048576) (hc1:c≤24) :
    Con Try.prog 22 0 [] [.p (.seq true 2 c (fun i=>[.seq true 1 (L i) (fun s=>[.int .i64 (kB L m i+(s:Int))]),.int .i64 (kB L m i+(L i:Int))])),.p (.int .i64 m)] [] (.p (.int .i64 (kB L m c))):=by
  refine con_start Try.func22 rfl (by kernel_rfl) rfl (fun c' hc=>?_)
  have hk:=kB_b L m c hL h0
  have lo:∀ d j,j+d=c→Run Try.prog c' 22 zf46 (SHb L m c j) (Post c' [] (.p (.int .i64 (kB L m c)))):=by
    intro d
    induction d with
    | zero =>
      intro j hj
      obtain rfl:j=c:=by omega
      have hd:decide ((j:Int)<(j:Int))=false:=by simp
      refine path_ok mixed Try.func22 hc (bHc L m j j) ?_
      repeat' (first | exact aN | apply aI)
      all_goals (first | omega | rfl | (intros;first | assumption | exact trivial | rfl | exact fT ‹_› | ((repeat' (first | assumption | apply anda | apply notf));done)) | (exact hd))
    | succ d ih =>
      intro j hj
      have hd:decide ((j:Int)<(c:Int))=true:=by simp;omega
      obtain ⟨b1,b2⟩:=hk j (by omega)
      have hj1:=hL j (by omega)
      have hm:=con_heldIntS (L j) (kB L m j) (by omega) (by omega) (by omega)
      have hneg:decide (kB L m j+(L j:Int)<0)=false:=by simp;omega
      refine piece_ok mixed hc (bHb L m c j) ?_ (ih (j+1) (by omega))
      repeat' (first | exact aN | apply aI)
      all_goals (first | exact aP _ _ | omega | rfl | (intros;first | assumption | exact trivial | rfl | exact fT ‹_› | ((repeat' (first | assumption | apply anda | apply notf));done)) | (exact hd) | (exact hm) | (simp;done) | (exact hneg))
  refine piece_ok mixed hc (bHa L m c) ?_ (lo c 0 (by omega))
  repeat' (first | exact aN | apply aI)
  all_goals (first | exact aP _ _ | omega | rfl | (intros;first | assumption | exact trivial | rfl | exact fT ‹_› | ((repeat' (first | assumption | apply anda | apply notf));done)))
theorem con_law_FnExactBodiesOf (v:T_Graph) (k0:okS s_Graph v):Con Try.prog 4 0 [] [graphA v] [] (.p (.bool true)):=by
  refine con_start Try.func4 rfl (by kernel_rfl) rfl (fun c hc=>?_)
  have l0:=le_szGraph v 1048576 (by omega)
  by_cases g0:(f_szGraph v 1048576)<0
  · refine path_ok mixed Try.func4 hc (lBd0 v) ?_
    repeat' (first | exact aN | apply aI)
    all_goals (first | omega | rfl | (intros;first | assumption | exact trivial | rfl | exact fT ‹_› | ((repeat' (first | assumption | apply anda | apply notf));done)) | (exact con_szGraph v k0 _ (by omega) (by omega)) | (simp;omega))
  have hs0:=sm_szGraph v 1048576 (by omega) (by omega) g0
  obtain ⟨h1,h2⟩:=compsG_le v
  have hs:=con_BodiesOf_s v hs0
  have hi:=con_BodiesOf_i v hs0
  generalize barK v=K at hs hi
  generalize (compsG v).1=cn at h1 h2 hs hi
  generalize (compsG v).2=C at h2 hs hi
  have he:=con_eqBodyS (cn,fun i=>(C i,(K i:Int),())) ⟨by show cn≤1048576;omega,fun i hi=>⟨⟨by show (C i).1≤1048576;have:=h2 i hi;omega,fun s hs=>by simp [smS,smL]⟩,trivial,trivial⟩⟩
  have hm:=con_markBs 1 cn C K h2 (by omega) (by omega) h1
  have hh:=con_heldBs (fun i=>(C i).1) 1 cn h2 (by omega) (by omega) h1
  obtain ⟨b1,b2⟩:=kB_b (fun i=>(C i).1) 1 cn h2 (by omega) cn (Nat.le_refl _)
  have hneg:decide (kB (fun i=>(C i).1) 1 cn<0)=false:=by simp;omega
  have n_0:v.2.1.1≤1048576:=hs0.2.1.1
  refine path_ok mixed Try.func4 hc (lBd v cn C K) ?_
  repeat' (first | exact aN | apply aI)
  all_goals (first | exact aG _ | exact aE _ | omega | rfl | (intros;first | assumption | exact trivial | rfl | exact fT ‹_› | ((repeat' (first | assumption | apply anda | apply notf));done)) | (exact con_szGraph v k0 _ (by omega) (by omega)) | (exact con_toGraph v hs0) | (exact hs) | (exact hi) | (intros;exact he) | (exact hm) | (exact hh) | (exact hneg) | (intros;exact con_eqGraph v hs0) | (intros;exact con_markGraph v _ hs0.2.1.1 (by omega) (by omega)) | (intro i hi;simp [hi,All];done) | (intro _ i hi;simp [hi,All];done) | (simp;try omega))
end Go.Proofs.Ytffnfeefjdmifaa.Mach
