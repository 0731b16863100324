/- What the law Tg needs, part 6 of 6: the abstract machine and the contracts of the functions. Conditions: as each theorem says. -/
import Derived.Test.YtkkjoghiigiokaaGreatTgP5
namespace Go.Proofs.YtkkjoghiigiokaaGreat.Mach
open Go
set_option linter.unusedVariables false
set_option linter.unusedSimpArgs false
theorem con_FLoose_i (g:Nat→T_Bar) (nb:Nat) (N:Int) (pl:Nat→T_Place) (np:Nat) (K:T_IntS) (hn:nb≤1048576∧np≤1048576) (hK:K.1≤1048576) :
    Con Tryz.prog 154 0 [] [tsA g nb N pl np K] [(0,iOb (flmF g nb N pl np K).2.1 (flmF g nb N pl np K).2.2)] (.tup [.ar 1 0 0 (flmF g nb N pl np K).2.1,.p (.bool (flmF g nb N pl np K).1)]):=by
  have c1:=con_IsTensegrity_i g nb N pl np K hn hK
  unfold flmF
  cases ht:tsB g nb N pl np K with
  | false =>
    rw [ht] at c1
    rw [if_neg Bool.false_ne_true]
    refine csZ Tryz.func154 (fun c hc=>?_)
    refine pkZ Tryz.func154 hc (fmn g nb N pl np K) ?_
    repeat' (first | exact aN | apply aI)
    all_goals (first | exact aA _ _ | exact aE _ | omega | rfl | (intros;first | assumption | exact trivial | rfl) | (exact c1) | (intro t ht;exact absurd ht (Nat.not_lt_zero _)) | (intros;simp [All];done))
  | true =>
    rw [ht] at c1
    rw [if_pos rfl]
    obtain ⟨hk,hf⟩:=ts_len ht
    obtain ⟨n,rfl⟩:=fw_N hf
    obtain ⟨h1,h2,h3,h4,hok,hb⟩:=fw_ok hf
    rw [Int.toNat_natCast]
    have c2:=(con_FindMotion hf).1
    cases hm:(fmF g nb n pl np).2 with
    | true =>
      rw [hm] at c2
      rw [if_pos rfl]
      generalize (fmF g nb n pl np).1=r at *
      refine csZ Tryz.func154 (fun c hc=>?_)
      refine pkZ Tryz.func154 hc (fmy g nb n pl np K r.1 r.2) ?_
      repeat' (first | exact aN | apply aI)
      all_goals (first | exact aA _ _ | exact aE _ | omega | rfl | (intros;first | assumption | exact trivial | rfl) | (exact c1) | (exact c2) | (intros;simp [All];done))
    | false =>
      rw [hm] at c2
      rw [if_neg Bool.false_ne_true]
      generalize (fmF g nb n pl np).1=r at *
      refine csZ Tryz.func154 (fun c hc=>?_)
      generalize hR:fgoF g nb n pl np K nb 0=R
      have lo:∀ d i,i+d=nb→fgoF g nb n pl np K d i=R→Run Tryz.prog c 154 zf38 (Fm0 g nb n pl np K (flt (kbF K) i) i)
          (Post c [(0,iOb R.2.1 R.2.2)] (.tup [.ar 1 0 0 R.2.1,.p (.bool R.1)])):=by
        intro d
        induction d with
        | zero =>
          intro i hi hr
          obtain rfl:i=nb:=by omega
          have hd:decide ((i:Int)<(K.1:Int))=false:=decide_eq_false (by omega)
          have hfn:=flt_n (kbF K) i
          have cr:=con_TryC hf hK (flt (kbF K) i) (by omega) rfl (fun t ht=>rfl) (ob_sel (flt (kbF K) i) g i)
          rw [fgoF] at hr
          rw [hr] at cr
          refine pkZ Tryz.func154 hc (fmg2 g i n pl np K (flt (kbF K) i) i R.1 R.2.1 R.2.2) ?_
          repeat' (first | exact aN | apply aI)
          all_goals (first | exact aA _ _ | exact aE _ | omega | rfl | (intros;first | assumption | exact trivial | rfl) | (exact hd) | (exact cr) | (intros;simp [All];done))
        | succ d ih =>
          intro i hi hr
          have hd:decide ((i:Int)<(K.1:Int))=true:=decide_eq_true (by omega)
          have hfn:=flt_n (kbF K) i
          rw [fgoF] at hr
          cases hb:kbF K i with
          | true =>
            rw [hb,if_pos rfl] at hr
            have hb':(K.2 i==0)=true:=hb
            have hrec:=ih (i+1) (by omega) hr
            rw [flt_t hb] at hrec
            generalize flt (kbF K) i=B at *
            refine pcZ hc (fma2 g nb n pl np K B i) ?_ hrec
            repeat' (first | exact aN | apply aI)
            all_goals (first | exact aP _ _ | omega | rfl | (intros;first | assumption | exact trivial | rfl) | (exact hd) | (exact hb') | (intro t ht;by_cases h':t<B.1<;>(simp [h',cvtL,cvt,tg,tru,All];done)) | (intros;simp [All];done))
          | false =>
            rw [hb,if_neg Bool.false_ne_true] at hr
            have hb':(K.2 i==0)=false:=hb
            have hrec:fgoF g nb n pl np K d (i+1)=R→Run Tryz.prog c 154 zf38 (Fm0 g nb n pl np K (flt (kbF K) i) (i+1))
                (Post c [(0,iOb R.2.1 R.2.2)] (.tup [.ar 1 0 0 R.2.1,.p (.bool R.1)])):=fun h=>by
              have:=ih (i+1) (by omega) h
              rw [flt_f hb] at this
              exact this
            have hsk:=ob_skip (S:=flt (noF i) nb) (A:=g) (e:=i) (nb:=nb) (by omega) (fun j hj=>by rw [flt_has,decide_eq_true hj,Bool.true_and];rfl) nb (Nat.le_refl _)
            rw [if_neg (by omega)] at hsk
            have hfr:=flt_n (noF i) nb
            have cr:=con_TryC hf hK (flt (noF i) nb) (by omega) hsk.1 (fun t ht=>hsk.2 t (by rw [hsk.1];exact ht)) (dl_sel (g:=g) (by omega))
            generalize flt (kbF K) i=B at *
            have li:∀ e j,j+e=nb→Run Tryz.prog c 154 zf5 (Fm1 g nb n pl np K B i (flt (noF i) j) j) (Post c [(0,iOb R.2.1 R.2.2)] (.tup [.ar 1 0 0 R.2.1,.p (.bool R.1)])):=by
              intro e
              induction e with
              | zero =>
                intro j hj
                obtain rfl:j=nb:=by omega
                have hd2:decide ((j:Int)<(K.1:Int))=false:=decide_eq_false (by omega)
                generalize flt (noF i) j=S at *
                generalize tryR g j n pl np K (j - 1) (dlB g i)=t at *
                cases ht1:t.1 with
                | true =>
                  rw [ht1] at cr
                  rw [ht1,if_pos rfl] at hr
                  rw [← hr]
                  refine pkZ Tryz.func154 hc (fme2 g j n pl np K B i S j t.2.1 t.2.2) ?_
                  repeat' (first | exact aN | apply aI)
                  all_goals (first | exact aA _ _ | exact aE _ | omega | rfl | (intros;first | assumption | exact trivial | rfl) | (exact hd2) | (exact cr) | (intros;simp [All];done))
                | false =>
                  rw [ht1] at cr
                  rw [ht1,if_neg Bool.false_ne_true] at hr
                  refine pcZ hc (fmf2 g j n pl np K B i S j t.2.1 t.2.2) ?_ (hrec hr)
                  repeat' (first | exact aN | apply aI)
                  all_goals (first | exact aP _ _ | exact aA _ _ | exact aE _ | omega | rfl | (intros;first | assumption | exact trivial | rfl) | (exact hd2) | (exact cr) | (intros;simp [All];done))
              | succ e ihe =>
                intro j hj
                have hd2:decide ((j:Int)<(K.1:Int))=true:=decide_eq_true (by omega)
                have hfj:=flt_n (noF i) j
                have hr2:=ihe (j+1) (by omega)
                cases hno:noF i j with
                | true =>
                  have hno':(!((j:Int)==(i:Int)))=true:=hno
                  rw [flt_t hno] at hr2
                  generalize flt (noF i) j=S at *
                  refine pcZ hc (fmc2 g nb n pl np K B i S j) ?_ hr2
                  repeat' (first | exact aN | apply aI)
                  all_goals (first | exact aP _ _ | exact aA _ _ | omega | rfl | (intros;first | assumption | exact trivial | rfl) | (exact hd2) | (exact hno') | (intro t ht;by_cases h':t<S.1<;>(simp [h',cvtL,cvt,tg,tru,All];done)) | (intros;simp [All];done))
                | false =>
                  have hno':(!((j:Int)==(i:Int)))=false:=hno
                  rw [flt_f hno] at hr2
                  generalize flt (noF i) j=S at *
                  refine pcZ hc (fmd2 g nb n pl np K B i S j) ?_ hr2
                  repeat' (first | exact aN | apply aI)
                  all_goals (first | exact aP _ _ | exact aA _ _ | omega | rfl | (intros;first | assumption | exact trivial | rfl) | (exact hd2) | (exact hno') | (intros;simp [All];done))
            refine pcZ hc (fmb2 g nb n pl np K B i) ?_ (li nb 0 (by omega))
            repeat' (first | exact aN | apply aI)
            all_goals (first | exact aP _ _ | exact aA _ _ | omega | rfl | (intros;first | assumption | exact trivial | rfl) | (exact hd) | (exact hb') | (intro t ht;exact absurd ht (Nat.not_lt_zero _)) | (intros;simp [All];done) | (simp only [All];first | exact aP _ _ | exact aA _ _ | omega | rfl | (intros;first | assumption | exact trivial | rfl) | (exact hd) | (exact hb') | (intro t ht;exact absurd ht (Nat.not_lt_zero _)) | (intros;simp [All];done)))
      refine pcZ hc (fmz2 g nb n pl np K r.1 r.2) ?_ (lo nb 0 (by omega) hR)
      repeat' (first | exact aN | apply aI)
      all_goals (first | exact aP _ _ | omega | rfl | (intros;first | assumption | exact trivial | rfl) | (exact c1) | (exact c2) | (intro t ht;exact absurd ht (Nat.not_lt_zero _)) | (intros;simp [All];done) | (simp only [All];first | exact aP _ _ | omega | rfl | (intros;first | assumption | exact trivial | rfl) | (exact c1) | (exact c2) | (intro t ht;exact absurd ht (Nat.not_lt_zero _)) | (intros;simp [All];done)))
theorem con_FLoose_s (g:Nat→T_Bar) (nb:Nat) (N:Int) (pl:Nat→T_Place) (np:Nat) (K:T_IntS) (hn:nb≤1048576∧np≤1048576) (hK:K.1≤1048576) :
    Con Tryz.prog 150 0 [] [tsA g nb N pl np K] [(0,iOb (flmF g nb N pl np K).2.1 (flmF g nb N pl np K).2.2)] (.tup [.ar 1 0 0 (flmF g nb N pl np K).2.1,.p (.bool (flmF g nb N pl np K).1)]):=by
  have c1:=con_IsTensegrity_s g nb N pl np K hn hK
  unfold flmF
  cases ht:tsB g nb N pl np K with
  | false =>
    rw [ht] at c1
    rw [if_neg Bool.false_ne_true]
    refine csZ Tryz.func150 (fun c hc=>?_)
    refine pkZ Tryz.func150 hc (fnn g nb N pl np K) ?_
    repeat' (first | exact aN | apply aI)
    all_goals (first | exact aA _ _ | exact aE _ | omega | rfl | (intros;first | assumption | exact trivial | rfl) | (exact c1) | (intro t ht;exact absurd ht (Nat.not_lt_zero _)) | (intros;simp [All];done))
  | true =>
    rw [ht] at c1
    rw [if_pos rfl]
    obtain ⟨hk,hf⟩:=ts_len ht
    obtain ⟨n,rfl⟩:=fw_N hf
    obtain ⟨h1,h2,h3,h4,hok,hb⟩:=fw_ok hf
    rw [Int.toNat_natCast]
    have c2:=(con_FindMotion hf).2
    cases hm:(fmF g nb n pl np).2 with
    | true =>
      rw [hm] at c2
      rw [if_pos rfl]
      generalize (fmF g nb n pl np).1=r at *
      refine csZ Tryz.func150 (fun c hc=>?_)
      refine pkZ Tryz.func150 hc (fny g nb n pl np K r.1 r.2) ?_
      repeat' (first | exact aN | apply aI)
      all_goals (first | exact aA _ _ | exact aE _ | omega | rfl | (intros;first | assumption | exact trivial | rfl) | (exact c1) | (exact c2) | (intros;simp [All];done))
    | false =>
      rw [hm] at c2
      rw [if_neg Bool.false_ne_true]
      generalize (fmF g nb n pl np).1=r at *
      refine csZ Tryz.func150 (fun c hc=>?_)
      generalize hR:fgoF g nb n pl np K nb 0=R
      have lo:∀ d i,i+d=nb→fgoF g nb n pl np K d i=R→Run Tryz.prog c 150 zf43 (Fn0 g nb n pl np K (flt (kbF K) i) i)
          (Post c [(0,iOb R.2.1 R.2.2)] (.tup [.ar 1 0 0 R.2.1,.p (.bool R.1)])):=by
        intro d
        induction d with
        | zero =>
          intro i hi hr
          obtain rfl:i=nb:=by omega
          have hd:decide ((i:Int)<(K.1:Int))=false:=decide_eq_false (by omega)
          have hfn:=flt_n (kbF K) i
          have co:=con_OnlyBars_s (n:Int) i g (flt (kbF K) i) (by omega) (by omega)
          have hsel:=ob_sel (flt (kbF K) i) g i
          have hfh:=fwB_sel hf hsel
          have cm:=(con_Motions hfh).2
          have hql:=moF_le (obF (flt (kbF K) i) g 0 i zB).2 (obF (flt (kbF K) i) g 0 i zB).1 n pl
          have cl:=con_Loose19 (g:=g) (nb:=i) (N:=n) (pl:=pl) (np:=np) (K:=K) (n:=2*n) hn hK ⟨by omega,by omega⟩ (fun a ha b hb=>mo_small hfh ha hb)
          rw [fgoF] at hr
          unfold tryR at hr
          rw [hr] at cl
          generalize obF (flt (kbF K) i) g 0 i zB=x at *
          generalize (moF x.2 x.1 n pl).2=V at *
          generalize (moF x.2 x.1 n pl).1=q at *
          refine pkZ Tryz.func150 hc (fng2 g i n pl np K (flt (kbF K) i) i x.1 x.2 (2*n) q V R.2.1 R.2.2 R.1) ?_
          repeat' (first | exact aN | apply aI)
          all_goals (first | exact aA _ _ | exact aE _ | omega | rfl | (intros;first | assumption | exact trivial | rfl) | (exact hd) | (exact co) | (exact cm) | (exact cl) | (intros;simp [All];done))
        | succ d ih =>
          intro i hi hr
          have hd:decide ((i:Int)<(K.1:Int))=true:=decide_eq_true (by omega)
          have hfn:=flt_n (kbF K) i
          rw [fgoF] at hr
          cases hb:kbF K i with
          | true =>
            rw [hb,if_pos rfl] at hr
            have hb':(K.2 i==0)=true:=hb
            have hrec:=ih (i+1) (by omega) hr
            rw [flt_t hb] at hrec
            generalize flt (kbF K) i=B at *
            refine pcZ hc (fna2 g nb n pl np K B i) ?_ hrec
            repeat' (first | exact aN | apply aI)
            all_goals (first | exact aP _ _ | omega | rfl | (intros;first | assumption | exact trivial | rfl) | (exact hd) | (exact hb') | (intro t ht;by_cases h':t<B.1<;>(simp [h',cvtL,cvt,tg,tru,All];done)) | (intros;simp [All];done))
          | false =>
            rw [hb,if_neg Bool.false_ne_true] at hr
            have hb':(K.2 i==0)=false:=hb
            have hrec:fgoF g nb n pl np K d (i+1)=R→Run Tryz.prog c 150 zf43 (Fn0 g nb n pl np K (flt (kbF K) i) (i+1))
                (Post c [(0,iOb R.2.1 R.2.2)] (.tup [.ar 1 0 0 R.2.1,.p (.bool R.1)])):=fun h=>by
              have:=ih (i+1) (by omega) h
              rw [flt_f hb] at this
              exact this
            have co:=con_gRemove_s h1 i (by omega)
            have hsel:=dl_sel (g:=g) (nb:=nb) (e:=i) (by omega)
            have hfh:=fwB_sel hf hsel
            have cm:=(con_Motions hfh).2
            have hql:=moF_le (dlB g i) (nb - 1) n pl
            have cl:=con_Loose19 (g:=g) (nb:=nb) (N:=n) (pl:=pl) (np:=np) (K:=K) (n:=2*n) hn hK ⟨by omega,by omega⟩ (fun a ha b hb=>mo_small hfh ha hb)
            change Con _ _ _ _ _ [(2,iOb (tryR g nb n pl np K (nb - 1) (dlB g i)).2.1 (tryR g nb n pl np K (nb - 1) (dlB g i)).2.2)] (.tup [.ar 1 2 0 (tryR g nb n pl np K (nb - 1) (dlB g i)).2.1,.p (.bool (tryR g nb n pl np K (nb - 1) (dlB g i)).1)]) at cl
            generalize tryR g nb n pl np K (nb - 1) (dlB g i)=t at *
            generalize (moF (dlB g i) (nb - 1) n pl).2=V at *
            generalize (moF (dlB g i) (nb - 1) n pl).1=q at *
            generalize flt (kbF K) i=B at *
            cases ht1:t.1 with
            | true =>
              rw [ht1] at cl
              rw [ht1,if_pos rfl] at hr
              rw [← hr]
              refine pkZ Tryz.func150 hc (fne2 g nb n pl np K B i (nb - 1) (dlB g i) (2*n) q V t.2.1 t.2.2) ?_
              repeat' (first | exact aN | apply aI)
              all_goals (first | exact aA _ _ | exact aE _ | omega | rfl | (intros;first | assumption | exact trivial | rfl | exact fT ‹_›) | (exact hd) | (exact hb') | (exact co) | (exact cm) | (exact cl) | (intros;simp [All];done))
            | false =>
              rw [ht1] at cl
              rw [ht1,if_neg Bool.false_ne_true] at hr
              refine pcZ hc (fnf2 g nb n pl np K B i (nb - 1) (dlB g i) (2*n) q V t.2.1 t.2.2) ?_ (hrec hr)
              repeat' (first | exact aN | apply aI)
              all_goals (first | exact aP _ _ | exact aA _ _ | exact aE _ | omega | rfl | (intros;first | assumption | exact trivial | rfl | exact fT ‹_›) | (exact hd) | (exact hb') | (exact co) | (exact cm) | (exact cl) | (intros;simp [All];done))
      refine pcZ hc (fnz2 g nb n pl np K r.1 r.2) ?_ (lo nb 0 (by omega) hR)
      repeat' (first | exact aN | apply aI)
      all_goals (first | exact aP _ _ | omega | rfl | (intros;first | assumption | exact trivial | rfl) | (exact c1) | (exact c2) | (intro t ht;exact absurd ht (Nat.not_lt_zero _)) | (intros;simp [All];done) | (simp only [All];first | exact aP _ _ | omega | rfl | (intros;first | assumption | exact trivial | rfl) | (exact c1) | (exact c2) | (intro t ht;exact absurd ht (Nat.not_lt_zero _)) | (intros;simp [All];done)))
end Go.Proofs.YtkkjoghiigiokaaGreat.Mach
namespace Go.Proofs.YtkkjoghiigiokaaGreat.Mach
open Go
set_option linter.unusedVariables false
set_option linter.unusedSimpArgs false
def fsTq (good:(Nat→Int)→Bool) (nb:Nat) (V:Nat→Nat→Int):Nat→Nat→Bool×T_IntS
  | 0,_=>(false,(0,fun _=>0))
  | e+1,t=>if good (V t)=true then (true,(nb,V t)) else fsTq good nb V e (t+1)
def goF (F:Int→Bool×T_IntS):Nat→Int→Bool×T_IntS
  | 0,_=>(false,(0,fun _=>0))
  | e+1,f=>if (F f).1=true then (true,(F f).2) else goF F e (f+1)
def adV (w s:Nat→Int) (f:Int):Nat→Int:=fun j=>w j+f*s j
def fsS (good:(Nat→Int)→Bool) (nb:Nat) (S:Nat→Nat→Int):Nat→Nat→(Nat→Int)→Bool×T_IntS
  | 0,_,w=>(good w,(nb,w))
  | d+1,i,w=>goF (fun f=>fsS good nb S d (i+1) (adV w (S i) f)) 5 (-2)
def EqF (r s:Bool×T_IntS):Prop:=r.1=s.1∧(s.1=true→r=s)
theorem fsTq_add (good:(Nat→Int)→Bool) (nb:Nat) (V:Nat→Nat→Int):∀ a b t,fsTq good nb V (a+b) t=if (fsTq good nb V a t).1=true then fsTq good nb V a t else fsTq good nb V b (t+a)
  | 0,b,t=>by rw [Nat.zero_add,fsTq,if_neg Bool.false_ne_true,Nat.add_zero]
  | a+1,b,t=>by
    rw [show a+1+b=(a+b)+1 by omega,fsTq,fsTq]
    by_cases h:good (V t)=true
    · rw [if_pos h,if_pos h,if_pos rfl]
    · rw [if_neg h,if_neg h,fsTq_add good nb V a b (t+1),show t+1+a=t+(a+1) by omega]
theorem trS_step (S:Nat→Nat→Int) (i t a:Nat) (ha:a<5):adV (trS S i t) (S i) ((a:Int) - 2)=trS S (i+1) (5*t+a):=by
  funext j
  rw [trS,show (5*t+a) / 5=t by omega,show (5*t+a) % 5=a by omega]
  rfl
theorem fsS_go (good:(Nat→Int)→Bool) (nb:Nat) (S:Nat→Nat→Int) (d i t0:Nat) (ih:∀ t,EqF (fsS good nb S d (i+1) (trS S (i+1) t)) (fsTq good nb (trS S (i+1+d)) (5 ^ d) (t*5 ^ d))) :
    ∀ (e a:Nat),a+e=5→EqF (goF (fun f=>fsS good nb S d (i+1) (adV (trS S i t0) (S i) f)) e ((a:Int) - 2)) (fsTq good nb (trS S (i+1+d)) (e*5 ^ d) ((5*t0+a)*5 ^ d))
  | 0,a,_=>by rw [goF,Nat.zero_mul,fsTq];exact ⟨rfl,fun _=>rfl⟩
  | e+1,a,h=>by
    have h1:=ih (5*t0+a)
    have h2:=fsS_go good nb S d i t0 ih e (a+1) (by omega)
    rw [show (5*t0+(a+1))*5 ^ d=(5*t0+a)*5 ^ d+5 ^ d by rw [← Nat.add_assoc,Nat.add_mul (5*t0+a) 1,Nat.one_mul]] at h2
    rw [show (e+1)*5 ^ d=5 ^ d+e*5 ^ d by rw [Nat.add_mul,Nat.one_mul,Nat.add_comm],fsTq_add,goF]
    simp only [trS_step S i t0 a (by omega)]
    obtain ⟨k1,k2⟩:=h1
    by_cases hb:(fsTq good nb (trS S (i+1+d)) (5 ^ d) ((5*t0+a)*5 ^ d)).1=true
    · rw [if_pos hb,if_pos (by rw [k1];exact hb),k2 hb]
      refine ⟨hb.symm,fun _=>?_⟩
      rw [← hb]
    · rw [if_neg hb,if_neg (by rw [k1];exact hb),show (a:Int) - 2+1=((a+1:Nat):Int) - 2 by omega]
      exact h2
theorem fsS_eq (good:(Nat→Int)→Bool) (nb:Nat) (S:Nat→Nat→Int):∀ d i t0,EqF (fsS good nb S d i (trS S i t0)) (fsTq good nb (trS S (i+d)) (5 ^ d) (t0*5 ^ d))
  | 0,i,t0=>by
    rw [fsS,Nat.pow_zero,Nat.mul_one,Nat.add_zero,fsTq,fsTq]
    by_cases h:good (trS S i t0)=true
    · rw [if_pos h,h];exact ⟨rfl,fun _=>rfl⟩
    · rw [if_neg h]
      exact ⟨by simpa using h,fun h'=>absurd h' Bool.false_ne_true⟩
  | d+1,i,t0=>by
    have h:=fsS_go good nb S d i t0 (fun t=>by have:=fsS_eq good nb S d (i+1) t;exact this) 5 0 rfl
    rw [fsS,show 5 ^ (d+1)=5*5 ^ d by rw [Nat.pow_succ,Nat.mul_comm],show i+(d+1)=i+1+d by omega,show t0*(5*5 ^ d)=(5*t0+0)*5 ^ d by rw [Nat.add_zero,← Nat.mul_assoc,Nat.mul_comm t0 5]]
    exact h
theorem trS_b {S:Nat→Nat→Int} {B:Int} {p n:Nat} (hS:∀ i,i<p→∀ j,j<n→-B≤S i j∧S i j≤B):∀ i,i≤p→∀ t j,j<n→-(2*B*i)≤trS S i t j∧trS S i t j≤2*B*i
  | 0,_,t,j,_=>by rw [trS];omega
  | i+1,hi,t,j,hj=>by
    have h1:=trS_b hS i (by omega) (t / 5) j hj
    have h2:=hS i (by omega) j hj
    rw [trS]
    have h3:t % 5=0∨t % 5=1∨t % 5=2∨t % 5=3∨t % 5=4:=by omega
    have e:2*B*((i+1:Nat):Int)=2*B*i+2*B:=by rw [Int.natCast_add,Int.mul_add];simp
    rw [e]
    rcases h3 with h | h | h | h | h<;>rw [h]<;>simp<;>omega
end Go.Proofs.YtkkjoghiigiokaaGreat.Mach
namespace Go.Proofs.YtkkjoghiigiokaaGreat.Mach
open Go
set_option linter.unusedVariables false
set_option linter.unusedSimpArgs false
def tqO (n m c:Nat):Ob:=⟨false,1,n,fun i=>if i<c then [.ar 1 ⟨1,some i⟩ 0 m] else [.p .nil]⟩
def tqP (n m c k:Nat):Ob:=⟨false,1,n,fun i=>if i<c then [.ar 1 ⟨1,some i⟩ 0 m] else if i=c then [.ar 1 2 0 k] else [.p .nil]⟩
def Tq0 (n m:Nat) (M:Nat→Nat→Int) (c:Nat):St :=
  ⟨[ssA2 m (cM n M),.p (.int .i64 n),.p .any,.p .any,.p .any,.ar 1 0 0 n,.p .any,.p .any,.p .any,.p .any,.p .any,.ar 1 0 0 n,.p (.int .i64 n),.p (.int .i64 c)]++List.replicate 28 anyA,[(0,tqO n m c),(1,ffOb c (cM m (trM M)))],2⟩
def Tq1 (n m:Nat) (M:Nat→Nat→Int) (c k:Nat):St :=
  ⟨[ssA2 m (cM n M),.p (.int .i64 n),.p .any,.p .any,.p .any,.ar 1 0 0 n,.p (.int .i64 c),.p .any,.p .any,.p .any,.p .any,.ar 1 0 0 n,.p (.int .i64 n),.p (.int .i64 c)]++List.replicate 6 anyA++[ssA2 m (cM n M),.p (.int .i64 m),.p (.int .i64 k)]++List.replicate 19 anyA,[(0,tqP n m c k),(1,ffOb c (cM m (trM M))),(2,iOb k (trM M c))],3⟩
theorem tqz (n m:Nat) (M:Nat→Nat→Int) :
    pieceOb Tryz.prog 0 [rg 1,rg 3,rg 3,.head] [.code (bodyOf Tryz.f332)] (start Tryz.f332 [] 0 [ssA2 m (cM n M),.p (.int .i64 n)]) [64] 1 (Tq0 n m M 0) =
    some (zf89,[(IL 0 (↑n:Int)),(IL (↑n:Int) (↑n:Int)),(IL ((↑n:Int)*(↑24:Int)) 281474976710656),(ZHi (↑n:Int)),(AN m),(AP m (fun i=>[.seq true 1 n (fun i_1=>[.int .i64 ((cM n M i).2 i_1)])])),(AI ((↑n:Int))),(AN 0),(AN n),(AN 0),(AN n),(AI ((↑n:Int))),((0:Int)=(↑0:Int)),(AN 1),(NL n n),(AA n (fun i=>[.p (.nil)])),(AN 0)]):=by kernel_rfl
theorem tqa (n m:Nat) (M:Nat→Nat→Int) (c:Nat) :
    pieceOb Tryz.prog 0 [rg 1,.dec true,rg 2,rg 5,rg 3,.head] zf89 (Tq0 n m M c) [0,1,162] 1 (Tq1 n m M c 0) =
    some (zf18,[((decide ((↑c:Int)<(↑n:Int)))=true),(IL 0 (↑c:Int)),(IT (↑c:Int) (↑n:Int)),(NT c n),((false=true)→ ((n:Nat)=1)),(AN m),(AP m (fun i=>[.seq true 1 n (fun i_1=>[.int .i64 ((cM n M i).2 i_1)])])),(AI ((↑n:Int))),(AN 0),(AN n),(AI ((↑c:Int))),(AN 0),(AN n),(AI ((↑n:Int))),(AI ((↑c:Int))),(AN m),(AP m (fun i=>[.seq true 1 n (fun i_1=>[.int .i64 ((cM n M i).2 i_1)])])),(AI ((↑m:Int))),((0:Int)=(↑0:Int)),(AN 1),(NL n n),(CV [(0,⟨false,1,n,(fun i_1=>(if (i_1=c) then [.ar 1 162 0 0] else (if (i_1<c) then [.ar 1 ⟨1,some i_1⟩ 0 m] else [.p (.nil)])))⟩),(162,⟨false,1,0,(fun i_1=>[.p (.int .i64 0)])⟩),(1,⟨true,0,c,(fun i_1=>[.p (.seq false 1 m (fun i_2=>[.int .i64 ((cM m (trM M) i_1).2 i_2)]))])⟩)] [0,1,162] 1 n (fun i=>if (i=c) then [.ar 1 162 0 0] else (if (i<c) then [.ar 1 ⟨1,some i⟩ 0 m] else [.p (.nil)])) (fun i=>if (i<c) then [.ar 1 ⟨1,some i⟩ 0 m] else (if (i=c) then [.ar 1 2 0 0] else [.p (.nil)]))),(NL c c),(∀ i:Nat,(((i:Nat)<c)→All [(AN 1),((m:Nat)≤m),(AP m (fun r=>[.int .i64 ((cM m (trM M) i).2 r)]))])),(AN 1),(NL 0 0),(∀ i:Nat,(((i:Nat)<0)→(All []∧(([.p (.int .i64 0)]:List AV)=[.p (.int .i64 (trM M c i))]))))]):=by kernel_rfl
theorem tqc (n m:Nat) (M:Nat→Nat→Int) (c:Nat) :
    pieceOb Tryz.prog 0 [rg 1,.dec false,rg 2,.head] zf18 (Tq1 n m M c m) [0,.ins 1 c 2] 1 (Tq0 n m M (c+1)) =
    some (zf89,[((decide ((↑m:Int)<(↑m:Int)))=false),(ZLo ((↑c:Int)+1)),(ZHi ((↑c:Int)+1)),(AN m),(AP m (fun i=>[.seq true 1 n (fun i_1=>[.int .i64 ((cM n M i).2 i_1)])])),(AI ((↑n:Int))),(AN 0),(AN n),(AN 0),(AN n),(AI ((↑n:Int))),((((↑c:Int)+1):Int)=(↑(c+1):Int)),(AN 1),(NL n n),(CV [(0,⟨false,1,n,(fun i_1=>(if (i_1<c) then [.ar 1 ⟨1,some i_1⟩ 0 m] else (if (i_1=c) then [.ar 1 2 0 m] else [.p (.nil)])))⟩),(1,⟨true,0,c,(fun i_1=>[.p (.seq false 1 m (fun i_2=>[.int .i64 ((cM m (trM M) i_1).2 i_2)]))])⟩),(2,⟨false,1,m,(fun i_1=>[.p (.int .i64 (trM M c i_1))])⟩)] [0,.ins 1 c 2] 1 n (fun i=>if (i<c) then [.ar 1 ⟨1,some i⟩ 0 m] else (if (i=c) then [.ar 1 2 0 m] else [.p (.nil)])) (fun i=>if (i<c+1) then [.ar 1 ⟨1,some i⟩ 0 m] else [.p (.nil)])),(∀ i:Nat,(((i:Nat)<(c+1))→(((i:Nat)≠c)→(((i:Nat)<c)∧All [(AN 1),((m:Nat)≤m),(AP m (fun r=>[.int .i64 ((cM m (trM M) i).2 r)]))])))),(((c:Nat)<(c+1))→ All [(AN 1),((m:Nat)≤m),(∀ r:Nat,(((r:Nat)<m)→(([.int .i64 (trM M c r)]:List PV)=[.int .i64 ((cM m (trM M) c).2 r)])))])]):=by kernel_rfl
theorem tqe (n m:Nat) (M:Nat→Nat→Int) :
    pathOb Tryz.prog Tryz.f332 0 [rg 1,.dec false,rg 2] zf89 (Tq0 n m M n) [0,1] 1 [(0,ooOb 1 n (cM m (trM M))),(1,ffOb n (cM m (trM M)))] (.ar 1 0 0 n) =
    some [((decide ((↑n:Int)<(↑n:Int)))=false),(AN 0),(AN n),(AN 1),(NL n n),(CV [(0,⟨false,1,n,(fun i_1=>(if (i_1<n) then [.ar 1 ⟨1,some i_1⟩ 0 m] else [.p (.nil)]))⟩),(1,⟨true,0,n,(fun i_1=>[.p (.seq false 1 m (fun i_2=>[.int .i64 ((cM m (trM M) i_1).2 i_2)]))])⟩)] [0,1] 1 n (fun i=>if (i<n) then [.ar 1 ⟨1,some i⟩ 0 m] else [.p (.nil)]) (fun i=>[.ar 1 ⟨1,some i⟩ 0 m])),(NL n n),(∀ i:Nat,(((i:Nat)<n)→All [(AN 1),((m:Nat)≤m),(AP m (fun r=>[.int .i64 ((cM m (trM M) i).2 r)]))])),(AE n),(∀ i:Nat,(((i:Nat)<n)→All [(false=false),(AE m)]))]:=by kernel_rfl
theorem tqb0 (n m:Nat) (M:Nat→Nat→Int) (k:Nat) :
    pieceOb Tryz.prog 0 [rg 1,.dec true,rg 3,rg 14,rg 2,.head] zf18 (Tq1 n m M 0 k) [0,1,483] 1 (Tq1 n m M 0 (k+1)) =
    some (zf18,[((decide ((↑k:Int)<(↑m:Int)))=true),(IL 0 (↑k:Int)),(IT (↑k:Int) (↑m:Int)),(IL 0 (↑0:Int)),(IT (↑0:Int) (↑n:Int)),(NT 0 n),(IL 0 (↑0:Int)),(IT (↑0:Int) (↑n:Int)),(NL 1 1),(NL k k),(NL ((k+1)*8) 140737488355328),(NL (k+1) 9223372036854775807),(IL 0 (↑0:Int)),(IT (↑0:Int) (↑n:Int)),(NT 0 n),((false=true)→ ((n:Nat)=1)),(ZLo ((↑k:Int)+1)),(ZHi ((↑k:Int)+1)),(AN m),(AP m (fun i=>[.seq true 1 n (fun i_1=>[.int .i64 ((cM n M i).2 i_1)])])),(AI ((↑n:Int))),(AN 0),(AN n),(AI ((↑0:Int))),(AN 0),(AN n),(AI ((↑n:Int))),(AI ((↑0:Int))),(AN m),(AP m (fun i=>[.seq true 1 n (fun i_1=>[.int .i64 ((cM n M i).2 i_1)])])),(AI ((↑m:Int))),((((↑k:Int)+1):Int)=(↑(k+1):Int)),(AN 1),(NL n n),(CV [(0,⟨false,1,n,(fun i_1=>(if (i_1=0) then [.ar 1 483 0 (k+1)] else (if (i_1<0) then [.ar 1 ⟨1,some i_1⟩ 0 m] else (if (i_1=0) then [.ar 1 2 0 k] else [.p (.nil)]))))⟩),(483,⟨false,1,(k+1),(fun i_1=>(if (i_1<k) then [.p (.int .i64 (trM M 0 i_1))] else [.p (.int .i64 ((cM n M k).2 0))]))⟩),(451,⟨false,1,1,(fun i_1=>[.p (.int .i64 ((cM n M k).2 0))])⟩),(1,⟨true,0,0,(fun i_1=>[.p (.seq false 1 m (fun i_2=>[.int .i64 ((cM m (trM M) i_1).2 i_2)]))])⟩)] [0,1,483] 1 n (fun i=>if (i=0) then [.ar 1 483 0 (k+1)] else (if (i<0) then [.ar 1 ⟨1,some i⟩ 0 m] else (if (i=0) then [.ar 1 2 0 k] else [.p (.nil)]))) (fun i=>if (i<0) then [.ar 1 ⟨1,some i⟩ 0 m] else (if (i=0) then [.ar 1 2 0 (k+1)] else [.p (.nil)]))),(NL 0 0),(∀ i:Nat,(((i:Nat)<0)→All [(AN 1),((m:Nat)≤m),(AP m (fun r=>[.int .i64 ((cM m (trM M) i).2 r)]))])),(AN 1),(NL (k+1) (k+1)),(CV [(0,⟨false,1,n,(fun i_1=>(if (i_1=0) then [.ar 1 483 0 (k+1)] else (if (i_1<0) then [.ar 1 ⟨1,some i_1⟩ 0 m] else (if (i_1=0) then [.ar 1 2 0 k] else [.p (.nil)]))))⟩),(483,⟨false,1,(k+1),(fun i_1=>(if (i_1<k) then [.p (.int .i64 (trM M 0 i_1))] else [.p (.int .i64 ((cM n M k).2 0))]))⟩),(451,⟨false,1,1,(fun i_1=>[.p (.int .i64 ((cM n M k).2 0))])⟩),(1,⟨true,0,0,(fun i_1=>[.p (.seq false 1 m (fun i_2=>[.int .i64 ((cM m (trM M) i_1).2 i_2)]))])⟩)] [0,1,483] 1 (k+1) (fun i=>if (i<k) then [.p (.int .i64 (trM M 0 i))] else [.p (.int .i64 ((cM n M k).2 0))]) (fun i=>[.p (.int .i64 (trM M 0 i))]))]):=by kernel_rfl
theorem tqb1 (n m:Nat) (M:Nat→Nat→Int) (k:Nat) :
    pieceOb Tryz.prog 0 [rg 1,.dec true,rg 3,rg 14,rg 2,.head] zf18 (Tq1 n m M 1 k) [0,1,483] 1 (Tq1 n m M 1 (k+1)) =
    some (zf18,[((decide ((↑k:Int)<(↑m:Int)))=true),(IL 0 (↑k:Int)),(IT (↑k:Int) (↑m:Int)),(IL 0 (↑1:Int)),(IT (↑1:Int) (↑n:Int)),(NT 1 n),(IL 0 (↑1:Int)),(IT (↑1:Int) (↑n:Int)),(NL 1 1),(NL k k),(NL ((k+1)*8) 140737488355328),(NL (k+1) 9223372036854775807),(IL 0 (↑1:Int)),(IT (↑1:Int) (↑n:Int)),(NT 1 n),((false=true)→ ((n:Nat)=1)),(ZLo ((↑k:Int)+1)),(ZHi ((↑k:Int)+1)),(AN m),(AP m (fun i=>[.seq true 1 n (fun i_1=>[.int .i64 ((cM n M i).2 i_1)])])),(AI ((↑n:Int))),(AN 0),(AN n),(AI ((↑1:Int))),(AN 0),(AN n),(AI ((↑n:Int))),(AI ((↑1:Int))),(AN m),(AP m (fun i=>[.seq true 1 n (fun i_1=>[.int .i64 ((cM n M i).2 i_1)])])),(AI ((↑m:Int))),((((↑k:Int)+1):Int)=(↑(k+1):Int)),(AN 1),(NL n n),(CV [(0,⟨false,1,n,(fun i_1=>(if (i_1=1) then [.ar 1 483 0 (k+1)] else (if (i_1<1) then [.ar 1 ⟨1,some i_1⟩ 0 m] else (if (i_1=1) then [.ar 1 2 0 k] else [.p (.nil)]))))⟩),(483,⟨false,1,(k+1),(fun i_1=>(if (i_1<k) then [.p (.int .i64 (trM M 1 i_1))] else [.p (.int .i64 ((cM n M k).2 1))]))⟩),(451,⟨false,1,1,(fun i_1=>[.p (.int .i64 ((cM n M k).2 1))])⟩),(1,⟨true,0,1,(fun i_1=>[.p (.seq false 1 m (fun i_2=>[.int .i64 ((cM m (trM M) i_1).2 i_2)]))])⟩)] [0,1,483] 1 n (fun i=>if (i=1) then [.ar 1 483 0 (k+1)] else (if (i<1) then [.ar 1 ⟨1,some i⟩ 0 m] else (if (i=1) then [.ar 1 2 0 k] else [.p (.nil)]))) (fun i=>if (i<1) then [.ar 1 ⟨1,some i⟩ 0 m] else (if (i=1) then [.ar 1 2 0 (k+1)] else [.p (.nil)]))),(NL 1 1),(∀ i:Nat,(((i:Nat)<1)→All [(AN 1),((m:Nat)≤m),(AP m (fun r=>[.int .i64 ((cM m (trM M) i).2 r)]))])),(AN 1),(NL (k+1) (k+1)),(CV [(0,⟨false,1,n,(fun i_1=>(if (i_1=1) then [.ar 1 483 0 (k+1)] else (if (i_1<1) then [.ar 1 ⟨1,some i_1⟩ 0 m] else (if (i_1=1) then [.ar 1 2 0 k] else [.p (.nil)]))))⟩),(483,⟨false,1,(k+1),(fun i_1=>(if (i_1<k) then [.p (.int .i64 (trM M 1 i_1))] else [.p (.int .i64 ((cM n M k).2 1))]))⟩),(451,⟨false,1,1,(fun i_1=>[.p (.int .i64 ((cM n M k).2 1))])⟩),(1,⟨true,0,1,(fun i_1=>[.p (.seq false 1 m (fun i_2=>[.int .i64 ((cM m (trM M) i_1).2 i_2)]))])⟩)] [0,1,483] 1 (k+1) (fun i=>if (i<k) then [.p (.int .i64 (trM M 1 i))] else [.p (.int .i64 ((cM n M k).2 1))]) (fun i=>[.p (.int .i64 (trM M 1 i))]))]):=by kernel_rfl
theorem tqb2 (n m:Nat) (M:Nat→Nat→Int) (k:Nat) :
    pieceOb Tryz.prog 0 [rg 1,.dec true,rg 3,rg 14,rg 2,.head] zf18 (Tq1 n m M 2 k) [0,1,483] 1 (Tq1 n m M 2 (k+1)) =
    some (zf18,[((decide ((↑k:Int)<(↑m:Int)))=true),(IL 0 (↑k:Int)),(IT (↑k:Int) (↑m:Int)),(IL 0 (↑2:Int)),(IT (↑2:Int) (↑n:Int)),(NT 2 n),(IL 0 (↑2:Int)),(IT (↑2:Int) (↑n:Int)),(NL 1 1),(NL k k),(NL ((k+1)*8) 140737488355328),(NL (k+1) 9223372036854775807),(IL 0 (↑2:Int)),(IT (↑2:Int) (↑n:Int)),(NT 2 n),((false=true)→ ((n:Nat)=1)),(ZLo ((↑k:Int)+1)),(ZHi ((↑k:Int)+1)),(AN m),(AP m (fun i=>[.seq true 1 n (fun i_1=>[.int .i64 ((cM n M i).2 i_1)])])),(AI ((↑n:Int))),(AN 0),(AN n),(AI ((↑2:Int))),(AN 0),(AN n),(AI ((↑n:Int))),(AI ((↑2:Int))),(AN m),(AP m (fun i=>[.seq true 1 n (fun i_1=>[.int .i64 ((cM n M i).2 i_1)])])),(AI ((↑m:Int))),((((↑k:Int)+1):Int)=(↑(k+1):Int)),(AN 1),(NL n n),(CV [(0,⟨false,1,n,(fun i_1=>(if (i_1=2) then [.ar 1 483 0 (k+1)] else (if (i_1<2) then [.ar 1 ⟨1,some i_1⟩ 0 m] else (if (i_1=2) then [.ar 1 2 0 k] else [.p (.nil)]))))⟩),(483,⟨false,1,(k+1),(fun i_1=>(if (i_1<k) then [.p (.int .i64 (trM M 2 i_1))] else [.p (.int .i64 ((cM n M k).2 2))]))⟩),(451,⟨false,1,1,(fun i_1=>[.p (.int .i64 ((cM n M k).2 2))])⟩),(1,⟨true,0,2,(fun i_1=>[.p (.seq false 1 m (fun i_2=>[.int .i64 ((cM m (trM M) i_1).2 i_2)]))])⟩)] [0,1,483] 1 n (fun i=>if (i=2) then [.ar 1 483 0 (k+1)] else (if (i<2) then [.ar 1 ⟨1,some i⟩ 0 m] else (if (i=2) then [.ar 1 2 0 k] else [.p (.nil)]))) (fun i=>if (i<2) then [.ar 1 ⟨1,some i⟩ 0 m] else (if (i=2) then [.ar 1 2 0 (k+1)] else [.p (.nil)]))),(NL 2 2),(∀ i:Nat,(((i:Nat)<2)→All [(AN 1),((m:Nat)≤m),(AP m (fun r=>[.int .i64 ((cM m (trM M) i).2 r)]))])),(AN 1),(NL (k+1) (k+1)),(CV [(0,⟨false,1,n,(fun i_1=>(if (i_1=2) then [.ar 1 483 0 (k+1)] else (if (i_1<2) then [.ar 1 ⟨1,some i_1⟩ 0 m] else (if (i_1=2) then [.ar 1 2 0 k] else [.p (.nil)]))))⟩),(483,⟨false,1,(k+1),(fun i_1=>(if (i_1<k) then [.p (.int .i64 (trM M 2 i_1))] else [.p (.int .i64 ((cM n M k).2 2))]))⟩),(451,⟨false,1,1,(fun i_1=>[.p (.int .i64 ((cM n M k).2 2))])⟩),(1,⟨true,0,2,(fun i_1=>[.p (.seq false 1 m (fun i_2=>[.int .i64 ((cM m (trM M) i_1).2 i_2)]))])⟩)] [0,1,483] 1 (k+1) (fun i=>if (i<k) then [.p (.int .i64 (trM M 2 i))] else [.p (.int .i64 ((cM n M k).2 2))]) (fun i=>[.p (.int .i64 (trM M 2 i))]))]):=by kernel_rfl
theorem tqb3 (n m:Nat) (M:Nat→Nat→Int) (k:Nat) :
    pieceOb Tryz.prog 0 [rg 1,.dec true,rg 3,rg 14,rg 2,.head] zf18 (Tq1 n m M 3 k) [0,1,483] 1 (Tq1 n m M 3 (k+1)) =
    some (zf18,[((decide ((↑k:Int)<(↑m:Int)))=true),(IL 0 (↑k:Int)),(IT (↑k:Int) (↑m:Int)),(IL 0 (↑3:Int)),(IT (↑3:Int) (↑n:Int)),(NT 3 n),(IL 0 (↑3:Int)),(IT (↑3:Int) (↑n:Int)),(NL 1 1),(NL k k),(NL ((k+1)*8) 140737488355328),(NL (k+1) 9223372036854775807),(IL 0 (↑3:Int)),(IT (↑3:Int) (↑n:Int)),(NT 3 n),((false=true)→ ((n:Nat)=1)),(ZLo ((↑k:Int)+1)),(ZHi ((↑k:Int)+1)),(AN m),(AP m (fun i=>[.seq true 1 n (fun i_1=>[.int .i64 ((cM n M i).2 i_1)])])),(AI ((↑n:Int))),(AN 0),(AN n),(AI ((↑3:Int))),(AN 0),(AN n),(AI ((↑n:Int))),(AI ((↑3:Int))),(AN m),(AP m (fun i=>[.seq true 1 n (fun i_1=>[.int .i64 ((cM n M i).2 i_1)])])),(AI ((↑m:Int))),((((↑k:Int)+1):Int)=(↑(k+1):Int)),(AN 1),(NL n n),(CV [(0,⟨false,1,n,(fun i_1=>(if (i_1=3) then [.ar 1 483 0 (k+1)] else (if (i_1<3) then [.ar 1 ⟨1,some i_1⟩ 0 m] else (if (i_1=3) then [.ar 1 2 0 k] else [.p (.nil)]))))⟩),(483,⟨false,1,(k+1),(fun i_1=>(if (i_1<k) then [.p (.int .i64 (trM M 3 i_1))] else [.p (.int .i64 ((cM n M k).2 3))]))⟩),(451,⟨false,1,1,(fun i_1=>[.p (.int .i64 ((cM n M k).2 3))])⟩),(1,⟨true,0,3,(fun i_1=>[.p (.seq false 1 m (fun i_2=>[.int .i64 ((cM m (trM M) i_1).2 i_2)]))])⟩)] [0,1,483] 1 n (fun i=>if (i=3) then [.ar 1 483 0 (k+1)] else (if (i<3) then [.ar 1 ⟨1,some i⟩ 0 m] else (if (i=3) then [.ar 1 2 0 k] else [.p (.nil)]))) (fun i=>if (i<3) then [.ar 1 ⟨1,some i⟩ 0 m] else (if (i=3) then [.ar 1 2 0 (k+1)] else [.p (.nil)]))),(NL 3 3),(∀ i:Nat,(((i:Nat)<3)→All [(AN 1),((m:Nat)≤m),(AP m (fun r=>[.int .i64 ((cM m (trM M) i).2 r)]))])),(AN 1),(NL (k+1) (k+1)),(CV [(0,⟨false,1,n,(fun i_1=>(if (i_1=3) then [.ar 1 483 0 (k+1)] else (if (i_1<3) then [.ar 1 ⟨1,some i_1⟩ 0 m] else (if (i_1=3) then [.ar 1 2 0 k] else [.p (.nil)]))))⟩),(483,⟨false,1,(k+1),(fun i_1=>(if (i_1<k) then [.p (.int .i64 (trM M 3 i_1))] else [.p (.int .i64 ((cM n M k).2 3))]))⟩),(451,⟨false,1,1,(fun i_1=>[.p (.int .i64 ((cM n M k).2 3))])⟩),(1,⟨true,0,3,(fun i_1=>[.p (.seq false 1 m (fun i_2=>[.int .i64 ((cM m (trM M) i_1).2 i_2)]))])⟩)] [0,1,483] 1 (k+1) (fun i=>if (i<k) then [.p (.int .i64 (trM M 3 i))] else [.p (.int .i64 ((cM n M k).2 3))]) (fun i=>[.p (.int .i64 (trM M 3 i))]))]):=by kernel_rfl
theorem tqb4 (n m:Nat) (M:Nat→Nat→Int) (k:Nat) :
    pieceOb Tryz.prog 0 [rg 1,.dec true,rg 3,rg 14,rg 2,.head] zf18 (Tq1 n m M 4 k) [0,1,483] 1 (Tq1 n m M 4 (k+1)) =
    some (zf18,[((decide ((↑k:Int)<(↑m:Int)))=true),(IL 0 (↑k:Int)),(IT (↑k:Int) (↑m:Int)),(IL 0 (↑4:Int)),(IT (↑4:Int) (↑n:Int)),(NT 4 n),(IL 0 (↑4:Int)),(IT (↑4:Int) (↑n:Int)),(NL 1 1),(NL k k),(NL ((k+1)*8) 140737488355328),(NL (k+1) 9223372036854775807),(IL 0 (↑4:Int)),(IT (↑4:Int) (↑n:Int)),(NT 4 n),((false=true)→ ((n:Nat)=1)),(ZLo ((↑k:Int)+1)),(ZHi ((↑k:Int)+1)),(AN m),(AP m (fun i=>[.seq true 1 n (fun i_1=>[.int .i64 ((cM n M i).2 i_1)])])),(AI ((↑n:Int))),(AN 0),(AN n),(AI ((↑4:Int))),(AN 0),(AN n),(AI ((↑n:Int))),(AI ((↑4:Int))),(AN m),(AP m (fun i=>[.seq true 1 n (fun i_1=>[.int .i64 ((cM n M i).2 i_1)])])),(AI ((↑m:Int))),((((↑k:Int)+1):Int)=(↑(k+1):Int)),(AN 1),(NL n n),(CV [(0,⟨false,1,n,(fun i_1=>(if (i_1=4) then [.ar 1 483 0 (k+1)] else (if (i_1<4) then [.ar 1 ⟨1,some i_1⟩ 0 m] else (if (i_1=4) then [.ar 1 2 0 k] else [.p (.nil)]))))⟩),(483,⟨false,1,(k+1),(fun i_1=>(if (i_1<k) then [.p (.int .i64 (trM M 4 i_1))] else [.p (.int .i64 ((cM n M k).2 4))]))⟩),(451,⟨false,1,1,(fun i_1=>[.p (.int .i64 ((cM n M k).2 4))])⟩),(1,⟨true,0,4,(fun i_1=>[.p (.seq false 1 m (fun i_2=>[.int .i64 ((cM m (trM M) i_1).2 i_2)]))])⟩)] [0,1,483] 1 n (fun i=>if (i=4) then [.ar 1 483 0 (k+1)] else (if (i<4) then [.ar 1 ⟨1,some i⟩ 0 m] else (if (i=4) then [.ar 1 2 0 k] else [.p (.nil)]))) (fun i=>if (i<4) then [.ar 1 ⟨1,some i⟩ 0 m] else (if (i=4) then [.ar 1 2 0 (k+1)] else [.p (.nil)]))),(NL 4 4),(∀ i:Nat,(((i:Nat)<4)→All [(AN 1),((m:Nat)≤m),(AP m (fun r=>[.int .i64 ((cM m (trM M) i).2 r)]))])),(AN 1),(NL (k+1) (k+1)),(CV [(0,⟨false,1,n,(fun i_1=>(if (i_1=4) then [.ar 1 483 0 (k+1)] else (if (i_1<4) then [.ar 1 ⟨1,some i_1⟩ 0 m] else (if (i_1=4) then [.ar 1 2 0 k] else [.p (.nil)]))))⟩),(483,⟨false,1,(k+1),(fun i_1=>(if (i_1<k) then [.p (.int .i64 (trM M 4 i_1))] else [.p (.int .i64 ((cM n M k).2 4))]))⟩),(451,⟨false,1,1,(fun i_1=>[.p (.int .i64 ((cM n M k).2 4))])⟩),(1,⟨true,0,4,(fun i_1=>[.p (.seq false 1 m (fun i_2=>[.int .i64 ((cM m (trM M) i_1).2 i_2)]))])⟩)] [0,1,483] 1 (k+1) (fun i=>if (i<k) then [.p (.int .i64 (trM M 4 i))] else [.p (.int .i64 ((cM n M k).2 4))]) (fun i=>[.p (.int .i64 (trM M 4 i))]))]):=by kernel_rfl
theorem tqb5 (n m:Nat) (M:Nat→Nat→Int) (k:Nat) :
    pieceOb Tryz.prog 0 [rg 1,.dec true,rg 3,rg 14,rg 2,.head] zf18 (Tq1 n m M 5 k) [0,1,483] 1 (Tq1 n m M 5 (k+1)) =
    some (zf18,[((decide ((↑k:Int)<(↑m:Int)))=true),(IL 0 (↑k:Int)),(IT (↑k:Int) (↑m:Int)),(IL 0 (↑5:Int)),(IT (↑5:Int) (↑n:Int)),(NT 5 n),(IL 0 (↑5:Int)),(IT (↑5:Int) (↑n:Int)),(NL 1 1),(NL k k),(NL ((k+1)*8) 140737488355328),(NL (k+1) 9223372036854775807),(IL 0 (↑5:Int)),(IT (↑5:Int) (↑n:Int)),(NT 5 n),((false=true)→ ((n:Nat)=1)),(ZLo ((↑k:Int)+1)),(ZHi ((↑k:Int)+1)),(AN m),(AP m (fun i=>[.seq true 1 n (fun i_1=>[.int .i64 ((cM n M i).2 i_1)])])),(AI ((↑n:Int))),(AN 0),(AN n),(AI ((↑5:Int))),(AN 0),(AN n),(AI ((↑n:Int))),(AI ((↑5:Int))),(AN m),(AP m (fun i=>[.seq true 1 n (fun i_1=>[.int .i64 ((cM n M i).2 i_1)])])),(AI ((↑m:Int))),((((↑k:Int)+1):Int)=(↑(k+1):Int)),(AN 1),(NL n n),(CV [(0,⟨false,1,n,(fun i_1=>(if (i_1=5) then [.ar 1 483 0 (k+1)] else (if (i_1<5) then [.ar 1 ⟨1,some i_1⟩ 0 m] else (if (i_1=5) then [.ar 1 2 0 k] else [.p (.nil)]))))⟩),(483,⟨false,1,(k+1),(fun i_1=>(if (i_1<k) then [.p (.int .i64 (trM M 5 i_1))] else [.p (.int .i64 ((cM n M k).2 5))]))⟩),(451,⟨false,1,1,(fun i_1=>[.p (.int .i64 ((cM n M k).2 5))])⟩),(1,⟨true,0,5,(fun i_1=>[.p (.seq false 1 m (fun i_2=>[.int .i64 ((cM m (trM M) i_1).2 i_2)]))])⟩)] [0,1,483] 1 n (fun i=>if (i=5) then [.ar 1 483 0 (k+1)] else (if (i<5) then [.ar 1 ⟨1,some i⟩ 0 m] else (if (i=5) then [.ar 1 2 0 k] else [.p (.nil)]))) (fun i=>if (i<5) then [.ar 1 ⟨1,some i⟩ 0 m] else (if (i=5) then [.ar 1 2 0 (k+1)] else [.p (.nil)]))),(NL 5 5),(∀ i:Nat,(((i:Nat)<5)→All [(AN 1),((m:Nat)≤m),(AP m (fun r=>[.int .i64 ((cM m (trM M) i).2 r)]))])),(AN 1),(NL (k+1) (k+1)),(CV [(0,⟨false,1,n,(fun i_1=>(if (i_1=5) then [.ar 1 483 0 (k+1)] else (if (i_1<5) then [.ar 1 ⟨1,some i_1⟩ 0 m] else (if (i_1=5) then [.ar 1 2 0 k] else [.p (.nil)]))))⟩),(483,⟨false,1,(k+1),(fun i_1=>(if (i_1<k) then [.p (.int .i64 (trM M 5 i_1))] else [.p (.int .i64 ((cM n M k).2 5))]))⟩),(451,⟨false,1,1,(fun i_1=>[.p (.int .i64 ((cM n M k).2 5))])⟩),(1,⟨true,0,5,(fun i_1=>[.p (.seq false 1 m (fun i_2=>[.int .i64 ((cM m (trM M) i_1).2 i_2)]))])⟩)] [0,1,483] 1 (k+1) (fun i=>if (i<k) then [.p (.int .i64 (trM M 5 i))] else [.p (.int .i64 ((cM n M k).2 5))]) (fun i=>[.p (.int .i64 (trM M 5 i))]))]):=by kernel_rfl
theorem tqb6 (n m:Nat) (M:Nat→Nat→Int) (k:Nat) :
    pieceOb Tryz.prog 0 [rg 1,.dec true,rg 3,rg 14,rg 2,.head] zf18 (Tq1 n m M 6 k) [0,1,483] 1 (Tq1 n m M 6 (k+1)) =
    some (zf18,[((decide ((↑k:Int)<(↑m:Int)))=true),(IL 0 (↑k:Int)),(IT (↑k:Int) (↑m:Int)),(IL 0 (↑6:Int)),(IT (↑6:Int) (↑n:Int)),(NT 6 n),(IL 0 (↑6:Int)),(IT (↑6:Int) (↑n:Int)),(NL 1 1),(NL k k),(NL ((k+1)*8) 140737488355328),(NL (k+1) 9223372036854775807),(IL 0 (↑6:Int)),(IT (↑6:Int) (↑n:Int)),(NT 6 n),((false=true)→ ((n:Nat)=1)),(ZLo ((↑k:Int)+1)),(ZHi ((↑k:Int)+1)),(AN m),(AP m (fun i=>[.seq true 1 n (fun i_1=>[.int .i64 ((cM n M i).2 i_1)])])),(AI ((↑n:Int))),(AN 0),(AN n),(AI ((↑6:Int))),(AN 0),(AN n),(AI ((↑n:Int))),(AI ((↑6:Int))),(AN m),(AP m (fun i=>[.seq true 1 n (fun i_1=>[.int .i64 ((cM n M i).2 i_1)])])),(AI ((↑m:Int))),((((↑k:Int)+1):Int)=(↑(k+1):Int)),(AN 1),(NL n n),(CV [(0,⟨false,1,n,(fun i_1=>(if (i_1=6) then [.ar 1 483 0 (k+1)] else (if (i_1<6) then [.ar 1 ⟨1,some i_1⟩ 0 m] else (if (i_1=6) then [.ar 1 2 0 k] else [.p (.nil)]))))⟩),(483,⟨false,1,(k+1),(fun i_1=>(if (i_1<k) then [.p (.int .i64 (trM M 6 i_1))] else [.p (.int .i64 ((cM n M k).2 6))]))⟩),(451,⟨false,1,1,(fun i_1=>[.p (.int .i64 ((cM n M k).2 6))])⟩),(1,⟨true,0,6,(fun i_1=>[.p (.seq false 1 m (fun i_2=>[.int .i64 ((cM m (trM M) i_1).2 i_2)]))])⟩)] [0,1,483] 1 n (fun i=>if (i=6) then [.ar 1 483 0 (k+1)] else (if (i<6) then [.ar 1 ⟨1,some i⟩ 0 m] else (if (i=6) then [.ar 1 2 0 k] else [.p (.nil)]))) (fun i=>if (i<6) then [.ar 1 ⟨1,some i⟩ 0 m] else (if (i=6) then [.ar 1 2 0 (k+1)] else [.p (.nil)]))),(NL 6 6),(∀ i:Nat,(((i:Nat)<6)→All [(AN 1),((m:Nat)≤m),(AP m (fun r=>[.int .i64 ((cM m (trM M) i).2 r)]))])),(AN 1),(NL (k+1) (k+1)),(CV [(0,⟨false,1,n,(fun i_1=>(if (i_1=6) then [.ar 1 483 0 (k+1)] else (if (i_1<6) then [.ar 1 ⟨1,some i_1⟩ 0 m] else (if (i_1=6) then [.ar 1 2 0 k] else [.p (.nil)]))))⟩),(483,⟨false,1,(k+1),(fun i_1=>(if (i_1<k) then [.p (.int .i64 (trM M 6 i_1))] else [.p (.int .i64 ((cM n M k).2 6))]))⟩),(451,⟨false,1,1,(fun i_1=>[.p (.int .i64 ((cM n M k).2 6))])⟩),(1,⟨true,0,6,(fun i_1=>[.p (.seq false 1 m (fun i_2=>[.int .i64 ((cM m (trM M) i_1).2 i_2)]))])⟩)] [0,1,483] 1 (k+1) (fun i=>if (i<k) then [.p (.int .i64 (trM M 6 i))] else [.p (.int .i64 ((cM n M k).2 6))]) (fun i=>[.p (.int .i64 (trM M 6 i))]))]):=by kernel_rfl
theorem tqb7 (n m:Nat) (M:Nat→Nat→Int) (k:Nat) :
    pieceOb Tryz.prog 0 [rg 1,.dec true,rg 3,rg 14,rg 2,.head] zf18 (Tq1 n m M 7 k) [0,1,483] 1 (Tq1 n m M 7 (k+1)) =
    some (zf18,[((decide ((↑k:Int)<(↑m:Int)))=true),(IL 0 (↑k:Int)),(IT (↑k:Int) (↑m:Int)),(IL 0 (↑7:Int)),(IT (↑7:Int) (↑n:Int)),(NT 7 n),(IL 0 (↑7:Int)),(IT (↑7:Int) (↑n:Int)),(NL 1 1),(NL k k),(NL ((k+1)*8) 140737488355328),(NL (k+1) 9223372036854775807),(IL 0 (↑7:Int)),(IT (↑7:Int) (↑n:Int)),(NT 7 n),((false=true)→ ((n:Nat)=1)),(ZLo ((↑k:Int)+1)),(ZHi ((↑k:Int)+1)),(AN m),(AP m (fun i=>[.seq true 1 n (fun i_1=>[.int .i64 ((cM n M i).2 i_1)])])),(AI ((↑n:Int))),(AN 0),(AN n),(AI ((↑7:Int))),(AN 0),(AN n),(AI ((↑n:Int))),(AI ((↑7:Int))),(AN m),(AP m (fun i=>[.seq true 1 n (fun i_1=>[.int .i64 ((cM n M i).2 i_1)])])),(AI ((↑m:Int))),((((↑k:Int)+1):Int)=(↑(k+1):Int)),(AN 1),(NL n n),(CV [(0,⟨false,1,n,(fun i_1=>(if (i_1=7) then [.ar 1 483 0 (k+1)] else (if (i_1<7) then [.ar 1 ⟨1,some i_1⟩ 0 m] else (if (i_1=7) then [.ar 1 2 0 k] else [.p (.nil)]))))⟩),(483,⟨false,1,(k+1),(fun i_1=>(if (i_1<k) then [.p (.int .i64 (trM M 7 i_1))] else [.p (.int .i64 ((cM n M k).2 7))]))⟩),(451,⟨false,1,1,(fun i_1=>[.p (.int .i64 ((cM n M k).2 7))])⟩),(1,⟨true,0,7,(fun i_1=>[.p (.seq false 1 m (fun i_2=>[.int .i64 ((cM m (trM M) i_1).2 i_2)]))])⟩)] [0,1,483] 1 n (fun i=>if (i=7) then [.ar 1 483 0 (k+1)] else (if (i<7) then [.ar 1 ⟨1,some i⟩ 0 m] else (if (i=7) then [.ar 1 2 0 k] else [.p (.nil)]))) (fun i=>if (i<7) then [.ar 1 ⟨1,some i⟩ 0 m] else (if (i=7) then [.ar 1 2 0 (k+1)] else [.p (.nil)]))),(NL 7 7),(∀ i:Nat,(((i:Nat)<7)→All [(AN 1),((m:Nat)≤m),(AP m (fun r=>[.int .i64 ((cM m (trM M) i).2 r)]))])),(AN 1),(NL (k+1) (k+1)),(CV [(0,⟨false,1,n,(fun i_1=>(if (i_1=7) then [.ar 1 483 0 (k+1)] else (if (i_1<7) then [.ar 1 ⟨1,some i_1⟩ 0 m] else (if (i_1=7) then [.ar 1 2 0 k] else [.p (.nil)]))))⟩),(483,⟨false,1,(k+1),(fun i_1=>(if (i_1<k) then [.p (.int .i64 (trM M 7 i_1))] else [.p (.int .i64 ((cM n M k).2 7))]))⟩),(451,⟨false,1,1,(fun i_1=>[.p (.int .i64 ((cM n M k).2 7))])⟩),(1,⟨true,0,7,(fun i_1=>[.p (.seq false 1 m (fun i_2=>[.int .i64 ((cM m (trM M) i_1).2 i_2)]))])⟩)] [0,1,483] 1 (k+1) (fun i=>if (i<k) then [.p (.int .i64 (trM M 7 i))] else [.p (.int .i64 ((cM n M k).2 7))]) (fun i=>[.p (.int .i64 (trM M 7 i))]))]):=by kernel_rfl
theorem tqb8 (n m:Nat) (M:Nat→Nat→Int) (k:Nat) :
    pieceOb Tryz.prog 0 [rg 1,.dec true,rg 3,rg 14,rg 2,.head] zf18 (Tq1 n m M 8 k) [0,1,483] 1 (Tq1 n m M 8 (k+1)) =
    some (zf18,[((decide ((↑k:Int)<(↑m:Int)))=true),(IL 0 (↑k:Int)),(IT (↑k:Int) (↑m:Int)),(IL 0 (↑8:Int)),(IT (↑8:Int) (↑n:Int)),(NT 8 n),(IL 0 (↑8:Int)),(IT (↑8:Int) (↑n:Int)),(NL 1 1),(NL k k),(NL ((k+1)*8) 140737488355328),(NL (k+1) 9223372036854775807),(IL 0 (↑8:Int)),(IT (↑8:Int) (↑n:Int)),(NT 8 n),((false=true)→ ((n:Nat)=1)),(ZLo ((↑k:Int)+1)),(ZHi ((↑k:Int)+1)),(AN m),(AP m (fun i=>[.seq true 1 n (fun i_1=>[.int .i64 ((cM n M i).2 i_1)])])),(AI ((↑n:Int))),(AN 0),(AN n),(AI ((↑8:Int))),(AN 0),(AN n),(AI ((↑n:Int))),(AI ((↑8:Int))),(AN m),(AP m (fun i=>[.seq true 1 n (fun i_1=>[.int .i64 ((cM n M i).2 i_1)])])),(AI ((↑m:Int))),((((↑k:Int)+1):Int)=(↑(k+1):Int)),(AN 1),(NL n n),(CV [(0,⟨false,1,n,(fun i_1=>(if (i_1=8) then [.ar 1 483 0 (k+1)] else (if (i_1<8) then [.ar 1 ⟨1,some i_1⟩ 0 m] else (if (i_1=8) then [.ar 1 2 0 k] else [.p (.nil)]))))⟩),(483,⟨false,1,(k+1),(fun i_1=>(if (i_1<k) then [.p (.int .i64 (trM M 8 i_1))] else [.p (.int .i64 ((cM n M k).2 8))]))⟩),(451,⟨false,1,1,(fun i_1=>[.p (.int .i64 ((cM n M k).2 8))])⟩),(1,⟨true,0,8,(fun i_1=>[.p (.seq false 1 m (fun i_2=>[.int .i64 ((cM m (trM M) i_1).2 i_2)]))])⟩)] [0,1,483] 1 n (fun i=>if (i=8) then [.ar 1 483 0 (k+1)] else (if (i<8) then [.ar 1 ⟨1,some i⟩ 0 m] else (if (i=8) then [.ar 1 2 0 k] else [.p (.nil)]))) (fun i=>if (i<8) then [.ar 1 ⟨1,some i⟩ 0 m] else (if (i=8) then [.ar 1 2 0 (k+1)] else [.p (.nil)]))),(NL 8 8),(∀ i:Nat,(((i:Nat)<8)→All [(AN 1),((m:Nat)≤m),(AP m (fun r=>[.int .i64 ((cM m (trM M) i).2 r)]))])),(AN 1),(NL (k+1) (k+1)),(CV [(0,⟨false,1,n,(fun i_1=>(if (i_1=8) then [.ar 1 483 0 (k+1)] else (if (i_1<8) then [.ar 1 ⟨1,some i_1⟩ 0 m] else (if (i_1=8) then [.ar 1 2 0 k] else [.p (.nil)]))))⟩),(483,⟨false,1,(k+1),(fun i_1=>(if (i_1<k) then [.p (.int .i64 (trM M 8 i_1))] else [.p (.int .i64 ((cM n M k).2 8))]))⟩),(451,⟨false,1,1,(fun i_1=>[.p (.int .i64 ((cM n M k).2 8))])⟩),(1,⟨true,0,8,(fun i_1=>[.p (.seq false 1 m (fun i_2=>[.int .i64 ((cM m (trM M) i_1).2 i_2)]))])⟩)] [0,1,483] 1 (k+1) (fun i=>if (i<k) then [.p (.int .i64 (trM M 8 i))] else [.p (.int .i64 ((cM n M k).2 8))]) (fun i=>[.p (.int .i64 (trM M 8 i))]))]):=by kernel_rfl
theorem tqb9 (n m:Nat) (M:Nat→Nat→Int) (k:Nat) :
    pieceOb Tryz.prog 0 [rg 1,.dec true,rg 3,rg 14,rg 2,.head] zf18 (Tq1 n m M 9 k) [0,1,483] 1 (Tq1 n m M 9 (k+1)) =
    some (zf18,[((decide ((↑k:Int)<(↑m:Int)))=true),(IL 0 (↑k:Int)),(IT (↑k:Int) (↑m:Int)),(IL 0 (↑9:Int)),(IT (↑9:Int) (↑n:Int)),(NT 9 n),(IL 0 (↑9:Int)),(IT (↑9:Int) (↑n:Int)),(NL 1 1),(NL k k),(NL ((k+1)*8) 140737488355328),(NL (k+1) 9223372036854775807),(IL 0 (↑9:Int)),(IT (↑9:Int) (↑n:Int)),(NT 9 n),((false=true)→ ((n:Nat)=1)),(ZLo ((↑k:Int)+1)),(ZHi ((↑k:Int)+1)),(AN m),(AP m (fun i=>[.seq true 1 n (fun i_1=>[.int .i64 ((cM n M i).2 i_1)])])),(AI ((↑n:Int))),(AN 0),(AN n),(AI ((↑9:Int))),(AN 0),(AN n),(AI ((↑n:Int))),(AI ((↑9:Int))),(AN m),(AP m (fun i=>[.seq true 1 n (fun i_1=>[.int .i64 ((cM n M i).2 i_1)])])),(AI ((↑m:Int))),((((↑k:Int)+1):Int)=(↑(k+1):Int)),(AN 1),(NL n n),(CV [(0,⟨false,1,n,(fun i_1=>(if (i_1=9) then [.ar 1 483 0 (k+1)] else (if (i_1<9) then [.ar 1 ⟨1,some i_1⟩ 0 m] else (if (i_1=9) then [.ar 1 2 0 k] else [.p (.nil)]))))⟩),(483,⟨false,1,(k+1),(fun i_1=>(if (i_1<k) then [.p (.int .i64 (trM M 9 i_1))] else [.p (.int .i64 ((cM n M k).2 9))]))⟩),(451,⟨false,1,1,(fun i_1=>[.p (.int .i64 ((cM n M k).2 9))])⟩),(1,⟨true,0,9,(fun i_1=>[.p (.seq false 1 m (fun i_2=>[.int .i64 ((cM m (trM M) i_1).2 i_2)]))])⟩)] [0,1,483] 1 n (fun i=>if (i=9) then [.ar 1 483 0 (k+1)] else (if (i<9) then [.ar 1 ⟨1,some i⟩ 0 m] else (if (i=9) then [.ar 1 2 0 k] else [.p (.nil)]))) (fun i=>if (i<9) then [.ar 1 ⟨1,some i⟩ 0 m] else (if (i=9) then [.ar 1 2 0 (k+1)] else [.p (.nil)]))),(NL 9 9),(∀ i:Nat,(((i:Nat)<9)→All [(AN 1),((m:Nat)≤m),(AP m (fun r=>[.int .i64 ((cM m (trM M) i).2 r)]))])),(AN 1),(NL (k+1) (k+1)),(CV [(0,⟨false,1,n,(fun i_1=>(if (i_1=9) then [.ar 1 483 0 (k+1)] else (if (i_1<9) then [.ar 1 ⟨1,some i_1⟩ 0 m] else (if (i_1=9) then [.ar 1 2 0 k] else [.p (.nil)]))))⟩),(483,⟨false,1,(k+1),(fun i_1=>(if (i_1<k) then [.p (.int .i64 (trM M 9 i_1))] else [.p (.int .i64 ((cM n M k).2 9))]))⟩),(451,⟨false,1,1,(fun i_1=>[.p (.int .i64 ((cM n M k).2 9))])⟩),(1,⟨true,0,9,(fun i_1=>[.p (.seq false 1 m (fun i_2=>[.int .i64 ((cM m (trM M) i_1).2 i_2)]))])⟩)] [0,1,483] 1 (k+1) (fun i=>if (i<k) then [.p (.int .i64 (trM M 9 i))] else [.p (.int .i64 ((cM n M k).2 9))]) (fun i=>[.p (.int .i64 (trM M 9 i))]))]):=by kernel_rfl
theorem tqb10 (n m:Nat) (M:Nat→Nat→Int) (k:Nat) :
    pieceOb Tryz.prog 0 [rg 1,.dec true,rg 3,rg 14,rg 2,.head] zf18 (Tq1 n m M 10 k) [0,1,483] 1 (Tq1 n m M 10 (k+1)) =
    some (zf18,[((decide ((↑k:Int)<(↑m:Int)))=true),(IL 0 (↑k:Int)),(IT (↑k:Int) (↑m:Int)),(IL 0 (↑10:Int)),(IT (↑10:Int) (↑n:Int)),(NT 10 n),(IL 0 (↑10:Int)),(IT (↑10:Int) (↑n:Int)),(NL 1 1),(NL k k),(NL ((k+1)*8) 140737488355328),(NL (k+1) 9223372036854775807),(IL 0 (↑10:Int)),(IT (↑10:Int) (↑n:Int)),(NT 10 n),((false=true)→ ((n:Nat)=1)),(ZLo ((↑k:Int)+1)),(ZHi ((↑k:Int)+1)),(AN m),(AP m (fun i=>[.seq true 1 n (fun i_1=>[.int .i64 ((cM n M i).2 i_1)])])),(AI ((↑n:Int))),(AN 0),(AN n),(AI ((↑10:Int))),(AN 0),(AN n),(AI ((↑n:Int))),(AI ((↑10:Int))),(AN m),(AP m (fun i=>[.seq true 1 n (fun i_1=>[.int .i64 ((cM n M i).2 i_1)])])),(AI ((↑m:Int))),((((↑k:Int)+1):Int)=(↑(k+1):Int)),(AN 1),(NL n n),(CV [(0,⟨false,1,n,(fun i_1=>(if (i_1=10) then [.ar 1 483 0 (k+1)] else (if (i_1<10) then [.ar 1 ⟨1,some i_1⟩ 0 m] else (if (i_1=10) then [.ar 1 2 0 k] else [.p (.nil)]))))⟩),(483,⟨false,1,(k+1),(fun i_1=>(if (i_1<k) then [.p (.int .i64 (trM M 10 i_1))] else [.p (.int .i64 ((cM n M k).2 10))]))⟩),(451,⟨false,1,1,(fun i_1=>[.p (.int .i64 ((cM n M k).2 10))])⟩),(1,⟨true,0,10,(fun i_1=>[.p (.seq false 1 m (fun i_2=>[.int .i64 ((cM m (trM M) i_1).2 i_2)]))])⟩)] [0,1,483] 1 n (fun i=>if (i=10) then [.ar 1 483 0 (k+1)] else (if (i<10) then [.ar 1 ⟨1,some i⟩ 0 m] else (if (i=10) then [.ar 1 2 0 k] else [.p (.nil)]))) (fun i=>if (i<10) then [.ar 1 ⟨1,some i⟩ 0 m] else (if (i=10) then [.ar 1 2 0 (k+1)] else [.p (.nil)]))),(NL 10 10),(∀ i:Nat,(((i:Nat)<10)→All [(AN 1),((m:Nat)≤m),(AP m (fun r=>[.int .i64 ((cM m (trM M) i).2 r)]))])),(AN 1),(NL (k+1) (k+1)),(CV [(0,⟨false,1,n,(fun i_1=>(if (i_1=10) then [.ar 1 483 0 (k+1)] else (if (i_1<10) then [.ar 1 ⟨1,some i_1⟩ 0 m] else (if (i_1=10) then [.ar 1 2 0 k] else [.p (.nil)]))))⟩),(483,⟨false,1,(k+1),(fun i_1=>(if (i_1<k) then [.p (.int .i64 (trM M 10 i_1))] else [.p (.int .i64 ((cM n M k).2 10))]))⟩),(451,⟨false,1,1,(fun i_1=>[.p (.int .i64 ((cM n M k).2 10))])⟩),(1,⟨true,0,10,(fun i_1=>[.p (.seq false 1 m (fun i_2=>[.int .i64 ((cM m (trM M) i_1).2 i_2)]))])⟩)] [0,1,483] 1 (k+1) (fun i=>if (i<k) then [.p (.int .i64 (trM M 10 i))] else [.p (.int .i64 ((cM n M k).2 10))]) (fun i=>[.p (.int .i64 (trM M 10 i))]))]):=by kernel_rfl
theorem tqb11 (n m:Nat) (M:Nat→Nat→Int) (k:Nat) :
    pieceOb Tryz.prog 0 [rg 1,.dec true,rg 3,rg 14,rg 2,.head] zf18 (Tq1 n m M 11 k) [0,1,483] 1 (Tq1 n m M 11 (k+1)) =
    some (zf18,[((decide ((↑k:Int)<(↑m:Int)))=true),(IL 0 (↑k:Int)),(IT (↑k:Int) (↑m:Int)),(IL 0 (↑11:Int)),(IT (↑11:Int) (↑n:Int)),(NT 11 n),(IL 0 (↑11:Int)),(IT (↑11:Int) (↑n:Int)),(NL 1 1),(NL k k),(NL ((k+1)*8) 140737488355328),(NL (k+1) 9223372036854775807),(IL 0 (↑11:Int)),(IT (↑11:Int) (↑n:Int)),(NT 11 n),((false=true)→ ((n:Nat)=1)),(ZLo ((↑k:Int)+1)),(ZHi ((↑k:Int)+1)),(AN m),(AP m (fun i=>[.seq true 1 n (fun i_1=>[.int .i64 ((cM n M i).2 i_1)])])),(AI ((↑n:Int))),(AN 0),(AN n),(AI ((↑11:Int))),(AN 0),(AN n),(AI ((↑n:Int))),(AI ((↑11:Int))),(AN m),(AP m (fun i=>[.seq true 1 n (fun i_1=>[.int .i64 ((cM n M i).2 i_1)])])),(AI ((↑m:Int))),((((↑k:Int)+1):Int)=(↑(k+1):Int)),(AN 1),(NL n n),(CV [(0,⟨false,1,n,(fun i_1=>(if (i_1=11) then [.ar 1 483 0 (k+1)] else (if (i_1<11) then [.ar 1 ⟨1,some i_1⟩ 0 m] else (if (i_1=11) then [.ar 1 2 0 k] else [.p (.nil)]))))⟩),(483,⟨false,1,(k+1),(fun i_1=>(if (i_1<k) then [.p (.int .i64 (trM M 11 i_1))] else [.p (.int .i64 ((cM n M k).2 11))]))⟩),(451,⟨false,1,1,(fun i_1=>[.p (.int .i64 ((cM n M k).2 11))])⟩),(1,⟨true,0,11,(fun i_1=>[.p (.seq false 1 m (fun i_2=>[.int .i64 ((cM m (trM M) i_1).2 i_2)]))])⟩)] [0,1,483] 1 n (fun i=>if (i=11) then [.ar 1 483 0 (k+1)] else (if (i<11) then [.ar 1 ⟨1,some i⟩ 0 m] else (if (i=11) then [.ar 1 2 0 k] else [.p (.nil)]))) (fun i=>if (i<11) then [.ar 1 ⟨1,some i⟩ 0 m] else (if (i=11) then [.ar 1 2 0 (k+1)] else [.p (.nil)]))),(NL 11 11),(∀ i:Nat,(((i:Nat)<11)→All [(AN 1),((m:Nat)≤m),(AP m (fun r=>[.int .i64 ((cM m (trM M) i).2 r)]))])),(AN 1),(NL (k+1) (k+1)),(CV [(0,⟨false,1,n,(fun i_1=>(if (i_1=11) then [.ar 1 483 0 (k+1)] else (if (i_1<11) then [.ar 1 ⟨1,some i_1⟩ 0 m] else (if (i_1=11) then [.ar 1 2 0 k] else [.p (.nil)]))))⟩),(483,⟨false,1,(k+1),(fun i_1=>(if (i_1<k) then [.p (.int .i64 (trM M 11 i_1))] else [.p (.int .i64 ((cM n M k).2 11))]))⟩),(451,⟨false,1,1,(fun i_1=>[.p (.int .i64 ((cM n M k).2 11))])⟩),(1,⟨true,0,11,(fun i_1=>[.p (.seq false 1 m (fun i_2=>[.int .i64 ((cM m (trM M) i_1).2 i_2)]))])⟩)] [0,1,483] 1 (k+1) (fun i=>if (i<k) then [.p (.int .i64 (trM M 11 i))] else [.p (.int .i64 ((cM n M k).2 11))]) (fun i=>[.p (.int .i64 (trM M 11 i))]))]):=by kernel_rfl
end Go.Proofs.YtkkjoghiigiokaaGreat.Mach
namespace Go.Proofs.YtkkjoghiigiokaaGreat.Mach
open Go
set_option linter.unusedVariables false
set_option linter.unusedSimpArgs false
theorem con_transposed (n m:Nat) (M:Nat→Nat→Int) (hn:n≤12) (hm:m≤1000) :
    Con Tryz.prog 332 0 [] [ssA2 m (cM n M),.p (.int .i64 n)] [(0,ooOb 1 n (cM m (trM M))),(1,ffOb n (cM m (trM M)))] (.ar 1 0 0 n):=by
  refine csZ Tryz.func332 (fun c hc=>?_)
  have stp:∀ a k,a<n→k<m→Run Tryz.prog c 332 zf18 (Tq1 n m M a (k+1)) (Post c [(0,ooOb 1 n (cM m (trM M))),(1,ffOb n (cM m (trM M)))] (.ar 1 0 0 n)) →
      Run Tryz.prog c 332 zf18 (Tq1 n m M a k) (Post c [(0,ooOb 1 n (cM m (trM M))),(1,ffOb n (cM m (trM M)))] (.ar 1 0 0 n)):=by
    intro a k ha hk hr
    have hd:decide ((k:Int)<(m:Int))=true:=decide_eq_true (by omega)
    rcases (show a=0∨a=1∨a=2∨a=3∨a=4∨a=5∨a=6∨a=7∨a=8∨a=9∨a=10∨a=11 by omega) with rfl | rfl | rfl | rfl | rfl | rfl | rfl | rfl | rfl | rfl | rfl | rfl
    ·
      refine pcZ hc (tqb0 n m M k) ?_ hr
      repeat' (first | exact aN | apply aI)
      all_goals (first | exact aP _ _ | omega | rfl | (intros;first | assumption | exact trivial | rfl | exact fT ‹_›) | (exact hd) | (intros;simp [All];done) | (intro i hi;by_cases h1:i=0<;>by_cases h2:i<0<;>(simp [h1,h2,cvtL,cvt,idx,idx1,idO,idM,tg,tru,All]<;>first | rfl | omega)) | (intro i hi;by_cases h1:i<k<;>by_cases h2:i=k<;>(simp [h1,h2,cvtL,cvt,tg,tru,All,cM,trM]<;>omega)) | (simp only [All];first | exact aP _ _ | omega | rfl | (intros;first | assumption | exact trivial | rfl | exact fT ‹_›) | (exact hd) | (intros;simp [All];done) | (intro i hi;by_cases h1:i=0<;>by_cases h2:i<0<;>(simp [h1,h2,cvtL,cvt,idx,idx1,idO,idM,tg,tru,All]<;>first | rfl | omega)) | (intro i hi;by_cases h1:i<k<;>by_cases h2:i=k<;>(simp [h1,h2,cvtL,cvt,tg,tru,All,cM,trM]<;>omega))))
    ·
      refine pcZ hc (tqb1 n m M k) ?_ hr
      repeat' (first | exact aN | apply aI)
      all_goals (first | exact aP _ _ | omega | rfl | (intros;first | assumption | exact trivial | rfl | exact fT ‹_›) | (exact hd) | (intros;simp [All];done) | (intro i hi;by_cases h1:i=1<;>by_cases h2:i<1<;>(simp [h1,h2,cvtL,cvt,idx,idx1,idO,idM,tg,tru,All]<;>first | rfl | omega)) | (intro i hi;by_cases h1:i<k<;>by_cases h2:i=k<;>(simp [h1,h2,cvtL,cvt,tg,tru,All,cM,trM]<;>omega)) | (simp only [All];first | exact aP _ _ | omega | rfl | (intros;first | assumption | exact trivial | rfl | exact fT ‹_›) | (exact hd) | (intros;simp [All];done) | (intro i hi;by_cases h1:i=1<;>by_cases h2:i<1<;>(simp [h1,h2,cvtL,cvt,idx,idx1,idO,idM,tg,tru,All]<;>first | rfl | omega)) | (intro i hi;by_cases h1:i<k<;>by_cases h2:i=k<;>(simp [h1,h2,cvtL,cvt,tg,tru,All,cM,trM]<;>omega))))
    ·
      refine pcZ hc (tqb2 n m M k) ?_ hr
      repeat' (first | exact aN | apply aI)
      all_goals (first | exact aP _ _ | omega | rfl | (intros;first | assumption | exact trivial | rfl | exact fT ‹_›) | (exact hd) | (intros;simp [All];done) | (intro i hi;by_cases h1:i=2<;>by_cases h2:i<2<;>(simp [h1,h2,cvtL,cvt,idx,idx1,idO,idM,tg,tru,All]<;>first | rfl | omega)) | (intro i hi;by_cases h1:i<k<;>by_cases h2:i=k<;>(simp [h1,h2,cvtL,cvt,tg,tru,All,cM,trM]<;>omega)) | (simp only [All];first | exact aP _ _ | omega | rfl | (intros;first | assumption | exact trivial | rfl | exact fT ‹_›) | (exact hd) | (intros;simp [All];done) | (intro i hi;by_cases h1:i=2<;>by_cases h2:i<2<;>(simp [h1,h2,cvtL,cvt,idx,idx1,idO,idM,tg,tru,All]<;>first | rfl | omega)) | (intro i hi;by_cases h1:i<k<;>by_cases h2:i=k<;>(simp [h1,h2,cvtL,cvt,tg,tru,All,cM,trM]<;>omega))))
    ·
      refine pcZ hc (tqb3 n m M k) ?_ hr
      repeat' (first | exact aN | apply aI)
      all_goals (first | exact aP _ _ | omega | rfl | (intros;first | assumption | exact trivial | rfl | exact fT ‹_›) | (exact hd) | (intros;simp [All];done) | (intro i hi;by_cases h1:i=3<;>by_cases h2:i<3<;>(simp [h1,h2,cvtL,cvt,idx,idx1,idO,idM,tg,tru,All]<;>first | rfl | omega)) | (intro i hi;by_cases h1:i<k<;>by_cases h2:i=k<;>(simp [h1,h2,cvtL,cvt,tg,tru,All,cM,trM]<;>omega)) | (simp only [All];first | exact aP _ _ | omega | rfl | (intros;first | assumption | exact trivial | rfl | exact fT ‹_›) | (exact hd) | (intros;simp [All];done) | (intro i hi;by_cases h1:i=3<;>by_cases h2:i<3<;>(simp [h1,h2,cvtL,cvt,idx,idx1,idO,idM,tg,tru,All]<;>first | rfl | omega)) | (intro i hi;by_cases h1:i<k<;>by_cases h2:i=k<;>(simp [h1,h2,cvtL,cvt,tg,tru,All,cM,trM]<;>omega))))
    ·
      refine pcZ hc (tqb4 n m M k) ?_ hr
      repeat' (first | exact aN | apply aI)
      all_goals (first | exact aP _ _ | omega | rfl | (intros;first | assumption | exact trivial | rfl | exact fT ‹_›) | (exact hd) | (intros;simp [All];done) | (intro i hi;by_cases h1:i=4<;>by_cases h2:i<4<;>(simp [h1,h2,cvtL,cvt,idx,idx1,idO,idM,tg,tru,All]<;>first | rfl | omega)) | (intro i hi;by_cases h1:i<k<;>by_cases h2:i=k<;>(simp [h1,h2,cvtL,cvt,tg,tru,All,cM,trM]<;>omega)) | (simp only [All];first | exact aP _ _ | omega | rfl | (intros;first | assumption | exact trivial | rfl | exact fT ‹_›) | (exact hd) | (intros;simp [All];done) | (intro i hi;by_cases h1:i=4<;>by_cases h2:i<4<;>(simp [h1,h2,cvtL,cvt,idx,idx1,idO,idM,tg,tru,All]<;>first | rfl | omega)) | (intro i hi;by_cases h1:i<k<;>by_cases h2:i=k<;>(simp [h1,h2,cvtL,cvt,tg,tru,All,cM,trM]<;>omega))))
    ·
      refine pcZ hc (tqb5 n m M k) ?_ hr
      repeat' (first | exact aN | apply aI)
      all_goals (first | exact aP _ _ | omega | rfl | (intros;first | assumption | exact trivial | rfl | exact fT ‹_›) | (exact hd) | (intros;simp [All];done) | (intro i hi;by_cases h1:i=5<;>by_cases h2:i<5<;>(simp [h1,h2,cvtL,cvt,idx,idx1,idO,idM,tg,tru,All]<;>first | rfl | omega)) | (intro i hi;by_cases h1:i<k<;>by_cases h2:i=k<;>(simp [h1,h2,cvtL,cvt,tg,tru,All,cM,trM]<;>omega)) | (simp only [All];first | exact aP _ _ | omega | rfl | (intros;first | assumption | exact trivial | rfl | exact fT ‹_›) | (exact hd) | (intros;simp [All];done) | (intro i hi;by_cases h1:i=5<;>by_cases h2:i<5<;>(simp [h1,h2,cvtL,cvt,idx,idx1,idO,idM,tg,tru,All]<;>first | rfl | omega)) | (intro i hi;by_cases h1:i<k<;>by_cases h2:i=k<;>(simp [h1,h2,cvtL,cvt,tg,tru,All,cM,trM]<;>omega))))
    ·
      refine pcZ hc (tqb6 n m M k) ?_ hr
      repeat' (first | exact aN | apply aI)
      all_goals (first | exact aP _ _ | omega | rfl | (intros;first | assumption | exact trivial | rfl | exact fT ‹_›) | (exact hd) | (intros;simp [All];done) | (intro i hi;by_cases h1:i=6<;>by_cases h2:i<6<;>(simp [h1,h2,cvtL,cvt,idx,idx1,idO,idM,tg,tru,All]<;>first | rfl | omega)) | (intro i hi;by_cases h1:i<k<;>by_cases h2:i=k<;>(simp [h1,h2,cvtL,cvt,tg,tru,All,cM,trM]<;>omega)) | (simp only [All];first | exact aP _ _ | omega | rfl | (intros;first | assumption | exact trivial | rfl | exact fT ‹_›) | (exact hd) | (intros;simp [All];done) | (intro i hi;by_cases h1:i=6<;>by_cases h2:i<6<;>(simp [h1,h2,cvtL,cvt,idx,idx1,idO,idM,tg,tru,All]<;>first | rfl | omega)) | (intro i hi;by_cases h1:i<k<;>by_cases h2:i=k<;>(simp [h1,h2,cvtL,cvt,tg,tru,All,cM,trM]<;>omega))))
    ·
      refine pcZ hc (tqb7 n m M k) ?_ hr
      repeat' (first | exact aN | apply aI)
      all_goals (first | exact aP _ _ | omega | rfl | (intros;first | assumption | exact trivial | rfl | exact fT ‹_›) | (exact hd) | (intros;simp [All];done) | (intro i hi;by_cases h1:i=7<;>by_cases h2:i<7<;>(simp [h1,h2,cvtL,cvt,idx,idx1,idO,idM,tg,tru,All]<;>first | rfl | omega)) | (intro i hi;by_cases h1:i<k<;>by_cases h2:i=k<;>(simp [h1,h2,cvtL,cvt,tg,tru,All,cM,trM]<;>omega)) | (simp only [All];first | exact aP _ _ | omega | rfl | (intros;first | assumption | exact trivial | rfl | exact fT ‹_›) | (exact hd) | (intros;simp [All];done) | (intro i hi;by_cases h1:i=7<;>by_cases h2:i<7<;>(simp [h1,h2,cvtL,cvt,idx,idx1,idO,idM,tg,tru,All]<;>first | rfl | omega)) | (intro i hi;by_cases h1:i<k<;>by_cases h2:i=k<;>(simp [h1,h2,cvtL,cvt,tg,tru,All,cM,trM]<;>omega))))
    ·
      refine pcZ hc (tqb8 n m M k) ?_ hr
      repeat' (first | exact aN | apply aI)
      all_goals (first | exact aP _ _ | omega | rfl | (intros;first | assumption | exact trivial | rfl | exact fT ‹_›) | (exact hd) | (intros;simp [All];done) | (intro i hi;by_cases h1:i=8<;>by_cases h2:i<8<;>(simp [h1,h2,cvtL,cvt,idx,idx1,idO,idM,tg,tru,All]<;>first | rfl | omega)) | (intro i hi;by_cases h1:i<k<;>by_cases h2:i=k<;>(simp [h1,h2,cvtL,cvt,tg,tru,All,cM,trM]<;>omega)) | (simp only [All];first | exact aP _ _ | omega | rfl | (intros;first | assumption | exact trivial | rfl | exact fT ‹_›) | (exact hd) | (intros;simp [All];done) | (intro i hi;by_cases h1:i=8<;>by_cases h2:i<8<;>(simp [h1,h2,cvtL,cvt,idx,idx1,idO,idM,tg,tru,All]<;>first | rfl | omega)) | (intro i hi;by_cases h1:i<k<;>by_cases h2:i=k<;>(simp [h1,h2,cvtL,cvt,tg,tru,All,cM,trM]<;>omega))))
    ·
      refine pcZ hc (tqb9 n m M k) ?_ hr
      repeat' (first | exact aN | apply aI)
      all_goals (first | exact aP _ _ | omega | rfl | (intros;first | assumption | exact trivial | rfl | exact fT ‹_›) | (exact hd) | (intros;simp [All];done) | (intro i hi;by_cases h1:i=9<;>by_cases h2:i<9<;>(simp [h1,h2,cvtL,cvt,idx,idx1,idO,idM,tg,tru,All]<;>first | rfl | omega)) | (intro i hi;by_cases h1:i<k<;>by_cases h2:i=k<;>(simp [h1,h2,cvtL,cvt,tg,tru,All,cM,trM]<;>omega)) | (simp only [All];first | exact aP _ _ | omega | rfl | (intros;first | assumption | exact trivial | rfl | exact fT ‹_›) | (exact hd) | (intros;simp [All];done) | (intro i hi;by_cases h1:i=9<;>by_cases h2:i<9<;>(simp [h1,h2,cvtL,cvt,idx,idx1,idO,idM,tg,tru,All]<;>first | rfl | omega)) | (intro i hi;by_cases h1:i<k<;>by_cases h2:i=k<;>(simp [h1,h2,cvtL,cvt,tg,tru,All,cM,trM]<;>omega))))
    ·
      refine pcZ hc (tqb10 n m M k) ?_ hr
      repeat' (first | exact aN | apply aI)
      all_goals (first | exact aP _ _ | omega | rfl | (intros;first | assumption | exact trivial | rfl | exact fT ‹_›) | (exact hd) | (intros;simp [All];done) | (intro i hi;by_cases h1:i=10<;>by_cases h2:i<10<;>(simp [h1,h2,cvtL,cvt,idx,idx1,idO,idM,tg,tru,All]<;>first | rfl | omega)) | (intro i hi;by_cases h1:i<k<;>by_cases h2:i=k<;>(simp [h1,h2,cvtL,cvt,tg,tru,All,cM,trM]<;>omega)) | (simp only [All];first | exact aP _ _ | omega | rfl | (intros;first | assumption | exact trivial | rfl | exact fT ‹_›) | (exact hd) | (intros;simp [All];done) | (intro i hi;by_cases h1:i=10<;>by_cases h2:i<10<;>(simp [h1,h2,cvtL,cvt,idx,idx1,idO,idM,tg,tru,All]<;>first | rfl | omega)) | (intro i hi;by_cases h1:i<k<;>by_cases h2:i=k<;>(simp [h1,h2,cvtL,cvt,tg,tru,All,cM,trM]<;>omega))))
    ·
      refine pcZ hc (tqb11 n m M k) ?_ hr
      repeat' (first | exact aN | apply aI)
      all_goals (first | exact aP _ _ | omega | rfl | (intros;first | assumption | exact trivial | rfl | exact fT ‹_›) | (exact hd) | (intros;simp [All];done) | (intro i hi;by_cases h1:i=11<;>by_cases h2:i<11<;>(simp [h1,h2,cvtL,cvt,idx,idx1,idO,idM,tg,tru,All]<;>first | rfl | omega)) | (intro i hi;by_cases h1:i<k<;>by_cases h2:i=k<;>(simp [h1,h2,cvtL,cvt,tg,tru,All,cM,trM]<;>omega)) | (simp only [All];first | exact aP _ _ | omega | rfl | (intros;first | assumption | exact trivial | rfl | exact fT ‹_›) | (exact hd) | (intros;simp [All];done) | (intro i hi;by_cases h1:i=11<;>by_cases h2:i<11<;>(simp [h1,h2,cvtL,cvt,idx,idx1,idO,idM,tg,tru,All]<;>first | rfl | omega)) | (intro i hi;by_cases h1:i<k<;>by_cases h2:i=k<;>(simp [h1,h2,cvtL,cvt,tg,tru,All,cM,trM]<;>omega))))
  have lo:∀ d a,a+d=n→Run Tryz.prog c 332 zf89 (Tq0 n m M a) (Post c [(0,ooOb 1 n (cM m (trM M))),(1,ffOb n (cM m (trM M)))] (.ar 1 0 0 n)):=by
    intro d
    induction d with
    | zero =>
      intro a ha
      obtain rfl:a=n:=by omega
      have hd:decide ((a:Int)<(a:Int))=false:=decide_eq_false (by omega)
      refine pkZ Tryz.func332 hc (tqe a m M) ?_
      repeat' (first | exact aN | apply aI)
      all_goals (first | exact aP _ _ | exact aE _ | omega | rfl | (intros;first | assumption | exact trivial | rfl) | (exact hd) | (intro i hi;simp [hi,cvtL,cvt,idx,idx1,idO,idM,tg,tru,All];done) | (intro i hi;simp [All];done) | (intros;simp [All];done) | (simp only [All];first | exact aP _ _ | exact aE _ | omega | rfl | (intros;first | assumption | exact trivial | rfl) | (exact hd) | (intro i hi;simp [hi,cvtL,cvt,idx,idx1,idO,idM,tg,tru,All];done) | (intro i hi;simp [All];done) | (intros;simp [All];done)))
    | succ d ih =>
      intro a ha
      have hd:decide ((a:Int)<(n:Int))=true:=decide_eq_true (by omega)
      have li:∀ d k,k+d=m→Run Tryz.prog c 332 zf18 (Tq1 n m M a k) (Post c [(0,ooOb 1 n (cM m (trM M))),(1,ffOb n (cM m (trM M)))] (.ar 1 0 0 n)):=by
        intro d
        induction d with
        | zero =>
          intro k hk
          obtain rfl:k=m:=by omega
          have hd:decide ((k:Int)<(k:Int))=false:=decide_eq_false (by omega)
          refine pcZ hc (tqc n k M a) ?_ (ih (a+1) (by omega))
          repeat' (first | exact aN | apply aI)
          all_goals (first | exact aP _ _ | omega | rfl | (intros;first | assumption | exact trivial | rfl | exact fT ‹_› | ((repeat' (first | assumption | apply anda | apply notf));done)) | (exact hd) | (intro i hi;by_cases h1:i=a<;>by_cases h2:i<a<;>by_cases h3:i<a+1<;>(simp [h1,h2,h3,cvtL,cvt,idx,idx1,idO,idM,tg,tru,All]<;>first | rfl | omega)) | (intro i hi hne;refine ⟨by omega,?_⟩;simp [All];done) | (intro i;simp [All,cM,trM];done) | (intros;simp [All];done) | (simp only [All];first | exact aP _ _ | omega | rfl | (intros;first | assumption | exact trivial | rfl | exact fT ‹_› | ((repeat' (first | assumption | apply anda | apply notf));done)) | (exact hd) | (intro i hi;by_cases h1:i=a<;>by_cases h2:i<a<;>by_cases h3:i<a+1<;>(simp [h1,h2,h3,cvtL,cvt,idx,idx1,idO,idM,tg,tru,All]<;>first | rfl | omega)) | (intro i hi hne;refine ⟨by omega,?_⟩;simp [All];done) | (intro i;simp [All,cM,trM];done) | (intros;simp [All];done)))
        | succ d ih2 =>
          intro k hk
          exact stp a k (by omega) (by omega) (ih2 (k+1) (by omega))
      refine pcZ hc (tqa n m M a) ?_ (li m 0 (by omega))
      repeat' (first | exact aN | apply aI)
      all_goals (first | exact aP _ _ | omega | rfl | (intros;first | assumption | exact trivial | rfl | exact fT ‹_›) | (exact hd) | (intro i hi;by_cases h1:i=a<;>by_cases h2:i<a<;>(simp [h1,h2,cvtL,cvt,idx,idx1,idO,idM,tg,tru,All]<;>first | rfl | omega)) | (intro t ht;exact absurd ht (Nat.not_lt_zero _)) | (intros;simp [All];done) | (simp only [All];first | exact aP _ _ | omega | rfl | (intros;first | assumption | exact trivial | rfl | exact fT ‹_›) | (exact hd) | (intro i hi;by_cases h1:i=a<;>by_cases h2:i<a<;>(simp [h1,h2,cvtL,cvt,idx,idx1,idO,idM,tg,tru,All]<;>first | rfl | omega)) | (intro t ht;exact absurd ht (Nat.not_lt_zero _)) | (intros;simp [All];done)))
  refine pcZ hc (tqz n m M) ?_ (lo n 0 (by omega))
  repeat' (first | exact aN | apply aI)
  all_goals (first | exact aP _ _ | exact aA _ _ | omega | rfl | (intros;first | assumption | exact trivial | rfl) | (intro t ht;exact absurd ht (Nat.not_lt_zero _)) | (intro t ht;simp [All];done) | (intros;simp [All];done))
theorem con_Turned {g:Nat→T_Bar} {nb N:Nat} {pl:Nat→T_Place} {np:Nat} (hf:fwB g nb N pl np=true) (h0:1≤nb) :
    Con Tryz.prog 331 0 [] [frA g nb N pl np] [(0,ooOb 1 (2*N) (cM nb (trM (rgM g pl)))),(1,ffOb (2*N) (cM nb (trM (rgM g pl))))] (.ar 1 0 0 (2*N)):=by
  obtain ⟨h1,h2,h3,h4,hok,hb⟩:=fw_ok hf
  have m2:=con_RM_s hf
  generalize rgM g pl=M at m2 ⊢
  refine csZ Tryz.func331 (fun c hc=>?_)
  have lo:∀ d j,j+d=2*N→Run Tryz.prog c 331 zf60 (Tu0 g nb N pl np M j) (Post c [(0,ooOb 1 (2*N) (cM nb (trM M))),(1,ffOb (2*N) (cM nb (trM M)))] (.ar 1 0 0 (2*N))):=by
    intro d
    induction d with
    | zero =>
      intro j hj
      obtain rfl:j=2*N:=by omega
      have hd:(bif decide (((2*N:Nat):Int)<2*(N:Int)) then decide ((nb:Int)>0) else false)=false:=by rw [decide_eq_false (by omega)];rfl
      refine pkZ Tryz.func331 hc (tue g nb N pl np M) ?_
      repeat' (first | exact aN | apply aI)
      all_goals (first | exact aG _ | exact aP _ _ | exact aA _ _ | exact aE _ | omega | rfl | (intros;first | assumption | exact trivial | rfl) | (exact hd) | (intro h;exact h) | (intros;simp [All];done) | (simp only [All];first | exact aG _ | exact aP _ _ | exact aA _ _ | exact aE _ | omega | rfl | (intros;first | assumption | exact trivial | rfl) | (exact hd) | (intro h;exact h) | (intros;simp [All];done)))
    | succ d ih =>
      intro j hj
      have hd:(bif decide ((j:Int)<2*(N:Int)) then decide ((nb:Int)>0) else false)=true:=by rw [decide_eq_true (by omega),decide_eq_true (by omega)];rfl
      have li:∀ d i,i+d=nb→Run Tryz.prog c 331 zf13 (Tu1 g nb N pl np M j i) (Post c [(0,ooOb 1 (2*N) (cM nb (trM M))),(1,ffOb (2*N) (cM nb (trM M)))] (.ar 1 0 0 (2*N))):=by
        intro d
        induction d with
        | zero =>
          intro i hi
          obtain rfl:i=nb:=by omega
          have hd:decide ((i:Int)<(i:Int))=false:=decide_eq_false (by omega)
          refine pcZ hc (tuc g i N pl np M j i) ?_ (ih (j+1) (by omega))
          repeat' (first | exact aN | apply aI)
          all_goals (first | exact aP _ _ | exact aA _ _ | omega | rfl | (intros;first | assumption | exact trivial | rfl | exact fT ‹_› | ((repeat' (first | assumption | apply anda | apply notf));done)) | (exact hd) | (intro a ha;by_cases h1:a<j<;>(simp [h1,cvtL,cvt,idx,idx1,idO,idM,tg,tru,All]<;>first | rfl | omega)) | (intro a ha hne;refine ⟨by omega,?_⟩;simp [All];done) | (intro a;simp [All,cM];done) | (intros;simp [All];done) | (simp only [All];first | exact aP _ _ | exact aA _ _ | omega | rfl | (intros;first | assumption | exact trivial | rfl | exact fT ‹_› | ((repeat' (first | assumption | apply anda | apply notf));done)) | (exact hd) | (intro a ha;by_cases h1:a<j<;>(simp [h1,cvtL,cvt,idx,idx1,idO,idM,tg,tru,All]<;>first | rfl | omega)) | (intro a ha hne;refine ⟨by omega,?_⟩;simp [All];done) | (intro a;simp [All,cM];done) | (intros;simp [All];done)))
        | succ d ih2 =>
          intro i hi
          have hd:decide ((i:Int)<(nb:Int))=true:=decide_eq_true (by omega)
          refine pcZ hc (tub g nb N pl np M j i) ?_ (ih2 (i+1) (by omega))
          repeat' (first | exact aN | apply aI)
          all_goals (first | exact aP _ _ | exact aA _ _ | omega | rfl | (intros;first | assumption | exact trivial | rfl) | (exact hd) | (intro a ha;by_cases h1:a<i<;>by_cases h2:a=i<;>(simp [h1,h2,cvtL,cvt,tg,tru,All,cM,trM]<;>omega)) | (intros;simp [All];done) | (simp only [All];first | exact aP _ _ | exact aA _ _ | omega | rfl | (intros;first | assumption | exact trivial | rfl) | (exact hd) | (intro a ha;by_cases h1:a<i<;>by_cases h2:a=i<;>(simp [h1,h2,cvtL,cvt,tg,tru,All,cM,trM]<;>omega)) | (intros;simp [All];done)))
      refine pcZ hc (tua g nb N pl np M j) ?_ (li nb 0 (by omega))
      repeat' (first | exact aN | apply aI)
      all_goals (first | exact aG _ | exact aP _ _ | exact aA _ _ | omega | rfl | (intros;first | assumption | exact trivial | rfl) | (exact hd) | (intro h;exact h) | (intro t ht;exact absurd ht (Nat.not_lt_zero _)) | (intros;simp [All];done) | (simp only [All];first | exact aG _ | exact aP _ _ | exact aA _ _ | omega | rfl | (intros;first | assumption | exact trivial | rfl) | (exact hd) | (intro h;exact h) | (intro t ht;exact absurd ht (Nat.not_lt_zero _)) | (intros;simp [All];done)))
  refine pcZ hc (tuz g nb N pl np M) ?_ (lo (2*N) 0 (by omega))
  repeat' (first | exact aN | apply aI)
  all_goals (first | exact aP _ _ | exact aA _ _ | omega | rfl | (intros;first | assumption | exact trivial | rfl) | (exact m2) | (intro t ht;exact absurd ht (Nat.not_lt_zero _)) | (intros;simp [All];done) | (simp only [All];first | exact aP _ _ | exact aA _ _ | omega | rfl | (intros;first | assumption | exact trivial | rfl) | (exact m2) | (intro t ht;exact absurd ht (Nat.not_lt_zero _)) | (intros;simp [All];done)))
def stF (g:Nat→T_Bar) (nb N:Nat) (pl:Nat→T_Place):Nat×(Nat→Nat→Int):=Had.nul nb (2*N) (trM (rgM g pl))
theorem stF_le (g:Nat→T_Bar) (nb N:Nat) (pl:Nat→T_Place):(stF g nb N pl).1≤nb:=Had.nsl_le _ _ _
theorem con_StressesOf {g:Nat→T_Bar} {nb N:Nat} {pl:Nat→T_Place} {np:Nat} (hf:fwB g nb N pl np=true) :
    Con Tryz.prog 261 0 [] [frA g nb N pl np] [(0,ooOb 1 (stF g nb N pl).1 (cM nb (stF g nb N pl).2)),(1,ffOb (stF g nb N pl).1 (cM nb (stF g nb N pl).2))] (.ar 1 0 0 (stF g nb N pl).1) ∧
    Con Tryz.prog 258 0 [] [frA g nb N pl np] [(0,ooOb 1 (stF g nb N pl).1 (cM nb (stF g nb N pl).2)),(1,ffOb (stF g nb N pl).1 (cM nb (stF g nb N pl).2))] (.ar 1 0 0 (stF g nb N pl).1):=by
  obtain ⟨h1,h2,h3,h4,hok,hb⟩:=fw_ok hf
  have f1:=con_IsFramework_i g nb N pl np (by omega)
  have f2:=con_IsFramework_s g nb N pl np (by omega)
  rw [hf] at f1 f2
  by_cases h0:nb=0
  · subst h0
    rw [show stF g 0 N pl=(0,fun _ _=>0) from rfl]
    constructor
    · refine csZ Tryz.func261 (fun c hc=>?_)
      refine pkZ Tryz.func261 hc (stIe g 0 N pl np) ?_
      repeat' (first | exact aN | apply aI)
      all_goals (first | exact aG _ | exact aE _ | omega | rfl | (intros;first | assumption | exact trivial | rfl | exact fT ‹_› | ((repeat' (first | assumption | apply anda | apply notf));done)) | (exact f1) | (intro t ht;exact absurd ht (Nat.not_lt_zero _)) | (intro h;exact h) | (intros;simp [All];done) | (simp only [All];first | exact aG _ | exact aE _ | omega | rfl | (intros;first | assumption | exact trivial | rfl | exact fT ‹_› | ((repeat' (first | assumption | apply anda | apply notf));done)) | (exact f1) | (intro t ht;exact absurd ht (Nat.not_lt_zero _)) | (intro h;exact h) | (intros;simp [All];done)))
    · refine csZ Tryz.func258 (fun c hc=>?_)
      refine pkZ Tryz.func258 hc (stSe g 0 N pl np) ?_
      repeat' (first | exact aN | apply aI)
      all_goals (first | exact aG _ | exact aE _ | omega | rfl | (intros;first | assumption | exact trivial | rfl | exact fT ‹_› | ((repeat' (first | assumption | apply anda | apply notf));done)) | (exact f2) | (intro t ht;exact absurd ht (Nat.not_lt_zero _)) | (intro h;exact h) | (intros;simp [All];done) | (simp only [All];first | exact aG _ | exact aE _ | omega | rfl | (intros;first | assumption | exact trivial | rfl | exact fT ‹_› | ((repeat' (first | assumption | apply anda | apply notf));done)) | (exact f2) | (intro t ht;exact absurd ht (Nat.not_lt_zero _)) | (intro h;exact h) | (intros;simp [All];done)))
  · have hd:(bif !true then true else (nb:Int)==0)=false:=by
      show ((nb:Int)==0)=false
      exact beq_eq_false_iff_ne.2 (by omega)
    have m1:=con_RM_i hf
    have t1:=con_transposed (2*N) nb (rgM g pl) (by omega) (by omega)
    have t2:=con_Turned hf (by omega)
    obtain ⟨K,hK⟩:=hb.tr_ok
    have n1:=con_null_i (n:=nb) (m:=2*N) (M:=trM (rgM g pl)) (K:=K) (by omega) (by omega) (by decide) Had.big96 hK
    have n2:=con_null_s (n:=nb) (m:=2*N) (M:=trM (rgM g pl)) (K:=K) (by omega) (by omega) (by decide) Had.big96 (by decide) hK
    rw [show ((2*N:Nat):Int)=2*(N:Int) by omega] at t1
    unfold stF
    generalize Had.nul nb (2*N) (trM (rgM g pl))=Y at *
    constructor
    · refine csZ Tryz.func261 (fun c hc=>?_)
      refine pkZ Tryz.func261 hc (stI g nb N pl np (rgM g pl) Y.2 Y.1) ?_
      repeat' (first | exact aN | apply aI)
      all_goals (first | exact aG _ | exact aP _ _ | exact aA _ _ | exact aE _ | omega | rfl | (intros;first | assumption | exact trivial | rfl | exact fT ‹_› | ((repeat' (first | assumption | apply anda | apply notf));done)) | (exact f1) | (exact hd) | (exact m1) | (exact t1) | (exact n1) | (intro h;exact h) | (intro t ht;simp only [All];exact ⟨ht,trivial,Nat.le_refl _,trivial⟩) | (intro t ht;simp [All];omega) | (intro t ht;simp [All];done) | (simp only [All];first | exact aG _ | exact aP _ _ | exact aA _ _ | exact aE _ | omega | rfl | (intros;first | assumption | exact trivial | rfl | exact fT ‹_› | ((repeat' (first | assumption | apply anda | apply notf));done)) | (exact f1) | (exact hd) | (exact m1) | (exact t1) | (exact n1) | (intro h;exact h) | (intro t ht;simp only [All];exact ⟨ht,trivial,Nat.le_refl _,trivial⟩) | (intro t ht;simp [All];omega) | (intro t ht;simp [All];done)))
    · refine csZ Tryz.func258 (fun c hc=>?_)
      refine pkZ Tryz.func258 hc (stS g nb N pl np (rgM g pl) Y.2 Y.1) ?_
      repeat' (first | exact aN | apply aI)
      all_goals (first | exact aG _ | exact aP _ _ | exact aA _ _ | exact aE _ | omega | rfl | (intros;first | assumption | exact trivial | rfl | exact fT ‹_› | ((repeat' (first | assumption | apply anda | apply notf));done)) | (exact f2) | (exact hd) | (exact t2) | (exact n2) | (intro h;exact h) | (intro t ht;simp only [All];exact ⟨ht,trivial,Nat.le_refl _,trivial⟩) | (intro t ht;simp [All];omega) | (intro t ht;simp [All];done) | (simp only [All];first | exact aG _ | exact aP _ _ | exact aA _ _ | exact aE _ | omega | rfl | (intros;first | assumption | exact trivial | rfl | exact fT ‹_› | ((repeat' (first | assumption | apply anda | apply notf));done)) | (exact f2) | (exact hd) | (exact t2) | (exact n2) | (intro h;exact h) | (intro t ht;simp only [All];exact ⟨ht,trivial,Nat.le_refl _,trivial⟩) | (intro t ht;simp [All];omega) | (intro t ht;simp [All];done)))
end Go.Proofs.YtkkjoghiigiokaaGreat.Mach
namespace Go.Proofs.YtkkjoghiigiokaaGreat.Mach
open Go
set_option linter.unusedVariables false
set_option linter.unusedSimpArgs false
theorem con_Tries {n q:Nat} {S:Nat→Nat→Int} (hn:n≤1000) (hq:q≤1000) (hS:∀ i,i<q→∀ j,j<n→-1073741824≤S i j∧S i j≤1073741824) :
    Con Tryz.prog 257 0 [] [ssA2 q (cM n S),.p (.int .i64 n)] [(0,ssOb (5 ^ (min q 3)) (cM n (trS S (min q 3))))] (.ar 1 0 0 (5 ^ (min q 3))):=by
  refine csZ Tryz.func257 (fun c hc=>?_)
  generalize hp:min q 3=p
  have hp3:p≤3∧p≤q∧(p=q∨p=3):=by omega
  have lo:∀ d i,i+d=p→Run Tryz.prog c 257 zf86 (Lt0 n q S i (5 ^ i)) (Post c [(0,ssOb (5 ^ p) (cM n (trS S p)))] (.ar 1 0 0 (5 ^ p))):=by
    intro d
    induction d with
    | zero =>
      intro i hi
      obtain rfl:i=p:=by omega
      have hd:(bif decide ((i:Int)<(q:Int)) then decide ((i:Int)<3) else false)=false:=by
        rcases hp3.2.2 with h | h
        · rw [decide_eq_false (show ¬ ((i:Int)<(q:Int)) by omega)];rfl
        · rw [decide_eq_false (show ¬ ((i:Int)<3) by omega)];cases decide ((i:Int)<(q:Int))<;>rfl
      refine pkZ Tryz.func257 hc (lte n q S i (5 ^ i)) ?_
      repeat' (first | exact aN | apply aI)
      all_goals (first | exact aG _ | exact aA _ _ | exact aE _ | omega | rfl | (intros;first | assumption | exact trivial | rfl) | (exact hd) | (intro h;exact h) | (intros;simp [All];done) | (simp only [All];first | exact aG _ | exact aA _ _ | exact aE _ | omega | rfl | (intros;first | assumption | exact trivial | rfl) | (exact hd) | (intro h;exact h) | (intros;simp [All];done)))
    | succ d ih =>
      intro i hi
      have hd:(bif decide ((i:Int)<(q:Int)) then decide ((i:Int)<3) else false)=true:=by
        rw [decide_eq_true (show ((i:Int)<(q:Int)) by omega),decide_eq_true (show ((i:Int)<3) by omega)];rfl
      have hr:=ih (i+1) (by omega)
      have hC:5 ^ (i+1)=5*5 ^ i:=by rw [Nat.pow_succ,Nat.mul_comm]
      have hC3:5 ^ i≤125:=by
        have:i=0∨i=1∨i=2:=by omega
        rcases this with rfl | rfl | rfl<;>decide
      rw [hC] at hr
      have hb:∀ t j,j<n→-(2*1073741824*(i:Int))≤trS S i t j∧trS S i t j≤2*1073741824*(i:Int):=fun t j hj=>trS_b (B:=1073741824) (p:=q) (n:=n) hS i (by omega) t j hj
      generalize 5 ^ i=C at *
      have lk:∀ d k,k+d=C→Run Tryz.prog c 257 zf14 (Lt1 n q S i C k) (Post c [(0,ssOb (5 ^ p) (cM n (trS S p)))] (.ar 1 0 0 (5 ^ p))):=by
        intro d
        induction d with
        | zero =>
          intro k hk
          obtain rfl:k=C:=by omega
          have hd:decide ((k:Int)<(k:Int))=false:=decide_eq_false (by omega)
          refine pcZ hc (ltc n q S i k (5*k) k) ?_ hr
          repeat' (first | exact aN | apply aI)
          all_goals (first | exact aP _ _ | exact aA _ _ | omega | rfl | (intros;first | assumption | exact trivial | rfl) | (exact hd) | (intros;simp [All];done))
        | succ d ih2 =>
          intro k hk
          have hd:decide ((k:Int)<(C:Int))=true:=decide_eq_true (by omega)
          have la:∀ d a,a+d=5→Run Tryz.prog c 257 zf3 (Lt2 n q S i C k a) (Post c [(0,ssOb (5 ^ p) (cM n (trS S p)))] (.ar 1 0 0 (5 ^ p))):=by
            intro d
            induction d with
            | zero =>
              intro a ha
              have hd:decide ((a:Int) - 2≤2)=false:=decide_eq_false (by omega)
              refine pcZ hc (ltf n q S i C k a) ?_ (ih2 (k+1) (by omega))
              repeat' (first | exact aN | apply aI)
              all_goals (first | exact aP _ _ | exact aA _ _ | omega | rfl | (intros;first | assumption | exact trivial | rfl) | (exact hd) | (intros;simp [All];done))
            | succ d ih3 =>
              intro a ha
              have hd:decide ((a:Int) - 2≤2)=true:=decide_eq_true (by omega)
              have lj:∀ d j,j+d=n→Run Tryz.prog c 257 zf1 (Lt3 n q S i C k a j) (Post c [(0,ssOb (5 ^ p) (cM n (trS S p)))] (.ar 1 0 0 (5 ^ p))):=by
                intro d
                induction d with
                | zero =>
                  intro j hj
                  obtain rfl:j=n:=by omega
                  have hd:decide ((j:Int)<(j:Int))=false:=decide_eq_false (by omega)
                  refine pcZ hc (lth j q S i C k a) ?_ (ih3 (a+1) (by omega))
                  repeat' (first | exact aN | apply aI)
                  all_goals (first | exact aP _ _ | exact aA _ _ | omega | rfl | (intros;first | assumption | exact trivial | rfl) | (exact hd) | (intros;simp [All];done) | (intro t ht;by_cases h1:t<5*k+a<;>by_cases h2:t=5*k+a<;>(simp [h1,h2,cvtL,cvt,lendP,cellP,tab,idx,idx1,lkk,idO,idM,Ob.isF,List.lookup,iOb,tg,tru,All,cM]<;>omega)))
                | succ d ih4 =>
                  intro j hj
                  have hd:decide ((j:Int)<(n:Int))=true:=decide_eq_true (by omega)
                  have b1:=hb k j (by omega)
                  have b2:=hS i (by omega) j (by omega)
                  have m1:=Trv.bdm (a:=(a:Int) - 2) (b:=S i j) (A:=2) (B:=1073741824) (by omega) b2
                  have e1:(cM n S i).2 j=S i j:=rfl
                  have e2:(cM n (trS S i) k).2 j=trS S i k j:=rfl
                  have e3:trS S (i+1) (5*k+a) j=trS S i k j+((a:Int) - 2)*S i j:=by
                    rw [trS,show (5*k+a) / 5=k by omega,show (5*k+a) % 5=a by omega]
                  refine pcZ hc (ltg n q S i C k a j) ?_ (ih4 (j+1) (by omega))
                  repeat' (first | exact aN | apply aI)
                  all_goals (first | exact aP _ _ | exact aA _ _ | omega | rfl | (intros;first | assumption | exact trivial | rfl) | (exact hd) | (rw [e1];omega) | (rw [e1,e2];omega) | (intros;simp [All];done) | (intro t ht;by_cases h1:t<j<;>by_cases h2:t=j<;>(simp [h1,h2,cvtL,cvt,tg,tru,All,cM,e3]<;>omega)))
              refine pcZ hc (ltd n q S i C k a) ?_ (lj n 0 (by omega))
              repeat' (first | exact aN | apply aI)
              all_goals (first | exact aP _ _ | exact aA _ _ | omega | rfl | (intros;first | assumption | exact trivial | rfl) | (exact hd) | (intro t ht;exact absurd ht (Nat.not_lt_zero _)) | (intros;simp [All];done) | (simp only [All];first | exact aP _ _ | exact aA _ _ | omega | rfl | (intros;first | assumption | exact trivial | rfl) | (exact hd) | (intro t ht;exact absurd ht (Nat.not_lt_zero _)) | (intros;simp [All];done)))
          refine pcZ hc (ltb n q S i C k) ?_ (la 5 0 rfl)
          repeat' (first | exact aN | apply aI)
          all_goals (first | exact aP _ _ | exact aA _ _ | omega | rfl | (intros;first | assumption | exact trivial | rfl) | (exact hd) | (intros;simp [All];done))
      refine pcZ hc (lta n q S i C) ?_ (lk C 0 (by omega))
      repeat' (first | exact aN | apply aI)
      all_goals (first | exact aG _ | exact aP _ _ | exact aA _ _ | omega | rfl | (intros;first | assumption | exact trivial | rfl) | (exact hd) | (intro h;exact h) | (intro t ht;exact absurd ht (Nat.not_lt_zero _)) | (intros;simp [All];done) | (simp only [All];first | exact aG _ | exact aP _ _ | exact aA _ _ | omega | rfl | (intros;first | assumption | exact trivial | rfl) | (exact hd) | (intro h;exact h) | (intro t ht;exact absurd ht (Nat.not_lt_zero _)) | (intros;simp [All];done)))
  refine pcZ hc (ltz n q S) ?_ (lo p 0 (by omega))
  repeat' (first | exact aN | apply aI)
  all_goals (first | exact aP _ _ | omega | rfl | (intros;first | assumption | exact trivial | rfl) | (intros;simp [All];done) | (intro t ht;simp [All,cM,trS];done) | (simp only [All];first | exact aP _ _ | omega | rfl | (intros;first | assumption | exact trivial | rfl) | (intros;simp [All];done) | (intro t ht;simp [All,cM,trS];done)))
noncomputable def gdB (g:Nat→T_Bar) (nb:Nat) (N:Int) (pl:Nat→T_Place) (np:Nat) (K:T_IntS) (w:Nat→Int):Bool:=strcB g nb N pl np K (nb,w)
theorem con_FsRec {g:Nat→T_Bar} {nb:Nat} {N:Int} {pl:Nat→T_Place} {np:Nat} {K:T_IntS} {q p:Nat} {S:Nat→Nat→Int} (hn:nb≤1000∧np≤1000) (hK:K.1≤1000) (hq:p≤q∧p≤3∧q≤1000)
    (hS:∀ i,i<p→∀ j,j<nb→-1073741824≤S i j∧S i j≤1073741824) :
    ∀ d i (w:Nat→Int),i+d=p→(∀ j,j<nb→-(2147483648*(i:Int))≤w j∧w j≤2147483648*(i:Int)) →
    Con Tryz.prog 262 6 (fsH g nb N pl np K q p S 5 nb w) [.ar 1 5 0 nb,.p (.int .i64 i),.pt 1 0 0 0,.pt 4 3 0 0,.pt 1 4 0 0]
      (fsH g nb N pl np K q p S 6 (fsS (gdB g nb N pl np K) nb S d i w).2.1 (fsS (gdB g nb N pl np K) nb S d i w).2.2)
      (.tup [.ar 1 6 0 (fsS (gdB g nb N pl np K) nb S d i w).2.1,.p (.bool (fsS (gdB g nb N pl np K) nb S d i w).1)]):=by
  intro d
  induction d with
  | zero =>
    intro i w hi hw
    have cs:=con_Strict_i g nb N pl np K (nb,w) (by omega) (by omega) (by show nb≤_;omega)
    have h0:((i:Int)==(p:Int))=true:=beq_iff_eq.2 (by omega)
    rw [fsS]
    refine csZ Tryz.func262 (fun c hc=>?_)
    refine pkZ Tryz.func262 hc (fiB g nb N pl np K q p S i w (gdB g nb N pl np K w)) ?_
    repeat' (first | exact aN | apply aI)
    all_goals (first | exact aP _ _ | exact aA _ _ | exact aE _ | omega | rfl | (intros;first | assumption | exact trivial | rfl) | (exact h0) | (exact cs) | (intros;simp [All];done) | (simp only [All];first | exact aP _ _ | exact aA _ _ | exact aE _ | omega | rfl | (intros;first | assumption | exact trivial | rfl) | (exact h0) | (exact cs) | (intros;simp [All];done)))
  | succ d ih =>
    intro i w hi hw
    have h0:((i:Int)==(p:Int))=false:=beq_eq_false_iff_ne.2 (by omega)
    have cc:=con_copyInts nb w (by omega)
    change Con _ _ _ _ _ [(0,iOb nb w)] (.ar 1 0 0 nb) at cc
    rw [fsS]
    refine csZ Tryz.func262 (fun c hc=>?_)
    generalize hF:(fun f=>fsS (gdB g nb N pl np K) nb S d (i+1) (adV w (S i) f))=F
    have lo:∀ (e:Nat) (f:Int),f+e=3→-2≤f→Run Tryz.prog c 262 zf87 (Fs0 g nb N pl np K q p S i w f)
        (Post c (fsH g nb N pl np K q p S 6 (goF F e f).2.1 (goF F e f).2.2) (.tup [.ar 1 6 0 (goF F e f).2.1,.p (.bool (goF F e f).1)])):=by
      intro e
      induction e with
      | zero =>
        intro f hf _
        have hd:decide (f≤2)=false:=decide_eq_false (by omega)
        rw [goF]
        refine pkZ Tryz.func262 hc (fif g nb N pl np K q p S i w f) ?_
        repeat' (first | exact aN | apply aI)
        all_goals (first | exact aP _ _ | exact aA _ _ | exact aE _ | omega | rfl | (intros;first | assumption | exact trivial | rfl) | (exact hd) | (intro t ht;exact absurd ht (Nat.not_lt_zero _)) | (intros;simp [All];done) | (simp only [All];first | exact aP _ _ | exact aA _ _ | exact aE _ | omega | rfl | (intros;first | assumption | exact trivial | rfl) | (exact hd) | (intro t ht;exact absurd ht (Nat.not_lt_zero _)) | (intros;simp [All];done)))
      | succ e ihe =>
        intro f hf hf2
        have hd:decide (f≤2)=true:=decide_eq_true (by omega)
        have hr:=ihe (f+1) (by omega) (by omega)
        have ca:=ih (i+1) (adV w (S i) f) (by omega) (fun j hj=>by
          have b1:=hw j hj
          have b2:=hS i (by omega) j hj
          have m1:=Trv.bdm (a:=f) (b:=S i j) (A:=2) (B:=1073741824) (by omega) b2
          show -(2147483648*((i+1:Nat):Int))≤w j+f*S i j∧w j+f*S i j≤2147483648*((i+1:Nat):Int)
          omega)
        rw [show ((i+1:Nat):Int)=(i:Int)+1 by omega] at ca
        have hFf:fsS (gdB g nb N pl np K) nb S d (i+1) (adV w (S i) f)=F f:=by rw [← hF]
        rw [hFf] at ca
        have fin:Run Tryz.prog c 262 ficE (Fs2 g nb N pl np K q p S i w f (adV w (S i) f))
            (Post c (fsH g nb N pl np K q p S 6 (goF F (e+1) f).2.1 (goF F (e+1) f).2.2) (.tup [.ar 1 6 0 (goF F (e+1) f).2.1,.p (.bool (goF F (e+1) f).1)])):=by
          rw [goF]
          cases hb:(F f).1 with
          | true =>
            rw [if_pos rfl]
            rw [hb] at ca
            generalize F f=r at ca ⊢
            refine pkZ Tryz.func262 hc (fid g nb N pl np K q p S i w f (adV w (S i) f) r.2.2 r.2.1) ?_
            repeat' (first | exact aN | apply aI)
            all_goals (first | exact aP _ _ | exact aA _ _ | exact aE _ | omega | rfl | (intros;first | assumption | exact trivial | rfl) | (exact ca) | (intros;simp [All];done) | (simp only [All];first | exact aP _ _ | exact aA _ _ | exact aE _ | omega | rfl | (intros;first | assumption | exact trivial | rfl) | (exact ca) | (intros;simp [All];done)))
          | false =>
            rw [if_neg Bool.false_ne_true]
            rw [hb] at ca
            generalize F f=r at ca ⊢
            refine pcZ hc (fie g nb N pl np K q p S i w f (adV w (S i) f) r.2.2 r.2.1) ?_ hr
            repeat' (first | exact aN | apply aI)
            all_goals (first | exact aP _ _ | exact aA _ _ | exact aE _ | omega | rfl | (intros;first | assumption | exact trivial | rfl) | (exact ca) | (intros;simp [All];done) | (simp only [All];first | exact aP _ _ | exact aA _ _ | exact aE _ | omega | rfl | (intros;first | assumption | exact trivial | rfl) | (exact ca) | (intros;simp [All];done)))
        have lk:∀ d k (x:Nat→Int),k+d=nb→(∀ j,j<nb→x j=xkF w (S i) f k j)→Run Tryz.prog c 262 zf15 (Fs1 g nb N pl np K q p S i w f x k)
            (Post c (fsH g nb N pl np K q p S 6 (goF F (e+1) f).2.1 (goF F (e+1) f).2.2) (.tup [.ar 1 6 0 (goF F (e+1) f).2.1,.p (.bool (goF F (e+1) f).1)])):=by
          intro d
          induction d with
          | zero =>
            intro k x hk hx
            obtain rfl:k=nb:=by omega
            have hd:decide ((k:Int)<(k:Int))=false:=decide_eq_false (by omega)
            refine pcZ hc (fic g k N pl np K q p S i w f x (adV w (S i) f)) ?_ fin
            repeat' (first | exact aN | apply aI)
            all_goals (first | exact aP _ _ | exact aA _ _ | omega | rfl | (intros;first | assumption | exact trivial | rfl) | (exact hd) | (intro t ht;rw [hx t ht];simp [xkF,adV,ht,All];done) | (intros;simp [All];done) | (simp only [All];first | exact aP _ _ | exact aA _ _ | omega | rfl | (intros;first | assumption | exact trivial | rfl) | (exact hd) | (intro t ht;rw [hx t ht];simp [xkF,adV,ht,All];done) | (intros;simp [All];done)))
          | succ d ihk =>
            intro k x hk hx
            have hd:decide ((k:Int)<(nb:Int))=true:=decide_eq_true (by omega)
            have b1:=hw k (by omega)
            have b2:=hS i (by omega) k (by omega)
            have m1:=Trv.bdm (a:=f) (b:=S i k) (A:=2) (B:=1073741824) (by omega) b2
            have e1:(cM nb S i).2 k=S i k:=rfl
            have e2:x k=w k:=by rw [hx k (by omega),xkF,if_neg (Nat.lt_irrefl _)]
            refine pcZ hc (fib g nb N pl np K q p S i w f x k) ?_ (ihk (k+1) (fun j=>if j=k then x j+f*S i j else x j) (by omega) (fun j hj=>by
              show (if j=k then x j+f*S i j else x j)=_
              by_cases hjk:j=k
              · rw [if_pos hjk,hjk,e2,xkF,if_pos (Nat.lt_succ_self _)]
              · rw [if_neg hjk,hx j hj]
                unfold xkF
                by_cases hlt:j<k
                · rw [if_pos hlt,if_pos (show j<k+1 by omega)]
                · rw [if_neg hlt,if_neg (show ¬ j<k+1 by omega)]))
            repeat' (first | exact aN | apply aI)
            all_goals (first | exact aP _ _ | exact aA _ _ | omega | rfl | (intros;first | assumption | exact trivial | rfl | exact fT ‹_›) | (exact hd) | (rw [e1];omega) | (rw [e1,e2];omega) | (intro t ht;by_cases h1:t=k<;>(simp [h1,cvtL,cvt,tg,tru,All,cM];done)) | (intros;simp [All];done) | (simp only [All];first | exact aP _ _ | exact aA _ _ | omega | rfl | (intros;first | assumption | exact trivial | rfl | exact fT ‹_›) | (exact hd) | (rw [e1];omega) | (rw [e1,e2];omega) | (intro t ht;by_cases h1:t=k<;>(simp [h1,cvtL,cvt,tg,tru,All,cM];done)) | (intros;simp [All];done)))
        refine pcZ hc (fia g nb N pl np K q p S i w f) ?_ (lk nb 0 w (by omega) (fun j hj=>by rw [xkF,if_neg (Nat.not_lt_zero _)]))
        repeat' (first | exact aN | apply aI)
        all_goals (first | exact aP _ _ | exact aA _ _ | omega | rfl | (intros;first | assumption | exact trivial | rfl) | (exact hd) | (exact cc) | (intros;simp [All];done) | (simp only [All];first | exact aP _ _ | exact aA _ _ | omega | rfl | (intros;first | assumption | exact trivial | rfl) | (exact hd) | (exact cc) | (intros;simp [All];done)))
    refine pcZ hc (fiz g nb N pl np K q p S i w) ?_ (lo 5 (-2) rfl (Int.le_refl _))
    repeat' (first | exact aN | apply aI)
    all_goals (first | exact aP _ _ | exact aA _ _ | omega | rfl | (intros;first | assumption | exact trivial | rfl) | (exact h0) | (intros;simp [All];done) | (simp only [All];first | exact aP _ _ | exact aA _ _ | omega | rfl | (intros;first | assumption | exact trivial | rfl) | (exact h0) | (intros;simp [All];done)))
end Go.Proofs.YtkkjoghiigiokaaGreat.Mach
namespace Go.Proofs.YtkkjoghiigiokaaGreat.Mach
open Go
set_option linter.unusedVariables false
set_option linter.unusedSimpArgs false
def fcO2:Ob:=⟨true,1,1,fun _=>[.clo 262 [.pt 1 3 0 0,.pt 4 0 0 0,.pt 1 4 0 0]]⟩
def Fi0 (g:Nat→T_Bar) (nb:Nat) (N:Int) (pl:Nat→T_Place) (np:Nat) (K:T_IntS) (q p:Nat) (S:Nat→Nat→Int):St :=
  ⟨[.p .any,.pt 4 0 0 0,.p .any,.p .any,.pt 1 3 0 0,.pt 1 4 0 0]++List.replicate 28 anyA,[(0,tsO g nb N pl np K),(1,ooOb 2 q (cM nb S)),(2,ffOb q (cM nb S)),(3,fl0 p),(4,fcO2)],5⟩
theorem ftn (g:Nat→T_Bar) (nb:Nat) (N:Int) (pl:Nat→T_Place) (np:Nat) (K:T_IntS) :
    pathOb Tryz.prog Tryz.f153 0 [rg 3,rm [(1,oc [] (.p (.bool false)))] 1,.dec true,rg 3] [.code (bodyOf Tryz.f153)] (start Tryz.f153 [] 0 [tsA g nb N pl np K]) [192] 1 [(0,iOb 0 (fun _=>0))] (.tup [.ar 1 0 0 0,.p (.bool false)]) =
    some [(NT 0 1),Con Tryz.prog 151 0 [] [(zf30 N nb g np pl K)] [] (.p (.bool false)),((!false)=true),(AN 0),(AN 0),(false=false),(AN 1),(NL 0 0),(AA 0 (fun i=>[.p (.int .i64 0)])),(AE 0)]:=by kernel_rfl
theorem ftz (g:Nat→T_Bar) (nb:Nat) (N:Int) (pl:Nat→T_Place) (np:Nat) (K:T_IntS) (q p:Nat) (S:Nat→Nat→Int) :
    pieceOb Tryz.prog 0 [rg 3,rm [(1,oc [] (.p (.bool true)))] 1,.dec false,rm [(2,oc [(0,ooOb 1 q (cM nb S)),(1,ffOb q (cM nb S))] (.ar 1 0 0 q))] 2,rg 6,rg 1,rg 2,.head] [.code (bodyOf Tryz.f153)] (start Tryz.f153 [] 0 [tsA g nb N pl np K]) [0,256,257,288,544] 1 (Fi0 g nb N pl np K q p S) =
    some (zf116,[(NT 0 1),Con Tryz.prog 151 0 [] [(zf30 N nb g np pl K)] [] (.p (.bool true)),((!true)=false),(NT 0 1),Con Tryz.prog 261 0 [] [(zf44 N nb g np pl)] [(0,⟨false,1,q,(fun i=>[.ar 1 ⟨1,some i⟩ 0 nb])⟩),(1,⟨true,0,q,(fun i=>[.p (.seq false 1 nb (fun i_1=>[.int .i64 ((cM nb S i).2 i_1)]))])⟩)] (.ar 1 0 0 q),(NT 0 1),((true=true)→ (AN 1)),(NT 0 1),(NT 0 1),(IL 0 0),(IL 0 (if false=true then if 3>(↑q:Int) then 3 else (↑q:Int) else if 3<(↑q:Int) then 3 else (↑q:Int))),(IL (if false=true then if 3>(↑q:Int) then 3 else (↑q:Int) else if 3<(↑q:Int) then 3 else (↑q:Int)) (↑q:Int)),(NT 0 1),((true=true)→ (AN 1)),(NT 0 1),((true=true)→ (AN 1)),(AN 0),(AN 0),(AN 0),((([AV.p (PV.int IntKind.i64 N),brL g nb,pcL pl np,inL K].length):Nat)=4),(NL 1 1),(NL 1 1),(AI N),(AN nb),(AP nb (bRw g)),(AN np),(AP np (bRw pl)),(AN K.1),(AP K.1 (iRw K)),(AN 1),(NL q q),(AA q (fun i=>[.ar 1 ⟨2,some i⟩ 0 nb])),(NL q q),(∀ i:Nat,(((i:Nat)<q)→All [(AN 1),((nb:Nat)≤nb),(AP nb (fun r=>[.int .i64 ((cM nb S i).2 r)]))])),((((List.map (fun v=>AV.p (absV v)) [Value.slice none 0 0]).length):Nat)=1),(NL 1 1),(NL 1 1),(AN 0),((((if false=true then if 3>(↑q:Int) then 3 else (↑q:Int) else if 3<(↑q:Int) then 3 else (↑q:Int)).toNat):Nat)=p),((((List.map (fun v=>AV.p (absV v)) [Value.nilFunc]).length):Nat)=1),(NL 1 1),(NL 1 1),(AN 0),(AN 0),(AN 0)]):=by kernel_rfl
theorem fty (g:Nat→T_Bar) (nb:Nat) (N:Int) (pl:Nat→T_Place) (np:Nat) (kf:Nat→Int) (q p:Nat) (S:Nat→Nat→Int) (m:Nat) (z:Nat→Int) :
    pathOb Tryz.prog Tryz.f153 0 [rm [(5,⟨true,(some ⟨[3,1,2,0,4,133],[7],[],1,(fsH g nb N pl np (nb,kf) q p S 6 m z),.tup [.ar 1 6 0 m,.p (.bool true)]⟩),none⟩)] 5,rg 2,.dec false,rg 3] zf116 (Fi0 g nb N pl np (nb,kf) q p S) [165] 1 [(0,iOb m z)] (.tup [.ar 1 0 0 m,.p (.bool true)]) =
    some [(NT 0 1),(NT 0 1),(IL 0 (↑nb:Int)),(IL (↑nb:Int) (↑nb:Int)),(IL ((↑nb:Int)*(↑8:Int)) 281474976710656),(ZHi (↑nb:Int)),(AE 1),(AE q),(AE 1),(AE 1),(AE nb),Con Tryz.prog 262 6 [(0,⟨true,1,1,(fun i=>[.ar 1 1 0 p])⟩),(1,⟨false,1,q,(fun i=>[.ar 1 ⟨2,some i⟩ 0 nb])⟩),(2,⟨true,0,q,(fun i=>[.p (.seq false 1 nb (fun i_1=>[.int .i64 ((cM nb S i).2 i_1)]))])⟩),(3,⟨true,4,1,(fun i=>[.p (.int .i64 N),.p (.seq false 2 nb (bRw g)),.p (.seq false 2 np (bRw pl)),.p (.seq false 1 nb (fun i_1=>[.int .i64 ((nb,kf).2 i_1)]))])⟩),(4,⟨true,1,1,(fun i=>[.clo 262 [.pt 1 0 0 0,.pt 4 3 0 0,.pt 1 4 0 0]])⟩),(5,⟨false,1,nb,(fun i=>[.p (.int .i64 0)])⟩)] [.ar 1 5 0 nb,.p (.int .i64 0),.pt 1 0 0 0,.pt 4 3 0 0,.pt 1 4 0 0] [(0,⟨true,1,1,(fun i=>[.ar 1 1 0 p])⟩),(1,⟨false,1,q,(fun i=>[.ar 1 ⟨2,some i⟩ 0 nb])⟩),(2,⟨true,0,q,(fun i=>[.p (.seq false 1 nb (fun i_1=>[.int .i64 ((cM nb S i).2 i_1)]))])⟩),(3,⟨true,4,1,(fun i=>[.p (.int .i64 N),.p (.seq false 2 nb (bRw g)),.p (.seq false 2 np (bRw pl)),.p (.seq false 1 nb (fun i_1=>[.int .i64 ((nb,kf).2 i_1)]))])⟩),(4,⟨true,1,1,(fun i=>[.clo 262 [.pt 1 0 0 0,.pt 4 3 0 0,.pt 1 4 0 0]])⟩),(6,⟨false,1,m,(fun i=>[.p (.int .i64 (z i))])⟩)] (.tup [.ar 1 6 0 m,.p (.bool true)]),((!true)=false),(AN 0),(AN m),(true=true),(AN 1),(NL m m),(AA m (fun i=>[.p (.int .i64 (z i))])),(AE m)]:=by kernel_rfl
theorem ftx (g:Nat→T_Bar) (nb:Nat) (N:Int) (pl:Nat→T_Place) (np:Nat) (kf:Nat→Int) (q p:Nat) (S:Nat→Nat→Int) (m:Nat) (z:Nat→Int) :
    pathOb Tryz.prog Tryz.f153 0 [rm [(5,⟨true,(some ⟨[3,1,2,0,4,133],[7],[],1,(fsH g nb N pl np (nb,kf) q p S 6 m z),.tup [.ar 1 6 0 m,.p (.bool false)]⟩),none⟩)] 5,rg 2,.dec true,rg 3] zf116 (Fi0 g nb N pl np (nb,kf) q p S) [421] 1 [(0,iOb 0 (fun _=>0))] (.tup [.ar 1 0 0 0,.p (.bool false)]) =
    some [(NT 0 1),(NT 0 1),(IL 0 (↑nb:Int)),(IL (↑nb:Int) (↑nb:Int)),(IL ((↑nb:Int)*(↑8:Int)) 281474976710656),(ZHi (↑nb:Int)),(AE 1),(AE q),(AE 1),(AE 1),(AE nb),Con Tryz.prog 262 6 [(0,⟨true,1,1,(fun i=>[.ar 1 1 0 p])⟩),(1,⟨false,1,q,(fun i=>[.ar 1 ⟨2,some i⟩ 0 nb])⟩),(2,⟨true,0,q,(fun i=>[.p (.seq false 1 nb (fun i_1=>[.int .i64 ((cM nb S i).2 i_1)]))])⟩),(3,⟨true,4,1,(fun i=>[.p (.int .i64 N),.p (.seq false 2 nb (bRw g)),.p (.seq false 2 np (bRw pl)),.p (.seq false 1 nb (fun i_1=>[.int .i64 ((nb,kf).2 i_1)]))])⟩),(4,⟨true,1,1,(fun i=>[.clo 262 [.pt 1 0 0 0,.pt 4 3 0 0,.pt 1 4 0 0]])⟩),(5,⟨false,1,nb,(fun i=>[.p (.int .i64 0)])⟩)] [.ar 1 5 0 nb,.p (.int .i64 0),.pt 1 0 0 0,.pt 4 3 0 0,.pt 1 4 0 0] [(0,⟨true,1,1,(fun i=>[.ar 1 1 0 p])⟩),(1,⟨false,1,q,(fun i=>[.ar 1 ⟨2,some i⟩ 0 nb])⟩),(2,⟨true,0,q,(fun i=>[.p (.seq false 1 nb (fun i_1=>[.int .i64 ((cM nb S i).2 i_1)]))])⟩),(3,⟨true,4,1,(fun i=>[.p (.int .i64 N),.p (.seq false 2 nb (bRw g)),.p (.seq false 2 np (bRw pl)),.p (.seq false 1 nb (fun i_1=>[.int .i64 ((nb,kf).2 i_1)]))])⟩),(4,⟨true,1,1,(fun i=>[.clo 262 [.pt 1 0 0 0,.pt 4 3 0 0,.pt 1 4 0 0]])⟩),(6,⟨false,1,m,(fun i=>[.p (.int .i64 (z i))])⟩)] (.tup [.ar 1 6 0 m,.p (.bool false)]),((!false)=true),(AN 0),(AN 0),(false=false),(AN 1),(NL 0 0),(AA 0 (fun i=>[.p (.int .i64 0)])),(AE 0)]:=by kernel_rfl
theorem fsTq_no (good:(Nat→Int)→Bool) (nb:Nat) (V:Nat→Nat→Int):∀ e t,(fsTq good nb V e t).1=false→fsTq good nb V e t=(false,(0,fun _=>0))
  | 0,t,_=>rfl
  | e+1,t,h=>by
    rw [fsTq] at h ⊢
    by_cases hg:good (V t)=true
    · rw [if_pos hg] at h;cases h
    · rw [if_neg hg] at h ⊢;exact fsTq_no good nb V e (t+1) h
noncomputable def fstF (g:Nat→T_Bar) (nb:Nat) (N:Int) (pl:Nat→T_Place) (np:Nat) (K:T_IntS):Bool×T_IntS :=
  if tsB g nb N pl np K=true then fsTq (gdB g nb N pl np K) nb (trS (stF g nb N.toNat pl).2 (min (stF g nb N.toNat pl).1 3)) (5 ^ (min (stF g nb N.toNat pl).1 3)) 0 else (false,(0,fun _=>0))
theorem stF_small {g:Nat→T_Bar} {nb N:Nat} {pl:Nat→T_Place} {np:Nat} (hf:fwB g nb N pl np=true) {i:Nat} (hi:i<(stF g nb N pl).1) {j:Nat} (hj:j<nb) :
    -1073741824≤(stF g nb N pl).2 i j∧(stF g nb N pl).2 i j≤1073741824:=(fw_ok hf).2.2.2.2.2.st_small hi hj
theorem con_FStrict_s (g:Nat→T_Bar) (nb:Nat) (N:Int) (pl:Nat→T_Place) (np:Nat) (K:T_IntS) (hn:nb≤1048576∧np≤1048576) (hK:K.1≤1048576) :
    Con Tryz.prog 148 0 [] [tsA g nb N pl np K] [(0,iOb (fstF g nb N pl np K).2.1 (fstF g nb N pl np K).2.2)] (.tup [.ar 1 0 0 (fstF g nb N pl np K).2.1,.p (.bool (fstF g nb N pl np K).1)]):=by
  have c1:=con_IsTensegrity_s g nb N pl np K hn hK
  unfold fstF
  cases ht:tsB g nb N pl np K with
  | false =>
    rw [ht] at c1
    rw [if_neg Bool.false_ne_true]
    refine csZ Tryz.func148 (fun c hc=>?_)
    refine pkZ Tryz.func148 hc (fsn g nb N pl np K) ?_
    repeat' (first | exact aN | apply aI)
    all_goals (first | exact aA _ _ | exact aE _ | omega | rfl | (intros;first | assumption | exact trivial | rfl) | (exact c1) | (intro t ht;exact absurd ht (Nat.not_lt_zero _)) | (intros;simp [All];done))
  | true =>
    rw [ht] at c1
    rw [if_pos rfl]
    obtain ⟨hk,hf⟩:=ts_len ht
    obtain ⟨n,rfl⟩:=fw_N hf
    obtain ⟨h1,h2,h3,h4,hok,hb⟩:=fw_ok hf
    rw [Int.toNat_natCast]
    have c2:=(con_StressesOf hf).2
    have hsm:∀ i,i<(stF g nb n pl).1→∀ j,j<nb→-1073741824≤(stF g nb n pl).2 i j∧(stF g nb n pl).2 i j≤1073741824:=fun i hi j hj=>stF_small hf hi hj
    have hql:=stF_le g nb n pl
    generalize (stF g nb n pl).2=S at *
    generalize (stF g nb n pl).1=q at *
    have c3:=con_Tries (n:=nb) (q:=q) (S:=S) (by omega) (by omega) hsm
    have hC3:5 ^ (min q 3)≤125:=by
      have:min q 3=0∨min q 3=1∨min q 3=2∨min q 3=3:=by omega
      rcases this with h | h | h | h<;>rw [h]<;>decide
    rw [show (nb:Int)=(K.1:Int) by omega] at c3
    generalize trS S (min q 3)=V at *
    generalize 5 ^ (min q 3)=C at *
    refine csZ Tryz.func148 (fun c hc=>?_)
    generalize hR:fsTq (gdB g nb n pl np K) nb V C 0=R
    have lo:∀ d i,i+d=C→fsTq (gdB g nb n pl np K) nb V d i=R→Run Tryz.prog c 148 zf64 (FsS g nb n pl np K C V i) (Post c [(0,iOb R.2.1 R.2.2)] (.tup [.ar 1 0 0 R.2.1,.p (.bool R.1)])):=by
      intro d
      induction d with
      | zero =>
        intro i hi hr
        have hd:decide ((i:Int)<(C:Int))=false:=decide_eq_false (by omega)
        rw [← hr,fsTq]
        refine pkZ Tryz.func148 hc (fse2 g nb n pl np K C V i) ?_
        repeat' (first | exact aN | apply aI)
        all_goals (first | exact aA _ _ | exact aE _ | omega | rfl | (intros;first | assumption | exact trivial | rfl) | (exact hd) | (intro t ht;exact absurd ht (Nat.not_lt_zero _)) | (intros;simp [All];done))
      | succ d ih =>
        intro i hi hr
        have hd:decide ((i:Int)<(C:Int))=true:=decide_eq_true (by omega)
        have cs:=con_Strict_s g nb n pl np K (nb,V i) hn hK (by show nb≤_;omega)
        change Con _ _ _ _ _ _ (.p (.bool (gdB g nb n pl np K (V i)))) at cs
        rw [fsTq] at hr
        cases hg:gdB g nb n pl np K (V i) with
        | true =>
          rw [hg] at cs
          rw [hg,if_pos rfl] at hr
          rw [← hr]
          refine pkZ Tryz.func148 hc (fsy2 g nb n pl np K C V i) ?_
          repeat' (first | exact aN | apply aI)
          all_goals (first | exact aE _ | omega | rfl | (intros;first | assumption | exact trivial | rfl) | (exact hd) | (exact cs) | (intros;simp [All,cM];done) | (simp only [All];first | exact aE _ | omega | rfl | (intros;first | assumption | exact trivial | rfl) | (exact hd) | (exact cs) | (intros;simp [All,cM];done)))
        | false =>
          rw [hg] at cs
          rw [hg,if_neg Bool.false_ne_true] at hr
          refine pcZ hc (fst2 g nb n pl np K C V i) ?_ (ih (i+1) (by omega) hr)
          repeat' (first | exact aN | apply aI)
          all_goals (first | exact aP _ _ | exact aA _ _ | omega | rfl | (intros;first | assumption | exact trivial | rfl) | (exact hd) | (exact cs) | (intros;simp [All];done))
    refine pcZ hc (fsz2 g nb n pl np K q C S V) ?_ (lo C 0 (by omega) hR)
    repeat' (first | exact aN | apply aI)
    all_goals (first | exact aP _ _ | exact aA _ _ | omega | rfl | (intros;first | assumption | exact trivial | rfl) | (exact c1) | (exact c2) | (exact c3) | (intro t ht;simp [All];omega) | (intro t ht;simp only [All];and_intros<;>first | assumption | trivial | omega) | (intros;simp [All];done) | (simp only [All];first | exact aP _ _ | exact aA _ _ | omega | rfl | (intros;first | assumption | exact trivial | rfl) | (exact c1) | (exact c2) | (exact c3) | (intro t ht;simp [All];omega) | (intro t ht;simp only [All];and_intros<;>first | assumption | trivial | omega) | (intros;simp [All];done)))
theorem con_FStrict_i (g:Nat→T_Bar) (nb:Nat) (N:Int) (pl:Nat→T_Place) (np:Nat) (K:T_IntS) (hn:nb≤1048576∧np≤1048576) (hK:K.1≤1048576) :
    Con Tryz.prog 153 0 [] [tsA g nb N pl np K] [(0,iOb (fstF g nb N pl np K).2.1 (fstF g nb N pl np K).2.2)] (.tup [.ar 1 0 0 (fstF g nb N pl np K).2.1,.p (.bool (fstF g nb N pl np K).1)]):=by
  have c1:=con_IsTensegrity_i g nb N pl np K hn hK
  unfold fstF
  cases ht:tsB g nb N pl np K with
  | false =>
    rw [ht] at c1
    rw [if_neg Bool.false_ne_true]
    refine csZ Tryz.func153 (fun c hc=>?_)
    refine pkZ Tryz.func153 hc (ftn g nb N pl np K) ?_
    repeat' (first | exact aN | apply aI)
    all_goals (first | exact aA _ _ | exact aE _ | omega | rfl | (intros;first | assumption | exact trivial | rfl) | (exact c1) | (intro t ht;exact absurd ht (Nat.not_lt_zero _)) | (intros;simp [All];done))
  | true =>
    rw [ht] at c1
    rw [if_pos rfl]
    obtain ⟨hk,hf⟩:=ts_len ht
    obtain ⟨n,rfl⟩:=fw_N hf
    obtain ⟨h1,h2,h3,h4,hok,hb⟩:=fw_ok hf
    rw [Int.toNat_natCast]
    obtain ⟨k,kf⟩:=K
    have hk:k=nb:=hk
    subst hk
    have c2:=(con_StressesOf hf).1
    have hsm:∀ i,i<(stF g k n pl).1→∀ j,j<k→-1073741824≤(stF g k n pl).2 i j∧(stF g k n pl).2 i j≤1073741824:=fun i hi j hj=>stF_small hf hi hj
    have hql:=stF_le g k n pl
    generalize (stF g k n pl).2=S at *
    generalize (stF g k n pl).1=q at *
    have cr:=con_FsRec (g:=g) (nb:=k) (N:=n) (pl:=pl) (np:=np) (K:=(k,kf)) (q:=q) (p:=min q 3) (S:=S) (by omega) (by show k≤_;omega) (by omega) (fun i hi j hj=>hsm i (by omega) j hj)
      (min q 3) 0 (fun _=>0) (by omega) (fun j hj=>by simp)
    have he:=fsS_eq (gdB g k n pl np (k,kf)) k S (min q 3) 0 0
    rw [show trS S 0 0=fun _=>0 from rfl,Nat.zero_mul,Nat.zero_add] at he
    generalize fsS (gdB g k n pl np (k,kf)) k S (min q 3) 0 (fun _=>0)=r at *
    have hno:=fsTq_no (gdB g k n pl np (k,kf)) k (trS S (min q 3)) (5 ^ (min q 3)) 0
    generalize fsTq (gdB g k n pl np (k,kf)) k (trS S (min q 3)) (5 ^ (min q 3)) 0=R at *
    obtain ⟨he1,he2⟩:=he
    refine csZ Tryz.func153 (fun c hc=>?_)
    have fin:Run Tryz.prog c 153 zf116 (Fi0 g k n pl np (k,kf) q (min q 3) S) (Post c [(0,iOb R.2.1 R.2.2)] (.tup [.ar 1 0 0 R.2.1,.p (.bool R.1)])):=by
      cases hb:R.1 with
      | true =>
        rw [he1,hb] at cr
        rw [he2 hb] at cr
        refine pkZ Tryz.func153 hc (fty g k n pl np kf q (min q 3) S R.2.1 R.2.2) ?_
        repeat' (first | exact aN | apply aI)
        all_goals (first | exact aA _ _ | exact aE _ | omega | rfl | (intros;first | assumption | exact trivial | rfl) | (exact cr) | (intros;simp [All];done))
      | false =>
        rw [he1,hb] at cr
        rw [hno hb]
        refine pkZ Tryz.func153 hc (ftx g k n pl np kf q (min q 3) S r.2.1 r.2.2) ?_
        repeat' (first | exact aN | apply aI)
        all_goals (first | exact aA _ _ | exact aE _ | omega | rfl | (intros;first | assumption | exact trivial | rfl) | (exact cr) | (intro t ht;exact absurd ht (Nat.not_lt_zero _)) | (intros;simp [All];done))
    refine pcZ hc (ftz g k n pl np (k,kf) q (min q 3) S) ?_ fin
    repeat' (first | exact aN | apply aI)
    all_goals (first | exact aP _ _ | exact aA _ _ | omega | rfl | (intros;first | assumption | exact trivial | rfl | exact fT ‹_›) | (exact c1) | (exact c2) | (intro t ht;simp [All];omega) | (intro t ht;simp only [All];and_intros<;>first | assumption | trivial | omega) | (intros;simp [All];done) | (simp;omega) | (simp only [All];first | exact aP _ _ | exact aA _ _ | omega | rfl | (intros;first | assumption | exact trivial | rfl | exact fT ‹_›) | (exact c1) | (exact c2) | (intro t ht;simp [All];omega) | (intro t ht;simp only [All];and_intros<;>first | assumption | trivial | omega) | (intros;simp [All];done) | (simp;omega)))
end Go.Proofs.YtkkjoghiigiokaaGreat.Mach
namespace Go.Proofs.YtkkjoghiigiokaaGreat.Mach
open Go
set_option linter.unusedVariables false
set_option linter.unusedSimpArgs false
theorem fsTq_mem (good:(Nat→Int)→Bool) (nb:Nat) (V:Nat→Nat→Int):∀ e t,(fsTq good nb V e t).1=true→∃ u,(fsTq good nb V e t).2=(nb,V u)∧good (V u)=true
  | 0,t,h=>absurd h Bool.false_ne_true
  | e+1,t,h=>by
    rw [fsTq] at h ⊢
    by_cases hg:good (V t)=true
    · rw [if_pos hg];exact ⟨t,rfl,hg⟩
    · rw [if_neg hg] at h ⊢;exact fsTq_mem good nb V e (t+1) h
theorem fst_in (g:Nat→T_Bar) (nb:Nat) (N:Int) (pl:Nat→T_Place) (np:Nat) (K:T_IntS):(fstF g nb N pl np K).2.1≤15∧∀ k,k<(fstF g nb N pl np K).2.1→-(2 ^ 62)≤(fstF g nb N pl np K).2.2 k∧(fstF g nb N pl np K).2.2 k≤2 ^ 62:=by
  unfold fstF
  cases ht:tsB g nb N pl np K with
  | false=>rw [if_neg Bool.false_ne_true];exact ⟨Nat.zero_le _,fun k hk=>absurd hk (Nat.not_lt_zero _)⟩
  | true =>
    rw [if_pos rfl]
    obtain ⟨hk,hf⟩:=ts_len ht
    obtain ⟨n,rfl⟩:=fw_N hf
    obtain ⟨h1,h2,h3,h4,hok,hb⟩:=fw_ok hf
    rw [Int.toNat_natCast]
    have hsm:∀ i,i<min (stF g nb n pl).1 3→∀ j,j<nb→-1073741824≤(stF g nb n pl).2 i j∧(stF g nb n pl).2 i j≤1073741824:=fun i hi j hj=>stF_small hf (by omega) hj
    have hp3:min (stF g nb n pl).1 3≤3:=by omega
    generalize min (stF g nb n pl).1 3=p at *
    generalize (stF g nb n pl).2=S at *
    have hno:=fsTq_no (gdB g nb n pl np K) nb (trS S p) (5 ^ p) 0
    have hme:=fsTq_mem (gdB g nb n pl np K) nb (trS S p) (5 ^ p) 0
    cases hR:(fsTq (gdB g nb n pl np K) nb (trS S p) (5 ^ p) 0).1 with
    | false=>rw [hno hR];exact ⟨Nat.zero_le _,fun k hk=>absurd hk (Nat.not_lt_zero _)⟩
    | true =>
      obtain ⟨u,hu,_⟩:=hme hR
      rw [hu]
      refine ⟨h3,fun k hk=>?_⟩
      have:=trS_b (B:=1073741824) (p:=p) (n:=nb) hsm p (Nat.le_refl _) u k hk
      show -(2 ^ 62)≤trS S p u k∧trS S p u k≤2 ^ 62
      have e:2*1073741824*(p:Int)≤2*1073741824*3:=by omega
      omega
theorem lsfQ_mem (PL:(Nat→Int)→Bool) (n:Nat) (V:Nat→Nat→Int):∀ e i,(lsfQ PL n V e i).1=true→PL (lsfQ PL n V e i).2.2=true∧(lsfQ PL n V e i).2.1=n∧∃ j,i≤j∧j<i+e∧((lsfQ PL n V e i).2.2=V j∨(lsfQ PL n V e i).2.2=fun s=>-(V j s))
  | 0,i,h=>absurd h Bool.false_ne_true
  | e+1,i,h=>by
    rw [lsfQ] at h ⊢
    by_cases h1:PL (V i)=true
    · rw [if_pos h1];exact ⟨h1,rfl,i,Nat.le_refl _,by omega,.inl rfl⟩
    · rw [if_neg h1] at h ⊢
      by_cases h2:PL (fun s=>-(V i s))=true
      · rw [if_pos h2];exact ⟨h2,rfl,i,Nat.le_refl _,by omega,.inr rfl⟩
      · rw [if_neg h2] at h ⊢
        obtain ⟨a,b,j,j1,j2,j3⟩:=lsfQ_mem PL n V e (i+1) h
        exact ⟨a,b,j,by omega,by omega,j3⟩
theorem lsfQ_no (PL:(Nat→Int)→Bool) (n:Nat) (V:Nat→Nat→Int):∀ e i,(lsfQ PL n V e i).1=false→(lsfQ PL n V e i).2.1=0
  | 0,i,_=>rfl
  | e+1,i,h=>by
    rw [lsfQ] at h ⊢
    by_cases h1:PL (V i)=true
    · rw [if_pos h1] at h;cases h
    · rw [if_neg h1] at h ⊢
      by_cases h2:PL (fun s=>-(V i s))=true
      · rw [if_pos h2] at h;cases h
      · rw [if_neg h2] at h ⊢;exact lsfQ_no PL n V e (i+1) h
def FndOk (g:Nat→T_Bar) (nb N:Nat) (pl:Nat→T_Place) (np:Nat) (K:T_IntS) (r:Bool×T_IntS):Prop :=
  (r.1=true→plB g nb N pl np K (2*N) r.2.2=true∧r.2.1=2*N)∧r.2.1≤12∧∀ k,k<r.2.1→-(2 ^ 62)≤r.2.2 k∧r.2.2 k≤2 ^ 62
theorem try_ok {g h:Nat→T_Bar} {nb m N:Nat} {pl:Nat→T_Place} {np:Nat} {K:T_IntS} (hf:fwB g nb N pl np=true) (hs:Sel g nb m h):FndOk g nb N pl np K (tryR g nb N pl np K m h):=by
  have hfh:=fwB_sel hf hs
  have h2:=(fw_ok hf).2.1
  unfold tryR
  have hsm:∀ i,i<(moF h m N pl).1→∀ j,j<2*N→-1073741824≤(moF h m N pl).2 i j∧(moF h m N pl).2 i j≤1073741824:=fun i hi j hj=>mo_small hfh hi hj
  generalize (moF h m N pl).2=V at *
  generalize (moF h m N pl).1=q at *
  have hm:=lsfQ_mem (plB g nb N pl np K (2*N)) (2*N) V q 0
  have hn:=lsfQ_no (plB g nb N pl np K (2*N)) (2*N) V q 0
  generalize lsfQ (plB g nb N pl np K (2*N)) (2*N) V q 0=r at *
  unfold FndOk
  cases hr:r.1 with
  | false=>rw [hn hr];exact ⟨fun h=>absurd h Bool.false_ne_true,Nat.zero_le _,fun k hk=>absurd hk (Nat.not_lt_zero _)⟩
  | true =>
    obtain ⟨a,b,j,j1,j2,j3⟩:=hm hr
    refine ⟨fun _=>⟨a,b⟩,by omega,fun k hk=>?_⟩
    have:=hsm j (by omega) k (by omega)
    rcases j3 with e | e<;>rw [e]
    · omega
    · show -(2 ^ 62)≤-(V j k)∧-(V j k)≤2 ^ 62;omega
theorem fgo_ok {g:Nat→T_Bar} {nb N:Nat} {pl:Nat→T_Place} {np:Nat} {K:T_IntS} (hf:fwB g nb N pl np=true):∀ e i,i+e=nb→FndOk g nb N pl np K (fgoF g nb N pl np K e i)
  | 0,i,_=>try_ok hf (ob_sel (flt (kbF K) nb) g nb)
  | e+1,i,hi=>by
    rw [fgoF]
    by_cases h1:kbF K i=true
    · rw [if_pos h1];exact fgo_ok hf e (i+1) (by omega)
    · rw [if_neg h1]
      have ht:=try_ok (K:=K) hf (dl_sel (g:=g) (nb:=nb) (e:=i) (by omega))
      by_cases h2:(tryR g nb N pl np K (nb - 1) (dlB g i)).1=true
      · rw [if_pos h2]
        exact ⟨fun _=>ht.1 h2,ht.2⟩
      · rw [if_neg h2];exact fgo_ok hf e (i+1) (by omega)
theorem mo_still {g:Nat→T_Bar} {nb N:Nat} {pl:Nat→T_Place} {np:Nat} (hf:fwB g nb N pl np=true) {j:Nat} (hj:j<(moF g nb N pl).1) {k:Nat} (hk:k<nb):chQ g pl (2*N,(moF g nb N pl).2 j) k=0 :=
  (fw_ok hf).2.2.2.2.2.ker hj hk
theorem fm_ok {g:Nat→T_Bar} {nb N:Nat} {pl:Nat→T_Place} {np:Nat} {K:T_IntS} (ht:tsB g nb N pl np K=true) (hf:fwB g nb N pl np=true) (hm:(fmF g nb N pl np).2=true):FndOk g nb N pl np K (true,(fmF g nb N pl np).1):=by
  have h2:=(fw_ok hf).2.1
  have key:∀ d i,i+d=(moF g nb N pl).1→(fmL g nb N pl np (moF g nb N pl).2 d i).2=true→∃ j,j<(moF g nb N pl).1∧(fmL g nb N pl np (moF g nb N pl).2 d i).1=(2*N,(moF g nb N pl).2 j)∧tmB g nb N pl np (2*N,(moF g nb N pl).2 j)=false:=by
    intro d
    induction d with
    | zero=>intro i _ h;exact absurd h Bool.false_ne_true
    | succ d ih =>
      intro i hi h
      rw [fmL] at h ⊢
      by_cases ht:tmB g nb N pl np (2*N,(moF g nb N pl).2 i)=true
      · rw [if_pos ht] at h ⊢;exact ih (i+1) (by omega) h
      · rw [if_neg ht];exact ⟨i,by omega,rfl,by simpa using ht⟩
  obtain ⟨j,j1,j2,j3⟩:=key (moF g nb N pl).1 0 (by omega) hm
  have e:(fmF g nb N pl np).1=(2*N,(moF g nb N pl).2 j):=j2
  unfold FndOk
  rw [e]
  refine ⟨fun _=>⟨?_,rfl⟩,by show 2*N≤12;omega,fun k hk=>by have:=mo_small hf j1 hk;show -(2 ^ 62)≤(moF g nb N pl).2 j k∧(moF g nb N pl).2 j k≤2 ^ 62;omega⟩
  show plB g nb N pl np K (2*N) ((moF g nb N pl).2 j)=true
  have hv:velB g nb N pl np (2*N,(moF g nb N pl).2 j)=true:=by
    unfold velB smB
    rw [hf]
    have:allB (smq (2*N,(moF g nb N pl).2 j)) (2*N)=true:=by
      rw [all_iff]
      intro k hk
      have:=mo_small hf j1 hk
      exact inB_iff.2 ⟨by show -10000000000≤(moF g nb N pl).2 j k;omega,by show (moF g nb N pl).2 j k≤10000000000;omega⟩
    show (bif true then (bif allB (smq (2*N,(moF g nb N pl).2 j)) (2*N) then ((2*N:Nat):Int)==2*(N:Int) else false) else false)=true
    rw [this]
    show (((2*N:Nat):Int)==2*(N:Int))=true
    exact beq_iff_eq.2 (by omega)
  have ha:alwB g nb N pl np K (2*N,(moF g nb N pl).2 j)=true:=by
    unfold alwB
    rw [ht,hv]
    show (true&&allB (fun i=>!amqB K (chQ g pl (2*N,(moF g nb N pl).2 j) i) i) nb)=true
    rw [Bool.true_and,all_iff]
    intro k hk
    rw [mo_still hf j1 hk]
    unfold amqB
    simp
  unfold plB
  rw [ha,j3];rfl
theorem flm_ok {g:Nat→T_Bar} {nb N:Nat} {pl:Nat→T_Place} {np:Nat} {K:T_IntS} (ht:tsB g nb N pl np K=true):FndOk g nb N pl np K (flmF g nb N pl np K):=by
  obtain ⟨hk,hf⟩:=ts_len ht
  unfold flmF
  rw [if_pos ht,Int.toNat_natCast]
  by_cases hm:(fmF g nb N pl np).2=true
  · rw [if_pos hm];exact fm_ok ht hf hm
  · rw [if_neg hm];exact fgo_ok hf nb 0 (by omega)
end Go.Proofs.YtkkjoghiigiokaaGreat.Mach
namespace Go.Proofs.YtkkjoghiigiokaaGreat.Mach
open Go
set_option linter.unusedVariables false
set_option linter.unusedSimpArgs false
def lsF (n:Nat) (ss:List ByteArray) (i:Nat):ByteArray:=ss.getD (rowIx n i) sE
def stA (s:ByteArray):AV:=.p (.str s)
theorem cell_ls:∀ (ss:List ByteArray) (n i:Nat),rowIx n i<ss.length→cellP true [(List.getD (ss.map stA) (rowIx n i*1) (.p .any))] 0=.str (lsF n ss i):=by
  intro ss n i h
  unfold lsF
  rw [Nat.mul_one]
  generalize rowIx n i=k at h ⊢
  rw [List.getD_eq_getElem?_getD,List.getD_eq_getElem?_getD,List.getElem?_map]
  rw [List.getElem?_eq_getElem h]
  rfl
def lsP (n:Nat) (ss:List ByteArray):AV:=.p (.seq true 1 n (fun i=>[cellP true [(List.getD (ss.map stA) (rowIx n i*1) (.p .any))] 0]))
theorem ls_mem (n:Nat) (ss:List ByteArray) (h:ss.length=n) (B:Nat) (hs:∀ s∈ss,s.size≤B):∀ i,i<n→(lsF n ss i).size≤B:=by
  intro i hi
  unfold lsF
  rw [rowIx_lt hi]
  have:ss.getD i sE=ss[i]:=by rw [List.getD_eq_getElem?_getD,List.getElem?_eq_getElem (by omega)];rfl
  rw [this]
  exact hs _ (List.getElem_mem _)
theorem con_line_ls (n:Nat) (ss:List ByteArray) (h:ss.length=n) (h3:n≤1000) (B:Nat) (hB:B≤1099511627776) (hs:∀ s∈ss,s.size≤B) :
    Con Tryz.prog 108 0 [] [lsP n ss] [] (.p (.str (joinB sSp (lsF n ss) n))):=by
  have hc:=con_line n (lsF n ss) B (by omega) hB (ls_mem n ss h B hs)
  refine hc.arg_ext ?_
  simp only [lsP,strL,wkL,wk,wkP,beq_self_eq_true,Bool.and_self,if_true,ikEq,List.append_nil,List.cons_append,List.nil_append,All]
  have hcell:∀ i,i<n→cellP true [(List.getD (ss.map stA) (rowIx n i*1) (.p .any))] 0=.str (lsF n ss i):=fun i hi=>cell_ls ss n i (by rw [rowIx_lt hi];omega)
  and_intros<;>first | trivial | omega | (intro i hi;rw [hcell i hi])
theorem con_ifSo_ls (s:ByteArray) (is:Bool) (n:Nat) (ss:List ByteArray) (h:ss.length=n) (h3:n≤1000) (B:Nat) (hB:B≤1099511627776) (hz:s.size≤B) (hs:∀ s∈ss,s.size≤B) :
    Con Tryz.prog 114 0 [] [.p (.str s),.p (.bool is),lsP n ss] [] (.p (.str (soB s is n (lsF n ss)))):=by
  have hc:=con_ifSo s is n (lsF n ss) B (by omega) hB hz (ls_mem n ss h B hs)
  refine hc.arg_ext ?_
  simp only [lsP,strL,wkL,wk,wkP,beq_self_eq_true,Bool.and_self,if_true,ikEq,List.append_nil,List.cons_append,List.nil_append,All]
  have hcell:∀ i,i<n→cellP true [(List.getD (ss.map stA) (rowIx n i*1) (.p .any))] 0=.str (lsF n ss i):=fun i hi=>cell_ls ss n i (by rw [rowIx_lt hi];omega)
  and_intros<;>first | trivial | omega | (intro i hi;rw [hcell i hi])
theorem soB_f (s:ByteArray) (n:Nat) (f:Nat→ByteArray):soB s false n f=s:=rfl
theorem soB_1 (s:ByteArray) (f:Nat→ByteArray):soB s true 1 f=(s++sSp)++f 0:=by
  show (if 0<1 then (sE++s)++sSp else _)++f 0=_
  rw [if_pos (by omega),sE_app]
theorem soB_2 (s:ByteArray) (f:Nat→ByteArray):soB s true 2 f=(((s++sSp)++f 0)++sSp)++f 1:=by
  show (if 0<2 then ((if 0<1 then (sE++s)++sSp else _)++f 0)++sSp else _)++f 1=_
  rw [if_pos (by omega),if_pos (by omega),sE_app]
theorem join_2 (by_:ByteArray) (f:Nat→ByteArray):joinB by_ f 2=(f 0++by_)++f 1:=by
  show (if 0<1 then (sE++f 0)++by_ else _)++f 1=_
  rw [if_pos (by omega),sE_app]
theorem yes_size (b:Bool) (s:ByteArray):(yesB b s).size≤s.size:=by
  cases b with
  | false=>exact Nat.zero_le _
  | true=>exact Nat.le_refl _
end Go.Proofs.YtkkjoghiigiokaaGreat.Mach
namespace Go.Proofs.YtkkjoghiigiokaaGreat.Mach
open Go
set_option linter.unusedVariables false
set_option linter.unusedSimpArgs false
theorem so_yes (s:ByteArray) (b:Bool) (w:ByteArray):soB s b 1 (lsF 1 [w])=s++yesB b (sSp++w):=by
  cases b with
  | false=>rw [soB_f];exact (app_sE s).symm
  | true=>rw [soB_1];exact ByteArray.append_assoc
theorem con_ifSo_1 (s:ByteArray) (b:Bool) (w:ByteArray) (hs:s.size≤1000000) (hw:w.size≤1000) :
    Con Tryz.prog 114 0 [] [.p (.str s),.p (.bool b),lsP 1 [w]] [] (.p (.str (s++yesB b (sSp++w)))):=by
  rw [← so_yes]
  exact con_ifSo_ls s b 1 [w] rfl (by omega) 1000000 (by omega) hs (by
    intro x hx;simp only [List.mem_cons,List.not_mem_nil,or_false] at hx
    subst hx;omega)
theorem yes1_size (s:ByteArray) (b:Bool) (w:ByteArray):(s++yesB b (sSp++w)).size≤s.size+1+w.size:=by
  have:=yes_size b (sSp++w)
  rw [ByteArray.size_append] at this ⊢
  have:sSp.size=1:=rfl
  omega
theorem con_ifSo_2 (s:ByteArray) (b:Bool) (w x:ByteArray) (hs:s.size≤1000000) (hw:w.size≤1000) (hx:x.size≤1000000) :
    Con Tryz.prog 114 0 [] [.p (.str s),.p (.bool b),lsP 2 [w,x]] [] (.p (.str (if b=true then s++(((sSp++w)++sSp)++x) else s))):=by
  have h:=con_ifSo_ls s b 2 [w,x] rfl (by omega) 1000000 (by omega) hs (by
    intro y hy;simp only [List.mem_cons,List.not_mem_nil,or_false] at hy
    rcases hy with rfl | rfl<;>omega)
  cases b with
  | false=>rw [soB_f] at h;exact h
  | true =>
    rw [soB_2] at h
    rw [if_pos rfl]
    have e:(((s++sSp)++lsF 2 [w,x] 0)++sSp)++lsF 2 [w,x] 1=s++(((sSp++w)++sSp)++x):=by
      show (((s++sSp)++w)++sSp)++x=_
      simp only [ByteArray.append_assoc]
    rw [← e];exact h
theorem nlB_le (u:T_IntS):(nlB u).size≤u.1*22+4:=by
  unfold nlB
  split
  · show 4≤_;omega
  · have:=nmB_size u;omega
end Go.Proofs.YtkkjoghiigiokaaGreat.Mach
namespace Go.Proofs.YtkkjoghiigiokaaGreat.Mach
open Go
set_option linter.unusedVariables false
set_option linter.unusedSimpArgs false
def tdK:ByteArray:=⟨#[107,105,110,100,115]⟩
def tdS:ByteArray:=⟨#[115,116,114,101,115,115]⟩
def tdF:ByteArray:=⟨#[115,116,105,102,102]⟩
def tdL:ByteArray:=⟨#[108,111,111,115,101]⟩
def tsK:ByteArray:=⟨#[107,105,110,100,115,32]⟩
def tsS:ByteArray:=⟨#[32,115,116,114,101,115,115,32]⟩
def tsF':ByteArray:=⟨#[32,115,116,105,102,102]⟩
def tsL:ByteArray:=⟨#[32,108,111,111,115,101,32]⟩
def tsE:ByteArray:=⟨#[]⟩
theorem tgN (g:Nat→T_Bar) (nb:Nat) (N:Int) (pl:Nat→T_Place) (np:Nat) (K:T_IntS) :
    pathOb Tryz.prog Tryz.f41 0 [rg 2,rm [(1,oc [] (.p (.bool false)))] 1,.dec true,rg 1] [.code (bodyOf Tryz.f41)] (start Tryz.f41 [] 0 [tsA g nb N pl np K]) [] 1 [] (.p (.str tsE)) =
    some [(NT 0 1),Con Tryz.prog 151 0 [] [(zf30 N nb g np pl K)] [] (.p (.bool false)),((!false)=true),(ByteArray.mk #[]=tsE)]:=by kernel_rfl
theorem thN (g:Nat→T_Bar) (nb:Nat) (N:Int) (pl:Nat→T_Place) (np:Nat) (K:T_IntS) :
    pathOb Tryz.prog Tryz.f39 0 [rg 2,rm [(1,oc [] (.p (.bool false)))] 1,.dec true,rg 1] [.code (bodyOf Tryz.f39)] (start Tryz.f39 [] 0 [tsA g nb N pl np K]) [] 1 [] (.p (.str tsE)) =
    some [(NT 0 1),Con Tryz.prog 147 0 [] [(zf30 N nb g np pl K)] [] (.p (.bool false)),((!false)=true),(ByteArray.mk #[]=tsE)]:=by kernel_rfl
theorem tgR (g:Nat→T_Bar) (nb:Nat) (N:Int) (pl:Nat→T_Place) (np:Nat) (K:T_IntS) (m q:Nat) (w v:Nat→Int) (b1 b2 b3:Bool) (kl s1 lw s2 s3 lv s4:ByteArray) :
    pathOb Tryz.prog Tryz.f41 0 [rg 2,rm [(1,oc [] (.p (.bool true)))] 1,.dec false,rm [(2,oc [] (.p (.str kl))),(1,oc [] (.p (.str s1)))] 1,rm [(1,oc [(0,iOb m w)] (.tup [.ar 1 0 0 m,.p (.bool b1)]))] 5,rm [(3,oc [] (.p (.str lw))),(1,oc [] (.p (.str s2)))] 1,rm [(5,oc [] (.p (.bool b2))),(2,oc [] (.p (.str s3)))] 1,rm [(1,oc [(0,iOb q v)] (.tup [.ar 1 0 0 q,.p (.bool b3)]))] 5,rm [(3,oc [] (.p (.str lv))),(1,oc [] (.p (.str s4)))] 1] [.code (bodyOf Tryz.f41)] (start Tryz.f41 [] 0 [tsA g nb N pl np K]) [] 1 [] (.p (.str s4)) =
    some [(NT 0 1),Con Tryz.prog 151 0 [] [(zf30 N nb g np pl K)] [] (.p (.bool true)),((!true)=false),(NT 0 1),Con Tryz.prog 152 0 [] [.p (.seq true 1 K.1 (iRw K))] [] (.p (.str kl)),(AN 1),(NL 2 2),Con Tryz.prog 108 0 [] [.p (.seq true 1 2 (fun i=>[(cellP true [(List.getD ([.p (.str (ByteArray.mk #[107,105,110,100,115])),.p (.str kl)]:List AV) (rowIx 2 i*1) (.p .any))] 0)]))] [] (.p (.str s1)),(NT 0 1),Con Tryz.prog 153 0 [] [(zf30 N nb g np pl K)] [(0,⟨false,1,m,(fun i=>[.p (.int .i64 (w i))])⟩)] (.tup [.ar 1 0 0 m,.p (.bool b1)]),(AN 1),(NL m m),Con Tryz.prog 111 0 [] [.p (.seq true 1 m (fun i=>[.int .i64 (w i)]))] [] (.p (.str lw)),(AN 1),(NL 2 2),Con Tryz.prog 114 0 [] [.p (.str s1),.p (.bool b1),.p (.seq true 1 2 (fun i=>[(cellP true [(List.getD ([.p (.str (ByteArray.mk #[115,116,114,101,115,115])),.p (.str lw)]:List AV) (rowIx 2 i*1) (.p .any))] 0)]))] [] (.p (.str s2)),((b1=true)→(NT 0 1)),(AG b1),(AG b1),((b1=true)→ (AN 1)),((b1=true)→(NL m m)),((b1=true)→ Con Tryz.prog 98 0 [] [(zf30 N nb g np pl K),.p (.seq true 1 m (fun i=>[.int .i64 (w i)]))] [] (.p (.bool b2))),(AG b1),(AN 1),(NL 1 1),Con Tryz.prog 114 0 [] [.p (.str s2),.p (.bool (bif b1 then b2 else false)),.p (.seq true 1 1 (fun i=>[.str (ByteArray.mk #[115,116,105,102,102])]))] [] (.p (.str s3)),(NT 0 1),Con Tryz.prog 154 0 [] [(zf30 N nb g np pl K)] [(0,⟨false,1,q,(fun i=>[.p (.int .i64 (v i))])⟩)] (.tup [.ar 1 0 0 q,.p (.bool b3)]),(AN 1),(NL q q),Con Tryz.prog 111 0 [] [.p (.seq true 1 q (fun i=>[.int .i64 (v i)]))] [] (.p (.str lv)),(AN 1),(NL 2 2),Con Tryz.prog 114 0 [] [.p (.str s3),.p (.bool b3),.p (.seq true 1 2 (fun i=>[(cellP true [(List.getD ([.p (.str (ByteArray.mk #[108,111,111,115,101])),.p (.str lv)]:List AV) (rowIx 2 i*1) (.p .any))] 0)]))] [] (.p (.str s4)),(s4=s4)]:=by kernel_rfl
theorem thTT (g:Nat→T_Bar) (nb:Nat) (N:Int) (pl:Nat→T_Place) (np:Nat) (K:T_IntS) (m q:Nat) (w v:Nat→Int) (b2:Bool) (kl lw y lv:ByteArray) :
    pathOb Tryz.prog Tryz.f39 0 [rg 2,rm [(1,oc [] (.p (.bool true)))] 1,.dec false,rm [(1,oc [(0,iOb m w)] (.tup [.ar 1 0 0 m,.p (.bool true)]))] 5,rm [(2,oc [] (.p (.str kl)))] 2,rg 1,.dec true,rm [(3,oc [] (.p (.str lw))),(3,oc [] (.p (.bool b2))),(0,oc [] (.p (.str y)))] 2,rm [(1,oc [(0,iOb q v)] (.tup [.ar 1 0 0 q,.p (.bool true)]))] 5,rg 1,.dec true,rm [(3,oc [] (.p (.str lv)))] 2,rg 2] [.code (bodyOf Tryz.f39)] (start Tryz.f39 [] 0 [tsA g nb N pl np K]) [] 1 [] (.p (.str ((((((tsK++kl)++tsS)++lw)++y)++tsL)++lv))) =
    some [(NT 0 1),Con Tryz.prog 147 0 [] [(zf30 N nb g np pl K)] [] (.p (.bool true)),((!true)=false),(NT 0 1),Con Tryz.prog 148 0 [] [(zf30 N nb g np pl K)] [(0,⟨false,1,m,(fun i=>[.p (.int .i64 (w i))])⟩)] (.tup [.ar 1 0 0 m,.p (.bool true)]),(NT 0 1),Con Tryz.prog 149 0 [] [.p (.seq true 1 K.1 (iRw K))] [] (.p (.str kl)),(NL ((ByteArray.mk #[107,105,110,100,115,32]).size+kl.size) 9223372036854775807),(true=true),(NL ((ByteArray.mk #[107,105,110,100,115,32]++kl).size+(ByteArray.mk #[32,115,116,114,101,115,115,32]).size) 9223372036854775807),(AN 1),(NL m m),Con Tryz.prog 103 0 [] [.p (.seq true 1 m (fun i=>[.int .i64 (w i)]))] [] (.p (.str lw)),(NL ((ByteArray.mk #[107,105,110,100,115,32]++kl++ByteArray.mk #[32,115,116,114,101,115,115,32]).size+lw.size) 9223372036854775807),(NT 0 1),(AN 1),(NL m m),Con Tryz.prog 88 0 [] [(zf30 N nb g np pl K),.p (.seq true 1 m (fun i=>[.int .i64 (w i)]))] [] (.p (.bool b2)),Con Tryz.prog 122 0 [] [.p (.bool b2),.p (.str (ByteArray.mk #[32,115,116,105,102,102]))] [] (.p (.str y)),(NL ((ByteArray.mk #[107,105,110,100,115,32]++kl++ByteArray.mk #[32,115,116,114,101,115,115,32]++lw).size+y.size) 9223372036854775807),(NT 0 1),Con Tryz.prog 150 0 [] [(zf30 N nb g np pl K)] [(0,⟨false,1,q,(fun i=>[.p (.int .i64 (v i))])⟩)] (.tup [.ar 1 0 0 q,.p (.bool true)]),(true=true),(NL ((ByteArray.mk #[107,105,110,100,115,32]++kl++ByteArray.mk #[32,115,116,114,101,115,115,32]++lw++y).size+(ByteArray.mk #[32,108,111,111,115,101,32]).size) 9223372036854775807),(AN 1),(NL q q),Con Tryz.prog 103 0 [] [.p (.seq true 1 q (fun i=>[.int .i64 (v i)]))] [] (.p (.str lv)),(NL ((ByteArray.mk #[107,105,110,100,115,32]++kl++ByteArray.mk #[32,115,116,114,101,115,115,32]++lw++y++ByteArray.mk #[32,108,111,111,115,101,32]).size+lv.size) 9223372036854775807),(ByteArray.mk #[107,105,110,100,115,32]++kl++ByteArray.mk #[32,115,116,114,101,115,115,32]++lw++y++ByteArray.mk #[32,108,111,111,115,101,32]++lv=tsK++kl++tsS++lw++y++tsL++lv)]:=by kernel_rfl
theorem thTF (g:Nat→T_Bar) (nb:Nat) (N:Int) (pl:Nat→T_Place) (np:Nat) (K:T_IntS) (m q:Nat) (w v:Nat→Int) (b2:Bool) (kl lw y:ByteArray) :
    pathOb Tryz.prog Tryz.f39 0 [rg 2,rm [(1,oc [] (.p (.bool true)))] 1,.dec false,rm [(1,oc [(0,iOb m w)] (.tup [.ar 1 0 0 m,.p (.bool true)]))] 5,rm [(2,oc [] (.p (.str kl)))] 2,rg 1,.dec true,rm [(3,oc [] (.p (.str lw))),(3,oc [] (.p (.bool b2))),(0,oc [] (.p (.str y)))] 2,rm [(1,oc [(0,iOb q v)] (.tup [.ar 1 0 0 q,.p (.bool false)]))] 5,rg 1,.dec false,rg 2] [.code (bodyOf Tryz.f39)] (start Tryz.f39 [] 0 [tsA g nb N pl np K]) [] 1 [] (.p (.str ((((tsK++kl)++tsS)++lw)++y))) =
    some [(NT 0 1),Con Tryz.prog 147 0 [] [(zf30 N nb g np pl K)] [] (.p (.bool true)),((!true)=false),(NT 0 1),Con Tryz.prog 148 0 [] [(zf30 N nb g np pl K)] [(0,⟨false,1,m,(fun i=>[.p (.int .i64 (w i))])⟩)] (.tup [.ar 1 0 0 m,.p (.bool true)]),(NT 0 1),Con Tryz.prog 149 0 [] [.p (.seq true 1 K.1 (iRw K))] [] (.p (.str kl)),(NL ((ByteArray.mk #[107,105,110,100,115,32]).size+kl.size) 9223372036854775807),(true=true),(NL ((ByteArray.mk #[107,105,110,100,115,32]++kl).size+(ByteArray.mk #[32,115,116,114,101,115,115,32]).size) 9223372036854775807),(AN 1),(NL m m),Con Tryz.prog 103 0 [] [.p (.seq true 1 m (fun i=>[.int .i64 (w i)]))] [] (.p (.str lw)),(NL ((ByteArray.mk #[107,105,110,100,115,32]++kl++ByteArray.mk #[32,115,116,114,101,115,115,32]).size+lw.size) 9223372036854775807),(NT 0 1),(AN 1),(NL m m),Con Tryz.prog 88 0 [] [(zf30 N nb g np pl K),.p (.seq true 1 m (fun i=>[.int .i64 (w i)]))] [] (.p (.bool b2)),Con Tryz.prog 122 0 [] [.p (.bool b2),.p (.str (ByteArray.mk #[32,115,116,105,102,102]))] [] (.p (.str y)),(NL ((ByteArray.mk #[107,105,110,100,115,32]++kl++ByteArray.mk #[32,115,116,114,101,115,115,32]++lw).size+y.size) 9223372036854775807),(NT 0 1),Con Tryz.prog 150 0 [] [(zf30 N nb g np pl K)] [(0,⟨false,1,q,(fun i=>[.p (.int .i64 (v i))])⟩)] (.tup [.ar 1 0 0 q,.p (.bool false)]),(false=false),(ByteArray.mk #[107,105,110,100,115,32]++kl++ByteArray.mk #[32,115,116,114,101,115,115,32]++lw++y=tsK++kl++tsS++lw++y)]:=by kernel_rfl
theorem thFT (g:Nat→T_Bar) (nb:Nat) (N:Int) (pl:Nat→T_Place) (np:Nat) (K:T_IntS) (m q:Nat) (w v:Nat→Int) (kl lv:ByteArray) :
    pathOb Tryz.prog Tryz.f39 0 [rg 2,rm [(1,oc [] (.p (.bool true)))] 1,.dec false,rm [(1,oc [(0,iOb m w)] (.tup [.ar 1 0 0 m,.p (.bool false)]))] 5,rm [(2,oc [] (.p (.str kl)))] 2,rg 1,.dec false,rm [(1,oc [(0,iOb q v)] (.tup [.ar 1 0 0 q,.p (.bool true)]))] 5,rg 1,.dec true,rm [(3,oc [] (.p (.str lv)))] 2,rg 2] [.code (bodyOf Tryz.f39)] (start Tryz.f39 [] 0 [tsA g nb N pl np K]) [] 1 [] (.p (.str (((tsK++kl)++tsL)++lv))) =
    some [(NT 0 1),Con Tryz.prog 147 0 [] [(zf30 N nb g np pl K)] [] (.p (.bool true)),((!true)=false),(NT 0 1),Con Tryz.prog 148 0 [] [(zf30 N nb g np pl K)] [(0,⟨false,1,m,(fun i=>[.p (.int .i64 (w i))])⟩)] (.tup [.ar 1 0 0 m,.p (.bool false)]),(NT 0 1),Con Tryz.prog 149 0 [] [.p (.seq true 1 K.1 (iRw K))] [] (.p (.str kl)),(NL ((ByteArray.mk #[107,105,110,100,115,32]).size+kl.size) 9223372036854775807),(false=false),(NT 0 1),Con Tryz.prog 150 0 [] [(zf30 N nb g np pl K)] [(0,⟨false,1,q,(fun i=>[.p (.int .i64 (v i))])⟩)] (.tup [.ar 1 0 0 q,.p (.bool true)]),(true=true),(NL ((ByteArray.mk #[107,105,110,100,115,32]++kl).size+(ByteArray.mk #[32,108,111,111,115,101,32]).size) 9223372036854775807),(AN 1),(NL q q),Con Tryz.prog 103 0 [] [.p (.seq true 1 q (fun i=>[.int .i64 (v i)]))] [] (.p (.str lv)),(NL ((ByteArray.mk #[107,105,110,100,115,32]++kl++ByteArray.mk #[32,108,111,111,115,101,32]).size+lv.size) 9223372036854775807),(ByteArray.mk #[107,105,110,100,115,32]++kl++ByteArray.mk #[32,108,111,111,115,101,32]++lv=tsK++kl++tsL++lv)]:=by kernel_rfl
theorem thFF (g:Nat→T_Bar) (nb:Nat) (N:Int) (pl:Nat→T_Place) (np:Nat) (K:T_IntS) (m q:Nat) (w v:Nat→Int) (kl:ByteArray) :
    pathOb Tryz.prog Tryz.f39 0 [rg 2,rm [(1,oc [] (.p (.bool true)))] 1,.dec false,rm [(1,oc [(0,iOb m w)] (.tup [.ar 1 0 0 m,.p (.bool false)]))] 5,rm [(2,oc [] (.p (.str kl)))] 2,rg 1,.dec false,rm [(1,oc [(0,iOb q v)] (.tup [.ar 1 0 0 q,.p (.bool false)]))] 5,rg 1,.dec false,rg 2] [.code (bodyOf Tryz.f39)] (start Tryz.f39 [] 0 [tsA g nb N pl np K]) [] 1 [] (.p (.str (tsK++kl))) =
    some [(NT 0 1),Con Tryz.prog 147 0 [] [(zf30 N nb g np pl K)] [] (.p (.bool true)),((!true)=false),(NT 0 1),Con Tryz.prog 148 0 [] [(zf30 N nb g np pl K)] [(0,⟨false,1,m,(fun i=>[.p (.int .i64 (w i))])⟩)] (.tup [.ar 1 0 0 m,.p (.bool false)]),(NT 0 1),Con Tryz.prog 149 0 [] [.p (.seq true 1 K.1 (iRw K))] [] (.p (.str kl)),(NL ((ByteArray.mk #[107,105,110,100,115,32]).size+kl.size) 9223372036854775807),(false=false),(NT 0 1),Con Tryz.prog 150 0 [] [(zf30 N nb g np pl K)] [(0,⟨false,1,q,(fun i=>[.p (.int .i64 (v i))])⟩)] (.tup [.ar 1 0 0 q,.p (.bool false)]),(false=false),(ByteArray.mk #[107,105,110,100,115,32]++kl=tsK++kl)]:=by kernel_rfl
noncomputable def tlF (g:Nat→T_Bar) (nb:Nat) (N:Int) (pl:Nat→T_Place) (np:Nat) (K:T_IntS):ByteArray :=
  if tsB g nb N pl np K=true then
    let s:=tsK++klB K
    let s3:=if (fstF g nb N pl np K).1=true then ((s++tsS)++nlB (fstF g nb N pl np K).2)++yesB (bif strcB g nb N pl np K (fstF g nb N pl np K).2 then ffF g nb N pl np==0 else false) tsF' else s
    if (flmF g nb N pl np K).1=true then (s3++tsL)++nlB (flmF g nb N pl np K).2 else s3
  else tsE
theorem tg_kd {g:Nat→T_Bar} {nb:Nat} {N:Int} {pl:Nat→T_Place} {np:Nat} {w:T_IntS} (h:tsB g nb N pl np w=true):allB (kdP w) w.1=true:=by
  unfold tsB at h
  exact (Bool.and_eq_true_iff.1 h).1
theorem con_TLine_i (g:Nat→T_Bar) (nb:Nat) (N:Int) (pl:Nat→T_Place) (np:Nat) (K:T_IntS) (hn:nb≤1048576∧np≤1048576) (hK:K.1≤1048576) :
    Con Tryz.prog 41 0 [] [tsA g nb N pl np K] [] (.p (.str (tlF g nb N pl np K))):=by
  have c1:=con_IsTensegrity_i g nb N pl np K hn hK
  unfold tlF
  cases ht:tsB g nb N pl np K with
  | false =>
    rw [ht] at c1
    rw [if_neg Bool.false_ne_true]
    refine csZ Tryz.func41 (fun c hc=>?_)
    refine pkZ Tryz.func41 hc (tgN g nb N pl np K) ?_
    repeat' (first | exact aN | apply aI)
    all_goals (first | omega | rfl | (intros;first | assumption | exact trivial | rfl) | (exact c1) | rfl)
  | true =>
    rw [ht] at c1
    rw [if_pos rfl]
    obtain ⟨hk,hf⟩:=ts_len ht
    obtain ⟨n,rfl⟩:=fw_N hf
    obtain ⟨h1,h2,h3,h4,hok,hb⟩:=fw_ok hf
    have hkd:=tg_kd ht
    have c2:=con_kindLetters K hK hkd
    have z2:=klB_size K
    have c3:=con_FStrict_i g nb n pl np K hn hK
    obtain ⟨w1,w2⟩:=fst_in g nb n pl np K
    have c4:=con_listed (fstF g nb n pl np K).2 (by omega) (fun i hi=>by have:=w2 i hi;omega)
    have z4:=nlB_le (fstF g nb n pl np K).2
    have c5:=con_PStiff_i g nb n pl np K (fstF g nb n pl np K).2 hn hK (by omega)
    have c6:=con_FLoose_i g nb n pl np K hn hK
    obtain ⟨_,v1,v2⟩:=flm_ok ht
    have c7:=con_listed (flmF g nb n pl np K).2 (by omega) (fun i hi=>by have:=v2 i hi;omega)
    have z7:=nlB_le (flmF g nb n pl np K).2
    generalize (bif strcB g nb n pl np K (fstF g nb n pl np K).2 then ffF g nb n pl np==0 else false)=b2 at *
    generalize fstF g nb n pl np K=W at *
    generalize flmF g nb n pl np K=X at *
    generalize klB K=kl at *
    generalize nlB W.2=lw at *
    generalize nlB X.2=lv at *
    show Con _ _ _ _ _ _ (.p (.str (if X.1=true then ((if W.1=true then (((tsK++kl)++tsS)++lw)++yesB b2 tsF' else tsK++kl)++tsL)++lv else (if W.1=true then (((tsK++kl)++tsS)++lw)++yesB b2 tsF' else tsK++kl))))
    have hl1:=con_line_ls 2 [tdK,kl] rfl (by omega) 1000000 (by omega) (by
      intro s hs;simp only [List.mem_cons,List.not_mem_nil,or_false] at hs
      rcases hs with rfl | rfl
      · show 5≤_;omega
      · omega)
    have e1:joinB sSp (lsF 2 [tdK,kl]) 2=tsK++kl:=by
      rw [join_2]
      show (tdK++sSp)++kl=_
      rw [show tsK=tdK++sSp from rfl]
    rw [e1] at hl1
    have zs1:(tsK++kl).size≤30:=by rw [ByteArray.size_append];show 6+kl.size≤_;omega
    generalize tsK++kl=s1 at *
    have hl2:=con_ifSo_2 s1 W.1 tdS lw (by omega) (by show 6≤_;omega) (by omega)
    have e2:s1++(((sSp++tdS)++sSp)++lw)=(s1++tsS)++lw:=by
      rw [show tsS=(sSp++tdS)++sSp from rfl];simp only [ByteArray.append_assoc]
    rw [e2] at hl2
    have zs2:(if W.1=true then (s1++tsS)++lw else s1).size≤1000:=by
      split
      · simp only [ByteArray.size_append];show s1.size+8+lw.size≤_;omega
      · omega
    have e3:(if W.1=true then ((s1++tsS)++lw)++yesB b2 tsF' else s1)=(if W.1=true then (s1++tsS)++lw else s1)++yesB (bif W.1 then b2 else false) (sSp++tdF):=by
      cases W.1 with
      | true=>rfl
      | false=>exact (app_sE s1).symm
    rw [e3]
    have hl3:=con_ifSo_1 (if W.1=true then (s1++tsS)++lw else s1) (bif W.1 then b2 else false) tdF (by omega) (by show 5≤_;omega)
    have z3:=yes1_size (if W.1=true then (s1++tsS)++lw else s1) (bif W.1 then b2 else false) tdF
    rw [show tdF.size=5 from rfl] at z3
    generalize (if W.1=true then (s1++tsS)++lw else s1)=s2 at *
    generalize hb1:W.1=b1 at *
    generalize s2++yesB (bif b1 then b2 else false) (sSp++tdF)=s3 at *
    have hl4:=con_ifSo_2 s3 X.1 tdL lv (by omega) (by show 5≤_;omega) (by omega)
    have e4:s3++(((sSp++tdL)++sSp)++lv)=(s3++tsL)++lv:=by
      rw [show tsL=(sSp++tdL)++sSp from rfl];simp only [ByteArray.append_assoc]
    rw [e4] at hl4
    generalize (if X.1=true then (s3++tsL)++lv else s3)=s4 at *
    generalize hb3:X.1=b3 at *
    refine csZ Tryz.func41 (fun c hc=>?_)
    refine pkZ Tryz.func41 hc (tgR g nb n pl np K W.2.1 X.2.1 W.2.2 X.2.2 b1 b2 b3 kl s1 lw s2 s3 lv s4) ?_
    repeat' (first | exact aN | apply aI)
    all_goals (first | exact aG _ | omega | rfl | (intros;first | assumption | exact trivial | rfl | exact fT ‹_›) | (exact c1) | (exact c2) | (exact c3) | (exact c4) | (intros;exact c5) | (exact c6) | (exact c7) | (exact hl1) | (exact hl2) | (exact hl3) | (exact hl4) | (intro h;exact h) | (intro i hi;simp [All];done) | (simp;done))
theorem con_TLine_s (g:Nat→T_Bar) (nb:Nat) (N:Int) (pl:Nat→T_Place) (np:Nat) (K:T_IntS) (hn:nb≤1048576∧np≤1048576) (hK:K.1≤1048576) :
    Con Tryz.prog 39 0 [] [tsA g nb N pl np K] [] (.p (.str (tlF g nb N pl np K))):=by
  have c1:=con_IsTensegrity_s g nb N pl np K hn hK
  unfold tlF
  cases ht:tsB g nb N pl np K with
  | false =>
    rw [ht] at c1
    rw [if_neg Bool.false_ne_true]
    refine csZ Tryz.func39 (fun c hc=>?_)
    refine pkZ Tryz.func39 hc (thN g nb N pl np K) ?_
    repeat' (first | exact aN | apply aI)
    all_goals (first | omega | rfl | (intros;first | assumption | exact trivial | rfl) | (exact c1) | rfl)
  | true =>
    rw [ht] at c1
    rw [if_pos rfl]
    obtain ⟨hk,hf⟩:=ts_len ht
    obtain ⟨n,rfl⟩:=fw_N hf
    obtain ⟨h1,h2,h3,h4,hok,hb⟩:=fw_ok hf
    have c2:=con_l33Kinds K hK
    have z2:=klB_size K
    have c3:=con_FStrict_s g nb n pl np K hn hK
    obtain ⟨w1,w2⟩:=fst_in g nb n pl np K
    have c4:=con_l33Numbers (fstF g nb n pl np K).2 (by omega) (fun i hi=>by have:=w2 i hi;omega)
    have z4:=nlB_le (fstF g nb n pl np K).2
    have c5:=con_PStiff_s g nb n pl np K (fstF g nb n pl np K).2 hn hK (by omega)
    have c6:=con_FLoose_s g nb n pl np K hn hK
    obtain ⟨_,v1,v2⟩:=flm_ok ht
    have c7:=con_l33Numbers (flmF g nb n pl np K).2 (by omega) (fun i hi=>by have:=v2 i hi;omega)
    have z7:=nlB_le (flmF g nb n pl np K).2
    generalize (bif strcB g nb n pl np K (fstF g nb n pl np K).2 then ffF g nb n pl np==0 else false)=b2 at *
    generalize fstF g nb n pl np K=W at *
    generalize flmF g nb n pl np K=X at *
    have cy:=con_l34Yes b2 tsF'
    have g1:=yes_size b2 tsF'
    rw [show tsF'.size=6 from rfl] at g1
    generalize klB K=kl at *
    generalize nlB W.2=lw at *
    generalize nlB X.2=lv at *
    generalize yesB b2 tsF'=y at *
    show Con _ _ _ _ _ _ (.p (.str (if X.1=true then ((if W.1=true then (((tsK++kl)++tsS)++lw)++y else tsK++kl)++tsL)++lv else (if W.1=true then (((tsK++kl)++tsS)++lw)++y else tsK++kl))))
    have x1:(ByteArray.mk #[107,105,110,100,115,32]).size=6:=rfl
    have x2:(ByteArray.mk #[32,115,116,114,101,115,115,32]).size=8:=rfl
    have x3:(ByteArray.mk #[32,108,111,111,115,101,32]).size=7:=rfl
    refine csZ Tryz.func39 (fun c hc=>?_)
    cases hW:W.1 with
    | true =>
      rw [hW] at c3
      cases hX:X.1 with
      | true =>
        rw [hX] at c6
        refine pkZ Tryz.func39 hc (thTT g nb n pl np K W.2.1 X.2.1 W.2.2 X.2.2 b2 kl lw y lv) ?_
        repeat' (first | exact aN | apply aI)
        all_goals (first | omega | rfl | (intros;first | assumption | exact trivial | rfl) | (exact c1) | (exact c2) | (exact c3) | (exact c4) | (exact c5) | (exact cy) | (exact c6) | (exact c7) | (intro i hi;simp [All];done) | (simp only [ByteArray.size_append,x1,x2,x3];omega) | (simp;done))
      | false =>
        rw [hX] at c6
        refine pkZ Tryz.func39 hc (thTF g nb n pl np K W.2.1 X.2.1 W.2.2 X.2.2 b2 kl lw y) ?_
        repeat' (first | exact aN | apply aI)
        all_goals (first | omega | rfl | (intros;first | assumption | exact trivial | rfl) | (exact c1) | (exact c2) | (exact c3) | (exact c4) | (exact c5) | (exact cy) | (exact c6) | (intro i hi;simp [All];done) | (simp only [ByteArray.size_append,x1,x2,x3];omega) | (simp;done))
    | false =>
      rw [hW] at c3
      cases hX:X.1 with
      | true =>
        rw [hX] at c6
        refine pkZ Tryz.func39 hc (thFT g nb n pl np K W.2.1 X.2.1 W.2.2 X.2.2 kl lv) ?_
        repeat' (first | exact aN | apply aI)
        all_goals (first | omega | rfl | (intros;first | assumption | exact trivial | rfl) | (exact c1) | (exact c2) | (exact c3) | (exact c6) | (exact c7) | (intro i hi;simp [All];done) | (simp only [ByteArray.size_append,x1,x2,x3];omega) | (simp;done))
      | false =>
        rw [hX] at c6
        refine pkZ Tryz.func39 hc (thFF g nb n pl np K W.2.1 X.2.1 W.2.2 X.2.2 kl) ?_
        repeat' (first | exact aN | apply aI)
        all_goals (first | omega | rfl | (intros;first | assumption | exact trivial | rfl) | (exact c1) | (exact c2) | (exact c3) | (exact c6) | (intro i hi;simp [All];done) | (simp only [ByteArray.size_append,x1,x2,x3];omega) | (simp;done))
noncomputable def tlV (v:T_Tensegrity):ByteArray:=tlF v.1.1.2.1.2 v.1.1.2.1.1 v.1.1.1 v.1.2.1.2 v.1.2.1.1 v.2.1
theorem ts_sm {v:T_Tensegrity} (hs:smS s_Tensegrity v):(v.1.1.2.1.1≤1048576∧v.1.2.1.1≤1048576)∧v.2.1.1≤1048576:=by
  obtain ⟨⟨⟨_,⟨h2,_⟩,_⟩,⟨h3,_⟩,_⟩,⟨h4,_⟩,_⟩:=hs
  exact ⟨⟨h2,h3⟩,h4⟩
theorem con_TLineV_i (v:T_Tensegrity) (hs:smS s_Tensegrity v):Con Tryz.prog 41 0 [] [tsA v.1.1.2.1.2 v.1.1.2.1.1 v.1.1.1 v.1.2.1.2 v.1.2.1.1 v.2.1] [] (.p (.str (tlV v))) :=
  con_TLine_i _ _ _ _ _ _ (ts_sm hs).1 (ts_sm hs).2
theorem con_TLineV_s (v:T_Tensegrity) (hs:smS s_Tensegrity v):Con Tryz.prog 39 0 [] [tsA v.1.1.2.1.2 v.1.1.2.1.1 v.1.1.1 v.1.2.1.2 v.1.2.1.1 v.2.1] [] (.p (.str (tlV v))) :=
  con_TLine_s _ _ _ _ _ _ (ts_sm hs).1 (ts_sm hs).2
end Go.Proofs.YtkkjoghiigiokaaGreat.Mach
namespace Go.Proofs.YtkkjoghiigiokaaGreat.Mach
open Go
set_option linter.unusedVariables false
set_option linter.unusedSimpArgs false
theorem p_FnExactTensegrityLine_0 (v0:T_Tensegrity) :
    pathOb Tryz.prog Tryz.f8 0 [rg 2,rg 1,rm [(2,oc [] (.p (.int .i64 (f_szTensegrity v0 1048576))))] 1,rg 2,.dec true,rg 1] [.code (bodyOf Tryz.f8)] (start Tryz.f8 [] 0 [(zf24 v0)]) [] 1 [] (.p (.bool true)) =
    some [(NT 0 1),Con Tryz.prog 38 0 [] [(zf24 v0),.p (.int .i64 1048576)] [] (.p (.int .i64 (f_szTensegrity v0 1048576))),((decide (f_szTensegrity v0 1048576<0))=true),(true=true)]:=by kernel_rfl
theorem p_FnExactTensegrityLine_e (v0:T_Tensegrity) :
    pathOb Tryz.prog Tryz.f8 0 [rg 2,rg 1,rm [(2,oc [] (.p (.int .i64 (f_szTensegrity v0 1048576))))] 1,rg 2,.dec false,rm [(1,oc (zf26 v0) (zf119 v0)),(0,oc [] (.p (.str (tlV v0))))] 1,rm [(1,oc (zf26 v0) (zf119 v0))] 2,rm [(1,oc [] (.p (.str (tlV v0))))] 1,rg 3,.dec false,rm [(2,oc (zf26 v0) (zf119 v0)),(0,oc [] (.p (.bool true)))] 1,.dec false,rg 1] [.code (bodyOf Tryz.f8)] (start Tryz.f8 [] 0 [(zf24 v0)]) [] 1 [] (.p (.bool true)) =
    some [(NT 0 1),Con Tryz.prog 38 0 [] [(zf24 v0),.p (.int .i64 1048576)] [] (.p (.int .i64 (f_szTensegrity v0 1048576))),((decide (f_szTensegrity v0 1048576<0))=false),(NT 0 1),Con Tryz.prog 40 0 [] [(zf24 v0)] (zf25 v0) ((zf119 v0)),(AN 2),(NL v0.1.1.2.1.1 v0.1.1.2.1.1),(AN 2),(NL v0.1.2.1.1 v0.1.2.1.1),(AN 1),(NL v0.2.1.1 v0.2.1.1),Con Tryz.prog 39 0 [] [(zf24 v0)] [] (.p (.str (tlV v0))),(NT 0 1),Con Tryz.prog 40 0 [] [(zf24 v0)] (zf25 v0) ((zf119 v0)),(NT 0 1),((true=true)→ (AN 1)),(NT 0 1),(AN 2),(NL v0.1.1.2.1.1 v0.1.1.2.1.1),(AN 2),(NL v0.1.2.1.1 v0.1.2.1.1),(AN 1),(NL v0.2.1.1 v0.2.1.1),Con Tryz.prog 41 0 [] [(zf24 v0)] [] (.p (.str (tlV v0))),((!(tlV v0).toList==(tlV v0).toList)=false),(NT 0 1),(NT 0 1),Con Tryz.prog 40 0 [] [(zf24 v0)] (zf25 v0) ((zf119 v0)),(AN 2),(NL v0.1.1.2.1.1 v0.1.1.2.1.1),(AN 2),(NL v0.1.2.1.1 v0.1.2.1.1),(AN 1),(NL v0.2.1.1 v0.2.1.1),(AN 2),(NL v0.1.1.2.1.1 v0.1.1.2.1.1),(AN 2),(NL v0.1.2.1.1 v0.1.2.1.1),(AN 1),(NL v0.2.1.1 v0.2.1.1),Con Tryz.prog 42 0 [] [(zf24 v0),(zf24 v0)] [] (.p (.bool true)),((!true)=false),(true=true)]:=by kernel_rfl
theorem con_law_FnExactTensegrityLine (v0:T_Tensegrity) (k0:okS s_Tensegrity v0):Con Tryz.prog 8 0 [] [(zf24 v0)] [] (.p (.bool true)):=by
  refine csZ Tryz.func8 (fun c hc=>?_)
  have l0:=le_szTensegrity v0 1048576 (by omega)
  by_cases g0:(f_szTensegrity v0 1048576)<0
  · refine pkZ Tryz.func8 hc (p_FnExactTensegrityLine_0 v0) ?_
    repeat' (first | exact aN | apply aI)
    all_goals (first | omega | rfl | (intros;first | assumption | exact trivial | rfl) | (exact con_szTensegrity v0 k0 _ (by omega) (by omega)) | (simp;omega))
  have hs0:=sm_szTensegrity v0 1048576 (by omega) (by omega) g0
  refine pkZ Tryz.func8 hc (p_FnExactTensegrityLine_e v0) ?_
  repeat' (first | exact aN | apply aI)
  all_goals (first | omega | rfl | (intros;first | assumption | exact trivial | rfl | exact fT ‹_›) | (exact con_szTensegrity v0 k0 _ (by omega) (by omega)) | (exact con_toTensegrity v0 hs0) | (exact con_TLineV_s v0 hs0) | (exact con_TLineV_i v0 hs0) | (exact con_eqTensegrity v0 hs0) | (simp;try omega))
end Go.Proofs.YtkkjoghiigiokaaGreat.Mach
