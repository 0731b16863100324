/- What the law Jr needs, part 6 of 6: the abstract machine and the contracts of the functions. Conditions: as each theorem says. -/
import Derived.Test.YtkepkjbofchckaaGreatJrP5
namespace Go.Proofs.YtkepkjbofchckaaGreat.Mach
open Go Go.Sort
set_option linter.unusedVariables false
set_option linter.unusedSimpArgs false
structure DwP (p:T_Pinned):Prop where
  sm:SmP p
  bd:BdB p.1.2.1.1 p.1.2.1.2
theorem okE_small {a b c:Int} (ha:-10≤a∧a≤300) (hb:-10≤b∧b≤300) (hc:-10≤c∧c≤300):okE (a,b,c,()):=by
  refine ⟨?_,?_,?_⟩<;>(unfold InI;simp only;omega)
theorem con_l31Event (n:Nat) (f:Nat→Int) (hn:CdOk n f) (s:Nat×Int) (hs:s.1≤n) (p:T_Pinned) (hp:DwP p):∃ (s2:Nat×Int) (e:T_Event),s2.1≤n∧okE e ∧
    Con Tryz.prog 102 1 [(0,cuO n f s)] [.pt 3 0 0 0,pinA p] [(0,cuO n f s2)] (evtA e):=by
  have hk:=hp.sm.1
  obtain ⟨s1,x,h1,hx,c1⟩:=con_l1Below n f hn s hs 6 (by omega)
  have hx2:=hx.2.1 (by omega)
  have tail:∃ (s2 s3:Nat×Int) (a b:Int),s3.1≤n∧okE (1,a,b,()) ∧
      Con Tryz.prog 89 1 [(0,cuO n f s1)] [.pt 3 0 0 0,.p (.int .i64 6)] [(0,cuO n f s2)] (.p (.int .i64 a)) ∧
      Con Tryz.prog 89 1 [(0,cuO n f s2)] [.pt 3 0 0 0,.p (.int .i64 6)] [(0,cuO n f s3)] (.p (.int .i64 b)):=by
    obtain ⟨s2,a,h2,ha,c2⟩:=con_l1Below n f hn s1 h1 6 (by omega)
    obtain ⟨s3,b,h3,hb,c3⟩:=con_l1Below n f hn s2 h2 6 (by omega)
    exact ⟨s2,s3,a,b,h3,okE_small (by omega) (by omega) (by omega),c2,c3⟩
  by_cases e0:x=0
  · subst e0
    refine ⟨s1,(3,0,0,()),h1,okE_small (by omega) (by omega) (by omega),?_⟩
    refine csZ Tryz.func102 (fun c hc=>?_)
    refine pkZ Tryz.func102 hc (jv0 n f s s1 s1 s1 s1 p 0 0 0 0 0) ?_
    and_intros
    iterate 2 all_goals (first | exact zI | (exact c1) | (intros;simp [All];done) | (simp;done) | simp only [All])
  by_cases e1:x=1
  · subst e1
    refine ⟨s1,(4,0,0,()),h1,okE_small (by omega) (by omega) (by omega),?_⟩
    refine csZ Tryz.func102 (fun c hc=>?_)
    refine pkZ Tryz.func102 hc (jv1 n f s s1 s1 s1 s1 p 1 0 0 0 0) ?_
    and_intros
    iterate 2 all_goals (first | exact zI | (exact c1) | (intros;simp [All];done) | (simp;done) | simp only [All])
  by_cases e4:x=4
  · subst e4
    obtain ⟨s2,a,h2,ha,c2⟩:=con_l1Below n f hn s1 h1 6 (by omega)
    obtain ⟨s3,b,h3,hb,c3⟩:=con_l1Below n f hn s2 h2 3 (by omega)
    obtain ⟨s4,d,h4,hd,c4⟩:=con_l1Below n f hn s3 h3 9 (by omega)
    refine ⟨s4,(a,b - 1,d,()),h4,okE_small (by omega) (by omega) (by omega),?_⟩
    refine csZ Tryz.func102 (fun c hc=>?_)
    refine pkZ Tryz.func102 hc (jv4 n f s s1 s2 s3 s4 p 4 a b d 0) ?_
    and_intros
    iterate 2 all_goals (first | exact zI | (exact c1) | (exact c2) | (exact c3) | (exact c4) | (intros;simp [All];done) | (simp;done) | (simp;omega) | simp only [All])
  by_cases e5:x=5
  · subst e5
    obtain ⟨s2,s3,a,b,h3,hok,c2,c3⟩:=tail
    refine ⟨s3,(1,a,b,()),h3,hok,?_⟩
    refine csZ Tryz.func102 (fun c hc=>?_)
    refine pkZ Tryz.func102 hc (jv5 n f s s1 s2 s3 s3 p 5 a b 0 0) ?_
    and_intros
    iterate 2 all_goals (first | exact zI | (exact c1) | (exact c2) | (exact c3) | (intros;simp [All];done) | (simp;done) | (simp;omega) | simp only [All])
  by_cases h0:0<p.1.2.1.1
  · have hd:decide ((p.1.2.1.1:Int)>0)=true:=decide_eq_true (by omega)
    obtain ⟨s2,i,h2,hi,c2⟩:=con_l1Below n f hn s1 h1 p.1.2.1.1 (by omega)
    have hi2:=hi.2.1 (by omega)
    obtain ⟨i,rfl⟩:∃ t:Nat,i=(t:Int):=⟨i.toNat,by omega⟩
    have hb:=hp.bd i (by omega)
    refine ⟨s2,(2,(p.1.2.1.2 i).1,(p.1.2.1.2 i).2.1,()),h2,okE_small (by omega) (by omega) (by omega),?_⟩
    refine csZ Tryz.func102 (fun c hc=>?_)
    rcases (show x=2∨x=3 by omega) with rfl | rfl
    · refine pkD Tryz.func102 hc (jv2t n f s s1 s2 s2 s2 p 2 0 0 0 i) ?_
      and_intros
      iterate 2 all_goals (first | exact zI | (exact c1) | (exact c2) | (exact hd) | (intros;simp [All];done) | (simp;done) | (simp;omega) | simp only [All])
    · refine pkD Tryz.func102 hc (jv3t n f s s1 s2 s2 s2 p 3 0 0 0 i) ?_
      and_intros
      iterate 2 all_goals (first | exact zI | (exact c1) | (exact c2) | (exact hd) | (intros;simp [All];done) | (simp;done) | (simp;omega) | simp only [All])
  · have hd:decide ((p.1.2.1.1:Int)>0)=false:=decide_eq_false (by omega)
    obtain ⟨s2,s3,a,b,h3,hok,c2,c3⟩:=tail
    refine ⟨s3,(1,a,b,()),h3,hok,?_⟩
    refine csZ Tryz.func102 (fun c hc=>?_)
    rcases (show x=2∨x=3 by omega) with rfl | rfl
    · refine pkZ Tryz.func102 hc (jv2f n f s s1 s2 s3 s3 p 2 a b 0 0) ?_
      and_intros
      iterate 2 all_goals (first | exact zI | (exact c1) | (exact c2) | (exact c3) | (exact hd) | (intros;simp [All];done) | (simp;done) | (simp;omega) | simp only [All])
    · refine pkZ Tryz.func102 hc (jv3f n f s s1 s2 s3 s3 p 3 a b 0 0) ?_
      and_intros
      iterate 2 all_goals (first | exact zI | (exact c1) | (exact c2) | (exact c3) | (exact hd) | (intros;simp [All];done) | (simp;done) | (simp;omega) | simp only [All])
theorem snE_ok {r:T_EventS} {e:T_Event} (h:∀ i,i<r.1→okE (r.2 i)) (he:okE e):∀ i,i<(snE r e).1→okE ((snE r e).2 i):=by
  intro i hi
  have hi:i<r.1+1:=hi
  by_cases h':i<r.1
  · have:=h i h'
    simpa [snE,h'] using this
  · simpa [snE,h'] using he
theorem con_l31Both (n:Nat) (f:Nat→Int) (hn:CdOk n f) (s:Nat×Int) (hs:s.1≤n):∃ (s2:Nat×Int) (p:T_Pinned) (l:T_EventS),s2.1≤n∧DwP p∧l.1≤6∧(∀ i,i<l.1→okE (l.2 i)) ∧
    Con Tryz.prog 95 1 [(0,cuO n f s)] [.pt 3 0 0 0] [(0,cuO n f s2),(1,brOb p.1.2.1.1 p.1.2.1.2),(2,iOb p.2.1.1 p.2.1.2),(3,evOb l),(4,stOt 0 noT)] (.tup [siJ (siN p) 1 2 4,.ar 3 3 0 l.1]):=by
  have lo:∀ (p:T_Pinned),DwP p→∀ q (s:Nat×Int) (l:T_EventS),s.1≤n→l.1+q≤6→(∀ i,i<l.1→okE (l.2 i))→∃ (s2:Nat×Int) (l2:T_EventS),s2.1≤n∧l2.1≤6∧(∀ i,i<l2.1→okE (l2.2 i)) ∧
      ∀ c:Cx,c.n=1→zR c 95 zf37 (SBo n f s p l q) (Post c [(0,cuO n f s2),(1,brOb p.1.2.1.1 p.1.2.1.2),(2,iOb p.2.1.1 p.2.1.2),(3,evOb l2),(4,stOt 0 noT)] (.tup [siJ (siN p) 1 2 4,.ar 3 3 0 l2.1])):=by
    intro p hp q
    induction q with
    | zero =>
      intro s l hs hl hok
      refine ⟨s,l,hs,hl,hok,fun c hc=>?_⟩
      refine pkZ Tryz.func95 hc (jbe n f s p l) ?_
      and_intros
      iterate 2 all_goals (first | exact zI | (intro i hi;exact absurd hi (Nat.not_lt_zero _)) | (intros;simp [All];done) | (simp;done) | simp only [All])
    | succ q ih =>
      intro s l hs hl hok
      have hd:decide (((q+1:Nat):Int)>0)=true:=decide_eq_true (by omega)
      obtain ⟨s1,e,h1,he,c1⟩:=con_l31Event n f hn s hs p hp
      obtain ⟨s2,l2,i1,i2,i3,hr⟩:=ih s1 (snE l e) h1 (by show l.1+1+q≤6;omega) (snE_ok hok he)
      refine ⟨s2,l2,i1,i2,i3,fun c hc=>?_⟩
      refine pcD hc (jbb n f s s1 p l q e) ?_ (hr c hc)
      and_intros
      all_goals (first | exact zI | (exact hd) | (exact c1) | (intros;simp [All];done) | (simp;done) | (simp;omega) | (intro i hi;have hi2:i<l.1∨i=l.1:=(by omega);rcases hi2 with h' | h'<;>simp [h',snE,cvtL,cvt,tg,tru,All]))
  obtain ⟨s1,N,k,h,u,h1,hN,hk,hu,hB,c1⟩:=con_l27Any n f hn s hs
  obtain ⟨s2,q,h2,hq,c2⟩:=con_l1Below n f hn s1 h1 7 (by omega)
  have hq2:=hq.2.1 (by omega)
  obtain ⟨q,rfl⟩:∃ t:Nat,q=(t:Int):=⟨q.toNat,by omega⟩
  have hp:DwP ((N,(k,h),()),u,()):=⟨⟨hk,by show u.1≤8;omega⟩,hB⟩
  obtain ⟨s3,l,i1,i2,i3,hr⟩:=lo _ hp q s2 (0,fun _=>(0,0,0,())) h2 (by show 0+q≤6;omega) (fun i hi=>absurd hi (Nat.not_lt_zero _))
  refine ⟨s3,((N,(k,h),()),u,()),l,i1,hp,i2,i3,?_⟩
  refine csZ Tryz.func95 (fun c hc=>?_)
  refine pcD hc (jba n f s s1 s2 ((N,(k,h),()),u,()) q) ?_ (hr c hc)
  and_intros
  all_goals (first | exact zI | (exact c1) | (exact c2) | (intro i hi;exact absurd hi (Nat.not_lt_zero _)) | (intros;simp [All];done) | (simp;done) | (simp;omega))
theorem noT_size (i:Nat):(noT i).size≤1048576:=by show (ByteArray.mk #[]).size≤1048576;decide
theorem sm_siK {p:T_Pinned} (h:SmP p) (k:Nat) (hk:k≤100):smS s_Site (p,(k,noT),()):=by
  have h1:=h.sm
  exact ⟨h1,⟨by show k≤1048576;omega,fun i _=>noT_size i⟩,True.intro⟩
theorem con_DrawRunEvents (n:Nat) (f:Nat→Int) (hn:CdOk n f):∃ (p:T_Pinned) (l:T_EventS),DwP p∧l.1≤6∧(∀ i,i<l.1→okE (l.2 i)) ∧
    zE 26 [cdA n f] [(0,brOb p.1.2.1.1 p.1.2.1.2),(1,iOb p.2.1.1 p.2.1.2),(2,evOb l),(3,stOt 0 noT)] (.tup [siJ (siN p) 0 1 3,.ar 3 2 0 l.1]):=by
  obtain ⟨s,h0,c0⟩:=con_l1New n f hn
  obtain ⟨s1,p,l,h1,hp,hl,hok,c1⟩:=con_l31Both n f hn s h0
  refine ⟨p,l,hp,hl,hok,?_⟩
  refine csZ Tryz.func26 (fun c hc=>?_)
  refine pkZ Tryz.func26 hc (jdR n f s s1 s1 s1 s1 p l (0,0,0,()) (siN p) 0 0) ?_
  and_intros
  all_goals (first | exact zI | (exact c0) | (exact c1) | (intro i hi;exact absurd hi (Nat.not_lt_zero _)) | (intros;simp [All];done) | (simp;done))
theorem con_DrawApplyEvent (n:Nat) (f:Nat→Int) (hn:CdOk n f):∃ (v:T_Site) (e:T_Event),smS s_Site v∧okE e ∧
    zE 34 [cdA n f] (siH v) (.tup [siV v,evtA e]):=by
  obtain ⟨s,h0,c0⟩:=con_l1New n f hn
  obtain ⟨s1,p,l,h1,hp,hl,hok,c1⟩:=con_l31Both n f hn s h0
  obtain ⟨s2,e,h2,he,c2⟩:=con_l31Event n f hn s1 h1 p hp
  obtain ⟨s3,b,h3,c3⟩:=con_l1Once n f hn s2 h2 2 (by omega)
  cases b with
  | true =>
    have c4:=con_Run_s (siN p) (sm_siK hp.sm 0 (by omega)) l (by omega) hok
    refine ⟨rvD (siN p) l l.1,e,sm_rvD (sm_siK hp.sm 0 (by omega)) l l.1,he,?_⟩
    refine csZ Tryz.func34 (fun c hc=>?_)
    generalize rvD (siN p) l l.1=R at c4 ⊢
    refine pkD Tryz.func34 hc (jdAt n f s s1 s2 s3 s3 p l e R 0 0) ?_
    and_intros
    all_goals (first | exact zI | (exact c0) | (exact c1) | (exact c2) | (exact c3) | (exact c4) | (intro i hi;exact absurd hi (Nat.not_lt_zero _)) | (intros;simp [All];done) | (simp;done))
  | false =>
    obtain ⟨s4,b2,h4,c4⟩:=con_l1Once n f hn s3 h3 10 (by omega)
    cases b2 with
    | true =>
      refine ⟨(p,(20,noT),()),e,sm_siK hp.sm 20 (by omega),he,?_⟩
      refine csZ Tryz.func34 (fun c hc=>?_)
      refine pkD Tryz.func34 hc (jdAm n f s s1 s2 s3 s4 p l e (siN p) 0 0) ?_
      and_intros
      iterate 2 all_goals (first | exact zI | (exact c0) | (exact c1) | (exact c2) | (exact c3) | (exact c4) | (intro i hi;exact absurd hi (Nat.not_lt_zero _)) | (intros;simp [All];done) | (intros;simp [All,noT];done) | (simp;done) | simp only [All])
    | false =>
      refine ⟨siN p,e,sm_siK hp.sm 0 (by omega),he,?_⟩
      refine csZ Tryz.func34 (fun c hc=>?_)
      refine pkD Tryz.func34 hc (jdAn n f s s1 s2 s3 s4 p l e (siN p) 0 0) ?_
      and_intros
      all_goals (first | exact zI | (exact c0) | (exact c1) | (exact c2) | (exact c3) | (exact c4) | (intro i hi;exact absurd hi (Nat.not_lt_zero _)) | (intros;simp [All];done) | (simp;done))
def siH3 (v:T_Site):Hp:=[(3,brOb v.1.1.2.1.1 v.1.1.2.1.2),(4,iOb v.1.2.1.1 v.1.2.1.2),(5,stOt v.2.1.1 v.2.1.2)]
theorem con_DrawEqualSites (n:Nat) (f:Nat→Int) (hn:CdOk n f):∃ (a b:T_Site),smS s_Site a∧smS s_Site b ∧
    zE 42 [cdA n f] (siH a++siH3 b) (.tup [siJ a 0 1 2,siJ b 3 4 5]):=by
  obtain ⟨s,h0,c0⟩:=con_l1New n f hn
  obtain ⟨s1,p,l,h1,hp,hl,hok,c1⟩:=con_l31Both n f hn s h0
  have c2:=con_Run_s (siN p) (sm_siK hp.sm 0 (by omega)) l (by omega) hok
  have hR:smS s_Site (rvD (siN p) l l.1):=sm_rvD (v:=siN p) (sm_siK hp.sm 0 (by omega)) l l.1
  generalize rvD (siN p) l l.1=R at c2 hR
  obtain ⟨s2,b,h2,c3⟩:=con_l1Once n f hn s1 h1 2 (by omega)
  cases b with
  | true =>
    have c4:=con_l31Copy R hR
    refine ⟨R,R,hR,hR,?_⟩
    refine csZ Tryz.func42 (fun c hc=>?_)
    refine pkD Tryz.func42 hc (jdEt n f s s1 s2 s2 s2 p l (0,0,0,()) R 0 0) ?_
    and_intros
    all_goals (first | exact zI | (exact c0) | (exact c1) | (exact c2) | (exact c3) | (exact c4) | (intro i hi;exact absurd hi (Nat.not_lt_zero _)) | (intros;simp [All];done) | (simp;done))
  | false =>
    refine ⟨R,siN p,hR,sm_siK hp.sm 0 (by omega),?_⟩
    refine csZ Tryz.func42 (fun c hc=>?_)
    refine pkD Tryz.func42 hc (jdEf n f s s1 s2 s2 s2 p l (0,0,0,()) R 0 0) ?_
    and_intros
    all_goals (first | exact zI | (exact c0) | (exact c1) | (exact c2) | (exact c3) | (intro i hi;exact absurd hi (Nat.not_lt_zero _)) | (intros;simp [All];done) | (simp;done))
theorem con_DrawCountKind (n:Nat) (f:Nat→Int) (hn:CdOk n f):∃ (l:T_EventS) (x:Int),l.1≤6 ∧
    zE 43 [cdA n f] [(0,evOb l)] (.tup [.ar 3 0 0 l.1,.p (.int .i64 x)]):=by
  obtain ⟨s,h0,c0⟩:=con_l1New n f hn
  obtain ⟨s1,p,l,h1,hp,hl,hok,c1⟩:=con_l31Both n f hn s h0
  obtain ⟨s2,x,h2,hx,c2⟩:=con_l1Below n f hn s1 h1 6 (by omega)
  refine ⟨l,x,hl,?_⟩
  refine csZ Tryz.func43 (fun c hc=>?_)
  refine pkZ Tryz.func43 hc (jdK n f s s1 s2 s2 s2 p l (0,0,0,()) (siN p) x 0) ?_
  and_intros
  all_goals (first | exact zI | (exact c0) | (exact c1) | (exact c2) | (intro i hi;exact absurd hi (Nat.not_lt_zero _)) | (intros;simp [All];done) | (simp;done))
theorem con_DrawIsSite (n:Nat) (f:Nat→Int) (hn:CdOk n f):∃ (v:T_Site),smS s_Site v ∧
    zE 44 [cdA n f] (siH v) (siV v):=by
  obtain ⟨s,h0,c0⟩:=con_l1New n f hn
  obtain ⟨s1,p,l,h1,hp,hl,hok,c1⟩:=con_l31Both n f hn s h0
  obtain ⟨s2,b,h2,c2⟩:=con_l1Once n f hn s1 h1 6 (by omega)
  cases b with
  | true =>
    obtain ⟨s3,x,h3,hx,c3⟩:=con_l1Below n f hn s2 h2 3 (by omega)
    have hx2:=hx.2.1 (by omega)
    obtain ⟨x,rfl⟩:∃ t:Nat,x=(t:Int):=⟨x.toNat,by omega⟩
    refine ⟨(p,(19+x,noT),()),sm_siK hp.sm (19+x) (by omega),?_⟩
    refine csZ Tryz.func44 (fun c hc=>?_)
    refine pkD Tryz.func44 hc (jdSt n f s s1 s2 s3 s3 p l (0,0,0,()) (siN p) 0 x) ?_
    and_intros
    iterate 2 all_goals (first | exact zI | (exact c0) | (exact c1) | (exact c2) | (exact c3) | (intro i hi;exact absurd hi (Nat.not_lt_zero _)) | (intros;simp [All];done) | (intros;simp [All,noT];done) | (simp;done) | (simp;omega) | simp only [All])
  | false =>
    have c3:=con_Run_s (siN p) (sm_siK hp.sm 0 (by omega)) l (by omega) hok
    refine ⟨rvD (siN p) l l.1,sm_rvD (sm_siK hp.sm 0 (by omega)) l l.1,?_⟩
    refine csZ Tryz.func44 (fun c hc=>?_)
    generalize rvD (siN p) l l.1=R at c3 ⊢
    refine pkZ Tryz.func44 hc (jdSf n f s s1 s2 s2 s2 p l (0,0,0,()) R 0 0) ?_
    and_intros
    all_goals (first | exact zI | (exact c0) | (exact c1) | (exact c2) | (exact c3) | (intro i hi;exact absurd hi (Nat.not_lt_zero _)) | (intros;simp [All];done) | (simp;done))
def nsR (p:T_Pinned):T_Site:=if pinnedF p=true then siN p else siN zPin
theorem con_l31CopyN (p:T_Pinned) (hp:SmP p):zE 98 [.agg [.p (.int .i64 p.1.1),.p (.seq true 2 p.1.2.1.1 (fun i=>[.int .i64 (p.1.2.1.2 i).1,.int .i64 (p.1.2.1.2 i).2.1])),.p (.seq true 1 p.2.1.1 (fun i=>[.int .i64 (p.2.1.2 i)])),.p .nil]] (siH (siN p)) (siV (siN p)):=by
  refine (con_l31Copy (siN p) (sm_siK hp 0 (by omega))).arg_ext ?_
  simp only [siA,graphL,inL,stLt,siN,wkL,wk,wkP,beq_self_eq_true,Bool.and_self,if_true,ikEq,List.append_nil,List.cons_append,List.nil_append,All]
  and_intros<;>first | trivial | omega | (intros;trivial) | (intro i hi;rfl) | rfl
theorem con_NewSite_i (p:T_Pinned) (hp:SmP p):zE 39 [pinA p] (siH (nsR p)) (.tup [siV (nsR p),.p (.bool (pinnedF p))]):=by
  have c1:=con_IsPinned_i p hp.sm
  have c2:=con_copyPinned p hp.sm
  refine csZ Tryz.func39 (fun c hc=>?_)
  cases hb:pinnedF p with
  | true =>
    rw [hb] at c1
    rw [show nsR p=siN p by simp [nsR,hb]]
    refine pkZ Tryz.func39 hc (jnIt p) ?_
    and_intros
    all_goals (first | exact zI | (exact c1) | (exact c2) | (intro i hi;exact absurd hi (Nat.not_lt_zero _)) | (intros;simp [All];done) | (simp;done))
  | false =>
    rw [hb] at c1
    rw [show nsR p=siN zPin by simp [nsR,hb]]
    refine pkD Tryz.func39 hc (jnIf p) ?_
    and_intros
    all_goals (first | exact zI | (exact c1) | (intro i hi;exact absurd hi (Nat.not_lt_zero _)) | (intros;simp [All];done) | (simp;done))
theorem con_NewSite_s (p:T_Pinned) (hp:SmP p):zE 40 [pinA p] (siH (nsR p)) (.tup [siV (nsR p),.p (.bool (pinnedF p))]):=by
  have c1:=con_IsPinned_s p hp.sm
  have c2:=con_l31CopyN p hp
  refine csZ Tryz.func40 (fun c hc=>?_)
  cases hb:pinnedF p with
  | true =>
    rw [hb] at c1
    rw [show nsR p=siN p by simp [nsR,hb]]
    refine pkZ Tryz.func40 hc (jnSt p) ?_
    and_intros
    iterate 2 all_goals (first | exact zI | (exact c1) | (exact c2) | (intro i hi;exact absurd hi (Nat.not_lt_zero _)) | (intros;simp [All];done) | (simp;done) | simp only [All])
  | false =>
    rw [hb] at c1
    rw [show nsR p=siN zPin by simp [nsR,hb]]
    refine pkD Tryz.func40 hc (jnSf p) ?_
    and_intros
    all_goals (first | exact zI | (exact c1) | (intro i hi;exact absurd hi (Nat.not_lt_zero _)) | (intros;simp [All];done) | (simp;done))
theorem con_DrawNewSite (n:Nat) (f:Nat→Int) (hn:CdOk n f):∃ (p:T_Pinned),DwP p ∧
    zE 38 [cdA n f] [(0,brOb p.1.2.1.1 p.1.2.1.2),(1,iOb p.2.1.1 p.2.1.2)] (pjV p):=by
  obtain ⟨s,h0,c0⟩:=con_l1New n f hn
  obtain ⟨s1,N,k,h,u,h1,hN,hk,hu,hB,c1⟩:=con_l27Any n f hn s h0
  refine ⟨((N,(k,h),()),u,()),⟨⟨hk,by show u.1≤8;omega⟩,hB⟩,?_⟩
  refine csZ Tryz.func38 (fun c hc=>?_)
  refine pkZ Tryz.func38 hc (jdN n f s s1 ((N,(k,h),()),u,())) ?_
  and_intros
  all_goals (first | exact zI | (exact c0) | (exact c1) | (intros;simp [All];done) | (simp;done))
theorem con_DrawInspectLine (n:Nat) (f:Nat→Int) (hn:CdOk n f):∃ (p:T_Pinned),DwP p ∧
    zE 41 [cdA n f] [(0,brOb p.1.2.1.1 p.1.2.1.2),(1,iOb p.2.1.1 p.2.1.2)] (pjV p):=by
  obtain ⟨s,h0,c0⟩:=con_l1New n f hn
  obtain ⟨s1,N,k,h,u,h1,hN,hk,hu,hB,c1⟩:=con_l27Any n f hn s h0
  refine ⟨((N,(k,h),()),u,()),⟨⟨hk,by show u.1≤8;omega⟩,hB⟩,?_⟩
  refine csZ Tryz.func41 (fun c hc=>?_)
  refine pkZ Tryz.func41 hc (jdI n f s s1 ((N,(k,h),()),u,())) ?_
  and_intros
  all_goals (first | exact zI | (exact c0) | (exact c1) | (intros;simp [All];done) | (simp;done))
theorem con_at (n:Nat) (f:Nat→Int) (hn:CdOk n f):∃ x:Int,(0≤x∧x≤255)∧zE 32 [cdA n f,.p (.int .i64 2)] [] (.p (.int .i64 x)):=by
  have hl:=hn.1
  by_cases h:2<n
  · have hd:decide ((2:Int)<(n:Int))=true:=decide_eq_true (by omega)
    have h2:=hn.2 2 h
    refine ⟨f 2,h2,?_⟩
    refine csZ Tryz.func32 (fun c hc=>?_)
    refine pkZ Tryz.func32 hc (jatT n f) ?_
    and_intros
    all_goals (first | exact zN | (exact hd) | omega | (simp;done))
  · have hd:decide ((2:Int)<(n:Int))=false:=decide_eq_false (by omega)
    refine ⟨(2*37+(n:Int)*11) % 256,by omega,?_⟩
    refine csZ Tryz.func32 (fun c hc=>?_)
    refine pkZ Tryz.func32 hc (jatF n f) ?_
    and_intros
    all_goals (first | exact zN | (exact hd) | omega | (simp;done))
theorem jwZ (n:Nat) (f:Nat→Int) :
    zS Tryz.f4 [rg 1,rm [(1,oc [] (.p (.bool true)))] 0,.dec true,rg 1] [cdA n f] [] [] (.p (.bool true)) =
    some [zE 6 [.p (.seq true 1 n (fun i=>[.int .u8 (f i)]))] [] (.p (.bool true)),(true=true),(true=true)]:=by kernel_rfl
theorem jwA (n:Nat) (f:Nat→Int) (p:T_Pinned) (l:T_EventS) (R:T_Site) (y z:Bool) (v:Nat) (v1:Int) (Q:T_Site) (a:T_Site) (e:T_Event) (b:T_Site) (t c d:Bool) (u:T_Pinned) (w:T_Site) (i:Bool) (q:T_Pinned) (f1 g1:T_Site) (k:T_EventS) (x:Int) (j:T_Site) (S:ByteArray) (m:Bool) (o:Int) (r:Bool) :
    zS Tryz.f4 [rg 1,rm [(1,oc [] (.p (.bool false)))] 0,.dec false,rm [(1,oc [(0,brOb p.1.2.1.1 p.1.2.1.2),(1,iOb p.2.1.1 p.2.1.2),(2,evOb l),(3,stOt 0 noT)] (.tup [siJ (siN p) 0 1 3,.ar 3 2 0 l.1]))] 6,rm [(2,oc (siH R) (siV R))] 2,rm [(3,oc (siH R) (siV R)),(0,oc [] (.p (.bool true))),(3,oc [] (.p (.bool y))),(2,oc [] (.p (.bool z)))] 3,.dec false,rg 1,rg 3,.dec true,rm [(1,oc [] (.p (.int .i64 v1)))] 4,rm [(4,oc (siH Q) (siV Q)),(3,oc (siH R) (siV R)),(1,oc [] (.p (.bool true)))] 1,.dec false,rm [(1,oc (siH a) (.tup [siV a,evtA e]))] 7,rm [(2,oc (siH b) (.tup [siV b,.p (.bool t)]))] 6,rm [(2,oc (siH b) (.tup [siV b,.p (.bool t)]))] 6,rm [(6,oc [] (.p (.bool true))),(8,oc [] (.p (.bool c))),(21,oc [] (.p (.bool d)))] 5,.dec false,rm [(1,oc [(0,brOb u.1.2.1.1 u.1.2.1.2),(1,iOb u.2.1.1 u.2.1.2)] (pjV u))] 2,rm [(1,oc (siH w) (.tup [siV w,.p (.bool i)]))] 6,rm [(1,oc (siH w) (.tup [siV w,.p (.bool i)]))] 6,rm [(1,oc [(0,brOb q.1.2.1.1 q.1.2.1.2),(1,iOb q.2.1.1 q.2.1.2)] (pjV q))] 2,rm [(1,oc (siH f1++siH3 g1) (.tup [siJ f1 0 1 2,siJ g1 3 4 5]))] 7,rm [(1,oc [(0,evOb k)] (.tup [.ar 3 0 0 k.1,.p (.int .i64 x)]))] 5,rm [(1,oc (siH j) (siV j))] 2,rm [(6,oc [] (.p (.bool true))),(3,oc [] (.p (.str S))),(1,oc [] (.p (.str S))),(5,oc [] (.p (.bool m))),(2,oc [] (.p (.bool m))),(5,oc [] (.p (.int .i64 o))),(2,oc [] (.p (.int .i64 o))),(4,oc [] (.p (.bool r))),(1,oc [] (.p (.bool r)))] 3] [cdA n f] [] [] (.p (.bool true)) =
    some (zD [zE 6 [.p (.seq true 1 n (fun i_1=>[.int .u8 (f i_1)]))] [] (.p (.bool false)),(false=false),zE 26 [.p (.seq true 1 n (fun i_1=>[.int .u8 (f i_1)]))] [(0,⟨false,2,p.1.2.1.1,(fun i_1=>[.p (.int .i64 ((p.1.2.1.2 i_1).1)),.p (.int .i64 ((p.1.2.1.2 i_1).2.1))])⟩),(1,⟨false,1,p.2.1.1,(fun i_1=>[.p (.int .i64 (p.2.1.2 i_1))])⟩),(2,⟨false,3,l.1,(fun i_1=>[.p (.int .i64 ((l.2 i_1).1)),.p (.int .i64 ((l.2 i_1).2.1)),.p (.int .i64 ((l.2 i_1).2.2.1))])⟩),(3,⟨false,1,0,(fun i_1=>[.p (.str (noT i_1))])⟩)] (.tup [.agg [.p (.int .i64 p.1.1),.ar 2 0 0 p.1.2.1.1,.ar 1 1 0 p.2.1.1,.ar 1 3 0 0],.ar 3 2 0 l.1]),(NT 0 1),((true=true)→ (AN 1)),(AN 2),(NL p.1.2.1.1 p.1.2.1.1),(AN 1),(NL p.2.1.1 p.2.1.1),(NL 0 0),(AN 3),(NL l.1 l.1),zE 27 [.agg [.p (.int .i64 p.1.1),.p (.seq true 2 p.1.2.1.1 (fun i_1=>[.int .i64 ((p.1.2.1.2 i_1).1),.int .i64 ((p.1.2.1.2 i_1).2.1)])),.p (.seq true 1 p.2.1.1 (fun i_1=>[.int .i64 (p.2.1.2 i_1)])),.p (.seq true 1 0 (fun i_1=>[.str (noT i_1)]))],.p (.seq true 3 l.1 (fun i_1=>[.int .i64 ((l.2 i_1).1),.int .i64 ((l.2 i_1).2.1),.int .i64 ((l.2 i_1).2.2.1)]))] (zf15 R) ((zf110 R)),zE 29 [.agg [.p (.int .i64 p.1.1),.p (.seq true 2 p.1.2.1.1 (fun i_1=>[.int .i64 ((p.1.2.1.2 i_1).1),.int .i64 ((p.1.2.1.2 i_1).2.1)])),.p (.seq true 1 p.2.1.1 (fun i_1=>[.int .i64 (p.2.1.2 i_1)])),.p (.seq true 1 0 (fun i_1=>[.str (noT i_1)]))],.p (.seq true 3 l.1 (fun i_1=>[.int .i64 ((l.2 i_1).1),.int .i64 ((l.2 i_1).2.1),.int .i64 ((l.2 i_1).2.2.1)]))] (zf15 R) ((zf110 R)),(NL R.1.1.2.1.1 R.1.1.2.1.1),(NL R.1.2.1.1 R.1.2.1.1),(NL R.2.1.1 R.2.1.1),zE 28 [(zf14 R),(zf14 R)] [] (.p (.bool true)),(((!!true)=true)→(NT 0 1)),(AG (!!true)),(((!!true)=true)→ (AN 2)),(((!!true)=true)→(NL p.1.2.1.1 p.1.2.1.1)),(((!!true)=true)→ (AN 1)),(((!!true)=true)→(NL p.2.1.1 p.2.1.1)),(((!!true)=true)→(NL 0 0)),(((!!true)=true)→ zE 30 [.agg [.p (.int .i64 p.1.1),.p (.seq true 2 p.1.2.1.1 (fun i_1=>[.int .i64 ((p.1.2.1.2 i_1).1),.int .i64 ((p.1.2.1.2 i_1).2.1)])),.p (.seq true 1 p.2.1.1 (fun i_1=>[.int .i64 (p.2.1.2 i_1)])),.p (.seq true 1 0 (fun i_1=>[.str (noT i_1)]))]] [] (.p (.bool y))),(((!!true&&y)=true)→(NT 0 1)),(AG (!!true&&y)),(((!!true&&y)=true)→ (AN 2)),(((!!true&&y)=true)→(NL R.1.1.2.1.1 R.1.1.2.1.1)),(((!!true&&y)=true)→ (AN 1)),(((!!true&&y)=true)→(NL R.1.2.1.1 R.1.2.1.1)),(((!!true&&y)=true)→(NL R.2.1.1 R.2.1.1)),(((!!true&&y)=true)→ zE 31 [(zf14 R)] [] (.p (.bool z))),(((!!true)=true)→((y=true)→ ((!!true&&y)=true))),(((!true)=false)→ ((!!true)=true)),((bif !true then true else bif y then !z else false)=false),((decide ((↑l.1:Int)>0))=true),zE 32 [.p (.seq true 1 n (fun i_1=>[.int .u8 (f i_1)])),.p (.int .i64 2)] [] (.p (.int .i64 v1)),(IL 0 v1),(IT 0 (↑l.1:Int)),(IL 0 0),(IL 0 (v1 % (↑l.1:Int))),(IL (v1 % (↑l.1:Int)) (↑l.1:Int)),(NL ((v1 % (↑l.1:Int)).toNat) l.1),zE 27 [.agg [.p (.int .i64 p.1.1),.p (.seq true 2 p.1.2.1.1 (fun i_1=>[.int .i64 ((p.1.2.1.2 i_1).1),.int .i64 ((p.1.2.1.2 i_1).2.1)])),.p (.seq true 1 p.2.1.1 (fun i_1=>[.int .i64 (p.2.1.2 i_1)])),.p (.seq true 1 0 (fun i_1=>[.str (noT i_1)]))],.p (.seq true 3 ((v1 % (↑l.1:Int)).toNat) (fun i_1=>[.int .i64 ((l.2 i_1).1),.int .i64 ((l.2 i_1).2.1),.int .i64 ((l.2 i_1).2.2.1)]))] (zf15 Q) ((zf110 Q)),(IL (↑l.1:Int) (↑l.1:Int)),(NL Q.1.1.2.1.1 Q.1.1.2.1.1),(NL Q.1.2.1.1 Q.1.2.1.1),(NL Q.2.1.1 Q.2.1.1),(NL (l.1 - (v1 % (↑l.1:Int)).toNat+(v1 % (↑l.1:Int)).toNat) l.1),zE 27 [(zf14 Q),.p (.seq true 3 (l.1 - (v1 % (↑l.1:Int)).toNat) (fun i_1=>[.int .i64 ((l.2 (i_1+(v1 % (↑l.1:Int)).toNat)).1),.int .i64 ((l.2 (i_1+(v1 % (↑l.1:Int)).toNat)).2.1),.int .i64 ((l.2 (i_1+(v1 % (↑l.1:Int)).toNat)).2.2.1)]))] (zf15 R) ((zf110 R)),zE 33 [(zf14 R),(zf14 R)] [] (.p (.bool true)),((!true)=false),zE 34 [.p (.seq true 1 n (fun i_1=>[.int .u8 (f i_1)]))] (zf15 a) (.tup [(zf110 a),(zf118 e)]),(NL a.1.1.2.1.1 a.1.1.2.1.1),(NL a.1.2.1.1 a.1.2.1.1),(NL a.2.1.1 a.2.1.1),zE 35 [(zf14 a),(zf118 e)] (zf15 b) ((zf101 b t)),zE 36 [(zf14 a),(zf118 e)] (zf15 b) ((zf101 b t)),(((!!t==t)=true)→(NT 0 1)),(AG (!!t==t)),(((!!t==t)=true)→ (AN 2)),(((!!t==t)=true)→(NL b.1.1.2.1.1 b.1.1.2.1.1)),(((!!t==t)=true)→ (AN 1)),(((!!t==t)=true)→(NL b.1.2.1.1 b.1.2.1.1)),(((!!t==t)=true)→(NL b.2.1.1 b.2.1.1)),(((!!t==t)=true)→ zE 28 [(zf14 b),(zf14 b)] [] (.p (.bool true))),(((!t==t)=false)→ ((!!t==t)=true)),(AG (!bif !t==t then true else !true)),((((!bif !t==t then true else !true)&&!t)=true)→(NT 0 1)),(AG ((!bif !t==t then true else !true)&&!t)),((((!bif !t==t then true else !true)&&!t)=true)→ (AN 2)),((((!bif !t==t then true else !true)&&!t)=true)→(NL b.1.1.2.1.1 b.1.1.2.1.1)),((((!bif !t==t then true else !true)&&!t)=true)→ (AN 1)),((((!bif !t==t then true else !true)&&!t)=true)→(NL b.1.2.1.1 b.1.2.1.1)),((((!bif !t==t then true else !true)&&!t)=true)→(NL b.2.1.1 b.2.1.1)),((((!bif !t==t then true else !true)&&!t)=true)→(NL a.1.1.2.1.1 a.1.1.2.1.1)),((((!bif !t==t then true else !true)&&!t)=true)→(NL a.1.2.1.1 a.1.2.1.1)),((((!bif !t==t then true else !true)&&!t)=true)→(NL a.2.1.1 a.2.1.1)),((((!bif !t==t then true else !true)&&!t)=true)→ zE 33 [(zf14 b),(zf14 a)] [] (.p (.bool c))),(((!bif !t==t then true else !true)=true)→(((!t)=true)→ (((!bif !t==t then true else !true)&&!t)=true))),(((bif !t==t then true else !true)=false)→ ((!bif !t==t then true else !true)=true)),(AG (!bif bif !t==t then true else !true then true else bif !t then !c else false)),(AG ((!bif bif !t==t then true else !true then true else bif !t then !c else false)&&t)),((((!bif bif !t==t then true else !true then true else bif !t then !c else false)&&t)=true)→(NT 0 1)),((((!bif bif !t==t then true else !true then true else bif !t then !c else false)&&t)=true)→(ZLo ((↑a.2.1.1:Int)+1))),((((!bif bif !t==t then true else !true then true else bif !t then !c else false)&&t)=true)→(ZHi ((↑a.2.1.1:Int)+1))),(AG ((!bif bif !t==t then true else !true then true else bif !t then !c else false)&&t&&!(↑b.2.1.1:Int) != (↑a.2.1.1:Int)+1)),((((!bif bif !t==t then true else !true then true else bif !t then !c else false)&&t&&!(↑b.2.1.1:Int) != (↑a.2.1.1:Int)+1)=true)→(NT 0 1)),(AG ((!bif bif !t==t then true else !true then true else bif !t then !c else false)&&t&&!(↑b.2.1.1:Int) != (↑a.2.1.1:Int)+1&&e.1==4)),((((!bif bif !t==t then true else !true then true else bif !t then !c else false)&&t&&!(↑b.2.1.1:Int) != (↑a.2.1.1:Int)+1&&e.1==4)=true)→(NT 0 1)),((((!bif bif !t==t then true else !true then true else bif !t then !c else false)&&t&&!(↑b.2.1.1:Int) != (↑a.2.1.1:Int)+1&&e.1==4)=true)→ (AN 2)),((((!bif bif !t==t then true else !true then true else bif !t then !c else false)&&t&&!(↑b.2.1.1:Int) != (↑a.2.1.1:Int)+1&&e.1==4)=true)→(NL b.1.1.2.1.1 b.1.1.2.1.1)),((((!bif bif !t==t then true else !true then true else bif !t then !c else false)&&t&&!(↑b.2.1.1:Int) != (↑a.2.1.1:Int)+1&&e.1==4)=true)→ (AN 1)),((((!bif bif !t==t then true else !true then true else bif !t then !c else false)&&t&&!(↑b.2.1.1:Int) != (↑a.2.1.1:Int)+1&&e.1==4)=true)→(NL b.1.2.1.1 b.1.2.1.1)),((((!bif bif !t==t then true else !true then true else bif !t then !c else false)&&t&&!(↑b.2.1.1:Int) != (↑a.2.1.1:Int)+1&&e.1==4)=true)→ zE 37 [.agg [.p (.int .i64 b.1.1.1),.p (.seq true 2 b.1.1.2.1.1 (fun i_1=>[.int .i64 ((b.1.1.2.1.2 i_1).1),.int .i64 ((b.1.1.2.1.2 i_1).2.1)])),.p (.seq true 1 b.1.2.1.1 (fun i_1=>[.int .i64 (b.1.2.1.2 i_1)]))]] [] (.p (.bool d))),((((!bif bif !t==t then true else !true then true else bif !t then !c else false)&&t&&!(↑b.2.1.1:Int) != (↑a.2.1.1:Int)+1)=true)→(((e.1==4)=true)→ (((!bif bif !t==t then true else !true then true else bif !t then !c else false)&&t&&!(↑b.2.1.1:Int) != (↑a.2.1.1:Int)+1&&e.1==4)=true))),((((!bif bif !t==t then true else !true then true else bif !t then !c else false)&&t)=true)→((((↑b.2.1.1:Int) != (↑a.2.1.1:Int)+1)=false)→ (((!bif bif !t==t then true else !true then true else bif !t then !c else false)&&t&&!(↑b.2.1.1:Int) != (↑a.2.1.1:Int)+1)=true))),(((!bif bif !t==t then true else !true then true else bif !t then !c else false)=true)→((t=true)→ (((!bif bif !t==t then true else !true then true else bif !t then !c else false)&&t)=true))),(((bif bif !t==t then true else !true then true else bif !t then !c else false)=false)→ ((!bif bif !t==t then true else !true then true else bif !t then !c else false)=true)),((bif bif bif !t==t then true else !true then true else bif !t then !c else false then true else bif t then bif (↑b.2.1.1:Int) != (↑a.2.1.1:Int)+1 then true else bif e.1==4 then !d else false else false)=false),zE 38 [.p (.seq true 1 n (fun i_1=>[.int .u8 (f i_1)]))] (zf26 u) ((zf120 u)),(NL u.1.2.1.1 u.1.2.1.1),(NL u.2.1.1 u.2.1.1),zE 39 [(zf21 u)] (zf15 w) ((zf101 w i)),zE 40 [(zf21 u)] (zf15 w) ((zf101 w i)),zE 41 [.p (.seq true 1 n (fun i_1=>[.int .u8 (f i_1)]))] (zf26 q) ((zf120 q)),zE 42 [.p (.seq true 1 n (fun i_1=>[.int .u8 (f i_1)]))] (zf4 f1 g1) (.tup [(zf110 f1),.agg [.p (.int .i64 g1.1.1.1),.ar 2 3 0 g1.1.1.2.1.1,.ar 1 4 0 g1.1.2.1.1,.ar 1 5 0 g1.2.1.1]]),zE 43 [.p (.seq true 1 n (fun i_1=>[.int .u8 (f i_1)]))] [(0,⟨false,3,k.1,(fun i_1=>[.p (.int .i64 ((k.2 i_1).1)),.p (.int .i64 ((k.2 i_1).2.1)),.p (.int .i64 ((k.2 i_1).2.2.1))])⟩)] (.tup [.ar 3 0 0 k.1,.p (.int .i64 x)]),zE 44 [.p (.seq true 1 n (fun i_1=>[.int .u8 (f i_1)]))] (zf15 j) ((zf110 j)),(((i==i)=true)→(NT 0 1)),(AG (i==i)),(((i==i)=true)→ (AN 2)),(((i==i)=true)→(NL w.1.1.2.1.1 w.1.1.2.1.1)),(((i==i)=true)→ (AN 1)),(((i==i)=true)→(NL w.1.2.1.1 w.1.2.1.1)),(((i==i)=true)→(NL w.2.1.1 w.2.1.1)),(((i==i)=true)→ zE 28 [(zf14 w),(zf14 w)] [] (.p (.bool true))),(((bif i==i then true else false)=true)→(NT 0 1)),(AG (bif i==i then true else false)),(((bif i==i then true else false)=true)→ (AN 2)),(((bif i==i then true else false)=true)→(NL q.1.2.1.1 q.1.2.1.1)),(((bif i==i then true else false)=true)→ (AN 1)),(((bif i==i then true else false)=true)→(NL q.2.1.1 q.2.1.1)),(((bif i==i then true else false)=true)→ zE 45 [(zf21 q)] [] (.p (.str S))),(((bif i==i then true else false)=true)→ zE 46 [(zf21 q)] [] (.p (.str S))),(((bif bif i==i then true else false then S.toList==S.toList else false)=true)→(NT 0 1)),(AG (bif bif i==i then true else false then S.toList==S.toList else false)),(((bif bif i==i then true else false then S.toList==S.toList else false)=true)→ (AN 2)),(((bif bif i==i then true else false then S.toList==S.toList else false)=true)→(NL f1.1.1.2.1.1 f1.1.1.2.1.1)),(((bif bif i==i then true else false then S.toList==S.toList else false)=true)→ (AN 1)),(((bif bif i==i then true else false then S.toList==S.toList else false)=true)→(NL f1.1.2.1.1 f1.1.2.1.1)),(((bif bif i==i then true else false then S.toList==S.toList else false)=true)→(NL f1.2.1.1 f1.2.1.1)),(((bif bif i==i then true else false then S.toList==S.toList else false)=true)→(NL g1.1.1.2.1.1 g1.1.1.2.1.1)),(((bif bif i==i then true else false then S.toList==S.toList else false)=true)→(NL g1.1.2.1.1 g1.1.2.1.1)),(((bif bif i==i then true else false then S.toList==S.toList else false)=true)→(NL g1.2.1.1 g1.2.1.1)),(((bif bif i==i then true else false then S.toList==S.toList else false)=true)→ zE 33 [(zf14 f1),(zf14 g1)] [] (.p (.bool m))),(((bif bif i==i then true else false then S.toList==S.toList else false)=true)→ zE 28 [(zf14 f1),(zf14 g1)] [] (.p (.bool m))),(AG (bif bif bif i==i then true else false then S.toList==S.toList else false then m==m else false)),(((bif bif bif i==i then true else false then S.toList==S.toList else false then m==m else false)=true)→ (AN 3)),(((bif bif bif i==i then true else false then S.toList==S.toList else false then m==m else false)=true)→(NL k.1 k.1)),(((bif bif bif i==i then true else false then S.toList==S.toList else false then m==m else false)=true)→ zE 47 [.p (.seq true 3 k.1 (fun i_1=>[.int .i64 ((k.2 i_1).1),.int .i64 ((k.2 i_1).2.1),.int .i64 ((k.2 i_1).2.2.1)])),.p (.int .i64 x)] [] (.p (.int .i64 o))),(((bif bif bif i==i then true else false then S.toList==S.toList else false then m==m else false)=true)→ zE 48 [.p (.seq true 3 k.1 (fun i_1=>[.int .i64 ((k.2 i_1).1),.int .i64 ((k.2 i_1).2.1),.int .i64 ((k.2 i_1).2.2.1)])),.p (.int .i64 x)] [] (.p (.int .i64 o))),(((bif bif bif bif i==i then true else false then S.toList==S.toList else false then m==m else false then o==o else false)=true)→(NT 0 1)),(AG (bif bif bif bif i==i then true else false then S.toList==S.toList else false then m==m else false then o==o else false)),(((bif bif bif bif i==i then true else false then S.toList==S.toList else false then m==m else false then o==o else false)=true)→ (AN 2)),(((bif bif bif bif i==i then true else false then S.toList==S.toList else false then m==m else false then o==o else false)=true)→(NL j.1.1.2.1.1 j.1.1.2.1.1)),(((bif bif bif bif i==i then true else false then S.toList==S.toList else false then m==m else false then o==o else false)=true)→ (AN 1)),(((bif bif bif bif i==i then true else false then S.toList==S.toList else false then m==m else false then o==o else false)=true)→(NL j.1.2.1.1 j.1.2.1.1)),(((bif bif bif bif i==i then true else false then S.toList==S.toList else false then m==m else false then o==o else false)=true)→(NL j.2.1.1 j.2.1.1)),(((bif bif bif bif i==i then true else false then S.toList==S.toList else false then m==m else false then o==o else false)=true)→ zE 31 [(zf14 j)] [] (.p (.bool r))),(((bif bif bif bif i==i then true else false then S.toList==S.toList else false then m==m else false then o==o else false)=true)→ zE 30 [(zf14 j)] [] (.p (.bool r))),((bif bif bif bif bif i==i then true else false then S.toList==S.toList else false then m==m else false then o==o else false then r==r else false)=true)] [0,1,2,3,4,3,5,6,7,8,7,9,10,11,12,3,4,3,3,5,6,7,8,7,9,10,11,13,5,14,7,15,7,16,5,14,7,15,7,16,17,18,19,20,21,22,23,22,24,25,19,26,27,28,29,30,31,30,32,33,27,19,34,35,36,37,38,39,40,3,41,42,43,5,6,7,8,7,9,10,44,45,42,43,46,5,47,7,48,7,49,10,50,51,3,5,14,7,15,7,16,5,14,7,15,7,16,52,53,54,3,4,3,4,3,3,5,55,7,56,7,57,58,3,4,3,3,5,55,7,56,7,57,59,3,4,60,60,61,61,62,63,64,65,64,66,62,63,64,65,64,66,67,61,68,69,69,70,70,71,71,72,73,74,75,74,76,72,77,74,78,74,79,80,71,69,81,82,83,84,85,84,84,85,84,84,86,87,84,84,84,88,89,88,88,90,91,90,92,93,94,95,96,90,88,97,84,98,83,99,100,101,102,3,4,3,5,103,7,104,105,3,4,3,5,103,7,104,106,3,4,107,3,4,108,3,4,3,4,109,110,3,4,111,111,112,112,113,114,115,116,115,117,113,114,115,116,115,117,118,112,119,120,121,122,123,124,125,119,120,121,122,123,124,126,120,120,120,127,127,128,128,129,130,131,132,131,133,129,134,131,135,131,136,137,127,127,128,128,129,130,131,132,131,133,129,134,131,135,131,136,138,128,128,128,139,139,140,141,142,139,139,140,141,143,139,139,139,144,145,146,147,148,149,148,150,151,144,145,146,147,148,149,148,150,152,145,145,145,153]):=by kernel_rfl
theorem jwB (n:Nat) (f:Nat→Int) (p:T_Pinned) (l:T_EventS) (R:T_Site) (y z:Bool) (v:Nat) (v1:Int) (Q:T_Site) (a:T_Site) (e:T_Event) (b:T_Site) (t c d:Bool) (u:T_Pinned) (w:T_Site) (i:Bool) (q:T_Pinned) (f1 g1:T_Site) (k:T_EventS) (x:Int) (j:T_Site) (S:ByteArray) (m:Bool) (o:Int) (r:Bool) :
    zS Tryz.f4 [rg 1,rm [(1,oc [] (.p (.bool false)))] 0,.dec false,rm [(1,oc [(0,brOb p.1.2.1.1 p.1.2.1.2),(1,iOb p.2.1.1 p.2.1.2),(2,evOb l),(3,stOt 0 noT)] (.tup [siJ (siN p) 0 1 3,.ar 3 2 0 l.1]))] 6,rm [(2,oc (siH R) (siV R))] 2,rm [(3,oc (siH R) (siV R)),(0,oc [] (.p (.bool true))),(3,oc [] (.p (.bool y))),(2,oc [] (.p (.bool z)))] 3,.dec false,rg 1,rg 3,.dec false,rm [(4,oc (siH Q) (siV Q)),(3,oc (siH R) (siV R)),(1,oc [] (.p (.bool true)))] 1,.dec false,rm [(1,oc (siH a) (.tup [siV a,evtA e]))] 7,rm [(2,oc (siH b) (.tup [siV b,.p (.bool t)]))] 6,rm [(2,oc (siH b) (.tup [siV b,.p (.bool t)]))] 6,rm [(6,oc [] (.p (.bool true))),(8,oc [] (.p (.bool c))),(21,oc [] (.p (.bool d)))] 5,.dec false,rm [(1,oc [(0,brOb u.1.2.1.1 u.1.2.1.2),(1,iOb u.2.1.1 u.2.1.2)] (pjV u))] 2,rm [(1,oc (siH w) (.tup [siV w,.p (.bool i)]))] 6,rm [(1,oc (siH w) (.tup [siV w,.p (.bool i)]))] 6,rm [(1,oc [(0,brOb q.1.2.1.1 q.1.2.1.2),(1,iOb q.2.1.1 q.2.1.2)] (pjV q))] 2,rm [(1,oc (siH f1++siH3 g1) (.tup [siJ f1 0 1 2,siJ g1 3 4 5]))] 7,rm [(1,oc [(0,evOb k)] (.tup [.ar 3 0 0 k.1,.p (.int .i64 x)]))] 5,rm [(1,oc (siH j) (siV j))] 2,rm [(6,oc [] (.p (.bool true))),(3,oc [] (.p (.str S))),(1,oc [] (.p (.str S))),(5,oc [] (.p (.bool m))),(2,oc [] (.p (.bool m))),(5,oc [] (.p (.int .i64 o))),(2,oc [] (.p (.int .i64 o))),(4,oc [] (.p (.bool r))),(1,oc [] (.p (.bool r)))] 3] [cdA n f] [] [] (.p (.bool true)) =
    some (zD [zE 6 [.p (.seq true 1 n (fun i_1=>[.int .u8 (f i_1)]))] [] (.p (.bool false)),(false=false),zE 26 [.p (.seq true 1 n (fun i_1=>[.int .u8 (f i_1)]))] [(0,⟨false,2,p.1.2.1.1,(fun i_1=>[.p (.int .i64 ((p.1.2.1.2 i_1).1)),.p (.int .i64 ((p.1.2.1.2 i_1).2.1))])⟩),(1,⟨false,1,p.2.1.1,(fun i_1=>[.p (.int .i64 (p.2.1.2 i_1))])⟩),(2,⟨false,3,l.1,(fun i_1=>[.p (.int .i64 ((l.2 i_1).1)),.p (.int .i64 ((l.2 i_1).2.1)),.p (.int .i64 ((l.2 i_1).2.2.1))])⟩),(3,⟨false,1,0,(fun i_1=>[.p (.str (noT i_1))])⟩)] (.tup [.agg [.p (.int .i64 p.1.1),.ar 2 0 0 p.1.2.1.1,.ar 1 1 0 p.2.1.1,.ar 1 3 0 0],.ar 3 2 0 l.1]),(NT 0 1),((true=true)→ (AN 1)),(AN 2),(NL p.1.2.1.1 p.1.2.1.1),(AN 1),(NL p.2.1.1 p.2.1.1),(NL 0 0),(AN 3),(NL l.1 l.1),zE 27 [.agg [.p (.int .i64 p.1.1),.p (.seq true 2 p.1.2.1.1 (fun i_1=>[.int .i64 ((p.1.2.1.2 i_1).1),.int .i64 ((p.1.2.1.2 i_1).2.1)])),.p (.seq true 1 p.2.1.1 (fun i_1=>[.int .i64 (p.2.1.2 i_1)])),.p (.seq true 1 0 (fun i_1=>[.str (noT i_1)]))],.p (.seq true 3 l.1 (fun i_1=>[.int .i64 ((l.2 i_1).1),.int .i64 ((l.2 i_1).2.1),.int .i64 ((l.2 i_1).2.2.1)]))] (zf15 R) ((zf110 R)),zE 29 [.agg [.p (.int .i64 p.1.1),.p (.seq true 2 p.1.2.1.1 (fun i_1=>[.int .i64 ((p.1.2.1.2 i_1).1),.int .i64 ((p.1.2.1.2 i_1).2.1)])),.p (.seq true 1 p.2.1.1 (fun i_1=>[.int .i64 (p.2.1.2 i_1)])),.p (.seq true 1 0 (fun i_1=>[.str (noT i_1)]))],.p (.seq true 3 l.1 (fun i_1=>[.int .i64 ((l.2 i_1).1),.int .i64 ((l.2 i_1).2.1),.int .i64 ((l.2 i_1).2.2.1)]))] (zf15 R) ((zf110 R)),(NL R.1.1.2.1.1 R.1.1.2.1.1),(NL R.1.2.1.1 R.1.2.1.1),(NL R.2.1.1 R.2.1.1),zE 28 [(zf14 R),(zf14 R)] [] (.p (.bool true)),(((!!true)=true)→(NT 0 1)),(AG (!!true)),(((!!true)=true)→ (AN 2)),(((!!true)=true)→(NL p.1.2.1.1 p.1.2.1.1)),(((!!true)=true)→ (AN 1)),(((!!true)=true)→(NL p.2.1.1 p.2.1.1)),(((!!true)=true)→(NL 0 0)),(((!!true)=true)→ zE 30 [.agg [.p (.int .i64 p.1.1),.p (.seq true 2 p.1.2.1.1 (fun i_1=>[.int .i64 ((p.1.2.1.2 i_1).1),.int .i64 ((p.1.2.1.2 i_1).2.1)])),.p (.seq true 1 p.2.1.1 (fun i_1=>[.int .i64 (p.2.1.2 i_1)])),.p (.seq true 1 0 (fun i_1=>[.str (noT i_1)]))]] [] (.p (.bool y))),(((!!true&&y)=true)→(NT 0 1)),(AG (!!true&&y)),(((!!true&&y)=true)→ (AN 2)),(((!!true&&y)=true)→(NL R.1.1.2.1.1 R.1.1.2.1.1)),(((!!true&&y)=true)→ (AN 1)),(((!!true&&y)=true)→(NL R.1.2.1.1 R.1.2.1.1)),(((!!true&&y)=true)→(NL R.2.1.1 R.2.1.1)),(((!!true&&y)=true)→ zE 31 [(zf14 R)] [] (.p (.bool z))),(((!!true)=true)→((y=true)→ ((!!true&&y)=true))),(((!true)=false)→ ((!!true)=true)),((bif !true then true else bif y then !z else false)=false),((decide ((↑l.1:Int)>0))=false),(IL 0 0),(IL 0 (↑l.1:Int)),(NL 0 l.1),zE 27 [.agg [.p (.int .i64 p.1.1),.p (.seq true 2 p.1.2.1.1 (fun i_1=>[.int .i64 ((p.1.2.1.2 i_1).1),.int .i64 ((p.1.2.1.2 i_1).2.1)])),.p (.seq true 1 p.2.1.1 (fun i_1=>[.int .i64 (p.2.1.2 i_1)])),.p (.seq true 1 0 (fun i_1=>[.str (noT i_1)]))],.p (.seq true 3 0 (fun i_1=>[.int .i64 ((l.2 i_1).1),.int .i64 ((l.2 i_1).2.1),.int .i64 ((l.2 i_1).2.2.1)]))] (zf15 Q) ((zf110 Q)),(IL (↑l.1:Int) (↑l.1:Int)),(NL Q.1.1.2.1.1 Q.1.1.2.1.1),(NL Q.1.2.1.1 Q.1.2.1.1),(NL Q.2.1.1 Q.2.1.1),zE 27 [(zf14 Q),.p (.seq true 3 l.1 (fun i_1=>[.int .i64 ((l.2 i_1).1),.int .i64 ((l.2 i_1).2.1),.int .i64 ((l.2 i_1).2.2.1)]))] (zf15 R) ((zf110 R)),zE 33 [(zf14 R),(zf14 R)] [] (.p (.bool true)),((!true)=false),zE 34 [.p (.seq true 1 n (fun i_1=>[.int .u8 (f i_1)]))] (zf15 a) (.tup [(zf110 a),(zf118 e)]),(NL a.1.1.2.1.1 a.1.1.2.1.1),(NL a.1.2.1.1 a.1.2.1.1),(NL a.2.1.1 a.2.1.1),zE 35 [(zf14 a),(zf118 e)] (zf15 b) ((zf101 b t)),zE 36 [(zf14 a),(zf118 e)] (zf15 b) ((zf101 b t)),(((!!t==t)=true)→(NT 0 1)),(AG (!!t==t)),(((!!t==t)=true)→ (AN 2)),(((!!t==t)=true)→(NL b.1.1.2.1.1 b.1.1.2.1.1)),(((!!t==t)=true)→ (AN 1)),(((!!t==t)=true)→(NL b.1.2.1.1 b.1.2.1.1)),(((!!t==t)=true)→(NL b.2.1.1 b.2.1.1)),(((!!t==t)=true)→ zE 28 [(zf14 b),(zf14 b)] [] (.p (.bool true))),(((!t==t)=false)→ ((!!t==t)=true)),(AG (!bif !t==t then true else !true)),((((!bif !t==t then true else !true)&&!t)=true)→(NT 0 1)),(AG ((!bif !t==t then true else !true)&&!t)),((((!bif !t==t then true else !true)&&!t)=true)→ (AN 2)),((((!bif !t==t then true else !true)&&!t)=true)→(NL b.1.1.2.1.1 b.1.1.2.1.1)),((((!bif !t==t then true else !true)&&!t)=true)→ (AN 1)),((((!bif !t==t then true else !true)&&!t)=true)→(NL b.1.2.1.1 b.1.2.1.1)),((((!bif !t==t then true else !true)&&!t)=true)→(NL b.2.1.1 b.2.1.1)),((((!bif !t==t then true else !true)&&!t)=true)→(NL a.1.1.2.1.1 a.1.1.2.1.1)),((((!bif !t==t then true else !true)&&!t)=true)→(NL a.1.2.1.1 a.1.2.1.1)),((((!bif !t==t then true else !true)&&!t)=true)→(NL a.2.1.1 a.2.1.1)),((((!bif !t==t then true else !true)&&!t)=true)→ zE 33 [(zf14 b),(zf14 a)] [] (.p (.bool c))),(((!bif !t==t then true else !true)=true)→(((!t)=true)→ (((!bif !t==t then true else !true)&&!t)=true))),(((bif !t==t then true else !true)=false)→ ((!bif !t==t then true else !true)=true)),(AG (!bif bif !t==t then true else !true then true else bif !t then !c else false)),(AG ((!bif bif !t==t then true else !true then true else bif !t then !c else false)&&t)),((((!bif bif !t==t then true else !true then true else bif !t then !c else false)&&t)=true)→(NT 0 1)),((((!bif bif !t==t then true else !true then true else bif !t then !c else false)&&t)=true)→(ZLo ((↑a.2.1.1:Int)+1))),((((!bif bif !t==t then true else !true then true else bif !t then !c else false)&&t)=true)→(ZHi ((↑a.2.1.1:Int)+1))),(AG ((!bif bif !t==t then true else !true then true else bif !t then !c else false)&&t&&!(↑b.2.1.1:Int) != (↑a.2.1.1:Int)+1)),((((!bif bif !t==t then true else !true then true else bif !t then !c else false)&&t&&!(↑b.2.1.1:Int) != (↑a.2.1.1:Int)+1)=true)→(NT 0 1)),(AG ((!bif bif !t==t then true else !true then true else bif !t then !c else false)&&t&&!(↑b.2.1.1:Int) != (↑a.2.1.1:Int)+1&&e.1==4)),((((!bif bif !t==t then true else !true then true else bif !t then !c else false)&&t&&!(↑b.2.1.1:Int) != (↑a.2.1.1:Int)+1&&e.1==4)=true)→(NT 0 1)),((((!bif bif !t==t then true else !true then true else bif !t then !c else false)&&t&&!(↑b.2.1.1:Int) != (↑a.2.1.1:Int)+1&&e.1==4)=true)→ (AN 2)),((((!bif bif !t==t then true else !true then true else bif !t then !c else false)&&t&&!(↑b.2.1.1:Int) != (↑a.2.1.1:Int)+1&&e.1==4)=true)→(NL b.1.1.2.1.1 b.1.1.2.1.1)),((((!bif bif !t==t then true else !true then true else bif !t then !c else false)&&t&&!(↑b.2.1.1:Int) != (↑a.2.1.1:Int)+1&&e.1==4)=true)→ (AN 1)),((((!bif bif !t==t then true else !true then true else bif !t then !c else false)&&t&&!(↑b.2.1.1:Int) != (↑a.2.1.1:Int)+1&&e.1==4)=true)→(NL b.1.2.1.1 b.1.2.1.1)),((((!bif bif !t==t then true else !true then true else bif !t then !c else false)&&t&&!(↑b.2.1.1:Int) != (↑a.2.1.1:Int)+1&&e.1==4)=true)→ zE 37 [.agg [.p (.int .i64 b.1.1.1),.p (.seq true 2 b.1.1.2.1.1 (fun i_1=>[.int .i64 ((b.1.1.2.1.2 i_1).1),.int .i64 ((b.1.1.2.1.2 i_1).2.1)])),.p (.seq true 1 b.1.2.1.1 (fun i_1=>[.int .i64 (b.1.2.1.2 i_1)]))]] [] (.p (.bool d))),((((!bif bif !t==t then true else !true then true else bif !t then !c else false)&&t&&!(↑b.2.1.1:Int) != (↑a.2.1.1:Int)+1)=true)→(((e.1==4)=true)→ (((!bif bif !t==t then true else !true then true else bif !t then !c else false)&&t&&!(↑b.2.1.1:Int) != (↑a.2.1.1:Int)+1&&e.1==4)=true))),((((!bif bif !t==t then true else !true then true else bif !t then !c else false)&&t)=true)→((((↑b.2.1.1:Int) != (↑a.2.1.1:Int)+1)=false)→ (((!bif bif !t==t then true else !true then true else bif !t then !c else false)&&t&&!(↑b.2.1.1:Int) != (↑a.2.1.1:Int)+1)=true))),(((!bif bif !t==t then true else !true then true else bif !t then !c else false)=true)→((t=true)→ (((!bif bif !t==t then true else !true then true else bif !t then !c else false)&&t)=true))),(((bif bif !t==t then true else !true then true else bif !t then !c else false)=false)→ ((!bif bif !t==t then true else !true then true else bif !t then !c else false)=true)),((bif bif bif !t==t then true else !true then true else bif !t then !c else false then true else bif t then bif (↑b.2.1.1:Int) != (↑a.2.1.1:Int)+1 then true else bif e.1==4 then !d else false else false)=false),zE 38 [.p (.seq true 1 n (fun i_1=>[.int .u8 (f i_1)]))] (zf26 u) ((zf120 u)),(NL u.1.2.1.1 u.1.2.1.1),(NL u.2.1.1 u.2.1.1),zE 39 [(zf21 u)] (zf15 w) ((zf101 w i)),zE 40 [(zf21 u)] (zf15 w) ((zf101 w i)),zE 41 [.p (.seq true 1 n (fun i_1=>[.int .u8 (f i_1)]))] (zf26 q) ((zf120 q)),zE 42 [.p (.seq true 1 n (fun i_1=>[.int .u8 (f i_1)]))] (zf4 f1 g1) (.tup [(zf110 f1),.agg [.p (.int .i64 g1.1.1.1),.ar 2 3 0 g1.1.1.2.1.1,.ar 1 4 0 g1.1.2.1.1,.ar 1 5 0 g1.2.1.1]]),zE 43 [.p (.seq true 1 n (fun i_1=>[.int .u8 (f i_1)]))] [(0,⟨false,3,k.1,(fun i_1=>[.p (.int .i64 ((k.2 i_1).1)),.p (.int .i64 ((k.2 i_1).2.1)),.p (.int .i64 ((k.2 i_1).2.2.1))])⟩)] (.tup [.ar 3 0 0 k.1,.p (.int .i64 x)]),zE 44 [.p (.seq true 1 n (fun i_1=>[.int .u8 (f i_1)]))] (zf15 j) ((zf110 j)),(((i==i)=true)→(NT 0 1)),(AG (i==i)),(((i==i)=true)→ (AN 2)),(((i==i)=true)→(NL w.1.1.2.1.1 w.1.1.2.1.1)),(((i==i)=true)→ (AN 1)),(((i==i)=true)→(NL w.1.2.1.1 w.1.2.1.1)),(((i==i)=true)→(NL w.2.1.1 w.2.1.1)),(((i==i)=true)→ zE 28 [(zf14 w),(zf14 w)] [] (.p (.bool true))),(((bif i==i then true else false)=true)→(NT 0 1)),(AG (bif i==i then true else false)),(((bif i==i then true else false)=true)→ (AN 2)),(((bif i==i then true else false)=true)→(NL q.1.2.1.1 q.1.2.1.1)),(((bif i==i then true else false)=true)→ (AN 1)),(((bif i==i then true else false)=true)→(NL q.2.1.1 q.2.1.1)),(((bif i==i then true else false)=true)→ zE 45 [(zf21 q)] [] (.p (.str S))),(((bif i==i then true else false)=true)→ zE 46 [(zf21 q)] [] (.p (.str S))),(((bif bif i==i then true else false then S.toList==S.toList else false)=true)→(NT 0 1)),(AG (bif bif i==i then true else false then S.toList==S.toList else false)),(((bif bif i==i then true else false then S.toList==S.toList else false)=true)→ (AN 2)),(((bif bif i==i then true else false then S.toList==S.toList else false)=true)→(NL f1.1.1.2.1.1 f1.1.1.2.1.1)),(((bif bif i==i then true else false then S.toList==S.toList else false)=true)→ (AN 1)),(((bif bif i==i then true else false then S.toList==S.toList else false)=true)→(NL f1.1.2.1.1 f1.1.2.1.1)),(((bif bif i==i then true else false then S.toList==S.toList else false)=true)→(NL f1.2.1.1 f1.2.1.1)),(((bif bif i==i then true else false then S.toList==S.toList else false)=true)→(NL g1.1.1.2.1.1 g1.1.1.2.1.1)),(((bif bif i==i then true else false then S.toList==S.toList else false)=true)→(NL g1.1.2.1.1 g1.1.2.1.1)),(((bif bif i==i then true else false then S.toList==S.toList else false)=true)→(NL g1.2.1.1 g1.2.1.1)),(((bif bif i==i then true else false then S.toList==S.toList else false)=true)→ zE 33 [(zf14 f1),(zf14 g1)] [] (.p (.bool m))),(((bif bif i==i then true else false then S.toList==S.toList else false)=true)→ zE 28 [(zf14 f1),(zf14 g1)] [] (.p (.bool m))),(AG (bif bif bif i==i then true else false then S.toList==S.toList else false then m==m else false)),(((bif bif bif i==i then true else false then S.toList==S.toList else false then m==m else false)=true)→ (AN 3)),(((bif bif bif i==i then true else false then S.toList==S.toList else false then m==m else false)=true)→(NL k.1 k.1)),(((bif bif bif i==i then true else false then S.toList==S.toList else false then m==m else false)=true)→ zE 47 [.p (.seq true 3 k.1 (fun i_1=>[.int .i64 ((k.2 i_1).1),.int .i64 ((k.2 i_1).2.1),.int .i64 ((k.2 i_1).2.2.1)])),.p (.int .i64 x)] [] (.p (.int .i64 o))),(((bif bif bif i==i then true else false then S.toList==S.toList else false then m==m else false)=true)→ zE 48 [.p (.seq true 3 k.1 (fun i_1=>[.int .i64 ((k.2 i_1).1),.int .i64 ((k.2 i_1).2.1),.int .i64 ((k.2 i_1).2.2.1)])),.p (.int .i64 x)] [] (.p (.int .i64 o))),(((bif bif bif bif i==i then true else false then S.toList==S.toList else false then m==m else false then o==o else false)=true)→(NT 0 1)),(AG (bif bif bif bif i==i then true else false then S.toList==S.toList else false then m==m else false then o==o else false)),(((bif bif bif bif i==i then true else false then S.toList==S.toList else false then m==m else false then o==o else false)=true)→ (AN 2)),(((bif bif bif bif i==i then true else false then S.toList==S.toList else false then m==m else false then o==o else false)=true)→(NL j.1.1.2.1.1 j.1.1.2.1.1)),(((bif bif bif bif i==i then true else false then S.toList==S.toList else false then m==m else false then o==o else false)=true)→ (AN 1)),(((bif bif bif bif i==i then true else false then S.toList==S.toList else false then m==m else false then o==o else false)=true)→(NL j.1.2.1.1 j.1.2.1.1)),(((bif bif bif bif i==i then true else false then S.toList==S.toList else false then m==m else false then o==o else false)=true)→(NL j.2.1.1 j.2.1.1)),(((bif bif bif bif i==i then true else false then S.toList==S.toList else false then m==m else false then o==o else false)=true)→ zE 31 [(zf14 j)] [] (.p (.bool r))),(((bif bif bif bif i==i then true else false then S.toList==S.toList else false then m==m else false then o==o else false)=true)→ zE 30 [(zf14 j)] [] (.p (.bool r))),((bif bif bif bif bif i==i then true else false then S.toList==S.toList else false then m==m else false then o==o else false then r==r else false)=true)] [0,1,2,3,4,3,5,6,7,8,7,9,10,11,12,3,4,3,3,5,6,7,8,7,9,10,11,13,5,14,7,15,7,16,5,14,7,15,7,16,17,18,19,20,21,22,23,22,24,25,19,26,27,28,29,30,31,30,32,33,27,19,34,35,36,37,3,38,38,39,5,6,7,8,7,9,10,40,41,38,39,42,5,43,7,44,7,45,10,11,46,3,5,14,7,15,7,16,5,14,7,15,7,16,47,48,49,3,4,3,4,3,3,5,50,7,51,7,52,53,3,4,3,3,5,50,7,51,7,52,54,3,4,55,55,56,56,57,58,59,60,59,61,57,58,59,60,59,61,62,56,63,64,64,65,65,66,66,67,68,69,70,69,71,67,72,69,73,69,74,75,66,64,76,77,78,79,80,79,79,80,79,79,81,82,79,79,79,83,84,83,83,85,86,85,87,88,89,90,91,85,83,92,79,93,78,94,95,96,97,3,4,3,5,98,7,99,100,3,4,3,5,98,7,99,101,3,4,102,3,4,103,3,4,3,4,104,105,3,4,106,106,107,107,108,109,110,111,110,112,108,109,110,111,110,112,113,107,114,115,116,117,118,119,120,114,115,116,117,118,119,121,115,115,115,122,122,123,123,124,125,126,127,126,128,124,129,126,130,126,131,132,122,122,123,123,124,125,126,127,126,128,124,129,126,130,126,131,133,123,123,123,134,134,135,136,137,134,134,135,136,138,134,134,134,139,140,141,142,143,144,143,145,146,139,140,141,142,143,144,143,145,147,140,140,140,148]):=by kernel_rfl
def LB (v:T_Graph):List T_Bar:=lstB v.2.1.1 v.2.1.2
theorem LB_mem (v:T_Graph) (y:T_Bar):y∈LB v↔∃ i,i<v.2.1.1∧v.2.1.2 i=y:=by
  unfold LB lstB
  simp [List.mem_map]
theorem LB_len (v:T_Graph):(LB v).length=v.2.1.1:=lstB_len _ _
theorem isG_lst {N:Nat} {v:T_Graph} (hN:1≤N∧N≤8) (h1:v.1=N) (hn:v.2.1.1≤24) (hs:(LB v).Pairwise leB) (hx:∀ x∈LB v,0≤x.1∧x.1<x.2.1∧x.2.1<N):isGraphF v=true:=by
  obtain ⟨v1,⟨n,R⟩,⟨⟩⟩:=v
  have h1:v1=(N:Int):=h1
  subst h1
  have hget:∀ e,(he:e<n)→R e=(LB ((N:Int),(n,R),()))[e]'(by rw [LB_len];exact he):=fun e he=>by simp [LB,lstB]
  refine isG_of hN hn (fun e he=>hx _ ((LB_mem _ _).2 ⟨e,he,rfl⟩)) (fun s hs'=>?_)
  have:=List.pairwise_iff_getElem.1 hs s (s+1) (by rw [LB_len];show s<n;omega) (by rw [LB_len];exact hs') (by omega)
  rw [aft_iff,hget s (by omega),hget (s+1) hs']
  exact this
theorem isG_srt {v:T_Graph} (h:isGraphF v=true):(LB v).Pairwise leB:=by
  have hg:=graph_inR h
  refine List.pairwise_iff_getElem.2 (fun i j hi hj hij=>?_)
  have key:∀ d i,i+d<v.2.1.1→leB (v.2.1.2 i) (v.2.1.2 (i+d)):=by
    intro d
    induction d with
    | zero=>intro i hi;rw [leB_iff];right;exact ⟨rfl,Int.le_refl _⟩
    | succ d ih =>
      intro i hi
      have h1:=ih i (by omega)
      have h2:=(goodB_at hg.2.2.2 (i+(d+1)) hi).2.2.2 (by omega)
      rw [show i+(d+1) - 1=i+d by omega] at h2
      rw [leB_iff] at h1 h2 ⊢
      omega
  have hj':j<v.2.1.1:=by rwa [LB_len] at hj
  have:=key (j - i) i (by omega)
  rw [show i+(j - i)=j by omega] at this
  simpa [LB,lstB] using this
theorem isG_bar {v:T_Graph} (h:isGraphF v=true):∀ x∈LB v,0≤x.1∧x.1<x.2.1∧x.2.1<v.1:=by
  intro x hx
  obtain ⟨i,hi,rfl⟩:=(LB_mem _ _).1 hx
  have:=goodB_at (graph_inR h).2.2.2 i hi
  exact ⟨this.1,this.2.1,this.2.2.1⟩
theorem dbl_iff {g:Nat→T_Bar}:∀ n,dblB g n=false↔∀ k,1≤k→k<n→g (k - 1)≠g k
  | 0=>by simp [dblB]
  | n+1=>by
    have ih:=dbl_iff (g:=g) n
    have hq:∀ a b:T_Bar,q1_BarS a b=true↔a=b:=by
      rintro ⟨a1,a2,⟨⟩⟩ ⟨b1,b2,⟨⟩⟩
      simp [q1_BarS]
    simp only [dblB,Bool.or_eq_false_iff,ih]
    constructor
    · rintro ⟨h1,h2⟩ k k1 k2
      by_cases e:k=n
      · subst e
        intro he
        rw [decide_eq_true k1,Bool.true_and,show ((k:Int) - 1).toNat=k - 1 by omega,(hq _ _).2 he] at h2
        cases h2
      · exact h1 k k1 (by omega)
    · intro h
      refine ⟨fun k k1 k2=>h k k1 (by omega),?_⟩
      by_cases h1:1≤n
      · rw [decide_eq_true h1,Bool.true_and,show ((n:Int) - 1).toNat=n - 1 by omega]
        cases hc:q1_BarS (g (n - 1)) (g n) with
        | false=>rfl
        | true=>exact absurd ((hq _ _).1 hc) (h n h1 (by omega))
      · rw [decide_eq_false h1];rfl
theorem simple_iff {v:T_Graph} (h:isGraphF v=true):simpleF v=true↔(LB v).Nodup:=by
  have hs:=isG_srt h
  have e:simpleF v=true↔∀ k,1≤k→k<v.2.1.1→v.2.1.2 (k - 1)≠v.2.1.2 k:=by
    rw [← dbl_iff]
    simp [simpleF,h]
  rw [e]
  have hget:∀ i,(hi:i<v.2.1.1)→(LB v)[i]'(by rw [LB_len];exact hi)=v.2.1.2 i:=fun i hi=>by simp [LB,lstB]
  constructor
  · intro hk
    refine List.pairwise_iff_getElem.2 (fun i j hi hj hij=>?_)
    rw [LB_len] at hi hj
    rw [hget i hi,hget j hj]
    intro he
    have h1:=List.pairwise_iff_getElem.1 hs
    have l1:i+1=j∨leB (v.2.1.2 (i+1)) (v.2.1.2 j):=by
      by_cases e:i+1=j
      · exact .inl e
      · right
        have:=h1 (i+1) j (by rw [LB_len];omega) (by rw [LB_len];omega) (by omega)
        rw [hget _ (by omega),hget _ hj] at this
        exact this
    have l2:=h1 i (i+1) (by rw [LB_len];omega) (by rw [LB_len];omega) (by omega)
    rw [hget _ hi,hget _ (by omega)] at l2
    have l3:=hk (i+1) (by omega) (by omega)
    rw [show i+1 - 1=i by omega] at l3
    rcases l1 with e | l1
    · subst e;exact l3 he
    · rw [← he] at l1
      exact l3 (leB_antisymm _ _ l2 l1)
  · intro hn k k1 k2 he
    have:=List.pairwise_iff_getElem.1 hn (k - 1) k (by rw [LB_len];omega) (by rw [LB_len];omega) (by omega)
    rw [hget _ (by omega),hget _ k2] at this
    exact this he
theorem free_iff {p:T_IntS} {g:Nat→T_Bar}:∀ n,freeP p g n=true↔∀ i,i<n→bothP p (g i)=false
  | 0=>by simp [freeP]
  | n+1=>by
    have ih:=free_iff (p:=p) (g:=g) n
    simp only [freeP,Bool.and_eq_true,ih,Bool.not_eq_true']
    constructor
    · rintro ⟨h1,h2⟩ i hi
      by_cases e:i=n
      · subst e;exact h2
      · exact h1 i (by omega)
    · intro h
      exact ⟨fun i hi=>h i (by omega),h n (by omega)⟩
theorem pin_iff (v:T_Graph) (u:T_IntS×Unit):pinnedF (v,u)=true↔goodP v.1 u.1.2 u.1.1=true∧(∀ x∈LB v,bothP u.1 x=false)∧isGraphF v=true∧(LB v).Nodup∧2≤u.1.1∧v.2.1.1≤15∧v.2.1.1+2*u.1.1≤27:=by
  have e1:freeP u.1 v.2.1.2 v.2.1.1=true↔∀ x∈LB v,bothP u.1 x=false:=by
    rw [free_iff]
    constructor
    · intro h x hx
      obtain ⟨i,hi,rfl⟩:=(LB_mem _ _).1 hx
      exact h i hi
    · intro h i hi
      exact h _ ((LB_mem _ _).2 ⟨i,hi,rfl⟩)
  have e2:tailP (v,u)=true↔simpleF v=true∧2≤u.1.1∧v.2.1.1≤15∧v.2.1.1+2*u.1.1≤27:=by
    unfold tailP
    show (bif bif bif simpleF v then decide ((u.1.1:Int)≥2) else false then decide ((v.2.1.1:Int)≤15) else false then decide ((v.2.1.1:Int)+2*(u.1.1:Int) - 3≤24) else false)=true↔_
    have ea:decide ((u.1.1:Int)≥2)=decide (2≤u.1.1):=by congr 1;apply propext;omega
    have eb:decide ((v.2.1.1:Int)≤15)=decide (v.2.1.1≤15):=by congr 1;apply propext;omega
    have ec:decide ((v.2.1.1:Int)+2*(u.1.1:Int) - 3≤24)=decide (v.2.1.1+2*u.1.1≤27):=by congr 1;apply propext;omega
    rw [ea,eb,ec]
    cases simpleF v<;>simp only [cond_true,cond_false,Bool.false_eq_true,false_and,true_and,iff_self]
    by_cases h1:2≤u.1.1<;>by_cases h2:v.2.1.1≤15<;>by_cases h3:v.2.1.1+2*u.1.1≤27<;>simp [h1,h2,h3]
  show (goodP v.1 u.1.2 u.1.1&&(freeP u.1 v.2.1.2 v.2.1.1&&tailP (v,u)))=true↔_
  rw [Bool.and_eq_true,Bool.and_eq_true,e1,e2]
  constructor
  · rintro ⟨h1,h2,h3,h4⟩
    have hg:isGraphF v=true:=by simp only [simpleF,Bool.and_eq_true] at h3;exact h3.2
    exact ⟨h1,h2,hg,(simple_iff hg).1 h3,h4⟩
  · rintro ⟨h1,h2,h3,h4,h5⟩
    exact ⟨h1,h2,(simple_iff h3).2 h4,h5⟩
theorem rvD_congr (v:T_Site) {l m:T_EventS}:∀ n,(∀ i,i<n→l.2 i=m.2 i)→rvD v l n=rvD v m n
  | 0,_=>rfl
  | n+1,h=>by simp only [rvD];rw [rvD_congr v n (fun i hi=>h i (by omega)),h n (by omega)]
theorem rvD_split (v:T_Site) (l:T_EventS) (k:Nat):∀ d,rvD (rvD v l k) (l.1 - k,fun i=>l.2 (i+k)) d=rvD v l (k+d)
  | 0=>rfl
  | d+1=>by
    have ih:=rvD_split v l k d
    show (evR (rvD (rvD v l k) (l.1 - k,fun i=>l.2 (i+k)) d) (l.2 (d+k))).1=(evR (rvD v l (k+d)) (l.2 (k+d))).1
    rw [ih,Nat.add_comm d k]
theorem siteF_iff (v:T_Site):siteF v=true↔pinnedF v.1=true∧v.2.1.1≤20:=by
  unfold siteF
  cases pinnedF v.1<;>simp<;>omega
theorem lst_del (n:Nat) (h:Nat→T_Bar) (k:Nat) (hk:k<n):lstB (n - 1) (delB n h k)=(lstB n h).eraseIdx k:=by
  have hl:((lstB n h).eraseIdx k).length=n - 1:=by rw [List.length_eraseIdx];rw [lstB_len];simp [hk]
  refine List.ext_getElem (by rw [lstB_len,hl]) (fun i h1 h2=>?_)
  rw [lstB_len] at h1
  rw [List.getElem_eraseIdx]
  have e1:(lstB (n - 1) (delB n h k))[i]'(by rw [lstB_len];exact h1)=delB n h k i:=by simp [lstB]
  rw [e1]
  by_cases h':i<k
  · rw [dif_pos h']
    simp [delB,h',lstB]
  · rw [dif_neg h']
    simp [delB,h',lstB,show i+1<n by omega]
theorem wo_pin {v:T_Site} {e:T_Event} (hp:pinnedF v.1=true) (hx:0≤evK v e):pinnedF (woP v.1 (evK v e).toNat)=true:=by
  have hk:(evK v e).toNat<v.1.1.2.1.1:=by
    unfold evK at hx ⊢
    rcases ixI_in v.1.1.2.1.2 (brX e.2.1 e.2.2.1) v.1.1.2.1.1 0 with h | h
    · rw [h] at hx;omega
    · omega
  generalize (evK v e).toNat=k at hk
  obtain ⟨h1,h2,h3,h4,h5,h6,h7⟩:=(pin_iff v.1.1 v.1.2).1 hp
  have hsub:List.Sublist (LB (woP v.1 k).1) (LB v.1.1):=by
    show List.Sublist (lstB (v.1.1.2.1.1 - 1) (delB v.1.1.2.1.1 v.1.1.2.1.2 k)) (lstB v.1.1.2.1.1 v.1.1.2.1.2)
    rw [lst_del _ _ _ hk]
    exact List.eraseIdx_sublist _ _
  have hg:=graph_inR h3
  refine (pin_iff (woP v.1 k).1 (woP v.1 k).2).2 ⟨h1,fun x hx=>h2 x (hsub.subset hx),?_,h4.sublist hsub,h5,by show v.1.1.2.1.1 - 1≤15;omega,by show v.1.1.2.1.1 - 1+2*v.1.2.1.1≤27;omega⟩
  refine isG_lst (N:=v.1.1.1.toNat) (by omega) (by show v.1.1.1=_;omega) (by show v.1.1.2.1.1 - 1≤24;omega) ((isG_srt h3).sublist hsub) (fun x hx=>?_)
  have:=isG_bar h3 x (hsub.subset hx)
  omega
theorem evR_pin {v:T_Site} {e:T_Event} (h:siteF v=true):siteF (evR v e).1=true:=by
  have hv:=(siteF_iff v).1 h
  unfold evR
  split
  · rename_i hc
    have hev:∀ (p:T_Pinned) (s:ByteArray),pinnedF p=true→siteF (evS v p s)=true:=fun p s hp=>by
      rw [siteF_iff]
      exact ⟨hp,by show v.2.1.1+1≤20;omega⟩
    have har:∀ l,arB v.1 l=true→pinnedF (arP v.1 l)=true:=fun l hl=>by
      unfold arP
      rw [if_pos hl]
      unfold arB at hl
      rw [Bool.and_eq_true,Bool.and_eq_true] at hl
      exact hl.2.2
    split
    · split
      · rename_i hx;exact hev _ _ (har _ hx)
      · exact h
    · split
      · split
        · rename_i hx
          exact hev _ _ (wo_pin hv.1 hx)
        · exact h
      · split
        · split
          · exact hev _ _ hv.1
          · exact h
        · split
          · split
            · rename_i hx
              exact hev _ _ (har _ (rbB_ok hx.1).2)
            · exact h
          · exact h
  · exact h
theorem rvD_site {v:T_Site} (h:siteF v=true) (l:T_EventS):∀ k,siteF (rvD v l k)=true
  | 0=>h
  | k+1=>evR_pin (rvD_site h l k)
theorem evR_true {v:T_Site} {e:T_Event} (h:(evR v e).2=true):(evR v e).1.2.1.1=v.2.1.1+1∧(e.1=4→rgB (evR v e).1.1=true):=by
  unfold evR at h ⊢
  split at h
  · rename_i hc
    rw [if_pos hc]
    split at h
    · rename_i h1
      rw [if_pos h1]
      split at h
      · rename_i h2
        rw [if_pos h2]
        exact ⟨rfl,fun h4=>by omega⟩
      · cases h
    · rename_i h1
      rw [if_neg h1]
      split at h
      · rename_i h2
        rw [if_pos h2]
        split at h
        · rename_i h3
          rw [if_pos h3]
          exact ⟨rfl,fun h4=>by omega⟩
        · cases h
      · rename_i h2
        rw [if_neg h2]
        split at h
        · rename_i h3
          rw [if_pos h3]
          split at h
          · rename_i h4
            rw [if_pos h4]
            exact ⟨rfl,fun h4=>by omega⟩
          · cases h
        · rename_i h3
          rw [if_neg h3]
          split at h
          · rename_i h4
            rw [if_pos h4]
            split at h
            · rename_i h5
              rw [if_pos h5]
              refine ⟨rfl,fun _=>?_⟩
              have hrb:=h5.1
              unfold rbB at hrb
              have hp:pinnedF v.1=true:=by
                cases hq:pinnedF v.1 with
                | true=>rfl
                | false=>rw [hq] at hrb;cases hrb
              rw [hp,cond_true] at hrb
              have hL:rbL v.1=(rpD v.1).2:=by unfold rbL;rw [if_pos h5.1]
              have:=(ad_arD hp (adD_ok v.1 hp (msP v.1.1).2 (msP v.1.1).1)).2
              show rgB (arP v.1 (rbL v.1))=true
              rw [hL]
              show rgB (arP v.1 (adD v.1 (msP v.1.1).2 (msP v.1.1).1).2)=true
              rw [this]
              exact hrb
            · cases h
          · cases h
  · cases h
theorem eqSi_refl (v:T_Site):eqSi v v=true:=by
  have k1:∀ (g:Nat→T_Bar) n,qT_BarS g g n=true:=fun g n=>by
    induction n with
    | zero=>rfl
    | succ n ih=>simp [qT_BarS,ih,q1_BarS]
  have k2:∀ (g:Nat→Int) n,qT_IntS g g n=true:=fun g n=>by
    induction n with
    | zero=>rfl
    | succ n ih=>simp [qT_IntS,ih,q1_IntS]
  have k3:∀ (g:Nat→ByteArray) n,qT_StringS g g n=true:=fun g n=>by
    induction n with
    | zero=>rfl
    | succ n ih=>simp [qT_StringS,ih,q1_StringS]
  simp [eqSi,eqGr,q_BarS,q_IntS,q_StringS,k1,k2,k3]
theorem SmP_z:SmP zPin:=⟨Nat.zero_le _,Nat.zero_le _⟩
theorem sm_nsR {p:T_Pinned} (h:SmP p):smS s_Site (nsR p):=by
  unfold nsR
  split
  · exact sm_siK h 0 (by omega)
  · exact sm_siK SmP_z 0 (by omega)
set_option maxRecDepth 20000 in
theorem con_law_FnJournal (v0:Nat×(Nat→Int)) (k0:okS (.sl (.int .u8)) v0):zE 4 [cdA v0.1 v0.2] [] (.p (.bool true)):=by
  obtain ⟨n,f⟩:=v0
  have hbig:=con_big n f
  refine csZ Tryz.func4 (fun c hc=>?_)
  by_cases hn:n≤1048576
  · have hd:decide ((n:Int)>1048576)=false:=decide_eq_false (by omega)
    rw [hd] at hbig
    have hcd:CdOk n f:=⟨hn,fun i hi=>by have:=k0.2 i hi;simpa [okS,imin,imax] using this⟩
    obtain ⟨p,l,hp,hl,hok,cr⟩:=con_DrawRunEvents n f hcd
    obtain ⟨a,e,sa,he,ca⟩:=con_DrawApplyEvent n f hcd
    obtain ⟨u,hu,cu⟩:=con_DrawNewSite n f hcd
    obtain ⟨q,hq,cq⟩:=con_DrawInspectLine n f hcd
    obtain ⟨f1,g1,sf,sg,ce⟩:=con_DrawEqualSites n f hcd
    obtain ⟨k,x,hk,ck⟩:=con_DrawCountKind n f hcd
    obtain ⟨j,sj,cj⟩:=con_DrawIsSite n f hcd
    obtain ⟨v1,hv1,cv⟩:=con_at n f hcd
    have sp:smS s_Site (siN p):=sm_siK hp.sm 0 (by omega)
    have r1:=con_Run_i (siN p) sp l (by omega) hok
    have r2:=con_Run_s (siN p) sp l (by omega) hok
    have sR:smS s_Site (rvD (siN p) l l.1):=sm_rvD sp l l.1
    have r3:=con_EqualSites_s (rvD (siN p) l l.1) (rvD (siN p) l l.1) sR
    rw [eqSi_refl] at r3
    have r4:=con_EqualSites_i (rvD (siN p) l l.1) (rvD (siN p) l l.1) sR
    rw [eqSi_refl] at r4
    have r5:=con_IsSite_s (siN p) sp
    have r6:=con_IsSite_i (rvD (siN p) l l.1) sR
    have d1:(bif !true then true else bif siteF (siN p) then !siteF (rvD (siN p) l l.1) else false)=false:=by
      cases hs:siteF (siN p) with
      | false=>rfl
      | true=>rw [rvD_site hs l l.1];rfl
    have a1:=con_Apply_i a sa e he
    have a2:=con_Apply_s a sa e he
    have sb:=sm_evR sa e
    have hal:a.2.1.1≤1048576:=sa.2.1.1
    have a3:=con_EqualSites_s (evR a e).1 (evR a e).1 sb
    rw [eqSi_refl] at a3
    have a4:=con_EqualSites_i (evR a e).1 a sb
    have a5:=con_IsPinnedRigid_s (evR a e).1.1 sb.1
    have d2:(bif bif bif !(evR a e).2==(evR a e).2 then true else !true then true else bif !(evR a e).2 then !eqSi (evR a e).1 a else false then true else bif (evR a e).2 then bif ((evR a e).1.2.1.1:Int) != (a.2.1.1:Int)+1 then true else bif e.1==4 then !rgB (evR a e).1.1 else false else false)=false:=by
      cases ht:(evR a e).2 with
      | false =>
        rw [evR_false ht,eqSi_refl];rfl
      | true =>
        obtain ⟨h1,h2⟩:=evR_true ht
        rw [h1]
        by_cases h4:e.1=4
        · rw [h2 h4];simp
        · simp [h4]
    have n1:=con_NewSite_i u hu.sm
    have n2:=con_NewSite_s u hu.sm
    have n3:=con_EqualSites_s (nsR u) (nsR u) (sm_nsR hu.sm)
    rw [eqSi_refl] at n3
    have i1:=con_Inspect_i q hq.sm.sm
    have i2:=con_Inspect_s q hq.sm.sm
    have e1:=con_EqualSites_i f1 g1 sf
    have e2:=con_EqualSites_s f1 g1 sf
    have k1:=con14 k.1 (fun i=>⟨(k.2 i).1,(k.2 i).2.1,(k.2 i).2.2.1⟩) x (by omega)
    have k2:=con12 k.1 (fun i=>⟨(k.2 i).1,(k.2 i).2.1,(k.2 i).2.2.1⟩) x (by omega)
    generalize cntK (fun i=>⟨(k.2 i).1,(k.2 i).2.1,(k.2 i).2.2.1⟩) x k.1=o at k1 k2
    have j1:=con_IsSite_i j sj
    have j2:=con_IsSite_s j sj
    have d3:(bif bif bif bif bif pinnedF u==pinnedF u then true else false then (ilB q).toList==(ilB q).toList else false then eqSi f1 g1==eqSi f1 g1 else false then o==o else false then siteF j==siteF j else false)=true:=by simp
    by_cases hl0:l.1=0
    · have hz:decide ((l.1:Int)>0)=false:=decide_eq_false (by omega)
      have q1:=con_Run_i (siN p) sp (0,l.2) (by show 0≤_;omega) (fun i hi=>absurd hi (Nat.not_lt_zero _))
      refine pkD Tryz.func4 hc (jwB n f p l (rvD (siN p) l l.1) (siteF (siN p)) (siteF (rvD (siN p) l l.1)) 0 0 (siN p) a e (evR a e).1 (evR a e).2 (eqSi (evR a e).1 a) (rgB (evR a e).1.1) u (nsR u) (pinnedF u) q f1 g1 k x j (ilB q) (eqSi f1 g1) o (siteF j)) ?_
      and_intros
      all_goals (first | exact zH | (exact hbig) | (exact cr) | (exact q1) | (exact r1) | (exact r2) | (exact r3) | (exact r4) | (intros;exact r5) | (intros;exact r6) | (exact d1) | (exact hz) | (exact ca) | (exact a1) | (exact a2) | (intros;exact a3) | (intros;exact a4) | (intros;exact a5) | (exact d2) | (exact cu) | (exact n1) | (exact n2) | (exact cq) | (exact ce) | (exact ck) | (exact cj) | (intros;exact n3) | (intros;exact i1) | (intros;exact i2) | (intros;exact e1) | (intros;exact e2) | (intros;exact k1) | (intros;exact k2) | (intros;exact j1) | (intros;exact j2) | (exact d3) | (intros;omega) | (intro i hi;exact absurd hi (Nat.not_lt_zero _)) | (intros;simp [All];done) | (intros;simp_all;done))
    · have hz:decide ((l.1:Int)>0)=true:=decide_eq_true (by omega)
      have m1:=Int.emod_nonneg v1 (show (l.1:Int)≠0 by omega)
      have m2:=Int.emod_lt_of_pos v1 (show (0:Int)<l.1 by omega)
      obtain ⟨t,ht⟩:∃ t:Nat,v1 % (l.1:Int)=(t:Int):=⟨(v1 % (l.1:Int)).toNat,by omega⟩
      have ht2:(v1 % (l.1:Int)).toNat=t:=by omega
      have q1:=con_Run_i (siN p) sp (t,l.2) (by show t≤_;omega) (fun i hi=>hok i (by have hi:i<t:=hi;omega))
      rw [show rvD (siN p) (t,l.2) (t,l.2).1=rvD (siN p) l t from rvD_congr (siN p) t (fun i _=>rfl)] at q1
      have q2:=con_Run_i (rvD (siN p) l t) (sm_rvD sp l t) (l.1 - t,fun i=>l.2 (i+t)) (by show l.1 - t≤_;omega) (fun i hi=>hok (i+t) (by have hi:i<l.1 - t:=hi;omega))
      rw [show rvD (rvD (siN p) l t) (l.1 - t,fun i=>l.2 (i+t)) (l.1 - t,fun i=>l.2 (i+t)).1=rvD (siN p) l l.1 by
        have:=rvD_split (siN p) l t (l.1 - t)
        rw [show t+(l.1 - t)=l.1 by omega] at this
        exact this] at q2
      rw [← ht2] at q1 q2
      refine pkD Tryz.func4 hc (jwA n f p l (rvD (siN p) l l.1) (siteF (siN p)) (siteF (rvD (siN p) l l.1)) 0 v1 (rvD (siN p) l (v1 % (l.1:Int)).toNat) a e (evR a e).1 (evR a e).2 (eqSi (evR a e).1 a) (rgB (evR a e).1.1) u (nsR u) (pinnedF u) q f1 g1 k x j (ilB q) (eqSi f1 g1) o (siteF j)) ?_
      and_intros
      all_goals (first | exact zH | (exact cv) | (exact q2) | (exact hbig) | (exact cr) | (exact q1) | (exact r1) | (exact r2) | (exact r3) | (exact r4) | (intros;exact r5) | (intros;exact r6) | (exact d1) | (exact hz) | (exact ca) | (exact a1) | (exact a2) | (intros;exact a3) | (intros;exact a4) | (intros;exact a5) | (exact d2) | (exact cu) | (exact n1) | (exact n2) | (exact cq) | (exact ce) | (exact ck) | (exact cj) | (intros;exact n3) | (intros;exact i1) | (intros;exact i2) | (intros;exact e1) | (intros;exact e2) | (intros;exact k1) | (intros;exact k2) | (intros;exact j1) | (intros;exact j2) | (exact d3) | (intros;omega) | (intro i hi;exact absurd hi (Nat.not_lt_zero _)) | (intros;simp [All];done) | (intros;simp_all;done))
  · have hd:decide ((n:Int)>1048576)=true:=decide_eq_true (by omega)
    rw [hd] at hbig
    refine pkZ Tryz.func4 hc (jwZ n f) ?_
    and_intros
    all_goals (first | exact zN | (exact hbig))
end Go.Proofs.YtkepkjbofchckaaGreat.Mach
