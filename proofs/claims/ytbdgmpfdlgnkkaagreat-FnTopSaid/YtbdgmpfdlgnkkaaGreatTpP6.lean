/- What the law Tp needs, part 6 of 7: the abstract machine and the contracts of the functions. Conditions: as each theorem says. -/
import Derived.Test.YtbdgmpfdlgnkkaaGreatTpP5
namespace Go.Proofs.YtbdgmpfdlgnkkaaGreat.Mach
open Go
set_option linter.unusedVariables false
set_option linter.unusedSimpArgs false
def CP (v:ad) (i:Nat):Bool:=bC (v.2 i) (-10000000000) 10000000000
def By (v:ad) (n:Int):Bool:=bif a8 (CP v) v.1 then (v.1:Int)==n else false
def kj (g:Nat→aa) (nb:Nat) (N:Int) (pl:Nat→ae) (np:Nat) (v:ad):Bool:=bif fZ g nb N pl np then By v (2*N) else false
theorem qo (v:ad) (n:Int) (hv:v.1≤1048576):zE 86 [ew v,.p (.int .i64 n)] [] (.p (.bool (By v n))):=by
  refine aW Tryz.func86 (fun c hc=>?_)
  have lo:∀ d i,i+d=v.1→a8 (CP v) i=true→zR c 86 xM (Fh v n i) (aT c [] (.p (.bool (By v n)))):=by
    intro d
    induction d with
    | zero =>
      intro i hi ha
      obtain rfl:i=v.1:=by omega
      have hd:decide ((v.1:Int)<(v.1:Int))=false:=decide_eq_false (by omega)
      unfold By
      rw [ha]
      refine be Tryz.func86 hc (Ku v n v.1) ?_
      and_intros
      all_goals (first | exact zN | (exact hd))
    | succ d ih =>
      intro i hi ha
      have hd:decide ((i:Int)<(v.1:Int))=true:=decide_eq_true (by omega)
      have cw:=bp (v.2 i) (-10000000000) 10000000000
      change zE 58 _ [] (.p (.bool (CP v i))) at cw
      cases hs:CP v i with
      | true =>
        rw [hs] at cw
        refine cW hc (MU v n i) ?_ (ih (i+1) (by omega) (by rw [a8,ha,hs];rfl))
        and_intros
        all_goals (first | exact zN | (exact hd) | (exact cw) | (intro t ht;simp [af];done))
      | false =>
        rw [hs] at cw
        unfold By
        rw [gq (i:=i) (by omega) hs]
        refine be Tryz.func86 hc (Nz v n i) ?_
        and_intros
        all_goals (first | exact zN | (exact hd) | (exact cw))
  refine a7 hc (J3 v n) ?_ (lo v.1 0 (by omega) rfl)
  and_intros
  all_goals (first | exact zN | (intro t ht;simp [af];done))
theorem d8 (g:Nat→aa) (nb:Nat) (N:Int) (pl:Nat→ae) (np:Nat) (v:ad) (hn:nb≤1048576∧np≤1048576) (hv:v.1≤1048576) :
    zE 51 [gg g nb N pl np,ew v] [] (.p (.bool (kj g nb N pl np v))):=by
  have cf:=bn g nb N pl np hn
  have cs:=qo v (2*N) hv
  have hN:fZ g nb N pl np=true→-9223372036854775808≤2*N∧2*N≤9223372036854775807:=fun h=>by
    obtain ⟨n,rfl⟩:=yg h
    have:=(fy h).2.1
    omega
  refine aW Tryz.func51 (fun c hc=>?_)
  refine bB Tryz.func51 hc (K0 g nb N pl np v (fZ g nb N pl np) (By v (2*N))) ?_
  and_intros
  all_goals (first | exact zI | (exact cf) | (intro _;exact cs) | (intro h;exact h) | (intro h;exact (hN h).1) | (intro h;exact (hN h).2) | rfl)
structure VOk (g:Nat→aa) (nb N:Nat) (pl:Nat→ae) (np:Nat) (v:ad):Prop where
  hf:fZ g nb N pl np=true
  hl:v.1=2*N
  hN:1≤N∧N≤6
  hnp:np=N
  hnb:nb≤15
  sm:∀ j,j<2*N→-10000000000≤v.2 j∧v.2 j≤10000000000
  px:∀ i,i<N→(0≤(pl i).1∧(pl i).1≤4)∧(0≤(pl i).2.1∧(pl i).2.1≤4)
  vel:kj g nb N pl np v=true
  gr:ah ((N:Int),(nb,g),())=true
theorem JS {g:Nat→aa} {nb N:Nat} {pl:Nat→ae} {np:Nat} {v:ad} (h:kj g nb N pl np v=true):VOk g nb N pl np v:=by
  have hv:=h
  unfold kj at h
  cases hf:fZ g nb N pl np with
  | false=>rw [hf] at h;cases h
  | true =>
    rw [hf] at h
    obtain ⟨h1,h2,h3,h4,h5,_⟩:=mK hf
    obtain ⟨hN,_,_⟩:=az h1
    have h:By v (2*(N:Int))=true:=h
    unfold By at h
    cases ha:a8 (CP v) v.1 with
    | false=>rw [ha] at h;cases h
    | true =>
      rw [ha] at h
      have hl:v.1=2*N:=by simp at h;omega
      exact ⟨hf,hl,by omega,by omega,h3,fun j hj=>jy.1 ((bX _ _).1 ha j (by omega)),fun i hi=>h5 i (by omega),hv,h1⟩
def G6 (pl:Nat→ae) (v:ad) (a b:Nat):Int:=((pl a).1 - (pl b).1)*(v.2 (2*a) - v.2 (2*b))+((pl a).2.1 - (pl b).2.1)*(v.2 (2*a+1) - v.2 (2*b+1))
theorem sA {g:Nat→aa} {nb N:Nat} {pl:Nat→ae} {np:Nat} {v:ad} (ok:VOk g nb N pl np v) {a b:Nat} (ha:a<N) (hb:b<N) :
    zE 52 [gg g nb N pl np,ew v,.p (.int .i64 a),.p (.int .i64 b)] [] (.p (.int .i64 (G6 pl v a b))):=by
  obtain ⟨hf,hl,hN,hnp,hnb,sm,px,hv,hg⟩:=ok
  have c1:=d8 g nb N pl np v (by omega) (by omega)
  rw [hv] at c1
  have h1:=lF (nb:=nb) (g:=g) (N:=N) (by omega) (p:=(a:Int)) (by omega)
  have h2:=lF (nb:=nb) (g:=g) (N:=N) (by omega) (p:=(b:Int)) (by omega)
  have p1:=px a ha
  have p2:=px b hb
  have s1:=sm (2*a) (by omega)
  have s2:=sm (2*a+1) (by omega)
  have s3:=sm (2*b) (by omega)
  have s4:=sm (2*b+1) (by omega)
  have m1:=Trv.bdm (a:=(pl a).1 - (pl b).1) (b:=v.2 (2*a) - v.2 (2*b)) (A:=4) (B:=20000000000) (by omega) (by omega)
  have m2:=Trv.bdm (a:=(pl a).2.1 - (pl b).2.1) (b:=v.2 (2*a+1) - v.2 (2*b+1)) (A:=4) (B:=20000000000) (by omega) (by omega)
  have d1:decide ((a:Int)<0)=false:=decide_eq_false (by omega)
  have d2:decide ((b:Int)<0)=false:=decide_eq_false (by omega)
  have d3:decide ((a:Int)≥(N:Int))=false:=decide_eq_false (by omega)
  have d4:decide ((b:Int)≥(N:Int))=false:=decide_eq_false (by omega)
  refine aW Tryz.func52 (fun c hc=>?_)
  refine bB Tryz.func52 hc (NE g nb N pl np v a b) ?_
  and_intros
  all_goals (first | exact zH | (exact c1) | (intro _;exact h1) | (intro _;exact h2) | (intro h;exact h) | (intros;rfl))
def xP (pl:Nat→ae) (i:Nat):Int:=(pl i).1 - (pl 0).1
def yP (pl:Nat→ae) (i:Nat):Int:=(pl i).2.1 - (pl 0).2.1
def GQ (v:ad) (i:Nat):Int:=v.2 (2*i) - v.2 0
def wP (v:ad) (i:Nat):Int:=v.2 (2*i+1) - v.2 1
def Gu (N:Nat) (pl:Nat→ae) (v:ad):Prop:=Trv.All2 N (xP pl) (yP pl) (GQ v) (wP v)
open Classical in
noncomputable def qI (g:Nat→aa) (nb:Nat) (N:Int) (pl:Nat→ae) (np:Nat) (v:ad):Bool:=kj g nb N pl np v&&decide (Gu N.toNat pl v)
theorem C8 {g:Nat→aa} {nb N:Nat} {pl:Nat→ae} {np:Nat} {v:ad} (h1:kj g nb N pl np v=true) (h2:Gu N pl v):qI g nb N pl np v=true:=by
  unfold qI;rw [h1];simp;exact h2
theorem Da {g:Nat→aa} {nb N:Nat} {pl:Nat→ae} {np:Nat} {v:ad} (h2:¬ Gu N pl v):qI g nb N pl np v=false:=by
  unfold qI;simp;intro _;exact h2
theorem Gj {g:Nat→aa} {nb:Nat} {N:Int} {pl:Nat→ae} {np:Nat} {v:ad} (h1:kj g nb N pl np v=false):qI g nb N pl np v=false:=by
  unfold qI;rw [h1];rfl
theorem iK (g:Nat→aa) (nb:Nat) (N:Int) (pl:Nat→ae) (np:Nat) (v:ad) (hn:nb≤1048576∧np≤1048576) (hv:v.1≤1048576) :
    zE 20 [gg g nb N pl np,ew v] [] (.p (.bool (qI g nb N pl np v))):=by
  have cv:=d8 g nb N pl np v hn hv
  cases hb:kj g nb N pl np v with
  | false =>
    rw [hb] at cv
    rw [Gj hb]
    refine aW Tryz.func20 (fun c hc=>?_)
    refine be Tryz.func20 hc (L2 g nb N pl np v) ?_
    and_intros
    all_goals (first | exact zN | (exact cv) | rfl)
  | true =>
    rw [hb] at cv
    obtain ⟨n,rfl⟩:∃ n:Nat,N=n:=by
      unfold kj at hb
      cases hf:fZ g nb N pl np with
      | false=>rw [hf] at hb;cases hb
      | true=>exact yg hf
    have ok:=JS hb
    obtain ⟨hf,hl,hN,hnp,hnb,sm,px,hv',hg⟩:=ok
    have p0:=px 0 (by omega)
    have s0:=sm 0 (by omega)
    have s1:=sm 1 (by omega)
    refine aW Tryz.func20 (fun c hc=>?_)
    have l1:∀ (num den:Int),-200000000000≤num→num≤200000000000→1≤den→den≤32→(Trv.One n (xP pl) (yP pl) (GQ v) (wP v) num den↔Gu n pl v) →
        ∀ d i,i+d=np→(∀ j,j<i→GQ v j*den = -num*yP pl j∧wP v j*den=num*xP pl j) →
        zR c 20 u1 (Eg g nb n pl np v num den i) (aT c [] (.p (.bool (qI g nb n pl np v)))):=by
      intro num den hn1 hn2 hd1 hd2 hiff d
      induction d with
      | zero =>
        intro i hi hall
        obtain rfl:i=np:=by omega
        have hd:decide ((i:Int)<(i:Int))=false:=decide_eq_false (by omega)
        rw [C8 hb (hiff.1 (fun j hj=>hall j (by omega)))]
        refine be Tryz.func20 hc (Mm g nb n pl i v num den i) ?_
        and_intros
        all_goals (first | exact zN | (exact hd))
      | succ d ih =>
        intro i hi hall
        have hd:decide ((i:Int)<(np:Int))=true:=decide_eq_true (by omega)
        have pi:=px i (by omega)
        have si:=sm (2*i) (by omega)
        have ti:=sm (2*i+1) (by omega)
        have m1:=Trv.bdm (a:=v.2 (2*i) - v.2 0) (b:=den) (A:=20000000000) (B:=32) (by omega) (by omega)
        have m2:=Trv.bdm (a:=0 - num) (b:=(pl i).2.1 - (pl 0).2.1) (A:=200000000000) (B:=4) (by omega) (by omega)
        have m3:=Trv.bdm (a:=v.2 (2*i+1) - v.2 1) (b:=den) (A:=20000000000) (B:=32) (by omega) (by omega)
        have m4:=Trv.bdm (a:=num) (b:=(pl i).1 - (pl 0).1) (A:=200000000000) (B:=4) (by omega) (by omega)
        have e0:(0 - num)*((pl i).2.1 - (pl 0).2.1) = -num*((pl i).2.1 - (pl 0).2.1):=by rw [Int.zero_sub]
        by_cases hq:(v.2 (2*i) - v.2 0)*den=(0 - num)*((pl i).2.1 - (pl 0).2.1)∧(v.2 (2*i+1) - v.2 1)*den=num*((pl i).1 - (pl 0).1)
        · have b1:((v.2 (2*i) - v.2 0)*den != (0 - num)*((pl i).2.1 - (pl 0).2.1))=false:=by rw [hq.1];simp
          have b2:((v.2 (2*i+1) - v.2 1)*den != num*((pl i).1 - (pl 0).1))=false:=by rw [hq.2];simp
          have hb':(bif (v.2 (2*i) - v.2 0)*den != (0 - num)*((pl i).2.1 - (pl 0).2.1) then true else (v.2 (2*i+1) - v.2 1)*den != num*((pl i).1 - (pl 0).1))=false:=by rw [b1,b2];rfl
          refine a7 hc (LI g nb n pl np v num den i) ?_ (ih (i+1) (by omega) (fun j hj=>by
            by_cases hji:j=i
            · subst hji;exact ⟨hq.1.trans e0,hq.2⟩
            · exact hall j (by omega)))
          and_intros
          all_goals (first | exact zH | (exact hd) | (exact hb') | (intro h;exact h) | (intro h;omega) | (intro h;rw [h];rfl) | (intro t ht;simp [af];done))
        · have hb':(bif (v.2 (2*i) - v.2 0)*den != (0 - num)*((pl i).2.1 - (pl 0).2.1) then true else (v.2 (2*i+1) - v.2 1)*den != num*((pl i).1 - (pl 0).1))=true:=by
            by_cases h1:(v.2 (2*i) - v.2 0)*den=(0 - num)*((pl i).2.1 - (pl 0).2.1)
            · have h2:(v.2 (2*i+1) - v.2 1)*den≠num*((pl i).1 - (pl 0).1):=fun h2=>hq ⟨h1,h2⟩
              rw [show ((v.2 (2*i) - v.2 0)*den != (0 - num)*((pl i).2.1 - (pl 0).2.1))=false by rw [h1];simp]
              simpa using h2
            · rw [show ((v.2 (2*i) - v.2 0)*den != (0 - num)*((pl i).2.1 - (pl 0).2.1))=true by simpa using h1];rfl
          rw [Da (fun h=>hq (by
            have:=hiff.2 h i (by omega)
            exact ⟨by rw [e0];exact this.1,this.2⟩))]
          refine bB Tryz.func20 hc (Oa g nb n pl np v num den i) ?_
          and_intros
          all_goals (first | exact zH | (exact hd) | (exact hb') | (intro h;exact h) | (intro h;omega) | (intro h;rw [h];rfl))
    have z0:xP pl 0=0∧yP pl 0=0∧GQ v 0=0∧wP v 0=0:=⟨Int.sub_self _,Int.sub_self _,Int.sub_self _,Int.sub_self _⟩
    have l0:∀ d i,i+d=np→(∀ j,j<i→xP pl j=0∧yP pl j=0)→zR c 20 xi (EQ g nb n pl np v i) (aT c [] (.p (.bool (qI g nb n pl np v)))):=by
      intro d
      induction d with
      | zero =>
        intro i hi hall
        obtain rfl:i=np:=by omega
        have hd:decide ((i:Int)<(i:Int))=false:=decide_eq_false (by omega)
        have hr:=l1 0 1 (by omega) (by omega) (by omega) (by omega) ⟨fun h=>Trv.one_all (by omega) h,fun h=>Trv.all_one0 h z0 (fun j hj=>hall j (by omega))⟩ i 0 (by omega) (fun j hj=>absurd hj (Nat.not_lt_zero _))
        refine cW hc (L1 g nb n pl i v i) ?_ hr
        and_intros
        all_goals (first | exact zN | (exact hd) | (intro t ht;simp [af];done))
      | succ d ih =>
        intro i hi hall
        have hd:decide ((i:Int)<(np:Int))=true:=decide_eq_true (by omega)
        have pi:=px i (by omega)
        have si:=sm (2*i) (by omega)
        have ti:=sm (2*i+1) (by omega)
        by_cases hz:(pl i).1 - (pl 0).1=0∧(pl i).2.1 - (pl 0).2.1=0
        · have hb':(bif (pl i).1 - (pl 0).1 != 0 then true else (pl i).2.1 - (pl 0).2.1 != 0)=false:=by rw [hz.1,hz.2];rfl
          refine cW hc (Nr g nb n pl np v i) ?_ (ih (i+1) (by omega) (fun j hj=>by
            by_cases hji:j=i
            · subst hji;exact hz
            · exact hall j (by omega)))
          and_intros
          all_goals (first | exact zH | (exact hd) | (exact hb') | (intro h;exact h) | (intro h;rw [h];rfl) | (intro t ht;simp [af];done))
        · have hz':xP pl i≠0∨yP pl i≠0:=by
            show (pl i).1 - (pl 0).1≠0∨(pl i).2.1 - (pl 0).2.1≠0
            omega
          have hb':(bif (pl i).1 - (pl 0).1 != 0 then true else (pl i).2.1 - (pl 0).2.1 != 0)=true:=by
            by_cases h1:(pl i).1 - (pl 0).1=0
            · have h2:(pl i).2.1 - (pl 0).2.1≠0:=fun h2=>hz ⟨h1,h2⟩
              rw [h1];simpa using h2
            · rw [show ((pl i).1 - (pl 0).1 != 0)=true by simpa using h1];rfl
          have m1:=Trv.bdm (a:=v.2 (2*i+1) - v.2 1) (b:=(pl i).1 - (pl 0).1) (A:=20000000000) (B:=4) (by omega) (by omega)
          have m2:=Trv.bdm (a:=v.2 (2*i) - v.2 0) (b:=(pl i).2.1 - (pl 0).2.1) (A:=20000000000) (B:=4) (by omega) (by omega)
          have m3:=Trv.bdm (a:=(pl i).1 - (pl 0).1) (b:=(pl i).1 - (pl 0).1) (A:=4) (B:=4) (by omega) (by omega)
          have m4:=Trv.bdm (a:=(pl i).2.1 - (pl 0).2.1) (b:=(pl i).2.1 - (pl 0).2.1) (A:=4) (B:=4) (by omega) (by omega)
          have hpos:0<((pl i).1 - (pl 0).1)*((pl i).1 - (pl 0).1)+((pl i).2.1 - (pl 0).2.1)*((pl i).2.1 - (pl 0).2.1):=Trv.sum_sq_pos hz'
          have hr:=l1 ((v.2 (2*i+1) - v.2 1)*((pl i).1 - (pl 0).1) - (v.2 (2*i) - v.2 0)*((pl i).2.1 - (pl 0).2.1)) (((pl i).1 - (pl 0).1)*((pl i).1 - (pl 0).1)+((pl i).2.1 - (pl 0).2.1)*((pl i).2.1 - (pl 0).2.1)) (by omega) (by omega) (by omega) (by omega)
            ⟨fun h=>Trv.one_all (by omega) h,fun h=>Trv.all_onej h z0 (j:=i) (by omega) hz'⟩ np 0 (by omega) (fun j hj=>absurd hj (Nat.not_lt_zero _))
          refine cW hc (Lu g nb n pl np v i _ _) ?_ hr
          and_intros
          all_goals (first | exact zH | (exact hd) | (exact hb') | (intro h;exact h) | (intro h;rw [h];rfl) | (intro t ht;simp [af];done))
    refine cW hc (Nf g nb n pl np v) ?_ (l0 np 0 (by omega) (fun j hj=>absurd hj (Nat.not_lt_zero _)))
    and_intros
    all_goals (first | exact zN | (exact cv) | (intro t ht;simp [af];done))
def EV (g:Nat→aa) (nb N:Nat) (pl:Nat→ae) (np:Nat) (q:Nat) (W:Nat→Nat→Int) (i:Nat):St :=
  ⟨[.p .any,.pt 3 0 0 0,.p .any,.p .any,.p .any,.p .any,.p .any,.ar 1 1 0 q,.p (.int .i64 q),.p (.int .i64 i)]++List.replicate 10 ag,[(0,EY g nb N pl np),(1,d6 2 q (cM (2*N) W)),(2,d5 q (cM (2*N) W))],3⟩
theorem M8 (g:Nat→aa) (nb N:Nat) (pl:Nat→ae) (np:Nat) (q:Nat) (W:Nat→Nat→Int) :
    zT Tryz.f18 [rg 3,rm [(1,oc [(0,d6 1 q (cM (2*N) W)),(1,d5 q (cM (2*N) W))] (.ar 1 0 0 q))] 2,.head] [gg g nb N pl np] [0,128,129] (EV g nb N pl np q W 0) =
    some (xN,[(NT 0 1),zE 50 [(nY N nb g np pl)] [(0,⟨false,1,q,(fun i=>[.ar 1 ⟨1,some i⟩ 0 (2*N)])⟩),(1,⟨true,0,q,(fun i=>[.p (.seq false 1 (2*N) (fun i_1=>[.int .i64 ((cM (2*N) W i).2 i_1)]))])⟩)] (.ar 1 0 0 q),(AN 0),(AN 0),(AN q),(AI ((q:Int))),((0:Int)=(↑0:Int)),((([AV.p (PV.int IntKind.i64 (N:Int)),b4 g nb,vf pl np].length):Nat)=3),(NL 1 1),(NL 1 1),(AI ((N:Int))),(AN nb),(AP nb (aH g)),(AN np),(AP np (aH pl)),(AN 1),(NL q q),(AA q (fun i=>[.ar 1 ⟨2,some i⟩ 0 (2*N)])),(NL q q),(∀ i:Nat,(((i:Nat)<q)→af [(AN 1),(((2*N):Nat)≤(2*N)),(AP ((2*N)) (fun r=>[.int .i64 ((cM (2*N) W i).2 r)]))]))]):=by kernel_rfl
theorem KU (g:Nat→aa) (nb N:Nat) (pl:Nat→ae) (np:Nat) (q:Nat) (W:Nat→Nat→Int) (i:Nat) :
    zM 0 [rg 1,.dec true,rg 3,rm [(2,oc [] (jB true))] 1,.dec false,rg 2,.head] xN (EV g nb N pl np q W i) [0,1,2] 1 (EV g nb N pl np q W (i+1)) =
    some (xN,[((decide ((i:Int)<(q:Int)))=true),(IL 0 (i:Int)),(IT (i:Int) (q:Int)),(NT i q),(NT 0 1),(NT i q),(AN 1),(NL (2*N) (2*N)),zE 20 [(yY N nb g np pl),.p (.seq true 1 (2*N) (fun i_1=>[.int .i64 ((cM (2*N) W i).2 i_1)]))] [] (jB true),((!true)=false),(ax ((i:Int)+1)),(au ((i:Int)+1)),(AN 0),(AN 0),(AN q),(AI ((q:Int))),((((i:Int)+1):Int)=(↑(i+1):Int)),(AN 3),(NL 1 1),(NL 1 1),(AI ((N:Int))),(AN nb),(AP nb (aH g)),(AN np),(AP np (aH pl)),(AN 1),(NL q q),(AA q (fun i_1=>[.ar 1 ⟨2,some i_1⟩ 0 (2*N)])),(NL q q),(∀ i_1:Nat,(((i_1:Nat)<q)→af [(AN 1),(((2*N):Nat)≤(2*N)),(AP ((2*N)) (fun r=>[.int .i64 ((cM (2*N) W i_1).2 r)]))]))]):=by kernel_rfl
theorem MR (g:Nat→aa) (nb N:Nat) (pl:Nat→ae) (np:Nat) (q:Nat) (W:Nat→Nat→Int) (i:Nat) (w:Nat→Int) :
    zP Tryz.f18 0 [rg 1,.dec true,rg 3,rm [(2,oc [] (jB false))] 1,.dec true,rg 3] xN (EV g nb N pl np q W i) [.pl ⟨2,some i⟩] 1 [(0,aY (2*N) w)] (.tup [.ar 1 0 0 (2*N),jB true]) =
    some [((decide ((i:Int)<(q:Int)))=true),(IL 0 (i:Int)),(IT (i:Int) (q:Int)),(NT i q),(NT 0 1),(NT i q),(AN 1),(NL (2*N) (2*N)),zE 20 [(yY N nb g np pl),.p (.seq true 1 (2*N) (fun i_1=>[.int .i64 ((cM (2*N) W i).2 i_1)]))] [] (jB false),((!false)=true),(AN i),(AN 0),(AN ((2*N))),(true=true),(NT i q),(AN 1),(NL (2*N) (2*N)),(∀ i_1:Nat,(((i_1:Nat)<(2*N))→(af []∧(([.p (.int .i64 ((cM (2*N) W i).2 i_1))]:List AV)=[.p (.int .i64 (w i_1))])))),(AE ((2*N)))]:=by kernel_rfl
theorem Kf (g:Nat→aa) (nb N:Nat) (pl:Nat→ae) (np:Nat) (q:Nat) (W:Nat→Nat→Int) (i:Nat) (w:Nat→Int) :
    zP Tryz.f18 0 [rg 1,.dec false,rg 3] xN (EV g nb N pl np q W i) [35] 1 [(0,aY 0 w)] (.tup [.ar 1 0 0 0,jB false]) =
    some [((decide ((i:Int)<(q:Int)))=false),(AN 0),(AN 0),(false=false),(AN 1),(NL 0 0),(∀ i_1:Nat,(((i_1:Nat)<0)→(af []∧(([.p (.int .i64 0)]:List AV)=[.p (.int .i64 (w i_1))])))),(AE 0)]:=by kernel_rfl
noncomputable def y7 (g:Nat→aa) (nb N:Nat) (pl:Nat→ae) (np:Nat) (W:Nat→Nat→Int):Nat→Nat→ad×Bool
  | 0,_=>((0,fun _=>0),false)
  | d+1,i=>if qI g nb N pl np (2*N,W i)=true then y7 g nb N pl np W d (i+1) else ((2*N,W i),true)
noncomputable def pA (g:Nat→aa) (nb N:Nat) (pl:Nat→ae) (np:Nat):ad×Bool:=y7 g nb N pl np (kV g nb N pl).2 (kV g nb N pl).1 0
theorem En (g:Nat→aa) (nb N:Nat) (pl:Nat→ae):(kV g nb N pl).1≤2*N:=Had.nsl_le _ _ _
theorem lc {g:Nat→aa} {nb N:Nat} {pl:Nat→ae} {np:Nat} (hf:fZ g nb N pl np=true) :
    zE 18 [gg g nb N pl np] [(0,aY (pA g nb N pl np).1.1 (pA g nb N pl np).1.2)] (.tup [.ar 1 0 0 (pA g nb N pl np).1.1,.p (.bool (pA g nb N pl np).2)]):=by
  obtain ⟨h1,h2,h3,h4,hok,hb⟩:=fy hf
  have m1:=qb hf
  have hq:=En g nb N pl
  have ti:=fun (W:Nat→Nat→Int) i=>iK g nb N pl np (2*N,W i) (by omega) (by show 2*N≤_;omega)
  unfold pA
  generalize (kV g nb N pl).1=q at *
  generalize (kV g nb N pl).2=W at *
  generalize hR:y7 g nb N pl np W q 0=R
  refine aW Tryz.func18 (fun c hc=>?_)
  have lo:∀ d i,i+d=q→y7 g nb N pl np W d i=R→zR c 18 xN (EV g nb N pl np q W i) (aT c [(0,aY R.1.1 R.1.2)] (.tup [.ar 1 0 0 R.1.1,.p (.bool R.2)])):=by
    intro d
    induction d with
    | zero =>
      intro i hi hr
      obtain rfl:i=q:=by omega
      have hd:decide ((i:Int)<(i:Int))=false:=decide_eq_false (by omega)
      rw [← hr]
      refine be Tryz.func18 hc (Kf g nb N pl np i W i (fun _=>0)) ?_
      and_intros
      iterate 2 all_goals (first | exact zN | (exact hd) | (intro t ht;exact absurd ht (Nat.not_lt_zero _)) | (intro t ht;simp [af];done) | simp only [af])
    | succ d ih =>
      intro i hi hr
      have hd:decide ((i:Int)<(q:Int))=true:=decide_eq_true (by omega)
      have ct:=ti W i
      rw [y7] at hr
      cases hb:qI g nb N pl np (2*N,W i) with
      | true =>
        rw [hb] at ct
        rw [if_pos hb] at hr
        refine cW hc (KU g nb N pl np q W i) ?_ (ih (i+1) (by omega) hr)
        and_intros
        iterate 2 all_goals (first | exact zN | (exact hd) | (exact ct) | (intro t ht;simp [af];done) | simp only [af])
      | false =>
        rw [hb] at ct
        rw [if_neg (by rw [hb];exact Bool.false_ne_true)] at hr
        rw [← hr]
        refine be Tryz.func18 hc (MR g nb N pl np q W i (W i)) ?_
        and_intros
        iterate 2 all_goals (first | exact zN | (exact hd) | (exact ct) | (intro t ht;simp [af,cM];done) | (intro t ht;simp [af];done) | simp only [af])
  refine cW hc (M8 g nb N pl np q W) ?_ (lo q 0 (by omega) hR)
  and_intros
  iterate 2 all_goals (first | exact zN | (exact m1) | (intro t ht;simp [af];done) | simp only [af])
end Go.Proofs.YtbdgmpfdlgnkkaaGreat.Mach
namespace Go.Proofs.YtbdgmpfdlgnkkaaGreat.Mat
set_option linter.unusedVariables false
set_option linter.unusedSimpArgs false
def tb (v:Nat) (x:Nat×Nat):Bool:=x.1==v||x.2==v
def dgL (v:Nat):List (Nat×Nat)→Nat
  | []=>0
  | x::l=>(tb v x).toNat+dgL v l
def tch (L:List (Nat×Nat)) (v:Nat):Bool:=decide (0<dgL v L)
def Full (N:Nat) (L:List (Nat×Nat)):Prop:=L.length+3=2*cardR (tch L) N
theorem tb_iff {v:Nat} {x:Nat×Nat}:tb v x=true↔x.1=v∨x.2=v:=by simp [tb]
theorem yZ {v:Nat} {x:Nat×Nat}:∀ {L:List (Nat×Nat)},x∈L→tb v x=true→0<dgL v L
  | y::l,hx,ht=>by
    simp only [dgL]
    rcases List.mem_cons.1 hx with h | h
    · subst h;rw [ht];simp only [Bool.toNat_true];omega
    · have:=yZ h ht;omega
theorem A2 {v:Nat}:∀ {L:List (Nat×Nat)},0<dgL v L→∃ x∈L,tb v x=true
  | [],h=>absurd h (Nat.lt_irrefl _)
  | y::l,h=>by
    simp only [dgL] at h
    cases ht:tb v y with
    | true=>exact ⟨y,by simp,ht⟩
    | false =>
      rw [ht] at h
      simp only [Bool.toNat_false,Nat.zero_add] at h
      obtain ⟨x,h1,h2⟩:=A2 h
      exact ⟨x,by simp [h1],h2⟩
theorem tch_iff {L:List (Nat×Nat)} {v:Nat}:tch L v=true↔∃ x∈L,tb v x=true:=by
  unfold tch
  rw [decide_eq_true_iff]
  exact ⟨A2,fun ⟨x,h1,h2⟩=>yZ h1 h2⟩
theorem tch_lt {N:Nat} {L:List (Nat×Nat)} (hL:∀ x∈L,GoodBar N x) {v:Nat} (h:tch L v=true):v<N:=by
  obtain ⟨x,h1,h2⟩:=tch_iff.1 h
  have:=hL x h1
  unfold GoodBar at this
  rcases tb_iff.1 h2 with e | e<;>omega
theorem cnt_all {R:Nat→Bool}:∀ {L:List (Nat×Nat)},(∀ x∈L,inn R x=true)→cnt R L=L.length
  | [],_=>rfl
  | y::l,h=>by
    simp only [cnt,List.length_cons]
    rw [cnt_all (fun x hx=>h x (by simp [hx])),h y (by simp)]
    simp only [Bool.toNat_true];omega
theorem cnt_perm (R:Nat→Bool) {L M:List (Nat×Nat)} (h:L.Perm M):cnt R L=cnt R M:=by
  induction h with
  | nil=>rfl
  | cons x _ ih=>simp only [cnt,ih]
  | swap x y l=>simp only [cnt];omega
  | trans _ _ i1 i2=>exact i1.trans i2
theorem sparse_perm {N k l:Nat} {L M:List (Nat×Nat)} (h:L.Perm M) (hs:Sparse N k l L):Sparse N k l M:=fun R hR=>by
  rw [← cnt_perm R h] at hR ⊢
  exact hs R hR
theorem gH {R:Nat→Bool} {a:Nat} (h:R a=true):∀ n,cardR R n=cardR (fun v=>R v&&v != a) n+(if a<n then 1 else 0)
  | 0=>rfl
  | n+1=>by
    simp only [cardR]
    rw [gH h n]
    by_cases e:n=a
    · subst e
      simp [h]
    · have e1:(n != a)=true:=by simpa using e
      rw [e1,Bool.and_true]
      by_cases h1:a<n
      · rw [if_pos h1,if_pos (by omega)];omega
      · rw [if_neg h1,if_neg (by omega)];omega
theorem Bl {R:Nat→Bool} {a n:Nat} (h:R a=false) (ha:a<n):cardR (fun v=>R v||v==a) n=cardR R n+1:=by
  have h1:=gH (R:=fun v=>R v||v==a) (a:=a) (by simp) n
  rw [h1,if_pos ha]
  congr 1
  have:∀ m,cardR (fun v=>(R v||v==a)&&v != a) m=cardR R m:=by
    intro m
    induction m with
    | zero=>rfl
    | succ m ih =>
      simp only [cardR,ih]
      by_cases e:m=a
      · subst e;simp [h]
      · have e1:(m==a)=false:=beq_eq_false_iff_ne.2 e
        simp [bne,e1]
  exact this n
theorem card_cgr {R S:Nat→Bool}:∀ n,(∀ v,v<n→R v=S v)→cardR R n=cardR S n
  | 0,_=>rfl
  | n+1,h=>by simp only [cardR];rw [card_cgr n (fun v hv=>h v (by omega)),h n (by omega)]
def xO (f:Nat→Nat):Nat→Nat
  | 0=>0
  | n+1=>xO f n+f n
theorem wt (f g:Nat→Nat):∀ n,xO (fun v=>f v+g v) n=xO f n+xO g n
  | 0=>rfl
  | n+1=>by simp only [xO,wt f g n];omega
theorem sq:∀ n,xO (fun _=>0) n=0
  | 0=>rfl
  | n+1=>by simp only [xO,sq n]
theorem zd {x:Nat×Nat} (h:x.1≠x.2):∀ n,xO (fun v=>(tb v x).toNat) n=(if x.1<n then 1 else 0)+(if x.2<n then 1 else 0)
  | 0=>rfl
  | n+1=>by
    have ih:=zd h n
    simp only [xO]
    rw [ih]
    unfold tb
    by_cases h1:x.1=n
    · have e2:(x.2==n)=false:=beq_eq_false_iff_ne.2 (by omega)
      rw [e2,show (x.1==n)=true from beq_iff_eq.2 h1]
      simp only [Bool.true_or,Bool.toNat_true]
      rw [if_neg (show ¬ x.1<n by omega),if_pos (show x.1<n+1 by omega)]
      by_cases h2:x.2<n
      · rw [if_pos h2,if_pos (by omega)]
      · rw [if_neg h2,if_neg (by omega)]
    · rw [show (x.1==n)=false from beq_eq_false_iff_ne.2 h1]
      by_cases h2:x.2=n
      · rw [show (x.2==n)=true from beq_iff_eq.2 h2]
        simp only [Bool.false_or,Bool.toNat_true]
        rw [if_neg (show ¬ x.2<n by omega),if_pos (show x.2<n+1 by omega)]
        by_cases h3:x.1<n
        · rw [if_pos h3,if_pos (by omega)]
        · rw [if_neg h3,if_neg (by omega)]
      · rw [show (x.2==n)=false from beq_eq_false_iff_ne.2 h2]
        simp only [Bool.false_or,Bool.toNat_false,Nat.add_zero]
        by_cases h3:x.1<n<;>by_cases h4:x.2<n
        · rw [if_pos h3,if_pos h4,if_pos (by omega),if_pos (by omega)]
        · rw [if_pos h3,if_neg h4,if_pos (by omega),if_neg (by omega)]
        · rw [if_neg h3,if_pos h4,if_neg (by omega),if_pos (by omega)]
        · rw [if_neg h3,if_neg h4,if_neg (by omega),if_neg (by omega)]
theorem FP {N:Nat}:∀ L:List (Nat×Nat),(∀ x∈L,GoodBar N x)→xO (fun v=>dgL v L) N=2*L.length
  | [],_=>sq N
  | x::l,h=>by
    have ih:=FP l (fun y hy=>h y (by simp [hy]))
    have hx:=h x (by simp)
    unfold GoodBar at hx
    have h1:=zd hx.1 N
    rw [if_pos hx.2.1,if_pos hx.2.2] at h1
    show xO (fun v=>(tb v x).toNat+dgL v l) N=_
    rw [wt,h1,ih,List.length_cons];omega
theorem zc {R:Nat→Bool} {f:Nat→Nat} {k:Nat}:∀ n,(∀ v,v<n→R v=true→k≤f v)→k*cardR R n≤xO f n
  | 0,_=>Nat.zero_le _
  | n+1,h=>by
    have ih:=zc n (fun v hv=>h v (by omega))
    simp only [cardR,xO]
    cases hr:R n with
    | true =>
      have:=h n (by omega) hr
      simp only [Bool.toNat_true,Nat.mul_add];omega
    | false=>simp only [Bool.toNat_false,Nat.mul_add];omega
theorem tJ {T:Nat→Bool} {v:Nat}:∀ {L:List (Nat×Nat)},(∀ x∈L,T x.1=true∧T x.2=true)→cnt (fun u=>T u&&u != v) L+dgL v L=L.length
  | [],_=>rfl
  | x::l,h=>by
    have ih:=tJ (v:=v) (fun y hy=>h y (List.mem_cons_of_mem _ hy))
    obtain ⟨h1,h2⟩:=h x (by simp)
    have e:(inn (fun u=>T u&&u != v) x).toNat+(tb v x).toNat=1:=by
      show ((T x.1&&x.1 != v)&&(T x.2&&x.2 != v)).toNat+(x.1==v||x.2==v).toNat=1
      rw [h1,h2]
      simp only [Bool.true_and,bne]
      cases x.1==v<;>cases x.2==v<;>rfl
    simp only [cnt,dgL,List.length_cons]
    omega
theorem ends_tch {L:List (Nat×Nat)}:∀ x∈L,tch L x.1=true∧tch L x.2=true:=fun x hx =>
  ⟨tch_iff.2 ⟨x,hx,tb_iff.2 (.inl rfl)⟩,tch_iff.2 ⟨x,hx,tb_iff.2 (.inr rfl)⟩⟩
theorem B7 {N:Nat} {L:List (Nat×Nat)} (hs:Sparse N 2 3 L) (hL:∀ x∈L,GoodBar N x) (hf:Full N L) (h2:2≤L.length) {v:Nat} (hv:tch L v=true):2≤dgL v L:=by
  have h1:=tJ (v:=v) (L:=L) ends_tch
  have hc:=gH hv N
  rw [if_pos (tch_lt hL hv)] at hc
  unfold Full at hf
  by_cases h0:0<cnt (fun u=>tch L u&&u != v) L
  · have:=hs _ h0
    omega
  · omega
theorem deg_some {N:Nat} {L:List (Nat×Nat)} (hs:Sparse N 2 3 L) (hL:∀ x∈L,GoodBar N x) (hf:Full N L) (h2:2≤L.length):∃ v,v<N∧(dgL v L=2∨dgL v L=3):=by
  refine Classical.byContradiction fun hn=>?_
  have h4:∀ v,v<N→tch L v=true→4≤dgL v L:=fun v hv ht=>by
    have:=B7 hs hL hf h2 ht
    refine Classical.byContradiction fun h=>hn ⟨v,hv,by omega⟩
  have h5:=zc N h4
  rw [FP L hL] at h5
  unfold Full at hf
  omega
theorem ext_sparse {N:Nat} {D:List (Nat×Nat)} (hD:Sparse N 2 3 D) {x:Nat×Nat} (hx:GoodBar N x) (h:¬ Imp N D x.1 x.2):Sparse N 2 3 (D++[x]):=by
  intro R hR
  rw [cnt_append] at hR ⊢
  have e1:cnt R [x]=(inn R x).toNat:=by simp [cnt]
  rw [e1] at hR ⊢
  have h1:=hD R
  cases hi:inn R x with
  | false =>
    rw [hi] at hR
    simp only [Bool.toNat_false,Nat.add_zero] at hR ⊢
    exact h1 hR
  | true =>
    simp only [Bool.toNat_true]
    unfold inn at hi
    rw [Bool.and_eq_true] at hi
    by_cases h0:0<cnt R D
    · have h2:=h1 h0
      refine Classical.byContradiction fun hn=>h ⟨R,by unfold Tight;omega,hi.1,hi.2⟩
    · have:=card_two R x.1 x.2 hi.1 hi.2 hx.1 N hx.2.1 hx.2.2
      omega
theorem hen3 {N:Nat} {L D:List (Nat×Nat)} {v a b c:Nat} {x1 x2 x3:Nat×Nat} (hL:Sparse N 2 3 L) (hD:Sparse N 2 3 D) (hp:L.Perm (D++[x1,x2,x3]))
    (hv:v<N) (ha:a<N) (hb:b<N) (hc:c<N) (hab:a≠b) (hac:a≠c) (hbc:b≠c) (h1:x1=(v,a)∨x1=(a,v)) (h2:x2=(v,b)∨x2=(b,v)) (h3:x3=(v,c)∨x3=(c,v)) :
    ¬ (Imp N D a b∧Imp N D a c∧Imp N D b c):=by
  rintro ⟨i1,i2,i3⟩
  obtain ⟨R,t,ra,rb,rc⟩:=tight_tri hD ha hb hc hab hac hbc i1 i2 i3
  have key:∀ S:Nat→Bool,S v=true→S a=true→S b=true→S c=true→cnt S L=cnt S D+3:=fun S sv sa sb sc=>by
    rw [cnt_perm S hp,cnt_append]
    have e1:inn S x1=true:=by rcases h1 with h | h<;>(subst h;simp [inn,sv,sa])
    have e2:inn S x2=true:=by rcases h2 with h | h<;>(subst h;simp [inn,sv,sb])
    have e3:inn S x3=true:=by rcases h3 with h | h<;>(subst h;simp [inn,sv,sc])
    simp [cnt,e1,e2,e3]
  unfold Tight at t
  cases hr:R v with
  | true =>
    have k:=key R hr ra rb rc
    have:=hL R (by omega)
    omega
  | false =>
    have k:=key (fun u=>R u||u==v) (by simp) (by simp [ra]) (by simp [rb]) (by simp [rc])
    have m:=ig R (fun u=>R u||u==v) (fun u hu=>by simp [hu]) D
    have:=hL (fun u=>R u||u==v) (by omega)
    rw [Bl hr hv] at this
    omega
theorem hen_keep {N:Nat} {L E:List (Nat×Nat)} {v:Nat} (hL:∀ x∈L,GoodBar N x) (hE:∀ x∈E,GoodBar N x) (hs:Sparse N 2 3 E) (hf:Full N L) (h2:2≤L.length) (hv:tch L v=true)
    (hn:E.length+2=L.length) (hin:∀ x∈E,(tch L x.1=true∧x.1≠v)∧(tch L x.2=true∧x.2≠v)):Full N E∧(∀ u,u≠v→tch L u=true→tch E u=true)∧tch E v=false:=by
  obtain ⟨T,hTd⟩:∃ T:Nat→Bool,∀ u,T u=(tch L u&&u != v):=⟨fun u=>tch L u&&u != v,fun _=>rfl⟩
  have hc:=gH hv N
  rw [if_pos (tch_lt hL hv),card_cgr N (fun u _=>(hTd u).symm)] at hc
  unfold Full at hf
  have hT:∀ x∈E,T x.1=true∧T x.2=true:=fun x hx=>by
    obtain ⟨⟨a1,a2⟩,a3,a4⟩:=hin x hx
    rw [hTd,hTd]
    simp [a1,a2,a3,a4]
  have hk:∀ u,u≠v→tch L u=true→tch E u=true:=fun u hu ht=>by
    cases he:tch E u with
    | true=>rfl
    | false =>
      have hz:dgL u E=0:=by
        unfold tch at he
        rw [decide_eq_false_iff_not] at he
        omega
      have h1:=tJ (v:=u) hT
      have hc2:=gH (R:=T) (a:=u) (by rw [hTd];simp [ht,hu]) N
      rw [if_pos (tch_lt hL ht)] at hc2
      have h3:=hs (fun w=>T w&&w != u) (by omega)
      omega
  have hv0:tch E v=false:=by
    cases he:tch E v with
    | false=>rfl
    | true =>
      obtain ⟨x,hx,ht⟩:=tch_iff.1 he
      have:=hin x hx
      rcases tb_iff.1 ht with e | e
      · exact absurd e this.1.2
      · exact absurd e this.2.2
  refine ⟨?_,hk,hv0⟩
  unfold Full
  have:cardR (tch E) N=cardR T N:=card_cgr N (fun u hu=>by
    rw [hTd]
    by_cases e:u=v
    · subst e;simp [hv0]
    · cases ht:tch L u with
      | true=>rw [hk u e ht];simp [e]
      | false =>
        simp only [Bool.false_and]
        cases he:tch E u with
        | false=>rfl
        | true =>
          obtain ⟨x,hx,hb⟩:=tch_iff.1 he
          have:=hin x hx
          rcases tb_iff.1 hb with e' | e'
          · rw [e'] at this;rw [this.1.1] at ht;cases ht
          · rw [e'] at this;rw [this.2.1] at ht;cases ht)
  omega
end Go.Proofs.YtbdgmpfdlgnkkaaGreat.Mat
namespace Go.Proofs.YtbdgmpfdlgnkkaaGreat.Mach
open Go
set_option linter.unusedVariables false
set_option linter.unusedSimpArgs false
def oz (h:Nat→aa) (e i:Nat):aa:=if i<e then h i else h (i+1)
theorem Mh (g:Nat→aa) (nb N e:Nat) :
    zS Tryz.f102 [rg 3,rm [(1,oc [(0,aj nb g)] (.agg [jI N,.ar 2 0 0 nb]))] 2,rm [(1,oc [] (jB true)),(7,oc [] (jB true))] 2,.dec false,rg 12,rg 3] [bi g nb N,jI e] [896] [(0,aj (nb - 1) (oz g e))] (.tup [.agg [jI N,.ar 2 0 0 (nb - 1)],jB true]) =
    some (zD [(NT 0 1),zE 24 [(ak N nb g)] (bg nb g) (.agg [jI (N:Int),.ar 2 0 0 nb]),((true=true)→(AN 1)),zE 23 [(ak N nb g)] [] (jB true),(AG (!!true)),(((!!true)=true)→(NT 0 1)),(((!!true)=true)→(ax ((nb:Int) - 1))),(((!!true)=true)→(au ((nb:Int) - 1))),(((!!true)=true)→zE 58 [jI (e:Int),jI 0,jI ((nb:Int) - 1)] [] (jB true)),(((!true)=false)→((!!true)=true)),((bif !true then true else !true)=false),(IL 0 0),(IL 0 (e:Int)),(IL (e:Int) (nb:Int)),(ax ((e:Int)+1)),(au ((e:Int)+1)),(IL 0 ((e:Int)+1)),(IL ((e:Int)+1) (nb:Int)),(IL (nb:Int) (nb:Int)),(NL (nb - (e+1)+(e+1)) nb),(NL e nb),(NL ((e+(nb - (e+1)))*16) 140737488355328),(NL (e+(nb - (e+1))) 9223372036854775807),(AI ((N:Int))),(AN 0),(((e+(nb - (e+1))):Nat)=(nb - 1)),(true=true),(AN 2),(NL (nb - 1) (e+(nb - (e+1)))),(∀ i:Nat,(((i:Nat)<(nb - 1))→(af (ay false [(32,⟨true,2,1,(fun i_1=>[.p (.int .i64 (N:Int)),.ar 2 896 0 (e+(nb - (e+1)))])⟩),(160,⟨true,2,1,(fun i_1=>[.p (.int .i64 (N:Int)),.ar 2 896 0 (e+(nb - (e+1)))])⟩),(896,⟨false,2,(e+(nb - (e+1))),(fun i_1=>(if (i_1<e) then [.p (.int .i64 ((g i_1).1)),.p (.int .i64 ((g i_1).2.1))] else [.p (.int .i64 ((g (i_1 - e+(e+1))).1)),.p (.int .i64 ((g (i_1 - e+(e+1))).2.1))]))⟩),(0,⟨true,2,1,(fun i_1=>[.p (.int .i64 (N:Int)),.p (.seq true 2 nb (aH g))])⟩)] [896] 1 (if (i<e) then [.p (.int .i64 ((g i).1)),.p (.int .i64 ((g i).2.1))] else [.p (.int .i64 ((g (i - e+(e+1))).1)),.p (.int .i64 ((g (i - e+(e+1))).2.1))])).2∧(((ay false [(32,⟨true,2,1,(fun i_1=>[.p (.int .i64 (N:Int)),.ar 2 896 0 (e+(nb - (e+1)))])⟩),(160,⟨true,2,1,(fun i_1=>[.p (.int .i64 (N:Int)),.ar 2 896 0 (e+(nb - (e+1)))])⟩),(896,⟨false,2,(e+(nb - (e+1))),(fun i_1=>(if (i_1<e) then [.p (.int .i64 ((g i_1).1)),.p (.int .i64 ((g i_1).2.1))] else [.p (.int .i64 ((g (i_1 - e+(e+1))).1)),.p (.int .i64 ((g (i_1 - e+(e+1))).2.1))]))⟩),(0,⟨true,2,1,(fun i_1=>[.p (.int .i64 (N:Int)),.p (.seq true 2 nb (aH g))])⟩)] [896] 1 (if (i<e) then [.p (.int .i64 ((g i).1)),.p (.int .i64 ((g i).2.1))] else [.p (.int .i64 ((g (i - e+(e+1))).1)),.p (.int .i64 ((g (i - e+(e+1))).2.1))])).1:List AV)=[.p (.int .i64 ((oz g e i).1)),.p (.int .i64 ((oz g e i).2.1))])))),(AE ((nb - 1)))] [0,1,0,2,0,3,4,5,4,4,6,7,4,4,8,4,9,10,0,11,12,13,0,14,15,16,17,18,19,20,21,22,0,2,0,0,2,0,23,24,25,26,27,28,29,30]):=by kernel_rfl
theorem n7 {N nb:Nat} {g:Nat→aa} (hg:ah ((N:Int),(nb,g),())=true) (e:Nat) (he:e<nb) :
    zE 102 [bi g nb N,.p (.int .i64 e)] [(0,aj (nb - 1) (oz g e))] (.tup [.agg [.p (.int .i64 N),.ar 2 0 0 (nb - 1)],.p (.bool true)]):=by
  obtain ⟨h1,h2,h3⟩:=az hg
  have c1:=aQ ((N:Int),(nb,g),()) (da (by show nb≤_;omega))
  rw [hg] at c1
  have c2:=nM ((N:Int),(nb,g),()) (by show nb≤_;omega)
  have c3:=bp (e:Int) 0 ((nb:Int) - 1)
  rw [show bC (e:Int) 0 ((nb:Int) - 1)=true by simp [bC];omega] at c3
  refine aW Tryz.func102 (fun c hc=>?_)
  refine bB Tryz.func102 hc (Mh g nb N e) ?_
  and_intros
  all_goals (first | exact zH | (exact c2) | (exact c1) | (intros;exact c3) | (exact c3) | (intro t ht;rcases Nat.lt_or_ge t e with h1 | h1;(simp [h1,oz,ay,bh,tg,bu,af]);((try dsimp only);rw [if_neg (show ¬ t<e by omega)];rw [show t - e+(e+1)=t+1 by omega];simp [show ¬ t<e by omega,oz,ay,bh,tg,bu,af])))
def lj (b:aa) (p:Int):Bool:=bif b.1==p then true else b.2.1==p
def bm (g:Nat→aa) (p:Int):Nat→Int
  | 0=>0
  | k+1=>if lj (g k) p=true then bm g p k+1 else bm g p k
def uC (v:ai) (p:Int) (k:Nat):St :=
  ⟨[aJ v,.p (.int .i64 p),.pt 2 0 0 0,.p .any,.p .any,.p (.int .i64 (bm v.2.1.2 p k)),.p .any,.p .any,.p .any,cI v.2.1,.p (.int .i64 v.2.1.1),.p (.int .i64 k)]++List.replicate 10 ag,[(0,Cr v)],1⟩
theorem Mk (b:aa) (p:Int) :
    zS Tryz.f112 [rg 2,rg 11] [ld b,jI p] [] [] (jB (lj b p)) =
    some (zD [(NT 0 1),(AG (!b.1==p)),(((!b.1==p)=true)→(NT 0 1)),(((b.1==p)=false)→((!b.1==p)=true)),((bif b.1==p then true else b.2.1==p)=(lj b p))] [0,1,2,1,1,3,4]):=by kernel_rfl
theorem Hd (v:ai) (p:Int) :
    zT Tryz.f101 [rg 2,rg 1,rg 4,.head] [aJ v,jI p] [0] (uC v p 0) =
    some (s7,zD [(NT 0 1),(AI v.1),(AN v.2.1.1),(AP v.2.1.1 (aH v.2.1.2)),(AI p),(AN 0),((0:Int)=(bm v.2.1.2 p 0)),(AI ((v.2.1.1:Int))),((0:Int)=(↑0:Int)),((([AV.p (PV.int IntKind.i64 v.1),cI v.2.1].length):Nat)=2),(NL 1 1)] [0,1,2,3,4,5,6,2,3,7,8,9,10,10,1,2,3]):=by kernel_rfl
theorem Jk (v:ai) (p:Int) (k:Nat) :
    zM 0 [rg 1,.dec true,rg 4,rm [(2,oc [] (jB (lj (v.2.1.2 k) p)))] 0,.dec true,rg 3,rg 2,.head] s7 (uC v p k) [0] 1 (uC v p (k+1)) =
    some (s7,zD (let A:Bool:=lj (v.2.1.2 k) p;[((decide ((k:Int)<(v.2.1.1:Int)))=true),(IL 0 (k:Int)),(IT (k:Int) (v.2.1.1:Int)),(NT 0 1),((true=true)→(AN 1)),zE 112 [(ol v k),jI p] [] (jB (A)),(A=true),(ax (bm v.2.1.2 p k+1)),(au (bm v.2.1.2 p k+1)),(ax ((k:Int)+1)),(au ((k:Int)+1)),(AI v.1),(AN v.2.1.1),(AP v.2.1.1 (aH v.2.1.2)),(AI p),(AN 0),(((bm v.2.1.2 p k+1):Int)=(bm v.2.1.2 p (k+1))),(AI ((v.2.1.1:Int))),((((k:Int)+1):Int)=(↑(k+1):Int)),(AN 2),(NL 1 1)]) [0,1,2,3,4,3,5,6,7,8,9,10,11,12,13,14,15,16,12,13,17,18,19,20,20,11,12,13]):=by kernel_rfl
theorem IH (v:ai) (p:Int) (k:Nat) :
    zM 0 [rg 1,.dec true,rg 4,rm [(2,oc [] (jB (lj (v.2.1.2 k) p)))] 0,.dec false,rg 2,.head] s7 (uC v p k) [0] 1 (uC v p (k+1)) =
    some (s7,zD (let A:Bool:=lj (v.2.1.2 k) p;[((decide ((k:Int)<(v.2.1.1:Int)))=true),(IL 0 (k:Int)),(IT (k:Int) (v.2.1.1:Int)),(NT 0 1),((true=true)→(AN 1)),zE 112 [(ol v k),jI p] [] (jB (A)),(A=false),(ax ((k:Int)+1)),(au ((k:Int)+1)),(AI v.1),(AN v.2.1.1),(AP v.2.1.1 (aH v.2.1.2)),(AI p),(AN 0),(((bm v.2.1.2 p k):Int)=(bm v.2.1.2 p (k+1))),(AI ((v.2.1.1:Int))),((((k:Int)+1):Int)=(↑(k+1):Int)),(AN 2),(NL 1 1)]) [0,1,2,3,4,3,5,6,7,8,9,10,11,12,13,14,10,11,15,16,17,18,18,9,10,11]):=by kernel_rfl
theorem Hl (v:ai) (p:Int) (k:Nat) :
    zP Tryz.f101 0 [rg 1,.dec false,rg 2] s7 (uC v p k) [] 1 [] (jI (bm v.2.1.2 p k)) =
    some [((decide ((k:Int)<(v.2.1.1:Int)))=false),(AI ((bm v.2.1.2 p k)))]:=by kernel_rfl
theorem ro (b:aa) (p:Int):zE 112 [ld b,.p (.int .i64 p)] [] (.p (.bool (lj b p))):=by
  refine aW Tryz.func112 (fun c hc=>?_)
  refine bB Tryz.func112 hc (Mk b p) ?_
  and_intros
  all_goals (first | exact zH)
theorem qd (g:Nat→aa) (p:Int):∀ k:Nat,0≤bm g p k∧bm g p k≤k
  | 0=>⟨Int.le_refl _,Int.le_refl _⟩
  | k+1=>by
    have:=qd g p k
    unfold bm
    split<;>omega
theorem mO (v:ai) (p:Int) (hs:cQ a9 v):zE 101 [aJ v,.p (.int .i64 p)] [] (.p (.int .i64 (bm v.2.1.2 p v.2.1.1))):=by
  refine aW Tryz.func101 (fun c hc=>?_)
  have hn:v.2.1.1≤1048576:=hs.2.1.1
  have lp:∀ m k,k+m=v.2.1.1→zR c 101 s7 (uC v p k) (aT c [] (.p (.int .i64 (bm v.2.1.2 p v.2.1.1)))):=by
    intro m
    induction m with
    | zero =>
      intro k hk
      have e:v.2.1.1=k:=by omega
      have hd:decide ((k:Int)<(v.2.1.1:Int))=false:=by simp;omega
      rw [show bm v.2.1.2 p v.2.1.1=bm v.2.1.2 p k by rw [e]]
      refine be Tryz.func101 hc (Hl v p k) ?_
      and_intros
      all_goals (first | exact zN)
    | succ m ih =>
      intro k hk
      have hb:=qd v.2.1.2 p k
      have hd:decide ((k:Int)<(v.2.1.1:Int))=true:=by simp;omega
      cases he:lj (v.2.1.2 k) p with
      | true =>
        have hstep:bm v.2.1.2 p (k+1)=bm v.2.1.2 p k+1:=by rw [bm,if_pos he]
        refine a7 hc (Jk v p k) ?_ (ih (k+1) (by omega))
        and_intros
        all_goals (first | exact zI | (exact ro _ _) | (exact he) | (simp [af]))
      | false =>
        have hstep:bm v.2.1.2 p (k+1)=bm v.2.1.2 p k:=by rw [bm,he];rfl
        refine a7 hc (IH v p k) ?_ (ih (k+1) (by omega))
        and_intros
        all_goals (first | exact zI | (exact ro _ _) | (exact he) | (simp [af]))
  refine a7 hc (Hd v p) ?_ (lp v.2.1.1 0 (by omega))
  and_intros
  all_goals (first | exact zN | (simp [af]))
def Iz (x:aa):Ob:=⟨true,2,1,fun _=>[.p (.int .i64 x.1),.p (.int .i64 x.2.1)]⟩
def Fb (v:ai) (x:aa) (k:Nat):St :=
  ⟨[cI v.2.1,.agg [.p (.int .i64 x.1),.p (.int .i64 x.2.1)],.p .any,.pt 2 0 0 0,.p .any,.p .any,cI v.2.1,.p (.int .i64 v.2.1.1),.p (.int .i64 k)]++List.replicate 10 ag,[(0,Iz x)],1⟩
def mc (x y:aa):Bool:=(x.1==y.1)&&((x.2.1==y.2.1)&&true)
theorem MP (v:ai) (x:aa) :
    zT Tryz.f72 [rg 2,rg 3,.head] [cI v.2.1,.agg [jI x.1,jI x.2.1]] [0] (Fb v x 0) =
    some (xn,zD [(AN v.2.1.1),(AP v.2.1.1 (aH v.2.1.2)),(AI x.1),(AI x.2.1),(AN 0),(AI ((v.2.1.1:Int))),((0:Int)=(↑0:Int)),((([AV.p (PV.int IntKind.i64 x.1),AV.p (PV.int IntKind.i64 x.2.1)].length):Nat)=2),(NL 1 1)] [0,1,2,3,4,0,1,5,6,7,8,8,2,3]):=by kernel_rfl
theorem Me (v:ai) (x:aa) (k:Nat) :
    zM 0 [rg 1,.dec true,rg 2,rg 6,.dec false,rg 2,.head] xn (Fb v x k) [0] 1 (Fb v x (k+1)) =
    some (xn,zD [((decide ((k:Int)<(v.2.1.1:Int)))=true),(NT 0 1),(IL 0 (k:Int)),(IT (k:Int) (v.2.1.1:Int)),((x.1==(v.2.1.2 k).1&&(x.2.1==(v.2.1.2 k).2.1&&true))=false),(ax ((k:Int)+1)),(au ((k:Int)+1)),(AN v.2.1.1),(AP v.2.1.1 (aH v.2.1.2)),(AI x.1),(AI x.2.1),(AN 0),(AI ((v.2.1.1:Int))),((((k:Int)+1):Int)=(↑(k+1):Int)),(AN 2),(NL 1 1)] [0,1,2,3,4,5,6,7,8,9,10,11,7,8,12,13,14,15,15,9,10]):=by kernel_rfl
theorem J7 (v:ai) (x:aa) (k:Nat) :
    zP Tryz.f72 0 [rg 1,.dec true,rg 2,rg 6,.dec true,rg 2] xn (Fb v x k) [] 1 [] (jI k) =
    some [((decide ((k:Int)<(v.2.1.1:Int)))=true),(NT 0 1),(IL 0 (k:Int)),(IT (k:Int) (v.2.1.1:Int)),((x.1==(v.2.1.2 k).1&&(x.2.1==(v.2.1.2 k).2.1&&true))=true),(AI ((k:Int)))]:=by kernel_rfl
theorem Ns (v:ai) (x:aa) (k:Nat) :
    zP Tryz.f72 0 [rg 1,.dec false,rg 1] xn (Fb v x k) [] 1 [] (jI (-1)) =
    some [((decide ((k:Int)<(v.2.1.1:Int)))=false),(AI ((-1)))]:=by kernel_rfl
def kS (g:Nat→aa) (x:aa):Nat→Nat→Int
  | 0,_=>-1
  | d+1,i=>if mc x (g i)=true then (i:Int) else kS g x d (i+1)
theorem uL (g:Nat→aa) (x:aa):∀ d i,kS g x d i = -1∨((i:Int)≤kS g x d i∧kS g x d i<i+d∧mc x (g (kS g x d i).toNat)=true)
  | 0,_=>.inl rfl
  | d+1,i=>by
    simp only [kS]
    split
    · rename_i h;right;exact ⟨Int.le_refl _,by omega,by rw [Int.toNat_natCast];exact h⟩
    · rcases uL g x d (i+1) with h | ⟨h1,h2,h3⟩
      · exact .inl h
      · exact .inr ⟨by omega,by omega,h3⟩
theorem B9 {x y:aa} (h:mc x y=true):x=y:=by
  obtain ⟨a,b,⟨⟩⟩:=x
  obtain ⟨c,d,⟨⟩⟩:=y
  simp only [mc,Bool.and_eq_true,beq_iff_eq] at h
  rw [h.1,h.2.1]
theorem mu (v:ai) (x:aa) (hn:v.2.1.1≤1048576):zE 72 [cI v.2.1,.agg [.p (.int .i64 x.1),.p (.int .i64 x.2.1)]] [] (.p (.int .i64 (kS v.2.1.2 x v.2.1.1 0))):=by
  refine aW Tryz.func72 (fun c hc=>?_)
  have lo:∀ d k,k+d=v.2.1.1→zR c 72 xn (Fb v x k) (aT c [] (.p (.int .i64 (kS v.2.1.2 x d k)))):=by
    intro d
    induction d with
    | zero =>
      intro k hk
      have hd:decide ((k:Int)<(v.2.1.1:Int))=false:=decide_eq_false (by omega)
      refine be Tryz.func72 hc (Ns v x k) ?_
      and_intros
      all_goals (first | exact zN | (exact hd))
    | succ d ih =>
      intro k hk
      have hd:decide ((k:Int)<(v.2.1.1:Int))=true:=decide_eq_true (by omega)
      simp only [kS]
      by_cases h:mc x (v.2.1.2 k)=true
      · rw [if_pos h]
        refine be Tryz.func72 hc (J7 v x k) ?_
        and_intros
        all_goals (first | exact zN | (exact hd) | (exact h))
      · rw [if_neg h]
        have h':mc x (v.2.1.2 k)=false:=by simpa using h
        refine a7 hc (Me v x k) ?_ (ih (k+1) (by omega))
        and_intros
        all_goals (first | exact zN | (exact hd) | (exact h') | (intros;simp [af];done))
  refine a7 hc (MP v x) ?_ (lo v.2.1.1 0 (by omega))
  and_intros
  all_goals (first | exact zN | (intros;simp [af];done))
def lx (s:ap):AV:=.agg [.p (.int .i64 s.1),.p (.int .i64 s.2.1),.p (.int .i64 s.2.2.1),.p (.int .i64 s.2.2.2.1),.p (.int .i64 s.2.2.2.2.1)]
def BE (n:Nat) (h f:Nat→aa) (s:Nat):aa:=(if s<n then (h s).1 else (f (s - n)).1,if s<n then (h s).2.1 else (f (s - n)).2.1,())
theorem Fx (g:Nat→aa) (nb N:Nat) (s:ap) :
    zS Tryz.f70 [rg 4,rm [(1,oc [] (jB true))] 7,.dec true,rm [(1,oc [(0,aj nb g)] (.agg [jI N,.ar 2 0 0 nb]))] 2] [bi g nb N,lx s] [448] [(0,aj nb g)] ((jx N nb)) =
    some [(NT 0 1),zE 23 [(ak N nb g)] [] (jB true),(AG (!!true)),(((!!true)=true)→(NT 0 1)),(AG (!!true)),(AG (!!true)),(((!true)=false)→((!!true)=true)),((bif !true then true else decide ((nb:Int)>21))=true),(NT 0 1),zE 24 [(ak N nb g)] (bg nb g) (.agg [jI (N:Int),.ar 2 0 0 nb]),(NT 0 1),((true=true)→(AN 1)),(NT 0 1),(AI ((N:Int))),(AN 0),(AN nb),(false=false),(AN 2),(NL nb nb),(AA nb (fun i=>[.p (.int .i64 ((g i).1)),.p (.int .i64 ((g i).2.1))])),(AE nb)]:=by kernel_rfl
theorem Do (g:Nat→aa) (nb N:Nat) (s:ap) :
    zS Tryz.f70 [rg 4,rm [(1,oc [] (jB true))] 7,.dec false,rg 2,rg 2,.dec true,rm [(15,gF),(0,gF),(0,gF),(0,gF),(0,gF),(0,gF),(0,gF),(0,gF)] 0,.dec false,rm [(1,oc [(0,aj nb g)] (.agg [jI N,.ar 2 0 0 nb]))] 2] [bi g nb N,lx s] [1312] [(0,aj nb g)] ((jx N nb)) =
    some (zD (let B:Bool:=(nb:Int)==0;let A:Bool:=bif B then s.2.1==0 else false;[(NT 0 1),zE 23 [(ak N nb g)] [] (jB true),(AG (!!true)),(((!!true)=true)→(NT 0 1)),(((!true)=false)→((!!true)=true)),((bif !true then true else decide ((nb:Int)>21))=false),((s.1==0)=true),(AG B),((B=true)→(NT 0 1)),(AG A),((A=true)→(NT 0 1)),((bif A then s.2.2.2.2.1==0 else false)=false),(false=false),zE 24 [(ak N nb g)] (bg nb g) (.agg [jI (N:Int),.ar 2 0 0 nb]),((true=true)→(AN 1)),(AI ((N:Int))),(AN 0),(AN nb),(AN 2),(NL nb nb),(AA nb (fun i=>[.p (.int .i64 ((g i).1)),.p (.int .i64 ((g i).2.1))])),(AE nb)]) [0,1,2,3,2,2,4,5,0,6,0,7,8,7,7,9,10,9,9,11,11,11,11,11,11,11,11,12,0,13,0,14,0,15,16,17,12,18,19,20,21]):=by kernel_rfl
theorem DN (g:Nat→aa) (nb N:Nat) (s:ap) (d:Bool) :
    zS Tryz.f70 [rg 4,rm [(1,oc [] (jB true))] 7,.dec false,rg 2,rg 2,.dec true,rm [(15,gT),(0,gT),(0,gT),(0,gT),(0,gT),(0,gT),(0,⟨true,(some ⟨[],[],[],1,[],jB d⟩),some true⟩),(0,gT)] 0,.dec false,rm [(1,oc [(0,aj nb g)] (.agg [jI N,.ar 2 0 0 nb]))] 2] [bi g nb N,lx s] [1312] [(0,aj nb g)] ((jx N nb)) =
    some (zD (let B:Bool:=(nb:Int)==0;let A:Bool:=bif B then s.2.1==0 else false;[(NT 0 1),zE 23 [(ak N nb g)] [] (jB true),(AG (!!true)),(((!!true)=true)→(NT 0 1)),(((!true)=false)→((!!true)=true)),((bif !true then true else decide ((nb:Int)>21))=false),((s.1==0)=true),(AG B),((B=true)→(NT 0 1)),(AG A),((A=true)→(NT 0 1)),((bif A then s.2.2.2.2.1==0 else false)=true),(AN 1),(NL 2 2),zE 36 [(ak N nb g),.p (.seq true 1 2 (fun i=>[(bF true [(List.getD ([.p (.int .i64 s.2.2.1),.p (.int .i64 s.2.2.2.1)]:List AV) (bk 2 i*1) (.p .any))] 0)]))] [] (jB d),(d=false),zE 24 [(ak N nb g)] (bg nb g) (.agg [jI (N:Int),.ar 2 0 0 nb]),((true=true)→(AN 1)),(AI ((N:Int))),(AN 0),(AN nb),(false=false),(AN 2),(NL nb nb),(AA nb (fun i=>[.p (.int .i64 ((g i).1)),.p (.int .i64 ((g i).2.1))])),(AE nb)]) [0,1,2,3,2,2,4,5,0,6,0,7,8,7,7,9,10,9,9,11,0,11,11,0,11,11,0,11,11,12,13,14,11,15,0,16,0,17,0,18,19,20,21,22,23,24,25]):=by kernel_rfl
theorem ED (g:Nat→aa) (nb N:Nat) (s:ap) (d:Bool) (r:Nat→aa) :
    zS Tryz.f70 [rg 4,rm [(1,oc [] (jB true))] 7,.dec false,rg 2,rg 2,.dec true,rm [(5,gT),(0,gT),(0,gT),(0,gT),(1,gT),(0,gT),(0,gT),(0,gT),(1,gT),(0,gT),(0,gT),(0,gT),(0,gT),(0,gT),(0,⟨true,(some ⟨[],[],[],1,[],jB d⟩),some true⟩),(0,gT)] 0,.dec true,rm [(5,oc [] (.agg [jI ((aD s.2.2.1 s.2.2.2.1).1),jI ((aD s.2.2.1 s.2.2.2.1).2.1)])),(1,oc [(0,aj (nb+1) r)] (.agg [jI N,.ar 2 0 0 (nb+1)]))] 2] [bi g nb N,lx s] [1504] [(0,aj (nb+1) r)] (.tup [.agg [jI N,.ar 2 0 0 (nb+1)],jB true]) =
    some (zD [(NT 0 1),zE 23 [(ak N nb g)] [] (jB true),(AG (!!true)),(((!!true)=true)→(NT 0 1)),(((!true)=false)→((!!true)=true)),((bif !true then true else decide ((nb:Int)>21))=false),((s.1==0)=true),(((nb:Int)==0)=true),((s.2.1==0)=true),((s.2.2.2.2.1==0)=true),(AN 1),(NL 2 2),zE 36 [(ak N nb g),.p (.seq true 1 2 (fun i=>[(bF true [(List.getD ([.p (.int .i64 s.2.2.1),.p (.int .i64 s.2.2.2.1)]:List AV) (bk 2 i*1) (.p .any))] 0)]))] [] (jB d),(d=true),zE 96 [jI s.2.2.1,jI s.2.2.2.1] [] ((uq s)),(AN 2),(NL 1 1),zE 95 [(ak N nb g),.p (.seq true 2 1 (fun i=>[.int .i64 (if s.2.2.2.1<s.2.2.1 then s.2.2.2.1 else s.2.2.1),.int .i64 (if s.2.2.2.1>s.2.2.1 then s.2.2.2.1 else s.2.2.1)]))] (iT nb r) (.agg [jI (N:Int),.ar 2 0 0 (nb+1)]),((true=true)→(AN 1)),(AI ((N:Int))),(AN 0),(AN ((nb+1))),(true=true),(NL (nb+1) (nb+1)),(AA ((nb+1)) (fun i=>[.p (.int .i64 ((r i).1)),.p (.int .i64 ((r i).2.1))])),(AE ((nb+1)))] [0,1,2,3,2,2,4,5,0,6,0,7,7,0,7,7,8,8,0,8,8,9,0,9,9,0,9,9,0,9,9,10,11,12,9,13,0,0,0,14,15,16,17,0,18,0,19,20,21,22,15,23,24,25]):=by kernel_rfl
theorem Ex (g:Nat→aa) (nb N:Nat) (s:ap) :
    zS Tryz.f70 [rg 4,rm [(1,oc [] (jB true))] 7,.dec false,rg 2,rg 2,.dec false,rg 2,.dec true,rm [(4,gF),(0,gF),(0,gF),(0,gF),(0,gF),(0,gF),(0,gF),(0,gF),(0,gF),(0,gF),(1,gF),(0,gF),(0,gF),(0,gF),(0,gF),(0,gF),(1,gF),(0,gF),(0,gF),(0,gF),(0,gF),(0,gF),(1,gF),(0,gF),(0,gF),(0,gF),(0,gF),(0,gF)] 0,.dec false,rm [(1,oc [(0,aj nb g)] (.agg [jI N,.ar 2 0 0 nb]))] 2] [bi g nb N,lx s] [1760] [(0,aj nb g)] ((jx N nb)) =
    some (zD [(NT 0 1),zE 23 [(ak N nb g)] [] (jB true),(AG (!!true)),(((!!true)=true)→(NT 0 1)),(((!true)=false)→((!!true)=true)),((bif !true then true else decide ((nb:Int)>21))=false),((s.1==0)=false),((s.1==1)=true),((s.2.2.2.2.1==0)=false),(false=false),zE 24 [(ak N nb g)] (bg nb g) (.agg [jI (N:Int),.ar 2 0 0 nb]),((true=true)→(AN 1)),(AI ((N:Int))),(AN 0),(AN nb),(AN 2),(NL nb nb),(AA nb (fun i=>[.p (.int .i64 ((g i).1)),.p (.int .i64 ((g i).2.1))])),(AE nb)] [0,1,2,3,2,2,4,5,0,6,7,0,8,8,8,8,8,8,8,8,8,8,9,9,9,9,9,9,9,9,9,9,9,9,9,9,9,9,9,9,9,0,10,0,11,0,12,13,14,9,15,16,17,18]):=by kernel_rfl
theorem DB (g:Nat→aa) (nb N:Nat) (s:ap) (d:Bool) (x y z:Int) :
    zS Tryz.f70 [rg 4,rm [(1,oc [] (jB true))] 7,.dec false,rg 2,rg 2,.dec false,rg 2,.dec true,rm [(4,gT),(0,gT),(0,gT),(0,gT),(0,gT),(0,gT),(0,gT),(0,gT),(0,⟨true,(some ⟨[],[],[],1,[],jB d⟩),some true⟩),(0,gT),(4,oc [] (jI x)),(6,oc [] (jI y)),(6,oc [] (jI z))] 2,.dec false,rm [(1,oc [(0,aj nb g)] (.agg [jI N,.ar 2 0 0 nb]))] 2] [bi g nb N,lx s] [1760] [(0,aj nb g)] ((jx N nb)) =
    some (zD (let B:Bool:=bif d then x==0 else false;let A:Bool:=bif B then decide (y>0) else false;[(NT 0 1),zE 23 [(ak N nb g)] [] (jB true),(AG (!!true)),(((!!true)=true)→(NT 0 1)),(((!true)=false)→((!!true)=true)),((bif !true then true else decide ((nb:Int)>21))=false),((s.1==0)=false),((s.1==1)=true),((s.2.2.2.2.1==0)=true),(AN 1),(NL 3 3),zE 36 [(ak N nb g),.p (.seq true 1 3 (fun i=>[(bF true [(List.getD ([.p (.int .i64 s.2.1),.p (.int .i64 s.2.2.1),.p (.int .i64 s.2.2.2.1)]:List AV) (bk 3 i*1) (.p .any))] 0)]))] [] (jB d),((d=true)→(NT 0 1)),(AG d),((d=true)→zE 101 [(ak N nb g),jI s.2.1] [] (jI x)),((B=true)→(NT 0 1)),(AG B),((B=true)→zE 101 [(ak N nb g),jI s.2.2.1] [] (jI y)),((A=true)→(NT 0 1)),(AG A),((A=true)→zE 101 [(ak N nb g),jI s.2.2.2.1] [] (jI z)),((bif A then decide (z>0) else false)=false),zE 24 [(ak N nb g)] (bg nb g) (.agg [jI (N:Int),.ar 2 0 0 nb]),((true=true)→(AN 1)),(AI ((N:Int))),(AN 0),(AN nb),(false=false),(AN 2),(NL nb nb),(AA nb (fun i=>[.p (.int .i64 ((g i).1)),.p (.int .i64 ((g i).2.1))])),(AE nb)]) [0,1,2,3,2,2,4,5,0,6,7,0,8,0,8,8,0,8,8,0,8,8,0,8,8,9,10,11,8,12,13,12,13,13,14,13,13,15,16,15,16,16,17,16,16,18,19,18,19,19,20,19,19,21,0,22,0,23,0,24,25,26,27,28,29,30,31]):=by kernel_rfl
theorem Ds (g:Nat→aa) (nb N:Nat) (s:ap) (d:Bool) (x y z:Int) (r:Nat→aa) :
    zS Tryz.f70 [rg 4,rm [(1,oc [] (jB true))] 7,.dec false,rg 2,rg 2,.dec false,rg 2,.dec true,rm [(4,gT),(0,gT),(0,gT),(0,gT),(0,gT),(0,gT),(0,gT),(0,gT),(0,⟨true,(some ⟨[],[],[],1,[],jB d⟩),some true⟩),(0,gT),(1,gT),(0,gT),(0,gT),(0,⟨true,(some ⟨[],[],[],1,[],jI x⟩),some true⟩),(0,gT),(0,gT),(1,gT),(0,gT),(0,gT),(0,⟨true,(some ⟨[],[],[],1,[],jI y⟩),some true⟩),(0,gT),(0,gT),(1,gT),(0,gT),(0,gT),(0,⟨true,(some ⟨[],[],[],1,[],jI z⟩),some true⟩),(0,gT),(0,gT)] 0,.dec true,rm [(5,oc [] (.agg [jI ((aD s.2.1 s.2.2.1).1),jI ((aD s.2.1 s.2.2.1).2.1)])),(4,oc [] (.agg [jI ((aD s.2.1 s.2.2.2.1).1),jI ((aD s.2.1 s.2.2.2.1).2.1)])),(1,oc [(0,aj (nb+2) r)] (.agg [jI N,.ar 2 0 0 (nb+2)]))] 2] [bi g nb N,lx s] [2112] [(0,aj (nb+2) r)] (.tup [.agg [jI N,.ar 2 0 0 (nb+2)],jB true]) =
    some (zD [(NT 0 1),zE 23 [(ak N nb g)] [] (jB true),(AG (!!true)),(((!!true)=true)→(NT 0 1)),(((!true)=false)→((!!true)=true)),((bif !true then true else decide ((nb:Int)>21))=false),((s.1==0)=false),((s.1==1)=true),((s.2.2.2.2.1==0)=true),(AN 1),(NL 3 3),zE 36 [(ak N nb g),.p (.seq true 1 3 (fun i=>[(bF true [(List.getD ([.p (.int .i64 s.2.1),.p (.int .i64 s.2.2.1),.p (.int .i64 s.2.2.2.1)]:List AV) (bk 3 i*1) (.p .any))] 0)]))] [] (jB d),(d=true),zE 101 [(ak N nb g),jI s.2.1] [] (jI x),((x==0)=true),zE 101 [(ak N nb g),jI s.2.2.1] [] (jI y),((decide (y>0))=true),zE 101 [(ak N nb g),jI s.2.2.2.1] [] (jI z),((decide (z>0))=true),zE 96 [jI s.2.1,jI s.2.2.1] [] (.agg [jI (if s.2.2.1<s.2.1 then s.2.2.1 else s.2.1),jI (if s.2.2.1>s.2.1 then s.2.2.1 else s.2.1)]),zE 96 [jI s.2.1,jI s.2.2.2.1] [] (.agg [jI (if s.2.2.2.1<s.2.1 then s.2.2.2.1 else s.2.1),jI (if s.2.2.2.1>s.2.1 then s.2.2.2.1 else s.2.1)]),(AN 2),(NL 2 2),zE 95 [(ak N nb g),.p (.seq true 2 2 (fun i=>[(bF true [(List.getD ([.p (.int .i64 (if s.2.2.1<s.2.1 then s.2.2.1 else s.2.1)),.p (.int .i64 (if s.2.2.1>s.2.1 then s.2.2.1 else s.2.1)),.p (.int .i64 (if s.2.2.2.1<s.2.1 then s.2.2.2.1 else s.2.1)),.p (.int .i64 (if s.2.2.2.1>s.2.1 then s.2.2.2.1 else s.2.1))]:List AV) (bk 2 i*2) (.p .any)),(List.getD ([.p (.int .i64 (if s.2.2.1<s.2.1 then s.2.2.1 else s.2.1)),.p (.int .i64 (if s.2.2.1>s.2.1 then s.2.2.1 else s.2.1)),.p (.int .i64 (if s.2.2.2.1<s.2.1 then s.2.2.2.1 else s.2.1)),.p (.int .i64 (if s.2.2.2.1>s.2.1 then s.2.2.2.1 else s.2.1))]:List AV) (bk 2 i*2+1) (.p .any))] 0),(bF true [(List.getD ([.p (.int .i64 (if s.2.2.1<s.2.1 then s.2.2.1 else s.2.1)),.p (.int .i64 (if s.2.2.1>s.2.1 then s.2.2.1 else s.2.1)),.p (.int .i64 (if s.2.2.2.1<s.2.1 then s.2.2.2.1 else s.2.1)),.p (.int .i64 (if s.2.2.2.1>s.2.1 then s.2.2.2.1 else s.2.1))]:List AV) (bk 2 i*2) (.p .any)),(List.getD ([.p (.int .i64 (if s.2.2.1<s.2.1 then s.2.2.1 else s.2.1)),.p (.int .i64 (if s.2.2.1>s.2.1 then s.2.2.1 else s.2.1)),.p (.int .i64 (if s.2.2.2.1<s.2.1 then s.2.2.2.1 else s.2.1)),.p (.int .i64 (if s.2.2.2.1>s.2.1 then s.2.2.2.1 else s.2.1))]:List AV) (bk 2 i*2+1) (.p .any))] 1)]))] [(0,⟨false,2,(nb+2),(fun i=>[.p (.int .i64 ((r i).1)),.p (.int .i64 ((r i).2.1))])⟩)] (.agg [jI (N:Int),.ar 2 0 0 (nb+2)]),((true=true)→(AN 1)),(AI ((N:Int))),(AN 0),(AN ((nb+2))),(true=true),(NL (nb+2) (nb+2)),(AA ((nb+2)) (fun i=>[.p (.int .i64 ((r i).1)),.p (.int .i64 ((r i).2.1))])),(AE ((nb+2)))] [0,1,2,3,2,2,4,5,0,6,7,0,8,0,8,8,0,8,8,0,8,8,0,8,8,9,10,11,8,12,0,12,12,0,12,13,12,12,14,0,14,14,0,14,15,14,14,16,0,16,16,0,16,17,16,16,18,0,0,0,19,0,0,20,21,22,23,0,24,0,25,26,27,28,21,29,30,31]):=by kernel_rfl
theorem DS (g:Nat→aa) (nb N:Nat) (s:ap) (k:Int) :
    zS Tryz.f70 [rg 4,rm [(1,oc [] (jB true))] 7,.dec false,rg 2,rg 2,.dec false,rg 2,.dec false,rg 2,.dec true,rm [(6,oc [] (.agg [jI ((aD s.2.2.1 s.2.2.2.1).1),jI ((aD s.2.2.1 s.2.2.2.1).2.1)])),(0,oc [] (jI k))] 1,rm [(3,gF),(0,gF),(0,gF),(0,gF),(0,gF),(0,gF),(0,gF),(0,gF),(0,gF),(0,gF),(0,gF),(0,gF),(1,gF),(0,gF),(0,gF),(0,gF),(0,gF),(0,gF),(1,gF),(0,gF),(0,gF),(0,gF),(0,gF),(0,gF)] 0,.dec false,rm [(1,oc [(0,aj nb g)] (.agg [jI N,.ar 2 0 0 nb]))] 2] [bi g nb N,lx s] [1920] [(0,aj nb g)] ((jx N nb)) =
    some (zD [(NT 0 1),zE 23 [(ak N nb g)] [] (jB true),(AG (!!true)),(((!!true)=true)→(NT 0 1)),(((!true)=false)→((!!true)=true)),((bif !true then true else decide ((nb:Int)>21))=false),((s.1==0)=false),((s.1==1)=false),((s.1==2)=true),zE 96 [jI s.2.2.1,jI s.2.2.2.1] [] ((uq s)),zE 72 [.p (.seq true 2 nb (aH g)),(uq s)] [] (jI k),((decide (k≥0))=false),(false=false),zE 24 [(ak N nb g)] (bg nb g) (.agg [jI (N:Int),.ar 2 0 0 nb]),((true=true)→(AN 1)),(AI ((N:Int))),(AN 0),(AN nb),(AN 2),(NL nb nb),(AA nb (fun i=>[.p (.int .i64 ((g i).1)),.p (.int .i64 ((g i).2.1))])),(AE nb)] [0,1,2,3,2,2,4,5,0,6,7,8,0,0,0,9,10,11,11,11,11,11,11,11,11,11,11,11,11,12,12,12,12,12,12,12,12,12,12,12,12,12,0,13,0,14,0,15,16,17,12,18,19,20,21]):=by kernel_rfl
theorem EJ (g:Nat→aa) (nb N:Nat) (s:ap) (k:Int) (d:Bool) (x y:Int) :
    zS Tryz.f70 [rg 4,rm [(1,oc [] (jB true))] 7,.dec false,rg 2,rg 2,.dec false,rg 2,.dec false,rg 2,.dec true,rm [(6,oc [] (.agg [jI ((aD s.2.2.1 s.2.2.2.1).1),jI ((aD s.2.2.1 s.2.2.2.1).2.1)])),(0,oc [] (jI k))] 1,rm [(3,gT),(0,gT),(0,gT),(0,gT),(0,gT),(0,gT),(0,gT),(0,gT),(0,gT),(0,gT),(0,⟨true,(some ⟨[],[],[],1,[],jB d⟩),some true⟩),(0,gT),(4,oc [] (jI x)),(6,oc [] (jI y))] 2,.dec false,rm [(1,oc [(0,aj nb g)] (.agg [jI N,.ar 2 0 0 nb]))] 2] [bi g nb N,lx s] [1920] [(0,aj nb g)] ((jx N nb)) =
    some (zD (let A:Bool:=bif d then x==0 else false;[(NT 0 1),zE 23 [(ak N nb g)] [] (jB true),(AG (!!true)),(((!!true)=true)→(NT 0 1)),(((!true)=false)→((!!true)=true)),((bif !true then true else decide ((nb:Int)>21))=false),((s.1==0)=false),((s.1==1)=false),((s.1==2)=true),zE 96 [jI s.2.2.1,jI s.2.2.2.1] [] ((uq s)),zE 72 [.p (.seq true 2 nb (aH g)),(uq s)] [] (jI k),((decide (k≥0))=true),(AN 1),(NL 4 4),zE 36 [(ak N nb g),.p (.seq true 1 4 (fun i=>[(bF true [(List.getD ([.p (.int .i64 s.2.1),.p (.int .i64 s.2.2.1),.p (.int .i64 s.2.2.2.1),.p (.int .i64 s.2.2.2.2.1)]:List AV) (bk 4 i*1) (.p .any))] 0)]))] [] (jB d),((d=true)→(NT 0 1)),(AG d),((d=true)→zE 101 [(ak N nb g),jI s.2.1] [] (jI x)),((A=true)→(NT 0 1)),(AG A),((A=true)→zE 101 [(ak N nb g),jI s.2.2.2.2.1] [] (jI y)),((bif A then decide (y>0) else false)=false),zE 24 [(ak N nb g)] (bg nb g) (.agg [jI (N:Int),.ar 2 0 0 nb]),((true=true)→(AN 1)),(AI ((N:Int))),(AN 0),(AN nb),(false=false),(AN 2),(NL nb nb),(AA nb (fun i=>[.p (.int .i64 ((g i).1)),.p (.int .i64 ((g i).2.1))])),(AE nb)]) [0,1,2,3,2,2,4,5,0,6,7,8,0,0,0,9,10,11,0,11,11,0,11,11,0,11,11,0,11,11,0,11,11,12,13,14,11,15,16,15,16,16,17,16,16,18,19,18,19,19,20,19,19,21,0,22,0,23,0,24,25,26,27,28,29,30,31]):=by kernel_rfl
theorem Ee (g:Nat→aa) (nb N:Nat) (s:ap) (k:Int) (d:Bool) (x y:Int) (m:Nat) (h r:Nat→aa) :
    zS Tryz.f70 [rg 4,rm [(1,oc [] (jB true))] 7,.dec false,rg 2,rg 2,.dec false,rg 2,.dec false,rg 2,.dec true,rm [(6,oc [] (.agg [jI ((aD s.2.2.1 s.2.2.2.1).1),jI ((aD s.2.2.1 s.2.2.2.1).2.1)])),(0,oc [] (jI k))] 1,rm [(3,gT),(0,gT),(0,gT),(0,gT),(0,gT),(0,gT),(0,gT),(0,gT),(0,gT),(0,gT),(0,⟨true,(some ⟨[],[],[],1,[],jB d⟩),some true⟩),(0,gT),(1,gT),(0,gT),(0,gT),(0,⟨true,(some ⟨[],[],[],1,[],jI x⟩),some true⟩),(0,gT),(0,gT),(1,gT),(0,gT),(0,gT),(0,⟨true,(some ⟨[],[],[],1,[],jI y⟩),some true⟩),(0,gT),(0,gT)] 0,.dec true,rm [(2,oc [(0,aj m h)] (.tup [.agg [jI N,.ar 2 0 0 m],jB true]))] 6,rm [(5,oc [] (.agg [jI ((aD s.2.1 s.2.2.1).1),jI ((aD s.2.1 s.2.2.1).2.1)])),(4,oc [] (.agg [jI ((aD s.2.1 s.2.2.2.1).1),jI ((aD s.2.1 s.2.2.2.1).2.1)])),(4,oc [] (.agg [jI ((aD s.2.1 s.2.2.2.2.1).1),jI ((aD s.2.1 s.2.2.2.2.1).2.1)])),(1,oc [(0,aj (m+3) r)] (.agg [jI N,.ar 2 0 0 (m+3)]))] 2] [bi g nb N,lx s] [2720] [(0,aj (m+3) r)] (.tup [.agg [jI N,.ar 2 0 0 (m+3)],jB true]) =
    some (zD [(NT 0 1),zE 23 [(ak N nb g)] [] (jB true),(AG (!!true)),(((!!true)=true)→(NT 0 1)),(((!true)=false)→((!!true)=true)),((bif !true then true else decide ((nb:Int)>21))=false),((s.1==0)=false),((s.1==1)=false),((s.1==2)=true),zE 96 [jI s.2.2.1,jI s.2.2.2.1] [] ((uq s)),zE 72 [.p (.seq true 2 nb (aH g)),(uq s)] [] (jI k),((decide (k≥0))=true),(AN 1),(NL 4 4),zE 36 [(ak N nb g),.p (.seq true 1 4 (fun i=>[(bF true [(List.getD ([.p (.int .i64 s.2.1),.p (.int .i64 s.2.2.1),.p (.int .i64 s.2.2.2.1),.p (.int .i64 s.2.2.2.2.1)]:List AV) (bk 4 i*1) (.p .any))] 0)]))] [] (jB d),(d=true),zE 101 [(ak N nb g),jI s.2.1] [] (jI x),((x==0)=true),zE 101 [(ak N nb g),jI s.2.2.2.2.1] [] (jI y),((decide (y>0))=true),zE 102 [(ak N nb g),jI k] (bg m h) (.tup [.agg [jI (N:Int),.ar 2 0 0 m],jB true]),((true=true)→(AN 1)),zE 96 [jI s.2.1,jI s.2.2.1] [] (.agg [jI (if s.2.2.1<s.2.1 then s.2.2.1 else s.2.1),jI (if s.2.2.1>s.2.1 then s.2.2.1 else s.2.1)]),zE 96 [jI s.2.1,jI s.2.2.2.1] [] (.agg [jI (if s.2.2.2.1<s.2.1 then s.2.2.2.1 else s.2.1),jI (if s.2.2.2.1>s.2.1 then s.2.2.2.1 else s.2.1)]),zE 96 [jI s.2.1,jI s.2.2.2.2.1] [] (.agg [jI (if s.2.2.2.2.1<s.2.1 then s.2.2.2.2.1 else s.2.1),jI (if s.2.2.2.2.1>s.2.1 then s.2.2.2.2.1 else s.2.1)]),(AN 2),(NL m m),(NL 3 3),zE 95 [(ak N m h),.p (.seq true 2 3 (fun i=>[(bF true [(List.getD ([.p (.int .i64 (if s.2.2.1<s.2.1 then s.2.2.1 else s.2.1)),.p (.int .i64 (if s.2.2.1>s.2.1 then s.2.2.1 else s.2.1)),.p (.int .i64 (if s.2.2.2.1<s.2.1 then s.2.2.2.1 else s.2.1)),.p (.int .i64 (if s.2.2.2.1>s.2.1 then s.2.2.2.1 else s.2.1)),.p (.int .i64 (if s.2.2.2.2.1<s.2.1 then s.2.2.2.2.1 else s.2.1)),.p (.int .i64 (if s.2.2.2.2.1>s.2.1 then s.2.2.2.2.1 else s.2.1))]:List AV) (bk 3 i*2) (.p .any)),(List.getD ([.p (.int .i64 (if s.2.2.1<s.2.1 then s.2.2.1 else s.2.1)),.p (.int .i64 (if s.2.2.1>s.2.1 then s.2.2.1 else s.2.1)),.p (.int .i64 (if s.2.2.2.1<s.2.1 then s.2.2.2.1 else s.2.1)),.p (.int .i64 (if s.2.2.2.1>s.2.1 then s.2.2.2.1 else s.2.1)),.p (.int .i64 (if s.2.2.2.2.1<s.2.1 then s.2.2.2.2.1 else s.2.1)),.p (.int .i64 (if s.2.2.2.2.1>s.2.1 then s.2.2.2.2.1 else s.2.1))]:List AV) (bk 3 i*2+1) (.p .any))] 0),(bF true [(List.getD ([.p (.int .i64 (if s.2.2.1<s.2.1 then s.2.2.1 else s.2.1)),.p (.int .i64 (if s.2.2.1>s.2.1 then s.2.2.1 else s.2.1)),.p (.int .i64 (if s.2.2.2.1<s.2.1 then s.2.2.2.1 else s.2.1)),.p (.int .i64 (if s.2.2.2.1>s.2.1 then s.2.2.2.1 else s.2.1)),.p (.int .i64 (if s.2.2.2.2.1<s.2.1 then s.2.2.2.2.1 else s.2.1)),.p (.int .i64 (if s.2.2.2.2.1>s.2.1 then s.2.2.2.2.1 else s.2.1))]:List AV) (bk 3 i*2) (.p .any)),(List.getD ([.p (.int .i64 (if s.2.2.1<s.2.1 then s.2.2.1 else s.2.1)),.p (.int .i64 (if s.2.2.1>s.2.1 then s.2.2.1 else s.2.1)),.p (.int .i64 (if s.2.2.2.1<s.2.1 then s.2.2.2.1 else s.2.1)),.p (.int .i64 (if s.2.2.2.1>s.2.1 then s.2.2.2.1 else s.2.1)),.p (.int .i64 (if s.2.2.2.2.1<s.2.1 then s.2.2.2.2.1 else s.2.1)),.p (.int .i64 (if s.2.2.2.2.1>s.2.1 then s.2.2.2.2.1 else s.2.1))]:List AV) (bk 3 i*2+1) (.p .any))] 1)]))] [(0,⟨false,2,(m+3),(fun i=>[.p (.int .i64 ((r i).1)),.p (.int .i64 ((r i).2.1))])⟩)] (.agg [jI (N:Int),.ar 2 0 0 (m+3)]),(AI ((N:Int))),(AN 0),(AN ((m+3))),(true=true),(NL (m+3) (m+3)),(AA ((m+3)) (fun i=>[.p (.int .i64 ((r i).1)),.p (.int .i64 ((r i).2.1))])),(AE ((m+3)))] [0,1,2,3,2,2,4,5,0,6,7,8,0,0,0,9,10,11,0,11,11,0,11,11,0,11,11,0,11,11,0,11,11,12,13,14,11,15,0,15,15,0,15,16,15,15,17,0,17,17,0,17,18,17,17,19,0,20,0,21,0,0,0,22,0,0,23,0,0,24,25,26,25,27,28,0,21,0,29,30,31,32,25,33,34,35]):=by kernel_rfl
theorem GA (g:Nat→aa) (nb N:Nat) (s:ap) :
    zS Tryz.f70 [rg 4,rm [(1,oc [] (jB true))] 7,.dec false,rg 2,rg 2,.dec false,rg 2,.dec false,rg 2,.dec false,rm [(1,oc [(0,aj nb g)] (.agg [jI N,.ar 2 0 0 nb]))] 2] [bi g nb N,lx s] [704] [(0,aj nb g)] ((jx N nb)) =
    some [(NT 0 1),zE 23 [(ak N nb g)] [] (jB true),(AG (!!true)),(((!!true)=true)→(NT 0 1)),(AG (!!true)),(AG (!!true)),(((!true)=false)→((!!true)=true)),((bif !true then true else decide ((nb:Int)>21))=false),(NT 0 1),((s.1==0)=false),((s.1==1)=false),((s.1==2)=false),(NT 0 1),zE 24 [(ak N nb g)] (bg nb g) (.agg [jI (N:Int),.ar 2 0 0 nb]),(NT 0 1),((true=true)→(AN 1)),(NT 0 1),(AI ((N:Int))),(AN 0),(AN nb),(false=false),(AN 2),(NL nb nb),(AA nb (fun i=>[.p (.int .i64 ((g i).1)),.p (.int .i64 ((g i).2.1))])),(AE nb)]:=by kernel_rfl
theorem Nu (N n k:Nat) (h f:Nat→aa) :
    zT Tryz.f95 [rg 2,rm [(1,oc [(0,aj n h)] (.agg [jI N,.ar 2 0 0 n]))] 2,rg 6,.head] [bi h n N,.p (.seq true 2 k (fun i=>[.int .i64 (f i).1,.int .i64 (f i).2.1]))] [32,128,288] (Iy N (n+k) (BE n h f)) =
    some (Bt,zD [(NT 0 1),zE 24 [(ak N n h)] (bg n h) (.agg [jI (N:Int),.ar 2 0 0 n]),((true=true)→(AN 1)),(NL n n),(NL ((n+k)*16) 140737488355328),(NL (n+k) 9223372036854775807),(AN 0),((((List.map (fun v=>AV.p (bZ v)) [Value.int IntKind.i64 0,Value.slice none 0 0]).length):Nat)=2),(NL 1 1),(AI 0),(AI ((N:Int))),(AN ((n+k))),(AN 2),(NL (n+k) (n+k)),(CV [(128,⟨true,2,1,(fun i_1=>[.p (.int .i64 (N:Int)),.ar 2 288 0 (n+k)])⟩),(288,⟨false,2,(n+k),(fun i_1=>(if (i_1<n) then [.p (.int .i64 ((h i_1).1)),.p (.int .i64 ((h i_1).2.1))] else [.p (.int .i64 ((f (i_1 - n)).1)),.p (.int .i64 ((f (i_1 - n)).2.1))]))⟩),(32,⟨true,2,1,(fun i_1=>[.p (.int .i64 0),.p (.nil)])⟩),(0,⟨true,2,1,(fun i_1=>[.p (.int .i64 (N:Int)),.p (.seq true 2 n (aH h))])⟩)] [32,128,288] 1 (n+k) (fun i=>if (i<n) then [.p (.int .i64 ((h i).1)),.p (.int .i64 ((h i).2.1))] else [.p (.int .i64 ((f (i - n)).1)),.p (.int .i64 ((f (i - n)).2.1))]) (fun i=>[.p (.int .i64 (if i<n then (h i).1 else (f (i - n)).1)),.p (.int .i64 (if i<n then (h i).2.1 else (f (i - n)).2.1))]))] [0,1,0,2,0,3,4,5,0,2,6,6,7,8,8,9,7,8,8,10,6,11,12,13,14]):=by kernel_rfl
def iA (x:Int):AV:=.p (.int .i64 x)
def JG (n:Nat) (l:List Int):AV:=.p (.seq true 1 n (fun i=>[(bF true [(List.getD (l.map iA) (bk n i*1) (.p .any))] 0)]))
def lN (l:List Int):ad:=(l.length,fun i=>l.getD i 0)
theorem Cb (l:List Int) (n i:Nat) (h:bk n i*1<l.length) (hi:bk n i=i):bF true [(List.getD (l.map iA) (bk n i*1) (.p .any))] 0=.int .i64 (l.getD i 0):=by
  rw [Nat.mul_one] at h ⊢
  rw [hi] at h ⊢
  simp [List.getD_eq_getElem?_getD,List.getElem?_eq_getElem h,iA,bF,tg,bu]
theorem vd {P:Program} {f:FuncId} {v:ai} {l:List Int} {n:Nat} {res:AV} (h:Con P f 0 [] [aJ v,ew (lN l)] [] res) (hl:l.length=n):Con P f 0 [] [aJ v,JG n l] [] res:=by
  refine h.arg_ext ?_
  subst hl
  have hcell:∀ i,i<l.length→bF true [(List.getD (l.map iA) (bk l.length i*1) (.p .any))] 0=.int .i64 (l.getD i 0):=fun i hi=>Cb l _ i (by rw [fz hi];omega) (fz hi)
  simp only [aJ,JG,lN,ew,qq,wk,CN,beq_self_eq_true,Bool.and_self,if_true,lr,List.append_nil,List.cons_append,List.nil_append,af]
  and_intros<;>first | trivial | omega | (intro i hi;rw [hcell i hi]) | (intro i hi;rfl)
theorem w4 (N n k:Nat) (h f:Nat→aa) (hn:n≤1000) (hk:k≤1000) :
    zE 95 [bi h n N,.p (.seq true 2 k (fun i=>[.int .i64 (f i).1,.int .i64 (f i).2.1]))]
      [(0,aj (n+k) (df (n+k) (BE n h f)))] (.agg [.p (.int .i64 N),.ar 2 0 0 (n+k)]):=by
  have h1:=im N n h (by omega)
  have h2:=jn (n+k) (BE n h f) (by omega)
  generalize df (n+k) (BE n h f)=r at h2 ⊢
  refine aW Tryz.func95 (fun c hc=>?_)
  refine a7 hc (Nu N n k h f) ?_ (be Tryz.func95 hc (JP N (n+k) (BE n h f) r) ?_)
  ·
    and_intros
    all_goals (first | exact zI | (exact h1) | (intro j hj;by_cases h':j<n<;>(simp [h',BE,ay,bh,tg,bu,af];done)) | (intro j hj;simp [af];done) | (simp;try omega))
  ·
    and_intros
    all_goals (first | exact zH | (exact h2) | (intro j hj;simp [af];done) | (simp;try omega))
theorem r6 (n:Nat) (h f:Nat→aa):∀ k,al (n+k) (BE n h f)=al n h++al k f
  | 0=>by
    rw [show al 0 f=[] from rfl,List.append_nil]
    exact mW (fun i hi=>by simp [BE,show i<n by omega])
  | k+1=>by
    rw [show n+(k+1)=(n+k)+1 by omega,bI,r6 n h f k,bI,List.append_assoc]
    simp [BE,show ¬ (n+k<n) by omega,show n+k - n=k by omega]
def Es (l:List aa):List AV:=l.flatMap (fun x=>[.p (.int .i64 x.1),.p (.int .i64 x.2.1)])
def JN (k:Nat) (l:List AV):AV :=
  .p (.seq true 2 k (fun i=>[(bF true [(List.getD l (bk k i*2) (.p .any)),(List.getD l (bk k i*2+1) (.p .any))] 0),(bF true [(List.getD l (bk k i*2) (.p .any)),(List.getD l (bk k i*2+1) (.p .any))] 1)]))
theorem mD:∀ (l:List aa) (i:Nat),i<l.length→(Es l).getD (i*2) (.p .any)=.p (.int .i64 (l.getD i (0,0,())).1)∧(Es l).getD (i*2+1) (.p .any)=.p (.int .i64 (l.getD i (0,0,())).2.1)
  | [],i,h=>absurd h (Nat.not_lt_zero _)
  | x::l,0,_=>⟨rfl,rfl⟩
  | x::l,i+1,h=>by
    have:=mD l i (by simpa using h)
    rw [show (i+1)*2=i*2+2 by omega]
    exact this
def sN (l:List aa):NB:=(l.length,fun i=>l.getD i (0,0,()))
theorem kd (N n k:Nat) (h:Nat→aa) (l:List aa) (hl:l.length=k) (hn:n≤1000) (hk:k≤1000) :
    zE 95 [bi h n N,JN k (Es l)] [(0,aj (n+k) (sN (bz (al n h++l))).2)] (.agg [.p (.int .i64 N),.ar 2 0 0 (n+k)]):=by
  subst hl
  have hlst:al l.length (fun i=>l.getD i (0,0,()))=l:=by
    refine List.ext_getElem? (fun i=>?_)
    rcases Nat.lt_or_ge i l.length with hi | hi
    · simp [al,hi,List.getD_eq_getElem?_getD]
    · simp [al,hi]
  have e:(sN (bz (al n h++l))).2=df (n+l.length) (BE n h (fun i=>l.getD i (0,0,()))):=by
    funext i
    simp only [df,sN,r6,hlst]
  rw [e]
  refine (w4 N n l.length h (fun i=>l.getD i (0,0,())) hn hk).arg_ext ?_
  simp only [bi,JN,qq,wk,CN,beq_self_eq_true,Bool.and_self,if_true,lr,List.append_nil,List.cons_append,List.nil_append,af]
  and_intros<;>first | trivial | omega | (intro i hi;rfl) | (intro i hi;rw [fz hi,(mD l i hi).1,(mD l i hi).2];rfl)
theorem mA (l:List aa):al l.length (sN l).2=l:=by
  refine List.ext_getElem? (fun i=>?_)
  rcases Nat.lt_or_ge i l.length with hi | hi
  · simp [al,sN,hi,List.getD_eq_getElem?_getD]
  · simp [al,sN,hi]
theorem l6 {N nb n:Nat} {g R:Nat→aa} {l:List aa} (hN:1≤N∧N≤8) (hn:n≤24) (hR:al n R=bz l)
    (hx:∀ x∈l,0≤x.1∧x.1<x.2.1∧x.2.1<N):ah ((N:Int),(n,R),())=true:=by
  have hmem:∀ e,e<n→R e∈al n R:=fun e he=>List.mem_map.2 ⟨e,List.mem_range.2 he,rfl⟩
  refine ud hN hn (fun e he=>?_) (fun s hs=>?_)
  · have:=hmem e he
    rw [hR] at this
    exact hx _ ((fj l).mem_iff.1 this)
  · have hp:=kU l
    rw [← hR] at hp
    have:=List.pairwise_iff_getElem.1 hp s (s+1) (by rw [aC];omega) (by rw [aC];omega) (by omega)
    rw [lJ]
    simpa [al] using this
noncomputable def tD (N nb:Nat) (g:Nat→aa) (s:ap):Option (List aa) :=
  if s.1=0 then
    if ((nb:Int)=0∧s.2.1=0∧s.2.2.2.2.1=0)∧eu N (lN [s.2.2.1,s.2.2.2.1]).2 2=true then some (bz (al nb g++[aD s.2.2.1 s.2.2.2.1])) else none
  else if s.1=1 then
    if s.2.2.2.2.1=0∧eu N (lN [s.2.1,s.2.2.1,s.2.2.2.1]).2 3=true∧bm g s.2.1 nb=0∧bm g s.2.2.1 nb>0∧bm g s.2.2.2.1 nb>0 then
      some (bz (al nb g++[aD s.2.1 s.2.2.1,aD s.2.1 s.2.2.2.1])) else none
  else if s.1=2 then
    if kS g (aD s.2.2.1 s.2.2.2.1) nb 0≥0∧eu N (lN [s.2.1,s.2.2.1,s.2.2.2.1,s.2.2.2.2.1]).2 4=true∧bm g s.2.1 nb=0∧bm g s.2.2.2.2.1 nb>0 then
      some (bz (al (nb - 1) (oz g (kS g (aD s.2.2.1 s.2.2.2.1) nb 0).toNat)++[aD s.2.1 s.2.2.1,aD s.2.1 s.2.2.2.1,aD s.2.1 s.2.2.2.2.1])) else none
  else none
noncomputable def nP (N nb:Nat) (g:Nat→aa) (s:ap):NB×Bool :=
  if nb≤21 then (match tD N nb g s with | some l=>(sN l,true) | none=>((nb,g),false)) else ((nb,g),false)
def JY (N:Nat) (D:NB×Bool):AV:=.tup [.agg [.p (.int .i64 N),.ar 2 0 0 D.1.1],.p (.bool D.2)]
theorem rQ {N nb:Nat} {g:Nat→aa} (hg:ah ((N:Int),(nb,g),())=true) (s:ap) :
    zE 70 [bi g nb N,lx s] [(0,aj (nP N nb g s).1.1 (nP N nb g s).1.2)] (JY N (nP N nb g s)):=by
  obtain ⟨hN,hnb,hok⟩:=az hg
  have cg:=aQ ((N:Int),(nb,g),()) (da (by show nb≤_;omega))
  rw [hg] at cg
  have cc:=im N nb g (by omega)
  have hsm:cQ a9 ((N:Int),(nb,g),()):=da (by show nb≤_;omega)
  have cd:=fun p=>mO ((N:Int),(nb,g),()) p hsm
  have hdb:=fun p=>qd g p nb
  unfold nP
  by_cases h21:nb≤21
  case neg =>
    rw [if_neg h21]
    have hd:(bif !true then true else decide ((nb:Int)>21))=true:=by simp;omega
    refine aW Tryz.func70 (fun c hc=>?_)
    refine be Tryz.func70 hc (Fx g nb N s) ?_
    and_intros
    all_goals (first | exact zH | (exact cg) | (exact cc) | (exact hd) | (intro j hj;simp [af];done) | (simp;done))
  rw [if_pos h21]
  have hd:(bif !true then true else decide ((nb:Int)>21))=false:=by simp;omega
  unfold tD
  by_cases k0:s.1=0
  case pos =>
    have e0:(s.1==0)=true:=by simpa using k0
    rw [if_pos k0]
    have ck:=vd (bJ ((N:Int),(nb,g),()) (lN [s.2.2.1,s.2.2.2.1]) (by show (1:Int)≤N;omega) (by show (N:Int)≤8;omega) (by show 2≤_;omega)) (n:=2) rfl
    have cb:=dW s.2.2.1 s.2.2.2.1
    have cw:=kd N nb 1 g [aD s.2.2.1 s.2.2.2.1] rfl (by omega) (by omega)
    by_cases hp:(nb:Int)=0∧s.2.1=0∧s.2.2.2.2.1=0
    case neg =>
      have hpf:(bif bif (nb:Int)==0 then s.2.1==0 else false then s.2.2.2.2.1==0 else false)=false:=by
        cases a:((nb:Int)==0) with
        | false=>rfl
        | true =>
          cases b:(s.2.1==0) with
          | false=>rfl
          | true=>exact beq_eq_false_iff_ne.2 (fun c=>hp ⟨beq_iff_eq.1 a,beq_iff_eq.1 b,c⟩)
      rw [if_neg (fun h=>hp h.1)]
      refine aW Tryz.func70 (fun c hc=>?_)
      refine bB Tryz.func70 hc (Do g nb N s) ?_
      and_intros
      all_goals (first | exact zH | (exact cg) | (exact cc) | (exact hd) | (exact e0) | (exact hpf) | (intro h;exact h) | (intro j hj;simp [af];done) | (simp;done))
    have hpt:(bif bif (nb:Int)==0 then s.2.1==0 else false then s.2.2.2.2.1==0 else false)=true:=by
      rw [beq_iff_eq.2 hp.1,beq_iff_eq.2 hp.2.1,beq_iff_eq.2 hp.2.2];rfl
    have n0:((nb:Int)==0)=true:=beq_iff_eq.2 hp.1
    have p0:(s.2.1==0)=true:=beq_iff_eq.2 hp.2.1
    have c0:(s.2.2.2.2.1==0)=true:=beq_iff_eq.2 hp.2.2
    cases hok2:eu N (lN [s.2.2.1,s.2.2.2.1]).2 2 with
    | false =>
      rw [show eu ((N:Int),(nb,g),()).1 (lN [s.2.2.1,s.2.2.2.1]).2 (lN [s.2.2.1,s.2.2.2.1]).1=false from hok2] at ck
      rw [if_neg (fun h=>Bool.false_ne_true h.2)]
      refine aW Tryz.func70 (fun c hc=>?_)
      refine bB Tryz.func70 hc (DN g nb N s false) ?_
      and_intros
      all_goals (first | exact zH | (exact cg) | (exact cc) | (exact ck) | (exact hd) | (exact e0) | (exact hpt) | (intro h;exact h) | (intro j hj;simp [af];done) | (simp;done))
    | true =>
      rw [show eu ((N:Int),(nb,g),()).1 (lN [s.2.2.1,s.2.2.2.1]).2 (lN [s.2.2.1,s.2.2.2.1]).1=true from hok2] at ck
      rw [if_pos ⟨hp,rfl⟩]
      have hlen:(bz (al nb g++[aD s.2.2.1 s.2.2.2.1])).length=nb+1:=by rw [cq,List.length_append,aC];rfl
      show Con _ _ _ _ _ [(0,aj (bz (al nb g++[aD s.2.2.1 s.2.2.2.1])).length _)] (.tup [.agg [_,.ar 2 0 0 (bz (al nb g++[aD s.2.2.1 s.2.2.2.1])).length],_])
      rw [hlen]
      generalize (sN (bz (al nb g++[aD s.2.2.1 s.2.2.2.1]))).2=r at cw ⊢
      refine aW Tryz.func70 (fun c hc=>?_)
      refine bB Tryz.func70 hc (ED g nb N s true r) ?_
      and_intros
      all_goals (first | exact zH | (exact cg) | (exact ck) | (exact cb) | (exact cw) | (exact hd) | (exact e0) | (exact n0) | (exact p0) | (exact c0) | (intro j hj;simp [af];done) | (simp;done))
  have e0:(s.1==0)=false:=beq_eq_false_iff_ne.2 k0
  rw [if_neg k0]
  by_cases k1:s.1=1
  case pos =>
    have e1:(s.1==1)=true:=beq_iff_eq.2 k1
    rw [if_pos k1]
    have ck:=vd (bJ ((N:Int),(nb,g),()) (lN [s.2.1,s.2.2.1,s.2.2.2.1]) (by show (1:Int)≤N;omega) (by show (N:Int)≤8;omega) (by show 3≤_;omega)) (n:=3) rfl
    have cb1:=dW s.2.1 s.2.2.1
    have cb2:=dW s.2.1 s.2.2.2.1
    have cw:=kd N nb 2 g [aD s.2.1 s.2.2.1,aD s.2.1 s.2.2.2.1] rfl (by omega) (by omega)
    have cx:=cd s.2.1
    have cy:=cd s.2.2.1
    have cz:=cd s.2.2.2.1
    change Con _ _ _ _ _ _ (.p (.bool (eu N (lN [s.2.1,s.2.2.1,s.2.2.2.1]).2 3))) at ck
    change Con _ _ _ _ _ _ (.p (.int .i64 (bm g s.2.1 nb))) at cx
    change Con _ _ _ _ _ _ (.p (.int .i64 (bm g s.2.2.1 nb))) at cy
    change Con _ _ _ _ _ _ (.p (.int .i64 (bm g s.2.2.2.1 nb))) at cz
    generalize eu N (lN [s.2.1,s.2.2.1,s.2.2.2.1]).2 3=d at ck ⊢
    generalize bm g s.2.1 nb=x at cx ⊢
    generalize bm g s.2.2.1 nb=y at cy ⊢
    generalize bm g s.2.2.2.1 nb=z at cz ⊢
    cases c0:(s.2.2.2.2.1==0) with
    | false =>
      rw [if_neg (fun h=>Bool.false_ne_true (c0.symm.trans (beq_iff_eq.2 h.1)))]
      refine aW Tryz.func70 (fun c hc=>?_)
      refine bB Tryz.func70 hc (Ex g nb N s) ?_
      and_intros
      all_goals (first | exact zH | (exact cg) | (exact cc) | (exact hd) | (exact e0) | (exact e1) | (exact c0) | (intro h;exact h) | (intro j hj;simp [af];done) | (simp;done))
    | true =>
      by_cases hq:d=true∧x=0∧y>0∧z>0
      case neg =>
        rw [if_neg (fun h=>hq h.2)]
        have hqf:(bif bif bif d then x==0 else false then decide (y>0) else false then decide (z>0) else false)=false:=by
          cases a:d with
          | false=>rfl
          | true =>
            cases b:(x==0) with
            | false=>rfl
            | true =>
              by_cases y0:y>0
              · rw [decide_eq_true y0]
                exact decide_eq_false (fun z0=>hq ⟨a,beq_iff_eq.1 b,y0,z0⟩)
              · rw [decide_eq_false y0];rfl
        refine aW Tryz.func70 (fun c hc=>?_)
        refine bB Tryz.func70 hc (DB g nb N s d x y z) ?_
        and_intros
        all_goals (first | exact zH | (exact cg) | (exact cc) | (exact ck) | (intros;exact cx) | (intros;exact cy) | (intros;exact cz) | (exact hd) | (exact e0) | (exact e1) | (exact c0) | (exact hqf) | (intro h;exact h) | (intro j hj;simp [af];done) | (simp;done))
      case pos =>
        obtain ⟨rfl,rfl,y0,z0⟩:=hq
        rw [if_pos ⟨beq_iff_eq.1 c0,rfl,rfl,y0,z0⟩]
        have y1:decide (y>0)=true:=decide_eq_true y0
        have z1:decide (z>0)=true:=decide_eq_true z0
        have hlen:(bz (al nb g++[aD s.2.1 s.2.2.1,aD s.2.1 s.2.2.2.1])).length=nb+2:=by rw [cq,List.length_append,aC];rfl
        show Con _ _ _ _ _ [(0,aj (bz (al nb g++[aD s.2.1 s.2.2.1,aD s.2.1 s.2.2.2.1])).length _)] (.tup [.agg [_,.ar 2 0 0 (bz (al nb g++[aD s.2.1 s.2.2.1,aD s.2.1 s.2.2.2.1])).length],_])
        rw [hlen]
        generalize (sN (bz (al nb g++[aD s.2.1 s.2.2.1,aD s.2.1 s.2.2.2.1]))).2=r at cw ⊢
        refine aW Tryz.func70 (fun c hc=>?_)
        refine bB Tryz.func70 hc (Ds g nb N s true 0 y z r) ?_
        and_intros
        all_goals (first | exact zH | (exact cg) | (exact ck) | (exact cx) | (exact cy) | (exact cz) | (exact cb1) | (exact cb2) | (exact cw) | (exact hd) | (exact e0) | (exact e1) | (exact c0) | (exact y1) | (exact z1) | (intro j hj;simp [af];done) | (simp;done))
  have e1:(s.1==1)=false:=beq_eq_false_iff_ne.2 k1
  rw [if_neg k1]
  by_cases k2:s.1=2
  case neg =>
    have e2:(s.1==2)=false:=beq_eq_false_iff_ne.2 k2
    rw [if_neg k2]
    refine aW Tryz.func70 (fun c hc=>?_)
    refine be Tryz.func70 hc (GA g nb N s) ?_
    and_intros
    all_goals (first | exact zH | (exact cg) | (exact cc) | (exact hd) | (exact e0) | (exact e1) | (exact e2) | (intro j hj;simp [af];done) | (simp;done))
  have e2:(s.1==2)=true:=beq_iff_eq.2 k2
  rw [if_pos k2]
  have ck:=vd (bJ ((N:Int),(nb,g),()) (lN [s.2.1,s.2.2.1,s.2.2.2.1,s.2.2.2.2.1]) (by show (1:Int)≤N;omega) (by show (N:Int)≤8;omega) (by show 4≤_;omega)) (n:=4) rfl
  have cb0:=dW s.2.2.1 s.2.2.2.1
  have cb1:=dW s.2.1 s.2.2.1
  have cb2:=dW s.2.1 s.2.2.2.1
  have cb3:=dW s.2.1 s.2.2.2.2.1
  have ci:=mu ((N:Int),(nb,g),()) (aD s.2.2.1 s.2.2.2.1) (by show nb≤_;omega)
  have hin:=uL g (aD s.2.2.1 s.2.2.2.1) nb 0
  have cx:=cd s.2.1
  have cy:=cd s.2.2.2.2.1
  change Con _ _ _ _ _ _ (.p (.bool (eu N (lN [s.2.1,s.2.2.1,s.2.2.2.1,s.2.2.2.2.1]).2 4))) at ck
  change Con _ _ _ _ _ _ (.p (.int .i64 (bm g s.2.1 nb))) at cx
  change Con _ _ _ _ _ _ (.p (.int .i64 (bm g s.2.2.2.2.1 nb))) at cy
  change Con _ _ _ _ _ _ (.p (.int .i64 (kS g (aD s.2.2.1 s.2.2.2.1) nb 0))) at ci
  generalize eu N (lN [s.2.1,s.2.2.1,s.2.2.2.1,s.2.2.2.2.1]).2 4=d at ck ⊢
  generalize bm g s.2.1 nb=x at cx ⊢
  generalize bm g s.2.2.2.2.1 nb=y at cy ⊢
  generalize kS g (aD s.2.2.1 s.2.2.2.1) nb 0=k at ci hin ⊢
  by_cases hk:k≥0
  case neg =>
    have hkf:decide (k≥0)=false:=decide_eq_false hk
    rw [if_neg (fun h=>hk h.1)]
    refine aW Tryz.func70 (fun c hc=>?_)
    refine bB Tryz.func70 hc (DS g nb N s k) ?_
    and_intros
    all_goals (first | exact zH | (exact cg) | (exact cc) | (exact cb0) | (exact ci) | (exact hd) | (exact e0) | (exact e1) | (exact e2) | (exact hkf) | (intro h;exact h) | (intro j hj;simp [af];done) | (simp;done))
  have hkt:decide (k≥0)=true:=decide_eq_true hk
  obtain ⟨e,rfl⟩:=Int.eq_ofNat_of_zero_le hk
  have he:e<nb:=by
    rcases hin with h | ⟨h1,h2,h3⟩
    · exact absurd hk (by rw [h];decide)
    · omega
  by_cases hq:d=true∧x=0∧y>0
  case neg =>
    rw [if_neg (fun h=>hq h.2)]
    have hqf:(bif bif d then x==0 else false then decide (y>0) else false)=false:=by
      cases a:d with
      | false=>rfl
      | true =>
        cases b:(x==0) with
        | false=>rfl
        | true=>exact decide_eq_false (fun y0=>hq ⟨a,beq_iff_eq.1 b,y0⟩)
    refine aW Tryz.func70 (fun c hc=>?_)
    refine bB Tryz.func70 hc (EJ g nb N s (e:Int) d x y) ?_
    and_intros
    all_goals (first | exact zH | (exact cg) | (exact cc) | (exact cb0) | (exact ci) | (exact ck) | (intros;exact cx) | (intros;exact cy) | (exact hd) | (exact e0) | (exact e1) | (exact e2) | (exact hkt) | (exact hqf) | (intro h;exact h) | (intro j hj;simp [af];done) | (simp;done))
  obtain ⟨rfl,rfl,y0⟩:=hq
  have cr:=n7 hg e he
  have cw:=kd N (nb - 1) 3 (oz g e) [aD s.2.1 s.2.2.1,aD s.2.1 s.2.2.2.1,aD s.2.1 s.2.2.2.2.1] rfl (by omega) (by omega)
  rw [if_pos ⟨hk,rfl,rfl,y0⟩]
  have y1:decide (y>0)=true:=decide_eq_true y0
  rw [Int.toNat_natCast]
  have hlen:(bz (al (nb - 1) (oz g e)++[aD s.2.1 s.2.2.1,aD s.2.1 s.2.2.2.1,aD s.2.1 s.2.2.2.2.1])).length=(nb - 1)+3:=by rw [cq,List.length_append,aC];rfl
  show Con _ _ _ _ _ [(0,aj (bz (al (nb - 1) (oz g e)++[aD s.2.1 s.2.2.1,aD s.2.1 s.2.2.2.1,aD s.2.1 s.2.2.2.2.1])).length _)] (.tup [.agg [_,.ar 2 0 0 (bz (al (nb - 1) (oz g e)++[aD s.2.1 s.2.2.1,aD s.2.1 s.2.2.2.1,aD s.2.1 s.2.2.2.2.1])).length],_])
  rw [hlen]
  generalize (sN (bz (al (nb - 1) (oz g e)++[aD s.2.1 s.2.2.1,aD s.2.1 s.2.2.2.1,aD s.2.1 s.2.2.2.2.1]))).2=r at cw ⊢
  refine aW Tryz.func70 (fun c hc=>?_)
  refine bB Tryz.func70 hc (Ee g nb N s (e:Int) true 0 y (nb - 1) (oz g e) r) ?_
  and_intros
  all_goals (first | exact zH | (exact cg) | (exact cb0) | (exact ci) | (exact ck) | (exact cx) | (exact cy) | (exact cr) | (exact cb1) | (exact cb2) | (exact cb3) | (exact cw) | (exact hd) | (exact e0) | (exact e1) | (exact e2) | (exact hkt) | (exact y1) | (intro j hj;simp [af];done) | (simp;done))
def BV (n:Nat) (S:Nat→ap):AV:=.p (.seq true 5 n (fun i=>[.int .i64 (S i).1,.int .i64 (S i).2.1,.int .i64 (S i).2.2.1,.int .i64 (S i).2.2.2.1,.int .i64 (S i).2.2.2.2.1]))
def If (N:Nat) (k nb:Nat):Ob:=⟨true,2,1,fun _=>[.p (.int .i64 N),.ar 2 k 0 nb]⟩
def Fg (n:Nat) (S:Nat→ap) (N nb:Nat) (g:Nat→aa) (i:Nat):St :=
  ⟨[.p .any,.p .any,.p .any,.p .any,.pt 2 0 0 0,.p .any,.pt 2 1 0 0]++List.replicate 10 ag++[BV n S,.p (.int .i64 n),.p (.int .i64 i)]++List.replicate 15 ag,[(0,z2),(1,If N 2 nb),(2,aj nb g)],3⟩
theorem I2 (M:Int) (n:Nat) (S:Nat→ap) :
    zS Tryz.f30 [rg 2,rm [(1,oc [] (jB false))] 1,.dec true,rg 3] [jI M,BV n S] [] [] (v9) =
    some [zE 58 [jI M,jI 1,jI 8] [] (jB false),((!false)=true),(NT 0 1),((true=true)→(AN 1)),(NT 0 1),(AI 0),(AN 0),(false=false)]:=by kernel_rfl
theorem Hr (N n:Nat) (S:Nat→ap) (g:Nat→aa) :
    zT Tryz.f30 [rg 2,rm [(1,oc [] (jB true))] 1,.dec false,rg 4,rg 3,.head] [jI N,BV n S] [0,224] (Fg n S N 0 g 0) =
    some (xK,zD [zE 58 [jI (N:Int),jI 1,jI 8] [] (jB true),((!true)=false),(NT 0 1),((true=true)→(AN 1)),(AN 0),(AN n),(AP n (fun i=>[.int .i64 ((S i).1),.int .i64 ((S i).2.1),.int .i64 ((S i).2.2.1),.int .i64 ((S i).2.2.2.1),.int .i64 ((S i).2.2.2.2.1)])),(AI ((n:Int))),((0:Int)=(↑0:Int)),((((List.map (fun v=>AV.p (bZ v)) [Value.int IntKind.i64 0,Value.slice none 0 0]).length):Nat)=2),(NL 1 1),(AI 0),(AI ((N:Int)))] [0,1,2,3,4,4,5,6,7,8,9,10,10,11,9,10,10,12,4,4]):=by kernel_rfl
theorem Ij (n:Nat) (S:Nat→ap) (N nb:Nat) (g:Nat→aa) (i m:Nat) (h:Nat→aa) :
    zP Tryz.f30 0 [rg 1,.dec true,rg 4,rm [(2,oc [(0,aj m h)] (jx N m))] 6,rg 2,.dec true,rg 3] xK (Fg n S N nb g i) [] 1 [] (v9) =
    some (zD [((decide ((i:Int)<(n:Int)))=true),(IL 0 (i:Int)),(IT (i:Int) (n:Int)),(NT 0 1),((true=true)→(AN 1)),(AN 2),(NL nb nb),zE 70 [(AY N nb g),(GD S i)] [(0,⟨false,2,m,(fun i_1=>[.p (.int .i64 ((h i_1).1)),.p (.int .i64 ((h i_1).2.1))])⟩)] (.tup [.agg [jI (N:Int),.ar 2 0 0 m],jB false]),((!false)=true),(AI 0),(AN 0),(false=false)] [0,1,2,3,4,3,3,5,6,7,3,4,8,3,4,3,9,10,11]):=by kernel_rfl
theorem IY (n:Nat) (S:Nat→ap) (N nb:Nat) (g:Nat→aa) (i m:Nat) (h:Nat→aa) :
    zM 0 [rg 1,.dec true,rg 4,rm [(2,oc [(0,aj m h)] (.tup [.agg [jI N,.ar 2 0 0 m],jB true]))] 6,rg 2,.dec false,rg 2,rg 2,.head] xK (Fg n S N nb g i) [0,1,227] 1 (Fg n S N m h (i+1)) =
    some (xK,zD [((decide ((i:Int)<(n:Int)))=true),(IL 0 (i:Int)),(IT (i:Int) (n:Int)),(NT 0 1),((true=true)→(AN 1)),(AN 2),(NL nb nb),zE 70 [(AY N nb g),(GD S i)] [(0,⟨false,2,m,(fun i_1=>[.p (.int .i64 ((h i_1).1)),.p (.int .i64 ((h i_1).2.1))])⟩)] (.tup [.agg [jI (N:Int),.ar 2 0 0 m],jB true]),((!true)=false),(ax ((i:Int)+1)),(au ((i:Int)+1)),(AN 0),(AN n),(AP n (fun i_1=>[.int .i64 ((S i_1).1),.int .i64 ((S i_1).2.1),.int .i64 ((S i_1).2.2.1),.int .i64 ((S i_1).2.2.2.1),.int .i64 ((S i_1).2.2.2.2.1)])),(AI ((n:Int))),((((i:Int)+1):Int)=(↑(i+1):Int)),(NL 1 1),(AI 0),(AI ((N:Int))),(AN m),(NL m m),(AA m (fun i_1=>[.p (.int .i64 ((h i_1).1)),.p (.int .i64 ((h i_1).2.1))]))] [0,1,2,3,4,3,3,5,6,7,3,4,8,3,3,4,9,10,11,11,12,13,14,15,5,16,16,17,5,16,16,18,11,19,5,20,21]):=by kernel_rfl
theorem HP (n:Nat) (S:Nat→ap) (N nb:Nat) (g:Nat→aa) (i:Nat) :
    zP Tryz.f30 0 [rg 1,.dec false,rg 3] xK (Fg n S N nb g i) [2] 1 [(0,aj nb g)] (.tup [.agg [jI N,.ar 2 0 0 nb],jB true]) =
    some [((decide ((i:Int)<(n:Int)))=false),(NT 0 1),(NT 0 1),((true=true)→(AN 1)),(NT 0 1),(AI ((N:Int))),(AN 0),(AN nb),(true=true),(AN 2),(NL nb nb),(AA nb (fun i_1=>[.p (.int .i64 ((g i_1).1)),.p (.int .i64 ((g i_1).2.1))])),(AE nb)]:=by kernel_rfl
theorem gQ {n:Nat} {h:Nat→aa} {x:aa} (hx:x∈al n h):∃ i,i<n∧h i=x:=by
  obtain ⟨i,hi,e⟩:=List.mem_map.1 hx
  exact ⟨i,List.mem_range.1 hi,e⟩
theorem hU {a b N:Int} (ha:0≤a∧a<N) (hb:0≤b∧b<N) (hne:a≠b):0≤(aD a b).1∧(aD a b).1<(aD a b).2.1∧(aD a b).2.1<N:=by
  unfold aD
  by_cases h:b<a
  · simp only [if_pos h,if_neg (show ¬ b>a by omega)];omega
  · simp only [if_neg h,if_pos (show b>a by omega)];omega
theorem kb {N:Nat} {l:List aa} (hN:1≤N∧N≤8) (hl:l.length≤24) (hx:∀ x∈l,0≤x.1∧x.1<x.2.1∧x.2.1<N):ah ((N:Int),sN (bz l),())=true :=
  l6 (nb:=0) (g:=fun _=>(0,0,())) hN (by rw [cq];exact hl) (mA (bz l)) hx
theorem zt {N nb:Nat} {g:Nat→aa} (hg:ah ((N:Int),(nb,g),())=true) (s:ap) (h:(nP N nb g s).2=true):ah ((N:Int),(nP N nb g s).1,())=true:=by
  obtain ⟨hN,hnb,hok⟩:=az hg
  unfold nP at h ⊢
  by_cases h21:nb≤21
  case neg=>rw [if_neg h21] at h;cases h
  rw [if_pos h21] at h ⊢
  cases hl:tD N nb g s with
  | none=>rw [hl] at h;cases h
  | some l =>
    show ah ((N:Int),sN l,())=true
    have hold:∀ x∈al nb g,0≤x.1∧x.1<x.2.1∧x.2.1<(N:Int):=by
      intro x hx
      obtain ⟨i,hi,rfl⟩:=gQ hx
      exact hok i hi
    unfold tD at hl
    split at hl
    · split at hl
      · rename_i hc
        obtain rfl:=Option.some.inj hl
        have d0:=eP hc.2 0 (by omega)
        have d1:=eP hc.2 1 (by omega)
        refine kb hN (by rw [List.length_append,aC];show nb+1≤_;omega) (fun x hx=>?_)
        rcases List.mem_append.1 hx with hx | hx
        · exact hold x hx
        · simp only [List.mem_cons,List.not_mem_nil,or_false] at hx
          subst hx
          exact hU ⟨d0.1,d0.2.1⟩ ⟨d1.1,d1.2.1⟩ (d1.2.2 0 (by omega))
      · cases hl
    · split at hl
      · split at hl
        · rename_i hc
          obtain rfl:=Option.some.inj hl
          have d0:=eP hc.2.1 0 (by omega)
          have d1:=eP hc.2.1 1 (by omega)
          have d2:=eP hc.2.1 2 (by omega)
          refine kb hN (by rw [List.length_append,aC];show nb+2≤_;omega) (fun x hx=>?_)
          rcases List.mem_append.1 hx with hx | hx
          · exact hold x hx
          · simp only [List.mem_cons,List.not_mem_nil,or_false] at hx
            rcases hx with rfl | rfl
            · exact hU ⟨d0.1,d0.2.1⟩ ⟨d1.1,d1.2.1⟩ (d1.2.2 0 (by omega))
            · exact hU ⟨d0.1,d0.2.1⟩ ⟨d2.1,d2.2.1⟩ (d2.2.2 0 (by omega))
        · cases hl
      · split at hl
        · split at hl
          · rename_i hc
            obtain rfl:=Option.some.inj hl
            have d0:=eP hc.2.1 0 (by omega)
            have d1:=eP hc.2.1 1 (by omega)
            have d2:=eP hc.2.1 2 (by omega)
            have d3:=eP hc.2.1 3 (by omega)
            refine kb hN (by rw [List.length_append,aC];show nb - 1+3≤_;omega) (fun x hx=>?_)
            rcases List.mem_append.1 hx with hx | hx
            · obtain ⟨i,hi,rfl⟩:=gQ hx
              unfold oz
              split
              · exact hok i (by omega)
              · exact hok (i+1) (by omega)
            · simp only [List.mem_cons,List.not_mem_nil,or_false] at hx
              rcases hx with rfl | rfl | rfl
              · exact hU ⟨d0.1,d0.2.1⟩ ⟨d1.1,d1.2.1⟩ (d1.2.2 0 (by omega))
              · exact hU ⟨d0.1,d0.2.1⟩ ⟨d2.1,d2.2.1⟩ (d2.2.2 0 (by omega))
              · exact hU ⟨d0.1,d0.2.1⟩ ⟨d3.1,d3.2.1⟩ (d3.2.2 0 (by omega))
          · cases hl
        · cases hl
noncomputable def uF (N:Nat) (S:Nat→ap):Nat→Nat→NB→Option NB
  | 0,_,D=>some D
  | d+1,i,D=>if (nP N D.1 D.2 (S i)).2=true then uF N S d (i+1) (nP N D.1 D.2 (S i)).1 else none
def JL:Option NB→Hp
  | some D=>[(0,aj D.1 D.2)]
  | none=>[]
def JF (N:Nat):Option NB→AV
  | some D=>.tup [.agg [.p (.int .i64 N),.ar 2 0 0 D.1],.p (.bool true)]
  | none=>.tup [.agg [.p (.int .i64 0),.ar 2 0 0 0],.p (.bool false)]
noncomputable def yD (M:Int) (n:Nat) (S:Nat→ap):Option NB:=if bC M 1 8=true then uF M.toNat S n 0 (0,fun _=>(0,0,())) else none
theorem q6 {N:Nat} (hN:1≤N∧N≤8):ah ((N:Int),((0:Nat),(fun _=>(0,0,()):Nat→aa)),())=true :=
  ud hN (by omega) (fun e he=>absurd he (Nat.not_lt_zero _)) (fun s hs=>absurd hs (by omega))
theorem A4 {N:Nat} {S:Nat→ap}:∀ d i (D R:NB),ah ((N:Int),D,())=true→uF N S d i D=some R→ah ((N:Int),R,())=true
  | 0,_,D,R,hD,h=>by rw [← Option.some.inj h];exact hD
  | d+1,i,D,R,hD,h=>by
    rw [uF] at h
    split at h
    · rename_i hk
      exact A4 d (i+1) _ R (zt hD (S i) hk) h
    · cases h
theorem qT (M:Int) (n:Nat) (S:Nat→ap) (hn:n≤1048576) :
    zE 30 [.p (.int .i64 M),BV n S] (JL (yD M n S)) (JF M.toNat (yD M n S)):=by
  have cw:=bp M 1 8
  unfold yD
  cases hb:bC M 1 8 with
  | false =>
    rw [hb] at cw
    rw [if_neg Bool.false_ne_true]
    refine aW Tryz.func30 (fun c hc=>?_)
    refine be Tryz.func30 hc (I2 M n S) ?_
    and_intros
    all_goals (first | exact zI | (exact cw) | (simp;done))
  | true =>
    rw [hb] at cw
    rw [if_pos rfl]
    simp only [bC,Bool.and_eq_true,decide_eq_true_eq] at hb
    obtain ⟨N,rfl⟩:=Int.eq_ofNat_of_zero_le (show 0≤M by omega)
    have hN:1≤N∧N≤8:=by omega
    rw [Int.toNat_natCast]
    generalize hR:uF N S n 0 (0,fun _=>(0,0,()))=R
    refine aW Tryz.func30 (fun c hc=>?_)
    have lo:∀ d i (D:NB),i+d=n→ah ((N:Int),D,())=true→uF N S d i D=R→zR c 30 xK (Fg n S N D.1 D.2 i) (aT c (JL R) (JF N R)):=by
      intro d
      induction d with
      | zero =>
        intro i D hi hD hL
        obtain rfl:i=n:=by omega
        have hd:decide ((i:Int)<(i:Int))=false:=by simp
        rw [← hL]
        refine be Tryz.func30 hc (HP i S N D.1 D.2 i) ?_
        and_intros
        all_goals (first | exact zI | (exact hd) | (intro j hj;simp [af];done) | (simp;done))
      | succ d ih =>
        intro i D hi hD hL
        have hd:decide ((i:Int)<(n:Int))=true:=decide_eq_true (by omega)
        have ca:=rQ (N:=N) (nb:=D.1) (g:=D.2) hD (S i)
        rw [uF] at hL
        unfold JY at ca
        cases hk:(nP N D.1 D.2 (S i)).2 with
        | false =>
          rw [hk] at ca
          rw [hk,if_neg Bool.false_ne_true] at hL
          rw [← hL]
          generalize (nP N D.1 D.2 (S i)).1=E at ca
          refine bB Tryz.func30 hc (Ij n S N D.1 D.2 i E.1 E.2) ?_
          and_intros
          all_goals (first | exact zI | (exact hd) | (exact ca) | (intro j hj;simp [af];done) | (simp;done))
        | true =>
          have hE:=zt (N:=N) (nb:=D.1) (g:=D.2) hD (S i) hk
          rw [hk] at ca
          rw [hk,if_pos rfl] at hL
          generalize (nP N D.1 D.2 (S i)).1=E at ca hL hE
          refine a7 hc (IY n S N D.1 D.2 i E.1 E.2) ?_ (ih (i+1) E (by omega) hE hL)
          and_intros
          all_goals (first | exact zI | (exact hd) | (exact ca) | (intro j hj;simp [af];done) | (simp;done))
    refine a7 hc (Hr N n S (fun _=>(0,0,()))) ?_ (lo n 0 (0,fun _=>(0,0,())) (by omega) (q6 hN) hR)
    and_intros
    all_goals (first | exact zI | (exact cw) | (intro j hj;exact absurd hj (Nat.not_lt_zero _)) | (intro j hj;simp [af];done) | (simp;done))
def uV (N:Nat) (l:List aa):Prop:=∀ x∈l,0≤x.1∧x.1<x.2.1∧x.2.1<N
theorem rr {N nb:Nat} {g:Nat→aa} (h:aO N nb g):uV N (al nb g):=fun x hx=>by
  obtain ⟨i,hi,rfl⟩:=gQ hx
  exact h i hi
theorem eQ (g:Nat→aa):∀ n,bL g n=(al n g).map bA
  | 0=>rfl
  | n+1=>by rw [bL,eQ g n,bI,List.map_append];rfl
theorem ez {N:Nat} {l:List aa} (h:uV N l):∀ x∈l.map bA,Mat.GoodBar N x:=fun x hx=>by
  obtain ⟨y,hy,rfl⟩:=List.mem_map.1 hx
  have:=h y hy
  unfold Mat.GoodBar bA
  simp only
  omega
theorem mh {N:Nat} {x:aa} (h:0≤x.1∧x.1<x.2.1∧x.2.1<N) (v:Nat):Mat.tb v (bA x)=bc x v:=by
  cases hv:bc x v with
  | true =>
    rw [Mat.tb_iff]
    have:=(fh x v).1 hv
    unfold bA
    simp only
    omega
  | false =>
    cases ht:Mat.tb v (bA x) with
    | false=>rfl
    | true =>
      have:=Mat.tb_iff.1 ht
      unfold bA at this
      simp only at this
      have:bc x v=true:=(fh x v).2 (by omega)
      rw [this] at hv;cases hv
theorem uN {N:Nat} (v:Nat):∀ {l:List aa},uV N l→Mat.dgL v (l.map bA)=(l.filter (fun x=>bc x v)).length
  | [],_=>rfl
  | y::l,h=>by
    have ih:=uN (N:=N) v (l:=l) (fun x hx=>h x (by simp [hx]))
    simp only [List.map_cons,Mat.dgL,ih,mh (h y (by simp)) v,List.filter_cons]
    cases bc y v<;>simp<;>omega
theorem r7 (g:Nat→aa) (p:Int):∀ n,bm g p n=(((al n g).filter (fun x=>bc x p)).length:Int)
  | 0=>rfl
  | n+1=>by
    rw [bm,r7 g p n,bI,List.filter_append,List.length_append,show lj (g n) p=bc (g n) p from rfl]
    cases h:bc (g n) p with
    | true=>rw [if_pos rfl];simp [h]
    | false=>rw [if_neg (by simp)];simp [h]
theorem pH (g:Nat→aa) (v:Int):∀ k,al (ba g v k).1 (ba g v k).2=(al k g).filter (fun x=>!bc x v)
  | 0=>rfl
  | k+1=>by
    rw [bI,List.filter_append,← pH g v k,ba]
    cases h:bc (g k) v with
    | true=>rw [if_pos rfl];simp [h]
    | false =>
      rw [if_neg (by simp)]
      show al ((ba g v k).1+1) (aZ (ba g v k).1 (ba g v k).2 (g k))=_
      rw [cD];simp [h]
theorem mM (g:Nat→aa) (v:Int):∀ k,(List.range (bq g v k).1).map (bq g v k).2=((al k g).filter (fun x=>bc x v)).map (fun x=>aw x v)
  | 0=>rfl
  | k+1=>by
    rw [bI,List.filter_append,List.map_append,← mM g v k,bq]
    cases h:bc (g k) v with
    | false=>rw [if_neg (by simp)];simp [h]
    | true =>
      rw [if_pos rfl]
      show (List.range ((bq g v k).1+1)).map (fun s=>if s<(bq g v k).1 then (bq g v k).2 s else aw (g k) v)=_
      rw [List.range_succ,List.map_append]
      have:(List.range (bq g v k).1).map (fun s=>if s<(bq g v k).1 then (bq g v k).2 s else aw (g k) v)=(List.range (bq g v k).1).map (bq g v k).2:=List.map_congr_left (fun i hi=>if_pos (List.mem_range.1 hi))
      rw [this]
      simp [h]
theorem lZ (l:List aa) (v:Int):l.Perm (l.filter (fun x=>!bc x v)++l.filter (fun x=>bc x v)):=by
  have:=List.filter_append_perm (fun x=>bc x v) l
  exact (this.symm).trans List.perm_append_comm
theorem gM {N:Nat} {x:aa} (h:0≤x.1∧x.1<x.2.1∧x.2.1<N) {v:Int} (hv:bc x v=true):aD v (aw x v)=x∧0≤aw x v∧aw x v<N∧aw x v≠v:=by
  obtain ⟨a,b,c⟩:=x
  simp only at h
  rcases (fh (a,b,c) v).1 hv with e | e
  · have e:a=v:=e
    subst e
    have ho:aw (a,b,c) a=b:=by unfold aw;rw [if_pos rfl]
    rw [ho]
    refine ⟨?_,by omega,by omega,by omega⟩
    unfold aD
    rw [if_neg (show ¬ b<a by omega),if_pos (show b>a by omega)]
  · have e:b=v:=e
    subst e
    have ho:aw (a,b,c) b=a:=by unfold aw;rw [if_neg (show ¬ a=b by omega)]
    rw [ho]
    refine ⟨?_,by omega,by omega,by omega⟩
    unfold aD
    rw [if_pos (show a<b by omega),if_neg (show ¬ a>b by omega)]
theorem wa (a b:Int):aD a b=aD b a:=by
  unfold aD
  by_cases h:b<a
  · rw [if_pos h,if_neg (show ¬ b>a by omega),if_neg (show ¬ a<b by omega),if_pos (show a>b by omega)]
  · rw [if_neg h]
    by_cases h2:b>a
    · rw [if_pos h2,if_pos (show a<b by omega),if_neg (show ¬ a>b by omega)]
    · have:a=b:=by omega
      subst this;simp
theorem eb {a b:Int} (h:a<b):aD a b=(a,b,()):=by
  unfold aD
  rw [if_neg (show ¬ b<a by omega),if_pos (show b>a by omega)]
theorem wz (B:Nat→Bool):∀ n,∃ m,m<2 ^ n∧∀ i,i<n→m.testBit i=B i
  | 0=>⟨0,by decide,fun i hi=>absurd hi (Nat.not_lt_zero _)⟩
  | n+1=>by
    obtain ⟨m,h1,h2⟩:=wz B n
    cases hb:B n with
    | false =>
      refine ⟨m,by rw [Nat.pow_succ];omega,fun i hi=>?_⟩
      rcases Nat.lt_or_ge i n with h | h
      · exact h2 i h
      · obtain rfl:i=n:=by omega
        rw [hb];exact Nat.testBit_lt_two_pow h1
    | true =>
      refine ⟨2 ^ n+m,by rw [Nat.pow_succ];omega,fun i hi=>?_⟩
      rcases Nat.lt_or_ge i n with h | h
      · rw [Nat.testBit_two_pow_add_gt h];exact h2 i h
      · obtain rfl:i=n:=by omega
        rw [Nat.testBit_two_pow_add_eq,Nat.testBit_lt_two_pow h1,hb];rfl
theorem nG (w:Nat):∀ n,(bD w n).1=Mat.cardR (fun i=>gl w i) n
  | 0=>rfl
  | n+1=>by
    have ih:=nG w n
    simp only [bD,Mat.cardR]
    cases h:gl w n with
    | true=>rw [if_pos rfl];show (bD w n).1+1=_;rw [ih];rfl
    | false=>rw [if_neg (by simp)];rw [ih];rfl
theorem qm {N nb:Nat} {g:Nat→aa} (hok:aO N nb g) (w:Nat):∀ n,n≤nb→(bK (ph g w) n).1=Mat.cnt (fun i=>gl w i) (bL g n)
  | 0,_=>rfl
  | n+1,hn=>by
    have ih:=qm hok w n (by omega)
    have h:=hok n (by omega)
    rw [bL,Mat.cnt_append,← ih]
    have e:Mat.inn (fun i=>gl w i) (bA (g n))=ph g w n:=by
      show (gl (w:Int) (((g n).1.toNat:Nat):Int)&&gl (w:Int) (((g n).2.1.toNat:Nat):Int))=(gl (w:Int) (g n).1&&gl (w:Int) (g n).2.1)
      rw [show (((g n).1.toNat:Nat):Int)=(g n).1 by omega,show (((g n).2.1.toNat:Nat):Int)=(g n).2.1 by omega]
    simp only [Mat.cnt,e]
    cases hs:ph g w n with
    | true=>rw [nv hs];rfl
    | false=>rw [nm hs];rfl
theorem wM {N nb:Nat} {g:Nat→aa} (hok:aO N nb g) (w:Nat):yF g nb N 2 3 w=false↔(0<Mat.cnt (fun i=>gl w i) (bL g nb)→Mat.cnt (fun i=>gl w i) (bL g nb)+3≤2*Mat.cardR (fun i=>gl w i) N):=by
  unfold yF
  rw [qm hok w nb (Nat.le_refl _),nG]
  by_cases h:0<Mat.cnt (fun i=>gl w i) (bL g nb)
  · rw [decide_eq_true (show ((Mat.cnt (fun i=>gl w i) (bL g nb):Nat):Int)>0 by omega),cond_true,decide_eq_false_iff_not]
    constructor
    · intro h1 _;omega
    · intro h1 h2;have:=h1 h;omega
  · rw [decide_eq_false (show ¬ ((Mat.cnt (fun i=>gl w i) (bL g nb):Nat):Int)>0 by omega),cond_false]
    simp [h]
theorem vN (g:Nat→aa) (nb N k l:Nat):∀ d w,(mq g nb N k l d w).2=false↔∀ i,w≤i→i<w+d→yF g nb N k l i=false
  | 0,w=>⟨fun _ i h1 h2=>by omega,fun _=>rfl⟩
  | d+1,w=>by
    rw [mq]
    cases h:yF g nb N k l w with
    | true =>
      rw [if_pos rfl]
      constructor
      · intro h1;cases h1
      · intro h1;have:=h1 w (Nat.le_refl _) (by omega);rw [h] at this;cases this
    | false =>
      rw [if_neg (by simp),vN g nb N k l d (w+1)]
      constructor
      · intro h1 i h2 h3
        by_cases e:i=w
        · rw [e];exact h
        · exact h1 i (by omega) (by omega)
      · intro h1 i h2 h3;exact h1 i (by omega) (by omega)
theorem iX {N nb:Nat} {g:Nat→aa} (hok:aO N nb g) (hN:N≤8):(mq g nb N 2 3 (2 ^ N - 1) 1).2=false↔Mat.Sparse N 2 3 (bL g nb):=by
  have hpow:0<2 ^ N:=Nat.pow_pos (by decide)
  rw [vN]
  constructor
  · intro h R hR
    obtain ⟨m,m1,m2⟩:=wz R N
    have hm62:m<2 ^ 62:=Nat.lt_of_lt_of_le m1 (Nat.pow_le_pow_right (by omega) (by omega))
    have hb:∀ v,v<N→gl (m:Int) (v:Int)=R v:=fun v hv=>by rw [lE m v hm62 (by omega)];exact m2 v hv
    have e1:Mat.cnt (fun i=>gl (m:Int) i) (bL g nb)=Mat.cnt R (bL g nb):=by
      have hgd:=ez (rr hok)
      rw [← eQ] at hgd
      revert hgd
      generalize bL g nb=L
      intro hgd
      induction L with
      | nil=>rfl
      | cons x l ih =>
        have hx:=hgd x (by simp)
        unfold Mat.GoodBar at hx
        simp only [Mat.cnt,Mat.inn,ih (fun y hy=>hgd y (by simp [hy])),hb x.1 hx.2.1,hb x.2 hx.2.2]
    have e2:Mat.cardR (fun i=>gl (m:Int) i) N=Mat.cardR R N:=Mat.card_cgr N (fun v hv=>hb v hv)
    have hm0:1≤m:=by
      refine Nat.not_lt.1 (fun hl=>?_)
      have:m=0:=by omega
      subst this
      have hz:Mat.cardR R N=0:=Mat.card_none R N (fun v hv=>by rw [← m2 v hv];exact Nat.zero_testBit v)
      have:Mat.cnt R (bL g nb)=0:=by
        have hgd:=ez (rr hok)
        rw [← eQ] at hgd
        refine Classical.byContradiction fun hn=>?_
        have:∀ L:List (Nat×Nat),(∀ x∈L,Mat.GoodBar N x)→Mat.cnt R L=0:=by
          intro L
          induction L with
          | nil=>intro _;rfl
          | cons x l ih =>
            intro h
            have hx:=h x (by simp)
            unfold Mat.GoodBar at hx
            simp only [Mat.cnt,ih (fun y hy=>h y (by simp [hy]))]
            have:R x.1=false:=by rw [← m2 x.1 hx.2.1];exact Nat.zero_testBit _
            simp [Mat.inn,this]
        exact hn (this _ hgd)
      omega
    have:=(wM hok m).1 (h m hm0 (by omega))
    rw [e1,e2] at this
    exact this hR
  · intro h i h1 h2
    rw [wM hok]
    exact h _
theorem ij (N k l:Nat):∀ xs acc:List (Nat×Nat),(Mat.greedy N k l acc xs).length≤acc.length+xs.length
  | [],acc=>by simp [Mat.greedy]
  | x::xs,acc=>by
    simp only [Mat.greedy]
    split
    · have:=ij N k l xs (acc++[x])
      simp only [List.length_append,List.length_cons,List.length_nil] at this ⊢
      omega
    · have:=ij N k l xs acc
      simp only [List.length_cons]
      omega
theorem kT (N k l:Nat):∀ xs acc:List (Nat×Nat),(Mat.greedy N k l acc xs).length=acc.length+xs.length→Mat.greedy N k l acc xs=acc++xs
  | [],acc,_=>by simp [Mat.greedy]
  | x::xs,acc,h=>by
    simp only [Mat.greedy] at h ⊢
    split at h
    · rename_i hs
      rw [if_pos hs,kT N k l xs (acc++[x]) (by simp only [List.length_append,List.length_cons,List.length_nil] at h ⊢;omega)]
      simp
    · have:=ij N k l xs acc
      simp only [List.length_cons] at h
      omega
theorem gX {N k l:Nat} {L:List (Nat×Nat)} (h:(Mat.greedy N k l [] L).length=L.length):Mat.Sparse N k l L:=by
  have e:=kT N k l L [] (by simpa using h)
  have:=Mat.greedy_sparse N k l L [] (Mat.sparse_nil N k l)
  rw [e] at this
  simpa using this
structure Inv (N:Nat) (D:NB):Prop where
  gr:ah ((N:Int),D,())=true
  sp:Mat.Sparse N 2 3 ((al D.1 D.2).map bA)
  fl:Mat.Full N ((al D.1 D.2).map bA)
theorem Inv.len {N:Nat} {D:NB} (h:Inv N D):D.1+3=2*Mat.cardR (Mat.tch ((al D.1 D.2).map bA)) N:=by
  have:=h.fl
  unfold Mat.Full at this
  rwa [List.length_map,aC] at this
theorem Inv.le {N:Nat} {D:NB} (h:Inv N D):D.1+3≤2*N:=by
  have:=h.len
  have:=Mat.card_le (Mat.tch ((al D.1 D.2).map bA)) N
  omega
theorem Inv.gd {N:Nat} {D:NB} (h:Inv N D):uV N (al D.1 D.2):=rr (az (g:=D.2) (nb:=D.1) h.gr).2.2
theorem xL {N nb:Nat} {g:Nat→aa} (hm:oV ((N:Int),(nb,g),())=true) (h0:nb≠0):Inv N (nb,g)∧nb+3=2*N:=by
  unfold oV at hm
  cases hf:(bw ((N:Int),(nb,g),())==0) with
  | false=>rw [hf] at hm;cases hm
  | true =>
    rw [hf] at hm
    have hg:=ku hf
    obtain ⟨hN,hnb,hok⟩:=az hg
    have h1:(nb:Int)=(qF ((N:Int),(nb,g),()):Int):=by simpa using hm
    have h2:cE (N:Int) - (qF ((N:Int),(nb,g),()):Int)=0:=by
      have h3:bw ((N:Int),(nb,g),())=cE (N:Int) - (qF ((N:Int),(nb,g),()):Int):=by unfold bw;rw [if_pos hg]
      rw [← h3];simpa using hf
    have hl:nb+3=2*N:=by
      unfold cE at h2
      split at h2<;>omega
    have hr:(aK N 2 3 g nb).length=nb:=by
      have:((aK N 2 3 g nb).length:Int)=(qF ((N:Int),(nb,g),()):Int):=rfl
      omega
    rw [dn] at hr
    have hsp:Mat.Sparse N 2 3 (bL g nb):=gX (by rw [hr,eQ,List.length_map,aC])
    rw [eQ] at hsp
    refine ⟨⟨hg,hsp,?_⟩,hl⟩
    have hgd:=ez (rr hok)
    have hc:=Mat.cnt_all (R:=Mat.tch ((al nb g).map bA)) (L:=(al nb g).map bA) (fun x hx=>by
      have:=Mat.ends_tch x hx
      unfold Mat.inn
      rw [this.1,this.2];rfl)
    rw [List.length_map,aC] at hc
    have h4:=hsp (Mat.tch ((al nb g).map bA)) (by omega)
    have h5:=Mat.card_le (Mat.tch ((al nb g).map bA)) N
    show Mat.Full N ((al nb g).map bA)
    unfold Mat.Full
    rw [List.length_map,aC]
    omega
def J1 (v:ai):Ob:=⟨true,2,1,fun _=>[.p (.int .i64 v.1),b4 v.2.1.2 v.2.1.1]⟩
def EB (v:ai) (w:ad) (i c:Nat) (f:Nat→Int):St :=
  ⟨[aJ v,ew w,.pt 2 0 0 0,.p .any,.p .any,.ar 1 1 0 c,.p .any,.p .any,.p .any,.p .any,b4 v.2.1.2 v.2.1.1,.p (.int .i64 v.2.1.1),.p (.int .i64 i)]++List.replicate 20 ag,[(0,J1 v),(1,aY c f)],2⟩
theorem Oy (v:ai) (w:ad) :
    zT Tryz.f34 [rg 2,rg 2,rg 4,.head] [aJ v,ew w] [0,64] (EB v w 0 0 (fun _=>0)) =
    some (tH,zD [(NT 0 1),(AI v.1),(AN v.2.1.1),(AP v.2.1.1 (aH v.2.1.2)),(AN w.1),(AP w.1 (c9 w)),(AN 0),(AI ((v.2.1.1:Int))),((0:Int)=(↑0:Int)),((([AV.p (PV.int IntKind.i64 v.1),cI v.2.1].length):Nat)=2),(NL 1 1),(AN 1),(NL 0 0),(AA 0 (fun i=>[.p (.int .i64 0)]))] [0,1,2,3,4,5,6,6,6,2,3,7,8,9,10,10,1,2,3,11,12,13]):=by kernel_rfl
theorem L5 (v:ai) (w:ad) (i c:Nat) (f:Nat→Int) (a b:Bool) :
    zM 0 [rg 1,.dec true,rg 6,rm [(3,oc [] (jB a)),(4,oc [] (jB b))] 1,.dec true,rg 5,rg 2,.head] tH (EB v w i c f) [0,642] 1 (EB v w (i+1) (c+1) (fun s=>if s<c then f s else i)) =
    some (tH,zD [((decide ((i:Int)<(v.2.1.1:Int)))=true),(IL 0 (i:Int)),(IT (i:Int) (v.2.1.1:Int)),(NT 0 1),((true=true)→(AN 1)),zE 63 [.p (.seq true 1 w.1 (c9 w)),jI ((v.2.1.2 i).1)] [] (jB a),(AG a),((a=true)→(NT 0 1)),((a=true)→zE 63 [.p (.seq true 1 w.1 (c9 w)),jI ((v.2.1.2 i).2.1)] [] (jB b)),((bif a then b else false)=true),(NL 1 1),(NL c c),(NL ((c+1)*8) 140737488355328),(NL (c+1) 9223372036854775807),(ax ((i:Int)+1)),(au ((i:Int)+1)),(AI v.1),(AN v.2.1.1),(AP v.2.1.1 (aH v.2.1.2)),(AN w.1),(AP w.1 (c9 w)),(AN 0),(AN ((c+1))),(AI ((v.2.1.1:Int))),((((i:Int)+1):Int)=(↑(i+1):Int)),(AN 2),(AN 1),(NL (c+1) (c+1)),(CV [(642,⟨false,1,(c+1),(fun i_2=>(if (i_2<c) then [.p (.int .i64 (f i_2))] else [.p (.int .i64 (i:Int))]))⟩),(610,⟨false,1,1,(fun i_2=>[.p (.int .i64 (i:Int))])⟩),(130,⟨true,2,1,(fun i_2=>[.p (.int .i64 ((v.2.1.2 i).1)),.p (.int .i64 ((v.2.1.2 i).2.1))])⟩),(0,⟨true,2,1,(fun i_2=>[.p (.int .i64 v.1),.p (.seq true 2 v.2.1.1 (aH v.2.1.2))])⟩)] [0,642] 1 (c+1) (fun i_1=>if (i_1<c) then [.p (.int .i64 (f i_1))] else [.p (.int .i64 (i:Int))]) (fun i_1=>[.p (.int .i64 (if i_1<c then f i_1 else (i:Int)))]))] [0,1,2,3,4,3,5,6,7,6,6,8,6,9,10,11,12,13,14,15,16,17,18,19,20,21,21,22,17,18,23,24,25,10,10,16,17,18,26,27,28]):=by kernel_rfl
theorem Kc (v:ai) (w:ad) (i c:Nat) (f:Nat→Int) (a b:Bool) :
    zM 0 [rg 1,.dec true,rg 6,rm [(3,oc [] (jB a)),(4,oc [] (jB b))] 1,.dec false,rg 2,.head] tH (EB v w i c f) [0,1] 1 (EB v w (i+1) c f) =
    some (tH,zD [((decide ((i:Int)<(v.2.1.1:Int)))=true),(IL 0 (i:Int)),(IT (i:Int) (v.2.1.1:Int)),(NT 0 1),((true=true)→(AN 1)),zE 63 [.p (.seq true 1 w.1 (c9 w)),jI ((v.2.1.2 i).1)] [] (jB a),(AG a),((a=true)→(NT 0 1)),((a=true)→zE 63 [.p (.seq true 1 w.1 (c9 w)),jI ((v.2.1.2 i).2.1)] [] (jB b)),((bif a then b else false)=false),(ax ((i:Int)+1)),(au ((i:Int)+1)),(AI v.1),(AN v.2.1.1),(AP v.2.1.1 (aH v.2.1.2)),(AN w.1),(AP w.1 (c9 w)),(AN 0),(AN c),(AI ((v.2.1.1:Int))),((((i:Int)+1):Int)=(↑(i+1):Int)),(AN 2),(NL 1 1),(AN 1),(NL c c),(AA c (fun i_1=>[.p (.int .i64 (f i_1))]))] [0,1,2,3,4,3,5,6,7,6,6,8,6,9,10,11,12,13,14,15,16,17,17,18,13,14,19,20,21,22,22,12,13,14,23,24,25]):=by kernel_rfl
theorem K7 (v:ai) (w:ad) (i c:Nat) (f:Nat→Int) :
    zP Tryz.f34 0 [rg 1,.dec false,rg 2] tH (EB v w i c f) [1] 1 [(0,aY c f)] (.ar 1 0 0 c) =
    some [((decide ((i:Int)<(v.2.1.1:Int)))=false),(AN 0),(AN c),(AN 1),(NL c c),(AA c (fun i_1=>[.p (.int .i64 (f i_1))])),(AE c)]:=by kernel_rfl
def kN (g:Nat→aa) (S:ad) (e:Nat):Bool:=a0 S.2 (g e).1 S.1&&a0 S.2 (g e).2.1 S.1
theorem gO (v:ai) (S:ad) (hs:cQ a9 v) (hS:S.1≤1048576) :
    zE 34 [aJ v,ew S] [(0,aY (bK (kN v.2.1.2 S) v.2.1.1).1 (bK (kN v.2.1.2 S) v.2.1.1).2)] (.ar 1 0 0 (bK (kN v.2.1.2 S) v.2.1.1).1):=by
  refine aW Tryz.func34 (fun c hc=>?_)
  have hnb:v.2.1.1≤1048576:=hs.2.1.1
  generalize hp:kN v.2.1.2 S=p
  generalize hR:bK p v.2.1.1=R
  have lo:∀ d i,i+d=v.2.1.1→zR c 34 tH (EB v S i (bK p i).1 (bK p i).2) (aT c [(0,aY R.1 R.2)] (.ar 1 0 0 R.1)):=by
    intro d
    induction d with
    | zero =>
      intro i hi
      obtain rfl:i=v.2.1.1:=by omega
      have hd:decide ((v.2.1.1:Int)<(v.2.1.1:Int))=false:=by simp
      rw [hR]
      refine be Tryz.func34 hc (K7 v S v.2.1.1 R.1 R.2) ?_
      and_intros
      all_goals (first | exact zN | (exact hd) | (intro t ht;simp [af]))
    | succ d ih =>
      intro i hi
      have hd:decide ((i:Int)<(v.2.1.1:Int))=true:=decide_eq_true (by omega)
      have hrec:=ih (i+1) (by omega)
      have hfn:=r8 p i
      have hc1:=dN S (v.2.1.2 i).1 hS
      have hc2:=dN S (v.2.1.2 i).2.1 hS
      have hpe:p i=(a0 S.2 (v.2.1.2 i).1 S.1&&a0 S.2 (v.2.1.2 i).2.1 S.1):=by rw [← hp];rfl
      generalize a0 S.2 (v.2.1.2 i).1 S.1=a at hc1 hpe
      generalize a0 S.2 (v.2.1.2 i).2.1 S.1=b at hc2 hpe
      cases hb:p i with
      | true =>
        rw [hb] at hpe
        rw [nv hb] at hrec
        generalize bK p i=q at hfn hrec ⊢
        refine a7 hc (L5 v S i q.1 q.2 a b) ?_ hrec
        and_intros
        all_goals (first | exact zI | (exact hd) | (exact hc1) | (intro _;exact hc2) | (cases a<;>cases b<;>simp at hpe ⊢;done) | (simp;done) | (simp;omega) | (intro t ht;by_cases h':t<q.1<;>(simp [h',ay,bh,tg,bu,af];done)) | (intro t ht;simp [af]))
      | false =>
        rw [hb] at hpe
        rw [nm hb] at hrec
        generalize bK p i=q at hfn hrec ⊢
        refine a7 hc (Kc v S i q.1 q.2 a b) ?_ hrec
        and_intros
        all_goals (first | exact zI | (exact hd) | (exact hc1) | (intro _;exact hc2) | (cases a<;>cases b<;>simp at hpe ⊢;done) | (simp;done) | (simp;omega) | (intro t ht;simp [af]))
  refine a7 hc (Oy v S) ?_ (lo v.2.1.1 0 (by omega))
  and_intros
  all_goals (first | exact zN | (simp;done) | (intro t ht;exact absurd ht (Nat.not_lt_zero _)) | (intro t ht;simp [af]))
def FY (s:ad) (x:Int):ad:=(s.1+1,fun i=>if i<s.1 then s.2 i else x)
def mL:ad:=(0,fun _=>0)
def eU (l:Nat→Int):Nat→Nat
  | 0=>0
  | k+1=>if l k = -1 then eU l k+1 else eU l k
def lw (l:Nat→Int):Nat→ad
  | 0=>mL
  | k+1=>if l k = -1 then mL else FY (lw l k) (l k)
def gp (l:Nat→Int):Nat→Nat→ad
  | 0=>fun _=>mL
  | k+1=>if l k = -1 then b8 (eU l k) (gp l k) (lw l k) else gp l k
theorem uv (l:Nat→Int):∀ k,eU l k≤k
  | 0=>Nat.le_refl _
  | k+1=>by
    have:=uv l k
    rw [eU];split<;>omega
theorem uD (l:Nat→Int):∀ k,(lw l k).1≤k
  | 0=>Nat.le_refl _
  | k+1=>by
    have:=uD l k
    rw [lw];split
    · exact Nat.zero_le _
    · show (lw l k).1+1≤k+1;omega
theorem jr {n:Nat} {C:Nat→ad} {c:ad} {i:Nat} (h:i<n):b8 n C c i=C i:=by
  unfold b8;simp only [if_pos h]
theorem jt {n:Nat} {C:Nat→ad} {c:ad} {i:Nat} (h:¬ i<n):b8 n C c i=c:=by
  unfold b8;simp only [if_neg h]
theorem ut (l:Nat→Int):∀ k i,(gp l k i).1≤k
  | 0,i=>Nat.le_refl _
  | k+1,i=>by
    have h1:=ut l k i
    have h2:=uD l k
    rw [gp];split
    · by_cases h:i<eU l k
      · rw [jr h];omega
      · rw [jt h];omega
    · omega
theorem mw (l:Nat→Int) (k:Nat):∀ d,eU l k≤eU l (k+d)
  | 0=>Nat.le_refl _
  | d+1=>by
    have:=mw l k d
    rw [show k+(d+1)=(k+d)+1 by omega,eU];split<;>omega
theorem wb (l:Nat→Int) (k:Nat) {i:Nat} (hi:i<eU l k):∀ d,gp l (k+d) i=gp l k i
  | 0=>rfl
  | d+1=>by
    have h1:=wb l k hi d
    have h2:=mw l k d
    rw [show k+(d+1)=(k+d)+1 by omega,gp];split
    · rw [jr (by omega),h1]
    · exact h1
def wN (N:Int) (S:ad):Bool:=bif decide ((S.1:Int)<2) then false else eu N S.2 S.1
def CK (N:Int) (l:Nat→Int) (k:Nat):Bool:=a8 (fun i=>wN N (gp l k i)) (eU l k)
theorem CS {N:Int} {l:Nat→Int} {k:Nat} (h:CK N l k=true) (hl:l k≠-1∨wN N (lw l k)=true):CK N l (k+1)=true:=by
  unfold CK at *
  rw [bX] at h ⊢
  intro i hi
  rw [eU] at hi
  rw [gp]
  by_cases e:l k = -1
  · rw [if_pos e] at hi ⊢
    by_cases h':i<eU l k
    · rw [jr h'];exact h i h'
    · rw [jt h']
      rcases hl with hl | hl
      · exact absurd e hl
      · exact hl
  · rw [if_neg e] at hi ⊢
    exact h i hi
theorem GO {N:Int} {l:Nat→Int} {k:Nat} (hl:l k = -1) (hq:wN N (lw l k)=false) (d:Nat):CK N l (k+1+d)=false:=by
  have hn:eU l (k+1)=eU l k+1:=by rw [eU,if_pos hl]
  have hm:=mw l (k+1) d
  unfold CK
  refine gq (i:=eU l k) (by omega) ?_
  show wN N (gp l (k+1+d) (eU l k))=false
  rw [wb l (k+1) (by omega) d,gp,if_pos hl,jt (Nat.lt_irrefl _)]
  exact hq
theorem rD {l:Nat→Int} {k:Nat} (hl:l k = -1):eU l (k+1)=eU l k+1∧lw l (k+1)=mL∧gp l (k+1)=b8 (eU l k) (gp l k) (lw l k):=by
  rw [eU,lw,gp,if_pos hl,if_pos hl,if_pos hl];exact ⟨rfl,rfl,rfl⟩
theorem wq {l:Nat→Int} {k:Nat} (hl:l k≠-1):eU l (k+1)=eU l k∧lw l (k+1)=FY (lw l k) (l k)∧gp l (k+1)=gp l k:=by
  rw [eU,lw,gp,if_neg hl,if_neg hl,if_neg hl];exact ⟨rfl,rfl,rfl⟩
def EZ (p:Nat→Bool):Nat→Bool
  | 0=>false
  | k+1=>EZ p k||p k
def dh (C:Nat→ad):Nat→Int
  | 0=>0
  | k+1=>dh C k+2*((C k).1:Int) - 3
theorem zZ {C:Nat→ad} {B:Nat} (hB:∀ i,(C i).1≤B):∀ k:Nat,-3*(k:Int)≤dh C k∧dh C k≤2*(B:Int)*k
  | 0=>by rw [dh];omega
  | k+1=>by
    have h1:=zZ hB k
    have h2:=hB k
    rw [dh]
    have e:2*(B:Int)*((k+1:Nat):Int)=2*(B:Int)*k+2*B:=by rw [Int.natCast_add];simp [Int.mul_add]
    omega
def EL (g:Nat→aa) (C:Nat→ad) (i e:Nat):Bool:=EZ (fun j=>kN g (C j) e) i
def lh (g:Nat→aa) (nb:Nat) (cn:Nat) (C:Nat→ad):Bool:=a8 (EL g C cn) nb
theorem pq {g h:Nat→Int} {x:Int}:∀ {n:Nat},(∀ i,i<n→g i=h i)→a0 g x n=a0 h x n
  | 0,_=>rfl
  | n+1,H=>by rw [a0,a0,pq (fun i hi=>H i (by omega)),H n (by omega)]
theorem wE (p:Nat→Bool) (e:Nat):∀ n,a0 (bK p n).2 (e:Int) (bK p n).1=(decide (e<n)&&p e)
  | 0=>by simp [bK,a0]
  | n+1=>by
    have h:=wE p e n
    cases hp:p n with
    | true =>
      rw [nv hp]
      show (a0 (fun s=>if s<(bK p n).1 then (bK p n).2 s else (n:Int)) (e:Int) (bK p n).1||(if (bK p n).1<(bK p n).1 then (bK p n).2 (bK p n).1 else (n:Int))==(e:Int))=_
      rw [pq (h:=(bK p n).2) (fun i hi=>if_pos hi),h,if_neg (Nat.lt_irrefl _)]
      by_cases he:e=n
      · subst he;simp [hp]
      · have h1:((n:Int)==(e:Int))=false:=beq_eq_false_iff_ne.2 (by omega)
        rw [h1,Bool.or_false]
        by_cases h2:e<n
        · rw [decide_eq_true h2,decide_eq_true (show e<n+1 by omega)]
        · rw [decide_eq_false h2,decide_eq_false (show ¬ e<n+1 by omega)]
    | false =>
      rw [nm hp,h]
      by_cases he:e=n
      · subst he;simp [hp]
      · by_cases h2:e<n
        · rw [decide_eq_true h2,decide_eq_true (show e<n+1 by omega)]
        · rw [decide_eq_false h2,decide_eq_false (show ¬ e<n+1 by omega)]
theorem u6 (p:Nat→Bool):∀ n s,s<(bK p n).1→∃ e,e<n∧(bK p n).2 s=(e:Int)
  | 0,s,h=>absurd h (Nat.not_lt_zero _)
  | n+1,s,h=>by
    cases hp:p n with
    | true =>
      rw [nv hp] at h ⊢
      by_cases h':s<(bK p n).1
      · obtain ⟨e,h1,h2⟩:=u6 p n s h'
        exact ⟨e,by omega,by show (if s<(bK p n).1 then _ else _)=_;rw [if_pos h'];exact h2⟩
      · exact ⟨n,by omega,by show (if s<(bK p n).1 then _ else _)=_;rw [if_neg h']⟩
    | false =>
      rw [nm hp] at h ⊢
      obtain ⟨e,h1,h2⟩:=u6 p n s h
      exact ⟨e,by omega,h2⟩
def EU (n:Nat) (m:Nat→Bool):AV:=.p (.seq true 1 n (fun i=>[.bool (m i)]))
def Fe (n:Nat) (m:Nat→Bool) (k:Nat):St :=
  ⟨[EU n m,.p (.bool false),.p .any,.p .any,.p .any,.p .any,EU n m,.p (.int .i64 n),.p (.int .i64 k)]++List.replicate 10 ag,[],0⟩
def CW (v:ai) (u:ad) (cn:Nat) (C:Nat→ad) (s:ad) (k:Nat):St :=
  ⟨[aJ v,ew u,.pt 2 0 0 0,.p .any,.p .any,.p .any,.ar 1 1 0 cn,.ar 1 2 0 s.1,.p .any,.p .any,.p .any,.p .any,ew u,.p (.int .i64 u.1),.p (.int .i64 k)]++List.replicate 25 ag,[(0,J1 v),(1,iJ cn C),(2,aY s.1 s.2)],3⟩
theorem Mq (n:Nat) (m:Nat→Bool) :
    zT Tryz.f73 [rg 1,rg 3,.head] [EU n m,jB false] [] (Fe n m 0) =
    some (yr,zD [(AN n),(AP n (fun i=>[.bool (m i)])),(false=false),(AI ((n:Int))),((0:Int)=(↑0:Int))] [0,1,2,0,1,3,4]):=by kernel_rfl
theorem Le (n:Nat) (m:Nat→Bool) (k:Nat) :
    zM 0 [rg 1,.dec true,rg 2,rg 6,.dec false,rg 2,.head] yr (Fe n m k) [] 1 (Fe n m (k+1)) =
    some (yr,zD [((decide ((k:Int)<(n:Int)))=true),(IL 0 (k:Int)),(IT (k:Int) (n:Int)),((false==m k)=false),(ax ((k:Int)+1)),(au ((k:Int)+1)),(AN n),(AP n (fun i=>[.bool (m i)])),(false=false),(AI ((n:Int))),((((k:Int)+1):Int)=(↑(k+1):Int))] [0,1,2,3,4,5,6,7,8,6,7,9,10]):=by kernel_rfl
theorem Mo (n:Nat) (m:Nat→Bool) (k:Nat) :
    zP Tryz.f73 0 [rg 1,.dec true,rg 2,rg 6,.dec true,rg 2] yr (Fe n m k) [] 1 [] (jI k) =
    some [((decide ((k:Int)<(n:Int)))=true),(IL 0 (k:Int)),(IT (k:Int) (n:Int)),((false==m k)=true),(AI ((k:Int)))]:=by kernel_rfl
theorem Ms (n:Nat) (m:Nat→Bool) (k:Nat) :
    zP Tryz.f73 0 [rg 1,.dec false,rg 1] yr (Fe n m k) [] 1 [] (jI (-1)) =
    some [((decide ((k:Int)<(n:Int)))=false),(AI ((-1)))]:=by kernel_rfl
theorem LP (n:Nat) (m:Nat→Bool) (r:Int) :
    zS Tryz.f35 [rg 1,rm [(2,oc [] (jI r))] 2] [EU n m,jB false] [] [] (jB (decide (r≥0))) =
    some [zE 73 [.p (.seq true 1 n (fun i=>[.bool (m i)])),jB false] [] (jI r),((decide (r≥0))=(decide (r≥0)))]:=by kernel_rfl
theorem Ks (v:ai) (x:aa) (r:Int) :
    zS Tryz.f32 [rg 2,rm [(2,oc [] (jI r))] 2] [cI v.2.1,.agg [jI x.1,jI x.2.1]] [] [] (jB (decide (r≥0))) =
    some [(NT 0 1),zE 72 [.p (.seq true 2 v.2.1.1 (aH v.2.1.2)),.agg [jI x.1,jI x.2.1]] [] (jI r),((decide (r≥0))=(decide (r≥0)))]:=by kernel_rfl
theorem MZ (v:ai) (u:ad) :
    zT Tryz.f33 [rg 3,rg 2,rg 2,rg 3,.head] [aJ v,ew u] [0,96,160] (CW v u 0 (fun _=>mL) mL 0) =
    some (qP,zD [(AI v.1),(AN v.2.1.1),(AP v.2.1.1 (aH v.2.1.2)),(AN u.1),(AP u.1 (c9 u)),(AN 0),(AI ((u.1:Int))),((0:Int)=(↑0:Int)),((([AV.p (PV.int IntKind.i64 v.1),cI v.2.1].length):Nat)=2),(NL 1 1),(AN 1),(NL 0 0),(∀ i:Nat,(((i:Nat)<0)→(af []∧(([.p (.nil)]:List AV)=[.p (.seq false 1 0 (c9 mL))])))),(∀ i:Nat,(((i:Nat)<0)→(af []∧(([.p (.int .i64 0)]:List AV)=[.p (.int .i64 (mL.2 i))]))))] [0,1,2,3,4,5,5,5,5,5,3,4,6,7,8,9,9,0,1,2,10,11,12,10,11,13]):=by kernel_rfl
theorem Oe (v:ai) (u:ad) (cn:Nat) (C:Nat→ad) (s:ad) (k:Nat) :
    zM 0 [rg 1,.dec true,rg 3,rg 2,.dec true,rg 5,rg 2,.head] qP (CW v u cn C s k) [0,1,291] 1 (CW v u cn C (FY s (u.2 k)) (k+1)) =
    some (qP,zD [((decide ((k:Int)<(u.1:Int)))=true),(IL 0 (k:Int)),(IT (k:Int) (u.1:Int)),((u.2 k != -1)=true),(NL 1 1),(NL s.1 s.1),(NL ((s.1+1)*8) 140737488355328),(NL (s.1+1) 9223372036854775807),(ax ((k:Int)+1)),(au ((k:Int)+1)),(AI v.1),(AN v.2.1.1),(AP v.2.1.1 (aH v.2.1.2)),(AN u.1),(AP u.1 (c9 u)),(AN 0),(AN cn),(AN ((s.1+1))),(AI ((u.1:Int))),((((k:Int)+1):Int)=(↑(k+1):Int)),(AN 2),(AN 1),(NL cn cn),(AA cn (fun i=>[.p (.seq false 1 ((C i).1) (fun i_1=>[.int .i64 ((C i).2 i_1)]))])),(NL (s.1+1) (s.1+1)),(CV [(291,⟨false,1,(s.1+1),(fun i_1=>(if (i_1<s.1) then [.p (.int .i64 (s.2 i_1))] else [.p (.int .i64 (u.2 k))]))⟩),(259,⟨false,1,1,(fun i_1=>[.p (.int .i64 (u.2 k))])⟩),(0,⟨true,2,1,(fun i_1=>[.p (.int .i64 v.1),.p (.seq true 2 v.2.1.1 (aH v.2.1.2))])⟩),(1,⟨false,1,cn,(fun i_1=>[.p (.seq false 1 ((C i_1).1) (fun i_2=>[.int .i64 ((C i_1).2 i_2)]))])⟩)] [0,1,291] 1 (s.1+1) (fun i=>if (i<s.1) then [.p (.int .i64 (s.2 i))] else [.p (.int .i64 (u.2 k))]) (fun i=>[.p (.int .i64 ((FY s (u.2 k)).2 i))]))] [0,1,2,3,4,5,6,7,8,9,10,11,12,13,14,15,15,16,15,17,13,14,18,19,20,4,4,10,11,12,21,22,23,21,24,25]):=by kernel_rfl
theorem N9 (v:ai) (u:ad) (cn:Nat) (C:Nat→ad) (s:ad) (k:Nat) :
    zM 0 [rg 1,.dec true,rg 3,rg 2,.dec false,rm [(6,oc [] (jB true))] 2,.dec false,rg 5,rg 2,rg 2,.head] qP (CW v u cn C s k) [0,579,643] 1 (CW v u (cn+1) (b8 cn C s) mL (k+1)) =
    some (qP,zD (let A:Bool:=decide ((s.1:Int)<2);[((decide ((k:Int)<(u.1:Int)))=true),(IL 0 (k:Int)),(IT (k:Int) (u.1:Int)),((u.2 k != -1)=false),(((!A)=true)→(NT 0 1)),(AG (!A)),(((!A)=true)→(AN 1)),(((!A)=true)→(NL s.1 s.1)),(((!A)=true)→zE 36 [(bt v),.p (.seq true 1 s.1 (c9 s))] [] (jB true)),((A=false)→((!A)=true)),((bif A then true else !true)=false),(NL 1 1),(NL cn cn),(NL ((cn+1)*24) 140737488355328),(NL (cn+1) 9223372036854775807),(ax ((k:Int)+1)),(au ((k:Int)+1)),(AI v.1),(AN v.2.1.1),(AP v.2.1.1 (aH v.2.1.2)),(AN u.1),(AP u.1 (c9 u)),(AN 0),(AN ((cn+1))),(AI ((u.1:Int))),((((k:Int)+1):Int)=(↑(k+1):Int)),(AN 2),(AN 1),(NL (cn+1) (cn+1)),(CV [(643,⟨false,1,0,(fun i_1=>[.p (.int .i64 0)])⟩),(579,⟨false,1,(cn+1),(fun i_1=>(if (i_1<cn) then [.p (.seq false 1 ((C i_1).1) (fun i_2=>[.int .i64 ((C i_1).2 i_2)]))] else [.ar 1 2 0 s.1]))⟩),(547,⟨false,1,1,(fun i_1=>[.ar 1 2 0 s.1])⟩),(0,⟨true,2,1,(fun i_1=>[.p (.int .i64 v.1),.p (.seq true 2 v.2.1.1 (aH v.2.1.2))])⟩),(2,⟨false,1,s.1,(fun i_1=>[.p (.int .i64 (s.2 i_1))])⟩)] [0,579,643] 1 (cn+1) (fun i=>if (i<cn) then [.p (.seq false 1 ((C i).1) (fun i_1=>[.int .i64 ((C i).2 i_1)]))] else [.ar 1 2 0 s.1]) (fun i=>[.p (.seq false 1 (if i<cn then (C i).1 else s.1) (fun i_1=>[.int .i64 ((b8 cn C s i).2 i_1)]))])),(NL 0 0),(∀ i:Nat,(((i:Nat)<0)→(af []∧(([.p (.int .i64 0)]:List AV)=[.p (.int .i64 (mL.2 i))]))))]) [0,1,2,3,4,5,5,6,7,8,5,9,10,11,12,13,14,15,16,17,18,19,20,21,22,22,23,22,22,20,21,24,25,26,11,11,17,18,19,27,28,29,27,30,31]):=by kernel_rfl
theorem Ma (v:ai) (u:ad) (cn:Nat) (C:Nat→ad) (s:ad) (k:Nat) (b:Bool) :
    zP Tryz.f33 0 [rg 1,.dec true,rg 3,rg 2,.dec false,rm [(6,oc [] (jB b))] 2,.dec true,rg 2] qP (CW v u cn C s k) [] 1 [] (.tup [.p .nil,jB false]) =
    some (zD (let A:Bool:=decide ((s.1:Int)<2);[((decide ((k:Int)<(u.1:Int)))=true),(IL 0 (k:Int)),(IT (k:Int) (u.1:Int)),((u.2 k != -1)=false),(((!A)=true)→(NT 0 1)),(AG (!A)),(((!A)=true)→(AN 1)),(((!A)=true)→(NL s.1 s.1)),(((!A)=true)→zE 36 [(bt v),.p (.seq true 1 s.1 (c9 s))] [] (jB b)),((A=false)→((!A)=true)),((bif A then true else !b)=true),(false=false)]) [0,1,2,3,4,5,5,6,7,8,5,9,10,11]):=by kernel_rfl
theorem ME (v:ai) (u:ad) (cn:Nat) (C:Nat→ad) (s:ad) (k:Nat) :
    zP Tryz.f33 0 [rg 1,.dec false,rg 3] qP (CW v u cn C s k) [1] 1 [(0,iJ cn C)] (.tup [.ar 1 0 0 cn,jB true]) =
    some [((decide ((k:Int)<(u.1:Int)))=false),(AN 0),(AN cn),(true=true),(AN 1),(NL cn cn),(AA cn (fun i=>[.p (.seq false 1 ((C i).1) (fun i_1=>[.int .i64 ((C i).2 i_1)]))])),(∀ i:Nat,(((i:Nat)<cn)→af [(false=false),(AE (((C i).1)))]))]:=by kernel_rfl
def Dt (m:Nat→Bool):Nat→Nat→Int
  | 0,_=>-1
  | d+1,i=>if m i=true then Dt m d (i+1) else (i:Int)
theorem AW (m:Nat→Bool):∀ d i,(∀ j,j<i→m j=true)→decide (Dt m d i≥0)=!a8 m (i+d)
  | 0,i,h=>by
    rw [Nat.add_zero,(bX m i).2 h];rfl
  | d+1,i,h=>by
    rw [Dt]
    cases hm:m i with
    | true =>
      rw [if_pos rfl,AW m d (i+1) (fun j hj=>by
        by_cases e:j=i
        · rw [e];exact hm
        · exact h j (by omega)),show i+1+d=i+(d+1) by omega]
    | false =>
      rw [if_neg Bool.false_ne_true,gq (show i<i+(d+1) by omega) hm,decide_eq_true (by omega)];rfl
theorem vb (n:Nat) (m:Nat→Bool) (hn:n≤1048576):zE 73 [EU n m,.p (.bool false)] [] (.p (.int .i64 (Dt m n 0))):=by
  refine aW Tryz.func73 (fun c hc=>?_)
  have lo:∀ d k,k+d=n→zR c 73 yr (Fe n m k) (aT c [] (.p (.int .i64 (Dt m d k)))):=by
    intro d
    induction d with
    | zero =>
      intro k hk
      have hd:decide ((k:Int)<(n:Int))=false:=decide_eq_false (by omega)
      refine be Tryz.func73 hc (Ms n m k) ?_
      and_intros
      all_goals (first | exact zN | (exact hd))
    | succ d ih =>
      intro k hk
      have hd:decide ((k:Int)<(n:Int))=true:=decide_eq_true (by omega)
      rw [Dt]
      cases hm:m k with
      | true =>
        rw [if_pos rfl]
        refine a7 hc (Le n m k) ?_ (ih (k+1) (by omega))
        and_intros
        all_goals (first | exact zN | (exact hd) | (rw [hm];rfl) | (intros;simp [af];done))
      | false =>
        rw [if_neg Bool.false_ne_true]
        refine be Tryz.func73 hc (Mo n m k) ?_
        and_intros
        all_goals (first | exact zN | (exact hd) | (rw [hm];rfl))
  refine a7 hc (Mq n m) ?_ (lo n 0 (by omega))
  and_intros
  all_goals (first | exact zN | (intros;simp [af];done))
theorem xW (n:Nat) (m:Nat→Bool) (hn:n≤1048576):zE 35 [EU n m,.p (.bool false)] [] (.p (.bool !(a8 m n))):=by
  have c1:=vb n m hn
  have e:=AW m n 0 (fun j hj=>absurd hj (Nat.not_lt_zero _))
  rw [Nat.zero_add] at e
  rw [← e]
  refine aW Tryz.func35 (fun c hc=>?_)
  refine be Tryz.func35 hc (LP n m (Dt m n 0)) ?_
  and_intros
  all_goals (first | exact zN | (exact c1))
def vm (g:Nat→aa) (n:Nat) (x:aa):Bool:=EZ (fun i=>mc x (g i)) n
theorem pL (p:Nat→Bool):∀ n,EZ p n=true↔∃ i,i<n∧p i=true
  | 0=>⟨fun h=>Bool.noConfusion (show false=true from h),fun ⟨i,h,_⟩=>absurd h (Nat.not_lt_zero _)⟩
  | n+1=>by
    rw [EZ,Bool.or_eq_true,pL p n]
    constructor
    · rintro (⟨i,h1,h2⟩ | h)
      · exact ⟨i,by omega,h2⟩
      · exact ⟨n,by omega,h⟩
    · rintro ⟨i,h1,h2⟩
      by_cases e:i=n
      · right;rw [← e];exact h2
      · left;exact ⟨i,by omega,h2⟩
theorem sV (g:Nat→aa) (x:aa):∀ d i,decide (kS g x d i≥0)=true↔∃ j,i≤j∧j<i+d∧mc x (g j)=true
  | 0,i=>by
    rw [kS]
    constructor
    · intro h;exact absurd h (by decide)
    · rintro ⟨j,h1,h2,_⟩;omega
  | d+1,i=>by
    rw [kS]
    by_cases h:mc x (g i)=true
    · rw [if_pos h]
      constructor
      · intro _;exact ⟨i,Nat.le_refl _,by omega,h⟩
      · intro _;exact decide_eq_true (by omega)
    · rw [if_neg h,sV g x d (i+1)]
      constructor
      · rintro ⟨j,h1,h2,h3⟩;exact ⟨j,by omega,by omega,h3⟩
      · rintro ⟨j,h1,h2,h3⟩
        refine ⟨j,?_,by omega,h3⟩
        by_cases e:j=i
        · rw [e] at h3;exact absurd h3 h
        · omega
theorem DC (g:Nat→aa) (n:Nat) (x:aa):decide (kS g x n 0≥0)=vm g n x:=by
  rw [Bool.eq_iff_iff,sV,vm,pL]
  constructor
  · rintro ⟨j,_,h2,h3⟩;exact ⟨j,by omega,h3⟩
  · rintro ⟨j,h2,h3⟩;exact ⟨j,Nat.zero_le _,by omega,h3⟩
theorem wT (v:ai) (x:aa) (hn:v.2.1.1≤1048576):zE 32 [cI v.2.1,.agg [.p (.int .i64 x.1),.p (.int .i64 x.2.1)]] [] (.p (.bool (vm v.2.1.2 v.2.1.1 x))):=by
  have c1:=mu v x hn
  rw [← DC]
  refine aW Tryz.func32 (fun c hc=>?_)
  refine be Tryz.func32 hc (Ks v x (kS v.2.1.2 x v.2.1.1 0)) ?_
  and_intros
  all_goals (first | exact zN | (exact c1))
theorem oM {f:Nat→Int} {x:Int}:∀ n,(∀ i,i<n→f i≠x)→a0 f x n=false
  | 0,_=>rfl
  | n+1,h=>by
    simp only [a0]
    rw [oM n (fun i hi=>h i (by omega)),Bool.false_or]
    exact beq_eq_false_iff_ne.2 (h n (by omega))
theorem qz {N:Int} {s:Nat→Int}:∀ n,(∀ a,a<n→0≤s a∧s a<N)→(∀ a b,a<b→b<n→s a≠s b)→eu N s n=true
  | 0,_,_=>rfl
  | n+1,h1,h2=>by
    have ih:=qz n (fun a ha=>h1 a (by omega)) (fun a b hab hb=>h2 a b hab (by omega))
    have hd:t6 N s n=false:=by
      unfold t6
      have:=h1 n (by omega)
      rw [show bC (s n) 0 (N - 1)=true by simp [bC];omega]
      show a0 s (s n) n=false
      exact oM n (fun i hi=>h2 i n hi (by omega))
    simp only [eu,ih,hd]
    rfl
theorem uf {N:Int} {l:List Int} {n:Nat} (hl:l.length=n) (h1:∀ x∈l,0≤x∧x<N) (h2:l.Nodup):eu N (lN l).2 n=true:=by
  subst hl
  refine qz _ (fun a ha=>?_) (fun a b hab hb=>?_)
  · show 0≤l.getD a 0∧l.getD a 0<N
    rw [List.getD_eq_getElem?_getD,List.getElem?_eq_getElem ha]
    exact h1 _ (List.getElem_mem ha)
  · show l.getD a 0≠l.getD b 0
    rw [List.getD_eq_getElem?_getD,List.getD_eq_getElem?_getD,List.getElem?_eq_getElem hb,List.getElem?_eq_getElem (show a<l.length by omega)]
    exact (List.pairwise_iff_getElem.1 h2) a b (by omega) hb hab
theorem Bc {α:Type} {l:List α} (h:l.length=2):∃ x y,l=[x,y]:=by
  match l,h with
  | [x,y],_=>exact ⟨x,y,rfl⟩
theorem mR {α:Type} {l:List α} (h:l.length=3):∃ x y z,l=[x,y,z]:=by
  match l,h with
  | [x,y,z],_=>exact ⟨x,y,z,rfl⟩
theorem u0 {N:Nat} {M:List (Nat×Nat)} (hs:Mat.Sparse N 2 3 M) (x:Nat×Nat) (h:2≤Mat.cnt (fun u=>u==x.1||u==x.2) M):False:=by
  have h1:=hs _ (show 0<Mat.cnt (fun u=>u==x.1||u==x.2) M by omega)
  have h2:=Mat.card_pair x.1 x.2 N
  omega
theorem mG (x:Nat×Nat):Mat.inn (fun u=>u==x.1||u==x.2) x=true:=by simp [Mat.inn]
theorem vB (x:aa):mc x x=true:=by simp [mc]
theorem sC {α:Type}:∀ (l:List α) (k:Nat) (h:k<l.length),(l[k]::l.eraseIdx k).Perm l
  | x::l,0,_=>by simp
  | x::l,k+1,h=>by
    have ih:=sC l k (by simpa using h)
    simp only [List.getElem_cons_succ,List.eraseIdx_cons_succ]
    exact (List.Perm.swap x _ _).trans (ih.cons x)
theorem Dr (n:Nat) (h:Nat→aa) (k:Nat) (hk:k<n):al (n - 1) (oz h k)=(al n h).eraseIdx k:=by
  have hl:((al n h).eraseIdx k).length=n - 1:=by rw [List.length_eraseIdx];rw [aC];simp [hk]
  refine List.ext_getElem (by rw [aC,hl]) (fun i h1 h2=>?_)
  rw [aC] at h1
  rw [List.getElem_eraseIdx]
  have e1:(al (n - 1) (oz h k))[i]'(by rw [aC];exact h1)=oz h k i:=by simp [al]
  rw [e1]
  by_cases h':i<k
  · rw [dif_pos h']
    simp [oz,h',al]
  · rw [dif_neg h']
    simp [oz,h',al,show i+1<n by omega]
theorem lH {N n:Nat} {g:Nat→aa} (h:uV N (al n g)) (p:Nat):bm g (p:Int) n=((Mat.dgL p ((al n g).map bA):Nat):Int):=by rw [r7,uN p h]
theorem Inv.keep {N n:Nat} {g:Nat→aa} (h:Inv N (n,g)) (h1:1<n) {w:Nat} (hw:Mat.tch ((al n g).map bA) w=true) {l:List aa} (hg:uV N l) (hs:Mat.Sparse N 2 3 (l.map bA)) (hn:l.length+2=n)
    (hin:∀ x∈l,x∈al n g∧bc x w=false∨(∀ t:Nat,bc x t=true→Mat.tch ((al n g).map bA) t=true∧t≠w)) :
    Mat.Full N (l.map bA)∧(∀ u,u≠w→Mat.tch ((al n g).map bA) u=true→0<Mat.dgL u (l.map bA))∧Mat.dgL w (l.map bA)=0:=by
  have hgd:uV N (al n g):=h.gd
  obtain ⟨k1,k2,k3⟩:=Mat.hen_keep (L:=(al n g).map bA) (E:=l.map bA) (v:=w) (ez hgd) (ez hg) hs h.fl (by rw [List.length_map,aC];omega) hw (by rw [List.length_map,List.length_map,aC];omega) (fun x hx=>by
    obtain ⟨y,hy,rfl⟩:=List.mem_map.1 hx
    have hb:=hg y hy
    rcases hin y hy with ⟨h2,h3⟩ | h2
    · have h4:=Mat.ends_tch (L:=(al n g).map bA) (bA y) (List.mem_map.2 ⟨y,h2,rfl⟩)
      have h5:=mh hb w
      rw [h3] at h5
      refine ⟨⟨h4.1,fun e=>?_⟩,h4.2,fun e=>?_⟩
      · rw [Mat.tb_iff.2 (.inl e)] at h5;cases h5
      · rw [Mat.tb_iff.2 (.inr e)] at h5;cases h5
    · exact ⟨h2 (bA y).1 (by rw [← mh hb];exact Mat.tb_iff.2 (.inl rfl)),h2 (bA y).2 (by rw [← mh hb];exact Mat.tb_iff.2 (.inr rfl))⟩)
  refine ⟨k1,fun u hu ht=>?_,?_⟩
  · have:=k2 u hu ht
    unfold Mat.tch at this
    exact of_decide_eq_true this
  · unfold Mat.tch at k3
    rw [decide_eq_false_iff_not] at k3
    omega
theorem kG {l:List aa} {N:Nat} (hg:uV N l) {x:aa} (hx:x∈l) {t:Nat} (ht:bc x t=true):Mat.tch (l.map bA) t=true :=
  Mat.tch_iff.2 ⟨bA x,List.mem_map.2 ⟨x,hx,rfl⟩,by rw [mh (hg x hx)];exact ht⟩
theorem gE (x:aa) (v:Int):bc x (aw x v)=true:=by
  refine (fh _ _).2 ?_
  unfold aw
  split
  · exact .inr rfl
  · exact .inl rfl
theorem lR (R:Nat→Bool) {L M F:List (Nat×Nat)} (h:L.Perm (M++F)):Mat.cnt R L=Mat.cnt R M+Mat.cnt R F:=by rw [Mat.cnt_perm R h,Mat.cnt_append]
theorem qY {N:Nat} {L M F:List (Nat×Nat)} (hs:Mat.Sparse N 2 3 L) (h:L.Perm (M++F)):Mat.Sparse N 2 3 M:=fun R hR=>by
  have e:=lR R h
  have:=hs R (by omega)
  omega
theorem pB {N n:Nat} {g:Nat→aa} (h:ah ((N:Int),(n,g),())=true):(al n g).Pairwise jg:=jv (cG h).2.2.2
theorem Ac {N n:Nat} {g:Nat→aa} (h:Inv N (n,g)) (h1:1<n) {w:Nat} {u:NB×ap} (hu:gk (ba g w n) (bq g w n) w=some u) :
    Inv N u.1∧u.1.1+2=n∧∀ E:Nat→aa,al u.1.1 E=al u.1.1 u.1.2→tD N u.1.1 E u.2=some (al n g):=by
  unfold gk at hu
  by_cases hn:(bq g w n).1=2
  case neg=>rw [if_neg hn] at hu;cases hu
  rw [if_pos hn] at hu
  cases hu
  have hgd:uV N (al n g):=h.gd
  have hp:=lZ (al n g) (w:Int)
  have hnl:=mM g (w:Int) n
  have hnn:=iL g (w:Int) n
  rw [hn] at hnl
  obtain ⟨x1,x2,hF⟩:=Bc (l:=(al n g).filter (fun x=>bc x w)) (by have:=congrArg List.length hnl;simpa using this.symm)
  rw [hF] at hnl hp
  have hnl:[(bq g w n).2 0,(bq g w n).2 1]=[aw x1 w,aw x2 w]:=hnl
  have e0:=(List.cons.inj hnl).1
  have e1:=(List.cons.inj (List.cons.inj hnl).2).1
  have m1:x1∈al n g∧bc x1 w=true:=List.mem_filter.1 (show x1∈(al n g).filter (fun x=>bc x w) by rw [hF];simp)
  have m2:x2∈al n g∧bc x2 w=true:=List.mem_filter.1 (show x2∈(al n g).filter (fun x=>bc x w) by rw [hF];simp)
  obtain ⟨b1,o1,o2,o3⟩:=gM (hgd x1 m1.1) m1.2
  obtain ⟨b2,q1,q2,q3⟩:=gM (hgd x2 m2.1) m2.2
  have hpm:=hp.map bA
  rw [List.map_append] at hpm
  have hD:=pH g (w:Int) n
  have hwN:w<N:=Mat.tch_lt (ez hgd) (kG hgd m1.1 m1.2)
  have hne:aw x1 w≠aw x2 w:=fun e=>by
    have e':x1=x2:=by rw [← b1,← b2,e]
    refine u0 h.sp (bA x1) ?_
    rw [lR _ hpm,← e']
    have:=mG (bA x1)
    simp only [List.map_cons,List.map_nil,Mat.cnt,this,Bool.toNat_true]
    omega
  have hgD:uV N ((al n g).filter (fun x=>!bc x w)):=fun x hx=>hgd x (List.mem_filter.1 hx).1
  have hsD:=qY h.sp hpm
  obtain ⟨k1,k2,k3⟩:=h.keep h1 (w:=w) (kG hgd m1.1 m1.2) (l:=(al n g).filter (fun x=>!bc x w)) hgD hsD (by rw [← hD,aC];omega) (fun x hx=>.inl ⟨(List.mem_filter.1 hx).1,by have:=(List.mem_filter.1 hx).2;simpa using this⟩)
  refine ⟨⟨pb h.gr w,by rw [hD];exact hsD,by rw [hD];exact k1⟩,by show (ba g w n).1+2=n;omega,fun E hE=>?_⟩
  have hE:al (ba g w n).1 E=(al n g).filter (fun x=>!bc x w):=hE.trans hD
  show tD N (ba g w n).1 E (1,w,(bq g w n).2 0,(bq g w n).2 1,0,())=_
  rw [e0,e1]
  unfold tD
  rw [if_neg (show ¬ ((1:Int),(w:Int),aw x1 w,aw x2 w,(0:Int),()).1=0 by show ¬ (1:Int)=0;omega),if_pos (show ((1:Int),(w:Int),aw x1 w,aw x2 w,(0:Int),()).1=1 from rfl)]
  have hgE:uV N (al (ba g w n).1 E):=by rw [hE];exact hgD
  have c1:eu (N:Int) (lN [(w:Int),aw x1 w,aw x2 w]).2 3=true:=uf rfl (fun x hx=>by
    simp only [List.mem_cons,List.not_mem_nil,or_false] at hx
    rcases hx with e | e | e<;>(subst e;omega)) (by simp [List.nodup_cons];exact ⟨⟨fun e=>o3 e.symm,fun e=>q3 e.symm⟩,hne⟩)
  have c2:bm E (w:Int) (ba g w n).1=0:=by rw [lH hgE,hE,k3];rfl
  have pos:∀ t:Int,0≤t→t≠w→(∃ x,x∈al n g∧bc x t=true)→bm E t (ba g w n).1>0:=fun t ht hne ⟨x,hx,hxt⟩=>by
    obtain ⟨t,rfl⟩:=Int.eq_ofNat_of_zero_le ht
    rw [lH hgE,hE]
    have:=k2 t (by omega) (kG hgd hx hxt)
    omega
  rw [if_pos (show (0:Int)=0∧eu (N:Int) (lN [(w:Int),aw x1 w,aw x2 w]).2 3=true∧bm E (w:Int) (ba g w n).1=0∧bm E (aw x1 w) (ba g w n).1>0∧bm E (aw x2 w) (ba g w n).1>0 from
    ⟨rfl,c1,c2,pos _ o1 o3 ⟨x1,m1.1,gE _ _⟩,pos _ q1 q3 ⟨x2,m2.1,gE _ _⟩⟩)]
  show some (bz (al (ba g w n).1 E++[aD w (aw x1 w),aD w (aw x2 w)]))=_
  rw [b1,b2,hE,← iy hp (pB h.gr)]
theorem Aw {N n:Nat} {g:Nat→aa} (h:Inv N (n,g)) (h1:1<n) {w:Nat} {x1 x2 x3:aa} (hF:(al n g).filter (fun x=>bc x w)=[x1,x2,x3]) {p q r:Int}
    (hpq:[p,q,r].Perm [aw x1 w,aw x2 w,aw x3 w]) (hs:lg N (uP (ba g w n) (aD p q))=true) :
    Inv N (uP (ba g w n) (aD p q))∧(uP (ba g w n) (aD p q)).1+2=n∧∀ E:Nat→aa,al (uP (ba g w n) (aD p q)).1 E=al (uP (ba g w n) (aD p q)).1 (uP (ba g w n) (aD p q)).2 →
      tD N (uP (ba g w n) (aD p q)).1 E (2,w,(aD p q).1,(aD p q).2.1,r,())=some (al n g):=by
  have hgd:uV N (al n g):=h.gd
  have hp:=lZ (al n g) (w:Int)
  have hnl:=mM g (w:Int) n
  have hnn:=iL g (w:Int) n
  rw [hF] at hnl hp
  have hlen:=congrArg List.length hnl
  simp only [List.length_map,List.length_range,List.length_cons,List.length_nil] at hlen
  have mem:∀ x∈[x1,x2,x3],x∈al n g∧bc x w=true:=fun x hx=>List.mem_filter.1 (by rw [hF];exact hx)
  have m1:=mem x1 (by simp)
  have m2:=mem x2 (by simp)
  have m3:=mem x3 (by simp)
  obtain ⟨b1,o1⟩:=gM (hgd x1 m1.1) m1.2
  obtain ⟨b2,o2⟩:=gM (hgd x2 m2.1) m2.2
  obtain ⟨b3,o3⟩:=gM (hgd x3 m3.1) m3.2
  have hpm:=hp.map bA
  rw [List.map_append] at hpm
  have hD:=pH g (w:Int) n
  have tw:=kG hgd m1.1 m1.2
  have hwN:w<N:=Mat.tch_lt (ez hgd) tw
  have dis:∀ x y z:aa,[x1,x2,x3].Perm [x,y,z]→aD w (aw x w)=x→aD w (aw y w)=y→aw x w≠aw y w:=fun x y z hpp ex ey e=>by
    have e':x=y:=by rw [← ex,← ey,e]
    refine u0 h.sp (bA x) ?_
    rw [lR _ hpm,Mat.cnt_perm _ (hpp.map bA),← e']
    have:=mG (bA x)
    simp only [List.map_cons,List.map_nil,Mat.cnt,this,Bool.toNat_true]
    omega
  have nd:[aw x1 w,aw x2 w,aw x3 w].Nodup:=by
    have d12:=dis x1 x2 x3 (List.Perm.refl _) b1 b2
    have d13:=dis x1 x3 x2 ((List.Perm.swap x3 x2 []).cons x1) b1 b3
    have d23:=dis x2 x3 x1 ((List.Perm.swap x2 x1 [x3]).trans ((List.Perm.swap x3 x1 []).cons x2)) b2 b3
    simp [List.nodup_cons,d12,d13,d23]
  have ndp:[p,q,r].Nodup:=hpq.nodup_iff.2 nd
  have inr:∀ t∈[p,q,r],(0≤t∧t<N)∧t≠w∧∃ x,x∈al n g∧bc x t=true:=fun t ht=>by
    have:=hpq.mem_iff.1 ht
    simp only [List.mem_cons,List.not_mem_nil,or_false] at this
    rcases this with e | e | e
    · subst e;exact ⟨⟨o1.1,o1.2.1⟩,o1.2.2,x1,m1.1,gE _ _⟩
    · subst e;exact ⟨⟨o2.1,o2.2.1⟩,o2.2.2,x2,m2.1,gE _ _⟩
    · subst e;exact ⟨⟨o3.1,o3.2.1⟩,o3.2.2,x3,m3.1,gE _ _⟩
  have ip:=inr p (by simp)
  have iq:=inr q (by simp)
  have ir:=inr r (by simp)
  have hpqne:p≠q:=by simp [List.nodup_cons] at ndp;exact ndp.1.1
  have yin:=hU (N:=(N:Int)) ip.1 iq.1 hpqne
  obtain ⟨y,hy⟩:∃ y,y=aD p q:=⟨_,rfl⟩
  have yends:[y.1,y.2.1].Perm [p,q]:=by
    rw [hy]
    by_cases e:q<p
    · have:aD p q=(q,p,()):=by unfold aD;rw [if_pos e,if_neg (show ¬ q>p by omega)]
      rw [this];exact List.Perm.swap _ _ _
    · have:aD p q=(p,q,()):=eb (by omega)
      rw [this]
  rw [← hy] at yin hs ⊢
  have hD2:al ((ba g w n).1+1) (df ((ba g w n).1+1) (aZ (ba g w n).1 (ba g w n).2 y))=bz ((al n g).filter (fun x=>!bc x w)++[y]):=by rw [mg,cD,hD]
  have hper:(bz ((al n g).filter (fun x=>!bc x w)++[y])).Perm ((al n g).filter (fun x=>!bc x w)++[y]):=fj _
  have hgr:ah ((N:Int),uP (ba g w n) y,())=true∧(mq (uP (ba g w n) y).2 (uP (ba g w n) y).1 N 2 3 (2 ^ N - 1) 1).2=false:=by
    unfold lg at hs
    cases hg:ah ((N:Int),((uP (ba g w n) y).1,(uP (ba g w n) y).2),()) with
    | false=>rw [hg] at hs;cases hs
    | true=>rw [hg] at hs;exact ⟨by first | rfl | exact hg,by simpa using hs⟩
  obtain ⟨hg,hov⟩:=hgr
  obtain ⟨gN,_,gok⟩:=az (nb:=(uP (ba g w n) y).1) (g:=(uP (ba g w n) y).2) hg
  have hsp:=(iX gok gN.2).1 hov
  rw [eQ] at hsp
  have hsp:Mat.Sparse N 2 3 ((bz ((al n g).filter (fun x=>!bc x w)++[y])).map bA):=by rw [← hD2];exact hsp
  have hgU:uV N (bz ((al n g).filter (fun x=>!bc x w)++[y])):=fun x hx=>by
    have:=hper.mem_iff.1 hx
    rw [List.mem_append] at this
    rcases this with e | e
    · exact hgd x (List.mem_filter.1 e).1
    · rw [List.mem_singleton] at e
      subst e;exact yin
  have hlU:(bz ((al n g).filter (fun x=>!bc x w)++[y])).length+2=n:=by
    rw [cq,List.length_append,← hD,aC]
    simp only [List.length_cons,List.length_nil]
    omega
  obtain ⟨k1,k2,k3⟩:=h.keep h1 (w:=w) tw (l:=bz ((al n g).filter (fun x=>!bc x w)++[y])) hgU hsp hlU (fun x hx=>by
    have:=hper.mem_iff.1 hx
    rw [List.mem_append] at this
    rcases this with e | e
    · exact .inl ⟨(List.mem_filter.1 e).1,by have:=(List.mem_filter.1 e).2;simpa using this⟩
    · rw [List.mem_singleton] at e
      subst e
      refine .inr (fun t ht=>?_)
      have h2:(t:Int)∈[x.1,x.2.1]:=by
        rcases (fh _ _).1 ht with e | e
        · rw [e];simp
        · rw [e];simp
      have h3:=yends.mem_iff.1 h2
      have h4:=inr (t:Int) (by
        simp only [List.mem_cons,List.not_mem_nil,or_false] at h3 ⊢
        rcases h3 with e | e
        · exact .inl e
        · exact .inr (.inl e))
      obtain ⟨_,hne,z,z1,z2⟩:=h4
      exact ⟨kG hgd z1 z2,by omega⟩)
  refine ⟨⟨hg,?_,?_⟩,?_,fun E hE=>?_⟩
  · show Mat.Sparse N 2 3 ((al ((ba g w n).1+1) (df ((ba g w n).1+1) (aZ (ba g w n).1 (ba g w n).2 y))).map bA)
    rw [hD2];exact hsp
  · show Mat.Full N ((al ((ba g w n).1+1) (df ((ba g w n).1+1) (aZ (ba g w n).1 (ba g w n).2 y))).map bA)
    rw [hD2];exact k1
  · show (ba g w n).1+1+2=n
    omega
  have hE:al ((ba g w n).1+1) E=bz ((al n g).filter (fun x=>!bc x w)++[y]):=by rw [← hD2];exact hE
  show tD N ((ba g w n).1+1) E (2,w,y.1,y.2.1,r,())=_
  generalize hk:(ba g w n).1+1=k at hE
  have hgE:uV N (al k E):=by rw [hE];exact hgU
  unfold tD
  rw [if_neg (show ¬ ((2:Int),(w:Int),y.1,y.2.1,r,()).1=0 by show ¬ (2:Int)=0;omega),if_neg (show ¬ ((2:Int),(w:Int),y.1,y.2.1,r,()).1=1 by show ¬ (2:Int)=1;omega),if_pos (show ((2:Int),(w:Int),y.1,y.2.1,r,()).1=2 from rfl)]
  have ey:aD y.1 y.2.1=y:=eb yin.2.1
  have c2:bm E (w:Int) k=0:=by rw [lH hgE,hE,k3];rfl
  have c3:bm E r k>0:=by
    obtain ⟨⟨r1,r2⟩,r3,x,x1',x2'⟩:=ir
    obtain ⟨t,rfl⟩:=Int.eq_ofNat_of_zero_le r1
    rw [lH hgE,hE]
    have:=k2 t (by omega) (kG hgd x1' x2')
    omega
  have per3:[y.1,y.2.1,r].Perm [p,q,r]:=yends.append_right [r]
  have c1:eu (N:Int) (lN [(w:Int),y.1,y.2.1,r]).2 4=true:=uf rfl (fun x hx=>by
    rw [List.mem_cons] at hx
    rcases hx with e | e
    · subst e;omega
    · exact (inr x (per3.mem_iff.1 e)).1) (by
    rw [List.nodup_cons]
    exact ⟨fun hm=>(inr _ (per3.mem_iff.1 hm)).2.1 rfl,per3.nodup_iff.2 ndp⟩)
  have hyE:y∈al k E:=by rw [hE];exact hper.mem_iff.2 (by simp)
  have c0:kS E y k 0≥0:=by
    obtain ⟨j,j1,j2⟩:=gQ hyE
    have:=(sV E y k 0).2 ⟨j,Nat.zero_le _,by omega,by rw [j2];exact vB y⟩
    exact of_decide_eq_true this
  obtain ⟨i0,i1⟩:(kS E y k 0).toNat<k∧E (kS E y k 0).toNat=y:=by
    rcases uL E y k 0 with e | ⟨e1,e2,e3⟩
    · omega
    · exact ⟨by omega,(B9 e3).symm⟩
  rw [if_pos (show kS E (aD y.1 y.2.1) k 0≥0∧eu (N:Int) (lN [(w:Int),y.1,y.2.1,r]).2 4=true∧bm E (w:Int) k=0∧bm E r k>0 from ⟨by rw [ey];exact c0,c1,c2,c3⟩)]
  show some (bz (al (k - 1) (oz E (kS E (aD y.1 y.2.1) k 0).toNat)++[aD w y.1,aD w y.2.1,aD w r]))=_
  rw [ey,Dr k E _ i0]
  have pe:=sC (al k E) (kS E y k 0).toNat (by rw [aC];exact i0)
  have ge:(al k E)[(kS E y k 0).toNat]'(by rw [aC];exact i0)=y:=by simp [al,i1]
  rw [ge] at pe
  have pd:((al k E).eraseIdx (kS E y k 0).toNat).Perm ((al n g).filter (fun x=>!bc x w)):=by
    have h2:=pe.trans (show (al k E).Perm ((al n g).filter (fun x=>!bc x w)++[y]) by rw [hE];exact hper)
    exact (h2.trans (List.perm_append_comm (l₁:=(al n g).filter (fun x=>!bc x w)) (l₂:=[y]))).cons_inv
  have p3:[aD w y.1,aD w y.2.1,aD w r].Perm [x1,x2,x3]:=by
    have h2:=(per3.trans hpq).map (fun t=>aD w t)
    simp only [List.map_cons,List.map_nil] at h2
    rw [b1,b2,b3] at h2
    exact h2
  have:=iy (hp.trans ((pd.append p3).symm)) (pB h.gr)
  rw [← this]
theorem yz {N n:Nat} {g:Nat→aa} (h:Inv N (n,g)) (h1:1<n) {u:NB×ap} (hu:i7 N g n=some u) :
    Inv N u.1∧u.1.1+2=n∧∀ E:Nat→aa,al u.1.1 E=al u.1.1 u.1.2→tD N u.1.1 E u.2=some (al n g):=by
  unfold i7 at hu
  cases h2:b7 (fun v=>gk (ba g v n) (bq g v n) v) N 0 with
  | some x =>
    rw [h2,Option.some_or] at hu
    cases hu
    obtain ⟨w,hw⟩:=d9 _ _ h2
    exact Ac h h1 hw
  | none =>
    rw [h2,Option.none_or] at hu
    obtain ⟨w,hw⟩:=d9 _ _ hu
    unfold ec at hw
    by_cases hn:(bq g w n).1=3
    case neg=>rw [if_neg hn] at hw;cases hw
    rw [if_pos hn] at hw
    have hnl:=mM g (w:Int) n
    rw [hn] at hnl
    obtain ⟨x1,x2,x3,hF⟩:=mR (l:=(al n g).filter (fun x=>bc x w)) (by have:=congrArg List.length hnl;simpa using this.symm)
    rw [hF] at hnl
    have hnl:[(bq g w n).2 0,(bq g w n).2 1,(bq g w n).2 2]=[aw x1 w,aw x2 w,aw x3 w]:=hnl
    have e0:=(List.cons.inj hnl).1
    have e1:=(List.cons.inj (List.cons.inj hnl).2).1
    have e2:=(List.cons.inj (List.cons.inj (List.cons.inj hnl).2).2).1
    rw [e0,e1,e2] at hw
    have one:∀ p q r:Int,[p,q,r].Perm [aw x1 w,aw x2 w,aw x3 w]→dU N (ba g w n) w p q r=some u→Inv N u.1∧u.1.1+2=n∧∀ E:Nat→aa,al u.1.1 E=al u.1.1 u.1.2→tD N u.1.1 E u.2=some (al n g):=fun p q r hp ht=>by
      unfold dU at ht
      cases hs:lg N (uP (ba g w n) (aD p q)) with
      | false=>rw [hs] at ht;cases ht
      | true =>
        rw [hs] at ht
        simp only [cond_true,Option.some.injEq] at ht
        subst ht
        exact Aw h h1 hF hp hs
    cases t0:dU N (ba g w n) w (aw x1 w) (aw x2 w) (aw x3 w) with
    | some x=>rw [t0,Option.some_or] at hw;cases hw;exact one _ _ _ (List.Perm.refl _) t0
    | none =>
      rw [t0,Option.none_or] at hw
      cases t1:dU N (ba g w n) w (aw x2 w) (aw x3 w) (aw x1 w) with
      | some x=>rw [t1,Option.some_or] at hw;cases hw;exact one _ _ _ (((List.Perm.swap (aw x1 w) (aw x3 w) []).cons _).trans (List.Perm.swap (aw x1 w) (aw x2 w) _)) t1
      | none =>
        rw [t1,Option.none_or] at hw
        exact one _ _ _ ((List.Perm.swap (aw x1 w) (aw x3 w) _).trans ((List.Perm.swap (aw x2 w) (aw x3 w) []).cons _)) hw
theorem kw {α:Type} {F:Nat→Option α}:∀ d v w,v≤w→w<v+d→(∃ u,F w=some u)→∃ u,b7 F d v=some u
  | 0,v,w,h1,h2,_=>by omega
  | d+1,v,w,h1,h2,h3=>by
    rw [show b7 F (d+1) v=(F v).or (b7 F d (v+1)) from rfl]
    cases hv:F v with
    | some x=>exact ⟨x,rfl⟩
    | none =>
      rw [Option.none_or]
      refine kw d (v+1) w ?_ (by omega) h3
      by_cases e:w=v
      · subst e
        obtain ⟨u,hu⟩:=h3
        rw [hu] at hv;cases hv
      · omega
theorem yp {N n:Nat} {g:Nat→aa} (h:Inv N (n,g)) (h1:1<n):∃ u,i7 N g n=some u:=by
  have hgd:uV N (al n g):=h.gd
  have hodd:=h.len
  obtain ⟨gN,gnb,gok⟩:=az (nb:=n) (g:=g) h.gr
  have hle:=h.le
  obtain ⟨v,hv,hd⟩:=Mat.deg_some h.sp (ez hgd) h.fl (by rw [List.length_map,aC];show 2≤n;omega)
  have hnl:=mM g (v:Int) n
  have hnr:(bq g v n).1=Mat.dgL v ((al n g).map bA):=by
    rw [uN v hgd]
    have:=congrArg List.length hnl
    simpa using this
  have hd:Mat.dgL v ((al n g).map bA)=2∨Mat.dgL v ((al n g).map bA)=3:=hd
  unfold i7
  rcases hd with hd | hd
  · obtain ⟨u,hu⟩:=kw (F:=fun v=>gk (ba g v n) (bq g v n) v) N 0 v (Nat.zero_le _) (by omega) ⟨_,by unfold gk;rw [if_pos (by omega)]⟩
    exact ⟨u,by rw [hu,Option.some_or]⟩
  · cases h2:b7 (fun v=>gk (ba g v n) (bq g v n) v) N 0 with
    | some x=>exact ⟨x,by rw [Option.some_or]⟩
    | none =>
      rw [Option.none_or]
      refine kw (F:=fun v=>ec N (ba g v n) (bq g v n) v) N 0 v (Nat.zero_le _) (by omega) ?_
      have hn3:(bq g v n).1=3:=by omega
      rw [hn3] at hnl
      obtain ⟨x1,x2,x3,hF⟩:=mR (l:=(al n g).filter (fun x=>bc x v)) (by have:=congrArg List.length hnl;simpa using this.symm)
      rw [hF] at hnl
      have hnl:[(bq g v n).2 0,(bq g v n).2 1,(bq g v n).2 2]=[aw x1 v,aw x2 v,aw x3 v]:=hnl
      have e0:=(List.cons.inj hnl).1
      have e1:=(List.cons.inj (List.cons.inj hnl).2).1
      have e2:=(List.cons.inj (List.cons.inj (List.cons.inj hnl).2).2).1
      have hp:=lZ (al n g) (v:Int)
      rw [hF] at hp
      have hnn:=iL g (v:Int) n
      have mem:∀ x∈[x1,x2,x3],x∈al n g∧bc x v=true:=fun x hx=>List.mem_filter.1 (by rw [hF];exact hx)
      have m1:=mem x1 (by simp)
      have m2:=mem x2 (by simp)
      have m3:=mem x3 (by simp)
      obtain ⟨b1,o1⟩:=gM (hgd x1 m1.1) m1.2
      obtain ⟨b2,o2⟩:=gM (hgd x2 m2.1) m2.2
      obtain ⟨b3,o3⟩:=gM (hgd x3 m3.1) m3.2
      have hpm:=hp.map bA
      rw [List.map_append] at hpm
      have dis:∀ x y z:aa,[x1,x2,x3].Perm [x,y,z]→aD v (aw x v)=x→aD v (aw y v)=y→aw x v≠aw y v:=fun x y z hpp ex ey e=>by
        have e':x=y:=by rw [← ex,← ey,e]
        refine u0 h.sp (bA x) ?_
        rw [lR _ hpm,Mat.cnt_perm _ (hpp.map bA),← e']
        have:=mG (bA x)
        simp only [List.map_cons,List.map_nil,Mat.cnt,this,Bool.toNat_true]
        omega
      have d12:=dis x1 x2 x3 (List.Perm.refl _) b1 b2
      have d13:=dis x1 x3 x2 ((List.Perm.swap x3 x2 []).cons x1) b1 b3
      have d23:=dis x2 x3 x1 ((List.Perm.swap x2 x1 [x3]).trans ((List.Perm.swap x3 x1 []).cons x2)) b2 b3
      have hD:=pH g (v:Int) n
      have hsD:=qY h.sp hpm
      have nat:∀ (x:aa) (a:Int),aD v a=x→0≤a→a≠v→bA x=(v,a.toNat)∨bA x=(a.toNat,v):=fun x a e ha hne=>by
        rw [← e]
        by_cases hl:a<v
        · have:aD (v:Int) a=(a,(v:Int),()):=by rw [wa];exact eb hl
          rw [this];exact .inr rfl
        · have:aD (v:Int) a=((v:Int),a,()):=eb (by omega)
          rw [this];exact .inl rfl
      have key:=Mat.hen3 h.sp hsD hpm hv (show (aw x1 v).toNat<N by omega) (show (aw x2 v).toNat<N by omega) (show (aw x3 v).toNat<N by omega) (by omega) (by omega) (by omega)
        (nat x1 _ b1 o1.1 o1.2.2) (nat x2 _ b2 o2.1 o2.2.2) (nat x3 _ b3 o3.1 o3.2.2)
      have good:∀ p q:Int,(0≤p∧p<N)→(0≤q∧q<N)→p≠q→¬ Mat.Imp N (((al n g).filter (fun x=>!bc x v)).map bA) p.toNat q.toNat→lg N (uP (ba g v n) (aD p q))=true:=fun p q hp hq hne hi=>by
        have yin:=hU (N:=(N:Int)) hp hq hne
        have hx:Mat.GoodBar N (bA (aD p q)):=by unfold Mat.GoodBar bA;simp only;omega
        have hs:=Mat.ext_sparse hsD hx (fun hI=>hi (by
          by_cases e:q<p
          · have:aD p q=(q,p,()):=by rw [wa];exact eb e
            rw [this] at hI
            obtain ⟨R,t,r1,r2⟩:=hI
            exact ⟨R,t,r2,r1⟩
          · have:aD p q=(p,q,()):=eb (by omega)
            rw [this] at hI
            exact hI))
        have hD2:al ((ba g v n).1+1) (df ((ba g v n).1+1) (aZ (ba g v n).1 (ba g v n).2 (aD p q)))=bz ((al n g).filter (fun x=>!bc x v)++[aD p q]):=by rw [mg,cD,hD]
        have hg:ah ((N:Int),((uP (ba g v n) (aD p q)).1,(uP (ba g v n) (aD p q)).2),())=true:=l6 (nb:=0) (g:=fun _=>(0,0,())) gN (by show (ba g v n).1+1≤24;omega) hD2 (fun x hx=>by
          rw [List.mem_append] at hx
          rcases hx with e | e
          · exact hgd x (List.mem_filter.1 e).1
          · rw [List.mem_singleton] at e
            subst e;exact yin)
        obtain ⟨_,_,ok⟩:=az hg
        unfold lg
        rw [hg]
        have hsp:Mat.Sparse N 2 3 (bL (uP (ba g v n) (aD p q)).2 (uP (ba g v n) (aD p q)).1):=by
          rw [eQ]
          show Mat.Sparse N 2 3 ((al ((ba g v n).1+1) (df ((ba g v n).1+1) (aZ (ba g v n).1 (ba g v n).2 (aD p q)))).map bA)
          rw [hD2]
          refine Mat.sparse_perm (((fj _).map bA).symm) ?_
          rw [List.map_append]
          exact hs
        rw [(iX ok gN.2).2 hsp]
        rfl
      show ∃ u,ec N (ba g v n) (bq g v n) v=some u
      unfold ec
      rw [if_pos hn3,e0,e1,e2]
      by_cases i1:Mat.Imp N (((al n g).filter (fun x=>!bc x v)).map bA) (aw x1 v).toNat (aw x2 v).toNat
      · by_cases i3:Mat.Imp N (((al n g).filter (fun x=>!bc x v)).map bA) (aw x2 v).toNat (aw x3 v).toNat
        · have i2:¬ Mat.Imp N (((al n g).filter (fun x=>!bc x v)).map bA) (aw x3 v).toNat (aw x1 v).toNat:=fun ⟨R,t,r1,r2⟩=>key ⟨i1,⟨R,t,r2,r1⟩,i3⟩
          have:=good _ _ ⟨o3.1,o3.2.1⟩ ⟨o1.1,o1.2.1⟩ (fun e=>d13 e.symm) i2
          have e3:dU N (ba g v n) v (aw x3 v) (aw x1 v) (aw x2 v)=some (uP (ba g v n) (aD (aw x3 v) (aw x1 v)),(2,(v:Int),(aD (aw x3 v) (aw x1 v)).1,(aD (aw x3 v) (aw x1 v)).2.1,aw x2 v,())):=by unfold dU;rw [this];rfl
          rw [e3]
          cases dU N (ba g v n) v (aw x1 v) (aw x2 v) (aw x3 v) with
          | some x=>exact ⟨x,rfl⟩
          | none =>
            rw [Option.none_or]
            cases dU N (ba g v n) v (aw x2 v) (aw x3 v) (aw x1 v) with
            | some x=>exact ⟨x,rfl⟩
            | none=>exact ⟨_,rfl⟩
        · have:=good _ _ ⟨o2.1,o2.2.1⟩ ⟨o3.1,o3.2.1⟩ d23 i3
          have e3:dU N (ba g v n) v (aw x2 v) (aw x3 v) (aw x1 v)=some (uP (ba g v n) (aD (aw x2 v) (aw x3 v)),(2,(v:Int),(aD (aw x2 v) (aw x3 v)).1,(aD (aw x2 v) (aw x3 v)).2.1,aw x1 v,())):=by unfold dU;rw [this];rfl
          rw [e3]
          cases dU N (ba g v n) v (aw x1 v) (aw x2 v) (aw x3 v) with
          | some x=>exact ⟨x,rfl⟩
          | none=>exact ⟨_,rfl⟩
      · have:=good _ _ ⟨o1.1,o1.2.1⟩ ⟨o2.1,o2.2.1⟩ d12 i1
        exact ⟨_,by unfold dU;rw [this];rfl⟩
def EM (N:Int) (u:ad):AV:=if CK N u.2 u.1=true then .tup [.ar 1 0 0 (eU u.2 u.1),.p (.bool true)] else .tup [.p .nil,.p (.bool false)]
def E7 (N:Int) (u:ad):List (Nat×Ob):=if CK N u.2 u.1=true then [(0,iJ (eU u.2 u.1) (gp u.2 u.1))] else []
theorem uM (v:ai) (u:ad) (h1:1≤v.1) (h2:v.1≤8) (hu:u.1≤1048576) :
    zE 33 [aJ v,ew u] (E7 v.1 u) (EM v.1 u):=by
  refine aW Tryz.func33 (fun c hc=>?_)
  have lo:∀ d k,k+d=u.1→CK v.1 u.2 k=true→zR c 33 qP (CW v u (eU u.2 k) (gp u.2 k) (lw u.2 k) k) (aT c (E7 v.1 u) (EM v.1 u)):=by
    intro d
    induction d with
    | zero =>
      intro k hk hb
      obtain rfl:k=u.1:=by omega
      have hd:decide ((u.1:Int)<(u.1:Int))=false:=decide_eq_false (by omega)
      unfold EM E7
      rw [if_pos hb,if_pos hb]
      refine be Tryz.func33 hc (ME v u (eU u.2 u.1) (gp u.2 u.1) (lw u.2 u.1) u.1) ?_
      and_intros
      iterate 2 all_goals (first | exact zN | (exact hd) | (intro t ht;simp [af];done) | simp only [af])
    | succ d ih =>
      intro k hk hb
      have hd:decide ((k:Int)<(u.1:Int))=true:=decide_eq_true (by omega)
      have hsl:=uD u.2 k
      have hnl:=uv u.2 k
      have hcl:=ut u.2 k
      by_cases hm:u.2 k = -1
      · have hne:(!(u.2 k == -1))=false:=by rw [hm];rfl
        have cd:=bJ v (lw u.2 k) h1 h2 (by omega)
        cases hq:wN v.1 (lw u.2 k) with
        | true =>
          have hr:=ih (k+1) (by omega) (CS hb (.inr hq))
          obtain ⟨e1,e2,e3⟩:=rD hm
          rw [e1,e2,e3] at hr
          generalize lw u.2 k=s at *
          generalize eU u.2 k=cn at *
          generalize gp u.2 k=C at *
          have h3:decide ((s.1:Int)<2)=false:=by
            unfold wN at hq
            cases h:decide ((s.1:Int)<2) with
            | false=>rfl
            | true=>rw [h] at hq;cases hq
          have h4:eu v.1 s.2 s.1=true:=by unfold wN at hq;rw [h3] at hq;exact hq
          rw [h4] at cd
          refine a7 hc (N9 v u cn C s k) ?_ hr
          and_intros
          iterate 2 all_goals (first | exact zH | (exact hd) | (exact hne) | (exact cd) | (intros;exact cd) | (rw [h3];rfl) | (intro t ht;exact absurd ht (Nat.not_lt_zero _)) | (intro t ht;simp [af];done) | (intro j hj;by_cases h:j<cn<;>simp [h,b8,ay,bh,eC,bF,ed,iG,dd,sJ,sQ,sR,Ob.isF,List.lookup,aY,tg,bu,af]) | simp only [af])
        | false =>
          unfold EM E7
          have hf:=GO (N:=v.1) hm hq (u.1 - (k+1))
          rw [show k+1+(u.1 - (k+1))=u.1 by omega] at hf
          rw [if_neg (by rw [hf];exact Bool.false_ne_true),if_neg (by rw [hf];exact Bool.false_ne_true)]
          generalize lw u.2 k=s at *
          generalize eU u.2 k=cn at *
          generalize gp u.2 k=C at *
          have hx:(bif decide ((s.1:Int)<2) then true else !eu v.1 s.2 s.1)=true:=by
            unfold wN at hq;revert hq
            cases decide ((s.1:Int)<2)<;>cases eu v.1 s.2 s.1<;>intro hq<;>first | rfl | cases hq
          refine bB Tryz.func33 hc (Ma v u cn C s k (eu v.1 s.2 s.1)) ?_
          and_intros
          all_goals (first | exact zH | (exact hd) | (exact hne) | (exact hx) | (exact cd) | (intros;exact cd))
      · have hne:(!(u.2 k == -1))=true:=by rw [beq_eq_false_iff_ne.2 hm];rfl
        have hr:=ih (k+1) (by omega) (CS hb (.inl hm))
        obtain ⟨e1,e2,e3⟩:=wq hm
        rw [e1,e2,e3] at hr
        generalize lw u.2 k=s at *
        generalize eU u.2 k=cn at *
        generalize gp u.2 k=C at *
        refine a7 hc (Oe v u cn C s k) ?_ hr
        and_intros
        all_goals (first | exact zN | (exact hd) | (exact hne) | (intro t ht;simp [af];done) | (intro j hj;by_cases h:j<s.1<;>(simp [h,FY,ay,bh,tg,bu,af];done)))
  refine a7 hc (MZ v u) ?_ (lo u.1 0 (by omega) rfl)
  and_intros
  iterate 2 all_goals (first | exact zN | (intro t ht;exact absurd ht (Nat.not_lt_zero _)) | (intro t ht;simp [af];done) | simp only [af])
theorem LN (x:Int):(if True then if x>0 then x else 0 else if x<0 then x else 0)=max 0 x:=by
  rw [if_pos trivial];split<;>omega
def xh (v:ai) (cn:Nat) (C:Nat→ad):Bool :=
  a8 (fun i=>wN v.1 (C i)) cn&&(lh v.2.1.2 v.2.1.1 cn C&&decide (dh C cn<max 0 (2*v.1 - 3)))
def Hq (g:Nat→aa) (pl:Nat→ae) (w:ad) (v:Nat):Nat→Int
  | 0=>0
  | k+1=>if lj (g k) v=true then Hq g pl w v k+w.2 k*((pl v).1 - (pl (if (g k).1=v then (g k).2.1.toNat else (g k).1.toNat)).1) else Hq g pl w v k
def IZ (g:Nat→aa) (pl:Nat→ae) (w:ad) (v:Nat):Nat→Int
  | 0=>0
  | k+1=>if lj (g k) v=true then IZ g pl w v k+w.2 k*((pl v).2.1 - (pl (if (g k).1=v then (g k).2.1.toNat else (g k).1.toNat)).2.1) else IZ g pl w v k
def Im (g:Nat→aa) (nb:Nat) (N:Int) (pl:Nat→ae) (np:Nat) (w:ad):Bool:=bif fZ g nb N pl np then By w (nb:Int) else false
def NW (g:Nat→aa) (nb:Nat) (pl:Nat→ae) (w:ad) (v:Nat):Bool:=(Hq g pl w v nb==0)&&(IZ g pl w v nb==0)
def Ic (g:Nat→aa) (nb:Nat) (N:Int) (pl:Nat→ae) (np:Nat) (w:ad):Bool:=Im g nb N pl np w&&a8 (NW g nb pl w) N.toNat
def ML (w:ad) (i:Nat):Bool:=bC (w.2 i) 0 2
def JD (g:Nat→aa) (nb:Nat) (N:Int) (pl:Nat→ae) (np:Nat) (w:ad):Bool:=a8 (ML w) w.1&&(bif fZ g nb N pl np then (w.1:Int)==(nb:Int) else false)
def HQ (K w:ad) (i:Nat):Bool:=bif (bif K.2 i==1 then decide (w.2 i<0) else false) then true else (bif K.2 i==2 then decide (w.2 i>0) else false)
def He (K w:ad) (i:Nat):Bool:=bif !(K.2 i==0) then w.2 i==0 else false
def HM (K:ad) (x:Int) (i:Nat):Bool:=bif (bif (bif K.2 i==0 then !(x==0) else false) then true else (bif K.2 i==1 then decide (x>0) else false)) then true else (bif K.2 i==2 then decide (x<0) else false)
def IQ (g:Nat→aa) (nb:Nat) (N:Int) (pl:Nat→ae) (np:Nat) (K w:ad):Bool :=
  (bif JD g nb N pl np K then Ic g nb N pl np w else false)&&a8 (fun i=>!HQ K w i) nb
def Ge (g:Nat→aa) (nb:Nat) (N:Int) (pl:Nat→ae) (np:Nat) (K w:ad):Bool:=IQ g nb N pl np K w&&a8 (fun i=>!He K w i) nb
def OB (g:Nat→aa) (pl:Nat→ae) (v:ad) (i:Nat):Int:=G6 pl v (g i).1.toNat (g i).2.1.toNat
def Jb (g:Nat→aa) (nb:Nat) (N:Int) (pl:Nat→ae) (np:Nat) (K v:ad):Bool :=
  (bif JD g nb N pl np K then kj g nb N pl np v else false)&&a8 (fun i=>!HM K (OB g pl v i) i) nb
def HL (v u:ai):Bool:=bif v.1==u.1 then DL v.2.1 u.2.1 else false
def J0 (n:Nat) (m:Nat→Bool):Ob:=⟨false,1,n,fun i=>[.p (.bool (m i))]⟩
def Hz (g1:Nat→aa) (nb1:Nat) (N1:Int):Ob:=⟨true,2,1,fun _=>[.p (.int .i64 N1),b4 g1 nb1]⟩
def Ff (g1:Nat→aa) (nb1:Nat) (N1:Int) (D:NB) (i:Nat):St :=
  ⟨[.p .any,.p .any,.p .any,.pt 2 0 0 0]++List.replicate 49 ag++[.ar 2 1 0 D.1,.p (.int .i64 D.1),.p (.int .i64 i)]++List.replicate 107 ag,[(0,Hz g1 nb1 N1),(1,aj D.1 D.2)],2⟩
def Gt (g1:Nat→aa) (nb1:Nat) (N1:Int) (s:Int) (m:Nat→Bool) (cn:Nat) (C:Nat→ad) (i:Nat):St :=
  ⟨[.p .any,.p .any,.p .any,.pt 2 0 0 0,.p .any,.p .any,.p .any,.p .any,.p .any,.p .any,.p (.int .i64 s),.ar 1 1 0 nb1]++List.replicate 71 ag++[.ar 1 2 0 cn,.p (.int .i64 cn),.p (.int .i64 i)]++List.replicate 77 ag,[(0,Hz g1 nb1 N1),(1,J0 nb1 m),(2,iJ cn C)],3⟩
def FI (g1:Nat→aa) (nb1:Nat) (N1:Int) (s:Int) (m:Nat→Bool) (cn:Nat) (C:Nat→ad) (i:Nat) (T:ad) (t:Nat):St :=
  ⟨[.p .any,.p .any,.p .any,.pt 2 0 0 0,.p .any,.p .any,.p .any,.p .any,.p .any,.p .any,.p (.int .i64 s),.ar 1 1 0 nb1]++List.replicate 71 ag++[.ar 1 2 0 cn,.p (.int .i64 cn),.p (.int .i64 i)]++List.replicate 11 ag++[.ar 1 3 0 T.1,.p (.int .i64 T.1),.p (.int .i64 t)]++List.replicate 63 ag,[(0,Hz g1 nb1 N1),(1,J0 nb1 m),(2,iJ cn C),(3,aY T.1 T.2)],4⟩
theorem Jf (K:Int) (g1:Nat→aa) (nb1:Nat) (N1:Int) (g:Nat→aa) (nb:Nat) (N:Int) (pl:Nat→ae) (np:Nat) (w:ad) (v:aU) (u:ad) :
    zS Tryz.f7 [rg 2,rg 4,rg 2,rg 2,.dec true,.dec true,rm [(1,oc [] (jB false))] 1,.dec true,rg 1] [xw K g1 nb1 N1 g nb N pl np w v u] [] [] (jB false) =
    some (zD [(NT 0 1),((true=true)→(AN 1)),((K==1)=true),zE 23 [(b9 N1 nb1 g1)] [] (jB false),((!false)=true),(false=false)] [0,0,1,0,2,2,0,3,4,5]):=by kernel_rfl
theorem Jg (K:Int) (g1:Nat→aa) (nb1:Nat) (N1:Int) (g:Nat→aa) (nb:Nat) (N:Int) (pl:Nat→ae) (np:Nat) (w:ad) (v:aU) (u:ad) :
    zS Tryz.f7 [rg 2,rg 4,rg 2,rg 2,.dec true,.dec true,rm [(1,oc [] (jB true))] 1,.dec false,rm [(4,oc [] v9)] 6,rm [(3,gF),(0,gF),(0,gF),(0,gF),(0,gF),(0,gF),(0,gF),(0,gF),(0,gT)] 0,.dec true,rg 1] [xw K g1 nb1 N1 g nb N pl np w v u] [] [] (jB false) =
    some (zD [(NT 0 1),((true=true)→(AN 1)),((K==1)=true),zE 23 [(b9 N1 nb1 g1)] [] (jB true),((!true)=false),zE 30 [jI N1,.p (.seq true 5 v.1 (fun i=>[.int .i64 ((v.2 i).1),.int .i64 ((v.2 i).2.1),.int .i64 ((v.2 i).2.2.1),.int .i64 ((v.2 i).2.2.2.1),.int .i64 ((v.2 i).2.2.2.2.1)]))] [] (v9),((!!false)=false),((!false)=true),(true=true),(false=false)] [0,0,1,0,2,2,0,3,4,0,0,5,0,1,6,6,6,6,6,6,6,6,7,8,9]):=by kernel_rfl
theorem I6 (K:Int) (g1:Nat→aa) (nb1:Nat) (N1:Int) (g:Nat→aa) (nb:Nat) (N:Int) (pl:Nat→ae) (np:Nat) (w:ad) (v:aU) (u:ad) (D:NB) :
    zS Tryz.f7 [rg 2,rg 4,rg 2,rg 2,.dec true,.dec true,rm [(1,oc [] (jB true))] 1,.dec false,rm [(4,oc [(0,aj D.1 D.2)] (wn N1 D))] 6,rm [(3,gT),(0,gT),(0,gT),(0,gT),(0,gT),(0,gT),(0,gT),(0,gT),(0,gF)] 0,.dec true,rg 1] [xw K g1 nb1 N1 g nb N pl np w v u] [] [] (jB false) =
    some (zD [(NT 0 1),((true=true)→(AN 1)),((K==1)=true),zE 23 [(b9 N1 nb1 g1)] [] (jB true),((!true)=false),zE 30 [jI N1,.p (.seq true 5 v.1 (fun i=>[.int .i64 ((v.2 i).1),.int .i64 ((v.2 i).2.1),.int .i64 ((v.2 i).2.2.1),.int .i64 ((v.2 i).2.2.2.1),.int .i64 ((v.2 i).2.2.2.2.1)]))] [(0,⟨false,2,D.1,(fun i=>[.p (.int .i64 ((D.2 i).1)),.p (.int .i64 ((D.2 i).2.1))])⟩)] ((wn N1 D)),((!!true)=true),(ax (2*N1)),(au (2*N1)),(ax (2*N1 - 3)),(au (2*N1 - 3)),(((D.1:Int) != 2*N1 - 3)=true),(false=false)] [0,0,1,0,2,2,0,3,4,0,0,5,0,1,6,6,0,6,6,6,0,6,7,8,6,9,10,6,4,11,12]):=by kernel_rfl
theorem HE (K:Int) (g1:Nat→aa) (nb1:Nat) (N1:Int) (g:Nat→aa) (nb:Nat) (N:Int) (pl:Nat→ae) (np:Nat) (w:ad) (v:aU) (u:ad) (D:NB) :
    zT Tryz.f7 [rg 2,rg 4,rg 2,rg 2,.dec true,.dec true,rm [(1,oc [] (jB true))] 1,.dec false,rm [(4,oc [(0,aj D.1 D.2)] (wn N1 D))] 6,rm [(3,gT),(0,gT),(0,gT),(0,gT),(0,gT),(0,gT),(0,gT),(0,gT),(0,gF)] 0,.dec false,rg 3,.dec false,rg 4,.head] [xw K g1 nb1 N1 g nb N pl np w v u] [128,544] (Ff g1 nb1 N1 D 0) =
    some (wU,zD [(NT 0 1),((true=true)→(AN 1)),((K==1)=true),zE 23 [(b9 N1 nb1 g1)] [] (jB true),((!true)=false),zE 30 [jI N1,.p (.seq true 5 v.1 (fun i=>[.int .i64 ((v.2 i).1),.int .i64 ((v.2 i).2.1),.int .i64 ((v.2 i).2.2.1),.int .i64 ((v.2 i).2.2.2.1),.int .i64 ((v.2 i).2.2.2.2.1)]))] [(0,⟨false,2,D.1,(fun i=>[.p (.int .i64 ((D.2 i).1)),.p (.int .i64 ((D.2 i).2.1))])⟩)] ((wn N1 D)),((!!true)=true),(ax (2*N1)),(au (2*N1)),(ax (2*N1 - 3)),(au (2*N1 - 3)),(((D.1:Int) != 2*N1 - 3)=false),((K==6)=false),(AN 0),(AN D.1),(AI ((D.1:Int))),((0:Int)=(↑0:Int)),((((List.map (fun v=>AV.p (bZ v)) [Value.int IntKind.i64 0,Value.slice none 0 0]).length):Nat)=2),(NL 1 1),(AI N1),(AN nb1),(AP nb1 (aH g1)),(AN 2),(NL D.1 D.1),(AA D.1 (fun i=>[.p (.int .i64 ((D.2 i).1)),.p (.int .i64 ((D.2 i).2.1))]))] [0,0,1,0,2,2,0,3,4,0,0,5,0,1,6,6,0,6,6,6,0,6,7,8,6,9,10,6,4,11,0,12,0,13,13,14,15,16,17,18,18,19,20,21,22,23,24]):=by kernel_rfl
theorem Ik (K:Int) (g1:Nat→aa) (nb1:Nat) (N1:Int) (g:Nat→aa) (nb:Nat) (N:Int) (pl:Nat→ae) (np:Nat) (w:ad) (v:aU) (u:ad) :
    zS Tryz.f7 [rg 2,rg 4,rg 2,rg 2,.dec false,rg 2,.dec false,rg 2,.dec true,rm [(1,oc [] (jB false))] 1,.dec true,rg 1] [xw K g1 nb1 N1 g nb N pl np w v u] [] [] (jB false) =
    some [(NT 0 1),(NT 0 1),((true=true)→(AN 1)),(NT 0 1),((K==1)=false),((K==6)=false),((K==2)=true),(NT 0 1),zE 23 [(b9 N1 nb1 g1)] [] (jB false),((!false)=true),(false=false)]:=by kernel_rfl
theorem Jv (K:Int) (g1:Nat→aa) (nb1:Nat) (N1:Int) (g:Nat→aa) (nb:Nat) (N:Int) (pl:Nat→ae) (np:Nat) (w:ad) (v:aU) (u:ad) :
    zS Tryz.f7 [rg 2,rg 4,rg 2,rg 2,.dec false,rg 2,.dec false,rg 2,.dec true,rm [(1,oc [] (jB true))] 1,.dec false,rm [(3,oc [] (.tup [.p .nil,jB false]))] 5,rg 2,.dec true,rg 1] [xw K g1 nb1 N1 g nb N pl np w v u] [] [] (jB false) =
    some (zD [(NT 0 1),((true=true)→(AN 1)),((K==1)=false),((K==6)=false),((K==2)=true),zE 23 [(b9 N1 nb1 g1)] [] (jB true),((!true)=false),zE 33 [(b9 N1 nb1 g1),.p (.seq true 1 u.1 (c9 u))] [] (.tup [.p (.nil),jB false]),((!false)=true),(false=false)] [0,0,1,0,2,3,4,0,5,6,0,0,7,8,9]):=by kernel_rfl
theorem Ix (K:Int) (g1:Nat→aa) (nb1:Nat) (N1:Int) (g:Nat→aa) (nb:Nat) (N:Int) (pl:Nat→ae) (np:Nat) (w:ad) (v:aU) (u:ad) (cn:Nat) (C:Nat→ad) :
    zT Tryz.f7 [rg 2,rg 4,rg 2,rg 2,.dec false,rg 2,.dec false,rg 2,.dec true,rm [(1,oc [] (jB true))] 1,.dec false,rm [(3,oc [(0,iJ cn C)] (.tup [.ar 1 0 0 cn,jB true]))] 5,rg 2,.dec false,rg 1,rg 5,rg 3,.head] [xw K g1 nb1 N1 g nb N pl np w v u] [128,1024,640] (Gt g1 nb1 N1 0 (fun _=>false) cn C 0) =
    some (AX,[(NT 0 1),(NT 0 1),((true=true)→(AN 1)),(NT 0 1),((K==1)=false),((K==6)=false),((K==2)=true),(NT 0 1),zE 23 [(b9 N1 nb1 g1)] [] (jB true),((!true)=false),(NT 0 1),(NT 0 1),zE 33 [(b9 N1 nb1 g1),.p (.seq true 1 u.1 (c9 u))] [(0,⟨false,1,cn,(fun i=>[.p (.seq false 1 ((C i).1) (fun i_1=>[.int .i64 ((C i).2 i_1)]))])⟩)] (.tup [.ar 1 0 0 cn,jB true]),((!true)=false),(NT 0 1),(IL 0 (nb1:Int)),(IL (nb1:Int) (nb1:Int)),(IL ((nb1:Int)*(↑1:Int)) 281474976710656),(au (nb1:Int)),(AN 0),(AI 0),(AN 0),(AN nb1),(AN 0),(AN cn),(AI ((cn:Int))),((0:Int)=(↑0:Int)),((((List.map (fun v=>AV.p (bZ v)) [Value.int IntKind.i64 0,Value.slice none 0 0]).length):Nat)=2),(NL 1 1),(NL 1 1),(AI N1),(AN nb1),(AP nb1 (aH g1)),(AN 1),(NL nb1 nb1),(AA nb1 (fun i=>[.p (.bool false)])),(AN 1),(NL cn cn),(AA cn (fun i=>[.p (.seq false 1 ((C i).1) (fun i_1=>[.int .i64 ((C i).2 i_1)]))]))]):=by kernel_rfl
theorem Jq (K:Int) (g1:Nat→aa) (nb1:Nat) (N1:Int) (g:Nat→aa) (nb:Nat) (N:Int) (pl:Nat→ae) (np:Nat) (w:ad) (v:aU) (u:ad) (b1 b2:Bool) :
    zS Tryz.f7 [rg 2,rg 4,rg 2,rg 2,.dec false,rg 2,.dec false,rg 2,.dec false,rg 2,.dec true,rm [(1,oc [] (jB b1)),(10,oc [] (jB b2)),(2,gF),(0,gF),(0,gF),(0,gF),(0,gF),(0,gF),(0,gF),(0,gF),(0,gF),(0,gF),(0,gF),(0,gF)] 1] [xw K g1 nb1 N1 g nb N pl np w v u] [] [] (jB false) =
    some (zD (let A:Bool:=bif b1 then decide ((u.1:Int)≥2) else false;[(NT 0 1),((true=true)→(AN 1)),((K==1)=false),((K==6)=false),((K==2)=false),((K==3)=true),zE 23 [(b9 N1 nb1 g1)] [] (jB b1),(AG b1),((b1=true)→(NT 0 1)),((A=true)→(NT 0 1)),(AG A),((A=true)→zE 36 [(b9 N1 nb1 g1),.p (.seq true 1 u.1 (c9 u))] [] (jB b2)),((bif A then b2 else false)=false),(false=false)]) [0,0,1,0,2,3,4,5,0,6,7,8,7,7,7,9,10,9,10,10,11,10,12,12,12,12,12,12,12,12,12,12,12,12,13]):=by kernel_rfl
theorem HB (K:Int) (g1:Nat→aa) (nb1:Nat) (N1:Int) (g:Nat→aa) (nb:Nat) (N:Int) (pl:Nat→ae) (np:Nat) (w:ad) (v:aU) (u:ad) (R:ad) :
    zS Tryz.f7 [rg 2,rg 4,rg 2,rg 2,.dec false,rg 2,.dec false,rg 2,.dec false,rg 2,.dec true,rm [(1,oc [] (jB true)),(1,gT),(0,gT),(0,gT),(0,gT),(0,gT),(1,gT),(0,gT),(0,gT),(0,⟨true,(some ⟨[],[],[],1,[],jB true⟩),some true⟩),(0,gT),(1,gT),(0,gT),(0,gT),(0,⟨true,(some ⟨[],[],[],1,[(0,aY R.1 R.2)],.ar 1 0 0 R.1⟩),some true⟩),(0,gT),(0,gT),(0,gT),(0,gT),(0,gT),(0,gT),(0,gT),(0,gT)] 1] [xw K g1 nb1 N1 g nb N pl np w v u] [] [] (jB (decide ((R.1:Int)>2*(u.1:Int) - 3))) =
    some (zD (let A:Bool:=decide ((R.1:Int)>2*(u.1:Int) - 3);[(NT 0 1),((true=true)→(AN 1)),((K==1)=false),((K==6)=false),((K==2)=false),((K==3)=true),zE 23 [(b9 N1 nb1 g1)] [] (jB true),(true=true),((decide ((u.1:Int)≥2))=true),zE 36 [(b9 N1 nb1 g1),.p (.seq true 1 u.1 (c9 u))] [] (jB true),zE 34 [(b9 N1 nb1 g1),.p (.seq true 1 u.1 (c9 u))] [(0,⟨false,1,R.1,(fun i=>[.p (.int .i64 (R.2 i))])⟩)] (.ar 1 0 0 R.1),(ax (2*(u.1:Int))),(au (2*(u.1:Int))),(ax (2*(u.1:Int) - 3)),(au (2*(u.1:Int) - 3)),((A)=(A))]) [0,0,1,0,2,3,4,5,0,6,7,7,0,7,7,7,8,0,8,8,0,8,9,8,7,0,7,7,0,7,10,7,7,7,0,7,7,11,12,7,13,14,7,7,15]):=by kernel_rfl
theorem Hu (g1:Nat→aa) (nb1:Nat) (N1:Int) (D:NB) (i:Nat) :
    zM 0 [rg 1,.dec true,rg 4,rm [(3,oc [] (jB true))] 1,.dec false,rg 2,.head] wU (Ff g1 nb1 N1 D i) [0,1] 1 (Ff g1 nb1 N1 D (i+1)) =
    some (wU,[((decide ((i:Int)<(D.1:Int)))=true),(IL 0 (i:Int)),(IT (i:Int) (D.1:Int)),(NT i D.1),(NT 0 1),((true=true)→(AN 1)),(NT 0 1),(NT 0 1),zE 32 [.p (.seq true 2 nb1 (aH g1)),.agg [jI ((D.2 i).1),jI ((D.2 i).2.1)]] [] (jB true),((!true)=false),(ax ((i:Int)+1)),(au ((i:Int)+1)),(AN 0),(AN 0),(AN D.1),(AI ((D.1:Int))),((((i:Int)+1):Int)=(↑(i+1):Int)),(AN 2),(NL 1 1),(NL 1 1),(AI N1),(AN nb1),(AP nb1 (aH g1)),(AN 2),(NL D.1 D.1),(AA D.1 (fun i_1=>[.p (.int .i64 ((D.2 i_1).1)),.p (.int .i64 ((D.2 i_1).2.1))]))]):=by kernel_rfl
theorem Hf (g1:Nat→aa) (nb1:Nat) (N1:Int) (D:NB) (i:Nat) :
    zP Tryz.f7 0 [rg 1,.dec true,rg 4,rm [(3,oc [] (jB false))] 1,.dec true,rg 1] wU (Ff g1 nb1 N1 D i) [] 1 [] (jB false) =
    some [((decide ((i:Int)<(D.1:Int)))=true),(IL 0 (i:Int)),(IT (i:Int) (D.1:Int)),(NT i D.1),(NT 0 1),((true=true)→(AN 1)),(NT 0 1),(NT 0 1),zE 32 [.p (.seq true 2 nb1 (aH g1)),.agg [jI ((D.2 i).1),jI ((D.2 i).2.1)]] [] (jB false),((!false)=true),(false=false)]:=by kernel_rfl
theorem IA (g1:Nat→aa) (nb1:Nat) (N1:Int) (D:NB) (i:Nat) :
    zP Tryz.f7 0 [rg 1,.dec false,rg 1] wU (Ff g1 nb1 N1 D i) [] 1 [] (jB true) =
    some [((decide ((i:Int)<(D.1:Int)))=false),(true=true)]:=by kernel_rfl
theorem Jt (g1:Nat→aa) (nb1:Nat) (N1:Int) (s:Int) (m:Nat→Bool) (cn:Nat) (C:Nat→ad) (i:Nat) (T:ad) :
    zM 0 [rg 1,.dec true,rg 3,rg 7,rm [(2,oc [(0,aY T.1 T.2)] (.ar 1 0 0 T.1))] 2,.head] AX (Gt g1 nb1 N1 s m cn C i) [0,1,2,419] 1 (FI g1 nb1 N1 (s+2*((C i).1:Int) - 3) m cn C i T 0) =
    some (FU,[((decide ((i:Int)<(cn:Int)))=true),(IL 0 (i:Int)),(IT (i:Int) (cn:Int)),(NT i cn),(ax (2*(↑(C i).1:Int))),(au (2*(↑(C i).1:Int))),(ax (s+2*(↑(C i).1:Int))),(au (s+2*(↑(C i).1:Int))),(ax (s+2*(↑(C i).1:Int) - 3)),(au (s+2*(↑(C i).1:Int) - 3)),(NT 0 1),zE 34 [.agg [jI N1,.p (.seq true 2 nb1 (aH g1))],.p (.seq true 1 ((C i).1) (fun i_1=>[.int .i64 ((C i).2 i_1)]))] [(0,⟨false,1,T.1,(fun i_1=>[.p (.int .i64 (T.2 i_1))])⟩)] (.ar 1 0 0 T.1),(AN 0),(AI ((s+2*(↑(C i).1:Int) - 3))),(AN 0),(AN nb1),(AN 0),(AN cn),(AI ((cn:Int))),(AI ((i:Int))),(AN 0),(AN T.1),(AI ((T.1:Int))),((0:Int)=(↑0:Int)),(AN 2),(NL 1 1),(NL 1 1),(AI N1),(AN nb1),(AP nb1 (aH g1)),(AN 1),(NL nb1 nb1),(AA nb1 (fun i_1=>[.p (.bool (m i_1))])),(AN 1),(NL cn cn),(AA cn (fun i_1=>[.p (.seq false 1 ((C i_1).1) (fun i_2=>[.int .i64 ((C i_1).2 i_2)]))])),(AN 1),(NL T.1 T.1),(AA T.1 (fun i_1=>[.p (.int .i64 (T.2 i_1))]))]):=by kernel_rfl
theorem Jh (g1:Nat→aa) (nb1:Nat) (N1:Int) (s:Int) (m:Nat→Bool) (cn:Nat) (C:Nat→ad) (i:Nat) (T:ad) (t:Nat) :
    zM 0 [rg 1,.dec true,rg 3,rg 4,rg 2,.head] FU (FI g1 nb1 N1 s m cn C i T t) [0,1,2,3] 1 (FI g1 nb1 N1 s (fun e=>if e=(T.2 t).toNat then true else m e) cn C i T (t+1)) =
    some (FU,[((decide ((t:Int)<(T.1:Int)))=true),(IL 0 (t:Int)),(IT (t:Int) (T.1:Int)),(NT t T.1),(IL 0 (T.2 t)),(IT (T.2 t) (nb1:Int)),(NT ((T.2 t).toNat) nb1),((false=true)→((nb1:Nat)=1)),(ax ((t:Int)+1)),(au ((t:Int)+1)),(AN 0),(AI s),(AN 0),(AN nb1),(AN 0),(AN cn),(AI ((cn:Int))),(AI ((i:Int))),(AN 0),(AN T.1),(AI ((T.1:Int))),((((t:Int)+1):Int)=(↑(t+1):Int)),(AN 2),(NL 1 1),(NL 1 1),(AI N1),(AN nb1),(AP nb1 (aH g1)),(AN 1),(NL nb1 nb1),(CV [(1,⟨false,1,nb1,(fun i_2=>(if (i_2=(T.2 t).toNat) then [.p (.bool true)] else [.p (.bool (m i_2))]))⟩),(0,⟨true,2,1,(fun i_2=>[.p (.int .i64 N1),.p (.seq true 2 nb1 (aH g1))])⟩),(2,⟨false,1,cn,(fun i_2=>[.p (.seq false 1 ((C i_2).1) (fun i_3=>[.int .i64 ((C i_2).2 i_3)]))])⟩),(3,⟨false,1,T.1,(fun i_2=>[.p (.int .i64 (T.2 i_2))])⟩)] [0,1,2,3] 1 nb1 (fun i_1=>if (i_1=(T.2 t).toNat) then [.p (.bool true)] else [.p (.bool (m i_1))]) (fun i_1=>[.p (.bool (if i_1=(T.2 t).toNat then true else m i_1))])),(AN 1),(NL cn cn),(AA cn (fun i_1=>[.p (.seq false 1 ((C i_1).1) (fun i_2=>[.int .i64 ((C i_1).2 i_2)]))])),(AN 1),(NL T.1 T.1),(AA T.1 (fun i_1=>[.p (.int .i64 (T.2 i_1))]))]):=by kernel_rfl
theorem Ie (g1:Nat→aa) (nb1:Nat) (N1:Int) (s:Int) (m:Nat→Bool) (cn:Nat) (C:Nat→ad) (i:Nat) (T:ad) (t:Nat) :
    zM 0 [rg 1,.dec false,rg 2,.head] FU (FI g1 nb1 N1 s m cn C i T t) [0,1,2] 1 (Gt g1 nb1 N1 s m cn C (i+1)) =
    some (AX,[((decide ((t:Int)<(T.1:Int)))=false),(ax ((i:Int)+1)),(au ((i:Int)+1)),(AN 0),(AI s),(AN 0),(AN nb1),(AN 0),(AN cn),(AI ((cn:Int))),((((i:Int)+1):Int)=(↑(i+1):Int)),(AN 2),(NL 1 1),(NL 1 1),(AI N1),(AN nb1),(AP nb1 (aH g1)),(AN 1),(NL nb1 nb1),(AA nb1 (fun i_1=>[.p (.bool (m i_1))])),(AN 1),(NL cn cn),(AA cn (fun i_1=>[.p (.seq false 1 ((C i_1).1) (fun i_2=>[.int .i64 ((C i_1).2 i_2)]))]))]):=by kernel_rfl
theorem HH (g1:Nat→aa) (nb1:Nat) (N1:Int) (s:Int) (m:Nat→Bool) (cn:Nat) (C:Nat→ad) (i:Nat) (q:Bool) :
    zP Tryz.f7 0 [rg 1,.dec false,rm [(1,oc [] (jB q))] 11] AX (Gt g1 nb1 N1 s m cn C i) [] 1 [] (jB (bif !q then decide (s<max 0 (2*N1 - 3)) else false)) =
    some (zD [((decide ((i:Int)<(cn:Int)))=false),(AN 1),(NL nb1 nb1),zE 35 [.p (.seq true 1 nb1 (fun i_1=>[.bool (m i_1)])),jB false] [] (jB q),(AG (!q)),(((!q)=true)→(NT 0 1)),(((!q)=true)→(ax (2*N1))),(((!q)=true)→(au (2*N1))),(((!q)=true)→(ax (2*N1 - 3))),(((!q)=true)→(au (2*N1 - 3))),((bif !q then decide (s<if true=true then if 2*N1 - 3>0 then 2*N1 - 3 else 0 else if 2*N1 - 3<0 then 2*N1 - 3 else 0) else false)=(bif !q then decide (s<max 0 (2*N1 - 3)) else false))] [0,1,2,3,4,5,4,6,7,4,8,9,4,4,4,4,10]):=by kernel_rfl
theorem D2 {M:Int} {n:Nat} {S:Nat→ap} {D:NB} (h:yD M n S=some D):∃ N:Nat,M=N∧1≤N∧N≤8∧ah ((N:Int),D,())=true:=by
  unfold yD at h
  cases hb:bC M 1 8 with
  | false=>rw [hb,if_neg Bool.false_ne_true] at h;cases h
  | true =>
    rw [hb,if_pos rfl] at h
    have hb:=jy.1 hb
    obtain ⟨N,rfl⟩:=Int.eq_ofNat_of_zero_le (show 0≤M by omega)
    rw [Int.toNat_natCast] at h
    exact ⟨N,rfl,by omega,by omega,A4 n 0 _ D (q6 (by omega)) h⟩
noncomputable def Bq (g1:Nat→aa) (nb1:Nat) (N1:Int) (v:aU):Bool :=
  match yD N1 v.1 v.2 with
  | none=>false
  | some D=>gi g1 nb1 N1&&((D.1:Int)==2*N1 - 3&&a8 (fun i=>vm g1 nb1 (D.2 i)) D.1)
noncomputable def Jc (g1:Nat→aa) (nb1:Nat) (N1:Int) (v:aU):Bool :=
  match yD N1 v.1 v.2 with
  | none=>false
  | some D=>gi g1 nb1 N1&&((D.1:Int)==2*N1 - 3&&HL (N1,(nb1,g1),()) (N1,D,()))
def Al (g1:Nat→aa) (nb1:Nat) (N1:Int) (u:ad):Bool:=gi g1 nb1 N1&&xh (N1,(nb1,g1),()) (eU u.2 u.1) (gp u.2 u.1)
def sD (g1:Nat→aa) (nb1:Nat) (N1:Int) (u:ad):Bool :=
  gi g1 nb1 N1&&(eu N1 u.2 u.1&&(decide ((u.1:Int)≥2)&&decide (((bK (kN g1 u) nb1).1:Int)>2*(u.1:Int) - 3)))
noncomputable def BB (K:Int) (g1:Nat→aa) (nb1:Nat) (N1:Int) (g:Nat→aa) (nb:Nat) (N:Int) (pl:Nat→ae) (np:Nat) (w:ad) (v:aU) (u:ad):Bool :=
  if K=1 then Bq g1 nb1 N1 v else if K=6 then Jc g1 nb1 N1 v else if K=2 then Al g1 nb1 N1 u else if K=3 then sD g1 nb1 N1 u
  else if K=4 then (bif Ge g nb N pl np w u then yE g nb N pl np==0 else false) else if K=5 then (bif Jb g nb N pl np w u then !qI g nb N pl np u else false) else false
section
variable (K:Int) (g1:Nat→aa) (nb1:Nat) (N1:Int) (g:Nat→aa) (nb:Nat) (N:Int) (pl:Nat→ae) (np:Nat) (w:ad) (v:aU) (u:ad)
theorem x7 (hK:K=1) (h1:nb1≤1048576) (hv:v.1≤1048576) :
    zE 7 [xw K g1 nb1 N1 g nb N pl np w v u] [] (.p (.bool (Bq g1 nb1 N1 v))):=by
  have e1:(K==1)=true:=by rw [hK];rfl
  have e6:(K==6)=false:=by rw [hK];rfl
  have c1:=aQ (N1,(nb1,g1),()) (Ei g1 nb1 N1 h1)
  change zE 23 [FV g1 nb1 N1] [] (.p (.bool (gi g1 nb1 N1))) at c1
  have c2:=qT N1 v.1 v.2 hv
  unfold Bq
  refine aW Tryz.func7 (fun c hc=>?_)
  cases hg:gi g1 nb1 N1 with
  | false =>
    rw [hg] at c1
    rw [show (match yD N1 v.1 v.2 with | none=>false | some D=>false&&((D.1:Int)==2*N1 - 3&&a8 (fun i=>vm g1 nb1 (D.2 i)) D.1))=false by cases yD N1 v.1 v.2<;>rfl]
    refine bB Tryz.func7 hc (Jf K g1 nb1 N1 g nb N pl np w v u) ?_
    and_intros
    all_goals (first | exact zI | (exact c1) | (exact e1) | (exact e6))
  | true =>
    rw [hg] at c1
    obtain ⟨hN,hnb,hok⟩:=cG hg
    cases hb:yD N1 v.1 v.2 with
    | none =>
      rw [hb] at c2
      refine bB Tryz.func7 hc (Jg K g1 nb1 N1 g nb N pl np w v u) ?_
      and_intros
      all_goals (first | exact zI | (exact c1) | (exact c2) | (exact e1) | (exact e6))
    | some D =>
      rw [hb] at c2
      obtain ⟨n,hn,n1,n2,hD⟩:=D2 hb
      subst hn
      rw [Int.toNat_natCast] at c2
      show Run _ _ _ _ _ (aT c [] (.p (.bool (true&&((D.1:Int)==2*(n:Int) - 3&&a8 (fun i=>vm g1 nb1 (D.2 i)) D.1)))))
      cases hl:((D.1:Int)==2*(n:Int) - 3) with
      | false =>
        have hl':(!((D.1:Int)==2*(n:Int) - 3))=true:=by rw [hl];rfl
        refine bB Tryz.func7 hc (I6 K g1 nb1 n g nb N pl np w v u D) ?_
        and_intros
        all_goals (first | exact zI | (exact c1) | (exact c2) | (exact e1) | (exact e6) | (exact hl'))
      | true =>
        have hl':(!((D.1:Int)==2*(n:Int) - 3))=false:=by rw [hl];rfl
        rw [Bool.true_and,Bool.true_and]
        have hdn:D.1≤24:=(az hD).2.1
        have lo:∀ d i,i+d=D.1→a8 (fun i=>vm g1 nb1 (D.2 i)) i=true→zR c 7 wU (Ff g1 nb1 n D i) (aT c [] (.p (.bool (a8 (fun i=>vm g1 nb1 (D.2 i)) D.1)))):=by
          intro d
          induction d with
          | zero =>
            intro i hi ha
            obtain rfl:i=D.1:=by omega
            have hd:decide ((D.1:Int)<(D.1:Int))=false:=decide_eq_false (by omega)
            rw [ha]
            refine be Tryz.func7 hc (IA g1 nb1 n D D.1) ?_
            and_intros
            all_goals (first | exact zN | (exact hd))
          | succ d ih =>
            intro i hi ha
            have hd:decide ((i:Int)<(D.1:Int))=true:=decide_eq_true (by omega)
            have cb:=wT (n,(nb1,g1),()) (D.2 i) h1
            cases hq:vm g1 nb1 (D.2 i) with
            | true =>
              change Con _ _ _ _ _ _ (.p (.bool (vm g1 nb1 (D.2 i)))) at cb
              rw [hq] at cb
              refine cW hc (Hu g1 nb1 n D i) ?_ (ih (i+1) (by omega) (by rw [a8,ha];show (true&&vm g1 nb1 (D.2 i))=true;rw [hq];rfl))
              and_intros
              all_goals (first | exact zI | (exact hd) | (exact cb) | (intros;simp [af];done))
            | false =>
              change Con _ _ _ _ _ _ (.p (.bool (vm g1 nb1 (D.2 i)))) at cb
              rw [hq] at cb
              rw [gq (p:=fun i=>vm g1 nb1 (D.2 i)) (i:=i) (by omega) hq]
              refine be Tryz.func7 hc (Hf g1 nb1 n D i) ?_
              and_intros
              all_goals (first | exact zI | (exact hd) | (exact cb))
        refine a7 hc (HE K g1 nb1 n g nb N pl np w v u D) ?_ (lo D.1 0 (by omega) rfl)
        and_intros
        all_goals (first | exact zI | (exact c1) | (exact c2) | (exact e1) | (exact e6) | (exact hl') | (intros;simp [af];done))
end
theorem Ad (g:Nat→aa) (nb:Nat) (C:Nat→ad) (i e:Nat) (he:e<nb) :
    (if a0 (bK (kN g (C i)) nb).2 (e:Int) (bK (kN g (C i)) nb).1=true then true else EL g C i e)=EL g C (i+1) e:=by
  rw [wE,decide_eq_true he,Bool.true_and]
  show _=(EZ (fun j=>kN g (C j) e) i||kN g (C i) e)
  unfold EL
  cases kN g (C i) e<;>simp
section
variable (K:Int) (g1:Nat→aa) (nb1:Nat) (N1:Int) (g:Nat→aa) (nb:Nat) (N:Int) (pl:Nat→ae) (np:Nat) (w:ad) (v:aU) (u:ad)
theorem wR (hK:K=2) (h1:nb1≤1048576) (hu:u.1≤1048576) :
    zE 7 [xw K g1 nb1 N1 g nb N pl np w v u] [] (.p (.bool (Al g1 nb1 N1 u))):=by
  have e1:(K==1)=false:=by rw [hK];rfl
  have e6:(K==6)=false:=by rw [hK];rfl
  have e2:(K==2)=true:=by rw [hK];rfl
  have c1:=aQ (N1,(nb1,g1),()) (Ei g1 nb1 N1 h1)
  change zE 23 [FV g1 nb1 N1] [] (.p (.bool (gi g1 nb1 N1))) at c1
  unfold Al
  refine aW Tryz.func7 (fun c hc=>?_)
  cases hg:gi g1 nb1 N1 with
  | false =>
    rw [hg] at c1
    refine be Tryz.func7 hc (Ik K g1 nb1 N1 g nb N pl np w v u) ?_
    and_intros
    all_goals (first | exact zI | (exact c1) | (exact e1) | (exact e6) | (exact e2))
  | true =>
    rw [hg] at c1
    obtain ⟨n1,n2,hnb,hgood⟩:=cG hg
    have n1:1≤N1:=n1
    have n2:N1≤8:=n2
    have hnb:nb1≤24:=hnb
    have c2:=uM (N1,(nb1,g1),()) u n1 n2 hu
    rw [Bool.true_and]
    cases hp:CK N1 u.2 u.1 with
    | false =>
      unfold E7 EM at c2
      rw [if_neg (by rw [hp];exact Bool.false_ne_true),if_neg (by rw [hp];exact Bool.false_ne_true)] at c2
      rw [show xh (N1,(nb1,g1),()) (eU u.2 u.1) (gp u.2 u.1)=false by
        unfold xh
        rw [show a8 (fun i=>wN (N1,(nb1,g1),()).1 (gp u.2 u.1 i)) (eU u.2 u.1)=false from hp];rfl]
      refine bB Tryz.func7 hc (Jv K g1 nb1 N1 g nb N pl np w v u) ?_
      and_intros
      all_goals (first | exact zI | (exact c1) | (exact c2) | (exact e1) | (exact e6) | (exact e2))
    | true =>
      unfold E7 EM at c2
      rw [if_pos hp,if_pos hp] at c2
      have hcl:=ut u.2 u.1
      have hnl:=uv u.2 u.1
      rw [show xh (N1,(nb1,g1),()) (eU u.2 u.1) (gp u.2 u.1)=(lh g1 nb1 (eU u.2 u.1) (gp u.2 u.1)&&decide (dh (gp u.2 u.1) (eU u.2 u.1)<max 0 (2*N1 - 3))) by
        unfold xh
        rw [show a8 (fun i=>wN (N1,(nb1,g1),()).1 (gp u.2 u.1 i)) (eU u.2 u.1)=true from hp];rfl]
      generalize gp u.2 u.1=C at *
      generalize eU u.2 u.1=cn at *
      have hC:∀ i,(C i).1≤1048576:=fun i=>by have:=hcl i;omega
      have sb:=fun k=>zZ (C:=C) hC k
      have lo:∀ d i (m:Nat→Bool),i+d=cn→(∀ e,e<nb1→m e=EL g1 C i e)→zR c 7 AX (Gt g1 nb1 N1 (dh C i) m cn C i) (aT c [] (.p (.bool (lh g1 nb1 cn C&&decide (dh C cn<max 0 (2*N1 - 3)))))):=by
        intro d
        induction d with
        | zero =>
          intro i m hi hm
          obtain rfl:i=cn:=by omega
          have hd:decide ((i:Int)<(i:Int))=false:=decide_eq_false (by omega)
          have cf:=xW nb1 m (by omega)
          have ea:a8 m nb1=lh g1 nb1 i C:=by
            unfold lh
            rw [Bool.eq_iff_iff,bX,bX]
            exact ⟨fun h e he=>by rw [← hm e he];exact h e he,fun h e he=>by rw [hm e he];exact h e he⟩
          rw [ea] at cf
          rw [show (lh g1 nb1 i C&&decide (dh C i<max 0 (2*N1 - 3)))=(bif !(!lh g1 nb1 i C) then decide (dh C i<max 0 (2*N1 - 3)) else false) by rw [Bool.not_not];cases lh g1 nb1 i C<;>rfl]
          refine bB Tryz.func7 hc (HH g1 nb1 N1 (dh C i) m i C i (!lh g1 nb1 i C)) ?_
          and_intros
          all_goals (first | exact zI | (exact hd) | (exact cf) | (rw [← LN];done) | (rw [← mx1];done))
        | succ d ih =>
          intro i m hi hm
          have hd:decide ((i:Int)<(cn:Int))=true:=decide_eq_true (by omega)
          have cs:=gO (N1,(nb1,g1),()) (C i) (Ei g1 nb1 N1 h1) (hC i)
          change Con _ _ _ _ _ [(0,aY (bK (kN g1 (C i)) nb1).1 (bK (kN g1 (C i)) nb1).2)] (.ar 1 0 0 (bK (kN g1 (C i)) nb1).1) at cs
          have hb:=sb i
          have hCi:=hC i
          have hst:=Ad g1 nb1 C i
          have hin:=u6 (kN g1 (C i)) nb1
          have hfn:=r8 (kN g1 (C i)) nb1
          generalize bK (kN g1 (C i)) nb1=T at *
          have li:∀ d t (m:Nat→Bool),t+d=T.1→(∀ e,e<nb1→m e=if a0 T.2 (e:Int) t=true then true else EL g1 C i e)→zR c 7 FU (FI g1 nb1 N1 (dh C i+2*((C i).1:Int) - 3) m cn C i T t) (aT c [] (.p (.bool (lh g1 nb1 cn C&&decide (dh C cn<max 0 (2*N1 - 3)))))):=by
            intro d
            induction d with
            | zero =>
              intro t m ht hm
              obtain rfl:t=T.1:=by omega
              have hd:decide ((T.1:Int)<(T.1:Int))=false:=decide_eq_false (by omega)
              have hr:=ih (i+1) m (by omega) (fun e he=>by rw [hm e he,hst e he])
              rw [show dh C (i+1)=dh C i+2*((C i).1:Int) - 3 from rfl] at hr
              refine cW hc (Ie g1 nb1 N1 (dh C i+2*((C i).1:Int) - 3) m cn C i T T.1) ?_ hr
              and_intros
              all_goals (first | exact zN | (exact hd) | (intros;simp [af];done))
            | succ d ih2 =>
              intro t m ht hm
              have hd:decide ((t:Int)<(T.1:Int))=true:=decide_eq_true (by omega)
              obtain ⟨x,x1,x2⟩:=hin t (by omega)
              have hr:=ih2 (t+1) (fun e=>if e=(T.2 t).toNat then true else m e) (by omega) (fun e he=>by
                rw [a0,x2,Int.toNat_natCast]
                by_cases hex:e=x
                · rw [if_pos hex,hex];simp
                · rw [if_neg hex,hm e he,show ((x:Int)==(e:Int))=false from beq_eq_false_iff_ne.2 (by omega),Bool.or_false])
              refine cW hc (Jh g1 nb1 N1 (dh C i+2*((C i).1:Int) - 3) m cn C i T t) ?_ hr
              and_intros
              all_goals (first | exact zI | (exact hd) | (rw [x2];omega) | (intro a ha;by_cases q:a=(T.2 t).toNat<;>(simp [q,ay,bh,tg,bu,af];done)) | (intros;simp [af];done))
          refine cW hc (Jt g1 nb1 N1 (dh C i) m cn C i T) ?_ (li T.1 0 m (by omega) (fun e he=>by rw [hm e he,a0,if_neg Bool.false_ne_true]))
          and_intros
          all_goals (first | exact zN | (exact hd) | (exact cs) | (intros;simp [af];done))
      refine cW hc (Ix K g1 nb1 N1 g nb N pl np w v u cn C) ?_ (lo cn 0 (fun _=>false) (by omega) (fun e he=>rfl))
      and_intros
      all_goals (first | exact zI | (exact c1) | (exact c2) | (exact e1) | (exact e6) | (exact e2) | (intros;simp [af];done))
theorem wW (hK:K=3) (h1:nb1≤1048576) (hu:u.1≤1048576) :
    zE 7 [xw K g1 nb1 N1 g nb N pl np w v u] [] (.p (.bool (sD g1 nb1 N1 u))):=by
  have e1:(K==1)=false:=by rw [hK];rfl
  have e6:(K==6)=false:=by rw [hK];rfl
  have e2:(K==2)=false:=by rw [hK];rfl
  have e3:(K==3)=true:=by rw [hK];rfl
  have c1:=aQ (N1,(nb1,g1),()) (Ei g1 nb1 N1 h1)
  change zE 23 [FV g1 nb1 N1] [] (.p (.bool (gi g1 nb1 N1))) at c1
  have cs:=gO (N1,(nb1,g1),()) u (Ei g1 nb1 N1 h1) hu
  change Con _ _ _ _ _ [(0,aY (bK (kN g1 u) nb1).1 (bK (kN g1 u) nb1).2)] (.ar 1 0 0 (bK (kN g1 u) nb1).1) at cs
  have cd:gi g1 nb1 N1=true→zE 36 [aJ (N1,(nb1,g1),()),ew u] [] (.p (.bool (eu N1 u.2 u.1))):=fun hg=>by
    obtain ⟨n1,n2,_,_⟩:=cG hg
    exact bJ (N1,(nb1,g1),()) u n1 n2 hu
  refine aW Tryz.func7 (fun c hc=>?_)
  cases hx:(gi g1 nb1 N1&&(eu N1 u.2 u.1&&decide ((u.1:Int)≥2))) with
  | true =>
    obtain ⟨hg,hx⟩:=Bool.and_eq_true_iff.1 hx
    obtain ⟨ho,hx⟩:=Bool.and_eq_true_iff.1 hx
    have cd:=cd hg
    rw [hg] at c1
    rw [ho] at cd
    rw [show sD g1 nb1 N1 u=decide (((bK (kN g1 u) nb1).1:Int)>2*(u.1:Int) - 3) by unfold sD;rw [hg,ho,hx];rfl]
    generalize bK (kN g1 u) nb1=R at *
    refine bB Tryz.func7 hc (HB K g1 nb1 N1 g nb N pl np w v u R) ?_
    and_intros
    all_goals (first | exact zI | (exact c1) | (exact cd) | (exact cs) | (exact hx) | (exact e1) | (exact e6) | (exact e2) | (exact e3))
  | false =>
    rw [show sD g1 nb1 N1 u=false by
      unfold sD;revert hx
      cases gi g1 nb1 N1<;>cases eu N1 u.2 u.1<;>cases decide ((u.1:Int)≥2)<;>intro hx<;>first | rfl | cases hx]
    have hn:(bif (bif gi g1 nb1 N1 then decide ((u.1:Int)≥2) else false) then eu N1 u.2 u.1 else false)=false:=by
      revert hx
      cases gi g1 nb1 N1<;>cases eu N1 u.2 u.1<;>cases decide ((u.1:Int)≥2)<;>intro hx<;>first | rfl | cases hx
    refine bB Tryz.func7 hc (Jq K g1 nb1 N1 g nb N pl np w v u (gi g1 nb1 N1) (eu N1 u.2 u.1)) ?_
    and_intros
    all_goals (first | exact zI | (exact c1) | (exact hn) | (intro h;exact cd (by revert h;cases gi g1 nb1 N1<;>intro h<;>first | rfl | cases h)) | (exact e1) | (exact e6) | (exact e2) | (exact e3) | (intro h;exact h))
end
noncomputable def Ez (v:cC):Bool:=BB v.1 v.2.1.2.1.2 v.2.1.2.1.1 v.2.1.1 v.2.2.1.1.1.2.1.2 v.2.2.1.1.1.2.1.1 v.2.2.1.1.1.1 v.2.2.1.1.2.1.2 v.2.2.1.1.2.1.1 v.2.2.1.2.1 v.2.2.2.1 v.2.2.2.2.1
theorem Em {v:cC} (hs:cQ dJ v):v.2.1.2.1.1≤1048576∧(v.2.2.1.1.1.2.1.1≤1048576∧v.2.2.1.1.2.1.1≤1048576)∧v.2.2.1.2.1.1≤1048576∧v.2.2.2.1.1≤1048576∧v.2.2.2.2.1.1≤1048576:=by
  obtain ⟨_,⟨_,⟨h1,_⟩,_⟩,⟨⟨⟨_,⟨h2,_⟩,_⟩,⟨h3,_⟩,_⟩,⟨h4,_⟩,_⟩,⟨h5,_⟩,⟨h6,_⟩,_⟩:=hs
  exact ⟨h1,⟨h2,h3⟩,h4,h5,h6⟩
open Go Go.Sort
theorem rP {N:Nat} {I:List (Nat×Nat)} {a b:Nat} (h:Mat.Imp N I a b):Mat.Imp N I b a:=by
  obtain ⟨R,t,h1,h2⟩:=h
  exact ⟨R,t,h2,h1⟩
theorem Cn {N:Nat} {L:List (Nat×Nat)} (hL:∀ x∈L,Mat.GoodBar N x) {a b:Nat} (h1:a≠b) (h2:a<N) (h3:b<N):Mat.rk N (L++[(a,b)])=Mat.rk N L↔Mat.rk N (L++[(b,a)])=Mat.rk N L:=by
  rw [Mat.rk_same_iff hL ⟨h1,h2,h3⟩,Mat.rk_same_iff hL ⟨Ne.symm h1,h3,h2⟩]
  exact ⟨rP,rP⟩
theorem qZ {g g':Nat→aa}:∀ n,(∀ i,i<n→g i=g' i)→bL g n=bL g' n
  | 0,_=>rfl
  | n+1,h=>by rw [bL,bL,qZ n (fun i hi=>h i (by omega)),h n (by omega)]
theorem B0 (g:Nat→aa) (nb:Nat) (x:aa):bL (aZ nb g x) (nb+1)=bL g nb++[bA x]:=by
  rw [bL,qZ (g:=aZ nb g x) (g':=g) nb (fun i hi=>dc hi),dM (Nat.lt_irrefl _)]
theorem Dx {N:Nat} {L:List (Nat×Nat)} (hL:∀ x∈L,Mat.GoodBar N x) {a b:Int} (hab:a≠b) (ha:0≤a∧a<N) (hb:0≤b∧b<N):Mat.rk N (L++[bA (aD a b)])=Mat.rk N L↔Mat.rk N (L++[(a.toNat,b.toNat)])=Mat.rk N L:=by
  by_cases h:b<a
  · have e:bA (aD a b)=(b.toNat,a.toNat):=by
      simp only [bA,aD]
      rw [if_pos h,if_neg (by omega)]
    rw [e]
    exact Cn hL (by omega) (by omega) (by omega)
  · have e:bA (aD a b)=(a.toNat,b.toNat):=by
      simp only [bA,aD]
      rw [if_neg h,if_pos (by omega)]
    rw [e]
theorem Bo {N nb:Nat} {g:Nat→aa} (hok:aO N nb g) {a b:Int} (ha:0≤a∧a<N) (hb:0≤b∧b<N) :
    ii N nb g a b=true↔a=b∨Mat.rk N (bL g nb++[(a.toNat,b.toNat)])=Mat.rk N (bL g nb):=by
  unfold ii
  by_cases h:a=b
  · simp [h]
  · have h':(a==b)=false:=beq_eq_false_iff_ne.2 h
    rw [h',cond_false,dn,dn,B0]
    have:=Dx (dv hok) h ha hb
    unfold Mat.rk at this ⊢
    rw [← this]
    simp [h,Int.ofNat_inj]
def Fs (C:Nat→ad):Nat→Int
  | 0=>0
  | i+1=>Fs C i+2*(C i).1 - 3
noncomputable def c8 (N nb:Nat) (g:Nat→aa) (e p:Nat):Bool:=bif ii N nb g (g e).1 p then ii N nb g (g e).2.1 p else false
def db (S:ad) (p:Nat):Bool:=a0 S.2 (p:Int) S.1
theorem e7 {f h:Nat→Int} {x:Int}:∀ n,(∀ s,s<n→f s=h s)→a0 f x n=a0 h x n
  | 0,_=>rfl
  | n+1,e=>by simp only [a0];rw [e7 n (fun s hs=>e s (by omega)),e n (by omega)]
theorem lW (n:Nat) (f:Nat→Int) (p:Int):dH n f p n=p:=by simp [dH]
theorem jL {n:Nat} {f:Nat→Int} {p:Int} {s:Nat} (h:s<n):dH n f p s=f s:=by simp [dH,h]
theorem ji {N nb:Nat} {g:Nat→aa} {e p:Nat} (h:c8 N nb g e p=true):aB N nb g e (p+1)=((aB N nb g e p).1+1,dH (aB N nb g e p).1 (aB N nb g e p).2 p):=by
  unfold c8 at h
  simp only [aB];rw [if_pos h]
theorem jM {N nb:Nat} {g:Nat→aa} {e p:Nat} (h:c8 N nb g e p=false):aB N nb g e (p+1)=aB N nb g e p:=by
  unfold c8 at h
  simp only [aB];rw [if_neg (by simp [h])]
theorem eZ (N nb:Nat) (g:Nat→aa) (e x:Nat):∀ P,db (aB N nb g e P) x=(decide (x<P)&&c8 N nb g e x)
  | 0=>by simp [db,aB,a0]
  | P+1=>by
    have ih:=eZ N nb g e x P
    cases h:c8 N nb g e P with
    | false =>
      rw [jM h,ih]
      by_cases e':x=P
      · subst e';simp [h]
      · have:decide (x<P+1)=decide (x<P):=by simp;omega
        rw [this]
    | true =>
      rw [ji h]
      unfold db at ih ⊢
      show (a0 (dH _ _ _) (x:Int) (aB N nb g e P).1||dH _ _ _ (aB N nb g e P).1==(x:Int))=_
      rw [e7 (h:=(aB N nb g e P).2) _ (fun s hs=>jL hs),ih,lW]
      by_cases e':x=P
      · subst e';simp [h]
      · have e1:decide (x<P+1)=decide (x<P):=by simp;omega
        have e2:((P:Int)==(x:Int))=false:=beq_eq_false_iff_ne.2 (by omega)
        rw [e1,e2,Bool.or_false]
theorem jc (N nb:Nat) (g:Nat→aa) (e:Nat):∀ P,(aB N nb g e P).1=Mat.cardR (c8 N nb g e) P
  | 0=>rfl
  | P+1=>by
    have ih:=jc N nb g e P
    cases h:c8 N nb g e P with
    | false=>rw [jM h,ih];simp [Mat.cardR,h]
    | true =>
      rw [ji h]
      show (aB N nb g e P).1+1=_
      rw [ih];simp [Mat.cardR,h]
theorem mC {N nb:Nat} {g:Nat→aa} {e d:Nat}:∀ P,(∀ p,p<P→c8 N nb g e p=c8 N nb g d p)→aB N nb g e P=aB N nb g d P
  | 0,_=>rfl
  | P+1,h=>by
    have ih:=mC P (fun p hp=>h p (by omega))
    have h1:=h P (by omega)
    cases h2:c8 N nb g d P with
    | false=>rw [jM h2,jM (h1.trans h2),ih]
    | true=>rw [ji h2,ji (h1.trans h2),ih]
theorem fF {R S:Nat→Bool}:∀ n,(∀ v,v<n→R v=S v)→Mat.cardR R n=Mat.cardR S n
  | 0,_=>rfl
  | n+1,h=>by simp only [Mat.cardR];rw [fF n (fun v hv=>h v (by omega)),h n (by omega)]
theorem mn {N:Nat} {R S:Nat→Bool} (h:∀ v,v<N→R v=S v):∀ l:List (Nat×Nat),(∀ x∈l,Mat.GoodBar N x)→Mat.cnt R l=Mat.cnt S l
  | [],_=>rfl
  | x::l,hl=>by
    have hx:=hl x (by simp)
    simp only [Mat.cnt,Mat.inn]
    rw [mn h l (fun y hy=>hl y (by simp [hy])),h _ hx.2.1,h _ hx.2.2]
theorem kO {N:Nat} {I:List (Nat×Nat)} {R S:Nat→Bool} (hI:∀ x∈I,Mat.GoodBar N x) (h:∀ v,v<N→R v=S v):Mat.Tight N I R↔Mat.Tight N I S:=by
  unfold Mat.Tight
  rw [mn h I hI,fF N h]
noncomputable def jC (N nb:Nat) (g:Nat→aa):List (Nat×Nat):=Mat.greedy N 2 3 [] (bL g nb)
theorem rB {N nb:Nat} {g:Nat→aa} (h:aO N nb g):∀ x∈jC N nb g,Mat.GoodBar N x:=by
  intro x hx
  obtain ⟨t,h1,h2⟩:=Mat.greedy_pre N 2 3 (bL g nb) []
  unfold jC at hx
  rw [h1] at hx
  exact dv h x (h2 x (by simpa using hx))
theorem CD {N nb:Nat} {g:Nat→aa}:∀ x∈jC N nb g,x∈bL g nb:=by
  intro x hx
  obtain ⟨t,h1,h2⟩:=Mat.greedy_pre N 2 3 (bL g nb) []
  unfold jC at hx
  rw [h1] at hx
  exact h2 x (by simpa using hx)
theorem mT (N nb:Nat) (g:Nat→aa):Mat.Sparse N 2 3 (jC N nb g):=Mat.greedy_sparse N 2 3 _ _ (Mat.sparse_nil N 2 3)
theorem wc {N nb:Nat} {g:Nat→aa} (hok:aO N nb g) {a b:Nat} (ha:a<N) (hb:b<N):ii N nb g (a:Int) (b:Int)=true↔a=b∨Mat.Imp N (jC N nb g) a b:=by
  rw [Bo hok (by omega) (by omega)]
  by_cases e:a=b
  · subst e;simp
  · rw [show ((a:Int).toNat)=a by omega,show ((b:Int).toNat)=b by omega,Mat.rk_same_iff (dv hok) ⟨e,ha,hb⟩]
    constructor
    · rintro (h | h)
      · exact absurd (by omega) e
      · exact .inr h
    · rintro (h | h)
      · exact absurd h e
      · exact .inr h
theorem gR {N nb:Nat} {g:Nat→aa} (hok:aO N nb g) {e:Nat} (he:e<nb) :
    Mat.Tight N (jC N nb g) (c8 N nb g e)∧c8 N nb g e (g e).1.toNat=true∧c8 N nb g e (g e).2.1.toNat=true ∧
    ∀ S,Mat.Tight N (jC N nb g) S→S (g e).1.toNat=true→S (g e).2.1.toNat=true→∀ p,p<N→S p=true→c8 N nb g e p=true:=by
  have hb:=hok e he
  obtain ⟨a,ha⟩:∃ a:Nat,(g e).1=(a:Int):=⟨(g e).1.toNat,by omega⟩
  obtain ⟨b,hb'⟩:∃ b:Nat,(g e).2.1=(b:Int):=⟨(g e).2.1.toNat,by omega⟩
  have hI:=mT N nb g
  have hin:∃ R,Mat.Tight N (jC N nb g) R∧Mat.inn R (a,b)=true:=by
    have:=Mat.greedy_tight (N:=N) (bL g nb) [] (dv hok) (Mat.sparse_nil N 2 3) (a,b) ((kH g _ nb).2 ⟨e,he,by simp [bA,ha,hb']⟩)
    exact this
  obtain ⟨B,b1,b2,b3⟩:=Mat.biggest (a,b) hin
  simp only [Mat.inn,Bool.and_eq_true] at b2
  have haN:a<N:=by omega
  have hbN:b<N:=by omega
  have hab:a≠b:=by omega
  have hown:∀ p,p<N→(c8 N nb g e p=true↔B p=true):=by
    intro p hp
    have e0:c8 N nb g e p=true↔(a=p∨Mat.Imp N (jC N nb g) a p)∧(b=p∨Mat.Imp N (jC N nb g) b p):=by
      rw [← wc hok haN hp,← wc hok hbN hp]
      unfold c8
      rw [ha,hb']
      cases ii N nb g (a:Int) (p:Int)<;>simp
    rw [e0]
    constructor
    · rintro ⟨h1,h2⟩
      by_cases e1:a=p
      · subst e1;exact b2.1
      by_cases e2:b=p
      · subst e2;exact b2.2
      have h1:=h1.resolve_left e1
      have h2:=h2.resolve_left e2
      obtain ⟨R,t,r1,r2,r3⟩:=Mat.tight_tri hI haN hbN hp hab e1 e2 ⟨B,b1,b2.1,b2.2⟩ h1 h2
      have tu:=Mat.tight_union hI b1 t a b hab haN hbN b2.1 b2.2 r1 r2
      have hc:=b3 _ tu (by simp [Mat.inn,Mat.uni,b2.1,b2.2])
      exact Mat.card_eq B (Mat.uni B R) (fun v hv=>by simp [Mat.uni,hv]) N hc p hp (by simp [Mat.uni,r3])
    · intro h
      exact ⟨.inr ⟨B,b1,b2.1,h⟩,.inr ⟨B,b1,b2.2,h⟩⟩
  have hbe:∀ v,v<N→c8 N nb g e v=B v:=fun v hv=>by
    have:=hown v hv
    cases h1:c8 N nb g e v<;>cases h2:B v<;>simp_all
  refine ⟨(kO (rB hok) hbe).2 b1,?_,?_,fun S t s1 s2 p hp hs=>?_⟩
  · rw [show (g e).1.toNat=a by omega];exact (hown a haN).2 b2.1
  · rw [show (g e).2.1.toNat=b by omega];exact (hown b hbN).2 b2.2
  · rw [show (g e).1.toNat=a by omega] at s1
    rw [show (g e).2.1.toNat=b by omega] at s2
    have tu:=Mat.tight_union hI b1 t a b hab haN hbN b2.1 b2.2 s1 s2
    have hc:=b3 _ tu (by simp [Mat.inn,Mat.uni,b2.1,b2.2])
    exact (hown p hp).2 (Mat.card_eq B (Mat.uni B S) (fun v hv=>by simp [Mat.uni,hv]) N hc p hp (by simp [Mat.uni,hs]))
theorem Cm {N nb:Nat} {g:Nat→aa} (hok:aO N nb g) {e d:Nat} (he:e<nb) (hd:d<nb) (h:2≤Mat.cardR (Mat.cap2 (c8 N nb g e) (c8 N nb g d)) N) :
    aB N nb g e N=aB N nb g d N:=by
  obtain ⟨t1,a1,b1,m1⟩:=gR hok he
  obtain ⟨t2,a2,b2,m2⟩:=gR hok hd
  have tu:=Mat.tight_union2 (mT N nb g) t1 t2 h
  refine mC N (fun p hp=>?_)
  have k1:=m1 _ tu (by simp [Mat.uni,a1]) (by simp [Mat.uni,b1]) p hp
  have k2:=m2 _ tu (by simp [Mat.uni,a2]) (by simp [Mat.uni,b2]) p hp
  simp only [Mat.uni,Bool.or_eq_true] at k1 k2
  cases h1:c8 N nb g e p<;>cases h2:c8 N nb g d p<;>simp_all
theorem vK (u:ad):bQ u u=true:=by
  have:∀ n,bV u.2 u.2 n=true:=fun n=>by
    induction n with
    | zero=>rfl
    | succ n ih=>simp [bV,ih,fC]
  simp [bQ,this]
theorem CY {f h:Nat→Int}:∀ {n:Nat},bV f h n=true→∀ s,s<n→f s=h s
  | 0,_,s,hs=>absurd hs (Nat.not_lt_zero _)
  | n+1,e,s,hs=>by
    simp only [bV,Bool.and_eq_true,fC,beq_iff_eq] at e
    by_cases e':s=n
    · subst e';exact e.2
    · exact CY e.1 s (by omega)
theorem GH {u v:ad} (h:bQ u v=true):u.1=v.1∧∀ s,s<u.1→u.2 s=v.2 s:=by
  unfold bQ at h
  split at h
  · exact ⟨by assumption,CY h⟩
  · cases h
theorem qy (C:Nat→ad) (c:ad):∀ n,w9 C c n=true↔∃ j,j<n∧bQ (C j) c=true
  | 0=>by simp [w9]
  | n+1=>by
    have ih:=qy C c n
    simp only [w9]
    constructor
    · intro h
      cases hk:w9 C c n with
      | true=>obtain ⟨j,h1,h2⟩:=ih.1 hk;exact ⟨j,by omega,h2⟩
      | false=>rw [hk,cond_false] at h;exact ⟨n,by omega,h⟩
    · rintro ⟨j,h1,h2⟩
      by_cases e:j=n
      · subst e;rw [h2];cases w9 C c j<;>rfl
      · rw [ih.2 ⟨j,by omega,h2⟩];rfl
theorem iz {n:Nat} {C:Nat→ad} {c:ad} {i:Nat} (h:i<n):b8 n C c i=C i:=by simp [b8,h]
theorem mi (n:Nat) (C:Nat→ad) (c:ad):b8 n C c n=c:=by simp [b8]
theorem dV (N nb:Nat) (g:Nat→aa):∀ E,(∀ j,j<(an N nb g E).1→∃ e,e<E∧(an N nb g E).2 j=aB N nb g e N) ∧
    (∀ e,e<E→∃ j,j<(an N nb g E).1∧bQ ((an N nb g E).2 j) (aB N nb g e N)=true) ∧
    (∀ i j,j<i→i<(an N nb g E).1→bQ ((an N nb g E).2 j) ((an N nb g E).2 i)=false)
  | 0=>⟨fun j hj=>absurd hj (Nat.not_lt_zero _),fun e he=>absurd he (Nat.not_lt_zero _),fun i j _ hi=>absurd hi (Nat.not_lt_zero _)⟩
  | E+1=>by
    obtain ⟨h1,h2,h3⟩:=dV N nb g E
    simp only [an]
    by_cases hk:w9 (an N nb g E).2 (aB N nb g E N) (an N nb g E).1=true
    · rw [if_pos hk]
      refine ⟨fun j hj=>?_,fun e he=>?_,h3⟩
      · obtain ⟨e,e1,e2⟩:=h1 j hj;exact ⟨e,by omega,e2⟩
      · by_cases e':e=E
        · subst e';exact (qy _ _ _).1 hk
        · exact h2 e (by omega)
    · rw [if_neg hk]
      generalize (an N nb g E).1=n at h1 h2 h3 hk ⊢
      generalize (an N nb g E).2=C at h1 h2 h3 hk ⊢
      refine ⟨fun j hj=>?_,fun e he=>?_,fun i j hji hi=>?_⟩
      · by_cases e':j<n
        · obtain ⟨e,e1,e2⟩:=h1 j e'
          exact ⟨e,by omega,by show b8 n C _ j=_;rw [iz e'];exact e2⟩
        · have:j=n:=by have:j<n+1:=hj;omega
          subst this
          exact ⟨E,by omega,mi _ _ _⟩
      · by_cases e':e=E
        · subst e';exact ⟨n,Nat.lt_succ_self n,by show bQ (b8 n C _ n) _=true;rw [mi];exact vK _⟩
        · obtain ⟨j,j1,j2⟩:=h2 e (by omega)
          exact ⟨j,by show j<n+1;omega,by show bQ (b8 n C _ j) _=true;rw [iz j1];exact j2⟩
      · show bQ (b8 n C _ j) (b8 n C _ i)=false
        have hi':i<n+1:=hi
        rw [iz (show j<n by omega)]
        by_cases e':i<n
        · rw [iz e'];exact h3 i j hji e'
        · have:i=n:=by omega
          subst this
          rw [mi]
          cases hq:bQ (C j) (aB N nb g E N) with
          | false=>rfl
          | true=>exact absurd ((qy _ _ _).2 ⟨j,hji,hq⟩) hk
theorem Gy {u v:ad} (h:bQ u v=true) (p:Nat):db u p=db v p:=by
  obtain ⟨h1,h2⟩:=GH h
  unfold db
  rw [e7 u.1 h2,h1]
theorem pF {N nb:Nat} {g:Nat→aa} (hok:aO N nb g) {i j:Nat} (hji:j<i) (hi:i<(an N nb g nb).1) :
    Mat.cardR (Mat.cap2 (db ((an N nb g nb).2 i)) (db ((an N nb g nb).2 j))) N≤1:=by
  obtain ⟨h1,h2,h3⟩:=dV N nb g nb
  obtain ⟨e,e1,e2⟩:=h1 i hi
  obtain ⟨d,d1,d2⟩:=h1 j (by omega)
  have hq:=h3 i j hji hi
  rw [e2,d2] at hq ⊢
  by_cases h:Mat.cardR (Mat.cap2 (db (aB N nb g e N)) (db (aB N nb g d N))) N≤1
  · exact h
  · exfalso
    have hc:Mat.cardR (Mat.cap2 (db (aB N nb g e N)) (db (aB N nb g d N))) N=Mat.cardR (Mat.cap2 (c8 N nb g e) (c8 N nb g d)) N :=
      fF N (fun v hv=>by simp only [Mat.cap2];rw [eZ,eZ];simp [hv])
    have:=Cm hok e1 d1 (by omega)
    rw [this,vK] at hq
    cases hq
def qp (C:Nat→ad):Nat→List (Nat→Bool)
  | 0=>[]
  | n+1=>db (C n)::qp C n
theorem rt (C:Nat→ad) (x:Nat×Nat):∀ n,(∀ i j,j<i→i<n→¬ (Mat.inn (db (C i)) x=true∧Mat.inn (db (C j)) x=true)) →
    ((∃ j,j<n∧Mat.inn (db (C j)) x=true)→Mat.homes x (qp C n)=1)∧((∀ j,j<n→Mat.inn (db (C j)) x=false)→Mat.homes x (qp C n)=0)
  | 0,_=>⟨fun ⟨j,hj,_⟩=>absurd hj (Nat.not_lt_zero _),fun _=>rfl⟩
  | n+1,h=>by
    obtain ⟨i1,i2⟩:=rt C x n (fun i j hj hi=>h i j hj (by omega))
    simp only [qp,Mat.homes]
    cases hn:Mat.inn (db (C n)) x with
    | true =>
      have:=i2 (fun j hj=>by
        cases hj':Mat.inn (db (C j)) x with
        | false=>rfl
        | true=>exact absurd ⟨hn,hj'⟩ (h n j hj (by omega)))
      rw [this]
      exact ⟨fun _=>rfl,fun hh=>by have:=hh n (by omega);rw [hn] at this;cases this⟩
    | false =>
      refine ⟨fun ⟨j,hj,hx⟩=>?_,fun hh=>?_⟩
      · have:j≠n:=fun e=>by rw [e,hn] at hx;cases hx
        rw [i1 ⟨j,by omega,hx⟩];rfl
      · rw [i2 (fun j hj=>hh j (by omega))];rfl
theorem kZ {N nb:Nat} {g:Nat→aa} (hok:aO N nb g):∀ x∈bL g nb,Mat.homes x (qp (an N nb g nb).2 (an N nb g nb).1)=1:=by
  intro x hx
  have hgood:=dv hok x hx
  obtain ⟨e,he,hxe⟩:=(kH g x nb).1 hx
  obtain ⟨h1,h2,h3⟩:=dV N nb g nb
  have hdis:∀ i j,j<i→i<(an N nb g nb).1→¬ (Mat.inn (db ((an N nb g nb).2 i)) x=true∧Mat.inn (db ((an N nb g nb).2 j)) x=true):=by
    intro i j hji hi ⟨a1,a2⟩
    have h:=pF hok hji hi
    simp only [Mat.inn,Bool.and_eq_true] at a1 a2
    have:=Mat.card_two (Mat.cap2 (db ((an N nb g nb).2 i)) (db ((an N nb g nb).2 j))) x.1 x.2 (by simp [Mat.cap2,a1.1,a2.1]) (by simp [Mat.cap2,a1.2,a2.2]) hgood.1 N hgood.2.1 hgood.2.2
    omega
  refine (rt _ x _ hdis).1 ?_
  obtain ⟨j,j1,j2⟩:=h2 e he
  refine ⟨j,j1,?_⟩
  obtain ⟨_,o1,o2,_⟩:=gR hok he
  have hb:=hok e he
  simp only [Mat.inn,← hxe,bA,Gy j2,eZ,Bool.and_eq_true,decide_eq_true_eq]
  exact ⟨⟨by omega,o1⟩,⟨by omega,o2⟩⟩
theorem vj {N nb:Nat} {g:Nat→aa} (hok:aO N nb g):Fs (an N nb g nb).2 (an N nb g nb).1=((aK N 2 3 g nb).length:Int):=by
  have ht:∀ j,j<(an N nb g nb).1→Mat.Tight N (jC N nb g) (db ((an N nb g nb).2 j))∧((an N nb g nb).2 j).1=Mat.cardR (db ((an N nb g nb).2 j)) N:=by
    intro j hj
    obtain ⟨e,e1,e2⟩:=(dV N nb g nb).1 j hj
    rw [e2]
    have hc:∀ v,v<N→db (aB N nb g e N) v=c8 N nb g e v:=fun v hv=>by rw [eZ];simp [hv]
    exact ⟨(kO (rB hok) hc).2 (gR hok e1).1,by rw [jc,fF N hc]⟩
  have h1:=Mat.cntAll_length (qp (an N nb g nb).2 (an N nb g nb).1) (jC N nb g) (fun x hx=>kZ hok x (CD x hx))
  rw [dn]
  show _=((jC N nb g).length:Int)
  rw [← h1]
  generalize (an N nb g nb).1=n at ht
  generalize (an N nb g nb).2=C at ht
  clear h1
  induction n with
  | zero=>rfl
  | succ n ih =>
    have:=ih (fun j hj=>ht j (by omega))
    obtain ⟨t,c⟩:=ht n (by omega)
    unfold Mat.Tight at t
    simp only [Fs,qp,Mat.cntAll]
    rw [this]
    omega
theorem sh (N:Nat) (S:Nat→ap):∀ d i (D:NB),uF N S (d+1) i D=(uF N S d i D).bind (fun E=>if (nP N E.1 E.2 (S (i+d))).2=true then some (nP N E.1 E.2 (S (i+d))).1 else none)
  | 0,i,D=>by simp only [uF];rfl
  | d+1,i,D=>by
    show (if (nP N D.1 D.2 (S i)).2=true then uF N S (d+1) (i+1) (nP N D.1 D.2 (S i)).1 else none)=(if (nP N D.1 D.2 (S i)).2=true then uF N S d (i+1) (nP N D.1 D.2 (S i)).1 else none).bind _
    by_cases h:(nP N D.1 D.2 (S i)).2=true
    · rw [if_pos h,if_pos h,sh N S d (i+1),show i+1+d=i+(d+1) by omega]
    · rw [if_neg h,if_neg h];rfl
theorem zu {N nb:Nat} {g:Nat→aa} {s:ap} {l:List aa} (h21:nb≤21) (h:tD N nb g s=some l):nP N nb g s=(sN l,true):=by
  unfold nP
  rw [if_pos h21,h]
theorem CH {N:Nat} {D:NB} (h:Inv N D) (h1:D.1=1) (T:Nat→ap) (hT:T 0=dY D.2):∃ E,uF N T 1 0 (0,fun _=>(0,0,()))=some E∧E.1=D.1∧al E.1 E.2=al D.1 D.2:=by
  obtain ⟨n,g⟩:=D
  have h1:n=1:=h1
  subst h1
  have hg:=h.gd (g 0) (List.mem_map.2 ⟨0,by simp,rfl⟩)
  have hN:=(az (nb:=1) (g:=g) h.gr).1
  have e:aD (g 0).1 (g 0).2.1=g 0:=eb hg.2.1
  have hap:tD N 0 (fun _=>(0,0,())) (T 0)=some [g 0]:=by
    rw [hT]
    unfold tD dY
    rw [if_pos (show ((0:Int),(0:Int),(g 0).1,(g 0).2.1,(0:Int),()).1=0 from rfl)]
    have hok:eu (N:Int) (lN [(g 0).1,(g 0).2.1]).2 2=true:=uf rfl (fun x hx=>by
      simp only [List.mem_cons,List.not_mem_nil,or_false] at hx
      rcases hx with e | e<;>(subst e;omega)) (by simp [List.nodup_cons];omega)
    rw [if_pos (show (((0:Nat):Int)=0∧(0:Int)=0∧(0:Int)=0)∧eu (N:Int) (lN [(g 0).1,(g 0).2.1]).2 2=true from ⟨⟨rfl,rfl,rfl⟩,hok⟩)]
    show some (bz ([]++[aD (g 0).1 (g 0).2.1]))=_
    rw [e,List.nil_append,← iy (List.Perm.refl [g 0]) (by simp)]
  refine ⟨sN [g 0],?_,rfl,?_⟩
  · simp only [uF]
    rw [zu (by omega) hap]
    rfl
  · show al 1 (sN [g 0]).2=al 1 g
    have:=mA [g 0]
    exact this.trans rfl
theorem rh {N:Nat}:∀ m (D:NB) (S:aU),Inv N D→D.1≤2*m+1→∃ p,(nI N m D S).2=true∧(nI N m D S).1.1=p+S.1∧(∀ i,i<S.1→(nI N m D S).1.2 (p+i)=S.2 i) ∧
    ∃ E,uF N (nI N m D S).1.2 p 0 (0,fun _=>(0,0,()))=some E∧E.1=D.1∧al E.1 E.2=al D.1 D.2
  | m,D,S,h,hm=>by
    have hodd:=h.len
    have hle:=h.le
    by_cases h1:D.1=1
    · rw [A3 N m D S h1]
      refine ⟨1,rfl,Nat.add_comm _ _,fun i hi=>?_,?_⟩
      · show om S.2 (dY D.2) (1+i)=S.2 i
        rw [ml (c:=0),if_neg (by omega),show 1+i - 1=i by omega]
      · exact CH h h1 _ (by show om S.2 (dY D.2) 0=_;rw [ml (c:=0),if_pos (by omega)])
    · obtain ⟨n,g⟩:=D
      have hodd:n+3=2*_:=hodd
      have h1':1<n:=by
        have:n≠1:=h1
        omega
      match m,hm with
      | 0,hm=>exact absurd hm (by show ¬ n≤1;omega)
      | m+1,hm =>
        obtain ⟨u,hu⟩:=yp h h1'
        obtain ⟨hI,hn,hap⟩:=yz h h1' hu
        rw [Dj (D:=(n,g)) h1' hu]
        have hm:n≤2*(m+1)+1:=hm
        obtain ⟨p,p1,p2,p3,E,E1,E2,E3⟩:=rh m u.1 (S.1+1,om S.2 u.2) hI (by omega)
        have hp0:=p3 0 (by show 0<S.1+1;omega)
        refine ⟨p+1,p1,by rw [p2];show p+(S.1+1)=_;omega,fun i hi=>?_,?_⟩
        · have:=p3 (i+1) (by show i+1<S.1+1;omega)
          rw [show p+1+i=p+(i+1) by omega,this]
          show om S.2 u.2 (i+1)=_
          rw [ml (c:=0),if_neg (by omega),show i+1 - 1=i by omega]
        · rw [sh,E1,Option.bind_some,Nat.zero_add]
          have hp0:(nI N m u.1 (S.1+1,om S.2 u.2)).1.2 p=u.2:=by
            have e:om S.2 u.2 0=u.2:=by rw [ml (c:=0),if_pos (by omega)]
            rw [← e];exact hp0
          rw [hp0]
          have hap2:=hap E.2 (by rw [← E2];rw [E3,E2])
          rw [← E2] at hap2
          have hle:n+3≤2*N:=hle
          have hN:=(az (nb:=n) (g:=g) h.gr).1
          rw [zu (by omega) hap2,if_pos rfl]
          refine ⟨_,rfl,?_,?_⟩
          · show (al n g).length=n
            exact aC _ _
          · show al (al n g).length (sN (al n g)).2=al n g
            exact mA (al n g)
theorem oX (S:ad) (A:Nat→aa):∀ d i (x:cA),kC S A i (d+1) x=bif a0 S.2 ((i+d:Nat):Int) S.1 then ((kC S A i d x).1+1,aZ (kC S A i d x).1 (kC S A i d x).2 (A (i+d))) else kC S A i d x
  | 0,i,x=>by simp only [kC];rfl
  | d+1,i,x=>by
    rw [kC,oX S A d (i+1)]
    rw [show i+1+d=i+(d+1) by omega]
    rfl
theorem nu (N:Nat) (g:Nat→aa) (e:Nat):∀ n,e∈aK N 2 3 g n↔e<n∧e∈aK N 2 3 g (e+1)
  | 0=>by simp [aK]
  | n+1=>by
    have ih:=nu N g e n
    by_cases he:e=n
    · subst he;simp
    · have h1:e∈aK N 2 3 g (n+1)↔e∈aK N 2 3 g n:=by
        rw [aK]
        split
        · rw [List.mem_append,List.mem_singleton]
          constructor
          · rintro (h | h)
            · exact h
            · exact absurd h he
          · exact .inl
        · exact Iff.rfl
      rw [h1,ih]
      constructor
      · rintro ⟨a,b⟩;exact ⟨by omega,b⟩
      · rintro ⟨a,b⟩;exact ⟨by omega,b⟩
theorem mI {f:Nat→Int} {x:Int}:∀ n,a0 f x n=true↔∃ i,i<n∧f i=x
  | 0=>by simp [a0]
  | n+1=>by
    simp only [a0,Bool.or_eq_true,beq_iff_eq,mI n]
    constructor
    · rintro (⟨i,h1,h2⟩ | h)
      · exact ⟨i,by omega,h2⟩
      · exact ⟨n,by omega,h⟩
    · rintro ⟨i,h1,h2⟩
      by_cases e:i=n
      · subst e;exact .inr h2
      · exact .inl ⟨i,by omega,h2⟩
theorem B8 (N nb:Nat) (g:Nat→aa) (e:Nat):a0 (ki N nb g).2 (e:Int) (ki N nb g).1=decide (e∈aK N 2 3 g nb):=by
  cases h:a0 (ki N nb g).2 (e:Int) (ki N nb g).1 with
  | true =>
    obtain ⟨i,h1,h2⟩:=(mI _).1 h
    have h1:i<(aK N 2 3 g nb).length:=h1
    have h2:(((aK N 2 3 g nb).getD i 0:Nat):Int)=(e:Int):=h2
    rw [List.getD_eq_getElem?_getD,List.getElem?_eq_getElem h1] at h2
    have h2':(((aK N 2 3 g nb)[i]:Nat):Int)=(e:Int):=by simpa using h2
    have h2:(aK N 2 3 g nb)[i]=e:=by omega
    exact (decide_eq_true (by rw [← h2];exact List.getElem_mem h1)).symm
  | false =>
    refine (decide_eq_false (fun hm=>?_)).symm
    obtain ⟨i,h1,h2⟩:=List.getElem_of_mem hm
    have:a0 (ki N nb g).2 (e:Int) (ki N nb g).1=true:=(mI _).2 ⟨i,h1,by
      show (((aK N 2 3 g nb).getD i 0:Nat):Int)=(e:Int)
      rw [List.getD_eq_getElem?_getD,List.getElem?_eq_getElem h1]
      simp [h2]⟩
    rw [this] at h;cases h
theorem gJ (N nb:Nat) (g:Nat→aa):∀ d,d≤nb→al (kC (ki N nb g) g 0 d zB).1 (kC (ki N nb g) g 0 d zB).2=(aK N 2 3 g d).map g
  | 0,_=>rfl
  | d+1,h=>by
    have ih:=gJ N nb g d (by omega)
    rw [oX,Nat.zero_add,B8]
    have h1:=nu N g d nb
    by_cases hm:d∈aK N 2 3 g nb
    · rw [decide_eq_true hm,cond_true]
      have h2:=(h1.1 hm).2
      show al ((kC (ki N nb g) g 0 d zB).1+1) (aZ _ _ _)=_
      rw [cD,ih]
      rw [aK] at h2 ⊢
      split at h2
      · rename_i hs;rw [if_pos hs,List.map_append];rfl
      · exact absurd ((nu N g d d).1 h2).1 (by omega)
    · rw [decide_eq_false hm,cond_false,ih]
      have h2:¬ d∈aK N 2 3 g (d+1):=fun h=>hm (h1.2 ⟨by omega,h⟩)
      rw [aK] at h2 ⊢
      split
      · rename_i hs;rw [if_pos hs] at h2;exact absurd (by simp) h2
      · rfl
theorem qD (N:Nat) (g:Nat→aa):∀ n,((aK N 2 3 g n).map g).Sublist (al n g)
  | 0=>List.Sublist.refl _
  | n+1=>by
    have ih:=qD N g n
    rw [bI,aK]
    split
    · rw [List.map_append];exact ih.append (List.Sublist.refl _)
    · exact ih.trans (List.sublist_append_left _ _)
noncomputable abbrev aV (N nb:Nat) (g:Nat→aa):NB:=kC (ki N nb g) g 0 nb zB
theorem ql (N nb:Nat) (g:Nat→aa):(aV N nb g).1=(aK N 2 3 g nb).length:=by
  have:=congrArg List.length (gJ N nb g nb (Nat.le_refl _))
  rwa [aC,List.length_map] at this
theorem xu (N nb:Nat) (g:Nat→aa):bL (aV N nb g).2 (aV N nb g).1=Mat.greedy N 2 3 [] (bL g nb):=by
  rw [eQ,gJ N nb g nb (Nat.le_refl _),List.map_map,← ja]
  rfl
theorem l7 {N nb:Nat} {g:Nat→aa} (hg:ah ((N:Int),(nb,g),())=true):ah ((N:Int),aV N nb g,())=true:=by
  obtain ⟨hN,hnb,hok⟩:=az hg
  have hl:=gJ N nb g nb (Nat.le_refl _)
  have hs:(al (aV N nb g).1 (aV N nb g).2).Sublist (al nb g):=by rw [hl];exact qD N g nb
  refine l6 (nb:=0) (g:=fun _=>(0,0,())) hN ?_ (iy (List.Perm.refl _) (List.Pairwise.sublist hs (pB hg))) (fun x hx=>rr hok x (hs.mem hx))
  have:=cY N 2 3 g nb
  rw [ql];omega
theorem Ek {N:Nat} {L:List (Nat×Nat)} (hL:∀ x∈L,Mat.GoodBar N x) (hs:Mat.Sparse N 2 3 L):L.length=0∨L.length+3≤2*N:=by
  by_cases h0:L.length=0
  · exact .inl h0
  · have hc:=Mat.cnt_all (R:=fun _=>true) (L:=L) (fun x _=>rfl)
    have:=hs (fun _=>true) (by omega)
    have:=Mat.card_le (fun _=>true) N
    exact .inr (by omega)
theorem kP {N nb:Nat} {g:Nat→aa} (hg:ah ((N:Int),(nb,g),())=true):((aK N 2 3 g nb).length:Int)≤cE N:=by
  obtain ⟨hN,hnb,hok⟩:=az hg
  rw [dn]
  obtain ⟨t,h1,h2⟩:=Mat.greedy_pre N 2 3 (bL g nb) []
  have:=Ek (N:=N) (L:=Mat.greedy N 2 3 [] (bL g nb)) (fun x hx=>dv hok x (h2 x (by rw [h1] at hx;simpa using hx))) (Mat.greedy_sparse N 2 3 _ _ (Mat.sparse_nil N 2 3))
  unfold cE
  split<;>omega
theorem CA {N nb:Nat} {g:Nat→aa} (hg:ah ((N:Int),(nb,g),())=true):oV ((N:Int),aV N nb g,())=(bw ((N:Int),(nb,g),())==0):=by
  have hk:=l7 hg
  have hr:(aK N 2 3 (aV N nb g).2 (aV N nb g).1).length=(aV N nb g).1:=by
    rw [dn,xu]
    have hs:=Mat.greedy_sparse N 2 3 (bL g nb) [] (Mat.sparse_nil N 2 3)
    have hl:(Mat.greedy N 2 3 [] (bL g nb)).length=(aV N nb g).1:=by rw [ql,dn]
    have key:∀ (xs acc:List (Nat×Nat)),Mat.Sparse N 2 3 (acc++xs)→Mat.greedy N 2 3 acc xs=acc++xs:=by
      intro xs
      induction xs with
      | nil=>intro acc _;simp [Mat.greedy]
      | cons x xs ih =>
        intro acc h
        have e:acc++x::xs=(acc++[x])++xs:=by simp
        have h':Mat.Sparse N 2 3 (acc++[x]):=fun R hR=>by
          have h2:=h R
          rw [e,Mat.cnt_append] at h2
          have:=h2 (by omega)
          omega
        simp only [Mat.greedy]
        rw [if_pos h',ih _ (by rw [← e];exact h),← e]
    rw [key _ [] (by simpa using hs),List.nil_append,hl]
  have f1:bw ((N:Int),aV N nb g,())=cE N - ((aV N nb g).1:Int):=by
    unfold bw
    rw [if_pos hk]
    show cE N - ((aK N 2 3 (aV N nb g).2 (aV N nb g).1).length:Int)=_
    rw [hr]
  have f2:bw ((N:Int),(nb,g),())=cE N - ((aV N nb g).1:Int):=by
    unfold bw
    rw [if_pos hg,ql]
    rfl
  unfold oV
  rw [f1,f2]
  have:((aV N nb g).1:Int)==(qF ((N:Int),aV N nb g,()):Int):=by
    show (((aV N nb g).1:Int)==((aK N 2 3 (aV N nb g).2 (aV N nb g).1).length:Int))=true
    rw [hr];simp
  show (bif (cE N - ((aV N nb g).1:Int)==0) then (((aV N nb g).1:Int)==(qF ((N:Int),aV N nb g,()):Int)) else false)=_
  rw [this]
  cases (cE (N:Int) - ((aV N nb g).1:Int)==0)<;>rfl
theorem ru {N nb:Nat} {g:Nat→aa} (hg:ah ((N:Int),(nb,g),())=true) :
    ((gY 1 N nb g).2=true→Ez (gY 1 N nb g).1=true)∧(1<N→(gY 1 N nb g).2=(bw ((N:Int),(nb,g),())==0)):=by
  have hk:=l7 hg
  have hmr:=CA hg
  obtain ⟨hN,hnb,hok⟩:=az hg
  have e1:gY 1 N nb g=BC 1 N (nb,g) (pC N (aV N nb g).1 (aV N nb g).2):=by unfold gY;rw [if_pos rfl]
  rw [e1]
  cases hb:(bif !oV ((N:Int),((aV N nb g).1,(aV N nb g).2),()) then true else ((aV N nb g).1:Int)==0) with
  | true =>
    have e2:pC N (aV N nb g).1 (aV N nb g).2=((0,fun _=>pM),false):=by unfold pC;rw [hb];rfl
    rw [e2,A8 rfl]
    refine ⟨fun h=>(by cases h),fun hN1=>?_⟩
    show false=_
    rw [← hmr]
    cases hm:oV ((N:Int),aV N nb g,()) with
    | false=>rfl
    | true =>
      rw [show oV ((N:Int),((aV N nb g).1,(aV N nb g).2),())=true from hm] at hb
      have h0:(aV N nb g).1=0:=by
        have:(((aV N nb g).1:Int)==0)=true:=hb
        simpa using this
      rw [hmr] at hm
      have hf:bw ((N:Int),(nb,g),())=cE N - ((aV N nb g).1:Int):=by
        unfold bw
        rw [if_pos hg,ql];rfl
      rw [hf,h0] at hm
      have hm:cE (N:Int) - ((0:Nat):Int)=0:=by simpa using hm
      unfold cE at hm
      split at hm<;>omega
  | false =>
    have e2:pC N (aV N nb g).1 (aV N nb g).2=nI N (aV N nb g).1 ((aV N nb g).1,(aV N nb g).2) (0,fun _=>pM):=by unfold pC;rw [hb];rfl
    have hm:oV ((N:Int),((aV N nb g).1,(aV N nb g).2),())=true∧(aV N nb g).1≠0:=by
      cases hm:oV ((N:Int),((aV N nb g).1,(aV N nb g).2),()) with
      | false=>rw [hm] at hb;cases hb
      | true =>
        rw [hm] at hb
        exact ⟨rfl,fun h0=>by rw [h0] at hb;simp at hb⟩
    obtain ⟨hI,hn⟩:=xL hm.1 hm.2
    obtain ⟨p,p1,p2,p3,E,E1,E2,E3⟩:=rh (aV N nb g).1 ((aV N nb g).1,(aV N nb g).2) (0,fun _=>pM) hI (by show (aV N nb g).1≤_;omega)
    rw [e2]
    generalize nI N (aV N nb g).1 ((aV N nb g).1,(aV N nb g).2) (0,fun _=>pM)=R at *
    rw [zG p1]
    refine ⟨fun _=>?_,fun _=>?_⟩
    · show BB 1 g nb N _ _ _ _ _ _ R.1 _=true
      unfold BB
      rw [if_pos rfl]
      unfold Bq
      have hbu:yD (N:Int) R.1.1 R.1.2=some E:=by
        unfold yD
        rw [if_pos (show bC (N:Int) 1 8=true by simp [bC];omega),Int.toNat_natCast,p2]
        exact E1
      rw [hbu]
      have hiG:gi g nb (N:Int)=true:=hg
      show (gi g nb (N:Int)&&((E.1:Int)==2*(N:Int) - 3&&a8 (fun i=>vm g nb (E.2 i)) E.1))=true
      have E2:E.1=(aV N nb g).1:=E2
      have h3:((E.1:Int)==2*(N:Int) - 3)=true:=by rw [E2];simp;omega
      have h4:a8 (fun i=>vm g nb (E.2 i)) E.1=true:=(bX _ _).2 (fun i hi=>by
        have hm:E.2 i∈al E.1 E.2:=List.mem_map.2 ⟨i,List.mem_range.2 hi,rfl⟩
        rw [E3] at hm
        have hm:E.2 i∈al (aV N nb g).1 (aV N nb g).2:=hm
        rw [gJ N nb g nb (Nat.le_refl _)] at hm
        obtain ⟨j,j1,j2⟩:=gQ ((qD N g nb).mem hm)
        exact (pL _ _).2 ⟨j,j1,by rw [j2];exact vB _⟩)
      rw [hiG,h3,h4];rfl
    · show true=_
      rw [← hmr]
      exact hm.1.symm
theorem vC (w:Nat):∀ i,(∀ s,s<(bD w i).1→0≤(bD w i).2 s∧(bD w i).2 s<i)∧∀ s t,s<t→t<(bD w i).1→(bD w i).2 s<(bD w i).2 t
  | 0=>⟨fun s hs=>absurd hs (Nat.not_lt_zero _),fun s t _ ht=>absurd ht (Nat.not_lt_zero _)⟩
  | i+1=>by
    obtain ⟨h1,h2⟩:=vC w i
    cases hb:gl w i with
    | false =>
      rw [show bD w (i+1)=bD w i by simp only [bD];rw [if_neg (by rw [hb];simp)]]
      exact ⟨fun s hs=>by have:=h1 s hs;omega,h2⟩
    | true =>
      rw [show bD w (i+1)=((bD w i).1+1,fun s=>if s<(bD w i).1 then (bD w i).2 s else i) by simp only [bD];rw [if_pos hb]]
      refine ⟨fun s hs=>?_,fun s t hst ht=>?_⟩
      · have hs:s<(bD w i).1+1:=hs
        show 0≤(if s<(bD w i).1 then (bD w i).2 s else (i:Int))∧(if s<(bD w i).1 then (bD w i).2 s else (i:Int))<_
        by_cases e:s<(bD w i).1
        · rw [if_pos e];have:=h1 s e;omega
        · rw [if_neg e];omega
      · have ht:t<(bD w i).1+1:=ht
        show (if s<(bD w i).1 then (bD w i).2 s else (i:Int))<(if t<(bD w i).1 then (bD w i).2 t else (i:Int))
        rw [if_pos (show s<(bD w i).1 by omega)]
        by_cases e:t<(bD w i).1
        · rw [if_pos e];exact h2 s t hst e
        · rw [if_neg e];exact (h1 s (by omega)).2
theorem wy (g:Nat→aa) (nb N k l:Nat):∀ d w,(mq g nb N k l d w).2=true→∃ i,yF g nb N k l i=true∧mq g nb N k l d w=(bD i N,true)
  | 0,w,h=>by cases h
  | d+1,w,h=>by
    rw [mq] at h ⊢
    by_cases hb:yF g nb N k l w=true
    · rw [if_pos hb];exact ⟨w,hb,rfl⟩
    · rw [if_neg hb] at h ⊢;exact wy g nb N k l d (w+1) h
theorem uW {N nb:Nat} {g:Nat→aa} (hg:ah ((N:Int),(nb,g),())=true) :
    ((gY 3 N nb g).2=true→Ez (gY 3 N nb g).1=true)∧(gY 3 N nb g).2=decide ((((bK (uT N 2 3 g nb) nb).1:Nat):Int)>0):=by
  obtain ⟨hN,hnb,hok⟩:=az hg
  have e1:gY 3 N nb g=BK 3 N (nb,g) (mq g nb N 2 3 (2 ^ N - 1) 1):=by
    unfold gY;rw [if_neg (by decide),if_neg (by decide),if_pos rfl]
  rw [e1]
  have hrj:(bK (uT N 2 3 g nb) nb).1=0↔Mat.Sparse N 2 3 (bL g nb):=by
    have key:∀ n,n≤nb→(bK (uT N 2 3 g nb) n).1+(aK N 2 3 g n).length=n:=by
      intro n
      induction n with
      | zero=>intro _;rfl
      | succ n ih =>
        intro hn
        have ih:=ih (by omega)
        have ha:=nu N g n nb
        cases hr:uT N 2 3 g nb n with
        | true =>
          rw [nv hr]
          unfold uT at hr
          have hm:¬ n∈aK N 2 3 g nb:=by simpa using hr
          have h2:¬ n∈aK N 2 3 g (n+1):=fun h=>hm (ha.2 ⟨by omega,h⟩)
          have:aK N 2 3 g (n+1)=aK N 2 3 g n:=by
            rw [aK] at h2 ⊢
            split
            · rename_i hs;rw [if_pos hs] at h2;exact absurd (by simp) h2
            · rfl
          rw [this]
          show (bK (uT N 2 3 g nb) n).1+1+_=_
          omega
        | false =>
          rw [nm hr]
          unfold uT at hr
          have hm:n∈aK N 2 3 g nb:=by simpa using hr
          have h2:=(ha.1 hm).2
          have:aK N 2 3 g (n+1)=aK N 2 3 g n++[n]:=by
            rw [aK] at h2 ⊢
            split
            · rfl
            · rename_i hs;rw [if_neg hs] at h2;exact absurd ((nu N g n n).1 h2).1 (by omega)
          rw [this,List.length_append]
          simp only [List.length_cons,List.length_nil]
          omega
    have hk:=key nb (Nat.le_refl _)
    constructor
    · intro h0
      have hl:(Mat.greedy N 2 3 [] (bL g nb)).length=(bL g nb).length:=by
        rw [← dn]
        have:(bL g nb).length=nb:=by rw [eQ,List.length_map,aC]
        omega
      exact gX hl
    · intro hs
      have hl:(aK N 2 3 g nb).length=nb:=by
        rw [dn]
        obtain ⟨t,h1,h2⟩:=Mat.greedy_pre N 2 3 (bL g nb) []
        have:=Mat.rank_le (N:=N) (bL g nb) (dv hok) (Mat.greedy_sparse N 2 3 (bL g nb) [] (Mat.sparse_nil N 2 3)) (fun x hx=>by
          rw [h1] at hx;exact h2 x (by simpa using hx)) (Mat.greedy_tight (bL g nb) [] (dv hok) (Mat.sparse_nil N 2 3)) hs (fun x hx=>hx)
        have h3:=ij N 2 3 (bL g nb) []
        have h4:(bL g nb).length=nb:=by rw [eQ,List.length_map,aC]
        simp only [List.length_nil,Nat.zero_add] at h3
        omega
      omega
  have hsp:=iX hok hN.2
  have hdec:(mq g nb N 2 3 (2 ^ N - 1) 1).2=decide ((((bK (uT N 2 3 g nb) nb).1:Nat):Int)>0):=by
    cases ho:(mq g nb N 2 3 (2 ^ N - 1) 1).2 with
    | false=>exact (decide_eq_false (by have:=hrj.2 (hsp.1 ho);omega)).symm
    | true =>
      refine (decide_eq_true ?_).symm
      refine Classical.byContradiction fun hn=>?_
      have:=hsp.2 (hrj.1 (by omega))
      rw [this] at ho;cases ho
  cases ho:(mq g nb N 2 3 (2 ^ N - 1) 1).2 with
  | false =>
    rw [ho] at hdec
    rw [CT ho,← hdec]
    exact ⟨fun h=>(by cases h),rfl⟩
  | true =>
    rw [ho] at hdec
    rw [C6 ho,← hdec]
    refine ⟨fun _=>?_,rfl⟩
    obtain ⟨w,w1,w2⟩:=wy g nb N 2 3 _ _ ho
    rw [w2]
    show BB 3 g nb N _ _ _ _ _ _ _ (bD w N)=true
    unfold BB
    rw [if_neg (by decide),if_neg (by decide),if_neg (by decide),if_pos rfl]
    unfold sD
    have hiG:gi g nb (N:Int)=true:=hg
    obtain ⟨a1,a2⟩:=vC w N
    have hod:eu (N:Int) (bD w N).2 (bD w N).1=true:=qz _ (fun a ha=>a1 a ha) (fun a b hab hb=>by have:=a2 a b hab hb;omega)
    have hfl:bK (kN g (bD w N)) nb=bK (ph g w) nb:=by
      have:∀ n,n≤nb→bK (kN g (bD w N)) n=bK (ph g w) n:=by
        intro n
        induction n with
        | zero=>intro _;rfl
        | succ n ih =>
          intro hn
          have hb:=hok n (by omega)
          have e:kN g (bD w N) n=ph g w n:=by
            unfold kN ph
            rw [nF,nF,decide_eq_true (show 0≤(g n).1∧(g n).1<(N:Int) by omega),decide_eq_true (show 0≤(g n).2.1∧(g n).2.1<(N:Int) by omega),Bool.true_and,Bool.true_and]
          simp only [bK,ih (by omega),e]
      exact this nb (Nat.le_refl _)
    unfold yF at w1
    by_cases h0:(((bK (ph g w) nb).1:Int)>0)
    · rw [decide_eq_true h0,cond_true,decide_eq_true_eq] at w1
      have h2:2≤(bD w N).1:=by
        have hc:=qm hok w nb (Nat.le_refl _)
        have h3:0<Mat.cnt (fun i=>gl (w:Int) i) (bL g nb):=by omega
        have h4:∃ x∈bL g nb,Mat.inn (fun i=>gl (w:Int) i) x=true:=by
          refine Classical.byContradiction fun hn=>?_
          have:∀ L:List (Nat×Nat),(∀ x∈L,Mat.inn (fun i=>gl (w:Int) i) x=false)→Mat.cnt (fun i=>gl (w:Int) i) L=0:=by
            intro L
            induction L with
            | nil=>intro _;rfl
            | cons x l ih=>intro h;simp only [Mat.cnt,ih (fun y hy=>h y (by simp [hy])),h x (by simp)];rfl
          have:=this (bL g nb) (fun x hx=>by
            cases hi:Mat.inn (fun i=>gl (w:Int) i) x with
            | false=>rfl
            | true=>exact absurd ⟨x,hx,hi⟩ hn)
          omega
        obtain ⟨x,x1,x2⟩:=h4
        have hgx:=dv hok x x1
        unfold Mat.inn at x2
        rw [Bool.and_eq_true] at x2
        rw [nG]
        exact Mat.card_two _ x.1 x.2 x2.1 x2.2 hgx.1 N hgx.2.1 hgx.2.2
      rw [hiG,hod,hfl,decide_eq_true (show (((bD w N).1:Nat):Int)≥2 by omega)]
      simp only [Bool.true_and]
      exact decide_eq_true (by omega)
    · rw [decide_eq_false h0] at w1;cases w1
def GK (g:Nat→aa) (nb N:Nat) (pl:Nat→ae) (np:Nat) (v:ad) (i:Nat):St :=
  ⟨[gg g nb N pl np,ew v,.pt 3 0 0 0]++List.replicate 10 ag++[b4 g nb,.p (.int .i64 nb),.p (.int .i64 i)]++List.replicate 12 ag,[(0,EY g nb N pl np)],1⟩
theorem Lt (g:Nat→aa) (nb N:Nat) (pl:Nat→ae) (np:Nat) (v:ad) :
    zT Tryz.f19 [rg 2,rm [(2,oc [] (jB true))] 1,.dec false,rg 5,.head] [gg g nb N pl np,ew v] [0] (GK g nb N pl np v 0) =
    some (Ai,zD [(NT 0 1),zE 51 [(nY N nb g np pl),.p (.seq true 1 v.1 (c9 v))] [] (jB true),((!true)=false),(AI ((N:Int))),(AN nb),(AP nb (aH g)),(AN np),(AP np (aH pl)),(AN v.1),(AP v.1 (c9 v)),(AN 0),(AI ((nb:Int))),((0:Int)=(↑0:Int)),((([AV.p (PV.int IntKind.i64 (N:Int)),b4 g nb,vf pl np].length):Nat)=3),(NL 1 1)] [0,1,2,0,3,4,5,6,7,8,9,10,4,5,11,12,13,14,14,3,4,5,6,7]):=by kernel_rfl
theorem Mi (g:Nat→aa) (nb N:Nat) (pl:Nat→ae) (np:Nat) (v:ad) (i:Nat) :
    zM 0 [rg 1,.dec true,rg 4,rm [(6,oc [] (jI 0))] 1,.dec false,rg 2,.head] Ai (GK g nb N pl np v i) [0] 1 (GK g nb N pl np v (i+1)) =
    some (Ai,zD [((decide ((i:Int)<(nb:Int)))=true),(IL 0 (i:Int)),(IT (i:Int) (nb:Int)),(NT 0 1),((true=true)→(AN 1)),zE 52 [(yY N nb g np pl),.p (.seq true 1 v.1 (c9 v)),jI ((g i).1),jI ((g i).2.1)] [] (jI 0),((0 != 0)=false),(ax ((i:Int)+1)),(au ((i:Int)+1)),(AI ((N:Int))),(AN nb),(AP nb (aH g)),(AN np),(AP np (aH pl)),(AN v.1),(AP v.1 (c9 v)),(AN 0),(AI ((nb:Int))),((((i:Int)+1):Int)=(↑(i+1):Int)),(AN 3),(NL 1 1)] [0,1,2,3,4,3,3,3,5,6,7,8,9,10,11,12,13,14,15,16,10,11,17,18,19,20,20,9,10,11,12,13]):=by kernel_rfl
theorem Lm (g:Nat→aa) (nb N:Nat) (pl:Nat→ae) (np:Nat) (v:ad) (i:Nat) :
    zP Tryz.f19 0 [rg 1,.dec false,rg 1] Ai (GK g nb N pl np v i) [] 1 [] (jB true) =
    some [((decide ((i:Int)<(nb:Int)))=false),(true=true)]:=by kernel_rfl
theorem pU {g:Nat→aa} {nb N:Nat} {pl:Nat→ae} {np:Nat} {v:ad} (ok:VOk g nb N pl np v) (hz:∀ i,i<nb→G6 pl v (gA g i) (gB g i)=0) :
    zE 19 [gg g nb N pl np,ew v] [] (.p (.bool true)):=by
  have hnb:=ok.hnb
  have hnp:=ok.hnp
  have hl:=ok.hl
  have hN:=ok.hN
  have c1:=d8 g nb N pl np v (by omega) (by omega)
  rw [ok.vel] at c1
  obtain ⟨_,_,hok⟩:=az ok.gr
  refine aW Tryz.func19 (fun c hc=>?_)
  have lo:∀ d i,i+d=nb→zR c 19 Ai (GK g nb N pl np v i) (aT c [] (.p (.bool true))):=by
    intro d
    induction d with
    | zero =>
      intro i hi
      have hd:decide ((i:Int)<(nb:Int))=false:=decide_eq_false (by omega)
      refine be Tryz.func19 hc (Lm g nb N pl np v i) ?_
      and_intros
      all_goals (first | exact zN | (exact hd) | (intros;simp [af];done))
    | succ d ih =>
      intro i hi
      have hd:decide ((i:Int)<(nb:Int))=true:=decide_eq_true (by omega)
      have hb:=hok i (by omega)
      have c2:=sA ok (a:=gA g i) (b:=gB g i) (by unfold gA;omega) (by unfold gB;omega)
      rw [hz i (by omega),show ((gA g i:Nat):Int)=(g i).1 by unfold gA;omega,show ((gB g i:Nat):Int)=(g i).2.1 by unfold gB;omega] at c2
      refine a7 hc (Mi g nb N pl np v i) ?_ (ih (i+1) (by omega))
      and_intros
      all_goals (first | exact zI | (exact hd) | (exact c2) | (intros;simp [af];done) | (simp;done))
  refine a7 hc (Lt g nb N pl np v) ?_ (lo nb 0 (by omega))
  and_intros
  all_goals (first | exact zN | (exact c1) | (intros;simp [af];done) | (simp;done))
theorem wh {g:Nat→aa} {nb N:Nat} {pl:Nat→ae} {np:Nat} (hf:fZ g nb N pl np=true):EI g nb N pl≤(aK N 2 3 g nb).length:=by
  obtain ⟨h1,h2,h3,h4,hok,hb⟩:=fy hf
  rw [dn]
  exact hb.rank_le (dv hok) (fun k hk=>(kH _ _ _).2 ⟨k,hk,rfl⟩)
theorem Ba {g:Nat→aa} {nb N:Nat} {pl:Nat→ae} {np:Nat} (hf:fZ g nb N pl np=true):∃ tv:Nat,(tv:Int)=C2 pl np∧Had.Dim N (pX pl) (pY pl) tv:=by
  obtain ⟨h1,h2,h3,h4,hok,hb⟩:=fy hf
  have hN:=(az h1).1
  unfold C2
  by_cases ha:a8 (xy pl) np=true
  · rw [if_pos ha]
    refine ⟨2,rfl,Had.dim_two (by omega) (fun i hi=>?_)⟩
    have:=(bX _ _).1 ha i (by omega)
    unfold xy at this
    simp at this
    exact this
  · rw [if_neg ha]
    refine ⟨3,rfl,?_⟩
    obtain ⟨j,hj,hne⟩:∃ j,j<np∧xy pl j=false:=by
      refine Classical.byContradiction fun hn=>ha ((bX _ _).2 (fun i hi=>?_))
      cases hs:xy pl i with
      | true=>rfl
      | false=>exact absurd ⟨i,hi,hs⟩ hn
    refine Had.dim_three (j:=j) (by omega) ?_
    refine Classical.byContradiction fun hn=>?_
    have h1:(pl j).1=(pl 0).1:=Classical.byContradiction fun h=>hn (.inl h)
    have h2:(pl j).2.1=(pl 0).2.1:=Classical.byContradiction fun h=>hn (.inr h)
    unfold xy at hne
    rw [h1,h2] at hne
    simp at hne
theorem pj {g:Nat→aa} {nb N:Nat} {pl:Nat→ae} {np:Nat} (hf:fZ g nb N pl np=true) {tv:Nat} (ht:(tv:Int)=C2 pl np):(yE g nb N pl np==0)=true↔tv+EI g nb N pl=2*N:=by
  have h1:yE g nb N pl np=2*(N:Int) - C2 pl np - (EI g nb N pl:Int):=by
    unfold yE vT
    rw [if_pos hf,if_pos hf]
    rfl
  rw [h1,← ht,beq_iff_eq]
  omega
theorem rW {g:Nat→aa} {nb N:Nat} {pl:Nat→ae} {np:Nat} (hf:fZ g nb N pl np=true) (hs:(yE g nb N pl np==0)=true):(bw ((N:Int),(nb,g),())==0)=true:=by
  obtain ⟨h1,h2,h3,h4,hok,hb⟩:=fy hf
  obtain ⟨tv,ht,hd⟩:=Ba hf
  have hN:=(az h1).1
  have h5:=(pj hf ht).1 hs
  have h6:=wh hf
  have h7:=kP h1
  have h8:bw ((N:Int),(nb,g),())=cE N - ((aK N 2 3 g nb).length:Int):=by unfold bw;rw [if_pos h1];rfl
  have h9:tv=2∨tv=3:=by
    unfold C2 at ht
    split at ht<;>omega
  rw [h8,beq_iff_eq]
  unfold cE at h7 ⊢
  split at h7<;>rename_i hc
  · rw [if_pos hc];omega
  · rw [if_neg hc];omega
theorem Af {g:Nat→aa} {nb N:Nat} {pl:Nat→ae} {np:Nat} (hf:fZ g nb N pl np=true) {j:Nat} (hj:j<(kV g nb N pl).1):kj g nb N pl np (2*N,(kV g nb N pl).2 j)=true:=by
  obtain ⟨h1,h2,h3,h4,hok,hb⟩:=fy hf
  unfold kj By
  rw [hf,cond_true]
  have:a8 (CP (2*N,(kV g nb N pl).2 j)) (2*N)=true:=(bX _ _).2 (fun k hk=>by
    have:=hb.mo_small hj hk
    unfold CP
    refine jy.2 ?_
    have this:-1073741824≤(kV g nb N pl).2 j k∧(kV g nb N pl).2 j k≤1073741824:=this
    show -10000000000≤(kV g nb N pl).2 j k∧(kV g nb N pl).2 j k≤10000000000
    omega)
  show (bif a8 (CP (2*N,(kV g nb N pl).2 j)) (2*N) then ((2*N:Nat):Int)==2*(N:Int) else false)=true
  rw [this,cond_true]
  simp
theorem zz {g:Nat→aa} {nb N:Nat} {pl:Nat→ae} {np:Nat} {W:Nat→Nat→Int}:∀ d i,((y7 g nb N pl np W d i).2=true→∃ j,j<i+d∧(y7 g nb N pl np W d i).1=(2*N,W j)∧qI g nb N pl np (2*N,W j)=false) ∧
    ((y7 g nb N pl np W d i).2=false→∀ j,i≤j→j<i+d→qI g nb N pl np (2*N,W j)=true)
  | 0,i=>⟨fun h=>(by cases h),fun _ j h1 h2=>by omega⟩
  | d+1,i=>by
    obtain ⟨h1,h2⟩:=zz (g:=g) (nb:=nb) (N:=N) (pl:=pl) (np:=np) (W:=W) d (i+1)
    rw [y7]
    cases hb:qI g nb N pl np (2*N,W i) with
    | true =>
      rw [if_pos rfl]
      refine ⟨fun h=>?_,fun h j a b=>?_⟩
      · obtain ⟨j,j1,j2,j3⟩:=h1 h
        exact ⟨j,by omega,j2,j3⟩
      · by_cases e:j=i
        · rw [e];exact hb
        · exact h2 h j (by omega) (by omega)
    | false =>
      rw [if_neg Bool.false_ne_true]
      exact ⟨fun _=>⟨i,by omega,rfl,hb⟩,fun h=>(by cases h)⟩
theorem yM {g:Nat→aa} {nb N:Nat} {pl:Nat→ae} {np:Nat} (hf:fZ g nb N pl np=true) :
    (pA g nb N pl np).2=!(yE g nb N pl np==0)∧((pA g nb N pl np).2=true→kj g nb N pl np (pA g nb N pl np).1=true∧qI g nb N pl np (pA g nb N pl np).1=false∧∀ i,i<nb→G6 pl (pA g nb N pl np).1 (gA g i) (gB g i)=0):=by
  obtain ⟨h1,h2,h3,h4,hok,hb⟩:=fy hf
  obtain ⟨tv,ht,hd⟩:=Ba hf
  have hN:=(az h1).1
  obtain ⟨f1,f2⟩:=zz (g:=g) (nb:=nb) (N:=N) (pl:=pl) (np:=np) (W:=(kV g nb N pl).2) (kV g nb N pl).1 0
  have hst:=pj hf ht
  refine ⟨?_,fun h=>?_⟩
  · cases hl:(pA g nb N pl np).2 with
    | false =>
      have hall:=f2 hl
      have:=hb.all_triv hd (fun j hj=>by
        have h5:=hall j (Nat.zero_le _) (by rw [Nat.zero_add];exact hj)
        exact Classical.byContradiction fun hn=>by
          rw [Da (show ¬ Gu N pl (2*N,(kV g nb N pl).2 j) from hn)] at h5
          cases h5)
      rw [hst.2 this];rfl
    | true =>
      obtain ⟨j,j1,j2,j3⟩:=f1 hl
      rw [Nat.zero_add] at j1
      cases hs:(yE g nb N pl np==0) with
      | false=>rfl
      | true =>
        have h5:=hb.triv_all hN.1 hd (hst.1 hs) j1
        rw [C8 (Af hf j1) h5] at j3
        cases j3
  · obtain ⟨j,j1,j2,j3⟩:=f1 h
    rw [Nat.zero_add] at j1
    have j2:(pA g nb N pl np).1=(2*N,(kV g nb N pl).2 j):=j2
    rw [j2]
    refine ⟨Af hf j1,j3,fun i hi=>?_⟩
    exact hb.ker j1 hi
theorem wA {C:Nat→ad} (i:Nat):∀ d,(cO C i).1≤(cO C (i+d)).1∧∀ t,t<(cO C i).1→(cO C (i+d)).2 t=(cO C i).2 t
  | 0=>⟨Nat.le_refl _,fun t _=>rfl⟩
  | d+1=>by
    obtain ⟨h1,h2⟩:=wA (C:=C) i d
    refine ⟨?_,fun t ht=>?_⟩
    · show _≤(cO C (i+d)).1+(C (i+d)).1+1;omega
    · show mz (cO C (i+d)).1 (cO C (i+d)).2 (C (i+d)).1 (C (i+d)).2 t=_
      unfold mz
      rw [if_pos (by omega),h2 t ht]
theorem wC {C:Nat→ad} {n:Nat} (hC:∀ i,i<n→∀ s,s<(C i).1→(C i).2 s≠-1) {l:Nat→Int} (hl:∀ t,t<(cO C n).1→l t=(cO C n).2 t) :
    ∀ i,i≤n→eU l (cO C i).1=i∧lw l (cO C i).1=mL∧∀ j,j<i→(gp l (cO C i).1 j).1=(C j).1∧∀ s,s<(C j).1→(gp l (cO C i).1 j).2 s=(C j).2 s
  | 0,_=>⟨rfl,rfl,fun j hj=>absurd hj (Nat.not_lt_zero _)⟩
  | i+1,hi=>by
    obtain ⟨h1,h2,h3⟩:=wC hC hl i (by omega)
    have hpre:=wA (C:=C) (i+1) (n - (i+1))
    rw [show i+1+(n - (i+1))=n by omega] at hpre
    have hlen:(cO C (i+1)).1=(cO C i).1+(C i).1+1:=rfl
    have at1:∀ s,s<(C i).1→l ((cO C i).1+s)=(C i).2 s:=fun s hs=>by
      rw [hl _ (by omega),hpre.2 _ (by omega)]
      show mz _ _ _ _ _=_
      unfold mz
      rw [if_neg (by omega),if_pos (by omega),show (cO C i).1+s - (cO C i).1=s by omega]
    have at2:l ((cO C i).1+(C i).1) = -1:=by
      rw [hl _ (by omega),hpre.2 _ (by omega)]
      show mz _ _ _ _ _=_
      unfold mz
      rw [if_neg (by omega),if_neg (by omega)]
    have key:∀ t,t≤(C i).1→eU l ((cO C i).1+t)=i∧gp l ((cO C i).1+t)=gp l (cO C i).1∧(lw l ((cO C i).1+t)).1=t∧∀ s,s<t→(lw l ((cO C i).1+t)).2 s=(C i).2 s:=by
      intro t
      induction t with
      | zero=>intro _;exact ⟨h1,rfl,by rw [Nat.add_zero,h2];rfl,fun s hs=>absurd hs (Nat.not_lt_zero _)⟩
      | succ t ih =>
        intro ht
        obtain ⟨k1,k2,k3,k4⟩:=ih (by omega)
        have hne:l ((cO C i).1+t)≠-1:=by rw [at1 t (by omega)];exact hC i (by omega) t (by omega)
        obtain ⟨a1,a2,a3⟩:=wq hne
        rw [show (cO C i).1+(t+1)=(cO C i).1+t+1 by omega]
        refine ⟨by rw [a1,k1],by rw [a3,k2],by rw [a2];show _+1=_;rw [k3],fun s hs=>?_⟩
        rw [a2]
        show (if s<(lw l ((cO C i).1+t)).1 then (lw l ((cO C i).1+t)).2 s else l ((cO C i).1+t))=_
        rw [k3]
        by_cases e:s<t
        · rw [if_pos e];exact k4 s e
        · rw [if_neg e,at1 t (by omega),show s=t by omega]
    obtain ⟨k1,k2,k3,k4⟩:=key (C i).1 (Nat.le_refl _)
    obtain ⟨a1,a2,a3⟩:=rD at2
    rw [hlen]
    refine ⟨by rw [a1,k1],a2,fun j hj=>?_⟩
    rw [a3,k1,k2]
    by_cases e:j<i
    · rw [jr e];exact h3 j e
    · rw [jt e,show j=i by omega]
      exact ⟨k3,fun s hs=>k4 s hs⟩
theorem wj {C D:Nat→ad}:∀ n,(∀ i,i<n→(C i).1=(D i).1)→dh C n=dh D n
  | 0,_=>rfl
  | n+1,h=>by rw [dh,dh,wj n (fun i hi=>h i (by omega)),h n (by omega)]
theorem vI (C:Nat→ad):∀ n,dh C n=Fs C n
  | 0=>rfl
  | n+1=>by rw [dh,Fs,vI C n]
theorem Ah {N:Int} {f h:Nat→Int}:∀ n,(∀ s,s<n→f s=h s)→eu N f n=eu N h n
  | 0,_=>rfl
  | n+1,e=>by
    simp only [eu]
    rw [Ah n (fun s hs=>e s (by omega))]
    unfold t6
    rw [e n (by omega),e7 n (fun s hs=>e s (by omega))]
theorem kA (N nb:Nat) (g:Nat→aa) (e:Nat):∀ P,(∀ s,s<(aB N nb g e P).1→0≤(aB N nb g e P).2 s∧(aB N nb g e P).2 s<P)∧∀ s t,s<t→t<(aB N nb g e P).1→(aB N nb g e P).2 s<(aB N nb g e P).2 t
  | 0=>⟨fun s hs=>absurd hs (Nat.not_lt_zero _),fun s t _ ht=>absurd ht (Nat.not_lt_zero _)⟩
  | P+1=>by
    obtain ⟨h1,h2⟩:=kA N nb g e P
    cases h:c8 N nb g e P with
    | false =>
      rw [jM h]
      exact ⟨fun s hs=>by have:=h1 s hs;omega,h2⟩
    | true =>
      rw [ji h]
      refine ⟨fun s hs=>?_,fun s t hst ht=>?_⟩
      · have hs:s<(aB N nb g e P).1+1:=hs
        show 0≤dH _ _ _ s∧dH _ _ _ s<_
        by_cases h':s<(aB N nb g e P).1
        · rw [jL h'];have:=h1 s h';omega
        · rw [show s=(aB N nb g e P).1 by omega,lW];omega
      · have ht:t<(aB N nb g e P).1+1:=ht
        show dH _ _ _ s<dH _ _ _ t
        rw [jL (show s<(aB N nb g e P).1 by omega)]
        by_cases h':t<(aB N nb g e P).1
        · rw [jL h'];exact h2 s t hst h'
        · rw [show t=(aB N nb g e P).1 by omega,lW];exact (h1 s (by omega)).2
theorem sr (C:Nat→ad) (x:Nat×Nat):∀ n,0<Mat.homes x (qp C n)→∃ j,j<n∧Mat.inn (db (C j)) x=true
  | 0,h=>absurd h (Nat.lt_irrefl _)
  | n+1,h=>by
    simp only [qp,Mat.homes] at h
    cases hi:Mat.inn (db (C n)) x with
    | true=>exact ⟨n,by omega,hi⟩
    | false =>
      rw [hi] at h
      obtain ⟨j,j1,j2⟩:=sr C x n (by simpa using h)
      exact ⟨j,by omega,j2⟩
theorem sX {N nb:Nat} {g:Nat→aa} (hg:ah ((N:Int),(nb,g),())=true) :
    ((gY 2 N nb g).2=true→Ez (gY 2 N nb g).1=true)∧(gY 2 N nb g).2=!(bw ((N:Int),(nb,g),())==0):=by
  obtain ⟨hN,hnb,hok⟩:=az hg
  have e1:gY 2 N nb g=if bw ((N:Int),(nb,g),())=0 then (iI,false) else (yw 2 N (nb,g) Dw (cO (bU ((N:Int),(nb,g),())).2 (bU ((N:Int),(nb,g),())).1),true):=by
    unfold gY;rw [if_neg (by decide),if_pos rfl]
  rw [e1]
  by_cases hf:bw ((N:Int),(nb,g),())=0
  · rw [if_pos hf]
    exact ⟨fun h=>(by cases h),by rw [hf];rfl⟩
  · rw [if_neg hf]
    refine ⟨fun _=>?_,by show true=_;rw [beq_eq_false_iff_ne.2 hf];rfl⟩
    have hG:bU ((N:Int),(nb,g),())=an N nb g nb:=by unfold bU;rw [if_pos hg];rfl
    have hrank:=vj hok
    have hhom:=kZ hok
    obtain ⟨hsp,_,_⟩:=dV N nb g nb
    rw [hG]
    generalize an N nb g nb=Q at *
    obtain ⟨n,C⟩:=Q
    simp only at hrank hhom hsp
    have hCi:∀ i,i<n→∀ s,s<(C i).1→(C i).2 s≠-1:=fun i hi s hs=>by
      obtain ⟨e,_,he⟩:=hsp i hi
      rw [he] at hs ⊢
      have:=((kA N nb g e N).1 s hs).1
      omega
    obtain ⟨r1,r2,r3⟩:=wC hCi (l:=(cO C n).2) (fun t _=>rfl) n (Nat.le_refl _)
    show BB 2 g nb N _ _ _ _ _ _ _ (cO C n)=true
    unfold BB
    rw [if_neg (by decide),if_neg (by decide),if_pos rfl]
    unfold Al xh
    have hiG:gi g nb (N:Int)=true:=hg
    rw [hiG,r1]
    generalize gp (cO C n).2 (cO C n).1=D at *
    have q1:a8 (fun i=>wN (N:Int) (D i)) n=true:=(bX _ _).2 (fun i hi=>by
      obtain ⟨d1,d2⟩:=r3 i hi
      obtain ⟨e,he,hce⟩:=hsp i hi
      obtain ⟨a1,a2⟩:=kA N nb g e N
      obtain ⟨_,o1,o2,_⟩:=gR hok he
      have hb:=hok e he
      have hcard:=jc N nb g e N
      have h2:2≤Mat.cardR (c8 N nb g e) N:=Mat.card_two _ _ _ o1 o2 (by omega) N (by omega) (by omega)
      rw [← hcard,← hce] at h2
      rw [← hce] at a1 a2
      unfold wN
      rw [d1,decide_eq_false (show ¬ (((C i).1:Nat):Int)<2 by omega),cond_false,Ah _ d2]
      exact qz _ (fun a ha=>a1 a ha) (fun a b hab hb=>by have:=a2 a b hab hb;omega))
    have q2:lh g nb n D=true:=(bX _ _).2 (fun e he=>by
      have hx:bA (g e)∈bL g nb:=(kH _ _ _).2 ⟨e,he,rfl⟩
      obtain ⟨j,j1,j2⟩:=sr C (bA (g e)) n (by rw [hhom _ hx];omega)
      obtain ⟨d1,d2⟩:=r3 j j1
      have hb:=hok e he
      unfold Mat.inn db at j2
      rw [Bool.and_eq_true] at j2
      refine (pL _ _).2 ⟨j,j1,?_⟩
      show (a0 (D j).2 (g e).1 (D j).1&&a0 (D j).2 (g e).2.1 (D j).1)=true
      rw [d1,e7 _ d2,e7 _ d2]
      have e1:(((bA (g e)).1:Nat):Int)=(g e).1:=by show (((g e).1.toNat:Nat):Int)=_;omega
      have e2:(((bA (g e)).2:Nat):Int)=(g e).2.1:=by show (((g e).2.1.toNat:Nat):Int)=_;omega
      rw [e1,e2] at j2
      rw [j2.1,j2.2];rfl)
    have q3:decide (dh D n<max 0 (2*(N:Int) - 3))=true:=decide_eq_true (by
      rw [wj (D:=C) n (fun i hi=>(r3 i hi).1),vI,hrank]
      have h1:=kP hg
      have h2:bw ((N:Int),(nb,g),())=cE N - ((aK N 2 3 g nb).length:Int):=by unfold bw;rw [if_pos hg];rfl
      rw [h2] at hf
      unfold cE at h1 hf
      split at h1<;>rename_i hc
      · rw [if_pos hc] at hf;omega
      · rw [if_neg hc] at hf;omega)
    show (true&&(a8 (fun i=>wN (N:Int) (D i)) n&&(lh g nb n D&&decide (dh D n<max 0 (2*(N:Int) - 3)))))=true
    rw [q1,q2,q3]
    rfl
theorem z6 (N:Nat):∀ m (D:NB) (S:aU),(nI N m D S).1.1≤S.1+m+1
  | 0,D,S=>by rw [nI];exact Nat.le_refl _
  | m+1,D,S=>by
    rw [nI]
    split
    · split
      · exact Nat.zero_le _
      · rename_i u _
        have:=z6 N m u.1 (S.1+1,om S.2 u.2)
        have e:((S.1+1,om S.2 u.2):aU).1=S.1+1:=rfl
        omega
    · show S.1+1≤_
      omega
theorem AT (N nb:Nat) (g:Nat→aa):(pC N nb g).1.1≤nb+1:=by
  unfold pC
  cases (bif !oV ((N:Int),(nb,g),()) then true else (nb:Int)==0) with
  | true=>exact Nat.zero_le _
  | false =>
    have:=z6 N nb (nb,g) (0,fun _=>pM)
    simp only [cond_false]
    have e:((0,fun _=>pM):aU).1=0:=rfl
    omega
theorem y6 (g:Nat→aa) (nb N k l:Nat):∀ d w,(mq g nb N k l d w).1.1≤N
  | 0,w=>Nat.zero_le _
  | d+1,w=>by
    rw [mq]
    split
    · exact sE w N
    · exact y6 g nb N k l d (w+1)
theorem qA (K N:Int) {G:cA} {S:aU} {I:ad} (hG:G.1≤1048576) (hS:S.1≤1048576) (hI:I.1≤1048576):cQ dJ (yw K N G S I):=by
  simp only [yw,cQ,j0,dJ,JZ,Ju,Du]
  refine ⟨trivial,⟨trivial,⟨hG,fun i hi=>?_⟩,trivial⟩,⟨⟨⟨trivial,⟨Nat.zero_le _,fun i hi=>?_⟩,trivial⟩,⟨Nat.zero_le _,fun i hi=>?_⟩,trivial⟩,⟨Nat.zero_le _,fun i hi=>?_⟩,trivial⟩,⟨hS,fun i hi=>?_⟩,⟨hI,fun i hi=>?_⟩,trivial⟩<;>simp [cQ,j0]
theorem uE (K:Int) {v:ai} (hs:cQ a9 v):cQ dJ (xD K v).1:=by
  have z:cQ dJ iI:=qA 0 0 (Nat.zero_le _) (Nat.zero_le _) (Nat.zero_le _)
  unfold xD
  cases hg:ah v with
  | false=>exact z
  | true =>
    obtain ⟨N,nb,g,rfl⟩:=bM v hg
    obtain ⟨hN,hnb,hok⟩:=az hg
    have hnb':nb≤1048576:=by omega
    show cQ dJ (gY K N nb g).1
    have hS:∀ (R:aU×Bool),R.1.1≤1048576→cQ dJ (BC K N (nb,g) R).1:=fun R h=>by
      unfold BC;split
      · exact qA K N hnb' h (Nat.zero_le _)
      · exact z
    have hI:∀ (R:ad×Bool),R.1.1≤1048576→cQ dJ (BK K N (nb,g) R).1:=fun R h=>by
      unfold BK;split
      · exact qA K N hnb' (Nat.zero_le _) h
      · exact z
    unfold gY
    split
    · refine hS _ ?_
      have h1:=AT N (kC (ki N nb g) g 0 nb zB).1 (kC (ki N nb g) g 0 nb zB).2
      have h2:=sT (ki N nb g) g nb 0 zB
      have:zB.1=0:=rfl
      omega
    · split
      · split
        · exact z
        · refine qA K N hnb' (Nat.zero_le _) ?_
          obtain ⟨p1,p2⟩:=oy ((N:Int),(nb,g),())
          have:=tS (Nat.le_refl 8) _ p2
          omega
      · split
        · refine hI _ ?_
          have:=y6 g nb N 2 3 (2 ^ N - 1) 1
          omega
        · split
          · refine hS _ ?_
            have:=AT N nb g
            omega
          · exact z
end Go.Proofs.YtbdgmpfdlgnkkaaGreat.Mach
