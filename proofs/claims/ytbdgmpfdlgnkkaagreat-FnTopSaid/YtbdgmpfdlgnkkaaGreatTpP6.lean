/- What the law Tp needs, part 6 of 7: the abstract machine and the contracts of the functions. Conditions: as each theorem says. -/
import Derived.Test.YtbdgmpfdlgnkkaaGreatTpP5
set_option linter.unusedVariables false
set_option linter.unusedSimpArgs false
namespace Go.Proofs.YtbdgmpfdlgnkkaaGreat.Mach
open Go
def CP (v:ad) (i:Nat):Bool:=bC (v.2 i) (-10000000000) 10000000000
def Bw (v:ad) (n:Int):Bool:=bif a8 (CP v) v.1 then (v.1:Int)==n else false
def kw (g:Nat→aa) (nb:Nat) (N:Int) (pl:Nat→ae) (np:Nat) (v:ad):Bool:=bif gf g nb N pl np then Bw v (2*N) else false
theorem qt (v:ad) (n:Int) (hv:v.1≤1048576):zE 86 [eI v,.p (.int .i64 n)] [] (.p (.bool (Bw v n))):=by
  refine aW Tryz.func86 (fun c hc=>?_)
  have lo:∀ d i,i+d=v.1→a8 (CP v) i=true→zR c 86 xu (Fg v n i) (aS c [] (.p (.bool (Bw v n)))):=by
    intro d
    induction d with
    | zero =>
      intro i hi ha
      obtain rfl:i=v.1:=by omega
      have hd:decide ((v.1:Int)<(v.1:Int))=false:=decide_eq_false (by omega)
      unfold Bw
      rw [ha]
      refine be Tryz.func86 hc (J8 v n v.1) ?_
      and_intros
      all_goals (first | exact zN | (exact hd))
    | succ d ih =>
      intro i hi ha
      have hd:decide ((i:Int)<(v.1:Int))=true:=decide_eq_true (by omega)
      have cw:=bp (v.2 i) (-10000000000) 10000000000
      change zE 58 _ [] (.p (.bool (CP v i))) at cw
      cases hs:CP v i with
      | true =>
        rw [hs] at cw
        refine cW hc (MJ v n i) ?_ (ih (i+1) (by omega) (by rw [a8,ha,hs];rfl))
        and_intros
        all_goals (first | exact zN | (exact hd) | (exact cw) | (intro t ht;simp [af];done))
      | false =>
        rw [hs] at cw
        unfold Bw
        rw [ib (i:=i) (by omega) hs]
        refine be Tryz.func86 hc (J5 v n i) ?_
        and_intros
        all_goals (first | exact zN | (exact hd) | (exact cw))
  refine a9 hc (Km v n) ?_ (lo v.1 0 (by omega) rfl)
  and_intros
  all_goals (first | exact zN | (intro t ht;simp [af];done))
theorem d8 (g:Nat→aa) (nb:Nat) (N:Int) (pl:Nat→ae) (np:Nat) (v:ad) (hn:nb≤1048576∧np≤1048576) (hv:v.1≤1048576) :
    zE 51 [fU g nb N pl np,eI v] [] (.p (.bool (kw g nb N pl np v))):=by
  have cf:=bn g nb N pl np hn
  have cs:=qt v (2*N) hv
  have hN:gf g nb N pl np=true→-9223372036854775808≤2*N∧2*N≤9223372036854775807:=fun h=>by
    obtain ⟨n,rfl⟩:=xO h
    have:=(e9 h).2.1
    omega
  refine aW Tryz.func51 (fun c hc=>?_)
  refine bz Tryz.func51 hc (Lg g nb N pl np v (gf g nb N pl np) (Bw v (2*N))) ?_
  and_intros
  all_goals (first | exact zI | (exact cf) | (intro _;exact cs) | (intro h;exact h) | (intro h;exact (hN h).1) | (intro h;exact (hN h).2) | rfl)
structure VOk (g:Nat→aa) (nb N:Nat) (pl:Nat→ae) (np:Nat) (v:ad):Prop where
  hf:gf g nb N pl np=true
  hl:v.1=2*N
  hN:1≤N∧N≤6
  hnp:np=N
  hnb:nb≤15
  sm:∀ j,j<2*N→-10000000000≤v.2 j∧v.2 j≤10000000000
  px:∀ i,i<N→(0≤(pl i).1∧(pl i).1≤4)∧(0≤(pl i).2.1∧(pl i).2.1≤4)
  vel:kw g nb N pl np v=true
  gr:ah ((N:Int),(nb,g),())=true
theorem JR {g:Nat→aa} {nb N:Nat} {pl:Nat→ae} {np:Nat} {v:ad} (h:kw g nb N pl np v=true):VOk g nb N pl np v:=by
  have hv:=h
  unfold kw at h
  cases hf:gf g nb N pl np with
  | false=>rw [hf] at h;cases h
  | true =>
    rw [hf] at h
    obtain ⟨h1,h2,h3,h4,h5,_⟩:=nm hf
    obtain ⟨hN,_,_⟩:=aB h1
    have h:Bw v (2*(N:Int))=true:=h
    unfold Bw at h
    cases ha:a8 (CP v) v.1 with
    | false=>rw [ha] at h;cases h
    | true =>
      rw [ha] at h
      have hl:v.1=2*N:=by simp at h;omega
      exact ⟨hf,hl,by omega,by omega,h3,fun j hj=>jV.1 ((bY _ _).1 ha j (by omega)),fun i hi=>h5 i (by omega),hv,h1⟩
def G2 (pl:Nat→ae) (v:ad) (a b:Nat):Int:=((pl a).1 - (pl b).1)*(v.2 (2*a) - v.2 (2*b))+((pl a).2.1 - (pl b).2.1)*(v.2 (2*a+1) - v.2 (2*b+1))
theorem se {g:Nat→aa} {nb N:Nat} {pl:Nat→ae} {np:Nat} {v:ad} (ok:VOk g nb N pl np v) {a b:Nat} (ha:a<N) (hb:b<N) :
    zE 52 [fU g nb N pl np,eI v,.p (.int .i64 a),.p (.int .i64 b)] [] (.p (.int .i64 (G2 pl v a b))):=by
  obtain ⟨hf,hl,hN,hnp,hnb,sm,px,hv,hg⟩:=ok
  have c1:=d8 g nb N pl np v (by omega) (by omega)
  rw [hv] at c1
  have h1:=lJ (nb:=nb) (g:=g) (N:=N) (by omega) (p:=(a:Int)) (by omega)
  have h2:=lJ (nb:=nb) (g:=g) (N:=N) (by omega) (p:=(b:Int)) (by omega)
  have p1:=px a ha
  have p2:=px b hb
  have s1:=sm (2*a) (by omega)
  have s2:=sm (2*a+1) (by omega)
  have s3:=sm (2*b) (by omega)
  have s4:=sm (2*b+1) (by omega)
  have m1:=Trv.bdm (a:=(pl a).1 - (pl b).1) (b:=v.2 (2*a) - v.2 (2*b)) (A:=4) (B:=20000000000) (by omega) (by omega)
  have m2:=Trv.bdm (a:=(pl a).2.1 - (pl b).2.1) (b:=v.2 (2*a+1) - v.2 (2*b+1)) (A:=4) (B:=20000000000) (by omega) (by omega)
  have d1:decide ((a:Int)<0)=false:=decide_eq_false (by omega)
  have d2:decide ((b:Int)<0)=false:=decide_eq_false (by omega)
  have d3:decide ((a:Int)≥(N:Int))=false:=decide_eq_false (by omega)
  have d4:decide ((b:Int)≥(N:Int))=false:=decide_eq_false (by omega)
  refine aW Tryz.func52 (fun c hc=>?_)
  refine bz Tryz.func52 hc (ML g nb N pl np v a b) ?_
  and_intros
  all_goals (first | exact zH | (exact c1) | (intro _;exact h1) | (intro _;exact h2) | (intro h;exact h) | (intros;rfl))
def xP (pl:Nat→ae) (i:Nat):Int:=(pl i).1 - (pl 0).1
def yP (pl:Nat→ae) (i:Nat):Int:=(pl i).2.1 - (pl 0).2.1
def GS (v:ad) (i:Nat):Int:=v.2 (2*i) - v.2 0
def wP (v:ad) (i:Nat):Int:=v.2 (2*i+1) - v.2 1
def Gv (N:Nat) (pl:Nat→ae) (v:ad):Prop:=Trv.All2 N (xP pl) (yP pl) (GS v) (wP v)
open Classical in
noncomputable def qF (g:Nat→aa) (nb:Nat) (N:Int) (pl:Nat→ae) (np:Nat) (v:ad):Bool:=kw g nb N pl np v&&decide (Gv N.toNat pl v)
theorem Dj {g:Nat→aa} {nb N:Nat} {pl:Nat→ae} {np:Nat} {v:ad} (h1:kw g nb N pl np v=true) (h2:Gv N pl v):qF g nb N pl np v=true:=by
  unfold qF;rw [h1];simp;exact h2
theorem CW {g:Nat→aa} {nb N:Nat} {pl:Nat→ae} {np:Nat} {v:ad} (h2:¬ Gv N pl v):qF g nb N pl np v=false:=by
  unfold qF;simp;intro _;exact h2
theorem Gd {g:Nat→aa} {nb:Nat} {N:Int} {pl:Nat→ae} {np:Nat} {v:ad} (h1:kw g nb N pl np v=false):qF g nb N pl np v=false:=by
  unfold qF;rw [h1];rfl
theorem iQ (g:Nat→aa) (nb:Nat) (N:Int) (pl:Nat→ae) (np:Nat) (v:ad) (hn:nb≤1048576∧np≤1048576) (hv:v.1≤1048576) :
    zE 20 [fU g nb N pl np,eI v] [] (.p (.bool (qF g nb N pl np v))):=by
  have cv:=d8 g nb N pl np v hn hv
  cases hb:kw g nb N pl np v with
  | false =>
    rw [hb] at cv
    rw [Gd hb]
    refine aW Tryz.func20 (fun c hc=>?_)
    refine be Tryz.func20 hc (NY g nb N pl np v) ?_
    and_intros
    all_goals (first | exact zN | (exact cv) | rfl)
  | true =>
    rw [hb] at cv
    obtain ⟨n,rfl⟩:∃ n:Nat,N=n:=by
      unfold kw at hb
      cases hf:gf g nb N pl np with
      | false=>rw [hf] at hb;cases hb
      | true=>exact xO hf
    have ok:=JR hb
    obtain ⟨hf,hl,hN,hnp,hnb,sm,px,hv',hg⟩:=ok
    have p0:=px 0 (by omega)
    have s0:=sm 0 (by omega)
    have s1:=sm 1 (by omega)
    refine aW Tryz.func20 (fun c hc=>?_)
    have l1:∀ (num den:Int),-200000000000≤num→num≤200000000000→1≤den→den≤32→(Trv.One n (xP pl) (yP pl) (GS v) (wP v) num den↔Gv n pl v) →
        ∀ d i,i+d=np→(∀ j,j<i→GS v j*den = -num*yP pl j∧wP v j*den=num*xP pl j) →
        zR c 20 vc (Ev g nb n pl np v num den i) (aS c [] (.p (.bool (qF g nb n pl np v)))):=by
      intro num den hn1 hn2 hd1 hd2 hiff d
      induction d with
      | zero =>
        intro i hi hall
        obtain rfl:i=np:=by omega
        have hd:decide ((i:Int)<(i:Int))=false:=decide_eq_false (by omega)
        rw [Dj hb (hiff.1 (fun j hj=>hall j (by omega)))]
        refine be Tryz.func20 hc (Kp g nb n pl i v num den i) ?_
        and_intros
        all_goals (first | exact zN | (exact hd))
      | succ d ih =>
        intro i hi hall
        have hd:decide ((i:Int)<(np:Int))=true:=decide_eq_true (by omega)
        have pi:=px i (by omega)
        have si:=sm (2*i) (by omega)
        have ti:=sm (2*i+1) (by omega)
        have m1:=Trv.bdm (a:=v.2 (2*i) - v.2 0) (b:=den) (A:=20000000000) (B:=32) (by omega) (by omega)
        have m2:=Trv.bdm (a:=0 - num) (b:=(pl i).2.1 - (pl 0).2.1) (A:=200000000000) (B:=4) (by omega) (by omega)
        have m3:=Trv.bdm (a:=v.2 (2*i+1) - v.2 1) (b:=den) (A:=20000000000) (B:=32) (by omega) (by omega)
        have m4:=Trv.bdm (a:=num) (b:=(pl i).1 - (pl 0).1) (A:=200000000000) (B:=4) (by omega) (by omega)
        have e0:(0 - num)*((pl i).2.1 - (pl 0).2.1) = -num*((pl i).2.1 - (pl 0).2.1):=by rw [Int.zero_sub]
        by_cases hq:(v.2 (2*i) - v.2 0)*den=(0 - num)*((pl i).2.1 - (pl 0).2.1)∧(v.2 (2*i+1) - v.2 1)*den=num*((pl i).1 - (pl 0).1)
        · have b1:((v.2 (2*i) - v.2 0)*den != (0 - num)*((pl i).2.1 - (pl 0).2.1))=false:=by rw [hq.1];simp
          have b2:((v.2 (2*i+1) - v.2 1)*den != num*((pl i).1 - (pl 0).1))=false:=by rw [hq.2];simp
          have hb':(bif (v.2 (2*i) - v.2 0)*den != (0 - num)*((pl i).2.1 - (pl 0).2.1) then true else (v.2 (2*i+1) - v.2 1)*den != num*((pl i).1 - (pl 0).1))=false:=by rw [b1,b2];rfl
          refine a9 hc (MU g nb n pl np v num den i) ?_ (ih (i+1) (by omega) (fun j hj=>by
            by_cases hji:j=i
            · subst hji;exact ⟨hq.1.trans e0,hq.2⟩
            · exact hall j (by omega)))
          and_intros
          all_goals (first | exact zH | (exact hd) | (exact hb') | (intro h;exact h) | (intro h;omega) | (intro h;rw [h];rfl) | (intro t ht;simp [af];done))
        · have hb':(bif (v.2 (2*i) - v.2 0)*den != (0 - num)*((pl i).2.1 - (pl 0).2.1) then true else (v.2 (2*i+1) - v.2 1)*den != num*((pl i).1 - (pl 0).1))=true:=by
            by_cases h1:(v.2 (2*i) - v.2 0)*den=(0 - num)*((pl i).2.1 - (pl 0).2.1)
            · have h2:(v.2 (2*i+1) - v.2 1)*den≠num*((pl i).1 - (pl 0).1):=fun h2=>hq ⟨h1,h2⟩
              rw [show ((v.2 (2*i) - v.2 0)*den != (0 - num)*((pl i).2.1 - (pl 0).2.1))=false by rw [h1];simp]
              simpa using h2
            · rw [show ((v.2 (2*i) - v.2 0)*den != (0 - num)*((pl i).2.1 - (pl 0).2.1))=true by simpa using h1];rfl
          rw [CW (fun h=>hq (by
            have:=hiff.2 h i (by omega)
            exact ⟨by rw [e0];exact this.1,this.2⟩))]
          refine bz Tryz.func20 hc (On g nb n pl np v num den i) ?_
          and_intros
          all_goals (first | exact zH | (exact hd) | (exact hb') | (intro h;exact h) | (intro h;omega) | (intro h;rw [h];rfl))
    have z0:xP pl 0=0∧yP pl 0=0∧GS v 0=0∧wP v 0=0:=⟨Int.sub_self _,Int.sub_self _,Int.sub_self _,Int.sub_self _⟩
    have l0:∀ d i,i+d=np→(∀ j,j<i→xP pl j=0∧yP pl j=0)→zR c 20 xi (E9 g nb n pl np v i) (aS c [] (.p (.bool (qF g nb n pl np v)))):=by
      intro d
      induction d with
      | zero =>
        intro i hi hall
        obtain rfl:i=np:=by omega
        have hd:decide ((i:Int)<(i:Int))=false:=decide_eq_false (by omega)
        have hr:=l1 0 1 (by omega) (by omega) (by omega) (by omega) ⟨fun h=>Trv.one_all (by omega) h,fun h=>Trv.all_one0 h z0 (fun j hj=>hall j (by omega))⟩ i 0 (by omega) (fun j hj=>absurd hj (Nat.not_lt_zero _))
        refine cW hc (L1 g nb n pl i v i) ?_ hr
        and_intros
        all_goals (first | exact zN | (exact hd) | (intro t ht;simp [af];done))
      | succ d ih =>
        intro i hi hall
        have hd:decide ((i:Int)<(np:Int))=true:=decide_eq_true (by omega)
        have pi:=px i (by omega)
        have si:=sm (2*i) (by omega)
        have ti:=sm (2*i+1) (by omega)
        by_cases hz:(pl i).1 - (pl 0).1=0∧(pl i).2.1 - (pl 0).2.1=0
        · have hb':(bif (pl i).1 - (pl 0).1 != 0 then true else (pl i).2.1 - (pl 0).2.1 != 0)=false:=by rw [hz.1,hz.2];rfl
          refine cW hc (K0 g nb n pl np v i) ?_ (ih (i+1) (by omega) (fun j hj=>by
            by_cases hji:j=i
            · subst hji;exact hz
            · exact hall j (by omega)))
          and_intros
          all_goals (first | exact zH | (exact hd) | (exact hb') | (intro h;exact h) | (intro h;rw [h];rfl) | (intro t ht;simp [af];done))
        · have hz':xP pl i≠0∨yP pl i≠0:=by
            show (pl i).1 - (pl 0).1≠0∨(pl i).2.1 - (pl 0).2.1≠0
            omega
          have hb':(bif (pl i).1 - (pl 0).1 != 0 then true else (pl i).2.1 - (pl 0).2.1 != 0)=true:=by
            by_cases h1:(pl i).1 - (pl 0).1=0
            · have h2:(pl i).2.1 - (pl 0).2.1≠0:=fun h2=>hz ⟨h1,h2⟩
              rw [h1];simpa using h2
            · rw [show ((pl i).1 - (pl 0).1 != 0)=true by simpa using h1];rfl
          have m1:=Trv.bdm (a:=v.2 (2*i+1) - v.2 1) (b:=(pl i).1 - (pl 0).1) (A:=20000000000) (B:=4) (by omega) (by omega)
          have m2:=Trv.bdm (a:=v.2 (2*i) - v.2 0) (b:=(pl i).2.1 - (pl 0).2.1) (A:=20000000000) (B:=4) (by omega) (by omega)
          have m3:=Trv.bdm (a:=(pl i).1 - (pl 0).1) (b:=(pl i).1 - (pl 0).1) (A:=4) (B:=4) (by omega) (by omega)
          have m4:=Trv.bdm (a:=(pl i).2.1 - (pl 0).2.1) (b:=(pl i).2.1 - (pl 0).2.1) (A:=4) (B:=4) (by omega) (by omega)
          have hpos:0<((pl i).1 - (pl 0).1)*((pl i).1 - (pl 0).1)+((pl i).2.1 - (pl 0).2.1)*((pl i).2.1 - (pl 0).2.1):=Trv.sum_sq_pos hz'
          have hr:=l1 ((v.2 (2*i+1) - v.2 1)*((pl i).1 - (pl 0).1) - (v.2 (2*i) - v.2 0)*((pl i).2.1 - (pl 0).2.1)) (((pl i).1 - (pl 0).1)*((pl i).1 - (pl 0).1)+((pl i).2.1 - (pl 0).2.1)*((pl i).2.1 - (pl 0).2.1)) (by omega) (by omega) (by omega) (by omega)
            ⟨fun h=>Trv.one_all (by omega) h,fun h=>Trv.all_onej h z0 (j:=i) (by omega) hz'⟩ np 0 (by omega) (fun j hj=>absurd hj (Nat.not_lt_zero _))
          refine cW hc (N4 g nb n pl np v i _ _) ?_ hr
          and_intros
          all_goals (first | exact zH | (exact hd) | (exact hb') | (intro h;exact h) | (intro h;rw [h];rfl) | (intro t ht;simp [af];done))
    refine cW hc (NZ g nb n pl np v) ?_ (l0 np 0 (by omega) (fun j hj=>absurd hj (Nat.not_lt_zero _)))
    and_intros
    all_goals (first | exact zN | (exact cv) | (intro t ht;simp [af];done))
def EM (g:Nat→aa) (nb N:Nat) (pl:Nat→ae) (np:Nat) (q:Nat) (W:Nat→Nat→Int) (i:Nat):St :=
  ⟨[.p .any,.pt 3 0 0 0,.p .any,.p .any,.p .any,.p .any,.p .any,.ar 1 1 0 q,.p (.int .i64 q),.p (.int .i64 i)]++List.replicate 10 ag,[(0,EO g nb N pl np),(1,dV 2 q (cM (2*N) W)),(2,ed q (cM (2*N) W))],3⟩
theorem Nl (g:Nat→aa) (nb N:Nat) (pl:Nat→ae) (np:Nat) (q:Nat) (W:Nat→Nat→Int) :
    zT Tryz.f18 [rg 3,rm [(1,oc [(0,dV 1 q (cM (2*N) W)),(1,ed q (cM (2*N) W))] (.ar 1 0 0 q))] 2,.head] [fU g nb N pl np] [0,128,129] (EM g nb N pl np q W 0) =
    some (yg,[(NT 0 1),zE 50 [(nV N nb g np pl)] [(0,⟨false,1,q,(fun i=>[.ar 1 ⟨1,some i⟩ 0 (2*N)])⟩),(1,⟨true,0,q,(fun i=>[.p (.seq false 1 (2*N) (fun i_1=>[.int .i64 ((cM (2*N) W i).2 i_1)]))])⟩)] (.ar 1 0 0 q),(AN 0),(AN 0),(AN q),(AI ((q:Int))),((0:Int)=(↑0:Int)),((([AV.p (PV.int IntKind.i64 (N:Int)),b4 g nb,sY pl np].length):Nat)=3),(NL 1 1),(NL 1 1),(AI ((N:Int))),(AN nb),(AP nb (aF g)),(AN np),(AP np (aF pl)),(AN 1),(NL q q),(AA q (fun i=>[.ar 1 ⟨2,some i⟩ 0 (2*N)])),(NL q q),(∀ i:Nat,(((i:Nat)<q)→af [(AN 1),(((2*N):Nat)≤(2*N)),(AP ((2*N)) (fun r=>[.int .i64 ((cM (2*N) W i).2 r)]))]))]):=by kernel_rfl
theorem K8 (g:Nat→aa) (nb N:Nat) (pl:Nat→ae) (np:Nat) (q:Nat) (W:Nat→Nat→Int) (i:Nat) :
    zM 0 [rg 1,.dec true,rg 3,rm [(2,oc [] (jB true))] 1,.dec false,rg 2,.head] yg (EM g nb N pl np q W i) [0,1,2] 1 (EM g nb N pl np q W (i+1)) =
    some (yg,[((decide ((i:Int)<(q:Int)))=true),(IL 0 (i:Int)),(IT (i:Int) (q:Int)),(NT i q),(NT 0 1),(NT i q),(AN 1),(NL (2*N) (2*N)),zE 20 [(zW N nb g np pl),.p (.seq true 1 (2*N) (fun i_1=>[.int .i64 ((cM (2*N) W i).2 i_1)]))] [] (jB true),((!true)=false),(ax ((i:Int)+1)),(au ((i:Int)+1)),(AN 0),(AN 0),(AN q),(AI ((q:Int))),((((i:Int)+1):Int)=(↑(i+1):Int)),(AN 3),(NL 1 1),(NL 1 1),(AI ((N:Int))),(AN nb),(AP nb (aF g)),(AN np),(AP np (aF pl)),(AN 1),(NL q q),(AA q (fun i_1=>[.ar 1 ⟨2,some i_1⟩ 0 (2*N)])),(NL q q),(∀ i_1:Nat,(((i_1:Nat)<q)→af [(AN 1),(((2*N):Nat)≤(2*N)),(AP ((2*N)) (fun r=>[.int .i64 ((cM (2*N) W i_1).2 r)]))]))]):=by kernel_rfl
theorem N7 (g:Nat→aa) (nb N:Nat) (pl:Nat→ae) (np:Nat) (q:Nat) (W:Nat→Nat→Int) (i:Nat) (w:Nat→Int) :
    zP Tryz.f18 0 [rg 1,.dec true,rg 3,rm [(2,oc [] (jB false))] 1,.dec true,rg 3] yg (EM g nb N pl np q W i) [.pl ⟨2,some i⟩] 1 [(0,aY (2*N) w)] (.tup [.ar 1 0 0 (2*N),jB true]) =
    some [((decide ((i:Int)<(q:Int)))=true),(IL 0 (i:Int)),(IT (i:Int) (q:Int)),(NT i q),(NT 0 1),(NT i q),(AN 1),(NL (2*N) (2*N)),zE 20 [(zW N nb g np pl),.p (.seq true 1 (2*N) (fun i_1=>[.int .i64 ((cM (2*N) W i).2 i_1)]))] [] (jB false),((!false)=true),(AN i),(AN 0),(AN ((2*N))),(true=true),(NT i q),(AN 1),(NL (2*N) (2*N)),(∀ i_1:Nat,(((i_1:Nat)<(2*N))→(af []∧(([.p (.int .i64 ((cM (2*N) W i).2 i_1))]:List AV)=[.p (.int .i64 (w i_1))])))),(AE ((2*N)))]:=by kernel_rfl
theorem L4 (g:Nat→aa) (nb N:Nat) (pl:Nat→ae) (np:Nat) (q:Nat) (W:Nat→Nat→Int) (i:Nat) (w:Nat→Int) :
    zP Tryz.f18 0 [rg 1,.dec false,rg 3] yg (EM g nb N pl np q W i) [35] 1 [(0,aY 0 w)] (.tup [.ar 1 0 0 0,jB false]) =
    some [((decide ((i:Int)<(q:Int)))=false),(AN 0),(AN 0),(false=false),(AN 1),(NL 0 0),(∀ i_1:Nat,(((i_1:Nat)<0)→(af []∧(([.p (.int .i64 0)]:List AV)=[.p (.int .i64 (w i_1))])))),(AE 0)]:=by kernel_rfl
noncomputable def zF (g:Nat→aa) (nb N:Nat) (pl:Nat→ae) (np:Nat) (W:Nat→Nat→Int):Nat→Nat→ad×Bool
  | 0,_=>((0,fun _=>0),false)
  | d+1,i=>if qF g nb N pl np (2*N,W i)=true then zF g nb N pl np W d (i+1) else ((2*N,W i),true)
noncomputable def qw (g:Nat→aa) (nb N:Nat) (pl:Nat→ae) (np:Nat):ad×Bool:=zF g nb N pl np (kM g nb N pl).2 (kM g nb N pl).1 0
theorem Es (g:Nat→aa) (nb N:Nat) (pl:Nat→ae):(kM g nb N pl).1≤2*N:=Had.nsl_le _ _ _
theorem ls {g:Nat→aa} {nb N:Nat} {pl:Nat→ae} {np:Nat} (hf:gf g nb N pl np=true) :
    zE 18 [fU g nb N pl np] [(0,aY (qw g nb N pl np).1.1 (qw g nb N pl np).1.2)] (.tup [.ar 1 0 0 (qw g nb N pl np).1.1,.p (.bool (qw g nb N pl np).2)]):=by
  obtain ⟨h1,h2,h3,h4,hok,hb⟩:=e9 hf
  have m1:=qs hf
  have hq:=Es g nb N pl
  have ti:=fun (W:Nat→Nat→Int) i=>iQ g nb N pl np (2*N,W i) (by omega) (by show 2*N≤_;omega)
  unfold qw
  generalize (kM g nb N pl).1=q at *
  generalize (kM g nb N pl).2=W at *
  generalize hR:zF g nb N pl np W q 0=R
  refine aW Tryz.func18 (fun c hc=>?_)
  have lo:∀ d i,i+d=q→zF g nb N pl np W d i=R→zR c 18 yg (EM g nb N pl np q W i) (aS c [(0,aY R.1.1 R.1.2)] (.tup [.ar 1 0 0 R.1.1,.p (.bool R.2)])):=by
    intro d
    induction d with
    | zero =>
      intro i hi hr
      obtain rfl:i=q:=by omega
      have hd:decide ((i:Int)<(i:Int))=false:=decide_eq_false (by omega)
      rw [← hr]
      refine be Tryz.func18 hc (L4 g nb N pl np i W i (fun _=>0)) ?_
      and_intros
      iterate 2 all_goals (first | exact zN | (exact hd) | (intro t ht;exact absurd ht (Nat.not_lt_zero _)) | (intro t ht;simp [af];done) | simp only [af])
    | succ d ih =>
      intro i hi hr
      have hd:decide ((i:Int)<(q:Int))=true:=decide_eq_true (by omega)
      have ct:=ti W i
      rw [zF] at hr
      cases hb:qF g nb N pl np (2*N,W i) with
      | true =>
        rw [hb] at ct
        rw [if_pos hb] at hr
        refine cW hc (K8 g nb N pl np q W i) ?_ (ih (i+1) (by omega) hr)
        and_intros
        iterate 2 all_goals (first | exact zN | (exact hd) | (exact ct) | (intro t ht;simp [af];done) | simp only [af])
      | false =>
        rw [hb] at ct
        rw [if_neg (by rw [hb];exact Bool.false_ne_true)] at hr
        rw [← hr]
        refine be Tryz.func18 hc (N7 g nb N pl np q W i (W i)) ?_
        and_intros
        iterate 2 all_goals (first | exact zN | (exact hd) | (exact ct) | (intro t ht;simp [af,cM];done) | (intro t ht;simp [af];done) | simp only [af])
  refine cW hc (Nl g nb N pl np q W) ?_ (lo q 0 (by omega) hR)
  and_intros
  iterate 2 all_goals (first | exact zN | (exact m1) | (intro t ht;simp [af];done) | simp only [af])
end Go.Proofs.YtbdgmpfdlgnkkaaGreat.Mach
namespace Go.Proofs.YtbdgmpfdlgnkkaaGreat.Mat
def tb (v:Nat) (x:Nat×Nat):Bool:=x.1==v||x.2==v
def dgL (v:Nat):List (Nat×Nat)→Nat
  | []=>0
  | x::l=>(tb v x).toNat+dgL v l
def tch (L:List (Nat×Nat)) (v:Nat):Bool:=decide (0<dgL v L)
def Full (N:Nat) (L:List (Nat×Nat)):Prop:=L.length+3=2*cardR (tch L) N
theorem tb_iff {v:Nat} {x:Nat×Nat}:tb v x=true↔x.1=v∨x.2=v:=by simp [tb]
theorem A3 {v:Nat} {x:Nat×Nat}:∀ {L:List (Nat×Nat)},x∈L→tb v x=true→0<dgL v L
  | y::l,hx,ht=>by
    simp only [dgL]
    rcases List.mem_cons.1 hx with h | h
    · subst h;rw [ht];simp only [Bool.toNat_true];omega
    · have:=A3 h ht;omega
theorem Ac {v:Nat}:∀ {L:List (Nat×Nat)},0<dgL v L→∃ x∈L,tb v x=true
  | [],h=>absurd h (Nat.lt_irrefl _)
  | y::l,h=>by
    simp only [dgL] at h
    cases ht:tb v y with
    | true=>exact ⟨y,by simp,ht⟩
    | false =>
      rw [ht] at h
      simp only [Bool.toNat_false,Nat.zero_add] at h
      obtain ⟨x,h1,h2⟩:=Ac h
      exact ⟨x,by simp [h1],h2⟩
theorem tch_iff {L:List (Nat×Nat)} {v:Nat}:tch L v=true↔∃ x∈L,tb v x=true:=by
  unfold tch
  rw [decide_eq_true_iff]
  exact ⟨Ac,fun ⟨x,h1,h2⟩=>A3 h1 h2⟩
theorem tch_lt {N:Nat} {L:List (Nat×Nat)} (hL:∀ x∈L,GoodBar N x) {v:Nat} (h:tch L v=true):v<N:=by
  obtain ⟨x,h1,h2⟩:=tch_iff.1 h
  have:=hL x h1
  unfold GoodBar at this
  rcases tb_iff.1 h2 with e | e<;>omega
theorem cnt_all {R:Nat→Bool}:∀ {L:List (Nat×Nat)},(∀ x∈L,inn R x=true)→cnt R L=L.length
  | [],_=>rfl
  | y::l,h=>by
    simp only [cnt,List.length_cons]
    rw [cnt_all (fun x hx=>h x (by simp [hx])),h y (by simp)]
    simp only [Bool.toNat_true];omega
theorem cnt_perm (R:Nat→Bool) {L M:List (Nat×Nat)} (h:L.Perm M):cnt R L=cnt R M:=by
  induction h with
  | nil=>rfl
  | cons x _ ih=>simp only [cnt,ih]
  | swap x y l=>simp only [cnt];omega
  | trans _ _ i1 i2=>exact i1.trans i2
theorem sparse_perm {N k l:Nat} {L M:List (Nat×Nat)} (h:L.Perm M) (hs:Sparse N k l L):Sparse N k l M:=fun R hR=>by
  rw [← cnt_perm R h] at hR ⊢
  exact hs R hR
theorem gD {R:Nat→Bool} {a:Nat} (h:R a=true):∀ n,cardR R n=cardR (fun v=>R v&&v != a) n+(if a<n then 1 else 0)
  | 0=>rfl
  | n+1=>by
    simp only [cardR]
    rw [gD h n]
    by_cases e:n=a
    · subst e
      simp [h]
    · have e1:(n != a)=true:=by simpa using e
      rw [e1,Bool.and_true]
      by_cases h1:a<n
      · rw [if_pos h1,if_pos (by omega)];omega
      · rw [if_neg h1,if_neg (by omega)];omega
theorem y8 {R:Nat→Bool} {a n:Nat} (h:R a=false) (ha:a<n):cardR (fun v=>R v||v==a) n=cardR R n+1:=by
  have h1:=gD (R:=fun v=>R v||v==a) (a:=a) (by simp) n
  rw [h1,if_pos ha]
  congr 1
  have:∀ m,cardR (fun v=>(R v||v==a)&&v != a) m=cardR R m:=by
    intro m
    induction m with
    | zero=>rfl
    | succ m ih =>
      simp only [cardR,ih]
      by_cases e:m=a
      · subst e;simp [h]
      · have e1:(m==a)=false:=beq_eq_false_iff_ne.2 e
        simp [bne,e1]
  exact this n
theorem card_cgr {R S:Nat→Bool}:∀ n,(∀ v,v<n→R v=S v)→cardR R n=cardR S n
  | 0,_=>rfl
  | n+1,h=>by simp only [cardR];rw [card_cgr n (fun v hv=>h v (by omega)),h n (by omega)]
def xc (f:Nat→Nat):Nat→Nat
  | 0=>0
  | n+1=>xc f n+f n
theorem wO (f g:Nat→Nat):∀ n,xc (fun v=>f v+g v) n=xc f n+xc g n
  | 0=>rfl
  | n+1=>by simp only [xc,wO f g n];omega
theorem rL:∀ n,xc (fun _=>0) n=0
  | 0=>rfl
  | n+1=>by simp only [xc,rL n]
theorem Bh {x:Nat×Nat} (h:x.1≠x.2):∀ n,xc (fun v=>(tb v x).toNat) n=(if x.1<n then 1 else 0)+(if x.2<n then 1 else 0)
  | 0=>rfl
  | n+1=>by
    have ih:=Bh h n
    simp only [xc]
    rw [ih]
    unfold tb
    by_cases h1:x.1=n
    · have e2:(x.2==n)=false:=beq_eq_false_iff_ne.2 (by omega)
      rw [e2,show (x.1==n)=true from beq_iff_eq.2 h1]
      simp only [Bool.true_or,Bool.toNat_true]
      rw [if_neg (show ¬ x.1<n by omega),if_pos (show x.1<n+1 by omega)]
      by_cases h2:x.2<n
      · rw [if_pos h2,if_pos (by omega)]
      · rw [if_neg h2,if_neg (by omega)]
    · rw [show (x.1==n)=false from beq_eq_false_iff_ne.2 h1]
      by_cases h2:x.2=n
      · rw [show (x.2==n)=true from beq_iff_eq.2 h2]
        simp only [Bool.false_or,Bool.toNat_true]
        rw [if_neg (show ¬ x.2<n by omega),if_pos (show x.2<n+1 by omega)]
        by_cases h3:x.1<n
        · rw [if_pos h3,if_pos (by omega)]
        · rw [if_neg h3,if_neg (by omega)]
      · rw [show (x.2==n)=false from beq_eq_false_iff_ne.2 h2]
        simp only [Bool.false_or,Bool.toNat_false,Nat.add_zero]
        by_cases h3:x.1<n<;>by_cases h4:x.2<n
        · rw [if_pos h3,if_pos h4,if_pos (by omega),if_pos (by omega)]
        · rw [if_pos h3,if_neg h4,if_pos (by omega),if_neg (by omega)]
        · rw [if_neg h3,if_pos h4,if_neg (by omega),if_pos (by omega)]
        · rw [if_neg h3,if_neg h4,if_neg (by omega),if_neg (by omega)]
theorem Gu {N:Nat}:∀ L:List (Nat×Nat),(∀ x∈L,GoodBar N x)→xc (fun v=>dgL v L) N=2*L.length
  | [],_=>rL N
  | x::l,h=>by
    have ih:=Gu l (fun y hy=>h y (by simp [hy]))
    have hx:=h x (by simp)
    unfold GoodBar at hx
    have h1:=Bh hx.1 N
    rw [if_pos hx.2.1,if_pos hx.2.2] at h1
    show xc (fun v=>(tb v x).toNat+dgL v l) N=_
    rw [wO,h1,ih,List.length_cons];omega
theorem zi {R:Nat→Bool} {f:Nat→Nat} {k:Nat}:∀ n,(∀ v,v<n→R v=true→k≤f v)→k*cardR R n≤xc f n
  | 0,_=>Nat.zero_le _
  | n+1,h=>by
    have ih:=zi n (fun v hv=>h v (by omega))
    simp only [cardR,xc]
    cases hr:R n with
    | true =>
      have:=h n (by omega) hr
      simp only [Bool.toNat_true,Nat.mul_add];omega
    | false=>simp only [Bool.toNat_false,Nat.mul_add];omega
theorem uS {T:Nat→Bool} {v:Nat}:∀ {L:List (Nat×Nat)},(∀ x∈L,T x.1=true∧T x.2=true)→cnt (fun u=>T u&&u != v) L+dgL v L=L.length
  | [],_=>rfl
  | x::l,h=>by
    have ih:=uS (v:=v) (fun y hy=>h y (List.mem_cons_of_mem _ hy))
    obtain ⟨h1,h2⟩:=h x (by simp)
    have e:(inn (fun u=>T u&&u != v) x).toNat+(tb v x).toNat=1:=by
      show ((T x.1&&x.1 != v)&&(T x.2&&x.2 != v)).toNat+(x.1==v||x.2==v).toNat=1
      rw [h1,h2]
      simp only [Bool.true_and,bne]
      cases x.1==v<;>cases x.2==v<;>rfl
    simp only [cnt,dgL,List.length_cons]
    omega
theorem ends_tch {L:List (Nat×Nat)}:∀ x∈L,tch L x.1=true∧tch L x.2=true:=fun x hx =>
  ⟨tch_iff.2 ⟨x,hx,tb_iff.2 (.inl rfl)⟩,tch_iff.2 ⟨x,hx,tb_iff.2 (.inr rfl)⟩⟩
theorem Cq {N:Nat} {L:List (Nat×Nat)} (hs:Sparse N 2 3 L) (hL:∀ x∈L,GoodBar N x) (hf:Full N L) (h2:2≤L.length) {v:Nat} (hv:tch L v=true):2≤dgL v L:=by
  have h1:=uS (v:=v) (L:=L) ends_tch
  have hc:=gD hv N
  rw [if_pos (tch_lt hL hv)] at hc
  unfold Full at hf
  by_cases h0:0<cnt (fun u=>tch L u&&u != v) L
  · have:=hs _ h0
    omega
  · omega
theorem deg_some {N:Nat} {L:List (Nat×Nat)} (hs:Sparse N 2 3 L) (hL:∀ x∈L,GoodBar N x) (hf:Full N L) (h2:2≤L.length):∃ v,v<N∧(dgL v L=2∨dgL v L=3):=by
  refine Classical.byContradiction fun hn=>?_
  have h4:∀ v,v<N→tch L v=true→4≤dgL v L:=fun v hv ht=>by
    have:=Cq hs hL hf h2 ht
    refine Classical.byContradiction fun h=>hn ⟨v,hv,by omega⟩
  have h5:=zi N h4
  rw [Gu L hL] at h5
  unfold Full at hf
  omega
theorem ext_sparse {N:Nat} {D:List (Nat×Nat)} (hD:Sparse N 2 3 D) {x:Nat×Nat} (hx:GoodBar N x) (h:¬ Imp N D x.1 x.2):Sparse N 2 3 (D++[x]):=by
  intro R hR
  rw [cnt_append] at hR ⊢
  have e1:cnt R [x]=(inn R x).toNat:=by simp [cnt]
  rw [e1] at hR ⊢
  have h1:=hD R
  cases hi:inn R x with
  | false =>
    rw [hi] at hR
    simp only [Bool.toNat_false,Nat.add_zero] at hR ⊢
    exact h1 hR
  | true =>
    simp only [Bool.toNat_true]
    unfold inn at hi
    rw [Bool.and_eq_true] at hi
    by_cases h0:0<cnt R D
    · have h2:=h1 h0
      refine Classical.byContradiction fun hn=>h ⟨R,by unfold Tight;omega,hi.1,hi.2⟩
    · have:=card_two R x.1 x.2 hi.1 hi.2 hx.1 N hx.2.1 hx.2.2
      omega
theorem hen3 {N:Nat} {L D:List (Nat×Nat)} {v a b c:Nat} {x1 x2 x3:Nat×Nat} (hL:Sparse N 2 3 L) (hD:Sparse N 2 3 D) (hp:L.Perm (D++[x1,x2,x3]))
    (hv:v<N) (ha:a<N) (hb:b<N) (hc:c<N) (hab:a≠b) (hac:a≠c) (hbc:b≠c) (h1:x1=(v,a)∨x1=(a,v)) (h2:x2=(v,b)∨x2=(b,v)) (h3:x3=(v,c)∨x3=(c,v)) :
    ¬ (Imp N D a b∧Imp N D a c∧Imp N D b c):=by
  rintro ⟨i1,i2,i3⟩
  obtain ⟨R,t,ra,rb,rc⟩:=tight_tri hD ha hb hc hab hac hbc i1 i2 i3
  have key:∀ S:Nat→Bool,S v=true→S a=true→S b=true→S c=true→cnt S L=cnt S D+3:=fun S sv sa sb sc=>by
    rw [cnt_perm S hp,cnt_append]
    have e1:inn S x1=true:=by rcases h1 with h | h<;>(subst h;simp [inn,sv,sa])
    have e2:inn S x2=true:=by rcases h2 with h | h<;>(subst h;simp [inn,sv,sb])
    have e3:inn S x3=true:=by rcases h3 with h | h<;>(subst h;simp [inn,sv,sc])
    simp [cnt,e1,e2,e3]
  unfold Tight at t
  cases hr:R v with
  | true =>
    have k:=key R hr ra rb rc
    have:=hL R (by omega)
    omega
  | false =>
    have k:=key (fun u=>R u||u==v) (by simp) (by simp [ra]) (by simp [rb]) (by simp [rc])
    have m:=gY R (fun u=>R u||u==v) (fun u hu=>by simp [hu]) D
    have:=hL (fun u=>R u||u==v) (by omega)
    rw [y8 hr hv] at this
    omega
theorem hen_keep {N:Nat} {L E:List (Nat×Nat)} {v:Nat} (hL:∀ x∈L,GoodBar N x) (hE:∀ x∈E,GoodBar N x) (hs:Sparse N 2 3 E) (hf:Full N L) (h2:2≤L.length) (hv:tch L v=true)
    (hn:E.length+2=L.length) (hin:∀ x∈E,(tch L x.1=true∧x.1≠v)∧(tch L x.2=true∧x.2≠v)):Full N E∧(∀ u,u≠v→tch L u=true→tch E u=true)∧tch E v=false:=by
  obtain ⟨T,hTd⟩:∃ T:Nat→Bool,∀ u,T u=(tch L u&&u != v):=⟨fun u=>tch L u&&u != v,fun _=>rfl⟩
  have hc:=gD hv N
  rw [if_pos (tch_lt hL hv),card_cgr N (fun u _=>(hTd u).symm)] at hc
  unfold Full at hf
  have hT:∀ x∈E,T x.1=true∧T x.2=true:=fun x hx=>by
    obtain ⟨⟨a1,a2⟩,a3,a4⟩:=hin x hx
    rw [hTd,hTd]
    simp [a1,a2,a3,a4]
  have hk:∀ u,u≠v→tch L u=true→tch E u=true:=fun u hu ht=>by
    cases he:tch E u with
    | true=>rfl
    | false =>
      have hz:dgL u E=0:=by
        unfold tch at he
        rw [decide_eq_false_iff_not] at he
        omega
      have h1:=uS (v:=u) hT
      have hc2:=gD (R:=T) (a:=u) (by rw [hTd];simp [ht,hu]) N
      rw [if_pos (tch_lt hL ht)] at hc2
      have h3:=hs (fun w=>T w&&w != u) (by omega)
      omega
  have hv0:tch E v=false:=by
    cases he:tch E v with
    | false=>rfl
    | true =>
      obtain ⟨x,hx,ht⟩:=tch_iff.1 he
      have:=hin x hx
      rcases tb_iff.1 ht with e | e
      · exact absurd e this.1.2
      · exact absurd e this.2.2
  refine ⟨?_,hk,hv0⟩
  unfold Full
  have:cardR (tch E) N=cardR T N:=card_cgr N (fun u hu=>by
    rw [hTd]
    by_cases e:u=v
    · subst e;simp [hv0]
    · cases ht:tch L u with
      | true=>rw [hk u e ht];simp [e]
      | false =>
        simp only [Bool.false_and]
        cases he:tch E u with
        | false=>rfl
        | true =>
          obtain ⟨x,hx,hb⟩:=tch_iff.1 he
          have:=hin x hx
          rcases tb_iff.1 hb with e' | e'
          · rw [e'] at this;rw [this.1.1] at ht;cases ht
          · rw [e'] at this;rw [this.2.1] at ht;cases ht)
  omega
end Go.Proofs.YtbdgmpfdlgnkkaaGreat.Mat
namespace Go.Proofs.YtbdgmpfdlgnkkaaGreat.Mach
open Go
def ou (h:Nat→aa) (e i:Nat):aa:=if i<e then h i else h (i+1)
theorem MM (g:Nat→aa) (nb N e:Nat) :
    zS Tryz.f102 [rg 3,rm [(1,oc [(0,aj nb g)] (.agg [jI N,.ar 2 0 0 nb]))] 2,rm [(1,oc [] (jB true)),(7,oc [] (jB true))] 2,.dec false,rg 12,rg 3] [bi g nb N,jI e] [896] [(0,aj (nb - 1) (ou g e))] (.tup [.agg [jI N,.ar 2 0 0 (nb - 1)],jB true]) =
    some (zD [(NT 0 1),zE 24 [(ak N nb g)] (bg nb g) (.agg [jI (N:Int),.ar 2 0 0 nb]),((true=true)→(AN 1)),zE 23 [(ak N nb g)] [] (jB true),(AG (!!true)),(((!!true)=true)→(NT 0 1)),(((!!true)=true)→(ax ((nb:Int) - 1))),(((!!true)=true)→(au ((nb:Int) - 1))),(((!!true)=true)→zE 58 [jI (e:Int),jI 0,jI ((nb:Int) - 1)] [] (jB true)),(((!true)=false)→((!!true)=true)),((bif !true then true else !true)=false),(IL 0 0),(IL 0 (e:Int)),(IL (e:Int) (nb:Int)),(ax ((e:Int)+1)),(au ((e:Int)+1)),(IL 0 ((e:Int)+1)),(IL ((e:Int)+1) (nb:Int)),(IL (nb:Int) (nb:Int)),(NL (nb - (e+1)+(e+1)) nb),(NL e nb),(NL ((e+(nb - (e+1)))*16) 140737488355328),(NL (e+(nb - (e+1))) 9223372036854775807),(AI ((N:Int))),(AN 0),(((e+(nb - (e+1))):Nat)=(nb - 1)),(true=true),(AN 2),(NL (nb - 1) (e+(nb - (e+1)))),(∀ i:Nat,(((i:Nat)<(nb - 1))→(af (ay false [(32,⟨true,2,1,(fun i_1=>[.p (.int .i64 (N:Int)),.ar 2 896 0 (e+(nb - (e+1)))])⟩),(160,⟨true,2,1,(fun i_1=>[.p (.int .i64 (N:Int)),.ar 2 896 0 (e+(nb - (e+1)))])⟩),(896,⟨false,2,(e+(nb - (e+1))),(fun i_1=>(if (i_1<e) then [.p (.int .i64 ((g i_1).1)),.p (.int .i64 ((g i_1).2.1))] else [.p (.int .i64 ((g (i_1 - e+(e+1))).1)),.p (.int .i64 ((g (i_1 - e+(e+1))).2.1))]))⟩),(0,⟨true,2,1,(fun i_1=>[.p (.int .i64 (N:Int)),.p (.seq true 2 nb (aF g))])⟩)] [896] 1 (if (i<e) then [.p (.int .i64 ((g i).1)),.p (.int .i64 ((g i).2.1))] else [.p (.int .i64 ((g (i - e+(e+1))).1)),.p (.int .i64 ((g (i - e+(e+1))).2.1))])).2∧(((ay false [(32,⟨true,2,1,(fun i_1=>[.p (.int .i64 (N:Int)),.ar 2 896 0 (e+(nb - (e+1)))])⟩),(160,⟨true,2,1,(fun i_1=>[.p (.int .i64 (N:Int)),.ar 2 896 0 (e+(nb - (e+1)))])⟩),(896,⟨false,2,(e+(nb - (e+1))),(fun i_1=>(if (i_1<e) then [.p (.int .i64 ((g i_1).1)),.p (.int .i64 ((g i_1).2.1))] else [.p (.int .i64 ((g (i_1 - e+(e+1))).1)),.p (.int .i64 ((g (i_1 - e+(e+1))).2.1))]))⟩),(0,⟨true,2,1,(fun i_1=>[.p (.int .i64 (N:Int)),.p (.seq true 2 nb (aF g))])⟩)] [896] 1 (if (i<e) then [.p (.int .i64 ((g i).1)),.p (.int .i64 ((g i).2.1))] else [.p (.int .i64 ((g (i - e+(e+1))).1)),.p (.int .i64 ((g (i - e+(e+1))).2.1))])).1:List AV)=[.p (.int .i64 ((ou g e i).1)),.p (.int .i64 ((ou g e i).2.1))])))),(AE ((nb - 1)))] [0,1,0,2,0,3,4,5,4,4,6,7,4,4,8,4,9,10,0,11,12,13,0,14,15,16,17,18,19,20,21,22,0,2,0,0,2,0,23,24,25,26,27,28,29,30]):=by kernel_rfl
theorem nN {N nb:Nat} {g:Nat→aa} (hg:ah ((N:Int),(nb,g),())=true) (e:Nat) (he:e<nb) :
    zE 102 [bi g nb N,.p (.int .i64 e)] [(0,aj (nb - 1) (ou g e))] (.tup [.agg [.p (.int .i64 N),.ar 2 0 0 (nb - 1)],.p (.bool true)]):=by
  obtain ⟨h1,h2,h3⟩:=aB hg
  have c1:=aQ ((N:Int),(nb,g),()) (c9 (by show nb≤_;omega))
  rw [hg] at c1
  have c2:=nX ((N:Int),(nb,g),()) (by show nb≤_;omega)
  have c3:=bp (e:Int) 0 ((nb:Int) - 1)
  rw [show bC (e:Int) 0 ((nb:Int) - 1)=true by simp [bC];omega] at c3
  refine aW Tryz.func102 (fun c hc=>?_)
  refine bz Tryz.func102 hc (MM g nb N e) ?_
  and_intros
  all_goals (first | exact zH | (exact c2) | (exact c1) | (intros;exact c3) | (exact c3) | (intro t ht;rcases Nat.lt_or_ge t e with h1 | h1;(simp [h1,ou,ay,bh,tg,bu,af]);((try dsimp only);rw [if_neg (show ¬ t<e by omega)];rw [show t - e+(e+1)=t+1 by omega];simp [show ¬ t<e by omega,ou,ay,bh,tg,bu,af])))
def ld (b:aa) (p:Int):Bool:=bif b.1==p then true else b.2.1==p
def bm (g:Nat→aa) (p:Int):Nat→Int
  | 0=>0
  | k+1=>if ld (g k) p=true then bm g p k+1 else bm g p k
def uT (v:ai) (p:Int) (k:Nat):St :=
  ⟨[aJ v,.p (.int .i64 p),.pt 2 0 0 0,.p .any,.p .any,.p (.int .i64 (bm v.2.1.2 p k)),.p .any,.p .any,.p .any,cJ v.2.1,.p (.int .i64 v.2.1.1),.p (.int .i64 k)]++List.replicate 10 ag,[(0,BI v)],1⟩
theorem LM (b:aa) (p:Int) :
    zS Tryz.f112 [rg 2,rg 11] [lA b,jI p] [] [] (jB (ld b p)) =
    some (zD [(NT 0 1),(AG (!b.1==p)),(((!b.1==p)=true)→(NT 0 1)),(((b.1==p)=false)→((!b.1==p)=true)),((bif b.1==p then true else b.2.1==p)=(ld b p))] [0,1,2,1,1,3,4]):=by kernel_rfl
theorem HT (v:ai) (p:Int) :
    zT Tryz.f101 [rg 2,rg 1,rg 4,.head] [aJ v,jI p] [0] (uT v p 0) =
    some (ua,zD [(NT 0 1),(AI v.1),(AN v.2.1.1),(AP v.2.1.1 (aF v.2.1.2)),(AI p),(AN 0),((0:Int)=(bm v.2.1.2 p 0)),(AI ((v.2.1.1:Int))),((0:Int)=(↑0:Int)),((([AV.p (PV.int IntKind.i64 v.1),cJ v.2.1].length):Nat)=2),(NL 1 1)] [0,1,2,3,4,5,6,2,3,7,8,9,10,10,1,2,3]):=by kernel_rfl
theorem IN (v:ai) (p:Int) (k:Nat) :
    zM 0 [rg 1,.dec true,rg 4,rm [(2,oc [] (jB (ld (v.2.1.2 k) p)))] 0,.dec true,rg 3,rg 2,.head] ua (uT v p k) [0] 1 (uT v p (k+1)) =
    some (ua,zD (let A:Bool:=ld (v.2.1.2 k) p;[((decide ((k:Int)<(v.2.1.1:Int)))=true),(IL 0 (k:Int)),(IT (k:Int) (v.2.1.1:Int)),(NT 0 1),((true=true)→(AN 1)),zE 112 [(pf v k),jI p] [] (jB (A)),(A=true),(ax (bm v.2.1.2 p k+1)),(au (bm v.2.1.2 p k+1)),(ax ((k:Int)+1)),(au ((k:Int)+1)),(AI v.1),(AN v.2.1.1),(AP v.2.1.1 (aF v.2.1.2)),(AI p),(AN 0),(((bm v.2.1.2 p k+1):Int)=(bm v.2.1.2 p (k+1))),(AI ((v.2.1.1:Int))),((((k:Int)+1):Int)=(↑(k+1):Int)),(AN 2),(NL 1 1)]) [0,1,2,3,4,3,5,6,7,8,9,10,11,12,13,14,15,16,12,13,17,18,19,20,20,11,12,13]):=by kernel_rfl
theorem Ju (v:ai) (p:Int) (k:Nat) :
    zM 0 [rg 1,.dec true,rg 4,rm [(2,oc [] (jB (ld (v.2.1.2 k) p)))] 0,.dec false,rg 2,.head] ua (uT v p k) [0] 1 (uT v p (k+1)) =
    some (ua,zD (let A:Bool:=ld (v.2.1.2 k) p;[((decide ((k:Int)<(v.2.1.1:Int)))=true),(IL 0 (k:Int)),(IT (k:Int) (v.2.1.1:Int)),(NT 0 1),((true=true)→(AN 1)),zE 112 [(pf v k),jI p] [] (jB (A)),(A=false),(ax ((k:Int)+1)),(au ((k:Int)+1)),(AI v.1),(AN v.2.1.1),(AP v.2.1.1 (aF v.2.1.2)),(AI p),(AN 0),(((bm v.2.1.2 p k):Int)=(bm v.2.1.2 p (k+1))),(AI ((v.2.1.1:Int))),((((k:Int)+1):Int)=(↑(k+1):Int)),(AN 2),(NL 1 1)]) [0,1,2,3,4,3,5,6,7,8,9,10,11,12,13,14,10,11,15,16,17,18,18,9,10,11]):=by kernel_rfl
theorem IA (v:ai) (p:Int) (k:Nat) :
    zP Tryz.f101 0 [rg 1,.dec false,rg 2] ua (uT v p k) [] 1 [] (jI (bm v.2.1.2 p k)) =
    some [((decide ((k:Int)<(v.2.1.1:Int)))=false),(AI ((bm v.2.1.2 p k)))]:=by kernel_rfl
theorem rD (b:aa) (p:Int):zE 112 [lA b,.p (.int .i64 p)] [] (.p (.bool (ld b p))):=by
  refine aW Tryz.func112 (fun c hc=>?_)
  refine bz Tryz.func112 hc (LM b p) ?_
  and_intros
  all_goals (first | exact zH)
theorem p9 (g:Nat→aa) (p:Int):∀ k:Nat,0≤bm g p k∧bm g p k≤k
  | 0=>⟨Int.le_refl _,Int.le_refl _⟩
  | k+1=>by
    have:=p9 g p k
    unfold bm
    split<;>omega
theorem nD (v:ai) (p:Int) (hs:cP a6 v):zE 101 [aJ v,.p (.int .i64 p)] [] (.p (.int .i64 (bm v.2.1.2 p v.2.1.1))):=by
  refine aW Tryz.func101 (fun c hc=>?_)
  have hn:v.2.1.1≤1048576:=hs.2.1.1
  have lp:∀ m k,k+m=v.2.1.1→zR c 101 ua (uT v p k) (aS c [] (.p (.int .i64 (bm v.2.1.2 p v.2.1.1)))):=by
    intro m
    induction m with
    | zero =>
      intro k hk
      have e:v.2.1.1=k:=by omega
      have hd:decide ((k:Int)<(v.2.1.1:Int))=false:=by simp;omega
      rw [show bm v.2.1.2 p v.2.1.1=bm v.2.1.2 p k by rw [e]]
      refine be Tryz.func101 hc (IA v p k) ?_
      and_intros
      all_goals (first | exact zN)
    | succ m ih =>
      intro k hk
      have hb:=p9 v.2.1.2 p k
      have hd:decide ((k:Int)<(v.2.1.1:Int))=true:=by simp;omega
      cases he:ld (v.2.1.2 k) p with
      | true =>
        have hstep:bm v.2.1.2 p (k+1)=bm v.2.1.2 p k+1:=by rw [bm,if_pos he]
        refine a9 hc (IN v p k) ?_ (ih (k+1) (by omega))
        and_intros
        all_goals (first | exact zI | (exact rD _ _) | (exact he) | (simp [af]))
      | false =>
        have hstep:bm v.2.1.2 p (k+1)=bm v.2.1.2 p k:=by rw [bm,he];rfl
        refine a9 hc (Ju v p k) ?_ (ih (k+1) (by omega))
        and_intros
        all_goals (first | exact zI | (exact rD _ _) | (exact he) | (simp [af]))
  refine a9 hc (HT v p) ?_ (lp v.2.1.1 0 (by omega))
  and_intros
  all_goals (first | exact zN | (simp [af]))
def I0 (x:aa):Ob:=⟨true,2,1,fun _=>[.p (.int .i64 x.1),.p (.int .i64 x.2.1)]⟩
def Ff (v:ai) (x:aa) (k:Nat):St :=
  ⟨[cJ v.2.1,.agg [.p (.int .i64 x.1),.p (.int .i64 x.2.1)],.p .any,.pt 2 0 0 0,.p .any,.p .any,cJ v.2.1,.p (.int .i64 v.2.1.1),.p (.int .i64 k)]++List.replicate 10 ag,[(0,I0 x)],1⟩
def mL (x y:aa):Bool:=(x.1==y.1)&&((x.2.1==y.2.1)&&true)
theorem OE (v:ai) (x:aa) :
    zT Tryz.f72 [rg 2,rg 3,.head] [cJ v.2.1,.agg [jI x.1,jI x.2.1]] [0] (Ff v x 0) =
    some (xj,zD [(AN v.2.1.1),(AP v.2.1.1 (aF v.2.1.2)),(AI x.1),(AI x.2.1),(AN 0),(AI ((v.2.1.1:Int))),((0:Int)=(↑0:Int)),((([AV.p (PV.int IntKind.i64 x.1),AV.p (PV.int IntKind.i64 x.2.1)].length):Nat)=2),(NL 1 1)] [0,1,2,3,4,0,1,5,6,7,8,8,2,3]):=by kernel_rfl
theorem LK (v:ai) (x:aa) (k:Nat) :
    zM 0 [rg 1,.dec true,rg 2,rg 6,.dec false,rg 2,.head] xj (Ff v x k) [0] 1 (Ff v x (k+1)) =
    some (xj,zD [((decide ((k:Int)<(v.2.1.1:Int)))=true),(NT 0 1),(IL 0 (k:Int)),(IT (k:Int) (v.2.1.1:Int)),((x.1==(v.2.1.2 k).1&&(x.2.1==(v.2.1.2 k).2.1&&true))=false),(ax ((k:Int)+1)),(au ((k:Int)+1)),(AN v.2.1.1),(AP v.2.1.1 (aF v.2.1.2)),(AI x.1),(AI x.2.1),(AN 0),(AI ((v.2.1.1:Int))),((((k:Int)+1):Int)=(↑(k+1):Int)),(AN 2),(NL 1 1)] [0,1,2,3,4,5,6,7,8,9,10,11,7,8,12,13,14,15,15,9,10]):=by kernel_rfl
theorem NA (v:ai) (x:aa) (k:Nat) :
    zP Tryz.f72 0 [rg 1,.dec true,rg 2,rg 6,.dec true,rg 2] xj (Ff v x k) [] 1 [] (jI k) =
    some [((decide ((k:Int)<(v.2.1.1:Int)))=true),(NT 0 1),(IL 0 (k:Int)),(IT (k:Int) (v.2.1.1:Int)),((x.1==(v.2.1.2 k).1&&(x.2.1==(v.2.1.2 k).2.1&&true))=true),(AI ((k:Int)))]:=by kernel_rfl
theorem Mw (v:ai) (x:aa) (k:Nat) :
    zP Tryz.f72 0 [rg 1,.dec false,rg 1] xj (Ff v x k) [] 1 [] (jI (-1)) =
    some [((decide ((k:Int)<(v.2.1.1:Int)))=false),(AI ((-1)))]:=by kernel_rfl
def kW (g:Nat→aa) (x:aa):Nat→Nat→Int
  | 0,_=>-1
  | d+1,i=>if mL x (g i)=true then (i:Int) else kW g x d (i+1)
theorem uh (g:Nat→aa) (x:aa):∀ d i,kW g x d i = -1∨((i:Int)≤kW g x d i∧kW g x d i<i+d∧mL x (g (kW g x d i).toNat)=true)
  | 0,_=>.inl rfl
  | d+1,i=>by
    simp only [kW]
    split
    · rename_i h;right;exact ⟨Int.le_refl _,by omega,by rw [Int.toNat_natCast];exact h⟩
    · rcases uh g x d (i+1) with h | ⟨h1,h2,h3⟩
      · exact .inl h
      · exact .inr ⟨by omega,by omega,h3⟩
theorem Cy {x y:aa} (h:mL x y=true):x=y:=by
  obtain ⟨a,b,⟨⟩⟩:=x
  obtain ⟨c,d,⟨⟩⟩:=y
  simp only [mL,Bool.and_eq_true,beq_iff_eq] at h
  rw [h.1,h.2.1]
theorem mM (v:ai) (x:aa) (hn:v.2.1.1≤1048576):zE 72 [cJ v.2.1,.agg [.p (.int .i64 x.1),.p (.int .i64 x.2.1)]] [] (.p (.int .i64 (kW v.2.1.2 x v.2.1.1 0))):=by
  refine aW Tryz.func72 (fun c hc=>?_)
  have lo:∀ d k,k+d=v.2.1.1→zR c 72 xj (Ff v x k) (aS c [] (.p (.int .i64 (kW v.2.1.2 x d k)))):=by
    intro d
    induction d with
    | zero =>
      intro k hk
      have hd:decide ((k:Int)<(v.2.1.1:Int))=false:=decide_eq_false (by omega)
      refine be Tryz.func72 hc (Mw v x k) ?_
      and_intros
      all_goals (first | exact zN | (exact hd))
    | succ d ih =>
      intro k hk
      have hd:decide ((k:Int)<(v.2.1.1:Int))=true:=decide_eq_true (by omega)
      simp only [kW]
      by_cases h:mL x (v.2.1.2 k)=true
      · rw [if_pos h]
        refine be Tryz.func72 hc (NA v x k) ?_
        and_intros
        all_goals (first | exact zN | (exact hd) | (exact h))
      · rw [if_neg h]
        have h':mL x (v.2.1.2 k)=false:=by simpa using h
        refine a9 hc (LK v x k) ?_ (ih (k+1) (by omega))
        and_intros
        all_goals (first | exact zN | (exact hd) | (exact h') | (intros;simp [af];done))
  refine a9 hc (OE v x) ?_ (lo v.2.1.1 0 (by omega))
  and_intros
  all_goals (first | exact zN | (intros;simp [af];done))
def lw (s:ap):AV:=.agg [.p (.int .i64 s.1),.p (.int .i64 s.2.1),.p (.int .i64 s.2.2.1),.p (.int .i64 s.2.2.2.1),.p (.int .i64 s.2.2.2.2.1)]
def Bv (n:Nat) (h f:Nat→aa) (s:Nat):aa:=(if s<n then (h s).1 else (f (s - n)).1,if s<n then (h s).2.1 else (f (s - n)).2.1,())
theorem FN (g:Nat→aa) (nb N:Nat) (s:ap) :
    zS Tryz.f70 [rg 4,rm [(1,oc [] (jB true))] 7,.dec true,rm [(1,oc [(0,aj nb g)] (.agg [jI N,.ar 2 0 0 nb]))] 2] [bi g nb N,lw s] [448] [(0,aj nb g)] ((jE N nb)) =
    some [(NT 0 1),zE 23 [(ak N nb g)] [] (jB true),(AG (!!true)),(((!!true)=true)→(NT 0 1)),(AG (!!true)),(AG (!!true)),(((!true)=false)→((!!true)=true)),((bif !true then true else decide ((nb:Int)>21))=true),(NT 0 1),zE 24 [(ak N nb g)] (bg nb g) (.agg [jI (N:Int),.ar 2 0 0 nb]),(NT 0 1),((true=true)→(AN 1)),(NT 0 1),(AI ((N:Int))),(AN 0),(AN nb),(false=false),(AN 2),(NL nb nb),(AA nb (fun i=>[.p (.int .i64 ((g i).1)),.p (.int .i64 ((g i).2.1))])),(AE nb)]:=by kernel_rfl
theorem D2 (g:Nat→aa) (nb N:Nat) (s:ap) :
    zS Tryz.f70 [rg 4,rm [(1,oc [] (jB true))] 7,.dec false,rg 2,rg 2,.dec true,rm [(15,gF),(0,gF),(0,gF),(0,gF),(0,gF),(0,gF),(0,gF),(0,gF)] 0,.dec false,rm [(1,oc [(0,aj nb g)] (.agg [jI N,.ar 2 0 0 nb]))] 2] [bi g nb N,lw s] [1312] [(0,aj nb g)] ((jE N nb)) =
    some (zD (let B:Bool:=(nb:Int)==0;let A:Bool:=bif B then s.2.1==0 else false;[(NT 0 1),zE 23 [(ak N nb g)] [] (jB true),(AG (!!true)),(((!!true)=true)→(NT 0 1)),(((!true)=false)→((!!true)=true)),((bif !true then true else decide ((nb:Int)>21))=false),((s.1==0)=true),(AG B),((B=true)→(NT 0 1)),(AG A),((A=true)→(NT 0 1)),((bif A then s.2.2.2.2.1==0 else false)=false),(false=false),zE 24 [(ak N nb g)] (bg nb g) (.agg [jI (N:Int),.ar 2 0 0 nb]),((true=true)→(AN 1)),(AI ((N:Int))),(AN 0),(AN nb),(AN 2),(NL nb nb),(AA nb (fun i=>[.p (.int .i64 ((g i).1)),.p (.int .i64 ((g i).2.1))])),(AE nb)]) [0,1,2,3,2,2,4,5,0,6,0,7,8,7,7,9,10,9,9,11,11,11,11,11,11,11,11,12,0,13,0,14,0,15,16,17,12,18,19,20,21]):=by kernel_rfl
theorem DL (g:Nat→aa) (nb N:Nat) (s:ap) (d:Bool) :
    zS Tryz.f70 [rg 4,rm [(1,oc [] (jB true))] 7,.dec false,rg 2,rg 2,.dec true,rm [(15,gT),(0,gT),(0,gT),(0,gT),(0,gT),(0,gT),(0,⟨true,(some ⟨[],[],[],1,[],jB d⟩),some true⟩),(0,gT)] 0,.dec false,rm [(1,oc [(0,aj nb g)] (.agg [jI N,.ar 2 0 0 nb]))] 2] [bi g nb N,lw s] [1312] [(0,aj nb g)] ((jE N nb)) =
    some (zD (let B:Bool:=(nb:Int)==0;let A:Bool:=bif B then s.2.1==0 else false;[(NT 0 1),zE 23 [(ak N nb g)] [] (jB true),(AG (!!true)),(((!!true)=true)→(NT 0 1)),(((!true)=false)→((!!true)=true)),((bif !true then true else decide ((nb:Int)>21))=false),((s.1==0)=true),(AG B),((B=true)→(NT 0 1)),(AG A),((A=true)→(NT 0 1)),((bif A then s.2.2.2.2.1==0 else false)=true),(AN 1),(NL 2 2),zE 36 [(ak N nb g),.p (.seq true 1 2 (fun i=>[(bG true [(List.getD ([.p (.int .i64 s.2.2.1),.p (.int .i64 s.2.2.2.1)]:List AV) (bk 2 i*1) (.p .any))] 0)]))] [] (jB d),(d=false),zE 24 [(ak N nb g)] (bg nb g) (.agg [jI (N:Int),.ar 2 0 0 nb]),((true=true)→(AN 1)),(AI ((N:Int))),(AN 0),(AN nb),(false=false),(AN 2),(NL nb nb),(AA nb (fun i=>[.p (.int .i64 ((g i).1)),.p (.int .i64 ((g i).2.1))])),(AE nb)]) [0,1,2,3,2,2,4,5,0,6,0,7,8,7,7,9,10,9,9,11,0,11,11,0,11,11,0,11,11,12,13,14,11,15,0,16,0,17,0,18,19,20,21,22,23,24,25]):=by kernel_rfl
theorem Do (g:Nat→aa) (nb N:Nat) (s:ap) (d:Bool) (r:Nat→aa) :
    zS Tryz.f70 [rg 4,rm [(1,oc [] (jB true))] 7,.dec false,rg 2,rg 2,.dec true,rm [(5,gT),(0,gT),(0,gT),(0,gT),(1,gT),(0,gT),(0,gT),(0,gT),(1,gT),(0,gT),(0,gT),(0,gT),(0,gT),(0,gT),(0,⟨true,(some ⟨[],[],[],1,[],jB d⟩),some true⟩),(0,gT)] 0,.dec true,rm [(5,oc [] (.agg [jI ((aD s.2.2.1 s.2.2.2.1).1),jI ((aD s.2.2.1 s.2.2.2.1).2.1)])),(1,oc [(0,aj (nb+1) r)] (.agg [jI N,.ar 2 0 0 (nb+1)]))] 2] [bi g nb N,lw s] [1504] [(0,aj (nb+1) r)] (.tup [.agg [jI N,.ar 2 0 0 (nb+1)],jB true]) =
    some (zD [(NT 0 1),zE 23 [(ak N nb g)] [] (jB true),(AG (!!true)),(((!!true)=true)→(NT 0 1)),(((!true)=false)→((!!true)=true)),((bif !true then true else decide ((nb:Int)>21))=false),((s.1==0)=true),(((nb:Int)==0)=true),((s.2.1==0)=true),((s.2.2.2.2.1==0)=true),(AN 1),(NL 2 2),zE 36 [(ak N nb g),.p (.seq true 1 2 (fun i=>[(bG true [(List.getD ([.p (.int .i64 s.2.2.1),.p (.int .i64 s.2.2.2.1)]:List AV) (bk 2 i*1) (.p .any))] 0)]))] [] (jB d),(d=true),zE 96 [jI s.2.2.1,jI s.2.2.2.1] [] ((vk s)),(AN 2),(NL 1 1),zE 95 [(ak N nb g),.p (.seq true 2 1 (fun i=>[.int .i64 (if s.2.2.2.1<s.2.2.1 then s.2.2.2.1 else s.2.2.1),.int .i64 (if s.2.2.2.1>s.2.2.1 then s.2.2.2.1 else s.2.2.1)]))] (iT nb r) (.agg [jI (N:Int),.ar 2 0 0 (nb+1)]),((true=true)→(AN 1)),(AI ((N:Int))),(AN 0),(AN ((nb+1))),(true=true),(NL (nb+1) (nb+1)),(AA ((nb+1)) (fun i=>[.p (.int .i64 ((r i).1)),.p (.int .i64 ((r i).2.1))])),(AE ((nb+1)))] [0,1,2,3,2,2,4,5,0,6,0,7,7,0,7,7,8,8,0,8,8,9,0,9,9,0,9,9,0,9,9,10,11,12,9,13,0,0,0,14,15,16,17,0,18,0,19,20,21,22,15,23,24,25]):=by kernel_rfl
theorem DP (g:Nat→aa) (nb N:Nat) (s:ap) :
    zS Tryz.f70 [rg 4,rm [(1,oc [] (jB true))] 7,.dec false,rg 2,rg 2,.dec false,rg 2,.dec true,rm [(4,gF),(0,gF),(0,gF),(0,gF),(0,gF),(0,gF),(0,gF),(0,gF),(0,gF),(0,gF),(1,gF),(0,gF),(0,gF),(0,gF),(0,gF),(0,gF),(1,gF),(0,gF),(0,gF),(0,gF),(0,gF),(0,gF),(1,gF),(0,gF),(0,gF),(0,gF),(0,gF),(0,gF)] 0,.dec false,rm [(1,oc [(0,aj nb g)] (.agg [jI N,.ar 2 0 0 nb]))] 2] [bi g nb N,lw s] [1760] [(0,aj nb g)] ((jE N nb)) =
    some (zD [(NT 0 1),zE 23 [(ak N nb g)] [] (jB true),(AG (!!true)),(((!!true)=true)→(NT 0 1)),(((!true)=false)→((!!true)=true)),((bif !true then true else decide ((nb:Int)>21))=false),((s.1==0)=false),((s.1==1)=true),((s.2.2.2.2.1==0)=false),(false=false),zE 24 [(ak N nb g)] (bg nb g) (.agg [jI (N:Int),.ar 2 0 0 nb]),((true=true)→(AN 1)),(AI ((N:Int))),(AN 0),(AN nb),(AN 2),(NL nb nb),(AA nb (fun i=>[.p (.int .i64 ((g i).1)),.p (.int .i64 ((g i).2.1))])),(AE nb)] [0,1,2,3,2,2,4,5,0,6,7,0,8,8,8,8,8,8,8,8,8,8,9,9,9,9,9,9,9,9,9,9,9,9,9,9,9,9,9,9,9,0,10,0,11,0,12,13,14,9,15,16,17,18]):=by kernel_rfl
theorem D4 (g:Nat→aa) (nb N:Nat) (s:ap) (d:Bool) (x y z:Int) :
    zS Tryz.f70 [rg 4,rm [(1,oc [] (jB true))] 7,.dec false,rg 2,rg 2,.dec false,rg 2,.dec true,rm [(4,gT),(0,gT),(0,gT),(0,gT),(0,gT),(0,gT),(0,gT),(0,gT),(0,⟨true,(some ⟨[],[],[],1,[],jB d⟩),some true⟩),(0,gT),(4,oc [] (jI x)),(6,oc [] (jI y)),(6,oc [] (jI z))] 2,.dec false,rm [(1,oc [(0,aj nb g)] (.agg [jI N,.ar 2 0 0 nb]))] 2] [bi g nb N,lw s] [1760] [(0,aj nb g)] ((jE N nb)) =
    some (zD (let B:Bool:=bif d then x==0 else false;let A:Bool:=bif B then decide (y>0) else false;[(NT 0 1),zE 23 [(ak N nb g)] [] (jB true),(AG (!!true)),(((!!true)=true)→(NT 0 1)),(((!true)=false)→((!!true)=true)),((bif !true then true else decide ((nb:Int)>21))=false),((s.1==0)=false),((s.1==1)=true),((s.2.2.2.2.1==0)=true),(AN 1),(NL 3 3),zE 36 [(ak N nb g),.p (.seq true 1 3 (fun i=>[(bG true [(List.getD ([.p (.int .i64 s.2.1),.p (.int .i64 s.2.2.1),.p (.int .i64 s.2.2.2.1)]:List AV) (bk 3 i*1) (.p .any))] 0)]))] [] (jB d),((d=true)→(NT 0 1)),(AG d),((d=true)→zE 101 [(ak N nb g),jI s.2.1] [] (jI x)),((B=true)→(NT 0 1)),(AG B),((B=true)→zE 101 [(ak N nb g),jI s.2.2.1] [] (jI y)),((A=true)→(NT 0 1)),(AG A),((A=true)→zE 101 [(ak N nb g),jI s.2.2.2.1] [] (jI z)),((bif A then decide (z>0) else false)=false),zE 24 [(ak N nb g)] (bg nb g) (.agg [jI (N:Int),.ar 2 0 0 nb]),((true=true)→(AN 1)),(AI ((N:Int))),(AN 0),(AN nb),(false=false),(AN 2),(NL nb nb),(AA nb (fun i=>[.p (.int .i64 ((g i).1)),.p (.int .i64 ((g i).2.1))])),(AE nb)]) [0,1,2,3,2,2,4,5,0,6,7,0,8,0,8,8,0,8,8,0,8,8,0,8,8,9,10,11,8,12,13,12,13,13,14,13,13,15,16,15,16,16,17,16,16,18,19,18,19,19,20,19,19,21,0,22,0,23,0,24,25,26,27,28,29,30,31]):=by kernel_rfl
theorem ED (g:Nat→aa) (nb N:Nat) (s:ap) (d:Bool) (x y z:Int) (r:Nat→aa) :
    zS Tryz.f70 [rg 4,rm [(1,oc [] (jB true))] 7,.dec false,rg 2,rg 2,.dec false,rg 2,.dec true,rm [(4,gT),(0,gT),(0,gT),(0,gT),(0,gT),(0,gT),(0,gT),(0,gT),(0,⟨true,(some ⟨[],[],[],1,[],jB d⟩),some true⟩),(0,gT),(1,gT),(0,gT),(0,gT),(0,⟨true,(some ⟨[],[],[],1,[],jI x⟩),some true⟩),(0,gT),(0,gT),(1,gT),(0,gT),(0,gT),(0,⟨true,(some ⟨[],[],[],1,[],jI y⟩),some true⟩),(0,gT),(0,gT),(1,gT),(0,gT),(0,gT),(0,⟨true,(some ⟨[],[],[],1,[],jI z⟩),some true⟩),(0,gT),(0,gT)] 0,.dec true,rm [(5,oc [] (.agg [jI ((aD s.2.1 s.2.2.1).1),jI ((aD s.2.1 s.2.2.1).2.1)])),(4,oc [] (.agg [jI ((aD s.2.1 s.2.2.2.1).1),jI ((aD s.2.1 s.2.2.2.1).2.1)])),(1,oc [(0,aj (nb+2) r)] (.agg [jI N,.ar 2 0 0 (nb+2)]))] 2] [bi g nb N,lw s] [2112] [(0,aj (nb+2) r)] (.tup [.agg [jI N,.ar 2 0 0 (nb+2)],jB true]) =
    some (zD [(NT 0 1),zE 23 [(ak N nb g)] [] (jB true),(AG (!!true)),(((!!true)=true)→(NT 0 1)),(((!true)=false)→((!!true)=true)),((bif !true then true else decide ((nb:Int)>21))=false),((s.1==0)=false),((s.1==1)=true),((s.2.2.2.2.1==0)=true),(AN 1),(NL 3 3),zE 36 [(ak N nb g),.p (.seq true 1 3 (fun i=>[(bG true [(List.getD ([.p (.int .i64 s.2.1),.p (.int .i64 s.2.2.1),.p (.int .i64 s.2.2.2.1)]:List AV) (bk 3 i*1) (.p .any))] 0)]))] [] (jB d),(d=true),zE 101 [(ak N nb g),jI s.2.1] [] (jI x),((x==0)=true),zE 101 [(ak N nb g),jI s.2.2.1] [] (jI y),((decide (y>0))=true),zE 101 [(ak N nb g),jI s.2.2.2.1] [] (jI z),((decide (z>0))=true),zE 96 [jI s.2.1,jI s.2.2.1] [] (.agg [jI (if s.2.2.1<s.2.1 then s.2.2.1 else s.2.1),jI (if s.2.2.1>s.2.1 then s.2.2.1 else s.2.1)]),zE 96 [jI s.2.1,jI s.2.2.2.1] [] (.agg [jI (if s.2.2.2.1<s.2.1 then s.2.2.2.1 else s.2.1),jI (if s.2.2.2.1>s.2.1 then s.2.2.2.1 else s.2.1)]),(AN 2),(NL 2 2),zE 95 [(ak N nb g),.p (.seq true 2 2 (fun i=>[(bG true [(List.getD ([.p (.int .i64 (if s.2.2.1<s.2.1 then s.2.2.1 else s.2.1)),.p (.int .i64 (if s.2.2.1>s.2.1 then s.2.2.1 else s.2.1)),.p (.int .i64 (if s.2.2.2.1<s.2.1 then s.2.2.2.1 else s.2.1)),.p (.int .i64 (if s.2.2.2.1>s.2.1 then s.2.2.2.1 else s.2.1))]:List AV) (bk 2 i*2) (.p .any)),(List.getD ([.p (.int .i64 (if s.2.2.1<s.2.1 then s.2.2.1 else s.2.1)),.p (.int .i64 (if s.2.2.1>s.2.1 then s.2.2.1 else s.2.1)),.p (.int .i64 (if s.2.2.2.1<s.2.1 then s.2.2.2.1 else s.2.1)),.p (.int .i64 (if s.2.2.2.1>s.2.1 then s.2.2.2.1 else s.2.1))]:List AV) (bk 2 i*2+1) (.p .any))] 0),(bG true [(List.getD ([.p (.int .i64 (if s.2.2.1<s.2.1 then s.2.2.1 else s.2.1)),.p (.int .i64 (if s.2.2.1>s.2.1 then s.2.2.1 else s.2.1)),.p (.int .i64 (if s.2.2.2.1<s.2.1 then s.2.2.2.1 else s.2.1)),.p (.int .i64 (if s.2.2.2.1>s.2.1 then s.2.2.2.1 else s.2.1))]:List AV) (bk 2 i*2) (.p .any)),(List.getD ([.p (.int .i64 (if s.2.2.1<s.2.1 then s.2.2.1 else s.2.1)),.p (.int .i64 (if s.2.2.1>s.2.1 then s.2.2.1 else s.2.1)),.p (.int .i64 (if s.2.2.2.1<s.2.1 then s.2.2.2.1 else s.2.1)),.p (.int .i64 (if s.2.2.2.1>s.2.1 then s.2.2.2.1 else s.2.1))]:List AV) (bk 2 i*2+1) (.p .any))] 1)]))] [(0,⟨false,2,(nb+2),(fun i=>[.p (.int .i64 ((r i).1)),.p (.int .i64 ((r i).2.1))])⟩)] (.agg [jI (N:Int),.ar 2 0 0 (nb+2)]),((true=true)→(AN 1)),(AI ((N:Int))),(AN 0),(AN ((nb+2))),(true=true),(NL (nb+2) (nb+2)),(AA ((nb+2)) (fun i=>[.p (.int .i64 ((r i).1)),.p (.int .i64 ((r i).2.1))])),(AE ((nb+2)))] [0,1,2,3,2,2,4,5,0,6,7,0,8,0,8,8,0,8,8,0,8,8,0,8,8,9,10,11,8,12,0,12,12,0,12,13,12,12,14,0,14,14,0,14,15,14,14,16,0,16,16,0,16,17,16,16,18,0,0,0,19,0,0,20,21,22,23,0,24,0,25,26,27,28,21,29,30,31]):=by kernel_rfl
theorem Er (g:Nat→aa) (nb N:Nat) (s:ap) (k:Int) :
    zS Tryz.f70 [rg 4,rm [(1,oc [] (jB true))] 7,.dec false,rg 2,rg 2,.dec false,rg 2,.dec false,rg 2,.dec true,rm [(6,oc [] (.agg [jI ((aD s.2.2.1 s.2.2.2.1).1),jI ((aD s.2.2.1 s.2.2.2.1).2.1)])),(0,oc [] (jI k))] 1,rm [(3,gF),(0,gF),(0,gF),(0,gF),(0,gF),(0,gF),(0,gF),(0,gF),(0,gF),(0,gF),(0,gF),(0,gF),(1,gF),(0,gF),(0,gF),(0,gF),(0,gF),(0,gF),(1,gF),(0,gF),(0,gF),(0,gF),(0,gF),(0,gF)] 0,.dec false,rm [(1,oc [(0,aj nb g)] (.agg [jI N,.ar 2 0 0 nb]))] 2] [bi g nb N,lw s] [1920] [(0,aj nb g)] ((jE N nb)) =
    some (zD [(NT 0 1),zE 23 [(ak N nb g)] [] (jB true),(AG (!!true)),(((!!true)=true)→(NT 0 1)),(((!true)=false)→((!!true)=true)),((bif !true then true else decide ((nb:Int)>21))=false),((s.1==0)=false),((s.1==1)=false),((s.1==2)=true),zE 96 [jI s.2.2.1,jI s.2.2.2.1] [] ((vk s)),zE 72 [.p (.seq true 2 nb (aF g)),(vk s)] [] (jI k),((decide (k≥0))=false),(false=false),zE 24 [(ak N nb g)] (bg nb g) (.agg [jI (N:Int),.ar 2 0 0 nb]),((true=true)→(AN 1)),(AI ((N:Int))),(AN 0),(AN nb),(AN 2),(NL nb nb),(AA nb (fun i=>[.p (.int .i64 ((g i).1)),.p (.int .i64 ((g i).2.1))])),(AE nb)] [0,1,2,3,2,2,4,5,0,6,7,8,0,0,0,9,10,11,11,11,11,11,11,11,11,11,11,11,11,12,12,12,12,12,12,12,12,12,12,12,12,12,0,13,0,14,0,15,16,17,12,18,19,20,21]):=by kernel_rfl
theorem Dw (g:Nat→aa) (nb N:Nat) (s:ap) (k:Int) (d:Bool) (x y:Int) :
    zS Tryz.f70 [rg 4,rm [(1,oc [] (jB true))] 7,.dec false,rg 2,rg 2,.dec false,rg 2,.dec false,rg 2,.dec true,rm [(6,oc [] (.agg [jI ((aD s.2.2.1 s.2.2.2.1).1),jI ((aD s.2.2.1 s.2.2.2.1).2.1)])),(0,oc [] (jI k))] 1,rm [(3,gT),(0,gT),(0,gT),(0,gT),(0,gT),(0,gT),(0,gT),(0,gT),(0,gT),(0,gT),(0,⟨true,(some ⟨[],[],[],1,[],jB d⟩),some true⟩),(0,gT),(4,oc [] (jI x)),(6,oc [] (jI y))] 2,.dec false,rm [(1,oc [(0,aj nb g)] (.agg [jI N,.ar 2 0 0 nb]))] 2] [bi g nb N,lw s] [1920] [(0,aj nb g)] ((jE N nb)) =
    some (zD (let A:Bool:=bif d then x==0 else false;[(NT 0 1),zE 23 [(ak N nb g)] [] (jB true),(AG (!!true)),(((!!true)=true)→(NT 0 1)),(((!true)=false)→((!!true)=true)),((bif !true then true else decide ((nb:Int)>21))=false),((s.1==0)=false),((s.1==1)=false),((s.1==2)=true),zE 96 [jI s.2.2.1,jI s.2.2.2.1] [] ((vk s)),zE 72 [.p (.seq true 2 nb (aF g)),(vk s)] [] (jI k),((decide (k≥0))=true),(AN 1),(NL 4 4),zE 36 [(ak N nb g),.p (.seq true 1 4 (fun i=>[(bG true [(List.getD ([.p (.int .i64 s.2.1),.p (.int .i64 s.2.2.1),.p (.int .i64 s.2.2.2.1),.p (.int .i64 s.2.2.2.2.1)]:List AV) (bk 4 i*1) (.p .any))] 0)]))] [] (jB d),((d=true)→(NT 0 1)),(AG d),((d=true)→zE 101 [(ak N nb g),jI s.2.1] [] (jI x)),((A=true)→(NT 0 1)),(AG A),((A=true)→zE 101 [(ak N nb g),jI s.2.2.2.2.1] [] (jI y)),((bif A then decide (y>0) else false)=false),zE 24 [(ak N nb g)] (bg nb g) (.agg [jI (N:Int),.ar 2 0 0 nb]),((true=true)→(AN 1)),(AI ((N:Int))),(AN 0),(AN nb),(false=false),(AN 2),(NL nb nb),(AA nb (fun i=>[.p (.int .i64 ((g i).1)),.p (.int .i64 ((g i).2.1))])),(AE nb)]) [0,1,2,3,2,2,4,5,0,6,7,8,0,0,0,9,10,11,0,11,11,0,11,11,0,11,11,0,11,11,0,11,11,12,13,14,11,15,16,15,16,16,17,16,16,18,19,18,19,19,20,19,19,21,0,22,0,23,0,24,25,26,27,28,29,30,31]):=by kernel_rfl
theorem Dz (g:Nat→aa) (nb N:Nat) (s:ap) (k:Int) (d:Bool) (x y:Int) (m:Nat) (h r:Nat→aa) :
    zS Tryz.f70 [rg 4,rm [(1,oc [] (jB true))] 7,.dec false,rg 2,rg 2,.dec false,rg 2,.dec false,rg 2,.dec true,rm [(6,oc [] (.agg [jI ((aD s.2.2.1 s.2.2.2.1).1),jI ((aD s.2.2.1 s.2.2.2.1).2.1)])),(0,oc [] (jI k))] 1,rm [(3,gT),(0,gT),(0,gT),(0,gT),(0,gT),(0,gT),(0,gT),(0,gT),(0,gT),(0,gT),(0,⟨true,(some ⟨[],[],[],1,[],jB d⟩),some true⟩),(0,gT),(1,gT),(0,gT),(0,gT),(0,⟨true,(some ⟨[],[],[],1,[],jI x⟩),some true⟩),(0,gT),(0,gT),(1,gT),(0,gT),(0,gT),(0,⟨true,(some ⟨[],[],[],1,[],jI y⟩),some true⟩),(0,gT),(0,gT)] 0,.dec true,rm [(2,oc [(0,aj m h)] (.tup [.agg [jI N,.ar 2 0 0 m],jB true]))] 6,rm [(5,oc [] (.agg [jI ((aD s.2.1 s.2.2.1).1),jI ((aD s.2.1 s.2.2.1).2.1)])),(4,oc [] (.agg [jI ((aD s.2.1 s.2.2.2.1).1),jI ((aD s.2.1 s.2.2.2.1).2.1)])),(4,oc [] (.agg [jI ((aD s.2.1 s.2.2.2.2.1).1),jI ((aD s.2.1 s.2.2.2.2.1).2.1)])),(1,oc [(0,aj (m+3) r)] (.agg [jI N,.ar 2 0 0 (m+3)]))] 2] [bi g nb N,lw s] [2720] [(0,aj (m+3) r)] (.tup [.agg [jI N,.ar 2 0 0 (m+3)],jB true]) =
    some (zD [(NT 0 1),zE 23 [(ak N nb g)] [] (jB true),(AG (!!true)),(((!!true)=true)→(NT 0 1)),(((!true)=false)→((!!true)=true)),((bif !true then true else decide ((nb:Int)>21))=false),((s.1==0)=false),((s.1==1)=false),((s.1==2)=true),zE 96 [jI s.2.2.1,jI s.2.2.2.1] [] ((vk s)),zE 72 [.p (.seq true 2 nb (aF g)),(vk s)] [] (jI k),((decide (k≥0))=true),(AN 1),(NL 4 4),zE 36 [(ak N nb g),.p (.seq true 1 4 (fun i=>[(bG true [(List.getD ([.p (.int .i64 s.2.1),.p (.int .i64 s.2.2.1),.p (.int .i64 s.2.2.2.1),.p (.int .i64 s.2.2.2.2.1)]:List AV) (bk 4 i*1) (.p .any))] 0)]))] [] (jB d),(d=true),zE 101 [(ak N nb g),jI s.2.1] [] (jI x),((x==0)=true),zE 101 [(ak N nb g),jI s.2.2.2.2.1] [] (jI y),((decide (y>0))=true),zE 102 [(ak N nb g),jI k] (bg m h) (.tup [.agg [jI (N:Int),.ar 2 0 0 m],jB true]),((true=true)→(AN 1)),zE 96 [jI s.2.1,jI s.2.2.1] [] (.agg [jI (if s.2.2.1<s.2.1 then s.2.2.1 else s.2.1),jI (if s.2.2.1>s.2.1 then s.2.2.1 else s.2.1)]),zE 96 [jI s.2.1,jI s.2.2.2.1] [] (.agg [jI (if s.2.2.2.1<s.2.1 then s.2.2.2.1 else s.2.1),jI (if s.2.2.2.1>s.2.1 then s.2.2.2.1 else s.2.1)]),zE 96 [jI s.2.1,jI s.2.2.2.2.1] [] (.agg [jI (if s.2.2.2.2.1<s.2.1 then s.2.2.2.2.1 else s.2.1),jI (if s.2.2.2.2.1>s.2.1 then s.2.2.2.2.1 else s.2.1)]),(AN 2),(NL m m),(NL 3 3),zE 95 [(ak N m h),.p (.seq true 2 3 (fun i=>[(bG true [(List.getD ([.p (.int .i64 (if s.2.2.1<s.2.1 then s.2.2.1 else s.2.1)),.p (.int .i64 (if s.2.2.1>s.2.1 then s.2.2.1 else s.2.1)),.p (.int .i64 (if s.2.2.2.1<s.2.1 then s.2.2.2.1 else s.2.1)),.p (.int .i64 (if s.2.2.2.1>s.2.1 then s.2.2.2.1 else s.2.1)),.p (.int .i64 (if s.2.2.2.2.1<s.2.1 then s.2.2.2.2.1 else s.2.1)),.p (.int .i64 (if s.2.2.2.2.1>s.2.1 then s.2.2.2.2.1 else s.2.1))]:List AV) (bk 3 i*2) (.p .any)),(List.getD ([.p (.int .i64 (if s.2.2.1<s.2.1 then s.2.2.1 else s.2.1)),.p (.int .i64 (if s.2.2.1>s.2.1 then s.2.2.1 else s.2.1)),.p (.int .i64 (if s.2.2.2.1<s.2.1 then s.2.2.2.1 else s.2.1)),.p (.int .i64 (if s.2.2.2.1>s.2.1 then s.2.2.2.1 else s.2.1)),.p (.int .i64 (if s.2.2.2.2.1<s.2.1 then s.2.2.2.2.1 else s.2.1)),.p (.int .i64 (if s.2.2.2.2.1>s.2.1 then s.2.2.2.2.1 else s.2.1))]:List AV) (bk 3 i*2+1) (.p .any))] 0),(bG true [(List.getD ([.p (.int .i64 (if s.2.2.1<s.2.1 then s.2.2.1 else s.2.1)),.p (.int .i64 (if s.2.2.1>s.2.1 then s.2.2.1 else s.2.1)),.p (.int .i64 (if s.2.2.2.1<s.2.1 then s.2.2.2.1 else s.2.1)),.p (.int .i64 (if s.2.2.2.1>s.2.1 then s.2.2.2.1 else s.2.1)),.p (.int .i64 (if s.2.2.2.2.1<s.2.1 then s.2.2.2.2.1 else s.2.1)),.p (.int .i64 (if s.2.2.2.2.1>s.2.1 then s.2.2.2.2.1 else s.2.1))]:List AV) (bk 3 i*2) (.p .any)),(List.getD ([.p (.int .i64 (if s.2.2.1<s.2.1 then s.2.2.1 else s.2.1)),.p (.int .i64 (if s.2.2.1>s.2.1 then s.2.2.1 else s.2.1)),.p (.int .i64 (if s.2.2.2.1<s.2.1 then s.2.2.2.1 else s.2.1)),.p (.int .i64 (if s.2.2.2.1>s.2.1 then s.2.2.2.1 else s.2.1)),.p (.int .i64 (if s.2.2.2.2.1<s.2.1 then s.2.2.2.2.1 else s.2.1)),.p (.int .i64 (if s.2.2.2.2.1>s.2.1 then s.2.2.2.2.1 else s.2.1))]:List AV) (bk 3 i*2+1) (.p .any))] 1)]))] [(0,⟨false,2,(m+3),(fun i=>[.p (.int .i64 ((r i).1)),.p (.int .i64 ((r i).2.1))])⟩)] (.agg [jI (N:Int),.ar 2 0 0 (m+3)]),(AI ((N:Int))),(AN 0),(AN ((m+3))),(true=true),(NL (m+3) (m+3)),(AA ((m+3)) (fun i=>[.p (.int .i64 ((r i).1)),.p (.int .i64 ((r i).2.1))])),(AE ((m+3)))] [0,1,2,3,2,2,4,5,0,6,7,8,0,0,0,9,10,11,0,11,11,0,11,11,0,11,11,0,11,11,0,11,11,12,13,14,11,15,0,15,15,0,15,16,15,15,17,0,17,17,0,17,18,17,17,19,0,20,0,21,0,0,0,22,0,0,23,0,0,24,25,26,25,27,28,0,21,0,29,30,31,32,25,33,34,35]):=by kernel_rfl
theorem GO (g:Nat→aa) (nb N:Nat) (s:ap) :
    zS Tryz.f70 [rg 4,rm [(1,oc [] (jB true))] 7,.dec false,rg 2,rg 2,.dec false,rg 2,.dec false,rg 2,.dec false,rm [(1,oc [(0,aj nb g)] (.agg [jI N,.ar 2 0 0 nb]))] 2] [bi g nb N,lw s] [704] [(0,aj nb g)] ((jE N nb)) =
    some [(NT 0 1),zE 23 [(ak N nb g)] [] (jB true),(AG (!!true)),(((!!true)=true)→(NT 0 1)),(AG (!!true)),(AG (!!true)),(((!true)=false)→((!!true)=true)),((bif !true then true else decide ((nb:Int)>21))=false),(NT 0 1),((s.1==0)=false),((s.1==1)=false),((s.1==2)=false),(NT 0 1),zE 24 [(ak N nb g)] (bg nb g) (.agg [jI (N:Int),.ar 2 0 0 nb]),(NT 0 1),((true=true)→(AN 1)),(NT 0 1),(AI ((N:Int))),(AN 0),(AN nb),(false=false),(AN 2),(NL nb nb),(AA nb (fun i=>[.p (.int .i64 ((g i).1)),.p (.int .i64 ((g i).2.1))])),(AE nb)]:=by kernel_rfl
theorem Ot (N n k:Nat) (h f:Nat→aa) :
    zT Tryz.f95 [rg 2,rm [(1,oc [(0,aj n h)] (.agg [jI N,.ar 2 0 0 n]))] 2,rg 6,.head] [bi h n N,.p (.seq true 2 k (fun i=>[.int .i64 (f i).1,.int .i64 (f i).2.1]))] [32,128,288] (Jb N (n+k) (Bv n h f)) =
    some (zu,zD [(NT 0 1),zE 24 [(ak N n h)] (bg n h) (.agg [jI (N:Int),.ar 2 0 0 n]),((true=true)→(AN 1)),(NL n n),(NL ((n+k)*16) 140737488355328),(NL (n+k) 9223372036854775807),(AN 0),((((List.map (fun v=>AV.p (bZ v)) [Value.int IntKind.i64 0,Value.slice none 0 0]).length):Nat)=2),(NL 1 1),(AI 0),(AI ((N:Int))),(AN ((n+k))),(AN 2),(NL (n+k) (n+k)),(CV [(128,⟨true,2,1,(fun i_1=>[.p (.int .i64 (N:Int)),.ar 2 288 0 (n+k)])⟩),(288,⟨false,2,(n+k),(fun i_1=>(if (i_1<n) then [.p (.int .i64 ((h i_1).1)),.p (.int .i64 ((h i_1).2.1))] else [.p (.int .i64 ((f (i_1 - n)).1)),.p (.int .i64 ((f (i_1 - n)).2.1))]))⟩),(32,⟨true,2,1,(fun i_1=>[.p (.int .i64 0),.p (.nil)])⟩),(0,⟨true,2,1,(fun i_1=>[.p (.int .i64 (N:Int)),.p (.seq true 2 n (aF h))])⟩)] [32,128,288] 1 (n+k) (fun i=>if (i<n) then [.p (.int .i64 ((h i).1)),.p (.int .i64 ((h i).2.1))] else [.p (.int .i64 ((f (i - n)).1)),.p (.int .i64 ((f (i - n)).2.1))]) (fun i=>[.p (.int .i64 (if i<n then (h i).1 else (f (i - n)).1)),.p (.int .i64 (if i<n then (h i).2.1 else (f (i - n)).2.1))]))] [0,1,0,2,0,3,4,5,0,2,6,6,7,8,8,9,7,8,8,10,6,11,12,13,14]):=by kernel_rfl
def iA (x:Int):AV:=.p (.int .i64 x)
def JF (n:Nat) (l:List Int):AV:=.p (.seq true 1 n (fun i=>[(bG true [(List.getD (l.map iA) (bk n i*1) (.p .any))] 0)]))
def lO (l:List Int):ad:=(l.length,fun i=>l.getD i 0)
theorem CA (l:List Int) (n i:Nat) (h:bk n i*1<l.length) (hi:bk n i=i):bG true [(List.getD (l.map iA) (bk n i*1) (.p .any))] 0=.int .i64 (l.getD i 0):=by
  rw [Nat.mul_one] at h ⊢
  rw [hi] at h ⊢
  simp [List.getD_eq_getElem?_getD,List.getElem?_eq_getElem h,iA,bG,tg,bu]
theorem tk {P:Program} {f:FuncId} {v:ai} {l:List Int} {n:Nat} {res:AV} (h:Con P f 0 [] [aJ v,eI (lO l)] [] res) (hl:l.length=n):Con P f 0 [] [aJ v,JF n l] [] res:=by
  refine h.arg_ext ?_
  subst hl
  have hcell:∀ i,i<l.length→bG true [(List.getD (l.map iA) (bk l.length i*1) (.p .any))] 0=.int .i64 (l.getD i 0):=fun i hi=>CA l _ i (by rw [fe hi];omega) (fe hi)
  simp only [aJ,JF,lO,eI,pI,wk,CY,beq_self_eq_true,Bool.and_self,if_true,lC,List.append_nil,List.cons_append,List.nil_append,af]
  and_intros<;>first | trivial | omega | (intro i hi;rw [hcell i hi]) | (intro i hi;rfl)
theorem xI (N n k:Nat) (h f:Nat→aa) (hn:n≤1000) (hk:k≤1000) :
    zE 95 [bi h n N,.p (.seq true 2 k (fun i=>[.int .i64 (f i).1,.int .i64 (f i).2.1]))]
      [(0,aj (n+k) (df (n+k) (Bv n h f)))] (.agg [.p (.int .i64 N),.ar 2 0 0 (n+k)]):=by
  have h1:=iD N n h (by omega)
  have h2:=jt (n+k) (Bv n h f) (by omega)
  generalize df (n+k) (Bv n h f)=r at h2 ⊢
  refine aW Tryz.func95 (fun c hc=>?_)
  refine a9 hc (Ot N n k h f) ?_ (be Tryz.func95 hc (JQ N (n+k) (Bv n h f) r) ?_)
  ·
    and_intros
    all_goals (first | exact zI | (exact h1) | (intro j hj;by_cases h':j<n<;>(simp [h',Bv,ay,bh,tg,bu,af];done)) | (intro j hj;simp [af];done) | (simp;try omega))
  ·
    and_intros
    all_goals (first | exact zH | (exact h2) | (intro j hj;simp [af];done) | (simp;try omega))
theorem rh (n:Nat) (h f:Nat→aa):∀ k,al (n+k) (Bv n h f)=al n h++al k f
  | 0=>by
    rw [show al 0 f=[] from rfl,List.append_nil]
    exact mV (fun i hi=>by simp [Bv,show i<n by omega])
  | k+1=>by
    rw [show n+(k+1)=(n+k)+1 by omega,bI,rh n h f k,bI,List.append_assoc]
    simp [Bv,show ¬ (n+k<n) by omega,show n+k - n=k by omega]
def DA (l:List aa):List AV:=l.flatMap (fun x=>[.p (.int .i64 x.1),.p (.int .i64 x.2.1)])
def JZ (k:Nat) (l:List AV):AV :=
  .p (.seq true 2 k (fun i=>[(bG true [(List.getD l (bk k i*2) (.p .any)),(List.getD l (bk k i*2+1) (.p .any))] 0),(bG true [(List.getD l (bk k i*2) (.p .any)),(List.getD l (bk k i*2+1) (.p .any))] 1)]))
theorem mi:∀ (l:List aa) (i:Nat),i<l.length→(DA l).getD (i*2) (.p .any)=.p (.int .i64 (l.getD i (0,0,())).1)∧(DA l).getD (i*2+1) (.p .any)=.p (.int .i64 (l.getD i (0,0,())).2.1)
  | [],i,h=>absurd h (Nat.not_lt_zero _)
  | x::l,0,_=>⟨rfl,rfl⟩
  | x::l,i+1,h=>by
    have:=mi l i (by simpa using h)
    rw [show (i+1)*2=i*2+2 by omega]
    exact this
def sR (l:List aa):NB:=(l.length,fun i=>l.getD i (0,0,()))
theorem j7 (N n k:Nat) (h:Nat→aa) (l:List aa) (hl:l.length=k) (hn:n≤1000) (hk:k≤1000) :
    zE 95 [bi h n N,JZ k (DA l)] [(0,aj (n+k) (sR (bw (al n h++l))).2)] (.agg [.p (.int .i64 N),.ar 2 0 0 (n+k)]):=by
  subst hl
  have hlst:al l.length (fun i=>l.getD i (0,0,()))=l:=by
    refine List.ext_getElem? (fun i=>?_)
    rcases Nat.lt_or_ge i l.length with hi | hi
    · simp [al,hi,List.getD_eq_getElem?_getD]
    · simp [al,hi]
  have e:(sR (bw (al n h++l))).2=df (n+l.length) (Bv n h (fun i=>l.getD i (0,0,()))):=by
    funext i
    simp only [df,sR,rh,hlst]
  rw [e]
  refine (xI N n l.length h (fun i=>l.getD i (0,0,())) hn hk).arg_ext ?_
  simp only [bi,JZ,pI,wk,CY,beq_self_eq_true,Bool.and_self,if_true,lC,List.append_nil,List.cons_append,List.nil_append,af]
  and_intros<;>first | trivial | omega | (intro i hi;rfl) | (intro i hi;rw [fe hi,(mi l i hi).1,(mi l i hi).2];rfl)
theorem mP (l:List aa):al l.length (sR l).2=l:=by
  refine List.ext_getElem? (fun i=>?_)
  rcases Nat.lt_or_ge i l.length with hi | hi
  · simp [al,sR,hi,List.getD_eq_getElem?_getD]
  · simp [al,sR,hi]
theorem l9 {N nb n:Nat} {g R:Nat→aa} {l:List aa} (hN:1≤N∧N≤8) (hn:n≤24) (hR:al n R=bw l)
    (hx:∀ x∈l,0≤x.1∧x.1<x.2.1∧x.2.1<N):ah ((N:Int),(n,R),())=true:=by
  have hmem:∀ e,e<n→R e∈al n R:=fun e he=>List.mem_map.2 ⟨e,List.mem_range.2 he,rfl⟩
  refine sV hN hn (fun e he=>?_) (fun s hs=>?_)
  · have:=hmem e he
    rw [hR] at this
    exact hx _ ((e7 l).mem_iff.1 this)
  · have hp:=kR l
    rw [← hR] at hp
    have:=List.pairwise_iff_getElem.1 hp s (s+1) (by rw [aC];omega) (by rw [aC];omega) (by omega)
    rw [lT]
    simpa [al] using this
noncomputable def vf (N nb:Nat) (g:Nat→aa) (s:ap):Option (List aa) :=
  if s.1=0 then
    if ((nb:Int)=0∧s.2.1=0∧s.2.2.2.2.1=0)∧ek N (lO [s.2.2.1,s.2.2.2.1]).2 2=true then some (bw (al nb g++[aD s.2.2.1 s.2.2.2.1])) else none
  else if s.1=1 then
    if s.2.2.2.2.1=0∧ek N (lO [s.2.1,s.2.2.1,s.2.2.2.1]).2 3=true∧bm g s.2.1 nb=0∧bm g s.2.2.1 nb>0∧bm g s.2.2.2.1 nb>0 then
      some (bw (al nb g++[aD s.2.1 s.2.2.1,aD s.2.1 s.2.2.2.1])) else none
  else if s.1=2 then
    if kW g (aD s.2.2.1 s.2.2.2.1) nb 0≥0∧ek N (lO [s.2.1,s.2.2.1,s.2.2.2.1,s.2.2.2.2.1]).2 4=true∧bm g s.2.1 nb=0∧bm g s.2.2.2.2.1 nb>0 then
      some (bw (al (nb - 1) (ou g (kW g (aD s.2.2.1 s.2.2.2.1) nb 0).toNat)++[aD s.2.1 s.2.2.1,aD s.2.1 s.2.2.2.1,aD s.2.1 s.2.2.2.2.1])) else none
  else none
noncomputable def nS (N nb:Nat) (g:Nat→aa) (s:ap):NB×Bool :=
  if nb≤21 then (match vf N nb g s with | some l=>(sR l,true) | none=>((nb,g),false)) else ((nb,g),false)
def JN (N:Nat) (D:NB×Bool):AV:=.tup [.agg [.p (.int .i64 N),.ar 2 0 0 D.1.1],.p (.bool D.2)]
theorem rQ {N nb:Nat} {g:Nat→aa} (hg:ah ((N:Int),(nb,g),())=true) (s:ap) :
    zE 70 [bi g nb N,lw s] [(0,aj (nS N nb g s).1.1 (nS N nb g s).1.2)] (JN N (nS N nb g s)):=by
  obtain ⟨hN,hnb,hok⟩:=aB hg
  have cg:=aQ ((N:Int),(nb,g),()) (c9 (by show nb≤_;omega))
  rw [hg] at cg
  have cc:=iD N nb g (by omega)
  have hsm:cP a6 ((N:Int),(nb,g),()):=c9 (by show nb≤_;omega)
  have cd:=fun p=>nD ((N:Int),(nb,g),()) p hsm
  have hdb:=fun p=>p9 g p nb
  unfold nS
  by_cases h21:nb≤21
  case neg =>
    rw [if_neg h21]
    have hd:(bif !true then true else decide ((nb:Int)>21))=true:=by simp;omega
    refine aW Tryz.func70 (fun c hc=>?_)
    refine be Tryz.func70 hc (FN g nb N s) ?_
    and_intros
    all_goals (first | exact zH | (exact cg) | (exact cc) | (exact hd) | (intro j hj;simp [af];done) | (simp;done))
  rw [if_pos h21]
  have hd:(bif !true then true else decide ((nb:Int)>21))=false:=by simp;omega
  unfold vf
  by_cases k0:s.1=0
  case pos =>
    have e0:(s.1==0)=true:=by simpa using k0
    rw [if_pos k0]
    have ck:=tk (bJ ((N:Int),(nb,g),()) (lO [s.2.2.1,s.2.2.2.1]) (by show (1:Int)≤N;omega) (by show (N:Int)≤8;omega) (by show 2≤_;omega)) (n:=2) rfl
    have cb:=dT s.2.2.1 s.2.2.2.1
    have cw:=j7 N nb 1 g [aD s.2.2.1 s.2.2.2.1] rfl (by omega) (by omega)
    by_cases hp:(nb:Int)=0∧s.2.1=0∧s.2.2.2.2.1=0
    case neg =>
      have hpf:(bif bif (nb:Int)==0 then s.2.1==0 else false then s.2.2.2.2.1==0 else false)=false:=by
        cases a:((nb:Int)==0) with
        | false=>rfl
        | true =>
          cases b:(s.2.1==0) with
          | false=>rfl
          | true=>exact beq_eq_false_iff_ne.2 (fun c=>hp ⟨beq_iff_eq.1 a,beq_iff_eq.1 b,c⟩)
      rw [if_neg (fun h=>hp h.1)]
      refine aW Tryz.func70 (fun c hc=>?_)
      refine bz Tryz.func70 hc (D2 g nb N s) ?_
      and_intros
      all_goals (first | exact zH | (exact cg) | (exact cc) | (exact hd) | (exact e0) | (exact hpf) | (intro h;exact h) | (intro j hj;simp [af];done) | (simp;done))
    have hpt:(bif bif (nb:Int)==0 then s.2.1==0 else false then s.2.2.2.2.1==0 else false)=true:=by
      rw [beq_iff_eq.2 hp.1,beq_iff_eq.2 hp.2.1,beq_iff_eq.2 hp.2.2];rfl
    have n0:((nb:Int)==0)=true:=beq_iff_eq.2 hp.1
    have p0:(s.2.1==0)=true:=beq_iff_eq.2 hp.2.1
    have c0:(s.2.2.2.2.1==0)=true:=beq_iff_eq.2 hp.2.2
    cases hok2:ek N (lO [s.2.2.1,s.2.2.2.1]).2 2 with
    | false =>
      rw [show ek ((N:Int),(nb,g),()).1 (lO [s.2.2.1,s.2.2.2.1]).2 (lO [s.2.2.1,s.2.2.2.1]).1=false from hok2] at ck
      rw [if_neg (fun h=>Bool.false_ne_true h.2)]
      refine aW Tryz.func70 (fun c hc=>?_)
      refine bz Tryz.func70 hc (DL g nb N s false) ?_
      and_intros
      all_goals (first | exact zH | (exact cg) | (exact cc) | (exact ck) | (exact hd) | (exact e0) | (exact hpt) | (intro h;exact h) | (intro j hj;simp [af];done) | (simp;done))
    | true =>
      rw [show ek ((N:Int),(nb,g),()).1 (lO [s.2.2.1,s.2.2.2.1]).2 (lO [s.2.2.1,s.2.2.2.1]).1=true from hok2] at ck
      rw [if_pos ⟨hp,rfl⟩]
      have hlen:(bw (al nb g++[aD s.2.2.1 s.2.2.2.1])).length=nb+1:=by rw [cB,List.length_append,aC];rfl
      show Con _ _ _ _ _ [(0,aj (bw (al nb g++[aD s.2.2.1 s.2.2.2.1])).length _)] (.tup [.agg [_,.ar 2 0 0 (bw (al nb g++[aD s.2.2.1 s.2.2.2.1])).length],_])
      rw [hlen]
      generalize (sR (bw (al nb g++[aD s.2.2.1 s.2.2.2.1]))).2=r at cw ⊢
      refine aW Tryz.func70 (fun c hc=>?_)
      refine bz Tryz.func70 hc (Do g nb N s true r) ?_
      and_intros
      all_goals (first | exact zH | (exact cg) | (exact ck) | (exact cb) | (exact cw) | (exact hd) | (exact e0) | (exact n0) | (exact p0) | (exact c0) | (intro j hj;simp [af];done) | (simp;done))
  have e0:(s.1==0)=false:=beq_eq_false_iff_ne.2 k0
  rw [if_neg k0]
  by_cases k1:s.1=1
  case pos =>
    have e1:(s.1==1)=true:=beq_iff_eq.2 k1
    rw [if_pos k1]
    have ck:=tk (bJ ((N:Int),(nb,g),()) (lO [s.2.1,s.2.2.1,s.2.2.2.1]) (by show (1:Int)≤N;omega) (by show (N:Int)≤8;omega) (by show 3≤_;omega)) (n:=3) rfl
    have cb1:=dT s.2.1 s.2.2.1
    have cb2:=dT s.2.1 s.2.2.2.1
    have cw:=j7 N nb 2 g [aD s.2.1 s.2.2.1,aD s.2.1 s.2.2.2.1] rfl (by omega) (by omega)
    have cx:=cd s.2.1
    have cy:=cd s.2.2.1
    have cz:=cd s.2.2.2.1
    change Con _ _ _ _ _ _ (.p (.bool (ek N (lO [s.2.1,s.2.2.1,s.2.2.2.1]).2 3))) at ck
    change Con _ _ _ _ _ _ (.p (.int .i64 (bm g s.2.1 nb))) at cx
    change Con _ _ _ _ _ _ (.p (.int .i64 (bm g s.2.2.1 nb))) at cy
    change Con _ _ _ _ _ _ (.p (.int .i64 (bm g s.2.2.2.1 nb))) at cz
    generalize ek N (lO [s.2.1,s.2.2.1,s.2.2.2.1]).2 3=d at ck ⊢
    generalize bm g s.2.1 nb=x at cx ⊢
    generalize bm g s.2.2.1 nb=y at cy ⊢
    generalize bm g s.2.2.2.1 nb=z at cz ⊢
    cases c0:(s.2.2.2.2.1==0) with
    | false =>
      rw [if_neg (fun h=>Bool.false_ne_true (c0.symm.trans (beq_iff_eq.2 h.1)))]
      refine aW Tryz.func70 (fun c hc=>?_)
      refine bz Tryz.func70 hc (DP g nb N s) ?_
      and_intros
      all_goals (first | exact zH | (exact cg) | (exact cc) | (exact hd) | (exact e0) | (exact e1) | (exact c0) | (intro h;exact h) | (intro j hj;simp [af];done) | (simp;done))
    | true =>
      by_cases hq:d=true∧x=0∧y>0∧z>0
      case neg =>
        rw [if_neg (fun h=>hq h.2)]
        have hqf:(bif bif bif d then x==0 else false then decide (y>0) else false then decide (z>0) else false)=false:=by
          cases a:d with
          | false=>rfl
          | true =>
            cases b:(x==0) with
            | false=>rfl
            | true =>
              by_cases y0:y>0
              · rw [decide_eq_true y0]
                exact decide_eq_false (fun z0=>hq ⟨a,beq_iff_eq.1 b,y0,z0⟩)
              · rw [decide_eq_false y0];rfl
        refine aW Tryz.func70 (fun c hc=>?_)
        refine bz Tryz.func70 hc (D4 g nb N s d x y z) ?_
        and_intros
        all_goals (first | exact zH | (exact cg) | (exact cc) | (exact ck) | (intros;exact cx) | (intros;exact cy) | (intros;exact cz) | (exact hd) | (exact e0) | (exact e1) | (exact c0) | (exact hqf) | (intro h;exact h) | (intro j hj;simp [af];done) | (simp;done))
      case pos =>
        obtain ⟨rfl,rfl,y0,z0⟩:=hq
        rw [if_pos ⟨beq_iff_eq.1 c0,rfl,rfl,y0,z0⟩]
        have y1:decide (y>0)=true:=decide_eq_true y0
        have z1:decide (z>0)=true:=decide_eq_true z0
        have hlen:(bw (al nb g++[aD s.2.1 s.2.2.1,aD s.2.1 s.2.2.2.1])).length=nb+2:=by rw [cB,List.length_append,aC];rfl
        show Con _ _ _ _ _ [(0,aj (bw (al nb g++[aD s.2.1 s.2.2.1,aD s.2.1 s.2.2.2.1])).length _)] (.tup [.agg [_,.ar 2 0 0 (bw (al nb g++[aD s.2.1 s.2.2.1,aD s.2.1 s.2.2.2.1])).length],_])
        rw [hlen]
        generalize (sR (bw (al nb g++[aD s.2.1 s.2.2.1,aD s.2.1 s.2.2.2.1]))).2=r at cw ⊢
        refine aW Tryz.func70 (fun c hc=>?_)
        refine bz Tryz.func70 hc (ED g nb N s true 0 y z r) ?_
        and_intros
        all_goals (first | exact zH | (exact cg) | (exact ck) | (exact cx) | (exact cy) | (exact cz) | (exact cb1) | (exact cb2) | (exact cw) | (exact hd) | (exact e0) | (exact e1) | (exact c0) | (exact y1) | (exact z1) | (intro j hj;simp [af];done) | (simp;done))
  have e1:(s.1==1)=false:=beq_eq_false_iff_ne.2 k1
  rw [if_neg k1]
  by_cases k2:s.1=2
  case neg =>
    have e2:(s.1==2)=false:=beq_eq_false_iff_ne.2 k2
    rw [if_neg k2]
    refine aW Tryz.func70 (fun c hc=>?_)
    refine be Tryz.func70 hc (GO g nb N s) ?_
    and_intros
    all_goals (first | exact zH | (exact cg) | (exact cc) | (exact hd) | (exact e0) | (exact e1) | (exact e2) | (intro j hj;simp [af];done) | (simp;done))
  have e2:(s.1==2)=true:=beq_iff_eq.2 k2
  rw [if_pos k2]
  have ck:=tk (bJ ((N:Int),(nb,g),()) (lO [s.2.1,s.2.2.1,s.2.2.2.1,s.2.2.2.2.1]) (by show (1:Int)≤N;omega) (by show (N:Int)≤8;omega) (by show 4≤_;omega)) (n:=4) rfl
  have cb0:=dT s.2.2.1 s.2.2.2.1
  have cb1:=dT s.2.1 s.2.2.1
  have cb2:=dT s.2.1 s.2.2.2.1
  have cb3:=dT s.2.1 s.2.2.2.2.1
  have ci:=mM ((N:Int),(nb,g),()) (aD s.2.2.1 s.2.2.2.1) (by show nb≤_;omega)
  have hin:=uh g (aD s.2.2.1 s.2.2.2.1) nb 0
  have cx:=cd s.2.1
  have cy:=cd s.2.2.2.2.1
  change Con _ _ _ _ _ _ (.p (.bool (ek N (lO [s.2.1,s.2.2.1,s.2.2.2.1,s.2.2.2.2.1]).2 4))) at ck
  change Con _ _ _ _ _ _ (.p (.int .i64 (bm g s.2.1 nb))) at cx
  change Con _ _ _ _ _ _ (.p (.int .i64 (bm g s.2.2.2.2.1 nb))) at cy
  change Con _ _ _ _ _ _ (.p (.int .i64 (kW g (aD s.2.2.1 s.2.2.2.1) nb 0))) at ci
  generalize ek N (lO [s.2.1,s.2.2.1,s.2.2.2.1,s.2.2.2.2.1]).2 4=d at ck ⊢
  generalize bm g s.2.1 nb=x at cx ⊢
  generalize bm g s.2.2.2.2.1 nb=y at cy ⊢
  generalize kW g (aD s.2.2.1 s.2.2.2.1) nb 0=k at ci hin ⊢
  by_cases hk:k≥0
  case neg =>
    have hkf:decide (k≥0)=false:=decide_eq_false hk
    rw [if_neg (fun h=>hk h.1)]
    refine aW Tryz.func70 (fun c hc=>?_)
    refine bz Tryz.func70 hc (Er g nb N s k) ?_
    and_intros
    all_goals (first | exact zH | (exact cg) | (exact cc) | (exact cb0) | (exact ci) | (exact hd) | (exact e0) | (exact e1) | (exact e2) | (exact hkf) | (intro h;exact h) | (intro j hj;simp [af];done) | (simp;done))
  have hkt:decide (k≥0)=true:=decide_eq_true hk
  obtain ⟨e,rfl⟩:=Int.eq_ofNat_of_zero_le hk
  have he:e<nb:=by
    rcases hin with h | ⟨h1,h2,h3⟩
    · exact absurd hk (by rw [h];decide)
    · omega
  by_cases hq:d=true∧x=0∧y>0
  case neg =>
    rw [if_neg (fun h=>hq h.2)]
    have hqf:(bif bif d then x==0 else false then decide (y>0) else false)=false:=by
      cases a:d with
      | false=>rfl
      | true =>
        cases b:(x==0) with
        | false=>rfl
        | true=>exact decide_eq_false (fun y0=>hq ⟨a,beq_iff_eq.1 b,y0⟩)
    refine aW Tryz.func70 (fun c hc=>?_)
    refine bz Tryz.func70 hc (Dw g nb N s (e:Int) d x y) ?_
    and_intros
    all_goals (first | exact zH | (exact cg) | (exact cc) | (exact cb0) | (exact ci) | (exact ck) | (intros;exact cx) | (intros;exact cy) | (exact hd) | (exact e0) | (exact e1) | (exact e2) | (exact hkt) | (exact hqf) | (intro h;exact h) | (intro j hj;simp [af];done) | (simp;done))
  obtain ⟨rfl,rfl,y0⟩:=hq
  have cr:=nN hg e he
  have cw:=j7 N (nb - 1) 3 (ou g e) [aD s.2.1 s.2.2.1,aD s.2.1 s.2.2.2.1,aD s.2.1 s.2.2.2.2.1] rfl (by omega) (by omega)
  rw [if_pos ⟨hk,rfl,rfl,y0⟩]
  have y1:decide (y>0)=true:=decide_eq_true y0
  rw [Int.toNat_natCast]
  have hlen:(bw (al (nb - 1) (ou g e)++[aD s.2.1 s.2.2.1,aD s.2.1 s.2.2.2.1,aD s.2.1 s.2.2.2.2.1])).length=(nb - 1)+3:=by rw [cB,List.length_append,aC];rfl
  show Con _ _ _ _ _ [(0,aj (bw (al (nb - 1) (ou g e)++[aD s.2.1 s.2.2.1,aD s.2.1 s.2.2.2.1,aD s.2.1 s.2.2.2.2.1])).length _)] (.tup [.agg [_,.ar 2 0 0 (bw (al (nb - 1) (ou g e)++[aD s.2.1 s.2.2.1,aD s.2.1 s.2.2.2.1,aD s.2.1 s.2.2.2.2.1])).length],_])
  rw [hlen]
  generalize (sR (bw (al (nb - 1) (ou g e)++[aD s.2.1 s.2.2.1,aD s.2.1 s.2.2.2.1,aD s.2.1 s.2.2.2.2.1]))).2=r at cw ⊢
  refine aW Tryz.func70 (fun c hc=>?_)
  refine bz Tryz.func70 hc (Dz g nb N s (e:Int) true 0 y (nb - 1) (ou g e) r) ?_
  and_intros
  all_goals (first | exact zH | (exact cg) | (exact cb0) | (exact ci) | (exact ck) | (exact cx) | (exact cy) | (exact cr) | (exact cb1) | (exact cb2) | (exact cb3) | (exact cw) | (exact hd) | (exact e0) | (exact e1) | (exact e2) | (exact hkt) | (exact y1) | (intro j hj;simp [af];done) | (simp;done))
def Cv (n:Nat) (S:Nat→ap):AV:=.p (.seq true 5 n (fun i=>[.int .i64 (S i).1,.int .i64 (S i).2.1,.int .i64 (S i).2.2.1,.int .i64 (S i).2.2.2.1,.int .i64 (S i).2.2.2.2.1]))
def IW (N:Nat) (k nb:Nat):Ob:=⟨true,2,1,fun _=>[.p (.int .i64 N),.ar 2 k 0 nb]⟩
def EP (n:Nat) (S:Nat→ap) (N nb:Nat) (g:Nat→aa) (i:Nat):St :=
  ⟨[.p .any,.p .any,.p .any,.p .any,.pt 2 0 0 0,.p .any,.pt 2 1 0 0]++List.replicate 10 ag++[Cv n S,.p (.int .i64 n),.p (.int .i64 i)]++List.replicate 15 ag,[(0,z2),(1,IW N 2 nb),(2,aj nb g)],3⟩
theorem HS (M:Int) (n:Nat) (S:Nat→ap) :
    zS Tryz.f30 [rg 2,rm [(1,oc [] (jB false))] 1,.dec true,rg 3] [jI M,Cv n S] [] [] (wM) =
    some [zE 58 [jI M,jI 1,jI 8] [] (jB false),((!false)=true),(NT 0 1),((true=true)→(AN 1)),(NT 0 1),(AI 0),(AN 0),(false=false)]:=by kernel_rfl
theorem HV (N n:Nat) (S:Nat→ap) (g:Nat→aa) :
    zT Tryz.f30 [rg 2,rm [(1,oc [] (jB true))] 1,.dec false,rg 4,rg 3,.head] [jI N,Cv n S] [0,224] (EP n S N 0 g 0) =
    some (xR,zD [zE 58 [jI (N:Int),jI 1,jI 8] [] (jB true),((!true)=false),(NT 0 1),((true=true)→(AN 1)),(AN 0),(AN n),(AP n (fun i=>[.int .i64 ((S i).1),.int .i64 ((S i).2.1),.int .i64 ((S i).2.2.1),.int .i64 ((S i).2.2.2.1),.int .i64 ((S i).2.2.2.2.1)])),(AI ((n:Int))),((0:Int)=(↑0:Int)),((((List.map (fun v=>AV.p (bZ v)) [Value.int IntKind.i64 0,Value.slice none 0 0]).length):Nat)=2),(NL 1 1),(AI 0),(AI ((N:Int)))] [0,1,2,3,4,4,5,6,7,8,9,10,10,11,9,10,10,12,4,4]):=by kernel_rfl
theorem Iq (n:Nat) (S:Nat→ap) (N nb:Nat) (g:Nat→aa) (i m:Nat) (h:Nat→aa) :
    zP Tryz.f30 0 [rg 1,.dec true,rg 4,rm [(2,oc [(0,aj m h)] (jE N m))] 6,rg 2,.dec true,rg 3] xR (EP n S N nb g i) [] 1 [] (wM) =
    some (zD [((decide ((i:Int)<(n:Int)))=true),(IL 0 (i:Int)),(IT (i:Int) (n:Int)),(NT 0 1),((true=true)→(AN 1)),(AN 2),(NL nb nb),zE 70 [(za N nb g),(Gl S i)] [(0,⟨false,2,m,(fun i_1=>[.p (.int .i64 ((h i_1).1)),.p (.int .i64 ((h i_1).2.1))])⟩)] (.tup [.agg [jI (N:Int),.ar 2 0 0 m],jB false]),((!false)=true),(AI 0),(AN 0),(false=false)] [0,1,2,3,4,3,3,5,6,7,3,4,8,3,4,3,9,10,11]):=by kernel_rfl
theorem Hb (n:Nat) (S:Nat→ap) (N nb:Nat) (g:Nat→aa) (i m:Nat) (h:Nat→aa) :
    zM 0 [rg 1,.dec true,rg 4,rm [(2,oc [(0,aj m h)] (.tup [.agg [jI N,.ar 2 0 0 m],jB true]))] 6,rg 2,.dec false,rg 2,rg 2,.head] xR (EP n S N nb g i) [0,1,227] 1 (EP n S N m h (i+1)) =
    some (xR,zD [((decide ((i:Int)<(n:Int)))=true),(IL 0 (i:Int)),(IT (i:Int) (n:Int)),(NT 0 1),((true=true)→(AN 1)),(AN 2),(NL nb nb),zE 70 [(za N nb g),(Gl S i)] [(0,⟨false,2,m,(fun i_1=>[.p (.int .i64 ((h i_1).1)),.p (.int .i64 ((h i_1).2.1))])⟩)] (.tup [.agg [jI (N:Int),.ar 2 0 0 m],jB true]),((!true)=false),(ax ((i:Int)+1)),(au ((i:Int)+1)),(AN 0),(AN n),(AP n (fun i_1=>[.int .i64 ((S i_1).1),.int .i64 ((S i_1).2.1),.int .i64 ((S i_1).2.2.1),.int .i64 ((S i_1).2.2.2.1),.int .i64 ((S i_1).2.2.2.2.1)])),(AI ((n:Int))),((((i:Int)+1):Int)=(↑(i+1):Int)),(NL 1 1),(AI 0),(AI ((N:Int))),(AN m),(NL m m),(AA m (fun i_1=>[.p (.int .i64 ((h i_1).1)),.p (.int .i64 ((h i_1).2.1))]))] [0,1,2,3,4,3,3,5,6,7,3,4,8,3,3,4,9,10,11,11,12,13,14,15,5,16,16,17,5,16,16,18,11,19,5,20,21]):=by kernel_rfl
theorem I2 (n:Nat) (S:Nat→ap) (N nb:Nat) (g:Nat→aa) (i:Nat) :
    zP Tryz.f30 0 [rg 1,.dec false,rg 3] xR (EP n S N nb g i) [2] 1 [(0,aj nb g)] (.tup [.agg [jI N,.ar 2 0 0 nb],jB true]) =
    some [((decide ((i:Int)<(n:Int)))=false),(NT 0 1),(NT 0 1),((true=true)→(AN 1)),(NT 0 1),(AI ((N:Int))),(AN 0),(AN nb),(true=true),(AN 2),(NL nb nb),(AA nb (fun i_1=>[.p (.int .i64 ((g i_1).1)),.p (.int .i64 ((g i_1).2.1))])),(AE nb)]:=by kernel_rfl
theorem hY {n:Nat} {h:Nat→aa} {x:aa} (hx:x∈al n h):∃ i,i<n∧h i=x:=by
  obtain ⟨i,hi,e⟩:=List.mem_map.1 hx
  exact ⟨i,List.mem_range.1 hi,e⟩
theorem gI {a b N:Int} (ha:0≤a∧a<N) (hb:0≤b∧b<N) (hne:a≠b):0≤(aD a b).1∧(aD a b).1<(aD a b).2.1∧(aD a b).2.1<N:=by
  unfold aD
  by_cases h:b<a
  · simp only [if_pos h,if_neg (show ¬ b>a by omega)];omega
  · simp only [if_neg h,if_pos (show b>a by omega)];omega
theorem kG {N:Nat} {l:List aa} (hN:1≤N∧N≤8) (hl:l.length≤24) (hx:∀ x∈l,0≤x.1∧x.1<x.2.1∧x.2.1<N):ah ((N:Int),sR (bw l),())=true :=
  l9 (nb:=0) (g:=fun _=>(0,0,())) hN (by rw [cB];exact hl) (mP (bw l)) hx
theorem Ai {N nb:Nat} {g:Nat→aa} (hg:ah ((N:Int),(nb,g),())=true) (s:ap) (h:(nS N nb g s).2=true):ah ((N:Int),(nS N nb g s).1,())=true:=by
  obtain ⟨hN,hnb,hok⟩:=aB hg
  unfold nS at h ⊢
  by_cases h21:nb≤21
  case neg=>rw [if_neg h21] at h;cases h
  rw [if_pos h21] at h ⊢
  cases hl:vf N nb g s with
  | none=>rw [hl] at h;cases h
  | some l =>
    show ah ((N:Int),sR l,())=true
    have hold:∀ x∈al nb g,0≤x.1∧x.1<x.2.1∧x.2.1<(N:Int):=by
      intro x hx
      obtain ⟨i,hi,rfl⟩:=hY hx
      exact hok i hi
    unfold vf at hl
    split at hl
    · split at hl
      · rename_i hc
        obtain rfl:=Option.some.inj hl
        have d0:=eT hc.2 0 (by omega)
        have d1:=eT hc.2 1 (by omega)
        refine kG hN (by rw [List.length_append,aC];show nb+1≤_;omega) (fun x hx=>?_)
        rcases List.mem_append.1 hx with hx | hx
        · exact hold x hx
        · simp only [List.mem_cons,List.not_mem_nil,or_false] at hx
          subst hx
          exact gI ⟨d0.1,d0.2.1⟩ ⟨d1.1,d1.2.1⟩ (d1.2.2 0 (by omega))
      · cases hl
    · split at hl
      · split at hl
        · rename_i hc
          obtain rfl:=Option.some.inj hl
          have d0:=eT hc.2.1 0 (by omega)
          have d1:=eT hc.2.1 1 (by omega)
          have d2:=eT hc.2.1 2 (by omega)
          refine kG hN (by rw [List.length_append,aC];show nb+2≤_;omega) (fun x hx=>?_)
          rcases List.mem_append.1 hx with hx | hx
          · exact hold x hx
          · simp only [List.mem_cons,List.not_mem_nil,or_false] at hx
            rcases hx with rfl | rfl
            · exact gI ⟨d0.1,d0.2.1⟩ ⟨d1.1,d1.2.1⟩ (d1.2.2 0 (by omega))
            · exact gI ⟨d0.1,d0.2.1⟩ ⟨d2.1,d2.2.1⟩ (d2.2.2 0 (by omega))
        · cases hl
      · split at hl
        · split at hl
          · rename_i hc
            obtain rfl:=Option.some.inj hl
            have d0:=eT hc.2.1 0 (by omega)
            have d1:=eT hc.2.1 1 (by omega)
            have d2:=eT hc.2.1 2 (by omega)
            have d3:=eT hc.2.1 3 (by omega)
            refine kG hN (by rw [List.length_append,aC];show nb - 1+3≤_;omega) (fun x hx=>?_)
            rcases List.mem_append.1 hx with hx | hx
            · obtain ⟨i,hi,rfl⟩:=hY hx
              unfold ou
              split
              · exact hok i (by omega)
              · exact hok (i+1) (by omega)
            · simp only [List.mem_cons,List.not_mem_nil,or_false] at hx
              rcases hx with rfl | rfl | rfl
              · exact gI ⟨d0.1,d0.2.1⟩ ⟨d1.1,d1.2.1⟩ (d1.2.2 0 (by omega))
              · exact gI ⟨d0.1,d0.2.1⟩ ⟨d2.1,d2.2.1⟩ (d2.2.2 0 (by omega))
              · exact gI ⟨d0.1,d0.2.1⟩ ⟨d3.1,d3.2.1⟩ (d3.2.2 0 (by omega))
          · cases hl
        · cases hl
noncomputable def uz (N:Nat) (S:Nat→ap):Nat→Nat→NB→Option NB
  | 0,_,D=>some D
  | d+1,i,D=>if (nS N D.1 D.2 (S i)).2=true then uz N S d (i+1) (nS N D.1 D.2 (S i)).1 else none
def JM:Option NB→Hp
  | some D=>[(0,aj D.1 D.2)]
  | none=>[]
def J1 (N:Nat):Option NB→AV
  | some D=>.tup [.agg [.p (.int .i64 N),.ar 2 0 0 D.1],.p (.bool true)]
  | none=>.tup [.agg [.p (.int .i64 0),.ar 2 0 0 0],.p (.bool false)]
noncomputable def yD (M:Int) (n:Nat) (S:Nat→ap):Option NB:=if bC M 1 8=true then uz M.toNat S n 0 (0,fun _=>(0,0,())) else none
theorem sE {N:Nat} (hN:1≤N∧N≤8):ah ((N:Int),((0:Nat),(fun _=>(0,0,()):Nat→aa)),())=true :=
  sV hN (by omega) (fun e he=>absurd he (Nat.not_lt_zero _)) (fun s hs=>absurd hs (by omega))
theorem zh {N:Nat} {S:Nat→ap}:∀ d i (D R:NB),ah ((N:Int),D,())=true→uz N S d i D=some R→ah ((N:Int),R,())=true
  | 0,_,D,R,hD,h=>by rw [← Option.some.inj h];exact hD
  | d+1,i,D,R,hD,h=>by
    rw [uz] at h
    split at h
    · rename_i hk
      exact zh d (i+1) _ R (Ai hD (S i) hk) h
    · cases h
theorem sk (M:Int) (n:Nat) (S:Nat→ap) (hn:n≤1048576) :
    zE 30 [.p (.int .i64 M),Cv n S] (JM (yD M n S)) (J1 M.toNat (yD M n S)):=by
  have cw:=bp M 1 8
  unfold yD
  cases hb:bC M 1 8 with
  | false =>
    rw [hb] at cw
    rw [if_neg Bool.false_ne_true]
    refine aW Tryz.func30 (fun c hc=>?_)
    refine be Tryz.func30 hc (HS M n S) ?_
    and_intros
    all_goals (first | exact zI | (exact cw) | (simp;done))
  | true =>
    rw [hb] at cw
    rw [if_pos rfl]
    simp only [bC,Bool.and_eq_true,decide_eq_true_eq] at hb
    obtain ⟨N,rfl⟩:=Int.eq_ofNat_of_zero_le (show 0≤M by omega)
    have hN:1≤N∧N≤8:=by omega
    rw [Int.toNat_natCast]
    generalize hR:uz N S n 0 (0,fun _=>(0,0,()))=R
    refine aW Tryz.func30 (fun c hc=>?_)
    have lo:∀ d i (D:NB),i+d=n→ah ((N:Int),D,())=true→uz N S d i D=R→zR c 30 xR (EP n S N D.1 D.2 i) (aS c (JM R) (J1 N R)):=by
      intro d
      induction d with
      | zero =>
        intro i D hi hD hL
        obtain rfl:i=n:=by omega
        have hd:decide ((i:Int)<(i:Int))=false:=by simp
        rw [← hL]
        refine be Tryz.func30 hc (I2 i S N D.1 D.2 i) ?_
        and_intros
        all_goals (first | exact zI | (exact hd) | (intro j hj;simp [af];done) | (simp;done))
      | succ d ih =>
        intro i D hi hD hL
        have hd:decide ((i:Int)<(n:Int))=true:=decide_eq_true (by omega)
        have ca:=rQ (N:=N) (nb:=D.1) (g:=D.2) hD (S i)
        rw [uz] at hL
        unfold JN at ca
        cases hk:(nS N D.1 D.2 (S i)).2 with
        | false =>
          rw [hk] at ca
          rw [hk,if_neg Bool.false_ne_true] at hL
          rw [← hL]
          generalize (nS N D.1 D.2 (S i)).1=E at ca
          refine bz Tryz.func30 hc (Iq n S N D.1 D.2 i E.1 E.2) ?_
          and_intros
          all_goals (first | exact zI | (exact hd) | (exact ca) | (intro j hj;simp [af];done) | (simp;done))
        | true =>
          have hE:=Ai (N:=N) (nb:=D.1) (g:=D.2) hD (S i) hk
          rw [hk] at ca
          rw [hk,if_pos rfl] at hL
          generalize (nS N D.1 D.2 (S i)).1=E at ca hL hE
          refine a9 hc (Hb n S N D.1 D.2 i E.1 E.2) ?_ (ih (i+1) E (by omega) hE hL)
          and_intros
          all_goals (first | exact zI | (exact hd) | (exact ca) | (intro j hj;simp [af];done) | (simp;done))
    refine a9 hc (HV N n S (fun _=>(0,0,()))) ?_ (lo n 0 (0,fun _=>(0,0,())) (by omega) (sE hN) hR)
    and_intros
    all_goals (first | exact zI | (exact cw) | (intro j hj;exact absurd hj (Nat.not_lt_zero _)) | (intro j hj;simp [af];done) | (simp;done))
def uQ (N:Nat) (l:List aa):Prop:=∀ x∈l,0≤x.1∧x.1<x.2.1∧x.2.1<N
theorem sD {N nb:Nat} {g:Nat→aa} (h:aO N nb g):uQ N (al nb g):=fun x hx=>by
  obtain ⟨i,hi,rfl⟩:=hY hx
  exact h i hi
theorem eP (g:Nat→aa):∀ n,bL g n=(al n g).map bB
  | 0=>rfl
  | n+1=>by rw [bL,eP g n,bI,List.map_append];rfl
theorem eG {N:Nat} {l:List aa} (h:uQ N l):∀ x∈l.map bB,Mat.GoodBar N x:=fun x hx=>by
  obtain ⟨y,hy,rfl⟩:=List.mem_map.1 hx
  have:=h y hy
  unfold Mat.GoodBar bB
  simp only
  omega
theorem l7 {N:Nat} {x:aa} (h:0≤x.1∧x.1<x.2.1∧x.2.1<N) (v:Nat):Mat.tb v (bB x)=bc x v:=by
  cases hv:bc x v with
  | true =>
    rw [Mat.tb_iff]
    have:=(fk x v).1 hv
    unfold bB
    simp only
    omega
  | false =>
    cases ht:Mat.tb v (bB x) with
    | false=>rfl
    | true =>
      have:=Mat.tb_iff.1 ht
      unfold bB at this
      simp only at this
      have:bc x v=true:=(fk x v).2 (by omega)
      rw [this] at hv;cases hv
theorem t8 {N:Nat} (v:Nat):∀ {l:List aa},uQ N l→Mat.dgL v (l.map bB)=(l.filter (fun x=>bc x v)).length
  | [],_=>rfl
  | y::l,h=>by
    have ih:=t8 (N:=N) v (l:=l) (fun x hx=>h x (by simp [hx]))
    simp only [List.map_cons,Mat.dgL,ih,l7 (h y (by simp)) v,List.filter_cons]
    cases bc y v<;>simp<;>omega
theorem qW (g:Nat→aa) (p:Int):∀ n,bm g p n=(((al n g).filter (fun x=>bc x p)).length:Int)
  | 0=>rfl
  | n+1=>by
    rw [bm,qW g p n,bI,List.filter_append,List.length_append,show ld (g n) p=bc (g n) p from rfl]
    cases h:bc (g n) p with
    | true=>rw [if_pos rfl];simp [h]
    | false=>rw [if_neg (by simp)];simp [h]
theorem pZ (g:Nat→aa) (v:Int):∀ k,al (ba g v k).1 (ba g v k).2=(al k g).filter (fun x=>!bc x v)
  | 0=>rfl
  | k+1=>by
    rw [bI,List.filter_append,← pZ g v k,ba]
    cases h:bc (g k) v with
    | true=>rw [if_pos rfl];simp [h]
    | false =>
      rw [if_neg (by simp)]
      show al ((ba g v k).1+1) (aZ (ba g v k).1 (ba g v k).2 (g k))=_
      rw [cH];simp [h]
theorem nA (g:Nat→aa) (v:Int):∀ k,(List.range (bq g v k).1).map (bq g v k).2=((al k g).filter (fun x=>bc x v)).map (fun x=>aw x v)
  | 0=>rfl
  | k+1=>by
    rw [bI,List.filter_append,List.map_append,← nA g v k,bq]
    cases h:bc (g k) v with
    | false=>rw [if_neg (by simp)];simp [h]
    | true =>
      rw [if_pos rfl]
      show (List.range ((bq g v k).1+1)).map (fun s=>if s<(bq g v k).1 then (bq g v k).2 s else aw (g k) v)=_
      rw [List.range_succ,List.map_append]
      have:(List.range (bq g v k).1).map (fun s=>if s<(bq g v k).1 then (bq g v k).2 s else aw (g k) v)=(List.range (bq g v k).1).map (bq g v k).2:=List.map_congr_left (fun i hi=>if_pos (List.mem_range.1 hi))
      rw [this]
      simp [h]
theorem mT (l:List aa) (v:Int):l.Perm (l.filter (fun x=>!bc x v)++l.filter (fun x=>bc x v)):=by
  have:=List.filter_append_perm (fun x=>bc x v) l
  exact (this.symm).trans List.perm_append_comm
theorem gP {N:Nat} {x:aa} (h:0≤x.1∧x.1<x.2.1∧x.2.1<N) {v:Int} (hv:bc x v=true):aD v (aw x v)=x∧0≤aw x v∧aw x v<N∧aw x v≠v:=by
  obtain ⟨a,b,c⟩:=x
  simp only at h
  rcases (fk (a,b,c) v).1 hv with e | e
  · have e:a=v:=e
    subst e
    have ho:aw (a,b,c) a=b:=by unfold aw;rw [if_pos rfl]
    rw [ho]
    refine ⟨?_,by omega,by omega,by omega⟩
    unfold aD
    rw [if_neg (show ¬ b<a by omega),if_pos (show b>a by omega)]
  · have e:b=v:=e
    subst e
    have ho:aw (a,b,c) b=a:=by unfold aw;rw [if_neg (show ¬ a=b by omega)]
    rw [ho]
    refine ⟨?_,by omega,by omega,by omega⟩
    unfold aD
    rw [if_pos (show a<b by omega),if_neg (show ¬ a>b by omega)]
theorem wC (a b:Int):aD a b=aD b a:=by
  unfold aD
  by_cases h:b<a
  · rw [if_pos h,if_neg (show ¬ b>a by omega),if_neg (show ¬ a<b by omega),if_pos (show a>b by omega)]
  · rw [if_neg h]
    by_cases h2:b>a
    · rw [if_pos h2,if_pos (show a<b by omega),if_neg (show ¬ a>b by omega)]
    · have:a=b:=by omega
      subst this;simp
theorem dX {a b:Int} (h:a<b):aD a b=(a,b,()):=by
  unfold aD
  rw [if_neg (show ¬ b<a by omega),if_pos (show b>a by omega)]
theorem vW (B:Nat→Bool):∀ n,∃ m,m<2 ^ n∧∀ i,i<n→m.testBit i=B i
  | 0=>⟨0,by decide,fun i hi=>absurd hi (Nat.not_lt_zero _)⟩
  | n+1=>by
    obtain ⟨m,h1,h2⟩:=vW B n
    cases hb:B n with
    | false =>
      refine ⟨m,by rw [Nat.pow_succ];omega,fun i hi=>?_⟩
      rcases Nat.lt_or_ge i n with h | h
      · exact h2 i h
      · obtain rfl:i=n:=by omega
        rw [hb];exact Nat.testBit_lt_two_pow h1
    | true =>
      refine ⟨2 ^ n+m,by rw [Nat.pow_succ];omega,fun i hi=>?_⟩
      rcases Nat.lt_or_ge i n with h | h
      · rw [Nat.testBit_two_pow_add_gt h];exact h2 i h
      · obtain rfl:i=n:=by omega
        rw [Nat.testBit_two_pow_add_eq,Nat.testBit_lt_two_pow h1,hb];rfl
theorem nC (w:Nat):∀ n,(bD w n).1=Mat.cardR (fun i=>gl w i) n
  | 0=>rfl
  | n+1=>by
    have ih:=nC w n
    simp only [bD,Mat.cardR]
    cases h:gl w n with
    | true=>rw [if_pos rfl];show (bD w n).1+1=_;rw [ih];rfl
    | false=>rw [if_neg (by simp)];rw [ih];rfl
theorem qD {N nb:Nat} {g:Nat→aa} (hok:aO N nb g) (w:Nat):∀ n,n≤nb→(bK (pj g w) n).1=Mat.cnt (fun i=>gl w i) (bL g n)
  | 0,_=>rfl
  | n+1,hn=>by
    have ih:=qD hok w n (by omega)
    have h:=hok n (by omega)
    rw [bL,Mat.cnt_append,← ih]
    have e:Mat.inn (fun i=>gl w i) (bB (g n))=pj g w n:=by
      show (gl (w:Int) (((g n).1.toNat:Nat):Int)&&gl (w:Int) (((g n).2.1.toNat:Nat):Int))=(gl (w:Int) (g n).1&&gl (w:Int) (g n).2.1)
      rw [show (((g n).1.toNat:Nat):Int)=(g n).1 by omega,show (((g n).2.1.toNat:Nat):Int)=(g n).2.1 by omega]
    simp only [Mat.cnt,e]
    cases hs:pj g w n with
    | true=>rw [mn hs];rfl
    | false=>rw [ml hs];rfl
theorem vG {N nb:Nat} {g:Nat→aa} (hok:aO N nb g) (w:Nat):yG g nb N 2 3 w=false↔(0<Mat.cnt (fun i=>gl w i) (bL g nb)→Mat.cnt (fun i=>gl w i) (bL g nb)+3≤2*Mat.cardR (fun i=>gl w i) N):=by
  unfold yG
  rw [qD hok w nb (Nat.le_refl _),nC]
  by_cases h:0<Mat.cnt (fun i=>gl w i) (bL g nb)
  · rw [decide_eq_true (show ((Mat.cnt (fun i=>gl w i) (bL g nb):Nat):Int)>0 by omega),cond_true,decide_eq_false_iff_not]
    constructor
    · intro h1 _;omega
    · intro h1 h2;have:=h1 h;omega
  · rw [decide_eq_false (show ¬ ((Mat.cnt (fun i=>gl w i) (bL g nb):Nat):Int)>0 by omega),cond_false]
    simp [h]
theorem wh (g:Nat→aa) (nb N k l:Nat):∀ d w,(mz g nb N k l d w).2=false↔∀ i,w≤i→i<w+d→yG g nb N k l i=false
  | 0,w=>⟨fun _ i h1 h2=>by omega,fun _=>rfl⟩
  | d+1,w=>by
    rw [mz]
    cases h:yG g nb N k l w with
    | true =>
      rw [if_pos rfl]
      constructor
      · intro h1;cases h1
      · intro h1;have:=h1 w (Nat.le_refl _) (by omega);rw [h] at this;cases this
    | false =>
      rw [if_neg (by simp),wh g nb N k l d (w+1)]
      constructor
      · intro h1 i h2 h3
        by_cases e:i=w
        · rw [e];exact h
        · exact h1 i (by omega) (by omega)
      · intro h1 i h2 h3;exact h1 i (by omega) (by omega)
theorem i4 {N nb:Nat} {g:Nat→aa} (hok:aO N nb g) (hN:N≤8):(mz g nb N 2 3 (2 ^ N - 1) 1).2=false↔Mat.Sparse N 2 3 (bL g nb):=by
  have hpow:0<2 ^ N:=Nat.pow_pos (by decide)
  rw [wh]
  constructor
  · intro h R hR
    obtain ⟨m,m1,m2⟩:=vW R N
    have hm62:m<2 ^ 62:=Nat.lt_of_lt_of_le m1 (Nat.pow_le_pow_right (by omega) (by omega))
    have hb:∀ v,v<N→gl (m:Int) (v:Int)=R v:=fun v hv=>by rw [lS m v hm62 (by omega)];exact m2 v hv
    have e1:Mat.cnt (fun i=>gl (m:Int) i) (bL g nb)=Mat.cnt R (bL g nb):=by
      have hgd:=eG (sD hok)
      rw [← eP] at hgd
      revert hgd
      generalize bL g nb=L
      intro hgd
      induction L with
      | nil=>rfl
      | cons x l ih =>
        have hx:=hgd x (by simp)
        unfold Mat.GoodBar at hx
        simp only [Mat.cnt,Mat.inn,ih (fun y hy=>hgd y (by simp [hy])),hb x.1 hx.2.1,hb x.2 hx.2.2]
    have e2:Mat.cardR (fun i=>gl (m:Int) i) N=Mat.cardR R N:=Mat.card_cgr N (fun v hv=>hb v hv)
    have hm0:1≤m:=by
      refine Nat.not_lt.1 (fun hl=>?_)
      have:m=0:=by omega
      subst this
      have hz:Mat.cardR R N=0:=Mat.card_none R N (fun v hv=>by rw [← m2 v hv];exact Nat.zero_testBit v)
      have:Mat.cnt R (bL g nb)=0:=by
        have hgd:=eG (sD hok)
        rw [← eP] at hgd
        refine Classical.byContradiction fun hn=>?_
        have:∀ L:List (Nat×Nat),(∀ x∈L,Mat.GoodBar N x)→Mat.cnt R L=0:=by
          intro L
          induction L with
          | nil=>intro _;rfl
          | cons x l ih =>
            intro h
            have hx:=h x (by simp)
            unfold Mat.GoodBar at hx
            simp only [Mat.cnt,ih (fun y hy=>h y (by simp [hy]))]
            have:R x.1=false:=by rw [← m2 x.1 hx.2.1];exact Nat.zero_testBit _
            simp [Mat.inn,this]
        exact hn (this _ hgd)
      omega
    have:=(vG hok m).1 (h m hm0 (by omega))
    rw [e1,e2] at this
    exact this hR
  · intro h i h1 h2
    rw [vG hok]
    exact h _
theorem io (N k l:Nat):∀ xs acc:List (Nat×Nat),(Mat.greedy N k l acc xs).length≤acc.length+xs.length
  | [],acc=>by simp [Mat.greedy]
  | x::xs,acc=>by
    simp only [Mat.greedy]
    split
    · have:=io N k l xs (acc++[x])
      simp only [List.length_append,List.length_cons,List.length_nil] at this ⊢
      omega
    · have:=io N k l xs acc
      simp only [List.length_cons]
      omega
theorem kX (N k l:Nat):∀ xs acc:List (Nat×Nat),(Mat.greedy N k l acc xs).length=acc.length+xs.length→Mat.greedy N k l acc xs=acc++xs
  | [],acc,_=>by simp [Mat.greedy]
  | x::xs,acc,h=>by
    simp only [Mat.greedy] at h ⊢
    split at h
    · rename_i hs
      rw [if_pos hs,kX N k l xs (acc++[x]) (by simp only [List.length_append,List.length_cons,List.length_nil] at h ⊢;omega)]
      simp
    · have:=io N k l xs acc
      simp only [List.length_cons] at h
      omega
theorem gX {N k l:Nat} {L:List (Nat×Nat)} (h:(Mat.greedy N k l [] L).length=L.length):Mat.Sparse N k l L:=by
  have e:=kX N k l L [] (by simpa using h)
  have:=Mat.greedy_sparse N k l L [] (Mat.sparse_nil N k l)
  rw [e] at this
  simpa using this
structure Inv (N:Nat) (D:NB):Prop where
  gr:ah ((N:Int),D,())=true
  sp:Mat.Sparse N 2 3 ((al D.1 D.2).map bB)
  fl:Mat.Full N ((al D.1 D.2).map bB)
theorem Inv.len {N:Nat} {D:NB} (h:Inv N D):D.1+3=2*Mat.cardR (Mat.tch ((al D.1 D.2).map bB)) N:=by
  have:=h.fl
  unfold Mat.Full at this
  rwa [List.length_map,aC] at this
theorem Inv.le {N:Nat} {D:NB} (h:Inv N D):D.1+3≤2*N:=by
  have:=h.len
  have:=Mat.card_le (Mat.tch ((al D.1 D.2).map bB)) N
  omega
theorem Inv.gd {N:Nat} {D:NB} (h:Inv N D):uQ N (al D.1 D.2):=sD (aB (g:=D.2) (nb:=D.1) h.gr).2.2
theorem xY {N nb:Nat} {g:Nat→aa} (hm:oL ((N:Int),(nb,g),())=true) (h0:nb≠0):Inv N (nb,g)∧nb+3=2*N:=by
  unfold oL at hm
  cases hf:(bA ((N:Int),(nb,g),())==0) with
  | false=>rw [hf] at hm;cases hm
  | true =>
    rw [hf] at hm
    have hg:=ka hf
    obtain ⟨hN,hnb,hok⟩:=aB hg
    have h1:(nb:Int)=(qG ((N:Int),(nb,g),()):Int):=by simpa using hm
    have h2:cC (N:Int) - (qG ((N:Int),(nb,g),()):Int)=0:=by
      have h3:bA ((N:Int),(nb,g),())=cC (N:Int) - (qG ((N:Int),(nb,g),()):Int):=by unfold bA;rw [if_pos hg]
      rw [← h3];simpa using hf
    have hl:nb+3=2*N:=by
      unfold cC at h2
      split at h2<;>omega
    have hr:(aK N 2 3 g nb).length=nb:=by
      have:((aK N 2 3 g nb).length:Int)=(qG ((N:Int),(nb,g),()):Int):=rfl
      omega
    rw [dn] at hr
    have hsp:Mat.Sparse N 2 3 (bL g nb):=gX (by rw [hr,eP,List.length_map,aC])
    rw [eP] at hsp
    refine ⟨⟨hg,hsp,?_⟩,hl⟩
    have hgd:=eG (sD hok)
    have hc:=Mat.cnt_all (R:=Mat.tch ((al nb g).map bB)) (L:=(al nb g).map bB) (fun x hx=>by
      have:=Mat.ends_tch x hx
      unfold Mat.inn
      rw [this.1,this.2];rfl)
    rw [List.length_map,aC] at hc
    have h4:=hsp (Mat.tch ((al nb g).map bB)) (by omega)
    have h5:=Mat.card_le (Mat.tch ((al nb g).map bB)) N
    show Mat.Full N ((al nb g).map bB)
    unfold Mat.Full
    rw [List.length_map,aC]
    omega
def JE (v:ai):Ob:=⟨true,2,1,fun _=>[.p (.int .i64 v.1),b4 v.2.1.2 v.2.1.1]⟩
def Eu (v:ai) (w:ad) (i c:Nat) (f:Nat→Int):St :=
  ⟨[aJ v,eI w,.pt 2 0 0 0,.p .any,.p .any,.ar 1 1 0 c,.p .any,.p .any,.p .any,.p .any,b4 v.2.1.2 v.2.1.1,.p (.int .i64 v.2.1.1),.p (.int .i64 i)]++List.replicate 20 ag,[(0,JE v),(1,aY c f)],2⟩
theorem KX (v:ai) (w:ad) :
    zT Tryz.f34 [rg 2,rg 2,rg 4,.head] [aJ v,eI w] [0,64] (Eu v w 0 0 (fun _=>0)) =
    some (tJ,zD [(NT 0 1),(AI v.1),(AN v.2.1.1),(AP v.2.1.1 (aF v.2.1.2)),(AN w.1),(AP w.1 (c8 w)),(AN 0),(AI ((v.2.1.1:Int))),((0:Int)=(↑0:Int)),((([AV.p (PV.int IntKind.i64 v.1),cJ v.2.1].length):Nat)=2),(NL 1 1),(AN 1),(NL 0 0),(AA 0 (fun i=>[.p (.int .i64 0)]))] [0,1,2,3,4,5,6,6,6,2,3,7,8,9,10,10,1,2,3,11,12,13]):=by kernel_rfl
theorem ME (v:ai) (w:ad) (i c:Nat) (f:Nat→Int) (a b:Bool) :
    zM 0 [rg 1,.dec true,rg 6,rm [(3,oc [] (jB a)),(4,oc [] (jB b))] 1,.dec true,rg 5,rg 2,.head] tJ (Eu v w i c f) [0,642] 1 (Eu v w (i+1) (c+1) (fun s=>if s<c then f s else i)) =
    some (tJ,zD [((decide ((i:Int)<(v.2.1.1:Int)))=true),(IL 0 (i:Int)),(IT (i:Int) (v.2.1.1:Int)),(NT 0 1),((true=true)→(AN 1)),zE 63 [.p (.seq true 1 w.1 (c8 w)),jI ((v.2.1.2 i).1)] [] (jB a),(AG a),((a=true)→(NT 0 1)),((a=true)→zE 63 [.p (.seq true 1 w.1 (c8 w)),jI ((v.2.1.2 i).2.1)] [] (jB b)),((bif a then b else false)=true),(NL 1 1),(NL c c),(NL ((c+1)*8) 140737488355328),(NL (c+1) 9223372036854775807),(ax ((i:Int)+1)),(au ((i:Int)+1)),(AI v.1),(AN v.2.1.1),(AP v.2.1.1 (aF v.2.1.2)),(AN w.1),(AP w.1 (c8 w)),(AN 0),(AN ((c+1))),(AI ((v.2.1.1:Int))),((((i:Int)+1):Int)=(↑(i+1):Int)),(AN 2),(AN 1),(NL (c+1) (c+1)),(CV [(642,⟨false,1,(c+1),(fun i_2=>(if (i_2<c) then [.p (.int .i64 (f i_2))] else [.p (.int .i64 (i:Int))]))⟩),(610,⟨false,1,1,(fun i_2=>[.p (.int .i64 (i:Int))])⟩),(130,⟨true,2,1,(fun i_2=>[.p (.int .i64 ((v.2.1.2 i).1)),.p (.int .i64 ((v.2.1.2 i).2.1))])⟩),(0,⟨true,2,1,(fun i_2=>[.p (.int .i64 v.1),.p (.seq true 2 v.2.1.1 (aF v.2.1.2))])⟩)] [0,642] 1 (c+1) (fun i_1=>if (i_1<c) then [.p (.int .i64 (f i_1))] else [.p (.int .i64 (i:Int))]) (fun i_1=>[.p (.int .i64 (if i_1<c then f i_1 else (i:Int)))]))] [0,1,2,3,4,3,5,6,7,6,6,8,6,9,10,11,12,13,14,15,16,17,18,19,20,21,21,22,17,18,23,24,25,10,10,16,17,18,26,27,28]):=by kernel_rfl
theorem Kc (v:ai) (w:ad) (i c:Nat) (f:Nat→Int) (a b:Bool) :
    zM 0 [rg 1,.dec true,rg 6,rm [(3,oc [] (jB a)),(4,oc [] (jB b))] 1,.dec false,rg 2,.head] tJ (Eu v w i c f) [0,1] 1 (Eu v w (i+1) c f) =
    some (tJ,zD [((decide ((i:Int)<(v.2.1.1:Int)))=true),(IL 0 (i:Int)),(IT (i:Int) (v.2.1.1:Int)),(NT 0 1),((true=true)→(AN 1)),zE 63 [.p (.seq true 1 w.1 (c8 w)),jI ((v.2.1.2 i).1)] [] (jB a),(AG a),((a=true)→(NT 0 1)),((a=true)→zE 63 [.p (.seq true 1 w.1 (c8 w)),jI ((v.2.1.2 i).2.1)] [] (jB b)),((bif a then b else false)=false),(ax ((i:Int)+1)),(au ((i:Int)+1)),(AI v.1),(AN v.2.1.1),(AP v.2.1.1 (aF v.2.1.2)),(AN w.1),(AP w.1 (c8 w)),(AN 0),(AN c),(AI ((v.2.1.1:Int))),((((i:Int)+1):Int)=(↑(i+1):Int)),(AN 2),(NL 1 1),(AN 1),(NL c c),(AA c (fun i_1=>[.p (.int .i64 (f i_1))]))] [0,1,2,3,4,3,5,6,7,6,6,8,6,9,10,11,12,13,14,15,16,17,17,18,13,14,19,20,21,22,22,12,13,14,23,24,25]):=by kernel_rfl
theorem L8 (v:ai) (w:ad) (i c:Nat) (f:Nat→Int) :
    zP Tryz.f34 0 [rg 1,.dec false,rg 2] tJ (Eu v w i c f) [1] 1 [(0,aY c f)] (.ar 1 0 0 c) =
    some [((decide ((i:Int)<(v.2.1.1:Int)))=false),(AN 0),(AN c),(AN 1),(NL c c),(AA c (fun i_1=>[.p (.int .i64 (f i_1))])),(AE c)]:=by kernel_rfl
def kV (g:Nat→aa) (S:ad) (e:Nat):Bool:=a0 S.2 (g e).1 S.1&&a0 S.2 (g e).2.1 S.1
theorem ii (v:ai) (S:ad) (hs:cP a6 v) (hS:S.1≤1048576) :
    zE 34 [aJ v,eI S] [(0,aY (bK (kV v.2.1.2 S) v.2.1.1).1 (bK (kV v.2.1.2 S) v.2.1.1).2)] (.ar 1 0 0 (bK (kV v.2.1.2 S) v.2.1.1).1):=by
  refine aW Tryz.func34 (fun c hc=>?_)
  have hnb:v.2.1.1≤1048576:=hs.2.1.1
  generalize hp:kV v.2.1.2 S=p
  generalize hR:bK p v.2.1.1=R
  have lo:∀ d i,i+d=v.2.1.1→zR c 34 tJ (Eu v S i (bK p i).1 (bK p i).2) (aS c [(0,aY R.1 R.2)] (.ar 1 0 0 R.1)):=by
    intro d
    induction d with
    | zero =>
      intro i hi
      obtain rfl:i=v.2.1.1:=by omega
      have hd:decide ((v.2.1.1:Int)<(v.2.1.1:Int))=false:=by simp
      rw [hR]
      refine be Tryz.func34 hc (L8 v S v.2.1.1 R.1 R.2) ?_
      and_intros
      all_goals (first | exact zN | (exact hd) | (intro t ht;simp [af]))
    | succ d ih =>
      intro i hi
      have hd:decide ((i:Int)<(v.2.1.1:Int))=true:=decide_eq_true (by omega)
      have hrec:=ih (i+1) (by omega)
      have hfn:=rf p i
      have hc1:=dN S (v.2.1.2 i).1 hS
      have hc2:=dN S (v.2.1.2 i).2.1 hS
      have hpe:p i=(a0 S.2 (v.2.1.2 i).1 S.1&&a0 S.2 (v.2.1.2 i).2.1 S.1):=by rw [← hp];rfl
      generalize a0 S.2 (v.2.1.2 i).1 S.1=a at hc1 hpe
      generalize a0 S.2 (v.2.1.2 i).2.1 S.1=b at hc2 hpe
      cases hb:p i with
      | true =>
        rw [hb] at hpe
        rw [mn hb] at hrec
        generalize bK p i=q at hfn hrec ⊢
        refine a9 hc (ME v S i q.1 q.2 a b) ?_ hrec
        and_intros
        all_goals (first | exact zI | (exact hd) | (exact hc1) | (intro _;exact hc2) | (cases a<;>cases b<;>simp at hpe ⊢;done) | (simp;done) | (simp;omega) | (intro t ht;by_cases h':t<q.1<;>(simp [h',ay,bh,tg,bu,af];done)) | (intro t ht;simp [af]))
      | false =>
        rw [hb] at hpe
        rw [ml hb] at hrec
        generalize bK p i=q at hfn hrec ⊢
        refine a9 hc (Kc v S i q.1 q.2 a b) ?_ hrec
        and_intros
        all_goals (first | exact zI | (exact hd) | (exact hc1) | (intro _;exact hc2) | (cases a<;>cases b<;>simp at hpe ⊢;done) | (simp;done) | (simp;omega) | (intro t ht;simp [af]))
  refine a9 hc (KX v S) ?_ (lo v.2.1.1 0 (by omega))
  and_intros
  all_goals (first | exact zN | (simp;done) | (intro t ht;exact absurd ht (Nat.not_lt_zero _)) | (intro t ht;simp [af]))
def Fq (s:ad) (x:Int):ad:=(s.1+1,fun i=>if i<s.1 then s.2 i else x)
def lW:ad:=(0,fun _=>0)
def eU (l:Nat→Int):Nat→Nat
  | 0=>0
  | k+1=>if l k = -1 then eU l k+1 else eU l k
def lq (l:Nat→Int):Nat→ad
  | 0=>lW
  | k+1=>if l k = -1 then lW else Fq (lq l k) (l k)
def gp (l:Nat→Int):Nat→Nat→ad
  | 0=>fun _=>lW
  | k+1=>if l k = -1 then ce (eU l k) (gp l k) (lq l k) else gp l k
theorem uV (l:Nat→Int):∀ k,eU l k≤k
  | 0=>Nat.le_refl _
  | k+1=>by
    have:=uV l k
    rw [eU];split<;>omega
theorem u3 (l:Nat→Int):∀ k,(lq l k).1≤k
  | 0=>Nat.le_refl _
  | k+1=>by
    have:=u3 l k
    rw [lq];split
    · exact Nat.zero_le _
    · show (lq l k).1+1≤k+1;omega
theorem jq {n:Nat} {C:Nat→ad} {c:ad} {i:Nat} (h:i<n):ce n C c i=C i:=by
  unfold ce;simp only [if_pos h]
theorem jC {n:Nat} {C:Nat→ad} {c:ad} {i:Nat} (h:¬ i<n):ce n C c i=c:=by
  unfold ce;simp only [if_neg h]
theorem tP (l:Nat→Int):∀ k i,(gp l k i).1≤k
  | 0,i=>Nat.le_refl _
  | k+1,i=>by
    have h1:=tP l k i
    have h2:=u3 l k
    rw [gp];split
    · by_cases h:i<eU l k
      · rw [jq h];omega
      · rw [jC h];omega
    · omega
theorem m7 (l:Nat→Int) (k:Nat):∀ d,eU l k≤eU l (k+d)
  | 0=>Nat.le_refl _
  | d+1=>by
    have:=m7 l k d
    rw [show k+(d+1)=(k+d)+1 by omega,eU];split<;>omega
theorem v5 (l:Nat→Int) (k:Nat) {i:Nat} (hi:i<eU l k):∀ d,gp l (k+d) i=gp l k i
  | 0=>rfl
  | d+1=>by
    have h1:=v5 l k hi d
    have h2:=m7 l k d
    rw [show k+(d+1)=(k+d)+1 by omega,gp];split
    · rw [jq (by omega),h1]
    · exact h1
def vz (N:Int) (S:ad):Bool:=bif decide ((S.1:Int)<2) then false else ek N S.2 S.1
def BT (N:Int) (l:Nat→Int) (k:Nat):Bool:=a8 (fun i=>vz N (gp l k i)) (eU l k)
theorem C6 {N:Int} {l:Nat→Int} {k:Nat} (h:BT N l k=true) (hl:l k≠-1∨vz N (lq l k)=true):BT N l (k+1)=true:=by
  unfold BT at *
  rw [bY] at h ⊢
  intro i hi
  rw [eU] at hi
  rw [gp]
  by_cases e:l k = -1
  · rw [if_pos e] at hi ⊢
    by_cases h':i<eU l k
    · rw [jq h'];exact h i h'
    · rw [jC h']
      rcases hl with hl | hl
      · exact absurd e hl
      · exact hl
  · rw [if_neg e] at hi ⊢
    exact h i hi
theorem Ga {N:Int} {l:Nat→Int} {k:Nat} (hl:l k = -1) (hq:vz N (lq l k)=false) (d:Nat):BT N l (k+1+d)=false:=by
  have hn:eU l (k+1)=eU l k+1:=by rw [eU,if_pos hl]
  have hm:=m7 l (k+1) d
  unfold BT
  refine ib (i:=eU l k) (by omega) ?_
  show vz N (gp l (k+1+d) (eU l k))=false
  rw [v5 l (k+1) (by omega) d,gp,if_pos hl,jC (Nat.lt_irrefl _)]
  exact hq
theorem sG {l:Nat→Int} {k:Nat} (hl:l k = -1):eU l (k+1)=eU l k+1∧lq l (k+1)=lW∧gp l (k+1)=ce (eU l k) (gp l k) (lq l k):=by
  rw [eU,lq,gp,if_pos hl,if_pos hl,if_pos hl];exact ⟨rfl,rfl,rfl⟩
theorem wv {l:Nat→Int} {k:Nat} (hl:l k≠-1):eU l (k+1)=eU l k∧lq l (k+1)=Fq (lq l k) (l k)∧gp l (k+1)=gp l k:=by
  rw [eU,lq,gp,if_neg hl,if_neg hl,if_neg hl];exact ⟨rfl,rfl,rfl⟩
def E4 (p:Nat→Bool):Nat→Bool
  | 0=>false
  | k+1=>E4 p k||p k
def dh (C:Nat→ad):Nat→Int
  | 0=>0
  | k+1=>dh C k+2*((C k).1:Int) - 3
theorem Bl {C:Nat→ad} {B:Nat} (hB:∀ i,(C i).1≤B):∀ k:Nat,-3*(k:Int)≤dh C k∧dh C k≤2*(B:Int)*k
  | 0=>by rw [dh];omega
  | k+1=>by
    have h1:=Bl hB k
    have h2:=hB k
    rw [dh]
    have e:2*(B:Int)*((k+1:Nat):Int)=2*(B:Int)*k+2*B:=by rw [Int.natCast_add];simp [Int.mul_add]
    omega
def Fh (g:Nat→aa) (C:Nat→ad) (i e:Nat):Bool:=E4 (fun j=>kV g (C j) e) i
def ly (g:Nat→aa) (nb:Nat) (cn:Nat) (C:Nat→ad):Bool:=a8 (Fh g C cn) nb
theorem o0 {g h:Nat→Int} {x:Int}:∀ {n:Nat},(∀ i,i<n→g i=h i)→a0 g x n=a0 h x n
  | 0,_=>rfl
  | n+1,H=>by rw [a0,a0,o0 (fun i hi=>H i (by omega)),H n (by omega)]
theorem wF (p:Nat→Bool) (e:Nat):∀ n,a0 (bK p n).2 (e:Int) (bK p n).1=(decide (e<n)&&p e)
  | 0=>by simp [bK,a0]
  | n+1=>by
    have h:=wF p e n
    cases hp:p n with
    | true =>
      rw [mn hp]
      show (a0 (fun s=>if s<(bK p n).1 then (bK p n).2 s else (n:Int)) (e:Int) (bK p n).1||(if (bK p n).1<(bK p n).1 then (bK p n).2 (bK p n).1 else (n:Int))==(e:Int))=_
      rw [o0 (h:=(bK p n).2) (fun i hi=>if_pos hi),h,if_neg (Nat.lt_irrefl _)]
      by_cases he:e=n
      · subst he;simp [hp]
      · have h1:((n:Int)==(e:Int))=false:=beq_eq_false_iff_ne.2 (by omega)
        rw [h1,Bool.or_false]
        by_cases h2:e<n
        · rw [decide_eq_true h2,decide_eq_true (show e<n+1 by omega)]
        · rw [decide_eq_false h2,decide_eq_false (show ¬ e<n+1 by omega)]
    | false =>
      rw [ml hp,h]
      by_cases he:e=n
      · subst he;simp [hp]
      · by_cases h2:e<n
        · rw [decide_eq_true h2,decide_eq_true (show e<n+1 by omega)]
        · rw [decide_eq_false h2,decide_eq_false (show ¬ e<n+1 by omega)]
theorem vo (p:Nat→Bool):∀ n s,s<(bK p n).1→∃ e,e<n∧(bK p n).2 s=(e:Int)
  | 0,s,h=>absurd h (Nat.not_lt_zero _)
  | n+1,s,h=>by
    cases hp:p n with
    | true =>
      rw [mn hp] at h ⊢
      by_cases h':s<(bK p n).1
      · obtain ⟨e,h1,h2⟩:=vo p n s h'
        exact ⟨e,by omega,by show (if s<(bK p n).1 then _ else _)=_;rw [if_pos h'];exact h2⟩
      · exact ⟨n,by omega,by show (if s<(bK p n).1 then _ else _)=_;rw [if_neg h']⟩
    | false =>
      rw [ml hp] at h ⊢
      obtain ⟨e,h1,h2⟩:=vo p n s h
      exact ⟨e,by omega,h2⟩
def EU (n:Nat) (m:Nat→Bool):AV:=.p (.seq true 1 n (fun i=>[.bool (m i)]))
def Fe (n:Nat) (m:Nat→Bool) (k:Nat):St :=
  ⟨[EU n m,.p (.bool false),.p .any,.p .any,.p .any,.p .any,EU n m,.p (.int .i64 n),.p (.int .i64 k)]++List.replicate 10 ag,[],0⟩
def C3 (v:ai) (u:ad) (cn:Nat) (C:Nat→ad) (s:ad) (k:Nat):St :=
  ⟨[aJ v,eI u,.pt 2 0 0 0,.p .any,.p .any,.p .any,.ar 1 1 0 cn,.ar 1 2 0 s.1,.p .any,.p .any,.p .any,.p .any,eI u,.p (.int .i64 u.1),.p (.int .i64 k)]++List.replicate 25 ag,[(0,JE v),(1,iH cn C),(2,aY s.1 s.2)],3⟩
theorem L5 (n:Nat) (m:Nat→Bool) :
    zT Tryz.f73 [rg 1,rg 3,.head] [EU n m,jB false] [] (Fe n m 0) =
    some (yv,zD [(AN n),(AP n (fun i=>[.bool (m i)])),(false=false),(AI ((n:Int))),((0:Int)=(↑0:Int))] [0,1,2,0,1,3,4]):=by kernel_rfl
theorem Ok (n:Nat) (m:Nat→Bool) (k:Nat) :
    zM 0 [rg 1,.dec true,rg 2,rg 6,.dec false,rg 2,.head] yv (Fe n m k) [] 1 (Fe n m (k+1)) =
    some (yv,zD [((decide ((k:Int)<(n:Int)))=true),(IL 0 (k:Int)),(IT (k:Int) (n:Int)),((false==m k)=false),(ax ((k:Int)+1)),(au ((k:Int)+1)),(AN n),(AP n (fun i=>[.bool (m i)])),(false=false),(AI ((n:Int))),((((k:Int)+1):Int)=(↑(k+1):Int))] [0,1,2,3,4,5,6,7,8,6,7,9,10]):=by kernel_rfl
theorem Kd (n:Nat) (m:Nat→Bool) (k:Nat) :
    zP Tryz.f73 0 [rg 1,.dec true,rg 2,rg 6,.dec true,rg 2] yv (Fe n m k) [] 1 [] (jI k) =
    some [((decide ((k:Int)<(n:Int)))=true),(IL 0 (k:Int)),(IT (k:Int) (n:Int)),((false==m k)=true),(AI ((k:Int)))]:=by kernel_rfl
theorem LJ (n:Nat) (m:Nat→Bool) (k:Nat) :
    zP Tryz.f73 0 [rg 1,.dec false,rg 1] yv (Fe n m k) [] 1 [] (jI (-1)) =
    some [((decide ((k:Int)<(n:Int)))=false),(AI ((-1)))]:=by kernel_rfl
theorem Lj (n:Nat) (m:Nat→Bool) (r:Int) :
    zS Tryz.f35 [rg 1,rm [(2,oc [] (jI r))] 2] [EU n m,jB false] [] [] (jB (decide (r≥0))) =
    some [zE 73 [.p (.seq true 1 n (fun i=>[.bool (m i)])),jB false] [] (jI r),((decide (r≥0))=(decide (r≥0)))]:=by kernel_rfl
theorem Nf (v:ai) (x:aa) (r:Int) :
    zS Tryz.f32 [rg 2,rm [(2,oc [] (jI r))] 2] [cJ v.2.1,.agg [jI x.1,jI x.2.1]] [] [] (jB (decide (r≥0))) =
    some [(NT 0 1),zE 72 [.p (.seq true 2 v.2.1.1 (aF v.2.1.2)),.agg [jI x.1,jI x.2.1]] [] (jI r),((decide (r≥0))=(decide (r≥0)))]:=by kernel_rfl
theorem Lh (v:ai) (u:ad) :
    zT Tryz.f33 [rg 3,rg 2,rg 2,rg 3,.head] [aJ v,eI u] [0,96,160] (C3 v u 0 (fun _=>lW) lW 0) =
    some (rx,zD [(AI v.1),(AN v.2.1.1),(AP v.2.1.1 (aF v.2.1.2)),(AN u.1),(AP u.1 (c8 u)),(AN 0),(AI ((u.1:Int))),((0:Int)=(↑0:Int)),((([AV.p (PV.int IntKind.i64 v.1),cJ v.2.1].length):Nat)=2),(NL 1 1),(AN 1),(NL 0 0),(∀ i:Nat,(((i:Nat)<0)→(af []∧(([.p (.nil)]:List AV)=[.p (.seq false 1 0 (c8 lW))])))),(∀ i:Nat,(((i:Nat)<0)→(af []∧(([.p (.int .i64 0)]:List AV)=[.p (.int .i64 (lW.2 i))]))))] [0,1,2,3,4,5,5,5,5,5,3,4,6,7,8,9,9,0,1,2,10,11,12,10,11,13]):=by kernel_rfl
theorem LI (v:ai) (u:ad) (cn:Nat) (C:Nat→ad) (s:ad) (k:Nat) :
    zM 0 [rg 1,.dec true,rg 3,rg 2,.dec true,rg 5,rg 2,.head] rx (C3 v u cn C s k) [0,1,291] 1 (C3 v u cn C (Fq s (u.2 k)) (k+1)) =
    some (rx,zD [((decide ((k:Int)<(u.1:Int)))=true),(IL 0 (k:Int)),(IT (k:Int) (u.1:Int)),((u.2 k != -1)=true),(NL 1 1),(NL s.1 s.1),(NL ((s.1+1)*8) 140737488355328),(NL (s.1+1) 9223372036854775807),(ax ((k:Int)+1)),(au ((k:Int)+1)),(AI v.1),(AN v.2.1.1),(AP v.2.1.1 (aF v.2.1.2)),(AN u.1),(AP u.1 (c8 u)),(AN 0),(AN cn),(AN ((s.1+1))),(AI ((u.1:Int))),((((k:Int)+1):Int)=(↑(k+1):Int)),(AN 2),(AN 1),(NL cn cn),(AA cn (fun i=>[.p (.seq false 1 ((C i).1) (fun i_1=>[.int .i64 ((C i).2 i_1)]))])),(NL (s.1+1) (s.1+1)),(CV [(291,⟨false,1,(s.1+1),(fun i_1=>(if (i_1<s.1) then [.p (.int .i64 (s.2 i_1))] else [.p (.int .i64 (u.2 k))]))⟩),(259,⟨false,1,1,(fun i_1=>[.p (.int .i64 (u.2 k))])⟩),(0,⟨true,2,1,(fun i_1=>[.p (.int .i64 v.1),.p (.seq true 2 v.2.1.1 (aF v.2.1.2))])⟩),(1,⟨false,1,cn,(fun i_1=>[.p (.seq false 1 ((C i_1).1) (fun i_2=>[.int .i64 ((C i_1).2 i_2)]))])⟩)] [0,1,291] 1 (s.1+1) (fun i=>if (i<s.1) then [.p (.int .i64 (s.2 i))] else [.p (.int .i64 (u.2 k))]) (fun i=>[.p (.int .i64 ((Fq s (u.2 k)).2 i))]))] [0,1,2,3,4,5,6,7,8,9,10,11,12,13,14,15,15,16,15,17,13,14,18,19,20,4,4,10,11,12,21,22,23,21,24,25]):=by kernel_rfl
theorem NO (v:ai) (u:ad) (cn:Nat) (C:Nat→ad) (s:ad) (k:Nat) :
    zM 0 [rg 1,.dec true,rg 3,rg 2,.dec false,rm [(6,oc [] (jB true))] 2,.dec false,rg 5,rg 2,rg 2,.head] rx (C3 v u cn C s k) [0,579,643] 1 (C3 v u (cn+1) (ce cn C s) lW (k+1)) =
    some (rx,zD (let A:Bool:=decide ((s.1:Int)<2);[((decide ((k:Int)<(u.1:Int)))=true),(IL 0 (k:Int)),(IT (k:Int) (u.1:Int)),((u.2 k != -1)=false),(((!A)=true)→(NT 0 1)),(AG (!A)),(((!A)=true)→(AN 1)),(((!A)=true)→(NL s.1 s.1)),(((!A)=true)→zE 36 [(br v),.p (.seq true 1 s.1 (c8 s))] [] (jB true)),((A=false)→((!A)=true)),((bif A then true else !true)=false),(NL 1 1),(NL cn cn),(NL ((cn+1)*24) 140737488355328),(NL (cn+1) 9223372036854775807),(ax ((k:Int)+1)),(au ((k:Int)+1)),(AI v.1),(AN v.2.1.1),(AP v.2.1.1 (aF v.2.1.2)),(AN u.1),(AP u.1 (c8 u)),(AN 0),(AN ((cn+1))),(AI ((u.1:Int))),((((k:Int)+1):Int)=(↑(k+1):Int)),(AN 2),(AN 1),(NL (cn+1) (cn+1)),(CV [(643,⟨false,1,0,(fun i_1=>[.p (.int .i64 0)])⟩),(579,⟨false,1,(cn+1),(fun i_1=>(if (i_1<cn) then [.p (.seq false 1 ((C i_1).1) (fun i_2=>[.int .i64 ((C i_1).2 i_2)]))] else [.ar 1 2 0 s.1]))⟩),(547,⟨false,1,1,(fun i_1=>[.ar 1 2 0 s.1])⟩),(0,⟨true,2,1,(fun i_1=>[.p (.int .i64 v.1),.p (.seq true 2 v.2.1.1 (aF v.2.1.2))])⟩),(2,⟨false,1,s.1,(fun i_1=>[.p (.int .i64 (s.2 i_1))])⟩)] [0,579,643] 1 (cn+1) (fun i=>if (i<cn) then [.p (.seq false 1 ((C i).1) (fun i_1=>[.int .i64 ((C i).2 i_1)]))] else [.ar 1 2 0 s.1]) (fun i=>[.p (.seq false 1 (if i<cn then (C i).1 else s.1) (fun i_1=>[.int .i64 ((ce cn C s i).2 i_1)]))])),(NL 0 0),(∀ i:Nat,(((i:Nat)<0)→(af []∧(([.p (.int .i64 0)]:List AV)=[.p (.int .i64 (lW.2 i))]))))]) [0,1,2,3,4,5,5,6,7,8,5,9,10,11,12,13,14,15,16,17,18,19,20,21,22,22,23,22,22,20,21,24,25,26,11,11,17,18,19,27,28,29,27,30,31]):=by kernel_rfl
theorem Oc (v:ai) (u:ad) (cn:Nat) (C:Nat→ad) (s:ad) (k:Nat) (b:Bool) :
    zP Tryz.f33 0 [rg 1,.dec true,rg 3,rg 2,.dec false,rm [(6,oc [] (jB b))] 2,.dec true,rg 2] rx (C3 v u cn C s k) [] 1 [] (.tup [.p .nil,jB false]) =
    some (zD (let A:Bool:=decide ((s.1:Int)<2);[((decide ((k:Int)<(u.1:Int)))=true),(IL 0 (k:Int)),(IT (k:Int) (u.1:Int)),((u.2 k != -1)=false),(((!A)=true)→(NT 0 1)),(AG (!A)),(((!A)=true)→(AN 1)),(((!A)=true)→(NL s.1 s.1)),(((!A)=true)→zE 36 [(br v),.p (.seq true 1 s.1 (c8 s))] [] (jB b)),((A=false)→((!A)=true)),((bif A then true else !b)=true),(false=false)]) [0,1,2,3,4,5,5,6,7,8,5,9,10,11]):=by kernel_rfl
theorem Ki (v:ai) (u:ad) (cn:Nat) (C:Nat→ad) (s:ad) (k:Nat) :
    zP Tryz.f33 0 [rg 1,.dec false,rg 3] rx (C3 v u cn C s k) [1] 1 [(0,iH cn C)] (.tup [.ar 1 0 0 cn,jB true]) =
    some [((decide ((k:Int)<(u.1:Int)))=false),(AN 0),(AN cn),(true=true),(AN 1),(NL cn cn),(AA cn (fun i=>[.p (.seq false 1 ((C i).1) (fun i_1=>[.int .i64 ((C i).2 i_1)]))])),(∀ i:Nat,(((i:Nat)<cn)→af [(false=false),(AE (((C i).1)))]))]:=by kernel_rfl
def Ec (m:Nat→Bool):Nat→Nat→Int
  | 0,_=>-1
  | d+1,i=>if m i=true then Ec m d (i+1) else (i:Int)
theorem zZ (m:Nat→Bool):∀ d i,(∀ j,j<i→m j=true)→decide (Ec m d i≥0)=!a8 m (i+d)
  | 0,i,h=>by
    rw [Nat.add_zero,(bY m i).2 h];rfl
  | d+1,i,h=>by
    rw [Ec]
    cases hm:m i with
    | true =>
      rw [if_pos rfl,zZ m d (i+1) (fun j hj=>by
        by_cases e:j=i
        · rw [e];exact hm
        · exact h j (by omega)),show i+1+d=i+(d+1) by omega]
    | false =>
      rw [if_neg Bool.false_ne_true,ib (show i<i+(d+1) by omega) hm,decide_eq_true (by omega)];rfl
theorem vb (n:Nat) (m:Nat→Bool) (hn:n≤1048576):zE 73 [EU n m,.p (.bool false)] [] (.p (.int .i64 (Ec m n 0))):=by
  refine aW Tryz.func73 (fun c hc=>?_)
  have lo:∀ d k,k+d=n→zR c 73 yv (Fe n m k) (aS c [] (.p (.int .i64 (Ec m d k)))):=by
    intro d
    induction d with
    | zero =>
      intro k hk
      have hd:decide ((k:Int)<(n:Int))=false:=decide_eq_false (by omega)
      refine be Tryz.func73 hc (LJ n m k) ?_
      and_intros
      all_goals (first | exact zN | (exact hd))
    | succ d ih =>
      intro k hk
      have hd:decide ((k:Int)<(n:Int))=true:=decide_eq_true (by omega)
      rw [Ec]
      cases hm:m k with
      | true =>
        rw [if_pos rfl]
        refine a9 hc (Ok n m k) ?_ (ih (k+1) (by omega))
        and_intros
        all_goals (first | exact zN | (exact hd) | (rw [hm];rfl) | (intros;simp [af];done))
      | false =>
        rw [if_neg Bool.false_ne_true]
        refine be Tryz.func73 hc (Kd n m k) ?_
        and_intros
        all_goals (first | exact zN | (exact hd) | (rw [hm];rfl))
  refine a9 hc (L5 n m) ?_ (lo n 0 (by omega))
  and_intros
  all_goals (first | exact zN | (intros;simp [af];done))
theorem wS (n:Nat) (m:Nat→Bool) (hn:n≤1048576):zE 35 [EU n m,.p (.bool false)] [] (.p (.bool !(a8 m n))):=by
  have c1:=vb n m hn
  have e:=zZ m n 0 (fun j hj=>absurd hj (Nat.not_lt_zero _))
  rw [Nat.zero_add] at e
  rw [← e]
  refine aW Tryz.func35 (fun c hc=>?_)
  refine be Tryz.func35 hc (Lj n m (Ec m n 0)) ?_
  and_intros
  all_goals (first | exact zN | (exact c1))
def tz (g:Nat→aa) (n:Nat) (x:aa):Bool:=E4 (fun i=>mL x (g i)) n
theorem qb (p:Nat→Bool):∀ n,E4 p n=true↔∃ i,i<n∧p i=true
  | 0=>⟨fun h=>Bool.noConfusion (show false=true from h),fun ⟨i,h,_⟩=>absurd h (Nat.not_lt_zero _)⟩
  | n+1=>by
    rw [E4,Bool.or_eq_true,qb p n]
    constructor
    · rintro (⟨i,h1,h2⟩ | h)
      · exact ⟨i,by omega,h2⟩
      · exact ⟨n,by omega,h⟩
    · rintro ⟨i,h1,h2⟩
      by_cases e:i=n
      · right;rw [← e];exact h2
      · left;exact ⟨i,by omega,h2⟩
theorem u5 (g:Nat→aa) (x:aa):∀ d i,decide (kW g x d i≥0)=true↔∃ j,i≤j∧j<i+d∧mL x (g j)=true
  | 0,i=>by
    rw [kW]
    constructor
    · intro h;exact absurd h (by decide)
    · rintro ⟨j,h1,h2,_⟩;omega
  | d+1,i=>by
    rw [kW]
    by_cases h:mL x (g i)=true
    · rw [if_pos h]
      constructor
      · intro _;exact ⟨i,Nat.le_refl _,by omega,h⟩
      · intro _;exact decide_eq_true (by omega)
    · rw [if_neg h,u5 g x d (i+1)]
      constructor
      · rintro ⟨j,h1,h2,h3⟩;exact ⟨j,by omega,by omega,h3⟩
      · rintro ⟨j,h1,h2,h3⟩
        refine ⟨j,?_,by omega,h3⟩
        by_cases e:j=i
        · rw [e] at h3;exact absurd h3 h
        · omega
theorem DK (g:Nat→aa) (n:Nat) (x:aa):decide (kW g x n 0≥0)=tz g n x:=by
  rw [Bool.eq_iff_iff,u5,tz,qb]
  constructor
  · rintro ⟨j,_,h2,h3⟩;exact ⟨j,by omega,h3⟩
  · rintro ⟨j,h2,h3⟩;exact ⟨j,Nat.zero_le _,by omega,h3⟩
theorem yC (v:ai) (x:aa) (hn:v.2.1.1≤1048576):zE 32 [cJ v.2.1,.agg [.p (.int .i64 x.1),.p (.int .i64 x.2.1)]] [] (.p (.bool (tz v.2.1.2 v.2.1.1 x))):=by
  have c1:=mM v x hn
  rw [← DK]
  refine aW Tryz.func32 (fun c hc=>?_)
  refine be Tryz.func32 hc (Nf v x (kW v.2.1.2 x v.2.1.1 0)) ?_
  and_intros
  all_goals (first | exact zN | (exact c1))
theorem oM {f:Nat→Int} {x:Int}:∀ n,(∀ i,i<n→f i≠x)→a0 f x n=false
  | 0,_=>rfl
  | n+1,h=>by
    simp only [a0]
    rw [oM n (fun i hi=>h i (by omega)),Bool.false_or]
    exact beq_eq_false_iff_ne.2 (h n (by omega))
theorem qB {N:Int} {s:Nat→Int}:∀ n,(∀ a,a<n→0≤s a∧s a<N)→(∀ a b,a<b→b<n→s a≠s b)→ek N s n=true
  | 0,_,_=>rfl
  | n+1,h1,h2=>by
    have ih:=qB n (fun a ha=>h1 a (by omega)) (fun a b hab hb=>h2 a b hab (by omega))
    have hd:ub N s n=false:=by
      unfold ub
      have:=h1 n (by omega)
      rw [show bC (s n) 0 (N - 1)=true by simp [bC];omega]
      show a0 s (s n) n=false
      exact oM n (fun i hi=>h2 i n hi (by omega))
    simp only [ek,ih,hd]
    rfl
theorem uZ {N:Int} {l:List Int} {n:Nat} (hl:l.length=n) (h1:∀ x∈l,0≤x∧x<N) (h2:l.Nodup):ek N (lO l).2 n=true:=by
  subst hl
  refine qB _ (fun a ha=>?_) (fun a b hab hb=>?_)
  · show 0≤l.getD a 0∧l.getD a 0<N
    rw [List.getD_eq_getElem?_getD,List.getElem?_eq_getElem ha]
    exact h1 _ (List.getElem_mem ha)
  · show l.getD a 0≠l.getD b 0
    rw [List.getD_eq_getElem?_getD,List.getD_eq_getElem?_getD,List.getElem?_eq_getElem hb,List.getElem?_eq_getElem (show a<l.length by omega)]
    exact (List.pairwise_iff_getElem.1 h2) a b (by omega) hb hab
theorem AK {α:Type} {l:List α} (h:l.length=2):∃ x y,l=[x,y]:=by
  match l,h with
  | [x,y],_=>exact ⟨x,y,rfl⟩
theorem l5 {α:Type} {l:List α} (h:l.length=3):∃ x y z,l=[x,y,z]:=by
  match l,h with
  | [x,y,z],_=>exact ⟨x,y,z,rfl⟩
theorem te {N:Nat} {M:List (Nat×Nat)} (hs:Mat.Sparse N 2 3 M) (x:Nat×Nat) (h:2≤Mat.cnt (fun u=>u==x.1||u==x.2) M):False:=by
  have h1:=hs _ (show 0<Mat.cnt (fun u=>u==x.1||u==x.2) M by omega)
  have h2:=Mat.card_pair x.1 x.2 N
  omega
theorem ns (x:Nat×Nat):Mat.inn (fun u=>u==x.1||u==x.2) x=true:=by simp [Mat.inn]
theorem vq (x:aa):mL x x=true:=by simp [mL]
theorem sJ {α:Type}:∀ (l:List α) (k:Nat) (h:k<l.length),(l[k]::l.eraseIdx k).Perm l
  | x::l,0,_=>by simp
  | x::l,k+1,h=>by
    have ih:=sJ l k (by simpa using h)
    simp only [List.getElem_cons_succ,List.eraseIdx_cons_succ]
    exact (List.Perm.swap x _ _).trans (ih.cons x)
theorem DI (n:Nat) (h:Nat→aa) (k:Nat) (hk:k<n):al (n - 1) (ou h k)=(al n h).eraseIdx k:=by
  have hl:((al n h).eraseIdx k).length=n - 1:=by rw [List.length_eraseIdx];rw [aC];simp [hk]
  refine List.ext_getElem (by rw [aC,hl]) (fun i h1 h2=>?_)
  rw [aC] at h1
  rw [List.getElem_eraseIdx]
  have e1:(al (n - 1) (ou h k))[i]'(by rw [aC];exact h1)=ou h k i:=by simp [al]
  rw [e1]
  by_cases h':i<k
  · rw [dif_pos h']
    simp [ou,h',al]
  · rw [dif_neg h']
    simp [ou,h',al,show i+1<n by omega]
theorem lK {N n:Nat} {g:Nat→aa} (h:uQ N (al n g)) (p:Nat):bm g (p:Int) n=((Mat.dgL p ((al n g).map bB):Nat):Int):=by rw [qW,t8 p h]
theorem Inv.keep {N n:Nat} {g:Nat→aa} (h:Inv N (n,g)) (h1:1<n) {w:Nat} (hw:Mat.tch ((al n g).map bB) w=true) {l:List aa} (hg:uQ N l) (hs:Mat.Sparse N 2 3 (l.map bB)) (hn:l.length+2=n)
    (hin:∀ x∈l,x∈al n g∧bc x w=false∨(∀ t:Nat,bc x t=true→Mat.tch ((al n g).map bB) t=true∧t≠w)) :
    Mat.Full N (l.map bB)∧(∀ u,u≠w→Mat.tch ((al n g).map bB) u=true→0<Mat.dgL u (l.map bB))∧Mat.dgL w (l.map bB)=0:=by
  have hgd:uQ N (al n g):=h.gd
  obtain ⟨k1,k2,k3⟩:=Mat.hen_keep (L:=(al n g).map bB) (E:=l.map bB) (v:=w) (eG hgd) (eG hg) hs h.fl (by rw [List.length_map,aC];omega) hw (by rw [List.length_map,List.length_map,aC];omega) (fun x hx=>by
    obtain ⟨y,hy,rfl⟩:=List.mem_map.1 hx
    have hb:=hg y hy
    rcases hin y hy with ⟨h2,h3⟩ | h2
    · have h4:=Mat.ends_tch (L:=(al n g).map bB) (bB y) (List.mem_map.2 ⟨y,h2,rfl⟩)
      have h5:=l7 hb w
      rw [h3] at h5
      refine ⟨⟨h4.1,fun e=>?_⟩,h4.2,fun e=>?_⟩
      · rw [Mat.tb_iff.2 (.inl e)] at h5;cases h5
      · rw [Mat.tb_iff.2 (.inr e)] at h5;cases h5
    · exact ⟨h2 (bB y).1 (by rw [← l7 hb];exact Mat.tb_iff.2 (.inl rfl)),h2 (bB y).2 (by rw [← l7 hb];exact Mat.tb_iff.2 (.inr rfl))⟩)
  refine ⟨k1,fun u hu ht=>?_,?_⟩
  · have:=k2 u hu ht
    unfold Mat.tch at this
    exact of_decide_eq_true this
  · unfold Mat.tch at k3
    rw [decide_eq_false_iff_not] at k3
    omega
theorem kr {l:List aa} {N:Nat} (hg:uQ N l) {x:aa} (hx:x∈l) {t:Nat} (ht:bc x t=true):Mat.tch (l.map bB) t=true :=
  Mat.tch_iff.2 ⟨bB x,List.mem_map.2 ⟨x,hx,rfl⟩,by rw [l7 (hg x hx)];exact ht⟩
theorem gK (x:aa) (v:Int):bc x (aw x v)=true:=by
  refine (fk _ _).2 ?_
  unfold aw
  split
  · exact .inr rfl
  · exact .inl rfl
theorem lD (R:Nat→Bool) {L M F:List (Nat×Nat)} (h:L.Perm (M++F)):Mat.cnt R L=Mat.cnt R M+Mat.cnt R F:=by rw [Mat.cnt_perm R h,Mat.cnt_append]
theorem rY {N:Nat} {L M F:List (Nat×Nat)} (hs:Mat.Sparse N 2 3 L) (h:L.Perm (M++F)):Mat.Sparse N 2 3 M:=fun R hR=>by
  have e:=lD R h
  have:=hs R (by omega)
  omega
theorem qk {N n:Nat} {g:Nat→aa} (h:ah ((N:Int),(n,g),())=true):(al n g).Pairwise jh:=jl (cD h).2.2.2
theorem Bj {N n:Nat} {g:Nat→aa} (h:Inv N (n,g)) (h1:1<n) {w:Nat} {u:NB×ap} (hu:gi (ba g w n) (bq g w n) w=some u) :
    Inv N u.1∧u.1.1+2=n∧∀ E:Nat→aa,al u.1.1 E=al u.1.1 u.1.2→vf N u.1.1 E u.2=some (al n g):=by
  unfold gi at hu
  by_cases hn:(bq g w n).1=2
  case neg=>rw [if_neg hn] at hu;cases hu
  rw [if_pos hn] at hu
  cases hu
  have hgd:uQ N (al n g):=h.gd
  have hp:=mT (al n g) (w:Int)
  have hnl:=nA g (w:Int) n
  have hnn:=iM g (w:Int) n
  rw [hn] at hnl
  obtain ⟨x1,x2,hF⟩:=AK (l:=(al n g).filter (fun x=>bc x w)) (by have:=congrArg List.length hnl;simpa using this.symm)
  rw [hF] at hnl hp
  have hnl:[(bq g w n).2 0,(bq g w n).2 1]=[aw x1 w,aw x2 w]:=hnl
  have e0:=(List.cons.inj hnl).1
  have e1:=(List.cons.inj (List.cons.inj hnl).2).1
  have m1:x1∈al n g∧bc x1 w=true:=List.mem_filter.1 (show x1∈(al n g).filter (fun x=>bc x w) by rw [hF];simp)
  have m2:x2∈al n g∧bc x2 w=true:=List.mem_filter.1 (show x2∈(al n g).filter (fun x=>bc x w) by rw [hF];simp)
  obtain ⟨b1,o1,o2,o3⟩:=gP (hgd x1 m1.1) m1.2
  obtain ⟨b2,q1,q2,q3⟩:=gP (hgd x2 m2.1) m2.2
  have hpm:=hp.map bB
  rw [List.map_append] at hpm
  have hD:=pZ g (w:Int) n
  have hwN:w<N:=Mat.tch_lt (eG hgd) (kr hgd m1.1 m1.2)
  have hne:aw x1 w≠aw x2 w:=fun e=>by
    have e':x1=x2:=by rw [← b1,← b2,e]
    refine te h.sp (bB x1) ?_
    rw [lD _ hpm,← e']
    have:=ns (bB x1)
    simp only [List.map_cons,List.map_nil,Mat.cnt,this,Bool.toNat_true]
    omega
  have hgD:uQ N ((al n g).filter (fun x=>!bc x w)):=fun x hx=>hgd x (List.mem_filter.1 hx).1
  have hsD:=rY h.sp hpm
  obtain ⟨k1,k2,k3⟩:=h.keep h1 (w:=w) (kr hgd m1.1 m1.2) (l:=(al n g).filter (fun x=>!bc x w)) hgD hsD (by rw [← hD,aC];omega) (fun x hx=>.inl ⟨(List.mem_filter.1 hx).1,by have:=(List.mem_filter.1 hx).2;simpa using this⟩)
  refine ⟨⟨ol h.gr w,by rw [hD];exact hsD,by rw [hD];exact k1⟩,by show (ba g w n).1+2=n;omega,fun E hE=>?_⟩
  have hE:al (ba g w n).1 E=(al n g).filter (fun x=>!bc x w):=hE.trans hD
  show vf N (ba g w n).1 E (1,w,(bq g w n).2 0,(bq g w n).2 1,0,())=_
  rw [e0,e1]
  unfold vf
  rw [if_neg (show ¬ ((1:Int),(w:Int),aw x1 w,aw x2 w,(0:Int),()).1=0 by show ¬ (1:Int)=0;omega),if_pos (show ((1:Int),(w:Int),aw x1 w,aw x2 w,(0:Int),()).1=1 from rfl)]
  have hgE:uQ N (al (ba g w n).1 E):=by rw [hE];exact hgD
  have c1:ek (N:Int) (lO [(w:Int),aw x1 w,aw x2 w]).2 3=true:=uZ rfl (fun x hx=>by
    simp only [List.mem_cons,List.not_mem_nil,or_false] at hx
    rcases hx with e | e | e<;>(subst e;omega)) (by simp [List.nodup_cons];exact ⟨⟨fun e=>o3 e.symm,fun e=>q3 e.symm⟩,hne⟩)
  have c2:bm E (w:Int) (ba g w n).1=0:=by rw [lK hgE,hE,k3];rfl
  have pos:∀ t:Int,0≤t→t≠w→(∃ x,x∈al n g∧bc x t=true)→bm E t (ba g w n).1>0:=fun t ht hne ⟨x,hx,hxt⟩=>by
    obtain ⟨t,rfl⟩:=Int.eq_ofNat_of_zero_le ht
    rw [lK hgE,hE]
    have:=k2 t (by omega) (kr hgd hx hxt)
    omega
  rw [if_pos (show (0:Int)=0∧ek (N:Int) (lO [(w:Int),aw x1 w,aw x2 w]).2 3=true∧bm E (w:Int) (ba g w n).1=0∧bm E (aw x1 w) (ba g w n).1>0∧bm E (aw x2 w) (ba g w n).1>0 from
    ⟨rfl,c1,c2,pos _ o1 o3 ⟨x1,m1.1,gK _ _⟩,pos _ q1 q3 ⟨x2,m2.1,gK _ _⟩⟩)]
  show some (bw (al (ba g w n).1 E++[aD w (aw x1 w),aD w (aw x2 w)]))=_
  rw [b1,b2,hE,← ik hp (qk h.gr)]
theorem zx {N n:Nat} {g:Nat→aa} (h:Inv N (n,g)) (h1:1<n) {w:Nat} {x1 x2 x3:aa} (hF:(al n g).filter (fun x=>bc x w)=[x1,x2,x3]) {p q r:Int}
    (hpq:[p,q,r].Perm [aw x1 w,aw x2 w,aw x3 w]) (hs:lB N (uP (ba g w n) (aD p q))=true) :
    Inv N (uP (ba g w n) (aD p q))∧(uP (ba g w n) (aD p q)).1+2=n∧∀ E:Nat→aa,al (uP (ba g w n) (aD p q)).1 E=al (uP (ba g w n) (aD p q)).1 (uP (ba g w n) (aD p q)).2 →
      vf N (uP (ba g w n) (aD p q)).1 E (2,w,(aD p q).1,(aD p q).2.1,r,())=some (al n g):=by
  have hgd:uQ N (al n g):=h.gd
  have hp:=mT (al n g) (w:Int)
  have hnl:=nA g (w:Int) n
  have hnn:=iM g (w:Int) n
  rw [hF] at hnl hp
  have hlen:=congrArg List.length hnl
  simp only [List.length_map,List.length_range,List.length_cons,List.length_nil] at hlen
  have mem:∀ x∈[x1,x2,x3],x∈al n g∧bc x w=true:=fun x hx=>List.mem_filter.1 (by rw [hF];exact hx)
  have m1:=mem x1 (by simp)
  have m2:=mem x2 (by simp)
  have m3:=mem x3 (by simp)
  obtain ⟨b1,o1⟩:=gP (hgd x1 m1.1) m1.2
  obtain ⟨b2,o2⟩:=gP (hgd x2 m2.1) m2.2
  obtain ⟨b3,o3⟩:=gP (hgd x3 m3.1) m3.2
  have hpm:=hp.map bB
  rw [List.map_append] at hpm
  have hD:=pZ g (w:Int) n
  have tw:=kr hgd m1.1 m1.2
  have hwN:w<N:=Mat.tch_lt (eG hgd) tw
  have dis:∀ x y z:aa,[x1,x2,x3].Perm [x,y,z]→aD w (aw x w)=x→aD w (aw y w)=y→aw x w≠aw y w:=fun x y z hpp ex ey e=>by
    have e':x=y:=by rw [← ex,← ey,e]
    refine te h.sp (bB x) ?_
    rw [lD _ hpm,Mat.cnt_perm _ (hpp.map bB),← e']
    have:=ns (bB x)
    simp only [List.map_cons,List.map_nil,Mat.cnt,this,Bool.toNat_true]
    omega
  have nd:[aw x1 w,aw x2 w,aw x3 w].Nodup:=by
    have d12:=dis x1 x2 x3 (List.Perm.refl _) b1 b2
    have d13:=dis x1 x3 x2 ((List.Perm.swap x3 x2 []).cons x1) b1 b3
    have d23:=dis x2 x3 x1 ((List.Perm.swap x2 x1 [x3]).trans ((List.Perm.swap x3 x1 []).cons x2)) b2 b3
    simp [List.nodup_cons,d12,d13,d23]
  have ndp:[p,q,r].Nodup:=hpq.nodup_iff.2 nd
  have inr:∀ t∈[p,q,r],(0≤t∧t<N)∧t≠w∧∃ x,x∈al n g∧bc x t=true:=fun t ht=>by
    have:=hpq.mem_iff.1 ht
    simp only [List.mem_cons,List.not_mem_nil,or_false] at this
    rcases this with e | e | e
    · subst e;exact ⟨⟨o1.1,o1.2.1⟩,o1.2.2,x1,m1.1,gK _ _⟩
    · subst e;exact ⟨⟨o2.1,o2.2.1⟩,o2.2.2,x2,m2.1,gK _ _⟩
    · subst e;exact ⟨⟨o3.1,o3.2.1⟩,o3.2.2,x3,m3.1,gK _ _⟩
  have ip:=inr p (by simp)
  have iq:=inr q (by simp)
  have ir:=inr r (by simp)
  have hpqne:p≠q:=by simp [List.nodup_cons] at ndp;exact ndp.1.1
  have yin:=gI (N:=(N:Int)) ip.1 iq.1 hpqne
  obtain ⟨y,hy⟩:∃ y,y=aD p q:=⟨_,rfl⟩
  have yends:[y.1,y.2.1].Perm [p,q]:=by
    rw [hy]
    by_cases e:q<p
    · have:aD p q=(q,p,()):=by unfold aD;rw [if_pos e,if_neg (show ¬ q>p by omega)]
      rw [this];exact List.Perm.swap _ _ _
    · have:aD p q=(p,q,()):=dX (by omega)
      rw [this]
  rw [← hy] at yin hs ⊢
  have hD2:al ((ba g w n).1+1) (df ((ba g w n).1+1) (aZ (ba g w n).1 (ba g w n).2 y))=bw ((al n g).filter (fun x=>!bc x w)++[y]):=by rw [ma,cH,hD]
  have hper:(bw ((al n g).filter (fun x=>!bc x w)++[y])).Perm ((al n g).filter (fun x=>!bc x w)++[y]):=e7 _
  have hgr:ah ((N:Int),uP (ba g w n) y,())=true∧(mz (uP (ba g w n) y).2 (uP (ba g w n) y).1 N 2 3 (2 ^ N - 1) 1).2=false:=by
    unfold lB at hs
    cases hg:ah ((N:Int),((uP (ba g w n) y).1,(uP (ba g w n) y).2),()) with
    | false=>rw [hg] at hs;cases hs
    | true=>rw [hg] at hs;exact ⟨by first | rfl | exact hg,by simpa using hs⟩
  obtain ⟨hg,hov⟩:=hgr
  obtain ⟨gN,_,gok⟩:=aB (nb:=(uP (ba g w n) y).1) (g:=(uP (ba g w n) y).2) hg
  have hsp:=(i4 gok gN.2).1 hov
  rw [eP] at hsp
  have hsp:Mat.Sparse N 2 3 ((bw ((al n g).filter (fun x=>!bc x w)++[y])).map bB):=by rw [← hD2];exact hsp
  have hgU:uQ N (bw ((al n g).filter (fun x=>!bc x w)++[y])):=fun x hx=>by
    have:=hper.mem_iff.1 hx
    rw [List.mem_append] at this
    rcases this with e | e
    · exact hgd x (List.mem_filter.1 e).1
    · rw [List.mem_singleton] at e
      subst e;exact yin
  have hlU:(bw ((al n g).filter (fun x=>!bc x w)++[y])).length+2=n:=by
    rw [cB,List.length_append,← hD,aC]
    simp only [List.length_cons,List.length_nil]
    omega
  obtain ⟨k1,k2,k3⟩:=h.keep h1 (w:=w) tw (l:=bw ((al n g).filter (fun x=>!bc x w)++[y])) hgU hsp hlU (fun x hx=>by
    have:=hper.mem_iff.1 hx
    rw [List.mem_append] at this
    rcases this with e | e
    · exact .inl ⟨(List.mem_filter.1 e).1,by have:=(List.mem_filter.1 e).2;simpa using this⟩
    · rw [List.mem_singleton] at e
      subst e
      refine .inr (fun t ht=>?_)
      have h2:(t:Int)∈[x.1,x.2.1]:=by
        rcases (fk _ _).1 ht with e | e
        · rw [e];simp
        · rw [e];simp
      have h3:=yends.mem_iff.1 h2
      have h4:=inr (t:Int) (by
        simp only [List.mem_cons,List.not_mem_nil,or_false] at h3 ⊢
        rcases h3 with e | e
        · exact .inl e
        · exact .inr (.inl e))
      obtain ⟨_,hne,z,z1,z2⟩:=h4
      exact ⟨kr hgd z1 z2,by omega⟩)
  refine ⟨⟨hg,?_,?_⟩,?_,fun E hE=>?_⟩
  · show Mat.Sparse N 2 3 ((al ((ba g w n).1+1) (df ((ba g w n).1+1) (aZ (ba g w n).1 (ba g w n).2 y))).map bB)
    rw [hD2];exact hsp
  · show Mat.Full N ((al ((ba g w n).1+1) (df ((ba g w n).1+1) (aZ (ba g w n).1 (ba g w n).2 y))).map bB)
    rw [hD2];exact k1
  · show (ba g w n).1+1+2=n
    omega
  have hE:al ((ba g w n).1+1) E=bw ((al n g).filter (fun x=>!bc x w)++[y]):=by rw [← hD2];exact hE
  show vf N ((ba g w n).1+1) E (2,w,y.1,y.2.1,r,())=_
  generalize hk:(ba g w n).1+1=k at hE
  have hgE:uQ N (al k E):=by rw [hE];exact hgU
  unfold vf
  rw [if_neg (show ¬ ((2:Int),(w:Int),y.1,y.2.1,r,()).1=0 by show ¬ (2:Int)=0;omega),if_neg (show ¬ ((2:Int),(w:Int),y.1,y.2.1,r,()).1=1 by show ¬ (2:Int)=1;omega),if_pos (show ((2:Int),(w:Int),y.1,y.2.1,r,()).1=2 from rfl)]
  have ey:aD y.1 y.2.1=y:=dX yin.2.1
  have c2:bm E (w:Int) k=0:=by rw [lK hgE,hE,k3];rfl
  have c3:bm E r k>0:=by
    obtain ⟨⟨r1,r2⟩,r3,x,x1',x2'⟩:=ir
    obtain ⟨t,rfl⟩:=Int.eq_ofNat_of_zero_le r1
    rw [lK hgE,hE]
    have:=k2 t (by omega) (kr hgd x1' x2')
    omega
  have per3:[y.1,y.2.1,r].Perm [p,q,r]:=yends.append_right [r]
  have c1:ek (N:Int) (lO [(w:Int),y.1,y.2.1,r]).2 4=true:=uZ rfl (fun x hx=>by
    rw [List.mem_cons] at hx
    rcases hx with e | e
    · subst e;omega
    · exact (inr x (per3.mem_iff.1 e)).1) (by
    rw [List.nodup_cons]
    exact ⟨fun hm=>(inr _ (per3.mem_iff.1 hm)).2.1 rfl,per3.nodup_iff.2 ndp⟩)
  have hyE:y∈al k E:=by rw [hE];exact hper.mem_iff.2 (by simp)
  have c0:kW E y k 0≥0:=by
    obtain ⟨j,j1,j2⟩:=hY hyE
    have:=(u5 E y k 0).2 ⟨j,Nat.zero_le _,by omega,by rw [j2];exact vq y⟩
    exact of_decide_eq_true this
  obtain ⟨i0,i1⟩:(kW E y k 0).toNat<k∧E (kW E y k 0).toNat=y:=by
    rcases uh E y k 0 with e | ⟨e1,e2,e3⟩
    · omega
    · exact ⟨by omega,(Cy e3).symm⟩
  rw [if_pos (show kW E (aD y.1 y.2.1) k 0≥0∧ek (N:Int) (lO [(w:Int),y.1,y.2.1,r]).2 4=true∧bm E (w:Int) k=0∧bm E r k>0 from ⟨by rw [ey];exact c0,c1,c2,c3⟩)]
  show some (bw (al (k - 1) (ou E (kW E (aD y.1 y.2.1) k 0).toNat)++[aD w y.1,aD w y.2.1,aD w r]))=_
  rw [ey,DI k E _ i0]
  have pe:=sJ (al k E) (kW E y k 0).toNat (by rw [aC];exact i0)
  have ge:(al k E)[(kW E y k 0).toNat]'(by rw [aC];exact i0)=y:=by simp [al,i1]
  rw [ge] at pe
  have pd:((al k E).eraseIdx (kW E y k 0).toNat).Perm ((al n g).filter (fun x=>!bc x w)):=by
    have h2:=pe.trans (show (al k E).Perm ((al n g).filter (fun x=>!bc x w)++[y]) by rw [hE];exact hper)
    exact (h2.trans (List.perm_append_comm (l₁:=(al n g).filter (fun x=>!bc x w)) (l₂:=[y]))).cons_inv
  have p3:[aD w y.1,aD w y.2.1,aD w r].Perm [x1,x2,x3]:=by
    have h2:=(per3.trans hpq).map (fun t=>aD w t)
    simp only [List.map_cons,List.map_nil] at h2
    rw [b1,b2,b3] at h2
    exact h2
  have:=ik (hp.trans ((pd.append p3).symm)) (qk h.gr)
  rw [← this]
theorem w7 {N n:Nat} {g:Nat→aa} (h:Inv N (n,g)) (h1:1<n) {u:NB×ap} (hu:ja N g n=some u) :
    Inv N u.1∧u.1.1+2=n∧∀ E:Nat→aa,al u.1.1 E=al u.1.1 u.1.2→vf N u.1.1 E u.2=some (al n g):=by
  unfold ja at hu
  cases h2:b7 (fun v=>gi (ba g v n) (bq g v n) v) N 0 with
  | some x =>
    rw [h2,Option.some_or] at hu
    cases hu
    obtain ⟨w,hw⟩:=ef _ _ h2
    exact Bj h h1 hw
  | none =>
    rw [h2,Option.none_or] at hu
    obtain ⟨w,hw⟩:=ef _ _ hu
    unfold dU at hw
    by_cases hn:(bq g w n).1=3
    case neg=>rw [if_neg hn] at hw;cases hw
    rw [if_pos hn] at hw
    have hnl:=nA g (w:Int) n
    rw [hn] at hnl
    obtain ⟨x1,x2,x3,hF⟩:=l5 (l:=(al n g).filter (fun x=>bc x w)) (by have:=congrArg List.length hnl;simpa using this.symm)
    rw [hF] at hnl
    have hnl:[(bq g w n).2 0,(bq g w n).2 1,(bq g w n).2 2]=[aw x1 w,aw x2 w,aw x3 w]:=hnl
    have e0:=(List.cons.inj hnl).1
    have e1:=(List.cons.inj (List.cons.inj hnl).2).1
    have e2:=(List.cons.inj (List.cons.inj (List.cons.inj hnl).2).2).1
    rw [e0,e1,e2] at hw
    have one:∀ p q r:Int,[p,q,r].Perm [aw x1 w,aw x2 w,aw x3 w]→d9 N (ba g w n) w p q r=some u→Inv N u.1∧u.1.1+2=n∧∀ E:Nat→aa,al u.1.1 E=al u.1.1 u.1.2→vf N u.1.1 E u.2=some (al n g):=fun p q r hp ht=>by
      unfold d9 at ht
      cases hs:lB N (uP (ba g w n) (aD p q)) with
      | false=>rw [hs] at ht;cases ht
      | true =>
        rw [hs] at ht
        simp only [cond_true,Option.some.injEq] at ht
        subst ht
        exact zx h h1 hF hp hs
    cases t0:d9 N (ba g w n) w (aw x1 w) (aw x2 w) (aw x3 w) with
    | some x=>rw [t0,Option.some_or] at hw;cases hw;exact one _ _ _ (List.Perm.refl _) t0
    | none =>
      rw [t0,Option.none_or] at hw
      cases t1:d9 N (ba g w n) w (aw x2 w) (aw x3 w) (aw x1 w) with
      | some x=>rw [t1,Option.some_or] at hw;cases hw;exact one _ _ _ (((List.Perm.swap (aw x1 w) (aw x3 w) []).cons _).trans (List.Perm.swap (aw x1 w) (aw x2 w) _)) t1
      | none =>
        rw [t1,Option.none_or] at hw
        exact one _ _ _ ((List.Perm.swap (aw x1 w) (aw x3 w) _).trans ((List.Perm.swap (aw x2 w) (aw x3 w) []).cons _)) hw
theorem kc {α:Type} {F:Nat→Option α}:∀ d v w,v≤w→w<v+d→(∃ u,F w=some u)→∃ u,b7 F d v=some u
  | 0,v,w,h1,h2,_=>by omega
  | d+1,v,w,h1,h2,h3=>by
    rw [show b7 F (d+1) v=(F v).or (b7 F d (v+1)) from rfl]
    cases hv:F v with
    | some x=>exact ⟨x,rfl⟩
    | none =>
      rw [Option.none_or]
      refine kc d (v+1) w ?_ (by omega) h3
      by_cases e:w=v
      · subst e
        obtain ⟨u,hu⟩:=h3
        rw [hu] at hv;cases hv
      · omega
theorem xF {N n:Nat} {g:Nat→aa} (h:Inv N (n,g)) (h1:1<n):∃ u,ja N g n=some u:=by
  have hgd:uQ N (al n g):=h.gd
  have hodd:=h.len
  obtain ⟨gN,gnb,gok⟩:=aB (nb:=n) (g:=g) h.gr
  have hle:=h.le
  obtain ⟨v,hv,hd⟩:=Mat.deg_some h.sp (eG hgd) h.fl (by rw [List.length_map,aC];show 2≤n;omega)
  have hnl:=nA g (v:Int) n
  have hnr:(bq g v n).1=Mat.dgL v ((al n g).map bB):=by
    rw [t8 v hgd]
    have:=congrArg List.length hnl
    simpa using this
  have hd:Mat.dgL v ((al n g).map bB)=2∨Mat.dgL v ((al n g).map bB)=3:=hd
  unfold ja
  rcases hd with hd | hd
  · obtain ⟨u,hu⟩:=kc (F:=fun v=>gi (ba g v n) (bq g v n) v) N 0 v (Nat.zero_le _) (by omega) ⟨_,by unfold gi;rw [if_pos (by omega)]⟩
    exact ⟨u,by rw [hu,Option.some_or]⟩
  · cases h2:b7 (fun v=>gi (ba g v n) (bq g v n) v) N 0 with
    | some x=>exact ⟨x,by rw [Option.some_or]⟩
    | none =>
      rw [Option.none_or]
      refine kc (F:=fun v=>dU N (ba g v n) (bq g v n) v) N 0 v (Nat.zero_le _) (by omega) ?_
      have hn3:(bq g v n).1=3:=by omega
      rw [hn3] at hnl
      obtain ⟨x1,x2,x3,hF⟩:=l5 (l:=(al n g).filter (fun x=>bc x v)) (by have:=congrArg List.length hnl;simpa using this.symm)
      rw [hF] at hnl
      have hnl:[(bq g v n).2 0,(bq g v n).2 1,(bq g v n).2 2]=[aw x1 v,aw x2 v,aw x3 v]:=hnl
      have e0:=(List.cons.inj hnl).1
      have e1:=(List.cons.inj (List.cons.inj hnl).2).1
      have e2:=(List.cons.inj (List.cons.inj (List.cons.inj hnl).2).2).1
      have hp:=mT (al n g) (v:Int)
      rw [hF] at hp
      have hnn:=iM g (v:Int) n
      have mem:∀ x∈[x1,x2,x3],x∈al n g∧bc x v=true:=fun x hx=>List.mem_filter.1 (by rw [hF];exact hx)
      have m1:=mem x1 (by simp)
      have m2:=mem x2 (by simp)
      have m3:=mem x3 (by simp)
      obtain ⟨b1,o1⟩:=gP (hgd x1 m1.1) m1.2
      obtain ⟨b2,o2⟩:=gP (hgd x2 m2.1) m2.2
      obtain ⟨b3,o3⟩:=gP (hgd x3 m3.1) m3.2
      have hpm:=hp.map bB
      rw [List.map_append] at hpm
      have dis:∀ x y z:aa,[x1,x2,x3].Perm [x,y,z]→aD v (aw x v)=x→aD v (aw y v)=y→aw x v≠aw y v:=fun x y z hpp ex ey e=>by
        have e':x=y:=by rw [← ex,← ey,e]
        refine te h.sp (bB x) ?_
        rw [lD _ hpm,Mat.cnt_perm _ (hpp.map bB),← e']
        have:=ns (bB x)
        simp only [List.map_cons,List.map_nil,Mat.cnt,this,Bool.toNat_true]
        omega
      have d12:=dis x1 x2 x3 (List.Perm.refl _) b1 b2
      have d13:=dis x1 x3 x2 ((List.Perm.swap x3 x2 []).cons x1) b1 b3
      have d23:=dis x2 x3 x1 ((List.Perm.swap x2 x1 [x3]).trans ((List.Perm.swap x3 x1 []).cons x2)) b2 b3
      have hD:=pZ g (v:Int) n
      have hsD:=rY h.sp hpm
      have nat:∀ (x:aa) (a:Int),aD v a=x→0≤a→a≠v→bB x=(v,a.toNat)∨bB x=(a.toNat,v):=fun x a e ha hne=>by
        rw [← e]
        by_cases hl:a<v
        · have:aD (v:Int) a=(a,(v:Int),()):=by rw [wC];exact dX hl
          rw [this];exact .inr rfl
        · have:aD (v:Int) a=((v:Int),a,()):=dX (by omega)
          rw [this];exact .inl rfl
      have key:=Mat.hen3 h.sp hsD hpm hv (show (aw x1 v).toNat<N by omega) (show (aw x2 v).toNat<N by omega) (show (aw x3 v).toNat<N by omega) (by omega) (by omega) (by omega)
        (nat x1 _ b1 o1.1 o1.2.2) (nat x2 _ b2 o2.1 o2.2.2) (nat x3 _ b3 o3.1 o3.2.2)
      have good:∀ p q:Int,(0≤p∧p<N)→(0≤q∧q<N)→p≠q→¬ Mat.Imp N (((al n g).filter (fun x=>!bc x v)).map bB) p.toNat q.toNat→lB N (uP (ba g v n) (aD p q))=true:=fun p q hp hq hne hi=>by
        have yin:=gI (N:=(N:Int)) hp hq hne
        have hx:Mat.GoodBar N (bB (aD p q)):=by unfold Mat.GoodBar bB;simp only;omega
        have hs:=Mat.ext_sparse hsD hx (fun hI=>hi (by
          by_cases e:q<p
          · have:aD p q=(q,p,()):=by rw [wC];exact dX e
            rw [this] at hI
            obtain ⟨R,t,r1,r2⟩:=hI
            exact ⟨R,t,r2,r1⟩
          · have:aD p q=(p,q,()):=dX (by omega)
            rw [this] at hI
            exact hI))
        have hD2:al ((ba g v n).1+1) (df ((ba g v n).1+1) (aZ (ba g v n).1 (ba g v n).2 (aD p q)))=bw ((al n g).filter (fun x=>!bc x v)++[aD p q]):=by rw [ma,cH,hD]
        have hg:ah ((N:Int),((uP (ba g v n) (aD p q)).1,(uP (ba g v n) (aD p q)).2),())=true:=l9 (nb:=0) (g:=fun _=>(0,0,())) gN (by show (ba g v n).1+1≤24;omega) hD2 (fun x hx=>by
          rw [List.mem_append] at hx
          rcases hx with e | e
          · exact hgd x (List.mem_filter.1 e).1
          · rw [List.mem_singleton] at e
            subst e;exact yin)
        obtain ⟨_,_,ok⟩:=aB hg
        unfold lB
        rw [hg]
        have hsp:Mat.Sparse N 2 3 (bL (uP (ba g v n) (aD p q)).2 (uP (ba g v n) (aD p q)).1):=by
          rw [eP]
          show Mat.Sparse N 2 3 ((al ((ba g v n).1+1) (df ((ba g v n).1+1) (aZ (ba g v n).1 (ba g v n).2 (aD p q)))).map bB)
          rw [hD2]
          refine Mat.sparse_perm (((e7 _).map bB).symm) ?_
          rw [List.map_append]
          exact hs
        rw [(i4 ok gN.2).2 hsp]
        rfl
      show ∃ u,dU N (ba g v n) (bq g v n) v=some u
      unfold dU
      rw [if_pos hn3,e0,e1,e2]
      by_cases i1:Mat.Imp N (((al n g).filter (fun x=>!bc x v)).map bB) (aw x1 v).toNat (aw x2 v).toNat
      · by_cases i3:Mat.Imp N (((al n g).filter (fun x=>!bc x v)).map bB) (aw x2 v).toNat (aw x3 v).toNat
        · have i2:¬ Mat.Imp N (((al n g).filter (fun x=>!bc x v)).map bB) (aw x3 v).toNat (aw x1 v).toNat:=fun ⟨R,t,r1,r2⟩=>key ⟨i1,⟨R,t,r2,r1⟩,i3⟩
          have:=good _ _ ⟨o3.1,o3.2.1⟩ ⟨o1.1,o1.2.1⟩ (fun e=>d13 e.symm) i2
          have e3:d9 N (ba g v n) v (aw x3 v) (aw x1 v) (aw x2 v)=some (uP (ba g v n) (aD (aw x3 v) (aw x1 v)),(2,(v:Int),(aD (aw x3 v) (aw x1 v)).1,(aD (aw x3 v) (aw x1 v)).2.1,aw x2 v,())):=by unfold d9;rw [this];rfl
          rw [e3]
          cases d9 N (ba g v n) v (aw x1 v) (aw x2 v) (aw x3 v) with
          | some x=>exact ⟨x,rfl⟩
          | none =>
            rw [Option.none_or]
            cases d9 N (ba g v n) v (aw x2 v) (aw x3 v) (aw x1 v) with
            | some x=>exact ⟨x,rfl⟩
            | none=>exact ⟨_,rfl⟩
        · have:=good _ _ ⟨o2.1,o2.2.1⟩ ⟨o3.1,o3.2.1⟩ d23 i3
          have e3:d9 N (ba g v n) v (aw x2 v) (aw x3 v) (aw x1 v)=some (uP (ba g v n) (aD (aw x2 v) (aw x3 v)),(2,(v:Int),(aD (aw x2 v) (aw x3 v)).1,(aD (aw x2 v) (aw x3 v)).2.1,aw x1 v,())):=by unfold d9;rw [this];rfl
          rw [e3]
          cases d9 N (ba g v n) v (aw x1 v) (aw x2 v) (aw x3 v) with
          | some x=>exact ⟨x,rfl⟩
          | none=>exact ⟨_,rfl⟩
      · have:=good _ _ ⟨o1.1,o1.2.1⟩ ⟨o2.1,o2.2.1⟩ d12 i1
        exact ⟨_,by unfold d9;rw [this];rfl⟩
def Fb (N:Int) (u:ad):AV:=if BT N u.2 u.1=true then .tup [.ar 1 0 0 (eU u.2 u.1),.p (.bool true)] else .tup [.p .nil,.p (.bool false)]
def EW (N:Int) (u:ad):List (Nat×Ob):=if BT N u.2 u.1=true then [(0,iH (eU u.2 u.1) (gp u.2 u.1))] else []
theorem tt (v:ai) (u:ad) (h1:1≤v.1) (h2:v.1≤8) (hu:u.1≤1048576) :
    zE 33 [aJ v,eI u] (EW v.1 u) (Fb v.1 u):=by
  refine aW Tryz.func33 (fun c hc=>?_)
  have lo:∀ d k,k+d=u.1→BT v.1 u.2 k=true→zR c 33 rx (C3 v u (eU u.2 k) (gp u.2 k) (lq u.2 k) k) (aS c (EW v.1 u) (Fb v.1 u)):=by
    intro d
    induction d with
    | zero =>
      intro k hk hb
      obtain rfl:k=u.1:=by omega
      have hd:decide ((u.1:Int)<(u.1:Int))=false:=decide_eq_false (by omega)
      unfold Fb EW
      rw [if_pos hb,if_pos hb]
      refine be Tryz.func33 hc (Ki v u (eU u.2 u.1) (gp u.2 u.1) (lq u.2 u.1) u.1) ?_
      and_intros
      iterate 2 all_goals (first | exact zN | (exact hd) | (intro t ht;simp [af];done) | simp only [af])
    | succ d ih =>
      intro k hk hb
      have hd:decide ((k:Int)<(u.1:Int))=true:=decide_eq_true (by omega)
      have hsl:=u3 u.2 k
      have hnl:=uV u.2 k
      have hcl:=tP u.2 k
      by_cases hm:u.2 k = -1
      · have hne:(!(u.2 k == -1))=false:=by rw [hm];rfl
        have cd:=bJ v (lq u.2 k) h1 h2 (by omega)
        cases hq:vz v.1 (lq u.2 k) with
        | true =>
          have hr:=ih (k+1) (by omega) (C6 hb (.inr hq))
          obtain ⟨e1,e2,e3⟩:=sG hm
          rw [e1,e2,e3] at hr
          generalize lq u.2 k=s at *
          generalize eU u.2 k=cn at *
          generalize gp u.2 k=C at *
          have h3:decide ((s.1:Int)<2)=false:=by
            unfold vz at hq
            cases h:decide ((s.1:Int)<2) with
            | false=>rfl
            | true=>rw [h] at hq;cases hq
          have h4:ek v.1 s.2 s.1=true:=by unfold vz at hq;rw [h3] at hq;exact hq
          rw [h4] at cd
          refine a9 hc (NO v u cn C s k) ?_ hr
          and_intros
          iterate 2 all_goals (first | exact zH | (exact hd) | (exact hne) | (exact cd) | (intros;exact cd) | (rw [h3];rfl) | (intro t ht;exact absurd ht (Nat.not_lt_zero _)) | (intro t ht;simp [af];done) | (intro j hj;by_cases h:j<cn<;>simp [h,ce,ay,bh,eH,bG,d7,iE,dd,qQ,sP,sM,Ob.isF,List.lookup,aY,tg,bu,af]) | simp only [af])
        | false =>
          unfold Fb EW
          have hf:=Ga (N:=v.1) hm hq (u.1 - (k+1))
          rw [show k+1+(u.1 - (k+1))=u.1 by omega] at hf
          rw [if_neg (by rw [hf];exact Bool.false_ne_true),if_neg (by rw [hf];exact Bool.false_ne_true)]
          generalize lq u.2 k=s at *
          generalize eU u.2 k=cn at *
          generalize gp u.2 k=C at *
          have hx:(bif decide ((s.1:Int)<2) then true else !ek v.1 s.2 s.1)=true:=by
            unfold vz at hq;revert hq
            cases decide ((s.1:Int)<2)<;>cases ek v.1 s.2 s.1<;>intro hq<;>first | rfl | cases hq
          refine bz Tryz.func33 hc (Oc v u cn C s k (ek v.1 s.2 s.1)) ?_
          and_intros
          all_goals (first | exact zH | (exact hd) | (exact hne) | (exact hx) | (exact cd) | (intros;exact cd))
      · have hne:(!(u.2 k == -1))=true:=by rw [beq_eq_false_iff_ne.2 hm];rfl
        have hr:=ih (k+1) (by omega) (C6 hb (.inl hm))
        obtain ⟨e1,e2,e3⟩:=wv hm
        rw [e1,e2,e3] at hr
        generalize lq u.2 k=s at *
        generalize eU u.2 k=cn at *
        generalize gp u.2 k=C at *
        refine a9 hc (LI v u cn C s k) ?_ hr
        and_intros
        all_goals (first | exact zN | (exact hd) | (exact hne) | (intro t ht;simp [af];done) | (intro j hj;by_cases h:j<s.1<;>(simp [h,Fq,ay,bh,tg,bu,af];done)))
  refine a9 hc (Lh v u) ?_ (lo u.1 0 (by omega) rfl)
  and_intros
  iterate 2 all_goals (first | exact zN | (intro t ht;exact absurd ht (Nat.not_lt_zero _)) | (intro t ht;simp [af];done) | simp only [af])
theorem Mx (x:Int):(if True then if x>0 then x else 0 else if x<0 then x else 0)=max 0 x:=by
  rw [if_pos trivial];split<;>omega
theorem Ln (x:Int):(if true=true then if x>0 then x else 0 else if x<0 then x else 0)=max 0 x:=by
  rw [if_pos rfl];split<;>omega
def yh (v:ai) (cn:Nat) (C:Nat→ad):Bool :=
  a8 (fun i=>vz v.1 (C i)) cn&&(ly v.2.1.2 v.2.1.1 cn C&&decide (dh C cn<max 0 (2*v.1 - 3)))
def Ho (g:Nat→aa) (pl:Nat→ae) (w:ad) (v:Nat):Nat→Int
  | 0=>0
  | k+1=>if ld (g k) v=true then Ho g pl w v k+w.2 k*((pl v).1 - (pl (if (g k).1=v then (g k).2.1.toNat else (g k).1.toNat)).1) else Ho g pl w v k
def IR (g:Nat→aa) (pl:Nat→ae) (w:ad) (v:Nat):Nat→Int
  | 0=>0
  | k+1=>if ld (g k) v=true then IR g pl w v k+w.2 k*((pl v).2.1 - (pl (if (g k).1=v then (g k).2.1.toNat else (g k).1.toNat)).2.1) else IR g pl w v k
def H9 (g:Nat→aa) (nb:Nat) (N:Int) (pl:Nat→ae) (np:Nat) (w:ad):Bool:=bif gf g nb N pl np then Bw w (nb:Int) else false
def J6 (g:Nat→aa) (nb:Nat) (pl:Nat→ae) (w:ad) (v:Nat):Bool:=(Ho g pl w v nb==0)&&(IR g pl w v nb==0)
def Jq (g:Nat→aa) (nb:Nat) (N:Int) (pl:Nat→ae) (np:Nat) (w:ad):Bool:=H9 g nb N pl np w&&a8 (J6 g nb pl w) N.toNat
def Oe (w:ad) (i:Nat):Bool:=bC (w.2 i) 0 2
def JB (g:Nat→aa) (nb:Nat) (N:Int) (pl:Nat→ae) (np:Nat) (w:ad):Bool:=a8 (Oe w) w.1&&(bif gf g nb N pl np then (w.1:Int)==(nb:Int) else false)
def IC (K w:ad) (i:Nat):Bool:=bif (bif K.2 i==1 then decide (w.2 i<0) else false) then true else (bif K.2 i==2 then decide (w.2 i>0) else false)
def HU (K w:ad) (i:Nat):Bool:=bif !(K.2 i==0) then w.2 i==0 else false
def G8 (K:ad) (x:Int) (i:Nat):Bool:=bif (bif (bif K.2 i==0 then !(x==0) else false) then true else (bif K.2 i==1 then decide (x>0) else false)) then true else (bif K.2 i==2 then decide (x<0) else false)
def HJ (g:Nat→aa) (nb:Nat) (N:Int) (pl:Nat→ae) (np:Nat) (K w:ad):Bool :=
  (bif JB g nb N pl np K then Jq g nb N pl np w else false)&&a8 (fun i=>!IC K w i) nb
def FS (g:Nat→aa) (nb:Nat) (N:Int) (pl:Nat→ae) (np:Nat) (K w:ad):Bool:=HJ g nb N pl np K w&&a8 (fun i=>!HU K w i) nb
def OD (g:Nat→aa) (pl:Nat→ae) (v:ad) (i:Nat):Int:=G2 pl v (g i).1.toNat (g i).2.1.toNat
def H5 (g:Nat→aa) (nb:Nat) (N:Int) (pl:Nat→ae) (np:Nat) (K v:ad):Bool :=
  (bif JB g nb N pl np K then kw g nb N pl np v else false)&&a8 (fun i=>!G8 K (OD g pl v i) i) nb
def HE (v u:ai):Bool:=bif v.1==u.1 then Ez v.2.1 u.2.1 else false
def J2 (n:Nat) (m:Nat→Bool):Ob:=⟨false,1,n,fun i=>[.p (.bool (m i))]⟩
def HP (g1:Nat→aa) (nb1:Nat) (N1:Int):Ob:=⟨true,2,1,fun _=>[.p (.int .i64 N1),b4 g1 nb1]⟩
def ET (g1:Nat→aa) (nb1:Nat) (N1:Int) (D:NB) (i:Nat):St :=
  ⟨[.p .any,.p .any,.p .any,.pt 2 0 0 0]++List.replicate 49 ag++[.ar 2 1 0 D.1,.p (.int .i64 D.1),.p (.int .i64 i)]++List.replicate 107 ag,[(0,HP g1 nb1 N1),(1,aj D.1 D.2)],2⟩
def Gc (g1:Nat→aa) (nb1:Nat) (N1:Int) (s:Int) (m:Nat→Bool) (cn:Nat) (C:Nat→ad) (i:Nat):St :=
  ⟨[.p .any,.p .any,.p .any,.pt 2 0 0 0,.p .any,.p .any,.p .any,.p .any,.p .any,.p .any,.p (.int .i64 s),.ar 1 1 0 nb1]++List.replicate 71 ag++[.ar 1 2 0 cn,.p (.int .i64 cn),.p (.int .i64 i)]++List.replicate 77 ag,[(0,HP g1 nb1 N1),(1,J2 nb1 m),(2,iH cn C)],3⟩
def FO (g1:Nat→aa) (nb1:Nat) (N1:Int) (s:Int) (m:Nat→Bool) (cn:Nat) (C:Nat→ad) (i:Nat) (T:ad) (t:Nat):St :=
  ⟨[.p .any,.p .any,.p .any,.pt 2 0 0 0,.p .any,.p .any,.p .any,.p .any,.p .any,.p .any,.p (.int .i64 s),.ar 1 1 0 nb1]++List.replicate 71 ag++[.ar 1 2 0 cn,.p (.int .i64 cn),.p (.int .i64 i)]++List.replicate 11 ag++[.ar 1 3 0 T.1,.p (.int .i64 T.1),.p (.int .i64 t)]++List.replicate 63 ag,[(0,HP g1 nb1 N1),(1,J2 nb1 m),(2,iH cn C),(3,aY T.1 T.2)],4⟩
theorem Hj (K:Int) (g1:Nat→aa) (nb1:Nat) (N1:Int) (g:Nat→aa) (nb:Nat) (N:Int) (pl:Nat→ae) (np:Nat) (w:ad) (v:aT) (u:ad) :
    zS Tryz.f7 [rg 2,rg 4,rg 2,rg 2,.dec true,.dec true,rm [(1,oc [] (jB false))] 1,.dec true,rg 1] [wX K g1 nb1 N1 g nb N pl np w v u] [] [] (jB false) =
    some (zD [(NT 0 1),((true=true)→(AN 1)),((K==1)=true),zE 23 [(cq N1 nb1 g1)] [] (jB false),((!false)=true),(false=false)] [0,0,1,0,2,2,0,3,4,5]):=by kernel_rfl
theorem Ik (K:Int) (g1:Nat→aa) (nb1:Nat) (N1:Int) (g:Nat→aa) (nb:Nat) (N:Int) (pl:Nat→ae) (np:Nat) (w:ad) (v:aT) (u:ad) :
    zS Tryz.f7 [rg 2,rg 4,rg 2,rg 2,.dec true,.dec true,rm [(1,oc [] (jB true))] 1,.dec false,rm [(4,oc [] wM)] 6,rm [(3,gF),(0,gF),(0,gF),(0,gF),(0,gF),(0,gF),(0,gF),(0,gF),(0,gT)] 0,.dec true,rg 1] [wX K g1 nb1 N1 g nb N pl np w v u] [] [] (jB false) =
    some (zD [(NT 0 1),((true=true)→(AN 1)),((K==1)=true),zE 23 [(cq N1 nb1 g1)] [] (jB true),((!true)=false),zE 30 [jI N1,.p (.seq true 5 v.1 (fun i=>[.int .i64 ((v.2 i).1),.int .i64 ((v.2 i).2.1),.int .i64 ((v.2 i).2.2.1),.int .i64 ((v.2 i).2.2.2.1),.int .i64 ((v.2 i).2.2.2.2.1)]))] [] (wM),((!!false)=false),((!false)=true),(true=true),(false=false)] [0,0,1,0,2,2,0,3,4,0,0,5,0,1,6,6,6,6,6,6,6,6,7,8,9]):=by kernel_rfl
theorem Hw (K:Int) (g1:Nat→aa) (nb1:Nat) (N1:Int) (g:Nat→aa) (nb:Nat) (N:Int) (pl:Nat→ae) (np:Nat) (w:ad) (v:aT) (u:ad) (D:NB) :
    zS Tryz.f7 [rg 2,rg 4,rg 2,rg 2,.dec true,.dec true,rm [(1,oc [] (jB true))] 1,.dec false,rm [(4,oc [(0,aj D.1 D.2)] (wy N1 D))] 6,rm [(3,gT),(0,gT),(0,gT),(0,gT),(0,gT),(0,gT),(0,gT),(0,gT),(0,gF)] 0,.dec true,rg 1] [wX K g1 nb1 N1 g nb N pl np w v u] [] [] (jB false) =
    some (zD [(NT 0 1),((true=true)→(AN 1)),((K==1)=true),zE 23 [(cq N1 nb1 g1)] [] (jB true),((!true)=false),zE 30 [jI N1,.p (.seq true 5 v.1 (fun i=>[.int .i64 ((v.2 i).1),.int .i64 ((v.2 i).2.1),.int .i64 ((v.2 i).2.2.1),.int .i64 ((v.2 i).2.2.2.1),.int .i64 ((v.2 i).2.2.2.2.1)]))] [(0,⟨false,2,D.1,(fun i=>[.p (.int .i64 ((D.2 i).1)),.p (.int .i64 ((D.2 i).2.1))])⟩)] ((wy N1 D)),((!!true)=true),(ax (2*N1)),(au (2*N1)),(ax (2*N1 - 3)),(au (2*N1 - 3)),(((D.1:Int) != 2*N1 - 3)=true),(false=false)] [0,0,1,0,2,2,0,3,4,0,0,5,0,1,6,6,0,6,6,6,0,6,7,8,6,9,10,6,4,11,12]):=by kernel_rfl
theorem Jl (K:Int) (g1:Nat→aa) (nb1:Nat) (N1:Int) (g:Nat→aa) (nb:Nat) (N:Int) (pl:Nat→ae) (np:Nat) (w:ad) (v:aT) (u:ad) (D:NB) :
    zT Tryz.f7 [rg 2,rg 4,rg 2,rg 2,.dec true,.dec true,rm [(1,oc [] (jB true))] 1,.dec false,rm [(4,oc [(0,aj D.1 D.2)] (wy N1 D))] 6,rm [(3,gT),(0,gT),(0,gT),(0,gT),(0,gT),(0,gT),(0,gT),(0,gT),(0,gF)] 0,.dec false,rg 3,.dec false,rg 4,.head] [wX K g1 nb1 N1 g nb N pl np w v u] [128,544] (ET g1 nb1 N1 D 0) =
    some (xT,zD [(NT 0 1),((true=true)→(AN 1)),((K==1)=true),zE 23 [(cq N1 nb1 g1)] [] (jB true),((!true)=false),zE 30 [jI N1,.p (.seq true 5 v.1 (fun i=>[.int .i64 ((v.2 i).1),.int .i64 ((v.2 i).2.1),.int .i64 ((v.2 i).2.2.1),.int .i64 ((v.2 i).2.2.2.1),.int .i64 ((v.2 i).2.2.2.2.1)]))] [(0,⟨false,2,D.1,(fun i=>[.p (.int .i64 ((D.2 i).1)),.p (.int .i64 ((D.2 i).2.1))])⟩)] ((wy N1 D)),((!!true)=true),(ax (2*N1)),(au (2*N1)),(ax (2*N1 - 3)),(au (2*N1 - 3)),(((D.1:Int) != 2*N1 - 3)=false),((K==6)=false),(AN 0),(AN D.1),(AI ((D.1:Int))),((0:Int)=(↑0:Int)),((((List.map (fun v=>AV.p (bZ v)) [Value.int IntKind.i64 0,Value.slice none 0 0]).length):Nat)=2),(NL 1 1),(AI N1),(AN nb1),(AP nb1 (aF g1)),(AN 2),(NL D.1 D.1),(AA D.1 (fun i=>[.p (.int .i64 ((D.2 i).1)),.p (.int .i64 ((D.2 i).2.1))]))] [0,0,1,0,2,2,0,3,4,0,0,5,0,1,6,6,0,6,6,6,0,6,7,8,6,9,10,6,4,11,0,12,0,13,13,14,15,16,17,18,18,19,20,21,22,23,24]):=by kernel_rfl
theorem Ij (K:Int) (g1:Nat→aa) (nb1:Nat) (N1:Int) (g:Nat→aa) (nb:Nat) (N:Int) (pl:Nat→ae) (np:Nat) (w:ad) (v:aT) (u:ad) :
    zS Tryz.f7 [rg 2,rg 4,rg 2,rg 2,.dec false,rg 2,.dec false,rg 2,.dec true,rm [(1,oc [] (jB false))] 1,.dec true,rg 1] [wX K g1 nb1 N1 g nb N pl np w v u] [] [] (jB false) =
    some [(NT 0 1),(NT 0 1),((true=true)→(AN 1)),(NT 0 1),((K==1)=false),((K==6)=false),((K==2)=true),(NT 0 1),zE 23 [(cq N1 nb1 g1)] [] (jB false),((!false)=true),(false=false)]:=by kernel_rfl
theorem HM (K:Int) (g1:Nat→aa) (nb1:Nat) (N1:Int) (g:Nat→aa) (nb:Nat) (N:Int) (pl:Nat→ae) (np:Nat) (w:ad) (v:aT) (u:ad) :
    zS Tryz.f7 [rg 2,rg 4,rg 2,rg 2,.dec false,rg 2,.dec false,rg 2,.dec true,rm [(1,oc [] (jB true))] 1,.dec false,rm [(3,oc [] (.tup [.p .nil,jB false]))] 5,rg 2,.dec true,rg 1] [wX K g1 nb1 N1 g nb N pl np w v u] [] [] (jB false) =
    some (zD [(NT 0 1),((true=true)→(AN 1)),((K==1)=false),((K==6)=false),((K==2)=true),zE 23 [(cq N1 nb1 g1)] [] (jB true),((!true)=false),zE 33 [(cq N1 nb1 g1),.p (.seq true 1 u.1 (c8 u))] [] (.tup [.p (.nil),jB false]),((!false)=true),(false=false)] [0,0,1,0,2,3,4,0,5,6,0,0,7,8,9]):=by kernel_rfl
theorem Il (K:Int) (g1:Nat→aa) (nb1:Nat) (N1:Int) (g:Nat→aa) (nb:Nat) (N:Int) (pl:Nat→ae) (np:Nat) (w:ad) (v:aT) (u:ad) (cn:Nat) (C:Nat→ad) :
    zT Tryz.f7 [rg 2,rg 4,rg 2,rg 2,.dec false,rg 2,.dec false,rg 2,.dec true,rm [(1,oc [] (jB true))] 1,.dec false,rm [(3,oc [(0,iH cn C)] (.tup [.ar 1 0 0 cn,jB true]))] 5,rg 2,.dec false,rg 1,rg 5,rg 3,.head] [wX K g1 nb1 N1 g nb N pl np w v u] [128,1024,640] (Gc g1 nb1 N1 0 (fun _=>false) cn C 0) =
    some (zb,[(NT 0 1),(NT 0 1),((true=true)→(AN 1)),(NT 0 1),((K==1)=false),((K==6)=false),((K==2)=true),(NT 0 1),zE 23 [(cq N1 nb1 g1)] [] (jB true),((!true)=false),(NT 0 1),(NT 0 1),zE 33 [(cq N1 nb1 g1),.p (.seq true 1 u.1 (c8 u))] [(0,⟨false,1,cn,(fun i=>[.p (.seq false 1 ((C i).1) (fun i_1=>[.int .i64 ((C i).2 i_1)]))])⟩)] (.tup [.ar 1 0 0 cn,jB true]),((!true)=false),(NT 0 1),(IL 0 (nb1:Int)),(IL (nb1:Int) (nb1:Int)),(IL ((nb1:Int)*(↑1:Int)) 281474976710656),(au (nb1:Int)),(AN 0),(AI 0),(AN 0),(AN nb1),(AN 0),(AN cn),(AI ((cn:Int))),((0:Int)=(↑0:Int)),((((List.map (fun v=>AV.p (bZ v)) [Value.int IntKind.i64 0,Value.slice none 0 0]).length):Nat)=2),(NL 1 1),(NL 1 1),(AI N1),(AN nb1),(AP nb1 (aF g1)),(AN 1),(NL nb1 nb1),(AA nb1 (fun i=>[.p (.bool false)])),(AN 1),(NL cn cn),(AA cn (fun i=>[.p (.seq false 1 ((C i).1) (fun i_1=>[.int .i64 ((C i).2 i_1)]))]))]):=by kernel_rfl
theorem Hq (K:Int) (g1:Nat→aa) (nb1:Nat) (N1:Int) (g:Nat→aa) (nb:Nat) (N:Int) (pl:Nat→ae) (np:Nat) (w:ad) (v:aT) (u:ad) (b1 b2:Bool) :
    zS Tryz.f7 [rg 2,rg 4,rg 2,rg 2,.dec false,rg 2,.dec false,rg 2,.dec false,rg 2,.dec true,rm [(1,oc [] (jB b1)),(10,oc [] (jB b2)),(2,gF),(0,gF),(0,gF),(0,gF),(0,gF),(0,gF),(0,gF),(0,gF),(0,gF),(0,gF),(0,gF),(0,gF)] 1] [wX K g1 nb1 N1 g nb N pl np w v u] [] [] (jB false) =
    some (zD (let A:Bool:=bif b1 then decide ((u.1:Int)≥2) else false;[(NT 0 1),((true=true)→(AN 1)),((K==1)=false),((K==6)=false),((K==2)=false),((K==3)=true),zE 23 [(cq N1 nb1 g1)] [] (jB b1),(AG b1),((b1=true)→(NT 0 1)),((A=true)→(NT 0 1)),(AG A),((A=true)→zE 36 [(cq N1 nb1 g1),.p (.seq true 1 u.1 (c8 u))] [] (jB b2)),((bif A then b2 else false)=false),(false=false)]) [0,0,1,0,2,3,4,5,0,6,7,8,7,7,7,9,10,9,10,10,11,10,12,12,12,12,12,12,12,12,12,12,12,12,13]):=by kernel_rfl
theorem In (K:Int) (g1:Nat→aa) (nb1:Nat) (N1:Int) (g:Nat→aa) (nb:Nat) (N:Int) (pl:Nat→ae) (np:Nat) (w:ad) (v:aT) (u:ad) (R:ad) :
    zS Tryz.f7 [rg 2,rg 4,rg 2,rg 2,.dec false,rg 2,.dec false,rg 2,.dec false,rg 2,.dec true,rm [(1,oc [] (jB true)),(1,gT),(0,gT),(0,gT),(0,gT),(0,gT),(1,gT),(0,gT),(0,gT),(0,⟨true,(some ⟨[],[],[],1,[],jB true⟩),some true⟩),(0,gT),(1,gT),(0,gT),(0,gT),(0,⟨true,(some ⟨[],[],[],1,[(0,aY R.1 R.2)],.ar 1 0 0 R.1⟩),some true⟩),(0,gT),(0,gT),(0,gT),(0,gT),(0,gT),(0,gT),(0,gT),(0,gT)] 1] [wX K g1 nb1 N1 g nb N pl np w v u] [] [] (jB (decide ((R.1:Int)>2*(u.1:Int) - 3))) =
    some (zD (let A:Bool:=decide ((R.1:Int)>2*(u.1:Int) - 3);[(NT 0 1),((true=true)→(AN 1)),((K==1)=false),((K==6)=false),((K==2)=false),((K==3)=true),zE 23 [(cq N1 nb1 g1)] [] (jB true),(true=true),((decide ((u.1:Int)≥2))=true),zE 36 [(cq N1 nb1 g1),.p (.seq true 1 u.1 (c8 u))] [] (jB true),zE 34 [(cq N1 nb1 g1),.p (.seq true 1 u.1 (c8 u))] [(0,⟨false,1,R.1,(fun i=>[.p (.int .i64 (R.2 i))])⟩)] (.ar 1 0 0 R.1),(ax (2*(u.1:Int))),(au (2*(u.1:Int))),(ax (2*(u.1:Int) - 3)),(au (2*(u.1:Int) - 3)),((A)=(A))]) [0,0,1,0,2,3,4,5,0,6,7,7,0,7,7,7,8,0,8,8,0,8,9,8,7,0,7,7,0,7,10,7,7,7,0,7,7,11,12,7,13,14,7,7,15]):=by kernel_rfl
theorem H8 (g1:Nat→aa) (nb1:Nat) (N1:Int) (D:NB) (i:Nat) :
    zM 0 [rg 1,.dec true,rg 4,rm [(3,oc [] (jB true))] 1,.dec false,rg 2,.head] xT (ET g1 nb1 N1 D i) [0,1] 1 (ET g1 nb1 N1 D (i+1)) =
    some (xT,[((decide ((i:Int)<(D.1:Int)))=true),(IL 0 (i:Int)),(IT (i:Int) (D.1:Int)),(NT i D.1),(NT 0 1),((true=true)→(AN 1)),(NT 0 1),(NT 0 1),zE 32 [.p (.seq true 2 nb1 (aF g1)),.agg [jI ((D.2 i).1),jI ((D.2 i).2.1)]] [] (jB true),((!true)=false),(ax ((i:Int)+1)),(au ((i:Int)+1)),(AN 0),(AN 0),(AN D.1),(AI ((D.1:Int))),((((i:Int)+1):Int)=(↑(i+1):Int)),(AN 2),(NL 1 1),(NL 1 1),(AI N1),(AN nb1),(AP nb1 (aF g1)),(AN 2),(NL D.1 D.1),(AA D.1 (fun i_1=>[.p (.int .i64 ((D.2 i_1).1)),.p (.int .i64 ((D.2 i_1).2.1))]))]):=by kernel_rfl
theorem Hh (g1:Nat→aa) (nb1:Nat) (N1:Int) (D:NB) (i:Nat) :
    zP Tryz.f7 0 [rg 1,.dec true,rg 4,rm [(3,oc [] (jB false))] 1,.dec true,rg 1] xT (ET g1 nb1 N1 D i) [] 1 [] (jB false) =
    some [((decide ((i:Int)<(D.1:Int)))=true),(IL 0 (i:Int)),(IT (i:Int) (D.1:Int)),(NT i D.1),(NT 0 1),((true=true)→(AN 1)),(NT 0 1),(NT 0 1),zE 32 [.p (.seq true 2 nb1 (aF g1)),.agg [jI ((D.2 i).1),jI ((D.2 i).2.1)]] [] (jB false),((!false)=true),(false=false)]:=by kernel_rfl
theorem HH (g1:Nat→aa) (nb1:Nat) (N1:Int) (D:NB) (i:Nat) :
    zP Tryz.f7 0 [rg 1,.dec false,rg 1] xT (ET g1 nb1 N1 D i) [] 1 [] (jB true) =
    some [((decide ((i:Int)<(D.1:Int)))=false),(true=true)]:=by kernel_rfl
theorem IK (g1:Nat→aa) (nb1:Nat) (N1:Int) (s:Int) (m:Nat→Bool) (cn:Nat) (C:Nat→ad) (i:Nat) (T:ad) :
    zM 0 [rg 1,.dec true,rg 3,rg 7,rm [(2,oc [(0,aY T.1 T.2)] (.ar 1 0 0 T.1))] 2,.head] zb (Gc g1 nb1 N1 s m cn C i) [0,1,2,419] 1 (FO g1 nb1 N1 (s+2*((C i).1:Int) - 3) m cn C i T 0) =
    some (FD,[((decide ((i:Int)<(cn:Int)))=true),(IL 0 (i:Int)),(IT (i:Int) (cn:Int)),(NT i cn),(ax (2*(↑(C i).1:Int))),(au (2*(↑(C i).1:Int))),(ax (s+2*(↑(C i).1:Int))),(au (s+2*(↑(C i).1:Int))),(ax (s+2*(↑(C i).1:Int) - 3)),(au (s+2*(↑(C i).1:Int) - 3)),(NT 0 1),zE 34 [.agg [jI N1,.p (.seq true 2 nb1 (aF g1))],.p (.seq true 1 ((C i).1) (fun i_1=>[.int .i64 ((C i).2 i_1)]))] [(0,⟨false,1,T.1,(fun i_1=>[.p (.int .i64 (T.2 i_1))])⟩)] (.ar 1 0 0 T.1),(AN 0),(AI ((s+2*(↑(C i).1:Int) - 3))),(AN 0),(AN nb1),(AN 0),(AN cn),(AI ((cn:Int))),(AI ((i:Int))),(AN 0),(AN T.1),(AI ((T.1:Int))),((0:Int)=(↑0:Int)),(AN 2),(NL 1 1),(NL 1 1),(AI N1),(AN nb1),(AP nb1 (aF g1)),(AN 1),(NL nb1 nb1),(AA nb1 (fun i_1=>[.p (.bool (m i_1))])),(AN 1),(NL cn cn),(AA cn (fun i_1=>[.p (.seq false 1 ((C i_1).1) (fun i_2=>[.int .i64 ((C i_1).2 i_2)]))])),(AN 1),(NL T.1 T.1),(AA T.1 (fun i_1=>[.p (.int .i64 (T.2 i_1))]))]):=by kernel_rfl
theorem IM (g1:Nat→aa) (nb1:Nat) (N1:Int) (s:Int) (m:Nat→Bool) (cn:Nat) (C:Nat→ad) (i:Nat) (T:ad) (t:Nat) :
    zM 0 [rg 1,.dec true,rg 3,rg 4,rg 2,.head] FD (FO g1 nb1 N1 s m cn C i T t) [0,1,2,3] 1 (FO g1 nb1 N1 s (fun e=>if e=(T.2 t).toNat then true else m e) cn C i T (t+1)) =
    some (FD,[((decide ((t:Int)<(T.1:Int)))=true),(IL 0 (t:Int)),(IT (t:Int) (T.1:Int)),(NT t T.1),(IL 0 (T.2 t)),(IT (T.2 t) (nb1:Int)),(NT ((T.2 t).toNat) nb1),((false=true)→((nb1:Nat)=1)),(ax ((t:Int)+1)),(au ((t:Int)+1)),(AN 0),(AI s),(AN 0),(AN nb1),(AN 0),(AN cn),(AI ((cn:Int))),(AI ((i:Int))),(AN 0),(AN T.1),(AI ((T.1:Int))),((((t:Int)+1):Int)=(↑(t+1):Int)),(AN 2),(NL 1 1),(NL 1 1),(AI N1),(AN nb1),(AP nb1 (aF g1)),(AN 1),(NL nb1 nb1),(CV [(1,⟨false,1,nb1,(fun i_2=>(if (i_2=(T.2 t).toNat) then [.p (.bool true)] else [.p (.bool (m i_2))]))⟩),(0,⟨true,2,1,(fun i_2=>[.p (.int .i64 N1),.p (.seq true 2 nb1 (aF g1))])⟩),(2,⟨false,1,cn,(fun i_2=>[.p (.seq false 1 ((C i_2).1) (fun i_3=>[.int .i64 ((C i_2).2 i_3)]))])⟩),(3,⟨false,1,T.1,(fun i_2=>[.p (.int .i64 (T.2 i_2))])⟩)] [0,1,2,3] 1 nb1 (fun i_1=>if (i_1=(T.2 t).toNat) then [.p (.bool true)] else [.p (.bool (m i_1))]) (fun i_1=>[.p (.bool (if i_1=(T.2 t).toNat then true else m i_1))])),(AN 1),(NL cn cn),(AA cn (fun i_1=>[.p (.seq false 1 ((C i_1).1) (fun i_2=>[.int .i64 ((C i_1).2 i_2)]))])),(AN 1),(NL T.1 T.1),(AA T.1 (fun i_1=>[.p (.int .i64 (T.2 i_1))]))]):=by kernel_rfl
theorem Jr (g1:Nat→aa) (nb1:Nat) (N1:Int) (s:Int) (m:Nat→Bool) (cn:Nat) (C:Nat→ad) (i:Nat) (T:ad) (t:Nat) :
    zM 0 [rg 1,.dec false,rg 2,.head] FD (FO g1 nb1 N1 s m cn C i T t) [0,1,2] 1 (Gc g1 nb1 N1 s m cn C (i+1)) =
    some (zb,[((decide ((t:Int)<(T.1:Int)))=false),(ax ((i:Int)+1)),(au ((i:Int)+1)),(AN 0),(AI s),(AN 0),(AN nb1),(AN 0),(AN cn),(AI ((cn:Int))),((((i:Int)+1):Int)=(↑(i+1):Int)),(AN 2),(NL 1 1),(NL 1 1),(AI N1),(AN nb1),(AP nb1 (aF g1)),(AN 1),(NL nb1 nb1),(AA nb1 (fun i_1=>[.p (.bool (m i_1))])),(AN 1),(NL cn cn),(AA cn (fun i_1=>[.p (.seq false 1 ((C i_1).1) (fun i_2=>[.int .i64 ((C i_1).2 i_2)]))]))]):=by kernel_rfl
theorem It (g1:Nat→aa) (nb1:Nat) (N1:Int) (s:Int) (m:Nat→Bool) (cn:Nat) (C:Nat→ad) (i:Nat) (q:Bool) :
    zP Tryz.f7 0 [rg 1,.dec false,rm [(1,oc [] (jB q))] 11] zb (Gc g1 nb1 N1 s m cn C i) [] 1 [] (jB (bif !q then decide (s<max 0 (2*N1 - 3)) else false)) =
    some (zD [((decide ((i:Int)<(cn:Int)))=false),(AN 1),(NL nb1 nb1),zE 35 [.p (.seq true 1 nb1 (fun i_1=>[.bool (m i_1)])),jB false] [] (jB q),(AG (!q)),(((!q)=true)→(NT 0 1)),(((!q)=true)→(ax (2*N1))),(((!q)=true)→(au (2*N1))),(((!q)=true)→(ax (2*N1 - 3))),(((!q)=true)→(au (2*N1 - 3))),((bif !q then decide (s<if true=true then if 2*N1 - 3>0 then 2*N1 - 3 else 0 else if 2*N1 - 3<0 then 2*N1 - 3 else 0) else false)=(bif !q then decide (s<max 0 (2*N1 - 3)) else false))] [0,1,2,3,4,5,4,6,7,4,8,9,4,4,4,4,10]):=by kernel_rfl
theorem DY {M:Int} {n:Nat} {S:Nat→ap} {D:NB} (h:yD M n S=some D):∃ N:Nat,M=N∧1≤N∧N≤8∧ah ((N:Int),D,())=true:=by
  unfold yD at h
  cases hb:bC M 1 8 with
  | false=>rw [hb,if_neg Bool.false_ne_true] at h;cases h
  | true =>
    rw [hb,if_pos rfl] at h
    have hb:=jV.1 hb
    obtain ⟨N,rfl⟩:=Int.eq_ofNat_of_zero_le (show 0≤M by omega)
    rw [Int.toNat_natCast] at h
    exact ⟨N,rfl,by omega,by omega,zh n 0 _ D (sE (by omega)) h⟩
noncomputable def Bf (g1:Nat→aa) (nb1:Nat) (N1:Int) (v:aT):Bool :=
  match yD N1 v.1 v.2 with
  | none=>false
  | some D=>gj g1 nb1 N1&&((D.1:Int)==2*N1 - 3&&a8 (fun i=>tz g1 nb1 (D.2 i)) D.1)
noncomputable def Jp (g1:Nat→aa) (nb1:Nat) (N1:Int) (v:aT):Bool :=
  match yD N1 v.1 v.2 with
  | none=>false
  | some D=>gj g1 nb1 N1&&((D.1:Int)==2*N1 - 3&&HE (N1,(nb1,g1),()) (N1,D,()))
def zd (g1:Nat→aa) (nb1:Nat) (N1:Int) (u:ad):Bool:=gj g1 nb1 N1&&yh (N1,(nb1,g1),()) (eU u.2 u.1) (gp u.2 u.1)
def rC (g1:Nat→aa) (nb1:Nat) (N1:Int) (u:ad):Bool :=
  gj g1 nb1 N1&&(ek N1 u.2 u.1&&(decide ((u.1:Int)≥2)&&decide (((bK (kV g1 u) nb1).1:Int)>2*(u.1:Int) - 3)))
noncomputable def BF (K:Int) (g1:Nat→aa) (nb1:Nat) (N1:Int) (g:Nat→aa) (nb:Nat) (N:Int) (pl:Nat→ae) (np:Nat) (w:ad) (v:aT) (u:ad):Bool :=
  if K=1 then Bf g1 nb1 N1 v else if K=6 then Jp g1 nb1 N1 v else if K=2 then zd g1 nb1 N1 u else if K=3 then rC g1 nb1 N1 u
  else if K=4 then (bif FS g nb N pl np w u then yF g nb N pl np==0 else false) else if K=5 then (bif H5 g nb N pl np w u then !qF g nb N pl np u else false) else false
section
variable (K:Int) (g1:Nat→aa) (nb1:Nat) (N1:Int) (g:Nat→aa) (nb:Nat) (N:Int) (pl:Nat→ae) (np:Nat) (w:ad) (v:aT) (u:ad)
theorem wU (hK:K=1) (h1:nb1≤1048576) (hv:v.1≤1048576) :
    zE 7 [wX K g1 nb1 N1 g nb N pl np w v u] [] (.p (.bool (Bf g1 nb1 N1 v))):=by
  have e1:(K==1)=true:=by rw [hK];rfl
  have e6:(K==6)=false:=by rw [hK];rfl
  have c1:=aQ (N1,(nb1,g1),()) (EB g1 nb1 N1 h1)
  change zE 23 [Fk g1 nb1 N1] [] (.p (.bool (gj g1 nb1 N1))) at c1
  have c2:=sk N1 v.1 v.2 hv
  unfold Bf
  refine aW Tryz.func7 (fun c hc=>?_)
  cases hg:gj g1 nb1 N1 with
  | false =>
    rw [hg] at c1
    rw [show (match yD N1 v.1 v.2 with | none=>false | some D=>false&&((D.1:Int)==2*N1 - 3&&a8 (fun i=>tz g1 nb1 (D.2 i)) D.1))=false by cases yD N1 v.1 v.2<;>rfl]
    refine bz Tryz.func7 hc (Hj K g1 nb1 N1 g nb N pl np w v u) ?_
    and_intros
    all_goals (first | exact zI | (exact c1) | (exact e1) | (exact e6))
  | true =>
    rw [hg] at c1
    obtain ⟨hN,hnb,hok⟩:=cD hg
    cases hb:yD N1 v.1 v.2 with
    | none =>
      rw [hb] at c2
      refine bz Tryz.func7 hc (Ik K g1 nb1 N1 g nb N pl np w v u) ?_
      and_intros
      all_goals (first | exact zI | (exact c1) | (exact c2) | (exact e1) | (exact e6))
    | some D =>
      rw [hb] at c2
      obtain ⟨n,hn,n1,n2,hD⟩:=DY hb
      subst hn
      rw [Int.toNat_natCast] at c2
      show Run _ _ _ _ _ (aS c [] (.p (.bool (true&&((D.1:Int)==2*(n:Int) - 3&&a8 (fun i=>tz g1 nb1 (D.2 i)) D.1)))))
      cases hl:((D.1:Int)==2*(n:Int) - 3) with
      | false =>
        have hl':(!((D.1:Int)==2*(n:Int) - 3))=true:=by rw [hl];rfl
        refine bz Tryz.func7 hc (Hw K g1 nb1 n g nb N pl np w v u D) ?_
        and_intros
        all_goals (first | exact zI | (exact c1) | (exact c2) | (exact e1) | (exact e6) | (exact hl'))
      | true =>
        have hl':(!((D.1:Int)==2*(n:Int) - 3))=false:=by rw [hl];rfl
        rw [Bool.true_and,Bool.true_and]
        have hdn:D.1≤24:=(aB hD).2.1
        have lo:∀ d i,i+d=D.1→a8 (fun i=>tz g1 nb1 (D.2 i)) i=true→zR c 7 xT (ET g1 nb1 n D i) (aS c [] (.p (.bool (a8 (fun i=>tz g1 nb1 (D.2 i)) D.1)))):=by
          intro d
          induction d with
          | zero =>
            intro i hi ha
            obtain rfl:i=D.1:=by omega
            have hd:decide ((D.1:Int)<(D.1:Int))=false:=decide_eq_false (by omega)
            rw [ha]
            refine be Tryz.func7 hc (HH g1 nb1 n D D.1) ?_
            and_intros
            all_goals (first | exact zN | (exact hd))
          | succ d ih =>
            intro i hi ha
            have hd:decide ((i:Int)<(D.1:Int))=true:=decide_eq_true (by omega)
            have cb:=yC (n,(nb1,g1),()) (D.2 i) h1
            cases hq:tz g1 nb1 (D.2 i) with
            | true =>
              change Con _ _ _ _ _ _ (.p (.bool (tz g1 nb1 (D.2 i)))) at cb
              rw [hq] at cb
              refine cW hc (H8 g1 nb1 n D i) ?_ (ih (i+1) (by omega) (by rw [a8,ha];show (true&&tz g1 nb1 (D.2 i))=true;rw [hq];rfl))
              and_intros
              all_goals (first | exact zI | (exact hd) | (exact cb) | (intros;simp [af];done))
            | false =>
              change Con _ _ _ _ _ _ (.p (.bool (tz g1 nb1 (D.2 i)))) at cb
              rw [hq] at cb
              rw [ib (p:=fun i=>tz g1 nb1 (D.2 i)) (i:=i) (by omega) hq]
              refine be Tryz.func7 hc (Hh g1 nb1 n D i) ?_
              and_intros
              all_goals (first | exact zI | (exact hd) | (exact cb))
        refine a9 hc (Jl K g1 nb1 n g nb N pl np w v u D) ?_ (lo D.1 0 (by omega) rfl)
        and_intros
        all_goals (first | exact zI | (exact c1) | (exact c2) | (exact e1) | (exact e6) | (exact hl') | (intros;simp [af];done))
end
theorem Bs (g:Nat→aa) (nb:Nat) (C:Nat→ad) (i e:Nat) (he:e<nb) :
    (if a0 (bK (kV g (C i)) nb).2 (e:Int) (bK (kV g (C i)) nb).1=true then true else Fh g C i e)=Fh g C (i+1) e:=by
  rw [wF,decide_eq_true he,Bool.true_and]
  show _=(E4 (fun j=>kV g (C j) e) i||kV g (C i) e)
  unfold Fh
  cases kV g (C i) e<;>simp
section
variable (K:Int) (g1:Nat→aa) (nb1:Nat) (N1:Int) (g:Nat→aa) (nb:Nat) (N:Int) (pl:Nat→ae) (np:Nat) (w:ad) (v:aT) (u:ad)
theorem xz (hK:K=2) (h1:nb1≤1048576) (hu:u.1≤1048576) :
    zE 7 [wX K g1 nb1 N1 g nb N pl np w v u] [] (.p (.bool (zd g1 nb1 N1 u))):=by
  have e1:(K==1)=false:=by rw [hK];rfl
  have e6:(K==6)=false:=by rw [hK];rfl
  have e2:(K==2)=true:=by rw [hK];rfl
  have c1:=aQ (N1,(nb1,g1),()) (EB g1 nb1 N1 h1)
  change zE 23 [Fk g1 nb1 N1] [] (.p (.bool (gj g1 nb1 N1))) at c1
  unfold zd
  refine aW Tryz.func7 (fun c hc=>?_)
  cases hg:gj g1 nb1 N1 with
  | false =>
    rw [hg] at c1
    refine be Tryz.func7 hc (Ij K g1 nb1 N1 g nb N pl np w v u) ?_
    and_intros
    all_goals (first | exact zI | (exact c1) | (exact e1) | (exact e6) | (exact e2))
  | true =>
    rw [hg] at c1
    obtain ⟨n1,n2,hnb,hgood⟩:=cD hg
    have n1:1≤N1:=n1
    have n2:N1≤8:=n2
    have hnb:nb1≤24:=hnb
    have c2:=tt (N1,(nb1,g1),()) u n1 n2 hu
    rw [Bool.true_and]
    cases hp:BT N1 u.2 u.1 with
    | false =>
      unfold EW Fb at c2
      rw [if_neg (by rw [hp];exact Bool.false_ne_true),if_neg (by rw [hp];exact Bool.false_ne_true)] at c2
      rw [show yh (N1,(nb1,g1),()) (eU u.2 u.1) (gp u.2 u.1)=false by
        unfold yh
        rw [show a8 (fun i=>vz (N1,(nb1,g1),()).1 (gp u.2 u.1 i)) (eU u.2 u.1)=false from hp];rfl]
      refine bz Tryz.func7 hc (HM K g1 nb1 N1 g nb N pl np w v u) ?_
      and_intros
      all_goals (first | exact zI | (exact c1) | (exact c2) | (exact e1) | (exact e6) | (exact e2))
    | true =>
      unfold EW Fb at c2
      rw [if_pos hp,if_pos hp] at c2
      have hcl:=tP u.2 u.1
      have hnl:=uV u.2 u.1
      rw [show yh (N1,(nb1,g1),()) (eU u.2 u.1) (gp u.2 u.1)=(ly g1 nb1 (eU u.2 u.1) (gp u.2 u.1)&&decide (dh (gp u.2 u.1) (eU u.2 u.1)<max 0 (2*N1 - 3))) by
        unfold yh
        rw [show a8 (fun i=>vz (N1,(nb1,g1),()).1 (gp u.2 u.1 i)) (eU u.2 u.1)=true from hp];rfl]
      generalize gp u.2 u.1=C at *
      generalize eU u.2 u.1=cn at *
      have hC:∀ i,(C i).1≤1048576:=fun i=>by have:=hcl i;omega
      have sb:=fun k=>Bl (C:=C) hC k
      have lo:∀ d i (m:Nat→Bool),i+d=cn→(∀ e,e<nb1→m e=Fh g1 C i e)→zR c 7 zb (Gc g1 nb1 N1 (dh C i) m cn C i) (aS c [] (.p (.bool (ly g1 nb1 cn C&&decide (dh C cn<max 0 (2*N1 - 3)))))):=by
        intro d
        induction d with
        | zero =>
          intro i m hi hm
          obtain rfl:i=cn:=by omega
          have hd:decide ((i:Int)<(i:Int))=false:=decide_eq_false (by omega)
          have cf:=wS nb1 m (by omega)
          have ea:a8 m nb1=ly g1 nb1 i C:=by
            unfold ly
            rw [Bool.eq_iff_iff,bY,bY]
            exact ⟨fun h e he=>by rw [← hm e he];exact h e he,fun h e he=>by rw [hm e he];exact h e he⟩
          rw [ea] at cf
          rw [show (ly g1 nb1 i C&&decide (dh C i<max 0 (2*N1 - 3)))=(bif !(!ly g1 nb1 i C) then decide (dh C i<max 0 (2*N1 - 3)) else false) by rw [Bool.not_not];cases ly g1 nb1 i C<;>rfl]
          refine bz Tryz.func7 hc (It g1 nb1 N1 (dh C i) m i C i (!ly g1 nb1 i C)) ?_
          and_intros
          all_goals (first | exact zI | (exact hd) | (exact cf) | (rw [← Mx];done) | (rw [← Ln];done))
        | succ d ih =>
          intro i m hi hm
          have hd:decide ((i:Int)<(cn:Int))=true:=decide_eq_true (by omega)
          have cs:=ii (N1,(nb1,g1),()) (C i) (EB g1 nb1 N1 h1) (hC i)
          change Con _ _ _ _ _ [(0,aY (bK (kV g1 (C i)) nb1).1 (bK (kV g1 (C i)) nb1).2)] (.ar 1 0 0 (bK (kV g1 (C i)) nb1).1) at cs
          have hb:=sb i
          have hCi:=hC i
          have hst:=Bs g1 nb1 C i
          have hin:=vo (kV g1 (C i)) nb1
          have hfn:=rf (kV g1 (C i)) nb1
          generalize bK (kV g1 (C i)) nb1=T at *
          have li:∀ d t (m:Nat→Bool),t+d=T.1→(∀ e,e<nb1→m e=if a0 T.2 (e:Int) t=true then true else Fh g1 C i e)→zR c 7 FD (FO g1 nb1 N1 (dh C i+2*((C i).1:Int) - 3) m cn C i T t) (aS c [] (.p (.bool (ly g1 nb1 cn C&&decide (dh C cn<max 0 (2*N1 - 3)))))):=by
            intro d
            induction d with
            | zero =>
              intro t m ht hm
              obtain rfl:t=T.1:=by omega
              have hd:decide ((T.1:Int)<(T.1:Int))=false:=decide_eq_false (by omega)
              have hr:=ih (i+1) m (by omega) (fun e he=>by rw [hm e he,hst e he])
              rw [show dh C (i+1)=dh C i+2*((C i).1:Int) - 3 from rfl] at hr
              refine cW hc (Jr g1 nb1 N1 (dh C i+2*((C i).1:Int) - 3) m cn C i T T.1) ?_ hr
              and_intros
              all_goals (first | exact zN | (exact hd) | (intros;simp [af];done))
            | succ d ih2 =>
              intro t m ht hm
              have hd:decide ((t:Int)<(T.1:Int))=true:=decide_eq_true (by omega)
              obtain ⟨x,x1,x2⟩:=hin t (by omega)
              have hr:=ih2 (t+1) (fun e=>if e=(T.2 t).toNat then true else m e) (by omega) (fun e he=>by
                rw [a0,x2,Int.toNat_natCast]
                by_cases hex:e=x
                · rw [if_pos hex,hex];simp
                · rw [if_neg hex,hm e he,show ((x:Int)==(e:Int))=false from beq_eq_false_iff_ne.2 (by omega),Bool.or_false])
              refine cW hc (IM g1 nb1 N1 (dh C i+2*((C i).1:Int) - 3) m cn C i T t) ?_ hr
              and_intros
              all_goals (first | exact zI | (exact hd) | (rw [x2];omega) | (intro a ha;by_cases q:a=(T.2 t).toNat<;>(simp [q,ay,bh,tg,bu,af];done)) | (intros;simp [af];done))
          refine cW hc (IK g1 nb1 N1 (dh C i) m cn C i T) ?_ (li T.1 0 m (by omega) (fun e he=>by rw [hm e he,a0,if_neg Bool.false_ne_true]))
          and_intros
          all_goals (first | exact zN | (exact hd) | (exact cs) | (intros;simp [af];done))
      refine cW hc (Il K g1 nb1 N1 g nb N pl np w v u cn C) ?_ (lo cn 0 (fun _=>false) (by omega) (fun e he=>rfl))
      and_intros
      all_goals (first | exact zI | (exact c1) | (exact c2) | (exact e1) | (exact e6) | (exact e2) | (intros;simp [af];done))
theorem yu (hK:K=3) (h1:nb1≤1048576) (hu:u.1≤1048576) :
    zE 7 [wX K g1 nb1 N1 g nb N pl np w v u] [] (.p (.bool (rC g1 nb1 N1 u))):=by
  have e1:(K==1)=false:=by rw [hK];rfl
  have e6:(K==6)=false:=by rw [hK];rfl
  have e2:(K==2)=false:=by rw [hK];rfl
  have e3:(K==3)=true:=by rw [hK];rfl
  have c1:=aQ (N1,(nb1,g1),()) (EB g1 nb1 N1 h1)
  change zE 23 [Fk g1 nb1 N1] [] (.p (.bool (gj g1 nb1 N1))) at c1
  have cs:=ii (N1,(nb1,g1),()) u (EB g1 nb1 N1 h1) hu
  change Con _ _ _ _ _ [(0,aY (bK (kV g1 u) nb1).1 (bK (kV g1 u) nb1).2)] (.ar 1 0 0 (bK (kV g1 u) nb1).1) at cs
  have cd:gj g1 nb1 N1=true→zE 36 [aJ (N1,(nb1,g1),()),eI u] [] (.p (.bool (ek N1 u.2 u.1))):=fun hg=>by
    obtain ⟨n1,n2,_,_⟩:=cD hg
    exact bJ (N1,(nb1,g1),()) u n1 n2 hu
  refine aW Tryz.func7 (fun c hc=>?_)
  cases hx:(gj g1 nb1 N1&&(ek N1 u.2 u.1&&decide ((u.1:Int)≥2))) with
  | true =>
    obtain ⟨hg,hx⟩:=Bool.and_eq_true_iff.1 hx
    obtain ⟨ho,hx⟩:=Bool.and_eq_true_iff.1 hx
    have cd:=cd hg
    rw [hg] at c1
    rw [ho] at cd
    rw [show rC g1 nb1 N1 u=decide (((bK (kV g1 u) nb1).1:Int)>2*(u.1:Int) - 3) by unfold rC;rw [hg,ho,hx];rfl]
    generalize bK (kV g1 u) nb1=R at *
    refine bz Tryz.func7 hc (In K g1 nb1 N1 g nb N pl np w v u R) ?_
    and_intros
    all_goals (first | exact zI | (exact c1) | (exact cd) | (exact cs) | (exact hx) | (exact e1) | (exact e6) | (exact e2) | (exact e3))
  | false =>
    rw [show rC g1 nb1 N1 u=false by
      unfold rC;revert hx
      cases gj g1 nb1 N1<;>cases ek N1 u.2 u.1<;>cases decide ((u.1:Int)≥2)<;>intro hx<;>first | rfl | cases hx]
    have hn:(bif (bif gj g1 nb1 N1 then decide ((u.1:Int)≥2) else false) then ek N1 u.2 u.1 else false)=false:=by
      revert hx
      cases gj g1 nb1 N1<;>cases ek N1 u.2 u.1<;>cases decide ((u.1:Int)≥2)<;>intro hx<;>first | rfl | cases hx
    refine bz Tryz.func7 hc (Hq K g1 nb1 N1 g nb N pl np w v u (gj g1 nb1 N1) (ek N1 u.2 u.1)) ?_
    and_intros
    all_goals (first | exact zI | (exact c1) | (exact hn) | (intro h;exact cd (by revert h;cases gj g1 nb1 N1<;>intro h<;>first | rfl | cases h)) | (exact e1) | (exact e6) | (exact e2) | (exact e3) | (intro h;exact h))
end
noncomputable def DU (v:cF):Bool:=BF v.1 v.2.1.2.1.2 v.2.1.2.1.1 v.2.1.1 v.2.2.1.1.1.2.1.2 v.2.2.1.1.1.2.1.1 v.2.2.1.1.1.1 v.2.2.1.1.2.1.2 v.2.2.1.1.2.1.1 v.2.2.1.2.1 v.2.2.2.1 v.2.2.2.2.1
theorem Ds {v:cF} (hs:cP dL v):v.2.1.2.1.1≤1048576∧(v.2.2.1.1.1.2.1.1≤1048576∧v.2.2.1.1.2.1.1≤1048576)∧v.2.2.1.2.1.1≤1048576∧v.2.2.2.1.1≤1048576∧v.2.2.2.2.1.1≤1048576:=by
  obtain ⟨_,⟨_,⟨h1,_⟩,_⟩,⟨⟨⟨_,⟨h2,_⟩,_⟩,⟨h3,_⟩,_⟩,⟨h4,_⟩,_⟩,⟨h5,_⟩,⟨h6,_⟩,_⟩:=hs
  exact ⟨h1,⟨h2,h3⟩,h4,h5,h6⟩
open Go Go.Sort
theorem rp {N:Nat} {I:List (Nat×Nat)} {a b:Nat} (h:Mat.Imp N I a b):Mat.Imp N I b a:=by
  obtain ⟨R,t,h1,h2⟩:=h
  exact ⟨R,t,h2,h1⟩
theorem BJ {N:Nat} {L:List (Nat×Nat)} (hL:∀ x∈L,Mat.GoodBar N x) {a b:Nat} (h1:a≠b) (h2:a<N) (h3:b<N):Mat.rk N (L++[(a,b)])=Mat.rk N L↔Mat.rk N (L++[(b,a)])=Mat.rk N L:=by
  rw [Mat.rk_same_iff hL ⟨h1,h2,h3⟩,Mat.rk_same_iff hL ⟨Ne.symm h1,h3,h2⟩]
  exact ⟨rp,rp⟩
theorem rt {g g':Nat→aa}:∀ n,(∀ i,i<n→g i=g' i)→bL g n=bL g' n
  | 0,_=>rfl
  | n+1,h=>by rw [bL,bL,rt n (fun i hi=>h i (by omega)),h n (by omega)]
theorem Ck (g:Nat→aa) (nb:Nat) (x:aa):bL (aZ nb g x) (nb+1)=bL g nb++[bB x]:=by
  rw [bL,rt (g:=aZ nb g x) (g':=g) nb (fun i hi=>cY hi),dO (Nat.lt_irrefl _)]
theorem DM {N:Nat} {L:List (Nat×Nat)} (hL:∀ x∈L,Mat.GoodBar N x) {a b:Int} (hab:a≠b) (ha:0≤a∧a<N) (hb:0≤b∧b<N):Mat.rk N (L++[bB (aD a b)])=Mat.rk N L↔Mat.rk N (L++[(a.toNat,b.toNat)])=Mat.rk N L:=by
  by_cases h:b<a
  · have e:bB (aD a b)=(b.toNat,a.toNat):=by
      simp only [bB,aD]
      rw [if_pos h,if_neg (by omega)]
    rw [e]
    exact BJ hL (by omega) (by omega) (by omega)
  · have e:bB (aD a b)=(a.toNat,b.toNat):=by
      simp only [bB,aD]
      rw [if_neg h,if_pos (by omega)]
    rw [e]
theorem Bo {N nb:Nat} {g:Nat→aa} (hok:aO N nb g) {a b:Int} (ha:0≤a∧a<N) (hb:0≤b∧b<N) :
    gS N nb g a b=true↔a=b∨Mat.rk N (bL g nb++[(a.toNat,b.toNat)])=Mat.rk N (bL g nb):=by
  unfold gS
  by_cases h:a=b
  · simp [h]
  · have h':(a==b)=false:=beq_eq_false_iff_ne.2 h
    rw [h',cond_false,dn,dn,Ck]
    have:=DM (du hok) h ha hb
    unfold Mat.rk at this ⊢
    rw [← this]
    simp [h,Int.ofNat_inj]
def GP (C:Nat→ad):Nat→Int
  | 0=>0
  | i+1=>GP C i+2*(C i).1 - 3
noncomputable def da (N nb:Nat) (g:Nat→aa) (e p:Nat):Bool:=bif gS N nb g (g e).1 p then gS N nb g (g e).2.1 p else false
def cZ (S:ad) (p:Nat):Bool:=a0 S.2 (p:Int) S.1
theorem fg {f h:Nat→Int} {x:Int}:∀ n,(∀ s,s<n→f s=h s)→a0 f x n=a0 h x n
  | 0,_=>rfl
  | n+1,e=>by simp only [a0];rw [fg n (fun s hs=>e s (by omega)),e n (by omega)]
theorem nx (n:Nat) (f:Nat→Int) (p:Int):dI n f p n=p:=by simp [dI]
theorem jn {n:Nat} {f:Nat→Int} {p:Int} {s:Nat} (h:s<n):dI n f p s=f s:=by simp [dI,h]
theorem jU {N nb:Nat} {g:Nat→aa} {e p:Nat} (h:da N nb g e p=true):az N nb g e (p+1)=((az N nb g e p).1+1,dI (az N nb g e p).1 (az N nb g e p).2 p):=by
  unfold da at h
  simp only [az];rw [if_pos h]
theorem jG {N nb:Nat} {g:Nat→aa} {e p:Nat} (h:da N nb g e p=false):az N nb g e (p+1)=az N nb g e p:=by
  unfold da at h
  simp only [az];rw [if_neg (by simp [h])]
theorem fd (N nb:Nat) (g:Nat→aa) (e x:Nat):∀ P,cZ (az N nb g e P) x=(decide (x<P)&&da N nb g e x)
  | 0=>by simp [cZ,az,a0]
  | P+1=>by
    have ih:=fd N nb g e x P
    cases h:da N nb g e P with
    | false =>
      rw [jG h,ih]
      by_cases e':x=P
      · subst e';simp [h]
      · have:decide (x<P+1)=decide (x<P):=by simp;omega
        rw [this]
    | true =>
      rw [jU h]
      unfold cZ at ih ⊢
      show (a0 (dI _ _ _) (x:Int) (az N nb g e P).1||dI _ _ _ (az N nb g e P).1==(x:Int))=_
      rw [fg (h:=(az N nb g e P).2) _ (fun s hs=>jn hs),ih,nx]
      by_cases e':x=P
      · subst e';simp [h]
      · have e1:decide (x<P+1)=decide (x<P):=by simp;omega
        have e2:((P:Int)==(x:Int))=false:=beq_eq_false_iff_ne.2 (by omega)
        rw [e1,e2,Bool.or_false]
theorem iY (N nb:Nat) (g:Nat→aa) (e:Nat):∀ P,(az N nb g e P).1=Mat.cardR (da N nb g e) P
  | 0=>rfl
  | P+1=>by
    have ih:=iY N nb g e P
    cases h:da N nb g e P with
    | false=>rw [jG h,ih];simp [Mat.cardR,h]
    | true =>
      rw [jU h]
      show (az N nb g e P).1+1=_
      rw [ih];simp [Mat.cardR,h]
theorem mt {N nb:Nat} {g:Nat→aa} {e d:Nat}:∀ P,(∀ p,p<P→da N nb g e p=da N nb g d p)→az N nb g e P=az N nb g d P
  | 0,_=>rfl
  | P+1,h=>by
    have ih:=mt P (fun p hp=>h p (by omega))
    have h1:=h P (by omega)
    cases h2:da N nb g d P with
    | false=>rw [jG h2,jG (h1.trans h2),ih]
    | true=>rw [jU h2,jU (h1.trans h2),ih]
theorem fD {R S:Nat→Bool}:∀ n,(∀ v,v<n→R v=S v)→Mat.cardR R n=Mat.cardR S n
  | 0,_=>rfl
  | n+1,h=>by simp only [Mat.cardR];rw [fD n (fun v hv=>h v (by omega)),h n (by omega)]
theorem mN {N:Nat} {R S:Nat→Bool} (h:∀ v,v<N→R v=S v):∀ l:List (Nat×Nat),(∀ x∈l,Mat.GoodBar N x)→Mat.cnt R l=Mat.cnt S l
  | [],_=>rfl
  | x::l,hl=>by
    have hx:=hl x (by simp)
    simp only [Mat.cnt,Mat.inn]
    rw [mN h l (fun y hy=>hl y (by simp [hy])),h _ hx.2.1,h _ hx.2.2]
theorem kQ {N:Nat} {I:List (Nat×Nat)} {R S:Nat→Bool} (hI:∀ x∈I,Mat.GoodBar N x) (h:∀ v,v<N→R v=S v):Mat.Tight N I R↔Mat.Tight N I S:=by
  unfold Mat.Tight
  rw [mN h I hI,fD N h]
noncomputable def jL (N nb:Nat) (g:Nat→aa):List (Nat×Nat):=Mat.greedy N 2 3 [] (bL g nb)
theorem r5 {N nb:Nat} {g:Nat→aa} (h:aO N nb g):∀ x∈jL N nb g,Mat.GoodBar N x:=by
  intro x hx
  obtain ⟨t,h1,h2⟩:=Mat.greedy_pre N 2 3 (bL g nb) []
  unfold jL at hx
  rw [h1] at hx
  exact du h x (h2 x (by simpa using hx))
theorem CF {N nb:Nat} {g:Nat→aa}:∀ x∈jL N nb g,x∈bL g nb:=by
  intro x hx
  obtain ⟨t,h1,h2⟩:=Mat.greedy_pre N 2 3 (bL g nb) []
  unfold jL at hx
  rw [h1] at hx
  exact h2 x (by simpa using hx)
theorem mu (N nb:Nat) (g:Nat→aa):Mat.Sparse N 2 3 (jL N nb g):=Mat.greedy_sparse N 2 3 _ _ (Mat.sparse_nil N 2 3)
theorem vC {N nb:Nat} {g:Nat→aa} (hok:aO N nb g) {a b:Nat} (ha:a<N) (hb:b<N):gS N nb g (a:Int) (b:Int)=true↔a=b∨Mat.Imp N (jL N nb g) a b:=by
  rw [Bo hok (by omega) (by omega)]
  by_cases e:a=b
  · subst e;simp
  · rw [show ((a:Int).toNat)=a by omega,show ((b:Int).toNat)=b by omega,Mat.rk_same_iff (du hok) ⟨e,ha,hb⟩]
    constructor
    · rintro (h | h)
      · exact absurd (by omega) e
      · exact .inr h
    · rintro (h | h)
      · exact absurd h e
      · exact .inr h
theorem ic {N nb:Nat} {g:Nat→aa} (hok:aO N nb g) {e:Nat} (he:e<nb) :
    Mat.Tight N (jL N nb g) (da N nb g e)∧da N nb g e (g e).1.toNat=true∧da N nb g e (g e).2.1.toNat=true ∧
    ∀ S,Mat.Tight N (jL N nb g) S→S (g e).1.toNat=true→S (g e).2.1.toNat=true→∀ p,p<N→S p=true→da N nb g e p=true:=by
  have hb:=hok e he
  obtain ⟨a,ha⟩:∃ a:Nat,(g e).1=(a:Int):=⟨(g e).1.toNat,by omega⟩
  obtain ⟨b,hb'⟩:∃ b:Nat,(g e).2.1=(b:Int):=⟨(g e).2.1.toNat,by omega⟩
  have hI:=mu N nb g
  have hin:∃ R,Mat.Tight N (jL N nb g) R∧Mat.inn R (a,b)=true:=by
    have:=Mat.greedy_tight (N:=N) (bL g nb) [] (du hok) (Mat.sparse_nil N 2 3) (a,b) ((kg g _ nb).2 ⟨e,he,by simp [bB,ha,hb']⟩)
    exact this
  obtain ⟨B,b1,b2,b3⟩:=Mat.biggest (a,b) hin
  simp only [Mat.inn,Bool.and_eq_true] at b2
  have haN:a<N:=by omega
  have hbN:b<N:=by omega
  have hab:a≠b:=by omega
  have hown:∀ p,p<N→(da N nb g e p=true↔B p=true):=by
    intro p hp
    have e0:da N nb g e p=true↔(a=p∨Mat.Imp N (jL N nb g) a p)∧(b=p∨Mat.Imp N (jL N nb g) b p):=by
      rw [← vC hok haN hp,← vC hok hbN hp]
      unfold da
      rw [ha,hb']
      cases gS N nb g (a:Int) (p:Int)<;>simp
    rw [e0]
    constructor
    · rintro ⟨h1,h2⟩
      by_cases e1:a=p
      · subst e1;exact b2.1
      by_cases e2:b=p
      · subst e2;exact b2.2
      have h1:=h1.resolve_left e1
      have h2:=h2.resolve_left e2
      obtain ⟨R,t,r1,r2,r3⟩:=Mat.tight_tri hI haN hbN hp hab e1 e2 ⟨B,b1,b2.1,b2.2⟩ h1 h2
      have tu:=Mat.tight_union hI b1 t a b hab haN hbN b2.1 b2.2 r1 r2
      have hc:=b3 _ tu (by simp [Mat.inn,Mat.uni,b2.1,b2.2])
      exact Mat.card_eq B (Mat.uni B R) (fun v hv=>by simp [Mat.uni,hv]) N hc p hp (by simp [Mat.uni,r3])
    · intro h
      exact ⟨.inr ⟨B,b1,b2.1,h⟩,.inr ⟨B,b1,b2.2,h⟩⟩
  have hbe:∀ v,v<N→da N nb g e v=B v:=fun v hv=>by
    have:=hown v hv
    cases h1:da N nb g e v<;>cases h2:B v<;>simp_all
  refine ⟨(kQ (r5 hok) hbe).2 b1,?_,?_,fun S t s1 s2 p hp hs=>?_⟩
  · rw [show (g e).1.toNat=a by omega];exact (hown a haN).2 b2.1
  · rw [show (g e).2.1.toNat=b by omega];exact (hown b hbN).2 b2.2
  · rw [show (g e).1.toNat=a by omega] at s1
    rw [show (g e).2.1.toNat=b by omega] at s2
    have tu:=Mat.tight_union hI b1 t a b hab haN hbN b2.1 b2.2 s1 s2
    have hc:=b3 _ tu (by simp [Mat.inn,Mat.uni,b2.1,b2.2])
    exact (hown p hp).2 (Mat.card_eq B (Mat.uni B S) (fun v hv=>by simp [Mat.uni,hv]) N hc p hp (by simp [Mat.uni,hs]))
theorem CE {N nb:Nat} {g:Nat→aa} (hok:aO N nb g) {e d:Nat} (he:e<nb) (hd:d<nb) (h:2≤Mat.cardR (Mat.cap2 (da N nb g e) (da N nb g d)) N) :
    az N nb g e N=az N nb g d N:=by
  obtain ⟨t1,a1,b1,m1⟩:=ic hok he
  obtain ⟨t2,a2,b2,m2⟩:=ic hok hd
  have tu:=Mat.tight_union2 (mu N nb g) t1 t2 h
  refine mt N (fun p hp=>?_)
  have k1:=m1 _ tu (by simp [Mat.uni,a1]) (by simp [Mat.uni,b1]) p hp
  have k2:=m2 _ tu (by simp [Mat.uni,a2]) (by simp [Mat.uni,b2]) p hp
  simp only [Mat.uni,Bool.or_eq_true] at k1 k2
  cases h1:da N nb g e p<;>cases h2:da N nb g d p<;>simp_all
theorem wD (u:ad):bR u u=true:=by
  have:∀ n,bW u.2 u.2 n=true:=fun n=>by
    induction n with
    | zero=>rfl
    | succ n ih=>simp [bW,ih,fB]
  simp [bR,this]
theorem C7 {f h:Nat→Int}:∀ {n:Nat},bW f h n=true→∀ s,s<n→f s=h s
  | 0,_,s,hs=>absurd hs (Nat.not_lt_zero _)
  | n+1,e,s,hs=>by
    simp only [bW,Bool.and_eq_true,fB,beq_iff_eq] at e
    by_cases e':s=n
    · subst e';exact e.2
    · exact C7 e.1 s (by omega)
theorem FT {u v:ad} (h:bR u v=true):u.1=v.1∧∀ s,s<u.1→u.2 s=v.2 s:=by
  unfold bR at h
  split at h
  · exact ⟨by assumption,C7 h⟩
  · cases h
theorem pJ (C:Nat→ad) (c:ad):∀ n,w5 C c n=true↔∃ j,j<n∧bR (C j) c=true
  | 0=>by simp [w5]
  | n+1=>by
    have ih:=pJ C c n
    simp only [w5]
    constructor
    · intro h
      cases hk:w5 C c n with
      | true=>obtain ⟨j,h1,h2⟩:=ih.1 hk;exact ⟨j,by omega,h2⟩
      | false=>rw [hk,cond_false] at h;exact ⟨n,by omega,h⟩
    · rintro ⟨j,h1,h2⟩
      by_cases e:j=n
      · subst e;rw [h2];cases w5 C c j<;>rfl
      · rw [ih.2 ⟨j,by omega,h2⟩];rfl
theorem im {n:Nat} {C:Nat→ad} {c:ad} {i:Nat} (h:i<n):ce n C c i=C i:=by simp [ce,h]
theorem mF (n:Nat) (C:Nat→ad) (c:ad):ce n C c n=c:=by simp [ce]
theorem d5 (N nb:Nat) (g:Nat→aa):∀ E,(∀ j,j<(an N nb g E).1→∃ e,e<E∧(an N nb g E).2 j=az N nb g e N) ∧
    (∀ e,e<E→∃ j,j<(an N nb g E).1∧bR ((an N nb g E).2 j) (az N nb g e N)=true) ∧
    (∀ i j,j<i→i<(an N nb g E).1→bR ((an N nb g E).2 j) ((an N nb g E).2 i)=false)
  | 0=>⟨fun j hj=>absurd hj (Nat.not_lt_zero _),fun e he=>absurd he (Nat.not_lt_zero _),fun i j _ hi=>absurd hi (Nat.not_lt_zero _)⟩
  | E+1=>by
    obtain ⟨h1,h2,h3⟩:=d5 N nb g E
    simp only [an]
    by_cases hk:w5 (an N nb g E).2 (az N nb g E N) (an N nb g E).1=true
    · rw [if_pos hk]
      refine ⟨fun j hj=>?_,fun e he=>?_,h3⟩
      · obtain ⟨e,e1,e2⟩:=h1 j hj;exact ⟨e,by omega,e2⟩
      · by_cases e':e=E
        · subst e';exact (pJ _ _ _).1 hk
        · exact h2 e (by omega)
    · rw [if_neg hk]
      generalize (an N nb g E).1=n at h1 h2 h3 hk ⊢
      generalize (an N nb g E).2=C at h1 h2 h3 hk ⊢
      refine ⟨fun j hj=>?_,fun e he=>?_,fun i j hji hi=>?_⟩
      · by_cases e':j<n
        · obtain ⟨e,e1,e2⟩:=h1 j e'
          exact ⟨e,by omega,by show ce n C _ j=_;rw [im e'];exact e2⟩
        · have:j=n:=by have:j<n+1:=hj;omega
          subst this
          exact ⟨E,by omega,mF _ _ _⟩
      · by_cases e':e=E
        · subst e';exact ⟨n,Nat.lt_succ_self n,by show bR (ce n C _ n) _=true;rw [mF];exact wD _⟩
        · obtain ⟨j,j1,j2⟩:=h2 e (by omega)
          exact ⟨j,by show j<n+1;omega,by show bR (ce n C _ j) _=true;rw [im j1];exact j2⟩
      · show bR (ce n C _ j) (ce n C _ i)=false
        have hi':i<n+1:=hi
        rw [im (show j<n by omega)]
        by_cases e':i<n
        · rw [im e'];exact h3 i j hji e'
        · have:i=n:=by omega
          subst this
          rw [mF]
          cases hq:bR (C j) (az N nb g E N) with
          | false=>rfl
          | true=>exact absurd ((pJ _ _ _).2 ⟨j,hji,hq⟩) hk
theorem FK {u v:ad} (h:bR u v=true) (p:Nat):cZ u p=cZ v p:=by
  obtain ⟨h1,h2⟩:=FT h
  unfold cZ
  rw [fg u.1 h2,h1]
theorem qp {N nb:Nat} {g:Nat→aa} (hok:aO N nb g) {i j:Nat} (hji:j<i) (hi:i<(an N nb g nb).1) :
    Mat.cardR (Mat.cap2 (cZ ((an N nb g nb).2 i)) (cZ ((an N nb g nb).2 j))) N≤1:=by
  obtain ⟨h1,h2,h3⟩:=d5 N nb g nb
  obtain ⟨e,e1,e2⟩:=h1 i hi
  obtain ⟨d,d1,d2⟩:=h1 j (by omega)
  have hq:=h3 i j hji hi
  rw [e2,d2] at hq ⊢
  by_cases h:Mat.cardR (Mat.cap2 (cZ (az N nb g e N)) (cZ (az N nb g d N))) N≤1
  · exact h
  · exfalso
    have hc:Mat.cardR (Mat.cap2 (cZ (az N nb g e N)) (cZ (az N nb g d N))) N=Mat.cardR (Mat.cap2 (da N nb g e) (da N nb g d)) N :=
      fD N (fun v hv=>by simp only [Mat.cap2];rw [fd,fd];simp [hv])
    have:=CE hok e1 d1 (by omega)
    rw [this,wD] at hq
    cases hq
def pV (C:Nat→ad):Nat→List (Nat→Bool)
  | 0=>[]
  | n+1=>cZ (C n)::pV C n
theorem sq (C:Nat→ad) (x:Nat×Nat):∀ n,(∀ i j,j<i→i<n→¬ (Mat.inn (cZ (C i)) x=true∧Mat.inn (cZ (C j)) x=true)) →
    ((∃ j,j<n∧Mat.inn (cZ (C j)) x=true)→Mat.homes x (pV C n)=1)∧((∀ j,j<n→Mat.inn (cZ (C j)) x=false)→Mat.homes x (pV C n)=0)
  | 0,_=>⟨fun ⟨j,hj,_⟩=>absurd hj (Nat.not_lt_zero _),fun _=>rfl⟩
  | n+1,h=>by
    obtain ⟨i1,i2⟩:=sq C x n (fun i j hj hi=>h i j hj (by omega))
    simp only [pV,Mat.homes]
    cases hn:Mat.inn (cZ (C n)) x with
    | true =>
      have:=i2 (fun j hj=>by
        cases hj':Mat.inn (cZ (C j)) x with
        | false=>rfl
        | true=>exact absurd ⟨hn,hj'⟩ (h n j hj (by omega)))
      rw [this]
      exact ⟨fun _=>rfl,fun hh=>by have:=hh n (by omega);rw [hn] at this;cases this⟩
    | false =>
      refine ⟨fun ⟨j,hj,hx⟩=>?_,fun hh=>?_⟩
      · have:j≠n:=fun e=>by rw [e,hn] at hx;cases hx
        rw [i1 ⟨j,by omega,hx⟩];rfl
      · rw [i2 (fun j hj=>hh j (by omega))];rfl
theorem kS {N nb:Nat} {g:Nat→aa} (hok:aO N nb g):∀ x∈bL g nb,Mat.homes x (pV (an N nb g nb).2 (an N nb g nb).1)=1:=by
  intro x hx
  have hgood:=du hok x hx
  obtain ⟨e,he,hxe⟩:=(kg g x nb).1 hx
  obtain ⟨h1,h2,h3⟩:=d5 N nb g nb
  have hdis:∀ i j,j<i→i<(an N nb g nb).1→¬ (Mat.inn (cZ ((an N nb g nb).2 i)) x=true∧Mat.inn (cZ ((an N nb g nb).2 j)) x=true):=by
    intro i j hji hi ⟨a1,a2⟩
    have h:=qp hok hji hi
    simp only [Mat.inn,Bool.and_eq_true] at a1 a2
    have:=Mat.card_two (Mat.cap2 (cZ ((an N nb g nb).2 i)) (cZ ((an N nb g nb).2 j))) x.1 x.2 (by simp [Mat.cap2,a1.1,a2.1]) (by simp [Mat.cap2,a1.2,a2.2]) hgood.1 N hgood.2.1 hgood.2.2
    omega
  refine (sq _ x _ hdis).1 ?_
  obtain ⟨j,j1,j2⟩:=h2 e he
  refine ⟨j,j1,?_⟩
  obtain ⟨_,o1,o2,_⟩:=ic hok he
  have hb:=hok e he
  simp only [Mat.inn,← hxe,bB,FK j2,fd,Bool.and_eq_true,decide_eq_true_eq]
  exact ⟨⟨by omega,o1⟩,⟨by omega,o2⟩⟩
theorem tD {N nb:Nat} {g:Nat→aa} (hok:aO N nb g):GP (an N nb g nb).2 (an N nb g nb).1=((aK N 2 3 g nb).length:Int):=by
  have ht:∀ j,j<(an N nb g nb).1→Mat.Tight N (jL N nb g) (cZ ((an N nb g nb).2 j))∧((an N nb g nb).2 j).1=Mat.cardR (cZ ((an N nb g nb).2 j)) N:=by
    intro j hj
    obtain ⟨e,e1,e2⟩:=(d5 N nb g nb).1 j hj
    rw [e2]
    have hc:∀ v,v<N→cZ (az N nb g e N) v=da N nb g e v:=fun v hv=>by rw [fd];simp [hv]
    exact ⟨(kQ (r5 hok) hc).2 (ic hok e1).1,by rw [iY,fD N hc]⟩
  have h1:=Mat.cntAll_length (pV (an N nb g nb).2 (an N nb g nb).1) (jL N nb g) (fun x hx=>kS hok x (CF x hx))
  rw [dn]
  show _=((jL N nb g).length:Int)
  rw [← h1]
  generalize (an N nb g nb).1=n at ht
  generalize (an N nb g nb).2=C at ht
  clear h1
  induction n with
  | zero=>rfl
  | succ n ih =>
    have:=ih (fun j hj=>ht j (by omega))
    obtain ⟨t,c⟩:=ht n (by omega)
    unfold Mat.Tight at t
    simp only [GP,pV,Mat.cntAll]
    rw [this]
    omega
theorem sg (N:Nat) (S:Nat→ap):∀ d i (D:NB),uz N S (d+1) i D=(uz N S d i D).bind (fun E=>if (nS N E.1 E.2 (S (i+d))).2=true then some (nS N E.1 E.2 (S (i+d))).1 else none)
  | 0,i,D=>by simp only [uz];rfl
  | d+1,i,D=>by
    show (if (nS N D.1 D.2 (S i)).2=true then uz N S (d+1) (i+1) (nS N D.1 D.2 (S i)).1 else none)=(if (nS N D.1 D.2 (S i)).2=true then uz N S d (i+1) (nS N D.1 D.2 (S i)).1 else none).bind _
    by_cases h:(nS N D.1 D.2 (S i)).2=true
    · rw [if_pos h,if_pos h,sg N S d (i+1),show i+1+d=i+(d+1) by omega]
    · rw [if_neg h,if_neg h];rfl
theorem y4 {N nb:Nat} {g:Nat→aa} {s:ap} {l:List aa} (h21:nb≤21) (h:vf N nb g s=some l):nS N nb g s=(sR l,true):=by
  unfold nS
  rw [if_pos h21,h]
theorem Ct {N:Nat} {D:NB} (h:Inv N D) (h1:D.1=1) (T:Nat→ap) (hT:T 0=ec D.2):∃ E,uz N T 1 0 (0,fun _=>(0,0,()))=some E∧E.1=D.1∧al E.1 E.2=al D.1 D.2:=by
  obtain ⟨n,g⟩:=D
  have h1:n=1:=h1
  subst h1
  have hg:=h.gd (g 0) (List.mem_map.2 ⟨0,by simp,rfl⟩)
  have hN:=(aB (nb:=1) (g:=g) h.gr).1
  have e:aD (g 0).1 (g 0).2.1=g 0:=dX hg.2.1
  have hap:vf N 0 (fun _=>(0,0,())) (T 0)=some [g 0]:=by
    rw [hT]
    unfold vf ec
    rw [if_pos (show ((0:Int),(0:Int),(g 0).1,(g 0).2.1,(0:Int),()).1=0 from rfl)]
    have hok:ek (N:Int) (lO [(g 0).1,(g 0).2.1]).2 2=true:=uZ rfl (fun x hx=>by
      simp only [List.mem_cons,List.not_mem_nil,or_false] at hx
      rcases hx with e | e<;>(subst e;omega)) (by simp [List.nodup_cons];omega)
    rw [if_pos (show (((0:Nat):Int)=0∧(0:Int)=0∧(0:Int)=0)∧ek (N:Int) (lO [(g 0).1,(g 0).2.1]).2 2=true from ⟨⟨rfl,rfl,rfl⟩,hok⟩)]
    show some (bw ([]++[aD (g 0).1 (g 0).2.1]))=_
    rw [e,List.nil_append,← ik (List.Perm.refl [g 0]) (by simp)]
  refine ⟨sR [g 0],?_,rfl,?_⟩
  · simp only [uz]
    rw [y4 (by omega) hap]
    rfl
  · show al 1 (sR [g 0]).2=al 1 g
    have:=mP [g 0]
    exact this.trans rfl
theorem sF {N:Nat}:∀ m (D:NB) (S:aT),Inv N D→D.1≤2*m+1→∃ p,(nI N m D S).2=true∧(nI N m D S).1.1=p+S.1∧(∀ i,i<S.1→(nI N m D S).1.2 (p+i)=S.2 i) ∧
    ∃ E,uz N (nI N m D S).1.2 p 0 (0,fun _=>(0,0,()))=some E∧E.1=D.1∧al E.1 E.2=al D.1 D.2
  | m,D,S,h,hm=>by
    have hodd:=h.len
    have hle:=h.le
    by_cases h1:D.1=1
    · rw [AC N m D S h1]
      refine ⟨1,rfl,Nat.add_comm _ _,fun i hi=>?_,?_⟩
      · show oG S.2 (ec D.2) (1+i)=S.2 i
        rw [nE (c:=0),if_neg (by omega),show 1+i - 1=i by omega]
      · exact Ct h h1 _ (by show oG S.2 (ec D.2) 0=_;rw [nE (c:=0),if_pos (by omega)])
    · obtain ⟨n,g⟩:=D
      have hodd:n+3=2*_:=hodd
      have h1':1<n:=by
        have:n≠1:=h1
        omega
      match m,hm with
      | 0,hm=>exact absurd hm (by show ¬ n≤1;omega)
      | m+1,hm =>
        obtain ⟨u,hu⟩:=xF h h1'
        obtain ⟨hI,hn,hap⟩:=w7 h h1' hu
        rw [De (D:=(n,g)) h1' hu]
        have hm:n≤2*(m+1)+1:=hm
        obtain ⟨p,p1,p2,p3,E,E1,E2,E3⟩:=sF m u.1 (S.1+1,oG S.2 u.2) hI (by omega)
        have hp0:=p3 0 (by show 0<S.1+1;omega)
        refine ⟨p+1,p1,by rw [p2];show p+(S.1+1)=_;omega,fun i hi=>?_,?_⟩
        · have:=p3 (i+1) (by show i+1<S.1+1;omega)
          rw [show p+1+i=p+(i+1) by omega,this]
          show oG S.2 u.2 (i+1)=_
          rw [nE (c:=0),if_neg (by omega),show i+1 - 1=i by omega]
        · rw [sg,E1,Option.bind_some,Nat.zero_add]
          have hp0:(nI N m u.1 (S.1+1,oG S.2 u.2)).1.2 p=u.2:=by
            have e:oG S.2 u.2 0=u.2:=by rw [nE (c:=0),if_pos (by omega)]
            rw [← e];exact hp0
          rw [hp0]
          have hap2:=hap E.2 (by rw [← E2];rw [E3,E2])
          rw [← E2] at hap2
          have hle:n+3≤2*N:=hle
          have hN:=(aB (nb:=n) (g:=g) h.gr).1
          rw [y4 (by omega) hap2,if_pos rfl]
          refine ⟨_,rfl,?_,?_⟩
          · show (al n g).length=n
            exact aC _ _
          · show al (al n g).length (sR (al n g)).2=al n g
            exact mP (al n g)
theorem oD (S:ad) (A:Nat→aa):∀ d i (x:b5),j5 S A i (d+1) x=bif a0 S.2 ((i+d:Nat):Int) S.1 then ((j5 S A i d x).1+1,aZ (j5 S A i d x).1 (j5 S A i d x).2 (A (i+d))) else j5 S A i d x
  | 0,i,x=>by simp only [j5];rfl
  | d+1,i,x=>by
    rw [j5,oD S A d (i+1)]
    rw [show i+1+d=i+(d+1) by omega]
    rfl
theorem mv (N:Nat) (g:Nat→aa) (e:Nat):∀ n,e∈aK N 2 3 g n↔e<n∧e∈aK N 2 3 g (e+1)
  | 0=>by simp [aK]
  | n+1=>by
    have ih:=mv N g e n
    by_cases he:e=n
    · subst he;simp
    · have h1:e∈aK N 2 3 g (n+1)↔e∈aK N 2 3 g n:=by
        rw [aK]
        split
        · rw [List.mem_append,List.mem_singleton]
          constructor
          · rintro (h | h)
            · exact h
            · exact absurd h he
          · exact .inl
        · exact Iff.rfl
      rw [h1,ih]
      constructor
      · rintro ⟨a,b⟩;exact ⟨by omega,b⟩
      · rintro ⟨a,b⟩;exact ⟨by omega,b⟩
theorem nG {f:Nat→Int} {x:Int}:∀ n,a0 f x n=true↔∃ i,i<n∧f i=x
  | 0=>by simp [a0]
  | n+1=>by
    simp only [a0,Bool.or_eq_true,beq_iff_eq,nG n]
    constructor
    · rintro (⟨i,h1,h2⟩ | h)
      · exact ⟨i,by omega,h2⟩
      · exact ⟨n,by omega,h⟩
    · rintro ⟨i,h1,h2⟩
      by_cases e:i=n
      · subst e;exact .inr h2
      · exact .inl ⟨i,by omega,h2⟩
theorem BL (N nb:Nat) (g:Nat→aa) (e:Nat):a0 (ks N nb g).2 (e:Int) (ks N nb g).1=decide (e∈aK N 2 3 g nb):=by
  cases h:a0 (ks N nb g).2 (e:Int) (ks N nb g).1 with
  | true =>
    obtain ⟨i,h1,h2⟩:=(nG _).1 h
    have h1:i<(aK N 2 3 g nb).length:=h1
    have h2:(((aK N 2 3 g nb).getD i 0:Nat):Int)=(e:Int):=h2
    rw [List.getD_eq_getElem?_getD,List.getElem?_eq_getElem h1] at h2
    have h2':(((aK N 2 3 g nb)[i]:Nat):Int)=(e:Int):=by simpa using h2
    have h2:(aK N 2 3 g nb)[i]=e:=by omega
    exact (decide_eq_true (by rw [← h2];exact List.getElem_mem h1)).symm
  | false =>
    refine (decide_eq_false (fun hm=>?_)).symm
    obtain ⟨i,h1,h2⟩:=List.getElem_of_mem hm
    have:a0 (ks N nb g).2 (e:Int) (ks N nb g).1=true:=(nG _).2 ⟨i,h1,by
      show (((aK N 2 3 g nb).getD i 0:Nat):Int)=(e:Int)
      rw [List.getD_eq_getElem?_getD,List.getElem?_eq_getElem h1]
      simp [h2]⟩
    rw [this] at h;cases h
theorem gV (N nb:Nat) (g:Nat→aa):∀ d,d≤nb→al (j5 (ks N nb g) g 0 d zB).1 (j5 (ks N nb g) g 0 d zB).2=(aK N 2 3 g d).map g
  | 0,_=>rfl
  | d+1,h=>by
    have ih:=gV N nb g d (by omega)
    rw [oD,Nat.zero_add,BL]
    have h1:=mv N g d nb
    by_cases hm:d∈aK N 2 3 g nb
    · rw [decide_eq_true hm,cond_true]
      have h2:=(h1.1 hm).2
      show al ((j5 (ks N nb g) g 0 d zB).1+1) (aZ _ _ _)=_
      rw [cH,ih]
      rw [aK] at h2 ⊢
      split at h2
      · rename_i hs;rw [if_pos hs,List.map_append];rfl
      · exact absurd ((mv N g d d).1 h2).1 (by omega)
    · rw [decide_eq_false hm,cond_false,ih]
      have h2:¬ d∈aK N 2 3 g (d+1):=fun h=>hm (h1.2 ⟨by omega,h⟩)
      rw [aK] at h2 ⊢
      split
      · rename_i hs;rw [if_pos hs] at h2;exact absurd (by simp) h2
      · rfl
theorem pW (N:Nat) (g:Nat→aa):∀ n,((aK N 2 3 g n).map g).Sublist (al n g)
  | 0=>List.Sublist.refl _
  | n+1=>by
    have ih:=pW N g n
    rw [bI,aK]
    split
    · rw [List.map_append];exact ih.append (List.Sublist.refl _)
    · exact ih.trans (List.sublist_append_left _ _)
noncomputable abbrev aV (N nb:Nat) (g:Nat→aa):NB:=j5 (ks N nb g) g 0 nb zB
theorem qi (N nb:Nat) (g:Nat→aa):(aV N nb g).1=(aK N 2 3 g nb).length:=by
  have:=congrArg List.length (gV N nb g nb (Nat.le_refl _))
  rwa [aC,List.length_map] at this
theorem xS (N nb:Nat) (g:Nat→aa):bL (aV N nb g).2 (aV N nb g).1=Mat.greedy N 2 3 [] (bL g nb):=by
  rw [eP,gV N nb g nb (Nat.le_refl _),List.map_map,← jf]
  rfl
theorem mc {N nb:Nat} {g:Nat→aa} (hg:ah ((N:Int),(nb,g),())=true):ah ((N:Int),aV N nb g,())=true:=by
  obtain ⟨hN,hnb,hok⟩:=aB hg
  have hl:=gV N nb g nb (Nat.le_refl _)
  have hs:(al (aV N nb g).1 (aV N nb g).2).Sublist (al nb g):=by rw [hl];exact pW N g nb
  refine l9 (nb:=0) (g:=fun _=>(0,0,())) hN ?_ (ik (List.Perm.refl _) (List.Pairwise.sublist hs (qk hg))) (fun x hx=>sD hok x (hs.mem hx))
  have:=dc N 2 3 g nb
  rw [qi];omega
theorem DD {N:Nat} {L:List (Nat×Nat)} (hL:∀ x∈L,Mat.GoodBar N x) (hs:Mat.Sparse N 2 3 L):L.length=0∨L.length+3≤2*N:=by
  by_cases h0:L.length=0
  · exact .inl h0
  · have hc:=Mat.cnt_all (R:=fun _=>true) (L:=L) (fun x _=>rfl)
    have:=hs (fun _=>true) (by omega)
    have:=Mat.card_le (fun _=>true) N
    exact .inr (by omega)
theorem kN {N nb:Nat} {g:Nat→aa} (hg:ah ((N:Int),(nb,g),())=true):((aK N 2 3 g nb).length:Int)≤cC N:=by
  obtain ⟨hN,hnb,hok⟩:=aB hg
  rw [dn]
  obtain ⟨t,h1,h2⟩:=Mat.greedy_pre N 2 3 (bL g nb) []
  have:=DD (N:=N) (L:=Mat.greedy N 2 3 [] (bL g nb)) (fun x hx=>du hok x (h2 x (by rw [h1] at hx;simpa using hx))) (Mat.greedy_sparse N 2 3 _ _ (Mat.sparse_nil N 2 3))
  unfold cC
  split<;>omega
theorem CM {N nb:Nat} {g:Nat→aa} (hg:ah ((N:Int),(nb,g),())=true):oL ((N:Int),aV N nb g,())=(bA ((N:Int),(nb,g),())==0):=by
  have hk:=mc hg
  have hr:(aK N 2 3 (aV N nb g).2 (aV N nb g).1).length=(aV N nb g).1:=by
    rw [dn,xS]
    have hs:=Mat.greedy_sparse N 2 3 (bL g nb) [] (Mat.sparse_nil N 2 3)
    have hl:(Mat.greedy N 2 3 [] (bL g nb)).length=(aV N nb g).1:=by rw [qi,dn]
    have key:∀ (xs acc:List (Nat×Nat)),Mat.Sparse N 2 3 (acc++xs)→Mat.greedy N 2 3 acc xs=acc++xs:=by
      intro xs
      induction xs with
      | nil=>intro acc _;simp [Mat.greedy]
      | cons x xs ih =>
        intro acc h
        have e:acc++x::xs=(acc++[x])++xs:=by simp
        have h':Mat.Sparse N 2 3 (acc++[x]):=fun R hR=>by
          have h2:=h R
          rw [e,Mat.cnt_append] at h2
          have:=h2 (by omega)
          omega
        simp only [Mat.greedy]
        rw [if_pos h',ih _ (by rw [← e];exact h),← e]
    rw [key _ [] (by simpa using hs),List.nil_append,hl]
  have f1:bA ((N:Int),aV N nb g,())=cC N - ((aV N nb g).1:Int):=by
    unfold bA
    rw [if_pos hk]
    show cC N - ((aK N 2 3 (aV N nb g).2 (aV N nb g).1).length:Int)=_
    rw [hr]
  have f2:bA ((N:Int),(nb,g),())=cC N - ((aV N nb g).1:Int):=by
    unfold bA
    rw [if_pos hg,qi]
    rfl
  unfold oL
  rw [f1,f2]
  have:((aV N nb g).1:Int)==(qG ((N:Int),aV N nb g,()):Int):=by
    show (((aV N nb g).1:Int)==((aK N 2 3 (aV N nb g).2 (aV N nb g).1).length:Int))=true
    rw [hr];simp
  show (bif (cC N - ((aV N nb g).1:Int)==0) then (((aV N nb g).1:Int)==(qG ((N:Int),aV N nb g,()):Int)) else false)=_
  rw [this]
  cases (cC (N:Int) - ((aV N nb g).1:Int)==0)<;>rfl
theorem sA {N nb:Nat} {g:Nat→aa} (hg:ah ((N:Int),(nb,g),())=true) :
    ((gG 1 N nb g).2=true→DU (gG 1 N nb g).1=true)∧(1<N→(gG 1 N nb g).2=(bA ((N:Int),(nb,g),())==0)):=by
  have hk:=mc hg
  have hmr:=CM hg
  obtain ⟨hN,hnb,hok⟩:=aB hg
  have e1:gG 1 N nb g=BA 1 N (nb,g) (pN N (aV N nb g).1 (aV N nb g).2):=by unfold gG;rw [if_pos rfl]
  rw [e1]
  cases hb:(bif !oL ((N:Int),((aV N nb g).1,(aV N nb g).2),()) then true else ((aV N nb g).1:Int)==0) with
  | true =>
    have e2:pN N (aV N nb g).1 (aV N nb g).2=((0,fun _=>qn),false):=by unfold pN;rw [hb];rfl
    rw [e2,A4 rfl]
    refine ⟨fun h=>(by cases h),fun hN1=>?_⟩
    show false=_
    rw [← hmr]
    cases hm:oL ((N:Int),aV N nb g,()) with
    | false=>rfl
    | true =>
      rw [show oL ((N:Int),((aV N nb g).1,(aV N nb g).2),())=true from hm] at hb
      have h0:(aV N nb g).1=0:=by
        have:(((aV N nb g).1:Int)==0)=true:=hb
        simpa using this
      rw [hmr] at hm
      have hf:bA ((N:Int),(nb,g),())=cC N - ((aV N nb g).1:Int):=by
        unfold bA
        rw [if_pos hg,qi];rfl
      rw [hf,h0] at hm
      have hm:cC (N:Int) - ((0:Nat):Int)=0:=by simpa using hm
      unfold cC at hm
      split at hm<;>omega
  | false =>
    have e2:pN N (aV N nb g).1 (aV N nb g).2=nI N (aV N nb g).1 ((aV N nb g).1,(aV N nb g).2) (0,fun _=>qn):=by unfold pN;rw [hb];rfl
    have hm:oL ((N:Int),((aV N nb g).1,(aV N nb g).2),())=true∧(aV N nb g).1≠0:=by
      cases hm:oL ((N:Int),((aV N nb g).1,(aV N nb g).2),()) with
      | false=>rw [hm] at hb;cases hb
      | true =>
        rw [hm] at hb
        exact ⟨rfl,fun h0=>by rw [h0] at hb;simp at hb⟩
    obtain ⟨hI,hn⟩:=xY hm.1 hm.2
    obtain ⟨p,p1,p2,p3,E,E1,E2,E3⟩:=sF (aV N nb g).1 ((aV N nb g).1,(aV N nb g).2) (0,fun _=>qn) hI (by show (aV N nb g).1≤_;omega)
    rw [e2]
    generalize nI N (aV N nb g).1 ((aV N nb g).1,(aV N nb g).2) (0,fun _=>qn)=R at *
    rw [y7 p1]
    refine ⟨fun _=>?_,fun _=>?_⟩
    · show BF 1 g nb N _ _ _ _ _ _ R.1 _=true
      unfold BF
      rw [if_pos rfl]
      unfold Bf
      have hbu:yD (N:Int) R.1.1 R.1.2=some E:=by
        unfold yD
        rw [if_pos (show bC (N:Int) 1 8=true by simp [bC];omega),Int.toNat_natCast,p2]
        exact E1
      rw [hbu]
      have hiG:gj g nb (N:Int)=true:=hg
      show (gj g nb (N:Int)&&((E.1:Int)==2*(N:Int) - 3&&a8 (fun i=>tz g nb (E.2 i)) E.1))=true
      have E2:E.1=(aV N nb g).1:=E2
      have h3:((E.1:Int)==2*(N:Int) - 3)=true:=by rw [E2];simp;omega
      have h4:a8 (fun i=>tz g nb (E.2 i)) E.1=true:=(bY _ _).2 (fun i hi=>by
        have hm:E.2 i∈al E.1 E.2:=List.mem_map.2 ⟨i,List.mem_range.2 hi,rfl⟩
        rw [E3] at hm
        have hm:E.2 i∈al (aV N nb g).1 (aV N nb g).2:=hm
        rw [gV N nb g nb (Nat.le_refl _)] at hm
        obtain ⟨j,j1,j2⟩:=hY ((pW N g nb).mem hm)
        exact (qb _ _).2 ⟨j,j1,by rw [j2];exact vq _⟩)
      rw [hiG,h3,h4];rfl
    · show true=_
      rw [← hmr]
      exact hm.1.symm
theorem vB (w:Nat):∀ i,(∀ s,s<(bD w i).1→0≤(bD w i).2 s∧(bD w i).2 s<i)∧∀ s t,s<t→t<(bD w i).1→(bD w i).2 s<(bD w i).2 t
  | 0=>⟨fun s hs=>absurd hs (Nat.not_lt_zero _),fun s t _ ht=>absurd ht (Nat.not_lt_zero _)⟩
  | i+1=>by
    obtain ⟨h1,h2⟩:=vB w i
    cases hb:gl w i with
    | false =>
      rw [show bD w (i+1)=bD w i by simp only [bD];rw [if_neg (by rw [hb];simp)]]
      exact ⟨fun s hs=>by have:=h1 s hs;omega,h2⟩
    | true =>
      rw [show bD w (i+1)=((bD w i).1+1,fun s=>if s<(bD w i).1 then (bD w i).2 s else i) by simp only [bD];rw [if_pos hb]]
      refine ⟨fun s hs=>?_,fun s t hst ht=>?_⟩
      · have hs:s<(bD w i).1+1:=hs
        show 0≤(if s<(bD w i).1 then (bD w i).2 s else (i:Int))∧(if s<(bD w i).1 then (bD w i).2 s else (i:Int))<_
        by_cases e:s<(bD w i).1
        · rw [if_pos e];have:=h1 s e;omega
        · rw [if_neg e];omega
      · have ht:t<(bD w i).1+1:=ht
        show (if s<(bD w i).1 then (bD w i).2 s else (i:Int))<(if t<(bD w i).1 then (bD w i).2 t else (i:Int))
        rw [if_pos (show s<(bD w i).1 by omega)]
        by_cases e:t<(bD w i).1
        · rw [if_pos e];exact h2 s t hst e
        · rw [if_neg e];exact (h1 s (by omega)).2
theorem v7 (g:Nat→aa) (nb N k l:Nat):∀ d w,(mz g nb N k l d w).2=true→∃ i,yG g nb N k l i=true∧mz g nb N k l d w=(bD i N,true)
  | 0,w,h=>by cases h
  | d+1,w,h=>by
    rw [mz] at h ⊢
    by_cases hb:yG g nb N k l w=true
    · rw [if_pos hb];exact ⟨w,hb,rfl⟩
    · rw [if_neg hb] at h ⊢;exact v7 g nb N k l d (w+1) h
theorem ur {N nb:Nat} {g:Nat→aa} (hg:ah ((N:Int),(nb,g),())=true) :
    ((gG 3 N nb g).2=true→DU (gG 3 N nb g).1=true)∧(gG 3 N nb g).2=decide ((((bK (sZ N 2 3 g nb) nb).1:Nat):Int)>0):=by
  obtain ⟨hN,hnb,hok⟩:=aB hg
  have e1:gG 3 N nb g=BG 3 N (nb,g) (mz g nb N 2 3 (2 ^ N - 1) 1):=by
    unfold gG;rw [if_neg (by decide),if_neg (by decide),if_pos rfl]
  rw [e1]
  have hrj:(bK (sZ N 2 3 g nb) nb).1=0↔Mat.Sparse N 2 3 (bL g nb):=by
    have key:∀ n,n≤nb→(bK (sZ N 2 3 g nb) n).1+(aK N 2 3 g n).length=n:=by
      intro n
      induction n with
      | zero=>intro _;rfl
      | succ n ih =>
        intro hn
        have ih:=ih (by omega)
        have ha:=mv N g n nb
        cases hr:sZ N 2 3 g nb n with
        | true =>
          rw [mn hr]
          unfold sZ at hr
          have hm:¬ n∈aK N 2 3 g nb:=by simpa using hr
          have h2:¬ n∈aK N 2 3 g (n+1):=fun h=>hm (ha.2 ⟨by omega,h⟩)
          have:aK N 2 3 g (n+1)=aK N 2 3 g n:=by
            rw [aK] at h2 ⊢
            split
            · rename_i hs;rw [if_pos hs] at h2;exact absurd (by simp) h2
            · rfl
          rw [this]
          show (bK (sZ N 2 3 g nb) n).1+1+_=_
          omega
        | false =>
          rw [ml hr]
          unfold sZ at hr
          have hm:n∈aK N 2 3 g nb:=by simpa using hr
          have h2:=(ha.1 hm).2
          have:aK N 2 3 g (n+1)=aK N 2 3 g n++[n]:=by
            rw [aK] at h2 ⊢
            split
            · rfl
            · rename_i hs;rw [if_neg hs] at h2;exact absurd ((mv N g n n).1 h2).1 (by omega)
          rw [this,List.length_append]
          simp only [List.length_cons,List.length_nil]
          omega
    have hk:=key nb (Nat.le_refl _)
    constructor
    · intro h0
      have hl:(Mat.greedy N 2 3 [] (bL g nb)).length=(bL g nb).length:=by
        rw [← dn]
        have:(bL g nb).length=nb:=by rw [eP,List.length_map,aC]
        omega
      exact gX hl
    · intro hs
      have hl:(aK N 2 3 g nb).length=nb:=by
        rw [dn]
        obtain ⟨t,h1,h2⟩:=Mat.greedy_pre N 2 3 (bL g nb) []
        have:=Mat.rank_le (N:=N) (bL g nb) (du hok) (Mat.greedy_sparse N 2 3 (bL g nb) [] (Mat.sparse_nil N 2 3)) (fun x hx=>by
          rw [h1] at hx;exact h2 x (by simpa using hx)) (Mat.greedy_tight (bL g nb) [] (du hok) (Mat.sparse_nil N 2 3)) hs (fun x hx=>hx)
        have h3:=io N 2 3 (bL g nb) []
        have h4:(bL g nb).length=nb:=by rw [eP,List.length_map,aC]
        simp only [List.length_nil,Nat.zero_add] at h3
        omega
      omega
  have hsp:=i4 hok hN.2
  have hdec:(mz g nb N 2 3 (2 ^ N - 1) 1).2=decide ((((bK (sZ N 2 3 g nb) nb).1:Nat):Int)>0):=by
    cases ho:(mz g nb N 2 3 (2 ^ N - 1) 1).2 with
    | false=>exact (decide_eq_false (by have:=hrj.2 (hsp.1 ho);omega)).symm
    | true =>
      refine (decide_eq_true ?_).symm
      refine Classical.byContradiction fun hn=>?_
      have:=hsp.2 (hrj.1 (by omega))
      rw [this] at ho;cases ho
  cases ho:(mz g nb N 2 3 (2 ^ N - 1) 1).2 with
  | false =>
    rw [ho] at hdec
    rw [Dg ho,← hdec]
    exact ⟨fun h=>(by cases h),rfl⟩
  | true =>
    rw [ho] at hdec
    rw [CN ho,← hdec]
    refine ⟨fun _=>?_,rfl⟩
    obtain ⟨w,w1,w2⟩:=v7 g nb N 2 3 _ _ ho
    rw [w2]
    show BF 3 g nb N _ _ _ _ _ _ _ (bD w N)=true
    unfold BF
    rw [if_neg (by decide),if_neg (by decide),if_neg (by decide),if_pos rfl]
    unfold rC
    have hiG:gj g nb (N:Int)=true:=hg
    obtain ⟨a1,a2⟩:=vB w N
    have hod:ek (N:Int) (bD w N).2 (bD w N).1=true:=qB _ (fun a ha=>a1 a ha) (fun a b hab hb=>by have:=a2 a b hab hb;omega)
    have hfl:bK (kV g (bD w N)) nb=bK (pj g w) nb:=by
      have:∀ n,n≤nb→bK (kV g (bD w N)) n=bK (pj g w) n:=by
        intro n
        induction n with
        | zero=>intro _;rfl
        | succ n ih =>
          intro hn
          have hb:=hok n (by omega)
          have e:kV g (bD w N) n=pj g w n:=by
            unfold kV pj
            rw [mX,mX,decide_eq_true (show 0≤(g n).1∧(g n).1<(N:Int) by omega),decide_eq_true (show 0≤(g n).2.1∧(g n).2.1<(N:Int) by omega),Bool.true_and,Bool.true_and]
          simp only [bK,ih (by omega),e]
      exact this nb (Nat.le_refl _)
    unfold yG at w1
    by_cases h0:(((bK (pj g w) nb).1:Int)>0)
    · rw [decide_eq_true h0,cond_true,decide_eq_true_eq] at w1
      have h2:2≤(bD w N).1:=by
        have hc:=qD hok w nb (Nat.le_refl _)
        have h3:0<Mat.cnt (fun i=>gl (w:Int) i) (bL g nb):=by omega
        have h4:∃ x∈bL g nb,Mat.inn (fun i=>gl (w:Int) i) x=true:=by
          refine Classical.byContradiction fun hn=>?_
          have:∀ L:List (Nat×Nat),(∀ x∈L,Mat.inn (fun i=>gl (w:Int) i) x=false)→Mat.cnt (fun i=>gl (w:Int) i) L=0:=by
            intro L
            induction L with
            | nil=>intro _;rfl
            | cons x l ih=>intro h;simp only [Mat.cnt,ih (fun y hy=>h y (by simp [hy])),h x (by simp)];rfl
          have:=this (bL g nb) (fun x hx=>by
            cases hi:Mat.inn (fun i=>gl (w:Int) i) x with
            | false=>rfl
            | true=>exact absurd ⟨x,hx,hi⟩ hn)
          omega
        obtain ⟨x,x1,x2⟩:=h4
        have hgx:=du hok x x1
        unfold Mat.inn at x2
        rw [Bool.and_eq_true] at x2
        rw [nC]
        exact Mat.card_two _ x.1 x.2 x2.1 x2.2 hgx.1 N hgx.2.1 hgx.2.2
      rw [hiG,hod,hfl,decide_eq_true (show (((bD w N).1:Nat):Int)≥2 by omega)]
      simp only [Bool.true_and]
      exact decide_eq_true (by omega)
    · rw [decide_eq_false h0] at w1;cases w1
def FC (g:Nat→aa) (nb N:Nat) (pl:Nat→ae) (np:Nat) (v:ad) (i:Nat):St :=
  ⟨[fU g nb N pl np,eI v,.pt 3 0 0 0]++List.replicate 10 ag++[b4 g nb,.p (.int .i64 nb),.p (.int .i64 i)]++List.replicate 12 ag,[(0,EO g nb N pl np)],1⟩
theorem Ox (g:Nat→aa) (nb N:Nat) (pl:Nat→ae) (np:Nat) (v:ad) :
    zT Tryz.f19 [rg 2,rm [(2,oc [] (jB true))] 1,.dec false,rg 5,.head] [fU g nb N pl np,eI v] [0] (FC g nb N pl np v 0) =
    some (Aj,zD [(NT 0 1),zE 51 [(nV N nb g np pl),.p (.seq true 1 v.1 (c8 v))] [] (jB true),((!true)=false),(AI ((N:Int))),(AN nb),(AP nb (aF g)),(AN np),(AP np (aF pl)),(AN v.1),(AP v.1 (c8 v)),(AN 0),(AI ((nb:Int))),((0:Int)=(↑0:Int)),((([AV.p (PV.int IntKind.i64 (N:Int)),b4 g nb,sY pl np].length):Nat)=3),(NL 1 1)] [0,1,2,0,3,4,5,6,7,8,9,10,4,5,11,12,13,14,14,3,4,5,6,7]):=by kernel_rfl
theorem Mc (g:Nat→aa) (nb N:Nat) (pl:Nat→ae) (np:Nat) (v:ad) (i:Nat) :
    zM 0 [rg 1,.dec true,rg 4,rm [(6,oc [] (jI 0))] 1,.dec false,rg 2,.head] Aj (FC g nb N pl np v i) [0] 1 (FC g nb N pl np v (i+1)) =
    some (Aj,zD [((decide ((i:Int)<(nb:Int)))=true),(IL 0 (i:Int)),(IT (i:Int) (nb:Int)),(NT 0 1),((true=true)→(AN 1)),zE 52 [(zW N nb g np pl),.p (.seq true 1 v.1 (c8 v)),jI ((g i).1),jI ((g i).2.1)] [] (jI 0),((0 != 0)=false),(ax ((i:Int)+1)),(au ((i:Int)+1)),(AI ((N:Int))),(AN nb),(AP nb (aF g)),(AN np),(AP np (aF pl)),(AN v.1),(AP v.1 (c8 v)),(AN 0),(AI ((nb:Int))),((((i:Int)+1):Int)=(↑(i+1):Int)),(AN 3),(NL 1 1)] [0,1,2,3,4,3,3,3,5,6,7,8,9,10,11,12,13,14,15,16,10,11,17,18,19,20,20,9,10,11,12,13]):=by kernel_rfl
theorem Nz (g:Nat→aa) (nb N:Nat) (pl:Nat→ae) (np:Nat) (v:ad) (i:Nat) :
    zP Tryz.f19 0 [rg 1,.dec false,rg 1] Aj (FC g nb N pl np v i) [] 1 [] (jB true) =
    some [((decide ((i:Int)<(nb:Int)))=false),(true=true)]:=by kernel_rfl
theorem pM {g:Nat→aa} {nb N:Nat} {pl:Nat→ae} {np:Nat} {v:ad} (ok:VOk g nb N pl np v) (hz:∀ i,i<nb→G2 pl v (gA g i) (gB g i)=0) :
    zE 19 [fU g nb N pl np,eI v] [] (.p (.bool true)):=by
  have hnb:=ok.hnb
  have hnp:=ok.hnp
  have hl:=ok.hl
  have hN:=ok.hN
  have c1:=d8 g nb N pl np v (by omega) (by omega)
  rw [ok.vel] at c1
  obtain ⟨_,_,hok⟩:=aB ok.gr
  refine aW Tryz.func19 (fun c hc=>?_)
  have lo:∀ d i,i+d=nb→zR c 19 Aj (FC g nb N pl np v i) (aS c [] (.p (.bool true))):=by
    intro d
    induction d with
    | zero =>
      intro i hi
      have hd:decide ((i:Int)<(nb:Int))=false:=decide_eq_false (by omega)
      refine be Tryz.func19 hc (Nz g nb N pl np v i) ?_
      and_intros
      all_goals (first | exact zN | (exact hd) | (intros;simp [af];done))
    | succ d ih =>
      intro i hi
      have hd:decide ((i:Int)<(nb:Int))=true:=decide_eq_true (by omega)
      have hb:=hok i (by omega)
      have c2:=se ok (a:=gA g i) (b:=gB g i) (by unfold gA;omega) (by unfold gB;omega)
      rw [hz i (by omega),show ((gA g i:Nat):Int)=(g i).1 by unfold gA;omega,show ((gB g i:Nat):Int)=(g i).2.1 by unfold gB;omega] at c2
      refine a9 hc (Mc g nb N pl np v i) ?_ (ih (i+1) (by omega))
      and_intros
      all_goals (first | exact zI | (exact hd) | (exact c2) | (intros;simp [af];done) | (simp;done))
  refine a9 hc (Ox g nb N pl np v) ?_ (lo nb 0 (by omega))
  and_intros
  all_goals (first | exact zN | (exact c1) | (intros;simp [af];done) | (simp;done))
theorem wa {g:Nat→aa} {nb N:Nat} {pl:Nat→ae} {np:Nat} (hf:gf g nb N pl np=true):DB g nb N pl≤(aK N 2 3 g nb).length:=by
  obtain ⟨h1,h2,h3,h4,hok,hb⟩:=e9 hf
  rw [dn]
  exact hb.rank_le (du hok) (fun k hk=>(kg _ _ _).2 ⟨k,hk,rfl⟩)
theorem Ay {g:Nat→aa} {nb N:Nat} {pl:Nat→ae} {np:Nat} (hf:gf g nb N pl np=true):∃ tv:Nat,(tv:Int)=Df pl np∧Had.Dim N (pX pl) (pY pl) tv:=by
  obtain ⟨h1,h2,h3,h4,hok,hb⟩:=e9 hf
  have hN:=(aB h1).1
  unfold Df
  by_cases ha:a8 (xQ pl) np=true
  · rw [if_pos ha]
    refine ⟨2,rfl,Had.dim_two (by omega) (fun i hi=>?_)⟩
    have:=(bY _ _).1 ha i (by omega)
    unfold xQ at this
    simp at this
    exact this
  · rw [if_neg ha]
    refine ⟨3,rfl,?_⟩
    obtain ⟨j,hj,hne⟩:∃ j,j<np∧xQ pl j=false:=by
      refine Classical.byContradiction fun hn=>ha ((bY _ _).2 (fun i hi=>?_))
      cases hs:xQ pl i with
      | true=>rfl
      | false=>exact absurd ⟨i,hi,hs⟩ hn
    refine Had.dim_three (j:=j) (by omega) ?_
    refine Classical.byContradiction fun hn=>?_
    have h1:(pl j).1=(pl 0).1:=Classical.byContradiction fun h=>hn (.inl h)
    have h2:(pl j).2.1=(pl 0).2.1:=Classical.byContradiction fun h=>hn (.inr h)
    unfold xQ at hne
    rw [h1,h2] at hne
    simp at hne
theorem pz {g:Nat→aa} {nb N:Nat} {pl:Nat→ae} {np:Nat} (hf:gf g nb N pl np=true) {tv:Nat} (ht:(tv:Int)=Df pl np):(yF g nb N pl np==0)=true↔tv+DB g nb N pl=2*N:=by
  have h1:yF g nb N pl np=2*(N:Int) - Df pl np - (DB g nb N pl:Int):=by
    unfold yF vF
    rw [if_pos hf,if_pos hf]
    rfl
  rw [h1,← ht,beq_iff_eq]
  omega
theorem sB {g:Nat→aa} {nb N:Nat} {pl:Nat→ae} {np:Nat} (hf:gf g nb N pl np=true) (hs:(yF g nb N pl np==0)=true):(bA ((N:Int),(nb,g),())==0)=true:=by
  obtain ⟨h1,h2,h3,h4,hok,hb⟩:=e9 hf
  obtain ⟨tv,ht,hd⟩:=Ay hf
  have hN:=(aB h1).1
  have h5:=(pz hf ht).1 hs
  have h6:=wa hf
  have h7:=kN h1
  have h8:bA ((N:Int),(nb,g),())=cC N - ((aK N 2 3 g nb).length:Int):=by unfold bA;rw [if_pos h1];rfl
  have h9:tv=2∨tv=3:=by
    unfold Df at ht
    split at ht<;>omega
  rw [h8,beq_iff_eq]
  unfold cC at h7 ⊢
  split at h7<;>rename_i hc
  · rw [if_pos hc];omega
  · rw [if_neg hc];omega
theorem Bb {g:Nat→aa} {nb N:Nat} {pl:Nat→ae} {np:Nat} (hf:gf g nb N pl np=true) {j:Nat} (hj:j<(kM g nb N pl).1):kw g nb N pl np (2*N,(kM g nb N pl).2 j)=true:=by
  obtain ⟨h1,h2,h3,h4,hok,hb⟩:=e9 hf
  unfold kw Bw
  rw [hf,cond_true]
  have:a8 (CP (2*N,(kM g nb N pl).2 j)) (2*N)=true:=(bY _ _).2 (fun k hk=>by
    have:=hb.mo_small hj hk
    unfold CP
    refine jV.2 ?_
    have this:-1073741824≤(kM g nb N pl).2 j k∧(kM g nb N pl).2 j k≤1073741824:=this
    show -10000000000≤(kM g nb N pl).2 j k∧(kM g nb N pl).2 j k≤10000000000
    omega)
  show (bif a8 (CP (2*N,(kM g nb N pl).2 j)) (2*N) then ((2*N:Nat):Int)==2*(N:Int) else false)=true
  rw [this,cond_true]
  simp
theorem yT {g:Nat→aa} {nb N:Nat} {pl:Nat→ae} {np:Nat} {W:Nat→Nat→Int}:∀ d i,((zF g nb N pl np W d i).2=true→∃ j,j<i+d∧(zF g nb N pl np W d i).1=(2*N,W j)∧qF g nb N pl np (2*N,W j)=false) ∧
    ((zF g nb N pl np W d i).2=false→∀ j,i≤j→j<i+d→qF g nb N pl np (2*N,W j)=true)
  | 0,i=>⟨fun h=>(by cases h),fun _ j h1 h2=>by omega⟩
  | d+1,i=>by
    obtain ⟨h1,h2⟩:=yT (g:=g) (nb:=nb) (N:=N) (pl:=pl) (np:=np) (W:=W) d (i+1)
    rw [zF]
    cases hb:qF g nb N pl np (2*N,W i) with
    | true =>
      rw [if_pos rfl]
      refine ⟨fun h=>?_,fun h j a b=>?_⟩
      · obtain ⟨j,j1,j2,j3⟩:=h1 h
        exact ⟨j,by omega,j2,j3⟩
      · by_cases e:j=i
        · rw [e];exact hb
        · exact h2 h j (by omega) (by omega)
    | false =>
      rw [if_neg Bool.false_ne_true]
      exact ⟨fun _=>⟨i,by omega,rfl,hb⟩,fun h=>(by cases h)⟩
theorem zn {g:Nat→aa} {nb N:Nat} {pl:Nat→ae} {np:Nat} (hf:gf g nb N pl np=true) :
    (qw g nb N pl np).2=!(yF g nb N pl np==0)∧((qw g nb N pl np).2=true→kw g nb N pl np (qw g nb N pl np).1=true∧qF g nb N pl np (qw g nb N pl np).1=false∧∀ i,i<nb→G2 pl (qw g nb N pl np).1 (gA g i) (gB g i)=0):=by
  obtain ⟨h1,h2,h3,h4,hok,hb⟩:=e9 hf
  obtain ⟨tv,ht,hd⟩:=Ay hf
  have hN:=(aB h1).1
  obtain ⟨f1,f2⟩:=yT (g:=g) (nb:=nb) (N:=N) (pl:=pl) (np:=np) (W:=(kM g nb N pl).2) (kM g nb N pl).1 0
  have hst:=pz hf ht
  refine ⟨?_,fun h=>?_⟩
  · cases hl:(qw g nb N pl np).2 with
    | false =>
      have hall:=f2 hl
      have:=hb.all_triv hd (fun j hj=>by
        have h5:=hall j (Nat.zero_le _) (by rw [Nat.zero_add];exact hj)
        exact Classical.byContradiction fun hn=>by
          rw [CW (show ¬ Gv N pl (2*N,(kM g nb N pl).2 j) from hn)] at h5
          cases h5)
      rw [hst.2 this];rfl
    | true =>
      obtain ⟨j,j1,j2,j3⟩:=f1 hl
      rw [Nat.zero_add] at j1
      cases hs:(yF g nb N pl np==0) with
      | false=>rfl
      | true =>
        have h5:=hb.triv_all hN.1 hd (hst.1 hs) j1
        rw [Dj (Bb hf j1) h5] at j3
        cases j3
  · obtain ⟨j,j1,j2,j3⟩:=f1 h
    rw [Nat.zero_add] at j1
    have j2:(qw g nb N pl np).1=(2*N,(kM g nb N pl).2 j):=j2
    rw [j2]
    refine ⟨Bb hf j1,j3,fun i hi=>?_⟩
    exact hb.ker j1 hi
theorem wL {C:Nat→ad} (i:Nat):∀ d,(cN C i).1≤(cN C (i+d)).1∧∀ t,t<(cN C i).1→(cN C (i+d)).2 t=(cN C i).2 t
  | 0=>⟨Nat.le_refl _,fun t _=>rfl⟩
  | d+1=>by
    obtain ⟨h1,h2⟩:=wL (C:=C) i d
    refine ⟨?_,fun t ht=>?_⟩
    · show _≤(cN C (i+d)).1+(C (i+d)).1+1;omega
    · show ms (cN C (i+d)).1 (cN C (i+d)).2 (C (i+d)).1 (C (i+d)).2 t=_
      unfold ms
      rw [if_pos (by omega),h2 t ht]
theorem vT {C:Nat→ad} {n:Nat} (hC:∀ i,i<n→∀ s,s<(C i).1→(C i).2 s≠-1) {l:Nat→Int} (hl:∀ t,t<(cN C n).1→l t=(cN C n).2 t) :
    ∀ i,i≤n→eU l (cN C i).1=i∧lq l (cN C i).1=lW∧∀ j,j<i→(gp l (cN C i).1 j).1=(C j).1∧∀ s,s<(C j).1→(gp l (cN C i).1 j).2 s=(C j).2 s
  | 0,_=>⟨rfl,rfl,fun j hj=>absurd hj (Nat.not_lt_zero _)⟩
  | i+1,hi=>by
    obtain ⟨h1,h2,h3⟩:=vT hC hl i (by omega)
    have hpre:=wL (C:=C) (i+1) (n - (i+1))
    rw [show i+1+(n - (i+1))=n by omega] at hpre
    have hlen:(cN C (i+1)).1=(cN C i).1+(C i).1+1:=rfl
    have at1:∀ s,s<(C i).1→l ((cN C i).1+s)=(C i).2 s:=fun s hs=>by
      rw [hl _ (by omega),hpre.2 _ (by omega)]
      show ms _ _ _ _ _=_
      unfold ms
      rw [if_neg (by omega),if_pos (by omega),show (cN C i).1+s - (cN C i).1=s by omega]
    have at2:l ((cN C i).1+(C i).1) = -1:=by
      rw [hl _ (by omega),hpre.2 _ (by omega)]
      show ms _ _ _ _ _=_
      unfold ms
      rw [if_neg (by omega),if_neg (by omega)]
    have key:∀ t,t≤(C i).1→eU l ((cN C i).1+t)=i∧gp l ((cN C i).1+t)=gp l (cN C i).1∧(lq l ((cN C i).1+t)).1=t∧∀ s,s<t→(lq l ((cN C i).1+t)).2 s=(C i).2 s:=by
      intro t
      induction t with
      | zero=>intro _;exact ⟨h1,rfl,by rw [Nat.add_zero,h2];rfl,fun s hs=>absurd hs (Nat.not_lt_zero _)⟩
      | succ t ih =>
        intro ht
        obtain ⟨k1,k2,k3,k4⟩:=ih (by omega)
        have hne:l ((cN C i).1+t)≠-1:=by rw [at1 t (by omega)];exact hC i (by omega) t (by omega)
        obtain ⟨a1,a2,a3⟩:=wv hne
        rw [show (cN C i).1+(t+1)=(cN C i).1+t+1 by omega]
        refine ⟨by rw [a1,k1],by rw [a3,k2],by rw [a2];show _+1=_;rw [k3],fun s hs=>?_⟩
        rw [a2]
        show (if s<(lq l ((cN C i).1+t)).1 then (lq l ((cN C i).1+t)).2 s else l ((cN C i).1+t))=_
        rw [k3]
        by_cases e:s<t
        · rw [if_pos e];exact k4 s e
        · rw [if_neg e,at1 t (by omega),show s=t by omega]
    obtain ⟨k1,k2,k3,k4⟩:=key (C i).1 (Nat.le_refl _)
    obtain ⟨a1,a2,a3⟩:=sG at2
    rw [hlen]
    refine ⟨by rw [a1,k1],a2,fun j hj=>?_⟩
    rw [a3,k1,k2]
    by_cases e:j<i
    · rw [jq e];exact h3 j e
    · rw [jC e,show j=i by omega]
      exact ⟨k3,fun s hs=>k4 s hs⟩
theorem v6 {C D:Nat→ad}:∀ n,(∀ i,i<n→(C i).1=(D i).1)→dh C n=dh D n
  | 0,_=>rfl
  | n+1,h=>by rw [dh,dh,v6 n (fun i hi=>h i (by omega)),h n (by omega)]
theorem wH (C:Nat→ad):∀ n,dh C n=GP C n
  | 0=>rfl
  | n+1=>by rw [dh,GP,wH C n]
theorem A0 {N:Int} {f h:Nat→Int}:∀ n,(∀ s,s<n→f s=h s)→ek N f n=ek N h n
  | 0,_=>rfl
  | n+1,e=>by
    simp only [ek]
    rw [A0 n (fun s hs=>e s (by omega))]
    unfold ub
    rw [e n (by omega),fg n (fun s hs=>e s (by omega))]
theorem kq (N nb:Nat) (g:Nat→aa) (e:Nat):∀ P,(∀ s,s<(az N nb g e P).1→0≤(az N nb g e P).2 s∧(az N nb g e P).2 s<P)∧∀ s t,s<t→t<(az N nb g e P).1→(az N nb g e P).2 s<(az N nb g e P).2 t
  | 0=>⟨fun s hs=>absurd hs (Nat.not_lt_zero _),fun s t _ ht=>absurd ht (Nat.not_lt_zero _)⟩
  | P+1=>by
    obtain ⟨h1,h2⟩:=kq N nb g e P
    cases h:da N nb g e P with
    | false =>
      rw [jG h]
      exact ⟨fun s hs=>by have:=h1 s hs;omega,h2⟩
    | true =>
      rw [jU h]
      refine ⟨fun s hs=>?_,fun s t hst ht=>?_⟩
      · have hs:s<(az N nb g e P).1+1:=hs
        show 0≤dI _ _ _ s∧dI _ _ _ s<_
        by_cases h':s<(az N nb g e P).1
        · rw [jn h'];have:=h1 s h';omega
        · rw [show s=(az N nb g e P).1 by omega,nx];omega
      · have ht:t<(az N nb g e P).1+1:=ht
        show dI _ _ _ s<dI _ _ _ t
        rw [jn (show s<(az N nb g e P).1 by omega)]
        by_cases h':t<(az N nb g e P).1
        · rw [jn h'];exact h2 s t hst h'
        · rw [show t=(az N nb g e P).1 by omega,nx];exact (h1 s (by omega)).2
theorem rN (C:Nat→ad) (x:Nat×Nat):∀ n,0<Mat.homes x (pV C n)→∃ j,j<n∧Mat.inn (cZ (C j)) x=true
  | 0,h=>absurd h (Nat.lt_irrefl _)
  | n+1,h=>by
    simp only [pV,Mat.homes] at h
    cases hi:Mat.inn (cZ (C n)) x with
    | true=>exact ⟨n,by omega,hi⟩
    | false =>
      rw [hi] at h
      obtain ⟨j,j1,j2⟩:=rN C x n (by simpa using h)
      exact ⟨j,by omega,j2⟩
theorem uC {N nb:Nat} {g:Nat→aa} (hg:ah ((N:Int),(nb,g),())=true) :
    ((gG 2 N nb g).2=true→DU (gG 2 N nb g).1=true)∧(gG 2 N nb g).2=!(bA ((N:Int),(nb,g),())==0):=by
  obtain ⟨hN,hnb,hok⟩:=aB hg
  have e1:gG 2 N nb g=if bA ((N:Int),(nb,g),())=0 then (iI,false) else (yc 2 N (nb,g) Ew (cN (bU ((N:Int),(nb,g),())).2 (bU ((N:Int),(nb,g),())).1),true):=by
    unfold gG;rw [if_neg (by decide),if_pos rfl]
  rw [e1]
  by_cases hf:bA ((N:Int),(nb,g),())=0
  · rw [if_pos hf]
    exact ⟨fun h=>(by cases h),by rw [hf];rfl⟩
  · rw [if_neg hf]
    refine ⟨fun _=>?_,by show true=_;rw [beq_eq_false_iff_ne.2 hf];rfl⟩
    have hG:bU ((N:Int),(nb,g),())=an N nb g nb:=by unfold bU;rw [if_pos hg];rfl
    have hrank:=tD hok
    have hhom:=kS hok
    obtain ⟨hsp,_,_⟩:=d5 N nb g nb
    rw [hG]
    generalize an N nb g nb=Q at *
    obtain ⟨n,C⟩:=Q
    simp only at hrank hhom hsp
    have hCi:∀ i,i<n→∀ s,s<(C i).1→(C i).2 s≠-1:=fun i hi s hs=>by
      obtain ⟨e,_,he⟩:=hsp i hi
      rw [he] at hs ⊢
      have:=((kq N nb g e N).1 s hs).1
      omega
    obtain ⟨r1,r2,r3⟩:=vT hCi (l:=(cN C n).2) (fun t _=>rfl) n (Nat.le_refl _)
    show BF 2 g nb N _ _ _ _ _ _ _ (cN C n)=true
    unfold BF
    rw [if_neg (by decide),if_neg (by decide),if_pos rfl]
    unfold zd yh
    have hiG:gj g nb (N:Int)=true:=hg
    rw [hiG,r1]
    generalize gp (cN C n).2 (cN C n).1=D at *
    have q1:a8 (fun i=>vz (N:Int) (D i)) n=true:=(bY _ _).2 (fun i hi=>by
      obtain ⟨d1,d2⟩:=r3 i hi
      obtain ⟨e,he,hce⟩:=hsp i hi
      obtain ⟨a1,a2⟩:=kq N nb g e N
      obtain ⟨_,o1,o2,_⟩:=ic hok he
      have hb:=hok e he
      have hcard:=iY N nb g e N
      have h2:2≤Mat.cardR (da N nb g e) N:=Mat.card_two _ _ _ o1 o2 (by omega) N (by omega) (by omega)
      rw [← hcard,← hce] at h2
      rw [← hce] at a1 a2
      unfold vz
      rw [d1,decide_eq_false (show ¬ (((C i).1:Nat):Int)<2 by omega),cond_false,A0 _ d2]
      exact qB _ (fun a ha=>a1 a ha) (fun a b hab hb=>by have:=a2 a b hab hb;omega))
    have q2:ly g nb n D=true:=(bY _ _).2 (fun e he=>by
      have hx:bB (g e)∈bL g nb:=(kg _ _ _).2 ⟨e,he,rfl⟩
      obtain ⟨j,j1,j2⟩:=rN C (bB (g e)) n (by rw [hhom _ hx];omega)
      obtain ⟨d1,d2⟩:=r3 j j1
      have hb:=hok e he
      unfold Mat.inn cZ at j2
      rw [Bool.and_eq_true] at j2
      refine (qb _ _).2 ⟨j,j1,?_⟩
      show (a0 (D j).2 (g e).1 (D j).1&&a0 (D j).2 (g e).2.1 (D j).1)=true
      rw [d1,fg _ d2,fg _ d2]
      have e1:(((bB (g e)).1:Nat):Int)=(g e).1:=by show (((g e).1.toNat:Nat):Int)=_;omega
      have e2:(((bB (g e)).2:Nat):Int)=(g e).2.1:=by show (((g e).2.1.toNat:Nat):Int)=_;omega
      rw [e1,e2] at j2
      rw [j2.1,j2.2];rfl)
    have q3:decide (dh D n<max 0 (2*(N:Int) - 3))=true:=decide_eq_true (by
      rw [v6 (D:=C) n (fun i hi=>(r3 i hi).1),wH,hrank]
      have h1:=kN hg
      have h2:bA ((N:Int),(nb,g),())=cC N - ((aK N 2 3 g nb).length:Int):=by unfold bA;rw [if_pos hg];rfl
      rw [h2] at hf
      unfold cC at h1 hf
      split at h1<;>rename_i hc
      · rw [if_pos hc] at hf;omega
      · rw [if_neg hc] at hf;omega)
    show (true&&(a8 (fun i=>vz (N:Int) (D i)) n&&(ly g nb n D&&decide (dh D n<max 0 (2*(N:Int) - 3)))))=true
    rw [q1,q2,q3]
    rfl
theorem yO (N:Nat):∀ m (D:NB) (S:aT),(nI N m D S).1.1≤S.1+m+1
  | 0,D,S=>by rw [nI];exact Nat.le_refl _
  | m+1,D,S=>by
    rw [nI]
    split
    · split
      · exact Nat.zero_le _
      · rename_i u _
        have:=yO N m u.1 (S.1+1,oG S.2 u.2)
        have e:((S.1+1,oG S.2 u.2):aT).1=S.1+1:=rfl
        omega
    · show S.1+1≤_
      omega
theorem z6 (N nb:Nat) (g:Nat→aa):(pN N nb g).1.1≤nb+1:=by
  unfold pN
  cases (bif !oL ((N:Int),(nb,g),()) then true else (nb:Int)==0) with
  | true=>exact Nat.zero_le _
  | false =>
    have:=yO N nb (nb,g) (0,fun _=>qn)
    simp only [cond_false]
    have e:((0,fun _=>qn):aT).1=0:=rfl
    omega
theorem zk (g:Nat→aa) (nb N k l:Nat):∀ d w,(mz g nb N k l d w).1.1≤N
  | 0,w=>Nat.zero_le _
  | d+1,w=>by
    rw [mz]
    split
    · exact rz w N
    · exact zk g nb N k l d (w+1)
theorem pU (K N:Int) {G:b5} {S:aT} {I:ad} (hG:G.1≤1048576) (hS:S.1≤1048576) (hI:I.1≤1048576):cP dL (yc K N G S I):=by
  simp only [yc,cP,j0,dL,JC,IY,Ee]
  refine ⟨trivial,⟨trivial,⟨hG,fun i hi=>?_⟩,trivial⟩,⟨⟨⟨trivial,⟨Nat.zero_le _,fun i hi=>?_⟩,trivial⟩,⟨Nat.zero_le _,fun i hi=>?_⟩,trivial⟩,⟨Nat.zero_le _,fun i hi=>?_⟩,trivial⟩,⟨hS,fun i hi=>?_⟩,⟨hI,fun i hi=>?_⟩,trivial⟩<;>simp [cP,j0]
theorem vn (K:Int) {v:ai} (hs:cP a6 v):cP dL (xU K v).1:=by
  have z:cP dL iI:=pU 0 0 (Nat.zero_le _) (Nat.zero_le _) (Nat.zero_le _)
  unfold xU
  cases hg:ah v with
  | false=>exact z
  | true =>
    obtain ⟨N,nb,g,rfl⟩:=bM v hg
    obtain ⟨hN,hnb,hok⟩:=aB hg
    have hnb':nb≤1048576:=by omega
    show cP dL (gG K N nb g).1
    have hS:∀ (R:aT×Bool),R.1.1≤1048576→cP dL (BA K N (nb,g) R).1:=fun R h=>by
      unfold BA;split
      · exact pU K N hnb' h (Nat.zero_le _)
      · exact z
    have hI:∀ (R:ad×Bool),R.1.1≤1048576→cP dL (BG K N (nb,g) R).1:=fun R h=>by
      unfold BG;split
      · exact pU K N hnb' (Nat.zero_le _) h
      · exact z
    unfold gG
    split
    · refine hS _ ?_
      have h1:=z6 N (j5 (ks N nb g) g 0 nb zB).1 (j5 (ks N nb g) g 0 nb zB).2
      have h2:=tE (ks N nb g) g nb 0 zB
      have:zB.1=0:=rfl
      omega
    · split
      · split
        · exact z
        · refine pU K N hnb' (Nat.zero_le _) ?_
          obtain ⟨p1,p2⟩:=ox ((N:Int),(nb,g),())
          have:=vi (Nat.le_refl 8) _ p2
          omega
      · split
        · refine hI _ ?_
          have:=zk g nb N 2 3 (2 ^ N - 1) 1
          omega
        · split
          · refine hS _ ?_
            have:=z6 N nb g
            omega
          · exact z
end Go.Proofs.YtbdgmpfdlgnkkaaGreat.Mach
